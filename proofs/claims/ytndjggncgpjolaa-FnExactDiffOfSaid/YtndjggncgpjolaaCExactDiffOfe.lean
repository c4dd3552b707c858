/- It is proved here that the law FnExactDiffOf of the given program holds whatever it is handed: the walks through the code, the plain laws and the row, in this order.
   Conditions: none. -/
import Derived.Below
import Derived.ChangeArms
import Derived.ChangeOld
import Derived.ChangeSlices
import Derived.DataReads
import Derived.Deep.Quiet
import Derived.KernelRfl
import Derived.Laws.Build
import Derived.Laws.IdiomStrings
import Derived.Laws.OwnMore
import Derived.Laws.Slices
import Derived.Laws.StructEq
import Derived.OpenShut
import Derived.ProofKit
import Derived.Shelf.Slices.Cells
import Derived.Shelf.Slices.CompactS
import Derived.Shelf.Slices.In.SortNone
import Derived.Shelf.Small.Bits
import Derived.Shelf.Sort.Plain
import Derived.Shelf.Strconv.Itoa0
import Derived.ShutString
import Derived.SizedLaws
import Derived.StillTail
import Derived.Test.YtndjggncgpjolaaProg
import Derived.Test.YtndjggncgpjolaaRows
import Derived.WalkKit
import Derived.Test.YtndjggncgpjolaaCExactDiffOfa
import Derived.Test.YtndjggncgpjolaaCExactDiffOfb
import Derived.Test.YtndjggncgpjolaaCExactDiffOfc
import Derived.Test.YtndjggncgpjolaaCExactDiffOfd
namespace Go.Proofs.Ytndjggncgpjolaa
open Go.RowKit
set_option linter.unusedVariables false
def impl_DiffOf.E (a : List Feat) (b : List Feat) (Q : List Change → Prop) : Prop :=
  impl_SheetOk.E a (fun r => (if !r then Q ([] : List Change) else impl_SheetOk.E b (fun r2 => (if !r2 then Q ([] : List Change) else impl_names.E ([a, b] : List (List Feat)) (fun r3 => (∃ (I111 : (List Change) → Int → Prop) (mu112 : (List Change) → Int → Nat), I111 ([] : List Change) 0 ∧ ∀ (xs2 : List Change) (v2 : Int), I111 xs2 v2 → (if decide (v2 < (r3.length : Int)) then ((0 : Int) ≤ v2 ∧ v2 < (r3.length : Int)) ∧ impl_side.E a (nth r3 v2) (fun r4 r5 => impl_side.E b (nth r3 v2) (fun r6 r7 => impl_Change_same.E (⟨(nth r3 v2), r5, r4, r7, r6⟩ : Change) (fun r8 => (if !r8 then (xs2.length + ([(⟨(nth r3 v2), r5, r4, r7, r6⟩ : Change)] : List Change).length ≤ 268435456) ∧ (I64 (v2 + 1)) ∧ I111 (xs2 ++ ([(⟨(nth r3 v2), r5, r4, r7, r6⟩ : Change)] : List Change)) (v2 + 1) ∧ mu112 (xs2 ++ ([(⟨(nth r3 v2), r5, r4, r7, r6⟩ : Change)] : List Change)) (v2 + 1) < mu112 xs2 v2 else (I64 (v2 + 1)) ∧ I111 xs2 (v2 + 1) ∧ mu112 xs2 (v2 + 1) < mu112 xs2 v2)))) else Q xs2)))))))
set_option maxHeartbeats 8000000 in
set_option maxRecDepth 100000 in
theorem impl_DiffOf.calls {O : Ob} (w0 : World) (hO : Ok w0 O) (a : List Feat) (A1 : Option Addr) (n2 c3 : Nat) (hp4 : Sl kFeat w0 (Fr O) (.slice A1 n2 c3) a) (b : List Feat) (A6 : Option Addr) (n7 c8 : Nat) (hp9 : Sl kFeat w0 (Fr O) (.slice A6 n7 c8) b) (Q : List Change → Prop) (h : impl_DiffOf.E a b Q) :
    Ret Try.prog 28 [.slice A1 n2 c3, .slice A6 n7 c8] w0 (fun v w' => ∃ (r0 : List Change) (A0 : Option Addr) (n0 c0 : Nat) (q0 : Ob) (ra0 : List (List Value)), v = .slice A0 n0 c0 ∧ Q r0 ∧ Gr w0 w' none ∧ Ok w' ((blk (.slice A0 n0 c0) :: (q0 ++ [])) ++ O) ∧ (∀ b, some b ∈ (blk (.slice A0 n0 c0) :: (q0 ++ [])) → w0.heap.size ≤ b) ∧ Ow (Kd.cells 11) 103 w' ((blk (.slice A0 n0 c0) :: (q0 ++ [])) ++ O) (.slice A0 n0 c0) ra0 ∧ DArr dChange_103 w' q0 r0 ra0) := by
  have H : impl_SheetOk.E a (fun r => (if !r then Q ([] : List Change) else impl_SheetOk.E b (fun r2 => (if !r2 then Q ([] : List Change) else impl_names.E ([a, b] : List (List Feat)) (fun r3 => (∃ (I111 : (List Change) → Int → Prop) (mu112 : (List Change) → Int → Nat), I111 ([] : List Change) 0 ∧ ∀ (xs2 : List Change) (v2 : Int), I111 xs2 v2 → (if decide (v2 < (r3.length : Int)) then ((0 : Int) ≤ v2 ∧ v2 < (r3.length : Int)) ∧ impl_side.E a (nth r3 v2) (fun r4 r5 => impl_side.E b (nth r3 v2) (fun r6 r7 => impl_Change_same.E (⟨(nth r3 v2), r5, r4, r7, r6⟩ : Change) (fun r8 => (if !r8 then (xs2.length + ([(⟨(nth r3 v2), r5, r4, r7, r6⟩ : Change)] : List Change).length ≤ 268435456) ∧ (I64 (v2 + 1)) ∧ I111 (xs2 ++ ([(⟨(nth r3 v2), r5, r4, r7, r6⟩ : Change)] : List Change)) (v2 + 1) ∧ mu112 (xs2 ++ ([(⟨(nth r3 v2), r5, r4, r7, r6⟩ : Change)] : List Change)) (v2 + 1) < mu112 xs2 v2 else (I64 (v2 + 1)) ∧ I111 xs2 (v2 + 1) ∧ mu112 xs2 (v2 + 1) < mu112 xs2 v2)))) else Q xs2))))))) := h
  clear h
  have hc0 := Ct.init hO
  refine Ret_enter Try.func28 rfl 55 rfl [.tmp 4] rfl rfl ?_
  refine W_seq ?_
  refine W_reg ?_
  refine L_pu (P_assign (.slice none 0 0) rfl) ?_
  refine L_nil ?_
  refine W_seq ?_
  refine W_reg ?_
  have hd19 : DArr dChange_103 w0 ([] : Ob) ([] : List Change) ([] : List (List Value)) := rfl
  refine L_lit (kd := Kd.cells 11) ei43 hc0 ([] : List (List Value)) (cells := []) rfl (fun _ => by kernel_rfl) fun w11 A12 n13 c14 g15 hr16 hc17 h18 => ?_
  have hp21 : ([blk (.slice A12 n13 c14)] : Ob).Perm (blk (.slice A12 n13 c14) :: (([] : Ob) ++ [])) := (by rw [List.perm_iff_count]; intro a; (try simp only [List.count_append, List.count_cons, List.count_nil, Nat.add_zero, Nat.zero_add]); first | done | ac_rfl)
  have hc22 := hc17.perm hp21
  refine L_pu (P_assign (.slice A12 n13 c14) rfl) ?_
  refine L_nil ?_
  refine W_seq ?_
  refine W_seq ?_
  refine W_reg ?_
  refine L_pu (P_move (.slice A1 n2 c3) rfl) ?_
  refine L_call go74 [.slice A1 n2 c3] rfl ((impl_SheetOk.calls w11 hc22.ok a A1 n2 c3 (hp4.st hc22.st) _ H).mono ?_)
  rintro _ w23 ⟨r, rfl, H, g24⟩
  have hc28 := hc22.k0 g24
  refine L_pu (P_not r rfl) ?_
  refine L_pu (P_move (vb (!r)) rfl) ?_
  rcases bool_or (!r) with hq29 | hq29
  · have H := ite_t H hq29
    refine L_pass (dj := 13) rfl rfl (.inl (by exact congrArg Value.bool hq29)) ?_
    refine L_pass (dj := 13) rfl rfl (.inl (by exact congrArg Value.bool hq29)) ?_
    refine L_pass (dj := 13) rfl rfl (.inl (by exact congrArg Value.bool hq29)) ?_
    refine L_pu (P_pick true (vb true) (by exact congrArg Value.bool hq29) rfl) ?_
    refine L_nil ?_
    refine W_ct (b := true) rfl rfl ?_
    refine W_seq ?_
    refine W_reg ?_
    refine L_pu (P_move (.slice A12 n13 c14) rfl) ?_
    refine L_pu (P_assign (.slice A12 n13 c14) rfl) ?_
    refine L_nil ?_
    refine W_ret ?_
    have h30 := ((Ow.sp (L := [blk (.slice A12 n13 c14)]) (O := O) h18 hp21).sn g24)
    have hd31 := ((hd19.k0 g15).k0 g24)
    exact ⟨[.slice A12 n13 c14], ⟨_, rfl, rfl⟩, ([] : List Change), A12, n13, c14, ([] : Ob), ([] : List (List Value)), rfl, H, hc28.gr.g0, hc28.ok, hc28.ge, h30, hd31⟩
  · have H := ite_f H hq29
    refine L_run (dj := 13) rfl rfl (by exact congrArg Value.bool hq29) ?_
    refine L_pu (P_move (.slice A6 n7 c8) rfl) ?_
    refine L_run (dj := 13) rfl rfl (by exact congrArg Value.bool hq29) ?_
    refine L_call go74 [.slice A6 n7 c8] rfl ((impl_SheetOk.calls w23 hc28.ok b A6 n7 c8 (hp9.st hc28.st) _ H).mono ?_)
    rintro _ w32 ⟨r2, rfl, H, g33⟩
    have hc37 := hc28.k0 g33
    refine L_run (dj := 13) rfl rfl (by exact congrArg Value.bool hq29) ?_
    refine L_pu (P_not r2 rfl) ?_
    refine L_pu (P_pick false (vb (!r2)) (by exact congrArg Value.bool hq29) rfl) ?_
    refine L_nil ?_
    refine W_cond (!r2) rfl (fun hq38 => ?_) (fun hq38 => ?_)
    · have H := ite_t H hq38
      refine W_seq ?_
      refine W_reg ?_
      refine L_pu (P_move (.slice A12 n13 c14) rfl) ?_
      refine L_pu (P_assign (.slice A12 n13 c14) rfl) ?_
      refine L_nil ?_
      refine W_ret ?_
      have h39 := (((Ow.sp (L := [blk (.slice A12 n13 c14)]) (O := O) h18 hp21).sn g24).sn g33)
      have hd40 := (((hd19.k0 g15).k0 g24).k0 g33)
      exact ⟨[.slice A12 n13 c14], ⟨_, rfl, rfl⟩, ([] : List Change), A12, n13, c14, ([] : Ob), ([] : List (List Value)), rfl, H, hc37.gr.g0, hc37.ok, hc37.ge, h39, hd40⟩
    · have H := ite_f H hq38
      refine W_skip ?_
      refine W_seq ?_
      refine W_seq ?_
      refine W_reg ?_
      refine L_pu (P_move (.slice A1 n2 c3) rfl) ?_
      refine L_pu (P_move (.slice A6 n7 c8) rfl) ?_
      refine L_lit (kd := (Kd.sl kFeat)) ei156 hc37 ([a, b] : List (List Feat)) (cells := [.slice A1 n2 c3, .slice A6 n7 c8]) ⟨[.slice A1 n2 c3], _, rfl, ⟨_, rfl, (hp4.st hc37.st)⟩, ⟨[.slice A6 n7 c8], _, rfl, ⟨_, rfl, (hp9.st hc37.st)⟩, rfl⟩⟩ (fun _ => by kernel_rfl) fun w41 A42 n43 c44 g45 hr46 hc47 h48 => ?_
      have h50 := Ow.gv (L := (blk (.slice A42 n43 c44) :: blk (.slice A12 n13 c14) :: (([] : Ob) ++ []))) (O := O) h48 hc47 (i := 0) rfl
      have hc51 := hc47.drop 0 rfl
      refine L_call go75 [.slice A42 n43 c44] rfl ((impl_names.calls w41 hc51.ok ([a, b] : List (List Feat)) A42 n43 c44 h50 _ H).mono ?_)
      rintro _ w53 ⟨r3, A55, n56, c57, rfl, H, g54, hk61, hk62, h58⟩
      have hk64 := Ok.unl (L := (blk (.slice A42 n43 c44) :: blk (.slice A12 n13 c14) :: (([] : Ob) ++ []))) (L' := (blk (.slice A12 n13 c14) :: (([] : Ob) ++ []))) (O := O) hc47 g54 hk61 hk62
      have h65 := Ow.unl (L := (blk (.slice A42 n43 c44) :: blk (.slice A12 n13 c14) :: (([] : Ob) ++ []))) (L' := (blk (.slice A12 n13 c14) :: (([] : Ob) ++ []))) (O := O) (fun _ _ _ _ _ _ h => h) (.cons _ (.cons_cons _ (.append (.refl _) (.refl _)))) h58
      have hc63 := hc47.owns g54 hk64 hk62
      have hl66 := h65.le
      refine L_pu (P_len Try.underlying72 A55 n56 c57 h65.len rfl) ?_
      refine L_pu (P_move (vi 0) rfl) ?_
      refine L_nil ?_
      refine W_block ?_
      have hc67 := hc63.drop 1 rfl
      obtain ⟨I111, mu112, hI113, H⟩ := H
      have h115 := (Ow.sd (L := (blk (.slice A55 n56 c57) :: blk (.slice A42 n43 c44) :: blk (.slice A12 n13 c14) :: (([] : Ob) ++ []))) (O := O) (((((Ow.sp (L := [blk (.slice A12 n13 c14)]) (O := O) h18 hp21).sn g24).sn g33).so _ g45 hr46).sos g54 hk62) (i := 2) rfl (j := 1) rfl (by decide))
      have hd116 := (((((hd19.k0 g15).k0 g24).k0 g33).k0 g45).k0 g54)
      have h117 := (Ow.sd (L := (blk (.slice A55 n56 c57) :: blk (.slice A42 n43 c44) :: blk (.slice A12 n13 c14) :: (([] : Ob) ++ []))) (O := O) h65 (i := 0) rfl (j := 1) rfl (by decide))
      refine W_loop (α := (List Change) × (List (List Value)) × Ob × (Option Addr) × Nat × Nat × Int) (fun (sv__ : (List Change) × (List (List Value)) × Ob × (Option Addr) × Nat × Nat × Int) t w95 => match sv__ with | (xs2, ra102, q103, A98, n99, c100, v2) => I111 xs2 v2 ∧ Has t [(0, .slice A1 n2 c3), (1, .slice A6 n7 c8), (5, .slice A98 n99 c100), (22, .slice A55 n56 c57), (23, vi (r3.length : Int)), (24, vi v2)] ∧ Ct [] w0 w95 (blk (.slice A55 n56 c57) :: blk (.slice A98 n99 c100) :: (q103 ++ [])) O ∧ Sl kFeat w95 (Fr ((blk (.slice A55 n56 c57) :: blk (.slice A98 n99 c100) :: (q103 ++ [])) ++ O)) (.slice A1 n2 c3) a ∧ Sl kFeat w95 (Fr ((blk (.slice A55 n56 c57) :: blk (.slice A98 n99 c100) :: (q103 ++ [])) ++ O)) (.slice A6 n7 c8) b ∧ Ow (Kd.cells 11) 103 w95 ((blk (.slice A55 n56 c57) :: blk (.slice A98 n99 c100) :: (q103 ++ [])) ++ O) (.slice A98 n99 c100) ra102 ∧ DArr dChange_103 w95 q103 xs2 ra102 ∧ Ow Kd.str 9 w95 ((blk (.slice A55 n56 c57) :: blk (.slice A98 n99 c100) :: (q103 ++ [])) ++ O) (.slice A55 n56 c57) r3) (fun (sv__ : (List Change) × (List (List Value)) × Ob × (Option Addr) × Nat × Nat × Int) => match sv__ with | (xs2, _, _, _, _, _, v2) => mu112 xs2 v2) (([] : List Change), ([] : List (List Value)), ([] : Ob), A12, n13, c14, 0) ⟨hI113, ⟨rfl, rfl, rfl, rfl, rfl, rfl, trivial⟩, hc67, (hp4.st hc67.st), (hp9.st hc67.st), h115, hd116, h117⟩ ?_
      rintro ⟨xs2, ra102, q103, A98, n99, c100, v2⟩ _ w95 ⟨hI113, hh118, hc105, h106, h107, h108, hd109, h110⟩
      obtain ⟨u119, rfl⟩ := Has.ins hh118
      have H := H xs2 v2 hI113
      refine W_seq ?_
      refine W_reg ?_
      refine L_pu (P_cmp v2 (r3.length : Int) (decide (v2 < (r3.length : Int))) rfl rfl rfl) ?_
      refine L_nil ?_
      refine W_seq ?_
      refine W_cond (decide (v2 < (r3.length : Int))) rfl (fun hq120 => ?_) (fun hq120 => ?_)
      · have H := ite_t H hq120
        refine W_skip ?_
        refine W_seq ?_
        refine W_block ?_
        refine W_seq ?_
        refine W_reg ?_
        obtain ⟨hb121, H⟩ := H
        obtain ⟨ad122, cs123, hA124, hR125, hcl126⟩ := h110.get default (by decide) v2 hb121
        obtain ⟨rfl, hs128⟩ := Kd.str.op hR125
        refine L_pu (P_ia Try.underlying72 se72 A55 ad122 n56 c57 h110.len v2 rfl hA124 rfl hb121) ?_
        refine L_pu (P_ld ag9 cL (ad122.add (v2.toNat * 1)) (vs (nth r3 v2)) rfl (hcl126 0 _ rfl)) ?_
        refine L_pu (P_assign (vs (nth r3 v2)) rfl) ?_
        refine L_nil ?_
        refine W_seq ?_
        refine W_reg ?_
        refine L_pu (P_move (vs (nth r3 v2)) rfl) ?_
        refine L_pu (P_build (.agg #[vs (nth r3 v2), vb false, vs ([] : Str), vi 0, .slice none 0 0, .slice none 0 0, vb false, vs ([] : Str), vi 0, .slice none 0 0, .slice none 0 0]) (fun _ => by kernel_rfl)) ?_
        refine L_alloc [vs [], vb false, vs [], .int .i64 0, .slice none 0 0, .slice none 0 0, vb false, vs [], .int .i64 0, .slice none 0 0, .slice none 0 0] ze103 fun w129 b130 hl132 hu133 g131 hx134 => ?_
        have hc136 := hc105.own g131 (some b130) (oglt hl132 hu133)
        refine L_stb b130 0 [vs ([] : Str), vb false, vs ([] : Str), vi 0, .slice none 0 0, .slice none 0 0, vb false, vs ([] : Str), vi 0, .slice none 0 0, .slice none 0 0] [vs (nth r3 v2), vb false, vs ([] : Str), vi 0, .slice none 0 0, .slice none 0 0, vb false, vs ([] : Str), vi 0, .slice none 0 0, .slice none 0 0] [vs (nth r3 v2), vb false, vs ([] : Str), vi 0, .slice none 0 0, .slice none 0 0, vb false, vs ([] : Str), vi 0, .slice none 0 0, .slice none 0 0] rfl hx134 rfl sz103 rfl rfl rfl fun w137 g138 hx139 => ?_
        have hc140 := hc136.wr 0 rfl g138
        refine L_nil ?_
        refine W_seq ?_
        refine W_reg ?_
        refine L_pu (P_move (.slice A1 n2 c3) rfl) ?_
        refine L_pu (P_move (vs (nth r3 v2)) rfl) ?_
        have h141 := ((h106.st (.own _ _ g131 (oge hl132))).st (.wl (L := (some b130 :: blk (.slice A55 n56 c57) :: blk (.slice A98 n99 c100) :: (q103 ++ []))) (O := O) (j := 0) rfl g138))
        refine L_call go76 [.slice A1 n2 c3, vs (nth r3 v2)] rfl ((impl_side.calls w137 hc140.ok a A1 n2 c3 h141 (nth r3 v2) hs128 _ H).mono ?_)
        rintro _ w142 ⟨r4, r5, A145, n146, c147, A150, n151, c152, rfl, H, g143, hk156, hk157, hs144, h148, h153⟩
        have hc158 := hc140.owns g143 hk156 hk157
        refine L_pu (P_move (.tuple #[.agg #[vs r4.Id, vi r4.Shape.Kind, .slice A145 n146 c147, .slice A150 n151 c152], vb r5]) rfl) ?_
        refine L_pu (P_ext [.agg #[vs r4.Id, vi r4.Shape.Kind, .slice A145 n146 c147, .slice A150 n151 c152], vb r5] 0 (.agg #[vs r4.Id, vi r4.Shape.Kind, .slice A145 n146 c147, .slice A150 n151 c152]) rfl rfl) ?_
        refine L_pu (P_ext [.agg #[vs r4.Id, vi r4.Shape.Kind, .slice A145 n146 c147, .slice A150 n151 c152], vb r5] 1 (vb r5) rfl rfl) ?_
        refine L_pu (P_fa fa103_2 ⟨b130, 0, none⟩ ⟨b130, 2, none⟩ rfl rfl) ?_
        have h162 := (hx139.k0 g143)
        refine L_stb b130 2 [vs (nth r3 v2), vb false, vs ([] : Str), vi 0, .slice none 0 0, .slice none 0 0, vb false, vs ([] : Str), vi 0, .slice none 0 0, .slice none 0 0] [vs r4.Id, vi r4.Shape.Kind, .slice A145 n146 c147, .slice A150 n151 c152] [vs (nth r3 v2), vb false, vs r4.Id, vi r4.Shape.Kind, .slice A145 n146 c147, .slice A150 n151 c152, vb false, vs ([] : Str), vi 0, .slice none 0 0, .slice none 0 0] rfl h162 rfl sz71 rfl rfl rfl fun w159 g160 hx161 => ?_
        have hc163 := hc158.wr 2 rfl g160
        refine L_pu (P_fa fa103_1 ⟨b130, 0, none⟩ ⟨b130, 1, none⟩ rfl rfl) ?_
        refine L_stb b130 1 [vs (nth r3 v2), vb false, vs r4.Id, vi r4.Shape.Kind, .slice A145 n146 c147, .slice A150 n151 c152, vb false, vs ([] : Str), vi 0, .slice none 0 0, .slice none 0 0] [vb r5] [vs (nth r3 v2), vb r5, vs r4.Id, vi r4.Shape.Kind, .slice A145 n146 c147, .slice A150 n151 c152, vb false, vs ([] : Str), vi 0, .slice none 0 0, .slice none 0 0] rfl hx161 rfl sz4 rfl rfl rfl fun w164 g165 hx166 => ?_
        have hc167 := hc163.wr 2 rfl g165
        refine L_nil ?_
        refine W_seq ?_
        refine W_reg ?_
        refine L_pu (P_move (.slice A6 n7 c8) rfl) ?_
        refine L_pu (P_move (vs (nth r3 v2)) rfl) ?_
        have h168 := (((((h107.st (.own _ _ g131 (oge hl132))).st (.wl (L := (some b130 :: blk (.slice A55 n56 c57) :: blk (.slice A98 n99 c100) :: (q103 ++ []))) (O := O) (j := 0) rfl g138)).st (.owns _ g143 hk157)).st (.wl (L := (blk (.slice A145 n146 c147) :: blk (.slice A150 n151 c152) :: some b130 :: blk (.slice A55 n56 c57) :: blk (.slice A98 n99 c100) :: (q103 ++ []))) (O := O) (j := 2) rfl g160)).st (.wl (L := (blk (.slice A145 n146 c147) :: blk (.slice A150 n151 c152) :: some b130 :: blk (.slice A55 n56 c57) :: blk (.slice A98 n99 c100) :: (q103 ++ []))) (O := O) (j := 2) rfl g165))
        refine L_call go76 [.slice A6 n7 c8, vs (nth r3 v2)] rfl ((impl_side.calls w164 hc167.ok b A6 n7 c8 h168 (nth r3 v2) hs128 _ H).mono ?_)
        rintro _ w169 ⟨r6, r7, A172, n173, c174, A177, n178, c179, rfl, H, g170, hk183, hk184, hs171, h175, h180⟩
        have hc185 := hc167.owns g170 hk183 hk184
        refine L_pu (P_move (.tuple #[.agg #[vs r6.Id, vi r6.Shape.Kind, .slice A172 n173 c174, .slice A177 n178 c179], vb r7]) rfl) ?_
        refine L_pu (P_ext [.agg #[vs r6.Id, vi r6.Shape.Kind, .slice A172 n173 c174, .slice A177 n178 c179], vb r7] 0 (.agg #[vs r6.Id, vi r6.Shape.Kind, .slice A172 n173 c174, .slice A177 n178 c179]) rfl rfl) ?_
        refine L_pu (P_ext [.agg #[vs r6.Id, vi r6.Shape.Kind, .slice A172 n173 c174, .slice A177 n178 c179], vb r7] 1 (vb r7) rfl rfl) ?_
        refine L_pu (P_fa fa103_4 ⟨b130, 0, none⟩ ⟨b130, 7, none⟩ rfl rfl) ?_
        have h189 := (hx166.k0 g170)
        refine L_stb b130 7 [vs (nth r3 v2), vb r5, vs r4.Id, vi r4.Shape.Kind, .slice A145 n146 c147, .slice A150 n151 c152, vb false, vs ([] : Str), vi 0, .slice none 0 0, .slice none 0 0] [vs r6.Id, vi r6.Shape.Kind, .slice A172 n173 c174, .slice A177 n178 c179] [vs (nth r3 v2), vb r5, vs r4.Id, vi r4.Shape.Kind, .slice A145 n146 c147, .slice A150 n151 c152, vb false, vs r6.Id, vi r6.Shape.Kind, .slice A172 n173 c174, .slice A177 n178 c179] rfl h189 rfl sz71 rfl rfl rfl fun w186 g187 hx188 => ?_
        have hc190 := hc185.wr 4 rfl g187
        refine L_pu (P_fa fa103_3 ⟨b130, 0, none⟩ ⟨b130, 6, none⟩ rfl rfl) ?_
        refine L_stb b130 6 [vs (nth r3 v2), vb r5, vs r4.Id, vi r4.Shape.Kind, .slice A145 n146 c147, .slice A150 n151 c152, vb false, vs r6.Id, vi r6.Shape.Kind, .slice A172 n173 c174, .slice A177 n178 c179] [vb r7] [vs (nth r3 v2), vb r5, vs r4.Id, vi r4.Shape.Kind, .slice A145 n146 c147, .slice A150 n151 c152, vb r7, vs r6.Id, vi r6.Shape.Kind, .slice A172 n173 c174, .slice A177 n178 c179] rfl hx188 rfl sz4 rfl rfl rfl fun w191 g192 hx193 => ?_
        have hc194 := hc190.wr 4 rfl g192
        refine L_nil ?_
        refine W_seq ?_
        refine W_reg ?_
        refine L_pu (P_lda ag103 sz103 cL ⟨b130, 0, none⟩ [vs (nth r3 v2), vb r5, vs r4.Id, vi r4.Shape.Kind, .slice A145 n146 c147, .slice A150 n151 c152, vb r7, vs r6.Id, vi r6.Shape.Kind, .slice A172 n173 c174, .slice A177 n178 c179] rfl rfl (hx193.cells (off := 0) rfl)) ?_
        have h195 := (Ow.sw (L := (blk (.slice A172 n173 c174) :: blk (.slice A177 n178 c179) :: blk (.slice A145 n146 c147) :: blk (.slice A150 n151 c152) :: some b130 :: blk (.slice A55 n56 c57) :: blk (.slice A98 n99 c100) :: (q103 ++ []))) (O := O) (Ow.sw (L := (blk (.slice A172 n173 c174) :: blk (.slice A177 n178 c179) :: blk (.slice A145 n146 c147) :: blk (.slice A150 n151 c152) :: some b130 :: blk (.slice A55 n56 c57) :: blk (.slice A98 n99 c100) :: (q103 ++ []))) (O := O) ((Ow.sw (L := (blk (.slice A145 n146 c147) :: blk (.slice A150 n151 c152) :: some b130 :: blk (.slice A55 n56 c57) :: blk (.slice A98 n99 c100) :: (q103 ++ []))) (O := O) (Ow.sw (L := (blk (.slice A145 n146 c147) :: blk (.slice A150 n151 c152) :: some b130 :: blk (.slice A55 n56 c57) :: blk (.slice A98 n99 c100) :: (q103 ++ []))) (O := O) h148 hc158 (i := 0) rfl (j := 2) rfl (by decide) g160) hc163 (i := 0) rfl (j := 2) rfl (by decide) g165).sos g170 hk184) hc185 (i := 2) rfl (j := 4) rfl (by decide) g187) hc190 (i := 2) rfl (j := 4) rfl (by decide) g192)
        have h196 := Ow.gv (L := (blk (.slice A172 n173 c174) :: blk (.slice A177 n178 c179) :: blk (.slice A145 n146 c147) :: blk (.slice A150 n151 c152) :: some b130 :: blk (.slice A55 n56 c57) :: blk (.slice A98 n99 c100) :: (q103 ++ []))) (O := O) h195 hc194 (i := 2) rfl
        have hc197 := hc194.drop 2 rfl
        have h199 := (Ow.sd (L := (blk (.slice A172 n173 c174) :: blk (.slice A177 n178 c179) :: blk (.slice A145 n146 c147) :: blk (.slice A150 n151 c152) :: some b130 :: blk (.slice A55 n56 c57) :: blk (.slice A98 n99 c100) :: (q103 ++ []))) (O := O) (Ow.sw (L := (blk (.slice A172 n173 c174) :: blk (.slice A177 n178 c179) :: blk (.slice A145 n146 c147) :: blk (.slice A150 n151 c152) :: some b130 :: blk (.slice A55 n56 c57) :: blk (.slice A98 n99 c100) :: (q103 ++ []))) (O := O) (Ow.sw (L := (blk (.slice A172 n173 c174) :: blk (.slice A177 n178 c179) :: blk (.slice A145 n146 c147) :: blk (.slice A150 n151 c152) :: some b130 :: blk (.slice A55 n56 c57) :: blk (.slice A98 n99 c100) :: (q103 ++ []))) (O := O) ((Ow.sw (L := (blk (.slice A145 n146 c147) :: blk (.slice A150 n151 c152) :: some b130 :: blk (.slice A55 n56 c57) :: blk (.slice A98 n99 c100) :: (q103 ++ []))) (O := O) (Ow.sw (L := (blk (.slice A145 n146 c147) :: blk (.slice A150 n151 c152) :: some b130 :: blk (.slice A55 n56 c57) :: blk (.slice A98 n99 c100) :: (q103 ++ []))) (O := O) h153 hc158 (i := 1) rfl (j := 2) rfl (by decide) g160) hc163 (i := 1) rfl (j := 2) rfl (by decide) g165).sos g170 hk184) hc185 (i := 3) rfl (j := 4) rfl (by decide) g187) hc190 (i := 3) rfl (j := 4) rfl (by decide) g192) (i := 3) rfl (j := 2) rfl (by decide))
        have h200 := Ow.gv (L := (blk (.slice A172 n173 c174) :: blk (.slice A177 n178 c179) :: blk (.slice A150 n151 c152) :: some b130 :: blk (.slice A55 n56 c57) :: blk (.slice A98 n99 c100) :: (q103 ++ []))) (O := O) h199 hc197 (i := 2) rfl
        have hc201 := hc197.drop 2 rfl
        have h203 := (Ow.sd (L := (blk (.slice A172 n173 c174) :: blk (.slice A177 n178 c179) :: blk (.slice A150 n151 c152) :: some b130 :: blk (.slice A55 n56 c57) :: blk (.slice A98 n99 c100) :: (q103 ++ []))) (O := O) (Ow.sd (L := (blk (.slice A172 n173 c174) :: blk (.slice A177 n178 c179) :: blk (.slice A145 n146 c147) :: blk (.slice A150 n151 c152) :: some b130 :: blk (.slice A55 n56 c57) :: blk (.slice A98 n99 c100) :: (q103 ++ []))) (O := O) (Ow.sw (L := (blk (.slice A172 n173 c174) :: blk (.slice A177 n178 c179) :: blk (.slice A145 n146 c147) :: blk (.slice A150 n151 c152) :: some b130 :: blk (.slice A55 n56 c57) :: blk (.slice A98 n99 c100) :: (q103 ++ []))) (O := O) (Ow.sw (L := (blk (.slice A172 n173 c174) :: blk (.slice A177 n178 c179) :: blk (.slice A145 n146 c147) :: blk (.slice A150 n151 c152) :: some b130 :: blk (.slice A55 n56 c57) :: blk (.slice A98 n99 c100) :: (q103 ++ []))) (O := O) h175 hc185 (i := 0) rfl (j := 4) rfl (by decide) g187) hc190 (i := 0) rfl (j := 4) rfl (by decide) g192) (i := 0) rfl (j := 2) rfl (by decide)) (i := 0) rfl (j := 2) rfl (by decide))
        have h204 := Ow.gv (L := (blk (.slice A172 n173 c174) :: blk (.slice A177 n178 c179) :: some b130 :: blk (.slice A55 n56 c57) :: blk (.slice A98 n99 c100) :: (q103 ++ []))) (O := O) h203 hc201 (i := 0) rfl
        have hc205 := hc201.drop 0 rfl
        have h207 := (Ow.sd (L := (blk (.slice A172 n173 c174) :: blk (.slice A177 n178 c179) :: some b130 :: blk (.slice A55 n56 c57) :: blk (.slice A98 n99 c100) :: (q103 ++ []))) (O := O) (Ow.sd (L := (blk (.slice A172 n173 c174) :: blk (.slice A177 n178 c179) :: blk (.slice A150 n151 c152) :: some b130 :: blk (.slice A55 n56 c57) :: blk (.slice A98 n99 c100) :: (q103 ++ []))) (O := O) (Ow.sd (L := (blk (.slice A172 n173 c174) :: blk (.slice A177 n178 c179) :: blk (.slice A145 n146 c147) :: blk (.slice A150 n151 c152) :: some b130 :: blk (.slice A55 n56 c57) :: blk (.slice A98 n99 c100) :: (q103 ++ []))) (O := O) (Ow.sw (L := (blk (.slice A172 n173 c174) :: blk (.slice A177 n178 c179) :: blk (.slice A145 n146 c147) :: blk (.slice A150 n151 c152) :: some b130 :: blk (.slice A55 n56 c57) :: blk (.slice A98 n99 c100) :: (q103 ++ []))) (O := O) (Ow.sw (L := (blk (.slice A172 n173 c174) :: blk (.slice A177 n178 c179) :: blk (.slice A145 n146 c147) :: blk (.slice A150 n151 c152) :: some b130 :: blk (.slice A55 n56 c57) :: blk (.slice A98 n99 c100) :: (q103 ++ []))) (O := O) h180 hc185 (i := 1) rfl (j := 4) rfl (by decide) g187) hc190 (i := 1) rfl (j := 4) rfl (by decide) g192) (i := 1) rfl (j := 2) rfl (by decide)) (i := 1) rfl (j := 2) rfl (by decide)) (i := 1) rfl (j := 0) rfl (by decide))
        have h208 := Ow.gv (L := (blk (.slice A177 n178 c179) :: some b130 :: blk (.slice A55 n56 c57) :: blk (.slice A98 n99 c100) :: (q103 ++ []))) (O := O) h207 hc205 (i := 0) rfl
        have hc209 := hc205.drop 0 rfl
        have h211 := (((h196.st (.dr _ (L := (blk (.slice A172 n173 c174) :: blk (.slice A177 n178 c179) :: blk (.slice A150 n151 c152) :: some b130 :: blk (.slice A55 n56 c57) :: blk (.slice A98 n99 c100) :: (q103 ++ []))) (O := O) (j := 2) rfl)).st (.dr _ (L := (blk (.slice A172 n173 c174) :: blk (.slice A177 n178 c179) :: some b130 :: blk (.slice A55 n56 c57) :: blk (.slice A98 n99 c100) :: (q103 ++ []))) (O := O) (j := 0) rfl)).st (.dr _ (L := (blk (.slice A177 n178 c179) :: some b130 :: blk (.slice A55 n56 c57) :: blk (.slice A98 n99 c100) :: (q103 ++ []))) (O := O) (j := 0) rfl))
        have h212 := ((h200.st (.dr _ (L := (blk (.slice A172 n173 c174) :: blk (.slice A177 n178 c179) :: some b130 :: blk (.slice A55 n56 c57) :: blk (.slice A98 n99 c100) :: (q103 ++ []))) (O := O) (j := 0) rfl)).st (.dr _ (L := (blk (.slice A177 n178 c179) :: some b130 :: blk (.slice A55 n56 c57) :: blk (.slice A98 n99 c100) :: (q103 ++ []))) (O := O) (j := 0) rfl))
        have h213 := (h204.st (.dr _ (L := (blk (.slice A177 n178 c179) :: some b130 :: blk (.slice A55 n56 c57) :: blk (.slice A98 n99 c100) :: (q103 ++ []))) (O := O) (j := 0) rfl))
        refine L_call go77 [.agg #[vs (nth r3 v2), vb r5, vs r4.Id, vi r4.Shape.Kind, .slice A145 n146 c147, .slice A150 n151 c152, vb r7, vs r6.Id, vi r6.Shape.Kind, .slice A172 n173 c174, .slice A177 n178 c179]] rfl ((impl_Change_same.calls w191 hc209.ok (⟨(nth r3 v2), r5, r4, r7, r6⟩ : Change) A145 n146 c147 A150 n151 c152 A172 n173 c174 A177 n178 c179 hs128 hs144 h211 h212 hs171 h213 h208 _ H).mono ?_)
        rintro _ w214 ⟨r8, rfl, H, g215⟩
        have hc219 := hc194.k0 g215
        refine L_pu (P_not r8 rfl) ?_
        refine L_nil ?_
        refine W_cond (!r8) rfl (fun hq220 => ?_) (fun hq220 => ?_)
        · have H := ite_t H hq220
          refine W_reg ?_
          refine L_pu (P_move (.slice A98 n99 c100) rfl) ?_
          have h221 := (hx193.k0 g215)
          refine L_pu (P_lda ag103 sz103 cL ⟨b130, 0, none⟩ [vs (nth r3 v2), vb r5, vs r4.Id, vi r4.Shape.Kind, .slice A145 n146 c147, .slice A150 n151 c152, vb r7, vs r6.Id, vi r6.Shape.Kind, .slice A172 n173 c174, .slice A177 n178 c179] rfl rfl (h221.cells (off := 0) rfl)) ?_
          have h222 := ((Ow.sw (L := (blk (.slice A172 n173 c174) :: blk (.slice A177 n178 c179) :: blk (.slice A145 n146 c147) :: blk (.slice A150 n151 c152) :: some b130 :: blk (.slice A55 n56 c57) :: blk (.slice A98 n99 c100) :: (q103 ++ []))) (O := O) (Ow.sw (L := (blk (.slice A172 n173 c174) :: blk (.slice A177 n178 c179) :: blk (.slice A145 n146 c147) :: blk (.slice A150 n151 c152) :: some b130 :: blk (.slice A55 n56 c57) :: blk (.slice A98 n99 c100) :: (q103 ++ []))) (O := O) ((Ow.sw (L := (blk (.slice A145 n146 c147) :: blk (.slice A150 n151 c152) :: some b130 :: blk (.slice A55 n56 c57) :: blk (.slice A98 n99 c100) :: (q103 ++ []))) (O := O) (Ow.sw (L := (blk (.slice A145 n146 c147) :: blk (.slice A150 n151 c152) :: some b130 :: blk (.slice A55 n56 c57) :: blk (.slice A98 n99 c100) :: (q103 ++ []))) (O := O) h148 hc158 (i := 0) rfl (j := 2) rfl (by decide) g160) hc163 (i := 0) rfl (j := 2) rfl (by decide) g165).sos g170 hk184) hc185 (i := 2) rfl (j := 4) rfl (by decide) g187) hc190 (i := 2) rfl (j := 4) rfl (by decide) g192).sn g215)
          have h223 := ((Ow.sw (L := (blk (.slice A172 n173 c174) :: blk (.slice A177 n178 c179) :: blk (.slice A145 n146 c147) :: blk (.slice A150 n151 c152) :: some b130 :: blk (.slice A55 n56 c57) :: blk (.slice A98 n99 c100) :: (q103 ++ []))) (O := O) (Ow.sw (L := (blk (.slice A172 n173 c174) :: blk (.slice A177 n178 c179) :: blk (.slice A145 n146 c147) :: blk (.slice A150 n151 c152) :: some b130 :: blk (.slice A55 n56 c57) :: blk (.slice A98 n99 c100) :: (q103 ++ []))) (O := O) ((Ow.sw (L := (blk (.slice A145 n146 c147) :: blk (.slice A150 n151 c152) :: some b130 :: blk (.slice A55 n56 c57) :: blk (.slice A98 n99 c100) :: (q103 ++ []))) (O := O) (Ow.sw (L := (blk (.slice A145 n146 c147) :: blk (.slice A150 n151 c152) :: some b130 :: blk (.slice A55 n56 c57) :: blk (.slice A98 n99 c100) :: (q103 ++ []))) (O := O) h153 hc158 (i := 1) rfl (j := 2) rfl (by decide) g160) hc163 (i := 1) rfl (j := 2) rfl (by decide) g165).sos g170 hk184) hc185 (i := 3) rfl (j := 4) rfl (by decide) g187) hc190 (i := 3) rfl (j := 4) rfl (by decide) g192).sn g215)
          have h224 := ((Ow.sw (L := (blk (.slice A172 n173 c174) :: blk (.slice A177 n178 c179) :: blk (.slice A145 n146 c147) :: blk (.slice A150 n151 c152) :: some b130 :: blk (.slice A55 n56 c57) :: blk (.slice A98 n99 c100) :: (q103 ++ []))) (O := O) (Ow.sw (L := (blk (.slice A172 n173 c174) :: blk (.slice A177 n178 c179) :: blk (.slice A145 n146 c147) :: blk (.slice A150 n151 c152) :: some b130 :: blk (.slice A55 n56 c57) :: blk (.slice A98 n99 c100) :: (q103 ++ []))) (O := O) h175 hc185 (i := 0) rfl (j := 4) rfl (by decide) g187) hc190 (i := 0) rfl (j := 4) rfl (by decide) g192).sn g215)
          have h225 := ((Ow.sw (L := (blk (.slice A172 n173 c174) :: blk (.slice A177 n178 c179) :: blk (.slice A145 n146 c147) :: blk (.slice A150 n151 c152) :: some b130 :: blk (.slice A55 n56 c57) :: blk (.slice A98 n99 c100) :: (q103 ++ []))) (O := O) (Ow.sw (L := (blk (.slice A172 n173 c174) :: blk (.slice A177 n178 c179) :: blk (.slice A145 n146 c147) :: blk (.slice A150 n151 c152) :: some b130 :: blk (.slice A55 n56 c57) :: blk (.slice A98 n99 c100) :: (q103 ++ []))) (O := O) h180 hc185 (i := 1) rfl (j := 4) rfl (by decide) g187) hc190 (i := 1) rfl (j := 4) rfl (by decide) g192).sn g215)
          have hd226 : (dChange_103).D w214 ([] ++ ([] ++ (([] ++ (([] ++ [blk (.slice A145 n146 c147)]) ++ [blk (.slice A150 n151 c152)])) ++ ([] ++ ([] ++ (([] ++ [blk (.slice A172 n173 c174)]) ++ [blk (.slice A177 n178 c179)])))))) (⟨(nth r3 v2), r5, r4, r7, r6⟩ : Change) [vs (nth r3 v2), vb r5, vs r4.Id, vi r4.Shape.Kind, .slice A145 n146 c147, .slice A150 n151 c152, vb r7, vs r6.Id, vi r6.Shape.Kind, .slice A172 n173 c174, .slice A177 n178 c179] := (dChange_103.mk _ (⟨(nth r3 v2), r5, r4, r7, r6⟩ : Change) hs128 hs144 (Ds.ofOw kPt_flat h222) (Ds.ofOw kTag_flat h223) hs171 (Ds.ofOw kPt_flat h224) (Ds.ofOw kTag_flat h225))
          have hd235 : DArr dChange_103 w214 (([] ++ ([] ++ (([] ++ (([] ++ [blk (.slice A145 n146 c147)]) ++ [blk (.slice A150 n151 c152)])) ++ ([] ++ ([] ++ (([] ++ [blk (.slice A172 n173 c174)]) ++ [blk (.slice A177 n178 c179)])))))) ++ []) ([(⟨(nth r3 v2), r5, r4, r7, r6⟩ : Change)] : List Change) ([[vs (nth r3 v2), vb r5, vs r4.Id, vi r4.Shape.Kind, .slice A145 n146 c147, .slice A150 n151 c152, vb r7, vs r6.Id, vi r6.Shape.Kind, .slice A172 n173 c174, .slice A177 n178 c179]] : List (List Value)) := ⟨_, _, rfl, hd226, rfl⟩
          refine L_lit (kd := Kd.cells 11) ei43 hc219 ([[vs (nth r3 v2), vb r5, vs r4.Id, vi r4.Shape.Kind, .slice A145 n146 c147, .slice A150 n151 c152, vb r7, vs r6.Id, vi r6.Shape.Kind, .slice A172 n173 c174, .slice A177 n178 c179]] : List (List Value)) (cells := [vs (nth r3 v2), vb r5, vs r4.Id, vi r4.Shape.Kind, .slice A145 n146 c147, .slice A150 n151 c152, vb r7, vs r6.Id, vi r6.Shape.Kind, .slice A172 n173 c174, .slice A177 n178 c179]) ⟨[vs (nth r3 v2), vb r5, vs r4.Id, vi r4.Shape.Kind, .slice A145 n146 c147, .slice A150 n151 c152, vb r7, vs r6.Id, vi r6.Shape.Kind, .slice A172 n173 c174, .slice A177 n178 c179], _, rfl, Dd.raw _ hd226, rfl⟩ (fun _ => by kernel_rfl) fun w227 A228 n229 c230 g231 hr232 hc233 h234 => ?_
          have hp237 : ((blk (.slice A228 n229 c230) :: blk (.slice A172 n173 c174) :: blk (.slice A177 n178 c179) :: blk (.slice A145 n146 c147) :: blk (.slice A150 n151 c152) :: some b130 :: blk (.slice A55 n56 c57) :: blk (.slice A98 n99 c100) :: (q103 ++ [])) : Ob).Perm (blk (.slice A228 n229 c230) :: some b130 :: blk (.slice A55 n56 c57) :: blk (.slice A98 n99 c100) :: (q103 ++ ((([] ++ ([] ++ (([] ++ (([] ++ [blk (.slice A145 n146 c147)]) ++ [blk (.slice A150 n151 c152)])) ++ ([] ++ ([] ++ (([] ++ [blk (.slice A172 n173 c174)]) ++ [blk (.slice A177 n178 c179)])))))) ++ []) ++ []))) := (by rw [List.perm_iff_count]; intro a; (try simp only [List.count_append, List.count_cons, List.count_nil, Nat.add_zero, Nat.zero_add]); first | done | ac_rfl)
          have hc238 := hc233.perm hp237
          obtain ⟨hb239, H⟩ := H
          have h240 := (Ow.sp (L := (blk (.slice A228 n229 c230) :: blk (.slice A172 n173 c174) :: blk (.slice A177 n178 c179) :: blk (.slice A145 n146 c147) :: blk (.slice A150 n151 c152) :: some b130 :: blk (.slice A55 n56 c57) :: blk (.slice A98 n99 c100) :: (q103 ++ []))) (O := O) (((Ow.sw (L := (blk (.slice A172 n173 c174) :: blk (.slice A177 n178 c179) :: blk (.slice A145 n146 c147) :: blk (.slice A150 n151 c152) :: some b130 :: blk (.slice A55 n56 c57) :: blk (.slice A98 n99 c100) :: (q103 ++ []))) (O := O) (Ow.sw (L := (blk (.slice A172 n173 c174) :: blk (.slice A177 n178 c179) :: blk (.slice A145 n146 c147) :: blk (.slice A150 n151 c152) :: some b130 :: blk (.slice A55 n56 c57) :: blk (.slice A98 n99 c100) :: (q103 ++ []))) (O := O) ((Ow.sw (L := (blk (.slice A145 n146 c147) :: blk (.slice A150 n151 c152) :: some b130 :: blk (.slice A55 n56 c57) :: blk (.slice A98 n99 c100) :: (q103 ++ []))) (O := O) (Ow.sw (L := (blk (.slice A145 n146 c147) :: blk (.slice A150 n151 c152) :: some b130 :: blk (.slice A55 n56 c57) :: blk (.slice A98 n99 c100) :: (q103 ++ []))) (O := O) ((Ow.sw (L := (some b130 :: blk (.slice A55 n56 c57) :: blk (.slice A98 n99 c100) :: (q103 ++ []))) (O := O) (h108.so _ g131 (oge hl132)) hc136 (i := 2) rfl (j := 0) rfl (by decide) g138).sos g143 hk157) hc158 (i := 4) rfl (j := 2) rfl (by decide) g160) hc163 (i := 4) rfl (j := 2) rfl (by decide) g165).sos g170 hk184) hc185 (i := 6) rfl (j := 4) rfl (by decide) g187) hc190 (i := 6) rfl (j := 4) rfl (by decide) g192).sn g215).so _ g231 hr232) hp237)
          have h241 := (Ow.sp (L := (blk (.slice A228 n229 c230) :: blk (.slice A172 n173 c174) :: blk (.slice A177 n178 c179) :: blk (.slice A145 n146 c147) :: blk (.slice A150 n151 c152) :: some b130 :: blk (.slice A55 n56 c57) :: blk (.slice A98 n99 c100) :: (q103 ++ []))) (O := O) h234 hp237)
          have hd242 := (((DArr.sm (L := (blk (.slice A172 n173 c174) :: blk (.slice A177 n178 c179) :: blk (.slice A145 n146 c147) :: blk (.slice A150 n151 c152) :: some b130 :: blk (.slice A55 n56 c57) :: blk (.slice A98 n99 c100) :: (q103 ++ []))) (O := O) (i := 4) (DArr.sm (L := (blk (.slice A172 n173 c174) :: blk (.slice A177 n178 c179) :: blk (.slice A145 n146 c147) :: blk (.slice A150 n151 c152) :: some b130 :: blk (.slice A55 n56 c57) :: blk (.slice A98 n99 c100) :: (q103 ++ []))) (O := O) (i := 4) ((DArr.sm (L := (blk (.slice A145 n146 c147) :: blk (.slice A150 n151 c152) :: some b130 :: blk (.slice A55 n56 c57) :: blk (.slice A98 n99 c100) :: (q103 ++ []))) (O := O) (i := 2) (DArr.sm (L := (blk (.slice A145 n146 c147) :: blk (.slice A150 n151 c152) :: some b130 :: blk (.slice A55 n56 c57) :: blk (.slice A98 n99 c100) :: (q103 ++ []))) (O := O) (i := 2) ((DArr.sm (L := (some b130 :: blk (.slice A55 n56 c57) :: blk (.slice A98 n99 c100) :: (q103 ++ []))) (O := O) (i := 0) (hd109.k0 g131) hc136 rfl (fun b hb => (List.mem_cons_of_mem _ (List.mem_cons_of_mem _ (List.mem_append_left _ hb)))) g138).k0 g143) hc158 rfl (fun b hb => (List.mem_cons_of_mem _ (List.mem_cons_of_mem _ (List.mem_append_left _ hb)))) g160) hc163 rfl (fun b hb => (List.mem_cons_of_mem _ (List.mem_cons_of_mem _ (List.mem_append_left _ hb)))) g165).k0 g170) hc185 rfl (fun b hb => (List.mem_cons_of_mem _ (List.mem_cons_of_mem _ (List.mem_append_left _ hb)))) g187) hc190 rfl (fun b hb => (List.mem_cons_of_mem _ (List.mem_cons_of_mem _ (List.mem_append_left _ hb)))) g192).k0 g215).k0 g231)
          have hd243 := (hd235.k0 g231)
          have hn244 : ra102.length + ([[vs (nth r3 v2), vb r5, vs r4.Id, vi r4.Shape.Kind, .slice A145 n146 c147, .slice A150 n151 c152, vb r7, vs r6.Id, vi r6.Shape.Kind, .slice A172 n173 c174, .slice A177 n178 c179]] : List (List Value)).length ≤ 268435456 := by rw [hd242.len, hd243.len]; exact hb239
          refine L_app (kd := Kd.cells 11) ei43 hc238 (.slice A98 n99 c100) ra102 ([[vs (nth r3 v2), vb r5, vs r4.Id, vi r4.Shape.Kind, .slice A145 n146 c147, .slice A150 n151 c152, vb r7, vs r6.Id, vi r6.Shape.Kind, .slice A172 n173 c174, .slice A177 n178 c179]] : List (List Value)) rfl h240 (.slice A228 n229 c230) rfl h241.sx 3 rfl hn244 fun w245 A246 n247 c248 g249 s250 hc251 h252 => ?_
          have hd253 := (DArr.sm (L := (blk (.slice A228 n229 c230) :: some b130 :: blk (.slice A55 n56 c57) :: blk (.slice A98 n99 c100) :: (q103 ++ ((([] ++ ([] ++ (([] ++ (([] ++ [blk (.slice A145 n146 c147)]) ++ [blk (.slice A150 n151 c152)])) ++ ([] ++ ([] ++ (([] ++ [blk (.slice A172 n173 c174)]) ++ [blk (.slice A177 n178 c179)])))))) ++ []) ++ [])))) (O := O) (i := 3) hd242 hc238 rfl (fun b hb => (List.mem_append_left _ hb)) g249)
          have hd254 := (DArr.sm (L := (blk (.slice A228 n229 c230) :: some b130 :: blk (.slice A55 n56 c57) :: blk (.slice A98 n99 c100) :: (q103 ++ ((([] ++ ([] ++ (([] ++ (([] ++ [blk (.slice A145 n146 c147)]) ++ [blk (.slice A150 n151 c152)])) ++ ([] ++ ([] ++ (([] ++ [blk (.slice A172 n173 c174)]) ++ [blk (.slice A177 n178 c179)])))))) ++ []) ++ [])))) (O := O) (i := 3) hd243 hc238 rfl (fun b hb => (List.mem_append_right _ (List.mem_append_left _ hb))) g249)
          have hd256 := DArr.app hd253 hd254
          have hp257 : ((blk (.slice A228 n229 c230) :: some b130 :: blk (.slice A55 n56 c57) :: blk (.slice A246 n247 c248) :: (q103 ++ ((([] ++ ([] ++ (([] ++ (([] ++ [blk (.slice A145 n146 c147)]) ++ [blk (.slice A150 n151 c152)])) ++ ([] ++ ([] ++ (([] ++ [blk (.slice A172 n173 c174)]) ++ [blk (.slice A177 n178 c179)])))))) ++ []) ++ []))) : Ob).Perm ((blk (.slice A228 n229 c230) :: []) ++ (some b130 :: blk (.slice A55 n56 c57) :: blk (.slice A246 n247 c248) :: (q103 ++ ((([] ++ ([] ++ (([] ++ (([] ++ [blk (.slice A145 n146 c147)]) ++ [blk (.slice A150 n151 c152)])) ++ ([] ++ ([] ++ (([] ++ [blk (.slice A172 n173 c174)]) ++ [blk (.slice A177 n178 c179)])))))) ++ []) ++ [])))) := (by rw [List.perm_iff_count]; intro a; (try simp only [List.count_append, List.count_cons, List.count_nil, Nat.add_zero, Nat.zero_add]); first | done | ac_rfl)
          have hc258 := hc251.drops hp257
          have hp259 : ((some b130 :: blk (.slice A55 n56 c57) :: blk (.slice A246 n247 c248) :: (q103 ++ ((([] ++ ([] ++ (([] ++ (([] ++ [blk (.slice A145 n146 c147)]) ++ [blk (.slice A150 n151 c152)])) ++ ([] ++ ([] ++ (([] ++ [blk (.slice A172 n173 c174)]) ++ [blk (.slice A177 n178 c179)])))))) ++ []) ++ []))) : Ob).Perm (some b130 :: blk (.slice A55 n56 c57) :: blk (.slice A246 n247 c248) :: ((q103 ++ (([] ++ ([] ++ (([] ++ (([] ++ [blk (.slice A145 n146 c147)]) ++ [blk (.slice A150 n151 c152)])) ++ ([] ++ ([] ++ (([] ++ [blk (.slice A172 n173 c174)]) ++ [blk (.slice A177 n178 c179)])))))) ++ [])) ++ [])) := (by rw [List.perm_iff_count]; intro a; (try simp only [List.count_append, List.count_cons, List.count_nil, Nat.add_zero, Nat.zero_add]); first | done | ac_rfl)
          have hc260 := hc258.perm hp259
          refine L_pu (P_assign (.slice A246 n247 c248) rfl) ?_
          refine L_nil ?_
          refine W_reg ?_
          obtain ⟨hb261, H⟩ := H
          refine L_pu (P_add v2 1 rfl rfl hb261) ?_
          refine L_pu (P_move (vi (v2 + 1)) rfl) ?_
          refine L_nil ?_
          have hc262 := hc260.drop 0 rfl
          obtain ⟨hI263, hm264⟩ := H
          have h265 := (((((((((((((h141.st (.owns _ g143 hk157)).st (.wl (L := (blk (.slice A145 n146 c147) :: blk (.slice A150 n151 c152) :: some b130 :: blk (.slice A55 n56 c57) :: blk (.slice A98 n99 c100) :: (q103 ++ []))) (O := O) (j := 2) rfl g160)).st (.wl (L := (blk (.slice A145 n146 c147) :: blk (.slice A150 n151 c152) :: some b130 :: blk (.slice A55 n56 c57) :: blk (.slice A98 n99 c100) :: (q103 ++ []))) (O := O) (j := 2) rfl g165)).st (.owns _ g170 hk184)).st (.wl (L := (blk (.slice A172 n173 c174) :: blk (.slice A177 n178 c179) :: blk (.slice A145 n146 c147) :: blk (.slice A150 n151 c152) :: some b130 :: blk (.slice A55 n56 c57) :: blk (.slice A98 n99 c100) :: (q103 ++ []))) (O := O) (j := 4) rfl g187)).st (.wl (L := (blk (.slice A172 n173 c174) :: blk (.slice A177 n178 c179) :: blk (.slice A145 n146 c147) :: blk (.slice A150 n151 c152) :: some b130 :: blk (.slice A55 n56 c57) :: blk (.slice A98 n99 c100) :: (q103 ++ []))) (O := O) (j := 4) rfl g192)).st (.new _ g215)).st (.own _ _ g231 hr232)).st (.perm (L := (blk (.slice A228 n229 c230) :: blk (.slice A172 n173 c174) :: blk (.slice A177 n178 c179) :: blk (.slice A145 n146 c147) :: blk (.slice A150 n151 c152) :: some b130 :: blk (.slice A55 n56 c57) :: blk (.slice A98 n99 c100) :: (q103 ++ []))) (O := O) hp237)).st s250).st (St.drops _ O hp257)).st (.perm (L := (some b130 :: blk (.slice A55 n56 c57) :: blk (.slice A246 n247 c248) :: (q103 ++ ((([] ++ ([] ++ (([] ++ (([] ++ [blk (.slice A145 n146 c147)]) ++ [blk (.slice A150 n151 c152)])) ++ ([] ++ ([] ++ (([] ++ [blk (.slice A172 n173 c174)]) ++ [blk (.slice A177 n178 c179)])))))) ++ []) ++ [])))) (O := O) hp259)).st (.dr _ (L := (some b130 :: blk (.slice A55 n56 c57) :: blk (.slice A246 n247 c248) :: ((q103 ++ (([] ++ ([] ++ (([] ++ (([] ++ [blk (.slice A145 n146 c147)]) ++ [blk (.slice A150 n151 c152)])) ++ ([] ++ ([] ++ (([] ++ [blk (.slice A172 n173 c174)]) ++ [blk (.slice A177 n178 c179)])))))) ++ [])) ++ []))) (O := O) (j := 0) rfl))
          have h266 := ((((((((((h168.st (.owns _ g170 hk184)).st (.wl (L := (blk (.slice A172 n173 c174) :: blk (.slice A177 n178 c179) :: blk (.slice A145 n146 c147) :: blk (.slice A150 n151 c152) :: some b130 :: blk (.slice A55 n56 c57) :: blk (.slice A98 n99 c100) :: (q103 ++ []))) (O := O) (j := 4) rfl g187)).st (.wl (L := (blk (.slice A172 n173 c174) :: blk (.slice A177 n178 c179) :: blk (.slice A145 n146 c147) :: blk (.slice A150 n151 c152) :: some b130 :: blk (.slice A55 n56 c57) :: blk (.slice A98 n99 c100) :: (q103 ++ []))) (O := O) (j := 4) rfl g192)).st (.new _ g215)).st (.own _ _ g231 hr232)).st (.perm (L := (blk (.slice A228 n229 c230) :: blk (.slice A172 n173 c174) :: blk (.slice A177 n178 c179) :: blk (.slice A145 n146 c147) :: blk (.slice A150 n151 c152) :: some b130 :: blk (.slice A55 n56 c57) :: blk (.slice A98 n99 c100) :: (q103 ++ []))) (O := O) hp237)).st s250).st (St.drops _ O hp257)).st (.perm (L := (some b130 :: blk (.slice A55 n56 c57) :: blk (.slice A246 n247 c248) :: (q103 ++ ((([] ++ ([] ++ (([] ++ (([] ++ [blk (.slice A145 n146 c147)]) ++ [blk (.slice A150 n151 c152)])) ++ ([] ++ ([] ++ (([] ++ [blk (.slice A172 n173 c174)]) ++ [blk (.slice A177 n178 c179)])))))) ++ []) ++ [])))) (O := O) hp259)).st (.dr _ (L := (some b130 :: blk (.slice A55 n56 c57) :: blk (.slice A246 n247 c248) :: ((q103 ++ (([] ++ ([] ++ (([] ++ (([] ++ [blk (.slice A145 n146 c147)]) ++ [blk (.slice A150 n151 c152)])) ++ ([] ++ ([] ++ (([] ++ [blk (.slice A172 n173 c174)]) ++ [blk (.slice A177 n178 c179)])))))) ++ [])) ++ []))) (O := O) (j := 0) rfl))
          have h267 := (Ow.sd (L := (some b130 :: blk (.slice A55 n56 c57) :: blk (.slice A246 n247 c248) :: ((q103 ++ (([] ++ ([] ++ (([] ++ (([] ++ [blk (.slice A145 n146 c147)]) ++ [blk (.slice A150 n151 c152)])) ++ ([] ++ ([] ++ (([] ++ [blk (.slice A172 n173 c174)]) ++ [blk (.slice A177 n178 c179)])))))) ++ [])) ++ []))) (O := O) (Ow.sp (L := (some b130 :: blk (.slice A55 n56 c57) :: blk (.slice A246 n247 c248) :: (q103 ++ ((([] ++ ([] ++ (([] ++ (([] ++ [blk (.slice A145 n146 c147)]) ++ [blk (.slice A150 n151 c152)])) ++ ([] ++ ([] ++ (([] ++ [blk (.slice A172 n173 c174)]) ++ [blk (.slice A177 n178 c179)])))))) ++ []) ++ [])))) (O := O) (Ow.drops (L := (blk (.slice A228 n229 c230) :: some b130 :: blk (.slice A55 n56 c57) :: blk (.slice A246 n247 c248) :: (q103 ++ ((([] ++ ([] ++ (([] ++ (([] ++ [blk (.slice A145 n146 c147)]) ++ [blk (.slice A150 n151 c152)])) ++ ([] ++ ([] ++ (([] ++ [blk (.slice A172 n173 c174)]) ++ [blk (.slice A177 n178 c179)])))))) ++ []) ++ [])))) (O := O) h252 hp257 (memi 2 rfl)) hp259) (i := 2) rfl (j := 0) rfl (by decide))
          have hd268 := hd256
          have h269 := (Ow.sd (L := (some b130 :: blk (.slice A55 n56 c57) :: blk (.slice A246 n247 c248) :: ((q103 ++ (([] ++ ([] ++ (([] ++ (([] ++ [blk (.slice A145 n146 c147)]) ++ [blk (.slice A150 n151 c152)])) ++ ([] ++ ([] ++ (([] ++ [blk (.slice A172 n173 c174)]) ++ [blk (.slice A177 n178 c179)])))))) ++ [])) ++ []))) (O := O) (Ow.sp (L := (some b130 :: blk (.slice A55 n56 c57) :: blk (.slice A246 n247 c248) :: (q103 ++ ((([] ++ ([] ++ (([] ++ (([] ++ [blk (.slice A145 n146 c147)]) ++ [blk (.slice A150 n151 c152)])) ++ ([] ++ ([] ++ (([] ++ [blk (.slice A172 n173 c174)]) ++ [blk (.slice A177 n178 c179)])))))) ++ []) ++ [])))) (O := O) (Ow.drops (L := (blk (.slice A228 n229 c230) :: some b130 :: blk (.slice A55 n56 c57) :: blk (.slice A246 n247 c248) :: (q103 ++ ((([] ++ ([] ++ (([] ++ (([] ++ [blk (.slice A145 n146 c147)]) ++ [blk (.slice A150 n151 c152)])) ++ ([] ++ ([] ++ (([] ++ [blk (.slice A172 n173 c174)]) ++ [blk (.slice A177 n178 c179)])))))) ++ []) ++ [])))) (O := O) (Ow.sm (L := (blk (.slice A228 n229 c230) :: some b130 :: blk (.slice A55 n56 c57) :: blk (.slice A98 n99 c100) :: (q103 ++ ((([] ++ ([] ++ (([] ++ (([] ++ [blk (.slice A145 n146 c147)]) ++ [blk (.slice A150 n151 c152)])) ++ ([] ++ ([] ++ (([] ++ [blk (.slice A172 n173 c174)]) ++ [blk (.slice A177 n178 c179)])))))) ++ []) ++ [])))) (O := O) (Ow.sp (L := (blk (.slice A228 n229 c230) :: blk (.slice A172 n173 c174) :: blk (.slice A177 n178 c179) :: blk (.slice A145 n146 c147) :: blk (.slice A150 n151 c152) :: some b130 :: blk (.slice A55 n56 c57) :: blk (.slice A98 n99 c100) :: (q103 ++ []))) (O := O) (((Ow.sw (L := (blk (.slice A172 n173 c174) :: blk (.slice A177 n178 c179) :: blk (.slice A145 n146 c147) :: blk (.slice A150 n151 c152) :: some b130 :: blk (.slice A55 n56 c57) :: blk (.slice A98 n99 c100) :: (q103 ++ []))) (O := O) (Ow.sw (L := (blk (.slice A172 n173 c174) :: blk (.slice A177 n178 c179) :: blk (.slice A145 n146 c147) :: blk (.slice A150 n151 c152) :: some b130 :: blk (.slice A55 n56 c57) :: blk (.slice A98 n99 c100) :: (q103 ++ []))) (O := O) ((Ow.sw (L := (blk (.slice A145 n146 c147) :: blk (.slice A150 n151 c152) :: some b130 :: blk (.slice A55 n56 c57) :: blk (.slice A98 n99 c100) :: (q103 ++ []))) (O := O) (Ow.sw (L := (blk (.slice A145 n146 c147) :: blk (.slice A150 n151 c152) :: some b130 :: blk (.slice A55 n56 c57) :: blk (.slice A98 n99 c100) :: (q103 ++ []))) (O := O) ((Ow.sw (L := (some b130 :: blk (.slice A55 n56 c57) :: blk (.slice A98 n99 c100) :: (q103 ++ []))) (O := O) (h110.so _ g131 (oge hl132)) hc136 (i := 1) rfl (j := 0) rfl (by decide) g138).sos g143 hk157) hc158 (i := 3) rfl (j := 2) rfl (by decide) g160) hc163 (i := 3) rfl (j := 2) rfl (by decide) g165).sos g170 hk184) hc185 (i := 5) rfl (j := 4) rfl (by decide) g187) hc190 (i := 5) rfl (j := 4) rfl (by decide) g192).sn g215).so _ g231 hr232) hp237) hc238 (i := 2) rfl (j := 3) rfl (by decide) g249 s250) hp257 (memi 1 rfl)) hp259) (i := 1) rfl (j := 0) rfl (by decide))
          exact ⟨((xs2 ++ ([(⟨(nth r3 v2), r5, r4, r7, r6⟩ : Change)] : List Change)), (ra102 ++ ([[vs (nth r3 v2), vb r5, vs r4.Id, vi r4.Shape.Kind, .slice A145 n146 c147, .slice A150 n151 c152, vb r7, vs r6.Id, vi r6.Shape.Kind, .slice A172 n173 c174, .slice A177 n178 c179]] : List (List Value))), (q103 ++ (([] ++ ([] ++ (([] ++ (([] ++ [blk (.slice A145 n146 c147)]) ++ [blk (.slice A150 n151 c152)])) ++ ([] ++ ([] ++ (([] ++ [blk (.slice A172 n173 c174)]) ++ [blk (.slice A177 n178 c179)])))))) ++ [])), A246, n247, c248, v2 + 1), hm264, hI263, ⟨rfl, rfl, rfl, rfl, rfl, rfl, trivial⟩, hc262, h265, h266, h267, hd268, h269⟩
        · have H := ite_f H hq220
          refine W_skip ?_
          refine W_reg ?_
          obtain ⟨hb270, H⟩ := H
          refine L_pu (P_add v2 1 rfl rfl hb270) ?_
          refine L_pu (P_move (vi (v2 + 1)) rfl) ?_
          refine L_nil ?_
          have hc271 := hc219.drop 0 rfl
          have hc272 := hc271.drop 0 rfl
          have hc273 := hc272.drop 0 rfl
          have hc274 := hc273.drop 0 rfl
          have hc275 := hc274.drop 0 rfl
          obtain ⟨hI276, hm277⟩ := H
          have h278 := ((((((((((((h141.st (.owns _ g143 hk157)).st (.wl (L := (blk (.slice A145 n146 c147) :: blk (.slice A150 n151 c152) :: some b130 :: blk (.slice A55 n56 c57) :: blk (.slice A98 n99 c100) :: (q103 ++ []))) (O := O) (j := 2) rfl g160)).st (.wl (L := (blk (.slice A145 n146 c147) :: blk (.slice A150 n151 c152) :: some b130 :: blk (.slice A55 n56 c57) :: blk (.slice A98 n99 c100) :: (q103 ++ []))) (O := O) (j := 2) rfl g165)).st (.owns _ g170 hk184)).st (.wl (L := (blk (.slice A172 n173 c174) :: blk (.slice A177 n178 c179) :: blk (.slice A145 n146 c147) :: blk (.slice A150 n151 c152) :: some b130 :: blk (.slice A55 n56 c57) :: blk (.slice A98 n99 c100) :: (q103 ++ []))) (O := O) (j := 4) rfl g187)).st (.wl (L := (blk (.slice A172 n173 c174) :: blk (.slice A177 n178 c179) :: blk (.slice A145 n146 c147) :: blk (.slice A150 n151 c152) :: some b130 :: blk (.slice A55 n56 c57) :: blk (.slice A98 n99 c100) :: (q103 ++ []))) (O := O) (j := 4) rfl g192)).st (.new _ g215)).st (.dr _ (L := (blk (.slice A172 n173 c174) :: blk (.slice A177 n178 c179) :: blk (.slice A145 n146 c147) :: blk (.slice A150 n151 c152) :: some b130 :: blk (.slice A55 n56 c57) :: blk (.slice A98 n99 c100) :: (q103 ++ []))) (O := O) (j := 0) rfl)).st (.dr _ (L := (blk (.slice A177 n178 c179) :: blk (.slice A145 n146 c147) :: blk (.slice A150 n151 c152) :: some b130 :: blk (.slice A55 n56 c57) :: blk (.slice A98 n99 c100) :: (q103 ++ []))) (O := O) (j := 0) rfl)).st (.dr _ (L := (blk (.slice A145 n146 c147) :: blk (.slice A150 n151 c152) :: some b130 :: blk (.slice A55 n56 c57) :: blk (.slice A98 n99 c100) :: (q103 ++ []))) (O := O) (j := 0) rfl)).st (.dr _ (L := (blk (.slice A150 n151 c152) :: some b130 :: blk (.slice A55 n56 c57) :: blk (.slice A98 n99 c100) :: (q103 ++ []))) (O := O) (j := 0) rfl)).st (.dr _ (L := (some b130 :: blk (.slice A55 n56 c57) :: blk (.slice A98 n99 c100) :: (q103 ++ []))) (O := O) (j := 0) rfl))
          have h279 := (((((((((h168.st (.owns _ g170 hk184)).st (.wl (L := (blk (.slice A172 n173 c174) :: blk (.slice A177 n178 c179) :: blk (.slice A145 n146 c147) :: blk (.slice A150 n151 c152) :: some b130 :: blk (.slice A55 n56 c57) :: blk (.slice A98 n99 c100) :: (q103 ++ []))) (O := O) (j := 4) rfl g187)).st (.wl (L := (blk (.slice A172 n173 c174) :: blk (.slice A177 n178 c179) :: blk (.slice A145 n146 c147) :: blk (.slice A150 n151 c152) :: some b130 :: blk (.slice A55 n56 c57) :: blk (.slice A98 n99 c100) :: (q103 ++ []))) (O := O) (j := 4) rfl g192)).st (.new _ g215)).st (.dr _ (L := (blk (.slice A172 n173 c174) :: blk (.slice A177 n178 c179) :: blk (.slice A145 n146 c147) :: blk (.slice A150 n151 c152) :: some b130 :: blk (.slice A55 n56 c57) :: blk (.slice A98 n99 c100) :: (q103 ++ []))) (O := O) (j := 0) rfl)).st (.dr _ (L := (blk (.slice A177 n178 c179) :: blk (.slice A145 n146 c147) :: blk (.slice A150 n151 c152) :: some b130 :: blk (.slice A55 n56 c57) :: blk (.slice A98 n99 c100) :: (q103 ++ []))) (O := O) (j := 0) rfl)).st (.dr _ (L := (blk (.slice A145 n146 c147) :: blk (.slice A150 n151 c152) :: some b130 :: blk (.slice A55 n56 c57) :: blk (.slice A98 n99 c100) :: (q103 ++ []))) (O := O) (j := 0) rfl)).st (.dr _ (L := (blk (.slice A150 n151 c152) :: some b130 :: blk (.slice A55 n56 c57) :: blk (.slice A98 n99 c100) :: (q103 ++ []))) (O := O) (j := 0) rfl)).st (.dr _ (L := (some b130 :: blk (.slice A55 n56 c57) :: blk (.slice A98 n99 c100) :: (q103 ++ []))) (O := O) (j := 0) rfl))
          have h280 := (Ow.sd (L := (some b130 :: blk (.slice A55 n56 c57) :: blk (.slice A98 n99 c100) :: (q103 ++ []))) (O := O) (Ow.sd (L := (blk (.slice A150 n151 c152) :: some b130 :: blk (.slice A55 n56 c57) :: blk (.slice A98 n99 c100) :: (q103 ++ []))) (O := O) (Ow.sd (L := (blk (.slice A145 n146 c147) :: blk (.slice A150 n151 c152) :: some b130 :: blk (.slice A55 n56 c57) :: blk (.slice A98 n99 c100) :: (q103 ++ []))) (O := O) (Ow.sd (L := (blk (.slice A177 n178 c179) :: blk (.slice A145 n146 c147) :: blk (.slice A150 n151 c152) :: some b130 :: blk (.slice A55 n56 c57) :: blk (.slice A98 n99 c100) :: (q103 ++ []))) (O := O) (Ow.sd (L := (blk (.slice A172 n173 c174) :: blk (.slice A177 n178 c179) :: blk (.slice A145 n146 c147) :: blk (.slice A150 n151 c152) :: some b130 :: blk (.slice A55 n56 c57) :: blk (.slice A98 n99 c100) :: (q103 ++ []))) (O := O) ((Ow.sw (L := (blk (.slice A172 n173 c174) :: blk (.slice A177 n178 c179) :: blk (.slice A145 n146 c147) :: blk (.slice A150 n151 c152) :: some b130 :: blk (.slice A55 n56 c57) :: blk (.slice A98 n99 c100) :: (q103 ++ []))) (O := O) (Ow.sw (L := (blk (.slice A172 n173 c174) :: blk (.slice A177 n178 c179) :: blk (.slice A145 n146 c147) :: blk (.slice A150 n151 c152) :: some b130 :: blk (.slice A55 n56 c57) :: blk (.slice A98 n99 c100) :: (q103 ++ []))) (O := O) ((Ow.sw (L := (blk (.slice A145 n146 c147) :: blk (.slice A150 n151 c152) :: some b130 :: blk (.slice A55 n56 c57) :: blk (.slice A98 n99 c100) :: (q103 ++ []))) (O := O) (Ow.sw (L := (blk (.slice A145 n146 c147) :: blk (.slice A150 n151 c152) :: some b130 :: blk (.slice A55 n56 c57) :: blk (.slice A98 n99 c100) :: (q103 ++ []))) (O := O) ((Ow.sw (L := (some b130 :: blk (.slice A55 n56 c57) :: blk (.slice A98 n99 c100) :: (q103 ++ []))) (O := O) (h108.so _ g131 (oge hl132)) hc136 (i := 2) rfl (j := 0) rfl (by decide) g138).sos g143 hk157) hc158 (i := 4) rfl (j := 2) rfl (by decide) g160) hc163 (i := 4) rfl (j := 2) rfl (by decide) g165).sos g170 hk184) hc185 (i := 6) rfl (j := 4) rfl (by decide) g187) hc190 (i := 6) rfl (j := 4) rfl (by decide) g192).sn g215) (i := 6) rfl (j := 0) rfl (by decide)) (i := 5) rfl (j := 0) rfl (by decide)) (i := 4) rfl (j := 0) rfl (by decide)) (i := 3) rfl (j := 0) rfl (by decide)) (i := 2) rfl (j := 0) rfl (by decide))
          have hd281 := ((DArr.sm (L := (blk (.slice A172 n173 c174) :: blk (.slice A177 n178 c179) :: blk (.slice A145 n146 c147) :: blk (.slice A150 n151 c152) :: some b130 :: blk (.slice A55 n56 c57) :: blk (.slice A98 n99 c100) :: (q103 ++ []))) (O := O) (i := 4) (DArr.sm (L := (blk (.slice A172 n173 c174) :: blk (.slice A177 n178 c179) :: blk (.slice A145 n146 c147) :: blk (.slice A150 n151 c152) :: some b130 :: blk (.slice A55 n56 c57) :: blk (.slice A98 n99 c100) :: (q103 ++ []))) (O := O) (i := 4) ((DArr.sm (L := (blk (.slice A145 n146 c147) :: blk (.slice A150 n151 c152) :: some b130 :: blk (.slice A55 n56 c57) :: blk (.slice A98 n99 c100) :: (q103 ++ []))) (O := O) (i := 2) (DArr.sm (L := (blk (.slice A145 n146 c147) :: blk (.slice A150 n151 c152) :: some b130 :: blk (.slice A55 n56 c57) :: blk (.slice A98 n99 c100) :: (q103 ++ []))) (O := O) (i := 2) ((DArr.sm (L := (some b130 :: blk (.slice A55 n56 c57) :: blk (.slice A98 n99 c100) :: (q103 ++ []))) (O := O) (i := 0) (hd109.k0 g131) hc136 rfl (fun b hb => (List.mem_cons_of_mem _ (List.mem_cons_of_mem _ (List.mem_append_left _ hb)))) g138).k0 g143) hc158 rfl (fun b hb => (List.mem_cons_of_mem _ (List.mem_cons_of_mem _ (List.mem_append_left _ hb)))) g160) hc163 rfl (fun b hb => (List.mem_cons_of_mem _ (List.mem_cons_of_mem _ (List.mem_append_left _ hb)))) g165).k0 g170) hc185 rfl (fun b hb => (List.mem_cons_of_mem _ (List.mem_cons_of_mem _ (List.mem_append_left _ hb)))) g187) hc190 rfl (fun b hb => (List.mem_cons_of_mem _ (List.mem_cons_of_mem _ (List.mem_append_left _ hb)))) g192).k0 g215)
          have h282 := (Ow.sd (L := (some b130 :: blk (.slice A55 n56 c57) :: blk (.slice A98 n99 c100) :: (q103 ++ []))) (O := O) (Ow.sd (L := (blk (.slice A150 n151 c152) :: some b130 :: blk (.slice A55 n56 c57) :: blk (.slice A98 n99 c100) :: (q103 ++ []))) (O := O) (Ow.sd (L := (blk (.slice A145 n146 c147) :: blk (.slice A150 n151 c152) :: some b130 :: blk (.slice A55 n56 c57) :: blk (.slice A98 n99 c100) :: (q103 ++ []))) (O := O) (Ow.sd (L := (blk (.slice A177 n178 c179) :: blk (.slice A145 n146 c147) :: blk (.slice A150 n151 c152) :: some b130 :: blk (.slice A55 n56 c57) :: blk (.slice A98 n99 c100) :: (q103 ++ []))) (O := O) (Ow.sd (L := (blk (.slice A172 n173 c174) :: blk (.slice A177 n178 c179) :: blk (.slice A145 n146 c147) :: blk (.slice A150 n151 c152) :: some b130 :: blk (.slice A55 n56 c57) :: blk (.slice A98 n99 c100) :: (q103 ++ []))) (O := O) ((Ow.sw (L := (blk (.slice A172 n173 c174) :: blk (.slice A177 n178 c179) :: blk (.slice A145 n146 c147) :: blk (.slice A150 n151 c152) :: some b130 :: blk (.slice A55 n56 c57) :: blk (.slice A98 n99 c100) :: (q103 ++ []))) (O := O) (Ow.sw (L := (blk (.slice A172 n173 c174) :: blk (.slice A177 n178 c179) :: blk (.slice A145 n146 c147) :: blk (.slice A150 n151 c152) :: some b130 :: blk (.slice A55 n56 c57) :: blk (.slice A98 n99 c100) :: (q103 ++ []))) (O := O) ((Ow.sw (L := (blk (.slice A145 n146 c147) :: blk (.slice A150 n151 c152) :: some b130 :: blk (.slice A55 n56 c57) :: blk (.slice A98 n99 c100) :: (q103 ++ []))) (O := O) (Ow.sw (L := (blk (.slice A145 n146 c147) :: blk (.slice A150 n151 c152) :: some b130 :: blk (.slice A55 n56 c57) :: blk (.slice A98 n99 c100) :: (q103 ++ []))) (O := O) ((Ow.sw (L := (some b130 :: blk (.slice A55 n56 c57) :: blk (.slice A98 n99 c100) :: (q103 ++ []))) (O := O) (h110.so _ g131 (oge hl132)) hc136 (i := 1) rfl (j := 0) rfl (by decide) g138).sos g143 hk157) hc158 (i := 3) rfl (j := 2) rfl (by decide) g160) hc163 (i := 3) rfl (j := 2) rfl (by decide) g165).sos g170 hk184) hc185 (i := 5) rfl (j := 4) rfl (by decide) g187) hc190 (i := 5) rfl (j := 4) rfl (by decide) g192).sn g215) (i := 5) rfl (j := 0) rfl (by decide)) (i := 4) rfl (j := 0) rfl (by decide)) (i := 3) rfl (j := 0) rfl (by decide)) (i := 2) rfl (j := 0) rfl (by decide)) (i := 1) rfl (j := 0) rfl (by decide))
          exact ⟨(xs2, ra102, q103, A98, n99, c100, v2 + 1), hm277, hI276, ⟨rfl, rfl, rfl, rfl, rfl, rfl, trivial⟩, hc275, h278, h279, h280, hd281, h282⟩
      · have H := ite_f H hq120
        refine W_exit (xin_hit ?_)
        refine W_seq ?_
        refine W_reg ?_
        refine L_pu (P_move (.slice A98 n99 c100) rfl) ?_
        refine L_pu (P_assign (.slice A98 n99 c100) rfl) ?_
        refine L_nil ?_
        refine W_ret ?_
        have hc283 := hc105.drop 0 rfl
        have h284 := (Ow.sd (L := (blk (.slice A55 n56 c57) :: blk (.slice A98 n99 c100) :: (q103 ++ []))) (O := O) h108 (i := 1) rfl (j := 0) rfl (by decide))
        have hd285 := hd109
        exact ⟨[.slice A98 n99 c100], ⟨_, rfl, rfl⟩, xs2, A98, n99, c100, q103, ra102, rfl, H, hc283.gr.g0, hc283.ok, hc283.ge, h284, hd285⟩
end Go.Proofs.Ytndjggncgpjolaa

namespace Go.Proofs.Ytndjggncgpjolaa
set_option linter.unusedVariables false
set_option linter.unusedSimpArgs false
set_option linter.unusedSectionVars false
theorem impl_DiffOf.law (a b : List Feat) (Q : List Change → Prop) (ha : bulk a ≤ 1048576) (hb : bulk b ≤ 1048576) (hq : Q (diffOf a b)) : impl_DiffOf.E a b Q := by
  unfold impl_DiffOf.E
  unfold diffOf at hq
  refine impl_SheetOk.law _ _ ha ?_
  cases ka : sheetOk a with
  | false => rw [if_pos (by decide)]; rw [ka, Bool.false_and, if_neg (by decide)] at hq; exact hq
  | true =>
    rw [if_neg (by decide)]
    refine impl_SheetOk.law _ _ hb ?_
    cases kb : sheetOk b with
    | false => rw [if_pos (by decide)]; rw [ka, kb, if_neg (by decide)] at hq; exact hq
    | true =>
      rw [if_neg (by decide)]
      rw [ka, kb, if_pos (by decide)] at hq
      have la := (sheet_ss ka).2.1
      have lb := (sheet_ss kb).2.1
      have e : idsAll [a, b] = ids a ++ ids b := by unfold idsAll; simp
      have l3 : (ids a ++ ids b).length = a.length + b.length := by unfold ids; simp
      refine impl_names.law _ _ (by simp) (by rw [e]; omega) (fun s hs => by
        simp only [List.mem_cons, List.not_mem_nil, or_false] at hs
        rcases hs with rfl | rfl <;> omega) ?_
      rw [e]
      have l2 := uniq_len (ids a ++ ids b)
      refine ⟨fun xs i => ∃ u : Nat, i = u ∧ u ≤ (uniq (ids a ++ ids b)).length ∧ xs = diffL a b ((uniq (ids a ++ ids b)).take u), fun _ i => ((uniq (ids a ++ ids b)).length - i).toNat, ⟨0, rfl, Nat.zero_le _, rfl⟩, ?_⟩
      rintro _ _ ⟨u, rfl, hu, rfl⟩
      by_cases h : u < (uniq (ids a ++ ids b)).length
      · rw [if_pos (by simpa using h)]
        have hm := List.mem_append.1 (uniq_mem.1 (nth_mem _ h))
        have hs := diffC_small ka kb hm
        have hd := diffL_len a b ((uniq (ids a ++ ids b)).take u)
        rw [List.length_take] at hd
        have en := diffL_snoc a b ((uniq (ids a ++ ids b)).take u) (nth (uniq (ids a ++ ids b)) (u : Int))
        rw [← take_nth _ h] at en
        refine ⟨by omega, impl_side.law _ _ _ ha (impl_side.law _ _ _ hb (impl_Change_same.law _ _ (by exact Nat.le_trans hs (by decide)) ?_))⟩
        show (if (!(sameC (diffC a b (nth (uniq (ids a ++ ids b)) (u : Int))))) = true then _ else _)
        cases k : sameC (diffC a b (nth (uniq (ids a ++ ids b)) (u : Int))) with
        | false =>
          rw [k] at en
          rw [if_pos (by decide)]
          exact ⟨by simp only [List.length_cons, List.length_nil]; omega, by unfold I64; omega, ⟨u + 1, by omega, by omega, en.symm⟩, by dsimp only; omega⟩
        | true =>
          rw [k] at en
          rw [if_neg (by decide)]
          exact ⟨by unfold I64; omega, ⟨u + 1, by omega, by omega, by rw [en]; simp⟩, by dsimp only; omega⟩
      · rw [if_neg (by simpa using h)]
        have : u = (uniq (ids a ++ ids b)).length := by omega
        subst this
        rw [List.take_length]; exact hq
end Go.Proofs.Ytndjggncgpjolaa

namespace Go.Proofs.Ytndjggncgpjolaa
open Go.RowKit
set_option linter.unusedVariables false
def laws_eqPt.E (a : Pt) (b : Pt) (Q : Bool → Prop) : Prop :=
  (if a.X != b.X then Q false else (if a.Y != b.Y then Q false else Q true))
set_option maxHeartbeats 8000000 in
set_option maxRecDepth 100000 in
theorem laws_eqPt.calls {O : Ob} (w0 : World) (hO : Ok w0 O) (a : Pt) (b : Pt) (Q : Bool → Prop) (h : laws_eqPt.E a b Q) :
    Ret Try.prog 171 [.agg #[vi a.X, vi a.Y], .agg #[vi b.X, vi b.Y]] w0 (fun v w' => ∃ (r0 : Bool), v = vb r0 ∧ Q r0 ∧ Gr w0 w' none) := by
  have H : (if a.X != b.X then Q false else (if a.Y != b.Y then Q false else Q true)) := h
  clear h
  have hc0 := Ct.init hO
  refine Ret_enter Try.func171 rfl 15 rfl [.tmp 4] rfl rfl ?_
  refine W_seq ?_
  refine W_reg ?_
  refine L_box [vi a.X, vi a.Y] rfl fun w1 b2 hl4 hu5 g3 hx6 => ?_
  have h8 := Fb.mk hc0.ok hl4 hx6
  have hc9 := hc0.k0 g3
  refine L_box [vi b.X, vi b.Y] rfl fun w10 b11 hl13 hu14 g12 hx15 => ?_
  have h17 := Fb.mk hc9.ok hl13 hx15
  have hc18 := hc9.k0 g12
  refine L_pu (P_assign (vb false) rfl) ?_
  refine L_nil ?_
  refine W_seq ?_
  refine W_seq ?_
  refine W_reg ?_
  refine L_pu (P_fa fa29_0 ⟨b2, 0, none⟩ ⟨b2, 0, none⟩ rfl rfl) ?_
  have h19 := (h8.st (.new _ g12))
  refine L_pu (P_ld ag3 cL ⟨b2, 0, none⟩ (vi a.X) rfl (h19.cell rfl)) ?_
  refine L_pu (P_fa fa29_0 ⟨b11, 0, none⟩ ⟨b11, 0, none⟩ rfl rfl) ?_
  refine L_pu (P_ld ag3 cL ⟨b11, 0, none⟩ (vi b.X) rfl (h17.cell rfl)) ?_
  refine L_pu (P_cmp a.X b.X (a.X != b.X) rfl rfl rfl) ?_
  refine L_nil ?_
  refine W_cond (a.X != b.X) rfl (fun hq20 => ?_) (fun hq20 => ?_)
  · have H := ite_t H hq20
    refine W_seq ?_
    refine W_reg ?_
    refine L_pu (P_assign (vb false) rfl) ?_
    refine L_nil ?_
    refine W_ret ?_
    exact ⟨[vb false], ⟨_, rfl, rfl⟩, false, rfl, H, hc18.gr.g0⟩
  · have H := ite_f H hq20
    refine W_skip ?_
    refine W_seq ?_
    refine W_seq ?_
    refine W_reg ?_
    refine L_pu (P_fa fa29_1 ⟨b2, 0, none⟩ ⟨b2, 1, none⟩ rfl rfl) ?_
    refine L_pu (P_ld ag3 cL ⟨b2, 1, none⟩ (vi a.Y) rfl (h19.cell rfl)) ?_
    refine L_pu (P_fa fa29_1 ⟨b11, 0, none⟩ ⟨b11, 1, none⟩ rfl rfl) ?_
    refine L_pu (P_ld ag3 cL ⟨b11, 1, none⟩ (vi b.Y) rfl (h17.cell rfl)) ?_
    refine L_pu (P_cmp a.Y b.Y (a.Y != b.Y) rfl rfl rfl) ?_
    refine L_nil ?_
    refine W_cond (a.Y != b.Y) rfl (fun hq21 => ?_) (fun hq21 => ?_)
    · have H := ite_t H hq21
      refine W_seq ?_
      refine W_reg ?_
      refine L_pu (P_assign (vb false) rfl) ?_
      refine L_nil ?_
      refine W_ret ?_
      exact ⟨[vb false], ⟨_, rfl, rfl⟩, false, rfl, H, hc18.gr.g0⟩
    · have H := ite_f H hq21
      refine W_skip ?_
      refine W_seq ?_
      refine W_reg ?_
      refine L_pu (P_assign (vb true) rfl) ?_
      refine L_nil ?_
      refine W_ret ?_
      exact ⟨[vb true], ⟨_, rfl, rfl⟩, true, rfl, H, hc18.gr.g0⟩
def laws_eqPt.m (a : Pt) (b : Pt) : Bool := (if a.X != b.X then false else (if a.Y != b.Y then false else true))
theorem laws_eqPt.fn (a : Pt) (b : Pt) : laws_eqPt.E a b (fun r => r = laws_eqPt.m a b) := by
  unfold laws_eqPt.E laws_eqPt.m
  (repeat' split) <;> simp_all
end Go.Proofs.Ytndjggncgpjolaa

namespace Go.Proofs.Ytndjggncgpjolaa
set_option linter.unusedVariables false
set_option linter.unusedSimpArgs false
set_option linter.unusedSectionVars false
theorem laws_eqPt.law (a b : Pt) (Q : Bool → Prop) (hq : Q (decide (a = b))) : laws_eqPt.E a b Q := by
  obtain ⟨x0, x1⟩ := a; obtain ⟨y0, y1⟩ := b
  rw [show (decide ((⟨x0, x1⟩ : Pt) = ⟨y0, y1⟩)) = ((decide (x0 = y0)) && (decide (x1 = y1))) by simp only [Pt.mk.injEq, Bool.decide_and]] at hq
  unfold laws_eqPt.E
  by_cases h0 : x0 = y0
  case neg => simpa [h0] using hq
  simp only [h0, decide_true, Bool.true_and, bne_self_eq_false, Bool.not_true, Bool.false_eq_true, if_false] at hq ⊢
  by_cases h1 : x1 = y1
  case neg => simpa [h1] using hq
  simp only [h1, decide_true, Bool.true_and, bne_self_eq_false, Bool.not_true, Bool.false_eq_true, if_false] at hq ⊢
  all_goals (try exact hq)
theorem laws_eqPt.is (a b : Pt) : laws_eqPt.E a b (fun r => r = decide (a = b)) := laws_eqPt.law a b _ rfl
end Go.Proofs.Ytndjggncgpjolaa

namespace Go.Proofs.Ytndjggncgpjolaa
open Go.RowKit
set_option linter.unusedVariables false
def laws_eqPtS.E (a : List Pt) (b : List Pt) (Q : Bool → Prop) : Prop :=
  (if (a.length : Int) != (b.length : Int) then Q false else (∃ (I32 : Int → Prop) (mu33 : Int → Nat), I32 0 ∧ ∀ (i2 : Int), I32 i2 → (if decide (i2 < (a.length : Int)) then ((0 : Int) ≤ i2 ∧ i2 < (a.length : Int)) ∧ ((0 : Int) ≤ i2 ∧ i2 < (b.length : Int)) ∧ (if !(decide ((nth a i2) = (nth b i2))) then Q false else (-9223372036854775808 ≤ i2) ∧ I32 (i2 + 1) ∧ mu33 (i2 + 1) < mu33 i2) else Q true)))
set_option maxHeartbeats 8000000 in
set_option maxRecDepth 100000 in
theorem laws_eqPtS.calls {O : Ob} (w0 : World) (hO : Ok w0 O) (a : List Pt) (A1 : Option Addr) (n2 c3 : Nat) (hp4 : Sl kPt w0 (Fr O) (.slice A1 n2 c3) a) (b : List Pt) (A6 : Option Addr) (n7 c8 : Nat) (hp9 : Sl kPt w0 (Fr O) (.slice A6 n7 c8) b) (Q : Bool → Prop) (h : laws_eqPtS.E a b Q) :
    Ret Try.prog 144 [.slice A1 n2 c3, .slice A6 n7 c8] w0 (fun v w' => ∃ (r0 : Bool), v = vb r0 ∧ Q r0 ∧ Gr w0 w' none) := by
  have H : (if (a.length : Int) != (b.length : Int) then Q false else (∃ (I32 : Int → Prop) (mu33 : Int → Nat), I32 0 ∧ ∀ (i2 : Int), I32 i2 → (if decide (i2 < (a.length : Int)) then ((0 : Int) ≤ i2 ∧ i2 < (a.length : Int)) ∧ ((0 : Int) ≤ i2 ∧ i2 < (b.length : Int)) ∧ (if !(decide ((nth a i2) = (nth b i2))) then Q false else (-9223372036854775808 ≤ i2) ∧ I32 (i2 + 1) ∧ mu33 (i2 + 1) < mu33 i2) else Q true))) := h
  clear h
  have hc0 := Ct.init hO
  refine Ret_enter Try.func144 rfl 27 rfl [.tmp 4] rfl rfl ?_
  refine W_seq ?_
  refine W_reg ?_
  refine L_pu (P_assign (vb false) rfl) ?_
  refine L_nil ?_
  refine W_seq ?_
  refine W_seq ?_
  refine W_reg ?_
  refine L_pu (P_move (.slice A1 n2 c3) rfl) ?_
  have hl11 := hp4.le
  refine L_pu (P_len Try.underlying23 A1 n2 c3 hp4.len rfl) ?_
  refine L_pu (P_move (.slice A6 n7 c8) rfl) ?_
  have hl12 := hp9.le
  refine L_pu (P_len Try.underlying23 A6 n7 c8 hp9.len rfl) ?_
  refine L_pu (P_cmp (a.length : Int) (b.length : Int) ((a.length : Int) != (b.length : Int)) rfl rfl rfl) ?_
  refine L_nil ?_
  refine W_cond ((a.length : Int) != (b.length : Int)) rfl (fun hq13 => ?_) (fun hq13 => ?_)
  · have H := ite_t H hq13
    refine W_seq ?_
    refine W_reg ?_
    refine L_pu (P_assign (vb false) rfl) ?_
    refine L_nil ?_
    refine W_ret ?_
    exact ⟨[vb false], ⟨_, rfl, rfl⟩, false, rfl, H, hc0.gr.g0⟩
  · have H := ite_f H hq13
    refine W_skip ?_
    refine W_seq ?_
    refine W_seq ?_
    refine W_reg ?_
    refine L_pu (P_assign (vi 0) rfl) ?_
    refine L_nil ?_
    refine W_block ?_
    obtain ⟨I32, mu33, hI34, H⟩ := H
    refine W_loop (α := Int) (fun (sv__ : Int) t w26 => match sv__ with | i2 => I32 i2 ∧ Has t [(0, .slice A1 n2 c3), (1, .slice A6 n7 c8), (5, vi i2)] ∧ Ct [] w0 w26 [] O ∧ Sl kPt w26 (Fr ([] ++ O)) (.slice A1 n2 c3) a ∧ Sl kPt w26 (Fr ([] ++ O)) (.slice A6 n7 c8) b) (fun (sv__ : Int) => match sv__ with | i2 => mu33 i2) 0 ⟨hI34, ⟨rfl, rfl, rfl, trivial⟩, hc0, hp4, hp9⟩ ?_
    rintro i2 _ w26 ⟨hI34, hh36, hc29, h30, h31⟩
    obtain ⟨u37, rfl⟩ := Has.ins hh36
    have H := H i2 hI34
    refine W_seq ?_
    refine W_seq ?_
    refine W_reg ?_
    refine L_pu (P_move (vi i2) rfl) ?_
    refine L_pu (P_move (.slice A1 n2 c3) rfl) ?_
    have hl38 := h30.le
    refine L_pu (P_len Try.underlying23 A1 n2 c3 h30.len rfl) ?_
    refine L_pu (P_cmp i2 (a.length : Int) (decide (i2 < (a.length : Int))) rfl rfl rfl) ?_
    refine L_nil ?_
    refine W_cond (decide (i2 < (a.length : Int))) rfl (fun hq39 => ?_) (fun hq39 => ?_)
    · have H := ite_t H hq39
      refine W_skip ?_
      refine W_seq ?_
      refine W_block ?_
      refine W_seq ?_
      refine W_draw (fun x => Gr w26 x none) (by kernel_rfl) (by kernel_rfl) (Gr.drew _) ?_
      refine Q_pu (P_move (.slice A1 n2 c3) rfl) ?_
      refine Q_pu (P_move (vi i2) rfl) ?_
      obtain ⟨hb40, H⟩ := H
      obtain ⟨ad41, cs42, hA43, hS46, hR44, hcl45⟩ := h30.get default (by decide) i2 hb40
      obtain rfl := kPt.op hR44
      refine Q_pu (P_ia Try.underlying23 se23 A1 ad41 n2 c3 h30.len i2 rfl hA43 rfl hb40) ?_
      refine Q_pu (P_lda ag29 sz29 cQ (ad41.add (i2.toNat * 2)) [vi ((nth a i2).X), vi ((nth a i2).Y)] rfl rfl hcl45) ?_
      refine Q_pu (P_move (.slice A6 n7 c8) rfl) ?_
      refine Q_pu (P_move (vi i2) rfl) ?_
      obtain ⟨hb47, H⟩ := H
      obtain ⟨ad48, cs49, hA50, hS53, hR51, hcl52⟩ := h31.get default (by decide) i2 hb47
      obtain rfl := kPt.op hR51
      refine Q_pu (P_ia Try.underlying23 se23 A6 ad48 n7 c8 h31.len i2 rfl hA50 rfl hb47) ?_
      refine Q_pu (P_lda ag29 sz29 cQ (ad48.add (i2.toNat * 2)) [vi ((nth b i2).X), vi ((nth b i2).Y)] rfl rfl hcl52) ?_
      refine Q_call go171 [.agg #[vi ((nth a i2).X), vi ((nth a i2).Y)], .agg #[vi ((nth b i2).X), vi ((nth b i2).Y)]] rfl (vb (decide ((nth a i2) = (nth b i2)))) (fun w g => (laws_eqPt.calls w (hc29.k0 g).ok (nth a i2) (nth b i2) _ (laws_eqPt.is (nth a i2) (nth b i2))).mono ?_) ?_
      · rintro _ w ⟨r, rfl, rfl, g2⟩
        exact ⟨rfl, Gr.t0 g g2⟩
      refine Q_pu (P_not (decide ((nth a i2) = (nth b i2))) rfl) ?_
      refine Q_nil fun w59 g60 => ?_
      have hc62 := hc29.k0 g60
      refine W_cond (!(decide ((nth a i2) = (nth b i2)))) rfl (fun hq63 => ?_) (fun hq63 => ?_)
      · have H := ite_t H hq63
        refine W_seq ?_
        refine W_reg ?_
        refine L_pu (P_assign (vb false) rfl) ?_
        refine L_nil ?_
        refine W_ret ?_
        exact ⟨[vb false], ⟨_, rfl, rfl⟩, false, rfl, H, hc62.gr.g0⟩
      · have H := ite_f H hq63
        refine W_skip ?_
        refine W_reg ?_
        refine L_pu (P_move (vi i2) rfl) ?_
        obtain ⟨hb65, H⟩ := H
        have hi64 : I64 (i2 + 1) := i64_succ (of_decide_eq_true hq39) hl38 hb65
        refine L_pu (P_add i2 1 rfl rfl hi64) ?_
        refine L_pu (P_assign (vi (i2 + 1)) rfl) ?_
        refine L_nil ?_
        obtain ⟨hI66, hm67⟩ := H
        exact ⟨i2 + 1, hm67, hI66, ⟨rfl, rfl, rfl, trivial⟩, hc62, (h30.st (.new _ g60)), (h31.st (.new _ g60))⟩
    · have H := ite_f H hq39
      refine W_exit (xin_hit ?_)
      refine W_seq ?_
      refine W_reg ?_
      refine L_pu (P_assign (vb true) rfl) ?_
      refine L_nil ?_
      refine W_ret ?_
      exact ⟨[vb true], ⟨_, rfl, rfl⟩, true, rfl, H, hc29.gr.g0⟩
end Go.Proofs.Ytndjggncgpjolaa

namespace Go.Proofs.Ytndjggncgpjolaa
set_option linter.unusedVariables false
set_option linter.unusedSimpArgs false
set_option linter.unusedSectionVars false
theorem laws_eqPtS.law (a b : List Pt) (Q : Bool → Prop) (hq : Q (decide (a = b))) : laws_eqPtS.E a b Q := by
  unfold laws_eqPtS.E
  exact eqS_shape (fun x y => decide (x = y)) (fun _ _ => rfl) a b Q hq
theorem laws_eqPtS.is (a b : List Pt) : laws_eqPtS.E a b (fun r => r = decide (a = b)) := laws_eqPtS.law a b _ rfl
end Go.Proofs.Ytndjggncgpjolaa

namespace Go.Proofs.Ytndjggncgpjolaa
open Go.RowKit
set_option linter.unusedVariables false
def laws_eqShape.E (a : Shape) (b : Shape) (Q : Bool → Prop) : Prop :=
  (if a.Kind != b.Kind then Q false else laws_eqPtS.E a.Pts b.Pts (fun r => (if !r then Q false else Q true)))
set_option maxHeartbeats 8000000 in
set_option maxRecDepth 100000 in
theorem laws_eqShape.calls {O : Ob} (w0 : World) (hO : Ok w0 O) (a : Shape) (A1 : Option Addr) (n2 c3 : Nat) (hp4 : Sl kPt w0 (Fr O) (.slice A1 n2 c3) a.Pts) (b : Shape) (A6 : Option Addr) (n7 c8 : Nat) (hp9 : Sl kPt w0 (Fr O) (.slice A6 n7 c8) b.Pts) (Q : Bool → Prop) (h : laws_eqShape.E a b Q) :
    Ret Try.prog 103 [.agg #[vi a.Kind, .slice A1 n2 c3], .agg #[vi b.Kind, .slice A6 n7 c8]] w0 (fun v w' => ∃ (r0 : Bool), v = vb r0 ∧ Q r0 ∧ Gr w0 w' none) := by
  have H : (if a.Kind != b.Kind then Q false else laws_eqPtS.E a.Pts b.Pts (fun r => (if !r then Q false else Q true))) := h
  clear h
  have hc0 := Ct.init hO
  refine Ret_enter Try.func103 rfl 16 rfl [.tmp 4] rfl rfl ?_
  refine W_seq ?_
  refine W_reg ?_
  refine L_box [vi a.Kind, .slice A1 n2 c3] rfl fun w11 b12 hl14 hu15 g13 hx16 => ?_
  have h18 := Fb.mk hc0.ok hl14 hx16
  have hc19 := hc0.k0 g13
  refine L_box [vi b.Kind, .slice A6 n7 c8] rfl fun w20 b21 hl23 hu24 g22 hx25 => ?_
  have h27 := Fb.mk hc19.ok hl23 hx25
  have hc28 := hc19.k0 g22
  refine L_pu (P_assign (vb false) rfl) ?_
  refine L_nil ?_
  refine W_seq ?_
  refine W_seq ?_
  refine W_reg ?_
  refine L_pu (P_fa fa68_0 ⟨b12, 0, none⟩ ⟨b12, 0, none⟩ rfl rfl) ?_
  have h29 := (h18.st (.new _ g22))
  refine L_pu (P_ld ag3 cL ⟨b12, 0, none⟩ (vi a.Kind) rfl (h29.cell rfl)) ?_
  refine L_pu (P_fa fa68_0 ⟨b21, 0, none⟩ ⟨b21, 0, none⟩ rfl rfl) ?_
  refine L_pu (P_ld ag3 cL ⟨b21, 0, none⟩ (vi b.Kind) rfl (h27.cell rfl)) ?_
  refine L_pu (P_cmp a.Kind b.Kind (a.Kind != b.Kind) rfl rfl rfl) ?_
  refine L_nil ?_
  refine W_cond (a.Kind != b.Kind) rfl (fun hq30 => ?_) (fun hq30 => ?_)
  · have H := ite_t H hq30
    refine W_seq ?_
    refine W_reg ?_
    refine L_pu (P_assign (vb false) rfl) ?_
    refine L_nil ?_
    refine W_ret ?_
    exact ⟨[vb false], ⟨_, rfl, rfl⟩, false, rfl, H, hc28.gr.g0⟩
  · have H := ite_f H hq30
    refine W_skip ?_
    refine W_seq ?_
    refine W_seq ?_
    refine W_reg ?_
    refine L_pu (P_fa fa68_1 ⟨b12, 0, none⟩ ⟨b12, 1, none⟩ rfl rfl) ?_
    refine L_pu (P_ld ag23 cL ⟨b12, 1, none⟩ (.slice A1 n2 c3) rfl (h29.cell rfl)) ?_
    refine L_pu (P_fa fa68_1 ⟨b21, 0, none⟩ ⟨b21, 1, none⟩ rfl rfl) ?_
    refine L_pu (P_ld ag23 cL ⟨b21, 1, none⟩ (.slice A6 n7 c8) rfl (h27.cell rfl)) ?_
    refine L_call go144 [.slice A1 n2 c3, .slice A6 n7 c8] rfl ((laws_eqPtS.calls w20 hc28.ok a.Pts A1 n2 c3 (hp4.st hc28.st) b.Pts A6 n7 c8 (hp9.st hc28.st) _ H).mono ?_)
    rintro _ w31 ⟨r, rfl, H, g32⟩
    have hc36 := hc28.k0 g32
    refine L_pu (P_not r rfl) ?_
    refine L_nil ?_
    refine W_cond (!r) rfl (fun hq37 => ?_) (fun hq37 => ?_)
    · have H := ite_t H hq37
      refine W_seq ?_
      refine W_reg ?_
      refine L_pu (P_assign (vb false) rfl) ?_
      refine L_nil ?_
      refine W_ret ?_
      exact ⟨[vb false], ⟨_, rfl, rfl⟩, false, rfl, H, hc36.gr.g0⟩
    · have H := ite_f H hq37
      refine W_skip ?_
      refine W_seq ?_
      refine W_reg ?_
      refine L_pu (P_assign (vb true) rfl) ?_
      refine L_nil ?_
      refine W_ret ?_
      exact ⟨[vb true], ⟨_, rfl, rfl⟩, true, rfl, H, hc36.gr.g0⟩
end Go.Proofs.Ytndjggncgpjolaa

namespace Go.Proofs.Ytndjggncgpjolaa
set_option linter.unusedVariables false
set_option linter.unusedSimpArgs false
set_option linter.unusedSectionVars false
theorem laws_eqShape.law (a b : Shape) (Q : Bool → Prop) (hq : Q (decide (a = b))) : laws_eqShape.E a b Q := by
  obtain ⟨x0, x1⟩ := a; obtain ⟨y0, y1⟩ := b
  rw [show (decide ((⟨x0, x1⟩ : Shape) = ⟨y0, y1⟩)) = ((decide (x0 = y0)) && (decide (x1 = y1))) by simp only [Shape.mk.injEq, Bool.decide_and]] at hq
  unfold laws_eqShape.E
  by_cases h0 : x0 = y0
  case neg => simpa [h0] using hq
  simp only [h0, decide_true, Bool.true_and, bne_self_eq_false, Bool.not_true, Bool.false_eq_true, if_false] at hq ⊢
  try refine laws_eqPtS.law _ _ _ ?_
  by_cases h1 : x1 = y1
  case neg => simpa [h1] using hq
  simp only [h1, decide_true, Bool.true_and, bne_self_eq_false, Bool.not_true, Bool.false_eq_true, if_false] at hq ⊢
  all_goals (try exact hq)
theorem laws_eqShape.is (a b : Shape) : laws_eqShape.E a b (fun r => r = decide (a = b)) := laws_eqShape.law a b _ rfl
end Go.Proofs.Ytndjggncgpjolaa

namespace Go.Proofs.Ytndjggncgpjolaa
open Go.RowKit
set_option linter.unusedVariables false
def laws_eqTag.E (a : Tag) (b : Tag) (Q : Bool → Prop) : Prop :=
  (if a.Key != b.Key then Q false else (if a.Val != b.Val then Q false else Q true))
set_option maxHeartbeats 8000000 in
set_option maxRecDepth 100000 in
theorem laws_eqTag.calls {O : Ob} (w0 : World) (hO : Ok w0 O) (a : Tag) (hs1 : Lim a.Key) (hs2 : Lim a.Val) (b : Tag) (hs3 : Lim b.Key) (hs4 : Lim b.Val) (Q : Bool → Prop) (h : laws_eqTag.E a b Q) :
    Ret Try.prog 145 [.agg #[vs a.Key, vs a.Val], .agg #[vs b.Key, vs b.Val]] w0 (fun v w' => ∃ (r0 : Bool), v = vb r0 ∧ Q r0 ∧ Gr w0 w' none) := by
  have H : (if a.Key != b.Key then Q false else (if a.Val != b.Val then Q false else Q true)) := h
  clear h
  have hc0 := Ct.init hO
  refine Ret_enter Try.func145 rfl 15 rfl [.tmp 4] rfl rfl ?_
  refine W_seq ?_
  refine W_reg ?_
  refine L_box [vs a.Key, vs a.Val] rfl fun w5 b6 hl8 hu9 g7 hx10 => ?_
  have h12 := Fb.mk hc0.ok hl8 hx10
  have hc13 := hc0.k0 g7
  refine L_box [vs b.Key, vs b.Val] rfl fun w14 b15 hl17 hu18 g16 hx19 => ?_
  have h21 := Fb.mk hc13.ok hl17 hx19
  have hc22 := hc13.k0 g16
  refine L_pu (P_assign (vb false) rfl) ?_
  refine L_nil ?_
  refine W_seq ?_
  refine W_seq ?_
  refine W_reg ?_
  refine L_pu (P_fa fa133_0 ⟨b6, 0, none⟩ ⟨b6, 0, none⟩ rfl rfl) ?_
  have h23 := (h12.st (.new _ g16))
  refine L_pu (P_ld ag9 cL ⟨b6, 0, none⟩ (vs a.Key) rfl (h23.cell rfl)) ?_
  refine L_pu (P_fa fa133_0 ⟨b15, 0, none⟩ ⟨b15, 0, none⟩ rfl rfl) ?_
  refine L_pu (P_ld ag9 cL ⟨b15, 0, none⟩ (vs b.Key) rfl (h21.cell rfl)) ?_
  refine L_pu (P_scmp a.Key b.Key (a.Key != b.Key) rfl rfl rfl) ?_
  refine L_nil ?_
  refine W_cond (a.Key != b.Key) rfl (fun hq24 => ?_) (fun hq24 => ?_)
  · have H := ite_t H hq24
    refine W_seq ?_
    refine W_reg ?_
    refine L_pu (P_assign (vb false) rfl) ?_
    refine L_nil ?_
    refine W_ret ?_
    exact ⟨[vb false], ⟨_, rfl, rfl⟩, false, rfl, H, hc22.gr.g0⟩
  · have H := ite_f H hq24
    refine W_skip ?_
    refine W_seq ?_
    refine W_seq ?_
    refine W_reg ?_
    refine L_pu (P_fa fa133_1 ⟨b6, 0, none⟩ ⟨b6, 1, none⟩ rfl rfl) ?_
    refine L_pu (P_ld ag9 cL ⟨b6, 1, none⟩ (vs a.Val) rfl (h23.cell rfl)) ?_
    refine L_pu (P_fa fa133_1 ⟨b15, 0, none⟩ ⟨b15, 1, none⟩ rfl rfl) ?_
    refine L_pu (P_ld ag9 cL ⟨b15, 1, none⟩ (vs b.Val) rfl (h21.cell rfl)) ?_
    refine L_pu (P_scmp a.Val b.Val (a.Val != b.Val) rfl rfl rfl) ?_
    refine L_nil ?_
    refine W_cond (a.Val != b.Val) rfl (fun hq25 => ?_) (fun hq25 => ?_)
    · have H := ite_t H hq25
      refine W_seq ?_
      refine W_reg ?_
      refine L_pu (P_assign (vb false) rfl) ?_
      refine L_nil ?_
      refine W_ret ?_
      exact ⟨[vb false], ⟨_, rfl, rfl⟩, false, rfl, H, hc22.gr.g0⟩
    · have H := ite_f H hq25
      refine W_skip ?_
      refine W_seq ?_
      refine W_reg ?_
      refine L_pu (P_assign (vb true) rfl) ?_
      refine L_nil ?_
      refine W_ret ?_
      exact ⟨[vb true], ⟨_, rfl, rfl⟩, true, rfl, H, hc22.gr.g0⟩
def laws_eqTag.m (a : Tag) (b : Tag) : Bool := (if a.Key != b.Key then false else (if a.Val != b.Val then false else true))
theorem laws_eqTag.fn (a : Tag) (b : Tag) : laws_eqTag.E a b (fun r => r = laws_eqTag.m a b) := by
  unfold laws_eqTag.E laws_eqTag.m
  (repeat' split) <;> simp_all
end Go.Proofs.Ytndjggncgpjolaa

namespace Go.Proofs.Ytndjggncgpjolaa
set_option linter.unusedVariables false
set_option linter.unusedSimpArgs false
set_option linter.unusedSectionVars false
theorem laws_eqTag.law (a b : Tag) (Q : Bool → Prop) (hq : Q (decide (a = b))) : laws_eqTag.E a b Q := by
  obtain ⟨x0, x1⟩ := a; obtain ⟨y0, y1⟩ := b
  rw [show (decide ((⟨x0, x1⟩ : Tag) = ⟨y0, y1⟩)) = ((decide (x0 = y0)) && (decide (x1 = y1))) by simp only [Tag.mk.injEq, Bool.decide_and]] at hq
  unfold laws_eqTag.E
  by_cases h0 : x0 = y0
  case neg => simpa [h0] using hq
  simp only [h0, decide_true, Bool.true_and, bne_self_eq_false, Bool.not_true, Bool.false_eq_true, if_false] at hq ⊢
  by_cases h1 : x1 = y1
  case neg => simpa [h1] using hq
  simp only [h1, decide_true, Bool.true_and, bne_self_eq_false, Bool.not_true, Bool.false_eq_true, if_false] at hq ⊢
  all_goals (try exact hq)
theorem laws_eqTag.is (a b : Tag) : laws_eqTag.E a b (fun r => r = decide (a = b)) := laws_eqTag.law a b _ rfl
end Go.Proofs.Ytndjggncgpjolaa

namespace Go.Proofs.Ytndjggncgpjolaa
open Go.RowKit
set_option linter.unusedVariables false
def laws_eqTagS.E (a : List Tag) (b : List Tag) (Q : Bool → Prop) : Prop :=
  (if (a.length : Int) != (b.length : Int) then Q false else (∃ (I32 : Int → Prop) (mu33 : Int → Nat), I32 0 ∧ ∀ (i2 : Int), I32 i2 → (if decide (i2 < (a.length : Int)) then ((0 : Int) ≤ i2 ∧ i2 < (a.length : Int)) ∧ ((0 : Int) ≤ i2 ∧ i2 < (b.length : Int)) ∧ (if !(decide ((nth a i2) = (nth b i2))) then Q false else (-9223372036854775808 ≤ i2) ∧ I32 (i2 + 1) ∧ mu33 (i2 + 1) < mu33 i2) else Q true)))
set_option maxHeartbeats 8000000 in
set_option maxRecDepth 100000 in
theorem laws_eqTagS.calls {O : Ob} (w0 : World) (hO : Ok w0 O) (a : List Tag) (A1 : Option Addr) (n2 c3 : Nat) (hp4 : Sl kTag w0 (Fr O) (.slice A1 n2 c3) a) (b : List Tag) (A6 : Option Addr) (n7 c8 : Nat) (hp9 : Sl kTag w0 (Fr O) (.slice A6 n7 c8) b) (Q : Bool → Prop) (h : laws_eqTagS.E a b Q) :
    Ret Try.prog 104 [.slice A1 n2 c3, .slice A6 n7 c8] w0 (fun v w' => ∃ (r0 : Bool), v = vb r0 ∧ Q r0 ∧ Gr w0 w' none) := by
  have H : (if (a.length : Int) != (b.length : Int) then Q false else (∃ (I32 : Int → Prop) (mu33 : Int → Nat), I32 0 ∧ ∀ (i2 : Int), I32 i2 → (if decide (i2 < (a.length : Int)) then ((0 : Int) ≤ i2 ∧ i2 < (a.length : Int)) ∧ ((0 : Int) ≤ i2 ∧ i2 < (b.length : Int)) ∧ (if !(decide ((nth a i2) = (nth b i2))) then Q false else (-9223372036854775808 ≤ i2) ∧ I32 (i2 + 1) ∧ mu33 (i2 + 1) < mu33 i2) else Q true))) := h
  clear h
  have hc0 := Ct.init hO
  refine Ret_enter Try.func104 rfl 27 rfl [.tmp 4] rfl rfl ?_
  refine W_seq ?_
  refine W_reg ?_
  refine L_pu (P_assign (vb false) rfl) ?_
  refine L_nil ?_
  refine W_seq ?_
  refine W_seq ?_
  refine W_reg ?_
  refine L_pu (P_move (.slice A1 n2 c3) rfl) ?_
  have hl11 := hp4.le
  refine L_pu (P_len Try.underlying69 A1 n2 c3 hp4.len rfl) ?_
  refine L_pu (P_move (.slice A6 n7 c8) rfl) ?_
  have hl12 := hp9.le
  refine L_pu (P_len Try.underlying69 A6 n7 c8 hp9.len rfl) ?_
  refine L_pu (P_cmp (a.length : Int) (b.length : Int) ((a.length : Int) != (b.length : Int)) rfl rfl rfl) ?_
  refine L_nil ?_
  refine W_cond ((a.length : Int) != (b.length : Int)) rfl (fun hq13 => ?_) (fun hq13 => ?_)
  · have H := ite_t H hq13
    refine W_seq ?_
    refine W_reg ?_
    refine L_pu (P_assign (vb false) rfl) ?_
    refine L_nil ?_
    refine W_ret ?_
    exact ⟨[vb false], ⟨_, rfl, rfl⟩, false, rfl, H, hc0.gr.g0⟩
  · have H := ite_f H hq13
    refine W_skip ?_
    refine W_seq ?_
    refine W_seq ?_
    refine W_reg ?_
    refine L_pu (P_assign (vi 0) rfl) ?_
    refine L_nil ?_
    refine W_block ?_
    obtain ⟨I32, mu33, hI34, H⟩ := H
    refine W_loop (α := Int) (fun (sv__ : Int) t w26 => match sv__ with | i2 => I32 i2 ∧ Has t [(0, .slice A1 n2 c3), (1, .slice A6 n7 c8), (5, vi i2)] ∧ Ct [] w0 w26 [] O ∧ Sl kTag w26 (Fr ([] ++ O)) (.slice A1 n2 c3) a ∧ Sl kTag w26 (Fr ([] ++ O)) (.slice A6 n7 c8) b) (fun (sv__ : Int) => match sv__ with | i2 => mu33 i2) 0 ⟨hI34, ⟨rfl, rfl, rfl, trivial⟩, hc0, hp4, hp9⟩ ?_
    rintro i2 _ w26 ⟨hI34, hh36, hc29, h30, h31⟩
    obtain ⟨u37, rfl⟩ := Has.ins hh36
    have H := H i2 hI34
    refine W_seq ?_
    refine W_seq ?_
    refine W_reg ?_
    refine L_pu (P_move (vi i2) rfl) ?_
    refine L_pu (P_move (.slice A1 n2 c3) rfl) ?_
    have hl38 := h30.le
    refine L_pu (P_len Try.underlying69 A1 n2 c3 h30.len rfl) ?_
    refine L_pu (P_cmp i2 (a.length : Int) (decide (i2 < (a.length : Int))) rfl rfl rfl) ?_
    refine L_nil ?_
    refine W_cond (decide (i2 < (a.length : Int))) rfl (fun hq39 => ?_) (fun hq39 => ?_)
    · have H := ite_t H hq39
      refine W_skip ?_
      refine W_seq ?_
      refine W_block ?_
      refine W_seq ?_
      refine W_draw (fun x => Gr w26 x none) (by kernel_rfl) (by kernel_rfl) (Gr.drew _) ?_
      refine Q_pu (P_move (.slice A1 n2 c3) rfl) ?_
      refine Q_pu (P_move (vi i2) rfl) ?_
      obtain ⟨hb40, H⟩ := H
      obtain ⟨ad41, cs42, hA43, hS46, hR44, hcl45⟩ := h30.get default (by decide) i2 hb40
      obtain ⟨rfl, hs47, hs48⟩ := kTag.op hR44
      refine Q_pu (P_ia Try.underlying69 se69 A1 ad41 n2 c3 h30.len i2 rfl hA43 rfl hb40) ?_
      refine Q_pu (P_lda ag133 sz133 cQ (ad41.add (i2.toNat * 2)) [vs ((nth a i2).Key), vs ((nth a i2).Val)] rfl rfl hcl45) ?_
      refine Q_pu (P_move (.slice A6 n7 c8) rfl) ?_
      refine Q_pu (P_move (vi i2) rfl) ?_
      obtain ⟨hb49, H⟩ := H
      obtain ⟨ad50, cs51, hA52, hS55, hR53, hcl54⟩ := h31.get default (by decide) i2 hb49
      obtain ⟨rfl, hs56, hs57⟩ := kTag.op hR53
      refine Q_pu (P_ia Try.underlying69 se69 A6 ad50 n7 c8 h31.len i2 rfl hA52 rfl hb49) ?_
      refine Q_pu (P_lda ag133 sz133 cQ (ad50.add (i2.toNat * 2)) [vs ((nth b i2).Key), vs ((nth b i2).Val)] rfl rfl hcl54) ?_
      refine Q_call go145 [.agg #[vs ((nth a i2).Key), vs ((nth a i2).Val)], .agg #[vs ((nth b i2).Key), vs ((nth b i2).Val)]] rfl (vb (decide ((nth a i2) = (nth b i2)))) (fun w g => (laws_eqTag.calls w (hc29.k0 g).ok (nth a i2) hs47 hs48 (nth b i2) hs56 hs57 _ (laws_eqTag.is (nth a i2) (nth b i2))).mono ?_) ?_
      · rintro _ w ⟨r, rfl, rfl, g2⟩
        exact ⟨rfl, Gr.t0 g g2⟩
      refine Q_pu (P_not (decide ((nth a i2) = (nth b i2))) rfl) ?_
      refine Q_nil fun w63 g64 => ?_
      have hc66 := hc29.k0 g64
      refine W_cond (!(decide ((nth a i2) = (nth b i2)))) rfl (fun hq67 => ?_) (fun hq67 => ?_)
      · have H := ite_t H hq67
        refine W_seq ?_
        refine W_reg ?_
        refine L_pu (P_assign (vb false) rfl) ?_
        refine L_nil ?_
        refine W_ret ?_
        exact ⟨[vb false], ⟨_, rfl, rfl⟩, false, rfl, H, hc66.gr.g0⟩
      · have H := ite_f H hq67
        refine W_skip ?_
        refine W_reg ?_
        refine L_pu (P_move (vi i2) rfl) ?_
        obtain ⟨hb69, H⟩ := H
        have hi68 : I64 (i2 + 1) := i64_succ (of_decide_eq_true hq39) hl38 hb69
        refine L_pu (P_add i2 1 rfl rfl hi68) ?_
        refine L_pu (P_assign (vi (i2 + 1)) rfl) ?_
        refine L_nil ?_
        obtain ⟨hI70, hm71⟩ := H
        exact ⟨i2 + 1, hm71, hI70, ⟨rfl, rfl, rfl, trivial⟩, hc66, (h30.st (.new _ g64)), (h31.st (.new _ g64))⟩
    · have H := ite_f H hq39
      refine W_exit (xin_hit ?_)
      refine W_seq ?_
      refine W_reg ?_
      refine L_pu (P_assign (vb true) rfl) ?_
      refine L_nil ?_
      refine W_ret ?_
      exact ⟨[vb true], ⟨_, rfl, rfl⟩, true, rfl, H, hc29.gr.g0⟩
end Go.Proofs.Ytndjggncgpjolaa

namespace Go.Proofs.Ytndjggncgpjolaa
set_option linter.unusedVariables false
set_option linter.unusedSimpArgs false
set_option linter.unusedSectionVars false
theorem laws_eqTagS.law (a b : List Tag) (Q : Bool → Prop) (hq : Q (decide (a = b))) : laws_eqTagS.E a b Q := by
  unfold laws_eqTagS.E
  exact eqS_shape (fun x y => decide (x = y)) (fun _ _ => rfl) a b Q hq
theorem laws_eqTagS.is (a b : List Tag) : laws_eqTagS.E a b (fun r => r = decide (a = b)) := laws_eqTagS.law a b _ rfl
end Go.Proofs.Ytndjggncgpjolaa

namespace Go.Proofs.Ytndjggncgpjolaa
open Go.RowKit
set_option linter.unusedVariables false
def laws_eqFeat.E (a : Feat) (b : Feat) (Q : Bool → Prop) : Prop :=
  (if a.Id != b.Id then Q false else laws_eqShape.E a.Shape b.Shape (fun r => (if !r then Q false else laws_eqTagS.E a.Tags b.Tags (fun r2 => (if !r2 then Q false else Q true)))))
set_option maxHeartbeats 8000000 in
set_option maxRecDepth 100000 in
theorem laws_eqFeat.calls {O : Ob} (w0 : World) (hO : Ok w0 O) (a : Feat) (A2 : Option Addr) (n3 c4 : Nat) (A7 : Option Addr) (n8 c9 : Nat) (hs1 : Lim a.Id) (hp5 : Sl kPt w0 (Fr O) (.slice A2 n3 c4) a.Shape.Pts) (hp10 : Sl kTag w0 (Fr O) (.slice A7 n8 c9) a.Tags) (b : Feat) (A13 : Option Addr) (n14 c15 : Nat) (A18 : Option Addr) (n19 c20 : Nat) (hs12 : Lim b.Id) (hp16 : Sl kPt w0 (Fr O) (.slice A13 n14 c15) b.Shape.Pts) (hp21 : Sl kTag w0 (Fr O) (.slice A18 n19 c20) b.Tags) (Q : Bool → Prop) (h : laws_eqFeat.E a b Q) :
    Ret Try.prog 37 [.agg #[vs a.Id, vi a.Shape.Kind, .slice A2 n3 c4, .slice A7 n8 c9], .agg #[vs b.Id, vi b.Shape.Kind, .slice A13 n14 c15, .slice A18 n19 c20]] w0 (fun v w' => ∃ (r0 : Bool), v = vb r0 ∧ Q r0 ∧ Gr w0 w' none) := by
  have H : (if a.Id != b.Id then Q false else laws_eqShape.E a.Shape b.Shape (fun r => (if !r then Q false else laws_eqTagS.E a.Tags b.Tags (fun r2 => (if !r2 then Q false else Q true))))) := h
  clear h
  have hc0 := Ct.init hO
  refine Ret_enter Try.func37 rfl 22 rfl [.tmp 4] rfl rfl ?_
  refine W_seq ?_
  refine W_reg ?_
  refine L_box [vs a.Id, vi a.Shape.Kind, .slice A2 n3 c4, .slice A7 n8 c9] rfl fun w23 b24 hl26 hu27 g25 hx28 => ?_
  have h30 := Fb.mk hc0.ok hl26 hx28
  have hc31 := hc0.k0 g25
  refine L_box [vs b.Id, vi b.Shape.Kind, .slice A13 n14 c15, .slice A18 n19 c20] rfl fun w32 b33 hl35 hu36 g34 hx37 => ?_
  have h39 := Fb.mk hc31.ok hl35 hx37
  have hc40 := hc31.k0 g34
  refine L_pu (P_assign (vb false) rfl) ?_
  refine L_nil ?_
  refine W_seq ?_
  refine W_seq ?_
  refine W_reg ?_
  refine L_pu (P_fa fa71_0 ⟨b24, 0, none⟩ ⟨b24, 0, none⟩ rfl rfl) ?_
  have h41 := (h30.st (.new _ g34))
  refine L_pu (P_ld ag9 cL ⟨b24, 0, none⟩ (vs a.Id) rfl (h41.cell rfl)) ?_
  refine L_pu (P_fa fa71_0 ⟨b33, 0, none⟩ ⟨b33, 0, none⟩ rfl rfl) ?_
  refine L_pu (P_ld ag9 cL ⟨b33, 0, none⟩ (vs b.Id) rfl (h39.cell rfl)) ?_
  refine L_pu (P_scmp a.Id b.Id (a.Id != b.Id) rfl rfl rfl) ?_
  refine L_nil ?_
  refine W_cond (a.Id != b.Id) rfl (fun hq42 => ?_) (fun hq42 => ?_)
  · have H := ite_t H hq42
    refine W_seq ?_
    refine W_reg ?_
    refine L_pu (P_assign (vb false) rfl) ?_
    refine L_nil ?_
    refine W_ret ?_
    exact ⟨[vb false], ⟨_, rfl, rfl⟩, false, rfl, H, hc40.gr.g0⟩
  · have H := ite_f H hq42
    refine W_skip ?_
    refine W_seq ?_
    refine W_seq ?_
    refine W_reg ?_
    refine L_pu (P_fa fa71_1 ⟨b24, 0, none⟩ ⟨b24, 1, none⟩ rfl rfl) ?_
    refine L_pu (P_lda ag68 sz68 cL ⟨b24, 1, none⟩ [vi a.Shape.Kind, .slice A2 n3 c4] rfl rfl (h41.cells (off := 1) rfl)) ?_
    refine L_pu (P_fa fa71_1 ⟨b33, 0, none⟩ ⟨b33, 1, none⟩ rfl rfl) ?_
    refine L_pu (P_lda ag68 sz68 cL ⟨b33, 1, none⟩ [vi b.Shape.Kind, .slice A13 n14 c15] rfl rfl (h39.cells (off := 1) rfl)) ?_
    refine L_call go103 [.agg #[vi a.Shape.Kind, .slice A2 n3 c4], .agg #[vi b.Shape.Kind, .slice A13 n14 c15]] rfl ((laws_eqShape.calls w32 hc40.ok a.Shape A2 n3 c4 (hp5.st hc40.st) b.Shape A13 n14 c15 (hp16.st hc40.st) _ H).mono ?_)
    rintro _ w43 ⟨r, rfl, H, g44⟩
    have hc48 := hc40.k0 g44
    refine L_pu (P_not r rfl) ?_
    refine L_nil ?_
    refine W_cond (!r) rfl (fun hq49 => ?_) (fun hq49 => ?_)
    · have H := ite_t H hq49
      refine W_seq ?_
      refine W_reg ?_
      refine L_pu (P_assign (vb false) rfl) ?_
      refine L_nil ?_
      refine W_ret ?_
      exact ⟨[vb false], ⟨_, rfl, rfl⟩, false, rfl, H, hc48.gr.g0⟩
    · have H := ite_f H hq49
      refine W_skip ?_
      refine W_seq ?_
      refine W_seq ?_
      refine W_reg ?_
      refine L_pu (P_fa fa71_2 ⟨b24, 0, none⟩ ⟨b24, 3, none⟩ rfl rfl) ?_
      have h50 := (h41.st (.new _ g44))
      refine L_pu (P_ld ag69 cL ⟨b24, 3, none⟩ (.slice A7 n8 c9) rfl (h50.cell rfl)) ?_
      refine L_pu (P_fa fa71_2 ⟨b33, 0, none⟩ ⟨b33, 3, none⟩ rfl rfl) ?_
      have h51 := (h39.st (.new _ g44))
      refine L_pu (P_ld ag69 cL ⟨b33, 3, none⟩ (.slice A18 n19 c20) rfl (h51.cell rfl)) ?_
      refine L_call go104 [.slice A7 n8 c9, .slice A18 n19 c20] rfl ((laws_eqTagS.calls w43 hc48.ok a.Tags A7 n8 c9 (hp10.st hc48.st) b.Tags A18 n19 c20 (hp21.st hc48.st) _ H).mono ?_)
      rintro _ w52 ⟨r2, rfl, H, g53⟩
      have hc57 := hc48.k0 g53
      refine L_pu (P_not r2 rfl) ?_
      refine L_nil ?_
      refine W_cond (!r2) rfl (fun hq58 => ?_) (fun hq58 => ?_)
      · have H := ite_t H hq58
        refine W_seq ?_
        refine W_reg ?_
        refine L_pu (P_assign (vb false) rfl) ?_
        refine L_nil ?_
        refine W_ret ?_
        exact ⟨[vb false], ⟨_, rfl, rfl⟩, false, rfl, H, hc57.gr.g0⟩
      · have H := ite_f H hq58
        refine W_skip ?_
        refine W_seq ?_
        refine W_reg ?_
        refine L_pu (P_assign (vb true) rfl) ?_
        refine L_nil ?_
        refine W_ret ?_
        exact ⟨[vb true], ⟨_, rfl, rfl⟩, true, rfl, H, hc57.gr.g0⟩
end Go.Proofs.Ytndjggncgpjolaa

namespace Go.Proofs.Ytndjggncgpjolaa
set_option linter.unusedVariables false
set_option linter.unusedSimpArgs false
set_option linter.unusedSectionVars false
theorem laws_eqFeat.law (a b : Feat) (Q : Bool → Prop) (hq : Q (decide (a = b))) : laws_eqFeat.E a b Q := by
  obtain ⟨x0, x1, x2⟩ := a; obtain ⟨y0, y1, y2⟩ := b
  rw [show (decide ((⟨x0, x1, x2⟩ : Feat) = ⟨y0, y1, y2⟩)) = ((decide (x0 = y0)) && ((decide (x1 = y1)) && (decide (x2 = y2)))) by simp only [Feat.mk.injEq, Bool.decide_and]] at hq
  unfold laws_eqFeat.E
  by_cases h0 : x0 = y0
  case neg => simpa [h0] using hq
  simp only [h0, decide_true, Bool.true_and, bne_self_eq_false, Bool.not_true, Bool.false_eq_true, if_false] at hq ⊢
  try refine laws_eqShape.law _ _ _ ?_
  by_cases h1 : x1 = y1
  case neg => simpa [h1] using hq
  simp only [h1, decide_true, Bool.true_and, bne_self_eq_false, Bool.not_true, Bool.false_eq_true, if_false] at hq ⊢
  try refine laws_eqTagS.law _ _ _ ?_
  by_cases h2 : x2 = y2
  case neg => simpa [h2] using hq
  simp only [h2, decide_true, Bool.true_and, bne_self_eq_false, Bool.not_true, Bool.false_eq_true, if_false] at hq ⊢
  all_goals (try exact hq)
theorem laws_eqFeat.is (a b : Feat) : laws_eqFeat.E a b (fun r => r = decide (a = b)) := laws_eqFeat.law a b _ rfl
end Go.Proofs.Ytndjggncgpjolaa

namespace Go.Proofs.Ytndjggncgpjolaa
open Go.RowKit
set_option linter.unusedVariables false
def laws_eqChange.E (a : Change) (b : Change) (Q : Bool → Prop) : Prop :=
  (if a.Id != b.Id then Q false else (if a.Had != b.Had then Q false else laws_eqFeat.E a.Was b.Was (fun r => (if !r then Q false else (if a.Has != b.Has then Q false else laws_eqFeat.E a.Now b.Now (fun r2 => (if !r2 then Q false else Q true)))))))
set_option maxHeartbeats 8000000 in
set_option maxRecDepth 100000 in
theorem laws_eqChange.calls {O : Ob} (w0 : World) (hO : Ok w0 O) (a : Change) (A3 : Option Addr) (n4 c5 : Nat) (A8 : Option Addr) (n9 c10 : Nat) (A14 : Option Addr) (n15 c16 : Nat) (A19 : Option Addr) (n20 c21 : Nat) (hs1 : Lim a.Id) (hs2 : Lim a.Was.Id) (hp6 : Sl kPt w0 (Fr O) (.slice A3 n4 c5) a.Was.Shape.Pts) (hp11 : Sl kTag w0 (Fr O) (.slice A8 n9 c10) a.Was.Tags) (hs13 : Lim a.Now.Id) (hp17 : Sl kPt w0 (Fr O) (.slice A14 n15 c16) a.Now.Shape.Pts) (hp22 : Sl kTag w0 (Fr O) (.slice A19 n20 c21) a.Now.Tags) (b : Change) (A26 : Option Addr) (n27 c28 : Nat) (A31 : Option Addr) (n32 c33 : Nat) (A37 : Option Addr) (n38 c39 : Nat) (A42 : Option Addr) (n43 c44 : Nat) (hs24 : Lim b.Id) (hs25 : Lim b.Was.Id) (hp29 : Sl kPt w0 (Fr O) (.slice A26 n27 c28) b.Was.Shape.Pts) (hp34 : Sl kTag w0 (Fr O) (.slice A31 n32 c33) b.Was.Tags) (hs36 : Lim b.Now.Id) (hp40 : Sl kPt w0 (Fr O) (.slice A37 n38 c39) b.Now.Shape.Pts) (hp45 : Sl kTag w0 (Fr O) (.slice A42 n43 c44) b.Now.Tags) (Q : Bool → Prop) (h : laws_eqChange.E a b Q) :
    Ret Try.prog 66 [.agg #[vs a.Id, vb a.Had, vs a.Was.Id, vi a.Was.Shape.Kind, .slice A3 n4 c5, .slice A8 n9 c10, vb a.Has, vs a.Now.Id, vi a.Now.Shape.Kind, .slice A14 n15 c16, .slice A19 n20 c21], .agg #[vs b.Id, vb b.Had, vs b.Was.Id, vi b.Was.Shape.Kind, .slice A26 n27 c28, .slice A31 n32 c33, vb b.Has, vs b.Now.Id, vi b.Now.Shape.Kind, .slice A37 n38 c39, .slice A42 n43 c44]] w0 (fun v w' => ∃ (r0 : Bool), v = vb r0 ∧ Q r0 ∧ Gr w0 w' none) := by
  have H : (if a.Id != b.Id then Q false else (if a.Had != b.Had then Q false else laws_eqFeat.E a.Was b.Was (fun r => (if !r then Q false else (if a.Has != b.Has then Q false else laws_eqFeat.E a.Now b.Now (fun r2 => (if !r2 then Q false else Q true))))))) := h
  clear h
  have hc0 := Ct.init hO
  refine Ret_enter Try.func66 rfl 32 rfl [.tmp 4] rfl rfl ?_
  refine W_seq ?_
  refine W_reg ?_
  refine L_box [vs a.Id, vb a.Had, vs a.Was.Id, vi a.Was.Shape.Kind, .slice A3 n4 c5, .slice A8 n9 c10, vb a.Has, vs a.Now.Id, vi a.Now.Shape.Kind, .slice A14 n15 c16, .slice A19 n20 c21] rfl fun w47 b48 hl50 hu51 g49 hx52 => ?_
  have h54 := Fb.mk hc0.ok hl50 hx52
  have hc55 := hc0.k0 g49
  refine L_box [vs b.Id, vb b.Had, vs b.Was.Id, vi b.Was.Shape.Kind, .slice A26 n27 c28, .slice A31 n32 c33, vb b.Has, vs b.Now.Id, vi b.Now.Shape.Kind, .slice A37 n38 c39, .slice A42 n43 c44] rfl fun w56 b57 hl59 hu60 g58 hx61 => ?_
  have h63 := Fb.mk hc55.ok hl59 hx61
  have hc64 := hc55.k0 g58
  refine L_pu (P_assign (vb false) rfl) ?_
  refine L_nil ?_
  refine W_seq ?_
  refine W_seq ?_
  refine W_reg ?_
  refine L_pu (P_fa fa103_0 ⟨b48, 0, none⟩ ⟨b48, 0, none⟩ rfl rfl) ?_
  have h65 := (h54.st (.new _ g58))
  refine L_pu (P_ld ag9 cL ⟨b48, 0, none⟩ (vs a.Id) rfl (h65.cell rfl)) ?_
  refine L_pu (P_fa fa103_0 ⟨b57, 0, none⟩ ⟨b57, 0, none⟩ rfl rfl) ?_
  refine L_pu (P_ld ag9 cL ⟨b57, 0, none⟩ (vs b.Id) rfl (h63.cell rfl)) ?_
  refine L_pu (P_scmp a.Id b.Id (a.Id != b.Id) rfl rfl rfl) ?_
  refine L_nil ?_
  refine W_cond (a.Id != b.Id) rfl (fun hq66 => ?_) (fun hq66 => ?_)
  · have H := ite_t H hq66
    refine W_seq ?_
    refine W_reg ?_
    refine L_pu (P_assign (vb false) rfl) ?_
    refine L_nil ?_
    refine W_ret ?_
    exact ⟨[vb false], ⟨_, rfl, rfl⟩, false, rfl, H, hc64.gr.g0⟩
  · have H := ite_f H hq66
    refine W_skip ?_
    refine W_seq ?_
    refine W_seq ?_
    refine W_reg ?_
    refine L_pu (P_fa fa103_1 ⟨b48, 0, none⟩ ⟨b48, 1, none⟩ rfl rfl) ?_
    refine L_pu (P_ld ag4 cL ⟨b48, 1, none⟩ (vb a.Had) rfl (h65.cell rfl)) ?_
    refine L_pu (P_fa fa103_1 ⟨b57, 0, none⟩ ⟨b57, 1, none⟩ rfl rfl) ?_
    refine L_pu (P_ld ag4 cL ⟨b57, 1, none⟩ (vb b.Had) rfl (h63.cell rfl)) ?_
    refine L_pu (P_bcmp Try.underlying4 a.Had b.Had (a.Had != b.Had) rfl rfl rfl) ?_
    refine L_nil ?_
    refine W_cond (a.Had != b.Had) rfl (fun hq67 => ?_) (fun hq67 => ?_)
    · have H := ite_t H hq67
      refine W_seq ?_
      refine W_reg ?_
      refine L_pu (P_assign (vb false) rfl) ?_
      refine L_nil ?_
      refine W_ret ?_
      exact ⟨[vb false], ⟨_, rfl, rfl⟩, false, rfl, H, hc64.gr.g0⟩
    · have H := ite_f H hq67
      refine W_skip ?_
      refine W_seq ?_
      refine W_seq ?_
      refine W_reg ?_
      refine L_pu (P_fa fa103_2 ⟨b48, 0, none⟩ ⟨b48, 2, none⟩ rfl rfl) ?_
      refine L_pu (P_lda ag71 sz71 cL ⟨b48, 2, none⟩ [vs a.Was.Id, vi a.Was.Shape.Kind, .slice A3 n4 c5, .slice A8 n9 c10] rfl rfl (h65.cells (off := 2) rfl)) ?_
      refine L_pu (P_fa fa103_2 ⟨b57, 0, none⟩ ⟨b57, 2, none⟩ rfl rfl) ?_
      refine L_pu (P_lda ag71 sz71 cL ⟨b57, 2, none⟩ [vs b.Was.Id, vi b.Was.Shape.Kind, .slice A26 n27 c28, .slice A31 n32 c33] rfl rfl (h63.cells (off := 2) rfl)) ?_
      refine L_call go37 [.agg #[vs a.Was.Id, vi a.Was.Shape.Kind, .slice A3 n4 c5, .slice A8 n9 c10], .agg #[vs b.Was.Id, vi b.Was.Shape.Kind, .slice A26 n27 c28, .slice A31 n32 c33]] rfl ((laws_eqFeat.calls w56 hc64.ok a.Was A3 n4 c5 A8 n9 c10 hs2 (hp6.st hc64.st) (hp11.st hc64.st) b.Was A26 n27 c28 A31 n32 c33 hs25 (hp29.st hc64.st) (hp34.st hc64.st) _ H).mono ?_)
      rintro _ w68 ⟨r, rfl, H, g69⟩
      have hc73 := hc64.k0 g69
      refine L_pu (P_not r rfl) ?_
      refine L_nil ?_
      refine W_cond (!r) rfl (fun hq74 => ?_) (fun hq74 => ?_)
      · have H := ite_t H hq74
        refine W_seq ?_
        refine W_reg ?_
        refine L_pu (P_assign (vb false) rfl) ?_
        refine L_nil ?_
        refine W_ret ?_
        exact ⟨[vb false], ⟨_, rfl, rfl⟩, false, rfl, H, hc73.gr.g0⟩
      · have H := ite_f H hq74
        refine W_skip ?_
        refine W_seq ?_
        refine W_seq ?_
        refine W_reg ?_
        refine L_pu (P_fa fa103_3 ⟨b48, 0, none⟩ ⟨b48, 6, none⟩ rfl rfl) ?_
        have h75 := (h65.st (.new _ g69))
        refine L_pu (P_ld ag4 cL ⟨b48, 6, none⟩ (vb a.Has) rfl (h75.cell rfl)) ?_
        refine L_pu (P_fa fa103_3 ⟨b57, 0, none⟩ ⟨b57, 6, none⟩ rfl rfl) ?_
        have h76 := (h63.st (.new _ g69))
        refine L_pu (P_ld ag4 cL ⟨b57, 6, none⟩ (vb b.Has) rfl (h76.cell rfl)) ?_
        refine L_pu (P_bcmp Try.underlying4 a.Has b.Has (a.Has != b.Has) rfl rfl rfl) ?_
        refine L_nil ?_
        refine W_cond (a.Has != b.Has) rfl (fun hq77 => ?_) (fun hq77 => ?_)
        · have H := ite_t H hq77
          refine W_seq ?_
          refine W_reg ?_
          refine L_pu (P_assign (vb false) rfl) ?_
          refine L_nil ?_
          refine W_ret ?_
          exact ⟨[vb false], ⟨_, rfl, rfl⟩, false, rfl, H, hc73.gr.g0⟩
        · have H := ite_f H hq77
          refine W_skip ?_
          refine W_seq ?_
          refine W_seq ?_
          refine W_reg ?_
          refine L_pu (P_fa fa103_4 ⟨b48, 0, none⟩ ⟨b48, 7, none⟩ rfl rfl) ?_
          refine L_pu (P_lda ag71 sz71 cL ⟨b48, 7, none⟩ [vs a.Now.Id, vi a.Now.Shape.Kind, .slice A14 n15 c16, .slice A19 n20 c21] rfl rfl (h75.cells (off := 7) rfl)) ?_
          refine L_pu (P_fa fa103_4 ⟨b57, 0, none⟩ ⟨b57, 7, none⟩ rfl rfl) ?_
          refine L_pu (P_lda ag71 sz71 cL ⟨b57, 7, none⟩ [vs b.Now.Id, vi b.Now.Shape.Kind, .slice A37 n38 c39, .slice A42 n43 c44] rfl rfl (h76.cells (off := 7) rfl)) ?_
          refine L_call go37 [.agg #[vs a.Now.Id, vi a.Now.Shape.Kind, .slice A14 n15 c16, .slice A19 n20 c21], .agg #[vs b.Now.Id, vi b.Now.Shape.Kind, .slice A37 n38 c39, .slice A42 n43 c44]] rfl ((laws_eqFeat.calls w68 hc73.ok a.Now A14 n15 c16 A19 n20 c21 hs13 (hp17.st hc73.st) (hp22.st hc73.st) b.Now A37 n38 c39 A42 n43 c44 hs36 (hp40.st hc73.st) (hp45.st hc73.st) _ H).mono ?_)
          rintro _ w78 ⟨r2, rfl, H, g79⟩
          have hc83 := hc73.k0 g79
          refine L_pu (P_not r2 rfl) ?_
          refine L_nil ?_
          refine W_cond (!r2) rfl (fun hq84 => ?_) (fun hq84 => ?_)
          · have H := ite_t H hq84
            refine W_seq ?_
            refine W_reg ?_
            refine L_pu (P_assign (vb false) rfl) ?_
            refine L_nil ?_
            refine W_ret ?_
            exact ⟨[vb false], ⟨_, rfl, rfl⟩, false, rfl, H, hc83.gr.g0⟩
          · have H := ite_f H hq84
            refine W_skip ?_
            refine W_seq ?_
            refine W_reg ?_
            refine L_pu (P_assign (vb true) rfl) ?_
            refine L_nil ?_
            refine W_ret ?_
            exact ⟨[vb true], ⟨_, rfl, rfl⟩, true, rfl, H, hc83.gr.g0⟩
end Go.Proofs.Ytndjggncgpjolaa

namespace Go.Proofs.Ytndjggncgpjolaa
set_option linter.unusedVariables false
set_option linter.unusedSimpArgs false
set_option linter.unusedSectionVars false
theorem laws_eqChange.law (a b : Change) (Q : Bool → Prop) (hq : Q (decide (a = b))) : laws_eqChange.E a b Q := by
  obtain ⟨x0, x1, x2, x3, x4⟩ := a; obtain ⟨y0, y1, y2, y3, y4⟩ := b
  rw [show (decide ((⟨x0, x1, x2, x3, x4⟩ : Change) = ⟨y0, y1, y2, y3, y4⟩)) = ((decide (x0 = y0)) && ((decide (x1 = y1)) && ((decide (x2 = y2)) && ((decide (x3 = y3)) && (decide (x4 = y4)))))) by simp only [Change.mk.injEq, Bool.decide_and]] at hq
  unfold laws_eqChange.E
  by_cases h0 : x0 = y0
  case neg => simpa [h0] using hq
  simp only [h0, decide_true, Bool.true_and, bne_self_eq_false, Bool.not_true, Bool.false_eq_true, if_false] at hq ⊢
  by_cases h1 : x1 = y1
  case neg => simpa [h1] using hq
  simp only [h1, decide_true, Bool.true_and, bne_self_eq_false, Bool.not_true, Bool.false_eq_true, if_false] at hq ⊢
  try refine laws_eqFeat.law _ _ _ ?_
  by_cases h2 : x2 = y2
  case neg => simpa [h2] using hq
  simp only [h2, decide_true, Bool.true_and, bne_self_eq_false, Bool.not_true, Bool.false_eq_true, if_false] at hq ⊢
  by_cases h3 : x3 = y3
  case neg => simpa [h3] using hq
  simp only [h3, decide_true, Bool.true_and, bne_self_eq_false, Bool.not_true, Bool.false_eq_true, if_false] at hq ⊢
  try refine laws_eqFeat.law _ _ _ ?_
  by_cases h4 : x4 = y4
  case neg => simpa [h4] using hq
  simp only [h4, decide_true, Bool.true_and, bne_self_eq_false, Bool.not_true, Bool.false_eq_true, if_false] at hq ⊢
  all_goals (try exact hq)
theorem laws_eqChange.is (a b : Change) : laws_eqChange.E a b (fun r => r = decide (a = b)) := laws_eqChange.law a b _ rfl
end Go.Proofs.Ytndjggncgpjolaa

namespace Go.Proofs.Ytndjggncgpjolaa
open Go.RowKit
set_option linter.unusedVariables false
def laws_eqChangeS.E (a : List Change) (b : List Change) (Q : Bool → Prop) : Prop :=
  (if (a.length : Int) != (b.length : Int) then Q false else (∃ (I32 : Int → Prop) (mu33 : Int → Nat), I32 0 ∧ ∀ (i2 : Int), I32 i2 → (if decide (i2 < (a.length : Int)) then ((0 : Int) ≤ i2 ∧ i2 < (a.length : Int)) ∧ ((0 : Int) ≤ i2 ∧ i2 < (b.length : Int)) ∧ (if !(decide ((nth a i2) = (nth b i2))) then Q false else (-9223372036854775808 ≤ i2) ∧ I32 (i2 + 1) ∧ mu33 (i2 + 1) < mu33 i2) else Q true)))
set_option maxHeartbeats 8000000 in
set_option maxRecDepth 100000 in
theorem laws_eqChangeS.calls {O : Ob} (w0 : World) (hO : Ok w0 O) (a : List Change) (A1 : Option Addr) (n2 c3 : Nat) (hp4 : Sl kChange w0 (Fr O) (.slice A1 n2 c3) a) (b : List Change) (A6 : Option Addr) (n7 c8 : Nat) (hp9 : Sl kChange w0 (Fr O) (.slice A6 n7 c8) b) (Q : Bool → Prop) (h : laws_eqChangeS.E a b Q) :
    Ret Try.prog 22 [.slice A1 n2 c3, .slice A6 n7 c8] w0 (fun v w' => ∃ (r0 : Bool), v = vb r0 ∧ Q r0 ∧ Gr w0 w' none) := by
  have H : (if (a.length : Int) != (b.length : Int) then Q false else (∃ (I32 : Int → Prop) (mu33 : Int → Nat), I32 0 ∧ ∀ (i2 : Int), I32 i2 → (if decide (i2 < (a.length : Int)) then ((0 : Int) ≤ i2 ∧ i2 < (a.length : Int)) ∧ ((0 : Int) ≤ i2 ∧ i2 < (b.length : Int)) ∧ (if !(decide ((nth a i2) = (nth b i2))) then Q false else (-9223372036854775808 ≤ i2) ∧ I32 (i2 + 1) ∧ mu33 (i2 + 1) < mu33 i2) else Q true))) := h
  clear h
  have hc0 := Ct.init hO
  refine Ret_enter Try.func22 rfl 27 rfl [.tmp 4] rfl rfl ?_
  refine W_seq ?_
  refine W_reg ?_
  refine L_pu (P_assign (vb false) rfl) ?_
  refine L_nil ?_
  refine W_seq ?_
  refine W_seq ?_
  refine W_reg ?_
  refine L_pu (P_move (.slice A1 n2 c3) rfl) ?_
  have hl11 := hp4.le
  refine L_pu (P_len Try.underlying43 A1 n2 c3 hp4.len rfl) ?_
  refine L_pu (P_move (.slice A6 n7 c8) rfl) ?_
  have hl12 := hp9.le
  refine L_pu (P_len Try.underlying43 A6 n7 c8 hp9.len rfl) ?_
  refine L_pu (P_cmp (a.length : Int) (b.length : Int) ((a.length : Int) != (b.length : Int)) rfl rfl rfl) ?_
  refine L_nil ?_
  refine W_cond ((a.length : Int) != (b.length : Int)) rfl (fun hq13 => ?_) (fun hq13 => ?_)
  · have H := ite_t H hq13
    refine W_seq ?_
    refine W_reg ?_
    refine L_pu (P_assign (vb false) rfl) ?_
    refine L_nil ?_
    refine W_ret ?_
    exact ⟨[vb false], ⟨_, rfl, rfl⟩, false, rfl, H, hc0.gr.g0⟩
  · have H := ite_f H hq13
    refine W_skip ?_
    refine W_seq ?_
    refine W_seq ?_
    refine W_reg ?_
    refine L_pu (P_assign (vi 0) rfl) ?_
    refine L_nil ?_
    refine W_block ?_
    obtain ⟨I32, mu33, hI34, H⟩ := H
    refine W_loop (α := Int) (fun (sv__ : Int) t w26 => match sv__ with | i2 => I32 i2 ∧ Has t [(0, .slice A1 n2 c3), (1, .slice A6 n7 c8), (5, vi i2)] ∧ Ct [] w0 w26 [] O ∧ Sl kChange w26 (Fr ([] ++ O)) (.slice A1 n2 c3) a ∧ Sl kChange w26 (Fr ([] ++ O)) (.slice A6 n7 c8) b) (fun (sv__ : Int) => match sv__ with | i2 => mu33 i2) 0 ⟨hI34, ⟨rfl, rfl, rfl, trivial⟩, hc0, hp4, hp9⟩ ?_
    rintro i2 _ w26 ⟨hI34, hh36, hc29, h30, h31⟩
    obtain ⟨u37, rfl⟩ := Has.ins hh36
    have H := H i2 hI34
    refine W_seq ?_
    refine W_seq ?_
    refine W_reg ?_
    refine L_pu (P_move (vi i2) rfl) ?_
    refine L_pu (P_move (.slice A1 n2 c3) rfl) ?_
    have hl38 := h30.le
    refine L_pu (P_len Try.underlying43 A1 n2 c3 h30.len rfl) ?_
    refine L_pu (P_cmp i2 (a.length : Int) (decide (i2 < (a.length : Int))) rfl rfl rfl) ?_
    refine L_nil ?_
    refine W_cond (decide (i2 < (a.length : Int))) rfl (fun hq39 => ?_) (fun hq39 => ?_)
    · have H := ite_t H hq39
      refine W_skip ?_
      refine W_seq ?_
      refine W_block ?_
      refine W_seq ?_
      refine W_draw (fun x => Gr w26 x none) (by kernel_rfl) (by kernel_rfl) (Gr.drew _) ?_
      refine Q_pu (P_move (.slice A1 n2 c3) rfl) ?_
      refine Q_pu (P_move (vi i2) rfl) ?_
      obtain ⟨hb40, H⟩ := H
      obtain ⟨ad41, cs42, hA43, hS46, hR44, hcl45⟩ := h30.get default (by decide) i2 hb40
      obtain ⟨A49, n50, c51, A54, n55, c56, A60, n61, c62, A65, n66, c67, rfl, hs47, hs48, h52, h57, hs59, h63, h68⟩ := kChange.op hR44
      refine Q_pu (P_ia Try.underlying43 se43 A1 ad41 n2 c3 h30.len i2 rfl hA43 rfl hb40) ?_
      refine Q_pu (P_lda ag103 sz103 cQ (ad41.add (i2.toNat * 11)) [vs ((nth a i2).Id), vb ((nth a i2).Had), vs ((nth a i2).Was.Id), vi ((nth a i2).Was.Shape.Kind), .slice A49 n50 c51, .slice A54 n55 c56, vb ((nth a i2).Has), vs ((nth a i2).Now.Id), vi ((nth a i2).Now.Shape.Kind), .slice A60 n61 c62, .slice A65 n66 c67] rfl rfl hcl45) ?_
      refine Q_pu (P_move (.slice A6 n7 c8) rfl) ?_
      refine Q_pu (P_move (vi i2) rfl) ?_
      obtain ⟨hb70, H⟩ := H
      obtain ⟨ad71, cs72, hA73, hS76, hR74, hcl75⟩ := h31.get default (by decide) i2 hb70
      obtain ⟨A79, n80, c81, A84, n85, c86, A90, n91, c92, A95, n96, c97, rfl, hs77, hs78, h82, h87, hs89, h93, h98⟩ := kChange.op hR74
      refine Q_pu (P_ia Try.underlying43 se43 A6 ad71 n7 c8 h31.len i2 rfl hA73 rfl hb70) ?_
      refine Q_pu (P_lda ag103 sz103 cQ (ad71.add (i2.toNat * 11)) [vs ((nth b i2).Id), vb ((nth b i2).Had), vs ((nth b i2).Was.Id), vi ((nth b i2).Was.Shape.Kind), .slice A79 n80 c81, .slice A84 n85 c86, vb ((nth b i2).Has), vs ((nth b i2).Now.Id), vi ((nth b i2).Now.Shape.Kind), .slice A90 n91 c92, .slice A95 n96 c97] rfl rfl hcl75) ?_
      refine Q_call go66 [.agg #[vs ((nth a i2).Id), vb ((nth a i2).Had), vs ((nth a i2).Was.Id), vi ((nth a i2).Was.Shape.Kind), .slice A49 n50 c51, .slice A54 n55 c56, vb ((nth a i2).Has), vs ((nth a i2).Now.Id), vi ((nth a i2).Now.Shape.Kind), .slice A60 n61 c62, .slice A65 n66 c67], .agg #[vs ((nth b i2).Id), vb ((nth b i2).Had), vs ((nth b i2).Was.Id), vi ((nth b i2).Was.Shape.Kind), .slice A79 n80 c81, .slice A84 n85 c86, vb ((nth b i2).Has), vs ((nth b i2).Now.Id), vi ((nth b i2).Now.Shape.Kind), .slice A90 n91 c92, .slice A95 n96 c97]] rfl (vb (decide ((nth a i2) = (nth b i2)))) (fun w g => (laws_eqChange.calls w (hc29.k0 g).ok (nth a i2) A49 n50 c51 A54 n55 c56 A60 n61 c62 A65 n66 c67 hs47 hs48 (h52.st (.new _ g)) (h57.st (.new _ g)) hs59 (h63.st (.new _ g)) (h68.st (.new _ g)) (nth b i2) A79 n80 c81 A84 n85 c86 A90 n91 c92 A95 n96 c97 hs77 hs78 (h82.st (.new _ g)) (h87.st (.new _ g)) hs89 (h93.st (.new _ g)) (h98.st (.new _ g)) _ (laws_eqChange.is (nth a i2) (nth b i2))).mono ?_) ?_
      · rintro _ w ⟨r, rfl, rfl, g2⟩
        exact ⟨rfl, Gr.t0 g g2⟩
      refine Q_pu (P_not (decide ((nth a i2) = (nth b i2))) rfl) ?_
      refine Q_nil fun w105 g106 => ?_
      have hc108 := hc29.k0 g106
      refine W_cond (!(decide ((nth a i2) = (nth b i2)))) rfl (fun hq109 => ?_) (fun hq109 => ?_)
      · have H := ite_t H hq109
        refine W_seq ?_
        refine W_reg ?_
        refine L_pu (P_assign (vb false) rfl) ?_
        refine L_nil ?_
        refine W_ret ?_
        exact ⟨[vb false], ⟨_, rfl, rfl⟩, false, rfl, H, hc108.gr.g0⟩
      · have H := ite_f H hq109
        refine W_skip ?_
        refine W_reg ?_
        refine L_pu (P_move (vi i2) rfl) ?_
        obtain ⟨hb111, H⟩ := H
        have hi110 : I64 (i2 + 1) := i64_succ (of_decide_eq_true hq39) hl38 hb111
        refine L_pu (P_add i2 1 rfl rfl hi110) ?_
        refine L_pu (P_assign (vi (i2 + 1)) rfl) ?_
        refine L_nil ?_
        obtain ⟨hI112, hm113⟩ := H
        exact ⟨i2 + 1, hm113, hI112, ⟨rfl, rfl, rfl, trivial⟩, hc108, (h30.st (.new _ g106)), (h31.st (.new _ g106))⟩
    · have H := ite_f H hq39
      refine W_exit (xin_hit ?_)
      refine W_seq ?_
      refine W_reg ?_
      refine L_pu (P_assign (vb true) rfl) ?_
      refine L_nil ?_
      refine W_ret ?_
      exact ⟨[vb true], ⟨_, rfl, rfl⟩, true, rfl, H, hc29.gr.g0⟩
end Go.Proofs.Ytndjggncgpjolaa

namespace Go.Proofs.Ytndjggncgpjolaa
set_option linter.unusedVariables false
set_option linter.unusedSimpArgs false
set_option linter.unusedSectionVars false
theorem laws_eqChangeS.law (a b : List Change) (Q : Bool → Prop) (hq : Q (decide (a = b))) : laws_eqChangeS.E a b Q := by
  unfold laws_eqChangeS.E
  exact eqS_shape (fun x y => decide (x = y)) (fun _ _ => rfl) a b Q hq
theorem laws_eqChangeS.is (a b : List Change) : laws_eqChangeS.E a b (fun r => r = decide (a = b)) := laws_eqChangeS.law a b _ rfl
end Go.Proofs.Ytndjggncgpjolaa

namespace Go.Proofs.Ytndjggncgpjolaa
open Go.RowKit
set_option linter.unusedVariables false
def laws_eqFeatS.E (a : List Feat) (b : List Feat) (Q : Bool → Prop) : Prop :=
  (if (a.length : Int) != (b.length : Int) then Q false else (∃ (I32 : Int → Prop) (mu33 : Int → Nat), I32 0 ∧ ∀ (i2 : Int), I32 i2 → (if decide (i2 < (a.length : Int)) then ((0 : Int) ≤ i2 ∧ i2 < (a.length : Int)) ∧ ((0 : Int) ≤ i2 ∧ i2 < (b.length : Int)) ∧ (if !(decide ((nth a i2) = (nth b i2))) then Q false else (-9223372036854775808 ≤ i2) ∧ I32 (i2 + 1) ∧ mu33 (i2 + 1) < mu33 i2) else Q true)))
set_option maxHeartbeats 8000000 in
set_option maxRecDepth 100000 in
theorem laws_eqFeatS.calls {O : Ob} (w0 : World) (hO : Ok w0 O) (a : List Feat) (A1 : Option Addr) (n2 c3 : Nat) (hp4 : Sl kFeat w0 (Fr O) (.slice A1 n2 c3) a) (b : List Feat) (A6 : Option Addr) (n7 c8 : Nat) (hp9 : Sl kFeat w0 (Fr O) (.slice A6 n7 c8) b) (Q : Bool → Prop) (h : laws_eqFeatS.E a b Q) :
    Ret Try.prog 29 [.slice A1 n2 c3, .slice A6 n7 c8] w0 (fun v w' => ∃ (r0 : Bool), v = vb r0 ∧ Q r0 ∧ Gr w0 w' none) := by
  have H : (if (a.length : Int) != (b.length : Int) then Q false else (∃ (I32 : Int → Prop) (mu33 : Int → Nat), I32 0 ∧ ∀ (i2 : Int), I32 i2 → (if decide (i2 < (a.length : Int)) then ((0 : Int) ≤ i2 ∧ i2 < (a.length : Int)) ∧ ((0 : Int) ≤ i2 ∧ i2 < (b.length : Int)) ∧ (if !(decide ((nth a i2) = (nth b i2))) then Q false else (-9223372036854775808 ≤ i2) ∧ I32 (i2 + 1) ∧ mu33 (i2 + 1) < mu33 i2) else Q true))) := h
  clear h
  have hc0 := Ct.init hO
  refine Ret_enter Try.func29 rfl 27 rfl [.tmp 4] rfl rfl ?_
  refine W_seq ?_
  refine W_reg ?_
  refine L_pu (P_assign (vb false) rfl) ?_
  refine L_nil ?_
  refine W_seq ?_
  refine W_seq ?_
  refine W_reg ?_
  refine L_pu (P_move (.slice A1 n2 c3) rfl) ?_
  have hl11 := hp4.le
  refine L_pu (P_len Try.underlying52 A1 n2 c3 hp4.len rfl) ?_
  refine L_pu (P_move (.slice A6 n7 c8) rfl) ?_
  have hl12 := hp9.le
  refine L_pu (P_len Try.underlying52 A6 n7 c8 hp9.len rfl) ?_
  refine L_pu (P_cmp (a.length : Int) (b.length : Int) ((a.length : Int) != (b.length : Int)) rfl rfl rfl) ?_
  refine L_nil ?_
  refine W_cond ((a.length : Int) != (b.length : Int)) rfl (fun hq13 => ?_) (fun hq13 => ?_)
  · have H := ite_t H hq13
    refine W_seq ?_
    refine W_reg ?_
    refine L_pu (P_assign (vb false) rfl) ?_
    refine L_nil ?_
    refine W_ret ?_
    exact ⟨[vb false], ⟨_, rfl, rfl⟩, false, rfl, H, hc0.gr.g0⟩
  · have H := ite_f H hq13
    refine W_skip ?_
    refine W_seq ?_
    refine W_seq ?_
    refine W_reg ?_
    refine L_pu (P_assign (vi 0) rfl) ?_
    refine L_nil ?_
    refine W_block ?_
    obtain ⟨I32, mu33, hI34, H⟩ := H
    refine W_loop (α := Int) (fun (sv__ : Int) t w26 => match sv__ with | i2 => I32 i2 ∧ Has t [(0, .slice A1 n2 c3), (1, .slice A6 n7 c8), (5, vi i2)] ∧ Ct [] w0 w26 [] O ∧ Sl kFeat w26 (Fr ([] ++ O)) (.slice A1 n2 c3) a ∧ Sl kFeat w26 (Fr ([] ++ O)) (.slice A6 n7 c8) b) (fun (sv__ : Int) => match sv__ with | i2 => mu33 i2) 0 ⟨hI34, ⟨rfl, rfl, rfl, trivial⟩, hc0, hp4, hp9⟩ ?_
    rintro i2 _ w26 ⟨hI34, hh36, hc29, h30, h31⟩
    obtain ⟨u37, rfl⟩ := Has.ins hh36
    have H := H i2 hI34
    refine W_seq ?_
    refine W_seq ?_
    refine W_reg ?_
    refine L_pu (P_move (vi i2) rfl) ?_
    refine L_pu (P_move (.slice A1 n2 c3) rfl) ?_
    have hl38 := h30.le
    refine L_pu (P_len Try.underlying52 A1 n2 c3 h30.len rfl) ?_
    refine L_pu (P_cmp i2 (a.length : Int) (decide (i2 < (a.length : Int))) rfl rfl rfl) ?_
    refine L_nil ?_
    refine W_cond (decide (i2 < (a.length : Int))) rfl (fun hq39 => ?_) (fun hq39 => ?_)
    · have H := ite_t H hq39
      refine W_skip ?_
      refine W_seq ?_
      refine W_block ?_
      refine W_seq ?_
      refine W_draw (fun x => Gr w26 x none) (by kernel_rfl) (by kernel_rfl) (Gr.drew _) ?_
      refine Q_pu (P_move (.slice A1 n2 c3) rfl) ?_
      refine Q_pu (P_move (vi i2) rfl) ?_
      obtain ⟨hb40, H⟩ := H
      obtain ⟨ad41, cs42, hA43, hS46, hR44, hcl45⟩ := h30.get default (by decide) i2 hb40
      obtain ⟨A48, n49, c50, A53, n54, c55, rfl, hs47, h51, h56⟩ := kFeat.op hR44
      refine Q_pu (P_ia Try.underlying52 se52 A1 ad41 n2 c3 h30.len i2 rfl hA43 rfl hb40) ?_
      refine Q_pu (P_lda ag71 sz71 cQ (ad41.add (i2.toNat * 4)) [vs ((nth a i2).Id), vi ((nth a i2).Shape.Kind), .slice A48 n49 c50, .slice A53 n54 c55] rfl rfl hcl45) ?_
      refine Q_pu (P_move (.slice A6 n7 c8) rfl) ?_
      refine Q_pu (P_move (vi i2) rfl) ?_
      obtain ⟨hb58, H⟩ := H
      obtain ⟨ad59, cs60, hA61, hS64, hR62, hcl63⟩ := h31.get default (by decide) i2 hb58
      obtain ⟨A66, n67, c68, A71, n72, c73, rfl, hs65, h69, h74⟩ := kFeat.op hR62
      refine Q_pu (P_ia Try.underlying52 se52 A6 ad59 n7 c8 h31.len i2 rfl hA61 rfl hb58) ?_
      refine Q_pu (P_lda ag71 sz71 cQ (ad59.add (i2.toNat * 4)) [vs ((nth b i2).Id), vi ((nth b i2).Shape.Kind), .slice A66 n67 c68, .slice A71 n72 c73] rfl rfl hcl63) ?_
      refine Q_call go37 [.agg #[vs ((nth a i2).Id), vi ((nth a i2).Shape.Kind), .slice A48 n49 c50, .slice A53 n54 c55], .agg #[vs ((nth b i2).Id), vi ((nth b i2).Shape.Kind), .slice A66 n67 c68, .slice A71 n72 c73]] rfl (vb (decide ((nth a i2) = (nth b i2)))) (fun w g => (laws_eqFeat.calls w (hc29.k0 g).ok (nth a i2) A48 n49 c50 A53 n54 c55 hs47 (h51.st (.new _ g)) (h56.st (.new _ g)) (nth b i2) A66 n67 c68 A71 n72 c73 hs65 (h69.st (.new _ g)) (h74.st (.new _ g)) _ (laws_eqFeat.is (nth a i2) (nth b i2))).mono ?_) ?_
      · rintro _ w ⟨r, rfl, rfl, g2⟩
        exact ⟨rfl, Gr.t0 g g2⟩
      refine Q_pu (P_not (decide ((nth a i2) = (nth b i2))) rfl) ?_
      refine Q_nil fun w81 g82 => ?_
      have hc84 := hc29.k0 g82
      refine W_cond (!(decide ((nth a i2) = (nth b i2)))) rfl (fun hq85 => ?_) (fun hq85 => ?_)
      · have H := ite_t H hq85
        refine W_seq ?_
        refine W_reg ?_
        refine L_pu (P_assign (vb false) rfl) ?_
        refine L_nil ?_
        refine W_ret ?_
        exact ⟨[vb false], ⟨_, rfl, rfl⟩, false, rfl, H, hc84.gr.g0⟩
      · have H := ite_f H hq85
        refine W_skip ?_
        refine W_reg ?_
        refine L_pu (P_move (vi i2) rfl) ?_
        obtain ⟨hb87, H⟩ := H
        have hi86 : I64 (i2 + 1) := i64_succ (of_decide_eq_true hq39) hl38 hb87
        refine L_pu (P_add i2 1 rfl rfl hi86) ?_
        refine L_pu (P_assign (vi (i2 + 1)) rfl) ?_
        refine L_nil ?_
        obtain ⟨hI88, hm89⟩ := H
        exact ⟨i2 + 1, hm89, hI88, ⟨rfl, rfl, rfl, trivial⟩, hc84, (h30.st (.new _ g82)), (h31.st (.new _ g82))⟩
    · have H := ite_f H hq39
      refine W_exit (xin_hit ?_)
      refine W_seq ?_
      refine W_reg ?_
      refine L_pu (P_assign (vb true) rfl) ?_
      refine L_nil ?_
      refine W_ret ?_
      exact ⟨[vb true], ⟨_, rfl, rfl⟩, true, rfl, H, hc29.gr.g0⟩
end Go.Proofs.Ytndjggncgpjolaa

namespace Go.Proofs.Ytndjggncgpjolaa
set_option linter.unusedVariables false
set_option linter.unusedSimpArgs false
set_option linter.unusedSectionVars false
theorem laws_eqFeatS.law (a b : List Feat) (Q : Bool → Prop) (hq : Q (decide (a = b))) : laws_eqFeatS.E a b Q := by
  unfold laws_eqFeatS.E
  exact eqS_shape (fun x y => decide (x = y)) (fun _ _ => rfl) a b Q hq
theorem laws_eqFeatS.is (a b : List Feat) : laws_eqFeatS.E a b (fun r => r = decide (a = b)) := laws_eqFeatS.law a b _ rfl
end Go.Proofs.Ytndjggncgpjolaa

namespace Go.Proofs.Ytndjggncgpjolaa
open Go.RowKit
set_option linter.unusedVariables false
def laws_markText.E (k : Int) (Q : Str → Prop) : Prop :=
  (if decide (k ≤ 0) then Q ([109, 48] : Str) else (∃ (I10 : Int → Str → Prop) (mu11 : Int → Str → Nat), I10 k ([] : Str) ∧ ∀ (k3 : Int) (out2 : Str), I10 k3 out2 → (if decide (k3 > 0) then ((0 : Int) ≤ k3 ∧ (0 : Int) < 10) ∧ (I64 (48 + (k3 % 10))) ∧ ((0 : Int) ≤ 48 + (k3 % 10) ∧ 48 + (k3 % 10) ≤ (255 : Int)) ∧ (([(UInt8.ofNat (48 + (k3 % 10)).toNat)] : List UInt8).length + out2.length ≤ 9223372036854775807) ∧ (((0 : Int) ≤ k3 ∧ k3 ≤ (9223372036854775807 : Int)) ∧ (0 : Int) < 10) ∧ I10 (k3 / 10) (([(UInt8.ofNat (48 + (k3 % 10)).toNat)] : List UInt8) ++ out2) ∧ mu11 (k3 / 10) (([(UInt8.ofNat (48 + (k3 % 10)).toNat)] : List UInt8) ++ out2) < mu11 k3 out2 else (([109] : Str).length + out2.length ≤ 9223372036854775807) ∧ Q (([109] : Str) ++ out2))))
set_option maxHeartbeats 8000000 in
set_option maxRecDepth 100000 in
theorem laws_markText.calls {O : Ob} (w0 : World) (hO : Ok w0 O) (k : Int) (Q : Str → Prop) (h : laws_markText.E k Q) :
    Ret Try.prog 67 [vi k] w0 (fun v w' => ∃ (r0 : Str), v = vs r0 ∧ Q r0 ∧ Gr w0 w' none ∧ Lim r0) := by
  have H : (if decide (k ≤ 0) then Q ([109, 48] : Str) else (∃ (I10 : Int → Str → Prop) (mu11 : Int → Str → Nat), I10 k ([] : Str) ∧ ∀ (k3 : Int) (out2 : Str), I10 k3 out2 → (if decide (k3 > 0) then ((0 : Int) ≤ k3 ∧ (0 : Int) < 10) ∧ (I64 (48 + (k3 % 10))) ∧ ((0 : Int) ≤ 48 + (k3 % 10) ∧ 48 + (k3 % 10) ≤ (255 : Int)) ∧ (([(UInt8.ofNat (48 + (k3 % 10)).toNat)] : List UInt8).length + out2.length ≤ 9223372036854775807) ∧ (((0 : Int) ≤ k3 ∧ k3 ≤ (9223372036854775807 : Int)) ∧ (0 : Int) < 10) ∧ I10 (k3 / 10) (([(UInt8.ofNat (48 + (k3 % 10)).toNat)] : List UInt8) ++ out2) ∧ mu11 (k3 / 10) (([(UInt8.ofNat (48 + (k3 % 10)).toNat)] : List UInt8) ++ out2) < mu11 k3 out2 else (([109] : Str).length + out2.length ≤ 9223372036854775807) ∧ Q (([109] : Str) ++ out2)))) := h
  clear h
  have hc0 := Ct.init hO
  refine Ret_enter Try.func67 rfl 20 rfl [.tmp 2] rfl rfl ?_
  refine W_seq ?_
  refine W_reg ?_
  refine L_pu (P_assign (vs ([] : Str)) rfl) ?_
  refine L_nil ?_
  refine W_seq ?_
  refine W_seq ?_
  refine W_reg ?_
  refine L_pu (P_move (vi k) rfl) ?_
  refine L_pu (P_cmp k 0 (decide (k ≤ 0)) rfl rfl rfl) ?_
  refine L_nil ?_
  refine W_cond (decide (k ≤ 0)) rfl (fun hq1 => ?_) (fun hq1 => ?_)
  · have H := ite_t H hq1
    refine W_seq ?_
    refine W_reg ?_
    refine L_pu (P_assign (vs ([109, 48] : Str)) rfl) ?_
    refine L_nil ?_
    refine W_ret ?_
    exact ⟨[vs ([109, 48] : Str)], ⟨_, rfl, rfl⟩, ([109, 48] : Str), rfl, H, hc0.gr.g0, (by decide)⟩
  · have H := ite_f H hq1
    refine W_skip ?_
    refine W_seq ?_
    refine W_reg ?_
    refine L_pu (P_assign (vs ([] : Str)) rfl) ?_
    refine L_nil ?_
    refine W_seq ?_
    refine W_block ?_
    obtain ⟨I10, mu11, hI12, H⟩ := H
    refine W_loop (α := Int × Str) (fun (sv__ : Int × Str) t w7 => match sv__ with | (k3, out2) => I10 k3 out2 ∧ Has t [(0, vi k3), (3, vs out2)] ∧ Ct [] w0 w7 [] O ∧ Lim out2) (fun (sv__ : Int × Str) => match sv__ with | (k3, out2) => mu11 k3 out2) (k, ([] : Str)) ⟨hI12, ⟨rfl, rfl, trivial⟩, hc0, (by decide)⟩ ?_
    rintro ⟨k3, out2⟩ _ w7 ⟨hI12, hh14, hc9, hs8⟩
    obtain ⟨u15, rfl⟩ := Has.ins hh14
    have H := H k3 out2 hI12
    refine W_seq ?_
    refine W_seq ?_
    refine W_reg ?_
    refine L_pu (P_move (vi k3) rfl) ?_
    refine L_pu (P_cmp k3 0 (decide (k3 > 0)) rfl rfl rfl) ?_
    refine L_nil ?_
    refine W_cond (decide (k3 > 0)) rfl (fun hq16 => ?_) (fun hq16 => ?_)
    · have H := ite_t H hq16
      refine W_skip ?_
      refine W_block ?_
      refine W_seq ?_
      refine W_reg ?_
      refine L_pu (P_move (vi k3) rfl) ?_
      obtain ⟨hb17, H⟩ := H
      refine L_pu (P_rem k3 10 rfl rfl hb17) ?_
      obtain ⟨hb18, H⟩ := H
      refine L_pu (P_add 48 (k3 % 10) rfl rfl hb18) ?_
      obtain ⟨hb19, H⟩ := H
      refine L_pu (P_convb Try.underlying3 Try.underlying5 (48 + (k3 % 10)) rfl hb19) ?_
      refine L_lit (kd := Kd.byte) ei22 hc9 ([(UInt8.ofNat (48 + (k3 % 10)).toNat)] : List UInt8) (cells := [v8 (UInt8.ofNat (48 + (k3 % 10)).toNat)]) ⟨[v8 (UInt8.ofNat (48 + (k3 % 10)).toNat)], _, rfl, rfl, rfl⟩ (fun _ => by kernel_rfl) fun w20 A21 n22 c23 g24 hr25 hc26 h27 => ?_
      refine L_pu (P_b2s Try.underlying22 Try.underlying5 Try.underlying9 A21 n22 c23 ([(UInt8.ofNat (48 + (k3 % 10)).toNat)] : List UInt8) rfl (fun _ e => e ▸ ⟨_, h27.sx⟩)) ?_
      have hs29 : Lim ([(UInt8.ofNat (48 + (k3 % 10)).toNat)] : List UInt8) := h27.le
      refine L_pu (P_move (vs out2) rfl) ?_
      obtain ⟨hb30, H⟩ := H
      refine L_pu (P_cat ([(UInt8.ofNat (48 + (k3 % 10)).toNat)] : List UInt8) out2 rfl rfl hb30) ?_
      refine L_pu (P_assign (vs (([(UInt8.ofNat (48 + (k3 % 10)).toNat)] : List UInt8) ++ out2)) rfl) ?_
      refine L_nil ?_
      refine W_reg ?_
      refine L_pu (P_move (vi k3) rfl) ?_
      obtain ⟨hb31, H⟩ := H
      refine L_pu (P_quo k3 10 rfl rfl hb31) ?_
      refine L_pu (P_assign (vi (k3 / 10)) rfl) ?_
      refine L_nil ?_
      have hc32 := hc26.drop 0 rfl
      obtain ⟨hI33, hm34⟩ := H
      exact ⟨(k3 / 10, (([(UInt8.ofNat (48 + (k3 % 10)).toNat)] : List UInt8) ++ out2)), hm34, hI33, ⟨rfl, rfl, trivial⟩, hc32, (lim_cat hb30)⟩
    · have H := ite_f H hq16
      refine W_exit (xin_hit ?_)
      refine W_seq ?_
      refine W_reg ?_
      refine L_pu (P_move (vs out2) rfl) ?_
      obtain ⟨hb35, H⟩ := H
      refine L_pu (P_cat ([109] : Str) out2 rfl rfl hb35) ?_
      refine L_pu (P_assign (vs (([109] : Str) ++ out2)) rfl) ?_
      refine L_nil ?_
      refine W_ret ?_
      exact ⟨[vs (([109] : Str) ++ out2)], ⟨_, rfl, rfl⟩, (([109] : Str) ++ out2), rfl, H, hc9.gr.g0, (lim_cat hb35)⟩
end Go.Proofs.Ytndjggncgpjolaa

namespace Go.Proofs.Ytndjggncgpjolaa
set_option linter.unusedVariables false
set_option linter.unusedSimpArgs false
set_option linter.unusedSectionVars false
theorem laws_markText.law' (k : Int) (Q : Str → Prop) (h0 : 0 ≤ k) (h1 : k ≤ 1000000000000) (hq : Lim (tx k) → Q (tx k)) : laws_markText.E k Q := by
  unfold laws_markText.E
  by_cases hk : k ≤ 0
  · rw [if_pos (by simpa using hk)]
    have e : tx k = [109, 48] := by unfold tx; rw [if_pos hk]
    rw [e] at hq; exact hq (by decide)
  · rw [if_neg (by simpa using hk)]
    refine ⟨fun k' out => 0 ≤ k' ∧ (out.length : Int) + k' ≤ k ∧ ∃ f : Nat, k' ≤ f ∧ decA f k' out = decA k.toNat k [], fun k' _ => k'.toNat, ⟨h0, by simp, k.toNat, by omega, rfl⟩, ?_⟩
    rintro k' out ⟨h2, h3, f, h4, h5⟩
    by_cases hp : 0 < k'
    · rw [if_pos (by simpa using hp)]
      obtain ⟨f, rfl⟩ : ∃ f', f = f' + 1 := ⟨f - 1, by omega⟩
      refine ⟨⟨h2, by omega⟩, by unfold I64; omega, ⟨by omega, by omega⟩, by simp only [List.length_cons, List.length_nil]; omega, ⟨⟨h2, by omega⟩, by omega⟩, ⟨by omega, by simp only [List.length_append, List.length_cons, List.length_nil]; omega, f, by omega, ?_⟩, by dsimp only; omega⟩
      rw [← h5]
      conv => rhs; unfold decA
      rw [if_pos hp]; rfl
    · rw [if_neg (by simpa using hp)]
      rw [decA_stop f hp] at h5
      have e : tx k = [109] ++ out := by unfold tx; rw [if_neg hk, h5]
      have hl : ([109] : Str).length + out.length ≤ 9223372036854775807 := by simp only [List.length_cons, List.length_nil]; omega
      refine ⟨hl, ?_⟩
      rw [e] at hq
      exact hq (by unfold Lim; rw [List.length_append]; exact hl)
theorem laws_markText.law (k : Int) (Q : Str → Prop) (h0 : 0 ≤ k) (h1 : k ≤ 1000000000000) (hq : Q (tx k)) : laws_markText.E k Q := laws_markText.law' k Q h0 h1 fun _ => hq
theorem tx_lim (k : Int) (h0 : 0 ≤ k) (h1 : k ≤ 1000000000000) : Lim (tx k) := by
  obtain ⟨h, e⟩ : ∃ q, q = Lim (tx k) := ⟨_, rfl⟩
  by_cases hk : k ≤ 0
  · unfold tx; rw [if_pos hk]; decide
  · have key : ∀ (f : Nat) (k' : Int) (out : Str), 0 ≤ k' → (out.length : Int) + k' ≤ k → ((decA f k' out).length : Int) ≤ k := by
      intro f
      induction f with
      | zero => intro k' out h2 h3; unfold decA; omega
      | succ f ih =>
        intro k' out h2 h3
        unfold decA
        by_cases hp : 0 < k'
        · rw [if_pos hp]; exact ih _ _ (by omega) (by simp only [List.length_cons]; omega)
        · rw [if_neg hp]; omega
    have := key k.toNat k [] h0 (by simp)
    unfold tx Lim; rw [if_neg hk, List.length_append]
    simp only [List.length_cons, List.length_nil]; omega
theorem laws_markText.q (k : Int) (h0 : 0 ≤ k) (h1 : k ≤ 1000000000000) : laws_markText.E k (fun x => x = tx k) := laws_markText.law k _ h0 h1 rfl
end Go.Proofs.Ytndjggncgpjolaa

namespace Go.Proofs.Ytndjggncgpjolaa
open Go.RowKit
set_option linter.unusedVariables false
def laws_markPtS.E (a : List Pt) (k : Int) (Q : Int → List Pt → Prop) : Prop :=
  (∃ (I23 : (List Pt) → Int → Int → Prop) (mu24 : (List Pt) → Int → Int → Nat), I23 a k 0 ∧ ∀ (xs2 : List Pt) (k3 : Int) (i2 : Int), I23 xs2 k3 i2 → (if decide (i2 < (xs2.length : Int)) then ((0 : Int) ≤ i2 ∧ i2 < (xs2.length : Int)) ∧ ((xs2.length : Int) ≤ 9223372036854775807 → I64 (k3 + 1)) ∧ ((0 : Int) ≤ i2 ∧ i2 < ((xs2.set i2.toNat (⟨k3, (nth xs2 i2).Y⟩ : Pt)).length : Int)) ∧ ((xs2.length : Int) ≤ 9223372036854775807 → I64 (k3 + 1 + 1)) ∧ (-9223372036854775808 ≤ i2) ∧ I23 ((xs2.set i2.toNat (⟨k3, (nth xs2 i2).Y⟩ : Pt)).set i2.toNat (⟨(nth (xs2.set i2.toNat (⟨k3, (nth xs2 i2).Y⟩ : Pt)) i2).X, k3 + 1⟩ : Pt)) (k3 + 1 + 1) (i2 + 1) ∧ mu24 ((xs2.set i2.toNat (⟨k3, (nth xs2 i2).Y⟩ : Pt)).set i2.toNat (⟨(nth (xs2.set i2.toNat (⟨k3, (nth xs2 i2).Y⟩ : Pt)) i2).X, k3 + 1⟩ : Pt)) (k3 + 1 + 1) (i2 + 1) < mu24 xs2 k3 i2 else Q k3 xs2))
set_option maxHeartbeats 8000000 in
set_option maxRecDepth 100000 in
theorem laws_markPtS.calls {O : Ob} (w0 : World) (hO : Ok w0 O) (A1 : Option Addr) (n2 c3 : Nat) (a : List Pt) (hp0 : Ow kPt 29 w0 O (.slice A1 n2 c3) a) (k : Int) (Q : Int → List Pt → Prop) (h : laws_markPtS.E a k Q) :
    Ret Try.prog 68 [.slice A1 n2 c3, vi k] w0 (fun v w' => ∃ (r0 : Int) (m0 : List Pt), v = vi r0 ∧ Q r0 m0 ∧ Gr w0 w' (blk (.slice A1 n2 c3)) ∧ Ow kPt 29 w' O (.slice A1 n2 c3) m0) := by
  have H : (∃ (I23 : (List Pt) → Int → Int → Prop) (mu24 : (List Pt) → Int → Int → Nat), I23 a k 0 ∧ ∀ (xs2 : List Pt) (k3 : Int) (i2 : Int), I23 xs2 k3 i2 → (if decide (i2 < (xs2.length : Int)) then ((0 : Int) ≤ i2 ∧ i2 < (xs2.length : Int)) ∧ ((xs2.length : Int) ≤ 9223372036854775807 → I64 (k3 + 1)) ∧ ((0 : Int) ≤ i2 ∧ i2 < ((xs2.set i2.toNat (⟨k3, (nth xs2 i2).Y⟩ : Pt)).length : Int)) ∧ ((xs2.length : Int) ≤ 9223372036854775807 → I64 (k3 + 1 + 1)) ∧ (-9223372036854775808 ≤ i2) ∧ I23 ((xs2.set i2.toNat (⟨k3, (nth xs2 i2).Y⟩ : Pt)).set i2.toNat (⟨(nth (xs2.set i2.toNat (⟨k3, (nth xs2 i2).Y⟩ : Pt)) i2).X, k3 + 1⟩ : Pt)) (k3 + 1 + 1) (i2 + 1) ∧ mu24 ((xs2.set i2.toNat (⟨k3, (nth xs2 i2).Y⟩ : Pt)).set i2.toNat (⟨(nth (xs2.set i2.toNat (⟨k3, (nth xs2 i2).Y⟩ : Pt)) i2).X, k3 + 1⟩ : Pt)) (k3 + 1 + 1) (i2 + 1) < mu24 xs2 k3 i2 else Q k3 xs2)) := h
  clear h
  have hc0 := Ct.initm1 (r := blk (.slice A1 n2 c3)) hO (by intro b e; exact hp0.mem b e)
  refine Ret_enter Try.func68 rfl 27 rfl [.tmp 4] rfl rfl ?_
  refine W_seq ?_
  refine W_reg ?_
  refine L_pu (P_assign (vi 0) rfl) ?_
  refine L_nil ?_
  refine W_seq ?_
  refine W_seq ?_
  refine W_reg ?_
  refine L_pu (P_assign (vi 0) rfl) ?_
  refine L_nil ?_
  refine W_block ?_
  obtain ⟨I23, mu24, hI25, H⟩ := H
  refine W_loop (α := (List Pt) × Int × Int) (fun (sv__ : (List Pt) × Int × Int) t w16 => match sv__ with | (xs2, k3, i2) => I23 xs2 k3 i2 ∧ Has t [(0, .slice A1 n2 c3), (1, vi k3), (5, vi i2)] ∧ Ct [blk (.slice A1 n2 c3)] w0 w16 [] O ∧ Ow kPt 29 w16 O (.slice A1 n2 c3) xs2) (fun (sv__ : (List Pt) × Int × Int) => match sv__ with | (xs2, k3, i2) => mu24 xs2 k3 i2) (a, k, 0) ⟨hI25, ⟨rfl, rfl, rfl, trivial⟩, hc0, hp0⟩ ?_
  rintro ⟨xs2, k3, i2⟩ _ w16 ⟨hI25, hh27, hc21, h22⟩
  obtain ⟨u28, rfl⟩ := Has.ins hh27
  have H := H xs2 k3 i2 hI25
  refine W_seq ?_
  refine W_seq ?_
  refine W_reg ?_
  refine L_pu (P_move (vi i2) rfl) ?_
  refine L_pu (P_move (.slice A1 n2 c3) rfl) ?_
  have hl29 := h22.le
  refine L_pu (P_len Try.underlying23 A1 n2 c3 h22.len rfl) ?_
  refine L_pu (P_cmp i2 (xs2.length : Int) (decide (i2 < (xs2.length : Int))) rfl rfl rfl) ?_
  refine L_nil ?_
  refine W_cond (decide (i2 < (xs2.length : Int))) rfl (fun hq30 => ?_) (fun hq30 => ?_)
  · have H := ite_t H hq30
    refine W_skip ?_
    refine W_seq ?_
    refine W_block ?_
    refine W_seq ?_
    refine W_reg ?_
    refine L_pu (P_move (.slice A1 n2 c3) rfl) ?_
    refine L_pu (P_move (vi i2) rfl) ?_
    refine L_pu (P_move (vi k3) rfl) ?_
    obtain ⟨hb31, H⟩ := H
    obtain ⟨ad32, cs33, hA34, hR35, hcl36⟩ := h22.get default (by decide) i2 hb31
    obtain rfl := kPt.op hR35
    refine L_pu (P_ia Try.underlying23 se23 A1 ad32 n2 c3 h22.len i2 rfl hA34 rfl hb31) ?_
    refine L_pu (P_fa fa29_0 (ad32.add (i2.toNat * 2)) ((ad32.add (i2.toNat * 2)).add 0) rfl rfl) ?_
    refine L_ste1 A1 n2 c3 xs2 h22 i2 hb31 ad32 hA34 0 rfl [vi k3] rfl sz3 rfl (⟨k3, (nth xs2 i2).Y⟩ : Pt) [vi ((nth xs2 i2).X), vi ((nth xs2 i2).Y)] [vi k3, vi ((nth xs2 i2).Y)] hcl36 rfl rfl (kPt.mk _ _ (⟨k3, (nth xs2 i2).Y⟩ : Pt)) fun w38 g39 h40 => ?_
    have hc41 := hc21.wm g39
    refine L_nil ?_
    refine W_seq ?_
    refine W_reg ?_
    refine L_pu (P_move (vi k3) rfl) ?_
    obtain ⟨hb42, H⟩ := H
    have hi43 := hb42 (len_le hl29)
    refine L_pu (P_add k3 1 rfl rfl hi43) ?_
    refine L_pu (P_assign (vi (k3 + 1)) rfl) ?_
    refine L_nil ?_
    refine W_seq ?_
    refine W_reg ?_
    refine L_pu (P_move (.slice A1 n2 c3) rfl) ?_
    refine L_pu (P_move (vi i2) rfl) ?_
    refine L_pu (P_move (vi (k3 + 1)) rfl) ?_
    obtain ⟨hb44, H⟩ := H
    obtain ⟨ad45, cs46, hA47, hR48, hcl49⟩ := h40.get default (by decide) i2 hb44
    obtain rfl := kPt.op hR48
    refine L_pu (P_ia Try.underlying23 se23 A1 ad45 n2 c3 h40.len i2 rfl hA47 rfl hb44) ?_
    refine L_pu (P_fa fa29_1 (ad45.add (i2.toNat * 2)) ((ad45.add (i2.toNat * 2)).add 1) rfl rfl) ?_
    refine L_ste1 A1 n2 c3 (xs2.set i2.toNat (⟨k3, (nth xs2 i2).Y⟩ : Pt)) h40 i2 hb44 ad45 hA47 1 rfl [vi (k3 + 1)] rfl sz3 rfl (⟨(nth (xs2.set i2.toNat (⟨k3, (nth xs2 i2).Y⟩ : Pt)) i2).X, k3 + 1⟩ : Pt) [vi ((nth (xs2.set i2.toNat (⟨k3, (nth xs2 i2).Y⟩ : Pt)) i2).X), vi ((nth (xs2.set i2.toNat (⟨k3, (nth xs2 i2).Y⟩ : Pt)) i2).Y)] [vi ((nth (xs2.set i2.toNat (⟨k3, (nth xs2 i2).Y⟩ : Pt)) i2).X), vi (k3 + 1)] hcl49 rfl rfl (kPt.mk _ _ (⟨(nth (xs2.set i2.toNat (⟨k3, (nth xs2 i2).Y⟩ : Pt)) i2).X, k3 + 1⟩ : Pt)) fun w51 g52 h53 => ?_
    have hc54 := hc41.wm g52
    refine L_nil ?_
    refine W_reg ?_
    refine L_pu (P_move (vi (k3 + 1)) rfl) ?_
    obtain ⟨hb55, H⟩ := H
    have hi56 := hb55 (len_le hl29)
    refine L_pu (P_add (k3 + 1) 1 rfl rfl hi56) ?_
    refine L_pu (P_assign (vi (k3 + 1 + 1)) rfl) ?_
    refine L_nil ?_
    refine W_reg ?_
    refine L_pu (P_move (vi i2) rfl) ?_
    obtain ⟨hb58, H⟩ := H
    have hi57 : I64 (i2 + 1) := i64_succ (of_decide_eq_true hq30) hl29 hb58
    refine L_pu (P_add i2 1 rfl rfl hi57) ?_
    refine L_pu (P_assign (vi (i2 + 1)) rfl) ?_
    refine L_nil ?_
    obtain ⟨hI59, hm60⟩ := H
    exact ⟨(((xs2.set i2.toNat (⟨k3, (nth xs2 i2).Y⟩ : Pt)).set i2.toNat (⟨(nth (xs2.set i2.toNat (⟨k3, (nth xs2 i2).Y⟩ : Pt)) i2).X, k3 + 1⟩ : Pt)), k3 + 1 + 1, i2 + 1), hm60, hI59, ⟨rfl, rfl, rfl, trivial⟩, hc54, h53⟩
  · have H := ite_f H hq30
    refine W_exit (xin_hit ?_)
    refine W_seq ?_
    refine W_reg ?_
    refine L_pu (P_move (vi k3) rfl) ?_
    refine L_pu (P_assign (vi k3) rfl) ?_
    refine L_nil ?_
    refine W_ret ?_
    exact ⟨[vi k3], ⟨_, rfl, rfl⟩, k3, xs2, rfl, H, hc21.gr.g1, h22⟩
end Go.Proofs.Ytndjggncgpjolaa

namespace Go.Proofs.Ytndjggncgpjolaa
set_option linter.unusedVariables false
set_option linter.unusedSimpArgs false
set_option linter.unusedSectionVars false
def markedPt (n : Nat) (k : Int) : List Pt := (List.range n).map fun i : Nat => ⟨k + 2 * (i : Int), k + 2 * (i : Int) + 1⟩
theorem markedPt_len (n : Nat) (k : Int) : (markedPt n k).length = n := by simp [markedPt]
theorem markedPt_nth (n : Nat) (k : Int) {i : Nat} (h : i < n) : nth (markedPt n k) (i : Int) = ⟨k + 2 * i, k + 2 * i + 1⟩ := by
  rw [nth_nat _ (by rw [markedPt_len]; exact h)]; simp [markedPt]
theorem laws_markPtS.law (a : List Pt) (k : Int) (Q : Int → List Pt → Prop) (ha : a.length ≤ 1048576) (h0 : 0 ≤ k) (h1 : k ≤ 1000000000) (hq : Q (k + 2 * a.length) (markedPt a.length k)) : laws_markPtS.E a k Q := by
  unfold laws_markPtS.E
  refine ⟨fun xs k' i => ∃ u : Nat, i = u ∧ u ≤ a.length ∧ k' = k + 2 * u ∧ xs.length = a.length ∧ xs.take u = markedPt u k, fun _ _ i => (a.length - i).toNat, ⟨0, rfl, Nat.zero_le _, by omega, rfl, rfl⟩, ?_⟩
  rintro xs _ _ ⟨u, rfl, hu, rfl, hl, ht⟩
  rw [hl]
  by_cases h : (u : Int) < (a.length : Int)
  · rw [if_pos (by simpa using h)]
    have hu' : u < xs.length := by omega
    rw [Int.toNat_natCast, nth_set _ hu', if_pos rfl, List.set_set]
    refine ⟨by omega, fun _ => by unfold I64; omega, by simp only [List.length_set]; omega, fun _ => by unfold I64; omega, by omega, ⟨u + 1, by omega, by omega, by omega, by rw [List.length_set]; exact hl, ?_⟩, by dsimp only; omega⟩
    rw [List.take_succ_eq_append_getElem (by rw [List.length_set]; exact hu'), List.getElem_set_self, List.take_set_of_le (Nat.le_refl _), ht]
    unfold markedPt
    rw [List.range_succ, List.map_append]
    rfl
  · rw [if_neg (by simpa using h)]
    have : u = a.length := by omega
    subst this
    rw [List.take_of_length_le (by omega)] at ht
    rw [ht]; exact hq
theorem laws_markPtS.lawk (a : List Pt) (k : Int) (Q : Int → List Pt → Prop) (ha : bulk a ≤ 1048576) (h0 : 0 ≤ k) (h1 : k ≤ 1000000000) (hq : Q (mkL gPt a k).2 (mkL gPt a k).1) : laws_markPtS.E a k Q := by
  unfold laws_markPtS.E
  have hbl := bulk_len a
  refine ⟨fun xs k' i => ∃ u : Nat, i = u ∧ Mk gPt a k u xs k', fun _ _ i => (a.length - i).toNat, ⟨0, rfl, .zero a k⟩, ?_⟩
  rintro xs k' _ ⟨u, rfl, M⟩
  have hl := M.len
  have hb := M.bd gPt_bd
  rw [hl]
  by_cases h : u < a.length
  · rw [if_pos (by simpa using h)]
    have hu' : u < xs.length := by omega
    rw [Int.toNat_natCast, nth_set _ hu', if_pos rfl, List.set_set]
    exact ⟨by omega, fun _ => by unfold I64; omega, by simp only [List.length_set]; omega, fun _ => by unfold I64; omega, by omega, ⟨u + 1, by omega, M.next h (by show _ = (_, _); unfold gPt; rw [Int.add_assoc]; rfl)⟩, by dsimp only; omega⟩
  · rw [if_neg (by simpa using h)]
    obtain ⟨rfl, rfl⟩ := M.full h
    exact hq
end Go.Proofs.Ytndjggncgpjolaa

namespace Go.Proofs.Ytndjggncgpjolaa
open Go.RowKit
set_option linter.unusedVariables false
def laws_markTagS.E (a : List Tag) (k : Int) (Q : Int → List Tag → Prop) : Prop :=
  (∃ (I23 : (List Tag) → Int → Int → Prop) (mu24 : (List Tag) → Int → Int → Nat), I23 a k 0 ∧ ∀ (xs2 : List Tag) (k3 : Int) (i2 : Int), I23 xs2 k3 i2 → (if decide (i2 < (xs2.length : Int)) then laws_markText.E k3 (fun r => ((0 : Int) ≤ i2 ∧ i2 < (xs2.length : Int)) ∧ ((xs2.length : Int) ≤ 9223372036854775807 → I64 (k3 + 1)) ∧ laws_markText.E (k3 + 1) (fun r2 => ((0 : Int) ≤ i2 ∧ i2 < ((xs2.set i2.toNat (⟨r, (nth xs2 i2).Val⟩ : Tag)).length : Int)) ∧ ((xs2.length : Int) ≤ 9223372036854775807 → I64 (k3 + 1 + 1)) ∧ (-9223372036854775808 ≤ i2) ∧ I23 ((xs2.set i2.toNat (⟨r, (nth xs2 i2).Val⟩ : Tag)).set i2.toNat (⟨(nth (xs2.set i2.toNat (⟨r, (nth xs2 i2).Val⟩ : Tag)) i2).Key, r2⟩ : Tag)) (k3 + 1 + 1) (i2 + 1) ∧ mu24 ((xs2.set i2.toNat (⟨r, (nth xs2 i2).Val⟩ : Tag)).set i2.toNat (⟨(nth (xs2.set i2.toNat (⟨r, (nth xs2 i2).Val⟩ : Tag)) i2).Key, r2⟩ : Tag)) (k3 + 1 + 1) (i2 + 1) < mu24 xs2 k3 i2)) else Q k3 xs2))
set_option maxHeartbeats 8000000 in
set_option maxRecDepth 100000 in
theorem laws_markTagS.calls {O : Ob} (w0 : World) (hO : Ok w0 O) (A1 : Option Addr) (n2 c3 : Nat) (a : List Tag) (hp0 : Ow kTag 133 w0 O (.slice A1 n2 c3) a) (k : Int) (Q : Int → List Tag → Prop) (h : laws_markTagS.E a k Q) :
    Ret Try.prog 69 [.slice A1 n2 c3, vi k] w0 (fun v w' => ∃ (r0 : Int) (m0 : List Tag), v = vi r0 ∧ Q r0 m0 ∧ Gr w0 w' (blk (.slice A1 n2 c3)) ∧ Ow kTag 133 w' O (.slice A1 n2 c3) m0) := by
  have H : (∃ (I23 : (List Tag) → Int → Int → Prop) (mu24 : (List Tag) → Int → Int → Nat), I23 a k 0 ∧ ∀ (xs2 : List Tag) (k3 : Int) (i2 : Int), I23 xs2 k3 i2 → (if decide (i2 < (xs2.length : Int)) then laws_markText.E k3 (fun r => ((0 : Int) ≤ i2 ∧ i2 < (xs2.length : Int)) ∧ ((xs2.length : Int) ≤ 9223372036854775807 → I64 (k3 + 1)) ∧ laws_markText.E (k3 + 1) (fun r2 => ((0 : Int) ≤ i2 ∧ i2 < ((xs2.set i2.toNat (⟨r, (nth xs2 i2).Val⟩ : Tag)).length : Int)) ∧ ((xs2.length : Int) ≤ 9223372036854775807 → I64 (k3 + 1 + 1)) ∧ (-9223372036854775808 ≤ i2) ∧ I23 ((xs2.set i2.toNat (⟨r, (nth xs2 i2).Val⟩ : Tag)).set i2.toNat (⟨(nth (xs2.set i2.toNat (⟨r, (nth xs2 i2).Val⟩ : Tag)) i2).Key, r2⟩ : Tag)) (k3 + 1 + 1) (i2 + 1) ∧ mu24 ((xs2.set i2.toNat (⟨r, (nth xs2 i2).Val⟩ : Tag)).set i2.toNat (⟨(nth (xs2.set i2.toNat (⟨r, (nth xs2 i2).Val⟩ : Tag)) i2).Key, r2⟩ : Tag)) (k3 + 1 + 1) (i2 + 1) < mu24 xs2 k3 i2)) else Q k3 xs2)) := h
  clear h
  have hc0 := Ct.initm1 (r := blk (.slice A1 n2 c3)) hO (by intro b e; exact hp0.mem b e)
  refine Ret_enter Try.func69 rfl 29 rfl [.tmp 4] rfl rfl ?_
  refine W_seq ?_
  refine W_reg ?_
  refine L_pu (P_assign (vi 0) rfl) ?_
  refine L_nil ?_
  refine W_seq ?_
  refine W_seq ?_
  refine W_reg ?_
  refine L_pu (P_assign (vi 0) rfl) ?_
  refine L_nil ?_
  refine W_block ?_
  obtain ⟨I23, mu24, hI25, H⟩ := H
  refine W_loop (α := (List Tag) × Int × Int) (fun (sv__ : (List Tag) × Int × Int) t w16 => match sv__ with | (xs2, k3, i2) => I23 xs2 k3 i2 ∧ Has t [(0, .slice A1 n2 c3), (1, vi k3), (5, vi i2)] ∧ Ct [blk (.slice A1 n2 c3)] w0 w16 [] O ∧ Ow kTag 133 w16 O (.slice A1 n2 c3) xs2) (fun (sv__ : (List Tag) × Int × Int) => match sv__ with | (xs2, k3, i2) => mu24 xs2 k3 i2) (a, k, 0) ⟨hI25, ⟨rfl, rfl, rfl, trivial⟩, hc0, hp0⟩ ?_
  rintro ⟨xs2, k3, i2⟩ _ w16 ⟨hI25, hh27, hc21, h22⟩
  obtain ⟨u28, rfl⟩ := Has.ins hh27
  have H := H xs2 k3 i2 hI25
  refine W_seq ?_
  refine W_seq ?_
  refine W_reg ?_
  refine L_pu (P_move (vi i2) rfl) ?_
  refine L_pu (P_move (.slice A1 n2 c3) rfl) ?_
  have hl29 := h22.le
  refine L_pu (P_len Try.underlying69 A1 n2 c3 h22.len rfl) ?_
  refine L_pu (P_cmp i2 (xs2.length : Int) (decide (i2 < (xs2.length : Int))) rfl rfl rfl) ?_
  refine L_nil ?_
  refine W_cond (decide (i2 < (xs2.length : Int))) rfl (fun hq30 => ?_) (fun hq30 => ?_)
  · have H := ite_t H hq30
    refine W_skip ?_
    refine W_seq ?_
    refine W_block ?_
    refine W_seq ?_
    refine W_reg ?_
    refine L_pu (P_move (.slice A1 n2 c3) rfl) ?_
    refine L_pu (P_move (vi i2) rfl) ?_
    refine L_pu (P_move (vi k3) rfl) ?_
    refine L_call go67 [vi k3] rfl ((laws_markText.calls w16 hc21.ok k3 _ H).mono ?_)
    rintro _ w31 ⟨r, rfl, H, g32, hs33⟩
    have hc37 := hc21.k0 g32
    obtain ⟨hb38, H⟩ := H
    have h45 := (h22.sn g32)
    obtain ⟨ad39, cs40, hA41, hR42, hcl43⟩ := h45.get default (by decide) i2 hb38
    obtain ⟨rfl, hs46, hs47⟩ := kTag.op hR42
    refine L_pu (P_ia Try.underlying69 se69 A1 ad39 n2 c3 h45.len i2 rfl hA41 rfl hb38) ?_
    refine L_pu (P_fa fa133_0 (ad39.add (i2.toNat * 2)) ((ad39.add (i2.toNat * 2)).add 0) rfl rfl) ?_
    refine L_ste1 A1 n2 c3 xs2 h45 i2 hb38 ad39 hA41 0 rfl [vs r] rfl sz9 rfl (⟨r, (nth xs2 i2).Val⟩ : Tag) [vs ((nth xs2 i2).Key), vs ((nth xs2 i2).Val)] [vs r, vs ((nth xs2 i2).Val)] hcl43 rfl rfl (kTag.mk _ _ (⟨r, (nth xs2 i2).Val⟩ : Tag) hs33 hs47) fun w48 g49 h50 => ?_
    have hc51 := hc37.wm g49
    refine L_nil ?_
    refine W_seq ?_
    refine W_reg ?_
    refine L_pu (P_move (vi k3) rfl) ?_
    obtain ⟨hb52, H⟩ := H
    have hi53 := hb52 (len_le hl29)
    refine L_pu (P_add k3 1 rfl rfl hi53) ?_
    refine L_pu (P_assign (vi (k3 + 1)) rfl) ?_
    refine L_nil ?_
    refine W_seq ?_
    refine W_reg ?_
    refine L_pu (P_move (.slice A1 n2 c3) rfl) ?_
    refine L_pu (P_move (vi i2) rfl) ?_
    refine L_pu (P_move (vi (k3 + 1)) rfl) ?_
    refine L_call go67 [vi (k3 + 1)] rfl ((laws_markText.calls w48 hc51.ok (k3 + 1) _ H).mono ?_)
    rintro _ w54 ⟨r2, rfl, H, g55, hs56⟩
    have hc60 := hc51.k0 g55
    obtain ⟨hb61, H⟩ := H
    have h68 := (h50.sn g55)
    obtain ⟨ad62, cs63, hA64, hR65, hcl66⟩ := h68.get default (by decide) i2 hb61
    obtain ⟨rfl, hs69, hs70⟩ := kTag.op hR65
    refine L_pu (P_ia Try.underlying69 se69 A1 ad62 n2 c3 h68.len i2 rfl hA64 rfl hb61) ?_
    refine L_pu (P_fa fa133_1 (ad62.add (i2.toNat * 2)) ((ad62.add (i2.toNat * 2)).add 1) rfl rfl) ?_
    refine L_ste1 A1 n2 c3 (xs2.set i2.toNat (⟨r, (nth xs2 i2).Val⟩ : Tag)) h68 i2 hb61 ad62 hA64 1 rfl [vs r2] rfl sz9 rfl (⟨(nth (xs2.set i2.toNat (⟨r, (nth xs2 i2).Val⟩ : Tag)) i2).Key, r2⟩ : Tag) [vs ((nth (xs2.set i2.toNat (⟨r, (nth xs2 i2).Val⟩ : Tag)) i2).Key), vs ((nth (xs2.set i2.toNat (⟨r, (nth xs2 i2).Val⟩ : Tag)) i2).Val)] [vs ((nth (xs2.set i2.toNat (⟨r, (nth xs2 i2).Val⟩ : Tag)) i2).Key), vs r2] hcl66 rfl rfl (kTag.mk _ _ (⟨(nth (xs2.set i2.toNat (⟨r, (nth xs2 i2).Val⟩ : Tag)) i2).Key, r2⟩ : Tag) hs69 hs56) fun w71 g72 h73 => ?_
    have hc74 := hc60.wm g72
    refine L_nil ?_
    refine W_reg ?_
    refine L_pu (P_move (vi (k3 + 1)) rfl) ?_
    obtain ⟨hb75, H⟩ := H
    have hi76 := hb75 (len_le hl29)
    refine L_pu (P_add (k3 + 1) 1 rfl rfl hi76) ?_
    refine L_pu (P_assign (vi (k3 + 1 + 1)) rfl) ?_
    refine L_nil ?_
    refine W_reg ?_
    refine L_pu (P_move (vi i2) rfl) ?_
    obtain ⟨hb78, H⟩ := H
    have hi77 : I64 (i2 + 1) := i64_succ (of_decide_eq_true hq30) hl29 hb78
    refine L_pu (P_add i2 1 rfl rfl hi77) ?_
    refine L_pu (P_assign (vi (i2 + 1)) rfl) ?_
    refine L_nil ?_
    obtain ⟨hI79, hm80⟩ := H
    exact ⟨(((xs2.set i2.toNat (⟨r, (nth xs2 i2).Val⟩ : Tag)).set i2.toNat (⟨(nth (xs2.set i2.toNat (⟨r, (nth xs2 i2).Val⟩ : Tag)) i2).Key, r2⟩ : Tag)), k3 + 1 + 1, i2 + 1), hm80, hI79, ⟨rfl, rfl, rfl, trivial⟩, hc74, h73⟩
  · have H := ite_f H hq30
    refine W_exit (xin_hit ?_)
    refine W_seq ?_
    refine W_reg ?_
    refine L_pu (P_move (vi k3) rfl) ?_
    refine L_pu (P_assign (vi k3) rfl) ?_
    refine L_nil ?_
    refine W_ret ?_
    exact ⟨[vi k3], ⟨_, rfl, rfl⟩, k3, xs2, rfl, H, hc21.gr.g1, h22⟩
end Go.Proofs.Ytndjggncgpjolaa

namespace Go.Proofs.Ytndjggncgpjolaa
set_option linter.unusedVariables false
set_option linter.unusedSimpArgs false
set_option linter.unusedSectionVars false
theorem laws_markTagS.lawk (a : List Tag) (k : Int) (Q : Int → List Tag → Prop) (ha : bulk a ≤ 1048576) (h0 : 0 ≤ k) (h1 : k ≤ 1000000000) (hq : Q (mkL gTag a k).2 (mkL gTag a k).1) : laws_markTagS.E a k Q := by
  unfold laws_markTagS.E
  have hbl := bulk_len a
  refine ⟨fun xs k' i => ∃ u : Nat, i = u ∧ Mk gTag a k u xs k', fun _ _ i => (a.length - i).toNat, ⟨0, rfl, .zero a k⟩, ?_⟩
  rintro xs k' _ ⟨u, rfl, M⟩
  have hl := M.len
  have hb := M.bd gTag_bd
  by_cases h : u < a.length
  · rw [if_pos (by rw [hl]; simpa using h)]
    have hu' : u < xs.length := by omega
    have hx := M.nth h
    have hm := bulk_mem (nth_mem a h)
    refine laws_markText.law _ _ (by omega) (by omega) ⟨by omega, fun _ => by unfold I64; omega, laws_markText.law _ _ (by omega) (by omega) ?_⟩
    rw [Int.toNat_natCast, nth_set _ hu', if_pos rfl, List.set_set]
    exact ⟨by simp only [List.length_set]; omega, fun _ => by unfold I64; omega, by omega, ⟨u + 1, by omega, M.next h (by show _ = (_, _); unfold gTag; rw [Int.add_assoc]; rfl)⟩, by dsimp only; omega⟩
  · rw [if_neg (by rw [hl]; simpa using h)]
    obtain ⟨rfl, rfl⟩ := M.full h
    exact hq
end Go.Proofs.Ytndjggncgpjolaa

namespace Go.Proofs.Ytndjggncgpjolaa
open Go.RowKit
set_option linter.unusedVariables false
def laws_markFeatS.E (a : List Feat) (k : Int) (Q : Int → List Feat → Prop) : Prop :=
  (∃ (I32 : (List Feat) → Int → Int → Prop) (mu33 : (List Feat) → Int → Int → Nat), I32 a k 0 ∧ ∀ (xs2 : List Feat) (k3 : Int) (i2 : Int), I32 xs2 k3 i2 → (if decide (i2 < (xs2.length : Int)) then laws_markText.E k3 (fun r => ((0 : Int) ≤ i2 ∧ i2 < (xs2.length : Int)) ∧ (∀ xs3 : List Feat, xs3 = (xs2.set i2.toNat (⟨r, (nth xs2 i2).Shape, (nth xs2 i2).Tags⟩ : Feat)) → ((xs2.length : Int) ≤ 9223372036854775807 → I64 (k3 + 1)) ∧ ((0 : Int) ≤ i2 ∧ i2 < (xs3.length : Int)) ∧ (∀ xs4 : List Feat, xs4 = (xs3.set i2.toNat (⟨(nth xs3 i2).Id, (⟨k3 + 1, (nth xs3 i2).Shape.Pts⟩ : Shape), (nth xs3 i2).Tags⟩ : Feat)) → ((xs2.length : Int) ≤ 9223372036854775807 → I64 (k3 + 1 + 1)) ∧ ((0 : Int) ≤ i2 ∧ i2 < (xs4.length : Int)) ∧ laws_markPtS.E ((nth xs4 i2).Shape.Pts) (k3 + 1 + 1) (fun r2 m => (∀ xs5 : List Feat, xs5 = (xs4.set i2.toNat (⟨(nth xs4 i2).Id, (⟨(nth xs4 i2).Shape.Kind, m⟩ : Shape), (nth xs4 i2).Tags⟩ : Feat)) → ((0 : Int) ≤ i2 ∧ i2 < (xs5.length : Int)) ∧ laws_markTagS.E ((nth xs5 i2).Tags) r2 (fun r3 m2 => (∀ xs6 : List Feat, xs6 = (xs5.set i2.toNat (⟨(nth xs5 i2).Id, (nth xs5 i2).Shape, m2⟩ : Feat)) → (-9223372036854775808 ≤ i2) ∧ I32 xs6 r3 (i2 + 1) ∧ mu33 xs6 r3 (i2 + 1) < mu33 xs2 k3 i2))))))) else Q k3 xs2))
set_option maxHeartbeats 8000000 in
set_option maxRecDepth 100000 in
theorem laws_markFeatS.calls {O : Ob} (w0 : World) (hO : Ok w0 O) (a : List Feat) (A1 : Option Addr) (n2 c3 : Nat) (ra6 : List (List Value)) (q7 : Ob) (hp5 : Ow (Kd.cells 4) 71 w0 O (.slice A1 n2 c3) ra6) (hd8 : DArr dFeat_71 w0 q7 a ra6) (hdj : Dj (blk (.slice A1 n2 c3) :: (q7 ++ []))) (hmm : ∀ b, some b ∈ ((blk (.slice A1 n2 c3) :: (q7 ++ [])) : Ob) → some b ∈ O) (k : Int) (Q : Int → List Feat → Prop) (h : laws_markFeatS.E a k Q) :
    Ret Try.prog 30 [.slice A1 n2 c3, vi k] w0 (fun v w' => ∃ (r0 : Int) (m0 : List Feat) (mra0 : List (List Value)), v = vi r0 ∧ Q r0 m0 ∧ Gm w0 w' (blk (.slice A1 n2 c3) :: (q7 ++ [])) ∧ Ow (Kd.cells 4) 71 w' O (.slice A1 n2 c3) mra0 ∧ DArr dFeat_71 w' q7 m0 mra0) := by
  have H : (∃ (I32 : (List Feat) → Int → Int → Prop) (mu33 : (List Feat) → Int → Int → Nat), I32 a k 0 ∧ ∀ (xs2 : List Feat) (k3 : Int) (i2 : Int), I32 xs2 k3 i2 → (if decide (i2 < (xs2.length : Int)) then laws_markText.E k3 (fun r => ((0 : Int) ≤ i2 ∧ i2 < (xs2.length : Int)) ∧ (∀ xs3 : List Feat, xs3 = (xs2.set i2.toNat (⟨r, (nth xs2 i2).Shape, (nth xs2 i2).Tags⟩ : Feat)) → ((xs2.length : Int) ≤ 9223372036854775807 → I64 (k3 + 1)) ∧ ((0 : Int) ≤ i2 ∧ i2 < (xs3.length : Int)) ∧ (∀ xs4 : List Feat, xs4 = (xs3.set i2.toNat (⟨(nth xs3 i2).Id, (⟨k3 + 1, (nth xs3 i2).Shape.Pts⟩ : Shape), (nth xs3 i2).Tags⟩ : Feat)) → ((xs2.length : Int) ≤ 9223372036854775807 → I64 (k3 + 1 + 1)) ∧ ((0 : Int) ≤ i2 ∧ i2 < (xs4.length : Int)) ∧ laws_markPtS.E ((nth xs4 i2).Shape.Pts) (k3 + 1 + 1) (fun r2 m => (∀ xs5 : List Feat, xs5 = (xs4.set i2.toNat (⟨(nth xs4 i2).Id, (⟨(nth xs4 i2).Shape.Kind, m⟩ : Shape), (nth xs4 i2).Tags⟩ : Feat)) → ((0 : Int) ≤ i2 ∧ i2 < (xs5.length : Int)) ∧ laws_markTagS.E ((nth xs5 i2).Tags) r2 (fun r3 m2 => (∀ xs6 : List Feat, xs6 = (xs5.set i2.toNat (⟨(nth xs5 i2).Id, (nth xs5 i2).Shape, m2⟩ : Feat)) → (-9223372036854775808 ≤ i2) ∧ I32 xs6 r3 (i2 + 1) ∧ mu33 xs6 r3 (i2 + 1) < mu33 xs2 k3 i2))))))) else Q k3 xs2)) := h
  clear h
  have hc0 := Ct.initm hO hmm
  refine Ret_enter Try.func30 rfl 44 rfl [.tmp 4] rfl rfl ?_
  refine W_seq ?_
  refine W_reg ?_
  refine L_pu (P_assign (vi 0) rfl) ?_
  refine L_nil ?_
  refine W_seq ?_
  refine W_seq ?_
  refine W_reg ?_
  refine L_pu (P_assign (vi 0) rfl) ?_
  refine L_nil ?_
  refine W_block ?_
  obtain ⟨I32, mu33, hI34, H⟩ := H
  refine W_loop (α := (List Feat) × (List (List Value)) × Int × Int) (fun (sv__ : (List Feat) × (List (List Value)) × Int × Int) t w23 => match sv__ with | (xs2, ra28, k3, i2) => I32 xs2 k3 i2 ∧ Has t [(0, .slice A1 n2 c3), (1, vi k3), (5, vi i2)] ∧ Ct (blk (.slice A1 n2 c3) :: (q7 ++ [])) w0 w23 [] O ∧ Ow (Kd.cells 4) 71 w23 O (.slice A1 n2 c3) ra28 ∧ DArr dFeat_71 w23 q7 xs2 ra28) (fun (sv__ : (List Feat) × (List (List Value)) × Int × Int) => match sv__ with | (xs2, _, k3, i2) => mu33 xs2 k3 i2) (a, ra6, k, 0) ⟨hI34, ⟨rfl, rfl, rfl, trivial⟩, hc0, hp5, hd8⟩ ?_
  rintro ⟨xs2, ra28, k3, i2⟩ _ w23 ⟨hI34, hh36, hc29, h30, hd31⟩
  obtain ⟨u37, rfl⟩ := Has.ins hh36
  have H := H xs2 k3 i2 hI34
  refine W_seq ?_
  refine W_seq ?_
  refine W_reg ?_
  refine L_pu (P_move (vi i2) rfl) ?_
  refine L_pu (P_move (.slice A1 n2 c3) rfl) ?_
  have hl38 := (Dp.le h30 hd31)
  refine L_pu (P_len Try.underlying52 A1 n2 c3 (Dp.len h30 hd31) rfl) ?_
  refine L_pu (P_cmp i2 (xs2.length : Int) (decide (i2 < (xs2.length : Int))) rfl rfl rfl) ?_
  refine L_nil ?_
  refine W_cond (decide (i2 < (xs2.length : Int))) rfl (fun hq39 => ?_) (fun hq39 => ?_)
  · have H := ite_t H hq39
    refine W_skip ?_
    refine W_seq ?_
    refine W_block ?_
    refine W_seq ?_
    refine W_reg ?_
    refine L_pu (P_move (.slice A1 n2 c3) rfl) ?_
    refine L_pu (P_move (vi i2) rfl) ?_
    refine L_pu (P_move (vi k3) rfl) ?_
    refine L_call go67 [vi k3] rfl ((laws_markText.calls w23 hc29.ok k3 _ H).mono ?_)
    rintro _ w40 ⟨r, rfl, H, g41, hs42⟩
    have hc46 := hc29.k0 g41
    obtain ⟨hb47, H⟩ := H
    have h54 := (h30.sn g41)
    have hd55 := (hd31.k0 g41)
    have hn56 : (0 : Int) ≤ i2 ∧ i2 < (ra28.length : Int) := by rw [hd55.len]; exact hb47
    obtain ⟨ad48, cs49, hA50, hR51, hcl52⟩ := h54.get default (by decide) i2 hn56
    obtain rfl := Kd.cells.op hR51
    refine L_pu (P_ia Try.underlying52 se52 A1 ad48 n2 c3 (Dp.len h54 hd55) i2 rfl hA50 rfl hb47) ?_
    refine L_pu (P_fa fa71_0 (ad48.add (i2.toNat * 4)) ((ad48.add (i2.toNat * 4)).add 0) rfl rfl) ?_
    obtain ⟨q57, hq58, hq59, hD60, hU61⟩ := DArr.at_ (Int.toNat i2) default hd55 (by have := hb47; omega)
    obtain ⟨q62, pr63, cc64, po65, hq66, hq67, hq68, hq69, hF70, hV71⟩ := foc71_0 _ _ _ _ hD60
    have hy72 : ((Dd.flat (k := Kd.str) str_flat)).D w40 q62 r [vs r] := ⟨hF70.1, ⟨rfl, hs42⟩⟩
    have hy73 := hV71 _ _ _ (hq59 (Dj.left hdj.2)) (fun _ _ _ => rfl) hy72
    have hl77 : cc64.length = [vs r].length := (((Dd.flat (k := Kd.str) str_flat)).toR (S := fun _ => True) hF70 fun _ _ => trivial) |> Kd.len _
    refine L_ste1 (kd := Kd.cells 4) A1 n2 c3 ra28 h54 i2 hn56 ad48 hA50 0 rfl [vs r] rfl sz9 rfl (pr63 ++ [vs r] ++ po65) _ (pr63 ++ [vs r] ++ po65) hcl52 (Kd.len _ hR51) (foc_put hq68 hq69 hl77) (Dd.raw _ hy73) fun w74 g75 h76 => ?_
    have hc78 := hc46.wmm (memi (L := (blk (.slice A1 n2 c3) :: (q7 ++ []))) 0 rfl) g75
    have hg80 : ∀ b, some b ∈ (q7 : Ob) → w74.heap[b]? = _ := fun b hb => g75.block b (hd55.lt b hb) (fun e => (hdj).1 b e.symm (List.mem_append_left _ hb))
    have hd79 := hU61 w74 _ _ (Dj.left hdj.2) (fun b hb _ => hg80 b hb) (hV71 _ _ _ (hq59 (Dj.left hdj.2)) (fun b hb _ => hg80 b (hq58 b hb)) hy72)
    obtain ⟨xs3, he81⟩ : ∃ y__ : List Feat, y__ = (xs2.set i2.toNat (⟨r, (nth xs2 i2).Shape, (nth xs2 i2).Tags⟩ : Feat)) := ⟨_, rfl⟩
    have H := H xs3 he81
    rw [← he81] at hd79
    refine L_nil ?_
    refine W_seq ?_
    refine W_reg ?_
    refine L_pu (P_move (vi k3) rfl) ?_
    obtain ⟨hb82, H⟩ := H
    have hi83 := hb82 (len_le hl38)
    refine L_pu (P_add k3 1 rfl rfl hi83) ?_
    refine L_pu (P_assign (vi (k3 + 1)) rfl) ?_
    refine L_nil ?_
    refine W_seq ?_
    refine W_reg ?_
    refine L_pu (P_move (.slice A1 n2 c3) rfl) ?_
    refine L_pu (P_move (vi i2) rfl) ?_
    refine L_pu (P_move (vi (k3 + 1)) rfl) ?_
    obtain ⟨hb84, H⟩ := H
    have hn91 : (0 : Int) ≤ i2 ∧ i2 < ((ra28.set i2.toNat (pr63 ++ [vs r] ++ po65)).length : Int) := by rw [hd79.len]; exact hb84
    obtain ⟨ad85, cs86, hA87, hR88, hcl89⟩ := h76.get default (by decide) i2 hn91
    obtain rfl := Kd.cells.op hR88
    refine L_pu (P_ia Try.underlying52 se52 A1 ad85 n2 c3 (Dp.len h76 hd79) i2 rfl hA87 rfl hb84) ?_
    refine L_pu (P_fa fa71_1 (ad85.add (i2.toNat * 4)) ((ad85.add (i2.toNat * 4)).add 1) rfl rfl) ?_
    refine L_pu (P_fa fa68_0 ((ad85.add (i2.toNat * 4)).add 1) (((ad85.add (i2.toNat * 4)).add 1).add 0) rfl rfl) ?_
    obtain ⟨q92, hq93, hq94, hD95, hU96⟩ := DArr.at_ (Int.toNat i2) default hd79 (by have := hb84; omega)
    obtain ⟨q97, pr98, cc99, po100, hq101, hq102, hq103, hq104, hF105, hV106⟩ := foc71_1 _ _ _ _ hD95
    have hy107 : ((Dd.flat (k := (Kd.int .i64)) (int_flat _))).D w74 q97 (k3 + 1) [vi (k3 + 1)] := ⟨hF105.1, rfl⟩
    have hy108 := hV106 _ _ _ (hq94 (Dj.left hdj.2)) (fun _ _ _ => rfl) hy107
    have hl112 : cc99.length = [vi (k3 + 1)].length := (((Dd.flat (k := (Kd.int .i64)) (int_flat _))).toR (S := fun _ => True) hF105 fun _ _ => trivial) |> Kd.len _
    refine L_ste2 (kd := Kd.cells 4) A1 n2 c3 (ra28.set i2.toNat (pr63 ++ [vs r] ++ po65)) h76 i2 hn91 ad85 hA87 1 rfl rfl [vi (k3 + 1)] rfl sz3 rfl (pr98 ++ [vi (k3 + 1)] ++ po100) _ (pr98 ++ [vi (k3 + 1)] ++ po100) hcl89 (Kd.len _ hR88) (foc_put hq103 hq104 hl112) (Dd.raw _ hy108) fun w109 g110 h111 => ?_
    have hc113 := hc78.wmm (memi (L := (blk (.slice A1 n2 c3) :: (q7 ++ []))) 0 rfl) g110
    have hg115 : ∀ b, some b ∈ (q7 : Ob) → w109.heap[b]? = _ := fun b hb => g110.block b (hd79.lt b hb) (fun e => (hdj).1 b e.symm (List.mem_append_left _ hb))
    have hd114 := hU96 w109 _ _ (Dj.left hdj.2) (fun b hb _ => hg115 b hb) (hV106 _ _ _ (hq94 (Dj.left hdj.2)) (fun b hb _ => hg115 b (hq93 b hb)) hy107)
    obtain ⟨xs4, he116⟩ : ∃ y__ : List Feat, y__ = (xs3.set i2.toNat (⟨(nth xs3 i2).Id, (⟨k3 + 1, (nth xs3 i2).Shape.Pts⟩ : Shape), (nth xs3 i2).Tags⟩ : Feat)) := ⟨_, rfl⟩
    have H := H xs4 he116
    rw [← he116] at hd114
    refine L_nil ?_
    refine W_seq ?_
    refine W_reg ?_
    refine L_pu (P_move (vi (k3 + 1)) rfl) ?_
    obtain ⟨hb117, H⟩ := H
    have hi118 := hb117 (len_le hl38)
    refine L_pu (P_add (k3 + 1) 1 rfl rfl hi118) ?_
    refine L_pu (P_assign (vi (k3 + 1 + 1)) rfl) ?_
    refine L_nil ?_
    refine W_seq ?_
    refine W_reg ?_
    refine L_pu (P_move (.slice A1 n2 c3) rfl) ?_
    refine L_pu (P_move (vi i2) rfl) ?_
    obtain ⟨hb119, H⟩ := H
    have hn126 : (0 : Int) ≤ i2 ∧ i2 < (((ra28.set i2.toNat (pr63 ++ [vs r] ++ po65)).set i2.toNat (pr98 ++ [vi (k3 + 1)] ++ po100)).length : Int) := by rw [hd114.len]; exact hb119
    obtain ⟨ad120, cs121, hA122, hR123, hcl124⟩ := h111.get default (by decide) i2 hn126
    obtain rfl := Kd.cells.op hR123
    refine L_pu (P_ia Try.underlying52 se52 A1 ad120 n2 c3 (Dp.len h111 hd114) i2 rfl hA122 rfl hb119) ?_
    refine L_pu (P_fa fa71_1 (ad120.add (i2.toNat * 4)) ((ad120.add (i2.toNat * 4)).add 1) rfl rfl) ?_
    refine L_pu (P_fa fa68_1 ((ad120.add (i2.toNat * 4)).add 1) (((ad120.add (i2.toNat * 4)).add 1).add 1) rfl rfl) ?_
    obtain ⟨q127, hq128, hq129, hD130, hU131⟩ := DArr.at_ (Int.toNat i2) default hd114 (by have := hb119; omega)
    obtain ⟨q132, pr133, cc134, po135, hq136, hq137, hq138, hq139, hF140, hV141⟩ := foc71_2 _ _ _ _ hD130
    obtain ⟨v142, hv144, hs143⟩ := hF140
    obtain ⟨A145, n146, c147, rfl⟩ := hs143.shape
    subst hv144
    have hcl148 := hcl124 2 _ (foc_cell hq138 hq139)
    refine L_pu (P_ld ag23 cL (((ad120.add (i2.toNat * 4)).add 1).add 1) (.slice A145 n146 c147) rfl ((congrArg w109.cell? (addr2 (o := 2) rfl)).trans hcl148)) ?_
    refine L_pu (P_move (vi (k3 + 1 + 1)) rfl) ?_
    have hp151 : Ow kPt 29 w109 ([] ++ O) (.slice A145 n146 c147) ((nth xs4 i2).Shape.Pts) := Ds.toOw hs143 (fun b hb => List.mem_append_right _ (hmm b (List.mem_cons_of_mem _ (List.mem_append_left _ (hq128 _ (hq136 _ hb))))))
    refine L_call go68 [.slice A145 n146 c147, vi (k3 + 1 + 1)] rfl ((laws_markPtS.calls w109 hc113.ok A145 n146 c147 ((nth xs4 i2).Shape.Pts) hp151 (k3 + 1 + 1) _ H).mono ?_)
    rintro _ w149 ⟨r2, m, rfl, H, g150, h152⟩
    have gm153 : Gm w109 w149 q132 := g150.gm fun b hb => by rw [Ds.rows hs143, hb]; exact List.mem_cons_self
    have hs154 := Ds.upf hs143 h152
    have hF156 : ((Dd.sl (Dd.flat (k := kPt) kPt_flat) 29)).D w149 q132 m [.slice A145 n146 c147] := ⟨_, rfl, hs154⟩
    have hd157 := DArr.fset (hU131 w149 _ _ (Dj.left hdj.2) (fun b hb hn => gm153.block b (hd114.lt b hb) fun hm => hn (hq136 b hm)) (hV141 w149 _ _ (hq129 (Dj.left hdj.2)) (fun b hb hn => gm153.block b (hd114.lt b (hq128 b hb)) hn) hF156)) hq138 rfl
    have h158 := h111.flto (w' := w149) (O' := O) (cells_flat _) fun b hb => ⟨gm153.block b (h111.ltb b hb) fun hm => (hdj).1 b hb (List.mem_append_left _ (hq128 _ (hq136 _ hm))), h111.mem b hb⟩
    have hc159 := hc113.wmg gm153 (fun b hb => (List.mem_cons_of_mem _ (List.mem_append_left _ (hq128 _ (hq136 _ hb)))))
    obtain ⟨xs5, he160⟩ : ∃ y__ : List Feat, y__ = (xs4.set i2.toNat (⟨(nth xs4 i2).Id, (⟨(nth xs4 i2).Shape.Kind, m⟩ : Shape), (nth xs4 i2).Tags⟩ : Feat)) := ⟨_, rfl⟩
    have H := H xs5 he160
    rw [← he160] at hd157
    refine L_pu (P_assign (vi r2) rfl) ?_
    refine L_nil ?_
    refine W_reg ?_
    refine L_pu (P_move (.slice A1 n2 c3) rfl) ?_
    refine L_pu (P_move (vi i2) rfl) ?_
    obtain ⟨hb161, H⟩ := H
    have hn168 : (0 : Int) ≤ i2 ∧ i2 < (((ra28.set i2.toNat (pr63 ++ [vs r] ++ po65)).set i2.toNat (pr98 ++ [vi (k3 + 1)] ++ po100)).length : Int) := by rw [hd157.len]; exact hb161
    obtain ⟨ad162, cs163, hA164, hR165, hcl166⟩ := h158.get default (by decide) i2 hn168
    obtain rfl := Kd.cells.op hR165
    refine L_pu (P_ia Try.underlying52 se52 A1 ad162 n2 c3 (Dp.len h158 hd157) i2 rfl hA164 rfl hb161) ?_
    refine L_pu (P_fa fa71_2 (ad162.add (i2.toNat * 4)) ((ad162.add (i2.toNat * 4)).add 3) rfl rfl) ?_
    obtain ⟨q169, hq170, hq171, hD172, hU173⟩ := DArr.at_ (Int.toNat i2) default hd157 (by have := hb161; omega)
    obtain ⟨q174, pr175, cc176, po177, hq178, hq179, hq180, hq181, hF182, hV183⟩ := foc71_3 _ _ _ _ hD172
    obtain ⟨v184, hv186, hs185⟩ := hF182
    obtain ⟨A187, n188, c189, rfl⟩ := hs185.shape
    subst hv186
    have hcl190 := hcl166 3 _ (foc_cell hq180 hq181)
    refine L_pu (P_ld ag69 cL ((ad162.add (i2.toNat * 4)).add 3) (.slice A187 n188 c189) rfl hcl190) ?_
    refine L_pu (P_move (vi r2) rfl) ?_
    have hp193 : Ow kTag 133 w149 ([] ++ O) (.slice A187 n188 c189) ((nth xs5 i2).Tags) := Ds.toOw hs185 (fun b hb => List.mem_append_right _ (hmm b (List.mem_cons_of_mem _ (List.mem_append_left _ (hq170 _ (hq178 _ hb))))))
    refine L_call go69 [.slice A187 n188 c189, vi r2] rfl ((laws_markTagS.calls w149 hc159.ok A187 n188 c189 ((nth xs5 i2).Tags) hp193 r2 _ H).mono ?_)
    rintro _ w191 ⟨r3, m2, rfl, H, g192, h194⟩
    have gm195 : Gm w149 w191 q174 := g192.gm fun b hb => by rw [Ds.rows hs185, hb]; exact List.mem_cons_self
    have hs196 := Ds.upf hs185 h194
    have hF198 : ((Dd.sl (Dd.flat (k := kTag) kTag_flat) 133)).D w191 q174 m2 [.slice A187 n188 c189] := ⟨_, rfl, hs196⟩
    have hd199 := DArr.fset (hU173 w191 _ _ (Dj.left hdj.2) (fun b hb hn => gm195.block b (hd157.lt b hb) fun hm => hn (hq178 b hm)) (hV183 w191 _ _ (hq171 (Dj.left hdj.2)) (fun b hb hn => gm195.block b (hd157.lt b (hq170 b hb)) hn) hF198)) hq180 rfl
    have h200 := h158.flto (w' := w191) (O' := O) (cells_flat _) fun b hb => ⟨gm195.block b (h158.ltb b hb) fun hm => (hdj).1 b hb (List.mem_append_left _ (hq170 _ (hq178 _ hm))), h158.mem b hb⟩
    have hc201 := hc159.wmg gm195 (fun b hb => (List.mem_cons_of_mem _ (List.mem_append_left _ (hq170 _ (hq178 _ hb)))))
    obtain ⟨xs6, he202⟩ : ∃ y__ : List Feat, y__ = (xs5.set i2.toNat (⟨(nth xs5 i2).Id, (nth xs5 i2).Shape, m2⟩ : Feat)) := ⟨_, rfl⟩
    have H := H xs6 he202
    rw [← he202] at hd199
    refine L_pu (P_assign (vi r3) rfl) ?_
    refine L_nil ?_
    refine W_reg ?_
    refine L_pu (P_move (vi i2) rfl) ?_
    obtain ⟨hb204, H⟩ := H
    have hi203 : I64 (i2 + 1) := i64_succ (of_decide_eq_true hq39) hl38 hb204
    refine L_pu (P_add i2 1 rfl rfl hi203) ?_
    refine L_pu (P_assign (vi (i2 + 1)) rfl) ?_
    refine L_nil ?_
    obtain ⟨hI205, hm206⟩ := H
    exact ⟨(xs6, ((ra28.set i2.toNat (pr63 ++ [vs r] ++ po65)).set i2.toNat (pr98 ++ [vi (k3 + 1)] ++ po100)), r3, i2 + 1), hm206, hI205, ⟨rfl, rfl, rfl, trivial⟩, hc201, h200, hd199⟩
  · have H := ite_f H hq39
    refine W_exit (xin_hit ?_)
    refine W_seq ?_
    refine W_reg ?_
    refine L_pu (P_move (vi k3) rfl) ?_
    refine L_pu (P_assign (vi k3) rfl) ?_
    refine L_nil ?_
    refine W_ret ?_
    exact ⟨[vi k3], ⟨_, rfl, rfl⟩, k3, xs2, ra28, rfl, H, hc29.gr, h30, hd31⟩
end Go.Proofs.Ytndjggncgpjolaa

namespace Go.Proofs.Ytndjggncgpjolaa
set_option linter.unusedVariables false
set_option linter.unusedSimpArgs false
set_option linter.unusedSectionVars false
theorem laws_markFeatS.lawk (a : List Feat) (k : Int) (Q : Int → List Feat → Prop) (ha : bulk a ≤ 1048576) (h0 : 0 ≤ k) (h1 : k ≤ 500000000) (hq : Q (mkL gFeat a k).2 (mkL gFeat a k).1) : laws_markFeatS.E a k Q := by
  unfold laws_markFeatS.E
  have hbl := bulk_len a
  refine ⟨fun xs k' i => ∃ u : Nat, i = u ∧ Mk gFeat a k u xs k', fun _ _ i => (a.length - i).toNat, ⟨0, rfl, .zero a k⟩, ?_⟩
  rintro xs k' _ ⟨u, rfl, M⟩
  have hl := M.len
  have hb := M.bd gFeat_bd
  by_cases h : u < a.length
  · rw [if_pos (by rw [hl]; simpa using h)]
    have hu' : u < xs.length := by omega
    have hx := M.nth h
    have hm := bulk_mem (nth_mem a h)
    have hb1 := bulk_feat (nth a (u : Int))
    have hp := mkL_bd gPt_bd (nth a (u : Int)).Shape.Pts (k' + 2)
    simp only [Int.add_assoc, Int.reduceAdd]
    refine laws_markText.law _ _ (by omega) (by omega) ⟨by omega, ?_⟩
    intro xs3 e3
    rw [hx] at e3
    obtain ⟨n3, l3, s3⟩ := set_facts hu' e3
    try dsimp only at n3
    refine ⟨fun _ => by unfold I64; omega, by omega, ?_⟩
    intro xs4 e4
    try rw [n3] at e4
    try rw [s3] at e4
    try dsimp only at e4
    obtain ⟨n4, l4, s4⟩ := set_facts hu' e4
    try dsimp only at n4
    refine ⟨fun _ => by unfold I64; omega, by omega, ?_⟩
    rw [n4]
    dsimp only
    refine laws_markPtS.lawk _ _ _ (by omega) (by omega) (by omega) ?_
    intro xs5 e5
    try rw [n4] at e5
    try rw [s4] at e5
    try dsimp only at e5
    obtain ⟨n5, l5, s5⟩ := set_facts hu' e5
    try dsimp only at n5
    refine ⟨by omega, ?_⟩
    rw [n5]
    dsimp only
    refine laws_markTagS.lawk _ _ _ (by omega) (by omega) (by omega) ?_
    intro xs6 e6
    try rw [n5] at e6
    try rw [s5] at e6
    try dsimp only at e6
    obtain ⟨n6, l6, s6⟩ := set_facts hu' e6
    try dsimp only at n6
    try rw [s5] at e6
    try rw [s4] at e6
    try rw [s3] at e6
    rw [Int.toNat_natCast] at e6
    rw [e6]
    exact ⟨by omega, ⟨u + 1, by omega, M.next h rfl⟩, by first | omega | (dsimp only; omega)⟩
  · rw [if_neg (by rw [hl]; simpa using h)]
    obtain ⟨rfl, rfl⟩ := M.full h
    exact hq
end Go.Proofs.Ytndjggncgpjolaa

namespace Go.Proofs.Ytndjggncgpjolaa
open Go.RowKit
set_option linter.unusedVariables false
def laws_markChangeS.E (a : List Change) (k : Int) (Q : Int → List Change → Prop) : Prop :=
  (∃ (I32 : (List Change) → Int → Int → Prop) (mu33 : (List Change) → Int → Int → Nat), I32 a k 0 ∧ ∀ (xs2 : List Change) (k3 : Int) (i2 : Int), I32 xs2 k3 i2 → (if decide (i2 < (xs2.length : Int)) then laws_markText.E k3 (fun r => ((0 : Int) ≤ i2 ∧ i2 < (xs2.length : Int)) ∧ (∀ xs3 : List Change, xs3 = (xs2.set i2.toNat (⟨r, (nth xs2 i2).Had, (nth xs2 i2).Was, (nth xs2 i2).Has, (nth xs2 i2).Now⟩ : Change)) → ((xs2.length : Int) ≤ 9223372036854775807 → I64 (k3 + 1)) ∧ ((0 : Int) ≤ k3 + 1 ∧ (0 : Int) < 3) ∧ ((0 : Int) ≤ i2 ∧ i2 < (xs3.length : Int)) ∧ (∀ xs4 : List Change, xs4 = (xs3.set i2.toNat (⟨(nth xs3 i2).Id, ((k3 + 1) % 3) == 0, (nth xs3 i2).Was, (nth xs3 i2).Has, (nth xs3 i2).Now⟩ : Change)) → ((xs2.length : Int) ≤ 9223372036854775807 → I64 (k3 + 1 + 1)) ∧ laws_markText.E (k3 + 1 + 1) (fun r2 => ((0 : Int) ≤ i2 ∧ i2 < (xs4.length : Int)) ∧ (∀ xs5 : List Change, xs5 = (xs4.set i2.toNat (⟨(nth xs4 i2).Id, (nth xs4 i2).Had, (⟨r2, (nth xs4 i2).Was.Shape, (nth xs4 i2).Was.Tags⟩ : Feat), (nth xs4 i2).Has, (nth xs4 i2).Now⟩ : Change)) → ((xs2.length : Int) ≤ 9223372036854775807 → I64 (k3 + 1 + 1 + 1)) ∧ ((0 : Int) ≤ i2 ∧ i2 < (xs5.length : Int)) ∧ (∀ xs6 : List Change, xs6 = (xs5.set i2.toNat (⟨(nth xs5 i2).Id, (nth xs5 i2).Had, (⟨(nth xs5 i2).Was.Id, (⟨k3 + 1 + 1 + 1, (nth xs5 i2).Was.Shape.Pts⟩ : Shape), (nth xs5 i2).Was.Tags⟩ : Feat), (nth xs5 i2).Has, (nth xs5 i2).Now⟩ : Change)) → ((xs2.length : Int) ≤ 9223372036854775807 → I64 (k3 + 1 + 1 + 1 + 1)) ∧ ((0 : Int) ≤ i2 ∧ i2 < (xs6.length : Int)) ∧ laws_markPtS.E ((nth xs6 i2).Was.Shape.Pts) (k3 + 1 + 1 + 1 + 1) (fun r3 m => (∀ xs7 : List Change, xs7 = (xs6.set i2.toNat (⟨(nth xs6 i2).Id, (nth xs6 i2).Had, (⟨(nth xs6 i2).Was.Id, (⟨(nth xs6 i2).Was.Shape.Kind, m⟩ : Shape), (nth xs6 i2).Was.Tags⟩ : Feat), (nth xs6 i2).Has, (nth xs6 i2).Now⟩ : Change)) → ((0 : Int) ≤ i2 ∧ i2 < (xs7.length : Int)) ∧ laws_markTagS.E ((nth xs7 i2).Was.Tags) r3 (fun r4 m2 => (∀ xs8 : List Change, xs8 = (xs7.set i2.toNat (⟨(nth xs7 i2).Id, (nth xs7 i2).Had, (⟨(nth xs7 i2).Was.Id, (nth xs7 i2).Was.Shape, m2⟩ : Feat), (nth xs7 i2).Has, (nth xs7 i2).Now⟩ : Change)) → ((0 : Int) ≤ r4 ∧ (0 : Int) < 3) ∧ ((0 : Int) ≤ i2 ∧ i2 < (xs8.length : Int)) ∧ (∀ xs9 : List Change, xs9 = (xs8.set i2.toNat (⟨(nth xs8 i2).Id, (nth xs8 i2).Had, (nth xs8 i2).Was, (r4 % 3) == 0, (nth xs8 i2).Now⟩ : Change)) → ((xs2.length : Int) ≤ 9223372036854775807 → I64 (r4 + 1)) ∧ laws_markText.E (r4 + 1) (fun r5 => ((0 : Int) ≤ i2 ∧ i2 < (xs9.length : Int)) ∧ (∀ xs10 : List Change, xs10 = (xs9.set i2.toNat (⟨(nth xs9 i2).Id, (nth xs9 i2).Had, (nth xs9 i2).Was, (nth xs9 i2).Has, (⟨r5, (nth xs9 i2).Now.Shape, (nth xs9 i2).Now.Tags⟩ : Feat)⟩ : Change)) → ((xs2.length : Int) ≤ 9223372036854775807 → I64 (r4 + 1 + 1)) ∧ ((0 : Int) ≤ i2 ∧ i2 < (xs10.length : Int)) ∧ (∀ xs11 : List Change, xs11 = (xs10.set i2.toNat (⟨(nth xs10 i2).Id, (nth xs10 i2).Had, (nth xs10 i2).Was, (nth xs10 i2).Has, (⟨(nth xs10 i2).Now.Id, (⟨r4 + 1 + 1, (nth xs10 i2).Now.Shape.Pts⟩ : Shape), (nth xs10 i2).Now.Tags⟩ : Feat)⟩ : Change)) → ((xs2.length : Int) ≤ 9223372036854775807 → I64 (r4 + 1 + 1 + 1)) ∧ ((0 : Int) ≤ i2 ∧ i2 < (xs11.length : Int)) ∧ laws_markPtS.E ((nth xs11 i2).Now.Shape.Pts) (r4 + 1 + 1 + 1) (fun r6 m3 => (∀ xs12 : List Change, xs12 = (xs11.set i2.toNat (⟨(nth xs11 i2).Id, (nth xs11 i2).Had, (nth xs11 i2).Was, (nth xs11 i2).Has, (⟨(nth xs11 i2).Now.Id, (⟨(nth xs11 i2).Now.Shape.Kind, m3⟩ : Shape), (nth xs11 i2).Now.Tags⟩ : Feat)⟩ : Change)) → ((0 : Int) ≤ i2 ∧ i2 < (xs12.length : Int)) ∧ laws_markTagS.E ((nth xs12 i2).Now.Tags) r6 (fun r7 m4 => (∀ xs13 : List Change, xs13 = (xs12.set i2.toNat (⟨(nth xs12 i2).Id, (nth xs12 i2).Had, (nth xs12 i2).Was, (nth xs12 i2).Has, (⟨(nth xs12 i2).Now.Id, (nth xs12 i2).Now.Shape, m4⟩ : Feat)⟩ : Change)) → (-9223372036854775808 ≤ i2) ∧ I32 xs13 r7 (i2 + 1) ∧ mu33 xs13 r7 (i2 + 1) < mu33 xs2 k3 i2)))))))))))))))))) else Q k3 xs2))
set_option maxHeartbeats 8000000 in
set_option maxRecDepth 100000 in
theorem laws_markChangeS.calls {O : Ob} (w0 : World) (hO : Ok w0 O) (a : List Change) (A1 : Option Addr) (n2 c3 : Nat) (ra6 : List (List Value)) (q7 : Ob) (hp5 : Ow (Kd.cells 11) 103 w0 O (.slice A1 n2 c3) ra6) (hd8 : DArr dChange_103 w0 q7 a ra6) (hdj : Dj (blk (.slice A1 n2 c3) :: (q7 ++ []))) (hmm : ∀ b, some b ∈ ((blk (.slice A1 n2 c3) :: (q7 ++ [])) : Ob) → some b ∈ O) (k : Int) (Q : Int → List Change → Prop) (h : laws_markChangeS.E a k Q) :
    Ret Try.prog 23 [.slice A1 n2 c3, vi k] w0 (fun v w' => ∃ (r0 : Int) (m0 : List Change) (mra0 : List (List Value)), v = vi r0 ∧ Q r0 m0 ∧ Gm w0 w' (blk (.slice A1 n2 c3) :: (q7 ++ [])) ∧ Ow (Kd.cells 11) 103 w' O (.slice A1 n2 c3) mra0 ∧ DArr dChange_103 w' q7 m0 mra0) := by
  have H : (∃ (I32 : (List Change) → Int → Int → Prop) (mu33 : (List Change) → Int → Int → Nat), I32 a k 0 ∧ ∀ (xs2 : List Change) (k3 : Int) (i2 : Int), I32 xs2 k3 i2 → (if decide (i2 < (xs2.length : Int)) then laws_markText.E k3 (fun r => ((0 : Int) ≤ i2 ∧ i2 < (xs2.length : Int)) ∧ (∀ xs3 : List Change, xs3 = (xs2.set i2.toNat (⟨r, (nth xs2 i2).Had, (nth xs2 i2).Was, (nth xs2 i2).Has, (nth xs2 i2).Now⟩ : Change)) → ((xs2.length : Int) ≤ 9223372036854775807 → I64 (k3 + 1)) ∧ ((0 : Int) ≤ k3 + 1 ∧ (0 : Int) < 3) ∧ ((0 : Int) ≤ i2 ∧ i2 < (xs3.length : Int)) ∧ (∀ xs4 : List Change, xs4 = (xs3.set i2.toNat (⟨(nth xs3 i2).Id, ((k3 + 1) % 3) == 0, (nth xs3 i2).Was, (nth xs3 i2).Has, (nth xs3 i2).Now⟩ : Change)) → ((xs2.length : Int) ≤ 9223372036854775807 → I64 (k3 + 1 + 1)) ∧ laws_markText.E (k3 + 1 + 1) (fun r2 => ((0 : Int) ≤ i2 ∧ i2 < (xs4.length : Int)) ∧ (∀ xs5 : List Change, xs5 = (xs4.set i2.toNat (⟨(nth xs4 i2).Id, (nth xs4 i2).Had, (⟨r2, (nth xs4 i2).Was.Shape, (nth xs4 i2).Was.Tags⟩ : Feat), (nth xs4 i2).Has, (nth xs4 i2).Now⟩ : Change)) → ((xs2.length : Int) ≤ 9223372036854775807 → I64 (k3 + 1 + 1 + 1)) ∧ ((0 : Int) ≤ i2 ∧ i2 < (xs5.length : Int)) ∧ (∀ xs6 : List Change, xs6 = (xs5.set i2.toNat (⟨(nth xs5 i2).Id, (nth xs5 i2).Had, (⟨(nth xs5 i2).Was.Id, (⟨k3 + 1 + 1 + 1, (nth xs5 i2).Was.Shape.Pts⟩ : Shape), (nth xs5 i2).Was.Tags⟩ : Feat), (nth xs5 i2).Has, (nth xs5 i2).Now⟩ : Change)) → ((xs2.length : Int) ≤ 9223372036854775807 → I64 (k3 + 1 + 1 + 1 + 1)) ∧ ((0 : Int) ≤ i2 ∧ i2 < (xs6.length : Int)) ∧ laws_markPtS.E ((nth xs6 i2).Was.Shape.Pts) (k3 + 1 + 1 + 1 + 1) (fun r3 m => (∀ xs7 : List Change, xs7 = (xs6.set i2.toNat (⟨(nth xs6 i2).Id, (nth xs6 i2).Had, (⟨(nth xs6 i2).Was.Id, (⟨(nth xs6 i2).Was.Shape.Kind, m⟩ : Shape), (nth xs6 i2).Was.Tags⟩ : Feat), (nth xs6 i2).Has, (nth xs6 i2).Now⟩ : Change)) → ((0 : Int) ≤ i2 ∧ i2 < (xs7.length : Int)) ∧ laws_markTagS.E ((nth xs7 i2).Was.Tags) r3 (fun r4 m2 => (∀ xs8 : List Change, xs8 = (xs7.set i2.toNat (⟨(nth xs7 i2).Id, (nth xs7 i2).Had, (⟨(nth xs7 i2).Was.Id, (nth xs7 i2).Was.Shape, m2⟩ : Feat), (nth xs7 i2).Has, (nth xs7 i2).Now⟩ : Change)) → ((0 : Int) ≤ r4 ∧ (0 : Int) < 3) ∧ ((0 : Int) ≤ i2 ∧ i2 < (xs8.length : Int)) ∧ (∀ xs9 : List Change, xs9 = (xs8.set i2.toNat (⟨(nth xs8 i2).Id, (nth xs8 i2).Had, (nth xs8 i2).Was, (r4 % 3) == 0, (nth xs8 i2).Now⟩ : Change)) → ((xs2.length : Int) ≤ 9223372036854775807 → I64 (r4 + 1)) ∧ laws_markText.E (r4 + 1) (fun r5 => ((0 : Int) ≤ i2 ∧ i2 < (xs9.length : Int)) ∧ (∀ xs10 : List Change, xs10 = (xs9.set i2.toNat (⟨(nth xs9 i2).Id, (nth xs9 i2).Had, (nth xs9 i2).Was, (nth xs9 i2).Has, (⟨r5, (nth xs9 i2).Now.Shape, (nth xs9 i2).Now.Tags⟩ : Feat)⟩ : Change)) → ((xs2.length : Int) ≤ 9223372036854775807 → I64 (r4 + 1 + 1)) ∧ ((0 : Int) ≤ i2 ∧ i2 < (xs10.length : Int)) ∧ (∀ xs11 : List Change, xs11 = (xs10.set i2.toNat (⟨(nth xs10 i2).Id, (nth xs10 i2).Had, (nth xs10 i2).Was, (nth xs10 i2).Has, (⟨(nth xs10 i2).Now.Id, (⟨r4 + 1 + 1, (nth xs10 i2).Now.Shape.Pts⟩ : Shape), (nth xs10 i2).Now.Tags⟩ : Feat)⟩ : Change)) → ((xs2.length : Int) ≤ 9223372036854775807 → I64 (r4 + 1 + 1 + 1)) ∧ ((0 : Int) ≤ i2 ∧ i2 < (xs11.length : Int)) ∧ laws_markPtS.E ((nth xs11 i2).Now.Shape.Pts) (r4 + 1 + 1 + 1) (fun r6 m3 => (∀ xs12 : List Change, xs12 = (xs11.set i2.toNat (⟨(nth xs11 i2).Id, (nth xs11 i2).Had, (nth xs11 i2).Was, (nth xs11 i2).Has, (⟨(nth xs11 i2).Now.Id, (⟨(nth xs11 i2).Now.Shape.Kind, m3⟩ : Shape), (nth xs11 i2).Now.Tags⟩ : Feat)⟩ : Change)) → ((0 : Int) ≤ i2 ∧ i2 < (xs12.length : Int)) ∧ laws_markTagS.E ((nth xs12 i2).Now.Tags) r6 (fun r7 m4 => (∀ xs13 : List Change, xs13 = (xs12.set i2.toNat (⟨(nth xs12 i2).Id, (nth xs12 i2).Had, (nth xs12 i2).Was, (nth xs12 i2).Has, (⟨(nth xs12 i2).Now.Id, (nth xs12 i2).Now.Shape, m4⟩ : Feat)⟩ : Change)) → (-9223372036854775808 ≤ i2) ∧ I32 xs13 r7 (i2 + 1) ∧ mu33 xs13 r7 (i2 + 1) < mu33 xs2 k3 i2)))))))))))))))))) else Q k3 xs2)) := h
  clear h
  have hc0 := Ct.initm hO hmm
  refine Ret_enter Try.func23 rfl 109 rfl [.tmp 4] rfl rfl ?_
  refine W_seq ?_
  refine W_reg ?_
  refine L_pu (P_assign (vi 0) rfl) ?_
  refine L_nil ?_
  refine W_seq ?_
  refine W_seq ?_
  refine W_reg ?_
  refine L_pu (P_assign (vi 0) rfl) ?_
  refine L_nil ?_
  refine W_block ?_
  obtain ⟨I32, mu33, hI34, H⟩ := H
  refine W_loop (α := (List Change) × (List (List Value)) × Int × Int) (fun (sv__ : (List Change) × (List (List Value)) × Int × Int) t w23 => match sv__ with | (xs2, ra28, k3, i2) => I32 xs2 k3 i2 ∧ Has t [(0, .slice A1 n2 c3), (1, vi k3), (5, vi i2)] ∧ Ct (blk (.slice A1 n2 c3) :: (q7 ++ [])) w0 w23 [] O ∧ Ow (Kd.cells 11) 103 w23 O (.slice A1 n2 c3) ra28 ∧ DArr dChange_103 w23 q7 xs2 ra28) (fun (sv__ : (List Change) × (List (List Value)) × Int × Int) => match sv__ with | (xs2, _, k3, i2) => mu33 xs2 k3 i2) (a, ra6, k, 0) ⟨hI34, ⟨rfl, rfl, rfl, trivial⟩, hc0, hp5, hd8⟩ ?_
  rintro ⟨xs2, ra28, k3, i2⟩ _ w23 ⟨hI34, hh36, hc29, h30, hd31⟩
  obtain ⟨u37, rfl⟩ := Has.ins hh36
  have H := H xs2 k3 i2 hI34
  refine W_seq ?_
  refine W_seq ?_
  refine W_reg ?_
  refine L_pu (P_move (vi i2) rfl) ?_
  refine L_pu (P_move (.slice A1 n2 c3) rfl) ?_
  have hl38 := (Dp.le h30 hd31)
  refine L_pu (P_len Try.underlying43 A1 n2 c3 (Dp.len h30 hd31) rfl) ?_
  refine L_pu (P_cmp i2 (xs2.length : Int) (decide (i2 < (xs2.length : Int))) rfl rfl rfl) ?_
  refine L_nil ?_
  refine W_cond (decide (i2 < (xs2.length : Int))) rfl (fun hq39 => ?_) (fun hq39 => ?_)
  · have H := ite_t H hq39
    refine W_skip ?_
    refine W_seq ?_
    refine W_block ?_
    refine W_seq ?_
    refine W_reg ?_
    refine L_pu (P_move (.slice A1 n2 c3) rfl) ?_
    refine L_pu (P_move (vi i2) rfl) ?_
    refine L_pu (P_move (vi k3) rfl) ?_
    refine L_call go67 [vi k3] rfl ((laws_markText.calls w23 hc29.ok k3 _ H).mono ?_)
    rintro _ w40 ⟨r, rfl, H, g41, hs42⟩
    have hc46 := hc29.k0 g41
    obtain ⟨hb47, H⟩ := H
    have h54 := (h30.sn g41)
    have hd55 := (hd31.k0 g41)
    have hn56 : (0 : Int) ≤ i2 ∧ i2 < (ra28.length : Int) := by rw [hd55.len]; exact hb47
    obtain ⟨ad48, cs49, hA50, hR51, hcl52⟩ := h54.get default (by decide) i2 hn56
    obtain rfl := Kd.cells.op hR51
    refine L_pu (P_ia Try.underlying43 se43 A1 ad48 n2 c3 (Dp.len h54 hd55) i2 rfl hA50 rfl hb47) ?_
    refine L_pu (P_fa fa103_0 (ad48.add (i2.toNat * 11)) ((ad48.add (i2.toNat * 11)).add 0) rfl rfl) ?_
    obtain ⟨q57, hq58, hq59, hD60, hU61⟩ := DArr.at_ (Int.toNat i2) default hd55 (by have := hb47; omega)
    obtain ⟨q62, pr63, cc64, po65, hq66, hq67, hq68, hq69, hF70, hV71⟩ := foc103_0 _ _ _ _ hD60
    have hy72 : ((Dd.flat (k := Kd.str) str_flat)).D w40 q62 r [vs r] := ⟨hF70.1, ⟨rfl, hs42⟩⟩
    have hy73 := hV71 _ _ _ (hq59 (Dj.left hdj.2)) (fun _ _ _ => rfl) hy72
    have hl77 : cc64.length = [vs r].length := (((Dd.flat (k := Kd.str) str_flat)).toR (S := fun _ => True) hF70 fun _ _ => trivial) |> Kd.len _
    refine L_ste1 (kd := Kd.cells 11) A1 n2 c3 ra28 h54 i2 hn56 ad48 hA50 0 rfl [vs r] rfl sz9 rfl (pr63 ++ [vs r] ++ po65) _ (pr63 ++ [vs r] ++ po65) hcl52 (Kd.len _ hR51) (foc_put hq68 hq69 hl77) (Dd.raw _ hy73) fun w74 g75 h76 => ?_
    have hc78 := hc46.wmm (memi (L := (blk (.slice A1 n2 c3) :: (q7 ++ []))) 0 rfl) g75
    have hg80 : ∀ b, some b ∈ (q7 : Ob) → w74.heap[b]? = _ := fun b hb => g75.block b (hd55.lt b hb) (fun e => (hdj).1 b e.symm (List.mem_append_left _ hb))
    have hd79 := hU61 w74 _ _ (Dj.left hdj.2) (fun b hb _ => hg80 b hb) (hV71 _ _ _ (hq59 (Dj.left hdj.2)) (fun b hb _ => hg80 b (hq58 b hb)) hy72)
    obtain ⟨xs3, he81⟩ : ∃ y__ : List Change, y__ = (xs2.set i2.toNat (⟨r, (nth xs2 i2).Had, (nth xs2 i2).Was, (nth xs2 i2).Has, (nth xs2 i2).Now⟩ : Change)) := ⟨_, rfl⟩
    have H := H xs3 he81
    rw [← he81] at hd79
    refine L_nil ?_
    refine W_seq ?_
    refine W_reg ?_
    refine L_pu (P_move (vi k3) rfl) ?_
    obtain ⟨hb82, H⟩ := H
    have hi83 := hb82 (len_le hl38)
    refine L_pu (P_add k3 1 rfl rfl hi83) ?_
    refine L_pu (P_assign (vi (k3 + 1)) rfl) ?_
    refine L_nil ?_
    refine W_seq ?_
    refine W_reg ?_
    refine L_pu (P_move (.slice A1 n2 c3) rfl) ?_
    refine L_pu (P_move (vi i2) rfl) ?_
    refine L_pu (P_move (vi (k3 + 1)) rfl) ?_
    obtain ⟨hb84, H⟩ := H
    refine L_pu (P_rem (k3 + 1) 3 rfl rfl hb84) ?_
    refine L_pu (P_cmp ((k3 + 1) % 3) 0 (((k3 + 1) % 3) == 0) rfl rfl rfl) ?_
    obtain ⟨hb85, H⟩ := H
    have hn92 : (0 : Int) ≤ i2 ∧ i2 < ((ra28.set i2.toNat (pr63 ++ [vs r] ++ po65)).length : Int) := by rw [hd79.len]; exact hb85
    obtain ⟨ad86, cs87, hA88, hR89, hcl90⟩ := h76.get default (by decide) i2 hn92
    obtain rfl := Kd.cells.op hR89
    refine L_pu (P_ia Try.underlying43 se43 A1 ad86 n2 c3 (Dp.len h76 hd79) i2 rfl hA88 rfl hb85) ?_
    refine L_pu (P_fa fa103_1 (ad86.add (i2.toNat * 11)) ((ad86.add (i2.toNat * 11)).add 1) rfl rfl) ?_
    obtain ⟨q93, hq94, hq95, hD96, hU97⟩ := DArr.at_ (Int.toNat i2) default hd79 (by have := hb85; omega)
    obtain ⟨q98, pr99, cc100, po101, hq102, hq103, hq104, hq105, hF106, hV107⟩ := foc103_1 _ _ _ _ hD96
    have hy108 : ((Dd.flat (k := Kd.bool) bool_flat)).D w74 q98 (((k3 + 1) % 3) == 0) [vb (((k3 + 1) % 3) == 0)] := ⟨hF106.1, rfl⟩
    have hy109 := hV107 _ _ _ (hq95 (Dj.left hdj.2)) (fun _ _ _ => rfl) hy108
    have hl113 : cc100.length = [vb (((k3 + 1) % 3) == 0)].length := (((Dd.flat (k := Kd.bool) bool_flat)).toR (S := fun _ => True) hF106 fun _ _ => trivial) |> Kd.len _
    refine L_ste1 (kd := Kd.cells 11) A1 n2 c3 (ra28.set i2.toNat (pr63 ++ [vs r] ++ po65)) h76 i2 hn92 ad86 hA88 1 rfl [vb (((k3 + 1) % 3) == 0)] rfl sz4 rfl (pr99 ++ [vb (((k3 + 1) % 3) == 0)] ++ po101) _ (pr99 ++ [vb (((k3 + 1) % 3) == 0)] ++ po101) hcl90 (Kd.len _ hR89) (foc_put hq104 hq105 hl113) (Dd.raw _ hy109) fun w110 g111 h112 => ?_
    have hc114 := hc78.wmm (memi (L := (blk (.slice A1 n2 c3) :: (q7 ++ []))) 0 rfl) g111
    have hg116 : ∀ b, some b ∈ (q7 : Ob) → w110.heap[b]? = _ := fun b hb => g111.block b (hd79.lt b hb) (fun e => (hdj).1 b e.symm (List.mem_append_left _ hb))
    have hd115 := hU97 w110 _ _ (Dj.left hdj.2) (fun b hb _ => hg116 b hb) (hV107 _ _ _ (hq95 (Dj.left hdj.2)) (fun b hb _ => hg116 b (hq94 b hb)) hy108)
    obtain ⟨xs4, he117⟩ : ∃ y__ : List Change, y__ = (xs3.set i2.toNat (⟨(nth xs3 i2).Id, ((k3 + 1) % 3) == 0, (nth xs3 i2).Was, (nth xs3 i2).Has, (nth xs3 i2).Now⟩ : Change)) := ⟨_, rfl⟩
    have H := H xs4 he117
    rw [← he117] at hd115
    refine L_nil ?_
    refine W_seq ?_
    refine W_reg ?_
    refine L_pu (P_move (vi (k3 + 1)) rfl) ?_
    obtain ⟨hb118, H⟩ := H
    have hi119 := hb118 (len_le hl38)
    refine L_pu (P_add (k3 + 1) 1 rfl rfl hi119) ?_
    refine L_pu (P_assign (vi (k3 + 1 + 1)) rfl) ?_
    refine L_nil ?_
    refine W_seq ?_
    refine W_reg ?_
    refine L_pu (P_move (.slice A1 n2 c3) rfl) ?_
    refine L_pu (P_move (vi i2) rfl) ?_
    refine L_pu (P_move (vi (k3 + 1 + 1)) rfl) ?_
    refine L_call go67 [vi (k3 + 1 + 1)] rfl ((laws_markText.calls w110 hc114.ok (k3 + 1 + 1) _ H).mono ?_)
    rintro _ w120 ⟨r2, rfl, H, g121, hs122⟩
    have hc126 := hc114.k0 g121
    obtain ⟨hb127, H⟩ := H
    have h134 := (h112.sn g121)
    have hd135 := (hd115.k0 g121)
    have hn136 : (0 : Int) ≤ i2 ∧ i2 < (((ra28.set i2.toNat (pr63 ++ [vs r] ++ po65)).set i2.toNat (pr99 ++ [vb (((k3 + 1) % 3) == 0)] ++ po101)).length : Int) := by rw [hd135.len]; exact hb127
    obtain ⟨ad128, cs129, hA130, hR131, hcl132⟩ := h134.get default (by decide) i2 hn136
    obtain rfl := Kd.cells.op hR131
    refine L_pu (P_ia Try.underlying43 se43 A1 ad128 n2 c3 (Dp.len h134 hd135) i2 rfl hA130 rfl hb127) ?_
    refine L_pu (P_fa fa103_2 (ad128.add (i2.toNat * 11)) ((ad128.add (i2.toNat * 11)).add 2) rfl rfl) ?_
    refine L_pu (P_fa fa71_0 ((ad128.add (i2.toNat * 11)).add 2) (((ad128.add (i2.toNat * 11)).add 2).add 0) rfl rfl) ?_
    obtain ⟨q137, hq138, hq139, hD140, hU141⟩ := DArr.at_ (Int.toNat i2) default hd135 (by have := hb127; omega)
    obtain ⟨q142, pr143, cc144, po145, hq146, hq147, hq148, hq149, hF150, hV151⟩ := foc103_2 _ _ _ _ hD140
    have hy152 : ((Dd.flat (k := Kd.str) str_flat)).D w120 q142 r2 [vs r2] := ⟨hF150.1, ⟨rfl, hs122⟩⟩
    have hy153 := hV151 _ _ _ (hq139 (Dj.left hdj.2)) (fun _ _ _ => rfl) hy152
    have hl157 : cc144.length = [vs r2].length := (((Dd.flat (k := Kd.str) str_flat)).toR (S := fun _ => True) hF150 fun _ _ => trivial) |> Kd.len _
    refine L_ste2 (kd := Kd.cells 11) A1 n2 c3 ((ra28.set i2.toNat (pr63 ++ [vs r] ++ po65)).set i2.toNat (pr99 ++ [vb (((k3 + 1) % 3) == 0)] ++ po101)) h134 i2 hn136 ad128 hA130 2 rfl rfl [vs r2] rfl sz9 rfl (pr143 ++ [vs r2] ++ po145) _ (pr143 ++ [vs r2] ++ po145) hcl132 (Kd.len _ hR131) (foc_put hq148 hq149 hl157) (Dd.raw _ hy153) fun w154 g155 h156 => ?_
    have hc158 := hc126.wmm (memi (L := (blk (.slice A1 n2 c3) :: (q7 ++ []))) 0 rfl) g155
    have hg160 : ∀ b, some b ∈ (q7 : Ob) → w154.heap[b]? = _ := fun b hb => g155.block b (hd135.lt b hb) (fun e => (hdj).1 b e.symm (List.mem_append_left _ hb))
    have hd159 := hU141 w154 _ _ (Dj.left hdj.2) (fun b hb _ => hg160 b hb) (hV151 _ _ _ (hq139 (Dj.left hdj.2)) (fun b hb _ => hg160 b (hq138 b hb)) hy152)
    obtain ⟨xs5, he161⟩ : ∃ y__ : List Change, y__ = (xs4.set i2.toNat (⟨(nth xs4 i2).Id, (nth xs4 i2).Had, (⟨r2, (nth xs4 i2).Was.Shape, (nth xs4 i2).Was.Tags⟩ : Feat), (nth xs4 i2).Has, (nth xs4 i2).Now⟩ : Change)) := ⟨_, rfl⟩
    have H := H xs5 he161
    rw [← he161] at hd159
    refine L_nil ?_
    refine W_seq ?_
    refine W_reg ?_
    refine L_pu (P_move (vi (k3 + 1 + 1)) rfl) ?_
    obtain ⟨hb162, H⟩ := H
    have hi163 := hb162 (len_le hl38)
    refine L_pu (P_add (k3 + 1 + 1) 1 rfl rfl hi163) ?_
    refine L_pu (P_assign (vi (k3 + 1 + 1 + 1)) rfl) ?_
    refine L_nil ?_
    refine W_seq ?_
    refine W_reg ?_
    refine L_pu (P_move (.slice A1 n2 c3) rfl) ?_
    refine L_pu (P_move (vi i2) rfl) ?_
    refine L_pu (P_move (vi (k3 + 1 + 1 + 1)) rfl) ?_
    obtain ⟨hb164, H⟩ := H
    have hn171 : (0 : Int) ≤ i2 ∧ i2 < ((((ra28.set i2.toNat (pr63 ++ [vs r] ++ po65)).set i2.toNat (pr99 ++ [vb (((k3 + 1) % 3) == 0)] ++ po101)).set i2.toNat (pr143 ++ [vs r2] ++ po145)).length : Int) := by rw [hd159.len]; exact hb164
    obtain ⟨ad165, cs166, hA167, hR168, hcl169⟩ := h156.get default (by decide) i2 hn171
    obtain rfl := Kd.cells.op hR168
    refine L_pu (P_ia Try.underlying43 se43 A1 ad165 n2 c3 (Dp.len h156 hd159) i2 rfl hA167 rfl hb164) ?_
    refine L_pu (P_fa fa103_2 (ad165.add (i2.toNat * 11)) ((ad165.add (i2.toNat * 11)).add 2) rfl rfl) ?_
    refine L_pu (P_fa fa71_1 ((ad165.add (i2.toNat * 11)).add 2) (((ad165.add (i2.toNat * 11)).add 2).add 1) rfl rfl) ?_
    refine L_pu (P_fa fa68_0 (((ad165.add (i2.toNat * 11)).add 2).add 1) ((((ad165.add (i2.toNat * 11)).add 2).add 1).add 0) rfl rfl) ?_
    obtain ⟨q172, hq173, hq174, hD175, hU176⟩ := DArr.at_ (Int.toNat i2) default hd159 (by have := hb164; omega)
    obtain ⟨q177, pr178, cc179, po180, hq181, hq182, hq183, hq184, hF185, hV186⟩ := foc103_3 _ _ _ _ hD175
    have hy187 : ((Dd.flat (k := (Kd.int .i64)) (int_flat _))).D w154 q177 (k3 + 1 + 1 + 1) [vi (k3 + 1 + 1 + 1)] := ⟨hF185.1, rfl⟩
    have hy188 := hV186 _ _ _ (hq174 (Dj.left hdj.2)) (fun _ _ _ => rfl) hy187
    have hl192 : cc179.length = [vi (k3 + 1 + 1 + 1)].length := (((Dd.flat (k := (Kd.int .i64)) (int_flat _))).toR (S := fun _ => True) hF185 fun _ _ => trivial) |> Kd.len _
    refine L_ste3 (kd := Kd.cells 11) A1 n2 c3 (((ra28.set i2.toNat (pr63 ++ [vs r] ++ po65)).set i2.toNat (pr99 ++ [vb (((k3 + 1) % 3) == 0)] ++ po101)).set i2.toNat (pr143 ++ [vs r2] ++ po145)) h156 i2 hn171 ad165 hA167 3 rfl rfl [vi (k3 + 1 + 1 + 1)] rfl sz3 rfl (pr178 ++ [vi (k3 + 1 + 1 + 1)] ++ po180) _ (pr178 ++ [vi (k3 + 1 + 1 + 1)] ++ po180) hcl169 (Kd.len _ hR168) (foc_put hq183 hq184 hl192) (Dd.raw _ hy188) fun w189 g190 h191 => ?_
    have hc193 := hc158.wmm (memi (L := (blk (.slice A1 n2 c3) :: (q7 ++ []))) 0 rfl) g190
    have hg195 : ∀ b, some b ∈ (q7 : Ob) → w189.heap[b]? = _ := fun b hb => g190.block b (hd159.lt b hb) (fun e => (hdj).1 b e.symm (List.mem_append_left _ hb))
    have hd194 := hU176 w189 _ _ (Dj.left hdj.2) (fun b hb _ => hg195 b hb) (hV186 _ _ _ (hq174 (Dj.left hdj.2)) (fun b hb _ => hg195 b (hq173 b hb)) hy187)
    obtain ⟨xs6, he196⟩ : ∃ y__ : List Change, y__ = (xs5.set i2.toNat (⟨(nth xs5 i2).Id, (nth xs5 i2).Had, (⟨(nth xs5 i2).Was.Id, (⟨k3 + 1 + 1 + 1, (nth xs5 i2).Was.Shape.Pts⟩ : Shape), (nth xs5 i2).Was.Tags⟩ : Feat), (nth xs5 i2).Has, (nth xs5 i2).Now⟩ : Change)) := ⟨_, rfl⟩
    have H := H xs6 he196
    rw [← he196] at hd194
    refine L_nil ?_
    refine W_seq ?_
    refine W_reg ?_
    refine L_pu (P_move (vi (k3 + 1 + 1 + 1)) rfl) ?_
    obtain ⟨hb197, H⟩ := H
    have hi198 := hb197 (len_le hl38)
    refine L_pu (P_add (k3 + 1 + 1 + 1) 1 rfl rfl hi198) ?_
    refine L_pu (P_assign (vi (k3 + 1 + 1 + 1 + 1)) rfl) ?_
    refine L_nil ?_
    refine W_seq ?_
    refine W_reg ?_
    refine L_pu (P_move (.slice A1 n2 c3) rfl) ?_
    refine L_pu (P_move (vi i2) rfl) ?_
    obtain ⟨hb199, H⟩ := H
    have hn206 : (0 : Int) ≤ i2 ∧ i2 < (((((ra28.set i2.toNat (pr63 ++ [vs r] ++ po65)).set i2.toNat (pr99 ++ [vb (((k3 + 1) % 3) == 0)] ++ po101)).set i2.toNat (pr143 ++ [vs r2] ++ po145)).set i2.toNat (pr178 ++ [vi (k3 + 1 + 1 + 1)] ++ po180)).length : Int) := by rw [hd194.len]; exact hb199
    obtain ⟨ad200, cs201, hA202, hR203, hcl204⟩ := h191.get default (by decide) i2 hn206
    obtain rfl := Kd.cells.op hR203
    refine L_pu (P_ia Try.underlying43 se43 A1 ad200 n2 c3 (Dp.len h191 hd194) i2 rfl hA202 rfl hb199) ?_
    refine L_pu (P_fa fa103_2 (ad200.add (i2.toNat * 11)) ((ad200.add (i2.toNat * 11)).add 2) rfl rfl) ?_
    refine L_pu (P_fa fa71_1 ((ad200.add (i2.toNat * 11)).add 2) (((ad200.add (i2.toNat * 11)).add 2).add 1) rfl rfl) ?_
    refine L_pu (P_fa fa68_1 (((ad200.add (i2.toNat * 11)).add 2).add 1) ((((ad200.add (i2.toNat * 11)).add 2).add 1).add 1) rfl rfl) ?_
    obtain ⟨q207, hq208, hq209, hD210, hU211⟩ := DArr.at_ (Int.toNat i2) default hd194 (by have := hb199; omega)
    obtain ⟨q212, pr213, cc214, po215, hq216, hq217, hq218, hq219, hF220, hV221⟩ := foc103_4 _ _ _ _ hD210
    obtain ⟨v222, hv224, hs223⟩ := hF220
    obtain ⟨A225, n226, c227, rfl⟩ := hs223.shape
    subst hv224
    have hcl228 := hcl204 4 _ (foc_cell hq218 hq219)
    refine L_pu (P_ld ag23 cL ((((ad200.add (i2.toNat * 11)).add 2).add 1).add 1) (.slice A225 n226 c227) rfl ((congrArg w189.cell? (addr3 (o := 4) rfl)).trans hcl228)) ?_
    refine L_pu (P_move (vi (k3 + 1 + 1 + 1 + 1)) rfl) ?_
    have hp231 : Ow kPt 29 w189 ([] ++ O) (.slice A225 n226 c227) ((nth xs6 i2).Was.Shape.Pts) := Ds.toOw hs223 (fun b hb => List.mem_append_right _ (hmm b (List.mem_cons_of_mem _ (List.mem_append_left _ (hq208 _ (hq216 _ hb))))))
    refine L_call go68 [.slice A225 n226 c227, vi (k3 + 1 + 1 + 1 + 1)] rfl ((laws_markPtS.calls w189 hc193.ok A225 n226 c227 ((nth xs6 i2).Was.Shape.Pts) hp231 (k3 + 1 + 1 + 1 + 1) _ H).mono ?_)
    rintro _ w229 ⟨r3, m, rfl, H, g230, h232⟩
    have gm233 : Gm w189 w229 q212 := g230.gm fun b hb => by rw [Ds.rows hs223, hb]; exact List.mem_cons_self
    have hs234 := Ds.upf hs223 h232
    have hF236 : ((Dd.sl (Dd.flat (k := kPt) kPt_flat) 29)).D w229 q212 m [.slice A225 n226 c227] := ⟨_, rfl, hs234⟩
    have hd237 := DArr.fset (hU211 w229 _ _ (Dj.left hdj.2) (fun b hb hn => gm233.block b (hd194.lt b hb) fun hm => hn (hq216 b hm)) (hV221 w229 _ _ (hq209 (Dj.left hdj.2)) (fun b hb hn => gm233.block b (hd194.lt b (hq208 b hb)) hn) hF236)) hq218 rfl
    have h238 := h191.flto (w' := w229) (O' := O) (cells_flat _) fun b hb => ⟨gm233.block b (h191.ltb b hb) fun hm => (hdj).1 b hb (List.mem_append_left _ (hq208 _ (hq216 _ hm))), h191.mem b hb⟩
    have hc239 := hc193.wmg gm233 (fun b hb => (List.mem_cons_of_mem _ (List.mem_append_left _ (hq208 _ (hq216 _ hb)))))
    obtain ⟨xs7, he240⟩ : ∃ y__ : List Change, y__ = (xs6.set i2.toNat (⟨(nth xs6 i2).Id, (nth xs6 i2).Had, (⟨(nth xs6 i2).Was.Id, (⟨(nth xs6 i2).Was.Shape.Kind, m⟩ : Shape), (nth xs6 i2).Was.Tags⟩ : Feat), (nth xs6 i2).Has, (nth xs6 i2).Now⟩ : Change)) := ⟨_, rfl⟩
    have H := H xs7 he240
    rw [← he240] at hd237
    refine L_pu (P_assign (vi r3) rfl) ?_
    refine L_nil ?_
    refine W_seq ?_
    refine W_reg ?_
    refine L_pu (P_move (.slice A1 n2 c3) rfl) ?_
    refine L_pu (P_move (vi i2) rfl) ?_
    obtain ⟨hb241, H⟩ := H
    have hn248 : (0 : Int) ≤ i2 ∧ i2 < (((((ra28.set i2.toNat (pr63 ++ [vs r] ++ po65)).set i2.toNat (pr99 ++ [vb (((k3 + 1) % 3) == 0)] ++ po101)).set i2.toNat (pr143 ++ [vs r2] ++ po145)).set i2.toNat (pr178 ++ [vi (k3 + 1 + 1 + 1)] ++ po180)).length : Int) := by rw [hd237.len]; exact hb241
    obtain ⟨ad242, cs243, hA244, hR245, hcl246⟩ := h238.get default (by decide) i2 hn248
    obtain rfl := Kd.cells.op hR245
    refine L_pu (P_ia Try.underlying43 se43 A1 ad242 n2 c3 (Dp.len h238 hd237) i2 rfl hA244 rfl hb241) ?_
    refine L_pu (P_fa fa103_2 (ad242.add (i2.toNat * 11)) ((ad242.add (i2.toNat * 11)).add 2) rfl rfl) ?_
    refine L_pu (P_fa fa71_2 ((ad242.add (i2.toNat * 11)).add 2) (((ad242.add (i2.toNat * 11)).add 2).add 3) rfl rfl) ?_
    obtain ⟨q249, hq250, hq251, hD252, hU253⟩ := DArr.at_ (Int.toNat i2) default hd237 (by have := hb241; omega)
    obtain ⟨q254, pr255, cc256, po257, hq258, hq259, hq260, hq261, hF262, hV263⟩ := foc103_5 _ _ _ _ hD252
    obtain ⟨v264, hv266, hs265⟩ := hF262
    obtain ⟨A267, n268, c269, rfl⟩ := hs265.shape
    subst hv266
    have hcl270 := hcl246 5 _ (foc_cell hq260 hq261)
    refine L_pu (P_ld ag69 cL (((ad242.add (i2.toNat * 11)).add 2).add 3) (.slice A267 n268 c269) rfl ((congrArg w229.cell? (addr2 (o := 5) rfl)).trans hcl270)) ?_
    refine L_pu (P_move (vi r3) rfl) ?_
    have hp273 : Ow kTag 133 w229 ([] ++ O) (.slice A267 n268 c269) ((nth xs7 i2).Was.Tags) := Ds.toOw hs265 (fun b hb => List.mem_append_right _ (hmm b (List.mem_cons_of_mem _ (List.mem_append_left _ (hq250 _ (hq258 _ hb))))))
    refine L_call go69 [.slice A267 n268 c269, vi r3] rfl ((laws_markTagS.calls w229 hc239.ok A267 n268 c269 ((nth xs7 i2).Was.Tags) hp273 r3 _ H).mono ?_)
    rintro _ w271 ⟨r4, m2, rfl, H, g272, h274⟩
    have gm275 : Gm w229 w271 q254 := g272.gm fun b hb => by rw [Ds.rows hs265, hb]; exact List.mem_cons_self
    have hs276 := Ds.upf hs265 h274
    have hF278 : ((Dd.sl (Dd.flat (k := kTag) kTag_flat) 133)).D w271 q254 m2 [.slice A267 n268 c269] := ⟨_, rfl, hs276⟩
    have hd279 := DArr.fset (hU253 w271 _ _ (Dj.left hdj.2) (fun b hb hn => gm275.block b (hd237.lt b hb) fun hm => hn (hq258 b hm)) (hV263 w271 _ _ (hq251 (Dj.left hdj.2)) (fun b hb hn => gm275.block b (hd237.lt b (hq250 b hb)) hn) hF278)) hq260 rfl
    have h280 := h238.flto (w' := w271) (O' := O) (cells_flat _) fun b hb => ⟨gm275.block b (h238.ltb b hb) fun hm => (hdj).1 b hb (List.mem_append_left _ (hq250 _ (hq258 _ hm))), h238.mem b hb⟩
    have hc281 := hc239.wmg gm275 (fun b hb => (List.mem_cons_of_mem _ (List.mem_append_left _ (hq250 _ (hq258 _ hb)))))
    obtain ⟨xs8, he282⟩ : ∃ y__ : List Change, y__ = (xs7.set i2.toNat (⟨(nth xs7 i2).Id, (nth xs7 i2).Had, (⟨(nth xs7 i2).Was.Id, (nth xs7 i2).Was.Shape, m2⟩ : Feat), (nth xs7 i2).Has, (nth xs7 i2).Now⟩ : Change)) := ⟨_, rfl⟩
    have H := H xs8 he282
    rw [← he282] at hd279
    refine L_pu (P_assign (vi r4) rfl) ?_
    refine L_nil ?_
    refine W_seq ?_
    refine W_reg ?_
    refine L_pu (P_move (.slice A1 n2 c3) rfl) ?_
    refine L_pu (P_move (vi i2) rfl) ?_
    refine L_pu (P_move (vi r4) rfl) ?_
    obtain ⟨hb283, H⟩ := H
    refine L_pu (P_rem r4 3 rfl rfl hb283) ?_
    refine L_pu (P_cmp (r4 % 3) 0 ((r4 % 3) == 0) rfl rfl rfl) ?_
    obtain ⟨hb284, H⟩ := H
    have hn291 : (0 : Int) ≤ i2 ∧ i2 < (((((ra28.set i2.toNat (pr63 ++ [vs r] ++ po65)).set i2.toNat (pr99 ++ [vb (((k3 + 1) % 3) == 0)] ++ po101)).set i2.toNat (pr143 ++ [vs r2] ++ po145)).set i2.toNat (pr178 ++ [vi (k3 + 1 + 1 + 1)] ++ po180)).length : Int) := by rw [hd279.len]; exact hb284
    obtain ⟨ad285, cs286, hA287, hR288, hcl289⟩ := h280.get default (by decide) i2 hn291
    obtain rfl := Kd.cells.op hR288
    refine L_pu (P_ia Try.underlying43 se43 A1 ad285 n2 c3 (Dp.len h280 hd279) i2 rfl hA287 rfl hb284) ?_
    refine L_pu (P_fa fa103_3 (ad285.add (i2.toNat * 11)) ((ad285.add (i2.toNat * 11)).add 6) rfl rfl) ?_
    obtain ⟨q292, hq293, hq294, hD295, hU296⟩ := DArr.at_ (Int.toNat i2) default hd279 (by have := hb284; omega)
    obtain ⟨q297, pr298, cc299, po300, hq301, hq302, hq303, hq304, hF305, hV306⟩ := foc103_6 _ _ _ _ hD295
    have hy307 : ((Dd.flat (k := Kd.bool) bool_flat)).D w271 q297 ((r4 % 3) == 0) [vb ((r4 % 3) == 0)] := ⟨hF305.1, rfl⟩
    have hy308 := hV306 _ _ _ (hq294 (Dj.left hdj.2)) (fun _ _ _ => rfl) hy307
    have hl312 : cc299.length = [vb ((r4 % 3) == 0)].length := (((Dd.flat (k := Kd.bool) bool_flat)).toR (S := fun _ => True) hF305 fun _ _ => trivial) |> Kd.len _
    refine L_ste1 (kd := Kd.cells 11) A1 n2 c3 ((((ra28.set i2.toNat (pr63 ++ [vs r] ++ po65)).set i2.toNat (pr99 ++ [vb (((k3 + 1) % 3) == 0)] ++ po101)).set i2.toNat (pr143 ++ [vs r2] ++ po145)).set i2.toNat (pr178 ++ [vi (k3 + 1 + 1 + 1)] ++ po180)) h280 i2 hn291 ad285 hA287 6 rfl [vb ((r4 % 3) == 0)] rfl sz4 rfl (pr298 ++ [vb ((r4 % 3) == 0)] ++ po300) _ (pr298 ++ [vb ((r4 % 3) == 0)] ++ po300) hcl289 (Kd.len _ hR288) (foc_put hq303 hq304 hl312) (Dd.raw _ hy308) fun w309 g310 h311 => ?_
    have hc313 := hc281.wmm (memi (L := (blk (.slice A1 n2 c3) :: (q7 ++ []))) 0 rfl) g310
    have hg315 : ∀ b, some b ∈ (q7 : Ob) → w309.heap[b]? = _ := fun b hb => g310.block b (hd279.lt b hb) (fun e => (hdj).1 b e.symm (List.mem_append_left _ hb))
    have hd314 := hU296 w309 _ _ (Dj.left hdj.2) (fun b hb _ => hg315 b hb) (hV306 _ _ _ (hq294 (Dj.left hdj.2)) (fun b hb _ => hg315 b (hq293 b hb)) hy307)
    obtain ⟨xs9, he316⟩ : ∃ y__ : List Change, y__ = (xs8.set i2.toNat (⟨(nth xs8 i2).Id, (nth xs8 i2).Had, (nth xs8 i2).Was, (r4 % 3) == 0, (nth xs8 i2).Now⟩ : Change)) := ⟨_, rfl⟩
    have H := H xs9 he316
    rw [← he316] at hd314
    refine L_nil ?_
    refine W_seq ?_
    refine W_reg ?_
    refine L_pu (P_move (vi r4) rfl) ?_
    obtain ⟨hb317, H⟩ := H
    have hi318 := hb317 (len_le hl38)
    refine L_pu (P_add r4 1 rfl rfl hi318) ?_
    refine L_pu (P_assign (vi (r4 + 1)) rfl) ?_
    refine L_nil ?_
    refine W_seq ?_
    refine W_reg ?_
    refine L_pu (P_move (.slice A1 n2 c3) rfl) ?_
    refine L_pu (P_move (vi i2) rfl) ?_
    refine L_pu (P_move (vi (r4 + 1)) rfl) ?_
    refine L_call go67 [vi (r4 + 1)] rfl ((laws_markText.calls w309 hc313.ok (r4 + 1) _ H).mono ?_)
    rintro _ w319 ⟨r5, rfl, H, g320, hs321⟩
    have hc325 := hc313.k0 g320
    obtain ⟨hb326, H⟩ := H
    have h333 := (h311.sn g320)
    have hd334 := (hd314.k0 g320)
    have hn335 : (0 : Int) ≤ i2 ∧ i2 < ((((((ra28.set i2.toNat (pr63 ++ [vs r] ++ po65)).set i2.toNat (pr99 ++ [vb (((k3 + 1) % 3) == 0)] ++ po101)).set i2.toNat (pr143 ++ [vs r2] ++ po145)).set i2.toNat (pr178 ++ [vi (k3 + 1 + 1 + 1)] ++ po180)).set i2.toNat (pr298 ++ [vb ((r4 % 3) == 0)] ++ po300)).length : Int) := by rw [hd334.len]; exact hb326
    obtain ⟨ad327, cs328, hA329, hR330, hcl331⟩ := h333.get default (by decide) i2 hn335
    obtain rfl := Kd.cells.op hR330
    refine L_pu (P_ia Try.underlying43 se43 A1 ad327 n2 c3 (Dp.len h333 hd334) i2 rfl hA329 rfl hb326) ?_
    refine L_pu (P_fa fa103_4 (ad327.add (i2.toNat * 11)) ((ad327.add (i2.toNat * 11)).add 7) rfl rfl) ?_
    refine L_pu (P_fa fa71_0 ((ad327.add (i2.toNat * 11)).add 7) (((ad327.add (i2.toNat * 11)).add 7).add 0) rfl rfl) ?_
    obtain ⟨q336, hq337, hq338, hD339, hU340⟩ := DArr.at_ (Int.toNat i2) default hd334 (by have := hb326; omega)
    obtain ⟨q341, pr342, cc343, po344, hq345, hq346, hq347, hq348, hF349, hV350⟩ := foc103_7 _ _ _ _ hD339
    have hy351 : ((Dd.flat (k := Kd.str) str_flat)).D w319 q341 r5 [vs r5] := ⟨hF349.1, ⟨rfl, hs321⟩⟩
    have hy352 := hV350 _ _ _ (hq338 (Dj.left hdj.2)) (fun _ _ _ => rfl) hy351
    have hl356 : cc343.length = [vs r5].length := (((Dd.flat (k := Kd.str) str_flat)).toR (S := fun _ => True) hF349 fun _ _ => trivial) |> Kd.len _
    refine L_ste2 (kd := Kd.cells 11) A1 n2 c3 (((((ra28.set i2.toNat (pr63 ++ [vs r] ++ po65)).set i2.toNat (pr99 ++ [vb (((k3 + 1) % 3) == 0)] ++ po101)).set i2.toNat (pr143 ++ [vs r2] ++ po145)).set i2.toNat (pr178 ++ [vi (k3 + 1 + 1 + 1)] ++ po180)).set i2.toNat (pr298 ++ [vb ((r4 % 3) == 0)] ++ po300)) h333 i2 hn335 ad327 hA329 7 rfl rfl [vs r5] rfl sz9 rfl (pr342 ++ [vs r5] ++ po344) _ (pr342 ++ [vs r5] ++ po344) hcl331 (Kd.len _ hR330) (foc_put hq347 hq348 hl356) (Dd.raw _ hy352) fun w353 g354 h355 => ?_
    have hc357 := hc325.wmm (memi (L := (blk (.slice A1 n2 c3) :: (q7 ++ []))) 0 rfl) g354
    have hg359 : ∀ b, some b ∈ (q7 : Ob) → w353.heap[b]? = _ := fun b hb => g354.block b (hd334.lt b hb) (fun e => (hdj).1 b e.symm (List.mem_append_left _ hb))
    have hd358 := hU340 w353 _ _ (Dj.left hdj.2) (fun b hb _ => hg359 b hb) (hV350 _ _ _ (hq338 (Dj.left hdj.2)) (fun b hb _ => hg359 b (hq337 b hb)) hy351)
    obtain ⟨xs10, he360⟩ : ∃ y__ : List Change, y__ = (xs9.set i2.toNat (⟨(nth xs9 i2).Id, (nth xs9 i2).Had, (nth xs9 i2).Was, (nth xs9 i2).Has, (⟨r5, (nth xs9 i2).Now.Shape, (nth xs9 i2).Now.Tags⟩ : Feat)⟩ : Change)) := ⟨_, rfl⟩
    have H := H xs10 he360
    rw [← he360] at hd358
    refine L_nil ?_
    refine W_seq ?_
    refine W_reg ?_
    refine L_pu (P_move (vi (r4 + 1)) rfl) ?_
    obtain ⟨hb361, H⟩ := H
    have hi362 := hb361 (len_le hl38)
    refine L_pu (P_add (r4 + 1) 1 rfl rfl hi362) ?_
    refine L_pu (P_assign (vi (r4 + 1 + 1)) rfl) ?_
    refine L_nil ?_
    refine W_seq ?_
    refine W_reg ?_
    refine L_pu (P_move (.slice A1 n2 c3) rfl) ?_
    refine L_pu (P_move (vi i2) rfl) ?_
    refine L_pu (P_move (vi (r4 + 1 + 1)) rfl) ?_
    obtain ⟨hb363, H⟩ := H
    have hn370 : (0 : Int) ≤ i2 ∧ i2 < (((((((ra28.set i2.toNat (pr63 ++ [vs r] ++ po65)).set i2.toNat (pr99 ++ [vb (((k3 + 1) % 3) == 0)] ++ po101)).set i2.toNat (pr143 ++ [vs r2] ++ po145)).set i2.toNat (pr178 ++ [vi (k3 + 1 + 1 + 1)] ++ po180)).set i2.toNat (pr298 ++ [vb ((r4 % 3) == 0)] ++ po300)).set i2.toNat (pr342 ++ [vs r5] ++ po344)).length : Int) := by rw [hd358.len]; exact hb363
    obtain ⟨ad364, cs365, hA366, hR367, hcl368⟩ := h355.get default (by decide) i2 hn370
    obtain rfl := Kd.cells.op hR367
    refine L_pu (P_ia Try.underlying43 se43 A1 ad364 n2 c3 (Dp.len h355 hd358) i2 rfl hA366 rfl hb363) ?_
    refine L_pu (P_fa fa103_4 (ad364.add (i2.toNat * 11)) ((ad364.add (i2.toNat * 11)).add 7) rfl rfl) ?_
    refine L_pu (P_fa fa71_1 ((ad364.add (i2.toNat * 11)).add 7) (((ad364.add (i2.toNat * 11)).add 7).add 1) rfl rfl) ?_
    refine L_pu (P_fa fa68_0 (((ad364.add (i2.toNat * 11)).add 7).add 1) ((((ad364.add (i2.toNat * 11)).add 7).add 1).add 0) rfl rfl) ?_
    obtain ⟨q371, hq372, hq373, hD374, hU375⟩ := DArr.at_ (Int.toNat i2) default hd358 (by have := hb363; omega)
    obtain ⟨q376, pr377, cc378, po379, hq380, hq381, hq382, hq383, hF384, hV385⟩ := foc103_8 _ _ _ _ hD374
    have hy386 : ((Dd.flat (k := (Kd.int .i64)) (int_flat _))).D w353 q376 (r4 + 1 + 1) [vi (r4 + 1 + 1)] := ⟨hF384.1, rfl⟩
    have hy387 := hV385 _ _ _ (hq373 (Dj.left hdj.2)) (fun _ _ _ => rfl) hy386
    have hl391 : cc378.length = [vi (r4 + 1 + 1)].length := (((Dd.flat (k := (Kd.int .i64)) (int_flat _))).toR (S := fun _ => True) hF384 fun _ _ => trivial) |> Kd.len _
    refine L_ste3 (kd := Kd.cells 11) A1 n2 c3 ((((((ra28.set i2.toNat (pr63 ++ [vs r] ++ po65)).set i2.toNat (pr99 ++ [vb (((k3 + 1) % 3) == 0)] ++ po101)).set i2.toNat (pr143 ++ [vs r2] ++ po145)).set i2.toNat (pr178 ++ [vi (k3 + 1 + 1 + 1)] ++ po180)).set i2.toNat (pr298 ++ [vb ((r4 % 3) == 0)] ++ po300)).set i2.toNat (pr342 ++ [vs r5] ++ po344)) h355 i2 hn370 ad364 hA366 8 rfl rfl [vi (r4 + 1 + 1)] rfl sz3 rfl (pr377 ++ [vi (r4 + 1 + 1)] ++ po379) _ (pr377 ++ [vi (r4 + 1 + 1)] ++ po379) hcl368 (Kd.len _ hR367) (foc_put hq382 hq383 hl391) (Dd.raw _ hy387) fun w388 g389 h390 => ?_
    have hc392 := hc357.wmm (memi (L := (blk (.slice A1 n2 c3) :: (q7 ++ []))) 0 rfl) g389
    have hg394 : ∀ b, some b ∈ (q7 : Ob) → w388.heap[b]? = _ := fun b hb => g389.block b (hd358.lt b hb) (fun e => (hdj).1 b e.symm (List.mem_append_left _ hb))
    have hd393 := hU375 w388 _ _ (Dj.left hdj.2) (fun b hb _ => hg394 b hb) (hV385 _ _ _ (hq373 (Dj.left hdj.2)) (fun b hb _ => hg394 b (hq372 b hb)) hy386)
    obtain ⟨xs11, he395⟩ : ∃ y__ : List Change, y__ = (xs10.set i2.toNat (⟨(nth xs10 i2).Id, (nth xs10 i2).Had, (nth xs10 i2).Was, (nth xs10 i2).Has, (⟨(nth xs10 i2).Now.Id, (⟨r4 + 1 + 1, (nth xs10 i2).Now.Shape.Pts⟩ : Shape), (nth xs10 i2).Now.Tags⟩ : Feat)⟩ : Change)) := ⟨_, rfl⟩
    have H := H xs11 he395
    rw [← he395] at hd393
    refine L_nil ?_
    refine W_seq ?_
    refine W_reg ?_
    refine L_pu (P_move (vi (r4 + 1 + 1)) rfl) ?_
    obtain ⟨hb396, H⟩ := H
    have hi397 := hb396 (len_le hl38)
    refine L_pu (P_add (r4 + 1 + 1) 1 rfl rfl hi397) ?_
    refine L_pu (P_assign (vi (r4 + 1 + 1 + 1)) rfl) ?_
    refine L_nil ?_
    refine W_seq ?_
    refine W_reg ?_
    refine L_pu (P_move (.slice A1 n2 c3) rfl) ?_
    refine L_pu (P_move (vi i2) rfl) ?_
    obtain ⟨hb398, H⟩ := H
    have hn405 : (0 : Int) ≤ i2 ∧ i2 < ((((((((ra28.set i2.toNat (pr63 ++ [vs r] ++ po65)).set i2.toNat (pr99 ++ [vb (((k3 + 1) % 3) == 0)] ++ po101)).set i2.toNat (pr143 ++ [vs r2] ++ po145)).set i2.toNat (pr178 ++ [vi (k3 + 1 + 1 + 1)] ++ po180)).set i2.toNat (pr298 ++ [vb ((r4 % 3) == 0)] ++ po300)).set i2.toNat (pr342 ++ [vs r5] ++ po344)).set i2.toNat (pr377 ++ [vi (r4 + 1 + 1)] ++ po379)).length : Int) := by rw [hd393.len]; exact hb398
    obtain ⟨ad399, cs400, hA401, hR402, hcl403⟩ := h390.get default (by decide) i2 hn405
    obtain rfl := Kd.cells.op hR402
    refine L_pu (P_ia Try.underlying43 se43 A1 ad399 n2 c3 (Dp.len h390 hd393) i2 rfl hA401 rfl hb398) ?_
    refine L_pu (P_fa fa103_4 (ad399.add (i2.toNat * 11)) ((ad399.add (i2.toNat * 11)).add 7) rfl rfl) ?_
    refine L_pu (P_fa fa71_1 ((ad399.add (i2.toNat * 11)).add 7) (((ad399.add (i2.toNat * 11)).add 7).add 1) rfl rfl) ?_
    refine L_pu (P_fa fa68_1 (((ad399.add (i2.toNat * 11)).add 7).add 1) ((((ad399.add (i2.toNat * 11)).add 7).add 1).add 1) rfl rfl) ?_
    obtain ⟨q406, hq407, hq408, hD409, hU410⟩ := DArr.at_ (Int.toNat i2) default hd393 (by have := hb398; omega)
    obtain ⟨q411, pr412, cc413, po414, hq415, hq416, hq417, hq418, hF419, hV420⟩ := foc103_9 _ _ _ _ hD409
    obtain ⟨v421, hv423, hs422⟩ := hF419
    obtain ⟨A424, n425, c426, rfl⟩ := hs422.shape
    subst hv423
    have hcl427 := hcl403 9 _ (foc_cell hq417 hq418)
    refine L_pu (P_ld ag23 cL ((((ad399.add (i2.toNat * 11)).add 7).add 1).add 1) (.slice A424 n425 c426) rfl ((congrArg w388.cell? (addr3 (o := 9) rfl)).trans hcl427)) ?_
    refine L_pu (P_move (vi (r4 + 1 + 1 + 1)) rfl) ?_
    have hp430 : Ow kPt 29 w388 ([] ++ O) (.slice A424 n425 c426) ((nth xs11 i2).Now.Shape.Pts) := Ds.toOw hs422 (fun b hb => List.mem_append_right _ (hmm b (List.mem_cons_of_mem _ (List.mem_append_left _ (hq407 _ (hq415 _ hb))))))
    refine L_call go68 [.slice A424 n425 c426, vi (r4 + 1 + 1 + 1)] rfl ((laws_markPtS.calls w388 hc392.ok A424 n425 c426 ((nth xs11 i2).Now.Shape.Pts) hp430 (r4 + 1 + 1 + 1) _ H).mono ?_)
    rintro _ w428 ⟨r6, m3, rfl, H, g429, h431⟩
    have gm432 : Gm w388 w428 q411 := g429.gm fun b hb => by rw [Ds.rows hs422, hb]; exact List.mem_cons_self
    have hs433 := Ds.upf hs422 h431
    have hF435 : ((Dd.sl (Dd.flat (k := kPt) kPt_flat) 29)).D w428 q411 m3 [.slice A424 n425 c426] := ⟨_, rfl, hs433⟩
    have hd436 := DArr.fset (hU410 w428 _ _ (Dj.left hdj.2) (fun b hb hn => gm432.block b (hd393.lt b hb) fun hm => hn (hq415 b hm)) (hV420 w428 _ _ (hq408 (Dj.left hdj.2)) (fun b hb hn => gm432.block b (hd393.lt b (hq407 b hb)) hn) hF435)) hq417 rfl
    have h437 := h390.flto (w' := w428) (O' := O) (cells_flat _) fun b hb => ⟨gm432.block b (h390.ltb b hb) fun hm => (hdj).1 b hb (List.mem_append_left _ (hq407 _ (hq415 _ hm))), h390.mem b hb⟩
    have hc438 := hc392.wmg gm432 (fun b hb => (List.mem_cons_of_mem _ (List.mem_append_left _ (hq407 _ (hq415 _ hb)))))
    obtain ⟨xs12, he439⟩ : ∃ y__ : List Change, y__ = (xs11.set i2.toNat (⟨(nth xs11 i2).Id, (nth xs11 i2).Had, (nth xs11 i2).Was, (nth xs11 i2).Has, (⟨(nth xs11 i2).Now.Id, (⟨(nth xs11 i2).Now.Shape.Kind, m3⟩ : Shape), (nth xs11 i2).Now.Tags⟩ : Feat)⟩ : Change)) := ⟨_, rfl⟩
    have H := H xs12 he439
    rw [← he439] at hd436
    refine L_pu (P_assign (vi r6) rfl) ?_
    refine L_nil ?_
    refine W_reg ?_
    refine L_pu (P_move (.slice A1 n2 c3) rfl) ?_
    refine L_pu (P_move (vi i2) rfl) ?_
    obtain ⟨hb440, H⟩ := H
    have hn447 : (0 : Int) ≤ i2 ∧ i2 < ((((((((ra28.set i2.toNat (pr63 ++ [vs r] ++ po65)).set i2.toNat (pr99 ++ [vb (((k3 + 1) % 3) == 0)] ++ po101)).set i2.toNat (pr143 ++ [vs r2] ++ po145)).set i2.toNat (pr178 ++ [vi (k3 + 1 + 1 + 1)] ++ po180)).set i2.toNat (pr298 ++ [vb ((r4 % 3) == 0)] ++ po300)).set i2.toNat (pr342 ++ [vs r5] ++ po344)).set i2.toNat (pr377 ++ [vi (r4 + 1 + 1)] ++ po379)).length : Int) := by rw [hd436.len]; exact hb440
    obtain ⟨ad441, cs442, hA443, hR444, hcl445⟩ := h437.get default (by decide) i2 hn447
    obtain rfl := Kd.cells.op hR444
    refine L_pu (P_ia Try.underlying43 se43 A1 ad441 n2 c3 (Dp.len h437 hd436) i2 rfl hA443 rfl hb440) ?_
    refine L_pu (P_fa fa103_4 (ad441.add (i2.toNat * 11)) ((ad441.add (i2.toNat * 11)).add 7) rfl rfl) ?_
    refine L_pu (P_fa fa71_2 ((ad441.add (i2.toNat * 11)).add 7) (((ad441.add (i2.toNat * 11)).add 7).add 3) rfl rfl) ?_
    obtain ⟨q448, hq449, hq450, hD451, hU452⟩ := DArr.at_ (Int.toNat i2) default hd436 (by have := hb440; omega)
    obtain ⟨q453, pr454, cc455, po456, hq457, hq458, hq459, hq460, hF461, hV462⟩ := foc103_10 _ _ _ _ hD451
    obtain ⟨v463, hv465, hs464⟩ := hF461
    obtain ⟨A466, n467, c468, rfl⟩ := hs464.shape
    subst hv465
    have hcl469 := hcl445 10 _ (foc_cell hq459 hq460)
    refine L_pu (P_ld ag69 cL (((ad441.add (i2.toNat * 11)).add 7).add 3) (.slice A466 n467 c468) rfl ((congrArg w428.cell? (addr2 (o := 10) rfl)).trans hcl469)) ?_
    refine L_pu (P_move (vi r6) rfl) ?_
    have hp472 : Ow kTag 133 w428 ([] ++ O) (.slice A466 n467 c468) ((nth xs12 i2).Now.Tags) := Ds.toOw hs464 (fun b hb => List.mem_append_right _ (hmm b (List.mem_cons_of_mem _ (List.mem_append_left _ (hq449 _ (hq457 _ hb))))))
    refine L_call go69 [.slice A466 n467 c468, vi r6] rfl ((laws_markTagS.calls w428 hc438.ok A466 n467 c468 ((nth xs12 i2).Now.Tags) hp472 r6 _ H).mono ?_)
    rintro _ w470 ⟨r7, m4, rfl, H, g471, h473⟩
    have gm474 : Gm w428 w470 q453 := g471.gm fun b hb => by rw [Ds.rows hs464, hb]; exact List.mem_cons_self
    have hs475 := Ds.upf hs464 h473
    have hF477 : ((Dd.sl (Dd.flat (k := kTag) kTag_flat) 133)).D w470 q453 m4 [.slice A466 n467 c468] := ⟨_, rfl, hs475⟩
    have hd478 := DArr.fset (hU452 w470 _ _ (Dj.left hdj.2) (fun b hb hn => gm474.block b (hd436.lt b hb) fun hm => hn (hq457 b hm)) (hV462 w470 _ _ (hq450 (Dj.left hdj.2)) (fun b hb hn => gm474.block b (hd436.lt b (hq449 b hb)) hn) hF477)) hq459 rfl
    have h479 := h437.flto (w' := w470) (O' := O) (cells_flat _) fun b hb => ⟨gm474.block b (h437.ltb b hb) fun hm => (hdj).1 b hb (List.mem_append_left _ (hq449 _ (hq457 _ hm))), h437.mem b hb⟩
    have hc480 := hc438.wmg gm474 (fun b hb => (List.mem_cons_of_mem _ (List.mem_append_left _ (hq449 _ (hq457 _ hb)))))
    obtain ⟨xs13, he481⟩ : ∃ y__ : List Change, y__ = (xs12.set i2.toNat (⟨(nth xs12 i2).Id, (nth xs12 i2).Had, (nth xs12 i2).Was, (nth xs12 i2).Has, (⟨(nth xs12 i2).Now.Id, (nth xs12 i2).Now.Shape, m4⟩ : Feat)⟩ : Change)) := ⟨_, rfl⟩
    have H := H xs13 he481
    rw [← he481] at hd478
    refine L_pu (P_assign (vi r7) rfl) ?_
    refine L_nil ?_
    refine W_reg ?_
    refine L_pu (P_move (vi i2) rfl) ?_
    obtain ⟨hb483, H⟩ := H
    have hi482 : I64 (i2 + 1) := i64_succ (of_decide_eq_true hq39) hl38 hb483
    refine L_pu (P_add i2 1 rfl rfl hi482) ?_
    refine L_pu (P_assign (vi (i2 + 1)) rfl) ?_
    refine L_nil ?_
    obtain ⟨hI484, hm485⟩ := H
    exact ⟨(xs13, (((((((ra28.set i2.toNat (pr63 ++ [vs r] ++ po65)).set i2.toNat (pr99 ++ [vb (((k3 + 1) % 3) == 0)] ++ po101)).set i2.toNat (pr143 ++ [vs r2] ++ po145)).set i2.toNat (pr178 ++ [vi (k3 + 1 + 1 + 1)] ++ po180)).set i2.toNat (pr298 ++ [vb ((r4 % 3) == 0)] ++ po300)).set i2.toNat (pr342 ++ [vs r5] ++ po344)).set i2.toNat (pr377 ++ [vi (r4 + 1 + 1)] ++ po379)), r7, i2 + 1), hm485, hI484, ⟨rfl, rfl, rfl, trivial⟩, hc480, h479, hd478⟩
  · have H := ite_f H hq39
    refine W_exit (xin_hit ?_)
    refine W_seq ?_
    refine W_reg ?_
    refine L_pu (P_move (vi k3) rfl) ?_
    refine L_pu (P_assign (vi k3) rfl) ?_
    refine L_nil ?_
    refine W_ret ?_
    exact ⟨[vi k3], ⟨_, rfl, rfl⟩, k3, xs2, ra28, rfl, H, hc29.gr, h30, hd31⟩
end Go.Proofs.Ytndjggncgpjolaa

namespace Go.Proofs.Ytndjggncgpjolaa
set_option linter.unusedVariables false
set_option linter.unusedSimpArgs false
set_option linter.unusedSectionVars false
theorem laws_markChangeS.lawk (a : List Change) (k : Int) (Q : Int → List Change → Prop) (ha : bulk a ≤ 1048576) (h0 : 0 ≤ k) (h1 : k ≤ 500000000) (hq : Q (mkL gChange a k).2 (mkL gChange a k).1) : laws_markChangeS.E a k Q := by
  unfold laws_markChangeS.E
  have hbl := bulk_len a
  refine ⟨fun xs k' i => ∃ u : Nat, i = u ∧ Mk gChange a k u xs k', fun _ _ i => (a.length - i).toNat, ⟨0, rfl, .zero a k⟩, ?_⟩
  rintro xs k' _ ⟨u, rfl, M⟩
  have hl := M.len
  have hb := M.bd gChange_bd
  by_cases h : u < a.length
  · rw [if_pos (by rw [hl]; simpa using h)]
    have hu' : u < xs.length := by omega
    have hx := M.nth h
    have hm := bulk_mem (nth_mem a h)
    have hc := bulk_change (nth a (u : Int))
    have hb1 := bulk_feat (nth a (u : Int)).Was
    have hb2 := bulk_feat (nth a (u : Int)).Now
    have hp := mkL_bd gPt_bd (nth a (u : Int)).Was.Shape.Pts (k' + 4)
    have ht := mkL_bd gTag_bd (nth a (u : Int)).Was.Tags (mkL gPt (nth a (u : Int)).Was.Shape.Pts (k' + 4)).2
    have hq2 := mkL_bd gPt_bd (nth a (u : Int)).Now.Shape.Pts ((mkL gTag (nth a (u : Int)).Was.Tags (mkL gPt (nth a (u : Int)).Was.Shape.Pts (k' + 4)).2).2 + 3)
    simp only [Int.add_assoc, Int.reduceAdd]
    refine laws_markText.law _ _ (by omega) (by omega) ⟨by omega, ?_⟩
    intro xs3 e3
    rw [hx] at e3
    obtain ⟨n3, l3, s3⟩ := set_facts hu' e3
    try dsimp only at n3
    refine ⟨fun _ => by unfold I64; omega, ⟨by omega, by omega⟩, by omega, ?_⟩
    intro xs4 e4
    try rw [n3] at e4
    try rw [s3] at e4
    try dsimp only at e4
    obtain ⟨n4, l4, s4'⟩ := set_facts hu' e4
    have s4 : ∀ z, xs4.set (Int.toNat (u : Int)) z = xs.set (Int.toNat (u : Int)) z := s4'
    try dsimp only at n4
    refine ⟨fun _ => by unfold I64; omega, laws_markText.law _ _ (by omega) (by omega) ⟨by omega, ?_⟩⟩
    intro xs5 e5
    try rw [n4] at e5
    try rw [s4] at e5
    try dsimp only at e5
    obtain ⟨n5, l5, s5'⟩ := set_facts hu' e5
    have s5 : ∀ z, xs5.set (Int.toNat (u : Int)) z = xs.set (Int.toNat (u : Int)) z := s5'
    try dsimp only at n5
    refine ⟨fun _ => by unfold I64; omega, by omega, ?_⟩
    intro xs6 e6
    try rw [n5] at e6
    try rw [s5] at e6
    try dsimp only at e6
    obtain ⟨n6, l6, s6'⟩ := set_facts hu' e6
    have s6 : ∀ z, xs6.set (Int.toNat (u : Int)) z = xs.set (Int.toNat (u : Int)) z := s6'
    try dsimp only at n6
    refine ⟨fun _ => by unfold I64; omega, by omega, ?_⟩
    rw [n6]
    dsimp only
    refine laws_markPtS.lawk _ _ _ (by omega) (by omega) (by omega) ?_
    intro xs7 e7
    try rw [n6] at e7
    try rw [s6] at e7
    try dsimp only at e7
    obtain ⟨n7, l7, s7'⟩ := set_facts hu' e7
    have s7 : ∀ z, xs7.set (Int.toNat (u : Int)) z = xs.set (Int.toNat (u : Int)) z := s7'
    try dsimp only at n7
    refine ⟨by omega, ?_⟩
    rw [n7]
    dsimp only
    refine laws_markTagS.lawk _ _ _ (by omega) (by omega) (by omega) ?_
    intro xs8 e8
    try rw [n7] at e8
    try rw [s7] at e8
    try dsimp only at e8
    obtain ⟨n8, l8, s8'⟩ := set_facts hu' e8
    have s8 : ∀ z, xs8.set (Int.toNat (u : Int)) z = xs.set (Int.toNat (u : Int)) z := s8'
    try dsimp only at n8
    refine ⟨⟨by omega, by omega⟩, by omega, ?_⟩
    intro xs9 e9
    try rw [n8] at e9
    try rw [s8] at e9
    try dsimp only at e9
    obtain ⟨n9, l9, s9'⟩ := set_facts hu' e9
    have s9 : ∀ z, xs9.set (Int.toNat (u : Int)) z = xs.set (Int.toNat (u : Int)) z := s9'
    try dsimp only at n9
    refine ⟨fun _ => by unfold I64; omega, laws_markText.law _ _ (by omega) (by omega) ⟨by omega, ?_⟩⟩
    intro xs10 e10
    try rw [n9] at e10
    try rw [s9] at e10
    try dsimp only at e10
    obtain ⟨n10, l10, s10'⟩ := set_facts hu' e10
    have s10 : ∀ z, xs10.set (Int.toNat (u : Int)) z = xs.set (Int.toNat (u : Int)) z := s10'
    try dsimp only at n10
    refine ⟨fun _ => by unfold I64; omega, by omega, ?_⟩
    intro xs11 e11
    try rw [n10] at e11
    try rw [s10] at e11
    try dsimp only at e11
    obtain ⟨n11, l11, s11'⟩ := set_facts hu' e11
    have s11 : ∀ z, xs11.set (Int.toNat (u : Int)) z = xs.set (Int.toNat (u : Int)) z := s11'
    try dsimp only at n11
    refine ⟨fun _ => by unfold I64; omega, by omega, ?_⟩
    rw [n11]
    dsimp only
    refine laws_markPtS.lawk _ _ _ (by omega) (by omega) (by omega) ?_
    intro xs12 e12
    try rw [n11] at e12
    try rw [s11] at e12
    try dsimp only at e12
    obtain ⟨n12, l12, s12'⟩ := set_facts hu' e12
    have s12 : ∀ z, xs12.set (Int.toNat (u : Int)) z = xs.set (Int.toNat (u : Int)) z := s12'
    try dsimp only at n12
    refine ⟨by omega, ?_⟩
    rw [n12]
    dsimp only
    refine laws_markTagS.lawk _ _ _ (by omega) (by omega) (by omega) ?_
    intro xs13 e13
    try rw [n12] at e13
    try rw [s12] at e13
    try dsimp only at e13
    obtain ⟨n13, l13, s13'⟩ := set_facts hu' e13
    have s13 : ∀ z, xs13.set (Int.toNat (u : Int)) z = xs.set (Int.toNat (u : Int)) z := s13'
    try dsimp only at n13
    rw [Int.toNat_natCast] at e13
    rw [e13]
    exact ⟨by omega, ⟨u + 1, by omega, M.next h rfl⟩, by first | omega | (dsimp only; omega)⟩
  · rw [if_neg (by rw [hl]; simpa using h)]
    obtain ⟨rfl, rfl⟩ := M.full h
    exact hq
end Go.Proofs.Ytndjggncgpjolaa

namespace Go.Proofs.Ytndjggncgpjolaa
open Go.RowKit
set_option linter.unusedVariables false
def laws_heldPtS.E (a : List Pt) (k : Int) (Q : Int → Prop) : Prop :=
  (∃ (I18 : Int → Int → Prop) (mu19 : Int → Int → Nat), I18 k 0 ∧ ∀ (k3 : Int) (i2 : Int), I18 k3 i2 → (if decide (i2 < (a.length : Int)) then ((0 : Int) ≤ i2 ∧ i2 < (a.length : Int)) ∧ (if ((nth a i2).X) != k3 then Q (-1) else ((a.length : Int) ≤ 9223372036854775807 → I64 (k3 + 1)) ∧ ((0 : Int) ≤ i2 ∧ i2 < (a.length : Int)) ∧ (if ((nth a i2).Y) != (k3 + 1) then Q (-1) else ((a.length : Int) ≤ 9223372036854775807 → I64 (k3 + 1 + 1)) ∧ (-9223372036854775808 ≤ i2) ∧ I18 (k3 + 1 + 1) (i2 + 1) ∧ mu19 (k3 + 1 + 1) (i2 + 1) < mu19 k3 i2)) else Q k3))
set_option maxHeartbeats 8000000 in
set_option maxRecDepth 100000 in
theorem laws_heldPtS.calls {O : Ob} (w0 : World) (hO : Ok w0 O) (a : List Pt) (A1 : Option Addr) (n2 c3 : Nat) (hp4 : Sl kPt w0 (Fr O) (.slice A1 n2 c3) a) (k : Int) (Q : Int → Prop) (h : laws_heldPtS.E a k Q) :
    Ret Try.prog 70 [.slice A1 n2 c3, vi k] w0 (fun v w' => ∃ (r0 : Int), v = vi r0 ∧ Q r0 ∧ Gr w0 w' none) := by
  have H : (∃ (I18 : Int → Int → Prop) (mu19 : Int → Int → Nat), I18 k 0 ∧ ∀ (k3 : Int) (i2 : Int), I18 k3 i2 → (if decide (i2 < (a.length : Int)) then ((0 : Int) ≤ i2 ∧ i2 < (a.length : Int)) ∧ (if ((nth a i2).X) != k3 then Q (-1) else ((a.length : Int) ≤ 9223372036854775807 → I64 (k3 + 1)) ∧ ((0 : Int) ≤ i2 ∧ i2 < (a.length : Int)) ∧ (if ((nth a i2).Y) != (k3 + 1) then Q (-1) else ((a.length : Int) ≤ 9223372036854775807 → I64 (k3 + 1 + 1)) ∧ (-9223372036854775808 ≤ i2) ∧ I18 (k3 + 1 + 1) (i2 + 1) ∧ mu19 (k3 + 1 + 1) (i2 + 1) < mu19 k3 i2)) else Q k3)) := h
  clear h
  have hc0 := Ct.init hO
  refine Ret_enter Try.func70 rfl 31 rfl [.tmp 4] rfl rfl ?_
  refine W_seq ?_
  refine W_reg ?_
  refine L_pu (P_assign (vi 0) rfl) ?_
  refine L_nil ?_
  refine W_seq ?_
  refine W_seq ?_
  refine W_reg ?_
  refine L_pu (P_assign (vi 0) rfl) ?_
  refine L_nil ?_
  refine W_block ?_
  obtain ⟨I18, mu19, hI20, H⟩ := H
  refine W_loop (α := Int × Int) (fun (sv__ : Int × Int) t w14 => match sv__ with | (k3, i2) => I18 k3 i2 ∧ Has t [(0, .slice A1 n2 c3), (1, vi k3), (5, vi i2)] ∧ Ct [] w0 w14 [] O ∧ Sl kPt w14 (Fr ([] ++ O)) (.slice A1 n2 c3) a) (fun (sv__ : Int × Int) => match sv__ with | (k3, i2) => mu19 k3 i2) (k, 0) ⟨hI20, ⟨rfl, rfl, rfl, trivial⟩, hc0, hp4⟩ ?_
  rintro ⟨k3, i2⟩ _ w14 ⟨hI20, hh22, hc16, h17⟩
  obtain ⟨u23, rfl⟩ := Has.ins hh22
  have H := H k3 i2 hI20
  refine W_seq ?_
  refine W_seq ?_
  refine W_reg ?_
  refine L_pu (P_move (vi i2) rfl) ?_
  refine L_pu (P_move (.slice A1 n2 c3) rfl) ?_
  have hl24 := h17.le
  refine L_pu (P_len Try.underlying23 A1 n2 c3 h17.len rfl) ?_
  refine L_pu (P_cmp i2 (a.length : Int) (decide (i2 < (a.length : Int))) rfl rfl rfl) ?_
  refine L_nil ?_
  refine W_cond (decide (i2 < (a.length : Int))) rfl (fun hq25 => ?_) (fun hq25 => ?_)
  · have H := ite_t H hq25
    refine W_skip ?_
    refine W_seq ?_
    refine W_block ?_
    refine W_seq ?_
    refine W_seq ?_
    refine W_reg ?_
    refine L_pu (P_move (.slice A1 n2 c3) rfl) ?_
    refine L_pu (P_move (vi i2) rfl) ?_
    obtain ⟨hb26, H⟩ := H
    obtain ⟨ad27, cs28, hA29, hS32, hR30, hcl31⟩ := h17.get default (by decide) i2 hb26
    obtain rfl := kPt.op hR30
    refine L_pu (P_ia Try.underlying23 se23 A1 ad27 n2 c3 h17.len i2 rfl hA29 rfl hb26) ?_
    refine L_pu (P_fa fa29_0 (ad27.add (i2.toNat * 2)) ((ad27.add (i2.toNat * 2)).add 0) rfl rfl) ?_
    refine L_pu (P_ld ag3 cL ((ad27.add (i2.toNat * 2)).add 0) (vi ((nth a i2).X)) rfl (hcl31 0 _ rfl)) ?_
    refine L_pu (P_move (vi k3) rfl) ?_
    refine L_pu (P_cmp ((nth a i2).X) k3 (((nth a i2).X) != k3) rfl rfl rfl) ?_
    refine L_nil ?_
    refine W_cond (((nth a i2).X) != k3) rfl (fun hq33 => ?_) (fun hq33 => ?_)
    · have H := ite_t H hq33
      refine W_seq ?_
      refine W_reg ?_
      refine L_pu (P_assign (vi (-1)) rfl) ?_
      refine L_nil ?_
      refine W_ret ?_
      exact ⟨[vi (-1)], ⟨_, rfl, rfl⟩, (-1), rfl, H, hc16.gr.g0⟩
    · have H := ite_f H hq33
      refine W_skip ?_
      refine W_seq ?_
      refine W_reg ?_
      refine L_pu (P_move (vi k3) rfl) ?_
      obtain ⟨hb34, H⟩ := H
      have hi35 := hb34 (len_le hl24)
      refine L_pu (P_add k3 1 rfl rfl hi35) ?_
      refine L_pu (P_assign (vi (k3 + 1)) rfl) ?_
      refine L_nil ?_
      refine W_seq ?_
      refine W_seq ?_
      refine W_reg ?_
      refine L_pu (P_move (.slice A1 n2 c3) rfl) ?_
      refine L_pu (P_move (vi i2) rfl) ?_
      obtain ⟨hb36, H⟩ := H
      obtain ⟨ad37, cs38, hA39, hS42, hR40, hcl41⟩ := h17.get default (by decide) i2 hb36
      obtain rfl := kPt.op hR40
      refine L_pu (P_ia Try.underlying23 se23 A1 ad37 n2 c3 h17.len i2 rfl hA39 rfl hb36) ?_
      refine L_pu (P_fa fa29_1 (ad37.add (i2.toNat * 2)) ((ad37.add (i2.toNat * 2)).add 1) rfl rfl) ?_
      refine L_pu (P_ld ag3 cL ((ad37.add (i2.toNat * 2)).add 1) (vi ((nth a i2).Y)) rfl (hcl41 1 _ rfl)) ?_
      refine L_pu (P_move (vi (k3 + 1)) rfl) ?_
      refine L_pu (P_cmp ((nth a i2).Y) (k3 + 1) (((nth a i2).Y) != (k3 + 1)) rfl rfl rfl) ?_
      refine L_nil ?_
      refine W_cond (((nth a i2).Y) != (k3 + 1)) rfl (fun hq43 => ?_) (fun hq43 => ?_)
      · have H := ite_t H hq43
        refine W_seq ?_
        refine W_reg ?_
        refine L_pu (P_assign (vi (-1)) rfl) ?_
        refine L_nil ?_
        refine W_ret ?_
        exact ⟨[vi (-1)], ⟨_, rfl, rfl⟩, (-1), rfl, H, hc16.gr.g0⟩
      · have H := ite_f H hq43
        refine W_skip ?_
        refine W_reg ?_
        refine L_pu (P_move (vi (k3 + 1)) rfl) ?_
        obtain ⟨hb44, H⟩ := H
        have hi45 := hb44 (len_le hl24)
        refine L_pu (P_add (k3 + 1) 1 rfl rfl hi45) ?_
        refine L_pu (P_assign (vi (k3 + 1 + 1)) rfl) ?_
        refine L_nil ?_
        refine W_reg ?_
        refine L_pu (P_move (vi i2) rfl) ?_
        obtain ⟨hb47, H⟩ := H
        have hi46 : I64 (i2 + 1) := i64_succ (of_decide_eq_true hq25) hl24 hb47
        refine L_pu (P_add i2 1 rfl rfl hi46) ?_
        refine L_pu (P_assign (vi (i2 + 1)) rfl) ?_
        refine L_nil ?_
        obtain ⟨hI48, hm49⟩ := H
        exact ⟨(k3 + 1 + 1, i2 + 1), hm49, hI48, ⟨rfl, rfl, rfl, trivial⟩, hc16, h17⟩
  · have H := ite_f H hq25
    refine W_exit (xin_hit ?_)
    refine W_seq ?_
    refine W_reg ?_
    refine L_pu (P_move (vi k3) rfl) ?_
    refine L_pu (P_assign (vi k3) rfl) ?_
    refine L_nil ?_
    refine W_ret ?_
    exact ⟨[vi k3], ⟨_, rfl, rfl⟩, k3, rfl, H, hc16.gr.g0⟩
end Go.Proofs.Ytndjggncgpjolaa

namespace Go.Proofs.Ytndjggncgpjolaa
set_option linter.unusedVariables false
set_option linter.unusedSimpArgs false
set_option linter.unusedSectionVars false
theorem laws_heldPtS.law (n : Nat) (k : Int) (Q : Int → Prop) (ha : n ≤ 1048576) (h0 : 0 ≤ k) (h1 : k ≤ 1000000000) (hq : Q (k + 2 * n)) : laws_heldPtS.E (markedPt n k) k Q := by
  unfold laws_heldPtS.E
  rw [markedPt_len]
  refine ⟨fun k' i => ∃ u : Nat, i = u ∧ u ≤ n ∧ k' = k + 2 * u, fun _ i => (n - i).toNat, ⟨0, rfl, Nat.zero_le _, by omega⟩, ?_⟩
  rintro _ _ ⟨u, rfl, hu, rfl⟩
  by_cases h : (u : Int) < (n : Int)
  · rw [if_pos (by simpa using h), markedPt_nth n k (by omega)]
    refine ⟨by omega, ?_⟩
    rw [if_neg (by simp)]
    refine ⟨fun _ => by unfold I64; omega, by omega, ?_⟩
    rw [if_neg (by simp)]
    exact ⟨fun _ => by unfold I64; omega, by omega, ⟨u + 1, by omega, by omega, by omega⟩, by dsimp only; omega⟩
  · rw [if_neg (by simpa using h)]
    have : u = n := by omega
    subst this
    exact hq
theorem laws_heldPtS.lawk (a : List Pt) (k : Int) (Q : Int → Prop) (ha : bulk a ≤ 1048576) (h0 : 0 ≤ k) (h1 : k ≤ 1000000000) (hq : Q (mkL gPt a k).2) : laws_heldPtS.E (mkL gPt a k).1 k Q := by
  unfold laws_heldPtS.E
  have hbl := bulk_len a
  rw [mkL_len]
  refine ⟨fun k' i => ∃ u : Nat, i = u ∧ Hd gPt a k u k', fun _ i => (a.length - i).toNat, ⟨0, rfl, .zero a k⟩, ?_⟩
  rintro k' _ ⟨u, rfl, M⟩
  have hb := M.bd gPt_bd
  by_cases h : u < a.length
  · rw [if_pos (by simpa using h), M.nth h]
    refine ⟨by omega, ?_⟩
    rw [if_neg (by simp [gPt])]
    refine ⟨fun _ => by unfold I64; omega, by omega, ?_⟩
    rw [if_neg (by simp [gPt])]
    refine ⟨fun _ => by unfold I64; omega, by omega, ⟨u + 1, by omega, ?_⟩, by dsimp only; omega⟩
    have := M.next h
    rw [show k' + 1 + 1 = (gPt (nth a (u : Int)) k').2 by simp [gPt]; omega]; exact this
  · rw [if_neg (by simpa using h), M.full h]; exact hq
end Go.Proofs.Ytndjggncgpjolaa

namespace Go.Proofs.Ytndjggncgpjolaa
open Go.RowKit
set_option linter.unusedVariables false
def laws_heldTagS.E (a : List Tag) (k : Int) (Q : Int → Prop) : Prop :=
  (∃ (I18 : Int → Int → Prop) (mu19 : Int → Int → Nat), I18 k 0 ∧ ∀ (k3 : Int) (i2 : Int), I18 k3 i2 → (if decide (i2 < (a.length : Int)) then ((0 : Int) ≤ i2 ∧ i2 < (a.length : Int)) ∧ (∃ q : Str, laws_markText.E k3 (fun x => x = q) ∧ (Lim q) ∧ (if ((nth a i2).Key) != q then Q (-1) else ((a.length : Int) ≤ 9223372036854775807 → I64 (k3 + 1)) ∧ ((0 : Int) ≤ i2 ∧ i2 < (a.length : Int)) ∧ (∃ q2 : Str, laws_markText.E (k3 + 1) (fun x => x = q2) ∧ (Lim q2) ∧ (if ((nth a i2).Val) != q2 then Q (-1) else ((a.length : Int) ≤ 9223372036854775807 → I64 (k3 + 1 + 1)) ∧ (-9223372036854775808 ≤ i2) ∧ I18 (k3 + 1 + 1) (i2 + 1) ∧ mu19 (k3 + 1 + 1) (i2 + 1) < mu19 k3 i2)))) else Q k3))
set_option maxHeartbeats 8000000 in
set_option maxRecDepth 100000 in
theorem laws_heldTagS.calls {O : Ob} (w0 : World) (hO : Ok w0 O) (a : List Tag) (A1 : Option Addr) (n2 c3 : Nat) (hp4 : Sl kTag w0 (Fr O) (.slice A1 n2 c3) a) (k : Int) (Q : Int → Prop) (h : laws_heldTagS.E a k Q) :
    Ret Try.prog 71 [.slice A1 n2 c3, vi k] w0 (fun v w' => ∃ (r0 : Int), v = vi r0 ∧ Q r0 ∧ Gr w0 w' none) := by
  have H : (∃ (I18 : Int → Int → Prop) (mu19 : Int → Int → Nat), I18 k 0 ∧ ∀ (k3 : Int) (i2 : Int), I18 k3 i2 → (if decide (i2 < (a.length : Int)) then ((0 : Int) ≤ i2 ∧ i2 < (a.length : Int)) ∧ (∃ q : Str, laws_markText.E k3 (fun x => x = q) ∧ (Lim q) ∧ (if ((nth a i2).Key) != q then Q (-1) else ((a.length : Int) ≤ 9223372036854775807 → I64 (k3 + 1)) ∧ ((0 : Int) ≤ i2 ∧ i2 < (a.length : Int)) ∧ (∃ q2 : Str, laws_markText.E (k3 + 1) (fun x => x = q2) ∧ (Lim q2) ∧ (if ((nth a i2).Val) != q2 then Q (-1) else ((a.length : Int) ≤ 9223372036854775807 → I64 (k3 + 1 + 1)) ∧ (-9223372036854775808 ≤ i2) ∧ I18 (k3 + 1 + 1) (i2 + 1) ∧ mu19 (k3 + 1 + 1) (i2 + 1) < mu19 k3 i2)))) else Q k3)) := h
  clear h
  have hc0 := Ct.init hO
  refine Ret_enter Try.func71 rfl 33 rfl [.tmp 4] rfl rfl ?_
  refine W_seq ?_
  refine W_reg ?_
  refine L_pu (P_assign (vi 0) rfl) ?_
  refine L_nil ?_
  refine W_seq ?_
  refine W_seq ?_
  refine W_reg ?_
  refine L_pu (P_assign (vi 0) rfl) ?_
  refine L_nil ?_
  refine W_block ?_
  obtain ⟨I18, mu19, hI20, H⟩ := H
  refine W_loop (α := Int × Int) (fun (sv__ : Int × Int) t w14 => match sv__ with | (k3, i2) => I18 k3 i2 ∧ Has t [(0, .slice A1 n2 c3), (1, vi k3), (5, vi i2)] ∧ Ct [] w0 w14 [] O ∧ Sl kTag w14 (Fr ([] ++ O)) (.slice A1 n2 c3) a) (fun (sv__ : Int × Int) => match sv__ with | (k3, i2) => mu19 k3 i2) (k, 0) ⟨hI20, ⟨rfl, rfl, rfl, trivial⟩, hc0, hp4⟩ ?_
  rintro ⟨k3, i2⟩ _ w14 ⟨hI20, hh22, hc16, h17⟩
  obtain ⟨u23, rfl⟩ := Has.ins hh22
  have H := H k3 i2 hI20
  refine W_seq ?_
  refine W_seq ?_
  refine W_reg ?_
  refine L_pu (P_move (vi i2) rfl) ?_
  refine L_pu (P_move (.slice A1 n2 c3) rfl) ?_
  have hl24 := h17.le
  refine L_pu (P_len Try.underlying69 A1 n2 c3 h17.len rfl) ?_
  refine L_pu (P_cmp i2 (a.length : Int) (decide (i2 < (a.length : Int))) rfl rfl rfl) ?_
  refine L_nil ?_
  refine W_cond (decide (i2 < (a.length : Int))) rfl (fun hq25 => ?_) (fun hq25 => ?_)
  · have H := ite_t H hq25
    refine W_skip ?_
    refine W_seq ?_
    refine W_block ?_
    refine W_seq ?_
    refine W_seq ?_
    refine W_draw (fun x => Gr w14 x none) (by kernel_rfl) (by kernel_rfl) (Gr.drew _) ?_
    refine Q_pu (P_move (.slice A1 n2 c3) rfl) ?_
    refine Q_pu (P_move (vi i2) rfl) ?_
    obtain ⟨hb26, H⟩ := H
    obtain ⟨ad27, cs28, hA29, hS32, hR30, hcl31⟩ := h17.get default (by decide) i2 hb26
    obtain ⟨rfl, hs33, hs34⟩ := kTag.op hR30
    refine Q_pu (P_ia Try.underlying69 se69 A1 ad27 n2 c3 h17.len i2 rfl hA29 rfl hb26) ?_
    refine Q_pu (P_fa fa133_0 (ad27.add (i2.toNat * 2)) ((ad27.add (i2.toNat * 2)).add 0) rfl rfl) ?_
    refine Q_pu (P_ld ag9 cQ ((ad27.add (i2.toNat * 2)).add 0) (vs ((nth a i2).Key)) rfl (hcl31 0 _ rfl)) ?_
    refine Q_pu (P_move (vi k3) rfl) ?_
    obtain ⟨q, hE41, hs42, H⟩ := H
    refine Q_call go67 [vi k3] rfl (vs q) (fun w g => (laws_markText.calls w (hc16.k0 g).ok k3 _ hE41).mono ?_) ?_
    · rintro _ w ⟨r, rfl, rfl, g2, _⟩
      exact ⟨rfl, Gr.t0 g g2⟩
    refine Q_pu (P_scmp ((nth a i2).Key) q (((nth a i2).Key) != q) rfl rfl rfl) ?_
    refine Q_nil fun w43 g44 => ?_
    have hc46 := hc16.k0 g44
    refine W_cond (((nth a i2).Key) != q) rfl (fun hq47 => ?_) (fun hq47 => ?_)
    · have H := ite_t H hq47
      refine W_seq ?_
      refine W_reg ?_
      refine L_pu (P_assign (vi (-1)) rfl) ?_
      refine L_nil ?_
      refine W_ret ?_
      exact ⟨[vi (-1)], ⟨_, rfl, rfl⟩, (-1), rfl, H, hc46.gr.g0⟩
    · have H := ite_f H hq47
      refine W_skip ?_
      refine W_seq ?_
      refine W_reg ?_
      refine L_pu (P_move (vi k3) rfl) ?_
      obtain ⟨hb48, H⟩ := H
      have hi49 := hb48 (len_le hl24)
      refine L_pu (P_add k3 1 rfl rfl hi49) ?_
      refine L_pu (P_assign (vi (k3 + 1)) rfl) ?_
      refine L_nil ?_
      refine W_seq ?_
      refine W_seq ?_
      refine W_draw (fun x => Gr w43 x none) (by kernel_rfl) (by kernel_rfl) (Gr.drew _) ?_
      refine Q_pu (P_move (.slice A1 n2 c3) rfl) ?_
      refine Q_pu (P_move (vi i2) rfl) ?_
      obtain ⟨hb50, H⟩ := H
      obtain ⟨ad51, cs52, hA53, hS56, hR54, hcl55⟩ := (h17.st (.new _ g44)).get default (by decide) i2 hb50
      obtain ⟨rfl, hs57, hs58⟩ := kTag.op hR54
      refine Q_pu (P_ia Try.underlying69 se69 A1 ad51 n2 c3 (h17.st (.new _ g44)).len i2 rfl hA53 rfl hb50) ?_
      refine Q_pu (P_fa fa133_1 (ad51.add (i2.toNat * 2)) ((ad51.add (i2.toNat * 2)).add 1) rfl rfl) ?_
      refine Q_pu (P_ld ag9 cQ ((ad51.add (i2.toNat * 2)).add 1) (vs ((nth a i2).Val)) rfl (hcl55 1 _ rfl)) ?_
      refine Q_pu (P_move (vi (k3 + 1)) rfl) ?_
      obtain ⟨q2, hE65, hs66, H⟩ := H
      refine Q_call go67 [vi (k3 + 1)] rfl (vs q2) (fun w g => (laws_markText.calls w (hc46.k0 g).ok (k3 + 1) _ hE65).mono ?_) ?_
      · rintro _ w ⟨r, rfl, rfl, g2, _⟩
        exact ⟨rfl, Gr.t0 g g2⟩
      refine Q_pu (P_scmp ((nth a i2).Val) q2 (((nth a i2).Val) != q2) rfl rfl rfl) ?_
      refine Q_nil fun w67 g68 => ?_
      have hc70 := hc46.k0 g68
      refine W_cond (((nth a i2).Val) != q2) rfl (fun hq71 => ?_) (fun hq71 => ?_)
      · have H := ite_t H hq71
        refine W_seq ?_
        refine W_reg ?_
        refine L_pu (P_assign (vi (-1)) rfl) ?_
        refine L_nil ?_
        refine W_ret ?_
        exact ⟨[vi (-1)], ⟨_, rfl, rfl⟩, (-1), rfl, H, hc70.gr.g0⟩
      · have H := ite_f H hq71
        refine W_skip ?_
        refine W_reg ?_
        refine L_pu (P_move (vi (k3 + 1)) rfl) ?_
        obtain ⟨hb72, H⟩ := H
        have hi73 := hb72 (len_le hl24)
        refine L_pu (P_add (k3 + 1) 1 rfl rfl hi73) ?_
        refine L_pu (P_assign (vi (k3 + 1 + 1)) rfl) ?_
        refine L_nil ?_
        refine W_reg ?_
        refine L_pu (P_move (vi i2) rfl) ?_
        obtain ⟨hb75, H⟩ := H
        have hi74 : I64 (i2 + 1) := i64_succ (of_decide_eq_true hq25) hl24 hb75
        refine L_pu (P_add i2 1 rfl rfl hi74) ?_
        refine L_pu (P_assign (vi (i2 + 1)) rfl) ?_
        refine L_nil ?_
        obtain ⟨hI76, hm77⟩ := H
        have h78 := ((h17.st (.new _ g44)).st (.new _ g68))
        exact ⟨(k3 + 1 + 1, i2 + 1), hm77, hI76, ⟨rfl, rfl, rfl, trivial⟩, hc70, h78⟩
  · have H := ite_f H hq25
    refine W_exit (xin_hit ?_)
    refine W_seq ?_
    refine W_reg ?_
    refine L_pu (P_move (vi k3) rfl) ?_
    refine L_pu (P_assign (vi k3) rfl) ?_
    refine L_nil ?_
    refine W_ret ?_
    exact ⟨[vi k3], ⟨_, rfl, rfl⟩, k3, rfl, H, hc16.gr.g0⟩
end Go.Proofs.Ytndjggncgpjolaa

namespace Go.Proofs.Ytndjggncgpjolaa
set_option linter.unusedVariables false
set_option linter.unusedSimpArgs false
set_option linter.unusedSectionVars false
theorem laws_heldTagS.lawk (a : List Tag) (k : Int) (Q : Int → Prop) (ha : bulk a ≤ 1048576) (h0 : 0 ≤ k) (h1 : k ≤ 1000000000) (hq : Q (mkL gTag a k).2) : laws_heldTagS.E (mkL gTag a k).1 k Q := by
  unfold laws_heldTagS.E
  have hbl := bulk_len a
  rw [mkL_len]
  refine ⟨fun k' i => ∃ u : Nat, i = u ∧ Hd gTag a k u k', fun _ i => (a.length - i).toNat, ⟨0, rfl, .zero a k⟩, ?_⟩
  rintro k' _ ⟨u, rfl, M⟩
  have hb := M.bd gTag_bd
  by_cases h : u < a.length
  · rw [if_pos (by simpa using h), M.nth h]
    have hm := bulk_mem (nth_mem a h)
    have hn := M.next h
    refine ⟨by omega, tx k', laws_markText.q _ (by omega) (by omega), tx_lim _ (by omega) (by omega), ?_⟩
    rw [if_neg (by simp [gTag])]
    refine ⟨fun _ => by unfold I64; omega, by omega, tx (k' + 1), laws_markText.q _ (by omega) (by omega), tx_lim _ (by omega) (by omega), ?_⟩
    rw [if_neg (by simp [gTag])]
    refine ⟨fun _ => by unfold I64; omega, by omega, ⟨u + 1, by omega, ?_⟩, by dsimp only; omega⟩
    rw [show k' + 1 + 1 = (gTag (nth a (u : Int)) k').2 by simp [gTag]; omega]; exact hn
  · rw [if_neg (by simpa using h), M.full h]; exact hq
end Go.Proofs.Ytndjggncgpjolaa
