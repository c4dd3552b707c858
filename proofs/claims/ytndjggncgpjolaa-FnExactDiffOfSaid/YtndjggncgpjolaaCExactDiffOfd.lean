/- It is proved here that the law FnExactDiffOf of the given program holds whatever it is handed: the walks through the code, the plain laws and the row, in this order.
   Conditions: none. -/
import Derived.Below
import Derived.ChangeArms
import Derived.ChangeOld
import Derived.ChangeSlices
import Derived.DataReads
import Derived.Deep.Quiet
import Derived.KernelRfl
import Derived.Laws.Build
import Derived.Laws.IdiomStrings
import Derived.Laws.OwnMore
import Derived.Laws.Slices
import Derived.Laws.StructEq
import Derived.OpenShut
import Derived.ProofKit
import Derived.Shelf.Slices.Cells
import Derived.Shelf.Slices.CompactS
import Derived.Shelf.Slices.In.SortNone
import Derived.Shelf.Small.Bits
import Derived.Shelf.Sort.Plain
import Derived.Shelf.Strconv.Itoa0
import Derived.ShutString
import Derived.SizedLaws
import Derived.StillTail
import Derived.Test.YtndjggncgpjolaaProg
import Derived.Test.YtndjggncgpjolaaRows
import Derived.WalkKit
import Derived.Test.YtndjggncgpjolaaCExactDiffOfa
import Derived.Test.YtndjggncgpjolaaCExactDiffOfb
import Derived.Test.YtndjggncgpjolaaCExactDiffOfc
namespace Go.Proofs.Ytndjggncgpjolaa
open Go.RowKit
set_option linter.unusedVariables false
def spec_l4Of.E (a : List Feat) (b : List Feat) (Q : List Change → Prop) : Prop :=
  spec_l4Ids.E a b (fun r => (∃ (I67 : (List Change) → Int → Prop) (mu68 : (List Change) → Int → Nat), I67 ([] : List Change) 0 ∧ ∀ (xs2 : List Change) (i2 : Int), I67 xs2 i2 → (if decide (i2 < (r.length : Int)) then ((0 : Int) ≤ i2 ∧ i2 < (r.length : Int)) ∧ spec_l4Side.E a (nth r i2) (fun r2 r3 => ((0 : Int) ≤ i2 ∧ i2 < (r.length : Int)) ∧ spec_l4Side.E b (nth r i2) (fun r4 r5 => (if r3 != r5 then ((0 : Int) ≤ i2 ∧ i2 < (r.length : Int)) ∧ (xs2.length + ([(⟨(nth r i2), r3, r2, r5, r4⟩ : Change)] : List Change).length ≤ 268435456) ∧ (-9223372036854775808 ≤ i2) ∧ I67 (xs2 ++ ([(⟨(nth r i2), r3, r2, r5, r4⟩ : Change)] : List Change)) (i2 + 1) ∧ mu68 (xs2 ++ ([(⟨(nth r i2), r3, r2, r5, r4⟩ : Change)] : List Change)) (i2 + 1) < mu68 xs2 i2 else spec_FeatSame.E r2 r4 (fun r6 => (if !r6 then ((0 : Int) ≤ i2 ∧ i2 < (r.length : Int)) ∧ (xs2.length + ([(⟨(nth r i2), r3, r2, r5, r4⟩ : Change)] : List Change).length ≤ 268435456) ∧ (-9223372036854775808 ≤ i2) ∧ I67 (xs2 ++ ([(⟨(nth r i2), r3, r2, r5, r4⟩ : Change)] : List Change)) (i2 + 1) ∧ mu68 (xs2 ++ ([(⟨(nth r i2), r3, r2, r5, r4⟩ : Change)] : List Change)) (i2 + 1) < mu68 xs2 i2 else (-9223372036854775808 ≤ i2) ∧ I67 xs2 (i2 + 1) ∧ mu68 xs2 (i2 + 1) < mu68 xs2 i2))))) else Q xs2)))
set_option maxHeartbeats 8000000 in
set_option maxRecDepth 100000 in
theorem spec_l4Of.calls {O : Ob} (w0 : World) (hO : Ok w0 O) (a : List Feat) (A1 : Option Addr) (n2 c3 : Nat) (hp4 : Sl kFeat w0 (Fr O) (.slice A1 n2 c3) a) (b : List Feat) (A6 : Option Addr) (n7 c8 : Nat) (hp9 : Sl kFeat w0 (Fr O) (.slice A6 n7 c8) b) (Q : List Change → Prop) (h : spec_l4Of.E a b Q) :
    Ret Try.prog 73 [.slice A1 n2 c3, .slice A6 n7 c8] w0 (fun v w' => ∃ (r0 : List Change) (A0 : Option Addr) (n0 c0 : Nat), v = .slice A0 n0 c0 ∧ Q r0 ∧ Gr w0 w' none ∧ Ok w' ([blk (.slice A0 n0 c0)] ++ O) ∧ (∀ b, some b ∈ [blk (.slice A0 n0 c0)] → w0.heap.size ≤ b) ∧ Ow kChange 103 w' ([blk (.slice A0 n0 c0)] ++ O) (.slice A0 n0 c0) r0) := by
  have H : spec_l4Ids.E a b (fun r => (∃ (I67 : (List Change) → Int → Prop) (mu68 : (List Change) → Int → Nat), I67 ([] : List Change) 0 ∧ ∀ (xs2 : List Change) (i2 : Int), I67 xs2 i2 → (if decide (i2 < (r.length : Int)) then ((0 : Int) ≤ i2 ∧ i2 < (r.length : Int)) ∧ spec_l4Side.E a (nth r i2) (fun r2 r3 => ((0 : Int) ≤ i2 ∧ i2 < (r.length : Int)) ∧ spec_l4Side.E b (nth r i2) (fun r4 r5 => (if r3 != r5 then ((0 : Int) ≤ i2 ∧ i2 < (r.length : Int)) ∧ (xs2.length + ([(⟨(nth r i2), r3, r2, r5, r4⟩ : Change)] : List Change).length ≤ 268435456) ∧ (-9223372036854775808 ≤ i2) ∧ I67 (xs2 ++ ([(⟨(nth r i2), r3, r2, r5, r4⟩ : Change)] : List Change)) (i2 + 1) ∧ mu68 (xs2 ++ ([(⟨(nth r i2), r3, r2, r5, r4⟩ : Change)] : List Change)) (i2 + 1) < mu68 xs2 i2 else spec_FeatSame.E r2 r4 (fun r6 => (if !r6 then ((0 : Int) ≤ i2 ∧ i2 < (r.length : Int)) ∧ (xs2.length + ([(⟨(nth r i2), r3, r2, r5, r4⟩ : Change)] : List Change).length ≤ 268435456) ∧ (-9223372036854775808 ≤ i2) ∧ I67 (xs2 ++ ([(⟨(nth r i2), r3, r2, r5, r4⟩ : Change)] : List Change)) (i2 + 1) ∧ mu68 (xs2 ++ ([(⟨(nth r i2), r3, r2, r5, r4⟩ : Change)] : List Change)) (i2 + 1) < mu68 xs2 i2 else (-9223372036854775808 ≤ i2) ∧ I67 xs2 (i2 + 1) ∧ mu68 xs2 (i2 + 1) < mu68 xs2 i2))))) else Q xs2))) := h
  clear h
  have hc0 := Ct.init hO
  refine Ret_enter Try.func73 rfl 62 rfl [.tmp 4] rfl rfl ?_
  refine W_seq ?_
  refine W_reg ?_
  refine L_pu (P_assign (.slice none 0 0) rfl) ?_
  refine L_nil ?_
  refine W_seq ?_
  refine W_reg ?_
  refine L_lit (kd := kChange) ei43 hc0 ([] : List Change) (cells := []) rfl (fun _ => by kernel_rfl) fun w11 A12 n13 c14 g15 hr16 hc17 h18 => ?_
  refine L_pu (P_assign (.slice A12 n13 c14) rfl) ?_
  refine L_nil ?_
  refine W_seq ?_
  refine W_reg ?_
  refine L_pu (P_move (.slice A1 n2 c3) rfl) ?_
  refine L_pu (P_move (.slice A6 n7 c8) rfl) ?_
  refine L_call go120 [.slice A1 n2 c3, .slice A6 n7 c8] rfl ((spec_l4Ids.calls w11 hc17.ok a A1 n2 c3 (hp4.st hc17.st) b A6 n7 c8 (hp9.st hc17.st) _ H).mono ?_)
  rintro _ w20 ⟨r, A22, n23, c24, rfl, H, g21, hk28, hk29, h25⟩
  have hc30 := hc17.owns g21 hk28 hk29
  refine L_pu (P_assign (.slice A22 n23 c24) rfl) ?_
  refine L_nil ?_
  refine W_seq ?_
  refine W_seq ?_
  refine W_reg ?_
  refine L_pu (P_assign (vi 0) rfl) ?_
  refine L_nil ?_
  refine W_block ?_
  obtain ⟨I67, mu68, hI69, H⟩ := H
  have h71 := (h18.sos g21 hk29)
  refine W_loop (α := (List Change) × (Option Addr) × Nat × Nat × Int) (fun (sv__ : (List Change) × (Option Addr) × Nat × Nat × Int) t w54 => match sv__ with | (xs2, A57, n58, c59, i2) => I67 xs2 i2 ∧ Has t [(0, .slice A1 n2 c3), (1, .slice A6 n7 c8), (5, .slice A57 n58 c59), (6, .slice A22 n23 c24), (7, vi i2)] ∧ Ct [] w0 w54 [blk (.slice A22 n23 c24), blk (.slice A57 n58 c59)] O ∧ Sl kFeat w54 (Fr ([blk (.slice A22 n23 c24), blk (.slice A57 n58 c59)] ++ O)) (.slice A1 n2 c3) a ∧ Sl kFeat w54 (Fr ([blk (.slice A22 n23 c24), blk (.slice A57 n58 c59)] ++ O)) (.slice A6 n7 c8) b ∧ Ow kChange 103 w54 ([blk (.slice A22 n23 c24), blk (.slice A57 n58 c59)] ++ O) (.slice A57 n58 c59) xs2 ∧ Ow Kd.str 9 w54 ([blk (.slice A22 n23 c24), blk (.slice A57 n58 c59)] ++ O) (.slice A22 n23 c24) r) (fun (sv__ : (List Change) × (Option Addr) × Nat × Nat × Int) => match sv__ with | (xs2, _, _, _, i2) => mu68 xs2 i2) (([] : List Change), A12, n13, c14, 0) ⟨hI69, ⟨rfl, rfl, rfl, rfl, rfl, trivial⟩, hc30, (hp4.st hc30.st), (hp9.st hc30.st), h71, h25⟩ ?_
  rintro ⟨xs2, A57, n58, c59, i2⟩ _ w54 ⟨hI69, hh72, hc62, h63, h64, h65, h66⟩
  obtain ⟨u73, rfl⟩ := Has.ins hh72
  have H := H xs2 i2 hI69
  refine W_seq ?_
  refine W_seq ?_
  refine W_reg ?_
  refine L_pu (P_move (vi i2) rfl) ?_
  refine L_pu (P_move (.slice A22 n23 c24) rfl) ?_
  have hl74 := h66.le
  refine L_pu (P_len Try.underlying72 A22 n23 c24 h66.len rfl) ?_
  refine L_pu (P_cmp i2 (r.length : Int) (decide (i2 < (r.length : Int))) rfl rfl rfl) ?_
  refine L_nil ?_
  refine W_cond (decide (i2 < (r.length : Int))) rfl (fun hq75 => ?_) (fun hq75 => ?_)
  · have H := ite_t H hq75
    refine W_skip ?_
    refine W_seq ?_
    refine W_block ?_
    refine W_seq ?_
    refine W_reg ?_
    refine L_pu (P_move (.slice A1 n2 c3) rfl) ?_
    refine L_pu (P_move (.slice A22 n23 c24) rfl) ?_
    refine L_pu (P_move (vi i2) rfl) ?_
    obtain ⟨hb76, H⟩ := H
    obtain ⟨ad77, cs78, hA79, hR80, hcl81⟩ := h66.get default (by decide) i2 hb76
    obtain ⟨rfl, hs83⟩ := Kd.str.op hR80
    refine L_pu (P_ia Try.underlying72 se72 A22 ad77 n23 c24 h66.len i2 rfl hA79 rfl hb76) ?_
    refine L_pu (P_ld ag9 cL (ad77.add (i2.toNat * 1)) (vs (nth r i2)) rfl (hcl81 0 _ rfl)) ?_
    refine L_call go121 [.slice A1 n2 c3, vs (nth r i2)] rfl ((spec_l4Side.calls w54 hc62.ok a A1 n2 c3 h63 (nth r i2) hs83 _ H).mono ?_)
    rintro _ w84 ⟨r2, r3, A87, n88, c89, A92, n93, c94, rfl, H, g85, hk98, hk99, hs86, h90, h95⟩
    have hc100 := hc62.owns g85 hk98 hk99
    refine L_pu (P_move (.tuple #[.agg #[vs r2.Id, vi r2.Shape.Kind, .slice A87 n88 c89, .slice A92 n93 c94], vb r3]) rfl) ?_
    refine L_pu (P_ext [.agg #[vs r2.Id, vi r2.Shape.Kind, .slice A87 n88 c89, .slice A92 n93 c94], vb r3] 0 (.agg #[vs r2.Id, vi r2.Shape.Kind, .slice A87 n88 c89, .slice A92 n93 c94]) rfl rfl) ?_
    refine L_pu (P_ext [.agg #[vs r2.Id, vi r2.Shape.Kind, .slice A87 n88 c89, .slice A92 n93 c94], vb r3] 1 (vb r3) rfl rfl) ?_
    refine L_alloc [vs [], .int .i64 0, .slice none 0 0, .slice none 0 0] ze71 fun w101 b102 hl104 hu105 g103 hx106 => ?_
    have hc108 := hc100.own g103 (some b102) (oglt hl104 hu105)
    refine L_stb b102 0 [vs ([] : Str), vi 0, .slice none 0 0, .slice none 0 0] [vs r2.Id, vi r2.Shape.Kind, .slice A87 n88 c89, .slice A92 n93 c94] [vs r2.Id, vi r2.Shape.Kind, .slice A87 n88 c89, .slice A92 n93 c94] rfl hx106 rfl sz71 rfl rfl rfl fun w109 g110 hx111 => ?_
    have hc112 := hc108.wr 0 rfl g110
    refine L_pu (P_assign (vb r3) rfl) ?_
    refine L_nil ?_
    refine W_seq ?_
    refine W_reg ?_
    refine L_pu (P_move (.slice A6 n7 c8) rfl) ?_
    refine L_pu (P_move (.slice A22 n23 c24) rfl) ?_
    refine L_pu (P_move (vi i2) rfl) ?_
    obtain ⟨hb113, H⟩ := H
    have h120 := (Ow.sw (L := [some b102, blk (.slice A87 n88 c89), blk (.slice A92 n93 c94), blk (.slice A22 n23 c24), blk (.slice A57 n58 c59)]) (O := O) ((h66.sos g85 hk99).so _ g103 (oge hl104)) hc108 (i := 3) rfl (j := 0) rfl (by decide) g110)
    obtain ⟨ad114, cs115, hA116, hR117, hcl118⟩ := h120.get default (by decide) i2 hb113
    obtain ⟨rfl, hs121⟩ := Kd.str.op hR117
    refine L_pu (P_ia Try.underlying72 se72 A22 ad114 n23 c24 h120.len i2 rfl hA116 rfl hb113) ?_
    refine L_pu (P_ld ag9 cL (ad114.add (i2.toNat * 1)) (vs (nth r i2)) rfl (hcl118 0 _ rfl)) ?_
    have h122 := (((h64.st (.owns _ g85 hk99)).st (.own _ _ g103 (oge hl104))).st (.wl (L := [some b102, blk (.slice A87 n88 c89), blk (.slice A92 n93 c94), blk (.slice A22 n23 c24), blk (.slice A57 n58 c59)]) (O := O) (j := 0) rfl g110))
    refine L_call go121 [.slice A6 n7 c8, vs (nth r i2)] rfl ((spec_l4Side.calls w109 hc112.ok b A6 n7 c8 h122 (nth r i2) hs121 _ H).mono ?_)
    rintro _ w123 ⟨r4, r5, A126, n127, c128, A131, n132, c133, rfl, H, g124, hk137, hk138, hs125, h129, h134⟩
    have hc139 := hc112.owns g124 hk137 hk138
    refine L_pu (P_move (.tuple #[.agg #[vs r4.Id, vi r4.Shape.Kind, .slice A126 n127 c128, .slice A131 n132 c133], vb r5]) rfl) ?_
    refine L_pu (P_ext [.agg #[vs r4.Id, vi r4.Shape.Kind, .slice A126 n127 c128, .slice A131 n132 c133], vb r5] 0 (.agg #[vs r4.Id, vi r4.Shape.Kind, .slice A126 n127 c128, .slice A131 n132 c133]) rfl rfl) ?_
    refine L_pu (P_ext [.agg #[vs r4.Id, vi r4.Shape.Kind, .slice A126 n127 c128, .slice A131 n132 c133], vb r5] 1 (vb r5) rfl rfl) ?_
    refine L_alloc [vs [], .int .i64 0, .slice none 0 0, .slice none 0 0] ze71 fun w140 b141 hl143 hu144 g142 hx145 => ?_
    have hc147 := hc139.own g142 (some b141) (oglt hl143 hu144)
    refine L_stb b141 0 [vs ([] : Str), vi 0, .slice none 0 0, .slice none 0 0] [vs r4.Id, vi r4.Shape.Kind, .slice A126 n127 c128, .slice A131 n132 c133] [vs r4.Id, vi r4.Shape.Kind, .slice A126 n127 c128, .slice A131 n132 c133] rfl hx145 rfl sz71 rfl rfl rfl fun w148 g149 hx150 => ?_
    have hc151 := hc147.wr 0 rfl g149
    refine L_pu (P_assign (vb r5) rfl) ?_
    refine L_nil ?_
    refine W_seq ?_
    refine W_reg ?_
    refine L_pu (P_move (vb r3) rfl) ?_
    refine L_pu (P_move (vb r5) rfl) ?_
    refine L_pu (P_bcmp Try.underlying4 r3 r5 (r3 != r5) rfl rfl rfl) ?_
    refine L_pu (P_move (vb (r3 != r5)) rfl) ?_
    rcases bool_or (r3 != r5) with hq152 | hq152
    · have H := ite_t H hq152
      refine L_pass (dj := 43) rfl rfl (.inl (by exact congrArg Value.bool hq152)) ?_
      refine L_pass (dj := 43) rfl rfl (.inl (by exact congrArg Value.bool hq152)) ?_
      refine L_pass (dj := 43) rfl rfl (.inl (by exact congrArg Value.bool hq152)) ?_
      refine L_pass (dj := 43) rfl rfl (.inl (by exact congrArg Value.bool hq152)) ?_
      refine L_pu (P_pick true (vb true) (by exact congrArg Value.bool hq152) rfl) ?_
      refine L_nil ?_
      refine W_ct (b := true) rfl rfl ?_
      refine W_mixr 13 [blk (.slice A57 n58 c59)] (by kernel_rfl) rfl fun w153 g154 hM155 => ?_
      have hc156 := hc151.k0 g154
      refine M_pu 0 rfl (by kernel_rfl) hM155 (P_move (.slice A57 n58 c59) rfl) ?_
      refine M_pu 1 rfl (by kernel_rfl) hM155 (P_move (.slice A22 n23 c24) rfl) ?_
      refine M_pu 2 rfl (by kernel_rfl) hM155 (P_move (vi i2) rfl) ?_
      obtain ⟨hb157, H⟩ := H
      have h164 := ((Ow.sw (L := [some b141, blk (.slice A126 n127 c128), blk (.slice A131 n132 c133), some b102, blk (.slice A87 n88 c89), blk (.slice A92 n93 c94), blk (.slice A22 n23 c24), blk (.slice A57 n58 c59)]) (O := O) ((h120.sos g124 hk138).so _ g142 (oge hl143)) hc147 (i := 6) rfl (j := 0) rfl (by decide) g149).sn g154)
      obtain ⟨ad158, cs159, hA160, hR161, hcl162⟩ := h164.get default (by decide) i2 hb157
      obtain ⟨rfl, hs165⟩ := Kd.str.op hR161
      refine M_pu 3 rfl (by kernel_rfl) hM155 (P_ia Try.underlying72 se72 A22 ad158 n23 c24 h164.len i2 rfl hA160 rfl hb157) ?_
      refine M_pu 4 rfl (by kernel_rfl) hM155 (P_ldr ag9 cR (ad158.add (i2.toNat * 1)) (vs (nth r i2)) rfl (hcl162 0 _ rfl) (nm_cons (by simp only [add_block]; exact (ow_ne hc156 (j := 6) (i := 7) rfl hA160 rfl (by decide))) nm_nil)) ?_
      refine M_pu 5 rfl (by kernel_rfl) hM155 (P_move (vb r3) rfl) ?_
      have h166 := ((Bx.sm (L := [some b141, blk (.slice A126 n127 c128), blk (.slice A131 n132 c133), some b102, blk (.slice A87 n88 c89), blk (.slice A92 n93 c94), blk (.slice A22 n23 c24), blk (.slice A57 n58 c59)]) (O := O) ((hx111.k0 g124).k0 g142) hc147 (i := 3) rfl (j := 0) rfl (by decide) g149).k0 g154)
      refine M_pu 6 rfl (by kernel_rfl) hM155 (P_ldar ag71 sz71 cR ⟨b102, 0, none⟩ [vs r2.Id, vi r2.Shape.Kind, .slice A87 n88 c89, .slice A92 n93 c94] rfl rfl (h166.cells (off := 0) rfl) (nm_cons (bx_ne hc156 (j := 3) (i := 7) rfl rfl (by decide)) nm_nil)) ?_
      refine M_pu 7 rfl (by kernel_rfl) hM155 (P_move (vb r5) rfl) ?_
      have h167 := (hx150.k0 g154)
      refine M_pu 8 rfl (by kernel_rfl) hM155 (P_ldar ag71 sz71 cR ⟨b141, 0, none⟩ [vs r4.Id, vi r4.Shape.Kind, .slice A126 n127 c128, .slice A131 n132 c133] rfl rfl (h167.cells (off := 0) rfl) (nm_cons (bx_ne hc156 (j := 0) (i := 7) rfl rfl (by decide)) nm_nil)) ?_
      refine M_pu 9 rfl (by kernel_rfl) hM155 (P_build (.agg #[vs (nth r i2), vb r3, vs r2.Id, vi r2.Shape.Kind, .slice A87 n88 c89, .slice A92 n93 c94, vb r5, vs r4.Id, vi r4.Shape.Kind, .slice A126 n127 c128, .slice A131 n132 c133]) (fun _ => by kernel_rfl)) ?_
      refine M_any1 10 (by kernel_rfl) rfl ?_
      have h168 := ((Ow.sw (L := [some b141, blk (.slice A126 n127 c128), blk (.slice A131 n132 c133), some b102, blk (.slice A87 n88 c89), blk (.slice A92 n93 c94), blk (.slice A22 n23 c24), blk (.slice A57 n58 c59)]) (O := O) (((Ow.sw (L := [some b102, blk (.slice A87 n88 c89), blk (.slice A92 n93 c94), blk (.slice A22 n23 c24), blk (.slice A57 n58 c59)]) (O := O) (h90.so _ g103 (oge hl104)) hc108 (i := 1) rfl (j := 0) rfl (by decide) g110).sos g124 hk138).so _ g142 (oge hl143)) hc147 (i := 4) rfl (j := 0) rfl (by decide) g149).sn g154)
      have h169 := Ow.gv (L := [some b141, blk (.slice A126 n127 c128), blk (.slice A131 n132 c133), some b102, blk (.slice A87 n88 c89), blk (.slice A92 n93 c94), blk (.slice A22 n23 c24), blk (.slice A57 n58 c59)]) (O := O) h168 hc156 (i := 4) rfl
      have hc170 := hc156.drop 4 rfl
      have h173 := (Ow.sd (L := [some b141, blk (.slice A126 n127 c128), blk (.slice A131 n132 c133), some b102, blk (.slice A87 n88 c89), blk (.slice A92 n93 c94), blk (.slice A22 n23 c24), blk (.slice A57 n58 c59)]) (O := O) ((Ow.sw (L := [some b141, blk (.slice A126 n127 c128), blk (.slice A131 n132 c133), some b102, blk (.slice A87 n88 c89), blk (.slice A92 n93 c94), blk (.slice A22 n23 c24), blk (.slice A57 n58 c59)]) (O := O) (((Ow.sw (L := [some b102, blk (.slice A87 n88 c89), blk (.slice A92 n93 c94), blk (.slice A22 n23 c24), blk (.slice A57 n58 c59)]) (O := O) (h95.so _ g103 (oge hl104)) hc108 (i := 2) rfl (j := 0) rfl (by decide) g110).sos g124 hk138).so _ g142 (oge hl143)) hc147 (i := 5) rfl (j := 0) rfl (by decide) g149).sn g154) (i := 5) rfl (j := 4) rfl (by decide))
      have h174 := Ow.gv (L := [some b141, blk (.slice A126 n127 c128), blk (.slice A131 n132 c133), some b102, blk (.slice A92 n93 c94), blk (.slice A22 n23 c24), blk (.slice A57 n58 c59)]) (O := O) h173 hc170 (i := 4) rfl
      have hc175 := hc170.drop 4 rfl
      have h178 := (Ow.sd (L := [some b141, blk (.slice A126 n127 c128), blk (.slice A131 n132 c133), some b102, blk (.slice A92 n93 c94), blk (.slice A22 n23 c24), blk (.slice A57 n58 c59)]) (O := O) (Ow.sd (L := [some b141, blk (.slice A126 n127 c128), blk (.slice A131 n132 c133), some b102, blk (.slice A87 n88 c89), blk (.slice A92 n93 c94), blk (.slice A22 n23 c24), blk (.slice A57 n58 c59)]) (O := O) ((Ow.sw (L := [some b141, blk (.slice A126 n127 c128), blk (.slice A131 n132 c133), some b102, blk (.slice A87 n88 c89), blk (.slice A92 n93 c94), blk (.slice A22 n23 c24), blk (.slice A57 n58 c59)]) (O := O) (h129.so _ g142 (oge hl143)) hc147 (i := 1) rfl (j := 0) rfl (by decide) g149).sn g154) (i := 1) rfl (j := 4) rfl (by decide)) (i := 1) rfl (j := 4) rfl (by decide))
      have h179 := Ow.gv (L := [some b141, blk (.slice A126 n127 c128), blk (.slice A131 n132 c133), some b102, blk (.slice A22 n23 c24), blk (.slice A57 n58 c59)]) (O := O) h178 hc175 (i := 1) rfl
      have hc180 := hc175.drop 1 rfl
      have h183 := (Ow.sd (L := [some b141, blk (.slice A126 n127 c128), blk (.slice A131 n132 c133), some b102, blk (.slice A22 n23 c24), blk (.slice A57 n58 c59)]) (O := O) (Ow.sd (L := [some b141, blk (.slice A126 n127 c128), blk (.slice A131 n132 c133), some b102, blk (.slice A92 n93 c94), blk (.slice A22 n23 c24), blk (.slice A57 n58 c59)]) (O := O) (Ow.sd (L := [some b141, blk (.slice A126 n127 c128), blk (.slice A131 n132 c133), some b102, blk (.slice A87 n88 c89), blk (.slice A92 n93 c94), blk (.slice A22 n23 c24), blk (.slice A57 n58 c59)]) (O := O) ((Ow.sw (L := [some b141, blk (.slice A126 n127 c128), blk (.slice A131 n132 c133), some b102, blk (.slice A87 n88 c89), blk (.slice A92 n93 c94), blk (.slice A22 n23 c24), blk (.slice A57 n58 c59)]) (O := O) (h134.so _ g142 (oge hl143)) hc147 (i := 2) rfl (j := 0) rfl (by decide) g149).sn g154) (i := 2) rfl (j := 4) rfl (by decide)) (i := 2) rfl (j := 4) rfl (by decide)) (i := 2) rfl (j := 1) rfl (by decide))
      have h184 := Ow.gv (L := [some b141, blk (.slice A131 n132 c133), some b102, blk (.slice A22 n23 c24), blk (.slice A57 n58 c59)]) (O := O) h183 hc180 (i := 1) rfl
      have hc185 := hc180.drop 1 rfl
      have h196 := (((h169.st (.dr _ (L := [some b141, blk (.slice A126 n127 c128), blk (.slice A131 n132 c133), some b102, blk (.slice A92 n93 c94), blk (.slice A22 n23 c24), blk (.slice A57 n58 c59)]) (O := O) (j := 4) rfl)).st (.dr _ (L := [some b141, blk (.slice A126 n127 c128), blk (.slice A131 n132 c133), some b102, blk (.slice A22 n23 c24), blk (.slice A57 n58 c59)]) (O := O) (j := 1) rfl)).st (.dr _ (L := [some b141, blk (.slice A131 n132 c133), some b102, blk (.slice A22 n23 c24), blk (.slice A57 n58 c59)]) (O := O) (j := 1) rfl))
      have h197 := ((h174.st (.dr _ (L := [some b141, blk (.slice A126 n127 c128), blk (.slice A131 n132 c133), some b102, blk (.slice A22 n23 c24), blk (.slice A57 n58 c59)]) (O := O) (j := 1) rfl)).st (.dr _ (L := [some b141, blk (.slice A131 n132 c133), some b102, blk (.slice A22 n23 c24), blk (.slice A57 n58 c59)]) (O := O) (j := 1) rfl))
      have h198 := (h179.st (.dr _ (L := [some b141, blk (.slice A131 n132 c133), some b102, blk (.slice A22 n23 c24), blk (.slice A57 n58 c59)]) (O := O) (j := 1) rfl))
      refine L_lit (kd := kChange) ei43 hc185 ([(⟨(nth r i2), r3, r2, r5, r4⟩ : Change)] : List Change) (cells := [vs (nth r i2), vb r3, vs r2.Id, vi r2.Shape.Kind, .slice A87 n88 c89, .slice A92 n93 c94, vb r5, vs r4.Id, vi r4.Shape.Kind, .slice A126 n127 c128, .slice A131 n132 c133]) ⟨[vs (nth r i2), vb r3, vs r2.Id, vi r2.Shape.Kind, .slice A87 n88 c89, .slice A92 n93 c94, vb r5, vs r4.Id, vi r4.Shape.Kind, .slice A126 n127 c128, .slice A131 n132 c133], _, rfl, (kChange.mk _ _ (⟨(nth r i2), r3, r2, r5, r4⟩ : Change) hs165 hs86 h196 h197 hs125 h198 h184), rfl⟩ (fun _ => by kernel_rfl) fun w188 A189 n190 c191 g192 hr193 hc194 h195 => ?_
      have hM200 := Gm.tm hM155 g192
      refine L_nil ⟨hM200, ?_⟩
      refine M_any1 11 (by kernel_rfl) rfl ?_
      obtain ⟨hb201, H⟩ := H
      have h202 := ((Ow.sd (L := [some b141, blk (.slice A131 n132 c133), some b102, blk (.slice A22 n23 c24), blk (.slice A57 n58 c59)]) (O := O) (Ow.sd (L := [some b141, blk (.slice A126 n127 c128), blk (.slice A131 n132 c133), some b102, blk (.slice A22 n23 c24), blk (.slice A57 n58 c59)]) (O := O) (Ow.sd (L := [some b141, blk (.slice A126 n127 c128), blk (.slice A131 n132 c133), some b102, blk (.slice A92 n93 c94), blk (.slice A22 n23 c24), blk (.slice A57 n58 c59)]) (O := O) (Ow.sd (L := [some b141, blk (.slice A126 n127 c128), blk (.slice A131 n132 c133), some b102, blk (.slice A87 n88 c89), blk (.slice A92 n93 c94), blk (.slice A22 n23 c24), blk (.slice A57 n58 c59)]) (O := O) ((Ow.sw (L := [some b141, blk (.slice A126 n127 c128), blk (.slice A131 n132 c133), some b102, blk (.slice A87 n88 c89), blk (.slice A92 n93 c94), blk (.slice A22 n23 c24), blk (.slice A57 n58 c59)]) (O := O) (((Ow.sw (L := [some b102, blk (.slice A87 n88 c89), blk (.slice A92 n93 c94), blk (.slice A22 n23 c24), blk (.slice A57 n58 c59)]) (O := O) ((h65.sos g85 hk99).so _ g103 (oge hl104)) hc108 (i := 4) rfl (j := 0) rfl (by decide) g110).sos g124 hk138).so _ g142 (oge hl143)) hc147 (i := 7) rfl (j := 0) rfl (by decide) g149).sn g154) (i := 7) rfl (j := 4) rfl (by decide)) (i := 6) rfl (j := 4) rfl (by decide)) (i := 5) rfl (j := 1) rfl (by decide)) (i := 4) rfl (j := 1) rfl (by decide)).so _ g192 hr193)
      refine L_app ei43 hc194 (.slice A57 n58 c59) xs2 ([(⟨(nth r i2), r3, r2, r5, r4⟩ : Change)] : List Change) rfl h202 (.slice A189 n190 c191) rfl h195.sx 4 rfl hb201 fun w203 A204 n205 c206 g207 s208 hc209 h210 => ?_
      have hM211 := Gm.tq hM200 g207 (hv_mem 0 rfl)
      have hv212 := hv_app (L := [blk (.slice A189 n190 c191), some b141, some b102, blk (.slice A22 n23 c24), blk (.slice A57 n58 c59)]) (O := O) (i := 4) hM200 rfl (hv_mem 0 rfl) s208 hc209
      refine L_nil ⟨hM211, ?_⟩
      refine M_pu 12 rfl (by kernel_rfl) hM211 (P_assign (.slice A204 n205 c206) rfl) ?_
      refine M_nil (by kernel_rfl) ?_
      refine W_reg ?_
      refine L_pu (P_move (vi i2) rfl) ?_
      obtain ⟨hb215, H⟩ := H
      have hi214 : I64 (i2 + 1) := i64_succ (of_decide_eq_true hq75) hl74 hb215
      refine L_pu (P_add i2 1 rfl rfl hi214) ?_
      refine L_pu (P_assign (vi (i2 + 1)) rfl) ?_
      refine L_nil ?_
      have hc216 := hc209.drop 0 rfl
      have hc217 := hc216.drop 0 rfl
      have hc218 := hc217.drop 0 rfl
      obtain ⟨hI219, hm220⟩ := H
      have h221 := ((((((((((((((((h63.st (.owns _ g85 hk99)).st (.own _ _ g103 (oge hl104))).st (.wl (L := [some b102, blk (.slice A87 n88 c89), blk (.slice A92 n93 c94), blk (.slice A22 n23 c24), blk (.slice A57 n58 c59)]) (O := O) (j := 0) rfl g110)).st (.owns _ g124 hk138)).st (.own _ _ g142 (oge hl143))).st (.wl (L := [some b141, blk (.slice A126 n127 c128), blk (.slice A131 n132 c133), some b102, blk (.slice A87 n88 c89), blk (.slice A92 n93 c94), blk (.slice A22 n23 c24), blk (.slice A57 n58 c59)]) (O := O) (j := 0) rfl g149)).st (.new _ g154)).st (.dr _ (L := [some b141, blk (.slice A126 n127 c128), blk (.slice A131 n132 c133), some b102, blk (.slice A87 n88 c89), blk (.slice A92 n93 c94), blk (.slice A22 n23 c24), blk (.slice A57 n58 c59)]) (O := O) (j := 4) rfl)).st (.dr _ (L := [some b141, blk (.slice A126 n127 c128), blk (.slice A131 n132 c133), some b102, blk (.slice A92 n93 c94), blk (.slice A22 n23 c24), blk (.slice A57 n58 c59)]) (O := O) (j := 4) rfl)).st (.dr _ (L := [some b141, blk (.slice A126 n127 c128), blk (.slice A131 n132 c133), some b102, blk (.slice A22 n23 c24), blk (.slice A57 n58 c59)]) (O := O) (j := 1) rfl)).st (.dr _ (L := [some b141, blk (.slice A131 n132 c133), some b102, blk (.slice A22 n23 c24), blk (.slice A57 n58 c59)]) (O := O) (j := 1) rfl)).st (.own _ _ g192 hr193)).st s208).st (.dr _ (L := [blk (.slice A189 n190 c191), some b141, some b102, blk (.slice A22 n23 c24), blk (.slice A204 n205 c206)]) (O := O) (j := 0) rfl)).st (.dr _ (L := [some b141, some b102, blk (.slice A22 n23 c24), blk (.slice A204 n205 c206)]) (O := O) (j := 0) rfl)).st (.dr _ (L := [some b102, blk (.slice A22 n23 c24), blk (.slice A204 n205 c206)]) (O := O) (j := 0) rfl))
      have h222 := (((((((((((((h122.st (.owns _ g124 hk138)).st (.own _ _ g142 (oge hl143))).st (.wl (L := [some b141, blk (.slice A126 n127 c128), blk (.slice A131 n132 c133), some b102, blk (.slice A87 n88 c89), blk (.slice A92 n93 c94), blk (.slice A22 n23 c24), blk (.slice A57 n58 c59)]) (O := O) (j := 0) rfl g149)).st (.new _ g154)).st (.dr _ (L := [some b141, blk (.slice A126 n127 c128), blk (.slice A131 n132 c133), some b102, blk (.slice A87 n88 c89), blk (.slice A92 n93 c94), blk (.slice A22 n23 c24), blk (.slice A57 n58 c59)]) (O := O) (j := 4) rfl)).st (.dr _ (L := [some b141, blk (.slice A126 n127 c128), blk (.slice A131 n132 c133), some b102, blk (.slice A92 n93 c94), blk (.slice A22 n23 c24), blk (.slice A57 n58 c59)]) (O := O) (j := 4) rfl)).st (.dr _ (L := [some b141, blk (.slice A126 n127 c128), blk (.slice A131 n132 c133), some b102, blk (.slice A22 n23 c24), blk (.slice A57 n58 c59)]) (O := O) (j := 1) rfl)).st (.dr _ (L := [some b141, blk (.slice A131 n132 c133), some b102, blk (.slice A22 n23 c24), blk (.slice A57 n58 c59)]) (O := O) (j := 1) rfl)).st (.own _ _ g192 hr193)).st s208).st (.dr _ (L := [blk (.slice A189 n190 c191), some b141, some b102, blk (.slice A22 n23 c24), blk (.slice A204 n205 c206)]) (O := O) (j := 0) rfl)).st (.dr _ (L := [some b141, some b102, blk (.slice A22 n23 c24), blk (.slice A204 n205 c206)]) (O := O) (j := 0) rfl)).st (.dr _ (L := [some b102, blk (.slice A22 n23 c24), blk (.slice A204 n205 c206)]) (O := O) (j := 0) rfl))
      have h223 := (Ow.sd (L := [some b102, blk (.slice A22 n23 c24), blk (.slice A204 n205 c206)]) (O := O) (Ow.sd (L := [some b141, some b102, blk (.slice A22 n23 c24), blk (.slice A204 n205 c206)]) (O := O) (Ow.sd (L := [blk (.slice A189 n190 c191), some b141, some b102, blk (.slice A22 n23 c24), blk (.slice A204 n205 c206)]) (O := O) h210 (i := 4) rfl (j := 0) rfl (by decide)) (i := 3) rfl (j := 0) rfl (by decide)) (i := 2) rfl (j := 0) rfl (by decide))
      have h224 := (Ow.sd (L := [some b102, blk (.slice A22 n23 c24), blk (.slice A204 n205 c206)]) (O := O) (Ow.sd (L := [some b141, some b102, blk (.slice A22 n23 c24), blk (.slice A204 n205 c206)]) (O := O) (Ow.sd (L := [blk (.slice A189 n190 c191), some b141, some b102, blk (.slice A22 n23 c24), blk (.slice A204 n205 c206)]) (O := O) (Ow.sm (L := [blk (.slice A189 n190 c191), some b141, some b102, blk (.slice A22 n23 c24), blk (.slice A57 n58 c59)]) (O := O) ((Ow.sd (L := [some b141, blk (.slice A131 n132 c133), some b102, blk (.slice A22 n23 c24), blk (.slice A57 n58 c59)]) (O := O) (Ow.sd (L := [some b141, blk (.slice A126 n127 c128), blk (.slice A131 n132 c133), some b102, blk (.slice A22 n23 c24), blk (.slice A57 n58 c59)]) (O := O) (Ow.sd (L := [some b141, blk (.slice A126 n127 c128), blk (.slice A131 n132 c133), some b102, blk (.slice A92 n93 c94), blk (.slice A22 n23 c24), blk (.slice A57 n58 c59)]) (O := O) (Ow.sd (L := [some b141, blk (.slice A126 n127 c128), blk (.slice A131 n132 c133), some b102, blk (.slice A87 n88 c89), blk (.slice A92 n93 c94), blk (.slice A22 n23 c24), blk (.slice A57 n58 c59)]) (O := O) h164 (i := 6) rfl (j := 4) rfl (by decide)) (i := 5) rfl (j := 4) rfl (by decide)) (i := 4) rfl (j := 1) rfl (by decide)) (i := 3) rfl (j := 1) rfl (by decide)).so _ g192 hr193) hc194 (i := 3) rfl (j := 4) rfl (by decide) g207 s208) (i := 3) rfl (j := 0) rfl (by decide)) (i := 2) rfl (j := 0) rfl (by decide)) (i := 1) rfl (j := 0) rfl (by decide))
      exact ⟨((xs2 ++ ([(⟨(nth r i2), r3, r2, r5, r4⟩ : Change)] : List Change)), A204, n205, c206, i2 + 1), hm220, hI219, ⟨rfl, rfl, rfl, rfl, rfl, trivial⟩, hc218, h221, h222, h223, h224⟩
    · have H := ite_f H hq152
      refine L_run (dj := 43) rfl rfl (by exact congrArg Value.bool hq152) ?_
      have h225 := (Bx.sm (L := [some b141, blk (.slice A126 n127 c128), blk (.slice A131 n132 c133), some b102, blk (.slice A87 n88 c89), blk (.slice A92 n93 c94), blk (.slice A22 n23 c24), blk (.slice A57 n58 c59)]) (O := O) ((hx111.k0 g124).k0 g142) hc147 (i := 3) rfl (j := 0) rfl (by decide) g149)
      refine L_pu (P_lda ag71 sz71 cL ⟨b102, 0, none⟩ [vs r2.Id, vi r2.Shape.Kind, .slice A87 n88 c89, .slice A92 n93 c94] rfl rfl (h225.cells (off := 0) rfl)) ?_
      refine L_run (dj := 43) rfl rfl (by exact congrArg Value.bool hq152) ?_
      refine L_pu (P_lda ag71 sz71 cL ⟨b141, 0, none⟩ [vs r4.Id, vi r4.Shape.Kind, .slice A126 n127 c128, .slice A131 n132 c133] rfl rfl (hx150.cells (off := 0) rfl)) ?_
      refine L_run (dj := 43) rfl rfl (by exact congrArg Value.bool hq152) ?_
      have h226 := (Ow.sw (L := [some b141, blk (.slice A126 n127 c128), blk (.slice A131 n132 c133), some b102, blk (.slice A87 n88 c89), blk (.slice A92 n93 c94), blk (.slice A22 n23 c24), blk (.slice A57 n58 c59)]) (O := O) (((Ow.sw (L := [some b102, blk (.slice A87 n88 c89), blk (.slice A92 n93 c94), blk (.slice A22 n23 c24), blk (.slice A57 n58 c59)]) (O := O) (h90.so _ g103 (oge hl104)) hc108 (i := 1) rfl (j := 0) rfl (by decide) g110).sos g124 hk138).so _ g142 (oge hl143)) hc147 (i := 4) rfl (j := 0) rfl (by decide) g149)
      have h227 := Ow.gv (L := [some b141, blk (.slice A126 n127 c128), blk (.slice A131 n132 c133), some b102, blk (.slice A87 n88 c89), blk (.slice A92 n93 c94), blk (.slice A22 n23 c24), blk (.slice A57 n58 c59)]) (O := O) h226 hc151 (i := 4) rfl
      have hc228 := hc151.drop 4 rfl
      have h230 := (Ow.sd (L := [some b141, blk (.slice A126 n127 c128), blk (.slice A131 n132 c133), some b102, blk (.slice A87 n88 c89), blk (.slice A92 n93 c94), blk (.slice A22 n23 c24), blk (.slice A57 n58 c59)]) (O := O) (Ow.sw (L := [some b141, blk (.slice A126 n127 c128), blk (.slice A131 n132 c133), some b102, blk (.slice A87 n88 c89), blk (.slice A92 n93 c94), blk (.slice A22 n23 c24), blk (.slice A57 n58 c59)]) (O := O) (((Ow.sw (L := [some b102, blk (.slice A87 n88 c89), blk (.slice A92 n93 c94), blk (.slice A22 n23 c24), blk (.slice A57 n58 c59)]) (O := O) (h95.so _ g103 (oge hl104)) hc108 (i := 2) rfl (j := 0) rfl (by decide) g110).sos g124 hk138).so _ g142 (oge hl143)) hc147 (i := 5) rfl (j := 0) rfl (by decide) g149) (i := 5) rfl (j := 4) rfl (by decide))
      have h231 := Ow.gv (L := [some b141, blk (.slice A126 n127 c128), blk (.slice A131 n132 c133), some b102, blk (.slice A92 n93 c94), blk (.slice A22 n23 c24), blk (.slice A57 n58 c59)]) (O := O) h230 hc228 (i := 4) rfl
      have hc232 := hc228.drop 4 rfl
      have h234 := (Ow.sd (L := [some b141, blk (.slice A126 n127 c128), blk (.slice A131 n132 c133), some b102, blk (.slice A92 n93 c94), blk (.slice A22 n23 c24), blk (.slice A57 n58 c59)]) (O := O) (Ow.sd (L := [some b141, blk (.slice A126 n127 c128), blk (.slice A131 n132 c133), some b102, blk (.slice A87 n88 c89), blk (.slice A92 n93 c94), blk (.slice A22 n23 c24), blk (.slice A57 n58 c59)]) (O := O) (Ow.sw (L := [some b141, blk (.slice A126 n127 c128), blk (.slice A131 n132 c133), some b102, blk (.slice A87 n88 c89), blk (.slice A92 n93 c94), blk (.slice A22 n23 c24), blk (.slice A57 n58 c59)]) (O := O) (h129.so _ g142 (oge hl143)) hc147 (i := 1) rfl (j := 0) rfl (by decide) g149) (i := 1) rfl (j := 4) rfl (by decide)) (i := 1) rfl (j := 4) rfl (by decide))
      have h235 := Ow.gv (L := [some b141, blk (.slice A126 n127 c128), blk (.slice A131 n132 c133), some b102, blk (.slice A22 n23 c24), blk (.slice A57 n58 c59)]) (O := O) h234 hc232 (i := 1) rfl
      have hc236 := hc232.drop 1 rfl
      have h238 := (Ow.sd (L := [some b141, blk (.slice A126 n127 c128), blk (.slice A131 n132 c133), some b102, blk (.slice A22 n23 c24), blk (.slice A57 n58 c59)]) (O := O) (Ow.sd (L := [some b141, blk (.slice A126 n127 c128), blk (.slice A131 n132 c133), some b102, blk (.slice A92 n93 c94), blk (.slice A22 n23 c24), blk (.slice A57 n58 c59)]) (O := O) (Ow.sd (L := [some b141, blk (.slice A126 n127 c128), blk (.slice A131 n132 c133), some b102, blk (.slice A87 n88 c89), blk (.slice A92 n93 c94), blk (.slice A22 n23 c24), blk (.slice A57 n58 c59)]) (O := O) (Ow.sw (L := [some b141, blk (.slice A126 n127 c128), blk (.slice A131 n132 c133), some b102, blk (.slice A87 n88 c89), blk (.slice A92 n93 c94), blk (.slice A22 n23 c24), blk (.slice A57 n58 c59)]) (O := O) (h134.so _ g142 (oge hl143)) hc147 (i := 2) rfl (j := 0) rfl (by decide) g149) (i := 2) rfl (j := 4) rfl (by decide)) (i := 2) rfl (j := 4) rfl (by decide)) (i := 2) rfl (j := 1) rfl (by decide))
      have h239 := Ow.gv (L := [some b141, blk (.slice A131 n132 c133), some b102, blk (.slice A22 n23 c24), blk (.slice A57 n58 c59)]) (O := O) h238 hc236 (i := 1) rfl
      have hc240 := hc236.drop 1 rfl
      have h242 := (((h227.st (.dr _ (L := [some b141, blk (.slice A126 n127 c128), blk (.slice A131 n132 c133), some b102, blk (.slice A92 n93 c94), blk (.slice A22 n23 c24), blk (.slice A57 n58 c59)]) (O := O) (j := 4) rfl)).st (.dr _ (L := [some b141, blk (.slice A126 n127 c128), blk (.slice A131 n132 c133), some b102, blk (.slice A22 n23 c24), blk (.slice A57 n58 c59)]) (O := O) (j := 1) rfl)).st (.dr _ (L := [some b141, blk (.slice A131 n132 c133), some b102, blk (.slice A22 n23 c24), blk (.slice A57 n58 c59)]) (O := O) (j := 1) rfl))
      have h243 := ((h231.st (.dr _ (L := [some b141, blk (.slice A126 n127 c128), blk (.slice A131 n132 c133), some b102, blk (.slice A22 n23 c24), blk (.slice A57 n58 c59)]) (O := O) (j := 1) rfl)).st (.dr _ (L := [some b141, blk (.slice A131 n132 c133), some b102, blk (.slice A22 n23 c24), blk (.slice A57 n58 c59)]) (O := O) (j := 1) rfl))
      have h244 := (h235.st (.dr _ (L := [some b141, blk (.slice A131 n132 c133), some b102, blk (.slice A22 n23 c24), blk (.slice A57 n58 c59)]) (O := O) (j := 1) rfl))
      refine L_call go79 [.agg #[vs r2.Id, vi r2.Shape.Kind, .slice A87 n88 c89, .slice A92 n93 c94], .agg #[vs r4.Id, vi r4.Shape.Kind, .slice A126 n127 c128, .slice A131 n132 c133]] rfl ((spec_FeatSame.calls w148 hc240.ok r2 A87 n88 c89 A92 n93 c94 hs86 h242 h243 r4 A126 n127 c128 A131 n132 c133 hs125 h244 h239 _ H).mono ?_)
      rintro _ w245 ⟨r6, rfl, H, g246⟩
      have hc250 := hc151.k0 g246
      refine L_run (dj := 43) rfl rfl (by exact congrArg Value.bool hq152) ?_
      refine L_pu (P_not r6 rfl) ?_
      refine L_pu (P_pick false (vb (!r6)) (by exact congrArg Value.bool hq152) rfl) ?_
      refine L_nil ?_
      refine W_cond (!r6) rfl (fun hq251 => ?_) (fun hq251 => ?_)
      · have H := ite_t H hq251
        refine W_mixr 13 [blk (.slice A57 n58 c59)] (by kernel_rfl) rfl fun w252 g253 hM254 => ?_
        have hc255 := hc250.k0 g253
        refine M_pu 0 rfl (by kernel_rfl) hM254 (P_move (.slice A57 n58 c59) rfl) ?_
        refine M_pu 1 rfl (by kernel_rfl) hM254 (P_move (.slice A22 n23 c24) rfl) ?_
        refine M_pu 2 rfl (by kernel_rfl) hM254 (P_move (vi i2) rfl) ?_
        obtain ⟨hb256, H⟩ := H
        have h263 := (((Ow.sw (L := [some b141, blk (.slice A126 n127 c128), blk (.slice A131 n132 c133), some b102, blk (.slice A87 n88 c89), blk (.slice A92 n93 c94), blk (.slice A22 n23 c24), blk (.slice A57 n58 c59)]) (O := O) ((h120.sos g124 hk138).so _ g142 (oge hl143)) hc147 (i := 6) rfl (j := 0) rfl (by decide) g149).sn g246).sn g253)
        obtain ⟨ad257, cs258, hA259, hR260, hcl261⟩ := h263.get default (by decide) i2 hb256
        obtain ⟨rfl, hs264⟩ := Kd.str.op hR260
        refine M_pu 3 rfl (by kernel_rfl) hM254 (P_ia Try.underlying72 se72 A22 ad257 n23 c24 h263.len i2 rfl hA259 rfl hb256) ?_
        refine M_pu 4 rfl (by kernel_rfl) hM254 (P_ldr ag9 cR (ad257.add (i2.toNat * 1)) (vs (nth r i2)) rfl (hcl261 0 _ rfl) (nm_cons (by simp only [add_block]; exact (ow_ne hc255 (j := 6) (i := 7) rfl hA259 rfl (by decide))) nm_nil)) ?_
        refine M_pu 5 rfl (by kernel_rfl) hM254 (P_move (vb r3) rfl) ?_
        have h265 := ((h225.k0 g246).k0 g253)
        refine M_pu 6 rfl (by kernel_rfl) hM254 (P_ldar ag71 sz71 cR ⟨b102, 0, none⟩ [vs r2.Id, vi r2.Shape.Kind, .slice A87 n88 c89, .slice A92 n93 c94] rfl rfl (h265.cells (off := 0) rfl) (nm_cons (bx_ne hc255 (j := 3) (i := 7) rfl rfl (by decide)) nm_nil)) ?_
        refine M_pu 7 rfl (by kernel_rfl) hM254 (P_move (vb r5) rfl) ?_
        have h266 := ((hx150.k0 g246).k0 g253)
        refine M_pu 8 rfl (by kernel_rfl) hM254 (P_ldar ag71 sz71 cR ⟨b141, 0, none⟩ [vs r4.Id, vi r4.Shape.Kind, .slice A126 n127 c128, .slice A131 n132 c133] rfl rfl (h266.cells (off := 0) rfl) (nm_cons (bx_ne hc255 (j := 0) (i := 7) rfl rfl (by decide)) nm_nil)) ?_
        refine M_pu 9 rfl (by kernel_rfl) hM254 (P_build (.agg #[vs (nth r i2), vb r3, vs r2.Id, vi r2.Shape.Kind, .slice A87 n88 c89, .slice A92 n93 c94, vb r5, vs r4.Id, vi r4.Shape.Kind, .slice A126 n127 c128, .slice A131 n132 c133]) (fun _ => by kernel_rfl)) ?_
        refine M_any1 10 (by kernel_rfl) rfl ?_
        have h267 := (((Ow.sw (L := [some b141, blk (.slice A126 n127 c128), blk (.slice A131 n132 c133), some b102, blk (.slice A87 n88 c89), blk (.slice A92 n93 c94), blk (.slice A22 n23 c24), blk (.slice A57 n58 c59)]) (O := O) (((Ow.sw (L := [some b102, blk (.slice A87 n88 c89), blk (.slice A92 n93 c94), blk (.slice A22 n23 c24), blk (.slice A57 n58 c59)]) (O := O) (h90.so _ g103 (oge hl104)) hc108 (i := 1) rfl (j := 0) rfl (by decide) g110).sos g124 hk138).so _ g142 (oge hl143)) hc147 (i := 4) rfl (j := 0) rfl (by decide) g149).sn g246).sn g253)
        have h268 := Ow.gv (L := [some b141, blk (.slice A126 n127 c128), blk (.slice A131 n132 c133), some b102, blk (.slice A87 n88 c89), blk (.slice A92 n93 c94), blk (.slice A22 n23 c24), blk (.slice A57 n58 c59)]) (O := O) h267 hc255 (i := 4) rfl
        have hc269 := hc255.drop 4 rfl
        have h272 := (Ow.sd (L := [some b141, blk (.slice A126 n127 c128), blk (.slice A131 n132 c133), some b102, blk (.slice A87 n88 c89), blk (.slice A92 n93 c94), blk (.slice A22 n23 c24), blk (.slice A57 n58 c59)]) (O := O) (((Ow.sw (L := [some b141, blk (.slice A126 n127 c128), blk (.slice A131 n132 c133), some b102, blk (.slice A87 n88 c89), blk (.slice A92 n93 c94), blk (.slice A22 n23 c24), blk (.slice A57 n58 c59)]) (O := O) (((Ow.sw (L := [some b102, blk (.slice A87 n88 c89), blk (.slice A92 n93 c94), blk (.slice A22 n23 c24), blk (.slice A57 n58 c59)]) (O := O) (h95.so _ g103 (oge hl104)) hc108 (i := 2) rfl (j := 0) rfl (by decide) g110).sos g124 hk138).so _ g142 (oge hl143)) hc147 (i := 5) rfl (j := 0) rfl (by decide) g149).sn g246).sn g253) (i := 5) rfl (j := 4) rfl (by decide))
        have h273 := Ow.gv (L := [some b141, blk (.slice A126 n127 c128), blk (.slice A131 n132 c133), some b102, blk (.slice A92 n93 c94), blk (.slice A22 n23 c24), blk (.slice A57 n58 c59)]) (O := O) h272 hc269 (i := 4) rfl
        have hc274 := hc269.drop 4 rfl
        have h277 := (Ow.sd (L := [some b141, blk (.slice A126 n127 c128), blk (.slice A131 n132 c133), some b102, blk (.slice A92 n93 c94), blk (.slice A22 n23 c24), blk (.slice A57 n58 c59)]) (O := O) (Ow.sd (L := [some b141, blk (.slice A126 n127 c128), blk (.slice A131 n132 c133), some b102, blk (.slice A87 n88 c89), blk (.slice A92 n93 c94), blk (.slice A22 n23 c24), blk (.slice A57 n58 c59)]) (O := O) (((Ow.sw (L := [some b141, blk (.slice A126 n127 c128), blk (.slice A131 n132 c133), some b102, blk (.slice A87 n88 c89), blk (.slice A92 n93 c94), blk (.slice A22 n23 c24), blk (.slice A57 n58 c59)]) (O := O) (h129.so _ g142 (oge hl143)) hc147 (i := 1) rfl (j := 0) rfl (by decide) g149).sn g246).sn g253) (i := 1) rfl (j := 4) rfl (by decide)) (i := 1) rfl (j := 4) rfl (by decide))
        have h278 := Ow.gv (L := [some b141, blk (.slice A126 n127 c128), blk (.slice A131 n132 c133), some b102, blk (.slice A22 n23 c24), blk (.slice A57 n58 c59)]) (O := O) h277 hc274 (i := 1) rfl
        have hc279 := hc274.drop 1 rfl
        have h282 := (Ow.sd (L := [some b141, blk (.slice A126 n127 c128), blk (.slice A131 n132 c133), some b102, blk (.slice A22 n23 c24), blk (.slice A57 n58 c59)]) (O := O) (Ow.sd (L := [some b141, blk (.slice A126 n127 c128), blk (.slice A131 n132 c133), some b102, blk (.slice A92 n93 c94), blk (.slice A22 n23 c24), blk (.slice A57 n58 c59)]) (O := O) (Ow.sd (L := [some b141, blk (.slice A126 n127 c128), blk (.slice A131 n132 c133), some b102, blk (.slice A87 n88 c89), blk (.slice A92 n93 c94), blk (.slice A22 n23 c24), blk (.slice A57 n58 c59)]) (O := O) (((Ow.sw (L := [some b141, blk (.slice A126 n127 c128), blk (.slice A131 n132 c133), some b102, blk (.slice A87 n88 c89), blk (.slice A92 n93 c94), blk (.slice A22 n23 c24), blk (.slice A57 n58 c59)]) (O := O) (h134.so _ g142 (oge hl143)) hc147 (i := 2) rfl (j := 0) rfl (by decide) g149).sn g246).sn g253) (i := 2) rfl (j := 4) rfl (by decide)) (i := 2) rfl (j := 4) rfl (by decide)) (i := 2) rfl (j := 1) rfl (by decide))
        have h283 := Ow.gv (L := [some b141, blk (.slice A131 n132 c133), some b102, blk (.slice A22 n23 c24), blk (.slice A57 n58 c59)]) (O := O) h282 hc279 (i := 1) rfl
        have hc284 := hc279.drop 1 rfl
        have h295 := (((h268.st (.dr _ (L := [some b141, blk (.slice A126 n127 c128), blk (.slice A131 n132 c133), some b102, blk (.slice A92 n93 c94), blk (.slice A22 n23 c24), blk (.slice A57 n58 c59)]) (O := O) (j := 4) rfl)).st (.dr _ (L := [some b141, blk (.slice A126 n127 c128), blk (.slice A131 n132 c133), some b102, blk (.slice A22 n23 c24), blk (.slice A57 n58 c59)]) (O := O) (j := 1) rfl)).st (.dr _ (L := [some b141, blk (.slice A131 n132 c133), some b102, blk (.slice A22 n23 c24), blk (.slice A57 n58 c59)]) (O := O) (j := 1) rfl))
        have h296 := ((h273.st (.dr _ (L := [some b141, blk (.slice A126 n127 c128), blk (.slice A131 n132 c133), some b102, blk (.slice A22 n23 c24), blk (.slice A57 n58 c59)]) (O := O) (j := 1) rfl)).st (.dr _ (L := [some b141, blk (.slice A131 n132 c133), some b102, blk (.slice A22 n23 c24), blk (.slice A57 n58 c59)]) (O := O) (j := 1) rfl))
        have h297 := (h278.st (.dr _ (L := [some b141, blk (.slice A131 n132 c133), some b102, blk (.slice A22 n23 c24), blk (.slice A57 n58 c59)]) (O := O) (j := 1) rfl))
        refine L_lit (kd := kChange) ei43 hc284 ([(⟨(nth r i2), r3, r2, r5, r4⟩ : Change)] : List Change) (cells := [vs (nth r i2), vb r3, vs r2.Id, vi r2.Shape.Kind, .slice A87 n88 c89, .slice A92 n93 c94, vb r5, vs r4.Id, vi r4.Shape.Kind, .slice A126 n127 c128, .slice A131 n132 c133]) ⟨[vs (nth r i2), vb r3, vs r2.Id, vi r2.Shape.Kind, .slice A87 n88 c89, .slice A92 n93 c94, vb r5, vs r4.Id, vi r4.Shape.Kind, .slice A126 n127 c128, .slice A131 n132 c133], _, rfl, (kChange.mk _ _ (⟨(nth r i2), r3, r2, r5, r4⟩ : Change) hs264 hs86 h295 h296 hs125 h297 h283), rfl⟩ (fun _ => by kernel_rfl) fun w287 A288 n289 c290 g291 hr292 hc293 h294 => ?_
        have hM299 := Gm.tm hM254 g291
        refine L_nil ⟨hM299, ?_⟩
        refine M_any1 11 (by kernel_rfl) rfl ?_
        obtain ⟨hb300, H⟩ := H
        have h301 := ((Ow.sd (L := [some b141, blk (.slice A131 n132 c133), some b102, blk (.slice A22 n23 c24), blk (.slice A57 n58 c59)]) (O := O) (Ow.sd (L := [some b141, blk (.slice A126 n127 c128), blk (.slice A131 n132 c133), some b102, blk (.slice A22 n23 c24), blk (.slice A57 n58 c59)]) (O := O) (Ow.sd (L := [some b141, blk (.slice A126 n127 c128), blk (.slice A131 n132 c133), some b102, blk (.slice A92 n93 c94), blk (.slice A22 n23 c24), blk (.slice A57 n58 c59)]) (O := O) (Ow.sd (L := [some b141, blk (.slice A126 n127 c128), blk (.slice A131 n132 c133), some b102, blk (.slice A87 n88 c89), blk (.slice A92 n93 c94), blk (.slice A22 n23 c24), blk (.slice A57 n58 c59)]) (O := O) (((Ow.sw (L := [some b141, blk (.slice A126 n127 c128), blk (.slice A131 n132 c133), some b102, blk (.slice A87 n88 c89), blk (.slice A92 n93 c94), blk (.slice A22 n23 c24), blk (.slice A57 n58 c59)]) (O := O) (((Ow.sw (L := [some b102, blk (.slice A87 n88 c89), blk (.slice A92 n93 c94), blk (.slice A22 n23 c24), blk (.slice A57 n58 c59)]) (O := O) ((h65.sos g85 hk99).so _ g103 (oge hl104)) hc108 (i := 4) rfl (j := 0) rfl (by decide) g110).sos g124 hk138).so _ g142 (oge hl143)) hc147 (i := 7) rfl (j := 0) rfl (by decide) g149).sn g246).sn g253) (i := 7) rfl (j := 4) rfl (by decide)) (i := 6) rfl (j := 4) rfl (by decide)) (i := 5) rfl (j := 1) rfl (by decide)) (i := 4) rfl (j := 1) rfl (by decide)).so _ g291 hr292)
        refine L_app ei43 hc293 (.slice A57 n58 c59) xs2 ([(⟨(nth r i2), r3, r2, r5, r4⟩ : Change)] : List Change) rfl h301 (.slice A288 n289 c290) rfl h294.sx 4 rfl hb300 fun w302 A303 n304 c305 g306 s307 hc308 h309 => ?_
        have hM310 := Gm.tq hM299 g306 (hv_mem 0 rfl)
        have hv311 := hv_app (L := [blk (.slice A288 n289 c290), some b141, some b102, blk (.slice A22 n23 c24), blk (.slice A57 n58 c59)]) (O := O) (i := 4) hM299 rfl (hv_mem 0 rfl) s307 hc308
        refine L_nil ⟨hM310, ?_⟩
        refine M_pu 12 rfl (by kernel_rfl) hM310 (P_assign (.slice A303 n304 c305) rfl) ?_
        refine M_nil (by kernel_rfl) ?_
        refine W_reg ?_
        refine L_pu (P_move (vi i2) rfl) ?_
        obtain ⟨hb314, H⟩ := H
        have hi313 : I64 (i2 + 1) := i64_succ (of_decide_eq_true hq75) hl74 hb314
        refine L_pu (P_add i2 1 rfl rfl hi313) ?_
        refine L_pu (P_assign (vi (i2 + 1)) rfl) ?_
        refine L_nil ?_
        have hc315 := hc308.drop 0 rfl
        have hc316 := hc315.drop 0 rfl
        have hc317 := hc316.drop 0 rfl
        obtain ⟨hI318, hm319⟩ := H
        have h320 := (((((((((((((((((h63.st (.owns _ g85 hk99)).st (.own _ _ g103 (oge hl104))).st (.wl (L := [some b102, blk (.slice A87 n88 c89), blk (.slice A92 n93 c94), blk (.slice A22 n23 c24), blk (.slice A57 n58 c59)]) (O := O) (j := 0) rfl g110)).st (.owns _ g124 hk138)).st (.own _ _ g142 (oge hl143))).st (.wl (L := [some b141, blk (.slice A126 n127 c128), blk (.slice A131 n132 c133), some b102, blk (.slice A87 n88 c89), blk (.slice A92 n93 c94), blk (.slice A22 n23 c24), blk (.slice A57 n58 c59)]) (O := O) (j := 0) rfl g149)).st (.new _ g246)).st (.new _ g253)).st (.dr _ (L := [some b141, blk (.slice A126 n127 c128), blk (.slice A131 n132 c133), some b102, blk (.slice A87 n88 c89), blk (.slice A92 n93 c94), blk (.slice A22 n23 c24), blk (.slice A57 n58 c59)]) (O := O) (j := 4) rfl)).st (.dr _ (L := [some b141, blk (.slice A126 n127 c128), blk (.slice A131 n132 c133), some b102, blk (.slice A92 n93 c94), blk (.slice A22 n23 c24), blk (.slice A57 n58 c59)]) (O := O) (j := 4) rfl)).st (.dr _ (L := [some b141, blk (.slice A126 n127 c128), blk (.slice A131 n132 c133), some b102, blk (.slice A22 n23 c24), blk (.slice A57 n58 c59)]) (O := O) (j := 1) rfl)).st (.dr _ (L := [some b141, blk (.slice A131 n132 c133), some b102, blk (.slice A22 n23 c24), blk (.slice A57 n58 c59)]) (O := O) (j := 1) rfl)).st (.own _ _ g291 hr292)).st s307).st (.dr _ (L := [blk (.slice A288 n289 c290), some b141, some b102, blk (.slice A22 n23 c24), blk (.slice A303 n304 c305)]) (O := O) (j := 0) rfl)).st (.dr _ (L := [some b141, some b102, blk (.slice A22 n23 c24), blk (.slice A303 n304 c305)]) (O := O) (j := 0) rfl)).st (.dr _ (L := [some b102, blk (.slice A22 n23 c24), blk (.slice A303 n304 c305)]) (O := O) (j := 0) rfl))
        have h321 := ((((((((((((((h122.st (.owns _ g124 hk138)).st (.own _ _ g142 (oge hl143))).st (.wl (L := [some b141, blk (.slice A126 n127 c128), blk (.slice A131 n132 c133), some b102, blk (.slice A87 n88 c89), blk (.slice A92 n93 c94), blk (.slice A22 n23 c24), blk (.slice A57 n58 c59)]) (O := O) (j := 0) rfl g149)).st (.new _ g246)).st (.new _ g253)).st (.dr _ (L := [some b141, blk (.slice A126 n127 c128), blk (.slice A131 n132 c133), some b102, blk (.slice A87 n88 c89), blk (.slice A92 n93 c94), blk (.slice A22 n23 c24), blk (.slice A57 n58 c59)]) (O := O) (j := 4) rfl)).st (.dr _ (L := [some b141, blk (.slice A126 n127 c128), blk (.slice A131 n132 c133), some b102, blk (.slice A92 n93 c94), blk (.slice A22 n23 c24), blk (.slice A57 n58 c59)]) (O := O) (j := 4) rfl)).st (.dr _ (L := [some b141, blk (.slice A126 n127 c128), blk (.slice A131 n132 c133), some b102, blk (.slice A22 n23 c24), blk (.slice A57 n58 c59)]) (O := O) (j := 1) rfl)).st (.dr _ (L := [some b141, blk (.slice A131 n132 c133), some b102, blk (.slice A22 n23 c24), blk (.slice A57 n58 c59)]) (O := O) (j := 1) rfl)).st (.own _ _ g291 hr292)).st s307).st (.dr _ (L := [blk (.slice A288 n289 c290), some b141, some b102, blk (.slice A22 n23 c24), blk (.slice A303 n304 c305)]) (O := O) (j := 0) rfl)).st (.dr _ (L := [some b141, some b102, blk (.slice A22 n23 c24), blk (.slice A303 n304 c305)]) (O := O) (j := 0) rfl)).st (.dr _ (L := [some b102, blk (.slice A22 n23 c24), blk (.slice A303 n304 c305)]) (O := O) (j := 0) rfl))
        have h322 := (Ow.sd (L := [some b102, blk (.slice A22 n23 c24), blk (.slice A303 n304 c305)]) (O := O) (Ow.sd (L := [some b141, some b102, blk (.slice A22 n23 c24), blk (.slice A303 n304 c305)]) (O := O) (Ow.sd (L := [blk (.slice A288 n289 c290), some b141, some b102, blk (.slice A22 n23 c24), blk (.slice A303 n304 c305)]) (O := O) h309 (i := 4) rfl (j := 0) rfl (by decide)) (i := 3) rfl (j := 0) rfl (by decide)) (i := 2) rfl (j := 0) rfl (by decide))
        have h323 := (Ow.sd (L := [some b102, blk (.slice A22 n23 c24), blk (.slice A303 n304 c305)]) (O := O) (Ow.sd (L := [some b141, some b102, blk (.slice A22 n23 c24), blk (.slice A303 n304 c305)]) (O := O) (Ow.sd (L := [blk (.slice A288 n289 c290), some b141, some b102, blk (.slice A22 n23 c24), blk (.slice A303 n304 c305)]) (O := O) (Ow.sm (L := [blk (.slice A288 n289 c290), some b141, some b102, blk (.slice A22 n23 c24), blk (.slice A57 n58 c59)]) (O := O) ((Ow.sd (L := [some b141, blk (.slice A131 n132 c133), some b102, blk (.slice A22 n23 c24), blk (.slice A57 n58 c59)]) (O := O) (Ow.sd (L := [some b141, blk (.slice A126 n127 c128), blk (.slice A131 n132 c133), some b102, blk (.slice A22 n23 c24), blk (.slice A57 n58 c59)]) (O := O) (Ow.sd (L := [some b141, blk (.slice A126 n127 c128), blk (.slice A131 n132 c133), some b102, blk (.slice A92 n93 c94), blk (.slice A22 n23 c24), blk (.slice A57 n58 c59)]) (O := O) (Ow.sd (L := [some b141, blk (.slice A126 n127 c128), blk (.slice A131 n132 c133), some b102, blk (.slice A87 n88 c89), blk (.slice A92 n93 c94), blk (.slice A22 n23 c24), blk (.slice A57 n58 c59)]) (O := O) h263 (i := 6) rfl (j := 4) rfl (by decide)) (i := 5) rfl (j := 4) rfl (by decide)) (i := 4) rfl (j := 1) rfl (by decide)) (i := 3) rfl (j := 1) rfl (by decide)).so _ g291 hr292) hc293 (i := 3) rfl (j := 4) rfl (by decide) g306 s307) (i := 3) rfl (j := 0) rfl (by decide)) (i := 2) rfl (j := 0) rfl (by decide)) (i := 1) rfl (j := 0) rfl (by decide))
        exact ⟨((xs2 ++ ([(⟨(nth r i2), r3, r2, r5, r4⟩ : Change)] : List Change)), A303, n304, c305, i2 + 1), hm319, hI318, ⟨rfl, rfl, rfl, rfl, rfl, trivial⟩, hc317, h320, h321, h322, h323⟩
      · have H := ite_f H hq251
        refine W_skip ?_
        refine W_reg ?_
        refine L_pu (P_move (vi i2) rfl) ?_
        obtain ⟨hb325, H⟩ := H
        have hi324 : I64 (i2 + 1) := i64_succ (of_decide_eq_true hq75) hl74 hb325
        refine L_pu (P_add i2 1 rfl rfl hi324) ?_
        refine L_pu (P_assign (vi (i2 + 1)) rfl) ?_
        refine L_nil ?_
        have hc326 := hc250.drop 0 rfl
        have hc327 := hc326.drop 0 rfl
        have hc328 := hc327.drop 0 rfl
        have hc329 := hc328.drop 0 rfl
        have hc330 := hc329.drop 0 rfl
        have hc331 := hc330.drop 0 rfl
        obtain ⟨hI332, hm333⟩ := H
        have h334 := (((((((((((((h63.st (.owns _ g85 hk99)).st (.own _ _ g103 (oge hl104))).st (.wl (L := [some b102, blk (.slice A87 n88 c89), blk (.slice A92 n93 c94), blk (.slice A22 n23 c24), blk (.slice A57 n58 c59)]) (O := O) (j := 0) rfl g110)).st (.owns _ g124 hk138)).st (.own _ _ g142 (oge hl143))).st (.wl (L := [some b141, blk (.slice A126 n127 c128), blk (.slice A131 n132 c133), some b102, blk (.slice A87 n88 c89), blk (.slice A92 n93 c94), blk (.slice A22 n23 c24), blk (.slice A57 n58 c59)]) (O := O) (j := 0) rfl g149)).st (.new _ g246)).st (.dr _ (L := [some b141, blk (.slice A126 n127 c128), blk (.slice A131 n132 c133), some b102, blk (.slice A87 n88 c89), blk (.slice A92 n93 c94), blk (.slice A22 n23 c24), blk (.slice A57 n58 c59)]) (O := O) (j := 0) rfl)).st (.dr _ (L := [blk (.slice A126 n127 c128), blk (.slice A131 n132 c133), some b102, blk (.slice A87 n88 c89), blk (.slice A92 n93 c94), blk (.slice A22 n23 c24), blk (.slice A57 n58 c59)]) (O := O) (j := 0) rfl)).st (.dr _ (L := [blk (.slice A131 n132 c133), some b102, blk (.slice A87 n88 c89), blk (.slice A92 n93 c94), blk (.slice A22 n23 c24), blk (.slice A57 n58 c59)]) (O := O) (j := 0) rfl)).st (.dr _ (L := [some b102, blk (.slice A87 n88 c89), blk (.slice A92 n93 c94), blk (.slice A22 n23 c24), blk (.slice A57 n58 c59)]) (O := O) (j := 0) rfl)).st (.dr _ (L := [blk (.slice A87 n88 c89), blk (.slice A92 n93 c94), blk (.slice A22 n23 c24), blk (.slice A57 n58 c59)]) (O := O) (j := 0) rfl)).st (.dr _ (L := [blk (.slice A92 n93 c94), blk (.slice A22 n23 c24), blk (.slice A57 n58 c59)]) (O := O) (j := 0) rfl))
        have h335 := ((((((((((h122.st (.owns _ g124 hk138)).st (.own _ _ g142 (oge hl143))).st (.wl (L := [some b141, blk (.slice A126 n127 c128), blk (.slice A131 n132 c133), some b102, blk (.slice A87 n88 c89), blk (.slice A92 n93 c94), blk (.slice A22 n23 c24), blk (.slice A57 n58 c59)]) (O := O) (j := 0) rfl g149)).st (.new _ g246)).st (.dr _ (L := [some b141, blk (.slice A126 n127 c128), blk (.slice A131 n132 c133), some b102, blk (.slice A87 n88 c89), blk (.slice A92 n93 c94), blk (.slice A22 n23 c24), blk (.slice A57 n58 c59)]) (O := O) (j := 0) rfl)).st (.dr _ (L := [blk (.slice A126 n127 c128), blk (.slice A131 n132 c133), some b102, blk (.slice A87 n88 c89), blk (.slice A92 n93 c94), blk (.slice A22 n23 c24), blk (.slice A57 n58 c59)]) (O := O) (j := 0) rfl)).st (.dr _ (L := [blk (.slice A131 n132 c133), some b102, blk (.slice A87 n88 c89), blk (.slice A92 n93 c94), blk (.slice A22 n23 c24), blk (.slice A57 n58 c59)]) (O := O) (j := 0) rfl)).st (.dr _ (L := [some b102, blk (.slice A87 n88 c89), blk (.slice A92 n93 c94), blk (.slice A22 n23 c24), blk (.slice A57 n58 c59)]) (O := O) (j := 0) rfl)).st (.dr _ (L := [blk (.slice A87 n88 c89), blk (.slice A92 n93 c94), blk (.slice A22 n23 c24), blk (.slice A57 n58 c59)]) (O := O) (j := 0) rfl)).st (.dr _ (L := [blk (.slice A92 n93 c94), blk (.slice A22 n23 c24), blk (.slice A57 n58 c59)]) (O := O) (j := 0) rfl))
        have h336 := (Ow.sd (L := [blk (.slice A92 n93 c94), blk (.slice A22 n23 c24), blk (.slice A57 n58 c59)]) (O := O) (Ow.sd (L := [blk (.slice A87 n88 c89), blk (.slice A92 n93 c94), blk (.slice A22 n23 c24), blk (.slice A57 n58 c59)]) (O := O) (Ow.sd (L := [some b102, blk (.slice A87 n88 c89), blk (.slice A92 n93 c94), blk (.slice A22 n23 c24), blk (.slice A57 n58 c59)]) (O := O) (Ow.sd (L := [blk (.slice A131 n132 c133), some b102, blk (.slice A87 n88 c89), blk (.slice A92 n93 c94), blk (.slice A22 n23 c24), blk (.slice A57 n58 c59)]) (O := O) (Ow.sd (L := [blk (.slice A126 n127 c128), blk (.slice A131 n132 c133), some b102, blk (.slice A87 n88 c89), blk (.slice A92 n93 c94), blk (.slice A22 n23 c24), blk (.slice A57 n58 c59)]) (O := O) (Ow.sd (L := [some b141, blk (.slice A126 n127 c128), blk (.slice A131 n132 c133), some b102, blk (.slice A87 n88 c89), blk (.slice A92 n93 c94), blk (.slice A22 n23 c24), blk (.slice A57 n58 c59)]) (O := O) ((Ow.sw (L := [some b141, blk (.slice A126 n127 c128), blk (.slice A131 n132 c133), some b102, blk (.slice A87 n88 c89), blk (.slice A92 n93 c94), blk (.slice A22 n23 c24), blk (.slice A57 n58 c59)]) (O := O) (((Ow.sw (L := [some b102, blk (.slice A87 n88 c89), blk (.slice A92 n93 c94), blk (.slice A22 n23 c24), blk (.slice A57 n58 c59)]) (O := O) ((h65.sos g85 hk99).so _ g103 (oge hl104)) hc108 (i := 4) rfl (j := 0) rfl (by decide) g110).sos g124 hk138).so _ g142 (oge hl143)) hc147 (i := 7) rfl (j := 0) rfl (by decide) g149).sn g246) (i := 7) rfl (j := 0) rfl (by decide)) (i := 6) rfl (j := 0) rfl (by decide)) (i := 5) rfl (j := 0) rfl (by decide)) (i := 4) rfl (j := 0) rfl (by decide)) (i := 3) rfl (j := 0) rfl (by decide)) (i := 2) rfl (j := 0) rfl (by decide))
        have h337 := (Ow.sd (L := [blk (.slice A92 n93 c94), blk (.slice A22 n23 c24), blk (.slice A57 n58 c59)]) (O := O) (Ow.sd (L := [blk (.slice A87 n88 c89), blk (.slice A92 n93 c94), blk (.slice A22 n23 c24), blk (.slice A57 n58 c59)]) (O := O) (Ow.sd (L := [some b102, blk (.slice A87 n88 c89), blk (.slice A92 n93 c94), blk (.slice A22 n23 c24), blk (.slice A57 n58 c59)]) (O := O) (Ow.sd (L := [blk (.slice A131 n132 c133), some b102, blk (.slice A87 n88 c89), blk (.slice A92 n93 c94), blk (.slice A22 n23 c24), blk (.slice A57 n58 c59)]) (O := O) (Ow.sd (L := [blk (.slice A126 n127 c128), blk (.slice A131 n132 c133), some b102, blk (.slice A87 n88 c89), blk (.slice A92 n93 c94), blk (.slice A22 n23 c24), blk (.slice A57 n58 c59)]) (O := O) (Ow.sd (L := [some b141, blk (.slice A126 n127 c128), blk (.slice A131 n132 c133), some b102, blk (.slice A87 n88 c89), blk (.slice A92 n93 c94), blk (.slice A22 n23 c24), blk (.slice A57 n58 c59)]) (O := O) ((Ow.sw (L := [some b141, blk (.slice A126 n127 c128), blk (.slice A131 n132 c133), some b102, blk (.slice A87 n88 c89), blk (.slice A92 n93 c94), blk (.slice A22 n23 c24), blk (.slice A57 n58 c59)]) (O := O) ((h120.sos g124 hk138).so _ g142 (oge hl143)) hc147 (i := 6) rfl (j := 0) rfl (by decide) g149).sn g246) (i := 6) rfl (j := 0) rfl (by decide)) (i := 5) rfl (j := 0) rfl (by decide)) (i := 4) rfl (j := 0) rfl (by decide)) (i := 3) rfl (j := 0) rfl (by decide)) (i := 2) rfl (j := 0) rfl (by decide)) (i := 1) rfl (j := 0) rfl (by decide))
        exact ⟨(xs2, A57, n58, c59, i2 + 1), hm333, hI332, ⟨rfl, rfl, rfl, rfl, rfl, trivial⟩, hc331, h334, h335, h336, h337⟩
  · have H := ite_f H hq75
    refine W_exit (xin_hit ?_)
    refine W_seq ?_
    refine W_reg ?_
    refine L_pu (P_move (.slice A57 n58 c59) rfl) ?_
    refine L_pu (P_assign (.slice A57 n58 c59) rfl) ?_
    refine L_nil ?_
    refine W_ret ?_
    have hc338 := hc62.drop 0 rfl
    have h339 := (Ow.sd (L := [blk (.slice A22 n23 c24), blk (.slice A57 n58 c59)]) (O := O) h65 (i := 1) rfl (j := 0) rfl (by decide))
    exact ⟨[.slice A57 n58 c59], ⟨_, rfl, rfl⟩, xs2, A57, n58, c59, rfl, H, hc338.gr.g0, hc338.ok, hc338.ge, h339⟩
end Go.Proofs.Ytndjggncgpjolaa

namespace Go.Proofs.Ytndjggncgpjolaa
set_option linter.unusedVariables false
set_option linter.unusedSimpArgs false
set_option linter.unusedSectionVars false
theorem sameC_t {c : Change} (h1 : c.Had = c.Has) (h2 : c.Was = c.Now) : sameC c = true := by unfold sameC; rw [decide_eq_true h1, decide_eq_true h2]; rfl
theorem sameC_f1 {c : Change} (h : ¬ c.Was = c.Now) : sameC c = false := by unfold sameC; rw [decide_eq_false h, Bool.and_false]
theorem sameC_f2 {c : Change} (h : ¬ c.Had = c.Has) : sameC c = false := by unfold sameC; rw [decide_eq_false h, Bool.false_and]
theorem spec_l4Of.law (a b : List Feat) (Q : List Change → Prop) (ba : bulk a ≤ 1048576) (bb : bulk b ≤ 1048576) (ha : a.length ≤ 1000) (hb : b.length ≤ 1000) (hs : SS (ids a)) (hq : Q (diffL a b (uniq (ids a ++ ids b)))) : spec_l4Of.E a b Q := by
  unfold spec_l4Of.E
  refine spec_l4Ids.law _ _ _ ha hb hs ?_
  have l2 := uniq_len (ids a ++ ids b)
  have l3 : (ids a ++ ids b).length = a.length + b.length := by unfold ids; simp
  refine ⟨fun xs i => ∃ u : Nat, i = u ∧ u ≤ (uniq (ids a ++ ids b)).length ∧ xs = diffL a b ((uniq (ids a ++ ids b)).take u), fun _ i => ((uniq (ids a ++ ids b)).length - i).toNat, ⟨0, rfl, Nat.zero_le _, rfl⟩, ?_⟩
  rintro _ _ ⟨u, rfl, hu, rfl⟩
  by_cases h : u < (uniq (ids a ++ ids b)).length
  · rw [if_pos (by simpa using h)]
    have hd := diffL_len a b ((uniq (ids a ++ ids b)).take u)
    rw [List.length_take] at hd
    have en := diffL_snoc a b ((uniq (ids a ++ ids b)).take u) (nth (uniq (ids a ++ ids b)) (u : Int))
    rw [← take_nth _ h] at en
    have add : sameC (diffC a b (nth (uniq (ids a ++ ids b)) (u : Int))) = false → diffL a b ((uniq (ids a ++ ids b)).take u) ++ [diffC a b (nth (uniq (ids a ++ ids b)) (u : Int))] = diffL a b ((uniq (ids a ++ ids b)).take (u + 1)) := fun k => by rw [k] at en; exact en.symm
    have old : sameC (diffC a b (nth (uniq (ids a ++ ids b)) (u : Int))) = true → diffL a b ((uniq (ids a ++ ids b)).take u) = diffL a b ((uniq (ids a ++ ids b)).take (u + 1)) := fun k => by rw [k] at en; rw [en]; simp
    refine ⟨by omega, spec_l4Side.law _ _ _ ba ⟨by omega, spec_l4Side.law _ _ _ bb ?_⟩⟩
    by_cases k1 : (sideOf a (nth (uniq (ids a ++ ids b)) (u : Int))).2 = (sideOf b (nth (uniq (ids a ++ ids b)) (u : Int))).2
    · rw [if_neg (by rw [k1]; simp)]
      refine spec_FeatSame.law _ _ _ ?_
      by_cases k2 : (sideOf a (nth (uniq (ids a ++ ids b)) (u : Int))).1 = (sideOf b (nth (uniq (ids a ++ ids b)) (u : Int))).1
      · rw [decide_eq_true k2, if_neg (by decide)]
        exact ⟨by omega, ⟨u + 1, by omega, by omega, old (sameC_t k1 k2)⟩, by dsimp only; omega⟩
      · rw [decide_eq_false k2, if_pos (by decide)]
        exact ⟨by omega, by simp only [List.length_cons, List.length_nil]; omega, by omega, ⟨u + 1, by omega, by omega, add (sameC_f1 k2)⟩, by dsimp only; omega⟩
    · rw [if_pos (by rw [bne_iff_ne]; exact k1)]
      exact ⟨by omega, by simp only [List.length_cons, List.length_nil]; omega, by omega, ⟨u + 1, by omega, by omega, add (sameC_f2 k1)⟩, by dsimp only; omega⟩
  · rw [if_neg (by simpa using h)]
    have : u = (uniq (ids a ++ ids b)).length := by omega
    subst this
    rw [List.take_length]; exact hq
end Go.Proofs.Ytndjggncgpjolaa

namespace Go.Proofs.Ytndjggncgpjolaa
open Go.RowKit
set_option linter.unusedVariables false
def spec_DiffOf.E (a : List Feat) (b : List Feat) (Q : List Change → Prop) : Prop :=
  spec_SheetOk.E a (fun r => (if !r then Q ([] : List Change) else spec_SheetOk.E b (fun r2 => (if !r2 then Q ([] : List Change) else spec_l4Of.E a b (fun r3 => Q r3)))))
set_option maxHeartbeats 8000000 in
set_option maxRecDepth 100000 in
theorem spec_DiffOf.calls {O : Ob} (w0 : World) (hO : Ok w0 O) (a : List Feat) (A1 : Option Addr) (n2 c3 : Nat) (hp4 : Sl kFeat w0 (Fr O) (.slice A1 n2 c3) a) (b : List Feat) (A6 : Option Addr) (n7 c8 : Nat) (hp9 : Sl kFeat w0 (Fr O) (.slice A6 n7 c8) b) (Q : List Change → Prop) (h : spec_DiffOf.E a b Q) :
    Ret Try.prog 26 [.slice A1 n2 c3, .slice A6 n7 c8] w0 (fun v w' => ∃ (r0 : List Change) (A0 : Option Addr) (n0 c0 : Nat), v = .slice A0 n0 c0 ∧ Q r0 ∧ Gr w0 w' none ∧ Ok w' ([blk (.slice A0 n0 c0)] ++ O) ∧ (∀ b, some b ∈ [blk (.slice A0 n0 c0)] → w0.heap.size ≤ b) ∧ Ow kChange 103 w' ([blk (.slice A0 n0 c0)] ++ O) (.slice A0 n0 c0) r0) := by
  have H : spec_SheetOk.E a (fun r => (if !r then Q ([] : List Change) else spec_SheetOk.E b (fun r2 => (if !r2 then Q ([] : List Change) else spec_l4Of.E a b (fun r3 => Q r3))))) := h
  clear h
  have hc0 := Ct.init hO
  refine Ret_enter Try.func26 rfl 17 rfl [.tmp 4] rfl rfl ?_
  refine W_seq ?_
  refine W_reg ?_
  refine L_pu (P_assign (.slice none 0 0) rfl) ?_
  refine L_nil ?_
  refine W_seq ?_
  refine W_seq ?_
  refine W_reg ?_
  refine L_pu (P_move (.slice A1 n2 c3) rfl) ?_
  refine L_call go72 [.slice A1 n2 c3] rfl ((spec_SheetOk.calls w0 hc0.ok a A1 n2 c3 hp4 _ H).mono ?_)
  rintro _ w11 ⟨r, rfl, H, g12⟩
  have hc16 := hc0.k0 g12
  refine L_pu (P_not r rfl) ?_
  refine L_pu (P_move (vb (!r)) rfl) ?_
  rcases bool_or (!r) with hq17 | hq17
  · have H := ite_t H hq17
    refine L_pass (dj := 8) rfl rfl (.inl (by exact congrArg Value.bool hq17)) ?_
    refine L_pass (dj := 8) rfl rfl (.inl (by exact congrArg Value.bool hq17)) ?_
    refine L_pass (dj := 8) rfl rfl (.inl (by exact congrArg Value.bool hq17)) ?_
    refine L_pu (P_pick true (vb true) (by exact congrArg Value.bool hq17) rfl) ?_
    refine L_nil ?_
    refine W_ct (b := true) rfl rfl ?_
    refine W_seq ?_
    refine W_reg ?_
    refine L_lit (kd := kChange) ei43 hc16 ([] : List Change) (cells := []) rfl (fun _ => by kernel_rfl) fun w18 A19 n20 c21 g22 hr23 hc24 h25 => ?_
    refine L_pu (P_assign (.slice A19 n20 c21) rfl) ?_
    refine L_nil ?_
    refine W_ret ?_
    exact ⟨[.slice A19 n20 c21], ⟨_, rfl, rfl⟩, ([] : List Change), A19, n20, c21, rfl, H, hc24.gr.g0, hc24.ok, hc24.ge, h25⟩
  · have H := ite_f H hq17
    refine L_run (dj := 8) rfl rfl (by exact congrArg Value.bool hq17) ?_
    refine L_pu (P_move (.slice A6 n7 c8) rfl) ?_
    refine L_run (dj := 8) rfl rfl (by exact congrArg Value.bool hq17) ?_
    refine L_call go72 [.slice A6 n7 c8] rfl ((spec_SheetOk.calls w11 hc16.ok b A6 n7 c8 (hp9.st hc16.st) _ H).mono ?_)
    rintro _ w27 ⟨r2, rfl, H, g28⟩
    have hc32 := hc16.k0 g28
    refine L_run (dj := 8) rfl rfl (by exact congrArg Value.bool hq17) ?_
    refine L_pu (P_not r2 rfl) ?_
    refine L_pu (P_pick false (vb (!r2)) (by exact congrArg Value.bool hq17) rfl) ?_
    refine L_nil ?_
    refine W_cond (!r2) rfl (fun hq33 => ?_) (fun hq33 => ?_)
    · have H := ite_t H hq33
      refine W_seq ?_
      refine W_reg ?_
      refine L_lit (kd := kChange) ei43 hc32 ([] : List Change) (cells := []) rfl (fun _ => by kernel_rfl) fun w34 A35 n36 c37 g38 hr39 hc40 h41 => ?_
      refine L_pu (P_assign (.slice A35 n36 c37) rfl) ?_
      refine L_nil ?_
      refine W_ret ?_
      exact ⟨[.slice A35 n36 c37], ⟨_, rfl, rfl⟩, ([] : List Change), A35, n36, c37, rfl, H, hc40.gr.g0, hc40.ok, hc40.ge, h41⟩
    · have H := ite_f H hq33
      refine W_skip ?_
      refine W_seq ?_
      refine W_reg ?_
      refine L_pu (P_move (.slice A1 n2 c3) rfl) ?_
      refine L_pu (P_move (.slice A6 n7 c8) rfl) ?_
      refine L_call go73 [.slice A1 n2 c3, .slice A6 n7 c8] rfl ((spec_l4Of.calls w27 hc32.ok a A1 n2 c3 (hp4.st hc32.st) b A6 n7 c8 (hp9.st hc32.st) _ H).mono ?_)
      rintro _ w43 ⟨r3, A45, n46, c47, rfl, H, g44, hk51, hk52, h48⟩
      have hc53 := hc32.owns g44 hk51 hk52
      refine L_pu (P_assign (.slice A45 n46 c47) rfl) ?_
      refine L_nil ?_
      refine W_ret ?_
      exact ⟨[.slice A45 n46 c47], ⟨_, rfl, rfl⟩, r3, A45, n46, c47, rfl, H, hc53.gr.g0, hc53.ok, hc53.ge, h48⟩
end Go.Proofs.Ytndjggncgpjolaa

namespace Go.Proofs.Ytndjggncgpjolaa
set_option linter.unusedVariables false
set_option linter.unusedSimpArgs false
set_option linter.unusedSectionVars false
theorem spec_DiffOf.law (a b : List Feat) (Q : List Change → Prop) (ba : bulk a ≤ 1048576) (bb : bulk b ≤ 1048576) (hq : Q (diffOf a b)) : spec_DiffOf.E a b Q := by
  unfold spec_DiffOf.E
  unfold diffOf at hq
  refine spec_SheetOk.law _ _ ?_
  cases ka : sheetOk a with
  | false => rw [if_pos (by decide)]; rw [ka, Bool.false_and, if_neg (by decide)] at hq; exact hq
  | true =>
    rw [if_neg (by decide)]
    refine spec_SheetOk.law _ _ ?_
    cases kb : sheetOk b with
    | false => rw [if_pos (by decide)]; rw [ka, kb, if_neg (by decide)] at hq; exact hq
    | true =>
      rw [if_neg (by decide)]
      rw [ka, kb, if_pos (by decide)] at hq
      have la := sheet_ss ka
      have lb := sheet_ss kb
      exact spec_l4Of.law _ _ _ ba bb (by omega) (by omega) la.1 hq
end Go.Proofs.Ytndjggncgpjolaa

namespace Go.Proofs.Ytndjggncgpjolaa
open Go.RowKit
set_option linter.unusedVariables false
def impl_within.E (n : Int) (low : Int) (high : Int) (Q : Bool → Prop) : Prop :=
  (if decide (n ≥ low) then Q (decide (n ≤ high)) else Q false)
set_option maxHeartbeats 8000000 in
set_option maxRecDepth 100000 in
theorem impl_within.calls {O : Ob} (w0 : World) (hO : Ok w0 O) (n : Int) (low : Int) (high : Int) (Q : Bool → Prop) (h : impl_within.E n low high Q) :
    Ret Try.prog 112 [vi n, vi low, vi high] w0 (fun v w' => ∃ (r0 : Bool), v = vb r0 ∧ Q r0 ∧ Gr w0 w' none ∧ w' = w0) := by
  have H : (if decide (n ≥ low) then Q (decide (n ≤ high)) else Q false) := h
  clear h
  have hc0 := Ct.init hO
  refine Ret_enter Try.func112 rfl 15 rfl [.tmp 6] rfl rfl ?_
  refine W_seq ?_
  refine W_reg ?_
  refine L_pu (P_assign (vb false) rfl) ?_
  refine L_nil ?_
  refine W_seq ?_
  refine W_reg ?_
  refine L_pu (P_move (vi n) rfl) ?_
  refine L_pu (P_move (vi low) rfl) ?_
  refine L_pu (P_cmp n low (decide (n ≥ low)) rfl rfl rfl) ?_
  refine L_pu (P_move (vb (decide (n ≥ low))) rfl) ?_
  rcases bool_or (decide (n ≥ low)) with hq1 | hq1
  · have H := ite_t H hq1
    refine L_run (dj := 10) rfl rfl (by exact congrArg Value.bool hq1) ?_
    refine L_pu (P_move (vi n) rfl) ?_
    refine L_run (dj := 10) rfl rfl (by exact congrArg Value.bool hq1) ?_
    refine L_pu (P_move (vi high) rfl) ?_
    refine L_run (dj := 10) rfl rfl (by exact congrArg Value.bool hq1) ?_
    refine L_pu (P_cmp n high (decide (n ≤ high)) rfl rfl rfl) ?_
    refine L_pu (P_pick true (vb (decide (n ≤ high))) (by exact congrArg Value.bool hq1) rfl) ?_
    refine L_pu (P_assign (vb (decide (n ≤ high))) rfl) ?_
    refine L_nil ?_
    refine W_ret ?_
    exact ⟨[vb (decide (n ≤ high))], ⟨_, rfl, rfl⟩, decide (n ≤ high), rfl, H, hc0.gr.g0, rfl⟩
  · have H := ite_f H hq1
    refine L_pass (dj := 10) rfl rfl (.inl (by exact congrArg Value.bool hq1)) ?_
    refine L_pass (dj := 10) rfl rfl (.inl (by exact congrArg Value.bool hq1)) ?_
    refine L_pass (dj := 10) rfl rfl (.inl (by exact congrArg Value.bool hq1)) ?_
    refine L_pu (P_pick false (vb false) (by exact congrArg Value.bool hq1) rfl) ?_
    refine L_pu (P_assign (vb false) rfl) ?_
    refine L_nil ?_
    refine W_ret ?_
    exact ⟨[vb false], ⟨_, rfl, rfl⟩, false, rfl, H, hc0.gr.g0, rfl⟩
def impl_within.m (n : Int) (low : Int) (high : Int) : Bool := (if decide (n ≥ low) then (decide (n ≤ high)) else false)
theorem impl_within.fn (n : Int) (low : Int) (high : Int) : impl_within.E n low high (fun r => r = impl_within.m n low high) := by
  unfold impl_within.E impl_within.m
  (repeat' split) <;> simp_all
end Go.Proofs.Ytndjggncgpjolaa

namespace Go.Proofs.Ytndjggncgpjolaa
set_option linter.unusedVariables false
set_option linter.unusedSimpArgs false
set_option linter.unusedSectionVars false
theorem impl_within.law (n lo hi : Int) (Q : Bool → Prop) (hq : Q (decide (lo ≤ n) && decide (n ≤ hi))) : impl_within.E n lo hi Q := by
  unfold impl_within.E
  by_cases h : lo ≤ n
  · rw [if_pos (by simpa using h)]; rw [decide_eq_true h, Bool.true_and] at hq; exact hq
  · rw [if_neg (by simpa using h)]; rw [decide_eq_false h, Bool.false_and] at hq; exact hq
theorem impl_within.m_is (n lo hi : Int) : impl_within.m n lo hi = (decide (lo ≤ n) && decide (n ≤ hi)) := by
  unfold impl_within.m
  by_cases h : lo ≤ n
  · rw [if_pos (by simpa using h), decide_eq_true h, Bool.true_and]
  · rw [if_neg (by simpa using h), decide_eq_false h, Bool.false_and]
end Go.Proofs.Ytndjggncgpjolaa

namespace Go.Proofs.Ytndjggncgpjolaa
open Go.RowKit
set_option linter.unusedVariables false
def impl_WordOk.E (s : Str) (Q : Bool → Prop) : Prop :=
  (∃ (I9 : Int → Prop) (mu10 : Int → Nat), I9 0 ∧ ∀ (v2 : Int), I9 v2 → (if decide (v2 < (s.length : Int)) then ((0 : Int) ≤ v2 ∧ v2 < (s.length : Int)) ∧ (if decide (((nth s v2).toNat : Int) < 97) then Q false else ((0 : Int) ≤ v2 ∧ v2 < (s.length : Int)) ∧ (if decide (((nth s v2).toNat : Int) > 122) then Q false else (I64 (v2 + 1)) ∧ I9 (v2 + 1) ∧ mu10 (v2 + 1) < mu10 v2)) else impl_within.E (s.length : Int) 1 6 (fun r => Q r)))
set_option maxHeartbeats 8000000 in
set_option maxRecDepth 100000 in
theorem impl_WordOk.calls {O : Ob} (w0 : World) (hO : Ok w0 O) (s : Str) (hs1 : Lim s) (Q : Bool → Prop) (h : impl_WordOk.E s Q) :
    Ret Try.prog 53 [vs s] w0 (fun v w' => ∃ (r0 : Bool), v = vb r0 ∧ Q r0 ∧ Gr w0 w' none) := by
  have H : (∃ (I9 : Int → Prop) (mu10 : Int → Nat), I9 0 ∧ ∀ (v2 : Int), I9 v2 → (if decide (v2 < (s.length : Int)) then ((0 : Int) ≤ v2 ∧ v2 < (s.length : Int)) ∧ (if decide (((nth s v2).toNat : Int) < 97) then Q false else ((0 : Int) ≤ v2 ∧ v2 < (s.length : Int)) ∧ (if decide (((nth s v2).toNat : Int) > 122) then Q false else (I64 (v2 + 1)) ∧ I9 (v2 + 1) ∧ mu10 (v2 + 1) < mu10 v2)) else impl_within.E (s.length : Int) 1 6 (fun r => Q r))) := h
  clear h
  have hc0 := Ct.init hO
  refine Ret_enter Try.func53 rfl 23 rfl [.tmp 2] rfl rfl ?_
  refine W_seq ?_
  refine W_reg ?_
  refine L_pu (P_assign (vb false) rfl) ?_
  refine L_nil ?_
  refine W_seq ?_
  refine W_seq ?_
  refine W_reg ?_
  refine L_pu (P_move (vs s) rfl) ?_
  have hl2 := hs1
  refine L_pu (P_lens Try.underlying9 s rfl) ?_
  refine L_pu (P_move (vi 0) rfl) ?_
  refine L_nil ?_
  refine W_block ?_
  obtain ⟨I9, mu10, hI11, H⟩ := H
  refine W_loop (α := Int) (fun (sv__ : Int) t w7 => match sv__ with | v2 => I9 v2 ∧ Has t [(0, vs s), (5, vi (s.length : Int)), (6, vi v2)] ∧ Ct [] w0 w7 [] O) (fun (sv__ : Int) => match sv__ with | v2 => mu10 v2) 0 ⟨hI11, ⟨rfl, rfl, rfl, trivial⟩, hc0⟩ ?_
  rintro v2 _ w7 ⟨hI11, hh13, hc8⟩
  obtain ⟨u14, rfl⟩ := Has.ins hh13
  have H := H v2 hI11
  refine W_seq ?_
  refine W_reg ?_
  refine L_pu (P_cmp v2 (s.length : Int) (decide (v2 < (s.length : Int))) rfl rfl rfl) ?_
  refine L_nil ?_
  refine W_seq ?_
  refine W_cond (decide (v2 < (s.length : Int))) rfl (fun hq15 => ?_) (fun hq15 => ?_)
  · have H := ite_t H hq15
    refine W_skip ?_
    refine W_seq ?_
    refine W_block ?_
    refine W_seq ?_
    refine W_reg ?_
    refine L_pu (P_move (vi v2) rfl) ?_
    refine L_pu (P_assign (vi v2) rfl) ?_
    refine L_nil ?_
    refine W_seq ?_
    refine W_reg ?_
    refine L_pu (P_move (vs s) rfl) ?_
    refine L_pu (P_move (vi v2) rfl) ?_
    obtain ⟨hb16, H⟩ := H
    refine L_pu (P_index Try.underlying9 s v2 rfl rfl hb16) ?_
    refine L_pu (P_cmp ((nth s v2).toNat : Int) 97 (decide (((nth s v2).toNat : Int) < 97)) rfl rfl rfl) ?_
    refine L_pu (P_move (vb (decide (((nth s v2).toNat : Int) < 97))) rfl) ?_
    rcases bool_or (decide (((nth s v2).toNat : Int) < 97)) with hq17 | hq17
    · have H := ite_t H hq17
      refine L_pass (dj := 13) rfl rfl (.inl (by exact congrArg Value.bool hq17)) ?_
      refine L_pass (dj := 13) rfl rfl (.inl (by exact congrArg Value.bool hq17)) ?_
      refine L_pass (dj := 13) rfl rfl (.inl (by exact congrArg Value.bool hq17)) ?_
      refine L_pass (dj := 13) rfl rfl (.inl (by exact congrArg Value.bool hq17)) ?_
      refine L_pu (P_pick true (vb true) (by exact congrArg Value.bool hq17) rfl) ?_
      refine L_nil ?_
      refine W_ct (b := true) rfl rfl ?_
      refine W_seq ?_
      refine W_reg ?_
      refine L_pu (P_assign (vb false) rfl) ?_
      refine L_nil ?_
      refine W_ret ?_
      exact ⟨[vb false], ⟨_, rfl, rfl⟩, false, rfl, H, hc8.gr.g0⟩
    · have H := ite_f H hq17
      refine L_run (dj := 13) rfl rfl (by exact congrArg Value.bool hq17) ?_
      refine L_pu (P_move (vs s) rfl) ?_
      refine L_run (dj := 13) rfl rfl (by exact congrArg Value.bool hq17) ?_
      refine L_pu (P_move (vi v2) rfl) ?_
      refine L_run (dj := 13) rfl rfl (by exact congrArg Value.bool hq17) ?_
      obtain ⟨hb18, H⟩ := H
      refine L_pu (P_index Try.underlying9 s v2 rfl rfl hb18) ?_
      refine L_run (dj := 13) rfl rfl (by exact congrArg Value.bool hq17) ?_
      refine L_pu (P_cmp ((nth s v2).toNat : Int) 122 (decide (((nth s v2).toNat : Int) > 122)) rfl rfl rfl) ?_
      refine L_pu (P_pick false (vb (decide (((nth s v2).toNat : Int) > 122))) (by exact congrArg Value.bool hq17) rfl) ?_
      refine L_nil ?_
      refine W_cond (decide (((nth s v2).toNat : Int) > 122)) rfl (fun hq19 => ?_) (fun hq19 => ?_)
      · have H := ite_t H hq19
        refine W_seq ?_
        refine W_reg ?_
        refine L_pu (P_assign (vb false) rfl) ?_
        refine L_nil ?_
        refine W_ret ?_
        exact ⟨[vb false], ⟨_, rfl, rfl⟩, false, rfl, H, hc8.gr.g0⟩
      · have H := ite_f H hq19
        refine W_skip ?_
        refine W_reg ?_
        obtain ⟨hb20, H⟩ := H
        refine L_pu (P_add v2 1 rfl rfl hb20) ?_
        refine L_pu (P_move (vi (v2 + 1)) rfl) ?_
        refine L_nil ?_
        obtain ⟨hI21, hm22⟩ := H
        exact ⟨v2 + 1, hm22, hI21, ⟨rfl, rfl, rfl, trivial⟩, hc8⟩
  · have H := ite_f H hq15
    refine W_exit (xin_hit ?_)
    refine W_seq ?_
    refine W_reg ?_
    refine L_pu (P_move (vs s) rfl) ?_
    have hl23 := hs1
    refine L_pu (P_lens Try.underlying9 s rfl) ?_
    refine L_call go112 [vi (s.length : Int), vi 1, vi 6] rfl ((impl_within.calls w7 hc8.ok (s.length : Int) 1 6 _ H).mono ?_)
    rintro _ w24 ⟨r, rfl, H, g25, _⟩
    have hc29 := hc8.k0 g25
    refine L_pu (P_assign (vb r) rfl) ?_
    refine L_nil ?_
    refine W_ret ?_
    exact ⟨[vb r], ⟨_, rfl, rfl⟩, r, rfl, H, hc29.gr.g0⟩
end Go.Proofs.Ytndjggncgpjolaa

namespace Go.Proofs.Ytndjggncgpjolaa
set_option linter.unusedVariables false
set_option linter.unusedSimpArgs false
set_option linter.unusedSectionVars false
theorem impl_WordOk.law (s : Str) (Q : Bool → Prop) (hl : s.length ≤ 1048576) (hq : Q (wordOk s)) : impl_WordOk.E s Q := by
  unfold impl_WordOk.E
  unfold wordOk at hq
  refine loop_all s.length (fun k => byteOk (nth s (k : Int))) (fun I mu k hk hp hn => ?_) (fun ha => ?_)
  · refine ⟨by omega, ?_⟩
    cases h1 : decide (((nth s (k : Int)).toNat : Int) < 97) with
    | true => rw [if_pos rfl]; rw [allN_false hk (by simp only [byteOk, h1]; rfl), Bool.false_and] at hq; exact hq
    | false =>
      rw [if_neg (by decide)]
      refine ⟨by omega, ?_⟩
      cases h2 : decide (((nth s (k : Int)).toNat : Int) > 122) with
      | true => rw [if_pos rfl]; rw [allN_false hk (by simp only [byteOk, h1, h2]; rfl), Bool.false_and] at hq; exact hq
      | false =>
        rw [if_neg (by decide)]
        obtain ⟨i1, i2⟩ := hn (by simp only [byteOk, h1, h2]; rfl)
        exact ⟨by unfold I64; omega, i1, i2⟩
  · rw [allN_true ha, Bool.true_and] at hq
    refine impl_within.law _ _ _ _ ?_
    have e1 : decide ((1 : Int) ≤ (s.length : Int)) = decide (1 ≤ s.length) := decide_eq_decide.2 (by omega)
    have e2 : decide ((s.length : Int) ≤ 6) = decide (s.length ≤ 6) := decide_eq_decide.2 (by omega)
    rw [e1, e2]; exact hq
end Go.Proofs.Ytndjggncgpjolaa

namespace Go.Proofs.Ytndjggncgpjolaa
open Go.RowKit
set_option linter.unusedVariables false
def impl_ptOk.E (p : Pt) (Q : Bool → Prop) : Prop :=
  impl_within.E p.X (-1000) 1000 (fun r => (if r then impl_within.E p.Y (-1000) 1000 (fun r2 => Q r2) else Q false))
set_option maxHeartbeats 8000000 in
set_option maxRecDepth 100000 in
theorem impl_ptOk.calls {O : Ob} (w0 : World) (hO : Ok w0 O) (p : Pt) (Q : Bool → Prop) (h : impl_ptOk.E p Q) :
    Ret Try.prog 141 [.agg #[vi p.X, vi p.Y]] w0 (fun v w' => ∃ (r0 : Bool), v = vb r0 ∧ Q r0 ∧ Gr w0 w' none) := by
  have H : impl_within.E p.X (-1000) 1000 (fun r => (if r then impl_within.E p.Y (-1000) 1000 (fun r2 => Q r2) else Q false)) := h
  clear h
  have hc0 := Ct.init hO
  refine Ret_enter Try.func141 rfl 11 rfl [.tmp 2] rfl rfl ?_
  refine W_seq ?_
  refine W_reg ?_
  refine L_box [vi p.X, vi p.Y] rfl fun w1 b2 hl4 hu5 g3 hx6 => ?_
  have h8 := Fb.mk hc0.ok hl4 hx6
  have hc9 := hc0.k0 g3
  refine L_pu (P_assign (vb false) rfl) ?_
  refine L_nil ?_
  refine W_seq ?_
  refine W_reg ?_
  refine L_pu (P_fa fa29_0 ⟨b2, 0, none⟩ ⟨b2, 0, none⟩ rfl rfl) ?_
  refine L_pu (P_ld ag3 cL ⟨b2, 0, none⟩ (vi p.X) rfl (h8.cell rfl)) ?_
  refine L_call go112 [vi p.X, vi (-1000), vi 1000] rfl ((impl_within.calls w1 hc9.ok p.X (-1000) 1000 _ H).mono ?_)
  rintro _ w10 ⟨r, rfl, H, g11, _⟩
  have hc15 := hc9.k0 g11
  refine L_pu (P_move (vb r) rfl) ?_
  rcases bool_or r with hq16 | hq16
  · have H := ite_t H hq16
    refine L_run (dj := 6) rfl rfl (by exact congrArg Value.bool hq16) ?_
    refine L_pu (P_fa fa29_1 ⟨b2, 0, none⟩ ⟨b2, 1, none⟩ rfl rfl) ?_
    refine L_run (dj := 6) rfl rfl (by exact congrArg Value.bool hq16) ?_
    have h17 := (h8.st (.new _ g11))
    refine L_pu (P_ld ag3 cL ⟨b2, 1, none⟩ (vi p.Y) rfl (h17.cell rfl)) ?_
    refine L_run (dj := 6) rfl rfl (by exact congrArg Value.bool hq16) ?_
    refine L_call go112 [vi p.Y, vi (-1000), vi 1000] rfl ((impl_within.calls w10 hc15.ok p.Y (-1000) 1000 _ H).mono ?_)
    rintro _ w18 ⟨r2, rfl, H, g19, _⟩
    have hc23 := hc15.k0 g19
    refine L_pu (P_pick true (vb r2) (by exact congrArg Value.bool hq16) rfl) ?_
    refine L_pu (P_assign (vb r2) rfl) ?_
    refine L_nil ?_
    refine W_ret ?_
    exact ⟨[vb r2], ⟨_, rfl, rfl⟩, r2, rfl, H, hc23.gr.g0⟩
  · have H := ite_f H hq16
    refine L_pass (dj := 6) rfl rfl (.inl (by exact congrArg Value.bool hq16)) ?_
    refine L_pass (dj := 6) rfl rfl (.inl (by exact congrArg Value.bool hq16)) ?_
    refine L_pass (dj := 6) rfl rfl (.inl (by exact congrArg Value.bool hq16)) ?_
    refine L_pu (P_pick false (vb false) (by exact congrArg Value.bool hq16) rfl) ?_
    refine L_pu (P_assign (vb false) rfl) ?_
    refine L_nil ?_
    refine W_ret ?_
    exact ⟨[vb false], ⟨_, rfl, rfl⟩, false, rfl, H, hc15.gr.g0⟩
end Go.Proofs.Ytndjggncgpjolaa

namespace Go.Proofs.Ytndjggncgpjolaa
set_option linter.unusedVariables false
set_option linter.unusedSimpArgs false
set_option linter.unusedSectionVars false
theorem impl_ptOk.law (p : Pt) (Q : Bool → Prop) (hq : Q (ptOk p)) : impl_ptOk.E p Q := by
  unfold impl_ptOk.E
  unfold ptOk at hq
  refine impl_within.law _ _ _ _ ?_
  change if inR p.X = true then _ else _
  cases h : inR p.X with
  | true => rw [if_pos rfl]; rw [h, Bool.true_and] at hq; exact impl_within.law _ _ _ _ hq
  | false => rw [if_neg (by decide)]; rw [h, Bool.false_and] at hq; exact hq
end Go.Proofs.Ytndjggncgpjolaa

namespace Go.Proofs.Ytndjggncgpjolaa
open Go.RowKit
set_option linter.unusedVariables false
def impl_ShapeOk.E (s : Shape) (Q : Bool → Prop) : Prop :=
  (∃ (I31 : Int → Prop) (mu32 : Int → Nat), I31 0 ∧ ∀ (v2 : Int), I31 v2 → (if decide (v2 < (s.Pts.length : Int)) then ((0 : Int) ≤ v2 ∧ v2 < (s.Pts.length : Int)) ∧ (∃ q : Bool, impl_ptOk.E (nth s.Pts v2) (fun x => x = q) ∧ (if !q then Q false else (if decide (v2 > 0) then (I64 (v2 - 1)) ∧ ((0 : Int) ≤ v2 - 1 ∧ v2 - 1 < (s.Pts.length : Int)) ∧ (if eqPt (nth s.Pts (v2 - 1)) (nth s.Pts v2) then Q false else (I64 (v2 + 1)) ∧ I31 (v2 + 1) ∧ mu32 (v2 + 1) < mu32 v2) else (I64 (v2 + 1)) ∧ I31 (v2 + 1) ∧ mu32 (v2 + 1) < mu32 v2))) else (if s.Kind == 1 then Q ((s.Pts.length : Int) == 1) else (if s.Kind == 2 then impl_within.E (s.Pts.length : Int) 2 6 (fun r2 => Q r2) else (if s.Kind == 3 then (if (impl_within.m (s.Pts.length : Int) 3 6) then ((0 : Int) ≤ 0 ∧ 0 < (s.Pts.length : Int)) ∧ ((s.Pts.length : Int) ≤ 9223372036854775807 → I64 ((s.Pts.length : Int) - 1)) ∧ ((0 : Int) ≤ (s.Pts.length : Int) - 1 ∧ (s.Pts.length : Int) - 1 < (s.Pts.length : Int)) ∧ Q (!(eqPt (nth s.Pts 0) (nth s.Pts ((s.Pts.length : Int) - 1)))) else Q false) else Q false)))))
set_option maxHeartbeats 8000000 in
set_option maxRecDepth 100000 in
theorem impl_ShapeOk.calls {O : Ob} (w0 : World) (hO : Ok w0 O) (s : Shape) (A1 : Option Addr) (n2 c3 : Nat) (hp4 : Sl kPt w0 (Fr O) (.slice A1 n2 c3) s.Pts) (Q : Bool → Prop) (h : impl_ShapeOk.E s Q) :
    Ret Try.prog 96 [.agg #[vi s.Kind, .slice A1 n2 c3]] w0 (fun v w' => ∃ (r0 : Bool), v = vb r0 ∧ Q r0 ∧ Gr w0 w' none) := by
  have H : (∃ (I31 : Int → Prop) (mu32 : Int → Nat), I31 0 ∧ ∀ (v2 : Int), I31 v2 → (if decide (v2 < (s.Pts.length : Int)) then ((0 : Int) ≤ v2 ∧ v2 < (s.Pts.length : Int)) ∧ (∃ q : Bool, impl_ptOk.E (nth s.Pts v2) (fun x => x = q) ∧ (if !q then Q false else (if decide (v2 > 0) then (I64 (v2 - 1)) ∧ ((0 : Int) ≤ v2 - 1 ∧ v2 - 1 < (s.Pts.length : Int)) ∧ (if eqPt (nth s.Pts (v2 - 1)) (nth s.Pts v2) then Q false else (I64 (v2 + 1)) ∧ I31 (v2 + 1) ∧ mu32 (v2 + 1) < mu32 v2) else (I64 (v2 + 1)) ∧ I31 (v2 + 1) ∧ mu32 (v2 + 1) < mu32 v2))) else (if s.Kind == 1 then Q ((s.Pts.length : Int) == 1) else (if s.Kind == 2 then impl_within.E (s.Pts.length : Int) 2 6 (fun r2 => Q r2) else (if s.Kind == 3 then (if (impl_within.m (s.Pts.length : Int) 3 6) then ((0 : Int) ≤ 0 ∧ 0 < (s.Pts.length : Int)) ∧ ((s.Pts.length : Int) ≤ 9223372036854775807 → I64 ((s.Pts.length : Int) - 1)) ∧ ((0 : Int) ≤ (s.Pts.length : Int) - 1 ∧ (s.Pts.length : Int) - 1 < (s.Pts.length : Int)) ∧ Q (!(eqPt (nth s.Pts 0) (nth s.Pts ((s.Pts.length : Int) - 1)))) else Q false) else Q false))))) := h
  clear h
  have hc0 := Ct.init hO
  refine Ret_enter Try.func96 rfl 62 rfl [.tmp 2] rfl rfl ?_
  refine W_seq ?_
  refine W_reg ?_
  refine L_box [vi s.Kind, .slice A1 n2 c3] rfl fun w6 b7 hl9 hu10 g8 hx11 => ?_
  have h13 := Fb.mk hc0.ok hl9 hx11
  have hc14 := hc0.k0 g8
  refine L_pu (P_assign (vb false) rfl) ?_
  refine L_nil ?_
  refine W_seq ?_
  refine W_seq ?_
  refine W_reg ?_
  refine L_pu (P_fa fa68_1 ⟨b7, 0, none⟩ ⟨b7, 1, none⟩ rfl rfl) ?_
  refine L_pu (P_ld ag23 cL ⟨b7, 1, none⟩ (.slice A1 n2 c3) rfl (h13.cell rfl)) ?_
  have hl15 := (hp4.st hc14.st).le
  refine L_pu (P_len Try.underlying23 A1 n2 c3 (hp4.st hc14.st).len rfl) ?_
  refine L_pu (P_move (vi 0) rfl) ?_
  refine L_nil ?_
  refine W_block ?_
  obtain ⟨I31, mu32, hI33, H⟩ := H
  refine W_loop (α := Int) (fun (sv__ : Int) t w26 => match sv__ with | v2 => I31 v2 ∧ Has t [(1, .pointer (some ⟨b7, 0, none⟩)), (7, .slice A1 n2 c3), (8, vi (s.Pts.length : Int)), (9, vi v2)] ∧ Ct [] w0 w26 [] O ∧ Sl kPt w26 (Fr ([] ++ O)) (.slice A1 n2 c3) s.Pts ∧ Fb w26 ([] ++ O) b7 [vi s.Kind, .slice A1 n2 c3]) (fun (sv__ : Int) => match sv__ with | v2 => mu32 v2) 0 ⟨hI33, ⟨rfl, rfl, rfl, rfl, trivial⟩, hc14, (hp4.st hc14.st), h13⟩ ?_
  rintro v2 _ w26 ⟨hI33, hh35, hc28, h29, h30⟩
  obtain ⟨u36, rfl⟩ := Has.ins hh35
  have H := H v2 hI33
  refine W_seq ?_
  refine W_reg ?_
  refine L_pu (P_cmp v2 (s.Pts.length : Int) (decide (v2 < (s.Pts.length : Int))) rfl rfl rfl) ?_
  refine L_nil ?_
  refine W_seq ?_
  refine W_cond (decide (v2 < (s.Pts.length : Int))) rfl (fun hq37 => ?_) (fun hq37 => ?_)
  · have H := ite_t H hq37
    refine W_skip ?_
    refine W_seq ?_
    refine W_block ?_
    refine W_seq ?_
    refine W_reg ?_
    refine L_pu (P_move (vi v2) rfl) ?_
    obtain ⟨hb38, H⟩ := H
    obtain ⟨ad39, cs40, hA41, hS44, hR42, hcl43⟩ := h29.get default (by decide) v2 hb38
    obtain rfl := kPt.op hR42
    refine L_pu (P_ia Try.underlying23 se23 A1 ad39 n2 c3 h29.len v2 rfl hA41 rfl hb38) ?_
    refine L_pu (P_lda ag29 sz29 cL (ad39.add (v2.toNat * 2)) [vi ((nth s.Pts v2).X), vi ((nth s.Pts v2).Y)] rfl rfl hcl43) ?_
    refine L_alloc [.int .i64 0, .int .i64 0] ze29 fun w45 b46 hl48 hu49 g47 hx50 => ?_
    have hc52 := hc28.own g47 (some b46) (oglt hl48 hu49)
    refine L_pu (P_assign (vi v2) rfl) ?_
    refine L_stb b46 0 [vi 0, vi 0] [vi ((nth s.Pts v2).X), vi ((nth s.Pts v2).Y)] [vi ((nth s.Pts v2).X), vi ((nth s.Pts v2).Y)] rfl hx50 rfl sz29 rfl rfl rfl fun w53 g54 hx55 => ?_
    have hc56 := hc52.wr 0 rfl g54
    refine L_nil ?_
    refine W_seq ?_
    refine W_draw (fun x => Gr w53 x none) (by kernel_rfl) (by kernel_rfl) (Gr.drew _) ?_
    refine Q_pu (P_lda ag29 sz29 cQ ⟨b46, 0, none⟩ [vi ((nth s.Pts v2).X), vi ((nth s.Pts v2).Y)] rfl rfl (hx55.cells (off := 0) rfl)) ?_
    obtain ⟨q, hE62, H⟩ := H
    refine Q_call go141 [.agg #[vi ((nth s.Pts v2).X), vi ((nth s.Pts v2).Y)]] rfl (vb q) (fun w g => (impl_ptOk.calls w (hc56.k0 g).ok (nth s.Pts v2) _ hE62).mono ?_) ?_
    · rintro _ w ⟨r, rfl, rfl, g2⟩
      exact ⟨rfl, Gr.t0 g g2⟩
    refine Q_pu (P_not q rfl) ?_
    refine Q_pu (P_move (vb (!q)) rfl) ?_
    rcases bool_or (!q) with hq64 | hq64
    · have H := ite_t H hq64
      refine Q_pass (dj := 17) rfl rfl (.inl (by exact congrArg Value.bool hq64)) ?_
      refine Q_pass (dj := 17) rfl rfl (.inl (by exact congrArg Value.bool hq64)) ?_
      refine Q_pass (dj := 17) rfl rfl (.inl (by exact congrArg Value.bool hq64)) ?_
      refine Q_pass (dj := 20) rfl rfl (.inr rfl) ?_
      refine Q_pass (dj := 20) rfl rfl (.inr rfl) ?_
      refine Q_pass (dj := 20) rfl rfl (.inr rfl) ?_
      refine Q_pass (dj := 20) rfl rfl (.inr rfl) ?_
      refine Q_pass (dj := 20) rfl rfl (.inr rfl) ?_
      refine Q_pass (dj := 20) rfl rfl (.inr rfl) ?_
      refine Q_pass (dj := 20) rfl rfl (.inr rfl) ?_
      refine Q_pass (dj := 20) rfl rfl (.inr rfl) ?_
      refine Q_pass (dj := 17) rfl rfl (.inl (by exact congrArg Value.bool hq64)) ?_
      refine Q_pu (P_pick true (vb true) (by exact congrArg Value.bool hq64) rfl) ?_
      refine Q_nil fun w65 g66 => ?_
      have hc68 := hc56.k0 g66
      refine W_ct (b := true) rfl rfl ?_
      refine W_seq ?_
      refine W_reg ?_
      refine L_pu (P_assign (vb false) rfl) ?_
      refine L_nil ?_
      refine W_ret ?_
      have hc69 := hc68.drop 0 rfl
      exact ⟨[vb false], ⟨_, rfl, rfl⟩, false, rfl, H, hc69.gr.g0⟩
    · have H := ite_f H hq64
      refine Q_run (dj := 17) rfl rfl (by exact congrArg Value.bool hq64) ?_
      refine Q_pu (P_move (vi v2) rfl) ?_
      refine Q_run (dj := 17) rfl rfl (by exact congrArg Value.bool hq64) ?_
      refine Q_pu (P_cmp v2 0 (decide (v2 > 0)) rfl rfl rfl) ?_
      refine Q_run (dj := 17) rfl rfl (by exact congrArg Value.bool hq64) ?_
      refine Q_pu (P_move (vb (decide (v2 > 0))) rfl) ?_
      rcases bool_or (decide (v2 > 0)) with hq70 | hq70
      · have H := ite_t H hq70
        refine Q_run (dj := 20) rfl rfl (by exact congrArg Value.bool hq70) ?_
        refine Q_pu (P_fa fa68_1 ⟨b7, 0, none⟩ ⟨b7, 1, none⟩ rfl rfl) ?_
        refine Q_run (dj := 20) rfl rfl (by exact congrArg Value.bool hq70) ?_
        have h71 := ((h30.st (.own _ _ g47 (oge hl48))).st (.wl (L := [some b46]) (O := O) (j := 0) rfl g54))
        refine Q_pu (P_ld ag23 cQ ⟨b7, 1, none⟩ (.slice A1 n2 c3) rfl (h71.cell rfl)) ?_
        refine Q_run (dj := 20) rfl rfl (by exact congrArg Value.bool hq70) ?_
        refine Q_pu (P_move (vi v2) rfl) ?_
        refine Q_run (dj := 20) rfl rfl (by exact congrArg Value.bool hq70) ?_
        obtain ⟨hb72, H⟩ := H
        refine Q_pu (P_sub v2 1 rfl rfl hb72) ?_
        refine Q_run (dj := 20) rfl rfl (by exact congrArg Value.bool hq70) ?_
        obtain ⟨hb73, H⟩ := H
        have h80 := ((h29.st (.own _ _ g47 (oge hl48))).st (.wl (L := [some b46]) (O := O) (j := 0) rfl g54))
        obtain ⟨ad74, cs75, hA76, hS79, hR77, hcl78⟩ := h80.get default (by decide) (v2 - 1) hb73
        obtain rfl := kPt.op hR77
        refine Q_pu (P_ia Try.underlying23 se23 A1 ad74 n2 c3 h80.len (v2 - 1) rfl hA76 rfl hb73) ?_
        refine Q_run (dj := 20) rfl rfl (by exact congrArg Value.bool hq70) ?_
        refine Q_pu (P_lda ag29 sz29 cQ (ad74.add ((v2 - 1).toNat * 2)) [vi ((nth s.Pts (v2 - 1)).X), vi ((nth s.Pts (v2 - 1)).Y)] rfl rfl hcl78) ?_
        refine Q_run (dj := 20) rfl rfl (by exact congrArg Value.bool hq70) ?_
        refine Q_pu (P_lda ag29 sz29 cQ ⟨b46, 0, none⟩ [vi ((nth s.Pts v2).X), vi ((nth s.Pts v2).Y)] rfl rfl (hx55.cells (off := 0) rfl)) ?_
        refine Q_run (dj := 20) rfl rfl (by exact congrArg Value.bool hq70) ?_
        refine Q_pu (P_eq _ _ (eqPt (nth s.Pts (v2 - 1)) (nth s.Pts v2)) (qt29 (nth s.Pts (v2 - 1)) (nth s.Pts v2)) rfl rfl) ?_
        refine Q_run (dj := 17) rfl rfl (by exact congrArg Value.bool hq64) ?_
        refine Q_pu (P_pick true (vb (eqPt (nth s.Pts (v2 - 1)) (nth s.Pts v2))) (by exact congrArg Value.bool hq70) rfl) ?_
        refine Q_pu (P_pick false (vb (eqPt (nth s.Pts (v2 - 1)) (nth s.Pts v2))) (by exact congrArg Value.bool hq64) rfl) ?_
        refine Q_nil fun w81 g82 => ?_
        have hc84 := hc56.k0 g82
        refine W_cond (eqPt (nth s.Pts (v2 - 1)) (nth s.Pts v2)) rfl (fun hq85 => ?_) (fun hq85 => ?_)
        · have H := ite_t H hq85
          refine W_seq ?_
          refine W_reg ?_
          refine L_pu (P_assign (vb false) rfl) ?_
          refine L_nil ?_
          refine W_ret ?_
          have hc86 := hc84.drop 0 rfl
          exact ⟨[vb false], ⟨_, rfl, rfl⟩, false, rfl, H, hc86.gr.g0⟩
        · have H := ite_f H hq85
          refine W_skip ?_
          refine W_reg ?_
          obtain ⟨hb87, H⟩ := H
          refine L_pu (P_add v2 1 rfl rfl hb87) ?_
          refine L_pu (P_move (vi (v2 + 1)) rfl) ?_
          refine L_nil ?_
          have hc88 := hc84.drop 0 rfl
          obtain ⟨hI89, hm90⟩ := H
          have h91 := ((h80.st (.new _ g82)).st (.dr _ (L := [some b46]) (O := O) (j := 0) rfl))
          have h92 := ((h71.st (.new _ g82)).st (.dr _ (L := [some b46]) (O := O) (j := 0) rfl))
          exact ⟨v2 + 1, hm90, hI89, ⟨rfl, rfl, rfl, rfl, trivial⟩, hc88, h91, h92⟩
      · have H := ite_f H hq70
        refine Q_pass (dj := 20) rfl rfl (.inl (by exact congrArg Value.bool hq70)) ?_
        refine Q_pass (dj := 20) rfl rfl (.inl (by exact congrArg Value.bool hq70)) ?_
        refine Q_pass (dj := 20) rfl rfl (.inl (by exact congrArg Value.bool hq70)) ?_
        refine Q_pass (dj := 20) rfl rfl (.inl (by exact congrArg Value.bool hq70)) ?_
        refine Q_pass (dj := 20) rfl rfl (.inl (by exact congrArg Value.bool hq70)) ?_
        refine Q_pass (dj := 20) rfl rfl (.inl (by exact congrArg Value.bool hq70)) ?_
        refine Q_pass (dj := 20) rfl rfl (.inl (by exact congrArg Value.bool hq70)) ?_
        refine Q_pass (dj := 20) rfl rfl (.inl (by exact congrArg Value.bool hq70)) ?_
        refine Q_run (dj := 17) rfl rfl (by exact congrArg Value.bool hq64) ?_
        refine Q_pu (P_pick false (vb false) (by exact congrArg Value.bool hq70) rfl) ?_
        refine Q_pu (P_pick false (vb false) (by exact congrArg Value.bool hq64) rfl) ?_
        refine Q_nil fun w93 g94 => ?_
        have hc96 := hc56.k0 g94
        refine W_cf (b := false) rfl rfl ?_
        refine W_skip ?_
        refine W_reg ?_
        obtain ⟨hb97, H⟩ := H
        refine L_pu (P_add v2 1 rfl rfl hb97) ?_
        refine L_pu (P_move (vi (v2 + 1)) rfl) ?_
        refine L_nil ?_
        have hc98 := hc96.drop 0 rfl
        obtain ⟨hI99, hm100⟩ := H
        have h101 := ((((h29.st (.own _ _ g47 (oge hl48))).st (.wl (L := [some b46]) (O := O) (j := 0) rfl g54)).st (.new _ g94)).st (.dr _ (L := [some b46]) (O := O) (j := 0) rfl))
        have h102 := ((((h30.st (.own _ _ g47 (oge hl48))).st (.wl (L := [some b46]) (O := O) (j := 0) rfl g54)).st (.new _ g94)).st (.dr _ (L := [some b46]) (O := O) (j := 0) rfl))
        exact ⟨v2 + 1, hm100, hI99, ⟨rfl, rfl, rfl, rfl, trivial⟩, hc98, h101, h102⟩
  · have H := ite_f H hq37
    refine W_exit (xin_hit ?_)
    refine W_seq ?_
    refine W_reg ?_
    refine L_pu (P_fa fa68_1 ⟨b7, 0, none⟩ ⟨b7, 1, none⟩ rfl rfl) ?_
    refine L_pu (P_ld ag23 cL ⟨b7, 1, none⟩ (.slice A1 n2 c3) rfl (h30.cell rfl)) ?_
    have hl103 := h29.le
    refine L_pu (P_len Try.underlying23 A1 n2 c3 h29.len rfl) ?_
    refine L_pu (P_assign (vi (s.Pts.length : Int)) rfl) ?_
    refine L_nil ?_
    refine W_seq ?_
    refine W_seq ?_
    refine W_reg ?_
    refine L_pu (P_fa fa68_0 ⟨b7, 0, none⟩ ⟨b7, 0, none⟩ rfl rfl) ?_
    refine L_pu (P_ld ag3 cL ⟨b7, 0, none⟩ (vi s.Kind) rfl (h30.cell rfl)) ?_
    refine L_nil ?_
    refine W_block ?_
    refine W_seq ?_
    refine W_reg ?_
    refine L_pu (P_cmp s.Kind 1 (s.Kind == 1) rfl rfl rfl) ?_
    refine L_pu (P_assign (vb (s.Kind == 1)) rfl) ?_
    refine L_nil ?_
    refine W_cond (s.Kind == 1) rfl (fun hq104 => ?_) (fun hq104 => ?_)
    · have H := ite_t H hq104
      refine W_seq ?_
      refine W_reg ?_
      refine L_pu (P_move (vi (s.Pts.length : Int)) rfl) ?_
      refine L_pu (P_cmp (s.Pts.length : Int) 1 ((s.Pts.length : Int) == 1) rfl rfl rfl) ?_
      refine L_pu (P_assign (vb ((s.Pts.length : Int) == 1)) rfl) ?_
      refine L_nil ?_
      refine W_ret ?_
      exact ⟨[vb ((s.Pts.length : Int) == 1)], ⟨_, rfl, rfl⟩, (s.Pts.length : Int) == 1, rfl, H, hc28.gr.g0⟩
    · have H := ite_f H hq104
      refine W_seq ?_
      refine W_reg ?_
      refine L_pu (P_cmp s.Kind 2 (s.Kind == 2) rfl rfl rfl) ?_
      refine L_pu (P_assign (vb (s.Kind == 2)) rfl) ?_
      refine L_nil ?_
      refine W_cond (s.Kind == 2) rfl (fun hq105 => ?_) (fun hq105 => ?_)
      · have H := ite_t H hq105
        refine W_seq ?_
        refine W_reg ?_
        refine L_pu (P_move (vi (s.Pts.length : Int)) rfl) ?_
        refine L_call go112 [vi (s.Pts.length : Int), vi 2, vi 6] rfl ((impl_within.calls w26 hc28.ok (s.Pts.length : Int) 2 6 _ H).mono ?_)
        rintro _ w106 ⟨r2, rfl, H, g107, _⟩
        have hc111 := hc28.k0 g107
        refine L_pu (P_assign (vb r2) rfl) ?_
        refine L_nil ?_
        refine W_ret ?_
        exact ⟨[vb r2], ⟨_, rfl, rfl⟩, r2, rfl, H, hc111.gr.g0⟩
      · have H := ite_f H hq105
        refine W_seq ?_
        refine W_reg ?_
        refine L_pu (P_cmp s.Kind 3 (s.Kind == 3) rfl rfl rfl) ?_
        refine L_pu (P_assign (vb (s.Kind == 3)) rfl) ?_
        refine L_nil ?_
        refine W_cond (s.Kind == 3) rfl (fun hq112 => ?_) (fun hq112 => ?_)
        · have H := ite_t H hq112
          refine W_seq ?_
          refine W_draw (fun x => Gr w26 x none) (by kernel_rfl) (by kernel_rfl) (Gr.drew _) ?_
          refine Q_pu (P_move (vi (s.Pts.length : Int)) rfl) ?_
          refine Q_call go112 [vi (s.Pts.length : Int), vi 3, vi 6] rfl (vb (impl_within.m (s.Pts.length : Int) 3 6)) (fun w g => (impl_within.calls w (hc28.k0 g).ok (s.Pts.length : Int) 3 6 _ (impl_within.fn (s.Pts.length : Int) 3 6)).mono ?_) ?_
          · rintro _ w ⟨r, rfl, rfl, g2, _⟩
            exact ⟨rfl, Gr.t0 g g2⟩
          refine Q_pu (P_move (vb (impl_within.m (s.Pts.length : Int) 3 6)) rfl) ?_
          rcases bool_or (impl_within.m (s.Pts.length : Int) 3 6) with hq118 | hq118
          · have H := ite_t H hq118
            refine Q_run (dj := 49) rfl rfl (by exact congrArg Value.bool hq118) ?_
            refine Q_pu (P_fa fa68_1 ⟨b7, 0, none⟩ ⟨b7, 1, none⟩ rfl rfl) ?_
            refine Q_run (dj := 49) rfl rfl (by exact congrArg Value.bool hq118) ?_
            refine Q_pu (P_ld ag23 cQ ⟨b7, 1, none⟩ (.slice A1 n2 c3) rfl (h30.cell rfl)) ?_
            refine Q_run (dj := 49) rfl rfl (by exact congrArg Value.bool hq118) ?_
            obtain ⟨hb119, H⟩ := H
            obtain ⟨ad120, cs121, hA122, hS125, hR123, hcl124⟩ := h29.get default (by decide) 0 hb119
            obtain rfl := kPt.op hR123
            refine Q_pu (P_ia Try.underlying23 se23 A1 ad120 n2 c3 h29.len 0 rfl hA122 rfl hb119) ?_
            refine Q_run (dj := 49) rfl rfl (by exact congrArg Value.bool hq118) ?_
            refine Q_pu (P_lda ag29 sz29 cQ (ad120.add ((0 : Int).toNat * 2)) [vi ((nth s.Pts 0).X), vi ((nth s.Pts 0).Y)] rfl rfl hcl124) ?_
            refine Q_run (dj := 49) rfl rfl (by exact congrArg Value.bool hq118) ?_
            refine Q_pu (P_fa fa68_1 ⟨b7, 0, none⟩ ⟨b7, 1, none⟩ rfl rfl) ?_
            refine Q_run (dj := 49) rfl rfl (by exact congrArg Value.bool hq118) ?_
            refine Q_pu (P_ld ag23 cQ ⟨b7, 1, none⟩ (.slice A1 n2 c3) rfl (h30.cell rfl)) ?_
            refine Q_run (dj := 49) rfl rfl (by exact congrArg Value.bool hq118) ?_
            refine Q_pu (P_move (vi (s.Pts.length : Int)) rfl) ?_
            refine Q_run (dj := 49) rfl rfl (by exact congrArg Value.bool hq118) ?_
            obtain ⟨hb126, H⟩ := H
            have hi127 := hb126 (len_le hl103)
            refine Q_pu (P_sub (s.Pts.length : Int) 1 rfl rfl hi127) ?_
            refine Q_run (dj := 49) rfl rfl (by exact congrArg Value.bool hq118) ?_
            obtain ⟨hb128, H⟩ := H
            obtain ⟨ad129, cs130, hA131, hS134, hR132, hcl133⟩ := h29.get default (by decide) ((s.Pts.length : Int) - 1) hb128
            obtain rfl := kPt.op hR132
            refine Q_pu (P_ia Try.underlying23 se23 A1 ad129 n2 c3 h29.len ((s.Pts.length : Int) - 1) rfl hA131 rfl hb128) ?_
            refine Q_run (dj := 49) rfl rfl (by exact congrArg Value.bool hq118) ?_
            refine Q_pu (P_lda ag29 sz29 cQ (ad129.add (((s.Pts.length : Int) - 1).toNat * 2)) [vi ((nth s.Pts ((s.Pts.length : Int) - 1)).X), vi ((nth s.Pts ((s.Pts.length : Int) - 1)).Y)] rfl rfl hcl133) ?_
            refine Q_run (dj := 49) rfl rfl (by exact congrArg Value.bool hq118) ?_
            refine Q_pu (P_ne _ _ (eqPt (nth s.Pts 0) (nth s.Pts ((s.Pts.length : Int) - 1))) (qt29 (nth s.Pts 0) (nth s.Pts ((s.Pts.length : Int) - 1))) rfl rfl) ?_
            refine Q_pu (P_pick true (vb (!(eqPt (nth s.Pts 0) (nth s.Pts ((s.Pts.length : Int) - 1))))) (by exact congrArg Value.bool hq118) rfl) ?_
            refine Q_pu (P_assign (vb (!(eqPt (nth s.Pts 0) (nth s.Pts ((s.Pts.length : Int) - 1))))) rfl) ?_
            refine Q_nil fun w135 g136 => ?_
            have hc138 := hc28.k0 g136
            refine W_ret ?_
            exact ⟨[vb (!(eqPt (nth s.Pts 0) (nth s.Pts ((s.Pts.length : Int) - 1))))], ⟨_, rfl, rfl⟩, !(eqPt (nth s.Pts 0) (nth s.Pts ((s.Pts.length : Int) - 1))), rfl, H, hc138.gr.g0⟩
          · have H := ite_f H hq118
            refine Q_pass (dj := 49) rfl rfl (.inl (by exact congrArg Value.bool hq118)) ?_
            refine Q_pass (dj := 49) rfl rfl (.inl (by exact congrArg Value.bool hq118)) ?_
            refine Q_pass (dj := 49) rfl rfl (.inl (by exact congrArg Value.bool hq118)) ?_
            refine Q_pass (dj := 49) rfl rfl (.inl (by exact congrArg Value.bool hq118)) ?_
            refine Q_pass (dj := 49) rfl rfl (.inl (by exact congrArg Value.bool hq118)) ?_
            refine Q_pass (dj := 49) rfl rfl (.inl (by exact congrArg Value.bool hq118)) ?_
            refine Q_pass (dj := 49) rfl rfl (.inl (by exact congrArg Value.bool hq118)) ?_
            refine Q_pass (dj := 49) rfl rfl (.inl (by exact congrArg Value.bool hq118)) ?_
            refine Q_pass (dj := 49) rfl rfl (.inl (by exact congrArg Value.bool hq118)) ?_
            refine Q_pass (dj := 49) rfl rfl (.inl (by exact congrArg Value.bool hq118)) ?_
            refine Q_pass (dj := 49) rfl rfl (.inl (by exact congrArg Value.bool hq118)) ?_
            refine Q_pu (P_pick false (vb false) (by exact congrArg Value.bool hq118) rfl) ?_
            refine Q_pu (P_assign (vb false) rfl) ?_
            refine Q_nil fun w139 g140 => ?_
            have hc142 := hc28.k0 g140
            refine W_ret ?_
            exact ⟨[vb false], ⟨_, rfl, rfl⟩, false, rfl, H, hc142.gr.g0⟩
        · have H := ite_f H hq112
          refine W_skip ?_
          refine W_seq ?_
          refine W_reg ?_
          refine L_pu (P_assign (vb false) rfl) ?_
          refine L_nil ?_
          refine W_ret ?_
          exact ⟨[vb false], ⟨_, rfl, rfl⟩, false, rfl, H, hc28.gr.g0⟩
end Go.Proofs.Ytndjggncgpjolaa

namespace Go.Proofs.Ytndjggncgpjolaa
set_option linter.unusedVariables false
set_option linter.unusedSimpArgs false
set_option linter.unusedSectionVars false
theorem impl_ShapeOk.law (s : Shape) (Q : Bool → Prop) (hl : s.Pts.length ≤ 1048576) (hq : Q (shapeOk s)) : impl_ShapeOk.E s Q := by
  unfold impl_ShapeOk.E
  unfold shapeOk ptsOk at hq
  refine loop_all s.Pts.length (fun k => ptOk (nth s.Pts (k : Int)) && (decide (k = 0) || !(decide (nth s.Pts ((k : Int) - 1) = nth s.Pts (k : Int))))) (fun I mu k hk hp hn => ?_) (fun ha => ?_)
  · refine ⟨by omega, _, impl_ptOk.law _ _ rfl, ?_⟩
    have bad : (ptOk (nth s.Pts (k : Int)) && (decide (k = 0) || !(decide (nth s.Pts ((k : Int) - 1) = nth s.Pts (k : Int))))) = false → Q false := fun h => by
      rw [allN_false hk h, Bool.false_and] at hq; exact hq
    cases h1 : ptOk (nth s.Pts (k : Int)) with
    | false => rw [if_pos (by decide)]; exact bad (by rw [h1]; rfl)
    | true =>
      rw [if_neg (by decide)]
      by_cases hk0 : k = 0
      · rw [if_neg (by rw [decide_eq_true_eq]; omega)]
        obtain ⟨i1, i2⟩ := hn (by rw [h1, decide_eq_true hk0]; rfl)
        exact ⟨by unfold I64; omega, i1, i2⟩
      · rw [if_pos (by rw [decide_eq_true_eq]; omega)]
        refine ⟨by unfold I64; omega, by omega, ?_⟩
        rw [eqPt_is]
        by_cases he : nth s.Pts ((k : Int) - 1) = nth s.Pts (k : Int)
        · rw [if_pos (by rw [decide_eq_true_eq]; exact he)]
          exact bad (by rw [h1, decide_eq_false hk0, decide_eq_true he]; rfl)
        · rw [if_neg (by rw [decide_eq_true_eq]; exact he)]
          obtain ⟨i1, i2⟩ := hn (by simp only [h1, decide_eq_false hk0, decide_eq_false he]; rfl)
          exact ⟨by unfold I64; omega, i1, i2⟩
  · rw [allN_true ha, Bool.true_and] at hq
    unfold kindOk at hq
    by_cases k1 : s.Kind = 1
    · rw [if_pos k1] at hq
      rw [if_pos (by rw [beq_iff_eq]; exact k1)]
      have : ((s.Pts.length : Int) == 1) = decide (s.Pts.length = 1) := by rw [Bool.eq_iff_iff, beq_iff_eq, decide_eq_true_eq]; omega
      rw [this]; exact hq
    rw [if_neg k1] at hq
    rw [if_neg (by rw [beq_iff_eq]; exact k1)]
    have e2 : decide ((2 : Int) ≤ (s.Pts.length : Int)) = decide (2 ≤ s.Pts.length) := decide_eq_decide.2 (by omega)
    have e3 : decide ((3 : Int) ≤ (s.Pts.length : Int)) = decide (3 ≤ s.Pts.length) := decide_eq_decide.2 (by omega)
    have e6 : decide ((s.Pts.length : Int) ≤ 6) = decide (s.Pts.length ≤ 6) := decide_eq_decide.2 (by omega)
    by_cases k2 : s.Kind = 2
    · rw [if_pos k2] at hq
      rw [if_pos (by rw [beq_iff_eq]; exact k2)]
      refine impl_within.law _ _ _ _ ?_
      rw [e2, e6]; exact hq
    rw [if_neg k2] at hq
    rw [if_neg (by rw [beq_iff_eq]; exact k2)]
    by_cases k3 : s.Kind = 3
    · rw [if_pos k3] at hq
      rw [if_pos (by rw [beq_iff_eq]; exact k3), impl_within.m_is, e3, e6]
      cases hc : decide (3 ≤ s.Pts.length) && decide (s.Pts.length ≤ 6) with
      | true =>
        rw [hc, Bool.true_and] at hq
        rw [Bool.and_eq_true, decide_eq_true_eq, decide_eq_true_eq] at hc
        rw [if_pos rfl, eqPt_is]
        exact ⟨by omega, fun _ => by unfold I64; omega, by omega, hq⟩
      | false =>
        rw [hc, Bool.false_and] at hq
        rw [if_neg (by decide)]; exact hq
    · rw [if_neg k3] at hq
      rw [if_neg (by rw [beq_iff_eq]; exact k3)]; exact hq
end Go.Proofs.Ytndjggncgpjolaa

namespace Go.Proofs.Ytndjggncgpjolaa
open Go.RowKit
set_option linter.unusedVariables false
def impl_FeatOk.E (f : Feat) (Q : Bool → Prop) : Prop :=
  (∃ (I43 : Int → Prop) (mu44 : Int → Nat), I43 0 ∧ ∀ (v2 : Int), I43 v2 → (if decide (v2 < (f.Tags.length : Int)) then ((0 : Int) ≤ v2 ∧ v2 < (f.Tags.length : Int)) ∧ (∃ q : Bool, impl_WordOk.E ((nth f.Tags v2).Key) (fun x => x = q) ∧ (if !q then Q false else (∃ q2 : Bool, impl_WordOk.E ((nth f.Tags v2).Val) (fun x => x = q2) ∧ (if !q2 then Q false else (if decide (v2 > 0) then (I64 (v2 - 1)) ∧ ((0 : Int) ≤ v2 - 1 ∧ v2 - 1 < (f.Tags.length : Int)) ∧ (if !(Op.bytesLess ((nth f.Tags (v2 - 1)).Key) ((nth f.Tags v2).Key)) then Q false else (I64 (v2 + 1)) ∧ I43 (v2 + 1) ∧ mu44 (v2 + 1) < mu44 v2) else (I64 (v2 + 1)) ∧ I43 (v2 + 1) ∧ mu44 (v2 + 1) < mu44 v2))))) else impl_WordOk.E f.Id (fun r3 => (if r3 then impl_ShapeOk.E f.Shape (fun r4 => (if r4 then Q (decide ((f.Tags.length : Int) ≤ 4)) else Q false)) else Q false))))
set_option maxHeartbeats 8000000 in
set_option maxRecDepth 100000 in
theorem impl_FeatOk.calls {O : Ob} (w0 : World) (hO : Ok w0 O) (f : Feat) (A2 : Option Addr) (n3 c4 : Nat) (A7 : Option Addr) (n8 c9 : Nat) (hs1 : Lim f.Id) (hp5 : Sl kPt w0 (Fr O) (.slice A2 n3 c4) f.Shape.Pts) (hp10 : Sl kTag w0 (Fr O) (.slice A7 n8 c9) f.Tags) (Q : Bool → Prop) (h : impl_FeatOk.E f Q) :
    Ret Try.prog 93 [.agg #[vs f.Id, vi f.Shape.Kind, .slice A2 n3 c4, .slice A7 n8 c9]] w0 (fun v w' => ∃ (r0 : Bool), v = vb r0 ∧ Q r0 ∧ Gr w0 w' none) := by
  have H : (∃ (I43 : Int → Prop) (mu44 : Int → Nat), I43 0 ∧ ∀ (v2 : Int), I43 v2 → (if decide (v2 < (f.Tags.length : Int)) then ((0 : Int) ≤ v2 ∧ v2 < (f.Tags.length : Int)) ∧ (∃ q : Bool, impl_WordOk.E ((nth f.Tags v2).Key) (fun x => x = q) ∧ (if !q then Q false else (∃ q2 : Bool, impl_WordOk.E ((nth f.Tags v2).Val) (fun x => x = q2) ∧ (if !q2 then Q false else (if decide (v2 > 0) then (I64 (v2 - 1)) ∧ ((0 : Int) ≤ v2 - 1 ∧ v2 - 1 < (f.Tags.length : Int)) ∧ (if !(Op.bytesLess ((nth f.Tags (v2 - 1)).Key) ((nth f.Tags v2).Key)) then Q false else (I64 (v2 + 1)) ∧ I43 (v2 + 1) ∧ mu44 (v2 + 1) < mu44 v2) else (I64 (v2 + 1)) ∧ I43 (v2 + 1) ∧ mu44 (v2 + 1) < mu44 v2))))) else impl_WordOk.E f.Id (fun r3 => (if r3 then impl_ShapeOk.E f.Shape (fun r4 => (if r4 then Q (decide ((f.Tags.length : Int) ≤ 4)) else Q false)) else Q false)))) := h
  clear h
  have hc0 := Ct.init hO
  refine Ret_enter Try.func93 rfl 54 rfl [.tmp 2] rfl rfl ?_
  refine W_seq ?_
  refine W_reg ?_
  refine L_box [vs f.Id, vi f.Shape.Kind, .slice A2 n3 c4, .slice A7 n8 c9] rfl fun w12 b13 hl15 hu16 g14 hx17 => ?_
  have h19 := Fb.mk hc0.ok hl15 hx17
  have hc20 := hc0.k0 g14
  refine L_pu (P_assign (vb false) rfl) ?_
  refine L_nil ?_
  refine W_seq ?_
  refine W_seq ?_
  refine W_reg ?_
  refine L_pu (P_fa fa71_2 ⟨b13, 0, none⟩ ⟨b13, 3, none⟩ rfl rfl) ?_
  refine L_pu (P_ld ag69 cL ⟨b13, 3, none⟩ (.slice A7 n8 c9) rfl (h19.cell rfl)) ?_
  have hl21 := (hp10.st hc20.st).le
  refine L_pu (P_len Try.underlying69 A7 n8 c9 (hp10.st hc20.st).len rfl) ?_
  refine L_pu (P_move (vi 0) rfl) ?_
  refine L_nil ?_
  refine W_block ?_
  obtain ⟨I43, mu44, hI45, H⟩ := H
  refine W_loop (α := Int) (fun (sv__ : Int) t w36 => match sv__ with | v2 => I43 v2 ∧ Has t [(1, .pointer (some ⟨b13, 0, none⟩)), (6, .slice A7 n8 c9), (7, vi (f.Tags.length : Int)), (8, vi v2)] ∧ Ct [] w0 w36 [] O ∧ Sl kTag w36 (Fr ([] ++ O)) (.slice A7 n8 c9) f.Tags ∧ Sl kPt w36 (Fr ([] ++ O)) (.slice A2 n3 c4) f.Shape.Pts ∧ Fb w36 ([] ++ O) b13 [vs f.Id, vi f.Shape.Kind, .slice A2 n3 c4, .slice A7 n8 c9]) (fun (sv__ : Int) => match sv__ with | v2 => mu44 v2) 0 ⟨hI45, ⟨rfl, rfl, rfl, rfl, trivial⟩, hc20, (hp10.st hc20.st), (hp5.st hc20.st), h19⟩ ?_
  rintro v2 _ w36 ⟨hI45, hh47, hc39, h40, h41, h42⟩
  obtain ⟨u48, rfl⟩ := Has.ins hh47
  have H := H v2 hI45
  refine W_seq ?_
  refine W_reg ?_
  refine L_pu (P_cmp v2 (f.Tags.length : Int) (decide (v2 < (f.Tags.length : Int))) rfl rfl rfl) ?_
  refine L_nil ?_
  refine W_seq ?_
  refine W_cond (decide (v2 < (f.Tags.length : Int))) rfl (fun hq49 => ?_) (fun hq49 => ?_)
  · have H := ite_t H hq49
    refine W_skip ?_
    refine W_seq ?_
    refine W_block ?_
    refine W_seq ?_
    refine W_reg ?_
    refine L_pu (P_move (vi v2) rfl) ?_
    obtain ⟨hb50, H⟩ := H
    obtain ⟨ad51, cs52, hA53, hS56, hR54, hcl55⟩ := h40.get default (by decide) v2 hb50
    obtain ⟨rfl, hs57, hs58⟩ := kTag.op hR54
    refine L_pu (P_ia Try.underlying69 se69 A7 ad51 n8 c9 h40.len v2 rfl hA53 rfl hb50) ?_
    refine L_pu (P_lda ag133 sz133 cL (ad51.add (v2.toNat * 2)) [vs ((nth f.Tags v2).Key), vs ((nth f.Tags v2).Val)] rfl rfl hcl55) ?_
    refine L_alloc [vs [], vs []] ze133 fun w59 b60 hl62 hu63 g61 hx64 => ?_
    have hc66 := hc39.own g61 (some b60) (oglt hl62 hu63)
    refine L_pu (P_assign (vi v2) rfl) ?_
    refine L_stb b60 0 [vs ([] : Str), vs ([] : Str)] [vs ((nth f.Tags v2).Key), vs ((nth f.Tags v2).Val)] [vs ((nth f.Tags v2).Key), vs ((nth f.Tags v2).Val)] rfl hx64 rfl sz133 rfl rfl rfl fun w67 g68 hx69 => ?_
    have hc70 := hc66.wr 0 rfl g68
    refine L_nil ?_
    refine W_seq ?_
    refine W_draw (fun x => Gr w67 x none) (by kernel_rfl) (by kernel_rfl) (Gr.drew _) ?_
    refine Q_pu (P_fa fa133_0 ⟨b60, 0, none⟩ ⟨b60, 0, none⟩ rfl rfl) ?_
    refine Q_pu (P_ld ag9 cQ ⟨b60, 0, none⟩ (vs ((nth f.Tags v2).Key)) rfl (hx69.cell rfl)) ?_
    obtain ⟨q, hE76, H⟩ := H
    refine Q_call go53 [vs ((nth f.Tags v2).Key)] rfl (vb q) (fun w g => (impl_WordOk.calls w (hc70.k0 g).ok ((nth f.Tags v2).Key) hs57 _ hE76).mono ?_) ?_
    · rintro _ w ⟨r, rfl, rfl, g2⟩
      exact ⟨rfl, Gr.t0 g g2⟩
    refine Q_pu (P_not q rfl) ?_
    refine Q_pu (P_move (vb (!q)) rfl) ?_
    rcases bool_or (!q) with hq78 | hq78
    · have H := ite_t H hq78
      refine Q_pass (dj := 17) rfl rfl (.inl (by exact congrArg Value.bool hq78)) ?_
      refine Q_pass (dj := 17) rfl rfl (.inl (by exact congrArg Value.bool hq78)) ?_
      refine Q_pass (dj := 17) rfl rfl (.inl (by exact congrArg Value.bool hq78)) ?_
      refine Q_pass (dj := 17) rfl rfl (.inl (by exact congrArg Value.bool hq78)) ?_
      refine Q_pu (P_pick true (vb true) (by exact congrArg Value.bool hq78) rfl) ?_
      refine Q_pu (P_move (vb true) rfl) ?_
      refine Q_pass (dj := 23) rfl rfl (.inl rfl) ?_
      refine Q_pass (dj := 23) rfl rfl (.inl rfl) ?_
      refine Q_pass (dj := 23) rfl rfl (.inl rfl) ?_
      refine Q_pass (dj := 26) rfl rfl (.inr rfl) ?_
      refine Q_pass (dj := 26) rfl rfl (.inr rfl) ?_
      refine Q_pass (dj := 26) rfl rfl (.inr rfl) ?_
      refine Q_pass (dj := 26) rfl rfl (.inr rfl) ?_
      refine Q_pass (dj := 26) rfl rfl (.inr rfl) ?_
      refine Q_pass (dj := 26) rfl rfl (.inr rfl) ?_
      refine Q_pass (dj := 26) rfl rfl (.inr rfl) ?_
      refine Q_pass (dj := 26) rfl rfl (.inr rfl) ?_
      refine Q_pass (dj := 26) rfl rfl (.inr rfl) ?_
      refine Q_pass (dj := 26) rfl rfl (.inr rfl) ?_
      refine Q_pass (dj := 23) rfl rfl (.inl rfl) ?_
      refine Q_pu (P_pick true (vb true) (by exact congrArg Value.bool rfl) rfl) ?_
      refine Q_nil fun w79 g80 => ?_
      have hc82 := hc70.k0 g80
      refine W_ct (b := true) rfl rfl ?_
      refine W_seq ?_
      refine W_reg ?_
      refine L_pu (P_assign (vb false) rfl) ?_
      refine L_nil ?_
      refine W_ret ?_
      have hc83 := hc82.drop 0 rfl
      exact ⟨[vb false], ⟨_, rfl, rfl⟩, false, rfl, H, hc83.gr.g0⟩
    · have H := ite_f H hq78
      refine Q_run (dj := 17) rfl rfl (by exact congrArg Value.bool hq78) ?_
      refine Q_pu (P_fa fa133_1 ⟨b60, 0, none⟩ ⟨b60, 1, none⟩ rfl rfl) ?_
      refine Q_run (dj := 17) rfl rfl (by exact congrArg Value.bool hq78) ?_
      refine Q_pu (P_ld ag9 cQ ⟨b60, 1, none⟩ (vs ((nth f.Tags v2).Val)) rfl (hx69.cell rfl)) ?_
      refine Q_run (dj := 17) rfl rfl (by exact congrArg Value.bool hq78) ?_
      obtain ⟨q2, hE89, H⟩ := H
      refine Q_call go53 [vs ((nth f.Tags v2).Val)] rfl (vb q2) (fun w g => (impl_WordOk.calls w (hc70.k0 g).ok ((nth f.Tags v2).Val) hs58 _ hE89).mono ?_) ?_
      · rintro _ w ⟨r, rfl, rfl, g2⟩
        exact ⟨rfl, Gr.t0 g g2⟩
      refine Q_run (dj := 17) rfl rfl (by exact congrArg Value.bool hq78) ?_
      refine Q_pu (P_not q2 rfl) ?_
      refine Q_pu (P_pick false (vb (!q2)) (by exact congrArg Value.bool hq78) rfl) ?_
      refine Q_pu (P_move (vb (!q2)) rfl) ?_
      rcases bool_or (!q2) with hq91 | hq91
      · have H := ite_t H hq91
        refine Q_pass (dj := 23) rfl rfl (.inl (by exact congrArg Value.bool hq91)) ?_
        refine Q_pass (dj := 23) rfl rfl (.inl (by exact congrArg Value.bool hq91)) ?_
        refine Q_pass (dj := 23) rfl rfl (.inl (by exact congrArg Value.bool hq91)) ?_
        refine Q_pass (dj := 26) rfl rfl (.inr rfl) ?_
        refine Q_pass (dj := 26) rfl rfl (.inr rfl) ?_
        refine Q_pass (dj := 26) rfl rfl (.inr rfl) ?_
        refine Q_pass (dj := 26) rfl rfl (.inr rfl) ?_
        refine Q_pass (dj := 26) rfl rfl (.inr rfl) ?_
        refine Q_pass (dj := 26) rfl rfl (.inr rfl) ?_
        refine Q_pass (dj := 26) rfl rfl (.inr rfl) ?_
        refine Q_pass (dj := 26) rfl rfl (.inr rfl) ?_
        refine Q_pass (dj := 26) rfl rfl (.inr rfl) ?_
        refine Q_pass (dj := 26) rfl rfl (.inr rfl) ?_
        refine Q_pass (dj := 23) rfl rfl (.inl (by exact congrArg Value.bool hq91)) ?_
        refine Q_pu (P_pick true (vb true) (by exact congrArg Value.bool hq91) rfl) ?_
        refine Q_nil fun w92 g93 => ?_
        have hc95 := hc70.k0 g93
        refine W_ct (b := true) rfl rfl ?_
        refine W_seq ?_
        refine W_reg ?_
        refine L_pu (P_assign (vb false) rfl) ?_
        refine L_nil ?_
        refine W_ret ?_
        have hc96 := hc95.drop 0 rfl
        exact ⟨[vb false], ⟨_, rfl, rfl⟩, false, rfl, H, hc96.gr.g0⟩
      · have H := ite_f H hq91
        refine Q_run (dj := 23) rfl rfl (by exact congrArg Value.bool hq91) ?_
        refine Q_pu (P_move (vi v2) rfl) ?_
        refine Q_run (dj := 23) rfl rfl (by exact congrArg Value.bool hq91) ?_
        refine Q_pu (P_cmp v2 0 (decide (v2 > 0)) rfl rfl rfl) ?_
        refine Q_run (dj := 23) rfl rfl (by exact congrArg Value.bool hq91) ?_
        refine Q_pu (P_move (vb (decide (v2 > 0))) rfl) ?_
        rcases bool_or (decide (v2 > 0)) with hq97 | hq97
        · have H := ite_t H hq97
          refine Q_run (dj := 26) rfl rfl (by exact congrArg Value.bool hq97) ?_
          refine Q_pu (P_fa fa71_2 ⟨b13, 0, none⟩ ⟨b13, 3, none⟩ rfl rfl) ?_
          refine Q_run (dj := 26) rfl rfl (by exact congrArg Value.bool hq97) ?_
          have h98 := ((h42.st (.own _ _ g61 (oge hl62))).st (.wl (L := [some b60]) (O := O) (j := 0) rfl g68))
          refine Q_pu (P_ld ag69 cQ ⟨b13, 3, none⟩ (.slice A7 n8 c9) rfl (h98.cell rfl)) ?_
          refine Q_run (dj := 26) rfl rfl (by exact congrArg Value.bool hq97) ?_
          refine Q_pu (P_move (vi v2) rfl) ?_
          refine Q_run (dj := 26) rfl rfl (by exact congrArg Value.bool hq97) ?_
          obtain ⟨hb99, H⟩ := H
          refine Q_pu (P_sub v2 1 rfl rfl hb99) ?_
          refine Q_run (dj := 26) rfl rfl (by exact congrArg Value.bool hq97) ?_
          obtain ⟨hb100, H⟩ := H
          have h107 := ((h40.st (.own _ _ g61 (oge hl62))).st (.wl (L := [some b60]) (O := O) (j := 0) rfl g68))
          obtain ⟨ad101, cs102, hA103, hS106, hR104, hcl105⟩ := h107.get default (by decide) (v2 - 1) hb100
          obtain ⟨rfl, hs108, hs109⟩ := kTag.op hR104
          refine Q_pu (P_ia Try.underlying69 se69 A7 ad101 n8 c9 h107.len (v2 - 1) rfl hA103 rfl hb100) ?_
          refine Q_run (dj := 26) rfl rfl (by exact congrArg Value.bool hq97) ?_
          refine Q_pu (P_fa fa133_0 (ad101.add ((v2 - 1).toNat * 2)) ((ad101.add ((v2 - 1).toNat * 2)).add 0) rfl rfl) ?_
          refine Q_run (dj := 26) rfl rfl (by exact congrArg Value.bool hq97) ?_
          refine Q_pu (P_ld ag9 cQ ((ad101.add ((v2 - 1).toNat * 2)).add 0) (vs ((nth f.Tags (v2 - 1)).Key)) rfl (hcl105 0 _ rfl)) ?_
          refine Q_run (dj := 26) rfl rfl (by exact congrArg Value.bool hq97) ?_
          refine Q_pu (P_fa fa133_0 ⟨b60, 0, none⟩ ⟨b60, 0, none⟩ rfl rfl) ?_
          refine Q_run (dj := 26) rfl rfl (by exact congrArg Value.bool hq97) ?_
          refine Q_pu (P_ld ag9 cQ ⟨b60, 0, none⟩ (vs ((nth f.Tags v2).Key)) rfl (hx69.cell rfl)) ?_
          refine Q_run (dj := 26) rfl rfl (by exact congrArg Value.bool hq97) ?_
          refine Q_pu (P_scmp ((nth f.Tags (v2 - 1)).Key) ((nth f.Tags v2).Key) (!(Op.bytesLess ((nth f.Tags (v2 - 1)).Key) ((nth f.Tags v2).Key))) rfl rfl rfl) ?_
          refine Q_run (dj := 23) rfl rfl (by exact congrArg Value.bool hq91) ?_
          refine Q_pu (P_pick true (vb (!(Op.bytesLess ((nth f.Tags (v2 - 1)).Key) ((nth f.Tags v2).Key)))) (by exact congrArg Value.bool hq97) rfl) ?_
          refine Q_pu (P_pick false (vb (!(Op.bytesLess ((nth f.Tags (v2 - 1)).Key) ((nth f.Tags v2).Key)))) (by exact congrArg Value.bool hq91) rfl) ?_
          refine Q_nil fun w110 g111 => ?_
          have hc113 := hc70.k0 g111
          refine W_cond (!(Op.bytesLess ((nth f.Tags (v2 - 1)).Key) ((nth f.Tags v2).Key))) rfl (fun hq114 => ?_) (fun hq114 => ?_)
          · have H := ite_t H hq114
            refine W_seq ?_
            refine W_reg ?_
            refine L_pu (P_assign (vb false) rfl) ?_
            refine L_nil ?_
            refine W_ret ?_
            have hc115 := hc113.drop 0 rfl
            exact ⟨[vb false], ⟨_, rfl, rfl⟩, false, rfl, H, hc115.gr.g0⟩
          · have H := ite_f H hq114
            refine W_skip ?_
            refine W_reg ?_
            obtain ⟨hb116, H⟩ := H
            refine L_pu (P_add v2 1 rfl rfl hb116) ?_
            refine L_pu (P_move (vi (v2 + 1)) rfl) ?_
            refine L_nil ?_
            have hc117 := hc113.drop 0 rfl
            obtain ⟨hI118, hm119⟩ := H
            have h120 := ((h107.st (.new _ g111)).st (.dr _ (L := [some b60]) (O := O) (j := 0) rfl))
            have h121 := ((((h41.st (.own _ _ g61 (oge hl62))).st (.wl (L := [some b60]) (O := O) (j := 0) rfl g68)).st (.new _ g111)).st (.dr _ (L := [some b60]) (O := O) (j := 0) rfl))
            have h122 := ((h98.st (.new _ g111)).st (.dr _ (L := [some b60]) (O := O) (j := 0) rfl))
            exact ⟨v2 + 1, hm119, hI118, ⟨rfl, rfl, rfl, rfl, trivial⟩, hc117, h120, h121, h122⟩
        · have H := ite_f H hq97
          refine Q_pass (dj := 26) rfl rfl (.inl (by exact congrArg Value.bool hq97)) ?_
          refine Q_pass (dj := 26) rfl rfl (.inl (by exact congrArg Value.bool hq97)) ?_
          refine Q_pass (dj := 26) rfl rfl (.inl (by exact congrArg Value.bool hq97)) ?_
          refine Q_pass (dj := 26) rfl rfl (.inl (by exact congrArg Value.bool hq97)) ?_
          refine Q_pass (dj := 26) rfl rfl (.inl (by exact congrArg Value.bool hq97)) ?_
          refine Q_pass (dj := 26) rfl rfl (.inl (by exact congrArg Value.bool hq97)) ?_
          refine Q_pass (dj := 26) rfl rfl (.inl (by exact congrArg Value.bool hq97)) ?_
          refine Q_pass (dj := 26) rfl rfl (.inl (by exact congrArg Value.bool hq97)) ?_
          refine Q_pass (dj := 26) rfl rfl (.inl (by exact congrArg Value.bool hq97)) ?_
          refine Q_pass (dj := 26) rfl rfl (.inl (by exact congrArg Value.bool hq97)) ?_
          refine Q_run (dj := 23) rfl rfl (by exact congrArg Value.bool hq91) ?_
          refine Q_pu (P_pick false (vb false) (by exact congrArg Value.bool hq97) rfl) ?_
          refine Q_pu (P_pick false (vb false) (by exact congrArg Value.bool hq91) rfl) ?_
          refine Q_nil fun w123 g124 => ?_
          have hc126 := hc70.k0 g124
          refine W_cf (b := false) rfl rfl ?_
          refine W_skip ?_
          refine W_reg ?_
          obtain ⟨hb127, H⟩ := H
          refine L_pu (P_add v2 1 rfl rfl hb127) ?_
          refine L_pu (P_move (vi (v2 + 1)) rfl) ?_
          refine L_nil ?_
          have hc128 := hc126.drop 0 rfl
          obtain ⟨hI129, hm130⟩ := H
          have h131 := ((((h40.st (.own _ _ g61 (oge hl62))).st (.wl (L := [some b60]) (O := O) (j := 0) rfl g68)).st (.new _ g124)).st (.dr _ (L := [some b60]) (O := O) (j := 0) rfl))
          have h132 := ((((h41.st (.own _ _ g61 (oge hl62))).st (.wl (L := [some b60]) (O := O) (j := 0) rfl g68)).st (.new _ g124)).st (.dr _ (L := [some b60]) (O := O) (j := 0) rfl))
          have h133 := ((((h42.st (.own _ _ g61 (oge hl62))).st (.wl (L := [some b60]) (O := O) (j := 0) rfl g68)).st (.new _ g124)).st (.dr _ (L := [some b60]) (O := O) (j := 0) rfl))
          exact ⟨v2 + 1, hm130, hI129, ⟨rfl, rfl, rfl, rfl, trivial⟩, hc128, h131, h132, h133⟩
  · have H := ite_f H hq49
    refine W_exit (xin_hit ?_)
    refine W_seq ?_
    refine W_reg ?_
    refine L_pu (P_fa fa71_0 ⟨b13, 0, none⟩ ⟨b13, 0, none⟩ rfl rfl) ?_
    refine L_pu (P_ld ag9 cL ⟨b13, 0, none⟩ (vs f.Id) rfl (h42.cell rfl)) ?_
    refine L_call go53 [vs f.Id] rfl ((impl_WordOk.calls w36 hc39.ok f.Id hs1 _ H).mono ?_)
    rintro _ w134 ⟨r3, rfl, H, g135⟩
    have hc139 := hc39.k0 g135
    refine L_pu (P_move (vb r3) rfl) ?_
    rcases bool_or r3 with hq140 | hq140
    · have H := ite_t H hq140
      refine L_run (dj := 43) rfl rfl (by exact congrArg Value.bool hq140) ?_
      refine L_pu (P_fa fa71_1 ⟨b13, 0, none⟩ ⟨b13, 1, none⟩ rfl rfl) ?_
      refine L_run (dj := 43) rfl rfl (by exact congrArg Value.bool hq140) ?_
      have h141 := (h42.st (.new _ g135))
      refine L_pu (P_lda ag68 sz68 cL ⟨b13, 1, none⟩ [vi f.Shape.Kind, .slice A2 n3 c4] rfl rfl (h141.cells (off := 1) rfl)) ?_
      refine L_run (dj := 43) rfl rfl (by exact congrArg Value.bool hq140) ?_
      refine L_call go96 [.agg #[vi f.Shape.Kind, .slice A2 n3 c4]] rfl ((impl_ShapeOk.calls w134 hc139.ok f.Shape A2 n3 c4 (h41.st (.new _ g135)) _ H).mono ?_)
      rintro _ w142 ⟨r4, rfl, H, g143⟩
      have hc147 := hc139.k0 g143
      refine L_pu (P_pick true (vb r4) (by exact congrArg Value.bool hq140) rfl) ?_
      refine L_pu (P_move (vb r4) rfl) ?_
      rcases bool_or r4 with hq148 | hq148
      · have H := ite_t H hq148
        refine L_run (dj := 48) rfl rfl (by exact congrArg Value.bool hq148) ?_
        refine L_pu (P_fa fa71_2 ⟨b13, 0, none⟩ ⟨b13, 3, none⟩ rfl rfl) ?_
        refine L_run (dj := 48) rfl rfl (by exact congrArg Value.bool hq148) ?_
        have h149 := (h141.st (.new _ g143))
        refine L_pu (P_ld ag69 cL ⟨b13, 3, none⟩ (.slice A7 n8 c9) rfl (h149.cell rfl)) ?_
        refine L_run (dj := 48) rfl rfl (by exact congrArg Value.bool hq148) ?_
        have h150 := ((h40.st (.new _ g135)).st (.new _ g143))
        have hl151 := h150.le
        refine L_pu (P_len Try.underlying69 A7 n8 c9 h150.len rfl) ?_
        refine L_run (dj := 48) rfl rfl (by exact congrArg Value.bool hq148) ?_
        refine L_pu (P_cmp (f.Tags.length : Int) 4 (decide ((f.Tags.length : Int) ≤ 4)) rfl rfl rfl) ?_
        refine L_pu (P_pick true (vb (decide ((f.Tags.length : Int) ≤ 4))) (by exact congrArg Value.bool hq148) rfl) ?_
        refine L_pu (P_assign (vb (decide ((f.Tags.length : Int) ≤ 4))) rfl) ?_
        refine L_nil ?_
        refine W_ret ?_
        exact ⟨[vb (decide ((f.Tags.length : Int) ≤ 4))], ⟨_, rfl, rfl⟩, decide ((f.Tags.length : Int) ≤ 4), rfl, H, hc147.gr.g0⟩
      · have H := ite_f H hq148
        refine L_pass (dj := 48) rfl rfl (.inl (by exact congrArg Value.bool hq148)) ?_
        refine L_pass (dj := 48) rfl rfl (.inl (by exact congrArg Value.bool hq148)) ?_
        refine L_pass (dj := 48) rfl rfl (.inl (by exact congrArg Value.bool hq148)) ?_
        refine L_pass (dj := 48) rfl rfl (.inl (by exact congrArg Value.bool hq148)) ?_
        refine L_pu (P_pick false (vb false) (by exact congrArg Value.bool hq148) rfl) ?_
        refine L_pu (P_assign (vb false) rfl) ?_
        refine L_nil ?_
        refine W_ret ?_
        exact ⟨[vb false], ⟨_, rfl, rfl⟩, false, rfl, H, hc147.gr.g0⟩
    · have H := ite_f H hq140
      refine L_pass (dj := 43) rfl rfl (.inl (by exact congrArg Value.bool hq140)) ?_
      refine L_pass (dj := 43) rfl rfl (.inl (by exact congrArg Value.bool hq140)) ?_
      refine L_pass (dj := 43) rfl rfl (.inl (by exact congrArg Value.bool hq140)) ?_
      refine L_pu (P_pick false (vb false) (by exact congrArg Value.bool hq140) rfl) ?_
      refine L_pu (P_move (vb false) rfl) ?_
      refine L_pass (dj := 48) rfl rfl (.inl rfl) ?_
      refine L_pass (dj := 48) rfl rfl (.inl rfl) ?_
      refine L_pass (dj := 48) rfl rfl (.inl rfl) ?_
      refine L_pass (dj := 48) rfl rfl (.inl rfl) ?_
      refine L_pu (P_pick false (vb false) (by exact congrArg Value.bool rfl) rfl) ?_
      refine L_pu (P_assign (vb false) rfl) ?_
      refine L_nil ?_
      refine W_ret ?_
      exact ⟨[vb false], ⟨_, rfl, rfl⟩, false, rfl, H, hc139.gr.g0⟩
end Go.Proofs.Ytndjggncgpjolaa

namespace Go.Proofs.Ytndjggncgpjolaa
set_option linter.unusedVariables false
set_option linter.unusedSimpArgs false
set_option linter.unusedSectionVars false
theorem impl_FeatOk.law (f : Feat) (Q : Bool → Prop) (hb : bulk f ≤ 1048576) (hq : Q (featOk f)) : impl_FeatOk.E f Q := by
  unfold impl_FeatOk.E
  unfold featOk at hq
  have b1 : bulk f = bulk f.Id + bulk f.Shape + bulk f.Tags := rfl
  have b2 : bulk f.Shape = bulk f.Shape.Kind + bulk f.Shape.Pts := rfl
  have l1 := bulk_len f.Tags; have l2 := bulk_len f.Shape.Pts; have l3 := bulk_len f.Id
  have core : (tagsOk f.Tags = true → impl_WordOk.E f.Id (fun r3 => (if r3 then impl_ShapeOk.E f.Shape (fun r4 => (if r4 then Q (decide ((f.Tags.length : Int) ≤ 4)) else Q false)) else Q false))) := fun ha => by
    rw [ha, Bool.true_and] at hq
    refine impl_WordOk.law _ _ (by omega) ?_
    cases h1 : wordOk f.Id with
    | false => rw [h1, Bool.and_false, Bool.false_and] at hq; rw [if_neg (by decide)]; exact hq
    | true =>
      rw [h1, Bool.and_true] at hq
      rw [if_pos rfl]
      refine impl_ShapeOk.law _ _ (by omega) ?_
      cases h2 : shapeOk f.Shape with
      | false => rw [h2, Bool.and_false] at hq; rw [if_neg (by decide)]; exact hq
      | true =>
        rw [h2, Bool.and_true] at hq; rw [if_pos rfl]
        have e2 : decide ((f.Tags.length : Int) ≤ 4) = decide (f.Tags.length ≤ 4) := decide_eq_decide.2 (by omega)
        rw [e2]; exact hq
  have bad : tagsOk f.Tags = false → Q false := fun h => by
    rw [h, Bool.false_and, Bool.false_and, Bool.false_and] at hq; exact hq
  unfold tagsOk at core bad
  refine loop_all f.Tags.length (fun k => wordOk (nth f.Tags (k : Int)).Key && wordOk (nth f.Tags (k : Int)).Val && (decide (k = 0) || Op.bytesLess (nth f.Tags ((k : Int) - 1)).Key (nth f.Tags (k : Int)).Key)) (fun I mu k hk hp hn => ?_) (fun ha => core (allN_true ha))
  have bad := fun h => bad (allN_false hk h)
  have m1 := bulk_mem (nth_mem f.Tags hk)
  have m2 : bulk (nth f.Tags (k : Int)) = bulk (nth f.Tags (k : Int)).Key + bulk (nth f.Tags (k : Int)).Val := rfl
  have m3 := bulk_len (nth f.Tags (k : Int)).Key; have m4 := bulk_len (nth f.Tags (k : Int)).Val
  refine ⟨by omega, _, impl_WordOk.law _ _ (by omega) rfl, ?_⟩
  cases h1 : wordOk (nth f.Tags (k : Int)).Key with
  | false => rw [if_pos (by decide)]; exact bad (by rw [h1]; rfl)
  | true =>
    rw [if_neg (by decide)]
    refine ⟨_, impl_WordOk.law _ _ (by omega) rfl, ?_⟩
    cases h2 : wordOk (nth f.Tags (k : Int)).Val with
    | false => rw [if_pos (by decide)]; exact bad (by rw [h2, Bool.and_false]; rfl)
    | true =>
      rw [if_neg (by decide)]
      by_cases hk0 : k = 0
      · rw [if_neg (by rw [decide_eq_true_eq]; omega)]
        obtain ⟨i1, i2⟩ := hn (by rw [h1, h2, decide_eq_true hk0]; rfl)
        exact ⟨by unfold I64; omega, i1, i2⟩
      · rw [if_pos (by rw [decide_eq_true_eq]; omega)]
        refine ⟨by unfold I64; omega, by omega, ?_⟩
        cases h3 : Op.bytesLess (nth f.Tags ((k : Int) - 1)).Key (nth f.Tags (k : Int)).Key with
        | false => rw [if_pos (by decide)]; exact bad (by rw [h3, h1, h2, decide_eq_false hk0]; rfl)
        | true =>
          rw [if_neg (by decide)]
          obtain ⟨i1, i2⟩ := hn (by rw [h3, h1, h2, decide_eq_false hk0]; rfl)
          exact ⟨by unfold I64; omega, i1, i2⟩
end Go.Proofs.Ytndjggncgpjolaa

namespace Go.Proofs.Ytndjggncgpjolaa
open Go.RowKit
set_option linter.unusedVariables false
def impl_SheetOk.E (s : List Feat) (Q : Bool → Prop) : Prop :=
  (∃ (I19 : Int → Prop) (mu20 : Int → Nat), I19 0 ∧ ∀ (v2 : Int), I19 v2 → (if decide (v2 < (s.length : Int)) then ((0 : Int) ≤ v2 ∧ v2 < (s.length : Int)) ∧ (∃ q : Bool, impl_FeatOk.E (nth s v2) (fun x => x = q) ∧ (if !q then Q false else (if decide (v2 > 0) then (I64 (v2 - 1)) ∧ ((0 : Int) ≤ v2 - 1 ∧ v2 - 1 < (s.length : Int)) ∧ (if !(Op.bytesLess ((nth s (v2 - 1)).Id) ((nth s v2).Id)) then Q false else (I64 (v2 + 1)) ∧ I19 (v2 + 1) ∧ mu20 (v2 + 1) < mu20 v2) else (I64 (v2 + 1)) ∧ I19 (v2 + 1) ∧ mu20 (v2 + 1) < mu20 v2))) else Q (decide ((s.length : Int) ≤ 8))))
set_option maxHeartbeats 8000000 in
set_option maxRecDepth 100000 in
theorem impl_SheetOk.calls {O : Ob} (w0 : World) (hO : Ok w0 O) (s : List Feat) (A1 : Option Addr) (n2 c3 : Nat) (hp4 : Sl kFeat w0 (Fr O) (.slice A1 n2 c3) s) (Q : Bool → Prop) (h : impl_SheetOk.E s Q) :
    Ret Try.prog 74 [.slice A1 n2 c3] w0 (fun v w' => ∃ (r0 : Bool), v = vb r0 ∧ Q r0 ∧ Gr w0 w' none) := by
  have H : (∃ (I19 : Int → Prop) (mu20 : Int → Nat), I19 0 ∧ ∀ (v2 : Int), I19 v2 → (if decide (v2 < (s.length : Int)) then ((0 : Int) ≤ v2 ∧ v2 < (s.length : Int)) ∧ (∃ q : Bool, impl_FeatOk.E (nth s v2) (fun x => x = q) ∧ (if !q then Q false else (if decide (v2 > 0) then (I64 (v2 - 1)) ∧ ((0 : Int) ≤ v2 - 1 ∧ v2 - 1 < (s.length : Int)) ∧ (if !(Op.bytesLess ((nth s (v2 - 1)).Id) ((nth s v2).Id)) then Q false else (I64 (v2 + 1)) ∧ I19 (v2 + 1) ∧ mu20 (v2 + 1) < mu20 v2) else (I64 (v2 + 1)) ∧ I19 (v2 + 1) ∧ mu20 (v2 + 1) < mu20 v2))) else Q (decide ((s.length : Int) ≤ 8)))) := h
  clear h
  have hc0 := Ct.init hO
  refine Ret_enter Try.func74 rfl 34 rfl [.tmp 2] rfl rfl ?_
  refine W_seq ?_
  refine W_reg ?_
  refine L_pu (P_assign (vb false) rfl) ?_
  refine L_nil ?_
  refine W_seq ?_
  refine W_seq ?_
  refine W_reg ?_
  refine L_pu (P_move (.slice A1 n2 c3) rfl) ?_
  have hl6 := hp4.le
  refine L_pu (P_len Try.underlying52 A1 n2 c3 hp4.len rfl) ?_
  refine L_pu (P_move (vi 0) rfl) ?_
  refine L_nil ?_
  refine W_block ?_
  obtain ⟨I19, mu20, hI21, H⟩ := H
  refine W_loop (α := Int) (fun (sv__ : Int) t w15 => match sv__ with | v2 => I19 v2 ∧ Has t [(0, .slice A1 n2 c3), (5, .slice A1 n2 c3), (6, vi (s.length : Int)), (7, vi v2)] ∧ Ct [] w0 w15 [] O ∧ Sl kFeat w15 (Fr ([] ++ O)) (.slice A1 n2 c3) s) (fun (sv__ : Int) => match sv__ with | v2 => mu20 v2) 0 ⟨hI21, ⟨rfl, rfl, rfl, rfl, trivial⟩, hc0, hp4⟩ ?_
  rintro v2 _ w15 ⟨hI21, hh23, hc17, h18⟩
  obtain ⟨u24, rfl⟩ := Has.ins hh23
  have H := H v2 hI21
  refine W_seq ?_
  refine W_reg ?_
  refine L_pu (P_cmp v2 (s.length : Int) (decide (v2 < (s.length : Int))) rfl rfl rfl) ?_
  refine L_nil ?_
  refine W_seq ?_
  refine W_cond (decide (v2 < (s.length : Int))) rfl (fun hq25 => ?_) (fun hq25 => ?_)
  · have H := ite_t H hq25
    refine W_skip ?_
    refine W_seq ?_
    refine W_block ?_
    refine W_seq ?_
    refine W_reg ?_
    refine L_pu (P_move (vi v2) rfl) ?_
    obtain ⟨hb26, H⟩ := H
    obtain ⟨ad27, cs28, hA29, hS32, hR30, hcl31⟩ := h18.get default (by decide) v2 hb26
    obtain ⟨A34, n35, c36, A39, n40, c41, rfl, hs33, h37, h42⟩ := kFeat.op hR30
    refine L_pu (P_ia Try.underlying52 se52 A1 ad27 n2 c3 h18.len v2 rfl hA29 rfl hb26) ?_
    refine L_pu (P_lda ag71 sz71 cL (ad27.add (v2.toNat * 4)) [vs ((nth s v2).Id), vi ((nth s v2).Shape.Kind), .slice A34 n35 c36, .slice A39 n40 c41] rfl rfl hcl31) ?_
    refine L_alloc [vs [], .int .i64 0, .slice none 0 0, .slice none 0 0] ze71 fun w44 b45 hl47 hu48 g46 hx49 => ?_
    have hc51 := hc17.own g46 (some b45) (oglt hl47 hu48)
    refine L_pu (P_assign (vi v2) rfl) ?_
    refine L_stb b45 0 [vs ([] : Str), vi 0, .slice none 0 0, .slice none 0 0] [vs ((nth s v2).Id), vi ((nth s v2).Shape.Kind), .slice A34 n35 c36, .slice A39 n40 c41] [vs ((nth s v2).Id), vi ((nth s v2).Shape.Kind), .slice A34 n35 c36, .slice A39 n40 c41] rfl hx49 rfl sz71 rfl rfl rfl fun w52 g53 hx54 => ?_
    have hc55 := hc51.wr 0 rfl g53
    refine L_nil ?_
    refine W_seq ?_
    refine W_draw (fun x => Gr w52 x none) (by kernel_rfl) (by kernel_rfl) (Gr.drew _) ?_
    refine Q_pu (P_lda ag71 sz71 cQ ⟨b45, 0, none⟩ [vs ((nth s v2).Id), vi ((nth s v2).Shape.Kind), .slice A34 n35 c36, .slice A39 n40 c41] rfl rfl (hx54.cells (off := 0) rfl)) ?_
    have h56 := ((h37.st (.own _ _ g46 (oge hl47))).st (.wl (L := [some b45]) (O := O) (j := 0) rfl g53))
    have h57 := ((h42.st (.own _ _ g46 (oge hl47))).st (.wl (L := [some b45]) (O := O) (j := 0) rfl g53))
    obtain ⟨q, hE63, H⟩ := H
    refine Q_call go93 [.agg #[vs ((nth s v2).Id), vi ((nth s v2).Shape.Kind), .slice A34 n35 c36, .slice A39 n40 c41]] rfl (vb q) (fun w g => (impl_FeatOk.calls w (hc55.k0 g).ok (nth s v2) A34 n35 c36 A39 n40 c41 hs33 (h56.st (.new _ g)) (h57.st (.new _ g)) _ hE63).mono ?_) ?_
    · rintro _ w ⟨r, rfl, rfl, g2⟩
      exact ⟨rfl, Gr.t0 g g2⟩
    refine Q_pu (P_not q rfl) ?_
    refine Q_pu (P_move (vb (!q)) rfl) ?_
    rcases bool_or (!q) with hq65 | hq65
    · have H := ite_t H hq65
      refine Q_pass (dj := 15) rfl rfl (.inl (by exact congrArg Value.bool hq65)) ?_
      refine Q_pass (dj := 15) rfl rfl (.inl (by exact congrArg Value.bool hq65)) ?_
      refine Q_pass (dj := 15) rfl rfl (.inl (by exact congrArg Value.bool hq65)) ?_
      refine Q_pass (dj := 18) rfl rfl (.inr rfl) ?_
      refine Q_pass (dj := 18) rfl rfl (.inr rfl) ?_
      refine Q_pass (dj := 18) rfl rfl (.inr rfl) ?_
      refine Q_pass (dj := 18) rfl rfl (.inr rfl) ?_
      refine Q_pass (dj := 18) rfl rfl (.inr rfl) ?_
      refine Q_pass (dj := 18) rfl rfl (.inr rfl) ?_
      refine Q_pass (dj := 18) rfl rfl (.inr rfl) ?_
      refine Q_pass (dj := 18) rfl rfl (.inr rfl) ?_
      refine Q_pass (dj := 18) rfl rfl (.inr rfl) ?_
      refine Q_pass (dj := 15) rfl rfl (.inl (by exact congrArg Value.bool hq65)) ?_
      refine Q_pu (P_pick true (vb true) (by exact congrArg Value.bool hq65) rfl) ?_
      refine Q_nil fun w66 g67 => ?_
      have hc69 := hc55.k0 g67
      refine W_ct (b := true) rfl rfl ?_
      refine W_seq ?_
      refine W_reg ?_
      refine L_pu (P_assign (vb false) rfl) ?_
      refine L_nil ?_
      refine W_ret ?_
      have hc70 := hc69.drop 0 rfl
      exact ⟨[vb false], ⟨_, rfl, rfl⟩, false, rfl, H, hc70.gr.g0⟩
    · have H := ite_f H hq65
      refine Q_run (dj := 15) rfl rfl (by exact congrArg Value.bool hq65) ?_
      refine Q_pu (P_move (vi v2) rfl) ?_
      refine Q_run (dj := 15) rfl rfl (by exact congrArg Value.bool hq65) ?_
      refine Q_pu (P_cmp v2 0 (decide (v2 > 0)) rfl rfl rfl) ?_
      refine Q_run (dj := 15) rfl rfl (by exact congrArg Value.bool hq65) ?_
      refine Q_pu (P_move (vb (decide (v2 > 0))) rfl) ?_
      rcases bool_or (decide (v2 > 0)) with hq71 | hq71
      · have H := ite_t H hq71
        refine Q_run (dj := 18) rfl rfl (by exact congrArg Value.bool hq71) ?_
        refine Q_pu (P_move (.slice A1 n2 c3) rfl) ?_
        refine Q_run (dj := 18) rfl rfl (by exact congrArg Value.bool hq71) ?_
        refine Q_pu (P_move (vi v2) rfl) ?_
        refine Q_run (dj := 18) rfl rfl (by exact congrArg Value.bool hq71) ?_
        obtain ⟨hb72, H⟩ := H
        refine Q_pu (P_sub v2 1 rfl rfl hb72) ?_
        refine Q_run (dj := 18) rfl rfl (by exact congrArg Value.bool hq71) ?_
        obtain ⟨hb73, H⟩ := H
        have h80 := ((h18.st (.own _ _ g46 (oge hl47))).st (.wl (L := [some b45]) (O := O) (j := 0) rfl g53))
        obtain ⟨ad74, cs75, hA76, hS79, hR77, hcl78⟩ := h80.get default (by decide) (v2 - 1) hb73
        obtain ⟨A82, n83, c84, A87, n88, c89, rfl, hs81, h85, h90⟩ := kFeat.op hR77
        refine Q_pu (P_ia Try.underlying52 se52 A1 ad74 n2 c3 h80.len (v2 - 1) rfl hA76 rfl hb73) ?_
        refine Q_run (dj := 18) rfl rfl (by exact congrArg Value.bool hq71) ?_
        refine Q_pu (P_fa fa71_0 (ad74.add ((v2 - 1).toNat * 4)) ((ad74.add ((v2 - 1).toNat * 4)).add 0) rfl rfl) ?_
        refine Q_run (dj := 18) rfl rfl (by exact congrArg Value.bool hq71) ?_
        refine Q_pu (P_ld ag9 cQ ((ad74.add ((v2 - 1).toNat * 4)).add 0) (vs ((nth s (v2 - 1)).Id)) rfl (hcl78 0 _ rfl)) ?_
        refine Q_run (dj := 18) rfl rfl (by exact congrArg Value.bool hq71) ?_
        refine Q_pu (P_fa fa71_0 ⟨b45, 0, none⟩ ⟨b45, 0, none⟩ rfl rfl) ?_
        refine Q_run (dj := 18) rfl rfl (by exact congrArg Value.bool hq71) ?_
        refine Q_pu (P_ld ag9 cQ ⟨b45, 0, none⟩ (vs ((nth s v2).Id)) rfl (hx54.cell rfl)) ?_
        refine Q_run (dj := 18) rfl rfl (by exact congrArg Value.bool hq71) ?_
        refine Q_pu (P_scmp ((nth s (v2 - 1)).Id) ((nth s v2).Id) (!(Op.bytesLess ((nth s (v2 - 1)).Id) ((nth s v2).Id))) rfl rfl rfl) ?_
        refine Q_run (dj := 15) rfl rfl (by exact congrArg Value.bool hq65) ?_
        refine Q_pu (P_pick true (vb (!(Op.bytesLess ((nth s (v2 - 1)).Id) ((nth s v2).Id)))) (by exact congrArg Value.bool hq71) rfl) ?_
        refine Q_pu (P_pick false (vb (!(Op.bytesLess ((nth s (v2 - 1)).Id) ((nth s v2).Id)))) (by exact congrArg Value.bool hq65) rfl) ?_
        refine Q_nil fun w92 g93 => ?_
        have hc95 := hc55.k0 g93
        refine W_cond (!(Op.bytesLess ((nth s (v2 - 1)).Id) ((nth s v2).Id))) rfl (fun hq96 => ?_) (fun hq96 => ?_)
        · have H := ite_t H hq96
          refine W_seq ?_
          refine W_reg ?_
          refine L_pu (P_assign (vb false) rfl) ?_
          refine L_nil ?_
          refine W_ret ?_
          have hc97 := hc95.drop 0 rfl
          exact ⟨[vb false], ⟨_, rfl, rfl⟩, false, rfl, H, hc97.gr.g0⟩
        · have H := ite_f H hq96
          refine W_skip ?_
          refine W_reg ?_
          obtain ⟨hb98, H⟩ := H
          refine L_pu (P_add v2 1 rfl rfl hb98) ?_
          refine L_pu (P_move (vi (v2 + 1)) rfl) ?_
          refine L_nil ?_
          have hc99 := hc95.drop 0 rfl
          obtain ⟨hI100, hm101⟩ := H
          have h102 := ((h80.st (.new _ g93)).st (.dr _ (L := [some b45]) (O := O) (j := 0) rfl))
          exact ⟨v2 + 1, hm101, hI100, ⟨rfl, rfl, rfl, rfl, trivial⟩, hc99, h102⟩
      · have H := ite_f H hq71
        refine Q_pass (dj := 18) rfl rfl (.inl (by exact congrArg Value.bool hq71)) ?_
        refine Q_pass (dj := 18) rfl rfl (.inl (by exact congrArg Value.bool hq71)) ?_
        refine Q_pass (dj := 18) rfl rfl (.inl (by exact congrArg Value.bool hq71)) ?_
        refine Q_pass (dj := 18) rfl rfl (.inl (by exact congrArg Value.bool hq71)) ?_
        refine Q_pass (dj := 18) rfl rfl (.inl (by exact congrArg Value.bool hq71)) ?_
        refine Q_pass (dj := 18) rfl rfl (.inl (by exact congrArg Value.bool hq71)) ?_
        refine Q_pass (dj := 18) rfl rfl (.inl (by exact congrArg Value.bool hq71)) ?_
        refine Q_pass (dj := 18) rfl rfl (.inl (by exact congrArg Value.bool hq71)) ?_
        refine Q_pass (dj := 18) rfl rfl (.inl (by exact congrArg Value.bool hq71)) ?_
        refine Q_run (dj := 15) rfl rfl (by exact congrArg Value.bool hq65) ?_
        refine Q_pu (P_pick false (vb false) (by exact congrArg Value.bool hq71) rfl) ?_
        refine Q_pu (P_pick false (vb false) (by exact congrArg Value.bool hq65) rfl) ?_
        refine Q_nil fun w103 g104 => ?_
        have hc106 := hc55.k0 g104
        refine W_cf (b := false) rfl rfl ?_
        refine W_skip ?_
        refine W_reg ?_
        obtain ⟨hb107, H⟩ := H
        refine L_pu (P_add v2 1 rfl rfl hb107) ?_
        refine L_pu (P_move (vi (v2 + 1)) rfl) ?_
        refine L_nil ?_
        have hc108 := hc106.drop 0 rfl
        obtain ⟨hI109, hm110⟩ := H
        have h111 := ((((h18.st (.own _ _ g46 (oge hl47))).st (.wl (L := [some b45]) (O := O) (j := 0) rfl g53)).st (.new _ g104)).st (.dr _ (L := [some b45]) (O := O) (j := 0) rfl))
        exact ⟨v2 + 1, hm110, hI109, ⟨rfl, rfl, rfl, rfl, trivial⟩, hc108, h111⟩
  · have H := ite_f H hq25
    refine W_exit (xin_hit ?_)
    refine W_seq ?_
    refine W_reg ?_
    refine L_pu (P_move (.slice A1 n2 c3) rfl) ?_
    have hl112 := h18.le
    refine L_pu (P_len Try.underlying52 A1 n2 c3 h18.len rfl) ?_
    refine L_pu (P_cmp (s.length : Int) 8 (decide ((s.length : Int) ≤ 8)) rfl rfl rfl) ?_
    refine L_pu (P_assign (vb (decide ((s.length : Int) ≤ 8))) rfl) ?_
    refine L_nil ?_
    refine W_ret ?_
    exact ⟨[vb (decide ((s.length : Int) ≤ 8))], ⟨_, rfl, rfl⟩, decide ((s.length : Int) ≤ 8), rfl, H, hc17.gr.g0⟩
end Go.Proofs.Ytndjggncgpjolaa

namespace Go.Proofs.Ytndjggncgpjolaa
set_option linter.unusedVariables false
set_option linter.unusedSimpArgs false
set_option linter.unusedSectionVars false
theorem impl_SheetOk.law (d : List Feat) (Q : Bool → Prop) (hb : bulk d ≤ 1048576) (hq : Q (sheetOk d)) : impl_SheetOk.E d Q := by
  unfold impl_SheetOk.E
  unfold sheetOk at hq
  have hl := bulk_len d
  refine loop_all d.length (fun k => featOk (nth d (k : Int)) && (decide (k = 0) || Op.bytesLess (nth d ((k : Int) - 1)).Id (nth d (k : Int)).Id)) (fun I mu k hk hp hn => ?_) (fun ha => ?_)
  · have bad : (featOk (nth d (k : Int)) && (decide (k = 0) || Op.bytesLess (nth d ((k : Int) - 1)).Id (nth d (k : Int)).Id)) = false → Q false := fun h => by
      rw [allN_false hk h, Bool.false_and] at hq; exact hq
    have m1 := bulk_mem (nth_mem d hk)
    refine ⟨by omega, _, impl_FeatOk.law _ _ (by omega) rfl, ?_⟩
    cases h1 : featOk (nth d (k : Int)) with
    | false => rw [if_pos (by decide)]; exact bad (by rw [h1]; rfl)
    | true =>
      rw [if_neg (by decide)]
      by_cases hk0 : k = 0
      · rw [if_neg (by rw [decide_eq_true_eq]; omega)]
        obtain ⟨i1, i2⟩ := hn (by rw [h1, decide_eq_true hk0]; rfl)
        exact ⟨by unfold I64; omega, i1, i2⟩
      · rw [if_pos (by rw [decide_eq_true_eq]; omega)]
        refine ⟨by unfold I64; omega, by omega, ?_⟩
        cases h3 : Op.bytesLess (nth d ((k : Int) - 1)).Id (nth d (k : Int)).Id with
        | false => rw [if_pos (by decide)]; exact bad (by rw [h3, h1, decide_eq_false hk0]; rfl)
        | true =>
          rw [if_neg (by decide)]
          obtain ⟨i1, i2⟩ := hn (by rw [h3, h1, decide_eq_false hk0]; rfl)
          exact ⟨by unfold I64; omega, i1, i2⟩
  · rw [allN_true ha, Bool.true_and] at hq
    have e2 : decide ((d.length : Int) ≤ 8) = decide (d.length ≤ 8) := decide_eq_decide.2 (by omega)
    rw [e2]; exact hq
end Go.Proofs.Ytndjggncgpjolaa

namespace Go.Proofs.Ytndjggncgpjolaa
open Go.RowKit
set_option linter.unusedVariables false
open Go.Shelf Go.Sort Go.Lib
def slices_Sort_string.E (x : List Str) (Q : List Str → Prop) : Prop := x.length ≤ 268435456 ∧ Q (sortS x)
theorem slices_Sort_string.calls {O : Ob} (w0 : World) (hO : Ok w0 O) (A : Option Addr) (n c : Nat) (x : List Str) (hp : Ow Kd.str 9 w0 O (.slice A n c) x) (Q : List Str → Prop) (h : slices_Sort_string.E x Q) :
    Ret Try.prog 83 [.slice A n c] w0 (fun v w' => ∃ (m0 : List Str), v = .tuple #[] ∧ Q m0 ∧ Gr w0 w' (blk (.slice A n c)) ∧ Ow Kd.str 9 w' O (.slice A n c) m0) := by
  obtain ⟨hl, hq⟩ := h
  by_cases hx : 0 < x.length
  · obtain ⟨g, rfl, rfl, hc, hg⟩ := hp.form hx
    refine Calls.mono (Try.slices_Sort_string g 0 c x w0 hp.holds hg (by omega)) fun e w' ⟨he, q, os, hw⟩ => ?_
    subst he; subst hw
    have hs : (sortS x).length = x.length := List.length_mergeSort _
    obtain ⟨h1, h2⟩ := hp.putS (sortS x) hs (fun y hy => hp.lims y (List.mem_mergeSort.1 hy)) q os hx
    exact ⟨_, rfl, sortS x, rfl, hq, h1, h2⟩
  · have e0 : x = [] := List.length_eq_zero_iff.1 (by omega)
    subst e0
    obtain rfl : n = 0 := hp.len
    refine Calls.mono (Try.slices_Sort_string_none A c w0) fun e w' ⟨he, hw⟩ => ?_
    subst he; subst hw
    exact ⟨_, rfl, [], rfl, (by simpa [sortS] using hq), Gr.refl _ _, hp⟩
end Go.Proofs.Ytndjggncgpjolaa

namespace Go.Proofs.Ytndjggncgpjolaa
open Go.RowKit
set_option linter.unusedVariables false
def impl_names.E (maps : List (List Feat)) (Q : List Str → Prop) : Prop :=
  (∃ (I40 : (List Str) → Int → Prop) (mu41 : (List Str) → Int → Nat), I40 ([] : List Str) 0 ∧ ∀ (xs2 : List Str) (v2 : Int), I40 xs2 v2 → (if decide (v2 < (maps.length : Int)) then ((0 : Int) ≤ v2 ∧ v2 < (maps.length : Int)) ∧ (∃ (I90 : (List Str) → Int → Prop) (mu91 : (List Str) → Int → Nat), I90 xs2 0 ∧ ∀ (xs4 : List Str) (v4 : Int), I90 xs4 v4 → (if decide (v4 < ((nth maps v2).length : Int)) then ((0 : Int) ≤ v4 ∧ v4 < ((nth maps v2).length : Int)) ∧ (xs4.length + ([(nth (nth maps v2) v4).Id] : List Str).length ≤ 268435456) ∧ (I64 (v4 + 1)) ∧ I90 (xs4 ++ ([(nth (nth maps v2) v4).Id] : List Str)) (v4 + 1) ∧ mu91 (xs4 ++ ([(nth (nth maps v2) v4).Id] : List Str)) (v4 + 1) < mu91 xs4 v4 else (I64 (v2 + 1)) ∧ I40 xs4 (v2 + 1) ∧ mu41 xs4 (v2 + 1) < mu41 xs2 v2)) else slices_Sort_string.E xs2 (fun m => slices_Compact_string.E m (fun r => Q r))))
set_option maxHeartbeats 8000000 in
set_option maxRecDepth 100000 in
theorem impl_names.calls {O : Ob} (w0 : World) (hO : Ok w0 O) (maps : List (List Feat)) (A1 : Option Addr) (n2 c3 : Nat) (hp4 : Sl (Kd.sl kFeat) w0 (Fr O) (.slice A1 n2 c3) maps) (Q : List Str → Prop) (h : impl_names.E maps Q) :
    Ret Try.prog 75 [.slice A1 n2 c3] w0 (fun v w' => ∃ (r0 : List Str) (A0 : Option Addr) (n0 c0 : Nat), v = .slice A0 n0 c0 ∧ Q r0 ∧ Gr w0 w' none ∧ Ok w' ([blk (.slice A0 n0 c0)] ++ O) ∧ (∀ b, some b ∈ [blk (.slice A0 n0 c0)] → w0.heap.size ≤ b) ∧ Ow Kd.str 9 w' ([blk (.slice A0 n0 c0)] ++ O) (.slice A0 n0 c0) r0) := by
  have H : (∃ (I40 : (List Str) → Int → Prop) (mu41 : (List Str) → Int → Nat), I40 ([] : List Str) 0 ∧ ∀ (xs2 : List Str) (v2 : Int), I40 xs2 v2 → (if decide (v2 < (maps.length : Int)) then ((0 : Int) ≤ v2 ∧ v2 < (maps.length : Int)) ∧ (∃ (I90 : (List Str) → Int → Prop) (mu91 : (List Str) → Int → Nat), I90 xs2 0 ∧ ∀ (xs4 : List Str) (v4 : Int), I90 xs4 v4 → (if decide (v4 < ((nth maps v2).length : Int)) then ((0 : Int) ≤ v4 ∧ v4 < ((nth maps v2).length : Int)) ∧ (xs4.length + ([(nth (nth maps v2) v4).Id] : List Str).length ≤ 268435456) ∧ (I64 (v4 + 1)) ∧ I90 (xs4 ++ ([(nth (nth maps v2) v4).Id] : List Str)) (v4 + 1) ∧ mu91 (xs4 ++ ([(nth (nth maps v2) v4).Id] : List Str)) (v4 + 1) < mu91 xs4 v4 else (I64 (v2 + 1)) ∧ I40 xs4 (v2 + 1) ∧ mu41 xs4 (v2 + 1) < mu41 xs2 v2)) else slices_Sort_string.E xs2 (fun m => slices_Compact_string.E m (fun r => Q r)))) := h
  clear h
  have hc0 := Ct.init hO
  refine Ret_enter Try.func75 rfl 32 rfl [.tmp 2] rfl rfl ?_
  refine W_seq ?_
  refine W_reg ?_
  refine L_pu (P_assign (.slice none 0 0) rfl) ?_
  refine L_nil ?_
  refine W_seq ?_
  refine W_reg ?_
  refine L_lit (kd := Kd.str) ei72 hc0 ([] : List Str) (cells := []) rfl (fun _ => by kernel_rfl) fun w6 A7 n8 c9 g10 hr11 hc12 h13 => ?_
  refine L_pu (P_assign (.slice A7 n8 c9) rfl) ?_
  refine L_nil ?_
  refine W_seq ?_
  refine W_seq ?_
  refine W_reg ?_
  refine L_pu (P_move (.slice A1 n2 c3) rfl) ?_
  have hl15 := (hp4.st hc12.st).le
  refine L_pu (P_len Try.underlying156 A1 n2 c3 (hp4.st hc12.st).len rfl) ?_
  refine L_pu (P_move (vi 0) rfl) ?_
  refine L_nil ?_
  refine W_block ?_
  obtain ⟨I40, mu41, hI42, H⟩ := H
  refine W_loop (α := (List Str) × (Option Addr) × Nat × Nat × Int) (fun (sv__ : (List Str) × (Option Addr) × Nat × Nat × Int) t w31 => match sv__ with | (xs2, A32, n33, c34, v2) => I40 xs2 v2 ∧ Has t [(3, .slice A32 n33 c34), (9, .slice A1 n2 c3), (10, vi (maps.length : Int)), (11, vi v2)] ∧ Ct [] w0 w31 [blk (.slice A32 n33 c34)] O ∧ Sl (Kd.sl kFeat) w31 (Fr ([blk (.slice A32 n33 c34)] ++ O)) (.slice A1 n2 c3) maps ∧ Ow Kd.str 9 w31 ([blk (.slice A32 n33 c34)] ++ O) (.slice A32 n33 c34) xs2) (fun (sv__ : (List Str) × (Option Addr) × Nat × Nat × Int) => match sv__ with | (xs2, _, _, _, v2) => mu41 xs2 v2) (([] : List Str), A7, n8, c9, 0) ⟨hI42, ⟨rfl, rfl, rfl, rfl, trivial⟩, hc12, (hp4.st hc12.st), h13⟩ ?_
  rintro ⟨xs2, A32, n33, c34, v2⟩ _ w31 ⟨hI42, hh44, hc37, h38, h39⟩
  obtain ⟨u45, rfl⟩ := Has.ins hh44
  have H := H xs2 v2 hI42
  refine W_seq ?_
  refine W_reg ?_
  refine L_pu (P_cmp v2 (maps.length : Int) (decide (v2 < (maps.length : Int))) rfl rfl rfl) ?_
  refine L_nil ?_
  refine W_seq ?_
  refine W_cond (decide (v2 < (maps.length : Int))) rfl (fun hq46 => ?_) (fun hq46 => ?_)
  · have H := ite_t H hq46
    refine W_skip ?_
    refine W_seq ?_
    refine W_block ?_
    refine W_seq ?_
    refine W_reg ?_
    obtain ⟨hb47, H⟩ := H
    obtain ⟨ad48, cs49, hA50, hS53, hR51, hcl52⟩ := h38.get default (by decide) v2 hb47
    obtain ⟨A54, n55, c56, rfl, h57⟩ := Kd.sl.op hR51
    refine L_pu (P_ia Try.underlying156 se156 A1 ad48 n2 c3 h38.len v2 rfl hA50 rfl hb47) ?_
    refine L_pu (P_ld ag52 cL (ad48.add (v2.toNat * 1)) (.slice A54 n55 c56) rfl (hcl52 0 _ rfl)) ?_
    refine L_pu (P_assign (.slice A54 n55 c56) rfl) ?_
    refine L_nil ?_
    refine W_seq ?_
    refine W_reg ?_
    refine L_pu (P_move (.slice A54 n55 c56) rfl) ?_
    have hl59 := h57.le
    refine L_pu (P_len Try.underlying52 A54 n55 c56 h57.len rfl) ?_
    refine L_pu (P_move (vi 0) rfl) ?_
    refine L_nil ?_
    refine W_block ?_
    obtain ⟨I90, mu91, hI92, H⟩ := H
    refine W_loop (α := (List Str) × (Option Addr) × Nat × Nat × Int) (fun (sv__ : (List Str) × (Option Addr) × Nat × Nat × Int) t w79 => match sv__ with | (xs4, A80, n81, c82, v4) => I90 xs4 v4 ∧ Has t [(3, .slice A80 n81 c82), (9, .slice A1 n2 c3), (10, vi (maps.length : Int)), (11, vi v2), (15, .slice A54 n55 c56), (16, vi ((nth maps v2).length : Int)), (17, vi v4)] ∧ Ct [] w0 w79 [blk (.slice A80 n81 c82)] O ∧ Sl (Kd.sl kFeat) w79 (Fr ([blk (.slice A80 n81 c82)] ++ O)) (.slice A1 n2 c3) maps ∧ Sl kFeat w79 (Fr ([blk (.slice A80 n81 c82)] ++ O)) (.slice A54 n55 c56) (nth maps v2) ∧ Ow Kd.str 9 w79 ([blk (.slice A80 n81 c82)] ++ O) (.slice A80 n81 c82) xs4) (fun (sv__ : (List Str) × (Option Addr) × Nat × Nat × Int) => match sv__ with | (xs4, _, _, _, v4) => mu91 xs4 v4) (xs2, A32, n33, c34, 0) ⟨hI92, ⟨rfl, rfl, rfl, rfl, rfl, rfl, rfl, trivial⟩, hc37, h38, h57, h39⟩ ?_
    rintro ⟨xs4, A80, n81, c82, v4⟩ _ w79 ⟨hI92, hh94, hc86, h87, h88, h89⟩
    obtain ⟨u95, rfl⟩ := Has.ins hh94
    have H := H xs4 v4 hI92
    refine W_seq ?_
    refine W_reg ?_
    refine L_pu (P_cmp v4 ((nth maps v2).length : Int) (decide (v4 < ((nth maps v2).length : Int))) rfl rfl rfl) ?_
    refine L_nil ?_
    refine W_seq ?_
    refine W_cond (decide (v4 < ((nth maps v2).length : Int))) rfl (fun hq96 => ?_) (fun hq96 => ?_)
    · have H := ite_t H hq96
      refine W_skip ?_
      refine W_seq ?_
      refine W_block ?_
      refine W_seq ?_
      refine W_reg ?_
      obtain ⟨hb97, H⟩ := H
      obtain ⟨ad98, cs99, hA100, hS103, hR101, hcl102⟩ := h88.get default (by decide) v4 hb97
      obtain ⟨A105, n106, c107, A110, n111, c112, rfl, hs104, h108, h113⟩ := kFeat.op hR101
      refine L_pu (P_ia Try.underlying52 se52 A54 ad98 n55 c56 h88.len v4 rfl hA100 rfl hb97) ?_
      refine L_pu (P_lda ag71 sz71 cL (ad98.add (v4.toNat * 4)) [vs ((nth (nth maps v2) v4).Id), vi ((nth (nth maps v2) v4).Shape.Kind), .slice A105 n106 c107, .slice A110 n111 c112] rfl rfl hcl102) ?_
      refine L_alloc [vs [], .int .i64 0, .slice none 0 0, .slice none 0 0] ze71 fun w115 b116 hl118 hu119 g117 hx120 => ?_
      have hc122 := hc86.own g117 (some b116) (oglt hl118 hu119)
      refine L_stb b116 0 [vs ([] : Str), vi 0, .slice none 0 0, .slice none 0 0] [vs ((nth (nth maps v2) v4).Id), vi ((nth (nth maps v2) v4).Shape.Kind), .slice A105 n106 c107, .slice A110 n111 c112] [vs ((nth (nth maps v2) v4).Id), vi ((nth (nth maps v2) v4).Shape.Kind), .slice A105 n106 c107, .slice A110 n111 c112] rfl hx120 rfl sz71 rfl rfl rfl fun w123 g124 hx125 => ?_
      have hc126 := hc122.wr 0 rfl g124
      refine L_nil ?_
      refine W_reg ?_
      refine L_pu (P_move (.slice A80 n81 c82) rfl) ?_
      refine L_pu (P_fa fa71_0 ⟨b116, 0, none⟩ ⟨b116, 0, none⟩ rfl rfl) ?_
      refine L_pu (P_ld ag9 cL ⟨b116, 0, none⟩ (vs ((nth (nth maps v2) v4).Id)) rfl (hx125.cell rfl)) ?_
      refine L_lit (kd := Kd.str) ei72 hc126 ([(nth (nth maps v2) v4).Id] : List Str) (cells := [vs ((nth (nth maps v2) v4).Id)]) ⟨[vs ((nth (nth maps v2) v4).Id)], _, rfl, ⟨rfl, hs104⟩, rfl⟩ (fun _ => by kernel_rfl) fun w127 A128 n129 c130 g131 hr132 hc133 h134 => ?_
      obtain ⟨hb136, H⟩ := H
      have h137 := ((Ow.sw (L := [some b116, blk (.slice A80 n81 c82)]) (O := O) (h89.so _ g117 (oge hl118)) hc122 (i := 1) rfl (j := 0) rfl (by decide) g124).so _ g131 hr132)
      refine L_app ei72 hc133 (.slice A80 n81 c82) xs4 ([(nth (nth maps v2) v4).Id] : List Str) rfl h137 (.slice A128 n129 c130) rfl h134.sx 2 rfl hb136 fun w138 A139 n140 c141 g142 s143 hc144 h145 => ?_
      refine L_pu (P_assign (.slice A139 n140 c141) rfl) ?_
      refine L_nil ?_
      refine W_reg ?_
      obtain ⟨hb147, H⟩ := H
      refine L_pu (P_add v4 1 rfl rfl hb147) ?_
      refine L_pu (P_move (vi (v4 + 1)) rfl) ?_
      refine L_nil ?_
      have hc148 := hc144.drop 0 rfl
      have hc149 := hc148.drop 0 rfl
      obtain ⟨hI150, hm151⟩ := H
      have h152 := ((((((h87.st (.own _ _ g117 (oge hl118))).st (.wl (L := [some b116, blk (.slice A80 n81 c82)]) (O := O) (j := 0) rfl g124)).st (.own _ _ g131 hr132)).st s143).st (.dr _ (L := [blk (.slice A128 n129 c130), some b116, blk (.slice A139 n140 c141)]) (O := O) (j := 0) rfl)).st (.dr _ (L := [some b116, blk (.slice A139 n140 c141)]) (O := O) (j := 0) rfl))
      have h153 := ((((((h88.st (.own _ _ g117 (oge hl118))).st (.wl (L := [some b116, blk (.slice A80 n81 c82)]) (O := O) (j := 0) rfl g124)).st (.own _ _ g131 hr132)).st s143).st (.dr _ (L := [blk (.slice A128 n129 c130), some b116, blk (.slice A139 n140 c141)]) (O := O) (j := 0) rfl)).st (.dr _ (L := [some b116, blk (.slice A139 n140 c141)]) (O := O) (j := 0) rfl))
      have h154 := (Ow.sd (L := [some b116, blk (.slice A139 n140 c141)]) (O := O) (Ow.sd (L := [blk (.slice A128 n129 c130), some b116, blk (.slice A139 n140 c141)]) (O := O) h145 (i := 2) rfl (j := 0) rfl (by decide)) (i := 1) rfl (j := 0) rfl (by decide))
      exact ⟨((xs4 ++ ([(nth (nth maps v2) v4).Id] : List Str)), A139, n140, c141, v4 + 1), hm151, hI150, ⟨rfl, rfl, rfl, rfl, rfl, rfl, rfl, trivial⟩, hc149, h152, h153, h154⟩
    · have H := ite_f H hq96
      refine W_exit (xin_hit ?_)
      refine W_reg ?_
      obtain ⟨hb155, H⟩ := H
      refine L_pu (P_add v2 1 rfl rfl hb155) ?_
      refine L_pu (P_move (vi (v2 + 1)) rfl) ?_
      refine L_nil ?_
      obtain ⟨hI156, hm157⟩ := H
      exact ⟨(xs4, A80, n81, c82, v2 + 1), hm157, hI156, ⟨rfl, rfl, rfl, rfl, trivial⟩, hc86, h87, h89⟩
  · have H := ite_f H hq46
    refine W_exit (xin_hit ?_)
    refine W_seq ?_
    refine W_reg ?_
    refine L_pu (P_move (.slice A32 n33 c34) rfl) ?_
    refine L_call go83 [.slice A32 n33 c34] rfl ((slices_Sort_string.calls w31 hc37.ok A32 n33 c34 xs2 h39 _ H).mono ?_)
    rintro _ w158 ⟨m, rfl, H, g159, hx160⟩
    have hc163 := hc37.wr 0 rfl g159
    refine L_nil ?_
    refine W_seq ?_
    refine W_reg ?_
    refine L_pu (P_move (.slice A32 n33 c34) rfl) ?_
    refine L_call go84 [.slice A32 n33 c34] rfl ((slices_Compact_string.calls w158 hc163.ok A32 n33 c34 m hx160 _ H).mono ?_)
    rintro _ w164 ⟨r, n166, rfl, H, g165, h167⟩
    have hc168 := hc163.wr 0 rfl g165
    refine L_pu (P_assign (.slice A32 n166 c34) rfl) ?_
    refine L_nil ?_
    refine W_ret ?_
    exact ⟨[.slice A32 n166 c34], ⟨_, rfl, rfl⟩, r, A32, n166, c34, rfl, H, hc168.gr.g0, hc168.ok, hc168.ge, h167⟩
end Go.Proofs.Ytndjggncgpjolaa

namespace Go.Proofs.Ytndjggncgpjolaa
set_option linter.unusedVariables false
set_option linter.unusedSimpArgs false
set_option linter.unusedSectionVars false
def idsAll (maps : List (List Feat)) : List Str := (maps.map ids).flatten
theorem idsAll_snoc (m : List (List Feat)) (s : List Feat) : idsAll (m ++ [s]) = idsAll m ++ ids s := by unfold idsAll; simp
theorem idsAll_take (m : List (List Feat)) (k : Nat) : (idsAll (m.take k)).length ≤ (idsAll m).length := by
  have h : idsAll m = idsAll (m.take k) ++ idsAll (m.drop k) := by
    unfold idsAll; rw [← List.flatten_append, ← List.map_append, List.take_append_drop]
  rw [h, List.length_append]; omega
theorem impl_names.law (maps : List (List Feat)) (Q : List Str → Prop) (h1 : maps.length ≤ 1048576) (h2 : (idsAll maps).length ≤ 268435456) (h3 : ∀ s ∈ maps, s.length ≤ 1048576) (hq : Q (uniq (idsAll maps))) : impl_names.E maps Q := by
  unfold impl_names.E
  refine ⟨fun xs i => ∃ u : Nat, i = u ∧ u ≤ maps.length ∧ xs = idsAll (maps.take u), fun _ i => (maps.length - i).toNat, ⟨0, rfl, Nat.zero_le _, rfl⟩, ?_⟩
  rintro _ _ ⟨u, rfl, hu, rfl⟩
  by_cases h : u < maps.length
  · rw [if_pos (by simpa using h)]
    have hs := h3 _ (nth_mem maps h)
    have ht := idsAll_take maps (u + 1)
    rw [take_nth maps h, idsAll_snoc, List.length_append] at ht
    have hil : (ids (nth maps (u : Int))).length = (nth maps (u : Int)).length := by unfold ids; simp
    refine ⟨by omega, fun xs j => ∃ v : Nat, j = v ∧ v ≤ (nth maps (u : Int)).length ∧ xs = idsAll (maps.take u) ++ ids ((nth maps (u : Int)).take v), fun _ j => ((nth maps (u : Int)).length - j).toNat, ⟨0, rfl, Nat.zero_le _, by simp [ids]⟩, ?_⟩
    rintro _ _ ⟨v, rfl, hv, rfl⟩
    by_cases g : v < (nth maps (u : Int)).length
    · rw [if_pos (by simpa using g)]
      have hiv : (ids ((nth maps (u : Int)).take v)).length ≤ v := by unfold ids; simp; omega
      refine ⟨by omega, by simp only [List.length_append, List.length_cons, List.length_nil]; omega, by unfold I64; omega, ⟨v + 1, by omega, by omega, ?_⟩, by dsimp only; omega⟩
      rw [take_nth _ g, ids_app, List.append_assoc]; rfl
    · rw [if_neg (by simpa using g)]
      have : v = (nth maps (u : Int)).length := by omega
      subst this
      refine ⟨by unfold I64; omega, ⟨u + 1, by omega, by omega, ?_⟩, by dsimp only; omega⟩
      rw [List.take_length, take_nth maps h, idsAll_snoc]
  · rw [if_neg (by simpa using h)]
    have : u = maps.length := by omega
    subst this
    rw [List.take_length]
    unfold slices_Sort_string.E slices_Compact_string.E
    exact ⟨h2, by unfold sortS; rw [List.length_mergeSort]; exact h2, hq⟩
end Go.Proofs.Ytndjggncgpjolaa

namespace Go.Proofs.Ytndjggncgpjolaa
open Go.RowKit
set_option linter.unusedVariables false
def impl_featAt_1.E (f : Feat) (fv2 : Str) (Q : Bool → Prop) : Prop :=
  Q (f.Id == fv2)
set_option maxHeartbeats 8000000 in
set_option maxRecDepth 100000 in
theorem impl_featAt_1.calls {O : Ob} (w0 : World) (hO : Ok w0 O) (f : Feat) (A2 : Option Addr) (n3 c4 : Nat) (A7 : Option Addr) (n8 c9 : Nat) (hs1 : Lim f.Id) (hp5 : Sl kPt w0 (Fr O) (.slice A2 n3 c4) f.Shape.Pts) (hp10 : Sl kTag w0 (Fr O) (.slice A7 n8 c9) f.Tags) (b : Nat) (fv2 : Str) (hs13 : Lim fv2) (hp1 : Fb w0 O b [vs fv2]) (Q : Bool → Prop) (h : impl_featAt_1.E f fv2 Q) :
    Ret Try.prog 153 [.agg #[vs f.Id, vi f.Shape.Kind, .slice A2 n3 c4, .slice A7 n8 c9], .pointer (some ⟨b, 0, none⟩)] w0 (fun v w' => ∃ (r0 : Bool), v = vb r0 ∧ Q r0 ∧ Gr w0 w' none) := by
  have H : Q (f.Id == fv2) := h
  clear h
  have hc0 := Ct.init hO
  refine Ret_enter Try.func153 rfl 8 rfl [.tmp 3] rfl rfl ?_
  refine W_seq ?_
  refine W_reg ?_
  refine L_box [vs f.Id, vi f.Shape.Kind, .slice A2 n3 c4, .slice A7 n8 c9] rfl fun w14 b15 hl17 hu18 g16 hx19 => ?_
  have h21 := Fb.mk hc0.ok hl17 hx19
  have hc22 := hc0.k0 g16
  refine L_pu (P_assign (vb false) rfl) ?_
  refine L_nil ?_
  refine W_seq ?_
  refine W_reg ?_
  refine L_pu (P_fa fa71_0 ⟨b15, 0, none⟩ ⟨b15, 0, none⟩ rfl rfl) ?_
  refine L_pu (P_ld ag9 cL ⟨b15, 0, none⟩ (vs f.Id) rfl (h21.cell rfl)) ?_
  have h23 := (hp1.st hc22.st)
  refine L_pu (P_ld ag9 cL ⟨b, 0, none⟩ (vs fv2) rfl (h23.cell rfl)) ?_
  refine L_pu (P_scmp f.Id fv2 (f.Id == fv2) rfl rfl rfl) ?_
  refine L_pu (P_assign (vb (f.Id == fv2)) rfl) ?_
  refine L_nil ?_
  refine W_ret ?_
  exact ⟨[vb (f.Id == fv2)], ⟨_, rfl, rfl⟩, f.Id == fv2, rfl, H, hc22.gr.g0⟩
def impl_featAt_1.m (f : Feat) (fv2 : Str) : Bool := (f.Id == fv2)
theorem impl_featAt_1.fn (f : Feat) (fv2 : Str) : impl_featAt_1.E f fv2 (fun r => r = impl_featAt_1.m f fv2) := by
  unfold impl_featAt_1.E impl_featAt_1.m
  rfl
end Go.Proofs.Ytndjggncgpjolaa

namespace Go.Proofs.Ytndjggncgpjolaa
open Go.RowKit
set_option linter.unusedVariables false
def slices_IndexFunc_Feat.E (s : List Feat) (f : Feat → Bool) (f_ok : Feat → Prop) (Q : Int → Prop) : Prop :=
  (∃ (I23 : Int → Prop) (mu24 : Int → Nat), I23 0 ∧ ∀ (v2 : Int), I23 v2 → (if decide (v2 < (s.length : Int)) then ((0 : Int) ≤ v2 ∧ v2 < (s.length : Int)) ∧ (f_ok (nth s v2)) ∧ (if (f (nth s v2)) then Q v2 else (I64 (v2 + 1)) ∧ I23 (v2 + 1) ∧ mu24 (v2 + 1) < mu24 v2) else Q (-1)))
set_option maxHeartbeats 8000000 in
set_option maxRecDepth 100000 in
theorem slices_IndexFunc_Feat.calls {O : Ob} (w0 : World) (hO : Ok w0 O) (s : List Feat) (A1 : Option Addr) (n2 c3 : Nat) (hp4 : Sl kFeat w0 (Fr O) (.slice A1 n2 c3) s) (fg6 : FuncId) (fc7 : List Value) (f : Feat → Bool) (f_ok : Feat → Prop) (hgo8 : Goes Try.prog fg6) (hf9 : ∀ (w : World) (L : Ob), Ct [] w0 w L O → ∀ (x0_ : Feat) (A11 : Option Addr) (n12 c13 : Nat) (A16 : Option Addr) (n17 c18 : Nat) (hs10 : Lim x0_.Id) (hp14 : Sl kPt w (Fr (L ++ O)) (.slice A11 n12 c13) x0_.Shape.Pts) (hp19 : Sl kTag w (Fr (L ++ O)) (.slice A16 n17 c18) x0_.Tags), f_ok x0_ → Ret Try.prog fg6 ([.agg #[vs x0_.Id, vi x0_.Shape.Kind, .slice A11 n12 c13, .slice A16 n17 c18]] ++ fc7) w (fun v w' => v = vb (f x0_) ∧ Gr w w' none)) (Q : Int → Prop) (h : slices_IndexFunc_Feat.E s f f_ok Q) :
    Ret Try.prog 152 [.slice A1 n2 c3, .func (.func fg6) #[] fc7.toArray] w0 (fun v w' => ∃ (r0 : Int), v = vi r0 ∧ Q r0 ∧ Gr w0 w' none) := by
  have H : (∃ (I23 : Int → Prop) (mu24 : Int → Nat), I23 0 ∧ ∀ (v2 : Int), I23 v2 → (if decide (v2 < (s.length : Int)) then ((0 : Int) ≤ v2 ∧ v2 < (s.length : Int)) ∧ (f_ok (nth s v2)) ∧ (if (f (nth s v2)) then Q v2 else (I64 (v2 + 1)) ∧ I23 (v2 + 1) ∧ mu24 (v2 + 1) < mu24 v2) else Q (-1))) := h
  clear h
  have hc0 := Ct.init hO
  refine Ret_enter Try.func152 rfl 19 rfl [.tmp 4] rfl rfl ?_
  refine W_seq ?_
  refine W_reg ?_
  refine L_pu (P_assign (vi 0) rfl) ?_
  refine L_nil ?_
  refine W_seq ?_
  refine W_seq ?_
  refine W_reg ?_
  refine L_pu (P_move (.slice A1 n2 c3) rfl) ?_
  have hl10 := hp4.le
  refine L_pu (P_len Try.underlying52 A1 n2 c3 hp4.len rfl) ?_
  refine L_pu (P_move (vi 0) rfl) ?_
  refine L_nil ?_
  refine W_block ?_
  obtain ⟨I23, mu24, hI25, H⟩ := H
  refine W_loop (α := Int) (fun (sv__ : Int) t w19 => match sv__ with | v2 => I23 v2 ∧ Has t [(0, .slice A1 n2 c3), (1, .func (.func fg6) #[] fc7.toArray), (7, vi (s.length : Int)), (8, vi v2)] ∧ Ct [] w0 w19 [] O ∧ Sl kFeat w19 (Fr ([] ++ O)) (.slice A1 n2 c3) s) (fun (sv__ : Int) => match sv__ with | v2 => mu24 v2) 0 ⟨hI25, ⟨rfl, rfl, rfl, rfl, trivial⟩, hc0, hp4⟩ ?_
  rintro v2 _ w19 ⟨hI25, hh27, hc21, h22⟩
  obtain ⟨u28, rfl⟩ := Has.ins hh27
  have H := H v2 hI25
  refine W_seq ?_
  refine W_reg ?_
  refine L_pu (P_cmp v2 (s.length : Int) (decide (v2 < (s.length : Int))) rfl rfl rfl) ?_
  refine L_nil ?_
  refine W_seq ?_
  refine W_cond (decide (v2 < (s.length : Int))) rfl (fun hq29 => ?_) (fun hq29 => ?_)
  · have H := ite_t H hq29
    refine W_skip ?_
    refine W_seq ?_
    refine W_block ?_
    refine W_seq ?_
    refine W_reg ?_
    refine L_pu (P_move (vi v2) rfl) ?_
    refine L_pu (P_assign (vi v2) rfl) ?_
    refine L_nil ?_
    refine W_seq ?_
    refine W_reg ?_
    refine L_pu (P_move (.func (.func fg6) #[] fc7.toArray) rfl) ?_
    refine L_pu (P_move (.slice A1 n2 c3) rfl) ?_
    refine L_pu (P_move (vi v2) rfl) ?_
    obtain ⟨hb30, H⟩ := H
    obtain ⟨ad31, cs32, hA33, hS36, hR34, hcl35⟩ := h22.get default (by decide) v2 hb30
    obtain ⟨A38, n39, c40, A43, n44, c45, rfl, hs37, h41, h46⟩ := kFeat.op hR34
    refine L_pu (P_ia Try.underlying52 se52 A1 ad31 n2 c3 h22.len v2 rfl hA33 rfl hb30) ?_
    refine L_pu (P_lda ag71 sz71 cL (ad31.add (v2.toNat * 4)) [vs ((nth s v2).Id), vi ((nth s v2).Shape.Kind), .slice A38 n39 c40, .slice A43 n44 c45] rfl rfl hcl35) ?_
    obtain ⟨hb48, H⟩ := H
    refine L_callv hgo8 fc7 rfl [.agg #[vs ((nth s v2).Id), vi ((nth s v2).Shape.Kind), .slice A38 n39 c40, .slice A43 n44 c45]] rfl ((hf9 w19 [] hc21 (nth s v2) A38 n39 c40 A43 n44 c45 hs37 h41 h46 hb48).mono ?_)
    rintro _ w49 ⟨rfl, g50⟩
    have hc52 := hc21.k0 g50
    refine L_nil ?_
    refine W_cond (f (nth s v2)) rfl (fun hq53 => ?_) (fun hq53 => ?_)
    · have H := ite_t H hq53
      refine W_seq ?_
      refine W_reg ?_
      refine L_pu (P_move (vi v2) rfl) ?_
      refine L_pu (P_assign (vi v2) rfl) ?_
      refine L_nil ?_
      refine W_ret ?_
      exact ⟨[vi v2], ⟨_, rfl, rfl⟩, v2, rfl, H, hc52.gr.g0⟩
    · have H := ite_f H hq53
      refine W_skip ?_
      refine W_reg ?_
      obtain ⟨hb54, H⟩ := H
      refine L_pu (P_add v2 1 rfl rfl hb54) ?_
      refine L_pu (P_move (vi (v2 + 1)) rfl) ?_
      refine L_nil ?_
      obtain ⟨hI55, hm56⟩ := H
      exact ⟨v2 + 1, hm56, hI55, ⟨rfl, rfl, rfl, rfl, trivial⟩, hc52, (h22.st (.new _ g50))⟩
  · have H := ite_f H hq29
    refine W_exit (xin_hit ?_)
    refine W_seq ?_
    refine W_reg ?_
    refine L_pu (P_assign (vi (-1)) rfl) ?_
    refine L_nil ?_
    refine W_ret ?_
    exact ⟨[vi (-1)], ⟨_, rfl, rfl⟩, (-1), rfl, H, hc21.gr.g0⟩
end Go.Proofs.Ytndjggncgpjolaa

namespace Go.Proofs.Ytndjggncgpjolaa
set_option linter.unusedVariables false
set_option linter.unusedSimpArgs false
set_option linter.unusedSectionVars false
theorem slices_IndexFunc_Feat.law (s : List Feat) (f : Feat → Bool) (ok : Feat → Prop) (Q : Int → Prop) (hl : s.length ≤ 1048576) (hok : ∀ x ∈ s, ok x) (hq : Q (findN s.length fun j => f (nth s (j : Int)))) : slices_IndexFunc_Feat.E s f ok Q := by
  unfold slices_IndexFunc_Feat.E
  refine loop_find s.length (fun j => f (nth s (j : Int))) hq (fun I mu k hk h1 h2 => ⟨by omega, hok _ (nth_mem s hk), ?_⟩)
  cases h : f (nth s (k : Int)) with
  | true => rw [if_pos rfl]; exact h1 h
  | false => rw [if_neg (by decide)]; obtain ⟨i1, i2⟩ := h2 h; exact ⟨by unfold I64; omega, i1, i2⟩
end Go.Proofs.Ytndjggncgpjolaa

namespace Go.Proofs.Ytndjggncgpjolaa
open Go.RowKit
set_option linter.unusedVariables false
def impl_featAt.E (s : List Feat) (id : Str) (Q : Int → Prop) : Prop :=
  (∃ (f : Feat → Bool) (f_ok : Feat → Prop), (∀ x0_, f_ok x0_ → impl_featAt_1.E x0_ id (fun r => r = f x0_)) ∧ slices_IndexFunc_Feat.E s f f_ok (fun r => Q r))
set_option maxHeartbeats 8000000 in
set_option maxRecDepth 100000 in
theorem impl_featAt.calls {O : Ob} (w0 : World) (hO : Ok w0 O) (s : List Feat) (A1 : Option Addr) (n2 c3 : Nat) (hp4 : Sl kFeat w0 (Fr O) (.slice A1 n2 c3) s) (id : Str) (hs6 : Lim id) (Q : Int → Prop) (h : impl_featAt.E s id Q) :
    Ret Try.prog 122 [.slice A1 n2 c3, vs id] w0 (fun v w' => ∃ (r0 : Int), v = vi r0 ∧ Q r0 ∧ Gr w0 w' none) := by
  have H : (∃ (f : Feat → Bool) (f_ok : Feat → Prop), (∀ x0_, f_ok x0_ → impl_featAt_1.E x0_ id (fun r => r = f x0_)) ∧ slices_IndexFunc_Feat.E s f f_ok (fun r => Q r)) := h
  clear h
  have hc0 := Ct.init hO
  refine Ret_enter Try.func122 rfl 8 rfl [.tmp 4] rfl rfl ?_
  refine W_seq ?_
  refine W_reg ?_
  refine L_box [vs id] rfl fun w7 b8 hl10 hu11 g9 hx12 => ?_
  have h14 := Fb.mk hc0.ok hl10 hx12
  have hc15 := hc0.k0 g9
  refine L_pu (P_assign (vi 0) rfl) ?_
  refine L_nil ?_
  refine W_seq ?_
  refine W_reg ?_
  refine L_pu (P_move (.slice A1 n2 c3) rfl) ?_
  refine L_pu (P_func [.pointer (some ⟨b8, 0, none⟩)] rfl) ?_
  obtain ⟨f, f_ok, hE16, H⟩ := H
  have hf17 : ∀ (w : World) (L : Ob), Ct [] w7 w L ([] ++ O) → ∀ (x0_ : Feat) (A18 : Option Addr) (n19 c20 : Nat) (A23 : Option Addr) (n24 c25 : Nat) (hs17 : Lim x0_.Id) (hp21 : Sl kPt w (Fr (L ++ ([] ++ O))) (.slice A18 n19 c20) x0_.Shape.Pts) (hp26 : Sl kTag w (Fr (L ++ ([] ++ O))) (.slice A23 n24 c25) x0_.Tags), f_ok x0_ → Ret Try.prog 153 ([.agg #[vs x0_.Id, vi x0_.Shape.Kind, .slice A18 n19 c20, .slice A23 n24 c25]] ++ [.pointer (some ⟨b8, 0, none⟩)]) w (fun v w' => v = vb (f x0_) ∧ Gr w w' none) := by
    intro w L c x0_ A18 n19 c20 A23 n24 c25 hs17 hp21 hp26 hok
    refine (impl_featAt_1.calls w c.ok x0_ A18 n19 c20 A23 n24 c25 hs17 hp21 hp26 b8 id hs6 (h14.st c.st) _ (hE16 x0_ hok)).mono ?_
    rintro _ w2 ⟨r, rfl, rfl, g2⟩
    exact ⟨rfl, g2⟩
  refine L_call go152 [.slice A1 n2 c3, .func (.func 153) #[] #[.pointer (some ⟨b8, 0, none⟩)]] rfl ((slices_IndexFunc_Feat.calls w7 hc15.ok s A1 n2 c3 (hp4.st hc15.st) 153 [.pointer (some ⟨b8, 0, none⟩)] f f_ok go153 hf17 _ H).mono ?_)
  rintro _ w18 ⟨r, rfl, H, g19⟩
  have hc23 := hc15.k0 g19
  refine L_pu (P_assign (vi r) rfl) ?_
  refine L_nil ?_
  refine W_ret ?_
  exact ⟨[vi r], ⟨_, rfl, rfl⟩, r, rfl, H, hc23.gr.g0⟩
end Go.Proofs.Ytndjggncgpjolaa

namespace Go.Proofs.Ytndjggncgpjolaa
set_option linter.unusedVariables false
set_option linter.unusedSimpArgs false
set_option linter.unusedSectionVars false
theorem impl_featAt.law (s : List Feat) (id : Str) (Q : Int → Prop) (hl : s.length ≤ 1048576) (hq : Q (findN s.length fun j => (nth s (j : Int)).Id == id)) : impl_featAt.E s id Q := by
  unfold impl_featAt.E
  refine ⟨fun x => x.Id == id, fun x => x ∈ s, fun x hx => ?_, slices_IndexFunc_Feat.law _ _ _ _ hl (fun x hx => hx) hq⟩
  unfold impl_featAt_1.E
  rfl
end Go.Proofs.Ytndjggncgpjolaa

namespace Go.Proofs.Ytndjggncgpjolaa
open Go.RowKit
set_option linter.unusedVariables false
def impl_cloneShape.E (s : Shape) (Q : Shape → Prop) : Prop :=
  (([] : List Pt).length + s.Pts.length ≤ 268435456) ∧ Q (⟨s.Kind, (([] : List Pt) ++ s.Pts)⟩ : Shape)
set_option maxHeartbeats 8000000 in
set_option maxRecDepth 100000 in
theorem impl_cloneShape.calls {O : Ob} (w0 : World) (hO : Ok w0 O) (s : Shape) (A1 : Option Addr) (n2 c3 : Nat) (hp4 : Sl kPt w0 (Fr O) (.slice A1 n2 c3) s.Pts) (Q : Shape → Prop) (h : impl_cloneShape.E s Q) :
    Ret Try.prog 97 [.agg #[vi s.Kind, .slice A1 n2 c3]] w0 (fun v w' => ∃ (r0 : Shape) (A0 : Option Addr) (n0 c0 : Nat), v = .agg #[vi r0.Kind, .slice A0 n0 c0] ∧ Q r0 ∧ Gr w0 w' none ∧ Ok w' ([blk (.slice A0 n0 c0)] ++ O) ∧ (∀ b, some b ∈ [blk (.slice A0 n0 c0)] → w0.heap.size ≤ b) ∧ Ow kPt 29 w' ([blk (.slice A0 n0 c0)] ++ O) (.slice A0 n0 c0) r0.Pts) := by
  have H : (([] : List Pt).length + s.Pts.length ≤ 268435456) ∧ Q (⟨s.Kind, (([] : List Pt) ++ s.Pts)⟩ : Shape) := h
  clear h
  have hc0 := Ct.init hO
  refine Ret_enter Try.func97 rfl 10 rfl [.cell 2 68] rfl rfl ?_
  refine W_seq ?_
  refine W_reg ?_
  refine L_box [vi s.Kind, .slice A1 n2 c3] rfl fun w6 b7 hl9 hu10 g8 hx11 => ?_
  have h13 := Fb.mk hc0.ok hl9 hx11
  have hc14 := hc0.k0 g8
  refine L_alloc [.int .i64 0, .slice none 0 0] ze68 fun w15 b16 hl18 hu19 g17 hx20 => ?_
  have hc22 := hc14.own g17 (some b16) (oglt hl18 hu19)
  refine L_nil ?_
  refine W_seq ?_
  refine W_mixr 8 [some b16] (by kernel_rfl) rfl fun w23 g24 hM25 => ?_
  have hc26 := hc22.k0 g24
  refine M_pu 0 rfl (by kernel_rfl) hM25 (P_fa fa68_0 ⟨b7, 0, none⟩ ⟨b7, 0, none⟩ rfl rfl) ?_
  have h27 := ((h13.st (.own _ _ g17 (oge hl18))).st (.new _ g24))
  refine M_pu 1 rfl (by kernel_rfl) hM25 (P_ldr ag3 cR ⟨b7, 0, none⟩ (vi s.Kind) rfl (h27.cell rfl) (nm_cons (fr_ne (L := [some b16]) (O := O) (i := 0) h27.2 rfl) nm_nil)) ?_
  refine M_pu 3 rfl (by kernel_rfl) hM25 (P_fa fa68_1 ⟨b7, 0, none⟩ ⟨b7, 1, none⟩ rfl rfl) ?_
  refine M_pu 4 rfl (by kernel_rfl) hM25 (P_ldr ag23 cR ⟨b7, 1, none⟩ (.slice A1 n2 c3) rfl (h27.cell rfl) (nm_cons (fr_ne (L := [some b16]) (O := O) (i := 0) h27.2 rfl) nm_nil)) ?_
  refine M_any1 2 (by kernel_rfl) rfl ?_
  refine L_lit (kd := kPt) ei23 hc26 ([] : List Pt) (cells := []) rfl (fun _ => by kernel_rfl) fun w28 A29 n30 c31 g32 hr33 hc34 h35 => ?_
  have hM37 := Gm.tm hM25 g32
  refine L_nil ⟨hM37, ?_⟩
  refine M_any1 5 (by kernel_rfl) rfl ?_
  obtain ⟨hb38, H⟩ := H
  refine L_app ei23 hc34 (.slice A29 n30 c31) ([] : List Pt) s.Pts rfl h35 (.slice A1 n2 c3) rfl (hp4.st hc34.st).sx 0 rfl hb38 fun w39 A40 n41 c42 g43 s44 hc45 h46 => ?_
  have hM47 := Gm.tq hM37 g43 (hv_new hM25 hr33)
  have hv48 := hv_app (L := [blk (.slice A29 n30 c31), some b16]) (O := O) (i := 0) hM37 rfl (hv_new hM25 hr33) s44 hc45
  refine L_nil ⟨hM47, ?_⟩
  refine M_pu 6 rfl (by kernel_rfl) hM47 (P_build (.agg #[vi s.Kind, .slice A40 n41 c42]) (fun _ => by kernel_rfl)) ?_
  refine M_any1 7 (by kernel_rfl) rfl ?_
  have h53 := (Bx.sm (L := [blk (.slice A29 n30 c31), some b16]) (O := O) ((hx20.k0 g24).k0 g32) hc34 (i := 1) rfl (j := 0) rfl (by decide) g43)
  refine L_stb b16 0 [vi 0, .slice none 0 0] [vi s.Kind, .slice A40 n41 c42] [vi s.Kind, .slice A40 n41 c42] rfl h53 rfl sz68 rfl rfl rfl fun w50 g51 hx52 => ?_
  have hc54 := hc45.wr 1 rfl g51
  have hM55 := Gm.tq hM47 g51 (hv_mem 0 rfl)
  refine L_nil ⟨hM55, ?_⟩
  refine M_nil (by kernel_rfl) ?_
  refine W_ret ?_
  have h56 := Bx.gv (L := [blk (.slice A40 n41 c42), some b16]) (O := O) hx52 hc54 (i := 1) rfl
  have hc57 := hc54.drop 1 rfl
  have h58 := (Ow.sd (L := [blk (.slice A40 n41 c42), some b16]) (O := O) (Ow.sw (L := [blk (.slice A40 n41 c42), some b16]) (O := O) h46 hc45 (i := 0) rfl (j := 1) rfl (by decide) g51) (i := 0) rfl (j := 1) rfl (by decide))
  exact ⟨[.agg #[vi s.Kind, .slice A40 n41 c42]], ⟨_, _, rfl, h56.1.res rfl ag68 sz68, rfl⟩, (⟨s.Kind, (([] : List Pt) ++ s.Pts)⟩ : Shape), A40, n41, c42, rfl, H, hc57.gr.g0, hc57.ok, hc57.ge, h58⟩
end Go.Proofs.Ytndjggncgpjolaa

namespace Go.Proofs.Ytndjggncgpjolaa
open Go.RowKit
set_option linter.unusedVariables false
def impl_cloneFeat.E (f : Feat) (Q : Feat → Prop) : Prop :=
  (([] : List Tag).length + f.Tags.length ≤ 268435456) ∧ impl_cloneShape.E f.Shape (fun r => Q (⟨f.Id, r, (([] : List Tag) ++ f.Tags)⟩ : Feat))
set_option maxHeartbeats 8000000 in
set_option maxRecDepth 100000 in
theorem impl_cloneFeat.calls {O : Ob} (w0 : World) (hO : Ok w0 O) (f : Feat) (A2 : Option Addr) (n3 c4 : Nat) (A7 : Option Addr) (n8 c9 : Nat) (hs1 : Lim f.Id) (hp5 : Sl kPt w0 (Fr O) (.slice A2 n3 c4) f.Shape.Pts) (hp10 : Sl kTag w0 (Fr O) (.slice A7 n8 c9) f.Tags) (Q : Feat → Prop) (h : impl_cloneFeat.E f Q) :
    Ret Try.prog 102 [.agg #[vs f.Id, vi f.Shape.Kind, .slice A2 n3 c4, .slice A7 n8 c9]] w0 (fun v w' => ∃ (r0 : Feat) (A0 : Option Addr) (n0 c0 : Nat) (A2 : Option Addr) (n2 c2 : Nat), v = .agg #[vs r0.Id, vi r0.Shape.Kind, .slice A0 n0 c0, .slice A2 n2 c2] ∧ Q r0 ∧ Gr w0 w' none ∧ Ok w' ([blk (.slice A0 n0 c0), blk (.slice A2 n2 c2)] ++ O) ∧ (∀ b, some b ∈ [blk (.slice A0 n0 c0), blk (.slice A2 n2 c2)] → w0.heap.size ≤ b) ∧ Lim r0.Id ∧ Ow kPt 29 w' ([blk (.slice A0 n0 c0), blk (.slice A2 n2 c2)] ++ O) (.slice A0 n0 c0) r0.Shape.Pts ∧ Ow kTag 133 w' ([blk (.slice A0 n0 c0), blk (.slice A2 n2 c2)] ++ O) (.slice A2 n2 c2) r0.Tags) := by
  have H : (([] : List Tag).length + f.Tags.length ≤ 268435456) ∧ impl_cloneShape.E f.Shape (fun r => Q (⟨f.Id, r, (([] : List Tag) ++ f.Tags)⟩ : Feat)) := h
  clear h
  have hc0 := Ct.init hO
  refine Ret_enter Try.func102 rfl 13 rfl [.cell 2 71] rfl rfl ?_
  refine W_seq ?_
  refine W_reg ?_
  refine L_box [vs f.Id, vi f.Shape.Kind, .slice A2 n3 c4, .slice A7 n8 c9] rfl fun w12 b13 hl15 hu16 g14 hx17 => ?_
  have h19 := Fb.mk hc0.ok hl15 hx17
  have hc20 := hc0.k0 g14
  refine L_alloc [vs [], .int .i64 0, .slice none 0 0, .slice none 0 0] ze71 fun w21 b22 hl24 hu25 g23 hx26 => ?_
  have hc28 := hc20.own g23 (some b22) (oglt hl24 hu25)
  refine L_nil ?_
  refine W_seq ?_
  refine W_mixr 11 [some b22] (by kernel_rfl) rfl fun w29 g30 hM31 => ?_
  have hc32 := hc28.k0 g30
  obtain ⟨hb33, H⟩ := H
  refine M_pu 0 rfl (by kernel_rfl) hM31 (P_fa fa71_0 ⟨b13, 0, none⟩ ⟨b13, 0, none⟩ rfl rfl) ?_
  have h34 := ((h19.st (.own _ _ g23 (oge hl24))).st (.new _ g30))
  refine M_pu 1 rfl (by kernel_rfl) hM31 (P_ldr ag9 cR ⟨b13, 0, none⟩ (vs f.Id) rfl (h34.cell rfl) (nm_cons (fr_ne (L := [some b22]) (O := O) (i := 0) h34.2 rfl) nm_nil)) ?_
  refine M_pu 2 rfl (by kernel_rfl) hM31 (P_fa fa71_1 ⟨b13, 0, none⟩ ⟨b13, 1, none⟩ rfl rfl) ?_
  refine M_pu 3 rfl (by kernel_rfl) hM31 (P_ldar ag68 sz68 cR ⟨b13, 1, none⟩ [vi f.Shape.Kind, .slice A2 n3 c4] rfl rfl (h34.cells (off := 1) rfl) (nm_cons (fr_ne (L := [some b22]) (O := O) (i := 0) h34.2 rfl) nm_nil)) ?_
  refine M_pu 6 rfl (by kernel_rfl) hM31 (P_fa fa71_2 ⟨b13, 0, none⟩ ⟨b13, 3, none⟩ rfl rfl) ?_
  refine M_pu 7 rfl (by kernel_rfl) hM31 (P_ldr ag69 cR ⟨b13, 3, none⟩ (.slice A7 n8 c9) rfl (h34.cell rfl) (nm_cons (fr_ne (L := [some b22]) (O := O) (i := 0) h34.2 rfl) nm_nil)) ?_
  refine M_any2 4 5 (by kernel_rfl) rfl rfl ?_ ?_
  · refine L_call go97 [.agg #[vi f.Shape.Kind, .slice A2 n3 c4]] rfl ((impl_cloneShape.calls w29 hc32.ok f.Shape A2 n3 c4 (hp5.st hc32.st) _ H).mono ?_)
    rintro _ w35 ⟨r, A37, n38, c39, rfl, H, g36, hk43, hk44, h40⟩
    have hc45 := hc32.owns g36 hk43 hk44
    have hM46 := Gm.tm hM31 g36
    refine L_nil ⟨hM46, ?_⟩
    refine M_any1 5 (by kernel_rfl) rfl ?_
    refine L_lit (kd := kTag) ei69 hc45 ([] : List Tag) (cells := []) rfl (fun _ => by kernel_rfl) fun w47 A48 n49 c50 g51 hr52 hc53 h54 => ?_
    have hM56 := Gm.tm hM46 g51
    refine L_nil ⟨hM56, ?_⟩
    refine M_any1 8 (by kernel_rfl) rfl ?_
    refine L_app ei69 hc53 (.slice A48 n49 c50) ([] : List Tag) f.Tags rfl h54 (.slice A7 n8 c9) rfl (hp10.st hc53.st).sx 0 rfl hb33 fun w57 A58 n59 c60 g61 s62 hc63 h64 => ?_
    have hM65 := Gm.tq hM56 g61 (hv_new hM46 hr52)
    have hv66 := hv_app (L := [blk (.slice A48 n49 c50), blk (.slice A37 n38 c39), some b22]) (O := O) (i := 0) hM56 rfl (hv_new hM46 hr52) s62 hc63
    refine L_nil ⟨hM65, ?_⟩
    refine M_pu 9 rfl (by kernel_rfl) hM65 (P_build (.agg #[vs f.Id, vi r.Kind, .slice A37 n38 c39, .slice A58 n59 c60]) (fun _ => by kernel_rfl)) ?_
    refine M_any1 10 (by kernel_rfl) rfl ?_
    have h71 := (Bx.sm (L := [blk (.slice A48 n49 c50), blk (.slice A37 n38 c39), some b22]) (O := O) (((hx26.k0 g30).k0 g36).k0 g51) hc53 (i := 2) rfl (j := 0) rfl (by decide) g61)
    refine L_stb b22 0 [vs ([] : Str), vi 0, .slice none 0 0, .slice none 0 0] [vs f.Id, vi r.Kind, .slice A37 n38 c39, .slice A58 n59 c60] [vs f.Id, vi r.Kind, .slice A37 n38 c39, .slice A58 n59 c60] rfl h71 rfl sz71 rfl rfl rfl fun w68 g69 hx70 => ?_
    have hc72 := hc63.wr 2 rfl g69
    have hM73 := Gm.tq hM65 g69 (hv_mem 0 rfl)
    refine L_nil ⟨hM73, ?_⟩
    refine M_nil (by kernel_rfl) ?_
    refine W_ret ?_
    have h74 := Bx.gv (L := [blk (.slice A58 n59 c60), blk (.slice A37 n38 c39), some b22]) (O := O) hx70 hc72 (i := 2) rfl
    have hc75 := hc72.drop 2 rfl
    have hc76 := hc75.perm (.swap _ _ _)
    have h77 := (h74.st (.perm (L := [blk (.slice A58 n59 c60), blk (.slice A37 n38 c39)]) (O := O) (.swap _ _ _)))
    have h78 := (Ow.sp (L := [blk (.slice A58 n59 c60), blk (.slice A37 n38 c39)]) (O := O) (Ow.sd (L := [blk (.slice A58 n59 c60), blk (.slice A37 n38 c39), some b22]) (O := O) (Ow.sw (L := [blk (.slice A58 n59 c60), blk (.slice A37 n38 c39), some b22]) (O := O) (Ow.sm (L := [blk (.slice A48 n49 c50), blk (.slice A37 n38 c39), some b22]) (O := O) (h40.so _ g51 hr52) hc53 (i := 1) rfl (j := 0) rfl (by decide) g61 s62) hc63 (i := 1) rfl (j := 2) rfl (by decide) g69) (i := 1) rfl (j := 2) rfl (by decide)) (.swap _ _ _))
    have h79 := (Ow.sp (L := [blk (.slice A58 n59 c60), blk (.slice A37 n38 c39)]) (O := O) (Ow.sd (L := [blk (.slice A58 n59 c60), blk (.slice A37 n38 c39), some b22]) (O := O) (Ow.sw (L := [blk (.slice A58 n59 c60), blk (.slice A37 n38 c39), some b22]) (O := O) h64 hc63 (i := 0) rfl (j := 2) rfl (by decide) g69) (i := 0) rfl (j := 2) rfl (by decide)) (.swap _ _ _))
    exact ⟨[.agg #[vs f.Id, vi r.Kind, .slice A37 n38 c39, .slice A58 n59 c60]], ⟨_, _, rfl, h77.1.res rfl ag71 sz71, rfl⟩, (⟨f.Id, r, (([] : List Tag) ++ f.Tags)⟩ : Feat), A37, n38, c39, A58, n59, c60, rfl, H, hc76.gr.g0, hc76.ok, hc76.ge, hs1, h78, h79⟩
  · refine L_lit (kd := kTag) ei69 hc32 ([] : List Tag) (cells := []) rfl (fun _ => by kernel_rfl) fun w35 A36 n37 c38 g39 hr40 hc41 h42 => ?_
    have hM44 := Gm.tm hM31 g39
    refine L_nil ⟨hM44, ?_⟩
    refine M_any1 4 (by kernel_rfl) rfl ?_
    refine L_call go97 [.agg #[vi f.Shape.Kind, .slice A2 n3 c4]] rfl ((impl_cloneShape.calls w35 hc41.ok f.Shape A2 n3 c4 (hp5.st hc41.st) _ H).mono ?_)
    rintro _ w45 ⟨r, A47, n48, c49, rfl, H, g46, hk53, hk54, h50⟩
    have hc55 := hc41.owns g46 hk53 hk54
    have hM56 := Gm.tm hM44 g46
    refine L_nil ⟨hM56, ?_⟩
    refine M_any1 8 (by kernel_rfl) rfl ?_
    have h57 := (h42.sos g46 hk54)
    refine L_app ei69 hc55 (.slice A36 n37 c38) ([] : List Tag) f.Tags rfl h57 (.slice A7 n8 c9) rfl (hp10.st hc55.st).sx 1 rfl hb33 fun w58 A59 n60 c61 g62 s63 hc64 h65 => ?_
    have hM66 := Gm.tq hM56 g62 (hv_new hM31 hr40)
    have hv67 := hv_app (L := [blk (.slice A47 n48 c49), blk (.slice A36 n37 c38), some b22]) (O := O) (i := 1) hM56 rfl (hv_new hM31 hr40) s63 hc64
    refine L_nil ⟨hM66, ?_⟩
    refine M_pu 9 rfl (by kernel_rfl) hM66 (P_build (.agg #[vs f.Id, vi r.Kind, .slice A47 n48 c49, .slice A59 n60 c61]) (fun _ => by kernel_rfl)) ?_
    refine M_any1 10 (by kernel_rfl) rfl ?_
    have h72 := (Bx.sm (L := [blk (.slice A47 n48 c49), blk (.slice A36 n37 c38), some b22]) (O := O) (((hx26.k0 g30).k0 g39).k0 g46) hc55 (i := 2) rfl (j := 1) rfl (by decide) g62)
    refine L_stb b22 0 [vs ([] : Str), vi 0, .slice none 0 0, .slice none 0 0] [vs f.Id, vi r.Kind, .slice A47 n48 c49, .slice A59 n60 c61] [vs f.Id, vi r.Kind, .slice A47 n48 c49, .slice A59 n60 c61] rfl h72 rfl sz71 rfl rfl rfl fun w69 g70 hx71 => ?_
    have hc73 := hc64.wr 2 rfl g70
    have hM74 := Gm.tq hM66 g70 (hv_mem 0 rfl)
    refine L_nil ⟨hM74, ?_⟩
    refine M_nil (by kernel_rfl) ?_
    refine W_ret ?_
    have h75 := Bx.gv (L := [blk (.slice A47 n48 c49), blk (.slice A59 n60 c61), some b22]) (O := O) hx71 hc73 (i := 2) rfl
    have hc76 := hc73.drop 2 rfl
    have h77 := (Ow.sd (L := [blk (.slice A47 n48 c49), blk (.slice A59 n60 c61), some b22]) (O := O) (Ow.sw (L := [blk (.slice A47 n48 c49), blk (.slice A59 n60 c61), some b22]) (O := O) (Ow.sm (L := [blk (.slice A47 n48 c49), blk (.slice A36 n37 c38), some b22]) (O := O) h50 hc55 (i := 0) rfl (j := 1) rfl (by decide) g62 s63) hc64 (i := 0) rfl (j := 2) rfl (by decide) g70) (i := 0) rfl (j := 2) rfl (by decide))
    have h78 := (Ow.sd (L := [blk (.slice A47 n48 c49), blk (.slice A59 n60 c61), some b22]) (O := O) (Ow.sw (L := [blk (.slice A47 n48 c49), blk (.slice A59 n60 c61), some b22]) (O := O) h65 hc64 (i := 1) rfl (j := 2) rfl (by decide) g70) (i := 1) rfl (j := 2) rfl (by decide))
    exact ⟨[.agg #[vs f.Id, vi r.Kind, .slice A47 n48 c49, .slice A59 n60 c61]], ⟨_, _, rfl, h75.1.res rfl ag71 sz71, rfl⟩, (⟨f.Id, r, (([] : List Tag) ++ f.Tags)⟩ : Feat), A47, n48, c49, A59, n60, c61, rfl, H, hc76.gr.g0, hc76.ok, hc76.ge, hs1, h77, h78⟩
end Go.Proofs.Ytndjggncgpjolaa

namespace Go.Proofs.Ytndjggncgpjolaa
set_option linter.unusedVariables false
set_option linter.unusedSimpArgs false
set_option linter.unusedSectionVars false
theorem impl_cloneFeat.law (f : Feat) (Q : Feat → Prop) (hb : bulk f ≤ 1048576) (hq : Q f) : impl_cloneFeat.E f Q := by
  unfold impl_cloneFeat.E impl_cloneShape.E
  have h := bulk_feat f
  have h1 := bulk_len f.Tags
  have h2 := bulk_len f.Shape.Pts
  exact ⟨by simp only [List.length_nil]; omega, by simp only [List.length_nil]; omega, hq⟩
end Go.Proofs.Ytndjggncgpjolaa

namespace Go.Proofs.Ytndjggncgpjolaa
open Go.RowKit
set_option linter.unusedVariables false
def impl_side.E (s : List Feat) (id : Str) (Q : Feat → Bool → Prop) : Prop :=
  impl_featAt.E s id (fun r => (if decide (r < 0) then Q (⟨([] : Str), (⟨0, ([] : List Pt)⟩ : Shape), ([] : List Tag)⟩ : Feat) false else ((0 : Int) ≤ r ∧ r < (s.length : Int)) ∧ impl_cloneFeat.E (nth s r) (fun r2 => Q r2 true)))
set_option maxHeartbeats 8000000 in
set_option maxRecDepth 100000 in
theorem impl_side.calls {O : Ob} (w0 : World) (hO : Ok w0 O) (s : List Feat) (A1 : Option Addr) (n2 c3 : Nat) (hp4 : Sl kFeat w0 (Fr O) (.slice A1 n2 c3) s) (id : Str) (hs6 : Lim id) (Q : Feat → Bool → Prop) (h : impl_side.E s id Q) :
    Ret Try.prog 76 [.slice A1 n2 c3, vs id] w0 (fun v w' => ∃ (r0 : Feat) (r1 : Bool) (A0 : Option Addr) (n0 c0 : Nat) (A2 : Option Addr) (n2 c2 : Nat), v = .tuple #[.agg #[vs r0.Id, vi r0.Shape.Kind, .slice A0 n0 c0, .slice A2 n2 c2], vb r1] ∧ Q r0 r1 ∧ Gr w0 w' none ∧ Ok w' ([blk (.slice A0 n0 c0), blk (.slice A2 n2 c2)] ++ O) ∧ (∀ b, some b ∈ [blk (.slice A0 n0 c0), blk (.slice A2 n2 c2)] → w0.heap.size ≤ b) ∧ Lim r0.Id ∧ Ow kPt 29 w' ([blk (.slice A0 n0 c0), blk (.slice A2 n2 c2)] ++ O) (.slice A0 n0 c0) r0.Shape.Pts ∧ Ow kTag 133 w' ([blk (.slice A0 n0 c0), blk (.slice A2 n2 c2)] ++ O) (.slice A2 n2 c2) r0.Tags) := by
  have H : impl_featAt.E s id (fun r => (if decide (r < 0) then Q (⟨([] : Str), (⟨0, ([] : List Pt)⟩ : Shape), ([] : List Tag)⟩ : Feat) false else ((0 : Int) ≤ r ∧ r < (s.length : Int)) ∧ impl_cloneFeat.E (nth s r) (fun r2 => Q r2 true))) := h
  clear h
  have hc0 := Ct.init hO
  refine Ret_enter Try.func76 rfl 18 rfl [.cell 4 71, .tmp 5] rfl rfl ?_
  refine W_seq ?_
  refine W_reg ?_
  refine L_alloc [vs [], .int .i64 0, .slice none 0 0, .slice none 0 0] ze71 fun w7 b8 hl10 hu11 g9 hx12 => ?_
  have hc14 := hc0.own g9 (some b8) (oglt hl10 hu11)
  refine L_pu (P_assign (vb false) rfl) ?_
  refine L_nil ?_
  refine W_seq ?_
  refine W_reg ?_
  refine L_pu (P_move (.slice A1 n2 c3) rfl) ?_
  refine L_pu (P_move (vs id) rfl) ?_
  refine L_call go122 [.slice A1 n2 c3, vs id] rfl ((impl_featAt.calls w7 hc14.ok s A1 n2 c3 (hp4.st hc14.st) id hs6 _ H).mono ?_)
  rintro _ w15 ⟨r, rfl, H, g16⟩
  have hc20 := hc14.k0 g16
  refine L_pu (P_assign (vi r) rfl) ?_
  refine L_nil ?_
  refine W_seq ?_
  refine W_seq ?_
  refine W_reg ?_
  refine L_pu (P_move (vi r) rfl) ?_
  refine L_pu (P_cmp r 0 (decide (r < 0)) rfl rfl rfl) ?_
  refine L_nil ?_
  refine W_cond (decide (r < 0)) rfl (fun hq21 => ?_) (fun hq21 => ?_)
  · have H := ite_t H hq21
    refine W_seq ?_
    refine W_reg ?_
    refine L_pu (P_build (.agg #[vs ([] : Str), vi 0, .slice none 0 0, .slice none 0 0]) (fun _ => by kernel_rfl)) ?_
    have h25 := (hx12.k0 g16)
    refine L_stb b8 0 [vs ([] : Str), vi 0, .slice none 0 0, .slice none 0 0] [vs ([] : Str), vi 0, .slice none 0 0, .slice none 0 0] [vs ([] : Str), vi 0, .slice none 0 0, .slice none 0 0] rfl h25 rfl sz71 rfl rfl rfl fun w22 g23 hx24 => ?_
    have hc26 := hc20.wr 0 rfl g23
    refine L_pu (P_assign (vb false) rfl) ?_
    refine L_nil ?_
    refine W_ret ?_
    have hc28 := hc26.own (Gr.refl _ none) none (by simp)
    have h29 : Ow kPt 29 w22 ([blk (.slice none 0 0), some b8] ++ O) (.slice none 0 0) [] := Ow.nil _ _ _ _
    have hc31 := hc28.own (Gr.refl _ none) none (by simp)
    have h32 : Ow kTag 133 w22 ([blk (.slice none 0 0), blk (.slice none 0 0), some b8] ++ O) (.slice none 0 0) [] := Ow.nil _ _ _ _
    have h33 := hx24
    have h34 := Bx.gv (L := [blk (.slice none 0 0), blk (.slice none 0 0), some b8]) (O := O) h33 hc31 (i := 2) rfl
    have hc35 := hc31.drop 2 rfl
    have hc36 := hc35.perm (.swap _ _ _)
    have h37 := (h34.st (.perm (L := [blk (.slice none 0 0), blk (.slice none 0 0)]) (O := O) (.swap _ _ _)))
    have h38 := (Ow.sp (L := [blk (.slice none 0 0), blk (.slice none 0 0)]) (O := O) (Ow.sd (L := [blk (.slice none 0 0), blk (.slice none 0 0), some b8]) (O := O) (h29.so none (Gr.refl _ none) (by simp)) (i := 1) rfl (j := 2) rfl (by decide)) (.swap _ _ _))
    have h39 := (Ow.sp (L := [blk (.slice none 0 0), blk (.slice none 0 0)]) (O := O) (Ow.sd (L := [blk (.slice none 0 0), blk (.slice none 0 0), some b8]) (O := O) h32 (i := 0) rfl (j := 2) rfl (by decide)) (.swap _ _ _))
    exact ⟨[.agg #[vs ([] : Str), vi 0, .slice none 0 0, .slice none 0 0], vb false], ⟨_, _, rfl, h37.1.res rfl ag71 sz71, ⟨_, rfl, rfl⟩⟩, (⟨([] : Str), (⟨0, ([] : List Pt)⟩ : Shape), ([] : List Tag)⟩ : Feat), false, none, 0, 0, none, 0, 0, rfl, H, hc36.gr.g0, hc36.ok, hc36.ge, (by decide), h38, h39⟩
  · have H := ite_f H hq21
    refine W_skip ?_
    refine W_seq ?_
    refine W_reg ?_
    refine L_pu (P_move (.slice A1 n2 c3) rfl) ?_
    refine L_pu (P_move (vi r) rfl) ?_
    obtain ⟨hb40, H⟩ := H
    obtain ⟨ad41, cs42, hA43, hS46, hR44, hcl45⟩ := (hp4.st hc20.st).get default (by decide) r hb40
    obtain ⟨A48, n49, c50, A53, n54, c55, rfl, hs47, h51, h56⟩ := kFeat.op hR44
    refine L_pu (P_ia Try.underlying52 se52 A1 ad41 n2 c3 (hp4.st hc20.st).len r rfl hA43 rfl hb40) ?_
    refine L_pu (P_lda ag71 sz71 cL (ad41.add (r.toNat * 4)) [vs ((nth s r).Id), vi ((nth s r).Shape.Kind), .slice A48 n49 c50, .slice A53 n54 c55] rfl rfl hcl45) ?_
    refine L_call go102 [.agg #[vs ((nth s r).Id), vi ((nth s r).Shape.Kind), .slice A48 n49 c50, .slice A53 n54 c55]] rfl ((impl_cloneFeat.calls w15 hc20.ok (nth s r) A48 n49 c50 A53 n54 c55 hs47 h51 h56 _ H).mono ?_)
    rintro _ w58 ⟨r2, A61, n62, c63, A66, n67, c68, rfl, H, g59, hk72, hk73, hs60, h64, h69⟩
    have hc74 := hc20.owns g59 hk72 hk73
    have h78 := ((hx12.k0 g16).k0 g59)
    refine L_stb b8 0 [vs ([] : Str), vi 0, .slice none 0 0, .slice none 0 0] [vs r2.Id, vi r2.Shape.Kind, .slice A61 n62 c63, .slice A66 n67 c68] [vs r2.Id, vi r2.Shape.Kind, .slice A61 n62 c63, .slice A66 n67 c68] rfl h78 rfl sz71 rfl rfl rfl fun w75 g76 hx77 => ?_
    have hc79 := hc74.wr 2 rfl g76
    refine L_pu (P_assign (vb true) rfl) ?_
    refine L_nil ?_
    refine W_ret ?_
    have h80 := Bx.gv (L := [blk (.slice A61 n62 c63), blk (.slice A66 n67 c68), some b8]) (O := O) hx77 hc79 (i := 2) rfl
    have hc81 := hc79.drop 2 rfl
    have h82 := (Ow.sd (L := [blk (.slice A61 n62 c63), blk (.slice A66 n67 c68), some b8]) (O := O) (Ow.sw (L := [blk (.slice A61 n62 c63), blk (.slice A66 n67 c68), some b8]) (O := O) h64 hc74 (i := 0) rfl (j := 2) rfl (by decide) g76) (i := 0) rfl (j := 2) rfl (by decide))
    have h83 := (Ow.sd (L := [blk (.slice A61 n62 c63), blk (.slice A66 n67 c68), some b8]) (O := O) (Ow.sw (L := [blk (.slice A61 n62 c63), blk (.slice A66 n67 c68), some b8]) (O := O) h69 hc74 (i := 1) rfl (j := 2) rfl (by decide) g76) (i := 1) rfl (j := 2) rfl (by decide))
    exact ⟨[.agg #[vs r2.Id, vi r2.Shape.Kind, .slice A61 n62 c63, .slice A66 n67 c68], vb true], ⟨_, _, rfl, h80.1.res rfl ag71 sz71, ⟨_, rfl, rfl⟩⟩, r2, true, A61, n62, c63, A66, n67, c68, rfl, H, hc81.gr.g0, hc81.ok, hc81.ge, hs60, h82, h83⟩
end Go.Proofs.Ytndjggncgpjolaa

namespace Go.Proofs.Ytndjggncgpjolaa
set_option linter.unusedVariables false
set_option linter.unusedSimpArgs false
set_option linter.unusedSectionVars false
theorem impl_side.law (s : List Feat) (id : Str) (Q : Feat → Bool → Prop) (hb : bulk s ≤ 1048576) (hq : Q (sideOf s id).1 (sideOf s id).2) : impl_side.E s id Q := by
  unfold impl_side.E
  have hl := bulk_len s
  refine impl_featAt.law _ _ _ (by omega) ?_
  have h1 := findN_le s.length fun j => (nth s (j : Int)).Id == id
  unfold sideOf at hq
  by_cases h : findN s.length (fun j => (nth s (j : Int)).Id == id) < 0
  · rw [if_pos h] at hq; rw [if_pos (by simpa using h)]; exact hq
  · rw [if_neg h] at hq; rw [if_neg (by simpa using h)]
    exact ⟨by omega, impl_cloneFeat.law _ _ (by have := bulk_mem (nth_memi s (by omega) h1.2); omega) hq⟩
end Go.Proofs.Ytndjggncgpjolaa

namespace Go.Proofs.Ytndjggncgpjolaa
open Go.RowKit
set_option linter.unusedVariables false
def slices_Equal_Pt.E (s1 : List Pt) (s2 : List Pt) (Q : Bool → Prop) : Prop :=
  (if (s1.length : Int) != (s2.length : Int) then Q false else (∃ (I32 : Int → Prop) (mu33 : Int → Nat), I32 0 ∧ ∀ (v2 : Int), I32 v2 → (if decide (v2 < (s1.length : Int)) then ((0 : Int) ≤ v2 ∧ v2 < (s1.length : Int)) ∧ ((0 : Int) ≤ v2 ∧ v2 < (s2.length : Int)) ∧ (if !(eqPt (nth s1 v2) (nth s2 v2)) then Q false else (I64 (v2 + 1)) ∧ I32 (v2 + 1) ∧ mu33 (v2 + 1) < mu33 v2) else Q true)))
set_option maxHeartbeats 8000000 in
set_option maxRecDepth 100000 in
theorem slices_Equal_Pt.calls {O : Ob} (w0 : World) (hO : Ok w0 O) (s1 : List Pt) (A1 : Option Addr) (n2 c3 : Nat) (hp4 : Sl kPt w0 (Fr O) (.slice A1 n2 c3) s1) (s2 : List Pt) (A6 : Option Addr) (n7 c8 : Nat) (hp9 : Sl kPt w0 (Fr O) (.slice A6 n7 c8) s2) (Q : Bool → Prop) (h : slices_Equal_Pt.E s1 s2 Q) :
    Ret Try.prog 49 [.slice A1 n2 c3, .slice A6 n7 c8] w0 (fun v w' => ∃ (r0 : Bool), v = vb r0 ∧ Q r0 ∧ Gr w0 w' none) := by
  have H : (if (s1.length : Int) != (s2.length : Int) then Q false else (∃ (I32 : Int → Prop) (mu33 : Int → Nat), I32 0 ∧ ∀ (v2 : Int), I32 v2 → (if decide (v2 < (s1.length : Int)) then ((0 : Int) ≤ v2 ∧ v2 < (s1.length : Int)) ∧ ((0 : Int) ≤ v2 ∧ v2 < (s2.length : Int)) ∧ (if !(eqPt (nth s1 v2) (nth s2 v2)) then Q false else (I64 (v2 + 1)) ∧ I32 (v2 + 1) ∧ mu33 (v2 + 1) < mu33 v2) else Q true))) := h
  clear h
  have hc0 := Ct.init hO
  refine Ret_enter Try.func49 rfl 26 rfl [.tmp 4] rfl rfl ?_
  refine W_seq ?_
  refine W_reg ?_
  refine L_pu (P_assign (vb false) rfl) ?_
  refine L_nil ?_
  refine W_seq ?_
  refine W_seq ?_
  refine W_reg ?_
  refine L_pu (P_move (.slice A1 n2 c3) rfl) ?_
  have hl11 := hp4.le
  refine L_pu (P_len Try.underlying23 A1 n2 c3 hp4.len rfl) ?_
  refine L_pu (P_move (.slice A6 n7 c8) rfl) ?_
  have hl12 := hp9.le
  refine L_pu (P_len Try.underlying23 A6 n7 c8 hp9.len rfl) ?_
  refine L_pu (P_cmp (s1.length : Int) (s2.length : Int) ((s1.length : Int) != (s2.length : Int)) rfl rfl rfl) ?_
  refine L_nil ?_
  refine W_cond ((s1.length : Int) != (s2.length : Int)) rfl (fun hq13 => ?_) (fun hq13 => ?_)
  · have H := ite_t H hq13
    refine W_seq ?_
    refine W_reg ?_
    refine L_pu (P_assign (vb false) rfl) ?_
    refine L_nil ?_
    refine W_ret ?_
    exact ⟨[vb false], ⟨_, rfl, rfl⟩, false, rfl, H, hc0.gr.g0⟩
  · have H := ite_f H hq13
    refine W_skip ?_
    refine W_seq ?_
    refine W_seq ?_
    refine W_reg ?_
    refine L_pu (P_move (.slice A1 n2 c3) rfl) ?_
    refine L_pu (P_len Try.underlying23 A1 n2 c3 hp4.len rfl) ?_
    refine L_pu (P_move (vi 0) rfl) ?_
    refine L_nil ?_
    refine W_block ?_
    obtain ⟨I32, mu33, hI34, H⟩ := H
    refine W_loop (α := Int) (fun (sv__ : Int) t w26 => match sv__ with | v2 => I32 v2 ∧ Has t [(0, .slice A1 n2 c3), (1, .slice A6 n7 c8), (12, vi (s1.length : Int)), (13, vi v2)] ∧ Ct [] w0 w26 [] O ∧ Sl kPt w26 (Fr ([] ++ O)) (.slice A1 n2 c3) s1 ∧ Sl kPt w26 (Fr ([] ++ O)) (.slice A6 n7 c8) s2) (fun (sv__ : Int) => match sv__ with | v2 => mu33 v2) 0 ⟨hI34, ⟨rfl, rfl, rfl, rfl, trivial⟩, hc0, hp4, hp9⟩ ?_
    rintro v2 _ w26 ⟨hI34, hh36, hc29, h30, h31⟩
    obtain ⟨u37, rfl⟩ := Has.ins hh36
    have H := H v2 hI34
    refine W_seq ?_
    refine W_reg ?_
    refine L_pu (P_cmp v2 (s1.length : Int) (decide (v2 < (s1.length : Int))) rfl rfl rfl) ?_
    refine L_nil ?_
    refine W_seq ?_
    refine W_cond (decide (v2 < (s1.length : Int))) rfl (fun hq38 => ?_) (fun hq38 => ?_)
    · have H := ite_t H hq38
      refine W_skip ?_
      refine W_seq ?_
      refine W_block ?_
      refine W_seq ?_
      refine W_reg ?_
      refine L_pu (P_move (vi v2) rfl) ?_
      refine L_pu (P_assign (vi v2) rfl) ?_
      refine L_nil ?_
      refine W_seq ?_
      refine W_draw (fun x => Gr w26 x none) (by kernel_rfl) (by kernel_rfl) (Gr.drew _) ?_
      refine Q_pu (P_move (.slice A1 n2 c3) rfl) ?_
      refine Q_pu (P_move (vi v2) rfl) ?_
      obtain ⟨hb39, H⟩ := H
      obtain ⟨ad40, cs41, hA42, hS45, hR43, hcl44⟩ := h30.get default (by decide) v2 hb39
      obtain rfl := kPt.op hR43
      refine Q_pu (P_ia Try.underlying23 se23 A1 ad40 n2 c3 h30.len v2 rfl hA42 rfl hb39) ?_
      refine Q_pu (P_lda ag29 sz29 cQ (ad40.add (v2.toNat * 2)) [vi ((nth s1 v2).X), vi ((nth s1 v2).Y)] rfl rfl hcl44) ?_
      refine Q_pu (P_move (.slice A6 n7 c8) rfl) ?_
      refine Q_pu (P_move (vi v2) rfl) ?_
      obtain ⟨hb46, H⟩ := H
      obtain ⟨ad47, cs48, hA49, hS52, hR50, hcl51⟩ := h31.get default (by decide) v2 hb46
      obtain rfl := kPt.op hR50
      refine Q_pu (P_ia Try.underlying23 se23 A6 ad47 n7 c8 h31.len v2 rfl hA49 rfl hb46) ?_
      refine Q_pu (P_lda ag29 sz29 cQ (ad47.add (v2.toNat * 2)) [vi ((nth s2 v2).X), vi ((nth s2 v2).Y)] rfl rfl hcl51) ?_
      refine Q_pu (P_ne _ _ (eqPt (nth s1 v2) (nth s2 v2)) (qt29 (nth s1 v2) (nth s2 v2)) rfl rfl) ?_
      refine Q_nil fun w53 g54 => ?_
      have hc56 := hc29.k0 g54
      refine W_cond (!(eqPt (nth s1 v2) (nth s2 v2))) rfl (fun hq57 => ?_) (fun hq57 => ?_)
      · have H := ite_t H hq57
        refine W_seq ?_
        refine W_reg ?_
        refine L_pu (P_assign (vb false) rfl) ?_
        refine L_nil ?_
        refine W_ret ?_
        exact ⟨[vb false], ⟨_, rfl, rfl⟩, false, rfl, H, hc56.gr.g0⟩
      · have H := ite_f H hq57
        refine W_skip ?_
        refine W_reg ?_
        obtain ⟨hb58, H⟩ := H
        refine L_pu (P_add v2 1 rfl rfl hb58) ?_
        refine L_pu (P_move (vi (v2 + 1)) rfl) ?_
        refine L_nil ?_
        obtain ⟨hI59, hm60⟩ := H
        exact ⟨v2 + 1, hm60, hI59, ⟨rfl, rfl, rfl, rfl, trivial⟩, hc56, (h30.st (.new _ g54)), (h31.st (.new _ g54))⟩
    · have H := ite_f H hq38
      refine W_exit (xin_hit ?_)
      refine W_seq ?_
      refine W_reg ?_
      refine L_pu (P_assign (vb true) rfl) ?_
      refine L_nil ?_
      refine W_ret ?_
      exact ⟨[vb true], ⟨_, rfl, rfl⟩, true, rfl, H, hc29.gr.g0⟩
end Go.Proofs.Ytndjggncgpjolaa

namespace Go.Proofs.Ytndjggncgpjolaa
set_option linter.unusedVariables false
set_option linter.unusedSimpArgs false
set_option linter.unusedSectionVars false
theorem slices_Equal_Pt.law (a b : List Pt) (Q : Bool → Prop) (hb : a.length ≤ 1048576) (hq : Q (decide (a = b))) : slices_Equal_Pt.E a b Q := by
  unfold slices_Equal_Pt.E
  exact eqI_shape eqPt eqPt_is a b Q hb hq
end Go.Proofs.Ytndjggncgpjolaa

namespace Go.Proofs.Ytndjggncgpjolaa
open Go.RowKit
set_option linter.unusedVariables false
def impl_ShapeSame.E (a : Shape) (b : Shape) (Q : Bool → Prop) : Prop :=
  (if a.Kind == b.Kind then slices_Equal_Pt.E a.Pts b.Pts (fun r => Q r) else Q false)
set_option maxHeartbeats 8000000 in
set_option maxRecDepth 100000 in
theorem impl_ShapeSame.calls {O : Ob} (w0 : World) (hO : Ok w0 O) (a : Shape) (A1 : Option Addr) (n2 c3 : Nat) (hp4 : Sl kPt w0 (Fr O) (.slice A1 n2 c3) a.Pts) (b : Shape) (A6 : Option Addr) (n7 c8 : Nat) (hp9 : Sl kPt w0 (Fr O) (.slice A6 n7 c8) b.Pts) (Q : Bool → Prop) (h : impl_ShapeSame.E a b Q) :
    Ret Try.prog 95 [.agg #[vi a.Kind, .slice A1 n2 c3], .agg #[vi b.Kind, .slice A6 n7 c8]] w0 (fun v w' => ∃ (r0 : Bool), v = vb r0 ∧ Q r0 ∧ Gr w0 w' none) := by
  have H : (if a.Kind == b.Kind then slices_Equal_Pt.E a.Pts b.Pts (fun r => Q r) else Q false) := h
  clear h
  have hc0 := Ct.init hO
  refine Ret_enter Try.func95 rfl 17 rfl [.tmp 4] rfl rfl ?_
  refine W_seq ?_
  refine W_reg ?_
  refine L_box [vi a.Kind, .slice A1 n2 c3] rfl fun w11 b12 hl14 hu15 g13 hx16 => ?_
  have h18 := Fb.mk hc0.ok hl14 hx16
  have hc19 := hc0.k0 g13
  refine L_box [vi b.Kind, .slice A6 n7 c8] rfl fun w20 b21 hl23 hu24 g22 hx25 => ?_
  have h27 := Fb.mk hc19.ok hl23 hx25
  have hc28 := hc19.k0 g22
  refine L_pu (P_assign (vb false) rfl) ?_
  refine L_nil ?_
  refine W_seq ?_
  refine W_reg ?_
  refine L_pu (P_fa fa68_0 ⟨b12, 0, none⟩ ⟨b12, 0, none⟩ rfl rfl) ?_
  have h29 := (h18.st (.new _ g22))
  refine L_pu (P_ld ag3 cL ⟨b12, 0, none⟩ (vi a.Kind) rfl (h29.cell rfl)) ?_
  refine L_pu (P_fa fa68_0 ⟨b21, 0, none⟩ ⟨b21, 0, none⟩ rfl rfl) ?_
  refine L_pu (P_ld ag3 cL ⟨b21, 0, none⟩ (vi b.Kind) rfl (h27.cell rfl)) ?_
  refine L_pu (P_cmp a.Kind b.Kind (a.Kind == b.Kind) rfl rfl rfl) ?_
  refine L_pu (P_move (vb (a.Kind == b.Kind)) rfl) ?_
  rcases bool_or (a.Kind == b.Kind) with hq30 | hq30
  · have H := ite_t H hq30
    refine L_run (dj := 10) rfl rfl (by exact congrArg Value.bool hq30) ?_
    refine L_pu (P_fa fa68_1 ⟨b12, 0, none⟩ ⟨b12, 1, none⟩ rfl rfl) ?_
    refine L_run (dj := 10) rfl rfl (by exact congrArg Value.bool hq30) ?_
    refine L_pu (P_ld ag23 cL ⟨b12, 1, none⟩ (.slice A1 n2 c3) rfl (h29.cell rfl)) ?_
    refine L_run (dj := 10) rfl rfl (by exact congrArg Value.bool hq30) ?_
    refine L_pu (P_fa fa68_1 ⟨b21, 0, none⟩ ⟨b21, 1, none⟩ rfl rfl) ?_
    refine L_run (dj := 10) rfl rfl (by exact congrArg Value.bool hq30) ?_
    refine L_pu (P_ld ag23 cL ⟨b21, 1, none⟩ (.slice A6 n7 c8) rfl (h27.cell rfl)) ?_
    refine L_run (dj := 10) rfl rfl (by exact congrArg Value.bool hq30) ?_
    refine L_call go49 [.slice A1 n2 c3, .slice A6 n7 c8] rfl ((slices_Equal_Pt.calls w20 hc28.ok a.Pts A1 n2 c3 (hp4.st hc28.st) b.Pts A6 n7 c8 (hp9.st hc28.st) _ H).mono ?_)
    rintro _ w31 ⟨r, rfl, H, g32⟩
    have hc36 := hc28.k0 g32
    refine L_pu (P_pick true (vb r) (by exact congrArg Value.bool hq30) rfl) ?_
    refine L_pu (P_assign (vb r) rfl) ?_
    refine L_nil ?_
    refine W_ret ?_
    exact ⟨[vb r], ⟨_, rfl, rfl⟩, r, rfl, H, hc36.gr.g0⟩
  · have H := ite_f H hq30
    refine L_pass (dj := 10) rfl rfl (.inl (by exact congrArg Value.bool hq30)) ?_
    refine L_pass (dj := 10) rfl rfl (.inl (by exact congrArg Value.bool hq30)) ?_
    refine L_pass (dj := 10) rfl rfl (.inl (by exact congrArg Value.bool hq30)) ?_
    refine L_pass (dj := 10) rfl rfl (.inl (by exact congrArg Value.bool hq30)) ?_
    refine L_pass (dj := 10) rfl rfl (.inl (by exact congrArg Value.bool hq30)) ?_
    refine L_pu (P_pick false (vb false) (by exact congrArg Value.bool hq30) rfl) ?_
    refine L_pu (P_assign (vb false) rfl) ?_
    refine L_nil ?_
    refine W_ret ?_
    exact ⟨[vb false], ⟨_, rfl, rfl⟩, false, rfl, H, hc28.gr.g0⟩
end Go.Proofs.Ytndjggncgpjolaa

namespace Go.Proofs.Ytndjggncgpjolaa
set_option linter.unusedVariables false
set_option linter.unusedSimpArgs false
set_option linter.unusedSectionVars false
theorem impl_ShapeSame.law (a b : Shape) (Q : Bool → Prop) (hl : a.Pts.length ≤ 1048576) (hq : Q (decide (a = b))) : impl_ShapeSame.E a b Q := by
  unfold impl_ShapeSame.E
  by_cases h : a.Kind = b.Kind
  · rw [if_pos (by rw [beq_iff_eq]; exact h)]
    refine slices_Equal_Pt.law _ _ _ (by omega) ?_
    have : decide (a.Pts = b.Pts) = decide (a = b) := decide_eq_decide.2 (by rw [Shape.ext_iff']; exact ⟨fun e => ⟨h, e⟩, fun e => e.2⟩)
    rw [this]; exact hq
  · rw [if_neg (by rw [beq_iff_eq]; exact h)]
    rw [decide_eq_false (by rw [Shape.ext_iff']; exact fun e => h e.1)] at hq; exact hq
end Go.Proofs.Ytndjggncgpjolaa

namespace Go.Proofs.Ytndjggncgpjolaa
open Go.RowKit
set_option linter.unusedVariables false
def slices_Equal_Tag.E (s1 : List Tag) (s2 : List Tag) (Q : Bool → Prop) : Prop :=
  (if (s1.length : Int) != (s2.length : Int) then Q false else (∃ (I32 : Int → Prop) (mu33 : Int → Nat), I32 0 ∧ ∀ (v2 : Int), I32 v2 → (if decide (v2 < (s1.length : Int)) then ((0 : Int) ≤ v2 ∧ v2 < (s1.length : Int)) ∧ ((0 : Int) ≤ v2 ∧ v2 < (s2.length : Int)) ∧ (if !(eqTag (nth s1 v2) (nth s2 v2)) then Q false else (I64 (v2 + 1)) ∧ I32 (v2 + 1) ∧ mu33 (v2 + 1) < mu33 v2) else Q true)))
set_option maxHeartbeats 8000000 in
set_option maxRecDepth 100000 in
theorem slices_Equal_Tag.calls {O : Ob} (w0 : World) (hO : Ok w0 O) (s1 : List Tag) (A1 : Option Addr) (n2 c3 : Nat) (hp4 : Sl kTag w0 (Fr O) (.slice A1 n2 c3) s1) (s2 : List Tag) (A6 : Option Addr) (n7 c8 : Nat) (hp9 : Sl kTag w0 (Fr O) (.slice A6 n7 c8) s2) (Q : Bool → Prop) (h : slices_Equal_Tag.E s1 s2 Q) :
    Ret Try.prog 131 [.slice A1 n2 c3, .slice A6 n7 c8] w0 (fun v w' => ∃ (r0 : Bool), v = vb r0 ∧ Q r0 ∧ Gr w0 w' none) := by
  have H : (if (s1.length : Int) != (s2.length : Int) then Q false else (∃ (I32 : Int → Prop) (mu33 : Int → Nat), I32 0 ∧ ∀ (v2 : Int), I32 v2 → (if decide (v2 < (s1.length : Int)) then ((0 : Int) ≤ v2 ∧ v2 < (s1.length : Int)) ∧ ((0 : Int) ≤ v2 ∧ v2 < (s2.length : Int)) ∧ (if !(eqTag (nth s1 v2) (nth s2 v2)) then Q false else (I64 (v2 + 1)) ∧ I32 (v2 + 1) ∧ mu33 (v2 + 1) < mu33 v2) else Q true))) := h
  clear h
  have hc0 := Ct.init hO
  refine Ret_enter Try.func131 rfl 26 rfl [.tmp 4] rfl rfl ?_
  refine W_seq ?_
  refine W_reg ?_
  refine L_pu (P_assign (vb false) rfl) ?_
  refine L_nil ?_
  refine W_seq ?_
  refine W_seq ?_
  refine W_reg ?_
  refine L_pu (P_move (.slice A1 n2 c3) rfl) ?_
  have hl11 := hp4.le
  refine L_pu (P_len Try.underlying69 A1 n2 c3 hp4.len rfl) ?_
  refine L_pu (P_move (.slice A6 n7 c8) rfl) ?_
  have hl12 := hp9.le
  refine L_pu (P_len Try.underlying69 A6 n7 c8 hp9.len rfl) ?_
  refine L_pu (P_cmp (s1.length : Int) (s2.length : Int) ((s1.length : Int) != (s2.length : Int)) rfl rfl rfl) ?_
  refine L_nil ?_
  refine W_cond ((s1.length : Int) != (s2.length : Int)) rfl (fun hq13 => ?_) (fun hq13 => ?_)
  · have H := ite_t H hq13
    refine W_seq ?_
    refine W_reg ?_
    refine L_pu (P_assign (vb false) rfl) ?_
    refine L_nil ?_
    refine W_ret ?_
    exact ⟨[vb false], ⟨_, rfl, rfl⟩, false, rfl, H, hc0.gr.g0⟩
  · have H := ite_f H hq13
    refine W_skip ?_
    refine W_seq ?_
    refine W_seq ?_
    refine W_reg ?_
    refine L_pu (P_move (.slice A1 n2 c3) rfl) ?_
    refine L_pu (P_len Try.underlying69 A1 n2 c3 hp4.len rfl) ?_
    refine L_pu (P_move (vi 0) rfl) ?_
    refine L_nil ?_
    refine W_block ?_
    obtain ⟨I32, mu33, hI34, H⟩ := H
    refine W_loop (α := Int) (fun (sv__ : Int) t w26 => match sv__ with | v2 => I32 v2 ∧ Has t [(0, .slice A1 n2 c3), (1, .slice A6 n7 c8), (12, vi (s1.length : Int)), (13, vi v2)] ∧ Ct [] w0 w26 [] O ∧ Sl kTag w26 (Fr ([] ++ O)) (.slice A1 n2 c3) s1 ∧ Sl kTag w26 (Fr ([] ++ O)) (.slice A6 n7 c8) s2) (fun (sv__ : Int) => match sv__ with | v2 => mu33 v2) 0 ⟨hI34, ⟨rfl, rfl, rfl, rfl, trivial⟩, hc0, hp4, hp9⟩ ?_
    rintro v2 _ w26 ⟨hI34, hh36, hc29, h30, h31⟩
    obtain ⟨u37, rfl⟩ := Has.ins hh36
    have H := H v2 hI34
    refine W_seq ?_
    refine W_reg ?_
    refine L_pu (P_cmp v2 (s1.length : Int) (decide (v2 < (s1.length : Int))) rfl rfl rfl) ?_
    refine L_nil ?_
    refine W_seq ?_
    refine W_cond (decide (v2 < (s1.length : Int))) rfl (fun hq38 => ?_) (fun hq38 => ?_)
    · have H := ite_t H hq38
      refine W_skip ?_
      refine W_seq ?_
      refine W_block ?_
      refine W_seq ?_
      refine W_reg ?_
      refine L_pu (P_move (vi v2) rfl) ?_
      refine L_pu (P_assign (vi v2) rfl) ?_
      refine L_nil ?_
      refine W_seq ?_
      refine W_draw (fun x => Gr w26 x none) (by kernel_rfl) (by kernel_rfl) (Gr.drew _) ?_
      refine Q_pu (P_move (.slice A1 n2 c3) rfl) ?_
      refine Q_pu (P_move (vi v2) rfl) ?_
      obtain ⟨hb39, H⟩ := H
      obtain ⟨ad40, cs41, hA42, hS45, hR43, hcl44⟩ := h30.get default (by decide) v2 hb39
      obtain ⟨rfl, hs46, hs47⟩ := kTag.op hR43
      refine Q_pu (P_ia Try.underlying69 se69 A1 ad40 n2 c3 h30.len v2 rfl hA42 rfl hb39) ?_
      refine Q_pu (P_lda ag133 sz133 cQ (ad40.add (v2.toNat * 2)) [vs ((nth s1 v2).Key), vs ((nth s1 v2).Val)] rfl rfl hcl44) ?_
      refine Q_pu (P_move (.slice A6 n7 c8) rfl) ?_
      refine Q_pu (P_move (vi v2) rfl) ?_
      obtain ⟨hb48, H⟩ := H
      obtain ⟨ad49, cs50, hA51, hS54, hR52, hcl53⟩ := h31.get default (by decide) v2 hb48
      obtain ⟨rfl, hs55, hs56⟩ := kTag.op hR52
      refine Q_pu (P_ia Try.underlying69 se69 A6 ad49 n7 c8 h31.len v2 rfl hA51 rfl hb48) ?_
      refine Q_pu (P_lda ag133 sz133 cQ (ad49.add (v2.toNat * 2)) [vs ((nth s2 v2).Key), vs ((nth s2 v2).Val)] rfl rfl hcl53) ?_
      refine Q_pu (P_ne _ _ (eqTag (nth s1 v2) (nth s2 v2)) (qt133 (nth s1 v2) (nth s2 v2)) rfl rfl) ?_
      refine Q_nil fun w57 g58 => ?_
      have hc60 := hc29.k0 g58
      refine W_cond (!(eqTag (nth s1 v2) (nth s2 v2))) rfl (fun hq61 => ?_) (fun hq61 => ?_)
      · have H := ite_t H hq61
        refine W_seq ?_
        refine W_reg ?_
        refine L_pu (P_assign (vb false) rfl) ?_
        refine L_nil ?_
        refine W_ret ?_
        exact ⟨[vb false], ⟨_, rfl, rfl⟩, false, rfl, H, hc60.gr.g0⟩
      · have H := ite_f H hq61
        refine W_skip ?_
        refine W_reg ?_
        obtain ⟨hb62, H⟩ := H
        refine L_pu (P_add v2 1 rfl rfl hb62) ?_
        refine L_pu (P_move (vi (v2 + 1)) rfl) ?_
        refine L_nil ?_
        obtain ⟨hI63, hm64⟩ := H
        exact ⟨v2 + 1, hm64, hI63, ⟨rfl, rfl, rfl, rfl, trivial⟩, hc60, (h30.st (.new _ g58)), (h31.st (.new _ g58))⟩
    · have H := ite_f H hq38
      refine W_exit (xin_hit ?_)
      refine W_seq ?_
      refine W_reg ?_
      refine L_pu (P_assign (vb true) rfl) ?_
      refine L_nil ?_
      refine W_ret ?_
      exact ⟨[vb true], ⟨_, rfl, rfl⟩, true, rfl, H, hc29.gr.g0⟩
end Go.Proofs.Ytndjggncgpjolaa

namespace Go.Proofs.Ytndjggncgpjolaa
set_option linter.unusedVariables false
set_option linter.unusedSimpArgs false
set_option linter.unusedSectionVars false
theorem slices_Equal_Tag.law (a b : List Tag) (Q : Bool → Prop) (hb : a.length ≤ 1048576) (hq : Q (decide (a = b))) : slices_Equal_Tag.E a b Q := by
  unfold slices_Equal_Tag.E
  exact eqI_shape eqTag eqTag_is a b Q hb hq
end Go.Proofs.Ytndjggncgpjolaa

namespace Go.Proofs.Ytndjggncgpjolaa
open Go.RowKit
set_option linter.unusedVariables false
def impl_FeatSame.E (a : Feat) (b : Feat) (Q : Bool → Prop) : Prop :=
  (if a.Id == b.Id then impl_ShapeSame.E a.Shape b.Shape (fun r => (if r then slices_Equal_Tag.E a.Tags b.Tags (fun r2 => Q r2) else Q false)) else Q false)
set_option maxHeartbeats 8000000 in
set_option maxRecDepth 100000 in
theorem impl_FeatSame.calls {O : Ob} (w0 : World) (hO : Ok w0 O) (a : Feat) (A2 : Option Addr) (n3 c4 : Nat) (A7 : Option Addr) (n8 c9 : Nat) (hs1 : Lim a.Id) (hp5 : Sl kPt w0 (Fr O) (.slice A2 n3 c4) a.Shape.Pts) (hp10 : Sl kTag w0 (Fr O) (.slice A7 n8 c9) a.Tags) (b : Feat) (A13 : Option Addr) (n14 c15 : Nat) (A18 : Option Addr) (n19 c20 : Nat) (hs12 : Lim b.Id) (hp16 : Sl kPt w0 (Fr O) (.slice A13 n14 c15) b.Shape.Pts) (hp21 : Sl kTag w0 (Fr O) (.slice A18 n19 c20) b.Tags) (Q : Bool → Prop) (h : impl_FeatSame.E a b Q) :
    Ret Try.prog 86 [.agg #[vs a.Id, vi a.Shape.Kind, .slice A2 n3 c4, .slice A7 n8 c9], .agg #[vs b.Id, vi b.Shape.Kind, .slice A13 n14 c15, .slice A18 n19 c20]] w0 (fun v w' => ∃ (r0 : Bool), v = vb r0 ∧ Q r0 ∧ Gr w0 w' none) := by
  have H : (if a.Id == b.Id then impl_ShapeSame.E a.Shape b.Shape (fun r => (if r then slices_Equal_Tag.E a.Tags b.Tags (fun r2 => Q r2) else Q false)) else Q false) := h
  clear h
  have hc0 := Ct.init hO
  refine Ret_enter Try.func86 rfl 24 rfl [.tmp 4] rfl rfl ?_
  refine W_seq ?_
  refine W_reg ?_
  refine L_box [vs a.Id, vi a.Shape.Kind, .slice A2 n3 c4, .slice A7 n8 c9] rfl fun w23 b24 hl26 hu27 g25 hx28 => ?_
  have h30 := Fb.mk hc0.ok hl26 hx28
  have hc31 := hc0.k0 g25
  refine L_box [vs b.Id, vi b.Shape.Kind, .slice A13 n14 c15, .slice A18 n19 c20] rfl fun w32 b33 hl35 hu36 g34 hx37 => ?_
  have h39 := Fb.mk hc31.ok hl35 hx37
  have hc40 := hc31.k0 g34
  refine L_pu (P_assign (vb false) rfl) ?_
  refine L_nil ?_
  refine W_seq ?_
  refine W_reg ?_
  refine L_pu (P_fa fa71_0 ⟨b24, 0, none⟩ ⟨b24, 0, none⟩ rfl rfl) ?_
  have h41 := (h30.st (.new _ g34))
  refine L_pu (P_ld ag9 cL ⟨b24, 0, none⟩ (vs a.Id) rfl (h41.cell rfl)) ?_
  refine L_pu (P_fa fa71_0 ⟨b33, 0, none⟩ ⟨b33, 0, none⟩ rfl rfl) ?_
  refine L_pu (P_ld ag9 cL ⟨b33, 0, none⟩ (vs b.Id) rfl (h39.cell rfl)) ?_
  refine L_pu (P_scmp a.Id b.Id (a.Id == b.Id) rfl rfl rfl) ?_
  refine L_pu (P_move (vb (a.Id == b.Id)) rfl) ?_
  rcases bool_or (a.Id == b.Id) with hq42 | hq42
  · have H := ite_t H hq42
    refine L_run (dj := 10) rfl rfl (by exact congrArg Value.bool hq42) ?_
    refine L_pu (P_fa fa71_1 ⟨b24, 0, none⟩ ⟨b24, 1, none⟩ rfl rfl) ?_
    refine L_run (dj := 10) rfl rfl (by exact congrArg Value.bool hq42) ?_
    refine L_pu (P_lda ag68 sz68 cL ⟨b24, 1, none⟩ [vi a.Shape.Kind, .slice A2 n3 c4] rfl rfl (h41.cells (off := 1) rfl)) ?_
    refine L_run (dj := 10) rfl rfl (by exact congrArg Value.bool hq42) ?_
    refine L_pu (P_fa fa71_1 ⟨b33, 0, none⟩ ⟨b33, 1, none⟩ rfl rfl) ?_
    refine L_run (dj := 10) rfl rfl (by exact congrArg Value.bool hq42) ?_
    refine L_pu (P_lda ag68 sz68 cL ⟨b33, 1, none⟩ [vi b.Shape.Kind, .slice A13 n14 c15] rfl rfl (h39.cells (off := 1) rfl)) ?_
    refine L_run (dj := 10) rfl rfl (by exact congrArg Value.bool hq42) ?_
    refine L_call go95 [.agg #[vi a.Shape.Kind, .slice A2 n3 c4], .agg #[vi b.Shape.Kind, .slice A13 n14 c15]] rfl ((impl_ShapeSame.calls w32 hc40.ok a.Shape A2 n3 c4 (hp5.st hc40.st) b.Shape A13 n14 c15 (hp16.st hc40.st) _ H).mono ?_)
    rintro _ w43 ⟨r, rfl, H, g44⟩
    have hc48 := hc40.k0 g44
    refine L_pu (P_pick true (vb r) (by exact congrArg Value.bool hq42) rfl) ?_
    refine L_pu (P_move (vb r) rfl) ?_
    rcases bool_or r with hq49 | hq49
    · have H := ite_t H hq49
      refine L_run (dj := 17) rfl rfl (by exact congrArg Value.bool hq49) ?_
      refine L_pu (P_fa fa71_2 ⟨b24, 0, none⟩ ⟨b24, 3, none⟩ rfl rfl) ?_
      refine L_run (dj := 17) rfl rfl (by exact congrArg Value.bool hq49) ?_
      have h50 := (h41.st (.new _ g44))
      refine L_pu (P_ld ag69 cL ⟨b24, 3, none⟩ (.slice A7 n8 c9) rfl (h50.cell rfl)) ?_
      refine L_run (dj := 17) rfl rfl (by exact congrArg Value.bool hq49) ?_
      refine L_pu (P_fa fa71_2 ⟨b33, 0, none⟩ ⟨b33, 3, none⟩ rfl rfl) ?_
      refine L_run (dj := 17) rfl rfl (by exact congrArg Value.bool hq49) ?_
      have h51 := (h39.st (.new _ g44))
      refine L_pu (P_ld ag69 cL ⟨b33, 3, none⟩ (.slice A18 n19 c20) rfl (h51.cell rfl)) ?_
      refine L_run (dj := 17) rfl rfl (by exact congrArg Value.bool hq49) ?_
      refine L_call go131 [.slice A7 n8 c9, .slice A18 n19 c20] rfl ((slices_Equal_Tag.calls w43 hc48.ok a.Tags A7 n8 c9 (hp10.st hc48.st) b.Tags A18 n19 c20 (hp21.st hc48.st) _ H).mono ?_)
      rintro _ w52 ⟨r2, rfl, H, g53⟩
      have hc57 := hc48.k0 g53
      refine L_pu (P_pick true (vb r2) (by exact congrArg Value.bool hq49) rfl) ?_
      refine L_pu (P_assign (vb r2) rfl) ?_
      refine L_nil ?_
      refine W_ret ?_
      exact ⟨[vb r2], ⟨_, rfl, rfl⟩, r2, rfl, H, hc57.gr.g0⟩
    · have H := ite_f H hq49
      refine L_pass (dj := 17) rfl rfl (.inl (by exact congrArg Value.bool hq49)) ?_
      refine L_pass (dj := 17) rfl rfl (.inl (by exact congrArg Value.bool hq49)) ?_
      refine L_pass (dj := 17) rfl rfl (.inl (by exact congrArg Value.bool hq49)) ?_
      refine L_pass (dj := 17) rfl rfl (.inl (by exact congrArg Value.bool hq49)) ?_
      refine L_pass (dj := 17) rfl rfl (.inl (by exact congrArg Value.bool hq49)) ?_
      refine L_pu (P_pick false (vb false) (by exact congrArg Value.bool hq49) rfl) ?_
      refine L_pu (P_assign (vb false) rfl) ?_
      refine L_nil ?_
      refine W_ret ?_
      exact ⟨[vb false], ⟨_, rfl, rfl⟩, false, rfl, H, hc48.gr.g0⟩
  · have H := ite_f H hq42
    refine L_pass (dj := 10) rfl rfl (.inl (by exact congrArg Value.bool hq42)) ?_
    refine L_pass (dj := 10) rfl rfl (.inl (by exact congrArg Value.bool hq42)) ?_
    refine L_pass (dj := 10) rfl rfl (.inl (by exact congrArg Value.bool hq42)) ?_
    refine L_pass (dj := 10) rfl rfl (.inl (by exact congrArg Value.bool hq42)) ?_
    refine L_pass (dj := 10) rfl rfl (.inl (by exact congrArg Value.bool hq42)) ?_
    refine L_pu (P_pick false (vb false) (by exact congrArg Value.bool hq42) rfl) ?_
    refine L_pu (P_move (vb false) rfl) ?_
    refine L_pass (dj := 17) rfl rfl (.inl rfl) ?_
    refine L_pass (dj := 17) rfl rfl (.inl rfl) ?_
    refine L_pass (dj := 17) rfl rfl (.inl rfl) ?_
    refine L_pass (dj := 17) rfl rfl (.inl rfl) ?_
    refine L_pass (dj := 17) rfl rfl (.inl rfl) ?_
    refine L_pu (P_pick false (vb false) (by exact congrArg Value.bool rfl) rfl) ?_
    refine L_pu (P_assign (vb false) rfl) ?_
    refine L_nil ?_
    refine W_ret ?_
    exact ⟨[vb false], ⟨_, rfl, rfl⟩, false, rfl, H, hc40.gr.g0⟩
end Go.Proofs.Ytndjggncgpjolaa

namespace Go.Proofs.Ytndjggncgpjolaa
set_option linter.unusedVariables false
set_option linter.unusedSimpArgs false
set_option linter.unusedSectionVars false
theorem impl_FeatSame.law (a b : Feat) (Q : Bool → Prop) (hl : a.Shape.Pts.length ≤ 1048576 ∧ a.Tags.length ≤ 1048576) (hq : Q (decide (a = b))) : impl_FeatSame.E a b Q := by
  unfold impl_FeatSame.E
  by_cases h : a.Id = b.Id
  · rw [if_pos (by rw [beq_iff_eq]; exact h)]
    refine impl_ShapeSame.law _ _ _ (by omega) ?_
    by_cases h2 : a.Shape = b.Shape
    · rw [decide_eq_true h2, if_pos rfl]
      refine slices_Equal_Tag.law _ _ _ (by omega) ?_
      have : decide (a.Tags = b.Tags) = decide (a = b) := decide_eq_decide.2 (by rw [Feat.ext_iff']; exact ⟨fun e => ⟨h, h2, e⟩, fun e => e.2.2⟩)
      rw [this]; exact hq
    · rw [decide_eq_false h2, if_neg (by decide)]
      rw [decide_eq_false (by rw [Feat.ext_iff']; exact fun e => h2 e.2.1)] at hq; exact hq
  · rw [if_neg (by rw [beq_iff_eq]; exact h)]
    rw [decide_eq_false (by rw [Feat.ext_iff']; exact fun e => h e.1)] at hq; exact hq
end Go.Proofs.Ytndjggncgpjolaa

namespace Go.Proofs.Ytndjggncgpjolaa
open Go.RowKit
set_option linter.unusedVariables false
def impl_Change_same.E (c_ : Change) (Q : Bool → Prop) : Prop :=
  (if c_.Had == c_.Has then impl_FeatSame.E c_.Was c_.Now (fun r => Q r) else Q false)
set_option maxHeartbeats 8000000 in
set_option maxRecDepth 100000 in
theorem impl_Change_same.calls {O : Ob} (w0 : World) (hO : Ok w0 O) (c_ : Change) (A3 : Option Addr) (n4 c5 : Nat) (A8 : Option Addr) (n9 c10 : Nat) (A14 : Option Addr) (n15 c16 : Nat) (A19 : Option Addr) (n20 c21 : Nat) (hs1 : Lim c_.Id) (hs2 : Lim c_.Was.Id) (hp6 : Sl kPt w0 (Fr O) (.slice A3 n4 c5) c_.Was.Shape.Pts) (hp11 : Sl kTag w0 (Fr O) (.slice A8 n9 c10) c_.Was.Tags) (hs13 : Lim c_.Now.Id) (hp17 : Sl kPt w0 (Fr O) (.slice A14 n15 c16) c_.Now.Shape.Pts) (hp22 : Sl kTag w0 (Fr O) (.slice A19 n20 c21) c_.Now.Tags) (Q : Bool → Prop) (h : impl_Change_same.E c_ Q) :
    Ret Try.prog 77 [.agg #[vs c_.Id, vb c_.Had, vs c_.Was.Id, vi c_.Was.Shape.Kind, .slice A3 n4 c5, .slice A8 n9 c10, vb c_.Has, vs c_.Now.Id, vi c_.Now.Shape.Kind, .slice A14 n15 c16, .slice A19 n20 c21]] w0 (fun v w' => ∃ (r0 : Bool), v = vb r0 ∧ Q r0 ∧ Gr w0 w' none) := by
  have H : (if c_.Had == c_.Has then impl_FeatSame.E c_.Was c_.Now (fun r => Q r) else Q false) := h
  clear h
  have hc0 := Ct.init hO
  refine Ret_enter Try.func77 rfl 15 rfl [.tmp 2] rfl rfl ?_
  refine W_seq ?_
  refine W_reg ?_
  refine L_box [vs c_.Id, vb c_.Had, vs c_.Was.Id, vi c_.Was.Shape.Kind, .slice A3 n4 c5, .slice A8 n9 c10, vb c_.Has, vs c_.Now.Id, vi c_.Now.Shape.Kind, .slice A14 n15 c16, .slice A19 n20 c21] rfl fun w24 b25 hl27 hu28 g26 hx29 => ?_
  have h31 := Fb.mk hc0.ok hl27 hx29
  have hc32 := hc0.k0 g26
  refine L_pu (P_assign (vb false) rfl) ?_
  refine L_nil ?_
  refine W_seq ?_
  refine W_reg ?_
  refine L_pu (P_fa fa103_1 ⟨b25, 0, none⟩ ⟨b25, 1, none⟩ rfl rfl) ?_
  refine L_pu (P_ld ag4 cL ⟨b25, 1, none⟩ (vb c_.Had) rfl (h31.cell rfl)) ?_
  refine L_pu (P_fa fa103_3 ⟨b25, 0, none⟩ ⟨b25, 6, none⟩ rfl rfl) ?_
  refine L_pu (P_ld ag4 cL ⟨b25, 6, none⟩ (vb c_.Has) rfl (h31.cell rfl)) ?_
  refine L_pu (P_bcmp Try.underlying4 c_.Had c_.Has (c_.Had == c_.Has) rfl rfl rfl) ?_
  refine L_pu (P_move (vb (c_.Had == c_.Has)) rfl) ?_
  rcases bool_or (c_.Had == c_.Has) with hq33 | hq33
  · have H := ite_t H hq33
    refine L_run (dj := 8) rfl rfl (by exact congrArg Value.bool hq33) ?_
    refine L_pu (P_fa fa103_2 ⟨b25, 0, none⟩ ⟨b25, 2, none⟩ rfl rfl) ?_
    refine L_run (dj := 8) rfl rfl (by exact congrArg Value.bool hq33) ?_
    refine L_pu (P_lda ag71 sz71 cL ⟨b25, 2, none⟩ [vs c_.Was.Id, vi c_.Was.Shape.Kind, .slice A3 n4 c5, .slice A8 n9 c10] rfl rfl (h31.cells (off := 2) rfl)) ?_
    refine L_run (dj := 8) rfl rfl (by exact congrArg Value.bool hq33) ?_
    refine L_pu (P_fa fa103_4 ⟨b25, 0, none⟩ ⟨b25, 7, none⟩ rfl rfl) ?_
    refine L_run (dj := 8) rfl rfl (by exact congrArg Value.bool hq33) ?_
    refine L_pu (P_lda ag71 sz71 cL ⟨b25, 7, none⟩ [vs c_.Now.Id, vi c_.Now.Shape.Kind, .slice A14 n15 c16, .slice A19 n20 c21] rfl rfl (h31.cells (off := 7) rfl)) ?_
    refine L_run (dj := 8) rfl rfl (by exact congrArg Value.bool hq33) ?_
    refine L_call go86 [.agg #[vs c_.Was.Id, vi c_.Was.Shape.Kind, .slice A3 n4 c5, .slice A8 n9 c10], .agg #[vs c_.Now.Id, vi c_.Now.Shape.Kind, .slice A14 n15 c16, .slice A19 n20 c21]] rfl ((impl_FeatSame.calls w24 hc32.ok c_.Was A3 n4 c5 A8 n9 c10 hs2 (hp6.st hc32.st) (hp11.st hc32.st) c_.Now A14 n15 c16 A19 n20 c21 hs13 (hp17.st hc32.st) (hp22.st hc32.st) _ H).mono ?_)
    rintro _ w34 ⟨r, rfl, H, g35⟩
    have hc39 := hc32.k0 g35
    refine L_pu (P_pick true (vb r) (by exact congrArg Value.bool hq33) rfl) ?_
    refine L_pu (P_assign (vb r) rfl) ?_
    refine L_nil ?_
    refine W_ret ?_
    exact ⟨[vb r], ⟨_, rfl, rfl⟩, r, rfl, H, hc39.gr.g0⟩
  · have H := ite_f H hq33
    refine L_pass (dj := 8) rfl rfl (.inl (by exact congrArg Value.bool hq33)) ?_
    refine L_pass (dj := 8) rfl rfl (.inl (by exact congrArg Value.bool hq33)) ?_
    refine L_pass (dj := 8) rfl rfl (.inl (by exact congrArg Value.bool hq33)) ?_
    refine L_pass (dj := 8) rfl rfl (.inl (by exact congrArg Value.bool hq33)) ?_
    refine L_pass (dj := 8) rfl rfl (.inl (by exact congrArg Value.bool hq33)) ?_
    refine L_pu (P_pick false (vb false) (by exact congrArg Value.bool hq33) rfl) ?_
    refine L_pu (P_assign (vb false) rfl) ?_
    refine L_nil ?_
    refine W_ret ?_
    exact ⟨[vb false], ⟨_, rfl, rfl⟩, false, rfl, H, hc32.gr.g0⟩
end Go.Proofs.Ytndjggncgpjolaa

namespace Go.Proofs.Ytndjggncgpjolaa
set_option linter.unusedVariables false
set_option linter.unusedSimpArgs false
set_option linter.unusedSectionVars false
theorem impl_Change_same.law (c : Change) (Q : Bool → Prop) (hb : bulk c ≤ 1048576) (hq : Q (sameC c)) : impl_Change_same.E c Q := by
  unfold impl_Change_same.E
  unfold sameC at hq
  have b1 : bulk c = bulk c.Id + bulk c.Had + bulk c.Was + bulk c.Has + bulk c.Now := rfl
  have b2 : bulk c.Was = bulk c.Was.Id + bulk c.Was.Shape + bulk c.Was.Tags := rfl
  have b3 : bulk c.Was.Shape = bulk c.Was.Shape.Kind + bulk c.Was.Shape.Pts := rfl
  have l1 := bulk_len c.Was.Tags; have l2 := bulk_len c.Was.Shape.Pts
  by_cases h : c.Had = c.Has
  · rw [if_pos (by rw [beq_iff_eq]; exact h)]
    rw [decide_eq_true h, Bool.true_and] at hq
    exact impl_FeatSame.law _ _ _ (by omega) hq
  · rw [if_neg (by rw [beq_iff_eq]; exact h)]
    rw [decide_eq_false h] at hq; exact hq
end Go.Proofs.Ytndjggncgpjolaa
