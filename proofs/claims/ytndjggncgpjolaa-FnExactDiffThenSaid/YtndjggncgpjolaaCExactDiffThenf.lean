/- It is proved here that the law FnExactDiffThen of the given program holds whatever it is handed: the walks through the code, the plain laws and the row, in this order.
   Conditions: none. -/
import Derived.Below
import Derived.ChangeArms
import Derived.ChangeOld
import Derived.ChangeSlices
import Derived.DataReads
import Derived.Deep.Quiet
import Derived.KernelRfl
import Derived.Laws.Build
import Derived.Laws.IdiomStrings
import Derived.Laws.OwnMore
import Derived.Laws.Slices
import Derived.Laws.StructEq
import Derived.OpenShut
import Derived.ProofKit
import Derived.Shelf.Slices.Cells
import Derived.Shelf.Slices.CompactS
import Derived.Shelf.Slices.In.SortNone
import Derived.Shelf.Small.Bits
import Derived.Shelf.Sort.Plain
import Derived.Shelf.Strconv.Itoa0
import Derived.ShutString
import Derived.SizedLaws
import Derived.StillTail
import Derived.Test.YtndjggncgpjolaaProg
import Derived.Test.YtndjggncgpjolaaRows
import Derived.WalkKit
import Derived.Test.YtndjggncgpjolaaCExactDiffThena
import Derived.Test.YtndjggncgpjolaaCExactDiffThenb
import Derived.Test.YtndjggncgpjolaaCExactDiffThenc
import Derived.Test.YtndjggncgpjolaaCExactDiffThend
import Derived.Test.YtndjggncgpjolaaCExactDiffThene
namespace Go.Proofs.Ytndjggncgpjolaa
open Go.RowKit
set_option linter.unusedVariables false
set_option linter.unusedSimpArgs false
def impl_DiffThen.E (a : List Change) (b : List Change) (Q : List Change → Bool → Prop) : Prop :=
 impl_DiffOk.E a (fun r => (if !r then Q ([] : List Change) false else impl_DiffOk.E b (fun r2 => (if !r2 then Q ([] : List Change) false else slices_Concat_Change.E ([a, b] : List (List Change)) (fun r3 => (∃ (I122 : (List Str) → Int → Prop) (mu123 : (List Str) → Int → Nat), I122 ([] : List Str) 0 ∧ ∀ (xs2 : List Str) (v2 : Int), I122 xs2 v2 → (if decide (v2 < (r3.length : Int)) then ((0 : Int) ≤ v2 ∧ v2 < (r3.length : Int)) ∧ (xs2.length + ([(nth r3 v2).Id] : List Str).length ≤ 268435456) ∧ (I64 (v2 + 1)) ∧ I122 (xs2 ++ ([(nth r3 v2).Id] : List Str)) (v2 + 1) ∧ mu123 (xs2 ++ ([(nth r3 v2).Id] : List Str)) (v2 + 1) < mu123 xs2 v2 else slices_Sort_string.E xs2 (fun m => slices_Compact_string.E m (fun r4 => (∃ (I271 : (List Change) → Int → Prop) (mu272 : (List Change) → Int → Nat), I271 ([] : List Change) 0 ∧ ∀ (xs4 : List Change) (v4 : Int), I271 xs4 v4 → (if decide (v4 < (r4.length : Int)) then ((0 : Int) ≤ v4 ∧ v4 < (r4.length : Int)) ∧ impl_changeAt.E a (nth r4 v4) (fun r5 => impl_changeAt.E b (nth r4 v4) (fun r6 => (if decide (r6 < 0) then ((0 : Int) ≤ r5 ∧ r5 < (a.length : Int)) ∧ impl_Change_same.E (nth a r5) (fun r7 => (if !r7 then impl_cloneChange.E (nth a r5) (fun r8 => (xs4.length + ([r8] : List Change).length ≤ 268435456) ∧ (I64 (v4 + 1)) ∧ I271 (xs4 ++ ([r8] : List Change)) (v4 + 1) ∧ mu272 (xs4 ++ ([r8] : List Change)) (v4 + 1) < mu272 xs4 v4) else (I64 (v4 + 1)) ∧ I271 xs4 (v4 + 1) ∧ mu272 xs4 (v4 + 1) < mu272 xs4 v4)) else (if decide (r5 < 0) then ((0 : Int) ≤ r6 ∧ r6 < (b.length : Int)) ∧ impl_Change_same.E (nth b r6) (fun r9 => (if !r9 then impl_cloneChange.E (nth b r6) (fun r10 => (xs4.length + ([r10] : List Change).length ≤ 268435456) ∧ (I64 (v4 + 1)) ∧ I271 (xs4 ++ ([r10] : List Change)) (v4 + 1) ∧ mu272 (xs4 ++ ([r10] : List Change)) (v4 + 1) < mu272 xs4 v4) else (I64 (v4 + 1)) ∧ I271 xs4 (v4 + 1) ∧ mu272 xs4 (v4 + 1) < mu272 xs4 v4)) else ((0 : Int) ≤ r5 ∧ r5 < (a.length : Int)) ∧ ((0 : Int) ≤ r6 ∧ r6 < (b.length : Int)) ∧ (if ((nth a r5).Has) != ((nth b r6).Had) then Q ([] : List Change) false else ((0 : Int) ≤ r5 ∧ r5 < (a.length : Int)) ∧ ((0 : Int) ≤ r6 ∧ r6 < (b.length : Int)) ∧ (∃ q : Bool, impl_FeatSame.E ((nth a r5).Now) ((nth b r6).Was) (fun x => x = q) ∧ (if !q then Q ([] : List Change) false else ((0 : Int) ≤ r5 ∧ r5 < (a.length : Int)) ∧ ((0 : Int) ≤ r5 ∧ r5 < (a.length : Int)) ∧ ((0 : Int) ≤ r6 ∧ r6 < (b.length : Int)) ∧ ((0 : Int) ≤ r6 ∧ r6 < (b.length : Int)) ∧ impl_Change_same.E (⟨(nth r4 v4), (nth a r5).Had, (nth a r5).Was, (nth b r6).Has, (nth b r6).Now⟩ : Change) (fun r12 => (if !r12 then impl_cloneChange.E (⟨(nth r4 v4), (nth a r5).Had, (nth a r5).Was, (nth b r6).Has, (nth b r6).Now⟩ : Change) (fun r13 => (xs4.length + ([r13] : List Change).length ≤ 268435456) ∧ (I64 (v4 + 1)) ∧ I271 (xs4 ++ ([r13] : List Change)) (v4 + 1) ∧ mu272 (xs4 ++ ([r13] : List Change)) (v4 + 1) < mu272 xs4 v4) else (I64 (v4 + 1)) ∧ I271 xs4 (v4 + 1) ∧ mu272 xs4 (v4 + 1) < mu272 xs4 v4))))))))) else impl_DiffOk.E xs4 (fun r14 => (if !r14 then Q ([] : List Change) false else Q xs4 true)))))))))))))
set_option maxHeartbeats 8000000 in
set_option maxRecDepth 100000 in
theorem impl_DiffThen.calls {O : Ob} (w0 : World) (hO : Ok w0 O) (a : List Change) (A1 : Option Addr) (n2 c3 : Nat) (hp4 : Sl kChange w0 (Fr O) (.slice A1 n2 c3) a) (b : List Change) (A6 : Option Addr) (n7 c8 : Nat) (hp9 : Sl kChange w0 (Fr O) (.slice A6 n7 c8) b) (Q : List Change → Bool → Prop) (h : impl_DiffThen.E a b Q) :
  Ret Try.prog 32 [.slice A1 n2 c3, .slice A6 n7 c8] w0 (fun v w' => ∃ (r0 : List Change) (r1 : Bool) (A0 : Option Addr) (n0 c0 : Nat) (q0 : Ob) (ra0 : List (List Value)), v = .tuple #[.slice A0 n0 c0, vb r1] ∧ Q r0 r1 ∧ Gr w0 w' none ∧ Ok w' ((blk (.slice A0 n0 c0) :: (q0 ++ [])) ++ O) ∧ (∀ b, some b ∈ (blk (.slice A0 n0 c0) :: (q0 ++ [])) → w0.heap.size ≤ b) ∧ Ow (Kd.cells 11) 103 w' ((blk (.slice A0 n0 c0) :: (q0 ++ [])) ++ O) (.slice A0 n0 c0) ra0 ∧ DArr dChange_103 w' q0 r0 ra0) := by
 have H : impl_DiffOk.E a (fun r => (if !r then Q ([] : List Change) false else impl_DiffOk.E b (fun r2 => (if !r2 then Q ([] : List Change) false else slices_Concat_Change.E ([a, b] : List (List Change)) (fun r3 => (∃ (I122 : (List Str) → Int → Prop) (mu123 : (List Str) → Int → Nat), I122 ([] : List Str) 0 ∧ ∀ (xs2 : List Str) (v2 : Int), I122 xs2 v2 → (if decide (v2 < (r3.length : Int)) then ((0 : Int) ≤ v2 ∧ v2 < (r3.length : Int)) ∧ (xs2.length + ([(nth r3 v2).Id] : List Str).length ≤ 268435456) ∧ (I64 (v2 + 1)) ∧ I122 (xs2 ++ ([(nth r3 v2).Id] : List Str)) (v2 + 1) ∧ mu123 (xs2 ++ ([(nth r3 v2).Id] : List Str)) (v2 + 1) < mu123 xs2 v2 else slices_Sort_string.E xs2 (fun m => slices_Compact_string.E m (fun r4 => (∃ (I271 : (List Change) → Int → Prop) (mu272 : (List Change) → Int → Nat), I271 ([] : List Change) 0 ∧ ∀ (xs4 : List Change) (v4 : Int), I271 xs4 v4 → (if decide (v4 < (r4.length : Int)) then ((0 : Int) ≤ v4 ∧ v4 < (r4.length : Int)) ∧ impl_changeAt.E a (nth r4 v4) (fun r5 => impl_changeAt.E b (nth r4 v4) (fun r6 => (if decide (r6 < 0) then ((0 : Int) ≤ r5 ∧ r5 < (a.length : Int)) ∧ impl_Change_same.E (nth a r5) (fun r7 => (if !r7 then impl_cloneChange.E (nth a r5) (fun r8 => (xs4.length + ([r8] : List Change).length ≤ 268435456) ∧ (I64 (v4 + 1)) ∧ I271 (xs4 ++ ([r8] : List Change)) (v4 + 1) ∧ mu272 (xs4 ++ ([r8] : List Change)) (v4 + 1) < mu272 xs4 v4) else (I64 (v4 + 1)) ∧ I271 xs4 (v4 + 1) ∧ mu272 xs4 (v4 + 1) < mu272 xs4 v4)) else (if decide (r5 < 0) then ((0 : Int) ≤ r6 ∧ r6 < (b.length : Int)) ∧ impl_Change_same.E (nth b r6) (fun r9 => (if !r9 then impl_cloneChange.E (nth b r6) (fun r10 => (xs4.length + ([r10] : List Change).length ≤ 268435456) ∧ (I64 (v4 + 1)) ∧ I271 (xs4 ++ ([r10] : List Change)) (v4 + 1) ∧ mu272 (xs4 ++ ([r10] : List Change)) (v4 + 1) < mu272 xs4 v4) else (I64 (v4 + 1)) ∧ I271 xs4 (v4 + 1) ∧ mu272 xs4 (v4 + 1) < mu272 xs4 v4)) else ((0 : Int) ≤ r5 ∧ r5 < (a.length : Int)) ∧ ((0 : Int) ≤ r6 ∧ r6 < (b.length : Int)) ∧ (if ((nth a r5).Has) != ((nth b r6).Had) then Q ([] : List Change) false else ((0 : Int) ≤ r5 ∧ r5 < (a.length : Int)) ∧ ((0 : Int) ≤ r6 ∧ r6 < (b.length : Int)) ∧ (∃ q : Bool, impl_FeatSame.E ((nth a r5).Now) ((nth b r6).Was) (fun x => x = q) ∧ (if !q then Q ([] : List Change) false else ((0 : Int) ≤ r5 ∧ r5 < (a.length : Int)) ∧ ((0 : Int) ≤ r5 ∧ r5 < (a.length : Int)) ∧ ((0 : Int) ≤ r6 ∧ r6 < (b.length : Int)) ∧ ((0 : Int) ≤ r6 ∧ r6 < (b.length : Int)) ∧ impl_Change_same.E (⟨(nth r4 v4), (nth a r5).Had, (nth a r5).Was, (nth b r6).Has, (nth b r6).Now⟩ : Change) (fun r12 => (if !r12 then impl_cloneChange.E (⟨(nth r4 v4), (nth a r5).Had, (nth a r5).Was, (nth b r6).Has, (nth b r6).Now⟩ : Change) (fun r13 => (xs4.length + ([r13] : List Change).length ≤ 268435456) ∧ (I64 (v4 + 1)) ∧ I271 (xs4 ++ ([r13] : List Change)) (v4 + 1) ∧ mu272 (xs4 ++ ([r13] : List Change)) (v4 + 1) < mu272 xs4 v4) else (I64 (v4 + 1)) ∧ I271 xs4 (v4 + 1) ∧ mu272 xs4 (v4 + 1) < mu272 xs4 v4))))))))) else impl_DiffOk.E xs4 (fun r14 => (if !r14 then Q ([] : List Change) false else Q xs4 true))))))))))))) := h
 clear h
 have hc0 := Ct.init hO
 refine Ret_enter Try.func32 rfl 133 rfl [.tmp 4, .tmp 5] rfl rfl ?_
 refine W_seq ?_
 refine W_reg ?_
 refine L_pu (P_assign (.slice none 0 0) rfl) ?_
 refine L_pu (P_assign (vb false) rfl) ?_
 refine L_nil ?_
 refine W_seq ?_
 refine W_seq ?_
 refine W_reg ?_
 refine L_pu (P_move (.slice A1 n2 c3) rfl) ?_
 refine L_call go64 [.slice A1 n2 c3] rfl ((impl_DiffOk.calls w0 hc0.ok a A1 n2 c3 hp4 _ H).mono ?_)
 rintro _ w11 ⟨r, rfl, H, g12⟩
 have hc16 := hc0.k0 g12
 refine L_pu (P_not r rfl) ?_
 refine L_pu (P_move (vb (!r)) rfl) ?_
 rcases bool_or (!r) with hq17 | hq17
 ·have H := ite_t H hq17
  refine L_pass (dj := 18) rfl rfl (.inl (by exact congrArg Value.bool hq17)) ?_
  refine L_pass (dj := 18) rfl rfl (.inl (by exact congrArg Value.bool hq17)) ?_
  refine L_pass (dj := 18) rfl rfl (.inl (by exact congrArg Value.bool hq17)) ?_
  refine L_pu (P_pick true (vb true) (by exact congrArg Value.bool hq17) rfl) ?_
  refine L_nil ?_
  refine W_ct (b := true) rfl rfl ?_
  refine W_seq ?_
  refine W_reg ?_
  have hd26 : DArr dChange_103 w11 ([] : Ob) ([] : List Change) ([] : List (List Value)) := rfl
  refine L_lit (kd := Kd.cells 11) ei43 hc16 ([] : List (List Value)) (cells := []) rfl (fun _ => by kernel_rfl) fun w18 A19 n20 c21 g22 hr23 hc24 h25 => ?_
  have hp28 : ([blk (.slice A19 n20 c21)] : Ob).Perm (blk (.slice A19 n20 c21) :: (([] : Ob) ++ [])) := (by rw [List.perm_iff_count]; intro a; (try simp only [List.count_append, List.count_cons, List.count_nil, Nat.add_zero, Nat.zero_add]); first | done | ac_rfl)
  have hc29 := hc24.perm hp28
  refine L_pu (P_assign (.slice A19 n20 c21) rfl) ?_
  refine L_pu (P_assign (vb false) rfl) ?_
  refine L_nil ?_
  refine W_ret ?_
  have h30 := (Ow.sp (L := [blk (.slice A19 n20 c21)]) (O := O) h25 hp28)
  have hd31 := (hd26.k0 g22)
  exact ⟨[.slice A19 n20 c21, vb false], ⟨_, rfl, ⟨_, rfl, rfl⟩⟩, ([] : List Change), false, A19, n20, c21, ([] : Ob), ([] : List (List Value)), rfl, H, hc29.gr.g0, hc29.ok, hc29.ge, h30, hd31⟩
 ·have H := ite_f H hq17
  refine L_run (dj := 18) rfl rfl (by exact congrArg Value.bool hq17) ?_
  refine L_pu (P_move (.slice A6 n7 c8) rfl) ?_
  refine L_run (dj := 18) rfl rfl (by exact congrArg Value.bool hq17) ?_
  refine L_call go64 [.slice A6 n7 c8] rfl ((impl_DiffOk.calls w11 hc16.ok b A6 n7 c8 (hp9.st hc16.st) _ H).mono ?_)
  rintro _ w32 ⟨r2, rfl, H, g33⟩
  have hc37 := hc16.k0 g33
  refine L_run (dj := 18) rfl rfl (by exact congrArg Value.bool hq17) ?_
  refine L_pu (P_not r2 rfl) ?_
  refine L_pu (P_pick false (vb (!r2)) (by exact congrArg Value.bool hq17) rfl) ?_
  refine L_nil ?_
  refine W_cond (!r2) rfl (fun hq38 => ?_) (fun hq38 => ?_)
  ·have H := ite_t H hq38
   refine W_seq ?_
   refine W_reg ?_
   have hd47 : DArr dChange_103 w32 ([] : Ob) ([] : List Change) ([] : List (List Value)) := rfl
   refine L_lit (kd := Kd.cells 11) ei43 hc37 ([] : List (List Value)) (cells := []) rfl (fun _ => by kernel_rfl) fun w39 A40 n41 c42 g43 hr44 hc45 h46 => ?_
   have hp49 : ([blk (.slice A40 n41 c42)] : Ob).Perm (blk (.slice A40 n41 c42) :: (([] : Ob) ++ [])) := (by rw [List.perm_iff_count]; intro a; (try simp only [List.count_append, List.count_cons, List.count_nil, Nat.add_zero, Nat.zero_add]); first | done | ac_rfl)
   have hc50 := hc45.perm hp49
   refine L_pu (P_assign (.slice A40 n41 c42) rfl) ?_
   refine L_pu (P_assign (vb false) rfl) ?_
   refine L_nil ?_
   refine W_ret ?_
   have h51 := (Ow.sp (L := [blk (.slice A40 n41 c42)]) (O := O) h46 hp49)
   have hd52 := (hd47.k0 g43)
   exact ⟨[.slice A40 n41 c42, vb false], ⟨_, rfl, ⟨_, rfl, rfl⟩⟩, ([] : List Change), false, A40, n41, c42, ([] : Ob), ([] : List (List Value)), rfl, H, hc50.gr.g0, hc50.ok, hc50.ge, h51, hd52⟩
  ·have H := ite_f H hq38
   refine W_skip ?_
   refine W_seq ?_
   refine W_reg ?_
   refine L_lit (kd := Kd.str) ei72 hc37 ([] : List Str) (cells := []) rfl (fun _ => by kernel_rfl) fun w53 A54 n55 c56 g57 hr58 hc59 h60 => ?_
   refine L_pu (P_assign (.slice A54 n55 c56) rfl) ?_
   refine L_nil ?_
   refine W_seq ?_
   refine W_seq ?_
   refine W_reg ?_
   refine L_pu (P_move (.slice A1 n2 c3) rfl) ?_
   refine L_pu (P_move (.slice A6 n7 c8) rfl) ?_
   refine L_lit (kd := (Kd.sl kChange)) ei158 hc59 ([a, b] : List (List Change)) (cells := [.slice A1 n2 c3, .slice A6 n7 c8]) ⟨[.slice A1 n2 c3], _, rfl, ⟨_, rfl, (hp4.st hc59.st)⟩, ⟨[.slice A6 n7 c8], _, rfl, ⟨_, rfl, (hp9.st hc59.st)⟩, rfl⟩⟩ (fun _ => by kernel_rfl) fun w62 A63 n64 c65 g66 hr67 hc68 h69 => ?_
   have h71 := Ow.gv (L := [blk (.slice A63 n64 c65), blk (.slice A54 n55 c56)]) (O := O) h69 hc68 (i := 0) rfl
   have hc72 := hc68.drop 0 rfl
   refine L_call go82 [.slice A63 n64 c65] rfl ((slices_Concat_Change.calls w62 hc72.ok ([a, b] : List (List Change)) A63 n64 c65 h71 _ H).mono ?_)
   rintro _ w74 ⟨r3, A76, n77, c78, rfl, H, g75, hk82, hk83, h79⟩
   have hc84 := hc72.owns g75 hk82 hk83
   have hl85 := h79.le
   refine L_pu (P_len Try.underlying43 A76 n77 c78 h79.len rfl) ?_
   refine L_pu (P_move (vi 0) rfl) ?_
   refine L_nil ?_
   refine W_block ?_
   obtain ⟨I122, mu123, hI124, H⟩ := H
   have h126 := ((Ow.sd (L := [blk (.slice A63 n64 c65), blk (.slice A54 n55 c56)]) (O := O) (h60.so _ g66 hr67) (i := 1) rfl (j := 0) rfl (by decide)).sos g75 hk83)
   refine W_loop (α := (List Str) × (Option Addr) × Nat × Nat × Int) (fun (sv__ : (List Str) × (Option Addr) × Nat × Nat × Int) t w109 => match sv__ with | (xs2, A112, n113, c114, v2) => I122 xs2 v2 ∧ Has t [(0, .slice A1 n2 c3), (1, .slice A6 n7 c8), (6, .slice A112 n113 c114), (28, .slice A76 n77 c78), (29, vi (r3.length : Int)), (30, vi v2)] ∧ Ct [] w0 w109 [blk (.slice A76 n77 c78), blk (.slice A112 n113 c114)] O ∧ Sl kChange w109 (Fr ([blk (.slice A76 n77 c78), blk (.slice A112 n113 c114)] ++ O)) (.slice A1 n2 c3) a ∧ Sl kChange w109 (Fr ([blk (.slice A76 n77 c78), blk (.slice A112 n113 c114)] ++ O)) (.slice A6 n7 c8) b ∧ Ow Kd.str 9 w109 ([blk (.slice A76 n77 c78), blk (.slice A112 n113 c114)] ++ O) (.slice A112 n113 c114) xs2 ∧ Ow kChange 103 w109 ([blk (.slice A76 n77 c78), blk (.slice A112 n113 c114)] ++ O) (.slice A76 n77 c78) r3) (fun (sv__ : (List Str) × (Option Addr) × Nat × Nat × Int) => match sv__ with | (xs2, _, _, _, v2) => mu123 xs2 v2) (([] : List Str), A54, n55, c56, 0) ⟨hI124, ⟨rfl, rfl, rfl, rfl, rfl, rfl, trivial⟩, hc84, (hp4.st hc84.st), (hp9.st hc84.st), h126, h79⟩ ?_
   rintro ⟨xs2, A112, n113, c114, v2⟩ _ w109 ⟨hI124, hh127, hc117, h118, h119, h120, h121⟩
   obtain ⟨u128, rfl⟩ := Has.ins hh127
   have H := H xs2 v2 hI124
   refine W_seq ?_
   refine W_reg ?_
   refine L_pu (P_cmp v2 (r3.length : Int) (decide (v2 < (r3.length : Int))) rfl rfl rfl) ?_
   refine L_nil ?_
   refine W_seq ?_
   refine W_cond (decide (v2 < (r3.length : Int))) rfl (fun hq129 => ?_) (fun hq129 => ?_)
   ·have H := ite_t H hq129
    refine W_skip ?_
    refine W_seq ?_
    refine W_block ?_
    refine W_seq ?_
    refine W_reg ?_
    obtain ⟨hb130, H⟩ := H
    obtain ⟨ad131, cs132, hA133, hR134, hcl135⟩ := h121.get default (by decide) v2 hb130
    obtain ⟨A139, n140, c141, A144, n145, c146, A150, n151, c152, A155, n156, c157, rfl, hs137, hs138, h142, h147, hs149, h153, h158⟩ := kChange.op hR134
    refine L_pu (P_ia Try.underlying43 se43 A76 ad131 n77 c78 h121.len v2 rfl hA133 rfl hb130) ?_
    refine L_pu (P_lda ag103 sz103 cL (ad131.add (v2.toNat * 11)) [vs ((nth r3 v2).Id), vb ((nth r3 v2).Had), vs ((nth r3 v2).Was.Id), vi ((nth r3 v2).Was.Shape.Kind), .slice A139 n140 c141, .slice A144 n145 c146, vb ((nth r3 v2).Has), vs ((nth r3 v2).Now.Id), vi ((nth r3 v2).Now.Shape.Kind), .slice A150 n151 c152, .slice A155 n156 c157] rfl rfl hcl135) ?_
    refine L_alloc [vs [], vb false, vs [], .int .i64 0, .slice none 0 0, .slice none 0 0, vb false, vs [], .int .i64 0, .slice none 0 0, .slice none 0 0] ze103 fun w160 b161 hl163 hu164 g162 hx165 => ?_
    have hc167 := hc117.own g162 (some b161) (oglt hl163 hu164)
    refine L_stb b161 0 [vs ([] : Str), vb false, vs ([] : Str), vi 0, .slice none 0 0, .slice none 0 0, vb false, vs ([] : Str), vi 0, .slice none 0 0, .slice none 0 0] [vs ((nth r3 v2).Id), vb ((nth r3 v2).Had), vs ((nth r3 v2).Was.Id), vi ((nth r3 v2).Was.Shape.Kind), .slice A139 n140 c141, .slice A144 n145 c146, vb ((nth r3 v2).Has), vs ((nth r3 v2).Now.Id), vi ((nth r3 v2).Now.Shape.Kind), .slice A150 n151 c152, .slice A155 n156 c157] [vs ((nth r3 v2).Id), vb ((nth r3 v2).Had), vs ((nth r3 v2).Was.Id), vi ((nth r3 v2).Was.Shape.Kind), .slice A139 n140 c141, .slice A144 n145 c146, vb ((nth r3 v2).Has), vs ((nth r3 v2).Now.Id), vi ((nth r3 v2).Now.Shape.Kind), .slice A150 n151 c152, .slice A155 n156 c157] rfl hx165 rfl sz103 rfl rfl rfl fun w168 g169 hx170 => ?_
    have hc171 := hc167.wr 0 rfl g169
    refine L_nil ?_
    refine W_reg ?_
    refine L_pu (P_move (.slice A112 n113 c114) rfl) ?_
    refine L_pu (P_fa fa103_0 ⟨b161, 0, none⟩ ⟨b161, 0, none⟩ rfl rfl) ?_
    refine L_pu (P_ld ag9 cL ⟨b161, 0, none⟩ (vs ((nth r3 v2).Id)) rfl (hx170.cell rfl)) ?_
    refine L_lit (kd := Kd.str) ei72 hc171 ([(nth r3 v2).Id] : List Str) (cells := [vs ((nth r3 v2).Id)]) ⟨[vs ((nth r3 v2).Id)], _, rfl, ⟨rfl, hs137⟩, rfl⟩ (fun _ => by kernel_rfl) fun w172 A173 n174 c175 g176 hr177 hc178 h179 => ?_
    obtain ⟨hb181, H⟩ := H
    have h182 := ((Ow.sw (L := [some b161, blk (.slice A76 n77 c78), blk (.slice A112 n113 c114)]) (O := O) (h120.so _ g162 (oge hl163)) hc167 (i := 2) rfl (j := 0) rfl (by decide) g169).so _ g176 hr177)
    refine L_app ei72 hc178 (.slice A112 n113 c114) xs2 ([(nth r3 v2).Id] : List Str) rfl h182 (.slice A173 n174 c175) rfl h179.sx 3 rfl hb181 fun w183 A184 n185 c186 g187 s188 hc189 h190 => ?_
    refine L_pu (P_assign (.slice A184 n185 c186) rfl) ?_
    refine L_nil ?_
    refine W_reg ?_
    obtain ⟨hb192, H⟩ := H
    refine L_pu (P_add v2 1 rfl rfl hb192) ?_
    refine L_pu (P_move (vi (v2 + 1)) rfl) ?_
    refine L_nil ?_
    have hc193 := hc189.drop 0 rfl
    have hc194 := hc193.drop 0 rfl
    obtain ⟨hI195, hm196⟩ := H
    have h197 := ((((((h118.st (.own _ _ g162 (oge hl163))).st (.wl (L := [some b161, blk (.slice A76 n77 c78), blk (.slice A112 n113 c114)]) (O := O) (j := 0) rfl g169)).st (.own _ _ g176 hr177)).st s188).st (.dr _ (L := [blk (.slice A173 n174 c175), some b161, blk (.slice A76 n77 c78), blk (.slice A184 n185 c186)]) (O := O) (j := 0) rfl)).st (.dr _ (L := [some b161, blk (.slice A76 n77 c78), blk (.slice A184 n185 c186)]) (O := O) (j := 0) rfl))
    have h198 := ((((((h119.st (.own _ _ g162 (oge hl163))).st (.wl (L := [some b161, blk (.slice A76 n77 c78), blk (.slice A112 n113 c114)]) (O := O) (j := 0) rfl g169)).st (.own _ _ g176 hr177)).st s188).st (.dr _ (L := [blk (.slice A173 n174 c175), some b161, blk (.slice A76 n77 c78), blk (.slice A184 n185 c186)]) (O := O) (j := 0) rfl)).st (.dr _ (L := [some b161, blk (.slice A76 n77 c78), blk (.slice A184 n185 c186)]) (O := O) (j := 0) rfl))
    have h199 := (Ow.sd (L := [some b161, blk (.slice A76 n77 c78), blk (.slice A184 n185 c186)]) (O := O) (Ow.sd (L := [blk (.slice A173 n174 c175), some b161, blk (.slice A76 n77 c78), blk (.slice A184 n185 c186)]) (O := O) h190 (i := 3) rfl (j := 0) rfl (by decide)) (i := 2) rfl (j := 0) rfl (by decide))
    have h200 := (Ow.sd (L := [some b161, blk (.slice A76 n77 c78), blk (.slice A184 n185 c186)]) (O := O) (Ow.sd (L := [blk (.slice A173 n174 c175), some b161, blk (.slice A76 n77 c78), blk (.slice A184 n185 c186)]) (O := O) (Ow.sm (L := [blk (.slice A173 n174 c175), some b161, blk (.slice A76 n77 c78), blk (.slice A112 n113 c114)]) (O := O) ((Ow.sw (L := [some b161, blk (.slice A76 n77 c78), blk (.slice A112 n113 c114)]) (O := O) (h121.so _ g162 (oge hl163)) hc167 (i := 1) rfl (j := 0) rfl (by decide) g169).so _ g176 hr177) hc178 (i := 2) rfl (j := 3) rfl (by decide) g187 s188) (i := 2) rfl (j := 0) rfl (by decide)) (i := 1) rfl (j := 0) rfl (by decide))
    exact ⟨((xs2 ++ ([(nth r3 v2).Id] : List Str)), A184, n185, c186, v2 + 1), hm196, hI195, ⟨rfl, rfl, rfl, rfl, rfl, rfl, trivial⟩, hc194, h197, h198, h199, h200⟩
   ·have H := ite_f H hq129
    refine W_exit (xin_hit ?_)
    refine W_seq ?_
    refine W_reg ?_
    refine L_pu (P_move (.slice A112 n113 c114) rfl) ?_
    refine L_call go83 [.slice A112 n113 c114] rfl ((slices_Sort_string.calls w109 hc117.ok A112 n113 c114 xs2 h120 _ H).mono ?_)
    rintro _ w201 ⟨m, rfl, H, g202, hx203⟩
    have hc206 := hc117.wr 1 rfl g202
    refine L_nil ?_
    refine W_seq ?_
    refine W_reg ?_
    have hd215 : DArr dChange_103 w201 ([] : Ob) ([] : List Change) ([] : List (List Value)) := rfl
    refine L_lit (kd := Kd.cells 11) ei43 hc206 ([] : List (List Value)) (cells := []) rfl (fun _ => by kernel_rfl) fun w207 A208 n209 c210 g211 hr212 hc213 h214 => ?_
    have hp217 : ([blk (.slice A208 n209 c210), blk (.slice A76 n77 c78), blk (.slice A112 n113 c114)] : Ob).Perm (blk (.slice A208 n209 c210) :: blk (.slice A76 n77 c78) :: blk (.slice A112 n113 c114) :: (([] : Ob) ++ [])) := (by rw [List.perm_iff_count]; intro a; (try simp only [List.count_append, List.count_cons, List.count_nil, Nat.add_zero, Nat.zero_add]); first | done | ac_rfl)
    have hc218 := hc213.perm hp217
    refine L_pu (P_assign (.slice A208 n209 c210) rfl) ?_
    refine L_nil ?_
    refine W_seq ?_
    refine W_seq ?_
    refine W_reg ?_
    refine L_pu (P_move (.slice A112 n113 c114) rfl) ?_
    have h219 := (Ow.sp (L := [blk (.slice A208 n209 c210), blk (.slice A76 n77 c78), blk (.slice A112 n113 c114)]) (O := O) (hx203.so _ g211 hr212) hp217)
    refine L_call go84 [.slice A112 n113 c114] rfl ((slices_Compact_string.calls w207 hc218.ok A112 n113 c114 m h219 _ H).mono ?_)
    rintro _ w220 ⟨r4, n222, rfl, H, g221, h223⟩
    have hc224 := hc218.wr 2 rfl g221
    have hl226 := h223.le
    refine L_pu (P_len Try.underlying72 A112 n222 c114 h223.len rfl) ?_
    refine L_pu (P_move (vi 0) rfl) ?_
    refine L_nil ?_
    refine W_block ?_
    have hc227 := hc224.drop 1 rfl
    obtain ⟨I271, mu272, hI273, H⟩ := H
    have h275 := (((((h118.st (.wl (L := [blk (.slice A76 n77 c78), blk (.slice A112 n113 c114)]) (O := O) (j := 1) rfl g202)).st (.own _ _ g211 hr212)).st (.perm (L := [blk (.slice A208 n209 c210), blk (.slice A76 n77 c78), blk (.slice A112 n113 c114)]) (O := O) hp217)).st (.wl (L := (blk (.slice A208 n209 c210) :: blk (.slice A76 n77 c78) :: blk (.slice A112 n113 c114) :: (([] : Ob) ++ []))) (O := O) (j := 2) rfl g221)).st (.dr _ (L := (blk (.slice A208 n209 c210) :: blk (.slice A76 n77 c78) :: blk (.slice A112 n222 c114) :: (([] : Ob) ++ []))) (O := O) (j := 1) rfl))
    have h276 := (((((h119.st (.wl (L := [blk (.slice A76 n77 c78), blk (.slice A112 n113 c114)]) (O := O) (j := 1) rfl g202)).st (.own _ _ g211 hr212)).st (.perm (L := [blk (.slice A208 n209 c210), blk (.slice A76 n77 c78), blk (.slice A112 n113 c114)]) (O := O) hp217)).st (.wl (L := (blk (.slice A208 n209 c210) :: blk (.slice A76 n77 c78) :: blk (.slice A112 n113 c114) :: (([] : Ob) ++ []))) (O := O) (j := 2) rfl g221)).st (.dr _ (L := (blk (.slice A208 n209 c210) :: blk (.slice A76 n77 c78) :: blk (.slice A112 n222 c114) :: (([] : Ob) ++ []))) (O := O) (j := 1) rfl))
    have h277 := (Ow.sd (L := (blk (.slice A208 n209 c210) :: blk (.slice A76 n77 c78) :: blk (.slice A112 n222 c114) :: (([] : Ob) ++ []))) (O := O) (Ow.sw (L := (blk (.slice A208 n209 c210) :: blk (.slice A76 n77 c78) :: blk (.slice A112 n113 c114) :: (([] : Ob) ++ []))) (O := O) (Ow.sp (L := [blk (.slice A208 n209 c210), blk (.slice A76 n77 c78), blk (.slice A112 n113 c114)]) (O := O) h214 hp217) hc218 (i := 0) rfl (j := 2) rfl (by decide) g221) (i := 0) rfl (j := 1) rfl (by decide))
    have hd278 := (DArr.sm (L := (blk (.slice A208 n209 c210) :: blk (.slice A76 n77 c78) :: blk (.slice A112 n113 c114) :: (([] : Ob) ++ []))) (O := O) (i := 2) (hd215.k0 g211) hc218 rfl (fun b hb => (List.mem_append_left _ hb)) g221)
    have h279 := (Ow.sd (L := (blk (.slice A208 n209 c210) :: blk (.slice A76 n77 c78) :: blk (.slice A112 n222 c114) :: (([] : Ob) ++ []))) (O := O) h223 (i := 2) rfl (j := 1) rfl (by decide))
    refine W_loop (α := (List Change) × (List (List Value)) × Ob × (Option Addr) × Nat × Nat × Int) (fun (sv__ : (List Change) × (List (List Value)) × Ob × (Option Addr) × Nat × Nat × Int) t w255 => match sv__ with | (xs4, ra262, q263, A258, n259, c260, v4) => I271 xs4 v4 ∧ Has t [(0, .slice A1 n2 c3), (1, .slice A6 n7 c8), (9, .slice A258 n259 c260), (44, .slice A112 n222 c114), (45, vi (r4.length : Int)), (46, vi v4)] ∧ Ct [] w0 w255 (blk (.slice A258 n259 c260) :: blk (.slice A112 n222 c114) :: (q263 ++ [])) O ∧ Sl kChange w255 (Fr ((blk (.slice A258 n259 c260) :: blk (.slice A112 n222 c114) :: (q263 ++ [])) ++ O)) (.slice A1 n2 c3) a ∧ Sl kChange w255 (Fr ((blk (.slice A258 n259 c260) :: blk (.slice A112 n222 c114) :: (q263 ++ [])) ++ O)) (.slice A6 n7 c8) b ∧ Ow (Kd.cells 11) 103 w255 ((blk (.slice A258 n259 c260) :: blk (.slice A112 n222 c114) :: (q263 ++ [])) ++ O) (.slice A258 n259 c260) ra262 ∧ DArr dChange_103 w255 q263 xs4 ra262 ∧ Ow Kd.str 9 w255 ((blk (.slice A258 n259 c260) :: blk (.slice A112 n222 c114) :: (q263 ++ [])) ++ O) (.slice A112 n222 c114) r4) (fun (sv__ : (List Change) × (List (List Value)) × Ob × (Option Addr) × Nat × Nat × Int) => match sv__ with | (xs4, _, _, _, _, _, v4) => mu272 xs4 v4) (([] : List Change), ([] : List (List Value)), ([] : Ob), A208, n209, c210, 0) ⟨hI273, ⟨rfl, rfl, rfl, rfl, rfl, rfl, trivial⟩, hc227, h275, h276, h277, hd278, h279⟩ ?_
    rintro ⟨xs4, ra262, q263, A258, n259, c260, v4⟩ _ w255 ⟨hI273, hh280, hc265, h266, h267, h268, hd269, h270⟩
    obtain ⟨u281, rfl⟩ := Has.ins hh280
    have H := H xs4 v4 hI273
    refine W_seq ?_
    refine W_reg ?_
    refine L_pu (P_cmp v4 (r4.length : Int) (decide (v4 < (r4.length : Int))) rfl rfl rfl) ?_
    refine L_nil ?_
    refine W_seq ?_
    refine W_cond (decide (v4 < (r4.length : Int))) rfl (fun hq282 => ?_) (fun hq282 => ?_)
    ·have H := ite_t H hq282
     refine W_skip ?_
     refine W_seq ?_
     refine W_block ?_
     refine W_seq ?_
     refine W_reg ?_
     obtain ⟨hb283, H⟩ := H
     obtain ⟨ad284, cs285, hA286, hR287, hcl288⟩ := h270.get default (by decide) v4 hb283
     obtain ⟨rfl, hs290⟩ := Kd.str.op hR287
     refine L_pu (P_ia Try.underlying72 se72 A112 ad284 n222 c114 h270.len v4 rfl hA286 rfl hb283) ?_
     refine L_pu (P_ld ag9 cL (ad284.add (v4.toNat * 1)) (vs (nth r4 v4)) rfl (hcl288 0 _ rfl)) ?_
     refine L_pu (P_assign (vs (nth r4 v4)) rfl) ?_
     refine L_nil ?_
     refine W_seq ?_
     refine W_reg ?_
     refine L_pu (P_move (.slice A1 n2 c3) rfl) ?_
     refine L_pu (P_move (vs (nth r4 v4)) rfl) ?_
     refine L_call go85 [.slice A1 n2 c3, vs (nth r4 v4)] rfl ((impl_changeAt.calls w255 hc265.ok a A1 n2 c3 h266 (nth r4 v4) hs290 _ H).mono ?_)
     rintro _ w291 ⟨r5, rfl, H, g292⟩
     have hc296 := hc265.k0 g292
     refine L_pu (P_move (.slice A6 n7 c8) rfl) ?_
     refine L_pu (P_move (vs (nth r4 v4)) rfl) ?_
     refine L_call go85 [.slice A6 n7 c8, vs (nth r4 v4)] rfl ((impl_changeAt.calls w291 hc296.ok b A6 n7 c8 (h267.st (.new _ g292)) (nth r4 v4) hs290 _ H).mono ?_)
     rintro _ w297 ⟨r6, rfl, H, g298⟩
     have hc302 := hc296.k0 g298
     refine L_pu (P_assign (vi r5) rfl) ?_
     refine L_pu (P_assign (vi r6) rfl) ?_
     refine L_nil ?_
     refine W_seq ?_
     refine W_reg ?_
     refine L_pu (P_build (.agg #[vs ([] : Str), vb false, vs ([] : Str), vi 0, .slice none 0 0, .slice none 0 0, vb false, vs ([] : Str), vi 0, .slice none 0 0, .slice none 0 0]) (fun _ => by kernel_rfl)) ?_
     refine L_alloc [vs [], vb false, vs [], .int .i64 0, .slice none 0 0, .slice none 0 0, vb false, vs [], .int .i64 0, .slice none 0 0, .slice none 0 0] ze103 fun w303 b304 hl306 hu307 g305 hx308 => ?_
     have hc310 := hc302.own g305 (some b304) (oglt hl306 hu307)
     refine L_stb b304 0 [vs ([] : Str), vb false, vs ([] : Str), vi 0, .slice none 0 0, .slice none 0 0, vb false, vs ([] : Str), vi 0, .slice none 0 0, .slice none 0 0] [vs ([] : Str), vb false, vs ([] : Str), vi 0, .slice none 0 0, .slice none 0 0, vb false, vs ([] : Str), vi 0, .slice none 0 0, .slice none 0 0] [vs ([] : Str), vb false, vs ([] : Str), vi 0, .slice none 0 0, .slice none 0 0, vb false, vs ([] : Str), vi 0, .slice none 0 0, .slice none 0 0] rfl hx308 rfl sz103 rfl rfl rfl fun w311 g312 hx313 => ?_
     have hc314 := hc310.wr 0 rfl g312
     refine L_nil ?_
     refine W_seq ?_
     refine W_block ?_
     refine W_seq ?_
     refine W_reg ?_
     refine L_pu (P_move (vi r6) rfl) ?_
     refine L_pu (P_cmp r6 0 (decide (r6 < 0)) rfl rfl rfl) ?_
     refine L_pu (P_assign (vb (decide (r6 < 0))) rfl) ?_
     refine L_nil ?_
     refine W_cond (decide (r6 < 0)) rfl (fun hq315 => ?_) (fun hq315 => ?_)
     ·have H := ite_t H hq315
      refine W_reg ?_
      refine L_pu (P_move (.slice A1 n2 c3) rfl) ?_
      refine L_pu (P_move (vi r5) rfl) ?_
      obtain ⟨hb316, H⟩ := H
      have h323 := ((((h266.st (.new _ g292)).st (.new _ g298)).st (.own _ _ g305 (oge hl306))).st (.wl (L := (some b304 :: blk (.slice A258 n259 c260) :: blk (.slice A112 n222 c114) :: (q263 ++ []))) (O := O) (j := 0) rfl g312))
      obtain ⟨ad317, cs318, hA319, hS322, hR320, hcl321⟩ := h323.get default (by decide) r5 hb316
      obtain ⟨A326, n327, c328, A331, n332, c333, A337, n338, c339, A342, n343, c344, rfl, hs324, hs325, h329, h334, hs336, h340, h345⟩ := kChange.op hR320
      refine L_pu (P_ia Try.underlying43 se43 A1 ad317 n2 c3 h323.len r5 rfl hA319 rfl hb316) ?_
      refine L_pu (P_lda ag103 sz103 cL (ad317.add (r5.toNat * 11)) [vs ((nth a r5).Id), vb ((nth a r5).Had), vs ((nth a r5).Was.Id), vi ((nth a r5).Was.Shape.Kind), .slice A326 n327 c328, .slice A331 n332 c333, vb ((nth a r5).Has), vs ((nth a r5).Now.Id), vi ((nth a r5).Now.Shape.Kind), .slice A337 n338 c339, .slice A342 n343 c344] rfl rfl hcl321) ?_
      refine L_stb b304 0 [vs ([] : Str), vb false, vs ([] : Str), vi 0, .slice none 0 0, .slice none 0 0, vb false, vs ([] : Str), vi 0, .slice none 0 0, .slice none 0 0] [vs ((nth a r5).Id), vb ((nth a r5).Had), vs ((nth a r5).Was.Id), vi ((nth a r5).Was.Shape.Kind), .slice A326 n327 c328, .slice A331 n332 c333, vb ((nth a r5).Has), vs ((nth a r5).Now.Id), vi ((nth a r5).Now.Shape.Kind), .slice A337 n338 c339, .slice A342 n343 c344] [vs ((nth a r5).Id), vb ((nth a r5).Had), vs ((nth a r5).Was.Id), vi ((nth a r5).Was.Shape.Kind), .slice A326 n327 c328, .slice A331 n332 c333, vb ((nth a r5).Has), vs ((nth a r5).Now.Id), vi ((nth a r5).Now.Shape.Kind), .slice A337 n338 c339, .slice A342 n343 c344] rfl hx313 rfl sz103 rfl rfl rfl fun w347 g348 hx349 => ?_
      have hc350 := hc314.wr 0 rfl g348
      refine L_nil ?_
      refine W_seq ?_
      refine W_reg ?_
      refine L_pu (P_lda ag103 sz103 cL ⟨b304, 0, none⟩ [vs ((nth a r5).Id), vb ((nth a r5).Had), vs ((nth a r5).Was.Id), vi ((nth a r5).Was.Shape.Kind), .slice A326 n327 c328, .slice A331 n332 c333, vb ((nth a r5).Has), vs ((nth a r5).Now.Id), vi ((nth a r5).Now.Shape.Kind), .slice A337 n338 c339, .slice A342 n343 c344] rfl rfl (hx349.cells (off := 0) rfl)) ?_
      have h351 := (h329.st (.wl (L := (some b304 :: blk (.slice A258 n259 c260) :: blk (.slice A112 n222 c114) :: (q263 ++ []))) (O := O) (j := 0) rfl g348))
      have h352 := (h334.st (.wl (L := (some b304 :: blk (.slice A258 n259 c260) :: blk (.slice A112 n222 c114) :: (q263 ++ []))) (O := O) (j := 0) rfl g348))
      have h353 := (h340.st (.wl (L := (some b304 :: blk (.slice A258 n259 c260) :: blk (.slice A112 n222 c114) :: (q263 ++ []))) (O := O) (j := 0) rfl g348))
      have h354 := (h345.st (.wl (L := (some b304 :: blk (.slice A258 n259 c260) :: blk (.slice A112 n222 c114) :: (q263 ++ []))) (O := O) (j := 0) rfl g348))
      refine L_call go77 [.agg #[vs ((nth a r5).Id), vb ((nth a r5).Had), vs ((nth a r5).Was.Id), vi ((nth a r5).Was.Shape.Kind), .slice A326 n327 c328, .slice A331 n332 c333, vb ((nth a r5).Has), vs ((nth a r5).Now.Id), vi ((nth a r5).Now.Shape.Kind), .slice A337 n338 c339, .slice A342 n343 c344]] rfl ((impl_Change_same.calls w347 hc350.ok (nth a r5) A326 n327 c328 A331 n332 c333 A337 n338 c339 A342 n343 c344 hs324 hs325 h351 h352 hs336 h353 h354 _ H).mono ?_)
      rintro _ w355 ⟨r7, rfl, H, g356⟩
      have hc360 := hc350.k0 g356
      refine L_pu (P_not r7 rfl) ?_
      refine L_nil ?_
      refine W_cond (!r7) rfl (fun hq361 => ?_) (fun hq361 => ?_)
      ·have H := ite_t H hq361
       refine W_reg ?_
       refine L_pu (P_move (.slice A258 n259 c260) rfl) ?_
       have h362 := (hx349.k0 g356)
       refine L_pu (P_lda ag103 sz103 cL ⟨b304, 0, none⟩ [vs ((nth a r5).Id), vb ((nth a r5).Had), vs ((nth a r5).Was.Id), vi ((nth a r5).Was.Shape.Kind), .slice A326 n327 c328, .slice A331 n332 c333, vb ((nth a r5).Has), vs ((nth a r5).Now.Id), vi ((nth a r5).Now.Shape.Kind), .slice A337 n338 c339, .slice A342 n343 c344] rfl rfl (h362.cells (off := 0) rfl)) ?_
       refine L_call go65 [.agg #[vs ((nth a r5).Id), vb ((nth a r5).Had), vs ((nth a r5).Was.Id), vi ((nth a r5).Was.Shape.Kind), .slice A326 n327 c328, .slice A331 n332 c333, vb ((nth a r5).Has), vs ((nth a r5).Now.Id), vi ((nth a r5).Now.Shape.Kind), .slice A337 n338 c339, .slice A342 n343 c344]] rfl ((impl_cloneChange.calls w355 hc360.ok (nth a r5) A326 n327 c328 A331 n332 c333 A337 n338 c339 A342 n343 c344 hs324 hs325 (h351.st (.new _ g356)) (h352.st (.new _ g356)) hs336 (h353.st (.new _ g356)) (h354.st (.new _ g356)) _ H).mono ?_)
       rintro _ w363 ⟨r8, A367, n368, c369, A372, n373, c374, A378, n379, c380, A383, n384, c385, rfl, H, g364, hk389, hk390, hs365, hs366, h370, h375, hs377, h381, h386⟩
       have hc391 := hc360.owns g364 hk389 hk390
       have hd392 : (dChange_103).D w363 ([] ++ ([] ++ (([] ++ (([] ++ [blk (.slice A367 n368 c369)]) ++ [blk (.slice A372 n373 c374)])) ++ ([] ++ ([] ++ (([] ++ [blk (.slice A378 n379 c380)]) ++ [blk (.slice A383 n384 c385)])))))) r8 [vs r8.Id, vb r8.Had, vs r8.Was.Id, vi r8.Was.Shape.Kind, .slice A367 n368 c369, .slice A372 n373 c374, vb r8.Has, vs r8.Now.Id, vi r8.Now.Shape.Kind, .slice A378 n379 c380, .slice A383 n384 c385] := (dChange_103.mk _ r8 hs365 hs366 (Ds.ofOw kPt_flat h370) (Ds.ofOw kTag_flat h375) hs377 (Ds.ofOw kPt_flat h381) (Ds.ofOw kTag_flat h386))
       have hd401 : DArr dChange_103 w363 (([] ++ ([] ++ (([] ++ (([] ++ [blk (.slice A367 n368 c369)]) ++ [blk (.slice A372 n373 c374)])) ++ ([] ++ ([] ++ (([] ++ [blk (.slice A378 n379 c380)]) ++ [blk (.slice A383 n384 c385)])))))) ++ []) ([r8] : List Change) ([[vs r8.Id, vb r8.Had, vs r8.Was.Id, vi r8.Was.Shape.Kind, .slice A367 n368 c369, .slice A372 n373 c374, vb r8.Has, vs r8.Now.Id, vi r8.Now.Shape.Kind, .slice A378 n379 c380, .slice A383 n384 c385]] : List (List Value)) := ⟨_, _, rfl, hd392, rfl⟩
       refine L_lit (kd := Kd.cells 11) ei43 hc391 ([[vs r8.Id, vb r8.Had, vs r8.Was.Id, vi r8.Was.Shape.Kind, .slice A367 n368 c369, .slice A372 n373 c374, vb r8.Has, vs r8.Now.Id, vi r8.Now.Shape.Kind, .slice A378 n379 c380, .slice A383 n384 c385]] : List (List Value)) (cells := [vs r8.Id, vb r8.Had, vs r8.Was.Id, vi r8.Was.Shape.Kind, .slice A367 n368 c369, .slice A372 n373 c374, vb r8.Has, vs r8.Now.Id, vi r8.Now.Shape.Kind, .slice A378 n379 c380, .slice A383 n384 c385]) ⟨[vs r8.Id, vb r8.Had, vs r8.Was.Id, vi r8.Was.Shape.Kind, .slice A367 n368 c369, .slice A372 n373 c374, vb r8.Has, vs r8.Now.Id, vi r8.Now.Shape.Kind, .slice A378 n379 c380, .slice A383 n384 c385], _, rfl, Dd.raw _ hd392, rfl⟩ (fun _ => by kernel_rfl) fun w393 A394 n395 c396 g397 hr398 hc399 h400 => ?_
       have hp403 : ((blk (.slice A394 n395 c396) :: blk (.slice A367 n368 c369) :: blk (.slice A372 n373 c374) :: blk (.slice A378 n379 c380) :: blk (.slice A383 n384 c385) :: some b304 :: blk (.slice A258 n259 c260) :: blk (.slice A112 n222 c114) :: (q263 ++ [])) : Ob).Perm (blk (.slice A394 n395 c396) :: some b304 :: blk (.slice A258 n259 c260) :: blk (.slice A112 n222 c114) :: (q263 ++ ((([] ++ ([] ++ (([] ++ (([] ++ [blk (.slice A367 n368 c369)]) ++ [blk (.slice A372 n373 c374)])) ++ ([] ++ ([] ++ (([] ++ [blk (.slice A378 n379 c380)]) ++ [blk (.slice A383 n384 c385)])))))) ++ []) ++ []))) := (by rw [List.perm_iff_count]; intro a; (try simp only [List.count_append, List.count_cons, List.count_nil, Nat.add_zero, Nat.zero_add]); first | done | ac_rfl)
       have hc404 := hc399.perm hp403
       obtain ⟨hb405, H⟩ := H
       have h406 := (Ow.sp (L := (blk (.slice A394 n395 c396) :: blk (.slice A367 n368 c369) :: blk (.slice A372 n373 c374) :: blk (.slice A378 n379 c380) :: blk (.slice A383 n384 c385) :: some b304 :: blk (.slice A258 n259 c260) :: blk (.slice A112 n222 c114) :: (q263 ++ []))) (O := O) ((((Ow.sw (L := (some b304 :: blk (.slice A258 n259 c260) :: blk (.slice A112 n222 c114) :: (q263 ++ []))) (O := O) (Ow.sw (L := (some b304 :: blk (.slice A258 n259 c260) :: blk (.slice A112 n222 c114) :: (q263 ++ []))) (O := O) (((h268.sn g292).sn g298).so _ g305 (oge hl306)) hc310 (i := 1) rfl (j := 0) rfl (by decide) g312) hc314 (i := 1) rfl (j := 0) rfl (by decide) g348).sn g356).sos g364 hk390).so _ g397 hr398) hp403)
       have h407 := (Ow.sp (L := (blk (.slice A394 n395 c396) :: blk (.slice A367 n368 c369) :: blk (.slice A372 n373 c374) :: blk (.slice A378 n379 c380) :: blk (.slice A383 n384 c385) :: some b304 :: blk (.slice A258 n259 c260) :: blk (.slice A112 n222 c114) :: (q263 ++ []))) (O := O) h400 hp403)
       have hd408 := ((((DArr.sm (L := (some b304 :: blk (.slice A258 n259 c260) :: blk (.slice A112 n222 c114) :: (q263 ++ []))) (O := O) (i := 0) (DArr.sm (L := (some b304 :: blk (.slice A258 n259 c260) :: blk (.slice A112 n222 c114) :: (q263 ++ []))) (O := O) (i := 0) (((hd269.k0 g292).k0 g298).k0 g305) hc310 rfl (fun b hb => (List.mem_cons_of_mem _ (List.mem_cons_of_mem _ (List.mem_append_left _ hb)))) g312) hc314 rfl (fun b hb => (List.mem_cons_of_mem _ (List.mem_cons_of_mem _ (List.mem_append_left _ hb)))) g348).k0 g356).k0 g364).k0 g397)
       have hd409 := (hd401.k0 g397)
       have hn410 : ra262.length + ([[vs r8.Id, vb r8.Had, vs r8.Was.Id, vi r8.Was.Shape.Kind, .slice A367 n368 c369, .slice A372 n373 c374, vb r8.Has, vs r8.Now.Id, vi r8.Now.Shape.Kind, .slice A378 n379 c380, .slice A383 n384 c385]] : List (List Value)).length ≤ 268435456 := by rw [hd408.len, hd409.len]; exact hb405
       refine L_app (kd := Kd.cells 11) ei43 hc404 (.slice A258 n259 c260) ra262 ([[vs r8.Id, vb r8.Had, vs r8.Was.Id, vi r8.Was.Shape.Kind, .slice A367 n368 c369, .slice A372 n373 c374, vb r8.Has, vs r8.Now.Id, vi r8.Now.Shape.Kind, .slice A378 n379 c380, .slice A383 n384 c385]] : List (List Value)) rfl h406 (.slice A394 n395 c396) rfl h407.sx 2 rfl hn410 fun w411 A412 n413 c414 g415 s416 hc417 h418 => ?_
       have hd419 := (DArr.sm (L := (blk (.slice A394 n395 c396) :: some b304 :: blk (.slice A258 n259 c260) :: blk (.slice A112 n222 c114) :: (q263 ++ ((([] ++ ([] ++ (([] ++ (([] ++ [blk (.slice A367 n368 c369)]) ++ [blk (.slice A372 n373 c374)])) ++ ([] ++ ([] ++ (([] ++ [blk (.slice A378 n379 c380)]) ++ [blk (.slice A383 n384 c385)])))))) ++ []) ++ [])))) (O := O) (i := 2) hd408 hc404 rfl (fun b hb => (List.mem_cons_of_mem _ (List.mem_append_left _ hb))) g415)
       have hd420 := (DArr.sm (L := (blk (.slice A394 n395 c396) :: some b304 :: blk (.slice A258 n259 c260) :: blk (.slice A112 n222 c114) :: (q263 ++ ((([] ++ ([] ++ (([] ++ (([] ++ [blk (.slice A367 n368 c369)]) ++ [blk (.slice A372 n373 c374)])) ++ ([] ++ ([] ++ (([] ++ [blk (.slice A378 n379 c380)]) ++ [blk (.slice A383 n384 c385)])))))) ++ []) ++ [])))) (O := O) (i := 2) hd409 hc404 rfl (fun b hb => (List.mem_cons_of_mem _ (List.mem_append_right _ (List.mem_append_left _ hb)))) g415)
       have hd422 := DArr.app hd419 hd420
       have hp423 : ((blk (.slice A394 n395 c396) :: some b304 :: blk (.slice A412 n413 c414) :: blk (.slice A112 n222 c114) :: (q263 ++ ((([] ++ ([] ++ (([] ++ (([] ++ [blk (.slice A367 n368 c369)]) ++ [blk (.slice A372 n373 c374)])) ++ ([] ++ ([] ++ (([] ++ [blk (.slice A378 n379 c380)]) ++ [blk (.slice A383 n384 c385)])))))) ++ []) ++ []))) : Ob).Perm ((blk (.slice A394 n395 c396) :: []) ++ (some b304 :: blk (.slice A412 n413 c414) :: blk (.slice A112 n222 c114) :: (q263 ++ ((([] ++ ([] ++ (([] ++ (([] ++ [blk (.slice A367 n368 c369)]) ++ [blk (.slice A372 n373 c374)])) ++ ([] ++ ([] ++ (([] ++ [blk (.slice A378 n379 c380)]) ++ [blk (.slice A383 n384 c385)])))))) ++ []) ++ [])))) := (by rw [List.perm_iff_count]; intro a; (try simp only [List.count_append, List.count_cons, List.count_nil, Nat.add_zero, Nat.zero_add]); first | done | ac_rfl)
       have hc424 := hc417.drops hp423
       have hp425 : ((some b304 :: blk (.slice A412 n413 c414) :: blk (.slice A112 n222 c114) :: (q263 ++ ((([] ++ ([] ++ (([] ++ (([] ++ [blk (.slice A367 n368 c369)]) ++ [blk (.slice A372 n373 c374)])) ++ ([] ++ ([] ++ (([] ++ [blk (.slice A378 n379 c380)]) ++ [blk (.slice A383 n384 c385)])))))) ++ []) ++ []))) : Ob).Perm (some b304 :: blk (.slice A412 n413 c414) :: blk (.slice A112 n222 c114) :: ((q263 ++ (([] ++ ([] ++ (([] ++ (([] ++ [blk (.slice A367 n368 c369)]) ++ [blk (.slice A372 n373 c374)])) ++ ([] ++ ([] ++ (([] ++ [blk (.slice A378 n379 c380)]) ++ [blk (.slice A383 n384 c385)])))))) ++ [])) ++ [])) := (by rw [List.perm_iff_count]; intro a; (try simp only [List.count_append, List.count_cons, List.count_nil, Nat.add_zero, Nat.zero_add]); first | done | ac_rfl)
       have hc426 := hc424.perm hp425
       refine L_pu (P_assign (.slice A412 n413 c414) rfl) ?_
       refine L_nil ?_
       refine W_reg ?_
       obtain ⟨hb427, H⟩ := H
       refine L_pu (P_add v4 1 rfl rfl hb427) ?_
       refine L_pu (P_move (vi (v4 + 1)) rfl) ?_
       refine L_nil ?_
       have hc428 := hc426.drop 0 rfl
       obtain ⟨hI429, hm430⟩ := H
       have h431 := (((((((((h323.st (.wl (L := (some b304 :: blk (.slice A258 n259 c260) :: blk (.slice A112 n222 c114) :: (q263 ++ []))) (O := O) (j := 0) rfl g348)).st (.new _ g356)).st (.owns _ g364 hk390)).st (.own _ _ g397 hr398)).st (.perm (L := (blk (.slice A394 n395 c396) :: blk (.slice A367 n368 c369) :: blk (.slice A372 n373 c374) :: blk (.slice A378 n379 c380) :: blk (.slice A383 n384 c385) :: some b304 :: blk (.slice A258 n259 c260) :: blk (.slice A112 n222 c114) :: (q263 ++ []))) (O := O) hp403)).st s416).st (St.drops _ O hp423)).st (.perm (L := (some b304 :: blk (.slice A412 n413 c414) :: blk (.slice A112 n222 c114) :: (q263 ++ ((([] ++ ([] ++ (([] ++ (([] ++ [blk (.slice A367 n368 c369)]) ++ [blk (.slice A372 n373 c374)])) ++ ([] ++ ([] ++ (([] ++ [blk (.slice A378 n379 c380)]) ++ [blk (.slice A383 n384 c385)])))))) ++ []) ++ [])))) (O := O) hp425)).st (.dr _ (L := (some b304 :: blk (.slice A412 n413 c414) :: blk (.slice A112 n222 c114) :: ((q263 ++ (([] ++ ([] ++ (([] ++ (([] ++ [blk (.slice A367 n368 c369)]) ++ [blk (.slice A372 n373 c374)])) ++ ([] ++ ([] ++ (([] ++ [blk (.slice A378 n379 c380)]) ++ [blk (.slice A383 n384 c385)])))))) ++ [])) ++ []))) (O := O) (j := 0) rfl))
       have h432 := (((((((((((((h267.st (.new _ g292)).st (.new _ g298)).st (.own _ _ g305 (oge hl306))).st (.wl (L := (some b304 :: blk (.slice A258 n259 c260) :: blk (.slice A112 n222 c114) :: (q263 ++ []))) (O := O) (j := 0) rfl g312)).st (.wl (L := (some b304 :: blk (.slice A258 n259 c260) :: blk (.slice A112 n222 c114) :: (q263 ++ []))) (O := O) (j := 0) rfl g348)).st (.new _ g356)).st (.owns _ g364 hk390)).st (.own _ _ g397 hr398)).st (.perm (L := (blk (.slice A394 n395 c396) :: blk (.slice A367 n368 c369) :: blk (.slice A372 n373 c374) :: blk (.slice A378 n379 c380) :: blk (.slice A383 n384 c385) :: some b304 :: blk (.slice A258 n259 c260) :: blk (.slice A112 n222 c114) :: (q263 ++ []))) (O := O) hp403)).st s416).st (St.drops _ O hp423)).st (.perm (L := (some b304 :: blk (.slice A412 n413 c414) :: blk (.slice A112 n222 c114) :: (q263 ++ ((([] ++ ([] ++ (([] ++ (([] ++ [blk (.slice A367 n368 c369)]) ++ [blk (.slice A372 n373 c374)])) ++ ([] ++ ([] ++ (([] ++ [blk (.slice A378 n379 c380)]) ++ [blk (.slice A383 n384 c385)])))))) ++ []) ++ [])))) (O := O) hp425)).st (.dr _ (L := (some b304 :: blk (.slice A412 n413 c414) :: blk (.slice A112 n222 c114) :: ((q263 ++ (([] ++ ([] ++ (([] ++ (([] ++ [blk (.slice A367 n368 c369)]) ++ [blk (.slice A372 n373 c374)])) ++ ([] ++ ([] ++ (([] ++ [blk (.slice A378 n379 c380)]) ++ [blk (.slice A383 n384 c385)])))))) ++ [])) ++ []))) (O := O) (j := 0) rfl))
       have h433 := (Ow.sd (L := (some b304 :: blk (.slice A412 n413 c414) :: blk (.slice A112 n222 c114) :: ((q263 ++ (([] ++ ([] ++ (([] ++ (([] ++ [blk (.slice A367 n368 c369)]) ++ [blk (.slice A372 n373 c374)])) ++ ([] ++ ([] ++ (([] ++ [blk (.slice A378 n379 c380)]) ++ [blk (.slice A383 n384 c385)])))))) ++ [])) ++ []))) (O := O) (Ow.sp (L := (some b304 :: blk (.slice A412 n413 c414) :: blk (.slice A112 n222 c114) :: (q263 ++ ((([] ++ ([] ++ (([] ++ (([] ++ [blk (.slice A367 n368 c369)]) ++ [blk (.slice A372 n373 c374)])) ++ ([] ++ ([] ++ (([] ++ [blk (.slice A378 n379 c380)]) ++ [blk (.slice A383 n384 c385)])))))) ++ []) ++ [])))) (O := O) (Ow.drops (L := (blk (.slice A394 n395 c396) :: some b304 :: blk (.slice A412 n413 c414) :: blk (.slice A112 n222 c114) :: (q263 ++ ((([] ++ ([] ++ (([] ++ (([] ++ [blk (.slice A367 n368 c369)]) ++ [blk (.slice A372 n373 c374)])) ++ ([] ++ ([] ++ (([] ++ [blk (.slice A378 n379 c380)]) ++ [blk (.slice A383 n384 c385)])))))) ++ []) ++ [])))) (O := O) h418 hp423 (memi 1 rfl)) hp425) (i := 1) rfl (j := 0) rfl (by decide))
       have hd434 := hd422
       have h435 := (Ow.sd (L := (some b304 :: blk (.slice A412 n413 c414) :: blk (.slice A112 n222 c114) :: ((q263 ++ (([] ++ ([] ++ (([] ++ (([] ++ [blk (.slice A367 n368 c369)]) ++ [blk (.slice A372 n373 c374)])) ++ ([] ++ ([] ++ (([] ++ [blk (.slice A378 n379 c380)]) ++ [blk (.slice A383 n384 c385)])))))) ++ [])) ++ []))) (O := O) (Ow.sp (L := (some b304 :: blk (.slice A412 n413 c414) :: blk (.slice A112 n222 c114) :: (q263 ++ ((([] ++ ([] ++ (([] ++ (([] ++ [blk (.slice A367 n368 c369)]) ++ [blk (.slice A372 n373 c374)])) ++ ([] ++ ([] ++ (([] ++ [blk (.slice A378 n379 c380)]) ++ [blk (.slice A383 n384 c385)])))))) ++ []) ++ [])))) (O := O) (Ow.drops (L := (blk (.slice A394 n395 c396) :: some b304 :: blk (.slice A412 n413 c414) :: blk (.slice A112 n222 c114) :: (q263 ++ ((([] ++ ([] ++ (([] ++ (([] ++ [blk (.slice A367 n368 c369)]) ++ [blk (.slice A372 n373 c374)])) ++ ([] ++ ([] ++ (([] ++ [blk (.slice A378 n379 c380)]) ++ [blk (.slice A383 n384 c385)])))))) ++ []) ++ [])))) (O := O) (Ow.sm (L := (blk (.slice A394 n395 c396) :: some b304 :: blk (.slice A258 n259 c260) :: blk (.slice A112 n222 c114) :: (q263 ++ ((([] ++ ([] ++ (([] ++ (([] ++ [blk (.slice A367 n368 c369)]) ++ [blk (.slice A372 n373 c374)])) ++ ([] ++ ([] ++ (([] ++ [blk (.slice A378 n379 c380)]) ++ [blk (.slice A383 n384 c385)])))))) ++ []) ++ [])))) (O := O) (Ow.sp (L := (blk (.slice A394 n395 c396) :: blk (.slice A367 n368 c369) :: blk (.slice A372 n373 c374) :: blk (.slice A378 n379 c380) :: blk (.slice A383 n384 c385) :: some b304 :: blk (.slice A258 n259 c260) :: blk (.slice A112 n222 c114) :: (q263 ++ []))) (O := O) ((((Ow.sw (L := (some b304 :: blk (.slice A258 n259 c260) :: blk (.slice A112 n222 c114) :: (q263 ++ []))) (O := O) (Ow.sw (L := (some b304 :: blk (.slice A258 n259 c260) :: blk (.slice A112 n222 c114) :: (q263 ++ []))) (O := O) (((h270.sn g292).sn g298).so _ g305 (oge hl306)) hc310 (i := 2) rfl (j := 0) rfl (by decide) g312) hc314 (i := 2) rfl (j := 0) rfl (by decide) g348).sn g356).sos g364 hk390).so _ g397 hr398) hp403) hc404 (i := 3) rfl (j := 2) rfl (by decide) g415 s416) hp423 (memi 2 rfl)) hp425) (i := 2) rfl (j := 0) rfl (by decide))
       exact ⟨((xs4 ++ ([r8] : List Change)), (ra262 ++ ([[vs r8.Id, vb r8.Had, vs r8.Was.Id, vi r8.Was.Shape.Kind, .slice A367 n368 c369, .slice A372 n373 c374, vb r8.Has, vs r8.Now.Id, vi r8.Now.Shape.Kind, .slice A378 n379 c380, .slice A383 n384 c385]] : List (List Value))), (q263 ++ (([] ++ ([] ++ (([] ++ (([] ++ [blk (.slice A367 n368 c369)]) ++ [blk (.slice A372 n373 c374)])) ++ ([] ++ ([] ++ (([] ++ [blk (.slice A378 n379 c380)]) ++ [blk (.slice A383 n384 c385)])))))) ++ [])), A412, n413, c414, v4 + 1), hm430, hI429, ⟨rfl, rfl, rfl, rfl, rfl, rfl, trivial⟩, hc428, h431, h432, h433, hd434, h435⟩
      ·have H := ite_f H hq361
       refine W_skip ?_
       refine W_reg ?_
       obtain ⟨hb436, H⟩ := H
       refine L_pu (P_add v4 1 rfl rfl hb436) ?_
       refine L_pu (P_move (vi (v4 + 1)) rfl) ?_
       refine L_nil ?_
       have hc437 := hc360.drop 0 rfl
       obtain ⟨hI438, hm439⟩ := H
       have h440 := (((h323.st (.wl (L := (some b304 :: blk (.slice A258 n259 c260) :: blk (.slice A112 n222 c114) :: (q263 ++ []))) (O := O) (j := 0) rfl g348)).st (.new _ g356)).st (.dr _ (L := (some b304 :: blk (.slice A258 n259 c260) :: blk (.slice A112 n222 c114) :: (q263 ++ []))) (O := O) (j := 0) rfl))
       have h441 := (((((((h267.st (.new _ g292)).st (.new _ g298)).st (.own _ _ g305 (oge hl306))).st (.wl (L := (some b304 :: blk (.slice A258 n259 c260) :: blk (.slice A112 n222 c114) :: (q263 ++ []))) (O := O) (j := 0) rfl g312)).st (.wl (L := (some b304 :: blk (.slice A258 n259 c260) :: blk (.slice A112 n222 c114) :: (q263 ++ []))) (O := O) (j := 0) rfl g348)).st (.new _ g356)).st (.dr _ (L := (some b304 :: blk (.slice A258 n259 c260) :: blk (.slice A112 n222 c114) :: (q263 ++ []))) (O := O) (j := 0) rfl))
       have h442 := (Ow.sd (L := (some b304 :: blk (.slice A258 n259 c260) :: blk (.slice A112 n222 c114) :: (q263 ++ []))) (O := O) ((Ow.sw (L := (some b304 :: blk (.slice A258 n259 c260) :: blk (.slice A112 n222 c114) :: (q263 ++ []))) (O := O) (Ow.sw (L := (some b304 :: blk (.slice A258 n259 c260) :: blk (.slice A112 n222 c114) :: (q263 ++ []))) (O := O) (((h268.sn g292).sn g298).so _ g305 (oge hl306)) hc310 (i := 1) rfl (j := 0) rfl (by decide) g312) hc314 (i := 1) rfl (j := 0) rfl (by decide) g348).sn g356) (i := 1) rfl (j := 0) rfl (by decide))
       have hd443 := ((DArr.sm (L := (some b304 :: blk (.slice A258 n259 c260) :: blk (.slice A112 n222 c114) :: (q263 ++ []))) (O := O) (i := 0) (DArr.sm (L := (some b304 :: blk (.slice A258 n259 c260) :: blk (.slice A112 n222 c114) :: (q263 ++ []))) (O := O) (i := 0) (((hd269.k0 g292).k0 g298).k0 g305) hc310 rfl (fun b hb => (List.mem_cons_of_mem _ (List.mem_cons_of_mem _ (List.mem_append_left _ hb)))) g312) hc314 rfl (fun b hb => (List.mem_cons_of_mem _ (List.mem_cons_of_mem _ (List.mem_append_left _ hb)))) g348).k0 g356)
       have h444 := (Ow.sd (L := (some b304 :: blk (.slice A258 n259 c260) :: blk (.slice A112 n222 c114) :: (q263 ++ []))) (O := O) ((Ow.sw (L := (some b304 :: blk (.slice A258 n259 c260) :: blk (.slice A112 n222 c114) :: (q263 ++ []))) (O := O) (Ow.sw (L := (some b304 :: blk (.slice A258 n259 c260) :: blk (.slice A112 n222 c114) :: (q263 ++ []))) (O := O) (((h270.sn g292).sn g298).so _ g305 (oge hl306)) hc310 (i := 2) rfl (j := 0) rfl (by decide) g312) hc314 (i := 2) rfl (j := 0) rfl (by decide) g348).sn g356) (i := 2) rfl (j := 0) rfl (by decide))
       exact ⟨(xs4, ra262, q263, A258, n259, c260, v4 + 1), hm439, hI438, ⟨rfl, rfl, rfl, rfl, rfl, rfl, trivial⟩, hc437, h440, h441, h442, hd443, h444⟩
     ·have H := ite_f H hq315
      refine W_seq ?_
      refine W_reg ?_
      refine L_pu (P_move (vi r5) rfl) ?_
      refine L_pu (P_cmp r5 0 (decide (r5 < 0)) rfl rfl rfl) ?_
      refine L_pu (P_assign (vb (decide (r5 < 0))) rfl) ?_
      refine L_nil ?_
      refine W_cond (decide (r5 < 0)) rfl (fun hq445 => ?_) (fun hq445 => ?_)
      ·have H := ite_t H hq445
       refine W_reg ?_
       refine L_pu (P_move (.slice A6 n7 c8) rfl) ?_
       refine L_pu (P_move (vi r6) rfl) ?_
       obtain ⟨hb446, H⟩ := H
       have h453 := ((((h267.st (.new _ g292)).st (.new _ g298)).st (.own _ _ g305 (oge hl306))).st (.wl (L := (some b304 :: blk (.slice A258 n259 c260) :: blk (.slice A112 n222 c114) :: (q263 ++ []))) (O := O) (j := 0) rfl g312))
       obtain ⟨ad447, cs448, hA449, hS452, hR450, hcl451⟩ := h453.get default (by decide) r6 hb446
       obtain ⟨A456, n457, c458, A461, n462, c463, A467, n468, c469, A472, n473, c474, rfl, hs454, hs455, h459, h464, hs466, h470, h475⟩ := kChange.op hR450
       refine L_pu (P_ia Try.underlying43 se43 A6 ad447 n7 c8 h453.len r6 rfl hA449 rfl hb446) ?_
       refine L_pu (P_lda ag103 sz103 cL (ad447.add (r6.toNat * 11)) [vs ((nth b r6).Id), vb ((nth b r6).Had), vs ((nth b r6).Was.Id), vi ((nth b r6).Was.Shape.Kind), .slice A456 n457 c458, .slice A461 n462 c463, vb ((nth b r6).Has), vs ((nth b r6).Now.Id), vi ((nth b r6).Now.Shape.Kind), .slice A467 n468 c469, .slice A472 n473 c474] rfl rfl hcl451) ?_
       refine L_stb b304 0 [vs ([] : Str), vb false, vs ([] : Str), vi 0, .slice none 0 0, .slice none 0 0, vb false, vs ([] : Str), vi 0, .slice none 0 0, .slice none 0 0] [vs ((nth b r6).Id), vb ((nth b r6).Had), vs ((nth b r6).Was.Id), vi ((nth b r6).Was.Shape.Kind), .slice A456 n457 c458, .slice A461 n462 c463, vb ((nth b r6).Has), vs ((nth b r6).Now.Id), vi ((nth b r6).Now.Shape.Kind), .slice A467 n468 c469, .slice A472 n473 c474] [vs ((nth b r6).Id), vb ((nth b r6).Had), vs ((nth b r6).Was.Id), vi ((nth b r6).Was.Shape.Kind), .slice A456 n457 c458, .slice A461 n462 c463, vb ((nth b r6).Has), vs ((nth b r6).Now.Id), vi ((nth b r6).Now.Shape.Kind), .slice A467 n468 c469, .slice A472 n473 c474] rfl hx313 rfl sz103 rfl rfl rfl fun w477 g478 hx479 => ?_
       have hc480 := hc314.wr 0 rfl g478
       refine L_nil ?_
       refine W_seq ?_
       refine W_reg ?_
       refine L_pu (P_lda ag103 sz103 cL ⟨b304, 0, none⟩ [vs ((nth b r6).Id), vb ((nth b r6).Had), vs ((nth b r6).Was.Id), vi ((nth b r6).Was.Shape.Kind), .slice A456 n457 c458, .slice A461 n462 c463, vb ((nth b r6).Has), vs ((nth b r6).Now.Id), vi ((nth b r6).Now.Shape.Kind), .slice A467 n468 c469, .slice A472 n473 c474] rfl rfl (hx479.cells (off := 0) rfl)) ?_
       have h481 := (h459.st (.wl (L := (some b304 :: blk (.slice A258 n259 c260) :: blk (.slice A112 n222 c114) :: (q263 ++ []))) (O := O) (j := 0) rfl g478))
       have h482 := (h464.st (.wl (L := (some b304 :: blk (.slice A258 n259 c260) :: blk (.slice A112 n222 c114) :: (q263 ++ []))) (O := O) (j := 0) rfl g478))
       have h483 := (h470.st (.wl (L := (some b304 :: blk (.slice A258 n259 c260) :: blk (.slice A112 n222 c114) :: (q263 ++ []))) (O := O) (j := 0) rfl g478))
       have h484 := (h475.st (.wl (L := (some b304 :: blk (.slice A258 n259 c260) :: blk (.slice A112 n222 c114) :: (q263 ++ []))) (O := O) (j := 0) rfl g478))
       refine L_call go77 [.agg #[vs ((nth b r6).Id), vb ((nth b r6).Had), vs ((nth b r6).Was.Id), vi ((nth b r6).Was.Shape.Kind), .slice A456 n457 c458, .slice A461 n462 c463, vb ((nth b r6).Has), vs ((nth b r6).Now.Id), vi ((nth b r6).Now.Shape.Kind), .slice A467 n468 c469, .slice A472 n473 c474]] rfl ((impl_Change_same.calls w477 hc480.ok (nth b r6) A456 n457 c458 A461 n462 c463 A467 n468 c469 A472 n473 c474 hs454 hs455 h481 h482 hs466 h483 h484 _ H).mono ?_)
       rintro _ w485 ⟨r9, rfl, H, g486⟩
       have hc490 := hc480.k0 g486
       refine L_pu (P_not r9 rfl) ?_
       refine L_nil ?_
       refine W_cond (!r9) rfl (fun hq491 => ?_) (fun hq491 => ?_)
       ·have H := ite_t H hq491
        refine W_reg ?_
        refine L_pu (P_move (.slice A258 n259 c260) rfl) ?_
        have h492 := (hx479.k0 g486)
        refine L_pu (P_lda ag103 sz103 cL ⟨b304, 0, none⟩ [vs ((nth b r6).Id), vb ((nth b r6).Had), vs ((nth b r6).Was.Id), vi ((nth b r6).Was.Shape.Kind), .slice A456 n457 c458, .slice A461 n462 c463, vb ((nth b r6).Has), vs ((nth b r6).Now.Id), vi ((nth b r6).Now.Shape.Kind), .slice A467 n468 c469, .slice A472 n473 c474] rfl rfl (h492.cells (off := 0) rfl)) ?_
        refine L_call go65 [.agg #[vs ((nth b r6).Id), vb ((nth b r6).Had), vs ((nth b r6).Was.Id), vi ((nth b r6).Was.Shape.Kind), .slice A456 n457 c458, .slice A461 n462 c463, vb ((nth b r6).Has), vs ((nth b r6).Now.Id), vi ((nth b r6).Now.Shape.Kind), .slice A467 n468 c469, .slice A472 n473 c474]] rfl ((impl_cloneChange.calls w485 hc490.ok (nth b r6) A456 n457 c458 A461 n462 c463 A467 n468 c469 A472 n473 c474 hs454 hs455 (h481.st (.new _ g486)) (h482.st (.new _ g486)) hs466 (h483.st (.new _ g486)) (h484.st (.new _ g486)) _ H).mono ?_)
        rintro _ w493 ⟨r10, A497, n498, c499, A502, n503, c504, A508, n509, c510, A513, n514, c515, rfl, H, g494, hk519, hk520, hs495, hs496, h500, h505, hs507, h511, h516⟩
        have hc521 := hc490.owns g494 hk519 hk520
        have hd522 : (dChange_103).D w493 ([] ++ ([] ++ (([] ++ (([] ++ [blk (.slice A497 n498 c499)]) ++ [blk (.slice A502 n503 c504)])) ++ ([] ++ ([] ++ (([] ++ [blk (.slice A508 n509 c510)]) ++ [blk (.slice A513 n514 c515)])))))) r10 [vs r10.Id, vb r10.Had, vs r10.Was.Id, vi r10.Was.Shape.Kind, .slice A497 n498 c499, .slice A502 n503 c504, vb r10.Has, vs r10.Now.Id, vi r10.Now.Shape.Kind, .slice A508 n509 c510, .slice A513 n514 c515] := (dChange_103.mk _ r10 hs495 hs496 (Ds.ofOw kPt_flat h500) (Ds.ofOw kTag_flat h505) hs507 (Ds.ofOw kPt_flat h511) (Ds.ofOw kTag_flat h516))
        have hd531 : DArr dChange_103 w493 (([] ++ ([] ++ (([] ++ (([] ++ [blk (.slice A497 n498 c499)]) ++ [blk (.slice A502 n503 c504)])) ++ ([] ++ ([] ++ (([] ++ [blk (.slice A508 n509 c510)]) ++ [blk (.slice A513 n514 c515)])))))) ++ []) ([r10] : List Change) ([[vs r10.Id, vb r10.Had, vs r10.Was.Id, vi r10.Was.Shape.Kind, .slice A497 n498 c499, .slice A502 n503 c504, vb r10.Has, vs r10.Now.Id, vi r10.Now.Shape.Kind, .slice A508 n509 c510, .slice A513 n514 c515]] : List (List Value)) := ⟨_, _, rfl, hd522, rfl⟩
        refine L_lit (kd := Kd.cells 11) ei43 hc521 ([[vs r10.Id, vb r10.Had, vs r10.Was.Id, vi r10.Was.Shape.Kind, .slice A497 n498 c499, .slice A502 n503 c504, vb r10.Has, vs r10.Now.Id, vi r10.Now.Shape.Kind, .slice A508 n509 c510, .slice A513 n514 c515]] : List (List Value)) (cells := [vs r10.Id, vb r10.Had, vs r10.Was.Id, vi r10.Was.Shape.Kind, .slice A497 n498 c499, .slice A502 n503 c504, vb r10.Has, vs r10.Now.Id, vi r10.Now.Shape.Kind, .slice A508 n509 c510, .slice A513 n514 c515]) ⟨[vs r10.Id, vb r10.Had, vs r10.Was.Id, vi r10.Was.Shape.Kind, .slice A497 n498 c499, .slice A502 n503 c504, vb r10.Has, vs r10.Now.Id, vi r10.Now.Shape.Kind, .slice A508 n509 c510, .slice A513 n514 c515], _, rfl, Dd.raw _ hd522, rfl⟩ (fun _ => by kernel_rfl) fun w523 A524 n525 c526 g527 hr528 hc529 h530 => ?_
        have hp533 : ((blk (.slice A524 n525 c526) :: blk (.slice A497 n498 c499) :: blk (.slice A502 n503 c504) :: blk (.slice A508 n509 c510) :: blk (.slice A513 n514 c515) :: some b304 :: blk (.slice A258 n259 c260) :: blk (.slice A112 n222 c114) :: (q263 ++ [])) : Ob).Perm (blk (.slice A524 n525 c526) :: some b304 :: blk (.slice A258 n259 c260) :: blk (.slice A112 n222 c114) :: (q263 ++ ((([] ++ ([] ++ (([] ++ (([] ++ [blk (.slice A497 n498 c499)]) ++ [blk (.slice A502 n503 c504)])) ++ ([] ++ ([] ++ (([] ++ [blk (.slice A508 n509 c510)]) ++ [blk (.slice A513 n514 c515)])))))) ++ []) ++ []))) := (by rw [List.perm_iff_count]; intro a; (try simp only [List.count_append, List.count_cons, List.count_nil, Nat.add_zero, Nat.zero_add]); first | done | ac_rfl)
        have hc534 := hc529.perm hp533
        obtain ⟨hb535, H⟩ := H
        have h536 := (Ow.sp (L := (blk (.slice A524 n525 c526) :: blk (.slice A497 n498 c499) :: blk (.slice A502 n503 c504) :: blk (.slice A508 n509 c510) :: blk (.slice A513 n514 c515) :: some b304 :: blk (.slice A258 n259 c260) :: blk (.slice A112 n222 c114) :: (q263 ++ []))) (O := O) ((((Ow.sw (L := (some b304 :: blk (.slice A258 n259 c260) :: blk (.slice A112 n222 c114) :: (q263 ++ []))) (O := O) (Ow.sw (L := (some b304 :: blk (.slice A258 n259 c260) :: blk (.slice A112 n222 c114) :: (q263 ++ []))) (O := O) (((h268.sn g292).sn g298).so _ g305 (oge hl306)) hc310 (i := 1) rfl (j := 0) rfl (by decide) g312) hc314 (i := 1) rfl (j := 0) rfl (by decide) g478).sn g486).sos g494 hk520).so _ g527 hr528) hp533)
        have h537 := (Ow.sp (L := (blk (.slice A524 n525 c526) :: blk (.slice A497 n498 c499) :: blk (.slice A502 n503 c504) :: blk (.slice A508 n509 c510) :: blk (.slice A513 n514 c515) :: some b304 :: blk (.slice A258 n259 c260) :: blk (.slice A112 n222 c114) :: (q263 ++ []))) (O := O) h530 hp533)
        have hd538 := ((((DArr.sm (L := (some b304 :: blk (.slice A258 n259 c260) :: blk (.slice A112 n222 c114) :: (q263 ++ []))) (O := O) (i := 0) (DArr.sm (L := (some b304 :: blk (.slice A258 n259 c260) :: blk (.slice A112 n222 c114) :: (q263 ++ []))) (O := O) (i := 0) (((hd269.k0 g292).k0 g298).k0 g305) hc310 rfl (fun b hb => (List.mem_cons_of_mem _ (List.mem_cons_of_mem _ (List.mem_append_left _ hb)))) g312) hc314 rfl (fun b hb => (List.mem_cons_of_mem _ (List.mem_cons_of_mem _ (List.mem_append_left _ hb)))) g478).k0 g486).k0 g494).k0 g527)
        have hd539 := (hd531.k0 g527)
        have hn540 : ra262.length + ([[vs r10.Id, vb r10.Had, vs r10.Was.Id, vi r10.Was.Shape.Kind, .slice A497 n498 c499, .slice A502 n503 c504, vb r10.Has, vs r10.Now.Id, vi r10.Now.Shape.Kind, .slice A508 n509 c510, .slice A513 n514 c515]] : List (List Value)).length ≤ 268435456 := by rw [hd538.len, hd539.len]; exact hb535
        refine L_app (kd := Kd.cells 11) ei43 hc534 (.slice A258 n259 c260) ra262 ([[vs r10.Id, vb r10.Had, vs r10.Was.Id, vi r10.Was.Shape.Kind, .slice A497 n498 c499, .slice A502 n503 c504, vb r10.Has, vs r10.Now.Id, vi r10.Now.Shape.Kind, .slice A508 n509 c510, .slice A513 n514 c515]] : List (List Value)) rfl h536 (.slice A524 n525 c526) rfl h537.sx 2 rfl hn540 fun w541 A542 n543 c544 g545 s546 hc547 h548 => ?_
        have hd549 := (DArr.sm (L := (blk (.slice A524 n525 c526) :: some b304 :: blk (.slice A258 n259 c260) :: blk (.slice A112 n222 c114) :: (q263 ++ ((([] ++ ([] ++ (([] ++ (([] ++ [blk (.slice A497 n498 c499)]) ++ [blk (.slice A502 n503 c504)])) ++ ([] ++ ([] ++ (([] ++ [blk (.slice A508 n509 c510)]) ++ [blk (.slice A513 n514 c515)])))))) ++ []) ++ [])))) (O := O) (i := 2) hd538 hc534 rfl (fun b hb => (List.mem_cons_of_mem _ (List.mem_append_left _ hb))) g545)
        have hd550 := (DArr.sm (L := (blk (.slice A524 n525 c526) :: some b304 :: blk (.slice A258 n259 c260) :: blk (.slice A112 n222 c114) :: (q263 ++ ((([] ++ ([] ++ (([] ++ (([] ++ [blk (.slice A497 n498 c499)]) ++ [blk (.slice A502 n503 c504)])) ++ ([] ++ ([] ++ (([] ++ [blk (.slice A508 n509 c510)]) ++ [blk (.slice A513 n514 c515)])))))) ++ []) ++ [])))) (O := O) (i := 2) hd539 hc534 rfl (fun b hb => (List.mem_cons_of_mem _ (List.mem_append_right _ (List.mem_append_left _ hb)))) g545)
        have hd552 := DArr.app hd549 hd550
        have hp553 : ((blk (.slice A524 n525 c526) :: some b304 :: blk (.slice A542 n543 c544) :: blk (.slice A112 n222 c114) :: (q263 ++ ((([] ++ ([] ++ (([] ++ (([] ++ [blk (.slice A497 n498 c499)]) ++ [blk (.slice A502 n503 c504)])) ++ ([] ++ ([] ++ (([] ++ [blk (.slice A508 n509 c510)]) ++ [blk (.slice A513 n514 c515)])))))) ++ []) ++ []))) : Ob).Perm ((blk (.slice A524 n525 c526) :: []) ++ (some b304 :: blk (.slice A542 n543 c544) :: blk (.slice A112 n222 c114) :: (q263 ++ ((([] ++ ([] ++ (([] ++ (([] ++ [blk (.slice A497 n498 c499)]) ++ [blk (.slice A502 n503 c504)])) ++ ([] ++ ([] ++ (([] ++ [blk (.slice A508 n509 c510)]) ++ [blk (.slice A513 n514 c515)])))))) ++ []) ++ [])))) := (by rw [List.perm_iff_count]; intro a; (try simp only [List.count_append, List.count_cons, List.count_nil, Nat.add_zero, Nat.zero_add]); first | done | ac_rfl)
        have hc554 := hc547.drops hp553
        have hp555 : ((some b304 :: blk (.slice A542 n543 c544) :: blk (.slice A112 n222 c114) :: (q263 ++ ((([] ++ ([] ++ (([] ++ (([] ++ [blk (.slice A497 n498 c499)]) ++ [blk (.slice A502 n503 c504)])) ++ ([] ++ ([] ++ (([] ++ [blk (.slice A508 n509 c510)]) ++ [blk (.slice A513 n514 c515)])))))) ++ []) ++ []))) : Ob).Perm (some b304 :: blk (.slice A542 n543 c544) :: blk (.slice A112 n222 c114) :: ((q263 ++ (([] ++ ([] ++ (([] ++ (([] ++ [blk (.slice A497 n498 c499)]) ++ [blk (.slice A502 n503 c504)])) ++ ([] ++ ([] ++ (([] ++ [blk (.slice A508 n509 c510)]) ++ [blk (.slice A513 n514 c515)])))))) ++ [])) ++ [])) := (by rw [List.perm_iff_count]; intro a; (try simp only [List.count_append, List.count_cons, List.count_nil, Nat.add_zero, Nat.zero_add]); first | done | ac_rfl)
        have hc556 := hc554.perm hp555
        refine L_pu (P_assign (.slice A542 n543 c544) rfl) ?_
        refine L_nil ?_
        refine W_reg ?_
        obtain ⟨hb557, H⟩ := H
        refine L_pu (P_add v4 1 rfl rfl hb557) ?_
        refine L_pu (P_move (vi (v4 + 1)) rfl) ?_
        refine L_nil ?_
        have hc558 := hc556.drop 0 rfl
        obtain ⟨hI559, hm560⟩ := H
        have h561 := (((((((((((((h266.st (.new _ g292)).st (.new _ g298)).st (.own _ _ g305 (oge hl306))).st (.wl (L := (some b304 :: blk (.slice A258 n259 c260) :: blk (.slice A112 n222 c114) :: (q263 ++ []))) (O := O) (j := 0) rfl g312)).st (.wl (L := (some b304 :: blk (.slice A258 n259 c260) :: blk (.slice A112 n222 c114) :: (q263 ++ []))) (O := O) (j := 0) rfl g478)).st (.new _ g486)).st (.owns _ g494 hk520)).st (.own _ _ g527 hr528)).st (.perm (L := (blk (.slice A524 n525 c526) :: blk (.slice A497 n498 c499) :: blk (.slice A502 n503 c504) :: blk (.slice A508 n509 c510) :: blk (.slice A513 n514 c515) :: some b304 :: blk (.slice A258 n259 c260) :: blk (.slice A112 n222 c114) :: (q263 ++ []))) (O := O) hp533)).st s546).st (St.drops _ O hp553)).st (.perm (L := (some b304 :: blk (.slice A542 n543 c544) :: blk (.slice A112 n222 c114) :: (q263 ++ ((([] ++ ([] ++ (([] ++ (([] ++ [blk (.slice A497 n498 c499)]) ++ [blk (.slice A502 n503 c504)])) ++ ([] ++ ([] ++ (([] ++ [blk (.slice A508 n509 c510)]) ++ [blk (.slice A513 n514 c515)])))))) ++ []) ++ [])))) (O := O) hp555)).st (.dr _ (L := (some b304 :: blk (.slice A542 n543 c544) :: blk (.slice A112 n222 c114) :: ((q263 ++ (([] ++ ([] ++ (([] ++ (([] ++ [blk (.slice A497 n498 c499)]) ++ [blk (.slice A502 n503 c504)])) ++ ([] ++ ([] ++ (([] ++ [blk (.slice A508 n509 c510)]) ++ [blk (.slice A513 n514 c515)])))))) ++ [])) ++ []))) (O := O) (j := 0) rfl))
        have h562 := (((((((((h453.st (.wl (L := (some b304 :: blk (.slice A258 n259 c260) :: blk (.slice A112 n222 c114) :: (q263 ++ []))) (O := O) (j := 0) rfl g478)).st (.new _ g486)).st (.owns _ g494 hk520)).st (.own _ _ g527 hr528)).st (.perm (L := (blk (.slice A524 n525 c526) :: blk (.slice A497 n498 c499) :: blk (.slice A502 n503 c504) :: blk (.slice A508 n509 c510) :: blk (.slice A513 n514 c515) :: some b304 :: blk (.slice A258 n259 c260) :: blk (.slice A112 n222 c114) :: (q263 ++ []))) (O := O) hp533)).st s546).st (St.drops _ O hp553)).st (.perm (L := (some b304 :: blk (.slice A542 n543 c544) :: blk (.slice A112 n222 c114) :: (q263 ++ ((([] ++ ([] ++ (([] ++ (([] ++ [blk (.slice A497 n498 c499)]) ++ [blk (.slice A502 n503 c504)])) ++ ([] ++ ([] ++ (([] ++ [blk (.slice A508 n509 c510)]) ++ [blk (.slice A513 n514 c515)])))))) ++ []) ++ [])))) (O := O) hp555)).st (.dr _ (L := (some b304 :: blk (.slice A542 n543 c544) :: blk (.slice A112 n222 c114) :: ((q263 ++ (([] ++ ([] ++ (([] ++ (([] ++ [blk (.slice A497 n498 c499)]) ++ [blk (.slice A502 n503 c504)])) ++ ([] ++ ([] ++ (([] ++ [blk (.slice A508 n509 c510)]) ++ [blk (.slice A513 n514 c515)])))))) ++ [])) ++ []))) (O := O) (j := 0) rfl))
        have h563 := (Ow.sd (L := (some b304 :: blk (.slice A542 n543 c544) :: blk (.slice A112 n222 c114) :: ((q263 ++ (([] ++ ([] ++ (([] ++ (([] ++ [blk (.slice A497 n498 c499)]) ++ [blk (.slice A502 n503 c504)])) ++ ([] ++ ([] ++ (([] ++ [blk (.slice A508 n509 c510)]) ++ [blk (.slice A513 n514 c515)])))))) ++ [])) ++ []))) (O := O) (Ow.sp (L := (some b304 :: blk (.slice A542 n543 c544) :: blk (.slice A112 n222 c114) :: (q263 ++ ((([] ++ ([] ++ (([] ++ (([] ++ [blk (.slice A497 n498 c499)]) ++ [blk (.slice A502 n503 c504)])) ++ ([] ++ ([] ++ (([] ++ [blk (.slice A508 n509 c510)]) ++ [blk (.slice A513 n514 c515)])))))) ++ []) ++ [])))) (O := O) (Ow.drops (L := (blk (.slice A524 n525 c526) :: some b304 :: blk (.slice A542 n543 c544) :: blk (.slice A112 n222 c114) :: (q263 ++ ((([] ++ ([] ++ (([] ++ (([] ++ [blk (.slice A497 n498 c499)]) ++ [blk (.slice A502 n503 c504)])) ++ ([] ++ ([] ++ (([] ++ [blk (.slice A508 n509 c510)]) ++ [blk (.slice A513 n514 c515)])))))) ++ []) ++ [])))) (O := O) h548 hp553 (memi 1 rfl)) hp555) (i := 1) rfl (j := 0) rfl (by decide))
        have hd564 := hd552
        have h565 := (Ow.sd (L := (some b304 :: blk (.slice A542 n543 c544) :: blk (.slice A112 n222 c114) :: ((q263 ++ (([] ++ ([] ++ (([] ++ (([] ++ [blk (.slice A497 n498 c499)]) ++ [blk (.slice A502 n503 c504)])) ++ ([] ++ ([] ++ (([] ++ [blk (.slice A508 n509 c510)]) ++ [blk (.slice A513 n514 c515)])))))) ++ [])) ++ []))) (O := O) (Ow.sp (L := (some b304 :: blk (.slice A542 n543 c544) :: blk (.slice A112 n222 c114) :: (q263 ++ ((([] ++ ([] ++ (([] ++ (([] ++ [blk (.slice A497 n498 c499)]) ++ [blk (.slice A502 n503 c504)])) ++ ([] ++ ([] ++ (([] ++ [blk (.slice A508 n509 c510)]) ++ [blk (.slice A513 n514 c515)])))))) ++ []) ++ [])))) (O := O) (Ow.drops (L := (blk (.slice A524 n525 c526) :: some b304 :: blk (.slice A542 n543 c544) :: blk (.slice A112 n222 c114) :: (q263 ++ ((([] ++ ([] ++ (([] ++ (([] ++ [blk (.slice A497 n498 c499)]) ++ [blk (.slice A502 n503 c504)])) ++ ([] ++ ([] ++ (([] ++ [blk (.slice A508 n509 c510)]) ++ [blk (.slice A513 n514 c515)])))))) ++ []) ++ [])))) (O := O) (Ow.sm (L := (blk (.slice A524 n525 c526) :: some b304 :: blk (.slice A258 n259 c260) :: blk (.slice A112 n222 c114) :: (q263 ++ ((([] ++ ([] ++ (([] ++ (([] ++ [blk (.slice A497 n498 c499)]) ++ [blk (.slice A502 n503 c504)])) ++ ([] ++ ([] ++ (([] ++ [blk (.slice A508 n509 c510)]) ++ [blk (.slice A513 n514 c515)])))))) ++ []) ++ [])))) (O := O) (Ow.sp (L := (blk (.slice A524 n525 c526) :: blk (.slice A497 n498 c499) :: blk (.slice A502 n503 c504) :: blk (.slice A508 n509 c510) :: blk (.slice A513 n514 c515) :: some b304 :: blk (.slice A258 n259 c260) :: blk (.slice A112 n222 c114) :: (q263 ++ []))) (O := O) ((((Ow.sw (L := (some b304 :: blk (.slice A258 n259 c260) :: blk (.slice A112 n222 c114) :: (q263 ++ []))) (O := O) (Ow.sw (L := (some b304 :: blk (.slice A258 n259 c260) :: blk (.slice A112 n222 c114) :: (q263 ++ []))) (O := O) (((h270.sn g292).sn g298).so _ g305 (oge hl306)) hc310 (i := 2) rfl (j := 0) rfl (by decide) g312) hc314 (i := 2) rfl (j := 0) rfl (by decide) g478).sn g486).sos g494 hk520).so _ g527 hr528) hp533) hc534 (i := 3) rfl (j := 2) rfl (by decide) g545 s546) hp553 (memi 2 rfl)) hp555) (i := 2) rfl (j := 0) rfl (by decide))
        exact ⟨((xs4 ++ ([r10] : List Change)), (ra262 ++ ([[vs r10.Id, vb r10.Had, vs r10.Was.Id, vi r10.Was.Shape.Kind, .slice A497 n498 c499, .slice A502 n503 c504, vb r10.Has, vs r10.Now.Id, vi r10.Now.Shape.Kind, .slice A508 n509 c510, .slice A513 n514 c515]] : List (List Value))), (q263 ++ (([] ++ ([] ++ (([] ++ (([] ++ [blk (.slice A497 n498 c499)]) ++ [blk (.slice A502 n503 c504)])) ++ ([] ++ ([] ++ (([] ++ [blk (.slice A508 n509 c510)]) ++ [blk (.slice A513 n514 c515)])))))) ++ [])), A542, n543, c544, v4 + 1), hm560, hI559, ⟨rfl, rfl, rfl, rfl, rfl, rfl, trivial⟩, hc558, h561, h562, h563, hd564, h565⟩
       ·have H := ite_f H hq491
        refine W_skip ?_
        refine W_reg ?_
        obtain ⟨hb566, H⟩ := H
        refine L_pu (P_add v4 1 rfl rfl hb566) ?_
        refine L_pu (P_move (vi (v4 + 1)) rfl) ?_
        refine L_nil ?_
        have hc567 := hc490.drop 0 rfl
        obtain ⟨hI568, hm569⟩ := H
        have h570 := (((((((h266.st (.new _ g292)).st (.new _ g298)).st (.own _ _ g305 (oge hl306))).st (.wl (L := (some b304 :: blk (.slice A258 n259 c260) :: blk (.slice A112 n222 c114) :: (q263 ++ []))) (O := O) (j := 0) rfl g312)).st (.wl (L := (some b304 :: blk (.slice A258 n259 c260) :: blk (.slice A112 n222 c114) :: (q263 ++ []))) (O := O) (j := 0) rfl g478)).st (.new _ g486)).st (.dr _ (L := (some b304 :: blk (.slice A258 n259 c260) :: blk (.slice A112 n222 c114) :: (q263 ++ []))) (O := O) (j := 0) rfl))
        have h571 := (((h453.st (.wl (L := (some b304 :: blk (.slice A258 n259 c260) :: blk (.slice A112 n222 c114) :: (q263 ++ []))) (O := O) (j := 0) rfl g478)).st (.new _ g486)).st (.dr _ (L := (some b304 :: blk (.slice A258 n259 c260) :: blk (.slice A112 n222 c114) :: (q263 ++ []))) (O := O) (j := 0) rfl))
        have h572 := (Ow.sd (L := (some b304 :: blk (.slice A258 n259 c260) :: blk (.slice A112 n222 c114) :: (q263 ++ []))) (O := O) ((Ow.sw (L := (some b304 :: blk (.slice A258 n259 c260) :: blk (.slice A112 n222 c114) :: (q263 ++ []))) (O := O) (Ow.sw (L := (some b304 :: blk (.slice A258 n259 c260) :: blk (.slice A112 n222 c114) :: (q263 ++ []))) (O := O) (((h268.sn g292).sn g298).so _ g305 (oge hl306)) hc310 (i := 1) rfl (j := 0) rfl (by decide) g312) hc314 (i := 1) rfl (j := 0) rfl (by decide) g478).sn g486) (i := 1) rfl (j := 0) rfl (by decide))
        have hd573 := ((DArr.sm (L := (some b304 :: blk (.slice A258 n259 c260) :: blk (.slice A112 n222 c114) :: (q263 ++ []))) (O := O) (i := 0) (DArr.sm (L := (some b304 :: blk (.slice A258 n259 c260) :: blk (.slice A112 n222 c114) :: (q263 ++ []))) (O := O) (i := 0) (((hd269.k0 g292).k0 g298).k0 g305) hc310 rfl (fun b hb => (List.mem_cons_of_mem _ (List.mem_cons_of_mem _ (List.mem_append_left _ hb)))) g312) hc314 rfl (fun b hb => (List.mem_cons_of_mem _ (List.mem_cons_of_mem _ (List.mem_append_left _ hb)))) g478).k0 g486)
        have h574 := (Ow.sd (L := (some b304 :: blk (.slice A258 n259 c260) :: blk (.slice A112 n222 c114) :: (q263 ++ []))) (O := O) ((Ow.sw (L := (some b304 :: blk (.slice A258 n259 c260) :: blk (.slice A112 n222 c114) :: (q263 ++ []))) (O := O) (Ow.sw (L := (some b304 :: blk (.slice A258 n259 c260) :: blk (.slice A112 n222 c114) :: (q263 ++ []))) (O := O) (((h270.sn g292).sn g298).so _ g305 (oge hl306)) hc310 (i := 2) rfl (j := 0) rfl (by decide) g312) hc314 (i := 2) rfl (j := 0) rfl (by decide) g478).sn g486) (i := 2) rfl (j := 0) rfl (by decide))
        exact ⟨(xs4, ra262, q263, A258, n259, c260, v4 + 1), hm569, hI568, ⟨rfl, rfl, rfl, rfl, rfl, rfl, trivial⟩, hc567, h570, h571, h572, hd573, h574⟩
      ·have H := ite_f H hq445
       refine W_seq ?_
       refine W_seq ?_
       refine W_draw (fun x => Gr w311 x none) (by kernel_rfl) (by kernel_rfl) (Gr.drew _) ?_
       refine Q_pu (P_move (.slice A1 n2 c3) rfl) ?_
       refine Q_pu (P_move (vi r5) rfl) ?_
       obtain ⟨hb575, H⟩ := H
       have h582 := ((((h266.st (.new _ g292)).st (.new _ g298)).st (.own _ _ g305 (oge hl306))).st (.wl (L := (some b304 :: blk (.slice A258 n259 c260) :: blk (.slice A112 n222 c114) :: (q263 ++ []))) (O := O) (j := 0) rfl g312))
       obtain ⟨ad576, cs577, hA578, hS581, hR579, hcl580⟩ := h582.get default (by decide) r5 hb575
       obtain ⟨A585, n586, c587, A590, n591, c592, A596, n597, c598, A601, n602, c603, rfl, hs583, hs584, h588, h593, hs595, h599, h604⟩ := kChange.op hR579
       refine Q_pu (P_ia Try.underlying43 se43 A1 ad576 n2 c3 h582.len r5 rfl hA578 rfl hb575) ?_
       refine Q_pu (P_fa fa103_3 (ad576.add (r5.toNat * 11)) ((ad576.add (r5.toNat * 11)).add 6) rfl rfl) ?_
       refine Q_pu (P_ld ag4 cQ ((ad576.add (r5.toNat * 11)).add 6) (vb ((nth a r5).Has)) rfl (hcl580 6 _ rfl)) ?_
       refine Q_pu (P_move (.slice A6 n7 c8) rfl) ?_
       refine Q_pu (P_move (vi r6) rfl) ?_
       obtain ⟨hb606, H⟩ := H
       have h613 := ((((h267.st (.new _ g292)).st (.new _ g298)).st (.own _ _ g305 (oge hl306))).st (.wl (L := (some b304 :: blk (.slice A258 n259 c260) :: blk (.slice A112 n222 c114) :: (q263 ++ []))) (O := O) (j := 0) rfl g312))
       obtain ⟨ad607, cs608, hA609, hS612, hR610, hcl611⟩ := h613.get default (by decide) r6 hb606
       obtain ⟨A616, n617, c618, A621, n622, c623, A627, n628, c629, A632, n633, c634, rfl, hs614, hs615, h619, h624, hs626, h630, h635⟩ := kChange.op hR610
       refine Q_pu (P_ia Try.underlying43 se43 A6 ad607 n7 c8 h613.len r6 rfl hA609 rfl hb606) ?_
       refine Q_pu (P_fa fa103_1 (ad607.add (r6.toNat * 11)) ((ad607.add (r6.toNat * 11)).add 1) rfl rfl) ?_
       refine Q_pu (P_ld ag4 cQ ((ad607.add (r6.toNat * 11)).add 1) (vb ((nth b r6).Had)) rfl (hcl611 1 _ rfl)) ?_
       refine Q_pu (P_bcmp Try.underlying4 ((nth a r5).Has) ((nth b r6).Had) (((nth a r5).Has) != ((nth b r6).Had)) rfl rfl rfl) ?_
       refine Q_pu (P_move (vb (((nth a r5).Has) != ((nth b r6).Had))) rfl) ?_
       rcases bool_or (((nth a r5).Has) != ((nth b r6).Had)) with hq637 | hq637
       ·have H := ite_t H hq637
        refine Q_pass (dj := 68) rfl rfl (.inl (by exact congrArg Value.bool hq637)) ?_
        refine Q_pass (dj := 68) rfl rfl (.inl (by exact congrArg Value.bool hq637)) ?_
        refine Q_pass (dj := 68) rfl rfl (.inl (by exact congrArg Value.bool hq637)) ?_
        refine Q_pass (dj := 68) rfl rfl (.inl (by exact congrArg Value.bool hq637)) ?_
        refine Q_pass (dj := 68) rfl rfl (.inl (by exact congrArg Value.bool hq637)) ?_
        refine Q_pass (dj := 68) rfl rfl (.inl (by exact congrArg Value.bool hq637)) ?_
        refine Q_pass (dj := 68) rfl rfl (.inl (by exact congrArg Value.bool hq637)) ?_
        refine Q_pass (dj := 68) rfl rfl (.inl (by exact congrArg Value.bool hq637)) ?_
        refine Q_pass (dj := 68) rfl rfl (.inl (by exact congrArg Value.bool hq637)) ?_
        refine Q_pass (dj := 68) rfl rfl (.inl (by exact congrArg Value.bool hq637)) ?_
        refine Q_pass (dj := 68) rfl rfl (.inl (by exact congrArg Value.bool hq637)) ?_
        refine Q_pass (dj := 68) rfl rfl (.inl (by exact congrArg Value.bool hq637)) ?_
        refine Q_pu (P_pick true (vb true) (by exact congrArg Value.bool hq637) rfl) ?_
        refine Q_nil fun w638 g639 => ?_
        have hc641 := hc314.k0 g639
        refine W_ct (b := true) rfl rfl ?_
        refine W_seq ?_
        refine W_reg ?_
        have hd650 : DArr dChange_103 w638 ([] : Ob) ([] : List Change) ([] : List (List Value)) := rfl
        refine L_lit (kd := Kd.cells 11) ei43 hc641 ([] : List (List Value)) (cells := []) rfl (fun _ => by kernel_rfl) fun w642 A643 n644 c645 g646 hr647 hc648 h649 => ?_
        have hp652 : ((blk (.slice A643 n644 c645) :: some b304 :: blk (.slice A258 n259 c260) :: blk (.slice A112 n222 c114) :: (q263 ++ [])) : Ob).Perm (blk (.slice A643 n644 c645) :: some b304 :: blk (.slice A258 n259 c260) :: blk (.slice A112 n222 c114) :: (q263 ++ (([] : Ob) ++ []))) := (by rw [List.perm_iff_count]; intro a; (try simp only [List.count_append, List.count_cons, List.count_nil, Nat.add_zero, Nat.zero_add]); first | done | ac_rfl)
        have hc653 := hc648.perm hp652
        refine L_pu (P_assign (.slice A643 n644 c645) rfl) ?_
        refine L_pu (P_assign (vb false) rfl) ?_
        refine L_nil ?_
        refine W_ret ?_
        have hc654 := hc653.drop 1 rfl
        have hp655 : ((blk (.slice A643 n644 c645) :: blk (.slice A258 n259 c260) :: blk (.slice A112 n222 c114) :: (q263 ++ (([] : Ob) ++ []))) : Ob).Perm ((blk (.slice A258 n259 c260) :: (q263 ++ [])) ++ (blk (.slice A643 n644 c645) :: blk (.slice A112 n222 c114) :: (([] : Ob) ++ []))) := (by rw [List.perm_iff_count]; intro a; (try simp only [List.count_append, List.count_cons, List.count_nil, Nat.add_zero, Nat.zero_add]); first | done | ac_rfl)
        have hc656 := hc654.drops hp655
        have hc657 := hc656.drop 1 rfl
        have h658 := (Ow.sd (L := (blk (.slice A643 n644 c645) :: blk (.slice A112 n222 c114) :: (([] : Ob) ++ []))) (O := O) (Ow.drops (L := (blk (.slice A643 n644 c645) :: blk (.slice A258 n259 c260) :: blk (.slice A112 n222 c114) :: (q263 ++ (([] : Ob) ++ [])))) (O := O) (Ow.sd (L := (blk (.slice A643 n644 c645) :: some b304 :: blk (.slice A258 n259 c260) :: blk (.slice A112 n222 c114) :: (q263 ++ (([] : Ob) ++ [])))) (O := O) (Ow.sp (L := (blk (.slice A643 n644 c645) :: some b304 :: blk (.slice A258 n259 c260) :: blk (.slice A112 n222 c114) :: (q263 ++ []))) (O := O) h649 hp652) (i := 0) rfl (j := 1) rfl (by decide)) hp655 (memi 0 rfl)) (i := 0) rfl (j := 1) rfl (by decide))
        have hd659 := (hd650.k0 g646)
        exact ⟨[.slice A643 n644 c645, vb false], ⟨_, rfl, ⟨_, rfl, rfl⟩⟩, ([] : List Change), false, A643, n644, c645, ([] : Ob), ([] : List (List Value)), rfl, H, hc657.gr.g0, hc657.ok, hc657.ge, h658, hd659⟩
       ·have H := ite_f H hq637
        refine Q_run (dj := 68) rfl rfl (by exact congrArg Value.bool hq637) ?_
        refine Q_pu (P_move (.slice A1 n2 c3) rfl) ?_
        refine Q_run (dj := 68) rfl rfl (by exact congrArg Value.bool hq637) ?_
        refine Q_pu (P_move (vi r5) rfl) ?_
        refine Q_run (dj := 68) rfl rfl (by exact congrArg Value.bool hq637) ?_
        obtain ⟨hb660, H⟩ := H
        obtain ⟨ad661, cs662, hA663, hS666, hR664, hcl665⟩ := h582.get default (by decide) r5 hb660
        obtain ⟨A669, n670, c671, A674, n675, c676, A680, n681, c682, A685, n686, c687, rfl, hs667, hs668, h672, h677, hs679, h683, h688⟩ := kChange.op hR664
        refine Q_pu (P_ia Try.underlying43 se43 A1 ad661 n2 c3 h582.len r5 rfl hA663 rfl hb660) ?_
        refine Q_run (dj := 68) rfl rfl (by exact congrArg Value.bool hq637) ?_
        refine Q_pu (P_fa fa103_4 (ad661.add (r5.toNat * 11)) ((ad661.add (r5.toNat * 11)).add 7) rfl rfl) ?_
        refine Q_run (dj := 68) rfl rfl (by exact congrArg Value.bool hq637) ?_
        refine Q_pu (P_lda ag71 sz71 cQ ((ad661.add (r5.toNat * 11)).add 7) [vs ((nth a r5).Now.Id), vi ((nth a r5).Now.Shape.Kind), .slice A680 n681 c682, .slice A685 n686 c687] rfl rfl (sub_cells (off := 7) hcl665 rfl)) ?_
        refine Q_run (dj := 68) rfl rfl (by exact congrArg Value.bool hq637) ?_
        refine Q_pu (P_move (.slice A6 n7 c8) rfl) ?_
        refine Q_run (dj := 68) rfl rfl (by exact congrArg Value.bool hq637) ?_
        refine Q_pu (P_move (vi r6) rfl) ?_
        refine Q_run (dj := 68) rfl rfl (by exact congrArg Value.bool hq637) ?_
        obtain ⟨hb690, H⟩ := H
        obtain ⟨ad691, cs692, hA693, hS696, hR694, hcl695⟩ := h613.get default (by decide) r6 hb690
        obtain ⟨A699, n700, c701, A704, n705, c706, A710, n711, c712, A715, n716, c717, rfl, hs697, hs698, h702, h707, hs709, h713, h718⟩ := kChange.op hR694
        refine Q_pu (P_ia Try.underlying43 se43 A6 ad691 n7 c8 h613.len r6 rfl hA693 rfl hb690) ?_
        refine Q_run (dj := 68) rfl rfl (by exact congrArg Value.bool hq637) ?_
        refine Q_pu (P_fa fa103_2 (ad691.add (r6.toNat * 11)) ((ad691.add (r6.toNat * 11)).add 2) rfl rfl) ?_
        refine Q_run (dj := 68) rfl rfl (by exact congrArg Value.bool hq637) ?_
        refine Q_pu (P_lda ag71 sz71 cQ ((ad691.add (r6.toNat * 11)).add 2) [vs ((nth b r6).Was.Id), vi ((nth b r6).Was.Shape.Kind), .slice A699 n700 c701, .slice A704 n705 c706] rfl rfl (sub_cells (off := 2) hcl695 rfl)) ?_
        refine Q_run (dj := 68) rfl rfl (by exact congrArg Value.bool hq637) ?_
        obtain ⟨q, hE725, H⟩ := H
        refine Q_call go86 [.agg #[vs ((nth a r5).Now.Id), vi ((nth a r5).Now.Shape.Kind), .slice A680 n681 c682, .slice A685 n686 c687], .agg #[vs ((nth b r6).Was.Id), vi ((nth b r6).Was.Shape.Kind), .slice A699 n700 c701, .slice A704 n705 c706]] rfl (vb q) (fun w g => (impl_FeatSame.calls w (hc314.k0 g).ok ((nth a r5).Now) A680 n681 c682 A685 n686 c687 hs679 (h683.st (.new _ g)) (h688.st (.new _ g)) ((nth b r6).Was) A699 n700 c701 A704 n705 c706 hs698 (h702.st (.new _ g)) (h707.st (.new _ g)) _ hE725).mono ?_) ?_
        ·rintro _ w ⟨r, rfl, rfl, g2⟩
         exact ⟨rfl, Gr.t0 g g2⟩
        refine Q_run (dj := 68) rfl rfl (by exact congrArg Value.bool hq637) ?_
        refine Q_pu (P_not q rfl) ?_
        refine Q_pu (P_pick false (vb (!q)) (by exact congrArg Value.bool hq637) rfl) ?_
        refine Q_nil fun w727 g728 => ?_
        have hc730 := hc314.k0 g728
        refine W_cond (!q) rfl (fun hq731 => ?_) (fun hq731 => ?_)
        ·have H := ite_t H hq731
         refine W_seq ?_
         refine W_reg ?_
         have hd740 : DArr dChange_103 w727 ([] : Ob) ([] : List Change) ([] : List (List Value)) := rfl
         refine L_lit (kd := Kd.cells 11) ei43 hc730 ([] : List (List Value)) (cells := []) rfl (fun _ => by kernel_rfl) fun w732 A733 n734 c735 g736 hr737 hc738 h739 => ?_
         have hp742 : ((blk (.slice A733 n734 c735) :: some b304 :: blk (.slice A258 n259 c260) :: blk (.slice A112 n222 c114) :: (q263 ++ [])) : Ob).Perm (blk (.slice A733 n734 c735) :: some b304 :: blk (.slice A258 n259 c260) :: blk (.slice A112 n222 c114) :: (q263 ++ (([] : Ob) ++ []))) := (by rw [List.perm_iff_count]; intro a; (try simp only [List.count_append, List.count_cons, List.count_nil, Nat.add_zero, Nat.zero_add]); first | done | ac_rfl)
         have hc743 := hc738.perm hp742
         refine L_pu (P_assign (.slice A733 n734 c735) rfl) ?_
         refine L_pu (P_assign (vb false) rfl) ?_
         refine L_nil ?_
         refine W_ret ?_
         have hc744 := hc743.drop 1 rfl
         have hp745 : ((blk (.slice A733 n734 c735) :: blk (.slice A258 n259 c260) :: blk (.slice A112 n222 c114) :: (q263 ++ (([] : Ob) ++ []))) : Ob).Perm ((blk (.slice A258 n259 c260) :: (q263 ++ [])) ++ (blk (.slice A733 n734 c735) :: blk (.slice A112 n222 c114) :: (([] : Ob) ++ []))) := (by rw [List.perm_iff_count]; intro a; (try simp only [List.count_append, List.count_cons, List.count_nil, Nat.add_zero, Nat.zero_add]); first | done | ac_rfl)
         have hc746 := hc744.drops hp745
         have hc747 := hc746.drop 1 rfl
         have h748 := (Ow.sd (L := (blk (.slice A733 n734 c735) :: blk (.slice A112 n222 c114) :: (([] : Ob) ++ []))) (O := O) (Ow.drops (L := (blk (.slice A733 n734 c735) :: blk (.slice A258 n259 c260) :: blk (.slice A112 n222 c114) :: (q263 ++ (([] : Ob) ++ [])))) (O := O) (Ow.sd (L := (blk (.slice A733 n734 c735) :: some b304 :: blk (.slice A258 n259 c260) :: blk (.slice A112 n222 c114) :: (q263 ++ (([] : Ob) ++ [])))) (O := O) (Ow.sp (L := (blk (.slice A733 n734 c735) :: some b304 :: blk (.slice A258 n259 c260) :: blk (.slice A112 n222 c114) :: (q263 ++ []))) (O := O) h739 hp742) (i := 0) rfl (j := 1) rfl (by decide)) hp745 (memi 0 rfl)) (i := 0) rfl (j := 1) rfl (by decide))
         have hd749 := (hd740.k0 g736)
         exact ⟨[.slice A733 n734 c735, vb false], ⟨_, rfl, ⟨_, rfl, rfl⟩⟩, ([] : List Change), false, A733, n734, c735, ([] : Ob), ([] : List (List Value)), rfl, H, hc747.gr.g0, hc747.ok, hc747.ge, h748, hd749⟩
        ·have H := ite_f H hq731
         refine W_skip ?_
         refine W_tail 22 (by kernel_rfl) (by kernel_rfl) fun w750 g751 => ?_
         have hc752 := hc730.k0 g751
         refine S_pu (P_move (vs (nth r4 v4)) rfl) ?_
         refine S_pu (P_move (.slice A1 n2 c3) rfl) ?_
         refine S_pu (P_move (vi r5) rfl) ?_
         obtain ⟨hb753, H⟩ := H
         have h760 := ((h582.st (.new _ g728)).st (.new _ g751))
         obtain ⟨ad754, cs755, hA756, hS759, hR757, hcl758⟩ := h760.get default (by decide) r5 hb753
         obtain ⟨A763, n764, c765, A768, n769, c770, A774, n775, c776, A779, n780, c781, rfl, hs761, hs762, h766, h771, hs773, h777, h782⟩ := kChange.op hR757
         refine S_pu (P_ia Try.underlying43 se43 A1 ad754 n2 c3 h760.len r5 rfl hA756 rfl hb753) ?_
         refine S_pu (P_fa fa103_1 (ad754.add (r5.toNat * 11)) ((ad754.add (r5.toNat * 11)).add 1) rfl rfl) ?_
         refine S_pu (P_ld ag4 cL ((ad754.add (r5.toNat * 11)).add 1) (vb ((nth a r5).Had)) rfl (hcl758 1 _ rfl)) ?_
         refine S_pu (P_move (.slice A1 n2 c3) rfl) ?_
         refine S_pu (P_move (vi r5) rfl) ?_
         obtain ⟨hb784, H⟩ := H
         obtain ⟨ad785, cs786, hA787, hS790, hR788, hcl789⟩ := h760.get default (by decide) r5 hb784
         obtain ⟨A793, n794, c795, A798, n799, c800, A804, n805, c806, A809, n810, c811, rfl, hs791, hs792, h796, h801, hs803, h807, h812⟩ := kChange.op hR788
         refine S_pu (P_ia Try.underlying43 se43 A1 ad785 n2 c3 h760.len r5 rfl hA787 rfl hb784) ?_
         refine S_pu (P_fa fa103_2 (ad785.add (r5.toNat * 11)) ((ad785.add (r5.toNat * 11)).add 2) rfl rfl) ?_
         refine S_pu (P_lda ag71 sz71 cL ((ad785.add (r5.toNat * 11)).add 2) [vs ((nth a r5).Was.Id), vi ((nth a r5).Was.Shape.Kind), .slice A793 n794 c795, .slice A798 n799 c800] rfl rfl (sub_cells (off := 2) hcl789 rfl)) ?_
         refine S_pu (P_move (.slice A6 n7 c8) rfl) ?_
         refine S_pu (P_move (vi r6) rfl) ?_
         obtain ⟨hb814, H⟩ := H
         have h821 := ((h613.st (.new _ g728)).st (.new _ g751))
         obtain ⟨ad815, cs816, hA817, hS820, hR818, hcl819⟩ := h821.get default (by decide) r6 hb814
         obtain ⟨A824, n825, c826, A829, n830, c831, A835, n836, c837, A840, n841, c842, rfl, hs822, hs823, h827, h832, hs834, h838, h843⟩ := kChange.op hR818
         refine S_pu (P_ia Try.underlying43 se43 A6 ad815 n7 c8 h821.len r6 rfl hA817 rfl hb814) ?_
         refine S_pu (P_fa fa103_3 (ad815.add (r6.toNat * 11)) ((ad815.add (r6.toNat * 11)).add 6) rfl rfl) ?_
         refine S_pu (P_ld ag4 cL ((ad815.add (r6.toNat * 11)).add 6) (vb ((nth b r6).Has)) rfl (hcl819 6 _ rfl)) ?_
         refine S_pu (P_move (.slice A6 n7 c8) rfl) ?_
         refine S_pu (P_move (vi r6) rfl) ?_
         obtain ⟨hb845, H⟩ := H
         obtain ⟨ad846, cs847, hA848, hS851, hR849, hcl850⟩ := h821.get default (by decide) r6 hb845
         obtain ⟨A854, n855, c856, A859, n860, c861, A865, n866, c867, A870, n871, c872, rfl, hs852, hs853, h857, h862, hs864, h868, h873⟩ := kChange.op hR849
         refine S_pu (P_ia Try.underlying43 se43 A6 ad846 n7 c8 h821.len r6 rfl hA848 rfl hb845) ?_
         refine S_pu (P_fa fa103_4 (ad846.add (r6.toNat * 11)) ((ad846.add (r6.toNat * 11)).add 7) rfl rfl) ?_
         refine S_pu (P_lda ag71 sz71 cL ((ad846.add (r6.toNat * 11)).add 7) [vs ((nth b r6).Now.Id), vi ((nth b r6).Now.Shape.Kind), .slice A865 n866 c867, .slice A870 n871 c872] rfl rfl (sub_cells (off := 7) hcl850 rfl)) ?_
         refine S_pu (P_build (.agg #[vs (nth r4 v4), vb ((nth a r5).Had), vs ((nth a r5).Was.Id), vi ((nth a r5).Was.Shape.Kind), .slice A793 n794 c795, .slice A798 n799 c800, vb ((nth b r6).Has), vs ((nth b r6).Now.Id), vi ((nth b r6).Now.Shape.Kind), .slice A865 n866 c867, .slice A870 n871 c872]) (fun _ => by kernel_rfl)) ?_
         refine S_nil ?_
         have h878 := ((hx313.k0 g728).k0 g751)
         refine L_stb b304 0 [vs ([] : Str), vb false, vs ([] : Str), vi 0, .slice none 0 0, .slice none 0 0, vb false, vs ([] : Str), vi 0, .slice none 0 0, .slice none 0 0] [vs (nth r4 v4), vb ((nth a r5).Had), vs ((nth a r5).Was.Id), vi ((nth a r5).Was.Shape.Kind), .slice A793 n794 c795, .slice A798 n799 c800, vb ((nth b r6).Has), vs ((nth b r6).Now.Id), vi ((nth b r6).Now.Shape.Kind), .slice A865 n866 c867, .slice A870 n871 c872] [vs (nth r4 v4), vb ((nth a r5).Had), vs ((nth a r5).Was.Id), vi ((nth a r5).Was.Shape.Kind), .slice A793 n794 c795, .slice A798 n799 c800, vb ((nth b r6).Has), vs ((nth b r6).Now.Id), vi ((nth b r6).Now.Shape.Kind), .slice A865 n866 c867, .slice A870 n871 c872] rfl h878 rfl sz103 rfl rfl rfl fun w875 g876 hx877 => ?_
         have hc879 := hc752.wr 0 rfl g876
         refine L_nil ?_
         refine W_seq ?_
         refine W_reg ?_
         refine L_pu (P_lda ag103 sz103 cL ⟨b304, 0, none⟩ [vs (nth r4 v4), vb ((nth a r5).Had), vs ((nth a r5).Was.Id), vi ((nth a r5).Was.Shape.Kind), .slice A793 n794 c795, .slice A798 n799 c800, vb ((nth b r6).Has), vs ((nth b r6).Now.Id), vi ((nth b r6).Now.Shape.Kind), .slice A865 n866 c867, .slice A870 n871 c872] rfl rfl (hx877.cells (off := 0) rfl)) ?_
         have h880 := (h796.st (.wl (L := (some b304 :: blk (.slice A258 n259 c260) :: blk (.slice A112 n222 c114) :: (q263 ++ []))) (O := O) (j := 0) rfl g876))
         have h881 := (h801.st (.wl (L := (some b304 :: blk (.slice A258 n259 c260) :: blk (.slice A112 n222 c114) :: (q263 ++ []))) (O := O) (j := 0) rfl g876))
         have h882 := (h868.st (.wl (L := (some b304 :: blk (.slice A258 n259 c260) :: blk (.slice A112 n222 c114) :: (q263 ++ []))) (O := O) (j := 0) rfl g876))
         have h883 := (h873.st (.wl (L := (some b304 :: blk (.slice A258 n259 c260) :: blk (.slice A112 n222 c114) :: (q263 ++ []))) (O := O) (j := 0) rfl g876))
         refine L_call go77 [.agg #[vs (nth r4 v4), vb ((nth a r5).Had), vs ((nth a r5).Was.Id), vi ((nth a r5).Was.Shape.Kind), .slice A793 n794 c795, .slice A798 n799 c800, vb ((nth b r6).Has), vs ((nth b r6).Now.Id), vi ((nth b r6).Now.Shape.Kind), .slice A865 n866 c867, .slice A870 n871 c872]] rfl ((impl_Change_same.calls w875 hc879.ok (⟨(nth r4 v4), (nth a r5).Had, (nth a r5).Was, (nth b r6).Has, (nth b r6).Now⟩ : Change) A793 n794 c795 A798 n799 c800 A865 n866 c867 A870 n871 c872 hs290 hs792 h880 h881 hs864 h882 h883 _ H).mono ?_)
         rintro _ w884 ⟨r12, rfl, H, g885⟩
         have hc889 := hc879.k0 g885
         refine L_pu (P_not r12 rfl) ?_
         refine L_nil ?_
         refine W_cond (!r12) rfl (fun hq890 => ?_) (fun hq890 => ?_)
         ·have H := ite_t H hq890
          refine W_reg ?_
          refine L_pu (P_move (.slice A258 n259 c260) rfl) ?_
          have h891 := (hx877.k0 g885)
          refine L_pu (P_lda ag103 sz103 cL ⟨b304, 0, none⟩ [vs (nth r4 v4), vb ((nth a r5).Had), vs ((nth a r5).Was.Id), vi ((nth a r5).Was.Shape.Kind), .slice A793 n794 c795, .slice A798 n799 c800, vb ((nth b r6).Has), vs ((nth b r6).Now.Id), vi ((nth b r6).Now.Shape.Kind), .slice A865 n866 c867, .slice A870 n871 c872] rfl rfl (h891.cells (off := 0) rfl)) ?_
          refine L_call go65 [.agg #[vs (nth r4 v4), vb ((nth a r5).Had), vs ((nth a r5).Was.Id), vi ((nth a r5).Was.Shape.Kind), .slice A793 n794 c795, .slice A798 n799 c800, vb ((nth b r6).Has), vs ((nth b r6).Now.Id), vi ((nth b r6).Now.Shape.Kind), .slice A865 n866 c867, .slice A870 n871 c872]] rfl ((impl_cloneChange.calls w884 hc889.ok (⟨(nth r4 v4), (nth a r5).Had, (nth a r5).Was, (nth b r6).Has, (nth b r6).Now⟩ : Change) A793 n794 c795 A798 n799 c800 A865 n866 c867 A870 n871 c872 hs290 hs792 (h880.st (.new _ g885)) (h881.st (.new _ g885)) hs864 (h882.st (.new _ g885)) (h883.st (.new _ g885)) _ H).mono ?_)
          rintro _ w892 ⟨r13, A896, n897, c898, A901, n902, c903, A907, n908, c909, A912, n913, c914, rfl, H, g893, hk918, hk919, hs894, hs895, h899, h904, hs906, h910, h915⟩
          have hc920 := hc889.owns g893 hk918 hk919
          have hd921 : (dChange_103).D w892 ([] ++ ([] ++ (([] ++ (([] ++ [blk (.slice A896 n897 c898)]) ++ [blk (.slice A901 n902 c903)])) ++ ([] ++ ([] ++ (([] ++ [blk (.slice A907 n908 c909)]) ++ [blk (.slice A912 n913 c914)])))))) r13 [vs r13.Id, vb r13.Had, vs r13.Was.Id, vi r13.Was.Shape.Kind, .slice A896 n897 c898, .slice A901 n902 c903, vb r13.Has, vs r13.Now.Id, vi r13.Now.Shape.Kind, .slice A907 n908 c909, .slice A912 n913 c914] := (dChange_103.mk _ r13 hs894 hs895 (Ds.ofOw kPt_flat h899) (Ds.ofOw kTag_flat h904) hs906 (Ds.ofOw kPt_flat h910) (Ds.ofOw kTag_flat h915))
          have hd930 : DArr dChange_103 w892 (([] ++ ([] ++ (([] ++ (([] ++ [blk (.slice A896 n897 c898)]) ++ [blk (.slice A901 n902 c903)])) ++ ([] ++ ([] ++ (([] ++ [blk (.slice A907 n908 c909)]) ++ [blk (.slice A912 n913 c914)])))))) ++ []) ([r13] : List Change) ([[vs r13.Id, vb r13.Had, vs r13.Was.Id, vi r13.Was.Shape.Kind, .slice A896 n897 c898, .slice A901 n902 c903, vb r13.Has, vs r13.Now.Id, vi r13.Now.Shape.Kind, .slice A907 n908 c909, .slice A912 n913 c914]] : List (List Value)) := ⟨_, _, rfl, hd921, rfl⟩
          refine L_lit (kd := Kd.cells 11) ei43 hc920 ([[vs r13.Id, vb r13.Had, vs r13.Was.Id, vi r13.Was.Shape.Kind, .slice A896 n897 c898, .slice A901 n902 c903, vb r13.Has, vs r13.Now.Id, vi r13.Now.Shape.Kind, .slice A907 n908 c909, .slice A912 n913 c914]] : List (List Value)) (cells := [vs r13.Id, vb r13.Had, vs r13.Was.Id, vi r13.Was.Shape.Kind, .slice A896 n897 c898, .slice A901 n902 c903, vb r13.Has, vs r13.Now.Id, vi r13.Now.Shape.Kind, .slice A907 n908 c909, .slice A912 n913 c914]) ⟨[vs r13.Id, vb r13.Had, vs r13.Was.Id, vi r13.Was.Shape.Kind, .slice A896 n897 c898, .slice A901 n902 c903, vb r13.Has, vs r13.Now.Id, vi r13.Now.Shape.Kind, .slice A907 n908 c909, .slice A912 n913 c914], _, rfl, Dd.raw _ hd921, rfl⟩ (fun _ => by kernel_rfl) fun w922 A923 n924 c925 g926 hr927 hc928 h929 => ?_
          have hp932 : ((blk (.slice A923 n924 c925) :: blk (.slice A896 n897 c898) :: blk (.slice A901 n902 c903) :: blk (.slice A907 n908 c909) :: blk (.slice A912 n913 c914) :: some b304 :: blk (.slice A258 n259 c260) :: blk (.slice A112 n222 c114) :: (q263 ++ [])) : Ob).Perm (blk (.slice A923 n924 c925) :: some b304 :: blk (.slice A258 n259 c260) :: blk (.slice A112 n222 c114) :: (q263 ++ ((([] ++ ([] ++ (([] ++ (([] ++ [blk (.slice A896 n897 c898)]) ++ [blk (.slice A901 n902 c903)])) ++ ([] ++ ([] ++ (([] ++ [blk (.slice A907 n908 c909)]) ++ [blk (.slice A912 n913 c914)])))))) ++ []) ++ []))) := (by rw [List.perm_iff_count]; intro a; (try simp only [List.count_append, List.count_cons, List.count_nil, Nat.add_zero, Nat.zero_add]); first | done | ac_rfl)
          have hc933 := hc928.perm hp932
          obtain ⟨hb934, H⟩ := H
          have h935 := (Ow.sp (L := (blk (.slice A923 n924 c925) :: blk (.slice A896 n897 c898) :: blk (.slice A901 n902 c903) :: blk (.slice A907 n908 c909) :: blk (.slice A912 n913 c914) :: some b304 :: blk (.slice A258 n259 c260) :: blk (.slice A112 n222 c114) :: (q263 ++ []))) (O := O) ((((Ow.sw (L := (some b304 :: blk (.slice A258 n259 c260) :: blk (.slice A112 n222 c114) :: (q263 ++ []))) (O := O) (((Ow.sw (L := (some b304 :: blk (.slice A258 n259 c260) :: blk (.slice A112 n222 c114) :: (q263 ++ []))) (O := O) (((h268.sn g292).sn g298).so _ g305 (oge hl306)) hc310 (i := 1) rfl (j := 0) rfl (by decide) g312).sn g728).sn g751) hc752 (i := 1) rfl (j := 0) rfl (by decide) g876).sn g885).sos g893 hk919).so _ g926 hr927) hp932)
          have h936 := (Ow.sp (L := (blk (.slice A923 n924 c925) :: blk (.slice A896 n897 c898) :: blk (.slice A901 n902 c903) :: blk (.slice A907 n908 c909) :: blk (.slice A912 n913 c914) :: some b304 :: blk (.slice A258 n259 c260) :: blk (.slice A112 n222 c114) :: (q263 ++ []))) (O := O) h929 hp932)
          have hd937 := ((((DArr.sm (L := (some b304 :: blk (.slice A258 n259 c260) :: blk (.slice A112 n222 c114) :: (q263 ++ []))) (O := O) (i := 0) (((DArr.sm (L := (some b304 :: blk (.slice A258 n259 c260) :: blk (.slice A112 n222 c114) :: (q263 ++ []))) (O := O) (i := 0) (((hd269.k0 g292).k0 g298).k0 g305) hc310 rfl (fun b hb => (List.mem_cons_of_mem _ (List.mem_cons_of_mem _ (List.mem_append_left _ hb)))) g312).k0 g728).k0 g751) hc752 rfl (fun b hb => (List.mem_cons_of_mem _ (List.mem_cons_of_mem _ (List.mem_append_left _ hb)))) g876).k0 g885).k0 g893).k0 g926)
          have hd938 := (hd930.k0 g926)
          have hn939 : ra262.length + ([[vs r13.Id, vb r13.Had, vs r13.Was.Id, vi r13.Was.Shape.Kind, .slice A896 n897 c898, .slice A901 n902 c903, vb r13.Has, vs r13.Now.Id, vi r13.Now.Shape.Kind, .slice A907 n908 c909, .slice A912 n913 c914]] : List (List Value)).length ≤ 268435456 := by rw [hd937.len, hd938.len]; exact hb934
          refine L_app (kd := Kd.cells 11) ei43 hc933 (.slice A258 n259 c260) ra262 ([[vs r13.Id, vb r13.Had, vs r13.Was.Id, vi r13.Was.Shape.Kind, .slice A896 n897 c898, .slice A901 n902 c903, vb r13.Has, vs r13.Now.Id, vi r13.Now.Shape.Kind, .slice A907 n908 c909, .slice A912 n913 c914]] : List (List Value)) rfl h935 (.slice A923 n924 c925) rfl h936.sx 2 rfl hn939 fun w940 A941 n942 c943 g944 s945 hc946 h947 => ?_
          have hd948 := (DArr.sm (L := (blk (.slice A923 n924 c925) :: some b304 :: blk (.slice A258 n259 c260) :: blk (.slice A112 n222 c114) :: (q263 ++ ((([] ++ ([] ++ (([] ++ (([] ++ [blk (.slice A896 n897 c898)]) ++ [blk (.slice A901 n902 c903)])) ++ ([] ++ ([] ++ (([] ++ [blk (.slice A907 n908 c909)]) ++ [blk (.slice A912 n913 c914)])))))) ++ []) ++ [])))) (O := O) (i := 2) hd937 hc933 rfl (fun b hb => (List.mem_cons_of_mem _ (List.mem_append_left _ hb))) g944)
          have hd949 := (DArr.sm (L := (blk (.slice A923 n924 c925) :: some b304 :: blk (.slice A258 n259 c260) :: blk (.slice A112 n222 c114) :: (q263 ++ ((([] ++ ([] ++ (([] ++ (([] ++ [blk (.slice A896 n897 c898)]) ++ [blk (.slice A901 n902 c903)])) ++ ([] ++ ([] ++ (([] ++ [blk (.slice A907 n908 c909)]) ++ [blk (.slice A912 n913 c914)])))))) ++ []) ++ [])))) (O := O) (i := 2) hd938 hc933 rfl (fun b hb => (List.mem_cons_of_mem _ (List.mem_append_right _ (List.mem_append_left _ hb)))) g944)
          have hd951 := DArr.app hd948 hd949
          have hp952 : ((blk (.slice A923 n924 c925) :: some b304 :: blk (.slice A941 n942 c943) :: blk (.slice A112 n222 c114) :: (q263 ++ ((([] ++ ([] ++ (([] ++ (([] ++ [blk (.slice A896 n897 c898)]) ++ [blk (.slice A901 n902 c903)])) ++ ([] ++ ([] ++ (([] ++ [blk (.slice A907 n908 c909)]) ++ [blk (.slice A912 n913 c914)])))))) ++ []) ++ []))) : Ob).Perm ((blk (.slice A923 n924 c925) :: []) ++ (some b304 :: blk (.slice A941 n942 c943) :: blk (.slice A112 n222 c114) :: (q263 ++ ((([] ++ ([] ++ (([] ++ (([] ++ [blk (.slice A896 n897 c898)]) ++ [blk (.slice A901 n902 c903)])) ++ ([] ++ ([] ++ (([] ++ [blk (.slice A907 n908 c909)]) ++ [blk (.slice A912 n913 c914)])))))) ++ []) ++ [])))) := (by rw [List.perm_iff_count]; intro a; (try simp only [List.count_append, List.count_cons, List.count_nil, Nat.add_zero, Nat.zero_add]); first | done | ac_rfl)
          have hc953 := hc946.drops hp952
          have hp954 : ((some b304 :: blk (.slice A941 n942 c943) :: blk (.slice A112 n222 c114) :: (q263 ++ ((([] ++ ([] ++ (([] ++ (([] ++ [blk (.slice A896 n897 c898)]) ++ [blk (.slice A901 n902 c903)])) ++ ([] ++ ([] ++ (([] ++ [blk (.slice A907 n908 c909)]) ++ [blk (.slice A912 n913 c914)])))))) ++ []) ++ []))) : Ob).Perm (some b304 :: blk (.slice A941 n942 c943) :: blk (.slice A112 n222 c114) :: ((q263 ++ (([] ++ ([] ++ (([] ++ (([] ++ [blk (.slice A896 n897 c898)]) ++ [blk (.slice A901 n902 c903)])) ++ ([] ++ ([] ++ (([] ++ [blk (.slice A907 n908 c909)]) ++ [blk (.slice A912 n913 c914)])))))) ++ [])) ++ [])) := (by rw [List.perm_iff_count]; intro a; (try simp only [List.count_append, List.count_cons, List.count_nil, Nat.add_zero, Nat.zero_add]); first | done | ac_rfl)
          have hc955 := hc953.perm hp954
          refine L_pu (P_assign (.slice A941 n942 c943) rfl) ?_
          refine L_nil ?_
          refine W_reg ?_
          obtain ⟨hb956, H⟩ := H
          refine L_pu (P_add v4 1 rfl rfl hb956) ?_
          refine L_pu (P_move (vi (v4 + 1)) rfl) ?_
          refine L_nil ?_
          have hc957 := hc955.drop 0 rfl
          obtain ⟨hI958, hm959⟩ := H
          have h960 := (((((((((h760.st (.wl (L := (some b304 :: blk (.slice A258 n259 c260) :: blk (.slice A112 n222 c114) :: (q263 ++ []))) (O := O) (j := 0) rfl g876)).st (.new _ g885)).st (.owns _ g893 hk919)).st (.own _ _ g926 hr927)).st (.perm (L := (blk (.slice A923 n924 c925) :: blk (.slice A896 n897 c898) :: blk (.slice A901 n902 c903) :: blk (.slice A907 n908 c909) :: blk (.slice A912 n913 c914) :: some b304 :: blk (.slice A258 n259 c260) :: blk (.slice A112 n222 c114) :: (q263 ++ []))) (O := O) hp932)).st s945).st (St.drops _ O hp952)).st (.perm (L := (some b304 :: blk (.slice A941 n942 c943) :: blk (.slice A112 n222 c114) :: (q263 ++ ((([] ++ ([] ++ (([] ++ (([] ++ [blk (.slice A896 n897 c898)]) ++ [blk (.slice A901 n902 c903)])) ++ ([] ++ ([] ++ (([] ++ [blk (.slice A907 n908 c909)]) ++ [blk (.slice A912 n913 c914)])))))) ++ []) ++ [])))) (O := O) hp954)).st (.dr _ (L := (some b304 :: blk (.slice A941 n942 c943) :: blk (.slice A112 n222 c114) :: ((q263 ++ (([] ++ ([] ++ (([] ++ (([] ++ [blk (.slice A896 n897 c898)]) ++ [blk (.slice A901 n902 c903)])) ++ ([] ++ ([] ++ (([] ++ [blk (.slice A907 n908 c909)]) ++ [blk (.slice A912 n913 c914)])))))) ++ [])) ++ []))) (O := O) (j := 0) rfl))
          have h961 := (((((((((h821.st (.wl (L := (some b304 :: blk (.slice A258 n259 c260) :: blk (.slice A112 n222 c114) :: (q263 ++ []))) (O := O) (j := 0) rfl g876)).st (.new _ g885)).st (.owns _ g893 hk919)).st (.own _ _ g926 hr927)).st (.perm (L := (blk (.slice A923 n924 c925) :: blk (.slice A896 n897 c898) :: blk (.slice A901 n902 c903) :: blk (.slice A907 n908 c909) :: blk (.slice A912 n913 c914) :: some b304 :: blk (.slice A258 n259 c260) :: blk (.slice A112 n222 c114) :: (q263 ++ []))) (O := O) hp932)).st s945).st (St.drops _ O hp952)).st (.perm (L := (some b304 :: blk (.slice A941 n942 c943) :: blk (.slice A112 n222 c114) :: (q263 ++ ((([] ++ ([] ++ (([] ++ (([] ++ [blk (.slice A896 n897 c898)]) ++ [blk (.slice A901 n902 c903)])) ++ ([] ++ ([] ++ (([] ++ [blk (.slice A907 n908 c909)]) ++ [blk (.slice A912 n913 c914)])))))) ++ []) ++ [])))) (O := O) hp954)).st (.dr _ (L := (some b304 :: blk (.slice A941 n942 c943) :: blk (.slice A112 n222 c114) :: ((q263 ++ (([] ++ ([] ++ (([] ++ (([] ++ [blk (.slice A896 n897 c898)]) ++ [blk (.slice A901 n902 c903)])) ++ ([] ++ ([] ++ (([] ++ [blk (.slice A907 n908 c909)]) ++ [blk (.slice A912 n913 c914)])))))) ++ [])) ++ []))) (O := O) (j := 0) rfl))
          have h962 := (Ow.sd (L := (some b304 :: blk (.slice A941 n942 c943) :: blk (.slice A112 n222 c114) :: ((q263 ++ (([] ++ ([] ++ (([] ++ (([] ++ [blk (.slice A896 n897 c898)]) ++ [blk (.slice A901 n902 c903)])) ++ ([] ++ ([] ++ (([] ++ [blk (.slice A907 n908 c909)]) ++ [blk (.slice A912 n913 c914)])))))) ++ [])) ++ []))) (O := O) (Ow.sp (L := (some b304 :: blk (.slice A941 n942 c943) :: blk (.slice A112 n222 c114) :: (q263 ++ ((([] ++ ([] ++ (([] ++ (([] ++ [blk (.slice A896 n897 c898)]) ++ [blk (.slice A901 n902 c903)])) ++ ([] ++ ([] ++ (([] ++ [blk (.slice A907 n908 c909)]) ++ [blk (.slice A912 n913 c914)])))))) ++ []) ++ [])))) (O := O) (Ow.drops (L := (blk (.slice A923 n924 c925) :: some b304 :: blk (.slice A941 n942 c943) :: blk (.slice A112 n222 c114) :: (q263 ++ ((([] ++ ([] ++ (([] ++ (([] ++ [blk (.slice A896 n897 c898)]) ++ [blk (.slice A901 n902 c903)])) ++ ([] ++ ([] ++ (([] ++ [blk (.slice A907 n908 c909)]) ++ [blk (.slice A912 n913 c914)])))))) ++ []) ++ [])))) (O := O) h947 hp952 (memi 1 rfl)) hp954) (i := 1) rfl (j := 0) rfl (by decide))
          have hd963 := hd951
          have h964 := (Ow.sd (L := (some b304 :: blk (.slice A941 n942 c943) :: blk (.slice A112 n222 c114) :: ((q263 ++ (([] ++ ([] ++ (([] ++ (([] ++ [blk (.slice A896 n897 c898)]) ++ [blk (.slice A901 n902 c903)])) ++ ([] ++ ([] ++ (([] ++ [blk (.slice A907 n908 c909)]) ++ [blk (.slice A912 n913 c914)])))))) ++ [])) ++ []))) (O := O) (Ow.sp (L := (some b304 :: blk (.slice A941 n942 c943) :: blk (.slice A112 n222 c114) :: (q263 ++ ((([] ++ ([] ++ (([] ++ (([] ++ [blk (.slice A896 n897 c898)]) ++ [blk (.slice A901 n902 c903)])) ++ ([] ++ ([] ++ (([] ++ [blk (.slice A907 n908 c909)]) ++ [blk (.slice A912 n913 c914)])))))) ++ []) ++ [])))) (O := O) (Ow.drops (L := (blk (.slice A923 n924 c925) :: some b304 :: blk (.slice A941 n942 c943) :: blk (.slice A112 n222 c114) :: (q263 ++ ((([] ++ ([] ++ (([] ++ (([] ++ [blk (.slice A896 n897 c898)]) ++ [blk (.slice A901 n902 c903)])) ++ ([] ++ ([] ++ (([] ++ [blk (.slice A907 n908 c909)]) ++ [blk (.slice A912 n913 c914)])))))) ++ []) ++ [])))) (O := O) (Ow.sm (L := (blk (.slice A923 n924 c925) :: some b304 :: blk (.slice A258 n259 c260) :: blk (.slice A112 n222 c114) :: (q263 ++ ((([] ++ ([] ++ (([] ++ (([] ++ [blk (.slice A896 n897 c898)]) ++ [blk (.slice A901 n902 c903)])) ++ ([] ++ ([] ++ (([] ++ [blk (.slice A907 n908 c909)]) ++ [blk (.slice A912 n913 c914)])))))) ++ []) ++ [])))) (O := O) (Ow.sp (L := (blk (.slice A923 n924 c925) :: blk (.slice A896 n897 c898) :: blk (.slice A901 n902 c903) :: blk (.slice A907 n908 c909) :: blk (.slice A912 n913 c914) :: some b304 :: blk (.slice A258 n259 c260) :: blk (.slice A112 n222 c114) :: (q263 ++ []))) (O := O) ((((Ow.sw (L := (some b304 :: blk (.slice A258 n259 c260) :: blk (.slice A112 n222 c114) :: (q263 ++ []))) (O := O) (((Ow.sw (L := (some b304 :: blk (.slice A258 n259 c260) :: blk (.slice A112 n222 c114) :: (q263 ++ []))) (O := O) (((h270.sn g292).sn g298).so _ g305 (oge hl306)) hc310 (i := 2) rfl (j := 0) rfl (by decide) g312).sn g728).sn g751) hc752 (i := 2) rfl (j := 0) rfl (by decide) g876).sn g885).sos g893 hk919).so _ g926 hr927) hp932) hc933 (i := 3) rfl (j := 2) rfl (by decide) g944 s945) hp952 (memi 2 rfl)) hp954) (i := 2) rfl (j := 0) rfl (by decide))
          exact ⟨((xs4 ++ ([r13] : List Change)), (ra262 ++ ([[vs r13.Id, vb r13.Had, vs r13.Was.Id, vi r13.Was.Shape.Kind, .slice A896 n897 c898, .slice A901 n902 c903, vb r13.Has, vs r13.Now.Id, vi r13.Now.Shape.Kind, .slice A907 n908 c909, .slice A912 n913 c914]] : List (List Value))), (q263 ++ (([] ++ ([] ++ (([] ++ (([] ++ [blk (.slice A896 n897 c898)]) ++ [blk (.slice A901 n902 c903)])) ++ ([] ++ ([] ++ (([] ++ [blk (.slice A907 n908 c909)]) ++ [blk (.slice A912 n913 c914)])))))) ++ [])), A941, n942, c943, v4 + 1), hm959, hI958, ⟨rfl, rfl, rfl, rfl, rfl, rfl, trivial⟩, hc957, h960, h961, h962, hd963, h964⟩
         ·have H := ite_f H hq890
          refine W_skip ?_
          refine W_reg ?_
          obtain ⟨hb965, H⟩ := H
          refine L_pu (P_add v4 1 rfl rfl hb965) ?_
          refine L_pu (P_move (vi (v4 + 1)) rfl) ?_
          refine L_nil ?_
          have hc966 := hc889.drop 0 rfl
          obtain ⟨hI967, hm968⟩ := H
          have h969 := (((h760.st (.wl (L := (some b304 :: blk (.slice A258 n259 c260) :: blk (.slice A112 n222 c114) :: (q263 ++ []))) (O := O) (j := 0) rfl g876)).st (.new _ g885)).st (.dr _ (L := (some b304 :: blk (.slice A258 n259 c260) :: blk (.slice A112 n222 c114) :: (q263 ++ []))) (O := O) (j := 0) rfl))
          have h970 := (((h821.st (.wl (L := (some b304 :: blk (.slice A258 n259 c260) :: blk (.slice A112 n222 c114) :: (q263 ++ []))) (O := O) (j := 0) rfl g876)).st (.new _ g885)).st (.dr _ (L := (some b304 :: blk (.slice A258 n259 c260) :: blk (.slice A112 n222 c114) :: (q263 ++ []))) (O := O) (j := 0) rfl))
          have h971 := (Ow.sd (L := (some b304 :: blk (.slice A258 n259 c260) :: blk (.slice A112 n222 c114) :: (q263 ++ []))) (O := O) ((Ow.sw (L := (some b304 :: blk (.slice A258 n259 c260) :: blk (.slice A112 n222 c114) :: (q263 ++ []))) (O := O) (((Ow.sw (L := (some b304 :: blk (.slice A258 n259 c260) :: blk (.slice A112 n222 c114) :: (q263 ++ []))) (O := O) (((h268.sn g292).sn g298).so _ g305 (oge hl306)) hc310 (i := 1) rfl (j := 0) rfl (by decide) g312).sn g728).sn g751) hc752 (i := 1) rfl (j := 0) rfl (by decide) g876).sn g885) (i := 1) rfl (j := 0) rfl (by decide))
          have hd972 := ((DArr.sm (L := (some b304 :: blk (.slice A258 n259 c260) :: blk (.slice A112 n222 c114) :: (q263 ++ []))) (O := O) (i := 0) (((DArr.sm (L := (some b304 :: blk (.slice A258 n259 c260) :: blk (.slice A112 n222 c114) :: (q263 ++ []))) (O := O) (i := 0) (((hd269.k0 g292).k0 g298).k0 g305) hc310 rfl (fun b hb => (List.mem_cons_of_mem _ (List.mem_cons_of_mem _ (List.mem_append_left _ hb)))) g312).k0 g728).k0 g751) hc752 rfl (fun b hb => (List.mem_cons_of_mem _ (List.mem_cons_of_mem _ (List.mem_append_left _ hb)))) g876).k0 g885)
          have h973 := (Ow.sd (L := (some b304 :: blk (.slice A258 n259 c260) :: blk (.slice A112 n222 c114) :: (q263 ++ []))) (O := O) ((Ow.sw (L := (some b304 :: blk (.slice A258 n259 c260) :: blk (.slice A112 n222 c114) :: (q263 ++ []))) (O := O) (((Ow.sw (L := (some b304 :: blk (.slice A258 n259 c260) :: blk (.slice A112 n222 c114) :: (q263 ++ []))) (O := O) (((h270.sn g292).sn g298).so _ g305 (oge hl306)) hc310 (i := 2) rfl (j := 0) rfl (by decide) g312).sn g728).sn g751) hc752 (i := 2) rfl (j := 0) rfl (by decide) g876).sn g885) (i := 2) rfl (j := 0) rfl (by decide))
          exact ⟨(xs4, ra262, q263, A258, n259, c260, v4 + 1), hm968, hI967, ⟨rfl, rfl, rfl, rfl, rfl, rfl, trivial⟩, hc966, h969, h970, h971, hd972, h973⟩
    ·have H := ite_f H hq282
     refine W_exit (xin_hit ?_)
     refine W_seq ?_
     refine W_seq ?_
     refine W_reg ?_
     refine L_pu (P_move (.slice A258 n259 c260) rfl) ?_
     have hp977 : ((blk (.slice A258 n259 c260) :: blk (.slice A112 n222 c114) :: (q263 ++ [])) : Ob).Perm (blk (.slice A258 n259 c260) :: (q263 ++ [blk (.slice A112 n222 c114)])) := (by rw [List.perm_iff_count]; intro a; (try simp only [List.count_append, List.count_cons, List.count_nil, Nat.add_zero, Nat.zero_add]); first | done | ac_rfl)
     obtain ⟨h974, hc975, s976⟩ := Dp.gv (L := (blk (.slice A258 n259 c260) :: blk (.slice A112 n222 c114) :: (q263 ++ []))) (O := O) h268 hd269 hc265 hp977
     refine L_call go64 [.slice A258 n259 c260] rfl ((impl_DiffOk.calls w255 hc975.ok xs4 A258 n259 c260 h974 _ H).mono ?_)
     rintro _ w980 ⟨r14, rfl, H, g981⟩
     have hc985 := hc265.k0 g981
     refine L_pu (P_not r14 rfl) ?_
     refine L_nil ?_
     refine W_cond (!r14) rfl (fun hq986 => ?_) (fun hq986 => ?_)
     ·have H := ite_t H hq986
      refine W_seq ?_
      refine W_reg ?_
      have hd995 : DArr dChange_103 w980 ([] : Ob) ([] : List Change) ([] : List (List Value)) := rfl
      refine L_lit (kd := Kd.cells 11) ei43 hc985 ([] : List (List Value)) (cells := []) rfl (fun _ => by kernel_rfl) fun w987 A988 n989 c990 g991 hr992 hc993 h994 => ?_
      have hp997 : ((blk (.slice A988 n989 c990) :: blk (.slice A258 n259 c260) :: blk (.slice A112 n222 c114) :: (q263 ++ [])) : Ob).Perm (blk (.slice A988 n989 c990) :: blk (.slice A258 n259 c260) :: blk (.slice A112 n222 c114) :: (q263 ++ (([] : Ob) ++ []))) := (by rw [List.perm_iff_count]; intro a; (try simp only [List.count_append, List.count_cons, List.count_nil, Nat.add_zero, Nat.zero_add]); first | done | ac_rfl)
      have hc998 := hc993.perm hp997
      refine L_pu (P_assign (.slice A988 n989 c990) rfl) ?_
      refine L_pu (P_assign (vb false) rfl) ?_
      refine L_nil ?_
      refine W_ret ?_
      have hp999 : ((blk (.slice A988 n989 c990) :: blk (.slice A258 n259 c260) :: blk (.slice A112 n222 c114) :: (q263 ++ (([] : Ob) ++ []))) : Ob).Perm ((blk (.slice A258 n259 c260) :: (q263 ++ [])) ++ (blk (.slice A988 n989 c990) :: blk (.slice A112 n222 c114) :: (([] : Ob) ++ []))) := (by rw [List.perm_iff_count]; intro a; (try simp only [List.count_append, List.count_cons, List.count_nil, Nat.add_zero, Nat.zero_add]); first | done | ac_rfl)
      have hc1000 := hc998.drops hp999
      have hc1001 := hc1000.drop 1 rfl
      have h1002 := (Ow.sd (L := (blk (.slice A988 n989 c990) :: blk (.slice A112 n222 c114) :: (([] : Ob) ++ []))) (O := O) (Ow.drops (L := (blk (.slice A988 n989 c990) :: blk (.slice A258 n259 c260) :: blk (.slice A112 n222 c114) :: (q263 ++ (([] : Ob) ++ [])))) (O := O) (Ow.sp (L := (blk (.slice A988 n989 c990) :: blk (.slice A258 n259 c260) :: blk (.slice A112 n222 c114) :: (q263 ++ []))) (O := O) h994 hp997) hp999 (memi 0 rfl)) (i := 0) rfl (j := 1) rfl (by decide))
      have hd1003 := (hd995.k0 g991)
      exact ⟨[.slice A988 n989 c990, vb false], ⟨_, rfl, ⟨_, rfl, rfl⟩⟩, ([] : List Change), false, A988, n989, c990, ([] : Ob), ([] : List (List Value)), rfl, H, hc1001.gr.g0, hc1001.ok, hc1001.ge, h1002, hd1003⟩
     ·have H := ite_f H hq986
      refine W_skip ?_
      refine W_seq ?_
      refine W_reg ?_
      refine L_pu (P_move (.slice A258 n259 c260) rfl) ?_
      refine L_pu (P_assign (.slice A258 n259 c260) rfl) ?_
      refine L_pu (P_assign (vb true) rfl) ?_
      refine L_nil ?_
      refine W_ret ?_
      have hc1004 := hc985.drop 1 rfl
      have h1005 := (Ow.sd (L := (blk (.slice A258 n259 c260) :: blk (.slice A112 n222 c114) :: (q263 ++ []))) (O := O) (h268.sn g981) (i := 0) rfl (j := 1) rfl (by decide))
      have hd1006 := (hd269.k0 g981)
      exact ⟨[.slice A258 n259 c260, vb true], ⟨_, rfl, ⟨_, rfl, rfl⟩⟩, xs4, true, A258, n259, c260, q263, ra262, rfl, H, hc1004.gr.g0, hc1004.ok, hc1004.ge, h1005, hd1006⟩
end Go.Proofs.Ytndjggncgpjolaa

namespace Go.Proofs.Ytndjggncgpjolaa
set_option linter.unusedVariables false
set_option linter.unusedSimpArgs false
set_option linter.unusedSectionVars false
theorem impl_DiffThen.law (a b : List Change) (Q : List Change → Bool → Prop) (ba : bulk a ≤ 1048576) (bb : bulk b ≤ 1048576) (hq : Q (thenR a b) (thenOk a b)) : impl_DiffThen.E a b Q := by
 unfold impl_DiffThen.E
 have bad : thenOk a b = false → Q [] false := fun h => by unfold thenR at hq; rw [h, if_neg (by decide)] at hq; exact hq
 refine impl_DiffOk.law _ _ ba ?_
 cases ka : diffOk a with
 | false => rw [if_pos (by decide)]; exact bad (by unfold thenOk; rw [ka]; rfl)
 | true =>
  rw [if_neg (by decide)]
  refine impl_DiffOk.law _ _ bb ?_
  cases kb : diffOk b with
  | false => rw [if_pos (by decide)]; exact bad (by unfold thenOk; rw [ka, kb]; rfl)
  | true =>
   rw [if_neg (by decide)]
   obtain ⟨sa, la, ca⟩ := diff_cs ka
   obtain ⟨sb, lb, cb⟩ := diff_cs kb
   have hf : ([a, b] : List (List Change)).flatten = a ++ b := by simp
   refine slices_Concat_Change.law _ _ (by simp) (by rw [hf, List.length_append]; omega) ?_
   rw [hf]
   refine ⟨fun xs i => ∃ u : Nat, i = u ∧ u ≤ (a ++ b).length ∧ xs = idsC ((a ++ b).take u), fun _ i => ((a ++ b).length - i).toNat, ⟨0, rfl, Nat.zero_le _, rfl⟩, ?_⟩
   rintro _ _ ⟨u, rfl, hu, rfl⟩
   have hab : (a ++ b).length ≤ 32 := by rw [List.length_append]; omega
   by_cases h : u < (a ++ b).length
   ·rw [if_pos (by rw [decide_eq_true_eq]; omega)]
    have hil : (idsC ((a ++ b).take u)).length ≤ u := by unfold idsC; rw [List.length_map, List.length_take]; omega
    exact ⟨by omega, by simp only [List.length_cons, List.length_nil]; omega, by unfold I64; omega, ⟨u + 1, by omega, by omega, by rw [take_nth _ h, idsC_app]; rfl⟩, by dsimp only; omega⟩
   rw [if_neg (by rw [decide_eq_true_eq]; omega)]
   have hue : u = (a ++ b).length := by omega
   subst hue
   rw [List.take_length, idsC_app]
   have hol := thenOut_len la lb
   have hidl : (idsC a ++ idsC b).length ≤ 32 := by unfold idsC; rw [List.length_append, List.length_map, List.length_map]; omega
   unfold slices_Sort_string.E slices_Compact_string.E
   refine ⟨by omega, by unfold sortS; rw [List.length_mergeSort]; omega, ?_⟩
   show ∃ (I271 : (List Change) → Int → Prop) (mu272 : (List Change) → Int → Nat), _
   have hU : Lib.compact (sortS (idsC a ++ idsC b)) = uniq (idsC a ++ idsC b) := rfl
   rw [hU]
   refine ⟨fun xs i => ∃ u : Nat, i = u ∧ u ≤ (uniq (idsC a ++ idsC b)).length ∧ xs = thenL a b ((uniq (idsC a ++ idsC b)).take u) ∧ ∀ id ∈ (uniq (idsC a ++ idsC b)).take u, clashAt a b id = false, fun _ i => ((uniq (idsC a ++ idsC b)).length - i).toNat, ⟨0, rfl, Nat.zero_le _, rfl, by simp⟩, ?_⟩
   rintro _ _ ⟨u, rfl, hu, rfl, hcl⟩
   by_cases h : u < (uniq (idsC a ++ idsC b)).length
   ·rw [if_pos (by simpa using h)]
    have hmem := nth_mem _ h
    have hm := uniqC_mem.1 hmem
    have hs := compC_small ca cb hm
    have hd := thenL_len a b ((uniq (idsC a ++ idsC b)).take u)
    rw [List.length_take] at hd
    have en := thenL_snoc a b ((uniq (idsC a ++ idsC b)).take u) (nth (uniq (idsC a ++ idsC b)) (u : Int))
    rw [← take_nth _ h] at en
    refine ⟨by omega, impl_changeAt.law _ _ _ (by omega) (impl_changeAt.law _ _ _ (by omega) ?_)⟩
    have a0 := atC_le a (nth (uniq (idsC a ++ idsC b)) (u : Int))
    have b0 := atC_le b (nth (uniq (idsC a ++ idsC b)) (u : Int))
    have nxt : clashAt a b (nth (uniq (idsC a ++ idsC b)) (u : Int)) = false → ∀ id ∈ (uniq (idsC a ++ idsC b)).take (u + 1), clashAt a b id = false := fun hc id hid => by
     rw [take_nth _ h] at hid
     rcases List.mem_append.1 hid with hid | hid
     ·exact hcl id hid
     ·rw [List.mem_singleton.1 hid]; exact hc
    have step : ∀ (c : Change), c = compC a b (nth (uniq (idsC a ++ idsC b)) (u : Int)) → clashAt a b (nth (uniq (idsC a ++ idsC b)) (u : Int)) = false → ∀ (I : List Change → Int → Prop) (mu : List Change → Int → Nat),
      (∀ xs : List Change, xs = thenL a b ((uniq (idsC a ++ idsC b)).take (u + 1)) → I xs ((u : Int) + 1) ∧ mu xs ((u : Int) + 1) < mu (thenL a b ((uniq (idsC a ++ idsC b)).take u)) (u : Int)) →
      impl_Change_same.E c (fun r7 => (if !r7 then impl_cloneChange.E c (fun r8 => ((thenL a b ((uniq (idsC a ++ idsC b)).take u)).length + ([r8] : List Change).length ≤ 268435456) ∧ (I64 ((u : Int) + 1)) ∧ I (thenL a b ((uniq (idsC a ++ idsC b)).take u) ++ ([r8] : List Change)) ((u : Int) + 1) ∧ mu (thenL a b ((uniq (idsC a ++ idsC b)).take u) ++ ([r8] : List Change)) ((u : Int) + 1) < mu (thenL a b ((uniq (idsC a ++ idsC b)).take u)) (u : Int)) else (I64 ((u : Int) + 1)) ∧ I (thenL a b ((uniq (idsC a ++ idsC b)).take u)) ((u : Int) + 1) ∧ mu (thenL a b ((uniq (idsC a ++ idsC b)).take u)) ((u : Int) + 1) < mu (thenL a b ((uniq (idsC a ++ idsC b)).take u)) (u : Int))) := fun c hc hcc I mu hI => by
     subst hc
     refine impl_Change_same.law _ _ (by omega) ?_
     cases k : sameC (compC a b (nth (uniq (idsC a ++ idsC b)) (u : Int))) with
     | false =>
      rw [k] at en
      rw [if_pos (by decide)]
      refine impl_cloneChange.law _ _ (by omega) ⟨by simp only [List.length_cons, List.length_nil]; omega, by unfold I64; omega, hI _ ?_⟩
      rw [en]; rfl
     | true =>
      rw [k] at en
      rw [if_neg (by decide)]
      exact ⟨by unfold I64; omega, hI _ (by rw [en]; simp)⟩
    have done : clashAt a b (nth (uniq (idsC a ++ idsC b)) (u : Int)) = false → ∀ xs : List Change, xs = thenL a b ((uniq (idsC a ++ idsC b)).take (u + 1)) →
      (∃ u' : Nat, ((u : Int) + 1) = u' ∧ u' ≤ (uniq (idsC a ++ idsC b)).length ∧ xs = thenL a b ((uniq (idsC a ++ idsC b)).take u') ∧ ∀ id ∈ (uniq (idsC a ++ idsC b)).take u', clashAt a b id = false) ∧ (((uniq (idsC a ++ idsC b)).length - ((u : Int) + 1)).toNat < ((uniq (idsC a ++ idsC b)).length - (u : Int)).toNat) := fun hc xs hx => ⟨⟨u + 1, by omega, by omega, hx, nxt hc⟩, by omega⟩
    by_cases kb0 : atC b (nth (uniq (idsC a ++ idsC b)) (u : Int)) < 0
    ·rw [if_pos (by rw [decide_eq_true_eq]; exact kb0)]
     have ka0 : ¬ atC a (nth (uniq (idsC a ++ idsC b)) (u : Int)) < 0 := fun e => by
      rcases hm with hm | hm
      ·exact atC_miss e hm
      ·exact atC_miss kb0 hm
     have hc : clashAt a b (nth (uniq (idsC a ++ idsC b)) (u : Int)) = false := by unfold clashAt; rw [decide_eq_false (p := ¬ atC b _ < 0) (not_not_intro kb0), Bool.and_false, Bool.false_and]
     exact ⟨by omega, step _ (by unfold compC; rw [if_pos kb0]) hc (fun (xs : List Change) (i : Int) => ∃ u : Nat, i = u ∧ u ≤ (uniq (idsC a ++ idsC b)).length ∧ xs = thenL a b ((uniq (idsC a ++ idsC b)).take u) ∧ ∀ id ∈ (uniq (idsC a ++ idsC b)).take u, clashAt a b id = false) (fun _ i => ((uniq (idsC a ++ idsC b)).length - i).toNat) (fun xs hx => done hc xs hx)⟩
    ·rw [if_neg (by rw [decide_eq_true_eq]; exact kb0)]
     by_cases ka0 : atC a (nth (uniq (idsC a ++ idsC b)) (u : Int)) < 0
     ·rw [if_pos (by rw [decide_eq_true_eq]; exact ka0)]
      have hc : clashAt a b (nth (uniq (idsC a ++ idsC b)) (u : Int)) = false := by unfold clashAt; rw [decide_eq_false (p := ¬ atC a _ < 0) (not_not_intro ka0), Bool.false_and, Bool.false_and]
      exact ⟨by omega, step _ (by unfold compC; rw [if_neg kb0, if_pos ka0]) hc (fun (xs : List Change) (i : Int) => ∃ u : Nat, i = u ∧ u ≤ (uniq (idsC a ++ idsC b)).length ∧ xs = thenL a b ((uniq (idsC a ++ idsC b)).take u) ∧ ∀ id ∈ (uniq (idsC a ++ idsC b)).take u, clashAt a b id = false) (fun _ i => ((uniq (idsC a ++ idsC b)).length - i).toNat) (fun xs hx => done hc xs hx)⟩
     ·rw [if_neg (by rw [decide_eq_true_eq]; exact ka0)]
      have clash : clashAt a b (nth (uniq (idsC a ++ idsC b)) (u : Int)) = true → Q [] false := fun hc => bad (by
       unfold thenOk
       rw [List.any_eq_true.2 ⟨_, hmem, hc⟩]; simp)
      have hca : clashAt a b (nth (uniq (idsC a ++ idsC b)) (u : Int)) = ((nth a (atC a (nth (uniq (idsC a ++ idsC b)) (u : Int)))).Has != (nth b (atC b (nth (uniq (idsC a ++ idsC b)) (u : Int)))).Had || !(decide ((nth a (atC a (nth (uniq (idsC a ++ idsC b)) (u : Int)))).Now = (nth b (atC b (nth (uniq (idsC a ++ idsC b)) (u : Int)))).Was))) := by
       unfold clashAt; rw [decide_eq_true ka0, decide_eq_true kb0, Bool.true_and, Bool.true_and]
      refine ⟨by omega, by omega, ?_⟩
      cases k1 : (nth a (atC a (nth (uniq (idsC a ++ idsC b)) (u : Int)))).Has != (nth b (atC b (nth (uniq (idsC a ++ idsC b)) (u : Int)))).Had with
      | true => rw [if_pos rfl]; exact clash (by rw [hca, k1]; rfl)
      | false =>
       rw [if_neg (by decide)]
       have na := (change_small (ca _ (atC_hit ka0).1)).2.2.2.1
       have nf := bulk_feat (nth a (atC a (nth (uniq (idsC a ++ idsC b)) (u : Int)))).Now
       have nl := bulk_len (nth a (atC a (nth (uniq (idsC a ++ idsC b)) (u : Int)))).Now.Shape.Pts
       have nl2 := bulk_len (nth a (atC a (nth (uniq (idsC a ++ idsC b)) (u : Int)))).Now.Tags
       refine ⟨by omega, by omega, _, impl_FeatSame.law _ _ _ (by omega) rfl, ?_⟩
       cases k2 : decide ((nth a (atC a (nth (uniq (idsC a ++ idsC b)) (u : Int)))).Now = (nth b (atC b (nth (uniq (idsC a ++ idsC b)) (u : Int)))).Was) with
       | false => rw [if_pos (by decide)]; exact clash (by rw [hca, k1, k2]; rfl)
       | true =>
        rw [if_neg (by decide)]
        have hc : clashAt a b (nth (uniq (idsC a ++ idsC b)) (u : Int)) = false := by rw [hca, k1, k2]; rfl
        exact ⟨by omega, by omega, by omega, by omega, step _ (by unfold compC; rw [if_neg kb0, if_neg ka0]) hc (fun (xs : List Change) (i : Int) => ∃ u : Nat, i = u ∧ u ≤ (uniq (idsC a ++ idsC b)).length ∧ xs = thenL a b ((uniq (idsC a ++ idsC b)).take u) ∧ ∀ id ∈ (uniq (idsC a ++ idsC b)).take u, clashAt a b id = false) (fun _ i => ((uniq (idsC a ++ idsC b)).length - i).toNat) (fun xs hx => done hc xs hx)⟩
   ·rw [if_neg (by simpa using h)]
    have hue : u = (uniq (idsC a ++ idsC b)).length := by omega
    subst hue
    rw [List.take_length] at hcl ⊢
    have hany : (uniq (idsC a ++ idsC b)).any (clashAt a b) = false := by
     rw [List.any_eq_false]; intro id hid; rw [hcl id hid]; exact Bool.false_ne_true
    refine impl_DiffOk.law _ _ (thenL_small ca cb (fun id hid => uniqC_mem.1 hid) (by omega)) ?_
    cases ko : diffOk (thenL a b (uniq (idsC a ++ idsC b))) with
    | false => rw [if_pos (by decide)]; exact bad (by unfold thenOk thenOut; rw [ko, Bool.and_false])
    | true =>
     rw [if_neg (by decide)]
     have hok : thenOk a b = true := by unfold thenOk thenOut; rw [ka, kb, hany, ko]; rfl
     unfold thenR at hq
     rw [hok, if_pos rfl] at hq
     exact hq
end Go.Proofs.Ytndjggncgpjolaa

namespace Go.Proofs.Ytndjggncgpjolaa
open Go.RowKit
set_option linter.unusedVariables false
set_option linter.unusedSimpArgs false
def laws_eqPt.E (a : Pt) (b : Pt) (Q : Bool → Prop) : Prop :=
 (if a.X != b.X then Q false else (if a.Y != b.Y then Q false else Q true))
set_option maxHeartbeats 8000000 in
set_option maxRecDepth 100000 in
theorem laws_eqPt.calls {O : Ob} (w0 : World) (hO : Ok w0 O) (a : Pt) (b : Pt) (Q : Bool → Prop) (h : laws_eqPt.E a b Q) :
  Ret Try.prog 171 [.agg #[vi a.X, vi a.Y], .agg #[vi b.X, vi b.Y]] w0 (fun v w' => ∃ (r0 : Bool), v = vb r0 ∧ Q r0 ∧ Gr w0 w' none) := by
 have H : (if a.X != b.X then Q false else (if a.Y != b.Y then Q false else Q true)) := h
 clear h
 have hc0 := Ct.init hO
 refine Ret_enter Try.func171 rfl 15 rfl [.tmp 4] rfl rfl ?_
 refine W_seq ?_
 refine W_reg ?_
 refine L_box [vi a.X, vi a.Y] rfl fun w1 b2 hl4 hu5 g3 hx6 => ?_
 have h8 := Fb.mk hc0.ok hl4 hx6
 have hc9 := hc0.k0 g3
 refine L_box [vi b.X, vi b.Y] rfl fun w10 b11 hl13 hu14 g12 hx15 => ?_
 have h17 := Fb.mk hc9.ok hl13 hx15
 have hc18 := hc9.k0 g12
 refine L_pu (P_assign (vb false) rfl) ?_
 refine L_nil ?_
 refine W_seq ?_
 refine W_seq ?_
 refine W_reg ?_
 refine L_pu (P_fa fa29_0 ⟨b2, 0, none⟩ ⟨b2, 0, none⟩ rfl rfl) ?_
 have h19 := (h8.st (.new _ g12))
 refine L_pu (P_ld ag3 cL ⟨b2, 0, none⟩ (vi a.X) rfl (h19.cell rfl)) ?_
 refine L_pu (P_fa fa29_0 ⟨b11, 0, none⟩ ⟨b11, 0, none⟩ rfl rfl) ?_
 refine L_pu (P_ld ag3 cL ⟨b11, 0, none⟩ (vi b.X) rfl (h17.cell rfl)) ?_
 refine L_pu (P_cmp a.X b.X (a.X != b.X) rfl rfl rfl) ?_
 refine L_nil ?_
 refine W_cond (a.X != b.X) rfl (fun hq20 => ?_) (fun hq20 => ?_)
 ·have H := ite_t H hq20
  refine W_seq ?_
  refine W_reg ?_
  refine L_pu (P_assign (vb false) rfl) ?_
  refine L_nil ?_
  refine W_ret ?_
  exact ⟨[vb false], ⟨_, rfl, rfl⟩, false, rfl, H, hc18.gr.g0⟩
 ·have H := ite_f H hq20
  refine W_skip ?_
  refine W_seq ?_
  refine W_seq ?_
  refine W_reg ?_
  refine L_pu (P_fa fa29_1 ⟨b2, 0, none⟩ ⟨b2, 1, none⟩ rfl rfl) ?_
  refine L_pu (P_ld ag3 cL ⟨b2, 1, none⟩ (vi a.Y) rfl (h19.cell rfl)) ?_
  refine L_pu (P_fa fa29_1 ⟨b11, 0, none⟩ ⟨b11, 1, none⟩ rfl rfl) ?_
  refine L_pu (P_ld ag3 cL ⟨b11, 1, none⟩ (vi b.Y) rfl (h17.cell rfl)) ?_
  refine L_pu (P_cmp a.Y b.Y (a.Y != b.Y) rfl rfl rfl) ?_
  refine L_nil ?_
  refine W_cond (a.Y != b.Y) rfl (fun hq21 => ?_) (fun hq21 => ?_)
  ·have H := ite_t H hq21
   refine W_seq ?_
   refine W_reg ?_
   refine L_pu (P_assign (vb false) rfl) ?_
   refine L_nil ?_
   refine W_ret ?_
   exact ⟨[vb false], ⟨_, rfl, rfl⟩, false, rfl, H, hc18.gr.g0⟩
  ·have H := ite_f H hq21
   refine W_skip ?_
   refine W_seq ?_
   refine W_reg ?_
   refine L_pu (P_assign (vb true) rfl) ?_
   refine L_nil ?_
   refine W_ret ?_
   exact ⟨[vb true], ⟨_, rfl, rfl⟩, true, rfl, H, hc18.gr.g0⟩
end Go.Proofs.Ytndjggncgpjolaa

namespace Go.Proofs.Ytndjggncgpjolaa
set_option linter.unusedVariables false
set_option linter.unusedSimpArgs false
set_option linter.unusedSectionVars false
theorem laws_eqPt.law (a b : Pt) (Q : Bool → Prop) (hq : Q (decide (a = b))) : laws_eqPt.E a b Q := by
 obtain ⟨x0, x1⟩ := a; obtain ⟨y0, y1⟩ := b
 rw [show (decide ((⟨x0, x1⟩ : Pt) = ⟨y0, y1⟩)) = ((decide (x0 = y0)) && (decide (x1 = y1))) by simp only [Pt.mk.injEq, Bool.decide_and]] at hq
 unfold laws_eqPt.E
 by_cases h0 : x0 = y0
 case neg => simpa [h0] using hq
 simp only [h0, decide_true, Bool.true_and, bne_self_eq_false, Bool.not_true, Bool.false_eq_true, if_false] at hq ⊢
 by_cases h1 : x1 = y1
 case neg => simpa [h1] using hq
 simp only [h1, decide_true, Bool.true_and, bne_self_eq_false, Bool.not_true, Bool.false_eq_true, if_false] at hq ⊢
 all_goals (try exact hq)
theorem laws_eqPt.is (a b : Pt) : laws_eqPt.E a b (fun r => r = decide (a = b)) := laws_eqPt.law a b _ rfl
end Go.Proofs.Ytndjggncgpjolaa

namespace Go.Proofs.Ytndjggncgpjolaa
open Go.RowKit
set_option linter.unusedVariables false
set_option linter.unusedSimpArgs false
def laws_eqPtS.E (a : List Pt) (b : List Pt) (Q : Bool → Prop) : Prop :=
 (if (a.length : Int) != (b.length : Int) then Q false else (∃ (I32 : Int → Prop) (mu33 : Int → Nat), I32 0 ∧ ∀ (i2 : Int), I32 i2 → (if decide (i2 < (a.length : Int)) then ((0 : Int) ≤ i2 ∧ i2 < (a.length : Int)) ∧ ((0 : Int) ≤ i2 ∧ i2 < (b.length : Int)) ∧ (if !(decide ((nth a i2) = (nth b i2))) then Q false else (-9223372036854775808 ≤ i2) ∧ I32 (i2 + 1) ∧ mu33 (i2 + 1) < mu33 i2) else Q true)))
set_option maxHeartbeats 8000000 in
set_option maxRecDepth 100000 in
theorem laws_eqPtS.calls {O : Ob} (w0 : World) (hO : Ok w0 O) (a : List Pt) (A1 : Option Addr) (n2 c3 : Nat) (hp4 : Sl kPt w0 (Fr O) (.slice A1 n2 c3) a) (b : List Pt) (A6 : Option Addr) (n7 c8 : Nat) (hp9 : Sl kPt w0 (Fr O) (.slice A6 n7 c8) b) (Q : Bool → Prop) (h : laws_eqPtS.E a b Q) :
  Ret Try.prog 144 [.slice A1 n2 c3, .slice A6 n7 c8] w0 (fun v w' => ∃ (r0 : Bool), v = vb r0 ∧ Q r0 ∧ Gr w0 w' none) := by
 have H : (if (a.length : Int) != (b.length : Int) then Q false else (∃ (I32 : Int → Prop) (mu33 : Int → Nat), I32 0 ∧ ∀ (i2 : Int), I32 i2 → (if decide (i2 < (a.length : Int)) then ((0 : Int) ≤ i2 ∧ i2 < (a.length : Int)) ∧ ((0 : Int) ≤ i2 ∧ i2 < (b.length : Int)) ∧ (if !(decide ((nth a i2) = (nth b i2))) then Q false else (-9223372036854775808 ≤ i2) ∧ I32 (i2 + 1) ∧ mu33 (i2 + 1) < mu33 i2) else Q true))) := h
 clear h
 have hc0 := Ct.init hO
 refine Ret_enter Try.func144 rfl 27 rfl [.tmp 4] rfl rfl ?_
 refine W_seq ?_
 refine W_reg ?_
 refine L_pu (P_assign (vb false) rfl) ?_
 refine L_nil ?_
 refine W_seq ?_
 refine W_seq ?_
 refine W_reg ?_
 refine L_pu (P_move (.slice A1 n2 c3) rfl) ?_
 have hl11 := hp4.le
 refine L_pu (P_len Try.underlying23 A1 n2 c3 hp4.len rfl) ?_
 refine L_pu (P_move (.slice A6 n7 c8) rfl) ?_
 have hl12 := hp9.le
 refine L_pu (P_len Try.underlying23 A6 n7 c8 hp9.len rfl) ?_
 refine L_pu (P_cmp (a.length : Int) (b.length : Int) ((a.length : Int) != (b.length : Int)) rfl rfl rfl) ?_
 refine L_nil ?_
 refine W_cond ((a.length : Int) != (b.length : Int)) rfl (fun hq13 => ?_) (fun hq13 => ?_)
 ·have H := ite_t H hq13
  refine W_seq ?_
  refine W_reg ?_
  refine L_pu (P_assign (vb false) rfl) ?_
  refine L_nil ?_
  refine W_ret ?_
  exact ⟨[vb false], ⟨_, rfl, rfl⟩, false, rfl, H, hc0.gr.g0⟩
 ·have H := ite_f H hq13
  refine W_skip ?_
  refine W_seq ?_
  refine W_seq ?_
  refine W_reg ?_
  refine L_pu (P_assign (vi 0) rfl) ?_
  refine L_nil ?_
  refine W_block ?_
  obtain ⟨I32, mu33, hI34, H⟩ := H
  refine W_loop (α := Int) (fun (sv__ : Int) t w26 => match sv__ with | i2 => I32 i2 ∧ Has t [(0, .slice A1 n2 c3), (1, .slice A6 n7 c8), (5, vi i2)] ∧ Ct [] w0 w26 [] O ∧ Sl kPt w26 (Fr ([] ++ O)) (.slice A1 n2 c3) a ∧ Sl kPt w26 (Fr ([] ++ O)) (.slice A6 n7 c8) b) (fun (sv__ : Int) => match sv__ with | i2 => mu33 i2) 0 ⟨hI34, ⟨rfl, rfl, rfl, trivial⟩, hc0, hp4, hp9⟩ ?_
  rintro i2 _ w26 ⟨hI34, hh36, hc29, h30, h31⟩
  obtain ⟨u37, rfl⟩ := Has.ins hh36
  have H := H i2 hI34
  refine W_seq ?_
  refine W_seq ?_
  refine W_reg ?_
  refine L_pu (P_move (vi i2) rfl) ?_
  refine L_pu (P_move (.slice A1 n2 c3) rfl) ?_
  have hl38 := h30.le
  refine L_pu (P_len Try.underlying23 A1 n2 c3 h30.len rfl) ?_
  refine L_pu (P_cmp i2 (a.length : Int) (decide (i2 < (a.length : Int))) rfl rfl rfl) ?_
  refine L_nil ?_
  refine W_cond (decide (i2 < (a.length : Int))) rfl (fun hq39 => ?_) (fun hq39 => ?_)
  ·have H := ite_t H hq39
   refine W_skip ?_
   refine W_seq ?_
   refine W_block ?_
   refine W_seq ?_
   refine W_draw (fun x => Gr w26 x none) (by kernel_rfl) (by kernel_rfl) (Gr.drew _) ?_
   refine Q_pu (P_move (.slice A1 n2 c3) rfl) ?_
   refine Q_pu (P_move (vi i2) rfl) ?_
   obtain ⟨hb40, H⟩ := H
   obtain ⟨ad41, cs42, hA43, hS46, hR44, hcl45⟩ := h30.get default (by decide) i2 hb40
   obtain rfl := kPt.op hR44
   refine Q_pu (P_ia Try.underlying23 se23 A1 ad41 n2 c3 h30.len i2 rfl hA43 rfl hb40) ?_
   refine Q_pu (P_lda ag29 sz29 cQ (ad41.add (i2.toNat * 2)) [vi ((nth a i2).X), vi ((nth a i2).Y)] rfl rfl hcl45) ?_
   refine Q_pu (P_move (.slice A6 n7 c8) rfl) ?_
   refine Q_pu (P_move (vi i2) rfl) ?_
   obtain ⟨hb47, H⟩ := H
   obtain ⟨ad48, cs49, hA50, hS53, hR51, hcl52⟩ := h31.get default (by decide) i2 hb47
   obtain rfl := kPt.op hR51
   refine Q_pu (P_ia Try.underlying23 se23 A6 ad48 n7 c8 h31.len i2 rfl hA50 rfl hb47) ?_
   refine Q_pu (P_lda ag29 sz29 cQ (ad48.add (i2.toNat * 2)) [vi ((nth b i2).X), vi ((nth b i2).Y)] rfl rfl hcl52) ?_
   refine Q_call go171 [.agg #[vi ((nth a i2).X), vi ((nth a i2).Y)], .agg #[vi ((nth b i2).X), vi ((nth b i2).Y)]] rfl (vb (decide ((nth a i2) = (nth b i2)))) (fun w g => (laws_eqPt.calls w (hc29.k0 g).ok (nth a i2) (nth b i2) _ (laws_eqPt.is (nth a i2) (nth b i2))).mono ?_) ?_
   ·rintro _ w ⟨r, rfl, rfl, g2⟩
    exact ⟨rfl, Gr.t0 g g2⟩
   refine Q_pu (P_not (decide ((nth a i2) = (nth b i2))) rfl) ?_
   refine Q_nil fun w59 g60 => ?_
   have hc62 := hc29.k0 g60
   refine W_cond (!(decide ((nth a i2) = (nth b i2)))) rfl (fun hq63 => ?_) (fun hq63 => ?_)
   ·have H := ite_t H hq63
    refine W_seq ?_
    refine W_reg ?_
    refine L_pu (P_assign (vb false) rfl) ?_
    refine L_nil ?_
    refine W_ret ?_
    exact ⟨[vb false], ⟨_, rfl, rfl⟩, false, rfl, H, hc62.gr.g0⟩
   ·have H := ite_f H hq63
    refine W_skip ?_
    refine W_reg ?_
    refine L_pu (P_move (vi i2) rfl) ?_
    obtain ⟨hb65, H⟩ := H
    have hi64 : I64 (i2 + 1) := i64_succ (of_decide_eq_true hq39) hl38 hb65
    refine L_pu (P_add i2 1 rfl rfl hi64) ?_
    refine L_pu (P_assign (vi (i2 + 1)) rfl) ?_
    refine L_nil ?_
    obtain ⟨hI66, hm67⟩ := H
    exact ⟨i2 + 1, hm67, hI66, ⟨rfl, rfl, rfl, trivial⟩, hc62, (h30.st (.new _ g60)), (h31.st (.new _ g60))⟩
  ·have H := ite_f H hq39
   refine W_exit (xin_hit ?_)
   refine W_seq ?_
   refine W_reg ?_
   refine L_pu (P_assign (vb true) rfl) ?_
   refine L_nil ?_
   refine W_ret ?_
   exact ⟨[vb true], ⟨_, rfl, rfl⟩, true, rfl, H, hc29.gr.g0⟩
end Go.Proofs.Ytndjggncgpjolaa

namespace Go.Proofs.Ytndjggncgpjolaa
set_option linter.unusedVariables false
set_option linter.unusedSimpArgs false
set_option linter.unusedSectionVars false
theorem laws_eqPtS.law (a b : List Pt) (Q : Bool → Prop) (hq : Q (decide (a = b))) : laws_eqPtS.E a b Q := by
 unfold laws_eqPtS.E
 exact eqS_shape (fun x y => decide (x = y)) (fun _ _ => rfl) a b Q hq
theorem laws_eqPtS.is (a b : List Pt) : laws_eqPtS.E a b (fun r => r = decide (a = b)) := laws_eqPtS.law a b _ rfl
end Go.Proofs.Ytndjggncgpjolaa

namespace Go.Proofs.Ytndjggncgpjolaa
open Go.RowKit
set_option linter.unusedVariables false
set_option linter.unusedSimpArgs false
def laws_eqShape.E (a : Shape) (b : Shape) (Q : Bool → Prop) : Prop :=
 (if a.Kind != b.Kind then Q false else laws_eqPtS.E a.Pts b.Pts (fun r => (if !r then Q false else Q true)))
set_option maxHeartbeats 8000000 in
set_option maxRecDepth 100000 in
theorem laws_eqShape.calls {O : Ob} (w0 : World) (hO : Ok w0 O) (a : Shape) (A1 : Option Addr) (n2 c3 : Nat) (hp4 : Sl kPt w0 (Fr O) (.slice A1 n2 c3) a.Pts) (b : Shape) (A6 : Option Addr) (n7 c8 : Nat) (hp9 : Sl kPt w0 (Fr O) (.slice A6 n7 c8) b.Pts) (Q : Bool → Prop) (h : laws_eqShape.E a b Q) :
  Ret Try.prog 103 [.agg #[vi a.Kind, .slice A1 n2 c3], .agg #[vi b.Kind, .slice A6 n7 c8]] w0 (fun v w' => ∃ (r0 : Bool), v = vb r0 ∧ Q r0 ∧ Gr w0 w' none) := by
 have H : (if a.Kind != b.Kind then Q false else laws_eqPtS.E a.Pts b.Pts (fun r => (if !r then Q false else Q true))) := h
 clear h
 have hc0 := Ct.init hO
 refine Ret_enter Try.func103 rfl 16 rfl [.tmp 4] rfl rfl ?_
 refine W_seq ?_
 refine W_reg ?_
 refine L_box [vi a.Kind, .slice A1 n2 c3] rfl fun w11 b12 hl14 hu15 g13 hx16 => ?_
 have h18 := Fb.mk hc0.ok hl14 hx16
 have hc19 := hc0.k0 g13
 refine L_box [vi b.Kind, .slice A6 n7 c8] rfl fun w20 b21 hl23 hu24 g22 hx25 => ?_
 have h27 := Fb.mk hc19.ok hl23 hx25
 have hc28 := hc19.k0 g22
 refine L_pu (P_assign (vb false) rfl) ?_
 refine L_nil ?_
 refine W_seq ?_
 refine W_seq ?_
 refine W_reg ?_
 refine L_pu (P_fa fa68_0 ⟨b12, 0, none⟩ ⟨b12, 0, none⟩ rfl rfl) ?_
 have h29 := (h18.st (.new _ g22))
 refine L_pu (P_ld ag3 cL ⟨b12, 0, none⟩ (vi a.Kind) rfl (h29.cell rfl)) ?_
 refine L_pu (P_fa fa68_0 ⟨b21, 0, none⟩ ⟨b21, 0, none⟩ rfl rfl) ?_
 refine L_pu (P_ld ag3 cL ⟨b21, 0, none⟩ (vi b.Kind) rfl (h27.cell rfl)) ?_
 refine L_pu (P_cmp a.Kind b.Kind (a.Kind != b.Kind) rfl rfl rfl) ?_
 refine L_nil ?_
 refine W_cond (a.Kind != b.Kind) rfl (fun hq30 => ?_) (fun hq30 => ?_)
 ·have H := ite_t H hq30
  refine W_seq ?_
  refine W_reg ?_
  refine L_pu (P_assign (vb false) rfl) ?_
  refine L_nil ?_
  refine W_ret ?_
  exact ⟨[vb false], ⟨_, rfl, rfl⟩, false, rfl, H, hc28.gr.g0⟩
 ·have H := ite_f H hq30
  refine W_skip ?_
  refine W_seq ?_
  refine W_seq ?_
  refine W_reg ?_
  refine L_pu (P_fa fa68_1 ⟨b12, 0, none⟩ ⟨b12, 1, none⟩ rfl rfl) ?_
  refine L_pu (P_ld ag23 cL ⟨b12, 1, none⟩ (.slice A1 n2 c3) rfl (h29.cell rfl)) ?_
  refine L_pu (P_fa fa68_1 ⟨b21, 0, none⟩ ⟨b21, 1, none⟩ rfl rfl) ?_
  refine L_pu (P_ld ag23 cL ⟨b21, 1, none⟩ (.slice A6 n7 c8) rfl (h27.cell rfl)) ?_
  refine L_call go144 [.slice A1 n2 c3, .slice A6 n7 c8] rfl ((laws_eqPtS.calls w20 hc28.ok a.Pts A1 n2 c3 (hp4.st hc28.st) b.Pts A6 n7 c8 (hp9.st hc28.st) _ H).mono ?_)
  rintro _ w31 ⟨r, rfl, H, g32⟩
  have hc36 := hc28.k0 g32
  refine L_pu (P_not r rfl) ?_
  refine L_nil ?_
  refine W_cond (!r) rfl (fun hq37 => ?_) (fun hq37 => ?_)
  ·have H := ite_t H hq37
   refine W_seq ?_
   refine W_reg ?_
   refine L_pu (P_assign (vb false) rfl) ?_
   refine L_nil ?_
   refine W_ret ?_
   exact ⟨[vb false], ⟨_, rfl, rfl⟩, false, rfl, H, hc36.gr.g0⟩
  ·have H := ite_f H hq37
   refine W_skip ?_
   refine W_seq ?_
   refine W_reg ?_
   refine L_pu (P_assign (vb true) rfl) ?_
   refine L_nil ?_
   refine W_ret ?_
   exact ⟨[vb true], ⟨_, rfl, rfl⟩, true, rfl, H, hc36.gr.g0⟩
end Go.Proofs.Ytndjggncgpjolaa

namespace Go.Proofs.Ytndjggncgpjolaa
set_option linter.unusedVariables false
set_option linter.unusedSimpArgs false
set_option linter.unusedSectionVars false
theorem laws_eqShape.law (a b : Shape) (Q : Bool → Prop) (hq : Q (decide (a = b))) : laws_eqShape.E a b Q := by
 obtain ⟨x0, x1⟩ := a; obtain ⟨y0, y1⟩ := b
 rw [show (decide ((⟨x0, x1⟩ : Shape) = ⟨y0, y1⟩)) = ((decide (x0 = y0)) && (decide (x1 = y1))) by simp only [Shape.mk.injEq, Bool.decide_and]] at hq
 unfold laws_eqShape.E
 by_cases h0 : x0 = y0
 case neg => simpa [h0] using hq
 simp only [h0, decide_true, Bool.true_and, bne_self_eq_false, Bool.not_true, Bool.false_eq_true, if_false] at hq ⊢
 try refine laws_eqPtS.law _ _ _ ?_
 by_cases h1 : x1 = y1
 case neg => simpa [h1] using hq
 simp only [h1, decide_true, Bool.true_and, bne_self_eq_false, Bool.not_true, Bool.false_eq_true, if_false] at hq ⊢
 all_goals (try exact hq)
theorem laws_eqShape.is (a b : Shape) : laws_eqShape.E a b (fun r => r = decide (a = b)) := laws_eqShape.law a b _ rfl
end Go.Proofs.Ytndjggncgpjolaa

namespace Go.Proofs.Ytndjggncgpjolaa
open Go.RowKit
set_option linter.unusedVariables false
set_option linter.unusedSimpArgs false
def laws_eqTag.E (a : Tag) (b : Tag) (Q : Bool → Prop) : Prop :=
 (if a.Key != b.Key then Q false else (if a.Val != b.Val then Q false else Q true))
set_option maxHeartbeats 8000000 in
set_option maxRecDepth 100000 in
theorem laws_eqTag.calls {O : Ob} (w0 : World) (hO : Ok w0 O) (a : Tag) (hs1 : Lim a.Key) (hs2 : Lim a.Val) (b : Tag) (hs3 : Lim b.Key) (hs4 : Lim b.Val) (Q : Bool → Prop) (h : laws_eqTag.E a b Q) :
  Ret Try.prog 145 [.agg #[vs a.Key, vs a.Val], .agg #[vs b.Key, vs b.Val]] w0 (fun v w' => ∃ (r0 : Bool), v = vb r0 ∧ Q r0 ∧ Gr w0 w' none) := by
 have H : (if a.Key != b.Key then Q false else (if a.Val != b.Val then Q false else Q true)) := h
 clear h
 have hc0 := Ct.init hO
 refine Ret_enter Try.func145 rfl 15 rfl [.tmp 4] rfl rfl ?_
 refine W_seq ?_
 refine W_reg ?_
 refine L_box [vs a.Key, vs a.Val] rfl fun w5 b6 hl8 hu9 g7 hx10 => ?_
 have h12 := Fb.mk hc0.ok hl8 hx10
 have hc13 := hc0.k0 g7
 refine L_box [vs b.Key, vs b.Val] rfl fun w14 b15 hl17 hu18 g16 hx19 => ?_
 have h21 := Fb.mk hc13.ok hl17 hx19
 have hc22 := hc13.k0 g16
 refine L_pu (P_assign (vb false) rfl) ?_
 refine L_nil ?_
 refine W_seq ?_
 refine W_seq ?_
 refine W_reg ?_
 refine L_pu (P_fa fa133_0 ⟨b6, 0, none⟩ ⟨b6, 0, none⟩ rfl rfl) ?_
 have h23 := (h12.st (.new _ g16))
 refine L_pu (P_ld ag9 cL ⟨b6, 0, none⟩ (vs a.Key) rfl (h23.cell rfl)) ?_
 refine L_pu (P_fa fa133_0 ⟨b15, 0, none⟩ ⟨b15, 0, none⟩ rfl rfl) ?_
 refine L_pu (P_ld ag9 cL ⟨b15, 0, none⟩ (vs b.Key) rfl (h21.cell rfl)) ?_
 refine L_pu (P_scmp a.Key b.Key (a.Key != b.Key) rfl rfl rfl) ?_
 refine L_nil ?_
 refine W_cond (a.Key != b.Key) rfl (fun hq24 => ?_) (fun hq24 => ?_)
 ·have H := ite_t H hq24
  refine W_seq ?_
  refine W_reg ?_
  refine L_pu (P_assign (vb false) rfl) ?_
  refine L_nil ?_
  refine W_ret ?_
  exact ⟨[vb false], ⟨_, rfl, rfl⟩, false, rfl, H, hc22.gr.g0⟩
 ·have H := ite_f H hq24
  refine W_skip ?_
  refine W_seq ?_
  refine W_seq ?_
  refine W_reg ?_
  refine L_pu (P_fa fa133_1 ⟨b6, 0, none⟩ ⟨b6, 1, none⟩ rfl rfl) ?_
  refine L_pu (P_ld ag9 cL ⟨b6, 1, none⟩ (vs a.Val) rfl (h23.cell rfl)) ?_
  refine L_pu (P_fa fa133_1 ⟨b15, 0, none⟩ ⟨b15, 1, none⟩ rfl rfl) ?_
  refine L_pu (P_ld ag9 cL ⟨b15, 1, none⟩ (vs b.Val) rfl (h21.cell rfl)) ?_
  refine L_pu (P_scmp a.Val b.Val (a.Val != b.Val) rfl rfl rfl) ?_
  refine L_nil ?_
  refine W_cond (a.Val != b.Val) rfl (fun hq25 => ?_) (fun hq25 => ?_)
  ·have H := ite_t H hq25
   refine W_seq ?_
   refine W_reg ?_
   refine L_pu (P_assign (vb false) rfl) ?_
   refine L_nil ?_
   refine W_ret ?_
   exact ⟨[vb false], ⟨_, rfl, rfl⟩, false, rfl, H, hc22.gr.g0⟩
  ·have H := ite_f H hq25
   refine W_skip ?_
   refine W_seq ?_
   refine W_reg ?_
   refine L_pu (P_assign (vb true) rfl) ?_
   refine L_nil ?_
   refine W_ret ?_
   exact ⟨[vb true], ⟨_, rfl, rfl⟩, true, rfl, H, hc22.gr.g0⟩
end Go.Proofs.Ytndjggncgpjolaa

namespace Go.Proofs.Ytndjggncgpjolaa
set_option linter.unusedVariables false
set_option linter.unusedSimpArgs false
set_option linter.unusedSectionVars false
theorem laws_eqTag.law (a b : Tag) (Q : Bool → Prop) (hq : Q (decide (a = b))) : laws_eqTag.E a b Q := by
 obtain ⟨x0, x1⟩ := a; obtain ⟨y0, y1⟩ := b
 rw [show (decide ((⟨x0, x1⟩ : Tag) = ⟨y0, y1⟩)) = ((decide (x0 = y0)) && (decide (x1 = y1))) by simp only [Tag.mk.injEq, Bool.decide_and]] at hq
 unfold laws_eqTag.E
 by_cases h0 : x0 = y0
 case neg => simpa [h0] using hq
 simp only [h0, decide_true, Bool.true_and, bne_self_eq_false, Bool.not_true, Bool.false_eq_true, if_false] at hq ⊢
 by_cases h1 : x1 = y1
 case neg => simpa [h1] using hq
 simp only [h1, decide_true, Bool.true_and, bne_self_eq_false, Bool.not_true, Bool.false_eq_true, if_false] at hq ⊢
 all_goals (try exact hq)
theorem laws_eqTag.is (a b : Tag) : laws_eqTag.E a b (fun r => r = decide (a = b)) := laws_eqTag.law a b _ rfl
end Go.Proofs.Ytndjggncgpjolaa

namespace Go.Proofs.Ytndjggncgpjolaa
open Go.RowKit
set_option linter.unusedVariables false
set_option linter.unusedSimpArgs false
def laws_eqTagS.E (a : List Tag) (b : List Tag) (Q : Bool → Prop) : Prop :=
 (if (a.length : Int) != (b.length : Int) then Q false else (∃ (I32 : Int → Prop) (mu33 : Int → Nat), I32 0 ∧ ∀ (i2 : Int), I32 i2 → (if decide (i2 < (a.length : Int)) then ((0 : Int) ≤ i2 ∧ i2 < (a.length : Int)) ∧ ((0 : Int) ≤ i2 ∧ i2 < (b.length : Int)) ∧ (if !(decide ((nth a i2) = (nth b i2))) then Q false else (-9223372036854775808 ≤ i2) ∧ I32 (i2 + 1) ∧ mu33 (i2 + 1) < mu33 i2) else Q true)))
set_option maxHeartbeats 8000000 in
set_option maxRecDepth 100000 in
theorem laws_eqTagS.calls {O : Ob} (w0 : World) (hO : Ok w0 O) (a : List Tag) (A1 : Option Addr) (n2 c3 : Nat) (hp4 : Sl kTag w0 (Fr O) (.slice A1 n2 c3) a) (b : List Tag) (A6 : Option Addr) (n7 c8 : Nat) (hp9 : Sl kTag w0 (Fr O) (.slice A6 n7 c8) b) (Q : Bool → Prop) (h : laws_eqTagS.E a b Q) :
  Ret Try.prog 104 [.slice A1 n2 c3, .slice A6 n7 c8] w0 (fun v w' => ∃ (r0 : Bool), v = vb r0 ∧ Q r0 ∧ Gr w0 w' none) := by
 have H : (if (a.length : Int) != (b.length : Int) then Q false else (∃ (I32 : Int → Prop) (mu33 : Int → Nat), I32 0 ∧ ∀ (i2 : Int), I32 i2 → (if decide (i2 < (a.length : Int)) then ((0 : Int) ≤ i2 ∧ i2 < (a.length : Int)) ∧ ((0 : Int) ≤ i2 ∧ i2 < (b.length : Int)) ∧ (if !(decide ((nth a i2) = (nth b i2))) then Q false else (-9223372036854775808 ≤ i2) ∧ I32 (i2 + 1) ∧ mu33 (i2 + 1) < mu33 i2) else Q true))) := h
 clear h
 have hc0 := Ct.init hO
 refine Ret_enter Try.func104 rfl 27 rfl [.tmp 4] rfl rfl ?_
 refine W_seq ?_
 refine W_reg ?_
 refine L_pu (P_assign (vb false) rfl) ?_
 refine L_nil ?_
 refine W_seq ?_
 refine W_seq ?_
 refine W_reg ?_
 refine L_pu (P_move (.slice A1 n2 c3) rfl) ?_
 have hl11 := hp4.le
 refine L_pu (P_len Try.underlying69 A1 n2 c3 hp4.len rfl) ?_
 refine L_pu (P_move (.slice A6 n7 c8) rfl) ?_
 have hl12 := hp9.le
 refine L_pu (P_len Try.underlying69 A6 n7 c8 hp9.len rfl) ?_
 refine L_pu (P_cmp (a.length : Int) (b.length : Int) ((a.length : Int) != (b.length : Int)) rfl rfl rfl) ?_
 refine L_nil ?_
 refine W_cond ((a.length : Int) != (b.length : Int)) rfl (fun hq13 => ?_) (fun hq13 => ?_)
 ·have H := ite_t H hq13
  refine W_seq ?_
  refine W_reg ?_
  refine L_pu (P_assign (vb false) rfl) ?_
  refine L_nil ?_
  refine W_ret ?_
  exact ⟨[vb false], ⟨_, rfl, rfl⟩, false, rfl, H, hc0.gr.g0⟩
 ·have H := ite_f H hq13
  refine W_skip ?_
  refine W_seq ?_
  refine W_seq ?_
  refine W_reg ?_
  refine L_pu (P_assign (vi 0) rfl) ?_
  refine L_nil ?_
  refine W_block ?_
  obtain ⟨I32, mu33, hI34, H⟩ := H
  refine W_loop (α := Int) (fun (sv__ : Int) t w26 => match sv__ with | i2 => I32 i2 ∧ Has t [(0, .slice A1 n2 c3), (1, .slice A6 n7 c8), (5, vi i2)] ∧ Ct [] w0 w26 [] O ∧ Sl kTag w26 (Fr ([] ++ O)) (.slice A1 n2 c3) a ∧ Sl kTag w26 (Fr ([] ++ O)) (.slice A6 n7 c8) b) (fun (sv__ : Int) => match sv__ with | i2 => mu33 i2) 0 ⟨hI34, ⟨rfl, rfl, rfl, trivial⟩, hc0, hp4, hp9⟩ ?_
  rintro i2 _ w26 ⟨hI34, hh36, hc29, h30, h31⟩
  obtain ⟨u37, rfl⟩ := Has.ins hh36
  have H := H i2 hI34
  refine W_seq ?_
  refine W_seq ?_
  refine W_reg ?_
  refine L_pu (P_move (vi i2) rfl) ?_
  refine L_pu (P_move (.slice A1 n2 c3) rfl) ?_
  have hl38 := h30.le
  refine L_pu (P_len Try.underlying69 A1 n2 c3 h30.len rfl) ?_
  refine L_pu (P_cmp i2 (a.length : Int) (decide (i2 < (a.length : Int))) rfl rfl rfl) ?_
  refine L_nil ?_
  refine W_cond (decide (i2 < (a.length : Int))) rfl (fun hq39 => ?_) (fun hq39 => ?_)
  ·have H := ite_t H hq39
   refine W_skip ?_
   refine W_seq ?_
   refine W_block ?_
   refine W_seq ?_
   refine W_draw (fun x => Gr w26 x none) (by kernel_rfl) (by kernel_rfl) (Gr.drew _) ?_
   refine Q_pu (P_move (.slice A1 n2 c3) rfl) ?_
   refine Q_pu (P_move (vi i2) rfl) ?_
   obtain ⟨hb40, H⟩ := H
   obtain ⟨ad41, cs42, hA43, hS46, hR44, hcl45⟩ := h30.get default (by decide) i2 hb40
   obtain ⟨rfl, hs47, hs48⟩ := kTag.op hR44
   refine Q_pu (P_ia Try.underlying69 se69 A1 ad41 n2 c3 h30.len i2 rfl hA43 rfl hb40) ?_
   refine Q_pu (P_lda ag133 sz133 cQ (ad41.add (i2.toNat * 2)) [vs ((nth a i2).Key), vs ((nth a i2).Val)] rfl rfl hcl45) ?_
   refine Q_pu (P_move (.slice A6 n7 c8) rfl) ?_
   refine Q_pu (P_move (vi i2) rfl) ?_
   obtain ⟨hb49, H⟩ := H
   obtain ⟨ad50, cs51, hA52, hS55, hR53, hcl54⟩ := h31.get default (by decide) i2 hb49
   obtain ⟨rfl, hs56, hs57⟩ := kTag.op hR53
   refine Q_pu (P_ia Try.underlying69 se69 A6 ad50 n7 c8 h31.len i2 rfl hA52 rfl hb49) ?_
   refine Q_pu (P_lda ag133 sz133 cQ (ad50.add (i2.toNat * 2)) [vs ((nth b i2).Key), vs ((nth b i2).Val)] rfl rfl hcl54) ?_
   refine Q_call go145 [.agg #[vs ((nth a i2).Key), vs ((nth a i2).Val)], .agg #[vs ((nth b i2).Key), vs ((nth b i2).Val)]] rfl (vb (decide ((nth a i2) = (nth b i2)))) (fun w g => (laws_eqTag.calls w (hc29.k0 g).ok (nth a i2) hs47 hs48 (nth b i2) hs56 hs57 _ (laws_eqTag.is (nth a i2) (nth b i2))).mono ?_) ?_
   ·rintro _ w ⟨r, rfl, rfl, g2⟩
    exact ⟨rfl, Gr.t0 g g2⟩
   refine Q_pu (P_not (decide ((nth a i2) = (nth b i2))) rfl) ?_
   refine Q_nil fun w63 g64 => ?_
   have hc66 := hc29.k0 g64
   refine W_cond (!(decide ((nth a i2) = (nth b i2)))) rfl (fun hq67 => ?_) (fun hq67 => ?_)
   ·have H := ite_t H hq67
    refine W_seq ?_
    refine W_reg ?_
    refine L_pu (P_assign (vb false) rfl) ?_
    refine L_nil ?_
    refine W_ret ?_
    exact ⟨[vb false], ⟨_, rfl, rfl⟩, false, rfl, H, hc66.gr.g0⟩
   ·have H := ite_f H hq67
    refine W_skip ?_
    refine W_reg ?_
    refine L_pu (P_move (vi i2) rfl) ?_
    obtain ⟨hb69, H⟩ := H
    have hi68 : I64 (i2 + 1) := i64_succ (of_decide_eq_true hq39) hl38 hb69
    refine L_pu (P_add i2 1 rfl rfl hi68) ?_
    refine L_pu (P_assign (vi (i2 + 1)) rfl) ?_
    refine L_nil ?_
    obtain ⟨hI70, hm71⟩ := H
    exact ⟨i2 + 1, hm71, hI70, ⟨rfl, rfl, rfl, trivial⟩, hc66, (h30.st (.new _ g64)), (h31.st (.new _ g64))⟩
  ·have H := ite_f H hq39
   refine W_exit (xin_hit ?_)
   refine W_seq ?_
   refine W_reg ?_
   refine L_pu (P_assign (vb true) rfl) ?_
   refine L_nil ?_
   refine W_ret ?_
   exact ⟨[vb true], ⟨_, rfl, rfl⟩, true, rfl, H, hc29.gr.g0⟩
end Go.Proofs.Ytndjggncgpjolaa

namespace Go.Proofs.Ytndjggncgpjolaa
set_option linter.unusedVariables false
set_option linter.unusedSimpArgs false
set_option linter.unusedSectionVars false
theorem laws_eqTagS.law (a b : List Tag) (Q : Bool → Prop) (hq : Q (decide (a = b))) : laws_eqTagS.E a b Q := by
 unfold laws_eqTagS.E
 exact eqS_shape (fun x y => decide (x = y)) (fun _ _ => rfl) a b Q hq
theorem laws_eqTagS.is (a b : List Tag) : laws_eqTagS.E a b (fun r => r = decide (a = b)) := laws_eqTagS.law a b _ rfl
end Go.Proofs.Ytndjggncgpjolaa

namespace Go.Proofs.Ytndjggncgpjolaa
open Go.RowKit
set_option linter.unusedVariables false
set_option linter.unusedSimpArgs false
def laws_eqFeat.E (a : Feat) (b : Feat) (Q : Bool → Prop) : Prop :=
 (if a.Id != b.Id then Q false else laws_eqShape.E a.Shape b.Shape (fun r => (if !r then Q false else laws_eqTagS.E a.Tags b.Tags (fun r2 => (if !r2 then Q false else Q true)))))
set_option maxHeartbeats 8000000 in
set_option maxRecDepth 100000 in
theorem laws_eqFeat.calls {O : Ob} (w0 : World) (hO : Ok w0 O) (a : Feat) (A2 : Option Addr) (n3 c4 : Nat) (A7 : Option Addr) (n8 c9 : Nat) (hs1 : Lim a.Id) (hp5 : Sl kPt w0 (Fr O) (.slice A2 n3 c4) a.Shape.Pts) (hp10 : Sl kTag w0 (Fr O) (.slice A7 n8 c9) a.Tags) (b : Feat) (A13 : Option Addr) (n14 c15 : Nat) (A18 : Option Addr) (n19 c20 : Nat) (hs12 : Lim b.Id) (hp16 : Sl kPt w0 (Fr O) (.slice A13 n14 c15) b.Shape.Pts) (hp21 : Sl kTag w0 (Fr O) (.slice A18 n19 c20) b.Tags) (Q : Bool → Prop) (h : laws_eqFeat.E a b Q) :
  Ret Try.prog 37 [.agg #[vs a.Id, vi a.Shape.Kind, .slice A2 n3 c4, .slice A7 n8 c9], .agg #[vs b.Id, vi b.Shape.Kind, .slice A13 n14 c15, .slice A18 n19 c20]] w0 (fun v w' => ∃ (r0 : Bool), v = vb r0 ∧ Q r0 ∧ Gr w0 w' none) := by
 have H : (if a.Id != b.Id then Q false else laws_eqShape.E a.Shape b.Shape (fun r => (if !r then Q false else laws_eqTagS.E a.Tags b.Tags (fun r2 => (if !r2 then Q false else Q true))))) := h
 clear h
 have hc0 := Ct.init hO
 refine Ret_enter Try.func37 rfl 22 rfl [.tmp 4] rfl rfl ?_
 refine W_seq ?_
 refine W_reg ?_
 refine L_box [vs a.Id, vi a.Shape.Kind, .slice A2 n3 c4, .slice A7 n8 c9] rfl fun w23 b24 hl26 hu27 g25 hx28 => ?_
 have h30 := Fb.mk hc0.ok hl26 hx28
 have hc31 := hc0.k0 g25
 refine L_box [vs b.Id, vi b.Shape.Kind, .slice A13 n14 c15, .slice A18 n19 c20] rfl fun w32 b33 hl35 hu36 g34 hx37 => ?_
 have h39 := Fb.mk hc31.ok hl35 hx37
 have hc40 := hc31.k0 g34
 refine L_pu (P_assign (vb false) rfl) ?_
 refine L_nil ?_
 refine W_seq ?_
 refine W_seq ?_
 refine W_reg ?_
 refine L_pu (P_fa fa71_0 ⟨b24, 0, none⟩ ⟨b24, 0, none⟩ rfl rfl) ?_
 have h41 := (h30.st (.new _ g34))
 refine L_pu (P_ld ag9 cL ⟨b24, 0, none⟩ (vs a.Id) rfl (h41.cell rfl)) ?_
 refine L_pu (P_fa fa71_0 ⟨b33, 0, none⟩ ⟨b33, 0, none⟩ rfl rfl) ?_
 refine L_pu (P_ld ag9 cL ⟨b33, 0, none⟩ (vs b.Id) rfl (h39.cell rfl)) ?_
 refine L_pu (P_scmp a.Id b.Id (a.Id != b.Id) rfl rfl rfl) ?_
 refine L_nil ?_
 refine W_cond (a.Id != b.Id) rfl (fun hq42 => ?_) (fun hq42 => ?_)
 ·have H := ite_t H hq42
  refine W_seq ?_
  refine W_reg ?_
  refine L_pu (P_assign (vb false) rfl) ?_
  refine L_nil ?_
  refine W_ret ?_
  exact ⟨[vb false], ⟨_, rfl, rfl⟩, false, rfl, H, hc40.gr.g0⟩
 ·have H := ite_f H hq42
  refine W_skip ?_
  refine W_seq ?_
  refine W_seq ?_
  refine W_reg ?_
  refine L_pu (P_fa fa71_1 ⟨b24, 0, none⟩ ⟨b24, 1, none⟩ rfl rfl) ?_
  refine L_pu (P_lda ag68 sz68 cL ⟨b24, 1, none⟩ [vi a.Shape.Kind, .slice A2 n3 c4] rfl rfl (h41.cells (off := 1) rfl)) ?_
  refine L_pu (P_fa fa71_1 ⟨b33, 0, none⟩ ⟨b33, 1, none⟩ rfl rfl) ?_
  refine L_pu (P_lda ag68 sz68 cL ⟨b33, 1, none⟩ [vi b.Shape.Kind, .slice A13 n14 c15] rfl rfl (h39.cells (off := 1) rfl)) ?_
  refine L_call go103 [.agg #[vi a.Shape.Kind, .slice A2 n3 c4], .agg #[vi b.Shape.Kind, .slice A13 n14 c15]] rfl ((laws_eqShape.calls w32 hc40.ok a.Shape A2 n3 c4 (hp5.st hc40.st) b.Shape A13 n14 c15 (hp16.st hc40.st) _ H).mono ?_)
  rintro _ w43 ⟨r, rfl, H, g44⟩
  have hc48 := hc40.k0 g44
  refine L_pu (P_not r rfl) ?_
  refine L_nil ?_
  refine W_cond (!r) rfl (fun hq49 => ?_) (fun hq49 => ?_)
  ·have H := ite_t H hq49
   refine W_seq ?_
   refine W_reg ?_
   refine L_pu (P_assign (vb false) rfl) ?_
   refine L_nil ?_
   refine W_ret ?_
   exact ⟨[vb false], ⟨_, rfl, rfl⟩, false, rfl, H, hc48.gr.g0⟩
  ·have H := ite_f H hq49
   refine W_skip ?_
   refine W_seq ?_
   refine W_seq ?_
   refine W_reg ?_
   refine L_pu (P_fa fa71_2 ⟨b24, 0, none⟩ ⟨b24, 3, none⟩ rfl rfl) ?_
   have h50 := (h41.st (.new _ g44))
   refine L_pu (P_ld ag69 cL ⟨b24, 3, none⟩ (.slice A7 n8 c9) rfl (h50.cell rfl)) ?_
   refine L_pu (P_fa fa71_2 ⟨b33, 0, none⟩ ⟨b33, 3, none⟩ rfl rfl) ?_
   have h51 := (h39.st (.new _ g44))
   refine L_pu (P_ld ag69 cL ⟨b33, 3, none⟩ (.slice A18 n19 c20) rfl (h51.cell rfl)) ?_
   refine L_call go104 [.slice A7 n8 c9, .slice A18 n19 c20] rfl ((laws_eqTagS.calls w43 hc48.ok a.Tags A7 n8 c9 (hp10.st hc48.st) b.Tags A18 n19 c20 (hp21.st hc48.st) _ H).mono ?_)
   rintro _ w52 ⟨r2, rfl, H, g53⟩
   have hc57 := hc48.k0 g53
   refine L_pu (P_not r2 rfl) ?_
   refine L_nil ?_
   refine W_cond (!r2) rfl (fun hq58 => ?_) (fun hq58 => ?_)
   ·have H := ite_t H hq58
    refine W_seq ?_
    refine W_reg ?_
    refine L_pu (P_assign (vb false) rfl) ?_
    refine L_nil ?_
    refine W_ret ?_
    exact ⟨[vb false], ⟨_, rfl, rfl⟩, false, rfl, H, hc57.gr.g0⟩
   ·have H := ite_f H hq58
    refine W_skip ?_
    refine W_seq ?_
    refine W_reg ?_
    refine L_pu (P_assign (vb true) rfl) ?_
    refine L_nil ?_
    refine W_ret ?_
    exact ⟨[vb true], ⟨_, rfl, rfl⟩, true, rfl, H, hc57.gr.g0⟩
end Go.Proofs.Ytndjggncgpjolaa

namespace Go.Proofs.Ytndjggncgpjolaa
set_option linter.unusedVariables false
set_option linter.unusedSimpArgs false
set_option linter.unusedSectionVars false
theorem laws_eqFeat.law (a b : Feat) (Q : Bool → Prop) (hq : Q (decide (a = b))) : laws_eqFeat.E a b Q := by
 obtain ⟨x0, x1, x2⟩ := a; obtain ⟨y0, y1, y2⟩ := b
 rw [show (decide ((⟨x0, x1, x2⟩ : Feat) = ⟨y0, y1, y2⟩)) = ((decide (x0 = y0)) && ((decide (x1 = y1)) && (decide (x2 = y2)))) by simp only [Feat.mk.injEq, Bool.decide_and]] at hq
 unfold laws_eqFeat.E
 by_cases h0 : x0 = y0
 case neg => simpa [h0] using hq
 simp only [h0, decide_true, Bool.true_and, bne_self_eq_false, Bool.not_true, Bool.false_eq_true, if_false] at hq ⊢
 try refine laws_eqShape.law _ _ _ ?_
 by_cases h1 : x1 = y1
 case neg => simpa [h1] using hq
 simp only [h1, decide_true, Bool.true_and, bne_self_eq_false, Bool.not_true, Bool.false_eq_true, if_false] at hq ⊢
 try refine laws_eqTagS.law _ _ _ ?_
 by_cases h2 : x2 = y2
 case neg => simpa [h2] using hq
 simp only [h2, decide_true, Bool.true_and, bne_self_eq_false, Bool.not_true, Bool.false_eq_true, if_false] at hq ⊢
 all_goals (try exact hq)
theorem laws_eqFeat.is (a b : Feat) : laws_eqFeat.E a b (fun r => r = decide (a = b)) := laws_eqFeat.law a b _ rfl
end Go.Proofs.Ytndjggncgpjolaa

namespace Go.Proofs.Ytndjggncgpjolaa
open Go.RowKit
set_option linter.unusedVariables false
set_option linter.unusedSimpArgs false
def laws_eqChange.E (a : Change) (b : Change) (Q : Bool → Prop) : Prop :=
 (if a.Id != b.Id then Q false else (if a.Had != b.Had then Q false else laws_eqFeat.E a.Was b.Was (fun r => (if !r then Q false else (if a.Has != b.Has then Q false else laws_eqFeat.E a.Now b.Now (fun r2 => (if !r2 then Q false else Q true)))))))
set_option maxHeartbeats 8000000 in
set_option maxRecDepth 100000 in
theorem laws_eqChange.calls {O : Ob} (w0 : World) (hO : Ok w0 O) (a : Change) (A3 : Option Addr) (n4 c5 : Nat) (A8 : Option Addr) (n9 c10 : Nat) (A14 : Option Addr) (n15 c16 : Nat) (A19 : Option Addr) (n20 c21 : Nat) (hs1 : Lim a.Id) (hs2 : Lim a.Was.Id) (hp6 : Sl kPt w0 (Fr O) (.slice A3 n4 c5) a.Was.Shape.Pts) (hp11 : Sl kTag w0 (Fr O) (.slice A8 n9 c10) a.Was.Tags) (hs13 : Lim a.Now.Id) (hp17 : Sl kPt w0 (Fr O) (.slice A14 n15 c16) a.Now.Shape.Pts) (hp22 : Sl kTag w0 (Fr O) (.slice A19 n20 c21) a.Now.Tags) (b : Change) (A26 : Option Addr) (n27 c28 : Nat) (A31 : Option Addr) (n32 c33 : Nat) (A37 : Option Addr) (n38 c39 : Nat) (A42 : Option Addr) (n43 c44 : Nat) (hs24 : Lim b.Id) (hs25 : Lim b.Was.Id) (hp29 : Sl kPt w0 (Fr O) (.slice A26 n27 c28) b.Was.Shape.Pts) (hp34 : Sl kTag w0 (Fr O) (.slice A31 n32 c33) b.Was.Tags) (hs36 : Lim b.Now.Id) (hp40 : Sl kPt w0 (Fr O) (.slice A37 n38 c39) b.Now.Shape.Pts) (hp45 : Sl kTag w0 (Fr O) (.slice A42 n43 c44) b.Now.Tags) (Q : Bool → Prop) (h : laws_eqChange.E a b Q) :
  Ret Try.prog 66 [.agg #[vs a.Id, vb a.Had, vs a.Was.Id, vi a.Was.Shape.Kind, .slice A3 n4 c5, .slice A8 n9 c10, vb a.Has, vs a.Now.Id, vi a.Now.Shape.Kind, .slice A14 n15 c16, .slice A19 n20 c21], .agg #[vs b.Id, vb b.Had, vs b.Was.Id, vi b.Was.Shape.Kind, .slice A26 n27 c28, .slice A31 n32 c33, vb b.Has, vs b.Now.Id, vi b.Now.Shape.Kind, .slice A37 n38 c39, .slice A42 n43 c44]] w0 (fun v w' => ∃ (r0 : Bool), v = vb r0 ∧ Q r0 ∧ Gr w0 w' none) := by
 have H : (if a.Id != b.Id then Q false else (if a.Had != b.Had then Q false else laws_eqFeat.E a.Was b.Was (fun r => (if !r then Q false else (if a.Has != b.Has then Q false else laws_eqFeat.E a.Now b.Now (fun r2 => (if !r2 then Q false else Q true))))))) := h
 clear h
 have hc0 := Ct.init hO
 refine Ret_enter Try.func66 rfl 32 rfl [.tmp 4] rfl rfl ?_
 refine W_seq ?_
 refine W_reg ?_
 refine L_box [vs a.Id, vb a.Had, vs a.Was.Id, vi a.Was.Shape.Kind, .slice A3 n4 c5, .slice A8 n9 c10, vb a.Has, vs a.Now.Id, vi a.Now.Shape.Kind, .slice A14 n15 c16, .slice A19 n20 c21] rfl fun w47 b48 hl50 hu51 g49 hx52 => ?_
 have h54 := Fb.mk hc0.ok hl50 hx52
 have hc55 := hc0.k0 g49
 refine L_box [vs b.Id, vb b.Had, vs b.Was.Id, vi b.Was.Shape.Kind, .slice A26 n27 c28, .slice A31 n32 c33, vb b.Has, vs b.Now.Id, vi b.Now.Shape.Kind, .slice A37 n38 c39, .slice A42 n43 c44] rfl fun w56 b57 hl59 hu60 g58 hx61 => ?_
 have h63 := Fb.mk hc55.ok hl59 hx61
 have hc64 := hc55.k0 g58
 refine L_pu (P_assign (vb false) rfl) ?_
 refine L_nil ?_
 refine W_seq ?_
 refine W_seq ?_
 refine W_reg ?_
 refine L_pu (P_fa fa103_0 ⟨b48, 0, none⟩ ⟨b48, 0, none⟩ rfl rfl) ?_
 have h65 := (h54.st (.new _ g58))
 refine L_pu (P_ld ag9 cL ⟨b48, 0, none⟩ (vs a.Id) rfl (h65.cell rfl)) ?_
 refine L_pu (P_fa fa103_0 ⟨b57, 0, none⟩ ⟨b57, 0, none⟩ rfl rfl) ?_
 refine L_pu (P_ld ag9 cL ⟨b57, 0, none⟩ (vs b.Id) rfl (h63.cell rfl)) ?_
 refine L_pu (P_scmp a.Id b.Id (a.Id != b.Id) rfl rfl rfl) ?_
 refine L_nil ?_
 refine W_cond (a.Id != b.Id) rfl (fun hq66 => ?_) (fun hq66 => ?_)
 ·have H := ite_t H hq66
  refine W_seq ?_
  refine W_reg ?_
  refine L_pu (P_assign (vb false) rfl) ?_
  refine L_nil ?_
  refine W_ret ?_
  exact ⟨[vb false], ⟨_, rfl, rfl⟩, false, rfl, H, hc64.gr.g0⟩
 ·have H := ite_f H hq66
  refine W_skip ?_
  refine W_seq ?_
  refine W_seq ?_
  refine W_reg ?_
  refine L_pu (P_fa fa103_1 ⟨b48, 0, none⟩ ⟨b48, 1, none⟩ rfl rfl) ?_
  refine L_pu (P_ld ag4 cL ⟨b48, 1, none⟩ (vb a.Had) rfl (h65.cell rfl)) ?_
  refine L_pu (P_fa fa103_1 ⟨b57, 0, none⟩ ⟨b57, 1, none⟩ rfl rfl) ?_
  refine L_pu (P_ld ag4 cL ⟨b57, 1, none⟩ (vb b.Had) rfl (h63.cell rfl)) ?_
  refine L_pu (P_bcmp Try.underlying4 a.Had b.Had (a.Had != b.Had) rfl rfl rfl) ?_
  refine L_nil ?_
  refine W_cond (a.Had != b.Had) rfl (fun hq67 => ?_) (fun hq67 => ?_)
  ·have H := ite_t H hq67
   refine W_seq ?_
   refine W_reg ?_
   refine L_pu (P_assign (vb false) rfl) ?_
   refine L_nil ?_
   refine W_ret ?_
   exact ⟨[vb false], ⟨_, rfl, rfl⟩, false, rfl, H, hc64.gr.g0⟩
  ·have H := ite_f H hq67
   refine W_skip ?_
   refine W_seq ?_
   refine W_seq ?_
   refine W_reg ?_
   refine L_pu (P_fa fa103_2 ⟨b48, 0, none⟩ ⟨b48, 2, none⟩ rfl rfl) ?_
   refine L_pu (P_lda ag71 sz71 cL ⟨b48, 2, none⟩ [vs a.Was.Id, vi a.Was.Shape.Kind, .slice A3 n4 c5, .slice A8 n9 c10] rfl rfl (h65.cells (off := 2) rfl)) ?_
   refine L_pu (P_fa fa103_2 ⟨b57, 0, none⟩ ⟨b57, 2, none⟩ rfl rfl) ?_
   refine L_pu (P_lda ag71 sz71 cL ⟨b57, 2, none⟩ [vs b.Was.Id, vi b.Was.Shape.Kind, .slice A26 n27 c28, .slice A31 n32 c33] rfl rfl (h63.cells (off := 2) rfl)) ?_
   refine L_call go37 [.agg #[vs a.Was.Id, vi a.Was.Shape.Kind, .slice A3 n4 c5, .slice A8 n9 c10], .agg #[vs b.Was.Id, vi b.Was.Shape.Kind, .slice A26 n27 c28, .slice A31 n32 c33]] rfl ((laws_eqFeat.calls w56 hc64.ok a.Was A3 n4 c5 A8 n9 c10 hs2 (hp6.st hc64.st) (hp11.st hc64.st) b.Was A26 n27 c28 A31 n32 c33 hs25 (hp29.st hc64.st) (hp34.st hc64.st) _ H).mono ?_)
   rintro _ w68 ⟨r, rfl, H, g69⟩
   have hc73 := hc64.k0 g69
   refine L_pu (P_not r rfl) ?_
   refine L_nil ?_
   refine W_cond (!r) rfl (fun hq74 => ?_) (fun hq74 => ?_)
   ·have H := ite_t H hq74
    refine W_seq ?_
    refine W_reg ?_
    refine L_pu (P_assign (vb false) rfl) ?_
    refine L_nil ?_
    refine W_ret ?_
    exact ⟨[vb false], ⟨_, rfl, rfl⟩, false, rfl, H, hc73.gr.g0⟩
   ·have H := ite_f H hq74
    refine W_skip ?_
    refine W_seq ?_
    refine W_seq ?_
    refine W_reg ?_
    refine L_pu (P_fa fa103_3 ⟨b48, 0, none⟩ ⟨b48, 6, none⟩ rfl rfl) ?_
    have h75 := (h65.st (.new _ g69))
    refine L_pu (P_ld ag4 cL ⟨b48, 6, none⟩ (vb a.Has) rfl (h75.cell rfl)) ?_
    refine L_pu (P_fa fa103_3 ⟨b57, 0, none⟩ ⟨b57, 6, none⟩ rfl rfl) ?_
    have h76 := (h63.st (.new _ g69))
    refine L_pu (P_ld ag4 cL ⟨b57, 6, none⟩ (vb b.Has) rfl (h76.cell rfl)) ?_
    refine L_pu (P_bcmp Try.underlying4 a.Has b.Has (a.Has != b.Has) rfl rfl rfl) ?_
    refine L_nil ?_
    refine W_cond (a.Has != b.Has) rfl (fun hq77 => ?_) (fun hq77 => ?_)
    ·have H := ite_t H hq77
     refine W_seq ?_
     refine W_reg ?_
     refine L_pu (P_assign (vb false) rfl) ?_
     refine L_nil ?_
     refine W_ret ?_
     exact ⟨[vb false], ⟨_, rfl, rfl⟩, false, rfl, H, hc73.gr.g0⟩
    ·have H := ite_f H hq77
     refine W_skip ?_
     refine W_seq ?_
     refine W_seq ?_
     refine W_reg ?_
     refine L_pu (P_fa fa103_4 ⟨b48, 0, none⟩ ⟨b48, 7, none⟩ rfl rfl) ?_
     refine L_pu (P_lda ag71 sz71 cL ⟨b48, 7, none⟩ [vs a.Now.Id, vi a.Now.Shape.Kind, .slice A14 n15 c16, .slice A19 n20 c21] rfl rfl (h75.cells (off := 7) rfl)) ?_
     refine L_pu (P_fa fa103_4 ⟨b57, 0, none⟩ ⟨b57, 7, none⟩ rfl rfl) ?_
     refine L_pu (P_lda ag71 sz71 cL ⟨b57, 7, none⟩ [vs b.Now.Id, vi b.Now.Shape.Kind, .slice A37 n38 c39, .slice A42 n43 c44] rfl rfl (h76.cells (off := 7) rfl)) ?_
     refine L_call go37 [.agg #[vs a.Now.Id, vi a.Now.Shape.Kind, .slice A14 n15 c16, .slice A19 n20 c21], .agg #[vs b.Now.Id, vi b.Now.Shape.Kind, .slice A37 n38 c39, .slice A42 n43 c44]] rfl ((laws_eqFeat.calls w68 hc73.ok a.Now A14 n15 c16 A19 n20 c21 hs13 (hp17.st hc73.st) (hp22.st hc73.st) b.Now A37 n38 c39 A42 n43 c44 hs36 (hp40.st hc73.st) (hp45.st hc73.st) _ H).mono ?_)
     rintro _ w78 ⟨r2, rfl, H, g79⟩
     have hc83 := hc73.k0 g79
     refine L_pu (P_not r2 rfl) ?_
     refine L_nil ?_
     refine W_cond (!r2) rfl (fun hq84 => ?_) (fun hq84 => ?_)
     ·have H := ite_t H hq84
      refine W_seq ?_
      refine W_reg ?_
      refine L_pu (P_assign (vb false) rfl) ?_
      refine L_nil ?_
      refine W_ret ?_
      exact ⟨[vb false], ⟨_, rfl, rfl⟩, false, rfl, H, hc83.gr.g0⟩
     ·have H := ite_f H hq84
      refine W_skip ?_
      refine W_seq ?_
      refine W_reg ?_
      refine L_pu (P_assign (vb true) rfl) ?_
      refine L_nil ?_
      refine W_ret ?_
      exact ⟨[vb true], ⟨_, rfl, rfl⟩, true, rfl, H, hc83.gr.g0⟩
end Go.Proofs.Ytndjggncgpjolaa

namespace Go.Proofs.Ytndjggncgpjolaa
set_option linter.unusedVariables false
set_option linter.unusedSimpArgs false
set_option linter.unusedSectionVars false
theorem laws_eqChange.law (a b : Change) (Q : Bool → Prop) (hq : Q (decide (a = b))) : laws_eqChange.E a b Q := by
 obtain ⟨x0, x1, x2, x3, x4⟩ := a; obtain ⟨y0, y1, y2, y3, y4⟩ := b
 rw [show (decide ((⟨x0, x1, x2, x3, x4⟩ : Change) = ⟨y0, y1, y2, y3, y4⟩)) = ((decide (x0 = y0)) && ((decide (x1 = y1)) && ((decide (x2 = y2)) && ((decide (x3 = y3)) && (decide (x4 = y4)))))) by simp only [Change.mk.injEq, Bool.decide_and]] at hq
 unfold laws_eqChange.E
 by_cases h0 : x0 = y0
 case neg => simpa [h0] using hq
 simp only [h0, decide_true, Bool.true_and, bne_self_eq_false, Bool.not_true, Bool.false_eq_true, if_false] at hq ⊢
 by_cases h1 : x1 = y1
 case neg => simpa [h1] using hq
 simp only [h1, decide_true, Bool.true_and, bne_self_eq_false, Bool.not_true, Bool.false_eq_true, if_false] at hq ⊢
 try refine laws_eqFeat.law _ _ _ ?_
 by_cases h2 : x2 = y2
 case neg => simpa [h2] using hq
 simp only [h2, decide_true, Bool.true_and, bne_self_eq_false, Bool.not_true, Bool.false_eq_true, if_false] at hq ⊢
 by_cases h3 : x3 = y3
 case neg => simpa [h3] using hq
 simp only [h3, decide_true, Bool.true_and, bne_self_eq_false, Bool.not_true, Bool.false_eq_true, if_false] at hq ⊢
 try refine laws_eqFeat.law _ _ _ ?_
 by_cases h4 : x4 = y4
 case neg => simpa [h4] using hq
 simp only [h4, decide_true, Bool.true_and, bne_self_eq_false, Bool.not_true, Bool.false_eq_true, if_false] at hq ⊢
 all_goals (try exact hq)
theorem laws_eqChange.is (a b : Change) : laws_eqChange.E a b (fun r => r = decide (a = b)) := laws_eqChange.law a b _ rfl
end Go.Proofs.Ytndjggncgpjolaa

namespace Go.Proofs.Ytndjggncgpjolaa
open Go.RowKit
set_option linter.unusedVariables false
set_option linter.unusedSimpArgs false
def laws_eqChangeS.E (a : List Change) (b : List Change) (Q : Bool → Prop) : Prop :=
 (if (a.length : Int) != (b.length : Int) then Q false else (∃ (I32 : Int → Prop) (mu33 : Int → Nat), I32 0 ∧ ∀ (i2 : Int), I32 i2 → (if decide (i2 < (a.length : Int)) then ((0 : Int) ≤ i2 ∧ i2 < (a.length : Int)) ∧ ((0 : Int) ≤ i2 ∧ i2 < (b.length : Int)) ∧ (if !(decide ((nth a i2) = (nth b i2))) then Q false else (-9223372036854775808 ≤ i2) ∧ I32 (i2 + 1) ∧ mu33 (i2 + 1) < mu33 i2) else Q true)))
set_option maxHeartbeats 8000000 in
set_option maxRecDepth 100000 in
theorem laws_eqChangeS.calls {O : Ob} (w0 : World) (hO : Ok w0 O) (a : List Change) (A1 : Option Addr) (n2 c3 : Nat) (hp4 : Sl kChange w0 (Fr O) (.slice A1 n2 c3) a) (b : List Change) (A6 : Option Addr) (n7 c8 : Nat) (hp9 : Sl kChange w0 (Fr O) (.slice A6 n7 c8) b) (Q : Bool → Prop) (h : laws_eqChangeS.E a b Q) :
  Ret Try.prog 22 [.slice A1 n2 c3, .slice A6 n7 c8] w0 (fun v w' => ∃ (r0 : Bool), v = vb r0 ∧ Q r0 ∧ Gr w0 w' none) := by
 have H : (if (a.length : Int) != (b.length : Int) then Q false else (∃ (I32 : Int → Prop) (mu33 : Int → Nat), I32 0 ∧ ∀ (i2 : Int), I32 i2 → (if decide (i2 < (a.length : Int)) then ((0 : Int) ≤ i2 ∧ i2 < (a.length : Int)) ∧ ((0 : Int) ≤ i2 ∧ i2 < (b.length : Int)) ∧ (if !(decide ((nth a i2) = (nth b i2))) then Q false else (-9223372036854775808 ≤ i2) ∧ I32 (i2 + 1) ∧ mu33 (i2 + 1) < mu33 i2) else Q true))) := h
 clear h
 have hc0 := Ct.init hO
 refine Ret_enter Try.func22 rfl 27 rfl [.tmp 4] rfl rfl ?_
 refine W_seq ?_
 refine W_reg ?_
 refine L_pu (P_assign (vb false) rfl) ?_
 refine L_nil ?_
 refine W_seq ?_
 refine W_seq ?_
 refine W_reg ?_
 refine L_pu (P_move (.slice A1 n2 c3) rfl) ?_
 have hl11 := hp4.le
 refine L_pu (P_len Try.underlying43 A1 n2 c3 hp4.len rfl) ?_
 refine L_pu (P_move (.slice A6 n7 c8) rfl) ?_
 have hl12 := hp9.le
 refine L_pu (P_len Try.underlying43 A6 n7 c8 hp9.len rfl) ?_
 refine L_pu (P_cmp (a.length : Int) (b.length : Int) ((a.length : Int) != (b.length : Int)) rfl rfl rfl) ?_
 refine L_nil ?_
 refine W_cond ((a.length : Int) != (b.length : Int)) rfl (fun hq13 => ?_) (fun hq13 => ?_)
 ·have H := ite_t H hq13
  refine W_seq ?_
  refine W_reg ?_
  refine L_pu (P_assign (vb false) rfl) ?_
  refine L_nil ?_
  refine W_ret ?_
  exact ⟨[vb false], ⟨_, rfl, rfl⟩, false, rfl, H, hc0.gr.g0⟩
 ·have H := ite_f H hq13
  refine W_skip ?_
  refine W_seq ?_
  refine W_seq ?_
  refine W_reg ?_
  refine L_pu (P_assign (vi 0) rfl) ?_
  refine L_nil ?_
  refine W_block ?_
  obtain ⟨I32, mu33, hI34, H⟩ := H
  refine W_loop (α := Int) (fun (sv__ : Int) t w26 => match sv__ with | i2 => I32 i2 ∧ Has t [(0, .slice A1 n2 c3), (1, .slice A6 n7 c8), (5, vi i2)] ∧ Ct [] w0 w26 [] O ∧ Sl kChange w26 (Fr ([] ++ O)) (.slice A1 n2 c3) a ∧ Sl kChange w26 (Fr ([] ++ O)) (.slice A6 n7 c8) b) (fun (sv__ : Int) => match sv__ with | i2 => mu33 i2) 0 ⟨hI34, ⟨rfl, rfl, rfl, trivial⟩, hc0, hp4, hp9⟩ ?_
  rintro i2 _ w26 ⟨hI34, hh36, hc29, h30, h31⟩
  obtain ⟨u37, rfl⟩ := Has.ins hh36
  have H := H i2 hI34
  refine W_seq ?_
  refine W_seq ?_
  refine W_reg ?_
  refine L_pu (P_move (vi i2) rfl) ?_
  refine L_pu (P_move (.slice A1 n2 c3) rfl) ?_
  have hl38 := h30.le
  refine L_pu (P_len Try.underlying43 A1 n2 c3 h30.len rfl) ?_
  refine L_pu (P_cmp i2 (a.length : Int) (decide (i2 < (a.length : Int))) rfl rfl rfl) ?_
  refine L_nil ?_
  refine W_cond (decide (i2 < (a.length : Int))) rfl (fun hq39 => ?_) (fun hq39 => ?_)
  ·have H := ite_t H hq39
   refine W_skip ?_
   refine W_seq ?_
   refine W_block ?_
   refine W_seq ?_
   refine W_draw (fun x => Gr w26 x none) (by kernel_rfl) (by kernel_rfl) (Gr.drew _) ?_
   refine Q_pu (P_move (.slice A1 n2 c3) rfl) ?_
   refine Q_pu (P_move (vi i2) rfl) ?_
   obtain ⟨hb40, H⟩ := H
   obtain ⟨ad41, cs42, hA43, hS46, hR44, hcl45⟩ := h30.get default (by decide) i2 hb40
   obtain ⟨A49, n50, c51, A54, n55, c56, A60, n61, c62, A65, n66, c67, rfl, hs47, hs48, h52, h57, hs59, h63, h68⟩ := kChange.op hR44
   refine Q_pu (P_ia Try.underlying43 se43 A1 ad41 n2 c3 h30.len i2 rfl hA43 rfl hb40) ?_
   refine Q_pu (P_lda ag103 sz103 cQ (ad41.add (i2.toNat * 11)) [vs ((nth a i2).Id), vb ((nth a i2).Had), vs ((nth a i2).Was.Id), vi ((nth a i2).Was.Shape.Kind), .slice A49 n50 c51, .slice A54 n55 c56, vb ((nth a i2).Has), vs ((nth a i2).Now.Id), vi ((nth a i2).Now.Shape.Kind), .slice A60 n61 c62, .slice A65 n66 c67] rfl rfl hcl45) ?_
   refine Q_pu (P_move (.slice A6 n7 c8) rfl) ?_
   refine Q_pu (P_move (vi i2) rfl) ?_
   obtain ⟨hb70, H⟩ := H
   obtain ⟨ad71, cs72, hA73, hS76, hR74, hcl75⟩ := h31.get default (by decide) i2 hb70
   obtain ⟨A79, n80, c81, A84, n85, c86, A90, n91, c92, A95, n96, c97, rfl, hs77, hs78, h82, h87, hs89, h93, h98⟩ := kChange.op hR74
   refine Q_pu (P_ia Try.underlying43 se43 A6 ad71 n7 c8 h31.len i2 rfl hA73 rfl hb70) ?_
   refine Q_pu (P_lda ag103 sz103 cQ (ad71.add (i2.toNat * 11)) [vs ((nth b i2).Id), vb ((nth b i2).Had), vs ((nth b i2).Was.Id), vi ((nth b i2).Was.Shape.Kind), .slice A79 n80 c81, .slice A84 n85 c86, vb ((nth b i2).Has), vs ((nth b i2).Now.Id), vi ((nth b i2).Now.Shape.Kind), .slice A90 n91 c92, .slice A95 n96 c97] rfl rfl hcl75) ?_
   refine Q_call go66 [.agg #[vs ((nth a i2).Id), vb ((nth a i2).Had), vs ((nth a i2).Was.Id), vi ((nth a i2).Was.Shape.Kind), .slice A49 n50 c51, .slice A54 n55 c56, vb ((nth a i2).Has), vs ((nth a i2).Now.Id), vi ((nth a i2).Now.Shape.Kind), .slice A60 n61 c62, .slice A65 n66 c67], .agg #[vs ((nth b i2).Id), vb ((nth b i2).Had), vs ((nth b i2).Was.Id), vi ((nth b i2).Was.Shape.Kind), .slice A79 n80 c81, .slice A84 n85 c86, vb ((nth b i2).Has), vs ((nth b i2).Now.Id), vi ((nth b i2).Now.Shape.Kind), .slice A90 n91 c92, .slice A95 n96 c97]] rfl (vb (decide ((nth a i2) = (nth b i2)))) (fun w g => (laws_eqChange.calls w (hc29.k0 g).ok (nth a i2) A49 n50 c51 A54 n55 c56 A60 n61 c62 A65 n66 c67 hs47 hs48 (h52.st (.new _ g)) (h57.st (.new _ g)) hs59 (h63.st (.new _ g)) (h68.st (.new _ g)) (nth b i2) A79 n80 c81 A84 n85 c86 A90 n91 c92 A95 n96 c97 hs77 hs78 (h82.st (.new _ g)) (h87.st (.new _ g)) hs89 (h93.st (.new _ g)) (h98.st (.new _ g)) _ (laws_eqChange.is (nth a i2) (nth b i2))).mono ?_) ?_
   ·rintro _ w ⟨r, rfl, rfl, g2⟩
    exact ⟨rfl, Gr.t0 g g2⟩
   refine Q_pu (P_not (decide ((nth a i2) = (nth b i2))) rfl) ?_
   refine Q_nil fun w105 g106 => ?_
   have hc108 := hc29.k0 g106
   refine W_cond (!(decide ((nth a i2) = (nth b i2)))) rfl (fun hq109 => ?_) (fun hq109 => ?_)
   ·have H := ite_t H hq109
    refine W_seq ?_
    refine W_reg ?_
    refine L_pu (P_assign (vb false) rfl) ?_
    refine L_nil ?_
    refine W_ret ?_
    exact ⟨[vb false], ⟨_, rfl, rfl⟩, false, rfl, H, hc108.gr.g0⟩
   ·have H := ite_f H hq109
    refine W_skip ?_
    refine W_reg ?_
    refine L_pu (P_move (vi i2) rfl) ?_
    obtain ⟨hb111, H⟩ := H
    have hi110 : I64 (i2 + 1) := i64_succ (of_decide_eq_true hq39) hl38 hb111
    refine L_pu (P_add i2 1 rfl rfl hi110) ?_
    refine L_pu (P_assign (vi (i2 + 1)) rfl) ?_
    refine L_nil ?_
    obtain ⟨hI112, hm113⟩ := H
    exact ⟨i2 + 1, hm113, hI112, ⟨rfl, rfl, rfl, trivial⟩, hc108, (h30.st (.new _ g106)), (h31.st (.new _ g106))⟩
  ·have H := ite_f H hq39
   refine W_exit (xin_hit ?_)
   refine W_seq ?_
   refine W_reg ?_
   refine L_pu (P_assign (vb true) rfl) ?_
   refine L_nil ?_
   refine W_ret ?_
   exact ⟨[vb true], ⟨_, rfl, rfl⟩, true, rfl, H, hc29.gr.g0⟩
end Go.Proofs.Ytndjggncgpjolaa

namespace Go.Proofs.Ytndjggncgpjolaa
set_option linter.unusedVariables false
set_option linter.unusedSimpArgs false
set_option linter.unusedSectionVars false
theorem laws_eqChangeS.law (a b : List Change) (Q : Bool → Prop) (hq : Q (decide (a = b))) : laws_eqChangeS.E a b Q := by
 unfold laws_eqChangeS.E
 exact eqS_shape (fun x y => decide (x = y)) (fun _ _ => rfl) a b Q hq
theorem laws_eqChangeS.is (a b : List Change) : laws_eqChangeS.E a b (fun r => r = decide (a = b)) := laws_eqChangeS.law a b _ rfl
end Go.Proofs.Ytndjggncgpjolaa

namespace Go.Proofs.Ytndjggncgpjolaa
open Go.RowKit
set_option linter.unusedVariables false
set_option linter.unusedSimpArgs false
def laws_markText.E (k : Int) (Q : Str → Prop) : Prop :=
 (if decide (k ≤ 0) then Q ([109, 48] : Str) else (∃ (I10 : Int → Str → Prop) (mu11 : Int → Str → Nat), I10 k ([] : Str) ∧ ∀ (k3 : Int) (out2 : Str), I10 k3 out2 → (if decide (k3 > 0) then ((0 : Int) ≤ k3 ∧ (0 : Int) < 10) ∧ (I64 (48 + (k3 % 10))) ∧ ((0 : Int) ≤ 48 + (k3 % 10) ∧ 48 + (k3 % 10) ≤ (255 : Int)) ∧ (([(UInt8.ofNat (48 + (k3 % 10)).toNat)] : List UInt8).length + out2.length ≤ 9223372036854775807) ∧ (((0 : Int) ≤ k3 ∧ k3 ≤ (9223372036854775807 : Int)) ∧ (0 : Int) < 10) ∧ I10 (k3 / 10) (([(UInt8.ofNat (48 + (k3 % 10)).toNat)] : List UInt8) ++ out2) ∧ mu11 (k3 / 10) (([(UInt8.ofNat (48 + (k3 % 10)).toNat)] : List UInt8) ++ out2) < mu11 k3 out2 else (([109] : Str).length + out2.length ≤ 9223372036854775807) ∧ Q (([109] : Str) ++ out2))))
set_option maxHeartbeats 8000000 in
set_option maxRecDepth 100000 in
theorem laws_markText.calls {O : Ob} (w0 : World) (hO : Ok w0 O) (k : Int) (Q : Str → Prop) (h : laws_markText.E k Q) :
  Ret Try.prog 67 [vi k] w0 (fun v w' => ∃ (r0 : Str), v = vs r0 ∧ Q r0 ∧ Gr w0 w' none ∧ Lim r0) := by
 have H : (if decide (k ≤ 0) then Q ([109, 48] : Str) else (∃ (I10 : Int → Str → Prop) (mu11 : Int → Str → Nat), I10 k ([] : Str) ∧ ∀ (k3 : Int) (out2 : Str), I10 k3 out2 → (if decide (k3 > 0) then ((0 : Int) ≤ k3 ∧ (0 : Int) < 10) ∧ (I64 (48 + (k3 % 10))) ∧ ((0 : Int) ≤ 48 + (k3 % 10) ∧ 48 + (k3 % 10) ≤ (255 : Int)) ∧ (([(UInt8.ofNat (48 + (k3 % 10)).toNat)] : List UInt8).length + out2.length ≤ 9223372036854775807) ∧ (((0 : Int) ≤ k3 ∧ k3 ≤ (9223372036854775807 : Int)) ∧ (0 : Int) < 10) ∧ I10 (k3 / 10) (([(UInt8.ofNat (48 + (k3 % 10)).toNat)] : List UInt8) ++ out2) ∧ mu11 (k3 / 10) (([(UInt8.ofNat (48 + (k3 % 10)).toNat)] : List UInt8) ++ out2) < mu11 k3 out2 else (([109] : Str).length + out2.length ≤ 9223372036854775807) ∧ Q (([109] : Str) ++ out2)))) := h
 clear h
 have hc0 := Ct.init hO
 refine Ret_enter Try.func67 rfl 20 rfl [.tmp 2] rfl rfl ?_
 refine W_seq ?_
 refine W_reg ?_
 refine L_pu (P_assign (vs ([] : Str)) rfl) ?_
 refine L_nil ?_
 refine W_seq ?_
 refine W_seq ?_
 refine W_reg ?_
 refine L_pu (P_move (vi k) rfl) ?_
 refine L_pu (P_cmp k 0 (decide (k ≤ 0)) rfl rfl rfl) ?_
 refine L_nil ?_
 refine W_cond (decide (k ≤ 0)) rfl (fun hq1 => ?_) (fun hq1 => ?_)
 ·have H := ite_t H hq1
  refine W_seq ?_
  refine W_reg ?_
  refine L_pu (P_assign (vs ([109, 48] : Str)) rfl) ?_
  refine L_nil ?_
  refine W_ret ?_
  exact ⟨[vs ([109, 48] : Str)], ⟨_, rfl, rfl⟩, ([109, 48] : Str), rfl, H, hc0.gr.g0, (by decide)⟩
 ·have H := ite_f H hq1
  refine W_skip ?_
  refine W_seq ?_
  refine W_reg ?_
  refine L_pu (P_assign (vs ([] : Str)) rfl) ?_
  refine L_nil ?_
  refine W_seq ?_
  refine W_block ?_
  obtain ⟨I10, mu11, hI12, H⟩ := H
  refine W_loop (α := Int × Str) (fun (sv__ : Int × Str) t w7 => match sv__ with | (k3, out2) => I10 k3 out2 ∧ Has t [(0, vi k3), (3, vs out2)] ∧ Ct [] w0 w7 [] O ∧ Lim out2) (fun (sv__ : Int × Str) => match sv__ with | (k3, out2) => mu11 k3 out2) (k, ([] : Str)) ⟨hI12, ⟨rfl, rfl, trivial⟩, hc0, (by decide)⟩ ?_
  rintro ⟨k3, out2⟩ _ w7 ⟨hI12, hh14, hc9, hs8⟩
  obtain ⟨u15, rfl⟩ := Has.ins hh14
  have H := H k3 out2 hI12
  refine W_seq ?_
  refine W_seq ?_
  refine W_reg ?_
  refine L_pu (P_move (vi k3) rfl) ?_
  refine L_pu (P_cmp k3 0 (decide (k3 > 0)) rfl rfl rfl) ?_
  refine L_nil ?_
  refine W_cond (decide (k3 > 0)) rfl (fun hq16 => ?_) (fun hq16 => ?_)
  ·have H := ite_t H hq16
   refine W_skip ?_
   refine W_block ?_
   refine W_seq ?_
   refine W_reg ?_
   refine L_pu (P_move (vi k3) rfl) ?_
   obtain ⟨hb17, H⟩ := H
   refine L_pu (P_rem k3 10 rfl rfl hb17) ?_
   obtain ⟨hb18, H⟩ := H
   refine L_pu (P_add 48 (k3 % 10) rfl rfl hb18) ?_
   obtain ⟨hb19, H⟩ := H
   refine L_pu (P_convb Try.underlying3 Try.underlying5 (48 + (k3 % 10)) rfl hb19) ?_
   refine L_lit (kd := Kd.byte) ei22 hc9 ([(UInt8.ofNat (48 + (k3 % 10)).toNat)] : List UInt8) (cells := [v8 (UInt8.ofNat (48 + (k3 % 10)).toNat)]) ⟨[v8 (UInt8.ofNat (48 + (k3 % 10)).toNat)], _, rfl, rfl, rfl⟩ (fun _ => by kernel_rfl) fun w20 A21 n22 c23 g24 hr25 hc26 h27 => ?_
   refine L_pu (P_b2s Try.underlying22 Try.underlying5 Try.underlying9 A21 n22 c23 ([(UInt8.ofNat (48 + (k3 % 10)).toNat)] : List UInt8) rfl (fun _ e => e ▸ ⟨_, h27.sx⟩)) ?_
   have hs29 : Lim ([(UInt8.ofNat (48 + (k3 % 10)).toNat)] : List UInt8) := h27.le
   refine L_pu (P_move (vs out2) rfl) ?_
   obtain ⟨hb30, H⟩ := H
   refine L_pu (P_cat ([(UInt8.ofNat (48 + (k3 % 10)).toNat)] : List UInt8) out2 rfl rfl hb30) ?_
   refine L_pu (P_assign (vs (([(UInt8.ofNat (48 + (k3 % 10)).toNat)] : List UInt8) ++ out2)) rfl) ?_
   refine L_nil ?_
   refine W_reg ?_
   refine L_pu (P_move (vi k3) rfl) ?_
   obtain ⟨hb31, H⟩ := H
   refine L_pu (P_quo k3 10 rfl rfl hb31) ?_
   refine L_pu (P_assign (vi (k3 / 10)) rfl) ?_
   refine L_nil ?_
   have hc32 := hc26.drop 0 rfl
   obtain ⟨hI33, hm34⟩ := H
   exact ⟨(k3 / 10, (([(UInt8.ofNat (48 + (k3 % 10)).toNat)] : List UInt8) ++ out2)), hm34, hI33, ⟨rfl, rfl, trivial⟩, hc32, (lim_cat hb30)⟩
  ·have H := ite_f H hq16
   refine W_exit (xin_hit ?_)
   refine W_seq ?_
   refine W_reg ?_
   refine L_pu (P_move (vs out2) rfl) ?_
   obtain ⟨hb35, H⟩ := H
   refine L_pu (P_cat ([109] : Str) out2 rfl rfl hb35) ?_
   refine L_pu (P_assign (vs (([109] : Str) ++ out2)) rfl) ?_
   refine L_nil ?_
   refine W_ret ?_
   exact ⟨[vs (([109] : Str) ++ out2)], ⟨_, rfl, rfl⟩, (([109] : Str) ++ out2), rfl, H, hc9.gr.g0, (lim_cat hb35)⟩
end Go.Proofs.Ytndjggncgpjolaa

namespace Go.Proofs.Ytndjggncgpjolaa
set_option linter.unusedVariables false
set_option linter.unusedSimpArgs false
set_option linter.unusedSectionVars false
theorem laws_markText.law' (k : Int) (Q : Str → Prop) (h0 : 0 ≤ k) (h1 : k ≤ 1000000000000) (hq : Lim (tx k) → Q (tx k)) : laws_markText.E k Q := by
 unfold laws_markText.E
 by_cases hk : k ≤ 0
 ·rw [if_pos (by simpa using hk)]
  have e : tx k = [109, 48] := by unfold tx; rw [if_pos hk]
  rw [e] at hq; exact hq (by decide)
 ·rw [if_neg (by simpa using hk)]
  refine ⟨fun k' out => 0 ≤ k' ∧ (out.length : Int) + k' ≤ k ∧ ∃ f : Nat, k' ≤ f ∧ decA f k' out = decA k.toNat k [], fun k' _ => k'.toNat, ⟨h0, by simp, k.toNat, by omega, rfl⟩, ?_⟩
  rintro k' out ⟨h2, h3, f, h4, h5⟩
  by_cases hp : 0 < k'
  ·rw [if_pos (by simpa using hp)]
   obtain ⟨f, rfl⟩ : ∃ f', f = f' + 1 := ⟨f - 1, by omega⟩
   refine ⟨⟨h2, by omega⟩, by unfold I64; omega, ⟨by omega, by omega⟩, by simp only [List.length_cons, List.length_nil]; omega, ⟨⟨h2, by omega⟩, by omega⟩, ⟨by omega, by simp only [List.length_append, List.length_cons, List.length_nil]; omega, f, by omega, ?_⟩, by dsimp only; omega⟩
   rw [← h5]
   conv => rhs; unfold decA
   rw [if_pos hp]; rfl
  ·rw [if_neg (by simpa using hp)]
   rw [decA_stop f hp] at h5
   have e : tx k = [109] ++ out := by unfold tx; rw [if_neg hk, h5]
   have hl : ([109] : Str).length + out.length ≤ 9223372036854775807 := by simp only [List.length_cons, List.length_nil]; omega
   refine ⟨hl, ?_⟩
   rw [e] at hq
   exact hq (by unfold Lim; rw [List.length_append]; exact hl)
theorem laws_markText.law (k : Int) (Q : Str → Prop) (h0 : 0 ≤ k) (h1 : k ≤ 1000000000000) (hq : Q (tx k)) : laws_markText.E k Q := laws_markText.law' k Q h0 h1 fun _ => hq
theorem tx_lim (k : Int) (h0 : 0 ≤ k) (h1 : k ≤ 1000000000000) : Lim (tx k) := by
 obtain ⟨h, e⟩ : ∃ q, q = Lim (tx k) := ⟨_, rfl⟩
 by_cases hk : k ≤ 0
 ·unfold tx; rw [if_pos hk]; decide
 ·have key : ∀ (f : Nat) (k' : Int) (out : Str), 0 ≤ k' → (out.length : Int) + k' ≤ k → ((decA f k' out).length : Int) ≤ k := by
   intro f
   induction f with
   | zero => intro k' out h2 h3; unfold decA; omega
   | succ f ih =>
    intro k' out h2 h3
    unfold decA
    by_cases hp : 0 < k'
    ·rw [if_pos hp]; exact ih _ _ (by omega) (by simp only [List.length_cons]; omega)
    ·rw [if_neg hp]; omega
  have := key k.toNat k [] h0 (by simp)
  unfold tx Lim; rw [if_neg hk, List.length_append]
  simp only [List.length_cons, List.length_nil]; omega
theorem laws_markText.q (k : Int) (h0 : 0 ≤ k) (h1 : k ≤ 1000000000000) : laws_markText.E k (fun x => x = tx k) := laws_markText.law k _ h0 h1 rfl
end Go.Proofs.Ytndjggncgpjolaa

namespace Go.Proofs.Ytndjggncgpjolaa
open Go.RowKit
set_option linter.unusedVariables false
set_option linter.unusedSimpArgs false
def laws_markPtS.E (a : List Pt) (k : Int) (Q : Int → List Pt → Prop) : Prop :=
 (∃ (I23 : (List Pt) → Int → Int → Prop) (mu24 : (List Pt) → Int → Int → Nat), I23 a k 0 ∧ ∀ (xs2 : List Pt) (k3 : Int) (i2 : Int), I23 xs2 k3 i2 → (if decide (i2 < (xs2.length : Int)) then ((0 : Int) ≤ i2 ∧ i2 < (xs2.length : Int)) ∧ ((xs2.length : Int) ≤ 9223372036854775807 → I64 (k3 + 1)) ∧ ((0 : Int) ≤ i2 ∧ i2 < ((xs2.set i2.toNat (⟨k3, (nth xs2 i2).Y⟩ : Pt)).length : Int)) ∧ ((xs2.length : Int) ≤ 9223372036854775807 → I64 (k3 + 1 + 1)) ∧ (-9223372036854775808 ≤ i2) ∧ I23 ((xs2.set i2.toNat (⟨k3, (nth xs2 i2).Y⟩ : Pt)).set i2.toNat (⟨(nth (xs2.set i2.toNat (⟨k3, (nth xs2 i2).Y⟩ : Pt)) i2).X, k3 + 1⟩ : Pt)) (k3 + 1 + 1) (i2 + 1) ∧ mu24 ((xs2.set i2.toNat (⟨k3, (nth xs2 i2).Y⟩ : Pt)).set i2.toNat (⟨(nth (xs2.set i2.toNat (⟨k3, (nth xs2 i2).Y⟩ : Pt)) i2).X, k3 + 1⟩ : Pt)) (k3 + 1 + 1) (i2 + 1) < mu24 xs2 k3 i2 else Q k3 xs2))
set_option maxHeartbeats 8000000 in
set_option maxRecDepth 100000 in
theorem laws_markPtS.calls {O : Ob} (w0 : World) (hO : Ok w0 O) (A1 : Option Addr) (n2 c3 : Nat) (a : List Pt) (hp0 : Ow kPt 29 w0 O (.slice A1 n2 c3) a) (k : Int) (Q : Int → List Pt → Prop) (h : laws_markPtS.E a k Q) :
  Ret Try.prog 68 [.slice A1 n2 c3, vi k] w0 (fun v w' => ∃ (r0 : Int) (m0 : List Pt), v = vi r0 ∧ Q r0 m0 ∧ Gr w0 w' (blk (.slice A1 n2 c3)) ∧ Ow kPt 29 w' O (.slice A1 n2 c3) m0) := by
 have H : (∃ (I23 : (List Pt) → Int → Int → Prop) (mu24 : (List Pt) → Int → Int → Nat), I23 a k 0 ∧ ∀ (xs2 : List Pt) (k3 : Int) (i2 : Int), I23 xs2 k3 i2 → (if decide (i2 < (xs2.length : Int)) then ((0 : Int) ≤ i2 ∧ i2 < (xs2.length : Int)) ∧ ((xs2.length : Int) ≤ 9223372036854775807 → I64 (k3 + 1)) ∧ ((0 : Int) ≤ i2 ∧ i2 < ((xs2.set i2.toNat (⟨k3, (nth xs2 i2).Y⟩ : Pt)).length : Int)) ∧ ((xs2.length : Int) ≤ 9223372036854775807 → I64 (k3 + 1 + 1)) ∧ (-9223372036854775808 ≤ i2) ∧ I23 ((xs2.set i2.toNat (⟨k3, (nth xs2 i2).Y⟩ : Pt)).set i2.toNat (⟨(nth (xs2.set i2.toNat (⟨k3, (nth xs2 i2).Y⟩ : Pt)) i2).X, k3 + 1⟩ : Pt)) (k3 + 1 + 1) (i2 + 1) ∧ mu24 ((xs2.set i2.toNat (⟨k3, (nth xs2 i2).Y⟩ : Pt)).set i2.toNat (⟨(nth (xs2.set i2.toNat (⟨k3, (nth xs2 i2).Y⟩ : Pt)) i2).X, k3 + 1⟩ : Pt)) (k3 + 1 + 1) (i2 + 1) < mu24 xs2 k3 i2 else Q k3 xs2)) := h
 clear h
 have hc0 := Ct.initm1 (r := blk (.slice A1 n2 c3)) hO (by intro b e; exact hp0.mem b e)
 refine Ret_enter Try.func68 rfl 27 rfl [.tmp 4] rfl rfl ?_
 refine W_seq ?_
 refine W_reg ?_
 refine L_pu (P_assign (vi 0) rfl) ?_
 refine L_nil ?_
 refine W_seq ?_
 refine W_seq ?_
 refine W_reg ?_
 refine L_pu (P_assign (vi 0) rfl) ?_
 refine L_nil ?_
 refine W_block ?_
 obtain ⟨I23, mu24, hI25, H⟩ := H
 refine W_loop (α := (List Pt) × Int × Int) (fun (sv__ : (List Pt) × Int × Int) t w16 => match sv__ with | (xs2, k3, i2) => I23 xs2 k3 i2 ∧ Has t [(0, .slice A1 n2 c3), (1, vi k3), (5, vi i2)] ∧ Ct [blk (.slice A1 n2 c3)] w0 w16 [] O ∧ Ow kPt 29 w16 O (.slice A1 n2 c3) xs2) (fun (sv__ : (List Pt) × Int × Int) => match sv__ with | (xs2, k3, i2) => mu24 xs2 k3 i2) (a, k, 0) ⟨hI25, ⟨rfl, rfl, rfl, trivial⟩, hc0, hp0⟩ ?_
 rintro ⟨xs2, k3, i2⟩ _ w16 ⟨hI25, hh27, hc21, h22⟩
 obtain ⟨u28, rfl⟩ := Has.ins hh27
 have H := H xs2 k3 i2 hI25
 refine W_seq ?_
 refine W_seq ?_
 refine W_reg ?_
 refine L_pu (P_move (vi i2) rfl) ?_
 refine L_pu (P_move (.slice A1 n2 c3) rfl) ?_
 have hl29 := h22.le
 refine L_pu (P_len Try.underlying23 A1 n2 c3 h22.len rfl) ?_
 refine L_pu (P_cmp i2 (xs2.length : Int) (decide (i2 < (xs2.length : Int))) rfl rfl rfl) ?_
 refine L_nil ?_
 refine W_cond (decide (i2 < (xs2.length : Int))) rfl (fun hq30 => ?_) (fun hq30 => ?_)
 ·have H := ite_t H hq30
  refine W_skip ?_
  refine W_seq ?_
  refine W_block ?_
  refine W_seq ?_
  refine W_reg ?_
  refine L_pu (P_move (.slice A1 n2 c3) rfl) ?_
  refine L_pu (P_move (vi i2) rfl) ?_
  refine L_pu (P_move (vi k3) rfl) ?_
  obtain ⟨hb31, H⟩ := H
  obtain ⟨ad32, cs33, hA34, hR35, hcl36⟩ := h22.get default (by decide) i2 hb31
  obtain rfl := kPt.op hR35
  refine L_pu (P_ia Try.underlying23 se23 A1 ad32 n2 c3 h22.len i2 rfl hA34 rfl hb31) ?_
  refine L_pu (P_fa fa29_0 (ad32.add (i2.toNat * 2)) ((ad32.add (i2.toNat * 2)).add 0) rfl rfl) ?_
  refine L_ste1 A1 n2 c3 xs2 h22 i2 hb31 ad32 hA34 0 rfl [vi k3] rfl sz3 rfl (⟨k3, (nth xs2 i2).Y⟩ : Pt) [vi ((nth xs2 i2).X), vi ((nth xs2 i2).Y)] [vi k3, vi ((nth xs2 i2).Y)] hcl36 rfl rfl (kPt.mk _ _ (⟨k3, (nth xs2 i2).Y⟩ : Pt)) fun w38 g39 h40 => ?_
  have hc41 := hc21.wm g39
  refine L_nil ?_
  refine W_seq ?_
  refine W_reg ?_
  refine L_pu (P_move (vi k3) rfl) ?_
  obtain ⟨hb42, H⟩ := H
  have hi43 := hb42 (len_le hl29)
  refine L_pu (P_add k3 1 rfl rfl hi43) ?_
  refine L_pu (P_assign (vi (k3 + 1)) rfl) ?_
  refine L_nil ?_
  refine W_seq ?_
  refine W_reg ?_
  refine L_pu (P_move (.slice A1 n2 c3) rfl) ?_
  refine L_pu (P_move (vi i2) rfl) ?_
  refine L_pu (P_move (vi (k3 + 1)) rfl) ?_
  obtain ⟨hb44, H⟩ := H
  obtain ⟨ad45, cs46, hA47, hR48, hcl49⟩ := h40.get default (by decide) i2 hb44
  obtain rfl := kPt.op hR48
  refine L_pu (P_ia Try.underlying23 se23 A1 ad45 n2 c3 h40.len i2 rfl hA47 rfl hb44) ?_
  refine L_pu (P_fa fa29_1 (ad45.add (i2.toNat * 2)) ((ad45.add (i2.toNat * 2)).add 1) rfl rfl) ?_
  refine L_ste1 A1 n2 c3 (xs2.set i2.toNat (⟨k3, (nth xs2 i2).Y⟩ : Pt)) h40 i2 hb44 ad45 hA47 1 rfl [vi (k3 + 1)] rfl sz3 rfl (⟨(nth (xs2.set i2.toNat (⟨k3, (nth xs2 i2).Y⟩ : Pt)) i2).X, k3 + 1⟩ : Pt) [vi ((nth (xs2.set i2.toNat (⟨k3, (nth xs2 i2).Y⟩ : Pt)) i2).X), vi ((nth (xs2.set i2.toNat (⟨k3, (nth xs2 i2).Y⟩ : Pt)) i2).Y)] [vi ((nth (xs2.set i2.toNat (⟨k3, (nth xs2 i2).Y⟩ : Pt)) i2).X), vi (k3 + 1)] hcl49 rfl rfl (kPt.mk _ _ (⟨(nth (xs2.set i2.toNat (⟨k3, (nth xs2 i2).Y⟩ : Pt)) i2).X, k3 + 1⟩ : Pt)) fun w51 g52 h53 => ?_
  have hc54 := hc41.wm g52
  refine L_nil ?_
  refine W_reg ?_
  refine L_pu (P_move (vi (k3 + 1)) rfl) ?_
  obtain ⟨hb55, H⟩ := H
  have hi56 := hb55 (len_le hl29)
  refine L_pu (P_add (k3 + 1) 1 rfl rfl hi56) ?_
  refine L_pu (P_assign (vi (k3 + 1 + 1)) rfl) ?_
  refine L_nil ?_
  refine W_reg ?_
  refine L_pu (P_move (vi i2) rfl) ?_
  obtain ⟨hb58, H⟩ := H
  have hi57 : I64 (i2 + 1) := i64_succ (of_decide_eq_true hq30) hl29 hb58
  refine L_pu (P_add i2 1 rfl rfl hi57) ?_
  refine L_pu (P_assign (vi (i2 + 1)) rfl) ?_
  refine L_nil ?_
  obtain ⟨hI59, hm60⟩ := H
  exact ⟨(((xs2.set i2.toNat (⟨k3, (nth xs2 i2).Y⟩ : Pt)).set i2.toNat (⟨(nth (xs2.set i2.toNat (⟨k3, (nth xs2 i2).Y⟩ : Pt)) i2).X, k3 + 1⟩ : Pt)), k3 + 1 + 1, i2 + 1), hm60, hI59, ⟨rfl, rfl, rfl, trivial⟩, hc54, h53⟩
 ·have H := ite_f H hq30
  refine W_exit (xin_hit ?_)
  refine W_seq ?_
  refine W_reg ?_
  refine L_pu (P_move (vi k3) rfl) ?_
  refine L_pu (P_assign (vi k3) rfl) ?_
  refine L_nil ?_
  refine W_ret ?_
  exact ⟨[vi k3], ⟨_, rfl, rfl⟩, k3, xs2, rfl, H, hc21.gr.g1, h22⟩
end Go.Proofs.Ytndjggncgpjolaa

namespace Go.Proofs.Ytndjggncgpjolaa
set_option linter.unusedVariables false
set_option linter.unusedSimpArgs false
set_option linter.unusedSectionVars false
def markedPt (n : Nat) (k : Int) : List Pt := (List.range n).map fun i : Nat => ⟨k + 2 * (i : Int), k + 2 * (i : Int) + 1⟩
theorem markedPt_len (n : Nat) (k : Int) : (markedPt n k).length = n := by simp [markedPt]
theorem markedPt_nth (n : Nat) (k : Int) {i : Nat} (h : i < n) : nth (markedPt n k) (i : Int) = ⟨k + 2 * i, k + 2 * i + 1⟩ := by
 rw [nth_nat _ (by rw [markedPt_len]; exact h)]; simp [markedPt]
theorem laws_markPtS.law (a : List Pt) (k : Int) (Q : Int → List Pt → Prop) (ha : a.length ≤ 1048576) (h0 : 0 ≤ k) (h1 : k ≤ 1000000000) (hq : Q (k + 2 * a.length) (markedPt a.length k)) : laws_markPtS.E a k Q := by
 unfold laws_markPtS.E
 refine ⟨fun xs k' i => ∃ u : Nat, i = u ∧ u ≤ a.length ∧ k' = k + 2 * u ∧ xs.length = a.length ∧ xs.take u = markedPt u k, fun _ _ i => (a.length - i).toNat, ⟨0, rfl, Nat.zero_le _, by omega, rfl, rfl⟩, ?_⟩
 rintro xs _ _ ⟨u, rfl, hu, rfl, hl, ht⟩
 rw [hl]
 by_cases h : (u : Int) < (a.length : Int)
 ·rw [if_pos (by simpa using h)]
  have hu' : u < xs.length := by omega
  rw [Int.toNat_natCast, nth_set _ hu', if_pos rfl, List.set_set]
  refine ⟨by omega, fun _ => by unfold I64; omega, by simp only [List.length_set]; omega, fun _ => by unfold I64; omega, by omega, ⟨u + 1, by omega, by omega, by omega, by rw [List.length_set]; exact hl, ?_⟩, by dsimp only; omega⟩
  rw [List.take_succ_eq_append_getElem (by rw [List.length_set]; exact hu'), List.getElem_set_self, List.take_set_of_le (Nat.le_refl _), ht]
  unfold markedPt
  rw [List.range_succ, List.map_append]
  rfl
 ·rw [if_neg (by simpa using h)]
  have : u = a.length := by omega
  subst this
  rw [List.take_of_length_le (by omega)] at ht
  rw [ht]; exact hq
theorem laws_markPtS.lawk (a : List Pt) (k : Int) (Q : Int → List Pt → Prop) (ha : bulk a ≤ 1048576) (h0 : 0 ≤ k) (h1 : k ≤ 1000000000) (hq : Q (mkL gPt a k).2 (mkL gPt a k).1) : laws_markPtS.E a k Q := by
 unfold laws_markPtS.E
 have hbl := bulk_len a
 refine ⟨fun xs k' i => ∃ u : Nat, i = u ∧ Mk gPt a k u xs k', fun _ _ i => (a.length - i).toNat, ⟨0, rfl, .zero a k⟩, ?_⟩
 rintro xs k' _ ⟨u, rfl, M⟩
 have hl := M.len
 have hb := M.bd gPt_bd
 rw [hl]
 by_cases h : u < a.length
 ·rw [if_pos (by simpa using h)]
  have hu' : u < xs.length := by omega
  rw [Int.toNat_natCast, nth_set _ hu', if_pos rfl, List.set_set]
  exact ⟨by omega, fun _ => by unfold I64; omega, by simp only [List.length_set]; omega, fun _ => by unfold I64; omega, by omega, ⟨u + 1, by omega, M.next h (by show _ = (_, _); unfold gPt; rw [Int.add_assoc]; rfl)⟩, by dsimp only; omega⟩
 ·rw [if_neg (by simpa using h)]
  obtain ⟨rfl, rfl⟩ := M.full h
  exact hq
end Go.Proofs.Ytndjggncgpjolaa

namespace Go.Proofs.Ytndjggncgpjolaa
open Go.RowKit
set_option linter.unusedVariables false
set_option linter.unusedSimpArgs false
def laws_markTagS.E (a : List Tag) (k : Int) (Q : Int → List Tag → Prop) : Prop :=
 (∃ (I23 : (List Tag) → Int → Int → Prop) (mu24 : (List Tag) → Int → Int → Nat), I23 a k 0 ∧ ∀ (xs2 : List Tag) (k3 : Int) (i2 : Int), I23 xs2 k3 i2 → (if decide (i2 < (xs2.length : Int)) then laws_markText.E k3 (fun r => ((0 : Int) ≤ i2 ∧ i2 < (xs2.length : Int)) ∧ ((xs2.length : Int) ≤ 9223372036854775807 → I64 (k3 + 1)) ∧ laws_markText.E (k3 + 1) (fun r2 => ((0 : Int) ≤ i2 ∧ i2 < ((xs2.set i2.toNat (⟨r, (nth xs2 i2).Val⟩ : Tag)).length : Int)) ∧ ((xs2.length : Int) ≤ 9223372036854775807 → I64 (k3 + 1 + 1)) ∧ (-9223372036854775808 ≤ i2) ∧ I23 ((xs2.set i2.toNat (⟨r, (nth xs2 i2).Val⟩ : Tag)).set i2.toNat (⟨(nth (xs2.set i2.toNat (⟨r, (nth xs2 i2).Val⟩ : Tag)) i2).Key, r2⟩ : Tag)) (k3 + 1 + 1) (i2 + 1) ∧ mu24 ((xs2.set i2.toNat (⟨r, (nth xs2 i2).Val⟩ : Tag)).set i2.toNat (⟨(nth (xs2.set i2.toNat (⟨r, (nth xs2 i2).Val⟩ : Tag)) i2).Key, r2⟩ : Tag)) (k3 + 1 + 1) (i2 + 1) < mu24 xs2 k3 i2)) else Q k3 xs2))
set_option maxHeartbeats 8000000 in
set_option maxRecDepth 100000 in
theorem laws_markTagS.calls {O : Ob} (w0 : World) (hO : Ok w0 O) (A1 : Option Addr) (n2 c3 : Nat) (a : List Tag) (hp0 : Ow kTag 133 w0 O (.slice A1 n2 c3) a) (k : Int) (Q : Int → List Tag → Prop) (h : laws_markTagS.E a k Q) :
  Ret Try.prog 69 [.slice A1 n2 c3, vi k] w0 (fun v w' => ∃ (r0 : Int) (m0 : List Tag), v = vi r0 ∧ Q r0 m0 ∧ Gr w0 w' (blk (.slice A1 n2 c3)) ∧ Ow kTag 133 w' O (.slice A1 n2 c3) m0) := by
 have H : (∃ (I23 : (List Tag) → Int → Int → Prop) (mu24 : (List Tag) → Int → Int → Nat), I23 a k 0 ∧ ∀ (xs2 : List Tag) (k3 : Int) (i2 : Int), I23 xs2 k3 i2 → (if decide (i2 < (xs2.length : Int)) then laws_markText.E k3 (fun r => ((0 : Int) ≤ i2 ∧ i2 < (xs2.length : Int)) ∧ ((xs2.length : Int) ≤ 9223372036854775807 → I64 (k3 + 1)) ∧ laws_markText.E (k3 + 1) (fun r2 => ((0 : Int) ≤ i2 ∧ i2 < ((xs2.set i2.toNat (⟨r, (nth xs2 i2).Val⟩ : Tag)).length : Int)) ∧ ((xs2.length : Int) ≤ 9223372036854775807 → I64 (k3 + 1 + 1)) ∧ (-9223372036854775808 ≤ i2) ∧ I23 ((xs2.set i2.toNat (⟨r, (nth xs2 i2).Val⟩ : Tag)).set i2.toNat (⟨(nth (xs2.set i2.toNat (⟨r, (nth xs2 i2).Val⟩ : Tag)) i2).Key, r2⟩ : Tag)) (k3 + 1 + 1) (i2 + 1) ∧ mu24 ((xs2.set i2.toNat (⟨r, (nth xs2 i2).Val⟩ : Tag)).set i2.toNat (⟨(nth (xs2.set i2.toNat (⟨r, (nth xs2 i2).Val⟩ : Tag)) i2).Key, r2⟩ : Tag)) (k3 + 1 + 1) (i2 + 1) < mu24 xs2 k3 i2)) else Q k3 xs2)) := h
 clear h
 have hc0 := Ct.initm1 (r := blk (.slice A1 n2 c3)) hO (by intro b e; exact hp0.mem b e)
 refine Ret_enter Try.func69 rfl 29 rfl [.tmp 4] rfl rfl ?_
 refine W_seq ?_
 refine W_reg ?_
 refine L_pu (P_assign (vi 0) rfl) ?_
 refine L_nil ?_
 refine W_seq ?_
 refine W_seq ?_
 refine W_reg ?_
 refine L_pu (P_assign (vi 0) rfl) ?_
 refine L_nil ?_
 refine W_block ?_
 obtain ⟨I23, mu24, hI25, H⟩ := H
 refine W_loop (α := (List Tag) × Int × Int) (fun (sv__ : (List Tag) × Int × Int) t w16 => match sv__ with | (xs2, k3, i2) => I23 xs2 k3 i2 ∧ Has t [(0, .slice A1 n2 c3), (1, vi k3), (5, vi i2)] ∧ Ct [blk (.slice A1 n2 c3)] w0 w16 [] O ∧ Ow kTag 133 w16 O (.slice A1 n2 c3) xs2) (fun (sv__ : (List Tag) × Int × Int) => match sv__ with | (xs2, k3, i2) => mu24 xs2 k3 i2) (a, k, 0) ⟨hI25, ⟨rfl, rfl, rfl, trivial⟩, hc0, hp0⟩ ?_
 rintro ⟨xs2, k3, i2⟩ _ w16 ⟨hI25, hh27, hc21, h22⟩
 obtain ⟨u28, rfl⟩ := Has.ins hh27
 have H := H xs2 k3 i2 hI25
 refine W_seq ?_
 refine W_seq ?_
 refine W_reg ?_
 refine L_pu (P_move (vi i2) rfl) ?_
 refine L_pu (P_move (.slice A1 n2 c3) rfl) ?_
 have hl29 := h22.le
 refine L_pu (P_len Try.underlying69 A1 n2 c3 h22.len rfl) ?_
 refine L_pu (P_cmp i2 (xs2.length : Int) (decide (i2 < (xs2.length : Int))) rfl rfl rfl) ?_
 refine L_nil ?_
 refine W_cond (decide (i2 < (xs2.length : Int))) rfl (fun hq30 => ?_) (fun hq30 => ?_)
 ·have H := ite_t H hq30
  refine W_skip ?_
  refine W_seq ?_
  refine W_block ?_
  refine W_seq ?_
  refine W_reg ?_
  refine L_pu (P_move (.slice A1 n2 c3) rfl) ?_
  refine L_pu (P_move (vi i2) rfl) ?_
  refine L_pu (P_move (vi k3) rfl) ?_
  refine L_call go67 [vi k3] rfl ((laws_markText.calls w16 hc21.ok k3 _ H).mono ?_)
  rintro _ w31 ⟨r, rfl, H, g32, hs33⟩
  have hc37 := hc21.k0 g32
  obtain ⟨hb38, H⟩ := H
  have h45 := (h22.sn g32)
  obtain ⟨ad39, cs40, hA41, hR42, hcl43⟩ := h45.get default (by decide) i2 hb38
  obtain ⟨rfl, hs46, hs47⟩ := kTag.op hR42
  refine L_pu (P_ia Try.underlying69 se69 A1 ad39 n2 c3 h45.len i2 rfl hA41 rfl hb38) ?_
  refine L_pu (P_fa fa133_0 (ad39.add (i2.toNat * 2)) ((ad39.add (i2.toNat * 2)).add 0) rfl rfl) ?_
  refine L_ste1 A1 n2 c3 xs2 h45 i2 hb38 ad39 hA41 0 rfl [vs r] rfl sz9 rfl (⟨r, (nth xs2 i2).Val⟩ : Tag) [vs ((nth xs2 i2).Key), vs ((nth xs2 i2).Val)] [vs r, vs ((nth xs2 i2).Val)] hcl43 rfl rfl (kTag.mk _ _ (⟨r, (nth xs2 i2).Val⟩ : Tag) hs33 hs47) fun w48 g49 h50 => ?_
  have hc51 := hc37.wm g49
  refine L_nil ?_
  refine W_seq ?_
  refine W_reg ?_
  refine L_pu (P_move (vi k3) rfl) ?_
  obtain ⟨hb52, H⟩ := H
  have hi53 := hb52 (len_le hl29)
  refine L_pu (P_add k3 1 rfl rfl hi53) ?_
  refine L_pu (P_assign (vi (k3 + 1)) rfl) ?_
  refine L_nil ?_
  refine W_seq ?_
  refine W_reg ?_
  refine L_pu (P_move (.slice A1 n2 c3) rfl) ?_
  refine L_pu (P_move (vi i2) rfl) ?_
  refine L_pu (P_move (vi (k3 + 1)) rfl) ?_
  refine L_call go67 [vi (k3 + 1)] rfl ((laws_markText.calls w48 hc51.ok (k3 + 1) _ H).mono ?_)
  rintro _ w54 ⟨r2, rfl, H, g55, hs56⟩
  have hc60 := hc51.k0 g55
  obtain ⟨hb61, H⟩ := H
  have h68 := (h50.sn g55)
  obtain ⟨ad62, cs63, hA64, hR65, hcl66⟩ := h68.get default (by decide) i2 hb61
  obtain ⟨rfl, hs69, hs70⟩ := kTag.op hR65
  refine L_pu (P_ia Try.underlying69 se69 A1 ad62 n2 c3 h68.len i2 rfl hA64 rfl hb61) ?_
  refine L_pu (P_fa fa133_1 (ad62.add (i2.toNat * 2)) ((ad62.add (i2.toNat * 2)).add 1) rfl rfl) ?_
  refine L_ste1 A1 n2 c3 (xs2.set i2.toNat (⟨r, (nth xs2 i2).Val⟩ : Tag)) h68 i2 hb61 ad62 hA64 1 rfl [vs r2] rfl sz9 rfl (⟨(nth (xs2.set i2.toNat (⟨r, (nth xs2 i2).Val⟩ : Tag)) i2).Key, r2⟩ : Tag) [vs ((nth (xs2.set i2.toNat (⟨r, (nth xs2 i2).Val⟩ : Tag)) i2).Key), vs ((nth (xs2.set i2.toNat (⟨r, (nth xs2 i2).Val⟩ : Tag)) i2).Val)] [vs ((nth (xs2.set i2.toNat (⟨r, (nth xs2 i2).Val⟩ : Tag)) i2).Key), vs r2] hcl66 rfl rfl (kTag.mk _ _ (⟨(nth (xs2.set i2.toNat (⟨r, (nth xs2 i2).Val⟩ : Tag)) i2).Key, r2⟩ : Tag) hs69 hs56) fun w71 g72 h73 => ?_
  have hc74 := hc60.wm g72
  refine L_nil ?_
  refine W_reg ?_
  refine L_pu (P_move (vi (k3 + 1)) rfl) ?_
  obtain ⟨hb75, H⟩ := H
  have hi76 := hb75 (len_le hl29)
  refine L_pu (P_add (k3 + 1) 1 rfl rfl hi76) ?_
  refine L_pu (P_assign (vi (k3 + 1 + 1)) rfl) ?_
  refine L_nil ?_
  refine W_reg ?_
  refine L_pu (P_move (vi i2) rfl) ?_
  obtain ⟨hb78, H⟩ := H
  have hi77 : I64 (i2 + 1) := i64_succ (of_decide_eq_true hq30) hl29 hb78
  refine L_pu (P_add i2 1 rfl rfl hi77) ?_
  refine L_pu (P_assign (vi (i2 + 1)) rfl) ?_
  refine L_nil ?_
  obtain ⟨hI79, hm80⟩ := H
  exact ⟨(((xs2.set i2.toNat (⟨r, (nth xs2 i2).Val⟩ : Tag)).set i2.toNat (⟨(nth (xs2.set i2.toNat (⟨r, (nth xs2 i2).Val⟩ : Tag)) i2).Key, r2⟩ : Tag)), k3 + 1 + 1, i2 + 1), hm80, hI79, ⟨rfl, rfl, rfl, trivial⟩, hc74, h73⟩
 ·have H := ite_f H hq30
  refine W_exit (xin_hit ?_)
  refine W_seq ?_
  refine W_reg ?_
  refine L_pu (P_move (vi k3) rfl) ?_
  refine L_pu (P_assign (vi k3) rfl) ?_
  refine L_nil ?_
  refine W_ret ?_
  exact ⟨[vi k3], ⟨_, rfl, rfl⟩, k3, xs2, rfl, H, hc21.gr.g1, h22⟩
end Go.Proofs.Ytndjggncgpjolaa

namespace Go.Proofs.Ytndjggncgpjolaa
set_option linter.unusedVariables false
set_option linter.unusedSimpArgs false
set_option linter.unusedSectionVars false
theorem laws_markTagS.lawk (a : List Tag) (k : Int) (Q : Int → List Tag → Prop) (ha : bulk a ≤ 1048576) (h0 : 0 ≤ k) (h1 : k ≤ 1000000000) (hq : Q (mkL gTag a k).2 (mkL gTag a k).1) : laws_markTagS.E a k Q := by
 unfold laws_markTagS.E
 have hbl := bulk_len a
 refine ⟨fun xs k' i => ∃ u : Nat, i = u ∧ Mk gTag a k u xs k', fun _ _ i => (a.length - i).toNat, ⟨0, rfl, .zero a k⟩, ?_⟩
 rintro xs k' _ ⟨u, rfl, M⟩
 have hl := M.len
 have hb := M.bd gTag_bd
 by_cases h : u < a.length
 ·rw [if_pos (by rw [hl]; simpa using h)]
  have hu' : u < xs.length := by omega
  have hx := M.nth h
  have hm := bulk_mem (nth_mem a h)
  refine laws_markText.law _ _ (by omega) (by omega) ⟨by omega, fun _ => by unfold I64; omega, laws_markText.law _ _ (by omega) (by omega) ?_⟩
  rw [Int.toNat_natCast, nth_set _ hu', if_pos rfl, List.set_set]
  exact ⟨by simp only [List.length_set]; omega, fun _ => by unfold I64; omega, by omega, ⟨u + 1, by omega, M.next h (by show _ = (_, _); unfold gTag; rw [Int.add_assoc]; rfl)⟩, by dsimp only; omega⟩
 ·rw [if_neg (by rw [hl]; simpa using h)]
  obtain ⟨rfl, rfl⟩ := M.full h
  exact hq
end Go.Proofs.Ytndjggncgpjolaa
