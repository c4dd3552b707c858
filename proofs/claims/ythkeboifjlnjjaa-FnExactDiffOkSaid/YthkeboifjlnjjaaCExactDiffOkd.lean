/- It is proved here that the law FnExactDiffOk of the given program holds whatever it is handed: the walks through the code, the plain laws and the row, in this order.
   Conditions: none. -/
import Derived.Below
import Derived.ChangeArms
import Derived.ChangeOld
import Derived.ChangeSlices
import Derived.DataReads
import Derived.Deep.Quiet
import Derived.KernelRfl
import Derived.Laws.Build
import Derived.Laws.OwnMore
import Derived.Laws.Slices
import Derived.Laws.StructEq
import Derived.OpenShut
import Derived.ProofKit
import Derived.ShutString
import Derived.SizedLaws
import Derived.StillTail
import Derived.Test.YthkeboifjlnjjaaProg
import Derived.Test.YthkeboifjlnjjaaRows
import Derived.WalkKit
import Derived.Test.YthkeboifjlnjjaaCExactDiffOka
import Derived.Test.YthkeboifjlnjjaaCExactDiffOkb
import Derived.Test.YthkeboifjlnjjaaCExactDiffOkc
namespace Go.Proofs.Ythkeboifjlnjjaa
open Go.RowKit
set_option linter.unusedVariables false
def impl_FeatSame.E (a : Feat) (b : Feat) (Q : Bool → Prop) : Prop :=
  (if a.Id == b.Id then impl_ShapeSame.E a.Shape b.Shape (fun r => (if r then slices_Equal_Tag.E a.Tags b.Tags (fun r2 => Q r2) else Q false)) else Q false)
set_option maxHeartbeats 8000000 in
set_option maxRecDepth 100000 in
theorem impl_FeatSame.calls {O : Ob} (w0 : World) (hO : Ok w0 O) (a : Feat) (A2 : Option Addr) (n3 c4 : Nat) (A7 : Option Addr) (n8 c9 : Nat) (hs1 : Lim a.Id) (hp5 : Sl kPt w0 (Fr O) (.slice A2 n3 c4) a.Shape.Pts) (hp10 : Sl kTag w0 (Fr O) (.slice A7 n8 c9) a.Tags) (b : Feat) (A13 : Option Addr) (n14 c15 : Nat) (A18 : Option Addr) (n19 c20 : Nat) (hs12 : Lim b.Id) (hp16 : Sl kPt w0 (Fr O) (.slice A13 n14 c15) b.Shape.Pts) (hp21 : Sl kTag w0 (Fr O) (.slice A18 n19 c20) b.Tags) (Q : Bool → Prop) (h : impl_FeatSame.E a b Q) :
    Ret Try.prog 80 [.agg #[vs a.Id, vi a.Shape.Kind, .slice A2 n3 c4, .slice A7 n8 c9], .agg #[vs b.Id, vi b.Shape.Kind, .slice A13 n14 c15, .slice A18 n19 c20]] w0 (fun v w' => ∃ (r0 : Bool), v = vb r0 ∧ Q r0 ∧ Gr w0 w' none) := by
  have H : (if a.Id == b.Id then impl_ShapeSame.E a.Shape b.Shape (fun r => (if r then slices_Equal_Tag.E a.Tags b.Tags (fun r2 => Q r2) else Q false)) else Q false) := h
  clear h
  have hc0 := Ct.init hO
  refine Ret_enter Try.func80 rfl 24 rfl [.tmp 4] rfl rfl ?_
  refine W_seq ?_
  refine W_reg ?_
  refine L_box [vs a.Id, vi a.Shape.Kind, .slice A2 n3 c4, .slice A7 n8 c9] rfl fun w23 b24 hl26 hu27 g25 hx28 => ?_
  have h30 := Fb.mk hc0.ok hl26 hx28
  have hc31 := hc0.k0 g25
  refine L_box [vs b.Id, vi b.Shape.Kind, .slice A13 n14 c15, .slice A18 n19 c20] rfl fun w32 b33 hl35 hu36 g34 hx37 => ?_
  have h39 := Fb.mk hc31.ok hl35 hx37
  have hc40 := hc31.k0 g34
  refine L_pu (P_assign (vb false) rfl) ?_
  refine L_nil ?_
  refine W_seq ?_
  refine W_reg ?_
  refine L_pu (P_fa fa79_0 ⟨b24, 0, none⟩ ⟨b24, 0, none⟩ rfl rfl) ?_
  have h41 := (h30.st (.new _ g34))
  refine L_pu (P_ld ag9 cL ⟨b24, 0, none⟩ (vs a.Id) rfl (h41.cell rfl)) ?_
  refine L_pu (P_fa fa79_0 ⟨b33, 0, none⟩ ⟨b33, 0, none⟩ rfl rfl) ?_
  refine L_pu (P_ld ag9 cL ⟨b33, 0, none⟩ (vs b.Id) rfl (h39.cell rfl)) ?_
  refine L_pu (P_scmp a.Id b.Id (a.Id == b.Id) rfl rfl rfl) ?_
  refine L_pu (P_move (vb (a.Id == b.Id)) rfl) ?_
  rcases bool_or (a.Id == b.Id) with hq42 | hq42
  · have H := ite_t H hq42
    refine L_run (dj := 10) rfl rfl (by exact congrArg Value.bool hq42) ?_
    refine L_pu (P_fa fa79_1 ⟨b24, 0, none⟩ ⟨b24, 1, none⟩ rfl rfl) ?_
    refine L_run (dj := 10) rfl rfl (by exact congrArg Value.bool hq42) ?_
    refine L_pu (P_lda ag76 sz76 cL ⟨b24, 1, none⟩ [vi a.Shape.Kind, .slice A2 n3 c4] rfl rfl (h41.cells (off := 1) rfl)) ?_
    refine L_run (dj := 10) rfl rfl (by exact congrArg Value.bool hq42) ?_
    refine L_pu (P_fa fa79_1 ⟨b33, 0, none⟩ ⟨b33, 1, none⟩ rfl rfl) ?_
    refine L_run (dj := 10) rfl rfl (by exact congrArg Value.bool hq42) ?_
    refine L_pu (P_lda ag76 sz76 cL ⟨b33, 1, none⟩ [vi b.Shape.Kind, .slice A13 n14 c15] rfl rfl (h39.cells (off := 1) rfl)) ?_
    refine L_run (dj := 10) rfl rfl (by exact congrArg Value.bool hq42) ?_
    refine L_call go108 [.agg #[vi a.Shape.Kind, .slice A2 n3 c4], .agg #[vi b.Shape.Kind, .slice A13 n14 c15]] rfl ((impl_ShapeSame.calls w32 hc40.ok a.Shape A2 n3 c4 (hp5.st hc40.st) b.Shape A13 n14 c15 (hp16.st hc40.st) _ H).mono ?_)
    rintro _ w43 ⟨r, rfl, H, g44⟩
    have hc48 := hc40.k0 g44
    refine L_pu (P_pick true (vb r) (by exact congrArg Value.bool hq42) rfl) ?_
    refine L_pu (P_move (vb r) rfl) ?_
    rcases bool_or r with hq49 | hq49
    · have H := ite_t H hq49
      refine L_run (dj := 17) rfl rfl (by exact congrArg Value.bool hq49) ?_
      refine L_pu (P_fa fa79_2 ⟨b24, 0, none⟩ ⟨b24, 3, none⟩ rfl rfl) ?_
      refine L_run (dj := 17) rfl rfl (by exact congrArg Value.bool hq49) ?_
      have h50 := (h41.st (.new _ g44))
      refine L_pu (P_ld ag77 cL ⟨b24, 3, none⟩ (.slice A7 n8 c9) rfl (h50.cell rfl)) ?_
      refine L_run (dj := 17) rfl rfl (by exact congrArg Value.bool hq49) ?_
      refine L_pu (P_fa fa79_2 ⟨b33, 0, none⟩ ⟨b33, 3, none⟩ rfl rfl) ?_
      refine L_run (dj := 17) rfl rfl (by exact congrArg Value.bool hq49) ?_
      have h51 := (h39.st (.new _ g44))
      refine L_pu (P_ld ag77 cL ⟨b33, 3, none⟩ (.slice A18 n19 c20) rfl (h51.cell rfl)) ?_
      refine L_run (dj := 17) rfl rfl (by exact congrArg Value.bool hq49) ?_
      refine L_call go109 [.slice A7 n8 c9, .slice A18 n19 c20] rfl ((slices_Equal_Tag.calls w43 hc48.ok a.Tags A7 n8 c9 (hp10.st hc48.st) b.Tags A18 n19 c20 (hp21.st hc48.st) _ H).mono ?_)
      rintro _ w52 ⟨r2, rfl, H, g53⟩
      have hc57 := hc48.k0 g53
      refine L_pu (P_pick true (vb r2) (by exact congrArg Value.bool hq49) rfl) ?_
      refine L_pu (P_assign (vb r2) rfl) ?_
      refine L_nil ?_
      refine W_ret ?_
      exact ⟨[vb r2], ⟨_, rfl, rfl⟩, r2, rfl, H, hc57.gr⟩
    · have H := ite_f H hq49
      refine L_pass (dj := 17) rfl rfl (.inl (by exact congrArg Value.bool hq49)) ?_
      refine L_pass (dj := 17) rfl rfl (.inl (by exact congrArg Value.bool hq49)) ?_
      refine L_pass (dj := 17) rfl rfl (.inl (by exact congrArg Value.bool hq49)) ?_
      refine L_pass (dj := 17) rfl rfl (.inl (by exact congrArg Value.bool hq49)) ?_
      refine L_pass (dj := 17) rfl rfl (.inl (by exact congrArg Value.bool hq49)) ?_
      refine L_pu (P_pick false (vb false) (by exact congrArg Value.bool hq49) rfl) ?_
      refine L_pu (P_assign (vb false) rfl) ?_
      refine L_nil ?_
      refine W_ret ?_
      exact ⟨[vb false], ⟨_, rfl, rfl⟩, false, rfl, H, hc48.gr⟩
  · have H := ite_f H hq42
    refine L_pass (dj := 10) rfl rfl (.inl (by exact congrArg Value.bool hq42)) ?_
    refine L_pass (dj := 10) rfl rfl (.inl (by exact congrArg Value.bool hq42)) ?_
    refine L_pass (dj := 10) rfl rfl (.inl (by exact congrArg Value.bool hq42)) ?_
    refine L_pass (dj := 10) rfl rfl (.inl (by exact congrArg Value.bool hq42)) ?_
    refine L_pass (dj := 10) rfl rfl (.inl (by exact congrArg Value.bool hq42)) ?_
    refine L_pu (P_pick false (vb false) (by exact congrArg Value.bool hq42) rfl) ?_
    refine L_pu (P_move (vb false) rfl) ?_
    refine L_pass (dj := 17) rfl rfl (.inl rfl) ?_
    refine L_pass (dj := 17) rfl rfl (.inl rfl) ?_
    refine L_pass (dj := 17) rfl rfl (.inl rfl) ?_
    refine L_pass (dj := 17) rfl rfl (.inl rfl) ?_
    refine L_pass (dj := 17) rfl rfl (.inl rfl) ?_
    refine L_pu (P_pick false (vb false) (by exact congrArg Value.bool rfl) rfl) ?_
    refine L_pu (P_assign (vb false) rfl) ?_
    refine L_nil ?_
    refine W_ret ?_
    exact ⟨[vb false], ⟨_, rfl, rfl⟩, false, rfl, H, hc40.gr⟩
end Go.Proofs.Ythkeboifjlnjjaa

namespace Go.Proofs.Ythkeboifjlnjjaa
set_option linter.unusedVariables false
set_option linter.unusedSimpArgs false
theorem impl_FeatSame.law (a b : Feat) (Q : Bool → Prop) (hl : a.Shape.Pts.length ≤ 1048576 ∧ a.Tags.length ≤ 1048576) (hq : Q (decide (a = b))) : impl_FeatSame.E a b Q := by
  unfold impl_FeatSame.E
  by_cases h : a.Id = b.Id
  · rw [if_pos (by rw [beq_iff_eq]; exact h)]
    refine impl_ShapeSame.law _ _ _ (by omega) ?_
    by_cases h2 : a.Shape = b.Shape
    · rw [decide_eq_true h2, if_pos rfl]
      refine slices_Equal_Tag.law _ _ _ (by omega) ?_
      have : decide (a.Tags = b.Tags) = decide (a = b) := decide_eq_decide.2 (by rw [Feat.ext_iff']; exact ⟨fun e => ⟨h, h2, e⟩, fun e => e.2.2⟩)
      rw [this]; exact hq
    · rw [decide_eq_false h2, if_neg (by decide)]
      rw [decide_eq_false (by rw [Feat.ext_iff']; exact fun e => h2 e.2.1)] at hq; exact hq
  · rw [if_neg (by rw [beq_iff_eq]; exact h)]
    rw [decide_eq_false (by rw [Feat.ext_iff']; exact fun e => h e.1)] at hq; exact hq
end Go.Proofs.Ythkeboifjlnjjaa

namespace Go.Proofs.Ythkeboifjlnjjaa
open Go.RowKit
set_option linter.unusedVariables false
def impl_Change_same.E (c_ : Change) (Q : Bool → Prop) : Prop :=
  (if c_.Had == c_.Has then impl_FeatSame.E c_.Was c_.Now (fun r => Q r) else Q false)
set_option maxHeartbeats 8000000 in
set_option maxRecDepth 100000 in
theorem impl_Change_same.calls {O : Ob} (w0 : World) (hO : Ok w0 O) (c_ : Change) (A3 : Option Addr) (n4 c5 : Nat) (A8 : Option Addr) (n9 c10 : Nat) (A14 : Option Addr) (n15 c16 : Nat) (A19 : Option Addr) (n20 c21 : Nat) (hs1 : Lim c_.Id) (hs2 : Lim c_.Was.Id) (hp6 : Sl kPt w0 (Fr O) (.slice A3 n4 c5) c_.Was.Shape.Pts) (hp11 : Sl kTag w0 (Fr O) (.slice A8 n9 c10) c_.Was.Tags) (hs13 : Lim c_.Now.Id) (hp17 : Sl kPt w0 (Fr O) (.slice A14 n15 c16) c_.Now.Shape.Pts) (hp22 : Sl kTag w0 (Fr O) (.slice A19 n20 c21) c_.Now.Tags) (Q : Bool → Prop) (h : impl_Change_same.E c_ Q) :
    Ret Try.prog 43 [.agg #[vs c_.Id, vb c_.Had, vs c_.Was.Id, vi c_.Was.Shape.Kind, .slice A3 n4 c5, .slice A8 n9 c10, vb c_.Has, vs c_.Now.Id, vi c_.Now.Shape.Kind, .slice A14 n15 c16, .slice A19 n20 c21]] w0 (fun v w' => ∃ (r0 : Bool), v = vb r0 ∧ Q r0 ∧ Gr w0 w' none) := by
  have H : (if c_.Had == c_.Has then impl_FeatSame.E c_.Was c_.Now (fun r => Q r) else Q false) := h
  clear h
  have hc0 := Ct.init hO
  refine Ret_enter Try.func43 rfl 15 rfl [.tmp 2] rfl rfl ?_
  refine W_seq ?_
  refine W_reg ?_
  refine L_box [vs c_.Id, vb c_.Had, vs c_.Was.Id, vi c_.Was.Shape.Kind, .slice A3 n4 c5, .slice A8 n9 c10, vb c_.Has, vs c_.Now.Id, vi c_.Now.Shape.Kind, .slice A14 n15 c16, .slice A19 n20 c21] rfl fun w24 b25 hl27 hu28 g26 hx29 => ?_
  have h31 := Fb.mk hc0.ok hl27 hx29
  have hc32 := hc0.k0 g26
  refine L_pu (P_assign (vb false) rfl) ?_
  refine L_nil ?_
  refine W_seq ?_
  refine W_reg ?_
  refine L_pu (P_fa fa81_1 ⟨b25, 0, none⟩ ⟨b25, 1, none⟩ rfl rfl) ?_
  refine L_pu (P_ld ag4 cL ⟨b25, 1, none⟩ (vb c_.Had) rfl (h31.cell rfl)) ?_
  refine L_pu (P_fa fa81_3 ⟨b25, 0, none⟩ ⟨b25, 6, none⟩ rfl rfl) ?_
  refine L_pu (P_ld ag4 cL ⟨b25, 6, none⟩ (vb c_.Has) rfl (h31.cell rfl)) ?_
  refine L_pu (P_bcmp Try.underlying4 c_.Had c_.Has (c_.Had == c_.Has) rfl rfl rfl) ?_
  refine L_pu (P_move (vb (c_.Had == c_.Has)) rfl) ?_
  rcases bool_or (c_.Had == c_.Has) with hq33 | hq33
  · have H := ite_t H hq33
    refine L_run (dj := 8) rfl rfl (by exact congrArg Value.bool hq33) ?_
    refine L_pu (P_fa fa81_2 ⟨b25, 0, none⟩ ⟨b25, 2, none⟩ rfl rfl) ?_
    refine L_run (dj := 8) rfl rfl (by exact congrArg Value.bool hq33) ?_
    refine L_pu (P_lda ag79 sz79 cL ⟨b25, 2, none⟩ [vs c_.Was.Id, vi c_.Was.Shape.Kind, .slice A3 n4 c5, .slice A8 n9 c10] rfl rfl (h31.cells (off := 2) rfl)) ?_
    refine L_run (dj := 8) rfl rfl (by exact congrArg Value.bool hq33) ?_
    refine L_pu (P_fa fa81_4 ⟨b25, 0, none⟩ ⟨b25, 7, none⟩ rfl rfl) ?_
    refine L_run (dj := 8) rfl rfl (by exact congrArg Value.bool hq33) ?_
    refine L_pu (P_lda ag79 sz79 cL ⟨b25, 7, none⟩ [vs c_.Now.Id, vi c_.Now.Shape.Kind, .slice A14 n15 c16, .slice A19 n20 c21] rfl rfl (h31.cells (off := 7) rfl)) ?_
    refine L_run (dj := 8) rfl rfl (by exact congrArg Value.bool hq33) ?_
    refine L_call go80 [.agg #[vs c_.Was.Id, vi c_.Was.Shape.Kind, .slice A3 n4 c5, .slice A8 n9 c10], .agg #[vs c_.Now.Id, vi c_.Now.Shape.Kind, .slice A14 n15 c16, .slice A19 n20 c21]] rfl ((impl_FeatSame.calls w24 hc32.ok c_.Was A3 n4 c5 A8 n9 c10 hs2 (hp6.st hc32.st) (hp11.st hc32.st) c_.Now A14 n15 c16 A19 n20 c21 hs13 (hp17.st hc32.st) (hp22.st hc32.st) _ H).mono ?_)
    rintro _ w34 ⟨r, rfl, H, g35⟩
    have hc39 := hc32.k0 g35
    refine L_pu (P_pick true (vb r) (by exact congrArg Value.bool hq33) rfl) ?_
    refine L_pu (P_assign (vb r) rfl) ?_
    refine L_nil ?_
    refine W_ret ?_
    exact ⟨[vb r], ⟨_, rfl, rfl⟩, r, rfl, H, hc39.gr⟩
  · have H := ite_f H hq33
    refine L_pass (dj := 8) rfl rfl (.inl (by exact congrArg Value.bool hq33)) ?_
    refine L_pass (dj := 8) rfl rfl (.inl (by exact congrArg Value.bool hq33)) ?_
    refine L_pass (dj := 8) rfl rfl (.inl (by exact congrArg Value.bool hq33)) ?_
    refine L_pass (dj := 8) rfl rfl (.inl (by exact congrArg Value.bool hq33)) ?_
    refine L_pass (dj := 8) rfl rfl (.inl (by exact congrArg Value.bool hq33)) ?_
    refine L_pu (P_pick false (vb false) (by exact congrArg Value.bool hq33) rfl) ?_
    refine L_pu (P_assign (vb false) rfl) ?_
    refine L_nil ?_
    refine W_ret ?_
    exact ⟨[vb false], ⟨_, rfl, rfl⟩, false, rfl, H, hc32.gr⟩
end Go.Proofs.Ythkeboifjlnjjaa

namespace Go.Proofs.Ythkeboifjlnjjaa
set_option linter.unusedVariables false
set_option linter.unusedSimpArgs false
theorem impl_Change_same.law (c : Change) (Q : Bool → Prop) (hb : bulk c ≤ 1048576) (hq : Q (sameC c)) : impl_Change_same.E c Q := by
  unfold impl_Change_same.E
  unfold sameC at hq
  have b1 : bulk c = bulk c.Id + bulk c.Had + bulk c.Was + bulk c.Has + bulk c.Now := rfl
  have b2 : bulk c.Was = bulk c.Was.Id + bulk c.Was.Shape + bulk c.Was.Tags := rfl
  have b3 : bulk c.Was.Shape = bulk c.Was.Shape.Kind + bulk c.Was.Shape.Pts := rfl
  have l1 := bulk_len c.Was.Tags; have l2 := bulk_len c.Was.Shape.Pts
  by_cases h : c.Had = c.Has
  · rw [if_pos (by rw [beq_iff_eq]; exact h)]
    rw [decide_eq_true h, Bool.true_and] at hq
    exact impl_FeatSame.law _ _ _ (by omega) hq
  · rw [if_neg (by rw [beq_iff_eq]; exact h)]
    rw [decide_eq_false h] at hq; exact hq
end Go.Proofs.Ythkeboifjlnjjaa

namespace Go.Proofs.Ythkeboifjlnjjaa
open Go.RowKit
set_option linter.unusedVariables false
def impl_DiffOk.E (d : List Change) (Q : Bool → Prop) : Prop :=
  (∃ (I19 : Int → Prop) (mu20 : Int → Nat), I19 0 ∧ ∀ (v2 : Int), I19 v2 → (if decide (v2 < (d.length : Int)) then ((0 : Int) ≤ v2 ∧ v2 < (d.length : Int)) ∧ (∃ q : Bool, impl_WordOk.E ((nth d v2).Id) (fun x => x = q) ∧ (if !q then Q false else (if decide (v2 > 0) then (I64 (v2 - 1)) ∧ ((0 : Int) ≤ v2 - 1 ∧ v2 - 1 < (d.length : Int)) ∧ (if !(Op.bytesLess ((nth d (v2 - 1)).Id) ((nth d v2).Id)) then Q false else (∃ q2 : Bool, impl_sideOk.E ((nth d v2).Id) ((nth d v2).Had) ((nth d v2).Was) (fun x => x = q2) ∧ (if !q2 then Q false else (∃ q3 : Bool, impl_sideOk.E ((nth d v2).Id) ((nth d v2).Has) ((nth d v2).Now) (fun x => x = q3) ∧ (if !q3 then Q false else (∃ q4 : Bool, impl_Change_same.E (nth d v2) (fun x => x = q4) ∧ (if q4 then Q false else (I64 (v2 + 1)) ∧ I19 (v2 + 1) ∧ mu20 (v2 + 1) < mu20 v2))))))) else (∃ q5 : Bool, impl_sideOk.E ((nth d v2).Id) ((nth d v2).Had) ((nth d v2).Was) (fun x => x = q5) ∧ (if !q5 then Q false else (∃ q6 : Bool, impl_sideOk.E ((nth d v2).Id) ((nth d v2).Has) ((nth d v2).Now) (fun x => x = q6) ∧ (if !q6 then Q false else (∃ q7 : Bool, impl_Change_same.E (nth d v2) (fun x => x = q7) ∧ (if q7 then Q false else (I64 (v2 + 1)) ∧ I19 (v2 + 1) ∧ mu20 (v2 + 1) < mu20 v2))))))))) else Q (decide ((d.length : Int) ≤ 16))))
set_option maxHeartbeats 8000000 in
set_option maxRecDepth 100000 in
theorem impl_DiffOk.calls {O : Ob} (w0 : World) (hO : Ok w0 O) (d : List Change) (A1 : Option Addr) (n2 c3 : Nat) (hp4 : Sl kChange w0 (Fr O) (.slice A1 n2 c3) d) (Q : Bool → Prop) (h : impl_DiffOk.E d Q) :
    Ret Try.prog 16 [.slice A1 n2 c3] w0 (fun v w' => ∃ (r0 : Bool), v = vb r0 ∧ Q r0 ∧ Gr w0 w' none) := by
  have H : (∃ (I19 : Int → Prop) (mu20 : Int → Nat), I19 0 ∧ ∀ (v2 : Int), I19 v2 → (if decide (v2 < (d.length : Int)) then ((0 : Int) ≤ v2 ∧ v2 < (d.length : Int)) ∧ (∃ q : Bool, impl_WordOk.E ((nth d v2).Id) (fun x => x = q) ∧ (if !q then Q false else (if decide (v2 > 0) then (I64 (v2 - 1)) ∧ ((0 : Int) ≤ v2 - 1 ∧ v2 - 1 < (d.length : Int)) ∧ (if !(Op.bytesLess ((nth d (v2 - 1)).Id) ((nth d v2).Id)) then Q false else (∃ q2 : Bool, impl_sideOk.E ((nth d v2).Id) ((nth d v2).Had) ((nth d v2).Was) (fun x => x = q2) ∧ (if !q2 then Q false else (∃ q3 : Bool, impl_sideOk.E ((nth d v2).Id) ((nth d v2).Has) ((nth d v2).Now) (fun x => x = q3) ∧ (if !q3 then Q false else (∃ q4 : Bool, impl_Change_same.E (nth d v2) (fun x => x = q4) ∧ (if q4 then Q false else (I64 (v2 + 1)) ∧ I19 (v2 + 1) ∧ mu20 (v2 + 1) < mu20 v2))))))) else (∃ q5 : Bool, impl_sideOk.E ((nth d v2).Id) ((nth d v2).Had) ((nth d v2).Was) (fun x => x = q5) ∧ (if !q5 then Q false else (∃ q6 : Bool, impl_sideOk.E ((nth d v2).Id) ((nth d v2).Has) ((nth d v2).Now) (fun x => x = q6) ∧ (if !q6 then Q false else (∃ q7 : Bool, impl_Change_same.E (nth d v2) (fun x => x = q7) ∧ (if q7 then Q false else (I64 (v2 + 1)) ∧ I19 (v2 + 1) ∧ mu20 (v2 + 1) < mu20 v2))))))))) else Q (decide ((d.length : Int) ≤ 16)))) := h
  clear h
  have hc0 := Ct.init hO
  refine Ret_enter Try.func16 rfl 59 rfl [.tmp 2] rfl rfl ?_
  refine W_seq ?_
  refine W_reg ?_
  refine L_pu (P_assign (vb false) rfl) ?_
  refine L_nil ?_
  refine W_seq ?_
  refine W_seq ?_
  refine W_reg ?_
  refine L_pu (P_move (.slice A1 n2 c3) rfl) ?_
  have hl6 := hp4.le
  refine L_pu (P_len Try.underlying33 A1 n2 c3 hp4.len rfl) ?_
  refine L_pu (P_move (vi 0) rfl) ?_
  refine L_nil ?_
  refine W_block ?_
  obtain ⟨I19, mu20, hI21, H⟩ := H
  refine W_loop (α := Int) (fun (sv__ : Int) t w15 => match sv__ with | v2 => I19 v2 ∧ Has t [(0, .slice A1 n2 c3), (5, .slice A1 n2 c3), (6, vi (d.length : Int)), (7, vi v2)] ∧ Ct none w0 w15 [] O ∧ Sl kChange w15 (Fr ([] ++ O)) (.slice A1 n2 c3) d) (fun (sv__ : Int) => match sv__ with | v2 => mu20 v2) 0 ⟨hI21, ⟨rfl, rfl, rfl, rfl, trivial⟩, hc0, hp4⟩ ?_
  rintro v2 _ w15 ⟨hI21, hh23, hc17, h18⟩
  obtain ⟨u24, rfl⟩ := Has.ins hh23
  have H := H v2 hI21
  refine W_seq ?_
  refine W_reg ?_
  refine L_pu (P_cmp v2 (d.length : Int) (decide (v2 < (d.length : Int))) rfl rfl rfl) ?_
  refine L_nil ?_
  refine W_seq ?_
  refine W_cond (decide (v2 < (d.length : Int))) rfl (fun hq25 => ?_) (fun hq25 => ?_)
  · have H := ite_t H hq25
    refine W_skip ?_
    refine W_seq ?_
    refine W_block ?_
    refine W_seq ?_
    refine W_reg ?_
    refine L_pu (P_move (vi v2) rfl) ?_
    obtain ⟨hb26, H⟩ := H
    obtain ⟨ad27, cs28, hA29, hS32, hR30, hcl31⟩ := h18.get default (by decide) v2 hb26
    obtain ⟨A35, n36, c37, A40, n41, c42, A46, n47, c48, A51, n52, c53, rfl, hs33, hs34, h38, h43, hs45, h49, h54⟩ := kChange.op hR30
    refine L_pu (P_ia Try.underlying33 se33 A1 ad27 n2 c3 h18.len v2 rfl hA29 rfl hb26) ?_
    refine L_pu (P_lda ag81 sz81 cL (ad27.add (v2.toNat * 11)) [vs ((nth d v2).Id), vb ((nth d v2).Had), vs ((nth d v2).Was.Id), vi ((nth d v2).Was.Shape.Kind), .slice A35 n36 c37, .slice A40 n41 c42, vb ((nth d v2).Has), vs ((nth d v2).Now.Id), vi ((nth d v2).Now.Shape.Kind), .slice A46 n47 c48, .slice A51 n52 c53] rfl rfl hcl31) ?_
    refine L_alloc [vs [], vb false, vs [], .int .i64 0, .slice none 0 0, .slice none 0 0, vb false, vs [], .int .i64 0, .slice none 0 0, .slice none 0 0] ze81 fun w56 b57 hl59 hu60 g58 hx61 => ?_
    have hc63 := hc17.own g58 (some b57) (oglt hl59 hu60)
    refine L_pu (P_assign (vi v2) rfl) ?_
    refine L_stb b57 0 [vs ([] : Str), vb false, vs ([] : Str), vi 0, .slice none 0 0, .slice none 0 0, vb false, vs ([] : Str), vi 0, .slice none 0 0, .slice none 0 0] [vs ((nth d v2).Id), vb ((nth d v2).Had), vs ((nth d v2).Was.Id), vi ((nth d v2).Was.Shape.Kind), .slice A35 n36 c37, .slice A40 n41 c42, vb ((nth d v2).Has), vs ((nth d v2).Now.Id), vi ((nth d v2).Now.Shape.Kind), .slice A46 n47 c48, .slice A51 n52 c53] [vs ((nth d v2).Id), vb ((nth d v2).Had), vs ((nth d v2).Was.Id), vi ((nth d v2).Was.Shape.Kind), .slice A35 n36 c37, .slice A40 n41 c42, vb ((nth d v2).Has), vs ((nth d v2).Now.Id), vi ((nth d v2).Now.Shape.Kind), .slice A46 n47 c48, .slice A51 n52 c53] rfl hx61 rfl sz81 rfl rfl rfl fun w64 g65 hx66 => ?_
    have hc67 := hc63.wr 0 rfl g65
    refine L_nil ?_
    refine W_seq ?_
    refine W_draw (fun x => Gr w64 x none) (by kernel_rfl) (by kernel_rfl) (Gr.drew _) ?_
    refine Q_pu (P_fa fa81_0 ⟨b57, 0, none⟩ ⟨b57, 0, none⟩ rfl rfl) ?_
    refine Q_pu (P_ld ag9 cQ ⟨b57, 0, none⟩ (vs ((nth d v2).Id)) rfl (hx66.cell rfl)) ?_
    obtain ⟨q, hE73, H⟩ := H
    refine Q_call go41 [vs ((nth d v2).Id)] rfl (vb q) (fun w g => (impl_WordOk.calls w (hc67.k0 g).ok ((nth d v2).Id) hs33 _ hE73).mono ?_) ?_
    · rintro _ w ⟨r, rfl, rfl, g2⟩
      exact ⟨rfl, Gr.t0 g g2⟩
    refine Q_pu (P_not q rfl) ?_
    refine Q_pu (P_move (vb (!q)) rfl) ?_
    rcases bool_or (!q) with hq75 | hq75
    · have H := ite_t H hq75
      refine Q_pass (dj := 16) rfl rfl (.inl (by exact congrArg Value.bool hq75)) ?_
      refine Q_pass (dj := 16) rfl rfl (.inl (by exact congrArg Value.bool hq75)) ?_
      refine Q_pass (dj := 16) rfl rfl (.inl (by exact congrArg Value.bool hq75)) ?_
      refine Q_pass (dj := 19) rfl rfl (.inr rfl) ?_
      refine Q_pass (dj := 19) rfl rfl (.inr rfl) ?_
      refine Q_pass (dj := 19) rfl rfl (.inr rfl) ?_
      refine Q_pass (dj := 19) rfl rfl (.inr rfl) ?_
      refine Q_pass (dj := 19) rfl rfl (.inr rfl) ?_
      refine Q_pass (dj := 19) rfl rfl (.inr rfl) ?_
      refine Q_pass (dj := 19) rfl rfl (.inr rfl) ?_
      refine Q_pass (dj := 19) rfl rfl (.inr rfl) ?_
      refine Q_pass (dj := 19) rfl rfl (.inr rfl) ?_
      refine Q_pass (dj := 16) rfl rfl (.inl (by exact congrArg Value.bool hq75)) ?_
      refine Q_pu (P_pick true (vb true) (by exact congrArg Value.bool hq75) rfl) ?_
      refine Q_pu (P_move (vb true) rfl) ?_
      refine Q_pass (dj := 31) rfl rfl (.inl rfl) ?_
      refine Q_pass (dj := 31) rfl rfl (.inl rfl) ?_
      refine Q_pass (dj := 31) rfl rfl (.inl rfl) ?_
      refine Q_pass (dj := 31) rfl rfl (.inl rfl) ?_
      refine Q_pass (dj := 31) rfl rfl (.inl rfl) ?_
      refine Q_pass (dj := 31) rfl rfl (.inl rfl) ?_
      refine Q_pass (dj := 31) rfl rfl (.inl rfl) ?_
      refine Q_pass (dj := 31) rfl rfl (.inl rfl) ?_
      refine Q_pu (P_pick true (vb true) (by exact congrArg Value.bool rfl) rfl) ?_
      refine Q_pu (P_move (vb true) rfl) ?_
      refine Q_pass (dj := 41) rfl rfl (.inl rfl) ?_
      refine Q_pass (dj := 41) rfl rfl (.inl rfl) ?_
      refine Q_pass (dj := 41) rfl rfl (.inl rfl) ?_
      refine Q_pass (dj := 41) rfl rfl (.inl rfl) ?_
      refine Q_pass (dj := 41) rfl rfl (.inl rfl) ?_
      refine Q_pass (dj := 41) rfl rfl (.inl rfl) ?_
      refine Q_pass (dj := 41) rfl rfl (.inl rfl) ?_
      refine Q_pass (dj := 41) rfl rfl (.inl rfl) ?_
      refine Q_pu (P_pick true (vb true) (by exact congrArg Value.bool rfl) rfl) ?_
      refine Q_pu (P_move (vb true) rfl) ?_
      refine Q_pass (dj := 51) rfl rfl (.inl rfl) ?_
      refine Q_pass (dj := 51) rfl rfl (.inl rfl) ?_
      refine Q_pu (P_pick true (vb true) (by exact congrArg Value.bool rfl) rfl) ?_
      refine Q_nil fun w76 g77 => ?_
      have hc79 := hc67.k0 g77
      refine W_ct (b := true) rfl rfl ?_
      refine W_seq ?_
      refine W_reg ?_
      refine L_pu (P_assign (vb false) rfl) ?_
      refine L_nil ?_
      refine W_ret ?_
      have hc80 := hc79.drop 0 rfl
      exact ⟨[vb false], ⟨_, rfl, rfl⟩, false, rfl, H, hc80.gr⟩
    · have H := ite_f H hq75
      refine Q_run (dj := 16) rfl rfl (by exact congrArg Value.bool hq75) ?_
      refine Q_pu (P_move (vi v2) rfl) ?_
      refine Q_run (dj := 16) rfl rfl (by exact congrArg Value.bool hq75) ?_
      refine Q_pu (P_cmp v2 0 (decide (v2 > 0)) rfl rfl rfl) ?_
      refine Q_run (dj := 16) rfl rfl (by exact congrArg Value.bool hq75) ?_
      refine Q_pu (P_move (vb (decide (v2 > 0))) rfl) ?_
      rcases bool_or (decide (v2 > 0)) with hq81 | hq81
      · have H := ite_t H hq81
        refine Q_run (dj := 19) rfl rfl (by exact congrArg Value.bool hq81) ?_
        refine Q_pu (P_move (.slice A1 n2 c3) rfl) ?_
        refine Q_run (dj := 19) rfl rfl (by exact congrArg Value.bool hq81) ?_
        refine Q_pu (P_move (vi v2) rfl) ?_
        refine Q_run (dj := 19) rfl rfl (by exact congrArg Value.bool hq81) ?_
        obtain ⟨hb82, H⟩ := H
        refine Q_pu (P_sub v2 1 rfl rfl hb82) ?_
        refine Q_run (dj := 19) rfl rfl (by exact congrArg Value.bool hq81) ?_
        obtain ⟨hb83, H⟩ := H
        have h90 := ((h18.st (.own _ _ g58 (oge hl59))).st (.wl (L := [some b57]) (O := O) (j := 0) rfl g65))
        obtain ⟨ad84, cs85, hA86, hS89, hR87, hcl88⟩ := h90.get default (by decide) (v2 - 1) hb83
        obtain ⟨A93, n94, c95, A98, n99, c100, A104, n105, c106, A109, n110, c111, rfl, hs91, hs92, h96, h101, hs103, h107, h112⟩ := kChange.op hR87
        refine Q_pu (P_ia Try.underlying33 se33 A1 ad84 n2 c3 h90.len (v2 - 1) rfl hA86 rfl hb83) ?_
        refine Q_run (dj := 19) rfl rfl (by exact congrArg Value.bool hq81) ?_
        refine Q_pu (P_fa fa81_0 (ad84.add ((v2 - 1).toNat * 11)) ((ad84.add ((v2 - 1).toNat * 11)).add 0) rfl rfl) ?_
        refine Q_run (dj := 19) rfl rfl (by exact congrArg Value.bool hq81) ?_
        refine Q_pu (P_ld ag9 cQ ((ad84.add ((v2 - 1).toNat * 11)).add 0) (vs ((nth d (v2 - 1)).Id)) rfl (hcl88 0 _ rfl)) ?_
        refine Q_run (dj := 19) rfl rfl (by exact congrArg Value.bool hq81) ?_
        refine Q_pu (P_fa fa81_0 ⟨b57, 0, none⟩ ⟨b57, 0, none⟩ rfl rfl) ?_
        refine Q_run (dj := 19) rfl rfl (by exact congrArg Value.bool hq81) ?_
        refine Q_pu (P_ld ag9 cQ ⟨b57, 0, none⟩ (vs ((nth d v2).Id)) rfl (hx66.cell rfl)) ?_
        refine Q_run (dj := 19) rfl rfl (by exact congrArg Value.bool hq81) ?_
        refine Q_pu (P_scmp ((nth d (v2 - 1)).Id) ((nth d v2).Id) (!(Op.bytesLess ((nth d (v2 - 1)).Id) ((nth d v2).Id))) rfl rfl rfl) ?_
        refine Q_run (dj := 16) rfl rfl (by exact congrArg Value.bool hq75) ?_
        refine Q_pu (P_pick true (vb (!(Op.bytesLess ((nth d (v2 - 1)).Id) ((nth d v2).Id)))) (by exact congrArg Value.bool hq81) rfl) ?_
        refine Q_pu (P_pick false (vb (!(Op.bytesLess ((nth d (v2 - 1)).Id) ((nth d v2).Id)))) (by exact congrArg Value.bool hq75) rfl) ?_
        refine Q_pu (P_move (vb (!(Op.bytesLess ((nth d (v2 - 1)).Id) ((nth d v2).Id)))) rfl) ?_
        rcases bool_or (!(Op.bytesLess ((nth d (v2 - 1)).Id) ((nth d v2).Id))) with hq114 | hq114
        · have H := ite_t H hq114
          refine Q_pass (dj := 31) rfl rfl (.inl (by exact congrArg Value.bool hq114)) ?_
          refine Q_pass (dj := 31) rfl rfl (.inl (by exact congrArg Value.bool hq114)) ?_
          refine Q_pass (dj := 31) rfl rfl (.inl (by exact congrArg Value.bool hq114)) ?_
          refine Q_pass (dj := 31) rfl rfl (.inl (by exact congrArg Value.bool hq114)) ?_
          refine Q_pass (dj := 31) rfl rfl (.inl (by exact congrArg Value.bool hq114)) ?_
          refine Q_pass (dj := 31) rfl rfl (.inl (by exact congrArg Value.bool hq114)) ?_
          refine Q_pass (dj := 31) rfl rfl (.inl (by exact congrArg Value.bool hq114)) ?_
          refine Q_pass (dj := 31) rfl rfl (.inl (by exact congrArg Value.bool hq114)) ?_
          refine Q_pu (P_pick true (vb true) (by exact congrArg Value.bool hq114) rfl) ?_
          refine Q_pu (P_move (vb true) rfl) ?_
          refine Q_pass (dj := 41) rfl rfl (.inl rfl) ?_
          refine Q_pass (dj := 41) rfl rfl (.inl rfl) ?_
          refine Q_pass (dj := 41) rfl rfl (.inl rfl) ?_
          refine Q_pass (dj := 41) rfl rfl (.inl rfl) ?_
          refine Q_pass (dj := 41) rfl rfl (.inl rfl) ?_
          refine Q_pass (dj := 41) rfl rfl (.inl rfl) ?_
          refine Q_pass (dj := 41) rfl rfl (.inl rfl) ?_
          refine Q_pass (dj := 41) rfl rfl (.inl rfl) ?_
          refine Q_pu (P_pick true (vb true) (by exact congrArg Value.bool rfl) rfl) ?_
          refine Q_pu (P_move (vb true) rfl) ?_
          refine Q_pass (dj := 51) rfl rfl (.inl rfl) ?_
          refine Q_pass (dj := 51) rfl rfl (.inl rfl) ?_
          refine Q_pu (P_pick true (vb true) (by exact congrArg Value.bool rfl) rfl) ?_
          refine Q_nil fun w115 g116 => ?_
          have hc118 := hc67.k0 g116
          refine W_ct (b := true) rfl rfl ?_
          refine W_seq ?_
          refine W_reg ?_
          refine L_pu (P_assign (vb false) rfl) ?_
          refine L_nil ?_
          refine W_ret ?_
          have hc119 := hc118.drop 0 rfl
          exact ⟨[vb false], ⟨_, rfl, rfl⟩, false, rfl, H, hc119.gr⟩
        · have H := ite_f H hq114
          refine Q_run (dj := 31) rfl rfl (by exact congrArg Value.bool hq114) ?_
          refine Q_pu (P_fa fa81_0 ⟨b57, 0, none⟩ ⟨b57, 0, none⟩ rfl rfl) ?_
          refine Q_run (dj := 31) rfl rfl (by exact congrArg Value.bool hq114) ?_
          refine Q_pu (P_ld ag9 cQ ⟨b57, 0, none⟩ (vs ((nth d v2).Id)) rfl (hx66.cell rfl)) ?_
          refine Q_run (dj := 31) rfl rfl (by exact congrArg Value.bool hq114) ?_
          refine Q_pu (P_fa fa81_1 ⟨b57, 0, none⟩ ⟨b57, 1, none⟩ rfl rfl) ?_
          refine Q_run (dj := 31) rfl rfl (by exact congrArg Value.bool hq114) ?_
          refine Q_pu (P_ld ag4 cQ ⟨b57, 1, none⟩ (vb ((nth d v2).Had)) rfl (hx66.cell rfl)) ?_
          refine Q_run (dj := 31) rfl rfl (by exact congrArg Value.bool hq114) ?_
          refine Q_pu (P_fa fa81_2 ⟨b57, 0, none⟩ ⟨b57, 2, none⟩ rfl rfl) ?_
          refine Q_run (dj := 31) rfl rfl (by exact congrArg Value.bool hq114) ?_
          refine Q_pu (P_lda ag79 sz79 cQ ⟨b57, 2, none⟩ [vs ((nth d v2).Was.Id), vi ((nth d v2).Was.Shape.Kind), .slice A35 n36 c37, .slice A40 n41 c42] rfl rfl (hx66.cells (off := 2) rfl)) ?_
          refine Q_run (dj := 31) rfl rfl (by exact congrArg Value.bool hq114) ?_
          have h120 := ((h38.st (.own _ _ g58 (oge hl59))).st (.wl (L := [some b57]) (O := O) (j := 0) rfl g65))
          have h121 := ((h43.st (.own _ _ g58 (oge hl59))).st (.wl (L := [some b57]) (O := O) (j := 0) rfl g65))
          obtain ⟨q2, hE127, H⟩ := H
          refine Q_call go42 [vs ((nth d v2).Id), vb ((nth d v2).Had), .agg #[vs ((nth d v2).Was.Id), vi ((nth d v2).Was.Shape.Kind), .slice A35 n36 c37, .slice A40 n41 c42]] rfl (vb q2) (fun w g => (impl_sideOk.calls w (hc67.k0 g).ok ((nth d v2).Id) hs33 ((nth d v2).Had) ((nth d v2).Was) A35 n36 c37 A40 n41 c42 hs34 (h120.st (.new _ g)) (h121.st (.new _ g)) _ hE127).mono ?_) ?_
          · rintro _ w ⟨r, rfl, rfl, g2⟩
            exact ⟨rfl, Gr.t0 g g2⟩
          refine Q_run (dj := 31) rfl rfl (by exact congrArg Value.bool hq114) ?_
          refine Q_pu (P_not q2 rfl) ?_
          refine Q_pu (P_pick false (vb (!q2)) (by exact congrArg Value.bool hq114) rfl) ?_
          refine Q_pu (P_move (vb (!q2)) rfl) ?_
          rcases bool_or (!q2) with hq129 | hq129
          · have H := ite_t H hq129
            refine Q_pass (dj := 41) rfl rfl (.inl (by exact congrArg Value.bool hq129)) ?_
            refine Q_pass (dj := 41) rfl rfl (.inl (by exact congrArg Value.bool hq129)) ?_
            refine Q_pass (dj := 41) rfl rfl (.inl (by exact congrArg Value.bool hq129)) ?_
            refine Q_pass (dj := 41) rfl rfl (.inl (by exact congrArg Value.bool hq129)) ?_
            refine Q_pass (dj := 41) rfl rfl (.inl (by exact congrArg Value.bool hq129)) ?_
            refine Q_pass (dj := 41) rfl rfl (.inl (by exact congrArg Value.bool hq129)) ?_
            refine Q_pass (dj := 41) rfl rfl (.inl (by exact congrArg Value.bool hq129)) ?_
            refine Q_pass (dj := 41) rfl rfl (.inl (by exact congrArg Value.bool hq129)) ?_
            refine Q_pu (P_pick true (vb true) (by exact congrArg Value.bool hq129) rfl) ?_
            refine Q_pu (P_move (vb true) rfl) ?_
            refine Q_pass (dj := 51) rfl rfl (.inl rfl) ?_
            refine Q_pass (dj := 51) rfl rfl (.inl rfl) ?_
            refine Q_pu (P_pick true (vb true) (by exact congrArg Value.bool rfl) rfl) ?_
            refine Q_nil fun w130 g131 => ?_
            have hc133 := hc67.k0 g131
            refine W_ct (b := true) rfl rfl ?_
            refine W_seq ?_
            refine W_reg ?_
            refine L_pu (P_assign (vb false) rfl) ?_
            refine L_nil ?_
            refine W_ret ?_
            have hc134 := hc133.drop 0 rfl
            exact ⟨[vb false], ⟨_, rfl, rfl⟩, false, rfl, H, hc134.gr⟩
          · have H := ite_f H hq129
            refine Q_run (dj := 41) rfl rfl (by exact congrArg Value.bool hq129) ?_
            refine Q_pu (P_fa fa81_0 ⟨b57, 0, none⟩ ⟨b57, 0, none⟩ rfl rfl) ?_
            refine Q_run (dj := 41) rfl rfl (by exact congrArg Value.bool hq129) ?_
            refine Q_pu (P_ld ag9 cQ ⟨b57, 0, none⟩ (vs ((nth d v2).Id)) rfl (hx66.cell rfl)) ?_
            refine Q_run (dj := 41) rfl rfl (by exact congrArg Value.bool hq129) ?_
            refine Q_pu (P_fa fa81_3 ⟨b57, 0, none⟩ ⟨b57, 6, none⟩ rfl rfl) ?_
            refine Q_run (dj := 41) rfl rfl (by exact congrArg Value.bool hq129) ?_
            refine Q_pu (P_ld ag4 cQ ⟨b57, 6, none⟩ (vb ((nth d v2).Has)) rfl (hx66.cell rfl)) ?_
            refine Q_run (dj := 41) rfl rfl (by exact congrArg Value.bool hq129) ?_
            refine Q_pu (P_fa fa81_4 ⟨b57, 0, none⟩ ⟨b57, 7, none⟩ rfl rfl) ?_
            refine Q_run (dj := 41) rfl rfl (by exact congrArg Value.bool hq129) ?_
            refine Q_pu (P_lda ag79 sz79 cQ ⟨b57, 7, none⟩ [vs ((nth d v2).Now.Id), vi ((nth d v2).Now.Shape.Kind), .slice A46 n47 c48, .slice A51 n52 c53] rfl rfl (hx66.cells (off := 7) rfl)) ?_
            refine Q_run (dj := 41) rfl rfl (by exact congrArg Value.bool hq129) ?_
            have h135 := ((h49.st (.own _ _ g58 (oge hl59))).st (.wl (L := [some b57]) (O := O) (j := 0) rfl g65))
            have h136 := ((h54.st (.own _ _ g58 (oge hl59))).st (.wl (L := [some b57]) (O := O) (j := 0) rfl g65))
            obtain ⟨q3, hE142, H⟩ := H
            refine Q_call go42 [vs ((nth d v2).Id), vb ((nth d v2).Has), .agg #[vs ((nth d v2).Now.Id), vi ((nth d v2).Now.Shape.Kind), .slice A46 n47 c48, .slice A51 n52 c53]] rfl (vb q3) (fun w g => (impl_sideOk.calls w (hc67.k0 g).ok ((nth d v2).Id) hs33 ((nth d v2).Has) ((nth d v2).Now) A46 n47 c48 A51 n52 c53 hs45 (h135.st (.new _ g)) (h136.st (.new _ g)) _ hE142).mono ?_) ?_
            · rintro _ w ⟨r, rfl, rfl, g2⟩
              exact ⟨rfl, Gr.t0 g g2⟩
            refine Q_run (dj := 41) rfl rfl (by exact congrArg Value.bool hq129) ?_
            refine Q_pu (P_not q3 rfl) ?_
            refine Q_pu (P_pick false (vb (!q3)) (by exact congrArg Value.bool hq129) rfl) ?_
            refine Q_pu (P_move (vb (!q3)) rfl) ?_
            rcases bool_or (!q3) with hq144 | hq144
            · have H := ite_t H hq144
              refine Q_pass (dj := 51) rfl rfl (.inl (by exact congrArg Value.bool hq144)) ?_
              refine Q_pass (dj := 51) rfl rfl (.inl (by exact congrArg Value.bool hq144)) ?_
              refine Q_pu (P_pick true (vb true) (by exact congrArg Value.bool hq144) rfl) ?_
              refine Q_nil fun w145 g146 => ?_
              have hc148 := hc67.k0 g146
              refine W_ct (b := true) rfl rfl ?_
              refine W_seq ?_
              refine W_reg ?_
              refine L_pu (P_assign (vb false) rfl) ?_
              refine L_nil ?_
              refine W_ret ?_
              have hc149 := hc148.drop 0 rfl
              exact ⟨[vb false], ⟨_, rfl, rfl⟩, false, rfl, H, hc149.gr⟩
            · have H := ite_f H hq144
              refine Q_run (dj := 51) rfl rfl (by exact congrArg Value.bool hq144) ?_
              refine Q_pu (P_lda ag81 sz81 cQ ⟨b57, 0, none⟩ [vs ((nth d v2).Id), vb ((nth d v2).Had), vs ((nth d v2).Was.Id), vi ((nth d v2).Was.Shape.Kind), .slice A35 n36 c37, .slice A40 n41 c42, vb ((nth d v2).Has), vs ((nth d v2).Now.Id), vi ((nth d v2).Now.Shape.Kind), .slice A46 n47 c48, .slice A51 n52 c53] rfl rfl (hx66.cells (off := 0) rfl)) ?_
              refine Q_run (dj := 51) rfl rfl (by exact congrArg Value.bool hq144) ?_
              obtain ⟨q4, hE155, H⟩ := H
              refine Q_call go43 [.agg #[vs ((nth d v2).Id), vb ((nth d v2).Had), vs ((nth d v2).Was.Id), vi ((nth d v2).Was.Shape.Kind), .slice A35 n36 c37, .slice A40 n41 c42, vb ((nth d v2).Has), vs ((nth d v2).Now.Id), vi ((nth d v2).Now.Shape.Kind), .slice A46 n47 c48, .slice A51 n52 c53]] rfl (vb q4) (fun w g => (impl_Change_same.calls w (hc67.k0 g).ok (nth d v2) A35 n36 c37 A40 n41 c42 A46 n47 c48 A51 n52 c53 hs33 hs34 (h120.st (.new _ g)) (h121.st (.new _ g)) hs45 (h135.st (.new _ g)) (h136.st (.new _ g)) _ hE155).mono ?_) ?_
              · rintro _ w ⟨r, rfl, rfl, g2⟩
                exact ⟨rfl, Gr.t0 g g2⟩
              refine Q_pu (P_pick false (vb q4) (by exact congrArg Value.bool hq144) rfl) ?_
              refine Q_nil fun w157 g158 => ?_
              have hc160 := hc67.k0 g158
              refine W_cond q4 rfl (fun hq161 => ?_) (fun hq161 => ?_)
              · have H := ite_t H hq161
                refine W_seq ?_
                refine W_reg ?_
                refine L_pu (P_assign (vb false) rfl) ?_
                refine L_nil ?_
                refine W_ret ?_
                have hc162 := hc160.drop 0 rfl
                exact ⟨[vb false], ⟨_, rfl, rfl⟩, false, rfl, H, hc162.gr⟩
              · have H := ite_f H hq161
                refine W_skip ?_
                refine W_reg ?_
                obtain ⟨hb163, H⟩ := H
                refine L_pu (P_add v2 1 rfl rfl hb163) ?_
                refine L_pu (P_move (vi (v2 + 1)) rfl) ?_
                refine L_nil ?_
                have hc164 := hc160.drop 0 rfl
                obtain ⟨hI165, hm166⟩ := H
                have h167 := ((h90.st (.new _ g158)).st (.dr _ (L := [some b57]) (O := O) (j := 0) rfl))
                exact ⟨v2 + 1, hm166, hI165, ⟨rfl, rfl, rfl, rfl, trivial⟩, hc164, h167⟩
      · have H := ite_f H hq81
        refine Q_pass (dj := 19) rfl rfl (.inl (by exact congrArg Value.bool hq81)) ?_
        refine Q_pass (dj := 19) rfl rfl (.inl (by exact congrArg Value.bool hq81)) ?_
        refine Q_pass (dj := 19) rfl rfl (.inl (by exact congrArg Value.bool hq81)) ?_
        refine Q_pass (dj := 19) rfl rfl (.inl (by exact congrArg Value.bool hq81)) ?_
        refine Q_pass (dj := 19) rfl rfl (.inl (by exact congrArg Value.bool hq81)) ?_
        refine Q_pass (dj := 19) rfl rfl (.inl (by exact congrArg Value.bool hq81)) ?_
        refine Q_pass (dj := 19) rfl rfl (.inl (by exact congrArg Value.bool hq81)) ?_
        refine Q_pass (dj := 19) rfl rfl (.inl (by exact congrArg Value.bool hq81)) ?_
        refine Q_pass (dj := 19) rfl rfl (.inl (by exact congrArg Value.bool hq81)) ?_
        refine Q_run (dj := 16) rfl rfl (by exact congrArg Value.bool hq75) ?_
        refine Q_pu (P_pick false (vb false) (by exact congrArg Value.bool hq81) rfl) ?_
        refine Q_pu (P_pick false (vb false) (by exact congrArg Value.bool hq75) rfl) ?_
        refine Q_pu (P_move (vb false) rfl) ?_
        refine Q_run (dj := 31) rfl rfl rfl ?_
        refine Q_pu (P_fa fa81_0 ⟨b57, 0, none⟩ ⟨b57, 0, none⟩ rfl rfl) ?_
        refine Q_run (dj := 31) rfl rfl rfl ?_
        refine Q_pu (P_ld ag9 cQ ⟨b57, 0, none⟩ (vs ((nth d v2).Id)) rfl (hx66.cell rfl)) ?_
        refine Q_run (dj := 31) rfl rfl rfl ?_
        refine Q_pu (P_fa fa81_1 ⟨b57, 0, none⟩ ⟨b57, 1, none⟩ rfl rfl) ?_
        refine Q_run (dj := 31) rfl rfl rfl ?_
        refine Q_pu (P_ld ag4 cQ ⟨b57, 1, none⟩ (vb ((nth d v2).Had)) rfl (hx66.cell rfl)) ?_
        refine Q_run (dj := 31) rfl rfl rfl ?_
        refine Q_pu (P_fa fa81_2 ⟨b57, 0, none⟩ ⟨b57, 2, none⟩ rfl rfl) ?_
        refine Q_run (dj := 31) rfl rfl rfl ?_
        refine Q_pu (P_lda ag79 sz79 cQ ⟨b57, 2, none⟩ [vs ((nth d v2).Was.Id), vi ((nth d v2).Was.Shape.Kind), .slice A35 n36 c37, .slice A40 n41 c42] rfl rfl (hx66.cells (off := 2) rfl)) ?_
        refine Q_run (dj := 31) rfl rfl rfl ?_
        have h168 := ((h38.st (.own _ _ g58 (oge hl59))).st (.wl (L := [some b57]) (O := O) (j := 0) rfl g65))
        have h169 := ((h43.st (.own _ _ g58 (oge hl59))).st (.wl (L := [some b57]) (O := O) (j := 0) rfl g65))
        obtain ⟨q5, hE175, H⟩ := H
        refine Q_call go42 [vs ((nth d v2).Id), vb ((nth d v2).Had), .agg #[vs ((nth d v2).Was.Id), vi ((nth d v2).Was.Shape.Kind), .slice A35 n36 c37, .slice A40 n41 c42]] rfl (vb q5) (fun w g => (impl_sideOk.calls w (hc67.k0 g).ok ((nth d v2).Id) hs33 ((nth d v2).Had) ((nth d v2).Was) A35 n36 c37 A40 n41 c42 hs34 (h168.st (.new _ g)) (h169.st (.new _ g)) _ hE175).mono ?_) ?_
        · rintro _ w ⟨r, rfl, rfl, g2⟩
          exact ⟨rfl, Gr.t0 g g2⟩
        refine Q_run (dj := 31) rfl rfl rfl ?_
        refine Q_pu (P_not q5 rfl) ?_
        refine Q_pu (P_pick false (vb (!q5)) (by exact congrArg Value.bool rfl) rfl) ?_
        refine Q_pu (P_move (vb (!q5)) rfl) ?_
        rcases bool_or (!q5) with hq177 | hq177
        · have H := ite_t H hq177
          refine Q_pass (dj := 41) rfl rfl (.inl (by exact congrArg Value.bool hq177)) ?_
          refine Q_pass (dj := 41) rfl rfl (.inl (by exact congrArg Value.bool hq177)) ?_
          refine Q_pass (dj := 41) rfl rfl (.inl (by exact congrArg Value.bool hq177)) ?_
          refine Q_pass (dj := 41) rfl rfl (.inl (by exact congrArg Value.bool hq177)) ?_
          refine Q_pass (dj := 41) rfl rfl (.inl (by exact congrArg Value.bool hq177)) ?_
          refine Q_pass (dj := 41) rfl rfl (.inl (by exact congrArg Value.bool hq177)) ?_
          refine Q_pass (dj := 41) rfl rfl (.inl (by exact congrArg Value.bool hq177)) ?_
          refine Q_pass (dj := 41) rfl rfl (.inl (by exact congrArg Value.bool hq177)) ?_
          refine Q_pu (P_pick true (vb true) (by exact congrArg Value.bool hq177) rfl) ?_
          refine Q_pu (P_move (vb true) rfl) ?_
          refine Q_pass (dj := 51) rfl rfl (.inl rfl) ?_
          refine Q_pass (dj := 51) rfl rfl (.inl rfl) ?_
          refine Q_pu (P_pick true (vb true) (by exact congrArg Value.bool rfl) rfl) ?_
          refine Q_nil fun w178 g179 => ?_
          have hc181 := hc67.k0 g179
          refine W_ct (b := true) rfl rfl ?_
          refine W_seq ?_
          refine W_reg ?_
          refine L_pu (P_assign (vb false) rfl) ?_
          refine L_nil ?_
          refine W_ret ?_
          have hc182 := hc181.drop 0 rfl
          exact ⟨[vb false], ⟨_, rfl, rfl⟩, false, rfl, H, hc182.gr⟩
        · have H := ite_f H hq177
          refine Q_run (dj := 41) rfl rfl (by exact congrArg Value.bool hq177) ?_
          refine Q_pu (P_fa fa81_0 ⟨b57, 0, none⟩ ⟨b57, 0, none⟩ rfl rfl) ?_
          refine Q_run (dj := 41) rfl rfl (by exact congrArg Value.bool hq177) ?_
          refine Q_pu (P_ld ag9 cQ ⟨b57, 0, none⟩ (vs ((nth d v2).Id)) rfl (hx66.cell rfl)) ?_
          refine Q_run (dj := 41) rfl rfl (by exact congrArg Value.bool hq177) ?_
          refine Q_pu (P_fa fa81_3 ⟨b57, 0, none⟩ ⟨b57, 6, none⟩ rfl rfl) ?_
          refine Q_run (dj := 41) rfl rfl (by exact congrArg Value.bool hq177) ?_
          refine Q_pu (P_ld ag4 cQ ⟨b57, 6, none⟩ (vb ((nth d v2).Has)) rfl (hx66.cell rfl)) ?_
          refine Q_run (dj := 41) rfl rfl (by exact congrArg Value.bool hq177) ?_
          refine Q_pu (P_fa fa81_4 ⟨b57, 0, none⟩ ⟨b57, 7, none⟩ rfl rfl) ?_
          refine Q_run (dj := 41) rfl rfl (by exact congrArg Value.bool hq177) ?_
          refine Q_pu (P_lda ag79 sz79 cQ ⟨b57, 7, none⟩ [vs ((nth d v2).Now.Id), vi ((nth d v2).Now.Shape.Kind), .slice A46 n47 c48, .slice A51 n52 c53] rfl rfl (hx66.cells (off := 7) rfl)) ?_
          refine Q_run (dj := 41) rfl rfl (by exact congrArg Value.bool hq177) ?_
          have h183 := ((h49.st (.own _ _ g58 (oge hl59))).st (.wl (L := [some b57]) (O := O) (j := 0) rfl g65))
          have h184 := ((h54.st (.own _ _ g58 (oge hl59))).st (.wl (L := [some b57]) (O := O) (j := 0) rfl g65))
          obtain ⟨q6, hE190, H⟩ := H
          refine Q_call go42 [vs ((nth d v2).Id), vb ((nth d v2).Has), .agg #[vs ((nth d v2).Now.Id), vi ((nth d v2).Now.Shape.Kind), .slice A46 n47 c48, .slice A51 n52 c53]] rfl (vb q6) (fun w g => (impl_sideOk.calls w (hc67.k0 g).ok ((nth d v2).Id) hs33 ((nth d v2).Has) ((nth d v2).Now) A46 n47 c48 A51 n52 c53 hs45 (h183.st (.new _ g)) (h184.st (.new _ g)) _ hE190).mono ?_) ?_
          · rintro _ w ⟨r, rfl, rfl, g2⟩
            exact ⟨rfl, Gr.t0 g g2⟩
          refine Q_run (dj := 41) rfl rfl (by exact congrArg Value.bool hq177) ?_
          refine Q_pu (P_not q6 rfl) ?_
          refine Q_pu (P_pick false (vb (!q6)) (by exact congrArg Value.bool hq177) rfl) ?_
          refine Q_pu (P_move (vb (!q6)) rfl) ?_
          rcases bool_or (!q6) with hq192 | hq192
          · have H := ite_t H hq192
            refine Q_pass (dj := 51) rfl rfl (.inl (by exact congrArg Value.bool hq192)) ?_
            refine Q_pass (dj := 51) rfl rfl (.inl (by exact congrArg Value.bool hq192)) ?_
            refine Q_pu (P_pick true (vb true) (by exact congrArg Value.bool hq192) rfl) ?_
            refine Q_nil fun w193 g194 => ?_
            have hc196 := hc67.k0 g194
            refine W_ct (b := true) rfl rfl ?_
            refine W_seq ?_
            refine W_reg ?_
            refine L_pu (P_assign (vb false) rfl) ?_
            refine L_nil ?_
            refine W_ret ?_
            have hc197 := hc196.drop 0 rfl
            exact ⟨[vb false], ⟨_, rfl, rfl⟩, false, rfl, H, hc197.gr⟩
          · have H := ite_f H hq192
            refine Q_run (dj := 51) rfl rfl (by exact congrArg Value.bool hq192) ?_
            refine Q_pu (P_lda ag81 sz81 cQ ⟨b57, 0, none⟩ [vs ((nth d v2).Id), vb ((nth d v2).Had), vs ((nth d v2).Was.Id), vi ((nth d v2).Was.Shape.Kind), .slice A35 n36 c37, .slice A40 n41 c42, vb ((nth d v2).Has), vs ((nth d v2).Now.Id), vi ((nth d v2).Now.Shape.Kind), .slice A46 n47 c48, .slice A51 n52 c53] rfl rfl (hx66.cells (off := 0) rfl)) ?_
            refine Q_run (dj := 51) rfl rfl (by exact congrArg Value.bool hq192) ?_
            obtain ⟨q7, hE203, H⟩ := H
            refine Q_call go43 [.agg #[vs ((nth d v2).Id), vb ((nth d v2).Had), vs ((nth d v2).Was.Id), vi ((nth d v2).Was.Shape.Kind), .slice A35 n36 c37, .slice A40 n41 c42, vb ((nth d v2).Has), vs ((nth d v2).Now.Id), vi ((nth d v2).Now.Shape.Kind), .slice A46 n47 c48, .slice A51 n52 c53]] rfl (vb q7) (fun w g => (impl_Change_same.calls w (hc67.k0 g).ok (nth d v2) A35 n36 c37 A40 n41 c42 A46 n47 c48 A51 n52 c53 hs33 hs34 (h168.st (.new _ g)) (h169.st (.new _ g)) hs45 (h183.st (.new _ g)) (h184.st (.new _ g)) _ hE203).mono ?_) ?_
            · rintro _ w ⟨r, rfl, rfl, g2⟩
              exact ⟨rfl, Gr.t0 g g2⟩
            refine Q_pu (P_pick false (vb q7) (by exact congrArg Value.bool hq192) rfl) ?_
            refine Q_nil fun w205 g206 => ?_
            have hc208 := hc67.k0 g206
            refine W_cond q7 rfl (fun hq209 => ?_) (fun hq209 => ?_)
            · have H := ite_t H hq209
              refine W_seq ?_
              refine W_reg ?_
              refine L_pu (P_assign (vb false) rfl) ?_
              refine L_nil ?_
              refine W_ret ?_
              have hc210 := hc208.drop 0 rfl
              exact ⟨[vb false], ⟨_, rfl, rfl⟩, false, rfl, H, hc210.gr⟩
            · have H := ite_f H hq209
              refine W_skip ?_
              refine W_reg ?_
              obtain ⟨hb211, H⟩ := H
              refine L_pu (P_add v2 1 rfl rfl hb211) ?_
              refine L_pu (P_move (vi (v2 + 1)) rfl) ?_
              refine L_nil ?_
              have hc212 := hc208.drop 0 rfl
              obtain ⟨hI213, hm214⟩ := H
              have h215 := ((((h18.st (.own _ _ g58 (oge hl59))).st (.wl (L := [some b57]) (O := O) (j := 0) rfl g65)).st (.new _ g206)).st (.dr _ (L := [some b57]) (O := O) (j := 0) rfl))
              exact ⟨v2 + 1, hm214, hI213, ⟨rfl, rfl, rfl, rfl, trivial⟩, hc212, h215⟩
  · have H := ite_f H hq25
    refine W_exit (xin_hit ?_)
    refine W_seq ?_
    refine W_reg ?_
    refine L_pu (P_move (.slice A1 n2 c3) rfl) ?_
    have hl216 := h18.le
    refine L_pu (P_len Try.underlying33 A1 n2 c3 h18.len rfl) ?_
    refine L_pu (P_cmp (d.length : Int) 16 (decide ((d.length : Int) ≤ 16)) rfl rfl rfl) ?_
    refine L_pu (P_assign (vb (decide ((d.length : Int) ≤ 16))) rfl) ?_
    refine L_nil ?_
    refine W_ret ?_
    exact ⟨[vb (decide ((d.length : Int) ≤ 16))], ⟨_, rfl, rfl⟩, decide ((d.length : Int) ≤ 16), rfl, H, hc17.gr⟩
end Go.Proofs.Ythkeboifjlnjjaa

namespace Go.Proofs.Ythkeboifjlnjjaa
set_option linter.unusedVariables false
set_option linter.unusedSimpArgs false
theorem impl_DiffOk.law (d : List Change) (Q : Bool → Prop) (hb : bulk d ≤ 1048576) (hq : Q (diffOk d)) : impl_DiffOk.E d Q := by
  unfold impl_DiffOk.E
  unfold diffOk at hq
  have hl := bulk_len d
  refine loop_all d.length (fun k => changeOk (nth d (k : Int)) && (decide (k = 0) || Op.bytesLess (nth d ((k : Int) - 1)).Id (nth d (k : Int)).Id)) (fun I mu k hk hp hn => ?_) (fun ha => ?_)
  · have bad : (changeOk (nth d (k : Int)) && (decide (k = 0) || Op.bytesLess (nth d ((k : Int) - 1)).Id (nth d (k : Int)).Id)) = false → Q false := fun h => by
      rw [allN_false hk h, Bool.false_and] at hq; exact hq
    have m1 := bulk_mem (nth_mem d hk)
    have b1 : bulk (nth d (k : Int)) = bulk (nth d (k : Int)).Id + bulk (nth d (k : Int)).Had + bulk (nth d (k : Int)).Was + bulk (nth d (k : Int)).Has + bulk (nth d (k : Int)).Now := rfl
    have l1 := bulk_len (nth d (k : Int)).Id
    generalize hc : nth d (k : Int) = c at *
    refine ⟨by omega, _, impl_WordOk.law _ _ (by omega) rfl, ?_⟩
    have co : ∀ a b e g : Bool, wordOk c.Id = a → sideOk c.Id c.Had c.Was = b → sideOk c.Id c.Has c.Now = e → sameC c = g → changeOk c = (a && b && e && !g) := fun a b e g h1 h2 h3 h4 => by unfold changeOk; rw [h1, h2, h3, h4]
    have rest : wordOk c.Id = true → (decide (k = 0) || Op.bytesLess (nth d ((k : Int) - 1)).Id c.Id) = true →
        (∃ q : Bool, impl_sideOk.E c.Id c.Had c.Was (fun x => x = q) ∧ (if !q then Q false else (∃ q2 : Bool, impl_sideOk.E c.Id c.Has c.Now (fun x => x = q2) ∧ (if !q2 then Q false else (∃ q3 : Bool, impl_Change_same.E c (fun x => x = q3) ∧ (if q3 then Q false else (I64 ((k : Int) + 1)) ∧ I ((k : Int) + 1) ∧ mu ((k : Int) + 1) < mu (k : Int))))))) := fun h1 ho => by
      refine ⟨_, impl_sideOk.law _ _ _ _ (by omega) rfl, ?_⟩
      cases h2 : sideOk c.Id c.Had c.Was with
      | false => rw [if_pos (by decide)]; exact bad (by rw [co _ _ _ _ h1 h2 rfl rfl]; rfl)
      | true =>
        rw [if_neg (by decide)]
        refine ⟨_, impl_sideOk.law _ _ _ _ (by omega) rfl, ?_⟩
        cases h3 : sideOk c.Id c.Has c.Now with
        | false => rw [if_pos (by decide)]; exact bad (by rw [co _ _ _ _ h1 h2 h3 rfl]; rfl)
        | true =>
          rw [if_neg (by decide)]
          refine ⟨_, impl_Change_same.law _ _ (by omega) rfl, ?_⟩
          cases h4 : sameC c with
          | true => rw [if_pos rfl]; exact bad (by rw [co _ _ _ _ h1 h2 h3 h4]; rfl)
          | false =>
            rw [if_neg (by decide)]
            obtain ⟨i1, i2⟩ := hn (by rw [co _ _ _ _ h1 h2 h3 h4, ho]; rfl)
            exact ⟨by unfold I64; omega, i1, i2⟩
    cases h1 : wordOk c.Id with
    | false => rw [if_pos (by decide)]; exact bad (by rw [co _ _ _ _ h1 rfl rfl rfl]; rfl)
    | true =>
      rw [if_neg (by decide)]
      by_cases hk0 : k = 0
      · rw [if_neg (by rw [decide_eq_true_eq]; omega)]
        exact rest h1 (by rw [decide_eq_true hk0]; rfl)
      · rw [if_pos (by rw [decide_eq_true_eq]; omega)]
        refine ⟨by unfold I64; omega, by omega, ?_⟩
        cases h3 : Op.bytesLess (nth d ((k : Int) - 1)).Id c.Id with
        | false => rw [if_pos (by decide)]; exact bad (by rw [h3, decide_eq_false hk0]; simp)
        | true => rw [if_neg (by decide)]; exact rest h1 (by rw [h3, Bool.or_true])
  · rw [allN_true ha, Bool.true_and] at hq
    have e2 : decide ((d.length : Int) ≤ 16) = decide (d.length ≤ 16) := decide_eq_decide.2 (by omega)
    rw [e2]; exact hq
end Go.Proofs.Ythkeboifjlnjjaa

namespace Go.Proofs.Ythkeboifjlnjjaa
open Go.RowKit
set_option linter.unusedVariables false
def laws_eqPt.E (a : Pt) (b : Pt) (Q : Bool → Prop) : Prop :=
  (if a.X != b.X then Q false else (if a.Y != b.Y then Q false else Q true))
set_option maxHeartbeats 8000000 in
set_option maxRecDepth 100000 in
theorem laws_eqPt.calls {O : Ob} (w0 : World) (hO : Ok w0 O) (a : Pt) (b : Pt) (Q : Bool → Prop) (h : laws_eqPt.E a b Q) :
    Ret Try.prog 130 [.agg #[vi a.X, vi a.Y], .agg #[vi b.X, vi b.Y]] w0 (fun v w' => ∃ (r0 : Bool), v = vb r0 ∧ Q r0 ∧ Gr w0 w' none) := by
  have H : (if a.X != b.X then Q false else (if a.Y != b.Y then Q false else Q true)) := h
  clear h
  have hc0 := Ct.init hO
  refine Ret_enter Try.func130 rfl 15 rfl [.tmp 4] rfl rfl ?_
  refine W_seq ?_
  refine W_reg ?_
  refine L_box [vi a.X, vi a.Y] rfl fun w1 b2 hl4 hu5 g3 hx6 => ?_
  have h8 := Fb.mk hc0.ok hl4 hx6
  have hc9 := hc0.k0 g3
  refine L_box [vi b.X, vi b.Y] rfl fun w10 b11 hl13 hu14 g12 hx15 => ?_
  have h17 := Fb.mk hc9.ok hl13 hx15
  have hc18 := hc9.k0 g12
  refine L_pu (P_assign (vb false) rfl) ?_
  refine L_nil ?_
  refine W_seq ?_
  refine W_seq ?_
  refine W_reg ?_
  refine L_pu (P_fa fa64_0 ⟨b2, 0, none⟩ ⟨b2, 0, none⟩ rfl rfl) ?_
  have h19 := (h8.st (.new _ g12))
  refine L_pu (P_ld ag3 cL ⟨b2, 0, none⟩ (vi a.X) rfl (h19.cell rfl)) ?_
  refine L_pu (P_fa fa64_0 ⟨b11, 0, none⟩ ⟨b11, 0, none⟩ rfl rfl) ?_
  refine L_pu (P_ld ag3 cL ⟨b11, 0, none⟩ (vi b.X) rfl (h17.cell rfl)) ?_
  refine L_pu (P_cmp a.X b.X (a.X != b.X) rfl rfl rfl) ?_
  refine L_nil ?_
  refine W_cond (a.X != b.X) rfl (fun hq20 => ?_) (fun hq20 => ?_)
  · have H := ite_t H hq20
    refine W_seq ?_
    refine W_reg ?_
    refine L_pu (P_assign (vb false) rfl) ?_
    refine L_nil ?_
    refine W_ret ?_
    exact ⟨[vb false], ⟨_, rfl, rfl⟩, false, rfl, H, hc18.gr⟩
  · have H := ite_f H hq20
    refine W_skip ?_
    refine W_seq ?_
    refine W_seq ?_
    refine W_reg ?_
    refine L_pu (P_fa fa64_1 ⟨b2, 0, none⟩ ⟨b2, 1, none⟩ rfl rfl) ?_
    refine L_pu (P_ld ag3 cL ⟨b2, 1, none⟩ (vi a.Y) rfl (h19.cell rfl)) ?_
    refine L_pu (P_fa fa64_1 ⟨b11, 0, none⟩ ⟨b11, 1, none⟩ rfl rfl) ?_
    refine L_pu (P_ld ag3 cL ⟨b11, 1, none⟩ (vi b.Y) rfl (h17.cell rfl)) ?_
    refine L_pu (P_cmp a.Y b.Y (a.Y != b.Y) rfl rfl rfl) ?_
    refine L_nil ?_
    refine W_cond (a.Y != b.Y) rfl (fun hq21 => ?_) (fun hq21 => ?_)
    · have H := ite_t H hq21
      refine W_seq ?_
      refine W_reg ?_
      refine L_pu (P_assign (vb false) rfl) ?_
      refine L_nil ?_
      refine W_ret ?_
      exact ⟨[vb false], ⟨_, rfl, rfl⟩, false, rfl, H, hc18.gr⟩
    · have H := ite_f H hq21
      refine W_skip ?_
      refine W_seq ?_
      refine W_reg ?_
      refine L_pu (P_assign (vb true) rfl) ?_
      refine L_nil ?_
      refine W_ret ?_
      exact ⟨[vb true], ⟨_, rfl, rfl⟩, true, rfl, H, hc18.gr⟩
def laws_eqPt.m (a : Pt) (b : Pt) : Bool := (if a.X != b.X then false else (if a.Y != b.Y then false else true))
theorem laws_eqPt.fn (a : Pt) (b : Pt) : laws_eqPt.E a b (fun r => r = laws_eqPt.m a b) := by
  unfold laws_eqPt.E laws_eqPt.m
  (repeat' split) <;> simp_all
end Go.Proofs.Ythkeboifjlnjjaa

namespace Go.Proofs.Ythkeboifjlnjjaa
set_option linter.unusedVariables false
set_option linter.unusedSimpArgs false
theorem laws_eqPt.law (a b : Pt) (Q : Bool → Prop) (hq : Q (decide (a = b))) : laws_eqPt.E a b Q := by
  obtain ⟨x0, x1⟩ := a; obtain ⟨y0, y1⟩ := b
  rw [show (decide ((⟨x0, x1⟩ : Pt) = ⟨y0, y1⟩)) = ((decide (x0 = y0)) && (decide (x1 = y1))) by simp only [Pt.mk.injEq, Bool.decide_and]] at hq
  unfold laws_eqPt.E
  by_cases h0 : x0 = y0
  case neg => simpa [h0] using hq
  simp only [h0, decide_true, Bool.true_and, bne_self_eq_false, Bool.not_true, Bool.false_eq_true, if_false] at hq ⊢
  by_cases h1 : x1 = y1
  case neg => simpa [h1] using hq
  simp only [h1, decide_true, Bool.true_and, bne_self_eq_false, Bool.not_true, Bool.false_eq_true, if_false] at hq ⊢
  all_goals (try exact hq)
theorem laws_eqPt.is (a b : Pt) : laws_eqPt.E a b (fun r => r = decide (a = b)) := laws_eqPt.law a b _ rfl
end Go.Proofs.Ythkeboifjlnjjaa

namespace Go.Proofs.Ythkeboifjlnjjaa
open Go.RowKit
set_option linter.unusedVariables false
def laws_eqPtS.E (a : List Pt) (b : List Pt) (Q : Bool → Prop) : Prop :=
  (if (a.length : Int) != (b.length : Int) then Q false else (∃ (I32 : Int → Prop) (mu33 : Int → Nat), I32 0 ∧ ∀ (i2 : Int), I32 i2 → (if decide (i2 < (a.length : Int)) then ((0 : Int) ≤ i2 ∧ i2 < (a.length : Int)) ∧ ((0 : Int) ≤ i2 ∧ i2 < (b.length : Int)) ∧ (if !(decide ((nth a i2) = (nth b i2))) then Q false else (-9223372036854775808 ≤ i2) ∧ I32 (i2 + 1) ∧ mu33 (i2 + 1) < mu33 i2) else Q true)))
set_option maxHeartbeats 8000000 in
set_option maxRecDepth 100000 in
theorem laws_eqPtS.calls {O : Ob} (w0 : World) (hO : Ok w0 O) (a : List Pt) (A1 : Option Addr) (n2 c3 : Nat) (hp4 : Sl kPt w0 (Fr O) (.slice A1 n2 c3) a) (b : List Pt) (A6 : Option Addr) (n7 c8 : Nat) (hp9 : Sl kPt w0 (Fr O) (.slice A6 n7 c8) b) (Q : Bool → Prop) (h : laws_eqPtS.E a b Q) :
    Ret Try.prog 126 [.slice A1 n2 c3, .slice A6 n7 c8] w0 (fun v w' => ∃ (r0 : Bool), v = vb r0 ∧ Q r0 ∧ Gr w0 w' none) := by
  have H : (if (a.length : Int) != (b.length : Int) then Q false else (∃ (I32 : Int → Prop) (mu33 : Int → Nat), I32 0 ∧ ∀ (i2 : Int), I32 i2 → (if decide (i2 < (a.length : Int)) then ((0 : Int) ≤ i2 ∧ i2 < (a.length : Int)) ∧ ((0 : Int) ≤ i2 ∧ i2 < (b.length : Int)) ∧ (if !(decide ((nth a i2) = (nth b i2))) then Q false else (-9223372036854775808 ≤ i2) ∧ I32 (i2 + 1) ∧ mu33 (i2 + 1) < mu33 i2) else Q true))) := h
  clear h
  have hc0 := Ct.init hO
  refine Ret_enter Try.func126 rfl 27 rfl [.tmp 4] rfl rfl ?_
  refine W_seq ?_
  refine W_reg ?_
  refine L_pu (P_assign (vb false) rfl) ?_
  refine L_nil ?_
  refine W_seq ?_
  refine W_seq ?_
  refine W_reg ?_
  refine L_pu (P_move (.slice A1 n2 c3) rfl) ?_
  have hl11 := hp4.le
  refine L_pu (P_len Try.underlying23 A1 n2 c3 hp4.len rfl) ?_
  refine L_pu (P_move (.slice A6 n7 c8) rfl) ?_
  have hl12 := hp9.le
  refine L_pu (P_len Try.underlying23 A6 n7 c8 hp9.len rfl) ?_
  refine L_pu (P_cmp (a.length : Int) (b.length : Int) ((a.length : Int) != (b.length : Int)) rfl rfl rfl) ?_
  refine L_nil ?_
  refine W_cond ((a.length : Int) != (b.length : Int)) rfl (fun hq13 => ?_) (fun hq13 => ?_)
  · have H := ite_t H hq13
    refine W_seq ?_
    refine W_reg ?_
    refine L_pu (P_assign (vb false) rfl) ?_
    refine L_nil ?_
    refine W_ret ?_
    exact ⟨[vb false], ⟨_, rfl, rfl⟩, false, rfl, H, hc0.gr⟩
  · have H := ite_f H hq13
    refine W_skip ?_
    refine W_seq ?_
    refine W_seq ?_
    refine W_reg ?_
    refine L_pu (P_assign (vi 0) rfl) ?_
    refine L_nil ?_
    refine W_block ?_
    obtain ⟨I32, mu33, hI34, H⟩ := H
    refine W_loop (α := Int) (fun (sv__ : Int) t w26 => match sv__ with | i2 => I32 i2 ∧ Has t [(0, .slice A1 n2 c3), (1, .slice A6 n7 c8), (5, vi i2)] ∧ Ct none w0 w26 [] O ∧ Sl kPt w26 (Fr ([] ++ O)) (.slice A1 n2 c3) a ∧ Sl kPt w26 (Fr ([] ++ O)) (.slice A6 n7 c8) b) (fun (sv__ : Int) => match sv__ with | i2 => mu33 i2) 0 ⟨hI34, ⟨rfl, rfl, rfl, trivial⟩, hc0, hp4, hp9⟩ ?_
    rintro i2 _ w26 ⟨hI34, hh36, hc29, h30, h31⟩
    obtain ⟨u37, rfl⟩ := Has.ins hh36
    have H := H i2 hI34
    refine W_seq ?_
    refine W_seq ?_
    refine W_reg ?_
    refine L_pu (P_move (vi i2) rfl) ?_
    refine L_pu (P_move (.slice A1 n2 c3) rfl) ?_
    have hl38 := h30.le
    refine L_pu (P_len Try.underlying23 A1 n2 c3 h30.len rfl) ?_
    refine L_pu (P_cmp i2 (a.length : Int) (decide (i2 < (a.length : Int))) rfl rfl rfl) ?_
    refine L_nil ?_
    refine W_cond (decide (i2 < (a.length : Int))) rfl (fun hq39 => ?_) (fun hq39 => ?_)
    · have H := ite_t H hq39
      refine W_skip ?_
      refine W_seq ?_
      refine W_block ?_
      refine W_seq ?_
      refine W_draw (fun x => Gr w26 x none) (by kernel_rfl) (by kernel_rfl) (Gr.drew _) ?_
      refine Q_pu (P_move (.slice A1 n2 c3) rfl) ?_
      refine Q_pu (P_move (vi i2) rfl) ?_
      obtain ⟨hb40, H⟩ := H
      obtain ⟨ad41, cs42, hA43, hS46, hR44, hcl45⟩ := h30.get default (by decide) i2 hb40
      obtain rfl := kPt.op hR44
      refine Q_pu (P_ia Try.underlying23 se23 A1 ad41 n2 c3 h30.len i2 rfl hA43 rfl hb40) ?_
      refine Q_pu (P_lda ag64 sz64 cQ (ad41.add (i2.toNat * 2)) [vi ((nth a i2).X), vi ((nth a i2).Y)] rfl rfl hcl45) ?_
      refine Q_pu (P_move (.slice A6 n7 c8) rfl) ?_
      refine Q_pu (P_move (vi i2) rfl) ?_
      obtain ⟨hb47, H⟩ := H
      obtain ⟨ad48, cs49, hA50, hS53, hR51, hcl52⟩ := h31.get default (by decide) i2 hb47
      obtain rfl := kPt.op hR51
      refine Q_pu (P_ia Try.underlying23 se23 A6 ad48 n7 c8 h31.len i2 rfl hA50 rfl hb47) ?_
      refine Q_pu (P_lda ag64 sz64 cQ (ad48.add (i2.toNat * 2)) [vi ((nth b i2).X), vi ((nth b i2).Y)] rfl rfl hcl52) ?_
      refine Q_call go130 [.agg #[vi ((nth a i2).X), vi ((nth a i2).Y)], .agg #[vi ((nth b i2).X), vi ((nth b i2).Y)]] rfl (vb (decide ((nth a i2) = (nth b i2)))) (fun w g => (laws_eqPt.calls w (hc29.k0 g).ok (nth a i2) (nth b i2) _ (laws_eqPt.is (nth a i2) (nth b i2))).mono ?_) ?_
      · rintro _ w ⟨r, rfl, rfl, g2⟩
        exact ⟨rfl, Gr.t0 g g2⟩
      refine Q_pu (P_not (decide ((nth a i2) = (nth b i2))) rfl) ?_
      refine Q_nil fun w59 g60 => ?_
      have hc62 := hc29.k0 g60
      refine W_cond (!(decide ((nth a i2) = (nth b i2)))) rfl (fun hq63 => ?_) (fun hq63 => ?_)
      · have H := ite_t H hq63
        refine W_seq ?_
        refine W_reg ?_
        refine L_pu (P_assign (vb false) rfl) ?_
        refine L_nil ?_
        refine W_ret ?_
        exact ⟨[vb false], ⟨_, rfl, rfl⟩, false, rfl, H, hc62.gr⟩
      · have H := ite_f H hq63
        refine W_skip ?_
        refine W_reg ?_
        refine L_pu (P_move (vi i2) rfl) ?_
        obtain ⟨hb65, H⟩ := H
        have hi64 : I64 (i2 + 1) := i64_succ (of_decide_eq_true hq39) hl38 hb65
        refine L_pu (P_add i2 1 rfl rfl hi64) ?_
        refine L_pu (P_assign (vi (i2 + 1)) rfl) ?_
        refine L_nil ?_
        obtain ⟨hI66, hm67⟩ := H
        exact ⟨i2 + 1, hm67, hI66, ⟨rfl, rfl, rfl, trivial⟩, hc62, (h30.st (.new _ g60)), (h31.st (.new _ g60))⟩
    · have H := ite_f H hq39
      refine W_exit (xin_hit ?_)
      refine W_seq ?_
      refine W_reg ?_
      refine L_pu (P_assign (vb true) rfl) ?_
      refine L_nil ?_
      refine W_ret ?_
      exact ⟨[vb true], ⟨_, rfl, rfl⟩, true, rfl, H, hc29.gr⟩
end Go.Proofs.Ythkeboifjlnjjaa

namespace Go.Proofs.Ythkeboifjlnjjaa
set_option linter.unusedVariables false
set_option linter.unusedSimpArgs false
theorem laws_eqPtS.law (a b : List Pt) (Q : Bool → Prop) (hq : Q (decide (a = b))) : laws_eqPtS.E a b Q := by
  unfold laws_eqPtS.E
  exact eqS_shape (fun x y => decide (x = y)) (fun _ _ => rfl) a b Q hq
theorem laws_eqPtS.is (a b : List Pt) : laws_eqPtS.E a b (fun r => r = decide (a = b)) := laws_eqPtS.law a b _ rfl
end Go.Proofs.Ythkeboifjlnjjaa

namespace Go.Proofs.Ythkeboifjlnjjaa
open Go.RowKit
set_option linter.unusedVariables false
def laws_eqShape.E (a : Shape) (b : Shape) (Q : Bool → Prop) : Prop :=
  (if a.Kind != b.Kind then Q false else laws_eqPtS.E a.Pts b.Pts (fun r => (if !r then Q false else Q true)))
set_option maxHeartbeats 8000000 in
set_option maxRecDepth 100000 in
theorem laws_eqShape.calls {O : Ob} (w0 : World) (hO : Ok w0 O) (a : Shape) (A1 : Option Addr) (n2 c3 : Nat) (hp4 : Sl kPt w0 (Fr O) (.slice A1 n2 c3) a.Pts) (b : Shape) (A6 : Option Addr) (n7 c8 : Nat) (hp9 : Sl kPt w0 (Fr O) (.slice A6 n7 c8) b.Pts) (Q : Bool → Prop) (h : laws_eqShape.E a b Q) :
    Ret Try.prog 110 [.agg #[vi a.Kind, .slice A1 n2 c3], .agg #[vi b.Kind, .slice A6 n7 c8]] w0 (fun v w' => ∃ (r0 : Bool), v = vb r0 ∧ Q r0 ∧ Gr w0 w' none) := by
  have H : (if a.Kind != b.Kind then Q false else laws_eqPtS.E a.Pts b.Pts (fun r => (if !r then Q false else Q true))) := h
  clear h
  have hc0 := Ct.init hO
  refine Ret_enter Try.func110 rfl 16 rfl [.tmp 4] rfl rfl ?_
  refine W_seq ?_
  refine W_reg ?_
  refine L_box [vi a.Kind, .slice A1 n2 c3] rfl fun w11 b12 hl14 hu15 g13 hx16 => ?_
  have h18 := Fb.mk hc0.ok hl14 hx16
  have hc19 := hc0.k0 g13
  refine L_box [vi b.Kind, .slice A6 n7 c8] rfl fun w20 b21 hl23 hu24 g22 hx25 => ?_
  have h27 := Fb.mk hc19.ok hl23 hx25
  have hc28 := hc19.k0 g22
  refine L_pu (P_assign (vb false) rfl) ?_
  refine L_nil ?_
  refine W_seq ?_
  refine W_seq ?_
  refine W_reg ?_
  refine L_pu (P_fa fa76_0 ⟨b12, 0, none⟩ ⟨b12, 0, none⟩ rfl rfl) ?_
  have h29 := (h18.st (.new _ g22))
  refine L_pu (P_ld ag3 cL ⟨b12, 0, none⟩ (vi a.Kind) rfl (h29.cell rfl)) ?_
  refine L_pu (P_fa fa76_0 ⟨b21, 0, none⟩ ⟨b21, 0, none⟩ rfl rfl) ?_
  refine L_pu (P_ld ag3 cL ⟨b21, 0, none⟩ (vi b.Kind) rfl (h27.cell rfl)) ?_
  refine L_pu (P_cmp a.Kind b.Kind (a.Kind != b.Kind) rfl rfl rfl) ?_
  refine L_nil ?_
  refine W_cond (a.Kind != b.Kind) rfl (fun hq30 => ?_) (fun hq30 => ?_)
  · have H := ite_t H hq30
    refine W_seq ?_
    refine W_reg ?_
    refine L_pu (P_assign (vb false) rfl) ?_
    refine L_nil ?_
    refine W_ret ?_
    exact ⟨[vb false], ⟨_, rfl, rfl⟩, false, rfl, H, hc28.gr⟩
  · have H := ite_f H hq30
    refine W_skip ?_
    refine W_seq ?_
    refine W_seq ?_
    refine W_reg ?_
    refine L_pu (P_fa fa76_1 ⟨b12, 0, none⟩ ⟨b12, 1, none⟩ rfl rfl) ?_
    refine L_pu (P_ld ag23 cL ⟨b12, 1, none⟩ (.slice A1 n2 c3) rfl (h29.cell rfl)) ?_
    refine L_pu (P_fa fa76_1 ⟨b21, 0, none⟩ ⟨b21, 1, none⟩ rfl rfl) ?_
    refine L_pu (P_ld ag23 cL ⟨b21, 1, none⟩ (.slice A6 n7 c8) rfl (h27.cell rfl)) ?_
    refine L_call go126 [.slice A1 n2 c3, .slice A6 n7 c8] rfl ((laws_eqPtS.calls w20 hc28.ok a.Pts A1 n2 c3 (hp4.st hc28.st) b.Pts A6 n7 c8 (hp9.st hc28.st) _ H).mono ?_)
    rintro _ w31 ⟨r, rfl, H, g32⟩
    have hc36 := hc28.k0 g32
    refine L_pu (P_not r rfl) ?_
    refine L_nil ?_
    refine W_cond (!r) rfl (fun hq37 => ?_) (fun hq37 => ?_)
    · have H := ite_t H hq37
      refine W_seq ?_
      refine W_reg ?_
      refine L_pu (P_assign (vb false) rfl) ?_
      refine L_nil ?_
      refine W_ret ?_
      exact ⟨[vb false], ⟨_, rfl, rfl⟩, false, rfl, H, hc36.gr⟩
    · have H := ite_f H hq37
      refine W_skip ?_
      refine W_seq ?_
      refine W_reg ?_
      refine L_pu (P_assign (vb true) rfl) ?_
      refine L_nil ?_
      refine W_ret ?_
      exact ⟨[vb true], ⟨_, rfl, rfl⟩, true, rfl, H, hc36.gr⟩
end Go.Proofs.Ythkeboifjlnjjaa

namespace Go.Proofs.Ythkeboifjlnjjaa
set_option linter.unusedVariables false
set_option linter.unusedSimpArgs false
theorem laws_eqShape.law (a b : Shape) (Q : Bool → Prop) (hq : Q (decide (a = b))) : laws_eqShape.E a b Q := by
  obtain ⟨x0, x1⟩ := a; obtain ⟨y0, y1⟩ := b
  rw [show (decide ((⟨x0, x1⟩ : Shape) = ⟨y0, y1⟩)) = ((decide (x0 = y0)) && (decide (x1 = y1))) by simp only [Shape.mk.injEq, Bool.decide_and]] at hq
  unfold laws_eqShape.E
  by_cases h0 : x0 = y0
  case neg => simpa [h0] using hq
  simp only [h0, decide_true, Bool.true_and, bne_self_eq_false, Bool.not_true, Bool.false_eq_true, if_false] at hq ⊢
  try refine laws_eqPtS.law _ _ _ ?_
  by_cases h1 : x1 = y1
  case neg => simpa [h1] using hq
  simp only [h1, decide_true, Bool.true_and, bne_self_eq_false, Bool.not_true, Bool.false_eq_true, if_false] at hq ⊢
  all_goals (try exact hq)
theorem laws_eqShape.is (a b : Shape) : laws_eqShape.E a b (fun r => r = decide (a = b)) := laws_eqShape.law a b _ rfl
end Go.Proofs.Ythkeboifjlnjjaa

namespace Go.Proofs.Ythkeboifjlnjjaa
open Go.RowKit
set_option linter.unusedVariables false
def laws_eqTag.E (a : Tag) (b : Tag) (Q : Bool → Prop) : Prop :=
  (if a.Key != b.Key then Q false else (if a.Val != b.Val then Q false else Q true))
set_option maxHeartbeats 8000000 in
set_option maxRecDepth 100000 in
theorem laws_eqTag.calls {O : Ob} (w0 : World) (hO : Ok w0 O) (a : Tag) (hs1 : Lim a.Key) (hs2 : Lim a.Val) (b : Tag) (hs3 : Lim b.Key) (hs4 : Lim b.Val) (Q : Bool → Prop) (h : laws_eqTag.E a b Q) :
    Ret Try.prog 127 [.agg #[vs a.Key, vs a.Val], .agg #[vs b.Key, vs b.Val]] w0 (fun v w' => ∃ (r0 : Bool), v = vb r0 ∧ Q r0 ∧ Gr w0 w' none) := by
  have H : (if a.Key != b.Key then Q false else (if a.Val != b.Val then Q false else Q true)) := h
  clear h
  have hc0 := Ct.init hO
  refine Ret_enter Try.func127 rfl 15 rfl [.tmp 4] rfl rfl ?_
  refine W_seq ?_
  refine W_reg ?_
  refine L_box [vs a.Key, vs a.Val] rfl fun w5 b6 hl8 hu9 g7 hx10 => ?_
  have h12 := Fb.mk hc0.ok hl8 hx10
  have hc13 := hc0.k0 g7
  refine L_box [vs b.Key, vs b.Val] rfl fun w14 b15 hl17 hu18 g16 hx19 => ?_
  have h21 := Fb.mk hc13.ok hl17 hx19
  have hc22 := hc13.k0 g16
  refine L_pu (P_assign (vb false) rfl) ?_
  refine L_nil ?_
  refine W_seq ?_
  refine W_seq ?_
  refine W_reg ?_
  refine L_pu (P_fa fa149_0 ⟨b6, 0, none⟩ ⟨b6, 0, none⟩ rfl rfl) ?_
  have h23 := (h12.st (.new _ g16))
  refine L_pu (P_ld ag9 cL ⟨b6, 0, none⟩ (vs a.Key) rfl (h23.cell rfl)) ?_
  refine L_pu (P_fa fa149_0 ⟨b15, 0, none⟩ ⟨b15, 0, none⟩ rfl rfl) ?_
  refine L_pu (P_ld ag9 cL ⟨b15, 0, none⟩ (vs b.Key) rfl (h21.cell rfl)) ?_
  refine L_pu (P_scmp a.Key b.Key (a.Key != b.Key) rfl rfl rfl) ?_
  refine L_nil ?_
  refine W_cond (a.Key != b.Key) rfl (fun hq24 => ?_) (fun hq24 => ?_)
  · have H := ite_t H hq24
    refine W_seq ?_
    refine W_reg ?_
    refine L_pu (P_assign (vb false) rfl) ?_
    refine L_nil ?_
    refine W_ret ?_
    exact ⟨[vb false], ⟨_, rfl, rfl⟩, false, rfl, H, hc22.gr⟩
  · have H := ite_f H hq24
    refine W_skip ?_
    refine W_seq ?_
    refine W_seq ?_
    refine W_reg ?_
    refine L_pu (P_fa fa149_1 ⟨b6, 0, none⟩ ⟨b6, 1, none⟩ rfl rfl) ?_
    refine L_pu (P_ld ag9 cL ⟨b6, 1, none⟩ (vs a.Val) rfl (h23.cell rfl)) ?_
    refine L_pu (P_fa fa149_1 ⟨b15, 0, none⟩ ⟨b15, 1, none⟩ rfl rfl) ?_
    refine L_pu (P_ld ag9 cL ⟨b15, 1, none⟩ (vs b.Val) rfl (h21.cell rfl)) ?_
    refine L_pu (P_scmp a.Val b.Val (a.Val != b.Val) rfl rfl rfl) ?_
    refine L_nil ?_
    refine W_cond (a.Val != b.Val) rfl (fun hq25 => ?_) (fun hq25 => ?_)
    · have H := ite_t H hq25
      refine W_seq ?_
      refine W_reg ?_
      refine L_pu (P_assign (vb false) rfl) ?_
      refine L_nil ?_
      refine W_ret ?_
      exact ⟨[vb false], ⟨_, rfl, rfl⟩, false, rfl, H, hc22.gr⟩
    · have H := ite_f H hq25
      refine W_skip ?_
      refine W_seq ?_
      refine W_reg ?_
      refine L_pu (P_assign (vb true) rfl) ?_
      refine L_nil ?_
      refine W_ret ?_
      exact ⟨[vb true], ⟨_, rfl, rfl⟩, true, rfl, H, hc22.gr⟩
def laws_eqTag.m (a : Tag) (b : Tag) : Bool := (if a.Key != b.Key then false else (if a.Val != b.Val then false else true))
theorem laws_eqTag.fn (a : Tag) (b : Tag) : laws_eqTag.E a b (fun r => r = laws_eqTag.m a b) := by
  unfold laws_eqTag.E laws_eqTag.m
  (repeat' split) <;> simp_all
end Go.Proofs.Ythkeboifjlnjjaa

namespace Go.Proofs.Ythkeboifjlnjjaa
set_option linter.unusedVariables false
set_option linter.unusedSimpArgs false
theorem laws_eqTag.law (a b : Tag) (Q : Bool → Prop) (hq : Q (decide (a = b))) : laws_eqTag.E a b Q := by
  obtain ⟨x0, x1⟩ := a; obtain ⟨y0, y1⟩ := b
  rw [show (decide ((⟨x0, x1⟩ : Tag) = ⟨y0, y1⟩)) = ((decide (x0 = y0)) && (decide (x1 = y1))) by simp only [Tag.mk.injEq, Bool.decide_and]] at hq
  unfold laws_eqTag.E
  by_cases h0 : x0 = y0
  case neg => simpa [h0] using hq
  simp only [h0, decide_true, Bool.true_and, bne_self_eq_false, Bool.not_true, Bool.false_eq_true, if_false] at hq ⊢
  by_cases h1 : x1 = y1
  case neg => simpa [h1] using hq
  simp only [h1, decide_true, Bool.true_and, bne_self_eq_false, Bool.not_true, Bool.false_eq_true, if_false] at hq ⊢
  all_goals (try exact hq)
theorem laws_eqTag.is (a b : Tag) : laws_eqTag.E a b (fun r => r = decide (a = b)) := laws_eqTag.law a b _ rfl
end Go.Proofs.Ythkeboifjlnjjaa

namespace Go.Proofs.Ythkeboifjlnjjaa
open Go.RowKit
set_option linter.unusedVariables false
def laws_eqTagS.E (a : List Tag) (b : List Tag) (Q : Bool → Prop) : Prop :=
  (if (a.length : Int) != (b.length : Int) then Q false else (∃ (I32 : Int → Prop) (mu33 : Int → Nat), I32 0 ∧ ∀ (i2 : Int), I32 i2 → (if decide (i2 < (a.length : Int)) then ((0 : Int) ≤ i2 ∧ i2 < (a.length : Int)) ∧ ((0 : Int) ≤ i2 ∧ i2 < (b.length : Int)) ∧ (if !(decide ((nth a i2) = (nth b i2))) then Q false else (-9223372036854775808 ≤ i2) ∧ I32 (i2 + 1) ∧ mu33 (i2 + 1) < mu33 i2) else Q true)))
set_option maxHeartbeats 8000000 in
set_option maxRecDepth 100000 in
theorem laws_eqTagS.calls {O : Ob} (w0 : World) (hO : Ok w0 O) (a : List Tag) (A1 : Option Addr) (n2 c3 : Nat) (hp4 : Sl kTag w0 (Fr O) (.slice A1 n2 c3) a) (b : List Tag) (A6 : Option Addr) (n7 c8 : Nat) (hp9 : Sl kTag w0 (Fr O) (.slice A6 n7 c8) b) (Q : Bool → Prop) (h : laws_eqTagS.E a b Q) :
    Ret Try.prog 111 [.slice A1 n2 c3, .slice A6 n7 c8] w0 (fun v w' => ∃ (r0 : Bool), v = vb r0 ∧ Q r0 ∧ Gr w0 w' none) := by
  have H : (if (a.length : Int) != (b.length : Int) then Q false else (∃ (I32 : Int → Prop) (mu33 : Int → Nat), I32 0 ∧ ∀ (i2 : Int), I32 i2 → (if decide (i2 < (a.length : Int)) then ((0 : Int) ≤ i2 ∧ i2 < (a.length : Int)) ∧ ((0 : Int) ≤ i2 ∧ i2 < (b.length : Int)) ∧ (if !(decide ((nth a i2) = (nth b i2))) then Q false else (-9223372036854775808 ≤ i2) ∧ I32 (i2 + 1) ∧ mu33 (i2 + 1) < mu33 i2) else Q true))) := h
  clear h
  have hc0 := Ct.init hO
  refine Ret_enter Try.func111 rfl 27 rfl [.tmp 4] rfl rfl ?_
  refine W_seq ?_
  refine W_reg ?_
  refine L_pu (P_assign (vb false) rfl) ?_
  refine L_nil ?_
  refine W_seq ?_
  refine W_seq ?_
  refine W_reg ?_
  refine L_pu (P_move (.slice A1 n2 c3) rfl) ?_
  have hl11 := hp4.le
  refine L_pu (P_len Try.underlying77 A1 n2 c3 hp4.len rfl) ?_
  refine L_pu (P_move (.slice A6 n7 c8) rfl) ?_
  have hl12 := hp9.le
  refine L_pu (P_len Try.underlying77 A6 n7 c8 hp9.len rfl) ?_
  refine L_pu (P_cmp (a.length : Int) (b.length : Int) ((a.length : Int) != (b.length : Int)) rfl rfl rfl) ?_
  refine L_nil ?_
  refine W_cond ((a.length : Int) != (b.length : Int)) rfl (fun hq13 => ?_) (fun hq13 => ?_)
  · have H := ite_t H hq13
    refine W_seq ?_
    refine W_reg ?_
    refine L_pu (P_assign (vb false) rfl) ?_
    refine L_nil ?_
    refine W_ret ?_
    exact ⟨[vb false], ⟨_, rfl, rfl⟩, false, rfl, H, hc0.gr⟩
  · have H := ite_f H hq13
    refine W_skip ?_
    refine W_seq ?_
    refine W_seq ?_
    refine W_reg ?_
    refine L_pu (P_assign (vi 0) rfl) ?_
    refine L_nil ?_
    refine W_block ?_
    obtain ⟨I32, mu33, hI34, H⟩ := H
    refine W_loop (α := Int) (fun (sv__ : Int) t w26 => match sv__ with | i2 => I32 i2 ∧ Has t [(0, .slice A1 n2 c3), (1, .slice A6 n7 c8), (5, vi i2)] ∧ Ct none w0 w26 [] O ∧ Sl kTag w26 (Fr ([] ++ O)) (.slice A1 n2 c3) a ∧ Sl kTag w26 (Fr ([] ++ O)) (.slice A6 n7 c8) b) (fun (sv__ : Int) => match sv__ with | i2 => mu33 i2) 0 ⟨hI34, ⟨rfl, rfl, rfl, trivial⟩, hc0, hp4, hp9⟩ ?_
    rintro i2 _ w26 ⟨hI34, hh36, hc29, h30, h31⟩
    obtain ⟨u37, rfl⟩ := Has.ins hh36
    have H := H i2 hI34
    refine W_seq ?_
    refine W_seq ?_
    refine W_reg ?_
    refine L_pu (P_move (vi i2) rfl) ?_
    refine L_pu (P_move (.slice A1 n2 c3) rfl) ?_
    have hl38 := h30.le
    refine L_pu (P_len Try.underlying77 A1 n2 c3 h30.len rfl) ?_
    refine L_pu (P_cmp i2 (a.length : Int) (decide (i2 < (a.length : Int))) rfl rfl rfl) ?_
    refine L_nil ?_
    refine W_cond (decide (i2 < (a.length : Int))) rfl (fun hq39 => ?_) (fun hq39 => ?_)
    · have H := ite_t H hq39
      refine W_skip ?_
      refine W_seq ?_
      refine W_block ?_
      refine W_seq ?_
      refine W_draw (fun x => Gr w26 x none) (by kernel_rfl) (by kernel_rfl) (Gr.drew _) ?_
      refine Q_pu (P_move (.slice A1 n2 c3) rfl) ?_
      refine Q_pu (P_move (vi i2) rfl) ?_
      obtain ⟨hb40, H⟩ := H
      obtain ⟨ad41, cs42, hA43, hS46, hR44, hcl45⟩ := h30.get default (by decide) i2 hb40
      obtain ⟨rfl, hs47, hs48⟩ := kTag.op hR44
      refine Q_pu (P_ia Try.underlying77 se77 A1 ad41 n2 c3 h30.len i2 rfl hA43 rfl hb40) ?_
      refine Q_pu (P_lda ag149 sz149 cQ (ad41.add (i2.toNat * 2)) [vs ((nth a i2).Key), vs ((nth a i2).Val)] rfl rfl hcl45) ?_
      refine Q_pu (P_move (.slice A6 n7 c8) rfl) ?_
      refine Q_pu (P_move (vi i2) rfl) ?_
      obtain ⟨hb49, H⟩ := H
      obtain ⟨ad50, cs51, hA52, hS55, hR53, hcl54⟩ := h31.get default (by decide) i2 hb49
      obtain ⟨rfl, hs56, hs57⟩ := kTag.op hR53
      refine Q_pu (P_ia Try.underlying77 se77 A6 ad50 n7 c8 h31.len i2 rfl hA52 rfl hb49) ?_
      refine Q_pu (P_lda ag149 sz149 cQ (ad50.add (i2.toNat * 2)) [vs ((nth b i2).Key), vs ((nth b i2).Val)] rfl rfl hcl54) ?_
      refine Q_call go127 [.agg #[vs ((nth a i2).Key), vs ((nth a i2).Val)], .agg #[vs ((nth b i2).Key), vs ((nth b i2).Val)]] rfl (vb (decide ((nth a i2) = (nth b i2)))) (fun w g => (laws_eqTag.calls w (hc29.k0 g).ok (nth a i2) hs47 hs48 (nth b i2) hs56 hs57 _ (laws_eqTag.is (nth a i2) (nth b i2))).mono ?_) ?_
      · rintro _ w ⟨r, rfl, rfl, g2⟩
        exact ⟨rfl, Gr.t0 g g2⟩
      refine Q_pu (P_not (decide ((nth a i2) = (nth b i2))) rfl) ?_
      refine Q_nil fun w63 g64 => ?_
      have hc66 := hc29.k0 g64
      refine W_cond (!(decide ((nth a i2) = (nth b i2)))) rfl (fun hq67 => ?_) (fun hq67 => ?_)
      · have H := ite_t H hq67
        refine W_seq ?_
        refine W_reg ?_
        refine L_pu (P_assign (vb false) rfl) ?_
        refine L_nil ?_
        refine W_ret ?_
        exact ⟨[vb false], ⟨_, rfl, rfl⟩, false, rfl, H, hc66.gr⟩
      · have H := ite_f H hq67
        refine W_skip ?_
        refine W_reg ?_
        refine L_pu (P_move (vi i2) rfl) ?_
        obtain ⟨hb69, H⟩ := H
        have hi68 : I64 (i2 + 1) := i64_succ (of_decide_eq_true hq39) hl38 hb69
        refine L_pu (P_add i2 1 rfl rfl hi68) ?_
        refine L_pu (P_assign (vi (i2 + 1)) rfl) ?_
        refine L_nil ?_
        obtain ⟨hI70, hm71⟩ := H
        exact ⟨i2 + 1, hm71, hI70, ⟨rfl, rfl, rfl, trivial⟩, hc66, (h30.st (.new _ g64)), (h31.st (.new _ g64))⟩
    · have H := ite_f H hq39
      refine W_exit (xin_hit ?_)
      refine W_seq ?_
      refine W_reg ?_
      refine L_pu (P_assign (vb true) rfl) ?_
      refine L_nil ?_
      refine W_ret ?_
      exact ⟨[vb true], ⟨_, rfl, rfl⟩, true, rfl, H, hc29.gr⟩
end Go.Proofs.Ythkeboifjlnjjaa

namespace Go.Proofs.Ythkeboifjlnjjaa
set_option linter.unusedVariables false
set_option linter.unusedSimpArgs false
theorem laws_eqTagS.law (a b : List Tag) (Q : Bool → Prop) (hq : Q (decide (a = b))) : laws_eqTagS.E a b Q := by
  unfold laws_eqTagS.E
  exact eqS_shape (fun x y => decide (x = y)) (fun _ _ => rfl) a b Q hq
theorem laws_eqTagS.is (a b : List Tag) : laws_eqTagS.E a b (fun r => r = decide (a = b)) := laws_eqTagS.law a b _ rfl
end Go.Proofs.Ythkeboifjlnjjaa

namespace Go.Proofs.Ythkeboifjlnjjaa
open Go.RowKit
set_option linter.unusedVariables false
def laws_eqFeat.E (a : Feat) (b : Feat) (Q : Bool → Prop) : Prop :=
  (if a.Id != b.Id then Q false else laws_eqShape.E a.Shape b.Shape (fun r => (if !r then Q false else laws_eqTagS.E a.Tags b.Tags (fun r2 => (if !r2 then Q false else Q true)))))
set_option maxHeartbeats 8000000 in
set_option maxRecDepth 100000 in
theorem laws_eqFeat.calls {O : Ob} (w0 : World) (hO : Ok w0 O) (a : Feat) (A2 : Option Addr) (n3 c4 : Nat) (A7 : Option Addr) (n8 c9 : Nat) (hs1 : Lim a.Id) (hp5 : Sl kPt w0 (Fr O) (.slice A2 n3 c4) a.Shape.Pts) (hp10 : Sl kTag w0 (Fr O) (.slice A7 n8 c9) a.Tags) (b : Feat) (A13 : Option Addr) (n14 c15 : Nat) (A18 : Option Addr) (n19 c20 : Nat) (hs12 : Lim b.Id) (hp16 : Sl kPt w0 (Fr O) (.slice A13 n14 c15) b.Shape.Pts) (hp21 : Sl kTag w0 (Fr O) (.slice A18 n19 c20) b.Tags) (Q : Bool → Prop) (h : laws_eqFeat.E a b Q) :
    Ret Try.prog 81 [.agg #[vs a.Id, vi a.Shape.Kind, .slice A2 n3 c4, .slice A7 n8 c9], .agg #[vs b.Id, vi b.Shape.Kind, .slice A13 n14 c15, .slice A18 n19 c20]] w0 (fun v w' => ∃ (r0 : Bool), v = vb r0 ∧ Q r0 ∧ Gr w0 w' none) := by
  have H : (if a.Id != b.Id then Q false else laws_eqShape.E a.Shape b.Shape (fun r => (if !r then Q false else laws_eqTagS.E a.Tags b.Tags (fun r2 => (if !r2 then Q false else Q true))))) := h
  clear h
  have hc0 := Ct.init hO
  refine Ret_enter Try.func81 rfl 22 rfl [.tmp 4] rfl rfl ?_
  refine W_seq ?_
  refine W_reg ?_
  refine L_box [vs a.Id, vi a.Shape.Kind, .slice A2 n3 c4, .slice A7 n8 c9] rfl fun w23 b24 hl26 hu27 g25 hx28 => ?_
  have h30 := Fb.mk hc0.ok hl26 hx28
  have hc31 := hc0.k0 g25
  refine L_box [vs b.Id, vi b.Shape.Kind, .slice A13 n14 c15, .slice A18 n19 c20] rfl fun w32 b33 hl35 hu36 g34 hx37 => ?_
  have h39 := Fb.mk hc31.ok hl35 hx37
  have hc40 := hc31.k0 g34
  refine L_pu (P_assign (vb false) rfl) ?_
  refine L_nil ?_
  refine W_seq ?_
  refine W_seq ?_
  refine W_reg ?_
  refine L_pu (P_fa fa79_0 ⟨b24, 0, none⟩ ⟨b24, 0, none⟩ rfl rfl) ?_
  have h41 := (h30.st (.new _ g34))
  refine L_pu (P_ld ag9 cL ⟨b24, 0, none⟩ (vs a.Id) rfl (h41.cell rfl)) ?_
  refine L_pu (P_fa fa79_0 ⟨b33, 0, none⟩ ⟨b33, 0, none⟩ rfl rfl) ?_
  refine L_pu (P_ld ag9 cL ⟨b33, 0, none⟩ (vs b.Id) rfl (h39.cell rfl)) ?_
  refine L_pu (P_scmp a.Id b.Id (a.Id != b.Id) rfl rfl rfl) ?_
  refine L_nil ?_
  refine W_cond (a.Id != b.Id) rfl (fun hq42 => ?_) (fun hq42 => ?_)
  · have H := ite_t H hq42
    refine W_seq ?_
    refine W_reg ?_
    refine L_pu (P_assign (vb false) rfl) ?_
    refine L_nil ?_
    refine W_ret ?_
    exact ⟨[vb false], ⟨_, rfl, rfl⟩, false, rfl, H, hc40.gr⟩
  · have H := ite_f H hq42
    refine W_skip ?_
    refine W_seq ?_
    refine W_seq ?_
    refine W_reg ?_
    refine L_pu (P_fa fa79_1 ⟨b24, 0, none⟩ ⟨b24, 1, none⟩ rfl rfl) ?_
    refine L_pu (P_lda ag76 sz76 cL ⟨b24, 1, none⟩ [vi a.Shape.Kind, .slice A2 n3 c4] rfl rfl (h41.cells (off := 1) rfl)) ?_
    refine L_pu (P_fa fa79_1 ⟨b33, 0, none⟩ ⟨b33, 1, none⟩ rfl rfl) ?_
    refine L_pu (P_lda ag76 sz76 cL ⟨b33, 1, none⟩ [vi b.Shape.Kind, .slice A13 n14 c15] rfl rfl (h39.cells (off := 1) rfl)) ?_
    refine L_call go110 [.agg #[vi a.Shape.Kind, .slice A2 n3 c4], .agg #[vi b.Shape.Kind, .slice A13 n14 c15]] rfl ((laws_eqShape.calls w32 hc40.ok a.Shape A2 n3 c4 (hp5.st hc40.st) b.Shape A13 n14 c15 (hp16.st hc40.st) _ H).mono ?_)
    rintro _ w43 ⟨r, rfl, H, g44⟩
    have hc48 := hc40.k0 g44
    refine L_pu (P_not r rfl) ?_
    refine L_nil ?_
    refine W_cond (!r) rfl (fun hq49 => ?_) (fun hq49 => ?_)
    · have H := ite_t H hq49
      refine W_seq ?_
      refine W_reg ?_
      refine L_pu (P_assign (vb false) rfl) ?_
      refine L_nil ?_
      refine W_ret ?_
      exact ⟨[vb false], ⟨_, rfl, rfl⟩, false, rfl, H, hc48.gr⟩
    · have H := ite_f H hq49
      refine W_skip ?_
      refine W_seq ?_
      refine W_seq ?_
      refine W_reg ?_
      refine L_pu (P_fa fa79_2 ⟨b24, 0, none⟩ ⟨b24, 3, none⟩ rfl rfl) ?_
      have h50 := (h41.st (.new _ g44))
      refine L_pu (P_ld ag77 cL ⟨b24, 3, none⟩ (.slice A7 n8 c9) rfl (h50.cell rfl)) ?_
      refine L_pu (P_fa fa79_2 ⟨b33, 0, none⟩ ⟨b33, 3, none⟩ rfl rfl) ?_
      have h51 := (h39.st (.new _ g44))
      refine L_pu (P_ld ag77 cL ⟨b33, 3, none⟩ (.slice A18 n19 c20) rfl (h51.cell rfl)) ?_
      refine L_call go111 [.slice A7 n8 c9, .slice A18 n19 c20] rfl ((laws_eqTagS.calls w43 hc48.ok a.Tags A7 n8 c9 (hp10.st hc48.st) b.Tags A18 n19 c20 (hp21.st hc48.st) _ H).mono ?_)
      rintro _ w52 ⟨r2, rfl, H, g53⟩
      have hc57 := hc48.k0 g53
      refine L_pu (P_not r2 rfl) ?_
      refine L_nil ?_
      refine W_cond (!r2) rfl (fun hq58 => ?_) (fun hq58 => ?_)
      · have H := ite_t H hq58
        refine W_seq ?_
        refine W_reg ?_
        refine L_pu (P_assign (vb false) rfl) ?_
        refine L_nil ?_
        refine W_ret ?_
        exact ⟨[vb false], ⟨_, rfl, rfl⟩, false, rfl, H, hc57.gr⟩
      · have H := ite_f H hq58
        refine W_skip ?_
        refine W_seq ?_
        refine W_reg ?_
        refine L_pu (P_assign (vb true) rfl) ?_
        refine L_nil ?_
        refine W_ret ?_
        exact ⟨[vb true], ⟨_, rfl, rfl⟩, true, rfl, H, hc57.gr⟩
end Go.Proofs.Ythkeboifjlnjjaa

namespace Go.Proofs.Ythkeboifjlnjjaa
set_option linter.unusedVariables false
set_option linter.unusedSimpArgs false
theorem laws_eqFeat.law (a b : Feat) (Q : Bool → Prop) (hq : Q (decide (a = b))) : laws_eqFeat.E a b Q := by
  obtain ⟨x0, x1, x2⟩ := a; obtain ⟨y0, y1, y2⟩ := b
  rw [show (decide ((⟨x0, x1, x2⟩ : Feat) = ⟨y0, y1, y2⟩)) = ((decide (x0 = y0)) && ((decide (x1 = y1)) && (decide (x2 = y2)))) by simp only [Feat.mk.injEq, Bool.decide_and]] at hq
  unfold laws_eqFeat.E
  by_cases h0 : x0 = y0
  case neg => simpa [h0] using hq
  simp only [h0, decide_true, Bool.true_and, bne_self_eq_false, Bool.not_true, Bool.false_eq_true, if_false] at hq ⊢
  try refine laws_eqShape.law _ _ _ ?_
  by_cases h1 : x1 = y1
  case neg => simpa [h1] using hq
  simp only [h1, decide_true, Bool.true_and, bne_self_eq_false, Bool.not_true, Bool.false_eq_true, if_false] at hq ⊢
  try refine laws_eqTagS.law _ _ _ ?_
  by_cases h2 : x2 = y2
  case neg => simpa [h2] using hq
  simp only [h2, decide_true, Bool.true_and, bne_self_eq_false, Bool.not_true, Bool.false_eq_true, if_false] at hq ⊢
  all_goals (try exact hq)
theorem laws_eqFeat.is (a b : Feat) : laws_eqFeat.E a b (fun r => r = decide (a = b)) := laws_eqFeat.law a b _ rfl
end Go.Proofs.Ythkeboifjlnjjaa

namespace Go.Proofs.Ythkeboifjlnjjaa
open Go.RowKit
set_option linter.unusedVariables false
def laws_eqChange.E (a : Change) (b : Change) (Q : Bool → Prop) : Prop :=
  (if a.Id != b.Id then Q false else (if a.Had != b.Had then Q false else laws_eqFeat.E a.Was b.Was (fun r => (if !r then Q false else (if a.Has != b.Has then Q false else laws_eqFeat.E a.Now b.Now (fun r2 => (if !r2 then Q false else Q true)))))))
set_option maxHeartbeats 8000000 in
set_option maxRecDepth 100000 in
theorem laws_eqChange.calls {O : Ob} (w0 : World) (hO : Ok w0 O) (a : Change) (A3 : Option Addr) (n4 c5 : Nat) (A8 : Option Addr) (n9 c10 : Nat) (A14 : Option Addr) (n15 c16 : Nat) (A19 : Option Addr) (n20 c21 : Nat) (hs1 : Lim a.Id) (hs2 : Lim a.Was.Id) (hp6 : Sl kPt w0 (Fr O) (.slice A3 n4 c5) a.Was.Shape.Pts) (hp11 : Sl kTag w0 (Fr O) (.slice A8 n9 c10) a.Was.Tags) (hs13 : Lim a.Now.Id) (hp17 : Sl kPt w0 (Fr O) (.slice A14 n15 c16) a.Now.Shape.Pts) (hp22 : Sl kTag w0 (Fr O) (.slice A19 n20 c21) a.Now.Tags) (b : Change) (A26 : Option Addr) (n27 c28 : Nat) (A31 : Option Addr) (n32 c33 : Nat) (A37 : Option Addr) (n38 c39 : Nat) (A42 : Option Addr) (n43 c44 : Nat) (hs24 : Lim b.Id) (hs25 : Lim b.Was.Id) (hp29 : Sl kPt w0 (Fr O) (.slice A26 n27 c28) b.Was.Shape.Pts) (hp34 : Sl kTag w0 (Fr O) (.slice A31 n32 c33) b.Was.Tags) (hs36 : Lim b.Now.Id) (hp40 : Sl kPt w0 (Fr O) (.slice A37 n38 c39) b.Now.Shape.Pts) (hp45 : Sl kTag w0 (Fr O) (.slice A42 n43 c44) b.Now.Tags) (Q : Bool → Prop) (h : laws_eqChange.E a b Q) :
    Ret Try.prog 44 [.agg #[vs a.Id, vb a.Had, vs a.Was.Id, vi a.Was.Shape.Kind, .slice A3 n4 c5, .slice A8 n9 c10, vb a.Has, vs a.Now.Id, vi a.Now.Shape.Kind, .slice A14 n15 c16, .slice A19 n20 c21], .agg #[vs b.Id, vb b.Had, vs b.Was.Id, vi b.Was.Shape.Kind, .slice A26 n27 c28, .slice A31 n32 c33, vb b.Has, vs b.Now.Id, vi b.Now.Shape.Kind, .slice A37 n38 c39, .slice A42 n43 c44]] w0 (fun v w' => ∃ (r0 : Bool), v = vb r0 ∧ Q r0 ∧ Gr w0 w' none) := by
  have H : (if a.Id != b.Id then Q false else (if a.Had != b.Had then Q false else laws_eqFeat.E a.Was b.Was (fun r => (if !r then Q false else (if a.Has != b.Has then Q false else laws_eqFeat.E a.Now b.Now (fun r2 => (if !r2 then Q false else Q true))))))) := h
  clear h
  have hc0 := Ct.init hO
  refine Ret_enter Try.func44 rfl 32 rfl [.tmp 4] rfl rfl ?_
  refine W_seq ?_
  refine W_reg ?_
  refine L_box [vs a.Id, vb a.Had, vs a.Was.Id, vi a.Was.Shape.Kind, .slice A3 n4 c5, .slice A8 n9 c10, vb a.Has, vs a.Now.Id, vi a.Now.Shape.Kind, .slice A14 n15 c16, .slice A19 n20 c21] rfl fun w47 b48 hl50 hu51 g49 hx52 => ?_
  have h54 := Fb.mk hc0.ok hl50 hx52
  have hc55 := hc0.k0 g49
  refine L_box [vs b.Id, vb b.Had, vs b.Was.Id, vi b.Was.Shape.Kind, .slice A26 n27 c28, .slice A31 n32 c33, vb b.Has, vs b.Now.Id, vi b.Now.Shape.Kind, .slice A37 n38 c39, .slice A42 n43 c44] rfl fun w56 b57 hl59 hu60 g58 hx61 => ?_
  have h63 := Fb.mk hc55.ok hl59 hx61
  have hc64 := hc55.k0 g58
  refine L_pu (P_assign (vb false) rfl) ?_
  refine L_nil ?_
  refine W_seq ?_
  refine W_seq ?_
  refine W_reg ?_
  refine L_pu (P_fa fa81_0 ⟨b48, 0, none⟩ ⟨b48, 0, none⟩ rfl rfl) ?_
  have h65 := (h54.st (.new _ g58))
  refine L_pu (P_ld ag9 cL ⟨b48, 0, none⟩ (vs a.Id) rfl (h65.cell rfl)) ?_
  refine L_pu (P_fa fa81_0 ⟨b57, 0, none⟩ ⟨b57, 0, none⟩ rfl rfl) ?_
  refine L_pu (P_ld ag9 cL ⟨b57, 0, none⟩ (vs b.Id) rfl (h63.cell rfl)) ?_
  refine L_pu (P_scmp a.Id b.Id (a.Id != b.Id) rfl rfl rfl) ?_
  refine L_nil ?_
  refine W_cond (a.Id != b.Id) rfl (fun hq66 => ?_) (fun hq66 => ?_)
  · have H := ite_t H hq66
    refine W_seq ?_
    refine W_reg ?_
    refine L_pu (P_assign (vb false) rfl) ?_
    refine L_nil ?_
    refine W_ret ?_
    exact ⟨[vb false], ⟨_, rfl, rfl⟩, false, rfl, H, hc64.gr⟩
  · have H := ite_f H hq66
    refine W_skip ?_
    refine W_seq ?_
    refine W_seq ?_
    refine W_reg ?_
    refine L_pu (P_fa fa81_1 ⟨b48, 0, none⟩ ⟨b48, 1, none⟩ rfl rfl) ?_
    refine L_pu (P_ld ag4 cL ⟨b48, 1, none⟩ (vb a.Had) rfl (h65.cell rfl)) ?_
    refine L_pu (P_fa fa81_1 ⟨b57, 0, none⟩ ⟨b57, 1, none⟩ rfl rfl) ?_
    refine L_pu (P_ld ag4 cL ⟨b57, 1, none⟩ (vb b.Had) rfl (h63.cell rfl)) ?_
    refine L_pu (P_bcmp Try.underlying4 a.Had b.Had (a.Had != b.Had) rfl rfl rfl) ?_
    refine L_nil ?_
    refine W_cond (a.Had != b.Had) rfl (fun hq67 => ?_) (fun hq67 => ?_)
    · have H := ite_t H hq67
      refine W_seq ?_
      refine W_reg ?_
      refine L_pu (P_assign (vb false) rfl) ?_
      refine L_nil ?_
      refine W_ret ?_
      exact ⟨[vb false], ⟨_, rfl, rfl⟩, false, rfl, H, hc64.gr⟩
    · have H := ite_f H hq67
      refine W_skip ?_
      refine W_seq ?_
      refine W_seq ?_
      refine W_reg ?_
      refine L_pu (P_fa fa81_2 ⟨b48, 0, none⟩ ⟨b48, 2, none⟩ rfl rfl) ?_
      refine L_pu (P_lda ag79 sz79 cL ⟨b48, 2, none⟩ [vs a.Was.Id, vi a.Was.Shape.Kind, .slice A3 n4 c5, .slice A8 n9 c10] rfl rfl (h65.cells (off := 2) rfl)) ?_
      refine L_pu (P_fa fa81_2 ⟨b57, 0, none⟩ ⟨b57, 2, none⟩ rfl rfl) ?_
      refine L_pu (P_lda ag79 sz79 cL ⟨b57, 2, none⟩ [vs b.Was.Id, vi b.Was.Shape.Kind, .slice A26 n27 c28, .slice A31 n32 c33] rfl rfl (h63.cells (off := 2) rfl)) ?_
      refine L_call go81 [.agg #[vs a.Was.Id, vi a.Was.Shape.Kind, .slice A3 n4 c5, .slice A8 n9 c10], .agg #[vs b.Was.Id, vi b.Was.Shape.Kind, .slice A26 n27 c28, .slice A31 n32 c33]] rfl ((laws_eqFeat.calls w56 hc64.ok a.Was A3 n4 c5 A8 n9 c10 hs2 (hp6.st hc64.st) (hp11.st hc64.st) b.Was A26 n27 c28 A31 n32 c33 hs25 (hp29.st hc64.st) (hp34.st hc64.st) _ H).mono ?_)
      rintro _ w68 ⟨r, rfl, H, g69⟩
      have hc73 := hc64.k0 g69
      refine L_pu (P_not r rfl) ?_
      refine L_nil ?_
      refine W_cond (!r) rfl (fun hq74 => ?_) (fun hq74 => ?_)
      · have H := ite_t H hq74
        refine W_seq ?_
        refine W_reg ?_
        refine L_pu (P_assign (vb false) rfl) ?_
        refine L_nil ?_
        refine W_ret ?_
        exact ⟨[vb false], ⟨_, rfl, rfl⟩, false, rfl, H, hc73.gr⟩
      · have H := ite_f H hq74
        refine W_skip ?_
        refine W_seq ?_
        refine W_seq ?_
        refine W_reg ?_
        refine L_pu (P_fa fa81_3 ⟨b48, 0, none⟩ ⟨b48, 6, none⟩ rfl rfl) ?_
        have h75 := (h65.st (.new _ g69))
        refine L_pu (P_ld ag4 cL ⟨b48, 6, none⟩ (vb a.Has) rfl (h75.cell rfl)) ?_
        refine L_pu (P_fa fa81_3 ⟨b57, 0, none⟩ ⟨b57, 6, none⟩ rfl rfl) ?_
        have h76 := (h63.st (.new _ g69))
        refine L_pu (P_ld ag4 cL ⟨b57, 6, none⟩ (vb b.Has) rfl (h76.cell rfl)) ?_
        refine L_pu (P_bcmp Try.underlying4 a.Has b.Has (a.Has != b.Has) rfl rfl rfl) ?_
        refine L_nil ?_
        refine W_cond (a.Has != b.Has) rfl (fun hq77 => ?_) (fun hq77 => ?_)
        · have H := ite_t H hq77
          refine W_seq ?_
          refine W_reg ?_
          refine L_pu (P_assign (vb false) rfl) ?_
          refine L_nil ?_
          refine W_ret ?_
          exact ⟨[vb false], ⟨_, rfl, rfl⟩, false, rfl, H, hc73.gr⟩
        · have H := ite_f H hq77
          refine W_skip ?_
          refine W_seq ?_
          refine W_seq ?_
          refine W_reg ?_
          refine L_pu (P_fa fa81_4 ⟨b48, 0, none⟩ ⟨b48, 7, none⟩ rfl rfl) ?_
          refine L_pu (P_lda ag79 sz79 cL ⟨b48, 7, none⟩ [vs a.Now.Id, vi a.Now.Shape.Kind, .slice A14 n15 c16, .slice A19 n20 c21] rfl rfl (h75.cells (off := 7) rfl)) ?_
          refine L_pu (P_fa fa81_4 ⟨b57, 0, none⟩ ⟨b57, 7, none⟩ rfl rfl) ?_
          refine L_pu (P_lda ag79 sz79 cL ⟨b57, 7, none⟩ [vs b.Now.Id, vi b.Now.Shape.Kind, .slice A37 n38 c39, .slice A42 n43 c44] rfl rfl (h76.cells (off := 7) rfl)) ?_
          refine L_call go81 [.agg #[vs a.Now.Id, vi a.Now.Shape.Kind, .slice A14 n15 c16, .slice A19 n20 c21], .agg #[vs b.Now.Id, vi b.Now.Shape.Kind, .slice A37 n38 c39, .slice A42 n43 c44]] rfl ((laws_eqFeat.calls w68 hc73.ok a.Now A14 n15 c16 A19 n20 c21 hs13 (hp17.st hc73.st) (hp22.st hc73.st) b.Now A37 n38 c39 A42 n43 c44 hs36 (hp40.st hc73.st) (hp45.st hc73.st) _ H).mono ?_)
          rintro _ w78 ⟨r2, rfl, H, g79⟩
          have hc83 := hc73.k0 g79
          refine L_pu (P_not r2 rfl) ?_
          refine L_nil ?_
          refine W_cond (!r2) rfl (fun hq84 => ?_) (fun hq84 => ?_)
          · have H := ite_t H hq84
            refine W_seq ?_
            refine W_reg ?_
            refine L_pu (P_assign (vb false) rfl) ?_
            refine L_nil ?_
            refine W_ret ?_
            exact ⟨[vb false], ⟨_, rfl, rfl⟩, false, rfl, H, hc83.gr⟩
          · have H := ite_f H hq84
            refine W_skip ?_
            refine W_seq ?_
            refine W_reg ?_
            refine L_pu (P_assign (vb true) rfl) ?_
            refine L_nil ?_
            refine W_ret ?_
            exact ⟨[vb true], ⟨_, rfl, rfl⟩, true, rfl, H, hc83.gr⟩
end Go.Proofs.Ythkeboifjlnjjaa

namespace Go.Proofs.Ythkeboifjlnjjaa
set_option linter.unusedVariables false
set_option linter.unusedSimpArgs false
theorem laws_eqChange.law (a b : Change) (Q : Bool → Prop) (hq : Q (decide (a = b))) : laws_eqChange.E a b Q := by
  obtain ⟨x0, x1, x2, x3, x4⟩ := a; obtain ⟨y0, y1, y2, y3, y4⟩ := b
  rw [show (decide ((⟨x0, x1, x2, x3, x4⟩ : Change) = ⟨y0, y1, y2, y3, y4⟩)) = ((decide (x0 = y0)) && ((decide (x1 = y1)) && ((decide (x2 = y2)) && ((decide (x3 = y3)) && (decide (x4 = y4)))))) by simp only [Change.mk.injEq, Bool.decide_and]] at hq
  unfold laws_eqChange.E
  by_cases h0 : x0 = y0
  case neg => simpa [h0] using hq
  simp only [h0, decide_true, Bool.true_and, bne_self_eq_false, Bool.not_true, Bool.false_eq_true, if_false] at hq ⊢
  by_cases h1 : x1 = y1
  case neg => simpa [h1] using hq
  simp only [h1, decide_true, Bool.true_and, bne_self_eq_false, Bool.not_true, Bool.false_eq_true, if_false] at hq ⊢
  try refine laws_eqFeat.law _ _ _ ?_
  by_cases h2 : x2 = y2
  case neg => simpa [h2] using hq
  simp only [h2, decide_true, Bool.true_and, bne_self_eq_false, Bool.not_true, Bool.false_eq_true, if_false] at hq ⊢
  by_cases h3 : x3 = y3
  case neg => simpa [h3] using hq
  simp only [h3, decide_true, Bool.true_and, bne_self_eq_false, Bool.not_true, Bool.false_eq_true, if_false] at hq ⊢
  try refine laws_eqFeat.law _ _ _ ?_
  by_cases h4 : x4 = y4
  case neg => simpa [h4] using hq
  simp only [h4, decide_true, Bool.true_and, bne_self_eq_false, Bool.not_true, Bool.false_eq_true, if_false] at hq ⊢
  all_goals (try exact hq)
theorem laws_eqChange.is (a b : Change) : laws_eqChange.E a b (fun r => r = decide (a = b)) := laws_eqChange.law a b _ rfl
end Go.Proofs.Ythkeboifjlnjjaa

namespace Go.Proofs.Ythkeboifjlnjjaa
open Go.RowKit
set_option linter.unusedVariables false
def laws_eqChangeS.E (a : List Change) (b : List Change) (Q : Bool → Prop) : Prop :=
  (if (a.length : Int) != (b.length : Int) then Q false else (∃ (I32 : Int → Prop) (mu33 : Int → Nat), I32 0 ∧ ∀ (i2 : Int), I32 i2 → (if decide (i2 < (a.length : Int)) then ((0 : Int) ≤ i2 ∧ i2 < (a.length : Int)) ∧ ((0 : Int) ≤ i2 ∧ i2 < (b.length : Int)) ∧ (if !(decide ((nth a i2) = (nth b i2))) then Q false else (-9223372036854775808 ≤ i2) ∧ I32 (i2 + 1) ∧ mu33 (i2 + 1) < mu33 i2) else Q true)))
set_option maxHeartbeats 8000000 in
set_option maxRecDepth 100000 in
theorem laws_eqChangeS.calls {O : Ob} (w0 : World) (hO : Ok w0 O) (a : List Change) (A1 : Option Addr) (n2 c3 : Nat) (hp4 : Sl kChange w0 (Fr O) (.slice A1 n2 c3) a) (b : List Change) (A6 : Option Addr) (n7 c8 : Nat) (hp9 : Sl kChange w0 (Fr O) (.slice A6 n7 c8) b) (Q : Bool → Prop) (h : laws_eqChangeS.E a b Q) :
    Ret Try.prog 17 [.slice A1 n2 c3, .slice A6 n7 c8] w0 (fun v w' => ∃ (r0 : Bool), v = vb r0 ∧ Q r0 ∧ Gr w0 w' none) := by
  have H : (if (a.length : Int) != (b.length : Int) then Q false else (∃ (I32 : Int → Prop) (mu33 : Int → Nat), I32 0 ∧ ∀ (i2 : Int), I32 i2 → (if decide (i2 < (a.length : Int)) then ((0 : Int) ≤ i2 ∧ i2 < (a.length : Int)) ∧ ((0 : Int) ≤ i2 ∧ i2 < (b.length : Int)) ∧ (if !(decide ((nth a i2) = (nth b i2))) then Q false else (-9223372036854775808 ≤ i2) ∧ I32 (i2 + 1) ∧ mu33 (i2 + 1) < mu33 i2) else Q true))) := h
  clear h
  have hc0 := Ct.init hO
  refine Ret_enter Try.func17 rfl 27 rfl [.tmp 4] rfl rfl ?_
  refine W_seq ?_
  refine W_reg ?_
  refine L_pu (P_assign (vb false) rfl) ?_
  refine L_nil ?_
  refine W_seq ?_
  refine W_seq ?_
  refine W_reg ?_
  refine L_pu (P_move (.slice A1 n2 c3) rfl) ?_
  have hl11 := hp4.le
  refine L_pu (P_len Try.underlying33 A1 n2 c3 hp4.len rfl) ?_
  refine L_pu (P_move (.slice A6 n7 c8) rfl) ?_
  have hl12 := hp9.le
  refine L_pu (P_len Try.underlying33 A6 n7 c8 hp9.len rfl) ?_
  refine L_pu (P_cmp (a.length : Int) (b.length : Int) ((a.length : Int) != (b.length : Int)) rfl rfl rfl) ?_
  refine L_nil ?_
  refine W_cond ((a.length : Int) != (b.length : Int)) rfl (fun hq13 => ?_) (fun hq13 => ?_)
  · have H := ite_t H hq13
    refine W_seq ?_
    refine W_reg ?_
    refine L_pu (P_assign (vb false) rfl) ?_
    refine L_nil ?_
    refine W_ret ?_
    exact ⟨[vb false], ⟨_, rfl, rfl⟩, false, rfl, H, hc0.gr⟩
  · have H := ite_f H hq13
    refine W_skip ?_
    refine W_seq ?_
    refine W_seq ?_
    refine W_reg ?_
    refine L_pu (P_assign (vi 0) rfl) ?_
    refine L_nil ?_
    refine W_block ?_
    obtain ⟨I32, mu33, hI34, H⟩ := H
    refine W_loop (α := Int) (fun (sv__ : Int) t w26 => match sv__ with | i2 => I32 i2 ∧ Has t [(0, .slice A1 n2 c3), (1, .slice A6 n7 c8), (5, vi i2)] ∧ Ct none w0 w26 [] O ∧ Sl kChange w26 (Fr ([] ++ O)) (.slice A1 n2 c3) a ∧ Sl kChange w26 (Fr ([] ++ O)) (.slice A6 n7 c8) b) (fun (sv__ : Int) => match sv__ with | i2 => mu33 i2) 0 ⟨hI34, ⟨rfl, rfl, rfl, trivial⟩, hc0, hp4, hp9⟩ ?_
    rintro i2 _ w26 ⟨hI34, hh36, hc29, h30, h31⟩
    obtain ⟨u37, rfl⟩ := Has.ins hh36
    have H := H i2 hI34
    refine W_seq ?_
    refine W_seq ?_
    refine W_reg ?_
    refine L_pu (P_move (vi i2) rfl) ?_
    refine L_pu (P_move (.slice A1 n2 c3) rfl) ?_
    have hl38 := h30.le
    refine L_pu (P_len Try.underlying33 A1 n2 c3 h30.len rfl) ?_
    refine L_pu (P_cmp i2 (a.length : Int) (decide (i2 < (a.length : Int))) rfl rfl rfl) ?_
    refine L_nil ?_
    refine W_cond (decide (i2 < (a.length : Int))) rfl (fun hq39 => ?_) (fun hq39 => ?_)
    · have H := ite_t H hq39
      refine W_skip ?_
      refine W_seq ?_
      refine W_block ?_
      refine W_seq ?_
      refine W_draw (fun x => Gr w26 x none) (by kernel_rfl) (by kernel_rfl) (Gr.drew _) ?_
      refine Q_pu (P_move (.slice A1 n2 c3) rfl) ?_
      refine Q_pu (P_move (vi i2) rfl) ?_
      obtain ⟨hb40, H⟩ := H
      obtain ⟨ad41, cs42, hA43, hS46, hR44, hcl45⟩ := h30.get default (by decide) i2 hb40
      obtain ⟨A49, n50, c51, A54, n55, c56, A60, n61, c62, A65, n66, c67, rfl, hs47, hs48, h52, h57, hs59, h63, h68⟩ := kChange.op hR44
      refine Q_pu (P_ia Try.underlying33 se33 A1 ad41 n2 c3 h30.len i2 rfl hA43 rfl hb40) ?_
      refine Q_pu (P_lda ag81 sz81 cQ (ad41.add (i2.toNat * 11)) [vs ((nth a i2).Id), vb ((nth a i2).Had), vs ((nth a i2).Was.Id), vi ((nth a i2).Was.Shape.Kind), .slice A49 n50 c51, .slice A54 n55 c56, vb ((nth a i2).Has), vs ((nth a i2).Now.Id), vi ((nth a i2).Now.Shape.Kind), .slice A60 n61 c62, .slice A65 n66 c67] rfl rfl hcl45) ?_
      refine Q_pu (P_move (.slice A6 n7 c8) rfl) ?_
      refine Q_pu (P_move (vi i2) rfl) ?_
      obtain ⟨hb70, H⟩ := H
      obtain ⟨ad71, cs72, hA73, hS76, hR74, hcl75⟩ := h31.get default (by decide) i2 hb70
      obtain ⟨A79, n80, c81, A84, n85, c86, A90, n91, c92, A95, n96, c97, rfl, hs77, hs78, h82, h87, hs89, h93, h98⟩ := kChange.op hR74
      refine Q_pu (P_ia Try.underlying33 se33 A6 ad71 n7 c8 h31.len i2 rfl hA73 rfl hb70) ?_
      refine Q_pu (P_lda ag81 sz81 cQ (ad71.add (i2.toNat * 11)) [vs ((nth b i2).Id), vb ((nth b i2).Had), vs ((nth b i2).Was.Id), vi ((nth b i2).Was.Shape.Kind), .slice A79 n80 c81, .slice A84 n85 c86, vb ((nth b i2).Has), vs ((nth b i2).Now.Id), vi ((nth b i2).Now.Shape.Kind), .slice A90 n91 c92, .slice A95 n96 c97] rfl rfl hcl75) ?_
      refine Q_call go44 [.agg #[vs ((nth a i2).Id), vb ((nth a i2).Had), vs ((nth a i2).Was.Id), vi ((nth a i2).Was.Shape.Kind), .slice A49 n50 c51, .slice A54 n55 c56, vb ((nth a i2).Has), vs ((nth a i2).Now.Id), vi ((nth a i2).Now.Shape.Kind), .slice A60 n61 c62, .slice A65 n66 c67], .agg #[vs ((nth b i2).Id), vb ((nth b i2).Had), vs ((nth b i2).Was.Id), vi ((nth b i2).Was.Shape.Kind), .slice A79 n80 c81, .slice A84 n85 c86, vb ((nth b i2).Has), vs ((nth b i2).Now.Id), vi ((nth b i2).Now.Shape.Kind), .slice A90 n91 c92, .slice A95 n96 c97]] rfl (vb (decide ((nth a i2) = (nth b i2)))) (fun w g => (laws_eqChange.calls w (hc29.k0 g).ok (nth a i2) A49 n50 c51 A54 n55 c56 A60 n61 c62 A65 n66 c67 hs47 hs48 (h52.st (.new _ g)) (h57.st (.new _ g)) hs59 (h63.st (.new _ g)) (h68.st (.new _ g)) (nth b i2) A79 n80 c81 A84 n85 c86 A90 n91 c92 A95 n96 c97 hs77 hs78 (h82.st (.new _ g)) (h87.st (.new _ g)) hs89 (h93.st (.new _ g)) (h98.st (.new _ g)) _ (laws_eqChange.is (nth a i2) (nth b i2))).mono ?_) ?_
      · rintro _ w ⟨r, rfl, rfl, g2⟩
        exact ⟨rfl, Gr.t0 g g2⟩
      refine Q_pu (P_not (decide ((nth a i2) = (nth b i2))) rfl) ?_
      refine Q_nil fun w105 g106 => ?_
      have hc108 := hc29.k0 g106
      refine W_cond (!(decide ((nth a i2) = (nth b i2)))) rfl (fun hq109 => ?_) (fun hq109 => ?_)
      · have H := ite_t H hq109
        refine W_seq ?_
        refine W_reg ?_
        refine L_pu (P_assign (vb false) rfl) ?_
        refine L_nil ?_
        refine W_ret ?_
        exact ⟨[vb false], ⟨_, rfl, rfl⟩, false, rfl, H, hc108.gr⟩
      · have H := ite_f H hq109
        refine W_skip ?_
        refine W_reg ?_
        refine L_pu (P_move (vi i2) rfl) ?_
        obtain ⟨hb111, H⟩ := H
        have hi110 : I64 (i2 + 1) := i64_succ (of_decide_eq_true hq39) hl38 hb111
        refine L_pu (P_add i2 1 rfl rfl hi110) ?_
        refine L_pu (P_assign (vi (i2 + 1)) rfl) ?_
        refine L_nil ?_
        obtain ⟨hI112, hm113⟩ := H
        exact ⟨i2 + 1, hm113, hI112, ⟨rfl, rfl, rfl, trivial⟩, hc108, (h30.st (.new _ g106)), (h31.st (.new _ g106))⟩
    · have H := ite_f H hq39
      refine W_exit (xin_hit ?_)
      refine W_seq ?_
      refine W_reg ?_
      refine L_pu (P_assign (vb true) rfl) ?_
      refine L_nil ?_
      refine W_ret ?_
      exact ⟨[vb true], ⟨_, rfl, rfl⟩, true, rfl, H, hc29.gr⟩
end Go.Proofs.Ythkeboifjlnjjaa

namespace Go.Proofs.Ythkeboifjlnjjaa
set_option linter.unusedVariables false
set_option linter.unusedSimpArgs false
theorem laws_eqChangeS.law (a b : List Change) (Q : Bool → Prop) (hq : Q (decide (a = b))) : laws_eqChangeS.E a b Q := by
  unfold laws_eqChangeS.E
  exact eqS_shape (fun x y => decide (x = y)) (fun _ _ => rfl) a b Q hq
theorem laws_eqChangeS.is (a b : List Change) : laws_eqChangeS.E a b (fun r => r = decide (a = b)) := laws_eqChangeS.law a b _ rfl
end Go.Proofs.Ythkeboifjlnjjaa

namespace Go.Proofs.Ythkeboifjlnjjaa
open Go.RowKit
set_option linter.unusedVariables false
def laws_FnExactDiffOk.E (aD : List Change) (Q : Bool → Prop) : Prop :=
  laws_szChangeS.E aD 1048576 (fun r => (if decide (r < 0) then Q true else laws_toChangeS.E aD (fun r2 => spec_DiffOk.E r2 (fun r3 => laws_toChangeS.E aD (fun r4 => impl_DiffOk.E r4 (fun r5 => (if r5 != r3 then Q false else laws_toChangeS.E aD (fun r6 => laws_eqChangeS.E r4 r6 (fun r7 => (if !r7 then Q false else Q true))))))))))
set_option maxHeartbeats 8000000 in
set_option maxRecDepth 100000 in
theorem laws_FnExactDiffOk.calls {O : Ob} (w0 : World) (hO : Ok w0 O) (aD : List Change) (A1 : Option Addr) (n2 c3 : Nat) (hp4 : Sl kChange w0 (Fr O) (.slice A1 n2 c3) aD) (Q : Bool → Prop) (h : laws_FnExactDiffOk.E aD Q) :
    Ret Try.prog 4 [.slice A1 n2 c3] w0 (fun v w' => ∃ (r0 : Bool), v = vb r0 ∧ Q r0 ∧ Gr w0 w' none) := by
  have H : laws_szChangeS.E aD 1048576 (fun r => (if decide (r < 0) then Q true else laws_toChangeS.E aD (fun r2 => spec_DiffOk.E r2 (fun r3 => laws_toChangeS.E aD (fun r4 => impl_DiffOk.E r4 (fun r5 => (if r5 != r3 then Q false else laws_toChangeS.E aD (fun r6 => laws_eqChangeS.E r4 r6 (fun r7 => (if !r7 then Q false else Q true)))))))))) := h
  clear h
  have hc0 := Ct.init hO
  refine Ret_enter Try.func4 rfl 27 rfl [.tmp 2] rfl rfl ?_
  refine W_seq ?_
  refine W_reg ?_
  refine L_pu (P_assign (vb false) rfl) ?_
  refine L_nil ?_
  refine W_seq ?_
  refine W_reg ?_
  refine L_pu (P_assign (vi 1048576) rfl) ?_
  refine L_nil ?_
  refine W_seq ?_
  refine W_reg ?_
  refine L_pu (P_move (.slice A1 n2 c3) rfl) ?_
  refine L_pu (P_move (vi 1048576) rfl) ?_
  refine L_call go13 [.slice A1 n2 c3, vi 1048576] rfl ((laws_szChangeS.calls w0 hc0.ok aD A1 n2 c3 hp4 1048576 _ H).mono ?_)
  rintro _ w6 ⟨r, rfl, H, g7⟩
  have hc11 := hc0.k0 g7
  refine L_pu (P_assign (vi r) rfl) ?_
  refine L_nil ?_
  refine W_seq ?_
  refine W_seq ?_
  refine W_reg ?_
  refine L_pu (P_move (vi r) rfl) ?_
  refine L_pu (P_cmp r 0 (decide (r < 0)) rfl rfl rfl) ?_
  refine L_nil ?_
  refine W_cond (decide (r < 0)) rfl (fun hq12 => ?_) (fun hq12 => ?_)
  · have H := ite_t H hq12
    refine W_seq ?_
    refine W_reg ?_
    refine L_pu (P_assign (vb true) rfl) ?_
    refine L_nil ?_
    refine W_ret ?_
    exact ⟨[vb true], ⟨_, rfl, rfl⟩, true, rfl, H, hc11.gr⟩
  · have H := ite_f H hq12
    refine W_skip ?_
    refine W_seq ?_
    refine W_reg ?_
    refine L_pu (P_move (.slice A1 n2 c3) rfl) ?_
    refine L_call go15 [.slice A1 n2 c3] rfl ((laws_toChangeS.calls w6 hc11.ok aD A1 n2 c3 (hp4.st hc11.st) _ H).mono ?_)
    rintro _ w13 ⟨r2, A15, n16, c17, rfl, H, g14, hk21, hk22, h18⟩
    have hc23 := hc11.owns g14 hk21 hk22
    have h24 := Ow.gv (L := [blk (.slice A15 n16 c17)]) (O := O) h18 hc23 (i := 0) rfl
    have hc25 := hc23.drop 0 rfl
    refine L_call go14 [.slice A15 n16 c17] rfl ((spec_DiffOk.calls w13 hc25.ok r2 A15 n16 c17 h24 _ H).mono ?_)
    rintro _ w27 ⟨r3, rfl, H, g28⟩
    have hc32 := hc23.k0 g28
    refine L_pu (P_assign (vb r3) rfl) ?_
    refine L_nil ?_
    refine W_seq ?_
    refine W_reg ?_
    refine L_pu (P_move (.slice A1 n2 c3) rfl) ?_
    refine L_call go15 [.slice A1 n2 c3] rfl ((laws_toChangeS.calls w27 hc32.ok aD A1 n2 c3 (hp4.st hc32.st) _ H).mono ?_)
    rintro _ w33 ⟨r4, A35, n36, c37, rfl, H, g34, hk41, hk42, h38⟩
    have hc43 := hc32.owns g34 hk41 hk42
    refine L_pu (P_assign (.slice A35 n36 c37) rfl) ?_
    refine L_nil ?_
    refine W_seq ?_
    refine W_reg ?_
    refine L_pu (P_move (.slice A35 n36 c37) rfl) ?_
    have h44 := Ow.gv (L := [blk (.slice A35 n36 c37), blk (.slice A15 n16 c17)]) (O := O) h38 hc43 (i := 0) rfl
    have hc45 := hc43.drop 0 rfl
    refine L_call go16 [.slice A35 n36 c37] rfl ((impl_DiffOk.calls w33 hc45.ok r4 A35 n36 c37 h44 _ H).mono ?_)
    rintro _ w47 ⟨r5, rfl, H, g48⟩
    have hc52 := hc43.k0 g48
    refine L_pu (P_assign (vb r5) rfl) ?_
    refine L_nil ?_
    refine W_seq ?_
    refine W_seq ?_
    refine W_reg ?_
    refine L_pu (P_move (vb r5) rfl) ?_
    refine L_pu (P_move (vb r3) rfl) ?_
    refine L_pu (P_bcmp Try.underlying4 r5 r3 (r5 != r3) rfl rfl rfl) ?_
    refine L_nil ?_
    refine W_cond (r5 != r3) rfl (fun hq53 => ?_) (fun hq53 => ?_)
    · have H := ite_t H hq53
      refine W_seq ?_
      refine W_reg ?_
      refine L_pu (P_assign (vb false) rfl) ?_
      refine L_nil ?_
      refine W_ret ?_
      have hc54 := hc52.drop 0 rfl
      have hc55 := hc54.drop 0 rfl
      exact ⟨[vb false], ⟨_, rfl, rfl⟩, false, rfl, H, hc55.gr⟩
    · have H := ite_f H hq53
      refine W_skip ?_
      refine W_seq ?_
      refine W_seq ?_
      refine W_reg ?_
      refine L_pu (P_move (.slice A35 n36 c37) rfl) ?_
      refine L_pu (P_move (.slice A1 n2 c3) rfl) ?_
      refine L_call go15 [.slice A1 n2 c3] rfl ((laws_toChangeS.calls w47 hc52.ok aD A1 n2 c3 (hp4.st hc52.st) _ H).mono ?_)
      rintro _ w56 ⟨r6, A58, n59, c60, rfl, H, g57, hk64, hk65, h61⟩
      have hc66 := hc52.owns g57 hk64 hk65
      have h67 := ((h38.sn g48).sos g57 hk65)
      have h68 := Ow.gv (L := [blk (.slice A58 n59 c60), blk (.slice A35 n36 c37), blk (.slice A15 n16 c17)]) (O := O) h67 hc66 (i := 1) rfl
      have hc69 := hc66.drop 1 rfl
      have h71 := (Ow.sd (L := [blk (.slice A58 n59 c60), blk (.slice A35 n36 c37), blk (.slice A15 n16 c17)]) (O := O) h61 (i := 0) rfl (j := 1) rfl (by decide))
      have h72 := Ow.gv (L := [blk (.slice A58 n59 c60), blk (.slice A15 n16 c17)]) (O := O) h71 hc69 (i := 0) rfl
      have hc73 := hc69.drop 0 rfl
      have h75 := (h68.st (.dr _ (L := [blk (.slice A58 n59 c60), blk (.slice A15 n16 c17)]) (O := O) (j := 0) rfl))
      refine L_call go17 [.slice A35 n36 c37, .slice A58 n59 c60] rfl ((laws_eqChangeS.calls w56 hc73.ok r4 A35 n36 c37 h75 r6 A58 n59 c60 h72 _ H).mono ?_)
      rintro _ w76 ⟨r7, rfl, H, g77⟩
      have hc81 := hc66.k0 g77
      refine L_pu (P_not r7 rfl) ?_
      refine L_nil ?_
      refine W_cond (!r7) rfl (fun hq82 => ?_) (fun hq82 => ?_)
      · have H := ite_t H hq82
        refine W_seq ?_
        refine W_reg ?_
        refine L_pu (P_assign (vb false) rfl) ?_
        refine L_nil ?_
        refine W_ret ?_
        have hc83 := hc81.drop 0 rfl
        have hc84 := hc83.drop 0 rfl
        have hc85 := hc84.drop 0 rfl
        exact ⟨[vb false], ⟨_, rfl, rfl⟩, false, rfl, H, hc85.gr⟩
      · have H := ite_f H hq82
        refine W_skip ?_
        refine W_seq ?_
        refine W_reg ?_
        refine L_pu (P_assign (vb true) rfl) ?_
        refine L_nil ?_
        refine W_ret ?_
        have hc86 := hc81.drop 0 rfl
        have hc87 := hc86.drop 0 rfl
        have hc88 := hc87.drop 0 rfl
        exact ⟨[vb true], ⟨_, rfl, rfl⟩, true, rfl, H, hc88.gr⟩
end Go.Proofs.Ythkeboifjlnjjaa

namespace Go.Proofs.Ythkeboifjlnjjaa
set_option linter.unusedVariables false
set_option linter.unusedSimpArgs false
theorem laws_FnExactDiffOk.law (d : List Change) (_ : ∀ x ∈ d, vChange x) : laws_FnExactDiffOk.E d (fun r => r = true) := by
  unfold laws_FnExactDiffOk.E
  refine laws_szChangeS.law d _ _ (by decide) (by decide) (fun _ => rfl) (fun h1 => ?_)
  rw [if_neg (by rw [decide_eq_false (by omega)]; exact Bool.false_ne_true)]
  refine laws_toChangeS.law d _ (by omega) (spec_DiffOk.law _ _ (laws_toChangeS.law d _ (by omega) (impl_DiffOk.law _ _ (by omega) ?_)))
  rw [if_neg (by simp)]
  refine laws_toChangeS.law d _ (by omega) (laws_eqChangeS.law _ _ _ ?_)
  rw [decide_eq_true rfl, if_neg (by decide)]
end Go.Proofs.Ythkeboifjlnjjaa

namespace Go.Proofs.Ythkeboifjlnjjaa.rFnExactDiffOk
open Go.ChangeShapes Go.WideShapes Go.ChangeAt Go.RowKit
open Go.ChangeMaps (open_string shut_string)
set_option linter.unusedVariables false
theorem own : ownKnob Try.prog.godebug = none := by kernel_rfl
theorem laidOut : laidOutB Try.prog = true := by kernel_rfl
set_option maxRecDepth 100000 in
theorem lifted (os : Os) (started : os.Started) (H : Type) (enc : TypeId × Value → H) :
    ReturnsInHanded {} Try.checked os 4 .any (Rows.fnExactDiffOkSpec.pre6 enc Try.prog Try.f4 Rows.fnExactDiffOkRow.domain false) (Rows.fnExactDiffOkSpec.post enc Try.prog Try.f4 false true false false) := by
  refine returnsInHanded_of_change_sized (C := Try.checked) own started (by kernel_rfl) Try.func4
    (ChangeSpec.witness6 (enc := enc) (C := Try.checked) false ⟨#[], #[.slice none 0 0], []⟩ 8 (by kernel_rfl) (by kernel_rfl) (by kernel_rfl) (by kernel_rfl)) ?_
  intro W base args ds gs before hval0 hW hcnd hsz0 _
  have hval : ∀ (j : Nat) t v, Try.f4.params[j]? = some t → args[j]? = some v → Value.okWide Try.prog W .any base t v := hval0
  have hW' := hW
  obtain ⟨p, q, hA0, hV, rfl, hfz, hnd⟩ := hW
  have hA : DataW.TrodAll enc Try.prog W 0 (fun _ => true) true Try.f4.params.toList args.toList ds p := hA0
  rw [Try.params4] at hA hval
  obtain ⟨v0, vs0, d0, ds0, p0, q0, hargs, rfl, rfl, h0, r0⟩ := trodAll_cons hA
  obtain ⟨rfl, rfl, rfl⟩ := trodAll_nil r0
  obtain rfl : args = #[v0] := by cases args; simp_all
  obtain ⟨rfl, rfl⟩ := trodVars_none hV
  have k0 := h0
  have lt0 : ∀ x ∈ p0, x.block < W.heap.size := by obtain ⟨m, hm⟩ := k0; exact DataW.trod_lt m _ _ _ hm
  obtain ⟨x0, hv0, hx0⟩ : ∃ a : List Change, (∀ y0 ∈ a, vChange y0) ∧ (Kd.sl kChange).R W (Fr []) a v0.cells.toList := by obtain ⟨fuel, hf⟩ := h0; exact (Tr.sl Try.underlying30 (by kernel_rfl) tr73) H enc W fuel _ _ hf
  obtain ⟨a0, n0, c0, rfl⟩ := okWide_slice Try.underlying30 (hval 0 30 v0 rfl rfl)
  have s0 : Sl kChange W (Fr []) (.slice a0 n0 c0) x0 := by obtain ⟨_, e, h⟩ := hx0; simp [Value.cells] at e; subst e; exact h
  clear hA0 hval0 hsz0
  refine Calls.mono (laws_FnExactDiffOk.calls W (Ok.nil W) x0 a0 n0 c0 s0 (fun r => r = true) (laws_FnExactDiffOk.law x0 hv0)) fun e W' ⟨v, he, r, hr, hq, hg⟩ => ?_
  subst he; subst hr; subst hq
  have bel := Gr.below hg
  exact ⟨_, rfl, _, _, _, [], _, [], hW', trodAll_mk1 (shut_bool Try.underlying4 _), (trodAll_cons_mk (Below.trod laidOut (by kernel_rfl) (of_decide_eq_true (by kernel_rfl)) k0 bel lt0) trodAll_mk0), rfl, bel.frame _, fun h => by cases h⟩
theorem over : Rows.fnExactDiffOkRow.holds Try.pinned (OpenSpec.ofChange Rows.fnExactDiffOkSpec) :=
  OpenClaim.holds_of_wide 4 Try.f4 rfl rfl rfl rfl rfl rfl rfl ⟨rfl, rfl, rfl, rfl, rfl⟩ rfl rfl rfl rfl rfl (by kernel_rfl) Try.func4 (by kernel_rfl)
    (of_decide_eq_true (by kernel_rfl)) (by unfold Func.isWrapper; first | (rw [if_pos (by decide +kernel)]; kernel_rfl) | (rw [if_neg (by decide +kernel)]; exact ⟨rfl, rfl⟩))
    (fun os started H enc _ => lifted os started H enc)
theorem proved : Rows.FnExactDiffOkSaid := over
#print axioms proved
end Go.Proofs.Ythkeboifjlnjjaa.rFnExactDiffOk
namespace Go.Proofs.Ythkeboifjlnjjaa
theorem fnExactDiffOk_holds : Rows.FnExactDiffOkSaid := rFnExactDiffOk.proved
end Go.Proofs.Ythkeboifjlnjjaa
