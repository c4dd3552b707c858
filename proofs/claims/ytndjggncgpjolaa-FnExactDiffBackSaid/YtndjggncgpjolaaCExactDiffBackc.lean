/- It is proved here that the law FnExactDiffBack of the given program holds whatever it is handed: the walks through the code, the plain laws and the row, in this order.
   Conditions: none. -/
import Derived.Below
import Derived.ChangeArms
import Derived.ChangeOld
import Derived.ChangeSlices
import Derived.DataReads
import Derived.Deep.Quiet
import Derived.KernelRfl
import Derived.Laws.Build
import Derived.Laws.IdiomStrings
import Derived.Laws.OwnMore
import Derived.Laws.Slices
import Derived.Laws.StructEq
import Derived.OpenShut
import Derived.ProofKit
import Derived.ShutString
import Derived.SizedLaws
import Derived.StillTail
import Derived.Test.YtndjggncgpjolaaProg
import Derived.Test.YtndjggncgpjolaaRows
import Derived.WalkKit
import Derived.Test.YtndjggncgpjolaaCExactDiffBacka
import Derived.Test.YtndjggncgpjolaaCExactDiffBackb
namespace Go.Proofs.Ytndjggncgpjolaa
open Go.RowKit
set_option linter.unusedVariables false
def spec_l2Same.E (a : List Tag) (b : List Tag) (Q : Bool → Prop) : Prop :=
  (if (a.length : Int) != (b.length : Int) then Q false else (∃ (I32 : Int → Prop) (mu33 : Int → Nat), I32 0 ∧ ∀ (i2 : Int), I32 i2 → (if decide (i2 < (a.length : Int)) then ((0 : Int) ≤ i2 ∧ i2 < (a.length : Int)) ∧ ((0 : Int) ≤ i2 ∧ i2 < (b.length : Int)) ∧ (if !(eqTag (nth a i2) (nth b i2)) then Q false else (-9223372036854775808 ≤ i2) ∧ I32 (i2 + 1) ∧ mu33 (i2 + 1) < mu33 i2) else Q true)))
set_option maxHeartbeats 8000000 in
set_option maxRecDepth 100000 in
theorem spec_l2Same.calls {O : Ob} (w0 : World) (hO : Ok w0 O) (a : List Tag) (A1 : Option Addr) (n2 c3 : Nat) (hp4 : Sl kTag w0 (Fr O) (.slice A1 n2 c3) a) (b : List Tag) (A6 : Option Addr) (n7 c8 : Nat) (hp9 : Sl kTag w0 (Fr O) (.slice A6 n7 c8) b) (Q : Bool → Prop) (h : spec_l2Same.E a b Q) :
    Ret Try.prog 124 [.slice A1 n2 c3, .slice A6 n7 c8] w0 (fun v w' => ∃ (r0 : Bool), v = vb r0 ∧ Q r0 ∧ Gr w0 w' none) := by
  have H : (if (a.length : Int) != (b.length : Int) then Q false else (∃ (I32 : Int → Prop) (mu33 : Int → Nat), I32 0 ∧ ∀ (i2 : Int), I32 i2 → (if decide (i2 < (a.length : Int)) then ((0 : Int) ≤ i2 ∧ i2 < (a.length : Int)) ∧ ((0 : Int) ≤ i2 ∧ i2 < (b.length : Int)) ∧ (if !(eqTag (nth a i2) (nth b i2)) then Q false else (-9223372036854775808 ≤ i2) ∧ I32 (i2 + 1) ∧ mu33 (i2 + 1) < mu33 i2) else Q true))) := h
  clear h
  have hc0 := Ct.init hO
  refine Ret_enter Try.func124 rfl 26 rfl [.tmp 4] rfl rfl ?_
  refine W_seq ?_
  refine W_reg ?_
  refine L_pu (P_assign (vb false) rfl) ?_
  refine L_nil ?_
  refine W_seq ?_
  refine W_seq ?_
  refine W_reg ?_
  refine L_pu (P_move (.slice A1 n2 c3) rfl) ?_
  have hl11 := hp4.le
  refine L_pu (P_len Try.underlying69 A1 n2 c3 hp4.len rfl) ?_
  refine L_pu (P_move (.slice A6 n7 c8) rfl) ?_
  have hl12 := hp9.le
  refine L_pu (P_len Try.underlying69 A6 n7 c8 hp9.len rfl) ?_
  refine L_pu (P_cmp (a.length : Int) (b.length : Int) ((a.length : Int) != (b.length : Int)) rfl rfl rfl) ?_
  refine L_nil ?_
  refine W_cond ((a.length : Int) != (b.length : Int)) rfl (fun hq13 => ?_) (fun hq13 => ?_)
  · have H := ite_t H hq13
    refine W_seq ?_
    refine W_reg ?_
    refine L_pu (P_assign (vb false) rfl) ?_
    refine L_nil ?_
    refine W_ret ?_
    exact ⟨[vb false], ⟨_, rfl, rfl⟩, false, rfl, H, hc0.gr.g0⟩
  · have H := ite_f H hq13
    refine W_skip ?_
    refine W_seq ?_
    refine W_seq ?_
    refine W_reg ?_
    refine L_pu (P_assign (vi 0) rfl) ?_
    refine L_nil ?_
    refine W_block ?_
    obtain ⟨I32, mu33, hI34, H⟩ := H
    refine W_loop (α := Int) (fun (sv__ : Int) t w26 => match sv__ with | i2 => I32 i2 ∧ Has t [(0, .slice A1 n2 c3), (1, .slice A6 n7 c8), (5, vi i2)] ∧ Ct [] w0 w26 [] O ∧ Sl kTag w26 (Fr ([] ++ O)) (.slice A1 n2 c3) a ∧ Sl kTag w26 (Fr ([] ++ O)) (.slice A6 n7 c8) b) (fun (sv__ : Int) => match sv__ with | i2 => mu33 i2) 0 ⟨hI34, ⟨rfl, rfl, rfl, trivial⟩, hc0, hp4, hp9⟩ ?_
    rintro i2 _ w26 ⟨hI34, hh36, hc29, h30, h31⟩
    obtain ⟨u37, rfl⟩ := Has.ins hh36
    have H := H i2 hI34
    refine W_seq ?_
    refine W_seq ?_
    refine W_reg ?_
    refine L_pu (P_move (vi i2) rfl) ?_
    refine L_pu (P_move (.slice A1 n2 c3) rfl) ?_
    have hl38 := h30.le
    refine L_pu (P_len Try.underlying69 A1 n2 c3 h30.len rfl) ?_
    refine L_pu (P_cmp i2 (a.length : Int) (decide (i2 < (a.length : Int))) rfl rfl rfl) ?_
    refine L_nil ?_
    refine W_cond (decide (i2 < (a.length : Int))) rfl (fun hq39 => ?_) (fun hq39 => ?_)
    · have H := ite_t H hq39
      refine W_skip ?_
      refine W_seq ?_
      refine W_block ?_
      refine W_seq ?_
      refine W_draw (fun x => Gr w26 x none) (by kernel_rfl) (by kernel_rfl) (Gr.drew _) ?_
      refine Q_pu (P_move (.slice A1 n2 c3) rfl) ?_
      refine Q_pu (P_move (vi i2) rfl) ?_
      obtain ⟨hb40, H⟩ := H
      obtain ⟨ad41, cs42, hA43, hS46, hR44, hcl45⟩ := h30.get default (by decide) i2 hb40
      obtain ⟨rfl, hs47, hs48⟩ := kTag.op hR44
      refine Q_pu (P_ia Try.underlying69 se69 A1 ad41 n2 c3 h30.len i2 rfl hA43 rfl hb40) ?_
      refine Q_pu (P_lda ag133 sz133 cQ (ad41.add (i2.toNat * 2)) [vs ((nth a i2).Key), vs ((nth a i2).Val)] rfl rfl hcl45) ?_
      refine Q_pu (P_move (.slice A6 n7 c8) rfl) ?_
      refine Q_pu (P_move (vi i2) rfl) ?_
      obtain ⟨hb49, H⟩ := H
      obtain ⟨ad50, cs51, hA52, hS55, hR53, hcl54⟩ := h31.get default (by decide) i2 hb49
      obtain ⟨rfl, hs56, hs57⟩ := kTag.op hR53
      refine Q_pu (P_ia Try.underlying69 se69 A6 ad50 n7 c8 h31.len i2 rfl hA52 rfl hb49) ?_
      refine Q_pu (P_lda ag133 sz133 cQ (ad50.add (i2.toNat * 2)) [vs ((nth b i2).Key), vs ((nth b i2).Val)] rfl rfl hcl54) ?_
      refine Q_pu (P_ne _ _ (eqTag (nth a i2) (nth b i2)) (qt133 (nth a i2) (nth b i2)) rfl rfl) ?_
      refine Q_nil fun w58 g59 => ?_
      have hc61 := hc29.k0 g59
      refine W_cond (!(eqTag (nth a i2) (nth b i2))) rfl (fun hq62 => ?_) (fun hq62 => ?_)
      · have H := ite_t H hq62
        refine W_seq ?_
        refine W_reg ?_
        refine L_pu (P_assign (vb false) rfl) ?_
        refine L_nil ?_
        refine W_ret ?_
        exact ⟨[vb false], ⟨_, rfl, rfl⟩, false, rfl, H, hc61.gr.g0⟩
      · have H := ite_f H hq62
        refine W_skip ?_
        refine W_reg ?_
        refine L_pu (P_move (vi i2) rfl) ?_
        obtain ⟨hb64, H⟩ := H
        have hi63 : I64 (i2 + 1) := i64_succ (of_decide_eq_true hq39) hl38 hb64
        refine L_pu (P_add i2 1 rfl rfl hi63) ?_
        refine L_pu (P_assign (vi (i2 + 1)) rfl) ?_
        refine L_nil ?_
        obtain ⟨hI65, hm66⟩ := H
        exact ⟨i2 + 1, hm66, hI65, ⟨rfl, rfl, rfl, trivial⟩, hc61, (h30.st (.new _ g59)), (h31.st (.new _ g59))⟩
    · have H := ite_f H hq39
      refine W_exit (xin_hit ?_)
      refine W_seq ?_
      refine W_reg ?_
      refine L_pu (P_assign (vb true) rfl) ?_
      refine L_nil ?_
      refine W_ret ?_
      exact ⟨[vb true], ⟨_, rfl, rfl⟩, true, rfl, H, hc29.gr.g0⟩
end Go.Proofs.Ytndjggncgpjolaa

namespace Go.Proofs.Ytndjggncgpjolaa
set_option linter.unusedVariables false
set_option linter.unusedSimpArgs false
set_option linter.unusedSectionVars false
theorem spec_l2Same.law (a b : List Tag) (Q : Bool → Prop) (hq : Q (decide (a = b))) : spec_l2Same.E a b Q := by
  unfold spec_l2Same.E
  exact eqS_shape eqTag eqTag_is a b Q hq
end Go.Proofs.Ytndjggncgpjolaa

namespace Go.Proofs.Ytndjggncgpjolaa
open Go.RowKit
set_option linter.unusedVariables false
def spec_FeatSame.E (a : Feat) (b : Feat) (Q : Bool → Prop) : Prop :=
  (if a.Id == b.Id then spec_ShapeSame.E a.Shape b.Shape (fun r => (if r then spec_l2Same.E a.Tags b.Tags (fun r2 => Q r2) else Q false)) else Q false)
set_option maxHeartbeats 8000000 in
set_option maxRecDepth 100000 in
theorem spec_FeatSame.calls {O : Ob} (w0 : World) (hO : Ok w0 O) (a : Feat) (A2 : Option Addr) (n3 c4 : Nat) (A7 : Option Addr) (n8 c9 : Nat) (hs1 : Lim a.Id) (hp5 : Sl kPt w0 (Fr O) (.slice A2 n3 c4) a.Shape.Pts) (hp10 : Sl kTag w0 (Fr O) (.slice A7 n8 c9) a.Tags) (b : Feat) (A13 : Option Addr) (n14 c15 : Nat) (A18 : Option Addr) (n19 c20 : Nat) (hs12 : Lim b.Id) (hp16 : Sl kPt w0 (Fr O) (.slice A13 n14 c15) b.Shape.Pts) (hp21 : Sl kTag w0 (Fr O) (.slice A18 n19 c20) b.Tags) (Q : Bool → Prop) (h : spec_FeatSame.E a b Q) :
    Ret Try.prog 79 [.agg #[vs a.Id, vi a.Shape.Kind, .slice A2 n3 c4, .slice A7 n8 c9], .agg #[vs b.Id, vi b.Shape.Kind, .slice A13 n14 c15, .slice A18 n19 c20]] w0 (fun v w' => ∃ (r0 : Bool), v = vb r0 ∧ Q r0 ∧ Gr w0 w' none) := by
  have H : (if a.Id == b.Id then spec_ShapeSame.E a.Shape b.Shape (fun r => (if r then spec_l2Same.E a.Tags b.Tags (fun r2 => Q r2) else Q false)) else Q false) := h
  clear h
  have hc0 := Ct.init hO
  refine Ret_enter Try.func79 rfl 24 rfl [.tmp 4] rfl rfl ?_
  refine W_seq ?_
  refine W_reg ?_
  refine L_box [vs a.Id, vi a.Shape.Kind, .slice A2 n3 c4, .slice A7 n8 c9] rfl fun w23 b24 hl26 hu27 g25 hx28 => ?_
  have h30 := Fb.mk hc0.ok hl26 hx28
  have hc31 := hc0.k0 g25
  refine L_box [vs b.Id, vi b.Shape.Kind, .slice A13 n14 c15, .slice A18 n19 c20] rfl fun w32 b33 hl35 hu36 g34 hx37 => ?_
  have h39 := Fb.mk hc31.ok hl35 hx37
  have hc40 := hc31.k0 g34
  refine L_pu (P_assign (vb false) rfl) ?_
  refine L_nil ?_
  refine W_seq ?_
  refine W_reg ?_
  refine L_pu (P_fa fa71_0 ⟨b24, 0, none⟩ ⟨b24, 0, none⟩ rfl rfl) ?_
  have h41 := (h30.st (.new _ g34))
  refine L_pu (P_ld ag9 cL ⟨b24, 0, none⟩ (vs a.Id) rfl (h41.cell rfl)) ?_
  refine L_pu (P_fa fa71_0 ⟨b33, 0, none⟩ ⟨b33, 0, none⟩ rfl rfl) ?_
  refine L_pu (P_ld ag9 cL ⟨b33, 0, none⟩ (vs b.Id) rfl (h39.cell rfl)) ?_
  refine L_pu (P_scmp a.Id b.Id (a.Id == b.Id) rfl rfl rfl) ?_
  refine L_pu (P_move (vb (a.Id == b.Id)) rfl) ?_
  rcases bool_or (a.Id == b.Id) with hq42 | hq42
  · have H := ite_t H hq42
    refine L_run (dj := 10) rfl rfl (by exact congrArg Value.bool hq42) ?_
    refine L_pu (P_fa fa71_1 ⟨b24, 0, none⟩ ⟨b24, 1, none⟩ rfl rfl) ?_
    refine L_run (dj := 10) rfl rfl (by exact congrArg Value.bool hq42) ?_
    refine L_pu (P_lda ag68 sz68 cL ⟨b24, 1, none⟩ [vi a.Shape.Kind, .slice A2 n3 c4] rfl rfl (h41.cells (off := 1) rfl)) ?_
    refine L_run (dj := 10) rfl rfl (by exact congrArg Value.bool hq42) ?_
    refine L_pu (P_fa fa71_1 ⟨b33, 0, none⟩ ⟨b33, 1, none⟩ rfl rfl) ?_
    refine L_run (dj := 10) rfl rfl (by exact congrArg Value.bool hq42) ?_
    refine L_pu (P_lda ag68 sz68 cL ⟨b33, 1, none⟩ [vi b.Shape.Kind, .slice A13 n14 c15] rfl rfl (h39.cells (off := 1) rfl)) ?_
    refine L_run (dj := 10) rfl rfl (by exact congrArg Value.bool hq42) ?_
    refine L_call go123 [.agg #[vi a.Shape.Kind, .slice A2 n3 c4], .agg #[vi b.Shape.Kind, .slice A13 n14 c15]] rfl ((spec_ShapeSame.calls w32 hc40.ok a.Shape A2 n3 c4 (hp5.st hc40.st) b.Shape A13 n14 c15 (hp16.st hc40.st) _ H).mono ?_)
    rintro _ w43 ⟨r, rfl, H, g44⟩
    have hc48 := hc40.k0 g44
    refine L_pu (P_pick true (vb r) (by exact congrArg Value.bool hq42) rfl) ?_
    refine L_pu (P_move (vb r) rfl) ?_
    rcases bool_or r with hq49 | hq49
    · have H := ite_t H hq49
      refine L_run (dj := 17) rfl rfl (by exact congrArg Value.bool hq49) ?_
      refine L_pu (P_fa fa71_2 ⟨b24, 0, none⟩ ⟨b24, 3, none⟩ rfl rfl) ?_
      refine L_run (dj := 17) rfl rfl (by exact congrArg Value.bool hq49) ?_
      have h50 := (h41.st (.new _ g44))
      refine L_pu (P_ld ag69 cL ⟨b24, 3, none⟩ (.slice A7 n8 c9) rfl (h50.cell rfl)) ?_
      refine L_run (dj := 17) rfl rfl (by exact congrArg Value.bool hq49) ?_
      refine L_pu (P_fa fa71_2 ⟨b33, 0, none⟩ ⟨b33, 3, none⟩ rfl rfl) ?_
      refine L_run (dj := 17) rfl rfl (by exact congrArg Value.bool hq49) ?_
      have h51 := (h39.st (.new _ g44))
      refine L_pu (P_ld ag69 cL ⟨b33, 3, none⟩ (.slice A18 n19 c20) rfl (h51.cell rfl)) ?_
      refine L_run (dj := 17) rfl rfl (by exact congrArg Value.bool hq49) ?_
      refine L_call go124 [.slice A7 n8 c9, .slice A18 n19 c20] rfl ((spec_l2Same.calls w43 hc48.ok a.Tags A7 n8 c9 (hp10.st hc48.st) b.Tags A18 n19 c20 (hp21.st hc48.st) _ H).mono ?_)
      rintro _ w52 ⟨r2, rfl, H, g53⟩
      have hc57 := hc48.k0 g53
      refine L_pu (P_pick true (vb r2) (by exact congrArg Value.bool hq49) rfl) ?_
      refine L_pu (P_assign (vb r2) rfl) ?_
      refine L_nil ?_
      refine W_ret ?_
      exact ⟨[vb r2], ⟨_, rfl, rfl⟩, r2, rfl, H, hc57.gr.g0⟩
    · have H := ite_f H hq49
      refine L_pass (dj := 17) rfl rfl (.inl (by exact congrArg Value.bool hq49)) ?_
      refine L_pass (dj := 17) rfl rfl (.inl (by exact congrArg Value.bool hq49)) ?_
      refine L_pass (dj := 17) rfl rfl (.inl (by exact congrArg Value.bool hq49)) ?_
      refine L_pass (dj := 17) rfl rfl (.inl (by exact congrArg Value.bool hq49)) ?_
      refine L_pass (dj := 17) rfl rfl (.inl (by exact congrArg Value.bool hq49)) ?_
      refine L_pu (P_pick false (vb false) (by exact congrArg Value.bool hq49) rfl) ?_
      refine L_pu (P_assign (vb false) rfl) ?_
      refine L_nil ?_
      refine W_ret ?_
      exact ⟨[vb false], ⟨_, rfl, rfl⟩, false, rfl, H, hc48.gr.g0⟩
  · have H := ite_f H hq42
    refine L_pass (dj := 10) rfl rfl (.inl (by exact congrArg Value.bool hq42)) ?_
    refine L_pass (dj := 10) rfl rfl (.inl (by exact congrArg Value.bool hq42)) ?_
    refine L_pass (dj := 10) rfl rfl (.inl (by exact congrArg Value.bool hq42)) ?_
    refine L_pass (dj := 10) rfl rfl (.inl (by exact congrArg Value.bool hq42)) ?_
    refine L_pass (dj := 10) rfl rfl (.inl (by exact congrArg Value.bool hq42)) ?_
    refine L_pu (P_pick false (vb false) (by exact congrArg Value.bool hq42) rfl) ?_
    refine L_pu (P_move (vb false) rfl) ?_
    refine L_pass (dj := 17) rfl rfl (.inl rfl) ?_
    refine L_pass (dj := 17) rfl rfl (.inl rfl) ?_
    refine L_pass (dj := 17) rfl rfl (.inl rfl) ?_
    refine L_pass (dj := 17) rfl rfl (.inl rfl) ?_
    refine L_pass (dj := 17) rfl rfl (.inl rfl) ?_
    refine L_pu (P_pick false (vb false) (by exact congrArg Value.bool rfl) rfl) ?_
    refine L_pu (P_assign (vb false) rfl) ?_
    refine L_nil ?_
    refine W_ret ?_
    exact ⟨[vb false], ⟨_, rfl, rfl⟩, false, rfl, H, hc40.gr.g0⟩
end Go.Proofs.Ytndjggncgpjolaa

namespace Go.Proofs.Ytndjggncgpjolaa
set_option linter.unusedVariables false
set_option linter.unusedSimpArgs false
set_option linter.unusedSectionVars false
theorem spec_FeatSame.law (a b : Feat) (Q : Bool → Prop) (hq : Q (decide (a = b))) : spec_FeatSame.E a b Q := by
  unfold spec_FeatSame.E
  by_cases h : a.Id = b.Id
  · rw [if_pos (by rw [beq_iff_eq]; exact h)]
    refine spec_ShapeSame.law _ _ _ ?_
    by_cases h2 : a.Shape = b.Shape
    · rw [decide_eq_true h2, if_pos rfl]
      refine spec_l2Same.law _ _ _ ?_
      have : decide (a.Tags = b.Tags) = decide (a = b) := decide_eq_decide.2 (by rw [Feat.ext_iff']; exact ⟨fun e => ⟨h, h2, e⟩, fun e => e.2.2⟩)
      rw [this]; exact hq
    · rw [decide_eq_false h2, if_neg (by decide)]
      rw [decide_eq_false (by rw [Feat.ext_iff']; exact fun e => h2 e.2.1)] at hq; exact hq
  · rw [if_neg (by rw [beq_iff_eq]; exact h)]
    rw [decide_eq_false (by rw [Feat.ext_iff']; exact fun e => h e.1)] at hq; exact hq
end Go.Proofs.Ytndjggncgpjolaa

namespace Go.Proofs.Ytndjggncgpjolaa
open Go.RowKit
set_option linter.unusedVariables false
def spec_l1Num.E (n : Int) (Q : Bool → Prop) : Prop :=
  (if decide (n ≥ (-1000)) then Q (decide (n ≤ 1000)) else Q false)
set_option maxHeartbeats 8000000 in
set_option maxRecDepth 100000 in
theorem spec_l1Num.calls {O : Ob} (w0 : World) (hO : Ok w0 O) (n : Int) (Q : Bool → Prop) (h : spec_l1Num.E n Q) :
    Ret Try.prog 179 [vi n] w0 (fun v w' => ∃ (r0 : Bool), v = vb r0 ∧ Q r0 ∧ Gr w0 w' none ∧ w' = w0) := by
  have H : (if decide (n ≥ (-1000)) then Q (decide (n ≤ 1000)) else Q false) := h
  clear h
  have hc0 := Ct.init hO
  refine Ret_enter Try.func179 rfl 9 rfl [.tmp 2] rfl rfl ?_
  refine W_seq ?_
  refine W_reg ?_
  refine L_pu (P_assign (vb false) rfl) ?_
  refine L_nil ?_
  refine W_seq ?_
  refine W_reg ?_
  refine L_pu (P_move (vi n) rfl) ?_
  refine L_pu (P_cmp n (-1000) (decide (n ≥ (-1000))) rfl rfl rfl) ?_
  refine L_pu (P_move (vb (decide (n ≥ (-1000)))) rfl) ?_
  rcases bool_or (decide (n ≥ (-1000))) with hq1 | hq1
  · have H := ite_t H hq1
    refine L_run (dj := 5) rfl rfl (by exact congrArg Value.bool hq1) ?_
    refine L_pu (P_move (vi n) rfl) ?_
    refine L_run (dj := 5) rfl rfl (by exact congrArg Value.bool hq1) ?_
    refine L_pu (P_cmp n 1000 (decide (n ≤ 1000)) rfl rfl rfl) ?_
    refine L_pu (P_pick true (vb (decide (n ≤ 1000))) (by exact congrArg Value.bool hq1) rfl) ?_
    refine L_pu (P_assign (vb (decide (n ≤ 1000))) rfl) ?_
    refine L_nil ?_
    refine W_ret ?_
    exact ⟨[vb (decide (n ≤ 1000))], ⟨_, rfl, rfl⟩, decide (n ≤ 1000), rfl, H, hc0.gr.g0, rfl⟩
  · have H := ite_f H hq1
    refine L_pass (dj := 5) rfl rfl (.inl (by exact congrArg Value.bool hq1)) ?_
    refine L_pass (dj := 5) rfl rfl (.inl (by exact congrArg Value.bool hq1)) ?_
    refine L_pu (P_pick false (vb false) (by exact congrArg Value.bool hq1) rfl) ?_
    refine L_pu (P_assign (vb false) rfl) ?_
    refine L_nil ?_
    refine W_ret ?_
    exact ⟨[vb false], ⟨_, rfl, rfl⟩, false, rfl, H, hc0.gr.g0, rfl⟩
def spec_l1Num.m (n : Int) : Bool := (if decide (n ≥ (-1000)) then (decide (n ≤ 1000)) else false)
theorem spec_l1Num.fn (n : Int) : spec_l1Num.E n (fun r => r = spec_l1Num.m n) := by
  unfold spec_l1Num.E spec_l1Num.m
  (repeat' split) <;> simp_all
end Go.Proofs.Ytndjggncgpjolaa

namespace Go.Proofs.Ytndjggncgpjolaa
set_option linter.unusedVariables false
set_option linter.unusedSimpArgs false
set_option linter.unusedSectionVars false
theorem spec_l1Num.m_is (n : Int) : spec_l1Num.m n = inR n := by
  unfold spec_l1Num.m inR
  by_cases h : -1000 ≤ n
  · rw [if_pos (by rw [decide_eq_true_eq]; omega), decide_eq_true h, Bool.true_and]
  · rw [if_neg (by rw [decide_eq_true_eq]; omega), decide_eq_false h, Bool.false_and]
end Go.Proofs.Ytndjggncgpjolaa

namespace Go.Proofs.Ytndjggncgpjolaa
open Go.RowKit
set_option linter.unusedVariables false
def spec_l1Pts.E (p : List Pt) (Q : Bool → Prop) : Prop :=
  (∃ (I18 : Int → Prop) (mu19 : Int → Nat), I18 0 ∧ ∀ (i2 : Int), I18 i2 → (if decide (i2 < (p.length : Int)) then ((0 : Int) ≤ i2 ∧ i2 < (p.length : Int)) ∧ (if !(spec_l1Num.m ((nth p i2).X)) then Q false else ((0 : Int) ≤ i2 ∧ i2 < (p.length : Int)) ∧ (if !(spec_l1Num.m ((nth p i2).Y)) then Q false else (if decide (i2 > 0) then ((0 : Int) ≤ i2 ∧ i2 < (p.length : Int)) ∧ ((p.length : Int) ≤ 9223372036854775807 → I64 (i2 - 1)) ∧ ((0 : Int) ≤ i2 - 1 ∧ i2 - 1 < (p.length : Int)) ∧ (if eqPt (nth p i2) (nth p (i2 - 1)) then Q false else (-9223372036854775808 ≤ i2) ∧ I18 (i2 + 1) ∧ mu19 (i2 + 1) < mu19 i2) else (-9223372036854775808 ≤ i2) ∧ I18 (i2 + 1) ∧ mu19 (i2 + 1) < mu19 i2))) else Q (decide ((p.length : Int) ≤ 6))))
set_option maxHeartbeats 8000000 in
set_option maxRecDepth 100000 in
theorem spec_l1Pts.calls {O : Ob} (w0 : World) (hO : Ok w0 O) (p : List Pt) (A1 : Option Addr) (n2 c3 : Nat) (hp4 : Sl kPt w0 (Fr O) (.slice A1 n2 c3) p) (Q : Bool → Prop) (h : spec_l1Pts.E p Q) :
    Ret Try.prog 165 [.slice A1 n2 c3] w0 (fun v w' => ∃ (r0 : Bool), v = vb r0 ∧ Q r0 ∧ Gr w0 w' none) := by
  have H : (∃ (I18 : Int → Prop) (mu19 : Int → Nat), I18 0 ∧ ∀ (i2 : Int), I18 i2 → (if decide (i2 < (p.length : Int)) then ((0 : Int) ≤ i2 ∧ i2 < (p.length : Int)) ∧ (if !(spec_l1Num.m ((nth p i2).X)) then Q false else ((0 : Int) ≤ i2 ∧ i2 < (p.length : Int)) ∧ (if !(spec_l1Num.m ((nth p i2).Y)) then Q false else (if decide (i2 > 0) then ((0 : Int) ≤ i2 ∧ i2 < (p.length : Int)) ∧ ((p.length : Int) ≤ 9223372036854775807 → I64 (i2 - 1)) ∧ ((0 : Int) ≤ i2 - 1 ∧ i2 - 1 < (p.length : Int)) ∧ (if eqPt (nth p i2) (nth p (i2 - 1)) then Q false else (-9223372036854775808 ≤ i2) ∧ I18 (i2 + 1) ∧ mu19 (i2 + 1) < mu19 i2) else (-9223372036854775808 ≤ i2) ∧ I18 (i2 + 1) ∧ mu19 (i2 + 1) < mu19 i2))) else Q (decide ((p.length : Int) ≤ 6)))) := h
  clear h
  have hc0 := Ct.init hO
  refine Ret_enter Try.func165 rfl 45 rfl [.tmp 2] rfl rfl ?_
  refine W_seq ?_
  refine W_reg ?_
  refine L_pu (P_assign (vb false) rfl) ?_
  refine L_nil ?_
  refine W_seq ?_
  refine W_seq ?_
  refine W_reg ?_
  refine L_pu (P_assign (vi 0) rfl) ?_
  refine L_nil ?_
  refine W_block ?_
  obtain ⟨I18, mu19, hI20, H⟩ := H
  refine W_loop (α := Int) (fun (sv__ : Int) t w14 => match sv__ with | i2 => I18 i2 ∧ Has t [(0, .slice A1 n2 c3), (3, vi i2)] ∧ Ct [] w0 w14 [] O ∧ Sl kPt w14 (Fr ([] ++ O)) (.slice A1 n2 c3) p) (fun (sv__ : Int) => match sv__ with | i2 => mu19 i2) 0 ⟨hI20, ⟨rfl, rfl, trivial⟩, hc0, hp4⟩ ?_
  rintro i2 _ w14 ⟨hI20, hh22, hc16, h17⟩
  obtain ⟨u23, rfl⟩ := Has.ins hh22
  have H := H i2 hI20
  refine W_seq ?_
  refine W_seq ?_
  refine W_reg ?_
  refine L_pu (P_move (vi i2) rfl) ?_
  refine L_pu (P_move (.slice A1 n2 c3) rfl) ?_
  have hl24 := h17.le
  refine L_pu (P_len Try.underlying23 A1 n2 c3 h17.len rfl) ?_
  refine L_pu (P_cmp i2 (p.length : Int) (decide (i2 < (p.length : Int))) rfl rfl rfl) ?_
  refine L_nil ?_
  refine W_cond (decide (i2 < (p.length : Int))) rfl (fun hq25 => ?_) (fun hq25 => ?_)
  · have H := ite_t H hq25
    refine W_skip ?_
    refine W_seq ?_
    refine W_block ?_
    refine W_seq ?_
    refine W_draw (fun x => Gr w14 x none) (by kernel_rfl) (by kernel_rfl) (Gr.drew _) ?_
    refine Q_pu (P_move (.slice A1 n2 c3) rfl) ?_
    refine Q_pu (P_move (vi i2) rfl) ?_
    obtain ⟨hb26, H⟩ := H
    obtain ⟨ad27, cs28, hA29, hS32, hR30, hcl31⟩ := h17.get default (by decide) i2 hb26
    obtain rfl := kPt.op hR30
    refine Q_pu (P_ia Try.underlying23 se23 A1 ad27 n2 c3 h17.len i2 rfl hA29 rfl hb26) ?_
    refine Q_pu (P_fa fa29_0 (ad27.add (i2.toNat * 2)) ((ad27.add (i2.toNat * 2)).add 0) rfl rfl) ?_
    refine Q_pu (P_ld ag3 cQ ((ad27.add (i2.toNat * 2)).add 0) (vi ((nth p i2).X)) rfl (hcl31 0 _ rfl)) ?_
    refine Q_call go179 [vi ((nth p i2).X)] rfl (vb (spec_l1Num.m ((nth p i2).X))) (fun w g => (spec_l1Num.calls w (hc16.k0 g).ok ((nth p i2).X) _ (spec_l1Num.fn ((nth p i2).X))).mono ?_) ?_
    · rintro _ w ⟨r, rfl, rfl, g2, _⟩
      exact ⟨rfl, Gr.t0 g g2⟩
    refine Q_pu (P_not (spec_l1Num.m ((nth p i2).X)) rfl) ?_
    refine Q_pu (P_move (vb (!(spec_l1Num.m ((nth p i2).X)))) rfl) ?_
    rcases bool_or (!(spec_l1Num.m ((nth p i2).X))) with hq38 | hq38
    · have H := ite_t H hq38
      refine Q_pass (dj := 17) rfl rfl (.inl (by exact congrArg Value.bool hq38)) ?_
      refine Q_pass (dj := 17) rfl rfl (.inl (by exact congrArg Value.bool hq38)) ?_
      refine Q_pass (dj := 17) rfl rfl (.inl (by exact congrArg Value.bool hq38)) ?_
      refine Q_pass (dj := 17) rfl rfl (.inl (by exact congrArg Value.bool hq38)) ?_
      refine Q_pass (dj := 17) rfl rfl (.inl (by exact congrArg Value.bool hq38)) ?_
      refine Q_pass (dj := 17) rfl rfl (.inl (by exact congrArg Value.bool hq38)) ?_
      refine Q_pass (dj := 17) rfl rfl (.inl (by exact congrArg Value.bool hq38)) ?_
      refine Q_pu (P_pick true (vb true) (by exact congrArg Value.bool hq38) rfl) ?_
      refine Q_pu (P_move (vb true) rfl) ?_
      refine Q_pass (dj := 26) rfl rfl (.inl rfl) ?_
      refine Q_pass (dj := 26) rfl rfl (.inl rfl) ?_
      refine Q_pass (dj := 26) rfl rfl (.inl rfl) ?_
      refine Q_pass (dj := 29) rfl rfl (.inr rfl) ?_
      refine Q_pass (dj := 29) rfl rfl (.inr rfl) ?_
      refine Q_pass (dj := 29) rfl rfl (.inr rfl) ?_
      refine Q_pass (dj := 29) rfl rfl (.inr rfl) ?_
      refine Q_pass (dj := 29) rfl rfl (.inr rfl) ?_
      refine Q_pass (dj := 29) rfl rfl (.inr rfl) ?_
      refine Q_pass (dj := 29) rfl rfl (.inr rfl) ?_
      refine Q_pass (dj := 29) rfl rfl (.inr rfl) ?_
      refine Q_pass (dj := 29) rfl rfl (.inr rfl) ?_
      refine Q_pass (dj := 29) rfl rfl (.inr rfl) ?_
      refine Q_pass (dj := 26) rfl rfl (.inl rfl) ?_
      refine Q_pu (P_pick true (vb true) (by exact congrArg Value.bool rfl) rfl) ?_
      refine Q_nil fun w39 g40 => ?_
      have hc42 := hc16.k0 g40
      refine W_ct (b := true) rfl rfl ?_
      refine W_seq ?_
      refine W_reg ?_
      refine L_pu (P_assign (vb false) rfl) ?_
      refine L_nil ?_
      refine W_ret ?_
      exact ⟨[vb false], ⟨_, rfl, rfl⟩, false, rfl, H, hc42.gr.g0⟩
    · have H := ite_f H hq38
      refine Q_run (dj := 17) rfl rfl (by exact congrArg Value.bool hq38) ?_
      refine Q_pu (P_move (.slice A1 n2 c3) rfl) ?_
      refine Q_run (dj := 17) rfl rfl (by exact congrArg Value.bool hq38) ?_
      refine Q_pu (P_move (vi i2) rfl) ?_
      refine Q_run (dj := 17) rfl rfl (by exact congrArg Value.bool hq38) ?_
      obtain ⟨hb43, H⟩ := H
      obtain ⟨ad44, cs45, hA46, hS49, hR47, hcl48⟩ := h17.get default (by decide) i2 hb43
      obtain rfl := kPt.op hR47
      refine Q_pu (P_ia Try.underlying23 se23 A1 ad44 n2 c3 h17.len i2 rfl hA46 rfl hb43) ?_
      refine Q_run (dj := 17) rfl rfl (by exact congrArg Value.bool hq38) ?_
      refine Q_pu (P_fa fa29_1 (ad44.add (i2.toNat * 2)) ((ad44.add (i2.toNat * 2)).add 1) rfl rfl) ?_
      refine Q_run (dj := 17) rfl rfl (by exact congrArg Value.bool hq38) ?_
      refine Q_pu (P_ld ag3 cQ ((ad44.add (i2.toNat * 2)).add 1) (vi ((nth p i2).Y)) rfl (hcl48 1 _ rfl)) ?_
      refine Q_run (dj := 17) rfl rfl (by exact congrArg Value.bool hq38) ?_
      refine Q_call go179 [vi ((nth p i2).Y)] rfl (vb (spec_l1Num.m ((nth p i2).Y))) (fun w g => (spec_l1Num.calls w (hc16.k0 g).ok ((nth p i2).Y) _ (spec_l1Num.fn ((nth p i2).Y))).mono ?_) ?_
      · rintro _ w ⟨r, rfl, rfl, g2, _⟩
        exact ⟨rfl, Gr.t0 g g2⟩
      refine Q_run (dj := 17) rfl rfl (by exact congrArg Value.bool hq38) ?_
      refine Q_pu (P_not (spec_l1Num.m ((nth p i2).Y)) rfl) ?_
      refine Q_pu (P_pick false (vb (!(spec_l1Num.m ((nth p i2).Y)))) (by exact congrArg Value.bool hq38) rfl) ?_
      refine Q_pu (P_move (vb (!(spec_l1Num.m ((nth p i2).Y)))) rfl) ?_
      rcases bool_or (!(spec_l1Num.m ((nth p i2).Y))) with hq55 | hq55
      · have H := ite_t H hq55
        refine Q_pass (dj := 26) rfl rfl (.inl (by exact congrArg Value.bool hq55)) ?_
        refine Q_pass (dj := 26) rfl rfl (.inl (by exact congrArg Value.bool hq55)) ?_
        refine Q_pass (dj := 26) rfl rfl (.inl (by exact congrArg Value.bool hq55)) ?_
        refine Q_pass (dj := 29) rfl rfl (.inr rfl) ?_
        refine Q_pass (dj := 29) rfl rfl (.inr rfl) ?_
        refine Q_pass (dj := 29) rfl rfl (.inr rfl) ?_
        refine Q_pass (dj := 29) rfl rfl (.inr rfl) ?_
        refine Q_pass (dj := 29) rfl rfl (.inr rfl) ?_
        refine Q_pass (dj := 29) rfl rfl (.inr rfl) ?_
        refine Q_pass (dj := 29) rfl rfl (.inr rfl) ?_
        refine Q_pass (dj := 29) rfl rfl (.inr rfl) ?_
        refine Q_pass (dj := 29) rfl rfl (.inr rfl) ?_
        refine Q_pass (dj := 29) rfl rfl (.inr rfl) ?_
        refine Q_pass (dj := 26) rfl rfl (.inl (by exact congrArg Value.bool hq55)) ?_
        refine Q_pu (P_pick true (vb true) (by exact congrArg Value.bool hq55) rfl) ?_
        refine Q_nil fun w56 g57 => ?_
        have hc59 := hc16.k0 g57
        refine W_ct (b := true) rfl rfl ?_
        refine W_seq ?_
        refine W_reg ?_
        refine L_pu (P_assign (vb false) rfl) ?_
        refine L_nil ?_
        refine W_ret ?_
        exact ⟨[vb false], ⟨_, rfl, rfl⟩, false, rfl, H, hc59.gr.g0⟩
      · have H := ite_f H hq55
        refine Q_run (dj := 26) rfl rfl (by exact congrArg Value.bool hq55) ?_
        refine Q_pu (P_move (vi i2) rfl) ?_
        refine Q_run (dj := 26) rfl rfl (by exact congrArg Value.bool hq55) ?_
        refine Q_pu (P_cmp i2 0 (decide (i2 > 0)) rfl rfl rfl) ?_
        refine Q_run (dj := 26) rfl rfl (by exact congrArg Value.bool hq55) ?_
        refine Q_pu (P_move (vb (decide (i2 > 0))) rfl) ?_
        rcases bool_or (decide (i2 > 0)) with hq60 | hq60
        · have H := ite_t H hq60
          refine Q_run (dj := 29) rfl rfl (by exact congrArg Value.bool hq60) ?_
          refine Q_pu (P_move (.slice A1 n2 c3) rfl) ?_
          refine Q_run (dj := 29) rfl rfl (by exact congrArg Value.bool hq60) ?_
          refine Q_pu (P_move (vi i2) rfl) ?_
          refine Q_run (dj := 29) rfl rfl (by exact congrArg Value.bool hq60) ?_
          obtain ⟨hb61, H⟩ := H
          obtain ⟨ad62, cs63, hA64, hS67, hR65, hcl66⟩ := h17.get default (by decide) i2 hb61
          obtain rfl := kPt.op hR65
          refine Q_pu (P_ia Try.underlying23 se23 A1 ad62 n2 c3 h17.len i2 rfl hA64 rfl hb61) ?_
          refine Q_run (dj := 29) rfl rfl (by exact congrArg Value.bool hq60) ?_
          refine Q_pu (P_lda ag29 sz29 cQ (ad62.add (i2.toNat * 2)) [vi ((nth p i2).X), vi ((nth p i2).Y)] rfl rfl hcl66) ?_
          refine Q_run (dj := 29) rfl rfl (by exact congrArg Value.bool hq60) ?_
          refine Q_pu (P_move (.slice A1 n2 c3) rfl) ?_
          refine Q_run (dj := 29) rfl rfl (by exact congrArg Value.bool hq60) ?_
          refine Q_pu (P_move (vi i2) rfl) ?_
          refine Q_run (dj := 29) rfl rfl (by exact congrArg Value.bool hq60) ?_
          obtain ⟨hb68, H⟩ := H
          have hi69 := hb68 (len_le hl24)
          refine Q_pu (P_sub i2 1 rfl rfl hi69) ?_
          refine Q_run (dj := 29) rfl rfl (by exact congrArg Value.bool hq60) ?_
          obtain ⟨hb70, H⟩ := H
          obtain ⟨ad71, cs72, hA73, hS76, hR74, hcl75⟩ := h17.get default (by decide) (i2 - 1) hb70
          obtain rfl := kPt.op hR74
          refine Q_pu (P_ia Try.underlying23 se23 A1 ad71 n2 c3 h17.len (i2 - 1) rfl hA73 rfl hb70) ?_
          refine Q_run (dj := 29) rfl rfl (by exact congrArg Value.bool hq60) ?_
          refine Q_pu (P_lda ag29 sz29 cQ (ad71.add ((i2 - 1).toNat * 2)) [vi ((nth p (i2 - 1)).X), vi ((nth p (i2 - 1)).Y)] rfl rfl hcl75) ?_
          refine Q_run (dj := 29) rfl rfl (by exact congrArg Value.bool hq60) ?_
          refine Q_pu (P_eq _ _ (eqPt (nth p i2) (nth p (i2 - 1))) (qt29 (nth p i2) (nth p (i2 - 1))) rfl rfl) ?_
          refine Q_run (dj := 26) rfl rfl (by exact congrArg Value.bool hq55) ?_
          refine Q_pu (P_pick true (vb (eqPt (nth p i2) (nth p (i2 - 1)))) (by exact congrArg Value.bool hq60) rfl) ?_
          refine Q_pu (P_pick false (vb (eqPt (nth p i2) (nth p (i2 - 1)))) (by exact congrArg Value.bool hq55) rfl) ?_
          refine Q_nil fun w77 g78 => ?_
          have hc80 := hc16.k0 g78
          refine W_cond (eqPt (nth p i2) (nth p (i2 - 1))) rfl (fun hq81 => ?_) (fun hq81 => ?_)
          · have H := ite_t H hq81
            refine W_seq ?_
            refine W_reg ?_
            refine L_pu (P_assign (vb false) rfl) ?_
            refine L_nil ?_
            refine W_ret ?_
            exact ⟨[vb false], ⟨_, rfl, rfl⟩, false, rfl, H, hc80.gr.g0⟩
          · have H := ite_f H hq81
            refine W_skip ?_
            refine W_reg ?_
            refine L_pu (P_move (vi i2) rfl) ?_
            obtain ⟨hb83, H⟩ := H
            have hi82 : I64 (i2 + 1) := i64_succ (of_decide_eq_true hq25) hl24 hb83
            refine L_pu (P_add i2 1 rfl rfl hi82) ?_
            refine L_pu (P_assign (vi (i2 + 1)) rfl) ?_
            refine L_nil ?_
            obtain ⟨hI84, hm85⟩ := H
            exact ⟨i2 + 1, hm85, hI84, ⟨rfl, rfl, trivial⟩, hc80, (h17.st (.new _ g78))⟩
        · have H := ite_f H hq60
          refine Q_pass (dj := 29) rfl rfl (.inl (by exact congrArg Value.bool hq60)) ?_
          refine Q_pass (dj := 29) rfl rfl (.inl (by exact congrArg Value.bool hq60)) ?_
          refine Q_pass (dj := 29) rfl rfl (.inl (by exact congrArg Value.bool hq60)) ?_
          refine Q_pass (dj := 29) rfl rfl (.inl (by exact congrArg Value.bool hq60)) ?_
          refine Q_pass (dj := 29) rfl rfl (.inl (by exact congrArg Value.bool hq60)) ?_
          refine Q_pass (dj := 29) rfl rfl (.inl (by exact congrArg Value.bool hq60)) ?_
          refine Q_pass (dj := 29) rfl rfl (.inl (by exact congrArg Value.bool hq60)) ?_
          refine Q_pass (dj := 29) rfl rfl (.inl (by exact congrArg Value.bool hq60)) ?_
          refine Q_pass (dj := 29) rfl rfl (.inl (by exact congrArg Value.bool hq60)) ?_
          refine Q_pass (dj := 29) rfl rfl (.inl (by exact congrArg Value.bool hq60)) ?_
          refine Q_run (dj := 26) rfl rfl (by exact congrArg Value.bool hq55) ?_
          refine Q_pu (P_pick false (vb false) (by exact congrArg Value.bool hq60) rfl) ?_
          refine Q_pu (P_pick false (vb false) (by exact congrArg Value.bool hq55) rfl) ?_
          refine Q_nil fun w86 g87 => ?_
          have hc89 := hc16.k0 g87
          refine W_cf (b := false) rfl rfl ?_
          refine W_skip ?_
          refine W_reg ?_
          refine L_pu (P_move (vi i2) rfl) ?_
          obtain ⟨hb91, H⟩ := H
          have hi90 : I64 (i2 + 1) := i64_succ (of_decide_eq_true hq25) hl24 hb91
          refine L_pu (P_add i2 1 rfl rfl hi90) ?_
          refine L_pu (P_assign (vi (i2 + 1)) rfl) ?_
          refine L_nil ?_
          obtain ⟨hI92, hm93⟩ := H
          exact ⟨i2 + 1, hm93, hI92, ⟨rfl, rfl, trivial⟩, hc89, (h17.st (.new _ g87))⟩
  · have H := ite_f H hq25
    refine W_exit (xin_hit ?_)
    refine W_seq ?_
    refine W_reg ?_
    refine L_pu (P_move (.slice A1 n2 c3) rfl) ?_
    refine L_pu (P_len Try.underlying23 A1 n2 c3 h17.len rfl) ?_
    refine L_pu (P_cmp (p.length : Int) 6 (decide ((p.length : Int) ≤ 6)) rfl rfl rfl) ?_
    refine L_pu (P_assign (vb (decide ((p.length : Int) ≤ 6))) rfl) ?_
    refine L_nil ?_
    refine W_ret ?_
    exact ⟨[vb (decide ((p.length : Int) ≤ 6))], ⟨_, rfl, rfl⟩, decide ((p.length : Int) ≤ 6), rfl, H, hc16.gr.g0⟩
end Go.Proofs.Ytndjggncgpjolaa

namespace Go.Proofs.Ytndjggncgpjolaa
set_option linter.unusedVariables false
set_option linter.unusedSimpArgs false
set_option linter.unusedSectionVars false
theorem spec_l1Pts.law (p : List Pt) (Q : Bool → Prop) (hq : Q (ptsOk p && decide (p.length ≤ 6))) : spec_l1Pts.E p Q := by
  unfold spec_l1Pts.E
  unfold ptsOk at hq
  refine loop_all p.length (fun k => ptOk (nth p (k : Int)) && (decide (k = 0) || !(decide (nth p ((k : Int) - 1) = nth p (k : Int))))) (fun I mu k hk hp hn => ?_) (fun ha => ?_)
  · refine ⟨by omega, ?_⟩
    rw [spec_l1Num.m_is, spec_l1Num.m_is]
    have bad : (ptOk (nth p (k : Int)) && (decide (k = 0) || !(decide (nth p ((k : Int) - 1) = nth p (k : Int))))) = false → Q false := fun h => by
      rw [allN_false hk h, Bool.false_and] at hq; exact hq
    cases h1 : inR (nth p (k : Int)).X with
    | false => rw [if_pos (by decide)]; exact bad (by simp only [ptOk, h1, Bool.false_and])
    | true =>
      rw [if_neg (by decide)]
      refine ⟨by omega, ?_⟩
      cases h2 : inR (nth p (k : Int)).Y with
      | false => rw [if_pos (by decide)]; exact bad (by simp only [ptOk, h2, Bool.and_false, Bool.false_and])
      | true =>
        rw [if_neg (by decide)]
        have hpt : ptOk (nth p (k : Int)) = true := by simp only [ptOk, h1, h2, Bool.and_self]
        by_cases hk0 : k = 0
        · rw [if_neg (by rw [decide_eq_true_eq]; omega)]
          obtain ⟨i1, i2⟩ := hn (by rw [hpt, decide_eq_true hk0]; rfl)
          exact ⟨by omega, i1, i2⟩
        · rw [if_pos (by rw [decide_eq_true_eq]; omega)]
          refine ⟨by omega, fun _ => by unfold I64; omega, by omega, ?_⟩
          rw [eqPt_is]
          by_cases he : nth p ((k : Int) - 1) = nth p (k : Int)
          · rw [if_pos (by rw [decide_eq_true_eq]; exact he.symm)]
            exact bad (by rw [hpt, decide_eq_false hk0, decide_eq_true he]; rfl)
          · rw [if_neg (by rw [decide_eq_true_eq]; exact fun e => he e.symm)]
            obtain ⟨i1, i2⟩ := hn (by rw [hpt, decide_eq_false hk0, decide_eq_false he]; rfl)
            exact ⟨by omega, i1, i2⟩
  · rw [allN_true ha, Bool.true_and] at hq
    have e2 : decide ((p.length : Int) ≤ 6) = decide (p.length ≤ 6) := decide_eq_decide.2 (by omega)
    rw [e2]; exact hq
end Go.Proofs.Ytndjggncgpjolaa

namespace Go.Proofs.Ytndjggncgpjolaa
open Go.RowKit
set_option linter.unusedVariables false
def spec_ShapeOk.E (s : Shape) (Q : Bool → Prop) : Prop :=
  spec_l1Pts.E s.Pts (fun r => (if !r then Q false else (if s.Kind == 1 then Q ((s.Pts.length : Int) == 1) else (if s.Kind == 2 then Q (decide ((s.Pts.length : Int) ≥ 2)) else (if s.Kind == 3 then (if decide ((s.Pts.length : Int) ≥ 3) then ((0 : Int) ≤ 0 ∧ 0 < (s.Pts.length : Int)) ∧ ((s.Pts.length : Int) ≤ 9223372036854775807 → I64 ((s.Pts.length : Int) - 1)) ∧ ((0 : Int) ≤ (s.Pts.length : Int) - 1 ∧ (s.Pts.length : Int) - 1 < (s.Pts.length : Int)) ∧ Q (!(eqPt (nth s.Pts 0) (nth s.Pts ((s.Pts.length : Int) - 1)))) else Q false) else Q false)))))
set_option maxHeartbeats 8000000 in
set_option maxRecDepth 100000 in
theorem spec_ShapeOk.calls {O : Ob} (w0 : World) (hO : Ok w0 O) (s : Shape) (A1 : Option Addr) (n2 c3 : Nat) (hp4 : Sl kPt w0 (Fr O) (.slice A1 n2 c3) s.Pts) (Q : Bool → Prop) (h : spec_ShapeOk.E s Q) :
    Ret Try.prog 134 [.agg #[vi s.Kind, .slice A1 n2 c3]] w0 (fun v w' => ∃ (r0 : Bool), v = vb r0 ∧ Q r0 ∧ Gr w0 w' none) := by
  have H : spec_l1Pts.E s.Pts (fun r => (if !r then Q false else (if s.Kind == 1 then Q ((s.Pts.length : Int) == 1) else (if s.Kind == 2 then Q (decide ((s.Pts.length : Int) ≥ 2)) else (if s.Kind == 3 then (if decide ((s.Pts.length : Int) ≥ 3) then ((0 : Int) ≤ 0 ∧ 0 < (s.Pts.length : Int)) ∧ ((s.Pts.length : Int) ≤ 9223372036854775807 → I64 ((s.Pts.length : Int) - 1)) ∧ ((0 : Int) ≤ (s.Pts.length : Int) - 1 ∧ (s.Pts.length : Int) - 1 < (s.Pts.length : Int)) ∧ Q (!(eqPt (nth s.Pts 0) (nth s.Pts ((s.Pts.length : Int) - 1)))) else Q false) else Q false))))) := h
  clear h
  have hc0 := Ct.init hO
  refine Ret_enter Try.func134 rfl 38 rfl [.tmp 2] rfl rfl ?_
  refine W_seq ?_
  refine W_reg ?_
  refine L_box [vi s.Kind, .slice A1 n2 c3] rfl fun w6 b7 hl9 hu10 g8 hx11 => ?_
  have h13 := Fb.mk hc0.ok hl9 hx11
  have hc14 := hc0.k0 g8
  refine L_pu (P_assign (vb false) rfl) ?_
  refine L_nil ?_
  refine W_seq ?_
  refine W_reg ?_
  refine L_pu (P_fa fa68_1 ⟨b7, 0, none⟩ ⟨b7, 1, none⟩ rfl rfl) ?_
  refine L_pu (P_ld ag23 cL ⟨b7, 1, none⟩ (.slice A1 n2 c3) rfl (h13.cell rfl)) ?_
  have hl15 := (hp4.st hc14.st).le
  refine L_pu (P_len Try.underlying23 A1 n2 c3 (hp4.st hc14.st).len rfl) ?_
  refine L_pu (P_assign (vi (s.Pts.length : Int)) rfl) ?_
  refine L_nil ?_
  refine W_seq ?_
  refine W_seq ?_
  refine W_reg ?_
  refine L_pu (P_fa fa68_1 ⟨b7, 0, none⟩ ⟨b7, 1, none⟩ rfl rfl) ?_
  refine L_pu (P_ld ag23 cL ⟨b7, 1, none⟩ (.slice A1 n2 c3) rfl (h13.cell rfl)) ?_
  refine L_call go165 [.slice A1 n2 c3] rfl ((spec_l1Pts.calls w6 hc14.ok s.Pts A1 n2 c3 (hp4.st hc14.st) _ H).mono ?_)
  rintro _ w16 ⟨r, rfl, H, g17⟩
  have hc21 := hc14.k0 g17
  refine L_pu (P_not r rfl) ?_
  refine L_nil ?_
  refine W_cond (!r) rfl (fun hq22 => ?_) (fun hq22 => ?_)
  · have H := ite_t H hq22
    refine W_seq ?_
    refine W_reg ?_
    refine L_pu (P_assign (vb false) rfl) ?_
    refine L_nil ?_
    refine W_ret ?_
    exact ⟨[vb false], ⟨_, rfl, rfl⟩, false, rfl, H, hc21.gr.g0⟩
  · have H := ite_f H hq22
    refine W_skip ?_
    refine W_seq ?_
    refine W_seq ?_
    refine W_reg ?_
    refine L_pu (P_fa fa68_0 ⟨b7, 0, none⟩ ⟨b7, 0, none⟩ rfl rfl) ?_
    have h23 := (h13.st (.new _ g17))
    refine L_pu (P_ld ag3 cL ⟨b7, 0, none⟩ (vi s.Kind) rfl (h23.cell rfl)) ?_
    refine L_nil ?_
    refine W_block ?_
    refine W_seq ?_
    refine W_reg ?_
    refine L_pu (P_cmp s.Kind 1 (s.Kind == 1) rfl rfl rfl) ?_
    refine L_pu (P_assign (vb (s.Kind == 1)) rfl) ?_
    refine L_nil ?_
    refine W_cond (s.Kind == 1) rfl (fun hq24 => ?_) (fun hq24 => ?_)
    · have H := ite_t H hq24
      refine W_seq ?_
      refine W_reg ?_
      refine L_pu (P_move (vi (s.Pts.length : Int)) rfl) ?_
      refine L_pu (P_cmp (s.Pts.length : Int) 1 ((s.Pts.length : Int) == 1) rfl rfl rfl) ?_
      refine L_pu (P_assign (vb ((s.Pts.length : Int) == 1)) rfl) ?_
      refine L_nil ?_
      refine W_ret ?_
      exact ⟨[vb ((s.Pts.length : Int) == 1)], ⟨_, rfl, rfl⟩, (s.Pts.length : Int) == 1, rfl, H, hc21.gr.g0⟩
    · have H := ite_f H hq24
      refine W_seq ?_
      refine W_reg ?_
      refine L_pu (P_cmp s.Kind 2 (s.Kind == 2) rfl rfl rfl) ?_
      refine L_pu (P_assign (vb (s.Kind == 2)) rfl) ?_
      refine L_nil ?_
      refine W_cond (s.Kind == 2) rfl (fun hq25 => ?_) (fun hq25 => ?_)
      · have H := ite_t H hq25
        refine W_seq ?_
        refine W_reg ?_
        refine L_pu (P_move (vi (s.Pts.length : Int)) rfl) ?_
        refine L_pu (P_cmp (s.Pts.length : Int) 2 (decide ((s.Pts.length : Int) ≥ 2)) rfl rfl rfl) ?_
        refine L_pu (P_assign (vb (decide ((s.Pts.length : Int) ≥ 2))) rfl) ?_
        refine L_nil ?_
        refine W_ret ?_
        exact ⟨[vb (decide ((s.Pts.length : Int) ≥ 2))], ⟨_, rfl, rfl⟩, decide ((s.Pts.length : Int) ≥ 2), rfl, H, hc21.gr.g0⟩
      · have H := ite_f H hq25
        refine W_seq ?_
        refine W_reg ?_
        refine L_pu (P_cmp s.Kind 3 (s.Kind == 3) rfl rfl rfl) ?_
        refine L_pu (P_assign (vb (s.Kind == 3)) rfl) ?_
        refine L_nil ?_
        refine W_cond (s.Kind == 3) rfl (fun hq26 => ?_) (fun hq26 => ?_)
        · have H := ite_t H hq26
          refine W_seq ?_
          refine W_draw (fun x => Gr w16 x none) (by kernel_rfl) (by kernel_rfl) (Gr.drew _) ?_
          refine Q_pu (P_move (vi (s.Pts.length : Int)) rfl) ?_
          refine Q_pu (P_cmp (s.Pts.length : Int) 3 (decide ((s.Pts.length : Int) ≥ 3)) rfl rfl rfl) ?_
          refine Q_pu (P_move (vb (decide ((s.Pts.length : Int) ≥ 3))) rfl) ?_
          rcases bool_or (decide ((s.Pts.length : Int) ≥ 3)) with hq27 | hq27
          · have H := ite_t H hq27
            refine Q_run (dj := 25) rfl rfl (by exact congrArg Value.bool hq27) ?_
            refine Q_pu (P_fa fa68_1 ⟨b7, 0, none⟩ ⟨b7, 1, none⟩ rfl rfl) ?_
            refine Q_run (dj := 25) rfl rfl (by exact congrArg Value.bool hq27) ?_
            refine Q_pu (P_ld ag23 cQ ⟨b7, 1, none⟩ (.slice A1 n2 c3) rfl (h23.cell rfl)) ?_
            refine Q_run (dj := 25) rfl rfl (by exact congrArg Value.bool hq27) ?_
            obtain ⟨hb28, H⟩ := H
            obtain ⟨ad29, cs30, hA31, hS34, hR32, hcl33⟩ := (hp4.st hc21.st).get default (by decide) 0 hb28
            obtain rfl := kPt.op hR32
            refine Q_pu (P_ia Try.underlying23 se23 A1 ad29 n2 c3 (hp4.st hc21.st).len 0 rfl hA31 rfl hb28) ?_
            refine Q_run (dj := 25) rfl rfl (by exact congrArg Value.bool hq27) ?_
            refine Q_pu (P_lda ag29 sz29 cQ (ad29.add ((0 : Int).toNat * 2)) [vi ((nth s.Pts 0).X), vi ((nth s.Pts 0).Y)] rfl rfl hcl33) ?_
            refine Q_run (dj := 25) rfl rfl (by exact congrArg Value.bool hq27) ?_
            refine Q_pu (P_fa fa68_1 ⟨b7, 0, none⟩ ⟨b7, 1, none⟩ rfl rfl) ?_
            refine Q_run (dj := 25) rfl rfl (by exact congrArg Value.bool hq27) ?_
            refine Q_pu (P_ld ag23 cQ ⟨b7, 1, none⟩ (.slice A1 n2 c3) rfl (h23.cell rfl)) ?_
            refine Q_run (dj := 25) rfl rfl (by exact congrArg Value.bool hq27) ?_
            refine Q_pu (P_move (vi (s.Pts.length : Int)) rfl) ?_
            refine Q_run (dj := 25) rfl rfl (by exact congrArg Value.bool hq27) ?_
            obtain ⟨hb35, H⟩ := H
            have hi36 := hb35 (len_le hl15)
            refine Q_pu (P_sub (s.Pts.length : Int) 1 rfl rfl hi36) ?_
            refine Q_run (dj := 25) rfl rfl (by exact congrArg Value.bool hq27) ?_
            obtain ⟨hb37, H⟩ := H
            obtain ⟨ad38, cs39, hA40, hS43, hR41, hcl42⟩ := (hp4.st hc21.st).get default (by decide) ((s.Pts.length : Int) - 1) hb37
            obtain rfl := kPt.op hR41
            refine Q_pu (P_ia Try.underlying23 se23 A1 ad38 n2 c3 (hp4.st hc21.st).len ((s.Pts.length : Int) - 1) rfl hA40 rfl hb37) ?_
            refine Q_run (dj := 25) rfl rfl (by exact congrArg Value.bool hq27) ?_
            refine Q_pu (P_lda ag29 sz29 cQ (ad38.add (((s.Pts.length : Int) - 1).toNat * 2)) [vi ((nth s.Pts ((s.Pts.length : Int) - 1)).X), vi ((nth s.Pts ((s.Pts.length : Int) - 1)).Y)] rfl rfl hcl42) ?_
            refine Q_run (dj := 25) rfl rfl (by exact congrArg Value.bool hq27) ?_
            refine Q_pu (P_ne _ _ (eqPt (nth s.Pts 0) (nth s.Pts ((s.Pts.length : Int) - 1))) (qt29 (nth s.Pts 0) (nth s.Pts ((s.Pts.length : Int) - 1))) rfl rfl) ?_
            refine Q_pu (P_pick true (vb (!(eqPt (nth s.Pts 0) (nth s.Pts ((s.Pts.length : Int) - 1))))) (by exact congrArg Value.bool hq27) rfl) ?_
            refine Q_pu (P_assign (vb (!(eqPt (nth s.Pts 0) (nth s.Pts ((s.Pts.length : Int) - 1))))) rfl) ?_
            refine Q_nil fun w44 g45 => ?_
            have hc47 := hc21.k0 g45
            refine W_ret ?_
            exact ⟨[vb (!(eqPt (nth s.Pts 0) (nth s.Pts ((s.Pts.length : Int) - 1))))], ⟨_, rfl, rfl⟩, !(eqPt (nth s.Pts 0) (nth s.Pts ((s.Pts.length : Int) - 1))), rfl, H, hc47.gr.g0⟩
          · have H := ite_f H hq27
            refine Q_pass (dj := 25) rfl rfl (.inl (by exact congrArg Value.bool hq27)) ?_
            refine Q_pass (dj := 25) rfl rfl (.inl (by exact congrArg Value.bool hq27)) ?_
            refine Q_pass (dj := 25) rfl rfl (.inl (by exact congrArg Value.bool hq27)) ?_
            refine Q_pass (dj := 25) rfl rfl (.inl (by exact congrArg Value.bool hq27)) ?_
            refine Q_pass (dj := 25) rfl rfl (.inl (by exact congrArg Value.bool hq27)) ?_
            refine Q_pass (dj := 25) rfl rfl (.inl (by exact congrArg Value.bool hq27)) ?_
            refine Q_pass (dj := 25) rfl rfl (.inl (by exact congrArg Value.bool hq27)) ?_
            refine Q_pass (dj := 25) rfl rfl (.inl (by exact congrArg Value.bool hq27)) ?_
            refine Q_pass (dj := 25) rfl rfl (.inl (by exact congrArg Value.bool hq27)) ?_
            refine Q_pass (dj := 25) rfl rfl (.inl (by exact congrArg Value.bool hq27)) ?_
            refine Q_pass (dj := 25) rfl rfl (.inl (by exact congrArg Value.bool hq27)) ?_
            refine Q_pu (P_pick false (vb false) (by exact congrArg Value.bool hq27) rfl) ?_
            refine Q_pu (P_assign (vb false) rfl) ?_
            refine Q_nil fun w48 g49 => ?_
            have hc51 := hc21.k0 g49
            refine W_ret ?_
            exact ⟨[vb false], ⟨_, rfl, rfl⟩, false, rfl, H, hc51.gr.g0⟩
        · have H := ite_f H hq26
          refine W_skip ?_
          refine W_seq ?_
          refine W_reg ?_
          refine L_pu (P_assign (vb false) rfl) ?_
          refine L_nil ?_
          refine W_ret ?_
          exact ⟨[vb false], ⟨_, rfl, rfl⟩, false, rfl, H, hc21.gr.g0⟩
end Go.Proofs.Ytndjggncgpjolaa

namespace Go.Proofs.Ytndjggncgpjolaa
set_option linter.unusedVariables false
set_option linter.unusedSimpArgs false
set_option linter.unusedSectionVars false
theorem spec_ShapeOk.law (s : Shape) (Q : Bool → Prop) (hq : Q (shapeOk s)) : spec_ShapeOk.E s Q := by
  unfold spec_ShapeOk.E
  unfold shapeOk at hq
  refine spec_l1Pts.law _ _ ?_
  cases h1 : ptsOk s.Pts with
  | false => rw [h1, Bool.false_and] at hq; rw [Bool.false_and, if_pos (by decide)]; exact hq
  | true =>
    rw [h1, Bool.true_and] at hq
    rw [Bool.true_and]
    unfold kindOk at hq
    by_cases h6 : s.Pts.length ≤ 6
    · rw [decide_eq_true h6, if_neg (by decide)]
      by_cases k1 : s.Kind = 1
      · rw [if_pos k1] at hq
        rw [if_pos (by rw [beq_iff_eq]; exact k1)]
        have : ((s.Pts.length : Int) == 1) = decide (s.Pts.length = 1) := by rw [Bool.eq_iff_iff, beq_iff_eq, decide_eq_true_eq]; omega
        rw [this]; exact hq
      rw [if_neg k1] at hq
      rw [if_neg (by rw [beq_iff_eq]; exact k1)]
      by_cases k2 : s.Kind = 2
      · rw [if_pos k2, decide_eq_true h6, Bool.and_true] at hq
        rw [if_pos (by rw [beq_iff_eq]; exact k2)]
        have : decide ((s.Pts.length : Int) ≥ 2) = decide (2 ≤ s.Pts.length) := decide_eq_decide.2 (by omega)
        rw [this]; exact hq
      rw [if_neg k2] at hq
      rw [if_neg (by rw [beq_iff_eq]; exact k2)]
      by_cases k3 : s.Kind = 3
      · rw [if_pos k3, decide_eq_true h6, Bool.and_true] at hq
        rw [if_pos (by rw [beq_iff_eq]; exact k3)]
        by_cases h3 : 3 ≤ s.Pts.length
        · rw [decide_eq_true h3, Bool.true_and] at hq
          rw [if_pos (by rw [decide_eq_true_eq]; omega), eqPt_is]
          exact ⟨by omega, fun _ => by unfold I64; omega, by omega, hq⟩
        · rw [decide_eq_false h3, Bool.false_and] at hq
          rw [if_neg (by rw [decide_eq_true_eq]; omega)]; exact hq
      · rw [if_neg k3] at hq
        rw [if_neg (by rw [beq_iff_eq]; exact k3)]; exact hq
    · rw [decide_eq_false h6, if_pos (by decide)]
      have : (if s.Kind = 1 then decide (s.Pts.length = 1) else if s.Kind = 2 then decide (2 ≤ s.Pts.length) && decide (s.Pts.length ≤ 6)
  else if s.Kind = 3 then decide (3 ≤ s.Pts.length) && decide (s.Pts.length ≤ 6) && !(decide (nth s.Pts 0 = nth s.Pts ((s.Pts.length : Int) - 1))) else false) = false := by
        rw [decide_eq_false h6, decide_eq_false (show ¬ s.Pts.length = 1 by omega)]
        simp
      rw [this] at hq; exact hq
end Go.Proofs.Ytndjggncgpjolaa

namespace Go.Proofs.Ytndjggncgpjolaa
open Go.RowKit
set_option linter.unusedVariables false
def spec_l2Tags.E (t_ : List Tag) (Q : Bool → Prop) : Prop :=
  (∃ (I18 : Int → Prop) (mu19 : Int → Nat), I18 0 ∧ ∀ (i2 : Int), I18 i2 → (if decide (i2 < (t_.length : Int)) then ((0 : Int) ≤ i2 ∧ i2 < (t_.length : Int)) ∧ (∃ q : Bool, spec_WordOk.E ((nth t_ i2).Key) (fun x => x = q) ∧ (if !q then Q false else ((0 : Int) ≤ i2 ∧ i2 < (t_.length : Int)) ∧ (∃ q2 : Bool, spec_WordOk.E ((nth t_ i2).Val) (fun x => x = q2) ∧ (if !q2 then Q false else (if decide (i2 > 0) then ((0 : Int) ≤ i2 ∧ i2 < (t_.length : Int)) ∧ ((t_.length : Int) ≤ 9223372036854775807 → I64 (i2 - 1)) ∧ ((0 : Int) ≤ i2 - 1 ∧ i2 - 1 < (t_.length : Int)) ∧ (if Op.bytesLess ((nth t_ i2).Key) ((nth t_ (i2 - 1)).Key) || ((nth t_ i2).Key) == ((nth t_ (i2 - 1)).Key) then Q false else (-9223372036854775808 ≤ i2) ∧ I18 (i2 + 1) ∧ mu19 (i2 + 1) < mu19 i2) else (-9223372036854775808 ≤ i2) ∧ I18 (i2 + 1) ∧ mu19 (i2 + 1) < mu19 i2))))) else Q (decide ((t_.length : Int) ≤ 4))))
set_option maxHeartbeats 8000000 in
set_option maxRecDepth 100000 in
theorem spec_l2Tags.calls {O : Ob} (w0 : World) (hO : Ok w0 O) (t_ : List Tag) (A1 : Option Addr) (n2 c3 : Nat) (hp4 : Sl kTag w0 (Fr O) (.slice A1 n2 c3) t_) (Q : Bool → Prop) (h : spec_l2Tags.E t_ Q) :
    Ret Try.prog 135 [.slice A1 n2 c3] w0 (fun v w' => ∃ (r0 : Bool), v = vb r0 ∧ Q r0 ∧ Gr w0 w' none) := by
  have H : (∃ (I18 : Int → Prop) (mu19 : Int → Nat), I18 0 ∧ ∀ (i2 : Int), I18 i2 → (if decide (i2 < (t_.length : Int)) then ((0 : Int) ≤ i2 ∧ i2 < (t_.length : Int)) ∧ (∃ q : Bool, spec_WordOk.E ((nth t_ i2).Key) (fun x => x = q) ∧ (if !q then Q false else ((0 : Int) ≤ i2 ∧ i2 < (t_.length : Int)) ∧ (∃ q2 : Bool, spec_WordOk.E ((nth t_ i2).Val) (fun x => x = q2) ∧ (if !q2 then Q false else (if decide (i2 > 0) then ((0 : Int) ≤ i2 ∧ i2 < (t_.length : Int)) ∧ ((t_.length : Int) ≤ 9223372036854775807 → I64 (i2 - 1)) ∧ ((0 : Int) ≤ i2 - 1 ∧ i2 - 1 < (t_.length : Int)) ∧ (if Op.bytesLess ((nth t_ i2).Key) ((nth t_ (i2 - 1)).Key) || ((nth t_ i2).Key) == ((nth t_ (i2 - 1)).Key) then Q false else (-9223372036854775808 ≤ i2) ∧ I18 (i2 + 1) ∧ mu19 (i2 + 1) < mu19 i2) else (-9223372036854775808 ≤ i2) ∧ I18 (i2 + 1) ∧ mu19 (i2 + 1) < mu19 i2))))) else Q (decide ((t_.length : Int) ≤ 4)))) := h
  clear h
  have hc0 := Ct.init hO
  refine Ret_enter Try.func135 rfl 47 rfl [.tmp 2] rfl rfl ?_
  refine W_seq ?_
  refine W_reg ?_
  refine L_pu (P_assign (vb false) rfl) ?_
  refine L_nil ?_
  refine W_seq ?_
  refine W_seq ?_
  refine W_reg ?_
  refine L_pu (P_assign (vi 0) rfl) ?_
  refine L_nil ?_
  refine W_block ?_
  obtain ⟨I18, mu19, hI20, H⟩ := H
  refine W_loop (α := Int) (fun (sv__ : Int) t w14 => match sv__ with | i2 => I18 i2 ∧ Has t [(0, .slice A1 n2 c3), (3, vi i2)] ∧ Ct [] w0 w14 [] O ∧ Sl kTag w14 (Fr ([] ++ O)) (.slice A1 n2 c3) t_) (fun (sv__ : Int) => match sv__ with | i2 => mu19 i2) 0 ⟨hI20, ⟨rfl, rfl, trivial⟩, hc0, hp4⟩ ?_
  rintro i2 _ w14 ⟨hI20, hh22, hc16, h17⟩
  obtain ⟨u23, rfl⟩ := Has.ins hh22
  have H := H i2 hI20
  refine W_seq ?_
  refine W_seq ?_
  refine W_reg ?_
  refine L_pu (P_move (vi i2) rfl) ?_
  refine L_pu (P_move (.slice A1 n2 c3) rfl) ?_
  have hl24 := h17.le
  refine L_pu (P_len Try.underlying69 A1 n2 c3 h17.len rfl) ?_
  refine L_pu (P_cmp i2 (t_.length : Int) (decide (i2 < (t_.length : Int))) rfl rfl rfl) ?_
  refine L_nil ?_
  refine W_cond (decide (i2 < (t_.length : Int))) rfl (fun hq25 => ?_) (fun hq25 => ?_)
  · have H := ite_t H hq25
    refine W_skip ?_
    refine W_seq ?_
    refine W_block ?_
    refine W_seq ?_
    refine W_draw (fun x => Gr w14 x none) (by kernel_rfl) (by kernel_rfl) (Gr.drew _) ?_
    refine Q_pu (P_move (.slice A1 n2 c3) rfl) ?_
    refine Q_pu (P_move (vi i2) rfl) ?_
    obtain ⟨hb26, H⟩ := H
    obtain ⟨ad27, cs28, hA29, hS32, hR30, hcl31⟩ := h17.get default (by decide) i2 hb26
    obtain ⟨rfl, hs33, hs34⟩ := kTag.op hR30
    refine Q_pu (P_ia Try.underlying69 se69 A1 ad27 n2 c3 h17.len i2 rfl hA29 rfl hb26) ?_
    refine Q_pu (P_fa fa133_0 (ad27.add (i2.toNat * 2)) ((ad27.add (i2.toNat * 2)).add 0) rfl rfl) ?_
    refine Q_pu (P_ld ag9 cQ ((ad27.add (i2.toNat * 2)).add 0) (vs ((nth t_ i2).Key)) rfl (hcl31 0 _ rfl)) ?_
    obtain ⟨q, hE40, H⟩ := H
    refine Q_call go52 [vs ((nth t_ i2).Key)] rfl (vb q) (fun w g => (spec_WordOk.calls w (hc16.k0 g).ok ((nth t_ i2).Key) hs33 _ hE40).mono ?_) ?_
    · rintro _ w ⟨r, rfl, rfl, g2⟩
      exact ⟨rfl, Gr.t0 g g2⟩
    refine Q_pu (P_not q rfl) ?_
    refine Q_pu (P_move (vb (!q)) rfl) ?_
    rcases bool_or (!q) with hq42 | hq42
    · have H := ite_t H hq42
      refine Q_pass (dj := 17) rfl rfl (.inl (by exact congrArg Value.bool hq42)) ?_
      refine Q_pass (dj := 17) rfl rfl (.inl (by exact congrArg Value.bool hq42)) ?_
      refine Q_pass (dj := 17) rfl rfl (.inl (by exact congrArg Value.bool hq42)) ?_
      refine Q_pass (dj := 17) rfl rfl (.inl (by exact congrArg Value.bool hq42)) ?_
      refine Q_pass (dj := 17) rfl rfl (.inl (by exact congrArg Value.bool hq42)) ?_
      refine Q_pass (dj := 17) rfl rfl (.inl (by exact congrArg Value.bool hq42)) ?_
      refine Q_pass (dj := 17) rfl rfl (.inl (by exact congrArg Value.bool hq42)) ?_
      refine Q_pu (P_pick true (vb true) (by exact congrArg Value.bool hq42) rfl) ?_
      refine Q_pu (P_move (vb true) rfl) ?_
      refine Q_pass (dj := 26) rfl rfl (.inl rfl) ?_
      refine Q_pass (dj := 26) rfl rfl (.inl rfl) ?_
      refine Q_pass (dj := 26) rfl rfl (.inl rfl) ?_
      refine Q_pass (dj := 29) rfl rfl (.inr rfl) ?_
      refine Q_pass (dj := 29) rfl rfl (.inr rfl) ?_
      refine Q_pass (dj := 29) rfl rfl (.inr rfl) ?_
      refine Q_pass (dj := 29) rfl rfl (.inr rfl) ?_
      refine Q_pass (dj := 29) rfl rfl (.inr rfl) ?_
      refine Q_pass (dj := 29) rfl rfl (.inr rfl) ?_
      refine Q_pass (dj := 29) rfl rfl (.inr rfl) ?_
      refine Q_pass (dj := 29) rfl rfl (.inr rfl) ?_
      refine Q_pass (dj := 29) rfl rfl (.inr rfl) ?_
      refine Q_pass (dj := 29) rfl rfl (.inr rfl) ?_
      refine Q_pass (dj := 29) rfl rfl (.inr rfl) ?_
      refine Q_pass (dj := 29) rfl rfl (.inr rfl) ?_
      refine Q_pass (dj := 26) rfl rfl (.inl rfl) ?_
      refine Q_pu (P_pick true (vb true) (by exact congrArg Value.bool rfl) rfl) ?_
      refine Q_nil fun w43 g44 => ?_
      have hc46 := hc16.k0 g44
      refine W_ct (b := true) rfl rfl ?_
      refine W_seq ?_
      refine W_reg ?_
      refine L_pu (P_assign (vb false) rfl) ?_
      refine L_nil ?_
      refine W_ret ?_
      exact ⟨[vb false], ⟨_, rfl, rfl⟩, false, rfl, H, hc46.gr.g0⟩
    · have H := ite_f H hq42
      refine Q_run (dj := 17) rfl rfl (by exact congrArg Value.bool hq42) ?_
      refine Q_pu (P_move (.slice A1 n2 c3) rfl) ?_
      refine Q_run (dj := 17) rfl rfl (by exact congrArg Value.bool hq42) ?_
      refine Q_pu (P_move (vi i2) rfl) ?_
      refine Q_run (dj := 17) rfl rfl (by exact congrArg Value.bool hq42) ?_
      obtain ⟨hb47, H⟩ := H
      obtain ⟨ad48, cs49, hA50, hS53, hR51, hcl52⟩ := h17.get default (by decide) i2 hb47
      obtain ⟨rfl, hs54, hs55⟩ := kTag.op hR51
      refine Q_pu (P_ia Try.underlying69 se69 A1 ad48 n2 c3 h17.len i2 rfl hA50 rfl hb47) ?_
      refine Q_run (dj := 17) rfl rfl (by exact congrArg Value.bool hq42) ?_
      refine Q_pu (P_fa fa133_1 (ad48.add (i2.toNat * 2)) ((ad48.add (i2.toNat * 2)).add 1) rfl rfl) ?_
      refine Q_run (dj := 17) rfl rfl (by exact congrArg Value.bool hq42) ?_
      refine Q_pu (P_ld ag9 cQ ((ad48.add (i2.toNat * 2)).add 1) (vs ((nth t_ i2).Val)) rfl (hcl52 1 _ rfl)) ?_
      refine Q_run (dj := 17) rfl rfl (by exact congrArg Value.bool hq42) ?_
      obtain ⟨q2, hE61, H⟩ := H
      refine Q_call go52 [vs ((nth t_ i2).Val)] rfl (vb q2) (fun w g => (spec_WordOk.calls w (hc16.k0 g).ok ((nth t_ i2).Val) hs55 _ hE61).mono ?_) ?_
      · rintro _ w ⟨r, rfl, rfl, g2⟩
        exact ⟨rfl, Gr.t0 g g2⟩
      refine Q_run (dj := 17) rfl rfl (by exact congrArg Value.bool hq42) ?_
      refine Q_pu (P_not q2 rfl) ?_
      refine Q_pu (P_pick false (vb (!q2)) (by exact congrArg Value.bool hq42) rfl) ?_
      refine Q_pu (P_move (vb (!q2)) rfl) ?_
      rcases bool_or (!q2) with hq63 | hq63
      · have H := ite_t H hq63
        refine Q_pass (dj := 26) rfl rfl (.inl (by exact congrArg Value.bool hq63)) ?_
        refine Q_pass (dj := 26) rfl rfl (.inl (by exact congrArg Value.bool hq63)) ?_
        refine Q_pass (dj := 26) rfl rfl (.inl (by exact congrArg Value.bool hq63)) ?_
        refine Q_pass (dj := 29) rfl rfl (.inr rfl) ?_
        refine Q_pass (dj := 29) rfl rfl (.inr rfl) ?_
        refine Q_pass (dj := 29) rfl rfl (.inr rfl) ?_
        refine Q_pass (dj := 29) rfl rfl (.inr rfl) ?_
        refine Q_pass (dj := 29) rfl rfl (.inr rfl) ?_
        refine Q_pass (dj := 29) rfl rfl (.inr rfl) ?_
        refine Q_pass (dj := 29) rfl rfl (.inr rfl) ?_
        refine Q_pass (dj := 29) rfl rfl (.inr rfl) ?_
        refine Q_pass (dj := 29) rfl rfl (.inr rfl) ?_
        refine Q_pass (dj := 29) rfl rfl (.inr rfl) ?_
        refine Q_pass (dj := 29) rfl rfl (.inr rfl) ?_
        refine Q_pass (dj := 29) rfl rfl (.inr rfl) ?_
        refine Q_pass (dj := 26) rfl rfl (.inl (by exact congrArg Value.bool hq63)) ?_
        refine Q_pu (P_pick true (vb true) (by exact congrArg Value.bool hq63) rfl) ?_
        refine Q_nil fun w64 g65 => ?_
        have hc67 := hc16.k0 g65
        refine W_ct (b := true) rfl rfl ?_
        refine W_seq ?_
        refine W_reg ?_
        refine L_pu (P_assign (vb false) rfl) ?_
        refine L_nil ?_
        refine W_ret ?_
        exact ⟨[vb false], ⟨_, rfl, rfl⟩, false, rfl, H, hc67.gr.g0⟩
      · have H := ite_f H hq63
        refine Q_run (dj := 26) rfl rfl (by exact congrArg Value.bool hq63) ?_
        refine Q_pu (P_move (vi i2) rfl) ?_
        refine Q_run (dj := 26) rfl rfl (by exact congrArg Value.bool hq63) ?_
        refine Q_pu (P_cmp i2 0 (decide (i2 > 0)) rfl rfl rfl) ?_
        refine Q_run (dj := 26) rfl rfl (by exact congrArg Value.bool hq63) ?_
        refine Q_pu (P_move (vb (decide (i2 > 0))) rfl) ?_
        rcases bool_or (decide (i2 > 0)) with hq68 | hq68
        · have H := ite_t H hq68
          refine Q_run (dj := 29) rfl rfl (by exact congrArg Value.bool hq68) ?_
          refine Q_pu (P_move (.slice A1 n2 c3) rfl) ?_
          refine Q_run (dj := 29) rfl rfl (by exact congrArg Value.bool hq68) ?_
          refine Q_pu (P_move (vi i2) rfl) ?_
          refine Q_run (dj := 29) rfl rfl (by exact congrArg Value.bool hq68) ?_
          obtain ⟨hb69, H⟩ := H
          obtain ⟨ad70, cs71, hA72, hS75, hR73, hcl74⟩ := h17.get default (by decide) i2 hb69
          obtain ⟨rfl, hs76, hs77⟩ := kTag.op hR73
          refine Q_pu (P_ia Try.underlying69 se69 A1 ad70 n2 c3 h17.len i2 rfl hA72 rfl hb69) ?_
          refine Q_run (dj := 29) rfl rfl (by exact congrArg Value.bool hq68) ?_
          refine Q_pu (P_fa fa133_0 (ad70.add (i2.toNat * 2)) ((ad70.add (i2.toNat * 2)).add 0) rfl rfl) ?_
          refine Q_run (dj := 29) rfl rfl (by exact congrArg Value.bool hq68) ?_
          refine Q_pu (P_ld ag9 cQ ((ad70.add (i2.toNat * 2)).add 0) (vs ((nth t_ i2).Key)) rfl (hcl74 0 _ rfl)) ?_
          refine Q_run (dj := 29) rfl rfl (by exact congrArg Value.bool hq68) ?_
          refine Q_pu (P_move (.slice A1 n2 c3) rfl) ?_
          refine Q_run (dj := 29) rfl rfl (by exact congrArg Value.bool hq68) ?_
          refine Q_pu (P_move (vi i2) rfl) ?_
          refine Q_run (dj := 29) rfl rfl (by exact congrArg Value.bool hq68) ?_
          obtain ⟨hb78, H⟩ := H
          have hi79 := hb78 (len_le hl24)
          refine Q_pu (P_sub i2 1 rfl rfl hi79) ?_
          refine Q_run (dj := 29) rfl rfl (by exact congrArg Value.bool hq68) ?_
          obtain ⟨hb80, H⟩ := H
          obtain ⟨ad81, cs82, hA83, hS86, hR84, hcl85⟩ := h17.get default (by decide) (i2 - 1) hb80
          obtain ⟨rfl, hs87, hs88⟩ := kTag.op hR84
          refine Q_pu (P_ia Try.underlying69 se69 A1 ad81 n2 c3 h17.len (i2 - 1) rfl hA83 rfl hb80) ?_
          refine Q_run (dj := 29) rfl rfl (by exact congrArg Value.bool hq68) ?_
          refine Q_pu (P_fa fa133_0 (ad81.add ((i2 - 1).toNat * 2)) ((ad81.add ((i2 - 1).toNat * 2)).add 0) rfl rfl) ?_
          refine Q_run (dj := 29) rfl rfl (by exact congrArg Value.bool hq68) ?_
          refine Q_pu (P_ld ag9 cQ ((ad81.add ((i2 - 1).toNat * 2)).add 0) (vs ((nth t_ (i2 - 1)).Key)) rfl (hcl85 0 _ rfl)) ?_
          refine Q_run (dj := 29) rfl rfl (by exact congrArg Value.bool hq68) ?_
          refine Q_pu (P_scmp ((nth t_ i2).Key) ((nth t_ (i2 - 1)).Key) (Op.bytesLess ((nth t_ i2).Key) ((nth t_ (i2 - 1)).Key) || ((nth t_ i2).Key) == ((nth t_ (i2 - 1)).Key)) rfl rfl rfl) ?_
          refine Q_run (dj := 26) rfl rfl (by exact congrArg Value.bool hq63) ?_
          refine Q_pu (P_pick true (vb (Op.bytesLess ((nth t_ i2).Key) ((nth t_ (i2 - 1)).Key) || ((nth t_ i2).Key) == ((nth t_ (i2 - 1)).Key))) (by exact congrArg Value.bool hq68) rfl) ?_
          refine Q_pu (P_pick false (vb (Op.bytesLess ((nth t_ i2).Key) ((nth t_ (i2 - 1)).Key) || ((nth t_ i2).Key) == ((nth t_ (i2 - 1)).Key))) (by exact congrArg Value.bool hq63) rfl) ?_
          refine Q_nil fun w89 g90 => ?_
          have hc92 := hc16.k0 g90
          refine W_cond (Op.bytesLess ((nth t_ i2).Key) ((nth t_ (i2 - 1)).Key) || ((nth t_ i2).Key) == ((nth t_ (i2 - 1)).Key)) rfl (fun hq93 => ?_) (fun hq93 => ?_)
          · have H := ite_t H hq93
            refine W_seq ?_
            refine W_reg ?_
            refine L_pu (P_assign (vb false) rfl) ?_
            refine L_nil ?_
            refine W_ret ?_
            exact ⟨[vb false], ⟨_, rfl, rfl⟩, false, rfl, H, hc92.gr.g0⟩
          · have H := ite_f H hq93
            refine W_skip ?_
            refine W_reg ?_
            refine L_pu (P_move (vi i2) rfl) ?_
            obtain ⟨hb95, H⟩ := H
            have hi94 : I64 (i2 + 1) := i64_succ (of_decide_eq_true hq25) hl24 hb95
            refine L_pu (P_add i2 1 rfl rfl hi94) ?_
            refine L_pu (P_assign (vi (i2 + 1)) rfl) ?_
            refine L_nil ?_
            obtain ⟨hI96, hm97⟩ := H
            exact ⟨i2 + 1, hm97, hI96, ⟨rfl, rfl, trivial⟩, hc92, (h17.st (.new _ g90))⟩
        · have H := ite_f H hq68
          refine Q_pass (dj := 29) rfl rfl (.inl (by exact congrArg Value.bool hq68)) ?_
          refine Q_pass (dj := 29) rfl rfl (.inl (by exact congrArg Value.bool hq68)) ?_
          refine Q_pass (dj := 29) rfl rfl (.inl (by exact congrArg Value.bool hq68)) ?_
          refine Q_pass (dj := 29) rfl rfl (.inl (by exact congrArg Value.bool hq68)) ?_
          refine Q_pass (dj := 29) rfl rfl (.inl (by exact congrArg Value.bool hq68)) ?_
          refine Q_pass (dj := 29) rfl rfl (.inl (by exact congrArg Value.bool hq68)) ?_
          refine Q_pass (dj := 29) rfl rfl (.inl (by exact congrArg Value.bool hq68)) ?_
          refine Q_pass (dj := 29) rfl rfl (.inl (by exact congrArg Value.bool hq68)) ?_
          refine Q_pass (dj := 29) rfl rfl (.inl (by exact congrArg Value.bool hq68)) ?_
          refine Q_pass (dj := 29) rfl rfl (.inl (by exact congrArg Value.bool hq68)) ?_
          refine Q_pass (dj := 29) rfl rfl (.inl (by exact congrArg Value.bool hq68)) ?_
          refine Q_pass (dj := 29) rfl rfl (.inl (by exact congrArg Value.bool hq68)) ?_
          refine Q_run (dj := 26) rfl rfl (by exact congrArg Value.bool hq63) ?_
          refine Q_pu (P_pick false (vb false) (by exact congrArg Value.bool hq68) rfl) ?_
          refine Q_pu (P_pick false (vb false) (by exact congrArg Value.bool hq63) rfl) ?_
          refine Q_nil fun w98 g99 => ?_
          have hc101 := hc16.k0 g99
          refine W_cf (b := false) rfl rfl ?_
          refine W_skip ?_
          refine W_reg ?_
          refine L_pu (P_move (vi i2) rfl) ?_
          obtain ⟨hb103, H⟩ := H
          have hi102 : I64 (i2 + 1) := i64_succ (of_decide_eq_true hq25) hl24 hb103
          refine L_pu (P_add i2 1 rfl rfl hi102) ?_
          refine L_pu (P_assign (vi (i2 + 1)) rfl) ?_
          refine L_nil ?_
          obtain ⟨hI104, hm105⟩ := H
          exact ⟨i2 + 1, hm105, hI104, ⟨rfl, rfl, trivial⟩, hc101, (h17.st (.new _ g99))⟩
  · have H := ite_f H hq25
    refine W_exit (xin_hit ?_)
    refine W_seq ?_
    refine W_reg ?_
    refine L_pu (P_move (.slice A1 n2 c3) rfl) ?_
    refine L_pu (P_len Try.underlying69 A1 n2 c3 h17.len rfl) ?_
    refine L_pu (P_cmp (t_.length : Int) 4 (decide ((t_.length : Int) ≤ 4)) rfl rfl rfl) ?_
    refine L_pu (P_assign (vb (decide ((t_.length : Int) ≤ 4))) rfl) ?_
    refine L_nil ?_
    refine W_ret ?_
    exact ⟨[vb (decide ((t_.length : Int) ≤ 4))], ⟨_, rfl, rfl⟩, decide ((t_.length : Int) ≤ 4), rfl, H, hc16.gr.g0⟩
end Go.Proofs.Ytndjggncgpjolaa

namespace Go.Proofs.Ytndjggncgpjolaa
set_option linter.unusedVariables false
set_option linter.unusedSimpArgs false
set_option linter.unusedSectionVars false
theorem spec_l2Tags.law (t : List Tag) (Q : Bool → Prop) (hq : Q (tagsOk t && decide (t.length ≤ 4))) : spec_l2Tags.E t Q := by
  unfold spec_l2Tags.E
  unfold tagsOk at hq
  refine loop_all t.length (fun k => wordOk (nth t (k : Int)).Key && wordOk (nth t (k : Int)).Val && (decide (k = 0) || Op.bytesLess (nth t ((k : Int) - 1)).Key (nth t (k : Int)).Key)) (fun I mu k hk hp hn => ?_) (fun ha => ?_)
  · have bad : (wordOk (nth t (k : Int)).Key && wordOk (nth t (k : Int)).Val && (decide (k = 0) || Op.bytesLess (nth t ((k : Int) - 1)).Key (nth t (k : Int)).Key)) = false → Q false := fun h => by
      rw [allN_false hk h, Bool.false_and] at hq; exact hq
    refine ⟨by omega, _, spec_WordOk.law _ _ rfl, ?_⟩
    cases h1 : wordOk (nth t (k : Int)).Key with
    | false => rw [if_pos (by decide)]; exact bad (by rw [h1]; rfl)
    | true =>
      rw [if_neg (by decide)]
      refine ⟨by omega, _, spec_WordOk.law _ _ rfl, ?_⟩
      cases h2 : wordOk (nth t (k : Int)).Val with
      | false => rw [if_pos (by decide)]; exact bad (by rw [h2, Bool.and_false]; rfl)
      | true =>
        rw [if_neg (by decide)]
        by_cases hk0 : k = 0
        · rw [if_neg (by rw [decide_eq_true_eq]; omega)]
          obtain ⟨i1, i2⟩ := hn (by rw [h1, h2, decide_eq_true hk0]; rfl)
          exact ⟨by omega, i1, i2⟩
        · rw [if_pos (by rw [decide_eq_true_eq]; omega)]
          refine ⟨by omega, fun _ => by unfold I64; omega, by omega, ?_⟩
          rw [← less_tri]
          cases h3 : Op.bytesLess (nth t ((k : Int) - 1)).Key (nth t (k : Int)).Key with
          | false => rw [if_pos (by decide)]; exact bad (by rw [h3, h1, h2, decide_eq_false hk0]; rfl)
          | true =>
            rw [if_neg (by decide)]
            obtain ⟨i1, i2⟩ := hn (by rw [h3, h1, h2, decide_eq_false hk0]; rfl)
            exact ⟨by omega, i1, i2⟩
  · rw [allN_true ha, Bool.true_and] at hq
    have e2 : decide ((t.length : Int) ≤ 4) = decide (t.length ≤ 4) := decide_eq_decide.2 (by omega)
    rw [e2]; exact hq
end Go.Proofs.Ytndjggncgpjolaa

namespace Go.Proofs.Ytndjggncgpjolaa
open Go.RowKit
set_option linter.unusedVariables false
def spec_FeatOk.E (f : Feat) (Q : Bool → Prop) : Prop :=
  spec_WordOk.E f.Id (fun r => (if r then spec_ShapeOk.E f.Shape (fun r2 => (if r2 then spec_l2Tags.E f.Tags (fun r3 => Q r3) else Q false)) else Q false))
set_option maxHeartbeats 8000000 in
set_option maxRecDepth 100000 in
theorem spec_FeatOk.calls {O : Ob} (w0 : World) (hO : Ok w0 O) (f : Feat) (A2 : Option Addr) (n3 c4 : Nat) (A7 : Option Addr) (n8 c9 : Nat) (hs1 : Lim f.Id) (hp5 : Sl kPt w0 (Fr O) (.slice A2 n3 c4) f.Shape.Pts) (hp10 : Sl kTag w0 (Fr O) (.slice A7 n8 c9) f.Tags) (Q : Bool → Prop) (h : spec_FeatOk.E f Q) :
    Ret Try.prog 89 [.agg #[vs f.Id, vi f.Shape.Kind, .slice A2 n3 c4, .slice A7 n8 c9]] w0 (fun v w' => ∃ (r0 : Bool), v = vb r0 ∧ Q r0 ∧ Gr w0 w' none) := by
  have H : spec_WordOk.E f.Id (fun r => (if r then spec_ShapeOk.E f.Shape (fun r2 => (if r2 then spec_l2Tags.E f.Tags (fun r3 => Q r3) else Q false)) else Q false)) := h
  clear h
  have hc0 := Ct.init hO
  refine Ret_enter Try.func89 rfl 16 rfl [.tmp 2] rfl rfl ?_
  refine W_seq ?_
  refine W_reg ?_
  refine L_box [vs f.Id, vi f.Shape.Kind, .slice A2 n3 c4, .slice A7 n8 c9] rfl fun w12 b13 hl15 hu16 g14 hx17 => ?_
  have h19 := Fb.mk hc0.ok hl15 hx17
  have hc20 := hc0.k0 g14
  refine L_pu (P_assign (vb false) rfl) ?_
  refine L_nil ?_
  refine W_seq ?_
  refine W_reg ?_
  refine L_pu (P_fa fa71_0 ⟨b13, 0, none⟩ ⟨b13, 0, none⟩ rfl rfl) ?_
  refine L_pu (P_ld ag9 cL ⟨b13, 0, none⟩ (vs f.Id) rfl (h19.cell rfl)) ?_
  refine L_call go52 [vs f.Id] rfl ((spec_WordOk.calls w12 hc20.ok f.Id hs1 _ H).mono ?_)
  rintro _ w21 ⟨r, rfl, H, g22⟩
  have hc26 := hc20.k0 g22
  refine L_pu (P_move (vb r) rfl) ?_
  rcases bool_or r with hq27 | hq27
  · have H := ite_t H hq27
    refine L_run (dj := 6) rfl rfl (by exact congrArg Value.bool hq27) ?_
    refine L_pu (P_fa fa71_1 ⟨b13, 0, none⟩ ⟨b13, 1, none⟩ rfl rfl) ?_
    refine L_run (dj := 6) rfl rfl (by exact congrArg Value.bool hq27) ?_
    have h28 := (h19.st (.new _ g22))
    refine L_pu (P_lda ag68 sz68 cL ⟨b13, 1, none⟩ [vi f.Shape.Kind, .slice A2 n3 c4] rfl rfl (h28.cells (off := 1) rfl)) ?_
    refine L_run (dj := 6) rfl rfl (by exact congrArg Value.bool hq27) ?_
    refine L_call go134 [.agg #[vi f.Shape.Kind, .slice A2 n3 c4]] rfl ((spec_ShapeOk.calls w21 hc26.ok f.Shape A2 n3 c4 (hp5.st hc26.st) _ H).mono ?_)
    rintro _ w29 ⟨r2, rfl, H, g30⟩
    have hc34 := hc26.k0 g30
    refine L_pu (P_pick true (vb r2) (by exact congrArg Value.bool hq27) rfl) ?_
    refine L_pu (P_move (vb r2) rfl) ?_
    rcases bool_or r2 with hq35 | hq35
    · have H := ite_t H hq35
      refine L_run (dj := 11) rfl rfl (by exact congrArg Value.bool hq35) ?_
      refine L_pu (P_fa fa71_2 ⟨b13, 0, none⟩ ⟨b13, 3, none⟩ rfl rfl) ?_
      refine L_run (dj := 11) rfl rfl (by exact congrArg Value.bool hq35) ?_
      have h36 := (h28.st (.new _ g30))
      refine L_pu (P_ld ag69 cL ⟨b13, 3, none⟩ (.slice A7 n8 c9) rfl (h36.cell rfl)) ?_
      refine L_run (dj := 11) rfl rfl (by exact congrArg Value.bool hq35) ?_
      refine L_call go135 [.slice A7 n8 c9] rfl ((spec_l2Tags.calls w29 hc34.ok f.Tags A7 n8 c9 (hp10.st hc34.st) _ H).mono ?_)
      rintro _ w37 ⟨r3, rfl, H, g38⟩
      have hc42 := hc34.k0 g38
      refine L_pu (P_pick true (vb r3) (by exact congrArg Value.bool hq35) rfl) ?_
      refine L_pu (P_assign (vb r3) rfl) ?_
      refine L_nil ?_
      refine W_ret ?_
      exact ⟨[vb r3], ⟨_, rfl, rfl⟩, r3, rfl, H, hc42.gr.g0⟩
    · have H := ite_f H hq35
      refine L_pass (dj := 11) rfl rfl (.inl (by exact congrArg Value.bool hq35)) ?_
      refine L_pass (dj := 11) rfl rfl (.inl (by exact congrArg Value.bool hq35)) ?_
      refine L_pass (dj := 11) rfl rfl (.inl (by exact congrArg Value.bool hq35)) ?_
      refine L_pu (P_pick false (vb false) (by exact congrArg Value.bool hq35) rfl) ?_
      refine L_pu (P_assign (vb false) rfl) ?_
      refine L_nil ?_
      refine W_ret ?_
      exact ⟨[vb false], ⟨_, rfl, rfl⟩, false, rfl, H, hc34.gr.g0⟩
  · have H := ite_f H hq27
    refine L_pass (dj := 6) rfl rfl (.inl (by exact congrArg Value.bool hq27)) ?_
    refine L_pass (dj := 6) rfl rfl (.inl (by exact congrArg Value.bool hq27)) ?_
    refine L_pass (dj := 6) rfl rfl (.inl (by exact congrArg Value.bool hq27)) ?_
    refine L_pu (P_pick false (vb false) (by exact congrArg Value.bool hq27) rfl) ?_
    refine L_pu (P_move (vb false) rfl) ?_
    refine L_pass (dj := 11) rfl rfl (.inl rfl) ?_
    refine L_pass (dj := 11) rfl rfl (.inl rfl) ?_
    refine L_pass (dj := 11) rfl rfl (.inl rfl) ?_
    refine L_pu (P_pick false (vb false) (by exact congrArg Value.bool rfl) rfl) ?_
    refine L_pu (P_assign (vb false) rfl) ?_
    refine L_nil ?_
    refine W_ret ?_
    exact ⟨[vb false], ⟨_, rfl, rfl⟩, false, rfl, H, hc26.gr.g0⟩
end Go.Proofs.Ytndjggncgpjolaa

namespace Go.Proofs.Ytndjggncgpjolaa
set_option linter.unusedVariables false
set_option linter.unusedSimpArgs false
set_option linter.unusedSectionVars false
theorem spec_FeatOk.law (f : Feat) (Q : Bool → Prop) (hq : Q (featOk f)) : spec_FeatOk.E f Q := by
  unfold spec_FeatOk.E
  unfold featOk at hq
  refine spec_WordOk.law _ _ ?_
  cases h1 : wordOk f.Id with
  | false => rw [h1, Bool.and_false, Bool.false_and] at hq; rw [if_neg (by decide)]; exact hq
  | true =>
    rw [h1, Bool.and_true] at hq
    rw [if_pos rfl]
    refine spec_ShapeOk.law _ _ ?_
    cases h2 : shapeOk f.Shape with
    | false => rw [h2, Bool.and_false] at hq; rw [if_neg (by decide)]; exact hq
    | true => rw [h2, Bool.and_true] at hq; rw [if_pos rfl]; exact spec_l2Tags.law _ _ hq
end Go.Proofs.Ytndjggncgpjolaa

namespace Go.Proofs.Ytndjggncgpjolaa
open Go.RowKit
set_option linter.unusedVariables false
def spec_l4One.E (c_ : Change) (Q : Bool → Prop) : Prop :=
  spec_WordOk.E c_.Id (fun r => (if !r then Q false else (if !c_.Had then (if !c_.Has then Q false else (if c_.Had then (if c_.Has then spec_FeatSame.E c_.Was c_.Now (fun r2 => (if r2 then Q false else spec_FeatSame.E c_.Was (⟨([] : Str), (⟨0, []⟩ : Shape), []⟩ : Feat) (fun r3 => (if !r3 then Q false else spec_FeatOk.E c_.Now (fun r4 => (if r4 then Q (c_.Now.Id == c_.Id) else Q false)))))) else spec_FeatSame.E c_.Was (⟨([] : Str), (⟨0, []⟩ : Shape), []⟩ : Feat) (fun r5 => (if !r5 then Q false else spec_FeatOk.E c_.Now (fun r6 => (if r6 then Q (c_.Now.Id == c_.Id) else Q false))))) else spec_FeatSame.E c_.Was (⟨([] : Str), (⟨0, []⟩ : Shape), []⟩ : Feat) (fun r7 => (if !r7 then Q false else spec_FeatOk.E c_.Now (fun r8 => (if r8 then Q (c_.Now.Id == c_.Id) else Q false)))))) else (if c_.Had then (if c_.Has then spec_FeatSame.E c_.Was c_.Now (fun r9 => (if r9 then Q false else (if !c_.Has then spec_FeatSame.E c_.Now (⟨([] : Str), (⟨0, []⟩ : Shape), []⟩ : Feat) (fun r10 => (if !r10 then Q false else spec_FeatOk.E c_.Was (fun r11 => (if r11 then (if c_.Was.Id == c_.Id then Q true else Q false) else Q false)))) else spec_FeatOk.E c_.Was (fun r12 => (if r12 then (if c_.Was.Id == c_.Id then spec_FeatOk.E c_.Now (fun r13 => (if r13 then Q (c_.Now.Id == c_.Id) else Q false)) else Q false) else Q false))))) else (if !c_.Has then spec_FeatSame.E c_.Now (⟨([] : Str), (⟨0, []⟩ : Shape), []⟩ : Feat) (fun r14 => (if !r14 then Q false else spec_FeatOk.E c_.Was (fun r15 => (if r15 then (if c_.Was.Id == c_.Id then Q true else Q false) else Q false)))) else spec_FeatOk.E c_.Was (fun r16 => (if r16 then (if c_.Was.Id == c_.Id then spec_FeatOk.E c_.Now (fun r17 => (if r17 then Q (c_.Now.Id == c_.Id) else Q false)) else Q false) else Q false)))) else (if !c_.Has then spec_FeatSame.E c_.Now (⟨([] : Str), (⟨0, []⟩ : Shape), []⟩ : Feat) (fun r18 => (if !r18 then Q false else spec_FeatOk.E c_.Was (fun r19 => (if r19 then (if c_.Was.Id == c_.Id then Q true else Q false) else Q false)))) else spec_FeatOk.E c_.Was (fun r20 => (if r20 then (if c_.Was.Id == c_.Id then spec_FeatOk.E c_.Now (fun r21 => (if r21 then Q (c_.Now.Id == c_.Id) else Q false)) else Q false) else Q false)))))))
set_option maxHeartbeats 8000000 in
set_option maxRecDepth 100000 in
theorem spec_l4One.calls {O : Ob} (w0 : World) (hO : Ok w0 O) (c_ : Change) (A3 : Option Addr) (n4 c5 : Nat) (A8 : Option Addr) (n9 c10 : Nat) (A14 : Option Addr) (n15 c16 : Nat) (A19 : Option Addr) (n20 c21 : Nat) (hs1 : Lim c_.Id) (hs2 : Lim c_.Was.Id) (hp6 : Sl kPt w0 (Fr O) (.slice A3 n4 c5) c_.Was.Shape.Pts) (hp11 : Sl kTag w0 (Fr O) (.slice A8 n9 c10) c_.Was.Tags) (hs13 : Lim c_.Now.Id) (hp17 : Sl kPt w0 (Fr O) (.slice A14 n15 c16) c_.Now.Shape.Pts) (hp22 : Sl kTag w0 (Fr O) (.slice A19 n20 c21) c_.Now.Tags) (Q : Bool → Prop) (h : spec_l4One.E c_ Q) :
    Ret Try.prog 118 [.agg #[vs c_.Id, vb c_.Had, vs c_.Was.Id, vi c_.Was.Shape.Kind, .slice A3 n4 c5, .slice A8 n9 c10, vb c_.Has, vs c_.Now.Id, vi c_.Now.Shape.Kind, .slice A14 n15 c16, .slice A19 n20 c21]] w0 (fun v w' => ∃ (r0 : Bool), v = vb r0 ∧ Q r0 ∧ Gr w0 w' none) := by
  have H : spec_WordOk.E c_.Id (fun r => (if !r then Q false else (if !c_.Had then (if !c_.Has then Q false else (if c_.Had then (if c_.Has then spec_FeatSame.E c_.Was c_.Now (fun r2 => (if r2 then Q false else spec_FeatSame.E c_.Was (⟨([] : Str), (⟨0, []⟩ : Shape), []⟩ : Feat) (fun r3 => (if !r3 then Q false else spec_FeatOk.E c_.Now (fun r4 => (if r4 then Q (c_.Now.Id == c_.Id) else Q false)))))) else spec_FeatSame.E c_.Was (⟨([] : Str), (⟨0, []⟩ : Shape), []⟩ : Feat) (fun r5 => (if !r5 then Q false else spec_FeatOk.E c_.Now (fun r6 => (if r6 then Q (c_.Now.Id == c_.Id) else Q false))))) else spec_FeatSame.E c_.Was (⟨([] : Str), (⟨0, []⟩ : Shape), []⟩ : Feat) (fun r7 => (if !r7 then Q false else spec_FeatOk.E c_.Now (fun r8 => (if r8 then Q (c_.Now.Id == c_.Id) else Q false)))))) else (if c_.Had then (if c_.Has then spec_FeatSame.E c_.Was c_.Now (fun r9 => (if r9 then Q false else (if !c_.Has then spec_FeatSame.E c_.Now (⟨([] : Str), (⟨0, []⟩ : Shape), []⟩ : Feat) (fun r10 => (if !r10 then Q false else spec_FeatOk.E c_.Was (fun r11 => (if r11 then (if c_.Was.Id == c_.Id then Q true else Q false) else Q false)))) else spec_FeatOk.E c_.Was (fun r12 => (if r12 then (if c_.Was.Id == c_.Id then spec_FeatOk.E c_.Now (fun r13 => (if r13 then Q (c_.Now.Id == c_.Id) else Q false)) else Q false) else Q false))))) else (if !c_.Has then spec_FeatSame.E c_.Now (⟨([] : Str), (⟨0, []⟩ : Shape), []⟩ : Feat) (fun r14 => (if !r14 then Q false else spec_FeatOk.E c_.Was (fun r15 => (if r15 then (if c_.Was.Id == c_.Id then Q true else Q false) else Q false)))) else spec_FeatOk.E c_.Was (fun r16 => (if r16 then (if c_.Was.Id == c_.Id then spec_FeatOk.E c_.Now (fun r17 => (if r17 then Q (c_.Now.Id == c_.Id) else Q false)) else Q false) else Q false)))) else (if !c_.Has then spec_FeatSame.E c_.Now (⟨([] : Str), (⟨0, []⟩ : Shape), []⟩ : Feat) (fun r18 => (if !r18 then Q false else spec_FeatOk.E c_.Was (fun r19 => (if r19 then (if c_.Was.Id == c_.Id then Q true else Q false) else Q false)))) else spec_FeatOk.E c_.Was (fun r20 => (if r20 then (if c_.Was.Id == c_.Id then spec_FeatOk.E c_.Now (fun r21 => (if r21 then Q (c_.Now.Id == c_.Id) else Q false)) else Q false) else Q false))))))) := h
  clear h
  have hc0 := Ct.init hO
  refine Ret_enter Try.func118 rfl 88 rfl [.tmp 2] rfl rfl ?_
  refine W_seq ?_
  refine W_reg ?_
  refine L_box [vs c_.Id, vb c_.Had, vs c_.Was.Id, vi c_.Was.Shape.Kind, .slice A3 n4 c5, .slice A8 n9 c10, vb c_.Has, vs c_.Now.Id, vi c_.Now.Shape.Kind, .slice A14 n15 c16, .slice A19 n20 c21] rfl fun w24 b25 hl27 hu28 g26 hx29 => ?_
  have h31 := Fb.mk hc0.ok hl27 hx29
  have hc32 := hc0.k0 g26
  refine L_pu (P_assign (vb false) rfl) ?_
  refine L_nil ?_
  refine W_seq ?_
  refine W_seq ?_
  refine W_reg ?_
  refine L_pu (P_fa fa103_0 ⟨b25, 0, none⟩ ⟨b25, 0, none⟩ rfl rfl) ?_
  refine L_pu (P_ld ag9 cL ⟨b25, 0, none⟩ (vs c_.Id) rfl (h31.cell rfl)) ?_
  refine L_call go52 [vs c_.Id] rfl ((spec_WordOk.calls w24 hc32.ok c_.Id hs1 _ H).mono ?_)
  rintro _ w33 ⟨r, rfl, H, g34⟩
  have hc38 := hc32.k0 g34
  refine L_pu (P_not r rfl) ?_
  refine L_pu (P_move (vb (!r)) rfl) ?_
  rcases bool_or (!r) with hq39 | hq39
  · have H := ite_t H hq39
    refine L_pass (dj := 7) rfl rfl (.inl (by exact congrArg Value.bool hq39)) ?_
    refine L_pass (dj := 7) rfl rfl (.inl (by exact congrArg Value.bool hq39)) ?_
    refine L_pass (dj := 7) rfl rfl (.inl (by exact congrArg Value.bool hq39)) ?_
    refine L_pass (dj := 7) rfl rfl (.inl (by exact congrArg Value.bool hq39)) ?_
    refine L_pass (dj := 11) rfl rfl (.inr rfl) ?_
    refine L_pass (dj := 11) rfl rfl (.inr rfl) ?_
    refine L_pass (dj := 11) rfl rfl (.inr rfl) ?_
    refine L_pass (dj := 7) rfl rfl (.inl (by exact congrArg Value.bool hq39)) ?_
    refine L_pu (P_pick true (vb true) (by exact congrArg Value.bool hq39) rfl) ?_
    refine L_pu (P_move (vb true) rfl) ?_
    refine L_pass (dj := 17) rfl rfl (.inl rfl) ?_
    refine L_pass (dj := 17) rfl rfl (.inl rfl) ?_
    refine L_pass (dj := 17) rfl rfl (.inl rfl) ?_
    refine L_pass (dj := 20) rfl rfl (.inr rfl) ?_
    refine L_pass (dj := 20) rfl rfl (.inr rfl) ?_
    refine L_pass (dj := 17) rfl rfl (.inl rfl) ?_
    refine L_pass (dj := 17) rfl rfl (.inl rfl) ?_
    refine L_pass (dj := 24) rfl rfl (.inr rfl) ?_
    refine L_pass (dj := 24) rfl rfl (.inr rfl) ?_
    refine L_pass (dj := 24) rfl rfl (.inr rfl) ?_
    refine L_pass (dj := 24) rfl rfl (.inr rfl) ?_
    refine L_pass (dj := 24) rfl rfl (.inr rfl) ?_
    refine L_pass (dj := 17) rfl rfl (.inl rfl) ?_
    refine L_pu (P_pick true (vb true) (by exact congrArg Value.bool rfl) rfl) ?_
    refine L_nil ?_
    refine W_ct (b := true) rfl rfl ?_
    refine W_seq ?_
    refine W_reg ?_
    refine L_pu (P_assign (vb false) rfl) ?_
    refine L_nil ?_
    refine W_ret ?_
    exact ⟨[vb false], ⟨_, rfl, rfl⟩, false, rfl, H, hc38.gr.g0⟩
  · have H := ite_f H hq39
    refine L_run (dj := 7) rfl rfl (by exact congrArg Value.bool hq39) ?_
    refine L_pu (P_fa fa103_1 ⟨b25, 0, none⟩ ⟨b25, 1, none⟩ rfl rfl) ?_
    refine L_run (dj := 7) rfl rfl (by exact congrArg Value.bool hq39) ?_
    have h40 := (h31.st (.new _ g34))
    refine L_pu (P_ld ag4 cL ⟨b25, 1, none⟩ (vb c_.Had) rfl (h40.cell rfl)) ?_
    refine L_run (dj := 7) rfl rfl (by exact congrArg Value.bool hq39) ?_
    refine L_pu (P_not c_.Had rfl) ?_
    refine L_run (dj := 7) rfl rfl (by exact congrArg Value.bool hq39) ?_
    refine L_pu (P_move (vb (!c_.Had)) rfl) ?_
    rcases bool_or (!c_.Had) with hq41 | hq41
    · have H := ite_t H hq41
      refine L_run (dj := 11) rfl rfl (by exact congrArg Value.bool hq41) ?_
      refine L_pu (P_fa fa103_3 ⟨b25, 0, none⟩ ⟨b25, 6, none⟩ rfl rfl) ?_
      refine L_run (dj := 11) rfl rfl (by exact congrArg Value.bool hq41) ?_
      refine L_pu (P_ld ag4 cL ⟨b25, 6, none⟩ (vb c_.Has) rfl (h40.cell rfl)) ?_
      refine L_run (dj := 11) rfl rfl (by exact congrArg Value.bool hq41) ?_
      refine L_pu (P_not c_.Has rfl) ?_
      refine L_run (dj := 7) rfl rfl (by exact congrArg Value.bool hq39) ?_
      refine L_pu (P_pick true (vb (!c_.Has)) (by exact congrArg Value.bool hq41) rfl) ?_
      refine L_pu (P_pick false (vb (!c_.Has)) (by exact congrArg Value.bool hq39) rfl) ?_
      refine L_pu (P_move (vb (!c_.Has)) rfl) ?_
      rcases bool_or (!c_.Has) with hq42 | hq42
      · have H := ite_t H hq42
        refine L_pass (dj := 17) rfl rfl (.inl (by exact congrArg Value.bool hq42)) ?_
        refine L_pass (dj := 17) rfl rfl (.inl (by exact congrArg Value.bool hq42)) ?_
        refine L_pass (dj := 17) rfl rfl (.inl (by exact congrArg Value.bool hq42)) ?_
        refine L_pass (dj := 20) rfl rfl (.inr rfl) ?_
        refine L_pass (dj := 20) rfl rfl (.inr rfl) ?_
        refine L_pass (dj := 17) rfl rfl (.inl (by exact congrArg Value.bool hq42)) ?_
        refine L_pass (dj := 17) rfl rfl (.inl (by exact congrArg Value.bool hq42)) ?_
        refine L_pass (dj := 24) rfl rfl (.inr rfl) ?_
        refine L_pass (dj := 24) rfl rfl (.inr rfl) ?_
        refine L_pass (dj := 24) rfl rfl (.inr rfl) ?_
        refine L_pass (dj := 24) rfl rfl (.inr rfl) ?_
        refine L_pass (dj := 24) rfl rfl (.inr rfl) ?_
        refine L_pass (dj := 17) rfl rfl (.inl (by exact congrArg Value.bool hq42)) ?_
        refine L_pu (P_pick true (vb true) (by exact congrArg Value.bool hq42) rfl) ?_
        refine L_nil ?_
        refine W_ct (b := true) rfl rfl ?_
        refine W_seq ?_
        refine W_reg ?_
        refine L_pu (P_assign (vb false) rfl) ?_
        refine L_nil ?_
        refine W_ret ?_
        exact ⟨[vb false], ⟨_, rfl, rfl⟩, false, rfl, H, hc38.gr.g0⟩
      · have H := ite_f H hq42
        refine L_run (dj := 17) rfl rfl (by exact congrArg Value.bool hq42) ?_
        refine L_pu (P_fa fa103_1 ⟨b25, 0, none⟩ ⟨b25, 1, none⟩ rfl rfl) ?_
        refine L_run (dj := 17) rfl rfl (by exact congrArg Value.bool hq42) ?_
        refine L_pu (P_ld ag4 cL ⟨b25, 1, none⟩ (vb c_.Had) rfl (h40.cell rfl)) ?_
        refine L_run (dj := 17) rfl rfl (by exact congrArg Value.bool hq42) ?_
        refine L_pu (P_move (vb c_.Had) rfl) ?_
        rcases bool_or c_.Had with hq43 | hq43
        · have H := ite_t H hq43
          refine L_run (dj := 20) rfl rfl (by exact congrArg Value.bool hq43) ?_
          refine L_pu (P_fa fa103_3 ⟨b25, 0, none⟩ ⟨b25, 6, none⟩ rfl rfl) ?_
          refine L_run (dj := 20) rfl rfl (by exact congrArg Value.bool hq43) ?_
          refine L_pu (P_ld ag4 cL ⟨b25, 6, none⟩ (vb c_.Has) rfl (h40.cell rfl)) ?_
          refine L_run (dj := 17) rfl rfl (by exact congrArg Value.bool hq42) ?_
          refine L_pu (P_pick true (vb c_.Has) (by exact congrArg Value.bool hq43) rfl) ?_
          refine L_run (dj := 17) rfl rfl (by exact congrArg Value.bool hq42) ?_
          refine L_pu (P_move (vb c_.Has) rfl) ?_
          rcases bool_or c_.Has with hq44 | hq44
          · have H := ite_t H hq44
            refine L_run (dj := 24) rfl rfl (by exact congrArg Value.bool hq44) ?_
            refine L_pu (P_fa fa103_2 ⟨b25, 0, none⟩ ⟨b25, 2, none⟩ rfl rfl) ?_
            refine L_run (dj := 24) rfl rfl (by exact congrArg Value.bool hq44) ?_
            refine L_pu (P_lda ag71 sz71 cL ⟨b25, 2, none⟩ [vs c_.Was.Id, vi c_.Was.Shape.Kind, .slice A3 n4 c5, .slice A8 n9 c10] rfl rfl (h40.cells (off := 2) rfl)) ?_
            refine L_run (dj := 24) rfl rfl (by exact congrArg Value.bool hq44) ?_
            refine L_pu (P_fa fa103_4 ⟨b25, 0, none⟩ ⟨b25, 7, none⟩ rfl rfl) ?_
            refine L_run (dj := 24) rfl rfl (by exact congrArg Value.bool hq44) ?_
            refine L_pu (P_lda ag71 sz71 cL ⟨b25, 7, none⟩ [vs c_.Now.Id, vi c_.Now.Shape.Kind, .slice A14 n15 c16, .slice A19 n20 c21] rfl rfl (h40.cells (off := 7) rfl)) ?_
            refine L_run (dj := 24) rfl rfl (by exact congrArg Value.bool hq44) ?_
            refine L_call go79 [.agg #[vs c_.Was.Id, vi c_.Was.Shape.Kind, .slice A3 n4 c5, .slice A8 n9 c10], .agg #[vs c_.Now.Id, vi c_.Now.Shape.Kind, .slice A14 n15 c16, .slice A19 n20 c21]] rfl ((spec_FeatSame.calls w33 hc38.ok c_.Was A3 n4 c5 A8 n9 c10 hs2 (hp6.st hc38.st) (hp11.st hc38.st) c_.Now A14 n15 c16 A19 n20 c21 hs13 (hp17.st hc38.st) (hp22.st hc38.st) _ H).mono ?_)
            rintro _ w45 ⟨r2, rfl, H, g46⟩
            have hc50 := hc38.k0 g46
            refine L_run (dj := 17) rfl rfl (by exact congrArg Value.bool hq42) ?_
            refine L_pu (P_pick true (vb r2) (by exact congrArg Value.bool hq44) rfl) ?_
            refine L_pu (P_pick false (vb r2) (by exact congrArg Value.bool hq42) rfl) ?_
            refine L_nil ?_
            refine W_cond r2 rfl (fun hq51 => ?_) (fun hq51 => ?_)
            · have H := ite_t H hq51
              refine W_seq ?_
              refine W_reg ?_
              refine L_pu (P_assign (vb false) rfl) ?_
              refine L_nil ?_
              refine W_ret ?_
              exact ⟨[vb false], ⟨_, rfl, rfl⟩, false, rfl, H, hc50.gr.g0⟩
            · have H := ite_f H hq51
              refine W_skip ?_
              refine W_seq ?_
              refine W_seq ?_
              refine W_reg ?_
              refine L_pu (P_fa fa103_1 ⟨b25, 0, none⟩ ⟨b25, 1, none⟩ rfl rfl) ?_
              have h52 := (h40.st (.new _ g46))
              refine L_pu (P_ld ag4 cL ⟨b25, 1, none⟩ (vb c_.Had) rfl (h52.cell rfl)) ?_
              refine L_pu (P_not c_.Had rfl) ?_
              refine L_pu (P_move (vb (!c_.Had)) rfl) ?_
              refine L_run (dj := 35) rfl rfl (by exact congrArg Value.bool hq41) ?_
              refine L_pu (P_fa fa103_2 ⟨b25, 0, none⟩ ⟨b25, 2, none⟩ rfl rfl) ?_
              refine L_run (dj := 35) rfl rfl (by exact congrArg Value.bool hq41) ?_
              refine L_pu (P_lda ag71 sz71 cL ⟨b25, 2, none⟩ [vs c_.Was.Id, vi c_.Was.Shape.Kind, .slice A3 n4 c5, .slice A8 n9 c10] rfl rfl (h52.cells (off := 2) rfl)) ?_
              refine L_run (dj := 35) rfl rfl (by exact congrArg Value.bool hq41) ?_
              refine L_pu (P_build (.agg #[vs ([] : Str), vi 0, .slice none 0 0, .slice none 0 0]) (fun _ => by kernel_rfl)) ?_
              refine L_run (dj := 35) rfl rfl (by exact congrArg Value.bool hq41) ?_
              refine L_call go79 [.agg #[vs c_.Was.Id, vi c_.Was.Shape.Kind, .slice A3 n4 c5, .slice A8 n9 c10], .agg #[vs ([] : Str), vi 0, .slice none 0 0, .slice none 0 0]] rfl ((spec_FeatSame.calls w45 hc50.ok c_.Was A3 n4 c5 A8 n9 c10 hs2 (hp6.st hc50.st) (hp11.st hc50.st) (⟨([] : Str), (⟨0, []⟩ : Shape), []⟩ : Feat) none 0 0 none 0 0 (by decide) (Sl.nil _ _ _ none 0 (by decide)) (Sl.nil _ _ _ none 0 (by decide)) _ H).mono ?_)
              rintro _ w53 ⟨r3, rfl, H, g54⟩
              have hc58 := hc50.k0 g54
              refine L_run (dj := 35) rfl rfl (by exact congrArg Value.bool hq41) ?_
              refine L_pu (P_not r3 rfl) ?_
              refine L_pu (P_pick true (vb (!r3)) (by exact congrArg Value.bool hq41) rfl) ?_
              refine L_pu (P_move (vb (!r3)) rfl) ?_
              rcases bool_or (!r3) with hq59 | hq59
              · have H := ite_t H hq59
                refine L_pass (dj := 42) rfl rfl (.inl (by exact congrArg Value.bool hq59)) ?_
                refine L_pass (dj := 42) rfl rfl (.inl (by exact congrArg Value.bool hq59)) ?_
                refine L_pass (dj := 42) rfl rfl (.inl (by exact congrArg Value.bool hq59)) ?_
                refine L_pass (dj := 42) rfl rfl (.inl (by exact congrArg Value.bool hq59)) ?_
                refine L_pass (dj := 46) rfl rfl (.inr rfl) ?_
                refine L_pass (dj := 46) rfl rfl (.inr rfl) ?_
                refine L_pass (dj := 46) rfl rfl (.inr rfl) ?_
                refine L_pass (dj := 46) rfl rfl (.inr rfl) ?_
                refine L_pass (dj := 46) rfl rfl (.inr rfl) ?_
                refine L_pass (dj := 42) rfl rfl (.inl (by exact congrArg Value.bool hq59)) ?_
                refine L_pu (P_pick true (vb true) (by exact congrArg Value.bool hq59) rfl) ?_
                refine L_nil ?_
                refine W_ct (b := true) rfl rfl ?_
                refine W_seq ?_
                refine W_reg ?_
                refine L_pu (P_assign (vb false) rfl) ?_
                refine L_nil ?_
                refine W_ret ?_
                exact ⟨[vb false], ⟨_, rfl, rfl⟩, false, rfl, H, hc58.gr.g0⟩
              · have H := ite_f H hq59
                refine L_run (dj := 42) rfl rfl (by exact congrArg Value.bool hq59) ?_
                refine L_pu (P_fa fa103_3 ⟨b25, 0, none⟩ ⟨b25, 6, none⟩ rfl rfl) ?_
                refine L_run (dj := 42) rfl rfl (by exact congrArg Value.bool hq59) ?_
                have h60 := (h52.st (.new _ g54))
                refine L_pu (P_ld ag4 cL ⟨b25, 6, none⟩ (vb c_.Has) rfl (h60.cell rfl)) ?_
                refine L_run (dj := 42) rfl rfl (by exact congrArg Value.bool hq59) ?_
                refine L_pu (P_not c_.Has rfl) ?_
                refine L_run (dj := 42) rfl rfl (by exact congrArg Value.bool hq59) ?_
                refine L_pu (P_move (vb (!c_.Has)) rfl) ?_
                refine L_pass (dj := 46) rfl rfl (.inl (by exact congrArg Value.bool hq42)) ?_
                refine L_pass (dj := 46) rfl rfl (.inl (by exact congrArg Value.bool hq42)) ?_
                refine L_pass (dj := 46) rfl rfl (.inl (by exact congrArg Value.bool hq42)) ?_
                refine L_pass (dj := 46) rfl rfl (.inl (by exact congrArg Value.bool hq42)) ?_
                refine L_pass (dj := 46) rfl rfl (.inl (by exact congrArg Value.bool hq42)) ?_
                refine L_run (dj := 42) rfl rfl (by exact congrArg Value.bool hq59) ?_
                refine L_pu (P_pick false (vb false) (by exact congrArg Value.bool hq42) rfl) ?_
                refine L_pu (P_pick false (vb false) (by exact congrArg Value.bool hq59) rfl) ?_
                refine L_nil ?_
                refine W_cf (b := false) rfl rfl ?_
                refine W_skip ?_
                refine W_seq ?_
                refine W_reg ?_
                refine L_pu (P_fa fa103_1 ⟨b25, 0, none⟩ ⟨b25, 1, none⟩ rfl rfl) ?_
                refine L_pu (P_ld ag4 cL ⟨b25, 1, none⟩ (vb c_.Had) rfl (h60.cell rfl)) ?_
                refine L_pu (P_not c_.Had rfl) ?_
                refine L_pu (P_move (vb (!c_.Had)) rfl) ?_
                refine L_pass (dj := 57) rfl rfl (.inl (by exact congrArg Value.bool hq41)) ?_
                refine L_pass (dj := 57) rfl rfl (.inl (by exact congrArg Value.bool hq41)) ?_
                refine L_pass (dj := 57) rfl rfl (.inl (by exact congrArg Value.bool hq41)) ?_
                refine L_pass (dj := 57) rfl rfl (.inl (by exact congrArg Value.bool hq41)) ?_
                refine L_pass (dj := 61) rfl rfl (.inr rfl) ?_
                refine L_pass (dj := 61) rfl rfl (.inr rfl) ?_
                refine L_pass (dj := 61) rfl rfl (.inr rfl) ?_
                refine L_pass (dj := 61) rfl rfl (.inr rfl) ?_
                refine L_pass (dj := 61) rfl rfl (.inr rfl) ?_
                refine L_pass (dj := 61) rfl rfl (.inr rfl) ?_
                refine L_pass (dj := 57) rfl rfl (.inl (by exact congrArg Value.bool hq41)) ?_
                refine L_pu (P_pick true (vb true) (by exact congrArg Value.bool hq41) rfl) ?_
                refine L_pu (P_move (vb true) rfl) ?_
                refine L_run (dj := 70) rfl rfl rfl ?_
                refine L_pu (P_fa fa103_3 ⟨b25, 0, none⟩ ⟨b25, 6, none⟩ rfl rfl) ?_
                refine L_run (dj := 70) rfl rfl rfl ?_
                refine L_pu (P_ld ag4 cL ⟨b25, 6, none⟩ (vb c_.Has) rfl (h60.cell rfl)) ?_
                refine L_run (dj := 70) rfl rfl rfl ?_
                refine L_pu (P_not c_.Has rfl) ?_
                refine L_run (dj := 70) rfl rfl rfl ?_
                refine L_pu (P_move (vb (!c_.Has)) rfl) ?_
                refine L_run (dj := 74) rfl rfl (by exact congrArg Value.bool hq42) ?_
                refine L_pu (P_fa fa103_4 ⟨b25, 0, none⟩ ⟨b25, 7, none⟩ rfl rfl) ?_
                refine L_run (dj := 74) rfl rfl (by exact congrArg Value.bool hq42) ?_
                refine L_pu (P_lda ag71 sz71 cL ⟨b25, 7, none⟩ [vs c_.Now.Id, vi c_.Now.Shape.Kind, .slice A14 n15 c16, .slice A19 n20 c21] rfl rfl (h60.cells (off := 7) rfl)) ?_
                refine L_run (dj := 74) rfl rfl (by exact congrArg Value.bool hq42) ?_
                refine L_call go89 [.agg #[vs c_.Now.Id, vi c_.Now.Shape.Kind, .slice A14 n15 c16, .slice A19 n20 c21]] rfl ((spec_FeatOk.calls w53 hc58.ok c_.Now A14 n15 c16 A19 n20 c21 hs13 (hp17.st hc58.st) (hp22.st hc58.st) _ H).mono ?_)
                rintro _ w61 ⟨r4, rfl, H, g62⟩
                have hc66 := hc58.k0 g62
                refine L_run (dj := 74) rfl rfl (by exact congrArg Value.bool hq42) ?_
                refine L_pu (P_move (vb r4) rfl) ?_
                rcases bool_or r4 with hq67 | hq67
                · have H := ite_t H hq67
                  refine L_run (dj := 78) rfl rfl (by exact congrArg Value.bool hq67) ?_
                  refine L_pu (P_fa fa103_4 ⟨b25, 0, none⟩ ⟨b25, 7, none⟩ rfl rfl) ?_
                  refine L_run (dj := 78) rfl rfl (by exact congrArg Value.bool hq67) ?_
                  refine L_pu (P_fa fa71_0 ⟨b25, 7, none⟩ ⟨b25, 7, none⟩ rfl rfl) ?_
                  refine L_run (dj := 78) rfl rfl (by exact congrArg Value.bool hq67) ?_
                  have h68 := (h60.st (.new _ g62))
                  refine L_pu (P_ld ag9 cL ⟨b25, 7, none⟩ (vs c_.Now.Id) rfl (h68.cell rfl)) ?_
                  refine L_run (dj := 78) rfl rfl (by exact congrArg Value.bool hq67) ?_
                  refine L_pu (P_fa fa103_0 ⟨b25, 0, none⟩ ⟨b25, 0, none⟩ rfl rfl) ?_
                  refine L_run (dj := 78) rfl rfl (by exact congrArg Value.bool hq67) ?_
                  refine L_pu (P_ld ag9 cL ⟨b25, 0, none⟩ (vs c_.Id) rfl (h68.cell rfl)) ?_
                  refine L_run (dj := 78) rfl rfl (by exact congrArg Value.bool hq67) ?_
                  refine L_pu (P_scmp c_.Now.Id c_.Id (c_.Now.Id == c_.Id) rfl rfl rfl) ?_
                  refine L_run (dj := 74) rfl rfl (by exact congrArg Value.bool hq42) ?_
                  refine L_pu (P_pick true (vb (c_.Now.Id == c_.Id)) (by exact congrArg Value.bool hq67) rfl) ?_
                  refine L_run (dj := 70) rfl rfl rfl ?_
                  refine L_pu (P_pick false (vb (c_.Now.Id == c_.Id)) (by exact congrArg Value.bool hq42) rfl) ?_
                  refine L_pu (P_pick true (vb (c_.Now.Id == c_.Id)) (by exact congrArg Value.bool rfl) rfl) ?_
                  refine L_pu (P_assign (vb (c_.Now.Id == c_.Id)) rfl) ?_
                  refine L_nil ?_
                  refine W_ret ?_
                  exact ⟨[vb (c_.Now.Id == c_.Id)], ⟨_, rfl, rfl⟩, c_.Now.Id == c_.Id, rfl, H, hc66.gr.g0⟩
                · have H := ite_f H hq67
                  refine L_pass (dj := 78) rfl rfl (.inl (by exact congrArg Value.bool hq67)) ?_
                  refine L_pass (dj := 78) rfl rfl (.inl (by exact congrArg Value.bool hq67)) ?_
                  refine L_pass (dj := 78) rfl rfl (.inl (by exact congrArg Value.bool hq67)) ?_
                  refine L_pass (dj := 78) rfl rfl (.inl (by exact congrArg Value.bool hq67)) ?_
                  refine L_pass (dj := 78) rfl rfl (.inl (by exact congrArg Value.bool hq67)) ?_
                  refine L_pass (dj := 78) rfl rfl (.inl (by exact congrArg Value.bool hq67)) ?_
                  refine L_run (dj := 74) rfl rfl (by exact congrArg Value.bool hq42) ?_
                  refine L_pu (P_pick false (vb false) (by exact congrArg Value.bool hq67) rfl) ?_
                  refine L_run (dj := 70) rfl rfl rfl ?_
                  refine L_pu (P_pick false (vb false) (by exact congrArg Value.bool hq42) rfl) ?_
                  refine L_pu (P_pick true (vb false) (by exact congrArg Value.bool rfl) rfl) ?_
                  refine L_pu (P_assign (vb false) rfl) ?_
                  refine L_nil ?_
                  refine W_ret ?_
                  exact ⟨[vb false], ⟨_, rfl, rfl⟩, false, rfl, H, hc66.gr.g0⟩
          · have H := ite_f H hq44
            refine L_pass (dj := 24) rfl rfl (.inl (by exact congrArg Value.bool hq44)) ?_
            refine L_pass (dj := 24) rfl rfl (.inl (by exact congrArg Value.bool hq44)) ?_
            refine L_pass (dj := 24) rfl rfl (.inl (by exact congrArg Value.bool hq44)) ?_
            refine L_pass (dj := 24) rfl rfl (.inl (by exact congrArg Value.bool hq44)) ?_
            refine L_pass (dj := 24) rfl rfl (.inl (by exact congrArg Value.bool hq44)) ?_
            refine L_run (dj := 17) rfl rfl (by exact congrArg Value.bool hq42) ?_
            refine L_pu (P_pick false (vb false) (by exact congrArg Value.bool hq44) rfl) ?_
            refine L_pu (P_pick false (vb false) (by exact congrArg Value.bool hq42) rfl) ?_
            refine L_nil ?_
            refine W_cf (b := false) rfl rfl ?_
            refine W_skip ?_
            refine W_seq ?_
            refine W_seq ?_
            refine W_reg ?_
            refine L_pu (P_fa fa103_1 ⟨b25, 0, none⟩ ⟨b25, 1, none⟩ rfl rfl) ?_
            refine L_pu (P_ld ag4 cL ⟨b25, 1, none⟩ (vb c_.Had) rfl (h40.cell rfl)) ?_
            refine L_pu (P_not c_.Had rfl) ?_
            refine L_pu (P_move (vb (!c_.Had)) rfl) ?_
            refine L_run (dj := 35) rfl rfl (by exact congrArg Value.bool hq41) ?_
            refine L_pu (P_fa fa103_2 ⟨b25, 0, none⟩ ⟨b25, 2, none⟩ rfl rfl) ?_
            refine L_run (dj := 35) rfl rfl (by exact congrArg Value.bool hq41) ?_
            refine L_pu (P_lda ag71 sz71 cL ⟨b25, 2, none⟩ [vs c_.Was.Id, vi c_.Was.Shape.Kind, .slice A3 n4 c5, .slice A8 n9 c10] rfl rfl (h40.cells (off := 2) rfl)) ?_
            refine L_run (dj := 35) rfl rfl (by exact congrArg Value.bool hq41) ?_
            refine L_pu (P_build (.agg #[vs ([] : Str), vi 0, .slice none 0 0, .slice none 0 0]) (fun _ => by kernel_rfl)) ?_
            refine L_run (dj := 35) rfl rfl (by exact congrArg Value.bool hq41) ?_
            refine L_call go79 [.agg #[vs c_.Was.Id, vi c_.Was.Shape.Kind, .slice A3 n4 c5, .slice A8 n9 c10], .agg #[vs ([] : Str), vi 0, .slice none 0 0, .slice none 0 0]] rfl ((spec_FeatSame.calls w33 hc38.ok c_.Was A3 n4 c5 A8 n9 c10 hs2 (hp6.st hc38.st) (hp11.st hc38.st) (⟨([] : Str), (⟨0, []⟩ : Shape), []⟩ : Feat) none 0 0 none 0 0 (by decide) (Sl.nil _ _ _ none 0 (by decide)) (Sl.nil _ _ _ none 0 (by decide)) _ H).mono ?_)
            rintro _ w69 ⟨r5, rfl, H, g70⟩
            have hc74 := hc38.k0 g70
            refine L_run (dj := 35) rfl rfl (by exact congrArg Value.bool hq41) ?_
            refine L_pu (P_not r5 rfl) ?_
            refine L_pu (P_pick true (vb (!r5)) (by exact congrArg Value.bool hq41) rfl) ?_
            refine L_pu (P_move (vb (!r5)) rfl) ?_
            rcases bool_or (!r5) with hq75 | hq75
            · have H := ite_t H hq75
              refine L_pass (dj := 42) rfl rfl (.inl (by exact congrArg Value.bool hq75)) ?_
              refine L_pass (dj := 42) rfl rfl (.inl (by exact congrArg Value.bool hq75)) ?_
              refine L_pass (dj := 42) rfl rfl (.inl (by exact congrArg Value.bool hq75)) ?_
              refine L_pass (dj := 42) rfl rfl (.inl (by exact congrArg Value.bool hq75)) ?_
              refine L_pass (dj := 46) rfl rfl (.inr rfl) ?_
              refine L_pass (dj := 46) rfl rfl (.inr rfl) ?_
              refine L_pass (dj := 46) rfl rfl (.inr rfl) ?_
              refine L_pass (dj := 46) rfl rfl (.inr rfl) ?_
              refine L_pass (dj := 46) rfl rfl (.inr rfl) ?_
              refine L_pass (dj := 42) rfl rfl (.inl (by exact congrArg Value.bool hq75)) ?_
              refine L_pu (P_pick true (vb true) (by exact congrArg Value.bool hq75) rfl) ?_
              refine L_nil ?_
              refine W_ct (b := true) rfl rfl ?_
              refine W_seq ?_
              refine W_reg ?_
              refine L_pu (P_assign (vb false) rfl) ?_
              refine L_nil ?_
              refine W_ret ?_
              exact ⟨[vb false], ⟨_, rfl, rfl⟩, false, rfl, H, hc74.gr.g0⟩
            · have H := ite_f H hq75
              refine L_run (dj := 42) rfl rfl (by exact congrArg Value.bool hq75) ?_
              refine L_pu (P_fa fa103_3 ⟨b25, 0, none⟩ ⟨b25, 6, none⟩ rfl rfl) ?_
              refine L_run (dj := 42) rfl rfl (by exact congrArg Value.bool hq75) ?_
              have h76 := (h40.st (.new _ g70))
              refine L_pu (P_ld ag4 cL ⟨b25, 6, none⟩ (vb c_.Has) rfl (h76.cell rfl)) ?_
              refine L_run (dj := 42) rfl rfl (by exact congrArg Value.bool hq75) ?_
              refine L_pu (P_not c_.Has rfl) ?_
              refine L_run (dj := 42) rfl rfl (by exact congrArg Value.bool hq75) ?_
              refine L_pu (P_move (vb (!c_.Has)) rfl) ?_
              refine L_pass (dj := 46) rfl rfl (.inl (by exact congrArg Value.bool hq42)) ?_
              refine L_pass (dj := 46) rfl rfl (.inl (by exact congrArg Value.bool hq42)) ?_
              refine L_pass (dj := 46) rfl rfl (.inl (by exact congrArg Value.bool hq42)) ?_
              refine L_pass (dj := 46) rfl rfl (.inl (by exact congrArg Value.bool hq42)) ?_
              refine L_pass (dj := 46) rfl rfl (.inl (by exact congrArg Value.bool hq42)) ?_
              refine L_run (dj := 42) rfl rfl (by exact congrArg Value.bool hq75) ?_
              refine L_pu (P_pick false (vb false) (by exact congrArg Value.bool hq42) rfl) ?_
              refine L_pu (P_pick false (vb false) (by exact congrArg Value.bool hq75) rfl) ?_
              refine L_nil ?_
              refine W_cf (b := false) rfl rfl ?_
              refine W_skip ?_
              refine W_seq ?_
              refine W_reg ?_
              refine L_pu (P_fa fa103_1 ⟨b25, 0, none⟩ ⟨b25, 1, none⟩ rfl rfl) ?_
              refine L_pu (P_ld ag4 cL ⟨b25, 1, none⟩ (vb c_.Had) rfl (h76.cell rfl)) ?_
              refine L_pu (P_not c_.Had rfl) ?_
              refine L_pu (P_move (vb (!c_.Had)) rfl) ?_
              refine L_pass (dj := 57) rfl rfl (.inl (by exact congrArg Value.bool hq41)) ?_
              refine L_pass (dj := 57) rfl rfl (.inl (by exact congrArg Value.bool hq41)) ?_
              refine L_pass (dj := 57) rfl rfl (.inl (by exact congrArg Value.bool hq41)) ?_
              refine L_pass (dj := 57) rfl rfl (.inl (by exact congrArg Value.bool hq41)) ?_
              refine L_pass (dj := 61) rfl rfl (.inr rfl) ?_
              refine L_pass (dj := 61) rfl rfl (.inr rfl) ?_
              refine L_pass (dj := 61) rfl rfl (.inr rfl) ?_
              refine L_pass (dj := 61) rfl rfl (.inr rfl) ?_
              refine L_pass (dj := 61) rfl rfl (.inr rfl) ?_
              refine L_pass (dj := 61) rfl rfl (.inr rfl) ?_
              refine L_pass (dj := 57) rfl rfl (.inl (by exact congrArg Value.bool hq41)) ?_
              refine L_pu (P_pick true (vb true) (by exact congrArg Value.bool hq41) rfl) ?_
              refine L_pu (P_move (vb true) rfl) ?_
              refine L_run (dj := 70) rfl rfl rfl ?_
              refine L_pu (P_fa fa103_3 ⟨b25, 0, none⟩ ⟨b25, 6, none⟩ rfl rfl) ?_
              refine L_run (dj := 70) rfl rfl rfl ?_
              refine L_pu (P_ld ag4 cL ⟨b25, 6, none⟩ (vb c_.Has) rfl (h76.cell rfl)) ?_
              refine L_run (dj := 70) rfl rfl rfl ?_
              refine L_pu (P_not c_.Has rfl) ?_
              refine L_run (dj := 70) rfl rfl rfl ?_
              refine L_pu (P_move (vb (!c_.Has)) rfl) ?_
              refine L_run (dj := 74) rfl rfl (by exact congrArg Value.bool hq42) ?_
              refine L_pu (P_fa fa103_4 ⟨b25, 0, none⟩ ⟨b25, 7, none⟩ rfl rfl) ?_
              refine L_run (dj := 74) rfl rfl (by exact congrArg Value.bool hq42) ?_
              refine L_pu (P_lda ag71 sz71 cL ⟨b25, 7, none⟩ [vs c_.Now.Id, vi c_.Now.Shape.Kind, .slice A14 n15 c16, .slice A19 n20 c21] rfl rfl (h76.cells (off := 7) rfl)) ?_
              refine L_run (dj := 74) rfl rfl (by exact congrArg Value.bool hq42) ?_
              refine L_call go89 [.agg #[vs c_.Now.Id, vi c_.Now.Shape.Kind, .slice A14 n15 c16, .slice A19 n20 c21]] rfl ((spec_FeatOk.calls w69 hc74.ok c_.Now A14 n15 c16 A19 n20 c21 hs13 (hp17.st hc74.st) (hp22.st hc74.st) _ H).mono ?_)
              rintro _ w77 ⟨r6, rfl, H, g78⟩
              have hc82 := hc74.k0 g78
              refine L_run (dj := 74) rfl rfl (by exact congrArg Value.bool hq42) ?_
              refine L_pu (P_move (vb r6) rfl) ?_
              rcases bool_or r6 with hq83 | hq83
              · have H := ite_t H hq83
                refine L_run (dj := 78) rfl rfl (by exact congrArg Value.bool hq83) ?_
                refine L_pu (P_fa fa103_4 ⟨b25, 0, none⟩ ⟨b25, 7, none⟩ rfl rfl) ?_
                refine L_run (dj := 78) rfl rfl (by exact congrArg Value.bool hq83) ?_
                refine L_pu (P_fa fa71_0 ⟨b25, 7, none⟩ ⟨b25, 7, none⟩ rfl rfl) ?_
                refine L_run (dj := 78) rfl rfl (by exact congrArg Value.bool hq83) ?_
                have h84 := (h76.st (.new _ g78))
                refine L_pu (P_ld ag9 cL ⟨b25, 7, none⟩ (vs c_.Now.Id) rfl (h84.cell rfl)) ?_
                refine L_run (dj := 78) rfl rfl (by exact congrArg Value.bool hq83) ?_
                refine L_pu (P_fa fa103_0 ⟨b25, 0, none⟩ ⟨b25, 0, none⟩ rfl rfl) ?_
                refine L_run (dj := 78) rfl rfl (by exact congrArg Value.bool hq83) ?_
                refine L_pu (P_ld ag9 cL ⟨b25, 0, none⟩ (vs c_.Id) rfl (h84.cell rfl)) ?_
                refine L_run (dj := 78) rfl rfl (by exact congrArg Value.bool hq83) ?_
                refine L_pu (P_scmp c_.Now.Id c_.Id (c_.Now.Id == c_.Id) rfl rfl rfl) ?_
                refine L_run (dj := 74) rfl rfl (by exact congrArg Value.bool hq42) ?_
                refine L_pu (P_pick true (vb (c_.Now.Id == c_.Id)) (by exact congrArg Value.bool hq83) rfl) ?_
                refine L_run (dj := 70) rfl rfl rfl ?_
                refine L_pu (P_pick false (vb (c_.Now.Id == c_.Id)) (by exact congrArg Value.bool hq42) rfl) ?_
                refine L_pu (P_pick true (vb (c_.Now.Id == c_.Id)) (by exact congrArg Value.bool rfl) rfl) ?_
                refine L_pu (P_assign (vb (c_.Now.Id == c_.Id)) rfl) ?_
                refine L_nil ?_
                refine W_ret ?_
                exact ⟨[vb (c_.Now.Id == c_.Id)], ⟨_, rfl, rfl⟩, c_.Now.Id == c_.Id, rfl, H, hc82.gr.g0⟩
              · have H := ite_f H hq83
                refine L_pass (dj := 78) rfl rfl (.inl (by exact congrArg Value.bool hq83)) ?_
                refine L_pass (dj := 78) rfl rfl (.inl (by exact congrArg Value.bool hq83)) ?_
                refine L_pass (dj := 78) rfl rfl (.inl (by exact congrArg Value.bool hq83)) ?_
                refine L_pass (dj := 78) rfl rfl (.inl (by exact congrArg Value.bool hq83)) ?_
                refine L_pass (dj := 78) rfl rfl (.inl (by exact congrArg Value.bool hq83)) ?_
                refine L_pass (dj := 78) rfl rfl (.inl (by exact congrArg Value.bool hq83)) ?_
                refine L_run (dj := 74) rfl rfl (by exact congrArg Value.bool hq42) ?_
                refine L_pu (P_pick false (vb false) (by exact congrArg Value.bool hq83) rfl) ?_
                refine L_run (dj := 70) rfl rfl rfl ?_
                refine L_pu (P_pick false (vb false) (by exact congrArg Value.bool hq42) rfl) ?_
                refine L_pu (P_pick true (vb false) (by exact congrArg Value.bool rfl) rfl) ?_
                refine L_pu (P_assign (vb false) rfl) ?_
                refine L_nil ?_
                refine W_ret ?_
                exact ⟨[vb false], ⟨_, rfl, rfl⟩, false, rfl, H, hc82.gr.g0⟩
        · have H := ite_f H hq43
          refine L_pass (dj := 20) rfl rfl (.inl (by exact congrArg Value.bool hq43)) ?_
          refine L_pass (dj := 20) rfl rfl (.inl (by exact congrArg Value.bool hq43)) ?_
          refine L_run (dj := 17) rfl rfl (by exact congrArg Value.bool hq42) ?_
          refine L_pu (P_pick false (vb false) (by exact congrArg Value.bool hq43) rfl) ?_
          refine L_run (dj := 17) rfl rfl (by exact congrArg Value.bool hq42) ?_
          refine L_pu (P_move (vb false) rfl) ?_
          refine L_pass (dj := 24) rfl rfl (.inl rfl) ?_
          refine L_pass (dj := 24) rfl rfl (.inl rfl) ?_
          refine L_pass (dj := 24) rfl rfl (.inl rfl) ?_
          refine L_pass (dj := 24) rfl rfl (.inl rfl) ?_
          refine L_pass (dj := 24) rfl rfl (.inl rfl) ?_
          refine L_run (dj := 17) rfl rfl (by exact congrArg Value.bool hq42) ?_
          refine L_pu (P_pick false (vb false) (by exact congrArg Value.bool rfl) rfl) ?_
          refine L_pu (P_pick false (vb false) (by exact congrArg Value.bool hq42) rfl) ?_
          refine L_nil ?_
          refine W_cf (b := false) rfl rfl ?_
          refine W_skip ?_
          refine W_seq ?_
          refine W_seq ?_
          refine W_reg ?_
          refine L_pu (P_fa fa103_1 ⟨b25, 0, none⟩ ⟨b25, 1, none⟩ rfl rfl) ?_
          refine L_pu (P_ld ag4 cL ⟨b25, 1, none⟩ (vb c_.Had) rfl (h40.cell rfl)) ?_
          refine L_pu (P_not c_.Had rfl) ?_
          refine L_pu (P_move (vb (!c_.Had)) rfl) ?_
          refine L_run (dj := 35) rfl rfl (by exact congrArg Value.bool hq41) ?_
          refine L_pu (P_fa fa103_2 ⟨b25, 0, none⟩ ⟨b25, 2, none⟩ rfl rfl) ?_
          refine L_run (dj := 35) rfl rfl (by exact congrArg Value.bool hq41) ?_
          refine L_pu (P_lda ag71 sz71 cL ⟨b25, 2, none⟩ [vs c_.Was.Id, vi c_.Was.Shape.Kind, .slice A3 n4 c5, .slice A8 n9 c10] rfl rfl (h40.cells (off := 2) rfl)) ?_
          refine L_run (dj := 35) rfl rfl (by exact congrArg Value.bool hq41) ?_
          refine L_pu (P_build (.agg #[vs ([] : Str), vi 0, .slice none 0 0, .slice none 0 0]) (fun _ => by kernel_rfl)) ?_
          refine L_run (dj := 35) rfl rfl (by exact congrArg Value.bool hq41) ?_
          refine L_call go79 [.agg #[vs c_.Was.Id, vi c_.Was.Shape.Kind, .slice A3 n4 c5, .slice A8 n9 c10], .agg #[vs ([] : Str), vi 0, .slice none 0 0, .slice none 0 0]] rfl ((spec_FeatSame.calls w33 hc38.ok c_.Was A3 n4 c5 A8 n9 c10 hs2 (hp6.st hc38.st) (hp11.st hc38.st) (⟨([] : Str), (⟨0, []⟩ : Shape), []⟩ : Feat) none 0 0 none 0 0 (by decide) (Sl.nil _ _ _ none 0 (by decide)) (Sl.nil _ _ _ none 0 (by decide)) _ H).mono ?_)
          rintro _ w85 ⟨r7, rfl, H, g86⟩
          have hc90 := hc38.k0 g86
          refine L_run (dj := 35) rfl rfl (by exact congrArg Value.bool hq41) ?_
          refine L_pu (P_not r7 rfl) ?_
          refine L_pu (P_pick true (vb (!r7)) (by exact congrArg Value.bool hq41) rfl) ?_
          refine L_pu (P_move (vb (!r7)) rfl) ?_
          rcases bool_or (!r7) with hq91 | hq91
          · have H := ite_t H hq91
            refine L_pass (dj := 42) rfl rfl (.inl (by exact congrArg Value.bool hq91)) ?_
            refine L_pass (dj := 42) rfl rfl (.inl (by exact congrArg Value.bool hq91)) ?_
            refine L_pass (dj := 42) rfl rfl (.inl (by exact congrArg Value.bool hq91)) ?_
            refine L_pass (dj := 42) rfl rfl (.inl (by exact congrArg Value.bool hq91)) ?_
            refine L_pass (dj := 46) rfl rfl (.inr rfl) ?_
            refine L_pass (dj := 46) rfl rfl (.inr rfl) ?_
            refine L_pass (dj := 46) rfl rfl (.inr rfl) ?_
            refine L_pass (dj := 46) rfl rfl (.inr rfl) ?_
            refine L_pass (dj := 46) rfl rfl (.inr rfl) ?_
            refine L_pass (dj := 42) rfl rfl (.inl (by exact congrArg Value.bool hq91)) ?_
            refine L_pu (P_pick true (vb true) (by exact congrArg Value.bool hq91) rfl) ?_
            refine L_nil ?_
            refine W_ct (b := true) rfl rfl ?_
            refine W_seq ?_
            refine W_reg ?_
            refine L_pu (P_assign (vb false) rfl) ?_
            refine L_nil ?_
            refine W_ret ?_
            exact ⟨[vb false], ⟨_, rfl, rfl⟩, false, rfl, H, hc90.gr.g0⟩
          · have H := ite_f H hq91
            refine L_run (dj := 42) rfl rfl (by exact congrArg Value.bool hq91) ?_
            refine L_pu (P_fa fa103_3 ⟨b25, 0, none⟩ ⟨b25, 6, none⟩ rfl rfl) ?_
            refine L_run (dj := 42) rfl rfl (by exact congrArg Value.bool hq91) ?_
            have h92 := (h40.st (.new _ g86))
            refine L_pu (P_ld ag4 cL ⟨b25, 6, none⟩ (vb c_.Has) rfl (h92.cell rfl)) ?_
            refine L_run (dj := 42) rfl rfl (by exact congrArg Value.bool hq91) ?_
            refine L_pu (P_not c_.Has rfl) ?_
            refine L_run (dj := 42) rfl rfl (by exact congrArg Value.bool hq91) ?_
            refine L_pu (P_move (vb (!c_.Has)) rfl) ?_
            refine L_pass (dj := 46) rfl rfl (.inl (by exact congrArg Value.bool hq42)) ?_
            refine L_pass (dj := 46) rfl rfl (.inl (by exact congrArg Value.bool hq42)) ?_
            refine L_pass (dj := 46) rfl rfl (.inl (by exact congrArg Value.bool hq42)) ?_
            refine L_pass (dj := 46) rfl rfl (.inl (by exact congrArg Value.bool hq42)) ?_
            refine L_pass (dj := 46) rfl rfl (.inl (by exact congrArg Value.bool hq42)) ?_
            refine L_run (dj := 42) rfl rfl (by exact congrArg Value.bool hq91) ?_
            refine L_pu (P_pick false (vb false) (by exact congrArg Value.bool hq42) rfl) ?_
            refine L_pu (P_pick false (vb false) (by exact congrArg Value.bool hq91) rfl) ?_
            refine L_nil ?_
            refine W_cf (b := false) rfl rfl ?_
            refine W_skip ?_
            refine W_seq ?_
            refine W_reg ?_
            refine L_pu (P_fa fa103_1 ⟨b25, 0, none⟩ ⟨b25, 1, none⟩ rfl rfl) ?_
            refine L_pu (P_ld ag4 cL ⟨b25, 1, none⟩ (vb c_.Had) rfl (h92.cell rfl)) ?_
            refine L_pu (P_not c_.Had rfl) ?_
            refine L_pu (P_move (vb (!c_.Had)) rfl) ?_
            refine L_pass (dj := 57) rfl rfl (.inl (by exact congrArg Value.bool hq41)) ?_
            refine L_pass (dj := 57) rfl rfl (.inl (by exact congrArg Value.bool hq41)) ?_
            refine L_pass (dj := 57) rfl rfl (.inl (by exact congrArg Value.bool hq41)) ?_
            refine L_pass (dj := 57) rfl rfl (.inl (by exact congrArg Value.bool hq41)) ?_
            refine L_pass (dj := 61) rfl rfl (.inr rfl) ?_
            refine L_pass (dj := 61) rfl rfl (.inr rfl) ?_
            refine L_pass (dj := 61) rfl rfl (.inr rfl) ?_
            refine L_pass (dj := 61) rfl rfl (.inr rfl) ?_
            refine L_pass (dj := 61) rfl rfl (.inr rfl) ?_
            refine L_pass (dj := 61) rfl rfl (.inr rfl) ?_
            refine L_pass (dj := 57) rfl rfl (.inl (by exact congrArg Value.bool hq41)) ?_
            refine L_pu (P_pick true (vb true) (by exact congrArg Value.bool hq41) rfl) ?_
            refine L_pu (P_move (vb true) rfl) ?_
            refine L_run (dj := 70) rfl rfl rfl ?_
            refine L_pu (P_fa fa103_3 ⟨b25, 0, none⟩ ⟨b25, 6, none⟩ rfl rfl) ?_
            refine L_run (dj := 70) rfl rfl rfl ?_
            refine L_pu (P_ld ag4 cL ⟨b25, 6, none⟩ (vb c_.Has) rfl (h92.cell rfl)) ?_
            refine L_run (dj := 70) rfl rfl rfl ?_
            refine L_pu (P_not c_.Has rfl) ?_
            refine L_run (dj := 70) rfl rfl rfl ?_
            refine L_pu (P_move (vb (!c_.Has)) rfl) ?_
            refine L_run (dj := 74) rfl rfl (by exact congrArg Value.bool hq42) ?_
            refine L_pu (P_fa fa103_4 ⟨b25, 0, none⟩ ⟨b25, 7, none⟩ rfl rfl) ?_
            refine L_run (dj := 74) rfl rfl (by exact congrArg Value.bool hq42) ?_
            refine L_pu (P_lda ag71 sz71 cL ⟨b25, 7, none⟩ [vs c_.Now.Id, vi c_.Now.Shape.Kind, .slice A14 n15 c16, .slice A19 n20 c21] rfl rfl (h92.cells (off := 7) rfl)) ?_
            refine L_run (dj := 74) rfl rfl (by exact congrArg Value.bool hq42) ?_
            refine L_call go89 [.agg #[vs c_.Now.Id, vi c_.Now.Shape.Kind, .slice A14 n15 c16, .slice A19 n20 c21]] rfl ((spec_FeatOk.calls w85 hc90.ok c_.Now A14 n15 c16 A19 n20 c21 hs13 (hp17.st hc90.st) (hp22.st hc90.st) _ H).mono ?_)
            rintro _ w93 ⟨r8, rfl, H, g94⟩
            have hc98 := hc90.k0 g94
            refine L_run (dj := 74) rfl rfl (by exact congrArg Value.bool hq42) ?_
            refine L_pu (P_move (vb r8) rfl) ?_
            rcases bool_or r8 with hq99 | hq99
            · have H := ite_t H hq99
              refine L_run (dj := 78) rfl rfl (by exact congrArg Value.bool hq99) ?_
              refine L_pu (P_fa fa103_4 ⟨b25, 0, none⟩ ⟨b25, 7, none⟩ rfl rfl) ?_
              refine L_run (dj := 78) rfl rfl (by exact congrArg Value.bool hq99) ?_
              refine L_pu (P_fa fa71_0 ⟨b25, 7, none⟩ ⟨b25, 7, none⟩ rfl rfl) ?_
              refine L_run (dj := 78) rfl rfl (by exact congrArg Value.bool hq99) ?_
              have h100 := (h92.st (.new _ g94))
              refine L_pu (P_ld ag9 cL ⟨b25, 7, none⟩ (vs c_.Now.Id) rfl (h100.cell rfl)) ?_
              refine L_run (dj := 78) rfl rfl (by exact congrArg Value.bool hq99) ?_
              refine L_pu (P_fa fa103_0 ⟨b25, 0, none⟩ ⟨b25, 0, none⟩ rfl rfl) ?_
              refine L_run (dj := 78) rfl rfl (by exact congrArg Value.bool hq99) ?_
              refine L_pu (P_ld ag9 cL ⟨b25, 0, none⟩ (vs c_.Id) rfl (h100.cell rfl)) ?_
              refine L_run (dj := 78) rfl rfl (by exact congrArg Value.bool hq99) ?_
              refine L_pu (P_scmp c_.Now.Id c_.Id (c_.Now.Id == c_.Id) rfl rfl rfl) ?_
              refine L_run (dj := 74) rfl rfl (by exact congrArg Value.bool hq42) ?_
              refine L_pu (P_pick true (vb (c_.Now.Id == c_.Id)) (by exact congrArg Value.bool hq99) rfl) ?_
              refine L_run (dj := 70) rfl rfl rfl ?_
              refine L_pu (P_pick false (vb (c_.Now.Id == c_.Id)) (by exact congrArg Value.bool hq42) rfl) ?_
              refine L_pu (P_pick true (vb (c_.Now.Id == c_.Id)) (by exact congrArg Value.bool rfl) rfl) ?_
              refine L_pu (P_assign (vb (c_.Now.Id == c_.Id)) rfl) ?_
              refine L_nil ?_
              refine W_ret ?_
              exact ⟨[vb (c_.Now.Id == c_.Id)], ⟨_, rfl, rfl⟩, c_.Now.Id == c_.Id, rfl, H, hc98.gr.g0⟩
            · have H := ite_f H hq99
              refine L_pass (dj := 78) rfl rfl (.inl (by exact congrArg Value.bool hq99)) ?_
              refine L_pass (dj := 78) rfl rfl (.inl (by exact congrArg Value.bool hq99)) ?_
              refine L_pass (dj := 78) rfl rfl (.inl (by exact congrArg Value.bool hq99)) ?_
              refine L_pass (dj := 78) rfl rfl (.inl (by exact congrArg Value.bool hq99)) ?_
              refine L_pass (dj := 78) rfl rfl (.inl (by exact congrArg Value.bool hq99)) ?_
              refine L_pass (dj := 78) rfl rfl (.inl (by exact congrArg Value.bool hq99)) ?_
              refine L_run (dj := 74) rfl rfl (by exact congrArg Value.bool hq42) ?_
              refine L_pu (P_pick false (vb false) (by exact congrArg Value.bool hq99) rfl) ?_
              refine L_run (dj := 70) rfl rfl rfl ?_
              refine L_pu (P_pick false (vb false) (by exact congrArg Value.bool hq42) rfl) ?_
              refine L_pu (P_pick true (vb false) (by exact congrArg Value.bool rfl) rfl) ?_
              refine L_pu (P_assign (vb false) rfl) ?_
              refine L_nil ?_
              refine W_ret ?_
              exact ⟨[vb false], ⟨_, rfl, rfl⟩, false, rfl, H, hc98.gr.g0⟩
    · have H := ite_f H hq41
      refine L_pass (dj := 11) rfl rfl (.inl (by exact congrArg Value.bool hq41)) ?_
      refine L_pass (dj := 11) rfl rfl (.inl (by exact congrArg Value.bool hq41)) ?_
      refine L_pass (dj := 11) rfl rfl (.inl (by exact congrArg Value.bool hq41)) ?_
      refine L_run (dj := 7) rfl rfl (by exact congrArg Value.bool hq39) ?_
      refine L_pu (P_pick false (vb false) (by exact congrArg Value.bool hq41) rfl) ?_
      refine L_pu (P_pick false (vb false) (by exact congrArg Value.bool hq39) rfl) ?_
      refine L_pu (P_move (vb false) rfl) ?_
      refine L_run (dj := 17) rfl rfl rfl ?_
      refine L_pu (P_fa fa103_1 ⟨b25, 0, none⟩ ⟨b25, 1, none⟩ rfl rfl) ?_
      refine L_run (dj := 17) rfl rfl rfl ?_
      refine L_pu (P_ld ag4 cL ⟨b25, 1, none⟩ (vb c_.Had) rfl (h40.cell rfl)) ?_
      refine L_run (dj := 17) rfl rfl rfl ?_
      refine L_pu (P_move (vb c_.Had) rfl) ?_
      rcases bool_or c_.Had with hq101 | hq101
      · have H := ite_t H hq101
        refine L_run (dj := 20) rfl rfl (by exact congrArg Value.bool hq101) ?_
        refine L_pu (P_fa fa103_3 ⟨b25, 0, none⟩ ⟨b25, 6, none⟩ rfl rfl) ?_
        refine L_run (dj := 20) rfl rfl (by exact congrArg Value.bool hq101) ?_
        refine L_pu (P_ld ag4 cL ⟨b25, 6, none⟩ (vb c_.Has) rfl (h40.cell rfl)) ?_
        refine L_run (dj := 17) rfl rfl rfl ?_
        refine L_pu (P_pick true (vb c_.Has) (by exact congrArg Value.bool hq101) rfl) ?_
        refine L_run (dj := 17) rfl rfl rfl ?_
        refine L_pu (P_move (vb c_.Has) rfl) ?_
        rcases bool_or c_.Has with hq102 | hq102
        · have H := ite_t H hq102
          refine L_run (dj := 24) rfl rfl (by exact congrArg Value.bool hq102) ?_
          refine L_pu (P_fa fa103_2 ⟨b25, 0, none⟩ ⟨b25, 2, none⟩ rfl rfl) ?_
          refine L_run (dj := 24) rfl rfl (by exact congrArg Value.bool hq102) ?_
          refine L_pu (P_lda ag71 sz71 cL ⟨b25, 2, none⟩ [vs c_.Was.Id, vi c_.Was.Shape.Kind, .slice A3 n4 c5, .slice A8 n9 c10] rfl rfl (h40.cells (off := 2) rfl)) ?_
          refine L_run (dj := 24) rfl rfl (by exact congrArg Value.bool hq102) ?_
          refine L_pu (P_fa fa103_4 ⟨b25, 0, none⟩ ⟨b25, 7, none⟩ rfl rfl) ?_
          refine L_run (dj := 24) rfl rfl (by exact congrArg Value.bool hq102) ?_
          refine L_pu (P_lda ag71 sz71 cL ⟨b25, 7, none⟩ [vs c_.Now.Id, vi c_.Now.Shape.Kind, .slice A14 n15 c16, .slice A19 n20 c21] rfl rfl (h40.cells (off := 7) rfl)) ?_
          refine L_run (dj := 24) rfl rfl (by exact congrArg Value.bool hq102) ?_
          refine L_call go79 [.agg #[vs c_.Was.Id, vi c_.Was.Shape.Kind, .slice A3 n4 c5, .slice A8 n9 c10], .agg #[vs c_.Now.Id, vi c_.Now.Shape.Kind, .slice A14 n15 c16, .slice A19 n20 c21]] rfl ((spec_FeatSame.calls w33 hc38.ok c_.Was A3 n4 c5 A8 n9 c10 hs2 (hp6.st hc38.st) (hp11.st hc38.st) c_.Now A14 n15 c16 A19 n20 c21 hs13 (hp17.st hc38.st) (hp22.st hc38.st) _ H).mono ?_)
          rintro _ w103 ⟨r9, rfl, H, g104⟩
          have hc108 := hc38.k0 g104
          refine L_run (dj := 17) rfl rfl rfl ?_
          refine L_pu (P_pick true (vb r9) (by exact congrArg Value.bool hq102) rfl) ?_
          refine L_pu (P_pick false (vb r9) (by exact congrArg Value.bool rfl) rfl) ?_
          refine L_nil ?_
          refine W_cond r9 rfl (fun hq109 => ?_) (fun hq109 => ?_)
          · have H := ite_t H hq109
            refine W_seq ?_
            refine W_reg ?_
            refine L_pu (P_assign (vb false) rfl) ?_
            refine L_nil ?_
            refine W_ret ?_
            exact ⟨[vb false], ⟨_, rfl, rfl⟩, false, rfl, H, hc108.gr.g0⟩
          · have H := ite_f H hq109
            refine W_skip ?_
            refine W_seq ?_
            refine W_seq ?_
            refine W_reg ?_
            refine L_pu (P_fa fa103_1 ⟨b25, 0, none⟩ ⟨b25, 1, none⟩ rfl rfl) ?_
            have h110 := (h40.st (.new _ g104))
            refine L_pu (P_ld ag4 cL ⟨b25, 1, none⟩ (vb c_.Had) rfl (h110.cell rfl)) ?_
            refine L_pu (P_not c_.Had rfl) ?_
            refine L_pu (P_move (vb (!c_.Had)) rfl) ?_
            refine L_pass (dj := 35) rfl rfl (.inl (by exact congrArg Value.bool hq41)) ?_
            refine L_pass (dj := 35) rfl rfl (.inl (by exact congrArg Value.bool hq41)) ?_
            refine L_pass (dj := 35) rfl rfl (.inl (by exact congrArg Value.bool hq41)) ?_
            refine L_pass (dj := 35) rfl rfl (.inl (by exact congrArg Value.bool hq41)) ?_
            refine L_pass (dj := 35) rfl rfl (.inl (by exact congrArg Value.bool hq41)) ?_
            refine L_pu (P_pick false (vb false) (by exact congrArg Value.bool hq41) rfl) ?_
            refine L_pu (P_move (vb false) rfl) ?_
            refine L_run (dj := 42) rfl rfl rfl ?_
            refine L_pu (P_fa fa103_3 ⟨b25, 0, none⟩ ⟨b25, 6, none⟩ rfl rfl) ?_
            refine L_run (dj := 42) rfl rfl rfl ?_
            refine L_pu (P_ld ag4 cL ⟨b25, 6, none⟩ (vb c_.Has) rfl (h110.cell rfl)) ?_
            refine L_run (dj := 42) rfl rfl rfl ?_
            refine L_pu (P_not c_.Has rfl) ?_
            refine L_run (dj := 42) rfl rfl rfl ?_
            refine L_pu (P_move (vb (!c_.Has)) rfl) ?_
            rcases bool_or (!c_.Has) with hq111 | hq111
            · have H := ite_t H hq111
              refine L_run (dj := 46) rfl rfl (by exact congrArg Value.bool hq111) ?_
              refine L_pu (P_fa fa103_4 ⟨b25, 0, none⟩ ⟨b25, 7, none⟩ rfl rfl) ?_
              refine L_run (dj := 46) rfl rfl (by exact congrArg Value.bool hq111) ?_
              refine L_pu (P_lda ag71 sz71 cL ⟨b25, 7, none⟩ [vs c_.Now.Id, vi c_.Now.Shape.Kind, .slice A14 n15 c16, .slice A19 n20 c21] rfl rfl (h110.cells (off := 7) rfl)) ?_
              refine L_run (dj := 46) rfl rfl (by exact congrArg Value.bool hq111) ?_
              refine L_pu (P_build (.agg #[vs ([] : Str), vi 0, .slice none 0 0, .slice none 0 0]) (fun _ => by kernel_rfl)) ?_
              refine L_run (dj := 46) rfl rfl (by exact congrArg Value.bool hq111) ?_
              refine L_call go79 [.agg #[vs c_.Now.Id, vi c_.Now.Shape.Kind, .slice A14 n15 c16, .slice A19 n20 c21], .agg #[vs ([] : Str), vi 0, .slice none 0 0, .slice none 0 0]] rfl ((spec_FeatSame.calls w103 hc108.ok c_.Now A14 n15 c16 A19 n20 c21 hs13 (hp17.st hc108.st) (hp22.st hc108.st) (⟨([] : Str), (⟨0, []⟩ : Shape), []⟩ : Feat) none 0 0 none 0 0 (by decide) (Sl.nil _ _ _ none 0 (by decide)) (Sl.nil _ _ _ none 0 (by decide)) _ H).mono ?_)
              rintro _ w112 ⟨r10, rfl, H, g113⟩
              have hc117 := hc108.k0 g113
              refine L_run (dj := 46) rfl rfl (by exact congrArg Value.bool hq111) ?_
              refine L_pu (P_not r10 rfl) ?_
              refine L_run (dj := 42) rfl rfl rfl ?_
              refine L_pu (P_pick true (vb (!r10)) (by exact congrArg Value.bool hq111) rfl) ?_
              refine L_pu (P_pick false (vb (!r10)) (by exact congrArg Value.bool rfl) rfl) ?_
              refine L_nil ?_
              refine W_cond (!r10) rfl (fun hq118 => ?_) (fun hq118 => ?_)
              · have H := ite_t H hq118
                refine W_seq ?_
                refine W_reg ?_
                refine L_pu (P_assign (vb false) rfl) ?_
                refine L_nil ?_
                refine W_ret ?_
                exact ⟨[vb false], ⟨_, rfl, rfl⟩, false, rfl, H, hc117.gr.g0⟩
              · have H := ite_f H hq118
                refine W_skip ?_
                refine W_seq ?_
                refine W_reg ?_
                refine L_pu (P_fa fa103_1 ⟨b25, 0, none⟩ ⟨b25, 1, none⟩ rfl rfl) ?_
                have h119 := (h110.st (.new _ g113))
                refine L_pu (P_ld ag4 cL ⟨b25, 1, none⟩ (vb c_.Had) rfl (h119.cell rfl)) ?_
                refine L_pu (P_not c_.Had rfl) ?_
                refine L_pu (P_move (vb (!c_.Had)) rfl) ?_
                refine L_run (dj := 57) rfl rfl (by exact congrArg Value.bool hq41) ?_
                refine L_pu (P_fa fa103_2 ⟨b25, 0, none⟩ ⟨b25, 2, none⟩ rfl rfl) ?_
                refine L_run (dj := 57) rfl rfl (by exact congrArg Value.bool hq41) ?_
                refine L_pu (P_lda ag71 sz71 cL ⟨b25, 2, none⟩ [vs c_.Was.Id, vi c_.Was.Shape.Kind, .slice A3 n4 c5, .slice A8 n9 c10] rfl rfl (h119.cells (off := 2) rfl)) ?_
                refine L_run (dj := 57) rfl rfl (by exact congrArg Value.bool hq41) ?_
                refine L_call go89 [.agg #[vs c_.Was.Id, vi c_.Was.Shape.Kind, .slice A3 n4 c5, .slice A8 n9 c10]] rfl ((spec_FeatOk.calls w112 hc117.ok c_.Was A3 n4 c5 A8 n9 c10 hs2 (hp6.st hc117.st) (hp11.st hc117.st) _ H).mono ?_)
                rintro _ w120 ⟨r11, rfl, H, g121⟩
                have hc125 := hc117.k0 g121
                refine L_run (dj := 57) rfl rfl (by exact congrArg Value.bool hq41) ?_
                refine L_pu (P_move (vb r11) rfl) ?_
                rcases bool_or r11 with hq126 | hq126
                · have H := ite_t H hq126
                  refine L_run (dj := 61) rfl rfl (by exact congrArg Value.bool hq126) ?_
                  refine L_pu (P_fa fa103_2 ⟨b25, 0, none⟩ ⟨b25, 2, none⟩ rfl rfl) ?_
                  refine L_run (dj := 61) rfl rfl (by exact congrArg Value.bool hq126) ?_
                  refine L_pu (P_fa fa71_0 ⟨b25, 2, none⟩ ⟨b25, 2, none⟩ rfl rfl) ?_
                  refine L_run (dj := 61) rfl rfl (by exact congrArg Value.bool hq126) ?_
                  have h127 := (h119.st (.new _ g121))
                  refine L_pu (P_ld ag9 cL ⟨b25, 2, none⟩ (vs c_.Was.Id) rfl (h127.cell rfl)) ?_
                  refine L_run (dj := 61) rfl rfl (by exact congrArg Value.bool hq126) ?_
                  refine L_pu (P_fa fa103_0 ⟨b25, 0, none⟩ ⟨b25, 0, none⟩ rfl rfl) ?_
                  refine L_run (dj := 61) rfl rfl (by exact congrArg Value.bool hq126) ?_
                  refine L_pu (P_ld ag9 cL ⟨b25, 0, none⟩ (vs c_.Id) rfl (h127.cell rfl)) ?_
                  refine L_run (dj := 61) rfl rfl (by exact congrArg Value.bool hq126) ?_
                  refine L_pu (P_scmp c_.Was.Id c_.Id (c_.Was.Id == c_.Id) rfl rfl rfl) ?_
                  refine L_run (dj := 57) rfl rfl (by exact congrArg Value.bool hq41) ?_
                  refine L_pu (P_pick true (vb (c_.Was.Id == c_.Id)) (by exact congrArg Value.bool hq126) rfl) ?_
                  refine L_pu (P_pick false (vb (c_.Was.Id == c_.Id)) (by exact congrArg Value.bool hq41) rfl) ?_
                  refine L_pu (P_move (vb (c_.Was.Id == c_.Id)) rfl) ?_
                  rcases bool_or (c_.Was.Id == c_.Id) with hq128 | hq128
                  · have H := ite_t H hq128
                    refine L_run (dj := 70) rfl rfl (by exact congrArg Value.bool hq128) ?_
                    refine L_pu (P_fa fa103_3 ⟨b25, 0, none⟩ ⟨b25, 6, none⟩ rfl rfl) ?_
                    refine L_run (dj := 70) rfl rfl (by exact congrArg Value.bool hq128) ?_
                    refine L_pu (P_ld ag4 cL ⟨b25, 6, none⟩ (vb c_.Has) rfl (h127.cell rfl)) ?_
                    refine L_run (dj := 70) rfl rfl (by exact congrArg Value.bool hq128) ?_
                    refine L_pu (P_not c_.Has rfl) ?_
                    refine L_run (dj := 70) rfl rfl (by exact congrArg Value.bool hq128) ?_
                    refine L_pu (P_move (vb (!c_.Has)) rfl) ?_
                    refine L_pass (dj := 74) rfl rfl (.inl (by exact congrArg Value.bool hq111)) ?_
                    refine L_pass (dj := 74) rfl rfl (.inl (by exact congrArg Value.bool hq111)) ?_
                    refine L_pass (dj := 74) rfl rfl (.inl (by exact congrArg Value.bool hq111)) ?_
                    refine L_pass (dj := 74) rfl rfl (.inl (by exact congrArg Value.bool hq111)) ?_
                    refine L_pass (dj := 78) rfl rfl (.inr rfl) ?_
                    refine L_pass (dj := 78) rfl rfl (.inr rfl) ?_
                    refine L_pass (dj := 78) rfl rfl (.inr rfl) ?_
                    refine L_pass (dj := 78) rfl rfl (.inr rfl) ?_
                    refine L_pass (dj := 78) rfl rfl (.inr rfl) ?_
                    refine L_pass (dj := 78) rfl rfl (.inr rfl) ?_
                    refine L_pass (dj := 74) rfl rfl (.inl (by exact congrArg Value.bool hq111)) ?_
                    refine L_run (dj := 70) rfl rfl (by exact congrArg Value.bool hq128) ?_
                    refine L_pu (P_pick true (vb true) (by exact congrArg Value.bool hq111) rfl) ?_
                    refine L_pu (P_pick true (vb true) (by exact congrArg Value.bool hq128) rfl) ?_
                    refine L_pu (P_assign (vb true) rfl) ?_
                    refine L_nil ?_
                    refine W_ret ?_
                    exact ⟨[vb true], ⟨_, rfl, rfl⟩, true, rfl, H, hc125.gr.g0⟩
                  · have H := ite_f H hq128
                    refine L_pass (dj := 70) rfl rfl (.inl (by exact congrArg Value.bool hq128)) ?_
                    refine L_pass (dj := 70) rfl rfl (.inl (by exact congrArg Value.bool hq128)) ?_
                    refine L_pass (dj := 70) rfl rfl (.inl (by exact congrArg Value.bool hq128)) ?_
                    refine L_pass (dj := 70) rfl rfl (.inl (by exact congrArg Value.bool hq128)) ?_
                    refine L_pass (dj := 74) rfl rfl (.inr rfl) ?_
                    refine L_pass (dj := 74) rfl rfl (.inr rfl) ?_
                    refine L_pass (dj := 74) rfl rfl (.inr rfl) ?_
                    refine L_pass (dj := 74) rfl rfl (.inr rfl) ?_
                    refine L_pass (dj := 78) rfl rfl (.inr rfl) ?_
                    refine L_pass (dj := 78) rfl rfl (.inr rfl) ?_
                    refine L_pass (dj := 78) rfl rfl (.inr rfl) ?_
                    refine L_pass (dj := 78) rfl rfl (.inr rfl) ?_
                    refine L_pass (dj := 78) rfl rfl (.inr rfl) ?_
                    refine L_pass (dj := 78) rfl rfl (.inr rfl) ?_
                    refine L_pass (dj := 74) rfl rfl (.inr rfl) ?_
                    refine L_pass (dj := 70) rfl rfl (.inl (by exact congrArg Value.bool hq128)) ?_
                    refine L_pu (P_pick false (vb false) (by exact congrArg Value.bool hq128) rfl) ?_
                    refine L_pu (P_assign (vb false) rfl) ?_
                    refine L_nil ?_
                    refine W_ret ?_
                    exact ⟨[vb false], ⟨_, rfl, rfl⟩, false, rfl, H, hc125.gr.g0⟩
                · have H := ite_f H hq126
                  refine L_pass (dj := 61) rfl rfl (.inl (by exact congrArg Value.bool hq126)) ?_
                  refine L_pass (dj := 61) rfl rfl (.inl (by exact congrArg Value.bool hq126)) ?_
                  refine L_pass (dj := 61) rfl rfl (.inl (by exact congrArg Value.bool hq126)) ?_
                  refine L_pass (dj := 61) rfl rfl (.inl (by exact congrArg Value.bool hq126)) ?_
                  refine L_pass (dj := 61) rfl rfl (.inl (by exact congrArg Value.bool hq126)) ?_
                  refine L_pass (dj := 61) rfl rfl (.inl (by exact congrArg Value.bool hq126)) ?_
                  refine L_run (dj := 57) rfl rfl (by exact congrArg Value.bool hq41) ?_
                  refine L_pu (P_pick false (vb false) (by exact congrArg Value.bool hq126) rfl) ?_
                  refine L_pu (P_pick false (vb false) (by exact congrArg Value.bool hq41) rfl) ?_
                  refine L_pu (P_move (vb false) rfl) ?_
                  refine L_pass (dj := 70) rfl rfl (.inl rfl) ?_
                  refine L_pass (dj := 70) rfl rfl (.inl rfl) ?_
                  refine L_pass (dj := 70) rfl rfl (.inl rfl) ?_
                  refine L_pass (dj := 70) rfl rfl (.inl rfl) ?_
                  refine L_pass (dj := 74) rfl rfl (.inr rfl) ?_
                  refine L_pass (dj := 74) rfl rfl (.inr rfl) ?_
                  refine L_pass (dj := 74) rfl rfl (.inr rfl) ?_
                  refine L_pass (dj := 74) rfl rfl (.inr rfl) ?_
                  refine L_pass (dj := 78) rfl rfl (.inr rfl) ?_
                  refine L_pass (dj := 78) rfl rfl (.inr rfl) ?_
                  refine L_pass (dj := 78) rfl rfl (.inr rfl) ?_
                  refine L_pass (dj := 78) rfl rfl (.inr rfl) ?_
                  refine L_pass (dj := 78) rfl rfl (.inr rfl) ?_
                  refine L_pass (dj := 78) rfl rfl (.inr rfl) ?_
                  refine L_pass (dj := 74) rfl rfl (.inr rfl) ?_
                  refine L_pass (dj := 70) rfl rfl (.inl rfl) ?_
                  refine L_pu (P_pick false (vb false) (by exact congrArg Value.bool rfl) rfl) ?_
                  refine L_pu (P_assign (vb false) rfl) ?_
                  refine L_nil ?_
                  refine W_ret ?_
                  exact ⟨[vb false], ⟨_, rfl, rfl⟩, false, rfl, H, hc125.gr.g0⟩
            · have H := ite_f H hq111
              refine L_pass (dj := 46) rfl rfl (.inl (by exact congrArg Value.bool hq111)) ?_
              refine L_pass (dj := 46) rfl rfl (.inl (by exact congrArg Value.bool hq111)) ?_
              refine L_pass (dj := 46) rfl rfl (.inl (by exact congrArg Value.bool hq111)) ?_
              refine L_pass (dj := 46) rfl rfl (.inl (by exact congrArg Value.bool hq111)) ?_
              refine L_pass (dj := 46) rfl rfl (.inl (by exact congrArg Value.bool hq111)) ?_
              refine L_run (dj := 42) rfl rfl rfl ?_
              refine L_pu (P_pick false (vb false) (by exact congrArg Value.bool hq111) rfl) ?_
              refine L_pu (P_pick false (vb false) (by exact congrArg Value.bool rfl) rfl) ?_
              refine L_nil ?_
              refine W_cf (b := false) rfl rfl ?_
              refine W_skip ?_
              refine W_seq ?_
              refine W_reg ?_
              refine L_pu (P_fa fa103_1 ⟨b25, 0, none⟩ ⟨b25, 1, none⟩ rfl rfl) ?_
              refine L_pu (P_ld ag4 cL ⟨b25, 1, none⟩ (vb c_.Had) rfl (h110.cell rfl)) ?_
              refine L_pu (P_not c_.Had rfl) ?_
              refine L_pu (P_move (vb (!c_.Had)) rfl) ?_
              refine L_run (dj := 57) rfl rfl (by exact congrArg Value.bool hq41) ?_
              refine L_pu (P_fa fa103_2 ⟨b25, 0, none⟩ ⟨b25, 2, none⟩ rfl rfl) ?_
              refine L_run (dj := 57) rfl rfl (by exact congrArg Value.bool hq41) ?_
              refine L_pu (P_lda ag71 sz71 cL ⟨b25, 2, none⟩ [vs c_.Was.Id, vi c_.Was.Shape.Kind, .slice A3 n4 c5, .slice A8 n9 c10] rfl rfl (h110.cells (off := 2) rfl)) ?_
              refine L_run (dj := 57) rfl rfl (by exact congrArg Value.bool hq41) ?_
              refine L_call go89 [.agg #[vs c_.Was.Id, vi c_.Was.Shape.Kind, .slice A3 n4 c5, .slice A8 n9 c10]] rfl ((spec_FeatOk.calls w103 hc108.ok c_.Was A3 n4 c5 A8 n9 c10 hs2 (hp6.st hc108.st) (hp11.st hc108.st) _ H).mono ?_)
              rintro _ w129 ⟨r12, rfl, H, g130⟩
              have hc134 := hc108.k0 g130
              refine L_run (dj := 57) rfl rfl (by exact congrArg Value.bool hq41) ?_
              refine L_pu (P_move (vb r12) rfl) ?_
              rcases bool_or r12 with hq135 | hq135
              · have H := ite_t H hq135
                refine L_run (dj := 61) rfl rfl (by exact congrArg Value.bool hq135) ?_
                refine L_pu (P_fa fa103_2 ⟨b25, 0, none⟩ ⟨b25, 2, none⟩ rfl rfl) ?_
                refine L_run (dj := 61) rfl rfl (by exact congrArg Value.bool hq135) ?_
                refine L_pu (P_fa fa71_0 ⟨b25, 2, none⟩ ⟨b25, 2, none⟩ rfl rfl) ?_
                refine L_run (dj := 61) rfl rfl (by exact congrArg Value.bool hq135) ?_
                have h136 := (h110.st (.new _ g130))
                refine L_pu (P_ld ag9 cL ⟨b25, 2, none⟩ (vs c_.Was.Id) rfl (h136.cell rfl)) ?_
                refine L_run (dj := 61) rfl rfl (by exact congrArg Value.bool hq135) ?_
                refine L_pu (P_fa fa103_0 ⟨b25, 0, none⟩ ⟨b25, 0, none⟩ rfl rfl) ?_
                refine L_run (dj := 61) rfl rfl (by exact congrArg Value.bool hq135) ?_
                refine L_pu (P_ld ag9 cL ⟨b25, 0, none⟩ (vs c_.Id) rfl (h136.cell rfl)) ?_
                refine L_run (dj := 61) rfl rfl (by exact congrArg Value.bool hq135) ?_
                refine L_pu (P_scmp c_.Was.Id c_.Id (c_.Was.Id == c_.Id) rfl rfl rfl) ?_
                refine L_run (dj := 57) rfl rfl (by exact congrArg Value.bool hq41) ?_
                refine L_pu (P_pick true (vb (c_.Was.Id == c_.Id)) (by exact congrArg Value.bool hq135) rfl) ?_
                refine L_pu (P_pick false (vb (c_.Was.Id == c_.Id)) (by exact congrArg Value.bool hq41) rfl) ?_
                refine L_pu (P_move (vb (c_.Was.Id == c_.Id)) rfl) ?_
                rcases bool_or (c_.Was.Id == c_.Id) with hq137 | hq137
                · have H := ite_t H hq137
                  refine L_run (dj := 70) rfl rfl (by exact congrArg Value.bool hq137) ?_
                  refine L_pu (P_fa fa103_3 ⟨b25, 0, none⟩ ⟨b25, 6, none⟩ rfl rfl) ?_
                  refine L_run (dj := 70) rfl rfl (by exact congrArg Value.bool hq137) ?_
                  refine L_pu (P_ld ag4 cL ⟨b25, 6, none⟩ (vb c_.Has) rfl (h136.cell rfl)) ?_
                  refine L_run (dj := 70) rfl rfl (by exact congrArg Value.bool hq137) ?_
                  refine L_pu (P_not c_.Has rfl) ?_
                  refine L_run (dj := 70) rfl rfl (by exact congrArg Value.bool hq137) ?_
                  refine L_pu (P_move (vb (!c_.Has)) rfl) ?_
                  refine L_run (dj := 74) rfl rfl (by exact congrArg Value.bool hq111) ?_
                  refine L_pu (P_fa fa103_4 ⟨b25, 0, none⟩ ⟨b25, 7, none⟩ rfl rfl) ?_
                  refine L_run (dj := 74) rfl rfl (by exact congrArg Value.bool hq111) ?_
                  refine L_pu (P_lda ag71 sz71 cL ⟨b25, 7, none⟩ [vs c_.Now.Id, vi c_.Now.Shape.Kind, .slice A14 n15 c16, .slice A19 n20 c21] rfl rfl (h136.cells (off := 7) rfl)) ?_
                  refine L_run (dj := 74) rfl rfl (by exact congrArg Value.bool hq111) ?_
                  refine L_call go89 [.agg #[vs c_.Now.Id, vi c_.Now.Shape.Kind, .slice A14 n15 c16, .slice A19 n20 c21]] rfl ((spec_FeatOk.calls w129 hc134.ok c_.Now A14 n15 c16 A19 n20 c21 hs13 (hp17.st hc134.st) (hp22.st hc134.st) _ H).mono ?_)
                  rintro _ w138 ⟨r13, rfl, H, g139⟩
                  have hc143 := hc134.k0 g139
                  refine L_run (dj := 74) rfl rfl (by exact congrArg Value.bool hq111) ?_
                  refine L_pu (P_move (vb r13) rfl) ?_
                  rcases bool_or r13 with hq144 | hq144
                  · have H := ite_t H hq144
                    refine L_run (dj := 78) rfl rfl (by exact congrArg Value.bool hq144) ?_
                    refine L_pu (P_fa fa103_4 ⟨b25, 0, none⟩ ⟨b25, 7, none⟩ rfl rfl) ?_
                    refine L_run (dj := 78) rfl rfl (by exact congrArg Value.bool hq144) ?_
                    refine L_pu (P_fa fa71_0 ⟨b25, 7, none⟩ ⟨b25, 7, none⟩ rfl rfl) ?_
                    refine L_run (dj := 78) rfl rfl (by exact congrArg Value.bool hq144) ?_
                    have h145 := (h136.st (.new _ g139))
                    refine L_pu (P_ld ag9 cL ⟨b25, 7, none⟩ (vs c_.Now.Id) rfl (h145.cell rfl)) ?_
                    refine L_run (dj := 78) rfl rfl (by exact congrArg Value.bool hq144) ?_
                    refine L_pu (P_fa fa103_0 ⟨b25, 0, none⟩ ⟨b25, 0, none⟩ rfl rfl) ?_
                    refine L_run (dj := 78) rfl rfl (by exact congrArg Value.bool hq144) ?_
                    refine L_pu (P_ld ag9 cL ⟨b25, 0, none⟩ (vs c_.Id) rfl (h145.cell rfl)) ?_
                    refine L_run (dj := 78) rfl rfl (by exact congrArg Value.bool hq144) ?_
                    refine L_pu (P_scmp c_.Now.Id c_.Id (c_.Now.Id == c_.Id) rfl rfl rfl) ?_
                    refine L_run (dj := 74) rfl rfl (by exact congrArg Value.bool hq111) ?_
                    refine L_pu (P_pick true (vb (c_.Now.Id == c_.Id)) (by exact congrArg Value.bool hq144) rfl) ?_
                    refine L_run (dj := 70) rfl rfl (by exact congrArg Value.bool hq137) ?_
                    refine L_pu (P_pick false (vb (c_.Now.Id == c_.Id)) (by exact congrArg Value.bool hq111) rfl) ?_
                    refine L_pu (P_pick true (vb (c_.Now.Id == c_.Id)) (by exact congrArg Value.bool hq137) rfl) ?_
                    refine L_pu (P_assign (vb (c_.Now.Id == c_.Id)) rfl) ?_
                    refine L_nil ?_
                    refine W_ret ?_
                    exact ⟨[vb (c_.Now.Id == c_.Id)], ⟨_, rfl, rfl⟩, c_.Now.Id == c_.Id, rfl, H, hc143.gr.g0⟩
                  · have H := ite_f H hq144
                    refine L_pass (dj := 78) rfl rfl (.inl (by exact congrArg Value.bool hq144)) ?_
                    refine L_pass (dj := 78) rfl rfl (.inl (by exact congrArg Value.bool hq144)) ?_
                    refine L_pass (dj := 78) rfl rfl (.inl (by exact congrArg Value.bool hq144)) ?_
                    refine L_pass (dj := 78) rfl rfl (.inl (by exact congrArg Value.bool hq144)) ?_
                    refine L_pass (dj := 78) rfl rfl (.inl (by exact congrArg Value.bool hq144)) ?_
                    refine L_pass (dj := 78) rfl rfl (.inl (by exact congrArg Value.bool hq144)) ?_
                    refine L_run (dj := 74) rfl rfl (by exact congrArg Value.bool hq111) ?_
                    refine L_pu (P_pick false (vb false) (by exact congrArg Value.bool hq144) rfl) ?_
                    refine L_run (dj := 70) rfl rfl (by exact congrArg Value.bool hq137) ?_
                    refine L_pu (P_pick false (vb false) (by exact congrArg Value.bool hq111) rfl) ?_
                    refine L_pu (P_pick true (vb false) (by exact congrArg Value.bool hq137) rfl) ?_
                    refine L_pu (P_assign (vb false) rfl) ?_
                    refine L_nil ?_
                    refine W_ret ?_
                    exact ⟨[vb false], ⟨_, rfl, rfl⟩, false, rfl, H, hc143.gr.g0⟩
                · have H := ite_f H hq137
                  refine L_pass (dj := 70) rfl rfl (.inl (by exact congrArg Value.bool hq137)) ?_
                  refine L_pass (dj := 70) rfl rfl (.inl (by exact congrArg Value.bool hq137)) ?_
                  refine L_pass (dj := 70) rfl rfl (.inl (by exact congrArg Value.bool hq137)) ?_
                  refine L_pass (dj := 70) rfl rfl (.inl (by exact congrArg Value.bool hq137)) ?_
                  refine L_pass (dj := 74) rfl rfl (.inr rfl) ?_
                  refine L_pass (dj := 74) rfl rfl (.inr rfl) ?_
                  refine L_pass (dj := 74) rfl rfl (.inr rfl) ?_
                  refine L_pass (dj := 74) rfl rfl (.inr rfl) ?_
                  refine L_pass (dj := 78) rfl rfl (.inr rfl) ?_
                  refine L_pass (dj := 78) rfl rfl (.inr rfl) ?_
                  refine L_pass (dj := 78) rfl rfl (.inr rfl) ?_
                  refine L_pass (dj := 78) rfl rfl (.inr rfl) ?_
                  refine L_pass (dj := 78) rfl rfl (.inr rfl) ?_
                  refine L_pass (dj := 78) rfl rfl (.inr rfl) ?_
                  refine L_pass (dj := 74) rfl rfl (.inr rfl) ?_
                  refine L_pass (dj := 70) rfl rfl (.inl (by exact congrArg Value.bool hq137)) ?_
                  refine L_pu (P_pick false (vb false) (by exact congrArg Value.bool hq137) rfl) ?_
                  refine L_pu (P_assign (vb false) rfl) ?_
                  refine L_nil ?_
                  refine W_ret ?_
                  exact ⟨[vb false], ⟨_, rfl, rfl⟩, false, rfl, H, hc134.gr.g0⟩
              · have H := ite_f H hq135
                refine L_pass (dj := 61) rfl rfl (.inl (by exact congrArg Value.bool hq135)) ?_
                refine L_pass (dj := 61) rfl rfl (.inl (by exact congrArg Value.bool hq135)) ?_
                refine L_pass (dj := 61) rfl rfl (.inl (by exact congrArg Value.bool hq135)) ?_
                refine L_pass (dj := 61) rfl rfl (.inl (by exact congrArg Value.bool hq135)) ?_
                refine L_pass (dj := 61) rfl rfl (.inl (by exact congrArg Value.bool hq135)) ?_
                refine L_pass (dj := 61) rfl rfl (.inl (by exact congrArg Value.bool hq135)) ?_
                refine L_run (dj := 57) rfl rfl (by exact congrArg Value.bool hq41) ?_
                refine L_pu (P_pick false (vb false) (by exact congrArg Value.bool hq135) rfl) ?_
                refine L_pu (P_pick false (vb false) (by exact congrArg Value.bool hq41) rfl) ?_
                refine L_pu (P_move (vb false) rfl) ?_
                refine L_pass (dj := 70) rfl rfl (.inl rfl) ?_
                refine L_pass (dj := 70) rfl rfl (.inl rfl) ?_
                refine L_pass (dj := 70) rfl rfl (.inl rfl) ?_
                refine L_pass (dj := 70) rfl rfl (.inl rfl) ?_
                refine L_pass (dj := 74) rfl rfl (.inr rfl) ?_
                refine L_pass (dj := 74) rfl rfl (.inr rfl) ?_
                refine L_pass (dj := 74) rfl rfl (.inr rfl) ?_
                refine L_pass (dj := 74) rfl rfl (.inr rfl) ?_
                refine L_pass (dj := 78) rfl rfl (.inr rfl) ?_
                refine L_pass (dj := 78) rfl rfl (.inr rfl) ?_
                refine L_pass (dj := 78) rfl rfl (.inr rfl) ?_
                refine L_pass (dj := 78) rfl rfl (.inr rfl) ?_
                refine L_pass (dj := 78) rfl rfl (.inr rfl) ?_
                refine L_pass (dj := 78) rfl rfl (.inr rfl) ?_
                refine L_pass (dj := 74) rfl rfl (.inr rfl) ?_
                refine L_pass (dj := 70) rfl rfl (.inl rfl) ?_
                refine L_pu (P_pick false (vb false) (by exact congrArg Value.bool rfl) rfl) ?_
                refine L_pu (P_assign (vb false) rfl) ?_
                refine L_nil ?_
                refine W_ret ?_
                exact ⟨[vb false], ⟨_, rfl, rfl⟩, false, rfl, H, hc134.gr.g0⟩
        · have H := ite_f H hq102
          refine L_pass (dj := 24) rfl rfl (.inl (by exact congrArg Value.bool hq102)) ?_
          refine L_pass (dj := 24) rfl rfl (.inl (by exact congrArg Value.bool hq102)) ?_
          refine L_pass (dj := 24) rfl rfl (.inl (by exact congrArg Value.bool hq102)) ?_
          refine L_pass (dj := 24) rfl rfl (.inl (by exact congrArg Value.bool hq102)) ?_
          refine L_pass (dj := 24) rfl rfl (.inl (by exact congrArg Value.bool hq102)) ?_
          refine L_run (dj := 17) rfl rfl rfl ?_
          refine L_pu (P_pick false (vb false) (by exact congrArg Value.bool hq102) rfl) ?_
          refine L_pu (P_pick false (vb false) (by exact congrArg Value.bool rfl) rfl) ?_
          refine L_nil ?_
          refine W_cf (b := false) rfl rfl ?_
          refine W_skip ?_
          refine W_seq ?_
          refine W_seq ?_
          refine W_reg ?_
          refine L_pu (P_fa fa103_1 ⟨b25, 0, none⟩ ⟨b25, 1, none⟩ rfl rfl) ?_
          refine L_pu (P_ld ag4 cL ⟨b25, 1, none⟩ (vb c_.Had) rfl (h40.cell rfl)) ?_
          refine L_pu (P_not c_.Had rfl) ?_
          refine L_pu (P_move (vb (!c_.Had)) rfl) ?_
          refine L_pass (dj := 35) rfl rfl (.inl (by exact congrArg Value.bool hq41)) ?_
          refine L_pass (dj := 35) rfl rfl (.inl (by exact congrArg Value.bool hq41)) ?_
          refine L_pass (dj := 35) rfl rfl (.inl (by exact congrArg Value.bool hq41)) ?_
          refine L_pass (dj := 35) rfl rfl (.inl (by exact congrArg Value.bool hq41)) ?_
          refine L_pass (dj := 35) rfl rfl (.inl (by exact congrArg Value.bool hq41)) ?_
          refine L_pu (P_pick false (vb false) (by exact congrArg Value.bool hq41) rfl) ?_
          refine L_pu (P_move (vb false) rfl) ?_
          refine L_run (dj := 42) rfl rfl rfl ?_
          refine L_pu (P_fa fa103_3 ⟨b25, 0, none⟩ ⟨b25, 6, none⟩ rfl rfl) ?_
          refine L_run (dj := 42) rfl rfl rfl ?_
          refine L_pu (P_ld ag4 cL ⟨b25, 6, none⟩ (vb c_.Has) rfl (h40.cell rfl)) ?_
          refine L_run (dj := 42) rfl rfl rfl ?_
          refine L_pu (P_not c_.Has rfl) ?_
          refine L_run (dj := 42) rfl rfl rfl ?_
          refine L_pu (P_move (vb (!c_.Has)) rfl) ?_
          rcases bool_or (!c_.Has) with hq146 | hq146
          · have H := ite_t H hq146
            refine L_run (dj := 46) rfl rfl (by exact congrArg Value.bool hq146) ?_
            refine L_pu (P_fa fa103_4 ⟨b25, 0, none⟩ ⟨b25, 7, none⟩ rfl rfl) ?_
            refine L_run (dj := 46) rfl rfl (by exact congrArg Value.bool hq146) ?_
            refine L_pu (P_lda ag71 sz71 cL ⟨b25, 7, none⟩ [vs c_.Now.Id, vi c_.Now.Shape.Kind, .slice A14 n15 c16, .slice A19 n20 c21] rfl rfl (h40.cells (off := 7) rfl)) ?_
            refine L_run (dj := 46) rfl rfl (by exact congrArg Value.bool hq146) ?_
            refine L_pu (P_build (.agg #[vs ([] : Str), vi 0, .slice none 0 0, .slice none 0 0]) (fun _ => by kernel_rfl)) ?_
            refine L_run (dj := 46) rfl rfl (by exact congrArg Value.bool hq146) ?_
            refine L_call go79 [.agg #[vs c_.Now.Id, vi c_.Now.Shape.Kind, .slice A14 n15 c16, .slice A19 n20 c21], .agg #[vs ([] : Str), vi 0, .slice none 0 0, .slice none 0 0]] rfl ((spec_FeatSame.calls w33 hc38.ok c_.Now A14 n15 c16 A19 n20 c21 hs13 (hp17.st hc38.st) (hp22.st hc38.st) (⟨([] : Str), (⟨0, []⟩ : Shape), []⟩ : Feat) none 0 0 none 0 0 (by decide) (Sl.nil _ _ _ none 0 (by decide)) (Sl.nil _ _ _ none 0 (by decide)) _ H).mono ?_)
            rintro _ w147 ⟨r14, rfl, H, g148⟩
            have hc152 := hc38.k0 g148
            refine L_run (dj := 46) rfl rfl (by exact congrArg Value.bool hq146) ?_
            refine L_pu (P_not r14 rfl) ?_
            refine L_run (dj := 42) rfl rfl rfl ?_
            refine L_pu (P_pick true (vb (!r14)) (by exact congrArg Value.bool hq146) rfl) ?_
            refine L_pu (P_pick false (vb (!r14)) (by exact congrArg Value.bool rfl) rfl) ?_
            refine L_nil ?_
            refine W_cond (!r14) rfl (fun hq153 => ?_) (fun hq153 => ?_)
            · have H := ite_t H hq153
              refine W_seq ?_
              refine W_reg ?_
              refine L_pu (P_assign (vb false) rfl) ?_
              refine L_nil ?_
              refine W_ret ?_
              exact ⟨[vb false], ⟨_, rfl, rfl⟩, false, rfl, H, hc152.gr.g0⟩
            · have H := ite_f H hq153
              refine W_skip ?_
              refine W_seq ?_
              refine W_reg ?_
              refine L_pu (P_fa fa103_1 ⟨b25, 0, none⟩ ⟨b25, 1, none⟩ rfl rfl) ?_
              have h154 := (h40.st (.new _ g148))
              refine L_pu (P_ld ag4 cL ⟨b25, 1, none⟩ (vb c_.Had) rfl (h154.cell rfl)) ?_
              refine L_pu (P_not c_.Had rfl) ?_
              refine L_pu (P_move (vb (!c_.Had)) rfl) ?_
              refine L_run (dj := 57) rfl rfl (by exact congrArg Value.bool hq41) ?_
              refine L_pu (P_fa fa103_2 ⟨b25, 0, none⟩ ⟨b25, 2, none⟩ rfl rfl) ?_
              refine L_run (dj := 57) rfl rfl (by exact congrArg Value.bool hq41) ?_
              refine L_pu (P_lda ag71 sz71 cL ⟨b25, 2, none⟩ [vs c_.Was.Id, vi c_.Was.Shape.Kind, .slice A3 n4 c5, .slice A8 n9 c10] rfl rfl (h154.cells (off := 2) rfl)) ?_
              refine L_run (dj := 57) rfl rfl (by exact congrArg Value.bool hq41) ?_
              refine L_call go89 [.agg #[vs c_.Was.Id, vi c_.Was.Shape.Kind, .slice A3 n4 c5, .slice A8 n9 c10]] rfl ((spec_FeatOk.calls w147 hc152.ok c_.Was A3 n4 c5 A8 n9 c10 hs2 (hp6.st hc152.st) (hp11.st hc152.st) _ H).mono ?_)
              rintro _ w155 ⟨r15, rfl, H, g156⟩
              have hc160 := hc152.k0 g156
              refine L_run (dj := 57) rfl rfl (by exact congrArg Value.bool hq41) ?_
              refine L_pu (P_move (vb r15) rfl) ?_
              rcases bool_or r15 with hq161 | hq161
              · have H := ite_t H hq161
                refine L_run (dj := 61) rfl rfl (by exact congrArg Value.bool hq161) ?_
                refine L_pu (P_fa fa103_2 ⟨b25, 0, none⟩ ⟨b25, 2, none⟩ rfl rfl) ?_
                refine L_run (dj := 61) rfl rfl (by exact congrArg Value.bool hq161) ?_
                refine L_pu (P_fa fa71_0 ⟨b25, 2, none⟩ ⟨b25, 2, none⟩ rfl rfl) ?_
                refine L_run (dj := 61) rfl rfl (by exact congrArg Value.bool hq161) ?_
                have h162 := (h154.st (.new _ g156))
                refine L_pu (P_ld ag9 cL ⟨b25, 2, none⟩ (vs c_.Was.Id) rfl (h162.cell rfl)) ?_
                refine L_run (dj := 61) rfl rfl (by exact congrArg Value.bool hq161) ?_
                refine L_pu (P_fa fa103_0 ⟨b25, 0, none⟩ ⟨b25, 0, none⟩ rfl rfl) ?_
                refine L_run (dj := 61) rfl rfl (by exact congrArg Value.bool hq161) ?_
                refine L_pu (P_ld ag9 cL ⟨b25, 0, none⟩ (vs c_.Id) rfl (h162.cell rfl)) ?_
                refine L_run (dj := 61) rfl rfl (by exact congrArg Value.bool hq161) ?_
                refine L_pu (P_scmp c_.Was.Id c_.Id (c_.Was.Id == c_.Id) rfl rfl rfl) ?_
                refine L_run (dj := 57) rfl rfl (by exact congrArg Value.bool hq41) ?_
                refine L_pu (P_pick true (vb (c_.Was.Id == c_.Id)) (by exact congrArg Value.bool hq161) rfl) ?_
                refine L_pu (P_pick false (vb (c_.Was.Id == c_.Id)) (by exact congrArg Value.bool hq41) rfl) ?_
                refine L_pu (P_move (vb (c_.Was.Id == c_.Id)) rfl) ?_
                rcases bool_or (c_.Was.Id == c_.Id) with hq163 | hq163
                · have H := ite_t H hq163
                  refine L_run (dj := 70) rfl rfl (by exact congrArg Value.bool hq163) ?_
                  refine L_pu (P_fa fa103_3 ⟨b25, 0, none⟩ ⟨b25, 6, none⟩ rfl rfl) ?_
                  refine L_run (dj := 70) rfl rfl (by exact congrArg Value.bool hq163) ?_
                  refine L_pu (P_ld ag4 cL ⟨b25, 6, none⟩ (vb c_.Has) rfl (h162.cell rfl)) ?_
                  refine L_run (dj := 70) rfl rfl (by exact congrArg Value.bool hq163) ?_
                  refine L_pu (P_not c_.Has rfl) ?_
                  refine L_run (dj := 70) rfl rfl (by exact congrArg Value.bool hq163) ?_
                  refine L_pu (P_move (vb (!c_.Has)) rfl) ?_
                  refine L_pass (dj := 74) rfl rfl (.inl (by exact congrArg Value.bool hq146)) ?_
                  refine L_pass (dj := 74) rfl rfl (.inl (by exact congrArg Value.bool hq146)) ?_
                  refine L_pass (dj := 74) rfl rfl (.inl (by exact congrArg Value.bool hq146)) ?_
                  refine L_pass (dj := 74) rfl rfl (.inl (by exact congrArg Value.bool hq146)) ?_
                  refine L_pass (dj := 78) rfl rfl (.inr rfl) ?_
                  refine L_pass (dj := 78) rfl rfl (.inr rfl) ?_
                  refine L_pass (dj := 78) rfl rfl (.inr rfl) ?_
                  refine L_pass (dj := 78) rfl rfl (.inr rfl) ?_
                  refine L_pass (dj := 78) rfl rfl (.inr rfl) ?_
                  refine L_pass (dj := 78) rfl rfl (.inr rfl) ?_
                  refine L_pass (dj := 74) rfl rfl (.inl (by exact congrArg Value.bool hq146)) ?_
                  refine L_run (dj := 70) rfl rfl (by exact congrArg Value.bool hq163) ?_
                  refine L_pu (P_pick true (vb true) (by exact congrArg Value.bool hq146) rfl) ?_
                  refine L_pu (P_pick true (vb true) (by exact congrArg Value.bool hq163) rfl) ?_
                  refine L_pu (P_assign (vb true) rfl) ?_
                  refine L_nil ?_
                  refine W_ret ?_
                  exact ⟨[vb true], ⟨_, rfl, rfl⟩, true, rfl, H, hc160.gr.g0⟩
                · have H := ite_f H hq163
                  refine L_pass (dj := 70) rfl rfl (.inl (by exact congrArg Value.bool hq163)) ?_
                  refine L_pass (dj := 70) rfl rfl (.inl (by exact congrArg Value.bool hq163)) ?_
                  refine L_pass (dj := 70) rfl rfl (.inl (by exact congrArg Value.bool hq163)) ?_
                  refine L_pass (dj := 70) rfl rfl (.inl (by exact congrArg Value.bool hq163)) ?_
                  refine L_pass (dj := 74) rfl rfl (.inr rfl) ?_
                  refine L_pass (dj := 74) rfl rfl (.inr rfl) ?_
                  refine L_pass (dj := 74) rfl rfl (.inr rfl) ?_
                  refine L_pass (dj := 74) rfl rfl (.inr rfl) ?_
                  refine L_pass (dj := 78) rfl rfl (.inr rfl) ?_
                  refine L_pass (dj := 78) rfl rfl (.inr rfl) ?_
                  refine L_pass (dj := 78) rfl rfl (.inr rfl) ?_
                  refine L_pass (dj := 78) rfl rfl (.inr rfl) ?_
                  refine L_pass (dj := 78) rfl rfl (.inr rfl) ?_
                  refine L_pass (dj := 78) rfl rfl (.inr rfl) ?_
                  refine L_pass (dj := 74) rfl rfl (.inr rfl) ?_
                  refine L_pass (dj := 70) rfl rfl (.inl (by exact congrArg Value.bool hq163)) ?_
                  refine L_pu (P_pick false (vb false) (by exact congrArg Value.bool hq163) rfl) ?_
                  refine L_pu (P_assign (vb false) rfl) ?_
                  refine L_nil ?_
                  refine W_ret ?_
                  exact ⟨[vb false], ⟨_, rfl, rfl⟩, false, rfl, H, hc160.gr.g0⟩
              · have H := ite_f H hq161
                refine L_pass (dj := 61) rfl rfl (.inl (by exact congrArg Value.bool hq161)) ?_
                refine L_pass (dj := 61) rfl rfl (.inl (by exact congrArg Value.bool hq161)) ?_
                refine L_pass (dj := 61) rfl rfl (.inl (by exact congrArg Value.bool hq161)) ?_
                refine L_pass (dj := 61) rfl rfl (.inl (by exact congrArg Value.bool hq161)) ?_
                refine L_pass (dj := 61) rfl rfl (.inl (by exact congrArg Value.bool hq161)) ?_
                refine L_pass (dj := 61) rfl rfl (.inl (by exact congrArg Value.bool hq161)) ?_
                refine L_run (dj := 57) rfl rfl (by exact congrArg Value.bool hq41) ?_
                refine L_pu (P_pick false (vb false) (by exact congrArg Value.bool hq161) rfl) ?_
                refine L_pu (P_pick false (vb false) (by exact congrArg Value.bool hq41) rfl) ?_
                refine L_pu (P_move (vb false) rfl) ?_
                refine L_pass (dj := 70) rfl rfl (.inl rfl) ?_
                refine L_pass (dj := 70) rfl rfl (.inl rfl) ?_
                refine L_pass (dj := 70) rfl rfl (.inl rfl) ?_
                refine L_pass (dj := 70) rfl rfl (.inl rfl) ?_
                refine L_pass (dj := 74) rfl rfl (.inr rfl) ?_
                refine L_pass (dj := 74) rfl rfl (.inr rfl) ?_
                refine L_pass (dj := 74) rfl rfl (.inr rfl) ?_
                refine L_pass (dj := 74) rfl rfl (.inr rfl) ?_
                refine L_pass (dj := 78) rfl rfl (.inr rfl) ?_
                refine L_pass (dj := 78) rfl rfl (.inr rfl) ?_
                refine L_pass (dj := 78) rfl rfl (.inr rfl) ?_
                refine L_pass (dj := 78) rfl rfl (.inr rfl) ?_
                refine L_pass (dj := 78) rfl rfl (.inr rfl) ?_
                refine L_pass (dj := 78) rfl rfl (.inr rfl) ?_
                refine L_pass (dj := 74) rfl rfl (.inr rfl) ?_
                refine L_pass (dj := 70) rfl rfl (.inl rfl) ?_
                refine L_pu (P_pick false (vb false) (by exact congrArg Value.bool rfl) rfl) ?_
                refine L_pu (P_assign (vb false) rfl) ?_
                refine L_nil ?_
                refine W_ret ?_
                exact ⟨[vb false], ⟨_, rfl, rfl⟩, false, rfl, H, hc160.gr.g0⟩
          · have H := ite_f H hq146
            refine L_pass (dj := 46) rfl rfl (.inl (by exact congrArg Value.bool hq146)) ?_
            refine L_pass (dj := 46) rfl rfl (.inl (by exact congrArg Value.bool hq146)) ?_
            refine L_pass (dj := 46) rfl rfl (.inl (by exact congrArg Value.bool hq146)) ?_
            refine L_pass (dj := 46) rfl rfl (.inl (by exact congrArg Value.bool hq146)) ?_
            refine L_pass (dj := 46) rfl rfl (.inl (by exact congrArg Value.bool hq146)) ?_
            refine L_run (dj := 42) rfl rfl rfl ?_
            refine L_pu (P_pick false (vb false) (by exact congrArg Value.bool hq146) rfl) ?_
            refine L_pu (P_pick false (vb false) (by exact congrArg Value.bool rfl) rfl) ?_
            refine L_nil ?_
            refine W_cf (b := false) rfl rfl ?_
            refine W_skip ?_
            refine W_seq ?_
            refine W_reg ?_
            refine L_pu (P_fa fa103_1 ⟨b25, 0, none⟩ ⟨b25, 1, none⟩ rfl rfl) ?_
            refine L_pu (P_ld ag4 cL ⟨b25, 1, none⟩ (vb c_.Had) rfl (h40.cell rfl)) ?_
            refine L_pu (P_not c_.Had rfl) ?_
            refine L_pu (P_move (vb (!c_.Had)) rfl) ?_
            refine L_run (dj := 57) rfl rfl (by exact congrArg Value.bool hq41) ?_
            refine L_pu (P_fa fa103_2 ⟨b25, 0, none⟩ ⟨b25, 2, none⟩ rfl rfl) ?_
            refine L_run (dj := 57) rfl rfl (by exact congrArg Value.bool hq41) ?_
            refine L_pu (P_lda ag71 sz71 cL ⟨b25, 2, none⟩ [vs c_.Was.Id, vi c_.Was.Shape.Kind, .slice A3 n4 c5, .slice A8 n9 c10] rfl rfl (h40.cells (off := 2) rfl)) ?_
            refine L_run (dj := 57) rfl rfl (by exact congrArg Value.bool hq41) ?_
            refine L_call go89 [.agg #[vs c_.Was.Id, vi c_.Was.Shape.Kind, .slice A3 n4 c5, .slice A8 n9 c10]] rfl ((spec_FeatOk.calls w33 hc38.ok c_.Was A3 n4 c5 A8 n9 c10 hs2 (hp6.st hc38.st) (hp11.st hc38.st) _ H).mono ?_)
            rintro _ w164 ⟨r16, rfl, H, g165⟩
            have hc169 := hc38.k0 g165
            refine L_run (dj := 57) rfl rfl (by exact congrArg Value.bool hq41) ?_
            refine L_pu (P_move (vb r16) rfl) ?_
            rcases bool_or r16 with hq170 | hq170
            · have H := ite_t H hq170
              refine L_run (dj := 61) rfl rfl (by exact congrArg Value.bool hq170) ?_
              refine L_pu (P_fa fa103_2 ⟨b25, 0, none⟩ ⟨b25, 2, none⟩ rfl rfl) ?_
              refine L_run (dj := 61) rfl rfl (by exact congrArg Value.bool hq170) ?_
              refine L_pu (P_fa fa71_0 ⟨b25, 2, none⟩ ⟨b25, 2, none⟩ rfl rfl) ?_
              refine L_run (dj := 61) rfl rfl (by exact congrArg Value.bool hq170) ?_
              have h171 := (h40.st (.new _ g165))
              refine L_pu (P_ld ag9 cL ⟨b25, 2, none⟩ (vs c_.Was.Id) rfl (h171.cell rfl)) ?_
              refine L_run (dj := 61) rfl rfl (by exact congrArg Value.bool hq170) ?_
              refine L_pu (P_fa fa103_0 ⟨b25, 0, none⟩ ⟨b25, 0, none⟩ rfl rfl) ?_
              refine L_run (dj := 61) rfl rfl (by exact congrArg Value.bool hq170) ?_
              refine L_pu (P_ld ag9 cL ⟨b25, 0, none⟩ (vs c_.Id) rfl (h171.cell rfl)) ?_
              refine L_run (dj := 61) rfl rfl (by exact congrArg Value.bool hq170) ?_
              refine L_pu (P_scmp c_.Was.Id c_.Id (c_.Was.Id == c_.Id) rfl rfl rfl) ?_
              refine L_run (dj := 57) rfl rfl (by exact congrArg Value.bool hq41) ?_
              refine L_pu (P_pick true (vb (c_.Was.Id == c_.Id)) (by exact congrArg Value.bool hq170) rfl) ?_
              refine L_pu (P_pick false (vb (c_.Was.Id == c_.Id)) (by exact congrArg Value.bool hq41) rfl) ?_
              refine L_pu (P_move (vb (c_.Was.Id == c_.Id)) rfl) ?_
              rcases bool_or (c_.Was.Id == c_.Id) with hq172 | hq172
              · have H := ite_t H hq172
                refine L_run (dj := 70) rfl rfl (by exact congrArg Value.bool hq172) ?_
                refine L_pu (P_fa fa103_3 ⟨b25, 0, none⟩ ⟨b25, 6, none⟩ rfl rfl) ?_
                refine L_run (dj := 70) rfl rfl (by exact congrArg Value.bool hq172) ?_
                refine L_pu (P_ld ag4 cL ⟨b25, 6, none⟩ (vb c_.Has) rfl (h171.cell rfl)) ?_
                refine L_run (dj := 70) rfl rfl (by exact congrArg Value.bool hq172) ?_
                refine L_pu (P_not c_.Has rfl) ?_
                refine L_run (dj := 70) rfl rfl (by exact congrArg Value.bool hq172) ?_
                refine L_pu (P_move (vb (!c_.Has)) rfl) ?_
                refine L_run (dj := 74) rfl rfl (by exact congrArg Value.bool hq146) ?_
                refine L_pu (P_fa fa103_4 ⟨b25, 0, none⟩ ⟨b25, 7, none⟩ rfl rfl) ?_
                refine L_run (dj := 74) rfl rfl (by exact congrArg Value.bool hq146) ?_
                refine L_pu (P_lda ag71 sz71 cL ⟨b25, 7, none⟩ [vs c_.Now.Id, vi c_.Now.Shape.Kind, .slice A14 n15 c16, .slice A19 n20 c21] rfl rfl (h171.cells (off := 7) rfl)) ?_
                refine L_run (dj := 74) rfl rfl (by exact congrArg Value.bool hq146) ?_
                refine L_call go89 [.agg #[vs c_.Now.Id, vi c_.Now.Shape.Kind, .slice A14 n15 c16, .slice A19 n20 c21]] rfl ((spec_FeatOk.calls w164 hc169.ok c_.Now A14 n15 c16 A19 n20 c21 hs13 (hp17.st hc169.st) (hp22.st hc169.st) _ H).mono ?_)
                rintro _ w173 ⟨r17, rfl, H, g174⟩
                have hc178 := hc169.k0 g174
                refine L_run (dj := 74) rfl rfl (by exact congrArg Value.bool hq146) ?_
                refine L_pu (P_move (vb r17) rfl) ?_
                rcases bool_or r17 with hq179 | hq179
                · have H := ite_t H hq179
                  refine L_run (dj := 78) rfl rfl (by exact congrArg Value.bool hq179) ?_
                  refine L_pu (P_fa fa103_4 ⟨b25, 0, none⟩ ⟨b25, 7, none⟩ rfl rfl) ?_
                  refine L_run (dj := 78) rfl rfl (by exact congrArg Value.bool hq179) ?_
                  refine L_pu (P_fa fa71_0 ⟨b25, 7, none⟩ ⟨b25, 7, none⟩ rfl rfl) ?_
                  refine L_run (dj := 78) rfl rfl (by exact congrArg Value.bool hq179) ?_
                  have h180 := (h171.st (.new _ g174))
                  refine L_pu (P_ld ag9 cL ⟨b25, 7, none⟩ (vs c_.Now.Id) rfl (h180.cell rfl)) ?_
                  refine L_run (dj := 78) rfl rfl (by exact congrArg Value.bool hq179) ?_
                  refine L_pu (P_fa fa103_0 ⟨b25, 0, none⟩ ⟨b25, 0, none⟩ rfl rfl) ?_
                  refine L_run (dj := 78) rfl rfl (by exact congrArg Value.bool hq179) ?_
                  refine L_pu (P_ld ag9 cL ⟨b25, 0, none⟩ (vs c_.Id) rfl (h180.cell rfl)) ?_
                  refine L_run (dj := 78) rfl rfl (by exact congrArg Value.bool hq179) ?_
                  refine L_pu (P_scmp c_.Now.Id c_.Id (c_.Now.Id == c_.Id) rfl rfl rfl) ?_
                  refine L_run (dj := 74) rfl rfl (by exact congrArg Value.bool hq146) ?_
                  refine L_pu (P_pick true (vb (c_.Now.Id == c_.Id)) (by exact congrArg Value.bool hq179) rfl) ?_
                  refine L_run (dj := 70) rfl rfl (by exact congrArg Value.bool hq172) ?_
                  refine L_pu (P_pick false (vb (c_.Now.Id == c_.Id)) (by exact congrArg Value.bool hq146) rfl) ?_
                  refine L_pu (P_pick true (vb (c_.Now.Id == c_.Id)) (by exact congrArg Value.bool hq172) rfl) ?_
                  refine L_pu (P_assign (vb (c_.Now.Id == c_.Id)) rfl) ?_
                  refine L_nil ?_
                  refine W_ret ?_
                  exact ⟨[vb (c_.Now.Id == c_.Id)], ⟨_, rfl, rfl⟩, c_.Now.Id == c_.Id, rfl, H, hc178.gr.g0⟩
                · have H := ite_f H hq179
                  refine L_pass (dj := 78) rfl rfl (.inl (by exact congrArg Value.bool hq179)) ?_
                  refine L_pass (dj := 78) rfl rfl (.inl (by exact congrArg Value.bool hq179)) ?_
                  refine L_pass (dj := 78) rfl rfl (.inl (by exact congrArg Value.bool hq179)) ?_
                  refine L_pass (dj := 78) rfl rfl (.inl (by exact congrArg Value.bool hq179)) ?_
                  refine L_pass (dj := 78) rfl rfl (.inl (by exact congrArg Value.bool hq179)) ?_
                  refine L_pass (dj := 78) rfl rfl (.inl (by exact congrArg Value.bool hq179)) ?_
                  refine L_run (dj := 74) rfl rfl (by exact congrArg Value.bool hq146) ?_
                  refine L_pu (P_pick false (vb false) (by exact congrArg Value.bool hq179) rfl) ?_
                  refine L_run (dj := 70) rfl rfl (by exact congrArg Value.bool hq172) ?_
                  refine L_pu (P_pick false (vb false) (by exact congrArg Value.bool hq146) rfl) ?_
                  refine L_pu (P_pick true (vb false) (by exact congrArg Value.bool hq172) rfl) ?_
                  refine L_pu (P_assign (vb false) rfl) ?_
                  refine L_nil ?_
                  refine W_ret ?_
                  exact ⟨[vb false], ⟨_, rfl, rfl⟩, false, rfl, H, hc178.gr.g0⟩
              · have H := ite_f H hq172
                refine L_pass (dj := 70) rfl rfl (.inl (by exact congrArg Value.bool hq172)) ?_
                refine L_pass (dj := 70) rfl rfl (.inl (by exact congrArg Value.bool hq172)) ?_
                refine L_pass (dj := 70) rfl rfl (.inl (by exact congrArg Value.bool hq172)) ?_
                refine L_pass (dj := 70) rfl rfl (.inl (by exact congrArg Value.bool hq172)) ?_
                refine L_pass (dj := 74) rfl rfl (.inr rfl) ?_
                refine L_pass (dj := 74) rfl rfl (.inr rfl) ?_
                refine L_pass (dj := 74) rfl rfl (.inr rfl) ?_
                refine L_pass (dj := 74) rfl rfl (.inr rfl) ?_
                refine L_pass (dj := 78) rfl rfl (.inr rfl) ?_
                refine L_pass (dj := 78) rfl rfl (.inr rfl) ?_
                refine L_pass (dj := 78) rfl rfl (.inr rfl) ?_
                refine L_pass (dj := 78) rfl rfl (.inr rfl) ?_
                refine L_pass (dj := 78) rfl rfl (.inr rfl) ?_
                refine L_pass (dj := 78) rfl rfl (.inr rfl) ?_
                refine L_pass (dj := 74) rfl rfl (.inr rfl) ?_
                refine L_pass (dj := 70) rfl rfl (.inl (by exact congrArg Value.bool hq172)) ?_
                refine L_pu (P_pick false (vb false) (by exact congrArg Value.bool hq172) rfl) ?_
                refine L_pu (P_assign (vb false) rfl) ?_
                refine L_nil ?_
                refine W_ret ?_
                exact ⟨[vb false], ⟨_, rfl, rfl⟩, false, rfl, H, hc169.gr.g0⟩
            · have H := ite_f H hq170
              refine L_pass (dj := 61) rfl rfl (.inl (by exact congrArg Value.bool hq170)) ?_
              refine L_pass (dj := 61) rfl rfl (.inl (by exact congrArg Value.bool hq170)) ?_
              refine L_pass (dj := 61) rfl rfl (.inl (by exact congrArg Value.bool hq170)) ?_
              refine L_pass (dj := 61) rfl rfl (.inl (by exact congrArg Value.bool hq170)) ?_
              refine L_pass (dj := 61) rfl rfl (.inl (by exact congrArg Value.bool hq170)) ?_
              refine L_pass (dj := 61) rfl rfl (.inl (by exact congrArg Value.bool hq170)) ?_
              refine L_run (dj := 57) rfl rfl (by exact congrArg Value.bool hq41) ?_
              refine L_pu (P_pick false (vb false) (by exact congrArg Value.bool hq170) rfl) ?_
              refine L_pu (P_pick false (vb false) (by exact congrArg Value.bool hq41) rfl) ?_
              refine L_pu (P_move (vb false) rfl) ?_
              refine L_pass (dj := 70) rfl rfl (.inl rfl) ?_
              refine L_pass (dj := 70) rfl rfl (.inl rfl) ?_
              refine L_pass (dj := 70) rfl rfl (.inl rfl) ?_
              refine L_pass (dj := 70) rfl rfl (.inl rfl) ?_
              refine L_pass (dj := 74) rfl rfl (.inr rfl) ?_
              refine L_pass (dj := 74) rfl rfl (.inr rfl) ?_
              refine L_pass (dj := 74) rfl rfl (.inr rfl) ?_
              refine L_pass (dj := 74) rfl rfl (.inr rfl) ?_
              refine L_pass (dj := 78) rfl rfl (.inr rfl) ?_
              refine L_pass (dj := 78) rfl rfl (.inr rfl) ?_
              refine L_pass (dj := 78) rfl rfl (.inr rfl) ?_
              refine L_pass (dj := 78) rfl rfl (.inr rfl) ?_
              refine L_pass (dj := 78) rfl rfl (.inr rfl) ?_
              refine L_pass (dj := 78) rfl rfl (.inr rfl) ?_
              refine L_pass (dj := 74) rfl rfl (.inr rfl) ?_
              refine L_pass (dj := 70) rfl rfl (.inl rfl) ?_
              refine L_pu (P_pick false (vb false) (by exact congrArg Value.bool rfl) rfl) ?_
              refine L_pu (P_assign (vb false) rfl) ?_
              refine L_nil ?_
              refine W_ret ?_
              exact ⟨[vb false], ⟨_, rfl, rfl⟩, false, rfl, H, hc169.gr.g0⟩
      · have H := ite_f H hq101
        refine L_pass (dj := 20) rfl rfl (.inl (by exact congrArg Value.bool hq101)) ?_
        refine L_pass (dj := 20) rfl rfl (.inl (by exact congrArg Value.bool hq101)) ?_
        refine L_run (dj := 17) rfl rfl rfl ?_
        refine L_pu (P_pick false (vb false) (by exact congrArg Value.bool hq101) rfl) ?_
        refine L_run (dj := 17) rfl rfl rfl ?_
        refine L_pu (P_move (vb false) rfl) ?_
        refine L_pass (dj := 24) rfl rfl (.inl rfl) ?_
        refine L_pass (dj := 24) rfl rfl (.inl rfl) ?_
        refine L_pass (dj := 24) rfl rfl (.inl rfl) ?_
        refine L_pass (dj := 24) rfl rfl (.inl rfl) ?_
        refine L_pass (dj := 24) rfl rfl (.inl rfl) ?_
        refine L_run (dj := 17) rfl rfl rfl ?_
        refine L_pu (P_pick false (vb false) (by exact congrArg Value.bool rfl) rfl) ?_
        refine L_pu (P_pick false (vb false) (by exact congrArg Value.bool rfl) rfl) ?_
        refine L_nil ?_
        refine W_cf (b := false) rfl rfl ?_
        refine W_skip ?_
        refine W_seq ?_
        refine W_seq ?_
        refine W_reg ?_
        refine L_pu (P_fa fa103_1 ⟨b25, 0, none⟩ ⟨b25, 1, none⟩ rfl rfl) ?_
        refine L_pu (P_ld ag4 cL ⟨b25, 1, none⟩ (vb c_.Had) rfl (h40.cell rfl)) ?_
        refine L_pu (P_not c_.Had rfl) ?_
        refine L_pu (P_move (vb (!c_.Had)) rfl) ?_
        refine L_pass (dj := 35) rfl rfl (.inl (by exact congrArg Value.bool hq41)) ?_
        refine L_pass (dj := 35) rfl rfl (.inl (by exact congrArg Value.bool hq41)) ?_
        refine L_pass (dj := 35) rfl rfl (.inl (by exact congrArg Value.bool hq41)) ?_
        refine L_pass (dj := 35) rfl rfl (.inl (by exact congrArg Value.bool hq41)) ?_
        refine L_pass (dj := 35) rfl rfl (.inl (by exact congrArg Value.bool hq41)) ?_
        refine L_pu (P_pick false (vb false) (by exact congrArg Value.bool hq41) rfl) ?_
        refine L_pu (P_move (vb false) rfl) ?_
        refine L_run (dj := 42) rfl rfl rfl ?_
        refine L_pu (P_fa fa103_3 ⟨b25, 0, none⟩ ⟨b25, 6, none⟩ rfl rfl) ?_
        refine L_run (dj := 42) rfl rfl rfl ?_
        refine L_pu (P_ld ag4 cL ⟨b25, 6, none⟩ (vb c_.Has) rfl (h40.cell rfl)) ?_
        refine L_run (dj := 42) rfl rfl rfl ?_
        refine L_pu (P_not c_.Has rfl) ?_
        refine L_run (dj := 42) rfl rfl rfl ?_
        refine L_pu (P_move (vb (!c_.Has)) rfl) ?_
        rcases bool_or (!c_.Has) with hq181 | hq181
        · have H := ite_t H hq181
          refine L_run (dj := 46) rfl rfl (by exact congrArg Value.bool hq181) ?_
          refine L_pu (P_fa fa103_4 ⟨b25, 0, none⟩ ⟨b25, 7, none⟩ rfl rfl) ?_
          refine L_run (dj := 46) rfl rfl (by exact congrArg Value.bool hq181) ?_
          refine L_pu (P_lda ag71 sz71 cL ⟨b25, 7, none⟩ [vs c_.Now.Id, vi c_.Now.Shape.Kind, .slice A14 n15 c16, .slice A19 n20 c21] rfl rfl (h40.cells (off := 7) rfl)) ?_
          refine L_run (dj := 46) rfl rfl (by exact congrArg Value.bool hq181) ?_
          refine L_pu (P_build (.agg #[vs ([] : Str), vi 0, .slice none 0 0, .slice none 0 0]) (fun _ => by kernel_rfl)) ?_
          refine L_run (dj := 46) rfl rfl (by exact congrArg Value.bool hq181) ?_
          refine L_call go79 [.agg #[vs c_.Now.Id, vi c_.Now.Shape.Kind, .slice A14 n15 c16, .slice A19 n20 c21], .agg #[vs ([] : Str), vi 0, .slice none 0 0, .slice none 0 0]] rfl ((spec_FeatSame.calls w33 hc38.ok c_.Now A14 n15 c16 A19 n20 c21 hs13 (hp17.st hc38.st) (hp22.st hc38.st) (⟨([] : Str), (⟨0, []⟩ : Shape), []⟩ : Feat) none 0 0 none 0 0 (by decide) (Sl.nil _ _ _ none 0 (by decide)) (Sl.nil _ _ _ none 0 (by decide)) _ H).mono ?_)
          rintro _ w182 ⟨r18, rfl, H, g183⟩
          have hc187 := hc38.k0 g183
          refine L_run (dj := 46) rfl rfl (by exact congrArg Value.bool hq181) ?_
          refine L_pu (P_not r18 rfl) ?_
          refine L_run (dj := 42) rfl rfl rfl ?_
          refine L_pu (P_pick true (vb (!r18)) (by exact congrArg Value.bool hq181) rfl) ?_
          refine L_pu (P_pick false (vb (!r18)) (by exact congrArg Value.bool rfl) rfl) ?_
          refine L_nil ?_
          refine W_cond (!r18) rfl (fun hq188 => ?_) (fun hq188 => ?_)
          · have H := ite_t H hq188
            refine W_seq ?_
            refine W_reg ?_
            refine L_pu (P_assign (vb false) rfl) ?_
            refine L_nil ?_
            refine W_ret ?_
            exact ⟨[vb false], ⟨_, rfl, rfl⟩, false, rfl, H, hc187.gr.g0⟩
          · have H := ite_f H hq188
            refine W_skip ?_
            refine W_seq ?_
            refine W_reg ?_
            refine L_pu (P_fa fa103_1 ⟨b25, 0, none⟩ ⟨b25, 1, none⟩ rfl rfl) ?_
            have h189 := (h40.st (.new _ g183))
            refine L_pu (P_ld ag4 cL ⟨b25, 1, none⟩ (vb c_.Had) rfl (h189.cell rfl)) ?_
            refine L_pu (P_not c_.Had rfl) ?_
            refine L_pu (P_move (vb (!c_.Had)) rfl) ?_
            refine L_run (dj := 57) rfl rfl (by exact congrArg Value.bool hq41) ?_
            refine L_pu (P_fa fa103_2 ⟨b25, 0, none⟩ ⟨b25, 2, none⟩ rfl rfl) ?_
            refine L_run (dj := 57) rfl rfl (by exact congrArg Value.bool hq41) ?_
            refine L_pu (P_lda ag71 sz71 cL ⟨b25, 2, none⟩ [vs c_.Was.Id, vi c_.Was.Shape.Kind, .slice A3 n4 c5, .slice A8 n9 c10] rfl rfl (h189.cells (off := 2) rfl)) ?_
            refine L_run (dj := 57) rfl rfl (by exact congrArg Value.bool hq41) ?_
            refine L_call go89 [.agg #[vs c_.Was.Id, vi c_.Was.Shape.Kind, .slice A3 n4 c5, .slice A8 n9 c10]] rfl ((spec_FeatOk.calls w182 hc187.ok c_.Was A3 n4 c5 A8 n9 c10 hs2 (hp6.st hc187.st) (hp11.st hc187.st) _ H).mono ?_)
            rintro _ w190 ⟨r19, rfl, H, g191⟩
            have hc195 := hc187.k0 g191
            refine L_run (dj := 57) rfl rfl (by exact congrArg Value.bool hq41) ?_
            refine L_pu (P_move (vb r19) rfl) ?_
            rcases bool_or r19 with hq196 | hq196
            · have H := ite_t H hq196
              refine L_run (dj := 61) rfl rfl (by exact congrArg Value.bool hq196) ?_
              refine L_pu (P_fa fa103_2 ⟨b25, 0, none⟩ ⟨b25, 2, none⟩ rfl rfl) ?_
              refine L_run (dj := 61) rfl rfl (by exact congrArg Value.bool hq196) ?_
              refine L_pu (P_fa fa71_0 ⟨b25, 2, none⟩ ⟨b25, 2, none⟩ rfl rfl) ?_
              refine L_run (dj := 61) rfl rfl (by exact congrArg Value.bool hq196) ?_
              have h197 := (h189.st (.new _ g191))
              refine L_pu (P_ld ag9 cL ⟨b25, 2, none⟩ (vs c_.Was.Id) rfl (h197.cell rfl)) ?_
              refine L_run (dj := 61) rfl rfl (by exact congrArg Value.bool hq196) ?_
              refine L_pu (P_fa fa103_0 ⟨b25, 0, none⟩ ⟨b25, 0, none⟩ rfl rfl) ?_
              refine L_run (dj := 61) rfl rfl (by exact congrArg Value.bool hq196) ?_
              refine L_pu (P_ld ag9 cL ⟨b25, 0, none⟩ (vs c_.Id) rfl (h197.cell rfl)) ?_
              refine L_run (dj := 61) rfl rfl (by exact congrArg Value.bool hq196) ?_
              refine L_pu (P_scmp c_.Was.Id c_.Id (c_.Was.Id == c_.Id) rfl rfl rfl) ?_
              refine L_run (dj := 57) rfl rfl (by exact congrArg Value.bool hq41) ?_
              refine L_pu (P_pick true (vb (c_.Was.Id == c_.Id)) (by exact congrArg Value.bool hq196) rfl) ?_
              refine L_pu (P_pick false (vb (c_.Was.Id == c_.Id)) (by exact congrArg Value.bool hq41) rfl) ?_
              refine L_pu (P_move (vb (c_.Was.Id == c_.Id)) rfl) ?_
              rcases bool_or (c_.Was.Id == c_.Id) with hq198 | hq198
              · have H := ite_t H hq198
                refine L_run (dj := 70) rfl rfl (by exact congrArg Value.bool hq198) ?_
                refine L_pu (P_fa fa103_3 ⟨b25, 0, none⟩ ⟨b25, 6, none⟩ rfl rfl) ?_
                refine L_run (dj := 70) rfl rfl (by exact congrArg Value.bool hq198) ?_
                refine L_pu (P_ld ag4 cL ⟨b25, 6, none⟩ (vb c_.Has) rfl (h197.cell rfl)) ?_
                refine L_run (dj := 70) rfl rfl (by exact congrArg Value.bool hq198) ?_
                refine L_pu (P_not c_.Has rfl) ?_
                refine L_run (dj := 70) rfl rfl (by exact congrArg Value.bool hq198) ?_
                refine L_pu (P_move (vb (!c_.Has)) rfl) ?_
                refine L_pass (dj := 74) rfl rfl (.inl (by exact congrArg Value.bool hq181)) ?_
                refine L_pass (dj := 74) rfl rfl (.inl (by exact congrArg Value.bool hq181)) ?_
                refine L_pass (dj := 74) rfl rfl (.inl (by exact congrArg Value.bool hq181)) ?_
                refine L_pass (dj := 74) rfl rfl (.inl (by exact congrArg Value.bool hq181)) ?_
                refine L_pass (dj := 78) rfl rfl (.inr rfl) ?_
                refine L_pass (dj := 78) rfl rfl (.inr rfl) ?_
                refine L_pass (dj := 78) rfl rfl (.inr rfl) ?_
                refine L_pass (dj := 78) rfl rfl (.inr rfl) ?_
                refine L_pass (dj := 78) rfl rfl (.inr rfl) ?_
                refine L_pass (dj := 78) rfl rfl (.inr rfl) ?_
                refine L_pass (dj := 74) rfl rfl (.inl (by exact congrArg Value.bool hq181)) ?_
                refine L_run (dj := 70) rfl rfl (by exact congrArg Value.bool hq198) ?_
                refine L_pu (P_pick true (vb true) (by exact congrArg Value.bool hq181) rfl) ?_
                refine L_pu (P_pick true (vb true) (by exact congrArg Value.bool hq198) rfl) ?_
                refine L_pu (P_assign (vb true) rfl) ?_
                refine L_nil ?_
                refine W_ret ?_
                exact ⟨[vb true], ⟨_, rfl, rfl⟩, true, rfl, H, hc195.gr.g0⟩
              · have H := ite_f H hq198
                refine L_pass (dj := 70) rfl rfl (.inl (by exact congrArg Value.bool hq198)) ?_
                refine L_pass (dj := 70) rfl rfl (.inl (by exact congrArg Value.bool hq198)) ?_
                refine L_pass (dj := 70) rfl rfl (.inl (by exact congrArg Value.bool hq198)) ?_
                refine L_pass (dj := 70) rfl rfl (.inl (by exact congrArg Value.bool hq198)) ?_
                refine L_pass (dj := 74) rfl rfl (.inr rfl) ?_
                refine L_pass (dj := 74) rfl rfl (.inr rfl) ?_
                refine L_pass (dj := 74) rfl rfl (.inr rfl) ?_
                refine L_pass (dj := 74) rfl rfl (.inr rfl) ?_
                refine L_pass (dj := 78) rfl rfl (.inr rfl) ?_
                refine L_pass (dj := 78) rfl rfl (.inr rfl) ?_
                refine L_pass (dj := 78) rfl rfl (.inr rfl) ?_
                refine L_pass (dj := 78) rfl rfl (.inr rfl) ?_
                refine L_pass (dj := 78) rfl rfl (.inr rfl) ?_
                refine L_pass (dj := 78) rfl rfl (.inr rfl) ?_
                refine L_pass (dj := 74) rfl rfl (.inr rfl) ?_
                refine L_pass (dj := 70) rfl rfl (.inl (by exact congrArg Value.bool hq198)) ?_
                refine L_pu (P_pick false (vb false) (by exact congrArg Value.bool hq198) rfl) ?_
                refine L_pu (P_assign (vb false) rfl) ?_
                refine L_nil ?_
                refine W_ret ?_
                exact ⟨[vb false], ⟨_, rfl, rfl⟩, false, rfl, H, hc195.gr.g0⟩
            · have H := ite_f H hq196
              refine L_pass (dj := 61) rfl rfl (.inl (by exact congrArg Value.bool hq196)) ?_
              refine L_pass (dj := 61) rfl rfl (.inl (by exact congrArg Value.bool hq196)) ?_
              refine L_pass (dj := 61) rfl rfl (.inl (by exact congrArg Value.bool hq196)) ?_
              refine L_pass (dj := 61) rfl rfl (.inl (by exact congrArg Value.bool hq196)) ?_
              refine L_pass (dj := 61) rfl rfl (.inl (by exact congrArg Value.bool hq196)) ?_
              refine L_pass (dj := 61) rfl rfl (.inl (by exact congrArg Value.bool hq196)) ?_
              refine L_run (dj := 57) rfl rfl (by exact congrArg Value.bool hq41) ?_
              refine L_pu (P_pick false (vb false) (by exact congrArg Value.bool hq196) rfl) ?_
              refine L_pu (P_pick false (vb false) (by exact congrArg Value.bool hq41) rfl) ?_
              refine L_pu (P_move (vb false) rfl) ?_
              refine L_pass (dj := 70) rfl rfl (.inl rfl) ?_
              refine L_pass (dj := 70) rfl rfl (.inl rfl) ?_
              refine L_pass (dj := 70) rfl rfl (.inl rfl) ?_
              refine L_pass (dj := 70) rfl rfl (.inl rfl) ?_
              refine L_pass (dj := 74) rfl rfl (.inr rfl) ?_
              refine L_pass (dj := 74) rfl rfl (.inr rfl) ?_
              refine L_pass (dj := 74) rfl rfl (.inr rfl) ?_
              refine L_pass (dj := 74) rfl rfl (.inr rfl) ?_
              refine L_pass (dj := 78) rfl rfl (.inr rfl) ?_
              refine L_pass (dj := 78) rfl rfl (.inr rfl) ?_
              refine L_pass (dj := 78) rfl rfl (.inr rfl) ?_
              refine L_pass (dj := 78) rfl rfl (.inr rfl) ?_
              refine L_pass (dj := 78) rfl rfl (.inr rfl) ?_
              refine L_pass (dj := 78) rfl rfl (.inr rfl) ?_
              refine L_pass (dj := 74) rfl rfl (.inr rfl) ?_
              refine L_pass (dj := 70) rfl rfl (.inl rfl) ?_
              refine L_pu (P_pick false (vb false) (by exact congrArg Value.bool rfl) rfl) ?_
              refine L_pu (P_assign (vb false) rfl) ?_
              refine L_nil ?_
              refine W_ret ?_
              exact ⟨[vb false], ⟨_, rfl, rfl⟩, false, rfl, H, hc195.gr.g0⟩
        · have H := ite_f H hq181
          refine L_pass (dj := 46) rfl rfl (.inl (by exact congrArg Value.bool hq181)) ?_
          refine L_pass (dj := 46) rfl rfl (.inl (by exact congrArg Value.bool hq181)) ?_
          refine L_pass (dj := 46) rfl rfl (.inl (by exact congrArg Value.bool hq181)) ?_
          refine L_pass (dj := 46) rfl rfl (.inl (by exact congrArg Value.bool hq181)) ?_
          refine L_pass (dj := 46) rfl rfl (.inl (by exact congrArg Value.bool hq181)) ?_
          refine L_run (dj := 42) rfl rfl rfl ?_
          refine L_pu (P_pick false (vb false) (by exact congrArg Value.bool hq181) rfl) ?_
          refine L_pu (P_pick false (vb false) (by exact congrArg Value.bool rfl) rfl) ?_
          refine L_nil ?_
          refine W_cf (b := false) rfl rfl ?_
          refine W_skip ?_
          refine W_seq ?_
          refine W_reg ?_
          refine L_pu (P_fa fa103_1 ⟨b25, 0, none⟩ ⟨b25, 1, none⟩ rfl rfl) ?_
          refine L_pu (P_ld ag4 cL ⟨b25, 1, none⟩ (vb c_.Had) rfl (h40.cell rfl)) ?_
          refine L_pu (P_not c_.Had rfl) ?_
          refine L_pu (P_move (vb (!c_.Had)) rfl) ?_
          refine L_run (dj := 57) rfl rfl (by exact congrArg Value.bool hq41) ?_
          refine L_pu (P_fa fa103_2 ⟨b25, 0, none⟩ ⟨b25, 2, none⟩ rfl rfl) ?_
          refine L_run (dj := 57) rfl rfl (by exact congrArg Value.bool hq41) ?_
          refine L_pu (P_lda ag71 sz71 cL ⟨b25, 2, none⟩ [vs c_.Was.Id, vi c_.Was.Shape.Kind, .slice A3 n4 c5, .slice A8 n9 c10] rfl rfl (h40.cells (off := 2) rfl)) ?_
          refine L_run (dj := 57) rfl rfl (by exact congrArg Value.bool hq41) ?_
          refine L_call go89 [.agg #[vs c_.Was.Id, vi c_.Was.Shape.Kind, .slice A3 n4 c5, .slice A8 n9 c10]] rfl ((spec_FeatOk.calls w33 hc38.ok c_.Was A3 n4 c5 A8 n9 c10 hs2 (hp6.st hc38.st) (hp11.st hc38.st) _ H).mono ?_)
          rintro _ w199 ⟨r20, rfl, H, g200⟩
          have hc204 := hc38.k0 g200
          refine L_run (dj := 57) rfl rfl (by exact congrArg Value.bool hq41) ?_
          refine L_pu (P_move (vb r20) rfl) ?_
          rcases bool_or r20 with hq205 | hq205
          · have H := ite_t H hq205
            refine L_run (dj := 61) rfl rfl (by exact congrArg Value.bool hq205) ?_
            refine L_pu (P_fa fa103_2 ⟨b25, 0, none⟩ ⟨b25, 2, none⟩ rfl rfl) ?_
            refine L_run (dj := 61) rfl rfl (by exact congrArg Value.bool hq205) ?_
            refine L_pu (P_fa fa71_0 ⟨b25, 2, none⟩ ⟨b25, 2, none⟩ rfl rfl) ?_
            refine L_run (dj := 61) rfl rfl (by exact congrArg Value.bool hq205) ?_
            have h206 := (h40.st (.new _ g200))
            refine L_pu (P_ld ag9 cL ⟨b25, 2, none⟩ (vs c_.Was.Id) rfl (h206.cell rfl)) ?_
            refine L_run (dj := 61) rfl rfl (by exact congrArg Value.bool hq205) ?_
            refine L_pu (P_fa fa103_0 ⟨b25, 0, none⟩ ⟨b25, 0, none⟩ rfl rfl) ?_
            refine L_run (dj := 61) rfl rfl (by exact congrArg Value.bool hq205) ?_
            refine L_pu (P_ld ag9 cL ⟨b25, 0, none⟩ (vs c_.Id) rfl (h206.cell rfl)) ?_
            refine L_run (dj := 61) rfl rfl (by exact congrArg Value.bool hq205) ?_
            refine L_pu (P_scmp c_.Was.Id c_.Id (c_.Was.Id == c_.Id) rfl rfl rfl) ?_
            refine L_run (dj := 57) rfl rfl (by exact congrArg Value.bool hq41) ?_
            refine L_pu (P_pick true (vb (c_.Was.Id == c_.Id)) (by exact congrArg Value.bool hq205) rfl) ?_
            refine L_pu (P_pick false (vb (c_.Was.Id == c_.Id)) (by exact congrArg Value.bool hq41) rfl) ?_
            refine L_pu (P_move (vb (c_.Was.Id == c_.Id)) rfl) ?_
            rcases bool_or (c_.Was.Id == c_.Id) with hq207 | hq207
            · have H := ite_t H hq207
              refine L_run (dj := 70) rfl rfl (by exact congrArg Value.bool hq207) ?_
              refine L_pu (P_fa fa103_3 ⟨b25, 0, none⟩ ⟨b25, 6, none⟩ rfl rfl) ?_
              refine L_run (dj := 70) rfl rfl (by exact congrArg Value.bool hq207) ?_
              refine L_pu (P_ld ag4 cL ⟨b25, 6, none⟩ (vb c_.Has) rfl (h206.cell rfl)) ?_
              refine L_run (dj := 70) rfl rfl (by exact congrArg Value.bool hq207) ?_
              refine L_pu (P_not c_.Has rfl) ?_
              refine L_run (dj := 70) rfl rfl (by exact congrArg Value.bool hq207) ?_
              refine L_pu (P_move (vb (!c_.Has)) rfl) ?_
              refine L_run (dj := 74) rfl rfl (by exact congrArg Value.bool hq181) ?_
              refine L_pu (P_fa fa103_4 ⟨b25, 0, none⟩ ⟨b25, 7, none⟩ rfl rfl) ?_
              refine L_run (dj := 74) rfl rfl (by exact congrArg Value.bool hq181) ?_
              refine L_pu (P_lda ag71 sz71 cL ⟨b25, 7, none⟩ [vs c_.Now.Id, vi c_.Now.Shape.Kind, .slice A14 n15 c16, .slice A19 n20 c21] rfl rfl (h206.cells (off := 7) rfl)) ?_
              refine L_run (dj := 74) rfl rfl (by exact congrArg Value.bool hq181) ?_
              refine L_call go89 [.agg #[vs c_.Now.Id, vi c_.Now.Shape.Kind, .slice A14 n15 c16, .slice A19 n20 c21]] rfl ((spec_FeatOk.calls w199 hc204.ok c_.Now A14 n15 c16 A19 n20 c21 hs13 (hp17.st hc204.st) (hp22.st hc204.st) _ H).mono ?_)
              rintro _ w208 ⟨r21, rfl, H, g209⟩
              have hc213 := hc204.k0 g209
              refine L_run (dj := 74) rfl rfl (by exact congrArg Value.bool hq181) ?_
              refine L_pu (P_move (vb r21) rfl) ?_
              rcases bool_or r21 with hq214 | hq214
              · have H := ite_t H hq214
                refine L_run (dj := 78) rfl rfl (by exact congrArg Value.bool hq214) ?_
                refine L_pu (P_fa fa103_4 ⟨b25, 0, none⟩ ⟨b25, 7, none⟩ rfl rfl) ?_
                refine L_run (dj := 78) rfl rfl (by exact congrArg Value.bool hq214) ?_
                refine L_pu (P_fa fa71_0 ⟨b25, 7, none⟩ ⟨b25, 7, none⟩ rfl rfl) ?_
                refine L_run (dj := 78) rfl rfl (by exact congrArg Value.bool hq214) ?_
                have h215 := (h206.st (.new _ g209))
                refine L_pu (P_ld ag9 cL ⟨b25, 7, none⟩ (vs c_.Now.Id) rfl (h215.cell rfl)) ?_
                refine L_run (dj := 78) rfl rfl (by exact congrArg Value.bool hq214) ?_
                refine L_pu (P_fa fa103_0 ⟨b25, 0, none⟩ ⟨b25, 0, none⟩ rfl rfl) ?_
                refine L_run (dj := 78) rfl rfl (by exact congrArg Value.bool hq214) ?_
                refine L_pu (P_ld ag9 cL ⟨b25, 0, none⟩ (vs c_.Id) rfl (h215.cell rfl)) ?_
                refine L_run (dj := 78) rfl rfl (by exact congrArg Value.bool hq214) ?_
                refine L_pu (P_scmp c_.Now.Id c_.Id (c_.Now.Id == c_.Id) rfl rfl rfl) ?_
                refine L_run (dj := 74) rfl rfl (by exact congrArg Value.bool hq181) ?_
                refine L_pu (P_pick true (vb (c_.Now.Id == c_.Id)) (by exact congrArg Value.bool hq214) rfl) ?_
                refine L_run (dj := 70) rfl rfl (by exact congrArg Value.bool hq207) ?_
                refine L_pu (P_pick false (vb (c_.Now.Id == c_.Id)) (by exact congrArg Value.bool hq181) rfl) ?_
                refine L_pu (P_pick true (vb (c_.Now.Id == c_.Id)) (by exact congrArg Value.bool hq207) rfl) ?_
                refine L_pu (P_assign (vb (c_.Now.Id == c_.Id)) rfl) ?_
                refine L_nil ?_
                refine W_ret ?_
                exact ⟨[vb (c_.Now.Id == c_.Id)], ⟨_, rfl, rfl⟩, c_.Now.Id == c_.Id, rfl, H, hc213.gr.g0⟩
              · have H := ite_f H hq214
                refine L_pass (dj := 78) rfl rfl (.inl (by exact congrArg Value.bool hq214)) ?_
                refine L_pass (dj := 78) rfl rfl (.inl (by exact congrArg Value.bool hq214)) ?_
                refine L_pass (dj := 78) rfl rfl (.inl (by exact congrArg Value.bool hq214)) ?_
                refine L_pass (dj := 78) rfl rfl (.inl (by exact congrArg Value.bool hq214)) ?_
                refine L_pass (dj := 78) rfl rfl (.inl (by exact congrArg Value.bool hq214)) ?_
                refine L_pass (dj := 78) rfl rfl (.inl (by exact congrArg Value.bool hq214)) ?_
                refine L_run (dj := 74) rfl rfl (by exact congrArg Value.bool hq181) ?_
                refine L_pu (P_pick false (vb false) (by exact congrArg Value.bool hq214) rfl) ?_
                refine L_run (dj := 70) rfl rfl (by exact congrArg Value.bool hq207) ?_
                refine L_pu (P_pick false (vb false) (by exact congrArg Value.bool hq181) rfl) ?_
                refine L_pu (P_pick true (vb false) (by exact congrArg Value.bool hq207) rfl) ?_
                refine L_pu (P_assign (vb false) rfl) ?_
                refine L_nil ?_
                refine W_ret ?_
                exact ⟨[vb false], ⟨_, rfl, rfl⟩, false, rfl, H, hc213.gr.g0⟩
            · have H := ite_f H hq207
              refine L_pass (dj := 70) rfl rfl (.inl (by exact congrArg Value.bool hq207)) ?_
              refine L_pass (dj := 70) rfl rfl (.inl (by exact congrArg Value.bool hq207)) ?_
              refine L_pass (dj := 70) rfl rfl (.inl (by exact congrArg Value.bool hq207)) ?_
              refine L_pass (dj := 70) rfl rfl (.inl (by exact congrArg Value.bool hq207)) ?_
              refine L_pass (dj := 74) rfl rfl (.inr rfl) ?_
              refine L_pass (dj := 74) rfl rfl (.inr rfl) ?_
              refine L_pass (dj := 74) rfl rfl (.inr rfl) ?_
              refine L_pass (dj := 74) rfl rfl (.inr rfl) ?_
              refine L_pass (dj := 78) rfl rfl (.inr rfl) ?_
              refine L_pass (dj := 78) rfl rfl (.inr rfl) ?_
              refine L_pass (dj := 78) rfl rfl (.inr rfl) ?_
              refine L_pass (dj := 78) rfl rfl (.inr rfl) ?_
              refine L_pass (dj := 78) rfl rfl (.inr rfl) ?_
              refine L_pass (dj := 78) rfl rfl (.inr rfl) ?_
              refine L_pass (dj := 74) rfl rfl (.inr rfl) ?_
              refine L_pass (dj := 70) rfl rfl (.inl (by exact congrArg Value.bool hq207)) ?_
              refine L_pu (P_pick false (vb false) (by exact congrArg Value.bool hq207) rfl) ?_
              refine L_pu (P_assign (vb false) rfl) ?_
              refine L_nil ?_
              refine W_ret ?_
              exact ⟨[vb false], ⟨_, rfl, rfl⟩, false, rfl, H, hc204.gr.g0⟩
          · have H := ite_f H hq205
            refine L_pass (dj := 61) rfl rfl (.inl (by exact congrArg Value.bool hq205)) ?_
            refine L_pass (dj := 61) rfl rfl (.inl (by exact congrArg Value.bool hq205)) ?_
            refine L_pass (dj := 61) rfl rfl (.inl (by exact congrArg Value.bool hq205)) ?_
            refine L_pass (dj := 61) rfl rfl (.inl (by exact congrArg Value.bool hq205)) ?_
            refine L_pass (dj := 61) rfl rfl (.inl (by exact congrArg Value.bool hq205)) ?_
            refine L_pass (dj := 61) rfl rfl (.inl (by exact congrArg Value.bool hq205)) ?_
            refine L_run (dj := 57) rfl rfl (by exact congrArg Value.bool hq41) ?_
            refine L_pu (P_pick false (vb false) (by exact congrArg Value.bool hq205) rfl) ?_
            refine L_pu (P_pick false (vb false) (by exact congrArg Value.bool hq41) rfl) ?_
            refine L_pu (P_move (vb false) rfl) ?_
            refine L_pass (dj := 70) rfl rfl (.inl rfl) ?_
            refine L_pass (dj := 70) rfl rfl (.inl rfl) ?_
            refine L_pass (dj := 70) rfl rfl (.inl rfl) ?_
            refine L_pass (dj := 70) rfl rfl (.inl rfl) ?_
            refine L_pass (dj := 74) rfl rfl (.inr rfl) ?_
            refine L_pass (dj := 74) rfl rfl (.inr rfl) ?_
            refine L_pass (dj := 74) rfl rfl (.inr rfl) ?_
            refine L_pass (dj := 74) rfl rfl (.inr rfl) ?_
            refine L_pass (dj := 78) rfl rfl (.inr rfl) ?_
            refine L_pass (dj := 78) rfl rfl (.inr rfl) ?_
            refine L_pass (dj := 78) rfl rfl (.inr rfl) ?_
            refine L_pass (dj := 78) rfl rfl (.inr rfl) ?_
            refine L_pass (dj := 78) rfl rfl (.inr rfl) ?_
            refine L_pass (dj := 78) rfl rfl (.inr rfl) ?_
            refine L_pass (dj := 74) rfl rfl (.inr rfl) ?_
            refine L_pass (dj := 70) rfl rfl (.inl rfl) ?_
            refine L_pu (P_pick false (vb false) (by exact congrArg Value.bool rfl) rfl) ?_
            refine L_pu (P_assign (vb false) rfl) ?_
            refine L_nil ?_
            refine W_ret ?_
            exact ⟨[vb false], ⟨_, rfl, rfl⟩, false, rfl, H, hc204.gr.g0⟩
end Go.Proofs.Ytndjggncgpjolaa

namespace Go.Proofs.Ytndjggncgpjolaa
set_option linter.unusedVariables false
set_option linter.unusedSimpArgs false
set_option linter.unusedSectionVars false
theorem spec_l4One.law (c : Change) (Q : Bool → Prop) (hq : Q (changeOk c)) : spec_l4One.E c Q := by
  unfold spec_l4One.E
  unfold changeOk sideOk noF sameC at hq
  have eid : ∀ f : Feat, (f.Id == c.Id) = decide (f.Id = c.Id) := fun f => by rw [Bool.eq_iff_iff, beq_iff_eq, decide_eq_true_eq]
  refine spec_WordOk.law _ _ ?_
  cases hw : wordOk c.Id with
  | false => rw [hw] at hq; rw [if_pos (by decide)]; exact hq
  | true =>
    rw [hw, Bool.true_and] at hq
    rw [if_neg (by decide)]
    cases h1 : c.Had <;> cases h2 : c.Has
    · -- neither
      rw [h1, h2] at hq
      rw [if_pos (by decide), if_pos (by decide)]
      simp only [reduceIte, Bool.false_eq_true, Bool.true_eq_false, reduceCtorEq, if_false, if_true, eq_self, decide_true, decide_false, Bool.true_and, Bool.false_and, Bool.not_false, Bool.not_true, Bool.and_true] at hq
      have e : (decide (c.Was = (⟨[], ⟨0, []⟩, []⟩ : Feat)) && decide (c.Now = (⟨[], ⟨0, []⟩, []⟩ : Feat)) && !(decide (c.Was = c.Now))) = false := by
        by_cases a : c.Was = (⟨[], ⟨0, []⟩, []⟩ : Feat)
        · by_cases b : c.Now = (⟨[], ⟨0, []⟩, []⟩ : Feat)
          · rw [decide_eq_true (a.trans b.symm)]; simp
          · rw [decide_eq_false b]; simp
        · rw [decide_eq_false a]; rfl
      rw [e] at hq; exact hq
    · rw [h1, h2] at hq
      simp only [reduceIte, Bool.false_eq_true, Bool.true_eq_false, reduceCtorEq, if_false, if_true, eq_self, decide_true, decide_false, Bool.true_and, Bool.false_and, Bool.not_false, Bool.not_true, Bool.and_true] at hq
      rw [if_pos (by decide), if_neg (by decide), if_neg (by decide)]
      refine spec_FeatSame.law _ _ _ ?_
      cases ha : decide (c.Was = (⟨[], ⟨0, []⟩, []⟩ : Feat)) with
      | false => rw [ha] at hq; rw [if_pos (by decide)]; exact hq
      | true =>
        rw [ha, Bool.true_and] at hq
        rw [if_neg (by decide)]
        refine spec_FeatOk.law _ _ ?_
        cases hf : featOk c.Now with
        | false => rw [hf] at hq; rw [if_neg (by decide)]; exact hq
        | true => rw [hf, Bool.true_and] at hq; rw [if_pos rfl, eid]; exact hq
    · rw [h1, h2] at hq
      simp only [reduceIte, Bool.false_eq_true, Bool.true_eq_false, reduceCtorEq, if_false, if_true, eq_self, decide_true, decide_false, Bool.true_and, Bool.false_and, Bool.not_false, Bool.not_true, Bool.and_true] at hq
      rw [if_neg (by decide), if_pos rfl, if_neg (by decide), if_pos (by decide)]
      refine spec_FeatSame.law _ _ _ ?_
      cases ha : decide (c.Now = (⟨[], ⟨0, []⟩, []⟩ : Feat)) with
      | false => rw [ha, Bool.and_false] at hq; rw [if_pos (by decide)]; exact hq
      | true =>
        rw [ha, Bool.and_true] at hq
        rw [if_neg (by decide)]
        refine spec_FeatOk.law _ _ ?_
        cases hf : featOk c.Was with
        | false => rw [hf] at hq; rw [if_neg (by decide)]; exact hq
        | true =>
          rw [hf, Bool.true_and] at hq; rw [if_pos rfl, eid]
          cases hi : decide (c.Was.Id = c.Id) with
          | false => rw [hi] at hq; rw [if_neg (by decide)]; exact hq
          | true => rw [hi] at hq; rw [if_pos rfl]; exact hq
    · rw [h1, h2] at hq
      simp only [reduceIte, Bool.false_eq_true, Bool.true_eq_false, reduceCtorEq, if_false, if_true, eq_self, decide_true, decide_false, Bool.true_and, Bool.false_and, Bool.not_false, Bool.not_true, Bool.and_true] at hq
      rw [if_neg (by decide), if_pos rfl, if_pos rfl]
      refine spec_FeatSame.law _ _ _ ?_
      cases hs : decide (c.Was = c.Now) with
      | true => rw [hs, Bool.not_true, Bool.and_false] at hq; rw [if_pos rfl]; exact hq
      | false =>
        rw [hs, Bool.not_false, Bool.and_true] at hq
        rw [if_neg (by decide), if_neg (by decide)]
        refine spec_FeatOk.law _ _ ?_
        cases hf : featOk c.Was with
        | false => rw [hf] at hq; rw [if_neg (by decide)]; exact hq
        | true =>
          rw [hf, Bool.true_and] at hq; rw [if_pos rfl, eid]
          cases hi : decide (c.Was.Id = c.Id) with
          | false => rw [hi] at hq; rw [if_neg (by decide)]; exact hq
          | true =>
            rw [hi, Bool.true_and] at hq; rw [if_pos rfl]
            refine spec_FeatOk.law _ _ ?_
            cases hg : featOk c.Now with
            | false => rw [hg] at hq; rw [if_neg (by decide)]; exact hq
            | true => rw [hg, Bool.true_and] at hq; rw [if_pos rfl, eid]; exact hq
end Go.Proofs.Ytndjggncgpjolaa

namespace Go.Proofs.Ytndjggncgpjolaa
open Go.RowKit
set_option linter.unusedVariables false
def spec_DiffOk.E (d : List Change) (Q : Bool → Prop) : Prop :=
  (∃ (I18 : Int → Prop) (mu19 : Int → Nat), I18 0 ∧ ∀ (i2 : Int), I18 i2 → (if decide (i2 < (d.length : Int)) then ((0 : Int) ≤ i2 ∧ i2 < (d.length : Int)) ∧ (∃ q : Bool, spec_l4One.E (nth d i2) (fun x => x = q) ∧ (if !q then Q false else (if decide (i2 > 0) then ((0 : Int) ≤ i2 ∧ i2 < (d.length : Int)) ∧ ((d.length : Int) ≤ 9223372036854775807 → I64 (i2 - 1)) ∧ ((0 : Int) ≤ i2 - 1 ∧ i2 - 1 < (d.length : Int)) ∧ (if Op.bytesLess ((nth d i2).Id) ((nth d (i2 - 1)).Id) || ((nth d i2).Id) == ((nth d (i2 - 1)).Id) then Q false else (-9223372036854775808 ≤ i2) ∧ I18 (i2 + 1) ∧ mu19 (i2 + 1) < mu19 i2) else (-9223372036854775808 ≤ i2) ∧ I18 (i2 + 1) ∧ mu19 (i2 + 1) < mu19 i2))) else Q (decide ((d.length : Int) ≤ 16))))
set_option maxHeartbeats 8000000 in
set_option maxRecDepth 100000 in
theorem spec_DiffOk.calls {O : Ob} (w0 : World) (hO : Ok w0 O) (d : List Change) (A1 : Option Addr) (n2 c3 : Nat) (hp4 : Sl kChange w0 (Fr O) (.slice A1 n2 c3) d) (Q : Bool → Prop) (h : spec_DiffOk.E d Q) :
    Ret Try.prog 61 [.slice A1 n2 c3] w0 (fun v w' => ∃ (r0 : Bool), v = vb r0 ∧ Q r0 ∧ Gr w0 w' none) := by
  have H : (∃ (I18 : Int → Prop) (mu19 : Int → Nat), I18 0 ∧ ∀ (i2 : Int), I18 i2 → (if decide (i2 < (d.length : Int)) then ((0 : Int) ≤ i2 ∧ i2 < (d.length : Int)) ∧ (∃ q : Bool, spec_l4One.E (nth d i2) (fun x => x = q) ∧ (if !q then Q false else (if decide (i2 > 0) then ((0 : Int) ≤ i2 ∧ i2 < (d.length : Int)) ∧ ((d.length : Int) ≤ 9223372036854775807 → I64 (i2 - 1)) ∧ ((0 : Int) ≤ i2 - 1 ∧ i2 - 1 < (d.length : Int)) ∧ (if Op.bytesLess ((nth d i2).Id) ((nth d (i2 - 1)).Id) || ((nth d i2).Id) == ((nth d (i2 - 1)).Id) then Q false else (-9223372036854775808 ≤ i2) ∧ I18 (i2 + 1) ∧ mu19 (i2 + 1) < mu19 i2) else (-9223372036854775808 ≤ i2) ∧ I18 (i2 + 1) ∧ mu19 (i2 + 1) < mu19 i2))) else Q (decide ((d.length : Int) ≤ 16)))) := h
  clear h
  have hc0 := Ct.init hO
  refine Ret_enter Try.func61 rfl 37 rfl [.tmp 2] rfl rfl ?_
  refine W_seq ?_
  refine W_reg ?_
  refine L_pu (P_assign (vb false) rfl) ?_
  refine L_nil ?_
  refine W_seq ?_
  refine W_seq ?_
  refine W_reg ?_
  refine L_pu (P_assign (vi 0) rfl) ?_
  refine L_nil ?_
  refine W_block ?_
  obtain ⟨I18, mu19, hI20, H⟩ := H
  refine W_loop (α := Int) (fun (sv__ : Int) t w14 => match sv__ with | i2 => I18 i2 ∧ Has t [(0, .slice A1 n2 c3), (3, vi i2)] ∧ Ct [] w0 w14 [] O ∧ Sl kChange w14 (Fr ([] ++ O)) (.slice A1 n2 c3) d) (fun (sv__ : Int) => match sv__ with | i2 => mu19 i2) 0 ⟨hI20, ⟨rfl, rfl, trivial⟩, hc0, hp4⟩ ?_
  rintro i2 _ w14 ⟨hI20, hh22, hc16, h17⟩
  obtain ⟨u23, rfl⟩ := Has.ins hh22
  have H := H i2 hI20
  refine W_seq ?_
  refine W_seq ?_
  refine W_reg ?_
  refine L_pu (P_move (vi i2) rfl) ?_
  refine L_pu (P_move (.slice A1 n2 c3) rfl) ?_
  have hl24 := h17.le
  refine L_pu (P_len Try.underlying43 A1 n2 c3 h17.len rfl) ?_
  refine L_pu (P_cmp i2 (d.length : Int) (decide (i2 < (d.length : Int))) rfl rfl rfl) ?_
  refine L_nil ?_
  refine W_cond (decide (i2 < (d.length : Int))) rfl (fun hq25 => ?_) (fun hq25 => ?_)
  · have H := ite_t H hq25
    refine W_skip ?_
    refine W_seq ?_
    refine W_block ?_
    refine W_seq ?_
    refine W_draw (fun x => Gr w14 x none) (by kernel_rfl) (by kernel_rfl) (Gr.drew _) ?_
    refine Q_pu (P_move (.slice A1 n2 c3) rfl) ?_
    refine Q_pu (P_move (vi i2) rfl) ?_
    obtain ⟨hb26, H⟩ := H
    obtain ⟨ad27, cs28, hA29, hS32, hR30, hcl31⟩ := h17.get default (by decide) i2 hb26
    obtain ⟨A35, n36, c37, A40, n41, c42, A46, n47, c48, A51, n52, c53, rfl, hs33, hs34, h38, h43, hs45, h49, h54⟩ := kChange.op hR30
    refine Q_pu (P_ia Try.underlying43 se43 A1 ad27 n2 c3 h17.len i2 rfl hA29 rfl hb26) ?_
    refine Q_pu (P_lda ag103 sz103 cQ (ad27.add (i2.toNat * 11)) [vs ((nth d i2).Id), vb ((nth d i2).Had), vs ((nth d i2).Was.Id), vi ((nth d i2).Was.Shape.Kind), .slice A35 n36 c37, .slice A40 n41 c42, vb ((nth d i2).Has), vs ((nth d i2).Now.Id), vi ((nth d i2).Now.Shape.Kind), .slice A46 n47 c48, .slice A51 n52 c53] rfl rfl hcl31) ?_
    obtain ⟨q, hE61, H⟩ := H
    refine Q_call go118 [.agg #[vs ((nth d i2).Id), vb ((nth d i2).Had), vs ((nth d i2).Was.Id), vi ((nth d i2).Was.Shape.Kind), .slice A35 n36 c37, .slice A40 n41 c42, vb ((nth d i2).Has), vs ((nth d i2).Now.Id), vi ((nth d i2).Now.Shape.Kind), .slice A46 n47 c48, .slice A51 n52 c53]] rfl (vb q) (fun w g => (spec_l4One.calls w (hc16.k0 g).ok (nth d i2) A35 n36 c37 A40 n41 c42 A46 n47 c48 A51 n52 c53 hs33 hs34 (h38.st (.new _ g)) (h43.st (.new _ g)) hs45 (h49.st (.new _ g)) (h54.st (.new _ g)) _ hE61).mono ?_) ?_
    · rintro _ w ⟨r, rfl, rfl, g2⟩
      exact ⟨rfl, Gr.t0 g g2⟩
    refine Q_pu (P_not q rfl) ?_
    refine Q_pu (P_move (vb (!q)) rfl) ?_
    rcases bool_or (!q) with hq63 | hq63
    · have H := ite_t H hq63
      refine Q_pass (dj := 16) rfl rfl (.inl (by exact congrArg Value.bool hq63)) ?_
      refine Q_pass (dj := 16) rfl rfl (.inl (by exact congrArg Value.bool hq63)) ?_
      refine Q_pass (dj := 16) rfl rfl (.inl (by exact congrArg Value.bool hq63)) ?_
      refine Q_pass (dj := 19) rfl rfl (.inr rfl) ?_
      refine Q_pass (dj := 19) rfl rfl (.inr rfl) ?_
      refine Q_pass (dj := 19) rfl rfl (.inr rfl) ?_
      refine Q_pass (dj := 19) rfl rfl (.inr rfl) ?_
      refine Q_pass (dj := 19) rfl rfl (.inr rfl) ?_
      refine Q_pass (dj := 19) rfl rfl (.inr rfl) ?_
      refine Q_pass (dj := 19) rfl rfl (.inr rfl) ?_
      refine Q_pass (dj := 19) rfl rfl (.inr rfl) ?_
      refine Q_pass (dj := 19) rfl rfl (.inr rfl) ?_
      refine Q_pass (dj := 19) rfl rfl (.inr rfl) ?_
      refine Q_pass (dj := 19) rfl rfl (.inr rfl) ?_
      refine Q_pass (dj := 19) rfl rfl (.inr rfl) ?_
      refine Q_pass (dj := 16) rfl rfl (.inl (by exact congrArg Value.bool hq63)) ?_
      refine Q_pu (P_pick true (vb true) (by exact congrArg Value.bool hq63) rfl) ?_
      refine Q_nil fun w64 g65 => ?_
      have hc67 := hc16.k0 g65
      refine W_ct (b := true) rfl rfl ?_
      refine W_seq ?_
      refine W_reg ?_
      refine L_pu (P_assign (vb false) rfl) ?_
      refine L_nil ?_
      refine W_ret ?_
      exact ⟨[vb false], ⟨_, rfl, rfl⟩, false, rfl, H, hc67.gr.g0⟩
    · have H := ite_f H hq63
      refine Q_run (dj := 16) rfl rfl (by exact congrArg Value.bool hq63) ?_
      refine Q_pu (P_move (vi i2) rfl) ?_
      refine Q_run (dj := 16) rfl rfl (by exact congrArg Value.bool hq63) ?_
      refine Q_pu (P_cmp i2 0 (decide (i2 > 0)) rfl rfl rfl) ?_
      refine Q_run (dj := 16) rfl rfl (by exact congrArg Value.bool hq63) ?_
      refine Q_pu (P_move (vb (decide (i2 > 0))) rfl) ?_
      rcases bool_or (decide (i2 > 0)) with hq68 | hq68
      · have H := ite_t H hq68
        refine Q_run (dj := 19) rfl rfl (by exact congrArg Value.bool hq68) ?_
        refine Q_pu (P_move (.slice A1 n2 c3) rfl) ?_
        refine Q_run (dj := 19) rfl rfl (by exact congrArg Value.bool hq68) ?_
        refine Q_pu (P_move (vi i2) rfl) ?_
        refine Q_run (dj := 19) rfl rfl (by exact congrArg Value.bool hq68) ?_
        obtain ⟨hb69, H⟩ := H
        obtain ⟨ad70, cs71, hA72, hS75, hR73, hcl74⟩ := h17.get default (by decide) i2 hb69
        obtain ⟨A78, n79, c80, A83, n84, c85, A89, n90, c91, A94, n95, c96, rfl, hs76, hs77, h81, h86, hs88, h92, h97⟩ := kChange.op hR73
        refine Q_pu (P_ia Try.underlying43 se43 A1 ad70 n2 c3 h17.len i2 rfl hA72 rfl hb69) ?_
        refine Q_run (dj := 19) rfl rfl (by exact congrArg Value.bool hq68) ?_
        refine Q_pu (P_fa fa103_0 (ad70.add (i2.toNat * 11)) ((ad70.add (i2.toNat * 11)).add 0) rfl rfl) ?_
        refine Q_run (dj := 19) rfl rfl (by exact congrArg Value.bool hq68) ?_
        refine Q_pu (P_ld ag9 cQ ((ad70.add (i2.toNat * 11)).add 0) (vs ((nth d i2).Id)) rfl (hcl74 0 _ rfl)) ?_
        refine Q_run (dj := 19) rfl rfl (by exact congrArg Value.bool hq68) ?_
        refine Q_pu (P_move (.slice A1 n2 c3) rfl) ?_
        refine Q_run (dj := 19) rfl rfl (by exact congrArg Value.bool hq68) ?_
        refine Q_pu (P_move (vi i2) rfl) ?_
        refine Q_run (dj := 19) rfl rfl (by exact congrArg Value.bool hq68) ?_
        obtain ⟨hb99, H⟩ := H
        have hi100 := hb99 (len_le hl24)
        refine Q_pu (P_sub i2 1 rfl rfl hi100) ?_
        refine Q_run (dj := 19) rfl rfl (by exact congrArg Value.bool hq68) ?_
        obtain ⟨hb101, H⟩ := H
        obtain ⟨ad102, cs103, hA104, hS107, hR105, hcl106⟩ := h17.get default (by decide) (i2 - 1) hb101
        obtain ⟨A110, n111, c112, A115, n116, c117, A121, n122, c123, A126, n127, c128, rfl, hs108, hs109, h113, h118, hs120, h124, h129⟩ := kChange.op hR105
        refine Q_pu (P_ia Try.underlying43 se43 A1 ad102 n2 c3 h17.len (i2 - 1) rfl hA104 rfl hb101) ?_
        refine Q_run (dj := 19) rfl rfl (by exact congrArg Value.bool hq68) ?_
        refine Q_pu (P_fa fa103_0 (ad102.add ((i2 - 1).toNat * 11)) ((ad102.add ((i2 - 1).toNat * 11)).add 0) rfl rfl) ?_
        refine Q_run (dj := 19) rfl rfl (by exact congrArg Value.bool hq68) ?_
        refine Q_pu (P_ld ag9 cQ ((ad102.add ((i2 - 1).toNat * 11)).add 0) (vs ((nth d (i2 - 1)).Id)) rfl (hcl106 0 _ rfl)) ?_
        refine Q_run (dj := 19) rfl rfl (by exact congrArg Value.bool hq68) ?_
        refine Q_pu (P_scmp ((nth d i2).Id) ((nth d (i2 - 1)).Id) (Op.bytesLess ((nth d i2).Id) ((nth d (i2 - 1)).Id) || ((nth d i2).Id) == ((nth d (i2 - 1)).Id)) rfl rfl rfl) ?_
        refine Q_run (dj := 16) rfl rfl (by exact congrArg Value.bool hq63) ?_
        refine Q_pu (P_pick true (vb (Op.bytesLess ((nth d i2).Id) ((nth d (i2 - 1)).Id) || ((nth d i2).Id) == ((nth d (i2 - 1)).Id))) (by exact congrArg Value.bool hq68) rfl) ?_
        refine Q_pu (P_pick false (vb (Op.bytesLess ((nth d i2).Id) ((nth d (i2 - 1)).Id) || ((nth d i2).Id) == ((nth d (i2 - 1)).Id))) (by exact congrArg Value.bool hq63) rfl) ?_
        refine Q_nil fun w131 g132 => ?_
        have hc134 := hc16.k0 g132
        refine W_cond (Op.bytesLess ((nth d i2).Id) ((nth d (i2 - 1)).Id) || ((nth d i2).Id) == ((nth d (i2 - 1)).Id)) rfl (fun hq135 => ?_) (fun hq135 => ?_)
        · have H := ite_t H hq135
          refine W_seq ?_
          refine W_reg ?_
          refine L_pu (P_assign (vb false) rfl) ?_
          refine L_nil ?_
          refine W_ret ?_
          exact ⟨[vb false], ⟨_, rfl, rfl⟩, false, rfl, H, hc134.gr.g0⟩
        · have H := ite_f H hq135
          refine W_skip ?_
          refine W_reg ?_
          refine L_pu (P_move (vi i2) rfl) ?_
          obtain ⟨hb137, H⟩ := H
          have hi136 : I64 (i2 + 1) := i64_succ (of_decide_eq_true hq25) hl24 hb137
          refine L_pu (P_add i2 1 rfl rfl hi136) ?_
          refine L_pu (P_assign (vi (i2 + 1)) rfl) ?_
          refine L_nil ?_
          obtain ⟨hI138, hm139⟩ := H
          exact ⟨i2 + 1, hm139, hI138, ⟨rfl, rfl, trivial⟩, hc134, (h17.st (.new _ g132))⟩
      · have H := ite_f H hq68
        refine Q_pass (dj := 19) rfl rfl (.inl (by exact congrArg Value.bool hq68)) ?_
        refine Q_pass (dj := 19) rfl rfl (.inl (by exact congrArg Value.bool hq68)) ?_
        refine Q_pass (dj := 19) rfl rfl (.inl (by exact congrArg Value.bool hq68)) ?_
        refine Q_pass (dj := 19) rfl rfl (.inl (by exact congrArg Value.bool hq68)) ?_
        refine Q_pass (dj := 19) rfl rfl (.inl (by exact congrArg Value.bool hq68)) ?_
        refine Q_pass (dj := 19) rfl rfl (.inl (by exact congrArg Value.bool hq68)) ?_
        refine Q_pass (dj := 19) rfl rfl (.inl (by exact congrArg Value.bool hq68)) ?_
        refine Q_pass (dj := 19) rfl rfl (.inl (by exact congrArg Value.bool hq68)) ?_
        refine Q_pass (dj := 19) rfl rfl (.inl (by exact congrArg Value.bool hq68)) ?_
        refine Q_pass (dj := 19) rfl rfl (.inl (by exact congrArg Value.bool hq68)) ?_
        refine Q_pass (dj := 19) rfl rfl (.inl (by exact congrArg Value.bool hq68)) ?_
        refine Q_pass (dj := 19) rfl rfl (.inl (by exact congrArg Value.bool hq68)) ?_
        refine Q_run (dj := 16) rfl rfl (by exact congrArg Value.bool hq63) ?_
        refine Q_pu (P_pick false (vb false) (by exact congrArg Value.bool hq68) rfl) ?_
        refine Q_pu (P_pick false (vb false) (by exact congrArg Value.bool hq63) rfl) ?_
        refine Q_nil fun w140 g141 => ?_
        have hc143 := hc16.k0 g141
        refine W_cf (b := false) rfl rfl ?_
        refine W_skip ?_
        refine W_reg ?_
        refine L_pu (P_move (vi i2) rfl) ?_
        obtain ⟨hb145, H⟩ := H
        have hi144 : I64 (i2 + 1) := i64_succ (of_decide_eq_true hq25) hl24 hb145
        refine L_pu (P_add i2 1 rfl rfl hi144) ?_
        refine L_pu (P_assign (vi (i2 + 1)) rfl) ?_
        refine L_nil ?_
        obtain ⟨hI146, hm147⟩ := H
        exact ⟨i2 + 1, hm147, hI146, ⟨rfl, rfl, trivial⟩, hc143, (h17.st (.new _ g141))⟩
  · have H := ite_f H hq25
    refine W_exit (xin_hit ?_)
    refine W_seq ?_
    refine W_reg ?_
    refine L_pu (P_move (.slice A1 n2 c3) rfl) ?_
    refine L_pu (P_len Try.underlying43 A1 n2 c3 h17.len rfl) ?_
    refine L_pu (P_cmp (d.length : Int) 16 (decide ((d.length : Int) ≤ 16)) rfl rfl rfl) ?_
    refine L_pu (P_assign (vb (decide ((d.length : Int) ≤ 16))) rfl) ?_
    refine L_nil ?_
    refine W_ret ?_
    exact ⟨[vb (decide ((d.length : Int) ≤ 16))], ⟨_, rfl, rfl⟩, decide ((d.length : Int) ≤ 16), rfl, H, hc16.gr.g0⟩
end Go.Proofs.Ytndjggncgpjolaa

namespace Go.Proofs.Ytndjggncgpjolaa
set_option linter.unusedVariables false
set_option linter.unusedSimpArgs false
set_option linter.unusedSectionVars false
theorem spec_DiffOk.law (d : List Change) (Q : Bool → Prop) (hq : Q (diffOk d)) : spec_DiffOk.E d Q := by
  unfold spec_DiffOk.E
  unfold diffOk at hq
  refine loop_all d.length (fun k => changeOk (nth d (k : Int)) && (decide (k = 0) || Op.bytesLess (nth d ((k : Int) - 1)).Id (nth d (k : Int)).Id)) (fun I mu k hk hp hn => ?_) (fun ha => ?_)
  · have bad : (changeOk (nth d (k : Int)) && (decide (k = 0) || Op.bytesLess (nth d ((k : Int) - 1)).Id (nth d (k : Int)).Id)) = false → Q false := fun h => by
      rw [allN_false hk h, Bool.false_and] at hq; exact hq
    refine ⟨by omega, _, spec_l4One.law _ _ rfl, ?_⟩
    cases h1 : changeOk (nth d (k : Int)) with
    | false => rw [if_pos (by decide)]; exact bad (by rw [h1]; rfl)
    | true =>
      rw [if_neg (by decide)]
      by_cases hk0 : k = 0
      · rw [if_neg (by rw [decide_eq_true_eq]; omega)]
        obtain ⟨i1, i2⟩ := hn (by rw [h1, decide_eq_true hk0]; rfl)
        exact ⟨by omega, i1, i2⟩
      · rw [if_pos (by rw [decide_eq_true_eq]; omega)]
        refine ⟨by omega, fun _ => by unfold I64; omega, by omega, ?_⟩
        rw [← less_tri]
        cases h3 : Op.bytesLess (nth d ((k : Int) - 1)).Id (nth d (k : Int)).Id with
        | false => rw [if_pos (by decide)]; exact bad (by rw [h3, h1, decide_eq_false hk0]; rfl)
        | true =>
          rw [if_neg (by decide)]
          obtain ⟨i1, i2⟩ := hn (by rw [h3, h1, decide_eq_false hk0]; rfl)
          exact ⟨by omega, i1, i2⟩
  · rw [allN_true ha, Bool.true_and] at hq
    have e2 : decide ((d.length : Int) ≤ 16) = decide (d.length ≤ 16) := decide_eq_decide.2 (by omega)
    rw [e2]; exact hq
end Go.Proofs.Ytndjggncgpjolaa

namespace Go.Proofs.Ytndjggncgpjolaa
open Go.RowKit
set_option linter.unusedVariables false
def spec_l1Copy.E (s : Shape) (Q : Shape → Prop) : Prop :=
  (([] : List Pt).length + s.Pts.length ≤ 268435456) ∧ Q (⟨s.Kind, (([] : List Pt) ++ s.Pts)⟩ : Shape)
set_option maxHeartbeats 8000000 in
set_option maxRecDepth 100000 in
theorem spec_l1Copy.calls {O : Ob} (w0 : World) (hO : Ok w0 O) (s : Shape) (A1 : Option Addr) (n2 c3 : Nat) (hp4 : Sl kPt w0 (Fr O) (.slice A1 n2 c3) s.Pts) (Q : Shape → Prop) (h : spec_l1Copy.E s Q) :
    Ret Try.prog 125 [.agg #[vi s.Kind, .slice A1 n2 c3]] w0 (fun v w' => ∃ (r0 : Shape) (A0 : Option Addr) (n0 c0 : Nat), v = .agg #[vi r0.Kind, .slice A0 n0 c0] ∧ Q r0 ∧ Gr w0 w' none ∧ Ok w' ([blk (.slice A0 n0 c0)] ++ O) ∧ (∀ b, some b ∈ [blk (.slice A0 n0 c0)] → w0.heap.size ≤ b) ∧ Ow kPt 29 w' ([blk (.slice A0 n0 c0)] ++ O) (.slice A0 n0 c0) r0.Pts) := by
  have H : (([] : List Pt).length + s.Pts.length ≤ 268435456) ∧ Q (⟨s.Kind, (([] : List Pt) ++ s.Pts)⟩ : Shape) := h
  clear h
  have hc0 := Ct.init hO
  refine Ret_enter Try.func125 rfl 10 rfl [.cell 2 68] rfl rfl ?_
  refine W_seq ?_
  refine W_reg ?_
  refine L_box [vi s.Kind, .slice A1 n2 c3] rfl fun w6 b7 hl9 hu10 g8 hx11 => ?_
  have h13 := Fb.mk hc0.ok hl9 hx11
  have hc14 := hc0.k0 g8
  refine L_alloc [.int .i64 0, .slice none 0 0] ze68 fun w15 b16 hl18 hu19 g17 hx20 => ?_
  have hc22 := hc14.own g17 (some b16) (oglt hl18 hu19)
  refine L_nil ?_
  refine W_seq ?_
  refine W_mixr 8 [some b16] (by kernel_rfl) rfl fun w23 g24 hM25 => ?_
  have hc26 := hc22.k0 g24
  refine M_pu 0 rfl (by kernel_rfl) hM25 (P_fa fa68_0 ⟨b7, 0, none⟩ ⟨b7, 0, none⟩ rfl rfl) ?_
  have h27 := ((h13.st (.own _ _ g17 (oge hl18))).st (.new _ g24))
  refine M_pu 1 rfl (by kernel_rfl) hM25 (P_ldr ag3 cR ⟨b7, 0, none⟩ (vi s.Kind) rfl (h27.cell rfl) (nm_cons (fr_ne (L := [some b16]) (O := O) (i := 0) h27.2 rfl) nm_nil)) ?_
  refine M_pu 3 rfl (by kernel_rfl) hM25 (P_fa fa68_1 ⟨b7, 0, none⟩ ⟨b7, 1, none⟩ rfl rfl) ?_
  refine M_pu 4 rfl (by kernel_rfl) hM25 (P_ldr ag23 cR ⟨b7, 1, none⟩ (.slice A1 n2 c3) rfl (h27.cell rfl) (nm_cons (fr_ne (L := [some b16]) (O := O) (i := 0) h27.2 rfl) nm_nil)) ?_
  refine M_any1 2 (by kernel_rfl) rfl ?_
  refine L_lit (kd := kPt) ei23 hc26 ([] : List Pt) (cells := []) rfl (fun _ => by kernel_rfl) fun w28 A29 n30 c31 g32 hr33 hc34 h35 => ?_
  have hM37 := Gm.tm hM25 g32
  refine L_nil ⟨hM37, ?_⟩
  refine M_any1 5 (by kernel_rfl) rfl ?_
  obtain ⟨hb38, H⟩ := H
  refine L_app ei23 hc34 (.slice A29 n30 c31) ([] : List Pt) s.Pts rfl h35 (.slice A1 n2 c3) rfl (hp4.st hc34.st).sx 0 rfl hb38 fun w39 A40 n41 c42 g43 s44 hc45 h46 => ?_
  have hM47 := Gm.tq hM37 g43 (hv_new hM25 hr33)
  have hv48 := hv_app (L := [blk (.slice A29 n30 c31), some b16]) (O := O) (i := 0) hM37 rfl (hv_new hM25 hr33) s44 hc45
  refine L_nil ⟨hM47, ?_⟩
  refine M_pu 6 rfl (by kernel_rfl) hM47 (P_build (.agg #[vi s.Kind, .slice A40 n41 c42]) (fun _ => by kernel_rfl)) ?_
  refine M_any1 7 (by kernel_rfl) rfl ?_
  have h53 := (Bx.sm (L := [blk (.slice A29 n30 c31), some b16]) (O := O) ((hx20.k0 g24).k0 g32) hc34 (i := 1) rfl (j := 0) rfl (by decide) g43)
  refine L_stb b16 0 [vi 0, .slice none 0 0] [vi s.Kind, .slice A40 n41 c42] [vi s.Kind, .slice A40 n41 c42] rfl h53 rfl sz68 rfl rfl rfl fun w50 g51 hx52 => ?_
  have hc54 := hc45.wr 1 rfl g51
  have hM55 := Gm.tq hM47 g51 (hv_mem 0 rfl)
  refine L_nil ⟨hM55, ?_⟩
  refine M_nil (by kernel_rfl) ?_
  refine W_ret ?_
  have h56 := Bx.gv (L := [blk (.slice A40 n41 c42), some b16]) (O := O) hx52 hc54 (i := 1) rfl
  have hc57 := hc54.drop 1 rfl
  have h58 := (Ow.sd (L := [blk (.slice A40 n41 c42), some b16]) (O := O) (Ow.sw (L := [blk (.slice A40 n41 c42), some b16]) (O := O) h46 hc45 (i := 0) rfl (j := 1) rfl (by decide) g51) (i := 0) rfl (j := 1) rfl (by decide))
  exact ⟨[.agg #[vi s.Kind, .slice A40 n41 c42]], ⟨_, _, rfl, h56.1.res rfl ag68 sz68, rfl⟩, (⟨s.Kind, (([] : List Pt) ++ s.Pts)⟩ : Shape), A40, n41, c42, rfl, H, hc57.gr.g0, hc57.ok, hc57.ge, h58⟩
end Go.Proofs.Ytndjggncgpjolaa

namespace Go.Proofs.Ytndjggncgpjolaa
open Go.RowKit
set_option linter.unusedVariables false
def spec_l2Copy.E (f : Feat) (Q : Feat → Prop) : Prop :=
  (([] : List Tag).length + f.Tags.length ≤ 268435456) ∧ spec_l1Copy.E f.Shape (fun r => Q (⟨f.Id, r, (([] : List Tag) ++ f.Tags)⟩ : Feat))
set_option maxHeartbeats 8000000 in
set_option maxRecDepth 100000 in
theorem spec_l2Copy.calls {O : Ob} (w0 : World) (hO : Ok w0 O) (f : Feat) (A2 : Option Addr) (n3 c4 : Nat) (A7 : Option Addr) (n8 c9 : Nat) (hs1 : Lim f.Id) (hp5 : Sl kPt w0 (Fr O) (.slice A2 n3 c4) f.Shape.Pts) (hp10 : Sl kTag w0 (Fr O) (.slice A7 n8 c9) f.Tags) (Q : Feat → Prop) (h : spec_l2Copy.E f Q) :
    Ret Try.prog 80 [.agg #[vs f.Id, vi f.Shape.Kind, .slice A2 n3 c4, .slice A7 n8 c9]] w0 (fun v w' => ∃ (r0 : Feat) (A0 : Option Addr) (n0 c0 : Nat) (A2 : Option Addr) (n2 c2 : Nat), v = .agg #[vs r0.Id, vi r0.Shape.Kind, .slice A0 n0 c0, .slice A2 n2 c2] ∧ Q r0 ∧ Gr w0 w' none ∧ Ok w' ([blk (.slice A0 n0 c0), blk (.slice A2 n2 c2)] ++ O) ∧ (∀ b, some b ∈ [blk (.slice A0 n0 c0), blk (.slice A2 n2 c2)] → w0.heap.size ≤ b) ∧ Lim r0.Id ∧ Ow kPt 29 w' ([blk (.slice A0 n0 c0), blk (.slice A2 n2 c2)] ++ O) (.slice A0 n0 c0) r0.Shape.Pts ∧ Ow kTag 133 w' ([blk (.slice A0 n0 c0), blk (.slice A2 n2 c2)] ++ O) (.slice A2 n2 c2) r0.Tags) := by
  have H : (([] : List Tag).length + f.Tags.length ≤ 268435456) ∧ spec_l1Copy.E f.Shape (fun r => Q (⟨f.Id, r, (([] : List Tag) ++ f.Tags)⟩ : Feat)) := h
  clear h
  have hc0 := Ct.init hO
  refine Ret_enter Try.func80 rfl 13 rfl [.cell 2 71] rfl rfl ?_
  refine W_seq ?_
  refine W_reg ?_
  refine L_box [vs f.Id, vi f.Shape.Kind, .slice A2 n3 c4, .slice A7 n8 c9] rfl fun w12 b13 hl15 hu16 g14 hx17 => ?_
  have h19 := Fb.mk hc0.ok hl15 hx17
  have hc20 := hc0.k0 g14
  refine L_alloc [vs [], .int .i64 0, .slice none 0 0, .slice none 0 0] ze71 fun w21 b22 hl24 hu25 g23 hx26 => ?_
  have hc28 := hc20.own g23 (some b22) (oglt hl24 hu25)
  refine L_nil ?_
  refine W_seq ?_
  refine W_mixr 11 [some b22] (by kernel_rfl) rfl fun w29 g30 hM31 => ?_
  have hc32 := hc28.k0 g30
  obtain ⟨hb33, H⟩ := H
  refine M_pu 0 rfl (by kernel_rfl) hM31 (P_fa fa71_0 ⟨b13, 0, none⟩ ⟨b13, 0, none⟩ rfl rfl) ?_
  have h34 := ((h19.st (.own _ _ g23 (oge hl24))).st (.new _ g30))
  refine M_pu 1 rfl (by kernel_rfl) hM31 (P_ldr ag9 cR ⟨b13, 0, none⟩ (vs f.Id) rfl (h34.cell rfl) (nm_cons (fr_ne (L := [some b22]) (O := O) (i := 0) h34.2 rfl) nm_nil)) ?_
  refine M_pu 2 rfl (by kernel_rfl) hM31 (P_fa fa71_1 ⟨b13, 0, none⟩ ⟨b13, 1, none⟩ rfl rfl) ?_
  refine M_pu 3 rfl (by kernel_rfl) hM31 (P_ldar ag68 sz68 cR ⟨b13, 1, none⟩ [vi f.Shape.Kind, .slice A2 n3 c4] rfl rfl (h34.cells (off := 1) rfl) (nm_cons (fr_ne (L := [some b22]) (O := O) (i := 0) h34.2 rfl) nm_nil)) ?_
  refine M_pu 6 rfl (by kernel_rfl) hM31 (P_fa fa71_2 ⟨b13, 0, none⟩ ⟨b13, 3, none⟩ rfl rfl) ?_
  refine M_pu 7 rfl (by kernel_rfl) hM31 (P_ldr ag69 cR ⟨b13, 3, none⟩ (.slice A7 n8 c9) rfl (h34.cell rfl) (nm_cons (fr_ne (L := [some b22]) (O := O) (i := 0) h34.2 rfl) nm_nil)) ?_
  refine M_any2 4 5 (by kernel_rfl) rfl rfl ?_ ?_
  · refine L_call go125 [.agg #[vi f.Shape.Kind, .slice A2 n3 c4]] rfl ((spec_l1Copy.calls w29 hc32.ok f.Shape A2 n3 c4 (hp5.st hc32.st) _ H).mono ?_)
    rintro _ w35 ⟨r, A37, n38, c39, rfl, H, g36, hk43, hk44, h40⟩
    have hc45 := hc32.owns g36 hk43 hk44
    have hM46 := Gm.tm hM31 g36
    refine L_nil ⟨hM46, ?_⟩
    refine M_any1 5 (by kernel_rfl) rfl ?_
    refine L_lit (kd := kTag) ei69 hc45 ([] : List Tag) (cells := []) rfl (fun _ => by kernel_rfl) fun w47 A48 n49 c50 g51 hr52 hc53 h54 => ?_
    have hM56 := Gm.tm hM46 g51
    refine L_nil ⟨hM56, ?_⟩
    refine M_any1 8 (by kernel_rfl) rfl ?_
    refine L_app ei69 hc53 (.slice A48 n49 c50) ([] : List Tag) f.Tags rfl h54 (.slice A7 n8 c9) rfl (hp10.st hc53.st).sx 0 rfl hb33 fun w57 A58 n59 c60 g61 s62 hc63 h64 => ?_
    have hM65 := Gm.tq hM56 g61 (hv_new hM46 hr52)
    have hv66 := hv_app (L := [blk (.slice A48 n49 c50), blk (.slice A37 n38 c39), some b22]) (O := O) (i := 0) hM56 rfl (hv_new hM46 hr52) s62 hc63
    refine L_nil ⟨hM65, ?_⟩
    refine M_pu 9 rfl (by kernel_rfl) hM65 (P_build (.agg #[vs f.Id, vi r.Kind, .slice A37 n38 c39, .slice A58 n59 c60]) (fun _ => by kernel_rfl)) ?_
    refine M_any1 10 (by kernel_rfl) rfl ?_
    have h71 := (Bx.sm (L := [blk (.slice A48 n49 c50), blk (.slice A37 n38 c39), some b22]) (O := O) (((hx26.k0 g30).k0 g36).k0 g51) hc53 (i := 2) rfl (j := 0) rfl (by decide) g61)
    refine L_stb b22 0 [vs ([] : Str), vi 0, .slice none 0 0, .slice none 0 0] [vs f.Id, vi r.Kind, .slice A37 n38 c39, .slice A58 n59 c60] [vs f.Id, vi r.Kind, .slice A37 n38 c39, .slice A58 n59 c60] rfl h71 rfl sz71 rfl rfl rfl fun w68 g69 hx70 => ?_
    have hc72 := hc63.wr 2 rfl g69
    have hM73 := Gm.tq hM65 g69 (hv_mem 0 rfl)
    refine L_nil ⟨hM73, ?_⟩
    refine M_nil (by kernel_rfl) ?_
    refine W_ret ?_
    have h74 := Bx.gv (L := [blk (.slice A58 n59 c60), blk (.slice A37 n38 c39), some b22]) (O := O) hx70 hc72 (i := 2) rfl
    have hc75 := hc72.drop 2 rfl
    have hc76 := hc75.perm (.swap _ _ _)
    have h77 := (h74.st (.perm (L := [blk (.slice A58 n59 c60), blk (.slice A37 n38 c39)]) (O := O) (.swap _ _ _)))
    have h78 := (Ow.sp (L := [blk (.slice A58 n59 c60), blk (.slice A37 n38 c39)]) (O := O) (Ow.sd (L := [blk (.slice A58 n59 c60), blk (.slice A37 n38 c39), some b22]) (O := O) (Ow.sw (L := [blk (.slice A58 n59 c60), blk (.slice A37 n38 c39), some b22]) (O := O) (Ow.sm (L := [blk (.slice A48 n49 c50), blk (.slice A37 n38 c39), some b22]) (O := O) (h40.so _ g51 hr52) hc53 (i := 1) rfl (j := 0) rfl (by decide) g61 s62) hc63 (i := 1) rfl (j := 2) rfl (by decide) g69) (i := 1) rfl (j := 2) rfl (by decide)) (.swap _ _ _))
    have h79 := (Ow.sp (L := [blk (.slice A58 n59 c60), blk (.slice A37 n38 c39)]) (O := O) (Ow.sd (L := [blk (.slice A58 n59 c60), blk (.slice A37 n38 c39), some b22]) (O := O) (Ow.sw (L := [blk (.slice A58 n59 c60), blk (.slice A37 n38 c39), some b22]) (O := O) h64 hc63 (i := 0) rfl (j := 2) rfl (by decide) g69) (i := 0) rfl (j := 2) rfl (by decide)) (.swap _ _ _))
    exact ⟨[.agg #[vs f.Id, vi r.Kind, .slice A37 n38 c39, .slice A58 n59 c60]], ⟨_, _, rfl, h77.1.res rfl ag71 sz71, rfl⟩, (⟨f.Id, r, (([] : List Tag) ++ f.Tags)⟩ : Feat), A37, n38, c39, A58, n59, c60, rfl, H, hc76.gr.g0, hc76.ok, hc76.ge, hs1, h78, h79⟩
  · refine L_lit (kd := kTag) ei69 hc32 ([] : List Tag) (cells := []) rfl (fun _ => by kernel_rfl) fun w35 A36 n37 c38 g39 hr40 hc41 h42 => ?_
    have hM44 := Gm.tm hM31 g39
    refine L_nil ⟨hM44, ?_⟩
    refine M_any1 4 (by kernel_rfl) rfl ?_
    refine L_call go125 [.agg #[vi f.Shape.Kind, .slice A2 n3 c4]] rfl ((spec_l1Copy.calls w35 hc41.ok f.Shape A2 n3 c4 (hp5.st hc41.st) _ H).mono ?_)
    rintro _ w45 ⟨r, A47, n48, c49, rfl, H, g46, hk53, hk54, h50⟩
    have hc55 := hc41.owns g46 hk53 hk54
    have hM56 := Gm.tm hM44 g46
    refine L_nil ⟨hM56, ?_⟩
    refine M_any1 8 (by kernel_rfl) rfl ?_
    have h57 := (h42.sos g46 hk54)
    refine L_app ei69 hc55 (.slice A36 n37 c38) ([] : List Tag) f.Tags rfl h57 (.slice A7 n8 c9) rfl (hp10.st hc55.st).sx 1 rfl hb33 fun w58 A59 n60 c61 g62 s63 hc64 h65 => ?_
    have hM66 := Gm.tq hM56 g62 (hv_new hM31 hr40)
    have hv67 := hv_app (L := [blk (.slice A47 n48 c49), blk (.slice A36 n37 c38), some b22]) (O := O) (i := 1) hM56 rfl (hv_new hM31 hr40) s63 hc64
    refine L_nil ⟨hM66, ?_⟩
    refine M_pu 9 rfl (by kernel_rfl) hM66 (P_build (.agg #[vs f.Id, vi r.Kind, .slice A47 n48 c49, .slice A59 n60 c61]) (fun _ => by kernel_rfl)) ?_
    refine M_any1 10 (by kernel_rfl) rfl ?_
    have h72 := (Bx.sm (L := [blk (.slice A47 n48 c49), blk (.slice A36 n37 c38), some b22]) (O := O) (((hx26.k0 g30).k0 g39).k0 g46) hc55 (i := 2) rfl (j := 1) rfl (by decide) g62)
    refine L_stb b22 0 [vs ([] : Str), vi 0, .slice none 0 0, .slice none 0 0] [vs f.Id, vi r.Kind, .slice A47 n48 c49, .slice A59 n60 c61] [vs f.Id, vi r.Kind, .slice A47 n48 c49, .slice A59 n60 c61] rfl h72 rfl sz71 rfl rfl rfl fun w69 g70 hx71 => ?_
    have hc73 := hc64.wr 2 rfl g70
    have hM74 := Gm.tq hM66 g70 (hv_mem 0 rfl)
    refine L_nil ⟨hM74, ?_⟩
    refine M_nil (by kernel_rfl) ?_
    refine W_ret ?_
    have h75 := Bx.gv (L := [blk (.slice A47 n48 c49), blk (.slice A59 n60 c61), some b22]) (O := O) hx71 hc73 (i := 2) rfl
    have hc76 := hc73.drop 2 rfl
    have h77 := (Ow.sd (L := [blk (.slice A47 n48 c49), blk (.slice A59 n60 c61), some b22]) (O := O) (Ow.sw (L := [blk (.slice A47 n48 c49), blk (.slice A59 n60 c61), some b22]) (O := O) (Ow.sm (L := [blk (.slice A47 n48 c49), blk (.slice A36 n37 c38), some b22]) (O := O) h50 hc55 (i := 0) rfl (j := 1) rfl (by decide) g62 s63) hc64 (i := 0) rfl (j := 2) rfl (by decide) g70) (i := 0) rfl (j := 2) rfl (by decide))
    have h78 := (Ow.sd (L := [blk (.slice A47 n48 c49), blk (.slice A59 n60 c61), some b22]) (O := O) (Ow.sw (L := [blk (.slice A47 n48 c49), blk (.slice A59 n60 c61), some b22]) (O := O) h65 hc64 (i := 1) rfl (j := 2) rfl (by decide) g70) (i := 1) rfl (j := 2) rfl (by decide))
    exact ⟨[.agg #[vs f.Id, vi r.Kind, .slice A47 n48 c49, .slice A59 n60 c61]], ⟨_, _, rfl, h75.1.res rfl ag71 sz71, rfl⟩, (⟨f.Id, r, (([] : List Tag) ++ f.Tags)⟩ : Feat), A47, n48, c49, A59, n60, c61, rfl, H, hc76.gr.g0, hc76.ok, hc76.ge, hs1, h77, h78⟩
end Go.Proofs.Ytndjggncgpjolaa

namespace Go.Proofs.Ytndjggncgpjolaa
open Go.RowKit
set_option linter.unusedVariables false
def spec_l4Copy.E (c_ : Change) (Q : Change → Prop) : Prop :=
  spec_l2Copy.E c_.Was (fun r => spec_l2Copy.E c_.Now (fun r2 => Q (⟨c_.Id, c_.Had, r, c_.Has, r2⟩ : Change)))
set_option maxHeartbeats 8000000 in
set_option maxRecDepth 100000 in
theorem spec_l4Copy.calls {O : Ob} (w0 : World) (hO : Ok w0 O) (c_ : Change) (A3 : Option Addr) (n4 c5 : Nat) (A8 : Option Addr) (n9 c10 : Nat) (A14 : Option Addr) (n15 c16 : Nat) (A19 : Option Addr) (n20 c21 : Nat) (hs1 : Lim c_.Id) (hs2 : Lim c_.Was.Id) (hp6 : Sl kPt w0 (Fr O) (.slice A3 n4 c5) c_.Was.Shape.Pts) (hp11 : Sl kTag w0 (Fr O) (.slice A8 n9 c10) c_.Was.Tags) (hs13 : Lim c_.Now.Id) (hp17 : Sl kPt w0 (Fr O) (.slice A14 n15 c16) c_.Now.Shape.Pts) (hp22 : Sl kTag w0 (Fr O) (.slice A19 n20 c21) c_.Now.Tags) (Q : Change → Prop) (h : spec_l4Copy.E c_ Q) :
    Ret Try.prog 62 [.agg #[vs c_.Id, vb c_.Had, vs c_.Was.Id, vi c_.Was.Shape.Kind, .slice A3 n4 c5, .slice A8 n9 c10, vb c_.Has, vs c_.Now.Id, vi c_.Now.Shape.Kind, .slice A14 n15 c16, .slice A19 n20 c21]] w0 (fun v w' => ∃ (r0 : Change) (A0 : Option Addr) (n0 c0 : Nat) (A2 : Option Addr) (n2 c2 : Nat) (A4 : Option Addr) (n4 c4 : Nat) (A6 : Option Addr) (n6 c6 : Nat), v = .agg #[vs r0.Id, vb r0.Had, vs r0.Was.Id, vi r0.Was.Shape.Kind, .slice A0 n0 c0, .slice A2 n2 c2, vb r0.Has, vs r0.Now.Id, vi r0.Now.Shape.Kind, .slice A4 n4 c4, .slice A6 n6 c6] ∧ Q r0 ∧ Gr w0 w' none ∧ Ok w' ([blk (.slice A0 n0 c0), blk (.slice A2 n2 c2), blk (.slice A4 n4 c4), blk (.slice A6 n6 c6)] ++ O) ∧ (∀ b, some b ∈ [blk (.slice A0 n0 c0), blk (.slice A2 n2 c2), blk (.slice A4 n4 c4), blk (.slice A6 n6 c6)] → w0.heap.size ≤ b) ∧ Lim r0.Id ∧ Lim r0.Was.Id ∧ Ow kPt 29 w' ([blk (.slice A0 n0 c0), blk (.slice A2 n2 c2), blk (.slice A4 n4 c4), blk (.slice A6 n6 c6)] ++ O) (.slice A0 n0 c0) r0.Was.Shape.Pts ∧ Ow kTag 133 w' ([blk (.slice A0 n0 c0), blk (.slice A2 n2 c2), blk (.slice A4 n4 c4), blk (.slice A6 n6 c6)] ++ O) (.slice A2 n2 c2) r0.Was.Tags ∧ Lim r0.Now.Id ∧ Ow kPt 29 w' ([blk (.slice A0 n0 c0), blk (.slice A2 n2 c2), blk (.slice A4 n4 c4), blk (.slice A6 n6 c6)] ++ O) (.slice A4 n4 c4) r0.Now.Shape.Pts ∧ Ow kTag 133 w' ([blk (.slice A0 n0 c0), blk (.slice A2 n2 c2), blk (.slice A4 n4 c4), blk (.slice A6 n6 c6)] ++ O) (.slice A6 n6 c6) r0.Now.Tags) := by
  have H : spec_l2Copy.E c_.Was (fun r => spec_l2Copy.E c_.Now (fun r2 => Q (⟨c_.Id, c_.Had, r, c_.Has, r2⟩ : Change))) := h
  clear h
  have hc0 := Ct.init hO
  refine Ret_enter Try.func62 rfl 16 rfl [.cell 2 103] rfl rfl ?_
  refine W_seq ?_
  refine W_reg ?_
  refine L_box [vs c_.Id, vb c_.Had, vs c_.Was.Id, vi c_.Was.Shape.Kind, .slice A3 n4 c5, .slice A8 n9 c10, vb c_.Has, vs c_.Now.Id, vi c_.Now.Shape.Kind, .slice A14 n15 c16, .slice A19 n20 c21] rfl fun w24 b25 hl27 hu28 g26 hx29 => ?_
  have h31 := Fb.mk hc0.ok hl27 hx29
  have hc32 := hc0.k0 g26
  refine L_alloc [vs [], vb false, vs [], .int .i64 0, .slice none 0 0, .slice none 0 0, vb false, vs [], .int .i64 0, .slice none 0 0, .slice none 0 0] ze103 fun w33 b34 hl36 hu37 g35 hx38 => ?_
  have hc40 := hc32.own g35 (some b34) (oglt hl36 hu37)
  refine L_nil ?_
  refine W_seq ?_
  refine W_mixr 14 [some b34] (by kernel_rfl) rfl fun w41 g42 hM43 => ?_
  have hc44 := hc40.k0 g42
  refine M_pu 0 rfl (by kernel_rfl) hM43 (P_fa fa103_0 ⟨b25, 0, none⟩ ⟨b25, 0, none⟩ rfl rfl) ?_
  have h45 := ((h31.st (.own _ _ g35 (oge hl36))).st (.new _ g42))
  refine M_pu 1 rfl (by kernel_rfl) hM43 (P_ldr ag9 cR ⟨b25, 0, none⟩ (vs c_.Id) rfl (h45.cell rfl) (nm_cons (fr_ne (L := [some b34]) (O := O) (i := 0) h45.2 rfl) nm_nil)) ?_
  refine M_pu 2 rfl (by kernel_rfl) hM43 (P_fa fa103_1 ⟨b25, 0, none⟩ ⟨b25, 1, none⟩ rfl rfl) ?_
  refine M_pu 3 rfl (by kernel_rfl) hM43 (P_ldr ag4 cR ⟨b25, 1, none⟩ (vb c_.Had) rfl (h45.cell rfl) (nm_cons (fr_ne (L := [some b34]) (O := O) (i := 0) h45.2 rfl) nm_nil)) ?_
  refine M_pu 4 rfl (by kernel_rfl) hM43 (P_fa fa103_2 ⟨b25, 0, none⟩ ⟨b25, 2, none⟩ rfl rfl) ?_
  refine M_pu 5 rfl (by kernel_rfl) hM43 (P_ldar ag71 sz71 cR ⟨b25, 2, none⟩ [vs c_.Was.Id, vi c_.Was.Shape.Kind, .slice A3 n4 c5, .slice A8 n9 c10] rfl rfl (h45.cells (off := 2) rfl) (nm_cons (fr_ne (L := [some b34]) (O := O) (i := 0) h45.2 rfl) nm_nil)) ?_
  refine M_pu 7 rfl (by kernel_rfl) hM43 (P_fa fa103_3 ⟨b25, 0, none⟩ ⟨b25, 6, none⟩ rfl rfl) ?_
  refine M_pu 8 rfl (by kernel_rfl) hM43 (P_ldr ag4 cR ⟨b25, 6, none⟩ (vb c_.Has) rfl (h45.cell rfl) (nm_cons (fr_ne (L := [some b34]) (O := O) (i := 0) h45.2 rfl) nm_nil)) ?_
  refine M_pu 9 rfl (by kernel_rfl) hM43 (P_fa fa103_4 ⟨b25, 0, none⟩ ⟨b25, 7, none⟩ rfl rfl) ?_
  refine M_pu 10 rfl (by kernel_rfl) hM43 (P_ldar ag71 sz71 cR ⟨b25, 7, none⟩ [vs c_.Now.Id, vi c_.Now.Shape.Kind, .slice A14 n15 c16, .slice A19 n20 c21] rfl rfl (h45.cells (off := 7) rfl) (nm_cons (fr_ne (L := [some b34]) (O := O) (i := 0) h45.2 rfl) nm_nil)) ?_
  refine M_any1 6 (by kernel_rfl) rfl ?_
  refine L_call go80 [.agg #[vs c_.Was.Id, vi c_.Was.Shape.Kind, .slice A3 n4 c5, .slice A8 n9 c10]] rfl ((spec_l2Copy.calls w41 hc44.ok c_.Was A3 n4 c5 A8 n9 c10 hs2 (hp6.st hc44.st) (hp11.st hc44.st) _ H).mono ?_)
  rintro _ w46 ⟨r, A49, n50, c51, A54, n55, c56, rfl, H, g47, hk60, hk61, hs48, h52, h57⟩
  have hc62 := hc44.owns g47 hk60 hk61
  have hM63 := Gm.tm hM43 g47
  refine L_nil ⟨hM63, ?_⟩
  refine M_any1 11 (by kernel_rfl) rfl ?_
  refine L_call go80 [.agg #[vs c_.Now.Id, vi c_.Now.Shape.Kind, .slice A14 n15 c16, .slice A19 n20 c21]] rfl ((spec_l2Copy.calls w46 hc62.ok c_.Now A14 n15 c16 A19 n20 c21 hs13 (hp17.st hc62.st) (hp22.st hc62.st) _ H).mono ?_)
  rintro _ w64 ⟨r2, A67, n68, c69, A72, n73, c74, rfl, H, g65, hk78, hk79, hs66, h70, h75⟩
  have hc80 := hc62.owns g65 hk78 hk79
  have hM81 := Gm.tm hM63 g65
  refine L_nil ⟨hM81, ?_⟩
  refine M_pu 12 rfl (by kernel_rfl) hM81 (P_build (.agg #[vs c_.Id, vb c_.Had, vs r.Id, vi r.Shape.Kind, .slice A49 n50 c51, .slice A54 n55 c56, vb c_.Has, vs r2.Id, vi r2.Shape.Kind, .slice A67 n68 c69, .slice A72 n73 c74]) (fun _ => by kernel_rfl)) ?_
  refine M_any1 13 (by kernel_rfl) rfl ?_
  have h85 := (((hx38.k0 g42).k0 g47).k0 g65)
  refine L_stb b34 0 [vs ([] : Str), vb false, vs ([] : Str), vi 0, .slice none 0 0, .slice none 0 0, vb false, vs ([] : Str), vi 0, .slice none 0 0, .slice none 0 0] [vs c_.Id, vb c_.Had, vs r.Id, vi r.Shape.Kind, .slice A49 n50 c51, .slice A54 n55 c56, vb c_.Has, vs r2.Id, vi r2.Shape.Kind, .slice A67 n68 c69, .slice A72 n73 c74] [vs c_.Id, vb c_.Had, vs r.Id, vi r.Shape.Kind, .slice A49 n50 c51, .slice A54 n55 c56, vb c_.Has, vs r2.Id, vi r2.Shape.Kind, .slice A67 n68 c69, .slice A72 n73 c74] rfl h85 rfl sz103 rfl rfl rfl fun w82 g83 hx84 => ?_
  have hc86 := hc80.wr 4 rfl g83
  have hM87 := Gm.tq hM81 g83 (hv_mem 0 rfl)
  refine L_nil ⟨hM87, ?_⟩
  refine M_nil (by kernel_rfl) ?_
  refine W_ret ?_
  have h88 := Bx.gv (L := [blk (.slice A67 n68 c69), blk (.slice A72 n73 c74), blk (.slice A49 n50 c51), blk (.slice A54 n55 c56), some b34]) (O := O) hx84 hc86 (i := 4) rfl
  have hc89 := hc86.drop 4 rfl
  have hc90 := hc89.perm (.cons _ (.swap _ _ _))
  have hc91 := hc90.perm (.swap _ _ _)
  have hc92 := hc91.perm (.cons _ (.cons _ (.swap _ _ _)))
  have hc93 := hc92.perm (.cons _ (.swap _ _ _))
  have h94 := ((((h88.st (.perm (L := [blk (.slice A67 n68 c69), blk (.slice A72 n73 c74), blk (.slice A49 n50 c51), blk (.slice A54 n55 c56)]) (O := O) (.cons _ (.swap _ _ _)))).st (.perm (L := [blk (.slice A67 n68 c69), blk (.slice A49 n50 c51), blk (.slice A72 n73 c74), blk (.slice A54 n55 c56)]) (O := O) (.swap _ _ _))).st (.perm (L := [blk (.slice A49 n50 c51), blk (.slice A67 n68 c69), blk (.slice A72 n73 c74), blk (.slice A54 n55 c56)]) (O := O) (.cons _ (.cons _ (.swap _ _ _))))).st (.perm (L := [blk (.slice A49 n50 c51), blk (.slice A67 n68 c69), blk (.slice A54 n55 c56), blk (.slice A72 n73 c74)]) (O := O) (.cons _ (.swap _ _ _))))
  have h95 := (Ow.sp (L := [blk (.slice A49 n50 c51), blk (.slice A67 n68 c69), blk (.slice A54 n55 c56), blk (.slice A72 n73 c74)]) (O := O) (Ow.sp (L := [blk (.slice A49 n50 c51), blk (.slice A67 n68 c69), blk (.slice A72 n73 c74), blk (.slice A54 n55 c56)]) (O := O) (Ow.sp (L := [blk (.slice A67 n68 c69), blk (.slice A49 n50 c51), blk (.slice A72 n73 c74), blk (.slice A54 n55 c56)]) (O := O) (Ow.sp (L := [blk (.slice A67 n68 c69), blk (.slice A72 n73 c74), blk (.slice A49 n50 c51), blk (.slice A54 n55 c56)]) (O := O) (Ow.sd (L := [blk (.slice A67 n68 c69), blk (.slice A72 n73 c74), blk (.slice A49 n50 c51), blk (.slice A54 n55 c56), some b34]) (O := O) (Ow.sw (L := [blk (.slice A67 n68 c69), blk (.slice A72 n73 c74), blk (.slice A49 n50 c51), blk (.slice A54 n55 c56), some b34]) (O := O) (h52.sos g65 hk79) hc80 (i := 2) rfl (j := 4) rfl (by decide) g83) (i := 2) rfl (j := 4) rfl (by decide)) (.cons _ (.swap _ _ _))) (.swap _ _ _)) (.cons _ (.cons _ (.swap _ _ _)))) (.cons _ (.swap _ _ _)))
  have h96 := (Ow.sp (L := [blk (.slice A49 n50 c51), blk (.slice A67 n68 c69), blk (.slice A54 n55 c56), blk (.slice A72 n73 c74)]) (O := O) (Ow.sp (L := [blk (.slice A49 n50 c51), blk (.slice A67 n68 c69), blk (.slice A72 n73 c74), blk (.slice A54 n55 c56)]) (O := O) (Ow.sp (L := [blk (.slice A67 n68 c69), blk (.slice A49 n50 c51), blk (.slice A72 n73 c74), blk (.slice A54 n55 c56)]) (O := O) (Ow.sp (L := [blk (.slice A67 n68 c69), blk (.slice A72 n73 c74), blk (.slice A49 n50 c51), blk (.slice A54 n55 c56)]) (O := O) (Ow.sd (L := [blk (.slice A67 n68 c69), blk (.slice A72 n73 c74), blk (.slice A49 n50 c51), blk (.slice A54 n55 c56), some b34]) (O := O) (Ow.sw (L := [blk (.slice A67 n68 c69), blk (.slice A72 n73 c74), blk (.slice A49 n50 c51), blk (.slice A54 n55 c56), some b34]) (O := O) (h57.sos g65 hk79) hc80 (i := 3) rfl (j := 4) rfl (by decide) g83) (i := 3) rfl (j := 4) rfl (by decide)) (.cons _ (.swap _ _ _))) (.swap _ _ _)) (.cons _ (.cons _ (.swap _ _ _)))) (.cons _ (.swap _ _ _)))
  have h97 := (Ow.sp (L := [blk (.slice A49 n50 c51), blk (.slice A67 n68 c69), blk (.slice A54 n55 c56), blk (.slice A72 n73 c74)]) (O := O) (Ow.sp (L := [blk (.slice A49 n50 c51), blk (.slice A67 n68 c69), blk (.slice A72 n73 c74), blk (.slice A54 n55 c56)]) (O := O) (Ow.sp (L := [blk (.slice A67 n68 c69), blk (.slice A49 n50 c51), blk (.slice A72 n73 c74), blk (.slice A54 n55 c56)]) (O := O) (Ow.sp (L := [blk (.slice A67 n68 c69), blk (.slice A72 n73 c74), blk (.slice A49 n50 c51), blk (.slice A54 n55 c56)]) (O := O) (Ow.sd (L := [blk (.slice A67 n68 c69), blk (.slice A72 n73 c74), blk (.slice A49 n50 c51), blk (.slice A54 n55 c56), some b34]) (O := O) (Ow.sw (L := [blk (.slice A67 n68 c69), blk (.slice A72 n73 c74), blk (.slice A49 n50 c51), blk (.slice A54 n55 c56), some b34]) (O := O) h70 hc80 (i := 0) rfl (j := 4) rfl (by decide) g83) (i := 0) rfl (j := 4) rfl (by decide)) (.cons _ (.swap _ _ _))) (.swap _ _ _)) (.cons _ (.cons _ (.swap _ _ _)))) (.cons _ (.swap _ _ _)))
  have h98 := (Ow.sp (L := [blk (.slice A49 n50 c51), blk (.slice A67 n68 c69), blk (.slice A54 n55 c56), blk (.slice A72 n73 c74)]) (O := O) (Ow.sp (L := [blk (.slice A49 n50 c51), blk (.slice A67 n68 c69), blk (.slice A72 n73 c74), blk (.slice A54 n55 c56)]) (O := O) (Ow.sp (L := [blk (.slice A67 n68 c69), blk (.slice A49 n50 c51), blk (.slice A72 n73 c74), blk (.slice A54 n55 c56)]) (O := O) (Ow.sp (L := [blk (.slice A67 n68 c69), blk (.slice A72 n73 c74), blk (.slice A49 n50 c51), blk (.slice A54 n55 c56)]) (O := O) (Ow.sd (L := [blk (.slice A67 n68 c69), blk (.slice A72 n73 c74), blk (.slice A49 n50 c51), blk (.slice A54 n55 c56), some b34]) (O := O) (Ow.sw (L := [blk (.slice A67 n68 c69), blk (.slice A72 n73 c74), blk (.slice A49 n50 c51), blk (.slice A54 n55 c56), some b34]) (O := O) h75 hc80 (i := 1) rfl (j := 4) rfl (by decide) g83) (i := 1) rfl (j := 4) rfl (by decide)) (.cons _ (.swap _ _ _))) (.swap _ _ _)) (.cons _ (.cons _ (.swap _ _ _)))) (.cons _ (.swap _ _ _)))
  exact ⟨[.agg #[vs c_.Id, vb c_.Had, vs r.Id, vi r.Shape.Kind, .slice A49 n50 c51, .slice A54 n55 c56, vb c_.Has, vs r2.Id, vi r2.Shape.Kind, .slice A67 n68 c69, .slice A72 n73 c74]], ⟨_, _, rfl, h94.1.res rfl ag103 sz103, rfl⟩, (⟨c_.Id, c_.Had, r, c_.Has, r2⟩ : Change), A49, n50, c51, A54, n55, c56, A67, n68, c69, A72, n73, c74, rfl, H, hc93.gr.g0, hc93.ok, hc93.ge, hs1, hs48, h95, h96, hs66, h97, h98⟩
end Go.Proofs.Ytndjggncgpjolaa
