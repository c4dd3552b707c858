/- It is proved here that the law FnExactDiffBack of the given program holds whatever it is handed: the walks through the code, the plain laws and the row, in this order.
   Conditions: none. -/
import Derived.Below
import Derived.ChangeArms
import Derived.ChangeOld
import Derived.ChangeSlices
import Derived.DataReads
import Derived.Deep.Quiet
import Derived.KernelRfl
import Derived.Laws.Build
import Derived.Laws.IdiomStrings
import Derived.Laws.OwnMore
import Derived.Laws.Slices
import Derived.Laws.StructEq
import Derived.OpenShut
import Derived.ProofKit
import Derived.ShutString
import Derived.SizedLaws
import Derived.StillTail
import Derived.Test.YtndjggncgpjolaaProg
import Derived.Test.YtndjggncgpjolaaRows
import Derived.WalkKit
import Derived.Test.YtndjggncgpjolaaCExactDiffBacka
import Derived.Test.YtndjggncgpjolaaCExactDiffBackb
import Derived.Test.YtndjggncgpjolaaCExactDiffBackc
import Derived.Test.YtndjggncgpjolaaCExactDiffBackd
namespace Go.Proofs.Ytndjggncgpjolaa
open Go.RowKit
set_option linter.unusedVariables false
def laws_eqChange.E (a : Change) (b : Change) (Q : Bool → Prop) : Prop :=
  (if a.Id != b.Id then Q false else (if a.Had != b.Had then Q false else laws_eqFeat.E a.Was b.Was (fun r => (if !r then Q false else (if a.Has != b.Has then Q false else laws_eqFeat.E a.Now b.Now (fun r2 => (if !r2 then Q false else Q true)))))))
set_option maxHeartbeats 8000000 in
set_option maxRecDepth 100000 in
theorem laws_eqChange.calls {O : Ob} (w0 : World) (hO : Ok w0 O) (a : Change) (A3 : Option Addr) (n4 c5 : Nat) (A8 : Option Addr) (n9 c10 : Nat) (A14 : Option Addr) (n15 c16 : Nat) (A19 : Option Addr) (n20 c21 : Nat) (hs1 : Lim a.Id) (hs2 : Lim a.Was.Id) (hp6 : Sl kPt w0 (Fr O) (.slice A3 n4 c5) a.Was.Shape.Pts) (hp11 : Sl kTag w0 (Fr O) (.slice A8 n9 c10) a.Was.Tags) (hs13 : Lim a.Now.Id) (hp17 : Sl kPt w0 (Fr O) (.slice A14 n15 c16) a.Now.Shape.Pts) (hp22 : Sl kTag w0 (Fr O) (.slice A19 n20 c21) a.Now.Tags) (b : Change) (A26 : Option Addr) (n27 c28 : Nat) (A31 : Option Addr) (n32 c33 : Nat) (A37 : Option Addr) (n38 c39 : Nat) (A42 : Option Addr) (n43 c44 : Nat) (hs24 : Lim b.Id) (hs25 : Lim b.Was.Id) (hp29 : Sl kPt w0 (Fr O) (.slice A26 n27 c28) b.Was.Shape.Pts) (hp34 : Sl kTag w0 (Fr O) (.slice A31 n32 c33) b.Was.Tags) (hs36 : Lim b.Now.Id) (hp40 : Sl kPt w0 (Fr O) (.slice A37 n38 c39) b.Now.Shape.Pts) (hp45 : Sl kTag w0 (Fr O) (.slice A42 n43 c44) b.Now.Tags) (Q : Bool → Prop) (h : laws_eqChange.E a b Q) :
    Ret Try.prog 66 [.agg #[vs a.Id, vb a.Had, vs a.Was.Id, vi a.Was.Shape.Kind, .slice A3 n4 c5, .slice A8 n9 c10, vb a.Has, vs a.Now.Id, vi a.Now.Shape.Kind, .slice A14 n15 c16, .slice A19 n20 c21], .agg #[vs b.Id, vb b.Had, vs b.Was.Id, vi b.Was.Shape.Kind, .slice A26 n27 c28, .slice A31 n32 c33, vb b.Has, vs b.Now.Id, vi b.Now.Shape.Kind, .slice A37 n38 c39, .slice A42 n43 c44]] w0 (fun v w' => ∃ (r0 : Bool), v = vb r0 ∧ Q r0 ∧ Gr w0 w' none) := by
  have H : (if a.Id != b.Id then Q false else (if a.Had != b.Had then Q false else laws_eqFeat.E a.Was b.Was (fun r => (if !r then Q false else (if a.Has != b.Has then Q false else laws_eqFeat.E a.Now b.Now (fun r2 => (if !r2 then Q false else Q true))))))) := h
  clear h
  have hc0 := Ct.init hO
  refine Ret_enter Try.func66 rfl 32 rfl [.tmp 4] rfl rfl ?_
  refine W_seq ?_
  refine W_reg ?_
  refine L_box [vs a.Id, vb a.Had, vs a.Was.Id, vi a.Was.Shape.Kind, .slice A3 n4 c5, .slice A8 n9 c10, vb a.Has, vs a.Now.Id, vi a.Now.Shape.Kind, .slice A14 n15 c16, .slice A19 n20 c21] rfl fun w47 b48 hl50 hu51 g49 hx52 => ?_
  have h54 := Fb.mk hc0.ok hl50 hx52
  have hc55 := hc0.k0 g49
  refine L_box [vs b.Id, vb b.Had, vs b.Was.Id, vi b.Was.Shape.Kind, .slice A26 n27 c28, .slice A31 n32 c33, vb b.Has, vs b.Now.Id, vi b.Now.Shape.Kind, .slice A37 n38 c39, .slice A42 n43 c44] rfl fun w56 b57 hl59 hu60 g58 hx61 => ?_
  have h63 := Fb.mk hc55.ok hl59 hx61
  have hc64 := hc55.k0 g58
  refine L_pu (P_assign (vb false) rfl) ?_
  refine L_nil ?_
  refine W_seq ?_
  refine W_seq ?_
  refine W_reg ?_
  refine L_pu (P_fa fa103_0 ⟨b48, 0, none⟩ ⟨b48, 0, none⟩ rfl rfl) ?_
  have h65 := (h54.st (.new _ g58))
  refine L_pu (P_ld ag9 cL ⟨b48, 0, none⟩ (vs a.Id) rfl (h65.cell rfl)) ?_
  refine L_pu (P_fa fa103_0 ⟨b57, 0, none⟩ ⟨b57, 0, none⟩ rfl rfl) ?_
  refine L_pu (P_ld ag9 cL ⟨b57, 0, none⟩ (vs b.Id) rfl (h63.cell rfl)) ?_
  refine L_pu (P_scmp a.Id b.Id (a.Id != b.Id) rfl rfl rfl) ?_
  refine L_nil ?_
  refine W_cond (a.Id != b.Id) rfl (fun hq66 => ?_) (fun hq66 => ?_)
  · have H := ite_t H hq66
    refine W_seq ?_
    refine W_reg ?_
    refine L_pu (P_assign (vb false) rfl) ?_
    refine L_nil ?_
    refine W_ret ?_
    exact ⟨[vb false], ⟨_, rfl, rfl⟩, false, rfl, H, hc64.gr.g0⟩
  · have H := ite_f H hq66
    refine W_skip ?_
    refine W_seq ?_
    refine W_seq ?_
    refine W_reg ?_
    refine L_pu (P_fa fa103_1 ⟨b48, 0, none⟩ ⟨b48, 1, none⟩ rfl rfl) ?_
    refine L_pu (P_ld ag4 cL ⟨b48, 1, none⟩ (vb a.Had) rfl (h65.cell rfl)) ?_
    refine L_pu (P_fa fa103_1 ⟨b57, 0, none⟩ ⟨b57, 1, none⟩ rfl rfl) ?_
    refine L_pu (P_ld ag4 cL ⟨b57, 1, none⟩ (vb b.Had) rfl (h63.cell rfl)) ?_
    refine L_pu (P_bcmp Try.underlying4 a.Had b.Had (a.Had != b.Had) rfl rfl rfl) ?_
    refine L_nil ?_
    refine W_cond (a.Had != b.Had) rfl (fun hq67 => ?_) (fun hq67 => ?_)
    · have H := ite_t H hq67
      refine W_seq ?_
      refine W_reg ?_
      refine L_pu (P_assign (vb false) rfl) ?_
      refine L_nil ?_
      refine W_ret ?_
      exact ⟨[vb false], ⟨_, rfl, rfl⟩, false, rfl, H, hc64.gr.g0⟩
    · have H := ite_f H hq67
      refine W_skip ?_
      refine W_seq ?_
      refine W_seq ?_
      refine W_reg ?_
      refine L_pu (P_fa fa103_2 ⟨b48, 0, none⟩ ⟨b48, 2, none⟩ rfl rfl) ?_
      refine L_pu (P_lda ag71 sz71 cL ⟨b48, 2, none⟩ [vs a.Was.Id, vi a.Was.Shape.Kind, .slice A3 n4 c5, .slice A8 n9 c10] rfl rfl (h65.cells (off := 2) rfl)) ?_
      refine L_pu (P_fa fa103_2 ⟨b57, 0, none⟩ ⟨b57, 2, none⟩ rfl rfl) ?_
      refine L_pu (P_lda ag71 sz71 cL ⟨b57, 2, none⟩ [vs b.Was.Id, vi b.Was.Shape.Kind, .slice A26 n27 c28, .slice A31 n32 c33] rfl rfl (h63.cells (off := 2) rfl)) ?_
      refine L_call go37 [.agg #[vs a.Was.Id, vi a.Was.Shape.Kind, .slice A3 n4 c5, .slice A8 n9 c10], .agg #[vs b.Was.Id, vi b.Was.Shape.Kind, .slice A26 n27 c28, .slice A31 n32 c33]] rfl ((laws_eqFeat.calls w56 hc64.ok a.Was A3 n4 c5 A8 n9 c10 hs2 (hp6.st hc64.st) (hp11.st hc64.st) b.Was A26 n27 c28 A31 n32 c33 hs25 (hp29.st hc64.st) (hp34.st hc64.st) _ H).mono ?_)
      rintro _ w68 ⟨r, rfl, H, g69⟩
      have hc73 := hc64.k0 g69
      refine L_pu (P_not r rfl) ?_
      refine L_nil ?_
      refine W_cond (!r) rfl (fun hq74 => ?_) (fun hq74 => ?_)
      · have H := ite_t H hq74
        refine W_seq ?_
        refine W_reg ?_
        refine L_pu (P_assign (vb false) rfl) ?_
        refine L_nil ?_
        refine W_ret ?_
        exact ⟨[vb false], ⟨_, rfl, rfl⟩, false, rfl, H, hc73.gr.g0⟩
      · have H := ite_f H hq74
        refine W_skip ?_
        refine W_seq ?_
        refine W_seq ?_
        refine W_reg ?_
        refine L_pu (P_fa fa103_3 ⟨b48, 0, none⟩ ⟨b48, 6, none⟩ rfl rfl) ?_
        have h75 := (h65.st (.new _ g69))
        refine L_pu (P_ld ag4 cL ⟨b48, 6, none⟩ (vb a.Has) rfl (h75.cell rfl)) ?_
        refine L_pu (P_fa fa103_3 ⟨b57, 0, none⟩ ⟨b57, 6, none⟩ rfl rfl) ?_
        have h76 := (h63.st (.new _ g69))
        refine L_pu (P_ld ag4 cL ⟨b57, 6, none⟩ (vb b.Has) rfl (h76.cell rfl)) ?_
        refine L_pu (P_bcmp Try.underlying4 a.Has b.Has (a.Has != b.Has) rfl rfl rfl) ?_
        refine L_nil ?_
        refine W_cond (a.Has != b.Has) rfl (fun hq77 => ?_) (fun hq77 => ?_)
        · have H := ite_t H hq77
          refine W_seq ?_
          refine W_reg ?_
          refine L_pu (P_assign (vb false) rfl) ?_
          refine L_nil ?_
          refine W_ret ?_
          exact ⟨[vb false], ⟨_, rfl, rfl⟩, false, rfl, H, hc73.gr.g0⟩
        · have H := ite_f H hq77
          refine W_skip ?_
          refine W_seq ?_
          refine W_seq ?_
          refine W_reg ?_
          refine L_pu (P_fa fa103_4 ⟨b48, 0, none⟩ ⟨b48, 7, none⟩ rfl rfl) ?_
          refine L_pu (P_lda ag71 sz71 cL ⟨b48, 7, none⟩ [vs a.Now.Id, vi a.Now.Shape.Kind, .slice A14 n15 c16, .slice A19 n20 c21] rfl rfl (h75.cells (off := 7) rfl)) ?_
          refine L_pu (P_fa fa103_4 ⟨b57, 0, none⟩ ⟨b57, 7, none⟩ rfl rfl) ?_
          refine L_pu (P_lda ag71 sz71 cL ⟨b57, 7, none⟩ [vs b.Now.Id, vi b.Now.Shape.Kind, .slice A37 n38 c39, .slice A42 n43 c44] rfl rfl (h76.cells (off := 7) rfl)) ?_
          refine L_call go37 [.agg #[vs a.Now.Id, vi a.Now.Shape.Kind, .slice A14 n15 c16, .slice A19 n20 c21], .agg #[vs b.Now.Id, vi b.Now.Shape.Kind, .slice A37 n38 c39, .slice A42 n43 c44]] rfl ((laws_eqFeat.calls w68 hc73.ok a.Now A14 n15 c16 A19 n20 c21 hs13 (hp17.st hc73.st) (hp22.st hc73.st) b.Now A37 n38 c39 A42 n43 c44 hs36 (hp40.st hc73.st) (hp45.st hc73.st) _ H).mono ?_)
          rintro _ w78 ⟨r2, rfl, H, g79⟩
          have hc83 := hc73.k0 g79
          refine L_pu (P_not r2 rfl) ?_
          refine L_nil ?_
          refine W_cond (!r2) rfl (fun hq84 => ?_) (fun hq84 => ?_)
          · have H := ite_t H hq84
            refine W_seq ?_
            refine W_reg ?_
            refine L_pu (P_assign (vb false) rfl) ?_
            refine L_nil ?_
            refine W_ret ?_
            exact ⟨[vb false], ⟨_, rfl, rfl⟩, false, rfl, H, hc83.gr.g0⟩
          · have H := ite_f H hq84
            refine W_skip ?_
            refine W_seq ?_
            refine W_reg ?_
            refine L_pu (P_assign (vb true) rfl) ?_
            refine L_nil ?_
            refine W_ret ?_
            exact ⟨[vb true], ⟨_, rfl, rfl⟩, true, rfl, H, hc83.gr.g0⟩
end Go.Proofs.Ytndjggncgpjolaa

namespace Go.Proofs.Ytndjggncgpjolaa
set_option linter.unusedVariables false
set_option linter.unusedSimpArgs false
set_option linter.unusedSectionVars false
theorem laws_eqChange.law (a b : Change) (Q : Bool → Prop) (hq : Q (decide (a = b))) : laws_eqChange.E a b Q := by
  obtain ⟨x0, x1, x2, x3, x4⟩ := a; obtain ⟨y0, y1, y2, y3, y4⟩ := b
  rw [show (decide ((⟨x0, x1, x2, x3, x4⟩ : Change) = ⟨y0, y1, y2, y3, y4⟩)) = ((decide (x0 = y0)) && ((decide (x1 = y1)) && ((decide (x2 = y2)) && ((decide (x3 = y3)) && (decide (x4 = y4)))))) by simp only [Change.mk.injEq, Bool.decide_and]] at hq
  unfold laws_eqChange.E
  by_cases h0 : x0 = y0
  case neg => simpa [h0] using hq
  simp only [h0, decide_true, Bool.true_and, bne_self_eq_false, Bool.not_true, Bool.false_eq_true, if_false] at hq ⊢
  by_cases h1 : x1 = y1
  case neg => simpa [h1] using hq
  simp only [h1, decide_true, Bool.true_and, bne_self_eq_false, Bool.not_true, Bool.false_eq_true, if_false] at hq ⊢
  try refine laws_eqFeat.law _ _ _ ?_
  by_cases h2 : x2 = y2
  case neg => simpa [h2] using hq
  simp only [h2, decide_true, Bool.true_and, bne_self_eq_false, Bool.not_true, Bool.false_eq_true, if_false] at hq ⊢
  by_cases h3 : x3 = y3
  case neg => simpa [h3] using hq
  simp only [h3, decide_true, Bool.true_and, bne_self_eq_false, Bool.not_true, Bool.false_eq_true, if_false] at hq ⊢
  try refine laws_eqFeat.law _ _ _ ?_
  by_cases h4 : x4 = y4
  case neg => simpa [h4] using hq
  simp only [h4, decide_true, Bool.true_and, bne_self_eq_false, Bool.not_true, Bool.false_eq_true, if_false] at hq ⊢
  all_goals (try exact hq)
theorem laws_eqChange.is (a b : Change) : laws_eqChange.E a b (fun r => r = decide (a = b)) := laws_eqChange.law a b _ rfl
end Go.Proofs.Ytndjggncgpjolaa

namespace Go.Proofs.Ytndjggncgpjolaa
open Go.RowKit
set_option linter.unusedVariables false
def laws_eqChangeS.E (a : List Change) (b : List Change) (Q : Bool → Prop) : Prop :=
  (if (a.length : Int) != (b.length : Int) then Q false else (∃ (I32 : Int → Prop) (mu33 : Int → Nat), I32 0 ∧ ∀ (i2 : Int), I32 i2 → (if decide (i2 < (a.length : Int)) then ((0 : Int) ≤ i2 ∧ i2 < (a.length : Int)) ∧ ((0 : Int) ≤ i2 ∧ i2 < (b.length : Int)) ∧ (if !(decide ((nth a i2) = (nth b i2))) then Q false else (-9223372036854775808 ≤ i2) ∧ I32 (i2 + 1) ∧ mu33 (i2 + 1) < mu33 i2) else Q true)))
set_option maxHeartbeats 8000000 in
set_option maxRecDepth 100000 in
theorem laws_eqChangeS.calls {O : Ob} (w0 : World) (hO : Ok w0 O) (a : List Change) (A1 : Option Addr) (n2 c3 : Nat) (hp4 : Sl kChange w0 (Fr O) (.slice A1 n2 c3) a) (b : List Change) (A6 : Option Addr) (n7 c8 : Nat) (hp9 : Sl kChange w0 (Fr O) (.slice A6 n7 c8) b) (Q : Bool → Prop) (h : laws_eqChangeS.E a b Q) :
    Ret Try.prog 22 [.slice A1 n2 c3, .slice A6 n7 c8] w0 (fun v w' => ∃ (r0 : Bool), v = vb r0 ∧ Q r0 ∧ Gr w0 w' none) := by
  have H : (if (a.length : Int) != (b.length : Int) then Q false else (∃ (I32 : Int → Prop) (mu33 : Int → Nat), I32 0 ∧ ∀ (i2 : Int), I32 i2 → (if decide (i2 < (a.length : Int)) then ((0 : Int) ≤ i2 ∧ i2 < (a.length : Int)) ∧ ((0 : Int) ≤ i2 ∧ i2 < (b.length : Int)) ∧ (if !(decide ((nth a i2) = (nth b i2))) then Q false else (-9223372036854775808 ≤ i2) ∧ I32 (i2 + 1) ∧ mu33 (i2 + 1) < mu33 i2) else Q true))) := h
  clear h
  have hc0 := Ct.init hO
  refine Ret_enter Try.func22 rfl 27 rfl [.tmp 4] rfl rfl ?_
  refine W_seq ?_
  refine W_reg ?_
  refine L_pu (P_assign (vb false) rfl) ?_
  refine L_nil ?_
  refine W_seq ?_
  refine W_seq ?_
  refine W_reg ?_
  refine L_pu (P_move (.slice A1 n2 c3) rfl) ?_
  have hl11 := hp4.le
  refine L_pu (P_len Try.underlying43 A1 n2 c3 hp4.len rfl) ?_
  refine L_pu (P_move (.slice A6 n7 c8) rfl) ?_
  have hl12 := hp9.le
  refine L_pu (P_len Try.underlying43 A6 n7 c8 hp9.len rfl) ?_
  refine L_pu (P_cmp (a.length : Int) (b.length : Int) ((a.length : Int) != (b.length : Int)) rfl rfl rfl) ?_
  refine L_nil ?_
  refine W_cond ((a.length : Int) != (b.length : Int)) rfl (fun hq13 => ?_) (fun hq13 => ?_)
  · have H := ite_t H hq13
    refine W_seq ?_
    refine W_reg ?_
    refine L_pu (P_assign (vb false) rfl) ?_
    refine L_nil ?_
    refine W_ret ?_
    exact ⟨[vb false], ⟨_, rfl, rfl⟩, false, rfl, H, hc0.gr.g0⟩
  · have H := ite_f H hq13
    refine W_skip ?_
    refine W_seq ?_
    refine W_seq ?_
    refine W_reg ?_
    refine L_pu (P_assign (vi 0) rfl) ?_
    refine L_nil ?_
    refine W_block ?_
    obtain ⟨I32, mu33, hI34, H⟩ := H
    refine W_loop (α := Int) (fun (sv__ : Int) t w26 => match sv__ with | i2 => I32 i2 ∧ Has t [(0, .slice A1 n2 c3), (1, .slice A6 n7 c8), (5, vi i2)] ∧ Ct [] w0 w26 [] O ∧ Sl kChange w26 (Fr ([] ++ O)) (.slice A1 n2 c3) a ∧ Sl kChange w26 (Fr ([] ++ O)) (.slice A6 n7 c8) b) (fun (sv__ : Int) => match sv__ with | i2 => mu33 i2) 0 ⟨hI34, ⟨rfl, rfl, rfl, trivial⟩, hc0, hp4, hp9⟩ ?_
    rintro i2 _ w26 ⟨hI34, hh36, hc29, h30, h31⟩
    obtain ⟨u37, rfl⟩ := Has.ins hh36
    have H := H i2 hI34
    refine W_seq ?_
    refine W_seq ?_
    refine W_reg ?_
    refine L_pu (P_move (vi i2) rfl) ?_
    refine L_pu (P_move (.slice A1 n2 c3) rfl) ?_
    have hl38 := h30.le
    refine L_pu (P_len Try.underlying43 A1 n2 c3 h30.len rfl) ?_
    refine L_pu (P_cmp i2 (a.length : Int) (decide (i2 < (a.length : Int))) rfl rfl rfl) ?_
    refine L_nil ?_
    refine W_cond (decide (i2 < (a.length : Int))) rfl (fun hq39 => ?_) (fun hq39 => ?_)
    · have H := ite_t H hq39
      refine W_skip ?_
      refine W_seq ?_
      refine W_block ?_
      refine W_seq ?_
      refine W_draw (fun x => Gr w26 x none) (by kernel_rfl) (by kernel_rfl) (Gr.drew _) ?_
      refine Q_pu (P_move (.slice A1 n2 c3) rfl) ?_
      refine Q_pu (P_move (vi i2) rfl) ?_
      obtain ⟨hb40, H⟩ := H
      obtain ⟨ad41, cs42, hA43, hS46, hR44, hcl45⟩ := h30.get default (by decide) i2 hb40
      obtain ⟨A49, n50, c51, A54, n55, c56, A60, n61, c62, A65, n66, c67, rfl, hs47, hs48, h52, h57, hs59, h63, h68⟩ := kChange.op hR44
      refine Q_pu (P_ia Try.underlying43 se43 A1 ad41 n2 c3 h30.len i2 rfl hA43 rfl hb40) ?_
      refine Q_pu (P_lda ag103 sz103 cQ (ad41.add (i2.toNat * 11)) [vs ((nth a i2).Id), vb ((nth a i2).Had), vs ((nth a i2).Was.Id), vi ((nth a i2).Was.Shape.Kind), .slice A49 n50 c51, .slice A54 n55 c56, vb ((nth a i2).Has), vs ((nth a i2).Now.Id), vi ((nth a i2).Now.Shape.Kind), .slice A60 n61 c62, .slice A65 n66 c67] rfl rfl hcl45) ?_
      refine Q_pu (P_move (.slice A6 n7 c8) rfl) ?_
      refine Q_pu (P_move (vi i2) rfl) ?_
      obtain ⟨hb70, H⟩ := H
      obtain ⟨ad71, cs72, hA73, hS76, hR74, hcl75⟩ := h31.get default (by decide) i2 hb70
      obtain ⟨A79, n80, c81, A84, n85, c86, A90, n91, c92, A95, n96, c97, rfl, hs77, hs78, h82, h87, hs89, h93, h98⟩ := kChange.op hR74
      refine Q_pu (P_ia Try.underlying43 se43 A6 ad71 n7 c8 h31.len i2 rfl hA73 rfl hb70) ?_
      refine Q_pu (P_lda ag103 sz103 cQ (ad71.add (i2.toNat * 11)) [vs ((nth b i2).Id), vb ((nth b i2).Had), vs ((nth b i2).Was.Id), vi ((nth b i2).Was.Shape.Kind), .slice A79 n80 c81, .slice A84 n85 c86, vb ((nth b i2).Has), vs ((nth b i2).Now.Id), vi ((nth b i2).Now.Shape.Kind), .slice A90 n91 c92, .slice A95 n96 c97] rfl rfl hcl75) ?_
      refine Q_call go66 [.agg #[vs ((nth a i2).Id), vb ((nth a i2).Had), vs ((nth a i2).Was.Id), vi ((nth a i2).Was.Shape.Kind), .slice A49 n50 c51, .slice A54 n55 c56, vb ((nth a i2).Has), vs ((nth a i2).Now.Id), vi ((nth a i2).Now.Shape.Kind), .slice A60 n61 c62, .slice A65 n66 c67], .agg #[vs ((nth b i2).Id), vb ((nth b i2).Had), vs ((nth b i2).Was.Id), vi ((nth b i2).Was.Shape.Kind), .slice A79 n80 c81, .slice A84 n85 c86, vb ((nth b i2).Has), vs ((nth b i2).Now.Id), vi ((nth b i2).Now.Shape.Kind), .slice A90 n91 c92, .slice A95 n96 c97]] rfl (vb (decide ((nth a i2) = (nth b i2)))) (fun w g => (laws_eqChange.calls w (hc29.k0 g).ok (nth a i2) A49 n50 c51 A54 n55 c56 A60 n61 c62 A65 n66 c67 hs47 hs48 (h52.st (.new _ g)) (h57.st (.new _ g)) hs59 (h63.st (.new _ g)) (h68.st (.new _ g)) (nth b i2) A79 n80 c81 A84 n85 c86 A90 n91 c92 A95 n96 c97 hs77 hs78 (h82.st (.new _ g)) (h87.st (.new _ g)) hs89 (h93.st (.new _ g)) (h98.st (.new _ g)) _ (laws_eqChange.is (nth a i2) (nth b i2))).mono ?_) ?_
      · rintro _ w ⟨r, rfl, rfl, g2⟩
        exact ⟨rfl, Gr.t0 g g2⟩
      refine Q_pu (P_not (decide ((nth a i2) = (nth b i2))) rfl) ?_
      refine Q_nil fun w105 g106 => ?_
      have hc108 := hc29.k0 g106
      refine W_cond (!(decide ((nth a i2) = (nth b i2)))) rfl (fun hq109 => ?_) (fun hq109 => ?_)
      · have H := ite_t H hq109
        refine W_seq ?_
        refine W_reg ?_
        refine L_pu (P_assign (vb false) rfl) ?_
        refine L_nil ?_
        refine W_ret ?_
        exact ⟨[vb false], ⟨_, rfl, rfl⟩, false, rfl, H, hc108.gr.g0⟩
      · have H := ite_f H hq109
        refine W_skip ?_
        refine W_reg ?_
        refine L_pu (P_move (vi i2) rfl) ?_
        obtain ⟨hb111, H⟩ := H
        have hi110 : I64 (i2 + 1) := i64_succ (of_decide_eq_true hq39) hl38 hb111
        refine L_pu (P_add i2 1 rfl rfl hi110) ?_
        refine L_pu (P_assign (vi (i2 + 1)) rfl) ?_
        refine L_nil ?_
        obtain ⟨hI112, hm113⟩ := H
        exact ⟨i2 + 1, hm113, hI112, ⟨rfl, rfl, rfl, trivial⟩, hc108, (h30.st (.new _ g106)), (h31.st (.new _ g106))⟩
    · have H := ite_f H hq39
      refine W_exit (xin_hit ?_)
      refine W_seq ?_
      refine W_reg ?_
      refine L_pu (P_assign (vb true) rfl) ?_
      refine L_nil ?_
      refine W_ret ?_
      exact ⟨[vb true], ⟨_, rfl, rfl⟩, true, rfl, H, hc29.gr.g0⟩
end Go.Proofs.Ytndjggncgpjolaa

namespace Go.Proofs.Ytndjggncgpjolaa
set_option linter.unusedVariables false
set_option linter.unusedSimpArgs false
set_option linter.unusedSectionVars false
theorem laws_eqChangeS.law (a b : List Change) (Q : Bool → Prop) (hq : Q (decide (a = b))) : laws_eqChangeS.E a b Q := by
  unfold laws_eqChangeS.E
  exact eqS_shape (fun x y => decide (x = y)) (fun _ _ => rfl) a b Q hq
theorem laws_eqChangeS.is (a b : List Change) : laws_eqChangeS.E a b (fun r => r = decide (a = b)) := laws_eqChangeS.law a b _ rfl
end Go.Proofs.Ytndjggncgpjolaa

namespace Go.Proofs.Ytndjggncgpjolaa
open Go.RowKit
set_option linter.unusedVariables false
def laws_markText.E (k : Int) (Q : Str → Prop) : Prop :=
  (if decide (k ≤ 0) then Q ([109, 48] : Str) else (∃ (I10 : Int → Str → Prop) (mu11 : Int → Str → Nat), I10 k ([] : Str) ∧ ∀ (k3 : Int) (out2 : Str), I10 k3 out2 → (if decide (k3 > 0) then ((0 : Int) ≤ k3 ∧ (0 : Int) < 10) ∧ (I64 (48 + (k3 % 10))) ∧ ((0 : Int) ≤ 48 + (k3 % 10) ∧ 48 + (k3 % 10) ≤ (255 : Int)) ∧ (([(UInt8.ofNat (48 + (k3 % 10)).toNat)] : List UInt8).length + out2.length ≤ 9223372036854775807) ∧ (((0 : Int) ≤ k3 ∧ k3 ≤ (9223372036854775807 : Int)) ∧ (0 : Int) < 10) ∧ I10 (k3 / 10) (([(UInt8.ofNat (48 + (k3 % 10)).toNat)] : List UInt8) ++ out2) ∧ mu11 (k3 / 10) (([(UInt8.ofNat (48 + (k3 % 10)).toNat)] : List UInt8) ++ out2) < mu11 k3 out2 else (([109] : Str).length + out2.length ≤ 9223372036854775807) ∧ Q (([109] : Str) ++ out2))))
set_option maxHeartbeats 8000000 in
set_option maxRecDepth 100000 in
theorem laws_markText.calls {O : Ob} (w0 : World) (hO : Ok w0 O) (k : Int) (Q : Str → Prop) (h : laws_markText.E k Q) :
    Ret Try.prog 67 [vi k] w0 (fun v w' => ∃ (r0 : Str), v = vs r0 ∧ Q r0 ∧ Gr w0 w' none ∧ Lim r0) := by
  have H : (if decide (k ≤ 0) then Q ([109, 48] : Str) else (∃ (I10 : Int → Str → Prop) (mu11 : Int → Str → Nat), I10 k ([] : Str) ∧ ∀ (k3 : Int) (out2 : Str), I10 k3 out2 → (if decide (k3 > 0) then ((0 : Int) ≤ k3 ∧ (0 : Int) < 10) ∧ (I64 (48 + (k3 % 10))) ∧ ((0 : Int) ≤ 48 + (k3 % 10) ∧ 48 + (k3 % 10) ≤ (255 : Int)) ∧ (([(UInt8.ofNat (48 + (k3 % 10)).toNat)] : List UInt8).length + out2.length ≤ 9223372036854775807) ∧ (((0 : Int) ≤ k3 ∧ k3 ≤ (9223372036854775807 : Int)) ∧ (0 : Int) < 10) ∧ I10 (k3 / 10) (([(UInt8.ofNat (48 + (k3 % 10)).toNat)] : List UInt8) ++ out2) ∧ mu11 (k3 / 10) (([(UInt8.ofNat (48 + (k3 % 10)).toNat)] : List UInt8) ++ out2) < mu11 k3 out2 else (([109] : Str).length + out2.length ≤ 9223372036854775807) ∧ Q (([109] : Str) ++ out2)))) := h
  clear h
  have hc0 := Ct.init hO
  refine Ret_enter Try.func67 rfl 20 rfl [.tmp 2] rfl rfl ?_
  refine W_seq ?_
  refine W_reg ?_
  refine L_pu (P_assign (vs ([] : Str)) rfl) ?_
  refine L_nil ?_
  refine W_seq ?_
  refine W_seq ?_
  refine W_reg ?_
  refine L_pu (P_move (vi k) rfl) ?_
  refine L_pu (P_cmp k 0 (decide (k ≤ 0)) rfl rfl rfl) ?_
  refine L_nil ?_
  refine W_cond (decide (k ≤ 0)) rfl (fun hq1 => ?_) (fun hq1 => ?_)
  · have H := ite_t H hq1
    refine W_seq ?_
    refine W_reg ?_
    refine L_pu (P_assign (vs ([109, 48] : Str)) rfl) ?_
    refine L_nil ?_
    refine W_ret ?_
    exact ⟨[vs ([109, 48] : Str)], ⟨_, rfl, rfl⟩, ([109, 48] : Str), rfl, H, hc0.gr.g0, (by decide)⟩
  · have H := ite_f H hq1
    refine W_skip ?_
    refine W_seq ?_
    refine W_reg ?_
    refine L_pu (P_assign (vs ([] : Str)) rfl) ?_
    refine L_nil ?_
    refine W_seq ?_
    refine W_block ?_
    obtain ⟨I10, mu11, hI12, H⟩ := H
    refine W_loop (α := Int × Str) (fun (sv__ : Int × Str) t w7 => match sv__ with | (k3, out2) => I10 k3 out2 ∧ Has t [(0, vi k3), (3, vs out2)] ∧ Ct [] w0 w7 [] O ∧ Lim out2) (fun (sv__ : Int × Str) => match sv__ with | (k3, out2) => mu11 k3 out2) (k, ([] : Str)) ⟨hI12, ⟨rfl, rfl, trivial⟩, hc0, (by decide)⟩ ?_
    rintro ⟨k3, out2⟩ _ w7 ⟨hI12, hh14, hc9, hs8⟩
    obtain ⟨u15, rfl⟩ := Has.ins hh14
    have H := H k3 out2 hI12
    refine W_seq ?_
    refine W_seq ?_
    refine W_reg ?_
    refine L_pu (P_move (vi k3) rfl) ?_
    refine L_pu (P_cmp k3 0 (decide (k3 > 0)) rfl rfl rfl) ?_
    refine L_nil ?_
    refine W_cond (decide (k3 > 0)) rfl (fun hq16 => ?_) (fun hq16 => ?_)
    · have H := ite_t H hq16
      refine W_skip ?_
      refine W_block ?_
      refine W_seq ?_
      refine W_reg ?_
      refine L_pu (P_move (vi k3) rfl) ?_
      obtain ⟨hb17, H⟩ := H
      refine L_pu (P_rem k3 10 rfl rfl hb17) ?_
      obtain ⟨hb18, H⟩ := H
      refine L_pu (P_add 48 (k3 % 10) rfl rfl hb18) ?_
      obtain ⟨hb19, H⟩ := H
      refine L_pu (P_convb Try.underlying3 Try.underlying5 (48 + (k3 % 10)) rfl hb19) ?_
      refine L_lit (kd := Kd.byte) ei22 hc9 ([(UInt8.ofNat (48 + (k3 % 10)).toNat)] : List UInt8) (cells := [v8 (UInt8.ofNat (48 + (k3 % 10)).toNat)]) ⟨[v8 (UInt8.ofNat (48 + (k3 % 10)).toNat)], _, rfl, rfl, rfl⟩ (fun _ => by kernel_rfl) fun w20 A21 n22 c23 g24 hr25 hc26 h27 => ?_
      refine L_pu (P_b2s Try.underlying22 Try.underlying5 Try.underlying9 A21 n22 c23 ([(UInt8.ofNat (48 + (k3 % 10)).toNat)] : List UInt8) rfl (fun _ e => e ▸ ⟨_, h27.sx⟩)) ?_
      have hs29 : Lim ([(UInt8.ofNat (48 + (k3 % 10)).toNat)] : List UInt8) := h27.le
      refine L_pu (P_move (vs out2) rfl) ?_
      obtain ⟨hb30, H⟩ := H
      refine L_pu (P_cat ([(UInt8.ofNat (48 + (k3 % 10)).toNat)] : List UInt8) out2 rfl rfl hb30) ?_
      refine L_pu (P_assign (vs (([(UInt8.ofNat (48 + (k3 % 10)).toNat)] : List UInt8) ++ out2)) rfl) ?_
      refine L_nil ?_
      refine W_reg ?_
      refine L_pu (P_move (vi k3) rfl) ?_
      obtain ⟨hb31, H⟩ := H
      refine L_pu (P_quo k3 10 rfl rfl hb31) ?_
      refine L_pu (P_assign (vi (k3 / 10)) rfl) ?_
      refine L_nil ?_
      have hc32 := hc26.drop 0 rfl
      obtain ⟨hI33, hm34⟩ := H
      exact ⟨(k3 / 10, (([(UInt8.ofNat (48 + (k3 % 10)).toNat)] : List UInt8) ++ out2)), hm34, hI33, ⟨rfl, rfl, trivial⟩, hc32, (lim_cat hb30)⟩
    · have H := ite_f H hq16
      refine W_exit (xin_hit ?_)
      refine W_seq ?_
      refine W_reg ?_
      refine L_pu (P_move (vs out2) rfl) ?_
      obtain ⟨hb35, H⟩ := H
      refine L_pu (P_cat ([109] : Str) out2 rfl rfl hb35) ?_
      refine L_pu (P_assign (vs (([109] : Str) ++ out2)) rfl) ?_
      refine L_nil ?_
      refine W_ret ?_
      exact ⟨[vs (([109] : Str) ++ out2)], ⟨_, rfl, rfl⟩, (([109] : Str) ++ out2), rfl, H, hc9.gr.g0, (lim_cat hb35)⟩
end Go.Proofs.Ytndjggncgpjolaa

namespace Go.Proofs.Ytndjggncgpjolaa
set_option linter.unusedVariables false
set_option linter.unusedSimpArgs false
set_option linter.unusedSectionVars false
/-! what marks are put, and where -/
def decA : Nat → Int → Str → Str
  | 0, _, out => out
  | f + 1, k, out => if 0 < k then decA f (k / 10) (UInt8.ofNat (48 + k % 10).toNat :: out) else out
theorem decA_stop (f : Nat) {k : Int} (h : ¬ 0 < k) (out : Str) : decA f k out = out := by
  cases f with
  | zero => rfl
  | succ f => unfold decA; rw [if_neg h]
/-- the text of a mark -/
def tx (k : Int) : Str := if k ≤ 0 then [109, 48] else [109] ++ decA k.toNat k []
def mkL {α : Type} (g : α → Int → α × Int) : List α → Int → List α × Int
  | [], k => ([], k)
  | x :: l, k => ((g x k).1 :: (mkL g l (g x k).2).1, (mkL g l (g x k).2).2)
section
variable {α : Type} {g : α → Int → α × Int}
theorem mkL_snoc (x : α) : ∀ (l : List α) (k : Int), mkL g (l ++ [x]) k = ((mkL g l k).1 ++ [(g x (mkL g l k).2).1], (g x (mkL g l k).2).2)
  | [], k => rfl
  | y :: l, k => by
    rw [List.cons_append, mkL, mkL_snoc x l]; rfl
theorem mkL_len : ∀ (l : List α) (k : Int), (mkL g l k).1.length = l.length
  | [], k => rfl
  | y :: l, k => by rw [mkL, List.length_cons, List.length_cons, mkL_len l]
theorem mkL_bd [Bulk α] (hb : ∀ x k, k ≤ (g x k).2 ∧ (g x k).2 ≤ k + 8 * (1 + (bulk x : Nat))) : ∀ (l : List α) (k : Int), k ≤ (mkL g l k).2 ∧ (mkL g l k).2 ≤ k + 8 * (bulk l : Nat)
  | [], k => ⟨Int.le_refl _, by simp [mkL, bulk_nil]⟩
  | y :: l, k => by
    have h1 := hb y k
    have h2 := mkL_bd hb l (g y k).2
    rw [bulk_cons, mkL]
    exact ⟨by dsimp only; omega, by dsimp only; omega⟩
theorem mkL_app : ∀ (l m : List α) (k : Int), mkL g (l ++ m) k = ((mkL g l k).1 ++ (mkL g m (mkL g l k).2).1, (mkL g m (mkL g l k).2).2)
  | [], m, k => rfl
  | y :: l, m, k => by rw [List.cons_append, mkL, mkL_app l]; rfl
variable [Inhabited α]
def Mk (g : α → Int → α × Int) (a : List α) (k : Int) (u : Nat) (xs : List α) (k' : Int) : Prop := u ≤ a.length ∧ xs = (mkL g (a.take u) k).1 ++ a.drop u ∧ k' = (mkL g (a.take u) k).2
variable {a xs : List α} {k k' : Int} {u : Nat}
theorem Mk.zero (a : List α) (k : Int) : Mk g a k 0 a k := ⟨Nat.zero_le _, by simp [mkL], by simp [mkL]⟩
theorem Mk.len (h : Mk g a k u xs k') : xs.length = a.length := by
  rw [h.2.1, List.length_append, mkL_len, List.length_take, List.length_drop]; have := h.1; omega
theorem Mk.nth (h : Mk g a k u xs k') (hu : u < a.length) : nth xs (u : Int) = Go.Proofs.Ytndjggncgpjolaa.nth a (u : Int) := by
  rw [nth_nat xs (by rw [h.len]; exact hu), nth_nat a hu]
  have hl : (mkL g (a.take u) k).1.length = u := by rw [mkL_len, List.length_take]; omega
  have := h.2.1
  subst this
  rw [List.getElem_append_right (by omega)]
  simp [hl]
theorem Mk.next (h : Mk g a k u xs k') (hu : u < a.length) {y : α} {k'' : Int} (e : g (Go.Proofs.Ytndjggncgpjolaa.nth a (u : Int)) k' = (y, k'')) : Mk g a k (u + 1) (xs.set u y) k'' := by
  have hl : (mkL g (a.take u) k).1.length = u := by rw [mkL_len, List.length_take]; omega
  have h1 : mkL g (a.take (u + 1)) k = ((mkL g (a.take u) k).1 ++ [y], k'') := by
    rw [take_nth a hu, mkL_snoc, ← h.2.2, e]
  refine ⟨hu, ?_, by rw [h1]⟩
  rw [h1, h.2.1, List.set_append_right _ _ (by omega), hl, Nat.sub_self, List.drop_eq_getElem_cons hu, List.set_cons_zero]
  dsimp only
  rw [List.append_assoc]; rfl
theorem Mk.bd [Bulk α] (h : Mk g a k u xs k') (hb : ∀ x k, k ≤ (g x k).2 ∧ (g x k).2 ≤ k + 8 * (1 + (bulk x : Nat))) : k ≤ k' ∧ k' ≤ k + 8 * (bulk a : Nat) := by
  have h1 := mkL_bd hb (a.take u) k
  have h2 := bulk_take a u
  rw [h.2.2]
  exact ⟨h1.1, by omega⟩
theorem Mk.full (h : Mk g a k u xs k') (hu : ¬ u < a.length) : xs = (mkL g a k).1 ∧ k' = (mkL g a k).2 := by
  have : u = a.length := by have := h.1; omega
  subst this
  obtain ⟨_, h1, h2⟩ := h
  simpa using And.intro h1 h2
/-- the marks found again -/
def Hd (g : α → Int → α × Int) (a : List α) (k : Int) (u : Nat) (k' : Int) : Prop := u ≤ a.length ∧ k' = (mkL g (a.take u) k).2
theorem Hd.zero (a : List α) (k : Int) : Hd g a k 0 k := ⟨Nat.zero_le _, by simp [mkL]⟩
theorem Hd.nth (h : Hd g a k u k') (hu : u < a.length) : nth (mkL g a k).1 (u : Int) = (g (Go.Proofs.Ytndjggncgpjolaa.nth a (u : Int)) k').1 := by
  have e : a = (a.take u ++ [Go.Proofs.Ytndjggncgpjolaa.nth a (u : Int)]) ++ a.drop (u + 1) := by rw [← take_nth a hu, List.take_append_drop]
  have hl : (mkL g (a.take u) k).1.length = u := by rw [mkL_len, List.length_take]; omega
  rw [nth_nat _ (by rw [mkL_len]; exact hu)]
  have h1 : (mkL g a k).1[u]? = some (g (Go.Proofs.Ytndjggncgpjolaa.nth a (u : Int)) k').1 := by
    conv => lhs; rw [e]
    rw [mkL_app, mkL_snoc]
    dsimp only
    rw [List.append_assoc, List.getElem?_append_right (by omega), hl, Nat.sub_self, h.2]; rfl
  rw [List.getElem?_eq_getElem (by rw [mkL_len]; exact hu)] at h1
  exact Option.some.inj h1
theorem Hd.next (h : Hd g a k u k') (hu : u < a.length) : Hd g a k (u + 1) (g (Go.Proofs.Ytndjggncgpjolaa.nth a (u : Int)) k').2 := ⟨hu, by rw [take_nth a hu, mkL_snoc, h.2]⟩
theorem Hd.bd [Bulk α] (h : Hd g a k u k') (hb : ∀ x k, k ≤ (g x k).2 ∧ (g x k).2 ≤ k + 8 * (1 + (bulk x : Nat))) : k ≤ k' ∧ k' ≤ k + 8 * (bulk a : Nat) := by
  have h1 := mkL_bd hb (a.take u) k
  have h2 := bulk_take a u
  rw [h.2]
  exact ⟨h1.1, by omega⟩
theorem Hd.full (h : Hd g a k u k') (hu : ¬ u < a.length) : k' = (mkL g a k).2 := by
  have : u = a.length := by have := h.1; omega
  subst this
  simpa using h.2
end
theorem set_facts {α : Type} [Inhabited α] {xs ys : List α} {u : Nat} {y : α} (hu : u < xs.length) (e : ys = xs.set (Int.toNat (u : Int)) y) : nth ys (u : Int) = y ∧ ys.length = xs.length ∧ (∀ z, ys.set (Int.toNat (u : Int)) z = xs.set (Int.toNat (u : Int)) z) := by
  subst e
  rw [Int.toNat_natCast]
  exact ⟨by rw [nth_set _ hu, if_pos rfl], List.length_set, fun z => List.set_set ..⟩
def gInt (_ : Int) (k : Int) : Int × Int := (k, k + 1)
def gPt (_ : Pt) (k : Int) : Pt × Int := (⟨k, k + 1⟩, k + 2)
def gTag (_ : Tag) (k : Int) : Tag × Int := (⟨tx k, tx (k + 1)⟩, k + 2)
theorem gInt_bd (x : Int) (k : Int) : k ≤ (gInt x k).2 ∧ (gInt x k).2 ≤ k + 8 * (1 + (bulk x : Nat)) := by unfold gInt; exact ⟨by dsimp only; omega, by dsimp only; omega⟩
theorem gPt_bd (x : Pt) (k : Int) : k ≤ (gPt x k).2 ∧ (gPt x k).2 ≤ k + 8 * (1 + (bulk x : Nat)) := by unfold gPt; exact ⟨by dsimp only; omega, by dsimp only; omega⟩
theorem gTag_bd (x : Tag) (k : Int) : k ≤ (gTag x k).2 ∧ (gTag x k).2 ≤ k + 8 * (1 + (bulk x : Nat)) := by unfold gTag; exact ⟨by dsimp only; omega, by dsimp only; omega⟩
def gFeat (x : Feat) (k : Int) : Feat × Int :=
  (⟨tx k, ⟨k + 1, (mkL gPt x.Shape.Pts (k + 2)).1⟩, (mkL gTag x.Tags (mkL gPt x.Shape.Pts (k + 2)).2).1⟩, (mkL gTag x.Tags (mkL gPt x.Shape.Pts (k + 2)).2).2)
theorem gFeat_bd (x : Feat) (k : Int) : k ≤ (gFeat x k).2 ∧ (gFeat x k).2 ≤ k + 8 * (1 + (bulk x : Nat)) := by
  have hb : bulk x = bulk x.Id + bulk x.Shape + bulk x.Tags := rfl
  have hs : bulk x.Shape = bulk x.Shape.Kind + bulk x.Shape.Pts := rfl
  have h1 := mkL_bd gPt_bd x.Shape.Pts (k + 2)
  have h2 := mkL_bd gTag_bd x.Tags (mkL gPt x.Shape.Pts (k + 2)).2
  unfold gFeat
  exact ⟨by dsimp only; omega, by dsimp only; omega⟩
def gHead (_ : Head) (k : Int) : Head × Int := (⟨tx k, k + 1⟩, k + 2)
theorem gHead_bd (x : Head) (k : Int) : k ≤ (gHead x k).2 ∧ (gHead x k).2 ≤ k + 8 * (1 + (bulk x : Nat)) := by unfold gHead; exact ⟨by dsimp only; omega, by dsimp only; omega⟩
def gCommit (x : Commit) (k : Int) : Commit × Int :=
  (⟨(mkL gInt x.Up k).1, (mkL gFeat x.Sheet (mkL gInt x.Up k).2).1, tx (mkL gFeat x.Sheet (mkL gInt x.Up k).2).2⟩, (mkL gFeat x.Sheet (mkL gInt x.Up k).2).2 + 1)
theorem gCommit_bd (x : Commit) (k : Int) : k ≤ (gCommit x k).2 ∧ (gCommit x k).2 ≤ k + 8 * (1 + (bulk x : Nat)) := by
  have hb : bulk x = bulk x.Up + bulk x.Sheet + bulk x.Note := rfl
  have h1 := mkL_bd gInt_bd x.Up k
  have h2 := mkL_bd gFeat_bd x.Sheet (mkL gInt x.Up k).2
  unfold gCommit
  exact ⟨by dsimp only; omega, by dsimp only; omega⟩
def gChange (x : Change) (k : Int) : Change × Int :=
  (⟨tx k, (k + 1) % 3 == 0, ⟨tx (k + 2), ⟨k + 3, (mkL gPt x.Was.Shape.Pts (k + 4)).1⟩, (mkL gTag x.Was.Tags (mkL gPt x.Was.Shape.Pts (k + 4)).2).1⟩,
    (mkL gTag x.Was.Tags (mkL gPt x.Was.Shape.Pts (k + 4)).2).2 % 3 == 0,
    ⟨tx ((mkL gTag x.Was.Tags (mkL gPt x.Was.Shape.Pts (k + 4)).2).2 + 1), ⟨(mkL gTag x.Was.Tags (mkL gPt x.Was.Shape.Pts (k + 4)).2).2 + 2, (mkL gPt x.Now.Shape.Pts ((mkL gTag x.Was.Tags (mkL gPt x.Was.Shape.Pts (k + 4)).2).2 + 3)).1⟩,
      (mkL gTag x.Now.Tags (mkL gPt x.Now.Shape.Pts ((mkL gTag x.Was.Tags (mkL gPt x.Was.Shape.Pts (k + 4)).2).2 + 3)).2).1⟩⟩,
    (mkL gTag x.Now.Tags (mkL gPt x.Now.Shape.Pts ((mkL gTag x.Was.Tags (mkL gPt x.Was.Shape.Pts (k + 4)).2).2 + 3)).2).2)
theorem bulk_feat (x : Feat) : bulk x = bulk x.Id + (bulk x.Shape.Kind + bulk x.Shape.Pts) + bulk x.Tags := rfl
theorem bulk_change (x : Change) : bulk x = bulk x.Id + bulk x.Had + bulk x.Was + bulk x.Has + bulk x.Now := rfl
theorem gChange_bd (x : Change) (k : Int) : k ≤ (gChange x k).2 ∧ (gChange x k).2 ≤ k + 8 * (1 + (bulk x : Nat)) := by
  have hb := bulk_change x
  have hb1 := bulk_feat x.Was
  have hb2 := bulk_feat x.Now
  have h1 := mkL_bd gPt_bd x.Was.Shape.Pts (k + 4)
  have h2 := mkL_bd gTag_bd x.Was.Tags (mkL gPt x.Was.Shape.Pts (k + 4)).2
  have h3 := mkL_bd gPt_bd x.Now.Shape.Pts ((mkL gTag x.Was.Tags (mkL gPt x.Was.Shape.Pts (k + 4)).2).2 + 3)
  have h4 := mkL_bd gTag_bd x.Now.Tags (mkL gPt x.Now.Shape.Pts ((mkL gTag x.Was.Tags (mkL gPt x.Was.Shape.Pts (k + 4)).2).2 + 3)).2
  unfold gChange
  exact ⟨by dsimp only; omega, by dsimp only; omega⟩
end Go.Proofs.Ytndjggncgpjolaa

namespace Go.Proofs.Ytndjggncgpjolaa
set_option linter.unusedVariables false
set_option linter.unusedSimpArgs false
set_option linter.unusedSectionVars false
theorem laws_markText.law' (k : Int) (Q : Str → Prop) (h0 : 0 ≤ k) (h1 : k ≤ 1000000000000) (hq : Lim (tx k) → Q (tx k)) : laws_markText.E k Q := by
  unfold laws_markText.E
  by_cases hk : k ≤ 0
  · rw [if_pos (by simpa using hk)]
    have e : tx k = [109, 48] := by unfold tx; rw [if_pos hk]
    rw [e] at hq; exact hq (by decide)
  · rw [if_neg (by simpa using hk)]
    refine ⟨fun k' out => 0 ≤ k' ∧ (out.length : Int) + k' ≤ k ∧ ∃ f : Nat, k' ≤ f ∧ decA f k' out = decA k.toNat k [], fun k' _ => k'.toNat, ⟨h0, by simp, k.toNat, by omega, rfl⟩, ?_⟩
    rintro k' out ⟨h2, h3, f, h4, h5⟩
    by_cases hp : 0 < k'
    · rw [if_pos (by simpa using hp)]
      obtain ⟨f, rfl⟩ : ∃ f', f = f' + 1 := ⟨f - 1, by omega⟩
      refine ⟨⟨h2, by omega⟩, by unfold I64; omega, ⟨by omega, by omega⟩, by simp only [List.length_cons, List.length_nil]; omega, ⟨⟨h2, by omega⟩, by omega⟩, ⟨by omega, by simp only [List.length_append, List.length_cons, List.length_nil]; omega, f, by omega, ?_⟩, by dsimp only; omega⟩
      rw [← h5]
      conv => rhs; unfold decA
      rw [if_pos hp]; rfl
    · rw [if_neg (by simpa using hp)]
      rw [decA_stop f hp] at h5
      have e : tx k = [109] ++ out := by unfold tx; rw [if_neg hk, h5]
      have hl : ([109] : Str).length + out.length ≤ 9223372036854775807 := by simp only [List.length_cons, List.length_nil]; omega
      refine ⟨hl, ?_⟩
      rw [e] at hq
      exact hq (by unfold Lim; rw [List.length_append]; exact hl)
theorem laws_markText.law (k : Int) (Q : Str → Prop) (h0 : 0 ≤ k) (h1 : k ≤ 1000000000000) (hq : Q (tx k)) : laws_markText.E k Q := laws_markText.law' k Q h0 h1 fun _ => hq
theorem tx_lim (k : Int) (h0 : 0 ≤ k) (h1 : k ≤ 1000000000000) : Lim (tx k) := by
  obtain ⟨h, e⟩ : ∃ q, q = Lim (tx k) := ⟨_, rfl⟩
  by_cases hk : k ≤ 0
  · unfold tx; rw [if_pos hk]; decide
  · have key : ∀ (f : Nat) (k' : Int) (out : Str), 0 ≤ k' → (out.length : Int) + k' ≤ k → ((decA f k' out).length : Int) ≤ k := by
      intro f
      induction f with
      | zero => intro k' out h2 h3; unfold decA; omega
      | succ f ih =>
        intro k' out h2 h3
        unfold decA
        by_cases hp : 0 < k'
        · rw [if_pos hp]; exact ih _ _ (by omega) (by simp only [List.length_cons]; omega)
        · rw [if_neg hp]; omega
    have := key k.toNat k [] h0 (by simp)
    unfold tx Lim; rw [if_neg hk, List.length_append]
    simp only [List.length_cons, List.length_nil]; omega
theorem laws_markText.q (k : Int) (h0 : 0 ≤ k) (h1 : k ≤ 1000000000000) : laws_markText.E k (fun x => x = tx k) := laws_markText.law k _ h0 h1 rfl
end Go.Proofs.Ytndjggncgpjolaa

namespace Go.Proofs.Ytndjggncgpjolaa
open Go.RowKit
set_option linter.unusedVariables false
def laws_markPtS.E (a : List Pt) (k : Int) (Q : Int → List Pt → Prop) : Prop :=
  (∃ (I23 : (List Pt) → Int → Int → Prop) (mu24 : (List Pt) → Int → Int → Nat), I23 a k 0 ∧ ∀ (xs2 : List Pt) (k3 : Int) (i2 : Int), I23 xs2 k3 i2 → (if decide (i2 < (xs2.length : Int)) then ((0 : Int) ≤ i2 ∧ i2 < (xs2.length : Int)) ∧ ((xs2.length : Int) ≤ 9223372036854775807 → I64 (k3 + 1)) ∧ ((0 : Int) ≤ i2 ∧ i2 < ((xs2.set i2.toNat (⟨k3, (nth xs2 i2).Y⟩ : Pt)).length : Int)) ∧ ((xs2.length : Int) ≤ 9223372036854775807 → I64 (k3 + 1 + 1)) ∧ (-9223372036854775808 ≤ i2) ∧ I23 ((xs2.set i2.toNat (⟨k3, (nth xs2 i2).Y⟩ : Pt)).set i2.toNat (⟨(nth (xs2.set i2.toNat (⟨k3, (nth xs2 i2).Y⟩ : Pt)) i2).X, k3 + 1⟩ : Pt)) (k3 + 1 + 1) (i2 + 1) ∧ mu24 ((xs2.set i2.toNat (⟨k3, (nth xs2 i2).Y⟩ : Pt)).set i2.toNat (⟨(nth (xs2.set i2.toNat (⟨k3, (nth xs2 i2).Y⟩ : Pt)) i2).X, k3 + 1⟩ : Pt)) (k3 + 1 + 1) (i2 + 1) < mu24 xs2 k3 i2 else Q k3 xs2))
set_option maxHeartbeats 8000000 in
set_option maxRecDepth 100000 in
theorem laws_markPtS.calls {O : Ob} (w0 : World) (hO : Ok w0 O) (A1 : Option Addr) (n2 c3 : Nat) (a : List Pt) (hp0 : Ow kPt 29 w0 O (.slice A1 n2 c3) a) (k : Int) (Q : Int → List Pt → Prop) (h : laws_markPtS.E a k Q) :
    Ret Try.prog 68 [.slice A1 n2 c3, vi k] w0 (fun v w' => ∃ (r0 : Int) (m0 : List Pt), v = vi r0 ∧ Q r0 m0 ∧ Gr w0 w' (blk (.slice A1 n2 c3)) ∧ Ow kPt 29 w' O (.slice A1 n2 c3) m0) := by
  have H : (∃ (I23 : (List Pt) → Int → Int → Prop) (mu24 : (List Pt) → Int → Int → Nat), I23 a k 0 ∧ ∀ (xs2 : List Pt) (k3 : Int) (i2 : Int), I23 xs2 k3 i2 → (if decide (i2 < (xs2.length : Int)) then ((0 : Int) ≤ i2 ∧ i2 < (xs2.length : Int)) ∧ ((xs2.length : Int) ≤ 9223372036854775807 → I64 (k3 + 1)) ∧ ((0 : Int) ≤ i2 ∧ i2 < ((xs2.set i2.toNat (⟨k3, (nth xs2 i2).Y⟩ : Pt)).length : Int)) ∧ ((xs2.length : Int) ≤ 9223372036854775807 → I64 (k3 + 1 + 1)) ∧ (-9223372036854775808 ≤ i2) ∧ I23 ((xs2.set i2.toNat (⟨k3, (nth xs2 i2).Y⟩ : Pt)).set i2.toNat (⟨(nth (xs2.set i2.toNat (⟨k3, (nth xs2 i2).Y⟩ : Pt)) i2).X, k3 + 1⟩ : Pt)) (k3 + 1 + 1) (i2 + 1) ∧ mu24 ((xs2.set i2.toNat (⟨k3, (nth xs2 i2).Y⟩ : Pt)).set i2.toNat (⟨(nth (xs2.set i2.toNat (⟨k3, (nth xs2 i2).Y⟩ : Pt)) i2).X, k3 + 1⟩ : Pt)) (k3 + 1 + 1) (i2 + 1) < mu24 xs2 k3 i2 else Q k3 xs2)) := h
  clear h
  have hc0 := Ct.initm1 (r := blk (.slice A1 n2 c3)) hO (by intro b e; exact hp0.mem b e)
  refine Ret_enter Try.func68 rfl 27 rfl [.tmp 4] rfl rfl ?_
  refine W_seq ?_
  refine W_reg ?_
  refine L_pu (P_assign (vi 0) rfl) ?_
  refine L_nil ?_
  refine W_seq ?_
  refine W_seq ?_
  refine W_reg ?_
  refine L_pu (P_assign (vi 0) rfl) ?_
  refine L_nil ?_
  refine W_block ?_
  obtain ⟨I23, mu24, hI25, H⟩ := H
  refine W_loop (α := (List Pt) × Int × Int) (fun (sv__ : (List Pt) × Int × Int) t w16 => match sv__ with | (xs2, k3, i2) => I23 xs2 k3 i2 ∧ Has t [(0, .slice A1 n2 c3), (1, vi k3), (5, vi i2)] ∧ Ct [blk (.slice A1 n2 c3)] w0 w16 [] O ∧ Ow kPt 29 w16 O (.slice A1 n2 c3) xs2) (fun (sv__ : (List Pt) × Int × Int) => match sv__ with | (xs2, k3, i2) => mu24 xs2 k3 i2) (a, k, 0) ⟨hI25, ⟨rfl, rfl, rfl, trivial⟩, hc0, hp0⟩ ?_
  rintro ⟨xs2, k3, i2⟩ _ w16 ⟨hI25, hh27, hc21, h22⟩
  obtain ⟨u28, rfl⟩ := Has.ins hh27
  have H := H xs2 k3 i2 hI25
  refine W_seq ?_
  refine W_seq ?_
  refine W_reg ?_
  refine L_pu (P_move (vi i2) rfl) ?_
  refine L_pu (P_move (.slice A1 n2 c3) rfl) ?_
  have hl29 := h22.le
  refine L_pu (P_len Try.underlying23 A1 n2 c3 h22.len rfl) ?_
  refine L_pu (P_cmp i2 (xs2.length : Int) (decide (i2 < (xs2.length : Int))) rfl rfl rfl) ?_
  refine L_nil ?_
  refine W_cond (decide (i2 < (xs2.length : Int))) rfl (fun hq30 => ?_) (fun hq30 => ?_)
  · have H := ite_t H hq30
    refine W_skip ?_
    refine W_seq ?_
    refine W_block ?_
    refine W_seq ?_
    refine W_reg ?_
    refine L_pu (P_move (.slice A1 n2 c3) rfl) ?_
    refine L_pu (P_move (vi i2) rfl) ?_
    refine L_pu (P_move (vi k3) rfl) ?_
    obtain ⟨hb31, H⟩ := H
    obtain ⟨ad32, cs33, hA34, hR35, hcl36⟩ := h22.get default (by decide) i2 hb31
    obtain rfl := kPt.op hR35
    refine L_pu (P_ia Try.underlying23 se23 A1 ad32 n2 c3 h22.len i2 rfl hA34 rfl hb31) ?_
    refine L_pu (P_fa fa29_0 (ad32.add (i2.toNat * 2)) ((ad32.add (i2.toNat * 2)).add 0) rfl rfl) ?_
    refine L_ste1 A1 n2 c3 xs2 h22 i2 hb31 ad32 hA34 0 rfl [vi k3] rfl sz3 rfl (⟨k3, (nth xs2 i2).Y⟩ : Pt) [vi ((nth xs2 i2).X), vi ((nth xs2 i2).Y)] [vi k3, vi ((nth xs2 i2).Y)] hcl36 rfl rfl (kPt.mk _ _ (⟨k3, (nth xs2 i2).Y⟩ : Pt)) fun w38 g39 h40 => ?_
    have hc41 := hc21.wm g39
    refine L_nil ?_
    refine W_seq ?_
    refine W_reg ?_
    refine L_pu (P_move (vi k3) rfl) ?_
    obtain ⟨hb42, H⟩ := H
    have hi43 := hb42 (len_le hl29)
    refine L_pu (P_add k3 1 rfl rfl hi43) ?_
    refine L_pu (P_assign (vi (k3 + 1)) rfl) ?_
    refine L_nil ?_
    refine W_seq ?_
    refine W_reg ?_
    refine L_pu (P_move (.slice A1 n2 c3) rfl) ?_
    refine L_pu (P_move (vi i2) rfl) ?_
    refine L_pu (P_move (vi (k3 + 1)) rfl) ?_
    obtain ⟨hb44, H⟩ := H
    obtain ⟨ad45, cs46, hA47, hR48, hcl49⟩ := h40.get default (by decide) i2 hb44
    obtain rfl := kPt.op hR48
    refine L_pu (P_ia Try.underlying23 se23 A1 ad45 n2 c3 h40.len i2 rfl hA47 rfl hb44) ?_
    refine L_pu (P_fa fa29_1 (ad45.add (i2.toNat * 2)) ((ad45.add (i2.toNat * 2)).add 1) rfl rfl) ?_
    refine L_ste1 A1 n2 c3 (xs2.set i2.toNat (⟨k3, (nth xs2 i2).Y⟩ : Pt)) h40 i2 hb44 ad45 hA47 1 rfl [vi (k3 + 1)] rfl sz3 rfl (⟨(nth (xs2.set i2.toNat (⟨k3, (nth xs2 i2).Y⟩ : Pt)) i2).X, k3 + 1⟩ : Pt) [vi ((nth (xs2.set i2.toNat (⟨k3, (nth xs2 i2).Y⟩ : Pt)) i2).X), vi ((nth (xs2.set i2.toNat (⟨k3, (nth xs2 i2).Y⟩ : Pt)) i2).Y)] [vi ((nth (xs2.set i2.toNat (⟨k3, (nth xs2 i2).Y⟩ : Pt)) i2).X), vi (k3 + 1)] hcl49 rfl rfl (kPt.mk _ _ (⟨(nth (xs2.set i2.toNat (⟨k3, (nth xs2 i2).Y⟩ : Pt)) i2).X, k3 + 1⟩ : Pt)) fun w51 g52 h53 => ?_
    have hc54 := hc41.wm g52
    refine L_nil ?_
    refine W_reg ?_
    refine L_pu (P_move (vi (k3 + 1)) rfl) ?_
    obtain ⟨hb55, H⟩ := H
    have hi56 := hb55 (len_le hl29)
    refine L_pu (P_add (k3 + 1) 1 rfl rfl hi56) ?_
    refine L_pu (P_assign (vi (k3 + 1 + 1)) rfl) ?_
    refine L_nil ?_
    refine W_reg ?_
    refine L_pu (P_move (vi i2) rfl) ?_
    obtain ⟨hb58, H⟩ := H
    have hi57 : I64 (i2 + 1) := i64_succ (of_decide_eq_true hq30) hl29 hb58
    refine L_pu (P_add i2 1 rfl rfl hi57) ?_
    refine L_pu (P_assign (vi (i2 + 1)) rfl) ?_
    refine L_nil ?_
    obtain ⟨hI59, hm60⟩ := H
    exact ⟨(((xs2.set i2.toNat (⟨k3, (nth xs2 i2).Y⟩ : Pt)).set i2.toNat (⟨(nth (xs2.set i2.toNat (⟨k3, (nth xs2 i2).Y⟩ : Pt)) i2).X, k3 + 1⟩ : Pt)), k3 + 1 + 1, i2 + 1), hm60, hI59, ⟨rfl, rfl, rfl, trivial⟩, hc54, h53⟩
  · have H := ite_f H hq30
    refine W_exit (xin_hit ?_)
    refine W_seq ?_
    refine W_reg ?_
    refine L_pu (P_move (vi k3) rfl) ?_
    refine L_pu (P_assign (vi k3) rfl) ?_
    refine L_nil ?_
    refine W_ret ?_
    exact ⟨[vi k3], ⟨_, rfl, rfl⟩, k3, xs2, rfl, H, hc21.gr.g1, h22⟩
end Go.Proofs.Ytndjggncgpjolaa

namespace Go.Proofs.Ytndjggncgpjolaa
set_option linter.unusedVariables false
set_option linter.unusedSimpArgs false
set_option linter.unusedSectionVars false
def markedPt (n : Nat) (k : Int) : List Pt := (List.range n).map fun i : Nat => ⟨k + 2 * (i : Int), k + 2 * (i : Int) + 1⟩
theorem markedPt_len (n : Nat) (k : Int) : (markedPt n k).length = n := by simp [markedPt]
theorem markedPt_nth (n : Nat) (k : Int) {i : Nat} (h : i < n) : nth (markedPt n k) (i : Int) = ⟨k + 2 * i, k + 2 * i + 1⟩ := by
  rw [nth_nat _ (by rw [markedPt_len]; exact h)]; simp [markedPt]
theorem laws_markPtS.law (a : List Pt) (k : Int) (Q : Int → List Pt → Prop) (ha : a.length ≤ 1048576) (h0 : 0 ≤ k) (h1 : k ≤ 1000000000) (hq : Q (k + 2 * a.length) (markedPt a.length k)) : laws_markPtS.E a k Q := by
  unfold laws_markPtS.E
  refine ⟨fun xs k' i => ∃ u : Nat, i = u ∧ u ≤ a.length ∧ k' = k + 2 * u ∧ xs.length = a.length ∧ xs.take u = markedPt u k, fun _ _ i => (a.length - i).toNat, ⟨0, rfl, Nat.zero_le _, by omega, rfl, rfl⟩, ?_⟩
  rintro xs _ _ ⟨u, rfl, hu, rfl, hl, ht⟩
  rw [hl]
  by_cases h : (u : Int) < (a.length : Int)
  · rw [if_pos (by simpa using h)]
    have hu' : u < xs.length := by omega
    rw [Int.toNat_natCast, nth_set _ hu', if_pos rfl, List.set_set]
    refine ⟨by omega, fun _ => by unfold I64; omega, by simp only [List.length_set]; omega, fun _ => by unfold I64; omega, by omega, ⟨u + 1, by omega, by omega, by omega, by rw [List.length_set]; exact hl, ?_⟩, by dsimp only; omega⟩
    rw [List.take_succ_eq_append_getElem (by rw [List.length_set]; exact hu'), List.getElem_set_self, List.take_set_of_le (Nat.le_refl _), ht]
    unfold markedPt
    rw [List.range_succ, List.map_append]
    rfl
  · rw [if_neg (by simpa using h)]
    have : u = a.length := by omega
    subst this
    rw [List.take_of_length_le (by omega)] at ht
    rw [ht]; exact hq
theorem laws_markPtS.lawk (a : List Pt) (k : Int) (Q : Int → List Pt → Prop) (ha : bulk a ≤ 1048576) (h0 : 0 ≤ k) (h1 : k ≤ 1000000000) (hq : Q (mkL gPt a k).2 (mkL gPt a k).1) : laws_markPtS.E a k Q := by
  unfold laws_markPtS.E
  have hbl := bulk_len a
  refine ⟨fun xs k' i => ∃ u : Nat, i = u ∧ Mk gPt a k u xs k', fun _ _ i => (a.length - i).toNat, ⟨0, rfl, .zero a k⟩, ?_⟩
  rintro xs k' _ ⟨u, rfl, M⟩
  have hl := M.len
  have hb := M.bd gPt_bd
  rw [hl]
  by_cases h : u < a.length
  · rw [if_pos (by simpa using h)]
    have hu' : u < xs.length := by omega
    rw [Int.toNat_natCast, nth_set _ hu', if_pos rfl, List.set_set]
    exact ⟨by omega, fun _ => by unfold I64; omega, by simp only [List.length_set]; omega, fun _ => by unfold I64; omega, by omega, ⟨u + 1, by omega, M.next h (by show _ = (_, _); unfold gPt; rw [Int.add_assoc]; rfl)⟩, by dsimp only; omega⟩
  · rw [if_neg (by simpa using h)]
    obtain ⟨rfl, rfl⟩ := M.full h
    exact hq
end Go.Proofs.Ytndjggncgpjolaa

namespace Go.Proofs.Ytndjggncgpjolaa
open Go.RowKit
set_option linter.unusedVariables false
def laws_markTagS.E (a : List Tag) (k : Int) (Q : Int → List Tag → Prop) : Prop :=
  (∃ (I23 : (List Tag) → Int → Int → Prop) (mu24 : (List Tag) → Int → Int → Nat), I23 a k 0 ∧ ∀ (xs2 : List Tag) (k3 : Int) (i2 : Int), I23 xs2 k3 i2 → (if decide (i2 < (xs2.length : Int)) then laws_markText.E k3 (fun r => ((0 : Int) ≤ i2 ∧ i2 < (xs2.length : Int)) ∧ ((xs2.length : Int) ≤ 9223372036854775807 → I64 (k3 + 1)) ∧ laws_markText.E (k3 + 1) (fun r2 => ((0 : Int) ≤ i2 ∧ i2 < ((xs2.set i2.toNat (⟨r, (nth xs2 i2).Val⟩ : Tag)).length : Int)) ∧ ((xs2.length : Int) ≤ 9223372036854775807 → I64 (k3 + 1 + 1)) ∧ (-9223372036854775808 ≤ i2) ∧ I23 ((xs2.set i2.toNat (⟨r, (nth xs2 i2).Val⟩ : Tag)).set i2.toNat (⟨(nth (xs2.set i2.toNat (⟨r, (nth xs2 i2).Val⟩ : Tag)) i2).Key, r2⟩ : Tag)) (k3 + 1 + 1) (i2 + 1) ∧ mu24 ((xs2.set i2.toNat (⟨r, (nth xs2 i2).Val⟩ : Tag)).set i2.toNat (⟨(nth (xs2.set i2.toNat (⟨r, (nth xs2 i2).Val⟩ : Tag)) i2).Key, r2⟩ : Tag)) (k3 + 1 + 1) (i2 + 1) < mu24 xs2 k3 i2)) else Q k3 xs2))
set_option maxHeartbeats 8000000 in
set_option maxRecDepth 100000 in
theorem laws_markTagS.calls {O : Ob} (w0 : World) (hO : Ok w0 O) (A1 : Option Addr) (n2 c3 : Nat) (a : List Tag) (hp0 : Ow kTag 133 w0 O (.slice A1 n2 c3) a) (k : Int) (Q : Int → List Tag → Prop) (h : laws_markTagS.E a k Q) :
    Ret Try.prog 69 [.slice A1 n2 c3, vi k] w0 (fun v w' => ∃ (r0 : Int) (m0 : List Tag), v = vi r0 ∧ Q r0 m0 ∧ Gr w0 w' (blk (.slice A1 n2 c3)) ∧ Ow kTag 133 w' O (.slice A1 n2 c3) m0) := by
  have H : (∃ (I23 : (List Tag) → Int → Int → Prop) (mu24 : (List Tag) → Int → Int → Nat), I23 a k 0 ∧ ∀ (xs2 : List Tag) (k3 : Int) (i2 : Int), I23 xs2 k3 i2 → (if decide (i2 < (xs2.length : Int)) then laws_markText.E k3 (fun r => ((0 : Int) ≤ i2 ∧ i2 < (xs2.length : Int)) ∧ ((xs2.length : Int) ≤ 9223372036854775807 → I64 (k3 + 1)) ∧ laws_markText.E (k3 + 1) (fun r2 => ((0 : Int) ≤ i2 ∧ i2 < ((xs2.set i2.toNat (⟨r, (nth xs2 i2).Val⟩ : Tag)).length : Int)) ∧ ((xs2.length : Int) ≤ 9223372036854775807 → I64 (k3 + 1 + 1)) ∧ (-9223372036854775808 ≤ i2) ∧ I23 ((xs2.set i2.toNat (⟨r, (nth xs2 i2).Val⟩ : Tag)).set i2.toNat (⟨(nth (xs2.set i2.toNat (⟨r, (nth xs2 i2).Val⟩ : Tag)) i2).Key, r2⟩ : Tag)) (k3 + 1 + 1) (i2 + 1) ∧ mu24 ((xs2.set i2.toNat (⟨r, (nth xs2 i2).Val⟩ : Tag)).set i2.toNat (⟨(nth (xs2.set i2.toNat (⟨r, (nth xs2 i2).Val⟩ : Tag)) i2).Key, r2⟩ : Tag)) (k3 + 1 + 1) (i2 + 1) < mu24 xs2 k3 i2)) else Q k3 xs2)) := h
  clear h
  have hc0 := Ct.initm1 (r := blk (.slice A1 n2 c3)) hO (by intro b e; exact hp0.mem b e)
  refine Ret_enter Try.func69 rfl 29 rfl [.tmp 4] rfl rfl ?_
  refine W_seq ?_
  refine W_reg ?_
  refine L_pu (P_assign (vi 0) rfl) ?_
  refine L_nil ?_
  refine W_seq ?_
  refine W_seq ?_
  refine W_reg ?_
  refine L_pu (P_assign (vi 0) rfl) ?_
  refine L_nil ?_
  refine W_block ?_
  obtain ⟨I23, mu24, hI25, H⟩ := H
  refine W_loop (α := (List Tag) × Int × Int) (fun (sv__ : (List Tag) × Int × Int) t w16 => match sv__ with | (xs2, k3, i2) => I23 xs2 k3 i2 ∧ Has t [(0, .slice A1 n2 c3), (1, vi k3), (5, vi i2)] ∧ Ct [blk (.slice A1 n2 c3)] w0 w16 [] O ∧ Ow kTag 133 w16 O (.slice A1 n2 c3) xs2) (fun (sv__ : (List Tag) × Int × Int) => match sv__ with | (xs2, k3, i2) => mu24 xs2 k3 i2) (a, k, 0) ⟨hI25, ⟨rfl, rfl, rfl, trivial⟩, hc0, hp0⟩ ?_
  rintro ⟨xs2, k3, i2⟩ _ w16 ⟨hI25, hh27, hc21, h22⟩
  obtain ⟨u28, rfl⟩ := Has.ins hh27
  have H := H xs2 k3 i2 hI25
  refine W_seq ?_
  refine W_seq ?_
  refine W_reg ?_
  refine L_pu (P_move (vi i2) rfl) ?_
  refine L_pu (P_move (.slice A1 n2 c3) rfl) ?_
  have hl29 := h22.le
  refine L_pu (P_len Try.underlying69 A1 n2 c3 h22.len rfl) ?_
  refine L_pu (P_cmp i2 (xs2.length : Int) (decide (i2 < (xs2.length : Int))) rfl rfl rfl) ?_
  refine L_nil ?_
  refine W_cond (decide (i2 < (xs2.length : Int))) rfl (fun hq30 => ?_) (fun hq30 => ?_)
  · have H := ite_t H hq30
    refine W_skip ?_
    refine W_seq ?_
    refine W_block ?_
    refine W_seq ?_
    refine W_reg ?_
    refine L_pu (P_move (.slice A1 n2 c3) rfl) ?_
    refine L_pu (P_move (vi i2) rfl) ?_
    refine L_pu (P_move (vi k3) rfl) ?_
    refine L_call go67 [vi k3] rfl ((laws_markText.calls w16 hc21.ok k3 _ H).mono ?_)
    rintro _ w31 ⟨r, rfl, H, g32, hs33⟩
    have hc37 := hc21.k0 g32
    obtain ⟨hb38, H⟩ := H
    have h45 := (h22.sn g32)
    obtain ⟨ad39, cs40, hA41, hR42, hcl43⟩ := h45.get default (by decide) i2 hb38
    obtain ⟨rfl, hs46, hs47⟩ := kTag.op hR42
    refine L_pu (P_ia Try.underlying69 se69 A1 ad39 n2 c3 h45.len i2 rfl hA41 rfl hb38) ?_
    refine L_pu (P_fa fa133_0 (ad39.add (i2.toNat * 2)) ((ad39.add (i2.toNat * 2)).add 0) rfl rfl) ?_
    refine L_ste1 A1 n2 c3 xs2 h45 i2 hb38 ad39 hA41 0 rfl [vs r] rfl sz9 rfl (⟨r, (nth xs2 i2).Val⟩ : Tag) [vs ((nth xs2 i2).Key), vs ((nth xs2 i2).Val)] [vs r, vs ((nth xs2 i2).Val)] hcl43 rfl rfl (kTag.mk _ _ (⟨r, (nth xs2 i2).Val⟩ : Tag) hs33 hs47) fun w48 g49 h50 => ?_
    have hc51 := hc37.wm g49
    refine L_nil ?_
    refine W_seq ?_
    refine W_reg ?_
    refine L_pu (P_move (vi k3) rfl) ?_
    obtain ⟨hb52, H⟩ := H
    have hi53 := hb52 (len_le hl29)
    refine L_pu (P_add k3 1 rfl rfl hi53) ?_
    refine L_pu (P_assign (vi (k3 + 1)) rfl) ?_
    refine L_nil ?_
    refine W_seq ?_
    refine W_reg ?_
    refine L_pu (P_move (.slice A1 n2 c3) rfl) ?_
    refine L_pu (P_move (vi i2) rfl) ?_
    refine L_pu (P_move (vi (k3 + 1)) rfl) ?_
    refine L_call go67 [vi (k3 + 1)] rfl ((laws_markText.calls w48 hc51.ok (k3 + 1) _ H).mono ?_)
    rintro _ w54 ⟨r2, rfl, H, g55, hs56⟩
    have hc60 := hc51.k0 g55
    obtain ⟨hb61, H⟩ := H
    have h68 := (h50.sn g55)
    obtain ⟨ad62, cs63, hA64, hR65, hcl66⟩ := h68.get default (by decide) i2 hb61
    obtain ⟨rfl, hs69, hs70⟩ := kTag.op hR65
    refine L_pu (P_ia Try.underlying69 se69 A1 ad62 n2 c3 h68.len i2 rfl hA64 rfl hb61) ?_
    refine L_pu (P_fa fa133_1 (ad62.add (i2.toNat * 2)) ((ad62.add (i2.toNat * 2)).add 1) rfl rfl) ?_
    refine L_ste1 A1 n2 c3 (xs2.set i2.toNat (⟨r, (nth xs2 i2).Val⟩ : Tag)) h68 i2 hb61 ad62 hA64 1 rfl [vs r2] rfl sz9 rfl (⟨(nth (xs2.set i2.toNat (⟨r, (nth xs2 i2).Val⟩ : Tag)) i2).Key, r2⟩ : Tag) [vs ((nth (xs2.set i2.toNat (⟨r, (nth xs2 i2).Val⟩ : Tag)) i2).Key), vs ((nth (xs2.set i2.toNat (⟨r, (nth xs2 i2).Val⟩ : Tag)) i2).Val)] [vs ((nth (xs2.set i2.toNat (⟨r, (nth xs2 i2).Val⟩ : Tag)) i2).Key), vs r2] hcl66 rfl rfl (kTag.mk _ _ (⟨(nth (xs2.set i2.toNat (⟨r, (nth xs2 i2).Val⟩ : Tag)) i2).Key, r2⟩ : Tag) hs69 hs56) fun w71 g72 h73 => ?_
    have hc74 := hc60.wm g72
    refine L_nil ?_
    refine W_reg ?_
    refine L_pu (P_move (vi (k3 + 1)) rfl) ?_
    obtain ⟨hb75, H⟩ := H
    have hi76 := hb75 (len_le hl29)
    refine L_pu (P_add (k3 + 1) 1 rfl rfl hi76) ?_
    refine L_pu (P_assign (vi (k3 + 1 + 1)) rfl) ?_
    refine L_nil ?_
    refine W_reg ?_
    refine L_pu (P_move (vi i2) rfl) ?_
    obtain ⟨hb78, H⟩ := H
    have hi77 : I64 (i2 + 1) := i64_succ (of_decide_eq_true hq30) hl29 hb78
    refine L_pu (P_add i2 1 rfl rfl hi77) ?_
    refine L_pu (P_assign (vi (i2 + 1)) rfl) ?_
    refine L_nil ?_
    obtain ⟨hI79, hm80⟩ := H
    exact ⟨(((xs2.set i2.toNat (⟨r, (nth xs2 i2).Val⟩ : Tag)).set i2.toNat (⟨(nth (xs2.set i2.toNat (⟨r, (nth xs2 i2).Val⟩ : Tag)) i2).Key, r2⟩ : Tag)), k3 + 1 + 1, i2 + 1), hm80, hI79, ⟨rfl, rfl, rfl, trivial⟩, hc74, h73⟩
  · have H := ite_f H hq30
    refine W_exit (xin_hit ?_)
    refine W_seq ?_
    refine W_reg ?_
    refine L_pu (P_move (vi k3) rfl) ?_
    refine L_pu (P_assign (vi k3) rfl) ?_
    refine L_nil ?_
    refine W_ret ?_
    exact ⟨[vi k3], ⟨_, rfl, rfl⟩, k3, xs2, rfl, H, hc21.gr.g1, h22⟩
end Go.Proofs.Ytndjggncgpjolaa

namespace Go.Proofs.Ytndjggncgpjolaa
set_option linter.unusedVariables false
set_option linter.unusedSimpArgs false
set_option linter.unusedSectionVars false
theorem laws_markTagS.lawk (a : List Tag) (k : Int) (Q : Int → List Tag → Prop) (ha : bulk a ≤ 1048576) (h0 : 0 ≤ k) (h1 : k ≤ 1000000000) (hq : Q (mkL gTag a k).2 (mkL gTag a k).1) : laws_markTagS.E a k Q := by
  unfold laws_markTagS.E
  have hbl := bulk_len a
  refine ⟨fun xs k' i => ∃ u : Nat, i = u ∧ Mk gTag a k u xs k', fun _ _ i => (a.length - i).toNat, ⟨0, rfl, .zero a k⟩, ?_⟩
  rintro xs k' _ ⟨u, rfl, M⟩
  have hl := M.len
  have hb := M.bd gTag_bd
  by_cases h : u < a.length
  · rw [if_pos (by rw [hl]; simpa using h)]
    have hu' : u < xs.length := by omega
    have hx := M.nth h
    have hm := bulk_mem (nth_mem a h)
    refine laws_markText.law _ _ (by omega) (by omega) ⟨by omega, fun _ => by unfold I64; omega, laws_markText.law _ _ (by omega) (by omega) ?_⟩
    rw [Int.toNat_natCast, nth_set _ hu', if_pos rfl, List.set_set]
    exact ⟨by simp only [List.length_set]; omega, fun _ => by unfold I64; omega, by omega, ⟨u + 1, by omega, M.next h (by show _ = (_, _); unfold gTag; rw [Int.add_assoc]; rfl)⟩, by dsimp only; omega⟩
  · rw [if_neg (by rw [hl]; simpa using h)]
    obtain ⟨rfl, rfl⟩ := M.full h
    exact hq
end Go.Proofs.Ytndjggncgpjolaa

namespace Go.Proofs.Ytndjggncgpjolaa
open Go.RowKit
set_option linter.unusedVariables false
def laws_markChangeS.E (a : List Change) (k : Int) (Q : Int → List Change → Prop) : Prop :=
  (∃ (I32 : (List Change) → Int → Int → Prop) (mu33 : (List Change) → Int → Int → Nat), I32 a k 0 ∧ ∀ (xs2 : List Change) (k3 : Int) (i2 : Int), I32 xs2 k3 i2 → (if decide (i2 < (xs2.length : Int)) then laws_markText.E k3 (fun r => ((0 : Int) ≤ i2 ∧ i2 < (xs2.length : Int)) ∧ (∀ xs3 : List Change, xs3 = (xs2.set i2.toNat (⟨r, (nth xs2 i2).Had, (nth xs2 i2).Was, (nth xs2 i2).Has, (nth xs2 i2).Now⟩ : Change)) → ((xs2.length : Int) ≤ 9223372036854775807 → I64 (k3 + 1)) ∧ ((0 : Int) ≤ k3 + 1 ∧ (0 : Int) < 3) ∧ ((0 : Int) ≤ i2 ∧ i2 < (xs3.length : Int)) ∧ (∀ xs4 : List Change, xs4 = (xs3.set i2.toNat (⟨(nth xs3 i2).Id, ((k3 + 1) % 3) == 0, (nth xs3 i2).Was, (nth xs3 i2).Has, (nth xs3 i2).Now⟩ : Change)) → ((xs2.length : Int) ≤ 9223372036854775807 → I64 (k3 + 1 + 1)) ∧ laws_markText.E (k3 + 1 + 1) (fun r2 => ((0 : Int) ≤ i2 ∧ i2 < (xs4.length : Int)) ∧ (∀ xs5 : List Change, xs5 = (xs4.set i2.toNat (⟨(nth xs4 i2).Id, (nth xs4 i2).Had, (⟨r2, (nth xs4 i2).Was.Shape, (nth xs4 i2).Was.Tags⟩ : Feat), (nth xs4 i2).Has, (nth xs4 i2).Now⟩ : Change)) → ((xs2.length : Int) ≤ 9223372036854775807 → I64 (k3 + 1 + 1 + 1)) ∧ ((0 : Int) ≤ i2 ∧ i2 < (xs5.length : Int)) ∧ (∀ xs6 : List Change, xs6 = (xs5.set i2.toNat (⟨(nth xs5 i2).Id, (nth xs5 i2).Had, (⟨(nth xs5 i2).Was.Id, (⟨k3 + 1 + 1 + 1, (nth xs5 i2).Was.Shape.Pts⟩ : Shape), (nth xs5 i2).Was.Tags⟩ : Feat), (nth xs5 i2).Has, (nth xs5 i2).Now⟩ : Change)) → ((xs2.length : Int) ≤ 9223372036854775807 → I64 (k3 + 1 + 1 + 1 + 1)) ∧ ((0 : Int) ≤ i2 ∧ i2 < (xs6.length : Int)) ∧ laws_markPtS.E ((nth xs6 i2).Was.Shape.Pts) (k3 + 1 + 1 + 1 + 1) (fun r3 m => (∀ xs7 : List Change, xs7 = (xs6.set i2.toNat (⟨(nth xs6 i2).Id, (nth xs6 i2).Had, (⟨(nth xs6 i2).Was.Id, (⟨(nth xs6 i2).Was.Shape.Kind, m⟩ : Shape), (nth xs6 i2).Was.Tags⟩ : Feat), (nth xs6 i2).Has, (nth xs6 i2).Now⟩ : Change)) → ((0 : Int) ≤ i2 ∧ i2 < (xs7.length : Int)) ∧ laws_markTagS.E ((nth xs7 i2).Was.Tags) r3 (fun r4 m2 => (∀ xs8 : List Change, xs8 = (xs7.set i2.toNat (⟨(nth xs7 i2).Id, (nth xs7 i2).Had, (⟨(nth xs7 i2).Was.Id, (nth xs7 i2).Was.Shape, m2⟩ : Feat), (nth xs7 i2).Has, (nth xs7 i2).Now⟩ : Change)) → ((0 : Int) ≤ r4 ∧ (0 : Int) < 3) ∧ ((0 : Int) ≤ i2 ∧ i2 < (xs8.length : Int)) ∧ (∀ xs9 : List Change, xs9 = (xs8.set i2.toNat (⟨(nth xs8 i2).Id, (nth xs8 i2).Had, (nth xs8 i2).Was, (r4 % 3) == 0, (nth xs8 i2).Now⟩ : Change)) → ((xs2.length : Int) ≤ 9223372036854775807 → I64 (r4 + 1)) ∧ laws_markText.E (r4 + 1) (fun r5 => ((0 : Int) ≤ i2 ∧ i2 < (xs9.length : Int)) ∧ (∀ xs10 : List Change, xs10 = (xs9.set i2.toNat (⟨(nth xs9 i2).Id, (nth xs9 i2).Had, (nth xs9 i2).Was, (nth xs9 i2).Has, (⟨r5, (nth xs9 i2).Now.Shape, (nth xs9 i2).Now.Tags⟩ : Feat)⟩ : Change)) → ((xs2.length : Int) ≤ 9223372036854775807 → I64 (r4 + 1 + 1)) ∧ ((0 : Int) ≤ i2 ∧ i2 < (xs10.length : Int)) ∧ (∀ xs11 : List Change, xs11 = (xs10.set i2.toNat (⟨(nth xs10 i2).Id, (nth xs10 i2).Had, (nth xs10 i2).Was, (nth xs10 i2).Has, (⟨(nth xs10 i2).Now.Id, (⟨r4 + 1 + 1, (nth xs10 i2).Now.Shape.Pts⟩ : Shape), (nth xs10 i2).Now.Tags⟩ : Feat)⟩ : Change)) → ((xs2.length : Int) ≤ 9223372036854775807 → I64 (r4 + 1 + 1 + 1)) ∧ ((0 : Int) ≤ i2 ∧ i2 < (xs11.length : Int)) ∧ laws_markPtS.E ((nth xs11 i2).Now.Shape.Pts) (r4 + 1 + 1 + 1) (fun r6 m3 => (∀ xs12 : List Change, xs12 = (xs11.set i2.toNat (⟨(nth xs11 i2).Id, (nth xs11 i2).Had, (nth xs11 i2).Was, (nth xs11 i2).Has, (⟨(nth xs11 i2).Now.Id, (⟨(nth xs11 i2).Now.Shape.Kind, m3⟩ : Shape), (nth xs11 i2).Now.Tags⟩ : Feat)⟩ : Change)) → ((0 : Int) ≤ i2 ∧ i2 < (xs12.length : Int)) ∧ laws_markTagS.E ((nth xs12 i2).Now.Tags) r6 (fun r7 m4 => (∀ xs13 : List Change, xs13 = (xs12.set i2.toNat (⟨(nth xs12 i2).Id, (nth xs12 i2).Had, (nth xs12 i2).Was, (nth xs12 i2).Has, (⟨(nth xs12 i2).Now.Id, (nth xs12 i2).Now.Shape, m4⟩ : Feat)⟩ : Change)) → (-9223372036854775808 ≤ i2) ∧ I32 xs13 r7 (i2 + 1) ∧ mu33 xs13 r7 (i2 + 1) < mu33 xs2 k3 i2)))))))))))))))))) else Q k3 xs2))
set_option maxHeartbeats 8000000 in
set_option maxRecDepth 100000 in
theorem laws_markChangeS.calls {O : Ob} (w0 : World) (hO : Ok w0 O) (a : List Change) (A1 : Option Addr) (n2 c3 : Nat) (ra6 : List (List Value)) (q7 : Ob) (hp5 : Ow (Kd.cells 11) 103 w0 O (.slice A1 n2 c3) ra6) (hd8 : DArr dChange_103 w0 q7 a ra6) (hdj : Dj (blk (.slice A1 n2 c3) :: (q7 ++ []))) (hmm : ∀ b, some b ∈ ((blk (.slice A1 n2 c3) :: (q7 ++ [])) : Ob) → some b ∈ O) (k : Int) (Q : Int → List Change → Prop) (h : laws_markChangeS.E a k Q) :
    Ret Try.prog 23 [.slice A1 n2 c3, vi k] w0 (fun v w' => ∃ (r0 : Int) (m0 : List Change) (mra0 : List (List Value)), v = vi r0 ∧ Q r0 m0 ∧ Gm w0 w' (blk (.slice A1 n2 c3) :: (q7 ++ [])) ∧ Ow (Kd.cells 11) 103 w' O (.slice A1 n2 c3) mra0 ∧ DArr dChange_103 w' q7 m0 mra0) := by
  have H : (∃ (I32 : (List Change) → Int → Int → Prop) (mu33 : (List Change) → Int → Int → Nat), I32 a k 0 ∧ ∀ (xs2 : List Change) (k3 : Int) (i2 : Int), I32 xs2 k3 i2 → (if decide (i2 < (xs2.length : Int)) then laws_markText.E k3 (fun r => ((0 : Int) ≤ i2 ∧ i2 < (xs2.length : Int)) ∧ (∀ xs3 : List Change, xs3 = (xs2.set i2.toNat (⟨r, (nth xs2 i2).Had, (nth xs2 i2).Was, (nth xs2 i2).Has, (nth xs2 i2).Now⟩ : Change)) → ((xs2.length : Int) ≤ 9223372036854775807 → I64 (k3 + 1)) ∧ ((0 : Int) ≤ k3 + 1 ∧ (0 : Int) < 3) ∧ ((0 : Int) ≤ i2 ∧ i2 < (xs3.length : Int)) ∧ (∀ xs4 : List Change, xs4 = (xs3.set i2.toNat (⟨(nth xs3 i2).Id, ((k3 + 1) % 3) == 0, (nth xs3 i2).Was, (nth xs3 i2).Has, (nth xs3 i2).Now⟩ : Change)) → ((xs2.length : Int) ≤ 9223372036854775807 → I64 (k3 + 1 + 1)) ∧ laws_markText.E (k3 + 1 + 1) (fun r2 => ((0 : Int) ≤ i2 ∧ i2 < (xs4.length : Int)) ∧ (∀ xs5 : List Change, xs5 = (xs4.set i2.toNat (⟨(nth xs4 i2).Id, (nth xs4 i2).Had, (⟨r2, (nth xs4 i2).Was.Shape, (nth xs4 i2).Was.Tags⟩ : Feat), (nth xs4 i2).Has, (nth xs4 i2).Now⟩ : Change)) → ((xs2.length : Int) ≤ 9223372036854775807 → I64 (k3 + 1 + 1 + 1)) ∧ ((0 : Int) ≤ i2 ∧ i2 < (xs5.length : Int)) ∧ (∀ xs6 : List Change, xs6 = (xs5.set i2.toNat (⟨(nth xs5 i2).Id, (nth xs5 i2).Had, (⟨(nth xs5 i2).Was.Id, (⟨k3 + 1 + 1 + 1, (nth xs5 i2).Was.Shape.Pts⟩ : Shape), (nth xs5 i2).Was.Tags⟩ : Feat), (nth xs5 i2).Has, (nth xs5 i2).Now⟩ : Change)) → ((xs2.length : Int) ≤ 9223372036854775807 → I64 (k3 + 1 + 1 + 1 + 1)) ∧ ((0 : Int) ≤ i2 ∧ i2 < (xs6.length : Int)) ∧ laws_markPtS.E ((nth xs6 i2).Was.Shape.Pts) (k3 + 1 + 1 + 1 + 1) (fun r3 m => (∀ xs7 : List Change, xs7 = (xs6.set i2.toNat (⟨(nth xs6 i2).Id, (nth xs6 i2).Had, (⟨(nth xs6 i2).Was.Id, (⟨(nth xs6 i2).Was.Shape.Kind, m⟩ : Shape), (nth xs6 i2).Was.Tags⟩ : Feat), (nth xs6 i2).Has, (nth xs6 i2).Now⟩ : Change)) → ((0 : Int) ≤ i2 ∧ i2 < (xs7.length : Int)) ∧ laws_markTagS.E ((nth xs7 i2).Was.Tags) r3 (fun r4 m2 => (∀ xs8 : List Change, xs8 = (xs7.set i2.toNat (⟨(nth xs7 i2).Id, (nth xs7 i2).Had, (⟨(nth xs7 i2).Was.Id, (nth xs7 i2).Was.Shape, m2⟩ : Feat), (nth xs7 i2).Has, (nth xs7 i2).Now⟩ : Change)) → ((0 : Int) ≤ r4 ∧ (0 : Int) < 3) ∧ ((0 : Int) ≤ i2 ∧ i2 < (xs8.length : Int)) ∧ (∀ xs9 : List Change, xs9 = (xs8.set i2.toNat (⟨(nth xs8 i2).Id, (nth xs8 i2).Had, (nth xs8 i2).Was, (r4 % 3) == 0, (nth xs8 i2).Now⟩ : Change)) → ((xs2.length : Int) ≤ 9223372036854775807 → I64 (r4 + 1)) ∧ laws_markText.E (r4 + 1) (fun r5 => ((0 : Int) ≤ i2 ∧ i2 < (xs9.length : Int)) ∧ (∀ xs10 : List Change, xs10 = (xs9.set i2.toNat (⟨(nth xs9 i2).Id, (nth xs9 i2).Had, (nth xs9 i2).Was, (nth xs9 i2).Has, (⟨r5, (nth xs9 i2).Now.Shape, (nth xs9 i2).Now.Tags⟩ : Feat)⟩ : Change)) → ((xs2.length : Int) ≤ 9223372036854775807 → I64 (r4 + 1 + 1)) ∧ ((0 : Int) ≤ i2 ∧ i2 < (xs10.length : Int)) ∧ (∀ xs11 : List Change, xs11 = (xs10.set i2.toNat (⟨(nth xs10 i2).Id, (nth xs10 i2).Had, (nth xs10 i2).Was, (nth xs10 i2).Has, (⟨(nth xs10 i2).Now.Id, (⟨r4 + 1 + 1, (nth xs10 i2).Now.Shape.Pts⟩ : Shape), (nth xs10 i2).Now.Tags⟩ : Feat)⟩ : Change)) → ((xs2.length : Int) ≤ 9223372036854775807 → I64 (r4 + 1 + 1 + 1)) ∧ ((0 : Int) ≤ i2 ∧ i2 < (xs11.length : Int)) ∧ laws_markPtS.E ((nth xs11 i2).Now.Shape.Pts) (r4 + 1 + 1 + 1) (fun r6 m3 => (∀ xs12 : List Change, xs12 = (xs11.set i2.toNat (⟨(nth xs11 i2).Id, (nth xs11 i2).Had, (nth xs11 i2).Was, (nth xs11 i2).Has, (⟨(nth xs11 i2).Now.Id, (⟨(nth xs11 i2).Now.Shape.Kind, m3⟩ : Shape), (nth xs11 i2).Now.Tags⟩ : Feat)⟩ : Change)) → ((0 : Int) ≤ i2 ∧ i2 < (xs12.length : Int)) ∧ laws_markTagS.E ((nth xs12 i2).Now.Tags) r6 (fun r7 m4 => (∀ xs13 : List Change, xs13 = (xs12.set i2.toNat (⟨(nth xs12 i2).Id, (nth xs12 i2).Had, (nth xs12 i2).Was, (nth xs12 i2).Has, (⟨(nth xs12 i2).Now.Id, (nth xs12 i2).Now.Shape, m4⟩ : Feat)⟩ : Change)) → (-9223372036854775808 ≤ i2) ∧ I32 xs13 r7 (i2 + 1) ∧ mu33 xs13 r7 (i2 + 1) < mu33 xs2 k3 i2)))))))))))))))))) else Q k3 xs2)) := h
  clear h
  have hc0 := Ct.initm hO hmm
  refine Ret_enter Try.func23 rfl 109 rfl [.tmp 4] rfl rfl ?_
  refine W_seq ?_
  refine W_reg ?_
  refine L_pu (P_assign (vi 0) rfl) ?_
  refine L_nil ?_
  refine W_seq ?_
  refine W_seq ?_
  refine W_reg ?_
  refine L_pu (P_assign (vi 0) rfl) ?_
  refine L_nil ?_
  refine W_block ?_
  obtain ⟨I32, mu33, hI34, H⟩ := H
  refine W_loop (α := (List Change) × (List (List Value)) × Int × Int) (fun (sv__ : (List Change) × (List (List Value)) × Int × Int) t w23 => match sv__ with | (xs2, ra28, k3, i2) => I32 xs2 k3 i2 ∧ Has t [(0, .slice A1 n2 c3), (1, vi k3), (5, vi i2)] ∧ Ct (blk (.slice A1 n2 c3) :: (q7 ++ [])) w0 w23 [] O ∧ Ow (Kd.cells 11) 103 w23 O (.slice A1 n2 c3) ra28 ∧ DArr dChange_103 w23 q7 xs2 ra28) (fun (sv__ : (List Change) × (List (List Value)) × Int × Int) => match sv__ with | (xs2, _, k3, i2) => mu33 xs2 k3 i2) (a, ra6, k, 0) ⟨hI34, ⟨rfl, rfl, rfl, trivial⟩, hc0, hp5, hd8⟩ ?_
  rintro ⟨xs2, ra28, k3, i2⟩ _ w23 ⟨hI34, hh36, hc29, h30, hd31⟩
  obtain ⟨u37, rfl⟩ := Has.ins hh36
  have H := H xs2 k3 i2 hI34
  refine W_seq ?_
  refine W_seq ?_
  refine W_reg ?_
  refine L_pu (P_move (vi i2) rfl) ?_
  refine L_pu (P_move (.slice A1 n2 c3) rfl) ?_
  have hl38 := (Dp.le h30 hd31)
  refine L_pu (P_len Try.underlying43 A1 n2 c3 (Dp.len h30 hd31) rfl) ?_
  refine L_pu (P_cmp i2 (xs2.length : Int) (decide (i2 < (xs2.length : Int))) rfl rfl rfl) ?_
  refine L_nil ?_
  refine W_cond (decide (i2 < (xs2.length : Int))) rfl (fun hq39 => ?_) (fun hq39 => ?_)
  · have H := ite_t H hq39
    refine W_skip ?_
    refine W_seq ?_
    refine W_block ?_
    refine W_seq ?_
    refine W_reg ?_
    refine L_pu (P_move (.slice A1 n2 c3) rfl) ?_
    refine L_pu (P_move (vi i2) rfl) ?_
    refine L_pu (P_move (vi k3) rfl) ?_
    refine L_call go67 [vi k3] rfl ((laws_markText.calls w23 hc29.ok k3 _ H).mono ?_)
    rintro _ w40 ⟨r, rfl, H, g41, hs42⟩
    have hc46 := hc29.k0 g41
    obtain ⟨hb47, H⟩ := H
    have h54 := (h30.sn g41)
    have hd55 := (hd31.k0 g41)
    have hn56 : (0 : Int) ≤ i2 ∧ i2 < (ra28.length : Int) := by rw [hd55.len]; exact hb47
    obtain ⟨ad48, cs49, hA50, hR51, hcl52⟩ := h54.get default (by decide) i2 hn56
    obtain rfl := Kd.cells.op hR51
    refine L_pu (P_ia Try.underlying43 se43 A1 ad48 n2 c3 (Dp.len h54 hd55) i2 rfl hA50 rfl hb47) ?_
    refine L_pu (P_fa fa103_0 (ad48.add (i2.toNat * 11)) ((ad48.add (i2.toNat * 11)).add 0) rfl rfl) ?_
    obtain ⟨q57, hq58, hq59, hD60, hU61⟩ := DArr.at_ (Int.toNat i2) default hd55 (by have := hb47; omega)
    obtain ⟨q62, pr63, cc64, po65, hq66, hq67, hq68, hq69, hF70, hV71⟩ := foc103_0 _ _ _ _ hD60
    have hy72 : ((Dd.flat (k := Kd.str) str_flat)).D w40 q62 r [vs r] := ⟨hF70.1, ⟨rfl, hs42⟩⟩
    have hy73 := hV71 _ _ _ (hq59 (Dj.left hdj.2)) (fun _ _ _ => rfl) hy72
    have hl77 : cc64.length = [vs r].length := (((Dd.flat (k := Kd.str) str_flat)).toR (S := fun _ => True) hF70 fun _ _ => trivial) |> Kd.len _
    refine L_ste1 (kd := Kd.cells 11) A1 n2 c3 ra28 h54 i2 hn56 ad48 hA50 0 rfl [vs r] rfl sz9 rfl (pr63 ++ [vs r] ++ po65) _ (pr63 ++ [vs r] ++ po65) hcl52 (Kd.len _ hR51) (foc_put hq68 hq69 hl77) (Dd.raw _ hy73) fun w74 g75 h76 => ?_
    have hc78 := hc46.wmm (memi (L := (blk (.slice A1 n2 c3) :: (q7 ++ []))) 0 rfl) g75
    have hg80 : ∀ b, some b ∈ (q7 : Ob) → w74.heap[b]? = _ := fun b hb => g75.block b (hd55.lt b hb) (fun e => (hdj).1 b e.symm (List.mem_append_left _ hb))
    have hd79 := hU61 w74 _ _ (Dj.left hdj.2) (fun b hb _ => hg80 b hb) (hV71 _ _ _ (hq59 (Dj.left hdj.2)) (fun b hb _ => hg80 b (hq58 b hb)) hy72)
    obtain ⟨xs3, he81⟩ : ∃ y__ : List Change, y__ = (xs2.set i2.toNat (⟨r, (nth xs2 i2).Had, (nth xs2 i2).Was, (nth xs2 i2).Has, (nth xs2 i2).Now⟩ : Change)) := ⟨_, rfl⟩
    have H := H xs3 he81
    rw [← he81] at hd79
    refine L_nil ?_
    refine W_seq ?_
    refine W_reg ?_
    refine L_pu (P_move (vi k3) rfl) ?_
    obtain ⟨hb82, H⟩ := H
    have hi83 := hb82 (len_le hl38)
    refine L_pu (P_add k3 1 rfl rfl hi83) ?_
    refine L_pu (P_assign (vi (k3 + 1)) rfl) ?_
    refine L_nil ?_
    refine W_seq ?_
    refine W_reg ?_
    refine L_pu (P_move (.slice A1 n2 c3) rfl) ?_
    refine L_pu (P_move (vi i2) rfl) ?_
    refine L_pu (P_move (vi (k3 + 1)) rfl) ?_
    obtain ⟨hb84, H⟩ := H
    refine L_pu (P_rem (k3 + 1) 3 rfl rfl hb84) ?_
    refine L_pu (P_cmp ((k3 + 1) % 3) 0 (((k3 + 1) % 3) == 0) rfl rfl rfl) ?_
    obtain ⟨hb85, H⟩ := H
    have hn92 : (0 : Int) ≤ i2 ∧ i2 < ((ra28.set i2.toNat (pr63 ++ [vs r] ++ po65)).length : Int) := by rw [hd79.len]; exact hb85
    obtain ⟨ad86, cs87, hA88, hR89, hcl90⟩ := h76.get default (by decide) i2 hn92
    obtain rfl := Kd.cells.op hR89
    refine L_pu (P_ia Try.underlying43 se43 A1 ad86 n2 c3 (Dp.len h76 hd79) i2 rfl hA88 rfl hb85) ?_
    refine L_pu (P_fa fa103_1 (ad86.add (i2.toNat * 11)) ((ad86.add (i2.toNat * 11)).add 1) rfl rfl) ?_
    obtain ⟨q93, hq94, hq95, hD96, hU97⟩ := DArr.at_ (Int.toNat i2) default hd79 (by have := hb85; omega)
    obtain ⟨q98, pr99, cc100, po101, hq102, hq103, hq104, hq105, hF106, hV107⟩ := foc103_1 _ _ _ _ hD96
    have hy108 : ((Dd.flat (k := Kd.bool) bool_flat)).D w74 q98 (((k3 + 1) % 3) == 0) [vb (((k3 + 1) % 3) == 0)] := ⟨hF106.1, rfl⟩
    have hy109 := hV107 _ _ _ (hq95 (Dj.left hdj.2)) (fun _ _ _ => rfl) hy108
    have hl113 : cc100.length = [vb (((k3 + 1) % 3) == 0)].length := (((Dd.flat (k := Kd.bool) bool_flat)).toR (S := fun _ => True) hF106 fun _ _ => trivial) |> Kd.len _
    refine L_ste1 (kd := Kd.cells 11) A1 n2 c3 (ra28.set i2.toNat (pr63 ++ [vs r] ++ po65)) h76 i2 hn92 ad86 hA88 1 rfl [vb (((k3 + 1) % 3) == 0)] rfl sz4 rfl (pr99 ++ [vb (((k3 + 1) % 3) == 0)] ++ po101) _ (pr99 ++ [vb (((k3 + 1) % 3) == 0)] ++ po101) hcl90 (Kd.len _ hR89) (foc_put hq104 hq105 hl113) (Dd.raw _ hy109) fun w110 g111 h112 => ?_
    have hc114 := hc78.wmm (memi (L := (blk (.slice A1 n2 c3) :: (q7 ++ []))) 0 rfl) g111
    have hg116 : ∀ b, some b ∈ (q7 : Ob) → w110.heap[b]? = _ := fun b hb => g111.block b (hd79.lt b hb) (fun e => (hdj).1 b e.symm (List.mem_append_left _ hb))
    have hd115 := hU97 w110 _ _ (Dj.left hdj.2) (fun b hb _ => hg116 b hb) (hV107 _ _ _ (hq95 (Dj.left hdj.2)) (fun b hb _ => hg116 b (hq94 b hb)) hy108)
    obtain ⟨xs4, he117⟩ : ∃ y__ : List Change, y__ = (xs3.set i2.toNat (⟨(nth xs3 i2).Id, ((k3 + 1) % 3) == 0, (nth xs3 i2).Was, (nth xs3 i2).Has, (nth xs3 i2).Now⟩ : Change)) := ⟨_, rfl⟩
    have H := H xs4 he117
    rw [← he117] at hd115
    refine L_nil ?_
    refine W_seq ?_
    refine W_reg ?_
    refine L_pu (P_move (vi (k3 + 1)) rfl) ?_
    obtain ⟨hb118, H⟩ := H
    have hi119 := hb118 (len_le hl38)
    refine L_pu (P_add (k3 + 1) 1 rfl rfl hi119) ?_
    refine L_pu (P_assign (vi (k3 + 1 + 1)) rfl) ?_
    refine L_nil ?_
    refine W_seq ?_
    refine W_reg ?_
    refine L_pu (P_move (.slice A1 n2 c3) rfl) ?_
    refine L_pu (P_move (vi i2) rfl) ?_
    refine L_pu (P_move (vi (k3 + 1 + 1)) rfl) ?_
    refine L_call go67 [vi (k3 + 1 + 1)] rfl ((laws_markText.calls w110 hc114.ok (k3 + 1 + 1) _ H).mono ?_)
    rintro _ w120 ⟨r2, rfl, H, g121, hs122⟩
    have hc126 := hc114.k0 g121
    obtain ⟨hb127, H⟩ := H
    have h134 := (h112.sn g121)
    have hd135 := (hd115.k0 g121)
    have hn136 : (0 : Int) ≤ i2 ∧ i2 < (((ra28.set i2.toNat (pr63 ++ [vs r] ++ po65)).set i2.toNat (pr99 ++ [vb (((k3 + 1) % 3) == 0)] ++ po101)).length : Int) := by rw [hd135.len]; exact hb127
    obtain ⟨ad128, cs129, hA130, hR131, hcl132⟩ := h134.get default (by decide) i2 hn136
    obtain rfl := Kd.cells.op hR131
    refine L_pu (P_ia Try.underlying43 se43 A1 ad128 n2 c3 (Dp.len h134 hd135) i2 rfl hA130 rfl hb127) ?_
    refine L_pu (P_fa fa103_2 (ad128.add (i2.toNat * 11)) ((ad128.add (i2.toNat * 11)).add 2) rfl rfl) ?_
    refine L_pu (P_fa fa71_0 ((ad128.add (i2.toNat * 11)).add 2) (((ad128.add (i2.toNat * 11)).add 2).add 0) rfl rfl) ?_
    obtain ⟨q137, hq138, hq139, hD140, hU141⟩ := DArr.at_ (Int.toNat i2) default hd135 (by have := hb127; omega)
    obtain ⟨q142, pr143, cc144, po145, hq146, hq147, hq148, hq149, hF150, hV151⟩ := foc103_2 _ _ _ _ hD140
    have hy152 : ((Dd.flat (k := Kd.str) str_flat)).D w120 q142 r2 [vs r2] := ⟨hF150.1, ⟨rfl, hs122⟩⟩
    have hy153 := hV151 _ _ _ (hq139 (Dj.left hdj.2)) (fun _ _ _ => rfl) hy152
    have hl157 : cc144.length = [vs r2].length := (((Dd.flat (k := Kd.str) str_flat)).toR (S := fun _ => True) hF150 fun _ _ => trivial) |> Kd.len _
    refine L_ste2 (kd := Kd.cells 11) A1 n2 c3 ((ra28.set i2.toNat (pr63 ++ [vs r] ++ po65)).set i2.toNat (pr99 ++ [vb (((k3 + 1) % 3) == 0)] ++ po101)) h134 i2 hn136 ad128 hA130 2 rfl rfl [vs r2] rfl sz9 rfl (pr143 ++ [vs r2] ++ po145) _ (pr143 ++ [vs r2] ++ po145) hcl132 (Kd.len _ hR131) (foc_put hq148 hq149 hl157) (Dd.raw _ hy153) fun w154 g155 h156 => ?_
    have hc158 := hc126.wmm (memi (L := (blk (.slice A1 n2 c3) :: (q7 ++ []))) 0 rfl) g155
    have hg160 : ∀ b, some b ∈ (q7 : Ob) → w154.heap[b]? = _ := fun b hb => g155.block b (hd135.lt b hb) (fun e => (hdj).1 b e.symm (List.mem_append_left _ hb))
    have hd159 := hU141 w154 _ _ (Dj.left hdj.2) (fun b hb _ => hg160 b hb) (hV151 _ _ _ (hq139 (Dj.left hdj.2)) (fun b hb _ => hg160 b (hq138 b hb)) hy152)
    obtain ⟨xs5, he161⟩ : ∃ y__ : List Change, y__ = (xs4.set i2.toNat (⟨(nth xs4 i2).Id, (nth xs4 i2).Had, (⟨r2, (nth xs4 i2).Was.Shape, (nth xs4 i2).Was.Tags⟩ : Feat), (nth xs4 i2).Has, (nth xs4 i2).Now⟩ : Change)) := ⟨_, rfl⟩
    have H := H xs5 he161
    rw [← he161] at hd159
    refine L_nil ?_
    refine W_seq ?_
    refine W_reg ?_
    refine L_pu (P_move (vi (k3 + 1 + 1)) rfl) ?_
    obtain ⟨hb162, H⟩ := H
    have hi163 := hb162 (len_le hl38)
    refine L_pu (P_add (k3 + 1 + 1) 1 rfl rfl hi163) ?_
    refine L_pu (P_assign (vi (k3 + 1 + 1 + 1)) rfl) ?_
    refine L_nil ?_
    refine W_seq ?_
    refine W_reg ?_
    refine L_pu (P_move (.slice A1 n2 c3) rfl) ?_
    refine L_pu (P_move (vi i2) rfl) ?_
    refine L_pu (P_move (vi (k3 + 1 + 1 + 1)) rfl) ?_
    obtain ⟨hb164, H⟩ := H
    have hn171 : (0 : Int) ≤ i2 ∧ i2 < ((((ra28.set i2.toNat (pr63 ++ [vs r] ++ po65)).set i2.toNat (pr99 ++ [vb (((k3 + 1) % 3) == 0)] ++ po101)).set i2.toNat (pr143 ++ [vs r2] ++ po145)).length : Int) := by rw [hd159.len]; exact hb164
    obtain ⟨ad165, cs166, hA167, hR168, hcl169⟩ := h156.get default (by decide) i2 hn171
    obtain rfl := Kd.cells.op hR168
    refine L_pu (P_ia Try.underlying43 se43 A1 ad165 n2 c3 (Dp.len h156 hd159) i2 rfl hA167 rfl hb164) ?_
    refine L_pu (P_fa fa103_2 (ad165.add (i2.toNat * 11)) ((ad165.add (i2.toNat * 11)).add 2) rfl rfl) ?_
    refine L_pu (P_fa fa71_1 ((ad165.add (i2.toNat * 11)).add 2) (((ad165.add (i2.toNat * 11)).add 2).add 1) rfl rfl) ?_
    refine L_pu (P_fa fa68_0 (((ad165.add (i2.toNat * 11)).add 2).add 1) ((((ad165.add (i2.toNat * 11)).add 2).add 1).add 0) rfl rfl) ?_
    obtain ⟨q172, hq173, hq174, hD175, hU176⟩ := DArr.at_ (Int.toNat i2) default hd159 (by have := hb164; omega)
    obtain ⟨q177, pr178, cc179, po180, hq181, hq182, hq183, hq184, hF185, hV186⟩ := foc103_3 _ _ _ _ hD175
    have hy187 : ((Dd.flat (k := (Kd.int .i64)) (int_flat _))).D w154 q177 (k3 + 1 + 1 + 1) [vi (k3 + 1 + 1 + 1)] := ⟨hF185.1, rfl⟩
    have hy188 := hV186 _ _ _ (hq174 (Dj.left hdj.2)) (fun _ _ _ => rfl) hy187
    have hl192 : cc179.length = [vi (k3 + 1 + 1 + 1)].length := (((Dd.flat (k := (Kd.int .i64)) (int_flat _))).toR (S := fun _ => True) hF185 fun _ _ => trivial) |> Kd.len _
    refine L_ste3 (kd := Kd.cells 11) A1 n2 c3 (((ra28.set i2.toNat (pr63 ++ [vs r] ++ po65)).set i2.toNat (pr99 ++ [vb (((k3 + 1) % 3) == 0)] ++ po101)).set i2.toNat (pr143 ++ [vs r2] ++ po145)) h156 i2 hn171 ad165 hA167 3 rfl rfl [vi (k3 + 1 + 1 + 1)] rfl sz3 rfl (pr178 ++ [vi (k3 + 1 + 1 + 1)] ++ po180) _ (pr178 ++ [vi (k3 + 1 + 1 + 1)] ++ po180) hcl169 (Kd.len _ hR168) (foc_put hq183 hq184 hl192) (Dd.raw _ hy188) fun w189 g190 h191 => ?_
    have hc193 := hc158.wmm (memi (L := (blk (.slice A1 n2 c3) :: (q7 ++ []))) 0 rfl) g190
    have hg195 : ∀ b, some b ∈ (q7 : Ob) → w189.heap[b]? = _ := fun b hb => g190.block b (hd159.lt b hb) (fun e => (hdj).1 b e.symm (List.mem_append_left _ hb))
    have hd194 := hU176 w189 _ _ (Dj.left hdj.2) (fun b hb _ => hg195 b hb) (hV186 _ _ _ (hq174 (Dj.left hdj.2)) (fun b hb _ => hg195 b (hq173 b hb)) hy187)
    obtain ⟨xs6, he196⟩ : ∃ y__ : List Change, y__ = (xs5.set i2.toNat (⟨(nth xs5 i2).Id, (nth xs5 i2).Had, (⟨(nth xs5 i2).Was.Id, (⟨k3 + 1 + 1 + 1, (nth xs5 i2).Was.Shape.Pts⟩ : Shape), (nth xs5 i2).Was.Tags⟩ : Feat), (nth xs5 i2).Has, (nth xs5 i2).Now⟩ : Change)) := ⟨_, rfl⟩
    have H := H xs6 he196
    rw [← he196] at hd194
    refine L_nil ?_
    refine W_seq ?_
    refine W_reg ?_
    refine L_pu (P_move (vi (k3 + 1 + 1 + 1)) rfl) ?_
    obtain ⟨hb197, H⟩ := H
    have hi198 := hb197 (len_le hl38)
    refine L_pu (P_add (k3 + 1 + 1 + 1) 1 rfl rfl hi198) ?_
    refine L_pu (P_assign (vi (k3 + 1 + 1 + 1 + 1)) rfl) ?_
    refine L_nil ?_
    refine W_seq ?_
    refine W_reg ?_
    refine L_pu (P_move (.slice A1 n2 c3) rfl) ?_
    refine L_pu (P_move (vi i2) rfl) ?_
    obtain ⟨hb199, H⟩ := H
    have hn206 : (0 : Int) ≤ i2 ∧ i2 < (((((ra28.set i2.toNat (pr63 ++ [vs r] ++ po65)).set i2.toNat (pr99 ++ [vb (((k3 + 1) % 3) == 0)] ++ po101)).set i2.toNat (pr143 ++ [vs r2] ++ po145)).set i2.toNat (pr178 ++ [vi (k3 + 1 + 1 + 1)] ++ po180)).length : Int) := by rw [hd194.len]; exact hb199
    obtain ⟨ad200, cs201, hA202, hR203, hcl204⟩ := h191.get default (by decide) i2 hn206
    obtain rfl := Kd.cells.op hR203
    refine L_pu (P_ia Try.underlying43 se43 A1 ad200 n2 c3 (Dp.len h191 hd194) i2 rfl hA202 rfl hb199) ?_
    refine L_pu (P_fa fa103_2 (ad200.add (i2.toNat * 11)) ((ad200.add (i2.toNat * 11)).add 2) rfl rfl) ?_
    refine L_pu (P_fa fa71_1 ((ad200.add (i2.toNat * 11)).add 2) (((ad200.add (i2.toNat * 11)).add 2).add 1) rfl rfl) ?_
    refine L_pu (P_fa fa68_1 (((ad200.add (i2.toNat * 11)).add 2).add 1) ((((ad200.add (i2.toNat * 11)).add 2).add 1).add 1) rfl rfl) ?_
    obtain ⟨q207, hq208, hq209, hD210, hU211⟩ := DArr.at_ (Int.toNat i2) default hd194 (by have := hb199; omega)
    obtain ⟨q212, pr213, cc214, po215, hq216, hq217, hq218, hq219, hF220, hV221⟩ := foc103_4 _ _ _ _ hD210
    obtain ⟨v222, hv224, hs223⟩ := hF220
    obtain ⟨A225, n226, c227, rfl⟩ := hs223.shape
    subst hv224
    have hcl228 := hcl204 4 _ (foc_cell hq218 hq219)
    refine L_pu (P_ld ag23 cL ((((ad200.add (i2.toNat * 11)).add 2).add 1).add 1) (.slice A225 n226 c227) rfl ((congrArg w189.cell? (addr3 (o := 4) rfl)).trans hcl228)) ?_
    refine L_pu (P_move (vi (k3 + 1 + 1 + 1 + 1)) rfl) ?_
    have hp231 : Ow kPt 29 w189 ([] ++ O) (.slice A225 n226 c227) ((nth xs6 i2).Was.Shape.Pts) := Ds.toOw hs223 (fun b hb => List.mem_append_right _ (hmm b (List.mem_cons_of_mem _ (List.mem_append_left _ (hq208 _ (hq216 _ hb))))))
    refine L_call go68 [.slice A225 n226 c227, vi (k3 + 1 + 1 + 1 + 1)] rfl ((laws_markPtS.calls w189 hc193.ok A225 n226 c227 ((nth xs6 i2).Was.Shape.Pts) hp231 (k3 + 1 + 1 + 1 + 1) _ H).mono ?_)
    rintro _ w229 ⟨r3, m, rfl, H, g230, h232⟩
    have gm233 : Gm w189 w229 q212 := g230.gm fun b hb => by rw [Ds.rows hs223, hb]; exact List.mem_cons_self
    have hs234 := Ds.upf hs223 h232
    have hF236 : ((Dd.sl (Dd.flat (k := kPt) kPt_flat) 29)).D w229 q212 m [.slice A225 n226 c227] := ⟨_, rfl, hs234⟩
    have hd237 := DArr.fset (hU211 w229 _ _ (Dj.left hdj.2) (fun b hb hn => gm233.block b (hd194.lt b hb) fun hm => hn (hq216 b hm)) (hV221 w229 _ _ (hq209 (Dj.left hdj.2)) (fun b hb hn => gm233.block b (hd194.lt b (hq208 b hb)) hn) hF236)) hq218 rfl
    have h238 := h191.flto (w' := w229) (O' := O) (cells_flat _) fun b hb => ⟨gm233.block b (h191.ltb b hb) fun hm => (hdj).1 b hb (List.mem_append_left _ (hq208 _ (hq216 _ hm))), h191.mem b hb⟩
    have hc239 := hc193.wmg gm233 (fun b hb => (List.mem_cons_of_mem _ (List.mem_append_left _ (hq208 _ (hq216 _ hb)))))
    obtain ⟨xs7, he240⟩ : ∃ y__ : List Change, y__ = (xs6.set i2.toNat (⟨(nth xs6 i2).Id, (nth xs6 i2).Had, (⟨(nth xs6 i2).Was.Id, (⟨(nth xs6 i2).Was.Shape.Kind, m⟩ : Shape), (nth xs6 i2).Was.Tags⟩ : Feat), (nth xs6 i2).Has, (nth xs6 i2).Now⟩ : Change)) := ⟨_, rfl⟩
    have H := H xs7 he240
    rw [← he240] at hd237
    refine L_pu (P_assign (vi r3) rfl) ?_
    refine L_nil ?_
    refine W_seq ?_
    refine W_reg ?_
    refine L_pu (P_move (.slice A1 n2 c3) rfl) ?_
    refine L_pu (P_move (vi i2) rfl) ?_
    obtain ⟨hb241, H⟩ := H
    have hn248 : (0 : Int) ≤ i2 ∧ i2 < (((((ra28.set i2.toNat (pr63 ++ [vs r] ++ po65)).set i2.toNat (pr99 ++ [vb (((k3 + 1) % 3) == 0)] ++ po101)).set i2.toNat (pr143 ++ [vs r2] ++ po145)).set i2.toNat (pr178 ++ [vi (k3 + 1 + 1 + 1)] ++ po180)).length : Int) := by rw [hd237.len]; exact hb241
    obtain ⟨ad242, cs243, hA244, hR245, hcl246⟩ := h238.get default (by decide) i2 hn248
    obtain rfl := Kd.cells.op hR245
    refine L_pu (P_ia Try.underlying43 se43 A1 ad242 n2 c3 (Dp.len h238 hd237) i2 rfl hA244 rfl hb241) ?_
    refine L_pu (P_fa fa103_2 (ad242.add (i2.toNat * 11)) ((ad242.add (i2.toNat * 11)).add 2) rfl rfl) ?_
    refine L_pu (P_fa fa71_2 ((ad242.add (i2.toNat * 11)).add 2) (((ad242.add (i2.toNat * 11)).add 2).add 3) rfl rfl) ?_
    obtain ⟨q249, hq250, hq251, hD252, hU253⟩ := DArr.at_ (Int.toNat i2) default hd237 (by have := hb241; omega)
    obtain ⟨q254, pr255, cc256, po257, hq258, hq259, hq260, hq261, hF262, hV263⟩ := foc103_5 _ _ _ _ hD252
    obtain ⟨v264, hv266, hs265⟩ := hF262
    obtain ⟨A267, n268, c269, rfl⟩ := hs265.shape
    subst hv266
    have hcl270 := hcl246 5 _ (foc_cell hq260 hq261)
    refine L_pu (P_ld ag69 cL (((ad242.add (i2.toNat * 11)).add 2).add 3) (.slice A267 n268 c269) rfl ((congrArg w229.cell? (addr2 (o := 5) rfl)).trans hcl270)) ?_
    refine L_pu (P_move (vi r3) rfl) ?_
    have hp273 : Ow kTag 133 w229 ([] ++ O) (.slice A267 n268 c269) ((nth xs7 i2).Was.Tags) := Ds.toOw hs265 (fun b hb => List.mem_append_right _ (hmm b (List.mem_cons_of_mem _ (List.mem_append_left _ (hq250 _ (hq258 _ hb))))))
    refine L_call go69 [.slice A267 n268 c269, vi r3] rfl ((laws_markTagS.calls w229 hc239.ok A267 n268 c269 ((nth xs7 i2).Was.Tags) hp273 r3 _ H).mono ?_)
    rintro _ w271 ⟨r4, m2, rfl, H, g272, h274⟩
    have gm275 : Gm w229 w271 q254 := g272.gm fun b hb => by rw [Ds.rows hs265, hb]; exact List.mem_cons_self
    have hs276 := Ds.upf hs265 h274
    have hF278 : ((Dd.sl (Dd.flat (k := kTag) kTag_flat) 133)).D w271 q254 m2 [.slice A267 n268 c269] := ⟨_, rfl, hs276⟩
    have hd279 := DArr.fset (hU253 w271 _ _ (Dj.left hdj.2) (fun b hb hn => gm275.block b (hd237.lt b hb) fun hm => hn (hq258 b hm)) (hV263 w271 _ _ (hq251 (Dj.left hdj.2)) (fun b hb hn => gm275.block b (hd237.lt b (hq250 b hb)) hn) hF278)) hq260 rfl
    have h280 := h238.flto (w' := w271) (O' := O) (cells_flat _) fun b hb => ⟨gm275.block b (h238.ltb b hb) fun hm => (hdj).1 b hb (List.mem_append_left _ (hq250 _ (hq258 _ hm))), h238.mem b hb⟩
    have hc281 := hc239.wmg gm275 (fun b hb => (List.mem_cons_of_mem _ (List.mem_append_left _ (hq250 _ (hq258 _ hb)))))
    obtain ⟨xs8, he282⟩ : ∃ y__ : List Change, y__ = (xs7.set i2.toNat (⟨(nth xs7 i2).Id, (nth xs7 i2).Had, (⟨(nth xs7 i2).Was.Id, (nth xs7 i2).Was.Shape, m2⟩ : Feat), (nth xs7 i2).Has, (nth xs7 i2).Now⟩ : Change)) := ⟨_, rfl⟩
    have H := H xs8 he282
    rw [← he282] at hd279
    refine L_pu (P_assign (vi r4) rfl) ?_
    refine L_nil ?_
    refine W_seq ?_
    refine W_reg ?_
    refine L_pu (P_move (.slice A1 n2 c3) rfl) ?_
    refine L_pu (P_move (vi i2) rfl) ?_
    refine L_pu (P_move (vi r4) rfl) ?_
    obtain ⟨hb283, H⟩ := H
    refine L_pu (P_rem r4 3 rfl rfl hb283) ?_
    refine L_pu (P_cmp (r4 % 3) 0 ((r4 % 3) == 0) rfl rfl rfl) ?_
    obtain ⟨hb284, H⟩ := H
    have hn291 : (0 : Int) ≤ i2 ∧ i2 < (((((ra28.set i2.toNat (pr63 ++ [vs r] ++ po65)).set i2.toNat (pr99 ++ [vb (((k3 + 1) % 3) == 0)] ++ po101)).set i2.toNat (pr143 ++ [vs r2] ++ po145)).set i2.toNat (pr178 ++ [vi (k3 + 1 + 1 + 1)] ++ po180)).length : Int) := by rw [hd279.len]; exact hb284
    obtain ⟨ad285, cs286, hA287, hR288, hcl289⟩ := h280.get default (by decide) i2 hn291
    obtain rfl := Kd.cells.op hR288
    refine L_pu (P_ia Try.underlying43 se43 A1 ad285 n2 c3 (Dp.len h280 hd279) i2 rfl hA287 rfl hb284) ?_
    refine L_pu (P_fa fa103_3 (ad285.add (i2.toNat * 11)) ((ad285.add (i2.toNat * 11)).add 6) rfl rfl) ?_
    obtain ⟨q292, hq293, hq294, hD295, hU296⟩ := DArr.at_ (Int.toNat i2) default hd279 (by have := hb284; omega)
    obtain ⟨q297, pr298, cc299, po300, hq301, hq302, hq303, hq304, hF305, hV306⟩ := foc103_6 _ _ _ _ hD295
    have hy307 : ((Dd.flat (k := Kd.bool) bool_flat)).D w271 q297 ((r4 % 3) == 0) [vb ((r4 % 3) == 0)] := ⟨hF305.1, rfl⟩
    have hy308 := hV306 _ _ _ (hq294 (Dj.left hdj.2)) (fun _ _ _ => rfl) hy307
    have hl312 : cc299.length = [vb ((r4 % 3) == 0)].length := (((Dd.flat (k := Kd.bool) bool_flat)).toR (S := fun _ => True) hF305 fun _ _ => trivial) |> Kd.len _
    refine L_ste1 (kd := Kd.cells 11) A1 n2 c3 ((((ra28.set i2.toNat (pr63 ++ [vs r] ++ po65)).set i2.toNat (pr99 ++ [vb (((k3 + 1) % 3) == 0)] ++ po101)).set i2.toNat (pr143 ++ [vs r2] ++ po145)).set i2.toNat (pr178 ++ [vi (k3 + 1 + 1 + 1)] ++ po180)) h280 i2 hn291 ad285 hA287 6 rfl [vb ((r4 % 3) == 0)] rfl sz4 rfl (pr298 ++ [vb ((r4 % 3) == 0)] ++ po300) _ (pr298 ++ [vb ((r4 % 3) == 0)] ++ po300) hcl289 (Kd.len _ hR288) (foc_put hq303 hq304 hl312) (Dd.raw _ hy308) fun w309 g310 h311 => ?_
    have hc313 := hc281.wmm (memi (L := (blk (.slice A1 n2 c3) :: (q7 ++ []))) 0 rfl) g310
    have hg315 : ∀ b, some b ∈ (q7 : Ob) → w309.heap[b]? = _ := fun b hb => g310.block b (hd279.lt b hb) (fun e => (hdj).1 b e.symm (List.mem_append_left _ hb))
    have hd314 := hU296 w309 _ _ (Dj.left hdj.2) (fun b hb _ => hg315 b hb) (hV306 _ _ _ (hq294 (Dj.left hdj.2)) (fun b hb _ => hg315 b (hq293 b hb)) hy307)
    obtain ⟨xs9, he316⟩ : ∃ y__ : List Change, y__ = (xs8.set i2.toNat (⟨(nth xs8 i2).Id, (nth xs8 i2).Had, (nth xs8 i2).Was, (r4 % 3) == 0, (nth xs8 i2).Now⟩ : Change)) := ⟨_, rfl⟩
    have H := H xs9 he316
    rw [← he316] at hd314
    refine L_nil ?_
    refine W_seq ?_
    refine W_reg ?_
    refine L_pu (P_move (vi r4) rfl) ?_
    obtain ⟨hb317, H⟩ := H
    have hi318 := hb317 (len_le hl38)
    refine L_pu (P_add r4 1 rfl rfl hi318) ?_
    refine L_pu (P_assign (vi (r4 + 1)) rfl) ?_
    refine L_nil ?_
    refine W_seq ?_
    refine W_reg ?_
    refine L_pu (P_move (.slice A1 n2 c3) rfl) ?_
    refine L_pu (P_move (vi i2) rfl) ?_
    refine L_pu (P_move (vi (r4 + 1)) rfl) ?_
    refine L_call go67 [vi (r4 + 1)] rfl ((laws_markText.calls w309 hc313.ok (r4 + 1) _ H).mono ?_)
    rintro _ w319 ⟨r5, rfl, H, g320, hs321⟩
    have hc325 := hc313.k0 g320
    obtain ⟨hb326, H⟩ := H
    have h333 := (h311.sn g320)
    have hd334 := (hd314.k0 g320)
    have hn335 : (0 : Int) ≤ i2 ∧ i2 < ((((((ra28.set i2.toNat (pr63 ++ [vs r] ++ po65)).set i2.toNat (pr99 ++ [vb (((k3 + 1) % 3) == 0)] ++ po101)).set i2.toNat (pr143 ++ [vs r2] ++ po145)).set i2.toNat (pr178 ++ [vi (k3 + 1 + 1 + 1)] ++ po180)).set i2.toNat (pr298 ++ [vb ((r4 % 3) == 0)] ++ po300)).length : Int) := by rw [hd334.len]; exact hb326
    obtain ⟨ad327, cs328, hA329, hR330, hcl331⟩ := h333.get default (by decide) i2 hn335
    obtain rfl := Kd.cells.op hR330
    refine L_pu (P_ia Try.underlying43 se43 A1 ad327 n2 c3 (Dp.len h333 hd334) i2 rfl hA329 rfl hb326) ?_
    refine L_pu (P_fa fa103_4 (ad327.add (i2.toNat * 11)) ((ad327.add (i2.toNat * 11)).add 7) rfl rfl) ?_
    refine L_pu (P_fa fa71_0 ((ad327.add (i2.toNat * 11)).add 7) (((ad327.add (i2.toNat * 11)).add 7).add 0) rfl rfl) ?_
    obtain ⟨q336, hq337, hq338, hD339, hU340⟩ := DArr.at_ (Int.toNat i2) default hd334 (by have := hb326; omega)
    obtain ⟨q341, pr342, cc343, po344, hq345, hq346, hq347, hq348, hF349, hV350⟩ := foc103_7 _ _ _ _ hD339
    have hy351 : ((Dd.flat (k := Kd.str) str_flat)).D w319 q341 r5 [vs r5] := ⟨hF349.1, ⟨rfl, hs321⟩⟩
    have hy352 := hV350 _ _ _ (hq338 (Dj.left hdj.2)) (fun _ _ _ => rfl) hy351
    have hl356 : cc343.length = [vs r5].length := (((Dd.flat (k := Kd.str) str_flat)).toR (S := fun _ => True) hF349 fun _ _ => trivial) |> Kd.len _
    refine L_ste2 (kd := Kd.cells 11) A1 n2 c3 (((((ra28.set i2.toNat (pr63 ++ [vs r] ++ po65)).set i2.toNat (pr99 ++ [vb (((k3 + 1) % 3) == 0)] ++ po101)).set i2.toNat (pr143 ++ [vs r2] ++ po145)).set i2.toNat (pr178 ++ [vi (k3 + 1 + 1 + 1)] ++ po180)).set i2.toNat (pr298 ++ [vb ((r4 % 3) == 0)] ++ po300)) h333 i2 hn335 ad327 hA329 7 rfl rfl [vs r5] rfl sz9 rfl (pr342 ++ [vs r5] ++ po344) _ (pr342 ++ [vs r5] ++ po344) hcl331 (Kd.len _ hR330) (foc_put hq347 hq348 hl356) (Dd.raw _ hy352) fun w353 g354 h355 => ?_
    have hc357 := hc325.wmm (memi (L := (blk (.slice A1 n2 c3) :: (q7 ++ []))) 0 rfl) g354
    have hg359 : ∀ b, some b ∈ (q7 : Ob) → w353.heap[b]? = _ := fun b hb => g354.block b (hd334.lt b hb) (fun e => (hdj).1 b e.symm (List.mem_append_left _ hb))
    have hd358 := hU340 w353 _ _ (Dj.left hdj.2) (fun b hb _ => hg359 b hb) (hV350 _ _ _ (hq338 (Dj.left hdj.2)) (fun b hb _ => hg359 b (hq337 b hb)) hy351)
    obtain ⟨xs10, he360⟩ : ∃ y__ : List Change, y__ = (xs9.set i2.toNat (⟨(nth xs9 i2).Id, (nth xs9 i2).Had, (nth xs9 i2).Was, (nth xs9 i2).Has, (⟨r5, (nth xs9 i2).Now.Shape, (nth xs9 i2).Now.Tags⟩ : Feat)⟩ : Change)) := ⟨_, rfl⟩
    have H := H xs10 he360
    rw [← he360] at hd358
    refine L_nil ?_
    refine W_seq ?_
    refine W_reg ?_
    refine L_pu (P_move (vi (r4 + 1)) rfl) ?_
    obtain ⟨hb361, H⟩ := H
    have hi362 := hb361 (len_le hl38)
    refine L_pu (P_add (r4 + 1) 1 rfl rfl hi362) ?_
    refine L_pu (P_assign (vi (r4 + 1 + 1)) rfl) ?_
    refine L_nil ?_
    refine W_seq ?_
    refine W_reg ?_
    refine L_pu (P_move (.slice A1 n2 c3) rfl) ?_
    refine L_pu (P_move (vi i2) rfl) ?_
    refine L_pu (P_move (vi (r4 + 1 + 1)) rfl) ?_
    obtain ⟨hb363, H⟩ := H
    have hn370 : (0 : Int) ≤ i2 ∧ i2 < (((((((ra28.set i2.toNat (pr63 ++ [vs r] ++ po65)).set i2.toNat (pr99 ++ [vb (((k3 + 1) % 3) == 0)] ++ po101)).set i2.toNat (pr143 ++ [vs r2] ++ po145)).set i2.toNat (pr178 ++ [vi (k3 + 1 + 1 + 1)] ++ po180)).set i2.toNat (pr298 ++ [vb ((r4 % 3) == 0)] ++ po300)).set i2.toNat (pr342 ++ [vs r5] ++ po344)).length : Int) := by rw [hd358.len]; exact hb363
    obtain ⟨ad364, cs365, hA366, hR367, hcl368⟩ := h355.get default (by decide) i2 hn370
    obtain rfl := Kd.cells.op hR367
    refine L_pu (P_ia Try.underlying43 se43 A1 ad364 n2 c3 (Dp.len h355 hd358) i2 rfl hA366 rfl hb363) ?_
    refine L_pu (P_fa fa103_4 (ad364.add (i2.toNat * 11)) ((ad364.add (i2.toNat * 11)).add 7) rfl rfl) ?_
    refine L_pu (P_fa fa71_1 ((ad364.add (i2.toNat * 11)).add 7) (((ad364.add (i2.toNat * 11)).add 7).add 1) rfl rfl) ?_
    refine L_pu (P_fa fa68_0 (((ad364.add (i2.toNat * 11)).add 7).add 1) ((((ad364.add (i2.toNat * 11)).add 7).add 1).add 0) rfl rfl) ?_
    obtain ⟨q371, hq372, hq373, hD374, hU375⟩ := DArr.at_ (Int.toNat i2) default hd358 (by have := hb363; omega)
    obtain ⟨q376, pr377, cc378, po379, hq380, hq381, hq382, hq383, hF384, hV385⟩ := foc103_8 _ _ _ _ hD374
    have hy386 : ((Dd.flat (k := (Kd.int .i64)) (int_flat _))).D w353 q376 (r4 + 1 + 1) [vi (r4 + 1 + 1)] := ⟨hF384.1, rfl⟩
    have hy387 := hV385 _ _ _ (hq373 (Dj.left hdj.2)) (fun _ _ _ => rfl) hy386
    have hl391 : cc378.length = [vi (r4 + 1 + 1)].length := (((Dd.flat (k := (Kd.int .i64)) (int_flat _))).toR (S := fun _ => True) hF384 fun _ _ => trivial) |> Kd.len _
    refine L_ste3 (kd := Kd.cells 11) A1 n2 c3 ((((((ra28.set i2.toNat (pr63 ++ [vs r] ++ po65)).set i2.toNat (pr99 ++ [vb (((k3 + 1) % 3) == 0)] ++ po101)).set i2.toNat (pr143 ++ [vs r2] ++ po145)).set i2.toNat (pr178 ++ [vi (k3 + 1 + 1 + 1)] ++ po180)).set i2.toNat (pr298 ++ [vb ((r4 % 3) == 0)] ++ po300)).set i2.toNat (pr342 ++ [vs r5] ++ po344)) h355 i2 hn370 ad364 hA366 8 rfl rfl [vi (r4 + 1 + 1)] rfl sz3 rfl (pr377 ++ [vi (r4 + 1 + 1)] ++ po379) _ (pr377 ++ [vi (r4 + 1 + 1)] ++ po379) hcl368 (Kd.len _ hR367) (foc_put hq382 hq383 hl391) (Dd.raw _ hy387) fun w388 g389 h390 => ?_
    have hc392 := hc357.wmm (memi (L := (blk (.slice A1 n2 c3) :: (q7 ++ []))) 0 rfl) g389
    have hg394 : ∀ b, some b ∈ (q7 : Ob) → w388.heap[b]? = _ := fun b hb => g389.block b (hd358.lt b hb) (fun e => (hdj).1 b e.symm (List.mem_append_left _ hb))
    have hd393 := hU375 w388 _ _ (Dj.left hdj.2) (fun b hb _ => hg394 b hb) (hV385 _ _ _ (hq373 (Dj.left hdj.2)) (fun b hb _ => hg394 b (hq372 b hb)) hy386)
    obtain ⟨xs11, he395⟩ : ∃ y__ : List Change, y__ = (xs10.set i2.toNat (⟨(nth xs10 i2).Id, (nth xs10 i2).Had, (nth xs10 i2).Was, (nth xs10 i2).Has, (⟨(nth xs10 i2).Now.Id, (⟨r4 + 1 + 1, (nth xs10 i2).Now.Shape.Pts⟩ : Shape), (nth xs10 i2).Now.Tags⟩ : Feat)⟩ : Change)) := ⟨_, rfl⟩
    have H := H xs11 he395
    rw [← he395] at hd393
    refine L_nil ?_
    refine W_seq ?_
    refine W_reg ?_
    refine L_pu (P_move (vi (r4 + 1 + 1)) rfl) ?_
    obtain ⟨hb396, H⟩ := H
    have hi397 := hb396 (len_le hl38)
    refine L_pu (P_add (r4 + 1 + 1) 1 rfl rfl hi397) ?_
    refine L_pu (P_assign (vi (r4 + 1 + 1 + 1)) rfl) ?_
    refine L_nil ?_
    refine W_seq ?_
    refine W_reg ?_
    refine L_pu (P_move (.slice A1 n2 c3) rfl) ?_
    refine L_pu (P_move (vi i2) rfl) ?_
    obtain ⟨hb398, H⟩ := H
    have hn405 : (0 : Int) ≤ i2 ∧ i2 < ((((((((ra28.set i2.toNat (pr63 ++ [vs r] ++ po65)).set i2.toNat (pr99 ++ [vb (((k3 + 1) % 3) == 0)] ++ po101)).set i2.toNat (pr143 ++ [vs r2] ++ po145)).set i2.toNat (pr178 ++ [vi (k3 + 1 + 1 + 1)] ++ po180)).set i2.toNat (pr298 ++ [vb ((r4 % 3) == 0)] ++ po300)).set i2.toNat (pr342 ++ [vs r5] ++ po344)).set i2.toNat (pr377 ++ [vi (r4 + 1 + 1)] ++ po379)).length : Int) := by rw [hd393.len]; exact hb398
    obtain ⟨ad399, cs400, hA401, hR402, hcl403⟩ := h390.get default (by decide) i2 hn405
    obtain rfl := Kd.cells.op hR402
    refine L_pu (P_ia Try.underlying43 se43 A1 ad399 n2 c3 (Dp.len h390 hd393) i2 rfl hA401 rfl hb398) ?_
    refine L_pu (P_fa fa103_4 (ad399.add (i2.toNat * 11)) ((ad399.add (i2.toNat * 11)).add 7) rfl rfl) ?_
    refine L_pu (P_fa fa71_1 ((ad399.add (i2.toNat * 11)).add 7) (((ad399.add (i2.toNat * 11)).add 7).add 1) rfl rfl) ?_
    refine L_pu (P_fa fa68_1 (((ad399.add (i2.toNat * 11)).add 7).add 1) ((((ad399.add (i2.toNat * 11)).add 7).add 1).add 1) rfl rfl) ?_
    obtain ⟨q406, hq407, hq408, hD409, hU410⟩ := DArr.at_ (Int.toNat i2) default hd393 (by have := hb398; omega)
    obtain ⟨q411, pr412, cc413, po414, hq415, hq416, hq417, hq418, hF419, hV420⟩ := foc103_9 _ _ _ _ hD409
    obtain ⟨v421, hv423, hs422⟩ := hF419
    obtain ⟨A424, n425, c426, rfl⟩ := hs422.shape
    subst hv423
    have hcl427 := hcl403 9 _ (foc_cell hq417 hq418)
    refine L_pu (P_ld ag23 cL ((((ad399.add (i2.toNat * 11)).add 7).add 1).add 1) (.slice A424 n425 c426) rfl ((congrArg w388.cell? (addr3 (o := 9) rfl)).trans hcl427)) ?_
    refine L_pu (P_move (vi (r4 + 1 + 1 + 1)) rfl) ?_
    have hp430 : Ow kPt 29 w388 ([] ++ O) (.slice A424 n425 c426) ((nth xs11 i2).Now.Shape.Pts) := Ds.toOw hs422 (fun b hb => List.mem_append_right _ (hmm b (List.mem_cons_of_mem _ (List.mem_append_left _ (hq407 _ (hq415 _ hb))))))
    refine L_call go68 [.slice A424 n425 c426, vi (r4 + 1 + 1 + 1)] rfl ((laws_markPtS.calls w388 hc392.ok A424 n425 c426 ((nth xs11 i2).Now.Shape.Pts) hp430 (r4 + 1 + 1 + 1) _ H).mono ?_)
    rintro _ w428 ⟨r6, m3, rfl, H, g429, h431⟩
    have gm432 : Gm w388 w428 q411 := g429.gm fun b hb => by rw [Ds.rows hs422, hb]; exact List.mem_cons_self
    have hs433 := Ds.upf hs422 h431
    have hF435 : ((Dd.sl (Dd.flat (k := kPt) kPt_flat) 29)).D w428 q411 m3 [.slice A424 n425 c426] := ⟨_, rfl, hs433⟩
    have hd436 := DArr.fset (hU410 w428 _ _ (Dj.left hdj.2) (fun b hb hn => gm432.block b (hd393.lt b hb) fun hm => hn (hq415 b hm)) (hV420 w428 _ _ (hq408 (Dj.left hdj.2)) (fun b hb hn => gm432.block b (hd393.lt b (hq407 b hb)) hn) hF435)) hq417 rfl
    have h437 := h390.flto (w' := w428) (O' := O) (cells_flat _) fun b hb => ⟨gm432.block b (h390.ltb b hb) fun hm => (hdj).1 b hb (List.mem_append_left _ (hq407 _ (hq415 _ hm))), h390.mem b hb⟩
    have hc438 := hc392.wmg gm432 (fun b hb => (List.mem_cons_of_mem _ (List.mem_append_left _ (hq407 _ (hq415 _ hb)))))
    obtain ⟨xs12, he439⟩ : ∃ y__ : List Change, y__ = (xs11.set i2.toNat (⟨(nth xs11 i2).Id, (nth xs11 i2).Had, (nth xs11 i2).Was, (nth xs11 i2).Has, (⟨(nth xs11 i2).Now.Id, (⟨(nth xs11 i2).Now.Shape.Kind, m3⟩ : Shape), (nth xs11 i2).Now.Tags⟩ : Feat)⟩ : Change)) := ⟨_, rfl⟩
    have H := H xs12 he439
    rw [← he439] at hd436
    refine L_pu (P_assign (vi r6) rfl) ?_
    refine L_nil ?_
    refine W_reg ?_
    refine L_pu (P_move (.slice A1 n2 c3) rfl) ?_
    refine L_pu (P_move (vi i2) rfl) ?_
    obtain ⟨hb440, H⟩ := H
    have hn447 : (0 : Int) ≤ i2 ∧ i2 < ((((((((ra28.set i2.toNat (pr63 ++ [vs r] ++ po65)).set i2.toNat (pr99 ++ [vb (((k3 + 1) % 3) == 0)] ++ po101)).set i2.toNat (pr143 ++ [vs r2] ++ po145)).set i2.toNat (pr178 ++ [vi (k3 + 1 + 1 + 1)] ++ po180)).set i2.toNat (pr298 ++ [vb ((r4 % 3) == 0)] ++ po300)).set i2.toNat (pr342 ++ [vs r5] ++ po344)).set i2.toNat (pr377 ++ [vi (r4 + 1 + 1)] ++ po379)).length : Int) := by rw [hd436.len]; exact hb440
    obtain ⟨ad441, cs442, hA443, hR444, hcl445⟩ := h437.get default (by decide) i2 hn447
    obtain rfl := Kd.cells.op hR444
    refine L_pu (P_ia Try.underlying43 se43 A1 ad441 n2 c3 (Dp.len h437 hd436) i2 rfl hA443 rfl hb440) ?_
    refine L_pu (P_fa fa103_4 (ad441.add (i2.toNat * 11)) ((ad441.add (i2.toNat * 11)).add 7) rfl rfl) ?_
    refine L_pu (P_fa fa71_2 ((ad441.add (i2.toNat * 11)).add 7) (((ad441.add (i2.toNat * 11)).add 7).add 3) rfl rfl) ?_
    obtain ⟨q448, hq449, hq450, hD451, hU452⟩ := DArr.at_ (Int.toNat i2) default hd436 (by have := hb440; omega)
    obtain ⟨q453, pr454, cc455, po456, hq457, hq458, hq459, hq460, hF461, hV462⟩ := foc103_10 _ _ _ _ hD451
    obtain ⟨v463, hv465, hs464⟩ := hF461
    obtain ⟨A466, n467, c468, rfl⟩ := hs464.shape
    subst hv465
    have hcl469 := hcl445 10 _ (foc_cell hq459 hq460)
    refine L_pu (P_ld ag69 cL (((ad441.add (i2.toNat * 11)).add 7).add 3) (.slice A466 n467 c468) rfl ((congrArg w428.cell? (addr2 (o := 10) rfl)).trans hcl469)) ?_
    refine L_pu (P_move (vi r6) rfl) ?_
    have hp472 : Ow kTag 133 w428 ([] ++ O) (.slice A466 n467 c468) ((nth xs12 i2).Now.Tags) := Ds.toOw hs464 (fun b hb => List.mem_append_right _ (hmm b (List.mem_cons_of_mem _ (List.mem_append_left _ (hq449 _ (hq457 _ hb))))))
    refine L_call go69 [.slice A466 n467 c468, vi r6] rfl ((laws_markTagS.calls w428 hc438.ok A466 n467 c468 ((nth xs12 i2).Now.Tags) hp472 r6 _ H).mono ?_)
    rintro _ w470 ⟨r7, m4, rfl, H, g471, h473⟩
    have gm474 : Gm w428 w470 q453 := g471.gm fun b hb => by rw [Ds.rows hs464, hb]; exact List.mem_cons_self
    have hs475 := Ds.upf hs464 h473
    have hF477 : ((Dd.sl (Dd.flat (k := kTag) kTag_flat) 133)).D w470 q453 m4 [.slice A466 n467 c468] := ⟨_, rfl, hs475⟩
    have hd478 := DArr.fset (hU452 w470 _ _ (Dj.left hdj.2) (fun b hb hn => gm474.block b (hd436.lt b hb) fun hm => hn (hq457 b hm)) (hV462 w470 _ _ (hq450 (Dj.left hdj.2)) (fun b hb hn => gm474.block b (hd436.lt b (hq449 b hb)) hn) hF477)) hq459 rfl
    have h479 := h437.flto (w' := w470) (O' := O) (cells_flat _) fun b hb => ⟨gm474.block b (h437.ltb b hb) fun hm => (hdj).1 b hb (List.mem_append_left _ (hq449 _ (hq457 _ hm))), h437.mem b hb⟩
    have hc480 := hc438.wmg gm474 (fun b hb => (List.mem_cons_of_mem _ (List.mem_append_left _ (hq449 _ (hq457 _ hb)))))
    obtain ⟨xs13, he481⟩ : ∃ y__ : List Change, y__ = (xs12.set i2.toNat (⟨(nth xs12 i2).Id, (nth xs12 i2).Had, (nth xs12 i2).Was, (nth xs12 i2).Has, (⟨(nth xs12 i2).Now.Id, (nth xs12 i2).Now.Shape, m4⟩ : Feat)⟩ : Change)) := ⟨_, rfl⟩
    have H := H xs13 he481
    rw [← he481] at hd478
    refine L_pu (P_assign (vi r7) rfl) ?_
    refine L_nil ?_
    refine W_reg ?_
    refine L_pu (P_move (vi i2) rfl) ?_
    obtain ⟨hb483, H⟩ := H
    have hi482 : I64 (i2 + 1) := i64_succ (of_decide_eq_true hq39) hl38 hb483
    refine L_pu (P_add i2 1 rfl rfl hi482) ?_
    refine L_pu (P_assign (vi (i2 + 1)) rfl) ?_
    refine L_nil ?_
    obtain ⟨hI484, hm485⟩ := H
    exact ⟨(xs13, (((((((ra28.set i2.toNat (pr63 ++ [vs r] ++ po65)).set i2.toNat (pr99 ++ [vb (((k3 + 1) % 3) == 0)] ++ po101)).set i2.toNat (pr143 ++ [vs r2] ++ po145)).set i2.toNat (pr178 ++ [vi (k3 + 1 + 1 + 1)] ++ po180)).set i2.toNat (pr298 ++ [vb ((r4 % 3) == 0)] ++ po300)).set i2.toNat (pr342 ++ [vs r5] ++ po344)).set i2.toNat (pr377 ++ [vi (r4 + 1 + 1)] ++ po379)), r7, i2 + 1), hm485, hI484, ⟨rfl, rfl, rfl, trivial⟩, hc480, h479, hd478⟩
  · have H := ite_f H hq39
    refine W_exit (xin_hit ?_)
    refine W_seq ?_
    refine W_reg ?_
    refine L_pu (P_move (vi k3) rfl) ?_
    refine L_pu (P_assign (vi k3) rfl) ?_
    refine L_nil ?_
    refine W_ret ?_
    exact ⟨[vi k3], ⟨_, rfl, rfl⟩, k3, xs2, ra28, rfl, H, hc29.gr, h30, hd31⟩
end Go.Proofs.Ytndjggncgpjolaa

namespace Go.Proofs.Ytndjggncgpjolaa
set_option linter.unusedVariables false
set_option linter.unusedSimpArgs false
set_option linter.unusedSectionVars false
theorem laws_markChangeS.lawk (a : List Change) (k : Int) (Q : Int → List Change → Prop) (ha : bulk a ≤ 1048576) (h0 : 0 ≤ k) (h1 : k ≤ 500000000) (hq : Q (mkL gChange a k).2 (mkL gChange a k).1) : laws_markChangeS.E a k Q := by
  unfold laws_markChangeS.E
  have hbl := bulk_len a
  refine ⟨fun xs k' i => ∃ u : Nat, i = u ∧ Mk gChange a k u xs k', fun _ _ i => (a.length - i).toNat, ⟨0, rfl, .zero a k⟩, ?_⟩
  rintro xs k' _ ⟨u, rfl, M⟩
  have hl := M.len
  have hb := M.bd gChange_bd
  by_cases h : u < a.length
  · rw [if_pos (by rw [hl]; simpa using h)]
    have hu' : u < xs.length := by omega
    have hx := M.nth h
    have hm := bulk_mem (nth_mem a h)
    have hc := bulk_change (nth a (u : Int))
    have hb1 := bulk_feat (nth a (u : Int)).Was
    have hb2 := bulk_feat (nth a (u : Int)).Now
    have hp := mkL_bd gPt_bd (nth a (u : Int)).Was.Shape.Pts (k' + 4)
    have ht := mkL_bd gTag_bd (nth a (u : Int)).Was.Tags (mkL gPt (nth a (u : Int)).Was.Shape.Pts (k' + 4)).2
    have hq2 := mkL_bd gPt_bd (nth a (u : Int)).Now.Shape.Pts ((mkL gTag (nth a (u : Int)).Was.Tags (mkL gPt (nth a (u : Int)).Was.Shape.Pts (k' + 4)).2).2 + 3)
    simp only [Int.add_assoc, Int.reduceAdd]
    refine laws_markText.law _ _ (by omega) (by omega) ⟨by omega, ?_⟩
    intro xs3 e3
    rw [hx] at e3
    obtain ⟨n3, l3, s3⟩ := set_facts hu' e3
    try dsimp only at n3
    refine ⟨fun _ => by unfold I64; omega, ⟨by omega, by omega⟩, by omega, ?_⟩
    intro xs4 e4
    try rw [n3] at e4
    try rw [s3] at e4
    try dsimp only at e4
    obtain ⟨n4, l4, s4'⟩ := set_facts hu' e4
    have s4 : ∀ z, xs4.set (Int.toNat (u : Int)) z = xs.set (Int.toNat (u : Int)) z := s4'
    try dsimp only at n4
    refine ⟨fun _ => by unfold I64; omega, laws_markText.law _ _ (by omega) (by omega) ⟨by omega, ?_⟩⟩
    intro xs5 e5
    try rw [n4] at e5
    try rw [s4] at e5
    try dsimp only at e5
    obtain ⟨n5, l5, s5'⟩ := set_facts hu' e5
    have s5 : ∀ z, xs5.set (Int.toNat (u : Int)) z = xs.set (Int.toNat (u : Int)) z := s5'
    try dsimp only at n5
    refine ⟨fun _ => by unfold I64; omega, by omega, ?_⟩
    intro xs6 e6
    try rw [n5] at e6
    try rw [s5] at e6
    try dsimp only at e6
    obtain ⟨n6, l6, s6'⟩ := set_facts hu' e6
    have s6 : ∀ z, xs6.set (Int.toNat (u : Int)) z = xs.set (Int.toNat (u : Int)) z := s6'
    try dsimp only at n6
    refine ⟨fun _ => by unfold I64; omega, by omega, ?_⟩
    rw [n6]
    dsimp only
    refine laws_markPtS.lawk _ _ _ (by omega) (by omega) (by omega) ?_
    intro xs7 e7
    try rw [n6] at e7
    try rw [s6] at e7
    try dsimp only at e7
    obtain ⟨n7, l7, s7'⟩ := set_facts hu' e7
    have s7 : ∀ z, xs7.set (Int.toNat (u : Int)) z = xs.set (Int.toNat (u : Int)) z := s7'
    try dsimp only at n7
    refine ⟨by omega, ?_⟩
    rw [n7]
    dsimp only
    refine laws_markTagS.lawk _ _ _ (by omega) (by omega) (by omega) ?_
    intro xs8 e8
    try rw [n7] at e8
    try rw [s7] at e8
    try dsimp only at e8
    obtain ⟨n8, l8, s8'⟩ := set_facts hu' e8
    have s8 : ∀ z, xs8.set (Int.toNat (u : Int)) z = xs.set (Int.toNat (u : Int)) z := s8'
    try dsimp only at n8
    refine ⟨⟨by omega, by omega⟩, by omega, ?_⟩
    intro xs9 e9
    try rw [n8] at e9
    try rw [s8] at e9
    try dsimp only at e9
    obtain ⟨n9, l9, s9'⟩ := set_facts hu' e9
    have s9 : ∀ z, xs9.set (Int.toNat (u : Int)) z = xs.set (Int.toNat (u : Int)) z := s9'
    try dsimp only at n9
    refine ⟨fun _ => by unfold I64; omega, laws_markText.law _ _ (by omega) (by omega) ⟨by omega, ?_⟩⟩
    intro xs10 e10
    try rw [n9] at e10
    try rw [s9] at e10
    try dsimp only at e10
    obtain ⟨n10, l10, s10'⟩ := set_facts hu' e10
    have s10 : ∀ z, xs10.set (Int.toNat (u : Int)) z = xs.set (Int.toNat (u : Int)) z := s10'
    try dsimp only at n10
    refine ⟨fun _ => by unfold I64; omega, by omega, ?_⟩
    intro xs11 e11
    try rw [n10] at e11
    try rw [s10] at e11
    try dsimp only at e11
    obtain ⟨n11, l11, s11'⟩ := set_facts hu' e11
    have s11 : ∀ z, xs11.set (Int.toNat (u : Int)) z = xs.set (Int.toNat (u : Int)) z := s11'
    try dsimp only at n11
    refine ⟨fun _ => by unfold I64; omega, by omega, ?_⟩
    rw [n11]
    dsimp only
    refine laws_markPtS.lawk _ _ _ (by omega) (by omega) (by omega) ?_
    intro xs12 e12
    try rw [n11] at e12
    try rw [s11] at e12
    try dsimp only at e12
    obtain ⟨n12, l12, s12'⟩ := set_facts hu' e12
    have s12 : ∀ z, xs12.set (Int.toNat (u : Int)) z = xs.set (Int.toNat (u : Int)) z := s12'
    try dsimp only at n12
    refine ⟨by omega, ?_⟩
    rw [n12]
    dsimp only
    refine laws_markTagS.lawk _ _ _ (by omega) (by omega) (by omega) ?_
    intro xs13 e13
    try rw [n12] at e13
    try rw [s12] at e13
    try dsimp only at e13
    obtain ⟨n13, l13, s13'⟩ := set_facts hu' e13
    have s13 : ∀ z, xs13.set (Int.toNat (u : Int)) z = xs.set (Int.toNat (u : Int)) z := s13'
    try dsimp only at n13
    rw [Int.toNat_natCast] at e13
    rw [e13]
    exact ⟨by omega, ⟨u + 1, by omega, M.next h rfl⟩, by first | omega | (dsimp only; omega)⟩
  · rw [if_neg (by rw [hl]; simpa using h)]
    obtain ⟨rfl, rfl⟩ := M.full h
    exact hq
end Go.Proofs.Ytndjggncgpjolaa

namespace Go.Proofs.Ytndjggncgpjolaa
open Go.RowKit
set_option linter.unusedVariables false
def laws_heldPtS.E (a : List Pt) (k : Int) (Q : Int → Prop) : Prop :=
  (∃ (I18 : Int → Int → Prop) (mu19 : Int → Int → Nat), I18 k 0 ∧ ∀ (k3 : Int) (i2 : Int), I18 k3 i2 → (if decide (i2 < (a.length : Int)) then ((0 : Int) ≤ i2 ∧ i2 < (a.length : Int)) ∧ (if ((nth a i2).X) != k3 then Q (-1) else ((a.length : Int) ≤ 9223372036854775807 → I64 (k3 + 1)) ∧ ((0 : Int) ≤ i2 ∧ i2 < (a.length : Int)) ∧ (if ((nth a i2).Y) != (k3 + 1) then Q (-1) else ((a.length : Int) ≤ 9223372036854775807 → I64 (k3 + 1 + 1)) ∧ (-9223372036854775808 ≤ i2) ∧ I18 (k3 + 1 + 1) (i2 + 1) ∧ mu19 (k3 + 1 + 1) (i2 + 1) < mu19 k3 i2)) else Q k3))
set_option maxHeartbeats 8000000 in
set_option maxRecDepth 100000 in
theorem laws_heldPtS.calls {O : Ob} (w0 : World) (hO : Ok w0 O) (a : List Pt) (A1 : Option Addr) (n2 c3 : Nat) (hp4 : Sl kPt w0 (Fr O) (.slice A1 n2 c3) a) (k : Int) (Q : Int → Prop) (h : laws_heldPtS.E a k Q) :
    Ret Try.prog 70 [.slice A1 n2 c3, vi k] w0 (fun v w' => ∃ (r0 : Int), v = vi r0 ∧ Q r0 ∧ Gr w0 w' none) := by
  have H : (∃ (I18 : Int → Int → Prop) (mu19 : Int → Int → Nat), I18 k 0 ∧ ∀ (k3 : Int) (i2 : Int), I18 k3 i2 → (if decide (i2 < (a.length : Int)) then ((0 : Int) ≤ i2 ∧ i2 < (a.length : Int)) ∧ (if ((nth a i2).X) != k3 then Q (-1) else ((a.length : Int) ≤ 9223372036854775807 → I64 (k3 + 1)) ∧ ((0 : Int) ≤ i2 ∧ i2 < (a.length : Int)) ∧ (if ((nth a i2).Y) != (k3 + 1) then Q (-1) else ((a.length : Int) ≤ 9223372036854775807 → I64 (k3 + 1 + 1)) ∧ (-9223372036854775808 ≤ i2) ∧ I18 (k3 + 1 + 1) (i2 + 1) ∧ mu19 (k3 + 1 + 1) (i2 + 1) < mu19 k3 i2)) else Q k3)) := h
  clear h
  have hc0 := Ct.init hO
  refine Ret_enter Try.func70 rfl 31 rfl [.tmp 4] rfl rfl ?_
  refine W_seq ?_
  refine W_reg ?_
  refine L_pu (P_assign (vi 0) rfl) ?_
  refine L_nil ?_
  refine W_seq ?_
  refine W_seq ?_
  refine W_reg ?_
  refine L_pu (P_assign (vi 0) rfl) ?_
  refine L_nil ?_
  refine W_block ?_
  obtain ⟨I18, mu19, hI20, H⟩ := H
  refine W_loop (α := Int × Int) (fun (sv__ : Int × Int) t w14 => match sv__ with | (k3, i2) => I18 k3 i2 ∧ Has t [(0, .slice A1 n2 c3), (1, vi k3), (5, vi i2)] ∧ Ct [] w0 w14 [] O ∧ Sl kPt w14 (Fr ([] ++ O)) (.slice A1 n2 c3) a) (fun (sv__ : Int × Int) => match sv__ with | (k3, i2) => mu19 k3 i2) (k, 0) ⟨hI20, ⟨rfl, rfl, rfl, trivial⟩, hc0, hp4⟩ ?_
  rintro ⟨k3, i2⟩ _ w14 ⟨hI20, hh22, hc16, h17⟩
  obtain ⟨u23, rfl⟩ := Has.ins hh22
  have H := H k3 i2 hI20
  refine W_seq ?_
  refine W_seq ?_
  refine W_reg ?_
  refine L_pu (P_move (vi i2) rfl) ?_
  refine L_pu (P_move (.slice A1 n2 c3) rfl) ?_
  have hl24 := h17.le
  refine L_pu (P_len Try.underlying23 A1 n2 c3 h17.len rfl) ?_
  refine L_pu (P_cmp i2 (a.length : Int) (decide (i2 < (a.length : Int))) rfl rfl rfl) ?_
  refine L_nil ?_
  refine W_cond (decide (i2 < (a.length : Int))) rfl (fun hq25 => ?_) (fun hq25 => ?_)
  · have H := ite_t H hq25
    refine W_skip ?_
    refine W_seq ?_
    refine W_block ?_
    refine W_seq ?_
    refine W_seq ?_
    refine W_reg ?_
    refine L_pu (P_move (.slice A1 n2 c3) rfl) ?_
    refine L_pu (P_move (vi i2) rfl) ?_
    obtain ⟨hb26, H⟩ := H
    obtain ⟨ad27, cs28, hA29, hS32, hR30, hcl31⟩ := h17.get default (by decide) i2 hb26
    obtain rfl := kPt.op hR30
    refine L_pu (P_ia Try.underlying23 se23 A1 ad27 n2 c3 h17.len i2 rfl hA29 rfl hb26) ?_
    refine L_pu (P_fa fa29_0 (ad27.add (i2.toNat * 2)) ((ad27.add (i2.toNat * 2)).add 0) rfl rfl) ?_
    refine L_pu (P_ld ag3 cL ((ad27.add (i2.toNat * 2)).add 0) (vi ((nth a i2).X)) rfl (hcl31 0 _ rfl)) ?_
    refine L_pu (P_move (vi k3) rfl) ?_
    refine L_pu (P_cmp ((nth a i2).X) k3 (((nth a i2).X) != k3) rfl rfl rfl) ?_
    refine L_nil ?_
    refine W_cond (((nth a i2).X) != k3) rfl (fun hq33 => ?_) (fun hq33 => ?_)
    · have H := ite_t H hq33
      refine W_seq ?_
      refine W_reg ?_
      refine L_pu (P_assign (vi (-1)) rfl) ?_
      refine L_nil ?_
      refine W_ret ?_
      exact ⟨[vi (-1)], ⟨_, rfl, rfl⟩, (-1), rfl, H, hc16.gr.g0⟩
    · have H := ite_f H hq33
      refine W_skip ?_
      refine W_seq ?_
      refine W_reg ?_
      refine L_pu (P_move (vi k3) rfl) ?_
      obtain ⟨hb34, H⟩ := H
      have hi35 := hb34 (len_le hl24)
      refine L_pu (P_add k3 1 rfl rfl hi35) ?_
      refine L_pu (P_assign (vi (k3 + 1)) rfl) ?_
      refine L_nil ?_
      refine W_seq ?_
      refine W_seq ?_
      refine W_reg ?_
      refine L_pu (P_move (.slice A1 n2 c3) rfl) ?_
      refine L_pu (P_move (vi i2) rfl) ?_
      obtain ⟨hb36, H⟩ := H
      obtain ⟨ad37, cs38, hA39, hS42, hR40, hcl41⟩ := h17.get default (by decide) i2 hb36
      obtain rfl := kPt.op hR40
      refine L_pu (P_ia Try.underlying23 se23 A1 ad37 n2 c3 h17.len i2 rfl hA39 rfl hb36) ?_
      refine L_pu (P_fa fa29_1 (ad37.add (i2.toNat * 2)) ((ad37.add (i2.toNat * 2)).add 1) rfl rfl) ?_
      refine L_pu (P_ld ag3 cL ((ad37.add (i2.toNat * 2)).add 1) (vi ((nth a i2).Y)) rfl (hcl41 1 _ rfl)) ?_
      refine L_pu (P_move (vi (k3 + 1)) rfl) ?_
      refine L_pu (P_cmp ((nth a i2).Y) (k3 + 1) (((nth a i2).Y) != (k3 + 1)) rfl rfl rfl) ?_
      refine L_nil ?_
      refine W_cond (((nth a i2).Y) != (k3 + 1)) rfl (fun hq43 => ?_) (fun hq43 => ?_)
      · have H := ite_t H hq43
        refine W_seq ?_
        refine W_reg ?_
        refine L_pu (P_assign (vi (-1)) rfl) ?_
        refine L_nil ?_
        refine W_ret ?_
        exact ⟨[vi (-1)], ⟨_, rfl, rfl⟩, (-1), rfl, H, hc16.gr.g0⟩
      · have H := ite_f H hq43
        refine W_skip ?_
        refine W_reg ?_
        refine L_pu (P_move (vi (k3 + 1)) rfl) ?_
        obtain ⟨hb44, H⟩ := H
        have hi45 := hb44 (len_le hl24)
        refine L_pu (P_add (k3 + 1) 1 rfl rfl hi45) ?_
        refine L_pu (P_assign (vi (k3 + 1 + 1)) rfl) ?_
        refine L_nil ?_
        refine W_reg ?_
        refine L_pu (P_move (vi i2) rfl) ?_
        obtain ⟨hb47, H⟩ := H
        have hi46 : I64 (i2 + 1) := i64_succ (of_decide_eq_true hq25) hl24 hb47
        refine L_pu (P_add i2 1 rfl rfl hi46) ?_
        refine L_pu (P_assign (vi (i2 + 1)) rfl) ?_
        refine L_nil ?_
        obtain ⟨hI48, hm49⟩ := H
        exact ⟨(k3 + 1 + 1, i2 + 1), hm49, hI48, ⟨rfl, rfl, rfl, trivial⟩, hc16, h17⟩
  · have H := ite_f H hq25
    refine W_exit (xin_hit ?_)
    refine W_seq ?_
    refine W_reg ?_
    refine L_pu (P_move (vi k3) rfl) ?_
    refine L_pu (P_assign (vi k3) rfl) ?_
    refine L_nil ?_
    refine W_ret ?_
    exact ⟨[vi k3], ⟨_, rfl, rfl⟩, k3, rfl, H, hc16.gr.g0⟩
end Go.Proofs.Ytndjggncgpjolaa

namespace Go.Proofs.Ytndjggncgpjolaa
set_option linter.unusedVariables false
set_option linter.unusedSimpArgs false
set_option linter.unusedSectionVars false
theorem laws_heldPtS.law (n : Nat) (k : Int) (Q : Int → Prop) (ha : n ≤ 1048576) (h0 : 0 ≤ k) (h1 : k ≤ 1000000000) (hq : Q (k + 2 * n)) : laws_heldPtS.E (markedPt n k) k Q := by
  unfold laws_heldPtS.E
  rw [markedPt_len]
  refine ⟨fun k' i => ∃ u : Nat, i = u ∧ u ≤ n ∧ k' = k + 2 * u, fun _ i => (n - i).toNat, ⟨0, rfl, Nat.zero_le _, by omega⟩, ?_⟩
  rintro _ _ ⟨u, rfl, hu, rfl⟩
  by_cases h : (u : Int) < (n : Int)
  · rw [if_pos (by simpa using h), markedPt_nth n k (by omega)]
    refine ⟨by omega, ?_⟩
    rw [if_neg (by simp)]
    refine ⟨fun _ => by unfold I64; omega, by omega, ?_⟩
    rw [if_neg (by simp)]
    exact ⟨fun _ => by unfold I64; omega, by omega, ⟨u + 1, by omega, by omega, by omega⟩, by dsimp only; omega⟩
  · rw [if_neg (by simpa using h)]
    have : u = n := by omega
    subst this
    exact hq
theorem laws_heldPtS.lawk (a : List Pt) (k : Int) (Q : Int → Prop) (ha : bulk a ≤ 1048576) (h0 : 0 ≤ k) (h1 : k ≤ 1000000000) (hq : Q (mkL gPt a k).2) : laws_heldPtS.E (mkL gPt a k).1 k Q := by
  unfold laws_heldPtS.E
  have hbl := bulk_len a
  rw [mkL_len]
  refine ⟨fun k' i => ∃ u : Nat, i = u ∧ Hd gPt a k u k', fun _ i => (a.length - i).toNat, ⟨0, rfl, .zero a k⟩, ?_⟩
  rintro k' _ ⟨u, rfl, M⟩
  have hb := M.bd gPt_bd
  by_cases h : u < a.length
  · rw [if_pos (by simpa using h), M.nth h]
    refine ⟨by omega, ?_⟩
    rw [if_neg (by simp [gPt])]
    refine ⟨fun _ => by unfold I64; omega, by omega, ?_⟩
    rw [if_neg (by simp [gPt])]
    refine ⟨fun _ => by unfold I64; omega, by omega, ⟨u + 1, by omega, ?_⟩, by dsimp only; omega⟩
    have := M.next h
    rw [show k' + 1 + 1 = (gPt (nth a (u : Int)) k').2 by simp [gPt]; omega]; exact this
  · rw [if_neg (by simpa using h), M.full h]; exact hq
end Go.Proofs.Ytndjggncgpjolaa

namespace Go.Proofs.Ytndjggncgpjolaa
open Go.RowKit
set_option linter.unusedVariables false
def laws_heldTagS.E (a : List Tag) (k : Int) (Q : Int → Prop) : Prop :=
  (∃ (I18 : Int → Int → Prop) (mu19 : Int → Int → Nat), I18 k 0 ∧ ∀ (k3 : Int) (i2 : Int), I18 k3 i2 → (if decide (i2 < (a.length : Int)) then ((0 : Int) ≤ i2 ∧ i2 < (a.length : Int)) ∧ (∃ q : Str, laws_markText.E k3 (fun x => x = q) ∧ (Lim q) ∧ (if ((nth a i2).Key) != q then Q (-1) else ((a.length : Int) ≤ 9223372036854775807 → I64 (k3 + 1)) ∧ ((0 : Int) ≤ i2 ∧ i2 < (a.length : Int)) ∧ (∃ q2 : Str, laws_markText.E (k3 + 1) (fun x => x = q2) ∧ (Lim q2) ∧ (if ((nth a i2).Val) != q2 then Q (-1) else ((a.length : Int) ≤ 9223372036854775807 → I64 (k3 + 1 + 1)) ∧ (-9223372036854775808 ≤ i2) ∧ I18 (k3 + 1 + 1) (i2 + 1) ∧ mu19 (k3 + 1 + 1) (i2 + 1) < mu19 k3 i2)))) else Q k3))
set_option maxHeartbeats 8000000 in
set_option maxRecDepth 100000 in
theorem laws_heldTagS.calls {O : Ob} (w0 : World) (hO : Ok w0 O) (a : List Tag) (A1 : Option Addr) (n2 c3 : Nat) (hp4 : Sl kTag w0 (Fr O) (.slice A1 n2 c3) a) (k : Int) (Q : Int → Prop) (h : laws_heldTagS.E a k Q) :
    Ret Try.prog 71 [.slice A1 n2 c3, vi k] w0 (fun v w' => ∃ (r0 : Int), v = vi r0 ∧ Q r0 ∧ Gr w0 w' none) := by
  have H : (∃ (I18 : Int → Int → Prop) (mu19 : Int → Int → Nat), I18 k 0 ∧ ∀ (k3 : Int) (i2 : Int), I18 k3 i2 → (if decide (i2 < (a.length : Int)) then ((0 : Int) ≤ i2 ∧ i2 < (a.length : Int)) ∧ (∃ q : Str, laws_markText.E k3 (fun x => x = q) ∧ (Lim q) ∧ (if ((nth a i2).Key) != q then Q (-1) else ((a.length : Int) ≤ 9223372036854775807 → I64 (k3 + 1)) ∧ ((0 : Int) ≤ i2 ∧ i2 < (a.length : Int)) ∧ (∃ q2 : Str, laws_markText.E (k3 + 1) (fun x => x = q2) ∧ (Lim q2) ∧ (if ((nth a i2).Val) != q2 then Q (-1) else ((a.length : Int) ≤ 9223372036854775807 → I64 (k3 + 1 + 1)) ∧ (-9223372036854775808 ≤ i2) ∧ I18 (k3 + 1 + 1) (i2 + 1) ∧ mu19 (k3 + 1 + 1) (i2 + 1) < mu19 k3 i2)))) else Q k3)) := h
  clear h
  have hc0 := Ct.init hO
  refine Ret_enter Try.func71 rfl 33 rfl [.tmp 4] rfl rfl ?_
  refine W_seq ?_
  refine W_reg ?_
  refine L_pu (P_assign (vi 0) rfl) ?_
  refine L_nil ?_
  refine W_seq ?_
  refine W_seq ?_
  refine W_reg ?_
  refine L_pu (P_assign (vi 0) rfl) ?_
  refine L_nil ?_
  refine W_block ?_
  obtain ⟨I18, mu19, hI20, H⟩ := H
  refine W_loop (α := Int × Int) (fun (sv__ : Int × Int) t w14 => match sv__ with | (k3, i2) => I18 k3 i2 ∧ Has t [(0, .slice A1 n2 c3), (1, vi k3), (5, vi i2)] ∧ Ct [] w0 w14 [] O ∧ Sl kTag w14 (Fr ([] ++ O)) (.slice A1 n2 c3) a) (fun (sv__ : Int × Int) => match sv__ with | (k3, i2) => mu19 k3 i2) (k, 0) ⟨hI20, ⟨rfl, rfl, rfl, trivial⟩, hc0, hp4⟩ ?_
  rintro ⟨k3, i2⟩ _ w14 ⟨hI20, hh22, hc16, h17⟩
  obtain ⟨u23, rfl⟩ := Has.ins hh22
  have H := H k3 i2 hI20
  refine W_seq ?_
  refine W_seq ?_
  refine W_reg ?_
  refine L_pu (P_move (vi i2) rfl) ?_
  refine L_pu (P_move (.slice A1 n2 c3) rfl) ?_
  have hl24 := h17.le
  refine L_pu (P_len Try.underlying69 A1 n2 c3 h17.len rfl) ?_
  refine L_pu (P_cmp i2 (a.length : Int) (decide (i2 < (a.length : Int))) rfl rfl rfl) ?_
  refine L_nil ?_
  refine W_cond (decide (i2 < (a.length : Int))) rfl (fun hq25 => ?_) (fun hq25 => ?_)
  · have H := ite_t H hq25
    refine W_skip ?_
    refine W_seq ?_
    refine W_block ?_
    refine W_seq ?_
    refine W_seq ?_
    refine W_draw (fun x => Gr w14 x none) (by kernel_rfl) (by kernel_rfl) (Gr.drew _) ?_
    refine Q_pu (P_move (.slice A1 n2 c3) rfl) ?_
    refine Q_pu (P_move (vi i2) rfl) ?_
    obtain ⟨hb26, H⟩ := H
    obtain ⟨ad27, cs28, hA29, hS32, hR30, hcl31⟩ := h17.get default (by decide) i2 hb26
    obtain ⟨rfl, hs33, hs34⟩ := kTag.op hR30
    refine Q_pu (P_ia Try.underlying69 se69 A1 ad27 n2 c3 h17.len i2 rfl hA29 rfl hb26) ?_
    refine Q_pu (P_fa fa133_0 (ad27.add (i2.toNat * 2)) ((ad27.add (i2.toNat * 2)).add 0) rfl rfl) ?_
    refine Q_pu (P_ld ag9 cQ ((ad27.add (i2.toNat * 2)).add 0) (vs ((nth a i2).Key)) rfl (hcl31 0 _ rfl)) ?_
    refine Q_pu (P_move (vi k3) rfl) ?_
    obtain ⟨q, hE41, hs42, H⟩ := H
    refine Q_call go67 [vi k3] rfl (vs q) (fun w g => (laws_markText.calls w (hc16.k0 g).ok k3 _ hE41).mono ?_) ?_
    · rintro _ w ⟨r, rfl, rfl, g2, _⟩
      exact ⟨rfl, Gr.t0 g g2⟩
    refine Q_pu (P_scmp ((nth a i2).Key) q (((nth a i2).Key) != q) rfl rfl rfl) ?_
    refine Q_nil fun w43 g44 => ?_
    have hc46 := hc16.k0 g44
    refine W_cond (((nth a i2).Key) != q) rfl (fun hq47 => ?_) (fun hq47 => ?_)
    · have H := ite_t H hq47
      refine W_seq ?_
      refine W_reg ?_
      refine L_pu (P_assign (vi (-1)) rfl) ?_
      refine L_nil ?_
      refine W_ret ?_
      exact ⟨[vi (-1)], ⟨_, rfl, rfl⟩, (-1), rfl, H, hc46.gr.g0⟩
    · have H := ite_f H hq47
      refine W_skip ?_
      refine W_seq ?_
      refine W_reg ?_
      refine L_pu (P_move (vi k3) rfl) ?_
      obtain ⟨hb48, H⟩ := H
      have hi49 := hb48 (len_le hl24)
      refine L_pu (P_add k3 1 rfl rfl hi49) ?_
      refine L_pu (P_assign (vi (k3 + 1)) rfl) ?_
      refine L_nil ?_
      refine W_seq ?_
      refine W_seq ?_
      refine W_draw (fun x => Gr w43 x none) (by kernel_rfl) (by kernel_rfl) (Gr.drew _) ?_
      refine Q_pu (P_move (.slice A1 n2 c3) rfl) ?_
      refine Q_pu (P_move (vi i2) rfl) ?_
      obtain ⟨hb50, H⟩ := H
      obtain ⟨ad51, cs52, hA53, hS56, hR54, hcl55⟩ := (h17.st (.new _ g44)).get default (by decide) i2 hb50
      obtain ⟨rfl, hs57, hs58⟩ := kTag.op hR54
      refine Q_pu (P_ia Try.underlying69 se69 A1 ad51 n2 c3 (h17.st (.new _ g44)).len i2 rfl hA53 rfl hb50) ?_
      refine Q_pu (P_fa fa133_1 (ad51.add (i2.toNat * 2)) ((ad51.add (i2.toNat * 2)).add 1) rfl rfl) ?_
      refine Q_pu (P_ld ag9 cQ ((ad51.add (i2.toNat * 2)).add 1) (vs ((nth a i2).Val)) rfl (hcl55 1 _ rfl)) ?_
      refine Q_pu (P_move (vi (k3 + 1)) rfl) ?_
      obtain ⟨q2, hE65, hs66, H⟩ := H
      refine Q_call go67 [vi (k3 + 1)] rfl (vs q2) (fun w g => (laws_markText.calls w (hc46.k0 g).ok (k3 + 1) _ hE65).mono ?_) ?_
      · rintro _ w ⟨r, rfl, rfl, g2, _⟩
        exact ⟨rfl, Gr.t0 g g2⟩
      refine Q_pu (P_scmp ((nth a i2).Val) q2 (((nth a i2).Val) != q2) rfl rfl rfl) ?_
      refine Q_nil fun w67 g68 => ?_
      have hc70 := hc46.k0 g68
      refine W_cond (((nth a i2).Val) != q2) rfl (fun hq71 => ?_) (fun hq71 => ?_)
      · have H := ite_t H hq71
        refine W_seq ?_
        refine W_reg ?_
        refine L_pu (P_assign (vi (-1)) rfl) ?_
        refine L_nil ?_
        refine W_ret ?_
        exact ⟨[vi (-1)], ⟨_, rfl, rfl⟩, (-1), rfl, H, hc70.gr.g0⟩
      · have H := ite_f H hq71
        refine W_skip ?_
        refine W_reg ?_
        refine L_pu (P_move (vi (k3 + 1)) rfl) ?_
        obtain ⟨hb72, H⟩ := H
        have hi73 := hb72 (len_le hl24)
        refine L_pu (P_add (k3 + 1) 1 rfl rfl hi73) ?_
        refine L_pu (P_assign (vi (k3 + 1 + 1)) rfl) ?_
        refine L_nil ?_
        refine W_reg ?_
        refine L_pu (P_move (vi i2) rfl) ?_
        obtain ⟨hb75, H⟩ := H
        have hi74 : I64 (i2 + 1) := i64_succ (of_decide_eq_true hq25) hl24 hb75
        refine L_pu (P_add i2 1 rfl rfl hi74) ?_
        refine L_pu (P_assign (vi (i2 + 1)) rfl) ?_
        refine L_nil ?_
        obtain ⟨hI76, hm77⟩ := H
        have h78 := ((h17.st (.new _ g44)).st (.new _ g68))
        exact ⟨(k3 + 1 + 1, i2 + 1), hm77, hI76, ⟨rfl, rfl, rfl, trivial⟩, hc70, h78⟩
  · have H := ite_f H hq25
    refine W_exit (xin_hit ?_)
    refine W_seq ?_
    refine W_reg ?_
    refine L_pu (P_move (vi k3) rfl) ?_
    refine L_pu (P_assign (vi k3) rfl) ?_
    refine L_nil ?_
    refine W_ret ?_
    exact ⟨[vi k3], ⟨_, rfl, rfl⟩, k3, rfl, H, hc16.gr.g0⟩
end Go.Proofs.Ytndjggncgpjolaa

namespace Go.Proofs.Ytndjggncgpjolaa
set_option linter.unusedVariables false
set_option linter.unusedSimpArgs false
set_option linter.unusedSectionVars false
theorem laws_heldTagS.lawk (a : List Tag) (k : Int) (Q : Int → Prop) (ha : bulk a ≤ 1048576) (h0 : 0 ≤ k) (h1 : k ≤ 1000000000) (hq : Q (mkL gTag a k).2) : laws_heldTagS.E (mkL gTag a k).1 k Q := by
  unfold laws_heldTagS.E
  have hbl := bulk_len a
  rw [mkL_len]
  refine ⟨fun k' i => ∃ u : Nat, i = u ∧ Hd gTag a k u k', fun _ i => (a.length - i).toNat, ⟨0, rfl, .zero a k⟩, ?_⟩
  rintro k' _ ⟨u, rfl, M⟩
  have hb := M.bd gTag_bd
  by_cases h : u < a.length
  · rw [if_pos (by simpa using h), M.nth h]
    have hm := bulk_mem (nth_mem a h)
    have hn := M.next h
    refine ⟨by omega, tx k', laws_markText.q _ (by omega) (by omega), tx_lim _ (by omega) (by omega), ?_⟩
    rw [if_neg (by simp [gTag])]
    refine ⟨fun _ => by unfold I64; omega, by omega, tx (k' + 1), laws_markText.q _ (by omega) (by omega), tx_lim _ (by omega) (by omega), ?_⟩
    rw [if_neg (by simp [gTag])]
    refine ⟨fun _ => by unfold I64; omega, by omega, ⟨u + 1, by omega, ?_⟩, by dsimp only; omega⟩
    rw [show k' + 1 + 1 = (gTag (nth a (u : Int)) k').2 by simp [gTag]; omega]; exact hn
  · rw [if_neg (by simpa using h), M.full h]; exact hq
end Go.Proofs.Ytndjggncgpjolaa

namespace Go.Proofs.Ytndjggncgpjolaa
open Go.RowKit
set_option linter.unusedVariables false
def laws_heldChangeS.E (a : List Change) (k : Int) (Q : Int → Prop) : Prop :=
  (∃ (I18 : Int → Int → Prop) (mu19 : Int → Int → Nat), I18 k 0 ∧ ∀ (k3 : Int) (i2 : Int), I18 k3 i2 → (if decide (i2 < (a.length : Int)) then ((0 : Int) ≤ i2 ∧ i2 < (a.length : Int)) ∧ (∃ q : Str, laws_markText.E k3 (fun x => x = q) ∧ (Lim q) ∧ (if ((nth a i2).Id) != q then Q (-1) else ((a.length : Int) ≤ 9223372036854775807 → I64 (k3 + 1)) ∧ ((0 : Int) ≤ i2 ∧ i2 < (a.length : Int)) ∧ ((0 : Int) ≤ k3 + 1 ∧ (0 : Int) < 3) ∧ (if ((nth a i2).Had) != (((k3 + 1) % 3) == 0) then Q (-1) else ((a.length : Int) ≤ 9223372036854775807 → I64 (k3 + 1 + 1)) ∧ ((0 : Int) ≤ i2 ∧ i2 < (a.length : Int)) ∧ (∃ q2 : Str, laws_markText.E (k3 + 1 + 1) (fun x => x = q2) ∧ (Lim q2) ∧ (if ((nth a i2).Was.Id) != q2 then Q (-1) else ((a.length : Int) ≤ 9223372036854775807 → I64 (k3 + 1 + 1 + 1)) ∧ ((0 : Int) ≤ i2 ∧ i2 < (a.length : Int)) ∧ (if ((nth a i2).Was.Shape.Kind) != (k3 + 1 + 1 + 1) then Q (-1) else ((a.length : Int) ≤ 9223372036854775807 → I64 (k3 + 1 + 1 + 1 + 1)) ∧ ((0 : Int) ≤ i2 ∧ i2 < (a.length : Int)) ∧ laws_heldPtS.E ((nth a i2).Was.Shape.Pts) (k3 + 1 + 1 + 1 + 1) (fun r3 => (if decide (r3 < 0) then Q (-1) else ((0 : Int) ≤ i2 ∧ i2 < (a.length : Int)) ∧ laws_heldTagS.E ((nth a i2).Was.Tags) r3 (fun r4 => (if decide (r4 < 0) then Q (-1) else ((0 : Int) ≤ i2 ∧ i2 < (a.length : Int)) ∧ ((0 : Int) ≤ r4 ∧ (0 : Int) < 3) ∧ (if ((nth a i2).Has) != ((r4 % 3) == 0) then Q (-1) else ((a.length : Int) ≤ 9223372036854775807 → I64 (r4 + 1)) ∧ ((0 : Int) ≤ i2 ∧ i2 < (a.length : Int)) ∧ (∃ q3 : Str, laws_markText.E (r4 + 1) (fun x => x = q3) ∧ (Lim q3) ∧ (if ((nth a i2).Now.Id) != q3 then Q (-1) else ((a.length : Int) ≤ 9223372036854775807 → I64 (r4 + 1 + 1)) ∧ ((0 : Int) ≤ i2 ∧ i2 < (a.length : Int)) ∧ (if ((nth a i2).Now.Shape.Kind) != (r4 + 1 + 1) then Q (-1) else ((a.length : Int) ≤ 9223372036854775807 → I64 (r4 + 1 + 1 + 1)) ∧ ((0 : Int) ≤ i2 ∧ i2 < (a.length : Int)) ∧ laws_heldPtS.E ((nth a i2).Now.Shape.Pts) (r4 + 1 + 1 + 1) (fun r6 => (if decide (r6 < 0) then Q (-1) else ((0 : Int) ≤ i2 ∧ i2 < (a.length : Int)) ∧ laws_heldTagS.E ((nth a i2).Now.Tags) r6 (fun r7 => (if decide (r7 < 0) then Q (-1) else (-9223372036854775808 ≤ i2) ∧ I18 r7 (i2 + 1) ∧ mu19 r7 (i2 + 1) < mu19 k3 i2)))))))))))))))))) else Q k3))
set_option maxHeartbeats 8000000 in
set_option maxRecDepth 100000 in
theorem laws_heldChangeS.calls {O : Ob} (w0 : World) (hO : Ok w0 O) (a : List Change) (A1 : Option Addr) (n2 c3 : Nat) (hp4 : Sl kChange w0 (Fr O) (.slice A1 n2 c3) a) (k : Int) (Q : Int → Prop) (h : laws_heldChangeS.E a k Q) :
    Ret Try.prog 24 [.slice A1 n2 c3, vi k] w0 (fun v w' => ∃ (r0 : Int), v = vi r0 ∧ Q r0 ∧ Gr w0 w' none) := by
  have H : (∃ (I18 : Int → Int → Prop) (mu19 : Int → Int → Nat), I18 k 0 ∧ ∀ (k3 : Int) (i2 : Int), I18 k3 i2 → (if decide (i2 < (a.length : Int)) then ((0 : Int) ≤ i2 ∧ i2 < (a.length : Int)) ∧ (∃ q : Str, laws_markText.E k3 (fun x => x = q) ∧ (Lim q) ∧ (if ((nth a i2).Id) != q then Q (-1) else ((a.length : Int) ≤ 9223372036854775807 → I64 (k3 + 1)) ∧ ((0 : Int) ≤ i2 ∧ i2 < (a.length : Int)) ∧ ((0 : Int) ≤ k3 + 1 ∧ (0 : Int) < 3) ∧ (if ((nth a i2).Had) != (((k3 + 1) % 3) == 0) then Q (-1) else ((a.length : Int) ≤ 9223372036854775807 → I64 (k3 + 1 + 1)) ∧ ((0 : Int) ≤ i2 ∧ i2 < (a.length : Int)) ∧ (∃ q2 : Str, laws_markText.E (k3 + 1 + 1) (fun x => x = q2) ∧ (Lim q2) ∧ (if ((nth a i2).Was.Id) != q2 then Q (-1) else ((a.length : Int) ≤ 9223372036854775807 → I64 (k3 + 1 + 1 + 1)) ∧ ((0 : Int) ≤ i2 ∧ i2 < (a.length : Int)) ∧ (if ((nth a i2).Was.Shape.Kind) != (k3 + 1 + 1 + 1) then Q (-1) else ((a.length : Int) ≤ 9223372036854775807 → I64 (k3 + 1 + 1 + 1 + 1)) ∧ ((0 : Int) ≤ i2 ∧ i2 < (a.length : Int)) ∧ laws_heldPtS.E ((nth a i2).Was.Shape.Pts) (k3 + 1 + 1 + 1 + 1) (fun r3 => (if decide (r3 < 0) then Q (-1) else ((0 : Int) ≤ i2 ∧ i2 < (a.length : Int)) ∧ laws_heldTagS.E ((nth a i2).Was.Tags) r3 (fun r4 => (if decide (r4 < 0) then Q (-1) else ((0 : Int) ≤ i2 ∧ i2 < (a.length : Int)) ∧ ((0 : Int) ≤ r4 ∧ (0 : Int) < 3) ∧ (if ((nth a i2).Has) != ((r4 % 3) == 0) then Q (-1) else ((a.length : Int) ≤ 9223372036854775807 → I64 (r4 + 1)) ∧ ((0 : Int) ≤ i2 ∧ i2 < (a.length : Int)) ∧ (∃ q3 : Str, laws_markText.E (r4 + 1) (fun x => x = q3) ∧ (Lim q3) ∧ (if ((nth a i2).Now.Id) != q3 then Q (-1) else ((a.length : Int) ≤ 9223372036854775807 → I64 (r4 + 1 + 1)) ∧ ((0 : Int) ≤ i2 ∧ i2 < (a.length : Int)) ∧ (if ((nth a i2).Now.Shape.Kind) != (r4 + 1 + 1) then Q (-1) else ((a.length : Int) ≤ 9223372036854775807 → I64 (r4 + 1 + 1 + 1)) ∧ ((0 : Int) ≤ i2 ∧ i2 < (a.length : Int)) ∧ laws_heldPtS.E ((nth a i2).Now.Shape.Pts) (r4 + 1 + 1 + 1) (fun r6 => (if decide (r6 < 0) then Q (-1) else ((0 : Int) ≤ i2 ∧ i2 < (a.length : Int)) ∧ laws_heldTagS.E ((nth a i2).Now.Tags) r6 (fun r7 => (if decide (r7 < 0) then Q (-1) else (-9223372036854775808 ≤ i2) ∧ I18 r7 (i2 + 1) ∧ mu19 r7 (i2 + 1) < mu19 k3 i2)))))))))))))))))) else Q k3)) := h
  clear h
  have hc0 := Ct.init hO
  refine Ret_enter Try.func24 rfl 131 rfl [.tmp 4] rfl rfl ?_
  refine W_seq ?_
  refine W_reg ?_
  refine L_pu (P_assign (vi 0) rfl) ?_
  refine L_nil ?_
  refine W_seq ?_
  refine W_seq ?_
  refine W_reg ?_
  refine L_pu (P_assign (vi 0) rfl) ?_
  refine L_nil ?_
  refine W_block ?_
  obtain ⟨I18, mu19, hI20, H⟩ := H
  refine W_loop (α := Int × Int) (fun (sv__ : Int × Int) t w14 => match sv__ with | (k3, i2) => I18 k3 i2 ∧ Has t [(0, .slice A1 n2 c3), (1, vi k3), (5, vi i2)] ∧ Ct [] w0 w14 [] O ∧ Sl kChange w14 (Fr ([] ++ O)) (.slice A1 n2 c3) a) (fun (sv__ : Int × Int) => match sv__ with | (k3, i2) => mu19 k3 i2) (k, 0) ⟨hI20, ⟨rfl, rfl, rfl, trivial⟩, hc0, hp4⟩ ?_
  rintro ⟨k3, i2⟩ _ w14 ⟨hI20, hh22, hc16, h17⟩
  obtain ⟨u23, rfl⟩ := Has.ins hh22
  have H := H k3 i2 hI20
  refine W_seq ?_
  refine W_seq ?_
  refine W_reg ?_
  refine L_pu (P_move (vi i2) rfl) ?_
  refine L_pu (P_move (.slice A1 n2 c3) rfl) ?_
  have hl24 := h17.le
  refine L_pu (P_len Try.underlying43 A1 n2 c3 h17.len rfl) ?_
  refine L_pu (P_cmp i2 (a.length : Int) (decide (i2 < (a.length : Int))) rfl rfl rfl) ?_
  refine L_nil ?_
  refine W_cond (decide (i2 < (a.length : Int))) rfl (fun hq25 => ?_) (fun hq25 => ?_)
  · have H := ite_t H hq25
    refine W_skip ?_
    refine W_seq ?_
    refine W_block ?_
    refine W_seq ?_
    refine W_seq ?_
    refine W_draw (fun x => Gr w14 x none) (by kernel_rfl) (by kernel_rfl) (Gr.drew _) ?_
    refine Q_pu (P_move (.slice A1 n2 c3) rfl) ?_
    refine Q_pu (P_move (vi i2) rfl) ?_
    obtain ⟨hb26, H⟩ := H
    obtain ⟨ad27, cs28, hA29, hS32, hR30, hcl31⟩ := h17.get default (by decide) i2 hb26
    obtain ⟨A35, n36, c37, A40, n41, c42, A46, n47, c48, A51, n52, c53, rfl, hs33, hs34, h38, h43, hs45, h49, h54⟩ := kChange.op hR30
    refine Q_pu (P_ia Try.underlying43 se43 A1 ad27 n2 c3 h17.len i2 rfl hA29 rfl hb26) ?_
    refine Q_pu (P_fa fa103_0 (ad27.add (i2.toNat * 11)) ((ad27.add (i2.toNat * 11)).add 0) rfl rfl) ?_
    refine Q_pu (P_ld ag9 cQ ((ad27.add (i2.toNat * 11)).add 0) (vs ((nth a i2).Id)) rfl (hcl31 0 _ rfl)) ?_
    refine Q_pu (P_move (vi k3) rfl) ?_
    obtain ⟨q, hE62, hs63, H⟩ := H
    refine Q_call go67 [vi k3] rfl (vs q) (fun w g => (laws_markText.calls w (hc16.k0 g).ok k3 _ hE62).mono ?_) ?_
    · rintro _ w ⟨r, rfl, rfl, g2, _⟩
      exact ⟨rfl, Gr.t0 g g2⟩
    refine Q_pu (P_scmp ((nth a i2).Id) q (((nth a i2).Id) != q) rfl rfl rfl) ?_
    refine Q_nil fun w64 g65 => ?_
    have hc67 := hc16.k0 g65
    refine W_cond (((nth a i2).Id) != q) rfl (fun hq68 => ?_) (fun hq68 => ?_)
    · have H := ite_t H hq68
      refine W_seq ?_
      refine W_reg ?_
      refine L_pu (P_assign (vi (-1)) rfl) ?_
      refine L_nil ?_
      refine W_ret ?_
      exact ⟨[vi (-1)], ⟨_, rfl, rfl⟩, (-1), rfl, H, hc67.gr.g0⟩
    · have H := ite_f H hq68
      refine W_skip ?_
      refine W_seq ?_
      refine W_reg ?_
      refine L_pu (P_move (vi k3) rfl) ?_
      obtain ⟨hb69, H⟩ := H
      have hi70 := hb69 (len_le hl24)
      refine L_pu (P_add k3 1 rfl rfl hi70) ?_
      refine L_pu (P_assign (vi (k3 + 1)) rfl) ?_
      refine L_nil ?_
      refine W_seq ?_
      refine W_seq ?_
      refine W_reg ?_
      refine L_pu (P_move (.slice A1 n2 c3) rfl) ?_
      refine L_pu (P_move (vi i2) rfl) ?_
      obtain ⟨hb71, H⟩ := H
      obtain ⟨ad72, cs73, hA74, hS77, hR75, hcl76⟩ := (h17.st (.new _ g65)).get default (by decide) i2 hb71
      obtain ⟨A80, n81, c82, A85, n86, c87, A91, n92, c93, A96, n97, c98, rfl, hs78, hs79, h83, h88, hs90, h94, h99⟩ := kChange.op hR75
      refine L_pu (P_ia Try.underlying43 se43 A1 ad72 n2 c3 (h17.st (.new _ g65)).len i2 rfl hA74 rfl hb71) ?_
      refine L_pu (P_fa fa103_1 (ad72.add (i2.toNat * 11)) ((ad72.add (i2.toNat * 11)).add 1) rfl rfl) ?_
      refine L_pu (P_ld ag4 cL ((ad72.add (i2.toNat * 11)).add 1) (vb ((nth a i2).Had)) rfl (hcl76 1 _ rfl)) ?_
      refine L_pu (P_move (vi (k3 + 1)) rfl) ?_
      obtain ⟨hb101, H⟩ := H
      refine L_pu (P_rem (k3 + 1) 3 rfl rfl hb101) ?_
      refine L_pu (P_cmp ((k3 + 1) % 3) 0 (((k3 + 1) % 3) == 0) rfl rfl rfl) ?_
      refine L_pu (P_bcmp Try.underlying4 ((nth a i2).Had) (((k3 + 1) % 3) == 0) (((nth a i2).Had) != (((k3 + 1) % 3) == 0)) rfl rfl rfl) ?_
      refine L_nil ?_
      refine W_cond (((nth a i2).Had) != (((k3 + 1) % 3) == 0)) rfl (fun hq102 => ?_) (fun hq102 => ?_)
      · have H := ite_t H hq102
        refine W_seq ?_
        refine W_reg ?_
        refine L_pu (P_assign (vi (-1)) rfl) ?_
        refine L_nil ?_
        refine W_ret ?_
        exact ⟨[vi (-1)], ⟨_, rfl, rfl⟩, (-1), rfl, H, hc67.gr.g0⟩
      · have H := ite_f H hq102
        refine W_skip ?_
        refine W_seq ?_
        refine W_reg ?_
        refine L_pu (P_move (vi (k3 + 1)) rfl) ?_
        obtain ⟨hb103, H⟩ := H
        have hi104 := hb103 (len_le hl24)
        refine L_pu (P_add (k3 + 1) 1 rfl rfl hi104) ?_
        refine L_pu (P_assign (vi (k3 + 1 + 1)) rfl) ?_
        refine L_nil ?_
        refine W_seq ?_
        refine W_seq ?_
        refine W_draw (fun x => Gr w64 x none) (by kernel_rfl) (by kernel_rfl) (Gr.drew _) ?_
        refine Q_pu (P_move (.slice A1 n2 c3) rfl) ?_
        refine Q_pu (P_move (vi i2) rfl) ?_
        obtain ⟨hb105, H⟩ := H
        obtain ⟨ad106, cs107, hA108, hS111, hR109, hcl110⟩ := (h17.st (.new _ g65)).get default (by decide) i2 hb105
        obtain ⟨A114, n115, c116, A119, n120, c121, A125, n126, c127, A130, n131, c132, rfl, hs112, hs113, h117, h122, hs124, h128, h133⟩ := kChange.op hR109
        refine Q_pu (P_ia Try.underlying43 se43 A1 ad106 n2 c3 (h17.st (.new _ g65)).len i2 rfl hA108 rfl hb105) ?_
        refine Q_pu (P_fa fa103_2 (ad106.add (i2.toNat * 11)) ((ad106.add (i2.toNat * 11)).add 2) rfl rfl) ?_
        refine Q_pu (P_fa fa71_0 ((ad106.add (i2.toNat * 11)).add 2) (((ad106.add (i2.toNat * 11)).add 2).add 0) rfl rfl) ?_
        refine Q_pu (P_ld ag9 cQ (((ad106.add (i2.toNat * 11)).add 2).add 0) (vs ((nth a i2).Was.Id)) rfl ((congrArg w64.cell? (add_add _ _ _)).trans (hcl110 2 _ rfl))) ?_
        refine Q_pu (P_move (vi (k3 + 1 + 1)) rfl) ?_
        obtain ⟨q2, hE141, hs142, H⟩ := H
        refine Q_call go67 [vi (k3 + 1 + 1)] rfl (vs q2) (fun w g => (laws_markText.calls w (hc67.k0 g).ok (k3 + 1 + 1) _ hE141).mono ?_) ?_
        · rintro _ w ⟨r, rfl, rfl, g2, _⟩
          exact ⟨rfl, Gr.t0 g g2⟩
        refine Q_pu (P_scmp ((nth a i2).Was.Id) q2 (((nth a i2).Was.Id) != q2) rfl rfl rfl) ?_
        refine Q_nil fun w143 g144 => ?_
        have hc146 := hc67.k0 g144
        refine W_cond (((nth a i2).Was.Id) != q2) rfl (fun hq147 => ?_) (fun hq147 => ?_)
        · have H := ite_t H hq147
          refine W_seq ?_
          refine W_reg ?_
          refine L_pu (P_assign (vi (-1)) rfl) ?_
          refine L_nil ?_
          refine W_ret ?_
          exact ⟨[vi (-1)], ⟨_, rfl, rfl⟩, (-1), rfl, H, hc146.gr.g0⟩
        · have H := ite_f H hq147
          refine W_skip ?_
          refine W_seq ?_
          refine W_reg ?_
          refine L_pu (P_move (vi (k3 + 1 + 1)) rfl) ?_
          obtain ⟨hb148, H⟩ := H
          have hi149 := hb148 (len_le hl24)
          refine L_pu (P_add (k3 + 1 + 1) 1 rfl rfl hi149) ?_
          refine L_pu (P_assign (vi (k3 + 1 + 1 + 1)) rfl) ?_
          refine L_nil ?_
          refine W_seq ?_
          refine W_seq ?_
          refine W_reg ?_
          refine L_pu (P_move (.slice A1 n2 c3) rfl) ?_
          refine L_pu (P_move (vi i2) rfl) ?_
          obtain ⟨hb150, H⟩ := H
          have h157 := ((h17.st (.new _ g65)).st (.new _ g144))
          obtain ⟨ad151, cs152, hA153, hS156, hR154, hcl155⟩ := h157.get default (by decide) i2 hb150
          obtain ⟨A160, n161, c162, A165, n166, c167, A171, n172, c173, A176, n177, c178, rfl, hs158, hs159, h163, h168, hs170, h174, h179⟩ := kChange.op hR154
          refine L_pu (P_ia Try.underlying43 se43 A1 ad151 n2 c3 h157.len i2 rfl hA153 rfl hb150) ?_
          refine L_pu (P_fa fa103_2 (ad151.add (i2.toNat * 11)) ((ad151.add (i2.toNat * 11)).add 2) rfl rfl) ?_
          refine L_pu (P_fa fa71_1 ((ad151.add (i2.toNat * 11)).add 2) (((ad151.add (i2.toNat * 11)).add 2).add 1) rfl rfl) ?_
          refine L_pu (P_fa fa68_0 (((ad151.add (i2.toNat * 11)).add 2).add 1) ((((ad151.add (i2.toNat * 11)).add 2).add 1).add 0) rfl rfl) ?_
          refine L_pu (P_ld ag3 cL ((((ad151.add (i2.toNat * 11)).add 2).add 1).add 0) (vi ((nth a i2).Was.Shape.Kind)) rfl ((congrArg w143.cell? (add_add _ _ _)).trans (hcl155 3 _ rfl))) ?_
          refine L_pu (P_move (vi (k3 + 1 + 1 + 1)) rfl) ?_
          refine L_pu (P_cmp ((nth a i2).Was.Shape.Kind) (k3 + 1 + 1 + 1) (((nth a i2).Was.Shape.Kind) != (k3 + 1 + 1 + 1)) rfl rfl rfl) ?_
          refine L_nil ?_
          refine W_cond (((nth a i2).Was.Shape.Kind) != (k3 + 1 + 1 + 1)) rfl (fun hq181 => ?_) (fun hq181 => ?_)
          · have H := ite_t H hq181
            refine W_seq ?_
            refine W_reg ?_
            refine L_pu (P_assign (vi (-1)) rfl) ?_
            refine L_nil ?_
            refine W_ret ?_
            exact ⟨[vi (-1)], ⟨_, rfl, rfl⟩, (-1), rfl, H, hc146.gr.g0⟩
          · have H := ite_f H hq181
            refine W_skip ?_
            refine W_seq ?_
            refine W_reg ?_
            refine L_pu (P_move (vi (k3 + 1 + 1 + 1)) rfl) ?_
            obtain ⟨hb182, H⟩ := H
            have hi183 := hb182 (len_le hl24)
            refine L_pu (P_add (k3 + 1 + 1 + 1) 1 rfl rfl hi183) ?_
            refine L_pu (P_assign (vi (k3 + 1 + 1 + 1 + 1)) rfl) ?_
            refine L_nil ?_
            refine W_seq ?_
            refine W_reg ?_
            refine L_pu (P_move (.slice A1 n2 c3) rfl) ?_
            refine L_pu (P_move (vi i2) rfl) ?_
            obtain ⟨hb184, H⟩ := H
            obtain ⟨ad185, cs186, hA187, hS190, hR188, hcl189⟩ := h157.get default (by decide) i2 hb184
            obtain ⟨A193, n194, c195, A198, n199, c200, A204, n205, c206, A209, n210, c211, rfl, hs191, hs192, h196, h201, hs203, h207, h212⟩ := kChange.op hR188
            refine L_pu (P_ia Try.underlying43 se43 A1 ad185 n2 c3 h157.len i2 rfl hA187 rfl hb184) ?_
            refine L_pu (P_fa fa103_2 (ad185.add (i2.toNat * 11)) ((ad185.add (i2.toNat * 11)).add 2) rfl rfl) ?_
            refine L_pu (P_fa fa71_1 ((ad185.add (i2.toNat * 11)).add 2) (((ad185.add (i2.toNat * 11)).add 2).add 1) rfl rfl) ?_
            refine L_pu (P_fa fa68_1 (((ad185.add (i2.toNat * 11)).add 2).add 1) ((((ad185.add (i2.toNat * 11)).add 2).add 1).add 1) rfl rfl) ?_
            refine L_pu (P_ld ag23 cL ((((ad185.add (i2.toNat * 11)).add 2).add 1).add 1) (.slice A193 n194 c195) rfl ((congrArg w143.cell? (add_add _ _ _)).trans (hcl189 4 _ rfl))) ?_
            refine L_pu (P_move (vi (k3 + 1 + 1 + 1 + 1)) rfl) ?_
            refine L_call go70 [.slice A193 n194 c195, vi (k3 + 1 + 1 + 1 + 1)] rfl ((laws_heldPtS.calls w143 hc146.ok ((nth a i2).Was.Shape.Pts) A193 n194 c195 h196 (k3 + 1 + 1 + 1 + 1) _ H).mono ?_)
            rintro _ w214 ⟨r3, rfl, H, g215⟩
            have hc219 := hc146.k0 g215
            refine L_pu (P_assign (vi r3) rfl) ?_
            refine L_nil ?_
            refine W_seq ?_
            refine W_seq ?_
            refine W_reg ?_
            refine L_pu (P_move (vi r3) rfl) ?_
            refine L_pu (P_cmp r3 0 (decide (r3 < 0)) rfl rfl rfl) ?_
            refine L_nil ?_
            refine W_cond (decide (r3 < 0)) rfl (fun hq220 => ?_) (fun hq220 => ?_)
            · have H := ite_t H hq220
              refine W_seq ?_
              refine W_reg ?_
              refine L_pu (P_assign (vi (-1)) rfl) ?_
              refine L_nil ?_
              refine W_ret ?_
              exact ⟨[vi (-1)], ⟨_, rfl, rfl⟩, (-1), rfl, H, hc219.gr.g0⟩
            · have H := ite_f H hq220
              refine W_skip ?_
              refine W_seq ?_
              refine W_reg ?_
              refine L_pu (P_move (.slice A1 n2 c3) rfl) ?_
              refine L_pu (P_move (vi i2) rfl) ?_
              obtain ⟨hb221, H⟩ := H
              obtain ⟨ad222, cs223, hA224, hS227, hR225, hcl226⟩ := (h157.st (.new _ g215)).get default (by decide) i2 hb221
              obtain ⟨A230, n231, c232, A235, n236, c237, A241, n242, c243, A246, n247, c248, rfl, hs228, hs229, h233, h238, hs240, h244, h249⟩ := kChange.op hR225
              refine L_pu (P_ia Try.underlying43 se43 A1 ad222 n2 c3 (h157.st (.new _ g215)).len i2 rfl hA224 rfl hb221) ?_
              refine L_pu (P_fa fa103_2 (ad222.add (i2.toNat * 11)) ((ad222.add (i2.toNat * 11)).add 2) rfl rfl) ?_
              refine L_pu (P_fa fa71_2 ((ad222.add (i2.toNat * 11)).add 2) (((ad222.add (i2.toNat * 11)).add 2).add 3) rfl rfl) ?_
              refine L_pu (P_ld ag69 cL (((ad222.add (i2.toNat * 11)).add 2).add 3) (.slice A235 n236 c237) rfl ((congrArg w214.cell? (add_add _ _ _)).trans (hcl226 5 _ rfl))) ?_
              refine L_pu (P_move (vi r3) rfl) ?_
              refine L_call go71 [.slice A235 n236 c237, vi r3] rfl ((laws_heldTagS.calls w214 hc219.ok ((nth a i2).Was.Tags) A235 n236 c237 h238 r3 _ H).mono ?_)
              rintro _ w251 ⟨r4, rfl, H, g252⟩
              have hc256 := hc219.k0 g252
              refine L_pu (P_assign (vi r4) rfl) ?_
              refine L_nil ?_
              refine W_seq ?_
              refine W_seq ?_
              refine W_reg ?_
              refine L_pu (P_move (vi r4) rfl) ?_
              refine L_pu (P_cmp r4 0 (decide (r4 < 0)) rfl rfl rfl) ?_
              refine L_nil ?_
              refine W_cond (decide (r4 < 0)) rfl (fun hq257 => ?_) (fun hq257 => ?_)
              · have H := ite_t H hq257
                refine W_seq ?_
                refine W_reg ?_
                refine L_pu (P_assign (vi (-1)) rfl) ?_
                refine L_nil ?_
                refine W_ret ?_
                exact ⟨[vi (-1)], ⟨_, rfl, rfl⟩, (-1), rfl, H, hc256.gr.g0⟩
              · have H := ite_f H hq257
                refine W_skip ?_
                refine W_seq ?_
                refine W_seq ?_
                refine W_reg ?_
                refine L_pu (P_move (.slice A1 n2 c3) rfl) ?_
                refine L_pu (P_move (vi i2) rfl) ?_
                obtain ⟨hb258, H⟩ := H
                have h265 := ((h157.st (.new _ g215)).st (.new _ g252))
                obtain ⟨ad259, cs260, hA261, hS264, hR262, hcl263⟩ := h265.get default (by decide) i2 hb258
                obtain ⟨A268, n269, c270, A273, n274, c275, A279, n280, c281, A284, n285, c286, rfl, hs266, hs267, h271, h276, hs278, h282, h287⟩ := kChange.op hR262
                refine L_pu (P_ia Try.underlying43 se43 A1 ad259 n2 c3 h265.len i2 rfl hA261 rfl hb258) ?_
                refine L_pu (P_fa fa103_3 (ad259.add (i2.toNat * 11)) ((ad259.add (i2.toNat * 11)).add 6) rfl rfl) ?_
                refine L_pu (P_ld ag4 cL ((ad259.add (i2.toNat * 11)).add 6) (vb ((nth a i2).Has)) rfl (hcl263 6 _ rfl)) ?_
                refine L_pu (P_move (vi r4) rfl) ?_
                obtain ⟨hb289, H⟩ := H
                refine L_pu (P_rem r4 3 rfl rfl hb289) ?_
                refine L_pu (P_cmp (r4 % 3) 0 ((r4 % 3) == 0) rfl rfl rfl) ?_
                refine L_pu (P_bcmp Try.underlying4 ((nth a i2).Has) ((r4 % 3) == 0) (((nth a i2).Has) != ((r4 % 3) == 0)) rfl rfl rfl) ?_
                refine L_nil ?_
                refine W_cond (((nth a i2).Has) != ((r4 % 3) == 0)) rfl (fun hq290 => ?_) (fun hq290 => ?_)
                · have H := ite_t H hq290
                  refine W_seq ?_
                  refine W_reg ?_
                  refine L_pu (P_assign (vi (-1)) rfl) ?_
                  refine L_nil ?_
                  refine W_ret ?_
                  exact ⟨[vi (-1)], ⟨_, rfl, rfl⟩, (-1), rfl, H, hc256.gr.g0⟩
                · have H := ite_f H hq290
                  refine W_skip ?_
                  refine W_seq ?_
                  refine W_reg ?_
                  refine L_pu (P_move (vi r4) rfl) ?_
                  obtain ⟨hb291, H⟩ := H
                  have hi292 := hb291 (len_le hl24)
                  refine L_pu (P_add r4 1 rfl rfl hi292) ?_
                  refine L_pu (P_assign (vi (r4 + 1)) rfl) ?_
                  refine L_nil ?_
                  refine W_seq ?_
                  refine W_seq ?_
                  refine W_draw (fun x => Gr w251 x none) (by kernel_rfl) (by kernel_rfl) (Gr.drew _) ?_
                  refine Q_pu (P_move (.slice A1 n2 c3) rfl) ?_
                  refine Q_pu (P_move (vi i2) rfl) ?_
                  obtain ⟨hb293, H⟩ := H
                  obtain ⟨ad294, cs295, hA296, hS299, hR297, hcl298⟩ := h265.get default (by decide) i2 hb293
                  obtain ⟨A302, n303, c304, A307, n308, c309, A313, n314, c315, A318, n319, c320, rfl, hs300, hs301, h305, h310, hs312, h316, h321⟩ := kChange.op hR297
                  refine Q_pu (P_ia Try.underlying43 se43 A1 ad294 n2 c3 h265.len i2 rfl hA296 rfl hb293) ?_
                  refine Q_pu (P_fa fa103_4 (ad294.add (i2.toNat * 11)) ((ad294.add (i2.toNat * 11)).add 7) rfl rfl) ?_
                  refine Q_pu (P_fa fa71_0 ((ad294.add (i2.toNat * 11)).add 7) (((ad294.add (i2.toNat * 11)).add 7).add 0) rfl rfl) ?_
                  refine Q_pu (P_ld ag9 cQ (((ad294.add (i2.toNat * 11)).add 7).add 0) (vs ((nth a i2).Now.Id)) rfl ((congrArg w251.cell? (add_add _ _ _)).trans (hcl298 7 _ rfl))) ?_
                  refine Q_pu (P_move (vi (r4 + 1)) rfl) ?_
                  obtain ⟨q3, hE329, hs330, H⟩ := H
                  refine Q_call go67 [vi (r4 + 1)] rfl (vs q3) (fun w g => (laws_markText.calls w (hc256.k0 g).ok (r4 + 1) _ hE329).mono ?_) ?_
                  · rintro _ w ⟨r, rfl, rfl, g2, _⟩
                    exact ⟨rfl, Gr.t0 g g2⟩
                  refine Q_pu (P_scmp ((nth a i2).Now.Id) q3 (((nth a i2).Now.Id) != q3) rfl rfl rfl) ?_
                  refine Q_nil fun w331 g332 => ?_
                  have hc334 := hc256.k0 g332
                  refine W_cond (((nth a i2).Now.Id) != q3) rfl (fun hq335 => ?_) (fun hq335 => ?_)
                  · have H := ite_t H hq335
                    refine W_seq ?_
                    refine W_reg ?_
                    refine L_pu (P_assign (vi (-1)) rfl) ?_
                    refine L_nil ?_
                    refine W_ret ?_
                    exact ⟨[vi (-1)], ⟨_, rfl, rfl⟩, (-1), rfl, H, hc334.gr.g0⟩
                  · have H := ite_f H hq335
                    refine W_skip ?_
                    refine W_seq ?_
                    refine W_reg ?_
                    refine L_pu (P_move (vi (r4 + 1)) rfl) ?_
                    obtain ⟨hb336, H⟩ := H
                    have hi337 := hb336 (len_le hl24)
                    refine L_pu (P_add (r4 + 1) 1 rfl rfl hi337) ?_
                    refine L_pu (P_assign (vi (r4 + 1 + 1)) rfl) ?_
                    refine L_nil ?_
                    refine W_seq ?_
                    refine W_seq ?_
                    refine W_reg ?_
                    refine L_pu (P_move (.slice A1 n2 c3) rfl) ?_
                    refine L_pu (P_move (vi i2) rfl) ?_
                    obtain ⟨hb338, H⟩ := H
                    obtain ⟨ad339, cs340, hA341, hS344, hR342, hcl343⟩ := (h265.st (.new _ g332)).get default (by decide) i2 hb338
                    obtain ⟨A347, n348, c349, A352, n353, c354, A358, n359, c360, A363, n364, c365, rfl, hs345, hs346, h350, h355, hs357, h361, h366⟩ := kChange.op hR342
                    refine L_pu (P_ia Try.underlying43 se43 A1 ad339 n2 c3 (h265.st (.new _ g332)).len i2 rfl hA341 rfl hb338) ?_
                    refine L_pu (P_fa fa103_4 (ad339.add (i2.toNat * 11)) ((ad339.add (i2.toNat * 11)).add 7) rfl rfl) ?_
                    refine L_pu (P_fa fa71_1 ((ad339.add (i2.toNat * 11)).add 7) (((ad339.add (i2.toNat * 11)).add 7).add 1) rfl rfl) ?_
                    refine L_pu (P_fa fa68_0 (((ad339.add (i2.toNat * 11)).add 7).add 1) ((((ad339.add (i2.toNat * 11)).add 7).add 1).add 0) rfl rfl) ?_
                    refine L_pu (P_ld ag3 cL ((((ad339.add (i2.toNat * 11)).add 7).add 1).add 0) (vi ((nth a i2).Now.Shape.Kind)) rfl ((congrArg w331.cell? (add_add _ _ _)).trans (hcl343 8 _ rfl))) ?_
                    refine L_pu (P_move (vi (r4 + 1 + 1)) rfl) ?_
                    refine L_pu (P_cmp ((nth a i2).Now.Shape.Kind) (r4 + 1 + 1) (((nth a i2).Now.Shape.Kind) != (r4 + 1 + 1)) rfl rfl rfl) ?_
                    refine L_nil ?_
                    refine W_cond (((nth a i2).Now.Shape.Kind) != (r4 + 1 + 1)) rfl (fun hq368 => ?_) (fun hq368 => ?_)
                    · have H := ite_t H hq368
                      refine W_seq ?_
                      refine W_reg ?_
                      refine L_pu (P_assign (vi (-1)) rfl) ?_
                      refine L_nil ?_
                      refine W_ret ?_
                      exact ⟨[vi (-1)], ⟨_, rfl, rfl⟩, (-1), rfl, H, hc334.gr.g0⟩
                    · have H := ite_f H hq368
                      refine W_skip ?_
                      refine W_seq ?_
                      refine W_reg ?_
                      refine L_pu (P_move (vi (r4 + 1 + 1)) rfl) ?_
                      obtain ⟨hb369, H⟩ := H
                      have hi370 := hb369 (len_le hl24)
                      refine L_pu (P_add (r4 + 1 + 1) 1 rfl rfl hi370) ?_
                      refine L_pu (P_assign (vi (r4 + 1 + 1 + 1)) rfl) ?_
                      refine L_nil ?_
                      refine W_seq ?_
                      refine W_reg ?_
                      refine L_pu (P_move (.slice A1 n2 c3) rfl) ?_
                      refine L_pu (P_move (vi i2) rfl) ?_
                      obtain ⟨hb371, H⟩ := H
                      obtain ⟨ad372, cs373, hA374, hS377, hR375, hcl376⟩ := (h265.st (.new _ g332)).get default (by decide) i2 hb371
                      obtain ⟨A380, n381, c382, A385, n386, c387, A391, n392, c393, A396, n397, c398, rfl, hs378, hs379, h383, h388, hs390, h394, h399⟩ := kChange.op hR375
                      refine L_pu (P_ia Try.underlying43 se43 A1 ad372 n2 c3 (h265.st (.new _ g332)).len i2 rfl hA374 rfl hb371) ?_
                      refine L_pu (P_fa fa103_4 (ad372.add (i2.toNat * 11)) ((ad372.add (i2.toNat * 11)).add 7) rfl rfl) ?_
                      refine L_pu (P_fa fa71_1 ((ad372.add (i2.toNat * 11)).add 7) (((ad372.add (i2.toNat * 11)).add 7).add 1) rfl rfl) ?_
                      refine L_pu (P_fa fa68_1 (((ad372.add (i2.toNat * 11)).add 7).add 1) ((((ad372.add (i2.toNat * 11)).add 7).add 1).add 1) rfl rfl) ?_
                      refine L_pu (P_ld ag23 cL ((((ad372.add (i2.toNat * 11)).add 7).add 1).add 1) (.slice A391 n392 c393) rfl ((congrArg w331.cell? (add_add _ _ _)).trans (hcl376 9 _ rfl))) ?_
                      refine L_pu (P_move (vi (r4 + 1 + 1 + 1)) rfl) ?_
                      refine L_call go70 [.slice A391 n392 c393, vi (r4 + 1 + 1 + 1)] rfl ((laws_heldPtS.calls w331 hc334.ok ((nth a i2).Now.Shape.Pts) A391 n392 c393 h394 (r4 + 1 + 1 + 1) _ H).mono ?_)
                      rintro _ w401 ⟨r6, rfl, H, g402⟩
                      have hc406 := hc334.k0 g402
                      refine L_pu (P_assign (vi r6) rfl) ?_
                      refine L_nil ?_
                      refine W_seq ?_
                      refine W_seq ?_
                      refine W_reg ?_
                      refine L_pu (P_move (vi r6) rfl) ?_
                      refine L_pu (P_cmp r6 0 (decide (r6 < 0)) rfl rfl rfl) ?_
                      refine L_nil ?_
                      refine W_cond (decide (r6 < 0)) rfl (fun hq407 => ?_) (fun hq407 => ?_)
                      · have H := ite_t H hq407
                        refine W_seq ?_
                        refine W_reg ?_
                        refine L_pu (P_assign (vi (-1)) rfl) ?_
                        refine L_nil ?_
                        refine W_ret ?_
                        exact ⟨[vi (-1)], ⟨_, rfl, rfl⟩, (-1), rfl, H, hc406.gr.g0⟩
                      · have H := ite_f H hq407
                        refine W_skip ?_
                        refine W_seq ?_
                        refine W_reg ?_
                        refine L_pu (P_move (.slice A1 n2 c3) rfl) ?_
                        refine L_pu (P_move (vi i2) rfl) ?_
                        obtain ⟨hb408, H⟩ := H
                        have h415 := ((h265.st (.new _ g332)).st (.new _ g402))
                        obtain ⟨ad409, cs410, hA411, hS414, hR412, hcl413⟩ := h415.get default (by decide) i2 hb408
                        obtain ⟨A418, n419, c420, A423, n424, c425, A429, n430, c431, A434, n435, c436, rfl, hs416, hs417, h421, h426, hs428, h432, h437⟩ := kChange.op hR412
                        refine L_pu (P_ia Try.underlying43 se43 A1 ad409 n2 c3 h415.len i2 rfl hA411 rfl hb408) ?_
                        refine L_pu (P_fa fa103_4 (ad409.add (i2.toNat * 11)) ((ad409.add (i2.toNat * 11)).add 7) rfl rfl) ?_
                        refine L_pu (P_fa fa71_2 ((ad409.add (i2.toNat * 11)).add 7) (((ad409.add (i2.toNat * 11)).add 7).add 3) rfl rfl) ?_
                        refine L_pu (P_ld ag69 cL (((ad409.add (i2.toNat * 11)).add 7).add 3) (.slice A434 n435 c436) rfl ((congrArg w401.cell? (add_add _ _ _)).trans (hcl413 10 _ rfl))) ?_
                        refine L_pu (P_move (vi r6) rfl) ?_
                        refine L_call go71 [.slice A434 n435 c436, vi r6] rfl ((laws_heldTagS.calls w401 hc406.ok ((nth a i2).Now.Tags) A434 n435 c436 h437 r6 _ H).mono ?_)
                        rintro _ w439 ⟨r7, rfl, H, g440⟩
                        have hc444 := hc406.k0 g440
                        refine L_pu (P_assign (vi r7) rfl) ?_
                        refine L_nil ?_
                        refine W_seq ?_
                        refine W_reg ?_
                        refine L_pu (P_move (vi r7) rfl) ?_
                        refine L_pu (P_cmp r7 0 (decide (r7 < 0)) rfl rfl rfl) ?_
                        refine L_nil ?_
                        refine W_cond (decide (r7 < 0)) rfl (fun hq445 => ?_) (fun hq445 => ?_)
                        · have H := ite_t H hq445
                          refine W_seq ?_
                          refine W_reg ?_
                          refine L_pu (P_assign (vi (-1)) rfl) ?_
                          refine L_nil ?_
                          refine W_ret ?_
                          exact ⟨[vi (-1)], ⟨_, rfl, rfl⟩, (-1), rfl, H, hc444.gr.g0⟩
                        · have H := ite_f H hq445
                          refine W_skip ?_
                          refine W_reg ?_
                          refine L_pu (P_move (vi i2) rfl) ?_
                          obtain ⟨hb447, H⟩ := H
                          have hi446 : I64 (i2 + 1) := i64_succ (of_decide_eq_true hq25) hl24 hb447
                          refine L_pu (P_add i2 1 rfl rfl hi446) ?_
                          refine L_pu (P_assign (vi (i2 + 1)) rfl) ?_
                          refine L_nil ?_
                          obtain ⟨hI448, hm449⟩ := H
                          exact ⟨(r7, i2 + 1), hm449, hI448, ⟨rfl, rfl, rfl, trivial⟩, hc444, (h415.st (.new _ g440))⟩
  · have H := ite_f H hq25
    refine W_exit (xin_hit ?_)
    refine W_seq ?_
    refine W_reg ?_
    refine L_pu (P_move (vi k3) rfl) ?_
    refine L_pu (P_assign (vi k3) rfl) ?_
    refine L_nil ?_
    refine W_ret ?_
    exact ⟨[vi k3], ⟨_, rfl, rfl⟩, k3, rfl, H, hc16.gr.g0⟩
end Go.Proofs.Ytndjggncgpjolaa

namespace Go.Proofs.Ytndjggncgpjolaa
set_option linter.unusedVariables false
set_option linter.unusedSimpArgs false
set_option linter.unusedSectionVars false
theorem laws_heldChangeS.lawk (a : List Change) (k : Int) (Q : Int → Prop) (ha : bulk a ≤ 1048576) (h0 : 0 ≤ k) (h1 : k ≤ 500000000) (hq : Q (mkL gChange a k).2) : laws_heldChangeS.E (mkL gChange a k).1 k Q := by
  unfold laws_heldChangeS.E
  have hbl := bulk_len a
  rw [mkL_len]
  refine ⟨fun k' i => ∃ u : Nat, i = u ∧ Hd gChange a k u k', fun _ i => (a.length - i).toNat, ⟨0, rfl, .zero a k⟩, ?_⟩
  rintro k' _ ⟨u, rfl, M⟩
  have hb := M.bd gChange_bd
  by_cases h : u < a.length
  · rw [if_pos (by simpa using h), M.nth h]
    have hm := bulk_mem (nth_mem a h)
    have hn := M.next h
    have hc := bulk_change (nth a (u : Int))
    have hb1 := bulk_feat (nth a (u : Int)).Was
    have hb2 := bulk_feat (nth a (u : Int)).Now
    have hp := mkL_bd gPt_bd (nth a (u : Int)).Was.Shape.Pts (k' + 4)
    have ht := mkL_bd gTag_bd (nth a (u : Int)).Was.Tags (mkL gPt (nth a (u : Int)).Was.Shape.Pts (k' + 4)).2
    have hq2 := mkL_bd gPt_bd (nth a (u : Int)).Now.Shape.Pts ((mkL gTag (nth a (u : Int)).Was.Tags (mkL gPt (nth a (u : Int)).Was.Shape.Pts (k' + 4)).2).2 + 3)
    have hs2 := mkL_bd gTag_bd (nth a (u : Int)).Now.Tags (mkL gPt (nth a (u : Int)).Now.Shape.Pts ((mkL gTag (nth a (u : Int)).Was.Tags (mkL gPt (nth a (u : Int)).Was.Shape.Pts (k' + 4)).2).2 + 3)).2
    simp only [Int.add_assoc, Int.reduceAdd]
    refine ⟨by omega, tx k', laws_markText.q _ (by omega) (by omega), tx_lim _ (by omega) (by omega), ?_⟩
    rw [if_neg (by simp [gChange])]
    refine ⟨fun _ => by unfold I64; omega, by omega, ⟨by omega, by omega⟩, ?_⟩
    rw [if_neg (by simp [gChange])]
    refine ⟨fun _ => by unfold I64; omega, by omega, tx (k' + 2), laws_markText.q _ (by omega) (by omega), tx_lim _ (by omega) (by omega), ?_⟩
    rw [if_neg (by simp [gChange])]
    refine ⟨fun _ => by unfold I64; omega, by omega, ?_⟩
    rw [if_neg (by simp [gChange])]
    refine ⟨fun _ => by unfold I64; omega, by omega, laws_heldPtS.lawk (nth a (u : Int)).Was.Shape.Pts _ _ (by omega) (by omega) (by omega) ?_⟩
    rw [if_neg (by rw [decide_eq_true_eq]; omega)]
    refine ⟨by omega, laws_heldTagS.lawk (nth a (u : Int)).Was.Tags _ _ (by omega) (by omega) (by omega) ?_⟩
    rw [if_neg (by rw [decide_eq_true_eq]; omega)]
    refine ⟨by omega, ⟨by omega, by omega⟩, ?_⟩
    rw [if_neg (by simp [gChange])]
    refine ⟨fun _ => by unfold I64; omega, by omega, tx ((mkL gTag (nth a (u : Int)).Was.Tags (mkL gPt (nth a (u : Int)).Was.Shape.Pts (k' + 4)).2).2 + 1), laws_markText.q _ (by omega) (by omega), tx_lim _ (by omega) (by omega), ?_⟩
    rw [if_neg (by simp [gChange])]
    refine ⟨fun _ => by unfold I64; omega, by omega, ?_⟩
    rw [if_neg (by simp [gChange])]
    refine ⟨fun _ => by unfold I64; omega, by omega, laws_heldPtS.lawk (nth a (u : Int)).Now.Shape.Pts _ _ (by omega) (by omega) (by omega) ?_⟩
    rw [if_neg (by rw [decide_eq_true_eq]; omega)]
    refine ⟨by omega, laws_heldTagS.lawk (nth a (u : Int)).Now.Tags _ _ (by omega) (by omega) (by omega) ?_⟩
    rw [if_neg (by rw [decide_eq_true_eq]; omega)]
    exact ⟨by omega, ⟨u + 1, by omega, hn⟩, by first | omega | (dsimp only; omega)⟩
  · rw [if_neg (by simpa using h), M.full h]; exact hq
end Go.Proofs.Ytndjggncgpjolaa

namespace Go.Proofs.Ytndjggncgpjolaa
open Go.RowKit
set_option linter.unusedVariables false
def laws_FnExactDiffBack.E (aD : List Change) (Q : Bool → Prop) : Prop :=
  laws_szChangeS.E aD 1048576 (fun r => (if decide (r < 0) then Q true else laws_toChangeS.E aD (fun r2 => spec_DiffBack.E r2 (fun r3 => laws_toChangeS.E aD (fun r4 => impl_DiffBack.E r4 (fun r5 => laws_eqChangeS.E r5 r3 (fun r6 => (if !r6 then Q false else laws_toChangeS.E aD (fun r7 => laws_eqChangeS.E r4 r7 (fun r8 => (if !r8 then Q false else laws_markChangeS.E r4 1 (fun r9 m => (if decide (r9 < 0) then Q false else laws_eqChangeS.E r5 r3 (fun r10 => (if !r10 then Q false else laws_markChangeS.E r5 1 (fun r11 m2 => laws_heldChangeS.E m2 1 (fun r12 => (if decide (r12 < 0) then Q false else (if r12 != r11 then Q false else laws_toChangeS.E aD (fun r13 => impl_DiffBack.E r13 (fun r14 => laws_eqChangeS.E r14 r3 (fun r15 => (if !r15 then Q false else laws_heldChangeS.E m2 1 (fun r16 => (if decide (r16 < 0) then Q false else (if r16 != r11 then Q false else Q true))))))))))))))))))))))))))
set_option maxHeartbeats 8000000 in
set_option maxRecDepth 100000 in
theorem laws_FnExactDiffBack.calls {O : Ob} (w0 : World) (hO : Ok w0 O) (aD : List Change) (A1 : Option Addr) (n2 c3 : Nat) (hp4 : Sl kChange w0 (Fr O) (.slice A1 n2 c3) aD) (Q : Bool → Prop) (h : laws_FnExactDiffBack.E aD Q) :
    Ret Try.prog 5 [.slice A1 n2 c3] w0 (fun v w' => ∃ (r0 : Bool), v = vb r0 ∧ Q r0 ∧ Gr w0 w' none) := by
  have H : laws_szChangeS.E aD 1048576 (fun r => (if decide (r < 0) then Q true else laws_toChangeS.E aD (fun r2 => spec_DiffBack.E r2 (fun r3 => laws_toChangeS.E aD (fun r4 => impl_DiffBack.E r4 (fun r5 => laws_eqChangeS.E r5 r3 (fun r6 => (if !r6 then Q false else laws_toChangeS.E aD (fun r7 => laws_eqChangeS.E r4 r7 (fun r8 => (if !r8 then Q false else laws_markChangeS.E r4 1 (fun r9 m => (if decide (r9 < 0) then Q false else laws_eqChangeS.E r5 r3 (fun r10 => (if !r10 then Q false else laws_markChangeS.E r5 1 (fun r11 m2 => laws_heldChangeS.E m2 1 (fun r12 => (if decide (r12 < 0) then Q false else (if r12 != r11 then Q false else laws_toChangeS.E aD (fun r13 => impl_DiffBack.E r13 (fun r14 => laws_eqChangeS.E r14 r3 (fun r15 => (if !r15 then Q false else laws_heldChangeS.E m2 1 (fun r16 => (if decide (r16 < 0) then Q false else (if r16 != r11 then Q false else Q true)))))))))))))))))))))))))) := h
  clear h
  have hc0 := Ct.init hO
  refine Ret_enter Try.func5 rfl 69 rfl [.tmp 2] rfl rfl ?_
  refine W_seq ?_
  refine W_reg ?_
  refine L_pu (P_assign (vb false) rfl) ?_
  refine L_nil ?_
  refine W_seq ?_
  refine W_reg ?_
  refine L_pu (P_assign (vi 1048576) rfl) ?_
  refine L_nil ?_
  refine W_seq ?_
  refine W_reg ?_
  refine L_pu (P_move (.slice A1 n2 c3) rfl) ?_
  refine L_pu (P_move (vi 1048576) rfl) ?_
  refine L_call go18 [.slice A1 n2 c3, vi 1048576] rfl ((laws_szChangeS.calls w0 hc0.ok aD A1 n2 c3 hp4 1048576 _ H).mono ?_)
  rintro _ w6 ⟨r, rfl, H, g7⟩
  have hc11 := hc0.k0 g7
  refine L_pu (P_assign (vi r) rfl) ?_
  refine L_nil ?_
  refine W_seq ?_
  refine W_seq ?_
  refine W_reg ?_
  refine L_pu (P_move (vi r) rfl) ?_
  refine L_pu (P_cmp r 0 (decide (r < 0)) rfl rfl rfl) ?_
  refine L_nil ?_
  refine W_cond (decide (r < 0)) rfl (fun hq12 => ?_) (fun hq12 => ?_)
  · have H := ite_t H hq12
    refine W_seq ?_
    refine W_reg ?_
    refine L_pu (P_assign (vb true) rfl) ?_
    refine L_nil ?_
    refine W_ret ?_
    exact ⟨[vb true], ⟨_, rfl, rfl⟩, true, rfl, H, hc11.gr.g0⟩
  · have H := ite_f H hq12
    refine W_skip ?_
    refine W_seq ?_
    refine W_reg ?_
    refine L_pu (P_move (.slice A1 n2 c3) rfl) ?_
    refine L_call go20 [.slice A1 n2 c3] rfl ((laws_toChangeS.calls w6 hc11.ok aD A1 n2 c3 (hp4.st hc11.st) _ H).mono ?_)
    rintro _ w13 ⟨r2, A15, n16, c17, q20, ra21, rfl, H, g14, hk24, hk25, h18, hd22⟩
    have hc26 := hc11.owns g14 hk24 hk25
    have hp27 : (((blk (.slice A15 n16 c17) :: (q20 ++ [])) ++ []) : Ob).Perm (blk (.slice A15 n16 c17) :: (q20 ++ [])) := (by rw [List.perm_iff_count]; intro a; (try simp only [List.count_append, List.count_cons, List.count_nil, Nat.add_zero, Nat.zero_add]); first | done | ac_rfl)
    have hc28 := hc26.perm hp27
    have h29 := (Ow.spa (A := (blk (.slice A15 n16 c17) :: (q20 ++ []))) (L := []) (O := O) h18 hp27)
    have hd30 := hd22
    have hp34 : ((blk (.slice A15 n16 c17) :: (q20 ++ [])) : Ob).Perm (blk (.slice A15 n16 c17) :: (q20 ++ [])) := (by rw [List.perm_iff_count]; intro a; (try simp only [List.count_append, List.count_cons, List.count_nil, Nat.add_zero, Nat.zero_add]); first | done | ac_rfl)
    obtain ⟨h31, hc32, s33⟩ := Dp.gv (L := (blk (.slice A15 n16 c17) :: (q20 ++ []))) (O := O) h29 hd30 hc28 hp34
    refine L_call go19 [.slice A15 n16 c17] rfl ((spec_DiffBack.calls w13 hc32.ok r2 A15 n16 c17 h31 _ H).mono ?_)
    rintro _ w37 ⟨r3, A39, n40, c41, rfl, H, g38, hk45, hk46, h42⟩
    have hc47 := hc32.owns g38 hk45 hk46
    refine L_pu (P_assign (.slice A39 n40 c41) rfl) ?_
    refine L_nil ?_
    refine W_seq ?_
    refine W_reg ?_
    refine L_pu (P_move (.slice A1 n2 c3) rfl) ?_
    refine L_call go20 [.slice A1 n2 c3] rfl ((laws_toChangeS.calls w37 hc47.ok aD A1 n2 c3 (hp4.st hc47.st) _ H).mono ?_)
    rintro _ w48 ⟨r4, A50, n51, c52, q55, ra56, rfl, H, g49, hk59, hk60, h53, hd57⟩
    have hc61 := hc47.owns g49 hk59 hk60
    have hp62 : (((blk (.slice A50 n51 c52) :: (q55 ++ [])) ++ [blk (.slice A39 n40 c41)]) : Ob).Perm (blk (.slice A50 n51 c52) :: blk (.slice A39 n40 c41) :: (q55 ++ [])) := (by rw [List.perm_iff_count]; intro a; (try simp only [List.count_append, List.count_cons, List.count_nil, Nat.add_zero, Nat.zero_add]); first | done | ac_rfl)
    have hc63 := hc61.perm hp62
    refine L_pu (P_assign (.slice A50 n51 c52) rfl) ?_
    refine L_nil ?_
    refine W_seq ?_
    refine W_reg ?_
    refine L_pu (P_move (.slice A50 n51 c52) rfl) ?_
    have h64 := (Ow.spa (A := (blk (.slice A50 n51 c52) :: (q55 ++ []))) (L := [blk (.slice A39 n40 c41)]) (O := O) h53 hp62)
    have hd65 := hd57
    have hp69 : ((blk (.slice A50 n51 c52) :: blk (.slice A39 n40 c41) :: (q55 ++ [])) : Ob).Perm (blk (.slice A50 n51 c52) :: (q55 ++ [blk (.slice A39 n40 c41)])) := (by rw [List.perm_iff_count]; intro a; (try simp only [List.count_append, List.count_cons, List.count_nil, Nat.add_zero, Nat.zero_add]); first | done | ac_rfl)
    obtain ⟨h66, hc67, s68⟩ := Dp.gv (L := (blk (.slice A50 n51 c52) :: blk (.slice A39 n40 c41) :: (q55 ++ []))) (O := O) h64 hd65 hc63 hp69
    refine L_call go21 [.slice A50 n51 c52] rfl ((impl_DiffBack.calls w48 hc67.ok r4 A50 n51 c52 h66 _ H).mono ?_)
    rintro _ w72 ⟨r5, A74, n75, c76, q79, ra80, rfl, H, g73, hk83, hk84, h77, hd81⟩
    have hk86 := Ok.unl (L := (blk (.slice A50 n51 c52) :: blk (.slice A39 n40 c41) :: (q55 ++ []))) (L' := [blk (.slice A39 n40 c41)]) (O := O) hc63 g73 hk83 hk84
    have h87 := Ow.unl (L := (blk (.slice A50 n51 c52) :: blk (.slice A39 n40 c41) :: (q55 ++ []))) (L' := [blk (.slice A39 n40 c41)]) (O := O) (fun _ _ _ _ _ _ h => h) (.cons _ (.cons_cons _ ((List.sublist_append_of_sublist_right (.refl _))))) h77
    have hc85 := hc63.owns g73 hk86 hk84
    have hp88 : (((blk (.slice A74 n75 c76) :: (q79 ++ [])) ++ (blk (.slice A50 n51 c52) :: blk (.slice A39 n40 c41) :: (q55 ++ []))) : Ob).Perm (blk (.slice A74 n75 c76) :: blk (.slice A50 n51 c52) :: blk (.slice A39 n40 c41) :: (q79 ++ (q55 ++ []))) := (by rw [List.perm_iff_count]; intro a; (try simp only [List.count_append, List.count_cons, List.count_nil, Nat.add_zero, Nat.zero_add]); first | done | ac_rfl)
    have hc89 := hc85.perm hp88
    refine L_pu (P_assign (.slice A74 n75 c76) rfl) ?_
    refine L_nil ?_
    refine W_seq ?_
    refine W_seq ?_
    refine W_reg ?_
    refine L_pu (P_move (.slice A74 n75 c76) rfl) ?_
    refine L_pu (P_move (.slice A39 n40 c41) rfl) ?_
    have h90 := (Ow.spa (A := (blk (.slice A74 n75 c76) :: (q79 ++ []))) (L := (blk (.slice A50 n51 c52) :: blk (.slice A39 n40 c41) :: (q55 ++ []))) (O := O) h87 hp88)
    have hd91 := hd81
    have hp95 : ((blk (.slice A74 n75 c76) :: blk (.slice A50 n51 c52) :: blk (.slice A39 n40 c41) :: (q79 ++ (q55 ++ []))) : Ob).Perm (blk (.slice A74 n75 c76) :: (q79 ++ (blk (.slice A50 n51 c52) :: blk (.slice A39 n40 c41) :: (q55 ++ [])))) := (by rw [List.perm_iff_count]; intro a; (try simp only [List.count_append, List.count_cons, List.count_nil, Nat.add_zero, Nat.zero_add]); first | done | ac_rfl)
    obtain ⟨h92, hc93, s94⟩ := Dp.gv (L := (blk (.slice A74 n75 c76) :: blk (.slice A50 n51 c52) :: blk (.slice A39 n40 c41) :: (q79 ++ (q55 ++ [])))) (O := O) h90 hd91 hc89 hp95
    have h98 := (Ow.drops (L := (blk (.slice A74 n75 c76) :: blk (.slice A50 n51 c52) :: blk (.slice A39 n40 c41) :: (q79 ++ (q55 ++ [])))) (O := O) (rs := blk (.slice A74 n75 c76) :: q79) (Ow.spa (A := (blk (.slice A74 n75 c76) :: (q79 ++ []))) (L := (blk (.slice A50 n51 c52) :: blk (.slice A39 n40 c41) :: (q55 ++ []))) (O := O) ((Ow.spa (A := (blk (.slice A50 n51 c52) :: (q55 ++ []))) (L := [blk (.slice A39 n40 c41)]) (O := O) (h42.sos g49 hk60) hp62).sos g73 hk84) hp88) hp95 (memi 1 rfl))
    have h99 := Ow.gv (L := (blk (.slice A50 n51 c52) :: blk (.slice A39 n40 c41) :: (q55 ++ []))) (O := O) h98 hc93 (i := 1) rfl
    have hc100 := hc93.drop 1 rfl
    have h102 := (h92.st (.dr _ (L := (blk (.slice A50 n51 c52) :: blk (.slice A39 n40 c41) :: (q55 ++ []))) (O := O) (j := 1) rfl))
    refine L_call go22 [.slice A74 n75 c76, .slice A39 n40 c41] rfl ((laws_eqChangeS.calls w72 hc100.ok r5 A74 n75 c76 h102 r3 A39 n40 c41 h99 _ H).mono ?_)
    rintro _ w103 ⟨r6, rfl, H, g104⟩
    have hc108 := hc89.k0 g104
    refine L_pu (P_not r6 rfl) ?_
    refine L_nil ?_
    refine W_cond (!r6) rfl (fun hq109 => ?_) (fun hq109 => ?_)
    · have H := ite_t H hq109
      refine W_seq ?_
      refine W_reg ?_
      refine L_pu (P_assign (vb false) rfl) ?_
      refine L_nil ?_
      refine W_ret ?_
      have hp110 : ((blk (.slice A74 n75 c76) :: blk (.slice A50 n51 c52) :: blk (.slice A39 n40 c41) :: (q79 ++ (q55 ++ []))) : Ob).Perm ((blk (.slice A74 n75 c76) :: (q79 ++ [])) ++ (blk (.slice A50 n51 c52) :: blk (.slice A39 n40 c41) :: (q55 ++ []))) := (by rw [List.perm_iff_count]; intro a; (try simp only [List.count_append, List.count_cons, List.count_nil, Nat.add_zero, Nat.zero_add]); first | done | ac_rfl)
      have hc111 := hc108.drops hp110
      have hp112 : ((blk (.slice A50 n51 c52) :: blk (.slice A39 n40 c41) :: (q55 ++ [])) : Ob).Perm ((blk (.slice A50 n51 c52) :: (q55 ++ [])) ++ [blk (.slice A39 n40 c41)]) := (by rw [List.perm_iff_count]; intro a; (try simp only [List.count_append, List.count_cons, List.count_nil, Nat.add_zero, Nat.zero_add]); first | done | ac_rfl)
      have hc113 := hc111.drops hp112
      have hc114 := hc113.drop 0 rfl
      exact ⟨[vb false], ⟨_, rfl, rfl⟩, false, rfl, H, hc114.gr.g0⟩
    · have H := ite_f H hq109
      refine W_skip ?_
      refine W_seq ?_
      refine W_seq ?_
      refine W_reg ?_
      refine L_pu (P_move (.slice A50 n51 c52) rfl) ?_
      refine L_pu (P_move (.slice A1 n2 c3) rfl) ?_
      refine L_call go20 [.slice A1 n2 c3] rfl ((laws_toChangeS.calls w103 hc108.ok aD A1 n2 c3 (hp4.st hc108.st) _ H).mono ?_)
      rintro _ w115 ⟨r7, A117, n118, c119, q122, ra123, rfl, H, g116, hk126, hk127, h120, hd124⟩
      have hc128 := hc108.owns g116 hk126 hk127
      have hp129 : (((blk (.slice A117 n118 c119) :: (q122 ++ [])) ++ (blk (.slice A74 n75 c76) :: blk (.slice A50 n51 c52) :: blk (.slice A39 n40 c41) :: (q79 ++ (q55 ++ [])))) : Ob).Perm (blk (.slice A117 n118 c119) :: blk (.slice A74 n75 c76) :: blk (.slice A50 n51 c52) :: blk (.slice A39 n40 c41) :: (q122 ++ (q79 ++ (q55 ++ [])))) := (by rw [List.perm_iff_count]; intro a; (try simp only [List.count_append, List.count_cons, List.count_nil, Nat.add_zero, Nat.zero_add]); first | done | ac_rfl)
      have hc130 := hc128.perm hp129
      have h131 := (Ow.spa (A := (blk (.slice A117 n118 c119) :: (q122 ++ []))) (L := (blk (.slice A74 n75 c76) :: blk (.slice A50 n51 c52) :: blk (.slice A39 n40 c41) :: (q79 ++ (q55 ++ [])))) (O := O) (((Ow.spa (A := (blk (.slice A74 n75 c76) :: (q79 ++ []))) (L := (blk (.slice A50 n51 c52) :: blk (.slice A39 n40 c41) :: (q55 ++ []))) (O := O) ((Ow.spa (A := (blk (.slice A50 n51 c52) :: (q55 ++ []))) (L := [blk (.slice A39 n40 c41)]) (O := O) h53 hp62).sos g73 hk84) hp88).sn g104).sos g116 hk127) hp129)
      have hd132 := (((hd57.k0 g73).k0 g104).k0 g116)
      have hp136 : ((blk (.slice A117 n118 c119) :: blk (.slice A74 n75 c76) :: blk (.slice A50 n51 c52) :: blk (.slice A39 n40 c41) :: (q122 ++ (q79 ++ (q55 ++ [])))) : Ob).Perm (blk (.slice A50 n51 c52) :: (q55 ++ (blk (.slice A117 n118 c119) :: blk (.slice A74 n75 c76) :: blk (.slice A39 n40 c41) :: (q122 ++ (q79 ++ []))))) := (by rw [List.perm_iff_count]; intro a; (try simp only [List.count_append, List.count_cons, List.count_nil, Nat.add_zero, Nat.zero_add]); first | done | ac_rfl)
      obtain ⟨h133, hc134, s135⟩ := Dp.gv (L := (blk (.slice A117 n118 c119) :: blk (.slice A74 n75 c76) :: blk (.slice A50 n51 c52) :: blk (.slice A39 n40 c41) :: (q122 ++ (q79 ++ (q55 ++ []))))) (O := O) h131 hd132 hc130 hp136
      have h139 := (Ow.drops (L := (blk (.slice A117 n118 c119) :: blk (.slice A74 n75 c76) :: blk (.slice A50 n51 c52) :: blk (.slice A39 n40 c41) :: (q122 ++ (q79 ++ (q55 ++ []))))) (O := O) (rs := blk (.slice A50 n51 c52) :: q55) (Ow.spa (A := (blk (.slice A117 n118 c119) :: (q122 ++ []))) (L := (blk (.slice A74 n75 c76) :: blk (.slice A50 n51 c52) :: blk (.slice A39 n40 c41) :: (q79 ++ (q55 ++ [])))) (O := O) h120 hp129) hp136 (memi 0 rfl))
      have hd140 := hd124
      have hp144 : ((blk (.slice A117 n118 c119) :: blk (.slice A74 n75 c76) :: blk (.slice A39 n40 c41) :: (q122 ++ (q79 ++ []))) : Ob).Perm (blk (.slice A117 n118 c119) :: (q122 ++ (blk (.slice A74 n75 c76) :: blk (.slice A39 n40 c41) :: (q79 ++ [])))) := (by rw [List.perm_iff_count]; intro a; (try simp only [List.count_append, List.count_cons, List.count_nil, Nat.add_zero, Nat.zero_add]); first | done | ac_rfl)
      obtain ⟨h141, hc142, s143⟩ := Dp.gv (L := (blk (.slice A117 n118 c119) :: blk (.slice A74 n75 c76) :: blk (.slice A39 n40 c41) :: (q122 ++ (q79 ++ [])))) (O := O) h139 hd140 hc134 hp144
      refine L_call go22 [.slice A50 n51 c52, .slice A117 n118 c119] rfl ((laws_eqChangeS.calls w115 hc142.ok r4 A50 n51 c52 (h133.st s143) r7 A117 n118 c119 h141 _ H).mono ?_)
      rintro _ w147 ⟨r8, rfl, H, g148⟩
      have hc152 := hc130.k0 g148
      refine L_pu (P_not r8 rfl) ?_
      refine L_nil ?_
      refine W_cond (!r8) rfl (fun hq153 => ?_) (fun hq153 => ?_)
      · have H := ite_t H hq153
        refine W_seq ?_
        refine W_reg ?_
        refine L_pu (P_assign (vb false) rfl) ?_
        refine L_nil ?_
        refine W_ret ?_
        have hp154 : ((blk (.slice A117 n118 c119) :: blk (.slice A74 n75 c76) :: blk (.slice A50 n51 c52) :: blk (.slice A39 n40 c41) :: (q122 ++ (q79 ++ (q55 ++ [])))) : Ob).Perm ((blk (.slice A117 n118 c119) :: (q122 ++ [])) ++ (blk (.slice A74 n75 c76) :: blk (.slice A50 n51 c52) :: blk (.slice A39 n40 c41) :: (q79 ++ (q55 ++ [])))) := (by rw [List.perm_iff_count]; intro a; (try simp only [List.count_append, List.count_cons, List.count_nil, Nat.add_zero, Nat.zero_add]); first | done | ac_rfl)
        have hc155 := hc152.drops hp154
        have hp156 : ((blk (.slice A74 n75 c76) :: blk (.slice A50 n51 c52) :: blk (.slice A39 n40 c41) :: (q79 ++ (q55 ++ []))) : Ob).Perm ((blk (.slice A74 n75 c76) :: (q79 ++ [])) ++ (blk (.slice A50 n51 c52) :: blk (.slice A39 n40 c41) :: (q55 ++ []))) := (by rw [List.perm_iff_count]; intro a; (try simp only [List.count_append, List.count_cons, List.count_nil, Nat.add_zero, Nat.zero_add]); first | done | ac_rfl)
        have hc157 := hc155.drops hp156
        have hp158 : ((blk (.slice A50 n51 c52) :: blk (.slice A39 n40 c41) :: (q55 ++ [])) : Ob).Perm ((blk (.slice A50 n51 c52) :: (q55 ++ [])) ++ [blk (.slice A39 n40 c41)]) := (by rw [List.perm_iff_count]; intro a; (try simp only [List.count_append, List.count_cons, List.count_nil, Nat.add_zero, Nat.zero_add]); first | done | ac_rfl)
        have hc159 := hc157.drops hp158
        have hc160 := hc159.drop 0 rfl
        exact ⟨[vb false], ⟨_, rfl, rfl⟩, false, rfl, H, hc160.gr.g0⟩
      · have H := ite_f H hq153
        refine W_skip ?_
        refine W_seq ?_
        refine W_reg ?_
        refine L_pu (P_assign (vi 1) rfl) ?_
        refine L_nil ?_
        refine W_seq ?_
        refine W_reg ?_
        refine L_pu (P_move (.slice A50 n51 c52) rfl) ?_
        refine L_pu (P_move (vi 1) rfl) ?_
        have h163 := ((Ow.spa (A := (blk (.slice A117 n118 c119) :: (q122 ++ []))) (L := (blk (.slice A74 n75 c76) :: blk (.slice A50 n51 c52) :: blk (.slice A39 n40 c41) :: (q79 ++ (q55 ++ [])))) (O := O) (((Ow.spa (A := (blk (.slice A74 n75 c76) :: (q79 ++ []))) (L := (blk (.slice A50 n51 c52) :: blk (.slice A39 n40 c41) :: (q55 ++ []))) (O := O) ((Ow.spa (A := (blk (.slice A50 n51 c52) :: (q55 ++ []))) (L := [blk (.slice A39 n40 c41)]) (O := O) h53 hp62).sos g73 hk84) hp88).sn g104).sos g116 hk127) hp129).sn g148)
        have hd164 := ((((hd57.k0 g73).k0 g104).k0 g116).k0 g148)
        have hp165 : ((blk (.slice A117 n118 c119) :: blk (.slice A74 n75 c76) :: blk (.slice A50 n51 c52) :: blk (.slice A39 n40 c41) :: (q122 ++ (q79 ++ (q55 ++ [])))) : Ob).Perm ((blk (.slice A50 n51 c52) :: (q55 ++ [])) ++ (blk (.slice A117 n118 c119) :: blk (.slice A74 n75 c76) :: blk (.slice A39 n40 c41) :: (q122 ++ (q79 ++ [])))) := (by rw [List.perm_iff_count]; intro a; (try simp only [List.count_append, List.count_cons, List.count_nil, Nat.add_zero, Nat.zero_add]); first | done | ac_rfl)
        refine L_call go23 [.slice A50 n51 c52, vi 1] rfl ((laws_markChangeS.calls w147 hc152.ok r4 A50 n51 c52 ra56 q55 h163 hd164 (Dj.left (Dj.left (hc152.perm hp165).dj)) (fun b hb => List.mem_append_left _ (hp165.mem_iff.2 (List.mem_append_left _ hb))) 1 _ H).mono ?_)
        rintro _ w161 ⟨r9, m, ra168, rfl, H, g162, h166, hd167⟩
        have hc169 := hc152.dm g162 (fun b hb => hp165.mem_iff.2 (List.mem_append_left _ hb))
        refine L_pu (P_assign (vi r9) rfl) ?_
        refine L_nil ?_
        refine W_seq ?_
        refine W_seq ?_
        refine W_reg ?_
        refine L_pu (P_move (vi r9) rfl) ?_
        refine L_pu (P_cmp r9 0 (decide (r9 < 0)) rfl rfl rfl) ?_
        refine L_pu (P_move (vb (decide (r9 < 0))) rfl) ?_
        rcases bool_or (decide (r9 < 0)) with hq170 | hq170
        · have H := ite_t H hq170
          refine L_pass (dj := 37) rfl rfl (.inl (by exact congrArg Value.bool hq170)) ?_
          refine L_pass (dj := 37) rfl rfl (.inl (by exact congrArg Value.bool hq170)) ?_
          refine L_pass (dj := 37) rfl rfl (.inl (by exact congrArg Value.bool hq170)) ?_
          refine L_pass (dj := 37) rfl rfl (.inl (by exact congrArg Value.bool hq170)) ?_
          refine L_pu (P_pick true (vb true) (by exact congrArg Value.bool hq170) rfl) ?_
          refine L_nil ?_
          refine W_ct (b := true) rfl rfl ?_
          refine W_seq ?_
          refine W_reg ?_
          refine L_pu (P_assign (vb false) rfl) ?_
          refine L_nil ?_
          refine W_ret ?_
          have hp171 : ((blk (.slice A117 n118 c119) :: blk (.slice A74 n75 c76) :: blk (.slice A50 n51 c52) :: blk (.slice A39 n40 c41) :: (q122 ++ (q79 ++ (q55 ++ [])))) : Ob).Perm ((blk (.slice A117 n118 c119) :: (q122 ++ [])) ++ (blk (.slice A74 n75 c76) :: blk (.slice A50 n51 c52) :: blk (.slice A39 n40 c41) :: (q79 ++ (q55 ++ [])))) := (by rw [List.perm_iff_count]; intro a; (try simp only [List.count_append, List.count_cons, List.count_nil, Nat.add_zero, Nat.zero_add]); first | done | ac_rfl)
          have hc172 := hc169.drops hp171
          have hp173 : ((blk (.slice A74 n75 c76) :: blk (.slice A50 n51 c52) :: blk (.slice A39 n40 c41) :: (q79 ++ (q55 ++ []))) : Ob).Perm ((blk (.slice A74 n75 c76) :: (q79 ++ [])) ++ (blk (.slice A50 n51 c52) :: blk (.slice A39 n40 c41) :: (q55 ++ []))) := (by rw [List.perm_iff_count]; intro a; (try simp only [List.count_append, List.count_cons, List.count_nil, Nat.add_zero, Nat.zero_add]); first | done | ac_rfl)
          have hc174 := hc172.drops hp173
          have hp175 : ((blk (.slice A50 n51 c52) :: blk (.slice A39 n40 c41) :: (q55 ++ [])) : Ob).Perm ((blk (.slice A50 n51 c52) :: (q55 ++ [])) ++ [blk (.slice A39 n40 c41)]) := (by rw [List.perm_iff_count]; intro a; (try simp only [List.count_append, List.count_cons, List.count_nil, Nat.add_zero, Nat.zero_add]); first | done | ac_rfl)
          have hc176 := hc174.drops hp175
          have hc177 := hc176.drop 0 rfl
          exact ⟨[vb false], ⟨_, rfl, rfl⟩, false, rfl, H, hc177.gr.g0⟩
        · have H := ite_f H hq170
          refine L_run (dj := 37) rfl rfl (by exact congrArg Value.bool hq170) ?_
          refine L_pu (P_move (.slice A74 n75 c76) rfl) ?_
          refine L_run (dj := 37) rfl rfl (by exact congrArg Value.bool hq170) ?_
          refine L_pu (P_move (.slice A39 n40 c41) rfl) ?_
          refine L_run (dj := 37) rfl rfl (by exact congrArg Value.bool hq170) ?_
          have h178 := (Ow.gm ((Ow.spa (A := (blk (.slice A117 n118 c119) :: (q122 ++ []))) (L := (blk (.slice A74 n75 c76) :: blk (.slice A50 n51 c52) :: blk (.slice A39 n40 c41) :: (q79 ++ (q55 ++ [])))) (O := O) (((Ow.spa (A := (blk (.slice A74 n75 c76) :: (q79 ++ []))) (L := (blk (.slice A50 n51 c52) :: blk (.slice A39 n40 c41) :: (q55 ++ []))) (O := O) h87 hp88).sn g104).sos g116 hk127) hp129).sn g148) g162 (fun b hb => List.mem_append_left _ (hp165.mem_iff.2 (List.mem_append_left _ hb))) (Ct.sep1 (L := (blk (.slice A117 n118 c119) :: blk (.slice A74 n75 c76) :: blk (.slice A50 n51 c52) :: blk (.slice A39 n40 c41) :: (q122 ++ (q79 ++ (q55 ++ []))))) (O := O) hc152 (B := (blk (.slice A50 n51 c52) :: (q55 ++ []))) (C := (blk (.slice A117 n118 c119) :: blk (.slice A39 n40 c41) :: (q122 ++ (q79 ++ [])))) (by rw [List.perm_iff_count]; intro a; (try simp only [List.count_append, List.count_cons, List.count_nil, Nat.add_zero, Nat.zero_add]); first | done | ac_rfl)))
          have hd179 := (DArr.gm (((hd81.k0 g104).k0 g116).k0 g148) g162 (Ct.sep (L := (blk (.slice A117 n118 c119) :: blk (.slice A74 n75 c76) :: blk (.slice A50 n51 c52) :: blk (.slice A39 n40 c41) :: (q122 ++ (q79 ++ (q55 ++ []))))) (O := O) hc152 (A := q79) (B := (blk (.slice A50 n51 c52) :: (q55 ++ []))) (C := (blk (.slice A117 n118 c119) :: blk (.slice A74 n75 c76) :: blk (.slice A39 n40 c41) :: (q122 ++ []))) (by rw [List.perm_iff_count]; intro a; (try simp only [List.count_append, List.count_cons, List.count_nil, Nat.add_zero, Nat.zero_add]); first | done | ac_rfl)))
          have hp183 : ((blk (.slice A117 n118 c119) :: blk (.slice A74 n75 c76) :: blk (.slice A50 n51 c52) :: blk (.slice A39 n40 c41) :: (q122 ++ (q79 ++ (q55 ++ [])))) : Ob).Perm (blk (.slice A74 n75 c76) :: (q79 ++ (blk (.slice A117 n118 c119) :: blk (.slice A50 n51 c52) :: blk (.slice A39 n40 c41) :: (q122 ++ (q55 ++ []))))) := (by rw [List.perm_iff_count]; intro a; (try simp only [List.count_append, List.count_cons, List.count_nil, Nat.add_zero, Nat.zero_add]); first | done | ac_rfl)
          obtain ⟨h180, hc181, s182⟩ := Dp.gv (L := (blk (.slice A117 n118 c119) :: blk (.slice A74 n75 c76) :: blk (.slice A50 n51 c52) :: blk (.slice A39 n40 c41) :: (q122 ++ (q79 ++ (q55 ++ []))))) (O := O) h178 hd179 hc169 hp183
          have h186 := (Ow.drops (L := (blk (.slice A117 n118 c119) :: blk (.slice A74 n75 c76) :: blk (.slice A50 n51 c52) :: blk (.slice A39 n40 c41) :: (q122 ++ (q79 ++ (q55 ++ []))))) (O := O) (rs := blk (.slice A74 n75 c76) :: q79) (Ow.gm ((Ow.spa (A := (blk (.slice A117 n118 c119) :: (q122 ++ []))) (L := (blk (.slice A74 n75 c76) :: blk (.slice A50 n51 c52) :: blk (.slice A39 n40 c41) :: (q79 ++ (q55 ++ [])))) (O := O) (((Ow.spa (A := (blk (.slice A74 n75 c76) :: (q79 ++ []))) (L := (blk (.slice A50 n51 c52) :: blk (.slice A39 n40 c41) :: (q55 ++ []))) (O := O) ((Ow.spa (A := (blk (.slice A50 n51 c52) :: (q55 ++ []))) (L := [blk (.slice A39 n40 c41)]) (O := O) (h42.sos g49 hk60) hp62).sos g73 hk84) hp88).sn g104).sos g116 hk127) hp129).sn g148) g162 (fun b hb => List.mem_append_left _ (hp165.mem_iff.2 (List.mem_append_left _ hb))) (Ct.sep1 (L := (blk (.slice A117 n118 c119) :: blk (.slice A74 n75 c76) :: blk (.slice A50 n51 c52) :: blk (.slice A39 n40 c41) :: (q122 ++ (q79 ++ (q55 ++ []))))) (O := O) hc152 (B := (blk (.slice A50 n51 c52) :: (q55 ++ []))) (C := (blk (.slice A117 n118 c119) :: blk (.slice A74 n75 c76) :: (q122 ++ (q79 ++ [])))) (by rw [List.perm_iff_count]; intro a; (try simp only [List.count_append, List.count_cons, List.count_nil, Nat.add_zero, Nat.zero_add]); first | done | ac_rfl))) hp183 (memi 2 rfl))
          have h187 := Ow.gv (L := (blk (.slice A117 n118 c119) :: blk (.slice A50 n51 c52) :: blk (.slice A39 n40 c41) :: (q122 ++ (q55 ++ [])))) (O := O) h186 hc181 (i := 2) rfl
          have hc188 := hc181.drop 2 rfl
          have h190 := (h180.st (.dr _ (L := (blk (.slice A117 n118 c119) :: blk (.slice A50 n51 c52) :: blk (.slice A39 n40 c41) :: (q122 ++ (q55 ++ [])))) (O := O) (j := 2) rfl))
          refine L_call go22 [.slice A74 n75 c76, .slice A39 n40 c41] rfl ((laws_eqChangeS.calls w161 hc188.ok r5 A74 n75 c76 h190 r3 A39 n40 c41 h187 _ H).mono ?_)
          rintro _ w191 ⟨r10, rfl, H, g192⟩
          have hc196 := hc169.k0 g192
          refine L_run (dj := 37) rfl rfl (by exact congrArg Value.bool hq170) ?_
          refine L_pu (P_not r10 rfl) ?_
          refine L_pu (P_pick false (vb (!r10)) (by exact congrArg Value.bool hq170) rfl) ?_
          refine L_nil ?_
          refine W_cond (!r10) rfl (fun hq197 => ?_) (fun hq197 => ?_)
          · have H := ite_t H hq197
            refine W_seq ?_
            refine W_reg ?_
            refine L_pu (P_assign (vb false) rfl) ?_
            refine L_nil ?_
            refine W_ret ?_
            have hp198 : ((blk (.slice A117 n118 c119) :: blk (.slice A74 n75 c76) :: blk (.slice A50 n51 c52) :: blk (.slice A39 n40 c41) :: (q122 ++ (q79 ++ (q55 ++ [])))) : Ob).Perm ((blk (.slice A117 n118 c119) :: (q122 ++ [])) ++ (blk (.slice A74 n75 c76) :: blk (.slice A50 n51 c52) :: blk (.slice A39 n40 c41) :: (q79 ++ (q55 ++ [])))) := (by rw [List.perm_iff_count]; intro a; (try simp only [List.count_append, List.count_cons, List.count_nil, Nat.add_zero, Nat.zero_add]); first | done | ac_rfl)
            have hc199 := hc196.drops hp198
            have hp200 : ((blk (.slice A74 n75 c76) :: blk (.slice A50 n51 c52) :: blk (.slice A39 n40 c41) :: (q79 ++ (q55 ++ []))) : Ob).Perm ((blk (.slice A74 n75 c76) :: (q79 ++ [])) ++ (blk (.slice A50 n51 c52) :: blk (.slice A39 n40 c41) :: (q55 ++ []))) := (by rw [List.perm_iff_count]; intro a; (try simp only [List.count_append, List.count_cons, List.count_nil, Nat.add_zero, Nat.zero_add]); first | done | ac_rfl)
            have hc201 := hc199.drops hp200
            have hp202 : ((blk (.slice A50 n51 c52) :: blk (.slice A39 n40 c41) :: (q55 ++ [])) : Ob).Perm ((blk (.slice A50 n51 c52) :: (q55 ++ [])) ++ [blk (.slice A39 n40 c41)]) := (by rw [List.perm_iff_count]; intro a; (try simp only [List.count_append, List.count_cons, List.count_nil, Nat.add_zero, Nat.zero_add]); first | done | ac_rfl)
            have hc203 := hc201.drops hp202
            have hc204 := hc203.drop 0 rfl
            exact ⟨[vb false], ⟨_, rfl, rfl⟩, false, rfl, H, hc204.gr.g0⟩
          · have H := ite_f H hq197
            refine W_skip ?_
            refine W_seq ?_
            refine W_reg ?_
            refine L_pu (P_assign (vi 1) rfl) ?_
            refine L_nil ?_
            refine W_seq ?_
            refine W_reg ?_
            refine L_pu (P_move (.slice A74 n75 c76) rfl) ?_
            refine L_pu (P_move (vi 1) rfl) ?_
            have h207 := ((Ow.gm ((Ow.spa (A := (blk (.slice A117 n118 c119) :: (q122 ++ []))) (L := (blk (.slice A74 n75 c76) :: blk (.slice A50 n51 c52) :: blk (.slice A39 n40 c41) :: (q79 ++ (q55 ++ [])))) (O := O) (((Ow.spa (A := (blk (.slice A74 n75 c76) :: (q79 ++ []))) (L := (blk (.slice A50 n51 c52) :: blk (.slice A39 n40 c41) :: (q55 ++ []))) (O := O) h87 hp88).sn g104).sos g116 hk127) hp129).sn g148) g162 (fun b hb => List.mem_append_left _ (hp165.mem_iff.2 (List.mem_append_left _ hb))) (Ct.sep1 (L := (blk (.slice A117 n118 c119) :: blk (.slice A74 n75 c76) :: blk (.slice A50 n51 c52) :: blk (.slice A39 n40 c41) :: (q122 ++ (q79 ++ (q55 ++ []))))) (O := O) hc152 (B := (blk (.slice A50 n51 c52) :: (q55 ++ []))) (C := (blk (.slice A117 n118 c119) :: blk (.slice A39 n40 c41) :: (q122 ++ (q79 ++ [])))) (by rw [List.perm_iff_count]; intro a; (try simp only [List.count_append, List.count_cons, List.count_nil, Nat.add_zero, Nat.zero_add]); first | done | ac_rfl))).sn g192)
            have hd208 := ((DArr.gm (((hd81.k0 g104).k0 g116).k0 g148) g162 (Ct.sep (L := (blk (.slice A117 n118 c119) :: blk (.slice A74 n75 c76) :: blk (.slice A50 n51 c52) :: blk (.slice A39 n40 c41) :: (q122 ++ (q79 ++ (q55 ++ []))))) (O := O) hc152 (A := q79) (B := (blk (.slice A50 n51 c52) :: (q55 ++ []))) (C := (blk (.slice A117 n118 c119) :: blk (.slice A74 n75 c76) :: blk (.slice A39 n40 c41) :: (q122 ++ []))) (by rw [List.perm_iff_count]; intro a; (try simp only [List.count_append, List.count_cons, List.count_nil, Nat.add_zero, Nat.zero_add]); first | done | ac_rfl))).k0 g192)
            have hp209 : ((blk (.slice A117 n118 c119) :: blk (.slice A74 n75 c76) :: blk (.slice A50 n51 c52) :: blk (.slice A39 n40 c41) :: (q122 ++ (q79 ++ (q55 ++ [])))) : Ob).Perm ((blk (.slice A74 n75 c76) :: (q79 ++ [])) ++ (blk (.slice A117 n118 c119) :: blk (.slice A50 n51 c52) :: blk (.slice A39 n40 c41) :: (q122 ++ (q55 ++ [])))) := (by rw [List.perm_iff_count]; intro a; (try simp only [List.count_append, List.count_cons, List.count_nil, Nat.add_zero, Nat.zero_add]); first | done | ac_rfl)
            refine L_call go23 [.slice A74 n75 c76, vi 1] rfl ((laws_markChangeS.calls w191 hc196.ok r5 A74 n75 c76 ra80 q79 h207 hd208 (Dj.left (Dj.left (hc196.perm hp209).dj)) (fun b hb => List.mem_append_left _ (hp209.mem_iff.2 (List.mem_append_left _ hb))) 1 _ H).mono ?_)
            rintro _ w205 ⟨r11, m2, ra212, rfl, H, g206, h210, hd211⟩
            have hc213 := hc196.dm g206 (fun b hb => hp209.mem_iff.2 (List.mem_append_left _ hb))
            refine L_pu (P_assign (vi r11) rfl) ?_
            refine L_nil ?_
            refine W_seq ?_
            refine W_reg ?_
            refine L_pu (P_assign (vi 1) rfl) ?_
            refine L_nil ?_
            refine W_seq ?_
            refine W_reg ?_
            refine L_pu (P_move (.slice A74 n75 c76) rfl) ?_
            refine L_pu (P_move (vi 1) rfl) ?_
            have hp217 : ((blk (.slice A117 n118 c119) :: blk (.slice A74 n75 c76) :: blk (.slice A50 n51 c52) :: blk (.slice A39 n40 c41) :: (q122 ++ (q79 ++ (q55 ++ [])))) : Ob).Perm (blk (.slice A74 n75 c76) :: (q79 ++ (blk (.slice A117 n118 c119) :: blk (.slice A50 n51 c52) :: blk (.slice A39 n40 c41) :: (q122 ++ (q55 ++ []))))) := (by rw [List.perm_iff_count]; intro a; (try simp only [List.count_append, List.count_cons, List.count_nil, Nat.add_zero, Nat.zero_add]); first | done | ac_rfl)
            obtain ⟨h214, hc215, s216⟩ := Dp.gv (L := (blk (.slice A117 n118 c119) :: blk (.slice A74 n75 c76) :: blk (.slice A50 n51 c52) :: blk (.slice A39 n40 c41) :: (q122 ++ (q79 ++ (q55 ++ []))))) (O := O) h210 hd211 hc213 hp217
            refine L_call go24 [.slice A74 n75 c76, vi 1] rfl ((laws_heldChangeS.calls w205 hc215.ok m2 A74 n75 c76 h214 1 _ H).mono ?_)
            rintro _ w220 ⟨r12, rfl, H, g221⟩
            have hc225 := hc213.k0 g221
            refine L_pu (P_assign (vi r12) rfl) ?_
            refine L_nil ?_
            refine W_seq ?_
            refine W_seq ?_
            refine W_reg ?_
            refine L_pu (P_move (vi r12) rfl) ?_
            refine L_pu (P_cmp r12 0 (decide (r12 < 0)) rfl rfl rfl) ?_
            refine L_nil ?_
            refine W_cond (decide (r12 < 0)) rfl (fun hq226 => ?_) (fun hq226 => ?_)
            · have H := ite_t H hq226
              refine W_seq ?_
              refine W_reg ?_
              refine L_pu (P_assign (vb false) rfl) ?_
              refine L_nil ?_
              refine W_ret ?_
              have hp227 : ((blk (.slice A117 n118 c119) :: blk (.slice A74 n75 c76) :: blk (.slice A50 n51 c52) :: blk (.slice A39 n40 c41) :: (q122 ++ (q79 ++ (q55 ++ [])))) : Ob).Perm ((blk (.slice A117 n118 c119) :: (q122 ++ [])) ++ (blk (.slice A74 n75 c76) :: blk (.slice A50 n51 c52) :: blk (.slice A39 n40 c41) :: (q79 ++ (q55 ++ [])))) := (by rw [List.perm_iff_count]; intro a; (try simp only [List.count_append, List.count_cons, List.count_nil, Nat.add_zero, Nat.zero_add]); first | done | ac_rfl)
              have hc228 := hc225.drops hp227
              have hp229 : ((blk (.slice A74 n75 c76) :: blk (.slice A50 n51 c52) :: blk (.slice A39 n40 c41) :: (q79 ++ (q55 ++ []))) : Ob).Perm ((blk (.slice A74 n75 c76) :: (q79 ++ [])) ++ (blk (.slice A50 n51 c52) :: blk (.slice A39 n40 c41) :: (q55 ++ []))) := (by rw [List.perm_iff_count]; intro a; (try simp only [List.count_append, List.count_cons, List.count_nil, Nat.add_zero, Nat.zero_add]); first | done | ac_rfl)
              have hc230 := hc228.drops hp229
              have hp231 : ((blk (.slice A50 n51 c52) :: blk (.slice A39 n40 c41) :: (q55 ++ [])) : Ob).Perm ((blk (.slice A50 n51 c52) :: (q55 ++ [])) ++ [blk (.slice A39 n40 c41)]) := (by rw [List.perm_iff_count]; intro a; (try simp only [List.count_append, List.count_cons, List.count_nil, Nat.add_zero, Nat.zero_add]); first | done | ac_rfl)
              have hc232 := hc230.drops hp231
              have hc233 := hc232.drop 0 rfl
              exact ⟨[vb false], ⟨_, rfl, rfl⟩, false, rfl, H, hc233.gr.g0⟩
            · have H := ite_f H hq226
              refine W_skip ?_
              refine W_seq ?_
              refine W_seq ?_
              refine W_reg ?_
              refine L_pu (P_move (vi r12) rfl) ?_
              refine L_pu (P_move (vi r11) rfl) ?_
              refine L_pu (P_cmp r12 r11 (r12 != r11) rfl rfl rfl) ?_
              refine L_nil ?_
              refine W_cond (r12 != r11) rfl (fun hq234 => ?_) (fun hq234 => ?_)
              · have H := ite_t H hq234
                refine W_seq ?_
                refine W_reg ?_
                refine L_pu (P_assign (vb false) rfl) ?_
                refine L_nil ?_
                refine W_ret ?_
                have hp235 : ((blk (.slice A117 n118 c119) :: blk (.slice A74 n75 c76) :: blk (.slice A50 n51 c52) :: blk (.slice A39 n40 c41) :: (q122 ++ (q79 ++ (q55 ++ [])))) : Ob).Perm ((blk (.slice A117 n118 c119) :: (q122 ++ [])) ++ (blk (.slice A74 n75 c76) :: blk (.slice A50 n51 c52) :: blk (.slice A39 n40 c41) :: (q79 ++ (q55 ++ [])))) := (by rw [List.perm_iff_count]; intro a; (try simp only [List.count_append, List.count_cons, List.count_nil, Nat.add_zero, Nat.zero_add]); first | done | ac_rfl)
                have hc236 := hc225.drops hp235
                have hp237 : ((blk (.slice A74 n75 c76) :: blk (.slice A50 n51 c52) :: blk (.slice A39 n40 c41) :: (q79 ++ (q55 ++ []))) : Ob).Perm ((blk (.slice A74 n75 c76) :: (q79 ++ [])) ++ (blk (.slice A50 n51 c52) :: blk (.slice A39 n40 c41) :: (q55 ++ []))) := (by rw [List.perm_iff_count]; intro a; (try simp only [List.count_append, List.count_cons, List.count_nil, Nat.add_zero, Nat.zero_add]); first | done | ac_rfl)
                have hc238 := hc236.drops hp237
                have hp239 : ((blk (.slice A50 n51 c52) :: blk (.slice A39 n40 c41) :: (q55 ++ [])) : Ob).Perm ((blk (.slice A50 n51 c52) :: (q55 ++ [])) ++ [blk (.slice A39 n40 c41)]) := (by rw [List.perm_iff_count]; intro a; (try simp only [List.count_append, List.count_cons, List.count_nil, Nat.add_zero, Nat.zero_add]); first | done | ac_rfl)
                have hc240 := hc238.drops hp239
                have hc241 := hc240.drop 0 rfl
                exact ⟨[vb false], ⟨_, rfl, rfl⟩, false, rfl, H, hc241.gr.g0⟩
              · have H := ite_f H hq234
                refine W_skip ?_
                refine W_seq ?_
                refine W_reg ?_
                refine L_pu (P_move (.slice A1 n2 c3) rfl) ?_
                refine L_call go20 [.slice A1 n2 c3] rfl ((laws_toChangeS.calls w220 hc225.ok aD A1 n2 c3 (hp4.st hc225.st) _ H).mono ?_)
                rintro _ w242 ⟨r13, A244, n245, c246, q249, ra250, rfl, H, g243, hk253, hk254, h247, hd251⟩
                have hc255 := hc225.owns g243 hk253 hk254
                have hp256 : (((blk (.slice A244 n245 c246) :: (q249 ++ [])) ++ (blk (.slice A117 n118 c119) :: blk (.slice A74 n75 c76) :: blk (.slice A50 n51 c52) :: blk (.slice A39 n40 c41) :: (q122 ++ (q79 ++ (q55 ++ []))))) : Ob).Perm (blk (.slice A244 n245 c246) :: blk (.slice A117 n118 c119) :: blk (.slice A74 n75 c76) :: blk (.slice A50 n51 c52) :: blk (.slice A39 n40 c41) :: (q249 ++ (q122 ++ (q79 ++ (q55 ++ []))))) := (by rw [List.perm_iff_count]; intro a; (try simp only [List.count_append, List.count_cons, List.count_nil, Nat.add_zero, Nat.zero_add]); first | done | ac_rfl)
                have hc257 := hc255.perm hp256
                have h258 := (Ow.spa (A := (blk (.slice A244 n245 c246) :: (q249 ++ []))) (L := (blk (.slice A117 n118 c119) :: blk (.slice A74 n75 c76) :: blk (.slice A50 n51 c52) :: blk (.slice A39 n40 c41) :: (q122 ++ (q79 ++ (q55 ++ []))))) (O := O) h247 hp256)
                have hd259 := hd251
                have hp263 : ((blk (.slice A244 n245 c246) :: blk (.slice A117 n118 c119) :: blk (.slice A74 n75 c76) :: blk (.slice A50 n51 c52) :: blk (.slice A39 n40 c41) :: (q249 ++ (q122 ++ (q79 ++ (q55 ++ []))))) : Ob).Perm (blk (.slice A244 n245 c246) :: (q249 ++ (blk (.slice A117 n118 c119) :: blk (.slice A74 n75 c76) :: blk (.slice A50 n51 c52) :: blk (.slice A39 n40 c41) :: (q122 ++ (q79 ++ (q55 ++ [])))))) := (by rw [List.perm_iff_count]; intro a; (try simp only [List.count_append, List.count_cons, List.count_nil, Nat.add_zero, Nat.zero_add]); first | done | ac_rfl)
                obtain ⟨h260, hc261, s262⟩ := Dp.gv (L := (blk (.slice A244 n245 c246) :: blk (.slice A117 n118 c119) :: blk (.slice A74 n75 c76) :: blk (.slice A50 n51 c52) :: blk (.slice A39 n40 c41) :: (q249 ++ (q122 ++ (q79 ++ (q55 ++ [])))))) (O := O) h258 hd259 hc257 hp263
                refine L_call go21 [.slice A244 n245 c246] rfl ((impl_DiffBack.calls w242 hc261.ok r13 A244 n245 c246 h260 _ H).mono ?_)
                rintro _ w266 ⟨r14, A268, n269, c270, q273, ra274, rfl, H, g267, hk277, hk278, h271, hd275⟩
                have hk280 := Ok.unl (L := (blk (.slice A244 n245 c246) :: blk (.slice A117 n118 c119) :: blk (.slice A74 n75 c76) :: blk (.slice A50 n51 c52) :: blk (.slice A39 n40 c41) :: (q249 ++ (q122 ++ (q79 ++ (q55 ++ [])))))) (L' := (blk (.slice A117 n118 c119) :: blk (.slice A74 n75 c76) :: blk (.slice A50 n51 c52) :: blk (.slice A39 n40 c41) :: (q122 ++ (q79 ++ (q55 ++ []))))) (O := O) hc257 g267 hk277 hk278
                have h281 := Ow.unl (L := (blk (.slice A244 n245 c246) :: blk (.slice A117 n118 c119) :: blk (.slice A74 n75 c76) :: blk (.slice A50 n51 c52) :: blk (.slice A39 n40 c41) :: (q249 ++ (q122 ++ (q79 ++ (q55 ++ [])))))) (L' := (blk (.slice A117 n118 c119) :: blk (.slice A74 n75 c76) :: blk (.slice A50 n51 c52) :: blk (.slice A39 n40 c41) :: (q122 ++ (q79 ++ (q55 ++ []))))) (O := O) (fun _ _ _ _ _ _ h => h) (.cons _ (.cons_cons _ (.cons_cons _ (.cons_cons _ (.cons_cons _ (List.sublist_append_of_sublist_right (.append (.refl _) (.append (.refl _) (.append (.refl _) (.refl _)))))))))) h271
                have hc279 := hc257.owns g267 hk280 hk278
                have hp282 : (((blk (.slice A268 n269 c270) :: (q273 ++ [])) ++ (blk (.slice A244 n245 c246) :: blk (.slice A117 n118 c119) :: blk (.slice A74 n75 c76) :: blk (.slice A50 n51 c52) :: blk (.slice A39 n40 c41) :: (q249 ++ (q122 ++ (q79 ++ (q55 ++ [])))))) : Ob).Perm (blk (.slice A268 n269 c270) :: blk (.slice A244 n245 c246) :: blk (.slice A117 n118 c119) :: blk (.slice A74 n75 c76) :: blk (.slice A50 n51 c52) :: blk (.slice A39 n40 c41) :: (q273 ++ (q249 ++ (q122 ++ (q79 ++ (q55 ++ [])))))) := (by rw [List.perm_iff_count]; intro a; (try simp only [List.count_append, List.count_cons, List.count_nil, Nat.add_zero, Nat.zero_add]); first | done | ac_rfl)
                have hc283 := hc279.perm hp282
                refine L_pu (P_assign (.slice A268 n269 c270) rfl) ?_
                refine L_nil ?_
                refine W_seq ?_
                refine W_seq ?_
                refine W_reg ?_
                refine L_pu (P_move (.slice A268 n269 c270) rfl) ?_
                refine L_pu (P_move (.slice A39 n40 c41) rfl) ?_
                have h284 := (Ow.spa (A := (blk (.slice A268 n269 c270) :: (q273 ++ []))) (L := (blk (.slice A244 n245 c246) :: blk (.slice A117 n118 c119) :: blk (.slice A74 n75 c76) :: blk (.slice A50 n51 c52) :: blk (.slice A39 n40 c41) :: (q249 ++ (q122 ++ (q79 ++ (q55 ++ [])))))) (O := O) h281 hp282)
                have hd285 := hd275
                have hp289 : ((blk (.slice A268 n269 c270) :: blk (.slice A244 n245 c246) :: blk (.slice A117 n118 c119) :: blk (.slice A74 n75 c76) :: blk (.slice A50 n51 c52) :: blk (.slice A39 n40 c41) :: (q273 ++ (q249 ++ (q122 ++ (q79 ++ (q55 ++ [])))))) : Ob).Perm (blk (.slice A268 n269 c270) :: (q273 ++ (blk (.slice A244 n245 c246) :: blk (.slice A117 n118 c119) :: blk (.slice A74 n75 c76) :: blk (.slice A50 n51 c52) :: blk (.slice A39 n40 c41) :: (q249 ++ (q122 ++ (q79 ++ (q55 ++ []))))))) := (by rw [List.perm_iff_count]; intro a; (try simp only [List.count_append, List.count_cons, List.count_nil, Nat.add_zero, Nat.zero_add]); first | done | ac_rfl)
                obtain ⟨h286, hc287, s288⟩ := Dp.gv (L := (blk (.slice A268 n269 c270) :: blk (.slice A244 n245 c246) :: blk (.slice A117 n118 c119) :: blk (.slice A74 n75 c76) :: blk (.slice A50 n51 c52) :: blk (.slice A39 n40 c41) :: (q273 ++ (q249 ++ (q122 ++ (q79 ++ (q55 ++ []))))))) (O := O) h284 hd285 hc283 hp289
                have h292 := (Ow.drops (L := (blk (.slice A268 n269 c270) :: blk (.slice A244 n245 c246) :: blk (.slice A117 n118 c119) :: blk (.slice A74 n75 c76) :: blk (.slice A50 n51 c52) :: blk (.slice A39 n40 c41) :: (q273 ++ (q249 ++ (q122 ++ (q79 ++ (q55 ++ []))))))) (O := O) (rs := blk (.slice A268 n269 c270) :: q273) (Ow.spa (A := (blk (.slice A268 n269 c270) :: (q273 ++ []))) (L := (blk (.slice A244 n245 c246) :: blk (.slice A117 n118 c119) :: blk (.slice A74 n75 c76) :: blk (.slice A50 n51 c52) :: blk (.slice A39 n40 c41) :: (q249 ++ (q122 ++ (q79 ++ (q55 ++ [])))))) (O := O) ((Ow.spa (A := (blk (.slice A244 n245 c246) :: (q249 ++ []))) (L := (blk (.slice A117 n118 c119) :: blk (.slice A74 n75 c76) :: blk (.slice A50 n51 c52) :: blk (.slice A39 n40 c41) :: (q122 ++ (q79 ++ (q55 ++ []))))) (O := O) (((Ow.gm ((Ow.gm ((Ow.spa (A := (blk (.slice A117 n118 c119) :: (q122 ++ []))) (L := (blk (.slice A74 n75 c76) :: blk (.slice A50 n51 c52) :: blk (.slice A39 n40 c41) :: (q79 ++ (q55 ++ [])))) (O := O) (((Ow.spa (A := (blk (.slice A74 n75 c76) :: (q79 ++ []))) (L := (blk (.slice A50 n51 c52) :: blk (.slice A39 n40 c41) :: (q55 ++ []))) (O := O) ((Ow.spa (A := (blk (.slice A50 n51 c52) :: (q55 ++ []))) (L := [blk (.slice A39 n40 c41)]) (O := O) (h42.sos g49 hk60) hp62).sos g73 hk84) hp88).sn g104).sos g116 hk127) hp129).sn g148) g162 (fun b hb => List.mem_append_left _ (hp165.mem_iff.2 (List.mem_append_left _ hb))) (Ct.sep1 (L := (blk (.slice A117 n118 c119) :: blk (.slice A74 n75 c76) :: blk (.slice A50 n51 c52) :: blk (.slice A39 n40 c41) :: (q122 ++ (q79 ++ (q55 ++ []))))) (O := O) hc152 (B := (blk (.slice A50 n51 c52) :: (q55 ++ []))) (C := (blk (.slice A117 n118 c119) :: blk (.slice A74 n75 c76) :: (q122 ++ (q79 ++ [])))) (by rw [List.perm_iff_count]; intro a; (try simp only [List.count_append, List.count_cons, List.count_nil, Nat.add_zero, Nat.zero_add]); first | done | ac_rfl))).sn g192) g206 (fun b hb => List.mem_append_left _ (hp209.mem_iff.2 (List.mem_append_left _ hb))) (Ct.sep1 (L := (blk (.slice A117 n118 c119) :: blk (.slice A74 n75 c76) :: blk (.slice A50 n51 c52) :: blk (.slice A39 n40 c41) :: (q122 ++ (q79 ++ (q55 ++ []))))) (O := O) hc196 (B := (blk (.slice A74 n75 c76) :: (q79 ++ []))) (C := (blk (.slice A117 n118 c119) :: blk (.slice A50 n51 c52) :: (q122 ++ (q55 ++ [])))) (by rw [List.perm_iff_count]; intro a; (try simp only [List.count_append, List.count_cons, List.count_nil, Nat.add_zero, Nat.zero_add]); first | done | ac_rfl))).sn g221).sos g243 hk254) hp256).sos g267 hk278) hp282) hp289 (memi 4 rfl))
                have h293 := Ow.gv (L := (blk (.slice A244 n245 c246) :: blk (.slice A117 n118 c119) :: blk (.slice A74 n75 c76) :: blk (.slice A50 n51 c52) :: blk (.slice A39 n40 c41) :: (q249 ++ (q122 ++ (q79 ++ (q55 ++ [])))))) (O := O) h292 hc287 (i := 4) rfl
                have hc294 := hc287.drop 4 rfl
                have h296 := (h286.st (.dr _ (L := (blk (.slice A244 n245 c246) :: blk (.slice A117 n118 c119) :: blk (.slice A74 n75 c76) :: blk (.slice A50 n51 c52) :: blk (.slice A39 n40 c41) :: (q249 ++ (q122 ++ (q79 ++ (q55 ++ [])))))) (O := O) (j := 4) rfl))
                refine L_call go22 [.slice A268 n269 c270, .slice A39 n40 c41] rfl ((laws_eqChangeS.calls w266 hc294.ok r14 A268 n269 c270 h296 r3 A39 n40 c41 h293 _ H).mono ?_)
                rintro _ w297 ⟨r15, rfl, H, g298⟩
                have hc302 := hc283.k0 g298
                refine L_pu (P_not r15 rfl) ?_
                refine L_nil ?_
                refine W_cond (!r15) rfl (fun hq303 => ?_) (fun hq303 => ?_)
                · have H := ite_t H hq303
                  refine W_seq ?_
                  refine W_reg ?_
                  refine L_pu (P_assign (vb false) rfl) ?_
                  refine L_nil ?_
                  refine W_ret ?_
                  have hp304 : ((blk (.slice A268 n269 c270) :: blk (.slice A244 n245 c246) :: blk (.slice A117 n118 c119) :: blk (.slice A74 n75 c76) :: blk (.slice A50 n51 c52) :: blk (.slice A39 n40 c41) :: (q273 ++ (q249 ++ (q122 ++ (q79 ++ (q55 ++ [])))))) : Ob).Perm ((blk (.slice A268 n269 c270) :: (q273 ++ [])) ++ (blk (.slice A244 n245 c246) :: blk (.slice A117 n118 c119) :: blk (.slice A74 n75 c76) :: blk (.slice A50 n51 c52) :: blk (.slice A39 n40 c41) :: (q249 ++ (q122 ++ (q79 ++ (q55 ++ [])))))) := (by rw [List.perm_iff_count]; intro a; (try simp only [List.count_append, List.count_cons, List.count_nil, Nat.add_zero, Nat.zero_add]); first | done | ac_rfl)
                  have hc305 := hc302.drops hp304
                  have hp306 : ((blk (.slice A244 n245 c246) :: blk (.slice A117 n118 c119) :: blk (.slice A74 n75 c76) :: blk (.slice A50 n51 c52) :: blk (.slice A39 n40 c41) :: (q249 ++ (q122 ++ (q79 ++ (q55 ++ []))))) : Ob).Perm ((blk (.slice A244 n245 c246) :: (q249 ++ [])) ++ (blk (.slice A117 n118 c119) :: blk (.slice A74 n75 c76) :: blk (.slice A50 n51 c52) :: blk (.slice A39 n40 c41) :: (q122 ++ (q79 ++ (q55 ++ []))))) := (by rw [List.perm_iff_count]; intro a; (try simp only [List.count_append, List.count_cons, List.count_nil, Nat.add_zero, Nat.zero_add]); first | done | ac_rfl)
                  have hc307 := hc305.drops hp306
                  have hp308 : ((blk (.slice A117 n118 c119) :: blk (.slice A74 n75 c76) :: blk (.slice A50 n51 c52) :: blk (.slice A39 n40 c41) :: (q122 ++ (q79 ++ (q55 ++ [])))) : Ob).Perm ((blk (.slice A117 n118 c119) :: (q122 ++ [])) ++ (blk (.slice A74 n75 c76) :: blk (.slice A50 n51 c52) :: blk (.slice A39 n40 c41) :: (q79 ++ (q55 ++ [])))) := (by rw [List.perm_iff_count]; intro a; (try simp only [List.count_append, List.count_cons, List.count_nil, Nat.add_zero, Nat.zero_add]); first | done | ac_rfl)
                  have hc309 := hc307.drops hp308
                  have hp310 : ((blk (.slice A74 n75 c76) :: blk (.slice A50 n51 c52) :: blk (.slice A39 n40 c41) :: (q79 ++ (q55 ++ []))) : Ob).Perm ((blk (.slice A74 n75 c76) :: (q79 ++ [])) ++ (blk (.slice A50 n51 c52) :: blk (.slice A39 n40 c41) :: (q55 ++ []))) := (by rw [List.perm_iff_count]; intro a; (try simp only [List.count_append, List.count_cons, List.count_nil, Nat.add_zero, Nat.zero_add]); first | done | ac_rfl)
                  have hc311 := hc309.drops hp310
                  have hp312 : ((blk (.slice A50 n51 c52) :: blk (.slice A39 n40 c41) :: (q55 ++ [])) : Ob).Perm ((blk (.slice A50 n51 c52) :: (q55 ++ [])) ++ [blk (.slice A39 n40 c41)]) := (by rw [List.perm_iff_count]; intro a; (try simp only [List.count_append, List.count_cons, List.count_nil, Nat.add_zero, Nat.zero_add]); first | done | ac_rfl)
                  have hc313 := hc311.drops hp312
                  have hc314 := hc313.drop 0 rfl
                  exact ⟨[vb false], ⟨_, rfl, rfl⟩, false, rfl, H, hc314.gr.g0⟩
                · have H := ite_f H hq303
                  refine W_skip ?_
                  refine W_seq ?_
                  refine W_reg ?_
                  refine L_pu (P_assign (vi 1) rfl) ?_
                  refine L_nil ?_
                  refine W_seq ?_
                  refine W_reg ?_
                  refine L_pu (P_move (.slice A74 n75 c76) rfl) ?_
                  refine L_pu (P_move (vi 1) rfl) ?_
                  have h315 := ((Ow.spa (A := (blk (.slice A268 n269 c270) :: (q273 ++ []))) (L := (blk (.slice A244 n245 c246) :: blk (.slice A117 n118 c119) :: blk (.slice A74 n75 c76) :: blk (.slice A50 n51 c52) :: blk (.slice A39 n40 c41) :: (q249 ++ (q122 ++ (q79 ++ (q55 ++ [])))))) (O := O) ((Ow.spa (A := (blk (.slice A244 n245 c246) :: (q249 ++ []))) (L := (blk (.slice A117 n118 c119) :: blk (.slice A74 n75 c76) :: blk (.slice A50 n51 c52) :: blk (.slice A39 n40 c41) :: (q122 ++ (q79 ++ (q55 ++ []))))) (O := O) ((h210.sn g221).sos g243 hk254) hp256).sos g267 hk278) hp282).sn g298)
                  have hd316 := ((((hd211.k0 g221).k0 g243).k0 g267).k0 g298)
                  have hp320 : ((blk (.slice A268 n269 c270) :: blk (.slice A244 n245 c246) :: blk (.slice A117 n118 c119) :: blk (.slice A74 n75 c76) :: blk (.slice A50 n51 c52) :: blk (.slice A39 n40 c41) :: (q273 ++ (q249 ++ (q122 ++ (q79 ++ (q55 ++ [])))))) : Ob).Perm (blk (.slice A74 n75 c76) :: (q79 ++ (blk (.slice A268 n269 c270) :: blk (.slice A244 n245 c246) :: blk (.slice A117 n118 c119) :: blk (.slice A50 n51 c52) :: blk (.slice A39 n40 c41) :: (q273 ++ (q249 ++ (q122 ++ (q55 ++ []))))))) := (by rw [List.perm_iff_count]; intro a; (try simp only [List.count_append, List.count_cons, List.count_nil, Nat.add_zero, Nat.zero_add]); first | done | ac_rfl)
                  obtain ⟨h317, hc318, s319⟩ := Dp.gv (L := (blk (.slice A268 n269 c270) :: blk (.slice A244 n245 c246) :: blk (.slice A117 n118 c119) :: blk (.slice A74 n75 c76) :: blk (.slice A50 n51 c52) :: blk (.slice A39 n40 c41) :: (q273 ++ (q249 ++ (q122 ++ (q79 ++ (q55 ++ []))))))) (O := O) h315 hd316 hc302 hp320
                  refine L_call go24 [.slice A74 n75 c76, vi 1] rfl ((laws_heldChangeS.calls w297 hc318.ok m2 A74 n75 c76 h317 1 _ H).mono ?_)
                  rintro _ w323 ⟨r16, rfl, H, g324⟩
                  have hc328 := hc302.k0 g324
                  refine L_pu (P_assign (vi r16) rfl) ?_
                  refine L_nil ?_
                  refine W_seq ?_
                  refine W_seq ?_
                  refine W_reg ?_
                  refine L_pu (P_move (vi r16) rfl) ?_
                  refine L_pu (P_cmp r16 0 (decide (r16 < 0)) rfl rfl rfl) ?_
                  refine L_nil ?_
                  refine W_cond (decide (r16 < 0)) rfl (fun hq329 => ?_) (fun hq329 => ?_)
                  · have H := ite_t H hq329
                    refine W_seq ?_
                    refine W_reg ?_
                    refine L_pu (P_assign (vb false) rfl) ?_
                    refine L_nil ?_
                    refine W_ret ?_
                    have hp330 : ((blk (.slice A268 n269 c270) :: blk (.slice A244 n245 c246) :: blk (.slice A117 n118 c119) :: blk (.slice A74 n75 c76) :: blk (.slice A50 n51 c52) :: blk (.slice A39 n40 c41) :: (q273 ++ (q249 ++ (q122 ++ (q79 ++ (q55 ++ [])))))) : Ob).Perm ((blk (.slice A268 n269 c270) :: (q273 ++ [])) ++ (blk (.slice A244 n245 c246) :: blk (.slice A117 n118 c119) :: blk (.slice A74 n75 c76) :: blk (.slice A50 n51 c52) :: blk (.slice A39 n40 c41) :: (q249 ++ (q122 ++ (q79 ++ (q55 ++ [])))))) := (by rw [List.perm_iff_count]; intro a; (try simp only [List.count_append, List.count_cons, List.count_nil, Nat.add_zero, Nat.zero_add]); first | done | ac_rfl)
                    have hc331 := hc328.drops hp330
                    have hp332 : ((blk (.slice A244 n245 c246) :: blk (.slice A117 n118 c119) :: blk (.slice A74 n75 c76) :: blk (.slice A50 n51 c52) :: blk (.slice A39 n40 c41) :: (q249 ++ (q122 ++ (q79 ++ (q55 ++ []))))) : Ob).Perm ((blk (.slice A244 n245 c246) :: (q249 ++ [])) ++ (blk (.slice A117 n118 c119) :: blk (.slice A74 n75 c76) :: blk (.slice A50 n51 c52) :: blk (.slice A39 n40 c41) :: (q122 ++ (q79 ++ (q55 ++ []))))) := (by rw [List.perm_iff_count]; intro a; (try simp only [List.count_append, List.count_cons, List.count_nil, Nat.add_zero, Nat.zero_add]); first | done | ac_rfl)
                    have hc333 := hc331.drops hp332
                    have hp334 : ((blk (.slice A117 n118 c119) :: blk (.slice A74 n75 c76) :: blk (.slice A50 n51 c52) :: blk (.slice A39 n40 c41) :: (q122 ++ (q79 ++ (q55 ++ [])))) : Ob).Perm ((blk (.slice A117 n118 c119) :: (q122 ++ [])) ++ (blk (.slice A74 n75 c76) :: blk (.slice A50 n51 c52) :: blk (.slice A39 n40 c41) :: (q79 ++ (q55 ++ [])))) := (by rw [List.perm_iff_count]; intro a; (try simp only [List.count_append, List.count_cons, List.count_nil, Nat.add_zero, Nat.zero_add]); first | done | ac_rfl)
                    have hc335 := hc333.drops hp334
                    have hp336 : ((blk (.slice A74 n75 c76) :: blk (.slice A50 n51 c52) :: blk (.slice A39 n40 c41) :: (q79 ++ (q55 ++ []))) : Ob).Perm ((blk (.slice A74 n75 c76) :: (q79 ++ [])) ++ (blk (.slice A50 n51 c52) :: blk (.slice A39 n40 c41) :: (q55 ++ []))) := (by rw [List.perm_iff_count]; intro a; (try simp only [List.count_append, List.count_cons, List.count_nil, Nat.add_zero, Nat.zero_add]); first | done | ac_rfl)
                    have hc337 := hc335.drops hp336
                    have hp338 : ((blk (.slice A50 n51 c52) :: blk (.slice A39 n40 c41) :: (q55 ++ [])) : Ob).Perm ((blk (.slice A50 n51 c52) :: (q55 ++ [])) ++ [blk (.slice A39 n40 c41)]) := (by rw [List.perm_iff_count]; intro a; (try simp only [List.count_append, List.count_cons, List.count_nil, Nat.add_zero, Nat.zero_add]); first | done | ac_rfl)
                    have hc339 := hc337.drops hp338
                    have hc340 := hc339.drop 0 rfl
                    exact ⟨[vb false], ⟨_, rfl, rfl⟩, false, rfl, H, hc340.gr.g0⟩
                  · have H := ite_f H hq329
                    refine W_skip ?_
                    refine W_seq ?_
                    refine W_seq ?_
                    refine W_reg ?_
                    refine L_pu (P_move (vi r16) rfl) ?_
                    refine L_pu (P_move (vi r11) rfl) ?_
                    refine L_pu (P_cmp r16 r11 (r16 != r11) rfl rfl rfl) ?_
                    refine L_nil ?_
                    refine W_cond (r16 != r11) rfl (fun hq341 => ?_) (fun hq341 => ?_)
                    · have H := ite_t H hq341
                      refine W_seq ?_
                      refine W_reg ?_
                      refine L_pu (P_assign (vb false) rfl) ?_
                      refine L_nil ?_
                      refine W_ret ?_
                      have hp342 : ((blk (.slice A268 n269 c270) :: blk (.slice A244 n245 c246) :: blk (.slice A117 n118 c119) :: blk (.slice A74 n75 c76) :: blk (.slice A50 n51 c52) :: blk (.slice A39 n40 c41) :: (q273 ++ (q249 ++ (q122 ++ (q79 ++ (q55 ++ [])))))) : Ob).Perm ((blk (.slice A268 n269 c270) :: (q273 ++ [])) ++ (blk (.slice A244 n245 c246) :: blk (.slice A117 n118 c119) :: blk (.slice A74 n75 c76) :: blk (.slice A50 n51 c52) :: blk (.slice A39 n40 c41) :: (q249 ++ (q122 ++ (q79 ++ (q55 ++ [])))))) := (by rw [List.perm_iff_count]; intro a; (try simp only [List.count_append, List.count_cons, List.count_nil, Nat.add_zero, Nat.zero_add]); first | done | ac_rfl)
                      have hc343 := hc328.drops hp342
                      have hp344 : ((blk (.slice A244 n245 c246) :: blk (.slice A117 n118 c119) :: blk (.slice A74 n75 c76) :: blk (.slice A50 n51 c52) :: blk (.slice A39 n40 c41) :: (q249 ++ (q122 ++ (q79 ++ (q55 ++ []))))) : Ob).Perm ((blk (.slice A244 n245 c246) :: (q249 ++ [])) ++ (blk (.slice A117 n118 c119) :: blk (.slice A74 n75 c76) :: blk (.slice A50 n51 c52) :: blk (.slice A39 n40 c41) :: (q122 ++ (q79 ++ (q55 ++ []))))) := (by rw [List.perm_iff_count]; intro a; (try simp only [List.count_append, List.count_cons, List.count_nil, Nat.add_zero, Nat.zero_add]); first | done | ac_rfl)
                      have hc345 := hc343.drops hp344
                      have hp346 : ((blk (.slice A117 n118 c119) :: blk (.slice A74 n75 c76) :: blk (.slice A50 n51 c52) :: blk (.slice A39 n40 c41) :: (q122 ++ (q79 ++ (q55 ++ [])))) : Ob).Perm ((blk (.slice A117 n118 c119) :: (q122 ++ [])) ++ (blk (.slice A74 n75 c76) :: blk (.slice A50 n51 c52) :: blk (.slice A39 n40 c41) :: (q79 ++ (q55 ++ [])))) := (by rw [List.perm_iff_count]; intro a; (try simp only [List.count_append, List.count_cons, List.count_nil, Nat.add_zero, Nat.zero_add]); first | done | ac_rfl)
                      have hc347 := hc345.drops hp346
                      have hp348 : ((blk (.slice A74 n75 c76) :: blk (.slice A50 n51 c52) :: blk (.slice A39 n40 c41) :: (q79 ++ (q55 ++ []))) : Ob).Perm ((blk (.slice A74 n75 c76) :: (q79 ++ [])) ++ (blk (.slice A50 n51 c52) :: blk (.slice A39 n40 c41) :: (q55 ++ []))) := (by rw [List.perm_iff_count]; intro a; (try simp only [List.count_append, List.count_cons, List.count_nil, Nat.add_zero, Nat.zero_add]); first | done | ac_rfl)
                      have hc349 := hc347.drops hp348
                      have hp350 : ((blk (.slice A50 n51 c52) :: blk (.slice A39 n40 c41) :: (q55 ++ [])) : Ob).Perm ((blk (.slice A50 n51 c52) :: (q55 ++ [])) ++ [blk (.slice A39 n40 c41)]) := (by rw [List.perm_iff_count]; intro a; (try simp only [List.count_append, List.count_cons, List.count_nil, Nat.add_zero, Nat.zero_add]); first | done | ac_rfl)
                      have hc351 := hc349.drops hp350
                      have hc352 := hc351.drop 0 rfl
                      exact ⟨[vb false], ⟨_, rfl, rfl⟩, false, rfl, H, hc352.gr.g0⟩
                    · have H := ite_f H hq341
                      refine W_skip ?_
                      refine W_seq ?_
                      refine W_reg ?_
                      refine L_pu (P_assign (vb true) rfl) ?_
                      refine L_nil ?_
                      refine W_ret ?_
                      have hp353 : ((blk (.slice A268 n269 c270) :: blk (.slice A244 n245 c246) :: blk (.slice A117 n118 c119) :: blk (.slice A74 n75 c76) :: blk (.slice A50 n51 c52) :: blk (.slice A39 n40 c41) :: (q273 ++ (q249 ++ (q122 ++ (q79 ++ (q55 ++ [])))))) : Ob).Perm ((blk (.slice A268 n269 c270) :: (q273 ++ [])) ++ (blk (.slice A244 n245 c246) :: blk (.slice A117 n118 c119) :: blk (.slice A74 n75 c76) :: blk (.slice A50 n51 c52) :: blk (.slice A39 n40 c41) :: (q249 ++ (q122 ++ (q79 ++ (q55 ++ [])))))) := (by rw [List.perm_iff_count]; intro a; (try simp only [List.count_append, List.count_cons, List.count_nil, Nat.add_zero, Nat.zero_add]); first | done | ac_rfl)
                      have hc354 := hc328.drops hp353
                      have hp355 : ((blk (.slice A244 n245 c246) :: blk (.slice A117 n118 c119) :: blk (.slice A74 n75 c76) :: blk (.slice A50 n51 c52) :: blk (.slice A39 n40 c41) :: (q249 ++ (q122 ++ (q79 ++ (q55 ++ []))))) : Ob).Perm ((blk (.slice A244 n245 c246) :: (q249 ++ [])) ++ (blk (.slice A117 n118 c119) :: blk (.slice A74 n75 c76) :: blk (.slice A50 n51 c52) :: blk (.slice A39 n40 c41) :: (q122 ++ (q79 ++ (q55 ++ []))))) := (by rw [List.perm_iff_count]; intro a; (try simp only [List.count_append, List.count_cons, List.count_nil, Nat.add_zero, Nat.zero_add]); first | done | ac_rfl)
                      have hc356 := hc354.drops hp355
                      have hp357 : ((blk (.slice A117 n118 c119) :: blk (.slice A74 n75 c76) :: blk (.slice A50 n51 c52) :: blk (.slice A39 n40 c41) :: (q122 ++ (q79 ++ (q55 ++ [])))) : Ob).Perm ((blk (.slice A117 n118 c119) :: (q122 ++ [])) ++ (blk (.slice A74 n75 c76) :: blk (.slice A50 n51 c52) :: blk (.slice A39 n40 c41) :: (q79 ++ (q55 ++ [])))) := (by rw [List.perm_iff_count]; intro a; (try simp only [List.count_append, List.count_cons, List.count_nil, Nat.add_zero, Nat.zero_add]); first | done | ac_rfl)
                      have hc358 := hc356.drops hp357
                      have hp359 : ((blk (.slice A74 n75 c76) :: blk (.slice A50 n51 c52) :: blk (.slice A39 n40 c41) :: (q79 ++ (q55 ++ []))) : Ob).Perm ((blk (.slice A74 n75 c76) :: (q79 ++ [])) ++ (blk (.slice A50 n51 c52) :: blk (.slice A39 n40 c41) :: (q55 ++ []))) := (by rw [List.perm_iff_count]; intro a; (try simp only [List.count_append, List.count_cons, List.count_nil, Nat.add_zero, Nat.zero_add]); first | done | ac_rfl)
                      have hc360 := hc358.drops hp359
                      have hp361 : ((blk (.slice A50 n51 c52) :: blk (.slice A39 n40 c41) :: (q55 ++ [])) : Ob).Perm ((blk (.slice A50 n51 c52) :: (q55 ++ [])) ++ [blk (.slice A39 n40 c41)]) := (by rw [List.perm_iff_count]; intro a; (try simp only [List.count_append, List.count_cons, List.count_nil, Nat.add_zero, Nat.zero_add]); first | done | ac_rfl)
                      have hc362 := hc360.drops hp361
                      have hc363 := hc362.drop 0 rfl
                      exact ⟨[vb true], ⟨_, rfl, rfl⟩, true, rfl, H, hc363.gr.g0⟩
end Go.Proofs.Ytndjggncgpjolaa

namespace Go.Proofs.Ytndjggncgpjolaa
set_option linter.unusedVariables false
set_option linter.unusedSimpArgs false
set_option linter.unusedSectionVars false
def turnC (c : Change) : Change := ⟨c.Id, c.Has, c.Now, c.Had, c.Was⟩
def turnD (d : List Change) : List Change := if diffOk d then d.map turnC else []
theorem bulk_turn (d : List Change) : bulk (d.map turnC) = bulk d := by
  induction d with
  | nil => rfl
  | cons c d ih =>
    rw [List.map_cons, bulk_cons, bulk_cons, ih, bulk_change, bulk_change c]
    unfold turnC
    dsimp only
    omega
theorem bulk_turnD (d : List Change) : bulk (turnD d) ≤ bulk d := by
  unfold turnD
  cases h : diffOk d with
  | false => rw [if_neg (by decide)]; exact Nat.zero_le _
  | true => rw [if_pos rfl, bulk_turn]; exact Nat.le_refl _
theorem spec_l2Copy.law (f : Feat) (Q : Feat → Prop) (hb : bulk f ≤ 1048576) (hq : Q f) : spec_l2Copy.E f Q := by
  unfold spec_l2Copy.E spec_l1Copy.E
  have h := bulk_feat f
  have h1 := bulk_len f.Tags
  have h2 := bulk_len f.Shape.Pts
  exact ⟨by simp only [List.length_nil]; omega, by simp only [List.length_nil]; omega, hq⟩
theorem impl_cloneFeat.law (f : Feat) (Q : Feat → Prop) (hb : bulk f ≤ 1048576) (hq : Q f) : impl_cloneFeat.E f Q := by
  unfold impl_cloneFeat.E impl_cloneShape.E
  have h := bulk_feat f
  have h1 := bulk_len f.Tags
  have h2 := bulk_len f.Shape.Pts
  exact ⟨by simp only [List.length_nil]; omega, by simp only [List.length_nil]; omega, hq⟩
theorem spec_DiffBack.law (d : List Change) (Q : List Change → Prop) (hb : bulk d ≤ 1048576) (hq : Q (turnD d)) : spec_DiffBack.E d Q := by
  unfold spec_DiffBack.E
  have hl := bulk_len d
  refine ⟨fun xs i => ∃ u : Nat, i = u ∧ u ≤ d.length ∧ (0 < u → diffOk d = true) ∧ xs = (d.take u).map turnC, fun _ i => (d.length - i).toNat, ⟨0, rfl, Nat.zero_le _, fun h => absurd h (by omega), rfl⟩, ?_⟩
  rintro _ _ ⟨u, rfl, hu, hd, rfl⟩
  by_cases h : u < d.length
  · rw [if_pos (by simpa using h)]
    refine spec_DiffOk.law _ _ ?_
    cases hk : diffOk d with
    | false =>
      rw [if_neg (by decide)]
      have : u = 0 := by
        rcases Nat.eq_zero_or_pos u with h0 | h0
        · exact h0
        · have := hd h0; rw [hk] at this; cases this
      subst this
      have e : turnD d = [] := by unfold turnD; rw [hk]; rfl
      rw [e] at hq; exact hq
    | true =>
      rw [if_pos rfl]
      have hm := bulk_mem (nth_mem d h)
      have hc := bulk_change (nth d (u : Int))
      refine ⟨by omega, ?_⟩
      unfold spec_l4Copy.E
      refine spec_l2Copy.law _ _ (by omega) (spec_l2Copy.law _ _ (by omega) ⟨by simp only [List.length_map, List.length_take, List.length_cons, List.length_nil]; omega, by omega, ⟨u + 1, by omega, by omega, fun _ => (by first | rfl | exact hk), ?_⟩, by dsimp only; omega⟩)
      rw [take_nth d h, List.map_append]; rfl
  · rw [if_neg (by simpa using h)]
    have : u = d.length := by omega
    subst this
    rw [List.take_length]
    cases hk : diffOk d with
    | true =>
      have e : turnD d = d.map turnC := by unfold turnD; rw [hk]; rfl
      rw [e] at hq; exact hq
    | false =>
      have h0 : d.length = 0 := by
        rcases Nat.eq_zero_or_pos d.length with h0 | h0
        · exact h0
        · have := hd h0; rw [hk] at this; cases this
      have e0 : d = [] := List.length_eq_zero_iff.1 h0
      subst e0
      have e : turnD [] = [] := by unfold turnD; rw [hk]; rfl
      rw [e] at hq; exact hq
theorem impl_DiffBack.law (d : List Change) (Q : List Change → Prop) (hb : bulk d ≤ 1048576) (hq : Q (turnD d)) : impl_DiffBack.E d Q := by
  unfold impl_DiffBack.E
  have hl := bulk_len d
  refine impl_DiffOk.law _ _ (by omega) ?_
  cases hk : diffOk d with
  | false =>
    have e : turnD d = [] := by unfold turnD; rw [hk]; rfl
    rw [e] at hq; rw [if_pos (by decide)]; exact hq
  | true =>
    have e : turnD d = d.map turnC := by unfold turnD; rw [hk]; rfl
    rw [e] at hq
    rw [if_neg (by decide)]
    refine ⟨fun xs i => ∃ u : Nat, i = u ∧ u ≤ d.length ∧ xs = (d.take u).map turnC, fun _ i => (d.length - i).toNat, ⟨0, rfl, Nat.zero_le _, rfl⟩, ?_⟩
    rintro _ _ ⟨u, rfl, hu, rfl⟩
    by_cases h : u < d.length
    · rw [if_pos (by simpa using h)]
      have hm := bulk_mem (nth_mem d h)
      have hc := bulk_change (nth d (u : Int))
      refine ⟨by omega, ?_⟩
      unfold impl_cloneChange.E
      refine impl_cloneFeat.law _ _ (by dsimp only; omega) (impl_cloneFeat.law _ _ (by dsimp only; omega) ⟨by simp only [List.length_map, List.length_take, List.length_cons, List.length_nil]; omega, by unfold I64; omega, ⟨u + 1, by omega, by omega, ?_⟩, by dsimp only; omega⟩)
      rw [take_nth d h, List.map_append]; rfl
    · rw [if_neg (by simpa using h)]
      have : u = d.length := by omega
      subst this
      rw [List.take_length]; exact hq
theorem laws_FnExactDiffBack.law (d : List Change) (_ : ∀ x ∈ d, vChange x) : laws_FnExactDiffBack.E d (fun r => r = true) := by
  unfold laws_FnExactDiffBack.E
  refine laws_szChangeS.law d _ _ (by decide) (by decide) (fun _ => rfl) (fun h1 => ?_)
  rw [if_neg (by rw [decide_eq_false (by omega)]; exact Bool.false_ne_true)]
  have hb : bulk d ≤ 1048576 := by omega
  have ht := bulk_turnD d
  have m1 := mkL_bd gChange_bd d 1
  have m2 := mkL_bd gChange_bd (turnD d) 1
  refine laws_toChangeS.law d _ hb (spec_DiffBack.law _ _ hb (laws_toChangeS.law d _ hb (impl_DiffBack.law _ _ hb (laws_eqChangeS.law _ _ _ ?_))))
  rw [decide_eq_true rfl, if_neg (by decide)]
  refine laws_toChangeS.law d _ hb (laws_eqChangeS.law _ _ _ ?_)
  rw [decide_eq_true rfl, if_neg (by decide)]
  refine laws_markChangeS.lawk _ _ _ hb (by decide) (by decide) ?_
  rw [if_neg (by rw [decide_eq_true_eq]; omega)]
  refine laws_eqChangeS.law _ _ _ ?_
  rw [decide_eq_true rfl, if_neg (by decide)]
  refine laws_markChangeS.lawk _ _ _ (by omega) (by decide) (by decide) (laws_heldChangeS.lawk _ _ _ (by omega) (by decide) (by decide) ?_)
  rw [if_neg (by rw [decide_eq_true_eq]; omega), if_neg (by simp)]
  refine laws_toChangeS.law d _ hb (impl_DiffBack.law _ _ hb (laws_eqChangeS.law _ _ _ ?_))
  rw [decide_eq_true rfl, if_neg (by decide)]
  refine laws_heldChangeS.lawk _ _ _ (by omega) (by decide) (by decide) ?_
  rw [if_neg (by rw [decide_eq_true_eq]; omega), if_neg (by simp)]
end Go.Proofs.Ytndjggncgpjolaa

namespace Go.Proofs.Ytndjggncgpjolaa.rFnExactDiffBack
open Go.ChangeShapes Go.WideShapes Go.ChangeAt Go.RowKit
open Go.ChangeMaps (open_string shut_string)
set_option linter.unusedVariables false
theorem own : ownKnob Try.prog.godebug = none := by kernel_rfl
theorem laidOut : laidOutB Try.prog = true := by kernel_rfl
set_option maxHeartbeats 4000000 in
set_option maxRecDepth 100000 in
theorem lifted (os : Os) (started : os.Started) (H : Type) (enc : TypeId × Value → H) :
    ReturnsInHanded {} Try.checked os 5 .any (Rows.fnExactDiffBackSpec.pre6 enc Try.prog Try.f5 Rows.fnExactDiffBackRow.domain false) (Rows.fnExactDiffBackSpec.post enc Try.prog Try.f5 false true false false) := by
  refine returnsInHanded_of_change_sized (C := Try.checked) own started (by kernel_rfl) Try.func5
    (ChangeSpec.witness6 (enc := enc) (C := Try.checked) false ⟨#[], #[.slice none 0 0], []⟩ 8 (by kernel_rfl) (by kernel_rfl) (by kernel_rfl) (by kernel_rfl)) ?_
  intro W base args ds gs before hval0 hW hcnd hsz0 _
  have hval : ∀ (j : Nat) t v, Try.f5.params[j]? = some t → args[j]? = some v → Value.okWide Try.prog W .any base t v := hval0
  have hW' := hW
  obtain ⟨p, q, hA0, hV, rfl, hfz, hnd⟩ := hW
  have hA : DataW.TrodAll enc Try.prog W 0 (fun _ => true) true Try.f5.params.toList args.toList ds p := hA0
  rw [Try.params5] at hA hval
  obtain ⟨v0, vs0, d0, ds0, p0, q0, hargs, rfl, rfl, h0, r0⟩ := trodAll_cons hA
  obtain ⟨rfl, rfl, rfl⟩ := trodAll_nil r0
  obtain rfl : args = #[v0] := by cases args; simp_all
  obtain ⟨rfl, rfl⟩ := trodVars_none hV
  have k0 := h0
  have lt0 : ∀ x ∈ p0, x.block < W.heap.size := by obtain ⟨m, hm⟩ := k0; exact DataW.trod_lt m _ _ _ hm
  obtain ⟨x0, hv0, hx0⟩ : ∃ a : List Change, (∀ y0 ∈ a, vChange y0) ∧ (Kd.sl kChange).R W (Fr []) a v0.cells.toList := by obtain ⟨fuel, hf⟩ := h0; exact (Tr.sl Try.underlying41 (by kernel_rfl) tr100) H enc W fuel _ _ hf
  obtain ⟨a0, n0, c0, rfl⟩ := okWide_slice Try.underlying41 (hval 0 41 v0 rfl rfl)
  have s0 : Sl kChange W (Fr []) (.slice a0 n0 c0) x0 := by obtain ⟨_, e, h⟩ := hx0; simp [Value.cells] at e; subst e; exact h
  clear hA0 hval0 hsz0
  refine Calls.mono (laws_FnExactDiffBack.calls W (Ok.nil W) x0 a0 n0 c0 s0 (fun r => r = true) (laws_FnExactDiffBack.law x0 hv0)) fun e W' ⟨v, he, r, hr, hq, hg⟩ => ?_
  subst he; subst hr; subst hq
  have bel := Gr.below hg
  exact ⟨_, rfl, _, _, _, [], _, [], hW', trodAll_mk1 (shut_bool Try.underlying4 _), (trodAll_cons_mk (Below.trod laidOut (by kernel_rfl) (of_decide_eq_true (by kernel_rfl)) k0 bel lt0) trodAll_mk0), rfl, bel.frame _, fun h => by cases h⟩
theorem over : Rows.fnExactDiffBackRow.holds Try.pinned (OpenSpec.ofChange Rows.fnExactDiffBackSpec) :=
  OpenClaim.holds_of_wide 5 Try.f5 rfl rfl rfl rfl rfl rfl rfl ⟨rfl, rfl, rfl, rfl, rfl⟩ rfl rfl rfl rfl rfl (by kernel_rfl) Try.func5 (by kernel_rfl)
    (of_decide_eq_true (by kernel_rfl)) (by unfold Func.isWrapper; first | (rw [if_pos (by decide +kernel)]; kernel_rfl) | (rw [if_neg (by decide +kernel)]; exact ⟨rfl, rfl⟩))
    (fun os started H enc _ => lifted os started H enc)
theorem proved : Rows.FnExactDiffBackSaid := over
#print axioms proved
end Go.Proofs.Ytndjggncgpjolaa.rFnExactDiffBack
namespace Go.Proofs.Ytndjggncgpjolaa
theorem fnExactDiffBack_holds : Rows.FnExactDiffBackSaid := rFnExactDiffBack.proved
end Go.Proofs.Ytndjggncgpjolaa
