/- It is proved here that the law FnExactDiffThen of the given program holds whatever it is handed: the walks through the code, the plain laws and the row, in this order.
   Conditions: none. -/
import Derived.Below
import Derived.ChangeArms
import Derived.ChangeOld
import Derived.ChangeSlices
import Derived.DataReads
import Derived.Deep.Quiet
import Derived.KernelRfl
import Derived.Laws.Build
import Derived.Laws.IdiomStrings
import Derived.Laws.OwnMore
import Derived.Laws.Slices
import Derived.Laws.StructEq
import Derived.OpenShut
import Derived.ProofKit
import Derived.Shelf.Slices.Cells
import Derived.Shelf.Slices.CompactS
import Derived.Shelf.Slices.In.SortNone
import Derived.Shelf.Small.Bits
import Derived.Shelf.Sort.Plain
import Derived.Shelf.Strconv.Itoa0
import Derived.ShutString
import Derived.SizedLaws
import Derived.StillTail
import Derived.Test.YtndjggncgpjolaaProg
import Derived.Test.YtndjggncgpjolaaRows
import Derived.WalkKit
import Derived.Test.YtndjggncgpjolaaCExactDiffThena
namespace Go.Proofs.Ytndjggncgpjolaa
open Go.RowKit
set_option linter.unusedVariables false
set_option linter.unusedSimpArgs false
def laws_szChange.E (a : Change) (left : Int) (Q : Int → Prop) : Prop :=
 ((a.Id.length : Int) ≤ 9223372036854775807 → I64 (left - (a.Id.length : Int))) ∧ (if decide (left - (a.Id.length : Int) < 0) then Q (-1) else laws_szFeat.E a.Was (left - (a.Id.length : Int)) (fun r => (if decide (r < 0) then Q (-1) else laws_szFeat.E a.Now r (fun r2 => (if decide (r2 < 0) then Q (-1) else Q r2)))))
set_option maxHeartbeats 8000000 in
set_option maxRecDepth 100000 in
theorem laws_szChange.calls {O : Ob} (w0 : World) (hO : Ok w0 O) (a : Change) (A3 : Option Addr) (n4 c5 : Nat) (A8 : Option Addr) (n9 c10 : Nat) (A14 : Option Addr) (n15 c16 : Nat) (A19 : Option Addr) (n20 c21 : Nat) (hs1 : Lim a.Id) (hs2 : Lim a.Was.Id) (hp6 : Sl kPt w0 (Fr O) (.slice A3 n4 c5) a.Was.Shape.Pts) (hp11 : Sl kTag w0 (Fr O) (.slice A8 n9 c10) a.Was.Tags) (hs13 : Lim a.Now.Id) (hp17 : Sl kPt w0 (Fr O) (.slice A14 n15 c16) a.Now.Shape.Pts) (hp22 : Sl kTag w0 (Fr O) (.slice A19 n20 c21) a.Now.Tags) (left : Int) (Q : Int → Prop) (h : laws_szChange.E a left Q) :
  Ret Try.prog 60 [.agg #[vs a.Id, vb a.Had, vs a.Was.Id, vi a.Was.Shape.Kind, .slice A3 n4 c5, .slice A8 n9 c10, vb a.Has, vs a.Now.Id, vi a.Now.Shape.Kind, .slice A14 n15 c16, .slice A19 n20 c21], vi left] w0 (fun v w' => ∃ (r0 : Int), v = vi r0 ∧ Q r0 ∧ Gr w0 w' none) := by
 have H : ((a.Id.length : Int) ≤ 9223372036854775807 → I64 (left - (a.Id.length : Int))) ∧ (if decide (left - (a.Id.length : Int) < 0) then Q (-1) else laws_szFeat.E a.Was (left - (a.Id.length : Int)) (fun r => (if decide (r < 0) then Q (-1) else laws_szFeat.E a.Now r (fun r2 => (if decide (r2 < 0) then Q (-1) else Q r2))))) := h
 clear h
 have hc0 := Ct.init hO
 refine Ret_enter Try.func60 rfl 25 rfl [.tmp 4] rfl rfl ?_
 refine W_seq ?_
 refine W_reg ?_
 refine L_box [vs a.Id, vb a.Had, vs a.Was.Id, vi a.Was.Shape.Kind, .slice A3 n4 c5, .slice A8 n9 c10, vb a.Has, vs a.Now.Id, vi a.Now.Shape.Kind, .slice A14 n15 c16, .slice A19 n20 c21] rfl fun w24 b25 hl27 hu28 g26 hx29 => ?_
 have h31 := Fb.mk hc0.ok hl27 hx29
 have hc32 := hc0.k0 g26
 refine L_pu (P_assign (vi 0) rfl) ?_
 refine L_nil ?_
 refine W_seq ?_
 refine W_reg ?_
 refine L_pu (P_move (vi left) rfl) ?_
 refine L_pu (P_fa fa100_0 ⟨b25, 0, none⟩ ⟨b25, 0, none⟩ rfl rfl) ?_
 refine L_pu (P_ld ag9 cL ⟨b25, 0, none⟩ (vs a.Id) rfl (h31.cell rfl)) ?_
 have hl33 := hs1
 refine L_pu (P_lens Try.underlying9 a.Id rfl) ?_
 obtain ⟨hb34, H⟩ := H
 have hi35 := hb34 (len_le hl33)
 refine L_pu (P_sub left (a.Id.length : Int) rfl rfl hi35) ?_
 refine L_pu (P_assign (vi (left - (a.Id.length : Int))) rfl) ?_
 refine L_nil ?_
 refine W_seq ?_
 refine W_seq ?_
 refine W_reg ?_
 refine L_pu (P_move (vi (left - (a.Id.length : Int))) rfl) ?_
 refine L_pu (P_cmp (left - (a.Id.length : Int)) 0 (decide (left - (a.Id.length : Int) < 0)) rfl rfl rfl) ?_
 refine L_nil ?_
 refine W_cond (decide (left - (a.Id.length : Int) < 0)) rfl (fun hq36 => ?_) (fun hq36 => ?_)
 ·have H := ite_t H hq36
  refine W_seq ?_
  refine W_reg ?_
  refine L_pu (P_assign (vi (-1)) rfl) ?_
  refine L_nil ?_
  refine W_ret ?_
  exact ⟨[vi (-1)], ⟨_, rfl, rfl⟩, (-1), rfl, H, hc32.gr.g0⟩
 ·have H := ite_f H hq36
  refine W_skip ?_
  refine W_seq ?_
  refine W_reg ?_
  refine L_pu (P_fa fa100_2 ⟨b25, 0, none⟩ ⟨b25, 2, none⟩ rfl rfl) ?_
  refine L_pu (P_lda ag65 sz65 cL ⟨b25, 2, none⟩ [vs a.Was.Id, vi a.Was.Shape.Kind, .slice A3 n4 c5, .slice A8 n9 c10] rfl rfl (h31.cells (off := 2) rfl)) ?_
  refine L_pu (P_move (vi (left - (a.Id.length : Int))) rfl) ?_
  refine L_call go33 [.agg #[vs a.Was.Id, vi a.Was.Shape.Kind, .slice A3 n4 c5, .slice A8 n9 c10], vi (left - (a.Id.length : Int))] rfl ((laws_szFeat.calls w24 hc32.ok a.Was A3 n4 c5 A8 n9 c10 hs2 (hp6.st hc32.st) (hp11.st hc32.st) (left - (a.Id.length : Int)) _ H).mono ?_)
  rintro _ w37 ⟨r, rfl, H, g38⟩
  have hc42 := hc32.k0 g38
  refine L_pu (P_assign (vi r) rfl) ?_
  refine L_nil ?_
  refine W_seq ?_
  refine W_seq ?_
  refine W_reg ?_
  refine L_pu (P_move (vi r) rfl) ?_
  refine L_pu (P_cmp r 0 (decide (r < 0)) rfl rfl rfl) ?_
  refine L_nil ?_
  refine W_cond (decide (r < 0)) rfl (fun hq43 => ?_) (fun hq43 => ?_)
  ·have H := ite_t H hq43
   refine W_seq ?_
   refine W_reg ?_
   refine L_pu (P_assign (vi (-1)) rfl) ?_
   refine L_nil ?_
   refine W_ret ?_
   exact ⟨[vi (-1)], ⟨_, rfl, rfl⟩, (-1), rfl, H, hc42.gr.g0⟩
  ·have H := ite_f H hq43
   refine W_skip ?_
   refine W_seq ?_
   refine W_reg ?_
   refine L_pu (P_fa fa100_4 ⟨b25, 0, none⟩ ⟨b25, 7, none⟩ rfl rfl) ?_
   have h44 := (h31.st (.new _ g38))
   refine L_pu (P_lda ag65 sz65 cL ⟨b25, 7, none⟩ [vs a.Now.Id, vi a.Now.Shape.Kind, .slice A14 n15 c16, .slice A19 n20 c21] rfl rfl (h44.cells (off := 7) rfl)) ?_
   refine L_pu (P_move (vi r) rfl) ?_
   refine L_call go33 [.agg #[vs a.Now.Id, vi a.Now.Shape.Kind, .slice A14 n15 c16, .slice A19 n20 c21], vi r] rfl ((laws_szFeat.calls w37 hc42.ok a.Now A14 n15 c16 A19 n20 c21 hs13 (hp17.st hc42.st) (hp22.st hc42.st) r _ H).mono ?_)
   rintro _ w45 ⟨r2, rfl, H, g46⟩
   have hc50 := hc42.k0 g46
   refine L_pu (P_assign (vi r2) rfl) ?_
   refine L_nil ?_
   refine W_seq ?_
   refine W_seq ?_
   refine W_reg ?_
   refine L_pu (P_move (vi r2) rfl) ?_
   refine L_pu (P_cmp r2 0 (decide (r2 < 0)) rfl rfl rfl) ?_
   refine L_nil ?_
   refine W_cond (decide (r2 < 0)) rfl (fun hq51 => ?_) (fun hq51 => ?_)
   ·have H := ite_t H hq51
    refine W_seq ?_
    refine W_reg ?_
    refine L_pu (P_assign (vi (-1)) rfl) ?_
    refine L_nil ?_
    refine W_ret ?_
    exact ⟨[vi (-1)], ⟨_, rfl, rfl⟩, (-1), rfl, H, hc50.gr.g0⟩
   ·have H := ite_f H hq51
    refine W_skip ?_
    refine W_seq ?_
    refine W_reg ?_
    refine L_pu (P_move (vi r2) rfl) ?_
    refine L_pu (P_assign (vi r2) rfl) ?_
    refine L_nil ?_
    refine W_ret ?_
    exact ⟨[vi r2], ⟨_, rfl, rfl⟩, r2, rfl, H, hc50.gr.g0⟩
end Go.Proofs.Ytndjggncgpjolaa

namespace Go.Proofs.Ytndjggncgpjolaa
set_option linter.unusedVariables false
set_option linter.unusedSimpArgs false
set_option linter.unusedSectionVars false
theorem laws_szChange.law (a : Change) (left : Int) (Q : Int → Prop) (h0 : 0 ≤ left) (h1 : left ≤ 1048576) (hn : left - (bulk a : Nat) < 0 → Q (-1)) (hp : 0 ≤ left - (bulk a : Nat) → Q (left - (bulk a : Nat))) : laws_szChange.E a left Q := by
 have hb : bulk a = bulk a.Id + bulk a.Had + bulk a.Was + bulk a.Has + bulk a.Now := rfl
 have hzId : bulk a.Id = a.Id.length := bulk_str _
 have hzHad : bulk a.Had = 0 := rfl
 have hzHas : bulk a.Has = 0 := rfl
 unfold laws_szChange.E
 refine ⟨by intros; unfold I64; omega, ?_⟩
 split
 ·rename_i hc; simp only [decide_eq_true_eq] at hc; exact hn (by omega)
 rename_i hc0; simp only [decide_eq_true_eq] at hc0
 refine laws_szFeat.law _ _ _ (by omega) (by omega) (fun h => ?_) (fun h2 => ?_)
 ·rw [if_pos (by decide)]; exact hn (by omega)
 rw [if_neg (by rw [decide_eq_false (by omega)]; exact Bool.false_ne_true)]
 refine laws_szFeat.law _ _ _ (by omega) (by omega) (fun h => ?_) (fun h4 => ?_)
 ·rw [if_pos (by decide)]; exact hn (by omega)
 rw [if_neg (by rw [decide_eq_false (by omega)]; exact Bool.false_ne_true)]
 exact cast (congrArg Q (by omega)) (hp (by omega))
end Go.Proofs.Ytndjggncgpjolaa

namespace Go.Proofs.Ytndjggncgpjolaa
open Go.RowKit
set_option linter.unusedVariables false
set_option linter.unusedSimpArgs false
def laws_szChangeS.E (a : List Change) (left : Int) (Q : Int → Prop) : Prop :=
 ((a.length : Int) ≤ 9223372036854775807 → I64 (left - (a.length : Int))) ∧ (if decide (left - (a.length : Int) < 0) then Q (-1) else (∃ (I22 : Int → Int → Prop) (mu23 : Int → Int → Nat), I22 (left - (a.length : Int)) 0 ∧ ∀ (left3 : Int) (i2 : Int), I22 left3 i2 → (if decide (i2 < (a.length : Int)) then ((0 : Int) ≤ i2 ∧ i2 < (a.length : Int)) ∧ laws_szChange.E (nth a i2) left3 (fun r => (if decide (r < 0) then Q (-1) else (-9223372036854775808 ≤ i2) ∧ I22 r (i2 + 1) ∧ mu23 r (i2 + 1) < mu23 left3 i2)) else Q left3)))
set_option maxHeartbeats 8000000 in
set_option maxRecDepth 100000 in
theorem laws_szChangeS.calls {O : Ob} (w0 : World) (hO : Ok w0 O) (a : List Change) (A1 : Option Addr) (n2 c3 : Nat) (hp4 : Sl kChange w0 (Fr O) (.slice A1 n2 c3) a) (left : Int) (Q : Int → Prop) (h : laws_szChangeS.E a left Q) :
  Ret Try.prog 18 [.slice A1 n2 c3, vi left] w0 (fun v w' => ∃ (r0 : Int), v = vi r0 ∧ Q r0 ∧ Gr w0 w' none) := by
 have H : ((a.length : Int) ≤ 9223372036854775807 → I64 (left - (a.length : Int))) ∧ (if decide (left - (a.length : Int) < 0) then Q (-1) else (∃ (I22 : Int → Int → Prop) (mu23 : Int → Int → Nat), I22 (left - (a.length : Int)) 0 ∧ ∀ (left3 : Int) (i2 : Int), I22 left3 i2 → (if decide (i2 < (a.length : Int)) then ((0 : Int) ≤ i2 ∧ i2 < (a.length : Int)) ∧ laws_szChange.E (nth a i2) left3 (fun r => (if decide (r < 0) then Q (-1) else (-9223372036854775808 ≤ i2) ∧ I22 r (i2 + 1) ∧ mu23 r (i2 + 1) < mu23 left3 i2)) else Q left3))) := h
 clear h
 have hc0 := Ct.init hO
 refine Ret_enter Try.func18 rfl 27 rfl [.tmp 4] rfl rfl ?_
 refine W_seq ?_
 refine W_reg ?_
 refine L_pu (P_assign (vi 0) rfl) ?_
 refine L_nil ?_
 refine W_seq ?_
 refine W_reg ?_
 refine L_pu (P_move (vi left) rfl) ?_
 refine L_pu (P_move (.slice A1 n2 c3) rfl) ?_
 have hl6 := hp4.le
 refine L_pu (P_len Try.underlying41 A1 n2 c3 hp4.len rfl) ?_
 obtain ⟨hb7, H⟩ := H
 have hi8 := hb7 (len_le hl6)
 refine L_pu (P_sub left (a.length : Int) rfl rfl hi8) ?_
 refine L_pu (P_assign (vi (left - (a.length : Int))) rfl) ?_
 refine L_nil ?_
 refine W_seq ?_
 refine W_seq ?_
 refine W_reg ?_
 refine L_pu (P_move (vi (left - (a.length : Int))) rfl) ?_
 refine L_pu (P_cmp (left - (a.length : Int)) 0 (decide (left - (a.length : Int) < 0)) rfl rfl rfl) ?_
 refine L_nil ?_
 refine W_cond (decide (left - (a.length : Int) < 0)) rfl (fun hq9 => ?_) (fun hq9 => ?_)
 ·have H := ite_t H hq9
  refine W_seq ?_
  refine W_reg ?_
  refine L_pu (P_assign (vi (-1)) rfl) ?_
  refine L_nil ?_
  refine W_ret ?_
  exact ⟨[vi (-1)], ⟨_, rfl, rfl⟩, (-1), rfl, H, hc0.gr.g0⟩
 ·have H := ite_f H hq9
  refine W_skip ?_
  refine W_seq ?_
  refine W_seq ?_
  refine W_reg ?_
  refine L_pu (P_assign (vi 0) rfl) ?_
  refine L_nil ?_
  refine W_block ?_
  obtain ⟨I22, mu23, hI24, H⟩ := H
  refine W_loop (α := Int × Int) (fun (sv__ : Int × Int) t w18 => match sv__ with | (left3, i2) => I22 left3 i2 ∧ Has t [(0, .slice A1 n2 c3), (1, vi left3), (5, vi i2)] ∧ Ct [] w0 w18 [] O ∧ Sl kChange w18 (Fr ([] ++ O)) (.slice A1 n2 c3) a) (fun (sv__ : Int × Int) => match sv__ with | (left3, i2) => mu23 left3 i2) (left - (a.length : Int), 0) ⟨hI24, ⟨rfl, rfl, rfl, trivial⟩, hc0, hp4⟩ ?_
  rintro ⟨left3, i2⟩ _ w18 ⟨hI24, hh26, hc20, h21⟩
  obtain ⟨u27, rfl⟩ := Has.ins hh26
  have H := H left3 i2 hI24
  refine W_seq ?_
  refine W_seq ?_
  refine W_reg ?_
  refine L_pu (P_move (vi i2) rfl) ?_
  refine L_pu (P_move (.slice A1 n2 c3) rfl) ?_
  have hl28 := h21.le
  refine L_pu (P_len Try.underlying41 A1 n2 c3 h21.len rfl) ?_
  refine L_pu (P_cmp i2 (a.length : Int) (decide (i2 < (a.length : Int))) rfl rfl rfl) ?_
  refine L_nil ?_
  refine W_cond (decide (i2 < (a.length : Int))) rfl (fun hq29 => ?_) (fun hq29 => ?_)
  ·have H := ite_t H hq29
   refine W_skip ?_
   refine W_seq ?_
   refine W_block ?_
   refine W_seq ?_
   refine W_reg ?_
   refine L_pu (P_move (.slice A1 n2 c3) rfl) ?_
   refine L_pu (P_move (vi i2) rfl) ?_
   obtain ⟨hb30, H⟩ := H
   obtain ⟨ad31, cs32, hA33, hS36, hR34, hcl35⟩ := h21.get default (by decide) i2 hb30
   obtain ⟨A39, n40, c41, A44, n45, c46, A50, n51, c52, A55, n56, c57, rfl, hs37, hs38, h42, h47, hs49, h53, h58⟩ := kChange.op hR34
   refine L_pu (P_ia Try.underlying41 se41 A1 ad31 n2 c3 h21.len i2 rfl hA33 rfl hb30) ?_
   refine L_pu (P_lda ag100 sz100 cL (ad31.add (i2.toNat * 11)) [vs ((nth a i2).Id), vb ((nth a i2).Had), vs ((nth a i2).Was.Id), vi ((nth a i2).Was.Shape.Kind), .slice A39 n40 c41, .slice A44 n45 c46, vb ((nth a i2).Has), vs ((nth a i2).Now.Id), vi ((nth a i2).Now.Shape.Kind), .slice A50 n51 c52, .slice A55 n56 c57] rfl rfl hcl35) ?_
   refine L_pu (P_move (vi left3) rfl) ?_
   refine L_call go60 [.agg #[vs ((nth a i2).Id), vb ((nth a i2).Had), vs ((nth a i2).Was.Id), vi ((nth a i2).Was.Shape.Kind), .slice A39 n40 c41, .slice A44 n45 c46, vb ((nth a i2).Has), vs ((nth a i2).Now.Id), vi ((nth a i2).Now.Shape.Kind), .slice A50 n51 c52, .slice A55 n56 c57], vi left3] rfl ((laws_szChange.calls w18 hc20.ok (nth a i2) A39 n40 c41 A44 n45 c46 A50 n51 c52 A55 n56 c57 hs37 hs38 h42 h47 hs49 h53 h58 left3 _ H).mono ?_)
   rintro _ w60 ⟨r, rfl, H, g61⟩
   have hc65 := hc20.k0 g61
   refine L_pu (P_assign (vi r) rfl) ?_
   refine L_nil ?_
   refine W_seq ?_
   refine W_reg ?_
   refine L_pu (P_move (vi r) rfl) ?_
   refine L_pu (P_cmp r 0 (decide (r < 0)) rfl rfl rfl) ?_
   refine L_nil ?_
   refine W_cond (decide (r < 0)) rfl (fun hq66 => ?_) (fun hq66 => ?_)
   ·have H := ite_t H hq66
    refine W_seq ?_
    refine W_reg ?_
    refine L_pu (P_assign (vi (-1)) rfl) ?_
    refine L_nil ?_
    refine W_ret ?_
    exact ⟨[vi (-1)], ⟨_, rfl, rfl⟩, (-1), rfl, H, hc65.gr.g0⟩
   ·have H := ite_f H hq66
    refine W_skip ?_
    refine W_reg ?_
    refine L_pu (P_move (vi i2) rfl) ?_
    obtain ⟨hb68, H⟩ := H
    have hi67 : I64 (i2 + 1) := i64_succ (of_decide_eq_true hq29) hl28 hb68
    refine L_pu (P_add i2 1 rfl rfl hi67) ?_
    refine L_pu (P_assign (vi (i2 + 1)) rfl) ?_
    refine L_nil ?_
    obtain ⟨hI69, hm70⟩ := H
    exact ⟨(r, i2 + 1), hm70, hI69, ⟨rfl, rfl, rfl, trivial⟩, hc65, (h21.st (.new _ g61))⟩
  ·have H := ite_f H hq29
   refine W_exit (xin_hit ?_)
   refine W_seq ?_
   refine W_reg ?_
   refine L_pu (P_move (vi left3) rfl) ?_
   refine L_pu (P_assign (vi left3) rfl) ?_
   refine L_nil ?_
   refine W_ret ?_
   exact ⟨[vi left3], ⟨_, rfl, rfl⟩, left3, rfl, H, hc20.gr.g0⟩
end Go.Proofs.Ytndjggncgpjolaa

namespace Go.Proofs.Ytndjggncgpjolaa
set_option linter.unusedVariables false
set_option linter.unusedSimpArgs false
set_option linter.unusedSectionVars false
theorem laws_szChangeS.law (a : List Change) (left : Int) (Q : Int → Prop) (h0 : 0 ≤ left) (h1 : left ≤ 1048576) (hn : left - (bulk a : Nat) < 0 → Q (-1)) (hp : 0 ≤ left - (bulk a : Nat) → Q (left - (bulk a : Nat))) : laws_szChangeS.E a left Q := by
 unfold laws_szChangeS.E
 exact szS_shape laws_szChange.E (fun x l Q => laws_szChange.law x l Q) a left Q h0 h1 hn hp
end Go.Proofs.Ytndjggncgpjolaa

namespace Go.Proofs.Ytndjggncgpjolaa
open Go.RowKit
set_option linter.unusedVariables false
set_option linter.unusedSimpArgs false
def laws_toPt.E (a : Pt) (Q : Pt → Prop) : Prop :=
 Q a
set_option maxHeartbeats 8000000 in
set_option maxRecDepth 100000 in
theorem laws_toPt.calls {O : Ob} (w0 : World) (hO : Ok w0 O) (a : Pt) (Q : Pt → Prop) (h : laws_toPt.E a Q) :
  Ret Try.prog 168 [.agg #[vi a.X, vi a.Y]] w0 (fun v w' => ∃ (r0 : Pt), v = .agg #[vi r0.X, vi r0.Y] ∧ Q r0 ∧ Gr w0 w' none) := by
 have H : Q a := h
 clear h
 have hc0 := Ct.init hO
 refine Ret_enter Try.func168 rfl 11 rfl [.cell 2 29] rfl rfl ?_
 refine W_seq ?_
 refine W_reg ?_
 refine L_box [vi a.X, vi a.Y] rfl fun w1 b2 hl4 hu5 g3 hx6 => ?_
 have h8 := Fb.mk hc0.ok hl4 hx6
 have hc9 := hc0.k0 g3
 refine L_alloc [.int .i64 0, .int .i64 0] ze29 fun w10 b11 hl13 hu14 g12 hx15 => ?_
 have hc17 := hc9.own g12 (some b11) (oglt hl13 hu14)
 refine L_nil ?_
 refine W_seq ?_
 refine W_reg ?_
 refine L_alloc [.int .i64 0, .int .i64 0] ze29 fun w18 b19 hl21 hu22 g20 hx23 => ?_
 have hc25 := hc17.own g20 (some b19) (oglt hl21 hu22)
 refine L_nil ?_
 refine W_seq ?_
 refine W_reg ?_
 refine L_pu (P_fa fa201_0 ⟨b2, 0, none⟩ ⟨b2, 0, none⟩ rfl rfl) ?_
 have h26 := ((h8.st (.own _ _ g12 (oge hl13))).st (.own _ _ g20 (oge hl21)))
 refine L_pu (P_ld ag3 cL ⟨b2, 0, none⟩ (vi a.X) rfl (h26.cell rfl)) ?_
 refine L_pu (P_fa fa29_0 ⟨b19, 0, none⟩ ⟨b19, 0, none⟩ rfl rfl) ?_
 refine L_stb b19 0 [vi 0, vi 0] [vi a.X] [vi a.X, vi 0] rfl hx23 rfl sz3 rfl rfl rfl fun w27 g28 hx29 => ?_
 have hc30 := hc25.wr 0 rfl g28
 refine L_nil ?_
 refine W_seq ?_
 refine W_reg ?_
 refine L_pu (P_fa fa201_1 ⟨b2, 0, none⟩ ⟨b2, 1, none⟩ rfl rfl) ?_
 have h31 := (h26.st (.wl (L := [some b19, some b11]) (O := O) (j := 0) rfl g28))
 refine L_pu (P_ld ag3 cL ⟨b2, 1, none⟩ (vi a.Y) rfl (h31.cell rfl)) ?_
 refine L_pu (P_fa fa29_1 ⟨b19, 0, none⟩ ⟨b19, 1, none⟩ rfl rfl) ?_
 refine L_stb b19 1 [vi a.X, vi 0] [vi a.Y] [vi a.X, vi a.Y] rfl hx29 rfl sz3 rfl rfl rfl fun w32 g33 hx34 => ?_
 have hc35 := hc30.wr 0 rfl g33
 refine L_nil ?_
 refine W_seq ?_
 refine W_reg ?_
 refine L_pu (P_lda ag29 sz29 cL ⟨b19, 0, none⟩ [vi a.X, vi a.Y] rfl rfl (hx34.cells (off := 0) rfl)) ?_
 have h39 := (Bx.sm (L := [some b19, some b11]) (O := O) (Bx.sm (L := [some b19, some b11]) (O := O) (hx15.k0 g20) hc25 (i := 1) rfl (j := 0) rfl (by decide) g28) hc30 (i := 1) rfl (j := 0) rfl (by decide) g33)
 refine L_stb b11 0 [vi 0, vi 0] [vi a.X, vi a.Y] [vi a.X, vi a.Y] rfl h39 rfl sz29 rfl rfl rfl fun w36 g37 hx38 => ?_
 have hc40 := hc35.wr 1 rfl g37
 refine L_nil ?_
 refine W_ret ?_
 have h41 := Bx.gv (L := [some b19, some b11]) (O := O) hx38 hc40 (i := 1) rfl
 have hc42 := hc40.drop 1 rfl
 have hc43 := hc42.drop 0 rfl
 have h44 := (h41.st (.dr _ (L := [some b19]) (O := O) (j := 0) rfl))
 exact ⟨[.agg #[vi a.X, vi a.Y]], ⟨_, _, rfl, h44.1.res rfl ag29 sz29, rfl⟩, a, rfl, H, hc43.gr.g0⟩
end Go.Proofs.Ytndjggncgpjolaa

namespace Go.Proofs.Ytndjggncgpjolaa
set_option linter.unusedVariables false
set_option linter.unusedSimpArgs false
set_option linter.unusedSectionVars false
theorem laws_toPt.law (a : Pt) (Q : Pt → Prop) (ha : bulk a ≤ 1048576) (hq : Q a) : laws_toPt.E a Q := by
 unfold laws_toPt.E
 have hb : bulk a = bulk a.X + bulk a.Y := rfl
 exact hq
end Go.Proofs.Ytndjggncgpjolaa

namespace Go.Proofs.Ytndjggncgpjolaa
open Go.RowKit
set_option linter.unusedVariables false
set_option linter.unusedSimpArgs false
def laws_toPtS.E (a : List Pt) (Q : List Pt → Prop) : Prop :=
 ((0 : Int) ≤ (a.length : Int) ∧ (a.length : Int) ≤ (268435456 : Int)) ∧ (∃ (I41 : (List Pt) → Int → Prop) (mu42 : (List Pt) → Int → Nat), I41 (List.replicate (a.length : Int).toNat ((⟨0, 0⟩ : Pt) : Pt)) 0 ∧ ∀ (xs2 : List Pt) (i2 : Int), I41 xs2 i2 → (if decide (i2 < (a.length : Int)) then ((0 : Int) ≤ i2 ∧ i2 < (a.length : Int)) ∧ laws_toPt.E (nth a i2) (fun r => ((0 : Int) ≤ i2 ∧ i2 < (xs2.length : Int)) ∧ (-9223372036854775808 ≤ i2) ∧ I41 (xs2.set i2.toNat r) (i2 + 1) ∧ mu42 (xs2.set i2.toNat r) (i2 + 1) < mu42 xs2 i2) else Q xs2))
set_option maxHeartbeats 8000000 in
set_option maxRecDepth 100000 in
theorem laws_toPtS.calls {O : Ob} (w0 : World) (hO : Ok w0 O) (a : List Pt) (A1 : Option Addr) (n2 c3 : Nat) (hp4 : Sl kPt w0 (Fr O) (.slice A1 n2 c3) a) (Q : List Pt → Prop) (h : laws_toPtS.E a Q) :
  Ret Try.prog 139 [.slice A1 n2 c3] w0 (fun v w' => ∃ (r0 : List Pt) (A0 : Option Addr) (n0 c0 : Nat), v = .slice A0 n0 c0 ∧ Q r0 ∧ Gr w0 w' none ∧ Ok w' ([blk (.slice A0 n0 c0)] ++ O) ∧ (∀ b, some b ∈ [blk (.slice A0 n0 c0)] → w0.heap.size ≤ b) ∧ Ow kPt 29 w' ([blk (.slice A0 n0 c0)] ++ O) (.slice A0 n0 c0) r0) := by
 have H : ((0 : Int) ≤ (a.length : Int) ∧ (a.length : Int) ≤ (268435456 : Int)) ∧ (∃ (I41 : (List Pt) → Int → Prop) (mu42 : (List Pt) → Int → Nat), I41 (List.replicate (a.length : Int).toNat ((⟨0, 0⟩ : Pt) : Pt)) 0 ∧ ∀ (xs2 : List Pt) (i2 : Int), I41 xs2 i2 → (if decide (i2 < (a.length : Int)) then ((0 : Int) ≤ i2 ∧ i2 < (a.length : Int)) ∧ laws_toPt.E (nth a i2) (fun r => ((0 : Int) ≤ i2 ∧ i2 < (xs2.length : Int)) ∧ (-9223372036854775808 ≤ i2) ∧ I41 (xs2.set i2.toNat r) (i2 + 1) ∧ mu42 (xs2.set i2.toNat r) (i2 + 1) < mu42 xs2 i2) else Q xs2)) := h
 clear h
 have hc0 := Ct.init hO
 refine Ret_enter Try.func139 rfl 23 rfl [.tmp 2] rfl rfl ?_
 refine W_seq ?_
 refine W_reg ?_
 refine L_pu (P_assign (.slice none 0 0) rfl) ?_
 refine L_nil ?_
 refine W_seq ?_
 refine W_reg ?_
 refine L_pu (P_move (.slice A1 n2 c3) rfl) ?_
 have hl6 := hp4.le
 refine L_pu (P_len Try.underlying60 A1 n2 c3 hp4.len rfl) ?_
 obtain ⟨hb7, H⟩ := H
 refine L_make (kd := kPt) ei23 hc0 ((⟨0, 0⟩ : Pt) : Pt) ((kPt.mk _ _ (⟨0, 0⟩ : Pt))) (a.length : Int) rfl rfl hb7 fun w8 A9 n10 c11 g12 hr13 hc14 h15 => ?_
 refine L_pu (P_assign (.slice A9 n10 c11) rfl) ?_
 refine L_nil ?_
 refine W_seq ?_
 refine W_seq ?_
 refine W_reg ?_
 refine L_pu (P_assign (vi 0) rfl) ?_
 refine L_nil ?_
 refine W_block ?_
 obtain ⟨I41, mu42, hI43, H⟩ := H
 refine W_loop (α := (List Pt) × Int) (fun (sv__ : (List Pt) × Int) t w32 => match sv__ with | (xs2, i2) => I41 xs2 i2 ∧ Has t [(0, .slice A1 n2 c3), (3, .slice A9 n10 c11), (4, vi i2)] ∧ Ct [] w0 w32 [blk (.slice A9 n10 c11)] O ∧ Sl kPt w32 (Fr ([blk (.slice A9 n10 c11)] ++ O)) (.slice A1 n2 c3) a ∧ Ow kPt 29 w32 ([blk (.slice A9 n10 c11)] ++ O) (.slice A9 n10 c11) xs2) (fun (sv__ : (List Pt) × Int) => match sv__ with | (xs2, i2) => mu42 xs2 i2) ((List.replicate (a.length : Int).toNat ((⟨0, 0⟩ : Pt) : Pt)), 0) ⟨hI43, ⟨rfl, rfl, rfl, trivial⟩, hc14, (hp4.st hc14.st), h15⟩ ?_
 rintro ⟨xs2, i2⟩ _ w32 ⟨hI43, hh45, hc38, h39, h40⟩
 obtain ⟨u46, rfl⟩ := Has.ins hh45
 have H := H xs2 i2 hI43
 refine W_seq ?_
 refine W_seq ?_
 refine W_reg ?_
 refine L_pu (P_move (vi i2) rfl) ?_
 refine L_pu (P_move (.slice A1 n2 c3) rfl) ?_
 have hl47 := h39.le
 refine L_pu (P_len Try.underlying60 A1 n2 c3 h39.len rfl) ?_
 refine L_pu (P_cmp i2 (a.length : Int) (decide (i2 < (a.length : Int))) rfl rfl rfl) ?_
 refine L_nil ?_
 refine W_cond (decide (i2 < (a.length : Int))) rfl (fun hq48 => ?_) (fun hq48 => ?_)
 ·have H := ite_t H hq48
  refine W_skip ?_
  refine W_seq ?_
  refine W_block ?_
  refine W_reg ?_
  refine L_pu (P_move (.slice A9 n10 c11) rfl) ?_
  refine L_pu (P_move (vi i2) rfl) ?_
  refine L_pu (P_move (.slice A1 n2 c3) rfl) ?_
  refine L_pu (P_move (vi i2) rfl) ?_
  obtain ⟨hb49, H⟩ := H
  obtain ⟨ad50, cs51, hA52, hS55, hR53, hcl54⟩ := h39.get default (by decide) i2 hb49
  obtain rfl := kPt.op hR53
  refine L_pu (P_ia Try.underlying60 se60 A1 ad50 n2 c3 h39.len i2 rfl hA52 rfl hb49) ?_
  refine L_pu (P_lda ag201 sz201 cL (ad50.add (i2.toNat * 2)) [vi ((nth a i2).X), vi ((nth a i2).Y)] rfl rfl hcl54) ?_
  refine L_call go168 [.agg #[vi ((nth a i2).X), vi ((nth a i2).Y)]] rfl ((laws_toPt.calls w32 hc38.ok (nth a i2) _ H).mono ?_)
  rintro _ w56 ⟨r, rfl, H, g57⟩
  have hc61 := hc38.k0 g57
  obtain ⟨hb62, H⟩ := H
  have h69 := (h40.sn g57)
  obtain ⟨ad63, cs64, hA65, hR66, hcl67⟩ := h69.get default (by decide) i2 hb62
  obtain rfl := kPt.op hR66
  refine L_pu (P_ia Try.underlying23 se23 A9 ad63 n10 c11 h69.len i2 rfl hA65 rfl hb62) ?_
  refine L_ste0 A9 n10 c11 xs2 h69 i2 hb62 ad63 hA65 0 rfl [vi r.X, vi r.Y] rfl sz29 rfl r [vi ((nth xs2 i2).X), vi ((nth xs2 i2).Y)] [vi r.X, vi r.Y] hcl67 rfl rfl (kPt.mk _ _ r) fun w70 g71 h72 => ?_
  have hc73 := hc61.wr 0 rfl g71
  refine L_nil ?_
  refine W_reg ?_
  refine L_pu (P_move (vi i2) rfl) ?_
  obtain ⟨hb75, H⟩ := H
  have hi74 : I64 (i2 + 1) := i64_succ (of_decide_eq_true hq48) hl47 hb75
  refine L_pu (P_add i2 1 rfl rfl hi74) ?_
  refine L_pu (P_assign (vi (i2 + 1)) rfl) ?_
  refine L_nil ?_
  obtain ⟨hI76, hm77⟩ := H
  have h78 := ((h39.st (.new _ g57)).st (.wl (L := [blk (.slice A9 n10 c11)]) (O := O) (j := 0) rfl g71))
  exact ⟨((xs2.set i2.toNat r), i2 + 1), hm77, hI76, ⟨rfl, rfl, rfl, trivial⟩, hc73, h78, h72⟩
 ·have H := ite_f H hq48
  refine W_exit (xin_hit ?_)
  refine W_seq ?_
  refine W_reg ?_
  refine L_pu (P_move (.slice A9 n10 c11) rfl) ?_
  refine L_pu (P_assign (.slice A9 n10 c11) rfl) ?_
  refine L_nil ?_
  refine W_ret ?_
  exact ⟨[.slice A9 n10 c11], ⟨_, rfl, rfl⟩, xs2, A9, n10, c11, rfl, H, hc38.gr.g0, hc38.ok, hc38.ge, h40⟩
end Go.Proofs.Ytndjggncgpjolaa

namespace Go.Proofs.Ytndjggncgpjolaa
set_option linter.unusedVariables false
set_option linter.unusedSimpArgs false
set_option linter.unusedSectionVars false
theorem laws_toPtS.law (a : List Pt) (Q : List Pt → Prop) (ha : bulk a ≤ 1048576) (hq : Q a) : laws_toPtS.E a Q := by
 unfold laws_toPtS.E
 exact toS_shape _ laws_toPt.E (fun x Q => laws_toPt.law x Q) a Q ha hq
end Go.Proofs.Ytndjggncgpjolaa

namespace Go.Proofs.Ytndjggncgpjolaa
open Go.RowKit
set_option linter.unusedVariables false
set_option linter.unusedSimpArgs false
def laws_toShape.E (a : Shape) (Q : Shape → Prop) : Prop :=
 laws_toPtS.E a.Pts (fun r => Q (⟨a.Kind, r⟩ : Shape))
set_option maxHeartbeats 8000000 in
set_option maxRecDepth 100000 in
theorem laws_toShape.calls {O : Ob} (w0 : World) (hO : Ok w0 O) (a : Shape) (A1 : Option Addr) (n2 c3 : Nat) (hp4 : Sl kPt w0 (Fr O) (.slice A1 n2 c3) a.Pts) (Q : Shape → Prop) (h : laws_toShape.E a Q) :
  Ret Try.prog 91 [.agg #[vi a.Kind, .slice A1 n2 c3]] w0 (fun v w' => ∃ (r0 : Shape) (A0 : Option Addr) (n0 c0 : Nat), v = .agg #[vi r0.Kind, .slice A0 n0 c0] ∧ Q r0 ∧ Gr w0 w' none ∧ Ok w' ([blk (.slice A0 n0 c0)] ++ O) ∧ (∀ b, some b ∈ [blk (.slice A0 n0 c0)] → w0.heap.size ≤ b) ∧ Ow kPt 29 w' ([blk (.slice A0 n0 c0)] ++ O) (.slice A0 n0 c0) r0.Pts) := by
 have H : laws_toPtS.E a.Pts (fun r => Q (⟨a.Kind, r⟩ : Shape)) := h
 clear h
 have hc0 := Ct.init hO
 refine Ret_enter Try.func91 rfl 12 rfl [.cell 2 68] rfl rfl ?_
 refine W_seq ?_
 refine W_reg ?_
 refine L_box [vi a.Kind, .slice A1 n2 c3] rfl fun w6 b7 hl9 hu10 g8 hx11 => ?_
 have h13 := Fb.mk hc0.ok hl9 hx11
 have hc14 := hc0.k0 g8
 refine L_alloc [.int .i64 0, .slice none 0 0] ze68 fun w15 b16 hl18 hu19 g17 hx20 => ?_
 have hc22 := hc14.own g17 (some b16) (oglt hl18 hu19)
 refine L_nil ?_
 refine W_seq ?_
 refine W_reg ?_
 refine L_alloc [.int .i64 0, .slice none 0 0] ze68 fun w23 b24 hl26 hu27 g25 hx28 => ?_
 have hc30 := hc22.own g25 (some b24) (oglt hl26 hu27)
 refine L_nil ?_
 refine W_seq ?_
 refine W_reg ?_
 refine L_pu (P_fa fa62_0 ⟨b7, 0, none⟩ ⟨b7, 0, none⟩ rfl rfl) ?_
 have h31 := ((h13.st (.own _ _ g17 (oge hl18))).st (.own _ _ g25 (oge hl26)))
 refine L_pu (P_ld ag3 cL ⟨b7, 0, none⟩ (vi a.Kind) rfl (h31.cell rfl)) ?_
 refine L_pu (P_fa fa68_0 ⟨b24, 0, none⟩ ⟨b24, 0, none⟩ rfl rfl) ?_
 refine L_stb b24 0 [vi 0, .slice none 0 0] [vi a.Kind] [vi a.Kind, .slice none 0 0] rfl hx28 rfl sz3 rfl rfl rfl fun w32 g33 hx34 => ?_
 have hc35 := hc30.wr 0 rfl g33
 refine L_nil ?_
 refine W_seq ?_
 refine W_reg ?_
 refine L_pu (P_fa fa62_1 ⟨b7, 0, none⟩ ⟨b7, 1, none⟩ rfl rfl) ?_
 have h36 := (h31.st (.wl (L := [some b24, some b16]) (O := O) (j := 0) rfl g33))
 refine L_pu (P_ld ag60 cL ⟨b7, 1, none⟩ (.slice A1 n2 c3) rfl (h36.cell rfl)) ?_
 refine L_call go139 [.slice A1 n2 c3] rfl ((laws_toPtS.calls w32 hc35.ok a.Pts A1 n2 c3 (hp4.st hc35.st) _ H).mono ?_)
 rintro _ w37 ⟨r, A39, n40, c41, rfl, H, g38, hk45, hk46, h42⟩
 have hc47 := hc35.owns g38 hk45 hk46
 refine L_pu (P_fa fa68_1 ⟨b24, 0, none⟩ ⟨b24, 1, none⟩ rfl rfl) ?_
 have h51 := (hx34.k0 g38)
 refine L_stb b24 1 [vi a.Kind, .slice none 0 0] [.slice A39 n40 c41] [vi a.Kind, .slice A39 n40 c41] rfl h51 rfl sz23 rfl rfl rfl fun w48 g49 hx50 => ?_
 have hc52 := hc47.wr 1 rfl g49
 refine L_nil ?_
 refine W_seq ?_
 refine W_reg ?_
 refine L_pu (P_lda ag68 sz68 cL ⟨b24, 0, none⟩ [vi a.Kind, .slice A39 n40 c41] rfl rfl (hx50.cells (off := 0) rfl)) ?_
 have h56 := (Bx.sm (L := [blk (.slice A39 n40 c41), some b24, some b16]) (O := O) ((Bx.sm (L := [some b24, some b16]) (O := O) (hx20.k0 g25) hc30 (i := 1) rfl (j := 0) rfl (by decide) g33).k0 g38) hc47 (i := 2) rfl (j := 1) rfl (by decide) g49)
 refine L_stb b16 0 [vi 0, .slice none 0 0] [vi a.Kind, .slice A39 n40 c41] [vi a.Kind, .slice A39 n40 c41] rfl h56 rfl sz68 rfl rfl rfl fun w53 g54 hx55 => ?_
 have hc57 := hc52.wr 2 rfl g54
 refine L_nil ?_
 refine W_ret ?_
 have h58 := Bx.gv (L := [blk (.slice A39 n40 c41), some b24, some b16]) (O := O) hx55 hc57 (i := 2) rfl
 have hc59 := hc57.drop 2 rfl
 have hc60 := hc59.drop 1 rfl
 have h61 := (h58.st (.dr _ (L := [blk (.slice A39 n40 c41), some b24]) (O := O) (j := 1) rfl))
 have h62 := (Ow.sd (L := [blk (.slice A39 n40 c41), some b24]) (O := O) (Ow.sd (L := [blk (.slice A39 n40 c41), some b24, some b16]) (O := O) (Ow.sw (L := [blk (.slice A39 n40 c41), some b24, some b16]) (O := O) (Ow.sw (L := [blk (.slice A39 n40 c41), some b24, some b16]) (O := O) h42 hc47 (i := 0) rfl (j := 1) rfl (by decide) g49) hc52 (i := 0) rfl (j := 2) rfl (by decide) g54) (i := 0) rfl (j := 2) rfl (by decide)) (i := 0) rfl (j := 1) rfl (by decide))
 exact ⟨[.agg #[vi a.Kind, .slice A39 n40 c41]], ⟨_, _, rfl, h61.1.res rfl ag68 sz68, rfl⟩, (⟨a.Kind, r⟩ : Shape), A39, n40, c41, rfl, H, hc60.gr.g0, hc60.ok, hc60.ge, h62⟩
end Go.Proofs.Ytndjggncgpjolaa

namespace Go.Proofs.Ytndjggncgpjolaa
set_option linter.unusedVariables false
set_option linter.unusedSimpArgs false
set_option linter.unusedSectionVars false
theorem laws_toShape.law (a : Shape) (Q : Shape → Prop) (ha : bulk a ≤ 1048576) (hq : Q a) : laws_toShape.E a Q := by
 unfold laws_toShape.E
 have hb : bulk a = bulk a.Kind + bulk a.Pts := rfl
 refine laws_toPtS.law _ _ (by omega) ?_
 exact hq
end Go.Proofs.Ytndjggncgpjolaa

namespace Go.Proofs.Ytndjggncgpjolaa
open Go.RowKit
set_option linter.unusedVariables false
set_option linter.unusedSimpArgs false
def laws_toTag.E (a : Tag) (Q : Tag → Prop) : Prop :=
 Q a
set_option maxHeartbeats 8000000 in
set_option maxRecDepth 100000 in
theorem laws_toTag.calls {O : Ob} (w0 : World) (hO : Ok w0 O) (a : Tag) (hs1 : Lim a.Key) (hs2 : Lim a.Val) (Q : Tag → Prop) (h : laws_toTag.E a Q) :
  Ret Try.prog 140 [.agg #[vs a.Key, vs a.Val]] w0 (fun v w' => ∃ (r0 : Tag), v = .agg #[vs r0.Key, vs r0.Val] ∧ Q r0 ∧ Gr w0 w' none ∧ Lim r0.Key ∧ Lim r0.Val) := by
 have H : Q a := h
 clear h
 have hc0 := Ct.init hO
 refine Ret_enter Try.func140 rfl 11 rfl [.cell 2 133] rfl rfl ?_
 refine W_seq ?_
 refine W_reg ?_
 refine L_box [vs a.Key, vs a.Val] rfl fun w3 b4 hl6 hu7 g5 hx8 => ?_
 have h10 := Fb.mk hc0.ok hl6 hx8
 have hc11 := hc0.k0 g5
 refine L_alloc [vs [], vs []] ze133 fun w12 b13 hl15 hu16 g14 hx17 => ?_
 have hc19 := hc11.own g14 (some b13) (oglt hl15 hu16)
 refine L_nil ?_
 refine W_seq ?_
 refine W_reg ?_
 refine L_alloc [vs [], vs []] ze133 fun w20 b21 hl23 hu24 g22 hx25 => ?_
 have hc27 := hc19.own g22 (some b21) (oglt hl23 hu24)
 refine L_nil ?_
 refine W_seq ?_
 refine W_reg ?_
 refine L_pu (P_fa fa166_0 ⟨b4, 0, none⟩ ⟨b4, 0, none⟩ rfl rfl) ?_
 have h28 := ((h10.st (.own _ _ g14 (oge hl15))).st (.own _ _ g22 (oge hl23)))
 refine L_pu (P_ld ag9 cL ⟨b4, 0, none⟩ (vs a.Key) rfl (h28.cell rfl)) ?_
 refine L_pu (P_fa fa133_0 ⟨b21, 0, none⟩ ⟨b21, 0, none⟩ rfl rfl) ?_
 refine L_stb b21 0 [vs ([] : Str), vs ([] : Str)] [vs a.Key] [vs a.Key, vs ([] : Str)] rfl hx25 rfl sz9 rfl rfl rfl fun w29 g30 hx31 => ?_
 have hc32 := hc27.wr 0 rfl g30
 refine L_nil ?_
 refine W_seq ?_
 refine W_reg ?_
 refine L_pu (P_fa fa166_1 ⟨b4, 0, none⟩ ⟨b4, 1, none⟩ rfl rfl) ?_
 have h33 := (h28.st (.wl (L := [some b21, some b13]) (O := O) (j := 0) rfl g30))
 refine L_pu (P_ld ag9 cL ⟨b4, 1, none⟩ (vs a.Val) rfl (h33.cell rfl)) ?_
 refine L_pu (P_fa fa133_1 ⟨b21, 0, none⟩ ⟨b21, 1, none⟩ rfl rfl) ?_
 refine L_stb b21 1 [vs a.Key, vs ([] : Str)] [vs a.Val] [vs a.Key, vs a.Val] rfl hx31 rfl sz9 rfl rfl rfl fun w34 g35 hx36 => ?_
 have hc37 := hc32.wr 0 rfl g35
 refine L_nil ?_
 refine W_seq ?_
 refine W_reg ?_
 refine L_pu (P_lda ag133 sz133 cL ⟨b21, 0, none⟩ [vs a.Key, vs a.Val] rfl rfl (hx36.cells (off := 0) rfl)) ?_
 have h41 := (Bx.sm (L := [some b21, some b13]) (O := O) (Bx.sm (L := [some b21, some b13]) (O := O) (hx17.k0 g22) hc27 (i := 1) rfl (j := 0) rfl (by decide) g30) hc32 (i := 1) rfl (j := 0) rfl (by decide) g35)
 refine L_stb b13 0 [vs ([] : Str), vs ([] : Str)] [vs a.Key, vs a.Val] [vs a.Key, vs a.Val] rfl h41 rfl sz133 rfl rfl rfl fun w38 g39 hx40 => ?_
 have hc42 := hc37.wr 1 rfl g39
 refine L_nil ?_
 refine W_ret ?_
 have h43 := Bx.gv (L := [some b21, some b13]) (O := O) hx40 hc42 (i := 1) rfl
 have hc44 := hc42.drop 1 rfl
 have hc45 := hc44.drop 0 rfl
 have h46 := (h43.st (.dr _ (L := [some b21]) (O := O) (j := 0) rfl))
 exact ⟨[.agg #[vs a.Key, vs a.Val]], ⟨_, _, rfl, h46.1.res rfl ag133 sz133, rfl⟩, a, rfl, H, hc45.gr.g0, hs1, hs2⟩
end Go.Proofs.Ytndjggncgpjolaa

namespace Go.Proofs.Ytndjggncgpjolaa
set_option linter.unusedVariables false
set_option linter.unusedSimpArgs false
set_option linter.unusedSectionVars false
theorem laws_toTag.law (a : Tag) (Q : Tag → Prop) (ha : bulk a ≤ 1048576) (hq : Q a) : laws_toTag.E a Q := by
 unfold laws_toTag.E
 have hb : bulk a = bulk a.Key + bulk a.Val := rfl
 exact hq
end Go.Proofs.Ytndjggncgpjolaa

namespace Go.Proofs.Ytndjggncgpjolaa
open Go.RowKit
set_option linter.unusedVariables false
set_option linter.unusedSimpArgs false
def laws_toTagS.E (a : List Tag) (Q : List Tag → Prop) : Prop :=
 ((0 : Int) ≤ (a.length : Int) ∧ (a.length : Int) ≤ (268435456 : Int)) ∧ (∃ (I41 : (List Tag) → Int → Prop) (mu42 : (List Tag) → Int → Nat), I41 (List.replicate (a.length : Int).toNat ((⟨([] : Str), ([] : Str)⟩ : Tag) : Tag)) 0 ∧ ∀ (xs2 : List Tag) (i2 : Int), I41 xs2 i2 → (if decide (i2 < (a.length : Int)) then ((0 : Int) ≤ i2 ∧ i2 < (a.length : Int)) ∧ laws_toTag.E (nth a i2) (fun r => ((0 : Int) ≤ i2 ∧ i2 < (xs2.length : Int)) ∧ (-9223372036854775808 ≤ i2) ∧ I41 (xs2.set i2.toNat r) (i2 + 1) ∧ mu42 (xs2.set i2.toNat r) (i2 + 1) < mu42 xs2 i2) else Q xs2))
set_option maxHeartbeats 8000000 in
set_option maxRecDepth 100000 in
theorem laws_toTagS.calls {O : Ob} (w0 : World) (hO : Ok w0 O) (a : List Tag) (A1 : Option Addr) (n2 c3 : Nat) (hp4 : Sl kTag w0 (Fr O) (.slice A1 n2 c3) a) (Q : List Tag → Prop) (h : laws_toTagS.E a Q) :
  Ret Try.prog 92 [.slice A1 n2 c3] w0 (fun v w' => ∃ (r0 : List Tag) (A0 : Option Addr) (n0 c0 : Nat), v = .slice A0 n0 c0 ∧ Q r0 ∧ Gr w0 w' none ∧ Ok w' ([blk (.slice A0 n0 c0)] ++ O) ∧ (∀ b, some b ∈ [blk (.slice A0 n0 c0)] → w0.heap.size ≤ b) ∧ Ow kTag 133 w' ([blk (.slice A0 n0 c0)] ++ O) (.slice A0 n0 c0) r0) := by
 have H : ((0 : Int) ≤ (a.length : Int) ∧ (a.length : Int) ≤ (268435456 : Int)) ∧ (∃ (I41 : (List Tag) → Int → Prop) (mu42 : (List Tag) → Int → Nat), I41 (List.replicate (a.length : Int).toNat ((⟨([] : Str), ([] : Str)⟩ : Tag) : Tag)) 0 ∧ ∀ (xs2 : List Tag) (i2 : Int), I41 xs2 i2 → (if decide (i2 < (a.length : Int)) then ((0 : Int) ≤ i2 ∧ i2 < (a.length : Int)) ∧ laws_toTag.E (nth a i2) (fun r => ((0 : Int) ≤ i2 ∧ i2 < (xs2.length : Int)) ∧ (-9223372036854775808 ≤ i2) ∧ I41 (xs2.set i2.toNat r) (i2 + 1) ∧ mu42 (xs2.set i2.toNat r) (i2 + 1) < mu42 xs2 i2) else Q xs2)) := h
 clear h
 have hc0 := Ct.init hO
 refine Ret_enter Try.func92 rfl 23 rfl [.tmp 2] rfl rfl ?_
 refine W_seq ?_
 refine W_reg ?_
 refine L_pu (P_assign (.slice none 0 0) rfl) ?_
 refine L_nil ?_
 refine W_seq ?_
 refine W_reg ?_
 refine L_pu (P_move (.slice A1 n2 c3) rfl) ?_
 have hl6 := hp4.le
 refine L_pu (P_len Try.underlying63 A1 n2 c3 hp4.len rfl) ?_
 obtain ⟨hb7, H⟩ := H
 refine L_make (kd := kTag) ei69 hc0 ((⟨([] : Str), ([] : Str)⟩ : Tag) : Tag) ((kTag.mk _ _ (⟨([] : Str), ([] : Str)⟩ : Tag) (by decide) (by decide))) (a.length : Int) rfl rfl hb7 fun w8 A9 n10 c11 g12 hr13 hc14 h15 => ?_
 refine L_pu (P_assign (.slice A9 n10 c11) rfl) ?_
 refine L_nil ?_
 refine W_seq ?_
 refine W_seq ?_
 refine W_reg ?_
 refine L_pu (P_assign (vi 0) rfl) ?_
 refine L_nil ?_
 refine W_block ?_
 obtain ⟨I41, mu42, hI43, H⟩ := H
 refine W_loop (α := (List Tag) × Int) (fun (sv__ : (List Tag) × Int) t w32 => match sv__ with | (xs2, i2) => I41 xs2 i2 ∧ Has t [(0, .slice A1 n2 c3), (3, .slice A9 n10 c11), (4, vi i2)] ∧ Ct [] w0 w32 [blk (.slice A9 n10 c11)] O ∧ Sl kTag w32 (Fr ([blk (.slice A9 n10 c11)] ++ O)) (.slice A1 n2 c3) a ∧ Ow kTag 133 w32 ([blk (.slice A9 n10 c11)] ++ O) (.slice A9 n10 c11) xs2) (fun (sv__ : (List Tag) × Int) => match sv__ with | (xs2, i2) => mu42 xs2 i2) ((List.replicate (a.length : Int).toNat ((⟨([] : Str), ([] : Str)⟩ : Tag) : Tag)), 0) ⟨hI43, ⟨rfl, rfl, rfl, trivial⟩, hc14, (hp4.st hc14.st), h15⟩ ?_
 rintro ⟨xs2, i2⟩ _ w32 ⟨hI43, hh45, hc38, h39, h40⟩
 obtain ⟨u46, rfl⟩ := Has.ins hh45
 have H := H xs2 i2 hI43
 refine W_seq ?_
 refine W_seq ?_
 refine W_reg ?_
 refine L_pu (P_move (vi i2) rfl) ?_
 refine L_pu (P_move (.slice A1 n2 c3) rfl) ?_
 have hl47 := h39.le
 refine L_pu (P_len Try.underlying63 A1 n2 c3 h39.len rfl) ?_
 refine L_pu (P_cmp i2 (a.length : Int) (decide (i2 < (a.length : Int))) rfl rfl rfl) ?_
 refine L_nil ?_
 refine W_cond (decide (i2 < (a.length : Int))) rfl (fun hq48 => ?_) (fun hq48 => ?_)
 ·have H := ite_t H hq48
  refine W_skip ?_
  refine W_seq ?_
  refine W_block ?_
  refine W_reg ?_
  refine L_pu (P_move (.slice A9 n10 c11) rfl) ?_
  refine L_pu (P_move (vi i2) rfl) ?_
  refine L_pu (P_move (.slice A1 n2 c3) rfl) ?_
  refine L_pu (P_move (vi i2) rfl) ?_
  obtain ⟨hb49, H⟩ := H
  obtain ⟨ad50, cs51, hA52, hS55, hR53, hcl54⟩ := h39.get default (by decide) i2 hb49
  obtain ⟨rfl, hs56, hs57⟩ := kTag.op hR53
  refine L_pu (P_ia Try.underlying63 se63 A1 ad50 n2 c3 h39.len i2 rfl hA52 rfl hb49) ?_
  refine L_pu (P_lda ag166 sz166 cL (ad50.add (i2.toNat * 2)) [vs ((nth a i2).Key), vs ((nth a i2).Val)] rfl rfl hcl54) ?_
  refine L_call go140 [.agg #[vs ((nth a i2).Key), vs ((nth a i2).Val)]] rfl ((laws_toTag.calls w32 hc38.ok (nth a i2) hs56 hs57 _ H).mono ?_)
  rintro _ w58 ⟨r, rfl, H, g59, hs60, hs61⟩
  have hc65 := hc38.k0 g59
  obtain ⟨hb66, H⟩ := H
  have h73 := (h40.sn g59)
  obtain ⟨ad67, cs68, hA69, hR70, hcl71⟩ := h73.get default (by decide) i2 hb66
  obtain ⟨rfl, hs74, hs75⟩ := kTag.op hR70
  refine L_pu (P_ia Try.underlying69 se69 A9 ad67 n10 c11 h73.len i2 rfl hA69 rfl hb66) ?_
  refine L_ste0 A9 n10 c11 xs2 h73 i2 hb66 ad67 hA69 0 rfl [vs r.Key, vs r.Val] rfl sz133 rfl r [vs ((nth xs2 i2).Key), vs ((nth xs2 i2).Val)] [vs r.Key, vs r.Val] hcl71 rfl rfl (kTag.mk _ _ r hs60 hs61) fun w76 g77 h78 => ?_
  have hc79 := hc65.wr 0 rfl g77
  refine L_nil ?_
  refine W_reg ?_
  refine L_pu (P_move (vi i2) rfl) ?_
  obtain ⟨hb81, H⟩ := H
  have hi80 : I64 (i2 + 1) := i64_succ (of_decide_eq_true hq48) hl47 hb81
  refine L_pu (P_add i2 1 rfl rfl hi80) ?_
  refine L_pu (P_assign (vi (i2 + 1)) rfl) ?_
  refine L_nil ?_
  obtain ⟨hI82, hm83⟩ := H
  have h84 := ((h39.st (.new _ g59)).st (.wl (L := [blk (.slice A9 n10 c11)]) (O := O) (j := 0) rfl g77))
  exact ⟨((xs2.set i2.toNat r), i2 + 1), hm83, hI82, ⟨rfl, rfl, rfl, trivial⟩, hc79, h84, h78⟩
 ·have H := ite_f H hq48
  refine W_exit (xin_hit ?_)
  refine W_seq ?_
  refine W_reg ?_
  refine L_pu (P_move (.slice A9 n10 c11) rfl) ?_
  refine L_pu (P_assign (.slice A9 n10 c11) rfl) ?_
  refine L_nil ?_
  refine W_ret ?_
  exact ⟨[.slice A9 n10 c11], ⟨_, rfl, rfl⟩, xs2, A9, n10, c11, rfl, H, hc38.gr.g0, hc38.ok, hc38.ge, h40⟩
end Go.Proofs.Ytndjggncgpjolaa

namespace Go.Proofs.Ytndjggncgpjolaa
set_option linter.unusedVariables false
set_option linter.unusedSimpArgs false
set_option linter.unusedSectionVars false
theorem laws_toTagS.law (a : List Tag) (Q : List Tag → Prop) (ha : bulk a ≤ 1048576) (hq : Q a) : laws_toTagS.E a Q := by
 unfold laws_toTagS.E
 exact toS_shape _ laws_toTag.E (fun x Q => laws_toTag.law x Q) a Q ha hq
end Go.Proofs.Ytndjggncgpjolaa

namespace Go.Proofs.Ytndjggncgpjolaa
open Go.RowKit
set_option linter.unusedVariables false
set_option linter.unusedSimpArgs false
def laws_toFeat.E (a : Feat) (Q : Feat → Prop) : Prop :=
 laws_toShape.E a.Shape (fun r => laws_toTagS.E a.Tags (fun r2 => Q (⟨a.Id, r, r2⟩ : Feat)))
set_option maxHeartbeats 8000000 in
set_option maxRecDepth 100000 in
theorem laws_toFeat.calls {O : Ob} (w0 : World) (hO : Ok w0 O) (a : Feat) (A2 : Option Addr) (n3 c4 : Nat) (A7 : Option Addr) (n8 c9 : Nat) (hs1 : Lim a.Id) (hp5 : Sl kPt w0 (Fr O) (.slice A2 n3 c4) a.Shape.Pts) (hp10 : Sl kTag w0 (Fr O) (.slice A7 n8 c9) a.Tags) (Q : Feat → Prop) (h : laws_toFeat.E a Q) :
  Ret Try.prog 35 [.agg #[vs a.Id, vi a.Shape.Kind, .slice A2 n3 c4, .slice A7 n8 c9]] w0 (fun v w' => ∃ (r0 : Feat) (A0 : Option Addr) (n0 c0 : Nat) (A2 : Option Addr) (n2 c2 : Nat), v = .agg #[vs r0.Id, vi r0.Shape.Kind, .slice A0 n0 c0, .slice A2 n2 c2] ∧ Q r0 ∧ Gr w0 w' none ∧ Ok w' ([blk (.slice A0 n0 c0), blk (.slice A2 n2 c2)] ++ O) ∧ (∀ b, some b ∈ [blk (.slice A0 n0 c0), blk (.slice A2 n2 c2)] → w0.heap.size ≤ b) ∧ Lim r0.Id ∧ Ow kPt 29 w' ([blk (.slice A0 n0 c0), blk (.slice A2 n2 c2)] ++ O) (.slice A0 n0 c0) r0.Shape.Pts ∧ Ow kTag 133 w' ([blk (.slice A0 n0 c0), blk (.slice A2 n2 c2)] ++ O) (.slice A2 n2 c2) r0.Tags) := by
 have H : laws_toShape.E a.Shape (fun r => laws_toTagS.E a.Tags (fun r2 => Q (⟨a.Id, r, r2⟩ : Feat))) := h
 clear h
 have hc0 := Ct.init hO
 refine Ret_enter Try.func35 rfl 16 rfl [.cell 2 71] rfl rfl ?_
 refine W_seq ?_
 refine W_reg ?_
 refine L_box [vs a.Id, vi a.Shape.Kind, .slice A2 n3 c4, .slice A7 n8 c9] rfl fun w12 b13 hl15 hu16 g14 hx17 => ?_
 have h19 := Fb.mk hc0.ok hl15 hx17
 have hc20 := hc0.k0 g14
 refine L_alloc [vs [], .int .i64 0, .slice none 0 0, .slice none 0 0] ze71 fun w21 b22 hl24 hu25 g23 hx26 => ?_
 have hc28 := hc20.own g23 (some b22) (oglt hl24 hu25)
 refine L_nil ?_
 refine W_seq ?_
 refine W_reg ?_
 refine L_alloc [vs [], .int .i64 0, .slice none 0 0, .slice none 0 0] ze71 fun w29 b30 hl32 hu33 g31 hx34 => ?_
 have hc36 := hc28.own g31 (some b30) (oglt hl32 hu33)
 refine L_nil ?_
 refine W_seq ?_
 refine W_reg ?_
 refine L_pu (P_fa fa65_0 ⟨b13, 0, none⟩ ⟨b13, 0, none⟩ rfl rfl) ?_
 have h37 := ((h19.st (.own _ _ g23 (oge hl24))).st (.own _ _ g31 (oge hl32)))
 refine L_pu (P_ld ag9 cL ⟨b13, 0, none⟩ (vs a.Id) rfl (h37.cell rfl)) ?_
 refine L_pu (P_fa fa71_0 ⟨b30, 0, none⟩ ⟨b30, 0, none⟩ rfl rfl) ?_
 refine L_stb b30 0 [vs ([] : Str), vi 0, .slice none 0 0, .slice none 0 0] [vs a.Id] [vs a.Id, vi 0, .slice none 0 0, .slice none 0 0] rfl hx34 rfl sz9 rfl rfl rfl fun w38 g39 hx40 => ?_
 have hc41 := hc36.wr 0 rfl g39
 refine L_nil ?_
 refine W_seq ?_
 refine W_reg ?_
 refine L_pu (P_fa fa65_1 ⟨b13, 0, none⟩ ⟨b13, 1, none⟩ rfl rfl) ?_
 have h42 := (h37.st (.wl (L := [some b30, some b22]) (O := O) (j := 0) rfl g39))
 refine L_pu (P_lda ag62 sz62 cL ⟨b13, 1, none⟩ [vi a.Shape.Kind, .slice A2 n3 c4] rfl rfl (h42.cells (off := 1) rfl)) ?_
 refine L_call go91 [.agg #[vi a.Shape.Kind, .slice A2 n3 c4]] rfl ((laws_toShape.calls w38 hc41.ok a.Shape A2 n3 c4 (hp5.st hc41.st) _ H).mono ?_)
 rintro _ w43 ⟨r, A45, n46, c47, rfl, H, g44, hk51, hk52, h48⟩
 have hc53 := hc41.owns g44 hk51 hk52
 refine L_pu (P_fa fa71_1 ⟨b30, 0, none⟩ ⟨b30, 1, none⟩ rfl rfl) ?_
 have h57 := (hx40.k0 g44)
 refine L_stb b30 1 [vs a.Id, vi 0, .slice none 0 0, .slice none 0 0] [vi r.Kind, .slice A45 n46 c47] [vs a.Id, vi r.Kind, .slice A45 n46 c47, .slice none 0 0] rfl h57 rfl sz68 rfl rfl rfl fun w54 g55 hx56 => ?_
 have hc58 := hc53.wr 1 rfl g55
 refine L_nil ?_
 refine W_seq ?_
 refine W_reg ?_
 refine L_pu (P_fa fa65_2 ⟨b13, 0, none⟩ ⟨b13, 3, none⟩ rfl rfl) ?_
 have h59 := ((h42.st (.owns _ g44 hk52)).st (.wl (L := [blk (.slice A45 n46 c47), some b30, some b22]) (O := O) (j := 1) rfl g55))
 refine L_pu (P_ld ag63 cL ⟨b13, 3, none⟩ (.slice A7 n8 c9) rfl (h59.cell rfl)) ?_
 refine L_call go92 [.slice A7 n8 c9] rfl ((laws_toTagS.calls w54 hc58.ok a.Tags A7 n8 c9 (hp10.st hc58.st) _ H).mono ?_)
 rintro _ w60 ⟨r2, A62, n63, c64, rfl, H, g61, hk68, hk69, h65⟩
 have hc70 := hc58.owns g61 hk68 hk69
 refine L_pu (P_fa fa71_2 ⟨b30, 0, none⟩ ⟨b30, 3, none⟩ rfl rfl) ?_
 have h74 := (hx56.k0 g61)
 refine L_stb b30 3 [vs a.Id, vi r.Kind, .slice A45 n46 c47, .slice none 0 0] [.slice A62 n63 c64] [vs a.Id, vi r.Kind, .slice A45 n46 c47, .slice A62 n63 c64] rfl h74 rfl sz69 rfl rfl rfl fun w71 g72 hx73 => ?_
 have hc75 := hc70.wr 2 rfl g72
 refine L_nil ?_
 refine W_seq ?_
 refine W_reg ?_
 refine L_pu (P_lda ag71 sz71 cL ⟨b30, 0, none⟩ [vs a.Id, vi r.Kind, .slice A45 n46 c47, .slice A62 n63 c64] rfl rfl (hx73.cells (off := 0) rfl)) ?_
 have h79 := (Bx.sm (L := [blk (.slice A62 n63 c64), blk (.slice A45 n46 c47), some b30, some b22]) (O := O) ((Bx.sm (L := [blk (.slice A45 n46 c47), some b30, some b22]) (O := O) ((Bx.sm (L := [some b30, some b22]) (O := O) (hx26.k0 g31) hc36 (i := 1) rfl (j := 0) rfl (by decide) g39).k0 g44) hc53 (i := 2) rfl (j := 1) rfl (by decide) g55).k0 g61) hc70 (i := 3) rfl (j := 2) rfl (by decide) g72)
 refine L_stb b22 0 [vs ([] : Str), vi 0, .slice none 0 0, .slice none 0 0] [vs a.Id, vi r.Kind, .slice A45 n46 c47, .slice A62 n63 c64] [vs a.Id, vi r.Kind, .slice A45 n46 c47, .slice A62 n63 c64] rfl h79 rfl sz71 rfl rfl rfl fun w76 g77 hx78 => ?_
 have hc80 := hc75.wr 3 rfl g77
 refine L_nil ?_
 refine W_ret ?_
 have h81 := Bx.gv (L := [blk (.slice A62 n63 c64), blk (.slice A45 n46 c47), some b30, some b22]) (O := O) hx78 hc80 (i := 3) rfl
 have hc82 := hc80.drop 3 rfl
 have hc83 := hc82.drop 2 rfl
 have hc84 := hc83.perm (.swap _ _ _)
 have h85 := ((h81.st (.dr _ (L := [blk (.slice A62 n63 c64), blk (.slice A45 n46 c47), some b30]) (O := O) (j := 2) rfl)).st (.perm (L := [blk (.slice A62 n63 c64), blk (.slice A45 n46 c47)]) (O := O) (.swap _ _ _)))
 have h86 := (Ow.sp (L := [blk (.slice A62 n63 c64), blk (.slice A45 n46 c47)]) (O := O) (Ow.sd (L := [blk (.slice A62 n63 c64), blk (.slice A45 n46 c47), some b30]) (O := O) (Ow.sd (L := [blk (.slice A62 n63 c64), blk (.slice A45 n46 c47), some b30, some b22]) (O := O) (Ow.sw (L := [blk (.slice A62 n63 c64), blk (.slice A45 n46 c47), some b30, some b22]) (O := O) (Ow.sw (L := [blk (.slice A62 n63 c64), blk (.slice A45 n46 c47), some b30, some b22]) (O := O) ((Ow.sw (L := [blk (.slice A45 n46 c47), some b30, some b22]) (O := O) h48 hc53 (i := 0) rfl (j := 1) rfl (by decide) g55).sos g61 hk69) hc70 (i := 1) rfl (j := 2) rfl (by decide) g72) hc75 (i := 1) rfl (j := 3) rfl (by decide) g77) (i := 1) rfl (j := 3) rfl (by decide)) (i := 1) rfl (j := 2) rfl (by decide)) (.swap _ _ _))
 have h87 := (Ow.sp (L := [blk (.slice A62 n63 c64), blk (.slice A45 n46 c47)]) (O := O) (Ow.sd (L := [blk (.slice A62 n63 c64), blk (.slice A45 n46 c47), some b30]) (O := O) (Ow.sd (L := [blk (.slice A62 n63 c64), blk (.slice A45 n46 c47), some b30, some b22]) (O := O) (Ow.sw (L := [blk (.slice A62 n63 c64), blk (.slice A45 n46 c47), some b30, some b22]) (O := O) (Ow.sw (L := [blk (.slice A62 n63 c64), blk (.slice A45 n46 c47), some b30, some b22]) (O := O) h65 hc70 (i := 0) rfl (j := 2) rfl (by decide) g72) hc75 (i := 0) rfl (j := 3) rfl (by decide) g77) (i := 0) rfl (j := 3) rfl (by decide)) (i := 0) rfl (j := 2) rfl (by decide)) (.swap _ _ _))
 exact ⟨[.agg #[vs a.Id, vi r.Kind, .slice A45 n46 c47, .slice A62 n63 c64]], ⟨_, _, rfl, h85.1.res rfl ag71 sz71, rfl⟩, (⟨a.Id, r, r2⟩ : Feat), A45, n46, c47, A62, n63, c64, rfl, H, hc84.gr.g0, hc84.ok, hc84.ge, hs1, h86, h87⟩
end Go.Proofs.Ytndjggncgpjolaa

namespace Go.Proofs.Ytndjggncgpjolaa
set_option linter.unusedVariables false
set_option linter.unusedSimpArgs false
set_option linter.unusedSectionVars false
theorem laws_toFeat.law (a : Feat) (Q : Feat → Prop) (ha : bulk a ≤ 1048576) (hq : Q a) : laws_toFeat.E a Q := by
 unfold laws_toFeat.E
 have hb : bulk a = bulk a.Id + bulk a.Shape + bulk a.Tags := rfl
 refine laws_toShape.law _ _ (by omega) ?_
 refine laws_toTagS.law _ _ (by omega) ?_
 exact hq
end Go.Proofs.Ytndjggncgpjolaa

namespace Go.Proofs.Ytndjggncgpjolaa
open Go.RowKit
set_option linter.unusedVariables false
set_option linter.unusedSimpArgs false
def laws_toChange.E (a : Change) (Q : Change → Prop) : Prop :=
 laws_toFeat.E a.Was (fun r => laws_toFeat.E a.Now (fun r2 => Q (⟨a.Id, a.Had, r, a.Has, r2⟩ : Change)))
set_option maxHeartbeats 8000000 in
set_option maxRecDepth 100000 in
theorem laws_toChange.calls {O : Ob} (w0 : World) (hO : Ok w0 O) (a : Change) (A3 : Option Addr) (n4 c5 : Nat) (A8 : Option Addr) (n9 c10 : Nat) (A14 : Option Addr) (n15 c16 : Nat) (A19 : Option Addr) (n20 c21 : Nat) (hs1 : Lim a.Id) (hs2 : Lim a.Was.Id) (hp6 : Sl kPt w0 (Fr O) (.slice A3 n4 c5) a.Was.Shape.Pts) (hp11 : Sl kTag w0 (Fr O) (.slice A8 n9 c10) a.Was.Tags) (hs13 : Lim a.Now.Id) (hp17 : Sl kPt w0 (Fr O) (.slice A14 n15 c16) a.Now.Shape.Pts) (hp22 : Sl kTag w0 (Fr O) (.slice A19 n20 c21) a.Now.Tags) (Q : Change → Prop) (h : laws_toChange.E a Q) :
  Ret Try.prog 63 [.agg #[vs a.Id, vb a.Had, vs a.Was.Id, vi a.Was.Shape.Kind, .slice A3 n4 c5, .slice A8 n9 c10, vb a.Has, vs a.Now.Id, vi a.Now.Shape.Kind, .slice A14 n15 c16, .slice A19 n20 c21]] w0 (fun v w' => ∃ (r0 : Change) (A0 : Option Addr) (n0 c0 : Nat) (A2 : Option Addr) (n2 c2 : Nat) (A4 : Option Addr) (n4 c4 : Nat) (A6 : Option Addr) (n6 c6 : Nat), v = .agg #[vs r0.Id, vb r0.Had, vs r0.Was.Id, vi r0.Was.Shape.Kind, .slice A0 n0 c0, .slice A2 n2 c2, vb r0.Has, vs r0.Now.Id, vi r0.Now.Shape.Kind, .slice A4 n4 c4, .slice A6 n6 c6] ∧ Q r0 ∧ Gr w0 w' none ∧ Ok w' ([blk (.slice A0 n0 c0), blk (.slice A2 n2 c2), blk (.slice A4 n4 c4), blk (.slice A6 n6 c6)] ++ O) ∧ (∀ b, some b ∈ [blk (.slice A0 n0 c0), blk (.slice A2 n2 c2), blk (.slice A4 n4 c4), blk (.slice A6 n6 c6)] → w0.heap.size ≤ b) ∧ Lim r0.Id ∧ Lim r0.Was.Id ∧ Ow kPt 29 w' ([blk (.slice A0 n0 c0), blk (.slice A2 n2 c2), blk (.slice A4 n4 c4), blk (.slice A6 n6 c6)] ++ O) (.slice A0 n0 c0) r0.Was.Shape.Pts ∧ Ow kTag 133 w' ([blk (.slice A0 n0 c0), blk (.slice A2 n2 c2), blk (.slice A4 n4 c4), blk (.slice A6 n6 c6)] ++ O) (.slice A2 n2 c2) r0.Was.Tags ∧ Lim r0.Now.Id ∧ Ow kPt 29 w' ([blk (.slice A0 n0 c0), blk (.slice A2 n2 c2), blk (.slice A4 n4 c4), blk (.slice A6 n6 c6)] ++ O) (.slice A4 n4 c4) r0.Now.Shape.Pts ∧ Ow kTag 133 w' ([blk (.slice A0 n0 c0), blk (.slice A2 n2 c2), blk (.slice A4 n4 c4), blk (.slice A6 n6 c6)] ++ O) (.slice A6 n6 c6) r0.Now.Tags) := by
 have H : laws_toFeat.E a.Was (fun r => laws_toFeat.E a.Now (fun r2 => Q (⟨a.Id, a.Had, r, a.Has, r2⟩ : Change))) := h
 clear h
 have hc0 := Ct.init hO
 refine Ret_enter Try.func63 rfl 22 rfl [.cell 2 103] rfl rfl ?_
 refine W_seq ?_
 refine W_reg ?_
 refine L_box [vs a.Id, vb a.Had, vs a.Was.Id, vi a.Was.Shape.Kind, .slice A3 n4 c5, .slice A8 n9 c10, vb a.Has, vs a.Now.Id, vi a.Now.Shape.Kind, .slice A14 n15 c16, .slice A19 n20 c21] rfl fun w24 b25 hl27 hu28 g26 hx29 => ?_
 have h31 := Fb.mk hc0.ok hl27 hx29
 have hc32 := hc0.k0 g26
 refine L_alloc [vs [], vb false, vs [], .int .i64 0, .slice none 0 0, .slice none 0 0, vb false, vs [], .int .i64 0, .slice none 0 0, .slice none 0 0] ze103 fun w33 b34 hl36 hu37 g35 hx38 => ?_
 have hc40 := hc32.own g35 (some b34) (oglt hl36 hu37)
 refine L_nil ?_
 refine W_seq ?_
 refine W_reg ?_
 refine L_alloc [vs [], vb false, vs [], .int .i64 0, .slice none 0 0, .slice none 0 0, vb false, vs [], .int .i64 0, .slice none 0 0, .slice none 0 0] ze103 fun w41 b42 hl44 hu45 g43 hx46 => ?_
 have hc48 := hc40.own g43 (some b42) (oglt hl44 hu45)
 refine L_nil ?_
 refine W_seq ?_
 refine W_reg ?_
 refine L_pu (P_fa fa100_0 ⟨b25, 0, none⟩ ⟨b25, 0, none⟩ rfl rfl) ?_
 have h49 := ((h31.st (.own _ _ g35 (oge hl36))).st (.own _ _ g43 (oge hl44)))
 refine L_pu (P_ld ag9 cL ⟨b25, 0, none⟩ (vs a.Id) rfl (h49.cell rfl)) ?_
 refine L_pu (P_fa fa103_0 ⟨b42, 0, none⟩ ⟨b42, 0, none⟩ rfl rfl) ?_
 refine L_stb b42 0 [vs ([] : Str), vb false, vs ([] : Str), vi 0, .slice none 0 0, .slice none 0 0, vb false, vs ([] : Str), vi 0, .slice none 0 0, .slice none 0 0] [vs a.Id] [vs a.Id, vb false, vs ([] : Str), vi 0, .slice none 0 0, .slice none 0 0, vb false, vs ([] : Str), vi 0, .slice none 0 0, .slice none 0 0] rfl hx46 rfl sz9 rfl rfl rfl fun w50 g51 hx52 => ?_
 have hc53 := hc48.wr 0 rfl g51
 refine L_nil ?_
 refine W_seq ?_
 refine W_reg ?_
 refine L_pu (P_fa fa100_1 ⟨b25, 0, none⟩ ⟨b25, 1, none⟩ rfl rfl) ?_
 have h54 := (h49.st (.wl (L := [some b42, some b34]) (O := O) (j := 0) rfl g51))
 refine L_pu (P_ld ag4 cL ⟨b25, 1, none⟩ (vb a.Had) rfl (h54.cell rfl)) ?_
 refine L_pu (P_fa fa103_1 ⟨b42, 0, none⟩ ⟨b42, 1, none⟩ rfl rfl) ?_
 refine L_stb b42 1 [vs a.Id, vb false, vs ([] : Str), vi 0, .slice none 0 0, .slice none 0 0, vb false, vs ([] : Str), vi 0, .slice none 0 0, .slice none 0 0] [vb a.Had] [vs a.Id, vb a.Had, vs ([] : Str), vi 0, .slice none 0 0, .slice none 0 0, vb false, vs ([] : Str), vi 0, .slice none 0 0, .slice none 0 0] rfl hx52 rfl sz4 rfl rfl rfl fun w55 g56 hx57 => ?_
 have hc58 := hc53.wr 0 rfl g56
 refine L_nil ?_
 refine W_seq ?_
 refine W_reg ?_
 refine L_pu (P_fa fa100_2 ⟨b25, 0, none⟩ ⟨b25, 2, none⟩ rfl rfl) ?_
 have h59 := (h54.st (.wl (L := [some b42, some b34]) (O := O) (j := 0) rfl g56))
 refine L_pu (P_lda ag65 sz65 cL ⟨b25, 2, none⟩ [vs a.Was.Id, vi a.Was.Shape.Kind, .slice A3 n4 c5, .slice A8 n9 c10] rfl rfl (h59.cells (off := 2) rfl)) ?_
 refine L_call go35 [.agg #[vs a.Was.Id, vi a.Was.Shape.Kind, .slice A3 n4 c5, .slice A8 n9 c10]] rfl ((laws_toFeat.calls w55 hc58.ok a.Was A3 n4 c5 A8 n9 c10 hs2 (hp6.st hc58.st) (hp11.st hc58.st) _ H).mono ?_)
 rintro _ w60 ⟨r, A63, n64, c65, A68, n69, c70, rfl, H, g61, hk74, hk75, hs62, h66, h71⟩
 have hc76 := hc58.owns g61 hk74 hk75
 refine L_pu (P_fa fa103_2 ⟨b42, 0, none⟩ ⟨b42, 2, none⟩ rfl rfl) ?_
 have h80 := (hx57.k0 g61)
 refine L_stb b42 2 [vs a.Id, vb a.Had, vs ([] : Str), vi 0, .slice none 0 0, .slice none 0 0, vb false, vs ([] : Str), vi 0, .slice none 0 0, .slice none 0 0] [vs r.Id, vi r.Shape.Kind, .slice A63 n64 c65, .slice A68 n69 c70] [vs a.Id, vb a.Had, vs r.Id, vi r.Shape.Kind, .slice A63 n64 c65, .slice A68 n69 c70, vb false, vs ([] : Str), vi 0, .slice none 0 0, .slice none 0 0] rfl h80 rfl sz71 rfl rfl rfl fun w77 g78 hx79 => ?_
 have hc81 := hc76.wr 2 rfl g78
 refine L_nil ?_
 refine W_seq ?_
 refine W_reg ?_
 refine L_pu (P_fa fa100_3 ⟨b25, 0, none⟩ ⟨b25, 6, none⟩ rfl rfl) ?_
 have h82 := ((h59.st (.owns _ g61 hk75)).st (.wl (L := [blk (.slice A63 n64 c65), blk (.slice A68 n69 c70), some b42, some b34]) (O := O) (j := 2) rfl g78))
 refine L_pu (P_ld ag4 cL ⟨b25, 6, none⟩ (vb a.Has) rfl (h82.cell rfl)) ?_
 refine L_pu (P_fa fa103_3 ⟨b42, 0, none⟩ ⟨b42, 6, none⟩ rfl rfl) ?_
 refine L_stb b42 6 [vs a.Id, vb a.Had, vs r.Id, vi r.Shape.Kind, .slice A63 n64 c65, .slice A68 n69 c70, vb false, vs ([] : Str), vi 0, .slice none 0 0, .slice none 0 0] [vb a.Has] [vs a.Id, vb a.Had, vs r.Id, vi r.Shape.Kind, .slice A63 n64 c65, .slice A68 n69 c70, vb a.Has, vs ([] : Str), vi 0, .slice none 0 0, .slice none 0 0] rfl hx79 rfl sz4 rfl rfl rfl fun w83 g84 hx85 => ?_
 have hc86 := hc81.wr 2 rfl g84
 refine L_nil ?_
 refine W_seq ?_
 refine W_reg ?_
 refine L_pu (P_fa fa100_4 ⟨b25, 0, none⟩ ⟨b25, 7, none⟩ rfl rfl) ?_
 have h87 := (h82.st (.wl (L := [blk (.slice A63 n64 c65), blk (.slice A68 n69 c70), some b42, some b34]) (O := O) (j := 2) rfl g84))
 refine L_pu (P_lda ag65 sz65 cL ⟨b25, 7, none⟩ [vs a.Now.Id, vi a.Now.Shape.Kind, .slice A14 n15 c16, .slice A19 n20 c21] rfl rfl (h87.cells (off := 7) rfl)) ?_
 refine L_call go35 [.agg #[vs a.Now.Id, vi a.Now.Shape.Kind, .slice A14 n15 c16, .slice A19 n20 c21]] rfl ((laws_toFeat.calls w83 hc86.ok a.Now A14 n15 c16 A19 n20 c21 hs13 (hp17.st hc86.st) (hp22.st hc86.st) _ H).mono ?_)
 rintro _ w88 ⟨r2, A91, n92, c93, A96, n97, c98, rfl, H, g89, hk102, hk103, hs90, h94, h99⟩
 have hc104 := hc86.owns g89 hk102 hk103
 refine L_pu (P_fa fa103_4 ⟨b42, 0, none⟩ ⟨b42, 7, none⟩ rfl rfl) ?_
 have h108 := (hx85.k0 g89)
 refine L_stb b42 7 [vs a.Id, vb a.Had, vs r.Id, vi r.Shape.Kind, .slice A63 n64 c65, .slice A68 n69 c70, vb a.Has, vs ([] : Str), vi 0, .slice none 0 0, .slice none 0 0] [vs r2.Id, vi r2.Shape.Kind, .slice A91 n92 c93, .slice A96 n97 c98] [vs a.Id, vb a.Had, vs r.Id, vi r.Shape.Kind, .slice A63 n64 c65, .slice A68 n69 c70, vb a.Has, vs r2.Id, vi r2.Shape.Kind, .slice A91 n92 c93, .slice A96 n97 c98] rfl h108 rfl sz71 rfl rfl rfl fun w105 g106 hx107 => ?_
 have hc109 := hc104.wr 4 rfl g106
 refine L_nil ?_
 refine W_seq ?_
 refine W_reg ?_
 refine L_pu (P_lda ag103 sz103 cL ⟨b42, 0, none⟩ [vs a.Id, vb a.Had, vs r.Id, vi r.Shape.Kind, .slice A63 n64 c65, .slice A68 n69 c70, vb a.Has, vs r2.Id, vi r2.Shape.Kind, .slice A91 n92 c93, .slice A96 n97 c98] rfl rfl (hx107.cells (off := 0) rfl)) ?_
 have h113 := (Bx.sm (L := [blk (.slice A91 n92 c93), blk (.slice A96 n97 c98), blk (.slice A63 n64 c65), blk (.slice A68 n69 c70), some b42, some b34]) (O := O) ((Bx.sm (L := [blk (.slice A63 n64 c65), blk (.slice A68 n69 c70), some b42, some b34]) (O := O) (Bx.sm (L := [blk (.slice A63 n64 c65), blk (.slice A68 n69 c70), some b42, some b34]) (O := O) ((Bx.sm (L := [some b42, some b34]) (O := O) (Bx.sm (L := [some b42, some b34]) (O := O) (hx38.k0 g43) hc48 (i := 1) rfl (j := 0) rfl (by decide) g51) hc53 (i := 1) rfl (j := 0) rfl (by decide) g56).k0 g61) hc76 (i := 3) rfl (j := 2) rfl (by decide) g78) hc81 (i := 3) rfl (j := 2) rfl (by decide) g84).k0 g89) hc104 (i := 5) rfl (j := 4) rfl (by decide) g106)
 refine L_stb b34 0 [vs ([] : Str), vb false, vs ([] : Str), vi 0, .slice none 0 0, .slice none 0 0, vb false, vs ([] : Str), vi 0, .slice none 0 0, .slice none 0 0] [vs a.Id, vb a.Had, vs r.Id, vi r.Shape.Kind, .slice A63 n64 c65, .slice A68 n69 c70, vb a.Has, vs r2.Id, vi r2.Shape.Kind, .slice A91 n92 c93, .slice A96 n97 c98] [vs a.Id, vb a.Had, vs r.Id, vi r.Shape.Kind, .slice A63 n64 c65, .slice A68 n69 c70, vb a.Has, vs r2.Id, vi r2.Shape.Kind, .slice A91 n92 c93, .slice A96 n97 c98] rfl h113 rfl sz103 rfl rfl rfl fun w110 g111 hx112 => ?_
 have hc114 := hc109.wr 5 rfl g111
 refine L_nil ?_
 refine W_ret ?_
 have h115 := Bx.gv (L := [blk (.slice A91 n92 c93), blk (.slice A96 n97 c98), blk (.slice A63 n64 c65), blk (.slice A68 n69 c70), some b42, some b34]) (O := O) hx112 hc114 (i := 5) rfl
 have hc116 := hc114.drop 5 rfl
 have hc117 := hc116.drop 4 rfl
 have hc118 := hc117.perm (.cons _ (.swap _ _ _))
 have hc119 := hc118.perm (.swap _ _ _)
 have hc120 := hc119.perm (.cons _ (.cons _ (.swap _ _ _)))
 have hc121 := hc120.perm (.cons _ (.swap _ _ _))
 have h122 := (((((h115.st (.dr _ (L := [blk (.slice A91 n92 c93), blk (.slice A96 n97 c98), blk (.slice A63 n64 c65), blk (.slice A68 n69 c70), some b42]) (O := O) (j := 4) rfl)).st (.perm (L := [blk (.slice A91 n92 c93), blk (.slice A96 n97 c98), blk (.slice A63 n64 c65), blk (.slice A68 n69 c70)]) (O := O) (.cons _ (.swap _ _ _)))).st (.perm (L := [blk (.slice A91 n92 c93), blk (.slice A63 n64 c65), blk (.slice A96 n97 c98), blk (.slice A68 n69 c70)]) (O := O) (.swap _ _ _))).st (.perm (L := [blk (.slice A63 n64 c65), blk (.slice A91 n92 c93), blk (.slice A96 n97 c98), blk (.slice A68 n69 c70)]) (O := O) (.cons _ (.cons _ (.swap _ _ _))))).st (.perm (L := [blk (.slice A63 n64 c65), blk (.slice A91 n92 c93), blk (.slice A68 n69 c70), blk (.slice A96 n97 c98)]) (O := O) (.cons _ (.swap _ _ _))))
 have h123 := (Ow.sp (L := [blk (.slice A63 n64 c65), blk (.slice A91 n92 c93), blk (.slice A68 n69 c70), blk (.slice A96 n97 c98)]) (O := O) (Ow.sp (L := [blk (.slice A63 n64 c65), blk (.slice A91 n92 c93), blk (.slice A96 n97 c98), blk (.slice A68 n69 c70)]) (O := O) (Ow.sp (L := [blk (.slice A91 n92 c93), blk (.slice A63 n64 c65), blk (.slice A96 n97 c98), blk (.slice A68 n69 c70)]) (O := O) (Ow.sp (L := [blk (.slice A91 n92 c93), blk (.slice A96 n97 c98), blk (.slice A63 n64 c65), blk (.slice A68 n69 c70)]) (O := O) (Ow.sd (L := [blk (.slice A91 n92 c93), blk (.slice A96 n97 c98), blk (.slice A63 n64 c65), blk (.slice A68 n69 c70), some b42]) (O := O) (Ow.sd (L := [blk (.slice A91 n92 c93), blk (.slice A96 n97 c98), blk (.slice A63 n64 c65), blk (.slice A68 n69 c70), some b42, some b34]) (O := O) (Ow.sw (L := [blk (.slice A91 n92 c93), blk (.slice A96 n97 c98), blk (.slice A63 n64 c65), blk (.slice A68 n69 c70), some b42, some b34]) (O := O) (Ow.sw (L := [blk (.slice A91 n92 c93), blk (.slice A96 n97 c98), blk (.slice A63 n64 c65), blk (.slice A68 n69 c70), some b42, some b34]) (O := O) ((Ow.sw (L := [blk (.slice A63 n64 c65), blk (.slice A68 n69 c70), some b42, some b34]) (O := O) (Ow.sw (L := [blk (.slice A63 n64 c65), blk (.slice A68 n69 c70), some b42, some b34]) (O := O) h66 hc76 (i := 0) rfl (j := 2) rfl (by decide) g78) hc81 (i := 0) rfl (j := 2) rfl (by decide) g84).sos g89 hk103) hc104 (i := 2) rfl (j := 4) rfl (by decide) g106) hc109 (i := 2) rfl (j := 5) rfl (by decide) g111) (i := 2) rfl (j := 5) rfl (by decide)) (i := 2) rfl (j := 4) rfl (by decide)) (.cons _ (.swap _ _ _))) (.swap _ _ _)) (.cons _ (.cons _ (.swap _ _ _)))) (.cons _ (.swap _ _ _)))
 have h124 := (Ow.sp (L := [blk (.slice A63 n64 c65), blk (.slice A91 n92 c93), blk (.slice A68 n69 c70), blk (.slice A96 n97 c98)]) (O := O) (Ow.sp (L := [blk (.slice A63 n64 c65), blk (.slice A91 n92 c93), blk (.slice A96 n97 c98), blk (.slice A68 n69 c70)]) (O := O) (Ow.sp (L := [blk (.slice A91 n92 c93), blk (.slice A63 n64 c65), blk (.slice A96 n97 c98), blk (.slice A68 n69 c70)]) (O := O) (Ow.sp (L := [blk (.slice A91 n92 c93), blk (.slice A96 n97 c98), blk (.slice A63 n64 c65), blk (.slice A68 n69 c70)]) (O := O) (Ow.sd (L := [blk (.slice A91 n92 c93), blk (.slice A96 n97 c98), blk (.slice A63 n64 c65), blk (.slice A68 n69 c70), some b42]) (O := O) (Ow.sd (L := [blk (.slice A91 n92 c93), blk (.slice A96 n97 c98), blk (.slice A63 n64 c65), blk (.slice A68 n69 c70), some b42, some b34]) (O := O) (Ow.sw (L := [blk (.slice A91 n92 c93), blk (.slice A96 n97 c98), blk (.slice A63 n64 c65), blk (.slice A68 n69 c70), some b42, some b34]) (O := O) (Ow.sw (L := [blk (.slice A91 n92 c93), blk (.slice A96 n97 c98), blk (.slice A63 n64 c65), blk (.slice A68 n69 c70), some b42, some b34]) (O := O) ((Ow.sw (L := [blk (.slice A63 n64 c65), blk (.slice A68 n69 c70), some b42, some b34]) (O := O) (Ow.sw (L := [blk (.slice A63 n64 c65), blk (.slice A68 n69 c70), some b42, some b34]) (O := O) h71 hc76 (i := 1) rfl (j := 2) rfl (by decide) g78) hc81 (i := 1) rfl (j := 2) rfl (by decide) g84).sos g89 hk103) hc104 (i := 3) rfl (j := 4) rfl (by decide) g106) hc109 (i := 3) rfl (j := 5) rfl (by decide) g111) (i := 3) rfl (j := 5) rfl (by decide)) (i := 3) rfl (j := 4) rfl (by decide)) (.cons _ (.swap _ _ _))) (.swap _ _ _)) (.cons _ (.cons _ (.swap _ _ _)))) (.cons _ (.swap _ _ _)))
 have h125 := (Ow.sp (L := [blk (.slice A63 n64 c65), blk (.slice A91 n92 c93), blk (.slice A68 n69 c70), blk (.slice A96 n97 c98)]) (O := O) (Ow.sp (L := [blk (.slice A63 n64 c65), blk (.slice A91 n92 c93), blk (.slice A96 n97 c98), blk (.slice A68 n69 c70)]) (O := O) (Ow.sp (L := [blk (.slice A91 n92 c93), blk (.slice A63 n64 c65), blk (.slice A96 n97 c98), blk (.slice A68 n69 c70)]) (O := O) (Ow.sp (L := [blk (.slice A91 n92 c93), blk (.slice A96 n97 c98), blk (.slice A63 n64 c65), blk (.slice A68 n69 c70)]) (O := O) (Ow.sd (L := [blk (.slice A91 n92 c93), blk (.slice A96 n97 c98), blk (.slice A63 n64 c65), blk (.slice A68 n69 c70), some b42]) (O := O) (Ow.sd (L := [blk (.slice A91 n92 c93), blk (.slice A96 n97 c98), blk (.slice A63 n64 c65), blk (.slice A68 n69 c70), some b42, some b34]) (O := O) (Ow.sw (L := [blk (.slice A91 n92 c93), blk (.slice A96 n97 c98), blk (.slice A63 n64 c65), blk (.slice A68 n69 c70), some b42, some b34]) (O := O) (Ow.sw (L := [blk (.slice A91 n92 c93), blk (.slice A96 n97 c98), blk (.slice A63 n64 c65), blk (.slice A68 n69 c70), some b42, some b34]) (O := O) h94 hc104 (i := 0) rfl (j := 4) rfl (by decide) g106) hc109 (i := 0) rfl (j := 5) rfl (by decide) g111) (i := 0) rfl (j := 5) rfl (by decide)) (i := 0) rfl (j := 4) rfl (by decide)) (.cons _ (.swap _ _ _))) (.swap _ _ _)) (.cons _ (.cons _ (.swap _ _ _)))) (.cons _ (.swap _ _ _)))
 have h126 := (Ow.sp (L := [blk (.slice A63 n64 c65), blk (.slice A91 n92 c93), blk (.slice A68 n69 c70), blk (.slice A96 n97 c98)]) (O := O) (Ow.sp (L := [blk (.slice A63 n64 c65), blk (.slice A91 n92 c93), blk (.slice A96 n97 c98), blk (.slice A68 n69 c70)]) (O := O) (Ow.sp (L := [blk (.slice A91 n92 c93), blk (.slice A63 n64 c65), blk (.slice A96 n97 c98), blk (.slice A68 n69 c70)]) (O := O) (Ow.sp (L := [blk (.slice A91 n92 c93), blk (.slice A96 n97 c98), blk (.slice A63 n64 c65), blk (.slice A68 n69 c70)]) (O := O) (Ow.sd (L := [blk (.slice A91 n92 c93), blk (.slice A96 n97 c98), blk (.slice A63 n64 c65), blk (.slice A68 n69 c70), some b42]) (O := O) (Ow.sd (L := [blk (.slice A91 n92 c93), blk (.slice A96 n97 c98), blk (.slice A63 n64 c65), blk (.slice A68 n69 c70), some b42, some b34]) (O := O) (Ow.sw (L := [blk (.slice A91 n92 c93), blk (.slice A96 n97 c98), blk (.slice A63 n64 c65), blk (.slice A68 n69 c70), some b42, some b34]) (O := O) (Ow.sw (L := [blk (.slice A91 n92 c93), blk (.slice A96 n97 c98), blk (.slice A63 n64 c65), blk (.slice A68 n69 c70), some b42, some b34]) (O := O) h99 hc104 (i := 1) rfl (j := 4) rfl (by decide) g106) hc109 (i := 1) rfl (j := 5) rfl (by decide) g111) (i := 1) rfl (j := 5) rfl (by decide)) (i := 1) rfl (j := 4) rfl (by decide)) (.cons _ (.swap _ _ _))) (.swap _ _ _)) (.cons _ (.cons _ (.swap _ _ _)))) (.cons _ (.swap _ _ _)))
 exact ⟨[.agg #[vs a.Id, vb a.Had, vs r.Id, vi r.Shape.Kind, .slice A63 n64 c65, .slice A68 n69 c70, vb a.Has, vs r2.Id, vi r2.Shape.Kind, .slice A91 n92 c93, .slice A96 n97 c98]], ⟨_, _, rfl, h122.1.res rfl ag103 sz103, rfl⟩, (⟨a.Id, a.Had, r, a.Has, r2⟩ : Change), A63, n64, c65, A68, n69, c70, A91, n92, c93, A96, n97, c98, rfl, H, hc121.gr.g0, hc121.ok, hc121.ge, hs1, hs62, h123, h124, hs90, h125, h126⟩
end Go.Proofs.Ytndjggncgpjolaa

namespace Go.Proofs.Ytndjggncgpjolaa
set_option linter.unusedVariables false
set_option linter.unusedSimpArgs false
set_option linter.unusedSectionVars false
theorem laws_toChange.law (a : Change) (Q : Change → Prop) (ha : bulk a ≤ 1048576) (hq : Q a) : laws_toChange.E a Q := by
 unfold laws_toChange.E
 have hb : bulk a = bulk a.Id + bulk a.Had + bulk a.Was + bulk a.Has + bulk a.Now := rfl
 refine laws_toFeat.law _ _ (by omega) ?_
 refine laws_toFeat.law _ _ (by omega) ?_
 exact hq
end Go.Proofs.Ytndjggncgpjolaa

namespace Go.Proofs.Ytndjggncgpjolaa
open Go.RowKit
set_option linter.unusedVariables false
set_option linter.unusedSimpArgs false
def laws_toChangeS.E (a : List Change) (Q : List Change → Prop) : Prop :=
 ((0 : Int) ≤ (a.length : Int) ∧ (a.length : Int) ≤ (268435456 : Int)) ∧ (∃ (I62 : (List Change) → Int → Prop) (mu63 : (List Change) → Int → Nat), I62 (List.replicate (a.length : Int).toNat ((⟨([] : Str), false, (⟨([] : Str), (⟨0, []⟩ : Shape), []⟩ : Feat), false, (⟨([] : Str), (⟨0, []⟩ : Shape), []⟩ : Feat)⟩ : Change) : Change)) 0 ∧ ∀ (xs2 : List Change) (i2 : Int), I62 xs2 i2 → (if decide (i2 < (a.length : Int)) then ((0 : Int) ≤ i2 ∧ i2 < (a.length : Int)) ∧ laws_toChange.E (nth a i2) (fun r => ((0 : Int) ≤ i2 ∧ i2 < (xs2.length : Int)) ∧ (-9223372036854775808 ≤ i2) ∧ I62 (xs2.set i2.toNat r) (i2 + 1) ∧ mu63 (xs2.set i2.toNat r) (i2 + 1) < mu63 xs2 i2) else Q xs2))
set_option maxHeartbeats 8000000 in
set_option maxRecDepth 100000 in
theorem laws_toChangeS.calls {O : Ob} (w0 : World) (hO : Ok w0 O) (a : List Change) (A1 : Option Addr) (n2 c3 : Nat) (hp4 : Sl kChange w0 (Fr O) (.slice A1 n2 c3) a) (Q : List Change → Prop) (h : laws_toChangeS.E a Q) :
  Ret Try.prog 20 [.slice A1 n2 c3] w0 (fun v w' => ∃ (r0 : List Change) (A0 : Option Addr) (n0 c0 : Nat) (q0 : Ob) (ra0 : List (List Value)), v = .slice A0 n0 c0 ∧ Q r0 ∧ Gr w0 w' none ∧ Ok w' ((blk (.slice A0 n0 c0) :: (q0 ++ [])) ++ O) ∧ (∀ b, some b ∈ (blk (.slice A0 n0 c0) :: (q0 ++ [])) → w0.heap.size ≤ b) ∧ Ow (Kd.cells 11) 103 w' ((blk (.slice A0 n0 c0) :: (q0 ++ [])) ++ O) (.slice A0 n0 c0) ra0 ∧ DArr dChange_103 w' q0 r0 ra0) := by
 have H : ((0 : Int) ≤ (a.length : Int) ∧ (a.length : Int) ≤ (268435456 : Int)) ∧ (∃ (I62 : (List Change) → Int → Prop) (mu63 : (List Change) → Int → Nat), I62 (List.replicate (a.length : Int).toNat ((⟨([] : Str), false, (⟨([] : Str), (⟨0, []⟩ : Shape), []⟩ : Feat), false, (⟨([] : Str), (⟨0, []⟩ : Shape), []⟩ : Feat)⟩ : Change) : Change)) 0 ∧ ∀ (xs2 : List Change) (i2 : Int), I62 xs2 i2 → (if decide (i2 < (a.length : Int)) then ((0 : Int) ≤ i2 ∧ i2 < (a.length : Int)) ∧ laws_toChange.E (nth a i2) (fun r => ((0 : Int) ≤ i2 ∧ i2 < (xs2.length : Int)) ∧ (-9223372036854775808 ≤ i2) ∧ I62 (xs2.set i2.toNat r) (i2 + 1) ∧ mu63 (xs2.set i2.toNat r) (i2 + 1) < mu63 xs2 i2) else Q xs2)) := h
 clear h
 have hc0 := Ct.init hO
 refine Ret_enter Try.func20 rfl 23 rfl [.tmp 2] rfl rfl ?_
 refine W_seq ?_
 refine W_reg ?_
 refine L_pu (P_assign (.slice none 0 0) rfl) ?_
 refine L_nil ?_
 refine W_seq ?_
 refine W_reg ?_
 refine L_pu (P_move (.slice A1 n2 c3) rfl) ?_
 have hl6 := hp4.le
 refine L_pu (P_len Try.underlying41 A1 n2 c3 hp4.len rfl) ?_
 obtain ⟨hb7, H⟩ := H
 have hd24 : (dChange_103).D w0 ([] ++ ([] ++ (([] ++ (([] ++ [none]) ++ [none])) ++ ([] ++ ([] ++ (([] ++ [none]) ++ [none])))))) (⟨([] : Str), false, (⟨([] : Str), (⟨0, []⟩ : Shape), []⟩ : Feat), false, (⟨([] : Str), (⟨0, []⟩ : Shape), []⟩ : Feat)⟩ : Change) [vs ([] : Str), vb false, vs ([] : Str), vi 0, .slice none 0 0, .slice none 0 0, vb false, vs ([] : Str), vi 0, .slice none 0 0, .slice none 0 0] := (dChange_103.mk _ (⟨([] : Str), false, (⟨([] : Str), (⟨0, []⟩ : Shape), []⟩ : Feat), false, (⟨([] : Str), (⟨0, []⟩ : Shape), []⟩ : Feat)⟩ : Change) (by decide) (by decide) Ds.nil Ds.nil (by decide) Ds.nil Ds.nil)
 have hd25 := DArr.rep hd24 (a.length : Int).toNat
 have hn26 := none_rep (qs := ([] ++ ([] ++ (([] ++ (([] ++ [none]) ++ [none])) ++ ([] ++ ([] ++ (([] ++ [none]) ++ [none]))))))) (by simp) (a.length : Int).toNat
 refine L_make (kd := Kd.cells 11) ei43 hc0 [vs ([] : Str), vb false, vs ([] : Str), vi 0, .slice none 0 0, .slice none 0 0, vb false, vs ([] : Str), vi 0, .slice none 0 0, .slice none 0 0] (Dd.raw _ hd24) (a.length : Int) rfl rfl hb7 fun w16 A17 n18 c19 g20 hr21 hc22 h23 => ?_
 have hp28 : ((List.replicate (a.length : Int).toNat ([] ++ ([] ++ (([] ++ (([] ++ [none]) ++ [none])) ++ ([] ++ ([] ++ (([] ++ [none]) ++ [none]))))))).flatten ++ ([blk (.slice A17 n18 c19)] : Ob)).Perm (blk (.slice A17 n18 c19) :: ((List.replicate (a.length : Int).toNat ([] ++ ([] ++ (([] ++ (([] ++ [none]) ++ [none])) ++ ([] ++ ([] ++ (([] ++ [none]) ++ [none]))))))).flatten ++ [])) := (by rw [List.perm_iff_count]; intro a; (try simp only [List.count_append, List.count_cons, List.count_nil, Nat.add_zero, Nat.zero_add]); first | done | ac_rfl)
 have hc29 := hc22.noned hn26 hp28
 have s30 := St.noned w16 O hn26 hp28
 refine L_pu (P_assign (.slice A17 n18 c19) rfl) ?_
 refine L_nil ?_
 refine W_seq ?_
 refine W_seq ?_
 refine W_reg ?_
 refine L_pu (P_assign (vi 0) rfl) ?_
 refine L_nil ?_
 refine W_block ?_
 obtain ⟨I62, mu63, hI64, H⟩ := H
 have h66 := (Ow.noned h23 hn26 hp28)
 have hd67 := (hd25.k0 g20)
 refine W_loop (α := (List Change) × (List (List Value)) × Ob × Int) (fun (sv__ : (List Change) × (List (List Value)) × Ob × Int) t w50 => match sv__ with | (xs2, ra56, q57, i2) => I62 xs2 i2 ∧ Has t [(0, .slice A1 n2 c3), (3, .slice A17 n18 c19), (4, vi i2)] ∧ Ct [] w0 w50 (blk (.slice A17 n18 c19) :: (q57 ++ [])) O ∧ Sl kChange w50 (Fr ((blk (.slice A17 n18 c19) :: (q57 ++ [])) ++ O)) (.slice A1 n2 c3) a ∧ Ow (Kd.cells 11) 103 w50 ((blk (.slice A17 n18 c19) :: (q57 ++ [])) ++ O) (.slice A17 n18 c19) ra56 ∧ DArr dChange_103 w50 q57 xs2 ra56) (fun (sv__ : (List Change) × (List (List Value)) × Ob × Int) => match sv__ with | (xs2, _, _, i2) => mu63 xs2 i2) ((List.replicate (a.length : Int).toNat ((⟨([] : Str), false, (⟨([] : Str), (⟨0, []⟩ : Shape), []⟩ : Feat), false, (⟨([] : Str), (⟨0, []⟩ : Shape), []⟩ : Feat)⟩ : Change) : Change)), (List.replicate (a.length : Int).toNat [vs ([] : Str), vb false, vs ([] : Str), vi 0, .slice none 0 0, .slice none 0 0, vb false, vs ([] : Str), vi 0, .slice none 0 0, .slice none 0 0]), (List.replicate (a.length : Int).toNat ([] ++ ([] ++ (([] ++ (([] ++ [none]) ++ [none])) ++ ([] ++ ([] ++ (([] ++ [none]) ++ [none]))))))).flatten, 0) ⟨hI64, ⟨rfl, rfl, rfl, trivial⟩, hc29, (hp4.st hc29.st), h66, hd67⟩ ?_
 rintro ⟨xs2, ra56, q57, i2⟩ _ w50 ⟨hI64, hh68, hc58, h59, h60, hd61⟩
 obtain ⟨u69, rfl⟩ := Has.ins hh68
 have H := H xs2 i2 hI64
 refine W_seq ?_
 refine W_seq ?_
 refine W_reg ?_
 refine L_pu (P_move (vi i2) rfl) ?_
 refine L_pu (P_move (.slice A1 n2 c3) rfl) ?_
 have hl70 := h59.le
 refine L_pu (P_len Try.underlying41 A1 n2 c3 h59.len rfl) ?_
 refine L_pu (P_cmp i2 (a.length : Int) (decide (i2 < (a.length : Int))) rfl rfl rfl) ?_
 refine L_nil ?_
 refine W_cond (decide (i2 < (a.length : Int))) rfl (fun hq71 => ?_) (fun hq71 => ?_)
 ·have H := ite_t H hq71
  refine W_skip ?_
  refine W_seq ?_
  refine W_block ?_
  refine W_reg ?_
  refine L_pu (P_move (.slice A17 n18 c19) rfl) ?_
  refine L_pu (P_move (vi i2) rfl) ?_
  refine L_pu (P_move (.slice A1 n2 c3) rfl) ?_
  refine L_pu (P_move (vi i2) rfl) ?_
  obtain ⟨hb72, H⟩ := H
  obtain ⟨ad73, cs74, hA75, hS78, hR76, hcl77⟩ := h59.get default (by decide) i2 hb72
  obtain ⟨A81, n82, c83, A86, n87, c88, A92, n93, c94, A97, n98, c99, rfl, hs79, hs80, h84, h89, hs91, h95, h100⟩ := kChange.op hR76
  refine L_pu (P_ia Try.underlying41 se41 A1 ad73 n2 c3 h59.len i2 rfl hA75 rfl hb72) ?_
  refine L_pu (P_lda ag100 sz100 cL (ad73.add (i2.toNat * 11)) [vs ((nth a i2).Id), vb ((nth a i2).Had), vs ((nth a i2).Was.Id), vi ((nth a i2).Was.Shape.Kind), .slice A81 n82 c83, .slice A86 n87 c88, vb ((nth a i2).Has), vs ((nth a i2).Now.Id), vi ((nth a i2).Now.Shape.Kind), .slice A92 n93 c94, .slice A97 n98 c99] rfl rfl hcl77) ?_
  refine L_call go63 [.agg #[vs ((nth a i2).Id), vb ((nth a i2).Had), vs ((nth a i2).Was.Id), vi ((nth a i2).Was.Shape.Kind), .slice A81 n82 c83, .slice A86 n87 c88, vb ((nth a i2).Has), vs ((nth a i2).Now.Id), vi ((nth a i2).Now.Shape.Kind), .slice A92 n93 c94, .slice A97 n98 c99]] rfl ((laws_toChange.calls w50 hc58.ok (nth a i2) A81 n82 c83 A86 n87 c88 A92 n93 c94 A97 n98 c99 hs79 hs80 h84 h89 hs91 h95 h100 _ H).mono ?_)
  rintro _ w102 ⟨r, A106, n107, c108, A111, n112, c113, A117, n118, c119, A122, n123, c124, rfl, H, g103, hk128, hk129, hs104, hs105, h109, h114, hs116, h120, h125⟩
  have hc130 := hc58.owns g103 hk128 hk129
  obtain ⟨hb131, H⟩ := H
  have h138 := (h60.sos g103 hk129)
  have hd139 := (hd61.k0 g103)
  have hn140 : (0 : Int) ≤ i2 ∧ i2 < (ra56.length : Int) := by rw [hd139.len]; exact hb131
  obtain ⟨ad132, cs133, hA134, hR135, hcl136⟩ := h138.get default (by decide) i2 hn140
  obtain rfl := Kd.cells.op hR135
  refine L_pu (P_ia Try.underlying43 se43 A17 ad132 n18 c19 (Dp.len h138 hd139) i2 rfl hA134 rfl hb131) ?_
  have hd141 : (dChange_103).D w102 ([] ++ ([] ++ (([] ++ (([] ++ [blk (.slice A106 n107 c108)]) ++ [blk (.slice A111 n112 c113)])) ++ ([] ++ ([] ++ (([] ++ [blk (.slice A117 n118 c119)]) ++ [blk (.slice A122 n123 c124)])))))) r [vs r.Id, vb r.Had, vs r.Was.Id, vi r.Was.Shape.Kind, .slice A106 n107 c108, .slice A111 n112 c113, vb r.Has, vs r.Now.Id, vi r.Now.Shape.Kind, .slice A117 n118 c119, .slice A122 n123 c124] := (dChange_103.mk _ r hs104 hs105 (Ds.ofOw kPt_flat h109) (Ds.ofOw kTag_flat h114) hs116 (Ds.ofOw kPt_flat h120) (Ds.ofOw kTag_flat h125))
  have hn147 : (0 : Int) ≤ i2 ∧ i2 < (ra56.length : Int) := by rw [hd139.len]; exact hb131
  obtain ⟨ad142, cs143, hA144, hR145, hcl146⟩ := h138.get default (by decide) i2 hn147
  obtain rfl := Option.some.inj (hA134.symm.trans hA144)
  have hl151 : cs143.length = 11 := (Kd.cells 11).len hR145
  refine L_ste0 (kd := Kd.cells 11) A17 n18 c19 ra56 h138 i2 hn147 ad132 hA134 0 rfl [vs r.Id, vb r.Had, vs r.Was.Id, vi r.Was.Shape.Kind, .slice A106 n107 c108, .slice A111 n112 c113, vb r.Has, vs r.Now.Id, vi r.Now.Shape.Kind, .slice A117 n118 c119, .slice A122 n123 c124] rfl sz103 rfl [vs r.Id, vb r.Had, vs r.Was.Id, vi r.Was.Shape.Kind, .slice A106 n107 c108, .slice A111 n112 c113, vb r.Has, vs r.Now.Id, vi r.Now.Shape.Kind, .slice A117 n118 c119, .slice A122 n123 c124] cs143 [vs r.Id, vb r.Had, vs r.Was.Id, vi r.Was.Shape.Kind, .slice A106 n107 c108, .slice A111 n112 c113, vb r.Has, vs r.Now.Id, vi r.Now.Shape.Kind, .slice A117 n118 c119, .slice A122 n123 c124] hcl146 hl151 (whole_put hl151) (Dd.raw _ hd141) fun w148 g149 h150 => ?_
  have hc152 := hc130.wr 4 rfl g149
  have h153 := (Ow.sw (L := (blk (.slice A106 n107 c108) :: blk (.slice A111 n112 c113) :: blk (.slice A117 n118 c119) :: blk (.slice A122 n123 c124) :: blk (.slice A17 n18 c19) :: (q57 ++ []))) (O := O) h109 hc130 (i := 0) rfl (j := 4) rfl (by decide) g149)
  have h154 := (Ow.sw (L := (blk (.slice A106 n107 c108) :: blk (.slice A111 n112 c113) :: blk (.slice A117 n118 c119) :: blk (.slice A122 n123 c124) :: blk (.slice A17 n18 c19) :: (q57 ++ []))) (O := O) h114 hc130 (i := 1) rfl (j := 4) rfl (by decide) g149)
  have h155 := (Ow.sw (L := (blk (.slice A106 n107 c108) :: blk (.slice A111 n112 c113) :: blk (.slice A117 n118 c119) :: blk (.slice A122 n123 c124) :: blk (.slice A17 n18 c19) :: (q57 ++ []))) (O := O) h120 hc130 (i := 2) rfl (j := 4) rfl (by decide) g149)
  have h156 := (Ow.sw (L := (blk (.slice A106 n107 c108) :: blk (.slice A111 n112 c113) :: blk (.slice A117 n118 c119) :: blk (.slice A122 n123 c124) :: blk (.slice A17 n18 c19) :: (q57 ++ []))) (O := O) h125 hc130 (i := 3) rfl (j := 4) rfl (by decide) g149)
  have hd157 : (dChange_103).D w148 ([] ++ ([] ++ (([] ++ (([] ++ [blk (.slice A106 n107 c108)]) ++ [blk (.slice A111 n112 c113)])) ++ ([] ++ ([] ++ (([] ++ [blk (.slice A117 n118 c119)]) ++ [blk (.slice A122 n123 c124)])))))) r [vs r.Id, vb r.Had, vs r.Was.Id, vi r.Was.Shape.Kind, .slice A106 n107 c108, .slice A111 n112 c113, vb r.Has, vs r.Now.Id, vi r.Now.Shape.Kind, .slice A117 n118 c119, .slice A122 n123 c124] := (dChange_103.mk _ r hs104 hs105 (Ds.ofOw kPt_flat h153) (Ds.ofOw kTag_flat h154) hs116 (Ds.ofOw kPt_flat h155) (Ds.ofOw kTag_flat h156))
  have hd158 := (DArr.sm (L := (blk (.slice A106 n107 c108) :: blk (.slice A111 n112 c113) :: blk (.slice A117 n118 c119) :: blk (.slice A122 n123 c124) :: blk (.slice A17 n18 c19) :: (q57 ++ []))) (O := O) (i := 4) hd139 hc130 rfl (fun b hb => (List.mem_append_left _ hb)) g149)
  obtain ⟨q159, q160, hp161, hd162⟩ := DArr.put hd157 (Int.toNat i2) hd158 (by have := hb131; omega)
  have hp163 : ((blk (.slice A106 n107 c108) :: blk (.slice A111 n112 c113) :: blk (.slice A117 n118 c119) :: blk (.slice A122 n123 c124) :: blk (.slice A17 n18 c19) :: (q57 ++ [])) : Ob).Perm (q160 ++ (blk (.slice A17 n18 c19) :: (q159 ++ []))) := (show ((blk (.slice A106 n107 c108) :: blk (.slice A111 n112 c113) :: blk (.slice A117 n118 c119) :: blk (.slice A122 n123 c124) :: blk (.slice A17 n18 c19) :: (q57 ++ [])) : Ob).Perm ((q57 ++ ([] ++ ([] ++ (([] ++ (([] ++ [blk (.slice A106 n107 c108)]) ++ [blk (.slice A111 n112 c113)])) ++ ([] ++ ([] ++ (([] ++ [blk (.slice A117 n118 c119)]) ++ [blk (.slice A122 n123 c124)]))))))) ++ (blk (.slice A17 n18 c19) :: [])) from (by rw [List.perm_iff_count]; intro a; (try simp only [List.count_append, List.count_cons, List.count_nil, Nat.add_zero, Nat.zero_add]); first | done | ac_rfl)).trans ((hp161.append_right (blk (.slice A17 n18 c19) :: [])).trans (show ((q160 ++ q159) ++ (blk (.slice A17 n18 c19) :: []) : Ob).Perm (q160 ++ (blk (.slice A17 n18 c19) :: (q159 ++ []))) from (by rw [List.perm_iff_count]; intro a; (try simp only [List.count_append, List.count_cons, List.count_nil, Nat.add_zero, Nat.zero_add]); first | done | ac_rfl)))
  have hc164 := hc152.drops hp163
  refine L_nil ?_
  refine W_reg ?_
  refine L_pu (P_move (vi i2) rfl) ?_
  obtain ⟨hb166, H⟩ := H
  have hi165 : I64 (i2 + 1) := i64_succ (of_decide_eq_true hq71) hl70 hb166
  refine L_pu (P_add i2 1 rfl rfl hi165) ?_
  refine L_pu (P_assign (vi (i2 + 1)) rfl) ?_
  refine L_nil ?_
  obtain ⟨hI167, hm168⟩ := H
  have h169 := (((h59.st (.owns _ g103 hk129)).st (.wl (L := (blk (.slice A106 n107 c108) :: blk (.slice A111 n112 c113) :: blk (.slice A117 n118 c119) :: blk (.slice A122 n123 c124) :: blk (.slice A17 n18 c19) :: (q57 ++ []))) (O := O) (j := 4) rfl g149)).st (St.drops _ O hp163))
  have h170 := (Ow.drops (L := (blk (.slice A106 n107 c108) :: blk (.slice A111 n112 c113) :: blk (.slice A117 n118 c119) :: blk (.slice A122 n123 c124) :: blk (.slice A17 n18 c19) :: (q57 ++ []))) (O := O) h150 hp163 (memi 0 rfl))
  exact ⟨((xs2.set i2.toNat r), (ra56.set i2.toNat [vs r.Id, vb r.Had, vs r.Was.Id, vi r.Was.Shape.Kind, .slice A106 n107 c108, .slice A111 n112 c113, vb r.Has, vs r.Now.Id, vi r.Now.Shape.Kind, .slice A117 n118 c119, .slice A122 n123 c124]), q159, i2 + 1), hm168, hI167, ⟨rfl, rfl, rfl, trivial⟩, hc164, h169, h170, hd162⟩
 ·have H := ite_f H hq71
  refine W_exit (xin_hit ?_)
  refine W_seq ?_
  refine W_reg ?_
  refine L_pu (P_move (.slice A17 n18 c19) rfl) ?_
  refine L_pu (P_assign (.slice A17 n18 c19) rfl) ?_
  refine L_nil ?_
  refine W_ret ?_
  exact ⟨[.slice A17 n18 c19], ⟨_, rfl, rfl⟩, xs2, A17, n18, c19, q57, ra56, rfl, H, hc58.gr.g0, hc58.ok, hc58.ge, h60, hd61⟩
end Go.Proofs.Ytndjggncgpjolaa

namespace Go.Proofs.Ytndjggncgpjolaa
set_option linter.unusedVariables false
set_option linter.unusedSimpArgs false
set_option linter.unusedSectionVars false
theorem laws_toChangeS.law (a : List Change) (Q : List Change → Prop) (ha : bulk a ≤ 1048576) (hq : Q a) : laws_toChangeS.E a Q := by
 unfold laws_toChangeS.E
 exact toS_shape _ laws_toChange.E (fun x Q => laws_toChange.law x Q) a Q ha hq
end Go.Proofs.Ytndjggncgpjolaa

namespace Go.Proofs.Ytndjggncgpjolaa
open Go.RowKit
set_option linter.unusedVariables false
set_option linter.unusedSimpArgs false
def spec_WordOk.E (s : Str) (Q : Bool → Prop) : Prop :=
 (∃ (I8 : Int → Prop) (mu9 : Int → Nat), I8 0 ∧ ∀ (i2 : Int), I8 i2 → (if decide (i2 < (s.length : Int)) then ((0 : Int) ≤ i2 ∧ i2 < (s.length : Int)) ∧ (if decide (((nth s i2).toNat : Int) < 97) then Q false else ((0 : Int) ≤ i2 ∧ i2 < (s.length : Int)) ∧ (if decide (((nth s i2).toNat : Int) > 122) then Q false else (-9223372036854775808 ≤ i2) ∧ I8 (i2 + 1) ∧ mu9 (i2 + 1) < mu9 i2)) else (if decide ((s.length : Int) ≥ 1) then Q (decide ((s.length : Int) ≤ 6)) else Q false)))
set_option maxHeartbeats 8000000 in
set_option maxRecDepth 100000 in
theorem spec_WordOk.calls {O : Ob} (w0 : World) (hO : Ok w0 O) (s : Str) (hs1 : Lim s) (Q : Bool → Prop) (h : spec_WordOk.E s Q) :
  Ret Try.prog 52 [vs s] w0 (fun v w' => ∃ (r0 : Bool), v = vb r0 ∧ Q r0 ∧ Gr w0 w' none) := by
 have H : (∃ (I8 : Int → Prop) (mu9 : Int → Nat), I8 0 ∧ ∀ (i2 : Int), I8 i2 → (if decide (i2 < (s.length : Int)) then ((0 : Int) ≤ i2 ∧ i2 < (s.length : Int)) ∧ (if decide (((nth s i2).toNat : Int) < 97) then Q false else ((0 : Int) ≤ i2 ∧ i2 < (s.length : Int)) ∧ (if decide (((nth s i2).toNat : Int) > 122) then Q false else (-9223372036854775808 ≤ i2) ∧ I8 (i2 + 1) ∧ mu9 (i2 + 1) < mu9 i2)) else (if decide ((s.length : Int) ≥ 1) then Q (decide ((s.length : Int) ≤ 6)) else Q false))) := h
 clear h
 have hc0 := Ct.init hO
 refine Ret_enter Try.func52 rfl 28 rfl [.tmp 2] rfl rfl ?_
 refine W_seq ?_
 refine W_reg ?_
 refine L_pu (P_assign (vb false) rfl) ?_
 refine L_nil ?_
 refine W_seq ?_
 refine W_seq ?_
 refine W_reg ?_
 refine L_pu (P_assign (vi 0) rfl) ?_
 refine L_nil ?_
 refine W_block ?_
 obtain ⟨I8, mu9, hI10, H⟩ := H
 refine W_loop (α := Int) (fun (sv__ : Int) t w6 => match sv__ with | i2 => I8 i2 ∧ Has t [(0, vs s), (3, vi i2)] ∧ Ct [] w0 w6 [] O) (fun (sv__ : Int) => match sv__ with | i2 => mu9 i2) 0 ⟨hI10, ⟨rfl, rfl, trivial⟩, hc0⟩ ?_
 rintro i2 _ w6 ⟨hI10, hh12, hc7⟩
 obtain ⟨u13, rfl⟩ := Has.ins hh12
 have H := H i2 hI10
 refine W_seq ?_
 refine W_seq ?_
 refine W_reg ?_
 refine L_pu (P_move (vi i2) rfl) ?_
 refine L_pu (P_move (vs s) rfl) ?_
 have hl14 := hs1
 refine L_pu (P_lens Try.underlying9 s rfl) ?_
 refine L_pu (P_cmp i2 (s.length : Int) (decide (i2 < (s.length : Int))) rfl rfl rfl) ?_
 refine L_nil ?_
 refine W_cond (decide (i2 < (s.length : Int))) rfl (fun hq15 => ?_) (fun hq15 => ?_)
 ·have H := ite_t H hq15
  refine W_skip ?_
  refine W_seq ?_
  refine W_block ?_
  refine W_seq ?_
  refine W_reg ?_
  refine L_pu (P_move (vs s) rfl) ?_
  refine L_pu (P_move (vi i2) rfl) ?_
  obtain ⟨hb16, H⟩ := H
  refine L_pu (P_index Try.underlying9 s i2 rfl rfl hb16) ?_
  refine L_pu (P_cmp ((nth s i2).toNat : Int) 97 (decide (((nth s i2).toNat : Int) < 97)) rfl rfl rfl) ?_
  refine L_pu (P_move (vb (decide (((nth s i2).toNat : Int) < 97))) rfl) ?_
  rcases bool_or (decide (((nth s i2).toNat : Int) < 97)) with hq17 | hq17
  ·have H := ite_t H hq17
   refine L_pass (dj := 14) rfl rfl (.inl (by exact congrArg Value.bool hq17)) ?_
   refine L_pass (dj := 14) rfl rfl (.inl (by exact congrArg Value.bool hq17)) ?_
   refine L_pass (dj := 14) rfl rfl (.inl (by exact congrArg Value.bool hq17)) ?_
   refine L_pass (dj := 14) rfl rfl (.inl (by exact congrArg Value.bool hq17)) ?_
   refine L_pu (P_pick true (vb true) (by exact congrArg Value.bool hq17) rfl) ?_
   refine L_nil ?_
   refine W_ct (b := true) rfl rfl ?_
   refine W_seq ?_
   refine W_reg ?_
   refine L_pu (P_assign (vb false) rfl) ?_
   refine L_nil ?_
   refine W_ret ?_
   exact ⟨[vb false], ⟨_, rfl, rfl⟩, false, rfl, H, hc7.gr.g0⟩
  ·have H := ite_f H hq17
   refine L_run (dj := 14) rfl rfl (by exact congrArg Value.bool hq17) ?_
   refine L_pu (P_move (vs s) rfl) ?_
   refine L_run (dj := 14) rfl rfl (by exact congrArg Value.bool hq17) ?_
   refine L_pu (P_move (vi i2) rfl) ?_
   refine L_run (dj := 14) rfl rfl (by exact congrArg Value.bool hq17) ?_
   obtain ⟨hb18, H⟩ := H
   refine L_pu (P_index Try.underlying9 s i2 rfl rfl hb18) ?_
   refine L_run (dj := 14) rfl rfl (by exact congrArg Value.bool hq17) ?_
   refine L_pu (P_cmp ((nth s i2).toNat : Int) 122 (decide (((nth s i2).toNat : Int) > 122)) rfl rfl rfl) ?_
   refine L_pu (P_pick false (vb (decide (((nth s i2).toNat : Int) > 122))) (by exact congrArg Value.bool hq17) rfl) ?_
   refine L_nil ?_
   refine W_cond (decide (((nth s i2).toNat : Int) > 122)) rfl (fun hq19 => ?_) (fun hq19 => ?_)
   ·have H := ite_t H hq19
    refine W_seq ?_
    refine W_reg ?_
    refine L_pu (P_assign (vb false) rfl) ?_
    refine L_nil ?_
    refine W_ret ?_
    exact ⟨[vb false], ⟨_, rfl, rfl⟩, false, rfl, H, hc7.gr.g0⟩
   ·have H := ite_f H hq19
    refine W_skip ?_
    refine W_reg ?_
    refine L_pu (P_move (vi i2) rfl) ?_
    obtain ⟨hb21, H⟩ := H
    have hi20 : I64 (i2 + 1) := i64_succ (of_decide_eq_true hq15) hl14 hb21
    refine L_pu (P_add i2 1 rfl rfl hi20) ?_
    refine L_pu (P_assign (vi (i2 + 1)) rfl) ?_
    refine L_nil ?_
    obtain ⟨hI22, hm23⟩ := H
    exact ⟨i2 + 1, hm23, hI22, ⟨rfl, rfl, trivial⟩, hc7⟩
 ·have H := ite_f H hq15
  refine W_exit (xin_hit ?_)
  refine W_seq ?_
  refine W_reg ?_
  refine L_pu (P_move (vs s) rfl) ?_
  refine L_pu (P_lens Try.underlying9 s rfl) ?_
  refine L_pu (P_cmp (s.length : Int) 1 (decide ((s.length : Int) ≥ 1)) rfl rfl rfl) ?_
  refine L_pu (P_move (vb (decide ((s.length : Int) ≥ 1))) rfl) ?_
  rcases bool_or (decide ((s.length : Int) ≥ 1)) with hq24 | hq24
  ·have H := ite_t H hq24
   refine L_run (dj := 23) rfl rfl (by exact congrArg Value.bool hq24) ?_
   refine L_pu (P_move (vs s) rfl) ?_
   refine L_run (dj := 23) rfl rfl (by exact congrArg Value.bool hq24) ?_
   refine L_pu (P_lens Try.underlying9 s rfl) ?_
   refine L_run (dj := 23) rfl rfl (by exact congrArg Value.bool hq24) ?_
   refine L_pu (P_cmp (s.length : Int) 6 (decide ((s.length : Int) ≤ 6)) rfl rfl rfl) ?_
   refine L_pu (P_pick true (vb (decide ((s.length : Int) ≤ 6))) (by exact congrArg Value.bool hq24) rfl) ?_
   refine L_pu (P_assign (vb (decide ((s.length : Int) ≤ 6))) rfl) ?_
   refine L_nil ?_
   refine W_ret ?_
   exact ⟨[vb (decide ((s.length : Int) ≤ 6))], ⟨_, rfl, rfl⟩, decide ((s.length : Int) ≤ 6), rfl, H, hc7.gr.g0⟩
  ·have H := ite_f H hq24
   refine L_pass (dj := 23) rfl rfl (.inl (by exact congrArg Value.bool hq24)) ?_
   refine L_pass (dj := 23) rfl rfl (.inl (by exact congrArg Value.bool hq24)) ?_
   refine L_pass (dj := 23) rfl rfl (.inl (by exact congrArg Value.bool hq24)) ?_
   refine L_pu (P_pick false (vb false) (by exact congrArg Value.bool hq24) rfl) ?_
   refine L_pu (P_assign (vb false) rfl) ?_
   refine L_nil ?_
   refine W_ret ?_
   exact ⟨[vb false], ⟨_, rfl, rfl⟩, false, rfl, H, hc7.gr.g0⟩
end Go.Proofs.Ytndjggncgpjolaa

namespace Go.Proofs.Ytndjggncgpjolaa
set_option linter.unusedSimpArgs false
set_option linter.unusedVariables false
set_option linter.unusedSectionVars false
section
variable {α : Type} [DecidableEq α]
def lcsR (x : α) (p : List α → Nat) : List α → Nat
  | [] => 0
  | y :: b => if x = y then p b + 1 else max (p (y :: b)) (lcsR x p b)
def lcs : List α → List α → Nat
  | [] => fun _ => 0
  | x :: a => lcsR x (lcs a)
@[simp] theorem lcs_nil (b : List α) : lcs [] b = 0 := rfl
@[simp] theorem lcs_nil2 (a : List α) : lcs a [] = 0 := by cases a <;> rfl
theorem pp {a b c d : Nat} (h : a = c) (k : b = d) : (a, b) = (c, d) := by rw [h, k]
def pairs (i j : Nat) : List α → List α → List (Nat × Nat)
  | x :: a, y :: b => if x = y then (i, j) :: pairs (i + 1) (j + 1) a b else if lcs (x :: a) b ≤ lcs a (y :: b) then pairs (i + 1) j a (y :: b) else pairs i (j + 1) (x :: a) b
  | [], _ => []
  | _ :: _, [] => []
  termination_by a b => a.length + b.length
end
section
variable {α : Type} [Inhabited α]
theorem nth_set (l : List α) {k : Nat} (h : k < l.length) (m : Nat) (v : α) : nth (l.set k v) (m : Int) = if m = k then v else nth l (m : Int) := by
  unfold nth
  rw [Int.toNat_natCast, List.getD_eq_getElem?_getD, List.getD_eq_getElem?_getD, List.getElem?_set]
  by_cases e : m = k
  · subst e; rw [if_pos rfl, if_pos rfl, if_pos h]; rfl
  · rw [if_neg (fun x => e x.symm), if_neg e]
variable [DecidableEq α]
structure Mates (o a : List α) (f : Nat → Option Nat) : Prop where
  lt : ∀ {t x}, f t = some x → t < o.length ∧ x < a.length
  eq : ∀ {t x}, f t = some x → nth o (t : Int) = nth a (x : Int)
  mono : ∀ {t x u y}, f t = some x → f u = some y → t < u → x < y
def From (f : Nat → Option Nat) (t j : Nat) : Prop := ∀ u x, t ≤ u → f u = some x → j ≤ x
theorem From.zero (f : Nat → Option Nat) (t : Nat) : From f t 0 := fun _ _ _ _ => Nat.zero_le _
theorem From.skip {f : Nat → Option Nat} {t j : Nat} (h : From f t j) : From f (t + 1) j := fun u x hu hx => h u x (by omega) hx
theorem From.step {o a : List α} {f : Nat → Option Nat} (m : Mates o a f) {t x : Nat} (h : f t = some x) : From f (t + 1) (x + 1) := fun u y hu hy => m.mono h hy (by omega)
end
end Go.Proofs.Ytndjggncgpjolaa

namespace Go.Proofs.Ytndjggncgpjolaa
set_option linter.unusedVariables false
set_option linter.unusedSimpArgs false
set_option linter.unusedSectionVars false
def Tab (a b : List Pt) (D : Nat → Nat → Prop) (t : List (List Int)) : Prop := t.length = a.length + 1 ∧ ∀ r : Nat, r ≤ a.length → (nth t (r : Int)).length = b.length + 1 ∧ ∀ m : Nat, m ≤ b.length → D r m → nth (nth t (r : Int)) (m : Int) = (lcs (a.drop r) (b.drop m) : Nat)
theorem Tab.set {a b : List Pt} {D : Nat → Nat → Prop} {t : List (List Int)} (h : Tab a b D t) {i j : Nat} (hi : i ≤ a.length) (hj : j ≤ b.length) {v : Int} (hv : v = (lcs (a.drop i) (b.drop j) : Nat)) {D' : Nat → Nat → Prop} (hD : ∀ r m, D' r m → D r m ∨ (r = i ∧ m = j)) :
    Tab a b D' (t.set i ((nth t (i : Int)).set j v)) := by
  obtain ⟨h1, h2⟩ := h
  refine ⟨by rw [List.length_set]; exact h1, fun r hr => ?_⟩
  rw [nth_set _ (by omega)]
  by_cases e : r = i
  · subst e
    rw [if_pos rfl]
    refine ⟨by rw [List.length_set]; exact (h2 r hr).1, fun m hm hd => ?_⟩
    rw [nth_set _ (by rw [(h2 r hr).1]; omega)]
    by_cases f : m = j
    · subst f; rw [if_pos rfl, hv]
    · rw [if_neg f]
      exact (h2 r hr).2 m hm ((hD r m hd).resolve_right fun x => f x.2)
  · rw [if_neg e]
    exact ⟨(h2 r hr).1, fun m hm hd => (h2 r hr).2 m hm ((hD r m hd).resolve_right fun x => e x.1)⟩
def mateN (l : List (Nat × Nat)) (k : Nat) : Option Nat := match l with
  | [] => none
  | p :: l => if p.1 = k then some p.2 else mateN l k
def part (o a : List Pt) : Nat → Option Nat := mateN (pairs 0 0 o a)
end Go.Proofs.Ytndjggncgpjolaa

namespace Go.Proofs.Ytndjggncgpjolaa
set_option linter.unusedVariables false
set_option linter.unusedSimpArgs false
set_option linter.unusedSectionVars false
def allN (n : Nat) (c : Nat → Bool) : Bool := (List.range n).all c
theorem allN_true {n : Nat} {c : Nat → Bool} (h : ∀ j, j < n → c j = true) : allN n c = true := by
  unfold allN; rw [List.all_eq_true]; intro j hj; exact h j (List.mem_range.1 hj)
theorem allN_false {n k : Nat} {c : Nat → Bool} (hk : k < n) (h : c k = false) : allN n c = false := by
  unfold allN
  rw [Bool.eq_false_iff]; intro ha
  rw [List.all_eq_true] at ha
  rw [ha k (List.mem_range.2 hk)] at h; cases h
theorem allN_iff {n : Nat} {c : Nat → Bool} : allN n c = true ↔ ∀ j, j < n → c j = true := by
  unfold allN; rw [List.all_eq_true]; exact ⟨fun h j hj => h j (List.mem_range.2 hj), fun h j hj => h j (List.mem_range.1 hj)⟩
theorem loop_all (n : Nat) (c : Nat → Bool) {B : (Int → Prop) → (Int → Nat) → Int → Prop} {F : Prop}
    (hs : ∀ (I : Int → Prop) (mu : Int → Nat) (k : Nat), k < n → (∀ j, j < k → c j = true) → (c k = true → I ((k : Int) + 1) ∧ mu ((k : Int) + 1) < mu (k : Int)) → B I mu (k : Int))
    (hF : (∀ j, j < n → c j = true) → F) :
    ∃ (I : Int → Prop) (mu : Int → Nat), I 0 ∧ ∀ (i : Int), I i → (if decide (i < (n : Int)) then B I mu i else F) := by
  refine ⟨fun i => ∃ k : Nat, i = k ∧ k ≤ n ∧ ∀ j, j < k → c j = true, fun i => ((n : Int) - i).toNat, ⟨0, rfl, Nat.zero_le _, fun j hj => absurd hj (Nat.not_lt_zero _)⟩, ?_⟩
  rintro _ ⟨k, rfl, hk, ha⟩
  by_cases h : (k : Int) < (n : Int)
  · rw [if_pos (by simpa using h)]
    refine hs _ _ k (by omega) ha fun hc => ⟨⟨k + 1, by omega, by omega, fun j hj => ?_⟩, by omega⟩
    by_cases e : j = k
    · subst e; exact hc
    · exact ha j (by omega)
  · rw [if_neg (by simpa using h)]
    exact hF fun j hj => ha j (by omega)
theorem less_irr : ∀ a : Str, Op.bytesLess a a = false
  | [] => rfl
  | x :: a => by rw [Op.bytesLess]; simp [less_irr a]
theorem less_tri : ∀ a b : Str, (!(Op.bytesLess a b)) = (Op.bytesLess b a || b == a)
  | [], [] => rfl
  | [], y :: b => rfl
  | x :: a, [] => rfl
  | x :: a, y :: b => by
    rw [Op.bytesLess, Op.bytesLess]
    have h := less_tri a b
    by_cases h1 : x < y
    · have h2 : ¬ y < x := fun h => absurd (UInt8.lt_trans h1 h) (UInt8.lt_irrefl _)
      have h3 : ¬ y = x := fun e => by subst e; exact UInt8.lt_irrefl _ h1
      simp [h1, h2, h3]
    · by_cases h2 : y < x
      · have h3 : ¬ x = y := fun e => by subst e; exact UInt8.lt_irrefl _ h2
        simp [h1, h2, h3]
      · have h3 : x = y := UInt8.le_antisymm (UInt8.not_lt.1 h2) (UInt8.not_lt.1 h1)
        subst h3
        simp only [h1, decide_false, Bool.false_or, beq_self_eq_true, Bool.true_and]
        rw [h]
        congr 1
        rw [Bool.eq_iff_iff, beq_iff_eq, beq_iff_eq]
        simp
end Go.Proofs.Ytndjggncgpjolaa

namespace Go.Proofs.Ytndjggncgpjolaa
set_option linter.unusedVariables false
set_option linter.unusedSimpArgs false
set_option linter.unusedSectionVars false
def byteOk (b : UInt8) : Bool := !(decide ((b.toNat : Int) < 97)) && !(decide ((b.toNat : Int) > 122))
def wordOk (s : Str) : Bool := allN s.length (fun k => byteOk (nth s (k : Int))) && (decide (1 ≤ s.length) && decide (s.length ≤ 6))
def inR (x : Int) : Bool := decide (-1000 ≤ x) && decide (x ≤ 1000)
def ptOk (p : Pt) : Bool := inR p.X && inR p.Y
def ptsOk (p : List Pt) : Bool := allN p.length fun k => ptOk (nth p (k : Int)) && (decide (k = 0) || !(decide (nth p ((k : Int) - 1) = nth p (k : Int))))
def kindOk (kind : Int) (p : List Pt) : Bool :=
  if kind = 1 then decide (p.length = 1) else if kind = 2 then decide (2 ≤ p.length) && decide (p.length ≤ 6)
  else if kind = 3 then decide (3 ≤ p.length) && decide (p.length ≤ 6) && !(decide (nth p 0 = nth p ((p.length : Int) - 1))) else false
def shapeOk (s : Shape) : Bool := ptsOk s.Pts && kindOk s.Kind s.Pts
def tagsOk (t : List Tag) : Bool := allN t.length fun k => wordOk (nth t (k : Int)).Key && wordOk (nth t (k : Int)).Val && (decide (k = 0) || Op.bytesLess (nth t ((k : Int) - 1)).Key (nth t (k : Int)).Key)
def featOk (f : Feat) : Bool := tagsOk f.Tags && decide (f.Tags.length ≤ 4) && wordOk f.Id && shapeOk f.Shape
def noF (f : Feat) : Bool := decide (f = ⟨[], ⟨0, []⟩, []⟩)
def sideOk (id : Str) (has : Bool) (f : Feat) : Bool := if has then featOk f && decide (f.Id = id) else noF f
def sameC (c : Change) : Bool := decide (c.Had = c.Has) && decide (c.Was = c.Now)
def changeOk (c : Change) : Bool := wordOk c.Id && sideOk c.Id c.Had c.Was && sideOk c.Id c.Has c.Now && !(sameC c)
def diffOk (d : List Change) : Bool := allN d.length (fun k => changeOk (nth d (k : Int)) && (decide (k = 0) || Op.bytesLess (nth d ((k : Int) - 1)).Id (nth d (k : Int)).Id)) && decide (d.length ≤ 16)
theorem Feat.ext_iff' (a b : Feat) : a = b ↔ a.Id = b.Id ∧ a.Shape = b.Shape ∧ a.Tags = b.Tags := by cases a; cases b; simp
theorem Shape.ext_iff' (a b : Shape) : a = b ↔ a.Kind = b.Kind ∧ a.Pts = b.Pts := by cases a; cases b; simp
end Go.Proofs.Ytndjggncgpjolaa

namespace Go.Proofs.Ytndjggncgpjolaa
set_option linter.unusedVariables false
set_option linter.unusedSimpArgs false
set_option linter.unusedSectionVars false
theorem spec_WordOk.law (s : Str) (Q : Bool → Prop) (hq : Q (wordOk s)) : spec_WordOk.E s Q := by
 unfold spec_WordOk.E
 unfold wordOk at hq
 refine loop_all s.length (fun k => byteOk (nth s (k : Int))) (fun I mu k hk hp hn => ?_) (fun ha => ?_)
 ·refine ⟨by omega, ?_⟩
  cases h1 : decide (((nth s (k : Int)).toNat : Int) < 97) with
  | true => rw [if_pos rfl]; rw [allN_false hk (by simp only [byteOk, h1]; rfl), Bool.false_and] at hq; exact hq
  | false =>
   rw [if_neg (by decide)]
   refine ⟨by omega, ?_⟩
   cases h2 : decide (((nth s (k : Int)).toNat : Int) > 122) with
   | true => rw [if_pos rfl]; rw [allN_false hk (by simp only [byteOk, h1, h2]; rfl), Bool.false_and] at hq; exact hq
   | false =>
    rw [if_neg (by decide)]
    obtain ⟨i1, i2⟩ := hn (by simp only [byteOk, h1, h2]; rfl)
    exact ⟨by omega, i1, i2⟩
 ·rw [allN_true ha, Bool.true_and] at hq
  by_cases h : 1 ≤ s.length
  ·rw [decide_eq_true h, Bool.true_and] at hq
   rw [if_pos (by rw [decide_eq_true_eq]; omega)]
   have e2 : decide ((s.length : Int) ≤ 6) = decide (s.length ≤ 6) := decide_eq_decide.2 (by omega)
   rw [e2]; exact hq
  ·rw [decide_eq_false h, Bool.false_and] at hq
   rw [if_neg (by rw [decide_eq_true_eq]; omega)]; exact hq
end Go.Proofs.Ytndjggncgpjolaa

namespace Go.Proofs.Ytndjggncgpjolaa
open Go.RowKit
set_option linter.unusedVariables false
set_option linter.unusedSimpArgs false
def spec_l1Same.E (a : List Pt) (b : List Pt) (Q : Bool → Prop) : Prop :=
 (if (a.length : Int) != (b.length : Int) then Q false else (∃ (I32 : Int → Prop) (mu33 : Int → Nat), I32 0 ∧ ∀ (i2 : Int), I32 i2 → (if decide (i2 < (a.length : Int)) then ((0 : Int) ≤ i2 ∧ i2 < (a.length : Int)) ∧ ((0 : Int) ≤ i2 ∧ i2 < (b.length : Int)) ∧ (if !(eqPt (nth a i2) (nth b i2)) then Q false else (-9223372036854775808 ≤ i2) ∧ I32 (i2 + 1) ∧ mu33 (i2 + 1) < mu33 i2) else Q true)))
set_option maxHeartbeats 8000000 in
set_option maxRecDepth 100000 in
theorem spec_l1Same.calls {O : Ob} (w0 : World) (hO : Ok w0 O) (a : List Pt) (A1 : Option Addr) (n2 c3 : Nat) (hp4 : Sl kPt w0 (Fr O) (.slice A1 n2 c3) a) (b : List Pt) (A6 : Option Addr) (n7 c8 : Nat) (hp9 : Sl kPt w0 (Fr O) (.slice A6 n7 c8) b) (Q : Bool → Prop) (h : spec_l1Same.E a b Q) :
  Ret Try.prog 147 [.slice A1 n2 c3, .slice A6 n7 c8] w0 (fun v w' => ∃ (r0 : Bool), v = vb r0 ∧ Q r0 ∧ Gr w0 w' none) := by
 have H : (if (a.length : Int) != (b.length : Int) then Q false else (∃ (I32 : Int → Prop) (mu33 : Int → Nat), I32 0 ∧ ∀ (i2 : Int), I32 i2 → (if decide (i2 < (a.length : Int)) then ((0 : Int) ≤ i2 ∧ i2 < (a.length : Int)) ∧ ((0 : Int) ≤ i2 ∧ i2 < (b.length : Int)) ∧ (if !(eqPt (nth a i2) (nth b i2)) then Q false else (-9223372036854775808 ≤ i2) ∧ I32 (i2 + 1) ∧ mu33 (i2 + 1) < mu33 i2) else Q true))) := h
 clear h
 have hc0 := Ct.init hO
 refine Ret_enter Try.func147 rfl 26 rfl [.tmp 4] rfl rfl ?_
 refine W_seq ?_
 refine W_reg ?_
 refine L_pu (P_assign (vb false) rfl) ?_
 refine L_nil ?_
 refine W_seq ?_
 refine W_seq ?_
 refine W_reg ?_
 refine L_pu (P_move (.slice A1 n2 c3) rfl) ?_
 have hl11 := hp4.le
 refine L_pu (P_len Try.underlying23 A1 n2 c3 hp4.len rfl) ?_
 refine L_pu (P_move (.slice A6 n7 c8) rfl) ?_
 have hl12 := hp9.le
 refine L_pu (P_len Try.underlying23 A6 n7 c8 hp9.len rfl) ?_
 refine L_pu (P_cmp (a.length : Int) (b.length : Int) ((a.length : Int) != (b.length : Int)) rfl rfl rfl) ?_
 refine L_nil ?_
 refine W_cond ((a.length : Int) != (b.length : Int)) rfl (fun hq13 => ?_) (fun hq13 => ?_)
 ·have H := ite_t H hq13
  refine W_seq ?_
  refine W_reg ?_
  refine L_pu (P_assign (vb false) rfl) ?_
  refine L_nil ?_
  refine W_ret ?_
  exact ⟨[vb false], ⟨_, rfl, rfl⟩, false, rfl, H, hc0.gr.g0⟩
 ·have H := ite_f H hq13
  refine W_skip ?_
  refine W_seq ?_
  refine W_seq ?_
  refine W_reg ?_
  refine L_pu (P_assign (vi 0) rfl) ?_
  refine L_nil ?_
  refine W_block ?_
  obtain ⟨I32, mu33, hI34, H⟩ := H
  refine W_loop (α := Int) (fun (sv__ : Int) t w26 => match sv__ with | i2 => I32 i2 ∧ Has t [(0, .slice A1 n2 c3), (1, .slice A6 n7 c8), (5, vi i2)] ∧ Ct [] w0 w26 [] O ∧ Sl kPt w26 (Fr ([] ++ O)) (.slice A1 n2 c3) a ∧ Sl kPt w26 (Fr ([] ++ O)) (.slice A6 n7 c8) b) (fun (sv__ : Int) => match sv__ with | i2 => mu33 i2) 0 ⟨hI34, ⟨rfl, rfl, rfl, trivial⟩, hc0, hp4, hp9⟩ ?_
  rintro i2 _ w26 ⟨hI34, hh36, hc29, h30, h31⟩
  obtain ⟨u37, rfl⟩ := Has.ins hh36
  have H := H i2 hI34
  refine W_seq ?_
  refine W_seq ?_
  refine W_reg ?_
  refine L_pu (P_move (vi i2) rfl) ?_
  refine L_pu (P_move (.slice A1 n2 c3) rfl) ?_
  have hl38 := h30.le
  refine L_pu (P_len Try.underlying23 A1 n2 c3 h30.len rfl) ?_
  refine L_pu (P_cmp i2 (a.length : Int) (decide (i2 < (a.length : Int))) rfl rfl rfl) ?_
  refine L_nil ?_
  refine W_cond (decide (i2 < (a.length : Int))) rfl (fun hq39 => ?_) (fun hq39 => ?_)
  ·have H := ite_t H hq39
   refine W_skip ?_
   refine W_seq ?_
   refine W_block ?_
   refine W_seq ?_
   refine W_draw (fun x => Gr w26 x none) (by kernel_rfl) (by kernel_rfl) (Gr.drew _) ?_
   refine Q_pu (P_move (.slice A1 n2 c3) rfl) ?_
   refine Q_pu (P_move (vi i2) rfl) ?_
   obtain ⟨hb40, H⟩ := H
   obtain ⟨ad41, cs42, hA43, hS46, hR44, hcl45⟩ := h30.get default (by decide) i2 hb40
   obtain rfl := kPt.op hR44
   refine Q_pu (P_ia Try.underlying23 se23 A1 ad41 n2 c3 h30.len i2 rfl hA43 rfl hb40) ?_
   refine Q_pu (P_lda ag29 sz29 cQ (ad41.add (i2.toNat * 2)) [vi ((nth a i2).X), vi ((nth a i2).Y)] rfl rfl hcl45) ?_
   refine Q_pu (P_move (.slice A6 n7 c8) rfl) ?_
   refine Q_pu (P_move (vi i2) rfl) ?_
   obtain ⟨hb47, H⟩ := H
   obtain ⟨ad48, cs49, hA50, hS53, hR51, hcl52⟩ := h31.get default (by decide) i2 hb47
   obtain rfl := kPt.op hR51
   refine Q_pu (P_ia Try.underlying23 se23 A6 ad48 n7 c8 h31.len i2 rfl hA50 rfl hb47) ?_
   refine Q_pu (P_lda ag29 sz29 cQ (ad48.add (i2.toNat * 2)) [vi ((nth b i2).X), vi ((nth b i2).Y)] rfl rfl hcl52) ?_
   refine Q_pu (P_ne _ _ (eqPt (nth a i2) (nth b i2)) (qt29 (nth a i2) (nth b i2)) rfl rfl) ?_
   refine Q_nil fun w54 g55 => ?_
   have hc57 := hc29.k0 g55
   refine W_cond (!(eqPt (nth a i2) (nth b i2))) rfl (fun hq58 => ?_) (fun hq58 => ?_)
   ·have H := ite_t H hq58
    refine W_seq ?_
    refine W_reg ?_
    refine L_pu (P_assign (vb false) rfl) ?_
    refine L_nil ?_
    refine W_ret ?_
    exact ⟨[vb false], ⟨_, rfl, rfl⟩, false, rfl, H, hc57.gr.g0⟩
   ·have H := ite_f H hq58
    refine W_skip ?_
    refine W_reg ?_
    refine L_pu (P_move (vi i2) rfl) ?_
    obtain ⟨hb60, H⟩ := H
    have hi59 : I64 (i2 + 1) := i64_succ (of_decide_eq_true hq39) hl38 hb60
    refine L_pu (P_add i2 1 rfl rfl hi59) ?_
    refine L_pu (P_assign (vi (i2 + 1)) rfl) ?_
    refine L_nil ?_
    obtain ⟨hI61, hm62⟩ := H
    exact ⟨i2 + 1, hm62, hI61, ⟨rfl, rfl, rfl, trivial⟩, hc57, (h30.st (.new _ g55)), (h31.st (.new _ g55))⟩
  ·have H := ite_f H hq39
   refine W_exit (xin_hit ?_)
   refine W_seq ?_
   refine W_reg ?_
   refine L_pu (P_assign (vb true) rfl) ?_
   refine L_nil ?_
   refine W_ret ?_
   exact ⟨[vb true], ⟨_, rfl, rfl⟩, true, rfl, H, hc29.gr.g0⟩
end Go.Proofs.Ytndjggncgpjolaa

namespace Go.Proofs.Ytndjggncgpjolaa
set_option linter.unusedVariables false
set_option linter.unusedSimpArgs false
set_option linter.unusedSectionVars false
theorem spec_l1Same.law (a b : List Pt) (Q : Bool → Prop) (hq : Q (decide (a = b))) : spec_l1Same.E a b Q := by
 unfold spec_l1Same.E
 exact eqS_shape eqPt eqPt_is a b Q hq
end Go.Proofs.Ytndjggncgpjolaa

namespace Go.Proofs.Ytndjggncgpjolaa
open Go.RowKit
set_option linter.unusedVariables false
set_option linter.unusedSimpArgs false
def spec_ShapeSame.E (a : Shape) (b : Shape) (Q : Bool → Prop) : Prop :=
 (if a.Kind == b.Kind then spec_l1Same.E a.Pts b.Pts (fun r => Q r) else Q false)
set_option maxHeartbeats 8000000 in
set_option maxRecDepth 100000 in
theorem spec_ShapeSame.calls {O : Ob} (w0 : World) (hO : Ok w0 O) (a : Shape) (A1 : Option Addr) (n2 c3 : Nat) (hp4 : Sl kPt w0 (Fr O) (.slice A1 n2 c3) a.Pts) (b : Shape) (A6 : Option Addr) (n7 c8 : Nat) (hp9 : Sl kPt w0 (Fr O) (.slice A6 n7 c8) b.Pts) (Q : Bool → Prop) (h : spec_ShapeSame.E a b Q) :
  Ret Try.prog 123 [.agg #[vi a.Kind, .slice A1 n2 c3], .agg #[vi b.Kind, .slice A6 n7 c8]] w0 (fun v w' => ∃ (r0 : Bool), v = vb r0 ∧ Q r0 ∧ Gr w0 w' none) := by
 have H : (if a.Kind == b.Kind then spec_l1Same.E a.Pts b.Pts (fun r => Q r) else Q false) := h
 clear h
 have hc0 := Ct.init hO
 refine Ret_enter Try.func123 rfl 17 rfl [.tmp 4] rfl rfl ?_
 refine W_seq ?_
 refine W_reg ?_
 refine L_box [vi a.Kind, .slice A1 n2 c3] rfl fun w11 b12 hl14 hu15 g13 hx16 => ?_
 have h18 := Fb.mk hc0.ok hl14 hx16
 have hc19 := hc0.k0 g13
 refine L_box [vi b.Kind, .slice A6 n7 c8] rfl fun w20 b21 hl23 hu24 g22 hx25 => ?_
 have h27 := Fb.mk hc19.ok hl23 hx25
 have hc28 := hc19.k0 g22
 refine L_pu (P_assign (vb false) rfl) ?_
 refine L_nil ?_
 refine W_seq ?_
 refine W_reg ?_
 refine L_pu (P_fa fa68_0 ⟨b12, 0, none⟩ ⟨b12, 0, none⟩ rfl rfl) ?_
 have h29 := (h18.st (.new _ g22))
 refine L_pu (P_ld ag3 cL ⟨b12, 0, none⟩ (vi a.Kind) rfl (h29.cell rfl)) ?_
 refine L_pu (P_fa fa68_0 ⟨b21, 0, none⟩ ⟨b21, 0, none⟩ rfl rfl) ?_
 refine L_pu (P_ld ag3 cL ⟨b21, 0, none⟩ (vi b.Kind) rfl (h27.cell rfl)) ?_
 refine L_pu (P_cmp a.Kind b.Kind (a.Kind == b.Kind) rfl rfl rfl) ?_
 refine L_pu (P_move (vb (a.Kind == b.Kind)) rfl) ?_
 rcases bool_or (a.Kind == b.Kind) with hq30 | hq30
 ·have H := ite_t H hq30
  refine L_run (dj := 10) rfl rfl (by exact congrArg Value.bool hq30) ?_
  refine L_pu (P_fa fa68_1 ⟨b12, 0, none⟩ ⟨b12, 1, none⟩ rfl rfl) ?_
  refine L_run (dj := 10) rfl rfl (by exact congrArg Value.bool hq30) ?_
  refine L_pu (P_ld ag23 cL ⟨b12, 1, none⟩ (.slice A1 n2 c3) rfl (h29.cell rfl)) ?_
  refine L_run (dj := 10) rfl rfl (by exact congrArg Value.bool hq30) ?_
  refine L_pu (P_fa fa68_1 ⟨b21, 0, none⟩ ⟨b21, 1, none⟩ rfl rfl) ?_
  refine L_run (dj := 10) rfl rfl (by exact congrArg Value.bool hq30) ?_
  refine L_pu (P_ld ag23 cL ⟨b21, 1, none⟩ (.slice A6 n7 c8) rfl (h27.cell rfl)) ?_
  refine L_run (dj := 10) rfl rfl (by exact congrArg Value.bool hq30) ?_
  refine L_call go147 [.slice A1 n2 c3, .slice A6 n7 c8] rfl ((spec_l1Same.calls w20 hc28.ok a.Pts A1 n2 c3 (hp4.st hc28.st) b.Pts A6 n7 c8 (hp9.st hc28.st) _ H).mono ?_)
  rintro _ w31 ⟨r, rfl, H, g32⟩
  have hc36 := hc28.k0 g32
  refine L_pu (P_pick true (vb r) (by exact congrArg Value.bool hq30) rfl) ?_
  refine L_pu (P_assign (vb r) rfl) ?_
  refine L_nil ?_
  refine W_ret ?_
  exact ⟨[vb r], ⟨_, rfl, rfl⟩, r, rfl, H, hc36.gr.g0⟩
 ·have H := ite_f H hq30
  refine L_pass (dj := 10) rfl rfl (.inl (by exact congrArg Value.bool hq30)) ?_
  refine L_pass (dj := 10) rfl rfl (.inl (by exact congrArg Value.bool hq30)) ?_
  refine L_pass (dj := 10) rfl rfl (.inl (by exact congrArg Value.bool hq30)) ?_
  refine L_pass (dj := 10) rfl rfl (.inl (by exact congrArg Value.bool hq30)) ?_
  refine L_pass (dj := 10) rfl rfl (.inl (by exact congrArg Value.bool hq30)) ?_
  refine L_pu (P_pick false (vb false) (by exact congrArg Value.bool hq30) rfl) ?_
  refine L_pu (P_assign (vb false) rfl) ?_
  refine L_nil ?_
  refine W_ret ?_
  exact ⟨[vb false], ⟨_, rfl, rfl⟩, false, rfl, H, hc28.gr.g0⟩
end Go.Proofs.Ytndjggncgpjolaa

namespace Go.Proofs.Ytndjggncgpjolaa
set_option linter.unusedVariables false
set_option linter.unusedSimpArgs false
set_option linter.unusedSectionVars false
theorem spec_ShapeSame.law (a b : Shape) (Q : Bool → Prop) (hq : Q (decide (a = b))) : spec_ShapeSame.E a b Q := by
 unfold spec_ShapeSame.E
 by_cases h : a.Kind = b.Kind
 ·rw [if_pos (by rw [beq_iff_eq]; exact h)]
  refine spec_l1Same.law _ _ _ ?_
  have : decide (a.Pts = b.Pts) = decide (a = b) := decide_eq_decide.2 (by rw [Shape.ext_iff']; exact ⟨fun e => ⟨h, e⟩, fun e => e.2⟩)
  rw [this]; exact hq
 ·rw [if_neg (by rw [beq_iff_eq]; exact h)]
  rw [decide_eq_false (by rw [Shape.ext_iff']; exact fun e => h e.1)] at hq; exact hq
end Go.Proofs.Ytndjggncgpjolaa

namespace Go.Proofs.Ytndjggncgpjolaa
open Go.RowKit
set_option linter.unusedVariables false
set_option linter.unusedSimpArgs false
def spec_l2Same.E (a : List Tag) (b : List Tag) (Q : Bool → Prop) : Prop :=
 (if (a.length : Int) != (b.length : Int) then Q false else (∃ (I32 : Int → Prop) (mu33 : Int → Nat), I32 0 ∧ ∀ (i2 : Int), I32 i2 → (if decide (i2 < (a.length : Int)) then ((0 : Int) ≤ i2 ∧ i2 < (a.length : Int)) ∧ ((0 : Int) ≤ i2 ∧ i2 < (b.length : Int)) ∧ (if !(eqTag (nth a i2) (nth b i2)) then Q false else (-9223372036854775808 ≤ i2) ∧ I32 (i2 + 1) ∧ mu33 (i2 + 1) < mu33 i2) else Q true)))
set_option maxHeartbeats 8000000 in
set_option maxRecDepth 100000 in
theorem spec_l2Same.calls {O : Ob} (w0 : World) (hO : Ok w0 O) (a : List Tag) (A1 : Option Addr) (n2 c3 : Nat) (hp4 : Sl kTag w0 (Fr O) (.slice A1 n2 c3) a) (b : List Tag) (A6 : Option Addr) (n7 c8 : Nat) (hp9 : Sl kTag w0 (Fr O) (.slice A6 n7 c8) b) (Q : Bool → Prop) (h : spec_l2Same.E a b Q) :
  Ret Try.prog 124 [.slice A1 n2 c3, .slice A6 n7 c8] w0 (fun v w' => ∃ (r0 : Bool), v = vb r0 ∧ Q r0 ∧ Gr w0 w' none) := by
 have H : (if (a.length : Int) != (b.length : Int) then Q false else (∃ (I32 : Int → Prop) (mu33 : Int → Nat), I32 0 ∧ ∀ (i2 : Int), I32 i2 → (if decide (i2 < (a.length : Int)) then ((0 : Int) ≤ i2 ∧ i2 < (a.length : Int)) ∧ ((0 : Int) ≤ i2 ∧ i2 < (b.length : Int)) ∧ (if !(eqTag (nth a i2) (nth b i2)) then Q false else (-9223372036854775808 ≤ i2) ∧ I32 (i2 + 1) ∧ mu33 (i2 + 1) < mu33 i2) else Q true))) := h
 clear h
 have hc0 := Ct.init hO
 refine Ret_enter Try.func124 rfl 26 rfl [.tmp 4] rfl rfl ?_
 refine W_seq ?_
 refine W_reg ?_
 refine L_pu (P_assign (vb false) rfl) ?_
 refine L_nil ?_
 refine W_seq ?_
 refine W_seq ?_
 refine W_reg ?_
 refine L_pu (P_move (.slice A1 n2 c3) rfl) ?_
 have hl11 := hp4.le
 refine L_pu (P_len Try.underlying69 A1 n2 c3 hp4.len rfl) ?_
 refine L_pu (P_move (.slice A6 n7 c8) rfl) ?_
 have hl12 := hp9.le
 refine L_pu (P_len Try.underlying69 A6 n7 c8 hp9.len rfl) ?_
 refine L_pu (P_cmp (a.length : Int) (b.length : Int) ((a.length : Int) != (b.length : Int)) rfl rfl rfl) ?_
 refine L_nil ?_
 refine W_cond ((a.length : Int) != (b.length : Int)) rfl (fun hq13 => ?_) (fun hq13 => ?_)
 ·have H := ite_t H hq13
  refine W_seq ?_
  refine W_reg ?_
  refine L_pu (P_assign (vb false) rfl) ?_
  refine L_nil ?_
  refine W_ret ?_
  exact ⟨[vb false], ⟨_, rfl, rfl⟩, false, rfl, H, hc0.gr.g0⟩
 ·have H := ite_f H hq13
  refine W_skip ?_
  refine W_seq ?_
  refine W_seq ?_
  refine W_reg ?_
  refine L_pu (P_assign (vi 0) rfl) ?_
  refine L_nil ?_
  refine W_block ?_
  obtain ⟨I32, mu33, hI34, H⟩ := H
  refine W_loop (α := Int) (fun (sv__ : Int) t w26 => match sv__ with | i2 => I32 i2 ∧ Has t [(0, .slice A1 n2 c3), (1, .slice A6 n7 c8), (5, vi i2)] ∧ Ct [] w0 w26 [] O ∧ Sl kTag w26 (Fr ([] ++ O)) (.slice A1 n2 c3) a ∧ Sl kTag w26 (Fr ([] ++ O)) (.slice A6 n7 c8) b) (fun (sv__ : Int) => match sv__ with | i2 => mu33 i2) 0 ⟨hI34, ⟨rfl, rfl, rfl, trivial⟩, hc0, hp4, hp9⟩ ?_
  rintro i2 _ w26 ⟨hI34, hh36, hc29, h30, h31⟩
  obtain ⟨u37, rfl⟩ := Has.ins hh36
  have H := H i2 hI34
  refine W_seq ?_
  refine W_seq ?_
  refine W_reg ?_
  refine L_pu (P_move (vi i2) rfl) ?_
  refine L_pu (P_move (.slice A1 n2 c3) rfl) ?_
  have hl38 := h30.le
  refine L_pu (P_len Try.underlying69 A1 n2 c3 h30.len rfl) ?_
  refine L_pu (P_cmp i2 (a.length : Int) (decide (i2 < (a.length : Int))) rfl rfl rfl) ?_
  refine L_nil ?_
  refine W_cond (decide (i2 < (a.length : Int))) rfl (fun hq39 => ?_) (fun hq39 => ?_)
  ·have H := ite_t H hq39
   refine W_skip ?_
   refine W_seq ?_
   refine W_block ?_
   refine W_seq ?_
   refine W_draw (fun x => Gr w26 x none) (by kernel_rfl) (by kernel_rfl) (Gr.drew _) ?_
   refine Q_pu (P_move (.slice A1 n2 c3) rfl) ?_
   refine Q_pu (P_move (vi i2) rfl) ?_
   obtain ⟨hb40, H⟩ := H
   obtain ⟨ad41, cs42, hA43, hS46, hR44, hcl45⟩ := h30.get default (by decide) i2 hb40
   obtain ⟨rfl, hs47, hs48⟩ := kTag.op hR44
   refine Q_pu (P_ia Try.underlying69 se69 A1 ad41 n2 c3 h30.len i2 rfl hA43 rfl hb40) ?_
   refine Q_pu (P_lda ag133 sz133 cQ (ad41.add (i2.toNat * 2)) [vs ((nth a i2).Key), vs ((nth a i2).Val)] rfl rfl hcl45) ?_
   refine Q_pu (P_move (.slice A6 n7 c8) rfl) ?_
   refine Q_pu (P_move (vi i2) rfl) ?_
   obtain ⟨hb49, H⟩ := H
   obtain ⟨ad50, cs51, hA52, hS55, hR53, hcl54⟩ := h31.get default (by decide) i2 hb49
   obtain ⟨rfl, hs56, hs57⟩ := kTag.op hR53
   refine Q_pu (P_ia Try.underlying69 se69 A6 ad50 n7 c8 h31.len i2 rfl hA52 rfl hb49) ?_
   refine Q_pu (P_lda ag133 sz133 cQ (ad50.add (i2.toNat * 2)) [vs ((nth b i2).Key), vs ((nth b i2).Val)] rfl rfl hcl54) ?_
   refine Q_pu (P_ne _ _ (eqTag (nth a i2) (nth b i2)) (qt133 (nth a i2) (nth b i2)) rfl rfl) ?_
   refine Q_nil fun w58 g59 => ?_
   have hc61 := hc29.k0 g59
   refine W_cond (!(eqTag (nth a i2) (nth b i2))) rfl (fun hq62 => ?_) (fun hq62 => ?_)
   ·have H := ite_t H hq62
    refine W_seq ?_
    refine W_reg ?_
    refine L_pu (P_assign (vb false) rfl) ?_
    refine L_nil ?_
    refine W_ret ?_
    exact ⟨[vb false], ⟨_, rfl, rfl⟩, false, rfl, H, hc61.gr.g0⟩
   ·have H := ite_f H hq62
    refine W_skip ?_
    refine W_reg ?_
    refine L_pu (P_move (vi i2) rfl) ?_
    obtain ⟨hb64, H⟩ := H
    have hi63 : I64 (i2 + 1) := i64_succ (of_decide_eq_true hq39) hl38 hb64
    refine L_pu (P_add i2 1 rfl rfl hi63) ?_
    refine L_pu (P_assign (vi (i2 + 1)) rfl) ?_
    refine L_nil ?_
    obtain ⟨hI65, hm66⟩ := H
    exact ⟨i2 + 1, hm66, hI65, ⟨rfl, rfl, rfl, trivial⟩, hc61, (h30.st (.new _ g59)), (h31.st (.new _ g59))⟩
  ·have H := ite_f H hq39
   refine W_exit (xin_hit ?_)
   refine W_seq ?_
   refine W_reg ?_
   refine L_pu (P_assign (vb true) rfl) ?_
   refine L_nil ?_
   refine W_ret ?_
   exact ⟨[vb true], ⟨_, rfl, rfl⟩, true, rfl, H, hc29.gr.g0⟩
end Go.Proofs.Ytndjggncgpjolaa

namespace Go.Proofs.Ytndjggncgpjolaa
set_option linter.unusedVariables false
set_option linter.unusedSimpArgs false
set_option linter.unusedSectionVars false
theorem spec_l2Same.law (a b : List Tag) (Q : Bool → Prop) (hq : Q (decide (a = b))) : spec_l2Same.E a b Q := by
 unfold spec_l2Same.E
 exact eqS_shape eqTag eqTag_is a b Q hq
end Go.Proofs.Ytndjggncgpjolaa

namespace Go.Proofs.Ytndjggncgpjolaa
open Go.RowKit
set_option linter.unusedVariables false
set_option linter.unusedSimpArgs false
def spec_FeatSame.E (a : Feat) (b : Feat) (Q : Bool → Prop) : Prop :=
 (if a.Id == b.Id then spec_ShapeSame.E a.Shape b.Shape (fun r => (if r then spec_l2Same.E a.Tags b.Tags (fun r2 => Q r2) else Q false)) else Q false)
set_option maxHeartbeats 8000000 in
set_option maxRecDepth 100000 in
theorem spec_FeatSame.calls {O : Ob} (w0 : World) (hO : Ok w0 O) (a : Feat) (A2 : Option Addr) (n3 c4 : Nat) (A7 : Option Addr) (n8 c9 : Nat) (hs1 : Lim a.Id) (hp5 : Sl kPt w0 (Fr O) (.slice A2 n3 c4) a.Shape.Pts) (hp10 : Sl kTag w0 (Fr O) (.slice A7 n8 c9) a.Tags) (b : Feat) (A13 : Option Addr) (n14 c15 : Nat) (A18 : Option Addr) (n19 c20 : Nat) (hs12 : Lim b.Id) (hp16 : Sl kPt w0 (Fr O) (.slice A13 n14 c15) b.Shape.Pts) (hp21 : Sl kTag w0 (Fr O) (.slice A18 n19 c20) b.Tags) (Q : Bool → Prop) (h : spec_FeatSame.E a b Q) :
  Ret Try.prog 79 [.agg #[vs a.Id, vi a.Shape.Kind, .slice A2 n3 c4, .slice A7 n8 c9], .agg #[vs b.Id, vi b.Shape.Kind, .slice A13 n14 c15, .slice A18 n19 c20]] w0 (fun v w' => ∃ (r0 : Bool), v = vb r0 ∧ Q r0 ∧ Gr w0 w' none) := by
 have H : (if a.Id == b.Id then spec_ShapeSame.E a.Shape b.Shape (fun r => (if r then spec_l2Same.E a.Tags b.Tags (fun r2 => Q r2) else Q false)) else Q false) := h
 clear h
 have hc0 := Ct.init hO
 refine Ret_enter Try.func79 rfl 24 rfl [.tmp 4] rfl rfl ?_
 refine W_seq ?_
 refine W_reg ?_
 refine L_box [vs a.Id, vi a.Shape.Kind, .slice A2 n3 c4, .slice A7 n8 c9] rfl fun w23 b24 hl26 hu27 g25 hx28 => ?_
 have h30 := Fb.mk hc0.ok hl26 hx28
 have hc31 := hc0.k0 g25
 refine L_box [vs b.Id, vi b.Shape.Kind, .slice A13 n14 c15, .slice A18 n19 c20] rfl fun w32 b33 hl35 hu36 g34 hx37 => ?_
 have h39 := Fb.mk hc31.ok hl35 hx37
 have hc40 := hc31.k0 g34
 refine L_pu (P_assign (vb false) rfl) ?_
 refine L_nil ?_
 refine W_seq ?_
 refine W_reg ?_
 refine L_pu (P_fa fa71_0 ⟨b24, 0, none⟩ ⟨b24, 0, none⟩ rfl rfl) ?_
 have h41 := (h30.st (.new _ g34))
 refine L_pu (P_ld ag9 cL ⟨b24, 0, none⟩ (vs a.Id) rfl (h41.cell rfl)) ?_
 refine L_pu (P_fa fa71_0 ⟨b33, 0, none⟩ ⟨b33, 0, none⟩ rfl rfl) ?_
 refine L_pu (P_ld ag9 cL ⟨b33, 0, none⟩ (vs b.Id) rfl (h39.cell rfl)) ?_
 refine L_pu (P_scmp a.Id b.Id (a.Id == b.Id) rfl rfl rfl) ?_
 refine L_pu (P_move (vb (a.Id == b.Id)) rfl) ?_
 rcases bool_or (a.Id == b.Id) with hq42 | hq42
 ·have H := ite_t H hq42
  refine L_run (dj := 10) rfl rfl (by exact congrArg Value.bool hq42) ?_
  refine L_pu (P_fa fa71_1 ⟨b24, 0, none⟩ ⟨b24, 1, none⟩ rfl rfl) ?_
  refine L_run (dj := 10) rfl rfl (by exact congrArg Value.bool hq42) ?_
  refine L_pu (P_lda ag68 sz68 cL ⟨b24, 1, none⟩ [vi a.Shape.Kind, .slice A2 n3 c4] rfl rfl (h41.cells (off := 1) rfl)) ?_
  refine L_run (dj := 10) rfl rfl (by exact congrArg Value.bool hq42) ?_
  refine L_pu (P_fa fa71_1 ⟨b33, 0, none⟩ ⟨b33, 1, none⟩ rfl rfl) ?_
  refine L_run (dj := 10) rfl rfl (by exact congrArg Value.bool hq42) ?_
  refine L_pu (P_lda ag68 sz68 cL ⟨b33, 1, none⟩ [vi b.Shape.Kind, .slice A13 n14 c15] rfl rfl (h39.cells (off := 1) rfl)) ?_
  refine L_run (dj := 10) rfl rfl (by exact congrArg Value.bool hq42) ?_
  refine L_call go123 [.agg #[vi a.Shape.Kind, .slice A2 n3 c4], .agg #[vi b.Shape.Kind, .slice A13 n14 c15]] rfl ((spec_ShapeSame.calls w32 hc40.ok a.Shape A2 n3 c4 (hp5.st hc40.st) b.Shape A13 n14 c15 (hp16.st hc40.st) _ H).mono ?_)
  rintro _ w43 ⟨r, rfl, H, g44⟩
  have hc48 := hc40.k0 g44
  refine L_pu (P_pick true (vb r) (by exact congrArg Value.bool hq42) rfl) ?_
  refine L_pu (P_move (vb r) rfl) ?_
  rcases bool_or r with hq49 | hq49
  ·have H := ite_t H hq49
   refine L_run (dj := 17) rfl rfl (by exact congrArg Value.bool hq49) ?_
   refine L_pu (P_fa fa71_2 ⟨b24, 0, none⟩ ⟨b24, 3, none⟩ rfl rfl) ?_
   refine L_run (dj := 17) rfl rfl (by exact congrArg Value.bool hq49) ?_
   have h50 := (h41.st (.new _ g44))
   refine L_pu (P_ld ag69 cL ⟨b24, 3, none⟩ (.slice A7 n8 c9) rfl (h50.cell rfl)) ?_
   refine L_run (dj := 17) rfl rfl (by exact congrArg Value.bool hq49) ?_
   refine L_pu (P_fa fa71_2 ⟨b33, 0, none⟩ ⟨b33, 3, none⟩ rfl rfl) ?_
   refine L_run (dj := 17) rfl rfl (by exact congrArg Value.bool hq49) ?_
   have h51 := (h39.st (.new _ g44))
   refine L_pu (P_ld ag69 cL ⟨b33, 3, none⟩ (.slice A18 n19 c20) rfl (h51.cell rfl)) ?_
   refine L_run (dj := 17) rfl rfl (by exact congrArg Value.bool hq49) ?_
   refine L_call go124 [.slice A7 n8 c9, .slice A18 n19 c20] rfl ((spec_l2Same.calls w43 hc48.ok a.Tags A7 n8 c9 (hp10.st hc48.st) b.Tags A18 n19 c20 (hp21.st hc48.st) _ H).mono ?_)
   rintro _ w52 ⟨r2, rfl, H, g53⟩
   have hc57 := hc48.k0 g53
   refine L_pu (P_pick true (vb r2) (by exact congrArg Value.bool hq49) rfl) ?_
   refine L_pu (P_assign (vb r2) rfl) ?_
   refine L_nil ?_
   refine W_ret ?_
   exact ⟨[vb r2], ⟨_, rfl, rfl⟩, r2, rfl, H, hc57.gr.g0⟩
  ·have H := ite_f H hq49
   refine L_pass (dj := 17) rfl rfl (.inl (by exact congrArg Value.bool hq49)) ?_
   refine L_pass (dj := 17) rfl rfl (.inl (by exact congrArg Value.bool hq49)) ?_
   refine L_pass (dj := 17) rfl rfl (.inl (by exact congrArg Value.bool hq49)) ?_
   refine L_pass (dj := 17) rfl rfl (.inl (by exact congrArg Value.bool hq49)) ?_
   refine L_pass (dj := 17) rfl rfl (.inl (by exact congrArg Value.bool hq49)) ?_
   refine L_pu (P_pick false (vb false) (by exact congrArg Value.bool hq49) rfl) ?_
   refine L_pu (P_assign (vb false) rfl) ?_
   refine L_nil ?_
   refine W_ret ?_
   exact ⟨[vb false], ⟨_, rfl, rfl⟩, false, rfl, H, hc48.gr.g0⟩
 ·have H := ite_f H hq42
  refine L_pass (dj := 10) rfl rfl (.inl (by exact congrArg Value.bool hq42)) ?_
  refine L_pass (dj := 10) rfl rfl (.inl (by exact congrArg Value.bool hq42)) ?_
  refine L_pass (dj := 10) rfl rfl (.inl (by exact congrArg Value.bool hq42)) ?_
  refine L_pass (dj := 10) rfl rfl (.inl (by exact congrArg Value.bool hq42)) ?_
  refine L_pass (dj := 10) rfl rfl (.inl (by exact congrArg Value.bool hq42)) ?_
  refine L_pu (P_pick false (vb false) (by exact congrArg Value.bool hq42) rfl) ?_
  refine L_pu (P_move (vb false) rfl) ?_
  refine L_pass (dj := 17) rfl rfl (.inl rfl) ?_
  refine L_pass (dj := 17) rfl rfl (.inl rfl) ?_
  refine L_pass (dj := 17) rfl rfl (.inl rfl) ?_
  refine L_pass (dj := 17) rfl rfl (.inl rfl) ?_
  refine L_pass (dj := 17) rfl rfl (.inl rfl) ?_
  refine L_pu (P_pick false (vb false) (by exact congrArg Value.bool rfl) rfl) ?_
  refine L_pu (P_assign (vb false) rfl) ?_
  refine L_nil ?_
  refine W_ret ?_
  exact ⟨[vb false], ⟨_, rfl, rfl⟩, false, rfl, H, hc40.gr.g0⟩
end Go.Proofs.Ytndjggncgpjolaa

namespace Go.Proofs.Ytndjggncgpjolaa
set_option linter.unusedVariables false
set_option linter.unusedSimpArgs false
set_option linter.unusedSectionVars false
theorem spec_FeatSame.law (a b : Feat) (Q : Bool → Prop) (hq : Q (decide (a = b))) : spec_FeatSame.E a b Q := by
 unfold spec_FeatSame.E
 by_cases h : a.Id = b.Id
 ·rw [if_pos (by rw [beq_iff_eq]; exact h)]
  refine spec_ShapeSame.law _ _ _ ?_
  by_cases h2 : a.Shape = b.Shape
  ·rw [decide_eq_true h2, if_pos rfl]
   refine spec_l2Same.law _ _ _ ?_
   have : decide (a.Tags = b.Tags) = decide (a = b) := decide_eq_decide.2 (by rw [Feat.ext_iff']; exact ⟨fun e => ⟨h, h2, e⟩, fun e => e.2.2⟩)
   rw [this]; exact hq
  ·rw [decide_eq_false h2, if_neg (by decide)]
   rw [decide_eq_false (by rw [Feat.ext_iff']; exact fun e => h2 e.2.1)] at hq; exact hq
 ·rw [if_neg (by rw [beq_iff_eq]; exact h)]
  rw [decide_eq_false (by rw [Feat.ext_iff']; exact fun e => h e.1)] at hq; exact hq
end Go.Proofs.Ytndjggncgpjolaa

namespace Go.Proofs.Ytndjggncgpjolaa
open Go.RowKit
set_option linter.unusedVariables false
set_option linter.unusedSimpArgs false
def spec_l1Num.E (n : Int) (Q : Bool → Prop) : Prop :=
 (if decide (n ≥ (-1000)) then Q (decide (n ≤ 1000)) else Q false)
set_option maxHeartbeats 8000000 in
set_option maxRecDepth 100000 in
theorem spec_l1Num.calls {O : Ob} (w0 : World) (hO : Ok w0 O) (n : Int) (Q : Bool → Prop) (h : spec_l1Num.E n Q) :
  Ret Try.prog 179 [vi n] w0 (fun v w' => ∃ (r0 : Bool), v = vb r0 ∧ Q r0 ∧ Gr w0 w' none ∧ w' = w0) := by
 have H : (if decide (n ≥ (-1000)) then Q (decide (n ≤ 1000)) else Q false) := h
 clear h
 have hc0 := Ct.init hO
 refine Ret_enter Try.func179 rfl 9 rfl [.tmp 2] rfl rfl ?_
 refine W_seq ?_
 refine W_reg ?_
 refine L_pu (P_assign (vb false) rfl) ?_
 refine L_nil ?_
 refine W_seq ?_
 refine W_reg ?_
 refine L_pu (P_move (vi n) rfl) ?_
 refine L_pu (P_cmp n (-1000) (decide (n ≥ (-1000))) rfl rfl rfl) ?_
 refine L_pu (P_move (vb (decide (n ≥ (-1000)))) rfl) ?_
 rcases bool_or (decide (n ≥ (-1000))) with hq1 | hq1
 ·have H := ite_t H hq1
  refine L_run (dj := 5) rfl rfl (by exact congrArg Value.bool hq1) ?_
  refine L_pu (P_move (vi n) rfl) ?_
  refine L_run (dj := 5) rfl rfl (by exact congrArg Value.bool hq1) ?_
  refine L_pu (P_cmp n 1000 (decide (n ≤ 1000)) rfl rfl rfl) ?_
  refine L_pu (P_pick true (vb (decide (n ≤ 1000))) (by exact congrArg Value.bool hq1) rfl) ?_
  refine L_pu (P_assign (vb (decide (n ≤ 1000))) rfl) ?_
  refine L_nil ?_
  refine W_ret ?_
  exact ⟨[vb (decide (n ≤ 1000))], ⟨_, rfl, rfl⟩, decide (n ≤ 1000), rfl, H, hc0.gr.g0, rfl⟩
 ·have H := ite_f H hq1
  refine L_pass (dj := 5) rfl rfl (.inl (by exact congrArg Value.bool hq1)) ?_
  refine L_pass (dj := 5) rfl rfl (.inl (by exact congrArg Value.bool hq1)) ?_
  refine L_pu (P_pick false (vb false) (by exact congrArg Value.bool hq1) rfl) ?_
  refine L_pu (P_assign (vb false) rfl) ?_
  refine L_nil ?_
  refine W_ret ?_
  exact ⟨[vb false], ⟨_, rfl, rfl⟩, false, rfl, H, hc0.gr.g0, rfl⟩
def spec_l1Num.m (n : Int) : Bool := (if decide (n ≥ (-1000)) then (decide (n ≤ 1000)) else false)
theorem spec_l1Num.fn (n : Int) : spec_l1Num.E n (fun r => r = spec_l1Num.m n) := by
 unfold spec_l1Num.E spec_l1Num.m
 (repeat' split) <;> simp_all
end Go.Proofs.Ytndjggncgpjolaa

namespace Go.Proofs.Ytndjggncgpjolaa
set_option linter.unusedVariables false
set_option linter.unusedSimpArgs false
set_option linter.unusedSectionVars false
theorem spec_l1Num.m_is (n : Int) : spec_l1Num.m n = inR n := by
 unfold spec_l1Num.m inR
 by_cases h : -1000 ≤ n
 ·rw [if_pos (by rw [decide_eq_true_eq]; omega), decide_eq_true h, Bool.true_and]
 ·rw [if_neg (by rw [decide_eq_true_eq]; omega), decide_eq_false h, Bool.false_and]
end Go.Proofs.Ytndjggncgpjolaa

namespace Go.Proofs.Ytndjggncgpjolaa
open Go.RowKit
set_option linter.unusedVariables false
set_option linter.unusedSimpArgs false
def spec_l1Pts.E (p : List Pt) (Q : Bool → Prop) : Prop :=
 (∃ (I18 : Int → Prop) (mu19 : Int → Nat), I18 0 ∧ ∀ (i2 : Int), I18 i2 → (if decide (i2 < (p.length : Int)) then ((0 : Int) ≤ i2 ∧ i2 < (p.length : Int)) ∧ (if !(spec_l1Num.m ((nth p i2).X)) then Q false else ((0 : Int) ≤ i2 ∧ i2 < (p.length : Int)) ∧ (if !(spec_l1Num.m ((nth p i2).Y)) then Q false else (if decide (i2 > 0) then ((0 : Int) ≤ i2 ∧ i2 < (p.length : Int)) ∧ ((p.length : Int) ≤ 9223372036854775807 → I64 (i2 - 1)) ∧ ((0 : Int) ≤ i2 - 1 ∧ i2 - 1 < (p.length : Int)) ∧ (if eqPt (nth p i2) (nth p (i2 - 1)) then Q false else (-9223372036854775808 ≤ i2) ∧ I18 (i2 + 1) ∧ mu19 (i2 + 1) < mu19 i2) else (-9223372036854775808 ≤ i2) ∧ I18 (i2 + 1) ∧ mu19 (i2 + 1) < mu19 i2))) else Q (decide ((p.length : Int) ≤ 6))))
set_option maxHeartbeats 8000000 in
set_option maxRecDepth 100000 in
theorem spec_l1Pts.calls {O : Ob} (w0 : World) (hO : Ok w0 O) (p : List Pt) (A1 : Option Addr) (n2 c3 : Nat) (hp4 : Sl kPt w0 (Fr O) (.slice A1 n2 c3) p) (Q : Bool → Prop) (h : spec_l1Pts.E p Q) :
  Ret Try.prog 165 [.slice A1 n2 c3] w0 (fun v w' => ∃ (r0 : Bool), v = vb r0 ∧ Q r0 ∧ Gr w0 w' none) := by
 have H : (∃ (I18 : Int → Prop) (mu19 : Int → Nat), I18 0 ∧ ∀ (i2 : Int), I18 i2 → (if decide (i2 < (p.length : Int)) then ((0 : Int) ≤ i2 ∧ i2 < (p.length : Int)) ∧ (if !(spec_l1Num.m ((nth p i2).X)) then Q false else ((0 : Int) ≤ i2 ∧ i2 < (p.length : Int)) ∧ (if !(spec_l1Num.m ((nth p i2).Y)) then Q false else (if decide (i2 > 0) then ((0 : Int) ≤ i2 ∧ i2 < (p.length : Int)) ∧ ((p.length : Int) ≤ 9223372036854775807 → I64 (i2 - 1)) ∧ ((0 : Int) ≤ i2 - 1 ∧ i2 - 1 < (p.length : Int)) ∧ (if eqPt (nth p i2) (nth p (i2 - 1)) then Q false else (-9223372036854775808 ≤ i2) ∧ I18 (i2 + 1) ∧ mu19 (i2 + 1) < mu19 i2) else (-9223372036854775808 ≤ i2) ∧ I18 (i2 + 1) ∧ mu19 (i2 + 1) < mu19 i2))) else Q (decide ((p.length : Int) ≤ 6)))) := h
 clear h
 have hc0 := Ct.init hO
 refine Ret_enter Try.func165 rfl 45 rfl [.tmp 2] rfl rfl ?_
 refine W_seq ?_
 refine W_reg ?_
 refine L_pu (P_assign (vb false) rfl) ?_
 refine L_nil ?_
 refine W_seq ?_
 refine W_seq ?_
 refine W_reg ?_
 refine L_pu (P_assign (vi 0) rfl) ?_
 refine L_nil ?_
 refine W_block ?_
 obtain ⟨I18, mu19, hI20, H⟩ := H
 refine W_loop (α := Int) (fun (sv__ : Int) t w14 => match sv__ with | i2 => I18 i2 ∧ Has t [(0, .slice A1 n2 c3), (3, vi i2)] ∧ Ct [] w0 w14 [] O ∧ Sl kPt w14 (Fr ([] ++ O)) (.slice A1 n2 c3) p) (fun (sv__ : Int) => match sv__ with | i2 => mu19 i2) 0 ⟨hI20, ⟨rfl, rfl, trivial⟩, hc0, hp4⟩ ?_
 rintro i2 _ w14 ⟨hI20, hh22, hc16, h17⟩
 obtain ⟨u23, rfl⟩ := Has.ins hh22
 have H := H i2 hI20
 refine W_seq ?_
 refine W_seq ?_
 refine W_reg ?_
 refine L_pu (P_move (vi i2) rfl) ?_
 refine L_pu (P_move (.slice A1 n2 c3) rfl) ?_
 have hl24 := h17.le
 refine L_pu (P_len Try.underlying23 A1 n2 c3 h17.len rfl) ?_
 refine L_pu (P_cmp i2 (p.length : Int) (decide (i2 < (p.length : Int))) rfl rfl rfl) ?_
 refine L_nil ?_
 refine W_cond (decide (i2 < (p.length : Int))) rfl (fun hq25 => ?_) (fun hq25 => ?_)
 ·have H := ite_t H hq25
  refine W_skip ?_
  refine W_seq ?_
  refine W_block ?_
  refine W_seq ?_
  refine W_draw (fun x => Gr w14 x none) (by kernel_rfl) (by kernel_rfl) (Gr.drew _) ?_
  refine Q_pu (P_move (.slice A1 n2 c3) rfl) ?_
  refine Q_pu (P_move (vi i2) rfl) ?_
  obtain ⟨hb26, H⟩ := H
  obtain ⟨ad27, cs28, hA29, hS32, hR30, hcl31⟩ := h17.get default (by decide) i2 hb26
  obtain rfl := kPt.op hR30
  refine Q_pu (P_ia Try.underlying23 se23 A1 ad27 n2 c3 h17.len i2 rfl hA29 rfl hb26) ?_
  refine Q_pu (P_fa fa29_0 (ad27.add (i2.toNat * 2)) ((ad27.add (i2.toNat * 2)).add 0) rfl rfl) ?_
  refine Q_pu (P_ld ag3 cQ ((ad27.add (i2.toNat * 2)).add 0) (vi ((nth p i2).X)) rfl (hcl31 0 _ rfl)) ?_
  refine Q_call go179 [vi ((nth p i2).X)] rfl (vb (spec_l1Num.m ((nth p i2).X))) (fun w g => (spec_l1Num.calls w (hc16.k0 g).ok ((nth p i2).X) _ (spec_l1Num.fn ((nth p i2).X))).mono ?_) ?_
  ·rintro _ w ⟨r, rfl, rfl, g2, _⟩
   exact ⟨rfl, Gr.t0 g g2⟩
  refine Q_pu (P_not (spec_l1Num.m ((nth p i2).X)) rfl) ?_
  refine Q_pu (P_move (vb (!(spec_l1Num.m ((nth p i2).X)))) rfl) ?_
  rcases bool_or (!(spec_l1Num.m ((nth p i2).X))) with hq38 | hq38
  ·have H := ite_t H hq38
   refine Q_pass (dj := 17) rfl rfl (.inl (by exact congrArg Value.bool hq38)) ?_
   refine Q_pass (dj := 17) rfl rfl (.inl (by exact congrArg Value.bool hq38)) ?_
   refine Q_pass (dj := 17) rfl rfl (.inl (by exact congrArg Value.bool hq38)) ?_
   refine Q_pass (dj := 17) rfl rfl (.inl (by exact congrArg Value.bool hq38)) ?_
   refine Q_pass (dj := 17) rfl rfl (.inl (by exact congrArg Value.bool hq38)) ?_
   refine Q_pass (dj := 17) rfl rfl (.inl (by exact congrArg Value.bool hq38)) ?_
   refine Q_pass (dj := 17) rfl rfl (.inl (by exact congrArg Value.bool hq38)) ?_
   refine Q_pu (P_pick true (vb true) (by exact congrArg Value.bool hq38) rfl) ?_
   refine Q_pu (P_move (vb true) rfl) ?_
   refine Q_pass (dj := 26) rfl rfl (.inl rfl) ?_
   refine Q_pass (dj := 26) rfl rfl (.inl rfl) ?_
   refine Q_pass (dj := 26) rfl rfl (.inl rfl) ?_
   refine Q_pass (dj := 29) rfl rfl (.inr rfl) ?_
   refine Q_pass (dj := 29) rfl rfl (.inr rfl) ?_
   refine Q_pass (dj := 29) rfl rfl (.inr rfl) ?_
   refine Q_pass (dj := 29) rfl rfl (.inr rfl) ?_
   refine Q_pass (dj := 29) rfl rfl (.inr rfl) ?_
   refine Q_pass (dj := 29) rfl rfl (.inr rfl) ?_
   refine Q_pass (dj := 29) rfl rfl (.inr rfl) ?_
   refine Q_pass (dj := 29) rfl rfl (.inr rfl) ?_
   refine Q_pass (dj := 29) rfl rfl (.inr rfl) ?_
   refine Q_pass (dj := 29) rfl rfl (.inr rfl) ?_
   refine Q_pass (dj := 26) rfl rfl (.inl rfl) ?_
   refine Q_pu (P_pick true (vb true) (by exact congrArg Value.bool rfl) rfl) ?_
   refine Q_nil fun w39 g40 => ?_
   have hc42 := hc16.k0 g40
   refine W_ct (b := true) rfl rfl ?_
   refine W_seq ?_
   refine W_reg ?_
   refine L_pu (P_assign (vb false) rfl) ?_
   refine L_nil ?_
   refine W_ret ?_
   exact ⟨[vb false], ⟨_, rfl, rfl⟩, false, rfl, H, hc42.gr.g0⟩
  ·have H := ite_f H hq38
   refine Q_run (dj := 17) rfl rfl (by exact congrArg Value.bool hq38) ?_
   refine Q_pu (P_move (.slice A1 n2 c3) rfl) ?_
   refine Q_run (dj := 17) rfl rfl (by exact congrArg Value.bool hq38) ?_
   refine Q_pu (P_move (vi i2) rfl) ?_
   refine Q_run (dj := 17) rfl rfl (by exact congrArg Value.bool hq38) ?_
   obtain ⟨hb43, H⟩ := H
   obtain ⟨ad44, cs45, hA46, hS49, hR47, hcl48⟩ := h17.get default (by decide) i2 hb43
   obtain rfl := kPt.op hR47
   refine Q_pu (P_ia Try.underlying23 se23 A1 ad44 n2 c3 h17.len i2 rfl hA46 rfl hb43) ?_
   refine Q_run (dj := 17) rfl rfl (by exact congrArg Value.bool hq38) ?_
   refine Q_pu (P_fa fa29_1 (ad44.add (i2.toNat * 2)) ((ad44.add (i2.toNat * 2)).add 1) rfl rfl) ?_
   refine Q_run (dj := 17) rfl rfl (by exact congrArg Value.bool hq38) ?_
   refine Q_pu (P_ld ag3 cQ ((ad44.add (i2.toNat * 2)).add 1) (vi ((nth p i2).Y)) rfl (hcl48 1 _ rfl)) ?_
   refine Q_run (dj := 17) rfl rfl (by exact congrArg Value.bool hq38) ?_
   refine Q_call go179 [vi ((nth p i2).Y)] rfl (vb (spec_l1Num.m ((nth p i2).Y))) (fun w g => (spec_l1Num.calls w (hc16.k0 g).ok ((nth p i2).Y) _ (spec_l1Num.fn ((nth p i2).Y))).mono ?_) ?_
   ·rintro _ w ⟨r, rfl, rfl, g2, _⟩
    exact ⟨rfl, Gr.t0 g g2⟩
   refine Q_run (dj := 17) rfl rfl (by exact congrArg Value.bool hq38) ?_
   refine Q_pu (P_not (spec_l1Num.m ((nth p i2).Y)) rfl) ?_
   refine Q_pu (P_pick false (vb (!(spec_l1Num.m ((nth p i2).Y)))) (by exact congrArg Value.bool hq38) rfl) ?_
   refine Q_pu (P_move (vb (!(spec_l1Num.m ((nth p i2).Y)))) rfl) ?_
   rcases bool_or (!(spec_l1Num.m ((nth p i2).Y))) with hq55 | hq55
   ·have H := ite_t H hq55
    refine Q_pass (dj := 26) rfl rfl (.inl (by exact congrArg Value.bool hq55)) ?_
    refine Q_pass (dj := 26) rfl rfl (.inl (by exact congrArg Value.bool hq55)) ?_
    refine Q_pass (dj := 26) rfl rfl (.inl (by exact congrArg Value.bool hq55)) ?_
    refine Q_pass (dj := 29) rfl rfl (.inr rfl) ?_
    refine Q_pass (dj := 29) rfl rfl (.inr rfl) ?_
    refine Q_pass (dj := 29) rfl rfl (.inr rfl) ?_
    refine Q_pass (dj := 29) rfl rfl (.inr rfl) ?_
    refine Q_pass (dj := 29) rfl rfl (.inr rfl) ?_
    refine Q_pass (dj := 29) rfl rfl (.inr rfl) ?_
    refine Q_pass (dj := 29) rfl rfl (.inr rfl) ?_
    refine Q_pass (dj := 29) rfl rfl (.inr rfl) ?_
    refine Q_pass (dj := 29) rfl rfl (.inr rfl) ?_
    refine Q_pass (dj := 29) rfl rfl (.inr rfl) ?_
    refine Q_pass (dj := 26) rfl rfl (.inl (by exact congrArg Value.bool hq55)) ?_
    refine Q_pu (P_pick true (vb true) (by exact congrArg Value.bool hq55) rfl) ?_
    refine Q_nil fun w56 g57 => ?_
    have hc59 := hc16.k0 g57
    refine W_ct (b := true) rfl rfl ?_
    refine W_seq ?_
    refine W_reg ?_
    refine L_pu (P_assign (vb false) rfl) ?_
    refine L_nil ?_
    refine W_ret ?_
    exact ⟨[vb false], ⟨_, rfl, rfl⟩, false, rfl, H, hc59.gr.g0⟩
   ·have H := ite_f H hq55
    refine Q_run (dj := 26) rfl rfl (by exact congrArg Value.bool hq55) ?_
    refine Q_pu (P_move (vi i2) rfl) ?_
    refine Q_run (dj := 26) rfl rfl (by exact congrArg Value.bool hq55) ?_
    refine Q_pu (P_cmp i2 0 (decide (i2 > 0)) rfl rfl rfl) ?_
    refine Q_run (dj := 26) rfl rfl (by exact congrArg Value.bool hq55) ?_
    refine Q_pu (P_move (vb (decide (i2 > 0))) rfl) ?_
    rcases bool_or (decide (i2 > 0)) with hq60 | hq60
    ·have H := ite_t H hq60
     refine Q_run (dj := 29) rfl rfl (by exact congrArg Value.bool hq60) ?_
     refine Q_pu (P_move (.slice A1 n2 c3) rfl) ?_
     refine Q_run (dj := 29) rfl rfl (by exact congrArg Value.bool hq60) ?_
     refine Q_pu (P_move (vi i2) rfl) ?_
     refine Q_run (dj := 29) rfl rfl (by exact congrArg Value.bool hq60) ?_
     obtain ⟨hb61, H⟩ := H
     obtain ⟨ad62, cs63, hA64, hS67, hR65, hcl66⟩ := h17.get default (by decide) i2 hb61
     obtain rfl := kPt.op hR65
     refine Q_pu (P_ia Try.underlying23 se23 A1 ad62 n2 c3 h17.len i2 rfl hA64 rfl hb61) ?_
     refine Q_run (dj := 29) rfl rfl (by exact congrArg Value.bool hq60) ?_
     refine Q_pu (P_lda ag29 sz29 cQ (ad62.add (i2.toNat * 2)) [vi ((nth p i2).X), vi ((nth p i2).Y)] rfl rfl hcl66) ?_
     refine Q_run (dj := 29) rfl rfl (by exact congrArg Value.bool hq60) ?_
     refine Q_pu (P_move (.slice A1 n2 c3) rfl) ?_
     refine Q_run (dj := 29) rfl rfl (by exact congrArg Value.bool hq60) ?_
     refine Q_pu (P_move (vi i2) rfl) ?_
     refine Q_run (dj := 29) rfl rfl (by exact congrArg Value.bool hq60) ?_
     obtain ⟨hb68, H⟩ := H
     have hi69 := hb68 (len_le hl24)
     refine Q_pu (P_sub i2 1 rfl rfl hi69) ?_
     refine Q_run (dj := 29) rfl rfl (by exact congrArg Value.bool hq60) ?_
     obtain ⟨hb70, H⟩ := H
     obtain ⟨ad71, cs72, hA73, hS76, hR74, hcl75⟩ := h17.get default (by decide) (i2 - 1) hb70
     obtain rfl := kPt.op hR74
     refine Q_pu (P_ia Try.underlying23 se23 A1 ad71 n2 c3 h17.len (i2 - 1) rfl hA73 rfl hb70) ?_
     refine Q_run (dj := 29) rfl rfl (by exact congrArg Value.bool hq60) ?_
     refine Q_pu (P_lda ag29 sz29 cQ (ad71.add ((i2 - 1).toNat * 2)) [vi ((nth p (i2 - 1)).X), vi ((nth p (i2 - 1)).Y)] rfl rfl hcl75) ?_
     refine Q_run (dj := 29) rfl rfl (by exact congrArg Value.bool hq60) ?_
     refine Q_pu (P_eq _ _ (eqPt (nth p i2) (nth p (i2 - 1))) (qt29 (nth p i2) (nth p (i2 - 1))) rfl rfl) ?_
     refine Q_run (dj := 26) rfl rfl (by exact congrArg Value.bool hq55) ?_
     refine Q_pu (P_pick true (vb (eqPt (nth p i2) (nth p (i2 - 1)))) (by exact congrArg Value.bool hq60) rfl) ?_
     refine Q_pu (P_pick false (vb (eqPt (nth p i2) (nth p (i2 - 1)))) (by exact congrArg Value.bool hq55) rfl) ?_
     refine Q_nil fun w77 g78 => ?_
     have hc80 := hc16.k0 g78
     refine W_cond (eqPt (nth p i2) (nth p (i2 - 1))) rfl (fun hq81 => ?_) (fun hq81 => ?_)
     ·have H := ite_t H hq81
      refine W_seq ?_
      refine W_reg ?_
      refine L_pu (P_assign (vb false) rfl) ?_
      refine L_nil ?_
      refine W_ret ?_
      exact ⟨[vb false], ⟨_, rfl, rfl⟩, false, rfl, H, hc80.gr.g0⟩
     ·have H := ite_f H hq81
      refine W_skip ?_
      refine W_reg ?_
      refine L_pu (P_move (vi i2) rfl) ?_
      obtain ⟨hb83, H⟩ := H
      have hi82 : I64 (i2 + 1) := i64_succ (of_decide_eq_true hq25) hl24 hb83
      refine L_pu (P_add i2 1 rfl rfl hi82) ?_
      refine L_pu (P_assign (vi (i2 + 1)) rfl) ?_
      refine L_nil ?_
      obtain ⟨hI84, hm85⟩ := H
      exact ⟨i2 + 1, hm85, hI84, ⟨rfl, rfl, trivial⟩, hc80, (h17.st (.new _ g78))⟩
    ·have H := ite_f H hq60
     refine Q_pass (dj := 29) rfl rfl (.inl (by exact congrArg Value.bool hq60)) ?_
     refine Q_pass (dj := 29) rfl rfl (.inl (by exact congrArg Value.bool hq60)) ?_
     refine Q_pass (dj := 29) rfl rfl (.inl (by exact congrArg Value.bool hq60)) ?_
     refine Q_pass (dj := 29) rfl rfl (.inl (by exact congrArg Value.bool hq60)) ?_
     refine Q_pass (dj := 29) rfl rfl (.inl (by exact congrArg Value.bool hq60)) ?_
     refine Q_pass (dj := 29) rfl rfl (.inl (by exact congrArg Value.bool hq60)) ?_
     refine Q_pass (dj := 29) rfl rfl (.inl (by exact congrArg Value.bool hq60)) ?_
     refine Q_pass (dj := 29) rfl rfl (.inl (by exact congrArg Value.bool hq60)) ?_
     refine Q_pass (dj := 29) rfl rfl (.inl (by exact congrArg Value.bool hq60)) ?_
     refine Q_pass (dj := 29) rfl rfl (.inl (by exact congrArg Value.bool hq60)) ?_
     refine Q_run (dj := 26) rfl rfl (by exact congrArg Value.bool hq55) ?_
     refine Q_pu (P_pick false (vb false) (by exact congrArg Value.bool hq60) rfl) ?_
     refine Q_pu (P_pick false (vb false) (by exact congrArg Value.bool hq55) rfl) ?_
     refine Q_nil fun w86 g87 => ?_
     have hc89 := hc16.k0 g87
     refine W_cf (b := false) rfl rfl ?_
     refine W_skip ?_
     refine W_reg ?_
     refine L_pu (P_move (vi i2) rfl) ?_
     obtain ⟨hb91, H⟩ := H
     have hi90 : I64 (i2 + 1) := i64_succ (of_decide_eq_true hq25) hl24 hb91
     refine L_pu (P_add i2 1 rfl rfl hi90) ?_
     refine L_pu (P_assign (vi (i2 + 1)) rfl) ?_
     refine L_nil ?_
     obtain ⟨hI92, hm93⟩ := H
     exact ⟨i2 + 1, hm93, hI92, ⟨rfl, rfl, trivial⟩, hc89, (h17.st (.new _ g87))⟩
 ·have H := ite_f H hq25
  refine W_exit (xin_hit ?_)
  refine W_seq ?_
  refine W_reg ?_
  refine L_pu (P_move (.slice A1 n2 c3) rfl) ?_
  refine L_pu (P_len Try.underlying23 A1 n2 c3 h17.len rfl) ?_
  refine L_pu (P_cmp (p.length : Int) 6 (decide ((p.length : Int) ≤ 6)) rfl rfl rfl) ?_
  refine L_pu (P_assign (vb (decide ((p.length : Int) ≤ 6))) rfl) ?_
  refine L_nil ?_
  refine W_ret ?_
  exact ⟨[vb (decide ((p.length : Int) ≤ 6))], ⟨_, rfl, rfl⟩, decide ((p.length : Int) ≤ 6), rfl, H, hc16.gr.g0⟩
end Go.Proofs.Ytndjggncgpjolaa

namespace Go.Proofs.Ytndjggncgpjolaa
set_option linter.unusedVariables false
set_option linter.unusedSimpArgs false
set_option linter.unusedSectionVars false
theorem spec_l1Pts.law (p : List Pt) (Q : Bool → Prop) (hq : Q (ptsOk p && decide (p.length ≤ 6))) : spec_l1Pts.E p Q := by
 unfold spec_l1Pts.E
 unfold ptsOk at hq
 refine loop_all p.length (fun k => ptOk (nth p (k : Int)) && (decide (k = 0) || !(decide (nth p ((k : Int) - 1) = nth p (k : Int))))) (fun I mu k hk hp hn => ?_) (fun ha => ?_)
 ·refine ⟨by omega, ?_⟩
  rw [spec_l1Num.m_is, spec_l1Num.m_is]
  have bad : (ptOk (nth p (k : Int)) && (decide (k = 0) || !(decide (nth p ((k : Int) - 1) = nth p (k : Int))))) = false → Q false := fun h => by
   rw [allN_false hk h, Bool.false_and] at hq; exact hq
  cases h1 : inR (nth p (k : Int)).X with
  | false => rw [if_pos (by decide)]; exact bad (by simp only [ptOk, h1, Bool.false_and])
  | true =>
   rw [if_neg (by decide)]
   refine ⟨by omega, ?_⟩
   cases h2 : inR (nth p (k : Int)).Y with
   | false => rw [if_pos (by decide)]; exact bad (by simp only [ptOk, h2, Bool.and_false, Bool.false_and])
   | true =>
    rw [if_neg (by decide)]
    have hpt : ptOk (nth p (k : Int)) = true := by simp only [ptOk, h1, h2, Bool.and_self]
    by_cases hk0 : k = 0
    ·rw [if_neg (by rw [decide_eq_true_eq]; omega)]
     obtain ⟨i1, i2⟩ := hn (by rw [hpt, decide_eq_true hk0]; rfl)
     exact ⟨by omega, i1, i2⟩
    ·rw [if_pos (by rw [decide_eq_true_eq]; omega)]
     refine ⟨by omega, fun _ => by unfold I64; omega, by omega, ?_⟩
     rw [eqPt_is]
     by_cases he : nth p ((k : Int) - 1) = nth p (k : Int)
     ·rw [if_pos (by rw [decide_eq_true_eq]; exact he.symm)]
      exact bad (by rw [hpt, decide_eq_false hk0, decide_eq_true he]; rfl)
     ·rw [if_neg (by rw [decide_eq_true_eq]; exact fun e => he e.symm)]
      obtain ⟨i1, i2⟩ := hn (by rw [hpt, decide_eq_false hk0, decide_eq_false he]; rfl)
      exact ⟨by omega, i1, i2⟩
 ·rw [allN_true ha, Bool.true_and] at hq
  have e2 : decide ((p.length : Int) ≤ 6) = decide (p.length ≤ 6) := decide_eq_decide.2 (by omega)
  rw [e2]; exact hq
end Go.Proofs.Ytndjggncgpjolaa

namespace Go.Proofs.Ytndjggncgpjolaa
open Go.RowKit
set_option linter.unusedVariables false
set_option linter.unusedSimpArgs false
def spec_ShapeOk.E (s : Shape) (Q : Bool → Prop) : Prop :=
 spec_l1Pts.E s.Pts (fun r => (if !r then Q false else (if s.Kind == 1 then Q ((s.Pts.length : Int) == 1) else (if s.Kind == 2 then Q (decide ((s.Pts.length : Int) ≥ 2)) else (if s.Kind == 3 then (if decide ((s.Pts.length : Int) ≥ 3) then ((0 : Int) ≤ 0 ∧ 0 < (s.Pts.length : Int)) ∧ ((s.Pts.length : Int) ≤ 9223372036854775807 → I64 ((s.Pts.length : Int) - 1)) ∧ ((0 : Int) ≤ (s.Pts.length : Int) - 1 ∧ (s.Pts.length : Int) - 1 < (s.Pts.length : Int)) ∧ Q (!(eqPt (nth s.Pts 0) (nth s.Pts ((s.Pts.length : Int) - 1)))) else Q false) else Q false)))))
set_option maxHeartbeats 8000000 in
set_option maxRecDepth 100000 in
theorem spec_ShapeOk.calls {O : Ob} (w0 : World) (hO : Ok w0 O) (s : Shape) (A1 : Option Addr) (n2 c3 : Nat) (hp4 : Sl kPt w0 (Fr O) (.slice A1 n2 c3) s.Pts) (Q : Bool → Prop) (h : spec_ShapeOk.E s Q) :
  Ret Try.prog 134 [.agg #[vi s.Kind, .slice A1 n2 c3]] w0 (fun v w' => ∃ (r0 : Bool), v = vb r0 ∧ Q r0 ∧ Gr w0 w' none) := by
 have H : spec_l1Pts.E s.Pts (fun r => (if !r then Q false else (if s.Kind == 1 then Q ((s.Pts.length : Int) == 1) else (if s.Kind == 2 then Q (decide ((s.Pts.length : Int) ≥ 2)) else (if s.Kind == 3 then (if decide ((s.Pts.length : Int) ≥ 3) then ((0 : Int) ≤ 0 ∧ 0 < (s.Pts.length : Int)) ∧ ((s.Pts.length : Int) ≤ 9223372036854775807 → I64 ((s.Pts.length : Int) - 1)) ∧ ((0 : Int) ≤ (s.Pts.length : Int) - 1 ∧ (s.Pts.length : Int) - 1 < (s.Pts.length : Int)) ∧ Q (!(eqPt (nth s.Pts 0) (nth s.Pts ((s.Pts.length : Int) - 1)))) else Q false) else Q false))))) := h
 clear h
 have hc0 := Ct.init hO
 refine Ret_enter Try.func134 rfl 38 rfl [.tmp 2] rfl rfl ?_
 refine W_seq ?_
 refine W_reg ?_
 refine L_box [vi s.Kind, .slice A1 n2 c3] rfl fun w6 b7 hl9 hu10 g8 hx11 => ?_
 have h13 := Fb.mk hc0.ok hl9 hx11
 have hc14 := hc0.k0 g8
 refine L_pu (P_assign (vb false) rfl) ?_
 refine L_nil ?_
 refine W_seq ?_
 refine W_reg ?_
 refine L_pu (P_fa fa68_1 ⟨b7, 0, none⟩ ⟨b7, 1, none⟩ rfl rfl) ?_
 refine L_pu (P_ld ag23 cL ⟨b7, 1, none⟩ (.slice A1 n2 c3) rfl (h13.cell rfl)) ?_
 have hl15 := (hp4.st hc14.st).le
 refine L_pu (P_len Try.underlying23 A1 n2 c3 (hp4.st hc14.st).len rfl) ?_
 refine L_pu (P_assign (vi (s.Pts.length : Int)) rfl) ?_
 refine L_nil ?_
 refine W_seq ?_
 refine W_seq ?_
 refine W_reg ?_
 refine L_pu (P_fa fa68_1 ⟨b7, 0, none⟩ ⟨b7, 1, none⟩ rfl rfl) ?_
 refine L_pu (P_ld ag23 cL ⟨b7, 1, none⟩ (.slice A1 n2 c3) rfl (h13.cell rfl)) ?_
 refine L_call go165 [.slice A1 n2 c3] rfl ((spec_l1Pts.calls w6 hc14.ok s.Pts A1 n2 c3 (hp4.st hc14.st) _ H).mono ?_)
 rintro _ w16 ⟨r, rfl, H, g17⟩
 have hc21 := hc14.k0 g17
 refine L_pu (P_not r rfl) ?_
 refine L_nil ?_
 refine W_cond (!r) rfl (fun hq22 => ?_) (fun hq22 => ?_)
 ·have H := ite_t H hq22
  refine W_seq ?_
  refine W_reg ?_
  refine L_pu (P_assign (vb false) rfl) ?_
  refine L_nil ?_
  refine W_ret ?_
  exact ⟨[vb false], ⟨_, rfl, rfl⟩, false, rfl, H, hc21.gr.g0⟩
 ·have H := ite_f H hq22
  refine W_skip ?_
  refine W_seq ?_
  refine W_seq ?_
  refine W_reg ?_
  refine L_pu (P_fa fa68_0 ⟨b7, 0, none⟩ ⟨b7, 0, none⟩ rfl rfl) ?_
  have h23 := (h13.st (.new _ g17))
  refine L_pu (P_ld ag3 cL ⟨b7, 0, none⟩ (vi s.Kind) rfl (h23.cell rfl)) ?_
  refine L_nil ?_
  refine W_block ?_
  refine W_seq ?_
  refine W_reg ?_
  refine L_pu (P_cmp s.Kind 1 (s.Kind == 1) rfl rfl rfl) ?_
  refine L_pu (P_assign (vb (s.Kind == 1)) rfl) ?_
  refine L_nil ?_
  refine W_cond (s.Kind == 1) rfl (fun hq24 => ?_) (fun hq24 => ?_)
  ·have H := ite_t H hq24
   refine W_seq ?_
   refine W_reg ?_
   refine L_pu (P_move (vi (s.Pts.length : Int)) rfl) ?_
   refine L_pu (P_cmp (s.Pts.length : Int) 1 ((s.Pts.length : Int) == 1) rfl rfl rfl) ?_
   refine L_pu (P_assign (vb ((s.Pts.length : Int) == 1)) rfl) ?_
   refine L_nil ?_
   refine W_ret ?_
   exact ⟨[vb ((s.Pts.length : Int) == 1)], ⟨_, rfl, rfl⟩, (s.Pts.length : Int) == 1, rfl, H, hc21.gr.g0⟩
  ·have H := ite_f H hq24
   refine W_seq ?_
   refine W_reg ?_
   refine L_pu (P_cmp s.Kind 2 (s.Kind == 2) rfl rfl rfl) ?_
   refine L_pu (P_assign (vb (s.Kind == 2)) rfl) ?_
   refine L_nil ?_
   refine W_cond (s.Kind == 2) rfl (fun hq25 => ?_) (fun hq25 => ?_)
   ·have H := ite_t H hq25
    refine W_seq ?_
    refine W_reg ?_
    refine L_pu (P_move (vi (s.Pts.length : Int)) rfl) ?_
    refine L_pu (P_cmp (s.Pts.length : Int) 2 (decide ((s.Pts.length : Int) ≥ 2)) rfl rfl rfl) ?_
    refine L_pu (P_assign (vb (decide ((s.Pts.length : Int) ≥ 2))) rfl) ?_
    refine L_nil ?_
    refine W_ret ?_
    exact ⟨[vb (decide ((s.Pts.length : Int) ≥ 2))], ⟨_, rfl, rfl⟩, decide ((s.Pts.length : Int) ≥ 2), rfl, H, hc21.gr.g0⟩
   ·have H := ite_f H hq25
    refine W_seq ?_
    refine W_reg ?_
    refine L_pu (P_cmp s.Kind 3 (s.Kind == 3) rfl rfl rfl) ?_
    refine L_pu (P_assign (vb (s.Kind == 3)) rfl) ?_
    refine L_nil ?_
    refine W_cond (s.Kind == 3) rfl (fun hq26 => ?_) (fun hq26 => ?_)
    ·have H := ite_t H hq26
     refine W_seq ?_
     refine W_draw (fun x => Gr w16 x none) (by kernel_rfl) (by kernel_rfl) (Gr.drew _) ?_
     refine Q_pu (P_move (vi (s.Pts.length : Int)) rfl) ?_
     refine Q_pu (P_cmp (s.Pts.length : Int) 3 (decide ((s.Pts.length : Int) ≥ 3)) rfl rfl rfl) ?_
     refine Q_pu (P_move (vb (decide ((s.Pts.length : Int) ≥ 3))) rfl) ?_
     rcases bool_or (decide ((s.Pts.length : Int) ≥ 3)) with hq27 | hq27
     ·have H := ite_t H hq27
      refine Q_run (dj := 25) rfl rfl (by exact congrArg Value.bool hq27) ?_
      refine Q_pu (P_fa fa68_1 ⟨b7, 0, none⟩ ⟨b7, 1, none⟩ rfl rfl) ?_
      refine Q_run (dj := 25) rfl rfl (by exact congrArg Value.bool hq27) ?_
      refine Q_pu (P_ld ag23 cQ ⟨b7, 1, none⟩ (.slice A1 n2 c3) rfl (h23.cell rfl)) ?_
      refine Q_run (dj := 25) rfl rfl (by exact congrArg Value.bool hq27) ?_
      obtain ⟨hb28, H⟩ := H
      obtain ⟨ad29, cs30, hA31, hS34, hR32, hcl33⟩ := (hp4.st hc21.st).get default (by decide) 0 hb28
      obtain rfl := kPt.op hR32
      refine Q_pu (P_ia Try.underlying23 se23 A1 ad29 n2 c3 (hp4.st hc21.st).len 0 rfl hA31 rfl hb28) ?_
      refine Q_run (dj := 25) rfl rfl (by exact congrArg Value.bool hq27) ?_
      refine Q_pu (P_lda ag29 sz29 cQ (ad29.add ((0 : Int).toNat * 2)) [vi ((nth s.Pts 0).X), vi ((nth s.Pts 0).Y)] rfl rfl hcl33) ?_
      refine Q_run (dj := 25) rfl rfl (by exact congrArg Value.bool hq27) ?_
      refine Q_pu (P_fa fa68_1 ⟨b7, 0, none⟩ ⟨b7, 1, none⟩ rfl rfl) ?_
      refine Q_run (dj := 25) rfl rfl (by exact congrArg Value.bool hq27) ?_
      refine Q_pu (P_ld ag23 cQ ⟨b7, 1, none⟩ (.slice A1 n2 c3) rfl (h23.cell rfl)) ?_
      refine Q_run (dj := 25) rfl rfl (by exact congrArg Value.bool hq27) ?_
      refine Q_pu (P_move (vi (s.Pts.length : Int)) rfl) ?_
      refine Q_run (dj := 25) rfl rfl (by exact congrArg Value.bool hq27) ?_
      obtain ⟨hb35, H⟩ := H
      have hi36 := hb35 (len_le hl15)
      refine Q_pu (P_sub (s.Pts.length : Int) 1 rfl rfl hi36) ?_
      refine Q_run (dj := 25) rfl rfl (by exact congrArg Value.bool hq27) ?_
      obtain ⟨hb37, H⟩ := H
      obtain ⟨ad38, cs39, hA40, hS43, hR41, hcl42⟩ := (hp4.st hc21.st).get default (by decide) ((s.Pts.length : Int) - 1) hb37
      obtain rfl := kPt.op hR41
      refine Q_pu (P_ia Try.underlying23 se23 A1 ad38 n2 c3 (hp4.st hc21.st).len ((s.Pts.length : Int) - 1) rfl hA40 rfl hb37) ?_
      refine Q_run (dj := 25) rfl rfl (by exact congrArg Value.bool hq27) ?_
      refine Q_pu (P_lda ag29 sz29 cQ (ad38.add (((s.Pts.length : Int) - 1).toNat * 2)) [vi ((nth s.Pts ((s.Pts.length : Int) - 1)).X), vi ((nth s.Pts ((s.Pts.length : Int) - 1)).Y)] rfl rfl hcl42) ?_
      refine Q_run (dj := 25) rfl rfl (by exact congrArg Value.bool hq27) ?_
      refine Q_pu (P_ne _ _ (eqPt (nth s.Pts 0) (nth s.Pts ((s.Pts.length : Int) - 1))) (qt29 (nth s.Pts 0) (nth s.Pts ((s.Pts.length : Int) - 1))) rfl rfl) ?_
      refine Q_pu (P_pick true (vb (!(eqPt (nth s.Pts 0) (nth s.Pts ((s.Pts.length : Int) - 1))))) (by exact congrArg Value.bool hq27) rfl) ?_
      refine Q_pu (P_assign (vb (!(eqPt (nth s.Pts 0) (nth s.Pts ((s.Pts.length : Int) - 1))))) rfl) ?_
      refine Q_nil fun w44 g45 => ?_
      have hc47 := hc21.k0 g45
      refine W_ret ?_
      exact ⟨[vb (!(eqPt (nth s.Pts 0) (nth s.Pts ((s.Pts.length : Int) - 1))))], ⟨_, rfl, rfl⟩, !(eqPt (nth s.Pts 0) (nth s.Pts ((s.Pts.length : Int) - 1))), rfl, H, hc47.gr.g0⟩
     ·have H := ite_f H hq27
      refine Q_pass (dj := 25) rfl rfl (.inl (by exact congrArg Value.bool hq27)) ?_
      refine Q_pass (dj := 25) rfl rfl (.inl (by exact congrArg Value.bool hq27)) ?_
      refine Q_pass (dj := 25) rfl rfl (.inl (by exact congrArg Value.bool hq27)) ?_
      refine Q_pass (dj := 25) rfl rfl (.inl (by exact congrArg Value.bool hq27)) ?_
      refine Q_pass (dj := 25) rfl rfl (.inl (by exact congrArg Value.bool hq27)) ?_
      refine Q_pass (dj := 25) rfl rfl (.inl (by exact congrArg Value.bool hq27)) ?_
      refine Q_pass (dj := 25) rfl rfl (.inl (by exact congrArg Value.bool hq27)) ?_
      refine Q_pass (dj := 25) rfl rfl (.inl (by exact congrArg Value.bool hq27)) ?_
      refine Q_pass (dj := 25) rfl rfl (.inl (by exact congrArg Value.bool hq27)) ?_
      refine Q_pass (dj := 25) rfl rfl (.inl (by exact congrArg Value.bool hq27)) ?_
      refine Q_pass (dj := 25) rfl rfl (.inl (by exact congrArg Value.bool hq27)) ?_
      refine Q_pu (P_pick false (vb false) (by exact congrArg Value.bool hq27) rfl) ?_
      refine Q_pu (P_assign (vb false) rfl) ?_
      refine Q_nil fun w48 g49 => ?_
      have hc51 := hc21.k0 g49
      refine W_ret ?_
      exact ⟨[vb false], ⟨_, rfl, rfl⟩, false, rfl, H, hc51.gr.g0⟩
    ·have H := ite_f H hq26
     refine W_skip ?_
     refine W_seq ?_
     refine W_reg ?_
     refine L_pu (P_assign (vb false) rfl) ?_
     refine L_nil ?_
     refine W_ret ?_
     exact ⟨[vb false], ⟨_, rfl, rfl⟩, false, rfl, H, hc21.gr.g0⟩
end Go.Proofs.Ytndjggncgpjolaa

namespace Go.Proofs.Ytndjggncgpjolaa
set_option linter.unusedVariables false
set_option linter.unusedSimpArgs false
set_option linter.unusedSectionVars false
theorem spec_ShapeOk.law (s : Shape) (Q : Bool → Prop) (hq : Q (shapeOk s)) : spec_ShapeOk.E s Q := by
 unfold spec_ShapeOk.E
 unfold shapeOk at hq
 refine spec_l1Pts.law _ _ ?_
 cases h1 : ptsOk s.Pts with
 | false => rw [h1, Bool.false_and] at hq; rw [Bool.false_and, if_pos (by decide)]; exact hq
 | true =>
  rw [h1, Bool.true_and] at hq
  rw [Bool.true_and]
  unfold kindOk at hq
  by_cases h6 : s.Pts.length ≤ 6
  ·rw [decide_eq_true h6, if_neg (by decide)]
   by_cases k1 : s.Kind = 1
   ·rw [if_pos k1] at hq
    rw [if_pos (by rw [beq_iff_eq]; exact k1)]
    have : ((s.Pts.length : Int) == 1) = decide (s.Pts.length = 1) := by rw [Bool.eq_iff_iff, beq_iff_eq, decide_eq_true_eq]; omega
    rw [this]; exact hq
   rw [if_neg k1] at hq
   rw [if_neg (by rw [beq_iff_eq]; exact k1)]
   by_cases k2 : s.Kind = 2
   ·rw [if_pos k2, decide_eq_true h6, Bool.and_true] at hq
    rw [if_pos (by rw [beq_iff_eq]; exact k2)]
    have : decide ((s.Pts.length : Int) ≥ 2) = decide (2 ≤ s.Pts.length) := decide_eq_decide.2 (by omega)
    rw [this]; exact hq
   rw [if_neg k2] at hq
   rw [if_neg (by rw [beq_iff_eq]; exact k2)]
   by_cases k3 : s.Kind = 3
   ·rw [if_pos k3, decide_eq_true h6, Bool.and_true] at hq
    rw [if_pos (by rw [beq_iff_eq]; exact k3)]
    by_cases h3 : 3 ≤ s.Pts.length
    ·rw [decide_eq_true h3, Bool.true_and] at hq
     rw [if_pos (by rw [decide_eq_true_eq]; omega), eqPt_is]
     exact ⟨by omega, fun _ => by unfold I64; omega, by omega, hq⟩
    ·rw [decide_eq_false h3, Bool.false_and] at hq
     rw [if_neg (by rw [decide_eq_true_eq]; omega)]; exact hq
   ·rw [if_neg k3] at hq
    rw [if_neg (by rw [beq_iff_eq]; exact k3)]; exact hq
  ·rw [decide_eq_false h6, if_pos (by decide)]
   have : (if s.Kind = 1 then decide (s.Pts.length = 1) else if s.Kind = 2 then decide (2 ≤ s.Pts.length) && decide (s.Pts.length ≤ 6)
 else if s.Kind = 3 then decide (3 ≤ s.Pts.length) && decide (s.Pts.length ≤ 6) && !(decide (nth s.Pts 0 = nth s.Pts ((s.Pts.length : Int) - 1))) else false) = false := by
    rw [decide_eq_false h6, decide_eq_false (show ¬ s.Pts.length = 1 by omega)]
    simp
   rw [this] at hq; exact hq
end Go.Proofs.Ytndjggncgpjolaa

namespace Go.Proofs.Ytndjggncgpjolaa
open Go.RowKit
set_option linter.unusedVariables false
set_option linter.unusedSimpArgs false
def spec_l2Tags.E (t_ : List Tag) (Q : Bool → Prop) : Prop :=
 (∃ (I18 : Int → Prop) (mu19 : Int → Nat), I18 0 ∧ ∀ (i2 : Int), I18 i2 → (if decide (i2 < (t_.length : Int)) then ((0 : Int) ≤ i2 ∧ i2 < (t_.length : Int)) ∧ (∃ q : Bool, spec_WordOk.E ((nth t_ i2).Key) (fun x => x = q) ∧ (if !q then Q false else ((0 : Int) ≤ i2 ∧ i2 < (t_.length : Int)) ∧ (∃ q2 : Bool, spec_WordOk.E ((nth t_ i2).Val) (fun x => x = q2) ∧ (if !q2 then Q false else (if decide (i2 > 0) then ((0 : Int) ≤ i2 ∧ i2 < (t_.length : Int)) ∧ ((t_.length : Int) ≤ 9223372036854775807 → I64 (i2 - 1)) ∧ ((0 : Int) ≤ i2 - 1 ∧ i2 - 1 < (t_.length : Int)) ∧ (if Op.bytesLess ((nth t_ i2).Key) ((nth t_ (i2 - 1)).Key) || ((nth t_ i2).Key) == ((nth t_ (i2 - 1)).Key) then Q false else (-9223372036854775808 ≤ i2) ∧ I18 (i2 + 1) ∧ mu19 (i2 + 1) < mu19 i2) else (-9223372036854775808 ≤ i2) ∧ I18 (i2 + 1) ∧ mu19 (i2 + 1) < mu19 i2))))) else Q (decide ((t_.length : Int) ≤ 4))))
set_option maxHeartbeats 8000000 in
set_option maxRecDepth 100000 in
theorem spec_l2Tags.calls {O : Ob} (w0 : World) (hO : Ok w0 O) (t_ : List Tag) (A1 : Option Addr) (n2 c3 : Nat) (hp4 : Sl kTag w0 (Fr O) (.slice A1 n2 c3) t_) (Q : Bool → Prop) (h : spec_l2Tags.E t_ Q) :
  Ret Try.prog 135 [.slice A1 n2 c3] w0 (fun v w' => ∃ (r0 : Bool), v = vb r0 ∧ Q r0 ∧ Gr w0 w' none) := by
 have H : (∃ (I18 : Int → Prop) (mu19 : Int → Nat), I18 0 ∧ ∀ (i2 : Int), I18 i2 → (if decide (i2 < (t_.length : Int)) then ((0 : Int) ≤ i2 ∧ i2 < (t_.length : Int)) ∧ (∃ q : Bool, spec_WordOk.E ((nth t_ i2).Key) (fun x => x = q) ∧ (if !q then Q false else ((0 : Int) ≤ i2 ∧ i2 < (t_.length : Int)) ∧ (∃ q2 : Bool, spec_WordOk.E ((nth t_ i2).Val) (fun x => x = q2) ∧ (if !q2 then Q false else (if decide (i2 > 0) then ((0 : Int) ≤ i2 ∧ i2 < (t_.length : Int)) ∧ ((t_.length : Int) ≤ 9223372036854775807 → I64 (i2 - 1)) ∧ ((0 : Int) ≤ i2 - 1 ∧ i2 - 1 < (t_.length : Int)) ∧ (if Op.bytesLess ((nth t_ i2).Key) ((nth t_ (i2 - 1)).Key) || ((nth t_ i2).Key) == ((nth t_ (i2 - 1)).Key) then Q false else (-9223372036854775808 ≤ i2) ∧ I18 (i2 + 1) ∧ mu19 (i2 + 1) < mu19 i2) else (-9223372036854775808 ≤ i2) ∧ I18 (i2 + 1) ∧ mu19 (i2 + 1) < mu19 i2))))) else Q (decide ((t_.length : Int) ≤ 4)))) := h
 clear h
 have hc0 := Ct.init hO
 refine Ret_enter Try.func135 rfl 47 rfl [.tmp 2] rfl rfl ?_
 refine W_seq ?_
 refine W_reg ?_
 refine L_pu (P_assign (vb false) rfl) ?_
 refine L_nil ?_
 refine W_seq ?_
 refine W_seq ?_
 refine W_reg ?_
 refine L_pu (P_assign (vi 0) rfl) ?_
 refine L_nil ?_
 refine W_block ?_
 obtain ⟨I18, mu19, hI20, H⟩ := H
 refine W_loop (α := Int) (fun (sv__ : Int) t w14 => match sv__ with | i2 => I18 i2 ∧ Has t [(0, .slice A1 n2 c3), (3, vi i2)] ∧ Ct [] w0 w14 [] O ∧ Sl kTag w14 (Fr ([] ++ O)) (.slice A1 n2 c3) t_) (fun (sv__ : Int) => match sv__ with | i2 => mu19 i2) 0 ⟨hI20, ⟨rfl, rfl, trivial⟩, hc0, hp4⟩ ?_
 rintro i2 _ w14 ⟨hI20, hh22, hc16, h17⟩
 obtain ⟨u23, rfl⟩ := Has.ins hh22
 have H := H i2 hI20
 refine W_seq ?_
 refine W_seq ?_
 refine W_reg ?_
 refine L_pu (P_move (vi i2) rfl) ?_
 refine L_pu (P_move (.slice A1 n2 c3) rfl) ?_
 have hl24 := h17.le
 refine L_pu (P_len Try.underlying69 A1 n2 c3 h17.len rfl) ?_
 refine L_pu (P_cmp i2 (t_.length : Int) (decide (i2 < (t_.length : Int))) rfl rfl rfl) ?_
 refine L_nil ?_
 refine W_cond (decide (i2 < (t_.length : Int))) rfl (fun hq25 => ?_) (fun hq25 => ?_)
 ·have H := ite_t H hq25
  refine W_skip ?_
  refine W_seq ?_
  refine W_block ?_
  refine W_seq ?_
  refine W_draw (fun x => Gr w14 x none) (by kernel_rfl) (by kernel_rfl) (Gr.drew _) ?_
  refine Q_pu (P_move (.slice A1 n2 c3) rfl) ?_
  refine Q_pu (P_move (vi i2) rfl) ?_
  obtain ⟨hb26, H⟩ := H
  obtain ⟨ad27, cs28, hA29, hS32, hR30, hcl31⟩ := h17.get default (by decide) i2 hb26
  obtain ⟨rfl, hs33, hs34⟩ := kTag.op hR30
  refine Q_pu (P_ia Try.underlying69 se69 A1 ad27 n2 c3 h17.len i2 rfl hA29 rfl hb26) ?_
  refine Q_pu (P_fa fa133_0 (ad27.add (i2.toNat * 2)) ((ad27.add (i2.toNat * 2)).add 0) rfl rfl) ?_
  refine Q_pu (P_ld ag9 cQ ((ad27.add (i2.toNat * 2)).add 0) (vs ((nth t_ i2).Key)) rfl (hcl31 0 _ rfl)) ?_
  obtain ⟨q, hE40, H⟩ := H
  refine Q_call go52 [vs ((nth t_ i2).Key)] rfl (vb q) (fun w g => (spec_WordOk.calls w (hc16.k0 g).ok ((nth t_ i2).Key) hs33 _ hE40).mono ?_) ?_
  ·rintro _ w ⟨r, rfl, rfl, g2⟩
   exact ⟨rfl, Gr.t0 g g2⟩
  refine Q_pu (P_not q rfl) ?_
  refine Q_pu (P_move (vb (!q)) rfl) ?_
  rcases bool_or (!q) with hq42 | hq42
  ·have H := ite_t H hq42
   refine Q_pass (dj := 17) rfl rfl (.inl (by exact congrArg Value.bool hq42)) ?_
   refine Q_pass (dj := 17) rfl rfl (.inl (by exact congrArg Value.bool hq42)) ?_
   refine Q_pass (dj := 17) rfl rfl (.inl (by exact congrArg Value.bool hq42)) ?_
   refine Q_pass (dj := 17) rfl rfl (.inl (by exact congrArg Value.bool hq42)) ?_
   refine Q_pass (dj := 17) rfl rfl (.inl (by exact congrArg Value.bool hq42)) ?_
   refine Q_pass (dj := 17) rfl rfl (.inl (by exact congrArg Value.bool hq42)) ?_
   refine Q_pass (dj := 17) rfl rfl (.inl (by exact congrArg Value.bool hq42)) ?_
   refine Q_pu (P_pick true (vb true) (by exact congrArg Value.bool hq42) rfl) ?_
   refine Q_pu (P_move (vb true) rfl) ?_
   refine Q_pass (dj := 26) rfl rfl (.inl rfl) ?_
   refine Q_pass (dj := 26) rfl rfl (.inl rfl) ?_
   refine Q_pass (dj := 26) rfl rfl (.inl rfl) ?_
   refine Q_pass (dj := 29) rfl rfl (.inr rfl) ?_
   refine Q_pass (dj := 29) rfl rfl (.inr rfl) ?_
   refine Q_pass (dj := 29) rfl rfl (.inr rfl) ?_
   refine Q_pass (dj := 29) rfl rfl (.inr rfl) ?_
   refine Q_pass (dj := 29) rfl rfl (.inr rfl) ?_
   refine Q_pass (dj := 29) rfl rfl (.inr rfl) ?_
   refine Q_pass (dj := 29) rfl rfl (.inr rfl) ?_
   refine Q_pass (dj := 29) rfl rfl (.inr rfl) ?_
   refine Q_pass (dj := 29) rfl rfl (.inr rfl) ?_
   refine Q_pass (dj := 29) rfl rfl (.inr rfl) ?_
   refine Q_pass (dj := 29) rfl rfl (.inr rfl) ?_
   refine Q_pass (dj := 29) rfl rfl (.inr rfl) ?_
   refine Q_pass (dj := 26) rfl rfl (.inl rfl) ?_
   refine Q_pu (P_pick true (vb true) (by exact congrArg Value.bool rfl) rfl) ?_
   refine Q_nil fun w43 g44 => ?_
   have hc46 := hc16.k0 g44
   refine W_ct (b := true) rfl rfl ?_
   refine W_seq ?_
   refine W_reg ?_
   refine L_pu (P_assign (vb false) rfl) ?_
   refine L_nil ?_
   refine W_ret ?_
   exact ⟨[vb false], ⟨_, rfl, rfl⟩, false, rfl, H, hc46.gr.g0⟩
  ·have H := ite_f H hq42
   refine Q_run (dj := 17) rfl rfl (by exact congrArg Value.bool hq42) ?_
   refine Q_pu (P_move (.slice A1 n2 c3) rfl) ?_
   refine Q_run (dj := 17) rfl rfl (by exact congrArg Value.bool hq42) ?_
   refine Q_pu (P_move (vi i2) rfl) ?_
   refine Q_run (dj := 17) rfl rfl (by exact congrArg Value.bool hq42) ?_
   obtain ⟨hb47, H⟩ := H
   obtain ⟨ad48, cs49, hA50, hS53, hR51, hcl52⟩ := h17.get default (by decide) i2 hb47
   obtain ⟨rfl, hs54, hs55⟩ := kTag.op hR51
   refine Q_pu (P_ia Try.underlying69 se69 A1 ad48 n2 c3 h17.len i2 rfl hA50 rfl hb47) ?_
   refine Q_run (dj := 17) rfl rfl (by exact congrArg Value.bool hq42) ?_
   refine Q_pu (P_fa fa133_1 (ad48.add (i2.toNat * 2)) ((ad48.add (i2.toNat * 2)).add 1) rfl rfl) ?_
   refine Q_run (dj := 17) rfl rfl (by exact congrArg Value.bool hq42) ?_
   refine Q_pu (P_ld ag9 cQ ((ad48.add (i2.toNat * 2)).add 1) (vs ((nth t_ i2).Val)) rfl (hcl52 1 _ rfl)) ?_
   refine Q_run (dj := 17) rfl rfl (by exact congrArg Value.bool hq42) ?_
   obtain ⟨q2, hE61, H⟩ := H
   refine Q_call go52 [vs ((nth t_ i2).Val)] rfl (vb q2) (fun w g => (spec_WordOk.calls w (hc16.k0 g).ok ((nth t_ i2).Val) hs55 _ hE61).mono ?_) ?_
   ·rintro _ w ⟨r, rfl, rfl, g2⟩
    exact ⟨rfl, Gr.t0 g g2⟩
   refine Q_run (dj := 17) rfl rfl (by exact congrArg Value.bool hq42) ?_
   refine Q_pu (P_not q2 rfl) ?_
   refine Q_pu (P_pick false (vb (!q2)) (by exact congrArg Value.bool hq42) rfl) ?_
   refine Q_pu (P_move (vb (!q2)) rfl) ?_
   rcases bool_or (!q2) with hq63 | hq63
   ·have H := ite_t H hq63
    refine Q_pass (dj := 26) rfl rfl (.inl (by exact congrArg Value.bool hq63)) ?_
    refine Q_pass (dj := 26) rfl rfl (.inl (by exact congrArg Value.bool hq63)) ?_
    refine Q_pass (dj := 26) rfl rfl (.inl (by exact congrArg Value.bool hq63)) ?_
    refine Q_pass (dj := 29) rfl rfl (.inr rfl) ?_
    refine Q_pass (dj := 29) rfl rfl (.inr rfl) ?_
    refine Q_pass (dj := 29) rfl rfl (.inr rfl) ?_
    refine Q_pass (dj := 29) rfl rfl (.inr rfl) ?_
    refine Q_pass (dj := 29) rfl rfl (.inr rfl) ?_
    refine Q_pass (dj := 29) rfl rfl (.inr rfl) ?_
    refine Q_pass (dj := 29) rfl rfl (.inr rfl) ?_
    refine Q_pass (dj := 29) rfl rfl (.inr rfl) ?_
    refine Q_pass (dj := 29) rfl rfl (.inr rfl) ?_
    refine Q_pass (dj := 29) rfl rfl (.inr rfl) ?_
    refine Q_pass (dj := 29) rfl rfl (.inr rfl) ?_
    refine Q_pass (dj := 29) rfl rfl (.inr rfl) ?_
    refine Q_pass (dj := 26) rfl rfl (.inl (by exact congrArg Value.bool hq63)) ?_
    refine Q_pu (P_pick true (vb true) (by exact congrArg Value.bool hq63) rfl) ?_
    refine Q_nil fun w64 g65 => ?_
    have hc67 := hc16.k0 g65
    refine W_ct (b := true) rfl rfl ?_
    refine W_seq ?_
    refine W_reg ?_
    refine L_pu (P_assign (vb false) rfl) ?_
    refine L_nil ?_
    refine W_ret ?_
    exact ⟨[vb false], ⟨_, rfl, rfl⟩, false, rfl, H, hc67.gr.g0⟩
   ·have H := ite_f H hq63
    refine Q_run (dj := 26) rfl rfl (by exact congrArg Value.bool hq63) ?_
    refine Q_pu (P_move (vi i2) rfl) ?_
    refine Q_run (dj := 26) rfl rfl (by exact congrArg Value.bool hq63) ?_
    refine Q_pu (P_cmp i2 0 (decide (i2 > 0)) rfl rfl rfl) ?_
    refine Q_run (dj := 26) rfl rfl (by exact congrArg Value.bool hq63) ?_
    refine Q_pu (P_move (vb (decide (i2 > 0))) rfl) ?_
    rcases bool_or (decide (i2 > 0)) with hq68 | hq68
    ·have H := ite_t H hq68
     refine Q_run (dj := 29) rfl rfl (by exact congrArg Value.bool hq68) ?_
     refine Q_pu (P_move (.slice A1 n2 c3) rfl) ?_
     refine Q_run (dj := 29) rfl rfl (by exact congrArg Value.bool hq68) ?_
     refine Q_pu (P_move (vi i2) rfl) ?_
     refine Q_run (dj := 29) rfl rfl (by exact congrArg Value.bool hq68) ?_
     obtain ⟨hb69, H⟩ := H
     obtain ⟨ad70, cs71, hA72, hS75, hR73, hcl74⟩ := h17.get default (by decide) i2 hb69
     obtain ⟨rfl, hs76, hs77⟩ := kTag.op hR73
     refine Q_pu (P_ia Try.underlying69 se69 A1 ad70 n2 c3 h17.len i2 rfl hA72 rfl hb69) ?_
     refine Q_run (dj := 29) rfl rfl (by exact congrArg Value.bool hq68) ?_
     refine Q_pu (P_fa fa133_0 (ad70.add (i2.toNat * 2)) ((ad70.add (i2.toNat * 2)).add 0) rfl rfl) ?_
     refine Q_run (dj := 29) rfl rfl (by exact congrArg Value.bool hq68) ?_
     refine Q_pu (P_ld ag9 cQ ((ad70.add (i2.toNat * 2)).add 0) (vs ((nth t_ i2).Key)) rfl (hcl74 0 _ rfl)) ?_
     refine Q_run (dj := 29) rfl rfl (by exact congrArg Value.bool hq68) ?_
     refine Q_pu (P_move (.slice A1 n2 c3) rfl) ?_
     refine Q_run (dj := 29) rfl rfl (by exact congrArg Value.bool hq68) ?_
     refine Q_pu (P_move (vi i2) rfl) ?_
     refine Q_run (dj := 29) rfl rfl (by exact congrArg Value.bool hq68) ?_
     obtain ⟨hb78, H⟩ := H
     have hi79 := hb78 (len_le hl24)
     refine Q_pu (P_sub i2 1 rfl rfl hi79) ?_
     refine Q_run (dj := 29) rfl rfl (by exact congrArg Value.bool hq68) ?_
     obtain ⟨hb80, H⟩ := H
     obtain ⟨ad81, cs82, hA83, hS86, hR84, hcl85⟩ := h17.get default (by decide) (i2 - 1) hb80
     obtain ⟨rfl, hs87, hs88⟩ := kTag.op hR84
     refine Q_pu (P_ia Try.underlying69 se69 A1 ad81 n2 c3 h17.len (i2 - 1) rfl hA83 rfl hb80) ?_
     refine Q_run (dj := 29) rfl rfl (by exact congrArg Value.bool hq68) ?_
     refine Q_pu (P_fa fa133_0 (ad81.add ((i2 - 1).toNat * 2)) ((ad81.add ((i2 - 1).toNat * 2)).add 0) rfl rfl) ?_
     refine Q_run (dj := 29) rfl rfl (by exact congrArg Value.bool hq68) ?_
     refine Q_pu (P_ld ag9 cQ ((ad81.add ((i2 - 1).toNat * 2)).add 0) (vs ((nth t_ (i2 - 1)).Key)) rfl (hcl85 0 _ rfl)) ?_
     refine Q_run (dj := 29) rfl rfl (by exact congrArg Value.bool hq68) ?_
     refine Q_pu (P_scmp ((nth t_ i2).Key) ((nth t_ (i2 - 1)).Key) (Op.bytesLess ((nth t_ i2).Key) ((nth t_ (i2 - 1)).Key) || ((nth t_ i2).Key) == ((nth t_ (i2 - 1)).Key)) rfl rfl rfl) ?_
     refine Q_run (dj := 26) rfl rfl (by exact congrArg Value.bool hq63) ?_
     refine Q_pu (P_pick true (vb (Op.bytesLess ((nth t_ i2).Key) ((nth t_ (i2 - 1)).Key) || ((nth t_ i2).Key) == ((nth t_ (i2 - 1)).Key))) (by exact congrArg Value.bool hq68) rfl) ?_
     refine Q_pu (P_pick false (vb (Op.bytesLess ((nth t_ i2).Key) ((nth t_ (i2 - 1)).Key) || ((nth t_ i2).Key) == ((nth t_ (i2 - 1)).Key))) (by exact congrArg Value.bool hq63) rfl) ?_
     refine Q_nil fun w89 g90 => ?_
     have hc92 := hc16.k0 g90
     refine W_cond (Op.bytesLess ((nth t_ i2).Key) ((nth t_ (i2 - 1)).Key) || ((nth t_ i2).Key) == ((nth t_ (i2 - 1)).Key)) rfl (fun hq93 => ?_) (fun hq93 => ?_)
     ·have H := ite_t H hq93
      refine W_seq ?_
      refine W_reg ?_
      refine L_pu (P_assign (vb false) rfl) ?_
      refine L_nil ?_
      refine W_ret ?_
      exact ⟨[vb false], ⟨_, rfl, rfl⟩, false, rfl, H, hc92.gr.g0⟩
     ·have H := ite_f H hq93
      refine W_skip ?_
      refine W_reg ?_
      refine L_pu (P_move (vi i2) rfl) ?_
      obtain ⟨hb95, H⟩ := H
      have hi94 : I64 (i2 + 1) := i64_succ (of_decide_eq_true hq25) hl24 hb95
      refine L_pu (P_add i2 1 rfl rfl hi94) ?_
      refine L_pu (P_assign (vi (i2 + 1)) rfl) ?_
      refine L_nil ?_
      obtain ⟨hI96, hm97⟩ := H
      exact ⟨i2 + 1, hm97, hI96, ⟨rfl, rfl, trivial⟩, hc92, (h17.st (.new _ g90))⟩
    ·have H := ite_f H hq68
     refine Q_pass (dj := 29) rfl rfl (.inl (by exact congrArg Value.bool hq68)) ?_
     refine Q_pass (dj := 29) rfl rfl (.inl (by exact congrArg Value.bool hq68)) ?_
     refine Q_pass (dj := 29) rfl rfl (.inl (by exact congrArg Value.bool hq68)) ?_
     refine Q_pass (dj := 29) rfl rfl (.inl (by exact congrArg Value.bool hq68)) ?_
     refine Q_pass (dj := 29) rfl rfl (.inl (by exact congrArg Value.bool hq68)) ?_
     refine Q_pass (dj := 29) rfl rfl (.inl (by exact congrArg Value.bool hq68)) ?_
     refine Q_pass (dj := 29) rfl rfl (.inl (by exact congrArg Value.bool hq68)) ?_
     refine Q_pass (dj := 29) rfl rfl (.inl (by exact congrArg Value.bool hq68)) ?_
     refine Q_pass (dj := 29) rfl rfl (.inl (by exact congrArg Value.bool hq68)) ?_
     refine Q_pass (dj := 29) rfl rfl (.inl (by exact congrArg Value.bool hq68)) ?_
     refine Q_pass (dj := 29) rfl rfl (.inl (by exact congrArg Value.bool hq68)) ?_
     refine Q_pass (dj := 29) rfl rfl (.inl (by exact congrArg Value.bool hq68)) ?_
     refine Q_run (dj := 26) rfl rfl (by exact congrArg Value.bool hq63) ?_
     refine Q_pu (P_pick false (vb false) (by exact congrArg Value.bool hq68) rfl) ?_
     refine Q_pu (P_pick false (vb false) (by exact congrArg Value.bool hq63) rfl) ?_
     refine Q_nil fun w98 g99 => ?_
     have hc101 := hc16.k0 g99
     refine W_cf (b := false) rfl rfl ?_
     refine W_skip ?_
     refine W_reg ?_
     refine L_pu (P_move (vi i2) rfl) ?_
     obtain ⟨hb103, H⟩ := H
     have hi102 : I64 (i2 + 1) := i64_succ (of_decide_eq_true hq25) hl24 hb103
     refine L_pu (P_add i2 1 rfl rfl hi102) ?_
     refine L_pu (P_assign (vi (i2 + 1)) rfl) ?_
     refine L_nil ?_
     obtain ⟨hI104, hm105⟩ := H
     exact ⟨i2 + 1, hm105, hI104, ⟨rfl, rfl, trivial⟩, hc101, (h17.st (.new _ g99))⟩
 ·have H := ite_f H hq25
  refine W_exit (xin_hit ?_)
  refine W_seq ?_
  refine W_reg ?_
  refine L_pu (P_move (.slice A1 n2 c3) rfl) ?_
  refine L_pu (P_len Try.underlying69 A1 n2 c3 h17.len rfl) ?_
  refine L_pu (P_cmp (t_.length : Int) 4 (decide ((t_.length : Int) ≤ 4)) rfl rfl rfl) ?_
  refine L_pu (P_assign (vb (decide ((t_.length : Int) ≤ 4))) rfl) ?_
  refine L_nil ?_
  refine W_ret ?_
  exact ⟨[vb (decide ((t_.length : Int) ≤ 4))], ⟨_, rfl, rfl⟩, decide ((t_.length : Int) ≤ 4), rfl, H, hc16.gr.g0⟩
end Go.Proofs.Ytndjggncgpjolaa

namespace Go.Proofs.Ytndjggncgpjolaa
set_option linter.unusedVariables false
set_option linter.unusedSimpArgs false
set_option linter.unusedSectionVars false
theorem spec_l2Tags.law (t : List Tag) (Q : Bool → Prop) (hq : Q (tagsOk t && decide (t.length ≤ 4))) : spec_l2Tags.E t Q := by
 unfold spec_l2Tags.E
 unfold tagsOk at hq
 refine loop_all t.length (fun k => wordOk (nth t (k : Int)).Key && wordOk (nth t (k : Int)).Val && (decide (k = 0) || Op.bytesLess (nth t ((k : Int) - 1)).Key (nth t (k : Int)).Key)) (fun I mu k hk hp hn => ?_) (fun ha => ?_)
 ·have bad : (wordOk (nth t (k : Int)).Key && wordOk (nth t (k : Int)).Val && (decide (k = 0) || Op.bytesLess (nth t ((k : Int) - 1)).Key (nth t (k : Int)).Key)) = false → Q false := fun h => by
   rw [allN_false hk h, Bool.false_and] at hq; exact hq
  refine ⟨by omega, _, spec_WordOk.law _ _ rfl, ?_⟩
  cases h1 : wordOk (nth t (k : Int)).Key with
  | false => rw [if_pos (by decide)]; exact bad (by rw [h1]; rfl)
  | true =>
   rw [if_neg (by decide)]
   refine ⟨by omega, _, spec_WordOk.law _ _ rfl, ?_⟩
   cases h2 : wordOk (nth t (k : Int)).Val with
   | false => rw [if_pos (by decide)]; exact bad (by rw [h2, Bool.and_false]; rfl)
   | true =>
    rw [if_neg (by decide)]
    by_cases hk0 : k = 0
    ·rw [if_neg (by rw [decide_eq_true_eq]; omega)]
     obtain ⟨i1, i2⟩ := hn (by rw [h1, h2, decide_eq_true hk0]; rfl)
     exact ⟨by omega, i1, i2⟩
    ·rw [if_pos (by rw [decide_eq_true_eq]; omega)]
     refine ⟨by omega, fun _ => by unfold I64; omega, by omega, ?_⟩
     rw [← less_tri]
     cases h3 : Op.bytesLess (nth t ((k : Int) - 1)).Key (nth t (k : Int)).Key with
     | false => rw [if_pos (by decide)]; exact bad (by rw [h3, h1, h2, decide_eq_false hk0]; rfl)
     | true =>
      rw [if_neg (by decide)]
      obtain ⟨i1, i2⟩ := hn (by rw [h3, h1, h2, decide_eq_false hk0]; rfl)
      exact ⟨by omega, i1, i2⟩
 ·rw [allN_true ha, Bool.true_and] at hq
  have e2 : decide ((t.length : Int) ≤ 4) = decide (t.length ≤ 4) := decide_eq_decide.2 (by omega)
  rw [e2]; exact hq
end Go.Proofs.Ytndjggncgpjolaa

namespace Go.Proofs.Ytndjggncgpjolaa
open Go.RowKit
set_option linter.unusedVariables false
set_option linter.unusedSimpArgs false
def spec_FeatOk.E (f : Feat) (Q : Bool → Prop) : Prop :=
 spec_WordOk.E f.Id (fun r => (if r then spec_ShapeOk.E f.Shape (fun r2 => (if r2 then spec_l2Tags.E f.Tags (fun r3 => Q r3) else Q false)) else Q false))
set_option maxHeartbeats 8000000 in
set_option maxRecDepth 100000 in
theorem spec_FeatOk.calls {O : Ob} (w0 : World) (hO : Ok w0 O) (f : Feat) (A2 : Option Addr) (n3 c4 : Nat) (A7 : Option Addr) (n8 c9 : Nat) (hs1 : Lim f.Id) (hp5 : Sl kPt w0 (Fr O) (.slice A2 n3 c4) f.Shape.Pts) (hp10 : Sl kTag w0 (Fr O) (.slice A7 n8 c9) f.Tags) (Q : Bool → Prop) (h : spec_FeatOk.E f Q) :
  Ret Try.prog 89 [.agg #[vs f.Id, vi f.Shape.Kind, .slice A2 n3 c4, .slice A7 n8 c9]] w0 (fun v w' => ∃ (r0 : Bool), v = vb r0 ∧ Q r0 ∧ Gr w0 w' none) := by
 have H : spec_WordOk.E f.Id (fun r => (if r then spec_ShapeOk.E f.Shape (fun r2 => (if r2 then spec_l2Tags.E f.Tags (fun r3 => Q r3) else Q false)) else Q false)) := h
 clear h
 have hc0 := Ct.init hO
 refine Ret_enter Try.func89 rfl 16 rfl [.tmp 2] rfl rfl ?_
 refine W_seq ?_
 refine W_reg ?_
 refine L_box [vs f.Id, vi f.Shape.Kind, .slice A2 n3 c4, .slice A7 n8 c9] rfl fun w12 b13 hl15 hu16 g14 hx17 => ?_
 have h19 := Fb.mk hc0.ok hl15 hx17
 have hc20 := hc0.k0 g14
 refine L_pu (P_assign (vb false) rfl) ?_
 refine L_nil ?_
 refine W_seq ?_
 refine W_reg ?_
 refine L_pu (P_fa fa71_0 ⟨b13, 0, none⟩ ⟨b13, 0, none⟩ rfl rfl) ?_
 refine L_pu (P_ld ag9 cL ⟨b13, 0, none⟩ (vs f.Id) rfl (h19.cell rfl)) ?_
 refine L_call go52 [vs f.Id] rfl ((spec_WordOk.calls w12 hc20.ok f.Id hs1 _ H).mono ?_)
 rintro _ w21 ⟨r, rfl, H, g22⟩
 have hc26 := hc20.k0 g22
 refine L_pu (P_move (vb r) rfl) ?_
 rcases bool_or r with hq27 | hq27
 ·have H := ite_t H hq27
  refine L_run (dj := 6) rfl rfl (by exact congrArg Value.bool hq27) ?_
  refine L_pu (P_fa fa71_1 ⟨b13, 0, none⟩ ⟨b13, 1, none⟩ rfl rfl) ?_
  refine L_run (dj := 6) rfl rfl (by exact congrArg Value.bool hq27) ?_
  have h28 := (h19.st (.new _ g22))
  refine L_pu (P_lda ag68 sz68 cL ⟨b13, 1, none⟩ [vi f.Shape.Kind, .slice A2 n3 c4] rfl rfl (h28.cells (off := 1) rfl)) ?_
  refine L_run (dj := 6) rfl rfl (by exact congrArg Value.bool hq27) ?_
  refine L_call go134 [.agg #[vi f.Shape.Kind, .slice A2 n3 c4]] rfl ((spec_ShapeOk.calls w21 hc26.ok f.Shape A2 n3 c4 (hp5.st hc26.st) _ H).mono ?_)
  rintro _ w29 ⟨r2, rfl, H, g30⟩
  have hc34 := hc26.k0 g30
  refine L_pu (P_pick true (vb r2) (by exact congrArg Value.bool hq27) rfl) ?_
  refine L_pu (P_move (vb r2) rfl) ?_
  rcases bool_or r2 with hq35 | hq35
  ·have H := ite_t H hq35
   refine L_run (dj := 11) rfl rfl (by exact congrArg Value.bool hq35) ?_
   refine L_pu (P_fa fa71_2 ⟨b13, 0, none⟩ ⟨b13, 3, none⟩ rfl rfl) ?_
   refine L_run (dj := 11) rfl rfl (by exact congrArg Value.bool hq35) ?_
   have h36 := (h28.st (.new _ g30))
   refine L_pu (P_ld ag69 cL ⟨b13, 3, none⟩ (.slice A7 n8 c9) rfl (h36.cell rfl)) ?_
   refine L_run (dj := 11) rfl rfl (by exact congrArg Value.bool hq35) ?_
   refine L_call go135 [.slice A7 n8 c9] rfl ((spec_l2Tags.calls w29 hc34.ok f.Tags A7 n8 c9 (hp10.st hc34.st) _ H).mono ?_)
   rintro _ w37 ⟨r3, rfl, H, g38⟩
   have hc42 := hc34.k0 g38
   refine L_pu (P_pick true (vb r3) (by exact congrArg Value.bool hq35) rfl) ?_
   refine L_pu (P_assign (vb r3) rfl) ?_
   refine L_nil ?_
   refine W_ret ?_
   exact ⟨[vb r3], ⟨_, rfl, rfl⟩, r3, rfl, H, hc42.gr.g0⟩
  ·have H := ite_f H hq35
   refine L_pass (dj := 11) rfl rfl (.inl (by exact congrArg Value.bool hq35)) ?_
   refine L_pass (dj := 11) rfl rfl (.inl (by exact congrArg Value.bool hq35)) ?_
   refine L_pass (dj := 11) rfl rfl (.inl (by exact congrArg Value.bool hq35)) ?_
   refine L_pu (P_pick false (vb false) (by exact congrArg Value.bool hq35) rfl) ?_
   refine L_pu (P_assign (vb false) rfl) ?_
   refine L_nil ?_
   refine W_ret ?_
   exact ⟨[vb false], ⟨_, rfl, rfl⟩, false, rfl, H, hc34.gr.g0⟩
 ·have H := ite_f H hq27
  refine L_pass (dj := 6) rfl rfl (.inl (by exact congrArg Value.bool hq27)) ?_
  refine L_pass (dj := 6) rfl rfl (.inl (by exact congrArg Value.bool hq27)) ?_
  refine L_pass (dj := 6) rfl rfl (.inl (by exact congrArg Value.bool hq27)) ?_
  refine L_pu (P_pick false (vb false) (by exact congrArg Value.bool hq27) rfl) ?_
  refine L_pu (P_move (vb false) rfl) ?_
  refine L_pass (dj := 11) rfl rfl (.inl rfl) ?_
  refine L_pass (dj := 11) rfl rfl (.inl rfl) ?_
  refine L_pass (dj := 11) rfl rfl (.inl rfl) ?_
  refine L_pu (P_pick false (vb false) (by exact congrArg Value.bool rfl) rfl) ?_
  refine L_pu (P_assign (vb false) rfl) ?_
  refine L_nil ?_
  refine W_ret ?_
  exact ⟨[vb false], ⟨_, rfl, rfl⟩, false, rfl, H, hc26.gr.g0⟩
end Go.Proofs.Ytndjggncgpjolaa

namespace Go.Proofs.Ytndjggncgpjolaa
set_option linter.unusedVariables false
set_option linter.unusedSimpArgs false
set_option linter.unusedSectionVars false
theorem spec_FeatOk.law (f : Feat) (Q : Bool → Prop) (hq : Q (featOk f)) : spec_FeatOk.E f Q := by
 unfold spec_FeatOk.E
 unfold featOk at hq
 refine spec_WordOk.law _ _ ?_
 cases h1 : wordOk f.Id with
 | false => rw [h1, Bool.and_false, Bool.false_and] at hq; rw [if_neg (by decide)]; exact hq
 | true =>
  rw [h1, Bool.and_true] at hq
  rw [if_pos rfl]
  refine spec_ShapeOk.law _ _ ?_
  cases h2 : shapeOk f.Shape with
  | false => rw [h2, Bool.and_false] at hq; rw [if_neg (by decide)]; exact hq
  | true => rw [h2, Bool.and_true] at hq; rw [if_pos rfl]; exact spec_l2Tags.law _ _ hq
end Go.Proofs.Ytndjggncgpjolaa
