/- It is proved here that the law FnExactRepoAhead of the given program holds whatever it is handed: the walks through the code, the plain laws and the row, in this order.
   Conditions: none. -/
import Derived.Below
import Derived.ChangeArms
import Derived.ChangeOld
import Derived.ChangeSlices
import Derived.DataReads
import Derived.Deep.Quiet
import Derived.KernelRfl
import Derived.Laws.Build
import Derived.Laws.OwnMore
import Derived.Laws.Slices
import Derived.Laws.StructEq
import Derived.OpenShut
import Derived.ProofKit
import Derived.ShutString
import Derived.SizedLaws
import Derived.StillTail
import Derived.Test.YthkeboifjlnjjaaProg
import Derived.Test.YthkeboifjlnjjaaRows
import Derived.WalkKit
import Derived.Test.YthkeboifjlnjjaaCExactRepoAheada
namespace Go.Proofs.Ythkeboifjlnjjaa
open Go.RowKit
set_option linter.unusedVariables false
def laws_szFeat.E (a : Feat) (left : Int) (Q : Int → Prop) : Prop :=
  ((a.Id.length : Int) ≤ 9223372036854775807 → I64 (left - (a.Id.length : Int))) ∧ (if decide (left - (a.Id.length : Int) < 0) then Q (-1) else laws_szShape.E a.Shape (left - (a.Id.length : Int)) (fun r => (if decide (r < 0) then Q (-1) else laws_szTagS.E a.Tags r (fun r2 => (if decide (r2 < 0) then Q (-1) else Q r2)))))
set_option maxHeartbeats 8000000 in
set_option maxRecDepth 100000 in
theorem laws_szFeat.calls {O : Ob} (w0 : World) (hO : Ok w0 O) (a : Feat) (A2 : Option Addr) (n3 c4 : Nat) (A7 : Option Addr) (n8 c9 : Nat) (hs1 : Lim a.Id) (hp5 : Sl kPt w0 (Fr O) (.slice A2 n3 c4) a.Shape.Pts) (hp10 : Sl kTag w0 (Fr O) (.slice A7 n8 c9) a.Tags) (left : Int) (Q : Int → Prop) (h : laws_szFeat.E a left Q) :
    Ret Try.prog 74 [.agg #[vs a.Id, vi a.Shape.Kind, .slice A2 n3 c4, .slice A7 n8 c9], vi left] w0 (fun v w' => ∃ (r0 : Int), v = vi r0 ∧ Q r0 ∧ Gr w0 w' none) := by
  have H : ((a.Id.length : Int) ≤ 9223372036854775807 → I64 (left - (a.Id.length : Int))) ∧ (if decide (left - (a.Id.length : Int) < 0) then Q (-1) else laws_szShape.E a.Shape (left - (a.Id.length : Int)) (fun r => (if decide (r < 0) then Q (-1) else laws_szTagS.E a.Tags r (fun r2 => (if decide (r2 < 0) then Q (-1) else Q r2))))) := h
  clear h
  have hc0 := Ct.init hO
  refine Ret_enter Try.func74 rfl 25 rfl [.tmp 4] rfl rfl ?_
  refine W_seq ?_
  refine W_reg ?_
  refine L_box [vs a.Id, vi a.Shape.Kind, .slice A2 n3 c4, .slice A7 n8 c9] rfl fun w12 b13 hl15 hu16 g14 hx17 => ?_
  have h19 := Fb.mk hc0.ok hl15 hx17
  have hc20 := hc0.k0 g14
  refine L_pu (P_assign (vi 0) rfl) ?_
  refine L_nil ?_
  refine W_seq ?_
  refine W_reg ?_
  refine L_pu (P_move (vi left) rfl) ?_
  refine L_pu (P_fa fa71_0 ⟨b13, 0, none⟩ ⟨b13, 0, none⟩ rfl rfl) ?_
  refine L_pu (P_ld ag9 cL ⟨b13, 0, none⟩ (vs a.Id) rfl (h19.cell rfl)) ?_
  have hl21 := hs1
  refine L_pu (P_lens Try.underlying9 a.Id rfl) ?_
  obtain ⟨hb22, H⟩ := H
  have hi23 := hb22 (len_le hl21)
  refine L_pu (P_sub left (a.Id.length : Int) rfl rfl hi23) ?_
  refine L_pu (P_assign (vi (left - (a.Id.length : Int))) rfl) ?_
  refine L_nil ?_
  refine W_seq ?_
  refine W_seq ?_
  refine W_reg ?_
  refine L_pu (P_move (vi (left - (a.Id.length : Int))) rfl) ?_
  refine L_pu (P_cmp (left - (a.Id.length : Int)) 0 (decide (left - (a.Id.length : Int) < 0)) rfl rfl rfl) ?_
  refine L_nil ?_
  refine W_cond (decide (left - (a.Id.length : Int) < 0)) rfl (fun hq24 => ?_) (fun hq24 => ?_)
  · have H := ite_t H hq24
    refine W_seq ?_
    refine W_reg ?_
    refine L_pu (P_assign (vi (-1)) rfl) ?_
    refine L_nil ?_
    refine W_ret ?_
    exact ⟨[vi (-1)], ⟨_, rfl, rfl⟩, (-1), rfl, H, hc20.gr⟩
  · have H := ite_f H hq24
    refine W_skip ?_
    refine W_seq ?_
    refine W_reg ?_
    refine L_pu (P_fa fa71_1 ⟨b13, 0, none⟩ ⟨b13, 1, none⟩ rfl rfl) ?_
    refine L_pu (P_lda ag68 sz68 cL ⟨b13, 1, none⟩ [vi a.Shape.Kind, .slice A2 n3 c4] rfl rfl (h19.cells (off := 1) rfl)) ?_
    refine L_pu (P_move (vi (left - (a.Id.length : Int))) rfl) ?_
    refine L_call go99 [.agg #[vi a.Shape.Kind, .slice A2 n3 c4], vi (left - (a.Id.length : Int))] rfl ((laws_szShape.calls w12 hc20.ok a.Shape A2 n3 c4 (hp5.st hc20.st) (left - (a.Id.length : Int)) _ H).mono ?_)
    rintro _ w25 ⟨r, rfl, H, g26⟩
    have hc30 := hc20.k0 g26
    refine L_pu (P_assign (vi r) rfl) ?_
    refine L_nil ?_
    refine W_seq ?_
    refine W_seq ?_
    refine W_reg ?_
    refine L_pu (P_move (vi r) rfl) ?_
    refine L_pu (P_cmp r 0 (decide (r < 0)) rfl rfl rfl) ?_
    refine L_nil ?_
    refine W_cond (decide (r < 0)) rfl (fun hq31 => ?_) (fun hq31 => ?_)
    · have H := ite_t H hq31
      refine W_seq ?_
      refine W_reg ?_
      refine L_pu (P_assign (vi (-1)) rfl) ?_
      refine L_nil ?_
      refine W_ret ?_
      exact ⟨[vi (-1)], ⟨_, rfl, rfl⟩, (-1), rfl, H, hc30.gr⟩
    · have H := ite_f H hq31
      refine W_skip ?_
      refine W_seq ?_
      refine W_reg ?_
      refine L_pu (P_fa fa71_2 ⟨b13, 0, none⟩ ⟨b13, 3, none⟩ rfl rfl) ?_
      have h32 := (h19.st (.new _ g26))
      refine L_pu (P_ld ag69 cL ⟨b13, 3, none⟩ (.slice A7 n8 c9) rfl (h32.cell rfl)) ?_
      refine L_pu (P_move (vi r) rfl) ?_
      refine L_call go100 [.slice A7 n8 c9, vi r] rfl ((laws_szTagS.calls w25 hc30.ok a.Tags A7 n8 c9 (hp10.st hc30.st) r _ H).mono ?_)
      rintro _ w33 ⟨r2, rfl, H, g34⟩
      have hc38 := hc30.k0 g34
      refine L_pu (P_assign (vi r2) rfl) ?_
      refine L_nil ?_
      refine W_seq ?_
      refine W_seq ?_
      refine W_reg ?_
      refine L_pu (P_move (vi r2) rfl) ?_
      refine L_pu (P_cmp r2 0 (decide (r2 < 0)) rfl rfl rfl) ?_
      refine L_nil ?_
      refine W_cond (decide (r2 < 0)) rfl (fun hq39 => ?_) (fun hq39 => ?_)
      · have H := ite_t H hq39
        refine W_seq ?_
        refine W_reg ?_
        refine L_pu (P_assign (vi (-1)) rfl) ?_
        refine L_nil ?_
        refine W_ret ?_
        exact ⟨[vi (-1)], ⟨_, rfl, rfl⟩, (-1), rfl, H, hc38.gr⟩
      · have H := ite_f H hq39
        refine W_skip ?_
        refine W_seq ?_
        refine W_reg ?_
        refine L_pu (P_move (vi r2) rfl) ?_
        refine L_pu (P_assign (vi r2) rfl) ?_
        refine L_nil ?_
        refine W_ret ?_
        exact ⟨[vi r2], ⟨_, rfl, rfl⟩, r2, rfl, H, hc38.gr⟩
end Go.Proofs.Ythkeboifjlnjjaa

namespace Go.Proofs.Ythkeboifjlnjjaa
set_option linter.unusedVariables false
set_option linter.unusedSimpArgs false
set_option linter.unusedSectionVars false
theorem laws_szFeat.law (a : Feat) (left : Int) (Q : Int → Prop) (h0 : 0 ≤ left) (h1 : left ≤ 1048576) (hn : left - (bulk a : Nat) < 0 → Q (-1)) (hp : 0 ≤ left - (bulk a : Nat) → Q (left - (bulk a : Nat))) : laws_szFeat.E a left Q := by
  have hb : bulk a = bulk a.Id + bulk a.Shape + bulk a.Tags := rfl
  have hzId : bulk a.Id = a.Id.length := bulk_str _
  unfold laws_szFeat.E
  refine ⟨by intros; unfold I64; omega, ?_⟩
  split
  · rename_i hc; simp only [decide_eq_true_eq] at hc; exact hn (by omega)
  rename_i hc0; simp only [decide_eq_true_eq] at hc0
  refine laws_szShape.law _ _ _ (by omega) (by omega) (fun h => ?_) (fun h1 => ?_)
  · rw [if_pos (by decide)]; exact hn (by omega)
  rw [if_neg (by rw [decide_eq_false (by omega)]; exact Bool.false_ne_true)]
  refine laws_szTagS.law _ _ _ (by omega) (by omega) (fun h => ?_) (fun h2 => ?_)
  · rw [if_pos (by decide)]; exact hn (by omega)
  rw [if_neg (by rw [decide_eq_false (by omega)]; exact Bool.false_ne_true)]
  exact cast (congrArg Q (by omega)) (hp (by omega))
end Go.Proofs.Ythkeboifjlnjjaa

namespace Go.Proofs.Ythkeboifjlnjjaa
open Go.RowKit
set_option linter.unusedVariables false
def laws_szFeatS.E (a : List Feat) (left : Int) (Q : Int → Prop) : Prop :=
  ((a.length : Int) ≤ 9223372036854775807 → I64 (left - (a.length : Int))) ∧ (if decide (left - (a.length : Int) < 0) then Q (-1) else (∃ (I22 : Int → Int → Prop) (mu23 : Int → Int → Nat), I22 (left - (a.length : Int)) 0 ∧ ∀ (left3 : Int) (i2 : Int), I22 left3 i2 → (if decide (i2 < (a.length : Int)) then ((0 : Int) ≤ i2 ∧ i2 < (a.length : Int)) ∧ laws_szFeat.E (nth a i2) left3 (fun r => (if decide (r < 0) then Q (-1) else (-9223372036854775808 ≤ i2) ∧ I22 r (i2 + 1) ∧ mu23 r (i2 + 1) < mu23 left3 i2)) else Q left3)))
set_option maxHeartbeats 8000000 in
set_option maxRecDepth 100000 in
theorem laws_szFeatS.calls {O : Ob} (w0 : World) (hO : Ok w0 O) (a : List Feat) (A1 : Option Addr) (n2 c3 : Nat) (hp4 : Sl kFeat w0 (Fr O) (.slice A1 n2 c3) a) (left : Int) (Q : Int → Prop) (h : laws_szFeatS.E a left Q) :
    Ret Try.prog 113 [.slice A1 n2 c3, vi left] w0 (fun v w' => ∃ (r0 : Int), v = vi r0 ∧ Q r0 ∧ Gr w0 w' none) := by
  have H : ((a.length : Int) ≤ 9223372036854775807 → I64 (left - (a.length : Int))) ∧ (if decide (left - (a.length : Int) < 0) then Q (-1) else (∃ (I22 : Int → Int → Prop) (mu23 : Int → Int → Nat), I22 (left - (a.length : Int)) 0 ∧ ∀ (left3 : Int) (i2 : Int), I22 left3 i2 → (if decide (i2 < (a.length : Int)) then ((0 : Int) ≤ i2 ∧ i2 < (a.length : Int)) ∧ laws_szFeat.E (nth a i2) left3 (fun r => (if decide (r < 0) then Q (-1) else (-9223372036854775808 ≤ i2) ∧ I22 r (i2 + 1) ∧ mu23 r (i2 + 1) < mu23 left3 i2)) else Q left3))) := h
  clear h
  have hc0 := Ct.init hO
  refine Ret_enter Try.func113 rfl 27 rfl [.tmp 4] rfl rfl ?_
  refine W_seq ?_
  refine W_reg ?_
  refine L_pu (P_assign (vi 0) rfl) ?_
  refine L_nil ?_
  refine W_seq ?_
  refine W_reg ?_
  refine L_pu (P_move (vi left) rfl) ?_
  refine L_pu (P_move (.slice A1 n2 c3) rfl) ?_
  have hl6 := hp4.le
  refine L_pu (P_len Try.underlying124 A1 n2 c3 hp4.len rfl) ?_
  obtain ⟨hb7, H⟩ := H
  have hi8 := hb7 (len_le hl6)
  refine L_pu (P_sub left (a.length : Int) rfl rfl hi8) ?_
  refine L_pu (P_assign (vi (left - (a.length : Int))) rfl) ?_
  refine L_nil ?_
  refine W_seq ?_
  refine W_seq ?_
  refine W_reg ?_
  refine L_pu (P_move (vi (left - (a.length : Int))) rfl) ?_
  refine L_pu (P_cmp (left - (a.length : Int)) 0 (decide (left - (a.length : Int) < 0)) rfl rfl rfl) ?_
  refine L_nil ?_
  refine W_cond (decide (left - (a.length : Int) < 0)) rfl (fun hq9 => ?_) (fun hq9 => ?_)
  · have H := ite_t H hq9
    refine W_seq ?_
    refine W_reg ?_
    refine L_pu (P_assign (vi (-1)) rfl) ?_
    refine L_nil ?_
    refine W_ret ?_
    exact ⟨[vi (-1)], ⟨_, rfl, rfl⟩, (-1), rfl, H, hc0.gr⟩
  · have H := ite_f H hq9
    refine W_skip ?_
    refine W_seq ?_
    refine W_seq ?_
    refine W_reg ?_
    refine L_pu (P_assign (vi 0) rfl) ?_
    refine L_nil ?_
    refine W_block ?_
    obtain ⟨I22, mu23, hI24, H⟩ := H
    refine W_loop (α := Int × Int) (fun (sv__ : Int × Int) t w18 => match sv__ with | (left3, i2) => I22 left3 i2 ∧ Has t [(0, .slice A1 n2 c3), (1, vi left3), (5, vi i2)] ∧ Ct none w0 w18 [] O ∧ Sl kFeat w18 (Fr ([] ++ O)) (.slice A1 n2 c3) a) (fun (sv__ : Int × Int) => match sv__ with | (left3, i2) => mu23 left3 i2) (left - (a.length : Int), 0) ⟨hI24, ⟨rfl, rfl, rfl, trivial⟩, hc0, hp4⟩ ?_
    rintro ⟨left3, i2⟩ _ w18 ⟨hI24, hh26, hc20, h21⟩
    obtain ⟨u27, rfl⟩ := Has.ins hh26
    have H := H left3 i2 hI24
    refine W_seq ?_
    refine W_seq ?_
    refine W_reg ?_
    refine L_pu (P_move (vi i2) rfl) ?_
    refine L_pu (P_move (.slice A1 n2 c3) rfl) ?_
    have hl28 := h21.le
    refine L_pu (P_len Try.underlying124 A1 n2 c3 h21.len rfl) ?_
    refine L_pu (P_cmp i2 (a.length : Int) (decide (i2 < (a.length : Int))) rfl rfl rfl) ?_
    refine L_nil ?_
    refine W_cond (decide (i2 < (a.length : Int))) rfl (fun hq29 => ?_) (fun hq29 => ?_)
    · have H := ite_t H hq29
      refine W_skip ?_
      refine W_seq ?_
      refine W_block ?_
      refine W_seq ?_
      refine W_reg ?_
      refine L_pu (P_move (.slice A1 n2 c3) rfl) ?_
      refine L_pu (P_move (vi i2) rfl) ?_
      obtain ⟨hb30, H⟩ := H
      obtain ⟨ad31, cs32, hA33, hS36, hR34, hcl35⟩ := h21.get default (by decide) i2 hb30
      obtain ⟨A38, n39, c40, A43, n44, c45, rfl, hs37, h41, h46⟩ := kFeat.op hR34
      refine L_pu (P_ia Try.underlying124 se124 A1 ad31 n2 c3 h21.len i2 rfl hA33 rfl hb30) ?_
      refine L_pu (P_lda ag71 sz71 cL (ad31.add (i2.toNat * 4)) [vs ((nth a i2).Id), vi ((nth a i2).Shape.Kind), .slice A38 n39 c40, .slice A43 n44 c45] rfl rfl hcl35) ?_
      refine L_pu (P_move (vi left3) rfl) ?_
      refine L_call go74 [.agg #[vs ((nth a i2).Id), vi ((nth a i2).Shape.Kind), .slice A38 n39 c40, .slice A43 n44 c45], vi left3] rfl ((laws_szFeat.calls w18 hc20.ok (nth a i2) A38 n39 c40 A43 n44 c45 hs37 h41 h46 left3 _ H).mono ?_)
      rintro _ w48 ⟨r, rfl, H, g49⟩
      have hc53 := hc20.k0 g49
      refine L_pu (P_assign (vi r) rfl) ?_
      refine L_nil ?_
      refine W_seq ?_
      refine W_reg ?_
      refine L_pu (P_move (vi r) rfl) ?_
      refine L_pu (P_cmp r 0 (decide (r < 0)) rfl rfl rfl) ?_
      refine L_nil ?_
      refine W_cond (decide (r < 0)) rfl (fun hq54 => ?_) (fun hq54 => ?_)
      · have H := ite_t H hq54
        refine W_seq ?_
        refine W_reg ?_
        refine L_pu (P_assign (vi (-1)) rfl) ?_
        refine L_nil ?_
        refine W_ret ?_
        exact ⟨[vi (-1)], ⟨_, rfl, rfl⟩, (-1), rfl, H, hc53.gr⟩
      · have H := ite_f H hq54
        refine W_skip ?_
        refine W_reg ?_
        refine L_pu (P_move (vi i2) rfl) ?_
        obtain ⟨hb56, H⟩ := H
        have hi55 : I64 (i2 + 1) := i64_succ (of_decide_eq_true hq29) hl28 hb56
        refine L_pu (P_add i2 1 rfl rfl hi55) ?_
        refine L_pu (P_assign (vi (i2 + 1)) rfl) ?_
        refine L_nil ?_
        obtain ⟨hI57, hm58⟩ := H
        exact ⟨(r, i2 + 1), hm58, hI57, ⟨rfl, rfl, rfl, trivial⟩, hc53, (h21.st (.new _ g49))⟩
    · have H := ite_f H hq29
      refine W_exit (xin_hit ?_)
      refine W_seq ?_
      refine W_reg ?_
      refine L_pu (P_move (vi left3) rfl) ?_
      refine L_pu (P_assign (vi left3) rfl) ?_
      refine L_nil ?_
      refine W_ret ?_
      exact ⟨[vi left3], ⟨_, rfl, rfl⟩, left3, rfl, H, hc20.gr⟩
end Go.Proofs.Ythkeboifjlnjjaa

namespace Go.Proofs.Ythkeboifjlnjjaa
set_option linter.unusedVariables false
set_option linter.unusedSimpArgs false
set_option linter.unusedSectionVars false
theorem laws_szFeatS.law (a : List Feat) (left : Int) (Q : Int → Prop) (h0 : 0 ≤ left) (h1 : left ≤ 1048576) (hn : left - (bulk a : Nat) < 0 → Q (-1)) (hp : 0 ≤ left - (bulk a : Nat) → Q (left - (bulk a : Nat))) : laws_szFeatS.E a left Q := by
  unfold laws_szFeatS.E
  exact szS_shape laws_szFeat.E (fun x l Q => laws_szFeat.law x l Q) a left Q h0 h1 hn hp
end Go.Proofs.Ythkeboifjlnjjaa

namespace Go.Proofs.Ythkeboifjlnjjaa
open Go.RowKit
set_option linter.unusedVariables false
def laws_szCommit.E (a : Commit) (left : Int) (Q : Int → Prop) : Prop :=
  laws_szIntS.E a.Up left (fun r => (if decide (r < 0) then Q (-1) else laws_szFeatS.E a.Sheet r (fun r2 => (if decide (r2 < 0) then Q (-1) else ((a.Note.length : Int) ≤ 9223372036854775807 → I64 (r2 - (a.Note.length : Int))) ∧ (if decide (r2 - (a.Note.length : Int) < 0) then Q (-1) else Q (r2 - (a.Note.length : Int)))))))
set_option maxHeartbeats 8000000 in
set_option maxRecDepth 100000 in
theorem laws_szCommit.calls {O : Ob} (w0 : World) (hO : Ok w0 O) (a : Commit) (A1 : Option Addr) (n2 c3 : Nat) (A6 : Option Addr) (n7 c8 : Nat) (hp4 : Sl (Kd.int .i64) w0 (Fr O) (.slice A1 n2 c3) a.Up) (hp9 : Sl kFeat w0 (Fr O) (.slice A6 n7 c8) a.Sheet) (hs11 : Lim a.Note) (left : Int) (Q : Int → Prop) (h : laws_szCommit.E a left Q) :
    Ret Try.prog 82 [.agg #[.slice A1 n2 c3, .slice A6 n7 c8, vs a.Note], vi left] w0 (fun v w' => ∃ (r0 : Int), v = vi r0 ∧ Q r0 ∧ Gr w0 w' none) := by
  have H : laws_szIntS.E a.Up left (fun r => (if decide (r < 0) then Q (-1) else laws_szFeatS.E a.Sheet r (fun r2 => (if decide (r2 < 0) then Q (-1) else ((a.Note.length : Int) ≤ 9223372036854775807 → I64 (r2 - (a.Note.length : Int))) ∧ (if decide (r2 - (a.Note.length : Int) < 0) then Q (-1) else Q (r2 - (a.Note.length : Int))))))) := h
  clear h
  have hc0 := Ct.init hO
  refine Ret_enter Try.func82 rfl 25 rfl [.tmp 4] rfl rfl ?_
  refine W_seq ?_
  refine W_reg ?_
  refine L_box [.slice A1 n2 c3, .slice A6 n7 c8, vs a.Note] rfl fun w12 b13 hl15 hu16 g14 hx17 => ?_
  have h19 := Fb.mk hc0.ok hl15 hx17
  have hc20 := hc0.k0 g14
  refine L_pu (P_assign (vi 0) rfl) ?_
  refine L_nil ?_
  refine W_seq ?_
  refine W_reg ?_
  refine L_pu (P_fa fa126_0 ⟨b13, 0, none⟩ ⟨b13, 0, none⟩ rfl rfl) ?_
  refine L_pu (P_ld ag90 cL ⟨b13, 0, none⟩ (.slice A1 n2 c3) rfl (h19.cell rfl)) ?_
  refine L_pu (P_move (vi left) rfl) ?_
  refine L_call go112 [.slice A1 n2 c3, vi left] rfl ((laws_szIntS.calls w12 hc20.ok a.Up A1 n2 c3 (hp4.st hc20.st) left _ H).mono ?_)
  rintro _ w21 ⟨r, rfl, H, g22, _⟩
  have hc26 := hc20.k0 g22
  refine L_pu (P_assign (vi r) rfl) ?_
  refine L_nil ?_
  refine W_seq ?_
  refine W_seq ?_
  refine W_reg ?_
  refine L_pu (P_move (vi r) rfl) ?_
  refine L_pu (P_cmp r 0 (decide (r < 0)) rfl rfl rfl) ?_
  refine L_nil ?_
  refine W_cond (decide (r < 0)) rfl (fun hq27 => ?_) (fun hq27 => ?_)
  · have H := ite_t H hq27
    refine W_seq ?_
    refine W_reg ?_
    refine L_pu (P_assign (vi (-1)) rfl) ?_
    refine L_nil ?_
    refine W_ret ?_
    exact ⟨[vi (-1)], ⟨_, rfl, rfl⟩, (-1), rfl, H, hc26.gr⟩
  · have H := ite_f H hq27
    refine W_skip ?_
    refine W_seq ?_
    refine W_reg ?_
    refine L_pu (P_fa fa126_1 ⟨b13, 0, none⟩ ⟨b13, 1, none⟩ rfl rfl) ?_
    have h28 := (h19.st (.new _ g22))
    refine L_pu (P_ld ag124 cL ⟨b13, 1, none⟩ (.slice A6 n7 c8) rfl (h28.cell rfl)) ?_
    refine L_pu (P_move (vi r) rfl) ?_
    refine L_call go113 [.slice A6 n7 c8, vi r] rfl ((laws_szFeatS.calls w21 hc26.ok a.Sheet A6 n7 c8 (hp9.st hc26.st) r _ H).mono ?_)
    rintro _ w29 ⟨r2, rfl, H, g30⟩
    have hc34 := hc26.k0 g30
    refine L_pu (P_assign (vi r2) rfl) ?_
    refine L_nil ?_
    refine W_seq ?_
    refine W_seq ?_
    refine W_reg ?_
    refine L_pu (P_move (vi r2) rfl) ?_
    refine L_pu (P_cmp r2 0 (decide (r2 < 0)) rfl rfl rfl) ?_
    refine L_nil ?_
    refine W_cond (decide (r2 < 0)) rfl (fun hq35 => ?_) (fun hq35 => ?_)
    · have H := ite_t H hq35
      refine W_seq ?_
      refine W_reg ?_
      refine L_pu (P_assign (vi (-1)) rfl) ?_
      refine L_nil ?_
      refine W_ret ?_
      exact ⟨[vi (-1)], ⟨_, rfl, rfl⟩, (-1), rfl, H, hc34.gr⟩
    · have H := ite_f H hq35
      refine W_skip ?_
      refine W_seq ?_
      refine W_reg ?_
      refine L_pu (P_move (vi r2) rfl) ?_
      refine L_pu (P_fa fa126_2 ⟨b13, 0, none⟩ ⟨b13, 2, none⟩ rfl rfl) ?_
      have h36 := (h28.st (.new _ g30))
      refine L_pu (P_ld ag9 cL ⟨b13, 2, none⟩ (vs a.Note) rfl (h36.cell rfl)) ?_
      have hl37 := hs11
      refine L_pu (P_lens Try.underlying9 a.Note rfl) ?_
      obtain ⟨hb38, H⟩ := H
      have hi39 := hb38 (len_le hl37)
      refine L_pu (P_sub r2 (a.Note.length : Int) rfl rfl hi39) ?_
      refine L_pu (P_assign (vi (r2 - (a.Note.length : Int))) rfl) ?_
      refine L_nil ?_
      refine W_seq ?_
      refine W_seq ?_
      refine W_reg ?_
      refine L_pu (P_move (vi (r2 - (a.Note.length : Int))) rfl) ?_
      refine L_pu (P_cmp (r2 - (a.Note.length : Int)) 0 (decide (r2 - (a.Note.length : Int) < 0)) rfl rfl rfl) ?_
      refine L_nil ?_
      refine W_cond (decide (r2 - (a.Note.length : Int) < 0)) rfl (fun hq40 => ?_) (fun hq40 => ?_)
      · have H := ite_t H hq40
        refine W_seq ?_
        refine W_reg ?_
        refine L_pu (P_assign (vi (-1)) rfl) ?_
        refine L_nil ?_
        refine W_ret ?_
        exact ⟨[vi (-1)], ⟨_, rfl, rfl⟩, (-1), rfl, H, hc34.gr⟩
      · have H := ite_f H hq40
        refine W_skip ?_
        refine W_seq ?_
        refine W_reg ?_
        refine L_pu (P_move (vi (r2 - (a.Note.length : Int))) rfl) ?_
        refine L_pu (P_assign (vi (r2 - (a.Note.length : Int))) rfl) ?_
        refine L_nil ?_
        refine W_ret ?_
        exact ⟨[vi (r2 - (a.Note.length : Int))], ⟨_, rfl, rfl⟩, r2 - (a.Note.length : Int), rfl, H, hc34.gr⟩
end Go.Proofs.Ythkeboifjlnjjaa

namespace Go.Proofs.Ythkeboifjlnjjaa
set_option linter.unusedVariables false
set_option linter.unusedSimpArgs false
set_option linter.unusedSectionVars false
theorem laws_szCommit.law (a : Commit) (left : Int) (Q : Int → Prop) (h0 : 0 ≤ left) (h1 : left ≤ 1048576) (hn : left - (bulk a : Nat) < 0 → Q (-1)) (hp : 0 ≤ left - (bulk a : Nat) → Q (left - (bulk a : Nat))) : laws_szCommit.E a left Q := by
  have hb : bulk a = bulk a.Up + bulk a.Sheet + bulk a.Note := rfl
  have hzNote : bulk a.Note = a.Note.length := bulk_str _
  unfold laws_szCommit.E
  refine laws_szIntS.law _ _ _ (by omega) (by omega) (fun h => ?_) (fun h0 => ?_)
  · rw [if_pos (by decide)]; exact hn (by omega)
  rw [if_neg (by rw [decide_eq_false (by omega)]; exact Bool.false_ne_true)]
  refine laws_szFeatS.law _ _ _ (by omega) (by omega) (fun h => ?_) (fun h1 => ?_)
  · rw [if_pos (by decide)]; exact hn (by omega)
  rw [if_neg (by rw [decide_eq_false (by omega)]; exact Bool.false_ne_true)]
  refine ⟨by intros; unfold I64; omega, ?_⟩
  split
  · rename_i hc; simp only [decide_eq_true_eq] at hc; exact hn (by omega)
  rename_i hc2; simp only [decide_eq_true_eq] at hc2
  exact cast (congrArg Q (by omega)) (hp (by omega))
end Go.Proofs.Ythkeboifjlnjjaa

namespace Go.Proofs.Ythkeboifjlnjjaa
open Go.RowKit
set_option linter.unusedVariables false
def laws_szCommitS.E (a : List Commit) (left : Int) (Q : Int → Prop) : Prop :=
  ((a.length : Int) ≤ 9223372036854775807 → I64 (left - (a.length : Int))) ∧ (if decide (left - (a.length : Int) < 0) then Q (-1) else (∃ (I22 : Int → Int → Prop) (mu23 : Int → Int → Nat), I22 (left - (a.length : Int)) 0 ∧ ∀ (left3 : Int) (i2 : Int), I22 left3 i2 → (if decide (i2 < (a.length : Int)) then ((0 : Int) ≤ i2 ∧ i2 < (a.length : Int)) ∧ laws_szCommit.E (nth a i2) left3 (fun r => (if decide (r < 0) then Q (-1) else (-9223372036854775808 ≤ i2) ∧ I22 r (i2 + 1) ∧ mu23 r (i2 + 1) < mu23 left3 i2)) else Q left3)))
set_option maxHeartbeats 8000000 in
set_option maxRecDepth 100000 in
theorem laws_szCommitS.calls {O : Ob} (w0 : World) (hO : Ok w0 O) (a : List Commit) (A1 : Option Addr) (n2 c3 : Nat) (hp4 : Sl kCommit w0 (Fr O) (.slice A1 n2 c3) a) (left : Int) (Q : Int → Prop) (h : laws_szCommitS.E a left Q) :
    Ret Try.prog 45 [.slice A1 n2 c3, vi left] w0 (fun v w' => ∃ (r0 : Int), v = vi r0 ∧ Q r0 ∧ Gr w0 w' none) := by
  have H : ((a.length : Int) ≤ 9223372036854775807 → I64 (left - (a.length : Int))) ∧ (if decide (left - (a.length : Int) < 0) then Q (-1) else (∃ (I22 : Int → Int → Prop) (mu23 : Int → Int → Nat), I22 (left - (a.length : Int)) 0 ∧ ∀ (left3 : Int) (i2 : Int), I22 left3 i2 → (if decide (i2 < (a.length : Int)) then ((0 : Int) ≤ i2 ∧ i2 < (a.length : Int)) ∧ laws_szCommit.E (nth a i2) left3 (fun r => (if decide (r < 0) then Q (-1) else (-9223372036854775808 ≤ i2) ∧ I22 r (i2 + 1) ∧ mu23 r (i2 + 1) < mu23 left3 i2)) else Q left3))) := h
  clear h
  have hc0 := Ct.init hO
  refine Ret_enter Try.func45 rfl 27 rfl [.tmp 4] rfl rfl ?_
  refine W_seq ?_
  refine W_reg ?_
  refine L_pu (P_assign (vi 0) rfl) ?_
  refine L_nil ?_
  refine W_seq ?_
  refine W_reg ?_
  refine L_pu (P_move (vi left) rfl) ?_
  refine L_pu (P_move (.slice A1 n2 c3) rfl) ?_
  have hl6 := hp4.le
  refine L_pu (P_len Try.underlying37 A1 n2 c3 hp4.len rfl) ?_
  obtain ⟨hb7, H⟩ := H
  have hi8 := hb7 (len_le hl6)
  refine L_pu (P_sub left (a.length : Int) rfl rfl hi8) ?_
  refine L_pu (P_assign (vi (left - (a.length : Int))) rfl) ?_
  refine L_nil ?_
  refine W_seq ?_
  refine W_seq ?_
  refine W_reg ?_
  refine L_pu (P_move (vi (left - (a.length : Int))) rfl) ?_
  refine L_pu (P_cmp (left - (a.length : Int)) 0 (decide (left - (a.length : Int) < 0)) rfl rfl rfl) ?_
  refine L_nil ?_
  refine W_cond (decide (left - (a.length : Int) < 0)) rfl (fun hq9 => ?_) (fun hq9 => ?_)
  · have H := ite_t H hq9
    refine W_seq ?_
    refine W_reg ?_
    refine L_pu (P_assign (vi (-1)) rfl) ?_
    refine L_nil ?_
    refine W_ret ?_
    exact ⟨[vi (-1)], ⟨_, rfl, rfl⟩, (-1), rfl, H, hc0.gr⟩
  · have H := ite_f H hq9
    refine W_skip ?_
    refine W_seq ?_
    refine W_seq ?_
    refine W_reg ?_
    refine L_pu (P_assign (vi 0) rfl) ?_
    refine L_nil ?_
    refine W_block ?_
    obtain ⟨I22, mu23, hI24, H⟩ := H
    refine W_loop (α := Int × Int) (fun (sv__ : Int × Int) t w18 => match sv__ with | (left3, i2) => I22 left3 i2 ∧ Has t [(0, .slice A1 n2 c3), (1, vi left3), (5, vi i2)] ∧ Ct none w0 w18 [] O ∧ Sl kCommit w18 (Fr ([] ++ O)) (.slice A1 n2 c3) a) (fun (sv__ : Int × Int) => match sv__ with | (left3, i2) => mu23 left3 i2) (left - (a.length : Int), 0) ⟨hI24, ⟨rfl, rfl, rfl, trivial⟩, hc0, hp4⟩ ?_
    rintro ⟨left3, i2⟩ _ w18 ⟨hI24, hh26, hc20, h21⟩
    obtain ⟨u27, rfl⟩ := Has.ins hh26
    have H := H left3 i2 hI24
    refine W_seq ?_
    refine W_seq ?_
    refine W_reg ?_
    refine L_pu (P_move (vi i2) rfl) ?_
    refine L_pu (P_move (.slice A1 n2 c3) rfl) ?_
    have hl28 := h21.le
    refine L_pu (P_len Try.underlying37 A1 n2 c3 h21.len rfl) ?_
    refine L_pu (P_cmp i2 (a.length : Int) (decide (i2 < (a.length : Int))) rfl rfl rfl) ?_
    refine L_nil ?_
    refine W_cond (decide (i2 < (a.length : Int))) rfl (fun hq29 => ?_) (fun hq29 => ?_)
    · have H := ite_t H hq29
      refine W_skip ?_
      refine W_seq ?_
      refine W_block ?_
      refine W_seq ?_
      refine W_reg ?_
      refine L_pu (P_move (.slice A1 n2 c3) rfl) ?_
      refine L_pu (P_move (vi i2) rfl) ?_
      obtain ⟨hb30, H⟩ := H
      obtain ⟨ad31, cs32, hA33, hS36, hR34, hcl35⟩ := h21.get default (by decide) i2 hb30
      obtain ⟨A37, n38, c39, A42, n43, c44, rfl, h40, h45, hs47⟩ := kCommit.op hR34
      refine L_pu (P_ia Try.underlying37 se37 A1 ad31 n2 c3 h21.len i2 rfl hA33 rfl hb30) ?_
      refine L_pu (P_lda ag126 sz126 cL (ad31.add (i2.toNat * 3)) [.slice A37 n38 c39, .slice A42 n43 c44, vs ((nth a i2).Note)] rfl rfl hcl35) ?_
      refine L_pu (P_move (vi left3) rfl) ?_
      refine L_call go82 [.agg #[.slice A37 n38 c39, .slice A42 n43 c44, vs ((nth a i2).Note)], vi left3] rfl ((laws_szCommit.calls w18 hc20.ok (nth a i2) A37 n38 c39 A42 n43 c44 h40 h45 hs47 left3 _ H).mono ?_)
      rintro _ w48 ⟨r, rfl, H, g49⟩
      have hc53 := hc20.k0 g49
      refine L_pu (P_assign (vi r) rfl) ?_
      refine L_nil ?_
      refine W_seq ?_
      refine W_reg ?_
      refine L_pu (P_move (vi r) rfl) ?_
      refine L_pu (P_cmp r 0 (decide (r < 0)) rfl rfl rfl) ?_
      refine L_nil ?_
      refine W_cond (decide (r < 0)) rfl (fun hq54 => ?_) (fun hq54 => ?_)
      · have H := ite_t H hq54
        refine W_seq ?_
        refine W_reg ?_
        refine L_pu (P_assign (vi (-1)) rfl) ?_
        refine L_nil ?_
        refine W_ret ?_
        exact ⟨[vi (-1)], ⟨_, rfl, rfl⟩, (-1), rfl, H, hc53.gr⟩
      · have H := ite_f H hq54
        refine W_skip ?_
        refine W_reg ?_
        refine L_pu (P_move (vi i2) rfl) ?_
        obtain ⟨hb56, H⟩ := H
        have hi55 : I64 (i2 + 1) := i64_succ (of_decide_eq_true hq29) hl28 hb56
        refine L_pu (P_add i2 1 rfl rfl hi55) ?_
        refine L_pu (P_assign (vi (i2 + 1)) rfl) ?_
        refine L_nil ?_
        obtain ⟨hI57, hm58⟩ := H
        exact ⟨(r, i2 + 1), hm58, hI57, ⟨rfl, rfl, rfl, trivial⟩, hc53, (h21.st (.new _ g49))⟩
    · have H := ite_f H hq29
      refine W_exit (xin_hit ?_)
      refine W_seq ?_
      refine W_reg ?_
      refine L_pu (P_move (vi left3) rfl) ?_
      refine L_pu (P_assign (vi left3) rfl) ?_
      refine L_nil ?_
      refine W_ret ?_
      exact ⟨[vi left3], ⟨_, rfl, rfl⟩, left3, rfl, H, hc20.gr⟩
end Go.Proofs.Ythkeboifjlnjjaa

namespace Go.Proofs.Ythkeboifjlnjjaa
set_option linter.unusedVariables false
set_option linter.unusedSimpArgs false
set_option linter.unusedSectionVars false
theorem laws_szCommitS.law (a : List Commit) (left : Int) (Q : Int → Prop) (h0 : 0 ≤ left) (h1 : left ≤ 1048576) (hn : left - (bulk a : Nat) < 0 → Q (-1)) (hp : 0 ≤ left - (bulk a : Nat) → Q (left - (bulk a : Nat))) : laws_szCommitS.E a left Q := by
  unfold laws_szCommitS.E
  exact szS_shape laws_szCommit.E (fun x l Q => laws_szCommit.law x l Q) a left Q h0 h1 hn hp
end Go.Proofs.Ythkeboifjlnjjaa

namespace Go.Proofs.Ythkeboifjlnjjaa
open Go.RowKit
set_option linter.unusedVariables false
def laws_szHead.E (a : Head) (left : Int) (Q : Int → Prop) : Prop :=
  ((a.Name.length : Int) ≤ 9223372036854775807 → I64 (left - (a.Name.length : Int))) ∧ (if decide (left - (a.Name.length : Int) < 0) then Q (-1) else Q (left - (a.Name.length : Int)))
set_option maxHeartbeats 8000000 in
set_option maxRecDepth 100000 in
theorem laws_szHead.calls {O : Ob} (w0 : World) (hO : Ok w0 O) (a : Head) (hs1 : Lim a.Name) (left : Int) (Q : Int → Prop) (h : laws_szHead.E a left Q) :
    Ret Try.prog 83 [.agg #[vs a.Name, vi a.At], vi left] w0 (fun v w' => ∃ (r0 : Int), v = vi r0 ∧ Q r0 ∧ Gr w0 w' none) := by
  have H : ((a.Name.length : Int) ≤ 9223372036854775807 → I64 (left - (a.Name.length : Int))) ∧ (if decide (left - (a.Name.length : Int) < 0) then Q (-1) else Q (left - (a.Name.length : Int))) := h
  clear h
  have hc0 := Ct.init hO
  refine Ret_enter Try.func83 rfl 13 rfl [.tmp 4] rfl rfl ?_
  refine W_seq ?_
  refine W_reg ?_
  refine L_box [vs a.Name, vi a.At] rfl fun w2 b3 hl5 hu6 g4 hx7 => ?_
  have h9 := Fb.mk hc0.ok hl5 hx7
  have hc10 := hc0.k0 g4
  refine L_pu (P_assign (vi 0) rfl) ?_
  refine L_nil ?_
  refine W_seq ?_
  refine W_reg ?_
  refine L_pu (P_move (vi left) rfl) ?_
  refine L_pu (P_fa fa128_0 ⟨b3, 0, none⟩ ⟨b3, 0, none⟩ rfl rfl) ?_
  refine L_pu (P_ld ag9 cL ⟨b3, 0, none⟩ (vs a.Name) rfl (h9.cell rfl)) ?_
  have hl11 := hs1
  refine L_pu (P_lens Try.underlying9 a.Name rfl) ?_
  obtain ⟨hb12, H⟩ := H
  have hi13 := hb12 (len_le hl11)
  refine L_pu (P_sub left (a.Name.length : Int) rfl rfl hi13) ?_
  refine L_pu (P_assign (vi (left - (a.Name.length : Int))) rfl) ?_
  refine L_nil ?_
  refine W_seq ?_
  refine W_seq ?_
  refine W_reg ?_
  refine L_pu (P_move (vi (left - (a.Name.length : Int))) rfl) ?_
  refine L_pu (P_cmp (left - (a.Name.length : Int)) 0 (decide (left - (a.Name.length : Int) < 0)) rfl rfl rfl) ?_
  refine L_nil ?_
  refine W_cond (decide (left - (a.Name.length : Int) < 0)) rfl (fun hq14 => ?_) (fun hq14 => ?_)
  · have H := ite_t H hq14
    refine W_seq ?_
    refine W_reg ?_
    refine L_pu (P_assign (vi (-1)) rfl) ?_
    refine L_nil ?_
    refine W_ret ?_
    exact ⟨[vi (-1)], ⟨_, rfl, rfl⟩, (-1), rfl, H, hc10.gr⟩
  · have H := ite_f H hq14
    refine W_skip ?_
    refine W_seq ?_
    refine W_reg ?_
    refine L_pu (P_move (vi (left - (a.Name.length : Int))) rfl) ?_
    refine L_pu (P_assign (vi (left - (a.Name.length : Int))) rfl) ?_
    refine L_nil ?_
    refine W_ret ?_
    exact ⟨[vi (left - (a.Name.length : Int))], ⟨_, rfl, rfl⟩, left - (a.Name.length : Int), rfl, H, hc10.gr⟩
end Go.Proofs.Ythkeboifjlnjjaa

namespace Go.Proofs.Ythkeboifjlnjjaa
set_option linter.unusedVariables false
set_option linter.unusedSimpArgs false
set_option linter.unusedSectionVars false
theorem laws_szHead.law (a : Head) (left : Int) (Q : Int → Prop) (h0 : 0 ≤ left) (h1 : left ≤ 1048576) (hn : left - (bulk a : Nat) < 0 → Q (-1)) (hp : 0 ≤ left - (bulk a : Nat) → Q (left - (bulk a : Nat))) : laws_szHead.E a left Q := by
  have hb : bulk a = bulk a.Name + bulk a.At := rfl
  have hzName : bulk a.Name = a.Name.length := bulk_str _
  have hzAt : bulk a.At = 0 := rfl
  unfold laws_szHead.E
  refine ⟨by intros; unfold I64; omega, ?_⟩
  split
  · rename_i hc; simp only [decide_eq_true_eq] at hc; exact hn (by omega)
  rename_i hc0; simp only [decide_eq_true_eq] at hc0
  exact cast (congrArg Q (by omega)) (hp (by omega))
end Go.Proofs.Ythkeboifjlnjjaa

namespace Go.Proofs.Ythkeboifjlnjjaa
open Go.RowKit
set_option linter.unusedVariables false
def laws_szHeadS.E (a : List Head) (left : Int) (Q : Int → Prop) : Prop :=
  ((a.length : Int) ≤ 9223372036854775807 → I64 (left - (a.length : Int))) ∧ (if decide (left - (a.length : Int) < 0) then Q (-1) else (∃ (I22 : Int → Int → Prop) (mu23 : Int → Int → Nat), I22 (left - (a.length : Int)) 0 ∧ ∀ (left3 : Int) (i2 : Int), I22 left3 i2 → (if decide (i2 < (a.length : Int)) then ((0 : Int) ≤ i2 ∧ i2 < (a.length : Int)) ∧ laws_szHead.E (nth a i2) left3 (fun r => (if decide (r < 0) then Q (-1) else (-9223372036854775808 ≤ i2) ∧ I22 r (i2 + 1) ∧ mu23 r (i2 + 1) < mu23 left3 i2)) else Q left3)))
set_option maxHeartbeats 8000000 in
set_option maxRecDepth 100000 in
theorem laws_szHeadS.calls {O : Ob} (w0 : World) (hO : Ok w0 O) (a : List Head) (A1 : Option Addr) (n2 c3 : Nat) (hp4 : Sl kHead w0 (Fr O) (.slice A1 n2 c3) a) (left : Int) (Q : Int → Prop) (h : laws_szHeadS.E a left Q) :
    Ret Try.prog 46 [.slice A1 n2 c3, vi left] w0 (fun v w' => ∃ (r0 : Int), v = vi r0 ∧ Q r0 ∧ Gr w0 w' none) := by
  have H : ((a.length : Int) ≤ 9223372036854775807 → I64 (left - (a.length : Int))) ∧ (if decide (left - (a.length : Int) < 0) then Q (-1) else (∃ (I22 : Int → Int → Prop) (mu23 : Int → Int → Nat), I22 (left - (a.length : Int)) 0 ∧ ∀ (left3 : Int) (i2 : Int), I22 left3 i2 → (if decide (i2 < (a.length : Int)) then ((0 : Int) ≤ i2 ∧ i2 < (a.length : Int)) ∧ laws_szHead.E (nth a i2) left3 (fun r => (if decide (r < 0) then Q (-1) else (-9223372036854775808 ≤ i2) ∧ I22 r (i2 + 1) ∧ mu23 r (i2 + 1) < mu23 left3 i2)) else Q left3))) := h
  clear h
  have hc0 := Ct.init hO
  refine Ret_enter Try.func46 rfl 27 rfl [.tmp 4] rfl rfl ?_
  refine W_seq ?_
  refine W_reg ?_
  refine L_pu (P_assign (vi 0) rfl) ?_
  refine L_nil ?_
  refine W_seq ?_
  refine W_reg ?_
  refine L_pu (P_move (vi left) rfl) ?_
  refine L_pu (P_move (.slice A1 n2 c3) rfl) ?_
  have hl6 := hp4.le
  refine L_pu (P_len Try.underlying38 A1 n2 c3 hp4.len rfl) ?_
  obtain ⟨hb7, H⟩ := H
  have hi8 := hb7 (len_le hl6)
  refine L_pu (P_sub left (a.length : Int) rfl rfl hi8) ?_
  refine L_pu (P_assign (vi (left - (a.length : Int))) rfl) ?_
  refine L_nil ?_
  refine W_seq ?_
  refine W_seq ?_
  refine W_reg ?_
  refine L_pu (P_move (vi (left - (a.length : Int))) rfl) ?_
  refine L_pu (P_cmp (left - (a.length : Int)) 0 (decide (left - (a.length : Int) < 0)) rfl rfl rfl) ?_
  refine L_nil ?_
  refine W_cond (decide (left - (a.length : Int) < 0)) rfl (fun hq9 => ?_) (fun hq9 => ?_)
  · have H := ite_t H hq9
    refine W_seq ?_
    refine W_reg ?_
    refine L_pu (P_assign (vi (-1)) rfl) ?_
    refine L_nil ?_
    refine W_ret ?_
    exact ⟨[vi (-1)], ⟨_, rfl, rfl⟩, (-1), rfl, H, hc0.gr⟩
  · have H := ite_f H hq9
    refine W_skip ?_
    refine W_seq ?_
    refine W_seq ?_
    refine W_reg ?_
    refine L_pu (P_assign (vi 0) rfl) ?_
    refine L_nil ?_
    refine W_block ?_
    obtain ⟨I22, mu23, hI24, H⟩ := H
    refine W_loop (α := Int × Int) (fun (sv__ : Int × Int) t w18 => match sv__ with | (left3, i2) => I22 left3 i2 ∧ Has t [(0, .slice A1 n2 c3), (1, vi left3), (5, vi i2)] ∧ Ct none w0 w18 [] O ∧ Sl kHead w18 (Fr ([] ++ O)) (.slice A1 n2 c3) a) (fun (sv__ : Int × Int) => match sv__ with | (left3, i2) => mu23 left3 i2) (left - (a.length : Int), 0) ⟨hI24, ⟨rfl, rfl, rfl, trivial⟩, hc0, hp4⟩ ?_
    rintro ⟨left3, i2⟩ _ w18 ⟨hI24, hh26, hc20, h21⟩
    obtain ⟨u27, rfl⟩ := Has.ins hh26
    have H := H left3 i2 hI24
    refine W_seq ?_
    refine W_seq ?_
    refine W_reg ?_
    refine L_pu (P_move (vi i2) rfl) ?_
    refine L_pu (P_move (.slice A1 n2 c3) rfl) ?_
    have hl28 := h21.le
    refine L_pu (P_len Try.underlying38 A1 n2 c3 h21.len rfl) ?_
    refine L_pu (P_cmp i2 (a.length : Int) (decide (i2 < (a.length : Int))) rfl rfl rfl) ?_
    refine L_nil ?_
    refine W_cond (decide (i2 < (a.length : Int))) rfl (fun hq29 => ?_) (fun hq29 => ?_)
    · have H := ite_t H hq29
      refine W_skip ?_
      refine W_seq ?_
      refine W_block ?_
      refine W_seq ?_
      refine W_reg ?_
      refine L_pu (P_move (.slice A1 n2 c3) rfl) ?_
      refine L_pu (P_move (vi i2) rfl) ?_
      obtain ⟨hb30, H⟩ := H
      obtain ⟨ad31, cs32, hA33, hS36, hR34, hcl35⟩ := h21.get default (by decide) i2 hb30
      obtain ⟨rfl, hs37⟩ := kHead.op hR34
      refine L_pu (P_ia Try.underlying38 se38 A1 ad31 n2 c3 h21.len i2 rfl hA33 rfl hb30) ?_
      refine L_pu (P_lda ag128 sz128 cL (ad31.add (i2.toNat * 2)) [vs ((nth a i2).Name), vi ((nth a i2).At)] rfl rfl hcl35) ?_
      refine L_pu (P_move (vi left3) rfl) ?_
      refine L_call go83 [.agg #[vs ((nth a i2).Name), vi ((nth a i2).At)], vi left3] rfl ((laws_szHead.calls w18 hc20.ok (nth a i2) hs37 left3 _ H).mono ?_)
      rintro _ w38 ⟨r, rfl, H, g39⟩
      have hc43 := hc20.k0 g39
      refine L_pu (P_assign (vi r) rfl) ?_
      refine L_nil ?_
      refine W_seq ?_
      refine W_reg ?_
      refine L_pu (P_move (vi r) rfl) ?_
      refine L_pu (P_cmp r 0 (decide (r < 0)) rfl rfl rfl) ?_
      refine L_nil ?_
      refine W_cond (decide (r < 0)) rfl (fun hq44 => ?_) (fun hq44 => ?_)
      · have H := ite_t H hq44
        refine W_seq ?_
        refine W_reg ?_
        refine L_pu (P_assign (vi (-1)) rfl) ?_
        refine L_nil ?_
        refine W_ret ?_
        exact ⟨[vi (-1)], ⟨_, rfl, rfl⟩, (-1), rfl, H, hc43.gr⟩
      · have H := ite_f H hq44
        refine W_skip ?_
        refine W_reg ?_
        refine L_pu (P_move (vi i2) rfl) ?_
        obtain ⟨hb46, H⟩ := H
        have hi45 : I64 (i2 + 1) := i64_succ (of_decide_eq_true hq29) hl28 hb46
        refine L_pu (P_add i2 1 rfl rfl hi45) ?_
        refine L_pu (P_assign (vi (i2 + 1)) rfl) ?_
        refine L_nil ?_
        obtain ⟨hI47, hm48⟩ := H
        exact ⟨(r, i2 + 1), hm48, hI47, ⟨rfl, rfl, rfl, trivial⟩, hc43, (h21.st (.new _ g39))⟩
    · have H := ite_f H hq29
      refine W_exit (xin_hit ?_)
      refine W_seq ?_
      refine W_reg ?_
      refine L_pu (P_move (vi left3) rfl) ?_
      refine L_pu (P_assign (vi left3) rfl) ?_
      refine L_nil ?_
      refine W_ret ?_
      exact ⟨[vi left3], ⟨_, rfl, rfl⟩, left3, rfl, H, hc20.gr⟩
end Go.Proofs.Ythkeboifjlnjjaa

namespace Go.Proofs.Ythkeboifjlnjjaa
set_option linter.unusedVariables false
set_option linter.unusedSimpArgs false
set_option linter.unusedSectionVars false
theorem laws_szHeadS.law (a : List Head) (left : Int) (Q : Int → Prop) (h0 : 0 ≤ left) (h1 : left ≤ 1048576) (hn : left - (bulk a : Nat) < 0 → Q (-1)) (hp : 0 ≤ left - (bulk a : Nat) → Q (left - (bulk a : Nat))) : laws_szHeadS.E a left Q := by
  unfold laws_szHeadS.E
  exact szS_shape laws_szHead.E (fun x l Q => laws_szHead.law x l Q) a left Q h0 h1 hn hp
end Go.Proofs.Ythkeboifjlnjjaa

namespace Go.Proofs.Ythkeboifjlnjjaa
open Go.RowKit
set_option linter.unusedVariables false
def laws_szRepo.E (a : Repo) (left : Int) (Q : Int → Prop) : Prop :=
  laws_szCommitS.E a.Commits left (fun r => (if decide (r < 0) then Q (-1) else laws_szHeadS.E a.Heads r (fun r2 => (if decide (r2 < 0) then Q (-1) else Q r2))))
set_option maxHeartbeats 8000000 in
set_option maxRecDepth 100000 in
theorem laws_szRepo.calls {O : Ob} (w0 : World) (hO : Ok w0 O) (a : Repo) (A1 : Option Addr) (n2 c3 : Nat) (A6 : Option Addr) (n7 c8 : Nat) (hp4 : Sl kCommit w0 (Fr O) (.slice A1 n2 c3) a.Commits) (hp9 : Sl kHead w0 (Fr O) (.slice A6 n7 c8) a.Heads) (left : Int) (Q : Int → Prop) (h : laws_szRepo.E a left Q) :
    Ret Try.prog 18 [.agg #[.slice A1 n2 c3, .slice A6 n7 c8], vi left] w0 (fun v w' => ∃ (r0 : Int), v = vi r0 ∧ Q r0 ∧ Gr w0 w' none) := by
  have H : laws_szCommitS.E a.Commits left (fun r => (if decide (r < 0) then Q (-1) else laws_szHeadS.E a.Heads r (fun r2 => (if decide (r2 < 0) then Q (-1) else Q r2)))) := h
  clear h
  have hc0 := Ct.init hO
  refine Ret_enter Try.func18 rfl 18 rfl [.tmp 4] rfl rfl ?_
  refine W_seq ?_
  refine W_reg ?_
  refine L_box [.slice A1 n2 c3, .slice A6 n7 c8] rfl fun w11 b12 hl14 hu15 g13 hx16 => ?_
  have h18 := Fb.mk hc0.ok hl14 hx16
  have hc19 := hc0.k0 g13
  refine L_pu (P_assign (vi 0) rfl) ?_
  refine L_nil ?_
  refine W_seq ?_
  refine W_reg ?_
  refine L_pu (P_fa fa40_0 ⟨b12, 0, none⟩ ⟨b12, 0, none⟩ rfl rfl) ?_
  refine L_pu (P_ld ag37 cL ⟨b12, 0, none⟩ (.slice A1 n2 c3) rfl (h18.cell rfl)) ?_
  refine L_pu (P_move (vi left) rfl) ?_
  refine L_call go45 [.slice A1 n2 c3, vi left] rfl ((laws_szCommitS.calls w11 hc19.ok a.Commits A1 n2 c3 (hp4.st hc19.st) left _ H).mono ?_)
  rintro _ w20 ⟨r, rfl, H, g21⟩
  have hc25 := hc19.k0 g21
  refine L_pu (P_assign (vi r) rfl) ?_
  refine L_nil ?_
  refine W_seq ?_
  refine W_seq ?_
  refine W_reg ?_
  refine L_pu (P_move (vi r) rfl) ?_
  refine L_pu (P_cmp r 0 (decide (r < 0)) rfl rfl rfl) ?_
  refine L_nil ?_
  refine W_cond (decide (r < 0)) rfl (fun hq26 => ?_) (fun hq26 => ?_)
  · have H := ite_t H hq26
    refine W_seq ?_
    refine W_reg ?_
    refine L_pu (P_assign (vi (-1)) rfl) ?_
    refine L_nil ?_
    refine W_ret ?_
    exact ⟨[vi (-1)], ⟨_, rfl, rfl⟩, (-1), rfl, H, hc25.gr⟩
  · have H := ite_f H hq26
    refine W_skip ?_
    refine W_seq ?_
    refine W_reg ?_
    refine L_pu (P_fa fa40_1 ⟨b12, 0, none⟩ ⟨b12, 1, none⟩ rfl rfl) ?_
    have h27 := (h18.st (.new _ g21))
    refine L_pu (P_ld ag38 cL ⟨b12, 1, none⟩ (.slice A6 n7 c8) rfl (h27.cell rfl)) ?_
    refine L_pu (P_move (vi r) rfl) ?_
    refine L_call go46 [.slice A6 n7 c8, vi r] rfl ((laws_szHeadS.calls w20 hc25.ok a.Heads A6 n7 c8 (hp9.st hc25.st) r _ H).mono ?_)
    rintro _ w28 ⟨r2, rfl, H, g29⟩
    have hc33 := hc25.k0 g29
    refine L_pu (P_assign (vi r2) rfl) ?_
    refine L_nil ?_
    refine W_seq ?_
    refine W_seq ?_
    refine W_reg ?_
    refine L_pu (P_move (vi r2) rfl) ?_
    refine L_pu (P_cmp r2 0 (decide (r2 < 0)) rfl rfl rfl) ?_
    refine L_nil ?_
    refine W_cond (decide (r2 < 0)) rfl (fun hq34 => ?_) (fun hq34 => ?_)
    · have H := ite_t H hq34
      refine W_seq ?_
      refine W_reg ?_
      refine L_pu (P_assign (vi (-1)) rfl) ?_
      refine L_nil ?_
      refine W_ret ?_
      exact ⟨[vi (-1)], ⟨_, rfl, rfl⟩, (-1), rfl, H, hc33.gr⟩
    · have H := ite_f H hq34
      refine W_skip ?_
      refine W_seq ?_
      refine W_reg ?_
      refine L_pu (P_move (vi r2) rfl) ?_
      refine L_pu (P_assign (vi r2) rfl) ?_
      refine L_nil ?_
      refine W_ret ?_
      exact ⟨[vi r2], ⟨_, rfl, rfl⟩, r2, rfl, H, hc33.gr⟩
end Go.Proofs.Ythkeboifjlnjjaa

namespace Go.Proofs.Ythkeboifjlnjjaa
set_option linter.unusedVariables false
set_option linter.unusedSimpArgs false
set_option linter.unusedSectionVars false
theorem laws_szRepo.law (a : Repo) (left : Int) (Q : Int → Prop) (h0 : 0 ≤ left) (h1 : left ≤ 1048576) (hn : left - (bulk a : Nat) < 0 → Q (-1)) (hp : 0 ≤ left - (bulk a : Nat) → Q (left - (bulk a : Nat))) : laws_szRepo.E a left Q := by
  have hb : bulk a = bulk a.Commits + bulk a.Heads := rfl
  unfold laws_szRepo.E
  refine laws_szCommitS.law _ _ _ (by omega) (by omega) (fun h => ?_) (fun h0 => ?_)
  · rw [if_pos (by decide)]; exact hn (by omega)
  rw [if_neg (by rw [decide_eq_false (by omega)]; exact Bool.false_ne_true)]
  refine laws_szHeadS.law _ _ _ (by omega) (by omega) (fun h => ?_) (fun h1 => ?_)
  · rw [if_pos (by decide)]; exact hn (by omega)
  rw [if_neg (by rw [decide_eq_false (by omega)]; exact Bool.false_ne_true)]
  exact cast (congrArg Q (by omega)) (hp (by omega))
end Go.Proofs.Ythkeboifjlnjjaa

namespace Go.Proofs.Ythkeboifjlnjjaa
open Go.RowKit
set_option linter.unusedVariables false
def laws_toIntS.E (a : List Int) (Q : List Int → Prop) : Prop :=
  ((0 : Int) ≤ (a.length : Int) ∧ (a.length : Int) ≤ (268435456 : Int)) ∧ (∃ (I41 : (List Int) → Int → Prop) (mu42 : (List Int) → Int → Nat), I41 (List.replicate (a.length : Int).toNat (0 : Int)) 0 ∧ ∀ (xs2 : List Int) (i2 : Int), I41 xs2 i2 → (if decide (i2 < (a.length : Int)) then ((0 : Int) ≤ i2 ∧ i2 < (a.length : Int)) ∧ ((0 : Int) ≤ i2 ∧ i2 < (xs2.length : Int)) ∧ (-9223372036854775808 ≤ i2) ∧ I41 (xs2.set i2.toNat (nth a i2)) (i2 + 1) ∧ mu42 (xs2.set i2.toNat (nth a i2)) (i2 + 1) < mu42 xs2 i2 else Q xs2))
set_option maxHeartbeats 8000000 in
set_option maxRecDepth 100000 in
theorem laws_toIntS.calls {O : Ob} (w0 : World) (hO : Ok w0 O) (a : List Int) (A1 : Option Addr) (n2 c3 : Nat) (hp4 : Sl (Kd.int .i64) w0 (Fr O) (.slice A1 n2 c3) a) (Q : List Int → Prop) (h : laws_toIntS.E a Q) :
    Ret Try.prog 114 [.slice A1 n2 c3] w0 (fun v w' => ∃ (r0 : List Int) (A0 : Option Addr) (n0 c0 : Nat), v = .slice A0 n0 c0 ∧ Q r0 ∧ Gr w0 w' none ∧ Ok w' ([blk (.slice A0 n0 c0)] ++ O) ∧ (∀ b, some b ∈ [blk (.slice A0 n0 c0)] → w0.heap.size ≤ b) ∧ Ow (Kd.int .i64) 3 w' ([blk (.slice A0 n0 c0)] ++ O) (.slice A0 n0 c0) r0) := by
  have H : ((0 : Int) ≤ (a.length : Int) ∧ (a.length : Int) ≤ (268435456 : Int)) ∧ (∃ (I41 : (List Int) → Int → Prop) (mu42 : (List Int) → Int → Nat), I41 (List.replicate (a.length : Int).toNat (0 : Int)) 0 ∧ ∀ (xs2 : List Int) (i2 : Int), I41 xs2 i2 → (if decide (i2 < (a.length : Int)) then ((0 : Int) ≤ i2 ∧ i2 < (a.length : Int)) ∧ ((0 : Int) ≤ i2 ∧ i2 < (xs2.length : Int)) ∧ (-9223372036854775808 ≤ i2) ∧ I41 (xs2.set i2.toNat (nth a i2)) (i2 + 1) ∧ mu42 (xs2.set i2.toNat (nth a i2)) (i2 + 1) < mu42 xs2 i2 else Q xs2)) := h
  clear h
  have hc0 := Ct.init hO
  refine Ret_enter Try.func114 rfl 22 rfl [.tmp 2] rfl rfl ?_
  refine W_seq ?_
  refine W_reg ?_
  refine L_pu (P_assign (.slice none 0 0) rfl) ?_
  refine L_nil ?_
  refine W_seq ?_
  refine W_reg ?_
  refine L_pu (P_move (.slice A1 n2 c3) rfl) ?_
  have hl6 := hp4.le
  refine L_pu (P_len Try.underlying90 A1 n2 c3 hp4.len rfl) ?_
  obtain ⟨hb7, H⟩ := H
  refine L_make (kd := (Kd.int .i64)) ei90 hc0 (0 : Int) (rfl) (a.length : Int) rfl rfl hb7 fun w8 A9 n10 c11 g12 hr13 hc14 h15 => ?_
  refine L_pu (P_assign (.slice A9 n10 c11) rfl) ?_
  refine L_nil ?_
  refine W_seq ?_
  refine W_seq ?_
  refine W_reg ?_
  refine L_pu (P_assign (vi 0) rfl) ?_
  refine L_nil ?_
  refine W_block ?_
  obtain ⟨I41, mu42, hI43, H⟩ := H
  refine W_loop (α := (List Int) × Int) (fun (sv__ : (List Int) × Int) t w32 => match sv__ with | (xs2, i2) => I41 xs2 i2 ∧ Has t [(0, .slice A1 n2 c3), (3, .slice A9 n10 c11), (4, vi i2)] ∧ Ct none w0 w32 [blk (.slice A9 n10 c11)] O ∧ Sl (Kd.int .i64) w32 (Fr ([blk (.slice A9 n10 c11)] ++ O)) (.slice A1 n2 c3) a ∧ Ow (Kd.int .i64) 3 w32 ([blk (.slice A9 n10 c11)] ++ O) (.slice A9 n10 c11) xs2) (fun (sv__ : (List Int) × Int) => match sv__ with | (xs2, i2) => mu42 xs2 i2) ((List.replicate (a.length : Int).toNat (0 : Int)), 0) ⟨hI43, ⟨rfl, rfl, rfl, trivial⟩, hc14, (hp4.st hc14.st), h15⟩ ?_
  rintro ⟨xs2, i2⟩ _ w32 ⟨hI43, hh45, hc38, h39, h40⟩
  obtain ⟨u46, rfl⟩ := Has.ins hh45
  have H := H xs2 i2 hI43
  refine W_seq ?_
  refine W_seq ?_
  refine W_reg ?_
  refine L_pu (P_move (vi i2) rfl) ?_
  refine L_pu (P_move (.slice A1 n2 c3) rfl) ?_
  have hl47 := h39.le
  refine L_pu (P_len Try.underlying90 A1 n2 c3 h39.len rfl) ?_
  refine L_pu (P_cmp i2 (a.length : Int) (decide (i2 < (a.length : Int))) rfl rfl rfl) ?_
  refine L_nil ?_
  refine W_cond (decide (i2 < (a.length : Int))) rfl (fun hq48 => ?_) (fun hq48 => ?_)
  · have H := ite_t H hq48
    refine W_skip ?_
    refine W_seq ?_
    refine W_block ?_
    refine W_reg ?_
    refine L_pu (P_move (.slice A9 n10 c11) rfl) ?_
    refine L_pu (P_move (vi i2) rfl) ?_
    refine L_pu (P_move (.slice A1 n2 c3) rfl) ?_
    refine L_pu (P_move (vi i2) rfl) ?_
    obtain ⟨hb49, H⟩ := H
    obtain ⟨ad50, cs51, hA52, hS55, hR53, hcl54⟩ := h39.get default (by decide) i2 hb49
    obtain rfl := Kd.int.op hR53
    refine L_pu (P_ia Try.underlying90 se90 A1 ad50 n2 c3 h39.len i2 rfl hA52 rfl hb49) ?_
    refine L_pu (P_ld ag3 cL (ad50.add (i2.toNat * 1)) (vi (nth a i2)) rfl (hcl54 0 _ rfl)) ?_
    obtain ⟨hb56, H⟩ := H
    obtain ⟨ad57, cs58, hA59, hR60, hcl61⟩ := h40.get default (by decide) i2 hb56
    obtain rfl := Kd.int.op hR60
    refine L_pu (P_ia Try.underlying90 se90 A9 ad57 n10 c11 h40.len i2 rfl hA59 rfl hb56) ?_
    refine L_ste0 A9 n10 c11 xs2 h40 i2 hb56 ad57 hA59 0 rfl [vi (nth a i2)] rfl sz3 rfl (nth a i2) [vi (nth xs2 i2)] [vi (nth a i2)] hcl61 rfl rfl rfl fun w63 g64 h65 => ?_
    have hc66 := hc38.wr 0 rfl g64
    refine L_nil ?_
    refine W_reg ?_
    refine L_pu (P_move (vi i2) rfl) ?_
    obtain ⟨hb68, H⟩ := H
    have hi67 : I64 (i2 + 1) := i64_succ (of_decide_eq_true hq48) hl47 hb68
    refine L_pu (P_add i2 1 rfl rfl hi67) ?_
    refine L_pu (P_assign (vi (i2 + 1)) rfl) ?_
    refine L_nil ?_
    obtain ⟨hI69, hm70⟩ := H
    have h71 := (h39.st (.wl (L := [blk (.slice A9 n10 c11)]) (O := O) (j := 0) rfl g64))
    exact ⟨((xs2.set i2.toNat (nth a i2)), i2 + 1), hm70, hI69, ⟨rfl, rfl, rfl, trivial⟩, hc66, h71, h65⟩
  · have H := ite_f H hq48
    refine W_exit (xin_hit ?_)
    refine W_seq ?_
    refine W_reg ?_
    refine L_pu (P_move (.slice A9 n10 c11) rfl) ?_
    refine L_pu (P_assign (.slice A9 n10 c11) rfl) ?_
    refine L_nil ?_
    refine W_ret ?_
    exact ⟨[.slice A9 n10 c11], ⟨_, rfl, rfl⟩, xs2, A9, n10, c11, rfl, H, hc38.gr, hc38.ok, hc38.ge, h40⟩
end Go.Proofs.Ythkeboifjlnjjaa

namespace Go.Proofs.Ythkeboifjlnjjaa
set_option linter.unusedVariables false
set_option linter.unusedSimpArgs false
set_option linter.unusedSectionVars false
theorem laws_toIntS.law (a : List Int) (Q : List Int → Prop) (ha : bulk a ≤ 1048576) (hq : Q a) : laws_toIntS.E a Q := by
  unfold laws_toIntS.E
  exact toS_shape _ (fun x Q => Q x) (fun x Q _ h => h) a Q ha hq
end Go.Proofs.Ythkeboifjlnjjaa

namespace Go.Proofs.Ythkeboifjlnjjaa
open Go.RowKit
set_option linter.unusedVariables false
def laws_toPt.E (a : Pt) (Q : Pt → Prop) : Prop :=
  Q a
set_option maxHeartbeats 8000000 in
set_option maxRecDepth 100000 in
theorem laws_toPt.calls {O : Ob} (w0 : World) (hO : Ok w0 O) (a : Pt) (Q : Pt → Prop) (h : laws_toPt.E a Q) :
    Ret Try.prog 129 [.agg #[vi a.X, vi a.Y]] w0 (fun v w' => ∃ (r0 : Pt), v = .agg #[vi r0.X, vi r0.Y] ∧ Q r0 ∧ Gr w0 w' none) := by
  have H : Q a := h
  clear h
  have hc0 := Ct.init hO
  refine Ret_enter Try.func129 rfl 11 rfl [.cell 2 64] rfl rfl ?_
  refine W_seq ?_
  refine W_reg ?_
  refine L_box [vi a.X, vi a.Y] rfl fun w1 b2 hl4 hu5 g3 hx6 => ?_
  have h8 := Fb.mk hc0.ok hl4 hx6
  have hc9 := hc0.k0 g3
  refine L_alloc [.int .i64 0, .int .i64 0] ze64 fun w10 b11 hl13 hu14 g12 hx15 => ?_
  have hc17 := hc9.own g12 (some b11) (oglt hl13 hu14)
  refine L_nil ?_
  refine W_seq ?_
  refine W_reg ?_
  refine L_alloc [.int .i64 0, .int .i64 0] ze64 fun w18 b19 hl21 hu22 g20 hx23 => ?_
  have hc25 := hc17.own g20 (some b19) (oglt hl21 hu22)
  refine L_nil ?_
  refine W_seq ?_
  refine W_reg ?_
  refine L_pu (P_fa fa163_0 ⟨b2, 0, none⟩ ⟨b2, 0, none⟩ rfl rfl) ?_
  have h26 := ((h8.st (.own _ _ g12 (oge hl13))).st (.own _ _ g20 (oge hl21)))
  refine L_pu (P_ld ag3 cL ⟨b2, 0, none⟩ (vi a.X) rfl (h26.cell rfl)) ?_
  refine L_pu (P_fa fa64_0 ⟨b19, 0, none⟩ ⟨b19, 0, none⟩ rfl rfl) ?_
  refine L_stb b19 0 [vi 0, vi 0] [vi a.X] [vi a.X, vi 0] rfl hx23 rfl sz3 rfl rfl rfl fun w27 g28 hx29 => ?_
  have hc30 := hc25.wr 0 rfl g28
  refine L_nil ?_
  refine W_seq ?_
  refine W_reg ?_
  refine L_pu (P_fa fa163_1 ⟨b2, 0, none⟩ ⟨b2, 1, none⟩ rfl rfl) ?_
  have h31 := (h26.st (.wl (L := [some b19, some b11]) (O := O) (j := 0) rfl g28))
  refine L_pu (P_ld ag3 cL ⟨b2, 1, none⟩ (vi a.Y) rfl (h31.cell rfl)) ?_
  refine L_pu (P_fa fa64_1 ⟨b19, 0, none⟩ ⟨b19, 1, none⟩ rfl rfl) ?_
  refine L_stb b19 1 [vi a.X, vi 0] [vi a.Y] [vi a.X, vi a.Y] rfl hx29 rfl sz3 rfl rfl rfl fun w32 g33 hx34 => ?_
  have hc35 := hc30.wr 0 rfl g33
  refine L_nil ?_
  refine W_seq ?_
  refine W_reg ?_
  refine L_pu (P_lda ag64 sz64 cL ⟨b19, 0, none⟩ [vi a.X, vi a.Y] rfl rfl (hx34.cells (off := 0) rfl)) ?_
  have h39 := (Bx.sm (L := [some b19, some b11]) (O := O) (Bx.sm (L := [some b19, some b11]) (O := O) (hx15.k0 g20) hc25 (i := 1) rfl (j := 0) rfl (by decide) g28) hc30 (i := 1) rfl (j := 0) rfl (by decide) g33)
  refine L_stb b11 0 [vi 0, vi 0] [vi a.X, vi a.Y] [vi a.X, vi a.Y] rfl h39 rfl sz64 rfl rfl rfl fun w36 g37 hx38 => ?_
  have hc40 := hc35.wr 1 rfl g37
  refine L_nil ?_
  refine W_ret ?_
  have h41 := Bx.gv (L := [some b19, some b11]) (O := O) hx38 hc40 (i := 1) rfl
  have hc42 := hc40.drop 1 rfl
  have hc43 := hc42.drop 0 rfl
  have h44 := (h41.st (.dr _ (L := [some b19]) (O := O) (j := 0) rfl))
  exact ⟨[.agg #[vi a.X, vi a.Y]], ⟨_, _, rfl, h44.1.res rfl ag64 sz64, rfl⟩, a, rfl, H, hc43.gr⟩
def laws_toPt.m (a : Pt) : Pt := a
theorem laws_toPt.fn (a : Pt) : laws_toPt.E a (fun r => r = laws_toPt.m a) := by
  unfold laws_toPt.E laws_toPt.m
  rfl
end Go.Proofs.Ythkeboifjlnjjaa

namespace Go.Proofs.Ythkeboifjlnjjaa
set_option linter.unusedVariables false
set_option linter.unusedSimpArgs false
set_option linter.unusedSectionVars false
theorem laws_toPt.law (a : Pt) (Q : Pt → Prop) (ha : bulk a ≤ 1048576) (hq : Q a) : laws_toPt.E a Q := by
  unfold laws_toPt.E
  have hb : bulk a = bulk a.X + bulk a.Y := rfl
  exact hq
end Go.Proofs.Ythkeboifjlnjjaa

namespace Go.Proofs.Ythkeboifjlnjjaa
open Go.RowKit
set_option linter.unusedVariables false
def laws_toPtS.E (a : List Pt) (Q : List Pt → Prop) : Prop :=
  ((0 : Int) ≤ (a.length : Int) ∧ (a.length : Int) ≤ (268435456 : Int)) ∧ (∃ (I41 : (List Pt) → Int → Prop) (mu42 : (List Pt) → Int → Nat), I41 (List.replicate (a.length : Int).toNat ((⟨0, 0⟩ : Pt) : Pt)) 0 ∧ ∀ (xs2 : List Pt) (i2 : Int), I41 xs2 i2 → (if decide (i2 < (a.length : Int)) then ((0 : Int) ≤ i2 ∧ i2 < (a.length : Int)) ∧ laws_toPt.E (nth a i2) (fun r => ((0 : Int) ≤ i2 ∧ i2 < (xs2.length : Int)) ∧ (-9223372036854775808 ≤ i2) ∧ I41 (xs2.set i2.toNat r) (i2 + 1) ∧ mu42 (xs2.set i2.toNat r) (i2 + 1) < mu42 xs2 i2) else Q xs2))
set_option maxHeartbeats 8000000 in
set_option maxRecDepth 100000 in
theorem laws_toPtS.calls {O : Ob} (w0 : World) (hO : Ok w0 O) (a : List Pt) (A1 : Option Addr) (n2 c3 : Nat) (hp4 : Sl kPt w0 (Fr O) (.slice A1 n2 c3) a) (Q : List Pt → Prop) (h : laws_toPtS.E a Q) :
    Ret Try.prog 123 [.slice A1 n2 c3] w0 (fun v w' => ∃ (r0 : List Pt) (A0 : Option Addr) (n0 c0 : Nat), v = .slice A0 n0 c0 ∧ Q r0 ∧ Gr w0 w' none ∧ Ok w' ([blk (.slice A0 n0 c0)] ++ O) ∧ (∀ b, some b ∈ [blk (.slice A0 n0 c0)] → w0.heap.size ≤ b) ∧ Ow kPt 64 w' ([blk (.slice A0 n0 c0)] ++ O) (.slice A0 n0 c0) r0) := by
  have H : ((0 : Int) ≤ (a.length : Int) ∧ (a.length : Int) ≤ (268435456 : Int)) ∧ (∃ (I41 : (List Pt) → Int → Prop) (mu42 : (List Pt) → Int → Nat), I41 (List.replicate (a.length : Int).toNat ((⟨0, 0⟩ : Pt) : Pt)) 0 ∧ ∀ (xs2 : List Pt) (i2 : Int), I41 xs2 i2 → (if decide (i2 < (a.length : Int)) then ((0 : Int) ≤ i2 ∧ i2 < (a.length : Int)) ∧ laws_toPt.E (nth a i2) (fun r => ((0 : Int) ≤ i2 ∧ i2 < (xs2.length : Int)) ∧ (-9223372036854775808 ≤ i2) ∧ I41 (xs2.set i2.toNat r) (i2 + 1) ∧ mu42 (xs2.set i2.toNat r) (i2 + 1) < mu42 xs2 i2) else Q xs2)) := h
  clear h
  have hc0 := Ct.init hO
  refine Ret_enter Try.func123 rfl 23 rfl [.tmp 2] rfl rfl ?_
  refine W_seq ?_
  refine W_reg ?_
  refine L_pu (P_assign (.slice none 0 0) rfl) ?_
  refine L_nil ?_
  refine W_seq ?_
  refine W_reg ?_
  refine L_pu (P_move (.slice A1 n2 c3) rfl) ?_
  have hl6 := hp4.le
  refine L_pu (P_len Try.underlying66 A1 n2 c3 hp4.len rfl) ?_
  obtain ⟨hb7, H⟩ := H
  refine L_make (kd := kPt) ei23 hc0 ((⟨0, 0⟩ : Pt) : Pt) ((kPt.mk _ _ (⟨0, 0⟩ : Pt))) (a.length : Int) rfl rfl hb7 fun w8 A9 n10 c11 g12 hr13 hc14 h15 => ?_
  refine L_pu (P_assign (.slice A9 n10 c11) rfl) ?_
  refine L_nil ?_
  refine W_seq ?_
  refine W_seq ?_
  refine W_reg ?_
  refine L_pu (P_assign (vi 0) rfl) ?_
  refine L_nil ?_
  refine W_block ?_
  obtain ⟨I41, mu42, hI43, H⟩ := H
  refine W_loop (α := (List Pt) × Int) (fun (sv__ : (List Pt) × Int) t w32 => match sv__ with | (xs2, i2) => I41 xs2 i2 ∧ Has t [(0, .slice A1 n2 c3), (3, .slice A9 n10 c11), (4, vi i2)] ∧ Ct none w0 w32 [blk (.slice A9 n10 c11)] O ∧ Sl kPt w32 (Fr ([blk (.slice A9 n10 c11)] ++ O)) (.slice A1 n2 c3) a ∧ Ow kPt 64 w32 ([blk (.slice A9 n10 c11)] ++ O) (.slice A9 n10 c11) xs2) (fun (sv__ : (List Pt) × Int) => match sv__ with | (xs2, i2) => mu42 xs2 i2) ((List.replicate (a.length : Int).toNat ((⟨0, 0⟩ : Pt) : Pt)), 0) ⟨hI43, ⟨rfl, rfl, rfl, trivial⟩, hc14, (hp4.st hc14.st), h15⟩ ?_
  rintro ⟨xs2, i2⟩ _ w32 ⟨hI43, hh45, hc38, h39, h40⟩
  obtain ⟨u46, rfl⟩ := Has.ins hh45
  have H := H xs2 i2 hI43
  refine W_seq ?_
  refine W_seq ?_
  refine W_reg ?_
  refine L_pu (P_move (vi i2) rfl) ?_
  refine L_pu (P_move (.slice A1 n2 c3) rfl) ?_
  have hl47 := h39.le
  refine L_pu (P_len Try.underlying66 A1 n2 c3 h39.len rfl) ?_
  refine L_pu (P_cmp i2 (a.length : Int) (decide (i2 < (a.length : Int))) rfl rfl rfl) ?_
  refine L_nil ?_
  refine W_cond (decide (i2 < (a.length : Int))) rfl (fun hq48 => ?_) (fun hq48 => ?_)
  · have H := ite_t H hq48
    refine W_skip ?_
    refine W_seq ?_
    refine W_block ?_
    refine W_reg ?_
    refine L_pu (P_move (.slice A9 n10 c11) rfl) ?_
    refine L_pu (P_move (vi i2) rfl) ?_
    refine L_pu (P_move (.slice A1 n2 c3) rfl) ?_
    refine L_pu (P_move (vi i2) rfl) ?_
    obtain ⟨hb49, H⟩ := H
    obtain ⟨ad50, cs51, hA52, hS55, hR53, hcl54⟩ := h39.get default (by decide) i2 hb49
    obtain rfl := kPt.op hR53
    refine L_pu (P_ia Try.underlying66 se66 A1 ad50 n2 c3 h39.len i2 rfl hA52 rfl hb49) ?_
    refine L_pu (P_lda ag163 sz163 cL (ad50.add (i2.toNat * 2)) [vi ((nth a i2).X), vi ((nth a i2).Y)] rfl rfl hcl54) ?_
    refine L_call go129 [.agg #[vi ((nth a i2).X), vi ((nth a i2).Y)]] rfl ((laws_toPt.calls w32 hc38.ok (nth a i2) _ H).mono ?_)
    rintro _ w56 ⟨r, rfl, H, g57⟩
    have hc61 := hc38.k0 g57
    obtain ⟨hb62, H⟩ := H
    have h69 := (h40.sn g57)
    obtain ⟨ad63, cs64, hA65, hR66, hcl67⟩ := h69.get default (by decide) i2 hb62
    obtain rfl := kPt.op hR66
    refine L_pu (P_ia Try.underlying23 se23 A9 ad63 n10 c11 h69.len i2 rfl hA65 rfl hb62) ?_
    refine L_ste0 A9 n10 c11 xs2 h69 i2 hb62 ad63 hA65 0 rfl [vi r.X, vi r.Y] rfl sz64 rfl r [vi ((nth xs2 i2).X), vi ((nth xs2 i2).Y)] [vi r.X, vi r.Y] hcl67 rfl rfl (kPt.mk _ _ r) fun w70 g71 h72 => ?_
    have hc73 := hc61.wr 0 rfl g71
    refine L_nil ?_
    refine W_reg ?_
    refine L_pu (P_move (vi i2) rfl) ?_
    obtain ⟨hb75, H⟩ := H
    have hi74 : I64 (i2 + 1) := i64_succ (of_decide_eq_true hq48) hl47 hb75
    refine L_pu (P_add i2 1 rfl rfl hi74) ?_
    refine L_pu (P_assign (vi (i2 + 1)) rfl) ?_
    refine L_nil ?_
    obtain ⟨hI76, hm77⟩ := H
    have h78 := ((h39.st (.new _ g57)).st (.wl (L := [blk (.slice A9 n10 c11)]) (O := O) (j := 0) rfl g71))
    exact ⟨((xs2.set i2.toNat r), i2 + 1), hm77, hI76, ⟨rfl, rfl, rfl, trivial⟩, hc73, h78, h72⟩
  · have H := ite_f H hq48
    refine W_exit (xin_hit ?_)
    refine W_seq ?_
    refine W_reg ?_
    refine L_pu (P_move (.slice A9 n10 c11) rfl) ?_
    refine L_pu (P_assign (.slice A9 n10 c11) rfl) ?_
    refine L_nil ?_
    refine W_ret ?_
    exact ⟨[.slice A9 n10 c11], ⟨_, rfl, rfl⟩, xs2, A9, n10, c11, rfl, H, hc38.gr, hc38.ok, hc38.ge, h40⟩
end Go.Proofs.Ythkeboifjlnjjaa

namespace Go.Proofs.Ythkeboifjlnjjaa
set_option linter.unusedVariables false
set_option linter.unusedSimpArgs false
set_option linter.unusedSectionVars false
theorem laws_toPtS.law (a : List Pt) (Q : List Pt → Prop) (ha : bulk a ≤ 1048576) (hq : Q a) : laws_toPtS.E a Q := by
  unfold laws_toPtS.E
  exact toS_shape _ laws_toPt.E (fun x Q => laws_toPt.law x Q) a Q ha hq
end Go.Proofs.Ythkeboifjlnjjaa

namespace Go.Proofs.Ythkeboifjlnjjaa
open Go.RowKit
set_option linter.unusedVariables false
def laws_toShape.E (a : Shape) (Q : Shape → Prop) : Prop :=
  laws_toPtS.E a.Pts (fun r => Q (⟨a.Kind, r⟩ : Shape))
set_option maxHeartbeats 8000000 in
set_option maxRecDepth 100000 in
theorem laws_toShape.calls {O : Ob} (w0 : World) (hO : Ok w0 O) (a : Shape) (A1 : Option Addr) (n2 c3 : Nat) (hp4 : Sl kPt w0 (Fr O) (.slice A1 n2 c3) a.Pts) (Q : Shape → Prop) (h : laws_toShape.E a Q) :
    Ret Try.prog 105 [.agg #[vi a.Kind, .slice A1 n2 c3]] w0 (fun v w' => ∃ (r0 : Shape) (A0 : Option Addr) (n0 c0 : Nat), v = .agg #[vi r0.Kind, .slice A0 n0 c0] ∧ Q r0 ∧ Gr w0 w' none ∧ Ok w' ([blk (.slice A0 n0 c0)] ++ O) ∧ (∀ b, some b ∈ [blk (.slice A0 n0 c0)] → w0.heap.size ≤ b) ∧ Ow kPt 64 w' ([blk (.slice A0 n0 c0)] ++ O) (.slice A0 n0 c0) r0.Pts) := by
  have H : laws_toPtS.E a.Pts (fun r => Q (⟨a.Kind, r⟩ : Shape)) := h
  clear h
  have hc0 := Ct.init hO
  refine Ret_enter Try.func105 rfl 12 rfl [.cell 2 76] rfl rfl ?_
  refine W_seq ?_
  refine W_reg ?_
  refine L_box [vi a.Kind, .slice A1 n2 c3] rfl fun w6 b7 hl9 hu10 g8 hx11 => ?_
  have h13 := Fb.mk hc0.ok hl9 hx11
  have hc14 := hc0.k0 g8
  refine L_alloc [.int .i64 0, .slice none 0 0] ze76 fun w15 b16 hl18 hu19 g17 hx20 => ?_
  have hc22 := hc14.own g17 (some b16) (oglt hl18 hu19)
  refine L_nil ?_
  refine W_seq ?_
  refine W_reg ?_
  refine L_alloc [.int .i64 0, .slice none 0 0] ze76 fun w23 b24 hl26 hu27 g25 hx28 => ?_
  have hc30 := hc22.own g25 (some b24) (oglt hl26 hu27)
  refine L_nil ?_
  refine W_seq ?_
  refine W_reg ?_
  refine L_pu (P_fa fa68_0 ⟨b7, 0, none⟩ ⟨b7, 0, none⟩ rfl rfl) ?_
  have h31 := ((h13.st (.own _ _ g17 (oge hl18))).st (.own _ _ g25 (oge hl26)))
  refine L_pu (P_ld ag3 cL ⟨b7, 0, none⟩ (vi a.Kind) rfl (h31.cell rfl)) ?_
  refine L_pu (P_fa fa76_0 ⟨b24, 0, none⟩ ⟨b24, 0, none⟩ rfl rfl) ?_
  refine L_stb b24 0 [vi 0, .slice none 0 0] [vi a.Kind] [vi a.Kind, .slice none 0 0] rfl hx28 rfl sz3 rfl rfl rfl fun w32 g33 hx34 => ?_
  have hc35 := hc30.wr 0 rfl g33
  refine L_nil ?_
  refine W_seq ?_
  refine W_reg ?_
  refine L_pu (P_fa fa68_1 ⟨b7, 0, none⟩ ⟨b7, 1, none⟩ rfl rfl) ?_
  have h36 := (h31.st (.wl (L := [some b24, some b16]) (O := O) (j := 0) rfl g33))
  refine L_pu (P_ld ag66 cL ⟨b7, 1, none⟩ (.slice A1 n2 c3) rfl (h36.cell rfl)) ?_
  refine L_call go123 [.slice A1 n2 c3] rfl ((laws_toPtS.calls w32 hc35.ok a.Pts A1 n2 c3 (hp4.st hc35.st) _ H).mono ?_)
  rintro _ w37 ⟨r, A39, n40, c41, rfl, H, g38, hk45, hk46, h42⟩
  have hc47 := hc35.owns g38 hk45 hk46
  refine L_pu (P_fa fa76_1 ⟨b24, 0, none⟩ ⟨b24, 1, none⟩ rfl rfl) ?_
  have h51 := (hx34.k0 g38)
  refine L_stb b24 1 [vi a.Kind, .slice none 0 0] [.slice A39 n40 c41] [vi a.Kind, .slice A39 n40 c41] rfl h51 rfl sz23 rfl rfl rfl fun w48 g49 hx50 => ?_
  have hc52 := hc47.wr 1 rfl g49
  refine L_nil ?_
  refine W_seq ?_
  refine W_reg ?_
  refine L_pu (P_lda ag76 sz76 cL ⟨b24, 0, none⟩ [vi a.Kind, .slice A39 n40 c41] rfl rfl (hx50.cells (off := 0) rfl)) ?_
  have h56 := (Bx.sm (L := [blk (.slice A39 n40 c41), some b24, some b16]) (O := O) ((Bx.sm (L := [some b24, some b16]) (O := O) (hx20.k0 g25) hc30 (i := 1) rfl (j := 0) rfl (by decide) g33).k0 g38) hc47 (i := 2) rfl (j := 1) rfl (by decide) g49)
  refine L_stb b16 0 [vi 0, .slice none 0 0] [vi a.Kind, .slice A39 n40 c41] [vi a.Kind, .slice A39 n40 c41] rfl h56 rfl sz76 rfl rfl rfl fun w53 g54 hx55 => ?_
  have hc57 := hc52.wr 2 rfl g54
  refine L_nil ?_
  refine W_ret ?_
  have h58 := Bx.gv (L := [blk (.slice A39 n40 c41), some b24, some b16]) (O := O) hx55 hc57 (i := 2) rfl
  have hc59 := hc57.drop 2 rfl
  have hc60 := hc59.drop 1 rfl
  have h61 := (h58.st (.dr _ (L := [blk (.slice A39 n40 c41), some b24]) (O := O) (j := 1) rfl))
  have h62 := (Ow.sd (L := [blk (.slice A39 n40 c41), some b24]) (O := O) (Ow.sd (L := [blk (.slice A39 n40 c41), some b24, some b16]) (O := O) (Ow.sw (L := [blk (.slice A39 n40 c41), some b24, some b16]) (O := O) (Ow.sw (L := [blk (.slice A39 n40 c41), some b24, some b16]) (O := O) h42 hc47 (i := 0) rfl (j := 1) rfl (by decide) g49) hc52 (i := 0) rfl (j := 2) rfl (by decide) g54) (i := 0) rfl (j := 2) rfl (by decide)) (i := 0) rfl (j := 1) rfl (by decide))
  exact ⟨[.agg #[vi a.Kind, .slice A39 n40 c41]], ⟨_, _, rfl, h61.1.res rfl ag76 sz76, rfl⟩, (⟨a.Kind, r⟩ : Shape), A39, n40, c41, rfl, H, hc60.gr, hc60.ok, hc60.ge, h62⟩
end Go.Proofs.Ythkeboifjlnjjaa

namespace Go.Proofs.Ythkeboifjlnjjaa
set_option linter.unusedVariables false
set_option linter.unusedSimpArgs false
set_option linter.unusedSectionVars false
theorem laws_toShape.law (a : Shape) (Q : Shape → Prop) (ha : bulk a ≤ 1048576) (hq : Q a) : laws_toShape.E a Q := by
  unfold laws_toShape.E
  have hb : bulk a = bulk a.Kind + bulk a.Pts := rfl
  refine laws_toPtS.law _ _ (by omega) ?_
  exact hq
end Go.Proofs.Ythkeboifjlnjjaa

namespace Go.Proofs.Ythkeboifjlnjjaa
open Go.RowKit
set_option linter.unusedVariables false
def laws_toTag.E (a : Tag) (Q : Tag → Prop) : Prop :=
  Q a
set_option maxHeartbeats 8000000 in
set_option maxRecDepth 100000 in
theorem laws_toTag.calls {O : Ob} (w0 : World) (hO : Ok w0 O) (a : Tag) (hs1 : Lim a.Key) (hs2 : Lim a.Val) (Q : Tag → Prop) (h : laws_toTag.E a Q) :
    Ret Try.prog 124 [.agg #[vs a.Key, vs a.Val]] w0 (fun v w' => ∃ (r0 : Tag), v = .agg #[vs r0.Key, vs r0.Val] ∧ Q r0 ∧ Gr w0 w' none ∧ Lim r0.Key ∧ Lim r0.Val) := by
  have H : Q a := h
  clear h
  have hc0 := Ct.init hO
  refine Ret_enter Try.func124 rfl 11 rfl [.cell 2 149] rfl rfl ?_
  refine W_seq ?_
  refine W_reg ?_
  refine L_box [vs a.Key, vs a.Val] rfl fun w3 b4 hl6 hu7 g5 hx8 => ?_
  have h10 := Fb.mk hc0.ok hl6 hx8
  have hc11 := hc0.k0 g5
  refine L_alloc [vs [], vs []] ze149 fun w12 b13 hl15 hu16 g14 hx17 => ?_
  have hc19 := hc11.own g14 (some b13) (oglt hl15 hu16)
  refine L_nil ?_
  refine W_seq ?_
  refine W_reg ?_
  refine L_alloc [vs [], vs []] ze149 fun w20 b21 hl23 hu24 g22 hx25 => ?_
  have hc27 := hc19.own g22 (some b21) (oglt hl23 hu24)
  refine L_nil ?_
  refine W_seq ?_
  refine W_reg ?_
  refine L_pu (P_fa fa156_0 ⟨b4, 0, none⟩ ⟨b4, 0, none⟩ rfl rfl) ?_
  have h28 := ((h10.st (.own _ _ g14 (oge hl15))).st (.own _ _ g22 (oge hl23)))
  refine L_pu (P_ld ag9 cL ⟨b4, 0, none⟩ (vs a.Key) rfl (h28.cell rfl)) ?_
  refine L_pu (P_fa fa149_0 ⟨b21, 0, none⟩ ⟨b21, 0, none⟩ rfl rfl) ?_
  refine L_stb b21 0 [vs ([] : Str), vs ([] : Str)] [vs a.Key] [vs a.Key, vs ([] : Str)] rfl hx25 rfl sz9 rfl rfl rfl fun w29 g30 hx31 => ?_
  have hc32 := hc27.wr 0 rfl g30
  refine L_nil ?_
  refine W_seq ?_
  refine W_reg ?_
  refine L_pu (P_fa fa156_1 ⟨b4, 0, none⟩ ⟨b4, 1, none⟩ rfl rfl) ?_
  have h33 := (h28.st (.wl (L := [some b21, some b13]) (O := O) (j := 0) rfl g30))
  refine L_pu (P_ld ag9 cL ⟨b4, 1, none⟩ (vs a.Val) rfl (h33.cell rfl)) ?_
  refine L_pu (P_fa fa149_1 ⟨b21, 0, none⟩ ⟨b21, 1, none⟩ rfl rfl) ?_
  refine L_stb b21 1 [vs a.Key, vs ([] : Str)] [vs a.Val] [vs a.Key, vs a.Val] rfl hx31 rfl sz9 rfl rfl rfl fun w34 g35 hx36 => ?_
  have hc37 := hc32.wr 0 rfl g35
  refine L_nil ?_
  refine W_seq ?_
  refine W_reg ?_
  refine L_pu (P_lda ag149 sz149 cL ⟨b21, 0, none⟩ [vs a.Key, vs a.Val] rfl rfl (hx36.cells (off := 0) rfl)) ?_
  have h41 := (Bx.sm (L := [some b21, some b13]) (O := O) (Bx.sm (L := [some b21, some b13]) (O := O) (hx17.k0 g22) hc27 (i := 1) rfl (j := 0) rfl (by decide) g30) hc32 (i := 1) rfl (j := 0) rfl (by decide) g35)
  refine L_stb b13 0 [vs ([] : Str), vs ([] : Str)] [vs a.Key, vs a.Val] [vs a.Key, vs a.Val] rfl h41 rfl sz149 rfl rfl rfl fun w38 g39 hx40 => ?_
  have hc42 := hc37.wr 1 rfl g39
  refine L_nil ?_
  refine W_ret ?_
  have h43 := Bx.gv (L := [some b21, some b13]) (O := O) hx40 hc42 (i := 1) rfl
  have hc44 := hc42.drop 1 rfl
  have hc45 := hc44.drop 0 rfl
  have h46 := (h43.st (.dr _ (L := [some b21]) (O := O) (j := 0) rfl))
  exact ⟨[.agg #[vs a.Key, vs a.Val]], ⟨_, _, rfl, h46.1.res rfl ag149 sz149, rfl⟩, a, rfl, H, hc45.gr, hs1, hs2⟩
def laws_toTag.m (a : Tag) : Tag := a
theorem laws_toTag.fn (a : Tag) : laws_toTag.E a (fun r => r = laws_toTag.m a) := by
  unfold laws_toTag.E laws_toTag.m
  rfl
end Go.Proofs.Ythkeboifjlnjjaa

namespace Go.Proofs.Ythkeboifjlnjjaa
set_option linter.unusedVariables false
set_option linter.unusedSimpArgs false
set_option linter.unusedSectionVars false
theorem laws_toTag.law (a : Tag) (Q : Tag → Prop) (ha : bulk a ≤ 1048576) (hq : Q a) : laws_toTag.E a Q := by
  unfold laws_toTag.E
  have hb : bulk a = bulk a.Key + bulk a.Val := rfl
  exact hq
end Go.Proofs.Ythkeboifjlnjjaa

namespace Go.Proofs.Ythkeboifjlnjjaa
open Go.RowKit
set_option linter.unusedVariables false
def laws_toTagS.E (a : List Tag) (Q : List Tag → Prop) : Prop :=
  ((0 : Int) ≤ (a.length : Int) ∧ (a.length : Int) ≤ (268435456 : Int)) ∧ (∃ (I41 : (List Tag) → Int → Prop) (mu42 : (List Tag) → Int → Nat), I41 (List.replicate (a.length : Int).toNat ((⟨([] : Str), ([] : Str)⟩ : Tag) : Tag)) 0 ∧ ∀ (xs2 : List Tag) (i2 : Int), I41 xs2 i2 → (if decide (i2 < (a.length : Int)) then ((0 : Int) ≤ i2 ∧ i2 < (a.length : Int)) ∧ laws_toTag.E (nth a i2) (fun r => ((0 : Int) ≤ i2 ∧ i2 < (xs2.length : Int)) ∧ (-9223372036854775808 ≤ i2) ∧ I41 (xs2.set i2.toNat r) (i2 + 1) ∧ mu42 (xs2.set i2.toNat r) (i2 + 1) < mu42 xs2 i2) else Q xs2))
set_option maxHeartbeats 8000000 in
set_option maxRecDepth 100000 in
theorem laws_toTagS.calls {O : Ob} (w0 : World) (hO : Ok w0 O) (a : List Tag) (A1 : Option Addr) (n2 c3 : Nat) (hp4 : Sl kTag w0 (Fr O) (.slice A1 n2 c3) a) (Q : List Tag → Prop) (h : laws_toTagS.E a Q) :
    Ret Try.prog 106 [.slice A1 n2 c3] w0 (fun v w' => ∃ (r0 : List Tag) (A0 : Option Addr) (n0 c0 : Nat), v = .slice A0 n0 c0 ∧ Q r0 ∧ Gr w0 w' none ∧ Ok w' ([blk (.slice A0 n0 c0)] ++ O) ∧ (∀ b, some b ∈ [blk (.slice A0 n0 c0)] → w0.heap.size ≤ b) ∧ Ow kTag 149 w' ([blk (.slice A0 n0 c0)] ++ O) (.slice A0 n0 c0) r0) := by
  have H : ((0 : Int) ≤ (a.length : Int) ∧ (a.length : Int) ≤ (268435456 : Int)) ∧ (∃ (I41 : (List Tag) → Int → Prop) (mu42 : (List Tag) → Int → Nat), I41 (List.replicate (a.length : Int).toNat ((⟨([] : Str), ([] : Str)⟩ : Tag) : Tag)) 0 ∧ ∀ (xs2 : List Tag) (i2 : Int), I41 xs2 i2 → (if decide (i2 < (a.length : Int)) then ((0 : Int) ≤ i2 ∧ i2 < (a.length : Int)) ∧ laws_toTag.E (nth a i2) (fun r => ((0 : Int) ≤ i2 ∧ i2 < (xs2.length : Int)) ∧ (-9223372036854775808 ≤ i2) ∧ I41 (xs2.set i2.toNat r) (i2 + 1) ∧ mu42 (xs2.set i2.toNat r) (i2 + 1) < mu42 xs2 i2) else Q xs2)) := h
  clear h
  have hc0 := Ct.init hO
  refine Ret_enter Try.func106 rfl 23 rfl [.tmp 2] rfl rfl ?_
  refine W_seq ?_
  refine W_reg ?_
  refine L_pu (P_assign (.slice none 0 0) rfl) ?_
  refine L_nil ?_
  refine W_seq ?_
  refine W_reg ?_
  refine L_pu (P_move (.slice A1 n2 c3) rfl) ?_
  have hl6 := hp4.le
  refine L_pu (P_len Try.underlying69 A1 n2 c3 hp4.len rfl) ?_
  obtain ⟨hb7, H⟩ := H
  refine L_make (kd := kTag) ei77 hc0 ((⟨([] : Str), ([] : Str)⟩ : Tag) : Tag) ((kTag.mk _ _ (⟨([] : Str), ([] : Str)⟩ : Tag) (by decide) (by decide))) (a.length : Int) rfl rfl hb7 fun w8 A9 n10 c11 g12 hr13 hc14 h15 => ?_
  refine L_pu (P_assign (.slice A9 n10 c11) rfl) ?_
  refine L_nil ?_
  refine W_seq ?_
  refine W_seq ?_
  refine W_reg ?_
  refine L_pu (P_assign (vi 0) rfl) ?_
  refine L_nil ?_
  refine W_block ?_
  obtain ⟨I41, mu42, hI43, H⟩ := H
  refine W_loop (α := (List Tag) × Int) (fun (sv__ : (List Tag) × Int) t w32 => match sv__ with | (xs2, i2) => I41 xs2 i2 ∧ Has t [(0, .slice A1 n2 c3), (3, .slice A9 n10 c11), (4, vi i2)] ∧ Ct none w0 w32 [blk (.slice A9 n10 c11)] O ∧ Sl kTag w32 (Fr ([blk (.slice A9 n10 c11)] ++ O)) (.slice A1 n2 c3) a ∧ Ow kTag 149 w32 ([blk (.slice A9 n10 c11)] ++ O) (.slice A9 n10 c11) xs2) (fun (sv__ : (List Tag) × Int) => match sv__ with | (xs2, i2) => mu42 xs2 i2) ((List.replicate (a.length : Int).toNat ((⟨([] : Str), ([] : Str)⟩ : Tag) : Tag)), 0) ⟨hI43, ⟨rfl, rfl, rfl, trivial⟩, hc14, (hp4.st hc14.st), h15⟩ ?_
  rintro ⟨xs2, i2⟩ _ w32 ⟨hI43, hh45, hc38, h39, h40⟩
  obtain ⟨u46, rfl⟩ := Has.ins hh45
  have H := H xs2 i2 hI43
  refine W_seq ?_
  refine W_seq ?_
  refine W_reg ?_
  refine L_pu (P_move (vi i2) rfl) ?_
  refine L_pu (P_move (.slice A1 n2 c3) rfl) ?_
  have hl47 := h39.le
  refine L_pu (P_len Try.underlying69 A1 n2 c3 h39.len rfl) ?_
  refine L_pu (P_cmp i2 (a.length : Int) (decide (i2 < (a.length : Int))) rfl rfl rfl) ?_
  refine L_nil ?_
  refine W_cond (decide (i2 < (a.length : Int))) rfl (fun hq48 => ?_) (fun hq48 => ?_)
  · have H := ite_t H hq48
    refine W_skip ?_
    refine W_seq ?_
    refine W_block ?_
    refine W_reg ?_
    refine L_pu (P_move (.slice A9 n10 c11) rfl) ?_
    refine L_pu (P_move (vi i2) rfl) ?_
    refine L_pu (P_move (.slice A1 n2 c3) rfl) ?_
    refine L_pu (P_move (vi i2) rfl) ?_
    obtain ⟨hb49, H⟩ := H
    obtain ⟨ad50, cs51, hA52, hS55, hR53, hcl54⟩ := h39.get default (by decide) i2 hb49
    obtain ⟨rfl, hs56, hs57⟩ := kTag.op hR53
    refine L_pu (P_ia Try.underlying69 se69 A1 ad50 n2 c3 h39.len i2 rfl hA52 rfl hb49) ?_
    refine L_pu (P_lda ag156 sz156 cL (ad50.add (i2.toNat * 2)) [vs ((nth a i2).Key), vs ((nth a i2).Val)] rfl rfl hcl54) ?_
    refine L_call go124 [.agg #[vs ((nth a i2).Key), vs ((nth a i2).Val)]] rfl ((laws_toTag.calls w32 hc38.ok (nth a i2) hs56 hs57 _ H).mono ?_)
    rintro _ w58 ⟨r, rfl, H, g59, hs60, hs61⟩
    have hc65 := hc38.k0 g59
    obtain ⟨hb66, H⟩ := H
    have h73 := (h40.sn g59)
    obtain ⟨ad67, cs68, hA69, hR70, hcl71⟩ := h73.get default (by decide) i2 hb66
    obtain ⟨rfl, hs74, hs75⟩ := kTag.op hR70
    refine L_pu (P_ia Try.underlying77 se77 A9 ad67 n10 c11 h73.len i2 rfl hA69 rfl hb66) ?_
    refine L_ste0 A9 n10 c11 xs2 h73 i2 hb66 ad67 hA69 0 rfl [vs r.Key, vs r.Val] rfl sz149 rfl r [vs ((nth xs2 i2).Key), vs ((nth xs2 i2).Val)] [vs r.Key, vs r.Val] hcl71 rfl rfl (kTag.mk _ _ r hs60 hs61) fun w76 g77 h78 => ?_
    have hc79 := hc65.wr 0 rfl g77
    refine L_nil ?_
    refine W_reg ?_
    refine L_pu (P_move (vi i2) rfl) ?_
    obtain ⟨hb81, H⟩ := H
    have hi80 : I64 (i2 + 1) := i64_succ (of_decide_eq_true hq48) hl47 hb81
    refine L_pu (P_add i2 1 rfl rfl hi80) ?_
    refine L_pu (P_assign (vi (i2 + 1)) rfl) ?_
    refine L_nil ?_
    obtain ⟨hI82, hm83⟩ := H
    have h84 := ((h39.st (.new _ g59)).st (.wl (L := [blk (.slice A9 n10 c11)]) (O := O) (j := 0) rfl g77))
    exact ⟨((xs2.set i2.toNat r), i2 + 1), hm83, hI82, ⟨rfl, rfl, rfl, trivial⟩, hc79, h84, h78⟩
  · have H := ite_f H hq48
    refine W_exit (xin_hit ?_)
    refine W_seq ?_
    refine W_reg ?_
    refine L_pu (P_move (.slice A9 n10 c11) rfl) ?_
    refine L_pu (P_assign (.slice A9 n10 c11) rfl) ?_
    refine L_nil ?_
    refine W_ret ?_
    exact ⟨[.slice A9 n10 c11], ⟨_, rfl, rfl⟩, xs2, A9, n10, c11, rfl, H, hc38.gr, hc38.ok, hc38.ge, h40⟩
end Go.Proofs.Ythkeboifjlnjjaa

namespace Go.Proofs.Ythkeboifjlnjjaa
set_option linter.unusedVariables false
set_option linter.unusedSimpArgs false
set_option linter.unusedSectionVars false
theorem laws_toTagS.law (a : List Tag) (Q : List Tag → Prop) (ha : bulk a ≤ 1048576) (hq : Q a) : laws_toTagS.E a Q := by
  unfold laws_toTagS.E
  exact toS_shape _ laws_toTag.E (fun x Q => laws_toTag.law x Q) a Q ha hq
end Go.Proofs.Ythkeboifjlnjjaa

namespace Go.Proofs.Ythkeboifjlnjjaa
open Go.RowKit
set_option linter.unusedVariables false
def laws_toFeat.E (a : Feat) (Q : Feat → Prop) : Prop :=
  laws_toShape.E a.Shape (fun r => laws_toTagS.E a.Tags (fun r2 => Q (⟨a.Id, r, r2⟩ : Feat)))
set_option maxHeartbeats 8000000 in
set_option maxRecDepth 100000 in
theorem laws_toFeat.calls {O : Ob} (w0 : World) (hO : Ok w0 O) (a : Feat) (A2 : Option Addr) (n3 c4 : Nat) (A7 : Option Addr) (n8 c9 : Nat) (hs1 : Lim a.Id) (hp5 : Sl kPt w0 (Fr O) (.slice A2 n3 c4) a.Shape.Pts) (hp10 : Sl kTag w0 (Fr O) (.slice A7 n8 c9) a.Tags) (Q : Feat → Prop) (h : laws_toFeat.E a Q) :
    Ret Try.prog 77 [.agg #[vs a.Id, vi a.Shape.Kind, .slice A2 n3 c4, .slice A7 n8 c9]] w0 (fun v w' => ∃ (r0 : Feat) (A0 : Option Addr) (n0 c0 : Nat) (A2 : Option Addr) (n2 c2 : Nat), v = .agg #[vs r0.Id, vi r0.Shape.Kind, .slice A0 n0 c0, .slice A2 n2 c2] ∧ Q r0 ∧ Gr w0 w' none ∧ Ok w' ([blk (.slice A0 n0 c0), blk (.slice A2 n2 c2)] ++ O) ∧ (∀ b, some b ∈ [blk (.slice A0 n0 c0), blk (.slice A2 n2 c2)] → w0.heap.size ≤ b) ∧ Lim r0.Id ∧ Ow kPt 64 w' ([blk (.slice A0 n0 c0), blk (.slice A2 n2 c2)] ++ O) (.slice A0 n0 c0) r0.Shape.Pts ∧ Ow kTag 149 w' ([blk (.slice A0 n0 c0), blk (.slice A2 n2 c2)] ++ O) (.slice A2 n2 c2) r0.Tags) := by
  have H : laws_toShape.E a.Shape (fun r => laws_toTagS.E a.Tags (fun r2 => Q (⟨a.Id, r, r2⟩ : Feat))) := h
  clear h
  have hc0 := Ct.init hO
  refine Ret_enter Try.func77 rfl 16 rfl [.cell 2 79] rfl rfl ?_
  refine W_seq ?_
  refine W_reg ?_
  refine L_box [vs a.Id, vi a.Shape.Kind, .slice A2 n3 c4, .slice A7 n8 c9] rfl fun w12 b13 hl15 hu16 g14 hx17 => ?_
  have h19 := Fb.mk hc0.ok hl15 hx17
  have hc20 := hc0.k0 g14
  refine L_alloc [vs [], .int .i64 0, .slice none 0 0, .slice none 0 0] ze79 fun w21 b22 hl24 hu25 g23 hx26 => ?_
  have hc28 := hc20.own g23 (some b22) (oglt hl24 hu25)
  refine L_nil ?_
  refine W_seq ?_
  refine W_reg ?_
  refine L_alloc [vs [], .int .i64 0, .slice none 0 0, .slice none 0 0] ze79 fun w29 b30 hl32 hu33 g31 hx34 => ?_
  have hc36 := hc28.own g31 (some b30) (oglt hl32 hu33)
  refine L_nil ?_
  refine W_seq ?_
  refine W_reg ?_
  refine L_pu (P_fa fa71_0 ⟨b13, 0, none⟩ ⟨b13, 0, none⟩ rfl rfl) ?_
  have h37 := ((h19.st (.own _ _ g23 (oge hl24))).st (.own _ _ g31 (oge hl32)))
  refine L_pu (P_ld ag9 cL ⟨b13, 0, none⟩ (vs a.Id) rfl (h37.cell rfl)) ?_
  refine L_pu (P_fa fa79_0 ⟨b30, 0, none⟩ ⟨b30, 0, none⟩ rfl rfl) ?_
  refine L_stb b30 0 [vs ([] : Str), vi 0, .slice none 0 0, .slice none 0 0] [vs a.Id] [vs a.Id, vi 0, .slice none 0 0, .slice none 0 0] rfl hx34 rfl sz9 rfl rfl rfl fun w38 g39 hx40 => ?_
  have hc41 := hc36.wr 0 rfl g39
  refine L_nil ?_
  refine W_seq ?_
  refine W_reg ?_
  refine L_pu (P_fa fa71_1 ⟨b13, 0, none⟩ ⟨b13, 1, none⟩ rfl rfl) ?_
  have h42 := (h37.st (.wl (L := [some b30, some b22]) (O := O) (j := 0) rfl g39))
  refine L_pu (P_lda ag68 sz68 cL ⟨b13, 1, none⟩ [vi a.Shape.Kind, .slice A2 n3 c4] rfl rfl (h42.cells (off := 1) rfl)) ?_
  refine L_call go105 [.agg #[vi a.Shape.Kind, .slice A2 n3 c4]] rfl ((laws_toShape.calls w38 hc41.ok a.Shape A2 n3 c4 (hp5.st hc41.st) _ H).mono ?_)
  rintro _ w43 ⟨r, A45, n46, c47, rfl, H, g44, hk51, hk52, h48⟩
  have hc53 := hc41.owns g44 hk51 hk52
  refine L_pu (P_fa fa79_1 ⟨b30, 0, none⟩ ⟨b30, 1, none⟩ rfl rfl) ?_
  have h57 := (hx40.k0 g44)
  refine L_stb b30 1 [vs a.Id, vi 0, .slice none 0 0, .slice none 0 0] [vi r.Kind, .slice A45 n46 c47] [vs a.Id, vi r.Kind, .slice A45 n46 c47, .slice none 0 0] rfl h57 rfl sz76 rfl rfl rfl fun w54 g55 hx56 => ?_
  have hc58 := hc53.wr 1 rfl g55
  refine L_nil ?_
  refine W_seq ?_
  refine W_reg ?_
  refine L_pu (P_fa fa71_2 ⟨b13, 0, none⟩ ⟨b13, 3, none⟩ rfl rfl) ?_
  have h59 := ((h42.st (.owns _ g44 hk52)).st (.wl (L := [blk (.slice A45 n46 c47), some b30, some b22]) (O := O) (j := 1) rfl g55))
  refine L_pu (P_ld ag69 cL ⟨b13, 3, none⟩ (.slice A7 n8 c9) rfl (h59.cell rfl)) ?_
  refine L_call go106 [.slice A7 n8 c9] rfl ((laws_toTagS.calls w54 hc58.ok a.Tags A7 n8 c9 (hp10.st hc58.st) _ H).mono ?_)
  rintro _ w60 ⟨r2, A62, n63, c64, rfl, H, g61, hk68, hk69, h65⟩
  have hc70 := hc58.owns g61 hk68 hk69
  refine L_pu (P_fa fa79_2 ⟨b30, 0, none⟩ ⟨b30, 3, none⟩ rfl rfl) ?_
  have h74 := (hx56.k0 g61)
  refine L_stb b30 3 [vs a.Id, vi r.Kind, .slice A45 n46 c47, .slice none 0 0] [.slice A62 n63 c64] [vs a.Id, vi r.Kind, .slice A45 n46 c47, .slice A62 n63 c64] rfl h74 rfl sz77 rfl rfl rfl fun w71 g72 hx73 => ?_
  have hc75 := hc70.wr 2 rfl g72
  refine L_nil ?_
  refine W_seq ?_
  refine W_reg ?_
  refine L_pu (P_lda ag79 sz79 cL ⟨b30, 0, none⟩ [vs a.Id, vi r.Kind, .slice A45 n46 c47, .slice A62 n63 c64] rfl rfl (hx73.cells (off := 0) rfl)) ?_
  have h79 := (Bx.sm (L := [blk (.slice A62 n63 c64), blk (.slice A45 n46 c47), some b30, some b22]) (O := O) ((Bx.sm (L := [blk (.slice A45 n46 c47), some b30, some b22]) (O := O) ((Bx.sm (L := [some b30, some b22]) (O := O) (hx26.k0 g31) hc36 (i := 1) rfl (j := 0) rfl (by decide) g39).k0 g44) hc53 (i := 2) rfl (j := 1) rfl (by decide) g55).k0 g61) hc70 (i := 3) rfl (j := 2) rfl (by decide) g72)
  refine L_stb b22 0 [vs ([] : Str), vi 0, .slice none 0 0, .slice none 0 0] [vs a.Id, vi r.Kind, .slice A45 n46 c47, .slice A62 n63 c64] [vs a.Id, vi r.Kind, .slice A45 n46 c47, .slice A62 n63 c64] rfl h79 rfl sz79 rfl rfl rfl fun w76 g77 hx78 => ?_
  have hc80 := hc75.wr 3 rfl g77
  refine L_nil ?_
  refine W_ret ?_
  have h81 := Bx.gv (L := [blk (.slice A62 n63 c64), blk (.slice A45 n46 c47), some b30, some b22]) (O := O) hx78 hc80 (i := 3) rfl
  have hc82 := hc80.drop 3 rfl
  have hc83 := hc82.drop 2 rfl
  have hc84 := hc83.perm (.swap _ _ _)
  have h85 := ((h81.st (.dr _ (L := [blk (.slice A62 n63 c64), blk (.slice A45 n46 c47), some b30]) (O := O) (j := 2) rfl)).st (.perm (L := [blk (.slice A62 n63 c64), blk (.slice A45 n46 c47)]) (O := O) (.swap _ _ _)))
  have h86 := (Ow.sp (L := [blk (.slice A62 n63 c64), blk (.slice A45 n46 c47)]) (O := O) (Ow.sd (L := [blk (.slice A62 n63 c64), blk (.slice A45 n46 c47), some b30]) (O := O) (Ow.sd (L := [blk (.slice A62 n63 c64), blk (.slice A45 n46 c47), some b30, some b22]) (O := O) (Ow.sw (L := [blk (.slice A62 n63 c64), blk (.slice A45 n46 c47), some b30, some b22]) (O := O) (Ow.sw (L := [blk (.slice A62 n63 c64), blk (.slice A45 n46 c47), some b30, some b22]) (O := O) ((Ow.sw (L := [blk (.slice A45 n46 c47), some b30, some b22]) (O := O) h48 hc53 (i := 0) rfl (j := 1) rfl (by decide) g55).sos g61 hk69) hc70 (i := 1) rfl (j := 2) rfl (by decide) g72) hc75 (i := 1) rfl (j := 3) rfl (by decide) g77) (i := 1) rfl (j := 3) rfl (by decide)) (i := 1) rfl (j := 2) rfl (by decide)) (.swap _ _ _))
  have h87 := (Ow.sp (L := [blk (.slice A62 n63 c64), blk (.slice A45 n46 c47)]) (O := O) (Ow.sd (L := [blk (.slice A62 n63 c64), blk (.slice A45 n46 c47), some b30]) (O := O) (Ow.sd (L := [blk (.slice A62 n63 c64), blk (.slice A45 n46 c47), some b30, some b22]) (O := O) (Ow.sw (L := [blk (.slice A62 n63 c64), blk (.slice A45 n46 c47), some b30, some b22]) (O := O) (Ow.sw (L := [blk (.slice A62 n63 c64), blk (.slice A45 n46 c47), some b30, some b22]) (O := O) h65 hc70 (i := 0) rfl (j := 2) rfl (by decide) g72) hc75 (i := 0) rfl (j := 3) rfl (by decide) g77) (i := 0) rfl (j := 3) rfl (by decide)) (i := 0) rfl (j := 2) rfl (by decide)) (.swap _ _ _))
  exact ⟨[.agg #[vs a.Id, vi r.Kind, .slice A45 n46 c47, .slice A62 n63 c64]], ⟨_, _, rfl, h85.1.res rfl ag79 sz79, rfl⟩, (⟨a.Id, r, r2⟩ : Feat), A45, n46, c47, A62, n63, c64, rfl, H, hc84.gr, hc84.ok, hc84.ge, hs1, h86, h87⟩
end Go.Proofs.Ythkeboifjlnjjaa

namespace Go.Proofs.Ythkeboifjlnjjaa
set_option linter.unusedVariables false
set_option linter.unusedSimpArgs false
set_option linter.unusedSectionVars false
theorem laws_toFeat.law (a : Feat) (Q : Feat → Prop) (ha : bulk a ≤ 1048576) (hq : Q a) : laws_toFeat.E a Q := by
  unfold laws_toFeat.E
  have hb : bulk a = bulk a.Id + bulk a.Shape + bulk a.Tags := rfl
  refine laws_toShape.law _ _ (by omega) ?_
  refine laws_toTagS.law _ _ (by omega) ?_
  exact hq
end Go.Proofs.Ythkeboifjlnjjaa

namespace Go.Proofs.Ythkeboifjlnjjaa
open Go.RowKit
set_option linter.unusedVariables false
def laws_toFeatS.E (a : List Feat) (Q : List Feat → Prop) : Prop :=
  ((0 : Int) ≤ (a.length : Int) ∧ (a.length : Int) ≤ (268435456 : Int)) ∧ (∃ (I41 : (List Feat) → Int → Prop) (mu42 : (List Feat) → Int → Nat), I41 (List.replicate (a.length : Int).toNat ((⟨([] : Str), (⟨0, []⟩ : Shape), []⟩ : Feat) : Feat)) 0 ∧ ∀ (xs2 : List Feat) (i2 : Int), I41 xs2 i2 → (if decide (i2 < (a.length : Int)) then ((0 : Int) ≤ i2 ∧ i2 < (a.length : Int)) ∧ laws_toFeat.E (nth a i2) (fun r => ((0 : Int) ≤ i2 ∧ i2 < (xs2.length : Int)) ∧ (-9223372036854775808 ≤ i2) ∧ I41 (xs2.set i2.toNat r) (i2 + 1) ∧ mu42 (xs2.set i2.toNat r) (i2 + 1) < mu42 xs2 i2) else Q xs2))
set_option maxHeartbeats 8000000 in
set_option maxRecDepth 100000 in
theorem laws_toFeatS.calls {O : Ob} (w0 : World) (hO : Ok w0 O) (a : List Feat) (A1 : Option Addr) (n2 c3 : Nat) (hp4 : Sl kFeat w0 (Fr O) (.slice A1 n2 c3) a) (Q : List Feat → Prop) (h : laws_toFeatS.E a Q) :
    Ret Try.prog 115 [.slice A1 n2 c3] w0 (fun v w' => ∃ (r0 : List Feat) (A0 : Option Addr) (n0 c0 : Nat), v = .slice A0 n0 c0 ∧ Q r0 ∧ Gr w0 w' none ∧ Ok w' ([blk (.slice A0 n0 c0)] ++ O) ∧ (∀ b, some b ∈ [blk (.slice A0 n0 c0)] → w0.heap.size ≤ b) ∧ Ow kFeat 79 w' ([blk (.slice A0 n0 c0)] ++ O) (.slice A0 n0 c0) r0) := by
  have H : ((0 : Int) ≤ (a.length : Int) ∧ (a.length : Int) ≤ (268435456 : Int)) ∧ (∃ (I41 : (List Feat) → Int → Prop) (mu42 : (List Feat) → Int → Nat), I41 (List.replicate (a.length : Int).toNat ((⟨([] : Str), (⟨0, []⟩ : Shape), []⟩ : Feat) : Feat)) 0 ∧ ∀ (xs2 : List Feat) (i2 : Int), I41 xs2 i2 → (if decide (i2 < (a.length : Int)) then ((0 : Int) ≤ i2 ∧ i2 < (a.length : Int)) ∧ laws_toFeat.E (nth a i2) (fun r => ((0 : Int) ≤ i2 ∧ i2 < (xs2.length : Int)) ∧ (-9223372036854775808 ≤ i2) ∧ I41 (xs2.set i2.toNat r) (i2 + 1) ∧ mu42 (xs2.set i2.toNat r) (i2 + 1) < mu42 xs2 i2) else Q xs2)) := h
  clear h
  have hc0 := Ct.init hO
  refine Ret_enter Try.func115 rfl 23 rfl [.tmp 2] rfl rfl ?_
  refine W_seq ?_
  refine W_reg ?_
  refine L_pu (P_assign (.slice none 0 0) rfl) ?_
  refine L_nil ?_
  refine W_seq ?_
  refine W_reg ?_
  refine L_pu (P_move (.slice A1 n2 c3) rfl) ?_
  have hl6 := hp4.le
  refine L_pu (P_len Try.underlying124 A1 n2 c3 hp4.len rfl) ?_
  obtain ⟨hb7, H⟩ := H
  refine L_make (kd := kFeat) ei91 hc0 ((⟨([] : Str), (⟨0, []⟩ : Shape), []⟩ : Feat) : Feat) ((kFeat.mk _ _ (⟨([] : Str), (⟨0, []⟩ : Shape), []⟩ : Feat) (by decide) (Sl.nil _ _ _ none 0 (by decide)) (Sl.nil _ _ _ none 0 (by decide)))) (a.length : Int) rfl rfl hb7 fun w8 A9 n10 c11 g12 hr13 hc14 h15 => ?_
  refine L_pu (P_assign (.slice A9 n10 c11) rfl) ?_
  refine L_nil ?_
  refine W_seq ?_
  refine W_seq ?_
  refine W_reg ?_
  refine L_pu (P_assign (vi 0) rfl) ?_
  refine L_nil ?_
  refine W_block ?_
  obtain ⟨I41, mu42, hI43, H⟩ := H
  refine W_loop (α := (List Feat) × Int) (fun (sv__ : (List Feat) × Int) t w32 => match sv__ with | (xs2, i2) => I41 xs2 i2 ∧ Has t [(0, .slice A1 n2 c3), (3, .slice A9 n10 c11), (4, vi i2)] ∧ Ct none w0 w32 [blk (.slice A9 n10 c11)] O ∧ Sl kFeat w32 (Fr ([blk (.slice A9 n10 c11)] ++ O)) (.slice A1 n2 c3) a ∧ Ow kFeat 79 w32 ([blk (.slice A9 n10 c11)] ++ O) (.slice A9 n10 c11) xs2) (fun (sv__ : (List Feat) × Int) => match sv__ with | (xs2, i2) => mu42 xs2 i2) ((List.replicate (a.length : Int).toNat ((⟨([] : Str), (⟨0, []⟩ : Shape), []⟩ : Feat) : Feat)), 0) ⟨hI43, ⟨rfl, rfl, rfl, trivial⟩, hc14, (hp4.st hc14.st), h15⟩ ?_
  rintro ⟨xs2, i2⟩ _ w32 ⟨hI43, hh45, hc38, h39, h40⟩
  obtain ⟨u46, rfl⟩ := Has.ins hh45
  have H := H xs2 i2 hI43
  refine W_seq ?_
  refine W_seq ?_
  refine W_reg ?_
  refine L_pu (P_move (vi i2) rfl) ?_
  refine L_pu (P_move (.slice A1 n2 c3) rfl) ?_
  have hl47 := h39.le
  refine L_pu (P_len Try.underlying124 A1 n2 c3 h39.len rfl) ?_
  refine L_pu (P_cmp i2 (a.length : Int) (decide (i2 < (a.length : Int))) rfl rfl rfl) ?_
  refine L_nil ?_
  refine W_cond (decide (i2 < (a.length : Int))) rfl (fun hq48 => ?_) (fun hq48 => ?_)
  · have H := ite_t H hq48
    refine W_skip ?_
    refine W_seq ?_
    refine W_block ?_
    refine W_reg ?_
    refine L_pu (P_move (.slice A9 n10 c11) rfl) ?_
    refine L_pu (P_move (vi i2) rfl) ?_
    refine L_pu (P_move (.slice A1 n2 c3) rfl) ?_
    refine L_pu (P_move (vi i2) rfl) ?_
    obtain ⟨hb49, H⟩ := H
    obtain ⟨ad50, cs51, hA52, hS55, hR53, hcl54⟩ := h39.get default (by decide) i2 hb49
    obtain ⟨A57, n58, c59, A62, n63, c64, rfl, hs56, h60, h65⟩ := kFeat.op hR53
    refine L_pu (P_ia Try.underlying124 se124 A1 ad50 n2 c3 h39.len i2 rfl hA52 rfl hb49) ?_
    refine L_pu (P_lda ag71 sz71 cL (ad50.add (i2.toNat * 4)) [vs ((nth a i2).Id), vi ((nth a i2).Shape.Kind), .slice A57 n58 c59, .slice A62 n63 c64] rfl rfl hcl54) ?_
    refine L_call go77 [.agg #[vs ((nth a i2).Id), vi ((nth a i2).Shape.Kind), .slice A57 n58 c59, .slice A62 n63 c64]] rfl ((laws_toFeat.calls w32 hc38.ok (nth a i2) A57 n58 c59 A62 n63 c64 hs56 h60 h65 _ H).mono ?_)
    rintro _ w67 ⟨r, A70, n71, c72, A75, n76, c77, rfl, H, g68, hk81, hk82, hs69, h73, h78⟩
    have hc83 := hc38.owns g68 hk81 hk82
    obtain ⟨hb84, H⟩ := H
    have h91 := (h40.sos g68 hk82)
    obtain ⟨ad85, cs86, hA87, hR88, hcl89⟩ := h91.get default (by decide) i2 hb84
    obtain ⟨A93, n94, c95, A98, n99, c100, rfl, hs92, h96, h101⟩ := kFeat.op hR88
    refine L_pu (P_ia Try.underlying91 se91 A9 ad85 n10 c11 h91.len i2 rfl hA87 rfl hb84) ?_
    have h103 := Ow.gv (L := [blk (.slice A70 n71 c72), blk (.slice A75 n76 c77), blk (.slice A9 n10 c11)]) (O := O) h73 hc83 (i := 0) rfl
    have hc104 := hc83.drop 0 rfl
    have h106 := (Ow.sd (L := [blk (.slice A70 n71 c72), blk (.slice A75 n76 c77), blk (.slice A9 n10 c11)]) (O := O) h78 (i := 1) rfl (j := 0) rfl (by decide))
    have h107 := Ow.gv (L := [blk (.slice A75 n76 c77), blk (.slice A9 n10 c11)]) (O := O) h106 hc104 (i := 0) rfl
    have hc108 := hc104.drop 0 rfl
    have h113 := (Ow.sd (L := [blk (.slice A75 n76 c77), blk (.slice A9 n10 c11)]) (O := O) (Ow.sd (L := [blk (.slice A70 n71 c72), blk (.slice A75 n76 c77), blk (.slice A9 n10 c11)]) (O := O) h91 (i := 2) rfl (j := 0) rfl (by decide)) (i := 1) rfl (j := 0) rfl (by decide))
    have h114 := (h103.st (.dr _ (L := [blk (.slice A75 n76 c77), blk (.slice A9 n10 c11)]) (O := O) (j := 0) rfl))
    refine L_ste0 A9 n10 c11 xs2 h113 i2 hb84 ad85 hA87 0 rfl [vs r.Id, vi r.Shape.Kind, .slice A70 n71 c72, .slice A75 n76 c77] rfl sz79 rfl r [vs ((nth xs2 i2).Id), vi ((nth xs2 i2).Shape.Kind), .slice A93 n94 c95, .slice A98 n99 c100] [vs r.Id, vi r.Shape.Kind, .slice A70 n71 c72, .slice A75 n76 c77] hcl89 rfl rfl (kFeat.mk _ _ r hs69 h114 h107) fun w110 g111 h112 => ?_
    have hc115 := hc108.wr 0 rfl g111
    refine L_nil ?_
    refine W_reg ?_
    refine L_pu (P_move (vi i2) rfl) ?_
    obtain ⟨hb117, H⟩ := H
    have hi116 : I64 (i2 + 1) := i64_succ (of_decide_eq_true hq48) hl47 hb117
    refine L_pu (P_add i2 1 rfl rfl hi116) ?_
    refine L_pu (P_assign (vi (i2 + 1)) rfl) ?_
    refine L_nil ?_
    obtain ⟨hI118, hm119⟩ := H
    have h120 := ((((h39.st (.owns _ g68 hk82)).st (.dr _ (L := [blk (.slice A70 n71 c72), blk (.slice A75 n76 c77), blk (.slice A9 n10 c11)]) (O := O) (j := 0) rfl)).st (.dr _ (L := [blk (.slice A75 n76 c77), blk (.slice A9 n10 c11)]) (O := O) (j := 0) rfl)).st (.wl (L := [blk (.slice A9 n10 c11)]) (O := O) (j := 0) rfl g111))
    exact ⟨((xs2.set i2.toNat r), i2 + 1), hm119, hI118, ⟨rfl, rfl, rfl, trivial⟩, hc115, h120, h112⟩
  · have H := ite_f H hq48
    refine W_exit (xin_hit ?_)
    refine W_seq ?_
    refine W_reg ?_
    refine L_pu (P_move (.slice A9 n10 c11) rfl) ?_
    refine L_pu (P_assign (.slice A9 n10 c11) rfl) ?_
    refine L_nil ?_
    refine W_ret ?_
    exact ⟨[.slice A9 n10 c11], ⟨_, rfl, rfl⟩, xs2, A9, n10, c11, rfl, H, hc38.gr, hc38.ok, hc38.ge, h40⟩
end Go.Proofs.Ythkeboifjlnjjaa

namespace Go.Proofs.Ythkeboifjlnjjaa
set_option linter.unusedVariables false
set_option linter.unusedSimpArgs false
set_option linter.unusedSectionVars false
theorem laws_toFeatS.law (a : List Feat) (Q : List Feat → Prop) (ha : bulk a ≤ 1048576) (hq : Q a) : laws_toFeatS.E a Q := by
  unfold laws_toFeatS.E
  exact toS_shape _ laws_toFeat.E (fun x Q => laws_toFeat.law x Q) a Q ha hq
end Go.Proofs.Ythkeboifjlnjjaa

namespace Go.Proofs.Ythkeboifjlnjjaa
open Go.RowKit
set_option linter.unusedVariables false
def laws_toCommit.E (a : Commit) (Q : Commit → Prop) : Prop :=
  laws_toIntS.E a.Up (fun r => laws_toFeatS.E a.Sheet (fun r2 => Q (⟨r, r2, a.Note⟩ : Commit)))
set_option maxHeartbeats 8000000 in
set_option maxRecDepth 100000 in
theorem laws_toCommit.calls {O : Ob} (w0 : World) (hO : Ok w0 O) (a : Commit) (A1 : Option Addr) (n2 c3 : Nat) (A6 : Option Addr) (n7 c8 : Nat) (hp4 : Sl (Kd.int .i64) w0 (Fr O) (.slice A1 n2 c3) a.Up) (hp9 : Sl kFeat w0 (Fr O) (.slice A6 n7 c8) a.Sheet) (hs11 : Lim a.Note) (Q : Commit → Prop) (h : laws_toCommit.E a Q) :
    Ret Try.prog 86 [.agg #[.slice A1 n2 c3, .slice A6 n7 c8, vs a.Note]] w0 (fun v w' => ∃ (r0 : Commit) (A0 : Option Addr) (n0 c0 : Nat) (A2 : Option Addr) (n2 c2 : Nat), v = .agg #[.slice A0 n0 c0, .slice A2 n2 c2, vs r0.Note] ∧ Q r0 ∧ Gr w0 w' none ∧ Ok w' ([blk (.slice A0 n0 c0), blk (.slice A2 n2 c2)] ++ O) ∧ (∀ b, some b ∈ [blk (.slice A0 n0 c0), blk (.slice A2 n2 c2)] → w0.heap.size ≤ b) ∧ Ow (Kd.int .i64) 3 w' ([blk (.slice A0 n0 c0), blk (.slice A2 n2 c2)] ++ O) (.slice A0 n0 c0) r0.Up ∧ Ow kFeat 79 w' ([blk (.slice A0 n0 c0), blk (.slice A2 n2 c2)] ++ O) (.slice A2 n2 c2) r0.Sheet ∧ Lim r0.Note) := by
  have H : laws_toIntS.E a.Up (fun r => laws_toFeatS.E a.Sheet (fun r2 => Q (⟨r, r2, a.Note⟩ : Commit))) := h
  clear h
  have hc0 := Ct.init hO
  refine Ret_enter Try.func86 rfl 16 rfl [.cell 2 93] rfl rfl ?_
  refine W_seq ?_
  refine W_reg ?_
  refine L_box [.slice A1 n2 c3, .slice A6 n7 c8, vs a.Note] rfl fun w12 b13 hl15 hu16 g14 hx17 => ?_
  have h19 := Fb.mk hc0.ok hl15 hx17
  have hc20 := hc0.k0 g14
  refine L_alloc [.slice none 0 0, .slice none 0 0, vs []] ze93 fun w21 b22 hl24 hu25 g23 hx26 => ?_
  have hc28 := hc20.own g23 (some b22) (oglt hl24 hu25)
  refine L_nil ?_
  refine W_seq ?_
  refine W_reg ?_
  refine L_alloc [.slice none 0 0, .slice none 0 0, vs []] ze93 fun w29 b30 hl32 hu33 g31 hx34 => ?_
  have hc36 := hc28.own g31 (some b30) (oglt hl32 hu33)
  refine L_nil ?_
  refine W_seq ?_
  refine W_reg ?_
  refine L_pu (P_fa fa126_0 ⟨b13, 0, none⟩ ⟨b13, 0, none⟩ rfl rfl) ?_
  have h37 := ((h19.st (.own _ _ g23 (oge hl24))).st (.own _ _ g31 (oge hl32)))
  refine L_pu (P_ld ag90 cL ⟨b13, 0, none⟩ (.slice A1 n2 c3) rfl (h37.cell rfl)) ?_
  refine L_call go114 [.slice A1 n2 c3] rfl ((laws_toIntS.calls w29 hc36.ok a.Up A1 n2 c3 (hp4.st hc36.st) _ H).mono ?_)
  rintro _ w38 ⟨r, A40, n41, c42, rfl, H, g39, hk46, hk47, h43⟩
  have hc48 := hc36.owns g39 hk46 hk47
  refine L_pu (P_fa fa93_0 ⟨b30, 0, none⟩ ⟨b30, 0, none⟩ rfl rfl) ?_
  have h52 := (hx34.k0 g39)
  refine L_stb b30 0 [.slice none 0 0, .slice none 0 0, vs ([] : Str)] [.slice A40 n41 c42] [.slice A40 n41 c42, .slice none 0 0, vs ([] : Str)] rfl h52 rfl sz90 rfl rfl rfl fun w49 g50 hx51 => ?_
  have hc53 := hc48.wr 1 rfl g50
  refine L_nil ?_
  refine W_seq ?_
  refine W_reg ?_
  refine L_pu (P_fa fa126_1 ⟨b13, 0, none⟩ ⟨b13, 1, none⟩ rfl rfl) ?_
  have h54 := ((h37.st (.owns _ g39 hk47)).st (.wl (L := [blk (.slice A40 n41 c42), some b30, some b22]) (O := O) (j := 1) rfl g50))
  refine L_pu (P_ld ag124 cL ⟨b13, 1, none⟩ (.slice A6 n7 c8) rfl (h54.cell rfl)) ?_
  refine L_call go115 [.slice A6 n7 c8] rfl ((laws_toFeatS.calls w49 hc53.ok a.Sheet A6 n7 c8 (hp9.st hc53.st) _ H).mono ?_)
  rintro _ w55 ⟨r2, A57, n58, c59, rfl, H, g56, hk63, hk64, h60⟩
  have hc65 := hc53.owns g56 hk63 hk64
  refine L_pu (P_fa fa93_1 ⟨b30, 0, none⟩ ⟨b30, 1, none⟩ rfl rfl) ?_
  have h69 := (hx51.k0 g56)
  refine L_stb b30 1 [.slice A40 n41 c42, .slice none 0 0, vs ([] : Str)] [.slice A57 n58 c59] [.slice A40 n41 c42, .slice A57 n58 c59, vs ([] : Str)] rfl h69 rfl sz91 rfl rfl rfl fun w66 g67 hx68 => ?_
  have hc70 := hc65.wr 2 rfl g67
  refine L_nil ?_
  refine W_seq ?_
  refine W_reg ?_
  refine L_pu (P_fa fa126_2 ⟨b13, 0, none⟩ ⟨b13, 2, none⟩ rfl rfl) ?_
  have h71 := ((h54.st (.owns _ g56 hk64)).st (.wl (L := [blk (.slice A57 n58 c59), blk (.slice A40 n41 c42), some b30, some b22]) (O := O) (j := 2) rfl g67))
  refine L_pu (P_ld ag9 cL ⟨b13, 2, none⟩ (vs a.Note) rfl (h71.cell rfl)) ?_
  refine L_pu (P_fa fa93_2 ⟨b30, 0, none⟩ ⟨b30, 2, none⟩ rfl rfl) ?_
  refine L_stb b30 2 [.slice A40 n41 c42, .slice A57 n58 c59, vs ([] : Str)] [vs a.Note] [.slice A40 n41 c42, .slice A57 n58 c59, vs a.Note] rfl hx68 rfl sz9 rfl rfl rfl fun w72 g73 hx74 => ?_
  have hc75 := hc70.wr 2 rfl g73
  refine L_nil ?_
  refine W_seq ?_
  refine W_reg ?_
  refine L_pu (P_lda ag93 sz93 cL ⟨b30, 0, none⟩ [.slice A40 n41 c42, .slice A57 n58 c59, vs a.Note] rfl rfl (hx74.cells (off := 0) rfl)) ?_
  have h79 := (Bx.sm (L := [blk (.slice A57 n58 c59), blk (.slice A40 n41 c42), some b30, some b22]) (O := O) (Bx.sm (L := [blk (.slice A57 n58 c59), blk (.slice A40 n41 c42), some b30, some b22]) (O := O) ((Bx.sm (L := [blk (.slice A40 n41 c42), some b30, some b22]) (O := O) ((hx26.k0 g31).k0 g39) hc48 (i := 2) rfl (j := 1) rfl (by decide) g50).k0 g56) hc65 (i := 3) rfl (j := 2) rfl (by decide) g67) hc70 (i := 3) rfl (j := 2) rfl (by decide) g73)
  refine L_stb b22 0 [.slice none 0 0, .slice none 0 0, vs ([] : Str)] [.slice A40 n41 c42, .slice A57 n58 c59, vs a.Note] [.slice A40 n41 c42, .slice A57 n58 c59, vs a.Note] rfl h79 rfl sz93 rfl rfl rfl fun w76 g77 hx78 => ?_
  have hc80 := hc75.wr 3 rfl g77
  refine L_nil ?_
  refine W_ret ?_
  have h81 := Bx.gv (L := [blk (.slice A57 n58 c59), blk (.slice A40 n41 c42), some b30, some b22]) (O := O) hx78 hc80 (i := 3) rfl
  have hc82 := hc80.drop 3 rfl
  have hc83 := hc82.drop 2 rfl
  have hc84 := hc83.perm (.swap _ _ _)
  have h85 := ((h81.st (.dr _ (L := [blk (.slice A57 n58 c59), blk (.slice A40 n41 c42), some b30]) (O := O) (j := 2) rfl)).st (.perm (L := [blk (.slice A57 n58 c59), blk (.slice A40 n41 c42)]) (O := O) (.swap _ _ _)))
  have h86 := (Ow.sp (L := [blk (.slice A57 n58 c59), blk (.slice A40 n41 c42)]) (O := O) (Ow.sd (L := [blk (.slice A57 n58 c59), blk (.slice A40 n41 c42), some b30]) (O := O) (Ow.sd (L := [blk (.slice A57 n58 c59), blk (.slice A40 n41 c42), some b30, some b22]) (O := O) (Ow.sw (L := [blk (.slice A57 n58 c59), blk (.slice A40 n41 c42), some b30, some b22]) (O := O) (Ow.sw (L := [blk (.slice A57 n58 c59), blk (.slice A40 n41 c42), some b30, some b22]) (O := O) (Ow.sw (L := [blk (.slice A57 n58 c59), blk (.slice A40 n41 c42), some b30, some b22]) (O := O) ((Ow.sw (L := [blk (.slice A40 n41 c42), some b30, some b22]) (O := O) h43 hc48 (i := 0) rfl (j := 1) rfl (by decide) g50).sos g56 hk64) hc65 (i := 1) rfl (j := 2) rfl (by decide) g67) hc70 (i := 1) rfl (j := 2) rfl (by decide) g73) hc75 (i := 1) rfl (j := 3) rfl (by decide) g77) (i := 1) rfl (j := 3) rfl (by decide)) (i := 1) rfl (j := 2) rfl (by decide)) (.swap _ _ _))
  have h87 := (Ow.sp (L := [blk (.slice A57 n58 c59), blk (.slice A40 n41 c42)]) (O := O) (Ow.sd (L := [blk (.slice A57 n58 c59), blk (.slice A40 n41 c42), some b30]) (O := O) (Ow.sd (L := [blk (.slice A57 n58 c59), blk (.slice A40 n41 c42), some b30, some b22]) (O := O) (Ow.sw (L := [blk (.slice A57 n58 c59), blk (.slice A40 n41 c42), some b30, some b22]) (O := O) (Ow.sw (L := [blk (.slice A57 n58 c59), blk (.slice A40 n41 c42), some b30, some b22]) (O := O) (Ow.sw (L := [blk (.slice A57 n58 c59), blk (.slice A40 n41 c42), some b30, some b22]) (O := O) h60 hc65 (i := 0) rfl (j := 2) rfl (by decide) g67) hc70 (i := 0) rfl (j := 2) rfl (by decide) g73) hc75 (i := 0) rfl (j := 3) rfl (by decide) g77) (i := 0) rfl (j := 3) rfl (by decide)) (i := 0) rfl (j := 2) rfl (by decide)) (.swap _ _ _))
  exact ⟨[.agg #[.slice A40 n41 c42, .slice A57 n58 c59, vs a.Note]], ⟨_, _, rfl, h85.1.res rfl ag93 sz93, rfl⟩, (⟨r, r2, a.Note⟩ : Commit), A40, n41, c42, A57, n58, c59, rfl, H, hc84.gr, hc84.ok, hc84.ge, h86, h87, hs11⟩
end Go.Proofs.Ythkeboifjlnjjaa

namespace Go.Proofs.Ythkeboifjlnjjaa
set_option linter.unusedVariables false
set_option linter.unusedSimpArgs false
set_option linter.unusedSectionVars false
theorem laws_toCommit.law (a : Commit) (Q : Commit → Prop) (ha : bulk a ≤ 1048576) (hq : Q a) : laws_toCommit.E a Q := by
  unfold laws_toCommit.E
  have hb : bulk a = bulk a.Up + bulk a.Sheet + bulk a.Note := rfl
  refine laws_toIntS.law _ _ (by omega) ?_
  refine laws_toFeatS.law _ _ (by omega) ?_
  exact hq
end Go.Proofs.Ythkeboifjlnjjaa

namespace Go.Proofs.Ythkeboifjlnjjaa
open Go.RowKit
set_option linter.unusedVariables false
def laws_toCommitS.E (a : List Commit) (Q : List Commit → Prop) : Prop :=
  ((0 : Int) ≤ (a.length : Int) ∧ (a.length : Int) ≤ (268435456 : Int)) ∧ (∃ (I41 : (List Commit) → Int → Prop) (mu42 : (List Commit) → Int → Nat), I41 (List.replicate (a.length : Int).toNat ((⟨[], [], ([] : Str)⟩ : Commit) : Commit)) 0 ∧ ∀ (xs2 : List Commit) (i2 : Int), I41 xs2 i2 → (if decide (i2 < (a.length : Int)) then ((0 : Int) ≤ i2 ∧ i2 < (a.length : Int)) ∧ laws_toCommit.E (nth a i2) (fun r => ((0 : Int) ≤ i2 ∧ i2 < (xs2.length : Int)) ∧ (-9223372036854775808 ≤ i2) ∧ I41 (xs2.set i2.toNat r) (i2 + 1) ∧ mu42 (xs2.set i2.toNat r) (i2 + 1) < mu42 xs2 i2) else Q xs2))
set_option maxHeartbeats 8000000 in
set_option maxRecDepth 100000 in
theorem laws_toCommitS.calls {O : Ob} (w0 : World) (hO : Ok w0 O) (a : List Commit) (A1 : Option Addr) (n2 c3 : Nat) (hp4 : Sl kCommit w0 (Fr O) (.slice A1 n2 c3) a) (Q : List Commit → Prop) (h : laws_toCommitS.E a Q) :
    Ret Try.prog 48 [.slice A1 n2 c3] w0 (fun v w' => ∃ (r0 : List Commit) (A0 : Option Addr) (n0 c0 : Nat), v = .slice A0 n0 c0 ∧ Q r0 ∧ Gr w0 w' none ∧ Ok w' ([blk (.slice A0 n0 c0)] ++ O) ∧ (∀ b, some b ∈ [blk (.slice A0 n0 c0)] → w0.heap.size ≤ b) ∧ Ow kCommit 93 w' ([blk (.slice A0 n0 c0)] ++ O) (.slice A0 n0 c0) r0) := by
  have H : ((0 : Int) ≤ (a.length : Int) ∧ (a.length : Int) ≤ (268435456 : Int)) ∧ (∃ (I41 : (List Commit) → Int → Prop) (mu42 : (List Commit) → Int → Nat), I41 (List.replicate (a.length : Int).toNat ((⟨[], [], ([] : Str)⟩ : Commit) : Commit)) 0 ∧ ∀ (xs2 : List Commit) (i2 : Int), I41 xs2 i2 → (if decide (i2 < (a.length : Int)) then ((0 : Int) ≤ i2 ∧ i2 < (a.length : Int)) ∧ laws_toCommit.E (nth a i2) (fun r => ((0 : Int) ≤ i2 ∧ i2 < (xs2.length : Int)) ∧ (-9223372036854775808 ≤ i2) ∧ I41 (xs2.set i2.toNat r) (i2 + 1) ∧ mu42 (xs2.set i2.toNat r) (i2 + 1) < mu42 xs2 i2) else Q xs2)) := h
  clear h
  have hc0 := Ct.init hO
  refine Ret_enter Try.func48 rfl 23 rfl [.tmp 2] rfl rfl ?_
  refine W_seq ?_
  refine W_reg ?_
  refine L_pu (P_assign (.slice none 0 0) rfl) ?_
  refine L_nil ?_
  refine W_seq ?_
  refine W_reg ?_
  refine L_pu (P_move (.slice A1 n2 c3) rfl) ?_
  have hl6 := hp4.le
  refine L_pu (P_len Try.underlying37 A1 n2 c3 hp4.len rfl) ?_
  obtain ⟨hb7, H⟩ := H
  refine L_make (kd := kCommit) ei43 hc0 ((⟨[], [], ([] : Str)⟩ : Commit) : Commit) ((kCommit.mk _ _ (⟨[], [], ([] : Str)⟩ : Commit) (Sl.nil _ _ _ none 0 (by decide)) (Sl.nil _ _ _ none 0 (by decide)) (by decide))) (a.length : Int) rfl rfl hb7 fun w8 A9 n10 c11 g12 hr13 hc14 h15 => ?_
  refine L_pu (P_assign (.slice A9 n10 c11) rfl) ?_
  refine L_nil ?_
  refine W_seq ?_
  refine W_seq ?_
  refine W_reg ?_
  refine L_pu (P_assign (vi 0) rfl) ?_
  refine L_nil ?_
  refine W_block ?_
  obtain ⟨I41, mu42, hI43, H⟩ := H
  refine W_loop (α := (List Commit) × Int) (fun (sv__ : (List Commit) × Int) t w32 => match sv__ with | (xs2, i2) => I41 xs2 i2 ∧ Has t [(0, .slice A1 n2 c3), (3, .slice A9 n10 c11), (4, vi i2)] ∧ Ct none w0 w32 [blk (.slice A9 n10 c11)] O ∧ Sl kCommit w32 (Fr ([blk (.slice A9 n10 c11)] ++ O)) (.slice A1 n2 c3) a ∧ Ow kCommit 93 w32 ([blk (.slice A9 n10 c11)] ++ O) (.slice A9 n10 c11) xs2) (fun (sv__ : (List Commit) × Int) => match sv__ with | (xs2, i2) => mu42 xs2 i2) ((List.replicate (a.length : Int).toNat ((⟨[], [], ([] : Str)⟩ : Commit) : Commit)), 0) ⟨hI43, ⟨rfl, rfl, rfl, trivial⟩, hc14, (hp4.st hc14.st), h15⟩ ?_
  rintro ⟨xs2, i2⟩ _ w32 ⟨hI43, hh45, hc38, h39, h40⟩
  obtain ⟨u46, rfl⟩ := Has.ins hh45
  have H := H xs2 i2 hI43
  refine W_seq ?_
  refine W_seq ?_
  refine W_reg ?_
  refine L_pu (P_move (vi i2) rfl) ?_
  refine L_pu (P_move (.slice A1 n2 c3) rfl) ?_
  have hl47 := h39.le
  refine L_pu (P_len Try.underlying37 A1 n2 c3 h39.len rfl) ?_
  refine L_pu (P_cmp i2 (a.length : Int) (decide (i2 < (a.length : Int))) rfl rfl rfl) ?_
  refine L_nil ?_
  refine W_cond (decide (i2 < (a.length : Int))) rfl (fun hq48 => ?_) (fun hq48 => ?_)
  · have H := ite_t H hq48
    refine W_skip ?_
    refine W_seq ?_
    refine W_block ?_
    refine W_reg ?_
    refine L_pu (P_move (.slice A9 n10 c11) rfl) ?_
    refine L_pu (P_move (vi i2) rfl) ?_
    refine L_pu (P_move (.slice A1 n2 c3) rfl) ?_
    refine L_pu (P_move (vi i2) rfl) ?_
    obtain ⟨hb49, H⟩ := H
    obtain ⟨ad50, cs51, hA52, hS55, hR53, hcl54⟩ := h39.get default (by decide) i2 hb49
    obtain ⟨A56, n57, c58, A61, n62, c63, rfl, h59, h64, hs66⟩ := kCommit.op hR53
    refine L_pu (P_ia Try.underlying37 se37 A1 ad50 n2 c3 h39.len i2 rfl hA52 rfl hb49) ?_
    refine L_pu (P_lda ag126 sz126 cL (ad50.add (i2.toNat * 3)) [.slice A56 n57 c58, .slice A61 n62 c63, vs ((nth a i2).Note)] rfl rfl hcl54) ?_
    refine L_call go86 [.agg #[.slice A56 n57 c58, .slice A61 n62 c63, vs ((nth a i2).Note)]] rfl ((laws_toCommit.calls w32 hc38.ok (nth a i2) A56 n57 c58 A61 n62 c63 h59 h64 hs66 _ H).mono ?_)
    rintro _ w67 ⟨r, A69, n70, c71, A74, n75, c76, rfl, H, g68, hk81, hk82, h72, h77, hs79⟩
    have hc83 := hc38.owns g68 hk81 hk82
    obtain ⟨hb84, H⟩ := H
    have h91 := (h40.sos g68 hk82)
    obtain ⟨ad85, cs86, hA87, hR88, hcl89⟩ := h91.get default (by decide) i2 hb84
    obtain ⟨A92, n93, c94, A97, n98, c99, rfl, h95, h100, hs102⟩ := kCommit.op hR88
    refine L_pu (P_ia Try.underlying43 se43 A9 ad85 n10 c11 h91.len i2 rfl hA87 rfl hb84) ?_
    have h103 := Ow.gv (L := [blk (.slice A69 n70 c71), blk (.slice A74 n75 c76), blk (.slice A9 n10 c11)]) (O := O) h72 hc83 (i := 0) rfl
    have hc104 := hc83.drop 0 rfl
    have h106 := (Ow.sd (L := [blk (.slice A69 n70 c71), blk (.slice A74 n75 c76), blk (.slice A9 n10 c11)]) (O := O) h77 (i := 1) rfl (j := 0) rfl (by decide))
    have h107 := Ow.gv (L := [blk (.slice A74 n75 c76), blk (.slice A9 n10 c11)]) (O := O) h106 hc104 (i := 0) rfl
    have hc108 := hc104.drop 0 rfl
    have h113 := (Ow.sd (L := [blk (.slice A74 n75 c76), blk (.slice A9 n10 c11)]) (O := O) (Ow.sd (L := [blk (.slice A69 n70 c71), blk (.slice A74 n75 c76), blk (.slice A9 n10 c11)]) (O := O) h91 (i := 2) rfl (j := 0) rfl (by decide)) (i := 1) rfl (j := 0) rfl (by decide))
    have h114 := (h103.st (.dr _ (L := [blk (.slice A74 n75 c76), blk (.slice A9 n10 c11)]) (O := O) (j := 0) rfl))
    refine L_ste0 A9 n10 c11 xs2 h113 i2 hb84 ad85 hA87 0 rfl [.slice A69 n70 c71, .slice A74 n75 c76, vs r.Note] rfl sz93 rfl r [.slice A92 n93 c94, .slice A97 n98 c99, vs ((nth xs2 i2).Note)] [.slice A69 n70 c71, .slice A74 n75 c76, vs r.Note] hcl89 rfl rfl (kCommit.mk _ _ r h114 h107 hs79) fun w110 g111 h112 => ?_
    have hc115 := hc108.wr 0 rfl g111
    refine L_nil ?_
    refine W_reg ?_
    refine L_pu (P_move (vi i2) rfl) ?_
    obtain ⟨hb117, H⟩ := H
    have hi116 : I64 (i2 + 1) := i64_succ (of_decide_eq_true hq48) hl47 hb117
    refine L_pu (P_add i2 1 rfl rfl hi116) ?_
    refine L_pu (P_assign (vi (i2 + 1)) rfl) ?_
    refine L_nil ?_
    obtain ⟨hI118, hm119⟩ := H
    have h120 := ((((h39.st (.owns _ g68 hk82)).st (.dr _ (L := [blk (.slice A69 n70 c71), blk (.slice A74 n75 c76), blk (.slice A9 n10 c11)]) (O := O) (j := 0) rfl)).st (.dr _ (L := [blk (.slice A74 n75 c76), blk (.slice A9 n10 c11)]) (O := O) (j := 0) rfl)).st (.wl (L := [blk (.slice A9 n10 c11)]) (O := O) (j := 0) rfl g111))
    exact ⟨((xs2.set i2.toNat r), i2 + 1), hm119, hI118, ⟨rfl, rfl, rfl, trivial⟩, hc115, h120, h112⟩
  · have H := ite_f H hq48
    refine W_exit (xin_hit ?_)
    refine W_seq ?_
    refine W_reg ?_
    refine L_pu (P_move (.slice A9 n10 c11) rfl) ?_
    refine L_pu (P_assign (.slice A9 n10 c11) rfl) ?_
    refine L_nil ?_
    refine W_ret ?_
    exact ⟨[.slice A9 n10 c11], ⟨_, rfl, rfl⟩, xs2, A9, n10, c11, rfl, H, hc38.gr, hc38.ok, hc38.ge, h40⟩
end Go.Proofs.Ythkeboifjlnjjaa

namespace Go.Proofs.Ythkeboifjlnjjaa
set_option linter.unusedVariables false
set_option linter.unusedSimpArgs false
set_option linter.unusedSectionVars false
theorem laws_toCommitS.law (a : List Commit) (Q : List Commit → Prop) (ha : bulk a ≤ 1048576) (hq : Q a) : laws_toCommitS.E a Q := by
  unfold laws_toCommitS.E
  exact toS_shape _ laws_toCommit.E (fun x Q => laws_toCommit.law x Q) a Q ha hq
end Go.Proofs.Ythkeboifjlnjjaa

namespace Go.Proofs.Ythkeboifjlnjjaa
open Go.RowKit
set_option linter.unusedVariables false
def laws_toHead.E (a : Head) (Q : Head → Prop) : Prop :=
  Q a
set_option maxHeartbeats 8000000 in
set_option maxRecDepth 100000 in
theorem laws_toHead.calls {O : Ob} (w0 : World) (hO : Ok w0 O) (a : Head) (hs1 : Lim a.Name) (Q : Head → Prop) (h : laws_toHead.E a Q) :
    Ret Try.prog 87 [.agg #[vs a.Name, vi a.At]] w0 (fun v w' => ∃ (r0 : Head), v = .agg #[vs r0.Name, vi r0.At] ∧ Q r0 ∧ Gr w0 w' none ∧ Lim r0.Name) := by
  have H : Q a := h
  clear h
  have hc0 := Ct.init hO
  refine Ret_enter Try.func87 rfl 11 rfl [.cell 2 95] rfl rfl ?_
  refine W_seq ?_
  refine W_reg ?_
  refine L_box [vs a.Name, vi a.At] rfl fun w2 b3 hl5 hu6 g4 hx7 => ?_
  have h9 := Fb.mk hc0.ok hl5 hx7
  have hc10 := hc0.k0 g4
  refine L_alloc [vs [], .int .i64 0] ze95 fun w11 b12 hl14 hu15 g13 hx16 => ?_
  have hc18 := hc10.own g13 (some b12) (oglt hl14 hu15)
  refine L_nil ?_
  refine W_seq ?_
  refine W_reg ?_
  refine L_alloc [vs [], .int .i64 0] ze95 fun w19 b20 hl22 hu23 g21 hx24 => ?_
  have hc26 := hc18.own g21 (some b20) (oglt hl22 hu23)
  refine L_nil ?_
  refine W_seq ?_
  refine W_reg ?_
  refine L_pu (P_fa fa128_0 ⟨b3, 0, none⟩ ⟨b3, 0, none⟩ rfl rfl) ?_
  have h27 := ((h9.st (.own _ _ g13 (oge hl14))).st (.own _ _ g21 (oge hl22)))
  refine L_pu (P_ld ag9 cL ⟨b3, 0, none⟩ (vs a.Name) rfl (h27.cell rfl)) ?_
  refine L_pu (P_fa fa95_0 ⟨b20, 0, none⟩ ⟨b20, 0, none⟩ rfl rfl) ?_
  refine L_stb b20 0 [vs ([] : Str), vi 0] [vs a.Name] [vs a.Name, vi 0] rfl hx24 rfl sz9 rfl rfl rfl fun w28 g29 hx30 => ?_
  have hc31 := hc26.wr 0 rfl g29
  refine L_nil ?_
  refine W_seq ?_
  refine W_reg ?_
  refine L_pu (P_fa fa128_1 ⟨b3, 0, none⟩ ⟨b3, 1, none⟩ rfl rfl) ?_
  have h32 := (h27.st (.wl (L := [some b20, some b12]) (O := O) (j := 0) rfl g29))
  refine L_pu (P_ld ag3 cL ⟨b3, 1, none⟩ (vi a.At) rfl (h32.cell rfl)) ?_
  refine L_pu (P_fa fa95_1 ⟨b20, 0, none⟩ ⟨b20, 1, none⟩ rfl rfl) ?_
  refine L_stb b20 1 [vs a.Name, vi 0] [vi a.At] [vs a.Name, vi a.At] rfl hx30 rfl sz3 rfl rfl rfl fun w33 g34 hx35 => ?_
  have hc36 := hc31.wr 0 rfl g34
  refine L_nil ?_
  refine W_seq ?_
  refine W_reg ?_
  refine L_pu (P_lda ag95 sz95 cL ⟨b20, 0, none⟩ [vs a.Name, vi a.At] rfl rfl (hx35.cells (off := 0) rfl)) ?_
  have h40 := (Bx.sm (L := [some b20, some b12]) (O := O) (Bx.sm (L := [some b20, some b12]) (O := O) (hx16.k0 g21) hc26 (i := 1) rfl (j := 0) rfl (by decide) g29) hc31 (i := 1) rfl (j := 0) rfl (by decide) g34)
  refine L_stb b12 0 [vs ([] : Str), vi 0] [vs a.Name, vi a.At] [vs a.Name, vi a.At] rfl h40 rfl sz95 rfl rfl rfl fun w37 g38 hx39 => ?_
  have hc41 := hc36.wr 1 rfl g38
  refine L_nil ?_
  refine W_ret ?_
  have h42 := Bx.gv (L := [some b20, some b12]) (O := O) hx39 hc41 (i := 1) rfl
  have hc43 := hc41.drop 1 rfl
  have hc44 := hc43.drop 0 rfl
  have h45 := (h42.st (.dr _ (L := [some b20]) (O := O) (j := 0) rfl))
  exact ⟨[.agg #[vs a.Name, vi a.At]], ⟨_, _, rfl, h45.1.res rfl ag95 sz95, rfl⟩, a, rfl, H, hc44.gr, hs1⟩
def laws_toHead.m (a : Head) : Head := a
theorem laws_toHead.fn (a : Head) : laws_toHead.E a (fun r => r = laws_toHead.m a) := by
  unfold laws_toHead.E laws_toHead.m
  rfl
end Go.Proofs.Ythkeboifjlnjjaa

namespace Go.Proofs.Ythkeboifjlnjjaa
set_option linter.unusedVariables false
set_option linter.unusedSimpArgs false
set_option linter.unusedSectionVars false
theorem laws_toHead.law (a : Head) (Q : Head → Prop) (ha : bulk a ≤ 1048576) (hq : Q a) : laws_toHead.E a Q := by
  unfold laws_toHead.E
  have hb : bulk a = bulk a.Name + bulk a.At := rfl
  exact hq
end Go.Proofs.Ythkeboifjlnjjaa

namespace Go.Proofs.Ythkeboifjlnjjaa
open Go.RowKit
set_option linter.unusedVariables false
def laws_toHeadS.E (a : List Head) (Q : List Head → Prop) : Prop :=
  ((0 : Int) ≤ (a.length : Int) ∧ (a.length : Int) ≤ (268435456 : Int)) ∧ (∃ (I41 : (List Head) → Int → Prop) (mu42 : (List Head) → Int → Nat), I41 (List.replicate (a.length : Int).toNat ((⟨([] : Str), 0⟩ : Head) : Head)) 0 ∧ ∀ (xs2 : List Head) (i2 : Int), I41 xs2 i2 → (if decide (i2 < (a.length : Int)) then ((0 : Int) ≤ i2 ∧ i2 < (a.length : Int)) ∧ laws_toHead.E (nth a i2) (fun r => ((0 : Int) ≤ i2 ∧ i2 < (xs2.length : Int)) ∧ (-9223372036854775808 ≤ i2) ∧ I41 (xs2.set i2.toNat r) (i2 + 1) ∧ mu42 (xs2.set i2.toNat r) (i2 + 1) < mu42 xs2 i2) else Q xs2))
set_option maxHeartbeats 8000000 in
set_option maxRecDepth 100000 in
theorem laws_toHeadS.calls {O : Ob} (w0 : World) (hO : Ok w0 O) (a : List Head) (A1 : Option Addr) (n2 c3 : Nat) (hp4 : Sl kHead w0 (Fr O) (.slice A1 n2 c3) a) (Q : List Head → Prop) (h : laws_toHeadS.E a Q) :
    Ret Try.prog 49 [.slice A1 n2 c3] w0 (fun v w' => ∃ (r0 : List Head) (A0 : Option Addr) (n0 c0 : Nat), v = .slice A0 n0 c0 ∧ Q r0 ∧ Gr w0 w' none ∧ Ok w' ([blk (.slice A0 n0 c0)] ++ O) ∧ (∀ b, some b ∈ [blk (.slice A0 n0 c0)] → w0.heap.size ≤ b) ∧ Ow kHead 95 w' ([blk (.slice A0 n0 c0)] ++ O) (.slice A0 n0 c0) r0) := by
  have H : ((0 : Int) ≤ (a.length : Int) ∧ (a.length : Int) ≤ (268435456 : Int)) ∧ (∃ (I41 : (List Head) → Int → Prop) (mu42 : (List Head) → Int → Nat), I41 (List.replicate (a.length : Int).toNat ((⟨([] : Str), 0⟩ : Head) : Head)) 0 ∧ ∀ (xs2 : List Head) (i2 : Int), I41 xs2 i2 → (if decide (i2 < (a.length : Int)) then ((0 : Int) ≤ i2 ∧ i2 < (a.length : Int)) ∧ laws_toHead.E (nth a i2) (fun r => ((0 : Int) ≤ i2 ∧ i2 < (xs2.length : Int)) ∧ (-9223372036854775808 ≤ i2) ∧ I41 (xs2.set i2.toNat r) (i2 + 1) ∧ mu42 (xs2.set i2.toNat r) (i2 + 1) < mu42 xs2 i2) else Q xs2)) := h
  clear h
  have hc0 := Ct.init hO
  refine Ret_enter Try.func49 rfl 23 rfl [.tmp 2] rfl rfl ?_
  refine W_seq ?_
  refine W_reg ?_
  refine L_pu (P_assign (.slice none 0 0) rfl) ?_
  refine L_nil ?_
  refine W_seq ?_
  refine W_reg ?_
  refine L_pu (P_move (.slice A1 n2 c3) rfl) ?_
  have hl6 := hp4.le
  refine L_pu (P_len Try.underlying38 A1 n2 c3 hp4.len rfl) ?_
  obtain ⟨hb7, H⟩ := H
  refine L_make (kd := kHead) ei44 hc0 ((⟨([] : Str), 0⟩ : Head) : Head) ((kHead.mk _ _ (⟨([] : Str), 0⟩ : Head) (by decide))) (a.length : Int) rfl rfl hb7 fun w8 A9 n10 c11 g12 hr13 hc14 h15 => ?_
  refine L_pu (P_assign (.slice A9 n10 c11) rfl) ?_
  refine L_nil ?_
  refine W_seq ?_
  refine W_seq ?_
  refine W_reg ?_
  refine L_pu (P_assign (vi 0) rfl) ?_
  refine L_nil ?_
  refine W_block ?_
  obtain ⟨I41, mu42, hI43, H⟩ := H
  refine W_loop (α := (List Head) × Int) (fun (sv__ : (List Head) × Int) t w32 => match sv__ with | (xs2, i2) => I41 xs2 i2 ∧ Has t [(0, .slice A1 n2 c3), (3, .slice A9 n10 c11), (4, vi i2)] ∧ Ct none w0 w32 [blk (.slice A9 n10 c11)] O ∧ Sl kHead w32 (Fr ([blk (.slice A9 n10 c11)] ++ O)) (.slice A1 n2 c3) a ∧ Ow kHead 95 w32 ([blk (.slice A9 n10 c11)] ++ O) (.slice A9 n10 c11) xs2) (fun (sv__ : (List Head) × Int) => match sv__ with | (xs2, i2) => mu42 xs2 i2) ((List.replicate (a.length : Int).toNat ((⟨([] : Str), 0⟩ : Head) : Head)), 0) ⟨hI43, ⟨rfl, rfl, rfl, trivial⟩, hc14, (hp4.st hc14.st), h15⟩ ?_
  rintro ⟨xs2, i2⟩ _ w32 ⟨hI43, hh45, hc38, h39, h40⟩
  obtain ⟨u46, rfl⟩ := Has.ins hh45
  have H := H xs2 i2 hI43
  refine W_seq ?_
  refine W_seq ?_
  refine W_reg ?_
  refine L_pu (P_move (vi i2) rfl) ?_
  refine L_pu (P_move (.slice A1 n2 c3) rfl) ?_
  have hl47 := h39.le
  refine L_pu (P_len Try.underlying38 A1 n2 c3 h39.len rfl) ?_
  refine L_pu (P_cmp i2 (a.length : Int) (decide (i2 < (a.length : Int))) rfl rfl rfl) ?_
  refine L_nil ?_
  refine W_cond (decide (i2 < (a.length : Int))) rfl (fun hq48 => ?_) (fun hq48 => ?_)
  · have H := ite_t H hq48
    refine W_skip ?_
    refine W_seq ?_
    refine W_block ?_
    refine W_reg ?_
    refine L_pu (P_move (.slice A9 n10 c11) rfl) ?_
    refine L_pu (P_move (vi i2) rfl) ?_
    refine L_pu (P_move (.slice A1 n2 c3) rfl) ?_
    refine L_pu (P_move (vi i2) rfl) ?_
    obtain ⟨hb49, H⟩ := H
    obtain ⟨ad50, cs51, hA52, hS55, hR53, hcl54⟩ := h39.get default (by decide) i2 hb49
    obtain ⟨rfl, hs56⟩ := kHead.op hR53
    refine L_pu (P_ia Try.underlying38 se38 A1 ad50 n2 c3 h39.len i2 rfl hA52 rfl hb49) ?_
    refine L_pu (P_lda ag128 sz128 cL (ad50.add (i2.toNat * 2)) [vs ((nth a i2).Name), vi ((nth a i2).At)] rfl rfl hcl54) ?_
    refine L_call go87 [.agg #[vs ((nth a i2).Name), vi ((nth a i2).At)]] rfl ((laws_toHead.calls w32 hc38.ok (nth a i2) hs56 _ H).mono ?_)
    rintro _ w57 ⟨r, rfl, H, g58, hs59⟩
    have hc63 := hc38.k0 g58
    obtain ⟨hb64, H⟩ := H
    have h71 := (h40.sn g58)
    obtain ⟨ad65, cs66, hA67, hR68, hcl69⟩ := h71.get default (by decide) i2 hb64
    obtain ⟨rfl, hs72⟩ := kHead.op hR68
    refine L_pu (P_ia Try.underlying44 se44 A9 ad65 n10 c11 h71.len i2 rfl hA67 rfl hb64) ?_
    refine L_ste0 A9 n10 c11 xs2 h71 i2 hb64 ad65 hA67 0 rfl [vs r.Name, vi r.At] rfl sz95 rfl r [vs ((nth xs2 i2).Name), vi ((nth xs2 i2).At)] [vs r.Name, vi r.At] hcl69 rfl rfl (kHead.mk _ _ r hs59) fun w73 g74 h75 => ?_
    have hc76 := hc63.wr 0 rfl g74
    refine L_nil ?_
    refine W_reg ?_
    refine L_pu (P_move (vi i2) rfl) ?_
    obtain ⟨hb78, H⟩ := H
    have hi77 : I64 (i2 + 1) := i64_succ (of_decide_eq_true hq48) hl47 hb78
    refine L_pu (P_add i2 1 rfl rfl hi77) ?_
    refine L_pu (P_assign (vi (i2 + 1)) rfl) ?_
    refine L_nil ?_
    obtain ⟨hI79, hm80⟩ := H
    have h81 := ((h39.st (.new _ g58)).st (.wl (L := [blk (.slice A9 n10 c11)]) (O := O) (j := 0) rfl g74))
    exact ⟨((xs2.set i2.toNat r), i2 + 1), hm80, hI79, ⟨rfl, rfl, rfl, trivial⟩, hc76, h81, h75⟩
  · have H := ite_f H hq48
    refine W_exit (xin_hit ?_)
    refine W_seq ?_
    refine W_reg ?_
    refine L_pu (P_move (.slice A9 n10 c11) rfl) ?_
    refine L_pu (P_assign (.slice A9 n10 c11) rfl) ?_
    refine L_nil ?_
    refine W_ret ?_
    exact ⟨[.slice A9 n10 c11], ⟨_, rfl, rfl⟩, xs2, A9, n10, c11, rfl, H, hc38.gr, hc38.ok, hc38.ge, h40⟩
end Go.Proofs.Ythkeboifjlnjjaa

namespace Go.Proofs.Ythkeboifjlnjjaa
set_option linter.unusedVariables false
set_option linter.unusedSimpArgs false
set_option linter.unusedSectionVars false
theorem laws_toHeadS.law (a : List Head) (Q : List Head → Prop) (ha : bulk a ≤ 1048576) (hq : Q a) : laws_toHeadS.E a Q := by
  unfold laws_toHeadS.E
  exact toS_shape _ laws_toHead.E (fun x Q => laws_toHead.law x Q) a Q ha hq
end Go.Proofs.Ythkeboifjlnjjaa

namespace Go.Proofs.Ythkeboifjlnjjaa
open Go.RowKit
set_option linter.unusedVariables false
def laws_toRepo.E (a : Repo) (Q : Repo → Prop) : Prop :=
  laws_toCommitS.E a.Commits (fun r => laws_toHeadS.E a.Heads (fun r2 => Q (⟨r, r2⟩ : Repo)))
set_option maxHeartbeats 8000000 in
set_option maxRecDepth 100000 in
theorem laws_toRepo.calls {O : Ob} (w0 : World) (hO : Ok w0 O) (a : Repo) (A1 : Option Addr) (n2 c3 : Nat) (A6 : Option Addr) (n7 c8 : Nat) (hp4 : Sl kCommit w0 (Fr O) (.slice A1 n2 c3) a.Commits) (hp9 : Sl kHead w0 (Fr O) (.slice A6 n7 c8) a.Heads) (Q : Repo → Prop) (h : laws_toRepo.E a Q) :
    Ret Try.prog 20 [.agg #[.slice A1 n2 c3, .slice A6 n7 c8]] w0 (fun v w' => ∃ (r0 : Repo) (A0 : Option Addr) (n0 c0 : Nat) (A2 : Option Addr) (n2 c2 : Nat), v = .agg #[.slice A0 n0 c0, .slice A2 n2 c2] ∧ Q r0 ∧ Gr w0 w' none ∧ Ok w' ([blk (.slice A0 n0 c0), blk (.slice A2 n2 c2)] ++ O) ∧ (∀ b, some b ∈ [blk (.slice A0 n0 c0), blk (.slice A2 n2 c2)] → w0.heap.size ≤ b) ∧ Ow kCommit 93 w' ([blk (.slice A0 n0 c0), blk (.slice A2 n2 c2)] ++ O) (.slice A0 n0 c0) r0.Commits ∧ Ow kHead 95 w' ([blk (.slice A0 n0 c0), blk (.slice A2 n2 c2)] ++ O) (.slice A2 n2 c2) r0.Heads) := by
  have H : laws_toCommitS.E a.Commits (fun r => laws_toHeadS.E a.Heads (fun r2 => Q (⟨r, r2⟩ : Repo))) := h
  clear h
  have hc0 := Ct.init hO
  refine Ret_enter Try.func20 rfl 13 rfl [.cell 2 46] rfl rfl ?_
  refine W_seq ?_
  refine W_reg ?_
  refine L_box [.slice A1 n2 c3, .slice A6 n7 c8] rfl fun w11 b12 hl14 hu15 g13 hx16 => ?_
  have h18 := Fb.mk hc0.ok hl14 hx16
  have hc19 := hc0.k0 g13
  refine L_alloc [.slice none 0 0, .slice none 0 0] ze46 fun w20 b21 hl23 hu24 g22 hx25 => ?_
  have hc27 := hc19.own g22 (some b21) (oglt hl23 hu24)
  refine L_nil ?_
  refine W_seq ?_
  refine W_reg ?_
  refine L_alloc [.slice none 0 0, .slice none 0 0] ze46 fun w28 b29 hl31 hu32 g30 hx33 => ?_
  have hc35 := hc27.own g30 (some b29) (oglt hl31 hu32)
  refine L_nil ?_
  refine W_seq ?_
  refine W_reg ?_
  refine L_pu (P_fa fa40_0 ⟨b12, 0, none⟩ ⟨b12, 0, none⟩ rfl rfl) ?_
  have h36 := ((h18.st (.own _ _ g22 (oge hl23))).st (.own _ _ g30 (oge hl31)))
  refine L_pu (P_ld ag37 cL ⟨b12, 0, none⟩ (.slice A1 n2 c3) rfl (h36.cell rfl)) ?_
  refine L_call go48 [.slice A1 n2 c3] rfl ((laws_toCommitS.calls w28 hc35.ok a.Commits A1 n2 c3 (hp4.st hc35.st) _ H).mono ?_)
  rintro _ w37 ⟨r, A39, n40, c41, rfl, H, g38, hk45, hk46, h42⟩
  have hc47 := hc35.owns g38 hk45 hk46
  refine L_pu (P_fa fa46_0 ⟨b29, 0, none⟩ ⟨b29, 0, none⟩ rfl rfl) ?_
  have h51 := (hx33.k0 g38)
  refine L_stb b29 0 [.slice none 0 0, .slice none 0 0] [.slice A39 n40 c41] [.slice A39 n40 c41, .slice none 0 0] rfl h51 rfl sz43 rfl rfl rfl fun w48 g49 hx50 => ?_
  have hc52 := hc47.wr 1 rfl g49
  refine L_nil ?_
  refine W_seq ?_
  refine W_reg ?_
  refine L_pu (P_fa fa40_1 ⟨b12, 0, none⟩ ⟨b12, 1, none⟩ rfl rfl) ?_
  have h53 := ((h36.st (.owns _ g38 hk46)).st (.wl (L := [blk (.slice A39 n40 c41), some b29, some b21]) (O := O) (j := 1) rfl g49))
  refine L_pu (P_ld ag38 cL ⟨b12, 1, none⟩ (.slice A6 n7 c8) rfl (h53.cell rfl)) ?_
  refine L_call go49 [.slice A6 n7 c8] rfl ((laws_toHeadS.calls w48 hc52.ok a.Heads A6 n7 c8 (hp9.st hc52.st) _ H).mono ?_)
  rintro _ w54 ⟨r2, A56, n57, c58, rfl, H, g55, hk62, hk63, h59⟩
  have hc64 := hc52.owns g55 hk62 hk63
  refine L_pu (P_fa fa46_1 ⟨b29, 0, none⟩ ⟨b29, 1, none⟩ rfl rfl) ?_
  have h68 := (hx50.k0 g55)
  refine L_stb b29 1 [.slice A39 n40 c41, .slice none 0 0] [.slice A56 n57 c58] [.slice A39 n40 c41, .slice A56 n57 c58] rfl h68 rfl sz44 rfl rfl rfl fun w65 g66 hx67 => ?_
  have hc69 := hc64.wr 2 rfl g66
  refine L_nil ?_
  refine W_seq ?_
  refine W_reg ?_
  refine L_pu (P_lda ag46 sz46 cL ⟨b29, 0, none⟩ [.slice A39 n40 c41, .slice A56 n57 c58] rfl rfl (hx67.cells (off := 0) rfl)) ?_
  have h73 := (Bx.sm (L := [blk (.slice A56 n57 c58), blk (.slice A39 n40 c41), some b29, some b21]) (O := O) ((Bx.sm (L := [blk (.slice A39 n40 c41), some b29, some b21]) (O := O) ((hx25.k0 g30).k0 g38) hc47 (i := 2) rfl (j := 1) rfl (by decide) g49).k0 g55) hc64 (i := 3) rfl (j := 2) rfl (by decide) g66)
  refine L_stb b21 0 [.slice none 0 0, .slice none 0 0] [.slice A39 n40 c41, .slice A56 n57 c58] [.slice A39 n40 c41, .slice A56 n57 c58] rfl h73 rfl sz46 rfl rfl rfl fun w70 g71 hx72 => ?_
  have hc74 := hc69.wr 3 rfl g71
  refine L_nil ?_
  refine W_ret ?_
  have h75 := Bx.gv (L := [blk (.slice A56 n57 c58), blk (.slice A39 n40 c41), some b29, some b21]) (O := O) hx72 hc74 (i := 3) rfl
  have hc76 := hc74.drop 3 rfl
  have hc77 := hc76.drop 2 rfl
  have hc78 := hc77.perm (.swap _ _ _)
  have h79 := ((h75.st (.dr _ (L := [blk (.slice A56 n57 c58), blk (.slice A39 n40 c41), some b29]) (O := O) (j := 2) rfl)).st (.perm (L := [blk (.slice A56 n57 c58), blk (.slice A39 n40 c41)]) (O := O) (.swap _ _ _)))
  have h80 := (Ow.sp (L := [blk (.slice A56 n57 c58), blk (.slice A39 n40 c41)]) (O := O) (Ow.sd (L := [blk (.slice A56 n57 c58), blk (.slice A39 n40 c41), some b29]) (O := O) (Ow.sd (L := [blk (.slice A56 n57 c58), blk (.slice A39 n40 c41), some b29, some b21]) (O := O) (Ow.sw (L := [blk (.slice A56 n57 c58), blk (.slice A39 n40 c41), some b29, some b21]) (O := O) (Ow.sw (L := [blk (.slice A56 n57 c58), blk (.slice A39 n40 c41), some b29, some b21]) (O := O) ((Ow.sw (L := [blk (.slice A39 n40 c41), some b29, some b21]) (O := O) h42 hc47 (i := 0) rfl (j := 1) rfl (by decide) g49).sos g55 hk63) hc64 (i := 1) rfl (j := 2) rfl (by decide) g66) hc69 (i := 1) rfl (j := 3) rfl (by decide) g71) (i := 1) rfl (j := 3) rfl (by decide)) (i := 1) rfl (j := 2) rfl (by decide)) (.swap _ _ _))
  have h81 := (Ow.sp (L := [blk (.slice A56 n57 c58), blk (.slice A39 n40 c41)]) (O := O) (Ow.sd (L := [blk (.slice A56 n57 c58), blk (.slice A39 n40 c41), some b29]) (O := O) (Ow.sd (L := [blk (.slice A56 n57 c58), blk (.slice A39 n40 c41), some b29, some b21]) (O := O) (Ow.sw (L := [blk (.slice A56 n57 c58), blk (.slice A39 n40 c41), some b29, some b21]) (O := O) (Ow.sw (L := [blk (.slice A56 n57 c58), blk (.slice A39 n40 c41), some b29, some b21]) (O := O) h59 hc64 (i := 0) rfl (j := 2) rfl (by decide) g66) hc69 (i := 0) rfl (j := 3) rfl (by decide) g71) (i := 0) rfl (j := 3) rfl (by decide)) (i := 0) rfl (j := 2) rfl (by decide)) (.swap _ _ _))
  exact ⟨[.agg #[.slice A39 n40 c41, .slice A56 n57 c58]], ⟨_, _, rfl, h79.1.res rfl ag46 sz46, rfl⟩, (⟨r, r2⟩ : Repo), A39, n40, c41, A56, n57, c58, rfl, H, hc78.gr, hc78.ok, hc78.ge, h80, h81⟩
end Go.Proofs.Ythkeboifjlnjjaa

namespace Go.Proofs.Ythkeboifjlnjjaa
set_option linter.unusedVariables false
set_option linter.unusedSimpArgs false
set_option linter.unusedSectionVars false
theorem laws_toRepo.law (a : Repo) (Q : Repo → Prop) (ha : bulk a ≤ 1048576) (hq : Q a) : laws_toRepo.E a Q := by
  unfold laws_toRepo.E
  have hb : bulk a = bulk a.Commits + bulk a.Heads := rfl
  refine laws_toCommitS.law _ _ (by omega) ?_
  refine laws_toHeadS.law _ _ (by omega) ?_
  exact hq
end Go.Proofs.Ythkeboifjlnjjaa

namespace Go.Proofs.Ythkeboifjlnjjaa
open Go.RowKit
set_option linter.unusedVariables false
def spec_l7Up.E (up : List Int) (at_ : Int) (Q : Bool → Prop) : Prop :=
  (∃ (I18 : Int → Prop) (mu19 : Int → Nat), I18 0 ∧ ∀ (i2 : Int), I18 i2 → (if decide (i2 < (up.length : Int)) then ((0 : Int) ≤ i2 ∧ i2 < (up.length : Int)) ∧ (if decide ((nth up i2) < 0) then Q false else ((0 : Int) ≤ i2 ∧ i2 < (up.length : Int)) ∧ (if decide ((nth up i2) ≥ at_) then Q false else (-9223372036854775808 ≤ i2) ∧ I18 (i2 + 1) ∧ mu19 (i2 + 1) < mu19 i2)) else (if decide ((up.length : Int) ≤ 2) then (if (decide ((up.length : Int) > 0)) == (decide (at_ > 0)) then (if decide ((up.length : Int) < 2) then Q true else ((0 : Int) ≤ 0 ∧ 0 < (up.length : Int)) ∧ ((0 : Int) ≤ 1 ∧ 1 < (up.length : Int)) ∧ Q ((nth up 0) != (nth up 1))) else Q false) else Q false)))
set_option maxHeartbeats 8000000 in
set_option maxRecDepth 100000 in
theorem spec_l7Up.calls {O : Ob} (w0 : World) (hO : Ok w0 O) (up : List Int) (A1 : Option Addr) (n2 c3 : Nat) (hp4 : Sl (Kd.int .i64) w0 (Fr O) (.slice A1 n2 c3) up) (at_ : Int) (Q : Bool → Prop) (h : spec_l7Up.E up at_ Q) :
    Ret Try.prog 55 [.slice A1 n2 c3, vi at_] w0 (fun v w' => ∃ (r0 : Bool), v = vb r0 ∧ Q r0 ∧ Gr w0 w' none) := by
  have H : (∃ (I18 : Int → Prop) (mu19 : Int → Nat), I18 0 ∧ ∀ (i2 : Int), I18 i2 → (if decide (i2 < (up.length : Int)) then ((0 : Int) ≤ i2 ∧ i2 < (up.length : Int)) ∧ (if decide ((nth up i2) < 0) then Q false else ((0 : Int) ≤ i2 ∧ i2 < (up.length : Int)) ∧ (if decide ((nth up i2) ≥ at_) then Q false else (-9223372036854775808 ≤ i2) ∧ I18 (i2 + 1) ∧ mu19 (i2 + 1) < mu19 i2)) else (if decide ((up.length : Int) ≤ 2) then (if (decide ((up.length : Int) > 0)) == (decide (at_ > 0)) then (if decide ((up.length : Int) < 2) then Q true else ((0 : Int) ≤ 0 ∧ 0 < (up.length : Int)) ∧ ((0 : Int) ≤ 1 ∧ 1 < (up.length : Int)) ∧ Q ((nth up 0) != (nth up 1))) else Q false) else Q false))) := h
  clear h
  have hc0 := Ct.init hO
  refine Ret_enter Try.func55 rfl 50 rfl [.tmp 4] rfl rfl ?_
  refine W_seq ?_
  refine W_reg ?_
  refine L_pu (P_assign (vb false) rfl) ?_
  refine L_nil ?_
  refine W_seq ?_
  refine W_seq ?_
  refine W_reg ?_
  refine L_pu (P_assign (vi 0) rfl) ?_
  refine L_nil ?_
  refine W_block ?_
  obtain ⟨I18, mu19, hI20, H⟩ := H
  refine W_loop (α := Int) (fun (sv__ : Int) t w14 => match sv__ with | i2 => I18 i2 ∧ Has t [(0, .slice A1 n2 c3), (1, vi at_), (5, vi i2)] ∧ Ct none w0 w14 [] O ∧ Sl (Kd.int .i64) w14 (Fr ([] ++ O)) (.slice A1 n2 c3) up) (fun (sv__ : Int) => match sv__ with | i2 => mu19 i2) 0 ⟨hI20, ⟨rfl, rfl, rfl, trivial⟩, hc0, hp4⟩ ?_
  rintro i2 _ w14 ⟨hI20, hh22, hc16, h17⟩
  obtain ⟨u23, rfl⟩ := Has.ins hh22
  have H := H i2 hI20
  refine W_seq ?_
  refine W_seq ?_
  refine W_reg ?_
  refine L_pu (P_move (vi i2) rfl) ?_
  refine L_pu (P_move (.slice A1 n2 c3) rfl) ?_
  have hl24 := h17.le
  refine L_pu (P_len Try.underlying90 A1 n2 c3 h17.len rfl) ?_
  refine L_pu (P_cmp i2 (up.length : Int) (decide (i2 < (up.length : Int))) rfl rfl rfl) ?_
  refine L_nil ?_
  refine W_cond (decide (i2 < (up.length : Int))) rfl (fun hq25 => ?_) (fun hq25 => ?_)
  · have H := ite_t H hq25
    refine W_skip ?_
    refine W_seq ?_
    refine W_block ?_
    refine W_seq ?_
    refine W_reg ?_
    refine L_pu (P_move (.slice A1 n2 c3) rfl) ?_
    refine L_pu (P_move (vi i2) rfl) ?_
    obtain ⟨hb26, H⟩ := H
    obtain ⟨ad27, cs28, hA29, hS32, hR30, hcl31⟩ := h17.get default (by decide) i2 hb26
    obtain rfl := Kd.int.op hR30
    refine L_pu (P_ia Try.underlying90 se90 A1 ad27 n2 c3 h17.len i2 rfl hA29 rfl hb26) ?_
    refine L_pu (P_ld ag3 cL (ad27.add (i2.toNat * 1)) (vi (nth up i2)) rfl (hcl31 0 _ rfl)) ?_
    refine L_pu (P_cmp (nth up i2) 0 (decide ((nth up i2) < 0)) rfl rfl rfl) ?_
    refine L_pu (P_move (vb (decide ((nth up i2) < 0))) rfl) ?_
    rcases bool_or (decide ((nth up i2) < 0)) with hq33 | hq33
    · have H := ite_t H hq33
      refine L_pass (dj := 17) rfl rfl (.inl (by exact congrArg Value.bool hq33)) ?_
      refine L_pass (dj := 17) rfl rfl (.inl (by exact congrArg Value.bool hq33)) ?_
      refine L_pass (dj := 17) rfl rfl (.inl (by exact congrArg Value.bool hq33)) ?_
      refine L_pass (dj := 17) rfl rfl (.inl (by exact congrArg Value.bool hq33)) ?_
      refine L_pass (dj := 17) rfl rfl (.inl (by exact congrArg Value.bool hq33)) ?_
      refine L_pass (dj := 17) rfl rfl (.inl (by exact congrArg Value.bool hq33)) ?_
      refine L_pu (P_pick true (vb true) (by exact congrArg Value.bool hq33) rfl) ?_
      refine L_nil ?_
      refine W_ct (b := true) rfl rfl ?_
      refine W_seq ?_
      refine W_reg ?_
      refine L_pu (P_assign (vb false) rfl) ?_
      refine L_nil ?_
      refine W_ret ?_
      exact ⟨[vb false], ⟨_, rfl, rfl⟩, false, rfl, H, hc16.gr⟩
    · have H := ite_f H hq33
      refine L_run (dj := 17) rfl rfl (by exact congrArg Value.bool hq33) ?_
      refine L_pu (P_move (.slice A1 n2 c3) rfl) ?_
      refine L_run (dj := 17) rfl rfl (by exact congrArg Value.bool hq33) ?_
      refine L_pu (P_move (vi i2) rfl) ?_
      refine L_run (dj := 17) rfl rfl (by exact congrArg Value.bool hq33) ?_
      obtain ⟨hb34, H⟩ := H
      obtain ⟨ad35, cs36, hA37, hS40, hR38, hcl39⟩ := h17.get default (by decide) i2 hb34
      obtain rfl := Kd.int.op hR38
      refine L_pu (P_ia Try.underlying90 se90 A1 ad35 n2 c3 h17.len i2 rfl hA37 rfl hb34) ?_
      refine L_run (dj := 17) rfl rfl (by exact congrArg Value.bool hq33) ?_
      refine L_pu (P_ld ag3 cL (ad35.add (i2.toNat * 1)) (vi (nth up i2)) rfl (hcl39 0 _ rfl)) ?_
      refine L_run (dj := 17) rfl rfl (by exact congrArg Value.bool hq33) ?_
      refine L_pu (P_move (vi at_) rfl) ?_
      refine L_run (dj := 17) rfl rfl (by exact congrArg Value.bool hq33) ?_
      refine L_pu (P_cmp (nth up i2) at_ (decide ((nth up i2) ≥ at_)) rfl rfl rfl) ?_
      refine L_pu (P_pick false (vb (decide ((nth up i2) ≥ at_))) (by exact congrArg Value.bool hq33) rfl) ?_
      refine L_nil ?_
      refine W_cond (decide ((nth up i2) ≥ at_)) rfl (fun hq41 => ?_) (fun hq41 => ?_)
      · have H := ite_t H hq41
        refine W_seq ?_
        refine W_reg ?_
        refine L_pu (P_assign (vb false) rfl) ?_
        refine L_nil ?_
        refine W_ret ?_
        exact ⟨[vb false], ⟨_, rfl, rfl⟩, false, rfl, H, hc16.gr⟩
      · have H := ite_f H hq41
        refine W_skip ?_
        refine W_reg ?_
        refine L_pu (P_move (vi i2) rfl) ?_
        obtain ⟨hb43, H⟩ := H
        have hi42 : I64 (i2 + 1) := i64_succ (of_decide_eq_true hq25) hl24 hb43
        refine L_pu (P_add i2 1 rfl rfl hi42) ?_
        refine L_pu (P_assign (vi (i2 + 1)) rfl) ?_
        refine L_nil ?_
        obtain ⟨hI44, hm45⟩ := H
        exact ⟨i2 + 1, hm45, hI44, ⟨rfl, rfl, rfl, trivial⟩, hc16, h17⟩
  · have H := ite_f H hq25
    refine W_exit (xin_hit ?_)
    refine W_seq ?_
    refine W_draw (fun x => Gr w14 x none) (by kernel_rfl) (by kernel_rfl) (Gr.drew _) ?_
    refine Q_pu (P_move (.slice A1 n2 c3) rfl) ?_
    refine Q_pu (P_len Try.underlying90 A1 n2 c3 h17.len rfl) ?_
    refine Q_pu (P_cmp (up.length : Int) 2 (decide ((up.length : Int) ≤ 2)) rfl rfl rfl) ?_
    refine Q_pu (P_move (vb (decide ((up.length : Int) ≤ 2))) rfl) ?_
    rcases bool_or (decide ((up.length : Int) ≤ 2)) with hq46 | hq46
    · have H := ite_t H hq46
      refine Q_run (dj := 28) rfl rfl (by exact congrArg Value.bool hq46) ?_
      refine Q_pu (P_move (.slice A1 n2 c3) rfl) ?_
      refine Q_run (dj := 28) rfl rfl (by exact congrArg Value.bool hq46) ?_
      refine Q_pu (P_len Try.underlying90 A1 n2 c3 h17.len rfl) ?_
      refine Q_run (dj := 28) rfl rfl (by exact congrArg Value.bool hq46) ?_
      refine Q_pu (P_cmp (up.length : Int) 0 (decide ((up.length : Int) > 0)) rfl rfl rfl) ?_
      refine Q_run (dj := 28) rfl rfl (by exact congrArg Value.bool hq46) ?_
      refine Q_pu (P_move (vi at_) rfl) ?_
      refine Q_run (dj := 28) rfl rfl (by exact congrArg Value.bool hq46) ?_
      refine Q_pu (P_cmp at_ 0 (decide (at_ > 0)) rfl rfl rfl) ?_
      refine Q_run (dj := 28) rfl rfl (by exact congrArg Value.bool hq46) ?_
      refine Q_pu (P_bcmp Try.underlying4 (decide ((up.length : Int) > 0)) (decide (at_ > 0)) ((decide ((up.length : Int) > 0)) == (decide (at_ > 0))) rfl rfl rfl) ?_
      refine Q_pu (P_pick true (vb ((decide ((up.length : Int) > 0)) == (decide (at_ > 0)))) (by exact congrArg Value.bool hq46) rfl) ?_
      refine Q_pu (P_move (vb ((decide ((up.length : Int) > 0)) == (decide (at_ > 0)))) rfl) ?_
      rcases bool_or ((decide ((up.length : Int) > 0)) == (decide (at_ > 0))) with hq47 | hq47
      · have H := ite_t H hq47
        refine Q_run (dj := 36) rfl rfl (by exact congrArg Value.bool hq47) ?_
        refine Q_pu (P_move (.slice A1 n2 c3) rfl) ?_
        refine Q_run (dj := 36) rfl rfl (by exact congrArg Value.bool hq47) ?_
        refine Q_pu (P_len Try.underlying90 A1 n2 c3 h17.len rfl) ?_
        refine Q_run (dj := 36) rfl rfl (by exact congrArg Value.bool hq47) ?_
        refine Q_pu (P_cmp (up.length : Int) 2 (decide ((up.length : Int) < 2)) rfl rfl rfl) ?_
        refine Q_run (dj := 36) rfl rfl (by exact congrArg Value.bool hq47) ?_
        refine Q_pu (P_move (vb (decide ((up.length : Int) < 2))) rfl) ?_
        rcases bool_or (decide ((up.length : Int) < 2)) with hq48 | hq48
        · have H := ite_t H hq48
          refine Q_pass (dj := 40) rfl rfl (.inl (by exact congrArg Value.bool hq48)) ?_
          refine Q_pass (dj := 40) rfl rfl (.inl (by exact congrArg Value.bool hq48)) ?_
          refine Q_pass (dj := 40) rfl rfl (.inl (by exact congrArg Value.bool hq48)) ?_
          refine Q_pass (dj := 40) rfl rfl (.inl (by exact congrArg Value.bool hq48)) ?_
          refine Q_pass (dj := 40) rfl rfl (.inl (by exact congrArg Value.bool hq48)) ?_
          refine Q_pass (dj := 40) rfl rfl (.inl (by exact congrArg Value.bool hq48)) ?_
          refine Q_pass (dj := 40) rfl rfl (.inl (by exact congrArg Value.bool hq48)) ?_
          refine Q_run (dj := 36) rfl rfl (by exact congrArg Value.bool hq47) ?_
          refine Q_pu (P_pick true (vb true) (by exact congrArg Value.bool hq48) rfl) ?_
          refine Q_pu (P_pick true (vb true) (by exact congrArg Value.bool hq47) rfl) ?_
          refine Q_pu (P_assign (vb true) rfl) ?_
          refine Q_nil fun w49 g50 => ?_
          have hc52 := hc16.k0 g50
          refine W_ret ?_
          exact ⟨[vb true], ⟨_, rfl, rfl⟩, true, rfl, H, hc52.gr⟩
        · have H := ite_f H hq48
          refine Q_run (dj := 40) rfl rfl (by exact congrArg Value.bool hq48) ?_
          refine Q_pu (P_move (.slice A1 n2 c3) rfl) ?_
          refine Q_run (dj := 40) rfl rfl (by exact congrArg Value.bool hq48) ?_
          obtain ⟨hb53, H⟩ := H
          obtain ⟨ad54, cs55, hA56, hS59, hR57, hcl58⟩ := h17.get default (by decide) 0 hb53
          obtain rfl := Kd.int.op hR57
          refine Q_pu (P_ia Try.underlying90 se90 A1 ad54 n2 c3 h17.len 0 rfl hA56 rfl hb53) ?_
          refine Q_run (dj := 40) rfl rfl (by exact congrArg Value.bool hq48) ?_
          refine Q_pu (P_ld ag3 cQ (ad54.add ((0 : Int).toNat * 1)) (vi (nth up 0)) rfl (hcl58 0 _ rfl)) ?_
          refine Q_run (dj := 40) rfl rfl (by exact congrArg Value.bool hq48) ?_
          refine Q_pu (P_move (.slice A1 n2 c3) rfl) ?_
          refine Q_run (dj := 40) rfl rfl (by exact congrArg Value.bool hq48) ?_
          obtain ⟨hb60, H⟩ := H
          obtain ⟨ad61, cs62, hA63, hS66, hR64, hcl65⟩ := h17.get default (by decide) 1 hb60
          obtain rfl := Kd.int.op hR64
          refine Q_pu (P_ia Try.underlying90 se90 A1 ad61 n2 c3 h17.len 1 rfl hA63 rfl hb60) ?_
          refine Q_run (dj := 40) rfl rfl (by exact congrArg Value.bool hq48) ?_
          refine Q_pu (P_ld ag3 cQ (ad61.add ((1 : Int).toNat * 1)) (vi (nth up 1)) rfl (hcl65 0 _ rfl)) ?_
          refine Q_run (dj := 40) rfl rfl (by exact congrArg Value.bool hq48) ?_
          refine Q_pu (P_cmp (nth up 0) (nth up 1) ((nth up 0) != (nth up 1)) rfl rfl rfl) ?_
          refine Q_run (dj := 36) rfl rfl (by exact congrArg Value.bool hq47) ?_
          refine Q_pu (P_pick false (vb ((nth up 0) != (nth up 1))) (by exact congrArg Value.bool hq48) rfl) ?_
          refine Q_pu (P_pick true (vb ((nth up 0) != (nth up 1))) (by exact congrArg Value.bool hq47) rfl) ?_
          refine Q_pu (P_assign (vb ((nth up 0) != (nth up 1))) rfl) ?_
          refine Q_nil fun w67 g68 => ?_
          have hc70 := hc16.k0 g68
          refine W_ret ?_
          exact ⟨[vb ((nth up 0) != (nth up 1))], ⟨_, rfl, rfl⟩, (nth up 0) != (nth up 1), rfl, H, hc70.gr⟩
      · have H := ite_f H hq47
        refine Q_pass (dj := 36) rfl rfl (.inl (by exact congrArg Value.bool hq47)) ?_
        refine Q_pass (dj := 36) rfl rfl (.inl (by exact congrArg Value.bool hq47)) ?_
        refine Q_pass (dj := 36) rfl rfl (.inl (by exact congrArg Value.bool hq47)) ?_
        refine Q_pass (dj := 36) rfl rfl (.inl (by exact congrArg Value.bool hq47)) ?_
        refine Q_pass (dj := 40) rfl rfl (.inr rfl) ?_
        refine Q_pass (dj := 40) rfl rfl (.inr rfl) ?_
        refine Q_pass (dj := 40) rfl rfl (.inr rfl) ?_
        refine Q_pass (dj := 40) rfl rfl (.inr rfl) ?_
        refine Q_pass (dj := 40) rfl rfl (.inr rfl) ?_
        refine Q_pass (dj := 40) rfl rfl (.inr rfl) ?_
        refine Q_pass (dj := 40) rfl rfl (.inr rfl) ?_
        refine Q_pass (dj := 36) rfl rfl (.inl (by exact congrArg Value.bool hq47)) ?_
        refine Q_pu (P_pick false (vb false) (by exact congrArg Value.bool hq47) rfl) ?_
        refine Q_pu (P_assign (vb false) rfl) ?_
        refine Q_nil fun w71 g72 => ?_
        have hc74 := hc16.k0 g72
        refine W_ret ?_
        exact ⟨[vb false], ⟨_, rfl, rfl⟩, false, rfl, H, hc74.gr⟩
    · have H := ite_f H hq46
      refine Q_pass (dj := 28) rfl rfl (.inl (by exact congrArg Value.bool hq46)) ?_
      refine Q_pass (dj := 28) rfl rfl (.inl (by exact congrArg Value.bool hq46)) ?_
      refine Q_pass (dj := 28) rfl rfl (.inl (by exact congrArg Value.bool hq46)) ?_
      refine Q_pass (dj := 28) rfl rfl (.inl (by exact congrArg Value.bool hq46)) ?_
      refine Q_pass (dj := 28) rfl rfl (.inl (by exact congrArg Value.bool hq46)) ?_
      refine Q_pass (dj := 28) rfl rfl (.inl (by exact congrArg Value.bool hq46)) ?_
      refine Q_pu (P_pick false (vb false) (by exact congrArg Value.bool hq46) rfl) ?_
      refine Q_pu (P_move (vb false) rfl) ?_
      refine Q_pass (dj := 36) rfl rfl (.inl rfl) ?_
      refine Q_pass (dj := 36) rfl rfl (.inl rfl) ?_
      refine Q_pass (dj := 36) rfl rfl (.inl rfl) ?_
      refine Q_pass (dj := 36) rfl rfl (.inl rfl) ?_
      refine Q_pass (dj := 40) rfl rfl (.inr rfl) ?_
      refine Q_pass (dj := 40) rfl rfl (.inr rfl) ?_
      refine Q_pass (dj := 40) rfl rfl (.inr rfl) ?_
      refine Q_pass (dj := 40) rfl rfl (.inr rfl) ?_
      refine Q_pass (dj := 40) rfl rfl (.inr rfl) ?_
      refine Q_pass (dj := 40) rfl rfl (.inr rfl) ?_
      refine Q_pass (dj := 40) rfl rfl (.inr rfl) ?_
      refine Q_pass (dj := 36) rfl rfl (.inl rfl) ?_
      refine Q_pu (P_pick false (vb false) (by exact congrArg Value.bool rfl) rfl) ?_
      refine Q_pu (P_assign (vb false) rfl) ?_
      refine Q_nil fun w75 g76 => ?_
      have hc78 := hc16.k0 g76
      refine W_ret ?_
      exact ⟨[vb false], ⟨_, rfl, rfl⟩, false, rfl, H, hc78.gr⟩
end Go.Proofs.Ythkeboifjlnjjaa

/- Words: what two rows have in common, in plain lists. -/
namespace Go.Proofs.Ythkeboifjlnjjaa
set_option linter.unusedSimpArgs false
set_option linter.unusedVariables false
set_option linter.unusedSectionVars false
section
variable {α : Type} [DecidableEq α]
def lcsR (x : α) (p : List α → Nat) : List α → Nat
  | [] => 0
  | y :: b => if x = y then p b + 1 else max (p (y :: b)) (lcsR x p b)
def lcs : List α → List α → Nat
  | [] => fun _ => 0
  | x :: a => lcsR x (lcs a)
@[simp] theorem lcs_nil (b : List α) : lcs [] b = 0 := rfl
@[simp] theorem lcs_nil2 (a : List α) : lcs a [] = 0 := by cases a <;> rfl
theorem lcs_cons (x y : α) (a b : List α) : lcs (x :: a) (y :: b) = if x = y then lcs a b + 1 else max (lcs a (y :: b)) (lcs (x :: a) b) := rfl
theorem lcs_sub (a b : List α) : ∃ s : List α, s.Sublist a ∧ s.Sublist b ∧ s.length = lcs a b := by
  induction a generalizing b with
  | nil => exact ⟨[], List.nil_sublist _, List.nil_sublist _, rfl⟩
  | cons x a ih =>
    induction b with
    | nil => exact ⟨[], List.nil_sublist _, List.nil_sublist _, rfl⟩
    | cons y b ihb =>
      rw [lcs_cons]
      by_cases h : x = y
      · subst h
        obtain ⟨s, h1, h2, h3⟩ := ih b
        exact ⟨x :: s, h1.cons_cons x, h2.cons_cons x, by rw [if_pos rfl, ← h3]; rfl⟩
      · rw [if_neg h]
        by_cases hm : lcs (x :: a) b ≤ lcs a (y :: b)
        · obtain ⟨s, h1, h2, h3⟩ := ih (y :: b)
          exact ⟨s, h1.cons x, h2, by omega⟩
        · obtain ⟨s, h1, h2, h3⟩ := ihb
          exact ⟨s, h1, h2.cons y, by omega⟩
theorem lcs_max {s a b : List α} (h1 : s.Sublist a) (h2 : s.Sublist b) : s.length ≤ lcs a b := by
  induction a generalizing s b with
  | nil => rw [List.sublist_nil.1 h1]; exact Nat.zero_le _
  | cons x a ih =>
    induction b generalizing s with
    | nil => rw [List.sublist_nil.1 h2]; exact Nat.zero_le _
    | cons y b ihb =>
      rw [lcs_cons]
      by_cases h : x = y
      · subst h
        rw [if_pos rfl]
        cases s with
        | nil => exact Nat.zero_le _
        | cons z s =>
          have := ih (List.Sublist.tail h1) (List.Sublist.tail h2)
          simp only [List.tail_cons] at this
          simp only [List.length_cons]; omega
      · rw [if_neg h]
        cases h1 with
        | cons _ h1 => have := ih h1 h2; omega
        | cons_cons _ h1 =>
          cases h2 with
          | cons _ h2 => have := ihb (h1.cons_cons x) h2; omega
          | cons_cons _ h2 => exact absurd rfl h
theorem lcs_le1 (a b : List α) : lcs a b ≤ a.length := by
  obtain ⟨s, h1, h2, h3⟩ := lcs_sub a b; rw [← h3]; exact h1.length_le
theorem lcs_le2 (a b : List α) : lcs a b ≤ b.length := by
  obtain ⟨s, h1, h2, h3⟩ := lcs_sub a b; rw [← h3]; exact h2.length_le
theorem lcs_comm (a b : List α) : lcs a b = lcs b a := by
  apply Nat.le_antisymm
  · obtain ⟨s, h1, h2, h3⟩ := lcs_sub a b; rw [← h3]; exact lcs_max h2 h1
  · obtain ⟨s, h1, h2, h3⟩ := lcs_sub b a; rw [← h3]; exact lcs_max h2 h1
theorem lcs_mono {a a' b b' : List α} (ha : a.Sublist a') (hb : b.Sublist b') : lcs a b ≤ lcs a' b' := by
  obtain ⟨s, h1, h2, h3⟩ := lcs_sub a b; rw [← h3]; exact lcs_max (h1.trans ha) (h2.trans hb)
theorem lcs_sub_eq {a b : List α} (h : a.Sublist b) : lcs a b = a.length :=
  Nat.le_antisymm (lcs_le1 a b) (lcs_max (List.Sublist.refl a) h)
theorem lcs_self (a : List α) : lcs a a = a.length := lcs_sub_eq (List.Sublist.refl a)
theorem lcs_insert (u v b : List α) (x : α) : lcs (u ++ x :: v) b ≤ lcs (u ++ v) b + 1 := by
  obtain ⟨s, h1, h2, h3⟩ := lcs_sub (u ++ x :: v) b
  obtain ⟨s1, s2, rfl, h4, h5⟩ := List.sublist_append_iff.1 h1
  have : ∃ r : List α, r.Sublist v ∧ r.Sublist s2 ∧ s2.length ≤ r.length + 1 := by
    cases h5 with
    | cons _ h => exact ⟨s2, h, List.Sublist.refl _, by omega⟩
    | cons_cons _ h => exact ⟨_, h, List.sublist_cons_self _ _, Nat.le_refl _⟩
  obtain ⟨r, r1, r2, r3⟩ := this
  have := lcs_max (h4.append r1) (((List.Sublist.refl s1).append r2).trans h2)
  simp only [List.length_append] at this h3; omega
theorem lcs_insert_le (u v b : List α) (x : α) : lcs (u ++ v) b ≤ lcs (u ++ x :: v) b :=
  lcs_mono ((List.Sublist.refl u).append (List.sublist_cons_self x v)) (List.Sublist.refl b)
theorem lcs_snoc (a b : List α) (x : α) : lcs (a ++ [x]) (b ++ [x]) = lcs a b + 1 := by
  apply Nat.le_antisymm
  · obtain ⟨s, h1, h2, h3⟩ := lcs_sub (a ++ [x]) (b ++ [x])
    have f : ∀ {a : List α}, s.Sublist (a ++ [x]) → s.dropLast.Sublist a := fun {a} h => by
      have := h.reverse.tail.reverse
      rw [List.reverse_append, List.reverse_singleton, List.singleton_append, List.tail_cons, List.reverse_reverse, List.tail_reverse, List.reverse_reverse] at this
      exact this
    have := lcs_max (f h1) (f h2)
    rw [List.length_dropLast] at this; omega
  · obtain ⟨s, h1, h2, h3⟩ := lcs_sub a b
    have := lcs_max (h1.append (List.Sublist.refl [x])) (h2.append (List.Sublist.refl [x]))
    simp only [List.length_append, List.length_singleton] at this; omega
theorem lcs_append (a b c : List α) : lcs (a ++ c) (b ++ c) = lcs a b + c.length := by
  induction c generalizing a b with
  | nil => simp
  | cons x c ih =>
    have h : ∀ l : List α, l ++ x :: c = l ++ [x] ++ c := fun l => by simp
    rw [h, h, ih, lcs_snoc, List.length_cons]; omega

/-! ### pairs -/
theorem pp {a b c d : Nat} (h : a = c) (k : b = d) : (a, b) = (c, d) := by rw [h, k]
def pairs (i j : Nat) : List α → List α → List (Nat × Nat)
  | x :: a, y :: b => if x = y then (i, j) :: pairs (i + 1) (j + 1) a b else if lcs (x :: a) b ≤ lcs a (y :: b) then pairs (i + 1) j a (y :: b) else pairs i (j + 1) (x :: a) b
  | [], _ => []
  | _ :: _, [] => []
  termination_by a b => a.length + b.length
theorem pairs_nil (i j : Nat) (b : List α) : pairs i j [] b = [] := by rw [pairs]
theorem pairs_nil2 (i j : Nat) (a : List α) : pairs i j a [] = [] := by cases a <;> rw [pairs]
theorem pairs_cons (i j : Nat) (x y : α) (a b : List α) : pairs i j (x :: a) (y :: b) = if x = y then (i, j) :: pairs (i + 1) (j + 1) a b else if lcs (x :: a) b ≤ lcs a (y :: b) then pairs (i + 1) j a (y :: b) else pairs i (j + 1) (x :: a) b := by rw [pairs]
theorem pairs_ind {C : Nat → Nat → List α → List α → Prop} (h0 : ∀ i j b, C i j [] b) (h1 : ∀ i j a, C i j a [])
    (he : ∀ i j x a b, C (i + 1) (j + 1) a b → C i j (x :: a) (x :: b))
    (ha : ∀ i j x y a b, x ≠ y → lcs (x :: a) b ≤ lcs a (y :: b) → C (i + 1) j a (y :: b) → C i j (x :: a) (y :: b))
    (hb : ∀ i j x y a b, x ≠ y → ¬ lcs (x :: a) b ≤ lcs a (y :: b) → C i (j + 1) (x :: a) b → C i j (x :: a) (y :: b)) : ∀ i j (a b : List α), C i j a b := by
  have : ∀ n i j (a b : List α), a.length + b.length ≤ n → C i j a b := by
    intro n
    induction n with
    | zero => intro i j a b h; cases a with
      | nil => exact h0 _ _ _
      | cons _ _ => simp at h
    | succ n ih =>
      intro i j a b h
      cases a with
      | nil => exact h0 _ _ _
      | cons x a => cases b with
        | nil => exact h1 _ _ _
        | cons y b =>
          simp only [List.length_cons] at h
          by_cases e : x = y
          · subst e; exact he _ _ _ _ _ (ih _ _ _ _ (by omega))
          · by_cases l : lcs (x :: a) b ≤ lcs a (y :: b)
            · exact ha _ _ _ _ _ _ e l (ih _ _ _ _ (by simp only [List.length_cons]; omega))
            · exact hb _ _ _ _ _ _ e l (ih _ _ _ _ (by simp only [List.length_cons]; omega))
  exact fun i j a b => this _ i j a b (Nat.le_refl _)
theorem pairs_len (i j : Nat) (a b : List α) : (pairs i j a b).length = lcs a b := by
  refine pairs_ind (C := fun i j a b => (pairs i j a b).length = lcs a b) ?_ ?_ ?_ ?_ ?_ i j a b
  · intros; rw [pairs_nil]; rfl
  · intros; rw [pairs_nil2, lcs_nil2]; rfl
  · intro i j x a b h; rw [pairs_cons, if_pos rfl, lcs_cons, if_pos rfl, List.length_cons, h]
  · intro i j x y a b e l h; rw [pairs_cons, if_neg e, if_pos l, lcs_cons, if_neg e, h]; exact (Nat.max_eq_left l).symm
  · intro i j x y a b e l h; rw [pairs_cons, if_neg e, if_neg l, lcs_cons, if_neg e, h]; exact (Nat.max_eq_right (by omega)).symm
/-- what is paired lies at or behind the two places, and holds the same -/
theorem pairs_mem (i j : Nat) (a b : List α) : ∀ p ∈ pairs i j a b, ∃ k l, p = (i + k, j + l) ∧ ∃ x, a[k]? = some x ∧ b[l]? = some x := by
  refine pairs_ind (C := fun i j a b => ∀ p ∈ pairs i j a b, ∃ k l, p = (i + k, j + l) ∧ ∃ x, a[k]? = some x ∧ b[l]? = some x) ?_ ?_ ?_ ?_ ?_ i j a b
  · intro i j b p h; rw [pairs_nil] at h; cases h
  · intro i j a p h; rw [pairs_nil2] at h; cases h
  · intro i j x a b ih p h
    rw [pairs_cons, if_pos rfl] at h
    rcases List.mem_cons.1 h with rfl | h
    · exact ⟨0, 0, rfl, x, rfl, rfl⟩
    · obtain ⟨k, l, rfl, z, h1, h2⟩ := ih p h
      exact ⟨k + 1, l + 1, pp (by omega) (by omega), z, h1, h2⟩
  · intro i j x y a b e l ih p h
    rw [pairs_cons, if_neg e, if_pos l] at h
    obtain ⟨k, l, rfl, z, h1, h2⟩ := ih p h
    exact ⟨k + 1, l, pp (by omega) (by omega), z, h1, h2⟩
  · intro i j x y a b e l ih p h
    rw [pairs_cons, if_neg e, if_neg l] at h
    obtain ⟨k, l, rfl, z, h1, h2⟩ := ih p h
    exact ⟨k, l + 1, pp (by omega) (by omega), z, h1, h2⟩
theorem pairs_ord (i j : Nat) (a b : List α) : (pairs i j a b).Pairwise (fun p q => p.1 < q.1 ∧ p.2 < q.2) := by
  refine pairs_ind (C := fun i j a b => (pairs i j a b).Pairwise (fun p q => p.1 < q.1 ∧ p.2 < q.2)) ?_ ?_ ?_ ?_ ?_ i j a b
  · intros; rw [pairs_nil]; exact List.Pairwise.nil
  · intros; rw [pairs_nil2]; exact List.Pairwise.nil
  · intro i j x a b h; rw [pairs_cons, if_pos rfl]
    refine List.Pairwise.cons (fun p hp => ?_) h
    obtain ⟨k, l, rfl, _⟩ := pairs_mem _ _ _ _ p hp
    exact ⟨by dsimp only; omega, by dsimp only; omega⟩
  · intro i j x y a b e l h; rw [pairs_cons, if_neg e, if_pos l]; exact h
  · intro i j x y a b e l h; rw [pairs_cons, if_neg e, if_neg l]; exact h
theorem pairs_self (i j : Nat) (a b : List α) : pairs i j a (a ++ b) = (List.range a.length).map fun k => (i + k, j + k) := by
  induction a generalizing i j with
  | nil => exact pairs_nil _ _ _
  | cons x a ih =>
    rw [List.cons_append, pairs_cons, if_pos rfl, ih, List.length_cons, List.range_succ_eq_map, List.map_cons, List.map_map]
    congr 1
    apply List.map_congr_left; intro k _; simp only [Function.comp, Prod.mk.injEq]; omega
theorem pairs_cons_self (i j : Nat) (x : α) (a b : List α) : pairs i j (x :: a) (x :: b) = (i, j) :: pairs (i + 1) (j + 1) a b := by rw [pairs_cons, if_pos rfl]
theorem pairs_shift (i j : Nat) (a b : List α) (u v : Nat) : pairs (i + u) (j + v) a b = (pairs i j a b).map fun p => (p.1 + u, p.2 + v) := by
  refine pairs_ind (C := fun i j a b => pairs (i + u) (j + v) a b = (pairs i j a b).map fun p => (p.1 + u, p.2 + v)) ?_ ?_ ?_ ?_ ?_ i j a b
  · intros; rw [pairs_nil, pairs_nil]; rfl
  · intros; rw [pairs_nil2, pairs_nil2]; rfl
  · intro i j x a b h; rw [pairs_cons_self, pairs_cons_self, List.map_cons, ← h, Nat.add_right_comm i, Nat.add_right_comm j]
  · intro i j x y a b e l h; rw [pairs_cons, if_neg e, if_pos l, pairs_cons, if_neg e, if_pos l, ← h, Nat.add_right_comm i]
  · intro i j x y a b e l h; rw [pairs_cons, if_neg e, if_neg l, pairs_cons, if_neg e, if_neg l, ← h, Nat.add_right_comm j]
/-- one more that neither holds, at the end of both -/
theorem pairs_snoc (p : α) (i j : Nat) (a b : List α) : p ∉ a → p ∉ b → pairs i j (a ++ [p]) (b ++ [p]) = pairs i j a b ++ [(i + a.length, j + b.length)] := by
  refine pairs_ind (C := fun i j a b => p ∉ a → p ∉ b → pairs i j (a ++ [p]) (b ++ [p]) = pairs i j a b ++ [(i + a.length, j + b.length)]) ?_ ?_ ?_ ?_ ?_ i j a b
  · intro i j b _ hb
    rw [pairs_nil]
    induction b generalizing j with
    | nil => rw [List.nil_append, List.nil_append, pairs_cons_self, pairs_nil]; rfl
    | cons y b ih =>
      have : p ≠ y := fun e => hb (e ▸ List.mem_cons_self)
      have ih := ih (j + 1) (fun h => hb (List.mem_cons_of_mem _ h))
      rw [List.nil_append] at ih
      rw [List.nil_append, List.cons_append, pairs_cons, if_neg this, if_neg, ih]
      · simp only [List.nil_append, List.length_nil, List.length_cons, List.cons.injEq, Prod.mk.injEq, and_true, Nat.add_zero, true_and]; omega
      · have := lcs_snoc [] b p
        rw [List.nil_append] at this
        rw [lcs_nil, this]; omega
  · intro i j a ha _
    rw [pairs_nil2]
    induction a generalizing i with
    | nil => rw [List.nil_append, pairs_cons_self, pairs_nil]; rfl
    | cons y a ih =>
      have : y ≠ p := fun e => ha (e ▸ List.mem_cons_self)
      have ih := ih (i + 1) (fun h => ha (List.mem_cons_of_mem _ h))
      rw [List.nil_append] at ih
      rw [List.nil_append, List.cons_append, pairs_cons, if_neg this, if_pos, ih]
      · simp only [List.nil_append, List.length_nil, List.length_cons, List.cons.injEq, Prod.mk.injEq, and_true, Nat.add_zero, true_and]; omega
      · rw [lcs_nil2]; omega
  · intro i j x a b ih ha hb
    rw [List.cons_append, List.cons_append, pairs_cons_self, pairs_cons_self, ih (fun h => ha (List.mem_cons_of_mem _ h)) (fun h => hb (List.mem_cons_of_mem _ h))]
    simp only [List.length_cons, List.cons_append, List.cons.injEq, true_and, List.append_cancel_left_eq, Prod.mk.injEq, and_true]; omega
  · intro i j x y a b e l ih ha hb
    rw [List.cons_append, List.cons_append, pairs_cons, if_neg e, if_pos, pairs_cons, if_neg e, if_pos l, ← List.cons_append, ih (fun h => ha (List.mem_cons_of_mem _ h)) hb]
    · simp only [List.length_cons]; congr 2; exact pp (by omega) (by omega)
    · rw [← List.cons_append, ← List.cons_append, lcs_snoc, lcs_snoc]; omega
  · intro i j x y a b e l ih ha hb
    rw [List.cons_append, List.cons_append, pairs_cons, if_neg e, if_neg, pairs_cons, if_neg e, if_neg l, ← List.cons_append, ih ha (fun h => hb (List.mem_cons_of_mem _ h))]
    · simp only [List.length_cons]; congr 2; exact pp (by omega) (by omega)
    · rw [← List.cons_append, ← List.cons_append, lcs_snoc, lcs_snoc]; omega

end
section
variable {α : Type} [Inhabited α]
theorem nth_set (l : List α) {k : Nat} (h : k < l.length) (m : Nat) (v : α) : nth (l.set k v) (m : Int) = if m = k then v else nth l (m : Int) := by
  unfold nth
  rw [Int.toNat_natCast, List.getD_eq_getElem?_getD, List.getD_eq_getElem?_getD, List.getElem?_set]
  by_cases e : m = k
  · subst e; rw [if_pos rfl, if_pos rfl, if_pos h]; rfl
  · rw [if_neg (fun x => e x.symm), if_neg e]
theorem nth_rep (n m : Nat) (v : α) (h : m < n) : nth (List.replicate n v) (m : Int) = v := by
  rw [nth_nat _ (by simpa using h)]; simp
theorem drop_nth (l : List α) {k : Nat} (h : k < l.length) : l.drop k = nth l (k : Int) :: l.drop (k + 1) := by
  rw [nth_nat l h]; exact List.drop_eq_getElem_cons h
/-- the elements from one place to another -/
def seg (l : List α) (i j : Nat) : List α := (l.drop i).take (j - i)
theorem seg_len (l : List α) (i j : Nat) (h : j ≤ l.length) : (seg l i j).length = j - i := by
  unfold seg; rw [List.length_take, List.length_drop]; omega
theorem seg_end (l : List α) (i : Nat) : seg l i l.length = l.drop i := List.take_of_length_le (by simp)
theorem seg_app (l : List α) {i j : Nat} (h : i ≤ j) : seg l i j ++ l.drop j = l.drop i := by
  unfold seg
  have : l.drop j = (l.drop i).drop (j - i) := by rw [List.drop_drop]; congr 1; omega
  rw [this, List.take_append_drop]
theorem seg_self (l : List α) (i : Nat) : seg l i i = [] := by unfold seg; rw [Nat.sub_self, List.take_zero]
theorem seg_cons (x : α) (l : List α) (i j : Nat) : seg (x :: l) (i + 1) (j + 1) = seg l i j := by unfold seg; rw [List.drop_succ_cons, Nat.add_sub_add_right]
theorem seg_snoc (x : α) (l : List α) (i j : Nat) (h : j ≤ l.length) (hij : i ≤ j) : seg (l ++ [x]) i j = seg l i j := by
  unfold seg; rw [List.drop_append_of_le_length (by omega), List.take_append_of_le_length (by rw [List.length_drop]; omega)]
theorem nth_cons (x : α) (l : List α) (k : Nat) : nth (x :: l) ((k + 1 : Nat) : Int) = nth l (k : Int) := rfl
theorem nth_zero (x : α) (l : List α) : nth (x :: l) ((0 : Nat) : Int) = x := rfl
theorem nth_app (l m : List α) {k : Nat} (h : k < l.length) : nth (l ++ m) (k : Int) = nth l (k : Int) := by
  rw [nth_nat _ (by rw [List.length_append]; omega), nth_nat _ h, List.getElem_append_left]
theorem nth_snoc (l : List α) (x : α) : nth (l ++ [x]) (l.length : Int) = x := by
  rw [nth_nat _ (by simp)]; simp
theorem mem_nth {l : List α} {x : α} (h : x ∈ l) : ∃ k : Nat, k < l.length ∧ nth l (k : Int) = x := by
  obtain ⟨k, hk, rfl⟩ := List.getElem_of_mem h
  exact ⟨k, hk, nth_nat l hk⟩
variable [DecidableEq α]
theorem lcs_drop (a b : List α) {i j : Nat} (hi : i < a.length) (hj : j < b.length) : lcs (a.drop i) (b.drop j) = if nth a (i : Int) = nth b (j : Int) then lcs (a.drop (i + 1)) (b.drop (j + 1)) + 1 else max (lcs (a.drop (i + 1)) (b.drop j)) (lcs (a.drop i) (b.drop (j + 1))) := by
  rw [drop_nth a hi, drop_nth b hj, lcs_cons, ← drop_nth a hi, ← drop_nth b hj]
theorem pairs_drop (a b : List α) {i j : Nat} (hi : i < a.length) (hj : j < b.length) : pairs i j (a.drop i) (b.drop j) = if nth a (i : Int) = nth b (j : Int) then (i, j) :: pairs (i + 1) (j + 1) (a.drop (i + 1)) (b.drop (j + 1)) else if lcs (a.drop i) (b.drop (j + 1)) ≤ lcs (a.drop (i + 1)) (b.drop j) then pairs (i + 1) j (a.drop (i + 1)) (b.drop j) else pairs i (j + 1) (a.drop i) (b.drop (j + 1)) := by
  rw [drop_nth a hi, drop_nth b hj, pairs_cons, ← drop_nth a hi, ← drop_nth b hj]

/-! ### of two rows one -/
def pickL (o a b : List α) : Option (List α) := if a = o then some b else if b = o then some a else if a = b then some a else none
theorem pickL_comm (o a b : List α) : pickL o a b = pickL o b a := by
  unfold pickL
  by_cases h1 : a = o <;> by_cases h2 : b = o
  · subst h1; subst h2; rfl
  · rw [if_pos h1, if_neg h2, if_pos h1]
  · rw [if_neg h1, if_pos h2, if_pos h2]
  · rw [if_neg h1, if_neg h2, if_neg h2, if_neg h1]
    by_cases h3 : a = b
    · subst h3; rfl
    · rw [if_neg h3, if_neg (fun e => h3 e.symm)]
theorem pickL_old (o a : List α) : pickL o a o = some a := by
  unfold pickL
  by_cases h : a = o
  · rw [if_pos h, h]
  · rw [if_neg h, if_pos rfl]
theorem pickL_same (o a : List α) : pickL o a a = some a := by
  unfold pickL
  by_cases h : a = o
  · rw [if_pos h]
  · rw [if_neg h, if_neg h, if_pos rfl]
theorem pickL_none (a b : List α) : pickL [] a b = if a = [] then some b else if b = [] then some a else if a = b then some a else none := rfl
theorem pickL_mem {o a b r : List α} (h : pickL o a b = some r) : (∀ z ∈ r, z ∈ a ∨ z ∈ b) ∧ (∀ z ∈ a, z ∈ o ∨ z ∈ r) ∧ (∀ z ∈ b, z ∈ o ∨ z ∈ r) ∧ r.length ≤ a.length + b.length := by
  unfold pickL at h
  by_cases h1 : a = o
  · rw [if_pos h1] at h; cases h; subst h1
    exact ⟨fun z hz => .inr hz, fun z hz => .inl hz, fun z hz => .inr hz, by omega⟩
  · rw [if_neg h1] at h
    by_cases h2 : b = o
    · rw [if_pos h2] at h; cases h; subst h2
      exact ⟨fun z hz => .inl hz, fun z hz => .inr hz, fun z hz => .inl hz, by omega⟩
    · rw [if_neg h2] at h
      by_cases h3 : a = b
      · rw [if_pos h3] at h; cases h; subst h3
        exact ⟨fun z hz => .inl hz, fun z hz => .inr hz, fun z hz => .inr hz, by omega⟩
      · rw [if_neg h3] at h; cases h
/-- from a place on: n places of the old row are left -/
def mloop (o a b : List α) (f g : Nat → Option Nat) : Nat → Nat → Nat → Nat → Nat → Option (List α)
  | 0, _, i, j, k => pickL (o.drop i) (a.drop j) (b.drop k)
  | n + 1, at_, i, j, k => match f at_, g at_ with
    | some x, some y => (pickL (seg o i at_) (seg a j x) (seg b k y)).bind fun p => (mloop o a b f g n (at_ + 1) (at_ + 1) (x + 1) (y + 1)).map fun r => p ++ nth o (at_ : Int) :: r
    | _, _ => mloop o a b f g n (at_ + 1) i j k
theorem mloop_zero (o a b : List α) (f g : Nat → Option Nat) (t i j k : Nat) : mloop o a b f g 0 t i j k = pickL (o.drop i) (a.drop j) (b.drop k) := rfl
theorem mloop_some {o a b : List α} {f g : Nat → Option Nat} {n t i j k x y : Nat} (hf : f t = some x) (hg : g t = some y) : mloop o a b f g (n + 1) t i j k = (pickL (seg o i t) (seg a j x) (seg b k y)).bind fun p => (mloop o a b f g n (t + 1) (t + 1) (x + 1) (y + 1)).map fun r => p ++ nth o (t : Int) :: r := by
  rw [mloop, hf, hg]
theorem mloop_none {o a b : List α} {f g : Nat → Option Nat} {n t i j k : Nat} (h : f t = none ∨ g t = none) : mloop o a b f g (n + 1) t i j k = mloop o a b f g n (t + 1) i j k := by
  rw [mloop]
  rcases h with h | h
  · rw [h]
  · rw [h]; cases f t <;> rfl
/-- what a row's partners are: in order, within, and alike -/
structure Mates (o a : List α) (f : Nat → Option Nat) : Prop where
  lt : ∀ {t x}, f t = some x → t < o.length ∧ x < a.length
  eq : ∀ {t x}, f t = some x → nth o (t : Int) = nth a (x : Int)
  mono : ∀ {t x u y}, f t = some x → f u = some y → t < u → x < y
/-- no partner of a place at or behind one lies ahead of j -/
def From (f : Nat → Option Nat) (t j : Nat) : Prop := ∀ u x, t ≤ u → f u = some x → j ≤ x
theorem From.zero (f : Nat → Option Nat) (t : Nat) : From f t 0 := fun _ _ _ _ => Nat.zero_le _
theorem From.skip {f : Nat → Option Nat} {t j : Nat} (h : From f t j) : From f (t + 1) j := fun u x hu hx => h u x (by omega) hx
theorem From.step {o a : List α} {f : Nat → Option Nat} (m : Mates o a f) {t x : Nat} (h : f t = some x) : From f (t + 1) (x + 1) := fun u y hu hy => m.mono h hy (by omega)
theorem mloop_comm (o a b : List α) (f g : Nat → Option Nat) (n t i j k : Nat) : mloop o a b f g n t i j k = mloop o b a g f n t i k j := by
  induction n generalizing t i j k with
  | zero => exact pickL_comm _ _ _
  | succ n ih =>
    cases hf : f t with
    | none => rw [mloop_none (.inl hf), mloop_none (.inr hf), ih]
    | some x => cases hg : g t with
      | none => rw [mloop_none (.inr hg), mloop_none (.inl hg), ih]
      | some y => rw [mloop_some hf hg, mloop_some hg hf, pickL_comm, ih]
theorem mloop_old {o a : List α} {f g : Nat → Option Nat} (m : Mates o a f) (hg : ∀ t, t < o.length → g t = some t) (n t i j : Nat) (hn : t + n = o.length) (h : From f t j) : mloop o a o f g n t i j i = some (a.drop j) := by
  induction n generalizing t i j with
  | zero => rw [mloop_zero, pickL_old]
  | succ n ih =>
    cases hf : f t with
    | none => rw [mloop_none (.inl hf), ih _ _ _ (by omega) h.skip]
    | some x =>
      rw [mloop_some hf (hg t (by omega)), pickL_old, Option.bind_some, ih _ _ _ (by omega) (.step m hf), Option.map_some, m.eq hf, ← drop_nth a (m.lt hf).2, seg_app a (h t x (Nat.le_refl _) hf)]
theorem mloop_same {o a : List α} {f : Nat → Option Nat} (m : Mates o a f) (n t i j : Nat) (hn : t + n = o.length) (h : From f t j) : mloop o a a f f n t i j j = some (a.drop j) := by
  induction n generalizing t i j with
  | zero => rw [mloop_zero, pickL_same]
  | succ n ih =>
    cases hf : f t with
    | none => rw [mloop_none (.inl hf), ih _ _ _ (by omega) h.skip]
    | some x =>
      rw [mloop_some hf hf, pickL_same, Option.bind_some, ih _ _ _ (by omega) (.step m hf), Option.map_some, m.eq hf, ← drop_nth a (m.lt hf).2, seg_app a (h t x (Nat.le_refl _) hf)]
theorem mem_seg {l : List α} {i j : Nat} {z : α} (h : z ∈ seg l i j) : z ∈ l := List.mem_of_mem_drop (List.mem_of_mem_take h)
theorem mem_split {l : List α} {i j : Nat} (hij : i ≤ j) (hj : j < l.length) {z : α} (h : z ∈ l.drop i) : z ∈ seg l i j ∨ z = nth l (j : Int) ∨ z ∈ l.drop (j + 1) := by
  rw [← seg_app l hij, drop_nth l hj] at h
  rcases List.mem_append.1 h with h | h
  · exact .inl h
  · rcases List.mem_cons.1 h with h | h
    · exact .inr (.inl h)
    · exact .inr (.inr h)
theorem mloop_keep {o a b : List α} {f g : Nat → Option Nat} (mf : Mates o a f) (mg : Mates o b g) (n t i j k : Nat) (hn : t + n = o.length) (hj : From f t j) (hk : From g t k) (r : List α) (h : mloop o a b f g n t i j k = some r) :
    (∀ z ∈ r, z ∈ a ∨ z ∈ b) ∧ (∀ z ∈ a.drop j, z ∈ o ∨ z ∈ r) ∧ (∀ z ∈ b.drop k, z ∈ o ∨ z ∈ r) ∧ r.length ≤ (a.drop j).length + (b.drop k).length := by
  induction n generalizing t i j k r with
  | zero =>
    rw [mloop_zero] at h
    obtain ⟨h1, h2, h3, h4⟩ := pickL_mem h
    exact ⟨fun z hz => (h1 z hz).imp List.mem_of_mem_drop List.mem_of_mem_drop, fun z hz => (h2 z hz).imp List.mem_of_mem_drop id, fun z hz => (h3 z hz).imp List.mem_of_mem_drop id, h4⟩
  | succ n ih =>
    cases hf : f t with
    | none => rw [mloop_none (.inl hf)] at h; exact ih _ _ _ _ (by omega) hj.skip hk.skip _ h
    | some x => cases hg : g t with
      | none => rw [mloop_none (.inr hg)] at h; exact ih _ _ _ _ (by omega) hj.skip hk.skip _ h
      | some y =>
        rw [mloop_some hf hg] at h
        cases hp : pickL (seg o i t) (seg a j x) (seg b k y) with
        | none => rw [hp] at h; cases h
        | some p =>
          rw [hp, Option.bind_some] at h
          cases hr : mloop o a b f g n (t + 1) (t + 1) (x + 1) (y + 1) with
          | none => rw [hr] at h; cases h
          | some q =>
            rw [hr, Option.map_some] at h; cases h
            obtain ⟨h1, h2, h3, h4⟩ := pickL_mem hp
            obtain ⟨g1, g2, g3, g4⟩ := ih _ _ _ _ (by omega) (.step mf hf) (.step mg hg) _ hr
            have hjx := hj t x (Nat.le_refl _) hf
            have hky := hk t y (Nat.le_refl _) hg
            have hx := (mf.lt hf).2
            have hy := (mg.lt hg).2
            have ex := mf.eq hf
            have ey := mg.eq hg
            refine ⟨fun z hz => ?_, fun z hz => ?_, fun z hz => ?_, ?_⟩
            · rcases List.mem_append.1 hz with hz | hz
              · exact (h1 z hz).imp mem_seg mem_seg
              · rcases List.mem_cons.1 hz with rfl | hz
                · rw [ex]; exact .inl (nth_mem a hx)
                · exact g1 z hz
            · rcases mem_split hjx hx hz with hz | rfl | hz
              · exact (h2 z hz).imp mem_seg (fun h => List.mem_append_left _ h)
              · exact .inr (List.mem_append_right _ (by rw [ex]; exact List.mem_cons_self))
              · exact (g2 z hz).imp id (fun h => List.mem_append_right _ (List.mem_cons_of_mem _ h))
            · rcases mem_split hky hy hz with hz | rfl | hz
              · exact (h3 z hz).imp mem_seg (fun h => List.mem_append_left _ h)
              · exact .inr (List.mem_append_right _ (by rw [ey]; exact List.mem_cons_self))
              · exact (g3 z hz).imp id (fun h => List.mem_append_right _ (List.mem_cons_of_mem _ h))
            · rw [seg_len a _ _ (by omega), seg_len b _ _ (by omega)] at h4
              simp only [List.length_append, List.length_cons, List.length_drop] at g4 ⊢
              omega
theorem mloop_cons {o a b : List α} {f g f' g' : Nat → Option Nat} (p : α) (hf : ∀ t, t < o.length → f' (t + 1) = (f t).map (· + 1)) (hg : ∀ t, t < o.length → g' (t + 1) = (g t).map (· + 1)) (n t i j k : Nat) (hn : t + n = o.length) :
    mloop (p :: o) (p :: a) (p :: b) f' g' n (t + 1) (i + 1) (j + 1) (k + 1) = mloop o a b f g n t i j k := by
  induction n generalizing t i j k with
  | zero => rfl
  | succ n ih =>
    have h1 := hf t (by omega); have h2 := hg t (by omega)
    cases e1 : f t with
    | none => rw [e1] at h1; rw [mloop_none (.inl e1), mloop_none (.inl h1), ih _ _ _ _ (by omega)]
    | some x => cases e2 : g t with
      | none => rw [e2] at h2; rw [mloop_none (.inr e2), mloop_none (.inr h2), ih _ _ _ _ (by omega)]
      | some y =>
        rw [e1] at h1; rw [e2] at h2
        rw [mloop_some e1 e2, mloop_some h1 h2, seg_cons, seg_cons, seg_cons, ih _ _ _ _ (by omega)]
        rfl
theorem mloop_snoc {o a b : List α} {f g f' g' : Nat → Option Nat} (p : α) (mf : Mates o a f) (mg : Mates o b g) (hf : ∀ t, t < o.length → f' t = f t) (hf1 : f' o.length = some a.length) (hg : ∀ t, t < o.length → g' t = g t) (hg1 : g' o.length = some b.length) (n t i j k : Nat) (hn : t + n = o.length)
    (hi : i ≤ t) (hj0 : j ≤ a.length) (hk0 : k ≤ b.length) (hj : From f t j) (hk : From g t k) :
    mloop (o ++ [p]) (a ++ [p]) (b ++ [p]) f' g' (n + 1) t i j k = (mloop o a b f g n t i j k).map (· ++ [p]) := by
  induction n generalizing t i j k with
  | zero =>
    have : t = o.length := by omega
    subst this
    rw [mloop_some hf1 hg1, mloop_zero, seg_snoc _ _ _ _ (Nat.le_refl _) hi, seg_snoc _ _ _ _ (Nat.le_refl _) hj0, seg_snoc _ _ _ _ (Nat.le_refl _) hk0, seg_end, seg_end, seg_end, mloop_zero, nth_snoc]
    have e : ∀ l : List α, (l ++ [p]).drop (l.length + 1) = [] := fun l => List.drop_of_length_le (by simp)
    rw [e, e, e, pickL_same]
    cases pickL (o.drop i) (a.drop j) (b.drop k) <;> rfl
  | succ n ih =>
    have h1 := hf t (by omega); have h2 := hg t (by omega)
    cases e1 : f t with
    | none => rw [e1] at h1; rw [mloop_none (.inl e1), mloop_none (.inl h1), ih _ _ _ _ (by omega) (by omega) hj0 hk0 hj.skip hk.skip]
    | some x => cases e2 : g t with
      | none => rw [e2] at h2; rw [mloop_none (.inr e2), mloop_none (.inr h2), ih _ _ _ _ (by omega) (by omega) hj0 hk0 hj.skip hk.skip]
      | some y =>
        rw [e1] at h1; rw [e2] at h2
        have hx := (mf.lt e1).2
        have hy := (mg.lt e2).2
        rw [mloop_some e1 e2, mloop_some h1 h2, seg_snoc _ _ _ _ (by omega) hi, seg_snoc _ _ _ _ (by omega) (hj t x (Nat.le_refl _) e1), seg_snoc _ _ _ _ (by omega) (hk t y (Nat.le_refl _) e2), ih _ _ _ _ (by omega) (Nat.le_refl _) (by omega) (by omega) (.step mf e1) (.step mg e2), nth_app o [p] (by omega)]
        cases pickL (seg o i t) (seg a j x) (seg b k y) with
        | none => rfl
        | some q =>
          rw [Option.bind_some, Option.bind_some]
          cases mloop o a b f g n (t + 1) (t + 1) (x + 1) (y + 1) with
          | none => rfl
          | some r => simp
theorem mloop_apart {o : List α} {f g : Nat → Option Nat} (p q : α) (hf : ∀ t, t < o.length → f t = some (t + 1)) (hg : ∀ t, t < o.length → g t = some t) (n t : Nat) (hn : t + n = o.length) : mloop o (p :: o) (o ++ [q]) f g n t t (t + 1) t = some (o.drop t ++ [q]) := by
  induction n generalizing t with
  | zero =>
    rw [mloop_zero, List.drop_of_length_le (by omega : o.length ≤ t), List.drop_of_length_le (l := p :: o) (by rw [List.length_cons]; omega), pickL_none, if_pos rfl, List.drop_append_of_le_length (by omega), List.drop_of_length_le (by omega : o.length ≤ t)]
  | succ n ih =>
    rw [mloop_some (hf t (by omega)) (hg t (by omega)), seg_self, seg_self, seg_self, pickL_same, Option.bind_some, ih _ (by omega), Option.map_some, drop_nth o (show t < o.length by omega)]
    rfl
end
end Go.Proofs.Ythkeboifjlnjjaa

namespace Go.Proofs.Ythkeboifjlnjjaa
set_option linter.unusedVariables false
set_option linter.unusedSimpArgs false
set_option linter.unusedSectionVars false
def few (a b : List Pt) : Bool := decide (a.length ≤ 12) && decide (b.length ≤ 12)
theorem few_iff {a b : List Pt} : few a b = true ↔ a.length ≤ 12 ∧ b.length ≤ 12 := by simp [few]
theorem few_not {a b : List Pt} : few a b = false ↔ ¬ (a.length ≤ 12 ∧ b.length ≤ 12) := by rw [← few_iff]; simp
def slen (a b : List Pt) : Int := if few a b then (lcs a b : Nat) else 0
def mkP (p : Nat × Nat) : Pair := ⟨p.1, p.2⟩
def spairs (a b : List Pt) : List Pair := if few a b then (pairs 0 0 a b).map mkP else []
theorem spairs_few {a b : List Pt} (h : few a b = true) : spairs a b = (pairs 0 0 a b).map mkP := by unfold spairs; rw [if_pos h]
theorem spairs_len (a b : List Pt) : ((spairs a b).length : Int) = slen a b := by
  unfold spairs slen
  by_cases h : few a b = true
  · rw [if_pos h, if_pos h, List.length_map, pairs_len]
  · rw [if_neg h, if_neg h]; rfl
theorem slen_le (a b : List Pt) : 0 ≤ slen a b ∧ slen a b ≤ a.length ∧ slen a b ≤ b.length ∧ slen a b ≤ 12 := by
  unfold slen
  by_cases h : few a b = true
  · have := few_iff.1 h
    have h1 := lcs_le1 a b; have h2 := lcs_le2 a b
    rw [if_pos h]; omega
  · rw [if_neg h]; omega
/-- a row: what is in common from a place of the second on -/
def RowOk (a b : List Pt) (i : Nat) (j : Nat) (xs : List Int) : Prop := xs.length = b.length + 1 ∧ ∀ m : Nat, j ≤ m → m ≤ b.length → nth xs (m : Int) = (lcs (a.drop i) (b.drop m) : Nat)
def Tab (a b : List Pt) (D : Nat → Nat → Prop) (t : List (List Int)) : Prop := t.length = a.length + 1 ∧ ∀ r : Nat, r ≤ a.length → (nth t (r : Int)).length = b.length + 1 ∧ ∀ m : Nat, m ≤ b.length → D r m → nth (nth t (r : Int)) (m : Int) = (lcs (a.drop r) (b.drop m) : Nat)
theorem Tab.set {a b : List Pt} {D : Nat → Nat → Prop} {t : List (List Int)} (h : Tab a b D t) {i j : Nat} (hi : i ≤ a.length) (hj : j ≤ b.length) {v : Int} (hv : v = (lcs (a.drop i) (b.drop j) : Nat)) {D' : Nat → Nat → Prop} (hD : ∀ r m, D' r m → D r m ∨ (r = i ∧ m = j)) :
    Tab a b D' (t.set i ((nth t (i : Int)).set j v)) := by
  obtain ⟨h1, h2⟩ := h
  refine ⟨by rw [List.length_set]; exact h1, fun r hr => ?_⟩
  rw [nth_set _ (by omega)]
  by_cases e : r = i
  · subst e
    rw [if_pos rfl]
    refine ⟨by rw [List.length_set]; exact (h2 r hr).1, fun m hm hd => ?_⟩
    rw [nth_set _ (by rw [(h2 r hr).1]; omega)]
    by_cases f : m = j
    · subst f; rw [if_pos rfl, hv]
    · rw [if_neg f]
      exact (h2 r hr).2 m hm ((hD r m hd).resolve_right fun x => f x.2)
  · rw [if_neg e]
    exact ⟨(h2 r hr).1, fun m hm hd => (h2 r hr).2 m hm ((hD r m hd).resolve_right fun x => e x.1)⟩
def mateI (l : List Pair) (k : Int) : Int := match l with
  | [] => -1
  | p :: l => if p.A == k then p.B else mateI l k
theorem mateI_nil (k : Int) : mateI [] k = -1 := rfl
theorem mateI_cons (p : Pair) (l : List Pair) (k : Int) : mateI (p :: l) k = if p.A == k then p.B else mateI l k := rfl
def mateN (l : List (Nat × Nat)) (k : Nat) : Option Nat := match l with
  | [] => none
  | p :: l => if p.1 = k then some p.2 else mateN l k
theorem mateI_mk (l : List (Nat × Nat)) (k : Nat) : mateI (l.map mkP) (k : Int) = match mateN l k with | some x => (x : Int) | none => -1 := by
  induction l with
  | nil => rfl
  | cons p l ih =>
    rw [List.map_cons, mateI_cons, mateN]
    by_cases h : p.1 = k
    · rw [if_pos (by simp [mkP, h]), if_pos h]; rfl
    · rw [if_neg (by simp [mkP]; omega), if_neg h, ih]
theorem mateN_mem {l : List (Nat × Nat)} {k x : Nat} (h : mateN l k = some x) : (k, x) ∈ l := by
  induction l with
  | nil => cases h
  | cons p l ih =>
    rw [mateN] at h
    by_cases e : p.1 = k
    · rw [if_pos e] at h; cases h; subst e; exact List.mem_cons_self
    · rw [if_neg e] at h; exact List.mem_cons_of_mem _ (ih h)
theorem mateN_of {l : List (Nat × Nat)} {k x : Nat} (ho : l.Pairwise fun p q => p.1 < q.1 ∧ p.2 < q.2) (h : (k, x) ∈ l) : mateN l k = some x := by
  induction l with
  | nil => cases h
  | cons p l ih =>
    rw [mateN]
    rcases List.mem_cons.1 h with h | h
    · subst h; rw [if_pos rfl]
    · have := (List.pairwise_cons.1 ho).1 _ h
      rw [if_neg (by dsimp only at this; omega)]
      exact ih (List.pairwise_cons.1 ho).2 h
theorem mateN_none {l : List (Nat × Nat)} {k : Nat} (h : ∀ x, (k, x) ∉ l) : mateN l k = none := by
  cases e : mateN l k with
  | none => rfl
  | some x => exact absurd (mateN_mem e) (h x)
def part (o a : List Pt) : Nat → Option Nat := mateN (pairs 0 0 o a)
theorem part_mates (o a : List Pt) : Mates o a (part o a) := by
  have hm : ∀ {t x}, part o a t = some x → ∃ z, o[t]? = some z ∧ a[x]? = some z := fun {t x} h => by
    obtain ⟨k, l, e, z, h1, h2⟩ := pairs_mem 0 0 o a _ (mateN_mem h)
    rw [Nat.zero_add, Nat.zero_add] at e; cases e
    exact ⟨z, h1, h2⟩
  refine ⟨fun {t x} h => ?_, fun {t x} h => ?_, fun {t x u y} h1 h2 hu => ?_⟩
  · obtain ⟨z, h1, h2⟩ := hm h
    exact ⟨(List.getElem?_eq_some_iff.1 h1).1, (List.getElem?_eq_some_iff.1 h2).1⟩
  · obtain ⟨z, h1, h2⟩ := hm h
    obtain ⟨e1, e2⟩ := List.getElem?_eq_some_iff.1 h1
    obtain ⟨e3, e4⟩ := List.getElem?_eq_some_iff.1 h2
    rw [nth_nat _ e1, nth_nat _ e3, e2, e4]
  · have ho := pairs_ord 0 0 o a
    have m1 := mateN_mem h1; have m2 := mateN_mem h2
    generalize pairs 0 0 o a = l at ho m1 m2
    induction l with
    | nil => cases m1
    | cons p l ih =>
      obtain ⟨q1, q2⟩ := List.pairwise_cons.1 ho
      rcases List.mem_cons.1 m1 with e1 | n1
      · rcases List.mem_cons.1 m2 with e2 | n2
        · subst e1; cases e2; omega
        · subst e1; exact (q1 _ n2).2
      · rcases List.mem_cons.1 m2 with e2 | n2
        · subst e2; have := (q1 _ n1).1; dsimp only at this; omega
        · exact ih q2 n1 n2
theorem part_old (o : List Pt) (l : List Pt) : ∀ t, t < o.length → part o (o ++ l) t = some t := fun t ht => by
  refine mateN_of (pairs_ord _ _ _ _) ?_
  rw [pairs_self, List.mem_map]
  exact ⟨t, by simpa using ht, by simp⟩
theorem part_self (o : List Pt) : ∀ t, t < o.length → part o o t = some t := fun t ht => by
  have := part_old o [] t ht
  rwa [List.append_nil] at this
/-- what is made of two rows, and of which one was -/
def smerge (o a b : List Pt) : Option (List Pt) := if few o a && few o b then mloop o a b (part o a) (part o b) o.length 0 0 0 0 else none
theorem smerge_few {o a b : List Pt} (h1 : few o a = true) (h2 : few o b = true) : smerge o a b = mloop o a b (part o a) (part o b) o.length 0 0 0 0 := by unfold smerge; rw [h1, h2]; rfl
theorem smerge_not {o a b : List Pt} (h : few o a = false ∨ few o b = false) : smerge o a b = none := by
  unfold smerge; rcases h with h | h <;> rw [h] <;> simp
theorem smerge_comm (o a b : List Pt) : smerge o a b = smerge o b a := by
  unfold smerge; rw [Bool.and_comm, mloop_comm]
theorem smerge_old {o a : List Pt} (h : few o a = true) : smerge o a o = some a := by
  rw [smerge_few h (by rw [few_iff] at h ⊢; exact ⟨h.1, h.1⟩), mloop_old (part_mates o a) (part_self o) _ _ _ _ (by omega) (From.zero _ _)]; rfl
theorem smerge_same {o a : List Pt} (h : few o a = true) : smerge o a a = some a := by
  rw [smerge_few h h, mloop_same (part_mates o a) _ _ _ _ (by omega) (From.zero _ _)]; rfl
theorem smerge_keep {o a b r : List Pt} (h : smerge o a b = some r) : (∀ z ∈ r, z ∈ a ∨ z ∈ b) ∧ (∀ z ∈ a, z ∈ o ∨ z ∈ r) ∧ (∀ z ∈ b, z ∈ o ∨ z ∈ r) ∧ r.length ≤ a.length + b.length := by
  unfold smerge at h
  by_cases hf : (few o a && few o b) = true
  · rw [if_pos hf] at h
    exact mloop_keep (part_mates o a) (part_mates o b) _ _ _ _ _ (by omega) (From.zero _ _) (From.zero _ _) _ h
  · rw [if_neg hf] at h; cases h
theorem smerge_len {o a b r : List Pt} (h : smerge o a b = some r) : r.length ≤ 24 := by
  have h1 := (smerge_keep h).2.2.2
  unfold smerge at h
  by_cases hf : (few o a && few o b) = true
  · rw [Bool.and_eq_true, few_iff, few_iff] at hf; omega
  · rw [if_neg hf] at h; cases h
theorem part_cons (p : Pt) (o a : List Pt) (t : Nat) : part (p :: o) (p :: a) (t + 1) = (part o a t).map (· + 1) := by
  have h := pairs_shift 0 0 o a 1 1
  have e : mateN (pairs (0 + 1) (0 + 1) o a) (t + 1) = (mateN (pairs 0 0 o a) t).map (· + 1) := by
    rw [h]
    generalize pairs 0 0 o a = l
    induction l with
    | nil => rfl
    | cons q l ih =>
      rw [List.map_cons, mateN, mateN]
      by_cases e : q.1 = t
      · rw [if_pos (by dsimp only; omega), if_pos e]; rfl
      · rw [if_neg (by dsimp only; omega), if_neg e, ih]
  unfold part
  rw [pairs_cons_self, mateN, if_neg (by dsimp only; omega), e]
theorem part_cons0 (p : Pt) (o a : List Pt) : part (p :: o) (p :: a) 0 = some 0 := by
  unfold part; rw [pairs_cons_self, mateN, if_pos rfl]
theorem mateN_app (l m : List (Nat × Nat)) (k : Nat) : mateN (l ++ m) k = (mateN l k).or (mateN m k) := by
  induction l with
  | nil => rfl
  | cons p l ih =>
    rw [List.cons_append, mateN, mateN]
    by_cases e : p.1 = k
    · rw [if_pos e, if_pos e]; rfl
    · rw [if_neg e, if_neg e, ih]
theorem part_snoc {p : Pt} {o a : List Pt} (ho : p ∉ o) (ha : p ∉ a) (t : Nat) : part (o ++ [p]) (a ++ [p]) t = (part o a t).or (if o.length = t then some a.length else none) := by
  unfold part; rw [pairs_snoc p 0 0 o a ho ha, mateN_app]
  simp only [mateN, Nat.zero_add]
theorem part_snoc1 {p : Pt} {o a : List Pt} (ho : p ∉ o) (ha : p ∉ a) {t : Nat} (h : t < o.length) : part (o ++ [p]) (a ++ [p]) t = part o a t := by
  rw [part_snoc ho ha, if_neg (by omega)]; cases part o a t <;> rfl
theorem part_snoc2 {p : Pt} {o a : List Pt} (ho : p ∉ o) (ha : p ∉ a) : part (o ++ [p]) (a ++ [p]) o.length = some a.length := by
  rw [part_snoc ho ha, if_pos rfl]
  cases h : part o a o.length with
  | none => rfl
  | some x => have := ((part_mates o a).lt h).1; omega
theorem smerge_cons {o a b : List Pt} (p : Pt) (h1 : few (p :: o) (p :: a) = true) (h2 : few (p :: o) (p :: b) = true) : smerge (p :: o) (p :: a) (p :: b) = (smerge o a b).map (p :: ·) := by
  have g1 : few o a = true := by rw [few_iff] at h1 ⊢; simp only [List.length_cons] at h1; omega
  have g2 : few o b = true := by rw [few_iff] at h2 ⊢; simp only [List.length_cons] at h2; omega
  rw [smerge_few h1 h2, smerge_few g1 g2, List.length_cons, mloop_some (part_cons0 p o a) (part_cons0 p o b), seg_self, seg_self, seg_self, pickL_same, Option.bind_some]
  rw [show (0 : Nat) + 1 = 0 + 1 from rfl, mloop_cons p (fun t _ => part_cons p o a t) (fun t _ => part_cons p o b t) _ _ _ _ _ (by omega)]
  rfl
theorem smerge_snoc {o a b : List Pt} (p : Pt) (ho : p ∉ o) (ha : p ∉ a) (hb : p ∉ b) (h1 : few (o ++ [p]) (a ++ [p]) = true) (h2 : few (o ++ [p]) (b ++ [p]) = true) : smerge (o ++ [p]) (a ++ [p]) (b ++ [p]) = (smerge o a b).map (· ++ [p]) := by
  have g1 : few o a = true := by rw [few_iff] at h1 ⊢; simp only [List.length_append] at h1; omega
  have g2 : few o b = true := by rw [few_iff] at h2 ⊢; simp only [List.length_append] at h2; omega
  rw [smerge_few h1 h2, smerge_few g1 g2, List.length_append, List.length_singleton]
  exact mloop_snoc p (part_mates o a) (part_mates o b) (fun t ht => part_snoc1 ho ha ht) (part_snoc2 ho ha) (fun t ht => part_snoc1 ho hb ht) (part_snoc2 ho hb) _ _ _ _ _ (by omega) (Nat.zero_le _) (Nat.zero_le _) (Nat.zero_le _) (From.zero _ _) (From.zero _ _)
theorem part_shift {p : Pt} {o : List Pt} (hp : p ∉ o) : ∀ t, t < o.length → part o (p :: o) t = some (t + 1) := fun t ht => by
  have e : pairs 0 0 o (p :: o) = pairs 0 1 o o := by
    cases o with
    | nil => rw [pairs_nil, pairs_nil]
    | cons x o =>
      have hx : x ≠ p := fun e => hp (e ▸ List.mem_cons_self)
      rw [pairs_cons, if_neg hx, if_neg]
      have h1 : lcs (x :: o) (x :: o) = o.length + 1 := lcs_self (x :: o)
      have h2 := lcs_le1 o (p :: x :: o)
      omega
  refine mateN_of (pairs_ord _ _ _ _) ?_
  rw [e]
  have := pairs_self 0 1 o []
  rw [List.append_nil] at this
  rw [this, List.mem_map]
  exact ⟨t, by simpa using ht, pp (by omega) (by omega)⟩
theorem smerge_apart {o : List Pt} {p q : Pt} (hp : p ∉ o) (h0 : 0 < o.length) (h : o.length < 12) : smerge o (p :: o) (o ++ [q]) = some (p :: o ++ [q]) := by
  have h1 : few o (p :: o) = true := by rw [few_iff]; simp only [List.length_cons]; omega
  have h2 : few o (o ++ [q]) = true := by rw [few_iff]; simp only [List.length_append, List.length_singleton]; omega
  rw [smerge_few h1 h2]
  obtain ⟨n, e⟩ : ∃ n, o.length = n + 1 := ⟨o.length - 1, by omega⟩
  have hf := part_shift hp
  have hg := part_old o [q]
  rw [e, mloop_some (hf 0 h0) (hg 0 h0), seg_self, seg_self, pickL_old, Option.bind_some]
  have := mloop_apart p q hf hg n 1 (by omega)
  rw [show (0 : Nat) + 1 = 1 from rfl, show (0 : Nat) + 1 + 1 = 1 + 1 from rfl, this, Option.map_some]
  have hd := drop_nth o h0
  rw [List.drop_zero] at hd
  have : seg (p :: o) 0 1 = [p] := rfl
  rw [show (0 : Nat) + 1 = 1 from rfl] at hd
  rw [this, List.singleton_append, ← List.cons_append, ← hd]
  rfl
theorem smerge_clash {o : List Pt} {p q : Pt} (hp : p ∉ o) (hq : q ∉ o) (hpq : p ≠ q) (h0 : 0 < o.length) : smerge o (p :: o) (q :: o) = none := by
  unfold smerge
  by_cases hf : (few o (p :: o) && few o (q :: o)) = true
  · rw [if_pos hf]
    obtain ⟨n, e⟩ : ∃ n, o.length = n + 1 := ⟨o.length - 1, by omega⟩
    rw [e, mloop_some (part_shift hp 0 h0) (part_shift hq 0 h0)]
    have : pickL (seg o 0 0) (seg (p :: o) 0 (0 + 1)) (seg (q :: o) 0 (0 + 1)) = none := by
      show pickL [] [p] [q] = none
      unfold pickL
      rw [if_neg (by simp), if_neg (by simp), if_neg (by simpa using hpq)]
    rw [this]; rfl
  · rw [if_neg hf]
theorem smerge_nil {a b : List Pt} (h1 : a.length ≤ 12) (h2 : b.length ≤ 12) : smerge [] a b = if a = [] then some b else if b = [] then some a else if a = b then some a else none := by
  rw [smerge_few (by rw [few_iff]; exact ⟨Nat.zero_le _, h1⟩) (by rw [few_iff]; exact ⟨Nat.zero_le _, h2⟩)]; rfl
end Go.Proofs.Ythkeboifjlnjjaa

namespace Go.Proofs.Ythkeboifjlnjjaa
set_option linter.unusedVariables false
set_option linter.unusedSimpArgs false
set_option linter.unusedSectionVars false
/-- a test at each place below n -/
def allN (n : Nat) (c : Nat → Bool) : Bool := (List.range n).all c
theorem allN_true {n : Nat} {c : Nat → Bool} (h : ∀ j, j < n → c j = true) : allN n c = true := by
  unfold allN; rw [List.all_eq_true]; intro j hj; exact h j (List.mem_range.1 hj)
theorem allN_false {n k : Nat} {c : Nat → Bool} (hk : k < n) (h : c k = false) : allN n c = false := by
  unfold allN
  rw [Bool.eq_false_iff]; intro ha
  rw [List.all_eq_true] at ha
  rw [ha k (List.mem_range.2 hk)] at h; cases h
theorem allN_iff {n : Nat} {c : Nat → Bool} : allN n c = true ↔ ∀ j, j < n → c j = true := by
  unfold allN; rw [List.all_eq_true]; exact ⟨fun h j hj => h j (List.mem_range.2 hj), fun h j hj => h j (List.mem_range.1 hj)⟩
theorem allN_congr {n : Nat} {c d : Nat → Bool} (h : ∀ j, j < n → c j = d j) : allN n c = allN n d := by
  unfold allN
  rw [Bool.eq_iff_iff, List.all_eq_true, List.all_eq_true]
  exact ⟨fun g j hj => by rw [← h j (List.mem_range.1 hj)]; exact g j hj, fun g j hj => by rw [h j (List.mem_range.1 hj)]; exact g j hj⟩
/-- a loop that goes over all places, and leaves at the first that fails -/
theorem loop_all (n : Nat) (c : Nat → Bool) {B : (Int → Prop) → (Int → Nat) → Int → Prop} {F : Prop}
    (hs : ∀ (I : Int → Prop) (mu : Int → Nat) (k : Nat), k < n → (∀ j, j < k → c j = true) → (c k = true → I ((k : Int) + 1) ∧ mu ((k : Int) + 1) < mu (k : Int)) → B I mu (k : Int))
    (hF : (∀ j, j < n → c j = true) → F) :
    ∃ (I : Int → Prop) (mu : Int → Nat), I 0 ∧ ∀ (i : Int), I i → (if decide (i < (n : Int)) then B I mu i else F) := by
  refine ⟨fun i => ∃ k : Nat, i = k ∧ k ≤ n ∧ ∀ j, j < k → c j = true, fun i => ((n : Int) - i).toNat, ⟨0, rfl, Nat.zero_le _, fun j hj => absurd hj (Nat.not_lt_zero _)⟩, ?_⟩
  rintro _ ⟨k, rfl, hk, ha⟩
  by_cases h : (k : Int) < (n : Int)
  · rw [if_pos (by simpa using h)]
    refine hs _ _ k (by omega) ha fun hc => ⟨⟨k + 1, by omega, by omega, fun j hj => ?_⟩, by omega⟩
    by_cases e : j = k
    · subst e; exact hc
    · exact ha j (by omega)
  · rw [if_neg (by simpa using h)]
    exact hF fun j hj => ha j (by omega)
theorem ite_true' {b : Bool} {p q : Prop} (h : b = true) (hp : p) : (if b then p else q) := by rw [if_pos h]; exact hp
theorem ite_false' {b : Bool} {p q : Prop} (h : b = false) (hq : q) : (if b then p else q) := by rw [if_neg (by rw [h]; exact Bool.false_ne_true)]; exact hq

/-! ### the order of texts -/
theorem less_irr : ∀ a : Str, Op.bytesLess a a = false
  | [] => rfl
  | x :: a => by rw [Op.bytesLess]; simp [less_irr a]
theorem less_tri : ∀ a b : Str, (!(Op.bytesLess a b)) = (Op.bytesLess b a || b == a)
  | [], [] => rfl
  | [], y :: b => rfl
  | x :: a, [] => rfl
  | x :: a, y :: b => by
    rw [Op.bytesLess, Op.bytesLess]
    have h := less_tri a b
    by_cases h1 : x < y
    · have h2 : ¬ y < x := fun h => absurd (UInt8.lt_trans h1 h) (UInt8.lt_irrefl _)
      have h3 : ¬ y = x := fun e => by subst e; exact UInt8.lt_irrefl _ h1
      simp [h1, h2, h3]
    · by_cases h2 : y < x
      · have h3 : ¬ x = y := fun e => by subst e; exact UInt8.lt_irrefl _ h2
        simp [h1, h2, h3]
      · have h3 : x = y := UInt8.le_antisymm (UInt8.not_lt.1 h2) (UInt8.not_lt.1 h1)
        subst h3
        simp only [h1, decide_false, Bool.false_or, beq_self_eq_true, Bool.true_and]
        rw [h]
        congr 1
        rw [Bool.eq_iff_iff, beq_iff_eq, beq_iff_eq]
        simp
end Go.Proofs.Ythkeboifjlnjjaa

namespace Go.Proofs.Ythkeboifjlnjjaa
set_option linter.unusedVariables false
set_option linter.unusedSimpArgs false
set_option linter.unusedSectionVars false
def byteOk (b : UInt8) : Bool := !(decide ((b.toNat : Int) < 97)) && !(decide ((b.toNat : Int) > 122))
def wordOk (s : Str) : Bool := allN s.length (fun k => byteOk (nth s (k : Int))) && (decide (1 ≤ s.length) && decide (s.length ≤ 6))
def inR (x : Int) : Bool := decide (-1000 ≤ x) && decide (x ≤ 1000)
def ptOk (p : Pt) : Bool := inR p.X && inR p.Y
def ptsOk (p : List Pt) : Bool := allN p.length fun k => ptOk (nth p (k : Int)) && (decide (k = 0) || !(decide (nth p ((k : Int) - 1) = nth p (k : Int))))
def kindOk (kind : Int) (p : List Pt) : Bool :=
  if kind = 1 then decide (p.length = 1) else if kind = 2 then decide (2 ≤ p.length) && decide (p.length ≤ 6)
  else if kind = 3 then decide (3 ≤ p.length) && decide (p.length ≤ 6) && !(decide (nth p 0 = nth p ((p.length : Int) - 1))) else false
def shapeOk (s : Shape) : Bool := ptsOk s.Pts && kindOk s.Kind s.Pts
def tagsOk (t : List Tag) : Bool := allN t.length fun k => wordOk (nth t (k : Int)).Key && wordOk (nth t (k : Int)).Val && (decide (k = 0) || Op.bytesLess (nth t ((k : Int) - 1)).Key (nth t (k : Int)).Key)
def featOk (f : Feat) : Bool := tagsOk f.Tags && decide (f.Tags.length ≤ 4) && wordOk f.Id && shapeOk f.Shape
def noF (f : Feat) : Bool := decide (f = ⟨[], ⟨0, []⟩, []⟩)
def sideOk (id : Str) (has : Bool) (f : Feat) : Bool := if has then featOk f && decide (f.Id = id) else noF f
def sameC (c : Change) : Bool := decide (c.Had = c.Has) && decide (c.Was = c.Now)
def changeOk (c : Change) : Bool := wordOk c.Id && sideOk c.Id c.Had c.Was && sideOk c.Id c.Has c.Now && !(sameC c)
def diffOk (d : List Change) : Bool := allN d.length (fun k => changeOk (nth d (k : Int)) && (decide (k = 0) || Op.bytesLess (nth d ((k : Int) - 1)).Id (nth d (k : Int)).Id)) && decide (d.length ≤ 16)
def sheetOk (s : List Feat) : Bool := allN s.length (fun k => featOk (nth s (k : Int)) && (decide (k = 0) || Op.bytesLess (nth s ((k : Int) - 1)).Id (nth s (k : Int)).Id)) && decide (s.length ≤ 8)
theorem Feat.ext_iff' (a b : Feat) : a = b ↔ a.Id = b.Id ∧ a.Shape = b.Shape ∧ a.Tags = b.Tags := by cases a; cases b; simp
theorem Shape.ext_iff' (a b : Shape) : a = b ↔ a.Kind = b.Kind ∧ a.Pts = b.Pts := by cases a; cases b; simp
end Go.Proofs.Ythkeboifjlnjjaa

namespace Go.Proofs.Ythkeboifjlnjjaa
set_option linter.unusedVariables false
set_option linter.unusedSimpArgs false
set_option linter.unusedSectionVars false
/-- the first place that meets a test, or -1 -/
def findN (n : Nat) (c : Nat → Bool) : Int := match (List.range n).find? c with | some k => (k : Int) | none => -1
theorem findN_hit {n k : Nat} {c : Nat → Bool} (hk : k < n) (h : c k = true) (hp : ∀ j, j < k → c j = false) : findN n c = (k : Int) := by
  unfold findN
  have : (List.range n).find? c = some k := by
    rw [List.find?_range_eq_some]
    exact ⟨h, List.mem_range.2 hk, fun j hj => by rw [hp j hj]; rfl⟩
  rw [this]
theorem findN_none {n : Nat} {c : Nat → Bool} (h : ∀ j, j < n → c j = false) : findN n c = -1 := by
  unfold findN
  have : (List.range n).find? c = none := by
    rw [List.find?_eq_none]; intro j hj; rw [h j (List.mem_range.1 hj)]; exact Bool.false_ne_true
  rw [this]
theorem findN_le (n : Nat) (c : Nat → Bool) : -1 ≤ findN n c ∧ findN n c < n := by
  unfold findN
  cases h : (List.range n).find? c with
  | none => exact ⟨Int.le_refl _, by dsimp only; omega⟩
  | some k => have := List.mem_range.1 (List.mem_of_find?_eq_some h); exact ⟨by dsimp only; omega, by dsimp only; omega⟩
theorem loop_find (n : Nat) (c : Nat → Bool) {B : (Int → Prop) → (Int → Nat) → Int → Prop} {Q : Int → Prop} (hq : Q (findN n c))
    (hs : ∀ (I : Int → Prop) (mu : Int → Nat) (k : Nat), k < n → (c k = true → Q (k : Int)) → (c k = false → I ((k : Int) + 1) ∧ mu ((k : Int) + 1) < mu (k : Int)) → B I mu (k : Int)) :
    ∃ (I : Int → Prop) (mu : Int → Nat), I 0 ∧ ∀ (i : Int), I i → (if decide (i < (n : Int)) then B I mu i else Q (-1)) := by
  refine loop_all n (fun k => !(c k)) (fun I mu k hk hp hn => hs I mu k hk (fun h => ?_) (fun h => hn (by rw [h]; rfl))) (fun ha => ?_)
  · rw [findN_hit hk h (fun j hj => by have := hp j hj; rwa [Bool.not_eq_true'] at this)] at hq; exact hq
  · rw [findN_none (fun j hj => by have := ha j hj; rwa [Bool.not_eq_true'] at this)] at hq; exact hq
section
variable {α : Type} [Inhabited α] [DecidableEq α]
theorem list_eq_iff (a b : List α) (h : a.length = b.length) : a = b ↔ ∀ k, k < a.length → nth a (k : Int) = nth b (k : Int) := ⟨fun e k _ => by rw [e], ext_nth h⟩
/-- two rows, compared by a function that comes in -/
theorem eqF_shape (a b : List α) (el : α → α → Bool) (ok : α → α → Prop) (hok : ∀ x y, x ∈ a → ok x y) (hel : ∀ x y, x ∈ a → el x y = decide (x = y)) (hb : a.length ≤ 1048576) (Q : Bool → Prop) (hq : Q (decide (a = b))) :
    (if (a.length : Int) != (b.length : Int) then Q false else (∃ (I36 : Int → Prop) (mu37 : Int → Nat), I36 0 ∧ ∀ (v2 : Int), I36 v2 → (if decide (v2 < (a.length : Int)) then ((0 : Int) ≤ v2 ∧ v2 < (a.length : Int)) ∧ ((0 : Int) ≤ v2 ∧ v2 < (b.length : Int)) ∧ (ok (nth a v2) (nth b v2)) ∧ (if !(el (nth a v2) (nth b v2)) then Q false else (I64 (v2 + 1)) ∧ I36 (v2 + 1) ∧ mu37 (v2 + 1) < mu37 v2) else Q true))) := by
  by_cases hl : a.length = b.length
  · rw [if_neg (by simp [hl])]
    refine loop_all a.length (fun k => decide (nth a (k : Int) = nth b (k : Int))) (fun I mu k hk hp hn => ?_) (fun ha => ?_)
    · refine ⟨by omega, by omega, hok _ _ (nth_mem a hk), ?_⟩
      rw [hel _ _ (nth_mem a hk)]
      by_cases h : nth a (k : Int) = nth b (k : Int)
      · rw [decide_eq_true h, if_neg (by decide)]
        obtain ⟨i1, i2⟩ := hn (decide_eq_true h)
        exact ⟨by unfold I64; omega, i1, i2⟩
      · rw [decide_eq_false h, if_pos (by decide)]
        rw [decide_eq_false (by rw [list_eq_iff a b hl]; exact fun g => h (g k hk))] at hq; exact hq
    · rw [decide_eq_true ((list_eq_iff a b hl).2 fun k hk => of_decide_eq_true (ha k hk))] at hq; exact hq
  · rw [if_pos (by rw [bne_iff_ne]; omega)]
    rw [decide_eq_false (fun e => hl (by rw [e]))] at hq; exact hq
theorem eqQ_shape (a b : List α) (el : α → α → (Bool → Prop) → Prop) (hel : ∀ x y, x ∈ a → el x y (fun r => r = decide (x = y))) (Q : Prop) (Q' : Prop) (hl : a.length = b.length) (hn : a ≠ b → Q) (hy : a = b → Q') :
    (∃ (I32 : Int → Prop) (mu33 : Int → Nat), I32 0 ∧ ∀ (i2 : Int), I32 i2 → (if decide (i2 < (a.length : Int)) then ((0 : Int) ≤ i2 ∧ i2 < (a.length : Int)) ∧ ((0 : Int) ≤ i2 ∧ i2 < (b.length : Int)) ∧ (∃ q : Bool, el (nth a i2) (nth b i2) (fun x => x = q) ∧ (if !q then Q else (-9223372036854775808 ≤ i2) ∧ I32 (i2 + 1) ∧ mu33 (i2 + 1) < mu33 i2)) else Q')) := by
  refine loop_all a.length (fun k => decide (nth a (k : Int) = nth b (k : Int))) (fun I mu k hk hp hn' => ?_) (fun ha => ?_)
  · refine ⟨by omega, by omega, _, hel _ _ (nth_mem a hk), ?_⟩
    by_cases h : nth a (k : Int) = nth b (k : Int)
    · rw [decide_eq_true h, if_neg (by decide)]
      obtain ⟨i1, i2⟩ := hn' (decide_eq_true h)
      exact ⟨by omega, i1, i2⟩
    · rw [decide_eq_false h, if_pos (by decide)]
      exact hn (by rw [Ne, list_eq_iff a b hl]; exact fun g => h (g k hk))
  · exact hy ((list_eq_iff a b hl).2 fun k hk => of_decide_eq_true (ha k hk))
end
end Go.Proofs.Ythkeboifjlnjjaa

namespace Go.Proofs.Ythkeboifjlnjjaa
set_option linter.unusedVariables false
set_option linter.unusedSimpArgs false
set_option linter.unusedSectionVars false
def findCommit (r : Repo) (c : Commit) : Int := findN r.Commits.length fun j => decide (nth r.Commits (j : Int) = c)
def findHead (r : Repo) (name : Str) : Int := findN r.Heads.length fun j => decide ((nth r.Heads (j : Int)).Name = name)
def inUp (up : List Int) (k j : Nat) : Bool := decide (0 ≤ nth up (j : Int)) && decide (nth up (j : Int) < (k : Int))
def upOk (up : List Int) (k : Nat) : Bool := (decide (k = 0) == decide (up.length = 0)) && decide (up.length ≤ 2) && allN up.length fun j => inUp up k j && !(decide (nth up (j : Int) ∈ up.take j))
theorem upOk_eq (up : List Int) (k : Nat) : (allN up.length (inUp up k) && (decide (up.length ≤ 2) && ((decide (0 < up.length) == decide (0 < k)) && (decide (up.length < 2) || !(decide (nth up 0 = nth up 1)))))) = upOk up k := by
  unfold upOk
  have h0 : (decide (k = 0) == decide (up.length = 0)) = (decide (0 < up.length) == decide (0 < k)) := by
    rcases Nat.eq_zero_or_pos k with h | h <;> rcases Nat.eq_zero_or_pos up.length with g | g
    · rw [h, g]; rfl
    · rw [h, decide_eq_false (show ¬ up.length = 0 by omega), decide_eq_true g]; rfl
    · rw [g, decide_eq_false (show ¬ k = 0 by omega), decide_eq_true h]; rfl
    · rw [decide_eq_false (show ¬ k = 0 by omega), decide_eq_false (show ¬ up.length = 0 by omega), decide_eq_true h, decide_eq_true g]; rfl
  rw [h0]
  match up with
  | [] => simp [allN]
  | [x] => simp [allN, Bool.and_comm]
  | [x, y] =>
    have e : allN 2 (fun j => inUp [x, y] k j && !(decide (nth [x, y] (j : Int) ∈ [x, y].take j))) = (inUp [x, y] k 0 && inUp [x, y] k 1 && !(decide (x = y))) := by
      have : (decide (y = x)) = decide (x = y) := decide_eq_decide.2 eq_comm
      simp [allN, List.range_succ, nth, this, Bool.and_assoc]
    have e2 : allN 2 (inUp [x, y] k) = (inUp [x, y] k 0 && inUp [x, y] k 1) := by simp [allN, List.range_succ]
    show (allN 2 (inUp [x, y] k) && _) = (_ && allN 2 _)
    rw [e, e2]
    have e3 : decide (nth [x, y] 0 = nth [x, y] 1) = decide (x = y) := rfl
    rw [e3]
    simp only [show decide ([x, y].length ≤ 2) = true from rfl, show decide ([x, y].length < 2) = false from rfl, Bool.true_and, Bool.false_or, Bool.and_true]
    cases decide (x = y) <;> cases inUp [x, y] k 0 <;> cases inUp [x, y] k 1 <;> cases (decide (0 < [x, y].length) == decide (0 < k)) <;> rfl
  | x :: y :: z :: l =>
    have : decide ((x :: y :: z :: l).length ≤ 2) = false := decide_eq_false (by simp)
    rw [this]; simp
def repoOk (r : Repo) : Bool :=
  (decide (1 ≤ r.Commits.length) && decide (r.Commits.length ≤ 14)) && (decide (1 ≤ r.Heads.length) && decide (r.Heads.length ≤ 4)) &&
  allN r.Commits.length (fun k => sheetOk (nth r.Commits (k : Int)).Sheet && wordOk (nth r.Commits (k : Int)).Note && decide (findCommit r (nth r.Commits (k : Int)) = (k : Int)) && upOk (nth r.Commits (k : Int)).Up k) &&
  allN r.Heads.length (fun k => wordOk (nth r.Heads (k : Int)).Name && decide (findHead r (nth r.Heads (k : Int)).Name = (k : Int)) && (decide (0 ≤ (nth r.Heads (k : Int)).At) && decide ((nth r.Heads (k : Int)).At < (r.Commits.length : Int))))
end Go.Proofs.Ythkeboifjlnjjaa

namespace Go.Proofs.Ythkeboifjlnjjaa
set_option linter.unusedVariables false
set_option linter.unusedSimpArgs false
set_option linter.unusedSectionVars false
theorem spec_l7Up.law (up : List Int) (k : Nat) (Q : Bool → Prop) (hq : Q (upOk up k)) : spec_l7Up.E up (k : Int) Q := by
  unfold spec_l7Up.E
  rw [← upOk_eq] at hq
  refine loop_all up.length (inUp up k) (fun I mu j hj hp hn => ?_) (fun ha => ?_)
  · have bad : inUp up k j = false → Q false := fun h => by rw [allN_false hj h, Bool.false_and] at hq; exact hq
    refine ⟨by omega, ?_⟩
    by_cases h1 : 0 ≤ nth up (j : Int)
    · rw [if_neg (by rw [decide_eq_true_eq]; omega)]
      refine ⟨by omega, ?_⟩
      by_cases h2 : nth up (j : Int) < (k : Int)
      · rw [if_neg (by rw [decide_eq_true_eq]; omega)]
        obtain ⟨i1, i2⟩ := hn (by unfold inUp; rw [decide_eq_true h1, decide_eq_true h2]; rfl)
        exact ⟨by omega, i1, i2⟩
      · rw [if_pos (by rw [decide_eq_true_eq]; omega)]
        exact bad (by unfold inUp; rw [decide_eq_false h2, Bool.and_false])
    · rw [if_pos (by rw [decide_eq_true_eq]; omega)]
      exact bad (by unfold inUp; rw [decide_eq_false h1]; rfl)
  · rw [allN_true ha, Bool.true_and] at hq
    by_cases h1 : up.length ≤ 2
    · rw [decide_eq_true h1, Bool.true_and] at hq
      rw [if_pos (by rw [decide_eq_true_eq]; omega)]
      have e1 : decide ((up.length : Int) > 0) = decide (0 < up.length) := decide_eq_decide.2 (by omega)
      have e2 : decide ((k : Int) > 0) = decide (0 < k) := decide_eq_decide.2 (by omega)
      rw [e1, e2]
      cases h2 : (decide (0 < up.length) == decide (0 < k)) with
      | false => rw [h2] at hq; rw [if_neg (by decide)]; exact hq
      | true =>
        rw [h2, Bool.true_and] at hq
        rw [if_pos rfl]
        by_cases h3 : up.length < 2
        · rw [decide_eq_true h3, Bool.true_or] at hq
          rw [if_pos (by rw [decide_eq_true_eq]; omega)]; exact hq
        · rw [decide_eq_false h3, Bool.false_or] at hq
          rw [if_neg (by rw [decide_eq_true_eq]; omega)]
          refine ⟨by omega, by omega, ?_⟩
          have : (nth up 0 != nth up 1) = !(decide (nth up 0 = nth up 1)) := by
            by_cases h : nth up 0 = nth up 1
            · rw [decide_eq_true h, h]; simp
            · rw [decide_eq_false h]; simpa using h
          rw [this]; exact hq
    · rw [decide_eq_false h1] at hq
      rw [if_neg (by rw [decide_eq_true_eq]; omega)]; exact hq
end Go.Proofs.Ythkeboifjlnjjaa

namespace Go.Proofs.Ythkeboifjlnjjaa
open Go.RowKit
set_option linter.unusedVariables false
def spec_WordOk.E (s : Str) (Q : Bool → Prop) : Prop :=
  (∃ (I8 : Int → Prop) (mu9 : Int → Nat), I8 0 ∧ ∀ (i2 : Int), I8 i2 → (if decide (i2 < (s.length : Int)) then ((0 : Int) ≤ i2 ∧ i2 < (s.length : Int)) ∧ (if decide (((nth s i2).toNat : Int) < 97) then Q false else ((0 : Int) ≤ i2 ∧ i2 < (s.length : Int)) ∧ (if decide (((nth s i2).toNat : Int) > 122) then Q false else (-9223372036854775808 ≤ i2) ∧ I8 (i2 + 1) ∧ mu9 (i2 + 1) < mu9 i2)) else (if decide ((s.length : Int) ≥ 1) then Q (decide ((s.length : Int) ≤ 6)) else Q false)))
set_option maxHeartbeats 8000000 in
set_option maxRecDepth 100000 in
theorem spec_WordOk.calls {O : Ob} (w0 : World) (hO : Ok w0 O) (s : Str) (hs1 : Lim s) (Q : Bool → Prop) (h : spec_WordOk.E s Q) :
    Ret Try.prog 57 [vs s] w0 (fun v w' => ∃ (r0 : Bool), v = vb r0 ∧ Q r0 ∧ Gr w0 w' none) := by
  have H : (∃ (I8 : Int → Prop) (mu9 : Int → Nat), I8 0 ∧ ∀ (i2 : Int), I8 i2 → (if decide (i2 < (s.length : Int)) then ((0 : Int) ≤ i2 ∧ i2 < (s.length : Int)) ∧ (if decide (((nth s i2).toNat : Int) < 97) then Q false else ((0 : Int) ≤ i2 ∧ i2 < (s.length : Int)) ∧ (if decide (((nth s i2).toNat : Int) > 122) then Q false else (-9223372036854775808 ≤ i2) ∧ I8 (i2 + 1) ∧ mu9 (i2 + 1) < mu9 i2)) else (if decide ((s.length : Int) ≥ 1) then Q (decide ((s.length : Int) ≤ 6)) else Q false))) := h
  clear h
  have hc0 := Ct.init hO
  refine Ret_enter Try.func57 rfl 28 rfl [.tmp 2] rfl rfl ?_
  refine W_seq ?_
  refine W_reg ?_
  refine L_pu (P_assign (vb false) rfl) ?_
  refine L_nil ?_
  refine W_seq ?_
  refine W_seq ?_
  refine W_reg ?_
  refine L_pu (P_assign (vi 0) rfl) ?_
  refine L_nil ?_
  refine W_block ?_
  obtain ⟨I8, mu9, hI10, H⟩ := H
  refine W_loop (α := Int) (fun (sv__ : Int) t w6 => match sv__ with | i2 => I8 i2 ∧ Has t [(0, vs s), (3, vi i2)] ∧ Ct none w0 w6 [] O) (fun (sv__ : Int) => match sv__ with | i2 => mu9 i2) 0 ⟨hI10, ⟨rfl, rfl, trivial⟩, hc0⟩ ?_
  rintro i2 _ w6 ⟨hI10, hh12, hc7⟩
  obtain ⟨u13, rfl⟩ := Has.ins hh12
  have H := H i2 hI10
  refine W_seq ?_
  refine W_seq ?_
  refine W_reg ?_
  refine L_pu (P_move (vi i2) rfl) ?_
  refine L_pu (P_move (vs s) rfl) ?_
  have hl14 := hs1
  refine L_pu (P_lens Try.underlying9 s rfl) ?_
  refine L_pu (P_cmp i2 (s.length : Int) (decide (i2 < (s.length : Int))) rfl rfl rfl) ?_
  refine L_nil ?_
  refine W_cond (decide (i2 < (s.length : Int))) rfl (fun hq15 => ?_) (fun hq15 => ?_)
  · have H := ite_t H hq15
    refine W_skip ?_
    refine W_seq ?_
    refine W_block ?_
    refine W_seq ?_
    refine W_reg ?_
    refine L_pu (P_move (vs s) rfl) ?_
    refine L_pu (P_move (vi i2) rfl) ?_
    obtain ⟨hb16, H⟩ := H
    refine L_pu (P_index Try.underlying9 s i2 rfl rfl hb16) ?_
    refine L_pu (P_cmp ((nth s i2).toNat : Int) 97 (decide (((nth s i2).toNat : Int) < 97)) rfl rfl rfl) ?_
    refine L_pu (P_move (vb (decide (((nth s i2).toNat : Int) < 97))) rfl) ?_
    rcases bool_or (decide (((nth s i2).toNat : Int) < 97)) with hq17 | hq17
    · have H := ite_t H hq17
      refine L_pass (dj := 14) rfl rfl (.inl (by exact congrArg Value.bool hq17)) ?_
      refine L_pass (dj := 14) rfl rfl (.inl (by exact congrArg Value.bool hq17)) ?_
      refine L_pass (dj := 14) rfl rfl (.inl (by exact congrArg Value.bool hq17)) ?_
      refine L_pass (dj := 14) rfl rfl (.inl (by exact congrArg Value.bool hq17)) ?_
      refine L_pu (P_pick true (vb true) (by exact congrArg Value.bool hq17) rfl) ?_
      refine L_nil ?_
      refine W_ct (b := true) rfl rfl ?_
      refine W_seq ?_
      refine W_reg ?_
      refine L_pu (P_assign (vb false) rfl) ?_
      refine L_nil ?_
      refine W_ret ?_
      exact ⟨[vb false], ⟨_, rfl, rfl⟩, false, rfl, H, hc7.gr⟩
    · have H := ite_f H hq17
      refine L_run (dj := 14) rfl rfl (by exact congrArg Value.bool hq17) ?_
      refine L_pu (P_move (vs s) rfl) ?_
      refine L_run (dj := 14) rfl rfl (by exact congrArg Value.bool hq17) ?_
      refine L_pu (P_move (vi i2) rfl) ?_
      refine L_run (dj := 14) rfl rfl (by exact congrArg Value.bool hq17) ?_
      obtain ⟨hb18, H⟩ := H
      refine L_pu (P_index Try.underlying9 s i2 rfl rfl hb18) ?_
      refine L_run (dj := 14) rfl rfl (by exact congrArg Value.bool hq17) ?_
      refine L_pu (P_cmp ((nth s i2).toNat : Int) 122 (decide (((nth s i2).toNat : Int) > 122)) rfl rfl rfl) ?_
      refine L_pu (P_pick false (vb (decide (((nth s i2).toNat : Int) > 122))) (by exact congrArg Value.bool hq17) rfl) ?_
      refine L_nil ?_
      refine W_cond (decide (((nth s i2).toNat : Int) > 122)) rfl (fun hq19 => ?_) (fun hq19 => ?_)
      · have H := ite_t H hq19
        refine W_seq ?_
        refine W_reg ?_
        refine L_pu (P_assign (vb false) rfl) ?_
        refine L_nil ?_
        refine W_ret ?_
        exact ⟨[vb false], ⟨_, rfl, rfl⟩, false, rfl, H, hc7.gr⟩
      · have H := ite_f H hq19
        refine W_skip ?_
        refine W_reg ?_
        refine L_pu (P_move (vi i2) rfl) ?_
        obtain ⟨hb21, H⟩ := H
        have hi20 : I64 (i2 + 1) := i64_succ (of_decide_eq_true hq15) hl14 hb21
        refine L_pu (P_add i2 1 rfl rfl hi20) ?_
        refine L_pu (P_assign (vi (i2 + 1)) rfl) ?_
        refine L_nil ?_
        obtain ⟨hI22, hm23⟩ := H
        exact ⟨i2 + 1, hm23, hI22, ⟨rfl, rfl, trivial⟩, hc7⟩
  · have H := ite_f H hq15
    refine W_exit (xin_hit ?_)
    refine W_seq ?_
    refine W_reg ?_
    refine L_pu (P_move (vs s) rfl) ?_
    refine L_pu (P_lens Try.underlying9 s rfl) ?_
    refine L_pu (P_cmp (s.length : Int) 1 (decide ((s.length : Int) ≥ 1)) rfl rfl rfl) ?_
    refine L_pu (P_move (vb (decide ((s.length : Int) ≥ 1))) rfl) ?_
    rcases bool_or (decide ((s.length : Int) ≥ 1)) with hq24 | hq24
    · have H := ite_t H hq24
      refine L_run (dj := 23) rfl rfl (by exact congrArg Value.bool hq24) ?_
      refine L_pu (P_move (vs s) rfl) ?_
      refine L_run (dj := 23) rfl rfl (by exact congrArg Value.bool hq24) ?_
      refine L_pu (P_lens Try.underlying9 s rfl) ?_
      refine L_run (dj := 23) rfl rfl (by exact congrArg Value.bool hq24) ?_
      refine L_pu (P_cmp (s.length : Int) 6 (decide ((s.length : Int) ≤ 6)) rfl rfl rfl) ?_
      refine L_pu (P_pick true (vb (decide ((s.length : Int) ≤ 6))) (by exact congrArg Value.bool hq24) rfl) ?_
      refine L_pu (P_assign (vb (decide ((s.length : Int) ≤ 6))) rfl) ?_
      refine L_nil ?_
      refine W_ret ?_
      exact ⟨[vb (decide ((s.length : Int) ≤ 6))], ⟨_, rfl, rfl⟩, decide ((s.length : Int) ≤ 6), rfl, H, hc7.gr⟩
    · have H := ite_f H hq24
      refine L_pass (dj := 23) rfl rfl (.inl (by exact congrArg Value.bool hq24)) ?_
      refine L_pass (dj := 23) rfl rfl (.inl (by exact congrArg Value.bool hq24)) ?_
      refine L_pass (dj := 23) rfl rfl (.inl (by exact congrArg Value.bool hq24)) ?_
      refine L_pu (P_pick false (vb false) (by exact congrArg Value.bool hq24) rfl) ?_
      refine L_pu (P_assign (vb false) rfl) ?_
      refine L_nil ?_
      refine W_ret ?_
      exact ⟨[vb false], ⟨_, rfl, rfl⟩, false, rfl, H, hc7.gr⟩
end Go.Proofs.Ythkeboifjlnjjaa

namespace Go.Proofs.Ythkeboifjlnjjaa
set_option linter.unusedVariables false
set_option linter.unusedSimpArgs false
set_option linter.unusedSectionVars false
theorem spec_WordOk.law (s : Str) (Q : Bool → Prop) (hq : Q (wordOk s)) : spec_WordOk.E s Q := by
  unfold spec_WordOk.E
  unfold wordOk at hq
  refine loop_all s.length (fun k => byteOk (nth s (k : Int))) (fun I mu k hk hp hn => ?_) (fun ha => ?_)
  · refine ⟨by omega, ?_⟩
    cases h1 : decide (((nth s (k : Int)).toNat : Int) < 97) with
    | true => rw [if_pos rfl]; rw [allN_false hk (by simp only [byteOk, h1]; rfl), Bool.false_and] at hq; exact hq
    | false =>
      rw [if_neg (by decide)]
      refine ⟨by omega, ?_⟩
      cases h2 : decide (((nth s (k : Int)).toNat : Int) > 122) with
      | true => rw [if_pos rfl]; rw [allN_false hk (by simp only [byteOk, h1, h2]; rfl), Bool.false_and] at hq; exact hq
      | false =>
        rw [if_neg (by decide)]
        obtain ⟨i1, i2⟩ := hn (by simp only [byteOk, h1, h2]; rfl)
        exact ⟨by omega, i1, i2⟩
  · rw [allN_true ha, Bool.true_and] at hq
    by_cases h : 1 ≤ s.length
    · rw [decide_eq_true h, Bool.true_and] at hq
      rw [if_pos (by rw [decide_eq_true_eq]; omega)]
      have e2 : decide ((s.length : Int) ≤ 6) = decide (s.length ≤ 6) := decide_eq_decide.2 (by omega)
      rw [e2]; exact hq
    · rw [decide_eq_false h, Bool.false_and] at hq
      rw [if_neg (by rw [decide_eq_true_eq]; omega)]; exact hq
end Go.Proofs.Ythkeboifjlnjjaa

namespace Go.Proofs.Ythkeboifjlnjjaa
open Go.RowKit
set_option linter.unusedVariables false
def spec_l1Num.E (n : Int) (Q : Bool → Prop) : Prop :=
  (if decide (n ≥ (-1000)) then Q (decide (n ≤ 1000)) else Q false)
set_option maxHeartbeats 8000000 in
set_option maxRecDepth 100000 in
theorem spec_l1Num.calls {O : Ob} (w0 : World) (hO : Ok w0 O) (n : Int) (Q : Bool → Prop) (h : spec_l1Num.E n Q) :
    Ret Try.prog 128 [vi n] w0 (fun v w' => ∃ (r0 : Bool), v = vb r0 ∧ Q r0 ∧ Gr w0 w' none ∧ w' = w0) := by
  have H : (if decide (n ≥ (-1000)) then Q (decide (n ≤ 1000)) else Q false) := h
  clear h
  have hc0 := Ct.init hO
  refine Ret_enter Try.func128 rfl 9 rfl [.tmp 2] rfl rfl ?_
  refine W_seq ?_
  refine W_reg ?_
  refine L_pu (P_assign (vb false) rfl) ?_
  refine L_nil ?_
  refine W_seq ?_
  refine W_reg ?_
  refine L_pu (P_move (vi n) rfl) ?_
  refine L_pu (P_cmp n (-1000) (decide (n ≥ (-1000))) rfl rfl rfl) ?_
  refine L_pu (P_move (vb (decide (n ≥ (-1000)))) rfl) ?_
  rcases bool_or (decide (n ≥ (-1000))) with hq1 | hq1
  · have H := ite_t H hq1
    refine L_run (dj := 5) rfl rfl (by exact congrArg Value.bool hq1) ?_
    refine L_pu (P_move (vi n) rfl) ?_
    refine L_run (dj := 5) rfl rfl (by exact congrArg Value.bool hq1) ?_
    refine L_pu (P_cmp n 1000 (decide (n ≤ 1000)) rfl rfl rfl) ?_
    refine L_pu (P_pick true (vb (decide (n ≤ 1000))) (by exact congrArg Value.bool hq1) rfl) ?_
    refine L_pu (P_assign (vb (decide (n ≤ 1000))) rfl) ?_
    refine L_nil ?_
    refine W_ret ?_
    exact ⟨[vb (decide (n ≤ 1000))], ⟨_, rfl, rfl⟩, decide (n ≤ 1000), rfl, H, hc0.gr, rfl⟩
  · have H := ite_f H hq1
    refine L_pass (dj := 5) rfl rfl (.inl (by exact congrArg Value.bool hq1)) ?_
    refine L_pass (dj := 5) rfl rfl (.inl (by exact congrArg Value.bool hq1)) ?_
    refine L_pu (P_pick false (vb false) (by exact congrArg Value.bool hq1) rfl) ?_
    refine L_pu (P_assign (vb false) rfl) ?_
    refine L_nil ?_
    refine W_ret ?_
    exact ⟨[vb false], ⟨_, rfl, rfl⟩, false, rfl, H, hc0.gr, rfl⟩
def spec_l1Num.m (n : Int) : Bool := (if decide (n ≥ (-1000)) then (decide (n ≤ 1000)) else false)
theorem spec_l1Num.fn (n : Int) : spec_l1Num.E n (fun r => r = spec_l1Num.m n) := by
  unfold spec_l1Num.E spec_l1Num.m
  (repeat' split) <;> simp_all
end Go.Proofs.Ythkeboifjlnjjaa

namespace Go.Proofs.Ythkeboifjlnjjaa
set_option linter.unusedVariables false
set_option linter.unusedSimpArgs false
set_option linter.unusedSectionVars false
theorem spec_l1Num.m_is (n : Int) : spec_l1Num.m n = inR n := by
  unfold spec_l1Num.m inR
  by_cases h : -1000 ≤ n
  · rw [if_pos (by rw [decide_eq_true_eq]; omega), decide_eq_true h, Bool.true_and]
  · rw [if_neg (by rw [decide_eq_true_eq]; omega), decide_eq_false h, Bool.false_and]
end Go.Proofs.Ythkeboifjlnjjaa

namespace Go.Proofs.Ythkeboifjlnjjaa
open Go.RowKit
set_option linter.unusedVariables false
def spec_l1Pts.E (p : List Pt) (Q : Bool → Prop) : Prop :=
  (∃ (I18 : Int → Prop) (mu19 : Int → Nat), I18 0 ∧ ∀ (i2 : Int), I18 i2 → (if decide (i2 < (p.length : Int)) then ((0 : Int) ≤ i2 ∧ i2 < (p.length : Int)) ∧ (if !(spec_l1Num.m ((nth p i2).X)) then Q false else ((0 : Int) ≤ i2 ∧ i2 < (p.length : Int)) ∧ (if !(spec_l1Num.m ((nth p i2).Y)) then Q false else (if decide (i2 > 0) then ((0 : Int) ≤ i2 ∧ i2 < (p.length : Int)) ∧ ((p.length : Int) ≤ 9223372036854775807 → I64 (i2 - 1)) ∧ ((0 : Int) ≤ i2 - 1 ∧ i2 - 1 < (p.length : Int)) ∧ (if eqPt (nth p i2) (nth p (i2 - 1)) then Q false else (-9223372036854775808 ≤ i2) ∧ I18 (i2 + 1) ∧ mu19 (i2 + 1) < mu19 i2) else (-9223372036854775808 ≤ i2) ∧ I18 (i2 + 1) ∧ mu19 (i2 + 1) < mu19 i2))) else Q (decide ((p.length : Int) ≤ 6))))
set_option maxHeartbeats 8000000 in
set_option maxRecDepth 100000 in
theorem spec_l1Pts.calls {O : Ob} (w0 : World) (hO : Ok w0 O) (p : List Pt) (A1 : Option Addr) (n2 c3 : Nat) (hp4 : Sl kPt w0 (Fr O) (.slice A1 n2 c3) p) (Q : Bool → Prop) (h : spec_l1Pts.E p Q) :
    Ret Try.prog 122 [.slice A1 n2 c3] w0 (fun v w' => ∃ (r0 : Bool), v = vb r0 ∧ Q r0 ∧ Gr w0 w' none) := by
  have H : (∃ (I18 : Int → Prop) (mu19 : Int → Nat), I18 0 ∧ ∀ (i2 : Int), I18 i2 → (if decide (i2 < (p.length : Int)) then ((0 : Int) ≤ i2 ∧ i2 < (p.length : Int)) ∧ (if !(spec_l1Num.m ((nth p i2).X)) then Q false else ((0 : Int) ≤ i2 ∧ i2 < (p.length : Int)) ∧ (if !(spec_l1Num.m ((nth p i2).Y)) then Q false else (if decide (i2 > 0) then ((0 : Int) ≤ i2 ∧ i2 < (p.length : Int)) ∧ ((p.length : Int) ≤ 9223372036854775807 → I64 (i2 - 1)) ∧ ((0 : Int) ≤ i2 - 1 ∧ i2 - 1 < (p.length : Int)) ∧ (if eqPt (nth p i2) (nth p (i2 - 1)) then Q false else (-9223372036854775808 ≤ i2) ∧ I18 (i2 + 1) ∧ mu19 (i2 + 1) < mu19 i2) else (-9223372036854775808 ≤ i2) ∧ I18 (i2 + 1) ∧ mu19 (i2 + 1) < mu19 i2))) else Q (decide ((p.length : Int) ≤ 6)))) := h
  clear h
  have hc0 := Ct.init hO
  refine Ret_enter Try.func122 rfl 45 rfl [.tmp 2] rfl rfl ?_
  refine W_seq ?_
  refine W_reg ?_
  refine L_pu (P_assign (vb false) rfl) ?_
  refine L_nil ?_
  refine W_seq ?_
  refine W_seq ?_
  refine W_reg ?_
  refine L_pu (P_assign (vi 0) rfl) ?_
  refine L_nil ?_
  refine W_block ?_
  obtain ⟨I18, mu19, hI20, H⟩ := H
  refine W_loop (α := Int) (fun (sv__ : Int) t w14 => match sv__ with | i2 => I18 i2 ∧ Has t [(0, .slice A1 n2 c3), (3, vi i2)] ∧ Ct none w0 w14 [] O ∧ Sl kPt w14 (Fr ([] ++ O)) (.slice A1 n2 c3) p) (fun (sv__ : Int) => match sv__ with | i2 => mu19 i2) 0 ⟨hI20, ⟨rfl, rfl, trivial⟩, hc0, hp4⟩ ?_
  rintro i2 _ w14 ⟨hI20, hh22, hc16, h17⟩
  obtain ⟨u23, rfl⟩ := Has.ins hh22
  have H := H i2 hI20
  refine W_seq ?_
  refine W_seq ?_
  refine W_reg ?_
  refine L_pu (P_move (vi i2) rfl) ?_
  refine L_pu (P_move (.slice A1 n2 c3) rfl) ?_
  have hl24 := h17.le
  refine L_pu (P_len Try.underlying23 A1 n2 c3 h17.len rfl) ?_
  refine L_pu (P_cmp i2 (p.length : Int) (decide (i2 < (p.length : Int))) rfl rfl rfl) ?_
  refine L_nil ?_
  refine W_cond (decide (i2 < (p.length : Int))) rfl (fun hq25 => ?_) (fun hq25 => ?_)
  · have H := ite_t H hq25
    refine W_skip ?_
    refine W_seq ?_
    refine W_block ?_
    refine W_seq ?_
    refine W_draw (fun x => Gr w14 x none) (by kernel_rfl) (by kernel_rfl) (Gr.drew _) ?_
    refine Q_pu (P_move (.slice A1 n2 c3) rfl) ?_
    refine Q_pu (P_move (vi i2) rfl) ?_
    obtain ⟨hb26, H⟩ := H
    obtain ⟨ad27, cs28, hA29, hS32, hR30, hcl31⟩ := h17.get default (by decide) i2 hb26
    obtain rfl := kPt.op hR30
    refine Q_pu (P_ia Try.underlying23 se23 A1 ad27 n2 c3 h17.len i2 rfl hA29 rfl hb26) ?_
    refine Q_pu (P_fa fa64_0 (ad27.add (i2.toNat * 2)) ((ad27.add (i2.toNat * 2)).add 0) rfl rfl) ?_
    refine Q_pu (P_ld ag3 cQ ((ad27.add (i2.toNat * 2)).add 0) (vi ((nth p i2).X)) rfl (hcl31 0 _ rfl)) ?_
    refine Q_call go128 [vi ((nth p i2).X)] rfl (vb (spec_l1Num.m ((nth p i2).X))) (fun w g => (spec_l1Num.calls w (hc16.k0 g).ok ((nth p i2).X) _ (spec_l1Num.fn ((nth p i2).X))).mono ?_) ?_
    · rintro _ w ⟨r, rfl, rfl, g2, _⟩
      exact ⟨rfl, Gr.t0 g g2⟩
    refine Q_pu (P_not (spec_l1Num.m ((nth p i2).X)) rfl) ?_
    refine Q_pu (P_move (vb (!(spec_l1Num.m ((nth p i2).X)))) rfl) ?_
    rcases bool_or (!(spec_l1Num.m ((nth p i2).X))) with hq38 | hq38
    · have H := ite_t H hq38
      refine Q_pass (dj := 17) rfl rfl (.inl (by exact congrArg Value.bool hq38)) ?_
      refine Q_pass (dj := 17) rfl rfl (.inl (by exact congrArg Value.bool hq38)) ?_
      refine Q_pass (dj := 17) rfl rfl (.inl (by exact congrArg Value.bool hq38)) ?_
      refine Q_pass (dj := 17) rfl rfl (.inl (by exact congrArg Value.bool hq38)) ?_
      refine Q_pass (dj := 17) rfl rfl (.inl (by exact congrArg Value.bool hq38)) ?_
      refine Q_pass (dj := 17) rfl rfl (.inl (by exact congrArg Value.bool hq38)) ?_
      refine Q_pass (dj := 17) rfl rfl (.inl (by exact congrArg Value.bool hq38)) ?_
      refine Q_pu (P_pick true (vb true) (by exact congrArg Value.bool hq38) rfl) ?_
      refine Q_pu (P_move (vb true) rfl) ?_
      refine Q_pass (dj := 26) rfl rfl (.inl rfl) ?_
      refine Q_pass (dj := 26) rfl rfl (.inl rfl) ?_
      refine Q_pass (dj := 26) rfl rfl (.inl rfl) ?_
      refine Q_pass (dj := 29) rfl rfl (.inr rfl) ?_
      refine Q_pass (dj := 29) rfl rfl (.inr rfl) ?_
      refine Q_pass (dj := 29) rfl rfl (.inr rfl) ?_
      refine Q_pass (dj := 29) rfl rfl (.inr rfl) ?_
      refine Q_pass (dj := 29) rfl rfl (.inr rfl) ?_
      refine Q_pass (dj := 29) rfl rfl (.inr rfl) ?_
      refine Q_pass (dj := 29) rfl rfl (.inr rfl) ?_
      refine Q_pass (dj := 29) rfl rfl (.inr rfl) ?_
      refine Q_pass (dj := 29) rfl rfl (.inr rfl) ?_
      refine Q_pass (dj := 29) rfl rfl (.inr rfl) ?_
      refine Q_pass (dj := 26) rfl rfl (.inl rfl) ?_
      refine Q_pu (P_pick true (vb true) (by exact congrArg Value.bool rfl) rfl) ?_
      refine Q_nil fun w39 g40 => ?_
      have hc42 := hc16.k0 g40
      refine W_ct (b := true) rfl rfl ?_
      refine W_seq ?_
      refine W_reg ?_
      refine L_pu (P_assign (vb false) rfl) ?_
      refine L_nil ?_
      refine W_ret ?_
      exact ⟨[vb false], ⟨_, rfl, rfl⟩, false, rfl, H, hc42.gr⟩
    · have H := ite_f H hq38
      refine Q_run (dj := 17) rfl rfl (by exact congrArg Value.bool hq38) ?_
      refine Q_pu (P_move (.slice A1 n2 c3) rfl) ?_
      refine Q_run (dj := 17) rfl rfl (by exact congrArg Value.bool hq38) ?_
      refine Q_pu (P_move (vi i2) rfl) ?_
      refine Q_run (dj := 17) rfl rfl (by exact congrArg Value.bool hq38) ?_
      obtain ⟨hb43, H⟩ := H
      obtain ⟨ad44, cs45, hA46, hS49, hR47, hcl48⟩ := h17.get default (by decide) i2 hb43
      obtain rfl := kPt.op hR47
      refine Q_pu (P_ia Try.underlying23 se23 A1 ad44 n2 c3 h17.len i2 rfl hA46 rfl hb43) ?_
      refine Q_run (dj := 17) rfl rfl (by exact congrArg Value.bool hq38) ?_
      refine Q_pu (P_fa fa64_1 (ad44.add (i2.toNat * 2)) ((ad44.add (i2.toNat * 2)).add 1) rfl rfl) ?_
      refine Q_run (dj := 17) rfl rfl (by exact congrArg Value.bool hq38) ?_
      refine Q_pu (P_ld ag3 cQ ((ad44.add (i2.toNat * 2)).add 1) (vi ((nth p i2).Y)) rfl (hcl48 1 _ rfl)) ?_
      refine Q_run (dj := 17) rfl rfl (by exact congrArg Value.bool hq38) ?_
      refine Q_call go128 [vi ((nth p i2).Y)] rfl (vb (spec_l1Num.m ((nth p i2).Y))) (fun w g => (spec_l1Num.calls w (hc16.k0 g).ok ((nth p i2).Y) _ (spec_l1Num.fn ((nth p i2).Y))).mono ?_) ?_
      · rintro _ w ⟨r, rfl, rfl, g2, _⟩
        exact ⟨rfl, Gr.t0 g g2⟩
      refine Q_run (dj := 17) rfl rfl (by exact congrArg Value.bool hq38) ?_
      refine Q_pu (P_not (spec_l1Num.m ((nth p i2).Y)) rfl) ?_
      refine Q_pu (P_pick false (vb (!(spec_l1Num.m ((nth p i2).Y)))) (by exact congrArg Value.bool hq38) rfl) ?_
      refine Q_pu (P_move (vb (!(spec_l1Num.m ((nth p i2).Y)))) rfl) ?_
      rcases bool_or (!(spec_l1Num.m ((nth p i2).Y))) with hq55 | hq55
      · have H := ite_t H hq55
        refine Q_pass (dj := 26) rfl rfl (.inl (by exact congrArg Value.bool hq55)) ?_
        refine Q_pass (dj := 26) rfl rfl (.inl (by exact congrArg Value.bool hq55)) ?_
        refine Q_pass (dj := 26) rfl rfl (.inl (by exact congrArg Value.bool hq55)) ?_
        refine Q_pass (dj := 29) rfl rfl (.inr rfl) ?_
        refine Q_pass (dj := 29) rfl rfl (.inr rfl) ?_
        refine Q_pass (dj := 29) rfl rfl (.inr rfl) ?_
        refine Q_pass (dj := 29) rfl rfl (.inr rfl) ?_
        refine Q_pass (dj := 29) rfl rfl (.inr rfl) ?_
        refine Q_pass (dj := 29) rfl rfl (.inr rfl) ?_
        refine Q_pass (dj := 29) rfl rfl (.inr rfl) ?_
        refine Q_pass (dj := 29) rfl rfl (.inr rfl) ?_
        refine Q_pass (dj := 29) rfl rfl (.inr rfl) ?_
        refine Q_pass (dj := 29) rfl rfl (.inr rfl) ?_
        refine Q_pass (dj := 26) rfl rfl (.inl (by exact congrArg Value.bool hq55)) ?_
        refine Q_pu (P_pick true (vb true) (by exact congrArg Value.bool hq55) rfl) ?_
        refine Q_nil fun w56 g57 => ?_
        have hc59 := hc16.k0 g57
        refine W_ct (b := true) rfl rfl ?_
        refine W_seq ?_
        refine W_reg ?_
        refine L_pu (P_assign (vb false) rfl) ?_
        refine L_nil ?_
        refine W_ret ?_
        exact ⟨[vb false], ⟨_, rfl, rfl⟩, false, rfl, H, hc59.gr⟩
      · have H := ite_f H hq55
        refine Q_run (dj := 26) rfl rfl (by exact congrArg Value.bool hq55) ?_
        refine Q_pu (P_move (vi i2) rfl) ?_
        refine Q_run (dj := 26) rfl rfl (by exact congrArg Value.bool hq55) ?_
        refine Q_pu (P_cmp i2 0 (decide (i2 > 0)) rfl rfl rfl) ?_
        refine Q_run (dj := 26) rfl rfl (by exact congrArg Value.bool hq55) ?_
        refine Q_pu (P_move (vb (decide (i2 > 0))) rfl) ?_
        rcases bool_or (decide (i2 > 0)) with hq60 | hq60
        · have H := ite_t H hq60
          refine Q_run (dj := 29) rfl rfl (by exact congrArg Value.bool hq60) ?_
          refine Q_pu (P_move (.slice A1 n2 c3) rfl) ?_
          refine Q_run (dj := 29) rfl rfl (by exact congrArg Value.bool hq60) ?_
          refine Q_pu (P_move (vi i2) rfl) ?_
          refine Q_run (dj := 29) rfl rfl (by exact congrArg Value.bool hq60) ?_
          obtain ⟨hb61, H⟩ := H
          obtain ⟨ad62, cs63, hA64, hS67, hR65, hcl66⟩ := h17.get default (by decide) i2 hb61
          obtain rfl := kPt.op hR65
          refine Q_pu (P_ia Try.underlying23 se23 A1 ad62 n2 c3 h17.len i2 rfl hA64 rfl hb61) ?_
          refine Q_run (dj := 29) rfl rfl (by exact congrArg Value.bool hq60) ?_
          refine Q_pu (P_lda ag64 sz64 cQ (ad62.add (i2.toNat * 2)) [vi ((nth p i2).X), vi ((nth p i2).Y)] rfl rfl hcl66) ?_
          refine Q_run (dj := 29) rfl rfl (by exact congrArg Value.bool hq60) ?_
          refine Q_pu (P_move (.slice A1 n2 c3) rfl) ?_
          refine Q_run (dj := 29) rfl rfl (by exact congrArg Value.bool hq60) ?_
          refine Q_pu (P_move (vi i2) rfl) ?_
          refine Q_run (dj := 29) rfl rfl (by exact congrArg Value.bool hq60) ?_
          obtain ⟨hb68, H⟩ := H
          have hi69 := hb68 (len_le hl24)
          refine Q_pu (P_sub i2 1 rfl rfl hi69) ?_
          refine Q_run (dj := 29) rfl rfl (by exact congrArg Value.bool hq60) ?_
          obtain ⟨hb70, H⟩ := H
          obtain ⟨ad71, cs72, hA73, hS76, hR74, hcl75⟩ := h17.get default (by decide) (i2 - 1) hb70
          obtain rfl := kPt.op hR74
          refine Q_pu (P_ia Try.underlying23 se23 A1 ad71 n2 c3 h17.len (i2 - 1) rfl hA73 rfl hb70) ?_
          refine Q_run (dj := 29) rfl rfl (by exact congrArg Value.bool hq60) ?_
          refine Q_pu (P_lda ag64 sz64 cQ (ad71.add ((i2 - 1).toNat * 2)) [vi ((nth p (i2 - 1)).X), vi ((nth p (i2 - 1)).Y)] rfl rfl hcl75) ?_
          refine Q_run (dj := 29) rfl rfl (by exact congrArg Value.bool hq60) ?_
          refine Q_pu (P_eq _ _ (eqPt (nth p i2) (nth p (i2 - 1))) (qt64 (nth p i2) (nth p (i2 - 1))) rfl rfl) ?_
          refine Q_run (dj := 26) rfl rfl (by exact congrArg Value.bool hq55) ?_
          refine Q_pu (P_pick true (vb (eqPt (nth p i2) (nth p (i2 - 1)))) (by exact congrArg Value.bool hq60) rfl) ?_
          refine Q_pu (P_pick false (vb (eqPt (nth p i2) (nth p (i2 - 1)))) (by exact congrArg Value.bool hq55) rfl) ?_
          refine Q_nil fun w77 g78 => ?_
          have hc80 := hc16.k0 g78
          refine W_cond (eqPt (nth p i2) (nth p (i2 - 1))) rfl (fun hq81 => ?_) (fun hq81 => ?_)
          · have H := ite_t H hq81
            refine W_seq ?_
            refine W_reg ?_
            refine L_pu (P_assign (vb false) rfl) ?_
            refine L_nil ?_
            refine W_ret ?_
            exact ⟨[vb false], ⟨_, rfl, rfl⟩, false, rfl, H, hc80.gr⟩
          · have H := ite_f H hq81
            refine W_skip ?_
            refine W_reg ?_
            refine L_pu (P_move (vi i2) rfl) ?_
            obtain ⟨hb83, H⟩ := H
            have hi82 : I64 (i2 + 1) := i64_succ (of_decide_eq_true hq25) hl24 hb83
            refine L_pu (P_add i2 1 rfl rfl hi82) ?_
            refine L_pu (P_assign (vi (i2 + 1)) rfl) ?_
            refine L_nil ?_
            obtain ⟨hI84, hm85⟩ := H
            exact ⟨i2 + 1, hm85, hI84, ⟨rfl, rfl, trivial⟩, hc80, (h17.st (.new _ g78))⟩
        · have H := ite_f H hq60
          refine Q_pass (dj := 29) rfl rfl (.inl (by exact congrArg Value.bool hq60)) ?_
          refine Q_pass (dj := 29) rfl rfl (.inl (by exact congrArg Value.bool hq60)) ?_
          refine Q_pass (dj := 29) rfl rfl (.inl (by exact congrArg Value.bool hq60)) ?_
          refine Q_pass (dj := 29) rfl rfl (.inl (by exact congrArg Value.bool hq60)) ?_
          refine Q_pass (dj := 29) rfl rfl (.inl (by exact congrArg Value.bool hq60)) ?_
          refine Q_pass (dj := 29) rfl rfl (.inl (by exact congrArg Value.bool hq60)) ?_
          refine Q_pass (dj := 29) rfl rfl (.inl (by exact congrArg Value.bool hq60)) ?_
          refine Q_pass (dj := 29) rfl rfl (.inl (by exact congrArg Value.bool hq60)) ?_
          refine Q_pass (dj := 29) rfl rfl (.inl (by exact congrArg Value.bool hq60)) ?_
          refine Q_pass (dj := 29) rfl rfl (.inl (by exact congrArg Value.bool hq60)) ?_
          refine Q_run (dj := 26) rfl rfl (by exact congrArg Value.bool hq55) ?_
          refine Q_pu (P_pick false (vb false) (by exact congrArg Value.bool hq60) rfl) ?_
          refine Q_pu (P_pick false (vb false) (by exact congrArg Value.bool hq55) rfl) ?_
          refine Q_nil fun w86 g87 => ?_
          have hc89 := hc16.k0 g87
          refine W_cf (b := false) rfl rfl ?_
          refine W_skip ?_
          refine W_reg ?_
          refine L_pu (P_move (vi i2) rfl) ?_
          obtain ⟨hb91, H⟩ := H
          have hi90 : I64 (i2 + 1) := i64_succ (of_decide_eq_true hq25) hl24 hb91
          refine L_pu (P_add i2 1 rfl rfl hi90) ?_
          refine L_pu (P_assign (vi (i2 + 1)) rfl) ?_
          refine L_nil ?_
          obtain ⟨hI92, hm93⟩ := H
          exact ⟨i2 + 1, hm93, hI92, ⟨rfl, rfl, trivial⟩, hc89, (h17.st (.new _ g87))⟩
  · have H := ite_f H hq25
    refine W_exit (xin_hit ?_)
    refine W_seq ?_
    refine W_reg ?_
    refine L_pu (P_move (.slice A1 n2 c3) rfl) ?_
    refine L_pu (P_len Try.underlying23 A1 n2 c3 h17.len rfl) ?_
    refine L_pu (P_cmp (p.length : Int) 6 (decide ((p.length : Int) ≤ 6)) rfl rfl rfl) ?_
    refine L_pu (P_assign (vb (decide ((p.length : Int) ≤ 6))) rfl) ?_
    refine L_nil ?_
    refine W_ret ?_
    exact ⟨[vb (decide ((p.length : Int) ≤ 6))], ⟨_, rfl, rfl⟩, decide ((p.length : Int) ≤ 6), rfl, H, hc16.gr⟩
end Go.Proofs.Ythkeboifjlnjjaa

namespace Go.Proofs.Ythkeboifjlnjjaa
set_option linter.unusedVariables false
set_option linter.unusedSimpArgs false
set_option linter.unusedSectionVars false
theorem spec_l1Pts.law (p : List Pt) (Q : Bool → Prop) (hq : Q (ptsOk p && decide (p.length ≤ 6))) : spec_l1Pts.E p Q := by
  unfold spec_l1Pts.E
  unfold ptsOk at hq
  refine loop_all p.length (fun k => ptOk (nth p (k : Int)) && (decide (k = 0) || !(decide (nth p ((k : Int) - 1) = nth p (k : Int))))) (fun I mu k hk hp hn => ?_) (fun ha => ?_)
  · refine ⟨by omega, ?_⟩
    rw [spec_l1Num.m_is, spec_l1Num.m_is]
    have bad : (ptOk (nth p (k : Int)) && (decide (k = 0) || !(decide (nth p ((k : Int) - 1) = nth p (k : Int))))) = false → Q false := fun h => by
      rw [allN_false hk h, Bool.false_and] at hq; exact hq
    cases h1 : inR (nth p (k : Int)).X with
    | false => rw [if_pos (by decide)]; exact bad (by simp only [ptOk, h1, Bool.false_and])
    | true =>
      rw [if_neg (by decide)]
      refine ⟨by omega, ?_⟩
      cases h2 : inR (nth p (k : Int)).Y with
      | false => rw [if_pos (by decide)]; exact bad (by simp only [ptOk, h2, Bool.and_false, Bool.false_and])
      | true =>
        rw [if_neg (by decide)]
        have hpt : ptOk (nth p (k : Int)) = true := by simp only [ptOk, h1, h2, Bool.and_self]
        by_cases hk0 : k = 0
        · rw [if_neg (by rw [decide_eq_true_eq]; omega)]
          obtain ⟨i1, i2⟩ := hn (by rw [hpt, decide_eq_true hk0]; rfl)
          exact ⟨by omega, i1, i2⟩
        · rw [if_pos (by rw [decide_eq_true_eq]; omega)]
          refine ⟨by omega, fun _ => by unfold I64; omega, by omega, ?_⟩
          rw [eqPt_is]
          by_cases he : nth p ((k : Int) - 1) = nth p (k : Int)
          · rw [if_pos (by rw [decide_eq_true_eq]; exact he.symm)]
            exact bad (by rw [hpt, decide_eq_false hk0, decide_eq_true he]; rfl)
          · rw [if_neg (by rw [decide_eq_true_eq]; exact fun e => he e.symm)]
            obtain ⟨i1, i2⟩ := hn (by rw [hpt, decide_eq_false hk0, decide_eq_false he]; rfl)
            exact ⟨by omega, i1, i2⟩
  · rw [allN_true ha, Bool.true_and] at hq
    have e2 : decide ((p.length : Int) ≤ 6) = decide (p.length ≤ 6) := decide_eq_decide.2 (by omega)
    rw [e2]; exact hq
end Go.Proofs.Ythkeboifjlnjjaa

namespace Go.Proofs.Ythkeboifjlnjjaa
open Go.RowKit
set_option linter.unusedVariables false
def spec_ShapeOk.E (s : Shape) (Q : Bool → Prop) : Prop :=
  spec_l1Pts.E s.Pts (fun r => (if !r then Q false else (if s.Kind == 1 then Q ((s.Pts.length : Int) == 1) else (if s.Kind == 2 then Q (decide ((s.Pts.length : Int) ≥ 2)) else (if s.Kind == 3 then (if decide ((s.Pts.length : Int) ≥ 3) then ((0 : Int) ≤ 0 ∧ 0 < (s.Pts.length : Int)) ∧ ((s.Pts.length : Int) ≤ 9223372036854775807 → I64 ((s.Pts.length : Int) - 1)) ∧ ((0 : Int) ≤ (s.Pts.length : Int) - 1 ∧ (s.Pts.length : Int) - 1 < (s.Pts.length : Int)) ∧ Q (!(eqPt (nth s.Pts 0) (nth s.Pts ((s.Pts.length : Int) - 1)))) else Q false) else Q false)))))
set_option maxHeartbeats 8000000 in
set_option maxRecDepth 100000 in
theorem spec_ShapeOk.calls {O : Ob} (w0 : World) (hO : Ok w0 O) (s : Shape) (A1 : Option Addr) (n2 c3 : Nat) (hp4 : Sl kPt w0 (Fr O) (.slice A1 n2 c3) s.Pts) (Q : Bool → Prop) (h : spec_ShapeOk.E s Q) :
    Ret Try.prog 103 [.agg #[vi s.Kind, .slice A1 n2 c3]] w0 (fun v w' => ∃ (r0 : Bool), v = vb r0 ∧ Q r0 ∧ Gr w0 w' none) := by
  have H : spec_l1Pts.E s.Pts (fun r => (if !r then Q false else (if s.Kind == 1 then Q ((s.Pts.length : Int) == 1) else (if s.Kind == 2 then Q (decide ((s.Pts.length : Int) ≥ 2)) else (if s.Kind == 3 then (if decide ((s.Pts.length : Int) ≥ 3) then ((0 : Int) ≤ 0 ∧ 0 < (s.Pts.length : Int)) ∧ ((s.Pts.length : Int) ≤ 9223372036854775807 → I64 ((s.Pts.length : Int) - 1)) ∧ ((0 : Int) ≤ (s.Pts.length : Int) - 1 ∧ (s.Pts.length : Int) - 1 < (s.Pts.length : Int)) ∧ Q (!(eqPt (nth s.Pts 0) (nth s.Pts ((s.Pts.length : Int) - 1)))) else Q false) else Q false))))) := h
  clear h
  have hc0 := Ct.init hO
  refine Ret_enter Try.func103 rfl 38 rfl [.tmp 2] rfl rfl ?_
  refine W_seq ?_
  refine W_reg ?_
  refine L_box [vi s.Kind, .slice A1 n2 c3] rfl fun w6 b7 hl9 hu10 g8 hx11 => ?_
  have h13 := Fb.mk hc0.ok hl9 hx11
  have hc14 := hc0.k0 g8
  refine L_pu (P_assign (vb false) rfl) ?_
  refine L_nil ?_
  refine W_seq ?_
  refine W_reg ?_
  refine L_pu (P_fa fa76_1 ⟨b7, 0, none⟩ ⟨b7, 1, none⟩ rfl rfl) ?_
  refine L_pu (P_ld ag23 cL ⟨b7, 1, none⟩ (.slice A1 n2 c3) rfl (h13.cell rfl)) ?_
  have hl15 := (hp4.st hc14.st).le
  refine L_pu (P_len Try.underlying23 A1 n2 c3 (hp4.st hc14.st).len rfl) ?_
  refine L_pu (P_assign (vi (s.Pts.length : Int)) rfl) ?_
  refine L_nil ?_
  refine W_seq ?_
  refine W_seq ?_
  refine W_reg ?_
  refine L_pu (P_fa fa76_1 ⟨b7, 0, none⟩ ⟨b7, 1, none⟩ rfl rfl) ?_
  refine L_pu (P_ld ag23 cL ⟨b7, 1, none⟩ (.slice A1 n2 c3) rfl (h13.cell rfl)) ?_
  refine L_call go122 [.slice A1 n2 c3] rfl ((spec_l1Pts.calls w6 hc14.ok s.Pts A1 n2 c3 (hp4.st hc14.st) _ H).mono ?_)
  rintro _ w16 ⟨r, rfl, H, g17⟩
  have hc21 := hc14.k0 g17
  refine L_pu (P_not r rfl) ?_
  refine L_nil ?_
  refine W_cond (!r) rfl (fun hq22 => ?_) (fun hq22 => ?_)
  · have H := ite_t H hq22
    refine W_seq ?_
    refine W_reg ?_
    refine L_pu (P_assign (vb false) rfl) ?_
    refine L_nil ?_
    refine W_ret ?_
    exact ⟨[vb false], ⟨_, rfl, rfl⟩, false, rfl, H, hc21.gr⟩
  · have H := ite_f H hq22
    refine W_skip ?_
    refine W_seq ?_
    refine W_seq ?_
    refine W_reg ?_
    refine L_pu (P_fa fa76_0 ⟨b7, 0, none⟩ ⟨b7, 0, none⟩ rfl rfl) ?_
    have h23 := (h13.st (.new _ g17))
    refine L_pu (P_ld ag3 cL ⟨b7, 0, none⟩ (vi s.Kind) rfl (h23.cell rfl)) ?_
    refine L_nil ?_
    refine W_block ?_
    refine W_seq ?_
    refine W_reg ?_
    refine L_pu (P_cmp s.Kind 1 (s.Kind == 1) rfl rfl rfl) ?_
    refine L_pu (P_assign (vb (s.Kind == 1)) rfl) ?_
    refine L_nil ?_
    refine W_cond (s.Kind == 1) rfl (fun hq24 => ?_) (fun hq24 => ?_)
    · have H := ite_t H hq24
      refine W_seq ?_
      refine W_reg ?_
      refine L_pu (P_move (vi (s.Pts.length : Int)) rfl) ?_
      refine L_pu (P_cmp (s.Pts.length : Int) 1 ((s.Pts.length : Int) == 1) rfl rfl rfl) ?_
      refine L_pu (P_assign (vb ((s.Pts.length : Int) == 1)) rfl) ?_
      refine L_nil ?_
      refine W_ret ?_
      exact ⟨[vb ((s.Pts.length : Int) == 1)], ⟨_, rfl, rfl⟩, (s.Pts.length : Int) == 1, rfl, H, hc21.gr⟩
    · have H := ite_f H hq24
      refine W_seq ?_
      refine W_reg ?_
      refine L_pu (P_cmp s.Kind 2 (s.Kind == 2) rfl rfl rfl) ?_
      refine L_pu (P_assign (vb (s.Kind == 2)) rfl) ?_
      refine L_nil ?_
      refine W_cond (s.Kind == 2) rfl (fun hq25 => ?_) (fun hq25 => ?_)
      · have H := ite_t H hq25
        refine W_seq ?_
        refine W_reg ?_
        refine L_pu (P_move (vi (s.Pts.length : Int)) rfl) ?_
        refine L_pu (P_cmp (s.Pts.length : Int) 2 (decide ((s.Pts.length : Int) ≥ 2)) rfl rfl rfl) ?_
        refine L_pu (P_assign (vb (decide ((s.Pts.length : Int) ≥ 2))) rfl) ?_
        refine L_nil ?_
        refine W_ret ?_
        exact ⟨[vb (decide ((s.Pts.length : Int) ≥ 2))], ⟨_, rfl, rfl⟩, decide ((s.Pts.length : Int) ≥ 2), rfl, H, hc21.gr⟩
      · have H := ite_f H hq25
        refine W_seq ?_
        refine W_reg ?_
        refine L_pu (P_cmp s.Kind 3 (s.Kind == 3) rfl rfl rfl) ?_
        refine L_pu (P_assign (vb (s.Kind == 3)) rfl) ?_
        refine L_nil ?_
        refine W_cond (s.Kind == 3) rfl (fun hq26 => ?_) (fun hq26 => ?_)
        · have H := ite_t H hq26
          refine W_seq ?_
          refine W_draw (fun x => Gr w16 x none) (by kernel_rfl) (by kernel_rfl) (Gr.drew _) ?_
          refine Q_pu (P_move (vi (s.Pts.length : Int)) rfl) ?_
          refine Q_pu (P_cmp (s.Pts.length : Int) 3 (decide ((s.Pts.length : Int) ≥ 3)) rfl rfl rfl) ?_
          refine Q_pu (P_move (vb (decide ((s.Pts.length : Int) ≥ 3))) rfl) ?_
          rcases bool_or (decide ((s.Pts.length : Int) ≥ 3)) with hq27 | hq27
          · have H := ite_t H hq27
            refine Q_run (dj := 25) rfl rfl (by exact congrArg Value.bool hq27) ?_
            refine Q_pu (P_fa fa76_1 ⟨b7, 0, none⟩ ⟨b7, 1, none⟩ rfl rfl) ?_
            refine Q_run (dj := 25) rfl rfl (by exact congrArg Value.bool hq27) ?_
            refine Q_pu (P_ld ag23 cQ ⟨b7, 1, none⟩ (.slice A1 n2 c3) rfl (h23.cell rfl)) ?_
            refine Q_run (dj := 25) rfl rfl (by exact congrArg Value.bool hq27) ?_
            obtain ⟨hb28, H⟩ := H
            obtain ⟨ad29, cs30, hA31, hS34, hR32, hcl33⟩ := (hp4.st hc21.st).get default (by decide) 0 hb28
            obtain rfl := kPt.op hR32
            refine Q_pu (P_ia Try.underlying23 se23 A1 ad29 n2 c3 (hp4.st hc21.st).len 0 rfl hA31 rfl hb28) ?_
            refine Q_run (dj := 25) rfl rfl (by exact congrArg Value.bool hq27) ?_
            refine Q_pu (P_lda ag64 sz64 cQ (ad29.add ((0 : Int).toNat * 2)) [vi ((nth s.Pts 0).X), vi ((nth s.Pts 0).Y)] rfl rfl hcl33) ?_
            refine Q_run (dj := 25) rfl rfl (by exact congrArg Value.bool hq27) ?_
            refine Q_pu (P_fa fa76_1 ⟨b7, 0, none⟩ ⟨b7, 1, none⟩ rfl rfl) ?_
            refine Q_run (dj := 25) rfl rfl (by exact congrArg Value.bool hq27) ?_
            refine Q_pu (P_ld ag23 cQ ⟨b7, 1, none⟩ (.slice A1 n2 c3) rfl (h23.cell rfl)) ?_
            refine Q_run (dj := 25) rfl rfl (by exact congrArg Value.bool hq27) ?_
            refine Q_pu (P_move (vi (s.Pts.length : Int)) rfl) ?_
            refine Q_run (dj := 25) rfl rfl (by exact congrArg Value.bool hq27) ?_
            obtain ⟨hb35, H⟩ := H
            have hi36 := hb35 (len_le hl15)
            refine Q_pu (P_sub (s.Pts.length : Int) 1 rfl rfl hi36) ?_
            refine Q_run (dj := 25) rfl rfl (by exact congrArg Value.bool hq27) ?_
            obtain ⟨hb37, H⟩ := H
            obtain ⟨ad38, cs39, hA40, hS43, hR41, hcl42⟩ := (hp4.st hc21.st).get default (by decide) ((s.Pts.length : Int) - 1) hb37
            obtain rfl := kPt.op hR41
            refine Q_pu (P_ia Try.underlying23 se23 A1 ad38 n2 c3 (hp4.st hc21.st).len ((s.Pts.length : Int) - 1) rfl hA40 rfl hb37) ?_
            refine Q_run (dj := 25) rfl rfl (by exact congrArg Value.bool hq27) ?_
            refine Q_pu (P_lda ag64 sz64 cQ (ad38.add (((s.Pts.length : Int) - 1).toNat * 2)) [vi ((nth s.Pts ((s.Pts.length : Int) - 1)).X), vi ((nth s.Pts ((s.Pts.length : Int) - 1)).Y)] rfl rfl hcl42) ?_
            refine Q_run (dj := 25) rfl rfl (by exact congrArg Value.bool hq27) ?_
            refine Q_pu (P_ne _ _ (eqPt (nth s.Pts 0) (nth s.Pts ((s.Pts.length : Int) - 1))) (qt64 (nth s.Pts 0) (nth s.Pts ((s.Pts.length : Int) - 1))) rfl rfl) ?_
            refine Q_pu (P_pick true (vb (!(eqPt (nth s.Pts 0) (nth s.Pts ((s.Pts.length : Int) - 1))))) (by exact congrArg Value.bool hq27) rfl) ?_
            refine Q_pu (P_assign (vb (!(eqPt (nth s.Pts 0) (nth s.Pts ((s.Pts.length : Int) - 1))))) rfl) ?_
            refine Q_nil fun w44 g45 => ?_
            have hc47 := hc21.k0 g45
            refine W_ret ?_
            exact ⟨[vb (!(eqPt (nth s.Pts 0) (nth s.Pts ((s.Pts.length : Int) - 1))))], ⟨_, rfl, rfl⟩, !(eqPt (nth s.Pts 0) (nth s.Pts ((s.Pts.length : Int) - 1))), rfl, H, hc47.gr⟩
          · have H := ite_f H hq27
            refine Q_pass (dj := 25) rfl rfl (.inl (by exact congrArg Value.bool hq27)) ?_
            refine Q_pass (dj := 25) rfl rfl (.inl (by exact congrArg Value.bool hq27)) ?_
            refine Q_pass (dj := 25) rfl rfl (.inl (by exact congrArg Value.bool hq27)) ?_
            refine Q_pass (dj := 25) rfl rfl (.inl (by exact congrArg Value.bool hq27)) ?_
            refine Q_pass (dj := 25) rfl rfl (.inl (by exact congrArg Value.bool hq27)) ?_
            refine Q_pass (dj := 25) rfl rfl (.inl (by exact congrArg Value.bool hq27)) ?_
            refine Q_pass (dj := 25) rfl rfl (.inl (by exact congrArg Value.bool hq27)) ?_
            refine Q_pass (dj := 25) rfl rfl (.inl (by exact congrArg Value.bool hq27)) ?_
            refine Q_pass (dj := 25) rfl rfl (.inl (by exact congrArg Value.bool hq27)) ?_
            refine Q_pass (dj := 25) rfl rfl (.inl (by exact congrArg Value.bool hq27)) ?_
            refine Q_pass (dj := 25) rfl rfl (.inl (by exact congrArg Value.bool hq27)) ?_
            refine Q_pu (P_pick false (vb false) (by exact congrArg Value.bool hq27) rfl) ?_
            refine Q_pu (P_assign (vb false) rfl) ?_
            refine Q_nil fun w48 g49 => ?_
            have hc51 := hc21.k0 g49
            refine W_ret ?_
            exact ⟨[vb false], ⟨_, rfl, rfl⟩, false, rfl, H, hc51.gr⟩
        · have H := ite_f H hq26
          refine W_skip ?_
          refine W_seq ?_
          refine W_reg ?_
          refine L_pu (P_assign (vb false) rfl) ?_
          refine L_nil ?_
          refine W_ret ?_
          exact ⟨[vb false], ⟨_, rfl, rfl⟩, false, rfl, H, hc21.gr⟩
end Go.Proofs.Ythkeboifjlnjjaa

namespace Go.Proofs.Ythkeboifjlnjjaa
set_option linter.unusedVariables false
set_option linter.unusedSimpArgs false
set_option linter.unusedSectionVars false
theorem spec_ShapeOk.law (s : Shape) (Q : Bool → Prop) (hq : Q (shapeOk s)) : spec_ShapeOk.E s Q := by
  unfold spec_ShapeOk.E
  unfold shapeOk at hq
  refine spec_l1Pts.law _ _ ?_
  cases h1 : ptsOk s.Pts with
  | false => rw [h1, Bool.false_and] at hq; rw [Bool.false_and, if_pos (by decide)]; exact hq
  | true =>
    rw [h1, Bool.true_and] at hq
    rw [Bool.true_and]
    unfold kindOk at hq
    by_cases h6 : s.Pts.length ≤ 6
    · rw [decide_eq_true h6, if_neg (by decide)]
      by_cases k1 : s.Kind = 1
      · rw [if_pos k1] at hq
        rw [if_pos (by rw [beq_iff_eq]; exact k1)]
        have : ((s.Pts.length : Int) == 1) = decide (s.Pts.length = 1) := by rw [Bool.eq_iff_iff, beq_iff_eq, decide_eq_true_eq]; omega
        rw [this]; exact hq
      rw [if_neg k1] at hq
      rw [if_neg (by rw [beq_iff_eq]; exact k1)]
      by_cases k2 : s.Kind = 2
      · rw [if_pos k2, decide_eq_true h6, Bool.and_true] at hq
        rw [if_pos (by rw [beq_iff_eq]; exact k2)]
        have : decide ((s.Pts.length : Int) ≥ 2) = decide (2 ≤ s.Pts.length) := decide_eq_decide.2 (by omega)
        rw [this]; exact hq
      rw [if_neg k2] at hq
      rw [if_neg (by rw [beq_iff_eq]; exact k2)]
      by_cases k3 : s.Kind = 3
      · rw [if_pos k3, decide_eq_true h6, Bool.and_true] at hq
        rw [if_pos (by rw [beq_iff_eq]; exact k3)]
        by_cases h3 : 3 ≤ s.Pts.length
        · rw [decide_eq_true h3, Bool.true_and] at hq
          rw [if_pos (by rw [decide_eq_true_eq]; omega), eqPt_is]
          exact ⟨by omega, fun _ => by unfold I64; omega, by omega, hq⟩
        · rw [decide_eq_false h3, Bool.false_and] at hq
          rw [if_neg (by rw [decide_eq_true_eq]; omega)]; exact hq
      · rw [if_neg k3] at hq
        rw [if_neg (by rw [beq_iff_eq]; exact k3)]; exact hq
    · rw [decide_eq_false h6, if_pos (by decide)]
      have : (if s.Kind = 1 then decide (s.Pts.length = 1) else if s.Kind = 2 then decide (2 ≤ s.Pts.length) && decide (s.Pts.length ≤ 6)
  else if s.Kind = 3 then decide (3 ≤ s.Pts.length) && decide (s.Pts.length ≤ 6) && !(decide (nth s.Pts 0 = nth s.Pts ((s.Pts.length : Int) - 1))) else false) = false := by
        rw [decide_eq_false h6, decide_eq_false (show ¬ s.Pts.length = 1 by omega)]
        simp
      rw [this] at hq; exact hq
end Go.Proofs.Ythkeboifjlnjjaa
