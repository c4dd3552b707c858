/- It is proved here that the law FnExactDiffThen of the given program holds whatever it is handed: the walks through the code, the plain laws and the row, in this order.
   Conditions: none. -/
import Derived.Below
import Derived.ChangeArms
import Derived.ChangeOld
import Derived.ChangeSlices
import Derived.DataReads
import Derived.Deep.Quiet
import Derived.KernelRfl
import Derived.Laws.Build
import Derived.Laws.IdiomStrings
import Derived.Laws.OwnMore
import Derived.Laws.Slices
import Derived.Laws.StructEq
import Derived.OpenShut
import Derived.ProofKit
import Derived.Shelf.Slices.Cells
import Derived.Shelf.Slices.CompactS
import Derived.Shelf.Slices.In.SortNone
import Derived.Shelf.Small.Bits
import Derived.Shelf.Sort.Plain
import Derived.Shelf.Strconv.Itoa0
import Derived.ShutString
import Derived.SizedLaws
import Derived.StillTail
import Derived.Test.YtndjggncgpjolaaProg
import Derived.Test.YtndjggncgpjolaaRows
import Derived.WalkKit
import Derived.Test.YtndjggncgpjolaaCExactDiffThena
import Derived.Test.YtndjggncgpjolaaCExactDiffThenb
import Derived.Test.YtndjggncgpjolaaCExactDiffThenc
import Derived.Test.YtndjggncgpjolaaCExactDiffThend
namespace Go.Proofs.Ytndjggncgpjolaa
set_option linter.unusedVariables false
set_option linter.unusedSimpArgs false
set_option linter.unusedSectionVars false
theorem impl_FeatOk.law (f : Feat) (Q : Bool → Prop) (hb : bulk f ≤ 1048576) (hq : Q (featOk f)) : impl_FeatOk.E f Q := by
 unfold impl_FeatOk.E
 unfold featOk at hq
 have b1 : bulk f = bulk f.Id + bulk f.Shape + bulk f.Tags := rfl
 have b2 : bulk f.Shape = bulk f.Shape.Kind + bulk f.Shape.Pts := rfl
 have l1 := bulk_len f.Tags; have l2 := bulk_len f.Shape.Pts; have l3 := bulk_len f.Id
 have core : (tagsOk f.Tags = true → impl_WordOk.E f.Id (fun r3 => (if r3 then impl_ShapeOk.E f.Shape (fun r4 => (if r4 then Q (decide ((f.Tags.length : Int) ≤ 4)) else Q false)) else Q false))) := fun ha => by
  rw [ha, Bool.true_and] at hq
  refine impl_WordOk.law _ _ (by omega) ?_
  cases h1 : wordOk f.Id with
  | false => rw [h1, Bool.and_false, Bool.false_and] at hq; rw [if_neg (by decide)]; exact hq
  | true =>
   rw [h1, Bool.and_true] at hq
   rw [if_pos rfl]
   refine impl_ShapeOk.law _ _ (by omega) ?_
   cases h2 : shapeOk f.Shape with
   | false => rw [h2, Bool.and_false] at hq; rw [if_neg (by decide)]; exact hq
   | true =>
    rw [h2, Bool.and_true] at hq; rw [if_pos rfl]
    have e2 : decide ((f.Tags.length : Int) ≤ 4) = decide (f.Tags.length ≤ 4) := decide_eq_decide.2 (by omega)
    rw [e2]; exact hq
 have bad : tagsOk f.Tags = false → Q false := fun h => by
  rw [h, Bool.false_and, Bool.false_and, Bool.false_and] at hq; exact hq
 unfold tagsOk at core bad
 refine loop_all f.Tags.length (fun k => wordOk (nth f.Tags (k : Int)).Key && wordOk (nth f.Tags (k : Int)).Val && (decide (k = 0) || Op.bytesLess (nth f.Tags ((k : Int) - 1)).Key (nth f.Tags (k : Int)).Key)) (fun I mu k hk hp hn => ?_) (fun ha => core (allN_true ha))
 have bad := fun h => bad (allN_false hk h)
 have m1 := bulk_mem (nth_mem f.Tags hk)
 have m2 : bulk (nth f.Tags (k : Int)) = bulk (nth f.Tags (k : Int)).Key + bulk (nth f.Tags (k : Int)).Val := rfl
 have m3 := bulk_len (nth f.Tags (k : Int)).Key; have m4 := bulk_len (nth f.Tags (k : Int)).Val
 refine ⟨by omega, _, impl_WordOk.law _ _ (by omega) rfl, ?_⟩
 cases h1 : wordOk (nth f.Tags (k : Int)).Key with
 | false => rw [if_pos (by decide)]; exact bad (by rw [h1]; rfl)
 | true =>
  rw [if_neg (by decide)]
  refine ⟨_, impl_WordOk.law _ _ (by omega) rfl, ?_⟩
  cases h2 : wordOk (nth f.Tags (k : Int)).Val with
  | false => rw [if_pos (by decide)]; exact bad (by rw [h2, Bool.and_false]; rfl)
  | true =>
   rw [if_neg (by decide)]
   by_cases hk0 : k = 0
   ·rw [if_neg (by rw [decide_eq_true_eq]; omega)]
    obtain ⟨i1, i2⟩ := hn (by rw [h1, h2, decide_eq_true hk0]; rfl)
    exact ⟨by unfold I64; omega, i1, i2⟩
   ·rw [if_pos (by rw [decide_eq_true_eq]; omega)]
    refine ⟨by unfold I64; omega, by omega, ?_⟩
    cases h3 : Op.bytesLess (nth f.Tags ((k : Int) - 1)).Key (nth f.Tags (k : Int)).Key with
    | false => rw [if_pos (by decide)]; exact bad (by rw [h3, h1, h2, decide_eq_false hk0]; rfl)
    | true =>
     rw [if_neg (by decide)]
     obtain ⟨i1, i2⟩ := hn (by rw [h3, h1, h2, decide_eq_false hk0]; rfl)
     exact ⟨by unfold I64; omega, i1, i2⟩
end Go.Proofs.Ytndjggncgpjolaa

namespace Go.Proofs.Ytndjggncgpjolaa
open Go.RowKit
set_option linter.unusedVariables false
set_option linter.unusedSimpArgs false
def impl_sideOk.E (id : Str) (has : Bool) (f : Feat) (Q : Bool → Prop) : Prop :=
 (if !has then impl_noFeat.E f (fun r => Q r) else impl_FeatOk.E f (fun r2 => (if r2 then Q (f.Id == id) else Q false)))
set_option maxHeartbeats 8000000 in
set_option maxRecDepth 100000 in
theorem impl_sideOk.calls {O : Ob} (w0 : World) (hO : Ok w0 O) (id : Str) (hs1 : Lim id) (has : Bool) (f : Feat) (A3 : Option Addr) (n4 c5 : Nat) (A8 : Option Addr) (n9 c10 : Nat) (hs2 : Lim f.Id) (hp6 : Sl kPt w0 (Fr O) (.slice A3 n4 c5) f.Shape.Pts) (hp11 : Sl kTag w0 (Fr O) (.slice A8 n9 c10) f.Tags) (Q : Bool → Prop) (h : impl_sideOk.E id has f Q) :
  Ret Try.prog 119 [vs id, vb has, .agg #[vs f.Id, vi f.Shape.Kind, .slice A3 n4 c5, .slice A8 n9 c10]] w0 (fun v w' => ∃ (r0 : Bool), v = vb r0 ∧ Q r0 ∧ Gr w0 w' none) := by
 have H : (if !has then impl_noFeat.E f (fun r => Q r) else impl_FeatOk.E f (fun r2 => (if r2 then Q (f.Id == id) else Q false))) := h
 clear h
 have hc0 := Ct.init hO
 refine Ret_enter Try.func119 rfl 19 rfl [.tmp 6] rfl rfl ?_
 refine W_seq ?_
 refine W_reg ?_
 refine L_box [vs f.Id, vi f.Shape.Kind, .slice A3 n4 c5, .slice A8 n9 c10] rfl fun w13 b14 hl16 hu17 g15 hx18 => ?_
 have h20 := Fb.mk hc0.ok hl16 hx18
 have hc21 := hc0.k0 g15
 refine L_pu (P_assign (vb false) rfl) ?_
 refine L_nil ?_
 refine W_seq ?_
 refine W_seq ?_
 refine W_reg ?_
 refine L_pu (P_move (vb has) rfl) ?_
 refine L_pu (P_not has rfl) ?_
 refine L_nil ?_
 refine W_cond (!has) rfl (fun hq22 => ?_) (fun hq22 => ?_)
 ·have H := ite_t H hq22
  refine W_seq ?_
  refine W_reg ?_
  refine L_pu (P_lda ag71 sz71 cL ⟨b14, 0, none⟩ [vs f.Id, vi f.Shape.Kind, .slice A3 n4 c5, .slice A8 n9 c10] rfl rfl (h20.cells (off := 0) rfl)) ?_
  refine L_call go149 [.agg #[vs f.Id, vi f.Shape.Kind, .slice A3 n4 c5, .slice A8 n9 c10]] rfl ((impl_noFeat.calls w13 hc21.ok f A3 n4 c5 A8 n9 c10 hs2 (hp6.st hc21.st) (hp11.st hc21.st) _ H).mono ?_)
  rintro _ w23 ⟨r, rfl, H, g24⟩
  have hc28 := hc21.k0 g24
  refine L_pu (P_assign (vb r) rfl) ?_
  refine L_nil ?_
  refine W_ret ?_
  exact ⟨[vb r], ⟨_, rfl, rfl⟩, r, rfl, H, hc28.gr.g0⟩
 ·have H := ite_f H hq22
  refine W_skip ?_
  refine W_seq ?_
  refine W_reg ?_
  refine L_pu (P_lda ag71 sz71 cL ⟨b14, 0, none⟩ [vs f.Id, vi f.Shape.Kind, .slice A3 n4 c5, .slice A8 n9 c10] rfl rfl (h20.cells (off := 0) rfl)) ?_
  refine L_call go93 [.agg #[vs f.Id, vi f.Shape.Kind, .slice A3 n4 c5, .slice A8 n9 c10]] rfl ((impl_FeatOk.calls w13 hc21.ok f A3 n4 c5 A8 n9 c10 hs2 (hp6.st hc21.st) (hp11.st hc21.st) _ H).mono ?_)
  rintro _ w29 ⟨r2, rfl, H, g30⟩
  have hc34 := hc21.k0 g30
  refine L_pu (P_move (vb r2) rfl) ?_
  rcases bool_or r2 with hq35 | hq35
  ·have H := ite_t H hq35
   refine L_run (dj := 13) rfl rfl (by exact congrArg Value.bool hq35) ?_
   refine L_pu (P_fa fa71_0 ⟨b14, 0, none⟩ ⟨b14, 0, none⟩ rfl rfl) ?_
   refine L_run (dj := 13) rfl rfl (by exact congrArg Value.bool hq35) ?_
   have h36 := (h20.st (.new _ g30))
   refine L_pu (P_ld ag9 cL ⟨b14, 0, none⟩ (vs f.Id) rfl (h36.cell rfl)) ?_
   refine L_run (dj := 13) rfl rfl (by exact congrArg Value.bool hq35) ?_
   refine L_pu (P_move (vs id) rfl) ?_
   refine L_run (dj := 13) rfl rfl (by exact congrArg Value.bool hq35) ?_
   refine L_pu (P_scmp f.Id id (f.Id == id) rfl rfl rfl) ?_
   refine L_pu (P_pick true (vb (f.Id == id)) (by exact congrArg Value.bool hq35) rfl) ?_
   refine L_pu (P_assign (vb (f.Id == id)) rfl) ?_
   refine L_nil ?_
   refine W_ret ?_
   exact ⟨[vb (f.Id == id)], ⟨_, rfl, rfl⟩, f.Id == id, rfl, H, hc34.gr.g0⟩
  ·have H := ite_f H hq35
   refine L_pass (dj := 13) rfl rfl (.inl (by exact congrArg Value.bool hq35)) ?_
   refine L_pass (dj := 13) rfl rfl (.inl (by exact congrArg Value.bool hq35)) ?_
   refine L_pass (dj := 13) rfl rfl (.inl (by exact congrArg Value.bool hq35)) ?_
   refine L_pass (dj := 13) rfl rfl (.inl (by exact congrArg Value.bool hq35)) ?_
   refine L_pu (P_pick false (vb false) (by exact congrArg Value.bool hq35) rfl) ?_
   refine L_pu (P_assign (vb false) rfl) ?_
   refine L_nil ?_
   refine W_ret ?_
   exact ⟨[vb false], ⟨_, rfl, rfl⟩, false, rfl, H, hc34.gr.g0⟩
end Go.Proofs.Ytndjggncgpjolaa

namespace Go.Proofs.Ytndjggncgpjolaa
set_option linter.unusedVariables false
set_option linter.unusedSimpArgs false
set_option linter.unusedSectionVars false
theorem impl_sideOk.law (id : Str) (has : Bool) (f : Feat) (Q : Bool → Prop) (hb : bulk f ≤ 1048576) (hq : Q (sideOk id has f)) : impl_sideOk.E id has f Q := by
 unfold impl_sideOk.E
 unfold sideOk at hq
 cases has with
 | false => rw [if_pos (by decide)]; rw [if_neg (by decide)] at hq; exact impl_noFeat.law _ _ hq
 | true =>
  rw [if_neg (by decide)]; rw [if_pos rfl] at hq
  refine impl_FeatOk.law _ _ hb ?_
  cases h : featOk f with
  | false => rw [h] at hq; rw [if_neg (by decide)]; exact hq
  | true =>
   rw [h, Bool.true_and] at hq; rw [if_pos rfl]
   have : (f.Id == id) = decide (f.Id = id) := by rw [Bool.eq_iff_iff, beq_iff_eq, decide_eq_true_eq]
   rw [this]; exact hq
end Go.Proofs.Ytndjggncgpjolaa

namespace Go.Proofs.Ytndjggncgpjolaa
open Go.RowKit
set_option linter.unusedVariables false
set_option linter.unusedSimpArgs false
def slices_Equal_Pt.E (s1 : List Pt) (s2 : List Pt) (Q : Bool → Prop) : Prop :=
 (if (s1.length : Int) != (s2.length : Int) then Q false else (∃ (I32 : Int → Prop) (mu33 : Int → Nat), I32 0 ∧ ∀ (v2 : Int), I32 v2 → (if decide (v2 < (s1.length : Int)) then ((0 : Int) ≤ v2 ∧ v2 < (s1.length : Int)) ∧ ((0 : Int) ≤ v2 ∧ v2 < (s2.length : Int)) ∧ (if !(eqPt (nth s1 v2) (nth s2 v2)) then Q false else (I64 (v2 + 1)) ∧ I32 (v2 + 1) ∧ mu33 (v2 + 1) < mu33 v2) else Q true)))
set_option maxHeartbeats 8000000 in
set_option maxRecDepth 100000 in
theorem slices_Equal_Pt.calls {O : Ob} (w0 : World) (hO : Ok w0 O) (s1 : List Pt) (A1 : Option Addr) (n2 c3 : Nat) (hp4 : Sl kPt w0 (Fr O) (.slice A1 n2 c3) s1) (s2 : List Pt) (A6 : Option Addr) (n7 c8 : Nat) (hp9 : Sl kPt w0 (Fr O) (.slice A6 n7 c8) s2) (Q : Bool → Prop) (h : slices_Equal_Pt.E s1 s2 Q) :
  Ret Try.prog 49 [.slice A1 n2 c3, .slice A6 n7 c8] w0 (fun v w' => ∃ (r0 : Bool), v = vb r0 ∧ Q r0 ∧ Gr w0 w' none) := by
 have H : (if (s1.length : Int) != (s2.length : Int) then Q false else (∃ (I32 : Int → Prop) (mu33 : Int → Nat), I32 0 ∧ ∀ (v2 : Int), I32 v2 → (if decide (v2 < (s1.length : Int)) then ((0 : Int) ≤ v2 ∧ v2 < (s1.length : Int)) ∧ ((0 : Int) ≤ v2 ∧ v2 < (s2.length : Int)) ∧ (if !(eqPt (nth s1 v2) (nth s2 v2)) then Q false else (I64 (v2 + 1)) ∧ I32 (v2 + 1) ∧ mu33 (v2 + 1) < mu33 v2) else Q true))) := h
 clear h
 have hc0 := Ct.init hO
 refine Ret_enter Try.func49 rfl 26 rfl [.tmp 4] rfl rfl ?_
 refine W_seq ?_
 refine W_reg ?_
 refine L_pu (P_assign (vb false) rfl) ?_
 refine L_nil ?_
 refine W_seq ?_
 refine W_seq ?_
 refine W_reg ?_
 refine L_pu (P_move (.slice A1 n2 c3) rfl) ?_
 have hl11 := hp4.le
 refine L_pu (P_len Try.underlying23 A1 n2 c3 hp4.len rfl) ?_
 refine L_pu (P_move (.slice A6 n7 c8) rfl) ?_
 have hl12 := hp9.le
 refine L_pu (P_len Try.underlying23 A6 n7 c8 hp9.len rfl) ?_
 refine L_pu (P_cmp (s1.length : Int) (s2.length : Int) ((s1.length : Int) != (s2.length : Int)) rfl rfl rfl) ?_
 refine L_nil ?_
 refine W_cond ((s1.length : Int) != (s2.length : Int)) rfl (fun hq13 => ?_) (fun hq13 => ?_)
 ·have H := ite_t H hq13
  refine W_seq ?_
  refine W_reg ?_
  refine L_pu (P_assign (vb false) rfl) ?_
  refine L_nil ?_
  refine W_ret ?_
  exact ⟨[vb false], ⟨_, rfl, rfl⟩, false, rfl, H, hc0.gr.g0⟩
 ·have H := ite_f H hq13
  refine W_skip ?_
  refine W_seq ?_
  refine W_seq ?_
  refine W_reg ?_
  refine L_pu (P_move (.slice A1 n2 c3) rfl) ?_
  refine L_pu (P_len Try.underlying23 A1 n2 c3 hp4.len rfl) ?_
  refine L_pu (P_move (vi 0) rfl) ?_
  refine L_nil ?_
  refine W_block ?_
  obtain ⟨I32, mu33, hI34, H⟩ := H
  refine W_loop (α := Int) (fun (sv__ : Int) t w26 => match sv__ with | v2 => I32 v2 ∧ Has t [(0, .slice A1 n2 c3), (1, .slice A6 n7 c8), (12, vi (s1.length : Int)), (13, vi v2)] ∧ Ct [] w0 w26 [] O ∧ Sl kPt w26 (Fr ([] ++ O)) (.slice A1 n2 c3) s1 ∧ Sl kPt w26 (Fr ([] ++ O)) (.slice A6 n7 c8) s2) (fun (sv__ : Int) => match sv__ with | v2 => mu33 v2) 0 ⟨hI34, ⟨rfl, rfl, rfl, rfl, trivial⟩, hc0, hp4, hp9⟩ ?_
  rintro v2 _ w26 ⟨hI34, hh36, hc29, h30, h31⟩
  obtain ⟨u37, rfl⟩ := Has.ins hh36
  have H := H v2 hI34
  refine W_seq ?_
  refine W_reg ?_
  refine L_pu (P_cmp v2 (s1.length : Int) (decide (v2 < (s1.length : Int))) rfl rfl rfl) ?_
  refine L_nil ?_
  refine W_seq ?_
  refine W_cond (decide (v2 < (s1.length : Int))) rfl (fun hq38 => ?_) (fun hq38 => ?_)
  ·have H := ite_t H hq38
   refine W_skip ?_
   refine W_seq ?_
   refine W_block ?_
   refine W_seq ?_
   refine W_reg ?_
   refine L_pu (P_move (vi v2) rfl) ?_
   refine L_pu (P_assign (vi v2) rfl) ?_
   refine L_nil ?_
   refine W_seq ?_
   refine W_draw (fun x => Gr w26 x none) (by kernel_rfl) (by kernel_rfl) (Gr.drew _) ?_
   refine Q_pu (P_move (.slice A1 n2 c3) rfl) ?_
   refine Q_pu (P_move (vi v2) rfl) ?_
   obtain ⟨hb39, H⟩ := H
   obtain ⟨ad40, cs41, hA42, hS45, hR43, hcl44⟩ := h30.get default (by decide) v2 hb39
   obtain rfl := kPt.op hR43
   refine Q_pu (P_ia Try.underlying23 se23 A1 ad40 n2 c3 h30.len v2 rfl hA42 rfl hb39) ?_
   refine Q_pu (P_lda ag29 sz29 cQ (ad40.add (v2.toNat * 2)) [vi ((nth s1 v2).X), vi ((nth s1 v2).Y)] rfl rfl hcl44) ?_
   refine Q_pu (P_move (.slice A6 n7 c8) rfl) ?_
   refine Q_pu (P_move (vi v2) rfl) ?_
   obtain ⟨hb46, H⟩ := H
   obtain ⟨ad47, cs48, hA49, hS52, hR50, hcl51⟩ := h31.get default (by decide) v2 hb46
   obtain rfl := kPt.op hR50
   refine Q_pu (P_ia Try.underlying23 se23 A6 ad47 n7 c8 h31.len v2 rfl hA49 rfl hb46) ?_
   refine Q_pu (P_lda ag29 sz29 cQ (ad47.add (v2.toNat * 2)) [vi ((nth s2 v2).X), vi ((nth s2 v2).Y)] rfl rfl hcl51) ?_
   refine Q_pu (P_ne _ _ (eqPt (nth s1 v2) (nth s2 v2)) (qt29 (nth s1 v2) (nth s2 v2)) rfl rfl) ?_
   refine Q_nil fun w53 g54 => ?_
   have hc56 := hc29.k0 g54
   refine W_cond (!(eqPt (nth s1 v2) (nth s2 v2))) rfl (fun hq57 => ?_) (fun hq57 => ?_)
   ·have H := ite_t H hq57
    refine W_seq ?_
    refine W_reg ?_
    refine L_pu (P_assign (vb false) rfl) ?_
    refine L_nil ?_
    refine W_ret ?_
    exact ⟨[vb false], ⟨_, rfl, rfl⟩, false, rfl, H, hc56.gr.g0⟩
   ·have H := ite_f H hq57
    refine W_skip ?_
    refine W_reg ?_
    obtain ⟨hb58, H⟩ := H
    refine L_pu (P_add v2 1 rfl rfl hb58) ?_
    refine L_pu (P_move (vi (v2 + 1)) rfl) ?_
    refine L_nil ?_
    obtain ⟨hI59, hm60⟩ := H
    exact ⟨v2 + 1, hm60, hI59, ⟨rfl, rfl, rfl, rfl, trivial⟩, hc56, (h30.st (.new _ g54)), (h31.st (.new _ g54))⟩
  ·have H := ite_f H hq38
   refine W_exit (xin_hit ?_)
   refine W_seq ?_
   refine W_reg ?_
   refine L_pu (P_assign (vb true) rfl) ?_
   refine L_nil ?_
   refine W_ret ?_
   exact ⟨[vb true], ⟨_, rfl, rfl⟩, true, rfl, H, hc29.gr.g0⟩
end Go.Proofs.Ytndjggncgpjolaa

namespace Go.Proofs.Ytndjggncgpjolaa
set_option linter.unusedVariables false
set_option linter.unusedSimpArgs false
set_option linter.unusedSectionVars false
theorem slices_Equal_Pt.law (a b : List Pt) (Q : Bool → Prop) (hb : a.length ≤ 1048576) (hq : Q (decide (a = b))) : slices_Equal_Pt.E a b Q := by
 unfold slices_Equal_Pt.E
 exact eqI_shape eqPt eqPt_is a b Q hb hq
end Go.Proofs.Ytndjggncgpjolaa

namespace Go.Proofs.Ytndjggncgpjolaa
open Go.RowKit
set_option linter.unusedVariables false
set_option linter.unusedSimpArgs false
def impl_ShapeSame.E (a : Shape) (b : Shape) (Q : Bool → Prop) : Prop :=
 (if a.Kind == b.Kind then slices_Equal_Pt.E a.Pts b.Pts (fun r => Q r) else Q false)
set_option maxHeartbeats 8000000 in
set_option maxRecDepth 100000 in
theorem impl_ShapeSame.calls {O : Ob} (w0 : World) (hO : Ok w0 O) (a : Shape) (A1 : Option Addr) (n2 c3 : Nat) (hp4 : Sl kPt w0 (Fr O) (.slice A1 n2 c3) a.Pts) (b : Shape) (A6 : Option Addr) (n7 c8 : Nat) (hp9 : Sl kPt w0 (Fr O) (.slice A6 n7 c8) b.Pts) (Q : Bool → Prop) (h : impl_ShapeSame.E a b Q) :
  Ret Try.prog 95 [.agg #[vi a.Kind, .slice A1 n2 c3], .agg #[vi b.Kind, .slice A6 n7 c8]] w0 (fun v w' => ∃ (r0 : Bool), v = vb r0 ∧ Q r0 ∧ Gr w0 w' none) := by
 have H : (if a.Kind == b.Kind then slices_Equal_Pt.E a.Pts b.Pts (fun r => Q r) else Q false) := h
 clear h
 have hc0 := Ct.init hO
 refine Ret_enter Try.func95 rfl 17 rfl [.tmp 4] rfl rfl ?_
 refine W_seq ?_
 refine W_reg ?_
 refine L_box [vi a.Kind, .slice A1 n2 c3] rfl fun w11 b12 hl14 hu15 g13 hx16 => ?_
 have h18 := Fb.mk hc0.ok hl14 hx16
 have hc19 := hc0.k0 g13
 refine L_box [vi b.Kind, .slice A6 n7 c8] rfl fun w20 b21 hl23 hu24 g22 hx25 => ?_
 have h27 := Fb.mk hc19.ok hl23 hx25
 have hc28 := hc19.k0 g22
 refine L_pu (P_assign (vb false) rfl) ?_
 refine L_nil ?_
 refine W_seq ?_
 refine W_reg ?_
 refine L_pu (P_fa fa68_0 ⟨b12, 0, none⟩ ⟨b12, 0, none⟩ rfl rfl) ?_
 have h29 := (h18.st (.new _ g22))
 refine L_pu (P_ld ag3 cL ⟨b12, 0, none⟩ (vi a.Kind) rfl (h29.cell rfl)) ?_
 refine L_pu (P_fa fa68_0 ⟨b21, 0, none⟩ ⟨b21, 0, none⟩ rfl rfl) ?_
 refine L_pu (P_ld ag3 cL ⟨b21, 0, none⟩ (vi b.Kind) rfl (h27.cell rfl)) ?_
 refine L_pu (P_cmp a.Kind b.Kind (a.Kind == b.Kind) rfl rfl rfl) ?_
 refine L_pu (P_move (vb (a.Kind == b.Kind)) rfl) ?_
 rcases bool_or (a.Kind == b.Kind) with hq30 | hq30
 ·have H := ite_t H hq30
  refine L_run (dj := 10) rfl rfl (by exact congrArg Value.bool hq30) ?_
  refine L_pu (P_fa fa68_1 ⟨b12, 0, none⟩ ⟨b12, 1, none⟩ rfl rfl) ?_
  refine L_run (dj := 10) rfl rfl (by exact congrArg Value.bool hq30) ?_
  refine L_pu (P_ld ag23 cL ⟨b12, 1, none⟩ (.slice A1 n2 c3) rfl (h29.cell rfl)) ?_
  refine L_run (dj := 10) rfl rfl (by exact congrArg Value.bool hq30) ?_
  refine L_pu (P_fa fa68_1 ⟨b21, 0, none⟩ ⟨b21, 1, none⟩ rfl rfl) ?_
  refine L_run (dj := 10) rfl rfl (by exact congrArg Value.bool hq30) ?_
  refine L_pu (P_ld ag23 cL ⟨b21, 1, none⟩ (.slice A6 n7 c8) rfl (h27.cell rfl)) ?_
  refine L_run (dj := 10) rfl rfl (by exact congrArg Value.bool hq30) ?_
  refine L_call go49 [.slice A1 n2 c3, .slice A6 n7 c8] rfl ((slices_Equal_Pt.calls w20 hc28.ok a.Pts A1 n2 c3 (hp4.st hc28.st) b.Pts A6 n7 c8 (hp9.st hc28.st) _ H).mono ?_)
  rintro _ w31 ⟨r, rfl, H, g32⟩
  have hc36 := hc28.k0 g32
  refine L_pu (P_pick true (vb r) (by exact congrArg Value.bool hq30) rfl) ?_
  refine L_pu (P_assign (vb r) rfl) ?_
  refine L_nil ?_
  refine W_ret ?_
  exact ⟨[vb r], ⟨_, rfl, rfl⟩, r, rfl, H, hc36.gr.g0⟩
 ·have H := ite_f H hq30
  refine L_pass (dj := 10) rfl rfl (.inl (by exact congrArg Value.bool hq30)) ?_
  refine L_pass (dj := 10) rfl rfl (.inl (by exact congrArg Value.bool hq30)) ?_
  refine L_pass (dj := 10) rfl rfl (.inl (by exact congrArg Value.bool hq30)) ?_
  refine L_pass (dj := 10) rfl rfl (.inl (by exact congrArg Value.bool hq30)) ?_
  refine L_pass (dj := 10) rfl rfl (.inl (by exact congrArg Value.bool hq30)) ?_
  refine L_pu (P_pick false (vb false) (by exact congrArg Value.bool hq30) rfl) ?_
  refine L_pu (P_assign (vb false) rfl) ?_
  refine L_nil ?_
  refine W_ret ?_
  exact ⟨[vb false], ⟨_, rfl, rfl⟩, false, rfl, H, hc28.gr.g0⟩
end Go.Proofs.Ytndjggncgpjolaa

namespace Go.Proofs.Ytndjggncgpjolaa
set_option linter.unusedVariables false
set_option linter.unusedSimpArgs false
set_option linter.unusedSectionVars false
theorem impl_ShapeSame.law (a b : Shape) (Q : Bool → Prop) (hl : a.Pts.length ≤ 1048576) (hq : Q (decide (a = b))) : impl_ShapeSame.E a b Q := by
 unfold impl_ShapeSame.E
 by_cases h : a.Kind = b.Kind
 ·rw [if_pos (by rw [beq_iff_eq]; exact h)]
  refine slices_Equal_Pt.law _ _ _ (by omega) ?_
  have : decide (a.Pts = b.Pts) = decide (a = b) := decide_eq_decide.2 (by rw [Shape.ext_iff']; exact ⟨fun e => ⟨h, e⟩, fun e => e.2⟩)
  rw [this]; exact hq
 ·rw [if_neg (by rw [beq_iff_eq]; exact h)]
  rw [decide_eq_false (by rw [Shape.ext_iff']; exact fun e => h e.1)] at hq; exact hq
end Go.Proofs.Ytndjggncgpjolaa

namespace Go.Proofs.Ytndjggncgpjolaa
open Go.RowKit
set_option linter.unusedVariables false
set_option linter.unusedSimpArgs false
def slices_Equal_Tag.E (s1 : List Tag) (s2 : List Tag) (Q : Bool → Prop) : Prop :=
 (if (s1.length : Int) != (s2.length : Int) then Q false else (∃ (I32 : Int → Prop) (mu33 : Int → Nat), I32 0 ∧ ∀ (v2 : Int), I32 v2 → (if decide (v2 < (s1.length : Int)) then ((0 : Int) ≤ v2 ∧ v2 < (s1.length : Int)) ∧ ((0 : Int) ≤ v2 ∧ v2 < (s2.length : Int)) ∧ (if !(eqTag (nth s1 v2) (nth s2 v2)) then Q false else (I64 (v2 + 1)) ∧ I32 (v2 + 1) ∧ mu33 (v2 + 1) < mu33 v2) else Q true)))
set_option maxHeartbeats 8000000 in
set_option maxRecDepth 100000 in
theorem slices_Equal_Tag.calls {O : Ob} (w0 : World) (hO : Ok w0 O) (s1 : List Tag) (A1 : Option Addr) (n2 c3 : Nat) (hp4 : Sl kTag w0 (Fr O) (.slice A1 n2 c3) s1) (s2 : List Tag) (A6 : Option Addr) (n7 c8 : Nat) (hp9 : Sl kTag w0 (Fr O) (.slice A6 n7 c8) s2) (Q : Bool → Prop) (h : slices_Equal_Tag.E s1 s2 Q) :
  Ret Try.prog 131 [.slice A1 n2 c3, .slice A6 n7 c8] w0 (fun v w' => ∃ (r0 : Bool), v = vb r0 ∧ Q r0 ∧ Gr w0 w' none) := by
 have H : (if (s1.length : Int) != (s2.length : Int) then Q false else (∃ (I32 : Int → Prop) (mu33 : Int → Nat), I32 0 ∧ ∀ (v2 : Int), I32 v2 → (if decide (v2 < (s1.length : Int)) then ((0 : Int) ≤ v2 ∧ v2 < (s1.length : Int)) ∧ ((0 : Int) ≤ v2 ∧ v2 < (s2.length : Int)) ∧ (if !(eqTag (nth s1 v2) (nth s2 v2)) then Q false else (I64 (v2 + 1)) ∧ I32 (v2 + 1) ∧ mu33 (v2 + 1) < mu33 v2) else Q true))) := h
 clear h
 have hc0 := Ct.init hO
 refine Ret_enter Try.func131 rfl 26 rfl [.tmp 4] rfl rfl ?_
 refine W_seq ?_
 refine W_reg ?_
 refine L_pu (P_assign (vb false) rfl) ?_
 refine L_nil ?_
 refine W_seq ?_
 refine W_seq ?_
 refine W_reg ?_
 refine L_pu (P_move (.slice A1 n2 c3) rfl) ?_
 have hl11 := hp4.le
 refine L_pu (P_len Try.underlying69 A1 n2 c3 hp4.len rfl) ?_
 refine L_pu (P_move (.slice A6 n7 c8) rfl) ?_
 have hl12 := hp9.le
 refine L_pu (P_len Try.underlying69 A6 n7 c8 hp9.len rfl) ?_
 refine L_pu (P_cmp (s1.length : Int) (s2.length : Int) ((s1.length : Int) != (s2.length : Int)) rfl rfl rfl) ?_
 refine L_nil ?_
 refine W_cond ((s1.length : Int) != (s2.length : Int)) rfl (fun hq13 => ?_) (fun hq13 => ?_)
 ·have H := ite_t H hq13
  refine W_seq ?_
  refine W_reg ?_
  refine L_pu (P_assign (vb false) rfl) ?_
  refine L_nil ?_
  refine W_ret ?_
  exact ⟨[vb false], ⟨_, rfl, rfl⟩, false, rfl, H, hc0.gr.g0⟩
 ·have H := ite_f H hq13
  refine W_skip ?_
  refine W_seq ?_
  refine W_seq ?_
  refine W_reg ?_
  refine L_pu (P_move (.slice A1 n2 c3) rfl) ?_
  refine L_pu (P_len Try.underlying69 A1 n2 c3 hp4.len rfl) ?_
  refine L_pu (P_move (vi 0) rfl) ?_
  refine L_nil ?_
  refine W_block ?_
  obtain ⟨I32, mu33, hI34, H⟩ := H
  refine W_loop (α := Int) (fun (sv__ : Int) t w26 => match sv__ with | v2 => I32 v2 ∧ Has t [(0, .slice A1 n2 c3), (1, .slice A6 n7 c8), (12, vi (s1.length : Int)), (13, vi v2)] ∧ Ct [] w0 w26 [] O ∧ Sl kTag w26 (Fr ([] ++ O)) (.slice A1 n2 c3) s1 ∧ Sl kTag w26 (Fr ([] ++ O)) (.slice A6 n7 c8) s2) (fun (sv__ : Int) => match sv__ with | v2 => mu33 v2) 0 ⟨hI34, ⟨rfl, rfl, rfl, rfl, trivial⟩, hc0, hp4, hp9⟩ ?_
  rintro v2 _ w26 ⟨hI34, hh36, hc29, h30, h31⟩
  obtain ⟨u37, rfl⟩ := Has.ins hh36
  have H := H v2 hI34
  refine W_seq ?_
  refine W_reg ?_
  refine L_pu (P_cmp v2 (s1.length : Int) (decide (v2 < (s1.length : Int))) rfl rfl rfl) ?_
  refine L_nil ?_
  refine W_seq ?_
  refine W_cond (decide (v2 < (s1.length : Int))) rfl (fun hq38 => ?_) (fun hq38 => ?_)
  ·have H := ite_t H hq38
   refine W_skip ?_
   refine W_seq ?_
   refine W_block ?_
   refine W_seq ?_
   refine W_reg ?_
   refine L_pu (P_move (vi v2) rfl) ?_
   refine L_pu (P_assign (vi v2) rfl) ?_
   refine L_nil ?_
   refine W_seq ?_
   refine W_draw (fun x => Gr w26 x none) (by kernel_rfl) (by kernel_rfl) (Gr.drew _) ?_
   refine Q_pu (P_move (.slice A1 n2 c3) rfl) ?_
   refine Q_pu (P_move (vi v2) rfl) ?_
   obtain ⟨hb39, H⟩ := H
   obtain ⟨ad40, cs41, hA42, hS45, hR43, hcl44⟩ := h30.get default (by decide) v2 hb39
   obtain ⟨rfl, hs46, hs47⟩ := kTag.op hR43
   refine Q_pu (P_ia Try.underlying69 se69 A1 ad40 n2 c3 h30.len v2 rfl hA42 rfl hb39) ?_
   refine Q_pu (P_lda ag133 sz133 cQ (ad40.add (v2.toNat * 2)) [vs ((nth s1 v2).Key), vs ((nth s1 v2).Val)] rfl rfl hcl44) ?_
   refine Q_pu (P_move (.slice A6 n7 c8) rfl) ?_
   refine Q_pu (P_move (vi v2) rfl) ?_
   obtain ⟨hb48, H⟩ := H
   obtain ⟨ad49, cs50, hA51, hS54, hR52, hcl53⟩ := h31.get default (by decide) v2 hb48
   obtain ⟨rfl, hs55, hs56⟩ := kTag.op hR52
   refine Q_pu (P_ia Try.underlying69 se69 A6 ad49 n7 c8 h31.len v2 rfl hA51 rfl hb48) ?_
   refine Q_pu (P_lda ag133 sz133 cQ (ad49.add (v2.toNat * 2)) [vs ((nth s2 v2).Key), vs ((nth s2 v2).Val)] rfl rfl hcl53) ?_
   refine Q_pu (P_ne _ _ (eqTag (nth s1 v2) (nth s2 v2)) (qt133 (nth s1 v2) (nth s2 v2)) rfl rfl) ?_
   refine Q_nil fun w57 g58 => ?_
   have hc60 := hc29.k0 g58
   refine W_cond (!(eqTag (nth s1 v2) (nth s2 v2))) rfl (fun hq61 => ?_) (fun hq61 => ?_)
   ·have H := ite_t H hq61
    refine W_seq ?_
    refine W_reg ?_
    refine L_pu (P_assign (vb false) rfl) ?_
    refine L_nil ?_
    refine W_ret ?_
    exact ⟨[vb false], ⟨_, rfl, rfl⟩, false, rfl, H, hc60.gr.g0⟩
   ·have H := ite_f H hq61
    refine W_skip ?_
    refine W_reg ?_
    obtain ⟨hb62, H⟩ := H
    refine L_pu (P_add v2 1 rfl rfl hb62) ?_
    refine L_pu (P_move (vi (v2 + 1)) rfl) ?_
    refine L_nil ?_
    obtain ⟨hI63, hm64⟩ := H
    exact ⟨v2 + 1, hm64, hI63, ⟨rfl, rfl, rfl, rfl, trivial⟩, hc60, (h30.st (.new _ g58)), (h31.st (.new _ g58))⟩
  ·have H := ite_f H hq38
   refine W_exit (xin_hit ?_)
   refine W_seq ?_
   refine W_reg ?_
   refine L_pu (P_assign (vb true) rfl) ?_
   refine L_nil ?_
   refine W_ret ?_
   exact ⟨[vb true], ⟨_, rfl, rfl⟩, true, rfl, H, hc29.gr.g0⟩
end Go.Proofs.Ytndjggncgpjolaa

namespace Go.Proofs.Ytndjggncgpjolaa
set_option linter.unusedVariables false
set_option linter.unusedSimpArgs false
set_option linter.unusedSectionVars false
theorem slices_Equal_Tag.law (a b : List Tag) (Q : Bool → Prop) (hb : a.length ≤ 1048576) (hq : Q (decide (a = b))) : slices_Equal_Tag.E a b Q := by
 unfold slices_Equal_Tag.E
 exact eqI_shape eqTag eqTag_is a b Q hb hq
end Go.Proofs.Ytndjggncgpjolaa

namespace Go.Proofs.Ytndjggncgpjolaa
open Go.RowKit
set_option linter.unusedVariables false
set_option linter.unusedSimpArgs false
def impl_FeatSame.E (a : Feat) (b : Feat) (Q : Bool → Prop) : Prop :=
 (if a.Id == b.Id then impl_ShapeSame.E a.Shape b.Shape (fun r => (if r then slices_Equal_Tag.E a.Tags b.Tags (fun r2 => Q r2) else Q false)) else Q false)
set_option maxHeartbeats 8000000 in
set_option maxRecDepth 100000 in
theorem impl_FeatSame.calls {O : Ob} (w0 : World) (hO : Ok w0 O) (a : Feat) (A2 : Option Addr) (n3 c4 : Nat) (A7 : Option Addr) (n8 c9 : Nat) (hs1 : Lim a.Id) (hp5 : Sl kPt w0 (Fr O) (.slice A2 n3 c4) a.Shape.Pts) (hp10 : Sl kTag w0 (Fr O) (.slice A7 n8 c9) a.Tags) (b : Feat) (A13 : Option Addr) (n14 c15 : Nat) (A18 : Option Addr) (n19 c20 : Nat) (hs12 : Lim b.Id) (hp16 : Sl kPt w0 (Fr O) (.slice A13 n14 c15) b.Shape.Pts) (hp21 : Sl kTag w0 (Fr O) (.slice A18 n19 c20) b.Tags) (Q : Bool → Prop) (h : impl_FeatSame.E a b Q) :
  Ret Try.prog 86 [.agg #[vs a.Id, vi a.Shape.Kind, .slice A2 n3 c4, .slice A7 n8 c9], .agg #[vs b.Id, vi b.Shape.Kind, .slice A13 n14 c15, .slice A18 n19 c20]] w0 (fun v w' => ∃ (r0 : Bool), v = vb r0 ∧ Q r0 ∧ Gr w0 w' none) := by
 have H : (if a.Id == b.Id then impl_ShapeSame.E a.Shape b.Shape (fun r => (if r then slices_Equal_Tag.E a.Tags b.Tags (fun r2 => Q r2) else Q false)) else Q false) := h
 clear h
 have hc0 := Ct.init hO
 refine Ret_enter Try.func86 rfl 24 rfl [.tmp 4] rfl rfl ?_
 refine W_seq ?_
 refine W_reg ?_
 refine L_box [vs a.Id, vi a.Shape.Kind, .slice A2 n3 c4, .slice A7 n8 c9] rfl fun w23 b24 hl26 hu27 g25 hx28 => ?_
 have h30 := Fb.mk hc0.ok hl26 hx28
 have hc31 := hc0.k0 g25
 refine L_box [vs b.Id, vi b.Shape.Kind, .slice A13 n14 c15, .slice A18 n19 c20] rfl fun w32 b33 hl35 hu36 g34 hx37 => ?_
 have h39 := Fb.mk hc31.ok hl35 hx37
 have hc40 := hc31.k0 g34
 refine L_pu (P_assign (vb false) rfl) ?_
 refine L_nil ?_
 refine W_seq ?_
 refine W_reg ?_
 refine L_pu (P_fa fa71_0 ⟨b24, 0, none⟩ ⟨b24, 0, none⟩ rfl rfl) ?_
 have h41 := (h30.st (.new _ g34))
 refine L_pu (P_ld ag9 cL ⟨b24, 0, none⟩ (vs a.Id) rfl (h41.cell rfl)) ?_
 refine L_pu (P_fa fa71_0 ⟨b33, 0, none⟩ ⟨b33, 0, none⟩ rfl rfl) ?_
 refine L_pu (P_ld ag9 cL ⟨b33, 0, none⟩ (vs b.Id) rfl (h39.cell rfl)) ?_
 refine L_pu (P_scmp a.Id b.Id (a.Id == b.Id) rfl rfl rfl) ?_
 refine L_pu (P_move (vb (a.Id == b.Id)) rfl) ?_
 rcases bool_or (a.Id == b.Id) with hq42 | hq42
 ·have H := ite_t H hq42
  refine L_run (dj := 10) rfl rfl (by exact congrArg Value.bool hq42) ?_
  refine L_pu (P_fa fa71_1 ⟨b24, 0, none⟩ ⟨b24, 1, none⟩ rfl rfl) ?_
  refine L_run (dj := 10) rfl rfl (by exact congrArg Value.bool hq42) ?_
  refine L_pu (P_lda ag68 sz68 cL ⟨b24, 1, none⟩ [vi a.Shape.Kind, .slice A2 n3 c4] rfl rfl (h41.cells (off := 1) rfl)) ?_
  refine L_run (dj := 10) rfl rfl (by exact congrArg Value.bool hq42) ?_
  refine L_pu (P_fa fa71_1 ⟨b33, 0, none⟩ ⟨b33, 1, none⟩ rfl rfl) ?_
  refine L_run (dj := 10) rfl rfl (by exact congrArg Value.bool hq42) ?_
  refine L_pu (P_lda ag68 sz68 cL ⟨b33, 1, none⟩ [vi b.Shape.Kind, .slice A13 n14 c15] rfl rfl (h39.cells (off := 1) rfl)) ?_
  refine L_run (dj := 10) rfl rfl (by exact congrArg Value.bool hq42) ?_
  refine L_call go95 [.agg #[vi a.Shape.Kind, .slice A2 n3 c4], .agg #[vi b.Shape.Kind, .slice A13 n14 c15]] rfl ((impl_ShapeSame.calls w32 hc40.ok a.Shape A2 n3 c4 (hp5.st hc40.st) b.Shape A13 n14 c15 (hp16.st hc40.st) _ H).mono ?_)
  rintro _ w43 ⟨r, rfl, H, g44⟩
  have hc48 := hc40.k0 g44
  refine L_pu (P_pick true (vb r) (by exact congrArg Value.bool hq42) rfl) ?_
  refine L_pu (P_move (vb r) rfl) ?_
  rcases bool_or r with hq49 | hq49
  ·have H := ite_t H hq49
   refine L_run (dj := 17) rfl rfl (by exact congrArg Value.bool hq49) ?_
   refine L_pu (P_fa fa71_2 ⟨b24, 0, none⟩ ⟨b24, 3, none⟩ rfl rfl) ?_
   refine L_run (dj := 17) rfl rfl (by exact congrArg Value.bool hq49) ?_
   have h50 := (h41.st (.new _ g44))
   refine L_pu (P_ld ag69 cL ⟨b24, 3, none⟩ (.slice A7 n8 c9) rfl (h50.cell rfl)) ?_
   refine L_run (dj := 17) rfl rfl (by exact congrArg Value.bool hq49) ?_
   refine L_pu (P_fa fa71_2 ⟨b33, 0, none⟩ ⟨b33, 3, none⟩ rfl rfl) ?_
   refine L_run (dj := 17) rfl rfl (by exact congrArg Value.bool hq49) ?_
   have h51 := (h39.st (.new _ g44))
   refine L_pu (P_ld ag69 cL ⟨b33, 3, none⟩ (.slice A18 n19 c20) rfl (h51.cell rfl)) ?_
   refine L_run (dj := 17) rfl rfl (by exact congrArg Value.bool hq49) ?_
   refine L_call go131 [.slice A7 n8 c9, .slice A18 n19 c20] rfl ((slices_Equal_Tag.calls w43 hc48.ok a.Tags A7 n8 c9 (hp10.st hc48.st) b.Tags A18 n19 c20 (hp21.st hc48.st) _ H).mono ?_)
   rintro _ w52 ⟨r2, rfl, H, g53⟩
   have hc57 := hc48.k0 g53
   refine L_pu (P_pick true (vb r2) (by exact congrArg Value.bool hq49) rfl) ?_
   refine L_pu (P_assign (vb r2) rfl) ?_
   refine L_nil ?_
   refine W_ret ?_
   exact ⟨[vb r2], ⟨_, rfl, rfl⟩, r2, rfl, H, hc57.gr.g0⟩
  ·have H := ite_f H hq49
   refine L_pass (dj := 17) rfl rfl (.inl (by exact congrArg Value.bool hq49)) ?_
   refine L_pass (dj := 17) rfl rfl (.inl (by exact congrArg Value.bool hq49)) ?_
   refine L_pass (dj := 17) rfl rfl (.inl (by exact congrArg Value.bool hq49)) ?_
   refine L_pass (dj := 17) rfl rfl (.inl (by exact congrArg Value.bool hq49)) ?_
   refine L_pass (dj := 17) rfl rfl (.inl (by exact congrArg Value.bool hq49)) ?_
   refine L_pu (P_pick false (vb false) (by exact congrArg Value.bool hq49) rfl) ?_
   refine L_pu (P_assign (vb false) rfl) ?_
   refine L_nil ?_
   refine W_ret ?_
   exact ⟨[vb false], ⟨_, rfl, rfl⟩, false, rfl, H, hc48.gr.g0⟩
 ·have H := ite_f H hq42
  refine L_pass (dj := 10) rfl rfl (.inl (by exact congrArg Value.bool hq42)) ?_
  refine L_pass (dj := 10) rfl rfl (.inl (by exact congrArg Value.bool hq42)) ?_
  refine L_pass (dj := 10) rfl rfl (.inl (by exact congrArg Value.bool hq42)) ?_
  refine L_pass (dj := 10) rfl rfl (.inl (by exact congrArg Value.bool hq42)) ?_
  refine L_pass (dj := 10) rfl rfl (.inl (by exact congrArg Value.bool hq42)) ?_
  refine L_pu (P_pick false (vb false) (by exact congrArg Value.bool hq42) rfl) ?_
  refine L_pu (P_move (vb false) rfl) ?_
  refine L_pass (dj := 17) rfl rfl (.inl rfl) ?_
  refine L_pass (dj := 17) rfl rfl (.inl rfl) ?_
  refine L_pass (dj := 17) rfl rfl (.inl rfl) ?_
  refine L_pass (dj := 17) rfl rfl (.inl rfl) ?_
  refine L_pass (dj := 17) rfl rfl (.inl rfl) ?_
  refine L_pu (P_pick false (vb false) (by exact congrArg Value.bool rfl) rfl) ?_
  refine L_pu (P_assign (vb false) rfl) ?_
  refine L_nil ?_
  refine W_ret ?_
  exact ⟨[vb false], ⟨_, rfl, rfl⟩, false, rfl, H, hc40.gr.g0⟩
end Go.Proofs.Ytndjggncgpjolaa

namespace Go.Proofs.Ytndjggncgpjolaa
set_option linter.unusedVariables false
set_option linter.unusedSimpArgs false
set_option linter.unusedSectionVars false
theorem impl_FeatSame.law (a b : Feat) (Q : Bool → Prop) (hl : a.Shape.Pts.length ≤ 1048576 ∧ a.Tags.length ≤ 1048576) (hq : Q (decide (a = b))) : impl_FeatSame.E a b Q := by
 unfold impl_FeatSame.E
 by_cases h : a.Id = b.Id
 ·rw [if_pos (by rw [beq_iff_eq]; exact h)]
  refine impl_ShapeSame.law _ _ _ (by omega) ?_
  by_cases h2 : a.Shape = b.Shape
  ·rw [decide_eq_true h2, if_pos rfl]
   refine slices_Equal_Tag.law _ _ _ (by omega) ?_
   have : decide (a.Tags = b.Tags) = decide (a = b) := decide_eq_decide.2 (by rw [Feat.ext_iff']; exact ⟨fun e => ⟨h, h2, e⟩, fun e => e.2.2⟩)
   rw [this]; exact hq
  ·rw [decide_eq_false h2, if_neg (by decide)]
   rw [decide_eq_false (by rw [Feat.ext_iff']; exact fun e => h2 e.2.1)] at hq; exact hq
 ·rw [if_neg (by rw [beq_iff_eq]; exact h)]
  rw [decide_eq_false (by rw [Feat.ext_iff']; exact fun e => h e.1)] at hq; exact hq
end Go.Proofs.Ytndjggncgpjolaa

namespace Go.Proofs.Ytndjggncgpjolaa
open Go.RowKit
set_option linter.unusedVariables false
set_option linter.unusedSimpArgs false
def impl_Change_same.E (c_ : Change) (Q : Bool → Prop) : Prop :=
 (if c_.Had == c_.Has then impl_FeatSame.E c_.Was c_.Now (fun r => Q r) else Q false)
set_option maxHeartbeats 8000000 in
set_option maxRecDepth 100000 in
theorem impl_Change_same.calls {O : Ob} (w0 : World) (hO : Ok w0 O) (c_ : Change) (A3 : Option Addr) (n4 c5 : Nat) (A8 : Option Addr) (n9 c10 : Nat) (A14 : Option Addr) (n15 c16 : Nat) (A19 : Option Addr) (n20 c21 : Nat) (hs1 : Lim c_.Id) (hs2 : Lim c_.Was.Id) (hp6 : Sl kPt w0 (Fr O) (.slice A3 n4 c5) c_.Was.Shape.Pts) (hp11 : Sl kTag w0 (Fr O) (.slice A8 n9 c10) c_.Was.Tags) (hs13 : Lim c_.Now.Id) (hp17 : Sl kPt w0 (Fr O) (.slice A14 n15 c16) c_.Now.Shape.Pts) (hp22 : Sl kTag w0 (Fr O) (.slice A19 n20 c21) c_.Now.Tags) (Q : Bool → Prop) (h : impl_Change_same.E c_ Q) :
  Ret Try.prog 77 [.agg #[vs c_.Id, vb c_.Had, vs c_.Was.Id, vi c_.Was.Shape.Kind, .slice A3 n4 c5, .slice A8 n9 c10, vb c_.Has, vs c_.Now.Id, vi c_.Now.Shape.Kind, .slice A14 n15 c16, .slice A19 n20 c21]] w0 (fun v w' => ∃ (r0 : Bool), v = vb r0 ∧ Q r0 ∧ Gr w0 w' none) := by
 have H : (if c_.Had == c_.Has then impl_FeatSame.E c_.Was c_.Now (fun r => Q r) else Q false) := h
 clear h
 have hc0 := Ct.init hO
 refine Ret_enter Try.func77 rfl 15 rfl [.tmp 2] rfl rfl ?_
 refine W_seq ?_
 refine W_reg ?_
 refine L_box [vs c_.Id, vb c_.Had, vs c_.Was.Id, vi c_.Was.Shape.Kind, .slice A3 n4 c5, .slice A8 n9 c10, vb c_.Has, vs c_.Now.Id, vi c_.Now.Shape.Kind, .slice A14 n15 c16, .slice A19 n20 c21] rfl fun w24 b25 hl27 hu28 g26 hx29 => ?_
 have h31 := Fb.mk hc0.ok hl27 hx29
 have hc32 := hc0.k0 g26
 refine L_pu (P_assign (vb false) rfl) ?_
 refine L_nil ?_
 refine W_seq ?_
 refine W_reg ?_
 refine L_pu (P_fa fa103_1 ⟨b25, 0, none⟩ ⟨b25, 1, none⟩ rfl rfl) ?_
 refine L_pu (P_ld ag4 cL ⟨b25, 1, none⟩ (vb c_.Had) rfl (h31.cell rfl)) ?_
 refine L_pu (P_fa fa103_3 ⟨b25, 0, none⟩ ⟨b25, 6, none⟩ rfl rfl) ?_
 refine L_pu (P_ld ag4 cL ⟨b25, 6, none⟩ (vb c_.Has) rfl (h31.cell rfl)) ?_
 refine L_pu (P_bcmp Try.underlying4 c_.Had c_.Has (c_.Had == c_.Has) rfl rfl rfl) ?_
 refine L_pu (P_move (vb (c_.Had == c_.Has)) rfl) ?_
 rcases bool_or (c_.Had == c_.Has) with hq33 | hq33
 ·have H := ite_t H hq33
  refine L_run (dj := 8) rfl rfl (by exact congrArg Value.bool hq33) ?_
  refine L_pu (P_fa fa103_2 ⟨b25, 0, none⟩ ⟨b25, 2, none⟩ rfl rfl) ?_
  refine L_run (dj := 8) rfl rfl (by exact congrArg Value.bool hq33) ?_
  refine L_pu (P_lda ag71 sz71 cL ⟨b25, 2, none⟩ [vs c_.Was.Id, vi c_.Was.Shape.Kind, .slice A3 n4 c5, .slice A8 n9 c10] rfl rfl (h31.cells (off := 2) rfl)) ?_
  refine L_run (dj := 8) rfl rfl (by exact congrArg Value.bool hq33) ?_
  refine L_pu (P_fa fa103_4 ⟨b25, 0, none⟩ ⟨b25, 7, none⟩ rfl rfl) ?_
  refine L_run (dj := 8) rfl rfl (by exact congrArg Value.bool hq33) ?_
  refine L_pu (P_lda ag71 sz71 cL ⟨b25, 7, none⟩ [vs c_.Now.Id, vi c_.Now.Shape.Kind, .slice A14 n15 c16, .slice A19 n20 c21] rfl rfl (h31.cells (off := 7) rfl)) ?_
  refine L_run (dj := 8) rfl rfl (by exact congrArg Value.bool hq33) ?_
  refine L_call go86 [.agg #[vs c_.Was.Id, vi c_.Was.Shape.Kind, .slice A3 n4 c5, .slice A8 n9 c10], .agg #[vs c_.Now.Id, vi c_.Now.Shape.Kind, .slice A14 n15 c16, .slice A19 n20 c21]] rfl ((impl_FeatSame.calls w24 hc32.ok c_.Was A3 n4 c5 A8 n9 c10 hs2 (hp6.st hc32.st) (hp11.st hc32.st) c_.Now A14 n15 c16 A19 n20 c21 hs13 (hp17.st hc32.st) (hp22.st hc32.st) _ H).mono ?_)
  rintro _ w34 ⟨r, rfl, H, g35⟩
  have hc39 := hc32.k0 g35
  refine L_pu (P_pick true (vb r) (by exact congrArg Value.bool hq33) rfl) ?_
  refine L_pu (P_assign (vb r) rfl) ?_
  refine L_nil ?_
  refine W_ret ?_
  exact ⟨[vb r], ⟨_, rfl, rfl⟩, r, rfl, H, hc39.gr.g0⟩
 ·have H := ite_f H hq33
  refine L_pass (dj := 8) rfl rfl (.inl (by exact congrArg Value.bool hq33)) ?_
  refine L_pass (dj := 8) rfl rfl (.inl (by exact congrArg Value.bool hq33)) ?_
  refine L_pass (dj := 8) rfl rfl (.inl (by exact congrArg Value.bool hq33)) ?_
  refine L_pass (dj := 8) rfl rfl (.inl (by exact congrArg Value.bool hq33)) ?_
  refine L_pass (dj := 8) rfl rfl (.inl (by exact congrArg Value.bool hq33)) ?_
  refine L_pu (P_pick false (vb false) (by exact congrArg Value.bool hq33) rfl) ?_
  refine L_pu (P_assign (vb false) rfl) ?_
  refine L_nil ?_
  refine W_ret ?_
  exact ⟨[vb false], ⟨_, rfl, rfl⟩, false, rfl, H, hc32.gr.g0⟩
end Go.Proofs.Ytndjggncgpjolaa

namespace Go.Proofs.Ytndjggncgpjolaa
set_option linter.unusedVariables false
set_option linter.unusedSimpArgs false
set_option linter.unusedSectionVars false
theorem impl_Change_same.law (c : Change) (Q : Bool → Prop) (hb : bulk c ≤ 1048576) (hq : Q (sameC c)) : impl_Change_same.E c Q := by
 unfold impl_Change_same.E
 unfold sameC at hq
 have b1 : bulk c = bulk c.Id + bulk c.Had + bulk c.Was + bulk c.Has + bulk c.Now := rfl
 have b2 : bulk c.Was = bulk c.Was.Id + bulk c.Was.Shape + bulk c.Was.Tags := rfl
 have b3 : bulk c.Was.Shape = bulk c.Was.Shape.Kind + bulk c.Was.Shape.Pts := rfl
 have l1 := bulk_len c.Was.Tags; have l2 := bulk_len c.Was.Shape.Pts
 by_cases h : c.Had = c.Has
 ·rw [if_pos (by rw [beq_iff_eq]; exact h)]
  rw [decide_eq_true h, Bool.true_and] at hq
  exact impl_FeatSame.law _ _ _ (by omega) hq
 ·rw [if_neg (by rw [beq_iff_eq]; exact h)]
  rw [decide_eq_false h] at hq; exact hq
end Go.Proofs.Ytndjggncgpjolaa

namespace Go.Proofs.Ytndjggncgpjolaa
open Go.RowKit
set_option linter.unusedVariables false
set_option linter.unusedSimpArgs false
def impl_DiffOk.E (d : List Change) (Q : Bool → Prop) : Prop :=
 (∃ (I19 : Int → Prop) (mu20 : Int → Nat), I19 0 ∧ ∀ (v2 : Int), I19 v2 → (if decide (v2 < (d.length : Int)) then ((0 : Int) ≤ v2 ∧ v2 < (d.length : Int)) ∧ (∃ q : Bool, impl_WordOk.E ((nth d v2).Id) (fun x => x = q) ∧ (if !q then Q false else (if decide (v2 > 0) then (I64 (v2 - 1)) ∧ ((0 : Int) ≤ v2 - 1 ∧ v2 - 1 < (d.length : Int)) ∧ (if !(Op.bytesLess ((nth d (v2 - 1)).Id) ((nth d v2).Id)) then Q false else (∃ q2 : Bool, impl_sideOk.E ((nth d v2).Id) ((nth d v2).Had) ((nth d v2).Was) (fun x => x = q2) ∧ (if !q2 then Q false else (∃ q3 : Bool, impl_sideOk.E ((nth d v2).Id) ((nth d v2).Has) ((nth d v2).Now) (fun x => x = q3) ∧ (if !q3 then Q false else (∃ q4 : Bool, impl_Change_same.E (nth d v2) (fun x => x = q4) ∧ (if q4 then Q false else (I64 (v2 + 1)) ∧ I19 (v2 + 1) ∧ mu20 (v2 + 1) < mu20 v2))))))) else (∃ q5 : Bool, impl_sideOk.E ((nth d v2).Id) ((nth d v2).Had) ((nth d v2).Was) (fun x => x = q5) ∧ (if !q5 then Q false else (∃ q6 : Bool, impl_sideOk.E ((nth d v2).Id) ((nth d v2).Has) ((nth d v2).Now) (fun x => x = q6) ∧ (if !q6 then Q false else (∃ q7 : Bool, impl_Change_same.E (nth d v2) (fun x => x = q7) ∧ (if q7 then Q false else (I64 (v2 + 1)) ∧ I19 (v2 + 1) ∧ mu20 (v2 + 1) < mu20 v2))))))))) else Q (decide ((d.length : Int) ≤ 16))))
set_option maxHeartbeats 8000000 in
set_option maxRecDepth 100000 in
theorem impl_DiffOk.calls {O : Ob} (w0 : World) (hO : Ok w0 O) (d : List Change) (A1 : Option Addr) (n2 c3 : Nat) (hp4 : Sl kChange w0 (Fr O) (.slice A1 n2 c3) d) (Q : Bool → Prop) (h : impl_DiffOk.E d Q) :
  Ret Try.prog 64 [.slice A1 n2 c3] w0 (fun v w' => ∃ (r0 : Bool), v = vb r0 ∧ Q r0 ∧ Gr w0 w' none) := by
 have H : (∃ (I19 : Int → Prop) (mu20 : Int → Nat), I19 0 ∧ ∀ (v2 : Int), I19 v2 → (if decide (v2 < (d.length : Int)) then ((0 : Int) ≤ v2 ∧ v2 < (d.length : Int)) ∧ (∃ q : Bool, impl_WordOk.E ((nth d v2).Id) (fun x => x = q) ∧ (if !q then Q false else (if decide (v2 > 0) then (I64 (v2 - 1)) ∧ ((0 : Int) ≤ v2 - 1 ∧ v2 - 1 < (d.length : Int)) ∧ (if !(Op.bytesLess ((nth d (v2 - 1)).Id) ((nth d v2).Id)) then Q false else (∃ q2 : Bool, impl_sideOk.E ((nth d v2).Id) ((nth d v2).Had) ((nth d v2).Was) (fun x => x = q2) ∧ (if !q2 then Q false else (∃ q3 : Bool, impl_sideOk.E ((nth d v2).Id) ((nth d v2).Has) ((nth d v2).Now) (fun x => x = q3) ∧ (if !q3 then Q false else (∃ q4 : Bool, impl_Change_same.E (nth d v2) (fun x => x = q4) ∧ (if q4 then Q false else (I64 (v2 + 1)) ∧ I19 (v2 + 1) ∧ mu20 (v2 + 1) < mu20 v2))))))) else (∃ q5 : Bool, impl_sideOk.E ((nth d v2).Id) ((nth d v2).Had) ((nth d v2).Was) (fun x => x = q5) ∧ (if !q5 then Q false else (∃ q6 : Bool, impl_sideOk.E ((nth d v2).Id) ((nth d v2).Has) ((nth d v2).Now) (fun x => x = q6) ∧ (if !q6 then Q false else (∃ q7 : Bool, impl_Change_same.E (nth d v2) (fun x => x = q7) ∧ (if q7 then Q false else (I64 (v2 + 1)) ∧ I19 (v2 + 1) ∧ mu20 (v2 + 1) < mu20 v2))))))))) else Q (decide ((d.length : Int) ≤ 16)))) := h
 clear h
 have hc0 := Ct.init hO
 refine Ret_enter Try.func64 rfl 59 rfl [.tmp 2] rfl rfl ?_
 refine W_seq ?_
 refine W_reg ?_
 refine L_pu (P_assign (vb false) rfl) ?_
 refine L_nil ?_
 refine W_seq ?_
 refine W_seq ?_
 refine W_reg ?_
 refine L_pu (P_move (.slice A1 n2 c3) rfl) ?_
 have hl6 := hp4.le
 refine L_pu (P_len Try.underlying43 A1 n2 c3 hp4.len rfl) ?_
 refine L_pu (P_move (vi 0) rfl) ?_
 refine L_nil ?_
 refine W_block ?_
 obtain ⟨I19, mu20, hI21, H⟩ := H
 refine W_loop (α := Int) (fun (sv__ : Int) t w15 => match sv__ with | v2 => I19 v2 ∧ Has t [(0, .slice A1 n2 c3), (5, .slice A1 n2 c3), (6, vi (d.length : Int)), (7, vi v2)] ∧ Ct [] w0 w15 [] O ∧ Sl kChange w15 (Fr ([] ++ O)) (.slice A1 n2 c3) d) (fun (sv__ : Int) => match sv__ with | v2 => mu20 v2) 0 ⟨hI21, ⟨rfl, rfl, rfl, rfl, trivial⟩, hc0, hp4⟩ ?_
 rintro v2 _ w15 ⟨hI21, hh23, hc17, h18⟩
 obtain ⟨u24, rfl⟩ := Has.ins hh23
 have H := H v2 hI21
 refine W_seq ?_
 refine W_reg ?_
 refine L_pu (P_cmp v2 (d.length : Int) (decide (v2 < (d.length : Int))) rfl rfl rfl) ?_
 refine L_nil ?_
 refine W_seq ?_
 refine W_cond (decide (v2 < (d.length : Int))) rfl (fun hq25 => ?_) (fun hq25 => ?_)
 ·have H := ite_t H hq25
  refine W_skip ?_
  refine W_seq ?_
  refine W_block ?_
  refine W_seq ?_
  refine W_reg ?_
  refine L_pu (P_move (vi v2) rfl) ?_
  obtain ⟨hb26, H⟩ := H
  obtain ⟨ad27, cs28, hA29, hS32, hR30, hcl31⟩ := h18.get default (by decide) v2 hb26
  obtain ⟨A35, n36, c37, A40, n41, c42, A46, n47, c48, A51, n52, c53, rfl, hs33, hs34, h38, h43, hs45, h49, h54⟩ := kChange.op hR30
  refine L_pu (P_ia Try.underlying43 se43 A1 ad27 n2 c3 h18.len v2 rfl hA29 rfl hb26) ?_
  refine L_pu (P_lda ag103 sz103 cL (ad27.add (v2.toNat * 11)) [vs ((nth d v2).Id), vb ((nth d v2).Had), vs ((nth d v2).Was.Id), vi ((nth d v2).Was.Shape.Kind), .slice A35 n36 c37, .slice A40 n41 c42, vb ((nth d v2).Has), vs ((nth d v2).Now.Id), vi ((nth d v2).Now.Shape.Kind), .slice A46 n47 c48, .slice A51 n52 c53] rfl rfl hcl31) ?_
  refine L_alloc [vs [], vb false, vs [], .int .i64 0, .slice none 0 0, .slice none 0 0, vb false, vs [], .int .i64 0, .slice none 0 0, .slice none 0 0] ze103 fun w56 b57 hl59 hu60 g58 hx61 => ?_
  have hc63 := hc17.own g58 (some b57) (oglt hl59 hu60)
  refine L_pu (P_assign (vi v2) rfl) ?_
  refine L_stb b57 0 [vs ([] : Str), vb false, vs ([] : Str), vi 0, .slice none 0 0, .slice none 0 0, vb false, vs ([] : Str), vi 0, .slice none 0 0, .slice none 0 0] [vs ((nth d v2).Id), vb ((nth d v2).Had), vs ((nth d v2).Was.Id), vi ((nth d v2).Was.Shape.Kind), .slice A35 n36 c37, .slice A40 n41 c42, vb ((nth d v2).Has), vs ((nth d v2).Now.Id), vi ((nth d v2).Now.Shape.Kind), .slice A46 n47 c48, .slice A51 n52 c53] [vs ((nth d v2).Id), vb ((nth d v2).Had), vs ((nth d v2).Was.Id), vi ((nth d v2).Was.Shape.Kind), .slice A35 n36 c37, .slice A40 n41 c42, vb ((nth d v2).Has), vs ((nth d v2).Now.Id), vi ((nth d v2).Now.Shape.Kind), .slice A46 n47 c48, .slice A51 n52 c53] rfl hx61 rfl sz103 rfl rfl rfl fun w64 g65 hx66 => ?_
  have hc67 := hc63.wr 0 rfl g65
  refine L_nil ?_
  refine W_seq ?_
  refine W_draw (fun x => Gr w64 x none) (by kernel_rfl) (by kernel_rfl) (Gr.drew _) ?_
  refine Q_pu (P_fa fa103_0 ⟨b57, 0, none⟩ ⟨b57, 0, none⟩ rfl rfl) ?_
  refine Q_pu (P_ld ag9 cQ ⟨b57, 0, none⟩ (vs ((nth d v2).Id)) rfl (hx66.cell rfl)) ?_
  obtain ⟨q, hE73, H⟩ := H
  refine Q_call go53 [vs ((nth d v2).Id)] rfl (vb q) (fun w g => (impl_WordOk.calls w (hc67.k0 g).ok ((nth d v2).Id) hs33 _ hE73).mono ?_) ?_
  ·rintro _ w ⟨r, rfl, rfl, g2⟩
   exact ⟨rfl, Gr.t0 g g2⟩
  refine Q_pu (P_not q rfl) ?_
  refine Q_pu (P_move (vb (!q)) rfl) ?_
  rcases bool_or (!q) with hq75 | hq75
  ·have H := ite_t H hq75
   refine Q_pass (dj := 16) rfl rfl (.inl (by exact congrArg Value.bool hq75)) ?_
   refine Q_pass (dj := 16) rfl rfl (.inl (by exact congrArg Value.bool hq75)) ?_
   refine Q_pass (dj := 16) rfl rfl (.inl (by exact congrArg Value.bool hq75)) ?_
   refine Q_pass (dj := 19) rfl rfl (.inr rfl) ?_
   refine Q_pass (dj := 19) rfl rfl (.inr rfl) ?_
   refine Q_pass (dj := 19) rfl rfl (.inr rfl) ?_
   refine Q_pass (dj := 19) rfl rfl (.inr rfl) ?_
   refine Q_pass (dj := 19) rfl rfl (.inr rfl) ?_
   refine Q_pass (dj := 19) rfl rfl (.inr rfl) ?_
   refine Q_pass (dj := 19) rfl rfl (.inr rfl) ?_
   refine Q_pass (dj := 19) rfl rfl (.inr rfl) ?_
   refine Q_pass (dj := 19) rfl rfl (.inr rfl) ?_
   refine Q_pass (dj := 16) rfl rfl (.inl (by exact congrArg Value.bool hq75)) ?_
   refine Q_pu (P_pick true (vb true) (by exact congrArg Value.bool hq75) rfl) ?_
   refine Q_pu (P_move (vb true) rfl) ?_
   refine Q_pass (dj := 31) rfl rfl (.inl rfl) ?_
   refine Q_pass (dj := 31) rfl rfl (.inl rfl) ?_
   refine Q_pass (dj := 31) rfl rfl (.inl rfl) ?_
   refine Q_pass (dj := 31) rfl rfl (.inl rfl) ?_
   refine Q_pass (dj := 31) rfl rfl (.inl rfl) ?_
   refine Q_pass (dj := 31) rfl rfl (.inl rfl) ?_
   refine Q_pass (dj := 31) rfl rfl (.inl rfl) ?_
   refine Q_pass (dj := 31) rfl rfl (.inl rfl) ?_
   refine Q_pu (P_pick true (vb true) (by exact congrArg Value.bool rfl) rfl) ?_
   refine Q_pu (P_move (vb true) rfl) ?_
   refine Q_pass (dj := 41) rfl rfl (.inl rfl) ?_
   refine Q_pass (dj := 41) rfl rfl (.inl rfl) ?_
   refine Q_pass (dj := 41) rfl rfl (.inl rfl) ?_
   refine Q_pass (dj := 41) rfl rfl (.inl rfl) ?_
   refine Q_pass (dj := 41) rfl rfl (.inl rfl) ?_
   refine Q_pass (dj := 41) rfl rfl (.inl rfl) ?_
   refine Q_pass (dj := 41) rfl rfl (.inl rfl) ?_
   refine Q_pass (dj := 41) rfl rfl (.inl rfl) ?_
   refine Q_pu (P_pick true (vb true) (by exact congrArg Value.bool rfl) rfl) ?_
   refine Q_pu (P_move (vb true) rfl) ?_
   refine Q_pass (dj := 51) rfl rfl (.inl rfl) ?_
   refine Q_pass (dj := 51) rfl rfl (.inl rfl) ?_
   refine Q_pu (P_pick true (vb true) (by exact congrArg Value.bool rfl) rfl) ?_
   refine Q_nil fun w76 g77 => ?_
   have hc79 := hc67.k0 g77
   refine W_ct (b := true) rfl rfl ?_
   refine W_seq ?_
   refine W_reg ?_
   refine L_pu (P_assign (vb false) rfl) ?_
   refine L_nil ?_
   refine W_ret ?_
   have hc80 := hc79.drop 0 rfl
   exact ⟨[vb false], ⟨_, rfl, rfl⟩, false, rfl, H, hc80.gr.g0⟩
  ·have H := ite_f H hq75
   refine Q_run (dj := 16) rfl rfl (by exact congrArg Value.bool hq75) ?_
   refine Q_pu (P_move (vi v2) rfl) ?_
   refine Q_run (dj := 16) rfl rfl (by exact congrArg Value.bool hq75) ?_
   refine Q_pu (P_cmp v2 0 (decide (v2 > 0)) rfl rfl rfl) ?_
   refine Q_run (dj := 16) rfl rfl (by exact congrArg Value.bool hq75) ?_
   refine Q_pu (P_move (vb (decide (v2 > 0))) rfl) ?_
   rcases bool_or (decide (v2 > 0)) with hq81 | hq81
   ·have H := ite_t H hq81
    refine Q_run (dj := 19) rfl rfl (by exact congrArg Value.bool hq81) ?_
    refine Q_pu (P_move (.slice A1 n2 c3) rfl) ?_
    refine Q_run (dj := 19) rfl rfl (by exact congrArg Value.bool hq81) ?_
    refine Q_pu (P_move (vi v2) rfl) ?_
    refine Q_run (dj := 19) rfl rfl (by exact congrArg Value.bool hq81) ?_
    obtain ⟨hb82, H⟩ := H
    refine Q_pu (P_sub v2 1 rfl rfl hb82) ?_
    refine Q_run (dj := 19) rfl rfl (by exact congrArg Value.bool hq81) ?_
    obtain ⟨hb83, H⟩ := H
    have h90 := ((h18.st (.own _ _ g58 (oge hl59))).st (.wl (L := [some b57]) (O := O) (j := 0) rfl g65))
    obtain ⟨ad84, cs85, hA86, hS89, hR87, hcl88⟩ := h90.get default (by decide) (v2 - 1) hb83
    obtain ⟨A93, n94, c95, A98, n99, c100, A104, n105, c106, A109, n110, c111, rfl, hs91, hs92, h96, h101, hs103, h107, h112⟩ := kChange.op hR87
    refine Q_pu (P_ia Try.underlying43 se43 A1 ad84 n2 c3 h90.len (v2 - 1) rfl hA86 rfl hb83) ?_
    refine Q_run (dj := 19) rfl rfl (by exact congrArg Value.bool hq81) ?_
    refine Q_pu (P_fa fa103_0 (ad84.add ((v2 - 1).toNat * 11)) ((ad84.add ((v2 - 1).toNat * 11)).add 0) rfl rfl) ?_
    refine Q_run (dj := 19) rfl rfl (by exact congrArg Value.bool hq81) ?_
    refine Q_pu (P_ld ag9 cQ ((ad84.add ((v2 - 1).toNat * 11)).add 0) (vs ((nth d (v2 - 1)).Id)) rfl (hcl88 0 _ rfl)) ?_
    refine Q_run (dj := 19) rfl rfl (by exact congrArg Value.bool hq81) ?_
    refine Q_pu (P_fa fa103_0 ⟨b57, 0, none⟩ ⟨b57, 0, none⟩ rfl rfl) ?_
    refine Q_run (dj := 19) rfl rfl (by exact congrArg Value.bool hq81) ?_
    refine Q_pu (P_ld ag9 cQ ⟨b57, 0, none⟩ (vs ((nth d v2).Id)) rfl (hx66.cell rfl)) ?_
    refine Q_run (dj := 19) rfl rfl (by exact congrArg Value.bool hq81) ?_
    refine Q_pu (P_scmp ((nth d (v2 - 1)).Id) ((nth d v2).Id) (!(Op.bytesLess ((nth d (v2 - 1)).Id) ((nth d v2).Id))) rfl rfl rfl) ?_
    refine Q_run (dj := 16) rfl rfl (by exact congrArg Value.bool hq75) ?_
    refine Q_pu (P_pick true (vb (!(Op.bytesLess ((nth d (v2 - 1)).Id) ((nth d v2).Id)))) (by exact congrArg Value.bool hq81) rfl) ?_
    refine Q_pu (P_pick false (vb (!(Op.bytesLess ((nth d (v2 - 1)).Id) ((nth d v2).Id)))) (by exact congrArg Value.bool hq75) rfl) ?_
    refine Q_pu (P_move (vb (!(Op.bytesLess ((nth d (v2 - 1)).Id) ((nth d v2).Id)))) rfl) ?_
    rcases bool_or (!(Op.bytesLess ((nth d (v2 - 1)).Id) ((nth d v2).Id))) with hq114 | hq114
    ·have H := ite_t H hq114
     refine Q_pass (dj := 31) rfl rfl (.inl (by exact congrArg Value.bool hq114)) ?_
     refine Q_pass (dj := 31) rfl rfl (.inl (by exact congrArg Value.bool hq114)) ?_
     refine Q_pass (dj := 31) rfl rfl (.inl (by exact congrArg Value.bool hq114)) ?_
     refine Q_pass (dj := 31) rfl rfl (.inl (by exact congrArg Value.bool hq114)) ?_
     refine Q_pass (dj := 31) rfl rfl (.inl (by exact congrArg Value.bool hq114)) ?_
     refine Q_pass (dj := 31) rfl rfl (.inl (by exact congrArg Value.bool hq114)) ?_
     refine Q_pass (dj := 31) rfl rfl (.inl (by exact congrArg Value.bool hq114)) ?_
     refine Q_pass (dj := 31) rfl rfl (.inl (by exact congrArg Value.bool hq114)) ?_
     refine Q_pu (P_pick true (vb true) (by exact congrArg Value.bool hq114) rfl) ?_
     refine Q_pu (P_move (vb true) rfl) ?_
     refine Q_pass (dj := 41) rfl rfl (.inl rfl) ?_
     refine Q_pass (dj := 41) rfl rfl (.inl rfl) ?_
     refine Q_pass (dj := 41) rfl rfl (.inl rfl) ?_
     refine Q_pass (dj := 41) rfl rfl (.inl rfl) ?_
     refine Q_pass (dj := 41) rfl rfl (.inl rfl) ?_
     refine Q_pass (dj := 41) rfl rfl (.inl rfl) ?_
     refine Q_pass (dj := 41) rfl rfl (.inl rfl) ?_
     refine Q_pass (dj := 41) rfl rfl (.inl rfl) ?_
     refine Q_pu (P_pick true (vb true) (by exact congrArg Value.bool rfl) rfl) ?_
     refine Q_pu (P_move (vb true) rfl) ?_
     refine Q_pass (dj := 51) rfl rfl (.inl rfl) ?_
     refine Q_pass (dj := 51) rfl rfl (.inl rfl) ?_
     refine Q_pu (P_pick true (vb true) (by exact congrArg Value.bool rfl) rfl) ?_
     refine Q_nil fun w115 g116 => ?_
     have hc118 := hc67.k0 g116
     refine W_ct (b := true) rfl rfl ?_
     refine W_seq ?_
     refine W_reg ?_
     refine L_pu (P_assign (vb false) rfl) ?_
     refine L_nil ?_
     refine W_ret ?_
     have hc119 := hc118.drop 0 rfl
     exact ⟨[vb false], ⟨_, rfl, rfl⟩, false, rfl, H, hc119.gr.g0⟩
    ·have H := ite_f H hq114
     refine Q_run (dj := 31) rfl rfl (by exact congrArg Value.bool hq114) ?_
     refine Q_pu (P_fa fa103_0 ⟨b57, 0, none⟩ ⟨b57, 0, none⟩ rfl rfl) ?_
     refine Q_run (dj := 31) rfl rfl (by exact congrArg Value.bool hq114) ?_
     refine Q_pu (P_ld ag9 cQ ⟨b57, 0, none⟩ (vs ((nth d v2).Id)) rfl (hx66.cell rfl)) ?_
     refine Q_run (dj := 31) rfl rfl (by exact congrArg Value.bool hq114) ?_
     refine Q_pu (P_fa fa103_1 ⟨b57, 0, none⟩ ⟨b57, 1, none⟩ rfl rfl) ?_
     refine Q_run (dj := 31) rfl rfl (by exact congrArg Value.bool hq114) ?_
     refine Q_pu (P_ld ag4 cQ ⟨b57, 1, none⟩ (vb ((nth d v2).Had)) rfl (hx66.cell rfl)) ?_
     refine Q_run (dj := 31) rfl rfl (by exact congrArg Value.bool hq114) ?_
     refine Q_pu (P_fa fa103_2 ⟨b57, 0, none⟩ ⟨b57, 2, none⟩ rfl rfl) ?_
     refine Q_run (dj := 31) rfl rfl (by exact congrArg Value.bool hq114) ?_
     refine Q_pu (P_lda ag71 sz71 cQ ⟨b57, 2, none⟩ [vs ((nth d v2).Was.Id), vi ((nth d v2).Was.Shape.Kind), .slice A35 n36 c37, .slice A40 n41 c42] rfl rfl (hx66.cells (off := 2) rfl)) ?_
     refine Q_run (dj := 31) rfl rfl (by exact congrArg Value.bool hq114) ?_
     have h120 := ((h38.st (.own _ _ g58 (oge hl59))).st (.wl (L := [some b57]) (O := O) (j := 0) rfl g65))
     have h121 := ((h43.st (.own _ _ g58 (oge hl59))).st (.wl (L := [some b57]) (O := O) (j := 0) rfl g65))
     obtain ⟨q2, hE127, H⟩ := H
     refine Q_call go119 [vs ((nth d v2).Id), vb ((nth d v2).Had), .agg #[vs ((nth d v2).Was.Id), vi ((nth d v2).Was.Shape.Kind), .slice A35 n36 c37, .slice A40 n41 c42]] rfl (vb q2) (fun w g => (impl_sideOk.calls w (hc67.k0 g).ok ((nth d v2).Id) hs33 ((nth d v2).Had) ((nth d v2).Was) A35 n36 c37 A40 n41 c42 hs34 (h120.st (.new _ g)) (h121.st (.new _ g)) _ hE127).mono ?_) ?_
     ·rintro _ w ⟨r, rfl, rfl, g2⟩
      exact ⟨rfl, Gr.t0 g g2⟩
     refine Q_run (dj := 31) rfl rfl (by exact congrArg Value.bool hq114) ?_
     refine Q_pu (P_not q2 rfl) ?_
     refine Q_pu (P_pick false (vb (!q2)) (by exact congrArg Value.bool hq114) rfl) ?_
     refine Q_pu (P_move (vb (!q2)) rfl) ?_
     rcases bool_or (!q2) with hq129 | hq129
     ·have H := ite_t H hq129
      refine Q_pass (dj := 41) rfl rfl (.inl (by exact congrArg Value.bool hq129)) ?_
      refine Q_pass (dj := 41) rfl rfl (.inl (by exact congrArg Value.bool hq129)) ?_
      refine Q_pass (dj := 41) rfl rfl (.inl (by exact congrArg Value.bool hq129)) ?_
      refine Q_pass (dj := 41) rfl rfl (.inl (by exact congrArg Value.bool hq129)) ?_
      refine Q_pass (dj := 41) rfl rfl (.inl (by exact congrArg Value.bool hq129)) ?_
      refine Q_pass (dj := 41) rfl rfl (.inl (by exact congrArg Value.bool hq129)) ?_
      refine Q_pass (dj := 41) rfl rfl (.inl (by exact congrArg Value.bool hq129)) ?_
      refine Q_pass (dj := 41) rfl rfl (.inl (by exact congrArg Value.bool hq129)) ?_
      refine Q_pu (P_pick true (vb true) (by exact congrArg Value.bool hq129) rfl) ?_
      refine Q_pu (P_move (vb true) rfl) ?_
      refine Q_pass (dj := 51) rfl rfl (.inl rfl) ?_
      refine Q_pass (dj := 51) rfl rfl (.inl rfl) ?_
      refine Q_pu (P_pick true (vb true) (by exact congrArg Value.bool rfl) rfl) ?_
      refine Q_nil fun w130 g131 => ?_
      have hc133 := hc67.k0 g131
      refine W_ct (b := true) rfl rfl ?_
      refine W_seq ?_
      refine W_reg ?_
      refine L_pu (P_assign (vb false) rfl) ?_
      refine L_nil ?_
      refine W_ret ?_
      have hc134 := hc133.drop 0 rfl
      exact ⟨[vb false], ⟨_, rfl, rfl⟩, false, rfl, H, hc134.gr.g0⟩
     ·have H := ite_f H hq129
      refine Q_run (dj := 41) rfl rfl (by exact congrArg Value.bool hq129) ?_
      refine Q_pu (P_fa fa103_0 ⟨b57, 0, none⟩ ⟨b57, 0, none⟩ rfl rfl) ?_
      refine Q_run (dj := 41) rfl rfl (by exact congrArg Value.bool hq129) ?_
      refine Q_pu (P_ld ag9 cQ ⟨b57, 0, none⟩ (vs ((nth d v2).Id)) rfl (hx66.cell rfl)) ?_
      refine Q_run (dj := 41) rfl rfl (by exact congrArg Value.bool hq129) ?_
      refine Q_pu (P_fa fa103_3 ⟨b57, 0, none⟩ ⟨b57, 6, none⟩ rfl rfl) ?_
      refine Q_run (dj := 41) rfl rfl (by exact congrArg Value.bool hq129) ?_
      refine Q_pu (P_ld ag4 cQ ⟨b57, 6, none⟩ (vb ((nth d v2).Has)) rfl (hx66.cell rfl)) ?_
      refine Q_run (dj := 41) rfl rfl (by exact congrArg Value.bool hq129) ?_
      refine Q_pu (P_fa fa103_4 ⟨b57, 0, none⟩ ⟨b57, 7, none⟩ rfl rfl) ?_
      refine Q_run (dj := 41) rfl rfl (by exact congrArg Value.bool hq129) ?_
      refine Q_pu (P_lda ag71 sz71 cQ ⟨b57, 7, none⟩ [vs ((nth d v2).Now.Id), vi ((nth d v2).Now.Shape.Kind), .slice A46 n47 c48, .slice A51 n52 c53] rfl rfl (hx66.cells (off := 7) rfl)) ?_
      refine Q_run (dj := 41) rfl rfl (by exact congrArg Value.bool hq129) ?_
      have h135 := ((h49.st (.own _ _ g58 (oge hl59))).st (.wl (L := [some b57]) (O := O) (j := 0) rfl g65))
      have h136 := ((h54.st (.own _ _ g58 (oge hl59))).st (.wl (L := [some b57]) (O := O) (j := 0) rfl g65))
      obtain ⟨q3, hE142, H⟩ := H
      refine Q_call go119 [vs ((nth d v2).Id), vb ((nth d v2).Has), .agg #[vs ((nth d v2).Now.Id), vi ((nth d v2).Now.Shape.Kind), .slice A46 n47 c48, .slice A51 n52 c53]] rfl (vb q3) (fun w g => (impl_sideOk.calls w (hc67.k0 g).ok ((nth d v2).Id) hs33 ((nth d v2).Has) ((nth d v2).Now) A46 n47 c48 A51 n52 c53 hs45 (h135.st (.new _ g)) (h136.st (.new _ g)) _ hE142).mono ?_) ?_
      ·rintro _ w ⟨r, rfl, rfl, g2⟩
       exact ⟨rfl, Gr.t0 g g2⟩
      refine Q_run (dj := 41) rfl rfl (by exact congrArg Value.bool hq129) ?_
      refine Q_pu (P_not q3 rfl) ?_
      refine Q_pu (P_pick false (vb (!q3)) (by exact congrArg Value.bool hq129) rfl) ?_
      refine Q_pu (P_move (vb (!q3)) rfl) ?_
      rcases bool_or (!q3) with hq144 | hq144
      ·have H := ite_t H hq144
       refine Q_pass (dj := 51) rfl rfl (.inl (by exact congrArg Value.bool hq144)) ?_
       refine Q_pass (dj := 51) rfl rfl (.inl (by exact congrArg Value.bool hq144)) ?_
       refine Q_pu (P_pick true (vb true) (by exact congrArg Value.bool hq144) rfl) ?_
       refine Q_nil fun w145 g146 => ?_
       have hc148 := hc67.k0 g146
       refine W_ct (b := true) rfl rfl ?_
       refine W_seq ?_
       refine W_reg ?_
       refine L_pu (P_assign (vb false) rfl) ?_
       refine L_nil ?_
       refine W_ret ?_
       have hc149 := hc148.drop 0 rfl
       exact ⟨[vb false], ⟨_, rfl, rfl⟩, false, rfl, H, hc149.gr.g0⟩
      ·have H := ite_f H hq144
       refine Q_run (dj := 51) rfl rfl (by exact congrArg Value.bool hq144) ?_
       refine Q_pu (P_lda ag103 sz103 cQ ⟨b57, 0, none⟩ [vs ((nth d v2).Id), vb ((nth d v2).Had), vs ((nth d v2).Was.Id), vi ((nth d v2).Was.Shape.Kind), .slice A35 n36 c37, .slice A40 n41 c42, vb ((nth d v2).Has), vs ((nth d v2).Now.Id), vi ((nth d v2).Now.Shape.Kind), .slice A46 n47 c48, .slice A51 n52 c53] rfl rfl (hx66.cells (off := 0) rfl)) ?_
       refine Q_run (dj := 51) rfl rfl (by exact congrArg Value.bool hq144) ?_
       obtain ⟨q4, hE155, H⟩ := H
       refine Q_call go77 [.agg #[vs ((nth d v2).Id), vb ((nth d v2).Had), vs ((nth d v2).Was.Id), vi ((nth d v2).Was.Shape.Kind), .slice A35 n36 c37, .slice A40 n41 c42, vb ((nth d v2).Has), vs ((nth d v2).Now.Id), vi ((nth d v2).Now.Shape.Kind), .slice A46 n47 c48, .slice A51 n52 c53]] rfl (vb q4) (fun w g => (impl_Change_same.calls w (hc67.k0 g).ok (nth d v2) A35 n36 c37 A40 n41 c42 A46 n47 c48 A51 n52 c53 hs33 hs34 (h120.st (.new _ g)) (h121.st (.new _ g)) hs45 (h135.st (.new _ g)) (h136.st (.new _ g)) _ hE155).mono ?_) ?_
       ·rintro _ w ⟨r, rfl, rfl, g2⟩
        exact ⟨rfl, Gr.t0 g g2⟩
       refine Q_pu (P_pick false (vb q4) (by exact congrArg Value.bool hq144) rfl) ?_
       refine Q_nil fun w157 g158 => ?_
       have hc160 := hc67.k0 g158
       refine W_cond q4 rfl (fun hq161 => ?_) (fun hq161 => ?_)
       ·have H := ite_t H hq161
        refine W_seq ?_
        refine W_reg ?_
        refine L_pu (P_assign (vb false) rfl) ?_
        refine L_nil ?_
        refine W_ret ?_
        have hc162 := hc160.drop 0 rfl
        exact ⟨[vb false], ⟨_, rfl, rfl⟩, false, rfl, H, hc162.gr.g0⟩
       ·have H := ite_f H hq161
        refine W_skip ?_
        refine W_reg ?_
        obtain ⟨hb163, H⟩ := H
        refine L_pu (P_add v2 1 rfl rfl hb163) ?_
        refine L_pu (P_move (vi (v2 + 1)) rfl) ?_
        refine L_nil ?_
        have hc164 := hc160.drop 0 rfl
        obtain ⟨hI165, hm166⟩ := H
        have h167 := ((h90.st (.new _ g158)).st (.dr _ (L := [some b57]) (O := O) (j := 0) rfl))
        exact ⟨v2 + 1, hm166, hI165, ⟨rfl, rfl, rfl, rfl, trivial⟩, hc164, h167⟩
   ·have H := ite_f H hq81
    refine Q_pass (dj := 19) rfl rfl (.inl (by exact congrArg Value.bool hq81)) ?_
    refine Q_pass (dj := 19) rfl rfl (.inl (by exact congrArg Value.bool hq81)) ?_
    refine Q_pass (dj := 19) rfl rfl (.inl (by exact congrArg Value.bool hq81)) ?_
    refine Q_pass (dj := 19) rfl rfl (.inl (by exact congrArg Value.bool hq81)) ?_
    refine Q_pass (dj := 19) rfl rfl (.inl (by exact congrArg Value.bool hq81)) ?_
    refine Q_pass (dj := 19) rfl rfl (.inl (by exact congrArg Value.bool hq81)) ?_
    refine Q_pass (dj := 19) rfl rfl (.inl (by exact congrArg Value.bool hq81)) ?_
    refine Q_pass (dj := 19) rfl rfl (.inl (by exact congrArg Value.bool hq81)) ?_
    refine Q_pass (dj := 19) rfl rfl (.inl (by exact congrArg Value.bool hq81)) ?_
    refine Q_run (dj := 16) rfl rfl (by exact congrArg Value.bool hq75) ?_
    refine Q_pu (P_pick false (vb false) (by exact congrArg Value.bool hq81) rfl) ?_
    refine Q_pu (P_pick false (vb false) (by exact congrArg Value.bool hq75) rfl) ?_
    refine Q_pu (P_move (vb false) rfl) ?_
    refine Q_run (dj := 31) rfl rfl rfl ?_
    refine Q_pu (P_fa fa103_0 ⟨b57, 0, none⟩ ⟨b57, 0, none⟩ rfl rfl) ?_
    refine Q_run (dj := 31) rfl rfl rfl ?_
    refine Q_pu (P_ld ag9 cQ ⟨b57, 0, none⟩ (vs ((nth d v2).Id)) rfl (hx66.cell rfl)) ?_
    refine Q_run (dj := 31) rfl rfl rfl ?_
    refine Q_pu (P_fa fa103_1 ⟨b57, 0, none⟩ ⟨b57, 1, none⟩ rfl rfl) ?_
    refine Q_run (dj := 31) rfl rfl rfl ?_
    refine Q_pu (P_ld ag4 cQ ⟨b57, 1, none⟩ (vb ((nth d v2).Had)) rfl (hx66.cell rfl)) ?_
    refine Q_run (dj := 31) rfl rfl rfl ?_
    refine Q_pu (P_fa fa103_2 ⟨b57, 0, none⟩ ⟨b57, 2, none⟩ rfl rfl) ?_
    refine Q_run (dj := 31) rfl rfl rfl ?_
    refine Q_pu (P_lda ag71 sz71 cQ ⟨b57, 2, none⟩ [vs ((nth d v2).Was.Id), vi ((nth d v2).Was.Shape.Kind), .slice A35 n36 c37, .slice A40 n41 c42] rfl rfl (hx66.cells (off := 2) rfl)) ?_
    refine Q_run (dj := 31) rfl rfl rfl ?_
    have h168 := ((h38.st (.own _ _ g58 (oge hl59))).st (.wl (L := [some b57]) (O := O) (j := 0) rfl g65))
    have h169 := ((h43.st (.own _ _ g58 (oge hl59))).st (.wl (L := [some b57]) (O := O) (j := 0) rfl g65))
    obtain ⟨q5, hE175, H⟩ := H
    refine Q_call go119 [vs ((nth d v2).Id), vb ((nth d v2).Had), .agg #[vs ((nth d v2).Was.Id), vi ((nth d v2).Was.Shape.Kind), .slice A35 n36 c37, .slice A40 n41 c42]] rfl (vb q5) (fun w g => (impl_sideOk.calls w (hc67.k0 g).ok ((nth d v2).Id) hs33 ((nth d v2).Had) ((nth d v2).Was) A35 n36 c37 A40 n41 c42 hs34 (h168.st (.new _ g)) (h169.st (.new _ g)) _ hE175).mono ?_) ?_
    ·rintro _ w ⟨r, rfl, rfl, g2⟩
     exact ⟨rfl, Gr.t0 g g2⟩
    refine Q_run (dj := 31) rfl rfl rfl ?_
    refine Q_pu (P_not q5 rfl) ?_
    refine Q_pu (P_pick false (vb (!q5)) (by exact congrArg Value.bool rfl) rfl) ?_
    refine Q_pu (P_move (vb (!q5)) rfl) ?_
    rcases bool_or (!q5) with hq177 | hq177
    ·have H := ite_t H hq177
     refine Q_pass (dj := 41) rfl rfl (.inl (by exact congrArg Value.bool hq177)) ?_
     refine Q_pass (dj := 41) rfl rfl (.inl (by exact congrArg Value.bool hq177)) ?_
     refine Q_pass (dj := 41) rfl rfl (.inl (by exact congrArg Value.bool hq177)) ?_
     refine Q_pass (dj := 41) rfl rfl (.inl (by exact congrArg Value.bool hq177)) ?_
     refine Q_pass (dj := 41) rfl rfl (.inl (by exact congrArg Value.bool hq177)) ?_
     refine Q_pass (dj := 41) rfl rfl (.inl (by exact congrArg Value.bool hq177)) ?_
     refine Q_pass (dj := 41) rfl rfl (.inl (by exact congrArg Value.bool hq177)) ?_
     refine Q_pass (dj := 41) rfl rfl (.inl (by exact congrArg Value.bool hq177)) ?_
     refine Q_pu (P_pick true (vb true) (by exact congrArg Value.bool hq177) rfl) ?_
     refine Q_pu (P_move (vb true) rfl) ?_
     refine Q_pass (dj := 51) rfl rfl (.inl rfl) ?_
     refine Q_pass (dj := 51) rfl rfl (.inl rfl) ?_
     refine Q_pu (P_pick true (vb true) (by exact congrArg Value.bool rfl) rfl) ?_
     refine Q_nil fun w178 g179 => ?_
     have hc181 := hc67.k0 g179
     refine W_ct (b := true) rfl rfl ?_
     refine W_seq ?_
     refine W_reg ?_
     refine L_pu (P_assign (vb false) rfl) ?_
     refine L_nil ?_
     refine W_ret ?_
     have hc182 := hc181.drop 0 rfl
     exact ⟨[vb false], ⟨_, rfl, rfl⟩, false, rfl, H, hc182.gr.g0⟩
    ·have H := ite_f H hq177
     refine Q_run (dj := 41) rfl rfl (by exact congrArg Value.bool hq177) ?_
     refine Q_pu (P_fa fa103_0 ⟨b57, 0, none⟩ ⟨b57, 0, none⟩ rfl rfl) ?_
     refine Q_run (dj := 41) rfl rfl (by exact congrArg Value.bool hq177) ?_
     refine Q_pu (P_ld ag9 cQ ⟨b57, 0, none⟩ (vs ((nth d v2).Id)) rfl (hx66.cell rfl)) ?_
     refine Q_run (dj := 41) rfl rfl (by exact congrArg Value.bool hq177) ?_
     refine Q_pu (P_fa fa103_3 ⟨b57, 0, none⟩ ⟨b57, 6, none⟩ rfl rfl) ?_
     refine Q_run (dj := 41) rfl rfl (by exact congrArg Value.bool hq177) ?_
     refine Q_pu (P_ld ag4 cQ ⟨b57, 6, none⟩ (vb ((nth d v2).Has)) rfl (hx66.cell rfl)) ?_
     refine Q_run (dj := 41) rfl rfl (by exact congrArg Value.bool hq177) ?_
     refine Q_pu (P_fa fa103_4 ⟨b57, 0, none⟩ ⟨b57, 7, none⟩ rfl rfl) ?_
     refine Q_run (dj := 41) rfl rfl (by exact congrArg Value.bool hq177) ?_
     refine Q_pu (P_lda ag71 sz71 cQ ⟨b57, 7, none⟩ [vs ((nth d v2).Now.Id), vi ((nth d v2).Now.Shape.Kind), .slice A46 n47 c48, .slice A51 n52 c53] rfl rfl (hx66.cells (off := 7) rfl)) ?_
     refine Q_run (dj := 41) rfl rfl (by exact congrArg Value.bool hq177) ?_
     have h183 := ((h49.st (.own _ _ g58 (oge hl59))).st (.wl (L := [some b57]) (O := O) (j := 0) rfl g65))
     have h184 := ((h54.st (.own _ _ g58 (oge hl59))).st (.wl (L := [some b57]) (O := O) (j := 0) rfl g65))
     obtain ⟨q6, hE190, H⟩ := H
     refine Q_call go119 [vs ((nth d v2).Id), vb ((nth d v2).Has), .agg #[vs ((nth d v2).Now.Id), vi ((nth d v2).Now.Shape.Kind), .slice A46 n47 c48, .slice A51 n52 c53]] rfl (vb q6) (fun w g => (impl_sideOk.calls w (hc67.k0 g).ok ((nth d v2).Id) hs33 ((nth d v2).Has) ((nth d v2).Now) A46 n47 c48 A51 n52 c53 hs45 (h183.st (.new _ g)) (h184.st (.new _ g)) _ hE190).mono ?_) ?_
     ·rintro _ w ⟨r, rfl, rfl, g2⟩
      exact ⟨rfl, Gr.t0 g g2⟩
     refine Q_run (dj := 41) rfl rfl (by exact congrArg Value.bool hq177) ?_
     refine Q_pu (P_not q6 rfl) ?_
     refine Q_pu (P_pick false (vb (!q6)) (by exact congrArg Value.bool hq177) rfl) ?_
     refine Q_pu (P_move (vb (!q6)) rfl) ?_
     rcases bool_or (!q6) with hq192 | hq192
     ·have H := ite_t H hq192
      refine Q_pass (dj := 51) rfl rfl (.inl (by exact congrArg Value.bool hq192)) ?_
      refine Q_pass (dj := 51) rfl rfl (.inl (by exact congrArg Value.bool hq192)) ?_
      refine Q_pu (P_pick true (vb true) (by exact congrArg Value.bool hq192) rfl) ?_
      refine Q_nil fun w193 g194 => ?_
      have hc196 := hc67.k0 g194
      refine W_ct (b := true) rfl rfl ?_
      refine W_seq ?_
      refine W_reg ?_
      refine L_pu (P_assign (vb false) rfl) ?_
      refine L_nil ?_
      refine W_ret ?_
      have hc197 := hc196.drop 0 rfl
      exact ⟨[vb false], ⟨_, rfl, rfl⟩, false, rfl, H, hc197.gr.g0⟩
     ·have H := ite_f H hq192
      refine Q_run (dj := 51) rfl rfl (by exact congrArg Value.bool hq192) ?_
      refine Q_pu (P_lda ag103 sz103 cQ ⟨b57, 0, none⟩ [vs ((nth d v2).Id), vb ((nth d v2).Had), vs ((nth d v2).Was.Id), vi ((nth d v2).Was.Shape.Kind), .slice A35 n36 c37, .slice A40 n41 c42, vb ((nth d v2).Has), vs ((nth d v2).Now.Id), vi ((nth d v2).Now.Shape.Kind), .slice A46 n47 c48, .slice A51 n52 c53] rfl rfl (hx66.cells (off := 0) rfl)) ?_
      refine Q_run (dj := 51) rfl rfl (by exact congrArg Value.bool hq192) ?_
      obtain ⟨q7, hE203, H⟩ := H
      refine Q_call go77 [.agg #[vs ((nth d v2).Id), vb ((nth d v2).Had), vs ((nth d v2).Was.Id), vi ((nth d v2).Was.Shape.Kind), .slice A35 n36 c37, .slice A40 n41 c42, vb ((nth d v2).Has), vs ((nth d v2).Now.Id), vi ((nth d v2).Now.Shape.Kind), .slice A46 n47 c48, .slice A51 n52 c53]] rfl (vb q7) (fun w g => (impl_Change_same.calls w (hc67.k0 g).ok (nth d v2) A35 n36 c37 A40 n41 c42 A46 n47 c48 A51 n52 c53 hs33 hs34 (h168.st (.new _ g)) (h169.st (.new _ g)) hs45 (h183.st (.new _ g)) (h184.st (.new _ g)) _ hE203).mono ?_) ?_
      ·rintro _ w ⟨r, rfl, rfl, g2⟩
       exact ⟨rfl, Gr.t0 g g2⟩
      refine Q_pu (P_pick false (vb q7) (by exact congrArg Value.bool hq192) rfl) ?_
      refine Q_nil fun w205 g206 => ?_
      have hc208 := hc67.k0 g206
      refine W_cond q7 rfl (fun hq209 => ?_) (fun hq209 => ?_)
      ·have H := ite_t H hq209
       refine W_seq ?_
       refine W_reg ?_
       refine L_pu (P_assign (vb false) rfl) ?_
       refine L_nil ?_
       refine W_ret ?_
       have hc210 := hc208.drop 0 rfl
       exact ⟨[vb false], ⟨_, rfl, rfl⟩, false, rfl, H, hc210.gr.g0⟩
      ·have H := ite_f H hq209
       refine W_skip ?_
       refine W_reg ?_
       obtain ⟨hb211, H⟩ := H
       refine L_pu (P_add v2 1 rfl rfl hb211) ?_
       refine L_pu (P_move (vi (v2 + 1)) rfl) ?_
       refine L_nil ?_
       have hc212 := hc208.drop 0 rfl
       obtain ⟨hI213, hm214⟩ := H
       have h215 := ((((h18.st (.own _ _ g58 (oge hl59))).st (.wl (L := [some b57]) (O := O) (j := 0) rfl g65)).st (.new _ g206)).st (.dr _ (L := [some b57]) (O := O) (j := 0) rfl))
       exact ⟨v2 + 1, hm214, hI213, ⟨rfl, rfl, rfl, rfl, trivial⟩, hc212, h215⟩
 ·have H := ite_f H hq25
  refine W_exit (xin_hit ?_)
  refine W_seq ?_
  refine W_reg ?_
  refine L_pu (P_move (.slice A1 n2 c3) rfl) ?_
  have hl216 := h18.le
  refine L_pu (P_len Try.underlying43 A1 n2 c3 h18.len rfl) ?_
  refine L_pu (P_cmp (d.length : Int) 16 (decide ((d.length : Int) ≤ 16)) rfl rfl rfl) ?_
  refine L_pu (P_assign (vb (decide ((d.length : Int) ≤ 16))) rfl) ?_
  refine L_nil ?_
  refine W_ret ?_
  exact ⟨[vb (decide ((d.length : Int) ≤ 16))], ⟨_, rfl, rfl⟩, decide ((d.length : Int) ≤ 16), rfl, H, hc17.gr.g0⟩
end Go.Proofs.Ytndjggncgpjolaa

namespace Go.Proofs.Ytndjggncgpjolaa
set_option linter.unusedVariables false
set_option linter.unusedSimpArgs false
set_option linter.unusedSectionVars false
theorem impl_DiffOk.law (d : List Change) (Q : Bool → Prop) (hb : bulk d ≤ 1048576) (hq : Q (diffOk d)) : impl_DiffOk.E d Q := by
 unfold impl_DiffOk.E
 unfold diffOk at hq
 have hl := bulk_len d
 refine loop_all d.length (fun k => changeOk (nth d (k : Int)) && (decide (k = 0) || Op.bytesLess (nth d ((k : Int) - 1)).Id (nth d (k : Int)).Id)) (fun I mu k hk hp hn => ?_) (fun ha => ?_)
 ·have bad : (changeOk (nth d (k : Int)) && (decide (k = 0) || Op.bytesLess (nth d ((k : Int) - 1)).Id (nth d (k : Int)).Id)) = false → Q false := fun h => by
   rw [allN_false hk h, Bool.false_and] at hq; exact hq
  have m1 := bulk_mem (nth_mem d hk)
  have b1 : bulk (nth d (k : Int)) = bulk (nth d (k : Int)).Id + bulk (nth d (k : Int)).Had + bulk (nth d (k : Int)).Was + bulk (nth d (k : Int)).Has + bulk (nth d (k : Int)).Now := rfl
  have l1 := bulk_len (nth d (k : Int)).Id
  generalize hc : nth d (k : Int) = c at *
  refine ⟨by omega, _, impl_WordOk.law _ _ (by omega) rfl, ?_⟩
  have co : ∀ a b e g : Bool, wordOk c.Id = a → sideOk c.Id c.Had c.Was = b → sideOk c.Id c.Has c.Now = e → sameC c = g → changeOk c = (a && b && e && !g) := fun a b e g h1 h2 h3 h4 => by unfold changeOk; rw [h1, h2, h3, h4]
  have rest : wordOk c.Id = true → (decide (k = 0) || Op.bytesLess (nth d ((k : Int) - 1)).Id c.Id) = true →
    (∃ q : Bool, impl_sideOk.E c.Id c.Had c.Was (fun x => x = q) ∧ (if !q then Q false else (∃ q2 : Bool, impl_sideOk.E c.Id c.Has c.Now (fun x => x = q2) ∧ (if !q2 then Q false else (∃ q3 : Bool, impl_Change_same.E c (fun x => x = q3) ∧ (if q3 then Q false else (I64 ((k : Int) + 1)) ∧ I ((k : Int) + 1) ∧ mu ((k : Int) + 1) < mu (k : Int))))))) := fun h1 ho => by
   refine ⟨_, impl_sideOk.law _ _ _ _ (by omega) rfl, ?_⟩
   cases h2 : sideOk c.Id c.Had c.Was with
   | false => rw [if_pos (by decide)]; exact bad (by rw [co _ _ _ _ h1 h2 rfl rfl]; rfl)
   | true =>
    rw [if_neg (by decide)]
    refine ⟨_, impl_sideOk.law _ _ _ _ (by omega) rfl, ?_⟩
    cases h3 : sideOk c.Id c.Has c.Now with
    | false => rw [if_pos (by decide)]; exact bad (by rw [co _ _ _ _ h1 h2 h3 rfl]; rfl)
    | true =>
     rw [if_neg (by decide)]
     refine ⟨_, impl_Change_same.law _ _ (by omega) rfl, ?_⟩
     cases h4 : sameC c with
     | true => rw [if_pos rfl]; exact bad (by rw [co _ _ _ _ h1 h2 h3 h4]; rfl)
     | false =>
      rw [if_neg (by decide)]
      obtain ⟨i1, i2⟩ := hn (by rw [co _ _ _ _ h1 h2 h3 h4, ho]; rfl)
      exact ⟨by unfold I64; omega, i1, i2⟩
  cases h1 : wordOk c.Id with
  | false => rw [if_pos (by decide)]; exact bad (by rw [co _ _ _ _ h1 rfl rfl rfl]; rfl)
  | true =>
   rw [if_neg (by decide)]
   by_cases hk0 : k = 0
   ·rw [if_neg (by rw [decide_eq_true_eq]; omega)]
    exact rest h1 (by rw [decide_eq_true hk0]; rfl)
   ·rw [if_pos (by rw [decide_eq_true_eq]; omega)]
    refine ⟨by unfold I64; omega, by omega, ?_⟩
    cases h3 : Op.bytesLess (nth d ((k : Int) - 1)).Id c.Id with
    | false => rw [if_pos (by decide)]; exact bad (by rw [h3, decide_eq_false hk0]; simp)
    | true => rw [if_neg (by decide)]; exact rest h1 (by rw [h3, Bool.or_true])
 ·rw [allN_true ha, Bool.true_and] at hq
  have e2 : decide ((d.length : Int) ≤ 16) = decide (d.length ≤ 16) := decide_eq_decide.2 (by omega)
  rw [e2]; exact hq
end Go.Proofs.Ytndjggncgpjolaa

namespace Go.Proofs.Ytndjggncgpjolaa
open Go.RowKit
set_option linter.unusedSimpArgs false
set_option linter.unusedVariables false
section
variable {P : Program} {n : Nat} {N R : Ps} {X : Nat → Ps} {t : Tm} {w : World} {ops : Array Oper} {rest : List Oper} {ty : TypeId} {pos : String} {aft : Array Edge} {x y : Operand} {d : Nat} {C : World → Prop}
theorem P_capn {T e : TypeId} (hu : P.underlying T = some (.slice e)) (hx : evt n t x = .slice none 0 0) : Pu P n t C ⟨some d, .call ⟨.builtin .cap, #[x], #[T]⟩, ty, pos, aft, none⟩ (vi 0) := fun w hw => by
  simp [execOp, resolve, hx, invoke, builtin, Builtin.cap_, run_underlying hu]; rfl
theorem P_cutn {T e : TypeId} {s : Nat} (hu : P.underlying T = some (.slice e)) (hs : SizeOf P e s) {lo hi : Option Operand} (hx : evt n t x = .slice none 0 0) (hlo : bound n t lo 0 0) (hhi : bound n t hi ((0 : Nat) : Int) 0) :
    Pu P n t C ⟨some d, .slice T x lo hi none, ty, pos, aft, none⟩ (.slice none 0 0) := by
  have h := P_cut (C := C) (d := d) (ty := ty) (pos := pos) (aft := aft) hu hs none 0 0 hx 0 0 hlo hhi ⟨Int.le_refl _, Int.le_refl _, Int.le_refl _⟩
  rw [show (0 : Int).toNat = 0 from rfl, sliced0] at h
  exact h
theorem run_append_zeros (T U e : TypeId) (i : TypeInfo) (z : Value) (k : IntKind) (ht : P.underlying T = some (.slice e)) (hu : P.underlying U = some (.int k)) (hi : P.info? e = some i) (hz : i.zero = some z) (m : Nat) (h0 : 0 < m) (hm : (m : Int) ≤ 268435456) (hb : i.bytes ≤ 524288) (hsz : 0 < i.size) :
    (Builtin.append_ #[T, U] ty #[.slice none 0 0, vi (m : Int)]).run P w = .ok (.slice (some ⟨w.heap.size, 0, none⟩) m (grownCap w m 0 e)) (w.drew.alloc (.cells (Builtin.zeroCells z.cells m ++ Builtin.zeroCells z.cells (grownCap w m 0 e - m)) e)) := by
  have hw : I64 (m : Int) := by unfold I64; omega
  have hn : m ≠ 0 := by omega
  have h1 : ¬ ((m : Int) < 0) := by omega
  have hmul : m * i.bytes ≤ 140737488355328 := Nat.le_trans (Nat.mul_le_mul (show m ≤ 268435456 by omega) hb) (by omega)
  have h2 : ¬ ((281474976710656 : Int) < (m : Int) * (i.bytes : Int)) := by
    have : ((m * i.bytes : Nat) : Int) ≤ 140737488355328 := by omega
    rw [Int.natCast_mul] at this; omega
  have h63' : ¬ (9223372036854775807 < (m : Int)) := by omega
  have h48' : ¬ (281474976710656 < Builtin.nextslicecap m 0 * i.bytes) := by rw [nextslicecap_zero h0]; omega
  have hms : ¬ (m * i.size = 0) := by have := Nat.mul_pos h0 hsz; omega
  have hms2 : ¬ i.size = 0 := by omega
  simp [Builtin.append_, run_underlying ht, run_underlying hu, sizeOf, typeInfo, zeroValue, hi, hz, hn, h1, h2, h63', h48', hms2, Question.forced, run_firstCells_none, newRow, grownCap, hw.wrap, asInt, asIntOf]
  intro h; exact absurd h hms
theorem zero_list (zc : List Value) (hpos : 0 < zc.length) (m : Nat) : (Builtin.zeroCells zc.toArray m).toList = (List.replicate m zc).flatten := by
  have := made_list zc hpos m
  rw [← this]
  simp only [Builtin.zeroCells, madeCells, List.size_toArray]
theorem L_appz {T U e : TypeId} {k0 : IntKind} {bytes : Nat} {zc : List Value} {α : Type} {kd : Kd α} (E : EI P T e kd.sz bytes zc) (hU : P.underlying U = some (.int k0)) {O M : Ob} {w0 : World} {mr : Ob} (hC : Ct mr w0 w M O) (z : α) (hz : kd.R w (Fr (M ++ O)) z zc) (m : Int) (hx : evt n t x = .slice none 0 0) (hy : evt n t y = vi m) (hm : 0 < m ∧ m ≤ 268435456)
    (k : ∀ w' A l c, Gr w w' none → (∀ b, blk (.slice A l c) = some b → w.heap.size ≤ b) → Ct mr w0 w' (blk (.slice A l c) :: M) O →
      Ow kd e w' (blk (.slice A l c) :: M ++ O) (.slice A l c) (List.replicate m.toNat z) → L P n ops N R X rest (upd d (.slice A l c) t) w') :
    L P n ops N R X (⟨some d, .call ⟨.builtin .append, #[x, y], #[T, U]⟩, ty, pos, aft, none⟩ :: rest) t w := by
  obtain ⟨ti, zv, hti, hzv, hsz, hb, hzc⟩ := E.inf
  have hbb := E.byt
  have hmn : ((m.toNat : Nat) : Int) = m := by omega
  have hr := run_append_zeros (P := P) (w := w) (ty := ty) T U e ti zv k0 E.un hU hti hzv m.toNat (by omega) (by omega) (by omega) (by rw [hsz]; exact E.pos)
  rw [hmn] at hr
  have hzl : zv.cells = zc.toArray := by rw [← hzc]
  have hpos : 0 < zc.length := by rw [E.len]; exact E.pos
  have harr := Arr.rep (w := w) z zc hz m.toNat
  have hal := harr.len
  rw [List.length_replicate] at hal
  have g : Gr w (w.drew.alloc (.cells (Builtin.zeroCells zv.cells m.toNat ++ Builtin.zeroCells zv.cells (grownCap w m.toNat 0 e - m.toNat)) e)) none := (Gr.drew w).t0 (Gr.alloc _ _)
  have hge := grownCap_ge w m.toNat 0 e
  have hle := grownCap_le_maxLen w m.toNat 0 e (by unfold maxLen; omega)
  have e1 : (Builtin.zeroCells zv.cells m.toNat).toList = (List.replicate m.toNat zc).flatten := by rw [hzl]; exact zero_list zc hpos _
  have e2 : (Builtin.zeroCells zv.cells (grownCap w m.toNat 0 e - m.toNat)).size = (grownCap w m.toNat 0 e - m.toNat) * kd.sz := by simp only [Builtin.zeroCells, Array.size_map, Array.size_range]; rw [hzl, List.size_toArray, E.len]
  have e3 : (Builtin.zeroCells zv.cells m.toNat).size = m.toNat * kd.sz := by simp only [Builtin.zeroCells, Array.size_map, Array.size_range]; rw [hzl, List.size_toArray, E.len]
  refine L_op rfl (.slice (some ⟨w.heap.size, 0, none⟩) (List.replicate m.toNat z).length (grownCap w m.toNat 0 e)) _ (by rw [List.length_replicate]; simp [execOp, resolve, hx, hy, invoke, builtin, hr]) (k _ (some ⟨w.heap.size, 0, none⟩) _ _ g (fun b e => by cases e; exact Nat.le_refl _)
    (hC.own g _ fun b e => by cases e; simp) ⟨(List.replicate m.toNat zc).flatten, ?_, ?_, fun b e => by rw [e]; exact List.mem_cons_self⟩)
  · rw [List.length_replicate]
    refine ⟨by rw [hal], .inr ⟨w.heap.size, grownCap w m.toNat 0 e, _, rfl, Nat.zero_le _, heap_alloc_new w.drew _, hge, hle, ?_, ?_⟩⟩
    · rw [Array.size_append, e2, e3, ← Nat.add_mul]; congr 1; omega
    · rw [Array.toList_append, e1, List.take_left']
      rw [hal]
  · exact (harr.mono fun b hS hb => (⟨hS, hb⟩ : some b ∉ M ++ O ∧ b < w.heap.size)).keep (fun b hS hb => g.block b hb (by simp)) |>.mono fun b hS _ hm => by
      rcases List.mem_cons.1 hm with e' | hm
      · cases e'; exact absurd hS.2 (Nat.lt_irrefl _)
      · exact hS.1 hm
end
end Go.Proofs.Ytndjggncgpjolaa

namespace Go.Proofs.Ytndjggncgpjolaa
open Go.RowKit
set_option linter.unusedVariables false
set_option linter.unusedSimpArgs false
def slices_Grow_Change.E (n : Int) (Q : List Change → Prop) : Prop :=
 (if decide (n < 0) then False else (I64 (0 - 0)) ∧ (I64 (n - (0 - 0))) ∧ (if decide (n - (0 - 0) > 0) then ((0 : Int) < n - (0 - 0) ∧ n - (0 - 0) ≤ (268435456 : Int)) ∧ ((0 : Int) ≤ 0 ∧ 0 ≤ ((List.replicate (n - (0 - 0)).toNat ((⟨([] : Str), false, (⟨([] : Str), (⟨0, []⟩ : Shape), []⟩ : Feat), false, (⟨([] : Str), (⟨0, []⟩ : Shape), []⟩ : Feat)⟩ : Change) : Change)).length : Int)) ∧ Q ((List.replicate (n - (0 - 0)).toNat ((⟨([] : Str), false, (⟨([] : Str), (⟨0, []⟩ : Shape), []⟩ : Feat), false, (⟨([] : Str), (⟨0, []⟩ : Shape), []⟩ : Feat)⟩ : Change) : Change)).take (0 : Int).toNat) else Q ([] : List Change)))
set_option maxHeartbeats 8000000 in
set_option maxRecDepth 100000 in
theorem slices_Grow_Change.calls {O : Ob} (w0 : World) (hO : Ok w0 O) (n : Int) (Q : List Change → Prop) (h : slices_Grow_Change.E n Q) :
  Ret Try.prog 126 [.slice none 0 0, vi n] w0 (fun v w' => ∃ (r0 : List Change) (A0 : Option Addr) (n0 c0 : Nat), v = .slice A0 n0 c0 ∧ Q r0 ∧ Gr w0 w' none ∧ Ok w' ([blk (.slice A0 n0 c0)] ++ O) ∧ (∀ b, some b ∈ [blk (.slice A0 n0 c0)] → w0.heap.size ≤ b) ∧ Ow kChange 103 w' ([blk (.slice A0 n0 c0)] ++ O) (.slice A0 n0 c0) r0) := by
 have H : (if decide (n < 0) then False else (I64 (0 - 0)) ∧ (I64 (n - (0 - 0))) ∧ (if decide (n - (0 - 0) > 0) then ((0 : Int) < n - (0 - 0) ∧ n - (0 - 0) ≤ (268435456 : Int)) ∧ ((0 : Int) ≤ 0 ∧ 0 ≤ ((List.replicate (n - (0 - 0)).toNat ((⟨([] : Str), false, (⟨([] : Str), (⟨0, []⟩ : Shape), []⟩ : Feat), false, (⟨([] : Str), (⟨0, []⟩ : Shape), []⟩ : Feat)⟩ : Change) : Change)).length : Int)) ∧ Q ((List.replicate (n - (0 - 0)).toNat ((⟨([] : Str), false, (⟨([] : Str), (⟨0, []⟩ : Shape), []⟩ : Feat), false, (⟨([] : Str), (⟨0, []⟩ : Shape), []⟩ : Feat)⟩ : Change) : Change)).take (0 : Int).toNat) else Q ([] : List Change))) := h
 clear h
 have hc0 := Ct.init hO
 refine Ret_enter Try.func126 rfl 27 rfl [.tmp 4] rfl rfl ?_
 refine W_seq ?_
 refine W_reg ?_
 refine L_pu (P_assign (.slice none 0 0) rfl) ?_
 refine L_nil ?_
 refine W_seq ?_
 refine W_seq ?_
 refine W_reg ?_
 refine L_pu (P_move (vi n) rfl) ?_
 refine L_pu (P_cmp n 0 (decide (n < 0)) rfl rfl rfl) ?_
 refine L_nil ?_
 refine W_cond (decide (n < 0)) rfl (fun hq1 => ?_) (fun hq1 => ?_)
 ·have H := ite_t H hq1
  exact False.elim H
 ·have H := ite_f H hq1
  refine W_skip ?_
  refine W_seq ?_
  refine W_seq ?_
  refine W_reg ?_
  refine L_pu (P_move (vi n) rfl) ?_
  refine L_pu (P_move (.slice none 0 0) rfl) ?_
  refine L_pu (P_capn Try.underlying43 rfl) ?_
  refine L_pu (P_move (.slice none 0 0) rfl) ?_
  refine L_pu (P_len Try.underlying43 none 0 0 rfl rfl) ?_
  obtain ⟨hb2, H⟩ := H
  refine L_pu (P_sub 0 0 rfl rfl hb2) ?_
  obtain ⟨hb3, H⟩ := H
  refine L_pu (P_sub n (0 - 0) rfl rfl hb3) ?_
  refine L_pu (P_assign (vi (n - (0 - 0))) rfl) ?_
  refine L_nil ?_
  refine W_seq ?_
  refine W_reg ?_
  refine L_pu (P_move (vi (n - (0 - 0))) rfl) ?_
  refine L_pu (P_cmp (n - (0 - 0)) 0 (decide (n - (0 - 0) > 0)) rfl rfl rfl) ?_
  refine L_nil ?_
  refine W_cond (decide (n - (0 - 0) > 0)) rfl (fun hq4 => ?_) (fun hq4 => ?_)
  ·have H := ite_t H hq4
   refine W_reg ?_
   refine L_pu (P_move (.slice none 0 0) rfl) ?_
   refine L_pu (P_move (.slice none 0 0) rfl) ?_
   refine L_pu (P_capn Try.underlying43 rfl) ?_
   refine L_pu (P_cutn Try.underlying43 se43 rfl rfl rfl) ?_
   refine L_pu (P_move (vi (n - (0 - 0))) rfl) ?_
   obtain ⟨hb5, H⟩ := H
   refine L_appz (kd := kChange) ei43 Try.underlying3 hc0 ((⟨([] : Str), false, (⟨([] : Str), (⟨0, []⟩ : Shape), []⟩ : Feat), false, (⟨([] : Str), (⟨0, []⟩ : Shape), []⟩ : Feat)⟩ : Change) : Change) ((kChange.mk _ _ (⟨([] : Str), false, (⟨([] : Str), (⟨0, []⟩ : Shape), []⟩ : Feat), false, (⟨([] : Str), (⟨0, []⟩ : Shape), []⟩ : Feat)⟩ : Change) (by decide) (by decide) (Sl.nil _ _ _ none 0 (by decide)) (Sl.nil _ _ _ none 0 (by decide)) (by decide) (Sl.nil _ _ _ none 0 (by decide)) (Sl.nil _ _ _ none 0 (by decide)))) (n - (0 - 0)) rfl rfl hb5 fun w6 A7 n8 c9 g10 hr11 hc12 h13 => ?_
   refine L_pu (P_move (.slice none 0 0) rfl) ?_
   refine L_pu (P_len Try.underlying43 none 0 0 rfl rfl) ?_
   obtain ⟨hb15, H⟩ := H
   refine L_cuto Try.underlying43 se43 A7 n8 c9 (List.replicate (n - (0 - 0)).toNat ((⟨([] : Str), false, (⟨([] : Str), (⟨0, []⟩ : Shape), []⟩ : Feat), false, (⟨([] : Str), (⟨0, []⟩ : Shape), []⟩ : Feat)⟩ : Change) : Change)) rfl h13 0 rfl rfl hb15 fun n16 h17 => ?_
   refine L_pu (P_assign (.slice A7 n16 c9) rfl) ?_
   refine L_nil ?_
   refine W_seq ?_
   refine W_reg ?_
   refine L_pu (P_move (.slice A7 n16 c9) rfl) ?_
   refine L_pu (P_assign (.slice A7 n16 c9) rfl) ?_
   refine L_nil ?_
   refine W_ret ?_
   exact ⟨[.slice A7 n16 c9], ⟨_, rfl, rfl⟩, ((List.replicate (n - (0 - 0)).toNat ((⟨([] : Str), false, (⟨([] : Str), (⟨0, []⟩ : Shape), []⟩ : Feat), false, (⟨([] : Str), (⟨0, []⟩ : Shape), []⟩ : Feat)⟩ : Change) : Change)).take (0 : Int).toNat), A7, n16, c9, rfl, H, hc12.gr.g0, hc12.ok, hc12.ge, h17⟩
  ·have H := ite_f H hq4
   refine W_skip ?_
   refine W_seq ?_
   refine W_reg ?_
   refine L_pu (P_move (.slice none 0 0) rfl) ?_
   refine L_pu (P_assign (.slice none 0 0) rfl) ?_
   refine L_nil ?_
   refine W_ret ?_
   have hc20 := hc0.own (Gr.refl _ none) none (by simp)
   have h21 : Ow kChange 103 w0 ([blk (.slice none 0 0)] ++ O) (.slice none 0 0) [] := Ow.nil _ _ _ _
   exact ⟨[.slice none 0 0], ⟨_, rfl, rfl⟩, ([] : List Change), none, 0, 0, rfl, H, hc20.gr.g0, hc20.ok, hc20.ge, h21⟩
end Go.Proofs.Ytndjggncgpjolaa

namespace Go.Proofs.Ytndjggncgpjolaa
open Go.RowKit
set_option linter.unusedVariables false
set_option linter.unusedSimpArgs false
def slices_Concat_Change.E (slices : List (List Change)) (Q : List Change → Prop) : Prop :=
 (∃ (I19 : Int → Int → Prop) (mu20 : Int → Int → Nat), I19 0 0 ∧ ∀ (size2 : Int) (v2 : Int), I19 size2 v2 → (if decide (v2 < (slices.length : Int)) then ((0 : Int) ≤ v2 ∧ v2 < (slices.length : Int)) ∧ (((nth slices v2).length : Int) ≤ 9223372036854775807 → I64 (size2 + ((nth slices v2).length : Int))) ∧ (if decide (size2 + ((nth slices v2).length : Int) < 0) then False else (((nth slices v2).length : Int) ≤ 9223372036854775807 → I64 (v2 + 1)) ∧ I19 (size2 + ((nth slices v2).length : Int)) (v2 + 1) ∧ mu20 (size2 + ((nth slices v2).length : Int)) (v2 + 1) < mu20 size2 v2) else slices_Grow_Change.E size2 (fun r => (∃ (I82 : (List Change) → Int → Prop) (mu83 : (List Change) → Int → Nat), I82 r 0 ∧ ∀ (xs2 : List Change) (v4 : Int), I82 xs2 v4 → (if decide (v4 < (slices.length : Int)) then ((0 : Int) ≤ v4 ∧ v4 < (slices.length : Int)) ∧ (xs2.length + (nth slices v4).length ≤ 268435456) ∧ (I64 (v4 + 1)) ∧ I82 (xs2 ++ (nth slices v4)) (v4 + 1) ∧ mu83 (xs2 ++ (nth slices v4)) (v4 + 1) < mu83 xs2 v4 else Q xs2)))))
set_option maxHeartbeats 8000000 in
set_option maxRecDepth 100000 in
theorem slices_Concat_Change.calls {O : Ob} (w0 : World) (hO : Ok w0 O) (slices : List (List Change)) (A1 : Option Addr) (n2 c3 : Nat) (hp4 : Sl (Kd.sl kChange) w0 (Fr O) (.slice A1 n2 c3) slices) (Q : List Change → Prop) (h : slices_Concat_Change.E slices Q) :
  Ret Try.prog 82 [.slice A1 n2 c3] w0 (fun v w' => ∃ (r0 : List Change) (A0 : Option Addr) (n0 c0 : Nat), v = .slice A0 n0 c0 ∧ Q r0 ∧ Gr w0 w' none ∧ Ok w' ([blk (.slice A0 n0 c0)] ++ O) ∧ (∀ b, some b ∈ [blk (.slice A0 n0 c0)] → w0.heap.size ≤ b) ∧ Ow kChange 103 w' ([blk (.slice A0 n0 c0)] ++ O) (.slice A0 n0 c0) r0) := by
 have H : (∃ (I19 : Int → Int → Prop) (mu20 : Int → Int → Nat), I19 0 0 ∧ ∀ (size2 : Int) (v2 : Int), I19 size2 v2 → (if decide (v2 < (slices.length : Int)) then ((0 : Int) ≤ v2 ∧ v2 < (slices.length : Int)) ∧ (((nth slices v2).length : Int) ≤ 9223372036854775807 → I64 (size2 + ((nth slices v2).length : Int))) ∧ (if decide (size2 + ((nth slices v2).length : Int) < 0) then False else (((nth slices v2).length : Int) ≤ 9223372036854775807 → I64 (v2 + 1)) ∧ I19 (size2 + ((nth slices v2).length : Int)) (v2 + 1) ∧ mu20 (size2 + ((nth slices v2).length : Int)) (v2 + 1) < mu20 size2 v2) else slices_Grow_Change.E size2 (fun r => (∃ (I82 : (List Change) → Int → Prop) (mu83 : (List Change) → Int → Nat), I82 r 0 ∧ ∀ (xs2 : List Change) (v4 : Int), I82 xs2 v4 → (if decide (v4 < (slices.length : Int)) then ((0 : Int) ≤ v4 ∧ v4 < (slices.length : Int)) ∧ (xs2.length + (nth slices v4).length ≤ 268435456) ∧ (I64 (v4 + 1)) ∧ I82 (xs2 ++ (nth slices v4)) (v4 + 1) ∧ mu83 (xs2 ++ (nth slices v4)) (v4 + 1) < mu83 xs2 v4 else Q xs2))))) := h
 clear h
 have hc0 := Ct.init hO
 refine Ret_enter Try.func82 rfl 36 rfl [.tmp 2] rfl rfl ?_
 refine W_seq ?_
 refine W_reg ?_
 refine L_pu (P_assign (.slice none 0 0) rfl) ?_
 refine L_nil ?_
 refine W_seq ?_
 refine W_reg ?_
 refine L_pu (P_assign (vi 0) rfl) ?_
 refine L_nil ?_
 refine W_seq ?_
 refine W_seq ?_
 refine W_reg ?_
 refine L_pu (P_move (.slice A1 n2 c3) rfl) ?_
 have hl6 := hp4.le
 refine L_pu (P_len Try.underlying158 A1 n2 c3 hp4.len rfl) ?_
 refine L_pu (P_move (vi 0) rfl) ?_
 refine L_nil ?_
 refine W_block ?_
 obtain ⟨I19, mu20, hI21, H⟩ := H
 refine W_loop (α := Int × Int) (fun (sv__ : Int × Int) t w15 => match sv__ with | (size2, v2) => I19 size2 v2 ∧ Has t [(0, .slice A1 n2 c3), (3, vi size2), (9, .slice A1 n2 c3), (10, vi (slices.length : Int)), (11, vi v2)] ∧ Ct [] w0 w15 [] O ∧ Sl (Kd.sl kChange) w15 (Fr ([] ++ O)) (.slice A1 n2 c3) slices) (fun (sv__ : Int × Int) => match sv__ with | (size2, v2) => mu20 size2 v2) (0, 0) ⟨hI21, ⟨rfl, rfl, rfl, rfl, rfl, trivial⟩, hc0, hp4⟩ ?_
 rintro ⟨size2, v2⟩ _ w15 ⟨hI21, hh23, hc17, h18⟩
 obtain ⟨u24, rfl⟩ := Has.ins hh23
 have H := H size2 v2 hI21
 refine W_seq ?_
 refine W_reg ?_
 refine L_pu (P_cmp v2 (slices.length : Int) (decide (v2 < (slices.length : Int))) rfl rfl rfl) ?_
 refine L_nil ?_
 refine W_seq ?_
 refine W_cond (decide (v2 < (slices.length : Int))) rfl (fun hq25 => ?_) (fun hq25 => ?_)
 ·have H := ite_t H hq25
  refine W_skip ?_
  refine W_seq ?_
  refine W_block ?_
  refine W_seq ?_
  refine W_reg ?_
  obtain ⟨hb26, H⟩ := H
  obtain ⟨ad27, cs28, hA29, hS32, hR30, hcl31⟩ := h18.get default (by decide) v2 hb26
  obtain ⟨A33, n34, c35, rfl, h36⟩ := Kd.sl.op hR30
  refine L_pu (P_ia Try.underlying158 se158 A1 ad27 n2 c3 h18.len v2 rfl hA29 rfl hb26) ?_
  refine L_pu (P_ld ag43 cL (ad27.add (v2.toNat * 1)) (.slice A33 n34 c35) rfl (hcl31 0 _ rfl)) ?_
  refine L_pu (P_assign (.slice A33 n34 c35) rfl) ?_
  refine L_nil ?_
  refine W_seq ?_
  refine W_reg ?_
  refine L_pu (P_move (vi size2) rfl) ?_
  refine L_pu (P_move (.slice A33 n34 c35) rfl) ?_
  have hl38 := h36.le
  refine L_pu (P_len Try.underlying43 A33 n34 c35 h36.len rfl) ?_
  obtain ⟨hb39, H⟩ := H
  have hi40 := hb39 (len_le hl38)
  refine L_pu (P_add size2 ((nth slices v2).length : Int) rfl rfl hi40) ?_
  refine L_pu (P_assign (vi (size2 + ((nth slices v2).length : Int))) rfl) ?_
  refine L_nil ?_
  refine W_seq ?_
  refine W_reg ?_
  refine L_pu (P_move (vi (size2 + ((nth slices v2).length : Int))) rfl) ?_
  refine L_pu (P_cmp (size2 + ((nth slices v2).length : Int)) 0 (decide (size2 + ((nth slices v2).length : Int) < 0)) rfl rfl rfl) ?_
  refine L_nil ?_
  refine W_cond (decide (size2 + ((nth slices v2).length : Int) < 0)) rfl (fun hq41 => ?_) (fun hq41 => ?_)
  ·have H := ite_t H hq41
   exact False.elim H
  ·have H := ite_f H hq41
   refine W_skip ?_
   refine W_reg ?_
   obtain ⟨hb42, H⟩ := H
   have hi43 := hb42 (len_le hl38)
   refine L_pu (P_add v2 1 rfl rfl hi43) ?_
   refine L_pu (P_move (vi (v2 + 1)) rfl) ?_
   refine L_nil ?_
   obtain ⟨hI44, hm45⟩ := H
   exact ⟨(size2 + ((nth slices v2).length : Int), v2 + 1), hm45, hI44, ⟨rfl, rfl, rfl, rfl, rfl, trivial⟩, hc17, h18⟩
 ·have H := ite_f H hq25
  refine W_exit (xin_hit ?_)
  refine W_seq ?_
  refine W_reg ?_
  refine L_pu (P_move (vi size2) rfl) ?_
  refine L_call go126 [.slice none 0 0, vi size2] rfl ((slices_Grow_Change.calls w15 hc17.ok size2 _ H).mono ?_)
  rintro _ w46 ⟨r, A48, n49, c50, rfl, H, g47, hk54, hk55, h51⟩
  have hc56 := hc17.owns g47 hk54 hk55
  refine L_pu (P_assign (.slice A48 n49 c50) rfl) ?_
  refine L_nil ?_
  refine W_seq ?_
  refine W_seq ?_
  refine W_reg ?_
  refine L_pu (P_move (.slice A1 n2 c3) rfl) ?_
  have hl57 := (h18.st (.owns _ g47 hk55)).le
  refine L_pu (P_len Try.underlying158 A1 n2 c3 (h18.st (.owns _ g47 hk55)).len rfl) ?_
  refine L_pu (P_move (vi 0) rfl) ?_
  refine L_nil ?_
  refine W_block ?_
  obtain ⟨I82, mu83, hI84, H⟩ := H
  refine W_loop (α := (List Change) × (Option Addr) × Nat × Nat × Int) (fun (sv__ : (List Change) × (Option Addr) × Nat × Nat × Int) t w73 => match sv__ with | (xs2, A74, n75, c76, v4) => I82 xs2 v4 ∧ Has t [(6, .slice A74 n75 c76), (25, .slice A1 n2 c3), (26, vi (slices.length : Int)), (27, vi v4)] ∧ Ct [] w0 w73 [blk (.slice A74 n75 c76)] O ∧ Sl (Kd.sl kChange) w73 (Fr ([blk (.slice A74 n75 c76)] ++ O)) (.slice A1 n2 c3) slices ∧ Ow kChange 103 w73 ([blk (.slice A74 n75 c76)] ++ O) (.slice A74 n75 c76) xs2) (fun (sv__ : (List Change) × (Option Addr) × Nat × Nat × Int) => match sv__ with | (xs2, _, _, _, v4) => mu83 xs2 v4) (r, A48, n49, c50, 0) ⟨hI84, ⟨rfl, rfl, rfl, rfl, trivial⟩, hc56, (h18.st (.owns _ g47 hk55)), h51⟩ ?_
  rintro ⟨xs2, A74, n75, c76, v4⟩ _ w73 ⟨hI84, hh86, hc79, h80, h81⟩
  obtain ⟨u87, rfl⟩ := Has.ins hh86
  have H := H xs2 v4 hI84
  refine W_seq ?_
  refine W_reg ?_
  refine L_pu (P_cmp v4 (slices.length : Int) (decide (v4 < (slices.length : Int))) rfl rfl rfl) ?_
  refine L_nil ?_
  refine W_seq ?_
  refine W_cond (decide (v4 < (slices.length : Int))) rfl (fun hq88 => ?_) (fun hq88 => ?_)
  ·have H := ite_t H hq88
   refine W_skip ?_
   refine W_seq ?_
   refine W_block ?_
   refine W_seq ?_
   refine W_reg ?_
   obtain ⟨hb89, H⟩ := H
   obtain ⟨ad90, cs91, hA92, hS95, hR93, hcl94⟩ := h80.get default (by decide) v4 hb89
   obtain ⟨A96, n97, c98, rfl, h99⟩ := Kd.sl.op hR93
   refine L_pu (P_ia Try.underlying158 se158 A1 ad90 n2 c3 h80.len v4 rfl hA92 rfl hb89) ?_
   refine L_pu (P_ld ag43 cL (ad90.add (v4.toNat * 1)) (.slice A96 n97 c98) rfl (hcl94 0 _ rfl)) ?_
   refine L_pu (P_assign (.slice A96 n97 c98) rfl) ?_
   refine L_nil ?_
   refine W_reg ?_
   refine L_pu (P_move (.slice A74 n75 c76) rfl) ?_
   refine L_pu (P_move (.slice A96 n97 c98) rfl) ?_
   obtain ⟨hb101, H⟩ := H
   refine L_app ei43 hc79 (.slice A74 n75 c76) xs2 (nth slices v4) rfl h81 (.slice A96 n97 c98) rfl h99.sx 0 rfl hb101 fun w102 A103 n104 c105 g106 s107 hc108 h109 => ?_
   refine L_pu (P_assign (.slice A103 n104 c105) rfl) ?_
   refine L_nil ?_
   refine W_reg ?_
   obtain ⟨hb111, H⟩ := H
   refine L_pu (P_add v4 1 rfl rfl hb111) ?_
   refine L_pu (P_move (vi (v4 + 1)) rfl) ?_
   refine L_nil ?_
   obtain ⟨hI112, hm113⟩ := H
   exact ⟨((xs2 ++ (nth slices v4)), A103, n104, c105, v4 + 1), hm113, hI112, ⟨rfl, rfl, rfl, rfl, trivial⟩, hc108, (h80.st s107), h109⟩
  ·have H := ite_f H hq88
   refine W_exit (xin_hit ?_)
   refine W_seq ?_
   refine W_reg ?_
   refine L_pu (P_move (.slice A74 n75 c76) rfl) ?_
   refine L_pu (P_assign (.slice A74 n75 c76) rfl) ?_
   refine L_nil ?_
   refine W_ret ?_
   exact ⟨[.slice A74 n75 c76], ⟨_, rfl, rfl⟩, xs2, A74, n75, c76, rfl, H, hc79.gr.g0, hc79.ok, hc79.ge, h81⟩
end Go.Proofs.Ytndjggncgpjolaa

namespace Go.Proofs.Ytndjggncgpjolaa
set_option linter.unusedVariables false
set_option linter.unusedSimpArgs false
set_option linter.unusedSectionVars false
theorem slices_Concat_Change.law (l : List (List Change)) (Q : List Change → Prop) (h1 : l.length ≤ 1000) (h2 : l.flatten.length ≤ 1000000) (hq : Q l.flatten) : slices_Concat_Change.E l Q := by
 have htk : ∀ u, (l.take u).flatten.length ≤ l.flatten.length := fun u => by
  have : l.flatten = (l.take u).flatten ++ (l.drop u).flatten := by rw [← List.flatten_append, List.take_append_drop]
  rw [this, List.length_append]; omega
 have hsn : ∀ u, u < l.length → (l.take (u + 1)).flatten = (l.take u).flatten ++ nth l (u : Int) := fun u hu => by rw [take_nth l hu, List.flatten_append]; simp
 unfold slices_Concat_Change.E
 refine ⟨fun size i => ∃ u : Nat, i = u ∧ u ≤ l.length ∧ size = ((l.take u).flatten.length : Int), fun _ i => (l.length - i).toNat, ⟨0, rfl, Nat.zero_le _, by simp⟩, ?_⟩
 rintro _ _ ⟨u, rfl, hu, rfl⟩
 by_cases h : u < l.length
 ·rw [if_pos (by simpa using h)]
  have e := hsn u h
  have ht := htk (u + 1)
  rw [e, List.length_append] at ht
  refine ⟨by omega, fun _ => by unfold I64; omega, ?_⟩
  rw [if_neg (by rw [decide_eq_true_eq]; omega)]
  exact ⟨fun _ => by unfold I64; omega, ⟨u + 1, by omega, by omega, by rw [e, List.length_append]; omega⟩, by dsimp only; omega⟩
 ·rw [if_neg (by simpa using h)]
  have : u = l.length := by omega
  subst this
  rw [List.take_length]
  have rest : ∃ (I82 : (List Change) → Int → Prop) (mu83 : (List Change) → Int → Nat), I82 [] 0 ∧ ∀ (xs2 : List Change) (v4 : Int), I82 xs2 v4 → (if decide (v4 < (l.length : Int)) then ((0 : Int) ≤ v4 ∧ v4 < (l.length : Int)) ∧ (xs2.length + (nth l v4).length ≤ 268435456) ∧ (I64 (v4 + 1)) ∧ I82 (xs2 ++ (nth l v4)) (v4 + 1) ∧ mu83 (xs2 ++ (nth l v4)) (v4 + 1) < mu83 xs2 v4 else Q xs2) := by
   refine ⟨fun xs i => ∃ u : Nat, i = u ∧ u ≤ l.length ∧ xs = (l.take u).flatten, fun _ i => (l.length - i).toNat, ⟨0, rfl, Nat.zero_le _, by simp⟩, ?_⟩
   rintro _ _ ⟨u, rfl, hu, rfl⟩
   by_cases g : u < l.length
   ·rw [if_pos (by simpa using g)]
    have e := hsn u g
    have ht := htk (u + 1)
    rw [e, List.length_append] at ht
    exact ⟨by omega, by omega, by unfold I64; omega, ⟨u + 1, by omega, by omega, by rw [e]⟩, by dsimp only; omega⟩
   ·rw [if_neg (by simpa using g)]
    have : u = l.length := by omega
    subst this
    rw [List.take_length]; exact hq
  unfold slices_Grow_Change.E
  rw [if_neg (by rw [decide_eq_true_eq]; omega)]
  refine ⟨by unfold I64; omega, by unfold I64; omega, ?_⟩
  by_cases hz : (l.flatten.length : Int) - (0 - 0) > 0
  ·rw [if_pos (by rw [decide_eq_true_eq]; exact hz)]
   exact ⟨by omega, by omega, rest⟩
  ·rw [if_neg (by rw [decide_eq_true_eq]; exact hz)]
   exact rest
end Go.Proofs.Ytndjggncgpjolaa

namespace Go.Proofs.Ytndjggncgpjolaa
open Go.RowKit
set_option linter.unusedVariables false
set_option linter.unusedSimpArgs false
open Go.Shelf Go.Sort Go.Lib
def slices_Sort_string.E (x : List Str) (Q : List Str → Prop) : Prop := x.length ≤ 268435456 ∧ Q (sortS x)
theorem slices_Sort_string.calls {O : Ob} (w0 : World) (hO : Ok w0 O) (A : Option Addr) (n c : Nat) (x : List Str) (hp : Ow Kd.str 9 w0 O (.slice A n c) x) (Q : List Str → Prop) (h : slices_Sort_string.E x Q) :
  Ret Try.prog 83 [.slice A n c] w0 (fun v w' => ∃ (m0 : List Str), v = .tuple #[] ∧ Q m0 ∧ Gr w0 w' (blk (.slice A n c)) ∧ Ow Kd.str 9 w' O (.slice A n c) m0) := by
 obtain ⟨hl, hq⟩ := h
 by_cases hx : 0 < x.length
 ·obtain ⟨g, rfl, rfl, hc, hg⟩ := hp.form hx
  refine Calls.mono (Try.slices_Sort_string g 0 c x w0 hp.holds hg (by omega)) fun e w' ⟨he, q, os, hw⟩ => ?_
  subst he; subst hw
  have hs : (sortS x).length = x.length := List.length_mergeSort _
  obtain ⟨h1, h2⟩ := hp.putS (sortS x) hs (fun y hy => hp.lims y (List.mem_mergeSort.1 hy)) q os hx
  exact ⟨_, rfl, sortS x, rfl, hq, h1, h2⟩
 ·have e0 : x = [] := List.length_eq_zero_iff.1 (by omega)
  subst e0
  obtain rfl : n = 0 := hp.len
  refine Calls.mono (Try.slices_Sort_string_none A c w0) fun e w' ⟨he, hw⟩ => ?_
  subst he; subst hw
  exact ⟨_, rfl, [], rfl, (by simpa [sortS] using hq), Gr.refl _ _, hp⟩
end Go.Proofs.Ytndjggncgpjolaa

namespace Go.Proofs.Ytndjggncgpjolaa
open Go.RowKit
set_option linter.unusedVariables false
set_option linter.unusedSimpArgs false
def impl_changeAt_1.E (c_ : Change) (fv2 : Str) (Q : Bool → Prop) : Prop :=
 Q (c_.Id == fv2)
set_option maxHeartbeats 8000000 in
set_option maxRecDepth 100000 in
theorem impl_changeAt_1.calls {O : Ob} (w0 : World) (hO : Ok w0 O) (c_ : Change) (A3 : Option Addr) (n4 c5 : Nat) (A8 : Option Addr) (n9 c10 : Nat) (A14 : Option Addr) (n15 c16 : Nat) (A19 : Option Addr) (n20 c21 : Nat) (hs1 : Lim c_.Id) (hs2 : Lim c_.Was.Id) (hp6 : Sl kPt w0 (Fr O) (.slice A3 n4 c5) c_.Was.Shape.Pts) (hp11 : Sl kTag w0 (Fr O) (.slice A8 n9 c10) c_.Was.Tags) (hs13 : Lim c_.Now.Id) (hp17 : Sl kPt w0 (Fr O) (.slice A14 n15 c16) c_.Now.Shape.Pts) (hp22 : Sl kTag w0 (Fr O) (.slice A19 n20 c21) c_.Now.Tags) (b : Nat) (fv2 : Str) (hs25 : Lim fv2) (hp1 : Fb w0 O b [vs fv2]) (Q : Bool → Prop) (h : impl_changeAt_1.E c_ fv2 Q) :
  Ret Try.prog 130 [.agg #[vs c_.Id, vb c_.Had, vs c_.Was.Id, vi c_.Was.Shape.Kind, .slice A3 n4 c5, .slice A8 n9 c10, vb c_.Has, vs c_.Now.Id, vi c_.Now.Shape.Kind, .slice A14 n15 c16, .slice A19 n20 c21], .pointer (some ⟨b, 0, none⟩)] w0 (fun v w' => ∃ (r0 : Bool), v = vb r0 ∧ Q r0 ∧ Gr w0 w' none) := by
 have H : Q (c_.Id == fv2) := h
 clear h
 have hc0 := Ct.init hO
 refine Ret_enter Try.func130 rfl 8 rfl [.tmp 3] rfl rfl ?_
 refine W_seq ?_
 refine W_reg ?_
 refine L_box [vs c_.Id, vb c_.Had, vs c_.Was.Id, vi c_.Was.Shape.Kind, .slice A3 n4 c5, .slice A8 n9 c10, vb c_.Has, vs c_.Now.Id, vi c_.Now.Shape.Kind, .slice A14 n15 c16, .slice A19 n20 c21] rfl fun w26 b27 hl29 hu30 g28 hx31 => ?_
 have h33 := Fb.mk hc0.ok hl29 hx31
 have hc34 := hc0.k0 g28
 refine L_pu (P_assign (vb false) rfl) ?_
 refine L_nil ?_
 refine W_seq ?_
 refine W_reg ?_
 refine L_pu (P_fa fa103_0 ⟨b27, 0, none⟩ ⟨b27, 0, none⟩ rfl rfl) ?_
 refine L_pu (P_ld ag9 cL ⟨b27, 0, none⟩ (vs c_.Id) rfl (h33.cell rfl)) ?_
 have h35 := (hp1.st hc34.st)
 refine L_pu (P_ld ag9 cL ⟨b, 0, none⟩ (vs fv2) rfl (h35.cell rfl)) ?_
 refine L_pu (P_scmp c_.Id fv2 (c_.Id == fv2) rfl rfl rfl) ?_
 refine L_pu (P_assign (vb (c_.Id == fv2)) rfl) ?_
 refine L_nil ?_
 refine W_ret ?_
 exact ⟨[vb (c_.Id == fv2)], ⟨_, rfl, rfl⟩, c_.Id == fv2, rfl, H, hc34.gr.g0⟩
end Go.Proofs.Ytndjggncgpjolaa

namespace Go.Proofs.Ytndjggncgpjolaa
open Go.RowKit
set_option linter.unusedVariables false
set_option linter.unusedSimpArgs false
def slices_IndexFunc_Change.E (s : List Change) (f : Change → Bool) (f_ok : Change → Prop) (Q : Int → Prop) : Prop :=
 (∃ (I23 : Int → Prop) (mu24 : Int → Nat), I23 0 ∧ ∀ (v2 : Int), I23 v2 → (if decide (v2 < (s.length : Int)) then ((0 : Int) ≤ v2 ∧ v2 < (s.length : Int)) ∧ (f_ok (nth s v2)) ∧ (if (f (nth s v2)) then Q v2 else (I64 (v2 + 1)) ∧ I23 (v2 + 1) ∧ mu24 (v2 + 1) < mu24 v2) else Q (-1)))
set_option maxHeartbeats 8000000 in
set_option maxRecDepth 100000 in
theorem slices_IndexFunc_Change.calls {O : Ob} (w0 : World) (hO : Ok w0 O) (s : List Change) (A1 : Option Addr) (n2 c3 : Nat) (hp4 : Sl kChange w0 (Fr O) (.slice A1 n2 c3) s) (fg6 : FuncId) (fc7 : List Value) (f : Change → Bool) (f_ok : Change → Prop) (hgo8 : Goes Try.prog fg6) (hf9 : ∀ (w : World) (L : Ob), Ct [] w0 w L O → ∀ (x0_ : Change) (A12 : Option Addr) (n13 c14 : Nat) (A17 : Option Addr) (n18 c19 : Nat) (A23 : Option Addr) (n24 c25 : Nat) (A28 : Option Addr) (n29 c30 : Nat) (hs10 : Lim x0_.Id) (hs11 : Lim x0_.Was.Id) (hp15 : Sl kPt w (Fr (L ++ O)) (.slice A12 n13 c14) x0_.Was.Shape.Pts) (hp20 : Sl kTag w (Fr (L ++ O)) (.slice A17 n18 c19) x0_.Was.Tags) (hs22 : Lim x0_.Now.Id) (hp26 : Sl kPt w (Fr (L ++ O)) (.slice A23 n24 c25) x0_.Now.Shape.Pts) (hp31 : Sl kTag w (Fr (L ++ O)) (.slice A28 n29 c30) x0_.Now.Tags), f_ok x0_ → Ret Try.prog fg6 ([.agg #[vs x0_.Id, vb x0_.Had, vs x0_.Was.Id, vi x0_.Was.Shape.Kind, .slice A12 n13 c14, .slice A17 n18 c19, vb x0_.Has, vs x0_.Now.Id, vi x0_.Now.Shape.Kind, .slice A23 n24 c25, .slice A28 n29 c30]] ++ fc7) w (fun v w' => v = vb (f x0_) ∧ Gr w w' none)) (Q : Int → Prop) (h : slices_IndexFunc_Change.E s f f_ok Q) :
  Ret Try.prog 129 [.slice A1 n2 c3, .func (.func fg6) #[] fc7.toArray] w0 (fun v w' => ∃ (r0 : Int), v = vi r0 ∧ Q r0 ∧ Gr w0 w' none) := by
 have H : (∃ (I23 : Int → Prop) (mu24 : Int → Nat), I23 0 ∧ ∀ (v2 : Int), I23 v2 → (if decide (v2 < (s.length : Int)) then ((0 : Int) ≤ v2 ∧ v2 < (s.length : Int)) ∧ (f_ok (nth s v2)) ∧ (if (f (nth s v2)) then Q v2 else (I64 (v2 + 1)) ∧ I23 (v2 + 1) ∧ mu24 (v2 + 1) < mu24 v2) else Q (-1))) := h
 clear h
 have hc0 := Ct.init hO
 refine Ret_enter Try.func129 rfl 19 rfl [.tmp 4] rfl rfl ?_
 refine W_seq ?_
 refine W_reg ?_
 refine L_pu (P_assign (vi 0) rfl) ?_
 refine L_nil ?_
 refine W_seq ?_
 refine W_seq ?_
 refine W_reg ?_
 refine L_pu (P_move (.slice A1 n2 c3) rfl) ?_
 have hl10 := hp4.le
 refine L_pu (P_len Try.underlying43 A1 n2 c3 hp4.len rfl) ?_
 refine L_pu (P_move (vi 0) rfl) ?_
 refine L_nil ?_
 refine W_block ?_
 obtain ⟨I23, mu24, hI25, H⟩ := H
 refine W_loop (α := Int) (fun (sv__ : Int) t w19 => match sv__ with | v2 => I23 v2 ∧ Has t [(0, .slice A1 n2 c3), (1, .func (.func fg6) #[] fc7.toArray), (7, vi (s.length : Int)), (8, vi v2)] ∧ Ct [] w0 w19 [] O ∧ Sl kChange w19 (Fr ([] ++ O)) (.slice A1 n2 c3) s) (fun (sv__ : Int) => match sv__ with | v2 => mu24 v2) 0 ⟨hI25, ⟨rfl, rfl, rfl, rfl, trivial⟩, hc0, hp4⟩ ?_
 rintro v2 _ w19 ⟨hI25, hh27, hc21, h22⟩
 obtain ⟨u28, rfl⟩ := Has.ins hh27
 have H := H v2 hI25
 refine W_seq ?_
 refine W_reg ?_
 refine L_pu (P_cmp v2 (s.length : Int) (decide (v2 < (s.length : Int))) rfl rfl rfl) ?_
 refine L_nil ?_
 refine W_seq ?_
 refine W_cond (decide (v2 < (s.length : Int))) rfl (fun hq29 => ?_) (fun hq29 => ?_)
 ·have H := ite_t H hq29
  refine W_skip ?_
  refine W_seq ?_
  refine W_block ?_
  refine W_seq ?_
  refine W_reg ?_
  refine L_pu (P_move (vi v2) rfl) ?_
  refine L_pu (P_assign (vi v2) rfl) ?_
  refine L_nil ?_
  refine W_seq ?_
  refine W_reg ?_
  refine L_pu (P_move (.func (.func fg6) #[] fc7.toArray) rfl) ?_
  refine L_pu (P_move (.slice A1 n2 c3) rfl) ?_
  refine L_pu (P_move (vi v2) rfl) ?_
  obtain ⟨hb30, H⟩ := H
  obtain ⟨ad31, cs32, hA33, hS36, hR34, hcl35⟩ := h22.get default (by decide) v2 hb30
  obtain ⟨A39, n40, c41, A44, n45, c46, A50, n51, c52, A55, n56, c57, rfl, hs37, hs38, h42, h47, hs49, h53, h58⟩ := kChange.op hR34
  refine L_pu (P_ia Try.underlying43 se43 A1 ad31 n2 c3 h22.len v2 rfl hA33 rfl hb30) ?_
  refine L_pu (P_lda ag103 sz103 cL (ad31.add (v2.toNat * 11)) [vs ((nth s v2).Id), vb ((nth s v2).Had), vs ((nth s v2).Was.Id), vi ((nth s v2).Was.Shape.Kind), .slice A39 n40 c41, .slice A44 n45 c46, vb ((nth s v2).Has), vs ((nth s v2).Now.Id), vi ((nth s v2).Now.Shape.Kind), .slice A50 n51 c52, .slice A55 n56 c57] rfl rfl hcl35) ?_
  obtain ⟨hb60, H⟩ := H
  refine L_callv hgo8 fc7 rfl [.agg #[vs ((nth s v2).Id), vb ((nth s v2).Had), vs ((nth s v2).Was.Id), vi ((nth s v2).Was.Shape.Kind), .slice A39 n40 c41, .slice A44 n45 c46, vb ((nth s v2).Has), vs ((nth s v2).Now.Id), vi ((nth s v2).Now.Shape.Kind), .slice A50 n51 c52, .slice A55 n56 c57]] rfl ((hf9 w19 [] hc21 (nth s v2) A39 n40 c41 A44 n45 c46 A50 n51 c52 A55 n56 c57 hs37 hs38 h42 h47 hs49 h53 h58 hb60).mono ?_)
  rintro _ w61 ⟨rfl, g62⟩
  have hc64 := hc21.k0 g62
  refine L_nil ?_
  refine W_cond (f (nth s v2)) rfl (fun hq65 => ?_) (fun hq65 => ?_)
  ·have H := ite_t H hq65
   refine W_seq ?_
   refine W_reg ?_
   refine L_pu (P_move (vi v2) rfl) ?_
   refine L_pu (P_assign (vi v2) rfl) ?_
   refine L_nil ?_
   refine W_ret ?_
   exact ⟨[vi v2], ⟨_, rfl, rfl⟩, v2, rfl, H, hc64.gr.g0⟩
  ·have H := ite_f H hq65
   refine W_skip ?_
   refine W_reg ?_
   obtain ⟨hb66, H⟩ := H
   refine L_pu (P_add v2 1 rfl rfl hb66) ?_
   refine L_pu (P_move (vi (v2 + 1)) rfl) ?_
   refine L_nil ?_
   obtain ⟨hI67, hm68⟩ := H
   exact ⟨v2 + 1, hm68, hI67, ⟨rfl, rfl, rfl, rfl, trivial⟩, hc64, (h22.st (.new _ g62))⟩
 ·have H := ite_f H hq29
  refine W_exit (xin_hit ?_)
  refine W_seq ?_
  refine W_reg ?_
  refine L_pu (P_assign (vi (-1)) rfl) ?_
  refine L_nil ?_
  refine W_ret ?_
  exact ⟨[vi (-1)], ⟨_, rfl, rfl⟩, (-1), rfl, H, hc21.gr.g0⟩
end Go.Proofs.Ytndjggncgpjolaa

namespace Go.Proofs.Ytndjggncgpjolaa
set_option linter.unusedVariables false
set_option linter.unusedSimpArgs false
set_option linter.unusedSectionVars false
theorem slices_IndexFunc_Change.law (s : List Change) (f : Change → Bool) (ok : Change → Prop) (Q : Int → Prop) (hl : s.length ≤ 1048576) (hok : ∀ x ∈ s, ok x) (hq : Q (findN s.length fun j => f (nth s (j : Int)))) : slices_IndexFunc_Change.E s f ok Q := by
 unfold slices_IndexFunc_Change.E
 refine loop_find s.length (fun j => f (nth s (j : Int))) hq (fun I mu k hk h1 h2 => ⟨by omega, hok _ (nth_mem s hk), ?_⟩)
 cases h : f (nth s (k : Int)) with
 | true => rw [if_pos rfl]; exact h1 h
 | false => rw [if_neg (by decide)]; obtain ⟨i1, i2⟩ := h2 h; exact ⟨by unfold I64; omega, i1, i2⟩
end Go.Proofs.Ytndjggncgpjolaa

namespace Go.Proofs.Ytndjggncgpjolaa
open Go.RowKit
set_option linter.unusedVariables false
set_option linter.unusedSimpArgs false
def impl_changeAt.E (d : List Change) (id : Str) (Q : Int → Prop) : Prop :=
 (∃ (f : Change → Bool) (f_ok : Change → Prop), (∀ x0_, f_ok x0_ → impl_changeAt_1.E x0_ id (fun r => r = f x0_)) ∧ slices_IndexFunc_Change.E d f f_ok (fun r => Q r))
set_option maxHeartbeats 8000000 in
set_option maxRecDepth 100000 in
theorem impl_changeAt.calls {O : Ob} (w0 : World) (hO : Ok w0 O) (d : List Change) (A1 : Option Addr) (n2 c3 : Nat) (hp4 : Sl kChange w0 (Fr O) (.slice A1 n2 c3) d) (id : Str) (hs6 : Lim id) (Q : Int → Prop) (h : impl_changeAt.E d id Q) :
  Ret Try.prog 85 [.slice A1 n2 c3, vs id] w0 (fun v w' => ∃ (r0 : Int), v = vi r0 ∧ Q r0 ∧ Gr w0 w' none) := by
 have H : (∃ (f : Change → Bool) (f_ok : Change → Prop), (∀ x0_, f_ok x0_ → impl_changeAt_1.E x0_ id (fun r => r = f x0_)) ∧ slices_IndexFunc_Change.E d f f_ok (fun r => Q r)) := h
 clear h
 have hc0 := Ct.init hO
 refine Ret_enter Try.func85 rfl 8 rfl [.tmp 4] rfl rfl ?_
 refine W_seq ?_
 refine W_reg ?_
 refine L_box [vs id] rfl fun w7 b8 hl10 hu11 g9 hx12 => ?_
 have h14 := Fb.mk hc0.ok hl10 hx12
 have hc15 := hc0.k0 g9
 refine L_pu (P_assign (vi 0) rfl) ?_
 refine L_nil ?_
 refine W_seq ?_
 refine W_reg ?_
 refine L_pu (P_move (.slice A1 n2 c3) rfl) ?_
 refine L_pu (P_func [.pointer (some ⟨b8, 0, none⟩)] rfl) ?_
 obtain ⟨f, f_ok, hE16, H⟩ := H
 have hf17 : ∀ (w : World) (L : Ob), Ct [] w7 w L ([] ++ O) → ∀ (x0_ : Change) (A19 : Option Addr) (n20 c21 : Nat) (A24 : Option Addr) (n25 c26 : Nat) (A30 : Option Addr) (n31 c32 : Nat) (A35 : Option Addr) (n36 c37 : Nat) (hs17 : Lim x0_.Id) (hs18 : Lim x0_.Was.Id) (hp22 : Sl kPt w (Fr (L ++ ([] ++ O))) (.slice A19 n20 c21) x0_.Was.Shape.Pts) (hp27 : Sl kTag w (Fr (L ++ ([] ++ O))) (.slice A24 n25 c26) x0_.Was.Tags) (hs29 : Lim x0_.Now.Id) (hp33 : Sl kPt w (Fr (L ++ ([] ++ O))) (.slice A30 n31 c32) x0_.Now.Shape.Pts) (hp38 : Sl kTag w (Fr (L ++ ([] ++ O))) (.slice A35 n36 c37) x0_.Now.Tags), f_ok x0_ → Ret Try.prog 130 ([.agg #[vs x0_.Id, vb x0_.Had, vs x0_.Was.Id, vi x0_.Was.Shape.Kind, .slice A19 n20 c21, .slice A24 n25 c26, vb x0_.Has, vs x0_.Now.Id, vi x0_.Now.Shape.Kind, .slice A30 n31 c32, .slice A35 n36 c37]] ++ [.pointer (some ⟨b8, 0, none⟩)]) w (fun v w' => v = vb (f x0_) ∧ Gr w w' none) := by
  intro w L c x0_ A19 n20 c21 A24 n25 c26 A30 n31 c32 A35 n36 c37 hs17 hs18 hp22 hp27 hs29 hp33 hp38 hok
  refine (impl_changeAt_1.calls w c.ok x0_ A19 n20 c21 A24 n25 c26 A30 n31 c32 A35 n36 c37 hs17 hs18 hp22 hp27 hs29 hp33 hp38 b8 id hs6 (h14.st c.st) _ (hE16 x0_ hok)).mono ?_
  rintro _ w2 ⟨r, rfl, rfl, g2⟩
  exact ⟨rfl, g2⟩
 refine L_call go129 [.slice A1 n2 c3, .func (.func 130) #[] #[.pointer (some ⟨b8, 0, none⟩)]] rfl ((slices_IndexFunc_Change.calls w7 hc15.ok d A1 n2 c3 (hp4.st hc15.st) 130 [.pointer (some ⟨b8, 0, none⟩)] f f_ok go130 hf17 _ H).mono ?_)
 rintro _ w18 ⟨r, rfl, H, g19⟩
 have hc23 := hc15.k0 g19
 refine L_pu (P_assign (vi r) rfl) ?_
 refine L_nil ?_
 refine W_ret ?_
 exact ⟨[vi r], ⟨_, rfl, rfl⟩, r, rfl, H, hc23.gr.g0⟩
end Go.Proofs.Ytndjggncgpjolaa

namespace Go.Proofs.Ytndjggncgpjolaa
set_option linter.unusedVariables false
set_option linter.unusedSimpArgs false
set_option linter.unusedSectionVars false
theorem impl_changeAt.law (s : List Change) (id : Str) (Q : Int → Prop) (hl : s.length ≤ 1048576) (hq : Q (atC s id)) : impl_changeAt.E s id Q := by
 unfold impl_changeAt.E
 refine ⟨fun x => x.Id == id, fun x => x ∈ s, fun x hx => ?_, slices_IndexFunc_Change.law _ _ _ _ hl (fun x hx => hx) hq⟩
 unfold impl_changeAt_1.E
 rfl
end Go.Proofs.Ytndjggncgpjolaa

namespace Go.Proofs.Ytndjggncgpjolaa
open Go.RowKit
set_option linter.unusedVariables false
set_option linter.unusedSimpArgs false
def impl_cloneShape.E (s : Shape) (Q : Shape → Prop) : Prop :=
 (([] : List Pt).length + s.Pts.length ≤ 268435456) ∧ Q (⟨s.Kind, (([] : List Pt) ++ s.Pts)⟩ : Shape)
set_option maxHeartbeats 8000000 in
set_option maxRecDepth 100000 in
theorem impl_cloneShape.calls {O : Ob} (w0 : World) (hO : Ok w0 O) (s : Shape) (A1 : Option Addr) (n2 c3 : Nat) (hp4 : Sl kPt w0 (Fr O) (.slice A1 n2 c3) s.Pts) (Q : Shape → Prop) (h : impl_cloneShape.E s Q) :
  Ret Try.prog 97 [.agg #[vi s.Kind, .slice A1 n2 c3]] w0 (fun v w' => ∃ (r0 : Shape) (A0 : Option Addr) (n0 c0 : Nat), v = .agg #[vi r0.Kind, .slice A0 n0 c0] ∧ Q r0 ∧ Gr w0 w' none ∧ Ok w' ([blk (.slice A0 n0 c0)] ++ O) ∧ (∀ b, some b ∈ [blk (.slice A0 n0 c0)] → w0.heap.size ≤ b) ∧ Ow kPt 29 w' ([blk (.slice A0 n0 c0)] ++ O) (.slice A0 n0 c0) r0.Pts) := by
 have H : (([] : List Pt).length + s.Pts.length ≤ 268435456) ∧ Q (⟨s.Kind, (([] : List Pt) ++ s.Pts)⟩ : Shape) := h
 clear h
 have hc0 := Ct.init hO
 refine Ret_enter Try.func97 rfl 10 rfl [.cell 2 68] rfl rfl ?_
 refine W_seq ?_
 refine W_reg ?_
 refine L_box [vi s.Kind, .slice A1 n2 c3] rfl fun w6 b7 hl9 hu10 g8 hx11 => ?_
 have h13 := Fb.mk hc0.ok hl9 hx11
 have hc14 := hc0.k0 g8
 refine L_alloc [.int .i64 0, .slice none 0 0] ze68 fun w15 b16 hl18 hu19 g17 hx20 => ?_
 have hc22 := hc14.own g17 (some b16) (oglt hl18 hu19)
 refine L_nil ?_
 refine W_seq ?_
 refine W_mixr 8 [some b16] (by kernel_rfl) rfl fun w23 g24 hM25 => ?_
 have hc26 := hc22.k0 g24
 refine M_pu 0 rfl (by kernel_rfl) hM25 (P_fa fa68_0 ⟨b7, 0, none⟩ ⟨b7, 0, none⟩ rfl rfl) ?_
 have h27 := ((h13.st (.own _ _ g17 (oge hl18))).st (.new _ g24))
 refine M_pu 1 rfl (by kernel_rfl) hM25 (P_ldr ag3 cR ⟨b7, 0, none⟩ (vi s.Kind) rfl (h27.cell rfl) (nm_cons (fr_ne (L := [some b16]) (O := O) (i := 0) h27.2 rfl) nm_nil)) ?_
 refine M_pu 3 rfl (by kernel_rfl) hM25 (P_fa fa68_1 ⟨b7, 0, none⟩ ⟨b7, 1, none⟩ rfl rfl) ?_
 refine M_pu 4 rfl (by kernel_rfl) hM25 (P_ldr ag23 cR ⟨b7, 1, none⟩ (.slice A1 n2 c3) rfl (h27.cell rfl) (nm_cons (fr_ne (L := [some b16]) (O := O) (i := 0) h27.2 rfl) nm_nil)) ?_
 refine M_any1 2 (by kernel_rfl) rfl ?_
 refine L_lit (kd := kPt) ei23 hc26 ([] : List Pt) (cells := []) rfl (fun _ => by kernel_rfl) fun w28 A29 n30 c31 g32 hr33 hc34 h35 => ?_
 have hM37 := Gm.tm hM25 g32
 refine L_nil ⟨hM37, ?_⟩
 refine M_any1 5 (by kernel_rfl) rfl ?_
 obtain ⟨hb38, H⟩ := H
 refine L_app ei23 hc34 (.slice A29 n30 c31) ([] : List Pt) s.Pts rfl h35 (.slice A1 n2 c3) rfl (hp4.st hc34.st).sx 0 rfl hb38 fun w39 A40 n41 c42 g43 s44 hc45 h46 => ?_
 have hM47 := Gm.tq hM37 g43 (hv_new hM25 hr33)
 have hv48 := hv_app (L := [blk (.slice A29 n30 c31), some b16]) (O := O) (i := 0) hM37 rfl (hv_new hM25 hr33) s44 hc45
 refine L_nil ⟨hM47, ?_⟩
 refine M_pu 6 rfl (by kernel_rfl) hM47 (P_build (.agg #[vi s.Kind, .slice A40 n41 c42]) (fun _ => by kernel_rfl)) ?_
 refine M_any1 7 (by kernel_rfl) rfl ?_
 have h53 := (Bx.sm (L := [blk (.slice A29 n30 c31), some b16]) (O := O) ((hx20.k0 g24).k0 g32) hc34 (i := 1) rfl (j := 0) rfl (by decide) g43)
 refine L_stb b16 0 [vi 0, .slice none 0 0] [vi s.Kind, .slice A40 n41 c42] [vi s.Kind, .slice A40 n41 c42] rfl h53 rfl sz68 rfl rfl rfl fun w50 g51 hx52 => ?_
 have hc54 := hc45.wr 1 rfl g51
 have hM55 := Gm.tq hM47 g51 (hv_mem 0 rfl)
 refine L_nil ⟨hM55, ?_⟩
 refine M_nil (by kernel_rfl) ?_
 refine W_ret ?_
 have h56 := Bx.gv (L := [blk (.slice A40 n41 c42), some b16]) (O := O) hx52 hc54 (i := 1) rfl
 have hc57 := hc54.drop 1 rfl
 have h58 := (Ow.sd (L := [blk (.slice A40 n41 c42), some b16]) (O := O) (Ow.sw (L := [blk (.slice A40 n41 c42), some b16]) (O := O) h46 hc45 (i := 0) rfl (j := 1) rfl (by decide) g51) (i := 0) rfl (j := 1) rfl (by decide))
 exact ⟨[.agg #[vi s.Kind, .slice A40 n41 c42]], ⟨_, _, rfl, h56.1.res rfl ag68 sz68, rfl⟩, (⟨s.Kind, (([] : List Pt) ++ s.Pts)⟩ : Shape), A40, n41, c42, rfl, H, hc57.gr.g0, hc57.ok, hc57.ge, h58⟩
end Go.Proofs.Ytndjggncgpjolaa

namespace Go.Proofs.Ytndjggncgpjolaa
open Go.RowKit
set_option linter.unusedVariables false
set_option linter.unusedSimpArgs false
def impl_cloneFeat.E (f : Feat) (Q : Feat → Prop) : Prop :=
 (([] : List Tag).length + f.Tags.length ≤ 268435456) ∧ impl_cloneShape.E f.Shape (fun r => Q (⟨f.Id, r, (([] : List Tag) ++ f.Tags)⟩ : Feat))
set_option maxHeartbeats 8000000 in
set_option maxRecDepth 100000 in
theorem impl_cloneFeat.calls {O : Ob} (w0 : World) (hO : Ok w0 O) (f : Feat) (A2 : Option Addr) (n3 c4 : Nat) (A7 : Option Addr) (n8 c9 : Nat) (hs1 : Lim f.Id) (hp5 : Sl kPt w0 (Fr O) (.slice A2 n3 c4) f.Shape.Pts) (hp10 : Sl kTag w0 (Fr O) (.slice A7 n8 c9) f.Tags) (Q : Feat → Prop) (h : impl_cloneFeat.E f Q) :
  Ret Try.prog 102 [.agg #[vs f.Id, vi f.Shape.Kind, .slice A2 n3 c4, .slice A7 n8 c9]] w0 (fun v w' => ∃ (r0 : Feat) (A0 : Option Addr) (n0 c0 : Nat) (A2 : Option Addr) (n2 c2 : Nat), v = .agg #[vs r0.Id, vi r0.Shape.Kind, .slice A0 n0 c0, .slice A2 n2 c2] ∧ Q r0 ∧ Gr w0 w' none ∧ Ok w' ([blk (.slice A0 n0 c0), blk (.slice A2 n2 c2)] ++ O) ∧ (∀ b, some b ∈ [blk (.slice A0 n0 c0), blk (.slice A2 n2 c2)] → w0.heap.size ≤ b) ∧ Lim r0.Id ∧ Ow kPt 29 w' ([blk (.slice A0 n0 c0), blk (.slice A2 n2 c2)] ++ O) (.slice A0 n0 c0) r0.Shape.Pts ∧ Ow kTag 133 w' ([blk (.slice A0 n0 c0), blk (.slice A2 n2 c2)] ++ O) (.slice A2 n2 c2) r0.Tags) := by
 have H : (([] : List Tag).length + f.Tags.length ≤ 268435456) ∧ impl_cloneShape.E f.Shape (fun r => Q (⟨f.Id, r, (([] : List Tag) ++ f.Tags)⟩ : Feat)) := h
 clear h
 have hc0 := Ct.init hO
 refine Ret_enter Try.func102 rfl 13 rfl [.cell 2 71] rfl rfl ?_
 refine W_seq ?_
 refine W_reg ?_
 refine L_box [vs f.Id, vi f.Shape.Kind, .slice A2 n3 c4, .slice A7 n8 c9] rfl fun w12 b13 hl15 hu16 g14 hx17 => ?_
 have h19 := Fb.mk hc0.ok hl15 hx17
 have hc20 := hc0.k0 g14
 refine L_alloc [vs [], .int .i64 0, .slice none 0 0, .slice none 0 0] ze71 fun w21 b22 hl24 hu25 g23 hx26 => ?_
 have hc28 := hc20.own g23 (some b22) (oglt hl24 hu25)
 refine L_nil ?_
 refine W_seq ?_
 refine W_mixr 11 [some b22] (by kernel_rfl) rfl fun w29 g30 hM31 => ?_
 have hc32 := hc28.k0 g30
 obtain ⟨hb33, H⟩ := H
 refine M_pu 0 rfl (by kernel_rfl) hM31 (P_fa fa71_0 ⟨b13, 0, none⟩ ⟨b13, 0, none⟩ rfl rfl) ?_
 have h34 := ((h19.st (.own _ _ g23 (oge hl24))).st (.new _ g30))
 refine M_pu 1 rfl (by kernel_rfl) hM31 (P_ldr ag9 cR ⟨b13, 0, none⟩ (vs f.Id) rfl (h34.cell rfl) (nm_cons (fr_ne (L := [some b22]) (O := O) (i := 0) h34.2 rfl) nm_nil)) ?_
 refine M_pu 2 rfl (by kernel_rfl) hM31 (P_fa fa71_1 ⟨b13, 0, none⟩ ⟨b13, 1, none⟩ rfl rfl) ?_
 refine M_pu 3 rfl (by kernel_rfl) hM31 (P_ldar ag68 sz68 cR ⟨b13, 1, none⟩ [vi f.Shape.Kind, .slice A2 n3 c4] rfl rfl (h34.cells (off := 1) rfl) (nm_cons (fr_ne (L := [some b22]) (O := O) (i := 0) h34.2 rfl) nm_nil)) ?_
 refine M_pu 6 rfl (by kernel_rfl) hM31 (P_fa fa71_2 ⟨b13, 0, none⟩ ⟨b13, 3, none⟩ rfl rfl) ?_
 refine M_pu 7 rfl (by kernel_rfl) hM31 (P_ldr ag69 cR ⟨b13, 3, none⟩ (.slice A7 n8 c9) rfl (h34.cell rfl) (nm_cons (fr_ne (L := [some b22]) (O := O) (i := 0) h34.2 rfl) nm_nil)) ?_
 refine M_any2 4 5 (by kernel_rfl) rfl rfl ?_ ?_
 ·refine L_call go97 [.agg #[vi f.Shape.Kind, .slice A2 n3 c4]] rfl ((impl_cloneShape.calls w29 hc32.ok f.Shape A2 n3 c4 (hp5.st hc32.st) _ H).mono ?_)
  rintro _ w35 ⟨r, A37, n38, c39, rfl, H, g36, hk43, hk44, h40⟩
  have hc45 := hc32.owns g36 hk43 hk44
  have hM46 := Gm.tm hM31 g36
  refine L_nil ⟨hM46, ?_⟩
  refine M_any1 5 (by kernel_rfl) rfl ?_
  refine L_lit (kd := kTag) ei69 hc45 ([] : List Tag) (cells := []) rfl (fun _ => by kernel_rfl) fun w47 A48 n49 c50 g51 hr52 hc53 h54 => ?_
  have hM56 := Gm.tm hM46 g51
  refine L_nil ⟨hM56, ?_⟩
  refine M_any1 8 (by kernel_rfl) rfl ?_
  refine L_app ei69 hc53 (.slice A48 n49 c50) ([] : List Tag) f.Tags rfl h54 (.slice A7 n8 c9) rfl (hp10.st hc53.st).sx 0 rfl hb33 fun w57 A58 n59 c60 g61 s62 hc63 h64 => ?_
  have hM65 := Gm.tq hM56 g61 (hv_new hM46 hr52)
  have hv66 := hv_app (L := [blk (.slice A48 n49 c50), blk (.slice A37 n38 c39), some b22]) (O := O) (i := 0) hM56 rfl (hv_new hM46 hr52) s62 hc63
  refine L_nil ⟨hM65, ?_⟩
  refine M_pu 9 rfl (by kernel_rfl) hM65 (P_build (.agg #[vs f.Id, vi r.Kind, .slice A37 n38 c39, .slice A58 n59 c60]) (fun _ => by kernel_rfl)) ?_
  refine M_any1 10 (by kernel_rfl) rfl ?_
  have h71 := (Bx.sm (L := [blk (.slice A48 n49 c50), blk (.slice A37 n38 c39), some b22]) (O := O) (((hx26.k0 g30).k0 g36).k0 g51) hc53 (i := 2) rfl (j := 0) rfl (by decide) g61)
  refine L_stb b22 0 [vs ([] : Str), vi 0, .slice none 0 0, .slice none 0 0] [vs f.Id, vi r.Kind, .slice A37 n38 c39, .slice A58 n59 c60] [vs f.Id, vi r.Kind, .slice A37 n38 c39, .slice A58 n59 c60] rfl h71 rfl sz71 rfl rfl rfl fun w68 g69 hx70 => ?_
  have hc72 := hc63.wr 2 rfl g69
  have hM73 := Gm.tq hM65 g69 (hv_mem 0 rfl)
  refine L_nil ⟨hM73, ?_⟩
  refine M_nil (by kernel_rfl) ?_
  refine W_ret ?_
  have h74 := Bx.gv (L := [blk (.slice A58 n59 c60), blk (.slice A37 n38 c39), some b22]) (O := O) hx70 hc72 (i := 2) rfl
  have hc75 := hc72.drop 2 rfl
  have hc76 := hc75.perm (.swap _ _ _)
  have h77 := (h74.st (.perm (L := [blk (.slice A58 n59 c60), blk (.slice A37 n38 c39)]) (O := O) (.swap _ _ _)))
  have h78 := (Ow.sp (L := [blk (.slice A58 n59 c60), blk (.slice A37 n38 c39)]) (O := O) (Ow.sd (L := [blk (.slice A58 n59 c60), blk (.slice A37 n38 c39), some b22]) (O := O) (Ow.sw (L := [blk (.slice A58 n59 c60), blk (.slice A37 n38 c39), some b22]) (O := O) (Ow.sm (L := [blk (.slice A48 n49 c50), blk (.slice A37 n38 c39), some b22]) (O := O) (h40.so _ g51 hr52) hc53 (i := 1) rfl (j := 0) rfl (by decide) g61 s62) hc63 (i := 1) rfl (j := 2) rfl (by decide) g69) (i := 1) rfl (j := 2) rfl (by decide)) (.swap _ _ _))
  have h79 := (Ow.sp (L := [blk (.slice A58 n59 c60), blk (.slice A37 n38 c39)]) (O := O) (Ow.sd (L := [blk (.slice A58 n59 c60), blk (.slice A37 n38 c39), some b22]) (O := O) (Ow.sw (L := [blk (.slice A58 n59 c60), blk (.slice A37 n38 c39), some b22]) (O := O) h64 hc63 (i := 0) rfl (j := 2) rfl (by decide) g69) (i := 0) rfl (j := 2) rfl (by decide)) (.swap _ _ _))
  exact ⟨[.agg #[vs f.Id, vi r.Kind, .slice A37 n38 c39, .slice A58 n59 c60]], ⟨_, _, rfl, h77.1.res rfl ag71 sz71, rfl⟩, (⟨f.Id, r, (([] : List Tag) ++ f.Tags)⟩ : Feat), A37, n38, c39, A58, n59, c60, rfl, H, hc76.gr.g0, hc76.ok, hc76.ge, hs1, h78, h79⟩
 ·refine L_lit (kd := kTag) ei69 hc32 ([] : List Tag) (cells := []) rfl (fun _ => by kernel_rfl) fun w35 A36 n37 c38 g39 hr40 hc41 h42 => ?_
  have hM44 := Gm.tm hM31 g39
  refine L_nil ⟨hM44, ?_⟩
  refine M_any1 4 (by kernel_rfl) rfl ?_
  refine L_call go97 [.agg #[vi f.Shape.Kind, .slice A2 n3 c4]] rfl ((impl_cloneShape.calls w35 hc41.ok f.Shape A2 n3 c4 (hp5.st hc41.st) _ H).mono ?_)
  rintro _ w45 ⟨r, A47, n48, c49, rfl, H, g46, hk53, hk54, h50⟩
  have hc55 := hc41.owns g46 hk53 hk54
  have hM56 := Gm.tm hM44 g46
  refine L_nil ⟨hM56, ?_⟩
  refine M_any1 8 (by kernel_rfl) rfl ?_
  have h57 := (h42.sos g46 hk54)
  refine L_app ei69 hc55 (.slice A36 n37 c38) ([] : List Tag) f.Tags rfl h57 (.slice A7 n8 c9) rfl (hp10.st hc55.st).sx 1 rfl hb33 fun w58 A59 n60 c61 g62 s63 hc64 h65 => ?_
  have hM66 := Gm.tq hM56 g62 (hv_new hM31 hr40)
  have hv67 := hv_app (L := [blk (.slice A47 n48 c49), blk (.slice A36 n37 c38), some b22]) (O := O) (i := 1) hM56 rfl (hv_new hM31 hr40) s63 hc64
  refine L_nil ⟨hM66, ?_⟩
  refine M_pu 9 rfl (by kernel_rfl) hM66 (P_build (.agg #[vs f.Id, vi r.Kind, .slice A47 n48 c49, .slice A59 n60 c61]) (fun _ => by kernel_rfl)) ?_
  refine M_any1 10 (by kernel_rfl) rfl ?_
  have h72 := (Bx.sm (L := [blk (.slice A47 n48 c49), blk (.slice A36 n37 c38), some b22]) (O := O) (((hx26.k0 g30).k0 g39).k0 g46) hc55 (i := 2) rfl (j := 1) rfl (by decide) g62)
  refine L_stb b22 0 [vs ([] : Str), vi 0, .slice none 0 0, .slice none 0 0] [vs f.Id, vi r.Kind, .slice A47 n48 c49, .slice A59 n60 c61] [vs f.Id, vi r.Kind, .slice A47 n48 c49, .slice A59 n60 c61] rfl h72 rfl sz71 rfl rfl rfl fun w69 g70 hx71 => ?_
  have hc73 := hc64.wr 2 rfl g70
  have hM74 := Gm.tq hM66 g70 (hv_mem 0 rfl)
  refine L_nil ⟨hM74, ?_⟩
  refine M_nil (by kernel_rfl) ?_
  refine W_ret ?_
  have h75 := Bx.gv (L := [blk (.slice A47 n48 c49), blk (.slice A59 n60 c61), some b22]) (O := O) hx71 hc73 (i := 2) rfl
  have hc76 := hc73.drop 2 rfl
  have h77 := (Ow.sd (L := [blk (.slice A47 n48 c49), blk (.slice A59 n60 c61), some b22]) (O := O) (Ow.sw (L := [blk (.slice A47 n48 c49), blk (.slice A59 n60 c61), some b22]) (O := O) (Ow.sm (L := [blk (.slice A47 n48 c49), blk (.slice A36 n37 c38), some b22]) (O := O) h50 hc55 (i := 0) rfl (j := 1) rfl (by decide) g62 s63) hc64 (i := 0) rfl (j := 2) rfl (by decide) g70) (i := 0) rfl (j := 2) rfl (by decide))
  have h78 := (Ow.sd (L := [blk (.slice A47 n48 c49), blk (.slice A59 n60 c61), some b22]) (O := O) (Ow.sw (L := [blk (.slice A47 n48 c49), blk (.slice A59 n60 c61), some b22]) (O := O) h65 hc64 (i := 1) rfl (j := 2) rfl (by decide) g70) (i := 1) rfl (j := 2) rfl (by decide))
  exact ⟨[.agg #[vs f.Id, vi r.Kind, .slice A47 n48 c49, .slice A59 n60 c61]], ⟨_, _, rfl, h75.1.res rfl ag71 sz71, rfl⟩, (⟨f.Id, r, (([] : List Tag) ++ f.Tags)⟩ : Feat), A47, n48, c49, A59, n60, c61, rfl, H, hc76.gr.g0, hc76.ok, hc76.ge, hs1, h77, h78⟩
end Go.Proofs.Ytndjggncgpjolaa

namespace Go.Proofs.Ytndjggncgpjolaa
set_option linter.unusedVariables false
set_option linter.unusedSimpArgs false
set_option linter.unusedSectionVars false
theorem impl_cloneFeat.law (f : Feat) (Q : Feat → Prop) (hb : bulk f ≤ 1048576) (hq : Q f) : impl_cloneFeat.E f Q := by
 unfold impl_cloneFeat.E impl_cloneShape.E
 have h := bulk_feat f
 have h1 := bulk_len f.Tags
 have h2 := bulk_len f.Shape.Pts
 exact ⟨by simp only [List.length_nil]; omega, by simp only [List.length_nil]; omega, hq⟩
end Go.Proofs.Ytndjggncgpjolaa

namespace Go.Proofs.Ytndjggncgpjolaa
open Go.RowKit
set_option linter.unusedVariables false
set_option linter.unusedSimpArgs false
def impl_cloneChange.E (c_ : Change) (Q : Change → Prop) : Prop :=
 impl_cloneFeat.E c_.Was (fun r => impl_cloneFeat.E c_.Now (fun r2 => Q (⟨c_.Id, c_.Had, r, c_.Has, r2⟩ : Change)))
set_option maxHeartbeats 8000000 in
set_option maxRecDepth 100000 in
theorem impl_cloneChange.calls {O : Ob} (w0 : World) (hO : Ok w0 O) (c_ : Change) (A3 : Option Addr) (n4 c5 : Nat) (A8 : Option Addr) (n9 c10 : Nat) (A14 : Option Addr) (n15 c16 : Nat) (A19 : Option Addr) (n20 c21 : Nat) (hs1 : Lim c_.Id) (hs2 : Lim c_.Was.Id) (hp6 : Sl kPt w0 (Fr O) (.slice A3 n4 c5) c_.Was.Shape.Pts) (hp11 : Sl kTag w0 (Fr O) (.slice A8 n9 c10) c_.Was.Tags) (hs13 : Lim c_.Now.Id) (hp17 : Sl kPt w0 (Fr O) (.slice A14 n15 c16) c_.Now.Shape.Pts) (hp22 : Sl kTag w0 (Fr O) (.slice A19 n20 c21) c_.Now.Tags) (Q : Change → Prop) (h : impl_cloneChange.E c_ Q) :
  Ret Try.prog 65 [.agg #[vs c_.Id, vb c_.Had, vs c_.Was.Id, vi c_.Was.Shape.Kind, .slice A3 n4 c5, .slice A8 n9 c10, vb c_.Has, vs c_.Now.Id, vi c_.Now.Shape.Kind, .slice A14 n15 c16, .slice A19 n20 c21]] w0 (fun v w' => ∃ (r0 : Change) (A0 : Option Addr) (n0 c0 : Nat) (A2 : Option Addr) (n2 c2 : Nat) (A4 : Option Addr) (n4 c4 : Nat) (A6 : Option Addr) (n6 c6 : Nat), v = .agg #[vs r0.Id, vb r0.Had, vs r0.Was.Id, vi r0.Was.Shape.Kind, .slice A0 n0 c0, .slice A2 n2 c2, vb r0.Has, vs r0.Now.Id, vi r0.Now.Shape.Kind, .slice A4 n4 c4, .slice A6 n6 c6] ∧ Q r0 ∧ Gr w0 w' none ∧ Ok w' ([blk (.slice A0 n0 c0), blk (.slice A2 n2 c2), blk (.slice A4 n4 c4), blk (.slice A6 n6 c6)] ++ O) ∧ (∀ b, some b ∈ [blk (.slice A0 n0 c0), blk (.slice A2 n2 c2), blk (.slice A4 n4 c4), blk (.slice A6 n6 c6)] → w0.heap.size ≤ b) ∧ Lim r0.Id ∧ Lim r0.Was.Id ∧ Ow kPt 29 w' ([blk (.slice A0 n0 c0), blk (.slice A2 n2 c2), blk (.slice A4 n4 c4), blk (.slice A6 n6 c6)] ++ O) (.slice A0 n0 c0) r0.Was.Shape.Pts ∧ Ow kTag 133 w' ([blk (.slice A0 n0 c0), blk (.slice A2 n2 c2), blk (.slice A4 n4 c4), blk (.slice A6 n6 c6)] ++ O) (.slice A2 n2 c2) r0.Was.Tags ∧ Lim r0.Now.Id ∧ Ow kPt 29 w' ([blk (.slice A0 n0 c0), blk (.slice A2 n2 c2), blk (.slice A4 n4 c4), blk (.slice A6 n6 c6)] ++ O) (.slice A4 n4 c4) r0.Now.Shape.Pts ∧ Ow kTag 133 w' ([blk (.slice A0 n0 c0), blk (.slice A2 n2 c2), blk (.slice A4 n4 c4), blk (.slice A6 n6 c6)] ++ O) (.slice A6 n6 c6) r0.Now.Tags) := by
 have H : impl_cloneFeat.E c_.Was (fun r => impl_cloneFeat.E c_.Now (fun r2 => Q (⟨c_.Id, c_.Had, r, c_.Has, r2⟩ : Change))) := h
 clear h
 have hc0 := Ct.init hO
 refine Ret_enter Try.func65 rfl 16 rfl [.cell 2 103] rfl rfl ?_
 refine W_seq ?_
 refine W_reg ?_
 refine L_box [vs c_.Id, vb c_.Had, vs c_.Was.Id, vi c_.Was.Shape.Kind, .slice A3 n4 c5, .slice A8 n9 c10, vb c_.Has, vs c_.Now.Id, vi c_.Now.Shape.Kind, .slice A14 n15 c16, .slice A19 n20 c21] rfl fun w24 b25 hl27 hu28 g26 hx29 => ?_
 have h31 := Fb.mk hc0.ok hl27 hx29
 have hc32 := hc0.k0 g26
 refine L_alloc [vs [], vb false, vs [], .int .i64 0, .slice none 0 0, .slice none 0 0, vb false, vs [], .int .i64 0, .slice none 0 0, .slice none 0 0] ze103 fun w33 b34 hl36 hu37 g35 hx38 => ?_
 have hc40 := hc32.own g35 (some b34) (oglt hl36 hu37)
 refine L_nil ?_
 refine W_seq ?_
 refine W_mixr 14 [some b34] (by kernel_rfl) rfl fun w41 g42 hM43 => ?_
 have hc44 := hc40.k0 g42
 refine M_pu 0 rfl (by kernel_rfl) hM43 (P_fa fa103_0 ⟨b25, 0, none⟩ ⟨b25, 0, none⟩ rfl rfl) ?_
 have h45 := ((h31.st (.own _ _ g35 (oge hl36))).st (.new _ g42))
 refine M_pu 1 rfl (by kernel_rfl) hM43 (P_ldr ag9 cR ⟨b25, 0, none⟩ (vs c_.Id) rfl (h45.cell rfl) (nm_cons (fr_ne (L := [some b34]) (O := O) (i := 0) h45.2 rfl) nm_nil)) ?_
 refine M_pu 2 rfl (by kernel_rfl) hM43 (P_fa fa103_1 ⟨b25, 0, none⟩ ⟨b25, 1, none⟩ rfl rfl) ?_
 refine M_pu 3 rfl (by kernel_rfl) hM43 (P_ldr ag4 cR ⟨b25, 1, none⟩ (vb c_.Had) rfl (h45.cell rfl) (nm_cons (fr_ne (L := [some b34]) (O := O) (i := 0) h45.2 rfl) nm_nil)) ?_
 refine M_pu 4 rfl (by kernel_rfl) hM43 (P_fa fa103_2 ⟨b25, 0, none⟩ ⟨b25, 2, none⟩ rfl rfl) ?_
 refine M_pu 5 rfl (by kernel_rfl) hM43 (P_ldar ag71 sz71 cR ⟨b25, 2, none⟩ [vs c_.Was.Id, vi c_.Was.Shape.Kind, .slice A3 n4 c5, .slice A8 n9 c10] rfl rfl (h45.cells (off := 2) rfl) (nm_cons (fr_ne (L := [some b34]) (O := O) (i := 0) h45.2 rfl) nm_nil)) ?_
 refine M_pu 7 rfl (by kernel_rfl) hM43 (P_fa fa103_3 ⟨b25, 0, none⟩ ⟨b25, 6, none⟩ rfl rfl) ?_
 refine M_pu 8 rfl (by kernel_rfl) hM43 (P_ldr ag4 cR ⟨b25, 6, none⟩ (vb c_.Has) rfl (h45.cell rfl) (nm_cons (fr_ne (L := [some b34]) (O := O) (i := 0) h45.2 rfl) nm_nil)) ?_
 refine M_pu 9 rfl (by kernel_rfl) hM43 (P_fa fa103_4 ⟨b25, 0, none⟩ ⟨b25, 7, none⟩ rfl rfl) ?_
 refine M_pu 10 rfl (by kernel_rfl) hM43 (P_ldar ag71 sz71 cR ⟨b25, 7, none⟩ [vs c_.Now.Id, vi c_.Now.Shape.Kind, .slice A14 n15 c16, .slice A19 n20 c21] rfl rfl (h45.cells (off := 7) rfl) (nm_cons (fr_ne (L := [some b34]) (O := O) (i := 0) h45.2 rfl) nm_nil)) ?_
 refine M_any1 6 (by kernel_rfl) rfl ?_
 refine L_call go102 [.agg #[vs c_.Was.Id, vi c_.Was.Shape.Kind, .slice A3 n4 c5, .slice A8 n9 c10]] rfl ((impl_cloneFeat.calls w41 hc44.ok c_.Was A3 n4 c5 A8 n9 c10 hs2 (hp6.st hc44.st) (hp11.st hc44.st) _ H).mono ?_)
 rintro _ w46 ⟨r, A49, n50, c51, A54, n55, c56, rfl, H, g47, hk60, hk61, hs48, h52, h57⟩
 have hc62 := hc44.owns g47 hk60 hk61
 have hM63 := Gm.tm hM43 g47
 refine L_nil ⟨hM63, ?_⟩
 refine M_any1 11 (by kernel_rfl) rfl ?_
 refine L_call go102 [.agg #[vs c_.Now.Id, vi c_.Now.Shape.Kind, .slice A14 n15 c16, .slice A19 n20 c21]] rfl ((impl_cloneFeat.calls w46 hc62.ok c_.Now A14 n15 c16 A19 n20 c21 hs13 (hp17.st hc62.st) (hp22.st hc62.st) _ H).mono ?_)
 rintro _ w64 ⟨r2, A67, n68, c69, A72, n73, c74, rfl, H, g65, hk78, hk79, hs66, h70, h75⟩
 have hc80 := hc62.owns g65 hk78 hk79
 have hM81 := Gm.tm hM63 g65
 refine L_nil ⟨hM81, ?_⟩
 refine M_pu 12 rfl (by kernel_rfl) hM81 (P_build (.agg #[vs c_.Id, vb c_.Had, vs r.Id, vi r.Shape.Kind, .slice A49 n50 c51, .slice A54 n55 c56, vb c_.Has, vs r2.Id, vi r2.Shape.Kind, .slice A67 n68 c69, .slice A72 n73 c74]) (fun _ => by kernel_rfl)) ?_
 refine M_any1 13 (by kernel_rfl) rfl ?_
 have h85 := (((hx38.k0 g42).k0 g47).k0 g65)
 refine L_stb b34 0 [vs ([] : Str), vb false, vs ([] : Str), vi 0, .slice none 0 0, .slice none 0 0, vb false, vs ([] : Str), vi 0, .slice none 0 0, .slice none 0 0] [vs c_.Id, vb c_.Had, vs r.Id, vi r.Shape.Kind, .slice A49 n50 c51, .slice A54 n55 c56, vb c_.Has, vs r2.Id, vi r2.Shape.Kind, .slice A67 n68 c69, .slice A72 n73 c74] [vs c_.Id, vb c_.Had, vs r.Id, vi r.Shape.Kind, .slice A49 n50 c51, .slice A54 n55 c56, vb c_.Has, vs r2.Id, vi r2.Shape.Kind, .slice A67 n68 c69, .slice A72 n73 c74] rfl h85 rfl sz103 rfl rfl rfl fun w82 g83 hx84 => ?_
 have hc86 := hc80.wr 4 rfl g83
 have hM87 := Gm.tq hM81 g83 (hv_mem 0 rfl)
 refine L_nil ⟨hM87, ?_⟩
 refine M_nil (by kernel_rfl) ?_
 refine W_ret ?_
 have h88 := Bx.gv (L := [blk (.slice A67 n68 c69), blk (.slice A72 n73 c74), blk (.slice A49 n50 c51), blk (.slice A54 n55 c56), some b34]) (O := O) hx84 hc86 (i := 4) rfl
 have hc89 := hc86.drop 4 rfl
 have hc90 := hc89.perm (.cons _ (.swap _ _ _))
 have hc91 := hc90.perm (.swap _ _ _)
 have hc92 := hc91.perm (.cons _ (.cons _ (.swap _ _ _)))
 have hc93 := hc92.perm (.cons _ (.swap _ _ _))
 have h94 := ((((h88.st (.perm (L := [blk (.slice A67 n68 c69), blk (.slice A72 n73 c74), blk (.slice A49 n50 c51), blk (.slice A54 n55 c56)]) (O := O) (.cons _ (.swap _ _ _)))).st (.perm (L := [blk (.slice A67 n68 c69), blk (.slice A49 n50 c51), blk (.slice A72 n73 c74), blk (.slice A54 n55 c56)]) (O := O) (.swap _ _ _))).st (.perm (L := [blk (.slice A49 n50 c51), blk (.slice A67 n68 c69), blk (.slice A72 n73 c74), blk (.slice A54 n55 c56)]) (O := O) (.cons _ (.cons _ (.swap _ _ _))))).st (.perm (L := [blk (.slice A49 n50 c51), blk (.slice A67 n68 c69), blk (.slice A54 n55 c56), blk (.slice A72 n73 c74)]) (O := O) (.cons _ (.swap _ _ _))))
 have h95 := (Ow.sp (L := [blk (.slice A49 n50 c51), blk (.slice A67 n68 c69), blk (.slice A54 n55 c56), blk (.slice A72 n73 c74)]) (O := O) (Ow.sp (L := [blk (.slice A49 n50 c51), blk (.slice A67 n68 c69), blk (.slice A72 n73 c74), blk (.slice A54 n55 c56)]) (O := O) (Ow.sp (L := [blk (.slice A67 n68 c69), blk (.slice A49 n50 c51), blk (.slice A72 n73 c74), blk (.slice A54 n55 c56)]) (O := O) (Ow.sp (L := [blk (.slice A67 n68 c69), blk (.slice A72 n73 c74), blk (.slice A49 n50 c51), blk (.slice A54 n55 c56)]) (O := O) (Ow.sd (L := [blk (.slice A67 n68 c69), blk (.slice A72 n73 c74), blk (.slice A49 n50 c51), blk (.slice A54 n55 c56), some b34]) (O := O) (Ow.sw (L := [blk (.slice A67 n68 c69), blk (.slice A72 n73 c74), blk (.slice A49 n50 c51), blk (.slice A54 n55 c56), some b34]) (O := O) (h52.sos g65 hk79) hc80 (i := 2) rfl (j := 4) rfl (by decide) g83) (i := 2) rfl (j := 4) rfl (by decide)) (.cons _ (.swap _ _ _))) (.swap _ _ _)) (.cons _ (.cons _ (.swap _ _ _)))) (.cons _ (.swap _ _ _)))
 have h96 := (Ow.sp (L := [blk (.slice A49 n50 c51), blk (.slice A67 n68 c69), blk (.slice A54 n55 c56), blk (.slice A72 n73 c74)]) (O := O) (Ow.sp (L := [blk (.slice A49 n50 c51), blk (.slice A67 n68 c69), blk (.slice A72 n73 c74), blk (.slice A54 n55 c56)]) (O := O) (Ow.sp (L := [blk (.slice A67 n68 c69), blk (.slice A49 n50 c51), blk (.slice A72 n73 c74), blk (.slice A54 n55 c56)]) (O := O) (Ow.sp (L := [blk (.slice A67 n68 c69), blk (.slice A72 n73 c74), blk (.slice A49 n50 c51), blk (.slice A54 n55 c56)]) (O := O) (Ow.sd (L := [blk (.slice A67 n68 c69), blk (.slice A72 n73 c74), blk (.slice A49 n50 c51), blk (.slice A54 n55 c56), some b34]) (O := O) (Ow.sw (L := [blk (.slice A67 n68 c69), blk (.slice A72 n73 c74), blk (.slice A49 n50 c51), blk (.slice A54 n55 c56), some b34]) (O := O) (h57.sos g65 hk79) hc80 (i := 3) rfl (j := 4) rfl (by decide) g83) (i := 3) rfl (j := 4) rfl (by decide)) (.cons _ (.swap _ _ _))) (.swap _ _ _)) (.cons _ (.cons _ (.swap _ _ _)))) (.cons _ (.swap _ _ _)))
 have h97 := (Ow.sp (L := [blk (.slice A49 n50 c51), blk (.slice A67 n68 c69), blk (.slice A54 n55 c56), blk (.slice A72 n73 c74)]) (O := O) (Ow.sp (L := [blk (.slice A49 n50 c51), blk (.slice A67 n68 c69), blk (.slice A72 n73 c74), blk (.slice A54 n55 c56)]) (O := O) (Ow.sp (L := [blk (.slice A67 n68 c69), blk (.slice A49 n50 c51), blk (.slice A72 n73 c74), blk (.slice A54 n55 c56)]) (O := O) (Ow.sp (L := [blk (.slice A67 n68 c69), blk (.slice A72 n73 c74), blk (.slice A49 n50 c51), blk (.slice A54 n55 c56)]) (O := O) (Ow.sd (L := [blk (.slice A67 n68 c69), blk (.slice A72 n73 c74), blk (.slice A49 n50 c51), blk (.slice A54 n55 c56), some b34]) (O := O) (Ow.sw (L := [blk (.slice A67 n68 c69), blk (.slice A72 n73 c74), blk (.slice A49 n50 c51), blk (.slice A54 n55 c56), some b34]) (O := O) h70 hc80 (i := 0) rfl (j := 4) rfl (by decide) g83) (i := 0) rfl (j := 4) rfl (by decide)) (.cons _ (.swap _ _ _))) (.swap _ _ _)) (.cons _ (.cons _ (.swap _ _ _)))) (.cons _ (.swap _ _ _)))
 have h98 := (Ow.sp (L := [blk (.slice A49 n50 c51), blk (.slice A67 n68 c69), blk (.slice A54 n55 c56), blk (.slice A72 n73 c74)]) (O := O) (Ow.sp (L := [blk (.slice A49 n50 c51), blk (.slice A67 n68 c69), blk (.slice A72 n73 c74), blk (.slice A54 n55 c56)]) (O := O) (Ow.sp (L := [blk (.slice A67 n68 c69), blk (.slice A49 n50 c51), blk (.slice A72 n73 c74), blk (.slice A54 n55 c56)]) (O := O) (Ow.sp (L := [blk (.slice A67 n68 c69), blk (.slice A72 n73 c74), blk (.slice A49 n50 c51), blk (.slice A54 n55 c56)]) (O := O) (Ow.sd (L := [blk (.slice A67 n68 c69), blk (.slice A72 n73 c74), blk (.slice A49 n50 c51), blk (.slice A54 n55 c56), some b34]) (O := O) (Ow.sw (L := [blk (.slice A67 n68 c69), blk (.slice A72 n73 c74), blk (.slice A49 n50 c51), blk (.slice A54 n55 c56), some b34]) (O := O) h75 hc80 (i := 1) rfl (j := 4) rfl (by decide) g83) (i := 1) rfl (j := 4) rfl (by decide)) (.cons _ (.swap _ _ _))) (.swap _ _ _)) (.cons _ (.cons _ (.swap _ _ _)))) (.cons _ (.swap _ _ _)))
 exact ⟨[.agg #[vs c_.Id, vb c_.Had, vs r.Id, vi r.Shape.Kind, .slice A49 n50 c51, .slice A54 n55 c56, vb c_.Has, vs r2.Id, vi r2.Shape.Kind, .slice A67 n68 c69, .slice A72 n73 c74]], ⟨_, _, rfl, h94.1.res rfl ag103 sz103, rfl⟩, (⟨c_.Id, c_.Had, r, c_.Has, r2⟩ : Change), A49, n50, c51, A54, n55, c56, A67, n68, c69, A72, n73, c74, rfl, H, hc93.gr.g0, hc93.ok, hc93.ge, hs1, hs48, h95, h96, hs66, h97, h98⟩
end Go.Proofs.Ytndjggncgpjolaa

namespace Go.Proofs.Ytndjggncgpjolaa
set_option linter.unusedVariables false
set_option linter.unusedSimpArgs false
set_option linter.unusedSectionVars false
theorem impl_cloneChange.law (c : Change) (Q : Change → Prop) (hb : bulk c ≤ 1048576) (hq : Q c) : impl_cloneChange.E c Q := by
 unfold impl_cloneChange.E
 have h := bulk_change c
 exact impl_cloneFeat.law _ _ (by omega) (impl_cloneFeat.law _ _ (by omega) hq)
end Go.Proofs.Ytndjggncgpjolaa
