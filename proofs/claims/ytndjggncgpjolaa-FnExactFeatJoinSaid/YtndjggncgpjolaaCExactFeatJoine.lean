/- It is proved here that the law FnExactFeatJoin of the given program holds whatever it is handed: the walks through the code, the plain laws and the row, in this order.
   Conditions: none. -/
import Derived.Below
import Derived.ChangeArms
import Derived.ChangeOld
import Derived.ChangeSlices
import Derived.DataReads
import Derived.Deep.Quiet
import Derived.KernelRfl
import Derived.Laws.Build
import Derived.Laws.IdiomStrings
import Derived.Laws.OwnMore
import Derived.Laws.Slices
import Derived.Laws.StructEq
import Derived.OpenShut
import Derived.ProofKit
import Derived.Shelf.Slices.Cells
import Derived.Shelf.Slices.CompactS
import Derived.Shelf.Slices.In.SortNone
import Derived.Shelf.Small.Bits
import Derived.Shelf.Sort.Plain
import Derived.Shelf.Strconv.Itoa0
import Derived.ShutString
import Derived.SizedLaws
import Derived.StillTail
import Derived.Test.YtndjggncgpjolaaProg
import Derived.Test.YtndjggncgpjolaaRows
import Derived.WalkKit
import Derived.Test.YtndjggncgpjolaaCExactFeatJoina
import Derived.Test.YtndjggncgpjolaaCExactFeatJoinb
import Derived.Test.YtndjggncgpjolaaCExactFeatJoinc
import Derived.Test.YtndjggncgpjolaaCExactFeatJoind
namespace Go.Proofs.Ytndjggncgpjolaa
open Go.RowKit
set_option linter.unusedVariables false
set_option linter.unusedSimpArgs false
def laws_eqTag.E (a : Tag) (b : Tag) (Q : Bool → Prop) : Prop :=
 (if a.Key != b.Key then Q false else (if a.Val != b.Val then Q false else Q true))
set_option maxHeartbeats 8000000 in
set_option maxRecDepth 100000 in
theorem laws_eqTag.calls {O : Ob} (w0 : World) (hO : Ok w0 O) (a : Tag) (hs1 : Lim a.Key) (hs2 : Lim a.Val) (b : Tag) (hs3 : Lim b.Key) (hs4 : Lim b.Val) (Q : Bool → Prop) (h : laws_eqTag.E a b Q) :
  Ret Try.prog 145 [.agg #[vs a.Key, vs a.Val], .agg #[vs b.Key, vs b.Val]] w0 (fun v w' => ∃ (r0 : Bool), v = vb r0 ∧ Q r0 ∧ Gr w0 w' none) := by
 unfold laws_eqTag.E at h
 have H := h
 clear h
 have hc0 := Ct.init hO
 refine Ret_enter Try.func145 rfl 15 rfl [.tmp 4] rfl rfl ?_
 refine W_seq ?_
 refine W_reg ?_
 refine L_box [vs a.Key, vs a.Val] rfl fun w5 b6 hl8 hu9 g7 ai => ?_
 have aj := Fb.mk hc0.ok hl8 ai
 have ab := hc0.k0 g7
 refine L_box [vs b.Key, vs b.Val] rfl fun an aa ak hu18 af al => ?_
 have ag := Fb.mk ab.ok ak al
 have ac := ab.k0 af
 refine L_pu (P_assign (vb false) rfl) ?_
 refine L_nil ?_
 refine W_seq ?_
 refine W_seq ?_
 refine W_reg ?_
 refine L_pu (P_fa fa133_0 ⟨b6, 0, none⟩ ⟨b6, 0, none⟩ rfl rfl) ?_
 have am := ab.stn af
 have ah := (aj.st am)
 refine L_pu (P_ld ag9 cL ⟨b6, 0, none⟩ (vs a.Key) rfl (ah.cell rfl)) ?_
 refine L_pu (P_fa fa133_0 ⟨aa, 0, none⟩ ⟨aa, 0, none⟩ rfl rfl) ?_
 refine L_pu (P_ld ag9 cL ⟨aa, 0, none⟩ (vs b.Key) rfl (ag.cell rfl)) ?_
 refine L_pu (P_scmp a.Key b.Key (a.Key != b.Key) rfl rfl rfl) ?_
 refine L_nil ?_
 refine W_cond (a.Key != b.Key) rfl (fun ad => ?_) (fun ad => ?_)
 ·have H := ite_t H ad
  refine W_seq ?_
  refine W_reg ?_
  refine L_pu (P_assign (vb false) rfl) ?_
  refine L_nil ?_
  refine W_ret ?_
  exact ⟨[vb false], ⟨_, rfl, rfl⟩, false, rfl, H, ac.gr.g0⟩
 ·have H := ite_f H ad
  refine W_skip ?_
  refine W_seq ?_
  refine W_seq ?_
  refine W_reg ?_
  refine L_pu (P_fa fa133_1 ⟨b6, 0, none⟩ ⟨b6, 1, none⟩ rfl rfl) ?_
  refine L_pu (P_ld ag9 cL ⟨b6, 1, none⟩ (vs a.Val) rfl (ah.cell rfl)) ?_
  refine L_pu (P_fa fa133_1 ⟨aa, 0, none⟩ ⟨aa, 1, none⟩ rfl rfl) ?_
  refine L_pu (P_ld ag9 cL ⟨aa, 1, none⟩ (vs b.Val) rfl (ag.cell rfl)) ?_
  refine L_pu (P_scmp a.Val b.Val (a.Val != b.Val) rfl rfl rfl) ?_
  refine L_nil ?_
  refine W_cond (a.Val != b.Val) rfl (fun ae => ?_) (fun ae => ?_)
  ·have H := ite_t H ae
   refine W_seq ?_
   refine W_reg ?_
   refine L_pu (P_assign (vb false) rfl) ?_
   refine L_nil ?_
   refine W_ret ?_
   exact ⟨[vb false], ⟨_, rfl, rfl⟩, false, rfl, H, ac.gr.g0⟩
  ·have H := ite_f H ae
   refine W_skip ?_
   refine W_seq ?_
   refine W_reg ?_
   refine L_pu (P_assign (vb true) rfl) ?_
   refine L_nil ?_
   refine W_ret ?_
   exact ⟨[vb true], ⟨_, rfl, rfl⟩, true, rfl, H, ac.gr.g0⟩
end Go.Proofs.Ytndjggncgpjolaa

namespace Go.Proofs.Ytndjggncgpjolaa
set_option linter.unusedVariables false
set_option linter.unusedSimpArgs false
set_option linter.unusedSectionVars false
theorem laws_eqTag.law (a b : Tag) (Q : Bool → Prop) (hq : Q (decide (a = b))) : laws_eqTag.E a b Q := by
 obtain ⟨x0, x1⟩ := a; obtain ⟨y0, y1⟩ := b
 rw [show (decide ((⟨x0, x1⟩ : Tag) = ⟨y0, y1⟩)) = ((decide (x0 = y0)) && (decide (x1 = y1))) by simp only [Tag.mk.injEq, Bool.decide_and]] at hq
 unfold laws_eqTag.E
 by_cases h0 : x0 = y0
 case neg => simpa [h0] using hq
 simp only [h0, decide_true, Bool.true_and, bne_self_eq_false, Bool.not_true, Bool.false_eq_true, if_false] at hq ⊢
 by_cases h1 : x1 = y1
 case neg => simpa [h1] using hq
 simp only [h1, decide_true, Bool.true_and, bne_self_eq_false, Bool.not_true, Bool.false_eq_true, if_false] at hq ⊢
 all_goals (try exact hq)
theorem laws_eqTag.is (a b : Tag) : laws_eqTag.E a b (fun r => r = decide (a = b)) := laws_eqTag.law a b _ rfl
end Go.Proofs.Ytndjggncgpjolaa

namespace Go.Proofs.Ytndjggncgpjolaa
open Go.RowKit
set_option linter.unusedVariables false
set_option linter.unusedSimpArgs false
def laws_eqTagS.E (a : List Tag) (b : List Tag) (Q : Bool → Prop) : Prop :=
 (if (a.length : Int) != (b.length : Int) then Q false else (∃ (I32 : Int → Prop) (mu33 : Int → Nat), I32 0 ∧ ∀ (i2 : Int), I32 i2 → (if decide (i2 < (a.length : Int)) then ((0 : Int) ≤ i2 ∧ i2 < (a.length : Int)) ∧ ((0 : Int) ≤ i2 ∧ i2 < (b.length : Int)) ∧ (if !(decide ((nth a i2) = (nth b i2))) then Q false else (-9223372036854775808 ≤ i2) ∧ I32 (i2 + 1) ∧ mu33 (i2 + 1) < mu33 i2) else Q true)))
set_option maxHeartbeats 8000000 in
set_option maxRecDepth 100000 in
theorem laws_eqTagS.calls {O : Ob} (w0 : World) (hO : Ok w0 O) (a : List Tag) (A1 : Option Addr) (n2 c3 : Nat) (hp4 : Sl kTag w0 (Fr O) (.slice A1 n2 c3) a) (b : List Tag) (A6 : Option Addr) (n7 c8 : Nat) (hp9 : Sl kTag w0 (Fr O) (.slice A6 n7 c8) b) (Q : Bool → Prop) (h : laws_eqTagS.E a b Q) :
  Ret Try.prog 104 [.slice A1 n2 c3, .slice A6 n7 c8] w0 (fun v w' => ∃ (r0 : Bool), v = vb r0 ∧ Q r0 ∧ Gr w0 w' none) := by
 unfold laws_eqTagS.E at h
 have H := h
 clear h
 have hc0 := Ct.init hO
 refine Ret_enter Try.func104 rfl 27 rfl [.tmp 4] rfl rfl ?_
 refine W_seq ?_
 refine W_reg ?_
 refine L_pu (P_assign (vb false) rfl) ?_
 refine L_nil ?_
 refine W_seq ?_
 refine W_seq ?_
 refine W_reg ?_
 refine L_pu (P_move (.slice A1 n2 c3) rfl) ?_
 have a9 := hp4.le
 refine L_pu (P_len Try.underlying69 A1 n2 c3 hp4.len rfl) ?_
 refine L_pu (P_move (.slice A6 n7 c8) rfl) ?_
 have ba := hp9.le
 refine L_pu (P_len Try.underlying69 A6 n7 c8 hp9.len rfl) ?_
 refine L_pu (P_cmp (a.length : Int) (b.length : Int) ((a.length : Int) != (b.length : Int)) rfl rfl rfl) ?_
 refine L_nil ?_
 refine W_cond ((a.length : Int) != (b.length : Int)) rfl (fun ae => ?_) (fun ae => ?_)
 ·have H := ite_t H ae
  refine W_seq ?_
  refine W_reg ?_
  refine L_pu (P_assign (vb false) rfl) ?_
  refine L_nil ?_
  refine W_ret ?_
  exact ⟨[vb false], ⟨_, rfl, rfl⟩, false, rfl, H, hc0.gr.g0⟩
 ·have H := ite_f H ae
  refine W_skip ?_
  refine W_seq ?_
  refine W_seq ?_
  refine W_reg ?_
  refine L_pu (P_assign (vi 0) rfl) ?_
  refine L_nil ?_
  refine W_block ?_
  obtain ⟨ap, aq, af, H⟩ := H
  refine W_loop (α := Int) (fun (sv__ : Int) t aa => match sv__ with | i2 => ap i2 ∧ Has t [(0, .slice A1 n2 c3), (1, .slice A6 n7 c8), (5, vi i2)] ∧ Ct [] w0 aa [] O ∧ Sl kTag aa (Fr ([] ++ O)) (.slice A1 n2 c3) a ∧ Sl kTag aa (Fr ([] ++ O)) (.slice A6 n7 c8) b) (fun (sv__ : Int) => match sv__ with | i2 => aq i2) 0 ⟨af, ⟨rfl, rfl, rfl, trivial⟩, hc0, hp4, hp9⟩ ?_
  rintro i2 _ aa ⟨af, ar, ac, ab, ag⟩
  obtain ⟨bb, rfl⟩ := Has.ins ar
  have H := H i2 af
  refine W_seq ?_
  refine W_seq ?_
  refine W_reg ?_
  refine L_pu (P_move (vi i2) rfl) ?_
  refine L_pu (P_move (.slice A1 n2 c3) rfl) ?_
  have au := ab.le
  refine L_pu (P_len Try.underlying69 A1 n2 c3 ab.len rfl) ?_
  refine L_pu (P_cmp i2 (a.length : Int) (decide (i2 < (a.length : Int))) rfl rfl rfl) ?_
  refine L_nil ?_
  refine W_cond (decide (i2 < (a.length : Int))) rfl (fun ad => ?_) (fun ad => ?_)
  ·have H := ite_t H ad
   refine W_skip ?_
   refine W_seq ?_
   refine W_block ?_
   refine W_seq ?_
   refine W_draw (fun x => Gr aa x none) (by kernel_rfl) (by kernel_rfl) (Gr.drew _) ?_
   refine Q_pu (P_move (.slice A1 n2 c3) rfl) ?_
   refine Q_pu (P_move (vi i2) rfl) ?_
   obtain ⟨ai, H⟩ := H
   obtain ⟨aj, bc, av, bd, aw, ax⟩ := ab.get default (by decide) i2 ai
   obtain ⟨rfl, ay, az⟩ := kTag.op aw
   refine Q_pu (P_ia Try.underlying69 se69 A1 aj n2 c3 ab.len i2 rfl av rfl ai) ?_
   refine Q_pu (P_lda ag133 sz133 cQ (aj.add (i2.toNat * 2)) [vs ((nth a i2).Key), vs ((nth a i2).Val)] rfl rfl ax) ?_
   refine Q_pu (P_move (.slice A6 n7 c8) rfl) ?_
   refine Q_pu (P_move (vi i2) rfl) ?_
   obtain ⟨ak, H⟩ := H
   obtain ⟨al, be, a0, bf, a1, a2⟩ := ag.get default (by decide) i2 ak
   obtain ⟨rfl, a3, a4⟩ := kTag.op a1
   refine Q_pu (P_ia Try.underlying69 se69 A6 al n7 c8 ag.len i2 rfl a0 rfl ak) ?_
   refine Q_pu (P_lda ag133 sz133 cQ (al.add (i2.toNat * 2)) [vs ((nth b i2).Key), vs ((nth b i2).Val)] rfl rfl a2) ?_
   refine Q_call go145 [.agg #[vs ((nth a i2).Key), vs ((nth a i2).Val)], .agg #[vs ((nth b i2).Key), vs ((nth b i2).Val)]] rfl (vb (decide ((nth a i2) = (nth b i2)))) (fun w g => (laws_eqTag.calls w (ac.k0 g).ok (nth a i2) ay az (nth b i2) a3 a4 _ (laws_eqTag.is (nth a i2) (nth b i2))).mono ?_) ?_
   ·rintro _ w ⟨r, rfl, rfl, g2⟩
    exact ⟨rfl, Gr.t0 g g2⟩
   refine Q_pu (P_not (decide ((nth a i2) = (nth b i2))) rfl) ?_
   refine Q_nil fun bg am => ?_
   have an := ac.k0 am
   refine W_cond (!(decide ((nth a i2) = (nth b i2)))) rfl (fun ah => ?_) (fun ah => ?_)
   ·have H := ite_t H ah
    refine W_seq ?_
    refine W_reg ?_
    refine L_pu (P_assign (vb false) rfl) ?_
    refine L_nil ?_
    refine W_ret ?_
    exact ⟨[vb false], ⟨_, rfl, rfl⟩, false, rfl, H, an.gr.g0⟩
   ·have H := ite_f H ah
    refine W_skip ?_
    refine W_reg ?_
    refine L_pu (P_move (vi i2) rfl) ?_
    obtain ⟨a5, H⟩ := H
    have a6 : I64 (i2 + 1) := i64_succ (of_decide_eq_true ad) au a5
    refine L_pu (P_add i2 1 rfl rfl a6) ?_
    refine L_pu (P_assign (vi (i2 + 1)) rfl) ?_
    refine L_nil ?_
    obtain ⟨a7, a8⟩ := H
    have ao := ac.stn am
    exact ⟨i2 + 1, a8, a7, ⟨rfl, rfl, rfl, trivial⟩, an, (ab.st ao), (ag.st ao)⟩
  ·have H := ite_f H ad
   refine W_exit (xin_hit ?_)
   refine W_seq ?_
   refine W_reg ?_
   refine L_pu (P_assign (vb true) rfl) ?_
   refine L_nil ?_
   refine W_ret ?_
   exact ⟨[vb true], ⟨_, rfl, rfl⟩, true, rfl, H, ac.gr.g0⟩
end Go.Proofs.Ytndjggncgpjolaa

namespace Go.Proofs.Ytndjggncgpjolaa
open Go.RowKit
set_option linter.unusedVariables false
set_option linter.unusedSimpArgs false
def laws_eqFeat.E (a : Feat) (b : Feat) (Q : Bool → Prop) : Prop :=
 (if a.Id != b.Id then Q false else laws_eqShape.E a.Shape b.Shape (fun r => (if !r then Q false else laws_eqTagS.E a.Tags b.Tags (fun r2 => (if !r2 then Q false else Q true)))))
set_option maxHeartbeats 8000000 in
set_option maxRecDepth 100000 in
theorem laws_eqFeat.calls {O : Ob} (w0 : World) (hO : Ok w0 O) (a : Feat) (A2 : Option Addr) (n3 c4 : Nat) (A7 : Option Addr) (n8 c9 : Nat) (hs1 : Lim a.Id) (hp5 : Sl kPt w0 (Fr O) (.slice A2 n3 c4) a.Shape.Pts) (aw : Sl kTag w0 (Fr O) (.slice A7 n8 c9) a.Tags) (b : Feat) (ac : Option Addr) (ad ae : Nat) (af : Option Addr) (ag ah : Nat) (bb : Lim b.Id) (ax : Sl kPt w0 (Fr O) (.slice ac ad ae) b.Shape.Pts) (ay : Sl kTag w0 (Fr O) (.slice af ag ah) b.Tags) (Q : Bool → Prop) (h : laws_eqFeat.E a b Q) :
  Ret Try.prog 37 [.agg #[vs a.Id, vi a.Shape.Kind, .slice A2 n3 c4, .slice A7 n8 c9], .agg #[vs b.Id, vi b.Shape.Kind, .slice ac ad ae, .slice af ag ah]] w0 (fun v w' => ∃ (r0 : Bool), v = vb r0 ∧ Q r0 ∧ Gr w0 w' none) := by
 unfold laws_eqFeat.E at h
 have H := h
 clear h
 have hc0 := Ct.init hO
 refine Ret_enter Try.func37 rfl 22 rfl [.tmp 4] rfl rfl ?_
 refine W_seq ?_
 refine W_reg ?_
 refine L_box [vs a.Id, vi a.Shape.Kind, .slice A2 n3 c4, .slice A7 n8 c9] rfl fun bc aa az hu27 a0 a1 => ?_
 have a2 := Fb.mk hc0.ok az a1
 have ak := hc0.k0 a0
 refine L_box [vs b.Id, vi b.Shape.Kind, .slice ac ad ae, .slice af ag ah] rfl fun a3 ab a4 hu36 aq a5 => ?_
 have al := Fb.mk ak.ok a4 a5
 have ai := ak.k0 aq
 refine L_pu (P_assign (vb false) rfl) ?_
 refine L_nil ?_
 refine W_seq ?_
 refine W_seq ?_
 refine W_reg ?_
 refine L_pu (P_fa fa71_0 ⟨aa, 0, none⟩ ⟨aa, 0, none⟩ rfl rfl) ?_
 have a6 := ak.stn aq
 have am := (a2.st a6)
 refine L_pu (P_ld ag9 cL ⟨aa, 0, none⟩ (vs a.Id) rfl (am.cell rfl)) ?_
 refine L_pu (P_fa fa71_0 ⟨ab, 0, none⟩ ⟨ab, 0, none⟩ rfl rfl) ?_
 refine L_pu (P_ld ag9 cL ⟨ab, 0, none⟩ (vs b.Id) rfl (al.cell rfl)) ?_
 refine L_pu (P_scmp a.Id b.Id (a.Id != b.Id) rfl rfl rfl) ?_
 refine L_nil ?_
 refine W_cond (a.Id != b.Id) rfl (fun an => ?_) (fun an => ?_)
 ·have H := ite_t H an
  refine W_seq ?_
  refine W_reg ?_
  refine L_pu (P_assign (vb false) rfl) ?_
  refine L_nil ?_
  refine W_ret ?_
  exact ⟨[vb false], ⟨_, rfl, rfl⟩, false, rfl, H, ai.gr.g0⟩
 ·have H := ite_f H an
  refine W_skip ?_
  refine W_seq ?_
  refine W_seq ?_
  refine W_reg ?_
  refine L_pu (P_fa fa71_1 ⟨aa, 0, none⟩ ⟨aa, 1, none⟩ rfl rfl) ?_
  refine L_pu (P_lda ag68 sz68 cL ⟨aa, 1, none⟩ [vi a.Shape.Kind, .slice A2 n3 c4] rfl rfl (am.cells (off := 1) rfl)) ?_
  refine L_pu (P_fa fa71_1 ⟨ab, 0, none⟩ ⟨ab, 1, none⟩ rfl rfl) ?_
  refine L_pu (P_lda ag68 sz68 cL ⟨ab, 1, none⟩ [vi b.Shape.Kind, .slice ac ad ae] rfl rfl (al.cells (off := 1) rfl)) ?_
  refine L_call go103 [.agg #[vi a.Shape.Kind, .slice A2 n3 c4], .agg #[vi b.Shape.Kind, .slice ac ad ae]] rfl ((laws_eqShape.calls a3 ai.ok a.Shape A2 n3 c4 (hp5.st ai.st) b.Shape ac ad ae (ax.st ai.st) _ H).mono ?_)
  rintro _ a7 ⟨r, rfl, H, ar⟩
  have aj := ai.k0 ar
  refine L_pu (P_not r rfl) ?_
  refine L_nil ?_
  refine W_cond (!r) rfl (fun ao => ?_) (fun ao => ?_)
  ·have H := ite_t H ao
   refine W_seq ?_
   refine W_reg ?_
   refine L_pu (P_assign (vb false) rfl) ?_
   refine L_nil ?_
   refine W_ret ?_
   exact ⟨[vb false], ⟨_, rfl, rfl⟩, false, rfl, H, aj.gr.g0⟩
  ·have H := ite_f H ao
   refine W_skip ?_
   refine W_seq ?_
   refine W_seq ?_
   refine W_reg ?_
   refine L_pu (P_fa fa71_2 ⟨aa, 0, none⟩ ⟨aa, 3, none⟩ rfl rfl) ?_
   have au := ai.stn ar
   have a8 := (am.st au)
   refine L_pu (P_ld ag69 cL ⟨aa, 3, none⟩ (.slice A7 n8 c9) rfl (a8.cell rfl)) ?_
   refine L_pu (P_fa fa71_2 ⟨ab, 0, none⟩ ⟨ab, 3, none⟩ rfl rfl) ?_
   have a9 := (al.st au)
   refine L_pu (P_ld ag69 cL ⟨ab, 3, none⟩ (.slice af ag ah) rfl (a9.cell rfl)) ?_
   refine L_call go104 [.slice A7 n8 c9, .slice af ag ah] rfl ((laws_eqTagS.calls a7 aj.ok a.Tags A7 n8 c9 (aw.st aj.st) b.Tags af ag ah (ay.st aj.st) _ H).mono ?_)
   rintro _ bd ⟨r2, rfl, H, ba⟩
   have av := aj.k0 ba
   refine L_pu (P_not r2 rfl) ?_
   refine L_nil ?_
   refine W_cond (!r2) rfl (fun ap => ?_) (fun ap => ?_)
   ·have H := ite_t H ap
    refine W_seq ?_
    refine W_reg ?_
    refine L_pu (P_assign (vb false) rfl) ?_
    refine L_nil ?_
    refine W_ret ?_
    exact ⟨[vb false], ⟨_, rfl, rfl⟩, false, rfl, H, av.gr.g0⟩
   ·have H := ite_f H ap
    refine W_skip ?_
    refine W_seq ?_
    refine W_reg ?_
    refine L_pu (P_assign (vb true) rfl) ?_
    refine L_nil ?_
    refine W_ret ?_
    exact ⟨[vb true], ⟨_, rfl, rfl⟩, true, rfl, H, av.gr.g0⟩
end Go.Proofs.Ytndjggncgpjolaa

namespace Go.Proofs.Ytndjggncgpjolaa
open Go.RowKit
set_option linter.unusedVariables false
set_option linter.unusedSimpArgs false
def laws_eqStringS.E (a : List Str) (b : List Str) (Q : Bool → Prop) : Prop :=
 (if (a.length : Int) != (b.length : Int) then Q false else (∃ (I32 : Int → Prop) (mu33 : Int → Nat), I32 0 ∧ ∀ (i2 : Int), I32 i2 → (if decide (i2 < (a.length : Int)) then ((0 : Int) ≤ i2 ∧ i2 < (a.length : Int)) ∧ ((0 : Int) ≤ i2 ∧ i2 < (b.length : Int)) ∧ (if (nth a i2) != (nth b i2) then Q false else (-9223372036854775808 ≤ i2) ∧ I32 (i2 + 1) ∧ mu33 (i2 + 1) < mu33 i2) else Q true)))
set_option maxHeartbeats 8000000 in
set_option maxRecDepth 100000 in
theorem laws_eqStringS.calls {O : Ob} (w0 : World) (hO : Ok w0 O) (a : List Str) (A1 : Option Addr) (n2 c3 : Nat) (hp4 : Sl Kd.str w0 (Fr O) (.slice A1 n2 c3) a) (b : List Str) (A6 : Option Addr) (n7 c8 : Nat) (hp9 : Sl Kd.str w0 (Fr O) (.slice A6 n7 c8) b) (Q : Bool → Prop) (h : laws_eqStringS.E a b Q) :
  Ret Try.prog 38 [.slice A1 n2 c3, .slice A6 n7 c8] w0 (fun v w' => ∃ (r0 : Bool), v = vb r0 ∧ Q r0 ∧ Gr w0 w' none) := by
 unfold laws_eqStringS.E at h
 have H := h
 clear h
 have hc0 := Ct.init hO
 refine Ret_enter Try.func38 rfl 26 rfl [.tmp 4] rfl rfl ?_
 refine W_seq ?_
 refine W_reg ?_
 refine L_pu (P_assign (vb false) rfl) ?_
 refine L_nil ?_
 refine W_seq ?_
 refine W_seq ?_
 refine W_reg ?_
 refine L_pu (P_move (.slice A1 n2 c3) rfl) ?_
 have a5 := hp4.le
 refine L_pu (P_len Try.underlying72 A1 n2 c3 hp4.len rfl) ?_
 refine L_pu (P_move (.slice A6 n7 c8) rfl) ?_
 have a6 := hp9.le
 refine L_pu (P_len Try.underlying72 A6 n7 c8 hp9.len rfl) ?_
 refine L_pu (P_cmp (a.length : Int) (b.length : Int) ((a.length : Int) != (b.length : Int)) rfl rfl rfl) ?_
 refine L_nil ?_
 refine W_cond ((a.length : Int) != (b.length : Int)) rfl (fun ad => ?_) (fun ad => ?_)
 ·have H := ite_t H ad
  refine W_seq ?_
  refine W_reg ?_
  refine L_pu (P_assign (vb false) rfl) ?_
  refine L_nil ?_
  refine W_ret ?_
  exact ⟨[vb false], ⟨_, rfl, rfl⟩, false, rfl, H, hc0.gr.g0⟩
 ·have H := ite_f H ad
  refine W_skip ?_
  refine W_seq ?_
  refine W_seq ?_
  refine W_reg ?_
  refine L_pu (P_assign (vi 0) rfl) ?_
  refine L_nil ?_
  refine W_block ?_
  obtain ⟨ap, aq, ae, H⟩ := H
  refine W_loop (α := Int) (fun (sv__ : Int) t aa => match sv__ with | i2 => ap i2 ∧ Has t [(0, .slice A1 n2 c3), (1, .slice A6 n7 c8), (5, vi i2)] ∧ Ct [] w0 aa [] O ∧ Sl Kd.str aa (Fr ([] ++ O)) (.slice A1 n2 c3) a ∧ Sl Kd.str aa (Fr ([] ++ O)) (.slice A6 n7 c8) b) (fun (sv__ : Int) => match sv__ with | i2 => aq i2) 0 ⟨ae, ⟨rfl, rfl, rfl, trivial⟩, hc0, hp4, hp9⟩ ?_
  rintro i2 _ aa ⟨ae, ar, af, ab, ag⟩
  obtain ⟨a7, rfl⟩ := Has.ins ar
  have H := H i2 ae
  refine W_seq ?_
  refine W_seq ?_
  refine W_reg ?_
  refine L_pu (P_move (vi i2) rfl) ?_
  refine L_pu (P_move (.slice A1 n2 c3) rfl) ?_
  have au := ab.le
  refine L_pu (P_len Try.underlying72 A1 n2 c3 ab.len rfl) ?_
  refine L_pu (P_cmp i2 (a.length : Int) (decide (i2 < (a.length : Int))) rfl rfl rfl) ?_
  refine L_nil ?_
  refine W_cond (decide (i2 < (a.length : Int))) rfl (fun ac => ?_) (fun ac => ?_)
  ·have H := ite_t H ac
   refine W_skip ?_
   refine W_seq ?_
   refine W_block ?_
   refine W_seq ?_
   refine W_draw (fun x => Gr aa x none) (by kernel_rfl) (by kernel_rfl) (Gr.drew _) ?_
   refine Q_pu (P_move (.slice A1 n2 c3) rfl) ?_
   refine Q_pu (P_move (vi i2) rfl) ?_
   obtain ⟨ai, H⟩ := H
   obtain ⟨aj, a8, av, a9, aw, ax⟩ := ab.get default (by decide) i2 ai
   obtain ⟨rfl, ba⟩ := Kd.str.op aw
   refine Q_pu (P_ia Try.underlying72 se72 A1 aj n2 c3 ab.len i2 rfl av rfl ai) ?_
   refine Q_pu (P_ld ag9 cQ (aj.add (i2.toNat * 1)) (vs (nth a i2)) rfl (ax 0 _ rfl)) ?_
   refine Q_pu (P_move (.slice A6 n7 c8) rfl) ?_
   refine Q_pu (P_move (vi i2) rfl) ?_
   obtain ⟨ak, H⟩ := H
   obtain ⟨al, bb, ay, bc, az, a0⟩ := ag.get default (by decide) i2 ak
   obtain ⟨rfl, bd⟩ := Kd.str.op az
   refine Q_pu (P_ia Try.underlying72 se72 A6 al n7 c8 ag.len i2 rfl ay rfl ak) ?_
   refine Q_pu (P_ld ag9 cQ (al.add (i2.toNat * 1)) (vs (nth b i2)) rfl (a0 0 _ rfl)) ?_
   refine Q_pu (P_scmp (nth a i2) (nth b i2) ((nth a i2) != (nth b i2)) rfl rfl rfl) ?_
   refine Q_nil fun be am => ?_
   have an := af.k0 am
   refine W_cond ((nth a i2) != (nth b i2)) rfl (fun ah => ?_) (fun ah => ?_)
   ·have H := ite_t H ah
    refine W_seq ?_
    refine W_reg ?_
    refine L_pu (P_assign (vb false) rfl) ?_
    refine L_nil ?_
    refine W_ret ?_
    exact ⟨[vb false], ⟨_, rfl, rfl⟩, false, rfl, H, an.gr.g0⟩
   ·have H := ite_f H ah
    refine W_skip ?_
    refine W_reg ?_
    refine L_pu (P_move (vi i2) rfl) ?_
    obtain ⟨a1, H⟩ := H
    have a2 : I64 (i2 + 1) := i64_succ (of_decide_eq_true ac) au a1
    refine L_pu (P_add i2 1 rfl rfl a2) ?_
    refine L_pu (P_assign (vi (i2 + 1)) rfl) ?_
    refine L_nil ?_
    obtain ⟨a3, a4⟩ := H
    have ao := af.stn am
    exact ⟨i2 + 1, a4, a3, ⟨rfl, rfl, rfl, trivial⟩, an, (ab.st ao), (ag.st ao)⟩
  ·have H := ite_f H ac
   refine W_exit (xin_hit ?_)
   refine W_seq ?_
   refine W_reg ?_
   refine L_pu (P_assign (vb true) rfl) ?_
   refine L_nil ?_
   refine W_ret ?_
   exact ⟨[vb true], ⟨_, rfl, rfl⟩, true, rfl, H, af.gr.g0⟩
end Go.Proofs.Ytndjggncgpjolaa

namespace Go.Proofs.Ytndjggncgpjolaa
open Go.RowKit
set_option linter.unusedVariables false
set_option linter.unusedSimpArgs false
def laws_markPtS.E (a : List Pt) (k : Int) (Q : Int → List Pt → Prop) : Prop :=
 (∃ (I23 : (List Pt) → Int → Int → Prop) (mu24 : (List Pt) → Int → Int → Nat), I23 a k 0 ∧ ∀ (xs2 : List Pt) (k3 : Int) (i2 : Int), I23 xs2 k3 i2 → (if decide (i2 < (xs2.length : Int)) then ((0 : Int) ≤ i2 ∧ i2 < (xs2.length : Int)) ∧ ((xs2.length : Int) ≤ 9223372036854775807 → I64 (k3 + 1)) ∧ ((0 : Int) ≤ i2 ∧ i2 < ((xs2.set i2.toNat (⟨k3, (nth xs2 i2).Y⟩ : Pt)).length : Int)) ∧ ((xs2.length : Int) ≤ 9223372036854775807 → I64 (k3 + 1 + 1)) ∧ (-9223372036854775808 ≤ i2) ∧ I23 ((xs2.set i2.toNat (⟨k3, (nth xs2 i2).Y⟩ : Pt)).set i2.toNat (⟨(nth (xs2.set i2.toNat (⟨k3, (nth xs2 i2).Y⟩ : Pt)) i2).X, k3 + 1⟩ : Pt)) (k3 + 1 + 1) (i2 + 1) ∧ mu24 ((xs2.set i2.toNat (⟨k3, (nth xs2 i2).Y⟩ : Pt)).set i2.toNat (⟨(nth (xs2.set i2.toNat (⟨k3, (nth xs2 i2).Y⟩ : Pt)) i2).X, k3 + 1⟩ : Pt)) (k3 + 1 + 1) (i2 + 1) < mu24 xs2 k3 i2 else Q k3 xs2))
set_option maxHeartbeats 8000000 in
set_option maxRecDepth 100000 in
theorem laws_markPtS.calls {O : Ob} (w0 : World) (hO : Ok w0 O) (A1 : Option Addr) (n2 c3 : Nat) (a : List Pt) (hp0 : Ow kPt 29 w0 O (.slice A1 n2 c3) a) (k : Int) (Q : Int → List Pt → Prop) (h : laws_markPtS.E a k Q) :
  Ret Try.prog 68 [.slice A1 n2 c3, vi k] w0 (fun v w' => ∃ (r0 : Int) (m0 : List Pt), v = vi r0 ∧ Q r0 m0 ∧ Gr w0 w' (bk A1) ∧ Ow kPt 29 w' O (.slice A1 n2 c3) m0) := by
 unfold laws_markPtS.E at h
 have H := h
 clear h
 have hc0 := Ct.initm1 (r := bk A1) hO (by intro b e; exact hp0.mem b e)
 refine Ret_enter Try.func68 rfl 27 rfl [.tmp 4] rfl rfl ?_
 refine W_seq ?_
 refine W_reg ?_
 refine L_pu (P_assign (vi 0) rfl) ?_
 refine L_nil ?_
 refine W_seq ?_
 refine W_seq ?_
 refine W_reg ?_
 refine L_pu (P_assign (vi 0) rfl) ?_
 refine L_nil ?_
 refine W_block ?_
 obtain ⟨an, ao, ae, H⟩ := H
 refine W_loop (α := (List Pt) × Int × Int) (fun (sv__ : (List Pt) × Int × Int) t af => match sv__ with | (xs2, k3, i2) => an xs2 k3 i2 ∧ Has t [(0, .slice A1 n2 c3), (1, vi k3), (5, vi i2)] ∧ Ct [bk A1] w0 af [] O ∧ Ow kPt 29 af O (.slice A1 n2 c3) xs2) (fun (sv__ : (List Pt) × Int × Int) => match sv__ with | (xs2, k3, i2) => ao xs2 k3 i2) (a, k, 0) ⟨ae, ⟨rfl, rfl, rfl, trivial⟩, hc0, hp0⟩ ?_
 rintro ⟨xs2, k3, i2⟩ _ af ⟨ae, ap, ak, aa⟩
 obtain ⟨a9, rfl⟩ := Has.ins ap
 have H := H xs2 k3 i2 ae
 refine W_seq ?_
 refine W_seq ?_
 refine W_reg ?_
 refine L_pu (P_move (vi i2) rfl) ?_
 refine L_pu (P_move (.slice A1 n2 c3) rfl) ?_
 have ag := aa.le
 refine L_pu (P_len Try.underlying23 A1 n2 c3 aa.len rfl) ?_
 refine L_pu (P_cmp i2 (xs2.length : Int) (decide (i2 < (xs2.length : Int))) rfl rfl rfl) ?_
 refine L_nil ?_
 refine W_cond (decide (i2 < (xs2.length : Int))) rfl (fun ab => ?_) (fun ab => ?_)
 ·have H := ite_t H ab
  refine W_skip ?_
  refine W_seq ?_
  refine W_block ?_
  refine W_seq ?_
  refine W_reg ?_
  refine L_pu (P_move (.slice A1 n2 c3) rfl) ?_
  refine L_pu (P_move (vi i2) rfl) ?_
  refine L_pu (P_move (vi k3) rfl) ?_
  obtain ⟨ah, H⟩ := H
  obtain ⟨ac, ba, al, aq, ar⟩ := aa.get default (by decide) i2 ah
  obtain rfl := kPt.op aq
  refine L_pu (P_ia Try.underlying23 se23 A1 ac n2 c3 aa.len i2 rfl al rfl ah) ?_
  refine L_pu (P_fa fa29_0 (ac.add (i2.toNat * 2)) ((ac.add (i2.toNat * 2)).add 0) rfl rfl) ?_
  refine L_ste1 A1 n2 c3 xs2 aa i2 ah ac al 0 rfl [vi k3] rfl sz3 rfl (⟨k3, (nth xs2 i2).Y⟩ : Pt) [vi ((nth xs2 i2).X), vi ((nth xs2 i2).Y)] [vi k3, vi ((nth xs2 i2).Y)] ar rfl rfl (kPt.mk _ _ (⟨k3, (nth xs2 i2).Y⟩ : Pt)) fun bb au ai => ?_
  have av := ak.wm au
  refine L_nil ?_
  refine W_seq ?_
  refine W_reg ?_
  refine L_pu (P_move (vi k3) rfl) ?_
  obtain ⟨aw, H⟩ := H
  have ax := aw (len_le ag)
  refine L_pu (P_add k3 1 rfl rfl ax) ?_
  refine L_pu (P_assign (vi (k3 + 1)) rfl) ?_
  refine L_nil ?_
  refine W_seq ?_
  refine W_reg ?_
  refine L_pu (P_move (.slice A1 n2 c3) rfl) ?_
  refine L_pu (P_move (vi i2) rfl) ?_
  refine L_pu (P_move (vi (k3 + 1)) rfl) ?_
  obtain ⟨aj, H⟩ := H
  obtain ⟨ad, bc, am, ay, az⟩ := ai.get default (by decide) i2 aj
  obtain rfl := kPt.op ay
  refine L_pu (P_ia Try.underlying23 se23 A1 ad n2 c3 ai.len i2 rfl am rfl aj) ?_
  refine L_pu (P_fa fa29_1 (ad.add (i2.toNat * 2)) ((ad.add (i2.toNat * 2)).add 1) rfl rfl) ?_
  refine L_ste1 A1 n2 c3 (xs2.set i2.toNat (⟨k3, (nth xs2 i2).Y⟩ : Pt)) ai i2 aj ad am 1 rfl [vi (k3 + 1)] rfl sz3 rfl (⟨(nth (xs2.set i2.toNat (⟨k3, (nth xs2 i2).Y⟩ : Pt)) i2).X, k3 + 1⟩ : Pt) [vi ((nth (xs2.set i2.toNat (⟨k3, (nth xs2 i2).Y⟩ : Pt)) i2).X), vi ((nth (xs2.set i2.toNat (⟨k3, (nth xs2 i2).Y⟩ : Pt)) i2).Y)] [vi ((nth (xs2.set i2.toNat (⟨k3, (nth xs2 i2).Y⟩ : Pt)) i2).X), vi (k3 + 1)] az rfl rfl (kPt.mk _ _ (⟨(nth (xs2.set i2.toNat (⟨k3, (nth xs2 i2).Y⟩ : Pt)) i2).X, k3 + 1⟩ : Pt)) fun bd a0 a1 => ?_
  have a2 := av.wm a0
  refine L_nil ?_
  refine W_reg ?_
  refine L_pu (P_move (vi (k3 + 1)) rfl) ?_
  obtain ⟨a3, H⟩ := H
  have a4 := a3 (len_le ag)
  refine L_pu (P_add (k3 + 1) 1 rfl rfl a4) ?_
  refine L_pu (P_assign (vi (k3 + 1 + 1)) rfl) ?_
  refine L_nil ?_
  refine W_reg ?_
  refine L_pu (P_move (vi i2) rfl) ?_
  obtain ⟨a5, H⟩ := H
  have a6 : I64 (i2 + 1) := i64_succ (of_decide_eq_true ab) ag a5
  refine L_pu (P_add i2 1 rfl rfl a6) ?_
  refine L_pu (P_assign (vi (i2 + 1)) rfl) ?_
  refine L_nil ?_
  obtain ⟨a7, a8⟩ := H
  exact ⟨(((xs2.set i2.toNat (⟨k3, (nth xs2 i2).Y⟩ : Pt)).set i2.toNat (⟨(nth (xs2.set i2.toNat (⟨k3, (nth xs2 i2).Y⟩ : Pt)) i2).X, k3 + 1⟩ : Pt)), k3 + 1 + 1, i2 + 1), a8, a7, ⟨rfl, rfl, rfl, trivial⟩, a2, a1⟩
 ·have H := ite_f H ab
  refine W_exit (xin_hit ?_)
  refine W_seq ?_
  refine W_reg ?_
  refine L_pu (P_move (vi k3) rfl) ?_
  refine L_pu (P_assign (vi k3) rfl) ?_
  refine L_nil ?_
  refine W_ret ?_
  exact ⟨[vi k3], ⟨_, rfl, rfl⟩, k3, xs2, rfl, H, ak.gr.g1, aa⟩
end Go.Proofs.Ytndjggncgpjolaa

namespace Go.Proofs.Ytndjggncgpjolaa
open Go.RowKit
set_option linter.unusedVariables false
set_option linter.unusedSimpArgs false
def laws_markShape.E (a : Shape) (k : Int) (Q : Int → List Pt → Prop) : Prop :=
 laws_markPtS.E a.Pts k (fun r m => Q r m)
set_option maxHeartbeats 8000000 in
set_option maxRecDepth 100000 in
theorem laws_markShape.calls {O : Ob} (w0 : World) (hO : Ok w0 O) (a : Shape) (A1 : Option Addr) (n2 c3 : Nat) (hp5 : Ow kPt 29 w0 O (.slice A1 n2 c3) a.Pts) (hdj : Dj [bk A1]) (hmm : ∀ b, some b ∈ ([bk A1] : Ob) → some b ∈ O) (k : Int) (Q : Int → List Pt → Prop) (h : laws_markShape.E a k Q) :
  Ret Try.prog 105 [.agg #[vi a.Kind, .slice A1 n2 c3], vi k] w0 (fun v w' => ∃ (r0 : Int) (m0 : List Pt), v = vi r0 ∧ Q r0 m0 ∧ Gm w0 w' [bk A1] ∧ Ow kPt 29 w' O (.slice A1 n2 c3) m0) := by
 unfold laws_markShape.E at h
 have H := h
 clear h
 have hc0 := Ct.initm hO hmm
 refine Ret_enter Try.func105 rfl 10 rfl [.tmp 4] rfl rfl ?_
 refine W_seq ?_
 refine W_reg ?_
 refine L_box [vi a.Kind, .slice A1 n2 c3] rfl fun w6 b7 hl9 hu10 g8 ab => ?_
 have ac := Fb.mk hc0.ok hl9 ab
 have aa := hc0.k0 g8
 refine L_pu (P_assign (vi 0) rfl) ?_
 refine L_nil ?_
 refine W_seq ?_
 refine W_reg ?_
 refine L_pu (P_fa fa68_1 ⟨b7, 0, none⟩ ⟨b7, 1, none⟩ rfl rfl) ?_
 refine L_pu (P_ld ag23 cL ⟨b7, 1, none⟩ (.slice A1 n2 c3) rfl (ac.cell rfl)) ?_
 refine L_pu (P_move (vi k) rfl) ?_
 have ad := (hp5.sn g8)
 have ae : ([bk A1] : Ob).Perm ([bk A1] ++ []) := (by rw [List.perm_iff_count]; intro a; (try simp only [List.count_append, List.count_cons, List.count_nil, Nat.add_zero, Nat.zero_add]); first | done | ac_rfl)
 refine L_call go68 [.slice A1 n2 c3, vi k] rfl ((laws_markPtS.calls w6 aa.ok A1 n2 c3 a.Pts ad k _ H).mono ?_)
 rintro _ af ⟨r, m, rfl, H, ag, ah⟩
 have ai : Gm w6 af [bk A1] := ag.gm row1
 have aj := aa.wmg ai (fun b hb => ae.mem_iff.2 (List.mem_append_left _ hb))
 refine L_pu (P_assign (vi r) rfl) ?_
 refine L_nil ?_
 refine W_seq ?_
 refine W_reg ?_
 refine L_pu (P_move (vi r) rfl) ?_
 refine L_pu (P_assign (vi r) rfl) ?_
 refine L_nil ?_
 refine W_ret ?_
 exact ⟨[vi r], ⟨_, rfl, rfl⟩, r, m, rfl, H, aj.gr, ah⟩
end Go.Proofs.Ytndjggncgpjolaa

namespace Go.Proofs.Ytndjggncgpjolaa
open Go.RowKit
set_option linter.unusedVariables false
set_option linter.unusedSimpArgs false
def laws_markText.E (k : Int) (Q : Str → Prop) : Prop :=
 (if decide (k ≤ 0) then Q ([109, 48] : Str) else (∃ (I10 : Int → Str → Prop) (mu11 : Int → Str → Nat), I10 k ([] : Str) ∧ ∀ (k3 : Int) (out2 : Str), I10 k3 out2 → (if decide (k3 > 0) then ((0 : Int) ≤ k3 ∧ (0 : Int) < 10) ∧ (I64 (48 + (k3 % 10))) ∧ ((0 : Int) ≤ 48 + (k3 % 10) ∧ 48 + (k3 % 10) ≤ (255 : Int)) ∧ (([(UInt8.ofNat (48 + (k3 % 10)).toNat)] : List UInt8).length + out2.length ≤ 9223372036854775807) ∧ (((0 : Int) ≤ k3 ∧ k3 ≤ (9223372036854775807 : Int)) ∧ (0 : Int) < 10) ∧ I10 (k3 / 10) (([(UInt8.ofNat (48 + (k3 % 10)).toNat)] : List UInt8) ++ out2) ∧ mu11 (k3 / 10) (([(UInt8.ofNat (48 + (k3 % 10)).toNat)] : List UInt8) ++ out2) < mu11 k3 out2 else (([109] : Str).length + out2.length ≤ 9223372036854775807) ∧ Q (([109] : Str) ++ out2))))
set_option maxHeartbeats 8000000 in
set_option maxRecDepth 100000 in
theorem laws_markText.calls {O : Ob} (w0 : World) (hO : Ok w0 O) (k : Int) (Q : Str → Prop) (h : laws_markText.E k Q) :
  Ret Try.prog 67 [vi k] w0 (fun v w' => ∃ (r0 : Str), v = vs r0 ∧ Q r0 ∧ Gr w0 w' none ∧ Lim r0) := by
 unfold laws_markText.E at h
 have H := h
 clear h
 have hc0 := Ct.init hO
 refine Ret_enter Try.func67 rfl 20 rfl [.tmp 2] rfl rfl ?_
 refine W_seq ?_
 refine W_reg ?_
 refine L_pu (P_assign (vs ([] : Str)) rfl) ?_
 refine L_nil ?_
 refine W_seq ?_
 refine W_seq ?_
 refine W_reg ?_
 refine L_pu (P_move (vi k) rfl) ?_
 refine L_pu (P_cmp k 0 (decide (k ≤ 0)) rfl rfl rfl) ?_
 refine L_nil ?_
 refine W_cond (decide (k ≤ 0)) rfl (fun hq1 => ?_) (fun hq1 => ?_)
 ·have H := ite_t H hq1
  refine W_seq ?_
  refine W_reg ?_
  refine L_pu (P_assign (vs ([109, 48] : Str)) rfl) ?_
  refine L_nil ?_
  refine W_ret ?_
  exact ⟨[vs ([109, 48] : Str)], ⟨_, rfl, rfl⟩, ([109, 48] : Str), rfl, H, hc0.gr.g0, (by decide)⟩
 ·have H := ite_f H hq1
  refine W_skip ?_
  refine W_seq ?_
  refine W_reg ?_
  refine L_pu (P_assign (vs ([] : Str)) rfl) ?_
  refine L_nil ?_
  refine W_seq ?_
  refine W_block ?_
  obtain ⟨af, ag, aa, H⟩ := H
  refine W_loop (α := Int × Str) (fun (sv__ : Int × Str) t w7 => match sv__ with | (k3, out2) => af k3 out2 ∧ Has t [(0, vi k3), (3, vs out2)] ∧ Ct [] w0 w7 [] O ∧ Lim out2) (fun (sv__ : Int × Str) => match sv__ with | (k3, out2) => ag k3 out2) (k, ([] : Str)) ⟨aa, ⟨rfl, rfl, trivial⟩, hc0, (by decide)⟩ ?_
  rintro ⟨k3, out2⟩ _ w7 ⟨aa, ah, hc9, hs8⟩
  obtain ⟨av, rfl⟩ := Has.ins ah
  have H := H k3 out2 aa
  refine W_seq ?_
  refine W_seq ?_
  refine W_reg ?_
  refine L_pu (P_move (vi k3) rfl) ?_
  refine L_pu (P_cmp k3 0 (decide (k3 > 0)) rfl rfl rfl) ?_
  refine L_nil ?_
  refine W_cond (decide (k3 > 0)) rfl (fun ab => ?_) (fun ab => ?_)
  ·have H := ite_t H ab
   refine W_skip ?_
   refine W_block ?_
   refine W_seq ?_
   refine W_reg ?_
   refine L_pu (P_move (vi k3) rfl) ?_
   obtain ⟨ai, H⟩ := H
   refine L_pu (P_rem k3 10 rfl rfl ai) ?_
   obtain ⟨aj, H⟩ := H
   refine L_pu (P_add 48 (k3 % 10) rfl rfl aj) ?_
   obtain ⟨ak, H⟩ := H
   refine L_pu (P_convb Try.underlying3 Try.underlying5 (48 + (k3 % 10)) rfl ak) ?_
   refine L_lit (kd := Kd.byte) ei22 hc9 ([(UInt8.ofNat (48 + (k3 % 10)).toNat)] : List UInt8) (cells := [v8 (UInt8.ofNat (48 + (k3 % 10)).toNat)]) ⟨[v8 (UInt8.ofNat (48 + (k3 % 10)).toNat)], _, rfl, rfl, rfl⟩ (fun _ => by kernel_rfl) fun aw al am an ax hr25 ao ac => ?_
   refine L_pu (P_b2s Try.underlying22 Try.underlying5 Try.underlying9 al am an ([(UInt8.ofNat (48 + (k3 % 10)).toNat)] : List UInt8) rfl (fun _ e => e ▸ ⟨_, ac.sx⟩)) ?_
   have ay : Lim ([(UInt8.ofNat (48 + (k3 % 10)).toNat)] : List UInt8) := ac.le
   refine L_pu (P_move (vs out2) rfl) ?_
   obtain ⟨ad, H⟩ := H
   refine L_pu (P_cat ([(UInt8.ofNat (48 + (k3 % 10)).toNat)] : List UInt8) out2 rfl rfl ad) ?_
   refine L_pu (P_assign (vs (([(UInt8.ofNat (48 + (k3 % 10)).toNat)] : List UInt8) ++ out2)) rfl) ?_
   refine L_nil ?_
   refine W_reg ?_
   refine L_pu (P_move (vi k3) rfl) ?_
   obtain ⟨ap, H⟩ := H
   refine L_pu (P_quo k3 10 rfl rfl ap) ?_
   refine L_pu (P_assign (vi (k3 / 10)) rfl) ?_
   refine L_nil ?_
   have aq := ao.drop 0 rfl
   obtain ⟨ar, au⟩ := H
   exact ⟨(k3 / 10, (([(UInt8.ofNat (48 + (k3 % 10)).toNat)] : List UInt8) ++ out2)), au, ar, ⟨rfl, rfl, trivial⟩, aq, (lim_cat ad)⟩
  ·have H := ite_f H ab
   refine W_exit (xin_hit ?_)
   refine W_seq ?_
   refine W_reg ?_
   refine L_pu (P_move (vs out2) rfl) ?_
   obtain ⟨ae, H⟩ := H
   refine L_pu (P_cat ([109] : Str) out2 rfl rfl ae) ?_
   refine L_pu (P_assign (vs (([109] : Str) ++ out2)) rfl) ?_
   refine L_nil ?_
   refine W_ret ?_
   exact ⟨[vs (([109] : Str) ++ out2)], ⟨_, rfl, rfl⟩, (([109] : Str) ++ out2), rfl, H, hc9.gr.g0, (lim_cat ae)⟩
end Go.Proofs.Ytndjggncgpjolaa

namespace Go.Proofs.Ytndjggncgpjolaa
open Go.RowKit
set_option linter.unusedVariables false
set_option linter.unusedSimpArgs false
def laws_markTagS.E (a : List Tag) (k : Int) (Q : Int → List Tag → Prop) : Prop :=
 (∃ (I23 : (List Tag) → Int → Int → Prop) (mu24 : (List Tag) → Int → Int → Nat), I23 a k 0 ∧ ∀ (xs2 : List Tag) (k3 : Int) (i2 : Int), I23 xs2 k3 i2 → (if decide (i2 < (xs2.length : Int)) then laws_markText.E k3 (fun r => ((0 : Int) ≤ i2 ∧ i2 < (xs2.length : Int)) ∧ ((xs2.length : Int) ≤ 9223372036854775807 → I64 (k3 + 1)) ∧ laws_markText.E (k3 + 1) (fun r2 => ((0 : Int) ≤ i2 ∧ i2 < ((xs2.set i2.toNat (⟨r, (nth xs2 i2).Val⟩ : Tag)).length : Int)) ∧ ((xs2.length : Int) ≤ 9223372036854775807 → I64 (k3 + 1 + 1)) ∧ (-9223372036854775808 ≤ i2) ∧ I23 ((xs2.set i2.toNat (⟨r, (nth xs2 i2).Val⟩ : Tag)).set i2.toNat (⟨(nth (xs2.set i2.toNat (⟨r, (nth xs2 i2).Val⟩ : Tag)) i2).Key, r2⟩ : Tag)) (k3 + 1 + 1) (i2 + 1) ∧ mu24 ((xs2.set i2.toNat (⟨r, (nth xs2 i2).Val⟩ : Tag)).set i2.toNat (⟨(nth (xs2.set i2.toNat (⟨r, (nth xs2 i2).Val⟩ : Tag)) i2).Key, r2⟩ : Tag)) (k3 + 1 + 1) (i2 + 1) < mu24 xs2 k3 i2)) else Q k3 xs2))
set_option maxHeartbeats 8000000 in
set_option maxRecDepth 100000 in
theorem laws_markTagS.calls {O : Ob} (w0 : World) (hO : Ok w0 O) (A1 : Option Addr) (n2 c3 : Nat) (a : List Tag) (hp0 : Ow kTag 133 w0 O (.slice A1 n2 c3) a) (k : Int) (Q : Int → List Tag → Prop) (h : laws_markTagS.E a k Q) :
  Ret Try.prog 69 [.slice A1 n2 c3, vi k] w0 (fun v w' => ∃ (r0 : Int) (m0 : List Tag), v = vi r0 ∧ Q r0 m0 ∧ Gr w0 w' (bk A1) ∧ Ow kTag 133 w' O (.slice A1 n2 c3) m0) := by
 unfold laws_markTagS.E at h
 have H := h
 clear h
 have hc0 := Ct.initm1 (r := bk A1) hO (by intro b e; exact hp0.mem b e)
 refine Ret_enter Try.func69 rfl 29 rfl [.tmp 4] rfl rfl ?_
 refine W_seq ?_
 refine W_reg ?_
 refine L_pu (P_assign (vi 0) rfl) ?_
 refine L_nil ?_
 refine W_seq ?_
 refine W_seq ?_
 refine W_reg ?_
 refine L_pu (P_assign (vi 0) rfl) ?_
 refine L_nil ?_
 refine W_block ?_
 obtain ⟨ar, au, af, H⟩ := H
 refine W_loop (α := (List Tag) × Int × Int) (fun (sv__ : (List Tag) × Int × Int) t aa => match sv__ with | (xs2, k3, i2) => ar xs2 k3 i2 ∧ Has t [(0, .slice A1 n2 c3), (1, vi k3), (5, vi i2)] ∧ Ct [bk A1] w0 aa [] O ∧ Ow kTag 133 aa O (.slice A1 n2 c3) xs2) (fun (sv__ : (List Tag) × Int × Int) => match sv__ with | (xs2, k3, i2) => au xs2 k3 i2) (a, k, 0) ⟨af, ⟨rfl, rfl, rfl, trivial⟩, hc0, hp0⟩ ?_
 rintro ⟨xs2, k3, i2⟩ _ aa ⟨af, av, ag, ab⟩
 obtain ⟨bl, rfl⟩ := Has.ins av
 have H := H xs2 k3 i2 af
 refine W_seq ?_
 refine W_seq ?_
 refine W_reg ?_
 refine L_pu (P_move (vi i2) rfl) ?_
 refine L_pu (P_move (.slice A1 n2 c3) rfl) ?_
 have ah := ab.le
 refine L_pu (P_len Try.underlying69 A1 n2 c3 ab.len rfl) ?_
 refine L_pu (P_cmp i2 (xs2.length : Int) (decide (i2 < (xs2.length : Int))) rfl rfl rfl) ?_
 refine L_nil ?_
 refine W_cond (decide (i2 < (xs2.length : Int))) rfl (fun ac => ?_) (fun ac => ?_)
 ·have H := ite_t H ac
  refine W_skip ?_
  refine W_seq ?_
  refine W_block ?_
  refine W_seq ?_
  refine W_reg ?_
  refine L_pu (P_move (.slice A1 n2 c3) rfl) ?_
  refine L_pu (P_move (vi i2) rfl) ?_
  refine L_pu (P_move (vi k3) rfl) ?_
  refine L_call go67 [vi k3] rfl ((laws_markText.calls aa ag.ok k3 _ H).mono ?_)
  rintro _ bm ⟨r, rfl, H, am, aw⟩
  have ax := ag.k0 am
  obtain ⟨ai, H⟩ := H
  have aj := (ab.sn am)
  obtain ⟨ad, bn, an, ay, az⟩ := aj.get default (by decide) i2 ai
  obtain ⟨rfl, bo, a0⟩ := kTag.op ay
  refine L_pu (P_ia Try.underlying69 se69 A1 ad n2 c3 aj.len i2 rfl an rfl ai) ?_
  refine L_pu (P_fa fa133_0 (ad.add (i2.toNat * 2)) ((ad.add (i2.toNat * 2)).add 0) rfl rfl) ?_
  refine L_ste1 A1 n2 c3 xs2 aj i2 ai ad an 0 rfl [vs r] rfl sz9 rfl (⟨r, (nth xs2 i2).Val⟩ : Tag) [vs ((nth xs2 i2).Key), vs ((nth xs2 i2).Val)] [vs r, vs ((nth xs2 i2).Val)] az rfl rfl (kTag.mk _ _ (⟨r, (nth xs2 i2).Val⟩ : Tag) aw a0) fun a1 a2 a3 => ?_
  have ao := ax.wm a2
  refine L_nil ?_
  refine W_seq ?_
  refine W_reg ?_
  refine L_pu (P_move (vi k3) rfl) ?_
  obtain ⟨a4, H⟩ := H
  have a5 := a4 (len_le ah)
  refine L_pu (P_add k3 1 rfl rfl a5) ?_
  refine L_pu (P_assign (vi (k3 + 1)) rfl) ?_
  refine L_nil ?_
  refine W_seq ?_
  refine W_reg ?_
  refine L_pu (P_move (.slice A1 n2 c3) rfl) ?_
  refine L_pu (P_move (vi i2) rfl) ?_
  refine L_pu (P_move (vi (k3 + 1)) rfl) ?_
  refine L_call go67 [vi (k3 + 1)] rfl ((laws_markText.calls a1 ao.ok (k3 + 1) _ H).mono ?_)
  rintro _ bp ⟨r2, rfl, H, ap, a6⟩
  have a7 := ao.k0 ap
  obtain ⟨ak, H⟩ := H
  have al := (a3.sn ap)
  obtain ⟨ae, bq, aq, a8, a9⟩ := al.get default (by decide) i2 ak
  obtain ⟨rfl, ba, br⟩ := kTag.op a8
  refine L_pu (P_ia Try.underlying69 se69 A1 ae n2 c3 al.len i2 rfl aq rfl ak) ?_
  refine L_pu (P_fa fa133_1 (ae.add (i2.toNat * 2)) ((ae.add (i2.toNat * 2)).add 1) rfl rfl) ?_
  refine L_ste1 A1 n2 c3 (xs2.set i2.toNat (⟨r, (nth xs2 i2).Val⟩ : Tag)) al i2 ak ae aq 1 rfl [vs r2] rfl sz9 rfl (⟨(nth (xs2.set i2.toNat (⟨r, (nth xs2 i2).Val⟩ : Tag)) i2).Key, r2⟩ : Tag) [vs ((nth (xs2.set i2.toNat (⟨r, (nth xs2 i2).Val⟩ : Tag)) i2).Key), vs ((nth (xs2.set i2.toNat (⟨r, (nth xs2 i2).Val⟩ : Tag)) i2).Val)] [vs ((nth (xs2.set i2.toNat (⟨r, (nth xs2 i2).Val⟩ : Tag)) i2).Key), vs r2] a9 rfl rfl (kTag.mk _ _ (⟨(nth (xs2.set i2.toNat (⟨r, (nth xs2 i2).Val⟩ : Tag)) i2).Key, r2⟩ : Tag) ba a6) fun bs bb bc => ?_
  have bd := a7.wm bb
  refine L_nil ?_
  refine W_reg ?_
  refine L_pu (P_move (vi (k3 + 1)) rfl) ?_
  obtain ⟨be, H⟩ := H
  have bf := be (len_le ah)
  refine L_pu (P_add (k3 + 1) 1 rfl rfl bf) ?_
  refine L_pu (P_assign (vi (k3 + 1 + 1)) rfl) ?_
  refine L_nil ?_
  refine W_reg ?_
  refine L_pu (P_move (vi i2) rfl) ?_
  obtain ⟨bg, H⟩ := H
  have bh : I64 (i2 + 1) := i64_succ (of_decide_eq_true ac) ah bg
  refine L_pu (P_add i2 1 rfl rfl bh) ?_
  refine L_pu (P_assign (vi (i2 + 1)) rfl) ?_
  refine L_nil ?_
  obtain ⟨bi, bj⟩ := H
  exact ⟨(((xs2.set i2.toNat (⟨r, (nth xs2 i2).Val⟩ : Tag)).set i2.toNat (⟨(nth (xs2.set i2.toNat (⟨r, (nth xs2 i2).Val⟩ : Tag)) i2).Key, r2⟩ : Tag)), k3 + 1 + 1, i2 + 1), bj, bi, ⟨rfl, rfl, rfl, trivial⟩, bd, bc⟩
 ·have H := ite_f H ac
  refine W_exit (xin_hit ?_)
  refine W_seq ?_
  refine W_reg ?_
  refine L_pu (P_move (vi k3) rfl) ?_
  refine L_pu (P_assign (vi k3) rfl) ?_
  refine L_nil ?_
  refine W_ret ?_
  exact ⟨[vi k3], ⟨_, rfl, rfl⟩, k3, xs2, rfl, H, ag.gr.g1, ab⟩
end Go.Proofs.Ytndjggncgpjolaa

namespace Go.Proofs.Ytndjggncgpjolaa
open Go.RowKit
set_option linter.unusedVariables false
set_option linter.unusedSimpArgs false
def laws_markFeat.E (a : Feat) (k : Int) (Q : Int → List Pt → List Tag → Prop) : Prop :=
 laws_markShape.E a.Shape k (fun r m => laws_markTagS.E a.Tags r (fun r2 m2 => Q r2 m m2))
set_option maxHeartbeats 8000000 in
set_option maxRecDepth 100000 in
theorem laws_markFeat.calls {O : Ob} (w0 : World) (hO : Ok w0 O) (a : Feat) (A2 : Option Addr) (n3 c4 : Nat) (A7 : Option Addr) (n8 c9 : Nat) (hs1 : Lim a.Id) (hp6 : Ow kPt 29 w0 O (.slice A2 n3 c4) a.Shape.Pts) (am : Ow kTag 133 w0 O (.slice A7 n8 c9) a.Tags) (hdj : Dj [bk A2, bk A7]) (hmm : ∀ b, some b ∈ ([bk A2, bk A7] : Ob) → some b ∈ O) (k : Int) (Q : Int → List Pt → List Tag → Prop) (h : laws_markFeat.E a k Q) :
  Ret Try.prog 39 [.agg #[vs a.Id, vi a.Shape.Kind, .slice A2 n3 c4, .slice A7 n8 c9], vi k] w0 (fun v w' => ∃ (r0 : Int) (m0 : List Pt) (m1 : List Tag), v = vi r0 ∧ Q r0 m0 m1 ∧ Gm w0 w' [bk A2, bk A7] ∧ Ow kPt 29 w' O (.slice A2 n3 c4) m0 ∧ Ow kTag 133 w' O (.slice A7 n8 c9) m1) := by
 unfold laws_markFeat.E at h
 have H := h
 clear h
 have hc0 := Ct.initm hO hmm
 refine Ret_enter Try.func39 rfl 14 rfl [.tmp 4] rfl rfl ?_
 refine W_seq ?_
 refine W_reg ?_
 refine L_box [vs a.Id, vi a.Shape.Kind, .slice A2 n3 c4, .slice A7 n8 c9] rfl fun an aa ao hu16 ac ap => ?_
 have ah := Fb.mk hc0.ok ao ap
 have ai := hc0.k0 ac
 refine L_pu (P_assign (vi 0) rfl) ?_
 refine L_nil ?_
 refine W_seq ?_
 refine W_reg ?_
 refine L_pu (P_fa fa71_1 ⟨aa, 0, none⟩ ⟨aa, 1, none⟩ rfl rfl) ?_
 refine L_pu (P_lda ag68 sz68 cL ⟨aa, 1, none⟩ [vi a.Shape.Kind, .slice A2 n3 c4] rfl rfl (ah.cells (off := 1) rfl)) ?_
 refine L_pu (P_move (vi k) rfl) ?_
 have aq := (hp6.sn ac)
 have ab : ([bk A2, bk A7] : Ob).Perm ([bk A2] ++ [bk A7]) := (by rw [List.perm_iff_count]; intro a; (try simp only [List.count_append, List.count_cons, List.count_nil, Nat.add_zero, Nat.zero_add]); first | done | ac_rfl)
 refine L_call go105 [.agg #[vi a.Shape.Kind, .slice A2 n3 c4], vi k] rfl ((laws_markShape.calls an ai.ok a.Shape A2 n3 c4 aq (Dj.left (hdj.perm ab)) (fun b hb => List.mem_append_right _ (hmm b (ab.mem_iff.2 (List.mem_append_left _ hb)))) k _ H).mono ?_)
 rintro _ ad ⟨r, m, rfl, H, ae, af⟩
 have aj := ai.wmg ae (fun b hb => ab.mem_iff.2 (List.mem_append_left _ hb))
 have ag := (am.sn ac)
 have ar := ag.flto (w' := ad) (O' := O) (kTag_flat) fun b hb => ⟨ae.block b (ag.ltb b hb) fun hm => (Dj.sepp1 (x := bk A7) (B := [bk A2]) (C := []) hdj (by rw [List.perm_iff_count]; intro a; (try simp only [List.count_append, List.count_cons, List.count_nil, Nat.add_zero, Nat.zero_add]); first | done | ac_rfl) b hb hm), ag.mem b hb⟩
 refine L_pu (P_assign (vi r) rfl) ?_
 refine L_nil ?_
 refine W_seq ?_
 refine W_reg ?_
 refine L_pu (P_fa fa71_2 ⟨aa, 0, none⟩ ⟨aa, 3, none⟩ rfl rfl) ?_
 have au := (ah.st (St.gm ae (fun b hb => List.mem_append_right _ (hmm b (ab.mem_iff.2 (List.mem_append_left _ hb))))))
 refine L_pu (P_ld ag69 cL ⟨aa, 3, none⟩ (.slice A7 n8 c9) rfl (au.cell rfl)) ?_
 refine L_pu (P_move (vi r) rfl) ?_
 have av : ([bk A2, bk A7] : Ob).Perm ([bk A7] ++ [bk A2]) := (by rw [List.perm_iff_count]; intro a; (try simp only [List.count_append, List.count_cons, List.count_nil, Nat.add_zero, Nat.zero_add]); first | done | ac_rfl)
 refine L_call go69 [.slice A7 n8 c9, vi r] rfl ((laws_markTagS.calls ad aj.ok A7 n8 c9 a.Tags ar r _ H).mono ?_)
 rintro _ ak ⟨r2, m2, rfl, H, aw, ax⟩
 have al : Gm ad ak [bk A7] := aw.gm row1
 have ay := aj.wmg al (fun b hb => av.mem_iff.2 (List.mem_append_left _ hb))
 have az := af.flto (w' := ak) (O' := O) (kPt_flat) fun b hb => ⟨al.block b (af.ltb b hb) fun hm => (Dj.sepp1 (x := bk A2) (B := [bk A7]) (C := []) hdj (by rw [List.perm_iff_count]; intro a; (try simp only [List.count_append, List.count_cons, List.count_nil, Nat.add_zero, Nat.zero_add]); first | done | ac_rfl) b hb hm), af.mem b hb⟩
 refine L_pu (P_assign (vi r2) rfl) ?_
 refine L_nil ?_
 refine W_seq ?_
 refine W_reg ?_
 refine L_pu (P_move (vi r2) rfl) ?_
 refine L_pu (P_assign (vi r2) rfl) ?_
 refine L_nil ?_
 refine W_ret ?_
 exact ⟨[vi r2], ⟨_, rfl, rfl⟩, r2, m, m2, rfl, H, ay.gr, az, ax⟩
end Go.Proofs.Ytndjggncgpjolaa

namespace Go.Proofs.Ytndjggncgpjolaa
open Go.RowKit
set_option linter.unusedVariables false
set_option linter.unusedSimpArgs false
def laws_markStringS.E (a : List Str) (k : Int) (Q : Int → List Str → Prop) : Prop :=
 (∃ (I23 : (List Str) → Int → Int → Prop) (mu24 : (List Str) → Int → Int → Nat), I23 a k 0 ∧ ∀ (xs2 : List Str) (k3 : Int) (i2 : Int), I23 xs2 k3 i2 → (if decide (i2 < (xs2.length : Int)) then laws_markText.E k3 (fun r => ((0 : Int) ≤ i2 ∧ i2 < (xs2.length : Int)) ∧ ((xs2.length : Int) ≤ 9223372036854775807 → I64 (k3 + 1)) ∧ (-9223372036854775808 ≤ i2) ∧ I23 (xs2.set i2.toNat r) (k3 + 1) (i2 + 1) ∧ mu24 (xs2.set i2.toNat r) (k3 + 1) (i2 + 1) < mu24 xs2 k3 i2) else Q k3 xs2))
set_option maxHeartbeats 8000000 in
set_option maxRecDepth 100000 in
theorem laws_markStringS.calls {O : Ob} (w0 : World) (hO : Ok w0 O) (A1 : Option Addr) (n2 c3 : Nat) (a : List Str) (hp0 : Ow Kd.str 9 w0 O (.slice A1 n2 c3) a) (k : Int) (Q : Int → List Str → Prop) (h : laws_markStringS.E a k Q) :
  Ret Try.prog 40 [.slice A1 n2 c3, vi k] w0 (fun v w' => ∃ (r0 : Int) (m0 : List Str), v = vi r0 ∧ Q r0 m0 ∧ Gr w0 w' (bk A1) ∧ Ow Kd.str 9 w' O (.slice A1 n2 c3) m0) := by
 unfold laws_markStringS.E at h
 have H := h
 clear h
 have hc0 := Ct.initm1 (r := bk A1) hO (by intro b e; exact hp0.mem b e)
 refine Ret_enter Try.func40 rfl 20 rfl [.tmp 4] rfl rfl ?_
 refine W_seq ?_
 refine W_reg ?_
 refine L_pu (P_assign (vi 0) rfl) ?_
 refine L_nil ?_
 refine W_seq ?_
 refine W_seq ?_
 refine W_reg ?_
 refine L_pu (P_assign (vi 0) rfl) ?_
 refine L_nil ?_
 refine W_block ?_
 obtain ⟨al, am, ad, H⟩ := H
 refine W_loop (α := (List Str) × Int × Int) (fun (sv__ : (List Str) × Int × Int) t aa => match sv__ with | (xs2, k3, i2) => al xs2 k3 i2 ∧ Has t [(0, .slice A1 n2 c3), (1, vi k3), (5, vi i2)] ∧ Ct [bk A1] w0 aa [] O ∧ Ow Kd.str 9 aa O (.slice A1 n2 c3) xs2) (fun (sv__ : (List Str) × Int × Int) => match sv__ with | (xs2, k3, i2) => am xs2 k3 i2) (a, k, 0) ⟨ad, ⟨rfl, rfl, rfl, trivial⟩, hc0, hp0⟩ ?_
 rintro ⟨xs2, k3, i2⟩ _ aa ⟨ad, an, ae, ab⟩
 obtain ⟨a3, rfl⟩ := Has.ins an
 have H := H xs2 k3 i2 ad
 refine W_seq ?_
 refine W_seq ?_
 refine W_reg ?_
 refine L_pu (P_move (vi i2) rfl) ?_
 refine L_pu (P_move (.slice A1 n2 c3) rfl) ?_
 have ah := ab.le
 refine L_pu (P_len Try.underlying72 A1 n2 c3 ab.len rfl) ?_
 refine L_pu (P_cmp i2 (xs2.length : Int) (decide (i2 < (xs2.length : Int))) rfl rfl rfl) ?_
 refine L_nil ?_
 refine W_cond (decide (i2 < (xs2.length : Int))) rfl (fun ac => ?_) (fun ac => ?_)
 ·have H := ite_t H ac
  refine W_skip ?_
  refine W_seq ?_
  refine W_block ?_
  refine W_seq ?_
  refine W_reg ?_
  refine L_pu (P_move (.slice A1 n2 c3) rfl) ?_
  refine L_pu (P_move (vi i2) rfl) ?_
  refine L_pu (P_move (vi k3) rfl) ?_
  refine L_call go67 [vi k3] rfl ((laws_markText.calls aa ae.ok k3 _ H).mono ?_)
  rintro _ a4 ⟨r, rfl, H, ai, ao⟩
  have ap := ae.k0 ai
  obtain ⟨af, H⟩ := H
  have ag := (ab.sn ai)
  obtain ⟨aj, a5, ak, aq, ar⟩ := ag.get default (by decide) i2 af
  obtain ⟨rfl, a6⟩ := Kd.str.op aq
  refine L_pu (P_ia Try.underlying72 se72 A1 aj n2 c3 ag.len i2 rfl ak rfl af) ?_
  refine L_ste0 A1 n2 c3 xs2 ag i2 af aj ak 0 rfl [vs r] rfl sz9 rfl r [vs (nth xs2 i2)] [vs r] ar rfl rfl ⟨rfl, ao⟩ fun a7 au av => ?_
  have aw := ap.wm au
  refine L_nil ?_
  refine W_reg ?_
  refine L_pu (P_move (vi k3) rfl) ?_
  obtain ⟨ax, H⟩ := H
  have ay := ax (len_le ah)
  refine L_pu (P_add k3 1 rfl rfl ay) ?_
  refine L_pu (P_assign (vi (k3 + 1)) rfl) ?_
  refine L_nil ?_
  refine W_reg ?_
  refine L_pu (P_move (vi i2) rfl) ?_
  obtain ⟨az, H⟩ := H
  have a0 : I64 (i2 + 1) := i64_succ (of_decide_eq_true ac) ah az
  refine L_pu (P_add i2 1 rfl rfl a0) ?_
  refine L_pu (P_assign (vi (i2 + 1)) rfl) ?_
  refine L_nil ?_
  obtain ⟨a1, a2⟩ := H
  exact ⟨((xs2.set i2.toNat r), k3 + 1, i2 + 1), a2, a1, ⟨rfl, rfl, rfl, trivial⟩, aw, av⟩
 ·have H := ite_f H ac
  refine W_exit (xin_hit ?_)
  refine W_seq ?_
  refine W_reg ?_
  refine L_pu (P_move (vi k3) rfl) ?_
  refine L_pu (P_assign (vi k3) rfl) ?_
  refine L_nil ?_
  refine W_ret ?_
  exact ⟨[vi k3], ⟨_, rfl, rfl⟩, k3, xs2, rfl, H, ae.gr.g1, ab⟩
end Go.Proofs.Ytndjggncgpjolaa

namespace Go.Proofs.Ytndjggncgpjolaa
open Go.RowKit
set_option linter.unusedVariables false
set_option linter.unusedSimpArgs false
def laws_heldPtS.E (a : List Pt) (k : Int) (Q : Int → Prop) : Prop :=
 (∃ (I18 : Int → Int → Prop) (mu19 : Int → Int → Nat), I18 k 0 ∧ ∀ (k3 : Int) (i2 : Int), I18 k3 i2 → (if decide (i2 < (a.length : Int)) then ((0 : Int) ≤ i2 ∧ i2 < (a.length : Int)) ∧ (if ((nth a i2).X) != k3 then Q (-1) else ((a.length : Int) ≤ 9223372036854775807 → I64 (k3 + 1)) ∧ ((0 : Int) ≤ i2 ∧ i2 < (a.length : Int)) ∧ (if ((nth a i2).Y) != (k3 + 1) then Q (-1) else ((a.length : Int) ≤ 9223372036854775807 → I64 (k3 + 1 + 1)) ∧ (-9223372036854775808 ≤ i2) ∧ I18 (k3 + 1 + 1) (i2 + 1) ∧ mu19 (k3 + 1 + 1) (i2 + 1) < mu19 k3 i2)) else Q k3))
set_option maxHeartbeats 8000000 in
set_option maxRecDepth 100000 in
theorem laws_heldPtS.calls {O : Ob} (w0 : World) (hO : Ok w0 O) (a : List Pt) (A1 : Option Addr) (n2 c3 : Nat) (hp4 : Sl kPt w0 (Fr O) (.slice A1 n2 c3) a) (k : Int) (Q : Int → Prop) (h : laws_heldPtS.E a k Q) :
  Ret Try.prog 70 [.slice A1 n2 c3, vi k] w0 (fun v w' => ∃ (r0 : Int), v = vi r0 ∧ Q r0 ∧ Gr w0 w' none) := by
 unfold laws_heldPtS.E at h
 have H := h
 clear h
 have hc0 := Ct.init hO
 refine Ret_enter Try.func70 rfl 31 rfl [.tmp 4] rfl rfl ?_
 refine W_seq ?_
 refine W_reg ?_
 refine L_pu (P_assign (vi 0) rfl) ?_
 refine L_nil ?_
 refine W_seq ?_
 refine W_seq ?_
 refine W_reg ?_
 refine L_pu (P_assign (vi 0) rfl) ?_
 refine L_nil ?_
 refine W_block ?_
 obtain ⟨am, an, af, H⟩ := H
 refine W_loop (α := Int × Int) (fun (sv__ : Int × Int) t ag => match sv__ with | (k3, i2) => am k3 i2 ∧ Has t [(0, .slice A1 n2 c3), (1, vi k3), (5, vi i2)] ∧ Ct [] w0 ag [] O ∧ Sl kPt ag (Fr ([] ++ O)) (.slice A1 n2 c3) a) (fun (sv__ : Int × Int) => match sv__ with | (k3, i2) => an k3 i2) (k, 0) ⟨af, ⟨rfl, rfl, rfl, trivial⟩, hc0, hp4⟩ ?_
 rintro ⟨k3, i2⟩ _ ag ⟨af, ao, ab, aa⟩
 obtain ⟨a5, rfl⟩ := Has.ins ao
 have H := H k3 i2 af
 refine W_seq ?_
 refine W_seq ?_
 refine W_reg ?_
 refine L_pu (P_move (vi i2) rfl) ?_
 refine L_pu (P_move (.slice A1 n2 c3) rfl) ?_
 have ah := aa.le
 refine L_pu (P_len Try.underlying23 A1 n2 c3 aa.len rfl) ?_
 refine L_pu (P_cmp i2 (a.length : Int) (decide (i2 < (a.length : Int))) rfl rfl rfl) ?_
 refine L_nil ?_
 refine W_cond (decide (i2 < (a.length : Int))) rfl (fun ac => ?_) (fun ac => ?_)
 ·have H := ite_t H ac
  refine W_skip ?_
  refine W_seq ?_
  refine W_block ?_
  refine W_seq ?_
  refine W_seq ?_
  refine W_reg ?_
  refine L_pu (P_move (.slice A1 n2 c3) rfl) ?_
  refine L_pu (P_move (vi i2) rfl) ?_
  obtain ⟨ak, H⟩ := H
  obtain ⟨ad, a6, ap, a7, aq, ar⟩ := aa.get default (by decide) i2 ak
  obtain rfl := kPt.op aq
  refine L_pu (P_ia Try.underlying23 se23 A1 ad n2 c3 aa.len i2 rfl ap rfl ak) ?_
  refine L_pu (P_fa fa29_0 (ad.add (i2.toNat * 2)) ((ad.add (i2.toNat * 2)).add 0) rfl rfl) ?_
  refine L_pu (P_ld ag3 cL ((ad.add (i2.toNat * 2)).add 0) (vi ((nth a i2).X)) rfl (ar 0 _ rfl)) ?_
  refine L_pu (P_move (vi k3) rfl) ?_
  refine L_pu (P_cmp ((nth a i2).X) k3 (((nth a i2).X) != k3) rfl rfl rfl) ?_
  refine L_nil ?_
  refine W_cond (((nth a i2).X) != k3) rfl (fun ai => ?_) (fun ai => ?_)
  ·have H := ite_t H ai
   refine W_seq ?_
   refine W_reg ?_
   refine L_pu (P_assign (vi (-1)) rfl) ?_
   refine L_nil ?_
   refine W_ret ?_
   exact ⟨[vi (-1)], ⟨_, rfl, rfl⟩, (-1), rfl, H, ab.gr.g0⟩
  ·have H := ite_f H ai
   refine W_skip ?_
   refine W_seq ?_
   refine W_reg ?_
   refine L_pu (P_move (vi k3) rfl) ?_
   obtain ⟨au, H⟩ := H
   have av := au (len_le ah)
   refine L_pu (P_add k3 1 rfl rfl av) ?_
   refine L_pu (P_assign (vi (k3 + 1)) rfl) ?_
   refine L_nil ?_
   refine W_seq ?_
   refine W_seq ?_
   refine W_reg ?_
   refine L_pu (P_move (.slice A1 n2 c3) rfl) ?_
   refine L_pu (P_move (vi i2) rfl) ?_
   obtain ⟨al, H⟩ := H
   obtain ⟨ae, a8, aw, a9, ax, ay⟩ := aa.get default (by decide) i2 al
   obtain rfl := kPt.op ax
   refine L_pu (P_ia Try.underlying23 se23 A1 ae n2 c3 aa.len i2 rfl aw rfl al) ?_
   refine L_pu (P_fa fa29_1 (ae.add (i2.toNat * 2)) ((ae.add (i2.toNat * 2)).add 1) rfl rfl) ?_
   refine L_pu (P_ld ag3 cL ((ae.add (i2.toNat * 2)).add 1) (vi ((nth a i2).Y)) rfl (ay 1 _ rfl)) ?_
   refine L_pu (P_move (vi (k3 + 1)) rfl) ?_
   refine L_pu (P_cmp ((nth a i2).Y) (k3 + 1) (((nth a i2).Y) != (k3 + 1)) rfl rfl rfl) ?_
   refine L_nil ?_
   refine W_cond (((nth a i2).Y) != (k3 + 1)) rfl (fun aj => ?_) (fun aj => ?_)
   ·have H := ite_t H aj
    refine W_seq ?_
    refine W_reg ?_
    refine L_pu (P_assign (vi (-1)) rfl) ?_
    refine L_nil ?_
    refine W_ret ?_
    exact ⟨[vi (-1)], ⟨_, rfl, rfl⟩, (-1), rfl, H, ab.gr.g0⟩
   ·have H := ite_f H aj
    refine W_skip ?_
    refine W_reg ?_
    refine L_pu (P_move (vi (k3 + 1)) rfl) ?_
    obtain ⟨az, H⟩ := H
    have a0 := az (len_le ah)
    refine L_pu (P_add (k3 + 1) 1 rfl rfl a0) ?_
    refine L_pu (P_assign (vi (k3 + 1 + 1)) rfl) ?_
    refine L_nil ?_
    refine W_reg ?_
    refine L_pu (P_move (vi i2) rfl) ?_
    obtain ⟨a1, H⟩ := H
    have a2 : I64 (i2 + 1) := i64_succ (of_decide_eq_true ac) ah a1
    refine L_pu (P_add i2 1 rfl rfl a2) ?_
    refine L_pu (P_assign (vi (i2 + 1)) rfl) ?_
    refine L_nil ?_
    obtain ⟨a3, a4⟩ := H
    exact ⟨(k3 + 1 + 1, i2 + 1), a4, a3, ⟨rfl, rfl, rfl, trivial⟩, ab, aa⟩
 ·have H := ite_f H ac
  refine W_exit (xin_hit ?_)
  refine W_seq ?_
  refine W_reg ?_
  refine L_pu (P_move (vi k3) rfl) ?_
  refine L_pu (P_assign (vi k3) rfl) ?_
  refine L_nil ?_
  refine W_ret ?_
  exact ⟨[vi k3], ⟨_, rfl, rfl⟩, k3, rfl, H, ab.gr.g0⟩
end Go.Proofs.Ytndjggncgpjolaa

namespace Go.Proofs.Ytndjggncgpjolaa
open Go.RowKit
set_option linter.unusedVariables false
set_option linter.unusedSimpArgs false
def laws_heldShape.E (a : Shape) (k : Int) (Q : Int → Prop) : Prop :=
 laws_heldPtS.E a.Pts k (fun r => (if decide (r < 0) then Q (-1) else Q r))
set_option maxHeartbeats 8000000 in
set_option maxRecDepth 100000 in
theorem laws_heldShape.calls {O : Ob} (w0 : World) (hO : Ok w0 O) (a : Shape) (A1 : Option Addr) (n2 c3 : Nat) (hp4 : Sl kPt w0 (Fr O) (.slice A1 n2 c3) a.Pts) (k : Int) (Q : Int → Prop) (h : laws_heldShape.E a k Q) :
  Ret Try.prog 106 [.agg #[vi a.Kind, .slice A1 n2 c3], vi k] w0 (fun v w' => ∃ (r0 : Int), v = vi r0 ∧ Q r0 ∧ Gr w0 w' none) := by
 unfold laws_heldShape.E at h
 have H := h
 clear h
 have hc0 := Ct.init hO
 refine Ret_enter Try.func106 rfl 12 rfl [.tmp 4] rfl rfl ?_
 refine W_seq ?_
 refine W_reg ?_
 refine L_box [vi a.Kind, .slice A1 n2 c3] rfl fun w6 b7 hl9 hu10 g8 ad => ?_
 have ae := Fb.mk hc0.ok hl9 ad
 have aa := hc0.k0 g8
 refine L_pu (P_assign (vi 0) rfl) ?_
 refine L_nil ?_
 refine W_seq ?_
 refine W_reg ?_
 refine L_pu (P_fa fa68_1 ⟨b7, 0, none⟩ ⟨b7, 1, none⟩ rfl rfl) ?_
 refine L_pu (P_ld ag23 cL ⟨b7, 1, none⟩ (.slice A1 n2 c3) rfl (ae.cell rfl)) ?_
 refine L_pu (P_move (vi k) rfl) ?_
 refine L_call go70 [.slice A1 n2 c3, vi k] rfl ((laws_heldPtS.calls w6 aa.ok a.Pts A1 n2 c3 (hp4.st aa.st) k _ H).mono ?_)
 rintro _ ag ⟨r, rfl, H, af⟩
 have ac := aa.k0 af
 refine L_pu (P_assign (vi r) rfl) ?_
 refine L_nil ?_
 refine W_seq ?_
 refine W_seq ?_
 refine W_reg ?_
 refine L_pu (P_move (vi r) rfl) ?_
 refine L_pu (P_cmp r 0 (decide (r < 0)) rfl rfl rfl) ?_
 refine L_nil ?_
 refine W_cond (decide (r < 0)) rfl (fun ab => ?_) (fun ab => ?_)
 ·have H := ite_t H ab
  refine W_seq ?_
  refine W_reg ?_
  refine L_pu (P_assign (vi (-1)) rfl) ?_
  refine L_nil ?_
  refine W_ret ?_
  exact ⟨[vi (-1)], ⟨_, rfl, rfl⟩, (-1), rfl, H, ac.gr.g0⟩
 ·have H := ite_f H ab
  refine W_skip ?_
  refine W_seq ?_
  refine W_reg ?_
  refine L_pu (P_move (vi r) rfl) ?_
  refine L_pu (P_assign (vi r) rfl) ?_
  refine L_nil ?_
  refine W_ret ?_
  exact ⟨[vi r], ⟨_, rfl, rfl⟩, r, rfl, H, ac.gr.g0⟩
end Go.Proofs.Ytndjggncgpjolaa

namespace Go.Proofs.Ytndjggncgpjolaa
open Go.RowKit
set_option linter.unusedVariables false
set_option linter.unusedSimpArgs false
def laws_heldTagS.E (a : List Tag) (k : Int) (Q : Int → Prop) : Prop :=
 (∃ (I18 : Int → Int → Prop) (mu19 : Int → Int → Nat), I18 k 0 ∧ ∀ (k3 : Int) (i2 : Int), I18 k3 i2 → (if decide (i2 < (a.length : Int)) then ((0 : Int) ≤ i2 ∧ i2 < (a.length : Int)) ∧ (∃ q : Str, laws_markText.E k3 (fun x => x = q) ∧ (Lim q) ∧ (if ((nth a i2).Key) != q then Q (-1) else ((a.length : Int) ≤ 9223372036854775807 → I64 (k3 + 1)) ∧ ((0 : Int) ≤ i2 ∧ i2 < (a.length : Int)) ∧ (∃ q2 : Str, laws_markText.E (k3 + 1) (fun x => x = q2) ∧ (Lim q2) ∧ (if ((nth a i2).Val) != q2 then Q (-1) else ((a.length : Int) ≤ 9223372036854775807 → I64 (k3 + 1 + 1)) ∧ (-9223372036854775808 ≤ i2) ∧ I18 (k3 + 1 + 1) (i2 + 1) ∧ mu19 (k3 + 1 + 1) (i2 + 1) < mu19 k3 i2)))) else Q k3))
set_option maxHeartbeats 8000000 in
set_option maxRecDepth 100000 in
theorem laws_heldTagS.calls {O : Ob} (w0 : World) (hO : Ok w0 O) (a : List Tag) (A1 : Option Addr) (n2 c3 : Nat) (hp4 : Sl kTag w0 (Fr O) (.slice A1 n2 c3) a) (k : Int) (Q : Int → Prop) (h : laws_heldTagS.E a k Q) :
  Ret Try.prog 71 [.slice A1 n2 c3, vi k] w0 (fun v w' => ∃ (r0 : Int), v = vi r0 ∧ Q r0 ∧ Gr w0 w' none) := by
 unfold laws_heldTagS.E at h
 have H := h
 clear h
 have hc0 := Ct.init hO
 refine Ret_enter Try.func71 rfl 33 rfl [.tmp 4] rfl rfl ?_
 refine W_seq ?_
 refine W_reg ?_
 refine L_pu (P_assign (vi 0) rfl) ?_
 refine L_nil ?_
 refine W_seq ?_
 refine W_seq ?_
 refine W_reg ?_
 refine L_pu (P_assign (vi 0) rfl) ?_
 refine L_nil ?_
 refine W_block ?_
 obtain ⟨ar, au, ah, H⟩ := H
 refine W_loop (α := Int × Int) (fun (sv__ : Int × Int) t ab => match sv__ with | (k3, i2) => ar k3 i2 ∧ Has t [(0, .slice A1 n2 c3), (1, vi k3), (5, vi i2)] ∧ Ct [] w0 ab [] O ∧ Sl kTag ab (Fr ([] ++ O)) (.slice A1 n2 c3) a) (fun (sv__ : Int × Int) => match sv__ with | (k3, i2) => au k3 i2) (k, 0) ⟨ah, ⟨rfl, rfl, rfl, trivial⟩, hc0, hp4⟩ ?_
 rintro ⟨k3, i2⟩ _ ab ⟨ah, av, ac, aa⟩
 obtain ⟨bf, rfl⟩ := Has.ins av
 have H := H k3 i2 ah
 refine W_seq ?_
 refine W_seq ?_
 refine W_reg ?_
 refine L_pu (P_move (vi i2) rfl) ?_
 refine L_pu (P_move (.slice A1 n2 c3) rfl) ?_
 have ai := aa.le
 refine L_pu (P_len Try.underlying69 A1 n2 c3 aa.len rfl) ?_
 refine L_pu (P_cmp i2 (a.length : Int) (decide (i2 < (a.length : Int))) rfl rfl rfl) ?_
 refine L_nil ?_
 refine W_cond (decide (i2 < (a.length : Int))) rfl (fun ad => ?_) (fun ad => ?_)
 ·have H := ite_t H ad
  refine W_skip ?_
  refine W_seq ?_
  refine W_block ?_
  refine W_seq ?_
  refine W_seq ?_
  refine W_draw (fun x => Gr ab x none) (by kernel_rfl) (by kernel_rfl) (Gr.drew _) ?_
  refine Q_pu (P_move (.slice A1 n2 c3) rfl) ?_
  refine Q_pu (P_move (vi i2) rfl) ?_
  obtain ⟨am, H⟩ := H
  obtain ⟨ae, bg, aw, bh, ax, ay⟩ := aa.get default (by decide) i2 am
  obtain ⟨rfl, bi, bj⟩ := kTag.op ax
  refine Q_pu (P_ia Try.underlying69 se69 A1 ae n2 c3 aa.len i2 rfl aw rfl am) ?_
  refine Q_pu (P_fa fa133_0 (ae.add (i2.toNat * 2)) ((ae.add (i2.toNat * 2)).add 0) rfl rfl) ?_
  refine Q_pu (P_ld ag9 cQ ((ae.add (i2.toNat * 2)).add 0) (vs ((nth a i2).Key)) rfl (ay 0 _ rfl)) ?_
  refine Q_pu (P_move (vi k3) rfl) ?_
  obtain ⟨q, az, bl, H⟩ := H
  refine Q_call go67 [vi k3] rfl (vs q) (fun w g => (laws_markText.calls w (ac.k0 g).ok k3 _ az).mono ?_) ?_
  ·rintro _ w ⟨r, rfl, rfl, g2, _⟩
   exact ⟨rfl, Gr.t0 g g2⟩
  refine Q_pu (P_scmp ((nth a i2).Key) q (((nth a i2).Key) != q) rfl rfl rfl) ?_
  refine Q_nil fun a0 an => ?_
  have af := ac.k0 an
  refine W_cond (((nth a i2).Key) != q) rfl (fun aj => ?_) (fun aj => ?_)
  ·have H := ite_t H aj
   refine W_seq ?_
   refine W_reg ?_
   refine L_pu (P_assign (vi (-1)) rfl) ?_
   refine L_nil ?_
   refine W_ret ?_
   exact ⟨[vi (-1)], ⟨_, rfl, rfl⟩, (-1), rfl, H, af.gr.g0⟩
  ·have H := ite_f H aj
   refine W_skip ?_
   refine W_seq ?_
   refine W_reg ?_
   refine L_pu (P_move (vi k3) rfl) ?_
   obtain ⟨a1, H⟩ := H
   have a2 := a1 (len_le ai)
   refine L_pu (P_add k3 1 rfl rfl a2) ?_
   refine L_pu (P_assign (vi (k3 + 1)) rfl) ?_
   refine L_nil ?_
   refine W_seq ?_
   refine W_seq ?_
   refine W_draw (fun x => Gr a0 x none) (by kernel_rfl) (by kernel_rfl) (Gr.drew _) ?_
   refine Q_pu (P_move (.slice A1 n2 c3) rfl) ?_
   refine Q_pu (P_move (vi i2) rfl) ?_
   obtain ⟨ao, H⟩ := H
   have ak := ac.stn an
   obtain ⟨ag, bm, a3, bn, a4, a5⟩ := (aa.st ak).get default (by decide) i2 ao
   obtain ⟨rfl, bo, bp⟩ := kTag.op a4
   refine Q_pu (P_ia Try.underlying69 se69 A1 ag n2 c3 (aa.st ak).len i2 rfl a3 rfl ao) ?_
   refine Q_pu (P_fa fa133_1 (ag.add (i2.toNat * 2)) ((ag.add (i2.toNat * 2)).add 1) rfl rfl) ?_
   refine Q_pu (P_ld ag9 cQ ((ag.add (i2.toNat * 2)).add 1) (vs ((nth a i2).Val)) rfl (a5 1 _ rfl)) ?_
   refine Q_pu (P_move (vi (k3 + 1)) rfl) ?_
   obtain ⟨q2, a6, bq, H⟩ := H
   refine Q_call go67 [vi (k3 + 1)] rfl (vs q2) (fun w g => (laws_markText.calls w (af.k0 g).ok (k3 + 1) _ a6).mono ?_) ?_
   ·rintro _ w ⟨r, rfl, rfl, g2, _⟩
    exact ⟨rfl, Gr.t0 g g2⟩
   refine Q_pu (P_scmp ((nth a i2).Val) q2 (((nth a i2).Val) != q2) rfl rfl rfl) ?_
   refine Q_nil fun br ap => ?_
   have aq := af.k0 ap
   refine W_cond (((nth a i2).Val) != q2) rfl (fun al => ?_) (fun al => ?_)
   ·have H := ite_t H al
    refine W_seq ?_
    refine W_reg ?_
    refine L_pu (P_assign (vi (-1)) rfl) ?_
    refine L_nil ?_
    refine W_ret ?_
    exact ⟨[vi (-1)], ⟨_, rfl, rfl⟩, (-1), rfl, H, aq.gr.g0⟩
   ·have H := ite_f H al
    refine W_skip ?_
    refine W_reg ?_
    refine L_pu (P_move (vi (k3 + 1)) rfl) ?_
    obtain ⟨a7, H⟩ := H
    have a8 := a7 (len_le ai)
    refine L_pu (P_add (k3 + 1) 1 rfl rfl a8) ?_
    refine L_pu (P_assign (vi (k3 + 1 + 1)) rfl) ?_
    refine L_nil ?_
    refine W_reg ?_
    refine L_pu (P_move (vi i2) rfl) ?_
    obtain ⟨a9, H⟩ := H
    have ba : I64 (i2 + 1) := i64_succ (of_decide_eq_true ad) ai a9
    refine L_pu (P_add i2 1 rfl rfl ba) ?_
    refine L_pu (P_assign (vi (i2 + 1)) rfl) ?_
    refine L_nil ?_
    obtain ⟨bb, bc⟩ := H
    have bd := af.stn ap
    have be := ((aa.st ak).st bd)
    exact ⟨(k3 + 1 + 1, i2 + 1), bc, bb, ⟨rfl, rfl, rfl, trivial⟩, aq, be⟩
 ·have H := ite_f H ad
  refine W_exit (xin_hit ?_)
  refine W_seq ?_
  refine W_reg ?_
  refine L_pu (P_move (vi k3) rfl) ?_
  refine L_pu (P_assign (vi k3) rfl) ?_
  refine L_nil ?_
  refine W_ret ?_
  exact ⟨[vi k3], ⟨_, rfl, rfl⟩, k3, rfl, H, ac.gr.g0⟩
end Go.Proofs.Ytndjggncgpjolaa

namespace Go.Proofs.Ytndjggncgpjolaa
open Go.RowKit
set_option linter.unusedVariables false
set_option linter.unusedSimpArgs false
def laws_heldFeat.E (a : Feat) (k : Int) (Q : Int → Prop) : Prop :=
 laws_heldShape.E a.Shape k (fun r => (if decide (r < 0) then Q (-1) else laws_heldTagS.E a.Tags r (fun r2 => (if decide (r2 < 0) then Q (-1) else Q r2))))
set_option maxHeartbeats 8000000 in
set_option maxRecDepth 100000 in
theorem laws_heldFeat.calls {O : Ob} (w0 : World) (hO : Ok w0 O) (a : Feat) (A2 : Option Addr) (n3 c4 : Nat) (A7 : Option Addr) (n8 c9 : Nat) (hs1 : Lim a.Id) (hp5 : Sl kPt w0 (Fr O) (.slice A2 n3 c4) a.Shape.Pts) (ai : Sl kTag w0 (Fr O) (.slice A7 n8 c9) a.Tags) (k : Int) (Q : Int → Prop) (h : laws_heldFeat.E a k Q) :
  Ret Try.prog 41 [.agg #[vs a.Id, vi a.Shape.Kind, .slice A2 n3 c4, .slice A7 n8 c9], vi k] w0 (fun v w' => ∃ (r0 : Int), v = vi r0 ∧ Q r0 ∧ Gr w0 w' none) := by
 unfold laws_heldFeat.E at h
 have H := h
 clear h
 have hc0 := Ct.init hO
 refine Ret_enter Try.func41 rfl 18 rfl [.tmp 4] rfl rfl ?_
 refine W_seq ?_
 refine W_reg ?_
 refine L_box [vs a.Id, vi a.Shape.Kind, .slice A2 n3 c4, .slice A7 n8 c9] rfl fun aj aa ak hu16 al am => ?_
 have af := Fb.mk hc0.ok ak am
 have ab := hc0.k0 al
 refine L_pu (P_assign (vi 0) rfl) ?_
 refine L_nil ?_
 refine W_seq ?_
 refine W_reg ?_
 refine L_pu (P_fa fa71_1 ⟨aa, 0, none⟩ ⟨aa, 1, none⟩ rfl rfl) ?_
 refine L_pu (P_lda ag68 sz68 cL ⟨aa, 1, none⟩ [vi a.Shape.Kind, .slice A2 n3 c4] rfl rfl (af.cells (off := 1) rfl)) ?_
 refine L_pu (P_move (vi k) rfl) ?_
 refine L_call go106 [.agg #[vi a.Shape.Kind, .slice A2 n3 c4], vi k] rfl ((laws_heldShape.calls aj ab.ok a.Shape A2 n3 c4 (hp5.st ab.st) k _ H).mono ?_)
 rintro _ an ⟨r, rfl, H, ag⟩
 have ac := ab.k0 ag
 refine L_pu (P_assign (vi r) rfl) ?_
 refine L_nil ?_
 refine W_seq ?_
 refine W_seq ?_
 refine W_reg ?_
 refine L_pu (P_move (vi r) rfl) ?_
 refine L_pu (P_cmp r 0 (decide (r < 0)) rfl rfl rfl) ?_
 refine L_nil ?_
 refine W_cond (decide (r < 0)) rfl (fun ad => ?_) (fun ad => ?_)
 ·have H := ite_t H ad
  refine W_seq ?_
  refine W_reg ?_
  refine L_pu (P_assign (vi (-1)) rfl) ?_
  refine L_nil ?_
  refine W_ret ?_
  exact ⟨[vi (-1)], ⟨_, rfl, rfl⟩, (-1), rfl, H, ac.gr.g0⟩
 ·have H := ite_f H ad
  refine W_skip ?_
  refine W_seq ?_
  refine W_reg ?_
  refine L_pu (P_fa fa71_2 ⟨aa, 0, none⟩ ⟨aa, 3, none⟩ rfl rfl) ?_
  have ao := ab.stn ag
  have ap := (af.st ao)
  refine L_pu (P_ld ag69 cL ⟨aa, 3, none⟩ (.slice A7 n8 c9) rfl (ap.cell rfl)) ?_
  refine L_pu (P_move (vi r) rfl) ?_
  refine L_call go71 [.slice A7 n8 c9, vi r] rfl ((laws_heldTagS.calls an ac.ok a.Tags A7 n8 c9 (ai.st ac.st) r _ H).mono ?_)
  rintro _ ar ⟨r2, rfl, H, aq⟩
  have ah := ac.k0 aq
  refine L_pu (P_assign (vi r2) rfl) ?_
  refine L_nil ?_
  refine W_seq ?_
  refine W_seq ?_
  refine W_reg ?_
  refine L_pu (P_move (vi r2) rfl) ?_
  refine L_pu (P_cmp r2 0 (decide (r2 < 0)) rfl rfl rfl) ?_
  refine L_nil ?_
  refine W_cond (decide (r2 < 0)) rfl (fun ae => ?_) (fun ae => ?_)
  ·have H := ite_t H ae
   refine W_seq ?_
   refine W_reg ?_
   refine L_pu (P_assign (vi (-1)) rfl) ?_
   refine L_nil ?_
   refine W_ret ?_
   exact ⟨[vi (-1)], ⟨_, rfl, rfl⟩, (-1), rfl, H, ah.gr.g0⟩
  ·have H := ite_f H ae
   refine W_skip ?_
   refine W_seq ?_
   refine W_reg ?_
   refine L_pu (P_move (vi r2) rfl) ?_
   refine L_pu (P_assign (vi r2) rfl) ?_
   refine L_nil ?_
   refine W_ret ?_
   exact ⟨[vi r2], ⟨_, rfl, rfl⟩, r2, rfl, H, ah.gr.g0⟩
end Go.Proofs.Ytndjggncgpjolaa

namespace Go.Proofs.Ytndjggncgpjolaa
open Go.RowKit
set_option linter.unusedVariables false
set_option linter.unusedSimpArgs false
def laws_heldStringS.E (a : List Str) (k : Int) (Q : Int → Prop) : Prop :=
 (∃ (I18 : Int → Int → Prop) (mu19 : Int → Int → Nat), I18 k 0 ∧ ∀ (k3 : Int) (i2 : Int), I18 k3 i2 → (if decide (i2 < (a.length : Int)) then ((0 : Int) ≤ i2 ∧ i2 < (a.length : Int)) ∧ (∃ q : Str, laws_markText.E k3 (fun x => x = q) ∧ (Lim q) ∧ (if (nth a i2) != q then Q (-1) else ((a.length : Int) ≤ 9223372036854775807 → I64 (k3 + 1)) ∧ (-9223372036854775808 ≤ i2) ∧ I18 (k3 + 1) (i2 + 1) ∧ mu19 (k3 + 1) (i2 + 1) < mu19 k3 i2)) else Q k3))
set_option maxHeartbeats 8000000 in
set_option maxRecDepth 100000 in
theorem laws_heldStringS.calls {O : Ob} (w0 : World) (hO : Ok w0 O) (a : List Str) (A1 : Option Addr) (n2 c3 : Nat) (hp4 : Sl Kd.str w0 (Fr O) (.slice A1 n2 c3) a) (k : Int) (Q : Int → Prop) (h : laws_heldStringS.E a k Q) :
  Ret Try.prog 42 [.slice A1 n2 c3, vi k] w0 (fun v w' => ∃ (r0 : Int), v = vi r0 ∧ Q r0 ∧ Gr w0 w' none) := by
 unfold laws_heldStringS.E at h
 have H := h
 clear h
 have hc0 := Ct.init hO
 refine Ret_enter Try.func42 rfl 22 rfl [.tmp 4] rfl rfl ?_
 refine W_seq ?_
 refine W_reg ?_
 refine L_pu (P_assign (vi 0) rfl) ?_
 refine L_nil ?_
 refine W_seq ?_
 refine W_seq ?_
 refine W_reg ?_
 refine L_pu (P_assign (vi 0) rfl) ?_
 refine L_nil ?_
 refine W_block ?_
 obtain ⟨al, am, ae, H⟩ := H
 refine W_loop (α := Int × Int) (fun (sv__ : Int × Int) t ab => match sv__ with | (k3, i2) => al k3 i2 ∧ Has t [(0, .slice A1 n2 c3), (1, vi k3), (5, vi i2)] ∧ Ct [] w0 ab [] O ∧ Sl Kd.str ab (Fr ([] ++ O)) (.slice A1 n2 c3) a) (fun (sv__ : Int × Int) => match sv__ with | (k3, i2) => am k3 i2) (k, 0) ⟨ae, ⟨rfl, rfl, rfl, trivial⟩, hc0, hp4⟩ ?_
 rintro ⟨k3, i2⟩ _ ab ⟨ae, an, ac, aa⟩
 obtain ⟨a1, rfl⟩ := Has.ins an
 have H := H k3 i2 ae
 refine W_seq ?_
 refine W_seq ?_
 refine W_reg ?_
 refine L_pu (P_move (vi i2) rfl) ?_
 refine L_pu (P_move (.slice A1 n2 c3) rfl) ?_
 have ag := aa.le
 refine L_pu (P_len Try.underlying72 A1 n2 c3 aa.len rfl) ?_
 refine L_pu (P_cmp i2 (a.length : Int) (decide (i2 < (a.length : Int))) rfl rfl rfl) ?_
 refine L_nil ?_
 refine W_cond (decide (i2 < (a.length : Int))) rfl (fun ad => ?_) (fun ad => ?_)
 ·have H := ite_t H ad
  refine W_skip ?_
  refine W_seq ?_
  refine W_block ?_
  refine W_seq ?_
  refine W_seq ?_
  refine W_draw (fun x => Gr ab x none) (by kernel_rfl) (by kernel_rfl) (Gr.drew _) ?_
  refine Q_pu (P_move (.slice A1 n2 c3) rfl) ?_
  refine Q_pu (P_move (vi i2) rfl) ?_
  obtain ⟨ah, H⟩ := H
  obtain ⟨ai, a2, ao, a3, ap, aq⟩ := aa.get default (by decide) i2 ah
  obtain ⟨rfl, a4⟩ := Kd.str.op ap
  refine Q_pu (P_ia Try.underlying72 se72 A1 ai n2 c3 aa.len i2 rfl ao rfl ah) ?_
  refine Q_pu (P_ld ag9 cQ (ai.add (i2.toNat * 1)) (vs (nth a i2)) rfl (aq 0 _ rfl)) ?_
  refine Q_pu (P_move (vi k3) rfl) ?_
  obtain ⟨q, ar, a5, H⟩ := H
  refine Q_call go67 [vi k3] rfl (vs q) (fun w g => (laws_markText.calls w (ac.k0 g).ok k3 _ ar).mono ?_) ?_
  ·rintro _ w ⟨r, rfl, rfl, g2, _⟩
   exact ⟨rfl, Gr.t0 g g2⟩
  refine Q_pu (P_scmp (nth a i2) q ((nth a i2) != q) rfl rfl rfl) ?_
  refine Q_nil fun a6 aj => ?_
  have ak := ac.k0 aj
  refine W_cond ((nth a i2) != q) rfl (fun af => ?_) (fun af => ?_)
  ·have H := ite_t H af
   refine W_seq ?_
   refine W_reg ?_
   refine L_pu (P_assign (vi (-1)) rfl) ?_
   refine L_nil ?_
   refine W_ret ?_
   exact ⟨[vi (-1)], ⟨_, rfl, rfl⟩, (-1), rfl, H, ak.gr.g0⟩
  ·have H := ite_f H af
   refine W_skip ?_
   refine W_reg ?_
   refine L_pu (P_move (vi k3) rfl) ?_
   obtain ⟨au, H⟩ := H
   have av := au (len_le ag)
   refine L_pu (P_add k3 1 rfl rfl av) ?_
   refine L_pu (P_assign (vi (k3 + 1)) rfl) ?_
   refine L_nil ?_
   refine W_reg ?_
   refine L_pu (P_move (vi i2) rfl) ?_
   obtain ⟨aw, H⟩ := H
   have ax : I64 (i2 + 1) := i64_succ (of_decide_eq_true ad) ag aw
   refine L_pu (P_add i2 1 rfl rfl ax) ?_
   refine L_pu (P_assign (vi (i2 + 1)) rfl) ?_
   refine L_nil ?_
   obtain ⟨ay, az⟩ := H
   have a0 := ac.stn aj
   exact ⟨(k3 + 1, i2 + 1), az, ay, ⟨rfl, rfl, rfl, trivial⟩, ak, (aa.st a0)⟩
 ·have H := ite_f H ad
  refine W_exit (xin_hit ?_)
  refine W_seq ?_
  refine W_reg ?_
  refine L_pu (P_move (vi k3) rfl) ?_
  refine L_pu (P_assign (vi k3) rfl) ?_
  refine L_nil ?_
  refine W_ret ?_
  exact ⟨[vi k3], ⟨_, rfl, rfl⟩, k3, rfl, H, ac.gr.g0⟩
end Go.Proofs.Ytndjggncgpjolaa
