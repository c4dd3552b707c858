/- It is proved here that the law FnFeatJoin of the given program holds whatever it is handed: the walks through the code, the plain laws and the row, in this order.
   Conditions: none. -/
import Derived.Below
import Derived.ChangeArms
import Derived.ChangeOld
import Derived.ChangeSlices
import Derived.DataReads
import Derived.Deep.Quiet
import Derived.KernelRfl
import Derived.Laws.Build
import Derived.Laws.IdiomStrings
import Derived.Laws.OwnMore
import Derived.Laws.Slices
import Derived.Laws.StructEq
import Derived.OpenShut
import Derived.ProofKit
import Derived.Shelf.Slices.Cells
import Derived.Shelf.Slices.CompactS
import Derived.Shelf.Slices.In.SortNone
import Derived.Shelf.Small.Bits
import Derived.Shelf.Sort.Plain
import Derived.Shelf.Strconv.Itoa0
import Derived.ShutString
import Derived.SizedLaws
import Derived.StillTail
import Derived.Test.YtpdmnmpcjljeaaaProg
import Derived.Test.YtpdmnmpcjljeaaaRows
import Derived.WalkKit
import Derived.Test.YtpdmnmpcjljeaaaCFeatJoina
import Derived.Test.YtpdmnmpcjljeaaaCFeatJoinb
namespace Go.Proofs.Ytpdmnmpcjljeaaa
set_option linter.unusedVariables false
set_option linter.unusedSimpArgs false
set_option linter.unusedSectionVars false
set_option maxHeartbeats 8000000
set_option maxRecDepth 100000
section
open Go.RowKit
def F70.E (f : Feat) (Q : Bool → Prop) : Prop :=
 (∃ (I43 : Int → Prop) (mu44 : Int → Nat), I43 0 ∧ ∀ (v2 : Int), I43 v2 → (if decide (v2 < (f.Tags.length : Int)) then ((0 : Int) ≤ v2 ∧ v2 < (f.Tags.length : Int)) ∧ (∃ q : Bool, F69.E ((nth f.Tags v2).Key) (fun x => x = q) ∧ (if !q then Q false else (∃ q2 : Bool, F69.E ((nth f.Tags v2).Val) (fun x => x = q2) ∧ (if !q2 then Q false else (if decide (v2 > 0) then (I64 (v2 - 1)) ∧ ((0 : Int) ≤ v2 - 1 ∧ v2 - 1 < (f.Tags.length : Int)) ∧ (if !(Op.bytesLess ((nth f.Tags (v2 - 1)).Key) ((nth f.Tags v2).Key)) then Q false else (I64 (v2 + 1)) ∧ I43 (v2 + 1) ∧ mu44 (v2 + 1) < mu44 v2) else (I64 (v2 + 1)) ∧ I43 (v2 + 1) ∧ mu44 (v2 + 1) < mu44 v2))))) else F69.E f.Id (fun r3 => (if r3 then F47.E f.Shape (fun r4 => (if r4 then Q (decide ((f.Tags.length : Int) ≤ 4)) else Q false)) else Q false))))
theorem F70.calls {O : Ob} (w0 : World) (hO : Ok w0 O) (f : Feat) (A2 : Option Addr) (n3 c4 : Nat) (A7 : Option Addr) (n8 c9 : Nat) (hs1 : Lim f.Id) (hp5 : Sl kPt w0 (Fr O) (.slice A2 n3 c4) f.Shape.Pts) (ap : Sl kTag w0 (Fr O) (.slice A7 n8 c9) f.Tags) (Q : Bool → Prop) (h : F70.E f Q) :
  Ret Try.prog 12 [.agg #[vs f.Id, vi f.Shape.Kind, .slice A2 n3 c4, .slice A7 n8 c9]] w0 (fun v w' => ∃ (r0 : Bool), v = vb r0 ∧ Q r0 ∧ Gr w0 w' none) := by
 unfold F70.E at h
 have H := h
 clear h
 have hc0 := Ct.init hO
 refine Ret_enter Try.func12 rfl 54 rfl [.tmp 2] rfl rfl ?_
 refine W_seq (W_reg (L_box [vs f.Id, vi f.Shape.Kind, .slice A2 n3 c4, .slice A7 n8 c9] rfl fun cy ab br hu16 bs bt => ?_))
 have bc := Fb.mk hc0.ok br bt
 have ak := hc0.k0 bs
 refine L_as (vb false) rfl (L_nil (W_seq (W_seq (W_reg (L_pu (P_fa fa28_2 ⟨ab, 0, none⟩ ⟨ab, 3, none⟩ rfl rfl) (L_pu (P_ld ag26 cL ⟨ab, 3, none⟩ (.slice A7 n8 c9) rfl (bc.cell rfl)) ?_))))))
 have cz := (ap.st ak.st).le
 refine L_pu (P_len Try.underlying26 A7 n8 c9 (ap.st ak.st).len rfl) (L_mv (vi 0) rfl (L_nil (W_block ?_)))
 obtain ⟨bu, bv, aq, H⟩ := H
 refine W_loop (α := Int) (fun (sv__ : Int) t ai => match sv__ with | v2 => bu v2 ∧ Has t [(1, .pointer (some ⟨ab, 0, none⟩)), (6, .slice A7 n8 c9), (7, vi (f.Tags.length : Int)), (8, vi v2)] ∧ Ct [] w0 ai [] O ∧ Sl kTag ai (Fr ([] ++ O)) (.slice A7 n8 c9) f.Tags ∧ Sl kPt ai (Fr ([] ++ O)) (.slice A2 n3 c4) f.Shape.Pts ∧ Fb ai ([] ++ O) ab [vs f.Id, vi f.Shape.Kind, .slice A2 n3 c4, .slice A7 n8 c9]) (fun (sv__ : Int) => match sv__ with | v2 => bv v2) 0 ⟨aq, (hasI rfl), ak, (ap.st ak.st), (hp5.st ak.st), bc⟩ ?_
 rintro v2 _ ai ⟨aq, bw, aj, al, ar, am⟩
 obtain ⟨c0, rfl⟩ := Has.ins bw
 have H := H v2 aq
 refine W_seq (W_reg (L_pu (P_cmp v2 (f.Tags.length : Int) (decide (v2 < (f.Tags.length : Int))) rfl rfl rfl) (L_nil (W_seq ?_))))
 refine W_cond (decide (v2 < (f.Tags.length : Int))) rfl (fun au => ?_) (fun au => ?_)
 ·have H := ite_t H au
  refine W_skip (W_seq (W_block (W_seq (W_reg (L_mv (vi v2) rfl ?_)))))
  obtain ⟨bd, H⟩ := H
  obtain ⟨be, c1, bx, c2, bz, b0⟩ := al.get default (by decide) v2 bd
  obtain ⟨rfl, b1, b2⟩ := kTag.op bz
  refine L_pu (P_ia Try.underlying26 se26 A7 be n8 c9 al.len v2 rfl bx rfl bd) (L_pu (P_lda ag39 sz39 cL (be.add (v2.toNat * 2)) [vs ((nth f.Tags v2).Key), vs ((nth f.Tags v2).Val)] rfl rfl b0) (L_alloc [vs [], vs []] ze39 fun c3 af av hu63 aw b3 => ?_))
  have ax := aj.own aw (some af) (oglt av hu63)
  refine L_as (vi v2) rfl (L_stb af 0 [vs ([] : Str), vs ([] : Str)] [vs ((nth f.Tags v2).Key), vs ((nth f.Tags v2).Val)] [vs ((nth f.Tags v2).Key), vs ((nth f.Tags v2).Val)] rfl b3 rfl sz39 rfl rfl rfl fun b4 ay az => ?_)
  have ah := ax.wr 0 rfl ay
  refine L_nil (W_seq (W_draw (fun x => Gr b4 x none) (by kernel_rfl) (by kernel_rfl) (Gr.drew _) ?_))
  refine Q_pu (P_fa fa39_0 ⟨af, 0, none⟩ ⟨af, 0, none⟩ rfl rfl) (Q_pu (P_ld ag9 cQ ⟨af, 0, none⟩ (vs ((nth f.Tags v2).Key)) rfl (az.cell rfl)) ?_)
  obtain ⟨q, b5, H⟩ := H
  refine Q_call go45 [vs ((nth f.Tags v2).Key)] rfl (vb q) (fun w g => (F69.calls w (ah.k0 g).ok ((nth f.Tags v2).Key) b1 _ b5).mono ?_) ?_
  ·rintro _ w ⟨r, rfl, rfl, g2⟩
   exact ⟨rfl, Gr.t0 g g2⟩
  refine Q_pu (P_not q rfl) (Q_mv (vb (!q)) rfl ?_)
  rcases bool_or (!q) with ad | ad
  ·have H := ite_t H ad
   refine Q_pb ad rfl (Q_pb ad rfl (Q_pb ad rfl (Q_pb ad rfl (Q_pu (P_pick true (vb true) (by exact congrArg Value.bool ad) rfl) (Q_mv (vb true) rfl (Q_pass (dj := 23) rfl rfl (.inl rfl) (Q_pass (dj := 23) rfl rfl (.inl rfl) (Q_pass (dj := 23) rfl rfl (.inl rfl) ?_))))))))
   refine Q_pn rfl (Q_pn rfl (Q_pn rfl (Q_pn rfl (Q_pn rfl (Q_pn rfl (Q_pn rfl (Q_pn rfl (Q_pn rfl ?_))))))))
   refine Q_pn rfl (Q_pass (dj := 23) rfl rfl (.inl rfl) (Q_pu (P_pick true (vb true) (by exact congrArg Value.bool rfl) rfl) (Q_nil fun c5 b6 => ?_)))
   have b7 := ah.k0 b6
   refine W_ct (b := true) rfl rfl ?_
   refine W_seq (W_reg (L_as (vb false) rfl (L_nil (W_ret ?_))))
   have b8 := b7.drop 0 rfl
   exact ⟨[vb false], ⟨_, rfl, rfl⟩, false, rfl, H, b8.gr.g0⟩
  have H := ite_f H ad
  refine Q_rb ad rfl (Q_pu (P_fa fa39_1 ⟨af, 0, none⟩ ⟨af, 1, none⟩ rfl rfl) (Q_rb ad rfl (Q_pu (P_ld ag9 cQ ⟨af, 1, none⟩ (vs ((nth f.Tags v2).Val)) rfl (az.cell rfl)) (Q_rb ad rfl ?_))))
  obtain ⟨q2, b9, H⟩ := H
  refine Q_call go45 [vs ((nth f.Tags v2).Val)] rfl (vb q2) (fun w g => (F69.calls w (ah.k0 g).ok ((nth f.Tags v2).Val) b2 _ b9).mono ?_) ?_
  ·rintro _ w ⟨r, rfl, rfl, g2⟩
   exact ⟨rfl, Gr.t0 g g2⟩
  refine Q_rb ad rfl (Q_pu (P_not q2 rfl) (Q_pu (P_pick false (vb (!q2)) (by exact congrArg Value.bool ad) rfl) (Q_mv (vb (!q2)) rfl ?_)))
  rcases bool_or (!q2) with ac | ac
  ·have H := ite_t H ac
   refine Q_pb ac rfl (Q_pb ac rfl (Q_pb ac rfl (Q_pn rfl (Q_pn rfl (Q_pn rfl (Q_pn rfl (Q_pn rfl (Q_pn rfl ?_))))))))
   refine Q_pn rfl (Q_pn rfl (Q_pn rfl (Q_pn rfl (Q_pb ac rfl (Q_pu (P_pick true (vb true) (by exact congrArg Value.bool ac) rfl) (Q_nil fun c6 ca => ?_))))))
   have cb := ah.k0 ca
   refine W_ct (b := true) rfl rfl ?_
   refine W_seq (W_reg (L_as (vb false) rfl (L_nil (W_ret ?_))))
   have cc := cb.drop 0 rfl
   exact ⟨[vb false], ⟨_, rfl, rfl⟩, false, rfl, H, cc.gr.g0⟩
  have H := ite_f H ac
  refine Q_rb ac rfl (Q_mv (vi v2) rfl (Q_rb ac rfl (Q_pu (P_cmp v2 0 (decide (v2 > 0)) rfl rfl rfl) (Q_rb ac rfl (Q_mv (vb (decide (v2 > 0))) rfl ?_)))))
  rcases bool_or (decide (v2 > 0)) with aa | aa
  ·have H := ite_t H aa
   refine Q_rb aa rfl (Q_pu (P_fa fa28_2 ⟨ab, 0, none⟩ ⟨ab, 3, none⟩ rfl rfl) (Q_rb aa rfl ?_))
   have a0 := aj.stown _ aw (oge av)
   have a1 := ax.stw 0 rfl ay
   have bf := ((am.st a0).st a1)
   refine Q_pu (P_ld ag26 cQ ⟨ab, 3, none⟩ (.slice A7 n8 c9) rfl (bf.cell rfl)) (Q_rb aa rfl (Q_mv (vi v2) rfl (Q_rb aa rfl ?_)))
   obtain ⟨cd, H⟩ := H
   refine Q_pu (P_sub v2 1 rfl rfl cd) (Q_rb aa rfl ?_)
   obtain ⟨bg, H⟩ := H
   have a2 := ((al.st a0).st a1)
   obtain ⟨an, c7, ce, c8, cf, cg⟩ := a2.get default (by decide) (v2 - 1) bg
   obtain ⟨rfl, da, db⟩ := kTag.op cf
   refine Q_pu (P_ia Try.underlying26 se26 A7 an n8 c9 a2.len (v2 - 1) rfl ce rfl bg) (Q_rb aa rfl (Q_pu (P_fa fa39_0 (an.add ((v2 - 1).toNat * 2)) ((an.add ((v2 - 1).toNat * 2)).add 0) rfl rfl) (Q_rb aa rfl (Q_pu (P_ld ag9 cQ ((an.add ((v2 - 1).toNat * 2)).add 0) (vs ((nth f.Tags (v2 - 1)).Key)) rfl (cg 0 _ rfl)) (Q_rb aa rfl (Q_pu (P_fa fa39_0 ⟨af, 0, none⟩ ⟨af, 0, none⟩ rfl rfl) (Q_rb aa rfl (Q_pu (P_ld ag9 cQ ⟨af, 0, none⟩ (vs ((nth f.Tags v2).Key)) rfl (az.cell rfl)) ?_))))))))
   refine Q_rb aa rfl (Q_pu (P_scmp ((nth f.Tags (v2 - 1)).Key) ((nth f.Tags v2).Key) (!(Op.bytesLess ((nth f.Tags (v2 - 1)).Key) ((nth f.Tags v2).Key))) rfl rfl rfl) (Q_rb ac rfl (Q_pu (P_pick true (vb (!(Op.bytesLess ((nth f.Tags (v2 - 1)).Key) ((nth f.Tags v2).Key)))) (by exact congrArg Value.bool aa) rfl) (Q_pu (P_pick false (vb (!(Op.bytesLess ((nth f.Tags (v2 - 1)).Key) ((nth f.Tags v2).Key)))) (by exact congrArg Value.bool ac) rfl) (Q_nil fun dc bh => ?_)))))
   have a3 := ah.k0 bh
   refine W_cond (!(Op.bytesLess ((nth f.Tags (v2 - 1)).Key) ((nth f.Tags v2).Key))) rfl (fun a4 => ?_) (fun a4 => ?_)
   ·have H := ite_t H a4
    refine W_seq (W_reg (L_as (vb false) rfl (L_nil (W_ret ?_))))
    have ch := a3.drop 0 rfl
    exact ⟨[vb false], ⟨_, rfl, rfl⟩, false, rfl, H, ch.gr.g0⟩
   have H := ite_f H a4
   refine W_skip (W_reg ?_)
   obtain ⟨ci, H⟩ := H
   refine L_pu (P_add v2 1 rfl rfl ci) (L_mv (vi (v2 + 1)) rfl (L_nil ?_))
   have cj := a3.drop 0 rfl
   obtain ⟨ck, cl⟩ := H
   have a5 := ah.stn bh
   have a6 := a3.std 0 rfl
   have cm := ((a2.st a5).st a6)
   have cn := ((((ar.st a0).st a1).st a5).st a6)
   have co := ((bf.st a5).st a6)
   exact ⟨v2 + 1, cl, ck, (hasI rfl), cj, cm, cn, co⟩
  have H := ite_f H aa
  refine Q_pb aa rfl (Q_pb aa rfl (Q_pb aa rfl (Q_pb aa rfl (Q_pb aa rfl (Q_pb aa rfl (Q_pb aa rfl (Q_pb aa rfl (Q_pb aa rfl ?_))))))))
  refine Q_pb aa rfl (Q_rb ac rfl (Q_pu (P_pick false (vb false) (by exact congrArg Value.bool aa) rfl) (Q_pu (P_pick false (vb false) (by exact congrArg Value.bool ac) rfl) (Q_nil fun dd bi => ?_))))
  have bj := ah.k0 bi
  refine W_cf (b := false) rfl rfl ?_
  refine W_skip (W_reg ?_)
  obtain ⟨cp, H⟩ := H
  refine L_pu (P_add v2 1 rfl rfl cp) (L_mv (vi (v2 + 1)) rfl (L_nil ?_))
  have cq := bj.drop 0 rfl
  obtain ⟨cr, cs⟩ := H
  have a7 := aj.stown _ aw (oge av)
  have a8 := ax.stw 0 rfl ay
  have a9 := ah.stn bi
  have ba := bj.std 0 rfl
  have ct := ((((al.st a7).st a8).st a9).st ba)
  have cu := ((((ar.st a7).st a8).st a9).st ba)
  have cv := ((((am.st a7).st a8).st a9).st ba)
  exact ⟨v2 + 1, cs, cr, (hasI rfl), cq, ct, cu, cv⟩
 have H := ite_f H au
 refine W_exit (xin_hit ?_)
 refine W_seq (W_reg (L_pu (P_fa fa28_0 ⟨ab, 0, none⟩ ⟨ab, 0, none⟩ rfl rfl) (L_pu (P_ld ag9 cL ⟨ab, 0, none⟩ (vs f.Id) rfl (am.cell rfl)) ?_)))
 refine L_call go45 [vs f.Id] rfl ((F69.calls ai aj.ok f.Id hs1 _ H).mono ?_)
 rintro _ cw ⟨r3, rfl, H, bl⟩
 have ao := aj.k0 bl
 refine L_mv (vb r3) rfl ?_
 rcases bool_or r3 with ag | ag
 ·have H := ite_t H ag
  refine L_rb ag rfl (L_pu (P_fa fa28_1 ⟨ab, 0, none⟩ ⟨ab, 1, none⟩ rfl rfl) (L_rb ag rfl ?_))
  have bb := aj.stn bl
  have bm := (am.st bb)
  refine L_pu (P_lda ag25 sz25 cL ⟨ab, 1, none⟩ [vi f.Shape.Kind, .slice A2 n3 c4] rfl rfl (bm.cells (off := 1) rfl)) (L_rb ag rfl ?_)
  refine L_call go30 [.agg #[vi f.Shape.Kind, .slice A2 n3 c4]] rfl ((F47.calls cw ao.ok f.Shape A2 n3 c4 (ar.st bb) _ H).mono ?_)
  rintro _ de ⟨r4, rfl, H, bn⟩
  have bo := ao.k0 bn
  refine L_pu (P_pick true (vb r4) (by exact congrArg Value.bool ag) rfl) (L_mv (vb r4) rfl ?_)
  rcases bool_or r4 with ae | ae
  ·have H := ite_t H ae
   refine L_rb ae rfl (L_pu (P_fa fa28_2 ⟨ab, 0, none⟩ ⟨ab, 3, none⟩ rfl rfl) (L_rb ae rfl ?_))
   have bp := ao.stn bn
   have cx := (bm.st bp)
   refine L_pu (P_ld ag26 cL ⟨ab, 3, none⟩ (.slice A7 n8 c9) rfl (cx.cell rfl)) (L_rb ae rfl ?_)
   have bq := ((al.st bb).st bp)
   have df := bq.le
   exact L_pu (P_len Try.underlying26 A7 n8 c9 bq.len rfl) (L_rb ae rfl (L_pu (P_cmp (f.Tags.length : Int) 4 (decide ((f.Tags.length : Int) ≤ 4)) rfl rfl rfl) (L_pu (P_pick true (vb (decide ((f.Tags.length : Int) ≤ 4))) (by exact congrArg Value.bool ae) rfl) (L_as (vb (decide ((f.Tags.length : Int) ≤ 4))) rfl (L_nil (W_ret ⟨[vb (decide ((f.Tags.length : Int) ≤ 4))], ⟨_, rfl, rfl⟩, decide ((f.Tags.length : Int) ≤ 4), rfl, H, bo.gr.g0⟩))))))
  have H := ite_f H ae
  exact L_pb ae rfl (L_pb ae rfl (L_pb ae rfl (L_pb ae rfl (L_pu (P_pick false (vb false) (by exact congrArg Value.bool ae) rfl) (L_as (vb false) rfl (L_nil (W_ret ⟨[vb false], ⟨_, rfl, rfl⟩, false, rfl, H, bo.gr.g0⟩)))))))
 have H := ite_f H ag
 refine L_pb ag rfl (L_pb ag rfl (L_pb ag rfl (L_pu (P_pick false (vb false) (by exact congrArg Value.bool ag) rfl) (L_mv (vb false) rfl (L_pass (dj := 48) rfl rfl (.inl rfl) (L_pass (dj := 48) rfl rfl (.inl rfl) (L_pass (dj := 48) rfl rfl (.inl rfl) (L_pass (dj := 48) rfl rfl (.inl rfl) ?_))))))))
 exact L_pu (P_pick false (vb false) (by exact congrArg Value.bool rfl) rfl) (L_as (vb false) rfl (L_nil (W_ret ⟨[vb false], ⟨_, rfl, rfl⟩, false, rfl, H, ao.gr.g0⟩)))
end
section
open Go.RowKit
def F6.E (base_ : Shape) (a : Shape) (b : Shape) (same : Shape → Shape → Bool) (same_ok : Shape → Shape → Prop) (Q : Shape → Bool → Prop) : Prop :=
 (same_ok a base_) ∧ (if (same a base_) then Q b true else (same_ok b base_) ∧ (if (same b base_) then Q a true else (same_ok a b) ∧ (if (same a b) then Q a true else Q a false)))
theorem F6.calls {O : Ob} (w0 : World) (hO : Ok w0 O) (base_ : Shape) (A1 : Option Addr) (n2 c3 : Nat) (hp4 : Sl kPt w0 (Fr O) (.slice A1 n2 c3) base_.Pts) (a : Shape) (A6 : Option Addr) (n7 c8 : Nat) (hp9 : Sl kPt w0 (Fr O) (.slice A6 n7 c8) a.Pts) (b : Shape) (aa : Option Addr) (ab ac : Nat) (ar : Sl kPt w0 (Fr O) (.slice aa ab ac) b.Pts) (ai : FuncId) (ad : List Value) (same : Shape → Shape → Bool) (same_ok : Shape → Shape → Prop) (au : Goes Try.prog ai) (av : ∀ (w : World) (L : Ob), Ct [] w0 w L O → ∀ (x0_ : Shape) (a3 : Option Addr) (a4 a5 : Nat) (c1 : Sl kPt w (Fr (L ++ O)) (.slice a3 a4 a5) x0_.Pts) (x1_ : Shape) (a6 : Option Addr) (a7 a8 : Nat) (c2 : Sl kPt w (Fr (L ++ O)) (.slice a6 a7 a8) x1_.Pts), same_ok x0_ x1_ → Ret Try.prog ai ([.agg #[vi x0_.Kind, .slice a3 a4 a5], .agg #[vi x1_.Kind, .slice a6 a7 a8]] ++ ad) w (fun v w' => v = vb (same x0_ x1_) ∧ Gr w w' none)) (Q : Shape → Bool → Prop) (h : F6.E base_ a b same same_ok Q) :
  Ret Try.prog 28 [.agg #[vi base_.Kind, .slice A1 n2 c3], .agg #[vi a.Kind, .slice A6 n7 c8], .agg #[vi b.Kind, .slice aa ab ac], .func (.func ai) #[] ad.toArray] w0 (fun v w' => ∃ (r0 : Shape) (r1 : Bool) (Aw0 : Option Addr) (nw0 cw0 : Nat), v = .tuple #[.agg #[vi r0.Kind, .slice Aw0 nw0 cw0], vb r1] ∧ Q r0 r1 ∧ Gr w0 w' none ∧ Sl kPt w' (Fr O) (.slice Aw0 nw0 cw0) r0.Pts) := by
 unfold F6.E at h
 have H := h
 clear h
 have hc0 := Ct.init hO
 refine Ret_enter Try.func28 rfl 27 rfl [.cell 8 25, .tmp 9] rfl rfl ?_
 refine W_seq (W_reg (L_box [vi base_.Kind, .slice A1 n2 c3] rfl fun c4 a9 bu hu24 bv bw => ?_))
 have bx := Fb.mk hc0.ok bu bw
 have aw := hc0.k0 bv
 refine L_box [vi a.Kind, .slice A6 n7 c8] rfl fun c5 al bz hu33 ba b0 => ?_
 have b1 := Fb.mk aw.ok bz b0
 have ax := aw.k0 ba
 refine L_box [vi b.Kind, .slice aa ab ac] rfl fun c6 ay b2 hu42 bb b3 => ?_
 have bc := Fb.mk ax.ok b2 b3
 have bd := ax.k0 bb
 refine L_alloc [.int .i64 0, .slice none 0 0] ze25 fun b4 ae be hu51 bf an => ?_
 have aj := bd.own bf (some ae) (oglt be hu51)
 refine L_as (vb false) rfl (L_nil (W_seq (W_block (W_seq (W_reg (L_mv (.func (.func ai) #[] ad.toArray) rfl ?_))))))
 have bg := ax.stn bb
 have ao := bd.stown _ bf (oge be)
 have az := ((b1.st bg).st ao)
 refine L_pu (P_lda ag25 sz25 cL ⟨al, 0, none⟩ [vi a.Kind, .slice A6 n7 c8] rfl rfl (az.cells (off := 0) rfl)) ?_
 have b5 := aw.stn ba
 have bh := (((bx.st b5).st bg).st ao)
 refine L_pu (P_lda ag25 sz25 cL ⟨a9, 0, none⟩ [vi base_.Kind, .slice A1 n2 c3] rfl rfl (bh.cells (off := 0) rfl)) ?_
 obtain ⟨b6, H⟩ := H
 refine L_callv au ad rfl [.agg #[vi a.Kind, .slice A6 n7 c8], .agg #[vi base_.Kind, .slice A1 n2 c3]] rfl ((av b4 [some ae] aj a A6 n7 c8 (hp9.st aj.st) base_ A1 n2 c3 (hp4.st aj.st) b6).mono ?_)
 rintro _ b7 ⟨rfl, af⟩
 have ag := aj.k0 af
 refine L_as (vb (same a base_)) rfl (L_nil ?_)
 refine W_cond (same a base_) rfl (fun a0 => ?_) (fun a0 => ?_)
 ·have H := ite_t H a0
  refine W_seq (W_reg ?_)
  have b8 := aj.stn af
  have b9 := ((bc.st ao).st b8)
  refine L_pu (P_lda ag25 sz25 cL ⟨ay, 0, none⟩ [vi b.Kind, .slice aa ab ac] rfl rfl (b9.cells (off := 0) rfl)) ?_
  have ca := (an.k0 af)
  refine L_stb ae 0 [vi 0, .slice none 0 0] [vi b.Kind, .slice aa ab ac] [vi b.Kind, .slice aa ab ac] rfl ca rfl sz25 rfl rfl rfl fun c7 cb cc => ?_
  have bi := ag.wr 0 rfl cb
  refine L_as (vb true) rfl (L_nil (W_ret ?_))
  have cd := bi.bgv cc 0 rfl
  have bj := bi.drop 0 rfl
  exact ⟨[.agg #[vi b.Kind, .slice aa ab ac], vb true], ⟨_, _, rfl, cd.1.res rfl ag25 sz25, ⟨_, rfl, rfl⟩⟩, b, true, aa, ab, ac, rfl, H, bj.gr.g0, (ar.st bj.st)⟩
 have H := ite_f H a0
 refine W_seq (W_seq (W_reg (L_mv (.func (.func ai) #[] ad.toArray) rfl ?_)))
 have ap := aj.stn af
 have bl := ((bc.st ao).st ap)
 refine L_pu (P_lda ag25 sz25 cL ⟨ay, 0, none⟩ [vi b.Kind, .slice aa ab ac] rfl rfl (bl.cells (off := 0) rfl)) ?_
 have ce := (bh.st ap)
 refine L_pu (P_lda ag25 sz25 cL ⟨a9, 0, none⟩ [vi base_.Kind, .slice A1 n2 c3] rfl rfl (ce.cells (off := 0) rfl)) ?_
 obtain ⟨cf, H⟩ := H
 refine L_callv au ad rfl [.agg #[vi b.Kind, .slice aa ab ac], .agg #[vi base_.Kind, .slice A1 n2 c3]] rfl ((av b7 [some ae] ag b aa ab ac (ar.st ag.st) base_ A1 n2 c3 (hp4.st ag.st) cf).mono ?_)
 rintro _ cg ⟨rfl, ak⟩
 have ah := ag.k0 ak
 refine L_as (vb (same b base_)) rfl (L_nil ?_)
 refine W_cond (same b base_) rfl (fun aq => ?_) (fun aq => ?_)
 ·have H := ite_t H aq
  refine W_skip (W_ct (b := (same b base_)) rfl aq ?_)
  refine W_seq (W_reg ?_)
  have ch := ag.stn ak
  have ci := ((az.st ap).st ch)
  refine L_pu (P_lda ag25 sz25 cL ⟨al, 0, none⟩ [vi a.Kind, .slice A6 n7 c8] rfl rfl (ci.cells (off := 0) rfl)) ?_
  have cj := ((an.k0 af).k0 ak)
  refine L_stb ae 0 [vi 0, .slice none 0 0] [vi a.Kind, .slice A6 n7 c8] [vi a.Kind, .slice A6 n7 c8] rfl cj rfl sz25 rfl rfl rfl fun c9 ck cl => ?_
  have bm := ah.wr 0 rfl ck
  refine L_as (vb true) rfl (L_nil (W_ret ?_))
  have cm := bm.bgv cl 0 rfl
  have bn := bm.drop 0 rfl
  exact ⟨[.agg #[vi a.Kind, .slice A6 n7 c8], vb true], ⟨_, _, rfl, cm.1.res rfl ag25 sz25, ⟨_, rfl, rfl⟩⟩, a, true, A6, n7, c8, rfl, H, bn.gr.g0, (hp9.st bn.st)⟩
 have H := ite_f H aq
 refine W_reg (L_mv (.func (.func ai) #[] ad.toArray) rfl ?_)
 have bo := ag.stn ak
 have a1 := ((az.st ap).st bo)
 refine L_pu (P_lda ag25 sz25 cL ⟨al, 0, none⟩ [vi a.Kind, .slice A6 n7 c8] rfl rfl (a1.cells (off := 0) rfl)) ?_
 have cn := (bl.st bo)
 refine L_pu (P_lda ag25 sz25 cL ⟨ay, 0, none⟩ [vi b.Kind, .slice aa ab ac] rfl rfl (cn.cells (off := 0) rfl)) ?_
 obtain ⟨co, H⟩ := H
 refine L_callv au ad rfl [.agg #[vi a.Kind, .slice A6 n7 c8], .agg #[vi b.Kind, .slice aa ab ac]] rfl ((av cg [some ae] ah a A6 n7 c8 (hp9.st ah.st) b aa ab ac (ar.st ah.st) co).mono ?_)
 rintro _ da ⟨rfl, am⟩
 have bp := ah.k0 am
 refine L_as (vb (same a b)) rfl (L_nil ?_)
 refine W_cond (same a b) rfl (fun a2 => ?_) (fun a2 => ?_)
 ·have H := ite_t H a2
  refine W_seq (W_reg ?_)
  have cp := ah.stn am
  have cq := (a1.st cp)
  refine L_pu (P_lda ag25 sz25 cL ⟨al, 0, none⟩ [vi a.Kind, .slice A6 n7 c8] rfl rfl (cq.cells (off := 0) rfl)) ?_
  have cr := (((an.k0 af).k0 ak).k0 am)
  refine L_stb ae 0 [vi 0, .slice none 0 0] [vi a.Kind, .slice A6 n7 c8] [vi a.Kind, .slice A6 n7 c8] rfl cr rfl sz25 rfl rfl rfl fun db cs ct => ?_
  have bq := bp.wr 0 rfl cs
  refine L_as (vb true) rfl (L_nil (W_ret ?_))
  have cu := bq.bgv ct 0 rfl
  have br := bq.drop 0 rfl
  exact ⟨[.agg #[vi a.Kind, .slice A6 n7 c8], vb true], ⟨_, _, rfl, cu.1.res rfl ag25 sz25, ⟨_, rfl, rfl⟩⟩, a, true, A6, n7, c8, rfl, H, br.gr.g0, (hp9.st br.st)⟩
 have H := ite_f H a2
 refine W_skip (W_seq (W_reg ?_))
 have cv := ah.stn am
 have cw := (a1.st cv)
 refine L_pu (P_lda ag25 sz25 cL ⟨al, 0, none⟩ [vi a.Kind, .slice A6 n7 c8] rfl rfl (cw.cells (off := 0) rfl)) ?_
 have cx := (((an.k0 af).k0 ak).k0 am)
 refine L_stb ae 0 [vi 0, .slice none 0 0] [vi a.Kind, .slice A6 n7 c8] [vi a.Kind, .slice A6 n7 c8] rfl cx rfl sz25 rfl rfl rfl fun dc cy cz => ?_
 have bs := bp.wr 0 rfl cy
 refine L_as (vb false) rfl (L_nil (W_ret ?_))
 have c0 := bs.bgv cz 0 rfl
 have bt := bs.drop 0 rfl
 exact ⟨[.agg #[vi a.Kind, .slice A6 n7 c8], vb false], ⟨_, _, rfl, c0.1.res rfl ag25 sz25, ⟨_, rfl, rfl⟩⟩, a, false, A6, n7, c8, rfl, H, bt.gr.g0, (hp9.st bt.st)⟩
end
section
open Go.RowKit
def F16.E (s1 : List Pt) (s2 : List Pt) (Q : Bool → Prop) : Prop :=
 (if (s1.length : Int) != (s2.length : Int) then Q false else (∃ (I32 : Int → Prop) (mu33 : Int → Nat), I32 0 ∧ ∀ (v2 : Int), I32 v2 → (if decide (v2 < (s1.length : Int)) then ((0 : Int) ≤ v2 ∧ v2 < (s1.length : Int)) ∧ ((0 : Int) ≤ v2 ∧ v2 < (s2.length : Int)) ∧ (if !(eqPt (nth s1 v2) (nth s2 v2)) then Q false else (I64 (v2 + 1)) ∧ I32 (v2 + 1) ∧ mu33 (v2 + 1) < mu33 v2) else Q true)))
theorem F16.calls {O : Ob} (w0 : World) (hO : Ok w0 O) (s1 : List Pt) (A1 : Option Addr) (n2 c3 : Nat) (hp4 : Sl kPt w0 (Fr O) (.slice A1 n2 c3) s1) (s2 : List Pt) (A6 : Option Addr) (n7 c8 : Nat) (hp9 : Sl kPt w0 (Fr O) (.slice A6 n7 c8) s2) (Q : Bool → Prop) (h : F16.E s1 s2 Q) :
  Ret Try.prog 46 [.slice A1 n2 c3, .slice A6 n7 c8] w0 (fun v w' => ∃ (r0 : Bool), v = vb r0 ∧ Q r0 ∧ Gr w0 w' none) := by
 unfold F16.E at h
 have H := h
 clear h
 have hc0 := Ct.init hO
 refine Ret_enter Try.func46 rfl 26 rfl [.tmp 4] rfl rfl ?_
 refine W_seq (W_reg (L_as (vb false) rfl (L_nil (W_seq (W_seq (W_reg (L_mv (.slice A1 n2 c3) rfl ?_)))))))
 have a3 := hp4.le
 refine L_pu (P_len Try.underlying23 A1 n2 c3 hp4.len rfl) (L_mv (.slice A6 n7 c8) rfl ?_)
 have a4 := hp9.le
 refine L_pu (P_len Try.underlying23 A6 n7 c8 hp9.len rfl) (L_pu (P_cmp (s1.length : Int) (s2.length : Int) ((s1.length : Int) != (s2.length : Int)) rfl rfl rfl) (L_nil ?_))
 refine W_cond ((s1.length : Int) != (s2.length : Int)) rfl (fun ab => ?_) (fun ab => ?_)
 ·have H := ite_t H ab
  exact W_seq (W_reg (L_as (vb false) rfl (L_nil (W_ret ⟨[vb false], ⟨_, rfl, rfl⟩, false, rfl, H, hc0.gr.g0⟩))))
 have H := ite_f H ab
 refine W_skip (W_seq (W_seq (W_reg (L_mv (.slice A1 n2 c3) rfl (L_pu (P_len Try.underlying23 A1 n2 c3 hp4.len rfl) (L_mv (vi 0) rfl (L_nil (W_block ?_))))))))
 obtain ⟨ap, aq, ac, H⟩ := H
 refine W_loop (α := Int) (fun (sv__ : Int) t aa => match sv__ with | v2 => ap v2 ∧ Has t [(0, .slice A1 n2 c3), (1, .slice A6 n7 c8), (12, vi (s1.length : Int)), (13, vi v2)] ∧ Ct [] w0 aa [] O ∧ Sl kPt aa (Fr ([] ++ O)) (.slice A1 n2 c3) s1 ∧ Sl kPt aa (Fr ([] ++ O)) (.slice A6 n7 c8) s2) (fun (sv__ : Int) => match sv__ with | v2 => aq v2) 0 ⟨ac, (hasI rfl), hc0, hp4, hp9⟩ ?_
 rintro v2 _ aa ⟨ac, ar, ad, ae, af⟩
 obtain ⟨a5, rfl⟩ := Has.ins ar
 have H := H v2 ac
 refine W_seq (W_reg (L_pu (P_cmp v2 (s1.length : Int) (decide (v2 < (s1.length : Int))) rfl rfl rfl) (L_nil (W_seq ?_))))
 refine W_cond (decide (v2 < (s1.length : Int))) rfl (fun ag => ?_) (fun ag => ?_)
 ·have H := ite_t H ag
  refine W_skip (W_seq (W_block (W_seq (W_reg (L_mv (vi v2) rfl (L_as (vi v2) rfl (L_nil (W_seq ?_))))))))
  refine W_draw (fun x => Gr aa x none) (by kernel_rfl) (by kernel_rfl) (Gr.drew _) ?_
  refine Q_mv (.slice A1 n2 c3) rfl (Q_mv (vi v2) rfl ?_)
  obtain ⟨ai, H⟩ := H
  obtain ⟨aj, a6, au, a7, av, aw⟩ := ae.get default (by decide) v2 ai
  obtain rfl := kPt.op av
  refine Q_pu (P_ia Try.underlying23 se23 A1 aj n2 c3 ae.len v2 rfl au rfl ai) (Q_pu (P_lda ag83 sz83 cQ (aj.add (v2.toNat * 2)) [vi ((nth s1 v2).X), vi ((nth s1 v2).Y)] rfl rfl aw) (Q_mv (.slice A6 n7 c8) rfl (Q_mv (vi v2) rfl ?_)))
  obtain ⟨ak, H⟩ := H
  obtain ⟨al, a8, ax, a9, ay, az⟩ := af.get default (by decide) v2 ak
  obtain rfl := kPt.op ay
  refine Q_pu (P_ia Try.underlying23 se23 A6 al n7 c8 af.len v2 rfl ax rfl ak) (Q_pu (P_lda ag83 sz83 cQ (al.add (v2.toNat * 2)) [vi ((nth s2 v2).X), vi ((nth s2 v2).Y)] rfl rfl az) (Q_pu (P_ne _ _ (eqPt (nth s1 v2) (nth s2 v2)) (qt83 (nth s1 v2) (nth s2 v2)) rfl rfl) (Q_nil fun ba am => ?_)))
  have an := ad.k0 am
  refine W_cond (!(eqPt (nth s1 v2) (nth s2 v2))) rfl (fun ah => ?_) (fun ah => ?_)
  ·have H := ite_t H ah
   exact W_seq (W_reg (L_as (vb false) rfl (L_nil (W_ret ⟨[vb false], ⟨_, rfl, rfl⟩, false, rfl, H, an.gr.g0⟩))))
  have H := ite_f H ah
  refine W_skip (W_reg ?_)
  obtain ⟨a0, H⟩ := H
  refine L_pu (P_add v2 1 rfl rfl a0) (L_mv (vi (v2 + 1)) rfl (L_nil ?_))
  obtain ⟨a1, a2⟩ := H
  have ao := ad.stn am
  exact ⟨v2 + 1, a2, a1, (hasI rfl), an, (ae.st ao), (af.st ao)⟩
 have H := ite_f H ag
 refine W_exit (xin_hit ?_)
 exact W_seq (W_reg (L_as (vb true) rfl (L_nil (W_ret ⟨[vb true], ⟨_, rfl, rfl⟩, true, rfl, H, ad.gr.g0⟩))))
end
section
open Go.RowKit
def F25.E (a : Shape) (b : Shape) (Q : Bool → Prop) : Prop :=
 (if a.Kind == b.Kind then F16.E a.Pts b.Pts (fun r => Q r) else Q false)
theorem F25.calls {O : Ob} (w0 : World) (hO : Ok w0 O) (a : Shape) (A1 : Option Addr) (n2 c3 : Nat) (hp4 : Sl kPt w0 (Fr O) (.slice A1 n2 c3) a.Pts) (b : Shape) (A6 : Option Addr) (n7 c8 : Nat) (hp9 : Sl kPt w0 (Fr O) (.slice A6 n7 c8) b.Pts) (Q : Bool → Prop) (h : F25.E a b Q) :
  Ret Try.prog 13 [.agg #[vi a.Kind, .slice A1 n2 c3], .agg #[vi b.Kind, .slice A6 n7 c8]] w0 (fun v w' => ∃ (r0 : Bool), v = vb r0 ∧ Q r0 ∧ Gr w0 w' none) := by
 unfold F25.E at h
 have H := h
 clear h
 have hc0 := Ct.init hO
 refine Ret_enter Try.func13 rfl 17 rfl [.tmp 4] rfl rfl ?_
 refine W_seq (W_reg (L_box [vi a.Kind, .slice A1 n2 c3] rfl fun au ab ai hu15 aj ak => ?_))
 have al := Fb.mk hc0.ok ai ak
 have ae := hc0.k0 aj
 refine L_box [vi b.Kind, .slice A6 n7 c8] rfl fun am ac an hu24 af ao => ?_
 have ag := Fb.mk ae.ok an ao
 have ad := ae.k0 af
 refine L_as (vb false) rfl (L_nil (W_seq (W_reg (L_pu (P_fa fa25_0 ⟨ab, 0, none⟩ ⟨ab, 0, none⟩ rfl rfl) ?_))))
 have ap := ae.stn af
 have ah := (al.st ap)
 refine L_pu (P_ld ag3 cL ⟨ab, 0, none⟩ (vi a.Kind) rfl (ah.cell rfl)) (L_pu (P_fa fa25_0 ⟨ac, 0, none⟩ ⟨ac, 0, none⟩ rfl rfl) (L_pu (P_ld ag3 cL ⟨ac, 0, none⟩ (vi b.Kind) rfl (ag.cell rfl)) (L_pu (P_cmp a.Kind b.Kind (a.Kind == b.Kind) rfl rfl rfl) (L_mv (vb (a.Kind == b.Kind)) rfl ?_))))
 rcases bool_or (a.Kind == b.Kind) with aa | aa
 ·have H := ite_t H aa
  refine L_rb aa rfl (L_pu (P_fa fa25_1 ⟨ab, 0, none⟩ ⟨ab, 1, none⟩ rfl rfl) (L_rb aa rfl (L_pu (P_ld ag23 cL ⟨ab, 1, none⟩ (.slice A1 n2 c3) rfl (ah.cell rfl)) (L_rb aa rfl (L_pu (P_fa fa25_1 ⟨ac, 0, none⟩ ⟨ac, 1, none⟩ rfl rfl) (L_rb aa rfl (L_pu (P_ld ag23 cL ⟨ac, 1, none⟩ (.slice A6 n7 c8) rfl (ag.cell rfl)) (L_rb aa rfl ?_))))))))
  refine L_call go46 [.slice A1 n2 c3, .slice A6 n7 c8] rfl ((F16.calls am ad.ok a.Pts A1 n2 c3 (hp4.st ad.st) b.Pts A6 n7 c8 (hp9.st ad.st) _ H).mono ?_)
  rintro _ av ⟨r, rfl, H, aq⟩
  have ar := ad.k0 aq
  exact L_pu (P_pick true (vb r) (by exact congrArg Value.bool aa) rfl) (L_as (vb r) rfl (L_nil (W_ret ⟨[vb r], ⟨_, rfl, rfl⟩, r, rfl, H, ar.gr.g0⟩)))
 have H := ite_f H aa
 refine L_pb aa rfl (L_pb aa rfl (L_pb aa rfl (L_pb aa rfl (L_pb aa rfl (L_pu (P_pick false (vb false) (by exact congrArg Value.bool aa) rfl) (L_as (vb false) rfl (L_nil (W_ret ?_))))))))
 exact ⟨[vb false], ⟨_, rfl, rfl⟩, false, rfl, H, ad.gr.g0⟩
end
section
open Go.RowKit
def F48.E (a : List Pt) (b : List Pt) (Q : List (List Int) → Prop) : Prop :=
 ((a.length : Int) ≤ 9223372036854775807 → I64 ((a.length : Int) + 1)) ∧ ((0 : Int) ≤ (a.length : Int) + 1 ∧ (a.length : Int) + 1 ≤ (268435456 : Int)) ∧ (∃ (I59 : (List (List Int)) → Int → Prop) (mu60 : (List (List Int)) → Int → Nat), I59 (List.replicate ((a.length : Int) + 1).toNat ([] : List Int)) 0 ∧ ∀ (xs2 : List (List Int)) (v2 : Int), I59 xs2 v2 → (if decide (v2 < ((List.replicate ((a.length : Int) + 1).toNat ([] : List Int)).length : Int)) then ((b.length : Int) ≤ 9223372036854775807 → I64 ((b.length : Int) + 1)) ∧ ((0 : Int) ≤ (b.length : Int) + 1 ∧ (b.length : Int) + 1 ≤ (268435456 : Int)) ∧ ((0 : Int) ≤ v2 ∧ v2 < (xs2.length : Int)) ∧ ((b.length : Int) ≤ 9223372036854775807 → I64 (v2 + 1)) ∧ I59 (xs2.set v2.toNat (List.replicate ((b.length : Int) + 1).toNat (0 : Int))) (v2 + 1) ∧ mu60 (xs2.set v2.toNat (List.replicate ((b.length : Int) + 1).toNat (0 : Int))) (v2 + 1) < mu60 xs2 v2 else ((a.length : Int) ≤ 9223372036854775807 → I64 ((a.length : Int) - 1)) ∧ (∃ (I147 : (List (List Int)) → Int → Prop) (mu148 : (List (List Int)) → Int → Nat), I147 xs2 ((a.length : Int) - 1) ∧ ∀ (xs4 : List (List Int)) (i2 : Int), I147 xs4 i2 → (if decide (i2 ≥ 0) then ((b.length : Int) ≤ 9223372036854775807 → I64 ((b.length : Int) - 1)) ∧ (∃ (I189 : (List (List Int)) → Int → Prop) (mu190 : (List (List Int)) → Int → Nat), I189 xs4 ((b.length : Int) - 1) ∧ ∀ (xs6 : List (List Int)) (j2 : Int), I189 xs6 j2 → (if decide (j2 ≥ 0) then ((0 : Int) ≤ i2 ∧ i2 < (a.length : Int)) ∧ ((0 : Int) ≤ j2 ∧ j2 < (b.length : Int)) ∧ (if eqPt (nth a i2) (nth b j2) then ((0 : Int) ≤ i2 ∧ i2 < (xs6.length : Int)) ∧ (I64 (i2 + 1)) ∧ ((0 : Int) ≤ i2 + 1 ∧ i2 + 1 < (xs6.length : Int)) ∧ (I64 (j2 + 1)) ∧ ((0 : Int) ≤ j2 + 1 ∧ j2 + 1 < ((nth xs6 (i2 + 1)).length : Int)) ∧ (I64 ((nth (nth xs6 (i2 + 1)) (j2 + 1)) + 1)) ∧ ((0 : Int) ≤ j2 ∧ j2 < ((nth xs6 i2).length : Int)) ∧ (I64 (j2 - 1)) ∧ I189 (xs6.set i2.toNat ((nth xs6 i2).set j2.toNat ((nth (nth xs6 (i2 + 1)) (j2 + 1)) + 1))) (j2 - 1) ∧ mu190 (xs6.set i2.toNat ((nth xs6 i2).set j2.toNat ((nth (nth xs6 (i2 + 1)) (j2 + 1)) + 1))) (j2 - 1) < mu190 xs6 j2 else ((0 : Int) ≤ i2 ∧ i2 < (xs6.length : Int)) ∧ (I64 (i2 + 1)) ∧ ((0 : Int) ≤ i2 + 1 ∧ i2 + 1 < (xs6.length : Int)) ∧ ((0 : Int) ≤ j2 ∧ j2 < ((nth xs6 (i2 + 1)).length : Int)) ∧ ((0 : Int) ≤ i2 ∧ i2 < (xs6.length : Int)) ∧ (I64 (j2 + 1)) ∧ ((0 : Int) ≤ j2 + 1 ∧ j2 + 1 < ((nth xs6 i2).length : Int)) ∧ ((0 : Int) ≤ j2 ∧ j2 < ((nth xs6 i2).length : Int)) ∧ (I64 (j2 - 1)) ∧ I189 (xs6.set i2.toNat ((nth xs6 i2).set j2.toNat (max (nth (nth xs6 (i2 + 1)) j2) (nth (nth xs6 i2) (j2 + 1))))) (j2 - 1) ∧ mu190 (xs6.set i2.toNat ((nth xs6 i2).set j2.toNat (max (nth (nth xs6 (i2 + 1)) j2) (nth (nth xs6 i2) (j2 + 1))))) (j2 - 1) < mu190 xs6 j2) else (I64 (i2 - 1)) ∧ I147 xs6 (i2 - 1) ∧ mu148 xs6 (i2 - 1) < mu148 xs4 i2)) else Q xs4))))
theorem F48.calls {O : Ob} (w0 : World) (hO : Ok w0 O) (a : List Pt) (A1 : Option Addr) (n2 c3 : Nat) (hp4 : Sl kPt w0 (Fr O) (.slice A1 n2 c3) a) (b : List Pt) (A6 : Option Addr) (n7 c8 : Nat) (hp9 : Sl kPt w0 (Fr O) (.slice A6 n7 c8) b) (Q : List (List Int) → Prop) (h : F48.E a b Q) :
  Ret Try.prog 107 [.slice A1 n2 c3, .slice A6 n7 c8] w0 (fun v w' => ∃ (r0 : List (List Int)) (Aw0 : Option Addr) (nw0 cw0 : Nat), v = .slice Aw0 nw0 cw0 ∧ Q r0 ∧ Gr w0 w' none ∧ Sl (Kd.sl (Kd.int .i64)) w' (Fr O) (.slice Aw0 nw0 cw0) r0) := by
 unfold F48.E at h
 have H := h
 clear h
 have hc0 := Ct.init hO
 refine Ret_enter Try.func107 rfl 89 rfl [.tmp 4] rfl rfl ?_
 refine W_seq (W_reg (L_as (.slice none 0 0) rfl (L_nil (W_seq (W_reg (L_mv (.slice A1 n2 c3) rfl ?_))))))
 have dj := hp4.le
 refine L_pu (P_len Try.underlying23 A1 n2 c3 hp4.len rfl) ?_
 obtain ⟨dk, H⟩ := H
 have dl := dk (len_le dj)
 refine L_pu (P_add (a.length : Int) 1 rfl rfl dl) ?_
 obtain ⟨dm, H⟩ := H
 refine L_make (kd := Kd.raw) ei140 hc0 (.slice none 0 0 : Value) ⟨rfl, rfl⟩ ((a.length : Int) + 1) rfl rfl dm fun dn ad ae af f5 hr20 dp dq => ?_
 have a2 : Tb (Kd.int .i64) 86 3 dn _ _ _ (List.replicate ((a.length : Int) + 1).toNat []) := dq.nones
 have a3 := dp.nones ((a.length : Int) + 1).toNat
 refine L_as (.slice ad ae af) rfl (L_nil (W_seq (W_seq (W_reg (L_mv (.slice ad ae af) rfl ?_)))))
 have f6 := a2.le
 refine L_pu (P_len Try.underlying140 ad ae af a2.len rfl) (L_mv (vi 0) rfl (L_nil (W_block ?_)))
 obtain ⟨dr, ds, a4, H⟩ := H
 refine W_loop (α := (List (List Int)) × (List Value) × Int) (fun (sv__ : (List (List Int)) × (List Value) × Int) t ap => match sv__ with | (xs2, ag, v2) => dr xs2 v2 ∧ Has t [(0, .slice A1 n2 c3), (1, .slice A6 n7 c8), (5, .slice ad ae af), (14, vi ((List.replicate ((a.length : Int) + 1).toNat ([] : List Int)).length : Int)), (15, vi v2)] ∧ Ct [] w0 ap (blk (.slice ad ae af) :: (ag).map blk) O ∧ Sl kPt ap (Fr ((blk (.slice ad ae af) :: (ag).map blk) ++ O)) (.slice A1 n2 c3) a ∧ Sl kPt ap (Fr ((blk (.slice ad ae af) :: (ag).map blk) ++ O)) (.slice A6 n7 c8) b ∧ Tb (Kd.int .i64) 86 3 ap ((blk (.slice ad ae af) :: (ag).map blk) ++ O) (.slice ad ae af) ag xs2) (fun (sv__ : (List (List Int)) × (List Value) × Int) => match sv__ with | (xs2, _, v2) => ds xs2 v2) ((List.replicate ((a.length : Int) + 1).toNat ([] : List Int)), (List.replicate ((a.length : Int) + 1).toNat (Value.slice none 0 0)), 0) ⟨a4, (hasI rfl), a3, (hp4.st a3.st), (hp9.st a3.st), a2⟩ ?_
 rintro ⟨xs2, ag, v2⟩ _ ap ⟨a4, dt, a5, ax, ay, b0⟩
 obtain ⟨f7, rfl⟩ := Has.ins dt
 have H := H xs2 v2 a4
 refine W_seq (W_reg (L_pu (P_cmp v2 ((List.replicate ((a.length : Int) + 1).toNat ([] : List Int)).length : Int) (decide (v2 < ((List.replicate ((a.length : Int) + 1).toNat ([] : List Int)).length : Int))) rfl rfl rfl) (L_nil (W_seq ?_))))
 refine W_cond (decide (v2 < ((List.replicate ((a.length : Int) + 1).toNat ([] : List Int)).length : Int))) rfl (fun a6 => ?_) (fun a6 => ?_)
 ·have H := ite_t H a6
  refine W_skip (W_seq (W_block (W_seq (W_reg (L_mv (vi v2) rfl (L_as (vi v2) rfl (L_nil (W_reg ?_))))))))
  refine L_mv (.slice ad ae af) rfl (L_mv (vi v2) rfl (L_mv (.slice A6 n7 c8) rfl ?_))
  have b1 := ay.le
  refine L_pu (P_len Try.underlying23 A6 n7 c8 ay.len rfl) ?_
  obtain ⟨du, H⟩ := H
  have dv := du (len_le b1)
  refine L_pu (P_add (b.length : Int) 1 rfl rfl dv) ?_
  obtain ⟨dw, H⟩ := H
  refine L_make (kd := (Kd.int .i64)) ei86 a5 (0 : Int) (rfl) ((b.length : Int) + 1) rfl rfl dw fun f8 ak al am b2 hr75 b3 dx => ?_
  obtain ⟨az, H⟩ := H
  have an := (b0.own _ b2 hr75)
  obtain ⟨b4, f9, ga, gb, a7, gc, gd, ge⟩ := an.get v2 az
  refine L_pu (P_ia Try.underlying140 se140 ad b4 ae af an.len v2 rfl a7 rfl az) ?_
  have a8 : (0 : Int) ≤ v2 ∧ v2 < ((ag).length : Int) := by rw [an.2.1]; exact az
  obtain ⟨gf, gg, dy, b5, dz⟩ := an.1.get (default : Value) (by decide) v2 a8
  obtain rfl := Option.some.inj (a7.symm.trans dy)
  refine L_ste0 ad ae af ag an.1 v2 a8 b4 a7 0 rfl [.slice ak al am] rfl sz86 rfl (.slice ak al am) _ [.slice ak al am] dz (by rw [b5.1]; rfl) (by rw [b5.1]; rfl) ⟨rfl, rfl⟩ fun gh a9 d0 => ?_
  have d1 := Tb.sto (O := O) an b3 dx v2 az a9 d0
  have d2 := Ct.sto (u := .slice ak al am) b3 v2 a8 a9
  have b6 := St.sto (u := (.slice ak al am)) (vs := ag) (O := O) v2 a9
  refine L_nil (W_reg ?_)
  obtain ⟨d3, H⟩ := H
  have d4 := d3 (len_le b1)
  refine L_pu (P_add v2 1 rfl rfl d4) (L_mv (vi (v2 + 1)) rfl (L_nil ?_))
  obtain ⟨d5, d6⟩ := H
  have b7 := a5.stown _ b2 hr75
  have d7 := ((ax.st b7).st b6)
  have d8 := ((ay.st b7).st b6)
  exact ⟨((xs2.set v2.toNat (List.replicate ((b.length : Int) + 1).toNat (0 : Int))), (ag.set v2.toNat (.slice ak al am)), v2 + 1), d6, d5, (hasI rfl), d2, d7, d8, d1⟩
 have H := ite_f H a6
 refine W_exit (xin_hit ?_)
 refine W_seq (W_seq (W_reg (L_mv (.slice A1 n2 c3) rfl ?_)))
 have d9 := ax.le
 refine L_pu (P_len Try.underlying23 A1 n2 c3 ax.len rfl) ?_
 obtain ⟨ea, H⟩ := H
 have eb := ea (len_le d9)
 refine L_pu (P_sub (a.length : Int) 1 rfl rfl eb) (L_as (vi ((a.length : Int) - 1)) rfl (L_nil (W_block ?_)))
 obtain ⟨ec, ed, ba, H⟩ := H
 refine W_loop (α := (List (List Int)) × (List Value) × (Option Addr) × Nat × Nat × Int) (fun (sv__ : (List (List Int)) × (List Value) × (Option Addr) × Nat × Nat × Int) t aq => match sv__ with | (xs4, ai, aa, ab, ac, i2) => ec xs4 i2 ∧ Has t [(0, .slice A1 n2 c3), (1, .slice A6 n7 c8), (5, .slice aa ab ac), (7, vi i2)] ∧ Ct [] w0 aq (blk (.slice aa ab ac) :: (ai).map blk) O ∧ Sl kPt aq (Fr ((blk (.slice aa ab ac) :: (ai).map blk) ++ O)) (.slice A1 n2 c3) a ∧ Sl kPt aq (Fr ((blk (.slice aa ab ac) :: (ai).map blk) ++ O)) (.slice A6 n7 c8) b ∧ Tb (Kd.int .i64) 86 3 aq ((blk (.slice aa ab ac) :: (ai).map blk) ++ O) (.slice aa ab ac) ai xs4) (fun (sv__ : (List (List Int)) × (List Value) × (Option Addr) × Nat × Nat × Int) => match sv__ with | (xs4, _, _, _, _, i2) => ed xs4 i2) (xs2, ag, ad, ae, af, (a.length : Int) - 1) ⟨ba, (hasI rfl), a5, ax, ay, b0⟩ ?_
 rintro ⟨xs4, ai, aa, ab, ac, i2⟩ _ aq ⟨ba, ee, bb, ef, bc, b8⟩
 obtain ⟨gi, rfl⟩ := Has.ins ee
 have H := H xs4 i2 ba
 refine W_seq (W_seq (W_reg (L_mv (vi i2) rfl (L_pu (P_cmp i2 0 (decide (i2 ≥ 0)) rfl rfl rfl) (L_nil ?_)))))
 refine W_cond (decide (i2 ≥ 0)) rfl (fun bd => ?_) (fun bd => ?_)
 ·have H := ite_t H bd
  refine W_skip (W_seq (W_block (W_seq (W_reg (L_mv (.slice A6 n7 c8) rfl ?_)))))
  have eg := bc.le
  refine L_pu (P_len Try.underlying23 A6 n7 c8 bc.len rfl) ?_
  obtain ⟨eh, H⟩ := H
  have ei := eh (len_le eg)
  refine L_pu (P_sub (b.length : Int) 1 rfl rfl ei) (L_as (vi ((b.length : Int) - 1)) rfl (L_nil (W_block ?_)))
  obtain ⟨ej, ek, be, H⟩ := H
  refine W_loop (α := (List (List Int)) × (List Value) × Int) (fun (sv__ : (List (List Int)) × (List Value) × Int) t ao => match sv__ with | (xs6, ah, j2) => ej xs6 j2 ∧ Has t [(0, .slice A1 n2 c3), (1, .slice A6 n7 c8), (5, .slice aa ab ac), (7, vi i2), (8, vi j2)] ∧ Ct [] w0 ao (blk (.slice aa ab ac) :: (ah).map blk) O ∧ Sl kPt ao (Fr ((blk (.slice aa ab ac) :: (ah).map blk) ++ O)) (.slice A1 n2 c3) a ∧ Sl kPt ao (Fr ((blk (.slice aa ab ac) :: (ah).map blk) ++ O)) (.slice A6 n7 c8) b ∧ Tb (Kd.int .i64) 86 3 ao ((blk (.slice aa ab ac) :: (ah).map blk) ++ O) (.slice aa ab ac) ah xs6) (fun (sv__ : (List (List Int)) × (List Value) × Int) => match sv__ with | (xs6, _, j2) => ek xs6 j2) (xs4, ai, (b.length : Int) - 1) ⟨be, (hasI rfl), bb, ef, bc, b8⟩ ?_
  rintro ⟨xs6, ah, j2⟩ _ ao ⟨be, el, a0, ar, au, bf⟩
  obtain ⟨gj, rfl⟩ := Has.ins el
  have H := H xs6 j2 be
  refine W_seq (W_seq (W_reg (L_mv (vi j2) rfl (L_pu (P_cmp j2 0 (decide (j2 ≥ 0)) rfl rfl rfl) (L_nil ?_)))))
  refine W_cond (decide (j2 ≥ 0)) rfl (fun bg => ?_) (fun bg => ?_)
  ·have H := ite_t H bg
   refine W_skip (W_seq (W_block (W_seq (W_draw (fun x => Gr ao x none) (by kernel_rfl) (by kernel_rfl) (Gr.drew _) ?_))))
   refine Q_mv (.slice A1 n2 c3) rfl (Q_mv (vi i2) rfl ?_)
   obtain ⟨b9, H⟩ := H
   obtain ⟨ca, gk, em, gl, en, eo⟩ := ar.get default (by decide) i2 b9
   obtain rfl := kPt.op en
   refine Q_pu (P_ia Try.underlying23 se23 A1 ca n2 c3 ar.len i2 rfl em rfl b9) (Q_pu (P_lda ag83 sz83 cQ (ca.add (i2.toNat * 2)) [vi ((nth a i2).X), vi ((nth a i2).Y)] rfl rfl eo) (Q_mv (.slice A6 n7 c8) rfl (Q_mv (vi j2) rfl ?_)))
   obtain ⟨cb, H⟩ := H
   obtain ⟨cc, gm, ep, gn, eq, er⟩ := au.get default (by decide) j2 cb
   obtain rfl := kPt.op eq
   refine Q_pu (P_ia Try.underlying23 se23 A6 cc n7 c8 au.len j2 rfl ep rfl cb) (Q_pu (P_lda ag83 sz83 cQ (cc.add (j2.toNat * 2)) [vi ((nth b j2).X), vi ((nth b j2).Y)] rfl rfl er) (Q_pu (P_eq _ _ (eqPt (nth a i2) (nth b j2)) (qt83 (nth a i2) (nth b j2)) rfl rfl) (Q_nil fun gp av => ?_)))
   have a1 := a0.k0 av
   refine W_cond (eqPt (nth a i2) (nth b j2)) rfl (fun bh => ?_) (fun bh => ?_)
   ·have H := ite_t H bh
    refine W_tail 16 (by kernel_rfl) (by kernel_rfl) fun gq bi => ?_
    have cd := a1.k0 bi
    refine S_pu (P_move (.slice aa ab ac) rfl) ?_
    refine S_pu (P_move (vi i2) rfl) ?_
    obtain ⟨ce, H⟩ := H
    have aw := ((bf.k0 av).k0 bi)
    obtain ⟨cf, bj, bl, bm, es, bn, et, bo⟩ := aw.get i2 ce
    refine S_pu (P_ia Try.underlying140 se140 aa cf ab ac aw.len i2 rfl es rfl ce) ?_
    refine S_pu (P_ld ag86 cL (cf.add (i2.toNat * 1)) (.slice bj bl bm) rfl (et 0 _ rfl)) ?_
    refine S_pu (P_move (vi j2) rfl) ?_
    refine S_pu (P_move (.slice aa ab ac) rfl) ?_
    refine S_pu (P_move (vi i2) rfl) ?_
    obtain ⟨eu, H⟩ := H
    refine S_pu (P_add i2 1 rfl rfl eu) ?_
    obtain ⟨cg, H⟩ := H
    obtain ⟨ch, ci, cj, ck, ev, gs, ew, cl⟩ := aw.get (i2 + 1) cg
    refine S_pu (P_ia Try.underlying140 se140 aa ch ab ac aw.len (i2 + 1) rfl ev rfl cg) ?_
    refine S_pu (P_ld ag86 cL (ch.add ((i2 + 1).toNat * 1)) (.slice ci cj ck) rfl (ew 0 _ rfl)) ?_
    refine S_pu (P_move (vi j2) rfl) ?_
    obtain ⟨ex, H⟩ := H
    refine S_pu (P_add j2 1 rfl rfl ex) ?_
    obtain ⟨cm, H⟩ := H
    obtain ⟨cn, gt, ey, ez, e0⟩ := cl.get default (by decide) (j2 + 1) cm
    obtain rfl := Kd.int.op ez
    refine S_pu (P_ia Try.underlying86 se86 ci cn cj ck cl.len (j2 + 1) rfl ey rfl cm) ?_
    refine S_pu (P_ld ag3 cL (cn.add ((j2 + 1).toNat * 1)) (vi (nth (nth xs6 (i2 + 1)) (j2 + 1))) rfl (e0 0 _ rfl)) ?_
    obtain ⟨e1, H⟩ := H
    refine S_pu (P_add (nth (nth xs6 (i2 + 1)) (j2 + 1)) 1 rfl rfl e1) ?_
    obtain ⟨bp, H⟩ := H
    obtain ⟨co, gu, cp, e2, e3⟩ := bo.get default (by decide) j2 bp
    obtain rfl := Kd.int.op e2
    refine S_pu (P_ia Try.underlying86 se86 bj co bl bm bo.len j2 rfl cp rfl bp) ?_
    refine S_nil ?_
    refine L_ste0 bj bl bm (nth xs6 i2) bo j2 bp co cp 0 rfl [vi ((nth (nth xs6 (i2 + 1)) (j2 + 1)) + 1)] rfl sz3 rfl ((nth (nth xs6 (i2 + 1)) (j2 + 1)) + 1) [vi (nth (nth xs6 i2) j2)] [vi ((nth (nth xs6 (i2 + 1)) (j2 + 1)) + 1)] e3 rfl rfl rfl fun gv bq e4 => ?_
    have e5 := Tb.ste (O := O) aw cd bn bq e4
    have e6 := Ct.tb cd bn bq
    have cq := St.tb (v := .slice aa ab ac) (O := O) ⟨_, bn⟩ bq
    refine L_nil (W_reg (L_mv (vi j2) rfl ?_))
    obtain ⟨e7, H⟩ := H
    refine L_pu (P_sub j2 1 rfl rfl e7) (L_as (vi (j2 - 1)) rfl (L_nil ?_))
    obtain ⟨e8, e9⟩ := H
    have cr := a0.stn av
    have cs := a1.stn bi
    have fa := (((ar.st cr).st cs).st cq)
    have fb := (((au.st cr).st cs).st cq)
    exact ⟨((xs6.set i2.toNat ((nth xs6 i2).set j2.toNat ((nth (nth xs6 (i2 + 1)) (j2 + 1)) + 1))), ah, j2 - 1), e9, e8, (hasI rfl), e6, fa, fb, e5⟩
   have H := ite_f H bh
   refine W_tail 23 (by kernel_rfl) (by kernel_rfl) fun gw br => ?_
   have ct := a1.k0 br
   refine S_pu (P_move (.slice aa ab ac) rfl) ?_
   refine S_pu (P_move (vi i2) rfl) ?_
   obtain ⟨cu, H⟩ := H
   have aj := ((bf.k0 av).k0 br)
   obtain ⟨cv, bs, bt, bu, fc, bv, fd, bw⟩ := aj.get i2 cu
   refine S_pu (P_ia Try.underlying140 se140 aa cv ab ac aj.len i2 rfl fc rfl cu) ?_
   refine S_pu (P_ld ag86 cL (cv.add (i2.toNat * 1)) (.slice bs bt bu) rfl (fd 0 _ rfl)) ?_
   refine S_pu (P_move (vi j2) rfl) ?_
   refine S_pu (P_move (.slice aa ab ac) rfl) ?_
   refine S_pu (P_move (vi i2) rfl) ?_
   obtain ⟨fe, H⟩ := H
   refine S_pu (P_add i2 1 rfl rfl fe) ?_
   obtain ⟨cw, H⟩ := H
   obtain ⟨cx, cy, cz, c0, ff, gx, fg, c1⟩ := aj.get (i2 + 1) cw
   refine S_pu (P_ia Try.underlying140 se140 aa cx ab ac aj.len (i2 + 1) rfl ff rfl cw) ?_
   refine S_pu (P_ld ag86 cL (cx.add ((i2 + 1).toNat * 1)) (.slice cy cz c0) rfl (fg 0 _ rfl)) ?_
   refine S_pu (P_move (vi j2) rfl) ?_
   obtain ⟨c2, H⟩ := H
   obtain ⟨c4, gy, fh, fi, fj⟩ := c1.get default (by decide) j2 c2
   obtain rfl := Kd.int.op fi
   refine S_pu (P_ia Try.underlying86 se86 cy c4 cz c0 c1.len j2 rfl fh rfl c2) ?_
   refine S_pu (P_ld ag3 cL (c4.add (j2.toNat * 1)) (vi (nth (nth xs6 (i2 + 1)) j2)) rfl (fj 0 _ rfl)) ?_
   refine S_pu (P_move (.slice aa ab ac) rfl) ?_
   refine S_pu (P_move (vi i2) rfl) ?_
   obtain ⟨c5, H⟩ := H
   obtain ⟨c6, c7, c9, da, fk, gz, fl, db⟩ := aj.get i2 c5
   refine S_pu (P_ia Try.underlying140 se140 aa c6 ab ac aj.len i2 rfl fk rfl c5) ?_
   refine S_pu (P_ld ag86 cL (c6.add (i2.toNat * 1)) (.slice c7 c9 da) rfl (fl 0 _ rfl)) ?_
   refine S_pu (P_move (vi j2) rfl) ?_
   obtain ⟨fm, H⟩ := H
   refine S_pu (P_add j2 1 rfl rfl fm) ?_
   obtain ⟨dc, H⟩ := H
   obtain ⟨dd, g1, fn, fo, fp⟩ := db.get default (by decide) (j2 + 1) dc
   obtain rfl := Kd.int.op fo
   refine S_pu (P_ia Try.underlying86 se86 c7 dd c9 da db.len (j2 + 1) rfl fn rfl dc) ?_
   refine S_pu (P_ld ag3 cL (dd.add ((j2 + 1).toNat * 1)) (vi (nth (nth xs6 i2) (j2 + 1))) rfl (fp 0 _ rfl)) ?_
   refine S_pu (P_max (nth (nth xs6 (i2 + 1)) j2) (nth (nth xs6 i2) (j2 + 1)) rfl rfl) ?_
   obtain ⟨bx, H⟩ := H
   obtain ⟨de, g2, df, fq, fr⟩ := bw.get default (by decide) j2 bx
   obtain rfl := Kd.int.op fq
   refine S_pu (P_ia Try.underlying86 se86 bs de bt bu bw.len j2 rfl df rfl bx) ?_
   refine S_nil ?_
   refine L_ste0 bs bt bu (nth xs6 i2) bw j2 bx de df 0 rfl [vi (max (nth (nth xs6 (i2 + 1)) j2) (nth (nth xs6 i2) (j2 + 1)))] rfl sz3 rfl (max (nth (nth xs6 (i2 + 1)) j2) (nth (nth xs6 i2) (j2 + 1))) [vi (nth (nth xs6 i2) j2)] [vi (max (nth (nth xs6 (i2 + 1)) j2) (nth (nth xs6 i2) (j2 + 1)))] fr rfl rfl rfl fun g3 bz fs => ?_
   have ft := Tb.ste (O := O) aj ct bv bz fs
   have fu := Ct.tb ct bv bz
   have dg := St.tb (v := .slice aa ab ac) (O := O) ⟨_, bv⟩ bz
   refine L_nil (W_reg (L_mv (vi j2) rfl ?_))
   obtain ⟨fv, H⟩ := H
   refine L_pu (P_sub j2 1 rfl rfl fv) (L_as (vi (j2 - 1)) rfl (L_nil ?_))
   obtain ⟨fw, fx⟩ := H
   have dh := a0.stn av
   have di := a1.stn br
   have fy := (((ar.st dh).st di).st dg)
   have fz := (((au.st dh).st di).st dg)
   exact ⟨((xs6.set i2.toNat ((nth xs6 i2).set j2.toNat (max (nth (nth xs6 (i2 + 1)) j2) (nth (nth xs6 i2) (j2 + 1))))), ah, j2 - 1), fx, fw, (hasI rfl), fu, fy, fz, ft⟩
  have H := ite_f H bg
  refine W_exit (xin_hit ?_)
  refine W_reg (L_mv (vi i2) rfl ?_)
  obtain ⟨f0, H⟩ := H
  refine L_pu (P_sub i2 1 rfl rfl f0) (L_as (vi (i2 - 1)) rfl (L_nil ?_))
  obtain ⟨f1, f2⟩ := H
  exact ⟨(xs6, ah, aa, ab, ac, i2 - 1), f2, f1, (hasI rfl), a0, ar, au, bf⟩
 have H := ite_f H bd
 refine W_exit (xin_hit ?_)
 refine W_seq (W_reg (L_mv (.slice aa ab ac) rfl (L_as (.slice aa ab ac) rfl (L_nil (W_ret ?_)))))
 have f3 := b8.sl bb
 have f4 := bb.clear
 exact ⟨[.slice aa ab ac], ⟨_, rfl, rfl⟩, xs4, aa, ab, ac, rfl, H, f4.gr.g0, f3⟩
end
section
open Go.RowKit
def F34.E (a : List Pt) (b : List Pt) (Q : List Pair → Prop) : Prop :=
 (if decide ((a.length : Int) > 12) then Q ([] : List Pair) else (if decide ((b.length : Int) > 12) then Q ([] : List Pair) else F48.E a b (fun r => (∃ (I71 : (List Pair) → Int → Int → Prop) (mu72 : (List Pair) → Int → Int → Nat), I71 ([] : List Pair) 0 0 ∧ ∀ (xs2 : List Pair) (i2 : Int) (j2 : Int), I71 xs2 i2 j2 → (if decide (i2 < (a.length : Int)) then (if decide (j2 < (b.length : Int)) then ((0 : Int) ≤ i2 ∧ i2 < (a.length : Int)) ∧ ((0 : Int) ≤ j2 ∧ j2 < (b.length : Int)) ∧ (if eqPt (nth a i2) (nth b j2) then (xs2.length + ([(⟨i2, j2⟩ : Pair)] : List Pair).length ≤ 268435456) ∧ (-9223372036854775808 ≤ i2) ∧ (-9223372036854775808 ≤ j2) ∧ I71 (xs2 ++ ([(⟨i2, j2⟩ : Pair)] : List Pair)) (i2 + 1) (j2 + 1) ∧ mu72 (xs2 ++ ([(⟨i2, j2⟩ : Pair)] : List Pair)) (i2 + 1) (j2 + 1) < mu72 xs2 i2 j2 else (-9223372036854775808 ≤ i2) ∧ ((0 : Int) ≤ i2 + 1 ∧ i2 + 1 < (r.length : Int)) ∧ ((0 : Int) ≤ j2 ∧ j2 < ((nth r (i2 + 1)).length : Int)) ∧ ((0 : Int) ≤ i2 ∧ i2 < (r.length : Int)) ∧ (-9223372036854775808 ≤ j2) ∧ ((0 : Int) ≤ j2 + 1 ∧ j2 + 1 < ((nth r i2).length : Int)) ∧ (if decide ((nth (nth r (i2 + 1)) j2) ≥ (nth (nth r i2) (j2 + 1))) then (-9223372036854775808 ≤ i2) ∧ I71 xs2 (i2 + 1) j2 ∧ mu72 xs2 (i2 + 1) j2 < mu72 xs2 i2 j2 else (-9223372036854775808 ≤ j2) ∧ I71 xs2 i2 (j2 + 1) ∧ mu72 xs2 i2 (j2 + 1) < mu72 xs2 i2 j2)) else Q xs2) else Q xs2)))))
theorem F34.calls {O : Ob} (w0 : World) (hO : Ok w0 O) (a : List Pt) (A1 : Option Addr) (n2 c3 : Nat) (hp4 : Sl kPt w0 (Fr O) (.slice A1 n2 c3) a) (b : List Pt) (A6 : Option Addr) (n7 c8 : Nat) (hp9 : Sl kPt w0 (Fr O) (.slice A6 n7 c8) b) (Q : List Pair → Prop) (h : F34.E a b Q) :
  Ret Try.prog 80 [.slice A1 n2 c3, .slice A6 n7 c8] w0 (fun v w' => ∃ (r0 : List Pair) (Aw0 : Option Addr) (nw0 cw0 : Nat), v = .slice Aw0 nw0 cw0 ∧ Q r0 ∧ Gr w0 w' none ∧ Ok w' ([bk Aw0] ++ O) ∧ (∀ b, some b ∈ [bk Aw0] → w0.heap.size ≤ b) ∧ Ow kPair 143 w' ([bk Aw0] ++ O) (.slice Aw0 nw0 cw0) r0) := by
 unfold F34.E at h
 have H := h
 clear h
 have hc0 := Ct.init hO
 refine Ret_enter Try.func80 rfl 75 rfl [.tmp 4] rfl rfl ?_
 refine W_seq (W_reg (L_as (.slice none 0 0) rfl (L_nil (W_seq (W_reg (L_lit (kd := kPair) ei115 hc0 ([] : List Pair) (cells := []) rfl (fun _ => by kernel_rfl) fun b6 ag ah ai d1 hr16 ae az => ?_))))))
 refine L_as (.slice ag ah ai) rfl (L_nil (W_seq (W_seq (W_reg (L_mv (.slice A1 n2 c3) rfl ?_)))))
 have d2 := (hp4.st ae.st).le
 refine L_pu (P_len Try.underlying23 A1 n2 c3 (hp4.st ae.st).len rfl) (L_pu (P_cmp (a.length : Int) 12 (decide ((a.length : Int) > 12)) rfl rfl rfl) (L_mv (vb (decide ((a.length : Int) > 12))) rfl ?_))
 rcases bool_or (decide ((a.length : Int) > 12)) with af | af
 ·have H := ite_t H af
  refine L_pb af rfl (L_pb af rfl (L_pb af rfl (L_pu (P_pick true (vb true) (by exact congrArg Value.bool af) rfl) (L_nil (W_ct (b := true) rfl rfl ?_)))))
  exact W_seq (W_reg (L_mv (.slice ag ah ai) rfl (L_as (.slice ag ah ai) rfl (L_nil (W_ret ⟨[.slice ag ah ai], ⟨_, rfl, rfl⟩, ([] : List Pair), ag, ah, ai, rfl, H, ae.gr.g0, ae.ok, ae.ge, az⟩)))))
 have H := ite_f H af
 refine L_rb af rfl (L_mv (.slice A6 n7 c8) rfl (L_rb af rfl ?_))
 have d3 := (hp9.st ae.st).le
 refine L_pu (P_len Try.underlying23 A6 n7 c8 (hp9.st ae.st).len rfl) (L_rb af rfl (L_pu (P_cmp (b.length : Int) 12 (decide ((b.length : Int) > 12)) rfl rfl rfl) (L_pu (P_pick false (vb (decide ((b.length : Int) > 12))) (by exact congrArg Value.bool af) rfl) (L_nil ?_))))
 refine W_cond (decide ((b.length : Int) > 12)) rfl (fun a0 => ?_) (fun a0 => ?_)
 ·have H := ite_t H a0
  exact W_seq (W_reg (L_mv (.slice ag ah ai) rfl (L_as (.slice ag ah ai) rfl (L_nil (W_ret ⟨[.slice ag ah ai], ⟨_, rfl, rfl⟩, ([] : List Pair), ag, ah, ai, rfl, H, ae.gr.g0, ae.ok, ae.ge, az⟩)))))
 have H := ite_f H a0
 refine W_skip (W_seq (W_reg (L_mv (.slice A1 n2 c3) rfl (L_mv (.slice A6 n7 c8) rfl ?_))))
 refine L_call go107 [.slice A1 n2 c3, .slice A6 n7 c8] rfl ((F48.calls b6 ae.ok a A1 n2 c3 (hp4.st ae.st) b A6 n7 c8 (hp9.st ae.st) _ H).mono ?_)
 rintro _ d4 ⟨r, al, am, an, rfl, H, be, b7⟩
 have a1 := ae.k0 be
 refine L_as (.slice al am an) rfl (L_nil (W_seq (W_seq (W_reg (L_as (vi 0) rfl (L_as (vi 0) rfl (L_nil (W_block ?_))))))))
 obtain ⟨b8, b9, a2, H⟩ := H
 have ca := (az.sn be)
 refine W_loop (α := (List Pair) × (Option Addr) × Nat × Nat × Int × Int) (fun (sv__ : (List Pair) × (Option Addr) × Nat × Nat × Int × Int) t ao => match sv__ with | (xs2, aa, ac, ad, i2, j2) => b8 xs2 i2 j2 ∧ Has t [(0, .slice A1 n2 c3), (1, .slice A6 n7 c8), (5, .slice aa ac ad), (6, .slice al am an), (7, vi i2), (8, vi j2)] ∧ Ct [] w0 ao [bk aa] O ∧ Sl kPt ao (Fr ([bk aa] ++ O)) (.slice A1 n2 c3) a ∧ Sl kPt ao (Fr ([bk aa] ++ O)) (.slice A6 n7 c8) b ∧ Sl (Kd.sl (Kd.int .i64)) ao (Fr ([bk aa] ++ O)) (.slice al am an) r ∧ Ow kPair 143 ao ([bk aa] ++ O) (.slice aa ac ad) xs2) (fun (sv__ : (List Pair) × (Option Addr) × Nat × Nat × Int × Int) => match sv__ with | (xs2, _, _, _, i2, j2) => b9 xs2 i2 j2) (([] : List Pair), ag, ah, ai, 0, 0) ⟨a2, (hasI rfl), a1, (hp4.st a1.st), (hp9.st a1.st), b7, ca⟩ ?_
 rintro ⟨xs2, aa, ac, ad, i2, j2⟩ _ ao ⟨a2, cb, ak, ap, aq, ar, aw⟩
 obtain ⟨d5, rfl⟩ := Has.ins cb
 have H := H xs2 i2 j2 a2
 refine W_seq (W_seq (W_reg (L_mv (vi i2) rfl (L_mv (.slice A1 n2 c3) rfl ?_))))
 have a3 := ap.le
 refine L_pu (P_len Try.underlying23 A1 n2 c3 ap.len rfl) (L_pu (P_cmp i2 (a.length : Int) (decide (i2 < (a.length : Int))) rfl rfl rfl) (L_mv (vb (decide (i2 < (a.length : Int)))) rfl ?_))
 rcases bool_or (decide (i2 < (a.length : Int))) with ab | ab
 ·have H := ite_t H ab
  refine L_rb ab rfl (L_mv (vi j2) rfl (L_rb ab rfl (L_mv (.slice A6 n7 c8) rfl (L_rb ab rfl ?_))))
  have a4 := aq.le
  refine L_pu (P_len Try.underlying23 A6 n7 c8 aq.len rfl) (L_rb ab rfl (L_pu (P_cmp j2 (b.length : Int) (decide (j2 < (b.length : Int))) rfl rfl rfl) (L_pu (P_pick true (vb (decide (j2 < (b.length : Int)))) (by exact congrArg Value.bool ab) rfl) (L_nil ?_))))
  refine W_cond (decide (j2 < (b.length : Int))) rfl (fun au => ?_) (fun au => ?_)
  ·have H := ite_t H au
   refine W_skip (W_block (W_block (W_seq (W_draw (fun x => Gr ao x none) (by kernel_rfl) (by kernel_rfl) (Gr.drew _) ?_))))
   refine Q_mv (.slice A1 n2 c3) rfl (Q_mv (vi i2) rfl ?_)
   obtain ⟨bf, H⟩ := H
   obtain ⟨bg, d6, cc, d7, cd, ce⟩ := ap.get default (by decide) i2 bf
   obtain rfl := kPt.op cd
   refine Q_pu (P_ia Try.underlying23 se23 A1 bg n2 c3 ap.len i2 rfl cc rfl bf) (Q_pu (P_lda ag83 sz83 cQ (bg.add (i2.toNat * 2)) [vi ((nth a i2).X), vi ((nth a i2).Y)] rfl rfl ce) (Q_mv (.slice A6 n7 c8) rfl (Q_mv (vi j2) rfl ?_)))
   obtain ⟨bh, H⟩ := H
   obtain ⟨bi, d8, cf, d9, cg, ch⟩ := aq.get default (by decide) j2 bh
   obtain rfl := kPt.op cg
   refine Q_pu (P_ia Try.underlying23 se23 A6 bi n7 c8 aq.len j2 rfl cf rfl bh) (Q_pu (P_lda ag83 sz83 cQ (bi.add (j2.toNat * 2)) [vi ((nth b j2).X), vi ((nth b j2).Y)] rfl rfl ch) (Q_pu (P_eq _ _ (eqPt (nth a i2) (nth b j2)) (qt83 (nth a i2) (nth b j2)) rfl rfl) (Q_as (vb (eqPt (nth a i2) (nth b j2))) rfl (Q_nil fun ci av => ?_))))
   have ax := ak.k0 av
   refine W_cond (eqPt (nth a i2) (nth b j2)) rfl (fun a5 => ?_) (fun a5 => ?_)
   ·have H := ite_t H a5
    refine W_seq (W_reg (L_mv (.slice aa ac ad) rfl (L_mv (vi i2) rfl (L_mv (vi j2) rfl (L_pu (P_build (.agg #[vi i2, vi j2]) (fun _ => by kernel_rfl)) (L_lit (kd := kPair) ei115 ax ([(⟨i2, j2⟩ : Pair)] : List Pair) (cells := [vi i2, vi j2]) ⟨[vi i2, vi j2], _, rfl, (kPair.mk _ _ (⟨i2, j2⟩ : Pair)), rfl⟩ (fun _ => by kernel_rfl) fun ea cj ck cl bj hr106 cm cn => ?_))))))
    obtain ⟨co, H⟩ := H
    have cp := ((aw.sn av).so _ bj hr106)
    refine L_app ei115 cm (.slice aa ac ad) xs2 ([(⟨i2, j2⟩ : Pair)] : List Pair) rfl cp (.slice cj ck cl) rfl cn.sx 1 rfl co fun eb bl bm bn ec a6 a7 cq => ?_
    refine L_as (.slice bl bm bn) rfl (L_nil (W_seq (W_reg (L_mv (vi i2) rfl ?_))))
    obtain ⟨cr, H⟩ := H
    have cs : I64 (i2 + 1) := i64_succ (of_decide_eq_true ab) a3 cr
    refine L_pu (P_add i2 1 rfl rfl cs) (L_as (vi (i2 + 1)) rfl (L_nil (W_reg (L_mv (vi j2) rfl ?_))))
    obtain ⟨ct, H⟩ := H
    have cu : I64 (j2 + 1) := i64_succ (of_decide_eq_true au) a4 ct
    refine L_pu (P_add j2 1 rfl rfl cu) (L_as (vi (j2 + 1)) rfl (L_nil ?_))
    have cv := a7.drop 0 rfl
    obtain ⟨cw, cx⟩ := H
    have a8 := ak.stn av
    have a9 := ax.stown _ bj hr106
    have ba := a7.std 0 rfl
    have cy := ((((ap.st a8).st a9).st a6).st ba)
    have cz := ((((aq.st a8).st a9).st a6).st ba)
    have c0 := ((((ar.st a8).st a9).st a6).st ba)
    have c1 := (a7.sd cq 1 0 rfl rfl rfl)
    exact ⟨((xs2 ++ ([(⟨i2, j2⟩ : Pair)] : List Pair)), bl, bm, bn, i2 + 1, j2 + 1), cx, cw, (hasI rfl), cv, cy, cz, c0, c1⟩
   have H := ite_f H a5
   refine W_seq (W_draw (fun x => Gr ci x none) (by kernel_rfl) (by kernel_rfl) (Gr.drew _) ?_)
   refine Q_mv (.slice al am an) rfl (Q_mv (vi i2) rfl ?_)
   obtain ⟨c2, H⟩ := H
   have c4 : I64 (i2 + 1) := i64_succ (of_decide_eq_true ab) a3 c2
   refine Q_pu (P_add i2 1 rfl rfl c4) ?_
   obtain ⟨bo, H⟩ := H
   have aj := ak.stn av
   obtain ⟨bp, ed, c5, ee, c6, c7⟩ := (ar.st aj).get default (by decide) (i2 + 1) bo
   obtain ⟨bq, br, bs, rfl, bt⟩ := Kd.sl.op c6
   refine Q_pu (P_ia Try.underlying140 se140 al bp am an (ar.st aj).len (i2 + 1) rfl c5 rfl bo) (Q_pu (P_ld ag86 cQ (bp.add ((i2 + 1).toNat * 1)) (.slice bq br bs) rfl (c7 0 _ rfl)) (Q_mv (vi j2) rfl ?_))
   obtain ⟨bu, H⟩ := H
   obtain ⟨bv, ef, c9, eg, da, db⟩ := bt.get default (by decide) j2 bu
   obtain rfl := Kd.int.op da
   refine Q_pu (P_ia Try.underlying86 se86 bq bv br bs bt.len j2 rfl c9 rfl bu) (Q_pu (P_ld ag3 cQ (bv.add (j2.toNat * 1)) (vi (nth (nth r (i2 + 1)) j2)) rfl (db 0 _ rfl)) (Q_mv (.slice al am an) rfl (Q_mv (vi i2) rfl ?_)))
   obtain ⟨bw, H⟩ := H
   obtain ⟨bx, eh, dc, ei, dd, de⟩ := (ar.st aj).get default (by decide) i2 bw
   obtain ⟨bz, b0, b1, rfl, b2⟩ := Kd.sl.op dd
   refine Q_pu (P_ia Try.underlying140 se140 al bx am an (ar.st aj).len i2 rfl dc rfl bw) (Q_pu (P_ld ag86 cQ (bx.add (i2.toNat * 1)) (.slice bz b0 b1) rfl (de 0 _ rfl)) (Q_mv (vi j2) rfl ?_))
   obtain ⟨df, H⟩ := H
   have dg : I64 (j2 + 1) := i64_succ (of_decide_eq_true au) a4 df
   refine Q_pu (P_add j2 1 rfl rfl dg) ?_
   obtain ⟨b3, H⟩ := H
   obtain ⟨b4, ej, dh, ek, di, dj⟩ := b2.get default (by decide) (j2 + 1) b3
   obtain rfl := Kd.int.op di
   refine Q_pu (P_ia Try.underlying86 se86 bz b4 b0 b1 b2.len (j2 + 1) rfl dh rfl b3) (Q_pu (P_ld ag3 cQ (b4.add ((j2 + 1).toNat * 1)) (vi (nth (nth r i2) (j2 + 1))) rfl (dj 0 _ rfl)) (Q_pu (P_cmp (nth (nth r (i2 + 1)) j2) (nth (nth r i2) (j2 + 1)) (decide ((nth (nth r (i2 + 1)) j2) ≥ (nth (nth r i2) (j2 + 1)))) rfl rfl rfl) (Q_as (vb (decide ((nth (nth r (i2 + 1)) j2) ≥ (nth (nth r i2) (j2 + 1))))) rfl (Q_nil fun el ay => ?_))))
   have b5 := ax.k0 ay
   refine W_cond (decide ((nth (nth r (i2 + 1)) j2) ≥ (nth (nth r i2) (j2 + 1)))) rfl (fun bb => ?_) (fun bb => ?_)
   ·have H := ite_t H bb
    refine W_reg (L_mv (vi i2) rfl ?_)
    obtain ⟨dk, H⟩ := H
    have dl : I64 (i2 + 1) := i64_succ (of_decide_eq_true ab) a3 dk
    refine L_pu (P_add i2 1 rfl rfl dl) (L_as (vi (i2 + 1)) rfl (L_nil ?_))
    obtain ⟨dm, dn⟩ := H
    have bc := ax.stn ay
    have dp := ((ap.st aj).st bc)
    have dq := ((aq.st aj).st bc)
    have dr := ((ar.st aj).st bc)
    have ds := ((aw.sn av).sn ay)
    exact ⟨(xs2, aa, ac, ad, i2 + 1, j2), dn, dm, (hasI rfl), b5, dp, dq, dr, ds⟩
   have H := ite_f H bb
   refine W_reg (L_mv (vi j2) rfl ?_)
   obtain ⟨dt, H⟩ := H
   have du : I64 (j2 + 1) := i64_succ (of_decide_eq_true au) a4 dt
   refine L_pu (P_add j2 1 rfl rfl du) (L_as (vi (j2 + 1)) rfl (L_nil ?_))
   obtain ⟨dv, dw⟩ := H
   have bd := ax.stn ay
   have dx := ((ap.st aj).st bd)
   have dy := ((aq.st aj).st bd)
   have dz := ((ar.st aj).st bd)
   have d0 := ((aw.sn av).sn ay)
   exact ⟨(xs2, aa, ac, ad, i2, j2 + 1), dw, dv, (hasI rfl), b5, dx, dy, dz, d0⟩
  have H := ite_f H au
  refine W_exit (xin_hit ?_)
  exact W_seq (W_reg (L_mv (.slice aa ac ad) rfl (L_as (.slice aa ac ad) rfl (L_nil (W_ret ⟨[.slice aa ac ad], ⟨_, rfl, rfl⟩, xs2, aa, ac, ad, rfl, H, ak.gr.g0, ak.ok, ak.ge, aw⟩)))))
 have H := ite_f H ab
 refine L_pb ab rfl (L_pb ab rfl (L_pb ab rfl (L_pb ab rfl (L_pu (P_pick false (vb false) (by exact congrArg Value.bool ab) rfl) (L_nil (W_cf (b := false) rfl rfl ?_))))))
 refine W_exit (xin_hit ?_)
 exact W_seq (W_reg (L_mv (.slice aa ac ad) rfl (L_as (.slice aa ac ad) rfl (L_nil (W_ret ⟨[.slice aa ac ad], ⟨_, rfl, rfl⟩, xs2, aa, ac, ad, rfl, H, ak.gr.g0, ak.ok, ak.ge, aw⟩)))))
end
section
open Go.RowKit
def F49.E (list : List Pair) (at_ : Int) (Q : Int → Prop) : Prop :=
 (∃ (I19 : Int → Prop) (mu20 : Int → Nat), I19 0 ∧ ∀ (v2 : Int), I19 v2 → (if decide (v2 < (list.length : Int)) then ((0 : Int) ≤ v2 ∧ v2 < (list.length : Int)) ∧ (if ((nth list v2).A) == at_ then Q ((nth list v2).B) else (I64 (v2 + 1)) ∧ I19 (v2 + 1) ∧ mu20 (v2 + 1) < mu20 v2) else Q (-1)))
theorem F49.calls {O : Ob} (w0 : World) (hO : Ok w0 O) (list : List Pair) (A1 : Option Addr) (n2 c3 : Nat) (hp4 : Sl kPair w0 (Fr O) (.slice A1 n2 c3) list) (at_ : Int) (Q : Int → Prop) (h : F49.E list at_ Q) :
  Ret Try.prog 81 [.slice A1 n2 c3, vi at_] w0 (fun v w' => ∃ (r0 : Int), v = vi r0 ∧ Q r0 ∧ Gr w0 w' none) := by
 unfold F49.E at h
 have H := h
 clear h
 have hc0 := Ct.init hO
 refine Ret_enter Try.func81 rfl 20 rfl [.tmp 4] rfl rfl ?_
 refine W_seq (W_reg (L_as (vi 0) rfl (L_nil (W_seq (W_seq (W_reg (L_mv (.slice A1 n2 c3) rfl ?_)))))))
 have hl6 := hp4.le
 refine L_pu (P_len Try.underlying115 A1 n2 c3 hp4.len rfl) (L_mv (vi 0) rfl (L_nil (W_block ?_)))
 obtain ⟨ap, aq, ab, H⟩ := H
 refine W_loop (α := Int) (fun (sv__ : Int) t ac => match sv__ with | v2 => ap v2 ∧ Has t [(1, vi at_), (7, .slice A1 n2 c3), (8, vi (list.length : Int)), (9, vi v2)] ∧ Ct [] w0 ac [] O ∧ Sl kPair ac (Fr ([] ++ O)) (.slice A1 n2 c3) list) (fun (sv__ : Int) => match sv__ with | v2 => aq v2) 0 ⟨ab, (hasI rfl), hc0, hp4⟩ ?_
 rintro v2 _ ac ⟨ab, ar, ad, ae⟩
 obtain ⟨a7, rfl⟩ := Has.ins ar
 have H := H v2 ab
 refine W_seq (W_reg (L_pu (P_cmp v2 (list.length : Int) (decide (v2 < (list.length : Int))) rfl rfl rfl) (L_nil (W_seq ?_))))
 refine W_cond (decide (v2 < (list.length : Int))) rfl (fun af => ?_) (fun af => ?_)
 ·have H := ite_t H af
  refine W_skip (W_seq (W_block (W_seq (W_reg ?_))))
  obtain ⟨ai, H⟩ := H
  obtain ⟨aj, a8, au, a9, av, aw⟩ := ae.get default (by decide) v2 ai
  obtain rfl := kPair.op av
  refine L_pu (P_ia Try.underlying115 se115 A1 aj n2 c3 ae.len v2 rfl au rfl ai) (L_pu (P_lda ag143 sz143 cL (aj.add (v2.toNat * 2)) [vi ((nth list v2).A), vi ((nth list v2).B)] rfl rfl aw) (L_alloc [.int .i64 0, .int .i64 0] ze143 fun ba aa ak hu37 al ax => ?_))
  have am := ad.own al (some aa) (oglt ak hu37)
  refine L_stb aa 0 [vi 0, vi 0] [vi ((nth list v2).A), vi ((nth list v2).B)] [vi ((nth list v2).A), vi ((nth list v2).B)] rfl ax rfl sz143 rfl rfl rfl fun bb an ao => ?_
  have ag := am.wr 0 rfl an
  refine L_nil (W_seq (W_reg (L_pu (P_fa fa143_0 ⟨aa, 0, none⟩ ⟨aa, 0, none⟩ rfl rfl) (L_pu (P_ld ag3 cL ⟨aa, 0, none⟩ (vi ((nth list v2).A)) rfl (ao.cell rfl)) (L_mv (vi at_) rfl (L_pu (P_cmp ((nth list v2).A) at_ (((nth list v2).A) == at_) rfl rfl rfl) (L_nil ?_)))))))
  refine W_cond (((nth list v2).A) == at_) rfl (fun ah => ?_) (fun ah => ?_)
  ·have H := ite_t H ah
   refine W_seq (W_reg (L_pu (P_fa fa143_1 ⟨aa, 0, none⟩ ⟨aa, 1, none⟩ rfl rfl) (L_pu (P_ld ag3 cL ⟨aa, 1, none⟩ (vi ((nth list v2).B)) rfl (ao.cell rfl)) (L_as (vi ((nth list v2).B)) rfl (L_nil (W_ret ?_))))))
   have ay := ag.drop 0 rfl
   exact ⟨[vi ((nth list v2).B)], ⟨_, rfl, rfl⟩, (nth list v2).B, rfl, H, ay.gr.g0⟩
  have H := ite_f H ah
  refine W_skip (W_reg ?_)
  obtain ⟨az, H⟩ := H
  refine L_pu (P_add v2 1 rfl rfl az) (L_mv (vi (v2 + 1)) rfl (L_nil ?_))
  have a0 := ag.drop 0 rfl
  obtain ⟨a1, a2⟩ := H
  have a3 := ad.stown _ al (oge ak)
  have a4 := am.stw 0 rfl an
  have a5 := ag.std 0 rfl
  have a6 := (((ae.st a3).st a4).st a5)
  exact ⟨v2 + 1, a2, a1, (hasI rfl), a0, a6⟩
 have H := ite_f H af
 refine W_exit (xin_hit ?_)
 exact W_seq (W_reg (L_as (vi (-1)) rfl (L_nil (W_ret ⟨[vi (-1)], ⟨_, rfl, rfl⟩, (-1), rfl, H, ad.gr.g0⟩))))
end
section
open Go.RowKit
def F35.E (base_ : List Pt) (a : List Pt) (b : List Pt) (Q : List Pt → Bool → Prop) : Prop :=
 (if decide ((base_.length : Int) > 12) then Q ([] : List Pt) false else (if decide ((a.length : Int) > 12) then Q ([] : List Pt) false else (if decide ((b.length : Int) > 12) then Q ([] : List Pt) false else F34.E base_ a (fun r => F34.E base_ b (fun r2 => (∃ (I128 : (List Pt) → Int → Int → Int → Int → Prop) (mu129 : (List Pt) → Int → Int → Int → Int → Nat), I128 ([] : List Pt) 0 0 0 0 ∧ ∀ (xs2 : List Pt) (i2 : Int) (j2 : Int) (k2 : Int) (at_2 : Int), I128 xs2 i2 j2 k2 at_2 → (if decide (at_2 ≤ (base_.length : Int)) then (if decide (at_2 < (base_.length : Int)) then F49.E r at_2 (fun r3 => F49.E r2 at_2 (fun r4 => (if decide (r3 < 0) then (-9223372036854775808 ≤ at_2) ∧ I128 xs2 i2 j2 k2 (at_2 + 1) ∧ mu129 xs2 i2 j2 k2 (at_2 + 1) < mu129 xs2 i2 j2 k2 at_2 else (if decide (r4 < 0) then (-9223372036854775808 ≤ at_2) ∧ I128 xs2 i2 j2 k2 (at_2 + 1) ∧ mu129 xs2 i2 j2 k2 (at_2 + 1) < mu129 xs2 i2 j2 k2 at_2 else ((0 : Int) ≤ i2 ∧ (i2 : Int) ≤ at_2 ∧ at_2 ≤ (base_.length : Int)) ∧ ((0 : Int) ≤ j2 ∧ (j2 : Int) ≤ r3 ∧ r3 ≤ (a.length : Int)) ∧ ((0 : Int) ≤ k2 ∧ (k2 : Int) ≤ r4 ∧ r4 ≤ (b.length : Int)) ∧ F16.E ((a.drop j2.toNat).take (r3.toNat - j2.toNat)) ((base_.drop i2.toNat).take (at_2.toNat - i2.toNat)) (fun r5 => (if r5 then (xs2.length + ((b.drop k2.toNat).take (r4.toNat - k2.toNat)).length ≤ 268435456) ∧ ((0 : Int) ≤ at_2 ∧ at_2 < (base_.length : Int)) ∧ ((xs2 ++ ((b.drop k2.toNat).take (r4.toNat - k2.toNat))).length + ([(nth base_ at_2)] : List Pt).length ≤ 268435456) ∧ (-9223372036854775808 ≤ at_2) ∧ ((base_.length : Int) ≤ 9223372036854775807 → (a.length : Int) ≤ 9223372036854775807 → (b.length : Int) ≤ 9223372036854775807 → I64 (r3 + 1)) ∧ ((base_.length : Int) ≤ 9223372036854775807 → (a.length : Int) ≤ 9223372036854775807 → (b.length : Int) ≤ 9223372036854775807 → I64 (r4 + 1)) ∧ (-9223372036854775808 ≤ at_2) ∧ I128 ((xs2 ++ ((b.drop k2.toNat).take (r4.toNat - k2.toNat))) ++ ([(nth base_ at_2)] : List Pt)) (at_2 + 1) (r3 + 1) (r4 + 1) (at_2 + 1) ∧ mu129 ((xs2 ++ ((b.drop k2.toNat).take (r4.toNat - k2.toNat))) ++ ([(nth base_ at_2)] : List Pt)) (at_2 + 1) (r3 + 1) (r4 + 1) (at_2 + 1) < mu129 xs2 i2 j2 k2 at_2 else F16.E ((b.drop k2.toNat).take (r4.toNat - k2.toNat)) ((base_.drop i2.toNat).take (at_2.toNat - i2.toNat)) (fun r6 => (if r6 then (xs2.length + ((a.drop j2.toNat).take (r3.toNat - j2.toNat)).length ≤ 268435456) ∧ ((0 : Int) ≤ at_2 ∧ at_2 < (base_.length : Int)) ∧ ((xs2 ++ ((a.drop j2.toNat).take (r3.toNat - j2.toNat))).length + ([(nth base_ at_2)] : List Pt).length ≤ 268435456) ∧ (-9223372036854775808 ≤ at_2) ∧ ((base_.length : Int) ≤ 9223372036854775807 → (a.length : Int) ≤ 9223372036854775807 → (b.length : Int) ≤ 9223372036854775807 → I64 (r3 + 1)) ∧ ((base_.length : Int) ≤ 9223372036854775807 → (a.length : Int) ≤ 9223372036854775807 → (b.length : Int) ≤ 9223372036854775807 → I64 (r4 + 1)) ∧ (-9223372036854775808 ≤ at_2) ∧ I128 ((xs2 ++ ((a.drop j2.toNat).take (r3.toNat - j2.toNat))) ++ ([(nth base_ at_2)] : List Pt)) (at_2 + 1) (r3 + 1) (r4 + 1) (at_2 + 1) ∧ mu129 ((xs2 ++ ((a.drop j2.toNat).take (r3.toNat - j2.toNat))) ++ ([(nth base_ at_2)] : List Pt)) (at_2 + 1) (r3 + 1) (r4 + 1) (at_2 + 1) < mu129 xs2 i2 j2 k2 at_2 else F16.E ((a.drop j2.toNat).take (r3.toNat - j2.toNat)) ((b.drop k2.toNat).take (r4.toNat - k2.toNat)) (fun r7 => (if r7 then (xs2.length + ((a.drop j2.toNat).take (r3.toNat - j2.toNat)).length ≤ 268435456) ∧ ((0 : Int) ≤ at_2 ∧ at_2 < (base_.length : Int)) ∧ ((xs2 ++ ((a.drop j2.toNat).take (r3.toNat - j2.toNat))).length + ([(nth base_ at_2)] : List Pt).length ≤ 268435456) ∧ (-9223372036854775808 ≤ at_2) ∧ ((base_.length : Int) ≤ 9223372036854775807 → (a.length : Int) ≤ 9223372036854775807 → (b.length : Int) ≤ 9223372036854775807 → I64 (r3 + 1)) ∧ ((base_.length : Int) ≤ 9223372036854775807 → (a.length : Int) ≤ 9223372036854775807 → (b.length : Int) ≤ 9223372036854775807 → I64 (r4 + 1)) ∧ (-9223372036854775808 ≤ at_2) ∧ I128 ((xs2 ++ ((a.drop j2.toNat).take (r3.toNat - j2.toNat))) ++ ([(nth base_ at_2)] : List Pt)) (at_2 + 1) (r3 + 1) (r4 + 1) (at_2 + 1) ∧ mu129 ((xs2 ++ ((a.drop j2.toNat).take (r3.toNat - j2.toNat))) ++ ([(nth base_ at_2)] : List Pt)) (at_2 + 1) (r3 + 1) (r4 + 1) (at_2 + 1) < mu129 xs2 i2 j2 k2 at_2 else Q ([] : List Pt) false)))))))))) else ((0 : Int) ≤ i2 ∧ (i2 : Int) ≤ at_2 ∧ at_2 ≤ (base_.length : Int)) ∧ ((0 : Int) ≤ j2 ∧ (j2 : Int) ≤ (a.length : Int) ∧ (a.length : Int) ≤ (a.length : Int)) ∧ ((0 : Int) ≤ k2 ∧ (k2 : Int) ≤ (b.length : Int) ∧ (b.length : Int) ≤ (b.length : Int)) ∧ F16.E ((a.drop j2.toNat).take ((a.length : Int).toNat - j2.toNat)) ((base_.drop i2.toNat).take (at_2.toNat - i2.toNat)) (fun r8 => (if r8 then (xs2.length + ((b.drop k2.toNat).take ((b.length : Int).toNat - k2.toNat)).length ≤ 268435456) ∧ ((base_.length : Int) ≤ 9223372036854775807 → (a.length : Int) ≤ 9223372036854775807 → (b.length : Int) ≤ 9223372036854775807 → I64 (at_2 + 1)) ∧ ((base_.length : Int) ≤ 9223372036854775807 → (a.length : Int) ≤ 9223372036854775807 → (b.length : Int) ≤ 9223372036854775807 → I64 ((a.length : Int) + 1)) ∧ ((base_.length : Int) ≤ 9223372036854775807 → (a.length : Int) ≤ 9223372036854775807 → (b.length : Int) ≤ 9223372036854775807 → I64 ((b.length : Int) + 1)) ∧ ((base_.length : Int) ≤ 9223372036854775807 → (a.length : Int) ≤ 9223372036854775807 → (b.length : Int) ≤ 9223372036854775807 → I64 (at_2 + 1)) ∧ I128 (xs2 ++ ((b.drop k2.toNat).take ((b.length : Int).toNat - k2.toNat))) (at_2 + 1) ((a.length : Int) + 1) ((b.length : Int) + 1) (at_2 + 1) ∧ mu129 (xs2 ++ ((b.drop k2.toNat).take ((b.length : Int).toNat - k2.toNat))) (at_2 + 1) ((a.length : Int) + 1) ((b.length : Int) + 1) (at_2 + 1) < mu129 xs2 i2 j2 k2 at_2 else F16.E ((b.drop k2.toNat).take ((b.length : Int).toNat - k2.toNat)) ((base_.drop i2.toNat).take (at_2.toNat - i2.toNat)) (fun r9 => (if r9 then (xs2.length + ((a.drop j2.toNat).take ((a.length : Int).toNat - j2.toNat)).length ≤ 268435456) ∧ ((base_.length : Int) ≤ 9223372036854775807 → (a.length : Int) ≤ 9223372036854775807 → (b.length : Int) ≤ 9223372036854775807 → I64 (at_2 + 1)) ∧ ((base_.length : Int) ≤ 9223372036854775807 → (a.length : Int) ≤ 9223372036854775807 → (b.length : Int) ≤ 9223372036854775807 → I64 ((a.length : Int) + 1)) ∧ ((base_.length : Int) ≤ 9223372036854775807 → (a.length : Int) ≤ 9223372036854775807 → (b.length : Int) ≤ 9223372036854775807 → I64 ((b.length : Int) + 1)) ∧ ((base_.length : Int) ≤ 9223372036854775807 → (a.length : Int) ≤ 9223372036854775807 → (b.length : Int) ≤ 9223372036854775807 → I64 (at_2 + 1)) ∧ I128 (xs2 ++ ((a.drop j2.toNat).take ((a.length : Int).toNat - j2.toNat))) (at_2 + 1) ((a.length : Int) + 1) ((b.length : Int) + 1) (at_2 + 1) ∧ mu129 (xs2 ++ ((a.drop j2.toNat).take ((a.length : Int).toNat - j2.toNat))) (at_2 + 1) ((a.length : Int) + 1) ((b.length : Int) + 1) (at_2 + 1) < mu129 xs2 i2 j2 k2 at_2 else F16.E ((a.drop j2.toNat).take ((a.length : Int).toNat - j2.toNat)) ((b.drop k2.toNat).take ((b.length : Int).toNat - k2.toNat)) (fun r10 => (if r10 then (xs2.length + ((a.drop j2.toNat).take ((a.length : Int).toNat - j2.toNat)).length ≤ 268435456) ∧ ((base_.length : Int) ≤ 9223372036854775807 → (a.length : Int) ≤ 9223372036854775807 → (b.length : Int) ≤ 9223372036854775807 → I64 (at_2 + 1)) ∧ ((base_.length : Int) ≤ 9223372036854775807 → (a.length : Int) ≤ 9223372036854775807 → (b.length : Int) ≤ 9223372036854775807 → I64 ((a.length : Int) + 1)) ∧ ((base_.length : Int) ≤ 9223372036854775807 → (a.length : Int) ≤ 9223372036854775807 → (b.length : Int) ≤ 9223372036854775807 → I64 ((b.length : Int) + 1)) ∧ ((base_.length : Int) ≤ 9223372036854775807 → (a.length : Int) ≤ 9223372036854775807 → (b.length : Int) ≤ 9223372036854775807 → I64 (at_2 + 1)) ∧ I128 (xs2 ++ ((a.drop j2.toNat).take ((a.length : Int).toNat - j2.toNat))) (at_2 + 1) ((a.length : Int) + 1) ((b.length : Int) + 1) (at_2 + 1) ∧ mu129 (xs2 ++ ((a.drop j2.toNat).take ((a.length : Int).toNat - j2.toNat))) (at_2 + 1) ((a.length : Int) + 1) ((b.length : Int) + 1) (at_2 + 1) < mu129 xs2 i2 j2 k2 at_2 else Q ([] : List Pt) false))))))) else Q xs2 true)))))))
theorem F35.calls {O : Ob} (w0 : World) (hO : Ok w0 O) (base_ : List Pt) (A1 : Option Addr) (n2 c3 : Nat) (hp4 : Sl kPt w0 (Fr O) (.slice A1 n2 c3) base_) (a : List Pt) (A6 : Option Addr) (n7 c8 : Nat) (hp9 : Sl kPt w0 (Fr O) (.slice A6 n7 c8) a) (b : List Pt) (an : Option Addr) (ao ap : Nat) (cm : Sl kPt w0 (Fr O) (.slice an ao ap) b) (Q : List Pt → Bool → Prop) (h : F35.E base_ a b Q) :
  Ret Try.prog 29 [.slice A1 n2 c3, .slice A6 n7 c8, .slice an ao ap] w0 (fun v w' => ∃ (r0 : List Pt) (r1 : Bool) (Aw0 : Option Addr) (nw0 cw0 : Nat), v = .tuple #[.slice Aw0 nw0 cw0, vb r1] ∧ Q r0 r1 ∧ Gr w0 w' none ∧ Ok w' ([bk Aw0] ++ O) ∧ (∀ b, some b ∈ [bk Aw0] → w0.heap.size ≤ b) ∧ Ow kPt 83 w' ([bk Aw0] ++ O) (.slice Aw0 nw0 cw0) r0) := by
 unfold F35.E at h
 have H := h
 clear h
 have hc0 := Ct.init hO
 refine Ret_enter Try.func29 rfl 117 rfl [.tmp 6, .tmp 7] rfl rfl ?_
 refine W_seq (W_reg (L_as (.slice none 0 0) rfl (L_as (vb false) rfl (L_nil (W_seq (W_seq (W_reg (L_mv (.slice A1 n2 c3) rfl ?_))))))))
 have mr := hp4.le
 refine L_pu (P_len Try.underlying23 A1 n2 c3 hp4.len rfl) (L_pu (P_cmp (base_.length : Int) 12 (decide ((base_.length : Int) > 12)) rfl rfl rfl) (L_mv (vb (decide ((base_.length : Int) > 12))) rfl ?_))
 rcases bool_or (decide ((base_.length : Int) > 12)) with au | au
 ·have H := ite_t H au
  refine L_pb au rfl (L_pb au rfl (L_pb au rfl (L_pu (P_pick true (vb true) (by exact congrArg Value.bool au) rfl) (L_mv (vb true) rfl (L_pass (dj := 28) rfl rfl (.inl rfl) (L_pass (dj := 28) rfl rfl (.inl rfl) (L_pass (dj := 28) rfl rfl (.inl rfl) (L_pu (P_pick true (vb true) (by exact congrArg Value.bool rfl) rfl) ?_))))))))
  refine L_nil (W_ct (b := true) rfl rfl ?_)
  refine W_seq (W_reg (L_lit (kd := kPt) ei23 hc0 ([] : List Pt) (cells := []) rfl (fun _ => by kernel_rfl) fun ms db dc dd mt hr23 de gf => ?_))
  exact L_as (.slice db dc dd) rfl (L_as (vb false) rfl (L_nil (W_ret ⟨[.slice db dc dd, vb false], ⟨_, rfl, ⟨_, rfl, rfl⟩⟩, ([] : List Pt), false, db, dc, dd, rfl, H, de.gr.g0, de.ok, de.ge, gf⟩)))
 have H := ite_f H au
 refine L_rb au rfl (L_mv (.slice A6 n7 c8) rfl (L_rb au rfl ?_))
 have mu := hp9.le
 refine L_pu (P_len Try.underlying23 A6 n7 c8 hp9.len rfl) (L_rb au rfl (L_pu (P_cmp (a.length : Int) 12 (decide ((a.length : Int) > 12)) rfl rfl rfl) (L_pu (P_pick false (vb (decide ((a.length : Int) > 12))) (by exact congrArg Value.bool au) rfl) (L_mv (vb (decide ((a.length : Int) > 12))) rfl ?_))))
 rcases bool_or (decide ((a.length : Int) > 12)) with av | av
 ·have H := ite_t H av
  refine L_pb av rfl (L_pb av rfl (L_pb av rfl (L_pu (P_pick true (vb true) (by exact congrArg Value.bool av) rfl) (L_nil (W_ct (b := true) rfl rfl ?_)))))
  refine W_seq (W_reg (L_lit (kd := kPt) ei23 hc0 ([] : List Pt) (cells := []) rfl (fun _ => by kernel_rfl) fun mv df dg dh mw hr34 di gg => ?_))
  exact L_as (.slice df dg dh) rfl (L_as (vb false) rfl (L_nil (W_ret ⟨[.slice df dg dh, vb false], ⟨_, rfl, ⟨_, rfl, rfl⟩⟩, ([] : List Pt), false, df, dg, dh, rfl, H, di.gr.g0, di.ok, di.ge, gg⟩)))
 have H := ite_f H av
 refine L_rb av rfl (L_mv (.slice an ao ap) rfl (L_rb av rfl ?_))
 have mx := cm.le
 refine L_pu (P_len Try.underlying23 an ao ap cm.len rfl) (L_rb av rfl (L_pu (P_cmp (b.length : Int) 12 (decide ((b.length : Int) > 12)) rfl rfl rfl) (L_pu (P_pick false (vb (decide ((b.length : Int) > 12))) (by exact congrArg Value.bool av) rfl) (L_nil ?_))))
 refine W_cond (decide ((b.length : Int) > 12)) rfl (fun dk => ?_) (fun dk => ?_)
 ·have H := ite_t H dk
  refine W_seq (W_reg (L_lit (kd := kPt) ei23 hc0 ([] : List Pt) (cells := []) rfl (fun _ => by kernel_rfl) fun my dl dm dn mz hr45 dp gh => ?_))
  exact L_as (.slice dl dm dn) rfl (L_as (vb false) rfl (L_nil (W_ret ⟨[.slice dl dm dn, vb false], ⟨_, rfl, ⟨_, rfl, rfl⟩⟩, ([] : List Pt), false, dl, dm, dn, rfl, H, dp.gr.g0, dp.ok, dp.ge, gh⟩)))
 have H := ite_f H dk
 refine W_skip (W_seq (W_reg (L_mv (.slice A1 n2 c3) rfl (L_mv (.slice A6 n7 c8) rfl ?_))))
 refine L_call go80 [.slice A1 n2 c3, .slice A6 n7 c8] rfl ((F34.calls w0 hc0.ok base_ A1 n2 c3 hp4 a A6 n7 c8 hp9 _ H).mono ?_)
 rintro _ gi ⟨r, ai, bz, b0, rfl, H, gj, gk, gl, gm⟩
 have cn := hc0.owns gj gk gl
 refine L_mv (.slice A1 n2 c3) rfl (L_mv (.slice an ao ap) rfl ?_)
 refine L_call go80 [.slice A1 n2 c3, .slice an ao ap] rfl ((F34.calls gi cn.ok base_ A1 n2 c3 (hp4.st cn.st) b an ao ap (cm.st cn.st) _ H).mono ?_)
 rintro _ m0 ⟨r2, aj, b1, b2, rfl, H, ew, gn, ex, gp⟩
 have gq := cn.owns ew gn ex
 refine L_as (.slice ai bz b0) rfl (L_as (.slice aj b1 b2) rfl (L_nil (W_seq (W_reg (L_lit (kd := kPt) ei23 gq ([] : List Pt) (cells := []) rfl (fun _ => by kernel_rfl) fun m1 ey ez e0 e1 hr76 co gs => ?_)))))
 refine L_as (.slice ey ez e0) rfl (L_nil (W_seq (W_reg (L_as (vi 0) rfl (L_as (vi 0) rfl (L_as (vi 0) rfl (L_nil (W_seq ?_))))))))
 refine W_seq (W_reg (L_as (vi 0) rfl (L_nil (W_block ?_))))
 obtain ⟨gt, gu, dq, H⟩ := H
 have gw := ((gm.sos ew ex).so _ e1 hr76)
 have gx := (gp.so _ e1 hr76)
 refine W_loop (α := (List Pt) × (Option Addr) × Nat × Nat × Int × Int × Int × Int) (fun (sv__ : (List Pt) × (Option Addr) × Nat × Nat × Int × Int × Int × Int) t a6 => match sv__ with | (xs2, aa, ac, ad, i2, j2, k2, at_2) => gt xs2 i2 j2 k2 at_2 ∧ Has t [(0, .slice A1 n2 c3), (1, .slice A6 n7 c8), (2, .slice an ao ap), (8, .slice ai bz b0), (9, .slice aj b1 b2), (10, .slice aa ac ad), (11, vi i2), (12, vi j2), (13, vi k2), (14, vi at_2)] ∧ Ct [] w0 a6 [bk aa, bk aj, bk ai] O ∧ Sl kPt a6 (Fr ([bk aa, bk aj, bk ai] ++ O)) (.slice A1 n2 c3) base_ ∧ Sl kPt a6 (Fr ([bk aa, bk aj, bk ai] ++ O)) (.slice A6 n7 c8) a ∧ Sl kPt a6 (Fr ([bk aa, bk aj, bk ai] ++ O)) (.slice an ao ap) b ∧ Ow kPair 143 a6 ([bk aa, bk aj, bk ai] ++ O) (.slice ai bz b0) r ∧ Ow kPair 143 a6 ([bk aa, bk aj, bk ai] ++ O) (.slice aj b1 b2) r2 ∧ Ow kPt 83 a6 ([bk aa, bk aj, bk ai] ++ O) (.slice aa ac ad) xs2) (fun (sv__ : (List Pt) × (Option Addr) × Nat × Nat × Int × Int × Int × Int) => match sv__ with | (xs2, _, _, _, i2, j2, k2, at_2) => gu xs2 i2 j2 k2 at_2) (([] : List Pt), ey, ez, e0, 0, 0, 0, 0) ⟨dq, (hasI rfl), co, (hp4.st co.st), (hp9.st co.st), (cm.st co.st), gw, gx, gs⟩ ?_
 rintro ⟨xs2, aa, ac, ad, i2, j2, k2, at_2⟩ _ a6 ⟨dq, gy, a7, a8, bb, bc, bd, be, bf⟩
 obtain ⟨m2, rfl⟩ := Has.ins gy
 have H := H xs2 i2 j2 k2 at_2 dq
 refine W_seq (W_seq (W_reg (L_mv (vi at_2) rfl (L_mv (.slice A1 n2 c3) rfl ?_))))
 have ab := a8.le
 refine L_pu (P_len Try.underlying23 A1 n2 c3 a8.len rfl) (L_pu (P_cmp at_2 (base_.length : Int) (decide (at_2 ≤ (base_.length : Int))) rfl rfl rfl) (L_nil ?_))
 refine W_cond (decide (at_2 ≤ (base_.length : Int))) rfl (fun dr => ?_) (fun dr => ?_)
 ·have H := ite_t H dr
  refine W_skip (W_seq (W_block (W_seq (W_reg (L_mv (.slice A6 n7 c8) rfl ?_)))))
  have ag := bb.le
  refine L_pu (P_len Try.underlying23 A6 n7 c8 bb.len rfl) (L_mv (.slice an ao ap) rfl ?_)
  have ah := bc.le
  refine L_pu (P_len Try.underlying23 an ao ap bc.len rfl) (L_as (vi (a.length : Int)) rfl (L_as (vi (b.length : Int)) rfl (L_nil (W_seq (W_seq (W_reg (L_mv (vi at_2) rfl (L_mv (.slice A1 n2 c3) rfl ?_))))))))
  refine L_pu (P_len Try.underlying23 A1 n2 c3 a8.len rfl) (L_pu (P_cmp at_2 (base_.length : Int) (decide (at_2 < (base_.length : Int))) rfl rfl rfl) (L_nil ?_))
  refine W_cond (decide (at_2 < (base_.length : Int))) rfl (fun ak => ?_) (fun ak => ?_)
  ·have H := ite_t H ak
   refine W_seq (W_reg (L_mv (.slice ai bz b0) rfl (L_mv (vi at_2) rfl ?_)))
   have gz := a7.gv bd 2 rfl
   have g1 := a7.drop 2 rfl
   refine L_call go81 [.slice ai bz b0, vi at_2] rfl ((F49.calls a6 g1.ok r ai bz b0 gz at_2 _ H).mono ?_)
   rintro _ g2 ⟨r3, rfl, H, ae⟩
   have b3 := a7.k0 ae
   refine L_mv (.slice aj b1 b2) rfl (L_mv (vi at_2) rfl ?_)
   have g3 := (be.sn ae)
   have g4 := b3.gv g3 1 rfl
   have g5 := b3.drop 1 rfl
   refine L_call go81 [.slice aj b1 b2, vi at_2] rfl ((F49.calls g2 g5.ok r2 aj b1 b2 g4 at_2 _ H).mono ?_)
   rintro _ g6 ⟨r4, rfl, H, af⟩
   have cp := b3.k0 af
   refine L_as (vi r3) rfl (L_as (vi r4) rfl (L_nil (W_seq (W_reg (L_mv (vi r3) rfl (L_pu (P_cmp r3 0 (decide (r3 < 0)) rfl rfl rfl) (L_mv (vb (decide (r3 < 0))) rfl ?_)))))))
   rcases bool_or (decide (r3 < 0)) with bg | bg
   ·have H := ite_t H bg
    refine L_pb bg rfl (L_pb bg rfl (L_pu (P_pick true (vb true) (by exact congrArg Value.bool bg) rfl) (L_nil (W_ct (b := true) rfl rfl ?_))))
    refine W_exit (xin_hit ?_)
    refine W_reg (L_mv (vi at_2) rfl ?_)
    obtain ⟨g7, H⟩ := H
    have g8 : I64 (at_2 + 1) := i64_succ (of_decide_eq_true ak) ab g7
    refine L_pu (P_add at_2 1 rfl rfl g8) (L_as (vi (at_2 + 1)) rfl (L_nil ?_))
    obtain ⟨g9, ha⟩ := H
    have ds := a7.stn ae
    have dt := b3.stn af
    have hb := ((a8.st ds).st dt)
    have hc := ((bb.st ds).st dt)
    have hd := ((bc.st ds).st dt)
    have he := ((bd.sn ae).sn af)
    have hf := ((be.sn ae).sn af)
    have hg := ((bf.sn ae).sn af)
    exact ⟨(xs2, aa, ac, ad, i2, j2, k2, at_2 + 1), ha, g9, (hasI rfl), cp, hb, hc, hd, he, hf, hg⟩
   have H := ite_f H bg
   refine L_rb bg rfl (L_mv (vi r4) rfl (L_rb bg rfl (L_pu (P_cmp r4 0 (decide (r4 < 0)) rfl rfl rfl) (L_pu (P_pick false (vb (decide (r4 < 0))) (by exact congrArg Value.bool bg) rfl) (L_nil ?_)))))
   refine W_cond (decide (r4 < 0)) rfl (fun du => ?_) (fun du => ?_)
   ·have H := ite_t H du
    refine W_exit (xin_hit ?_)
    refine W_reg (L_mv (vi at_2) rfl ?_)
    obtain ⟨hh, H⟩ := H
    have hi : I64 (at_2 + 1) := i64_succ (of_decide_eq_true ak) ab hh
    refine L_pu (P_add at_2 1 rfl rfl hi) (L_as (vi (at_2 + 1)) rfl (L_nil ?_))
    obtain ⟨hj, hk⟩ := H
    have dv := a7.stn ae
    have dw := b3.stn af
    have hl := ((a8.st dv).st dw)
    have hm := ((bb.st dv).st dw)
    have hn := ((bc.st dv).st dw)
    have ho := ((bd.sn ae).sn af)
    have hp := ((be.sn ae).sn af)
    have hq := ((bf.sn ae).sn af)
    exact ⟨(xs2, aa, ac, ad, i2, j2, k2, at_2 + 1), hk, hj, (hasI rfl), cp, hl, hm, hn, ho, hp, hq⟩
   have H := ite_f H du
   refine W_skip (W_seq (W_draw (fun x => Gr g6 x none) (by kernel_rfl) (by kernel_rfl) (Gr.drew _) ?_))
   refine Q_mv (.slice A1 n2 c3) rfl (Q_mv (vi i2) rfl (Q_mv (vi at_2) rfl ?_))
   obtain ⟨hr, H⟩ := H
   have dx := a7.stn ae
   have dy := b3.stn af
   have cq := ((a8.st dx).st dy)
   refine Q_cuts Try.underlying23 se23 A1 n2 c3 base_ rfl cq i2 at_2 rfl rfl hr fun bq br bs e2 => ?_
   refine Q_mv (.slice A6 n7 c8) rfl (Q_mv (vi j2) rfl (Q_mv (vi r3) rfl ?_))
   obtain ⟨hs, H⟩ := H
   have cr := ((bb.st dx).st dy)
   refine Q_cuts Try.underlying23 se23 A6 n7 c8 a rfl cr j2 r3 rfl rfl hs fun aw ax ay dz => ?_
   refine Q_mv (.slice an ao ap) rfl (Q_mv (vi k2) rfl (Q_mv (vi r4) rfl ?_))
   obtain ⟨ht, H⟩ := H
   have cs := ((bc.st dx).st dy)
   refine Q_cuts Try.underlying23 se23 an ao ap b rfl cs k2 r4 rfl rfl ht fun bh bi bj e3 => ?_
   refine Q_as (.slice bq br bs) rfl (Q_as (.slice aw ax ay) rfl (Q_as (.slice bh bi bj) rfl (Q_nil fun hu az => ?_)))
   have ct := cp.k0 az
   refine W_seq (W_block (W_seq (W_reg (L_mv (.slice aw ax ay) rfl (L_mv (.slice bq br bs) rfl ?_)))))
   have al := cp.stn az
   refine L_call go46 [.slice aw ax ay, .slice bq br bs] rfl ((F16.calls hu ct.ok ((a.drop j2.toNat).take (r3.toNat - j2.toNat)) aw ax ay (dz.st al) ((base_.drop i2.toNat).take (at_2.toNat - i2.toNat)) bq br bs (e2.st al) _ H).mono ?_)
   rintro _ hv ⟨r5, rfl, H, aq⟩
   have bt := ct.k0 aq
   refine L_as (vb r5) rfl (L_nil ?_)
   refine W_cond r5 rfl (fun d0 => ?_) (fun d0 => ?_)
   ·have H := ite_t H d0
    refine W_reg (L_mv (.slice aa ac ad) rfl (L_mv (.slice bh bi bj) rfl ?_))
    have cu := ct.stn aq
    have hw := ((e3.st al).st cu)
    obtain ⟨hx, H⟩ := H
    have hy := ((((bf.sn ae).sn af).sn az).sn aq)
    refine L_app ei23 bt (.slice aa ac ad) xs2 ((b.drop k2.toNat).take (r4.toNat - k2.toNat)) rfl hy (.slice bh bi bj) rfl hw.sx 0 rfl hx fun m3 d1 d2 d3 e4 b6 e5 hz => ?_
    refine L_as (.slice d1 d2 d3) rfl (L_nil (W_seq (W_seq (W_reg (L_mv (vi at_2) rfl (L_mv (.slice A1 n2 c3) rfl ?_))))))
    have cv := (((cq.st al).st cu).st b6)
    refine L_pu (P_len Try.underlying23 A1 n2 c3 cv.len rfl) (L_pu (P_cmp at_2 (base_.length : Int) (decide (at_2 < (base_.length : Int))) rfl rfl rfl) (L_nil (W_ct (b := decide (at_2 < (base_.length : Int))) rfl ak ?_)))
    refine W_reg (L_mv (.slice d1 d2 d3) rfl (L_mv (.slice A1 n2 c3) rfl (L_mv (vi at_2) rfl ?_)))
    obtain ⟨e6, H⟩ := H
    obtain ⟨e7, m4, h0, m5, h1, h2⟩ := cv.get default (by decide) at_2 e6
    obtain rfl := kPt.op h1
    refine L_pu (P_ia Try.underlying23 se23 A1 e7 n2 c3 cv.len at_2 rfl h0 rfl e6) (L_pu (P_lda ag83 sz83 cL (e7.add (at_2.toNat * 2)) [vi ((nth base_ at_2).X), vi ((nth base_ at_2).Y)] rfl rfl h2) (L_lit (kd := kPt) ei23 e5 ([(nth base_ at_2)] : List Pt) (cells := [vi ((nth base_ at_2).X), vi ((nth base_ at_2).Y)]) ⟨[vi ((nth base_ at_2).X), vi ((nth base_ at_2).Y)], _, rfl, (kPt.mk _ _ (nth base_ at_2)), rfl⟩ (fun _ => by kernel_rfl) fun m6 h3 h4 h5 cw hr247 d4 h6 => ?_))
    obtain ⟨h7, H⟩ := H
    have h8 := (hz.so _ cw hr247)
    refine L_app ei23 d4 (.slice d1 d2 d3) (xs2 ++ ((b.drop k2.toNat).take (r4.toNat - k2.toNat))) ([(nth base_ at_2)] : List Pt) rfl h8 (.slice h3 h4 h5) rfl h6.sx 1 rfl h7 fun m7 e8 e9 fa fb b7 b8 h9 => ?_
    refine L_as (.slice e8 e9 fa) rfl (L_nil (W_reg (L_mv (vi at_2) rfl ?_)))
    obtain ⟨ia, H⟩ := H
    have ib : I64 (at_2 + 1) := i64_succ (of_decide_eq_true ak) ab ia
    refine L_pu (P_add at_2 1 rfl rfl ib) (L_mv (vi r3) rfl ?_)
    obtain ⟨ic, H⟩ := H
    have id := ic (len_le ab) (len_le ag) (len_le ah)
    refine L_pu (P_add r3 1 rfl rfl id) (L_mv (vi r4) rfl ?_)
    obtain ⟨ie, H⟩ := H
    have ig := ie (len_le ab) (len_le ag) (len_le ah)
    refine L_pu (P_add r4 1 rfl rfl ig) (L_as (vi (at_2 + 1)) rfl (L_as (vi (r3 + 1)) rfl (L_as (vi (r4 + 1)) rfl (L_nil (W_reg (L_mv (vi at_2) rfl ?_))))))
    obtain ⟨ih, H⟩ := H
    have ii : I64 (at_2 + 1) := i64_succ (of_decide_eq_true ak) ab ih
    refine L_pu (P_add at_2 1 rfl rfl ii) (L_as (vi (at_2 + 1)) rfl (L_nil ?_))
    have ij := b8.drop 0 rfl
    obtain ⟨ik, il⟩ := H
    have d5 := e5.stown _ cw hr247
    have d6 := b8.std 0 rfl
    have im := (((cv.st d5).st b7).st d6)
    have io := ((((((cr.st al).st cu).st b6).st d5).st b7).st d6)
    have ip := ((((((cs.st al).st cu).st b6).st d5).st b7).st d6)
    have iq := (b8.sd (d4.sm ((bt.sm ((((bd.sn ae).sn af).sn az).sn aq) 2 0 rfl rfl rfl e4 b6).so _ cw hr247) 3 1 rfl rfl rfl fb b7) 3 0 rfl rfl rfl)
    have ir := (b8.sd (d4.sm ((bt.sm ((((be.sn ae).sn af).sn az).sn aq) 1 0 rfl rfl rfl e4 b6).so _ cw hr247) 2 1 rfl rfl rfl fb b7) 2 0 rfl rfl rfl)
    have it := (b8.sd h9 1 0 rfl rfl rfl)
    exact ⟨(((xs2 ++ ((b.drop k2.toNat).take (r4.toNat - k2.toNat))) ++ ([(nth base_ at_2)] : List Pt)), e8, e9, fa, at_2 + 1, r3 + 1, r4 + 1, at_2 + 1), il, ik, (hasI rfl), ij, im, io, ip, iq, ir, it⟩
   have H := ite_f H d0
   refine W_seq (W_reg (L_mv (.slice bh bi bj) rfl (L_mv (.slice bq br bs) rfl ?_)))
   have a9 := ct.stn aq
   have fc := ((e3.st al).st a9)
   have iu := ((e2.st al).st a9)
   refine L_call go46 [.slice bh bi bj, .slice bq br bs] rfl ((F16.calls hv bt.ok ((b.drop k2.toNat).take (r4.toNat - k2.toNat)) bh bi bj fc ((base_.drop i2.toNat).take (at_2.toNat - i2.toNat)) bq br bs iu _ H).mono ?_)
   rintro _ iv ⟨r6, rfl, H, bl⟩
   have b4 := bt.k0 bl
   refine L_mv (vb r6) rfl ?_
   rcases bool_or r6 with a0 | a0
   ·have H := ite_t H a0
    refine L_pb a0 rfl (L_pb a0 rfl (L_pb a0 rfl (L_pu (P_pick true (vb true) (by exact congrArg Value.bool a0) rfl) (L_as (vb true) rfl (L_nil (W_ct (b := true) rfl rfl ?_))))))
    refine W_reg (L_mv (.slice aa ac ad) rfl (L_mv (.slice aw ax ay) rfl ?_))
    have cx := bt.stn bl
    have iw := (((dz.st al).st a9).st cx)
    obtain ⟨ix, H⟩ := H
    have iy := (((((bf.sn ae).sn af).sn az).sn aq).sn bl)
    refine L_app ei23 b4 (.slice aa ac ad) xs2 ((a.drop j2.toNat).take (r3.toNat - j2.toNat)) rfl iy (.slice aw ax ay) rfl iw.sx 0 rfl ix fun m8 d7 d8 d9 fd b9 fe iz => ?_
    refine L_as (.slice d7 d8 d9) rfl (L_nil (W_seq (W_seq (W_reg (L_mv (vi at_2) rfl (L_mv (.slice A1 n2 c3) rfl ?_))))))
    have cy := ((((cq.st al).st a9).st cx).st b9)
    refine L_pu (P_len Try.underlying23 A1 n2 c3 cy.len rfl) (L_pu (P_cmp at_2 (base_.length : Int) (decide (at_2 < (base_.length : Int))) rfl rfl rfl) (L_nil (W_ct (b := decide (at_2 < (base_.length : Int))) rfl ak ?_)))
    refine W_reg (L_mv (.slice d7 d8 d9) rfl (L_mv (.slice A1 n2 c3) rfl (L_mv (vi at_2) rfl ?_)))
    obtain ⟨ff, H⟩ := H
    obtain ⟨fg, m9, i0, na, i1, i3⟩ := cy.get default (by decide) at_2 ff
    obtain rfl := kPt.op i1
    refine L_pu (P_ia Try.underlying23 se23 A1 fg n2 c3 cy.len at_2 rfl i0 rfl ff) (L_pu (P_lda ag83 sz83 cL (fg.add (at_2.toNat * 2)) [vi ((nth base_ at_2).X), vi ((nth base_ at_2).Y)] rfl rfl i3) (L_lit (kd := kPt) ei23 fe ([(nth base_ at_2)] : List Pt) (cells := [vi ((nth base_ at_2).X), vi ((nth base_ at_2).Y)]) ⟨[vi ((nth base_ at_2).X), vi ((nth base_ at_2).Y)], _, rfl, (kPt.mk _ _ (nth base_ at_2)), rfl⟩ (fun _ => by kernel_rfl) fun nb i4 i5 i6 cz hr317 ea i7 => ?_))
    obtain ⟨i8, H⟩ := H
    have i9 := (iz.so _ cz hr317)
    refine L_app ei23 ea (.slice d7 d8 d9) (xs2 ++ ((a.drop j2.toNat).take (r3.toNat - j2.toNat))) ([(nth base_ at_2)] : List Pt) rfl i9 (.slice i4 i5 i6) rfl i7.sx 1 rfl i8 fun nc fh fi fj fk ca cb ja => ?_
    refine L_as (.slice fh fi fj) rfl (L_nil (W_reg (L_mv (vi at_2) rfl ?_)))
    obtain ⟨jb, H⟩ := H
    have jc : I64 (at_2 + 1) := i64_succ (of_decide_eq_true ak) ab jb
    refine L_pu (P_add at_2 1 rfl rfl jc) (L_mv (vi r3) rfl ?_)
    obtain ⟨jd, H⟩ := H
    have je := jd (len_le ab) (len_le ag) (len_le ah)
    refine L_pu (P_add r3 1 rfl rfl je) (L_mv (vi r4) rfl ?_)
    obtain ⟨jf, H⟩ := H
    have jg := jf (len_le ab) (len_le ag) (len_le ah)
    refine L_pu (P_add r4 1 rfl rfl jg) (L_as (vi (at_2 + 1)) rfl (L_as (vi (r3 + 1)) rfl (L_as (vi (r4 + 1)) rfl (L_nil (W_reg (L_mv (vi at_2) rfl ?_))))))
    obtain ⟨jh, H⟩ := H
    have ji : I64 (at_2 + 1) := i64_succ (of_decide_eq_true ak) ab jh
    refine L_pu (P_add at_2 1 rfl rfl ji) (L_as (vi (at_2 + 1)) rfl (L_nil ?_))
    have jj := cb.drop 0 rfl
    obtain ⟨jk, jl⟩ := H
    have eb := fe.stown _ cz hr317
    have ec := cb.std 0 rfl
    have jm := (((cy.st eb).st ca).st ec)
    have jn := (((((((cr.st al).st a9).st cx).st b9).st eb).st ca).st ec)
    have jo := (((((((cs.st al).st a9).st cx).st b9).st eb).st ca).st ec)
    have jp := (cb.sd (ea.sm ((b4.sm (((((bd.sn ae).sn af).sn az).sn aq).sn bl) 2 0 rfl rfl rfl fd b9).so _ cz hr317) 3 1 rfl rfl rfl fk ca) 3 0 rfl rfl rfl)
    have jq := (cb.sd (ea.sm ((b4.sm (((((be.sn ae).sn af).sn az).sn aq).sn bl) 1 0 rfl rfl rfl fd b9).so _ cz hr317) 2 1 rfl rfl rfl fk ca) 2 0 rfl rfl rfl)
    have jr := (cb.sd ja 1 0 rfl rfl rfl)
    exact ⟨(((xs2 ++ ((a.drop j2.toNat).take (r3.toNat - j2.toNat))) ++ ([(nth base_ at_2)] : List Pt)), fh, fi, fj, at_2 + 1, r3 + 1, r4 + 1, at_2 + 1), jl, jk, (hasI rfl), jj, jm, jn, jo, jp, jq, jr⟩
   have H := ite_f H a0
   refine L_rb a0 rfl (L_mv (.slice aw ax ay) rfl (L_rb a0 rfl (L_mv (.slice bh bi bj) rfl (L_rb a0 rfl ?_))))
   have cc := bt.stn bl
   have fl := (((dz.st al).st a9).st cc)
   refine L_call go46 [.slice aw ax ay, .slice bh bi bj] rfl ((F16.calls iv b4.ok ((a.drop j2.toNat).take (r3.toNat - j2.toNat)) aw ax ay fl ((b.drop k2.toNat).take (r4.toNat - k2.toNat)) bh bi bj (fc.st cc) _ H).mono ?_)
   rintro _ nd ⟨r7, rfl, H, cd⟩
   have c0 := b4.k0 cd
   refine L_pu (P_pick false (vb r7) (by exact congrArg Value.bool a0) rfl) (L_as (vb r7) rfl (L_nil ?_))
   refine W_cond r7 rfl (fun ed => ?_) (fun ed => ?_)
   ·have H := ite_t H ed
    refine W_reg (L_mv (.slice aa ac ad) rfl (L_mv (.slice aw ax ay) rfl ?_))
    have c1 := b4.stn cd
    obtain ⟨js, H⟩ := H
    have jt := ((((((bf.sn ae).sn af).sn az).sn aq).sn bl).sn cd)
    refine L_app ei23 c0 (.slice aa ac ad) xs2 ((a.drop j2.toNat).take (r3.toNat - j2.toNat)) rfl jt (.slice aw ax ay) rfl (fl.st c1).sx 0 rfl js fun ne ee ef eg fm ce fn ju => ?_
    refine L_as (.slice ee ef eg) rfl (L_nil (W_seq (W_seq (W_reg (L_mv (vi at_2) rfl (L_mv (.slice A1 n2 c3) rfl ?_))))))
    have c2 := (((((cq.st al).st a9).st cc).st c1).st ce)
    refine L_pu (P_len Try.underlying23 A1 n2 c3 c2.len rfl) (L_pu (P_cmp at_2 (base_.length : Int) (decide (at_2 < (base_.length : Int))) rfl rfl rfl) (L_nil (W_ct (b := decide (at_2 < (base_.length : Int))) rfl ak ?_)))
    refine W_reg (L_mv (.slice ee ef eg) rfl (L_mv (.slice A1 n2 c3) rfl (L_mv (vi at_2) rfl ?_)))
    obtain ⟨fo, H⟩ := H
    obtain ⟨fp, nf, jv, ng, jw, jx⟩ := c2.get default (by decide) at_2 fo
    obtain rfl := kPt.op jw
    refine L_pu (P_ia Try.underlying23 se23 A1 fp n2 c3 c2.len at_2 rfl jv rfl fo) (L_pu (P_lda ag83 sz83 cL (fp.add (at_2.toNat * 2)) [vi ((nth base_ at_2).X), vi ((nth base_ at_2).Y)] rfl rfl jx) (L_lit (kd := kPt) ei23 fn ([(nth base_ at_2)] : List Pt) (cells := [vi ((nth base_ at_2).X), vi ((nth base_ at_2).Y)]) ⟨[vi ((nth base_ at_2).X), vi ((nth base_ at_2).Y)], _, rfl, (kPt.mk _ _ (nth base_ at_2)), rfl⟩ (fun _ => by kernel_rfl) fun nh jy jz j0 c4 hr385 eh j1 => ?_))
    obtain ⟨j3, H⟩ := H
    have j4 := (ju.so _ c4 hr385)
    refine L_app ei23 eh (.slice ee ef eg) (xs2 ++ ((a.drop j2.toNat).take (r3.toNat - j2.toNat))) ([(nth base_ at_2)] : List Pt) rfl j4 (.slice jy jz j0) rfl j1.sx 1 rfl j3 fun ni fq fr fs ft cf cg j5 => ?_
    refine L_as (.slice fq fr fs) rfl (L_nil (W_reg (L_mv (vi at_2) rfl ?_)))
    obtain ⟨j6, H⟩ := H
    have j7 : I64 (at_2 + 1) := i64_succ (of_decide_eq_true ak) ab j6
    refine L_pu (P_add at_2 1 rfl rfl j7) (L_mv (vi r3) rfl ?_)
    obtain ⟨j8, H⟩ := H
    have j9 := j8 (len_le ab) (len_le ag) (len_le ah)
    refine L_pu (P_add r3 1 rfl rfl j9) (L_mv (vi r4) rfl ?_)
    obtain ⟨ka, H⟩ := H
    have kb := ka (len_le ab) (len_le ag) (len_le ah)
    refine L_pu (P_add r4 1 rfl rfl kb) (L_as (vi (at_2 + 1)) rfl (L_as (vi (r3 + 1)) rfl (L_as (vi (r4 + 1)) rfl (L_nil (W_reg (L_mv (vi at_2) rfl ?_))))))
    obtain ⟨kc, H⟩ := H
    have ke : I64 (at_2 + 1) := i64_succ (of_decide_eq_true ak) ab kc
    refine L_pu (P_add at_2 1 rfl rfl ke) (L_as (vi (at_2 + 1)) rfl (L_nil ?_))
    have kf := cg.drop 0 rfl
    obtain ⟨kg, kh⟩ := H
    have ei := fn.stown _ c4 hr385
    have ej := cg.std 0 rfl
    have ki := (((c2.st ei).st cf).st ej)
    have kj := ((((((((cr.st al).st a9).st cc).st c1).st ce).st ei).st cf).st ej)
    have kk := ((((((((cs.st al).st a9).st cc).st c1).st ce).st ei).st cf).st ej)
    have kl := (cg.sd (eh.sm ((c0.sm ((((((bd.sn ae).sn af).sn az).sn aq).sn bl).sn cd) 2 0 rfl rfl rfl fm ce).so _ c4 hr385) 3 1 rfl rfl rfl ft cf) 3 0 rfl rfl rfl)
    have km := (cg.sd (eh.sm ((c0.sm ((((((be.sn ae).sn af).sn az).sn aq).sn bl).sn cd) 1 0 rfl rfl rfl fm ce).so _ c4 hr385) 2 1 rfl rfl rfl ft cf) 2 0 rfl rfl rfl)
    have kn := (cg.sd j5 1 0 rfl rfl rfl)
    exact ⟨(((xs2 ++ ((a.drop j2.toNat).take (r3.toNat - j2.toNat))) ++ ([(nth base_ at_2)] : List Pt)), fq, fr, fs, at_2 + 1, r3 + 1, r4 + 1, at_2 + 1), kh, kg, (hasI rfl), kf, ki, kj, kk, kl, km, kn⟩
   have H := ite_f H ed
   refine W_seq ?_
   have ko : ([bk aa, bk aj, bk ai] : Ob).Perm ((bk aa :: bk aj :: bk ai :: []) ++ []) := (pc fun a => by (try simp only [pca, pcc, pcn, Nat.add_zero, Nat.zero_add]); first | done | ac_rfl)
   have kp := c0.drops ko
   refine W_reg (L_lit (kd := kPt) ei23 kp ([] : List Pt) (cells := []) rfl (fun _ => by kernel_rfl) fun nj ek el em nk hr426 en kq => ?_)
   exact L_as (.slice ek el em) rfl (L_as (vb false) rfl (L_nil (W_ret ⟨[.slice ek el em, vb false], ⟨_, rfl, ⟨_, rfl, rfl⟩⟩, ([] : List Pt), false, ek, el, em, rfl, H, en.gr.g0, en.ok, en.ge, kq⟩)))
  have H := ite_f H ak
  refine W_skip (W_seq (W_draw (fun x => Gr a6 x none) (by kernel_rfl) (by kernel_rfl) (Gr.drew _) ?_))
  refine Q_mv (.slice A1 n2 c3) rfl (Q_mv (vi i2) rfl (Q_mv (vi at_2) rfl ?_))
  obtain ⟨kr, H⟩ := H
  refine Q_cuts Try.underlying23 se23 A1 n2 c3 base_ rfl a8 i2 at_2 rfl rfl kr fun bu bv bw fu => ?_
  refine Q_mv (.slice A6 n7 c8) rfl (Q_mv (vi j2) rfl (Q_mv (vi (a.length : Int)) rfl ?_))
  obtain ⟨ks, H⟩ := H
  refine Q_cuts Try.underlying23 se23 A6 n7 c8 a rfl bb j2 (a.length : Int) rfl rfl ks fun a1 a2 a3 eo => ?_
  refine Q_mv (.slice an ao ap) rfl (Q_mv (vi k2) rfl (Q_mv (vi (b.length : Int)) rfl ?_))
  obtain ⟨kt, H⟩ := H
  refine Q_cuts Try.underlying23 se23 an ao ap b rfl bc k2 (b.length : Int) rfl rfl kt fun bm bn bo fv => ?_
  refine Q_as (.slice bu bv bw) rfl (Q_as (.slice a1 a2 a3) rfl (Q_as (.slice bm bn bo) rfl (Q_nil fun ku a4 => ?_)))
  have c5 := a7.k0 a4
  refine W_seq (W_block (W_seq (W_reg (L_mv (.slice a1 a2 a3) rfl (L_mv (.slice bu bv bw) rfl ?_)))))
  have am := a7.stn a4
  refine L_call go46 [.slice a1 a2 a3, .slice bu bv bw] rfl ((F16.calls ku c5.ok ((a.drop j2.toNat).take ((a.length : Int).toNat - j2.toNat)) a1 a2 a3 (eo.st am) ((base_.drop i2.toNat).take (at_2.toNat - i2.toNat)) bu bv bw (fu.st am) _ H).mono ?_)
  rintro _ kv ⟨r8, rfl, H, ar⟩
  have bx := c5.k0 ar
  refine L_as (vb r8) rfl (L_nil ?_)
  refine W_cond r8 rfl (fun ep => ?_) (fun ep => ?_)
  ·have H := ite_t H ep
   refine W_reg (L_mv (.slice aa ac ad) rfl (L_mv (.slice bm bn bo) rfl ?_))
   have c6 := c5.stn ar
   have kx := ((fv.st am).st c6)
   obtain ⟨ky, H⟩ := H
   have kz := ((bf.sn a4).sn ar)
   refine L_app ei23 bx (.slice aa ac ad) xs2 ((b.drop k2.toNat).take ((b.length : Int).toNat - k2.toNat)) rfl kz (.slice bm bn bo) rfl kx.sx 0 rfl ky fun nl fw fx fy fz ch k1 k3 => ?_
   refine L_as (.slice fw fx fy) rfl (L_nil (W_seq (W_seq (W_reg (L_mv (vi at_2) rfl (L_mv (.slice A1 n2 c3) rfl ?_))))))
   have f0 := (((a8.st am).st c6).st ch)
   refine L_pu (P_len Try.underlying23 A1 n2 c3 f0.len rfl) (L_pu (P_cmp at_2 (base_.length : Int) (decide (at_2 < (base_.length : Int))) rfl rfl rfl) (L_nil (W_cf (b := decide (at_2 < (base_.length : Int))) rfl ak ?_)))
   refine W_skip (W_reg (L_mv (vi at_2) rfl ?_))
   obtain ⟨k4, H⟩ := H
   have k5 := k4 (len_le ab) (len_le ag) (len_le ah)
   refine L_pu (P_add at_2 1 rfl rfl k5) (L_mv (vi (a.length : Int)) rfl ?_)
   obtain ⟨k6, H⟩ := H
   have k7 := k6 (len_le ab) (len_le ag) (len_le ah)
   refine L_pu (P_add (a.length : Int) 1 rfl rfl k7) (L_mv (vi (b.length : Int)) rfl ?_)
   obtain ⟨k8, H⟩ := H
   have k9 := k8 (len_le ab) (len_le ag) (len_le ah)
   refine L_pu (P_add (b.length : Int) 1 rfl rfl k9) (L_as (vi (at_2 + 1)) rfl (L_as (vi ((a.length : Int) + 1)) rfl (L_as (vi ((b.length : Int) + 1)) rfl (L_nil (W_reg (L_mv (vi at_2) rfl ?_))))))
   obtain ⟨la, H⟩ := H
   have lb := la (len_le ab) (len_le ag) (len_le ah)
   refine L_pu (P_add at_2 1 rfl rfl lb) (L_as (vi (at_2 + 1)) rfl (L_nil ?_))
   obtain ⟨lc, ld⟩ := H
   have lf := (((bb.st am).st c6).st ch)
   have lg := (((bc.st am).st c6).st ch)
   have lh := (bx.sm ((bd.sn a4).sn ar) 2 0 rfl rfl rfl fz ch)
   have li := (bx.sm ((be.sn a4).sn ar) 1 0 rfl rfl rfl fz ch)
   exact ⟨((xs2 ++ ((b.drop k2.toNat).take ((b.length : Int).toNat - k2.toNat))), fw, fx, fy, at_2 + 1, (a.length : Int) + 1, (b.length : Int) + 1, at_2 + 1), ld, lc, (hasI rfl), k1, f0, lf, lg, lh, li, k3⟩
  have H := ite_f H ep
  refine W_seq (W_reg (L_mv (.slice bm bn bo) rfl (L_mv (.slice bu bv bw) rfl ?_)))
  have ba := c5.stn ar
  have f1 := ((fv.st am).st ba)
  have lj := ((fu.st am).st ba)
  refine L_call go46 [.slice bm bn bo, .slice bu bv bw] rfl ((F16.calls kv bx.ok ((b.drop k2.toNat).take ((b.length : Int).toNat - k2.toNat)) bm bn bo f1 ((base_.drop i2.toNat).take (at_2.toNat - i2.toNat)) bu bv bw lj _ H).mono ?_)
  rintro _ lk ⟨r9, rfl, H, bp⟩
  have b5 := bx.k0 bp
  refine L_mv (vb r9) rfl ?_
  rcases bool_or r9 with a5 | a5
  ·have H := ite_t H a5
   refine L_pb a5 rfl (L_pb a5 rfl (L_pb a5 rfl (L_pu (P_pick true (vb true) (by exact congrArg Value.bool a5) rfl) (L_as (vb true) rfl (L_nil (W_ct (b := true) rfl rfl ?_))))))
   refine W_reg (L_mv (.slice aa ac ad) rfl (L_mv (.slice a1 a2 a3) rfl ?_))
   have c7 := bx.stn bp
   have ll := (((eo.st am).st ba).st c7)
   obtain ⟨lm, H⟩ := H
   have ln := (((bf.sn a4).sn ar).sn bp)
   refine L_app ei23 b5 (.slice aa ac ad) xs2 ((a.drop j2.toNat).take ((a.length : Int).toNat - j2.toNat)) rfl ln (.slice a1 a2 a3) rfl ll.sx 0 rfl lm fun nm f2 f3 f4 f5 ci lo lp => ?_
   refine L_as (.slice f2 f3 f4) rfl (L_nil (W_seq (W_seq (W_reg (L_mv (vi at_2) rfl (L_mv (.slice A1 n2 c3) rfl ?_))))))
   have f6 := ((((a8.st am).st ba).st c7).st ci)
   refine L_pu (P_len Try.underlying23 A1 n2 c3 f6.len rfl) (L_pu (P_cmp at_2 (base_.length : Int) (decide (at_2 < (base_.length : Int))) rfl rfl rfl) (L_nil (W_cf (b := decide (at_2 < (base_.length : Int))) rfl ak ?_)))
   refine W_skip (W_reg (L_mv (vi at_2) rfl ?_))
   obtain ⟨lq, H⟩ := H
   have lr := lq (len_le ab) (len_le ag) (len_le ah)
   refine L_pu (P_add at_2 1 rfl rfl lr) (L_mv (vi (a.length : Int)) rfl ?_)
   obtain ⟨ls, H⟩ := H
   have lt := ls (len_le ab) (len_le ag) (len_le ah)
   refine L_pu (P_add (a.length : Int) 1 rfl rfl lt) (L_mv (vi (b.length : Int)) rfl ?_)
   obtain ⟨lu, H⟩ := H
   have lv := lu (len_le ab) (len_le ag) (len_le ah)
   refine L_pu (P_add (b.length : Int) 1 rfl rfl lv) (L_as (vi (at_2 + 1)) rfl (L_as (vi ((a.length : Int) + 1)) rfl (L_as (vi ((b.length : Int) + 1)) rfl (L_nil (W_reg (L_mv (vi at_2) rfl ?_))))))
   obtain ⟨lw, H⟩ := H
   have lx := lw (len_le ab) (len_le ag) (len_le ah)
   refine L_pu (P_add at_2 1 rfl rfl lx) (L_as (vi (at_2 + 1)) rfl (L_nil ?_))
   obtain ⟨ly, lz⟩ := H
   have l0 := ((((bb.st am).st ba).st c7).st ci)
   have l1 := ((((bc.st am).st ba).st c7).st ci)
   have l2 := (b5.sm (((bd.sn a4).sn ar).sn bp) 2 0 rfl rfl rfl f5 ci)
   have l3 := (b5.sm (((be.sn a4).sn ar).sn bp) 1 0 rfl rfl rfl f5 ci)
   exact ⟨((xs2 ++ ((a.drop j2.toNat).take ((a.length : Int).toNat - j2.toNat))), f2, f3, f4, at_2 + 1, (a.length : Int) + 1, (b.length : Int) + 1, at_2 + 1), lz, ly, (hasI rfl), lo, f6, l0, l1, l2, l3, lp⟩
  have H := ite_f H a5
  refine L_rb a5 rfl (L_mv (.slice a1 a2 a3) rfl (L_rb a5 rfl (L_mv (.slice bm bn bo) rfl (L_rb a5 rfl ?_))))
  have cj := bx.stn bp
  have f7 := (((eo.st am).st ba).st cj)
  refine L_call go46 [.slice a1 a2 a3, .slice bm bn bo] rfl ((F16.calls lk b5.ok ((a.drop j2.toNat).take ((a.length : Int).toNat - j2.toNat)) a1 a2 a3 f7 ((b.drop k2.toNat).take ((b.length : Int).toNat - k2.toNat)) bm bn bo (f1.st cj) _ H).mono ?_)
  rintro _ nn ⟨r10, rfl, H, ck⟩
  have c9 := b5.k0 ck
  refine L_pu (P_pick false (vb r10) (by exact congrArg Value.bool a5) rfl) (L_as (vb r10) rfl (L_nil ?_))
  refine W_cond r10 rfl (fun eq => ?_) (fun eq => ?_)
  ·have H := ite_t H eq
   refine W_reg (L_mv (.slice aa ac ad) rfl (L_mv (.slice a1 a2 a3) rfl ?_))
   have da := b5.stn ck
   obtain ⟨l4, H⟩ := H
   have l5 := ((((bf.sn a4).sn ar).sn bp).sn ck)
   refine L_app ei23 c9 (.slice aa ac ad) xs2 ((a.drop j2.toNat).take ((a.length : Int).toNat - j2.toNat)) rfl l5 (.slice a1 a2 a3) rfl (f7.st da).sx 0 rfl l4 fun no f8 f9 ga gb cl l6 l7 => ?_
   refine L_as (.slice f8 f9 ga) rfl (L_nil (W_seq (W_seq (W_reg (L_mv (vi at_2) rfl (L_mv (.slice A1 n2 c3) rfl ?_))))))
   have gc := (((((a8.st am).st ba).st cj).st da).st cl)
   refine L_pu (P_len Try.underlying23 A1 n2 c3 gc.len rfl) (L_pu (P_cmp at_2 (base_.length : Int) (decide (at_2 < (base_.length : Int))) rfl rfl rfl) (L_nil (W_cf (b := decide (at_2 < (base_.length : Int))) rfl ak ?_)))
   refine W_skip (W_reg (L_mv (vi at_2) rfl ?_))
   obtain ⟨l8, H⟩ := H
   have l9 := l8 (len_le ab) (len_le ag) (len_le ah)
   refine L_pu (P_add at_2 1 rfl rfl l9) (L_mv (vi (a.length : Int)) rfl ?_)
   obtain ⟨ma, H⟩ := H
   have mb := ma (len_le ab) (len_le ag) (len_le ah)
   refine L_pu (P_add (a.length : Int) 1 rfl rfl mb) (L_mv (vi (b.length : Int)) rfl ?_)
   obtain ⟨mc, H⟩ := H
   have md := mc (len_le ab) (len_le ag) (len_le ah)
   refine L_pu (P_add (b.length : Int) 1 rfl rfl md) (L_as (vi (at_2 + 1)) rfl (L_as (vi ((a.length : Int) + 1)) rfl (L_as (vi ((b.length : Int) + 1)) rfl (L_nil (W_reg (L_mv (vi at_2) rfl ?_))))))
   obtain ⟨me, H⟩ := H
   have mf := me (len_le ab) (len_le ag) (len_le ah)
   refine L_pu (P_add at_2 1 rfl rfl mf) (L_as (vi (at_2 + 1)) rfl (L_nil ?_))
   obtain ⟨mg, mh⟩ := H
   have mi := (((((bb.st am).st ba).st cj).st da).st cl)
   have mj := (((((bc.st am).st ba).st cj).st da).st cl)
   have ml := (c9.sm ((((bd.sn a4).sn ar).sn bp).sn ck) 2 0 rfl rfl rfl gb cl)
   have mm := (c9.sm ((((be.sn a4).sn ar).sn bp).sn ck) 1 0 rfl rfl rfl gb cl)
   exact ⟨((xs2 ++ ((a.drop j2.toNat).take ((a.length : Int).toNat - j2.toNat))), f8, f9, ga, at_2 + 1, (a.length : Int) + 1, (b.length : Int) + 1, at_2 + 1), mh, mg, (hasI rfl), l6, gc, mi, mj, ml, mm, l7⟩
  have H := ite_f H eq
  refine W_seq ?_
  have mn : ([bk aa, bk aj, bk ai] : Ob).Perm ((bk aa :: bk aj :: bk ai :: []) ++ []) := (pc fun a => by (try simp only [pca, pcc, pcn, Nat.add_zero, Nat.zero_add]); first | done | ac_rfl)
  have mo := c9.drops mn
  refine W_reg (L_lit (kd := kPt) ei23 mo ([] : List Pt) (cells := []) rfl (fun _ => by kernel_rfl) fun np er es et nq hr569 eu mp => ?_)
  exact L_as (.slice er es et) rfl (L_as (vb false) rfl (L_nil (W_ret ⟨[.slice er es et, vb false], ⟨_, rfl, ⟨_, rfl, rfl⟩⟩, ([] : List Pt), false, er, es, et, rfl, H, eu.gr.g0, eu.ok, eu.ge, mp⟩)))
 have H := ite_f H dr
 refine W_exit (xin_hit ?_)
 refine W_seq (W_reg (L_mv (.slice aa ac ad) rfl (L_as (.slice aa ac ad) rfl (L_as (vb true) rfl (L_nil (W_ret ?_))))))
 have gd := a7.drop 1 rfl
 have ev := gd.drop 1 rfl
 have mq := (gd.sd (a7.sd bf 0 1 rfl rfl rfl) 0 1 rfl rfl rfl)
 exact ⟨[.slice aa ac ad, vb true], ⟨_, rfl, ⟨_, rfl, rfl⟩⟩, xs2, true, aa, ac, ad, rfl, H, ev.gr.g0, ev.ok, ev.ge, mq⟩
end
section
open Go.RowKit
def F17.E (s : Shape) (Q : Shape → Prop) : Prop :=
 (([] : List Pt).length + s.Pts.length ≤ 268435456) ∧ Q (⟨s.Kind, (([] : List Pt) ++ s.Pts)⟩ : Shape)
theorem F17.calls {O : Ob} (w0 : World) (hO : Ok w0 O) (s : Shape) (A1 : Option Addr) (n2 c3 : Nat) (hp4 : Sl kPt w0 (Fr O) (.slice A1 n2 c3) s.Pts) (Q : Shape → Prop) (h : F17.E s Q) :
  Ret Try.prog 31 [.agg #[vi s.Kind, .slice A1 n2 c3]] w0 (fun v w' => ∃ (r0 : Shape) (Aw0 : Option Addr) (nw0 cw0 : Nat), v = .agg #[vi r0.Kind, .slice Aw0 nw0 cw0] ∧ Q r0 ∧ Gr w0 w' none ∧ Ok w' ([bk Aw0] ++ O) ∧ (∀ b, some b ∈ [bk Aw0] → w0.heap.size ≤ b) ∧ Ow kPt 83 w' ([bk Aw0] ++ O) (.slice Aw0 nw0 cw0) r0.Pts) := by
 unfold F17.E at h
 have H := h
 clear h
 have hc0 := Ct.init hO
 refine Ret_enter Try.func31 rfl 10 rfl [.cell 2 25] rfl rfl ?_
 refine W_seq (W_reg (L_box [vi s.Kind, .slice A1 n2 c3] rfl fun w6 b7 hl9 hu10 g8 ay => ?_))
 have az := Fb.mk hc0.ok hl9 ay
 have ap := hc0.k0 g8
 refine L_alloc [.int .i64 0, .slice none 0 0] ze25 fun be ae aq hu19 ar a0 => ?_
 have au := ap.own ar (some ae) (oglt aq hu19)
 refine L_nil (W_seq (W_mixr 8 [some ae] (by kernel_rfl) rfl fun bf ag aa => ?_))
 have ah := au.k0 ag
 refine M_pu 0 rfl (by kernel_rfl) aa (P_fa fa25_0 ⟨b7, 0, none⟩ ⟨b7, 0, none⟩ rfl rfl) ?_
 have a1 := ap.stown _ ar (oge aq)
 have a2 := au.stn ag
 have af := ((az.st a1).st a2)
 refine M_pu 1 rfl (by kernel_rfl) aa (P_ldr ag3 cR ⟨b7, 0, none⟩ (vi s.Kind) rfl (af.cell rfl) (nm_cons (ah.fne 0 af.2 rfl) nm_nil)) ?_
 refine M_pu 3 rfl (by kernel_rfl) aa (P_fa fa25_1 ⟨b7, 0, none⟩ ⟨b7, 1, none⟩ rfl rfl) ?_
 refine M_pu 4 rfl (by kernel_rfl) aa (P_ldr ag23 cR ⟨b7, 1, none⟩ (.slice A1 n2 c3) rfl (af.cell rfl) (nm_cons (ah.fne 0 af.2 rfl) nm_nil)) ?_
 refine M_any1 2 (by kernel_rfl) rfl ?_
 refine L_lit (kd := kPt) ei23 ah ([] : List Pt) (cells := []) rfl (fun _ => by kernel_rfl) fun bg av a3 a4 aw hr35 ai a5 => ?_
 have aj := Gm.tm aa aw
 refine L_nil ⟨aj, ?_⟩
 refine M_any1 5 (by kernel_rfl) rfl ?_
 obtain ⟨a6, H⟩ := H
 refine L_app ei23 ai (.slice av a3 a4) ([] : List Pt) s.Pts rfl a5 (.slice A1 n2 c3) rfl (hp4.st ai.st).sx 0 rfl a6 fun bh ab ac ad ax a7 ak a8 => ?_
 have al := Gm.tq aj ax (hv_new aa hr35)
 have bi := hv_app (L := [bk av, some ae]) (O := O) (i := 0) aj rfl (hv_new aa hr35) a7 ak
 refine L_nil ⟨al, ?_⟩
 refine M_pu 6 rfl (by kernel_rfl) al (P_build (.agg #[vi s.Kind, .slice ab ac ad]) (fun _ => by kernel_rfl)) ?_
 refine M_any1 7 (by kernel_rfl) rfl ?_
 have a9 := (ai.bm ((a0.k0 ag).k0 aw) 1 0 rfl rfl rfl ax)
 refine L_stb ae 0 [vi 0, .slice none 0 0] [vi s.Kind, .slice ab ac ad] [vi s.Kind, .slice ab ac ad] rfl a9 rfl sz25 rfl rfl rfl fun bj am ba => ?_
 have an := ak.wr 1 rfl am
 have bb := Gm.tq al am (hv_mem 0 rfl)
 refine L_nil ⟨bb, ?_⟩
 refine M_nil (by kernel_rfl) ?_
 refine W_ret ?_
 have bc := an.bgv ba 1 rfl
 have ao := an.drop 1 rfl
 have bd := (an.sd (ak.sw a8 0 1 rfl rfl rfl am) 0 1 rfl rfl rfl)
 exact ⟨[.agg #[vi s.Kind, .slice ab ac ad]], ⟨_, _, rfl, bc.1.res rfl ag25 sz25, rfl⟩, (⟨s.Kind, (([] : List Pt) ++ s.Pts)⟩ : Shape), ab, ac, ad, rfl, H, ao.gr.g0, ao.ok, ao.ge, bd⟩
end
section
open Go.RowKit
section
variable {P : Program} {n : Nat} {N R : Ps} {X : Nat → Ps} {t : Tm} {w : World} {ops : Array Oper} {rest : List Oper} {ty : TypeId} {pos : String} {aft : Array Edge} {x y : Operand} {d : Nat} {C : World → Prop}
theorem P_capn {T e : TypeId} (hu : P.underlying T = some (.slice e)) (hx : evt n t x = .slice none 0 0) : Pu P n t C ⟨some d, .call ⟨.builtin .cap, #[x], #[T]⟩, ty, pos, aft, none⟩ (vi 0) := fun w hw => by
  simp [execOp, resolve, hx, invoke, builtin, Builtin.cap_, run_underlying hu]; rfl
theorem P_cutn {T e : TypeId} {s : Nat} (hu : P.underlying T = some (.slice e)) (hs : SizeOf P e s) {lo hi : Option Operand} (hx : evt n t x = .slice none 0 0) (hlo : bound n t lo 0 0) (hhi : bound n t hi ((0 : Nat) : Int) 0) :
    Pu P n t C ⟨some d, .slice T x lo hi none, ty, pos, aft, none⟩ (.slice none 0 0) := by
  have h := P_cut (C := C) (d := d) (ty := ty) (pos := pos) (aft := aft) hu hs none 0 0 hx 0 0 hlo hhi ⟨Int.le_refl _, Int.le_refl _, Int.le_refl _⟩
  rw [show (0 : Int).toNat = 0 from rfl, sliced0] at h
  exact h
theorem run_append_zeros (T U e : TypeId) (i : TypeInfo) (z : Value) (k : IntKind) (ht : P.underlying T = some (.slice e)) (hu : P.underlying U = some (.int k)) (hi : P.info? e = some i) (hz : i.zero = some z) (m : Nat) (h0 : 0 < m) (hm : (m : Int) ≤ 268435456) (hb : i.bytes ≤ 524288) (hsz : 0 < i.size) :
    (Builtin.append_ #[T, U] ty #[.slice none 0 0, vi (m : Int)]).run P w = .ok (.slice (some ⟨w.heap.size, 0, none⟩) m (grownCap w m 0 e)) (w.drew.alloc (.cells (Builtin.zeroCells z.cells m ++ Builtin.zeroCells z.cells (grownCap w m 0 e - m)) e)) := by
  have hw : I64 (m : Int) := by unfold I64; omega
  have hn : m ≠ 0 := by omega
  have h1 : ¬ ((m : Int) < 0) := by omega
  have hmul : m * i.bytes ≤ 140737488355328 := Nat.le_trans (Nat.mul_le_mul (show m ≤ 268435456 by omega) hb) (by omega)
  have h2 : ¬ ((281474976710656 : Int) < (m : Int) * (i.bytes : Int)) := by
    have : ((m * i.bytes : Nat) : Int) ≤ 140737488355328 := by omega
    rw [Int.natCast_mul] at this; omega
  have h63' : ¬ (9223372036854775807 < (m : Int)) := by omega
  have h48' : ¬ (281474976710656 < Builtin.nextslicecap m 0 * i.bytes) := by rw [nextslicecap_zero h0]; omega
  have hms : ¬ (m * i.size = 0) := by have := Nat.mul_pos h0 hsz; omega
  have hms2 : ¬ i.size = 0 := by omega
  simp [Builtin.append_, run_underlying ht, run_underlying hu, sizeOf, typeInfo, zeroValue, hi, hz, hn, h1, h2, h63', h48', hms2, Question.forced, run_firstCells_none, newRow, grownCap, hw.wrap, asInt, asIntOf]
  intro h; exact absurd h hms
theorem zero_list (zc : List Value) (hpos : 0 < zc.length) (m : Nat) : (Builtin.zeroCells zc.toArray m).toList = (List.replicate m zc).flatten := by
  have := made_list zc hpos m
  rw [← this]
  simp only [Builtin.zeroCells, madeCells, List.size_toArray]
theorem L_appz {T U e : TypeId} {k0 : IntKind} {bytes : Nat} {zc : List Value} {α : Type} {kd : Kd α} (E : EI P T e kd.sz bytes zc) (hU : P.underlying U = some (.int k0)) {O M : Ob} {w0 : World} {mr : Ob} (hC : Ct mr w0 w M O) (z : α) (hz : kd.R w (Fr (M ++ O)) z zc) (m : Int) (hx : evt n t x = .slice none 0 0) (hy : evt n t y = vi m) (hm : 0 < m ∧ m ≤ 268435456)
    (k : ∀ w' A l c, Gr w w' none → (∀ b, bk A = some b → w.heap.size ≤ b) → Ct mr w0 w' (bk A :: M) O →
      Ow kd e w' (bk A :: M ++ O) (.slice A l c) (List.replicate m.toNat z) → L P n ops N R X rest (upd d (.slice A l c) t) w') :
    L P n ops N R X (⟨some d, .call ⟨.builtin .append, #[x, y], #[T, U]⟩, ty, pos, aft, none⟩ :: rest) t w := by
  obtain ⟨ti, zv, hti, hzv, hsz, hb, hzc⟩ := E.inf
  have hbb := E.byt
  have hmn : ((m.toNat : Nat) : Int) = m := by omega
  have hr := run_append_zeros (P := P) (w := w) (ty := ty) T U e ti zv k0 E.un hU hti hzv m.toNat (by omega) (by omega) (by omega) (by rw [hsz]; exact E.pos)
  rw [hmn] at hr
  have hzl : zv.cells = zc.toArray := by rw [← hzc]
  have hpos : 0 < zc.length := by rw [E.len]; exact E.pos
  have harr := Arr.rep (w := w) z zc hz m.toNat
  have hal := harr.len
  rw [List.length_replicate] at hal
  have g : Gr w (w.drew.alloc (.cells (Builtin.zeroCells zv.cells m.toNat ++ Builtin.zeroCells zv.cells (grownCap w m.toNat 0 e - m.toNat)) e)) none := (Gr.drew w).t0 (Gr.alloc _ _)
  have hge := grownCap_ge w m.toNat 0 e
  have hle := grownCap_le_maxLen w m.toNat 0 e (by unfold maxLen; omega)
  have e1 : (Builtin.zeroCells zv.cells m.toNat).toList = (List.replicate m.toNat zc).flatten := by rw [hzl]; exact zero_list zc hpos _
  have e2 : (Builtin.zeroCells zv.cells (grownCap w m.toNat 0 e - m.toNat)).size = (grownCap w m.toNat 0 e - m.toNat) * kd.sz := by simp only [Builtin.zeroCells, Array.size_map, Array.size_range]; rw [hzl, List.size_toArray, E.len]
  have e3 : (Builtin.zeroCells zv.cells m.toNat).size = m.toNat * kd.sz := by simp only [Builtin.zeroCells, Array.size_map, Array.size_range]; rw [hzl, List.size_toArray, E.len]
  refine L_op rfl (.slice (some ⟨w.heap.size, 0, none⟩) (List.replicate m.toNat z).length (grownCap w m.toNat 0 e)) _ (by rw [List.length_replicate]; simp [execOp, resolve, hx, hy, invoke, builtin, hr]) (k _ (some ⟨w.heap.size, 0, none⟩) _ _ g (fun b e => by cases e; exact Nat.le_refl _)
    (hC.own g _ fun b e => by cases e; simp) ⟨(List.replicate m.toNat zc).flatten, ?_, ?_, fun b e => by rw [← e]; exact List.mem_cons_self⟩)
  · rw [List.length_replicate]
    refine ⟨by rw [hal], .inr ⟨w.heap.size, grownCap w m.toNat 0 e, _, rfl, Nat.zero_le _, heap_alloc_new w.drew _, hge, hle, ?_, ?_⟩⟩
    · rw [Array.size_append, e2, e3, ← Nat.add_mul]; congr 1; omega
    · rw [Array.toList_append, e1, List.take_left']
      rw [hal]
  · exact (harr.mono fun b hS hb => (⟨hS, hb⟩ : some b ∉ M ++ O ∧ b < w.heap.size)).keep (fun b hS hb => g.block b hb (by simp)) |>.mono fun b hS _ hm => by
      rcases List.mem_cons.1 hm with e' | hm
      · cases e'; exact absurd hS.2 (Nat.lt_irrefl _)
      · exact hS.1 hm
end
end
section
open Go.RowKit
def F18.E (n : Int) (Q : List Tag → Prop) : Prop :=
 (if decide (n < 0) then False else (I64 (0 - 0)) ∧ (I64 (n - (0 - 0))) ∧ (if decide (n - (0 - 0) > 0) then ((0 : Int) < n - (0 - 0) ∧ n - (0 - 0) ≤ (268435456 : Int)) ∧ ((0 : Int) ≤ 0 ∧ 0 ≤ ((List.replicate (n - (0 - 0)).toNat ((⟨([] : Str), ([] : Str)⟩ : Tag) : Tag)).length : Int)) ∧ Q ((List.replicate (n - (0 - 0)).toNat ((⟨([] : Str), ([] : Str)⟩ : Tag) : Tag)).take (0 : Int).toNat) else Q ([] : List Tag)))
theorem F18.calls {O : Ob} (w0 : World) (hO : Ok w0 O) (n : Int) (Q : List Tag → Prop) (h : F18.E n Q) :
  Ret Try.prog 83 [.slice none 0 0, vi n] w0 (fun v w' => ∃ (r0 : List Tag) (Aw0 : Option Addr) (nw0 cw0 : Nat), v = .slice Aw0 nw0 cw0 ∧ Q r0 ∧ Gr w0 w' none ∧ Ok w' ([bk Aw0] ++ O) ∧ (∀ b, some b ∈ [bk Aw0] → w0.heap.size ≤ b) ∧ Ow kTag 39 w' ([bk Aw0] ++ O) (.slice Aw0 nw0 cw0) r0) := by
 unfold F18.E at h
 have H := h
 clear h
 have hc0 := Ct.init hO
 refine Ret_enter Try.func83 rfl 27 rfl [.tmp 4] rfl rfl ?_
 refine W_seq (W_reg (L_as (.slice none 0 0) rfl (L_nil (W_seq (W_seq (W_reg (L_mv (vi n) rfl (L_pu (P_cmp n 0 (decide (n < 0)) rfl rfl rfl) ?_))))))))
 refine L_nil ?_
 refine W_cond (decide (n < 0)) rfl (fun hq1 => ?_) (fun hq1 => ?_)
 ·have H := ite_t H hq1
  exact False.elim H
 have H := ite_f H hq1
 refine W_skip (W_seq (W_seq (W_reg (L_mv (vi n) rfl (L_mv (.slice none 0 0) rfl (L_pu (P_capn Try.underlying26 rfl) (L_mv (.slice none 0 0) rfl (L_pu (P_len Try.underlying26 none 0 0 rfl rfl) ?_))))))))
 obtain ⟨hb2, H⟩ := H
 refine L_pu (P_sub 0 0 rfl rfl hb2) ?_
 obtain ⟨hb3, H⟩ := H
 refine L_pu (P_sub n (0 - 0) rfl rfl hb3) (L_as (vi (n - (0 - 0))) rfl (L_nil (W_seq (W_reg (L_mv (vi (n - (0 - 0))) rfl (L_pu (P_cmp (n - (0 - 0)) 0 (decide (n - (0 - 0) > 0)) rfl rfl rfl) (L_nil ?_)))))))
 refine W_cond (decide (n - (0 - 0) > 0)) rfl (fun hq4 => ?_) (fun hq4 => ?_)
 ·have H := ite_t H hq4
  refine W_reg (L_mv (.slice none 0 0) rfl (L_mv (.slice none 0 0) rfl (L_pu (P_capn Try.underlying26 rfl) (L_pu (P_cutn Try.underlying26 se26 rfl rfl rfl) (L_mv (vi (n - (0 - 0))) rfl ?_)))))
  obtain ⟨hb5, H⟩ := H
  refine L_appz (kd := kTag) ei26 Try.underlying3 hc0 ((⟨([] : Str), ([] : Str)⟩ : Tag) : Tag) ((kTag.mk _ _ (⟨([] : Str), ([] : Str)⟩ : Tag) (by decide) (by decide))) (n - (0 - 0)) rfl rfl hb5 fun w6 A7 n8 c9 ah hr11 ab ad => ?_
  refine L_mv (.slice none 0 0) rfl (L_pu (P_len Try.underlying26 none 0 0 rfl rfl) ?_)
  obtain ⟨ae, H⟩ := H
  refine L_cuto Try.underlying26 se26 A7 n8 c9 (List.replicate (n - (0 - 0)).toNat ((⟨([] : Str), ([] : Str)⟩ : Tag) : Tag)) rfl ad 0 rfl rfl ae fun aa af => ?_
  exact L_as (.slice A7 aa c9) rfl (L_nil (W_seq (W_reg (L_mv (.slice A7 aa c9) rfl (L_as (.slice A7 aa c9) rfl (L_nil (W_ret ⟨[.slice A7 aa c9], ⟨_, rfl, rfl⟩, ((List.replicate (n - (0 - 0)).toNat ((⟨([] : Str), ([] : Str)⟩ : Tag) : Tag)).take (0 : Int).toNat), A7, aa, c9, rfl, H, ab.gr.g0, ab.ok, ab.ge, af⟩)))))))
 have H := ite_f H hq4
 refine W_skip (W_seq (W_reg (L_mv (.slice none 0 0) rfl (L_as (.slice none 0 0) rfl (L_nil (W_ret ?_))))))
 have ac := hc0.own (Gr.refl _ none) none (by simp)
 have ag : Ow kTag 39 w0 ([bk none] ++ O) (.slice none 0 0) [] := Ow.nil _ _ _ _
 exact ⟨[.slice none 0 0], ⟨_, rfl, rfl⟩, ([] : List Tag), none, 0, 0, rfl, H, ac.gr.g0, ac.ok, ac.ge, ag⟩
end
section
open Go.RowKit
def F12.E (slices : List (List Tag)) (Q : List Tag → Prop) : Prop :=
 (∃ (I19 : Int → Int → Prop) (mu20 : Int → Int → Nat), I19 0 0 ∧ ∀ (size2 : Int) (v2 : Int), I19 size2 v2 → (if decide (v2 < (slices.length : Int)) then ((0 : Int) ≤ v2 ∧ v2 < (slices.length : Int)) ∧ (((nth slices v2).length : Int) ≤ 9223372036854775807 → I64 (size2 + ((nth slices v2).length : Int))) ∧ (if decide (size2 + ((nth slices v2).length : Int) < 0) then False else (((nth slices v2).length : Int) ≤ 9223372036854775807 → I64 (v2 + 1)) ∧ I19 (size2 + ((nth slices v2).length : Int)) (v2 + 1) ∧ mu20 (size2 + ((nth slices v2).length : Int)) (v2 + 1) < mu20 size2 v2) else F18.E size2 (fun r => (∃ (I83 : (List Tag) → Int → Prop) (mu84 : (List Tag) → Int → Nat), I83 r 0 ∧ ∀ (xs2 : List Tag) (v4 : Int), I83 xs2 v4 → (if decide (v4 < (slices.length : Int)) then ((0 : Int) ≤ v4 ∧ v4 < (slices.length : Int)) ∧ (xs2.length + (nth slices v4).length ≤ 268435456) ∧ (I64 (v4 + 1)) ∧ I83 (xs2 ++ (nth slices v4)) (v4 + 1) ∧ mu84 (xs2 ++ (nth slices v4)) (v4 + 1) < mu84 xs2 v4 else Q xs2)))))
theorem F12.calls {O : Ob} (w0 : World) (hO : Ok w0 O) (slices : List (List Tag)) (A1 : Option Addr) (n2 c3 : Nat) (hp4 : Sl (Kd.sl kTag) w0 (Fr O) (.slice A1 n2 c3) slices) (Q : List Tag → Prop) (h : F12.E slices Q) :
  Ret Try.prog 32 [.slice A1 n2 c3] w0 (fun v w' => ∃ (r0 : List Tag) (Aw0 : Option Addr) (nw0 cw0 : Nat), v = .slice Aw0 nw0 cw0 ∧ Q r0 ∧ Gr w0 w' none ∧ Ok w' ([bk Aw0] ++ O) ∧ (∀ b, some b ∈ [bk Aw0] → w0.heap.size ≤ b) ∧ Ow kTag 39 w' ([bk Aw0] ++ O) (.slice Aw0 nw0 cw0) r0) := by
 unfold F12.E at h
 have H := h
 clear h
 have hc0 := Ct.init hO
 refine Ret_enter Try.func32 rfl 36 rfl [.tmp 2] rfl rfl ?_
 refine W_seq (W_reg (L_as (.slice none 0 0) rfl (L_nil (W_seq (W_reg (L_as (vi 0) rfl (L_nil (W_seq ?_))))))))
 refine W_seq (W_reg (L_mv (.slice A1 n2 c3) rfl ?_))
 have hl6 := hp4.le
 refine L_pu (P_len Try.underlying119 A1 n2 c3 hp4.len rfl) (L_mv (vi 0) rfl (L_nil (W_block ?_)))
 obtain ⟨bc, bd, ao, H⟩ := H
 refine W_loop (α := Int × Int) (fun (sv__ : Int × Int) t ae => match sv__ with | (size2, v2) => bc size2 v2 ∧ Has t [(0, .slice A1 n2 c3), (3, vi size2), (9, .slice A1 n2 c3), (10, vi (slices.length : Int)), (11, vi v2)] ∧ Ct [] w0 ae [] O ∧ Sl (Kd.sl kTag) ae (Fr ([] ++ O)) (.slice A1 n2 c3) slices) (fun (sv__ : Int × Int) => match sv__ with | (size2, v2) => bd size2 v2) (0, 0) ⟨ao, (hasI rfl), hc0, hp4⟩ ?_
 rintro ⟨size2, v2⟩ _ ae ⟨ao, be, af, ad⟩
 obtain ⟨b7, rfl⟩ := Has.ins be
 have H := H size2 v2 ao
 refine W_seq (W_reg (L_pu (P_cmp v2 (slices.length : Int) (decide (v2 < (slices.length : Int))) rfl rfl rfl) (L_nil (W_seq ?_))))
 refine W_cond (decide (v2 < (slices.length : Int))) rfl (fun ap => ?_) (fun ap => ?_)
 ·have H := ite_t H ap
  refine W_skip (W_seq (W_block (W_seq (W_reg ?_))))
  obtain ⟨ax, H⟩ := H
  obtain ⟨ay, b8, bf, b9, bg, bh⟩ := ad.get default (by decide) v2 ax
  obtain ⟨ag, ah, ai, rfl, az⟩ := Kd.sl.op bg
  refine L_pu (P_ia Try.underlying119 se119 A1 ay n2 c3 ad.len v2 rfl bf rfl ax) (L_pu (P_ld ag26 cL (ay.add (v2.toNat * 1)) (.slice ag ah ai) rfl (bh 0 _ rfl)) (L_as (.slice ag ah ai) rfl (L_nil (W_seq (W_reg (L_mv (vi size2) rfl (L_mv (.slice ag ah ai) rfl ?_)))))))
  have a0 := az.le
  refine L_pu (P_len Try.underlying26 ag ah ai az.len rfl) ?_
  obtain ⟨bi, H⟩ := H
  have bj := bi (len_le a0)
  refine L_pu (P_add size2 ((nth slices v2).length : Int) rfl rfl bj) (L_as (vi (size2 + ((nth slices v2).length : Int))) rfl (L_nil (W_seq (W_reg (L_mv (vi (size2 + ((nth slices v2).length : Int))) rfl (L_pu (P_cmp (size2 + ((nth slices v2).length : Int)) 0 (decide (size2 + ((nth slices v2).length : Int) < 0)) rfl rfl rfl) (L_nil ?_)))))))
  refine W_cond (decide (size2 + ((nth slices v2).length : Int) < 0)) rfl (fun aq => ?_) (fun aq => ?_)
  ·have H := ite_t H aq
   exact False.elim H
  have H := ite_f H aq
  refine W_skip (W_reg ?_)
  obtain ⟨bl, H⟩ := H
  have bm := bl (len_le a0)
  refine L_pu (P_add v2 1 rfl rfl bm) (L_mv (vi (v2 + 1)) rfl (L_nil ?_))
  obtain ⟨bn, bo⟩ := H
  exact ⟨(size2 + ((nth slices v2).length : Int), v2 + 1), bo, bn, (hasI rfl), af, ad⟩
 have H := ite_f H ap
 refine W_exit (xin_hit ?_)
 refine W_seq (W_reg (L_mv (vi size2) rfl ?_))
 refine L_call go83 [.slice none 0 0, vi size2] rfl ((F18.calls ae af.ok size2 _ H).mono ?_)
 rintro _ ca ⟨r, a1, a2, a3, rfl, H, a4, bp, a5, bq⟩
 have br := af.owns a4 bp a5
 refine L_as (.slice a1 a2 a3) rfl (L_nil (W_seq (W_seq (W_reg (L_mv (.slice A1 n2 c3) rfl ?_)))))
 have ar := af.stos a4 a5
 have cb := (ad.st ar).le
 refine L_pu (P_len Try.underlying119 A1 n2 c3 (ad.st ar).len rfl) (L_mv (vi 0) rfl (L_nil (W_block ?_)))
 obtain ⟨bs, bt, au, H⟩ := H
 refine W_loop (α := (List Tag) × (Option Addr) × Nat × Nat × Int) (fun (sv__ : (List Tag) × (Option Addr) × Nat × Nat × Int) t aj => match sv__ with | (xs2, aa, ab, ac, v4) => bs xs2 v4 ∧ Has t [(6, .slice aa ab ac), (25, .slice A1 n2 c3), (26, vi (slices.length : Int)), (27, vi v4)] ∧ Ct [] w0 aj [bk aa] O ∧ Sl (Kd.sl kTag) aj (Fr ([bk aa] ++ O)) (.slice A1 n2 c3) slices ∧ Ow kTag 39 aj ([bk aa] ++ O) (.slice aa ab ac) xs2) (fun (sv__ : (List Tag) × (Option Addr) × Nat × Nat × Int) => match sv__ with | (xs2, _, _, _, v4) => bt xs2 v4) (r, a1, a2, a3, 0) ⟨au, (hasI rfl), br, (ad.st ar), bq⟩ ?_
 rintro ⟨xs2, aa, ab, ac, v4⟩ _ aj ⟨au, bu, ak, av, a6⟩
 obtain ⟨cc, rfl⟩ := Has.ins bu
 have H := H xs2 v4 au
 refine W_seq (W_reg (L_pu (P_cmp v4 (slices.length : Int) (decide (v4 < (slices.length : Int))) rfl rfl rfl) (L_nil (W_seq ?_))))
 refine W_cond (decide (v4 < (slices.length : Int))) rfl (fun aw => ?_) (fun aw => ?_)
 ·have H := ite_t H aw
  refine W_skip (W_seq (W_block (W_seq (W_reg ?_))))
  obtain ⟨a7, H⟩ := H
  obtain ⟨a8, cd, bv, ce, bw, bx⟩ := av.get default (by decide) v4 a7
  obtain ⟨al, am, an, rfl, bz⟩ := Kd.sl.op bw
  refine L_pu (P_ia Try.underlying119 se119 A1 a8 n2 c3 av.len v4 rfl bv rfl a7) (L_pu (P_ld ag26 cL (a8.add (v4.toNat * 1)) (.slice al am an) rfl (bx 0 _ rfl)) (L_as (.slice al am an) rfl (L_nil (W_reg (L_mv (.slice aa ab ac) rfl (L_mv (.slice al am an) rfl ?_))))))
  obtain ⟨b0, H⟩ := H
  refine L_app ei26 ak (.slice aa ab ac) xs2 (nth slices v4) rfl a6 (.slice al am an) rfl bz.sx 0 rfl b0 fun cf a9 ba bb cg b1 b2 b3 => ?_
  refine L_as (.slice a9 ba bb) rfl (L_nil (W_reg ?_))
  obtain ⟨b4, H⟩ := H
  refine L_pu (P_add v4 1 rfl rfl b4) (L_mv (vi (v4 + 1)) rfl (L_nil ?_))
  obtain ⟨b5, b6⟩ := H
  exact ⟨((xs2 ++ (nth slices v4)), a9, ba, bb, v4 + 1), b6, b5, (hasI rfl), b2, (av.st b1), b3⟩
 have H := ite_f H aw
 refine W_exit (xin_hit ?_)
 exact W_seq (W_reg (L_mv (.slice aa ab ac) rfl (L_as (.slice aa ab ac) rfl (L_nil (W_ret ⟨[.slice aa ab ac], ⟨_, rfl, rfl⟩, xs2, aa, ab, ac, rfl, H, ak.gr.g0, ak.ok, ak.ge, a6⟩)))))
end
end Go.Proofs.Ytpdmnmpcjljeaaa
namespace Go.Proofs
open Go.Shelf
def Try.lays190_ren : Go.Shelf.Ren := ⟨fun | 190 => 33 | 125 => 85 | 258 => 84 | 128 => 117 | 129 => 118 | 302 => 108 | 303 => 109 | 304 => 110 | 305 => 111 | 306 => 112 | 307 => 113 | 308 => 114 | 309 => 115 | 310 => 116 | 333 => 141 | 329 => 142 | 330 => 143 | 334 => 144 | 335 => 145 | 336 => 93 | 344 => 156 | n => n, fun | 31 => 31 | 9 => 9 | 3 => 3 | 46 => 123 | 0 => 0 | 51 => 154 | 53 => 156 | 4 => 4 | 183 => 146 | 182 => 145 | 131 => 151 | 5 => 5 | 218 => 169 | 222 => 173 | 228 => 179 | 229 => 180 | n => n, fun | n => n⟩
theorem Try.lays190 : Go.Proofs.Lays.n190 Try.prog Try.lays190_ren := {
  mixed := by kernel_rfl
  f125 := Try.func85.trans (congrArg some (by kernel_rfl))
  f128 := Try.func117.trans (congrArg some (by kernel_rfl))
  f129 := Try.func118.trans (congrArg some (by kernel_rfl))
  f190 := Try.func33.trans (congrArg some (by kernel_rfl))
  f258 := Try.func84.trans (congrArg some (by kernel_rfl))
  f302 := Try.func108.trans (congrArg some (by kernel_rfl))
  f303 := Try.func109.trans (congrArg some (by kernel_rfl))
  f304 := Try.func110.trans (congrArg some (by kernel_rfl))
  f305 := Try.func111.trans (congrArg some (by kernel_rfl))
  f306 := Try.func112.trans (congrArg some (by kernel_rfl))
  f307 := Try.func113.trans (congrArg some (by kernel_rfl))
  f308 := Try.func114.trans (congrArg some (by kernel_rfl))
  f309 := Try.func115.trans (congrArg some (by kernel_rfl))
  f310 := Try.func116.trans (congrArg some (by kernel_rfl))
  f329 := Try.func142.trans (congrArg some (by kernel_rfl))
  f330 := Try.func143.trans (congrArg some (by kernel_rfl))
  f333 := Try.func141.trans (congrArg some (by kernel_rfl))
  f334 := Try.func144.trans (congrArg some (by kernel_rfl))
  f335 := Try.func145.trans (congrArg some (by kernel_rfl))
  f336 := Try.func93.trans (congrArg some (by kernel_rfl))
  f344 := Try.func156.trans (congrArg some (by kernel_rfl))
  t0 := Try.underlying0
  a0 := Try.isAgg0
  z0 := Try.sizeOf0
  v0 := Try.zeroValue0
  t3 := Try.underlying3
  a3 := Try.isAgg3
  z3 := Try.sizeOf3
  v3 := Try.zeroValue3
  t4 := Try.underlying4
  a4 := Try.isAgg4
  z4 := Try.sizeOf4
  v4 := Try.zeroValue4
  t5 := Try.underlying5
  a5 := Try.isAgg5
  z5 := Try.sizeOf5
  v5 := Try.zeroValue5
  t9 := Try.underlying9
  a9 := Try.isAgg9
  z9 := Try.sizeOf9
  v9 := Try.zeroValue9
  t31 := Try.underlying31
  a31 := Try.isAgg31
  z31 := Try.sizeOf31
  v31 := Try.zeroValue31
  t46 := Try.underlying123
  a46 := Try.isAgg123
  z46 := Try.sizeOf123
  v46 := Try.zeroValue123
  t51 := Try.underlying154
  a51 := Try.isAgg154
  z51 := Try.sizeOf154
  v51 := Try.zeroValue154
  t53 := Try.underlying156
  a53 := Try.isAgg156
  z53 := Try.sizeOf156
  v53 := Try.zeroValue156
  t131 := Try.underlying151
  a131 := Try.isAgg151
  z131 := Try.sizeOf151
  v131 := Try.zeroValue151
  t182 := Try.underlying145
  a182 := Try.isAgg145
  z182 := Try.sizeOf145
  v182 := Try.zeroValue145
  t183 := Try.underlying146
  a183 := Try.isAgg146
  z183 := Try.sizeOf146
  v183 := Try.zeroValue146
  t218 := Try.underlying169
  a218 := Try.isAgg169
  z218 := Try.sizeOf169
  v218 := Try.zeroValue169
  t222 := Try.underlying173
  a222 := Try.isAgg173
  z222 := Try.sizeOf173
  v222 := Try.zeroValue173
  t228 := Try.underlying179
  a228 := Try.isAgg179
  z228 := Try.sizeOf179
  v228 := Try.zeroValue179
  t229 := Try.underlying180
  a229 := Try.isAgg180
  z229 := Try.sizeOf180
  v229 := Try.zeroValue180 }
open Go.Sort Go.RowKit in
theorem Try.slices_Sort_string (blk off cap : Nat) (ss : List (List UInt8)) (w : World) (hH : Holds encStr w blk off ss.toArray) (hblk : blk < w.heap.size) (hsz : ss.length < 4611686018427387904) :
    Calls Try.prog 33 #[.slice (some ⟨blk, off, none⟩) ss.length cap] w fun e w' =>
      e = .returned (.tuple #[]) ∧ ∃ n os, w' = grow (putRow encStr (Sort.ahead w n) blk off (ss.mergeSort fun x y => decide (x ≤ y)).toArray) os := Any.slices_Sort_string Try.lays190 blk off cap ss w hH hblk hsz
def Try.lays194_ren : Go.Shelf.Ren := ⟨fun | 194 => 34 | n => n, fun | 31 => 31 | 9 => 9 | 3 => 3 | 4 => 4 | 0 => 0 | n => n, fun | n => n⟩
theorem Try.lays194 : Go.Proofs.Lays.n194 Try.prog Try.lays194_ren := {
  mixed := by kernel_rfl
  f194 := Try.func34.trans (congrArg some (by kernel_rfl))
  t0 := Try.underlying0
  a0 := Try.isAgg0
  z0 := Try.sizeOf0
  v0 := Try.zeroValue0
  t3 := Try.underlying3
  a3 := Try.isAgg3
  z3 := Try.sizeOf3
  v3 := Try.zeroValue3
  t4 := Try.underlying4
  a4 := Try.isAgg4
  z4 := Try.sizeOf4
  v4 := Try.zeroValue4
  t9 := Try.underlying9
  a9 := Try.isAgg9
  z9 := Try.sizeOf9
  v9 := Try.zeroValue9
  t31 := Try.underlying31
  a31 := Try.isAgg31
  z31 := Try.sizeOf31
  v31 := Try.zeroValue31 }
open Go.RowKit Go.Lib Go.Sort in
open Go.RowKit Go.Lib Go.Sort in
theorem Try.slices_Compact_string (blk off cap : Nat) (zs : List (List UInt8)) (w : World) (hH : Holds encStr w blk off zs.toArray) (hsz : zs.length ≤ 9223372036854775807) (hcap : zs.length ≤ cap) :
    Calls Try.prog 34 #[.slice (some ⟨blk, off, none⟩) zs.length cap] w fun e w' => e = .returned (.slice (some ⟨blk, off, none⟩) (Lib.compact zs).length cap) ∧ ∃ q, w' = putRow encStr (Sort.ahead w q) blk off (Lib.compact zs ++ List.replicate (zs.length - (Lib.compact zs).length) []).toArray := Any.slices_Compact_string Try.lays194 blk off cap zs w hH hsz hcap
open Go.RowKit Go.Lib Go.Sort in
theorem Try.slices_Compact_string_empty (a : Option Addr) (cap : Nat) (w : World) :
    Calls Try.prog 34 #[.slice a 0 cap] w fun e w' => e = .returned (.slice a 0 cap) ∧ w' = w := Any.slices_Compact_string_empty Try.lays194 a cap w
open Go.RowKit Go.Lib Go.Sort in
open Go.RowKit Go.Sort in
theorem Try.slices_Sort_string_none (p : Option Addr) (cap : Nat) (w : World) :
    Calls Try.prog 33 #[.slice p 0 cap] w fun e w' => e = .returned (.tuple #[]) ∧ w' = w := Any.slices_Sort_string_none Try.lays190 p cap w
end Go.Proofs
namespace Go.Proofs.Ytpdmnmpcjljeaaa
set_option linter.unusedVariables false
set_option linter.unusedSimpArgs false
set_option linter.unusedSectionVars false
set_option maxHeartbeats 8000000
set_option maxRecDepth 100000
section
open Go.RowKit Go.Shelf Go.Sort Go.Lib
theorem strs_arr {w : World} {S : Sp} : ∀ {xs : List Str} {cs : List Value}, Arr Kd.str w S xs cs → cs = xs.map vs ∧ ∀ x ∈ xs, Lim x
  | [], _, h => ⟨h, fun x hx => by cases hx⟩
  | x :: xs, _, ⟨c1, c2, e, h1, h2⟩ => by
    obtain ⟨e2, h3⟩ := strs_arr h2
    refine ⟨by rw [e, h1.1, e2]; rfl, fun y hy => ?_⟩
    rcases List.mem_cons.1 hy with rfl | hy
    · exact h1.2
    · exact h3 y hy
theorem arr_strs {w : World} {S : Sp} : ∀ {xs : List Str}, (∀ x ∈ xs, Lim x) → Arr Kd.str w S xs (xs.map vs)
  | [], _ => rfl
  | x :: xs, h => ⟨[vs x], xs.map vs, rfl, ⟨rfl, h x List.mem_cons_self⟩, arr_strs fun y hy => h y (List.mem_cons_of_mem _ hy)⟩
theorem heap_put (w : World) (q g : Nat) (ys : List Str) (os : Array Obj) (b : Nat) (hb : b < w.heap.size) (hne : b ≠ g) : (grow (putRow encStr (Sort.ahead w q) g 0 ys.toArray) os).heap[b]? = w.heap[b]? := by
  have h1 : (w.heap.modify g (onCells (putCells encStr 0 ys.toArray))).size = w.heap.size := Array.size_modify
  simp only [grow, putRow, mapBlock, Sort.ahead]
  rw [Array.getElem?_append_left (by rw [h1]; exact hb), Array.getElem?_modify, if_neg (fun e => hne e.symm)]
theorem Ow.putS {e : TypeId} {w : World} {O : Ob} {g n c : Nat} {xs : List Str} (h : Ow Kd.str e w O (.slice (some ⟨g, 0, none⟩) n c) xs) (ys : List Str) (hl : ys.length = xs.length) (hy : ∀ y ∈ ys, Lim y) (q : Nat) (os : Array Obj) (hx : 0 < xs.length) :
    Gr w (grow (putRow encStr (Sort.ahead w q) g 0 ys.toArray) os) (some g) ∧ Ow Kd.str e (grow (putRow encStr (Sort.ahead w q) g 0 ys.toArray) os) O (.slice (some ⟨g, 0, none⟩) n c) ys := by
  have hgl := h.ltb g rfl
  have h1 : (w.heap.modify g (onCells (putCells encStr 0 ys.toArray))).size = w.heap.size := Array.size_modify
  refine ⟨⟨rfl, rfl, rfl, ?_, fun b hb hn => heap_put w q g ys os b hb fun e => hn (by rw [e])⟩, ?_⟩
  · simp only [grow, putRow, mapBlock, Sort.ahead, Array.size_append, h1]; omega
  obtain ⟨cells, o1, o2, o3⟩ := h
  rcases o1.2 with ⟨_, e'⟩ | ⟨g', cap, cur, ev, h0, hg, hle, hmx, hcur, htake⟩
  · omega
  · cases ev
    have hk : Kd.str.sz = 1 := rfl
    refine ⟨ys.map vs, ⟨by rw [List.length_map, hk, Nat.mul_one], .inr ⟨g, c, putCells encStr 0 ys.toArray cur, by rw [hl], h0, ?_, by rw [hl]; exact hle, hmx, ?_, ?_⟩⟩, arr_strs hy, o3⟩
    · simp only [grow, putRow, mapBlock, Sort.ahead]
      rw [Array.getElem?_append_left (by rw [h1]; exact hgl), Array.getElem?_modify, if_pos rfl, hg]; rfl
    · rw [putCells, Array.size_mapIdx]; exact hcur
    · rw [hk, Nat.mul_one]
      have hc1 : xs.length ≤ cur.size := by rw [hcur, hk, Nat.mul_one]; exact hle
      apply List.ext_getElem?
      intro j
      rw [List.getElem?_take, List.getElem?_map]
      by_cases hj : j < ys.length
      · rw [if_pos hj, putCells, Array.getElem?_toList, Array.getElem?_mapIdx, Array.getElem?_eq_getElem (by omega), List.getElem?_eq_getElem hj]
        simp only [Option.map_some, Nat.zero_le, true_and, Nat.zero_add, List.size_toArray, hj, if_true, Nat.sub_zero]
        simp [hj]
      · rw [if_neg hj, List.getElem?_eq_none (by omega)]; rfl
theorem Ow.holds {e : TypeId} {w : World} {O : Ob} {g n c : Nat} {xs : List Str} (h : Ow Kd.str e w O (.slice (some ⟨g, 0, none⟩) n c) xs) : Holds encStr w g 0 xs.toArray := by
  obtain ⟨cells, o1, o2, o3⟩ := h
  obtain ⟨e2, _⟩ := strs_arr o2
  intro j hj
  simp only [List.size_toArray] at hj
  rcases o1.2 with ⟨_, e'⟩ | ⟨g', cap, cur, ev, h0, hg, hle, hmx, hcur, htake⟩
  · omega
  · cases ev
    have hc := World.ownsRow.cells o1 (g := g) rfl j (vs xs[j]) (by rw [e2]; simp [hj])
    have ha : (⟨g, 0, none⟩ : Addr).add j = ⟨g, 0 + j, none⟩ := by unfold Addr.add; split <;> simp_all
    rw [ha] at hc
    refine ⟨by rw [hc]; simp [hj], ?_⟩
    simp [World.frozen?, hg]
def sortS (xs : List Str) : List Str := xs.mergeSort fun x y => decide (x ≤ y)
theorem Ow.form {e : TypeId} {w : World} {O : Ob} {A : Option Addr} {n c : Nat} {xs : List Str} (h : Ow Kd.str e w O (.slice A n c) xs) (hx : 0 < xs.length) : ∃ g, A = some ⟨g, 0, none⟩ ∧ n = xs.length ∧ xs.length ≤ c ∧ g < w.heap.size := by
  obtain ⟨cells, o1, o2, o3⟩ := h
  rcases o1.2 with ⟨_, e'⟩ | ⟨g', cap, cur, ev, h0, hg, hle, hmx, hcur, htake⟩
  · omega
  · cases ev; exact ⟨g', rfl, rfl, hle, (Array.getElem?_eq_some_iff.1 hg).1⟩
theorem Ow.lims {e : TypeId} {w : World} {O : Ob} {v : Value} {xs : List Str} (h : Ow Kd.str e w O v xs) : ∀ x ∈ xs, Lim x := by
  obtain ⟨cells, o1, o2, o3⟩ := h
  exact (strs_arr o2).2
end
section
open Go.RowKit
open Go.Shelf Go.Sort Go.Lib
def F7.E (x : List Str) (Q : List Str → Prop) : Prop := x.length ≤ 268435456 ∧ Q (sortS x)
theorem F7.calls {O : Ob} (w0 : World) (hO : Ok w0 O) (A : Option Addr) (n c : Nat) (x : List Str) (hp : Ow Kd.str 9 w0 O (.slice A n c) x) (Q : List Str → Prop) (h : F7.E x Q) :
  Ret Try.prog 33 [.slice A n c] w0 (fun v w' => ∃ (m0 : List Str), v = .tuple #[] ∧ Q m0 ∧ Gr w0 w' (blk (.slice A n c)) ∧ Ow Kd.str 9 w' O (.slice A n c) m0) := by
 obtain ⟨hl, hq⟩ := h
 by_cases hx : 0 < x.length
 ·obtain ⟨g, rfl, rfl, hc, hg⟩ := hp.form hx
  refine Calls.mono (Try.slices_Sort_string g 0 c x w0 hp.holds hg (by omega)) fun e w' ⟨he, q, os, hw⟩ => ?_
  subst he; subst hw
  have hs : (sortS x).length = x.length := List.length_mergeSort _
  obtain ⟨h1, h2⟩ := hp.putS (sortS x) hs (fun y hy => hp.lims y (List.mem_mergeSort.1 hy)) q os hx
  exact ⟨_, rfl, sortS x, rfl, hq, h1, h2⟩
 ·have e0 : x = [] := List.length_eq_zero_iff.1 (by omega)
  subst e0
  obtain rfl : n = 0 := hp.len
  refine Calls.mono (Try.slices_Sort_string_none A c w0) fun e w' ⟨he, hw⟩ => ?_
  subst he; subst hw
  exact ⟨_, rfl, [], rfl, (by simpa [sortS] using hq), Gr.refl _ _, hp⟩
end
section
open Go.RowKit
open Go.Shelf Go.Sort Go.Lib
def F0.E (x : List Str) (Q : List Str → Prop) : Prop := x.length ≤ 268435456 ∧ Q (Lib.compact x)
theorem compact_le (x : List Str) : (Lib.compact x).length ≤ x.length := by
 unfold Lib.compact Lib.compactUpTo
 rw [List.length_map]
 exact Nat.le_trans (List.length_filter_le _ _) (by rw [List.length_range]; exact Nat.le_refl _)
theorem compact_mem {x : List Str} {y : Str} (h : y ∈ Lib.compact x) : y ∈ x := by
 unfold Lib.compact Lib.compactUpTo at h
 obtain ⟨j, hj, rfl⟩ := List.mem_map.1 h
 have hl : j < x.length := List.mem_range.1 (List.mem_filter.1 hj).1
 simp [hl]
theorem F0.calls {O : Ob} (w0 : World) (hO : Ok w0 O) (A : Option Addr) (n c : Nat) (x : List Str) (hp : Ow Kd.str 9 w0 O (.slice A n c) x) (Q : List Str → Prop) (h : F0.E x Q) :
  Ret Try.prog 34 [.slice A n c] w0 (fun v w' => ∃ (m0 : List Str) (l : Nat), v = .slice A l c ∧ Q m0 ∧ Gr w0 w' (blk (.slice A n c)) ∧ Ow Kd.str 9 w' O (.slice A l c) m0) := by
 obtain ⟨hl, hq⟩ := h
 by_cases hx : 0 < x.length
 ·obtain ⟨g, rfl, rfl, hc, hg⟩ := hp.form hx
  refine Calls.mono (Try.slices_Compact_string g 0 c x w0 hp.holds (by omega) hc) fun e w' ⟨he, q, hw⟩ => ?_
  have hcl := compact_le x
  rw [← grow_empty (putRow encStr (Sort.ahead w0 q) g 0 _)] at hw
  subst he; subst hw
  obtain ⟨h1, h2⟩ := hp.putS (Lib.compact x ++ List.replicate (x.length - (Lib.compact x).length) []) (by rw [List.length_append, List.length_replicate]; omega) (fun y hy => by
   rcases List.mem_append.1 hy with hy | hy
   ·exact hp.lims y (compact_mem hy)
   ·rw [List.eq_of_mem_replicate hy]; decide) q #[] hx
  have h3 := h2.cut (Lib.compact x).length (by rw [List.length_append]; omega)
  rw [List.take_left'] at h3
  ·exact ⟨_, rfl, Lib.compact x, _, rfl, hq, h1, h3⟩
  ·rfl
 ·have e0 : x = [] := List.length_eq_zero_iff.1 (by omega)
  subst e0
  obtain rfl : n = 0 := hp.len
  refine Calls.mono (Try.slices_Compact_string_empty A c w0) fun e w' ⟨he, hw⟩ => ?_
  subst he; subst hw
  exact ⟨_, rfl, [], _, rfl, hq, Gr.refl _ _, hp⟩
end
section
open Go.RowKit
def F19.E (t_ : Tag) (fv2 : Str) (Q : Bool → Prop) : Prop :=
 Q (t_.Key == fv2)
theorem F19.calls {O : Ob} (w0 : World) (hO : Ok w0 O) (t_ : Tag) (hs1 : Lim t_.Key) (hs2 : Lim t_.Val) (b : Nat) (fv2 : Str) (hs4 : Lim fv2) (hp1 : Fb w0 O b [vs fv2]) (Q : Bool → Prop) (h : F19.E t_ fv2 Q) :
  Ret Try.prog 91 [.agg #[vs t_.Key, vs t_.Val], .pointer (some ⟨b, 0, none⟩)] w0 (fun v w' => ∃ (r0 : Bool), v = vb r0 ∧ Q r0 ∧ Gr w0 w' none) := by
 unfold F19.E at h
 have H := h
 clear h
 have hc0 := Ct.init hO
 refine Ret_enter Try.func91 rfl 8 rfl [.tmp 3] rfl rfl ?_
 refine W_seq (W_reg (L_box [vs t_.Key, vs t_.Val] rfl fun w5 b6 hl8 hu9 g7 ab => ?_))
 have ac := Fb.mk hc0.ok hl8 ab
 have aa := hc0.k0 g7
 refine L_as (vb false) rfl (L_nil (W_seq (W_reg (L_pu (P_fa fa39_0 ⟨b6, 0, none⟩ ⟨b6, 0, none⟩ rfl rfl) (L_pu (P_ld ag9 cL ⟨b6, 0, none⟩ (vs t_.Key) rfl (ac.cell rfl)) ?_)))))
 have ad := (hp1.st aa.st)
 exact L_pu (P_ld ag9 cL ⟨b, 0, none⟩ (vs fv2) rfl (ad.cell rfl)) (L_pu (P_scmp t_.Key fv2 (t_.Key == fv2) rfl rfl rfl) (L_as (vb (t_.Key == fv2)) rfl (L_nil (W_ret ⟨[vb (t_.Key == fv2)], ⟨_, rfl, rfl⟩, t_.Key == fv2, rfl, H, aa.gr.g0⟩))))
end
section
open Go.RowKit
def F3.E (s : List Tag) (f : Tag → Bool) (f_ok : Tag → Prop) (Q : Int → Prop) : Prop :=
 (∃ (I23 : Int → Prop) (mu24 : Int → Nat), I23 0 ∧ ∀ (v2 : Int), I23 v2 → (if decide (v2 < (s.length : Int)) then ((0 : Int) ≤ v2 ∧ v2 < (s.length : Int)) ∧ (f_ok (nth s v2)) ∧ (if (f (nth s v2)) then Q v2 else (I64 (v2 + 1)) ∧ I23 (v2 + 1) ∧ mu24 (v2 + 1) < mu24 v2) else Q (-1)))
theorem F3.calls {O : Ob} (w0 : World) (hO : Ok w0 O) (s : List Tag) (A1 : Option Addr) (n2 c3 : Nat) (hp4 : Sl kTag w0 (Fr O) (.slice A1 n2 c3) s) (fg6 : FuncId) (fc7 : List Value) (f : Tag → Bool) (f_ok : Tag → Prop) (hgo8 : Goes Try.prog fg6) (hf9 : ∀ (w : World) (L : Ob), Ct [] w0 w L O → ∀ (x0_ : Tag) (az : Lim x0_.Key) (a0 : Lim x0_.Val), f_ok x0_ → Ret Try.prog fg6 ([.agg #[vs x0_.Key, vs x0_.Val]] ++ fc7) w (fun v w' => v = vb (f x0_) ∧ Gr w w' none)) (Q : Int → Prop) (h : F3.E s f f_ok Q) :
  Ret Try.prog 90 [.slice A1 n2 c3, .func (.func fg6) #[] fc7.toArray] w0 (fun v w' => ∃ (r0 : Int), v = vi r0 ∧ Q r0 ∧ Gr w0 w' none) := by
 unfold F3.E at h
 have H := h
 clear h
 have hc0 := Ct.init hO
 refine Ret_enter Try.func90 rfl 19 rfl [.tmp 4] rfl rfl ?_
 refine W_seq (W_reg (L_as (vi 0) rfl (L_nil (W_seq (W_seq (W_reg (L_mv (.slice A1 n2 c3) rfl ?_)))))))
 have a1 := hp4.le
 refine L_pu (P_len Try.underlying26 A1 n2 c3 hp4.len rfl) (L_mv (vi 0) rfl (L_nil (W_block ?_)))
 obtain ⟨ak, al, ac, H⟩ := H
 refine W_loop (α := Int) (fun (sv__ : Int) t aa => match sv__ with | v2 => ak v2 ∧ Has t [(0, .slice A1 n2 c3), (1, .func (.func fg6) #[] fc7.toArray), (7, vi (s.length : Int)), (8, vi v2)] ∧ Ct [] w0 aa [] O ∧ Sl kTag aa (Fr ([] ++ O)) (.slice A1 n2 c3) s) (fun (sv__ : Int) => match sv__ with | v2 => al v2) 0 ⟨ac, (hasI rfl), hc0, hp4⟩ ?_
 rintro v2 _ aa ⟨ac, am, ab, ad⟩
 obtain ⟨a2, rfl⟩ := Has.ins am
 have H := H v2 ac
 refine W_seq (W_reg (L_pu (P_cmp v2 (s.length : Int) (decide (v2 < (s.length : Int))) rfl rfl rfl) (L_nil (W_seq ?_))))
 refine W_cond (decide (v2 < (s.length : Int))) rfl (fun ae => ?_) (fun ae => ?_)
 ·have H := ite_t H ae
  refine W_skip (W_seq (W_block (W_seq (W_reg (L_mv (vi v2) rfl (L_as (vi v2) rfl (L_nil (W_seq ?_))))))))
  refine W_reg (L_mv (.func (.func fg6) #[] fc7.toArray) rfl (L_mv (.slice A1 n2 c3) rfl (L_mv (vi v2) rfl ?_)))
  obtain ⟨ag, H⟩ := H
  obtain ⟨ah, a3, an, a4, ao, ap⟩ := ad.get default (by decide) v2 ag
  obtain ⟨rfl, aq, ar⟩ := kTag.op ao
  refine L_pu (P_ia Try.underlying26 se26 A1 ah n2 c3 ad.len v2 rfl an rfl ag) (L_pu (P_lda ag39 sz39 cL (ah.add (v2.toNat * 2)) [vs ((nth s v2).Key), vs ((nth s v2).Val)] rfl rfl ap) ?_)
  obtain ⟨au, H⟩ := H
  refine L_callv hgo8 fc7 rfl [.agg #[vs ((nth s v2).Key), vs ((nth s v2).Val)]] rfl ((hf9 aa [] ab (nth s v2) aq ar au).mono ?_)
  rintro _ a5 ⟨rfl, ai⟩
  have aj := ab.k0 ai
  refine L_nil ?_
  refine W_cond (f (nth s v2)) rfl (fun af => ?_) (fun af => ?_)
  ·have H := ite_t H af
   exact W_seq (W_reg (L_mv (vi v2) rfl (L_as (vi v2) rfl (L_nil (W_ret ⟨[vi v2], ⟨_, rfl, rfl⟩, v2, rfl, H, aj.gr.g0⟩)))))
  have H := ite_f H af
  refine W_skip (W_reg ?_)
  obtain ⟨av, H⟩ := H
  refine L_pu (P_add v2 1 rfl rfl av) (L_mv (vi (v2 + 1)) rfl (L_nil ?_))
  obtain ⟨aw, ax⟩ := H
  have ay := ab.stn ai
  exact ⟨v2 + 1, ax, aw, (hasI rfl), aj, (ad.st ay)⟩
 have H := ite_f H ae
 refine W_exit (xin_hit ?_)
 exact W_seq (W_reg (L_as (vi (-1)) rfl (L_nil (W_ret ⟨[vi (-1)], ⟨_, rfl, rfl⟩, (-1), rfl, H, ab.gr.g0⟩))))
end
section
open Go.RowKit
def F36.E (f : Feat) (key : Str) (Q : Int → Prop) : Prop :=
 (∃ (f2 : Tag → Bool) (f2_ok : Tag → Prop), (∀ x0_, f2_ok x0_ → F19.E x0_ key (fun r => r = f2 x0_)) ∧ F3.E f.Tags f2 f2_ok (fun r => Q r))
theorem F36.calls {O : Ob} (w0 : World) (hO : Ok w0 O) (f : Feat) (A2 : Option Addr) (n3 c4 : Nat) (A7 : Option Addr) (n8 c9 : Nat) (hs1 : Lim f.Id) (hp5 : Sl kPt w0 (Fr O) (.slice A2 n3 c4) f.Shape.Pts) (ai : Sl kTag w0 (Fr O) (.slice A7 n8 c9) f.Tags) (key : Str) (aj : Lim key) (Q : Int → Prop) (h : F36.E f key Q) :
  Ret Try.prog 44 [.agg #[vs f.Id, vi f.Shape.Kind, .slice A2 n3 c4, .slice A7 n8 c9], vs key] w0 (fun v w' => ∃ (r0 : Int), v = vi r0 ∧ Q r0 ∧ Gr w0 w' none) := by
 unfold F36.E at h
 have H := h
 clear h
 have hc0 := Ct.init hO
 refine Ret_enter Try.func44 rfl 9 rfl [.tmp 4] rfl rfl ?_
 refine W_seq (W_reg (L_box [vs f.Id, vi f.Shape.Kind, .slice A2 n3 c4, .slice A7 n8 c9] rfl fun az ab ak hu17 al am => ?_))
 have an := Fb.mk hc0.ok ak am
 have ac := hc0.k0 al
 refine L_box [vs key] rfl fun ae aa ao hu26 af ap => ?_
 have aq := Fb.mk ac.ok ao ap
 have ad := ac.k0 af
 refine L_as (vi 0) rfl (L_nil (W_seq (W_reg (L_pu (P_fa fa28_2 ⟨ab, 0, none⟩ ⟨ab, 3, none⟩ rfl rfl) ?_))))
 have ar := ac.stn af
 have au := (an.st ar)
 refine L_pu (P_ld ag26 cL ⟨ab, 3, none⟩ (.slice A7 n8 c9) rfl (au.cell rfl)) (L_pu (P_func [.pointer (some ⟨aa, 0, none⟩)] rfl) ?_)
 obtain ⟨f2, f2_ok, av, H⟩ := H
 have aw : ∀ (w : World) (L : Ob), Ct [] ae w L ([] ++ O) → ∀ (x0_ : Tag) (ag : Lim x0_.Key) (ah : Lim x0_.Val), f2_ok x0_ → Ret Try.prog 91 ([.agg #[vs x0_.Key, vs x0_.Val]] ++ [.pointer (some ⟨aa, 0, none⟩)]) w (fun v w' => v = vb (f2 x0_) ∧ Gr w w' none) := by
  intro w L c x0_ ag ah hok
  refine (F19.calls w c.ok x0_ ag ah aa key aj (aq.st c.st) _ (av x0_ hok)).mono ?_
  rintro _ w2 ⟨r, rfl, rfl, g2⟩
  exact ⟨rfl, g2⟩
 refine L_call go90 [.slice A7 n8 c9, .func (.func 91) #[] #[.pointer (some ⟨aa, 0, none⟩)]] rfl ((F3.calls ae ad.ok f.Tags A7 n8 c9 (ai.st ad.st) 91 [.pointer (some ⟨aa, 0, none⟩)] f2 f2_ok go91 aw _ H).mono ?_)
 rintro _ a0 ⟨r, rfl, H, ax⟩
 have ay := ad.k0 ax
 exact L_as (vi r) rfl (L_nil (W_ret ⟨[vi r], ⟨_, rfl, rfl⟩, r, rfl, H, ay.gr.g0⟩))
end
section
open Go.RowKit
def F50.E (f : Feat) (key : Str) (Q : value → Prop) : Prop :=
 F36.E f key (fun r => (if decide (r < 0) then Q (⟨false, ([] : Str)⟩ : value) else ((0 : Int) ≤ r ∧ r < (f.Tags.length : Int)) ∧ Q (⟨true, (nth f.Tags r).Val⟩ : value)))
theorem F50.calls {O : Ob} (w0 : World) (hO : Ok w0 O) (f : Feat) (A2 : Option Addr) (n3 c4 : Nat) (A7 : Option Addr) (n8 c9 : Nat) (hs1 : Lim f.Id) (hp5 : Sl kPt w0 (Fr O) (.slice A2 n3 c4) f.Shape.Pts) (af : Sl kTag w0 (Fr O) (.slice A7 n8 c9) f.Tags) (key : Str) (aq : Lim key) (Q : value → Prop) (h : F50.E f key Q) :
  Ret Try.prog 35 [.agg #[vs f.Id, vi f.Shape.Kind, .slice A2 n3 c4, .slice A7 n8 c9], vs key] w0 (fun v w' => ∃ (r0 : value), v = .agg #[vb r0.has, vs r0.val] ∧ Q r0 ∧ Gr w0 w' none ∧ Lim r0.val) := by
 unfold F50.E at h
 have H := h
 clear h
 have hc0 := Ct.init hO
 refine Ret_enter Try.func35 rfl 19 rfl [.cell 4 72] rfl rfl ?_
 refine W_seq (W_reg (L_box [vs f.Id, vi f.Shape.Kind, .slice A2 n3 c4, .slice A7 n8 c9] rfl fun bf ab ar hu17 au av => ?_))
 have aw := Fb.mk hc0.ok ar av
 have ai := hc0.k0 au
 refine L_alloc [vb false, vs []] ze72 fun ax ag aj hu26 ak al => ?_
 have aa := ai.own ak (some ag) (oglt aj hu26)
 refine L_nil (W_seq (W_reg ?_))
 have ay := ai.stown _ ak (oge aj)
 have am := (aw.st ay)
 refine L_pu (P_lda ag28 sz28 cL ⟨ab, 0, none⟩ [vs f.Id, vi f.Shape.Kind, .slice A2 n3 c4, .slice A7 n8 c9] rfl rfl (am.cells (off := 0) rfl)) (L_mv (vs key) rfl ?_)
 refine L_call go44 [.agg #[vs f.Id, vi f.Shape.Kind, .slice A2 n3 c4, .slice A7 n8 c9], vs key] rfl ((F36.calls ax aa.ok f A2 n3 c4 A7 n8 c9 hs1 (hp5.st aa.st) (af.st aa.st) key aq _ H).mono ?_)
 rintro _ bg ⟨r, rfl, H, ac⟩
 have ad := aa.k0 ac
 refine L_as (vi r) rfl (L_nil (W_seq (W_seq (W_reg (L_mv (vi r) rfl (L_pu (P_cmp r 0 (decide (r < 0)) rfl rfl rfl) (L_nil ?_)))))))
 refine W_cond (decide (r < 0)) rfl (fun ah => ?_) (fun ah => ?_)
 ·have H := ite_t H ah
  refine W_seq (W_reg (L_pu (P_build (.agg #[vb false, vs ([] : Str)]) (fun _ => by kernel_rfl)) ?_))
  have az := (al.k0 ac)
  refine L_stb ag 0 [vb false, vs ([] : Str)] [vb false, vs ([] : Str)] [vb false, vs ([] : Str)] rfl az rfl sz72 rfl rfl rfl fun bh a0 a1 => ?_
  have an := ad.wr 0 rfl a0
  refine L_nil (W_ret ?_)
  have a2 := an.bgv a1 0 rfl
  have a3 := an.drop 0 rfl
  exact ⟨[.agg #[vb false, vs ([] : Str)]], ⟨_, _, rfl, a2.1.res rfl ag72 sz72, rfl⟩, (⟨false, ([] : Str)⟩ : value), rfl, H, a3.gr.g0, (by decide)⟩
 have H := ite_f H ah
 refine W_skip (W_seq (W_reg (L_pu (P_fa fa28_2 ⟨ab, 0, none⟩ ⟨ab, 3, none⟩ rfl rfl) ?_)))
 have a4 := aa.stn ac
 have a5 := (am.st a4)
 refine L_pu (P_ld ag26 cL ⟨ab, 3, none⟩ (.slice A7 n8 c9) rfl (a5.cell rfl)) (L_mv (vi r) rfl ?_)
 obtain ⟨ao, H⟩ := H
 obtain ⟨ae, bi, a6, bj, a7, a8⟩ := (af.st ad.st).get default (by decide) r ao
 obtain ⟨rfl, bl, a9⟩ := kTag.op a7
 refine L_pu (P_ia Try.underlying26 se26 A7 ae n8 c9 (af.st ad.st).len r rfl a6 rfl ao) (L_pu (P_fa fa39_1 (ae.add (r.toNat * 2)) ((ae.add (r.toNat * 2)).add 1) rfl rfl) (L_pu (P_ld ag9 cL ((ae.add (r.toNat * 2)).add 1) (vs ((nth f.Tags r).Val)) rfl (a8 1 _ rfl)) (L_pu (P_build (.agg #[vb true, vs ((nth f.Tags r).Val)]) (fun _ => by kernel_rfl)) ?_)))
 have ba := (al.k0 ac)
 refine L_stb ag 0 [vb false, vs ([] : Str)] [vb true, vs ((nth f.Tags r).Val)] [vb true, vs ((nth f.Tags r).Val)] rfl ba rfl sz72 rfl rfl rfl fun bm bb bc => ?_
 have ap := ad.wr 0 rfl bb
 refine L_nil (W_ret ?_)
 have bd := ap.bgv bc 0 rfl
 have be := ap.drop 0 rfl
 exact ⟨[.agg #[vb true, vs ((nth f.Tags r).Val)]], ⟨_, _, rfl, bd.1.res rfl ag72 sz72, rfl⟩, (⟨true, (nth f.Tags r).Val⟩ : value), rfl, H, be.gr.g0, a9⟩
end
section
open Go.RowKit
def F8.E (base_ : value) (a : value) (b : value) (same : value → value → Bool) (same_ok : value → value → Prop) (Q : value → Bool → Prop) : Prop :=
 (same_ok a base_) ∧ (if (same a base_) then Q b true else (same_ok b base_) ∧ (if (same b base_) then Q a true else (same_ok a b) ∧ (if (same a b) then Q a true else Q a false)))
theorem F8.calls {O : Ob} (w0 : World) (hO : Ok w0 O) (base_ : value) (hs1 : Lim base_.val) (a : value) (hs2 : Lim a.val) (b : value) (hs3 : Lim b.val) (fg4 : FuncId) (fc5 : List Value) (same : value → value → Bool) (same_ok : value → value → Prop) (hgo6 : Goes Try.prog fg4) (hf7 : ∀ (w : World) (L : Ob), Ct [] w0 w L O → ∀ (x0_ : value) (hs8 : Lim x0_.val) (x1_ : value) (hs9 : Lim x1_.val), same_ok x0_ x1_ → Ret Try.prog fg4 ([.agg #[vb x0_.has, vs x0_.val], .agg #[vb x1_.has, vs x1_.val]] ++ fc5) w (fun v w' => v = vb (same x0_ x1_) ∧ Gr w w' none)) (Q : value → Bool → Prop) (h : F8.E base_ a b same same_ok Q) :
  Ret Try.prog 36 [.agg #[vb base_.has, vs base_.val], .agg #[vb a.has, vs a.val], .agg #[vb b.has, vs b.val], .func (.func fg4) #[] fc5.toArray] w0 (fun v w' => ∃ (r0 : value) (r1 : Bool), v = .tuple #[.agg #[vb r0.has, vs r0.val], vb r1] ∧ Q r0 r1 ∧ Gr w0 w' none ∧ Lim r0.val) := by
 unfold F8.E at h
 have H := h
 clear h
 have hc0 := Ct.init hO
 refine Ret_enter Try.func36 rfl 27 rfl [.cell 8 72, .tmp 9] rfl rfl ?_
 refine W_seq (W_reg (L_box [vb base_.has, vs base_.val] rfl fun w8 b9 ba hu12 bb bc => ?_))
 have bd := Fb.mk hc0.ok ba bc
 have am := hc0.k0 bb
 refine L_box [vb a.has, vs a.val] rfl fun cn ad be hu21 av bf => ?_
 have bg := Fb.mk am.ok be bf
 have an := am.k0 av
 refine L_box [vb b.has, vs b.val] rfl fun co ao bh hu30 aw bi => ?_
 have ax := Fb.mk an.ok bh bi
 have ay := an.k0 aw
 refine L_alloc [vb false, vs []] ze72 fun bj aa az hu39 a0 ah => ?_
 have ai := ay.own a0 (some aa) (oglt az hu39)
 refine L_as (vb false) rfl (L_nil (W_seq (W_block (W_seq (W_reg (L_mv (.func (.func fg4) #[] fc5.toArray) rfl ?_))))))
 have a1 := an.stn aw
 have aj := ay.stown _ a0 (oge az)
 have ap := ((bg.st a1).st aj)
 refine L_pu (P_lda ag72 sz72 cL ⟨ad, 0, none⟩ [vb a.has, vs a.val] rfl rfl (ap.cells (off := 0) rfl)) ?_
 have bl := am.stn av
 have a2 := (((bd.st bl).st a1).st aj)
 refine L_pu (P_lda ag72 sz72 cL ⟨b9, 0, none⟩ [vb base_.has, vs base_.val] rfl rfl (a2.cells (off := 0) rfl)) ?_
 obtain ⟨bm, H⟩ := H
 refine L_callv hgo6 fc5 rfl [.agg #[vb a.has, vs a.val], .agg #[vb base_.has, vs base_.val]] rfl ((hf7 bj [some aa] ai a hs2 base_ hs1 bm).mono ?_)
 rintro _ bn ⟨rfl, ab⟩
 have ae := ai.k0 ab
 refine L_as (vb (same a base_)) rfl (L_nil ?_)
 refine W_cond (same a base_) rfl (fun aq => ?_) (fun aq => ?_)
 ·have H := ite_t H aq
  refine W_seq (W_reg ?_)
  have bo := ai.stn ab
  have bp := ((ax.st aj).st bo)
  refine L_pu (P_lda ag72 sz72 cL ⟨ao, 0, none⟩ [vb b.has, vs b.val] rfl rfl (bp.cells (off := 0) rfl)) ?_
  have bq := (ah.k0 ab)
  refine L_stb aa 0 [vb false, vs ([] : Str)] [vb b.has, vs b.val] [vb b.has, vs b.val] rfl bq rfl sz72 rfl rfl rfl fun cp br bs => ?_
  have a3 := ae.wr 0 rfl br
  refine L_as (vb true) rfl (L_nil (W_ret ?_))
  have bt := a3.bgv bs 0 rfl
  have bu := a3.drop 0 rfl
  exact ⟨[.agg #[vb b.has, vs b.val], vb true], ⟨_, _, rfl, bt.1.res rfl ag72 sz72, ⟨_, rfl, rfl⟩⟩, b, true, rfl, H, bu.gr.g0, hs3⟩
 have H := ite_f H aq
 refine W_seq (W_seq (W_reg (L_mv (.func (.func fg4) #[] fc5.toArray) rfl ?_)))
 have ak := ai.stn ab
 have a4 := ((ax.st aj).st ak)
 refine L_pu (P_lda ag72 sz72 cL ⟨ao, 0, none⟩ [vb b.has, vs b.val] rfl rfl (a4.cells (off := 0) rfl)) ?_
 have bv := (a2.st ak)
 refine L_pu (P_lda ag72 sz72 cL ⟨b9, 0, none⟩ [vb base_.has, vs base_.val] rfl rfl (bv.cells (off := 0) rfl)) ?_
 obtain ⟨bw, H⟩ := H
 refine L_callv hgo6 fc5 rfl [.agg #[vb b.has, vs b.val], .agg #[vb base_.has, vs base_.val]] rfl ((hf7 bn [some aa] ae b hs3 base_ hs1 bw).mono ?_)
 rintro _ bx ⟨rfl, ac⟩
 have af := ae.k0 ac
 refine L_as (vb (same b base_)) rfl (L_nil ?_)
 refine W_cond (same b base_) rfl (fun al => ?_) (fun al => ?_)
 ·have H := ite_t H al
  refine W_skip (W_ct (b := (same b base_)) rfl al ?_)
  refine W_seq (W_reg ?_)
  have bz := ae.stn ac
  have b0 := ((ap.st ak).st bz)
  refine L_pu (P_lda ag72 sz72 cL ⟨ad, 0, none⟩ [vb a.has, vs a.val] rfl rfl (b0.cells (off := 0) rfl)) ?_
  have b1 := ((ah.k0 ab).k0 ac)
  refine L_stb aa 0 [vb false, vs ([] : Str)] [vb a.has, vs a.val] [vb a.has, vs a.val] rfl b1 rfl sz72 rfl rfl rfl fun cq b2 b3 => ?_
  have a5 := af.wr 0 rfl b2
  refine L_as (vb true) rfl (L_nil (W_ret ?_))
  have b4 := a5.bgv b3 0 rfl
  have b5 := a5.drop 0 rfl
  exact ⟨[.agg #[vb a.has, vs a.val], vb true], ⟨_, _, rfl, b4.1.res rfl ag72 sz72, ⟨_, rfl, rfl⟩⟩, a, true, rfl, H, b5.gr.g0, hs2⟩
 have H := ite_f H al
 refine W_reg (L_mv (.func (.func fg4) #[] fc5.toArray) rfl ?_)
 have a6 := ae.stn ac
 have ar := ((ap.st ak).st a6)
 refine L_pu (P_lda ag72 sz72 cL ⟨ad, 0, none⟩ [vb a.has, vs a.val] rfl rfl (ar.cells (off := 0) rfl)) ?_
 have b6 := (a4.st a6)
 refine L_pu (P_lda ag72 sz72 cL ⟨ao, 0, none⟩ [vb b.has, vs b.val] rfl rfl (b6.cells (off := 0) rfl)) ?_
 obtain ⟨b7, H⟩ := H
 refine L_callv hgo6 fc5 rfl [.agg #[vb a.has, vs a.val], .agg #[vb b.has, vs b.val]] rfl ((hf7 bx [some aa] af a hs2 b hs3 b7).mono ?_)
 rintro _ cr ⟨rfl, ag⟩
 have a7 := af.k0 ag
 refine L_as (vb (same a b)) rfl (L_nil ?_)
 refine W_cond (same a b) rfl (fun au => ?_) (fun au => ?_)
 ·have H := ite_t H au
  refine W_seq (W_reg ?_)
  have b8 := af.stn ag
  have ca := (ar.st b8)
  refine L_pu (P_lda ag72 sz72 cL ⟨ad, 0, none⟩ [vb a.has, vs a.val] rfl rfl (ca.cells (off := 0) rfl)) ?_
  have cb := (((ah.k0 ab).k0 ac).k0 ag)
  refine L_stb aa 0 [vb false, vs ([] : Str)] [vb a.has, vs a.val] [vb a.has, vs a.val] rfl cb rfl sz72 rfl rfl rfl fun cs cc cd => ?_
  have a8 := a7.wr 0 rfl cc
  refine L_as (vb true) rfl (L_nil (W_ret ?_))
  have ce := a8.bgv cd 0 rfl
  have cf := a8.drop 0 rfl
  exact ⟨[.agg #[vb a.has, vs a.val], vb true], ⟨_, _, rfl, ce.1.res rfl ag72 sz72, ⟨_, rfl, rfl⟩⟩, a, true, rfl, H, cf.gr.g0, hs2⟩
 have H := ite_f H au
 refine W_skip (W_seq (W_reg ?_))
 have cg := af.stn ag
 have ch := (ar.st cg)
 refine L_pu (P_lda ag72 sz72 cL ⟨ad, 0, none⟩ [vb a.has, vs a.val] rfl rfl (ch.cells (off := 0) rfl)) ?_
 have ci := (((ah.k0 ab).k0 ac).k0 ag)
 refine L_stb aa 0 [vb false, vs ([] : Str)] [vb a.has, vs a.val] [vb a.has, vs a.val] rfl ci rfl sz72 rfl rfl rfl fun ct cj ck => ?_
 have a9 := a7.wr 0 rfl cj
 refine L_as (vb false) rfl (L_nil (W_ret ?_))
 have cl := a9.bgv ck 0 rfl
 have cm := a9.drop 0 rfl
 exact ⟨[.agg #[vb a.has, vs a.val], vb false], ⟨_, _, rfl, cl.1.res rfl ag72 sz72, ⟨_, rfl, rfl⟩⟩, a, false, rfl, H, cm.gr.g0, hs2⟩
end
section
open Go.RowKit
def F20.E (p : value) (q : value) (Q : Bool → Prop) : Prop :=
 Q (eqvalue p q)
theorem F20.calls {O : Ob} (w0 : World) (hO : Ok w0 O) (p : value) (hs1 : Lim p.val) (q : value) (hs2 : Lim q.val) (Q : Bool → Prop) (h : F20.E p q Q) :
  Ret Try.prog 37 [.agg #[vb p.has, vs p.val], .agg #[vb q.has, vs q.val]] w0 (fun v w' => ∃ (r0 : Bool), v = vb r0 ∧ Q r0 ∧ Gr w0 w' none) := by
 unfold F20.E at h
 have H := h
 clear h
 have hc0 := Ct.init hO
 refine Ret_enter Try.func37 rfl 8 rfl [.tmp 4] rfl rfl ?_
 refine W_seq (W_reg (L_box [vb p.has, vs p.val] rfl fun w3 b4 hl6 hu7 g5 hx8 => ?_))
 have ac := Fb.mk hc0.ok hl6 hx8
 have aa := hc0.k0 g5
 refine L_box [vb q.has, vs q.val] rfl fun ak ad ae hu16 ab af => ?_
 have ag := Fb.mk aa.ok ae af
 have ah := aa.k0 ab
 refine L_as (vb false) rfl (L_nil (W_seq (W_reg ?_)))
 have ai := aa.stn ab
 have aj := (ac.st ai)
 exact L_pu (P_lda ag72 sz72 cL ⟨b4, 0, none⟩ [vb p.has, vs p.val] rfl rfl (aj.cells (off := 0) rfl)) (L_pu (P_lda ag72 sz72 cL ⟨ad, 0, none⟩ [vb q.has, vs q.val] rfl rfl (ag.cells (off := 0) rfl)) (L_pu (P_eq _ _ (eqvalue p q) (qt72 p q) rfl rfl) (L_as (vb (eqvalue p q)) rfl (L_nil (W_ret ⟨[vb (eqvalue p q)], ⟨_, rfl, rfl⟩, eqvalue p q, rfl, H, ah.gr.g0⟩)))))
end
section
open Go.RowKit
def F26.E (f : Feat) (Q : Feat → Prop) : Prop :=
 (([] : List Tag).length + f.Tags.length ≤ 268435456) ∧ F17.E f.Shape (fun r => Q (⟨f.Id, r, (([] : List Tag) ++ f.Tags)⟩ : Feat))
theorem F26.calls {O : Ob} (w0 : World) (hO : Ok w0 O) (f : Feat) (A2 : Option Addr) (n3 c4 : Nat) (A7 : Option Addr) (n8 c9 : Nat) (hs1 : Lim f.Id) (hp5 : Sl kPt w0 (Fr O) (.slice A2 n3 c4) f.Shape.Pts) (bn : Sl kTag w0 (Fr O) (.slice A7 n8 c9) f.Tags) (Q : Feat → Prop) (h : F26.E f Q) :
  Ret Try.prog 38 [.agg #[vs f.Id, vi f.Shape.Kind, .slice A2 n3 c4, .slice A7 n8 c9]] w0 (fun v w' => ∃ (r0 : Feat) (Aw0 : Option Addr) (nw0 cw0 : Nat) (Aw2 : Option Addr) (nw2 cw2 : Nat), v = .agg #[vs r0.Id, vi r0.Shape.Kind, .slice Aw0 nw0 cw0, .slice Aw2 nw2 cw2] ∧ Q r0 ∧ Gr w0 w' none ∧ Ok w' ([bk Aw0, bk Aw2] ++ O) ∧ (∀ b, some b ∈ [bk Aw0, bk Aw2] → w0.heap.size ≤ b) ∧ Lim r0.Id ∧ Ow kPt 83 w' ([bk Aw0, bk Aw2] ++ O) (.slice Aw0 nw0 cw0) r0.Shape.Pts ∧ Ow kTag 39 w' ([bk Aw0, bk Aw2] ++ O) (.slice Aw2 nw2 cw2) r0.Tags) := by
 unfold F26.E at h
 have H := h
 clear h
 have hc0 := Ct.init hO
 refine Ret_enter Try.func38 rfl 13 rfl [.cell 2 28] rfl rfl ?_
 refine W_seq (W_reg (L_box [vs f.Id, vi f.Shape.Kind, .slice A2 n3 c4, .slice A7 n8 c9] rfl fun dd ac b3 hu16 b4 b5 => ?_))
 have b6 := Fb.mk hc0.ok b3 b5
 have bo := hc0.k0 b4
 refine L_alloc [vs [], .int .i64 0, .slice none 0 0, .slice none 0 0] ze28 fun de aa bp hu25 bq br => ?_
 have bs := bo.own bq (some aa) (oglt bp hu25)
 refine L_nil (W_seq ?_)
 obtain ⟨bt, H⟩ := H
 refine W_join (J := (fun t ai => ∃ (r : Shape) (ad : Option Addr) (aj : Nat) (ak : Nat) (ae : Option Addr) (al : Nat) (am : Nat), Has t [(2, .pointer (some ⟨aa, 0, none⟩))] ∧ Ct [] w0 ai [bk ae, bk ad, some aa] O ∧ Ow kPt 83 ai ([bk ae, bk ad, some aa] ++ O) (.slice ad aj ak) r.Pts ∧ Ow kTag 39 ai ([bk ae, bk ad, some aa] ++ O) (.slice ae al am) (([] : List Tag) ++ f.Tags) ∧ Bx ai aa [vs f.Id, vi r.Kind, .slice ad aj ak, .slice ae al am] ∧ Q (⟨f.Id, r, (([] : List Tag) ++ f.Tags)⟩ : Feat))) ?_ ?_
 ·refine W_mixr 11 [some aa] (by kernel_rfl) rfl fun b7 ap ab => ?_
  have af := bs.k0 ap
  refine M_pu 0 rfl (by kernel_rfl) ab (P_fa fa28_0 ⟨ac, 0, none⟩ ⟨ac, 0, none⟩ rfl rfl) ?_
  have b8 := bo.stown _ bq (oge bp)
  have b9 := bs.stn ap
  have ah := ((b6.st b8).st b9)
  refine M_pu 1 rfl (by kernel_rfl) ab (P_ldr ag9 cR ⟨ac, 0, none⟩ (vs f.Id) rfl (ah.cell rfl) (nm_cons (af.fne 0 ah.2 rfl) nm_nil)) ?_
  refine M_pu 2 rfl (by kernel_rfl) ab (P_fa fa28_1 ⟨ac, 0, none⟩ ⟨ac, 1, none⟩ rfl rfl) ?_
  refine M_pu 3 rfl (by kernel_rfl) ab (P_ldar ag25 sz25 cR ⟨ac, 1, none⟩ [vi f.Shape.Kind, .slice A2 n3 c4] rfl rfl (ah.cells (off := 1) rfl) (nm_cons (af.fne 0 ah.2 rfl) nm_nil)) ?_
  refine M_pu 6 rfl (by kernel_rfl) ab (P_fa fa28_2 ⟨ac, 0, none⟩ ⟨ac, 3, none⟩ rfl rfl) ?_
  refine M_pu 7 rfl (by kernel_rfl) ab (P_ldr ag26 cR ⟨ac, 3, none⟩ (.slice A7 n8 c9) rfl (ah.cell rfl) (nm_cons (af.fne 0 ah.2 rfl) nm_nil)) ?_
  refine M_any2 4 5 (by kernel_rfl) rfl rfl ?_ ?_
  ·refine L_call go31 [.agg #[vi f.Shape.Kind, .slice A2 n3 c4]] rfl ((F17.calls b7 af.ok f.Shape A2 n3 c4 (hp5.st af.st) _ H).mono ?_)
   rintro _ bu ⟨r, an, aq, ar, rfl, H, bc, ca, cb, cc⟩
   have cd := af.owns bc ca cb
   have au := Gm.tm ab bc
   refine L_nil ⟨au, ?_⟩
   refine M_any1 5 (by kernel_rfl) rfl ?_
   refine L_lit (kd := kTag) ei26 cd ([] : List Tag) (cells := []) rfl (fun _ => by kernel_rfl) fun df bv ce cf bd hr54 av cg => ?_
   have ag := Gm.tm au bd
   refine L_nil ⟨ag, ?_⟩
   refine M_any1 8 (by kernel_rfl) rfl ?_
   refine L_app ei26 av (.slice bv ce cf) ([] : List Tag) f.Tags rfl cg (.slice A7 n8 c9) rfl (bn.st av.st).sx 0 rfl bt fun dg aw ax ay be bw az ch => ?_
   have bf := Gm.tq ag be (hv_new au hr54)
   have dh := hv_app (L := [bk bv, bk an, some aa]) (O := O) (i := 0) ag rfl (hv_new au hr54) bw az
   refine L_nil ⟨bf, ?_⟩
   refine M_pu 9 rfl (by kernel_rfl) bf (P_build (.agg #[vs f.Id, vi r.Kind, .slice an aq ar, .slice aw ax ay]) (fun _ => by kernel_rfl)) ?_
   refine M_any1 10 (by kernel_rfl) rfl ?_
   have ci := (av.bm (((br.k0 ap).k0 bc).k0 bd) 2 0 rfl rfl rfl be)
   refine L_stb aa 0 [vs ([] : Str), vi 0, .slice none 0 0, .slice none 0 0] [vs f.Id, vi r.Kind, .slice an aq ar, .slice aw ax ay] [vs f.Id, vi r.Kind, .slice an aq ar, .slice aw ax ay] rfl ci rfl sz28 rfl rfl rfl fun di a0 cj => ?_
   have ck := az.wr 2 rfl a0
   have cl := Gm.tq bf a0 (hv_mem 0 rfl)
   refine L_nil ⟨cl, ?_⟩
   refine M_nil (by kernel_rfl) ?_
   have cm := (az.sw (av.sm (cc.so _ bd hr54) 1 0 rfl rfl rfl be bw) 1 2 rfl rfl rfl a0)
   have cn := (az.sw ch 0 2 rfl rfl rfl a0)
   exact ⟨r, an, aq, ar, aw, ax, ay, (hasI rfl), ck, cm, cn, cj, H⟩
  refine L_lit (kd := kTag) ei26 af ([] : List Tag) (cells := []) rfl (fun _ => by kernel_rfl) fun bu bx co cp bz hr42 bg cq => ?_
  have b0 := Gm.tm ab bz
  refine L_nil ⟨b0, ?_⟩
  refine M_any1 4 (by kernel_rfl) rfl ?_
  refine L_call go31 [.agg #[vi f.Shape.Kind, .slice A2 n3 c4]] rfl ((F17.calls bu bg.ok f.Shape A2 n3 c4 (hp5.st bg.st) _ H).mono ?_)
  rintro _ dj ⟨r, ao, a1, a2, rfl, H, a3, cr, b1, cs⟩
  have a4 := bg.owns a3 cr b1
  have ag := Gm.tm b0 a3
  refine L_nil ⟨ag, ?_⟩
  refine M_any1 8 (by kernel_rfl) rfl ?_
  have ct := (cq.sos a3 b1)
  refine L_app ei26 a4 (.slice bx co cp) ([] : List Tag) f.Tags rfl ct (.slice A7 n8 c9) rfl (bn.st a4.st).sx 1 rfl bt fun dk a5 a6 a7 bh b2 a8 cu => ?_
  have bi := Gm.tq ag bh (hv_new ab hr42)
  have dl := hv_app (L := [bk ao, bk bx, some aa]) (O := O) (i := 1) ag rfl (hv_new ab hr42) b2 a8
  refine L_nil ⟨bi, ?_⟩
  refine M_pu 9 rfl (by kernel_rfl) bi (P_build (.agg #[vs f.Id, vi r.Kind, .slice ao a1 a2, .slice a5 a6 a7]) (fun _ => by kernel_rfl)) ?_
  refine M_any1 10 (by kernel_rfl) rfl ?_
  have cv := (a4.bm (((br.k0 ap).k0 bz).k0 a3) 2 1 rfl rfl rfl bh)
  refine L_stb aa 0 [vs ([] : Str), vi 0, .slice none 0 0, .slice none 0 0] [vs f.Id, vi r.Kind, .slice ao a1 a2, .slice a5 a6 a7] [vs f.Id, vi r.Kind, .slice ao a1 a2, .slice a5 a6 a7] rfl cv rfl sz28 rfl rfl rfl fun dm a9 cw => ?_
  have bj := a8.wr 2 rfl a9
  have cx := Gm.tq bi a9 (hv_mem 0 rfl)
  refine L_nil ⟨cx, ?_⟩
  refine M_nil (by kernel_rfl) ?_
  have cy := bj.perm (.swap _ _ _)
  have cz := (bj.sp (a8.sw (a4.sm cs 0 1 rfl rfl rfl bh b2) 0 2 rfl rfl rfl a9) (.swap _ _ _))
  have c0 := (bj.sp (a8.sw cu 1 2 rfl rfl rfl a9) (.swap _ _ _))
  have c1 := cw
  exact ⟨r, ao, a1, a2, a5, a6, a7, (hasI rfl), cy, cz, c0, c1, H⟩
 rintro dn ai ⟨r, ad, aj, ak, ae, al, am, c2, ba, c3, c5, c6, H⟩
 obtain ⟨dp, rfl⟩ := Has.ins c2
 refine W_ret ?_
 have c7 := ba.bgv c6 2 rfl
 have bb := ba.drop 2 rfl
 have bl := bb.perm (.swap _ _ _)
 have c8 := bb.stp (.swap _ _ _)
 have da := (c7.st c8)
 have db := (bb.sp (ba.sd c3 1 2 rfl rfl rfl) (.swap _ _ _))
 have dc := (bb.sp (ba.sd c5 0 2 rfl rfl rfl) (.swap _ _ _))
 exact ⟨[.agg #[vs f.Id, vi r.Kind, .slice ad aj ak, .slice ae al am]], ⟨_, _, rfl, da.1.res rfl ag28 sz28, rfl⟩, (⟨f.Id, r, (([] : List Tag) ++ f.Tags)⟩ : Feat), ad, aj, ak, ae, al, am, rfl, H, bl.gr.g0, bl.ok, bl.ge, hs1, db, dc⟩
end
end Go.Proofs.Ytpdmnmpcjljeaaa