/- It is proved here that the law FnExactDiffDo of the given program holds whatever it is handed: the walks through the code, the plain laws and the row, in this order.
   Conditions: none. -/
import Derived.Below
import Derived.ChangeArms
import Derived.ChangeOld
import Derived.ChangeSlices
import Derived.DataReads
import Derived.Deep.MidRow
import Derived.Deep.Quiet
import Derived.Deep.RegionLaw
import Derived.Deep.Upon
import Derived.KernelRfl
import Derived.Laws.Build
import Derived.Laws.IdiomStrings
import Derived.Laws.OwnMore
import Derived.Laws.Slices
import Derived.Laws.StructEq
import Derived.Lib.SliceRun
import Derived.OpenShut
import Derived.ProofKit
import Derived.Shelf.SlSortCmp.NoneTotal
import Derived.Shelf.SlSortCmp.WholeK
import Derived.Shelf.Slices.Cells
import Derived.Shelf.Slices.CompactS
import Derived.Shelf.Slices.In.SortNone
import Derived.Shelf.Small.Bits
import Derived.Shelf.Sort.Plain
import Derived.Shelf.Strconv.Itoa0
import Derived.ShutString
import Derived.SizedLaws
import Derived.StillTail
import Derived.Test.YtndjggncgpjolaaGreatProg
import Derived.Test.YtndjggncgpjolaaGreatRows
import Derived.WalkKit
import Derived.Test.YtndjggncgpjolaaGreatCExactDiffDoa
import Derived.Test.YtndjggncgpjolaaGreatCExactDiffDob
namespace Go.Proofs.YtndjggncgpjolaaGreat
set_option linter.unusedVariables false
set_option linter.unusedSimpArgs false
set_option linter.unusedSectionVars false
set_option maxHeartbeats 8000000
set_option maxRecDepth 100000
section
open Go.RowKit
def F90.E (d : List Change) (Q : Bool → Prop) : Prop :=
 (∃ (I19 : Int → Prop) (mu20 : Int → Nat), I19 0 ∧ ∀ (v2 : Int), I19 v2 → (if decide (v2 < (d.length : Int)) then ((0 : Int) ≤ v2 ∧ v2 < (d.length : Int)) ∧ (∃ q : Bool, F86.E ((nth d v2).Id) (fun x => x = q) ∧ (if !q then Q false else (if decide (v2 > 0) then (I64 (v2 - 1)) ∧ ((0 : Int) ≤ v2 - 1 ∧ v2 - 1 < (d.length : Int)) ∧ (if !(Op.bytesLess ((nth d (v2 - 1)).Id) ((nth d v2).Id)) then Q false else (∃ q2 : Bool, F89.E ((nth d v2).Id) ((nth d v2).Had) ((nth d v2).Was) (fun x => x = q2) ∧ (if !q2 then Q false else (∃ q3 : Bool, F89.E ((nth d v2).Id) ((nth d v2).Has) ((nth d v2).Now) (fun x => x = q3) ∧ (if !q3 then Q false else (∃ q4 : Bool, F12.E (nth d v2) (fun x => x = q4) ∧ (if q4 then Q false else (I64 (v2 + 1)) ∧ I19 (v2 + 1) ∧ mu20 (v2 + 1) < mu20 v2))))))) else (∃ q5 : Bool, F89.E ((nth d v2).Id) ((nth d v2).Had) ((nth d v2).Was) (fun x => x = q5) ∧ (if !q5 then Q false else (∃ q6 : Bool, F89.E ((nth d v2).Id) ((nth d v2).Has) ((nth d v2).Now) (fun x => x = q6) ∧ (if !q6 then Q false else (∃ q7 : Bool, F12.E (nth d v2) (fun x => x = q7) ∧ (if q7 then Q false else (I64 (v2 + 1)) ∧ I19 (v2 + 1) ∧ mu20 (v2 + 1) < mu20 v2))))))))) else Q (decide ((d.length : Int) ≤ 16))))
theorem F90.calls {O : Ob} (w0 : World) (hO : Ok w0 O) (d : List Change) (A1 : Option Addr) (n2 c3 : Nat) (hp4 : Sl kChange w0 (Fr O) (.slice A1 n2 c3) d) (Q : Bool → Prop) (h : F90.E d Q) :
  Ret Tryz.prog 32 [.slice A1 n2 c3] w0 (fun v w' => ∃ (r0 : Bool), v = vb r0 ∧ Q r0 ∧ Gr w0 w' none) := by
 unfold F90.E at h
 have H := h
 clear h
 have hc0 := Ct.init hO
 refine Ret_enter Tryz.func32 rfl 59 rfl [.tmp 2] rfl rfl ?_
 refine W_seq (W_reg (L_as (vb false) rfl (L_nil (W_seq (W_seq (W_reg (L_mv (.slice A1 n2 c3) rfl ?_)))))))
 have hl6 := hp4.le
 refine L_pu (P_len Tryz.underlying30 A1 n2 c3 hp4.len rfl) (L_mv (vi 0) rfl (L_nil (W_block ?_)))
 obtain ⟨b3, b4, a8, H⟩ := H
 refine W_loop (α := Int) (fun (sv__ : Int) t a9 => match sv__ with | v2 => b3 v2 ∧ Has t [(0, .slice A1 n2 c3), (5, .slice A1 n2 c3), (6, vi (d.length : Int)), (7, vi v2)] ∧ Ct [] w0 a9 [] O ∧ Sl kChange a9 (Fr ([] ++ O)) (.slice A1 n2 c3) d) (fun (sv__ : Int) => match sv__ with | v2 => b4 v2) 0 ⟨a8, (hasI rfl), hc0, hp4⟩ ?_
 rintro v2 _ a9 ⟨a8, b5, a4, az⟩
 obtain ⟨dm, rfl⟩ := Has.ins b5
 have H := H v2 a8
 refine W_seq (W_reg (L_pu (P_cmp v2 (d.length : Int) (decide (v2 < (d.length : Int))) rfl rfl rfl) (L_nil (W_seq ?_))))
 refine W_cond (decide (v2 < (d.length : Int))) rfl (fun ba => ?_) (fun ba => ?_)
 ·have H := ite_t H ba
  refine W_skip (W_seq (W_block (W_seq (W_reg (L_mv (vi v2) rfl ?_)))))
  obtain ⟨bl, H⟩ := H
  obtain ⟨bm, dn, b6, dp, b7, b8⟩ := az.get default (by decide) v2 bl
  obtain ⟨ah, ai, aj, ak, al, am, an, ao, ap, aq, ar, au, rfl, ay, a5, bn, bo, a6, bp, bq⟩ := kChange.op b7
  refine L_pu (P_ia Tryz.underlying30 se30 A1 bm n2 c3 az.len v2 rfl b6 rfl bl) (L_pu (P_lda ag63 sz63 cL (bm.add (v2.toNat * 11)) [vs ((nth d v2).Id), vb ((nth d v2).Had), vs ((nth d v2).Was.Id), vi ((nth d v2).Was.Shape.Kind), .slice ah ai aj, .slice ak al am, vb ((nth d v2).Has), vs ((nth d v2).Now.Id), vi ((nth d v2).Now.Shape.Kind), .slice an ao ap, .slice aq ar au] rfl rfl b8) (L_alloc [vs [], vb false, vs [], .int .i64 0, .slice none 0 0, .slice none 0 0, vb false, vs [], .int .i64 0, .slice none 0 0, .slice none 0 0] ze63 fun dq aa bb hu60 bc b9 => ?_))
  have bd := a4.own bc (some aa) (oglt bb hu60)
  refine L_as (vi v2) rfl (L_stb aa 0 [vs ([] : Str), vb false, vs ([] : Str), vi 0, .slice none 0 0, .slice none 0 0, vb false, vs ([] : Str), vi 0, .slice none 0 0, .slice none 0 0] [vs ((nth d v2).Id), vb ((nth d v2).Had), vs ((nth d v2).Was.Id), vi ((nth d v2).Was.Shape.Kind), .slice ah ai aj, .slice ak al am, vb ((nth d v2).Has), vs ((nth d v2).Now.Id), vi ((nth d v2).Now.Shape.Kind), .slice an ao ap, .slice aq ar au] [vs ((nth d v2).Id), vb ((nth d v2).Had), vs ((nth d v2).Was.Id), vi ((nth d v2).Was.Shape.Kind), .slice ah ai aj, .slice ak al am, vb ((nth d v2).Has), vs ((nth d v2).Now.Id), vi ((nth d v2).Now.Shape.Kind), .slice an ao ap, .slice aq ar au] rfl b9 rfl sz63 rfl rfl rfl fun ca be ag => ?_)
  have af := bd.wr 0 rfl be
  refine L_nil (W_seq (W_draw (fun x => Gr ca x none) (by kernel_rfl) (by kernel_rfl) (Gr.drew _) ?_))
  refine Q_pu (P_fa fa63_0 ⟨aa, 0, none⟩ ⟨aa, 0, none⟩ rfl rfl) (Q_pu (P_ld ag9 cQ ⟨aa, 0, none⟩ (vs ((nth d v2).Id)) rfl (ag.cell rfl)) ?_)
  obtain ⟨q, cb, H⟩ := H
  refine Q_call go65 [vs ((nth d v2).Id)] rfl (vb q) (fun w g => (F86.calls w (af.k0 g).ok ((nth d v2).Id) ay _ cb).mono ?_) ?_
  ·rintro _ w ⟨r, rfl, rfl, g2⟩
   exact ⟨rfl, Gr.t0 g g2⟩
  refine Q_pu (P_not q rfl) (Q_mv (vb (!q)) rfl ?_)
  rcases bool_or (!q) with av | av
  ·have H := ite_t H av
   refine Q_pb av rfl (Q_pb av rfl (Q_pb av rfl (Q_pn rfl (Q_pn rfl (Q_pn rfl (Q_pn rfl (Q_pn rfl (Q_pn rfl ?_))))))))
   refine Q_pn rfl (Q_pn rfl (Q_pn rfl (Q_pb av rfl (Q_pu (P_pick true (vb true) (by exact congrArg Value.bool av) rfl) (Q_mv (vb true) rfl (Q_pass (dj := 31) rfl rfl (.inl rfl) (Q_pass (dj := 31) rfl rfl (.inl rfl) (Q_pass (dj := 31) rfl rfl (.inl rfl) ?_))))))))
   refine Q_pass (dj := 31) rfl rfl (.inl rfl) (Q_pass (dj := 31) rfl rfl (.inl rfl) (Q_pass (dj := 31) rfl rfl (.inl rfl) (Q_pass (dj := 31) rfl rfl (.inl rfl) (Q_pass (dj := 31) rfl rfl (.inl rfl) (Q_pu (P_pick true (vb true) (by exact congrArg Value.bool rfl) rfl) (Q_mv (vb true) rfl (Q_pass (dj := 41) rfl rfl (.inl rfl) (Q_pass (dj := 41) rfl rfl (.inl rfl) ?_))))))))
   refine Q_pass (dj := 41) rfl rfl (.inl rfl) (Q_pass (dj := 41) rfl rfl (.inl rfl) (Q_pass (dj := 41) rfl rfl (.inl rfl) (Q_pass (dj := 41) rfl rfl (.inl rfl) (Q_pass (dj := 41) rfl rfl (.inl rfl) (Q_pass (dj := 41) rfl rfl (.inl rfl) (Q_pu (P_pick true (vb true) (by exact congrArg Value.bool rfl) rfl) (Q_mv (vb true) rfl (Q_pass (dj := 51) rfl rfl (.inl rfl) ?_))))))))
   refine Q_pass (dj := 51) rfl rfl (.inl rfl) (Q_pu (P_pick true (vb true) (by exact congrArg Value.bool rfl) rfl) (Q_nil fun dr cc => ?_))
   have cd := af.k0 cc
   refine W_ct (b := true) rfl rfl ?_
   refine W_seq (W_reg (L_as (vb false) rfl (L_nil (W_ret ?_))))
   have ce := cd.drop 0 rfl
   exact ⟨[vb false], ⟨_, rfl, rfl⟩, false, rfl, H, ce.gr.g0⟩
  have H := ite_f H av
  refine Q_rb av rfl (Q_mv (vi v2) rfl (Q_rb av rfl (Q_pu (P_cmp v2 0 (decide (v2 > 0)) rfl rfl rfl) (Q_rb av rfl (Q_mv (vb (decide (v2 > 0))) rfl ?_)))))
  rcases bool_or (decide (v2 > 0)) with ab | ab
  ·have H := ite_t H ab
   refine Q_rb ab rfl (Q_mv (.slice A1 n2 c3) rfl (Q_rb ab rfl (Q_mv (vi v2) rfl (Q_rb ab rfl ?_))))
   obtain ⟨cf, H⟩ := H
   refine Q_pu (P_sub v2 1 rfl rfl cf) (Q_rb ab rfl ?_)
   obtain ⟨br, H⟩ := H
   have a0 := a4.stown _ bc (oge bb)
   have a1 := bd.stw 0 rfl be
   have bf := ((az.st a0).st a1)
   obtain ⟨a7, ds, cg, dt, ch, ci⟩ := bf.get default (by decide) (v2 - 1) br
   obtain ⟨du, dv, dw, dx, dy, dz, d0, d1, d2, d3, d4, d5, rfl, d6, d7, d8, d9, ea, eb, ec⟩ := kChange.op ch
   refine Q_pu (P_ia Tryz.underlying30 se30 A1 a7 n2 c3 bf.len (v2 - 1) rfl cg rfl br) (Q_rb ab rfl (Q_pu (P_fa fa63_0 (a7.add ((v2 - 1).toNat * 11)) ((a7.add ((v2 - 1).toNat * 11)).add 0) rfl rfl) (Q_rb ab rfl (Q_pu (P_ld ag9 cQ ((a7.add ((v2 - 1).toNat * 11)).add 0) (vs ((nth d (v2 - 1)).Id)) rfl (ci 0 _ rfl)) (Q_rb ab rfl (Q_pu (P_fa fa63_0 ⟨aa, 0, none⟩ ⟨aa, 0, none⟩ rfl rfl) (Q_rb ab rfl (Q_pu (P_ld ag9 cQ ⟨aa, 0, none⟩ (vs ((nth d v2).Id)) rfl (ag.cell rfl)) ?_))))))))
   refine Q_rb ab rfl (Q_pu (P_scmp ((nth d (v2 - 1)).Id) ((nth d v2).Id) (!(Op.bytesLess ((nth d (v2 - 1)).Id) ((nth d v2).Id))) rfl rfl rfl) (Q_rb av rfl (Q_pu (P_pick true (vb (!(Op.bytesLess ((nth d (v2 - 1)).Id) ((nth d v2).Id)))) (by exact congrArg Value.bool ab) rfl) (Q_pu (P_pick false (vb (!(Op.bytesLess ((nth d (v2 - 1)).Id) ((nth d v2).Id)))) (by exact congrArg Value.bool av) rfl) (Q_mv (vb (!(Op.bytesLess ((nth d (v2 - 1)).Id) ((nth d v2).Id)))) rfl ?_)))))
   rcases bool_or (!(Op.bytesLess ((nth d (v2 - 1)).Id) ((nth d v2).Id))) with ac | ac
   ·have H := ite_t H ac
    refine Q_pb ac rfl (Q_pb ac rfl (Q_pb ac rfl (Q_pb ac rfl (Q_pb ac rfl (Q_pb ac rfl (Q_pb ac rfl (Q_pb ac rfl (Q_pu (P_pick true (vb true) (by exact congrArg Value.bool ac) rfl) ?_))))))))
    refine Q_mv (vb true) rfl (Q_pass (dj := 41) rfl rfl (.inl rfl) (Q_pass (dj := 41) rfl rfl (.inl rfl) (Q_pass (dj := 41) rfl rfl (.inl rfl) (Q_pass (dj := 41) rfl rfl (.inl rfl) (Q_pass (dj := 41) rfl rfl (.inl rfl) (Q_pass (dj := 41) rfl rfl (.inl rfl) (Q_pass (dj := 41) rfl rfl (.inl rfl) (Q_pass (dj := 41) rfl rfl (.inl rfl) ?_))))))))
    refine Q_pu (P_pick true (vb true) (by exact congrArg Value.bool rfl) rfl) (Q_mv (vb true) rfl (Q_pass (dj := 51) rfl rfl (.inl rfl) (Q_pass (dj := 51) rfl rfl (.inl rfl) (Q_pu (P_pick true (vb true) (by exact congrArg Value.bool rfl) rfl) (Q_nil fun ed cj => ?_)))))
    have ck := af.k0 cj
    refine W_ct (b := true) rfl rfl ?_
    refine W_seq (W_reg (L_as (vb false) rfl (L_nil (W_ret ?_))))
    have cl := ck.drop 0 rfl
    exact ⟨[vb false], ⟨_, rfl, rfl⟩, false, rfl, H, cl.gr.g0⟩
   have H := ite_f H ac
   refine Q_rb ac rfl (Q_pu (P_fa fa63_0 ⟨aa, 0, none⟩ ⟨aa, 0, none⟩ rfl rfl) (Q_rb ac rfl (Q_pu (P_ld ag9 cQ ⟨aa, 0, none⟩ (vs ((nth d v2).Id)) rfl (ag.cell rfl)) (Q_rb ac rfl (Q_pu (P_fa fa63_1 ⟨aa, 0, none⟩ ⟨aa, 1, none⟩ rfl rfl) (Q_rb ac rfl (Q_pu (P_ld ag4 cQ ⟨aa, 1, none⟩ (vb ((nth d v2).Had)) rfl (ag.cell rfl)) (Q_rb ac rfl ?_))))))))
   refine Q_pu (P_fa fa63_2 ⟨aa, 0, none⟩ ⟨aa, 2, none⟩ rfl rfl) (Q_rb ac rfl (Q_pu (P_lda ag61 sz61 cQ ⟨aa, 2, none⟩ [vs ((nth d v2).Was.Id), vi ((nth d v2).Was.Shape.Kind), .slice ah ai aj, .slice ak al am] rfl rfl (ag.cells (off := 2) rfl)) (Q_rb ac rfl ?_)))
   have bs := ((bn.st a0).st a1)
   have bt := ((bo.st a0).st a1)
   obtain ⟨q2, cm, H⟩ := H
   refine Q_call go66 [vs ((nth d v2).Id), vb ((nth d v2).Had), .agg #[vs ((nth d v2).Was.Id), vi ((nth d v2).Was.Shape.Kind), .slice ah ai aj, .slice ak al am]] rfl (vb q2) (fun w g => (F89.calls w (af.k0 g).ok ((nth d v2).Id) ay ((nth d v2).Had) ((nth d v2).Was) ah ai aj ak al am a5 (bs.st (.new _ g)) (bt.st (.new _ g)) _ cm).mono ?_) ?_
   ·rintro _ w ⟨r, rfl, rfl, g2⟩
    exact ⟨rfl, Gr.t0 g g2⟩
   refine Q_rb ac rfl (Q_pu (P_not q2 rfl) (Q_pu (P_pick false (vb (!q2)) (by exact congrArg Value.bool ac) rfl) (Q_mv (vb (!q2)) rfl ?_)))
   rcases bool_or (!q2) with ad | ad
   ·have H := ite_t H ad
    refine Q_pb ad rfl (Q_pb ad rfl (Q_pb ad rfl (Q_pb ad rfl (Q_pb ad rfl (Q_pb ad rfl (Q_pb ad rfl (Q_pb ad rfl (Q_pu (P_pick true (vb true) (by exact congrArg Value.bool ad) rfl) ?_))))))))
    refine Q_mv (vb true) rfl (Q_pass (dj := 51) rfl rfl (.inl rfl) (Q_pass (dj := 51) rfl rfl (.inl rfl) (Q_pu (P_pick true (vb true) (by exact congrArg Value.bool rfl) rfl) (Q_nil fun ee cn => ?_))))
    have co := af.k0 cn
    refine W_ct (b := true) rfl rfl ?_
    refine W_seq (W_reg (L_as (vb false) rfl (L_nil (W_ret ?_))))
    have cp := co.drop 0 rfl
    exact ⟨[vb false], ⟨_, rfl, rfl⟩, false, rfl, H, cp.gr.g0⟩
   have H := ite_f H ad
   refine Q_rb ad rfl (Q_pu (P_fa fa63_0 ⟨aa, 0, none⟩ ⟨aa, 0, none⟩ rfl rfl) (Q_rb ad rfl (Q_pu (P_ld ag9 cQ ⟨aa, 0, none⟩ (vs ((nth d v2).Id)) rfl (ag.cell rfl)) (Q_rb ad rfl (Q_pu (P_fa fa63_3 ⟨aa, 0, none⟩ ⟨aa, 6, none⟩ rfl rfl) (Q_rb ad rfl (Q_pu (P_ld ag4 cQ ⟨aa, 6, none⟩ (vb ((nth d v2).Has)) rfl (ag.cell rfl)) (Q_rb ad rfl ?_))))))))
   refine Q_pu (P_fa fa63_4 ⟨aa, 0, none⟩ ⟨aa, 7, none⟩ rfl rfl) (Q_rb ad rfl (Q_pu (P_lda ag61 sz61 cQ ⟨aa, 7, none⟩ [vs ((nth d v2).Now.Id), vi ((nth d v2).Now.Shape.Kind), .slice an ao ap, .slice aq ar au] rfl rfl (ag.cells (off := 7) rfl)) (Q_rb ad rfl ?_)))
   have bu := ((bp.st a0).st a1)
   have bv := ((bq.st a0).st a1)
   obtain ⟨q3, cq, H⟩ := H
   refine Q_call go66 [vs ((nth d v2).Id), vb ((nth d v2).Has), .agg #[vs ((nth d v2).Now.Id), vi ((nth d v2).Now.Shape.Kind), .slice an ao ap, .slice aq ar au]] rfl (vb q3) (fun w g => (F89.calls w (af.k0 g).ok ((nth d v2).Id) ay ((nth d v2).Has) ((nth d v2).Now) an ao ap aq ar au a6 (bu.st (.new _ g)) (bv.st (.new _ g)) _ cq).mono ?_) ?_
   ·rintro _ w ⟨r, rfl, rfl, g2⟩
    exact ⟨rfl, Gr.t0 g g2⟩
   refine Q_rb ad rfl (Q_pu (P_not q3 rfl) (Q_pu (P_pick false (vb (!q3)) (by exact congrArg Value.bool ad) rfl) (Q_mv (vb (!q3)) rfl ?_)))
   rcases bool_or (!q3) with aw | aw
   ·have H := ite_t H aw
    refine Q_pb aw rfl (Q_pb aw rfl (Q_pu (P_pick true (vb true) (by exact congrArg Value.bool aw) rfl) (Q_nil fun ef cr => ?_)))
    have cs := af.k0 cr
    refine W_ct (b := true) rfl rfl ?_
    refine W_seq (W_reg (L_as (vb false) rfl (L_nil (W_ret ?_))))
    have ct := cs.drop 0 rfl
    exact ⟨[vb false], ⟨_, rfl, rfl⟩, false, rfl, H, ct.gr.g0⟩
   have H := ite_f H aw
   refine Q_rb aw rfl (Q_pu (P_lda ag63 sz63 cQ ⟨aa, 0, none⟩ [vs ((nth d v2).Id), vb ((nth d v2).Had), vs ((nth d v2).Was.Id), vi ((nth d v2).Was.Shape.Kind), .slice ah ai aj, .slice ak al am, vb ((nth d v2).Has), vs ((nth d v2).Now.Id), vi ((nth d v2).Now.Shape.Kind), .slice an ao ap, .slice aq ar au] rfl rfl (ag.cells (off := 0) rfl)) (Q_rb aw rfl ?_))
   obtain ⟨q4, cu, H⟩ := H
   refine Q_call go67 [.agg #[vs ((nth d v2).Id), vb ((nth d v2).Had), vs ((nth d v2).Was.Id), vi ((nth d v2).Was.Shape.Kind), .slice ah ai aj, .slice ak al am, vb ((nth d v2).Has), vs ((nth d v2).Now.Id), vi ((nth d v2).Now.Shape.Kind), .slice an ao ap, .slice aq ar au]] rfl (vb q4) (fun w g => (F12.calls w (af.k0 g).ok (nth d v2) ah ai aj ak al am an ao ap aq ar au ay a5 (bs.st (.new _ g)) (bt.st (.new _ g)) a6 (bu.st (.new _ g)) (bv.st (.new _ g)) _ cu).mono ?_) ?_
   ·rintro _ w ⟨r, rfl, rfl, g2⟩
    exact ⟨rfl, Gr.t0 g g2⟩
   refine Q_pu (P_pick false (vb q4) (by exact congrArg Value.bool aw) rfl) (Q_nil fun eg bw => ?_)
   have bg := af.k0 bw
   refine W_cond q4 rfl (fun bh => ?_) (fun bh => ?_)
   ·have H := ite_t H bh
    refine W_seq (W_reg (L_as (vb false) rfl (L_nil (W_ret ?_))))
    have cv := bg.drop 0 rfl
    exact ⟨[vb false], ⟨_, rfl, rfl⟩, false, rfl, H, cv.gr.g0⟩
   have H := ite_f H bh
   refine W_skip (W_reg ?_)
   obtain ⟨cw, H⟩ := H
   refine L_pu (P_add v2 1 rfl rfl cw) (L_mv (vi (v2 + 1)) rfl (L_nil ?_))
   have cx := bg.drop 0 rfl
   obtain ⟨cy, cz⟩ := H
   have c0 := af.stn bw
   have c1 := bg.std 0 rfl
   have c2 := ((bf.st c0).st c1)
   exact ⟨v2 + 1, cz, cy, (hasI rfl), cx, c2⟩
  have H := ite_f H ab
  refine Q_pb ab rfl (Q_pb ab rfl (Q_pb ab rfl (Q_pb ab rfl (Q_pb ab rfl (Q_pb ab rfl (Q_pb ab rfl (Q_pb ab rfl (Q_pb ab rfl ?_))))))))
  refine Q_rb av rfl (Q_pu (P_pick false (vb false) (by exact congrArg Value.bool ab) rfl) (Q_pu (P_pick false (vb false) (by exact congrArg Value.bool av) rfl) (Q_mv (vb false) rfl (Q_run (dj := 31) rfl rfl rfl (Q_pu (P_fa fa63_0 ⟨aa, 0, none⟩ ⟨aa, 0, none⟩ rfl rfl) (Q_run (dj := 31) rfl rfl rfl (Q_pu (P_ld ag9 cQ ⟨aa, 0, none⟩ (vs ((nth d v2).Id)) rfl (ag.cell rfl)) (Q_run (dj := 31) rfl rfl rfl ?_))))))))
  refine Q_pu (P_fa fa63_1 ⟨aa, 0, none⟩ ⟨aa, 1, none⟩ rfl rfl) (Q_run (dj := 31) rfl rfl rfl (Q_pu (P_ld ag4 cQ ⟨aa, 1, none⟩ (vb ((nth d v2).Had)) rfl (ag.cell rfl)) (Q_run (dj := 31) rfl rfl rfl (Q_pu (P_fa fa63_2 ⟨aa, 0, none⟩ ⟨aa, 2, none⟩ rfl rfl) (Q_run (dj := 31) rfl rfl rfl (Q_pu (P_lda ag61 sz61 cQ ⟨aa, 2, none⟩ [vs ((nth d v2).Was.Id), vi ((nth d v2).Was.Shape.Kind), .slice ah ai aj, .slice ak al am] rfl rfl (ag.cells (off := 2) rfl)) (Q_run (dj := 31) rfl rfl rfl ?_)))))))
  have a2 := a4.stown _ bc (oge bb)
  have a3 := bd.stw 0 rfl be
  have bx := ((bn.st a2).st a3)
  have bz := ((bo.st a2).st a3)
  obtain ⟨q5, c4, H⟩ := H
  refine Q_call go66 [vs ((nth d v2).Id), vb ((nth d v2).Had), .agg #[vs ((nth d v2).Was.Id), vi ((nth d v2).Was.Shape.Kind), .slice ah ai aj, .slice ak al am]] rfl (vb q5) (fun w g => (F89.calls w (af.k0 g).ok ((nth d v2).Id) ay ((nth d v2).Had) ((nth d v2).Was) ah ai aj ak al am a5 (bx.st (.new _ g)) (bz.st (.new _ g)) _ c4).mono ?_) ?_
  ·rintro _ w ⟨r, rfl, rfl, g2⟩
   exact ⟨rfl, Gr.t0 g g2⟩
  refine Q_run (dj := 31) rfl rfl rfl (Q_pu (P_not q5 rfl) (Q_pu (P_pick false (vb (!q5)) (by exact congrArg Value.bool rfl) rfl) (Q_mv (vb (!q5)) rfl ?_)))
  rcases bool_or (!q5) with ae | ae
  ·have H := ite_t H ae
   refine Q_pb ae rfl (Q_pb ae rfl (Q_pb ae rfl (Q_pb ae rfl (Q_pb ae rfl (Q_pb ae rfl (Q_pb ae rfl (Q_pb ae rfl (Q_pu (P_pick true (vb true) (by exact congrArg Value.bool ae) rfl) ?_))))))))
   refine Q_mv (vb true) rfl (Q_pass (dj := 51) rfl rfl (.inl rfl) (Q_pass (dj := 51) rfl rfl (.inl rfl) (Q_pu (P_pick true (vb true) (by exact congrArg Value.bool rfl) rfl) (Q_nil fun eh c5 => ?_))))
   have c6 := af.k0 c5
   refine W_ct (b := true) rfl rfl ?_
   refine W_seq (W_reg (L_as (vb false) rfl (L_nil (W_ret ?_))))
   have c7 := c6.drop 0 rfl
   exact ⟨[vb false], ⟨_, rfl, rfl⟩, false, rfl, H, c7.gr.g0⟩
  have H := ite_f H ae
  refine Q_rb ae rfl (Q_pu (P_fa fa63_0 ⟨aa, 0, none⟩ ⟨aa, 0, none⟩ rfl rfl) (Q_rb ae rfl (Q_pu (P_ld ag9 cQ ⟨aa, 0, none⟩ (vs ((nth d v2).Id)) rfl (ag.cell rfl)) (Q_rb ae rfl (Q_pu (P_fa fa63_3 ⟨aa, 0, none⟩ ⟨aa, 6, none⟩ rfl rfl) (Q_rb ae rfl (Q_pu (P_ld ag4 cQ ⟨aa, 6, none⟩ (vb ((nth d v2).Has)) rfl (ag.cell rfl)) (Q_rb ae rfl ?_))))))))
  refine Q_pu (P_fa fa63_4 ⟨aa, 0, none⟩ ⟨aa, 7, none⟩ rfl rfl) (Q_rb ae rfl (Q_pu (P_lda ag61 sz61 cQ ⟨aa, 7, none⟩ [vs ((nth d v2).Now.Id), vi ((nth d v2).Now.Shape.Kind), .slice an ao ap, .slice aq ar au] rfl rfl (ag.cells (off := 7) rfl)) (Q_rb ae rfl ?_)))
  have b0 := ((bp.st a2).st a3)
  have b1 := ((bq.st a2).st a3)
  obtain ⟨q6, c8, H⟩ := H
  refine Q_call go66 [vs ((nth d v2).Id), vb ((nth d v2).Has), .agg #[vs ((nth d v2).Now.Id), vi ((nth d v2).Now.Shape.Kind), .slice an ao ap, .slice aq ar au]] rfl (vb q6) (fun w g => (F89.calls w (af.k0 g).ok ((nth d v2).Id) ay ((nth d v2).Has) ((nth d v2).Now) an ao ap aq ar au a6 (b0.st (.new _ g)) (b1.st (.new _ g)) _ c8).mono ?_) ?_
  ·rintro _ w ⟨r, rfl, rfl, g2⟩
   exact ⟨rfl, Gr.t0 g g2⟩
  refine Q_rb ae rfl (Q_pu (P_not q6 rfl) (Q_pu (P_pick false (vb (!q6)) (by exact congrArg Value.bool ae) rfl) (Q_mv (vb (!q6)) rfl ?_)))
  rcases bool_or (!q6) with ax | ax
  ·have H := ite_t H ax
   refine Q_pb ax rfl (Q_pb ax rfl (Q_pu (P_pick true (vb true) (by exact congrArg Value.bool ax) rfl) (Q_nil fun ei c9 => ?_)))
   have da := af.k0 c9
   refine W_ct (b := true) rfl rfl ?_
   refine W_seq (W_reg (L_as (vb false) rfl (L_nil (W_ret ?_))))
   have db := da.drop 0 rfl
   exact ⟨[vb false], ⟨_, rfl, rfl⟩, false, rfl, H, db.gr.g0⟩
  have H := ite_f H ax
  refine Q_rb ax rfl (Q_pu (P_lda ag63 sz63 cQ ⟨aa, 0, none⟩ [vs ((nth d v2).Id), vb ((nth d v2).Had), vs ((nth d v2).Was.Id), vi ((nth d v2).Was.Shape.Kind), .slice ah ai aj, .slice ak al am, vb ((nth d v2).Has), vs ((nth d v2).Now.Id), vi ((nth d v2).Now.Shape.Kind), .slice an ao ap, .slice aq ar au] rfl rfl (ag.cells (off := 0) rfl)) (Q_rb ax rfl ?_))
  obtain ⟨q7, dc, H⟩ := H
  refine Q_call go67 [.agg #[vs ((nth d v2).Id), vb ((nth d v2).Had), vs ((nth d v2).Was.Id), vi ((nth d v2).Was.Shape.Kind), .slice ah ai aj, .slice ak al am, vb ((nth d v2).Has), vs ((nth d v2).Now.Id), vi ((nth d v2).Now.Shape.Kind), .slice an ao ap, .slice aq ar au]] rfl (vb q7) (fun w g => (F12.calls w (af.k0 g).ok (nth d v2) ah ai aj ak al am an ao ap aq ar au ay a5 (bx.st (.new _ g)) (bz.st (.new _ g)) a6 (b0.st (.new _ g)) (b1.st (.new _ g)) _ dc).mono ?_) ?_
  ·rintro _ w ⟨r, rfl, rfl, g2⟩
   exact ⟨rfl, Gr.t0 g g2⟩
  refine Q_pu (P_pick false (vb q7) (by exact congrArg Value.bool ax) rfl) (Q_nil fun ej b2 => ?_)
  have bi := af.k0 b2
  refine W_cond q7 rfl (fun bj => ?_) (fun bj => ?_)
  ·have H := ite_t H bj
   refine W_seq (W_reg (L_as (vb false) rfl (L_nil (W_ret ?_))))
   have dd := bi.drop 0 rfl
   exact ⟨[vb false], ⟨_, rfl, rfl⟩, false, rfl, H, dd.gr.g0⟩
  have H := ite_f H bj
  refine W_skip (W_reg ?_)
  obtain ⟨de, H⟩ := H
  refine L_pu (P_add v2 1 rfl rfl de) (L_mv (vi (v2 + 1)) rfl (L_nil ?_))
  have df := bi.drop 0 rfl
  obtain ⟨dg, dh⟩ := H
  have di := af.stn b2
  have dk := bi.std 0 rfl
  have dl := ((((az.st a2).st a3).st di).st dk)
  exact ⟨v2 + 1, dh, dg, (hasI rfl), df, dl⟩
 have H := ite_f H ba
 refine W_exit (xin_hit ?_)
 refine W_seq (W_reg (L_mv (.slice A1 n2 c3) rfl ?_))
 have ek := az.le
 exact L_pu (P_len Tryz.underlying30 A1 n2 c3 az.len rfl) (L_pu (P_cmp (d.length : Int) 16 (decide ((d.length : Int) ≤ 16)) rfl rfl rfl) (L_as (vb (decide ((d.length : Int) ≤ 16))) rfl (L_nil (W_ret ⟨[vb (decide ((d.length : Int) ≤ 16))], ⟨_, rfl, rfl⟩, decide ((d.length : Int) ≤ 16), rfl, H, a4.gr.g0⟩))))
end
section
open Go.RowKit
def F15.E (s : Shape) (Q : Shape → Prop) : Prop :=
 (([] : List Pt).length + s.Pts.length ≤ 268435456) ∧ Q (⟨s.Kind, (([] : List Pt) ++ s.Pts)⟩ : Shape)
theorem F15.calls {O : Ob} (w0 : World) (hO : Ok w0 O) (s : Shape) (A1 : Option Addr) (n2 c3 : Nat) (hp4 : Sl kPt w0 (Fr O) (.slice A1 n2 c3) s.Pts) (Q : Shape → Prop) (h : F15.E s Q) :
  Ret Tryz.prog 72 [.agg #[vi s.Kind, .slice A1 n2 c3]] w0 (fun v w' => ∃ (r0 : Shape) (A0 : Option Addr) (n0 c0 : Nat), v = .agg #[vi r0.Kind, .slice A0 n0 c0] ∧ Q r0 ∧ Gr w0 w' none ∧ Ok w' ([bk A0] ++ O) ∧ (∀ b, some b ∈ [bk A0] → w0.heap.size ≤ b) ∧ Ow kPt 114 w' ([bk A0] ++ O) (.slice A0 n0 c0) r0.Pts) := by
 unfold F15.E at h
 have H := h
 clear h
 have hc0 := Ct.init hO
 refine Ret_enter Tryz.func72 rfl 10 rfl [.cell 2 58] rfl rfl ?_
 refine W_seq (W_reg (L_box [vi s.Kind, .slice A1 n2 c3] rfl fun w6 b7 hl9 hu10 g8 ay => ?_))
 have az := Fb.mk hc0.ok hl9 ay
 have ap := hc0.k0 g8
 refine L_alloc [.int .i64 0, .slice none 0 0] ze58 fun be ae aq hu19 ar a0 => ?_
 have au := ap.own ar (some ae) (oglt aq hu19)
 refine L_nil (W_seq (W_mixr 8 [some ae] (by kernel_rfl) rfl fun bf ag aa => ?_))
 have ah := au.k0 ag
 refine M_pu 0 rfl (by kernel_rfl) aa (P_fa fa58_0 ⟨b7, 0, none⟩ ⟨b7, 0, none⟩ rfl rfl) ?_
 have a1 := ap.stown _ ar (oge aq)
 have a2 := au.stn ag
 have af := ((az.st a1).st a2)
 refine M_pu 1 rfl (by kernel_rfl) aa (P_ldr ag3 cR ⟨b7, 0, none⟩ (vi s.Kind) rfl (af.cell rfl) (nm_cons (ah.fne 0 af.2 rfl) nm_nil)) ?_
 refine M_pu 3 rfl (by kernel_rfl) aa (P_fa fa58_1 ⟨b7, 0, none⟩ ⟨b7, 1, none⟩ rfl rfl) ?_
 refine M_pu 4 rfl (by kernel_rfl) aa (P_ldr ag56 cR ⟨b7, 1, none⟩ (.slice A1 n2 c3) rfl (af.cell rfl) (nm_cons (ah.fne 0 af.2 rfl) nm_nil)) ?_
 refine M_any1 2 (by kernel_rfl) rfl ?_
 refine L_lit (kd := kPt) ei56 ah ([] : List Pt) (cells := []) rfl (fun _ => by kernel_rfl) fun bg av a3 a4 aw hr35 ai a5 => ?_
 have aj := Gm.tm aa aw
 refine L_nil ⟨aj, ?_⟩
 refine M_any1 5 (by kernel_rfl) rfl ?_
 obtain ⟨a6, H⟩ := H
 refine L_app ei56 ai (.slice av a3 a4) ([] : List Pt) s.Pts rfl a5 (.slice A1 n2 c3) rfl (hp4.st ai.st).sx 0 rfl a6 fun bh ab ac ad ax a7 ak a8 => ?_
 have al := Gm.tq aj ax (hv_new aa hr35)
 have bi := hv_app (L := [bk av, some ae]) (O := O) (i := 0) aj rfl (hv_new aa hr35) a7 ak
 refine L_nil ⟨al, ?_⟩
 refine M_pu 6 rfl (by kernel_rfl) al (P_build (.agg #[vi s.Kind, .slice ab ac ad]) (fun _ => by kernel_rfl)) ?_
 refine M_any1 7 (by kernel_rfl) rfl ?_
 have a9 := (ai.bm ((a0.k0 ag).k0 aw) 1 0 rfl rfl rfl ax)
 refine L_stb ae 0 [vi 0, .slice none 0 0] [vi s.Kind, .slice ab ac ad] [vi s.Kind, .slice ab ac ad] rfl a9 rfl sz58 rfl rfl rfl fun bj am ba => ?_
 have an := ak.wr 1 rfl am
 have bb := Gm.tq al am (hv_mem 0 rfl)
 refine L_nil ⟨bb, ?_⟩
 refine M_nil (by kernel_rfl) ?_
 refine W_ret ?_
 have bc := an.bgv ba 1 rfl
 have ao := an.drop 1 rfl
 have bd := (an.sd (ak.sw a8 0 1 rfl rfl rfl am) 0 1 rfl rfl rfl)
 exact ⟨[.agg #[vi s.Kind, .slice ab ac ad]], ⟨_, _, rfl, bc.1.res rfl ag58 sz58, rfl⟩, (⟨s.Kind, (([] : List Pt) ++ s.Pts)⟩ : Shape), ab, ac, ad, rfl, H, ao.gr.g0, ao.ok, ao.ge, bd⟩
end
section
open Go.RowKit
def F26.E (f : Feat) (Q : Feat → Prop) : Prop :=
 (([] : List Tag).length + f.Tags.length ≤ 268435456) ∧ F15.E f.Shape (fun r => Q (⟨f.Id, r, (([] : List Tag) ++ f.Tags)⟩ : Feat))
theorem F26.calls {O : Ob} (w0 : World) (hO : Ok w0 O) (f : Feat) (A2 : Option Addr) (n3 c4 : Nat) (A7 : Option Addr) (n8 c9 : Nat) (hs1 : Lim f.Id) (hp5 : Sl kPt w0 (Fr O) (.slice A2 n3 c4) f.Shape.Pts) (bn : Sl kTag w0 (Fr O) (.slice A7 n8 c9) f.Tags) (Q : Feat → Prop) (h : F26.E f Q) :
  Ret Tryz.prog 38 [.agg #[vs f.Id, vi f.Shape.Kind, .slice A2 n3 c4, .slice A7 n8 c9]] w0 (fun v w' => ∃ (r0 : Feat) (A0 : Option Addr) (n0 c0 : Nat) (A2 : Option Addr) (n2 c2 : Nat), v = .agg #[vs r0.Id, vi r0.Shape.Kind, .slice A0 n0 c0, .slice A2 n2 c2] ∧ Q r0 ∧ Gr w0 w' none ∧ Ok w' ([bk A0, bk A2] ++ O) ∧ (∀ b, some b ∈ [bk A0, bk A2] → w0.heap.size ≤ b) ∧ Lim r0.Id ∧ Ow kPt 114 w' ([bk A0, bk A2] ++ O) (.slice A0 n0 c0) r0.Shape.Pts ∧ Ow kTag 106 w' ([bk A0, bk A2] ++ O) (.slice A2 n2 c2) r0.Tags) := by
 unfold F26.E at h
 have H := h
 clear h
 have hc0 := Ct.init hO
 refine Ret_enter Tryz.func38 rfl 13 rfl [.cell 2 61] rfl rfl ?_
 refine W_seq (W_reg (L_box [vs f.Id, vi f.Shape.Kind, .slice A2 n3 c4, .slice A7 n8 c9] rfl fun df ac b3 hu16 b4 b5 => ?_))
 have b6 := Fb.mk hc0.ok b3 b5
 have bo := hc0.k0 b4
 refine L_alloc [vs [], .int .i64 0, .slice none 0 0, .slice none 0 0] ze61 fun dg aa bp hu25 bq br => ?_
 have bs := bo.own bq (some aa) (oglt bp hu25)
 refine L_nil (W_seq ?_)
 obtain ⟨bt, H⟩ := H
 refine W_join (J := (fun t ai => ∃ (r : Shape) (ad : Option Addr) (aj : Nat) (ak : Nat) (ae : Option Addr) (al : Nat) (am : Nat), Has t [(2, .pointer (some ⟨aa, 0, none⟩))] ∧ Ct [] w0 ai [bk ae, bk ad, some aa] O ∧ Ow kPt 114 ai ([bk ae, bk ad, some aa] ++ O) (.slice ad aj ak) r.Pts ∧ Ow kTag 106 ai ([bk ae, bk ad, some aa] ++ O) (.slice ae al am) (([] : List Tag) ++ f.Tags) ∧ Bx ai aa [vs f.Id, vi r.Kind, .slice ad aj ak, .slice ae al am] ∧ Q (⟨f.Id, r, (([] : List Tag) ++ f.Tags)⟩ : Feat))) ?_ ?_
 ·refine W_mixr 11 [some aa] (by kernel_rfl) rfl fun b7 ap ab => ?_
  have af := bs.k0 ap
  refine M_pu 0 rfl (by kernel_rfl) ab (P_fa fa61_0 ⟨ac, 0, none⟩ ⟨ac, 0, none⟩ rfl rfl) ?_
  have b8 := bo.stown _ bq (oge bp)
  have b9 := bs.stn ap
  have ah := ((b6.st b8).st b9)
  refine M_pu 1 rfl (by kernel_rfl) ab (P_ldr ag9 cR ⟨ac, 0, none⟩ (vs f.Id) rfl (ah.cell rfl) (nm_cons (af.fne 0 ah.2 rfl) nm_nil)) ?_
  refine M_pu 2 rfl (by kernel_rfl) ab (P_fa fa61_1 ⟨ac, 0, none⟩ ⟨ac, 1, none⟩ rfl rfl) ?_
  refine M_pu 3 rfl (by kernel_rfl) ab (P_ldar ag58 sz58 cR ⟨ac, 1, none⟩ [vi f.Shape.Kind, .slice A2 n3 c4] rfl rfl (ah.cells (off := 1) rfl) (nm_cons (af.fne 0 ah.2 rfl) nm_nil)) ?_
  refine M_pu 6 rfl (by kernel_rfl) ab (P_fa fa61_2 ⟨ac, 0, none⟩ ⟨ac, 3, none⟩ rfl rfl) ?_
  refine M_pu 7 rfl (by kernel_rfl) ab (P_ldr ag59 cR ⟨ac, 3, none⟩ (.slice A7 n8 c9) rfl (ah.cell rfl) (nm_cons (af.fne 0 ah.2 rfl) nm_nil)) ?_
  refine M_any2 4 5 (by kernel_rfl) rfl rfl ?_ ?_
  ·refine L_call go72 [.agg #[vi f.Shape.Kind, .slice A2 n3 c4]] rfl ((F15.calls b7 af.ok f.Shape A2 n3 c4 (hp5.st af.st) _ H).mono ?_)
   rintro _ bu ⟨r, an, aq, ar, rfl, H, bc, ca, cb, cc⟩
   have cd := af.owns bc ca cb
   have au := Gm.tm ab bc
   refine L_nil ⟨au, ?_⟩
   refine M_any1 5 (by kernel_rfl) rfl ?_
   refine L_lit (kd := kTag) ei59 cd ([] : List Tag) (cells := []) rfl (fun _ => by kernel_rfl) fun dh bv ce cf bd hr54 av cg => ?_
   have ag := Gm.tm au bd
   refine L_nil ⟨ag, ?_⟩
   refine M_any1 8 (by kernel_rfl) rfl ?_
   refine L_app ei59 av (.slice bv ce cf) ([] : List Tag) f.Tags rfl cg (.slice A7 n8 c9) rfl (bn.st av.st).sx 0 rfl bt fun di aw ax ay be bw az ch => ?_
   have bf := Gm.tq ag be (hv_new au hr54)
   have dj := hv_app (L := [bk bv, bk an, some aa]) (O := O) (i := 0) ag rfl (hv_new au hr54) bw az
   refine L_nil ⟨bf, ?_⟩
   refine M_pu 9 rfl (by kernel_rfl) bf (P_build (.agg #[vs f.Id, vi r.Kind, .slice an aq ar, .slice aw ax ay]) (fun _ => by kernel_rfl)) ?_
   refine M_any1 10 (by kernel_rfl) rfl ?_
   have ci := (av.bm (((br.k0 ap).k0 bc).k0 bd) 2 0 rfl rfl rfl be)
   refine L_stb aa 0 [vs ([] : Str), vi 0, .slice none 0 0, .slice none 0 0] [vs f.Id, vi r.Kind, .slice an aq ar, .slice aw ax ay] [vs f.Id, vi r.Kind, .slice an aq ar, .slice aw ax ay] rfl ci rfl sz61 rfl rfl rfl fun dk a0 cj => ?_
   have ck := az.wr 2 rfl a0
   have cl := Gm.tq bf a0 (hv_mem 0 rfl)
   refine L_nil ⟨cl, ?_⟩
   refine M_nil (by kernel_rfl) ?_
   have cm := (az.sw (av.sm (cc.so _ bd hr54) 1 0 rfl rfl rfl be bw) 1 2 rfl rfl rfl a0)
   have cn := (az.sw ch 0 2 rfl rfl rfl a0)
   exact ⟨r, an, aq, ar, aw, ax, ay, (hasI rfl), ck, cm, cn, cj, H⟩
  refine L_lit (kd := kTag) ei59 af ([] : List Tag) (cells := []) rfl (fun _ => by kernel_rfl) fun bu bx co cp bz hr42 bg cq => ?_
  have b0 := Gm.tm ab bz
  refine L_nil ⟨b0, ?_⟩
  refine M_any1 4 (by kernel_rfl) rfl ?_
  refine L_call go72 [.agg #[vi f.Shape.Kind, .slice A2 n3 c4]] rfl ((F15.calls bu bg.ok f.Shape A2 n3 c4 (hp5.st bg.st) _ H).mono ?_)
  rintro _ dl ⟨r, ao, a1, a2, rfl, H, a3, cr, b1, cs⟩
  have a4 := bg.owns a3 cr b1
  have ag := Gm.tm b0 a3
  refine L_nil ⟨ag, ?_⟩
  refine M_any1 8 (by kernel_rfl) rfl ?_
  have ct := (cq.sos a3 b1)
  refine L_app ei59 a4 (.slice bx co cp) ([] : List Tag) f.Tags rfl ct (.slice A7 n8 c9) rfl (bn.st a4.st).sx 1 rfl bt fun dm a5 a6 a7 bh b2 a8 cu => ?_
  have bi := Gm.tq ag bh (hv_new ab hr42)
  have dn := hv_app (L := [bk ao, bk bx, some aa]) (O := O) (i := 1) ag rfl (hv_new ab hr42) b2 a8
  refine L_nil ⟨bi, ?_⟩
  refine M_pu 9 rfl (by kernel_rfl) bi (P_build (.agg #[vs f.Id, vi r.Kind, .slice ao a1 a2, .slice a5 a6 a7]) (fun _ => by kernel_rfl)) ?_
  refine M_any1 10 (by kernel_rfl) rfl ?_
  have cv := (a4.bm (((br.k0 ap).k0 bz).k0 a3) 2 1 rfl rfl rfl bh)
  refine L_stb aa 0 [vs ([] : Str), vi 0, .slice none 0 0, .slice none 0 0] [vs f.Id, vi r.Kind, .slice ao a1 a2, .slice a5 a6 a7] [vs f.Id, vi r.Kind, .slice ao a1 a2, .slice a5 a6 a7] rfl cv rfl sz61 rfl rfl rfl fun dp a9 cw => ?_
  have bj := a8.wr 2 rfl a9
  have cx := Gm.tq bi a9 (hv_mem 0 rfl)
  refine L_nil ⟨cx, ?_⟩
  refine M_nil (by kernel_rfl) ?_
  have cy := bj.perm (.swap _ _ _)
  have cz := (bj.sp (a8.sw (a4.sm cs 0 1 rfl rfl rfl bh b2) 0 2 rfl rfl rfl a9) (.swap _ _ _))
  have c1 := (bj.sp (a8.sw cu 1 2 rfl rfl rfl a9) (.swap _ _ _))
  have c3 := cw
  exact ⟨r, ao, a1, a2, a5, a6, a7, (hasI rfl), cy, cz, c1, c3, H⟩
 rintro dq ai ⟨r, ad, aj, ak, ae, al, am, c5, ba, c6, c7, c8, H⟩
 obtain ⟨dr, rfl⟩ := Has.ins c5
 refine W_ret ?_
 have da := ba.bgv c8 2 rfl
 have bb := ba.drop 2 rfl
 have bl := bb.perm (.swap _ _ _)
 have db := bb.stp (.swap _ _ _)
 have dc := (da.st db)
 have dd := (bb.sp (ba.sd c6 1 2 rfl rfl rfl) (.swap _ _ _))
 have de := (bb.sp (ba.sd c7 0 2 rfl rfl rfl) (.swap _ _ _))
 exact ⟨[.agg #[vs f.Id, vi r.Kind, .slice ad aj ak, .slice ae al am]], ⟨_, _, rfl, dc.1.res rfl ag61 sz61, rfl⟩, (⟨f.Id, r, (([] : List Tag) ++ f.Tags)⟩ : Feat), ad, aj, ak, ae, al, am, rfl, H, bl.gr.g0, bl.ok, bl.ge, hs1, dd, de⟩
end
section
open Go.RowKit
def F16.E (s : List Feat) (Q : List Feat → Prop) : Prop :=
 (∃ (I50 : (List Feat) → Int → Prop) (mu51 : (List Feat) → Int → Nat), I50 ([] : List Feat) 0 ∧ ∀ (xs2 : List Feat) (v2 : Int), I50 xs2 v2 → (if decide (v2 < (s.length : Int)) then ((0 : Int) ≤ v2 ∧ v2 < (s.length : Int)) ∧ F26.E (nth s v2) (fun r => (xs2.length + ([r] : List Feat).length ≤ 268435456) ∧ (I64 (v2 + 1)) ∧ I50 (xs2 ++ ([r] : List Feat)) (v2 + 1) ∧ mu51 (xs2 ++ ([r] : List Feat)) (v2 + 1) < mu51 xs2 v2) else Q xs2))
theorem F16.calls {O : Ob} (w0 : World) (hO : Ok w0 O) (s : List Feat) (A1 : Option Addr) (n2 c3 : Nat) (hp4 : Sl kFeat w0 (Fr O) (.slice A1 n2 c3) s) (Q : List Feat → Prop) (h : F16.E s Q) :
  Ret Tryz.prog 33 [.slice A1 n2 c3] w0 (fun v w' => ∃ (r0 : List Feat) (A0 : Option Addr) (n0 c0 : Nat) (q0 : Ob) (ra0 : List (List Value)), v = .slice A0 n0 c0 ∧ Q r0 ∧ Gr w0 w' none ∧ Ok w' ((bk A0 :: (q0 ++ [])) ++ O) ∧ (∀ b, some b ∈ (bk A0 :: (q0 ++ [])) → w0.heap.size ≤ b) ∧ Ow (Kd.cells 4) 61 w' ((bk A0 :: (q0 ++ [])) ++ O) (.slice A0 n0 c0) ra0 ∧ DArr dFeat_61 w' q0 r0 ra0) := by
 unfold F16.E at h
 have H := h
 clear h
 have hc0 := Ct.init hO
 refine Ret_enter Tryz.func33 rfl 20 rfl [.tmp 2] rfl rfl ?_
 refine W_seq (W_reg (L_as (.slice none 0 0) rfl (L_nil (W_seq (W_reg ?_)))))
 have b0 : DArr dFeat_61 w0 ([] : Ob) ([] : List Feat) ([] : List (List Value)) := rfl
 refine L_lit (kd := Kd.cells 4) ei26 hc0 ([] : List (List Value)) (cells := []) rfl (fun _ => by kernel_rfl) fun w6 A7 n8 c9 b1 hr11 bj b2 => ?_
 have bl : ([bk A7] : Ob).Perm (bk A7 :: (([] : Ob) ++ [])) := (pc fun a => by (try simp only [pca, pcc, pcn, Nat.add_zero, Nat.zero_add]); first | done | ac_rfl)
 have ay := bj.perm bl
 refine L_as (.slice A7 n8 c9) rfl (L_nil (W_seq (W_seq (W_reg (L_mv (.slice A1 n2 c3) rfl ?_)))))
 have df := (hp4.st ay.st).le
 refine L_pu (P_len Tryz.underlying26 A1 n2 c3 (hp4.st ay.st).len rfl) (L_mv (vi 0) rfl (L_nil (W_block ?_)))
 obtain ⟨b3, b4, a6, H⟩ := H
 have b5 := (bj.sp b2 bl)
 have b6 := (b0.k0 b1)
 refine W_loop (α := (List Feat) × (List (List Value)) × Ob × (Option Addr) × Nat × Nat × Int) (fun (sv__ : (List Feat) × (List (List Value)) × Ob × (Option Addr) × Nat × Nat × Int) t aw => match sv__ with | (xs2, al, ad, ac, af, ag, v2) => b3 xs2 v2 ∧ Has t [(3, .slice ac af ag), (7, .slice A1 n2 c3), (8, vi (s.length : Int)), (9, vi v2)] ∧ Ct [] w0 aw (bk ac :: (ad ++ [])) O ∧ Sl kFeat aw (Fr ((bk ac :: (ad ++ [])) ++ O)) (.slice A1 n2 c3) s ∧ Ow (Kd.cells 4) 61 aw ((bk ac :: (ad ++ [])) ++ O) (.slice ac af ag) al ∧ DArr dFeat_61 aw ad xs2 al) (fun (sv__ : (List Feat) × (List (List Value)) × Ob × (Option Addr) × Nat × Nat × Int) => match sv__ with | (xs2, _, _, _, _, _, v2) => b4 xs2 v2) (([] : List Feat), ([] : List (List Value)), ([] : Ob), A7, n8, c9, 0) ⟨a6, (hasI rfl), ay, (hp4.st ay.st), b5, b6⟩ ?_
 rintro ⟨xs2, al, ad, ac, af, ag, v2⟩ _ aw ⟨a6, b7, ax, a7, bm, bn⟩
 obtain ⟨dg, rfl⟩ := Has.ins b7
 have H := H xs2 v2 a6
 refine W_seq (W_reg (L_pu (P_cmp v2 (s.length : Int) (decide (v2 < (s.length : Int))) rfl rfl rfl) (L_nil (W_seq ?_))))
 refine W_cond (decide (v2 < (s.length : Int))) rfl (fun a8 => ?_) (fun a8 => ?_)
 ·have H := ite_t H a8
  refine W_skip (W_seq (W_block (W_seq (W_reg ?_))))
  obtain ⟨bo, H⟩ := H
  obtain ⟨bp, dh, b8, di, b9, ca⟩ := a7.get default (by decide) v2 bo
  obtain ⟨an, ao, ap, aq, ar, au, rfl, cb, cc, cd⟩ := kFeat.op b9
  refine L_pu (P_ia Tryz.underlying26 se26 A1 bp n2 c3 a7.len v2 rfl b8 rfl bo) (L_pu (P_lda ag61 sz61 cL (bp.add (v2.toNat * 4)) [vs ((nth s v2).Id), vi ((nth s v2).Shape.Kind), .slice an ao ap, .slice aq ar au] rfl rfl ca) (L_alloc [vs [], .int .i64 0, .slice none 0 0, .slice none 0 0] ze61 fun dj ae a9 hu81 az ce => ?_))
  have a0 := ax.own az (some ae) (oglt a9 hu81)
  refine L_stb ae 0 [vs ([] : Str), vi 0, .slice none 0 0, .slice none 0 0] [vs ((nth s v2).Id), vi ((nth s v2).Shape.Kind), .slice an ao ap, .slice aq ar au] [vs ((nth s v2).Id), vi ((nth s v2).Shape.Kind), .slice an ao ap, .slice aq ar au] rfl ce rfl sz61 rfl rfl rfl fun cf a1 cg => ?_
  have ba := a0.wr 0 rfl a1
  refine L_nil (W_reg (L_mv (.slice ac af ag) rfl (L_pu (P_lda ag61 sz61 cL ⟨ae, 0, none⟩ [vs ((nth s v2).Id), vi ((nth s v2).Shape.Kind), .slice an ao ap, .slice aq ar au] rfl rfl (cg.cells (off := 0) rfl)) ?_)))
  have bb := ax.stown _ az (oge a9)
  have bc := a0.stw 0 rfl a1
  have ch := ((cc.st bb).st bc)
  have ci := ((cd.st bb).st bc)
  refine L_call go38 [.agg #[vs ((nth s v2).Id), vi ((nth s v2).Shape.Kind), .slice an ao ap, .slice aq ar au]] rfl ((F26.calls cf ba.ok (nth s v2) an ao ap aq ar au cb ch ci _ H).mono ?_)
  rintro _ bq ⟨r, aa, ah, ai, ab, aj, ak, rfl, H, a2, cj, bd, ck, cl, cm⟩
  have br := ba.owns a2 cj bd
  have bs : (dFeat_61).D bq ([] ++ (([] ++ [bk aa]) ++ [bk ab])) r [vs r.Id, vi r.Shape.Kind, .slice aa ah ai, .slice ab aj ak] := (dFeat_61.mk _ r ck (Ds.ofOw kPt_flat cl) (Ds.ofOw kTag_flat cm))
  have cn : DArr dFeat_61 bq (([] ++ (([] ++ [bk aa]) ++ [bk ab])) ++ []) ([r] : List Feat) ([[vs r.Id, vi r.Shape.Kind, .slice aa ah ai, .slice ab aj ak]] : List (List Value)) := ⟨_, _, rfl, bs, rfl⟩
  refine L_lit (kd := Kd.cells 4) ei26 br ([[vs r.Id, vi r.Shape.Kind, .slice aa ah ai, .slice ab aj ak]] : List (List Value)) (cells := [vs r.Id, vi r.Shape.Kind, .slice aa ah ai, .slice ab aj ak]) ⟨[vs r.Id, vi r.Shape.Kind, .slice aa ah ai, .slice ab aj ak], _, rfl, Dd.raw _ bs, rfl⟩ (fun _ => by kernel_rfl) fun dk am co cp a3 hr116 a4 cq => ?_
  have a5 : ((bk am :: bk aa :: bk ab :: some ae :: bk ac :: (ad ++ [])) : Ob).Perm (bk am :: some ae :: bk ac :: (ad ++ ((([] ++ (([] ++ [bk aa]) ++ [bk ab])) ++ []) ++ []))) := (pc fun a => by (try simp only [pca, pcc, pcn, Nat.add_zero, Nat.zero_add]); first | done | ac_rfl)
  have be := a4.perm a5
  obtain ⟨cr, H⟩ := H
  have cs := (a4.sp (((a0.sw (bm.so _ az (oge a9)) 1 0 rfl rfl rfl a1).sos a2 bd).so _ a3 hr116) a5)
  have ct := (a4.sp cq a5)
  have bt := (((DArr.sm (L := (some ae :: bk ac :: (ad ++ []))) (O := O) (i := 0) (bn.k0 az) a0 rfl (fun b hb => (mcm (List.mem_append_left _ hb))) a1).k0 a2).k0 a3)
  have bu := (cn.k0 a3)
  have cu : al.length + ([[vs r.Id, vi r.Shape.Kind, .slice aa ah ai, .slice ab aj ak]] : List (List Value)).length ≤ 268435456 := by rw [bt.len, bu.len]; exact cr
  refine L_app (kd := Kd.cells 4) ei26 be (.slice ac af ag) al ([[vs r.Id, vi r.Shape.Kind, .slice aa ah ai, .slice ab aj ak]] : List (List Value)) rfl cs (.slice am co cp) rfl ct.sx 2 rfl cu fun dl av bv bw bx cv bz cw => ?_
  have cx := (DArr.sm (L := (bk am :: some ae :: bk ac :: (ad ++ ((([] ++ (([] ++ [bk aa]) ++ [bk ab])) ++ []) ++ [])))) (O := O) (i := 2) bt be rfl (fun b hb => (List.mem_append_left _ hb)) bx)
  have cy := (DArr.sm (L := (bk am :: some ae :: bk ac :: (ad ++ ((([] ++ (([] ++ [bk aa]) ++ [bk ab])) ++ []) ++ [])))) (O := O) (i := 2) bu be rfl (fun b hb => (List.mem_append_right _ (List.mem_append_left _ hb))) bx)
  have cz := DArr.app cx cy
  have bf : ((bk am :: some ae :: bk av :: (ad ++ ((([] ++ (([] ++ [bk aa]) ++ [bk ab])) ++ []) ++ []))) : Ob).Perm ((bk am :: []) ++ (some ae :: bk av :: (ad ++ ((([] ++ (([] ++ [bk aa]) ++ [bk ab])) ++ []) ++ [])))) := (pc fun a => by (try simp only [pca, pcc, pcn, Nat.add_zero, Nat.zero_add]); first | done | ac_rfl)
  have bg := bz.drops bf
  have bh : ((some ae :: bk av :: (ad ++ ((([] ++ (([] ++ [bk aa]) ++ [bk ab])) ++ []) ++ []))) : Ob).Perm (some ae :: bk av :: ((ad ++ (([] ++ (([] ++ [bk aa]) ++ [bk ab])) ++ [])) ++ [])) := (pc fun a => by (try simp only [pca, pcc, pcn, Nat.add_zero, Nat.zero_add]); first | done | ac_rfl)
  have bi := bg.perm bh
  refine L_as (.slice av bv bw) rfl (L_nil (W_reg ?_))
  obtain ⟨c1, H⟩ := H
  refine L_pu (P_add v2 1 rfl rfl c1) (L_mv (vi (v2 + 1)) rfl (L_nil ?_))
  have c2 := bi.drop 0 rfl
  obtain ⟨c4, c5⟩ := H
  have c6 := ba.stos a2 bd
  have c7 := br.stown _ a3 hr116
  have c8 := a4.stp a5
  have da := bg.stp bh
  have db := bi.std 0 rfl
  have dc := (((((((((a7.st bb).st bc).st c6).st c7).st c8).st cv).st (St.drops _ O bf)).st da).st db)
  have dd := (bi.sd (bg.sp (bz.odr cw bf 1 rfl) bh) 1 0 rfl rfl rfl)
  have de := cz
  exact ⟨((xs2 ++ ([r] : List Feat)), (al ++ ([[vs r.Id, vi r.Shape.Kind, .slice aa ah ai, .slice ab aj ak]] : List (List Value))), (ad ++ (([] ++ (([] ++ [bk aa]) ++ [bk ab])) ++ [])), av, bv, bw, v2 + 1), c5, c4, (hasI rfl), c2, dc, dd, de⟩
 have H := ite_f H a8
 refine W_exit (xin_hit ?_)
 exact W_seq (W_reg (L_mv (.slice ac af ag) rfl (L_as (.slice ac af ag) rfl (L_nil (W_ret ⟨[.slice ac af ag], ⟨_, rfl, rfl⟩, xs2, ac, af, ag, ad, al, rfl, H, ax.gr.g0, ax.ok, ax.ge, bm, bn⟩)))))
end
section
open Go.RowKit
def F37.E (f : Feat) (fv2 : Str) (Q : Bool → Prop) : Prop :=
 Q (f.Id == fv2)
theorem F37.calls {O : Ob} (w0 : World) (hO : Ok w0 O) (f : Feat) (A2 : Option Addr) (n3 c4 : Nat) (A7 : Option Addr) (n8 c9 : Nat) (hs1 : Lim f.Id) (hp5 : Sl kPt w0 (Fr O) (.slice A2 n3 c4) f.Shape.Pts) (ah : Sl kTag w0 (Fr O) (.slice A7 n8 c9) f.Tags) (b : Nat) (fv2 : Str) (ai : Lim fv2) (hp1 : Fb w0 O b [vs fv2]) (Q : Bool → Prop) (h : F37.E f fv2 Q) :
  Ret Tryz.prog 71 [.agg #[vs f.Id, vi f.Shape.Kind, .slice A2 n3 c4, .slice A7 n8 c9], .pointer (some ⟨b, 0, none⟩)] w0 (fun v w' => ∃ (r0 : Bool), v = vb r0 ∧ Q r0 ∧ Gr w0 w' none) := by
 unfold F37.E at h
 have H := h
 clear h
 have hc0 := Ct.init hO
 refine Ret_enter Tryz.func71 rfl 8 rfl [.tmp 3] rfl rfl ?_
 refine W_seq (W_reg (L_box [vs f.Id, vi f.Shape.Kind, .slice A2 n3 c4, .slice A7 n8 c9] rfl fun aj aa ac hu18 ad ae => ?_))
 have af := Fb.mk hc0.ok ac ae
 have ab := hc0.k0 ad
 refine L_as (vb false) rfl (L_nil (W_seq (W_reg (L_pu (P_fa fa61_0 ⟨aa, 0, none⟩ ⟨aa, 0, none⟩ rfl rfl) (L_pu (P_ld ag9 cL ⟨aa, 0, none⟩ (vs f.Id) rfl (af.cell rfl)) ?_)))))
 have ag := (hp1.st ab.st)
 exact L_pu (P_ld ag9 cL ⟨b, 0, none⟩ (vs fv2) rfl (ag.cell rfl)) (L_pu (P_scmp f.Id fv2 (f.Id == fv2) rfl rfl rfl) (L_as (vb (f.Id == fv2)) rfl (L_nil (W_ret ⟨[vb (f.Id == fv2)], ⟨_, rfl, rfl⟩, f.Id == fv2, rfl, H, ab.gr.g0⟩))))
end
section
open Go.RowKit
def F0.E (s : List Feat) (f : Feat → Bool) (f_ok : Feat → Prop) (Q : Int → Prop) : Prop :=
 (∃ (I23 : Int → Prop) (mu24 : Int → Nat), I23 0 ∧ ∀ (v2 : Int), I23 v2 → (if decide (v2 < (s.length : Int)) then ((0 : Int) ≤ v2 ∧ v2 < (s.length : Int)) ∧ (f_ok (nth s v2)) ∧ (if (f (nth s v2)) then Q v2 else (I64 (v2 + 1)) ∧ I23 (v2 + 1) ∧ mu24 (v2 + 1) < mu24 v2) else Q (-1)))
theorem F0.calls {O : Ob} (w0 : World) (hO : Ok w0 O) (s : List Feat) (A1 : Option Addr) (n2 c3 : Nat) (hp4 : Sl kFeat w0 (Fr O) (.slice A1 n2 c3) s) (fg6 : FuncId) (fc7 : List Value) (f : Feat → Bool) (f_ok : Feat → Prop) (hgo8 : Goes Tryz.prog fg6) (hf9 : ∀ (w : World) (L : Ob), Ct [] w0 w L O → ∀ (x0_ : Feat) (am : Option Addr) (an ao : Nat) (ap : Option Addr) (aq ar : Nat) (bc : Lim x0_.Id) (bd : Sl kPt w (Fr (L ++ O)) (.slice am an ao) x0_.Shape.Pts) (be : Sl kTag w (Fr (L ++ O)) (.slice ap aq ar) x0_.Tags), f_ok x0_ → Ret Tryz.prog fg6 ([.agg #[vs x0_.Id, vi x0_.Shape.Kind, .slice am an ao, .slice ap aq ar]] ++ fc7) w (fun v w' => v = vb (f x0_) ∧ Gr w w' none)) (Q : Int → Prop) (h : F0.E s f f_ok Q) :
  Ret Tryz.prog 70 [.slice A1 n2 c3, .func (.func fg6) #[] fc7.toArray] w0 (fun v w' => ∃ (r0 : Int), v = vi r0 ∧ Q r0 ∧ Gr w0 w' none) := by
 unfold F0.E at h
 have H := h
 clear h
 have hc0 := Ct.init hO
 refine Ret_enter Tryz.func70 rfl 19 rfl [.tmp 4] rfl rfl ?_
 refine W_seq (W_reg (L_as (vi 0) rfl (L_nil (W_seq (W_seq (W_reg (L_mv (.slice A1 n2 c3) rfl ?_)))))))
 have bf := hp4.le
 refine L_pu (P_len Tryz.underlying26 A1 n2 c3 hp4.len rfl) (L_mv (vi 0) rfl (L_nil (W_block ?_)))
 obtain ⟨ay, az, ac, H⟩ := H
 refine W_loop (α := Int) (fun (sv__ : Int) t aa => match sv__ with | v2 => ay v2 ∧ Has t [(0, .slice A1 n2 c3), (1, .func (.func fg6) #[] fc7.toArray), (7, vi (s.length : Int)), (8, vi v2)] ∧ Ct [] w0 aa [] O ∧ Sl kFeat aa (Fr ([] ++ O)) (.slice A1 n2 c3) s) (fun (sv__ : Int) => match sv__ with | v2 => az v2) 0 ⟨ac, (hasI rfl), hc0, hp4⟩ ?_
 rintro v2 _ aa ⟨ac, a0, ab, ad⟩
 obtain ⟨bg, rfl⟩ := Has.ins a0
 have H := H v2 ac
 refine W_seq (W_reg (L_pu (P_cmp v2 (s.length : Int) (decide (v2 < (s.length : Int))) rfl rfl rfl) (L_nil (W_seq ?_))))
 refine W_cond (decide (v2 < (s.length : Int))) rfl (fun ae => ?_) (fun ae => ?_)
 ·have H := ite_t H ae
  refine W_skip (W_seq (W_block (W_seq (W_reg (L_mv (vi v2) rfl (L_as (vi v2) rfl (L_nil (W_seq ?_))))))))
  refine W_reg (L_mv (.func (.func fg6) #[] fc7.toArray) rfl (L_mv (.slice A1 n2 c3) rfl (L_mv (vi v2) rfl ?_)))
  obtain ⟨au, H⟩ := H
  obtain ⟨av, bh, a1, bi, a2, a3⟩ := ad.get default (by decide) v2 au
  obtain ⟨af, ag, ah, ai, aj, ak, rfl, a4, a5, a6⟩ := kFeat.op a2
  refine L_pu (P_ia Tryz.underlying26 se26 A1 av n2 c3 ad.len v2 rfl a1 rfl au) (L_pu (P_lda ag61 sz61 cL (av.add (v2.toNat * 4)) [vs ((nth s v2).Id), vi ((nth s v2).Shape.Kind), .slice af ag ah, .slice ai aj ak] rfl rfl a3) ?_)
  obtain ⟨a7, H⟩ := H
  refine L_callv hgo8 fc7 rfl [.agg #[vs ((nth s v2).Id), vi ((nth s v2).Shape.Kind), .slice af ag ah, .slice ai aj ak]] rfl ((hf9 aa [] ab (nth s v2) af ag ah ai aj ak a4 a5 a6 a7).mono ?_)
  rintro _ bj ⟨rfl, aw⟩
  have ax := ab.k0 aw
  refine L_nil ?_
  refine W_cond (f (nth s v2)) rfl (fun al => ?_) (fun al => ?_)
  ·have H := ite_t H al
   exact W_seq (W_reg (L_mv (vi v2) rfl (L_as (vi v2) rfl (L_nil (W_ret ⟨[vi v2], ⟨_, rfl, rfl⟩, v2, rfl, H, ax.gr.g0⟩)))))
  have H := ite_f H al
  refine W_skip (W_reg ?_)
  obtain ⟨a8, H⟩ := H
  refine L_pu (P_add v2 1 rfl rfl a8) (L_mv (vi (v2 + 1)) rfl (L_nil ?_))
  obtain ⟨a9, ba⟩ := H
  have bb := ab.stn aw
  exact ⟨v2 + 1, ba, a9, (hasI rfl), ax, (ad.st bb)⟩
 have H := ite_f H ae
 refine W_exit (xin_hit ?_)
 exact W_seq (W_reg (L_as (vi (-1)) rfl (L_nil (W_ret ⟨[vi (-1)], ⟨_, rfl, rfl⟩, (-1), rfl, H, ab.gr.g0⟩))))
end
section
open Go.RowKit
def F91.E (s : List Feat) (id : Str) (Q : Int → Prop) : Prop :=
 (∃ (f : Feat → Bool) (f_ok : Feat → Prop), (∀ x0_, f_ok x0_ → F37.E x0_ id (fun r => r = f x0_)) ∧ F0.E s f f_ok (fun r => Q r))
theorem F91.calls {O : Ob} (w0 : World) (hO : Ok w0 O) (s : List Feat) (A1 : Option Addr) (n2 c3 : Nat) (hp4 : Sl kFeat w0 (Fr O) (.slice A1 n2 c3) s) (id : Str) (hs6 : Lim id) (Q : Int → Prop) (h : F91.E s id Q) :
  Ret Tryz.prog 36 [.slice A1 n2 c3, vs id] w0 (fun v w' => ∃ (r0 : Int), v = vi r0 ∧ Q r0 ∧ Gr w0 w' none) := by
 unfold F91.E at h
 have H := h
 clear h
 have hc0 := Ct.init hO
 refine Ret_enter Tryz.func36 rfl 8 rfl [.tmp 4] rfl rfl ?_
 refine W_seq (W_reg (L_box [vs id] rfl fun w7 b8 ak hu11 g9 al => ?_))
 have am := Fb.mk hc0.ok ak al
 have ag := hc0.k0 g9
 refine L_as (vi 0) rfl (L_nil (W_seq (W_reg (L_mv (.slice A1 n2 c3) rfl (L_pu (P_func [.pointer (some ⟨b8, 0, none⟩)] rfl) ?_)))))
 obtain ⟨f, f_ok, an, H⟩ := H
 have ao : ∀ (w : World) (L : Ob), Ct [] w7 w L ([] ++ O) → ∀ (x0_ : Feat) (aa : Option Addr) (ab ac : Nat) (ad : Option Addr) (ae af : Nat) (ah : Lim x0_.Id) (ai : Sl kPt w (Fr (L ++ ([] ++ O))) (.slice aa ab ac) x0_.Shape.Pts) (aj : Sl kTag w (Fr (L ++ ([] ++ O))) (.slice ad ae af) x0_.Tags), f_ok x0_ → Ret Tryz.prog 71 ([.agg #[vs x0_.Id, vi x0_.Shape.Kind, .slice aa ab ac, .slice ad ae af]] ++ [.pointer (some ⟨b8, 0, none⟩)]) w (fun v w' => v = vb (f x0_) ∧ Gr w w' none) := by
  intro w L c x0_ aa ab ac ad ae af ah ai aj hok
  refine (F37.calls w c.ok x0_ aa ab ac ad ae af ah ai aj b8 id hs6 (am.st c.st) _ (an x0_ hok)).mono ?_
  rintro _ w2 ⟨r, rfl, rfl, g2⟩
  exact ⟨rfl, g2⟩
 refine L_call go70 [.slice A1 n2 c3, .func (.func 71) #[] #[.pointer (some ⟨b8, 0, none⟩)]] rfl ((F0.calls w7 ag.ok s A1 n2 c3 (hp4.st ag.st) 71 [.pointer (some ⟨b8, 0, none⟩)] f f_ok go71 ao _ H).mono ?_)
 rintro _ ar ⟨r, rfl, H, ap⟩
 have aq := ag.k0 ap
 exact L_as (vi r) rfl (L_nil (W_ret ⟨[vi r], ⟨_, rfl, rfl⟩, r, rfl, H, aq.gr.g0⟩))
end
section
open Go.RowKit
def F122.E (s : List Feat) (id : Str) (Q : Feat → Bool → Prop) : Prop :=
 F91.E s id (fun r => (if decide (r < 0) then Q (⟨([] : Str), (⟨0, ([] : List Pt)⟩ : Shape), ([] : List Tag)⟩ : Feat) false else ((0 : Int) ≤ r ∧ r < (s.length : Int)) ∧ F26.E (nth s r) (fun r2 => Q r2 true)))
theorem F122.calls {O : Ob} (w0 : World) (hO : Ok w0 O) (s : List Feat) (A1 : Option Addr) (n2 c3 : Nat) (hp4 : Sl kFeat w0 (Fr O) (.slice A1 n2 c3) s) (id : Str) (hs6 : Lim id) (Q : Feat → Bool → Prop) (h : F122.E s id Q) :
  Ret Tryz.prog 34 [.slice A1 n2 c3, vs id] w0 (fun v w' => ∃ (r0 : Feat) (r1 : Bool) (A0 : Option Addr) (n0 c0 : Nat) (A2 : Option Addr) (n2 c2 : Nat), v = .tuple #[.agg #[vs r0.Id, vi r0.Shape.Kind, .slice A0 n0 c0, .slice A2 n2 c2], vb r1] ∧ Q r0 r1 ∧ Gr w0 w' none ∧ Ok w' ([bk A0, bk A2] ++ O) ∧ (∀ b, some b ∈ [bk A0, bk A2] → w0.heap.size ≤ b) ∧ Lim r0.Id ∧ Ow kPt 114 w' ([bk A0, bk A2] ++ O) (.slice A0 n0 c0) r0.Shape.Pts ∧ Ow kTag 106 w' ([bk A0, bk A2] ++ O) (.slice A2 n2 c2) r0.Tags) := by
 unfold F122.E at h
 have H := h
 clear h
 have hc0 := Ct.init hO
 refine Ret_enter Tryz.func34 rfl 18 rfl [.cell 4 61, .tmp 5] rfl rfl ?_
 refine W_seq (W_reg (L_alloc [vs [], .int .i64 0, .slice none 0 0, .slice none 0 0] ze61 fun w7 b8 a4 hu11 g9 az => ?_))
 have ak := hc0.own g9 (some b8) (oglt a4 hu11)
 refine L_as (vb false) rfl (L_nil (W_seq (W_reg (L_mv (.slice A1 n2 c3) rfl (L_mv (vs id) rfl ?_)))))
 refine L_call go36 [.slice A1 n2 c3, vs id] rfl ((F91.calls w7 ak.ok s A1 n2 c3 (hp4.st ak.st) id hs6 _ H).mono ?_)
 rintro _ a5 ⟨r, rfl, H, al⟩
 have aa := ak.k0 al
 refine L_as (vi r) rfl (L_nil (W_seq (W_seq (W_reg (L_mv (vi r) rfl (L_pu (P_cmp r 0 (decide (r < 0)) rfl rfl rfl) (L_nil ?_)))))))
 refine W_cond (decide (r < 0)) rfl (fun am => ?_) (fun am => ?_)
 ·have H := ite_t H am
  refine W_seq (W_reg (L_pu (P_build (.agg #[vs ([] : Str), vi 0, .slice none 0 0, .slice none 0 0]) (fun _ => by kernel_rfl)) ?_))
  have a6 := (az.k0 al)
  refine L_stb b8 0 [vs ([] : Str), vi 0, .slice none 0 0, .slice none 0 0] [vs ([] : Str), vi 0, .slice none 0 0, .slice none 0 0] [vs ([] : Str), vi 0, .slice none 0 0, .slice none 0 0] rfl a6 rfl sz61 rfl rfl rfl fun a0 a7 a8 => ?_
  have a9 := aa.wr 0 rfl a7
  refine L_as (vb false) rfl (L_nil (W_ret ?_))
  have ba := a9.own (Gr.refl _ none) none (by simp)
  have bb : Ow kPt 114 a0 ([bk none, some b8] ++ O) (.slice none 0 0) [] := Ow.nil _ _ _ _
  have ab := ba.own (Gr.refl _ none) none (by simp)
  have bc : Ow kTag 106 a0 ([bk none, bk none, some b8] ++ O) (.slice none 0 0) [] := Ow.nil _ _ _ _
  have bd := a8
  have be := ab.bgv bd 2 rfl
  have ac := ab.drop 2 rfl
  have an := ac.perm (.swap _ _ _)
  have bf := ac.stp (.swap _ _ _)
  have bg := (be.st bf)
  have bh := (ac.sp (ab.sd (bb.so none (Gr.refl _ none) (by simp)) 1 2 rfl rfl rfl) (.swap _ _ _))
  have bi := (ac.sp (ab.sd bc 0 2 rfl rfl rfl) (.swap _ _ _))
  exact ⟨[.agg #[vs ([] : Str), vi 0, .slice none 0 0, .slice none 0 0], vb false], ⟨_, _, rfl, bg.1.res rfl ag61 sz61, ⟨_, rfl, rfl⟩⟩, (⟨([] : Str), (⟨0, ([] : List Pt)⟩ : Shape), ([] : List Tag)⟩ : Feat), false, none, 0, 0, none, 0, 0, rfl, H, an.gr.g0, an.ok, an.ge, (by decide), bh, bi⟩
 have H := ite_f H am
 refine W_skip (W_seq (W_reg (L_mv (.slice A1 n2 c3) rfl (L_mv (vi r) rfl ?_))))
 obtain ⟨a1, H⟩ := H
 obtain ⟨a2, b1, bj, b2, bl, bm⟩ := (hp4.st aa.st).get default (by decide) r a1
 obtain ⟨ao, ap, aq, ar, au, av, rfl, bn, bo, bp⟩ := kFeat.op bl
 refine L_pu (P_ia Tryz.underlying26 se26 A1 a2 n2 c3 (hp4.st aa.st).len r rfl bj rfl a1) (L_pu (P_lda ag61 sz61 cL (a2.add (r.toNat * 4)) [vs ((nth s r).Id), vi ((nth s r).Shape.Kind), .slice ao ap aq, .slice ar au av] rfl rfl bm) ?_)
 refine L_call go38 [.agg #[vs ((nth s r).Id), vi ((nth s r).Shape.Kind), .slice ao ap aq, .slice ar au av]] rfl ((F26.calls a5 aa.ok (nth s r) ao ap aq ar au av bn bo bp _ H).mono ?_)
 rintro _ b3 ⟨r2, ad, ae, af, ag, ah, ai, rfl, H, a3, bq, br, bs, bt, bu⟩
 have aw := aa.owns a3 bq br
 have bv := ((az.k0 al).k0 a3)
 refine L_stb b8 0 [vs ([] : Str), vi 0, .slice none 0 0, .slice none 0 0] [vs r2.Id, vi r2.Shape.Kind, .slice ad ae af, .slice ag ah ai] [vs r2.Id, vi r2.Shape.Kind, .slice ad ae af, .slice ag ah ai] rfl bv rfl sz61 rfl rfl rfl fun b4 ax bw => ?_
 have aj := aw.wr 2 rfl ax
 refine L_as (vb true) rfl (L_nil (W_ret ?_))
 have bx := aj.bgv bw 2 rfl
 have ay := aj.drop 2 rfl
 have bz := (aj.sd (aw.sw bt 0 2 rfl rfl rfl ax) 0 2 rfl rfl rfl)
 have b0 := (aj.sd (aw.sw bu 1 2 rfl rfl rfl ax) 1 2 rfl rfl rfl)
 exact ⟨[.agg #[vs r2.Id, vi r2.Shape.Kind, .slice ad ae af, .slice ag ah ai], vb true], ⟨_, _, rfl, bx.1.res rfl ag61 sz61, ⟨_, rfl, rfl⟩⟩, r2, true, ad, ae, af, ag, ah, ai, rfl, H, ay.gr.g0, ay.ok, ay.ge, bs, bz, b0⟩
end
section
open Go.RowKit Go.Shelf Go.Sort Go.Lib
theorem strs_arr {w : World} {S : Sp} : ∀ {xs : List Str} {cs : List Value}, Arr Kd.str w S xs cs → cs = xs.map vs ∧ ∀ x ∈ xs, Lim x
  | [], _, h => ⟨h, fun x hx => by cases hx⟩
  | x :: xs, _, ⟨c1, c2, e, h1, h2⟩ => by
    obtain ⟨e2, h3⟩ := strs_arr h2
    refine ⟨by rw [e, h1.1, e2]; rfl, fun y hy => ?_⟩
    rcases List.mem_cons.1 hy with rfl | hy
    · exact h1.2
    · exact h3 y hy
theorem Ow.holds {e : TypeId} {w : World} {O : Ob} {g n c : Nat} {xs : List Str} (h : Ow Kd.str e w O (.slice (some ⟨g, 0, none⟩) n c) xs) : Holds encStr w g 0 xs.toArray := by
  obtain ⟨cells, o1, o2, o3⟩ := h
  obtain ⟨e2, _⟩ := strs_arr o2
  intro j hj
  simp only [List.size_toArray] at hj
  rcases o1.2 with ⟨_, e'⟩ | ⟨g', cap, cur, ev, h0, hg, hle, hmx, hcur, htake⟩
  · omega
  · cases ev
    have hc := World.ownsRow.cells o1 (g := g) rfl j (vs xs[j]) (by rw [e2]; simp [hj])
    have ha : (⟨g, 0, none⟩ : Addr).add j = ⟨g, 0 + j, none⟩ := by unfold Addr.add; split <;> simp_all
    rw [ha] at hc
    refine ⟨by rw [hc]; simp [hj], ?_⟩
    simp [World.frozen?, hg]
def sortS (xs : List Str) : List Str := xs.mergeSort fun x y => decide (x ≤ y)
end
section
open Go.RowKit Go.Shelf Go.Sort Go.Lib
section
variable {β : Type} {kd : Kd β} {w : World} {S : Sp} {e : TypeId} {O : Ob}
theorem Arr.pairs : ∀ {xs : List β} {cells : List Value}, Arr kd w S xs cells → ∃ ps : List (β × List Value), ps.map (·.1) = xs ∧ cells = (ps.map (·.2)).flatten ∧ ∀ p ∈ ps, kd.R w S p.1 p.2
  | [], _, h => ⟨[], rfl, h, fun p hp => by cases hp⟩
  | x :: xs, _, ⟨c1, c2, e, h1, h2⟩ => by
    obtain ⟨ps, e1, e2, h3⟩ := Arr.pairs h2
    refine ⟨(x, c1) :: ps, by simp [e1], by simp [e, e2], fun p hp => ?_⟩
    rcases List.mem_cons.1 hp with rfl | hp
    · exact h1
    · exact h3 p hp
theorem Arr.ofPairs : ∀ {ps : List (β × List Value)}, (∀ p ∈ ps, kd.R w S p.1 p.2) → Arr kd w S (ps.map (·.1)) (ps.map (·.2)).flatten
  | [], _ => rfl
  | p :: ps, h => ⟨p.2, _, by simp, h p List.mem_cons_self, Arr.ofPairs fun q hq => h q (List.mem_cons_of_mem _ hq)⟩
abbrev KE (kd : Kd β) (key : β → Str) : Type := { p : β × List Value // p.2.length = kd.sz ∧ (∀ v ∈ p.2, v.oneCell' = true) ∧ p.2[0]? = some (vs (key p.1)) }
def KE.cs {key : β → Str} (x : KE kd key) : List Value := x.1.2
theorem flat_len {key : β → Str} : ∀ l : List (KE kd key), ((l.map KE.cs).flatten).length = l.length * kd.sz
  | [] => by simp
  | x :: l => by simp only [List.map_cons, List.flatten_cons, List.length_append, List.length_cons]; rw [flat_len l, Nat.add_mul, Nat.one_mul, KE.cs, x.2.1]; omega
theorem flat_get {key : β → Str} (hk : 0 < kd.sz) : ∀ (l : List (KE kd key)) (t : Nat), t < l.length * kd.sz → ((l.map KE.cs).flatten)[t]? = (l[t / kd.sz]?).bind fun x => x.cs[t % kd.sz]?
  | [], t, h => by simp at h
  | x :: l, t, h => by
    rw [List.map_cons, List.flatten_cons]
    have hx : x.cs.length = kd.sz := x.2.1
    by_cases ht : t < kd.sz
    · rw [List.getElem?_append_left (by omega), Nat.div_eq_of_lt ht, Nat.mod_eq_of_lt ht]; rfl
    · rw [List.getElem?_append_right (by omega), hx, flat_get hk l (t - kd.sz) (by rw [List.length_cons, Nat.add_mul, Nat.one_mul] at h; omega)]
      have e1 : t / kd.sz = (t - kd.sz) / kd.sz + 1 := by rw [← Nat.add_div_right _ hk, Nat.sub_add_cancel (by omega)]
      have e2 : t % kd.sz = (t - kd.sz) % kd.sz := by conv => lhs; rw [← Nat.sub_add_cancel (Nat.le_of_not_lt ht), Nat.add_mod_right]
      rw [e1, e2, List.getElem?_cons_succ]
theorem flatK_list {key : β → Str} [Inhabited (KE kd key)] (hk : 0 < kd.sz) (d : Array (KE kd key)) : (flatK KE.cs kd.sz d).toList = (d.toList.map KE.cs).flatten := by
  apply List.ext_getElem?
  intro t
  by_cases ht : t < d.size * kd.sz
  · have h1 : t / kd.sz < d.size := Nat.div_lt_of_lt_mul (by rw [Nat.mul_comm]; exact ht)
    rw [flat_get hk _ _ (by simpa using ht)]
    have h2 : (flatK KE.cs kd.sz d).toList[t]? = some ((flatK KE.cs kd.sz d)[t]!) := by
      rw [Array.getElem?_toList, getElem!_pos (flatK KE.cs kd.sz d) t (by rw [size_flatK]; exact ht)]; exact Array.getElem?_eq_getElem _
    rw [h2, get_flatK _ _ _ _ ht]
    have h3 : d.toList[t / kd.sz]? = some d[t / kd.sz]! := by rw [Array.getElem?_toList, getElem!_pos d (t / kd.sz) h1]; exact Array.getElem?_eq_getElem _
    rw [h3, Option.bind_some]
    have h4 : (d[t / kd.sz]!).cs.length = kd.sz := (d[t / kd.sz]!).2.1
    have h5 : t % kd.sz < (d[t / kd.sz]!).cs.length := by rw [h4]; exact Nat.mod_lt _ hk
    rw [List.getElem?_eq_getElem h5, getElem!_pos ((d[t / kd.sz]!).cs) (t % kd.sz) h5]
  · rw [List.getElem?_eq_none (by rw [Array.length_toList, size_flatK]; omega), List.getElem?_eq_none (by rw [flat_len, Array.length_toList]; omega)]
theorem add0 (g t : Nat) : (⟨g, 0, none⟩ : Addr).add t = ⟨g, 0 + t, none⟩ := by unfold Addr.add; split <;> simp_all
theorem Ow.sortK (hk : 0 < kd.sz) (key : β → Str) [Inhabited (KE kd key)] (hkey : ∀ x cs, kd.R w (Fr O) x cs → cs[0]? = some (vs (key x))) {A : Option Addr} {n c : Nat} {xs : List β} (h : Ow kd e w O (.slice A n c) xs) (hx : 0 < xs.length) :
    ∃ (g : Nat) (d : Array (KE kd key)), A = some ⟨g, 0, none⟩ ∧ n = d.size ∧ d.toList.map (·.1.1) = xs ∧ HoldsK KE.cs kd.sz w g 0 d ∧ g < w.heap.size ∧
      ∀ (d' : Array (KE kd key)) (q : Nat) (os : Array Obj), d'.toList.Perm d.toList →
        Gr w (sortWorldK KE.cs kd.sz w g 0 q d' os) (some g) ∧ Ow kd e (sortWorldK KE.cs kd.sz w g 0 q d' os) O (.slice A n c) (d'.toList.map (·.1.1)) := by
  obtain ⟨cells, o1, o2, o3⟩ := h
  obtain ⟨ps, e1, e2, e3⟩ := Arr.pairs o2
  obtain ⟨l, hl⟩ : ∃ l : List (KE kd key), l.map (·.1) = ps := by
    have : ∀ ps : List (β × List Value), (∀ p ∈ ps, kd.R w (Fr O) p.1 p.2) → ∃ l : List (KE kd key), l.map (·.1) = ps := fun ps => by
      induction ps with
      | nil => exact fun _ => ⟨[], rfl⟩
      | cons p ps ih =>
        intro hp
        obtain ⟨l, hl⟩ := ih fun q hq => hp q (List.mem_cons_of_mem _ hq)
        have h := hp p List.mem_cons_self
        exact ⟨⟨p, kd.len h, kd.one h, hkey _ _ h⟩ :: l, by rw [List.map_cons, hl]⟩
    exact this ps e3
  subst hl
  have hcs : cells = (l.map KE.cs).flatten := by rw [e2, List.map_map]; rfl
  have hxs : xs = l.map (·.1.1) := by rw [← e1, List.map_map]; rfl
  have hll : l.length = xs.length := by rw [hxs, List.length_map]
  rcases o1.2 with ⟨_, e'⟩ | ⟨g, cap, cur, ev, h0, hg, hle, hmx, hcur, htake⟩
  · exfalso
    have := (show n = xs.length from by
      have := o1.1; omega)
    omega
  cases ev
  have hgl : g < w.heap.size := (Array.getElem?_eq_some_iff.1 hg).1
  refine ⟨g, l.toArray, rfl, by simp [hll], by simp [hxs], ?_, hgl, fun d' q os hp => ?_⟩
  · intro t ht
    have ht' : t < l.length * kd.sz := by simpa using ht
    have hc := World.ownsRow.cells o1 (g := g) rfl t ((flatK KE.cs kd.sz l.toArray)[t]!) (by
      rw [hcs]; have hf := flatK_list hk l.toArray; rw [List.toList_toArray] at hf; rw [← hf, Array.getElem?_toList, getElem!_pos (flatK KE.cs kd.sz l.toArray) t ht]; exact Array.getElem?_eq_getElem _)
    rw [add0] at hc
    exact ⟨hc, by simp [World.frozen?, hg]⟩
  · have hsz : d'.size = l.length := by have := hp.length_eq; simpa using this
    have h1 : (w.heap.modify g (onCells (putCells id 0 (flatK KE.cs kd.sz d')))).size = w.heap.size := Array.size_modify
    have hne : ∀ b, b < w.heap.size → b ≠ g → (sortWorldK KE.cs kd.sz w g 0 q d' os).heap[b]? = w.heap[b]? := fun b hb hn => by
      simp only [sortWorldK, grow, putRowK, putRow, mapBlock, Sort.ahead]
      rw [Array.getElem?_append_left (by rw [h1]; exact hb), Array.getElem?_modify, if_neg (fun e => hn e.symm)]
    have hGr : Gr w (sortWorldK KE.cs kd.sz w g 0 q d' os) (some g) := ⟨rfl, rfl, rfl, by
      simp only [sortWorldK, grow, putRowK, putRow, mapBlock, Sort.ahead, Array.size_append, h1]; omega, fun b hb hn => hne b hb fun e => hn (by rw [e])⟩
    have hn : (d'.toList.map (·.1.1)).length = xs.length := by rw [List.length_map, Array.length_toList, hsz, hll]
    have hn2 : d'.toList.length = xs.length := by rw [Array.length_toList, hsz, hll]
    refine ⟨hGr, (d'.toList.map KE.cs).flatten, ⟨by rw [flat_len, hn, hn2], .inr ⟨g, c, putCells id 0 (flatK KE.cs kd.sz d') cur, ?_, h0, ?_, ?_, hmx, ?_, ?_⟩⟩, ?_, o3⟩
    · rw [hn]
    · simp only [sortWorldK, grow, putRowK, putRow, mapBlock, Sort.ahead]
      rw [Array.getElem?_append_left (by rw [h1]; exact hgl), Array.getElem?_modify, if_pos rfl, hg]; rfl
    · rw [hn]; exact hle
    · rw [putCells, Array.size_mapIdx]; exact hcur
    · have hc1 : xs.length * kd.sz ≤ cur.size := by rw [hcur]; exact Nat.mul_le_mul_right _ hle
      rw [← flatK_list hk]
      apply List.ext_getElem?
      intro j
      rw [List.getElem?_take, hn]
      by_cases hj : j < xs.length * kd.sz
      · have hj2 : j < (flatK KE.cs kd.sz d').size := by rw [size_flatK, hsz, hll]; exact hj
        rw [if_pos hj, putCells, Array.getElem?_toList, Array.getElem?_mapIdx, Array.getElem?_eq_getElem (by omega), Array.getElem?_toList, Array.getElem?_eq_getElem hj2]
        simp only [Option.map_some, Nat.zero_le, true_and, Nat.zero_add, hj2, if_true, Nat.sub_zero, id]
        try rw [getElem!_pos (flatK KE.cs kd.sz d') j hj2]
      · rw [if_neg hj, List.getElem?_eq_none (by rw [Array.length_toList, size_flatK, hsz, hll]; omega)]
    · have hR : ∀ p ∈ d'.toList.map (·.1), kd.R (sortWorldK KE.cs kd.sz w g 0 q d' os) (Fr O) p.1 p.2 := fun p hp' => by
        obtain ⟨x, hx', rfl⟩ := List.mem_map.1 hp'
        have hm : x ∈ l := by have := hp.mem_iff.1 hx'; simpa using this
        exact kd.keep (e3 _ (List.mem_map.2 ⟨x, hm, rfl⟩)) fun b hS hb => hne b hb fun e => hS (by rw [e]; exact o3 g rfl)
      have := Arr.ofPairs hR
      rw [List.map_map, List.map_map] at this
      exact this
theorem ltK_swo {key : β → Str} : SWO fun x y : KE kd key => Op.bytesLess (key x.1.1) (key y.1.1) := by
  have irr : ∀ a : Str, Op.bytesLess a a = false := fun a => by
    induction a with
    | nil => rfl
    | cons x a ih => simp [Op.bytesLess, ih]
  have tr : ∀ {a b c : Str}, Op.bytesLess a b = true → Op.bytesLess b c = true → Op.bytesLess a c = true := by
    intro a
    induction a with
    | nil =>
      intro b c h1 h2
      cases c with
      | nil => cases b <;> simp [Op.bytesLess] at h2
      | cons z c => rfl
    | cons x a ih =>
      intro b c h1 h2
      cases b with
      | nil => simp [Op.bytesLess] at h1
      | cons y b =>
        cases c with
        | nil => simp [Op.bytesLess] at h2
        | cons z c =>
          rw [Op.bytesLess] at h1 h2 ⊢
          simp only [Bool.or_eq_true, Bool.and_eq_true, decide_eq_true_eq, beq_iff_eq] at h1 h2 ⊢
          rcases h1 with h1 | ⟨rfl, h1⟩
          · rcases h2 with h2 | ⟨rfl, h2⟩
            · exact .inl (UInt8.lt_trans h1 h2)
            · exact .inl h1
          · rcases h2 with h2 | ⟨rfl, h2⟩
            · exact .inl h2
            · exact .inr ⟨rfl, ih h1 h2⟩
  have tri : ∀ {a b : Str}, Op.bytesLess a b = false → Op.bytesLess b a = true ∨ a = b := by
    intro a
    induction a with
    | nil => intro b h; cases b with
      | nil => exact .inr rfl
      | cons y b => simp [Op.bytesLess] at h
    | cons x a ih =>
      intro b h
      cases b with
      | nil => exact .inl rfl
      | cons y b =>
        rw [Op.bytesLess] at h ⊢
        simp only [Bool.or_eq_false_iff, decide_eq_false_iff_not, Bool.and_eq_false_iff, beq_eq_false_iff_ne, Bool.or_eq_true, decide_eq_true_eq, Bool.and_eq_true, beq_iff_eq] at h ⊢
        obtain ⟨h1, h2⟩ := h
        by_cases e : x = y
        · subst e
          rcases h2 with h2 | h2
          · exact absurd rfl h2
          · rcases ih h2 with g | g
            · exact .inl (.inr ⟨rfl, g⟩)
            · exact .inr (by rw [g])
        · refine .inl (.inl ?_)
          rcases UInt8.lt_or_lt_of_ne e with g | g
          · exact absurd g h1
          · exact g
  exact ⟨fun x => irr _, fun x y z h1 h2 => tr h1 h2, fun x y z h1 h2 => by
    cases h : Op.bytesLess (key x.1.1) (key z.1.1) with
    | false => rfl
    | true =>
      rcases tri h2 with g | g
      · have := tr h g; rw [this] at h1; cases h1
      · rw [g, h] at h1; cases h1⟩
end
end
section
open Go.RowKit Go.Shelf Go.Sort Go.Lib
theorem take_mid (A : List Value) (v : Value) (B : List Value) : (A ++ v :: B).take (A.length + 1) = A ++ [v] := by
  rw [List.take_append, List.take_of_length_le (Nat.le_succ _), Nat.add_sub_cancel_left]; rfl
theorem drop_mid (A : List Value) (v : Value) (B : List Value) (m : Nat) : (A ++ v :: B).drop (A.length + 1 + m) = B.drop m := by
  rw [List.drop_append, List.drop_eq_nil_of_le (by omega), Nat.add_assoc, Nat.add_sub_cancel_left, Nat.add_comm 1 m]; rfl
theorem setCells_row {b : Nat} {e : TypeId} {fz : Nat × Nat} : ∀ (us : List Value) (o : Nat) (w : World) (cur : Array Value), w.heap[b]? = some (.cells cur e fz) → o + us.length ≤ cur.size →
    ∃ cur' : Array Value, (w.setCells b o us).heap[b]? = some (.cells cur' e fz) ∧ cur'.toList = cur.toList.take o ++ us ++ cur.toList.drop (o + us.length)
  | [], o, w, cur, h, _ => ⟨cur, h, by simp⟩
  | v :: us, o, w, cur, h, hl => by
    rw [List.length_cons] at hl
    have h1 : (w.setCell ⟨b, o, none⟩ v).heap[b]? = some (.cells (cur.setIfInBounds o v) e fz) := by
      simp [World.setCell, Array.getElem?_modify, h]
    obtain ⟨c, h2, h3⟩ := setCells_row us (o + 1) _ _ h1 (by rw [Array.size_setIfInBounds]; omega)
    refine ⟨c, h2, ?_⟩
    have hlo : (cur.toList.take o).length = o := by rw [List.length_take, Array.length_toList]; omega
    have e0 : (cur.setIfInBounds o v).toList = cur.toList.take o ++ v :: cur.toList.drop (o + 1) := by
      rw [Array.toList_setIfInBounds, List.set_eq_take_append_cons_drop, if_pos (by rw [Array.length_toList]; omega)]
    have e1 := take_mid (cur.toList.take o) v (cur.toList.drop (o + 1))
    have e2 := drop_mid (cur.toList.take o) v (cur.toList.drop (o + 1)) us.length
    rw [hlo] at e1 e2
    rw [h3, e0, e1, e2, List.drop_drop, List.length_cons, List.append_assoc, List.append_assoc, List.append_assoc, show o + 1 + us.length = o + (us.length + 1) by omega]
    rfl
theorem setCells_tape (b : Nat) : ∀ (us : List Value) (o : Nat) (w : World), (w.setCells b o us).tape = w.tape
  | [], _, _ => rfl
  | v :: us, o, w => by rw [World.setCells, setCells_tape b us]; rfl
theorem setCells_Gr (w : World) (b o : Nat) (us : List Value) : Gr w (w.setCells b o us) (some b) :=
  ⟨World.os_setCells w b o us, setCells_tape b us o w, World.output_setCells w b o us, Nat.le_of_eq (size_setCells b us o w).symm, fun k hk hn => World.heap_setCells_other w b o us hk fun e => hn (by rw [e])⟩
theorem flat_take (k : Nat) : ∀ (l : List (List Value)) (I : Nat), (∀ c ∈ l, c.length = k) → l.flatten.take (I * k) = (l.take I).flatten
  | l, 0, _ => by simp
  | [], I + 1, _ => by simp
  | c :: l, I + 1, h => by
    have hc : c.length = k := h c List.mem_cons_self
    rw [List.flatten_cons, List.take_succ_cons, List.flatten_cons, ← flat_take k l I (fun d hd => h d (List.mem_cons_of_mem _ hd)), Nat.succ_mul, Nat.add_comm (I * k) k, List.take_append, hc, Nat.add_sub_cancel_left, List.take_of_length_le (by omega)]
theorem flat_drop (k : Nat) : ∀ (l : List (List Value)) (I : Nat), (∀ c ∈ l, c.length = k) → l.flatten.drop (I * k) = (l.drop I).flatten
  | l, 0, _ => by simp
  | [], I + 1, _ => by simp
  | c :: l, I + 1, h => by
    have hc : c.length = k := h c List.mem_cons_self
    rw [List.flatten_cons, List.drop_succ_cons, ← flat_drop k l I (fun d hd => h d (List.mem_cons_of_mem _ hd)), Nat.succ_mul, Nat.add_comm (I * k) k, List.drop_append, hc, Nat.add_sub_cancel_left, List.drop_eq_nil_of_le (by omega), List.nil_append]
section
variable {β : Type} {kd : Kd β} {w : World} {e : TypeId} {O : Ob}
theorem Ow.del {A : Option Addr} {n c : Nat} {xs : List β} (h : Ow kd e w O (.slice A n c) xs) (I J : Nat) (hI : I < J) (hJ : J ≤ xs.length) :
    ∃ (g : Nat) (news : List Value), A = some ⟨g, 0, none⟩ ∧ n = xs.length ∧ xs.length ≤ c ∧ c ≤ 9223372036854775807 ∧ news.length = (xs.length - J) * kd.sz ∧ (∀ u ∈ news, u.oneCell' = true) ∧
      (∀ t u, news[t]? = some u → w.cell? ⟨g, J * kd.sz + t, none⟩ = some u) ∧ (∀ t, t < xs.length * kd.sz → (w.cell? ⟨g, t, none⟩).isSome = true ∧ w.frozen? ⟨g, t, none⟩ = false) ∧
      ∀ zs : List Value, zs.length = (J - I) * kd.sz →
        Gr w ((w.drew.setCells g (I * kd.sz) news).setCells g ((I + (xs.length - J)) * kd.sz) zs) (some g) ∧ Ow kd e ((w.drew.setCells g (I * kd.sz) news).setCells g ((I + (xs.length - J)) * kd.sz) zs) O (.slice A (I + (xs.length - J)) c) (xs.take I ++ xs.drop J) := by
  obtain ⟨cells, o1, o2, o3⟩ := h
  obtain ⟨ps, e1, e2, e3⟩ := Arr.pairs o2
  have hps : ∀ d ∈ ps.map (·.2), d.length = kd.sz := fun d hd => by
    obtain ⟨p, hp, rfl⟩ := List.mem_map.1 hd
    exact kd.len (e3 p hp)
  have hlen : cells.length = xs.length * kd.sz := o1.1
  rcases o1.2 with ⟨_, e'⟩ | ⟨g, cap, cur, ev, h0, hg, hle, hmx, hcur, htake⟩
  · omega
  cases ev
  have hgl : g < w.heap.size := (Array.getElem?_eq_some_iff.1 hg).1
  have hN : (xs.length - J) * kd.sz + J * kd.sz = xs.length * kd.sz := by rw [← Nat.add_mul, Nat.sub_add_cancel hJ]
  have hnl : (cells.drop (J * kd.sz)).length = (xs.length - J) * kd.sz := by rw [List.length_drop, hlen, Nat.sub_mul]
  have hcap : xs.length * kd.sz ≤ cur.size := by rw [hcur]; exact Nat.mul_le_mul_right _ hle
  have hcell : ∀ t, t < xs.length * kd.sz → (w.cell? ⟨g, t, none⟩) = cells[t]? := fun t ht => by
    obtain ⟨u, hu⟩ : ∃ u, cells[t]? = some u := ⟨_, List.getElem?_eq_getElem (by rw [hlen]; exact ht)⟩
    have := World.ownsRow.cells o1 (g := g) rfl t u hu
    rw [add0, Nat.zero_add] at this
    rw [this, hu]
  refine ⟨g, cells.drop (J * kd.sz), rfl, rfl, hle, hmx, hnl, ?_, ?_, ?_, ?_⟩
  · intro u hu
    have := List.mem_of_mem_drop hu
    rw [e2] at this
    obtain ⟨l, hl, hul⟩ := List.mem_flatten.1 this
    obtain ⟨p, hp, rfl⟩ := List.mem_map.1 hl
    exact kd.one (e3 p hp) u hul
  · intro t u hu
    rw [List.getElem?_drop] at hu
    have := (List.getElem?_eq_some_iff.1 hu).1
    rw [hcell _ (by rw [← hlen]; exact this), hu]
  · intro t ht
    refine ⟨?_, by simp [World.frozen?, hg]⟩
    rw [hcell t ht, List.getElem?_eq_getElem (by rw [hlen]; exact ht)]; rfl
  · intro zs hz
    have hIJ : (J - I) * kd.sz + I * kd.sz = J * kd.sz := by rw [← Nat.add_mul, Nat.sub_add_cancel (Nat.le_of_lt hI)]
    have hM : (I + (xs.length - J)) * kd.sz = I * kd.sz + (xs.length - J) * kd.sz := Nat.add_mul _ _ _
    obtain ⟨c1, g1, t1⟩ := setCells_row (b := g) (cells.drop (J * kd.sz)) (I * kd.sz) w.drew cur hg (by rw [hnl]; omega)
    have hs1 : c1.size = cur.size := by
      have := congrArg List.length t1
      simp only [Array.length_toList, List.length_append, List.length_take, List.length_drop] at this
      rw [hlen] at this
      omega
    obtain ⟨c2, g2, t2⟩ := setCells_row (b := g) zs ((I + (xs.length - J)) * kd.sz) _ c1 g1 (by rw [hz, hs1, hM]; omega)
    have hs2 : c2.size = cur.size := by
      have := congrArg List.length t2
      simp only [Array.length_toList, List.length_append, List.length_take, List.length_drop] at this
      omega
    have hGr : Gr w ((w.drew.setCells g (I * kd.sz) (cells.drop (J * kd.sz))).setCells g ((I + (xs.length - J)) * kd.sz) zs) (some g) := by
      have a1 := setCells_Gr w.drew g (I * kd.sz) (cells.drop (J * kd.sz))
      have a2 := setCells_Gr (w.drew.setCells g (I * kd.sz) (cells.drop (J * kd.sz))) g ((I + (xs.length - J)) * kd.sz) zs
      have a3 := a1.trans a2
      exact ⟨a3.os, a3.tape, a3.output, a3.size, a3.block⟩
    refine ⟨hGr, ((ps.take I ++ ps.drop J).map (·.2)).flatten, ⟨?_, .inr ⟨g, c, c2, ?_, h0, g2, ?_, hmx, by rw [hs2, hcur], ?_⟩⟩, ?_, o3⟩
    · rw [List.map_append, List.flatten_append, List.length_append, List.map_take, List.map_drop, ← flat_take kd.sz _ _ hps, ← flat_drop kd.sz _ _ hps, ← e2, List.length_take, hnl, hlen, List.length_append, List.length_take, List.length_drop, Nat.add_mul, Nat.min_eq_left (by omega), Nat.min_eq_left (by omega)]
    · rw [List.length_append, List.length_take, List.length_drop, Nat.min_eq_left (by omega)]
    · rw [List.length_append, List.length_take, List.length_drop, Nat.min_eq_left (by omega)]; omega
    · have hM2 : (xs.take I ++ xs.drop J).length = I + (xs.length - J) := by rw [List.length_append, List.length_take, List.length_drop, Nat.min_eq_left (by omega)]
      have hc1l : c1.toList.length = cur.size := by rw [Array.length_toList]; exact hs1
      have l1 : (c1.toList.take ((I + (xs.length - J)) * kd.sz)).length = (I + (xs.length - J)) * kd.sz := by rw [List.length_take, hc1l]; omega
      have l2 : (cur.toList.take (I * kd.sz)).length = I * kd.sz := by rw [List.length_take, Array.length_toList]; omega
      rw [hM2, t2, List.append_assoc, List.take_append_of_le_length (by rw [l1]; exact Nat.le_refl _), List.take_take, Nat.min_self, t1, List.take_append_of_le_length (by rw [List.length_append, l2, hnl, hM]; exact Nat.le_refl _), List.take_of_length_le (by rw [List.length_append, l2, hnl, hM]; exact Nat.le_refl _)]
      rw [List.map_append, List.flatten_append, List.map_take, List.map_drop, ← flat_take kd.sz _ _ hps, ← flat_drop kd.sz _ _ hps, ← e2, ← htake, List.take_take, Nat.min_eq_left (by omega)]
    · have hR : ∀ p ∈ ps.take I ++ ps.drop J, kd.R ((w.drew.setCells g (I * kd.sz) (cells.drop (J * kd.sz))).setCells g ((I + (xs.length - J)) * kd.sz) zs) (Fr O) p.1 p.2 := fun p hp => by
        have hm : p ∈ ps := by
          rcases List.mem_append.1 hp with hp | hp
          · exact List.mem_of_mem_take hp
          · exact List.mem_of_mem_drop hp
        exact kd.keep (e3 p hm) fun b hS hb => hGr.block b hb fun e => hS (by rw [e]; exact o3 g rfl)
      have := Arr.ofPairs hR
      rwa [List.map_append, List.map_take, List.map_drop, e1] at this
end
section
variable {P : Program}
theorem zeroCells_len (a : Array Value) (n : Nat) : (Builtin.zeroCells a n).toList.length = n * a.size := by simp [Builtin.zeroCells]
theorem zeroCells_one (a : Array Value) (n : Nat) (h : ∀ u ∈ a, u.oneCell' = true) : ∀ u ∈ (Builtin.zeroCells a n).toList, u.oneCell' = true := by
  intro u hu
  simp only [Builtin.zeroCells, Array.toList_map, List.mem_map, Array.mem_toList_iff, Array.mem_range] at hu
  obtain ⟨i, hi, rfl⟩ := hu
  have hp : 0 < a.size := by
    rcases Nat.eq_zero_or_pos a.size with h0 | h0
    · rw [h0, Nat.mul_zero] at hi; omega
    · exact h0
  have hm := Nat.mod_lt i hp
  rw [getElem!_pos a (i % a.size) hm]
  exact h _ (Array.getElem_mem hm)
theorem run_clear_sliceK (w : World) (t e ty : TypeId) (z : Value) (ht : P.underlying t = some (.slice e)) (hv : ∀ w, (zeroValue e).run P w = .ok z w) (h1 : ∀ u ∈ z.cells, u.oneCell' = true) (b o n c : Nat) (hn : 0 < n)
    (hc : ∀ j, j < n * z.cells.size → (w.cell? ⟨b, o + j, none⟩).isSome = true) (hf : ∀ j, j < n * z.cells.size → w.frozen? ⟨b, o + j, none⟩ = false) :
    (Builtin.clear_ #[t] ty #[.slice (some ⟨b, o, none⟩) n c]).run P w = .ok (.tuple #[]) (w.setCells b o (Builtin.zeroCells z.cells n).toList) := by
  have hst := run_storeCells_cells (P := P) b o (Builtin.zeroCells z.cells n).toList 0 w (by rw [zeroCells_len]; simpa using hc) (by rw [zeroCells_len]; simpa using hf) (zeroCells_one _ _ h1)
  simp only [Nat.add_zero] at hst
  obtain ⟨m, rfl⟩ : ∃ m, n = m + 1 := ⟨n - 1, by omega⟩
  simp [Builtin.clear_, run_underlying ht, hv, hst]
end
end
section
open Go.RowKit
open Go.Shelf Go.Sort Go.Lib
def F5.E (x : List Feat) (i j : Int) (Q : List Feat → Prop) : Prop := ((0 : Int) ≤ i ∧ i < j ∧ j ≤ (x.length : Int)) ∧ x.length ≤ 268435456 ∧ Q (x.take i.toNat ++ x.drop j.toNat)
set_option maxHeartbeats 4000000 in
set_option maxRecDepth 1000000 in
theorem F5.calls {O : Ob} (w0 : World) (hO : Ok w0 O) (A : Option Addr) (n c : Nat) (x : List Feat) (hp : Ow kFeat 61 w0 O (.slice A n c) x) (i j : Int) (Q : List Feat → Prop) (h : F5.E x i j Q) :
  Ret Tryz.prog 37 [.slice A n c, vi i, vi j] w0 (fun v w' => ∃ (m0 : List Feat) (l : Nat), v = .slice A l c ∧ Q m0 ∧ Gr w0 w' (blk (.slice A n c)) ∧ Ow kFeat 61 w' O (.slice A l c) m0) := by
 obtain ⟨⟨hi0, hij, hj⟩, hl, hq⟩ := h
 obtain ⟨I, rfl⟩ := Int.eq_ofNat_of_zero_le hi0
 obtain ⟨J, rfl⟩ := Int.eq_ofNat_of_zero_le (show (0 : Int) ≤ j by omega)
 rw [Int.toNat_natCast, Int.toNat_natCast] at hq
 have hIJ : I < J := by omega
 have hJ : J ≤ x.length := by omega
 obtain ⟨g, news, rfl, rfl, hcap, hm, hnl, s2', hnews, hrow, hend⟩ := hp.del I J hIJ hJ
 rw [show kFeat.sz = 4 from rfl] at hnl hnews hrow hend
 obtain ⟨ht, ⟨i0, z, hi, hz, hz1, hz2, hz3⟩, _, _, _⟩ := ei26
 have hzv : ∀ w, (zeroValue 61).run Tryz.prog w = .ok z w := fun w => by simp [zeroValue, typeInfo, hi, hz]
 have hzs : z.cells.size = 4 := by rw [← Array.length_toList, hz3]; rfl
 obtain ⟨zc, rfl⟩ : ∃ zc, z = .agg zc := by
  cases z <;> first | exact ⟨_, rfl⟩ | (exfalso; simp [Value.cells] at hzs)
 change zc.toList = _ at hz3
 change zc.size = 4 at hzs
 have hz1c : ∀ u ∈ zc, u.oneCell' = true := fun u hu => by
  have := Array.mem_toList_iff.2 hu
  rw [hz3] at this
  simp only [List.mem_cons, List.not_mem_nil, or_false] at this
  rcases this with rfl | rfl | rfl | rfl <;> rfl
 generalize hN : x.length = N at *
 obtain ⟨A, hA, hsrc⟩ : ∃ A : Addr, (if c = J then some (⟨g, 0, none⟩ : Addr) else some ⟨g, J * 4, none⟩) = some A ∧ Hid (∀ t u, news[t]? = some u → w0.drew.cell? (A.add t) = some u) := by
  by_cases h : c = J
  ·refine ⟨⟨g, 0, none⟩, by simp [h], fun t u hu => ?_⟩
   have h0 : news.length = 0 := by rw [hnl]; omega
   rw [List.length_eq_zero_iff.1 h0] at hu
   simp at hu
  ·refine ⟨⟨g, J * 4, none⟩, by simp [h], fun t u hu => ?_⟩
   rw [Addr.add_lit]
   exact hnews t u hu
 have s1 : Hid (news.length = (N - J) * 4) := hnl
 have s2 : Hid (∀ u ∈ news, u.oneCell' = true) := s2'
 have s3 : Hid (∀ t, t < news.length → (w0.drew.cell? ⟨g, 0 + I * 4 + t, none⟩).isSome = true ∧ w0.drew.frozen? ⟨g, 0 + I * 4 + t, none⟩ = false) := by
  intro t ht'
  rw [hnl] at ht'
  rw [Nat.zero_add]
  exact hrow _ (by omega)
 obtain ⟨W1, hW1⟩ : ∃ W1, W1 = w0.drew.setCells g (0 + I * 4) news := ⟨_, rfl⟩
 have hcl : ∀ ty, (Builtin.clear_ #[26] ty #[.slice (some ⟨g, (I + (N - J)) * 4, none⟩) (N - (I + (N - J))) (c - (I + (N - J)))]).run Tryz.prog W1 = .ok (.tuple #[]) (W1.setCells g ((I + (N - J)) * 4) (Builtin.zeroCells zc (N - (I + (N - J)))).toList) :=
  fun ty => run_clear_sliceK W1 _ _ ty (.agg zc) ht hzv hz1c g _ _ _ (by omega) (fun t ht' => by
   rw [show (Value.agg zc).cells.size = 4 from hzs] at ht'
   rw [hW1]
   exact World.isSome_setCells g _ _ _ _ (hrow _ (by omega)).1) (fun t ht' => by
   rw [show (Value.agg zc).cells.size = 4 from hzs] at ht'
   rw [hW1, World.frozen?_setCells]
   exact (hrow _ (by omega)).2)
 have hend' := hend (Builtin.zeroCells zc (N - (I + (N - J)))).toList (by rw [zeroCells_len, hzs]; congr 1; omega)
 rw [show w0.drew.setCells g (I * 4) news = W1 by rw [hW1, Nat.zero_add]] at hend'
 have X : Aside (Q (x.take I ++ x.drop J) ∧ Gr w0 (W1.setCells g ((I + (N - J)) * 4) (Builtin.zeroCells zc (N - (I + (N - J)))).toList) (some g) ∧ Ow kFeat 61 (W1.setCells g ((I + (N - J)) * 4) (Builtin.zeroCells zc (N - (I + (N - J)))).toList) O (.slice (some ⟨g, 0, none⟩) (I + (N - J)) c) (x.take I ++ x.drop J)) := ⟨hq, hend'.1, hend'.2⟩
 have hW : Hid (W1 = w0.drew.setCells g (0 + I * 4) news) := hW1
 have hic : I ≤ c := by omega
 have hjc : J ≤ c := by omega
 have hne : (I == J) = false := by simp; omega
 have hsz := ei26.size
 clear hW1 hend hend' hnews hrow hnl hq s2' hp hO hz3 hz1c hzv
 unfold Ret
 go_enter Tryz.func37, Tryz.ntmps37
 go_wp2_with fail
 go_region_law (refine step_append_room rfl (.tmp 22) (.tmp 25) 26 rfl 61 i0 4 ht hi hz1 g 0 I c (by simp [Act.eval, Act.put]) A (N - J) (c - J) news (by simp [Act.eval, Act.put]) s1.out hsrc.out s2.out (by omega) s3.out ?_; rw [← hW.out])
 go_wp2
 go_ret
 exact ⟨_, rfl, _, _, rfl, X.out⟩
end
end Go.Proofs.YtndjggncgpjolaaGreat
namespace Go.Proofs
open Go.Shelf
def Tryz.srt39_ren : Go.Shelf.Ren := ⟨fun | 6 => 39 | 15 => 74 | 14 => 73 | 28 => 110 | 29 => 111 | 20 => 102 | 21 => 103 | 22 => 104 | 23 => 105 | 24 => 106 | 25 => 107 | 26 => 108 | 27 => 109 | 46 => 125 | 47 => 126 | 48 => 127 | 49 => 128 | 50 => 129 | 57 => 147 | n => n, fun | 22 => 26 | 24 => 61 | 25 => 76 | 3 => 3 | 39 => 111 | 0 => 0 | 53 => 150 | 55 => 152 | 4 => 4 | 46 => 143 | 45 => 142 | 50 => 147 | 5 => 5 | 9 => 9 | 66 => 166 | 70 => 170 | 76 => 191 | 77 => 192 | n => n, fun | n => n⟩
theorem Tryz.srt39 : Go.Proofs.SlLaysF0.n6 Tryz.prog Tryz.srt39_ren := {
  mixed := by kernel_rfl
  f6 := ⟨ "slices.SortFunc[[]loop.example/townland/impl.Feat,loop.example/townland/impl.Feat]", by decide, Tryz.func39.trans (congrArg some (by kernel_rfl))⟩
  f14 := ⟨ "slices.pdqsortCmpFunc[loop.example/townland/impl.Feat]", by decide, Tryz.func73.trans (congrArg some (by kernel_rfl))⟩
  f15 := Tryz.func74.trans (congrArg some (by kernel_rfl))
  f20 := ⟨ "slices.insertionSortCmpFunc[loop.example/townland/impl.Feat]", by decide, Tryz.func102.trans (congrArg some (by kernel_rfl))⟩
  f21 := ⟨ "slices.heapSortCmpFunc[loop.example/townland/impl.Feat]", by decide, Tryz.func103.trans (congrArg some (by kernel_rfl))⟩
  f22 := ⟨ "slices.breakPatternsCmpFunc[loop.example/townland/impl.Feat]", by decide, Tryz.func104.trans (congrArg some (by kernel_rfl))⟩
  f23 := ⟨ "slices.choosePivotCmpFunc[loop.example/townland/impl.Feat]", by decide, Tryz.func105.trans (congrArg some (by kernel_rfl))⟩
  f24 := ⟨ "slices.reverseRangeCmpFunc[loop.example/townland/impl.Feat]", by decide, Tryz.func106.trans (congrArg some (by kernel_rfl))⟩
  f25 := ⟨ "slices.partialInsertionSortCmpFunc[loop.example/townland/impl.Feat]", by decide, Tryz.func107.trans (congrArg some (by kernel_rfl))⟩
  f26 := ⟨ "slices.partitionEqualCmpFunc[loop.example/townland/impl.Feat]", by decide, Tryz.func108.trans (congrArg some (by kernel_rfl))⟩
  f27 := ⟨ "slices.partitionCmpFunc[loop.example/townland/impl.Feat]", by decide, Tryz.func109.trans (congrArg some (by kernel_rfl))⟩
  f28 := Tryz.func110.trans (congrArg some (by kernel_rfl))
  f29 := Tryz.func111.trans (congrArg some (by kernel_rfl))
  f46 := ⟨ "slices.siftDownCmpFunc[loop.example/townland/impl.Feat]", by decide, Tryz.func125.trans (congrArg some (by kernel_rfl))⟩
  f47 := Tryz.func126.trans (congrArg some (by kernel_rfl))
  f48 := Tryz.func127.trans (congrArg some (by kernel_rfl))
  f49 := ⟨ "slices.medianAdjacentCmpFunc[loop.example/townland/impl.Feat]", by decide, Tryz.func128.trans (congrArg some (by kernel_rfl))⟩
  f50 := ⟨ "slices.medianCmpFunc[loop.example/townland/impl.Feat]", by decide, Tryz.func129.trans (congrArg some (by kernel_rfl))⟩
  f57 := ⟨ "slices.order2CmpFunc[loop.example/townland/impl.Feat]", by decide, Tryz.func147.trans (congrArg some (by kernel_rfl))⟩
  t0 := Tryz.underlying0
  a0 := Tryz.isAgg0
  z0 := Tryz.sizeOf0
  v0 := Tryz.zeroValue0
  t3 := Tryz.underlying3
  a3 := Tryz.isAgg3
  z3 := Tryz.sizeOf3
  v3 := Tryz.zeroValue3
  t4 := Tryz.underlying4
  a4 := Tryz.isAgg4
  z4 := Tryz.sizeOf4
  v4 := Tryz.zeroValue4
  t5 := Tryz.underlying5
  a5 := Tryz.isAgg5
  z5 := Tryz.sizeOf5
  v5 := Tryz.zeroValue5
  t9 := Tryz.underlying9
  a9 := Tryz.isAgg9
  z9 := Tryz.sizeOf9
  v9 := Tryz.zeroValue9
  t22 := Tryz.underlying26
  a22 := Tryz.isAgg26
  z22 := Tryz.sizeOf26
  v22 := Tryz.zeroValue26
  t25 := Tryz.underlying76
  a25 := Tryz.isAgg76
  z25 := Tryz.sizeOf76
  v25 := Tryz.zeroValue76
  t39 := Tryz.underlying111
  a39 := Tryz.isAgg111
  z39 := Tryz.sizeOf111
  v39 := Tryz.zeroValue111
  t45 := Tryz.underlying142
  a45 := Tryz.isAgg142
  z45 := Tryz.sizeOf142
  v45 := Tryz.zeroValue142
  t46 := Tryz.underlying143
  a46 := Tryz.isAgg143
  z46 := Tryz.sizeOf143
  v46 := Tryz.zeroValue143
  t50 := Tryz.underlying147
  a50 := Tryz.isAgg147
  z50 := Tryz.sizeOf147
  v50 := Tryz.zeroValue147
  t53 := Tryz.underlying150
  a53 := Tryz.isAgg150
  z53 := Tryz.sizeOf150
  v53 := Tryz.zeroValue150
  t55 := Tryz.underlying152
  a55 := Tryz.isAgg152
  z55 := Tryz.sizeOf152
  v55 := Tryz.zeroValue152
  t66 := Tryz.underlying166
  a66 := Tryz.isAgg166
  z66 := Tryz.sizeOf166
  v66 := Tryz.zeroValue166
  t70 := Tryz.underlying170
  a70 := Tryz.isAgg170
  z70 := Tryz.sizeOf170
  v70 := Tryz.zeroValue170
  t76 := Tryz.underlying191
  a76 := Tryz.isAgg191
  z76 := Tryz.sizeOf191
  v76 := Tryz.zeroValue191
  t77 := Tryz.underlying192
  a77 := Tryz.isAgg192
  z77 := Tryz.sizeOf192
  v77 := Tryz.zeroValue192 }
end Go.Proofs
namespace Go.Proofs.YtndjggncgpjolaaGreat
set_option linter.unusedVariables false
set_option linter.unusedSimpArgs false
set_option linter.unusedSectionVars false
set_option maxHeartbeats 8000000
set_option maxRecDepth 100000
section
open Go.RowKit
open Go.Shelf Go.Sort Go.Lib
def F3.E (x : List Feat) (Q : List Feat → Prop) : Prop := x.length ≤ 268435456 ∧ ∀ r : List Feat, r.Perm x → (r.Pairwise fun a b => Op.bytesLess b.Id a.Id = false) → Q r
instance : Inhabited (KE kFeat Feat.Id) := ⟨⟨(⟨[], ⟨0, []⟩, []⟩, [vs [], vi 0, .slice none 0 0, .slice none 0 0]), rfl, by decide, rfl⟩⟩
theorem kFeat_key {w : World} {S : Sp} (x : Feat) (cs : List Value) (h : kFeat.R w S x cs) : cs[0]? = some (vs x.Id) := by
 obtain ⟨A1, n1, c1, A2, n2, c2, rfl, _⟩ := kFeat.op h
 rfl
def CmpFeat (g : FuncId) (cf : Str → Str → Int) : Prop := ∀ (s t : Str) (a1 a2 a3 b1 b2 b3 : Value) (W : World),
 Calls Tryz.prog g #[.agg #[vs s, a1, a2, a3], .agg #[vs t, b1, b2, b3]] W fun e w' => e = .returned (vi (cf s t)) ∧ ∃ q os, w' = Sort.grow (W.drewN q) os
theorem F3.calls {O : Ob} (w0 : World) (hO : Ok w0 O) (A : Option Addr) (n c : Nat) (x : List Feat) (hp : Ow kFeat 61 w0 O (.slice A n c) x) (g : FuncId) (hg : Goes Tryz.prog g) (cf : Str → Str → Int) (hlt : ∀ s t, decide (cf s t < 0) = Op.bytesLess s t) (hcf : CmpFeat g cf)
  (Q : List Feat → Prop) (h : F3.E x Q) :
  Ret Tryz.prog 39 [.slice A n c, .func (.func g) #[] #[]] w0 (fun v w' => ∃ (m0 : List Feat), v = .tuple #[] ∧ Q m0 ∧ Gr w0 w' (blk (.slice A n c)) ∧ Ow kFeat 61 w' O (.slice A n c) m0) := by
 obtain ⟨hl, hq⟩ := h
 by_cases hx : 0 < x.length
 ·obtain ⟨b, d, rfl, rfl, e1, h1, h2, h3⟩ := Ow.sortK (by decide) Feat.Id (fun x cs h => kFeat_key x cs h) hp hx
  have hsz : d.size = x.length := by rw [← e1]; simp
  have e2 : (ltOf fun x y : KE kFeat Feat.Id => cf x.1.1.Id y.1.1.Id) = fun x y => Op.bytesLess x.1.1.Id y.1.1.Id := by funext x y; exact hlt _ _
  have hcmp : CmpLays Tryz.prog g #[] (KE.cs (kd := kFeat) (key := Feat.Id)) 4 (fun x y => cf x.1.1.Id y.1.1.Id) b 0 d.size w0 := fun m os dk _ x y => by
   obtain ⟨⟨px, cx⟩, l1, _, k1⟩ := x
   obtain ⟨⟨py, cy⟩, l2, _, k2⟩ := y
   match cx, l1, k1, cy, l2, k2 with
   | [u0, u1, u2, u3], _, k1, [v0, v1, v2, v3], _, k2 =>
    simp only [List.getElem?_cons_zero, Option.some.injEq] at k1 k2
    subst k1; subst k2
    exact hcf _ _ _ _ _ _ _ _ _
  refine Calls.mono (AnyQ.slices_SortFunc Tryz.srt39 4 Tryz.isAgg61 Tryz.sizeOf61 (KE.cs (kd := kFeat) (key := Feat.Id)) (fun x => x.2.1) (fun x => x.2.2.1) (fun x y => cf x.1.1.Id y.1.1.Id) (by rw [e2]; exact ltK_swo) g #[] b 0 c d w0 (fun a w => hg.run a w) hcmp h1 h2 (by rw [hsz]; omega)) fun e w' ⟨he, d', q, os, hperm, hsort, hw⟩ => ?_
  subst he; subst hw
  have hd : d'.toList.Perm d.toList := by
   have := hperm.2.2
   have s1 := hperm.1
   rw [show d'.extract 0 d.size = d' by rw [← s1]; exact Array.extract_size, show d.extract 0 d.size = d from Array.extract_size] at this
   exact this
  obtain ⟨g1, g2⟩ := h3 d' q os hd
  refine ⟨_, rfl, d'.toList.map (fun y : KE kFeat Feat.Id => y.1.1), rfl, hq _ (by rw [← e1]; exact hd.map _) ?_, g1, g2⟩
  rw [e2] at hsort
  rw [List.pairwise_map]
  refine List.pairwise_iff_getElem.2 fun i j hi hj hij => ?_
  rw [Array.length_toList] at hi hj
  have := hsort i j (Nat.zero_le _) hij (by rw [← hperm.1]; exact hj)
  rw [getElem!_pos d' i hi, getElem!_pos d' j hj] at this
  simpa using this
 ·have e0 : x = [] := List.length_eq_zero_iff.1 (by omega)
  subst e0
  obtain rfl : n = 0 := hp.len
  refine Calls.mono (AnyF.slices_SortFunc_none Tryz.srt39 A c _ w0) fun e w' ⟨he, hw⟩ => ?_
  subst he; subst hw
  exact ⟨_, rfl, [], rfl, hq [] (.refl _) .nil, Gr.refl _ _, hp⟩
end
section
open Go.RowKit
open Go.Shelf Go.Sort Go.Lib
def F38.cf (s t : Str) : Int := if Op.bytesLess s t then -1 else 1
theorem F38.hlt (s t : Str) : decide (F38.cf s t < 0) = Op.bytesLess s t := by unfold F38.cf; cases Op.bytesLess s t <;> rfl
set_option maxHeartbeats 1000000 in
theorem F38.cmp : CmpFeat 40 F38.cf := by
 intro s t a1 a2 a3 b1 b2 b3 W
 go_enter Tryz.func40, Tryz.ntmps40
 go_wp2
 all_goals
  go_ret
  refine ⟨?_, 0, _, by rw [alloc_eq_grow, alloc_eq_grow, grow_grow]; rfl⟩
  simp_all [F38.cf]
end
section
open Go.RowKit
def F92.E (s : List Feat) (d : List Change) (Q : List Feat → Bool → Prop) : Prop :=
 F56.E s (fun r => (if !r then Q ([] : List Feat) false else F90.E d (fun r2 => (if !r2 then Q ([] : List Feat) false else F16.E s (fun r3 => (∃ (I106 : (List Feat) → Int → Prop) (mu107 : (List Feat) → Int → Nat), I106 r3 0 ∧ ∀ (xs2 : List Feat) (v2 : Int), I106 xs2 v2 → (if decide (v2 < (d.length : Int)) then ((0 : Int) ≤ v2 ∧ v2 < (d.length : Int)) ∧ F122.E s ((nth d v2).Id) (fun r4 r5 => (if r5 != ((nth d v2).Had) then Q ([] : List Feat) false else F36.E r4 ((nth d v2).Was) (fun r6 => (if !r6 then Q ([] : List Feat) false else F91.E xs2 ((nth d v2).Id) (fun r7 => (if decide (r7 ≥ 0) then (I64 (r7 + 1)) ∧ F5.E xs2 r7 (r7 + 1) (fun r8 => (if (nth d v2).Has then F26.E ((nth d v2).Now) (fun r9 => (r8.length + ([r9] : List Feat).length ≤ 268435456) ∧ (I64 (v2 + 1)) ∧ I106 (r8 ++ ([r9] : List Feat)) (v2 + 1) ∧ mu107 (r8 ++ ([r9] : List Feat)) (v2 + 1) < mu107 xs2 v2) else (I64 (v2 + 1)) ∧ I106 r8 (v2 + 1) ∧ mu107 r8 (v2 + 1) < mu107 xs2 v2)) else (if (nth d v2).Has then F26.E ((nth d v2).Now) (fun r10 => (xs2.length + ([r10] : List Feat).length ≤ 268435456) ∧ (I64 (v2 + 1)) ∧ I106 (xs2 ++ ([r10] : List Feat)) (v2 + 1) ∧ mu107 (xs2 ++ ([r10] : List Feat)) (v2 + 1) < mu107 xs2 v2) else (I64 (v2 + 1)) ∧ I106 xs2 (v2 + 1) ∧ mu107 xs2 (v2 + 1) < mu107 xs2 v2))))))) else F3.E xs2 (fun m => F56.E m (fun r11 => (if !r11 then Q ([] : List Feat) false else F16.E m (fun r12 => Q r12 true)))))))))))
theorem F92.calls {O : Ob} (w0 : World) (hO : Ok w0 O) (s : List Feat) (A1 : Option Addr) (n2 c3 : Nat) (hp4 : Sl kFeat w0 (Fr O) (.slice A1 n2 c3) s) (d : List Change) (A6 : Option Addr) (n7 c8 : Nat) (hp9 : Sl kChange w0 (Fr O) (.slice A6 n7 c8) d) (Q : List Feat → Bool → Prop) (h : F92.E s d Q) :
  Ret Tryz.prog 10 [.slice A1 n2 c3, .slice A6 n7 c8] w0 (fun v w' => ∃ (r0 : List Feat) (r1 : Bool) (A0 : Option Addr) (n0 c0 : Nat) (q0 : Ob) (ra0 : List (List Value)), v = .tuple #[.slice A0 n0 c0, vb r1] ∧ Q r0 r1 ∧ Gr w0 w' none ∧ Ok w' ((bk A0 :: (q0 ++ [])) ++ O) ∧ (∀ b, some b ∈ (bk A0 :: (q0 ++ [])) → w0.heap.size ≤ b) ∧ Ow (Kd.cells 4) 61 w' ((bk A0 :: (q0 ++ [])) ++ O) (.slice A0 n0 c0) ra0 ∧ DArr dFeat_61 w' q0 r0 ra0) := by
 unfold F92.E at h
 have H := h
 clear h
 have hc0 := Ct.init hO
 refine Ret_enter Tryz.func10 rfl 76 rfl [.tmp 4, .tmp 5] rfl rfl ?_
 refine W_seq (W_reg (L_as (.slice none 0 0) rfl (L_as (vb false) rfl (L_nil (W_seq (W_seq (W_reg (L_mv (.slice A1 n2 c3) rfl ?_))))))))
 refine L_call go31 [.slice A1 n2 c3] rfl ((F56.calls w0 hc0.ok s A1 n2 c3 hp4 _ H).mono ?_)
 rintro _ eg ⟨r, rfl, H, gs⟩
 have ci := hc0.k0 gs
 refine L_pu (P_not r rfl) (L_mv (vb (!r)) rfl ?_)
 rcases bool_or (!r) with aq | aq
 ·have H := ite_t H aq
  refine L_pb aq rfl (L_pb aq rfl (L_pb aq rfl (L_pu (P_pick true (vb true) (by exact congrArg Value.bool aq) rfl) (L_nil (W_ct (b := true) rfl rfl ?_)))))
  refine W_seq (W_reg ?_)
  have gt : DArr dFeat_61 eg ([] : Ob) ([] : List Feat) ([] : List (List Value)) := rfl
  refine L_lit (kd := Kd.cells 4) ei26 ci ([] : List (List Value)) (cells := []) rfl (fun _ => by kernel_rfl) fun k4 bz c6 c7 gu hr23 eh gw => ?_
  have ei : ([bk bz] : Ob).Perm (bk bz :: (([] : Ob) ++ [])) := (pc fun a => by (try simp only [pca, pcc, pcn, Nat.add_zero, Nat.zero_add]); first | done | ac_rfl)
  have c9 := eh.perm ei
  refine L_as (.slice bz c6 c7) rfl (L_as (vb false) rfl (L_nil (W_ret ?_)))
  have gx := (eh.sp gw ei)
  have gy := (gt.k0 gu)
  exact ⟨[.slice bz c6 c7, vb false], ⟨_, rfl, ⟨_, rfl, rfl⟩⟩, ([] : List Feat), false, bz, c6, c7, ([] : Ob), ([] : List (List Value)), rfl, H, c9.gr.g0, c9.ok, c9.ge, gx, gy⟩
 have H := ite_f H aq
 refine L_rb aq rfl (L_mv (.slice A6 n7 c8) rfl (L_rb aq rfl ?_))
 refine L_call go32 [.slice A6 n7 c8] rfl ((F90.calls eg ci.ok d A6 n7 c8 (hp9.st ci.st) _ H).mono ?_)
 rintro _ ej ⟨r2, rfl, H, gz⟩
 have cj := ci.k0 gz
 refine L_rb aq rfl (L_pu (P_not r2 rfl) (L_pu (P_pick false (vb (!r2)) (by exact congrArg Value.bool aq) rfl) (L_nil ?_)))
 refine W_cond (!r2) rfl (fun da => ?_) (fun da => ?_)
 ·have H := ite_t H da
  refine W_seq (W_reg ?_)
  have g1 : DArr dFeat_61 ej ([] : Ob) ([] : List Feat) ([] : List (List Value)) := rfl
  refine L_lit (kd := Kd.cells 4) ei26 cj ([] : List (List Value)) (cells := []) rfl (fun _ => by kernel_rfl) fun k5 b0 db dc g2 hr44 ek g3 => ?_
  have el : ([bk b0] : Ob).Perm (bk b0 :: (([] : Ob) ++ [])) := (pc fun a => by (try simp only [pca, pcc, pcn, Nat.add_zero, Nat.zero_add]); first | done | ac_rfl)
  have dd := ek.perm el
  refine L_as (.slice b0 db dc) rfl (L_as (vb false) rfl (L_nil (W_ret ?_)))
  have g4 := (ek.sp g3 el)
  have g5 := (g1.k0 g2)
  exact ⟨[.slice b0 db dc, vb false], ⟨_, rfl, ⟨_, rfl, rfl⟩⟩, ([] : List Feat), false, b0, db, dc, ([] : Ob), ([] : List (List Value)), rfl, H, dd.gr.g0, dd.ok, dd.ge, g4, g5⟩
 have H := ite_f H da
 refine W_skip (W_seq (W_reg (L_mv (.slice A1 n2 c3) rfl ?_)))
 refine L_call go33 [.slice A1 n2 c3] rfl ((F16.calls ej cj.ok s A1 n2 c3 (hp4.st cj.st) _ H).mono ?_)
 rintro _ k6 ⟨r3, bc, em, en, b1, k7, rfl, H, g6, g7, g8, g9, ha⟩
 have eo := cj.owns g6 g7 g8
 have ep : (((bk bc :: (b1 ++ [])) ++ []) : Ob).Perm (bk bc :: (b1 ++ [])) := (pc fun a => by (try simp only [pca, pcc, pcn, Nat.add_zero, Nat.zero_add]); first | done | ac_rfl)
 have de := eo.perm ep
 refine L_as (.slice bc em en) rfl (L_nil (W_seq (W_seq (W_reg (L_mv (.slice A6 n7 c8) rfl ?_)))))
 have k8 := (hp9.st de.st).le
 refine L_pu (P_len Tryz.underlying30 A6 n7 c8 (hp9.st de.st).len rfl) (L_mv (vi 0) rfl (L_nil (W_block ?_)))
 have hb := (eo.spa g9 ep)
 have hc := ha
 have hd : ((bk bc :: (b1 ++ [])) : Ob).Perm (b1 ++ [bk bc]) := (pc fun a => by (try simp only [pca, pcc, pcn, Nat.add_zero, Nat.zero_add]); first | done | ac_rfl)
 obtain ⟨he, df, k9⟩ := Dp.own (L := (bk bc :: (b1 ++ []))) (O := O) hb hc de hd (memi 0 rfl)
 obtain ⟨hf, hg, dg, H⟩ := H
 refine W_loop (α := (List Feat) × (Option Addr) × Nat × Nat × Int) (fun (sv__ : (List Feat) × (Option Addr) × Nat × Nat × Int) t bf => match sv__ with | (xs2, aa, ad, ac, v2) => hf xs2 v2 ∧ Has t [(0, .slice A1 n2 c3), (6, .slice aa ad ac), (23, .slice A6 n7 c8), (24, vi (d.length : Int)), (25, vi v2)] ∧ Ct [] w0 bf [bk aa] O ∧ Sl kFeat bf (Fr ([bk aa] ++ O)) (.slice A1 n2 c3) s ∧ Sl kChange bf (Fr ([bk aa] ++ O)) (.slice A6 n7 c8) d ∧ Ow kFeat 61 bf ([bk aa] ++ O) (.slice aa ad ac) xs2) (fun (sv__ : (List Feat) × (Option Addr) × Nat × Nat × Int) => match sv__ with | (xs2, _, _, _, v2) => hg xs2 v2) (r3, bc, em, en, 0) ⟨dg, (hasI rfl), df, (hp4.st df.st), (hp9.st df.st), he⟩ ?_
 rintro ⟨xs2, aa, ad, ac, v2⟩ _ bf ⟨dg, hh, ck, hi, bg, b2⟩
 obtain ⟨la, rfl⟩ := Has.ins hh
 have H := H xs2 v2 dg
 refine W_seq (W_reg (L_pu (P_cmp v2 (d.length : Int) (decide (v2 < (d.length : Int))) rfl rfl rfl) (L_nil (W_seq ?_))))
 refine W_cond (decide (v2 < (d.length : Int))) rfl (fun dh => ?_) (fun dh => ?_)
 ·have H := ite_t H dh
  refine W_skip (W_seq (W_block (W_seq (W_reg ?_))))
  obtain ⟨eq, H⟩ := H
  obtain ⟨er, lb, hj, lc, hk, hl⟩ := bg.get default (by decide) v2 eq
  obtain ⟨bh, bi, bj, bl, bn, bo, a1, a2, a3, a4, a5, a6, rfl, es, hm, hn, ho, et, eu, ev⟩ := kChange.op hk
  refine L_pu (P_ia Tryz.underlying30 se30 A6 er n7 c8 bg.len v2 rfl hj rfl eq) (L_pu (P_lda ag63 sz63 cL (er.add (v2.toNat * 11)) [vs ((nth d v2).Id), vb ((nth d v2).Had), vs ((nth d v2).Was.Id), vi ((nth d v2).Was.Shape.Kind), .slice bh bi bj, .slice bl bn bo, vb ((nth d v2).Has), vs ((nth d v2).Now.Id), vi ((nth d v2).Now.Shape.Kind), .slice a1 a2 a3, .slice a4 a5 a6] rfl rfl hl) (L_alloc [vs [], vb false, vs [], .int .i64 0, .slice none 0 0, .slice none 0 0, vb false, vs [], .int .i64 0, .slice none 0 0, .slice none 0 0] ze63 fun ld ab bp hu147 bq hp => ?_))
  have br := ck.own bq (some ab) (oglt bp hu147)
  refine L_stb ab 0 [vs ([] : Str), vb false, vs ([] : Str), vi 0, .slice none 0 0, .slice none 0 0, vb false, vs ([] : Str), vi 0, .slice none 0 0, .slice none 0 0] [vs ((nth d v2).Id), vb ((nth d v2).Had), vs ((nth d v2).Was.Id), vi ((nth d v2).Was.Shape.Kind), .slice bh bi bj, .slice bl bn bo, vb ((nth d v2).Has), vs ((nth d v2).Now.Id), vi ((nth d v2).Now.Shape.Kind), .slice a1 a2 a3, .slice a4 a5 a6] [vs ((nth d v2).Id), vb ((nth d v2).Had), vs ((nth d v2).Was.Id), vi ((nth d v2).Was.Shape.Kind), .slice bh bi bj, .slice bl bn bo, vb ((nth d v2).Has), vs ((nth d v2).Now.Id), vi ((nth d v2).Now.Shape.Kind), .slice a1 a2 a3, .slice a4 a5 a6] rfl hp rfl sz63 rfl rfl rfl fun hq bs ew => ?_
  have bd := br.wr 0 rfl bs
  refine L_nil (W_seq (W_reg (L_mv (.slice A1 n2 c3) rfl (L_pu (P_fa fa63_0 ⟨ab, 0, none⟩ ⟨ab, 0, none⟩ rfl rfl) (L_pu (P_ld ag9 cL ⟨ab, 0, none⟩ (vs ((nth d v2).Id)) rfl (ew.cell rfl)) ?_)))))
  have ar := ck.stown _ bq (oge bp)
  have au := br.stw 0 rfl bs
  have b3 := ((hi.st ar).st au)
  refine L_call go34 [.slice A1 n2 c3, vs ((nth d v2).Id)] rfl ((F122.calls hq bd.ok s A1 n2 c3 b3 ((nth d v2).Id) es _ H).mono ?_)
  rintro _ lf ⟨r4, r5, af, a7, a8, ag, a9, ba, rfl, H, av, hr, ax, hs, ht, hu⟩
  have bt := bd.owns av hr ax
  refine L_mv (.tuple #[.agg #[vs r4.Id, vi r4.Shape.Kind, .slice af a7 a8, .slice ag a9 ba], vb r5]) rfl (L_pu (P_ext [.agg #[vs r4.Id, vi r4.Shape.Kind, .slice af a7 a8, .slice ag a9 ba], vb r5] 0 (.agg #[vs r4.Id, vi r4.Shape.Kind, .slice af a7 a8, .slice ag a9 ba]) rfl rfl) (L_pu (P_ext [.agg #[vs r4.Id, vi r4.Shape.Kind, .slice af a7 a8, .slice ag a9 ba], vb r5] 1 (vb r5) rfl rfl) (L_alloc [vs [], .int .i64 0, .slice none 0 0, .slice none 0 0] ze61 fun lg bb al hu179 ai hv => ?_)))
  have aj := bt.own ai (some bb) (oglt al hu179)
  refine L_stb bb 0 [vs ([] : Str), vi 0, .slice none 0 0, .slice none 0 0] [vs r4.Id, vi r4.Shape.Kind, .slice af a7 a8, .slice ag a9 ba] [vs r4.Id, vi r4.Shape.Kind, .slice af a7 a8, .slice ag a9 ba] rfl hv rfl sz61 rfl rfl rfl fun ex ak hw => ?_
  have ay := aj.wr 0 rfl ak
  refine L_as (vb r5) rfl (L_nil (W_seq (W_seq (W_reg (L_mv (vb r5) rfl (L_pu (P_fa fa63_1 ⟨ab, 0, none⟩ ⟨ab, 1, none⟩ rfl rfl) ?_))))))
  have di := (aj.bm ((ew.k0 av).k0 ai) 3 0 rfl rfl rfl ak)
  refine L_pu (P_ld ag4 cL ⟨ab, 1, none⟩ (vb ((nth d v2).Had)) rfl (di.cell rfl)) (L_pu (P_bcmp Tryz.underlying4 r5 ((nth d v2).Had) (r5 != ((nth d v2).Had)) rfl rfl rfl) (L_mv (vb (r5 != ((nth d v2).Had))) rfl ?_))
  rcases bool_or (r5 != ((nth d v2).Had)) with ah | ah
  ·have H := ite_t H ah
   refine L_pb ah rfl (L_pb ah rfl (L_pb ah rfl (L_pb ah rfl (L_pb ah rfl (L_pu (P_pick true (vb true) (by exact congrArg Value.bool ah) rfl) (L_nil (W_ct (b := true) rfl rfl ?_)))))))
   refine W_seq ?_
   have hx : ([some bb, bk af, bk ag, some ab, bk aa] : Ob).Perm ((some bb :: bk af :: bk ag :: some ab :: bk aa :: []) ++ []) := (pc fun a => by (try simp only [pca, pcc, pcn, Nat.add_zero, Nat.zero_add]); first | done | ac_rfl)
   have hy := ay.drops hx
   refine W_reg ?_
   have hz : DArr dFeat_61 ex ([] : Ob) ([] : List Feat) ([] : List (List Value)) := rfl
   refine L_lit (kd := Kd.cells 4) ei26 hy ([] : List (List Value)) (cells := []) rfl (fun _ => by kernel_rfl) fun lh b4 dj dk h0 hr196 ey h1 => ?_
   have ez : ([bk b4] : Ob).Perm (bk b4 :: (([] : Ob) ++ [])) := (pc fun a => by (try simp only [pca, pcc, pcn, Nat.add_zero, Nat.zero_add]); first | done | ac_rfl)
   have dl := ey.perm ez
   refine L_as (.slice b4 dj dk) rfl (L_as (vb false) rfl (L_nil (W_ret ?_)))
   have h2 := (ey.sp h1 ez)
   have h3 := (hz.k0 h0)
   exact ⟨[.slice b4 dj dk, vb false], ⟨_, rfl, ⟨_, rfl, rfl⟩⟩, ([] : List Feat), false, b4, dj, dk, ([] : Ob), ([] : List (List Value)), rfl, H, dl.gr.g0, dl.ok, dl.ge, h2, h3⟩
  have H := ite_f H ah
  refine L_rb ah rfl (L_pu (P_lda ag61 sz61 cL ⟨bb, 0, none⟩ [vs r4.Id, vi r4.Shape.Kind, .slice af a7 a8, .slice ag a9 ba] rfl rfl (hw.cells (off := 0) rfl)) (L_rb ah rfl (L_pu (P_fa fa63_2 ⟨ab, 0, none⟩ ⟨ab, 2, none⟩ rfl rfl) (L_rb ah rfl (L_pu (P_lda ag61 sz61 cL ⟨ab, 2, none⟩ [vs ((nth d v2).Was.Id), vi ((nth d v2).Was.Shape.Kind), .slice bh bi bj, .slice bl bn bo] rfl rfl (di.cells (off := 2) rfl)) (L_rb ah rfl ?_))))))
  have h4 := (aj.sw (ht.so _ ai (oge al)) 1 0 rfl rfl rfl ak)
  have h5 := ay.gv h4 1 rfl
  have dm := ay.drop 1 rfl
  have h6 := (ay.sd (aj.sw (hu.so _ ai (oge al)) 2 0 rfl rfl rfl ak) 2 1 rfl rfl rfl)
  have h7 := dm.gv h6 1 rfl
  have h8 := dm.drop 1 rfl
  have dn := dm.std 1 rfl
  have e0 := bd.stos av ax
  have e1 := bt.stown _ ai (oge al)
  have e2 := aj.stw 0 rfl ak
  have e3 := ay.std 1 rfl
  have h9 := (((((((hn.st ar).st au).st e0).st e1).st e2).st e3).st dn)
  have ia := (((((((ho.st ar).st au).st e0).st e1).st e2).st e3).st dn)
  refine L_call go35 [.agg #[vs r4.Id, vi r4.Shape.Kind, .slice af a7 a8, .slice ag a9 ba], .agg #[vs ((nth d v2).Was.Id), vi ((nth d v2).Was.Shape.Kind), .slice bh bi bj, .slice bl bn bo]] rfl ((F36.calls ex h8.ok r4 af a7 a8 ag a9 ba hs (h5.st dn) h7 ((nth d v2).Was) bh bi bj bl bn bo hm h9 ia _ H).mono ?_)
  rintro _ e4 ⟨r6, rfl, H, az⟩
  have bu := ay.k0 az
  refine L_rb ah rfl (L_pu (P_not r6 rfl) (L_pu (P_pick false (vb (!r6)) (by exact congrArg Value.bool ah) rfl) (L_nil ?_)))
  refine W_cond (!r6) rfl (fun dp => ?_) (fun dp => ?_)
  ·have H := ite_t H dp
   refine W_seq ?_
   have ib : ([some bb, bk af, bk ag, some ab, bk aa] : Ob).Perm ((some bb :: bk af :: bk ag :: some ab :: bk aa :: []) ++ []) := (pc fun a => by (try simp only [pca, pcc, pcn, Nat.add_zero, Nat.zero_add]); first | done | ac_rfl)
   have ic := bu.drops ib
   refine W_reg ?_
   have id : DArr dFeat_61 e4 ([] : Ob) ([] : List Feat) ([] : List (List Value)) := rfl
   refine L_lit (kd := Kd.cells 4) ei26 ic ([] : List (List Value)) (cells := []) rfl (fun _ => by kernel_rfl) fun li b5 dq dr ie hr234 e5 ig => ?_
   have e6 : ([bk b5] : Ob).Perm (bk b5 :: (([] : Ob) ++ [])) := (pc fun a => by (try simp only [pca, pcc, pcn, Nat.add_zero, Nat.zero_add]); first | done | ac_rfl)
   have ds := e5.perm e6
   refine L_as (.slice b5 dq dr) rfl (L_as (vb false) rfl (L_nil (W_ret ?_)))
   have ih := (e5.sp ig e6)
   have ii := (id.k0 ie)
   exact ⟨[.slice b5 dq dr, vb false], ⟨_, rfl, ⟨_, rfl, rfl⟩⟩, ([] : List Feat), false, b5, dq, dr, ([] : Ob), ([] : List (List Value)), rfl, H, ds.gr.g0, ds.ok, ds.ge, ih, ii⟩
  have H := ite_f H dp
  refine W_skip (W_seq (W_seq ?_))
  have ae : ([some bb, bk af, bk ag, some ab, bk aa] : Ob).Perm ((some bb :: bk af :: bk ag :: []) ++ [some ab, bk aa]) := (pc fun a => by (try simp only [pca, pcc, pcn, Nat.add_zero, Nat.zero_add]); first | done | ac_rfl)
  have be := bu.drops ae
  refine W_reg (L_mv (.slice aa ad ac) rfl (L_pu (P_fa fa63_0 ⟨ab, 0, none⟩ ⟨ab, 0, none⟩ rfl rfl) ?_))
  have dt := (di.k0 az)
  refine L_pu (P_ld ag9 cL ⟨ab, 0, none⟩ (vs ((nth d v2).Id)) rfl (dt.cell rfl)) ?_
  have ij := (bu.odr ((aj.sw (((br.sw (b2.so _ bq (oge bp)) 1 0 rfl rfl rfl bs).sos av ax).so _ ai (oge al)) 4 0 rfl rfl rfl ak).sn az) ae 1 rfl)
  have ik := be.gv ij 1 rfl
  have il := be.drop 1 rfl
  refine L_call go36 [.slice aa ad ac, vs ((nth d v2).Id)] rfl ((F91.calls e4 il.ok xs2 aa ad ac ik ((nth d v2).Id) es _ H).mono ?_)
  rintro _ e7 ⟨r7, rfl, H, a0⟩
  have aw := be.k0 a0
  refine L_as (vi r7) rfl (L_nil (W_seq (W_reg (L_mv (vi r7) rfl (L_pu (P_cmp r7 0 (decide (r7 ≥ 0)) rfl rfl rfl) (L_nil ?_))))))
  refine W_cond (decide (r7 ≥ 0)) rfl (fun du => ?_) (fun du => ?_)
  ·have H := ite_t H du
   refine W_reg (L_mv (.slice aa ad ac) rfl (L_mv (vi r7) rfl (L_mv (vi r7) rfl ?_)))
   obtain ⟨im, H⟩ := H
   refine L_pu (P_add r7 1 rfl rfl im) ?_
   have io := ((bu.odr ((aj.sw (((br.sw (b2.so _ bq (oge bp)) 1 0 rfl rfl rfl bs).sos av ax).so _ ai (oge al)) 4 0 rfl rfl rfl ak).sn az) ae 1 rfl).sn a0)
   refine L_call go37 [.slice aa ad ac, vi r7, vi (r7 + 1)] rfl ((F5.calls e7 aw.ok aa ad ac xs2 io r7 (r7 + 1) _ H).mono ?_)
   rintro _ ip ⟨r8, cl, rfl, H, cm, e8⟩
   have bv := aw.wr 1 rfl cm
   refine L_as (.slice aa cl ac) rfl (L_nil (W_seq (W_reg (L_pu (P_fa fa63_3 ⟨ab, 0, none⟩ ⟨ab, 6, none⟩ rfl rfl) ?_))))
   have e9 := (aw.bm (dt.k0 a0) 0 1 rfl rfl rfl cm)
   refine L_pu (P_ld ag4 cL ⟨ab, 6, none⟩ (vb ((nth d v2).Has)) rfl (e9.cell rfl)) (L_nil ?_)
   refine W_cond ((nth d v2).Has) rfl (fun dv => ?_) (fun dv => ?_)
   ·have H := ite_t H dv
    refine W_reg (L_mv (.slice aa cl ac) rfl (L_pu (P_fa fa63_4 ⟨ab, 0, none⟩ ⟨ab, 7, none⟩ rfl rfl) (L_pu (P_lda ag61 sz61 cL ⟨ab, 7, none⟩ [vs ((nth d v2).Now.Id), vi ((nth d v2).Now.Shape.Kind), .slice a1 a2 a3, .slice a4 a5 a6] rfl rfl (e9.cells (off := 7) rfl)) ?_)))
    have cn := bd.stos av ax
    have co := bt.stown _ ai (oge al)
    have cp := aj.stw 0 rfl ak
    have cq := ay.stn az
    have cr := be.stn a0
    have cs := aw.stw 1 rfl cm
    have iq := (((((((((eu.st ar).st au).st cn).st co).st cp).st cq).st (St.drops _ O ae)).st cr).st cs)
    have ir := (((((((((ev.st ar).st au).st cn).st co).st cp).st cq).st (St.drops _ O ae)).st cr).st cs)
    refine L_call go38 [.agg #[vs ((nth d v2).Now.Id), vi ((nth d v2).Now.Shape.Kind), .slice a1 a2 a3, .slice a4 a5 a6]] rfl ((F26.calls ip bv.ok ((nth d v2).Now) a1 a2 a3 a4 a5 a6 et iq ir _ H).mono ?_)
    rintro _ fa ⟨r9, am, b6, b7, an, b8, b9, rfl, H, dw, it, dx, iu, iv, iw⟩
    have fb := bv.owns dw it dx
    have fc : (dFeat_61).D fa ([] ++ (([] ++ [bk am]) ++ [bk an])) r9 [vs r9.Id, vi r9.Shape.Kind, .slice am b6 b7, .slice an b8 b9] := (dFeat_61.mk _ r9 iu (Ds.ofOw kPt_flat iv) (Ds.ofOw kTag_flat iw))
    have ix : DArr dFeat_61 fa (([] ++ (([] ++ [bk am]) ++ [bk an])) ++ []) ([r9] : List Feat) ([[vs r9.Id, vi r9.Shape.Kind, .slice am b6 b7, .slice an b8 b9]] : List (List Value)) := ⟨_, _, rfl, fc, rfl⟩
    refine L_lit (kd := Kd.cells 4) ei26 fb ([[vs r9.Id, vi r9.Shape.Kind, .slice am b6 b7, .slice an b8 b9]] : List (List Value)) (cells := [vs r9.Id, vi r9.Shape.Kind, .slice am b6 b7, .slice an b8 b9]) ⟨[vs r9.Id, vi r9.Shape.Kind, .slice am b6 b7, .slice an b8 b9], _, rfl, Dd.raw _ fc, rfl⟩ (fun _ => by kernel_rfl) fun lj bw iy iz dy hr298 ct i0 => ?_
    have cu : ([bk bw, bk am, bk an, some ab, bk aa] : Ob).Perm (bk bw :: some ab :: bk aa :: ((([] ++ (([] ++ [bk am]) ++ [bk an])) ++ []) ++ [])) := (pc fun a => by (try simp only [pca, pcc, pcn, Nat.add_zero, Nat.zero_add]); first | done | ac_rfl)
    have fd := ct.perm cu
    have i1 := (ct.sp i0 cu)
    have i2 := (ix.k0 dy)
    have cv : ((bk bw :: some ab :: bk aa :: ((([] ++ (([] ++ [bk am]) ++ [bk an])) ++ []) ++ [])) : Ob).Perm ((([] ++ (([] ++ [bk am]) ++ [bk an])) ++ []) ++ [bk bw, some ab, bk aa]) := (pc fun a => by (try simp only [pca, pcc, pcn, Nat.add_zero, Nat.zero_add]); first | done | ac_rfl)
    obtain ⟨i3, i4, lk⟩ := Dp.own (L := (bk bw :: some ab :: bk aa :: ((([] ++ (([] ++ [bk am]) ++ [bk an])) ++ []) ++ []))) (O := O) i1 i2 fd cv (memi 0 rfl)
    obtain ⟨i5, H⟩ := H
    have i6 := (fd.odr (ct.sp ((e8.sos dw dx).so _ dy hr298) cu) cv 2 rfl)
    refine L_app ei26 i4 (.slice aa cl ac) r8 ([r9] : List Feat) rfl i6 (.slice bw iy iz) rfl i3.sx 2 rfl i5 fun ll fe ff fg lm fh dz i7 => ?_
    refine L_as (.slice fe ff fg) rfl (L_nil (W_reg ?_))
    obtain ⟨i8, H⟩ := H
    refine L_pu (P_add v2 1 rfl rfl i8) (L_mv (vi (v2 + 1)) rfl (L_nil ?_))
    have d0 := dz.drop 0 rfl
    have i9 := d0.drop 0 rfl
    obtain ⟨ja, jb⟩ := H
    have fi := bv.stos dw dx
    have fj := fb.stown _ dy hr298
    have fk := ct.stp cu
    have fl := dz.std 0 rfl
    have fm := d0.std 0 rfl
    have jc := ((((((((((((((b3.st cn).st co).st cp).st cq).st (St.drops _ O ae)).st cr).st cs).st fi).st fj).st fk).st (St.drops _ O cv)).st fh).st fl).st fm)
    have jd := ((((((((((((((((bg.st ar).st au).st cn).st co).st cp).st cq).st (St.drops _ O ae)).st cr).st cs).st fi).st fj).st fk).st (St.drops _ O cv)).st fh).st fl).st fm)
    have je := (d0.sd (dz.sd i7 2 0 rfl rfl rfl) 1 0 rfl rfl rfl)
    exact ⟨((r8 ++ ([r9] : List Feat)), fe, ff, fg, v2 + 1), jb, ja, (hasI rfl), i9, jc, jd, je⟩
   have H := ite_f H dv
   refine W_skip (W_reg ?_)
   obtain ⟨jf, H⟩ := H
   refine L_pu (P_add v2 1 rfl rfl jf) (L_mv (vi (v2 + 1)) rfl (L_nil ?_))
   have jg := bv.drop 0 rfl
   obtain ⟨jh, ji⟩ := H
   have fn := bd.stos av ax
   have fo := bt.stown _ ai (oge al)
   have fp := aj.stw 0 rfl ak
   have fq := ay.stn az
   have fr := be.stn a0
   have fs := aw.stw 1 rfl cm
   have ft := bv.std 0 rfl
   have jj := ((((((((b3.st fn).st fo).st fp).st fq).st (St.drops _ O ae)).st fr).st fs).st ft)
   have jk := ((((((((((bg.st ar).st au).st fn).st fo).st fp).st fq).st (St.drops _ O ae)).st fr).st fs).st ft)
   have jl := (bv.sd e8 1 0 rfl rfl rfl)
   exact ⟨(r8, aa, cl, ac, v2 + 1), ji, jh, (hasI rfl), jg, jj, jk, jl⟩
  have H := ite_f H du
  refine W_skip (W_seq (W_reg (L_pu (P_fa fa63_3 ⟨ab, 0, none⟩ ⟨ab, 6, none⟩ rfl rfl) ?_)))
  have fu := (dt.k0 a0)
  refine L_pu (P_ld ag4 cL ⟨ab, 6, none⟩ (vb ((nth d v2).Has)) rfl (fu.cell rfl)) (L_nil ?_)
  refine W_cond ((nth d v2).Has) rfl (fun d1 => ?_) (fun d1 => ?_)
  ·have H := ite_t H d1
   refine W_reg (L_mv (.slice aa ad ac) rfl (L_pu (P_fa fa63_4 ⟨ab, 0, none⟩ ⟨ab, 7, none⟩ rfl rfl) (L_pu (P_lda ag61 sz61 cL ⟨ab, 7, none⟩ [vs ((nth d v2).Now.Id), vi ((nth d v2).Now.Shape.Kind), .slice a1 a2 a3, .slice a4 a5 a6] rfl rfl (fu.cells (off := 7) rfl)) ?_)))
   have cw := bd.stos av ax
   have cx := bt.stown _ ai (oge al)
   have cy := aj.stw 0 rfl ak
   have cz := ay.stn az
   have c1 := be.stn a0
   have jm := ((((((((eu.st ar).st au).st cw).st cx).st cy).st cz).st (St.drops _ O ae)).st c1)
   have jn := ((((((((ev.st ar).st au).st cw).st cx).st cy).st cz).st (St.drops _ O ae)).st c1)
   refine L_call go38 [.agg #[vs ((nth d v2).Now.Id), vi ((nth d v2).Now.Shape.Kind), .slice a1 a2 a3, .slice a4 a5 a6]] rfl ((F26.calls e7 aw.ok ((nth d v2).Now) a1 a2 a3 a4 a5 a6 et jm jn _ H).mono ?_)
   rintro _ fv ⟨r10, ao, ca, cb, ap, cc, cd, rfl, H, d2, jo, d3, jp, jq, jr⟩
   have fw := aw.owns d2 jo d3
   have fx : (dFeat_61).D fv ([] ++ (([] ++ [bk ao]) ++ [bk ap])) r10 [vs r10.Id, vi r10.Shape.Kind, .slice ao ca cb, .slice ap cc cd] := (dFeat_61.mk _ r10 jp (Ds.ofOw kPt_flat jq) (Ds.ofOw kTag_flat jr))
   have js : DArr dFeat_61 fv (([] ++ (([] ++ [bk ao]) ++ [bk ap])) ++ []) ([r10] : List Feat) ([[vs r10.Id, vi r10.Shape.Kind, .slice ao ca cb, .slice ap cc cd]] : List (List Value)) := ⟨_, _, rfl, fx, rfl⟩
   refine L_lit (kd := Kd.cells 4) ei26 fw ([[vs r10.Id, vi r10.Shape.Kind, .slice ao ca cb, .slice ap cc cd]] : List (List Value)) (cells := [vs r10.Id, vi r10.Shape.Kind, .slice ao ca cb, .slice ap cc cd]) ⟨[vs r10.Id, vi r10.Shape.Kind, .slice ao ca cb, .slice ap cc cd], _, rfl, Dd.raw _ fx, rfl⟩ (fun _ => by kernel_rfl) fun ln bx jt ju d4 hr381 c2 jv => ?_
   have c4 : ([bk bx, bk ao, bk ap, some ab, bk aa] : Ob).Perm (bk bx :: some ab :: bk aa :: ((([] ++ (([] ++ [bk ao]) ++ [bk ap])) ++ []) ++ [])) := (pc fun a => by (try simp only [pca, pcc, pcn, Nat.add_zero, Nat.zero_add]); first | done | ac_rfl)
   have fy := c2.perm c4
   have jw := (c2.sp jv c4)
   have jx := (js.k0 d4)
   have c5 : ((bk bx :: some ab :: bk aa :: ((([] ++ (([] ++ [bk ao]) ++ [bk ap])) ++ []) ++ [])) : Ob).Perm ((([] ++ (([] ++ [bk ao]) ++ [bk ap])) ++ []) ++ [bk bx, some ab, bk aa]) := (pc fun a => by (try simp only [pca, pcc, pcn, Nat.add_zero, Nat.zero_add]); first | done | ac_rfl)
   obtain ⟨jy, jz, lo⟩ := Dp.own (L := (bk bx :: some ab :: bk aa :: ((([] ++ (([] ++ [bk ao]) ++ [bk ap])) ++ []) ++ []))) (O := O) jw jx fy c5 (memi 0 rfl)
   obtain ⟨j0, H⟩ := H
   have j1 := (fy.odr (c2.sp ((((bu.odr ((aj.sw (((br.sw (b2.so _ bq (oge bp)) 1 0 rfl rfl rfl bs).sos av ax).so _ ai (oge al)) 4 0 rfl rfl rfl ak).sn az) ae 1 rfl).sn a0).sos d2 d3).so _ d4 hr381) c4) c5 2 rfl)
   refine L_app ei26 jz (.slice aa ad ac) xs2 ([r10] : List Feat) rfl j1 (.slice bx jt ju) rfl jy.sx 2 rfl j0 fun lp fz f0 f1 lq f2 d5 j2 => ?_
   refine L_as (.slice fz f0 f1) rfl (L_nil (W_reg ?_))
   obtain ⟨j3, H⟩ := H
   refine L_pu (P_add v2 1 rfl rfl j3) (L_mv (vi (v2 + 1)) rfl (L_nil ?_))
   have d6 := d5.drop 0 rfl
   have j4 := d6.drop 0 rfl
   obtain ⟨j5, j6⟩ := H
   have f3 := aw.stos d2 d3
   have f4 := fw.stown _ d4 hr381
   have f5 := c2.stp c4
   have f6 := d5.std 0 rfl
   have f7 := d6.std 0 rfl
   have j7 := (((((((((((((b3.st cw).st cx).st cy).st cz).st (St.drops _ O ae)).st c1).st f3).st f4).st f5).st (St.drops _ O c5)).st f2).st f6).st f7)
   have j8 := (((((((((((((((bg.st ar).st au).st cw).st cx).st cy).st cz).st (St.drops _ O ae)).st c1).st f3).st f4).st f5).st (St.drops _ O c5)).st f2).st f6).st f7)
   have j9 := (d6.sd (d5.sd j2 2 0 rfl rfl rfl) 1 0 rfl rfl rfl)
   exact ⟨((xs2 ++ ([r10] : List Feat)), fz, f0, f1, v2 + 1), j6, j5, (hasI rfl), j4, j7, j8, j9⟩
  have H := ite_f H d1
  refine W_skip (W_reg ?_)
  obtain ⟨ka, H⟩ := H
  refine L_pu (P_add v2 1 rfl rfl ka) (L_mv (vi (v2 + 1)) rfl (L_nil ?_))
  have kb := aw.drop 0 rfl
  obtain ⟨kc, ke⟩ := H
  have f8 := bd.stos av ax
  have f9 := bt.stown _ ai (oge al)
  have ga := aj.stw 0 rfl ak
  have gb := ay.stn az
  have gc := be.stn a0
  have gd := aw.std 0 rfl
  have kf := (((((((b3.st f8).st f9).st ga).st gb).st (St.drops _ O ae)).st gc).st gd)
  have kg := (((((((((bg.st ar).st au).st f8).st f9).st ga).st gb).st (St.drops _ O ae)).st gc).st gd)
  have kh := (aw.sd ((bu.odr ((aj.sw (((br.sw (b2.so _ bq (oge bp)) 1 0 rfl rfl rfl bs).sos av ax).so _ ai (oge al)) 4 0 rfl rfl rfl ak).sn az) ae 1 rfl).sn a0) 1 0 rfl rfl rfl)
  exact ⟨(xs2, aa, ad, ac, v2 + 1), ke, kc, (hasI rfl), kb, kf, kg, kh⟩
 have H := ite_f H dh
 refine W_exit (xin_hit ?_)
 refine W_seq (W_reg (L_mv (.slice aa ad ac) rfl ?_))
 refine L_call go39 [.slice aa ad ac, .func (.func 40) #[] #[]] rfl ((F3.calls bf ck.ok aa ad ac xs2 b2 40 go40 F38.cf F38.hlt F38.cmp _ H).mono ?_)
 rintro _ ki ⟨m, rfl, H, kj, gf⟩
 have d7 := ck.wr 0 rfl kj
 refine L_nil (W_seq (W_seq (W_reg (L_mv (.slice aa ad ac) rfl ?_))))
 have kk := d7.gv gf 0 rfl
 have kl := d7.drop 0 rfl
 refine L_call go31 [.slice aa ad ac] rfl ((F56.calls ki kl.ok m aa ad ac kk _ H).mono ?_)
 rintro _ gg ⟨r11, rfl, H, gh⟩
 have ce := d7.k0 gh
 refine L_pu (P_not r11 rfl) (L_nil ?_)
 refine W_cond (!r11) rfl (fun d8 => ?_) (fun d8 => ?_)
 ·have H := ite_t H d8
  refine W_seq (W_reg ?_)
  have km : DArr dFeat_61 gg ([] : Ob) ([] : List Feat) ([] : List (List Value)) := rfl
  refine L_lit (kd := Kd.cells 4) ei26 ce ([] : List (List Value)) (cells := []) rfl (fun _ => by kernel_rfl) fun lr cg d9 ea kn hr452 gi ko => ?_
  have gj : ([bk cg, bk aa] : Ob).Perm (bk cg :: bk aa :: (([] : Ob) ++ [])) := (pc fun a => by (try simp only [pca, pcc, pcn, Nat.add_zero, Nat.zero_add]); first | done | ac_rfl)
  have gk := gi.perm gj
  refine L_as (.slice cg d9 ea) rfl (L_as (vb false) rfl (L_nil (W_ret ?_)))
  have eb := gk.drop 1 rfl
  have kp := (gk.sd (gi.sp ko gj) 0 1 rfl rfl rfl)
  have kq := (km.k0 kn)
  exact ⟨[.slice cg d9 ea, vb false], ⟨_, rfl, ⟨_, rfl, rfl⟩⟩, ([] : List Feat), false, cg, d9, ea, ([] : Ob), ([] : List (List Value)), rfl, H, eb.gr.g0, eb.ok, eb.ge, kp, kq⟩
 have H := ite_f H d8
 refine W_skip (W_seq (W_reg (L_mv (.slice aa ad ac) rfl ?_)))
 have kr := (gf.sn gh)
 have ks := ce.gv kr 0 rfl
 have kt := ce.drop 0 rfl
 refine L_call go33 [.slice aa ad ac] rfl ((F16.calls gg kt.ok m aa ad ac ks _ H).mono ?_)
 rintro _ ls ⟨r12, ch, ec, ed, ee, ku, rfl, H, gl, kv, gm, kx, ky⟩
 have kz := Ok.unl (L := [bk aa]) (L' := []) (O := O) ce gl kv gm
 have k1 := Ow.unl (L := [bk aa]) (L' := []) (O := O) (fun _ _ _ _ _ _ h => h) (.cons _ (.slnil)) kx
 have gn := ce.owns gl kz gm
 have gp : (((bk ch :: (ee ++ [])) ++ [bk aa]) : Ob).Perm (bk ch :: bk aa :: (ee ++ [])) := (pc fun a => by (try simp only [pca, pcc, pcn, Nat.add_zero, Nat.zero_add]); first | done | ac_rfl)
 have gq := gn.perm gp
 refine L_as (.slice ch ec ed) rfl (L_as (vb true) rfl (L_nil (W_ret ?_)))
 have ef := gq.drop 1 rfl
 have k2 := (gq.sd (gn.spa k1 gp) 0 1 rfl rfl rfl)
 have k3 := ky
 exact ⟨[.slice ch ec ed, vb true], ⟨_, rfl, ⟨_, rfl, rfl⟩⟩, r12, true, ch, ec, ed, ee, ku, rfl, H, ef.gr.g0, ef.ok, ef.ge, k2, k3⟩
end
section
open Go.RowKit
def F123.E (a : Pt) (b : Pt) (Q : Bool → Prop) : Prop :=
 (if a.X != b.X then Q false else (if a.Y != b.Y then Q false else Q true))
theorem F123.calls {O : Ob} (w0 : World) (hO : Ok w0 O) (a : Pt) (b : Pt) (Q : Bool → Prop) (h : F123.E a b Q) :
  Ret Tryz.prog 130 [.agg #[vi a.X, vi a.Y], .agg #[vi b.X, vi b.Y]] w0 (fun v w' => ∃ (r0 : Bool), v = vb r0 ∧ Q r0 ∧ Gr w0 w' none) := by
 unfold F123.E at h
 have H := h
 clear h
 have hc0 := Ct.init hO
 refine Ret_enter Tryz.func130 rfl 15 rfl [.tmp 4] rfl rfl ?_
 refine W_seq (W_reg (L_box [vi a.X, vi a.Y] rfl fun w1 b2 hl4 hu5 g3 hx6 => ?_))
 have h8 := Fb.mk hc0.ok hl4 hx6
 have hc9 := hc0.k0 g3
 refine L_box [vi b.X, vi b.Y] rfl fun ak aa ah hu14 ae ai => ?_
 have af := Fb.mk hc9.ok ah ai
 have ab := hc9.k0 ae
 refine L_as (vb false) rfl (L_nil (W_seq (W_seq (W_reg (L_pu (P_fa fa114_0 ⟨b2, 0, none⟩ ⟨b2, 0, none⟩ rfl rfl) ?_)))))
 have aj := hc9.stn ae
 have ag := (h8.st aj)
 refine L_pu (P_ld ag3 cL ⟨b2, 0, none⟩ (vi a.X) rfl (ag.cell rfl)) (L_pu (P_fa fa114_0 ⟨aa, 0, none⟩ ⟨aa, 0, none⟩ rfl rfl) (L_pu (P_ld ag3 cL ⟨aa, 0, none⟩ (vi b.X) rfl (af.cell rfl)) (L_pu (P_cmp a.X b.X (a.X != b.X) rfl rfl rfl) (L_nil ?_))))
 refine W_cond (a.X != b.X) rfl (fun ac => ?_) (fun ac => ?_)
 ·have H := ite_t H ac
  exact W_seq (W_reg (L_as (vb false) rfl (L_nil (W_ret ⟨[vb false], ⟨_, rfl, rfl⟩, false, rfl, H, ab.gr.g0⟩))))
 have H := ite_f H ac
 refine W_skip (W_seq (W_seq (W_reg (L_pu (P_fa fa114_1 ⟨b2, 0, none⟩ ⟨b2, 1, none⟩ rfl rfl) (L_pu (P_ld ag3 cL ⟨b2, 1, none⟩ (vi a.Y) rfl (ag.cell rfl)) (L_pu (P_fa fa114_1 ⟨aa, 0, none⟩ ⟨aa, 1, none⟩ rfl rfl) (L_pu (P_ld ag3 cL ⟨aa, 1, none⟩ (vi b.Y) rfl (af.cell rfl)) (L_pu (P_cmp a.Y b.Y (a.Y != b.Y) rfl rfl rfl) ?_))))))))
 refine L_nil ?_
 refine W_cond (a.Y != b.Y) rfl (fun ad => ?_) (fun ad => ?_)
 ·have H := ite_t H ad
  exact W_seq (W_reg (L_as (vb false) rfl (L_nil (W_ret ⟨[vb false], ⟨_, rfl, rfl⟩, false, rfl, H, ab.gr.g0⟩))))
 have H := ite_f H ad
 exact W_skip (W_seq (W_reg (L_as (vb true) rfl (L_nil (W_ret ⟨[vb true], ⟨_, rfl, rfl⟩, true, rfl, H, ab.gr.g0⟩)))))
end
theorem F123.law (a b : Pt) (Q : Bool → Prop) (hq : Q (decide (a = b))) : F123.E a b Q := by
 obtain ⟨x0, x1⟩ := a; obtain ⟨y0, y1⟩ := b
 rw [show (decide ((⟨x0, x1⟩ : Pt) = ⟨y0, y1⟩)) = ((decide (x0 = y0)) && (decide (x1 = y1))) by simp only [Pt.mk.injEq, Bool.decide_and]] at hq
 unfold F123.E
 by_cases h0 : x0 = y0
 case neg => simpa [h0] using hq
 simp only [h0, decide_true, Bool.true_and, bne_self_eq_false, Bool.not_true, Bool.false_eq_true, if_false] at hq ⊢
 by_cases h1 : x1 = y1
 case neg => simpa [h1] using hq
 simp only [h1, decide_true, Bool.true_and, bne_self_eq_false, Bool.not_true, Bool.false_eq_true, if_false] at hq ⊢
 all_goals (try exact hq)
theorem F123.is (a b : Pt) : F123.E a b (fun r => r = decide (a = b)) := F123.law a b _ rfl
section
open Go.RowKit
def F109.E (a : List Pt) (b : List Pt) (Q : Bool → Prop) : Prop :=
 (if (a.length : Int) != (b.length : Int) then Q false else (∃ (I32 : Int → Prop) (mu33 : Int → Nat), I32 0 ∧ ∀ (i2 : Int), I32 i2 → (if decide (i2 < (a.length : Int)) then ((0 : Int) ≤ i2 ∧ i2 < (a.length : Int)) ∧ ((0 : Int) ≤ i2 ∧ i2 < (b.length : Int)) ∧ (if !(decide ((nth a i2) = (nth b i2))) then Q false else (-9223372036854775808 ≤ i2) ∧ I32 (i2 + 1) ∧ mu33 (i2 + 1) < mu33 i2) else Q true)))
theorem F109.calls {O : Ob} (w0 : World) (hO : Ok w0 O) (a : List Pt) (A1 : Option Addr) (n2 c3 : Nat) (hp4 : Sl kPt w0 (Fr O) (.slice A1 n2 c3) a) (b : List Pt) (A6 : Option Addr) (n7 c8 : Nat) (hp9 : Sl kPt w0 (Fr O) (.slice A6 n7 c8) b) (Q : Bool → Prop) (h : F109.E a b Q) :
  Ret Tryz.prog 112 [.slice A1 n2 c3, .slice A6 n7 c8] w0 (fun v w' => ∃ (r0 : Bool), v = vb r0 ∧ Q r0 ∧ Gr w0 w' none) := by
 unfold F109.E at h
 have H := h
 clear h
 have hc0 := Ct.init hO
 refine Ret_enter Tryz.func112 rfl 27 rfl [.tmp 4] rfl rfl ?_
 refine W_seq (W_reg (L_as (vb false) rfl (L_nil (W_seq (W_seq (W_reg (L_mv (.slice A1 n2 c3) rfl ?_)))))))
 have a5 := hp4.le
 refine L_pu (P_len Tryz.underlying56 A1 n2 c3 hp4.len rfl) (L_mv (.slice A6 n7 c8) rfl ?_)
 have a6 := hp9.le
 refine L_pu (P_len Tryz.underlying56 A6 n7 c8 hp9.len rfl) (L_pu (P_cmp (a.length : Int) (b.length : Int) ((a.length : Int) != (b.length : Int)) rfl rfl rfl) (L_nil ?_))
 refine W_cond ((a.length : Int) != (b.length : Int)) rfl (fun ae => ?_) (fun ae => ?_)
 ·have H := ite_t H ae
  exact W_seq (W_reg (L_as (vb false) rfl (L_nil (W_ret ⟨[vb false], ⟨_, rfl, rfl⟩, false, rfl, H, hc0.gr.g0⟩))))
 have H := ite_f H ae
 refine W_skip (W_seq (W_seq (W_reg (L_as (vi 0) rfl (L_nil (W_block ?_))))))
 obtain ⟨ap, aq, af, H⟩ := H
 refine W_loop (α := Int) (fun (sv__ : Int) t aa => match sv__ with | i2 => ap i2 ∧ Has t [(0, .slice A1 n2 c3), (1, .slice A6 n7 c8), (5, vi i2)] ∧ Ct [] w0 aa [] O ∧ Sl kPt aa (Fr ([] ++ O)) (.slice A1 n2 c3) a ∧ Sl kPt aa (Fr ([] ++ O)) (.slice A6 n7 c8) b) (fun (sv__ : Int) => match sv__ with | i2 => aq i2) 0 ⟨af, (hasI rfl), hc0, hp4, hp9⟩ ?_
 rintro i2 _ aa ⟨af, ar, ac, ab, ag⟩
 obtain ⟨a7, rfl⟩ := Has.ins ar
 have H := H i2 af
 refine W_seq (W_seq (W_reg (L_mv (vi i2) rfl (L_mv (.slice A1 n2 c3) rfl ?_))))
 have au := ab.le
 refine L_pu (P_len Tryz.underlying56 A1 n2 c3 ab.len rfl) (L_pu (P_cmp i2 (a.length : Int) (decide (i2 < (a.length : Int))) rfl rfl rfl) (L_nil ?_))
 refine W_cond (decide (i2 < (a.length : Int))) rfl (fun ad => ?_) (fun ad => ?_)
 ·have H := ite_t H ad
  refine W_skip (W_seq (W_block (W_seq (W_draw (fun x => Gr aa x none) (by kernel_rfl) (by kernel_rfl) (Gr.drew _) ?_))))
  refine Q_mv (.slice A1 n2 c3) rfl (Q_mv (vi i2) rfl ?_)
  obtain ⟨ai, H⟩ := H
  obtain ⟨aj, a8, av, a9, aw, ax⟩ := ab.get default (by decide) i2 ai
  obtain rfl := kPt.op aw
  refine Q_pu (P_ia Tryz.underlying56 se56 A1 aj n2 c3 ab.len i2 rfl av rfl ai) (Q_pu (P_lda ag114 sz114 cQ (aj.add (i2.toNat * 2)) [vi ((nth a i2).X), vi ((nth a i2).Y)] rfl rfl ax) (Q_mv (.slice A6 n7 c8) rfl (Q_mv (vi i2) rfl ?_)))
  obtain ⟨ak, H⟩ := H
  obtain ⟨al, ba, ay, bb, az, a0⟩ := ag.get default (by decide) i2 ak
  obtain rfl := kPt.op az
  refine Q_pu (P_ia Tryz.underlying56 se56 A6 al n7 c8 ag.len i2 rfl ay rfl ak) (Q_pu (P_lda ag114 sz114 cQ (al.add (i2.toNat * 2)) [vi ((nth b i2).X), vi ((nth b i2).Y)] rfl rfl a0) ?_)
  refine Q_call go130 [.agg #[vi ((nth a i2).X), vi ((nth a i2).Y)], .agg #[vi ((nth b i2).X), vi ((nth b i2).Y)]] rfl (vb (decide ((nth a i2) = (nth b i2)))) (fun w g => (F123.calls w (ac.k0 g).ok (nth a i2) (nth b i2) _ (F123.is (nth a i2) (nth b i2))).mono ?_) ?_
  ·rintro _ w ⟨r, rfl, rfl, g2⟩
   exact ⟨rfl, Gr.t0 g g2⟩
  refine Q_pu (P_not (decide ((nth a i2) = (nth b i2))) rfl) (Q_nil fun bc am => ?_)
  have an := ac.k0 am
  refine W_cond (!(decide ((nth a i2) = (nth b i2)))) rfl (fun ah => ?_) (fun ah => ?_)
  ·have H := ite_t H ah
   exact W_seq (W_reg (L_as (vb false) rfl (L_nil (W_ret ⟨[vb false], ⟨_, rfl, rfl⟩, false, rfl, H, an.gr.g0⟩))))
  have H := ite_f H ah
  refine W_skip (W_reg (L_mv (vi i2) rfl ?_))
  obtain ⟨a1, H⟩ := H
  have a2 : I64 (i2 + 1) := i64_succ (of_decide_eq_true ad) au a1
  refine L_pu (P_add i2 1 rfl rfl a2) (L_as (vi (i2 + 1)) rfl (L_nil ?_))
  obtain ⟨a3, a4⟩ := H
  have ao := ac.stn am
  exact ⟨i2 + 1, a4, a3, (hasI rfl), an, (ab.st ao), (ag.st ao)⟩
 have H := ite_f H ad
 refine W_exit (xin_hit ?_)
 exact W_seq (W_reg (L_as (vb true) rfl (L_nil (W_ret ⟨[vb true], ⟨_, rfl, rfl⟩, true, rfl, H, ac.gr.g0⟩))))
end
section
open Go.RowKit
def F57.E (a : Shape) (b : Shape) (Q : Bool → Prop) : Prop :=
 (if a.Kind != b.Kind then Q false else F109.E a.Pts b.Pts (fun r => (if !r then Q false else Q true)))
theorem F57.calls {O : Ob} (w0 : World) (hO : Ok w0 O) (a : Shape) (A1 : Option Addr) (n2 c3 : Nat) (hp4 : Sl kPt w0 (Fr O) (.slice A1 n2 c3) a.Pts) (b : Shape) (A6 : Option Addr) (n7 c8 : Nat) (hp9 : Sl kPt w0 (Fr O) (.slice A6 n7 c8) b.Pts) (Q : Bool → Prop) (h : F57.E a b Q) :
  Ret Tryz.prog 75 [.agg #[vi a.Kind, .slice A1 n2 c3], .agg #[vi b.Kind, .slice A6 n7 c8]] w0 (fun v w' => ∃ (r0 : Bool), v = vb r0 ∧ Q r0 ∧ Gr w0 w' none) := by
 unfold F57.E at h
 have H := h
 clear h
 have hc0 := Ct.init hO
 refine Ret_enter Tryz.func75 rfl 16 rfl [.tmp 4] rfl rfl ?_
 refine W_seq (W_reg (L_box [vi a.Kind, .slice A1 n2 c3] rfl fun av aa ak hu15 al am => ?_))
 have an := Fb.mk hc0.ok ak am
 have ad := hc0.k0 al
 refine L_box [vi b.Kind, .slice A6 n7 c8] rfl fun ao ab ap hu24 ag aq => ?_
 have ah := Fb.mk ad.ok ap aq
 have ac := ad.k0 ag
 refine L_as (vb false) rfl (L_nil (W_seq (W_seq (W_reg (L_pu (P_fa fa58_0 ⟨aa, 0, none⟩ ⟨aa, 0, none⟩ rfl rfl) ?_)))))
 have ar := ad.stn ag
 have ai := (an.st ar)
 refine L_pu (P_ld ag3 cL ⟨aa, 0, none⟩ (vi a.Kind) rfl (ai.cell rfl)) (L_pu (P_fa fa58_0 ⟨ab, 0, none⟩ ⟨ab, 0, none⟩ rfl rfl) (L_pu (P_ld ag3 cL ⟨ab, 0, none⟩ (vi b.Kind) rfl (ah.cell rfl)) (L_pu (P_cmp a.Kind b.Kind (a.Kind != b.Kind) rfl rfl rfl) (L_nil ?_))))
 refine W_cond (a.Kind != b.Kind) rfl (fun ae => ?_) (fun ae => ?_)
 ·have H := ite_t H ae
  exact W_seq (W_reg (L_as (vb false) rfl (L_nil (W_ret ⟨[vb false], ⟨_, rfl, rfl⟩, false, rfl, H, ac.gr.g0⟩))))
 have H := ite_f H ae
 refine W_skip (W_seq (W_seq (W_reg (L_pu (P_fa fa58_1 ⟨aa, 0, none⟩ ⟨aa, 1, none⟩ rfl rfl) (L_pu (P_ld ag56 cL ⟨aa, 1, none⟩ (.slice A1 n2 c3) rfl (ai.cell rfl)) (L_pu (P_fa fa58_1 ⟨ab, 0, none⟩ ⟨ab, 1, none⟩ rfl rfl) (L_pu (P_ld ag56 cL ⟨ab, 1, none⟩ (.slice A6 n7 c8) rfl (ah.cell rfl)) ?_)))))))
 refine L_call go112 [.slice A1 n2 c3, .slice A6 n7 c8] rfl ((F109.calls ao ac.ok a.Pts A1 n2 c3 (hp4.st ac.st) b.Pts A6 n7 c8 (hp9.st ac.st) _ H).mono ?_)
 rintro _ aw ⟨r, rfl, H, au⟩
 have aj := ac.k0 au
 refine L_pu (P_not r rfl) (L_nil ?_)
 refine W_cond (!r) rfl (fun af => ?_) (fun af => ?_)
 ·have H := ite_t H af
  exact W_seq (W_reg (L_as (vb false) rfl (L_nil (W_ret ⟨[vb false], ⟨_, rfl, rfl⟩, false, rfl, H, aj.gr.g0⟩))))
 have H := ite_f H af
 exact W_skip (W_seq (W_reg (L_as (vb true) rfl (L_nil (W_ret ⟨[vb true], ⟨_, rfl, rfl⟩, true, rfl, H, aj.gr.g0⟩)))))
end
section
open Go.RowKit
def F110.E (a : Tag) (b : Tag) (Q : Bool → Prop) : Prop :=
 (if a.Key != b.Key then Q false else (if a.Val != b.Val then Q false else Q true))
theorem F110.calls {O : Ob} (w0 : World) (hO : Ok w0 O) (a : Tag) (hs1 : Lim a.Key) (hs2 : Lim a.Val) (b : Tag) (hs3 : Lim b.Key) (hs4 : Lim b.Val) (Q : Bool → Prop) (h : F110.E a b Q) :
  Ret Tryz.prog 113 [.agg #[vs a.Key, vs a.Val], .agg #[vs b.Key, vs b.Val]] w0 (fun v w' => ∃ (r0 : Bool), v = vb r0 ∧ Q r0 ∧ Gr w0 w' none) := by
 unfold F110.E at h
 have H := h
 clear h
 have hc0 := Ct.init hO
 refine Ret_enter Tryz.func113 rfl 15 rfl [.tmp 4] rfl rfl ?_
 refine W_seq (W_reg (L_box [vs a.Key, vs a.Val] rfl fun w5 b6 hl8 hu9 g7 ai => ?_))
 have aj := Fb.mk hc0.ok hl8 ai
 have ab := hc0.k0 g7
 refine L_box [vs b.Key, vs b.Val] rfl fun an aa ak hu18 af al => ?_
 have ag := Fb.mk ab.ok ak al
 have ac := ab.k0 af
 refine L_as (vb false) rfl (L_nil (W_seq (W_seq (W_reg (L_pu (P_fa fa106_0 ⟨b6, 0, none⟩ ⟨b6, 0, none⟩ rfl rfl) ?_)))))
 have am := ab.stn af
 have ah := (aj.st am)
 refine L_pu (P_ld ag9 cL ⟨b6, 0, none⟩ (vs a.Key) rfl (ah.cell rfl)) (L_pu (P_fa fa106_0 ⟨aa, 0, none⟩ ⟨aa, 0, none⟩ rfl rfl) (L_pu (P_ld ag9 cL ⟨aa, 0, none⟩ (vs b.Key) rfl (ag.cell rfl)) (L_pu (P_scmp a.Key b.Key (a.Key != b.Key) rfl rfl rfl) (L_nil ?_))))
 refine W_cond (a.Key != b.Key) rfl (fun ad => ?_) (fun ad => ?_)
 ·have H := ite_t H ad
  exact W_seq (W_reg (L_as (vb false) rfl (L_nil (W_ret ⟨[vb false], ⟨_, rfl, rfl⟩, false, rfl, H, ac.gr.g0⟩))))
 have H := ite_f H ad
 refine W_skip (W_seq (W_seq (W_reg (L_pu (P_fa fa106_1 ⟨b6, 0, none⟩ ⟨b6, 1, none⟩ rfl rfl) (L_pu (P_ld ag9 cL ⟨b6, 1, none⟩ (vs a.Val) rfl (ah.cell rfl)) (L_pu (P_fa fa106_1 ⟨aa, 0, none⟩ ⟨aa, 1, none⟩ rfl rfl) (L_pu (P_ld ag9 cL ⟨aa, 1, none⟩ (vs b.Val) rfl (ag.cell rfl)) (L_pu (P_scmp a.Val b.Val (a.Val != b.Val) rfl rfl rfl) ?_))))))))
 refine L_nil ?_
 refine W_cond (a.Val != b.Val) rfl (fun ae => ?_) (fun ae => ?_)
 ·have H := ite_t H ae
  exact W_seq (W_reg (L_as (vb false) rfl (L_nil (W_ret ⟨[vb false], ⟨_, rfl, rfl⟩, false, rfl, H, ac.gr.g0⟩))))
 have H := ite_f H ae
 exact W_skip (W_seq (W_reg (L_as (vb true) rfl (L_nil (W_ret ⟨[vb true], ⟨_, rfl, rfl⟩, true, rfl, H, ac.gr.g0⟩)))))
end
theorem F110.law (a b : Tag) (Q : Bool → Prop) (hq : Q (decide (a = b))) : F110.E a b Q := by
 obtain ⟨x0, x1⟩ := a; obtain ⟨y0, y1⟩ := b
 rw [show (decide ((⟨x0, x1⟩ : Tag) = ⟨y0, y1⟩)) = ((decide (x0 = y0)) && (decide (x1 = y1))) by simp only [Tag.mk.injEq, Bool.decide_and]] at hq
 unfold F110.E
 by_cases h0 : x0 = y0
 case neg => simpa [h0] using hq
 simp only [h0, decide_true, Bool.true_and, bne_self_eq_false, Bool.not_true, Bool.false_eq_true, if_false] at hq ⊢
 by_cases h1 : x1 = y1
 case neg => simpa [h1] using hq
 simp only [h1, decide_true, Bool.true_and, bne_self_eq_false, Bool.not_true, Bool.false_eq_true, if_false] at hq ⊢
 all_goals (try exact hq)
theorem F110.is (a b : Tag) : F110.E a b (fun r => r = decide (a = b)) := F110.law a b _ rfl
section
open Go.RowKit
def F93.E (a : List Tag) (b : List Tag) (Q : Bool → Prop) : Prop :=
 (if (a.length : Int) != (b.length : Int) then Q false else (∃ (I32 : Int → Prop) (mu33 : Int → Nat), I32 0 ∧ ∀ (i2 : Int), I32 i2 → (if decide (i2 < (a.length : Int)) then ((0 : Int) ≤ i2 ∧ i2 < (a.length : Int)) ∧ ((0 : Int) ≤ i2 ∧ i2 < (b.length : Int)) ∧ (if !(decide ((nth a i2) = (nth b i2))) then Q false else (-9223372036854775808 ≤ i2) ∧ I32 (i2 + 1) ∧ mu33 (i2 + 1) < mu33 i2) else Q true)))
theorem F93.calls {O : Ob} (w0 : World) (hO : Ok w0 O) (a : List Tag) (A1 : Option Addr) (n2 c3 : Nat) (hp4 : Sl kTag w0 (Fr O) (.slice A1 n2 c3) a) (b : List Tag) (A6 : Option Addr) (n7 c8 : Nat) (hp9 : Sl kTag w0 (Fr O) (.slice A6 n7 c8) b) (Q : Bool → Prop) (h : F93.E a b Q) :
  Ret Tryz.prog 76 [.slice A1 n2 c3, .slice A6 n7 c8] w0 (fun v w' => ∃ (r0 : Bool), v = vb r0 ∧ Q r0 ∧ Gr w0 w' none) := by
 unfold F93.E at h
 have H := h
 clear h
 have hc0 := Ct.init hO
 refine Ret_enter Tryz.func76 rfl 27 rfl [.tmp 4] rfl rfl ?_
 refine W_seq (W_reg (L_as (vb false) rfl (L_nil (W_seq (W_seq (W_reg (L_mv (.slice A1 n2 c3) rfl ?_)))))))
 have a9 := hp4.le
 refine L_pu (P_len Tryz.underlying59 A1 n2 c3 hp4.len rfl) (L_mv (.slice A6 n7 c8) rfl ?_)
 have ba := hp9.le
 refine L_pu (P_len Tryz.underlying59 A6 n7 c8 hp9.len rfl) (L_pu (P_cmp (a.length : Int) (b.length : Int) ((a.length : Int) != (b.length : Int)) rfl rfl rfl) (L_nil ?_))
 refine W_cond ((a.length : Int) != (b.length : Int)) rfl (fun ae => ?_) (fun ae => ?_)
 ·have H := ite_t H ae
  exact W_seq (W_reg (L_as (vb false) rfl (L_nil (W_ret ⟨[vb false], ⟨_, rfl, rfl⟩, false, rfl, H, hc0.gr.g0⟩))))
 have H := ite_f H ae
 refine W_skip (W_seq (W_seq (W_reg (L_as (vi 0) rfl (L_nil (W_block ?_))))))
 obtain ⟨ap, aq, af, H⟩ := H
 refine W_loop (α := Int) (fun (sv__ : Int) t aa => match sv__ with | i2 => ap i2 ∧ Has t [(0, .slice A1 n2 c3), (1, .slice A6 n7 c8), (5, vi i2)] ∧ Ct [] w0 aa [] O ∧ Sl kTag aa (Fr ([] ++ O)) (.slice A1 n2 c3) a ∧ Sl kTag aa (Fr ([] ++ O)) (.slice A6 n7 c8) b) (fun (sv__ : Int) => match sv__ with | i2 => aq i2) 0 ⟨af, (hasI rfl), hc0, hp4, hp9⟩ ?_
 rintro i2 _ aa ⟨af, ar, ac, ab, ag⟩
 obtain ⟨bb, rfl⟩ := Has.ins ar
 have H := H i2 af
 refine W_seq (W_seq (W_reg (L_mv (vi i2) rfl (L_mv (.slice A1 n2 c3) rfl ?_))))
 have au := ab.le
 refine L_pu (P_len Tryz.underlying59 A1 n2 c3 ab.len rfl) (L_pu (P_cmp i2 (a.length : Int) (decide (i2 < (a.length : Int))) rfl rfl rfl) (L_nil ?_))
 refine W_cond (decide (i2 < (a.length : Int))) rfl (fun ad => ?_) (fun ad => ?_)
 ·have H := ite_t H ad
  refine W_skip (W_seq (W_block (W_seq (W_draw (fun x => Gr aa x none) (by kernel_rfl) (by kernel_rfl) (Gr.drew _) ?_))))
  refine Q_mv (.slice A1 n2 c3) rfl (Q_mv (vi i2) rfl ?_)
  obtain ⟨ai, H⟩ := H
  obtain ⟨aj, bc, av, bd, aw, ax⟩ := ab.get default (by decide) i2 ai
  obtain ⟨rfl, ay, az⟩ := kTag.op aw
  refine Q_pu (P_ia Tryz.underlying59 se59 A1 aj n2 c3 ab.len i2 rfl av rfl ai) (Q_pu (P_lda ag106 sz106 cQ (aj.add (i2.toNat * 2)) [vs ((nth a i2).Key), vs ((nth a i2).Val)] rfl rfl ax) (Q_mv (.slice A6 n7 c8) rfl (Q_mv (vi i2) rfl ?_)))
  obtain ⟨ak, H⟩ := H
  obtain ⟨al, be, a0, bf, a1, a2⟩ := ag.get default (by decide) i2 ak
  obtain ⟨rfl, a3, a4⟩ := kTag.op a1
  refine Q_pu (P_ia Tryz.underlying59 se59 A6 al n7 c8 ag.len i2 rfl a0 rfl ak) (Q_pu (P_lda ag106 sz106 cQ (al.add (i2.toNat * 2)) [vs ((nth b i2).Key), vs ((nth b i2).Val)] rfl rfl a2) ?_)
  refine Q_call go113 [.agg #[vs ((nth a i2).Key), vs ((nth a i2).Val)], .agg #[vs ((nth b i2).Key), vs ((nth b i2).Val)]] rfl (vb (decide ((nth a i2) = (nth b i2)))) (fun w g => (F110.calls w (ac.k0 g).ok (nth a i2) ay az (nth b i2) a3 a4 _ (F110.is (nth a i2) (nth b i2))).mono ?_) ?_
  ·rintro _ w ⟨r, rfl, rfl, g2⟩
   exact ⟨rfl, Gr.t0 g g2⟩
  refine Q_pu (P_not (decide ((nth a i2) = (nth b i2))) rfl) (Q_nil fun bg am => ?_)
  have an := ac.k0 am
  refine W_cond (!(decide ((nth a i2) = (nth b i2)))) rfl (fun ah => ?_) (fun ah => ?_)
  ·have H := ite_t H ah
   exact W_seq (W_reg (L_as (vb false) rfl (L_nil (W_ret ⟨[vb false], ⟨_, rfl, rfl⟩, false, rfl, H, an.gr.g0⟩))))
  have H := ite_f H ah
  refine W_skip (W_reg (L_mv (vi i2) rfl ?_))
  obtain ⟨a5, H⟩ := H
  have a6 : I64 (i2 + 1) := i64_succ (of_decide_eq_true ad) au a5
  refine L_pu (P_add i2 1 rfl rfl a6) (L_as (vi (i2 + 1)) rfl (L_nil ?_))
  obtain ⟨a7, a8⟩ := H
  have ao := ac.stn am
  exact ⟨i2 + 1, a8, a7, (hasI rfl), an, (ab.st ao), (ag.st ao)⟩
 have H := ite_f H ad
 refine W_exit (xin_hit ?_)
 exact W_seq (W_reg (L_as (vb true) rfl (L_nil (W_ret ⟨[vb true], ⟨_, rfl, rfl⟩, true, rfl, H, ac.gr.g0⟩))))
end
section
open Go.RowKit
def F94.E (a : Feat) (b : Feat) (Q : Bool → Prop) : Prop :=
 (if a.Id != b.Id then Q false else F57.E a.Shape b.Shape (fun r => (if !r then Q false else F93.E a.Tags b.Tags (fun r2 => (if !r2 then Q false else Q true)))))
theorem F94.calls {O : Ob} (w0 : World) (hO : Ok w0 O) (a : Feat) (A2 : Option Addr) (n3 c4 : Nat) (A7 : Option Addr) (n8 c9 : Nat) (hs1 : Lim a.Id) (hp5 : Sl kPt w0 (Fr O) (.slice A2 n3 c4) a.Shape.Pts) (aw : Sl kTag w0 (Fr O) (.slice A7 n8 c9) a.Tags) (b : Feat) (ac : Option Addr) (ad ae : Nat) (af : Option Addr) (ag ah : Nat) (bb : Lim b.Id) (ax : Sl kPt w0 (Fr O) (.slice ac ad ae) b.Shape.Pts) (ay : Sl kTag w0 (Fr O) (.slice af ag ah) b.Tags) (Q : Bool → Prop) (h : F94.E a b Q) :
  Ret Tryz.prog 41 [.agg #[vs a.Id, vi a.Shape.Kind, .slice A2 n3 c4, .slice A7 n8 c9], .agg #[vs b.Id, vi b.Shape.Kind, .slice ac ad ae, .slice af ag ah]] w0 (fun v w' => ∃ (r0 : Bool), v = vb r0 ∧ Q r0 ∧ Gr w0 w' none) := by
 unfold F94.E at h
 have H := h
 clear h
 have hc0 := Ct.init hO
 refine Ret_enter Tryz.func41 rfl 22 rfl [.tmp 4] rfl rfl ?_
 refine W_seq (W_reg (L_box [vs a.Id, vi a.Shape.Kind, .slice A2 n3 c4, .slice A7 n8 c9] rfl fun bc aa az hu27 a0 a1 => ?_))
 have a2 := Fb.mk hc0.ok az a1
 have ak := hc0.k0 a0
 refine L_box [vs b.Id, vi b.Shape.Kind, .slice ac ad ae, .slice af ag ah] rfl fun a3 ab a4 hu36 aq a5 => ?_
 have al := Fb.mk ak.ok a4 a5
 have ai := ak.k0 aq
 refine L_as (vb false) rfl (L_nil (W_seq (W_seq (W_reg (L_pu (P_fa fa61_0 ⟨aa, 0, none⟩ ⟨aa, 0, none⟩ rfl rfl) ?_)))))
 have a6 := ak.stn aq
 have am := (a2.st a6)
 refine L_pu (P_ld ag9 cL ⟨aa, 0, none⟩ (vs a.Id) rfl (am.cell rfl)) (L_pu (P_fa fa61_0 ⟨ab, 0, none⟩ ⟨ab, 0, none⟩ rfl rfl) (L_pu (P_ld ag9 cL ⟨ab, 0, none⟩ (vs b.Id) rfl (al.cell rfl)) (L_pu (P_scmp a.Id b.Id (a.Id != b.Id) rfl rfl rfl) (L_nil ?_))))
 refine W_cond (a.Id != b.Id) rfl (fun an => ?_) (fun an => ?_)
 ·have H := ite_t H an
  exact W_seq (W_reg (L_as (vb false) rfl (L_nil (W_ret ⟨[vb false], ⟨_, rfl, rfl⟩, false, rfl, H, ai.gr.g0⟩))))
 have H := ite_f H an
 refine W_skip (W_seq (W_seq (W_reg (L_pu (P_fa fa61_1 ⟨aa, 0, none⟩ ⟨aa, 1, none⟩ rfl rfl) (L_pu (P_lda ag58 sz58 cL ⟨aa, 1, none⟩ [vi a.Shape.Kind, .slice A2 n3 c4] rfl rfl (am.cells (off := 1) rfl)) (L_pu (P_fa fa61_1 ⟨ab, 0, none⟩ ⟨ab, 1, none⟩ rfl rfl) (L_pu (P_lda ag58 sz58 cL ⟨ab, 1, none⟩ [vi b.Shape.Kind, .slice ac ad ae] rfl rfl (al.cells (off := 1) rfl)) ?_)))))))
 refine L_call go75 [.agg #[vi a.Shape.Kind, .slice A2 n3 c4], .agg #[vi b.Shape.Kind, .slice ac ad ae]] rfl ((F57.calls a3 ai.ok a.Shape A2 n3 c4 (hp5.st ai.st) b.Shape ac ad ae (ax.st ai.st) _ H).mono ?_)
 rintro _ a7 ⟨r, rfl, H, ar⟩
 have aj := ai.k0 ar
 refine L_pu (P_not r rfl) (L_nil ?_)
 refine W_cond (!r) rfl (fun ao => ?_) (fun ao => ?_)
 ·have H := ite_t H ao
  exact W_seq (W_reg (L_as (vb false) rfl (L_nil (W_ret ⟨[vb false], ⟨_, rfl, rfl⟩, false, rfl, H, aj.gr.g0⟩))))
 have H := ite_f H ao
 refine W_skip (W_seq (W_seq (W_reg (L_pu (P_fa fa61_2 ⟨aa, 0, none⟩ ⟨aa, 3, none⟩ rfl rfl) ?_))))
 have au := ai.stn ar
 have a8 := (am.st au)
 refine L_pu (P_ld ag59 cL ⟨aa, 3, none⟩ (.slice A7 n8 c9) rfl (a8.cell rfl)) (L_pu (P_fa fa61_2 ⟨ab, 0, none⟩ ⟨ab, 3, none⟩ rfl rfl) ?_)
 have a9 := (al.st au)
 refine L_pu (P_ld ag59 cL ⟨ab, 3, none⟩ (.slice af ag ah) rfl (a9.cell rfl)) ?_
 refine L_call go76 [.slice A7 n8 c9, .slice af ag ah] rfl ((F93.calls a7 aj.ok a.Tags A7 n8 c9 (aw.st aj.st) b.Tags af ag ah (ay.st aj.st) _ H).mono ?_)
 rintro _ bd ⟨r2, rfl, H, ba⟩
 have av := aj.k0 ba
 refine L_pu (P_not r2 rfl) (L_nil ?_)
 refine W_cond (!r2) rfl (fun ap => ?_) (fun ap => ?_)
 ·have H := ite_t H ap
  exact W_seq (W_reg (L_as (vb false) rfl (L_nil (W_ret ⟨[vb false], ⟨_, rfl, rfl⟩, false, rfl, H, av.gr.g0⟩))))
 have H := ite_f H ap
 exact W_skip (W_seq (W_reg (L_as (vb true) rfl (L_nil (W_ret ⟨[vb true], ⟨_, rfl, rfl⟩, true, rfl, H, av.gr.g0⟩)))))
end
theorem F109.law (a b : List Pt) (Q : Bool → Prop) (hq : Q (decide (a = b))) : F109.E a b Q := by
 unfold F109.E
 exact eqS_shape (fun x y => decide (x = y)) (fun _ _ => rfl) a b Q hq
theorem F109.is (a b : List Pt) : F109.E a b (fun r => r = decide (a = b)) := F109.law a b _ rfl
theorem F57.law (a b : Shape) (Q : Bool → Prop) (hq : Q (decide (a = b))) : F57.E a b Q := by
 obtain ⟨x0, x1⟩ := a; obtain ⟨y0, y1⟩ := b
 rw [show (decide ((⟨x0, x1⟩ : Shape) = ⟨y0, y1⟩)) = ((decide (x0 = y0)) && (decide (x1 = y1))) by simp only [Shape.mk.injEq, Bool.decide_and]] at hq
 unfold F57.E
 by_cases h0 : x0 = y0
 case neg => simpa [h0] using hq
 simp only [h0, decide_true, Bool.true_and, bne_self_eq_false, Bool.not_true, Bool.false_eq_true, if_false] at hq ⊢
 try refine F109.law _ _ _ ?_
 by_cases h1 : x1 = y1
 case neg => simpa [h1] using hq
 simp only [h1, decide_true, Bool.true_and, bne_self_eq_false, Bool.not_true, Bool.false_eq_true, if_false] at hq ⊢
 all_goals (try exact hq)
theorem F57.is (a b : Shape) : F57.E a b (fun r => r = decide (a = b)) := F57.law a b _ rfl
theorem F93.law (a b : List Tag) (Q : Bool → Prop) (hq : Q (decide (a = b))) : F93.E a b Q := by
 unfold F93.E
 exact eqS_shape (fun x y => decide (x = y)) (fun _ _ => rfl) a b Q hq
theorem F93.is (a b : List Tag) : F93.E a b (fun r => r = decide (a = b)) := F93.law a b _ rfl
theorem F94.law (a b : Feat) (Q : Bool → Prop) (hq : Q (decide (a = b))) : F94.E a b Q := by
 obtain ⟨x0, x1, x2⟩ := a; obtain ⟨y0, y1, y2⟩ := b
 rw [show (decide ((⟨x0, x1, x2⟩ : Feat) = ⟨y0, y1, y2⟩)) = ((decide (x0 = y0)) && ((decide (x1 = y1)) && (decide (x2 = y2)))) by simp only [Feat.mk.injEq, Bool.decide_and]] at hq
 unfold F94.E
 by_cases h0 : x0 = y0
 case neg => simpa [h0] using hq
 simp only [h0, decide_true, Bool.true_and, bne_self_eq_false, Bool.not_true, Bool.false_eq_true, if_false] at hq ⊢
 try refine F57.law _ _ _ ?_
 by_cases h1 : x1 = y1
 case neg => simpa [h1] using hq
 simp only [h1, decide_true, Bool.true_and, bne_self_eq_false, Bool.not_true, Bool.false_eq_true, if_false] at hq ⊢
 try refine F93.law _ _ _ ?_
 by_cases h2 : x2 = y2
 case neg => simpa [h2] using hq
 simp only [h2, decide_true, Bool.true_and, bne_self_eq_false, Bool.not_true, Bool.false_eq_true, if_false] at hq ⊢
 all_goals (try exact hq)
theorem F94.is (a b : Feat) : F94.E a b (fun r => r = decide (a = b)) := F94.law a b _ rfl
section
open Go.RowKit
def F58.E (a : List Feat) (b : List Feat) (Q : Bool → Prop) : Prop :=
 (if (a.length : Int) != (b.length : Int) then Q false else (∃ (I32 : Int → Prop) (mu33 : Int → Nat), I32 0 ∧ ∀ (i2 : Int), I32 i2 → (if decide (i2 < (a.length : Int)) then ((0 : Int) ≤ i2 ∧ i2 < (a.length : Int)) ∧ ((0 : Int) ≤ i2 ∧ i2 < (b.length : Int)) ∧ (if !(decide ((nth a i2) = (nth b i2))) then Q false else (-9223372036854775808 ≤ i2) ∧ I32 (i2 + 1) ∧ mu33 (i2 + 1) < mu33 i2) else Q true)))
theorem F58.calls {O : Ob} (w0 : World) (hO : Ok w0 O) (a : List Feat) (A1 : Option Addr) (n2 c3 : Nat) (hp4 : Sl kFeat w0 (Fr O) (.slice A1 n2 c3) a) (b : List Feat) (A6 : Option Addr) (n7 c8 : Nat) (hp9 : Sl kFeat w0 (Fr O) (.slice A6 n7 c8) b) (Q : Bool → Prop) (h : F58.E a b Q) :
  Ret Tryz.prog 11 [.slice A1 n2 c3, .slice A6 n7 c8] w0 (fun v w' => ∃ (r0 : Bool), v = vb r0 ∧ Q r0 ∧ Gr w0 w' none) := by
 unfold F58.E at h
 have H := h
 clear h
 have hc0 := Ct.init hO
 refine Ret_enter Tryz.func11 rfl 27 rfl [.tmp 4] rfl rfl ?_
 refine W_seq (W_reg (L_as (vb false) rfl (L_nil (W_seq (W_seq (W_reg (L_mv (.slice A1 n2 c3) rfl ?_)))))))
 have bo := hp4.le
 refine L_pu (P_len Tryz.underlying26 A1 n2 c3 hp4.len rfl) (L_mv (.slice A6 n7 c8) rfl ?_)
 have bp := hp9.le
 refine L_pu (P_len Tryz.underlying26 A6 n7 c8 hp9.len rfl) (L_pu (P_cmp (a.length : Int) (b.length : Int) ((a.length : Int) != (b.length : Int)) rfl rfl rfl) (L_nil ?_))
 refine W_cond ((a.length : Int) != (b.length : Int)) rfl (fun ae => ?_) (fun ae => ?_)
 ·have H := ite_t H ae
  exact W_seq (W_reg (L_as (vb false) rfl (L_nil (W_ret ⟨[vb false], ⟨_, rfl, rfl⟩, false, rfl, H, hc0.gr.g0⟩))))
 have H := ite_f H ae
 refine W_skip (W_seq (W_seq (W_reg (L_as (vi 0) rfl (L_nil (W_block ?_))))))
 obtain ⟨a3, a4, af, H⟩ := H
 refine W_loop (α := Int) (fun (sv__ : Int) t aa => match sv__ with | i2 => a3 i2 ∧ Has t [(0, .slice A1 n2 c3), (1, .slice A6 n7 c8), (5, vi i2)] ∧ Ct [] w0 aa [] O ∧ Sl kFeat aa (Fr ([] ++ O)) (.slice A1 n2 c3) a ∧ Sl kFeat aa (Fr ([] ++ O)) (.slice A6 n7 c8) b) (fun (sv__ : Int) => match sv__ with | i2 => a4 i2) 0 ⟨af, (hasI rfl), hc0, hp4, hp9⟩ ?_
 rintro i2 _ aa ⟨af, a5, ac, ab, ag⟩
 obtain ⟨bq, rfl⟩ := Has.ins a5
 have H := H i2 af
 refine W_seq (W_seq (W_reg (L_mv (vi i2) rfl (L_mv (.slice A1 n2 c3) rfl ?_))))
 have a6 := ab.le
 refine L_pu (P_len Tryz.underlying26 A1 n2 c3 ab.len rfl) (L_pu (P_cmp i2 (a.length : Int) (decide (i2 < (a.length : Int))) rfl rfl rfl) (L_nil ?_))
 refine W_cond (decide (i2 < (a.length : Int))) rfl (fun ad => ?_) (fun ad => ?_)
 ·have H := ite_t H ad
  refine W_skip (W_seq (W_block (W_seq (W_draw (fun x => Gr aa x none) (by kernel_rfl) (by kernel_rfl) (Gr.drew _) ?_))))
  refine Q_mv (.slice A1 n2 c3) rfl (Q_mv (vi i2) rfl ?_)
  obtain ⟨aw, H⟩ := H
  obtain ⟨ax, br, a7, bs, a8, a9⟩ := ab.get default (by decide) i2 aw
  obtain ⟨ah, ai, aj, ak, al, am, rfl, ba, bb, bc⟩ := kFeat.op a8
  refine Q_pu (P_ia Tryz.underlying26 se26 A1 ax n2 c3 ab.len i2 rfl a7 rfl aw) (Q_pu (P_lda ag61 sz61 cQ (ax.add (i2.toNat * 4)) [vs ((nth a i2).Id), vi ((nth a i2).Shape.Kind), .slice ah ai aj, .slice ak al am] rfl rfl a9) (Q_mv (.slice A6 n7 c8) rfl (Q_mv (vi i2) rfl ?_)))
  obtain ⟨ay, H⟩ := H
  obtain ⟨az, bt, bd, bu, be, bf⟩ := ag.get default (by decide) i2 ay
  obtain ⟨an, ao, ap, aq, ar, au, rfl, bg, bh, bi⟩ := kFeat.op be
  refine Q_pu (P_ia Tryz.underlying26 se26 A6 az n7 c8 ag.len i2 rfl bd rfl ay) (Q_pu (P_lda ag61 sz61 cQ (az.add (i2.toNat * 4)) [vs ((nth b i2).Id), vi ((nth b i2).Shape.Kind), .slice an ao ap, .slice aq ar au] rfl rfl bf) ?_)
  refine Q_call go41 [.agg #[vs ((nth a i2).Id), vi ((nth a i2).Shape.Kind), .slice ah ai aj, .slice ak al am], .agg #[vs ((nth b i2).Id), vi ((nth b i2).Shape.Kind), .slice an ao ap, .slice aq ar au]] rfl (vb (decide ((nth a i2) = (nth b i2)))) (fun w g => (F94.calls w (ac.k0 g).ok (nth a i2) ah ai aj ak al am ba (bb.st (.new _ g)) (bc.st (.new _ g)) (nth b i2) an ao ap aq ar au bg (bh.st (.new _ g)) (bi.st (.new _ g)) _ (F94.is (nth a i2) (nth b i2))).mono ?_) ?_
  ·rintro _ w ⟨r, rfl, rfl, g2⟩
   exact ⟨rfl, Gr.t0 g g2⟩
  refine Q_pu (P_not (decide ((nth a i2) = (nth b i2))) rfl) (Q_nil fun bv a0 => ?_)
  have a1 := ac.k0 a0
  refine W_cond (!(decide ((nth a i2) = (nth b i2)))) rfl (fun av => ?_) (fun av => ?_)
  ·have H := ite_t H av
   exact W_seq (W_reg (L_as (vb false) rfl (L_nil (W_ret ⟨[vb false], ⟨_, rfl, rfl⟩, false, rfl, H, a1.gr.g0⟩))))
  have H := ite_f H av
  refine W_skip (W_reg (L_mv (vi i2) rfl ?_))
  obtain ⟨bj, H⟩ := H
  have bl : I64 (i2 + 1) := i64_succ (of_decide_eq_true ad) a6 bj
  refine L_pu (P_add i2 1 rfl rfl bl) (L_as (vi (i2 + 1)) rfl (L_nil ?_))
  obtain ⟨bm, bn⟩ := H
  have a2 := ac.stn a0
  exact ⟨i2 + 1, bn, bm, (hasI rfl), a1, (ab.st a2), (ag.st a2)⟩
 have H := ite_f H ad
 refine W_exit (xin_hit ?_)
 exact W_seq (W_reg (L_as (vb true) rfl (L_nil (W_ret ⟨[vb true], ⟨_, rfl, rfl⟩, true, rfl, H, ac.gr.g0⟩))))
end
section
open Go.RowKit
def F39.E (a : Change) (b : Change) (Q : Bool → Prop) : Prop :=
 (if a.Id != b.Id then Q false else (if a.Had != b.Had then Q false else F94.E a.Was b.Was (fun r => (if !r then Q false else (if a.Has != b.Has then Q false else F94.E a.Now b.Now (fun r2 => (if !r2 then Q false else Q true)))))))
theorem F39.calls {O : Ob} (w0 : World) (hO : Ok w0 O) (a : Change) (A3 : Option Addr) (n4 c5 : Nat) (A8 : Option Addr) (n9 ae : Nat) (af : Option Addr) (ag ah : Nat) (ai : Option Addr) (aj ak : Nat) (hs1 : Lim a.Id) (hs2 : Lim a.Was.Id) (hp6 : Sl kPt w0 (Fr O) (.slice A3 n4 c5) a.Was.Shape.Pts) (bd : Sl kTag w0 (Fr O) (.slice A8 n9 ae) a.Was.Tags) (be : Lim a.Now.Id) (bf : Sl kPt w0 (Fr O) (.slice af ag ah) a.Now.Shape.Pts) (bg : Sl kTag w0 (Fr O) (.slice ai aj ak) a.Now.Tags) (b : Change) (al : Option Addr) (am an : Nat) (ao : Option Addr) (ap aq : Nat) (ar : Option Addr) (au av : Nat) (aw : Option Addr) (ax ay : Nat) (bz : Lim b.Id) (bh : Lim b.Was.Id) (bi : Sl kPt w0 (Fr O) (.slice al am an) b.Was.Shape.Pts) (bj : Sl kTag w0 (Fr O) (.slice ao ap aq) b.Was.Tags) (bl : Lim b.Now.Id) (bm : Sl kPt w0 (Fr O) (.slice ar au av) b.Now.Shape.Pts) (bn : Sl kTag w0 (Fr O) (.slice aw ax ay) b.Now.Tags) (Q : Bool → Prop) (h : F39.E a b Q) :
  Ret Tryz.prog 42 [.agg #[vs a.Id, vb a.Had, vs a.Was.Id, vi a.Was.Shape.Kind, .slice A3 n4 c5, .slice A8 n9 ae, vb a.Has, vs a.Now.Id, vi a.Now.Shape.Kind, .slice af ag ah, .slice ai aj ak], .agg #[vs b.Id, vb b.Had, vs b.Was.Id, vi b.Was.Shape.Kind, .slice al am an, .slice ao ap aq, vb b.Has, vs b.Now.Id, vi b.Now.Shape.Kind, .slice ar au av, .slice aw ax ay]] w0 (fun v w' => ∃ (r0 : Bool), v = vb r0 ∧ Q r0 ∧ Gr w0 w' none) := by
 unfold F39.E at h
 have H := h
 clear h
 have hc0 := Ct.init hO
 refine Ret_enter Tryz.func42 rfl 32 rfl [.tmp 4] rfl rfl ?_
 refine W_seq (W_reg (L_box [vs a.Id, vb a.Had, vs a.Was.Id, vi a.Was.Shape.Kind, .slice A3 n4 c5, .slice A8 n9 ae, vb a.Has, vs a.Now.Id, vi a.Now.Shape.Kind, .slice af ag ah, .slice ai aj ak] rfl fun b0 aa bo hu51 bp bq => ?_))
 have br := Fb.mk hc0.ok bo bq
 have a1 := hc0.k0 bp
 refine L_box [vs b.Id, vb b.Had, vs b.Was.Id, vi b.Was.Shape.Kind, .slice al am an, .slice ao ap aq, vb b.Has, vs b.Now.Id, vi b.Now.Shape.Kind, .slice ar au av, .slice aw ax ay] rfl fun bs ab bt hu60 a7 bu => ?_
 have az := Fb.mk a1.ok bt bu
 have ac := a1.k0 a7
 refine L_as (vb false) rfl (L_nil (W_seq (W_seq (W_reg (L_pu (P_fa fa63_0 ⟨aa, 0, none⟩ ⟨aa, 0, none⟩ rfl rfl) ?_)))))
 have bv := a1.stn a7
 have a0 := (br.st bv)
 refine L_pu (P_ld ag9 cL ⟨aa, 0, none⟩ (vs a.Id) rfl (a0.cell rfl)) (L_pu (P_fa fa63_0 ⟨ab, 0, none⟩ ⟨ab, 0, none⟩ rfl rfl) (L_pu (P_ld ag9 cL ⟨ab, 0, none⟩ (vs b.Id) rfl (az.cell rfl)) (L_pu (P_scmp a.Id b.Id (a.Id != b.Id) rfl rfl rfl) (L_nil ?_))))
 refine W_cond (a.Id != b.Id) rfl (fun a2 => ?_) (fun a2 => ?_)
 ·have H := ite_t H a2
  exact W_seq (W_reg (L_as (vb false) rfl (L_nil (W_ret ⟨[vb false], ⟨_, rfl, rfl⟩, false, rfl, H, ac.gr.g0⟩))))
 have H := ite_f H a2
 refine W_skip (W_seq (W_seq (W_reg (L_pu (P_fa fa63_1 ⟨aa, 0, none⟩ ⟨aa, 1, none⟩ rfl rfl) (L_pu (P_ld ag4 cL ⟨aa, 1, none⟩ (vb a.Had) rfl (a0.cell rfl)) (L_pu (P_fa fa63_1 ⟨ab, 0, none⟩ ⟨ab, 1, none⟩ rfl rfl) (L_pu (P_ld ag4 cL ⟨ab, 1, none⟩ (vb b.Had) rfl (az.cell rfl)) (L_pu (P_bcmp Tryz.underlying4 a.Had b.Had (a.Had != b.Had) rfl rfl rfl) ?_))))))))
 refine L_nil ?_
 refine W_cond (a.Had != b.Had) rfl (fun a3 => ?_) (fun a3 => ?_)
 ·have H := ite_t H a3
  exact W_seq (W_reg (L_as (vb false) rfl (L_nil (W_ret ⟨[vb false], ⟨_, rfl, rfl⟩, false, rfl, H, ac.gr.g0⟩))))
 have H := ite_f H a3
 refine W_skip (W_seq (W_seq (W_reg (L_pu (P_fa fa63_2 ⟨aa, 0, none⟩ ⟨aa, 2, none⟩ rfl rfl) (L_pu (P_lda ag61 sz61 cL ⟨aa, 2, none⟩ [vs a.Was.Id, vi a.Was.Shape.Kind, .slice A3 n4 c5, .slice A8 n9 ae] rfl rfl (a0.cells (off := 2) rfl)) (L_pu (P_fa fa63_2 ⟨ab, 0, none⟩ ⟨ab, 2, none⟩ rfl rfl) (L_pu (P_lda ag61 sz61 cL ⟨ab, 2, none⟩ [vs b.Was.Id, vi b.Was.Shape.Kind, .slice al am an, .slice ao ap aq] rfl rfl (az.cells (off := 2) rfl)) ?_)))))))
 refine L_call go41 [.agg #[vs a.Was.Id, vi a.Was.Shape.Kind, .slice A3 n4 c5, .slice A8 n9 ae], .agg #[vs b.Was.Id, vi b.Was.Shape.Kind, .slice al am an, .slice ao ap aq]] rfl ((F94.calls bs ac.ok a.Was A3 n4 c5 A8 n9 ae hs2 (hp6.st ac.st) (bd.st ac.st) b.Was al am an ao ap aq bh (bi.st ac.st) (bj.st ac.st) _ H).mono ?_)
 rintro _ bw ⟨r, rfl, H, a8⟩
 have ad := ac.k0 a8
 refine L_pu (P_not r rfl) (L_nil ?_)
 refine W_cond (!r) rfl (fun a4 => ?_) (fun a4 => ?_)
 ·have H := ite_t H a4
  exact W_seq (W_reg (L_as (vb false) rfl (L_nil (W_ret ⟨[vb false], ⟨_, rfl, rfl⟩, false, rfl, H, ad.gr.g0⟩))))
 have H := ite_f H a4
 refine W_skip (W_seq (W_seq (W_reg (L_pu (P_fa fa63_3 ⟨aa, 0, none⟩ ⟨aa, 6, none⟩ rfl rfl) ?_))))
 have a9 := ac.stn a8
 have ba := (a0.st a9)
 refine L_pu (P_ld ag4 cL ⟨aa, 6, none⟩ (vb a.Has) rfl (ba.cell rfl)) (L_pu (P_fa fa63_3 ⟨ab, 0, none⟩ ⟨ab, 6, none⟩ rfl rfl) ?_)
 have bb := (az.st a9)
 refine L_pu (P_ld ag4 cL ⟨ab, 6, none⟩ (vb b.Has) rfl (bb.cell rfl)) (L_pu (P_bcmp Tryz.underlying4 a.Has b.Has (a.Has != b.Has) rfl rfl rfl) (L_nil ?_))
 refine W_cond (a.Has != b.Has) rfl (fun a5 => ?_) (fun a5 => ?_)
 ·have H := ite_t H a5
  exact W_seq (W_reg (L_as (vb false) rfl (L_nil (W_ret ⟨[vb false], ⟨_, rfl, rfl⟩, false, rfl, H, ad.gr.g0⟩))))
 have H := ite_f H a5
 refine W_skip (W_seq (W_seq (W_reg (L_pu (P_fa fa63_4 ⟨aa, 0, none⟩ ⟨aa, 7, none⟩ rfl rfl) (L_pu (P_lda ag61 sz61 cL ⟨aa, 7, none⟩ [vs a.Now.Id, vi a.Now.Shape.Kind, .slice af ag ah, .slice ai aj ak] rfl rfl (ba.cells (off := 7) rfl)) (L_pu (P_fa fa63_4 ⟨ab, 0, none⟩ ⟨ab, 7, none⟩ rfl rfl) (L_pu (P_lda ag61 sz61 cL ⟨ab, 7, none⟩ [vs b.Now.Id, vi b.Now.Shape.Kind, .slice ar au av, .slice aw ax ay] rfl rfl (bb.cells (off := 7) rfl)) ?_)))))))
 refine L_call go41 [.agg #[vs a.Now.Id, vi a.Now.Shape.Kind, .slice af ag ah, .slice ai aj ak], .agg #[vs b.Now.Id, vi b.Now.Shape.Kind, .slice ar au av, .slice aw ax ay]] rfl ((F94.calls bw ad.ok a.Now af ag ah ai aj ak be (bf.st ad.st) (bg.st ad.st) b.Now ar au av aw ax ay bl (bm.st ad.st) (bn.st ad.st) _ H).mono ?_)
 rintro _ b1 ⟨r2, rfl, H, bx⟩
 have bc := ad.k0 bx
 refine L_pu (P_not r2 rfl) (L_nil ?_)
 refine W_cond (!r2) rfl (fun a6 => ?_) (fun a6 => ?_)
 ·have H := ite_t H a6
  exact W_seq (W_reg (L_as (vb false) rfl (L_nil (W_ret ⟨[vb false], ⟨_, rfl, rfl⟩, false, rfl, H, bc.gr.g0⟩))))
 have H := ite_f H a6
 exact W_skip (W_seq (W_reg (L_as (vb true) rfl (L_nil (W_ret ⟨[vb true], ⟨_, rfl, rfl⟩, true, rfl, H, bc.gr.g0⟩)))))
end
theorem F39.law (a b : Change) (Q : Bool → Prop) (hq : Q (decide (a = b))) : F39.E a b Q := by
 obtain ⟨x0, x1, x2, x3, x4⟩ := a; obtain ⟨y0, y1, y2, y3, y4⟩ := b
 rw [show (decide ((⟨x0, x1, x2, x3, x4⟩ : Change) = ⟨y0, y1, y2, y3, y4⟩)) = ((decide (x0 = y0)) && ((decide (x1 = y1)) && ((decide (x2 = y2)) && ((decide (x3 = y3)) && (decide (x4 = y4)))))) by simp only [Change.mk.injEq, Bool.decide_and]] at hq
 unfold F39.E
 by_cases h0 : x0 = y0
 case neg => simpa [h0] using hq
 simp only [h0, decide_true, Bool.true_and, bne_self_eq_false, Bool.not_true, Bool.false_eq_true, if_false] at hq ⊢
 by_cases h1 : x1 = y1
 case neg => simpa [h1] using hq
 simp only [h1, decide_true, Bool.true_and, bne_self_eq_false, Bool.not_true, Bool.false_eq_true, if_false] at hq ⊢
 try refine F94.law _ _ _ ?_
 by_cases h2 : x2 = y2
 case neg => simpa [h2] using hq
 simp only [h2, decide_true, Bool.true_and, bne_self_eq_false, Bool.not_true, Bool.false_eq_true, if_false] at hq ⊢
 by_cases h3 : x3 = y3
 case neg => simpa [h3] using hq
 simp only [h3, decide_true, Bool.true_and, bne_self_eq_false, Bool.not_true, Bool.false_eq_true, if_false] at hq ⊢
 try refine F94.law _ _ _ ?_
 by_cases h4 : x4 = y4
 case neg => simpa [h4] using hq
 simp only [h4, decide_true, Bool.true_and, bne_self_eq_false, Bool.not_true, Bool.false_eq_true, if_false] at hq ⊢
 all_goals (try exact hq)
theorem F39.is (a b : Change) : F39.E a b (fun r => r = decide (a = b)) := F39.law a b _ rfl
section
open Go.RowKit
def F27.E (a : List Change) (b : List Change) (Q : Bool → Prop) : Prop :=
 (if (a.length : Int) != (b.length : Int) then Q false else (∃ (I32 : Int → Prop) (mu33 : Int → Nat), I32 0 ∧ ∀ (i2 : Int), I32 i2 → (if decide (i2 < (a.length : Int)) then ((0 : Int) ≤ i2 ∧ i2 < (a.length : Int)) ∧ ((0 : Int) ≤ i2 ∧ i2 < (b.length : Int)) ∧ (if !(decide ((nth a i2) = (nth b i2))) then Q false else (-9223372036854775808 ≤ i2) ∧ I32 (i2 + 1) ∧ mu33 (i2 + 1) < mu33 i2) else Q true)))
theorem F27.calls {O : Ob} (w0 : World) (hO : Ok w0 O) (a : List Change) (A1 : Option Addr) (n2 c3 : Nat) (hp4 : Sl kChange w0 (Fr O) (.slice A1 n2 c3) a) (b : List Change) (A6 : Option Addr) (n7 c8 : Nat) (hp9 : Sl kChange w0 (Fr O) (.slice A6 n7 c8) b) (Q : Bool → Prop) (h : F27.E a b Q) :
  Ret Tryz.prog 12 [.slice A1 n2 c3, .slice A6 n7 c8] w0 (fun v w' => ∃ (r0 : Bool), v = vb r0 ∧ Q r0 ∧ Gr w0 w' none) := by
 unfold F27.E at h
 have H := h
 clear h
 have hc0 := Ct.init hO
 refine Ret_enter Tryz.func12 rfl 27 rfl [.tmp 4] rfl rfl ?_
 refine W_seq (W_reg (L_as (vb false) rfl (L_nil (W_seq (W_seq (W_reg (L_mv (.slice A1 n2 c3) rfl ?_)))))))
 have b9 := hp4.le
 refine L_pu (P_len Tryz.underlying30 A1 n2 c3 hp4.len rfl) (L_mv (.slice A6 n7 c8) rfl ?_)
 have ca := hp9.le
 refine L_pu (P_len Tryz.underlying30 A6 n7 c8 hp9.len rfl) (L_pu (P_cmp (a.length : Int) (b.length : Int) ((a.length : Int) != (b.length : Int)) rfl rfl rfl) (L_nil ?_))
 refine W_cond ((a.length : Int) != (b.length : Int)) rfl (fun ae => ?_) (fun ae => ?_)
 ·have H := ite_t H ae
  exact W_seq (W_reg (L_as (vb false) rfl (L_nil (W_ret ⟨[vb false], ⟨_, rfl, rfl⟩, false, rfl, H, hc0.gr.g0⟩))))
 have H := ite_f H ae
 refine W_skip (W_seq (W_seq (W_reg (L_as (vi 0) rfl (L_nil (W_block ?_))))))
 obtain ⟨bf, bg, af, H⟩ := H
 refine W_loop (α := Int) (fun (sv__ : Int) t aa => match sv__ with | i2 => bf i2 ∧ Has t [(0, .slice A1 n2 c3), (1, .slice A6 n7 c8), (5, vi i2)] ∧ Ct [] w0 aa [] O ∧ Sl kChange aa (Fr ([] ++ O)) (.slice A1 n2 c3) a ∧ Sl kChange aa (Fr ([] ++ O)) (.slice A6 n7 c8) b) (fun (sv__ : Int) => match sv__ with | i2 => bg i2) 0 ⟨af, (hasI rfl), hc0, hp4, hp9⟩ ?_
 rintro i2 _ aa ⟨af, bh, ac, ab, ag⟩
 obtain ⟨cb, rfl⟩ := Has.ins bh
 have H := H i2 af
 refine W_seq (W_seq (W_reg (L_mv (vi i2) rfl (L_mv (.slice A1 n2 c3) rfl ?_))))
 have bi := ab.le
 refine L_pu (P_len Tryz.underlying30 A1 n2 c3 ab.len rfl) (L_pu (P_cmp i2 (a.length : Int) (decide (i2 < (a.length : Int))) rfl rfl rfl) (L_nil ?_))
 refine W_cond (decide (i2 < (a.length : Int))) rfl (fun ad => ?_) (fun ad => ?_)
 ·have H := ite_t H ad
  refine W_skip (W_seq (W_block (W_seq (W_draw (fun x => Gr aa x none) (by kernel_rfl) (by kernel_rfl) (Gr.drew _) ?_))))
  refine Q_mv (.slice A1 n2 c3) rfl (Q_mv (vi i2) rfl ?_)
  obtain ⟨a8, H⟩ := H
  obtain ⟨a9, cc, bj, cd, bl, bm⟩ := ab.get default (by decide) i2 a8
  obtain ⟨ah, ai, aj, ak, al, am, an, ao, ap, aq, ar, au, rfl, bn, bo, bp, bq, br, bs, bt⟩ := kChange.op bl
  refine Q_pu (P_ia Tryz.underlying30 se30 A1 a9 n2 c3 ab.len i2 rfl bj rfl a8) (Q_pu (P_lda ag63 sz63 cQ (a9.add (i2.toNat * 11)) [vs ((nth a i2).Id), vb ((nth a i2).Had), vs ((nth a i2).Was.Id), vi ((nth a i2).Was.Shape.Kind), .slice ah ai aj, .slice ak al am, vb ((nth a i2).Has), vs ((nth a i2).Now.Id), vi ((nth a i2).Now.Shape.Kind), .slice an ao ap, .slice aq ar au] rfl rfl bm) (Q_mv (.slice A6 n7 c8) rfl (Q_mv (vi i2) rfl ?_)))
  obtain ⟨ba, H⟩ := H
  obtain ⟨bb, ce, bu, cf, bv, bw⟩ := ag.get default (by decide) i2 ba
  obtain ⟨av, aw, ax, ay, az, a0, a1, a2, a3, a4, a5, a6, rfl, bx, bz, b0, b1, b2, b3, b4⟩ := kChange.op bv
  refine Q_pu (P_ia Tryz.underlying30 se30 A6 bb n7 c8 ag.len i2 rfl bu rfl ba) (Q_pu (P_lda ag63 sz63 cQ (bb.add (i2.toNat * 11)) [vs ((nth b i2).Id), vb ((nth b i2).Had), vs ((nth b i2).Was.Id), vi ((nth b i2).Was.Shape.Kind), .slice av aw ax, .slice ay az a0, vb ((nth b i2).Has), vs ((nth b i2).Now.Id), vi ((nth b i2).Now.Shape.Kind), .slice a1 a2 a3, .slice a4 a5 a6] rfl rfl bw) ?_)
  refine Q_call go42 [.agg #[vs ((nth a i2).Id), vb ((nth a i2).Had), vs ((nth a i2).Was.Id), vi ((nth a i2).Was.Shape.Kind), .slice ah ai aj, .slice ak al am, vb ((nth a i2).Has), vs ((nth a i2).Now.Id), vi ((nth a i2).Now.Shape.Kind), .slice an ao ap, .slice aq ar au], .agg #[vs ((nth b i2).Id), vb ((nth b i2).Had), vs ((nth b i2).Was.Id), vi ((nth b i2).Was.Shape.Kind), .slice av aw ax, .slice ay az a0, vb ((nth b i2).Has), vs ((nth b i2).Now.Id), vi ((nth b i2).Now.Shape.Kind), .slice a1 a2 a3, .slice a4 a5 a6]] rfl (vb (decide ((nth a i2) = (nth b i2)))) (fun w g => (F39.calls w (ac.k0 g).ok (nth a i2) ah ai aj ak al am an ao ap aq ar au bn bo (bp.st (.new _ g)) (bq.st (.new _ g)) br (bs.st (.new _ g)) (bt.st (.new _ g)) (nth b i2) av aw ax ay az a0 a1 a2 a3 a4 a5 a6 bx bz (b0.st (.new _ g)) (b1.st (.new _ g)) b2 (b3.st (.new _ g)) (b4.st (.new _ g)) _ (F39.is (nth a i2) (nth b i2))).mono ?_) ?_
  ·rintro _ w ⟨r, rfl, rfl, g2⟩
   exact ⟨rfl, Gr.t0 g g2⟩
  refine Q_pu (P_not (decide ((nth a i2) = (nth b i2))) rfl) (Q_nil fun cg bc => ?_)
  have bd := ac.k0 bc
  refine W_cond (!(decide ((nth a i2) = (nth b i2)))) rfl (fun a7 => ?_) (fun a7 => ?_)
  ·have H := ite_t H a7
   exact W_seq (W_reg (L_as (vb false) rfl (L_nil (W_ret ⟨[vb false], ⟨_, rfl, rfl⟩, false, rfl, H, bd.gr.g0⟩))))
  have H := ite_f H a7
  refine W_skip (W_reg (L_mv (vi i2) rfl ?_))
  obtain ⟨b5, H⟩ := H
  have b6 : I64 (i2 + 1) := i64_succ (of_decide_eq_true ad) bi b5
  refine L_pu (P_add i2 1 rfl rfl b6) (L_as (vi (i2 + 1)) rfl (L_nil ?_))
  obtain ⟨b7, b8⟩ := H
  have be := ac.stn bc
  exact ⟨i2 + 1, b8, b7, (hasI rfl), bd, (ab.st be), (ag.st be)⟩
 have H := ite_f H ad
 refine W_exit (xin_hit ?_)
 exact W_seq (W_reg (L_as (vb true) rfl (L_nil (W_ret ⟨[vb true], ⟨_, rfl, rfl⟩, true, rfl, H, ac.gr.g0⟩))))
end
section
open Go.RowKit
def F40.E (k : Int) (Q : Str → Prop) : Prop :=
 (if decide (k ≤ 0) then Q ([109, 48] : Str) else (∃ (I10 : Int → Str → Prop) (mu11 : Int → Str → Nat), I10 k ([] : Str) ∧ ∀ (k3 : Int) (out2 : Str), I10 k3 out2 → (if decide (k3 > 0) then ((0 : Int) ≤ k3 ∧ (0 : Int) < 10) ∧ (I64 (48 + (k3 % 10))) ∧ ((0 : Int) ≤ 48 + (k3 % 10) ∧ 48 + (k3 % 10) ≤ (255 : Int)) ∧ (([(UInt8.ofNat (48 + (k3 % 10)).toNat)] : List UInt8).length + out2.length ≤ 9223372036854775807) ∧ (((0 : Int) ≤ k3 ∧ k3 ≤ (9223372036854775807 : Int)) ∧ (0 : Int) < 10) ∧ I10 (k3 / 10) (([(UInt8.ofNat (48 + (k3 % 10)).toNat)] : List UInt8) ++ out2) ∧ mu11 (k3 / 10) (([(UInt8.ofNat (48 + (k3 % 10)).toNat)] : List UInt8) ++ out2) < mu11 k3 out2 else (([109] : Str).length + out2.length ≤ 9223372036854775807) ∧ Q (([109] : Str) ++ out2))))
theorem F40.calls {O : Ob} (w0 : World) (hO : Ok w0 O) (k : Int) (Q : Str → Prop) (h : F40.E k Q) :
  Ret Tryz.prog 43 [vi k] w0 (fun v w' => ∃ (r0 : Str), v = vs r0 ∧ Q r0 ∧ Gr w0 w' none ∧ Lim r0) := by
 unfold F40.E at h
 have H := h
 clear h
 have hc0 := Ct.init hO
 refine Ret_enter Tryz.func43 rfl 20 rfl [.tmp 2] rfl rfl ?_
 refine W_seq (W_reg (L_as (vs ([] : Str)) rfl (L_nil (W_seq (W_seq (W_reg (L_mv (vi k) rfl (L_pu (P_cmp k 0 (decide (k ≤ 0)) rfl rfl rfl) ?_))))))))
 refine L_nil ?_
 refine W_cond (decide (k ≤ 0)) rfl (fun hq1 => ?_) (fun hq1 => ?_)
 ·have H := ite_t H hq1
  exact W_seq (W_reg (L_as (vs ([109, 48] : Str)) rfl (L_nil (W_ret ⟨[vs ([109, 48] : Str)], ⟨_, rfl, rfl⟩, ([109, 48] : Str), rfl, H, hc0.gr.g0, (by decide : Lim ([109, 48] : Str))⟩))))
 have H := ite_f H hq1
 refine W_skip (W_seq (W_reg (L_as (vs ([] : Str)) rfl (L_nil (W_seq (W_block ?_))))))
 obtain ⟨af, ag, aa, H⟩ := H
 refine W_loop (α := Int × Str) (fun (sv__ : Int × Str) t w7 => match sv__ with | (k3, out2) => af k3 out2 ∧ Has t [(0, vi k3), (3, vs out2)] ∧ Ct [] w0 w7 [] O ∧ Lim out2) (fun (sv__ : Int × Str) => match sv__ with | (k3, out2) => ag k3 out2) (k, ([] : Str)) ⟨aa, (hasI rfl), hc0, (by decide : Lim ([] : Str))⟩ ?_
 rintro ⟨k3, out2⟩ _ w7 ⟨aa, ah, hc9, hs8⟩
 obtain ⟨av, rfl⟩ := Has.ins ah
 have H := H k3 out2 aa
 refine W_seq (W_seq (W_reg (L_mv (vi k3) rfl (L_pu (P_cmp k3 0 (decide (k3 > 0)) rfl rfl rfl) (L_nil ?_)))))
 refine W_cond (decide (k3 > 0)) rfl (fun ab => ?_) (fun ab => ?_)
 ·have H := ite_t H ab
  refine W_skip (W_block (W_seq (W_reg (L_mv (vi k3) rfl ?_))))
  obtain ⟨ai, H⟩ := H
  refine L_pu (P_rem k3 10 rfl rfl ai) ?_
  obtain ⟨aj, H⟩ := H
  refine L_pu (P_add 48 (k3 % 10) rfl rfl aj) ?_
  obtain ⟨ak, H⟩ := H
  refine L_pu (P_convb Tryz.underlying3 Tryz.underlying5 (48 + (k3 % 10)) rfl ak) (L_lit (kd := Kd.byte) ei112 hc9 ([(UInt8.ofNat (48 + (k3 % 10)).toNat)] : List UInt8) (cells := [v8 (UInt8.ofNat (48 + (k3 % 10)).toNat)]) ⟨[v8 (UInt8.ofNat (48 + (k3 % 10)).toNat)], _, rfl, rfl, rfl⟩ (fun _ => by kernel_rfl) fun aw al am an ax hr25 ao ac => ?_)
  refine L_pu (P_b2s Tryz.underlying112 Tryz.underlying5 Tryz.underlying9 al am an ([(UInt8.ofNat (48 + (k3 % 10)).toNat)] : List UInt8) rfl (fun _ e => e ▸ ⟨_, ac.sx⟩)) ?_
  have ay : Lim ([(UInt8.ofNat (48 + (k3 % 10)).toNat)] : List UInt8) := ac.le
  refine L_mv (vs out2) rfl ?_
  obtain ⟨ad, H⟩ := H
  refine L_pu (P_cat ([(UInt8.ofNat (48 + (k3 % 10)).toNat)] : List UInt8) out2 rfl rfl ad) (L_as (vs (([(UInt8.ofNat (48 + (k3 % 10)).toNat)] : List UInt8) ++ out2)) rfl (L_nil (W_reg (L_mv (vi k3) rfl ?_))))
  obtain ⟨ap, H⟩ := H
  refine L_pu (P_quo k3 10 rfl rfl ap) (L_as (vi (k3 / 10)) rfl (L_nil ?_))
  have aq := ao.drop 0 rfl
  obtain ⟨ar, au⟩ := H
  exact ⟨(k3 / 10, (([(UInt8.ofNat (48 + (k3 % 10)).toNat)] : List UInt8) ++ out2)), au, ar, (hasI rfl), aq, (lim_cat ad)⟩
 have H := ite_f H ab
 refine W_exit (xin_hit ?_)
 refine W_seq (W_reg (L_mv (vs out2) rfl ?_))
 obtain ⟨ae, H⟩ := H
 exact L_pu (P_cat ([109] : Str) out2 rfl rfl ae) (L_as (vs (([109] : Str) ++ out2)) rfl (L_nil (W_ret ⟨[vs (([109] : Str) ++ out2)], ⟨_, rfl, rfl⟩, (([109] : Str) ++ out2), rfl, H, hc9.gr.g0, (lim_cat ae)⟩)))
end
section
open Go.RowKit
def F59.E (a : List Pt) (k : Int) (Q : Int → List Pt → Prop) : Prop :=
 (∃ (I23 : (List Pt) → Int → Int → Prop) (mu24 : (List Pt) → Int → Int → Nat), I23 a k 0 ∧ ∀ (xs2 : List Pt) (k3 : Int) (i2 : Int), I23 xs2 k3 i2 → (if decide (i2 < (xs2.length : Int)) then ((0 : Int) ≤ i2 ∧ i2 < (xs2.length : Int)) ∧ ((xs2.length : Int) ≤ 9223372036854775807 → I64 (k3 + 1)) ∧ ((0 : Int) ≤ i2 ∧ i2 < ((xs2.set i2.toNat (⟨k3, (nth xs2 i2).Y⟩ : Pt)).length : Int)) ∧ ((xs2.length : Int) ≤ 9223372036854775807 → I64 (k3 + 1 + 1)) ∧ (-9223372036854775808 ≤ i2) ∧ I23 ((xs2.set i2.toNat (⟨k3, (nth xs2 i2).Y⟩ : Pt)).set i2.toNat (⟨(nth (xs2.set i2.toNat (⟨k3, (nth xs2 i2).Y⟩ : Pt)) i2).X, k3 + 1⟩ : Pt)) (k3 + 1 + 1) (i2 + 1) ∧ mu24 ((xs2.set i2.toNat (⟨k3, (nth xs2 i2).Y⟩ : Pt)).set i2.toNat (⟨(nth (xs2.set i2.toNat (⟨k3, (nth xs2 i2).Y⟩ : Pt)) i2).X, k3 + 1⟩ : Pt)) (k3 + 1 + 1) (i2 + 1) < mu24 xs2 k3 i2 else Q k3 xs2))
theorem F59.calls {O : Ob} (w0 : World) (hO : Ok w0 O) (A1 : Option Addr) (n2 c3 : Nat) (a : List Pt) (hp0 : Ow kPt 114 w0 O (.slice A1 n2 c3) a) (k : Int) (Q : Int → List Pt → Prop) (h : F59.E a k Q) :
  Ret Tryz.prog 44 [.slice A1 n2 c3, vi k] w0 (fun v w' => ∃ (r0 : Int) (m0 : List Pt), v = vi r0 ∧ Q r0 m0 ∧ Gr w0 w' (bk A1) ∧ Ow kPt 114 w' O (.slice A1 n2 c3) m0) := by
 unfold F59.E at h
 have H := h
 clear h
 have hc0 := Ct.initm1 (r := bk A1) hO (by intro b e; exact hp0.mem b e)
 refine Ret_enter Tryz.func44 rfl 27 rfl [.tmp 4] rfl rfl ?_
 refine W_seq (W_reg (L_as (vi 0) rfl (L_nil (W_seq (W_seq (W_reg (L_as (vi 0) rfl (L_nil ?_))))))))
 refine W_block ?_
 obtain ⟨an, ao, ae, H⟩ := H
 refine W_loop (α := (List Pt) × Int × Int) (fun (sv__ : (List Pt) × Int × Int) t af => match sv__ with | (xs2, k3, i2) => an xs2 k3 i2 ∧ Has t [(0, .slice A1 n2 c3), (1, vi k3), (5, vi i2)] ∧ Ct [bk A1] w0 af [] O ∧ Ow kPt 114 af O (.slice A1 n2 c3) xs2) (fun (sv__ : (List Pt) × Int × Int) => match sv__ with | (xs2, k3, i2) => ao xs2 k3 i2) (a, k, 0) ⟨ae, (hasI rfl), hc0, hp0⟩ ?_
 rintro ⟨xs2, k3, i2⟩ _ af ⟨ae, ap, ak, aa⟩
 obtain ⟨a9, rfl⟩ := Has.ins ap
 have H := H xs2 k3 i2 ae
 refine W_seq (W_seq (W_reg (L_mv (vi i2) rfl (L_mv (.slice A1 n2 c3) rfl ?_))))
 have ag := aa.le
 refine L_pu (P_len Tryz.underlying56 A1 n2 c3 aa.len rfl) (L_pu (P_cmp i2 (xs2.length : Int) (decide (i2 < (xs2.length : Int))) rfl rfl rfl) (L_nil ?_))
 refine W_cond (decide (i2 < (xs2.length : Int))) rfl (fun ab => ?_) (fun ab => ?_)
 ·have H := ite_t H ab
  refine W_skip (W_seq (W_block (W_seq (W_reg (L_mv (.slice A1 n2 c3) rfl (L_mv (vi i2) rfl (L_mv (vi k3) rfl ?_)))))))
  obtain ⟨ah, H⟩ := H
  obtain ⟨ac, ba, al, aq, ar⟩ := aa.get default (by decide) i2 ah
  obtain rfl := kPt.op aq
  refine L_pu (P_ia Tryz.underlying56 se56 A1 ac n2 c3 aa.len i2 rfl al rfl ah) (L_pu (P_fa fa114_0 (ac.add (i2.toNat * 2)) ((ac.add (i2.toNat * 2)).add 0) rfl rfl) (L_ste1 A1 n2 c3 xs2 aa i2 ah ac al 0 rfl [vi k3] rfl sz3 rfl (⟨k3, (nth xs2 i2).Y⟩ : Pt) [vi ((nth xs2 i2).X), vi ((nth xs2 i2).Y)] [vi k3, vi ((nth xs2 i2).Y)] ar rfl rfl (kPt.mk _ _ (⟨k3, (nth xs2 i2).Y⟩ : Pt)) fun bb au ai => ?_))
  have av := ak.wm au
  refine L_nil (W_seq (W_reg (L_mv (vi k3) rfl ?_)))
  obtain ⟨aw, H⟩ := H
  have ax := aw (len_le ag)
  refine L_pu (P_add k3 1 rfl rfl ax) (L_as (vi (k3 + 1)) rfl (L_nil (W_seq (W_reg (L_mv (.slice A1 n2 c3) rfl (L_mv (vi i2) rfl (L_mv (vi (k3 + 1)) rfl ?_)))))))
  obtain ⟨aj, H⟩ := H
  obtain ⟨ad, bc, am, ay, az⟩ := ai.get default (by decide) i2 aj
  obtain rfl := kPt.op ay
  refine L_pu (P_ia Tryz.underlying56 se56 A1 ad n2 c3 ai.len i2 rfl am rfl aj) (L_pu (P_fa fa114_1 (ad.add (i2.toNat * 2)) ((ad.add (i2.toNat * 2)).add 1) rfl rfl) (L_ste1 A1 n2 c3 (xs2.set i2.toNat (⟨k3, (nth xs2 i2).Y⟩ : Pt)) ai i2 aj ad am 1 rfl [vi (k3 + 1)] rfl sz3 rfl (⟨(nth (xs2.set i2.toNat (⟨k3, (nth xs2 i2).Y⟩ : Pt)) i2).X, k3 + 1⟩ : Pt) [vi ((nth (xs2.set i2.toNat (⟨k3, (nth xs2 i2).Y⟩ : Pt)) i2).X), vi ((nth (xs2.set i2.toNat (⟨k3, (nth xs2 i2).Y⟩ : Pt)) i2).Y)] [vi ((nth (xs2.set i2.toNat (⟨k3, (nth xs2 i2).Y⟩ : Pt)) i2).X), vi (k3 + 1)] az rfl rfl (kPt.mk _ _ (⟨(nth (xs2.set i2.toNat (⟨k3, (nth xs2 i2).Y⟩ : Pt)) i2).X, k3 + 1⟩ : Pt)) fun bd a0 a1 => ?_))
  have a2 := av.wm a0
  refine L_nil (W_reg (L_mv (vi (k3 + 1)) rfl ?_))
  obtain ⟨a3, H⟩ := H
  have a4 := a3 (len_le ag)
  refine L_pu (P_add (k3 + 1) 1 rfl rfl a4) (L_as (vi (k3 + 1 + 1)) rfl (L_nil (W_reg (L_mv (vi i2) rfl ?_))))
  obtain ⟨a5, H⟩ := H
  have a6 : I64 (i2 + 1) := i64_succ (of_decide_eq_true ab) ag a5
  refine L_pu (P_add i2 1 rfl rfl a6) (L_as (vi (i2 + 1)) rfl (L_nil ?_))
  obtain ⟨a7, a8⟩ := H
  exact ⟨(((xs2.set i2.toNat (⟨k3, (nth xs2 i2).Y⟩ : Pt)).set i2.toNat (⟨(nth (xs2.set i2.toNat (⟨k3, (nth xs2 i2).Y⟩ : Pt)) i2).X, k3 + 1⟩ : Pt)), k3 + 1 + 1, i2 + 1), a8, a7, (hasI rfl), a2, a1⟩
 have H := ite_f H ab
 refine W_exit (xin_hit ?_)
 exact W_seq (W_reg (L_mv (vi k3) rfl (L_as (vi k3) rfl (L_nil (W_ret ⟨[vi k3], ⟨_, rfl, rfl⟩, k3, xs2, rfl, H, ak.gr.g1, aa⟩)))))
end
section
open Go.RowKit
def F41.E (a : List Tag) (k : Int) (Q : Int → List Tag → Prop) : Prop :=
 (∃ (I23 : (List Tag) → Int → Int → Prop) (mu24 : (List Tag) → Int → Int → Nat), I23 a k 0 ∧ ∀ (xs2 : List Tag) (k3 : Int) (i2 : Int), I23 xs2 k3 i2 → (if decide (i2 < (xs2.length : Int)) then F40.E k3 (fun r => ((0 : Int) ≤ i2 ∧ i2 < (xs2.length : Int)) ∧ ((xs2.length : Int) ≤ 9223372036854775807 → I64 (k3 + 1)) ∧ F40.E (k3 + 1) (fun r2 => ((0 : Int) ≤ i2 ∧ i2 < ((xs2.set i2.toNat (⟨r, (nth xs2 i2).Val⟩ : Tag)).length : Int)) ∧ ((xs2.length : Int) ≤ 9223372036854775807 → I64 (k3 + 1 + 1)) ∧ (-9223372036854775808 ≤ i2) ∧ I23 ((xs2.set i2.toNat (⟨r, (nth xs2 i2).Val⟩ : Tag)).set i2.toNat (⟨(nth (xs2.set i2.toNat (⟨r, (nth xs2 i2).Val⟩ : Tag)) i2).Key, r2⟩ : Tag)) (k3 + 1 + 1) (i2 + 1) ∧ mu24 ((xs2.set i2.toNat (⟨r, (nth xs2 i2).Val⟩ : Tag)).set i2.toNat (⟨(nth (xs2.set i2.toNat (⟨r, (nth xs2 i2).Val⟩ : Tag)) i2).Key, r2⟩ : Tag)) (k3 + 1 + 1) (i2 + 1) < mu24 xs2 k3 i2)) else Q k3 xs2))
theorem F41.calls {O : Ob} (w0 : World) (hO : Ok w0 O) (A1 : Option Addr) (n2 c3 : Nat) (a : List Tag) (hp0 : Ow kTag 106 w0 O (.slice A1 n2 c3) a) (k : Int) (Q : Int → List Tag → Prop) (h : F41.E a k Q) :
  Ret Tryz.prog 45 [.slice A1 n2 c3, vi k] w0 (fun v w' => ∃ (r0 : Int) (m0 : List Tag), v = vi r0 ∧ Q r0 m0 ∧ Gr w0 w' (bk A1) ∧ Ow kTag 106 w' O (.slice A1 n2 c3) m0) := by
 unfold F41.E at h
 have H := h
 clear h
 have hc0 := Ct.initm1 (r := bk A1) hO (by intro b e; exact hp0.mem b e)
 refine Ret_enter Tryz.func45 rfl 29 rfl [.tmp 4] rfl rfl ?_
 refine W_seq (W_reg (L_as (vi 0) rfl (L_nil (W_seq (W_seq (W_reg (L_as (vi 0) rfl (L_nil ?_))))))))
 refine W_block ?_
 obtain ⟨ar, au, af, H⟩ := H
 refine W_loop (α := (List Tag) × Int × Int) (fun (sv__ : (List Tag) × Int × Int) t aa => match sv__ with | (xs2, k3, i2) => ar xs2 k3 i2 ∧ Has t [(0, .slice A1 n2 c3), (1, vi k3), (5, vi i2)] ∧ Ct [bk A1] w0 aa [] O ∧ Ow kTag 106 aa O (.slice A1 n2 c3) xs2) (fun (sv__ : (List Tag) × Int × Int) => match sv__ with | (xs2, k3, i2) => au xs2 k3 i2) (a, k, 0) ⟨af, (hasI rfl), hc0, hp0⟩ ?_
 rintro ⟨xs2, k3, i2⟩ _ aa ⟨af, av, ag, ab⟩
 obtain ⟨bl, rfl⟩ := Has.ins av
 have H := H xs2 k3 i2 af
 refine W_seq (W_seq (W_reg (L_mv (vi i2) rfl (L_mv (.slice A1 n2 c3) rfl ?_))))
 have ah := ab.le
 refine L_pu (P_len Tryz.underlying59 A1 n2 c3 ab.len rfl) (L_pu (P_cmp i2 (xs2.length : Int) (decide (i2 < (xs2.length : Int))) rfl rfl rfl) (L_nil ?_))
 refine W_cond (decide (i2 < (xs2.length : Int))) rfl (fun ac => ?_) (fun ac => ?_)
 ·have H := ite_t H ac
  refine W_skip (W_seq (W_block (W_seq (W_reg (L_mv (.slice A1 n2 c3) rfl (L_mv (vi i2) rfl (L_mv (vi k3) rfl ?_)))))))
  refine L_call go43 [vi k3] rfl ((F40.calls aa ag.ok k3 _ H).mono ?_)
  rintro _ bm ⟨r, rfl, H, am, aw⟩
  have ax := ag.k0 am
  obtain ⟨ai, H⟩ := H
  have aj := (ab.sn am)
  obtain ⟨ad, bn, an, ay, az⟩ := aj.get default (by decide) i2 ai
  obtain ⟨rfl, bo, a0⟩ := kTag.op ay
  refine L_pu (P_ia Tryz.underlying59 se59 A1 ad n2 c3 aj.len i2 rfl an rfl ai) (L_pu (P_fa fa106_0 (ad.add (i2.toNat * 2)) ((ad.add (i2.toNat * 2)).add 0) rfl rfl) (L_ste1 A1 n2 c3 xs2 aj i2 ai ad an 0 rfl [vs r] rfl sz9 rfl (⟨r, (nth xs2 i2).Val⟩ : Tag) [vs ((nth xs2 i2).Key), vs ((nth xs2 i2).Val)] [vs r, vs ((nth xs2 i2).Val)] az rfl rfl (kTag.mk _ _ (⟨r, (nth xs2 i2).Val⟩ : Tag) aw a0) fun a1 a2 a3 => ?_))
  have ao := ax.wm a2
  refine L_nil (W_seq (W_reg (L_mv (vi k3) rfl ?_)))
  obtain ⟨a4, H⟩ := H
  have a5 := a4 (len_le ah)
  refine L_pu (P_add k3 1 rfl rfl a5) (L_as (vi (k3 + 1)) rfl (L_nil (W_seq (W_reg (L_mv (.slice A1 n2 c3) rfl (L_mv (vi i2) rfl (L_mv (vi (k3 + 1)) rfl ?_)))))))
  refine L_call go43 [vi (k3 + 1)] rfl ((F40.calls a1 ao.ok (k3 + 1) _ H).mono ?_)
  rintro _ bp ⟨r2, rfl, H, ap, a6⟩
  have a7 := ao.k0 ap
  obtain ⟨ak, H⟩ := H
  have al := (a3.sn ap)
  obtain ⟨ae, bq, aq, a8, a9⟩ := al.get default (by decide) i2 ak
  obtain ⟨rfl, ba, br⟩ := kTag.op a8
  refine L_pu (P_ia Tryz.underlying59 se59 A1 ae n2 c3 al.len i2 rfl aq rfl ak) (L_pu (P_fa fa106_1 (ae.add (i2.toNat * 2)) ((ae.add (i2.toNat * 2)).add 1) rfl rfl) (L_ste1 A1 n2 c3 (xs2.set i2.toNat (⟨r, (nth xs2 i2).Val⟩ : Tag)) al i2 ak ae aq 1 rfl [vs r2] rfl sz9 rfl (⟨(nth (xs2.set i2.toNat (⟨r, (nth xs2 i2).Val⟩ : Tag)) i2).Key, r2⟩ : Tag) [vs ((nth (xs2.set i2.toNat (⟨r, (nth xs2 i2).Val⟩ : Tag)) i2).Key), vs ((nth (xs2.set i2.toNat (⟨r, (nth xs2 i2).Val⟩ : Tag)) i2).Val)] [vs ((nth (xs2.set i2.toNat (⟨r, (nth xs2 i2).Val⟩ : Tag)) i2).Key), vs r2] a9 rfl rfl (kTag.mk _ _ (⟨(nth (xs2.set i2.toNat (⟨r, (nth xs2 i2).Val⟩ : Tag)) i2).Key, r2⟩ : Tag) ba a6) fun bs bb bc => ?_))
  have bd := a7.wm bb
  refine L_nil (W_reg (L_mv (vi (k3 + 1)) rfl ?_))
  obtain ⟨be, H⟩ := H
  have bf := be (len_le ah)
  refine L_pu (P_add (k3 + 1) 1 rfl rfl bf) (L_as (vi (k3 + 1 + 1)) rfl (L_nil (W_reg (L_mv (vi i2) rfl ?_))))
  obtain ⟨bg, H⟩ := H
  have bh : I64 (i2 + 1) := i64_succ (of_decide_eq_true ac) ah bg
  refine L_pu (P_add i2 1 rfl rfl bh) (L_as (vi (i2 + 1)) rfl (L_nil ?_))
  obtain ⟨bi, bj⟩ := H
  exact ⟨(((xs2.set i2.toNat (⟨r, (nth xs2 i2).Val⟩ : Tag)).set i2.toNat (⟨(nth (xs2.set i2.toNat (⟨r, (nth xs2 i2).Val⟩ : Tag)) i2).Key, r2⟩ : Tag)), k3 + 1 + 1, i2 + 1), bj, bi, (hasI rfl), bd, bc⟩
 have H := ite_f H ac
 refine W_exit (xin_hit ?_)
 exact W_seq (W_reg (L_mv (vi k3) rfl (L_as (vi k3) rfl (L_nil (W_ret ⟨[vi k3], ⟨_, rfl, rfl⟩, k3, xs2, rfl, H, ag.gr.g1, ab⟩)))))
end
section
open Go.RowKit
def F28.E (a : List Feat) (k : Int) (Q : Int → List Feat → Prop) : Prop :=
 (∃ (I32 : (List Feat) → Int → Int → Prop) (mu33 : (List Feat) → Int → Int → Nat), I32 a k 0 ∧ ∀ (xs2 : List Feat) (k3 : Int) (i2 : Int), I32 xs2 k3 i2 → (if decide (i2 < (xs2.length : Int)) then F40.E k3 (fun r => ((0 : Int) ≤ i2 ∧ i2 < (xs2.length : Int)) ∧ (∀ xs3 : List Feat, xs3 = (xs2.set i2.toNat (⟨r, (nth xs2 i2).Shape, (nth xs2 i2).Tags⟩ : Feat)) → ((xs2.length : Int) ≤ 9223372036854775807 → I64 (k3 + 1)) ∧ ((0 : Int) ≤ i2 ∧ i2 < (xs3.length : Int)) ∧ (∀ xs4 : List Feat, xs4 = (xs3.set i2.toNat (⟨(nth xs3 i2).Id, (⟨k3 + 1, (nth xs3 i2).Shape.Pts⟩ : Shape), (nth xs3 i2).Tags⟩ : Feat)) → ((xs2.length : Int) ≤ 9223372036854775807 → I64 (k3 + 1 + 1)) ∧ ((0 : Int) ≤ i2 ∧ i2 < (xs4.length : Int)) ∧ F59.E ((nth xs4 i2).Shape.Pts) (k3 + 1 + 1) (fun r2 m => (∀ xs5 : List Feat, xs5 = (xs4.set i2.toNat (⟨(nth xs4 i2).Id, (⟨(nth xs4 i2).Shape.Kind, m⟩ : Shape), (nth xs4 i2).Tags⟩ : Feat)) → ((0 : Int) ≤ i2 ∧ i2 < (xs5.length : Int)) ∧ F41.E ((nth xs5 i2).Tags) r2 (fun r3 m2 => (∀ xs6 : List Feat, xs6 = (xs5.set i2.toNat (⟨(nth xs5 i2).Id, (nth xs5 i2).Shape, m2⟩ : Feat)) → (-9223372036854775808 ≤ i2) ∧ I32 xs6 r3 (i2 + 1) ∧ mu33 xs6 r3 (i2 + 1) < mu33 xs2 k3 i2))))))) else Q k3 xs2))
theorem F28.calls {O : Ob} (w0 : World) (hO : Ok w0 O) (a : List Feat) (A1 : Option Addr) (n2 c3 : Nat) (ra6 : List (List Value)) (q7 : Ob) (hp5 : Ow (Kd.cells 4) 61 w0 O (.slice A1 n2 c3) ra6) (hd8 : DArr dFeat_61 w0 q7 a ra6) (hdj : Dj (bk A1 :: (q7 ++ []))) (hmm : ∀ b, some b ∈ ((bk A1 :: (q7 ++ [])) : Ob) → some b ∈ O) (k : Int) (Q : Int → List Feat → Prop) (h : F28.E a k Q) :
  Ret Tryz.prog 13 [.slice A1 n2 c3, vi k] w0 (fun v w' => ∃ (r0 : Int) (m0 : List Feat) (mra0 : List (List Value)), v = vi r0 ∧ Q r0 m0 ∧ Gm w0 w' (bk A1 :: (q7 ++ [])) ∧ Ow (Kd.cells 4) 61 w' O (.slice A1 n2 c3) mra0 ∧ DArr dFeat_61 w' q7 m0 mra0) := by
 unfold F28.E at h
 have H := h
 clear h
 have hc0 := Ct.initm hO hmm
 refine Ret_enter Tryz.func13 rfl 44 rfl [.tmp 4] rfl rfl ?_
 refine W_seq (W_reg (L_as (vi 0) rfl (L_nil (W_seq (W_seq (W_reg (L_as (vi 0) rfl (L_nil ?_))))))))
 refine W_block ?_
 obtain ⟨ci, cj, bc, H⟩ := H
 refine W_loop (α := (List Feat) × (List (List Value)) × Int × Int) (fun (sv__ : (List Feat) × (List (List Value)) × Int × Int) t aj => match sv__ with | (xs2, aa, k3, i2) => ci xs2 k3 i2 ∧ Has t [(0, .slice A1 n2 c3), (1, vi k3), (5, vi i2)] ∧ Ct (bk A1 :: (q7 ++ [])) w0 aj [] O ∧ Ow (Kd.cells 4) 61 aj O (.slice A1 n2 c3) aa ∧ DArr dFeat_61 aj q7 xs2 aa) (fun (sv__ : (List Feat) × (List (List Value)) × Int × Int) => match sv__ with | (xs2, _, k3, i2) => cj xs2 k3 i2) (a, ra6, k, 0) ⟨bc, (hasI rfl), hc0, hp5, hd8⟩ ?_
 rintro ⟨xs2, aa, k3, i2⟩ _ aj ⟨bc, ck, bd, ay, az⟩
 obtain ⟨ej, rfl⟩ := Has.ins ck
 have H := H xs2 k3 i2 bc
 refine W_seq (W_seq (W_reg (L_mv (vi i2) rfl (L_mv (.slice A1 n2 c3) rfl ?_))))
 have be := (Dp.le ay az)
 refine L_pu (P_len Tryz.underlying26 A1 n2 c3 (Dp.len ay az) rfl) (L_pu (P_cmp i2 (xs2.length : Int) (decide (i2 < (xs2.length : Int))) rfl rfl rfl) (L_nil ?_))
 refine W_cond (decide (i2 < (xs2.length : Int))) rfl (fun a0 => ?_) (fun a0 => ?_)
 ·have H := ite_t H a0
  refine W_skip (W_seq (W_block (W_seq (W_reg (L_mv (.slice A1 n2 c3) rfl (L_mv (vi i2) rfl (L_mv (vi k3) rfl ?_)))))))
  refine L_call go43 [vi k3] rfl ((F40.calls aj bd.ok k3 _ H).mono ?_)
  rintro _ cl ⟨r, rfl, H, bf, cm⟩
  have cn := bd.k0 bf
  obtain ⟨bg, H⟩ := H
  have bh := (ay.sn bf)
  have a1 := (az.k0 bf)
  have bo : (0 : Int) ≤ i2 ∧ i2 < (aa.length : Int) := by rw [a1.len]; exact bg
  obtain ⟨a2, ek, bp, bq, co⟩ := bh.get default (by decide) i2 bo
  obtain rfl := Kd.cells.op bq
  refine L_pu (P_ia Tryz.underlying26 se26 A1 a2 n2 c3 (Dp.len bh a1) i2 rfl bp rfl bg) (L_pu (P_fa fa61_0 (a2.add (i2.toNat * 4)) ((a2.add (i2.toNat * 4)).add 0) rfl rfl) ?_)
  obtain ⟨el, cp, br, cq, cr⟩ := DArr.at_ (Int.toNat i2) default a1 (by have := bg; omega)
  obtain ⟨cs, ac, ct, ad, em, en, cu, cv, bs, bt⟩ := foc61_0 _ _ _ _ cq
  have bu : ((Dd.flat (k := Kd.str) str_flat)).D cl cs r [vs r] := ⟨bs.1, ⟨rfl, cm⟩⟩
  have cw := bt _ _ _ (br (Dj.left hdj.2)) (fun _ _ _ => rfl) bu
  have cx : ct.length = [vs r].length := (((Dd.flat (k := Kd.str) str_flat)).toR (S := fun _ => True) bs fun _ _ => trivial) |> Kd.len _
  refine L_ste1 (kd := Kd.cells 4) A1 n2 c3 aa bh i2 bo a2 bp 0 rfl [vs r] rfl sz9 rfl (ac ++ [vs r] ++ ad) _ (ac ++ [vs r] ++ ad) co (Kd.len _ bq) (foc_put cu cv cx) (Dd.raw _ cw) fun bi bv bj => ?_
  have cy := cn.wmm (memi (L := (bk A1 :: (q7 ++ []))) 0 rfl) bv
  have bw : ∀ b, some b ∈ (q7 : Ob) → bi.heap[b]? = _ := fun b hb => bv.block b (a1.lt b hb) (fun e => (hdj).1 b e.symm (List.mem_append_left _ hb))
  have ak := cr bi _ _ (Dj.left hdj.2) (fun b hb _ => bw b hb) (bt _ _ _ (br (Dj.left hdj.2)) (fun b hb _ => bw b (cp b hb)) bu)
  obtain ⟨xs3, bx⟩ : ∃ y__ : List Feat, y__ = (xs2.set i2.toNat (⟨r, (nth xs2 i2).Shape, (nth xs2 i2).Tags⟩ : Feat)) := ⟨_, rfl⟩
  have H := H xs3 bx
  rw [← bx] at ak
  refine L_nil (W_seq (W_reg (L_mv (vi k3) rfl ?_)))
  obtain ⟨cz, H⟩ := H
  have c0 := cz (len_le be)
  refine L_pu (P_add k3 1 rfl rfl c0) (L_as (vi (k3 + 1)) rfl (L_nil (W_seq (W_reg (L_mv (.slice A1 n2 c3) rfl (L_mv (vi i2) rfl (L_mv (vi (k3 + 1)) rfl ?_)))))))
  obtain ⟨bl, H⟩ := H
  have bz : (0 : Int) ≤ i2 ∧ i2 < ((aa.set i2.toNat (ac ++ [vs r] ++ ad)).length : Int) := by rw [ak.len]; exact bl
  obtain ⟨ae, eo, b0, b1, c1⟩ := bj.get default (by decide) i2 bz
  obtain rfl := Kd.cells.op b1
  refine L_pu (P_ia Tryz.underlying26 se26 A1 ae n2 c3 (Dp.len bj ak) i2 rfl b0 rfl bl) (L_pu (P_fa fa61_1 (ae.add (i2.toNat * 4)) ((ae.add (i2.toNat * 4)).add 1) rfl rfl) (L_pu (P_fa fa58_0 ((ae.add (i2.toNat * 4)).add 1) (((ae.add (i2.toNat * 4)).add 1).add 0) rfl rfl) ?_))
  obtain ⟨ep, c2, b2, c4, c5⟩ := DArr.at_ (Int.toNat i2) default ak (by have := bl; omega)
  obtain ⟨c6, al, c7, am, eq, er, c8, c9, b3, b4⟩ := foc61_1 _ _ _ _ c4
  have b5 : ((Dd.flat (k := (Kd.int .i64)) (int_flat _))).D bi c6 (k3 + 1) [vi (k3 + 1)] := ⟨b3.1, rfl⟩
  have da := b4 _ _ _ (b2 (Dj.left hdj.2)) (fun _ _ _ => rfl) b5
  have db : c7.length = [vi (k3 + 1)].length := (((Dd.flat (k := (Kd.int .i64)) (int_flat _))).toR (S := fun _ => True) b3 fun _ _ => trivial) |> Kd.len _
  refine L_ste2 (kd := Kd.cells 4) A1 n2 c3 (aa.set i2.toNat (ac ++ [vs r] ++ ad)) bj i2 bz ae b0 1 rfl rfl [vi (k3 + 1)] rfl sz3 rfl (al ++ [vi (k3 + 1)] ++ am) _ (al ++ [vi (k3 + 1)] ++ am) c1 (Kd.len _ b1) (foc_put c8 c9 db) (Dd.raw _ da) fun af b6 an => ?_
  have b7 := cy.wmm (memi (L := (bk A1 :: (q7 ++ []))) 0 rfl) b6
  have b8 : ∀ b, some b ∈ (q7 : Ob) → af.heap[b]? = _ := fun b hb => b6.block b (ak.lt b hb) (fun e => (hdj).1 b e.symm (List.mem_append_left _ hb))
  have ag := c5 af _ _ (Dj.left hdj.2) (fun b hb _ => b8 b hb) (b4 _ _ _ (b2 (Dj.left hdj.2)) (fun b hb _ => b8 b (c2 b hb)) b5)
  obtain ⟨xs4, b9⟩ : ∃ y__ : List Feat, y__ = (xs3.set i2.toNat (⟨(nth xs3 i2).Id, (⟨k3 + 1, (nth xs3 i2).Shape.Pts⟩ : Shape), (nth xs3 i2).Tags⟩ : Feat)) := ⟨_, rfl⟩
  have H := H xs4 b9
  rw [← b9] at ag
  refine L_nil (W_seq (W_reg (L_mv (vi (k3 + 1)) rfl ?_)))
  obtain ⟨dc, H⟩ := H
  have dd := dc (len_le be)
  refine L_pu (P_add (k3 + 1) 1 rfl rfl dd) (L_as (vi (k3 + 1 + 1)) rfl (L_nil (W_seq (W_reg (L_mv (.slice A1 n2 c3) rfl (L_mv (vi i2) rfl ?_))))))
  obtain ⟨bm, H⟩ := H
  have de : (0 : Int) ≤ i2 ∧ i2 < (((aa.set i2.toNat (ac ++ [vs r] ++ ad)).set i2.toNat (al ++ [vi (k3 + 1)] ++ am)).length : Int) := by rw [ag.len]; exact bm
  obtain ⟨ah, es, df, dg, dh⟩ := an.get default (by decide) i2 de
  obtain rfl := Kd.cells.op dg
  refine L_pu (P_ia Tryz.underlying26 se26 A1 ah n2 c3 (Dp.len an ag) i2 rfl df rfl bm) (L_pu (P_fa fa61_1 (ah.add (i2.toNat * 4)) ((ah.add (i2.toNat * 4)).add 1) rfl rfl) (L_pu (P_fa fa58_1 ((ah.add (i2.toNat * 4)).add 1) (((ah.add (i2.toNat * 4)).add 1).add 1) rfl rfl) ?_))
  obtain ⟨et, a3, di, dj, dk⟩ := DArr.at_ (Int.toNat i2) default ag (by have := bm; omega)
  obtain ⟨ca, eu, ev, ew, a4, ex, cb, dl, dm, dn⟩ := foc61_2 _ _ _ _ dj
  obtain ⟨v142, dp, a5⟩ := dm
  obtain ⟨ao, ap, aq, rfl⟩ := a5.shape
  subst dp
  have dq := dh 2 _ (foc_cell cb dl)
  refine L_pu (P_ld ag56 cL (((ah.add (i2.toNat * 4)).add 1).add 1) (.slice ao ap aq) rfl ((congrArg af.cell? (addr2 (o := 2) rfl)).trans dq)) (L_mv (vi (k3 + 1 + 1)) rfl ?_)
  have dr : Ow kPt 114 af ([] ++ O) (.slice ao ap aq) ((nth xs4 i2).Shape.Pts) := Ds.toOw a5 (fun b hb => List.mem_append_right _ (hmm b (mcm (List.mem_append_left _ (a3 _ (a4 _ hb))))))
  refine L_call go44 [.slice ao ap aq, vi (k3 + 1 + 1)] rfl ((F59.calls af b7.ok ao ap aq ((nth xs4 i2).Shape.Pts) dr (k3 + 1 + 1) _ H).mono ?_)
  rintro _ ab ⟨r2, m, rfl, H, ds, dt⟩
  have a6 : Gm af ab ca := ds.gm fun b hb => by rw [Ds.rows a5, ← hb]; exact List.mem_cons_self
  have du := Ds.upf a5 dt
  have dv : ((Dd.sl (Dd.flat (k := kPt) kPt_flat) 114)).D ab ca m [.slice ao ap aq] := ⟨_, rfl, du⟩
  have ai := DArr.fset (dk ab _ _ (Dj.left hdj.2) (fun b hb hn => a6.block b (ag.lt b hb) fun hm => hn (a4 b hm)) (dn ab _ _ (di (Dj.left hdj.2)) (fun b hb hn => a6.block b (ag.lt b (a3 b hb)) hn) dv)) cb rfl
  have ar := an.flto (w' := ab) (O' := O) (cells_flat _) fun b hb => ⟨a6.block b (an.ltb b hb) fun hm => (hdj).1 b hb (List.mem_append_left _ (a3 _ (a4 _ hm))), an.mem b hb⟩
  have cc := b7.wmg a6 (fun b hb => (mcm (List.mem_append_left _ (a3 _ (a4 _ hb)))))
  obtain ⟨xs5, cd⟩ : ∃ y__ : List Feat, y__ = (xs4.set i2.toNat (⟨(nth xs4 i2).Id, (⟨(nth xs4 i2).Shape.Kind, m⟩ : Shape), (nth xs4 i2).Tags⟩ : Feat)) := ⟨_, rfl⟩
  have H := H xs5 cd
  rw [← cd] at ai
  refine L_as (vi r2) rfl (L_nil (W_reg (L_mv (.slice A1 n2 c3) rfl (L_mv (vi i2) rfl ?_))))
  obtain ⟨bn, H⟩ := H
  have dw : (0 : Int) ≤ i2 ∧ i2 < (((aa.set i2.toNat (ac ++ [vs r] ++ ad)).set i2.toNat (al ++ [vi (k3 + 1)] ++ am)).length : Int) := by rw [ai.len]; exact bn
  obtain ⟨a7, ey, dx, dy, dz⟩ := ar.get default (by decide) i2 dw
  obtain rfl := Kd.cells.op dy
  refine L_pu (P_ia Tryz.underlying26 se26 A1 a7 n2 c3 (Dp.len ar ai) i2 rfl dx rfl bn) (L_pu (P_fa fa61_2 (a7.add (i2.toNat * 4)) ((a7.add (i2.toNat * 4)).add 3) rfl rfl) ?_)
  obtain ⟨ez, a8, d0, d1, d2⟩ := DArr.at_ (Int.toNat i2) default ai (by have := bn; omega)
  obtain ⟨ce, e0, e1, e2, a9, e3, cf, d3, d4, d5⟩ := foc61_3 _ _ _ _ d1
  obtain ⟨v184, d6, ba⟩ := d4
  obtain ⟨au, av, aw, rfl⟩ := ba.shape
  subst d6
  have d7 := dz 3 _ (foc_cell cf d3)
  refine L_pu (P_ld ag59 cL ((a7.add (i2.toNat * 4)).add 3) (.slice au av aw) rfl d7) (L_mv (vi r2) rfl ?_)
  have d8 : Ow kTag 106 ab ([] ++ O) (.slice au av aw) ((nth xs5 i2).Tags) := Ds.toOw ba (fun b hb => List.mem_append_right _ (hmm b (mcm (List.mem_append_left _ (a8 _ (a9 _ hb))))))
  refine L_call go45 [.slice au av aw, vi r2] rfl ((F41.calls ab cc.ok au av aw ((nth xs5 i2).Tags) d8 r2 _ H).mono ?_)
  rintro _ ax ⟨r3, m2, rfl, H, d9, ea⟩
  have bb : Gm ab ax ce := d9.gm fun b hb => by rw [Ds.rows ba, ← hb]; exact List.mem_cons_self
  have eb := Ds.upf ba ea
  have ec : ((Dd.sl (Dd.flat (k := kTag) kTag_flat) 106)).D ax ce m2 [.slice au av aw] := ⟨_, rfl, eb⟩
  have cg := DArr.fset (d2 ax _ _ (Dj.left hdj.2) (fun b hb hn => bb.block b (ai.lt b hb) fun hm => hn (a9 b hm)) (d5 ax _ _ (d0 (Dj.left hdj.2)) (fun b hb hn => bb.block b (ai.lt b (a8 b hb)) hn) ec)) cf rfl
  have ed := ar.flto (w' := ax) (O' := O) (cells_flat _) fun b hb => ⟨bb.block b (ar.ltb b hb) fun hm => (hdj).1 b hb (List.mem_append_left _ (a8 _ (a9 _ hm))), ar.mem b hb⟩
  have ee := cc.wmg bb (fun b hb => (mcm (List.mem_append_left _ (a8 _ (a9 _ hb)))))
  obtain ⟨xs6, ch⟩ : ∃ y__ : List Feat, y__ = (xs5.set i2.toNat (⟨(nth xs5 i2).Id, (nth xs5 i2).Shape, m2⟩ : Feat)) := ⟨_, rfl⟩
  have H := H xs6 ch
  rw [← ch] at cg
  refine L_as (vi r3) rfl (L_nil (W_reg (L_mv (vi i2) rfl ?_)))
  obtain ⟨ef, H⟩ := H
  have eg : I64 (i2 + 1) := i64_succ (of_decide_eq_true a0) be ef
  refine L_pu (P_add i2 1 rfl rfl eg) (L_as (vi (i2 + 1)) rfl (L_nil ?_))
  obtain ⟨eh, ei⟩ := H
  exact ⟨(xs6, ((aa.set i2.toNat (ac ++ [vs r] ++ ad)).set i2.toNat (al ++ [vi (k3 + 1)] ++ am)), r3, i2 + 1), ei, eh, (hasI rfl), ee, ed, cg⟩
 have H := ite_f H a0
 refine W_exit (xin_hit ?_)
 exact W_seq (W_reg (L_mv (vi k3) rfl (L_as (vi k3) rfl (L_nil (W_ret ⟨[vi k3], ⟨_, rfl, rfl⟩, k3, xs2, aa, rfl, H, bd.gr, ay, az⟩)))))
end
section
open Go.RowKit
def F13.E (a : List Change) (k : Int) (Q : Int → List Change → Prop) : Prop :=
 (∃ (I32 : (List Change) → Int → Int → Prop) (mu33 : (List Change) → Int → Int → Nat), I32 a k 0 ∧ ∀ (xs2 : List Change) (k3 : Int) (i2 : Int), I32 xs2 k3 i2 → (if decide (i2 < (xs2.length : Int)) then F40.E k3 (fun r => ((0 : Int) ≤ i2 ∧ i2 < (xs2.length : Int)) ∧ (∀ xs3 : List Change, xs3 = (xs2.set i2.toNat (⟨r, (nth xs2 i2).Had, (nth xs2 i2).Was, (nth xs2 i2).Has, (nth xs2 i2).Now⟩ : Change)) → ((xs2.length : Int) ≤ 9223372036854775807 → I64 (k3 + 1)) ∧ ((0 : Int) ≤ k3 + 1 ∧ (0 : Int) < 3) ∧ ((0 : Int) ≤ i2 ∧ i2 < (xs3.length : Int)) ∧ (∀ xs4 : List Change, xs4 = (xs3.set i2.toNat (⟨(nth xs3 i2).Id, ((k3 + 1) % 3) == 0, (nth xs3 i2).Was, (nth xs3 i2).Has, (nth xs3 i2).Now⟩ : Change)) → ((xs2.length : Int) ≤ 9223372036854775807 → I64 (k3 + 1 + 1)) ∧ F40.E (k3 + 1 + 1) (fun r2 => ((0 : Int) ≤ i2 ∧ i2 < (xs4.length : Int)) ∧ (∀ xs5 : List Change, xs5 = (xs4.set i2.toNat (⟨(nth xs4 i2).Id, (nth xs4 i2).Had, (⟨r2, (nth xs4 i2).Was.Shape, (nth xs4 i2).Was.Tags⟩ : Feat), (nth xs4 i2).Has, (nth xs4 i2).Now⟩ : Change)) → ((xs2.length : Int) ≤ 9223372036854775807 → I64 (k3 + 1 + 1 + 1)) ∧ ((0 : Int) ≤ i2 ∧ i2 < (xs5.length : Int)) ∧ (∀ xs6 : List Change, xs6 = (xs5.set i2.toNat (⟨(nth xs5 i2).Id, (nth xs5 i2).Had, (⟨(nth xs5 i2).Was.Id, (⟨k3 + 1 + 1 + 1, (nth xs5 i2).Was.Shape.Pts⟩ : Shape), (nth xs5 i2).Was.Tags⟩ : Feat), (nth xs5 i2).Has, (nth xs5 i2).Now⟩ : Change)) → ((xs2.length : Int) ≤ 9223372036854775807 → I64 (k3 + 1 + 1 + 1 + 1)) ∧ ((0 : Int) ≤ i2 ∧ i2 < (xs6.length : Int)) ∧ F59.E ((nth xs6 i2).Was.Shape.Pts) (k3 + 1 + 1 + 1 + 1) (fun r3 m => (∀ xs7 : List Change, xs7 = (xs6.set i2.toNat (⟨(nth xs6 i2).Id, (nth xs6 i2).Had, (⟨(nth xs6 i2).Was.Id, (⟨(nth xs6 i2).Was.Shape.Kind, m⟩ : Shape), (nth xs6 i2).Was.Tags⟩ : Feat), (nth xs6 i2).Has, (nth xs6 i2).Now⟩ : Change)) → ((0 : Int) ≤ i2 ∧ i2 < (xs7.length : Int)) ∧ F41.E ((nth xs7 i2).Was.Tags) r3 (fun r4 m2 => (∀ xs8 : List Change, xs8 = (xs7.set i2.toNat (⟨(nth xs7 i2).Id, (nth xs7 i2).Had, (⟨(nth xs7 i2).Was.Id, (nth xs7 i2).Was.Shape, m2⟩ : Feat), (nth xs7 i2).Has, (nth xs7 i2).Now⟩ : Change)) → ((0 : Int) ≤ r4 ∧ (0 : Int) < 3) ∧ ((0 : Int) ≤ i2 ∧ i2 < (xs8.length : Int)) ∧ (∀ xs9 : List Change, xs9 = (xs8.set i2.toNat (⟨(nth xs8 i2).Id, (nth xs8 i2).Had, (nth xs8 i2).Was, (r4 % 3) == 0, (nth xs8 i2).Now⟩ : Change)) → ((xs2.length : Int) ≤ 9223372036854775807 → I64 (r4 + 1)) ∧ F40.E (r4 + 1) (fun r5 => ((0 : Int) ≤ i2 ∧ i2 < (xs9.length : Int)) ∧ (∀ xs10 : List Change, xs10 = (xs9.set i2.toNat (⟨(nth xs9 i2).Id, (nth xs9 i2).Had, (nth xs9 i2).Was, (nth xs9 i2).Has, (⟨r5, (nth xs9 i2).Now.Shape, (nth xs9 i2).Now.Tags⟩ : Feat)⟩ : Change)) → ((xs2.length : Int) ≤ 9223372036854775807 → I64 (r4 + 1 + 1)) ∧ ((0 : Int) ≤ i2 ∧ i2 < (xs10.length : Int)) ∧ (∀ xs11 : List Change, xs11 = (xs10.set i2.toNat (⟨(nth xs10 i2).Id, (nth xs10 i2).Had, (nth xs10 i2).Was, (nth xs10 i2).Has, (⟨(nth xs10 i2).Now.Id, (⟨r4 + 1 + 1, (nth xs10 i2).Now.Shape.Pts⟩ : Shape), (nth xs10 i2).Now.Tags⟩ : Feat)⟩ : Change)) → ((xs2.length : Int) ≤ 9223372036854775807 → I64 (r4 + 1 + 1 + 1)) ∧ ((0 : Int) ≤ i2 ∧ i2 < (xs11.length : Int)) ∧ F59.E ((nth xs11 i2).Now.Shape.Pts) (r4 + 1 + 1 + 1) (fun r6 m3 => (∀ xs12 : List Change, xs12 = (xs11.set i2.toNat (⟨(nth xs11 i2).Id, (nth xs11 i2).Had, (nth xs11 i2).Was, (nth xs11 i2).Has, (⟨(nth xs11 i2).Now.Id, (⟨(nth xs11 i2).Now.Shape.Kind, m3⟩ : Shape), (nth xs11 i2).Now.Tags⟩ : Feat)⟩ : Change)) → ((0 : Int) ≤ i2 ∧ i2 < (xs12.length : Int)) ∧ F41.E ((nth xs12 i2).Now.Tags) r6 (fun r7 m4 => (∀ xs13 : List Change, xs13 = (xs12.set i2.toNat (⟨(nth xs12 i2).Id, (nth xs12 i2).Had, (nth xs12 i2).Was, (nth xs12 i2).Has, (⟨(nth xs12 i2).Now.Id, (nth xs12 i2).Now.Shape, m4⟩ : Feat)⟩ : Change)) → (-9223372036854775808 ≤ i2) ∧ I32 xs13 r7 (i2 + 1) ∧ mu33 xs13 r7 (i2 + 1) < mu33 xs2 k3 i2)))))))))))))))))) else Q k3 xs2))
theorem F13.calls {O : Ob} (w0 : World) (hO : Ok w0 O) (a : List Change) (A1 : Option Addr) (n2 c3 : Nat) (ra6 : List (List Value)) (q7 : Ob) (hp5 : Ow (Kd.cells 11) 63 w0 O (.slice A1 n2 c3) ra6) (hd8 : DArr dChange_63 w0 q7 a ra6) (hdj : Dj (bk A1 :: (q7 ++ []))) (hmm : ∀ b, some b ∈ ((bk A1 :: (q7 ++ [])) : Ob) → some b ∈ O) (k : Int) (Q : Int → List Change → Prop) (h : F13.E a k Q) :
  Ret Tryz.prog 14 [.slice A1 n2 c3, vi k] w0 (fun v w' => ∃ (r0 : Int) (m0 : List Change) (mra0 : List (List Value)), v = vi r0 ∧ Q r0 m0 ∧ Gm w0 w' (bk A1 :: (q7 ++ [])) ∧ Ow (Kd.cells 11) 63 w' O (.slice A1 n2 c3) mra0 ∧ DArr dChange_63 w' q7 m0 mra0) := by
 unfold F13.E at h
 have H := h
 clear h
 have hc0 := Ct.initm hO hmm
 refine Ret_enter Tryz.func14 rfl 109 rfl [.tmp 4] rfl rfl ?_
 refine W_seq (W_reg (L_as (vi 0) rfl (L_nil (W_seq (W_seq (W_reg (L_as (vi 0) rfl (L_nil ?_))))))))
 refine W_block ?_
 obtain ⟨fz, f0, cm, H⟩ := H
 refine W_loop (α := (List Change) × (List (List Value)) × Int × Int) (fun (sv__ : (List Change) × (List (List Value)) × Int × Int) t a7 => match sv__ with | (xs2, aa, k3, i2) => fz xs2 k3 i2 ∧ Has t [(0, .slice A1 n2 c3), (1, vi k3), (5, vi i2)] ∧ Ct (bk A1 :: (q7 ++ [])) w0 a7 [] O ∧ Ow (Kd.cells 11) 63 a7 O (.slice A1 n2 c3) aa ∧ DArr dChange_63 a7 q7 xs2 aa) (fun (sv__ : (List Change) × (List (List Value)) × Int × Int) => match sv__ with | (xs2, _, k3, i2) => f0 xs2 k3 i2) (a, ra6, k, 0) ⟨cm, (hasI rfl), hc0, hp5, hd8⟩ ?_
 rintro ⟨xs2, aa, k3, i2⟩ _ a7 ⟨cm, f1, cn, bw, bx⟩
 obtain ⟨lb, rfl⟩ := Has.ins f1
 have H := H xs2 k3 i2 cm
 refine W_seq (W_seq (W_reg (L_mv (vi i2) rfl (L_mv (.slice A1 n2 c3) rfl ?_))))
 have an := (Dp.le bw bx)
 refine L_pu (P_len Tryz.underlying30 A1 n2 c3 (Dp.len bw bx) rfl) (L_pu (P_cmp i2 (xs2.length : Int) (decide (i2 < (xs2.length : Int))) rfl rfl rfl) (L_nil ?_))
 refine W_cond (decide (i2 < (xs2.length : Int))) rfl (fun bz => ?_) (fun bz => ?_)
 ·have H := ite_t H bz
  refine W_skip (W_seq (W_block (W_seq (W_reg (L_mv (.slice A1 n2 c3) rfl (L_mv (vi i2) rfl (L_mv (vi k3) rfl ?_)))))))
  refine L_call go43 [vi k3] rfl ((F40.calls a7 cn.ok k3 _ H).mono ?_)
  rintro _ f2 ⟨r, rfl, H, co, f3⟩
  have f4 := cn.k0 co
  obtain ⟨cp, H⟩ := H
  have cq := (bw.sn co)
  have b0 := (bx.k0 co)
  have df : (0 : Int) ≤ i2 ∧ i2 < (aa.length : Int) := by rw [b0.len]; exact cp
  obtain ⟨b1, lc, dg, dh, f5⟩ := cq.get default (by decide) i2 df
  obtain rfl := Kd.cells.op dh
  refine L_pu (P_ia Tryz.underlying30 se30 A1 b1 n2 c3 (Dp.len cq b0) i2 rfl dg rfl cp) (L_pu (P_fa fa63_0 (b1.add (i2.toNat * 11)) ((b1.add (i2.toNat * 11)).add 0) rfl rfl) ?_)
  obtain ⟨ld, f6, di, f7, f8⟩ := DArr.at_ (Int.toNat i2) default b0 (by have := cp; omega)
  obtain ⟨f9, ab, ga, ac, lf, lg, gb, gc, dj, dk⟩ := foc63_0 _ _ _ _ f7
  have dl : ((Dd.flat (k := Kd.str) str_flat)).D f2 f9 r [vs r] := ⟨dj.1, ⟨rfl, f3⟩⟩
  have gd := dk _ _ _ (di (Dj.left hdj.2)) (fun _ _ _ => rfl) dl
  have ge : ga.length = [vs r].length := (((Dd.flat (k := Kd.str) str_flat)).toR (S := fun _ => True) dj fun _ _ => trivial) |> Kd.len _
  refine L_ste1 (kd := Kd.cells 11) A1 n2 c3 aa cq i2 df b1 dg 0 rfl [vs r] rfl sz9 rfl (ab ++ [vs r] ++ ac) _ (ab ++ [vs r] ++ ac) f5 (Kd.len _ dh) (foc_put gb gc ge) (Dd.raw _ gd) fun cr dm cs => ?_
  have gf := f4.wmm (memi (L := (bk A1 :: (q7 ++ []))) 0 rfl) dm
  have dn : ∀ b, some b ∈ (q7 : Ob) → cr.heap[b]? = _ := fun b hb => dm.block b (b0.lt b hb) (fun e => (hdj).1 b e.symm (List.mem_append_left _ hb))
  have a8 := f8 cr _ _ (Dj.left hdj.2) (fun b hb _ => dn b hb) (dk _ _ _ (di (Dj.left hdj.2)) (fun b hb _ => dn b (f6 b hb)) dl)
  obtain ⟨xs3, dp⟩ : ∃ y__ : List Change, y__ = (xs2.set i2.toNat (⟨r, (nth xs2 i2).Had, (nth xs2 i2).Was, (nth xs2 i2).Has, (nth xs2 i2).Now⟩ : Change)) := ⟨_, rfl⟩
  have H := H xs3 dp
  rw [← dp] at a8
  refine L_nil (W_seq (W_reg (L_mv (vi k3) rfl ?_)))
  obtain ⟨gg, H⟩ := H
  have gh := gg (len_le an)
  refine L_pu (P_add k3 1 rfl rfl gh) (L_as (vi (k3 + 1)) rfl (L_nil (W_seq (W_reg (L_mv (.slice A1 n2 c3) rfl (L_mv (vi i2) rfl (L_mv (vi (k3 + 1)) rfl ?_)))))))
  obtain ⟨gi, H⟩ := H
  refine L_pu (P_rem (k3 + 1) 3 rfl rfl gi) (L_pu (P_cmp ((k3 + 1) % 3) 0 (((k3 + 1) % 3) == 0) rfl rfl rfl) ?_)
  obtain ⟨ct, H⟩ := H
  have dq : (0 : Int) ≤ i2 ∧ i2 < ((aa.set i2.toNat (ab ++ [vs r] ++ ac)).length : Int) := by rw [a8.len]; exact ct
  obtain ⟨b2, lh, dr, ds, gj⟩ := cs.get default (by decide) i2 dq
  obtain rfl := Kd.cells.op ds
  refine L_pu (P_ia Tryz.underlying30 se30 A1 b2 n2 c3 (Dp.len cs a8) i2 rfl dr rfl ct) (L_pu (P_fa fa63_1 (b2.add (i2.toNat * 11)) ((b2.add (i2.toNat * 11)).add 1) rfl rfl) ?_)
  obtain ⟨li, gk, dt, gl, gn⟩ := DArr.at_ (Int.toNat i2) default a8 (by have := ct; omega)
  obtain ⟨gp, ad, gq, ae, lj, lk, gs, gt, du, dv⟩ := foc63_1 _ _ _ _ gl
  have dw : ((Dd.flat (k := Kd.bool) bool_flat)).D cr gp (((k3 + 1) % 3) == 0) [vb (((k3 + 1) % 3) == 0)] := ⟨du.1, rfl⟩
  have gu := dv _ _ _ (dt (Dj.left hdj.2)) (fun _ _ _ => rfl) dw
  have gv : gq.length = [vb (((k3 + 1) % 3) == 0)].length := (((Dd.flat (k := Kd.bool) bool_flat)).toR (S := fun _ => True) du fun _ _ => trivial) |> Kd.len _
  refine L_ste1 (kd := Kd.cells 11) A1 n2 c3 (aa.set i2.toNat (ab ++ [vs r] ++ ac)) cs i2 dq b2 dr 1 rfl [vb (((k3 + 1) % 3) == 0)] rfl sz4 rfl (ad ++ [vb (((k3 + 1) % 3) == 0)] ++ ae) _ (ad ++ [vb (((k3 + 1) % 3) == 0)] ++ ae) gj (Kd.len _ ds) (foc_put gs gt gv) (Dd.raw _ gu) fun cu dx gw => ?_
  have dy := gf.wmm (memi (L := (bk A1 :: (q7 ++ []))) 0 rfl) dx
  have dz : ∀ b, some b ∈ (q7 : Ob) → cu.heap[b]? = _ := fun b hb => dx.block b (a8.lt b hb) (fun e => (hdj).1 b e.symm (List.mem_append_left _ hb))
  have d0 := gn cu _ _ (Dj.left hdj.2) (fun b hb _ => dz b hb) (dv _ _ _ (dt (Dj.left hdj.2)) (fun b hb _ => dz b (gk b hb)) dw)
  obtain ⟨xs4, d1⟩ : ∃ y__ : List Change, y__ = (xs3.set i2.toNat (⟨(nth xs3 i2).Id, ((k3 + 1) % 3) == 0, (nth xs3 i2).Was, (nth xs3 i2).Has, (nth xs3 i2).Now⟩ : Change)) := ⟨_, rfl⟩
  have H := H xs4 d1
  rw [← d1] at d0
  refine L_nil (W_seq (W_reg (L_mv (vi (k3 + 1)) rfl ?_)))
  obtain ⟨gx, H⟩ := H
  have gy := gx (len_le an)
  refine L_pu (P_add (k3 + 1) 1 rfl rfl gy) (L_as (vi (k3 + 1 + 1)) rfl (L_nil (W_seq (W_reg (L_mv (.slice A1 n2 c3) rfl (L_mv (vi i2) rfl (L_mv (vi (k3 + 1 + 1)) rfl ?_)))))))
  refine L_call go43 [vi (k3 + 1 + 1)] rfl ((F40.calls cu dy.ok (k3 + 1 + 1) _ H).mono ?_)
  rintro _ gz ⟨r2, rfl, H, cv, g0⟩
  have g1 := dy.k0 cv
  obtain ⟨cw, H⟩ := H
  have cx := (gw.sn cv)
  have b3 := (d0.k0 cv)
  have d2 : (0 : Int) ≤ i2 ∧ i2 < (((aa.set i2.toNat (ab ++ [vs r] ++ ac)).set i2.toNat (ad ++ [vb (((k3 + 1) % 3) == 0)] ++ ae)).length : Int) := by rw [b3.len]; exact cw
  obtain ⟨aw, ll, d3, d4, g2⟩ := cx.get default (by decide) i2 d2
  obtain rfl := Kd.cells.op d4
  refine L_pu (P_ia Tryz.underlying30 se30 A1 aw n2 c3 (Dp.len cx b3) i2 rfl d3 rfl cw) (L_pu (P_fa fa63_2 (aw.add (i2.toNat * 11)) ((aw.add (i2.toNat * 11)).add 2) rfl rfl) (L_pu (P_fa fa61_0 ((aw.add (i2.toNat * 11)).add 2) (((aw.add (i2.toNat * 11)).add 2).add 0) rfl rfl) ?_))
  obtain ⟨lm, g3, d5, g4, g5⟩ := DArr.at_ (Int.toNat i2) default b3 (by have := cw; omega)
  obtain ⟨g6, af, g7, ag, ln, lo, g8, g9, d6, d7⟩ := foc63_2 _ _ _ _ g4
  have d8 : ((Dd.flat (k := Kd.str) str_flat)).D gz g6 r2 [vs r2] := ⟨d6.1, ⟨rfl, g0⟩⟩
  have ha := d7 _ _ _ (d5 (Dj.left hdj.2)) (fun _ _ _ => rfl) d8
  have hc : g7.length = [vs r2].length := (((Dd.flat (k := Kd.str) str_flat)).toR (S := fun _ => True) d6 fun _ _ => trivial) |> Kd.len _
  refine L_ste2 (kd := Kd.cells 11) A1 n2 c3 ((aa.set i2.toNat (ab ++ [vs r] ++ ac)).set i2.toNat (ad ++ [vb (((k3 + 1) % 3) == 0)] ++ ae)) cx i2 d2 aw d3 2 rfl rfl [vs r2] rfl sz9 rfl (af ++ [vs r2] ++ ag) _ (af ++ [vs r2] ++ ag) g2 (Kd.len _ d4) (foc_put g8 g9 hc) (Dd.raw _ ha) fun cy d9 cz => ?_
  have hd := g1.wmm (memi (L := (bk A1 :: (q7 ++ []))) 0 rfl) d9
  have ea : ∀ b, some b ∈ (q7 : Ob) → cy.heap[b]? = _ := fun b hb => d9.block b (b3.lt b hb) (fun e => (hdj).1 b e.symm (List.mem_append_left _ hb))
  have a9 := g5 cy _ _ (Dj.left hdj.2) (fun b hb _ => ea b hb) (d7 _ _ _ (d5 (Dj.left hdj.2)) (fun b hb _ => ea b (g3 b hb)) d8)
  obtain ⟨xs5, eb⟩ : ∃ y__ : List Change, y__ = (xs4.set i2.toNat (⟨(nth xs4 i2).Id, (nth xs4 i2).Had, (⟨r2, (nth xs4 i2).Was.Shape, (nth xs4 i2).Was.Tags⟩ : Feat), (nth xs4 i2).Has, (nth xs4 i2).Now⟩ : Change)) := ⟨_, rfl⟩
  have H := H xs5 eb
  rw [← eb] at a9
  refine L_nil (W_seq (W_reg (L_mv (vi (k3 + 1 + 1)) rfl ?_)))
  obtain ⟨he, H⟩ := H
  have hf := he (len_le an)
  refine L_pu (P_add (k3 + 1 + 1) 1 rfl rfl hf) (L_as (vi (k3 + 1 + 1 + 1)) rfl (L_nil (W_seq (W_reg (L_mv (.slice A1 n2 c3) rfl (L_mv (vi i2) rfl (L_mv (vi (k3 + 1 + 1 + 1)) rfl ?_)))))))
  obtain ⟨c0, H⟩ := H
  have ec : (0 : Int) ≤ i2 ∧ i2 < ((((aa.set i2.toNat (ab ++ [vs r] ++ ac)).set i2.toNat (ad ++ [vb (((k3 + 1) % 3) == 0)] ++ ae)).set i2.toNat (af ++ [vs r2] ++ ag)).length : Int) := by rw [a9.len]; exact c0
  obtain ⟨ao, lp, ed, ee, hg⟩ := cz.get default (by decide) i2 ec
  obtain rfl := Kd.cells.op ee
  refine L_pu (P_ia Tryz.underlying30 se30 A1 ao n2 c3 (Dp.len cz a9) i2 rfl ed rfl c0) (L_pu (P_fa fa63_2 (ao.add (i2.toNat * 11)) ((ao.add (i2.toNat * 11)).add 2) rfl rfl) (L_pu (P_fa fa61_1 ((ao.add (i2.toNat * 11)).add 2) (((ao.add (i2.toNat * 11)).add 2).add 1) rfl rfl) (L_pu (P_fa fa58_0 (((ao.add (i2.toNat * 11)).add 2).add 1) ((((ao.add (i2.toNat * 11)).add 2).add 1).add 0) rfl rfl) ?_)))
  obtain ⟨lq, hh, ef, hi, hj⟩ := DArr.at_ (Int.toNat i2) default a9 (by have := c0; omega)
  obtain ⟨hk, ah, hl, ai, lr, ls, ho, hp, eg, eh⟩ := foc63_3 _ _ _ _ hi
  have ei : ((Dd.flat (k := (Kd.int .i64)) (int_flat _))).D cy hk (k3 + 1 + 1 + 1) [vi (k3 + 1 + 1 + 1)] := ⟨eg.1, rfl⟩
  have hq := eh _ _ _ (ef (Dj.left hdj.2)) (fun _ _ _ => rfl) ei
  have hr : hl.length = [vi (k3 + 1 + 1 + 1)].length := (((Dd.flat (k := (Kd.int .i64)) (int_flat _))).toR (S := fun _ => True) eg fun _ _ => trivial) |> Kd.len _
  refine L_ste3 (kd := Kd.cells 11) A1 n2 c3 (((aa.set i2.toNat (ab ++ [vs r] ++ ac)).set i2.toNat (ad ++ [vb (((k3 + 1) % 3) == 0)] ++ ae)).set i2.toNat (af ++ [vs r2] ++ ag)) cz i2 ec ao ed 3 rfl rfl [vi (k3 + 1 + 1 + 1)] rfl sz3 rfl (ah ++ [vi (k3 + 1 + 1 + 1)] ++ ai) _ (ah ++ [vi (k3 + 1 + 1 + 1)] ++ ai) hg (Kd.len _ ee) (foc_put ho hp hr) (Dd.raw _ hq) fun ax ej ba => ?_
  have ek := hd.wmm (memi (L := (bk A1 :: (q7 ++ []))) 0 rfl) ej
  have el : ∀ b, some b ∈ (q7 : Ob) → ax.heap[b]? = _ := fun b hb => ej.block b (a9.lt b hb) (fun e => (hdj).1 b e.symm (List.mem_append_left _ hb))
  have ay := hj ax _ _ (Dj.left hdj.2) (fun b hb _ => el b hb) (eh _ _ _ (ef (Dj.left hdj.2)) (fun b hb _ => el b (hh b hb)) ei)
  obtain ⟨xs6, em⟩ : ∃ y__ : List Change, y__ = (xs5.set i2.toNat (⟨(nth xs5 i2).Id, (nth xs5 i2).Had, (⟨(nth xs5 i2).Was.Id, (⟨k3 + 1 + 1 + 1, (nth xs5 i2).Was.Shape.Pts⟩ : Shape), (nth xs5 i2).Was.Tags⟩ : Feat), (nth xs5 i2).Has, (nth xs5 i2).Now⟩ : Change)) := ⟨_, rfl⟩
  have H := H xs6 em
  rw [← em] at ay
  refine L_nil (W_seq (W_reg (L_mv (vi (k3 + 1 + 1 + 1)) rfl ?_)))
  obtain ⟨hs, H⟩ := H
  have ht := hs (len_le an)
  refine L_pu (P_add (k3 + 1 + 1 + 1) 1 rfl rfl ht) (L_as (vi (k3 + 1 + 1 + 1 + 1)) rfl (L_nil (W_seq (W_reg (L_mv (.slice A1 n2 c3) rfl (L_mv (vi i2) rfl ?_))))))
  obtain ⟨c1, H⟩ := H
  have hu : (0 : Int) ≤ i2 ∧ i2 < (((((aa.set i2.toNat (ab ++ [vs r] ++ ac)).set i2.toNat (ad ++ [vb (((k3 + 1) % 3) == 0)] ++ ae)).set i2.toNat (af ++ [vs r2] ++ ag)).set i2.toNat (ah ++ [vi (k3 + 1 + 1 + 1)] ++ ai)).length : Int) := by rw [ay.len]; exact c1
  obtain ⟨ap, lu, hv, hw, hx⟩ := ba.get default (by decide) i2 hu
  obtain rfl := Kd.cells.op hw
  refine L_pu (P_ia Tryz.underlying30 se30 A1 ap n2 c3 (Dp.len ba ay) i2 rfl hv rfl c1) (L_pu (P_fa fa63_2 (ap.add (i2.toNat * 11)) ((ap.add (i2.toNat * 11)).add 2) rfl rfl) (L_pu (P_fa fa61_1 ((ap.add (i2.toNat * 11)).add 2) (((ap.add (i2.toNat * 11)).add 2).add 1) rfl rfl) (L_pu (P_fa fa58_1 (((ap.add (i2.toNat * 11)).add 2).add 1) ((((ap.add (i2.toNat * 11)).add 2).add 1).add 1) rfl rfl) ?_)))
  obtain ⟨lv, b4, hy, hz, h0⟩ := DArr.at_ (Int.toNat i2) default ay (by have := c1; omega)
  obtain ⟨en, lw, lx, ly, b5, lz, eo, h1, h2, h3⟩ := foc63_4 _ _ _ _ hz
  obtain ⟨v222, h4, b6⟩ := h2
  obtain ⟨bb, bc, bd, rfl⟩ := b6.shape
  subst h4
  have h5 := hx 4 _ (foc_cell eo h1)
  refine L_pu (P_ld ag56 cL ((((ap.add (i2.toNat * 11)).add 2).add 1).add 1) (.slice bb bc bd) rfl ((congrArg ax.cell? (addr3 (o := 4) rfl)).trans h5)) (L_mv (vi (k3 + 1 + 1 + 1 + 1)) rfl ?_)
  have h6 : Ow kPt 114 ax ([] ++ O) (.slice bb bc bd) ((nth xs6 i2).Was.Shape.Pts) := Ds.toOw b6 (fun b hb => List.mem_append_right _ (hmm b (mcm (List.mem_append_left _ (b4 _ (b5 _ hb))))))
  refine L_call go44 [.slice bb bc bd, vi (k3 + 1 + 1 + 1 + 1)] rfl ((F59.calls ax ek.ok bb bc bd ((nth xs6 i2).Was.Shape.Pts) h6 (k3 + 1 + 1 + 1 + 1) _ H).mono ?_)
  rintro _ aj ⟨r3, m, rfl, H, h7, h8⟩
  have b7 : Gm ax aj en := h7.gm fun b hb => by rw [Ds.rows b6, ← hb]; exact List.mem_cons_self
  have h9 := Ds.upf b6 h8
  have ia : ((Dd.sl (Dd.flat (k := kPt) kPt_flat) 114)).D aj en m [.slice bb bc bd] := ⟨_, rfl, h9⟩
  have az := DArr.fset (h0 aj _ _ (Dj.left hdj.2) (fun b hb hn => b7.block b (ay.lt b hb) fun hm => hn (b5 b hm)) (h3 aj _ _ (hy (Dj.left hdj.2)) (fun b hb hn => b7.block b (ay.lt b (b4 b hb)) hn) ia)) eo rfl
  have be := ba.flto (w' := aj) (O' := O) (cells_flat _) fun b hb => ⟨b7.block b (ba.ltb b hb) fun hm => (hdj).1 b hb (List.mem_append_left _ (b4 _ (b5 _ hm))), ba.mem b hb⟩
  have ep := ek.wmg b7 (fun b hb => (mcm (List.mem_append_left _ (b4 _ (b5 _ hb)))))
  obtain ⟨xs7, eq⟩ : ∃ y__ : List Change, y__ = (xs6.set i2.toNat (⟨(nth xs6 i2).Id, (nth xs6 i2).Had, (⟨(nth xs6 i2).Was.Id, (⟨(nth xs6 i2).Was.Shape.Kind, m⟩ : Shape), (nth xs6 i2).Was.Tags⟩ : Feat), (nth xs6 i2).Has, (nth xs6 i2).Now⟩ : Change)) := ⟨_, rfl⟩
  have H := H xs7 eq
  rw [← eq] at az
  refine L_as (vi r3) rfl (L_nil (W_seq (W_reg (L_mv (.slice A1 n2 c3) rfl (L_mv (vi i2) rfl ?_)))))
  obtain ⟨c2, H⟩ := H
  have ib : (0 : Int) ≤ i2 ∧ i2 < (((((aa.set i2.toNat (ab ++ [vs r] ++ ac)).set i2.toNat (ad ++ [vb (((k3 + 1) % 3) == 0)] ++ ae)).set i2.toNat (af ++ [vs r2] ++ ag)).set i2.toNat (ah ++ [vi (k3 + 1 + 1 + 1)] ++ ai)).length : Int) := by rw [az.len]; exact c2
  obtain ⟨a0, l0, ic, id, ie⟩ := be.get default (by decide) i2 ib
  obtain rfl := Kd.cells.op id
  refine L_pu (P_ia Tryz.underlying30 se30 A1 a0 n2 c3 (Dp.len be az) i2 rfl ic rfl c2) (L_pu (P_fa fa63_2 (a0.add (i2.toNat * 11)) ((a0.add (i2.toNat * 11)).add 2) rfl rfl) (L_pu (P_fa fa61_2 ((a0.add (i2.toNat * 11)).add 2) (((a0.add (i2.toNat * 11)).add 2).add 3) rfl rfl) ?_))
  obtain ⟨l1, b8, ig, ih, ii⟩ := DArr.at_ (Int.toNat i2) default az (by have := c2; omega)
  obtain ⟨er, l2, l3, l4, b9, l5, es, ij, ik, il⟩ := foc63_5 _ _ _ _ ih
  obtain ⟨v264, im, ca⟩ := ik
  obtain ⟨bf, bg, bh, rfl⟩ := ca.shape
  subst im
  have io := ie 5 _ (foc_cell es ij)
  refine L_pu (P_ld ag59 cL (((a0.add (i2.toNat * 11)).add 2).add 3) (.slice bf bg bh) rfl ((congrArg aj.cell? (addr2 (o := 5) rfl)).trans io)) (L_mv (vi r3) rfl ?_)
  have ip : Ow kTag 106 aj ([] ++ O) (.slice bf bg bh) ((nth xs7 i2).Was.Tags) := Ds.toOw ca (fun b hb => List.mem_append_right _ (hmm b (mcm (List.mem_append_left _ (b8 _ (b9 _ hb))))))
  refine L_call go45 [.slice bf bg bh, vi r3] rfl ((F41.calls aj ep.ok bf bg bh ((nth xs7 i2).Was.Tags) ip r3 _ H).mono ?_)
  rintro _ a1 ⟨r4, m2, rfl, H, iq, ir⟩
  have cb : Gm aj a1 er := iq.gm fun b hb => by rw [Ds.rows ca, ← hb]; exact List.mem_cons_self
  have it := Ds.upf ca ir
  have iu : ((Dd.sl (Dd.flat (k := kTag) kTag_flat) 106)).D a1 er m2 [.slice bf bg bh] := ⟨_, rfl, it⟩
  have bi := DArr.fset (ii a1 _ _ (Dj.left hdj.2) (fun b hb hn => cb.block b (az.lt b hb) fun hm => hn (b9 b hm)) (il a1 _ _ (ig (Dj.left hdj.2)) (fun b hb hn => cb.block b (az.lt b (b8 b hb)) hn) iu)) es rfl
  have c4 := be.flto (w' := a1) (O' := O) (cells_flat _) fun b hb => ⟨cb.block b (be.ltb b hb) fun hm => (hdj).1 b hb (List.mem_append_left _ (b8 _ (b9 _ hm))), be.mem b hb⟩
  have iv := ep.wmg cb (fun b hb => (mcm (List.mem_append_left _ (b8 _ (b9 _ hb)))))
  obtain ⟨xs8, et⟩ : ∃ y__ : List Change, y__ = (xs7.set i2.toNat (⟨(nth xs7 i2).Id, (nth xs7 i2).Had, (⟨(nth xs7 i2).Was.Id, (nth xs7 i2).Was.Shape, m2⟩ : Feat), (nth xs7 i2).Has, (nth xs7 i2).Now⟩ : Change)) := ⟨_, rfl⟩
  have H := H xs8 et
  rw [← et] at bi
  refine L_as (vi r4) rfl (L_nil (W_seq (W_reg (L_mv (.slice A1 n2 c3) rfl (L_mv (vi i2) rfl (L_mv (vi r4) rfl ?_))))))
  obtain ⟨iw, H⟩ := H
  refine L_pu (P_rem r4 3 rfl rfl iw) (L_pu (P_cmp (r4 % 3) 0 ((r4 % 3) == 0) rfl rfl rfl) ?_)
  obtain ⟨c5, H⟩ := H
  have eu : (0 : Int) ≤ i2 ∧ i2 < (((((aa.set i2.toNat (ab ++ [vs r] ++ ac)).set i2.toNat (ad ++ [vb (((k3 + 1) % 3) == 0)] ++ ae)).set i2.toNat (af ++ [vs r2] ++ ag)).set i2.toNat (ah ++ [vi (k3 + 1 + 1 + 1)] ++ ai)).length : Int) := by rw [bi.len]; exact c5
  obtain ⟨cc, l6, ev, ew, ix⟩ := c4.get default (by decide) i2 eu
  obtain rfl := Kd.cells.op ew
  refine L_pu (P_ia Tryz.underlying30 se30 A1 cc n2 c3 (Dp.len c4 bi) i2 rfl ev rfl c5) (L_pu (P_fa fa63_3 (cc.add (i2.toNat * 11)) ((cc.add (i2.toNat * 11)).add 6) rfl rfl) ?_)
  obtain ⟨l7, iy, ex, iz, i0⟩ := DArr.at_ (Int.toNat i2) default bi (by have := c5; omega)
  obtain ⟨i1, ak, i3, al, l8, l9, i4, i5, ey, ez⟩ := foc63_6 _ _ _ _ iz
  have e0 : ((Dd.flat (k := Kd.bool) bool_flat)).D a1 i1 ((r4 % 3) == 0) [vb ((r4 % 3) == 0)] := ⟨ey.1, rfl⟩
  have i6 := ez _ _ _ (ex (Dj.left hdj.2)) (fun _ _ _ => rfl) e0
  have i7 : i3.length = [vb ((r4 % 3) == 0)].length := (((Dd.flat (k := Kd.bool) bool_flat)).toR (S := fun _ => True) ey fun _ _ => trivial) |> Kd.len _
  refine L_ste1 (kd := Kd.cells 11) A1 n2 c3 ((((aa.set i2.toNat (ab ++ [vs r] ++ ac)).set i2.toNat (ad ++ [vb (((k3 + 1) % 3) == 0)] ++ ae)).set i2.toNat (af ++ [vs r2] ++ ag)).set i2.toNat (ah ++ [vi (k3 + 1 + 1 + 1)] ++ ai)) c4 i2 eu cc ev 6 rfl [vb ((r4 % 3) == 0)] rfl sz4 rfl (ak ++ [vb ((r4 % 3) == 0)] ++ al) _ (ak ++ [vb ((r4 % 3) == 0)] ++ al) ix (Kd.len _ ew) (foc_put i4 i5 i7) (Dd.raw _ i6) fun c6 e1 i8 => ?_
  have e2 := iv.wmm (memi (L := (bk A1 :: (q7 ++ []))) 0 rfl) e1
  have e3 : ∀ b, some b ∈ (q7 : Ob) → c6.heap[b]? = _ := fun b hb => e1.block b (bi.lt b hb) (fun e => (hdj).1 b e.symm (List.mem_append_left _ hb))
  have e4 := i0 c6 _ _ (Dj.left hdj.2) (fun b hb _ => e3 b hb) (ez _ _ _ (ex (Dj.left hdj.2)) (fun b hb _ => e3 b (iy b hb)) e0)
  obtain ⟨xs9, e5⟩ : ∃ y__ : List Change, y__ = (xs8.set i2.toNat (⟨(nth xs8 i2).Id, (nth xs8 i2).Had, (nth xs8 i2).Was, (r4 % 3) == 0, (nth xs8 i2).Now⟩ : Change)) := ⟨_, rfl⟩
  have H := H xs9 e5
  rw [← e5] at e4
  refine L_nil (W_seq (W_reg (L_mv (vi r4) rfl ?_)))
  obtain ⟨i9, H⟩ := H
  have ja := i9 (len_le an)
  refine L_pu (P_add r4 1 rfl rfl ja) (L_as (vi (r4 + 1)) rfl (L_nil (W_seq (W_reg (L_mv (.slice A1 n2 c3) rfl (L_mv (vi i2) rfl (L_mv (vi (r4 + 1)) rfl ?_)))))))
  refine L_call go43 [vi (r4 + 1)] rfl ((F40.calls c6 e2.ok (r4 + 1) _ H).mono ?_)
  rintro _ jb ⟨r5, rfl, H, c7, jc⟩
  have jd := e2.k0 c7
  obtain ⟨c8, H⟩ := H
  have c9 := (i8.sn c7)
  have cd := (e4.k0 c7)
  have e6 : (0 : Int) ≤ i2 ∧ i2 < ((((((aa.set i2.toNat (ab ++ [vs r] ++ ac)).set i2.toNat (ad ++ [vb (((k3 + 1) % 3) == 0)] ++ ae)).set i2.toNat (af ++ [vs r2] ++ ag)).set i2.toNat (ah ++ [vi (k3 + 1 + 1 + 1)] ++ ai)).set i2.toNat (ak ++ [vb ((r4 % 3) == 0)] ++ al)).length : Int) := by rw [cd.len]; exact c8
  obtain ⟨a2, ma, e7, e8, je⟩ := c9.get default (by decide) i2 e6
  obtain rfl := Kd.cells.op e8
  refine L_pu (P_ia Tryz.underlying30 se30 A1 a2 n2 c3 (Dp.len c9 cd) i2 rfl e7 rfl c8) (L_pu (P_fa fa63_4 (a2.add (i2.toNat * 11)) ((a2.add (i2.toNat * 11)).add 7) rfl rfl) (L_pu (P_fa fa61_0 ((a2.add (i2.toNat * 11)).add 7) (((a2.add (i2.toNat * 11)).add 7).add 0) rfl rfl) ?_))
  obtain ⟨mb, jf, e9, jg, jh⟩ := DArr.at_ (Int.toNat i2) default cd (by have := c8; omega)
  obtain ⟨ji, au, jj, av, mc, md, jk, jl, fa, fb⟩ := foc63_7 _ _ _ _ jg
  have fc : ((Dd.flat (k := Kd.str) str_flat)).D jb ji r5 [vs r5] := ⟨fa.1, ⟨rfl, jc⟩⟩
  have jm := fb _ _ _ (e9 (Dj.left hdj.2)) (fun _ _ _ => rfl) fc
  have jn : jj.length = [vs r5].length := (((Dd.flat (k := Kd.str) str_flat)).toR (S := fun _ => True) fa fun _ _ => trivial) |> Kd.len _
  refine L_ste2 (kd := Kd.cells 11) A1 n2 c3 (((((aa.set i2.toNat (ab ++ [vs r] ++ ac)).set i2.toNat (ad ++ [vb (((k3 + 1) % 3) == 0)] ++ ae)).set i2.toNat (af ++ [vs r2] ++ ag)).set i2.toNat (ah ++ [vi (k3 + 1 + 1 + 1)] ++ ai)).set i2.toNat (ak ++ [vb ((r4 % 3) == 0)] ++ al)) c9 i2 e6 a2 e7 7 rfl rfl [vs r5] rfl sz9 rfl (au ++ [vs r5] ++ av) _ (au ++ [vs r5] ++ av) je (Kd.len _ e8) (foc_put jk jl jn) (Dd.raw _ jm) fun da fd db => ?_
  have jo := jd.wmm (memi (L := (bk A1 :: (q7 ++ []))) 0 rfl) fd
  have fe : ∀ b, some b ∈ (q7 : Ob) → da.heap[b]? = _ := fun b hb => fd.block b (cd.lt b hb) (fun e => (hdj).1 b e.symm (List.mem_append_left _ hb))
  have bj := jh da _ _ (Dj.left hdj.2) (fun b hb _ => fe b hb) (fb _ _ _ (e9 (Dj.left hdj.2)) (fun b hb _ => fe b (jf b hb)) fc)
  obtain ⟨xs10, ff⟩ : ∃ y__ : List Change, y__ = (xs9.set i2.toNat (⟨(nth xs9 i2).Id, (nth xs9 i2).Had, (nth xs9 i2).Was, (nth xs9 i2).Has, (⟨r5, (nth xs9 i2).Now.Shape, (nth xs9 i2).Now.Tags⟩ : Feat)⟩ : Change)) := ⟨_, rfl⟩
  have H := H xs10 ff
  rw [← ff] at bj
  refine L_nil (W_seq (W_reg (L_mv (vi (r4 + 1)) rfl ?_)))
  obtain ⟨jp, H⟩ := H
  have jq := jp (len_le an)
  refine L_pu (P_add (r4 + 1) 1 rfl rfl jq) (L_as (vi (r4 + 1 + 1)) rfl (L_nil (W_seq (W_reg (L_mv (.slice A1 n2 c3) rfl (L_mv (vi i2) rfl (L_mv (vi (r4 + 1 + 1)) rfl ?_)))))))
  obtain ⟨dc, H⟩ := H
  have fg : (0 : Int) ≤ i2 ∧ i2 < (((((((aa.set i2.toNat (ab ++ [vs r] ++ ac)).set i2.toNat (ad ++ [vb (((k3 + 1) % 3) == 0)] ++ ae)).set i2.toNat (af ++ [vs r2] ++ ag)).set i2.toNat (ah ++ [vi (k3 + 1 + 1 + 1)] ++ ai)).set i2.toNat (ak ++ [vb ((r4 % 3) == 0)] ++ al)).set i2.toNat (au ++ [vs r5] ++ av)).length : Int) := by rw [bj.len]; exact dc
  obtain ⟨aq, me, fh, fi, jr⟩ := db.get default (by decide) i2 fg
  obtain rfl := Kd.cells.op fi
  refine L_pu (P_ia Tryz.underlying30 se30 A1 aq n2 c3 (Dp.len db bj) i2 rfl fh rfl dc) (L_pu (P_fa fa63_4 (aq.add (i2.toNat * 11)) ((aq.add (i2.toNat * 11)).add 7) rfl rfl) (L_pu (P_fa fa61_1 ((aq.add (i2.toNat * 11)).add 7) (((aq.add (i2.toNat * 11)).add 7).add 1) rfl rfl) (L_pu (P_fa fa58_0 (((aq.add (i2.toNat * 11)).add 7).add 1) ((((aq.add (i2.toNat * 11)).add 7).add 1).add 0) rfl rfl) ?_)))
  obtain ⟨mf, js, fj, jt, ju⟩ := DArr.at_ (Int.toNat i2) default bj (by have := dc; omega)
  obtain ⟨jv, bl, jw, bm, mg, mh, jx, jy, fk, fl⟩ := foc63_8 _ _ _ _ jt
  have fm : ((Dd.flat (k := (Kd.int .i64)) (int_flat _))).D da jv (r4 + 1 + 1) [vi (r4 + 1 + 1)] := ⟨fk.1, rfl⟩
  have jz := fl _ _ _ (fj (Dj.left hdj.2)) (fun _ _ _ => rfl) fm
  have j0 : jw.length = [vi (r4 + 1 + 1)].length := (((Dd.flat (k := (Kd.int .i64)) (int_flat _))).toR (S := fun _ => True) fk fun _ _ => trivial) |> Kd.len _
  refine L_ste3 (kd := Kd.cells 11) A1 n2 c3 ((((((aa.set i2.toNat (ab ++ [vs r] ++ ac)).set i2.toNat (ad ++ [vb (((k3 + 1) % 3) == 0)] ++ ae)).set i2.toNat (af ++ [vs r2] ++ ag)).set i2.toNat (ah ++ [vi (k3 + 1 + 1 + 1)] ++ ai)).set i2.toNat (ak ++ [vb ((r4 % 3) == 0)] ++ al)).set i2.toNat (au ++ [vs r5] ++ av)) db i2 fg aq fh 8 rfl rfl [vi (r4 + 1 + 1)] rfl sz3 rfl (bl ++ [vi (r4 + 1 + 1)] ++ bm) _ (bl ++ [vi (r4 + 1 + 1)] ++ bm) jr (Kd.len _ fi) (foc_put jx jy j0) (Dd.raw _ jz) fun a3 fn bn => ?_
  have fo := jo.wmm (memi (L := (bk A1 :: (q7 ++ []))) 0 rfl) fn
  have fp : ∀ b, some b ∈ (q7 : Ob) → a3.heap[b]? = _ := fun b hb => fn.block b (bj.lt b hb) (fun e => (hdj).1 b e.symm (List.mem_append_left _ hb))
  have a4 := ju a3 _ _ (Dj.left hdj.2) (fun b hb _ => fp b hb) (fl _ _ _ (fj (Dj.left hdj.2)) (fun b hb _ => fp b (js b hb)) fm)
  obtain ⟨xs11, fq⟩ : ∃ y__ : List Change, y__ = (xs10.set i2.toNat (⟨(nth xs10 i2).Id, (nth xs10 i2).Had, (nth xs10 i2).Was, (nth xs10 i2).Has, (⟨(nth xs10 i2).Now.Id, (⟨r4 + 1 + 1, (nth xs10 i2).Now.Shape.Pts⟩ : Shape), (nth xs10 i2).Now.Tags⟩ : Feat)⟩ : Change)) := ⟨_, rfl⟩
  have H := H xs11 fq
  rw [← fq] at a4
  refine L_nil (W_seq (W_reg (L_mv (vi (r4 + 1 + 1)) rfl ?_)))
  obtain ⟨j1, H⟩ := H
  have j2 := j1 (len_le an)
  refine L_pu (P_add (r4 + 1 + 1) 1 rfl rfl j2) (L_as (vi (r4 + 1 + 1 + 1)) rfl (L_nil (W_seq (W_reg (L_mv (.slice A1 n2 c3) rfl (L_mv (vi i2) rfl ?_))))))
  obtain ⟨dd, H⟩ := H
  have j3 : (0 : Int) ≤ i2 ∧ i2 < ((((((((aa.set i2.toNat (ab ++ [vs r] ++ ac)).set i2.toNat (ad ++ [vb (((k3 + 1) % 3) == 0)] ++ ae)).set i2.toNat (af ++ [vs r2] ++ ag)).set i2.toNat (ah ++ [vi (k3 + 1 + 1 + 1)] ++ ai)).set i2.toNat (ak ++ [vb ((r4 % 3) == 0)] ++ al)).set i2.toNat (au ++ [vs r5] ++ av)).set i2.toNat (bl ++ [vi (r4 + 1 + 1)] ++ bm)).length : Int) := by rw [a4.len]; exact dd
  obtain ⟨ar, mi, j4, j5, j6⟩ := bn.get default (by decide) i2 j3
  obtain rfl := Kd.cells.op j5
  refine L_pu (P_ia Tryz.underlying30 se30 A1 ar n2 c3 (Dp.len bn a4) i2 rfl j4 rfl dd) (L_pu (P_fa fa63_4 (ar.add (i2.toNat * 11)) ((ar.add (i2.toNat * 11)).add 7) rfl rfl) (L_pu (P_fa fa61_1 ((ar.add (i2.toNat * 11)).add 7) (((ar.add (i2.toNat * 11)).add 7).add 1) rfl rfl) (L_pu (P_fa fa58_1 (((ar.add (i2.toNat * 11)).add 7).add 1) ((((ar.add (i2.toNat * 11)).add 7).add 1).add 1) rfl rfl) ?_)))
  obtain ⟨mj, ce, j7, j8, j9⟩ := DArr.at_ (Int.toNat i2) default a4 (by have := dd; omega)
  obtain ⟨fr, mk, ml, mm, cf, mn, fs, ka, kb, kc⟩ := foc63_9 _ _ _ _ j8
  obtain ⟨v421, ke, cg⟩ := kb
  obtain ⟨bo, bp, bq, rfl⟩ := cg.shape
  subst ke
  have kf := j6 9 _ (foc_cell fs ka)
  refine L_pu (P_ld ag56 cL ((((ar.add (i2.toNat * 11)).add 7).add 1).add 1) (.slice bo bp bq) rfl ((congrArg a3.cell? (addr3 (o := 9) rfl)).trans kf)) (L_mv (vi (r4 + 1 + 1 + 1)) rfl ?_)
  have kg : Ow kPt 114 a3 ([] ++ O) (.slice bo bp bq) ((nth xs11 i2).Now.Shape.Pts) := Ds.toOw cg (fun b hb => List.mem_append_right _ (hmm b (mcm (List.mem_append_left _ (ce _ (cf _ hb))))))
  refine L_call go44 [.slice bo bp bq, vi (r4 + 1 + 1 + 1)] rfl ((F59.calls a3 fo.ok bo bp bq ((nth xs11 i2).Now.Shape.Pts) kg (r4 + 1 + 1 + 1) _ H).mono ?_)
  rintro _ am ⟨r6, m3, rfl, H, kh, ki⟩
  have ch : Gm a3 am fr := kh.gm fun b hb => by rw [Ds.rows cg, ← hb]; exact List.mem_cons_self
  have kj := Ds.upf cg ki
  have kk : ((Dd.sl (Dd.flat (k := kPt) kPt_flat) 114)).D am fr m3 [.slice bo bp bq] := ⟨_, rfl, kj⟩
  have a5 := DArr.fset (j9 am _ _ (Dj.left hdj.2) (fun b hb hn => ch.block b (a4.lt b hb) fun hm => hn (cf b hm)) (kc am _ _ (j7 (Dj.left hdj.2)) (fun b hb hn => ch.block b (a4.lt b (ce b hb)) hn) kk)) fs rfl
  have br := bn.flto (w' := am) (O' := O) (cells_flat _) fun b hb => ⟨ch.block b (bn.ltb b hb) fun hm => (hdj).1 b hb (List.mem_append_left _ (ce _ (cf _ hm))), bn.mem b hb⟩
  have ft := fo.wmg ch (fun b hb => (mcm (List.mem_append_left _ (ce _ (cf _ hb)))))
  obtain ⟨xs12, fu⟩ : ∃ y__ : List Change, y__ = (xs11.set i2.toNat (⟨(nth xs11 i2).Id, (nth xs11 i2).Had, (nth xs11 i2).Was, (nth xs11 i2).Has, (⟨(nth xs11 i2).Now.Id, (⟨(nth xs11 i2).Now.Shape.Kind, m3⟩ : Shape), (nth xs11 i2).Now.Tags⟩ : Feat)⟩ : Change)) := ⟨_, rfl⟩
  have H := H xs12 fu
  rw [← fu] at a5
  refine L_as (vi r6) rfl (L_nil (W_reg (L_mv (.slice A1 n2 c3) rfl (L_mv (vi i2) rfl ?_))))
  obtain ⟨de, H⟩ := H
  have kl : (0 : Int) ≤ i2 ∧ i2 < ((((((((aa.set i2.toNat (ab ++ [vs r] ++ ac)).set i2.toNat (ad ++ [vb (((k3 + 1) % 3) == 0)] ++ ae)).set i2.toNat (af ++ [vs r2] ++ ag)).set i2.toNat (ah ++ [vi (k3 + 1 + 1 + 1)] ++ ai)).set i2.toNat (ak ++ [vb ((r4 % 3) == 0)] ++ al)).set i2.toNat (au ++ [vs r5] ++ av)).set i2.toNat (bl ++ [vi (r4 + 1 + 1)] ++ bm)).length : Int) := by rw [a5.len]; exact de
  obtain ⟨a6, mo, km, kn, ko⟩ := br.get default (by decide) i2 kl
  obtain rfl := Kd.cells.op kn
  refine L_pu (P_ia Tryz.underlying30 se30 A1 a6 n2 c3 (Dp.len br a5) i2 rfl km rfl de) (L_pu (P_fa fa63_4 (a6.add (i2.toNat * 11)) ((a6.add (i2.toNat * 11)).add 7) rfl rfl) (L_pu (P_fa fa61_2 ((a6.add (i2.toNat * 11)).add 7) (((a6.add (i2.toNat * 11)).add 7).add 3) rfl rfl) ?_))
  obtain ⟨mp, ci, kp, kq, kr⟩ := DArr.at_ (Int.toNat i2) default a5 (by have := de; omega)
  obtain ⟨fv, mq, mr, ms, cj, mt, fw, ks, kt, ku⟩ := foc63_10 _ _ _ _ kq
  obtain ⟨v463, kv, ck⟩ := kt
  obtain ⟨bs, bt, bu, rfl⟩ := ck.shape
  subst kv
  have kx := ko 10 _ (foc_cell fw ks)
  refine L_pu (P_ld ag59 cL (((a6.add (i2.toNat * 11)).add 7).add 3) (.slice bs bt bu) rfl ((congrArg am.cell? (addr2 (o := 10) rfl)).trans kx)) (L_mv (vi r6) rfl ?_)
  have ky : Ow kTag 106 am ([] ++ O) (.slice bs bt bu) ((nth xs12 i2).Now.Tags) := Ds.toOw ck (fun b hb => List.mem_append_right _ (hmm b (mcm (List.mem_append_left _ (ci _ (cj _ hb))))))
  refine L_call go45 [.slice bs bt bu, vi r6] rfl ((F41.calls am ft.ok bs bt bu ((nth xs12 i2).Now.Tags) ky r6 _ H).mono ?_)
  rintro _ bv ⟨r7, m4, rfl, H, kz, k1⟩
  have cl : Gm am bv fv := kz.gm fun b hb => by rw [Ds.rows ck, ← hb]; exact List.mem_cons_self
  have k2 := Ds.upf ck k1
  have k4 : ((Dd.sl (Dd.flat (k := kTag) kTag_flat) 106)).D bv fv m4 [.slice bs bt bu] := ⟨_, rfl, k2⟩
  have fx := DArr.fset (kr bv _ _ (Dj.left hdj.2) (fun b hb hn => cl.block b (a5.lt b hb) fun hm => hn (cj b hm)) (ku bv _ _ (kp (Dj.left hdj.2)) (fun b hb hn => cl.block b (a5.lt b (ci b hb)) hn) k4)) fw rfl
  have k5 := br.flto (w' := bv) (O' := O) (cells_flat _) fun b hb => ⟨cl.block b (br.ltb b hb) fun hm => (hdj).1 b hb (List.mem_append_left _ (ci _ (cj _ hm))), br.mem b hb⟩
  have k6 := ft.wmg cl (fun b hb => (mcm (List.mem_append_left _ (ci _ (cj _ hb)))))
  obtain ⟨xs13, fy⟩ : ∃ y__ : List Change, y__ = (xs12.set i2.toNat (⟨(nth xs12 i2).Id, (nth xs12 i2).Had, (nth xs12 i2).Was, (nth xs12 i2).Has, (⟨(nth xs12 i2).Now.Id, (nth xs12 i2).Now.Shape, m4⟩ : Feat)⟩ : Change)) := ⟨_, rfl⟩
  have H := H xs13 fy
  rw [← fy] at fx
  refine L_as (vi r7) rfl (L_nil (W_reg (L_mv (vi i2) rfl ?_)))
  obtain ⟨k7, H⟩ := H
  have k8 : I64 (i2 + 1) := i64_succ (of_decide_eq_true bz) an k7
  refine L_pu (P_add i2 1 rfl rfl k8) (L_as (vi (i2 + 1)) rfl (L_nil ?_))
  obtain ⟨k9, la⟩ := H
  exact ⟨(xs13, (((((((aa.set i2.toNat (ab ++ [vs r] ++ ac)).set i2.toNat (ad ++ [vb (((k3 + 1) % 3) == 0)] ++ ae)).set i2.toNat (af ++ [vs r2] ++ ag)).set i2.toNat (ah ++ [vi (k3 + 1 + 1 + 1)] ++ ai)).set i2.toNat (ak ++ [vb ((r4 % 3) == 0)] ++ al)).set i2.toNat (au ++ [vs r5] ++ av)).set i2.toNat (bl ++ [vi (r4 + 1 + 1)] ++ bm)), r7, i2 + 1), la, k9, (hasI rfl), k6, k5, fx⟩
 have H := ite_f H bz
 refine W_exit (xin_hit ?_)
 exact W_seq (W_reg (L_mv (vi k3) rfl (L_as (vi k3) rfl (L_nil (W_ret ⟨[vi k3], ⟨_, rfl, rfl⟩, k3, xs2, aa, rfl, H, cn.gr, bw, bx⟩)))))
end
section
open Go.RowKit
def F60.E (a : List Pt) (k : Int) (Q : Int → Prop) : Prop :=
 (∃ (I18 : Int → Int → Prop) (mu19 : Int → Int → Nat), I18 k 0 ∧ ∀ (k3 : Int) (i2 : Int), I18 k3 i2 → (if decide (i2 < (a.length : Int)) then ((0 : Int) ≤ i2 ∧ i2 < (a.length : Int)) ∧ (if ((nth a i2).X) != k3 then Q (-1) else ((a.length : Int) ≤ 9223372036854775807 → I64 (k3 + 1)) ∧ ((0 : Int) ≤ i2 ∧ i2 < (a.length : Int)) ∧ (if ((nth a i2).Y) != (k3 + 1) then Q (-1) else ((a.length : Int) ≤ 9223372036854775807 → I64 (k3 + 1 + 1)) ∧ (-9223372036854775808 ≤ i2) ∧ I18 (k3 + 1 + 1) (i2 + 1) ∧ mu19 (k3 + 1 + 1) (i2 + 1) < mu19 k3 i2)) else Q k3))
theorem F60.calls {O : Ob} (w0 : World) (hO : Ok w0 O) (a : List Pt) (A1 : Option Addr) (n2 c3 : Nat) (hp4 : Sl kPt w0 (Fr O) (.slice A1 n2 c3) a) (k : Int) (Q : Int → Prop) (h : F60.E a k Q) :
  Ret Tryz.prog 46 [.slice A1 n2 c3, vi k] w0 (fun v w' => ∃ (r0 : Int), v = vi r0 ∧ Q r0 ∧ Gr w0 w' none) := by
 unfold F60.E at h
 have H := h
 clear h
 have hc0 := Ct.init hO
 refine Ret_enter Tryz.func46 rfl 31 rfl [.tmp 4] rfl rfl ?_
 refine W_seq (W_reg (L_as (vi 0) rfl (L_nil (W_seq (W_seq (W_reg (L_as (vi 0) rfl (L_nil ?_))))))))
 refine W_block ?_
 obtain ⟨am, an, af, H⟩ := H
 refine W_loop (α := Int × Int) (fun (sv__ : Int × Int) t ag => match sv__ with | (k3, i2) => am k3 i2 ∧ Has t [(0, .slice A1 n2 c3), (1, vi k3), (5, vi i2)] ∧ Ct [] w0 ag [] O ∧ Sl kPt ag (Fr ([] ++ O)) (.slice A1 n2 c3) a) (fun (sv__ : Int × Int) => match sv__ with | (k3, i2) => an k3 i2) (k, 0) ⟨af, (hasI rfl), hc0, hp4⟩ ?_
 rintro ⟨k3, i2⟩ _ ag ⟨af, ao, ab, aa⟩
 obtain ⟨a5, rfl⟩ := Has.ins ao
 have H := H k3 i2 af
 refine W_seq (W_seq (W_reg (L_mv (vi i2) rfl (L_mv (.slice A1 n2 c3) rfl ?_))))
 have ah := aa.le
 refine L_pu (P_len Tryz.underlying56 A1 n2 c3 aa.len rfl) (L_pu (P_cmp i2 (a.length : Int) (decide (i2 < (a.length : Int))) rfl rfl rfl) (L_nil ?_))
 refine W_cond (decide (i2 < (a.length : Int))) rfl (fun ac => ?_) (fun ac => ?_)
 ·have H := ite_t H ac
  refine W_skip (W_seq (W_block (W_seq (W_seq (W_reg (L_mv (.slice A1 n2 c3) rfl (L_mv (vi i2) rfl ?_)))))))
  obtain ⟨ak, H⟩ := H
  obtain ⟨ad, a6, ap, a7, aq, ar⟩ := aa.get default (by decide) i2 ak
  obtain rfl := kPt.op aq
  refine L_pu (P_ia Tryz.underlying56 se56 A1 ad n2 c3 aa.len i2 rfl ap rfl ak) (L_pu (P_fa fa114_0 (ad.add (i2.toNat * 2)) ((ad.add (i2.toNat * 2)).add 0) rfl rfl) (L_pu (P_ld ag3 cL ((ad.add (i2.toNat * 2)).add 0) (vi ((nth a i2).X)) rfl (ar 0 _ rfl)) (L_mv (vi k3) rfl (L_pu (P_cmp ((nth a i2).X) k3 (((nth a i2).X) != k3) rfl rfl rfl) (L_nil ?_)))))
  refine W_cond (((nth a i2).X) != k3) rfl (fun ai => ?_) (fun ai => ?_)
  ·have H := ite_t H ai
   exact W_seq (W_reg (L_as (vi (-1)) rfl (L_nil (W_ret ⟨[vi (-1)], ⟨_, rfl, rfl⟩, (-1), rfl, H, ab.gr.g0⟩))))
  have H := ite_f H ai
  refine W_skip (W_seq (W_reg (L_mv (vi k3) rfl ?_)))
  obtain ⟨au, H⟩ := H
  have av := au (len_le ah)
  refine L_pu (P_add k3 1 rfl rfl av) (L_as (vi (k3 + 1)) rfl (L_nil (W_seq (W_seq (W_reg (L_mv (.slice A1 n2 c3) rfl (L_mv (vi i2) rfl ?_)))))))
  obtain ⟨al, H⟩ := H
  obtain ⟨ae, a8, aw, a9, ax, ay⟩ := aa.get default (by decide) i2 al
  obtain rfl := kPt.op ax
  refine L_pu (P_ia Tryz.underlying56 se56 A1 ae n2 c3 aa.len i2 rfl aw rfl al) (L_pu (P_fa fa114_1 (ae.add (i2.toNat * 2)) ((ae.add (i2.toNat * 2)).add 1) rfl rfl) (L_pu (P_ld ag3 cL ((ae.add (i2.toNat * 2)).add 1) (vi ((nth a i2).Y)) rfl (ay 1 _ rfl)) (L_mv (vi (k3 + 1)) rfl (L_pu (P_cmp ((nth a i2).Y) (k3 + 1) (((nth a i2).Y) != (k3 + 1)) rfl rfl rfl) (L_nil ?_)))))
  refine W_cond (((nth a i2).Y) != (k3 + 1)) rfl (fun aj => ?_) (fun aj => ?_)
  ·have H := ite_t H aj
   exact W_seq (W_reg (L_as (vi (-1)) rfl (L_nil (W_ret ⟨[vi (-1)], ⟨_, rfl, rfl⟩, (-1), rfl, H, ab.gr.g0⟩))))
  have H := ite_f H aj
  refine W_skip (W_reg (L_mv (vi (k3 + 1)) rfl ?_))
  obtain ⟨az, H⟩ := H
  have a0 := az (len_le ah)
  refine L_pu (P_add (k3 + 1) 1 rfl rfl a0) (L_as (vi (k3 + 1 + 1)) rfl (L_nil (W_reg (L_mv (vi i2) rfl ?_))))
  obtain ⟨a1, H⟩ := H
  have a2 : I64 (i2 + 1) := i64_succ (of_decide_eq_true ac) ah a1
  refine L_pu (P_add i2 1 rfl rfl a2) (L_as (vi (i2 + 1)) rfl (L_nil ?_))
  obtain ⟨a3, a4⟩ := H
  exact ⟨(k3 + 1 + 1, i2 + 1), a4, a3, (hasI rfl), ab, aa⟩
 have H := ite_f H ac
 refine W_exit (xin_hit ?_)
 exact W_seq (W_reg (L_mv (vi k3) rfl (L_as (vi k3) rfl (L_nil (W_ret ⟨[vi k3], ⟨_, rfl, rfl⟩, k3, rfl, H, ab.gr.g0⟩)))))
end
section
open Go.RowKit
def F42.E (a : List Tag) (k : Int) (Q : Int → Prop) : Prop :=
 (∃ (I18 : Int → Int → Prop) (mu19 : Int → Int → Nat), I18 k 0 ∧ ∀ (k3 : Int) (i2 : Int), I18 k3 i2 → (if decide (i2 < (a.length : Int)) then ((0 : Int) ≤ i2 ∧ i2 < (a.length : Int)) ∧ (∃ q : Str, F40.E k3 (fun x => x = q) ∧ (Lim q) ∧ (if ((nth a i2).Key) != q then Q (-1) else ((a.length : Int) ≤ 9223372036854775807 → I64 (k3 + 1)) ∧ ((0 : Int) ≤ i2 ∧ i2 < (a.length : Int)) ∧ (∃ q2 : Str, F40.E (k3 + 1) (fun x => x = q2) ∧ (Lim q2) ∧ (if ((nth a i2).Val) != q2 then Q (-1) else ((a.length : Int) ≤ 9223372036854775807 → I64 (k3 + 1 + 1)) ∧ (-9223372036854775808 ≤ i2) ∧ I18 (k3 + 1 + 1) (i2 + 1) ∧ mu19 (k3 + 1 + 1) (i2 + 1) < mu19 k3 i2)))) else Q k3))
theorem F42.calls {O : Ob} (w0 : World) (hO : Ok w0 O) (a : List Tag) (A1 : Option Addr) (n2 c3 : Nat) (hp4 : Sl kTag w0 (Fr O) (.slice A1 n2 c3) a) (k : Int) (Q : Int → Prop) (h : F42.E a k Q) :
  Ret Tryz.prog 47 [.slice A1 n2 c3, vi k] w0 (fun v w' => ∃ (r0 : Int), v = vi r0 ∧ Q r0 ∧ Gr w0 w' none) := by
 unfold F42.E at h
 have H := h
 clear h
 have hc0 := Ct.init hO
 refine Ret_enter Tryz.func47 rfl 33 rfl [.tmp 4] rfl rfl ?_
 refine W_seq (W_reg (L_as (vi 0) rfl (L_nil (W_seq (W_seq (W_reg (L_as (vi 0) rfl (L_nil ?_))))))))
 refine W_block ?_
 obtain ⟨ar, au, ah, H⟩ := H
 refine W_loop (α := Int × Int) (fun (sv__ : Int × Int) t ab => match sv__ with | (k3, i2) => ar k3 i2 ∧ Has t [(0, .slice A1 n2 c3), (1, vi k3), (5, vi i2)] ∧ Ct [] w0 ab [] O ∧ Sl kTag ab (Fr ([] ++ O)) (.slice A1 n2 c3) a) (fun (sv__ : Int × Int) => match sv__ with | (k3, i2) => au k3 i2) (k, 0) ⟨ah, (hasI rfl), hc0, hp4⟩ ?_
 rintro ⟨k3, i2⟩ _ ab ⟨ah, av, ac, aa⟩
 obtain ⟨bf, rfl⟩ := Has.ins av
 have H := H k3 i2 ah
 refine W_seq (W_seq (W_reg (L_mv (vi i2) rfl (L_mv (.slice A1 n2 c3) rfl ?_))))
 have ai := aa.le
 refine L_pu (P_len Tryz.underlying59 A1 n2 c3 aa.len rfl) (L_pu (P_cmp i2 (a.length : Int) (decide (i2 < (a.length : Int))) rfl rfl rfl) (L_nil ?_))
 refine W_cond (decide (i2 < (a.length : Int))) rfl (fun ad => ?_) (fun ad => ?_)
 ·have H := ite_t H ad
  refine W_skip (W_seq (W_block (W_seq (W_seq (W_draw (fun x => Gr ab x none) (by kernel_rfl) (by kernel_rfl) (Gr.drew _) ?_)))))
  refine Q_mv (.slice A1 n2 c3) rfl (Q_mv (vi i2) rfl ?_)
  obtain ⟨am, H⟩ := H
  obtain ⟨ae, bg, aw, bh, ax, ay⟩ := aa.get default (by decide) i2 am
  obtain ⟨rfl, bi, bj⟩ := kTag.op ax
  refine Q_pu (P_ia Tryz.underlying59 se59 A1 ae n2 c3 aa.len i2 rfl aw rfl am) (Q_pu (P_fa fa106_0 (ae.add (i2.toNat * 2)) ((ae.add (i2.toNat * 2)).add 0) rfl rfl) (Q_pu (P_ld ag9 cQ ((ae.add (i2.toNat * 2)).add 0) (vs ((nth a i2).Key)) rfl (ay 0 _ rfl)) (Q_mv (vi k3) rfl ?_)))
  obtain ⟨q, az, bl, H⟩ := H
  refine Q_call go43 [vi k3] rfl (vs q) (fun w g => (F40.calls w (ac.k0 g).ok k3 _ az).mono ?_) ?_
  ·rintro _ w ⟨r, rfl, rfl, g2, _⟩
   exact ⟨rfl, Gr.t0 g g2⟩
  refine Q_pu (P_scmp ((nth a i2).Key) q (((nth a i2).Key) != q) rfl rfl rfl) (Q_nil fun a0 an => ?_)
  have af := ac.k0 an
  refine W_cond (((nth a i2).Key) != q) rfl (fun aj => ?_) (fun aj => ?_)
  ·have H := ite_t H aj
   exact W_seq (W_reg (L_as (vi (-1)) rfl (L_nil (W_ret ⟨[vi (-1)], ⟨_, rfl, rfl⟩, (-1), rfl, H, af.gr.g0⟩))))
  have H := ite_f H aj
  refine W_skip (W_seq (W_reg (L_mv (vi k3) rfl ?_)))
  obtain ⟨a1, H⟩ := H
  have a2 := a1 (len_le ai)
  refine L_pu (P_add k3 1 rfl rfl a2) (L_as (vi (k3 + 1)) rfl (L_nil (W_seq (W_seq (W_draw (fun x => Gr a0 x none) (by kernel_rfl) (by kernel_rfl) (Gr.drew _) ?_)))))
  refine Q_mv (.slice A1 n2 c3) rfl (Q_mv (vi i2) rfl ?_)
  obtain ⟨ao, H⟩ := H
  have ak := ac.stn an
  obtain ⟨ag, bm, a3, bn, a4, a5⟩ := (aa.st ak).get default (by decide) i2 ao
  obtain ⟨rfl, bo, bp⟩ := kTag.op a4
  refine Q_pu (P_ia Tryz.underlying59 se59 A1 ag n2 c3 (aa.st ak).len i2 rfl a3 rfl ao) (Q_pu (P_fa fa106_1 (ag.add (i2.toNat * 2)) ((ag.add (i2.toNat * 2)).add 1) rfl rfl) (Q_pu (P_ld ag9 cQ ((ag.add (i2.toNat * 2)).add 1) (vs ((nth a i2).Val)) rfl (a5 1 _ rfl)) (Q_mv (vi (k3 + 1)) rfl ?_)))
  obtain ⟨q2, a6, bq, H⟩ := H
  refine Q_call go43 [vi (k3 + 1)] rfl (vs q2) (fun w g => (F40.calls w (af.k0 g).ok (k3 + 1) _ a6).mono ?_) ?_
  ·rintro _ w ⟨r, rfl, rfl, g2, _⟩
   exact ⟨rfl, Gr.t0 g g2⟩
  refine Q_pu (P_scmp ((nth a i2).Val) q2 (((nth a i2).Val) != q2) rfl rfl rfl) (Q_nil fun br ap => ?_)
  have aq := af.k0 ap
  refine W_cond (((nth a i2).Val) != q2) rfl (fun al => ?_) (fun al => ?_)
  ·have H := ite_t H al
   exact W_seq (W_reg (L_as (vi (-1)) rfl (L_nil (W_ret ⟨[vi (-1)], ⟨_, rfl, rfl⟩, (-1), rfl, H, aq.gr.g0⟩))))
  have H := ite_f H al
  refine W_skip (W_reg (L_mv (vi (k3 + 1)) rfl ?_))
  obtain ⟨a7, H⟩ := H
  have a8 := a7 (len_le ai)
  refine L_pu (P_add (k3 + 1) 1 rfl rfl a8) (L_as (vi (k3 + 1 + 1)) rfl (L_nil (W_reg (L_mv (vi i2) rfl ?_))))
  obtain ⟨a9, H⟩ := H
  have ba : I64 (i2 + 1) := i64_succ (of_decide_eq_true ad) ai a9
  refine L_pu (P_add i2 1 rfl rfl ba) (L_as (vi (i2 + 1)) rfl (L_nil ?_))
  obtain ⟨bb, bc⟩ := H
  have bd := af.stn ap
  have be := ((aa.st ak).st bd)
  exact ⟨(k3 + 1 + 1, i2 + 1), bc, bb, (hasI rfl), aq, be⟩
 have H := ite_f H ad
 refine W_exit (xin_hit ?_)
 exact W_seq (W_reg (L_mv (vi k3) rfl (L_as (vi k3) rfl (L_nil (W_ret ⟨[vi k3], ⟨_, rfl, rfl⟩, k3, rfl, H, ac.gr.g0⟩)))))
end
section
open Go.RowKit
def F29.E (a : List Feat) (k : Int) (Q : Int → Prop) : Prop :=
 (∃ (I18 : Int → Int → Prop) (mu19 : Int → Int → Nat), I18 k 0 ∧ ∀ (k3 : Int) (i2 : Int), I18 k3 i2 → (if decide (i2 < (a.length : Int)) then ((0 : Int) ≤ i2 ∧ i2 < (a.length : Int)) ∧ (∃ q : Str, F40.E k3 (fun x => x = q) ∧ (Lim q) ∧ (if ((nth a i2).Id) != q then Q (-1) else ((a.length : Int) ≤ 9223372036854775807 → I64 (k3 + 1)) ∧ ((0 : Int) ≤ i2 ∧ i2 < (a.length : Int)) ∧ (if ((nth a i2).Shape.Kind) != (k3 + 1) then Q (-1) else ((a.length : Int) ≤ 9223372036854775807 → I64 (k3 + 1 + 1)) ∧ ((0 : Int) ≤ i2 ∧ i2 < (a.length : Int)) ∧ F60.E ((nth a i2).Shape.Pts) (k3 + 1 + 1) (fun r2 => (if decide (r2 < 0) then Q (-1) else ((0 : Int) ≤ i2 ∧ i2 < (a.length : Int)) ∧ F42.E ((nth a i2).Tags) r2 (fun r3 => (if decide (r3 < 0) then Q (-1) else (-9223372036854775808 ≤ i2) ∧ I18 r3 (i2 + 1) ∧ mu19 r3 (i2 + 1) < mu19 k3 i2))))))) else Q k3))
theorem F29.calls {O : Ob} (w0 : World) (hO : Ok w0 O) (a : List Feat) (A1 : Option Addr) (n2 c3 : Nat) (hp4 : Sl kFeat w0 (Fr O) (.slice A1 n2 c3) a) (k : Int) (Q : Int → Prop) (h : F29.E a k Q) :
  Ret Tryz.prog 15 [.slice A1 n2 c3, vi k] w0 (fun v w' => ∃ (r0 : Int), v = vi r0 ∧ Q r0 ∧ Gr w0 w' none) := by
 unfold F29.E at h
 have H := h
 clear h
 have hc0 := Ct.init hO
 refine Ret_enter Tryz.func15 rfl 52 rfl [.tmp 4] rfl rfl ?_
 refine W_seq (W_reg (L_as (vi 0) rfl (L_nil (W_seq (W_seq (W_reg (L_as (vi 0) rfl (L_nil ?_))))))))
 refine W_block ?_
 obtain ⟨a9, ba, al, H⟩ := H
 refine W_loop (α := Int × Int) (fun (sv__ : Int × Int) t af => match sv__ with | (k3, i2) => a9 k3 i2 ∧ Has t [(0, .slice A1 n2 c3), (1, vi k3), (5, vi i2)] ∧ Ct [] w0 af [] O ∧ Sl kFeat af (Fr ([] ++ O)) (.slice A1 n2 c3) a) (fun (sv__ : Int × Int) => match sv__ with | (k3, i2) => ba k3 i2) (k, 0) ⟨al, (hasI rfl), hc0, hp4⟩ ?_
 rintro ⟨k3, i2⟩ _ af ⟨al, bb, ag, aa⟩
 obtain ⟨b4, rfl⟩ := Has.ins bb
 have H := H k3 i2 al
 refine W_seq (W_seq (W_reg (L_mv (vi i2) rfl (L_mv (.slice A1 n2 c3) rfl ?_))))
 have am := aa.le
 refine L_pu (P_len Tryz.underlying26 A1 n2 c3 aa.len rfl) (L_pu (P_cmp i2 (a.length : Int) (decide (i2 < (a.length : Int))) rfl rfl rfl) (L_nil ?_))
 refine W_cond (decide (i2 < (a.length : Int))) rfl (fun ah => ?_) (fun ah => ?_)
 ·have H := ite_t H ah
  refine W_skip (W_seq (W_block (W_seq (W_seq (W_draw (fun x => Gr af x none) (by kernel_rfl) (by kernel_rfl) (Gr.drew _) ?_)))))
  refine Q_mv (.slice A1 n2 c3) rfl (Q_mv (vi i2) rfl ?_)
  obtain ⟨a1, H⟩ := H
  obtain ⟨ai, b5, bc, b6, bd, be⟩ := aa.get default (by decide) i2 a1
  obtain ⟨b7, b8, b9, ca, cb, cc, rfl, cd, ce, cf⟩ := kFeat.op bd
  refine Q_pu (P_ia Tryz.underlying26 se26 A1 ai n2 c3 aa.len i2 rfl bc rfl a1) (Q_pu (P_fa fa61_0 (ai.add (i2.toNat * 4)) ((ai.add (i2.toNat * 4)).add 0) rfl rfl) (Q_pu (P_ld ag9 cQ ((ai.add (i2.toNat * 4)).add 0) (vs ((nth a i2).Id)) rfl (be 0 _ rfl)) (Q_mv (vi k3) rfl ?_)))
  obtain ⟨q, bf, cg, H⟩ := H
  refine Q_call go43 [vi k3] rfl (vs q) (fun w g => (F40.calls w (ag.k0 g).ok k3 _ bf).mono ?_) ?_
  ·rintro _ w ⟨r, rfl, rfl, g2, _⟩
   exact ⟨rfl, Gr.t0 g g2⟩
  refine Q_pu (P_scmp ((nth a i2).Id) q (((nth a i2).Id) != q) rfl rfl rfl) (Q_nil fun an a2 => ?_)
  have ad := ag.k0 a2
  refine W_cond (((nth a i2).Id) != q) rfl (fun ao => ?_) (fun ao => ?_)
  ·have H := ite_t H ao
   exact W_seq (W_reg (L_as (vi (-1)) rfl (L_nil (W_ret ⟨[vi (-1)], ⟨_, rfl, rfl⟩, (-1), rfl, H, ad.gr.g0⟩))))
  have H := ite_f H ao
  refine W_skip (W_seq (W_reg (L_mv (vi k3) rfl ?_)))
  obtain ⟨bg, H⟩ := H
  have bh := bg (len_le am)
  refine L_pu (P_add k3 1 rfl rfl bh) (L_as (vi (k3 + 1)) rfl (L_nil (W_seq (W_seq (W_reg (L_mv (.slice A1 n2 c3) rfl (L_mv (vi i2) rfl ?_)))))))
  obtain ⟨a3, H⟩ := H
  have ae := ag.stn a2
  obtain ⟨ab, ch, bi, ci, bj, bl⟩ := (aa.st ae).get default (by decide) i2 a3
  obtain ⟨cj, ck, cl, cm, cn, co, rfl, cp, cq, cr⟩ := kFeat.op bj
  refine L_pu (P_ia Tryz.underlying26 se26 A1 ab n2 c3 (aa.st ae).len i2 rfl bi rfl a3) (L_pu (P_fa fa61_1 (ab.add (i2.toNat * 4)) ((ab.add (i2.toNat * 4)).add 1) rfl rfl) (L_pu (P_fa fa58_0 ((ab.add (i2.toNat * 4)).add 1) (((ab.add (i2.toNat * 4)).add 1).add 0) rfl rfl) (L_pu (P_ld ag3 cL (((ab.add (i2.toNat * 4)).add 1).add 0) (vi ((nth a i2).Shape.Kind)) rfl ((congrArg an.cell? (add_add _ _ _)).trans (bl 1 _ rfl))) (L_mv (vi (k3 + 1)) rfl (L_pu (P_cmp ((nth a i2).Shape.Kind) (k3 + 1) (((nth a i2).Shape.Kind) != (k3 + 1)) rfl rfl rfl) (L_nil ?_))))))
  refine W_cond (((nth a i2).Shape.Kind) != (k3 + 1)) rfl (fun ap => ?_) (fun ap => ?_)
  ·have H := ite_t H ap
   exact W_seq (W_reg (L_as (vi (-1)) rfl (L_nil (W_ret ⟨[vi (-1)], ⟨_, rfl, rfl⟩, (-1), rfl, H, ad.gr.g0⟩))))
  have H := ite_f H ap
  refine W_skip (W_seq (W_reg (L_mv (vi (k3 + 1)) rfl ?_)))
  obtain ⟨bm, H⟩ := H
  have bn := bm (len_le am)
  refine L_pu (P_add (k3 + 1) 1 rfl rfl bn) (L_as (vi (k3 + 1 + 1)) rfl (L_nil (W_seq (W_reg (L_mv (.slice A1 n2 c3) rfl (L_mv (vi i2) rfl ?_))))))
  obtain ⟨a4, H⟩ := H
  obtain ⟨ac, cs, bo, ct, bp, bq⟩ := (aa.st ae).get default (by decide) i2 a4
  obtain ⟨aq, ar, au, cu, cv, cw, rfl, cx, br, cy⟩ := kFeat.op bp
  refine L_pu (P_ia Tryz.underlying26 se26 A1 ac n2 c3 (aa.st ae).len i2 rfl bo rfl a4) (L_pu (P_fa fa61_1 (ac.add (i2.toNat * 4)) ((ac.add (i2.toNat * 4)).add 1) rfl rfl) (L_pu (P_fa fa58_1 ((ac.add (i2.toNat * 4)).add 1) (((ac.add (i2.toNat * 4)).add 1).add 1) rfl rfl) (L_pu (P_ld ag56 cL (((ac.add (i2.toNat * 4)).add 1).add 1) (.slice aq ar au) rfl ((congrArg an.cell? (add_add _ _ _)).trans (bq 2 _ rfl))) (L_mv (vi (k3 + 1 + 1)) rfl ?_))))
  refine L_call go46 [.slice aq ar au, vi (k3 + 1 + 1)] rfl ((F60.calls an ad.ok ((nth a i2).Shape.Pts) aq ar au br (k3 + 1 + 1) _ H).mono ?_)
  rintro _ bs ⟨r2, rfl, H, a5⟩
  have aj := ad.k0 a5
  refine L_as (vi r2) rfl (L_nil (W_seq (W_seq (W_reg (L_mv (vi r2) rfl (L_pu (P_cmp r2 0 (decide (r2 < 0)) rfl rfl rfl) (L_nil ?_)))))))
  refine W_cond (decide (r2 < 0)) rfl (fun av => ?_) (fun av => ?_)
  ·have H := ite_t H av
   exact W_seq (W_reg (L_as (vi (-1)) rfl (L_nil (W_ret ⟨[vi (-1)], ⟨_, rfl, rfl⟩, (-1), rfl, H, aj.gr.g0⟩))))
  have H := ite_f H av
  refine W_skip (W_seq (W_reg (L_mv (.slice A1 n2 c3) rfl (L_mv (vi i2) rfl ?_))))
  obtain ⟨a6, H⟩ := H
  have bt := ad.stn a5
  have aw := ((aa.st ae).st bt)
  obtain ⟨ak, cz, bu, c0, bv, bw⟩ := aw.get default (by decide) i2 a6
  obtain ⟨c1, c2, c4, ax, ay, az, rfl, c5, c6, bx⟩ := kFeat.op bv
  refine L_pu (P_ia Tryz.underlying26 se26 A1 ak n2 c3 aw.len i2 rfl bu rfl a6) (L_pu (P_fa fa61_2 (ak.add (i2.toNat * 4)) ((ak.add (i2.toNat * 4)).add 3) rfl rfl) (L_pu (P_ld ag59 cL ((ak.add (i2.toNat * 4)).add 3) (.slice ax ay az) rfl (bw 3 _ rfl)) (L_mv (vi r2) rfl ?_)))
  refine L_call go47 [.slice ax ay az, vi r2] rfl ((F42.calls bs aj.ok ((nth a i2).Tags) ax ay az bx r2 _ H).mono ?_)
  rintro _ c7 ⟨r3, rfl, H, a7⟩
  have a8 := aj.k0 a7
  refine L_as (vi r3) rfl (L_nil (W_seq (W_reg (L_mv (vi r3) rfl (L_pu (P_cmp r3 0 (decide (r3 < 0)) rfl rfl rfl) (L_nil ?_))))))
  refine W_cond (decide (r3 < 0)) rfl (fun a0 => ?_) (fun a0 => ?_)
  ·have H := ite_t H a0
   exact W_seq (W_reg (L_as (vi (-1)) rfl (L_nil (W_ret ⟨[vi (-1)], ⟨_, rfl, rfl⟩, (-1), rfl, H, a8.gr.g0⟩))))
  have H := ite_f H a0
  refine W_skip (W_reg (L_mv (vi i2) rfl ?_))
  obtain ⟨bz, H⟩ := H
  have b0 : I64 (i2 + 1) := i64_succ (of_decide_eq_true ah) am bz
  refine L_pu (P_add i2 1 rfl rfl b0) (L_as (vi (i2 + 1)) rfl (L_nil ?_))
  obtain ⟨b1, b2⟩ := H
  have b3 := aj.stn a7
  exact ⟨(r3, i2 + 1), b2, b1, (hasI rfl), a8, (aw.st b3)⟩
 have H := ite_f H ah
 refine W_exit (xin_hit ?_)
 exact W_seq (W_reg (L_mv (vi k3) rfl (L_as (vi k3) rfl (L_nil (W_ret ⟨[vi k3], ⟨_, rfl, rfl⟩, k3, rfl, H, ag.gr.g0⟩)))))
end
section
open Go.RowKit
def laws_FnExactDiffDo.E (aS : List Feat) (aD : List Change) (Q : Bool → Prop) : Prop :=
 F50.E aS 1048576 (fun r => (if decide (r < 0) then Q true else F22.E aD r (fun r2 => (if decide (r2 < 0) then Q true else F52.E aS (fun r3 => F23.E aD (fun r4 => F84.E r3 r4 (fun r5 r6 => F52.E aS (fun r7 => F23.E aD (fun r8 => F92.E r7 r8 (fun r9 r10 => F58.E r9 r5 (fun r11 => (if !r11 then Q false else (if r10 != r6 then Q false else F52.E aS (fun r12 => F58.E r7 r12 (fun r13 => (if !r13 then Q false else F23.E aD (fun r14 => F27.E r8 r14 (fun r15 => (if !r15 then Q false else F28.E r7 1 (fun r16 m => F13.E r8 r16 (fun r17 m2 => (if decide (r17 < 0) then Q false else F58.E r9 r5 (fun r18 => (if !r18 then Q false else F28.E r9 1 (fun r19 m3 => F29.E m3 1 (fun r20 => (if decide (r20 < 0) then Q false else (if r20 != r19 then Q false else F52.E aS (fun r21 => F23.E aD (fun r22 => F92.E r21 r22 (fun r23 r24 => F58.E r23 r5 (fun r25 => (if !r25 then Q false else (if r24 != r6 then Q false else F29.E m3 1 (fun r26 => (if decide (r26 < 0) then Q false else (if r26 != r19 then Q false else Q true)))))))))))))))))))))))))))))))))))))
theorem laws_FnExactDiffDo.calls {O : Ob} (w0 : World) (hO : Ok w0 O) (aS : List Feat) (A1 : Option Addr) (n2 c3 : Nat) (hp4 : Sl kFeat w0 (Fr O) (.slice A1 n2 c3) aS) (aD : List Change) (A6 : Option Addr) (n7 c8 : Nat) (hp9 : Sl kChange w0 (Fr O) (.slice A6 n7 c8) aD) (Q : Bool → Prop) (h : laws_FnExactDiffDo.E aS aD Q) :
  Ret Tryz.prog 3 [.slice A1 n2 c3, .slice A6 n7 c8] w0 (fun v w' => ∃ (r0 : Bool), v = vb r0 ∧ Q r0 ∧ Gr w0 w' none) := by
 unfold laws_FnExactDiffDo.E at h
 have H := h
 clear h
 have hc0 := Ct.init hO
 refine Ret_enter Tryz.func3 rfl 119 rfl [.tmp 4] rfl rfl ?_
 refine W_seq (W_reg (L_as (vb false) rfl (L_nil (W_seq (W_reg (L_as (vi 1048576) rfl (L_nil (W_seq ?_))))))))
 refine W_reg (L_mv (.slice A1 n2 c3) rfl (L_mv (vi 1048576) rfl ?_))
 refine L_call go5 [.slice A1 n2 c3, vi 1048576] rfl ((F50.calls w0 hc0.ok aS A1 n2 c3 hp4 1048576 _ H).mono ?_)
 rintro _ eu ⟨r, rfl, H, ev⟩
 have cd := hc0.k0 ev
 refine L_as (vi r) rfl (L_nil (W_seq (W_seq (W_reg (L_mv (vi r) rfl (L_pu (P_cmp r 0 (decide (r < 0)) rfl rfl rfl) (L_nil ?_)))))))
 refine W_cond (decide (r < 0)) rfl (fun cz => ?_) (fun cz => ?_)
 ·have H := ite_t H cz
  exact W_seq (W_reg (L_as (vb true) rfl (L_nil (W_ret ⟨[vb true], ⟨_, rfl, rfl⟩, true, rfl, H, cd.gr.g0⟩))))
 have H := ite_f H cz
 refine W_skip (W_seq (W_reg (L_mv (.slice A6 n7 c8) rfl (L_mv (vi r) rfl ?_))))
 refine L_call go6 [.slice A6 n7 c8, vi r] rfl ((F22.calls eu cd.ok aD A6 n7 c8 (hp9.st cd.st) r _ H).mono ?_)
 rintro _ ew ⟨r2, rfl, H, ex⟩
 have ce := cd.k0 ex
 refine L_as (vi r2) rfl (L_nil (W_seq (W_seq (W_reg (L_mv (vi r2) rfl (L_pu (P_cmp r2 0 (decide (r2 < 0)) rfl rfl rfl) (L_nil ?_)))))))
 refine W_cond (decide (r2 < 0)) rfl (fun c0 => ?_) (fun c0 => ?_)
 ·have H := ite_t H c0
  exact W_seq (W_reg (L_as (vb true) rfl (L_nil (W_ret ⟨[vb true], ⟨_, rfl, rfl⟩, true, rfl, H, ce.gr.g0⟩))))
 have H := ite_f H c0
 refine W_skip (W_seq (W_reg (L_mv (.slice A1 n2 c3) rfl ?_)))
 refine L_call go8 [.slice A1 n2 c3] rfl ((F52.calls ew ce.ok aS A1 n2 c3 (hp4.st ce.st) _ H).mono ?_)
 rintro _ ey ⟨r3, a8, c1, c2, bw, jp, rfl, H, ez, e0, e1, e2, e3⟩
 have ed := ce.owns ez e0 e1
 have ee : (((bk a8 :: (bw ++ [])) ++ []) : Ob).Perm (bk a8 :: (bw ++ [])) := (pc fun a => by (try simp only [pca, pcc, pcn, Nat.add_zero, Nat.zero_add]); first | done | ac_rfl)
 have c4 := ed.perm ee
 refine L_mv (.slice A6 n7 c8) rfl ?_
 refine L_call go9 [.slice A6 n7 c8] rfl ((F23.calls ey c4.ok aD A6 n7 c8 (hp9.st c4.st) _ H).mono ?_)
 rintro _ e4 ⟨r4, a9, c5, c6, bx, jq, rfl, H, c7, e5, ef, e6, e7⟩
 have c9 := c4.owns c7 e5 ef
 have da : (((bk a9 :: (bx ++ [])) ++ (bk a8 :: (bw ++ []))) : Ob).Perm (bk a9 :: bk a8 :: (bx ++ (bw ++ []))) := (pc fun a => by (try simp only [pca, pcc, pcn, Nat.add_zero, Nat.zero_add]); first | done | ac_rfl)
 have eg := c9.perm da
 have e8 := (c9.spa ((ed.spa e2 ee).sos c7 ef) da)
 have e9 := (e3.k0 c7)
 have eh : ((bk a9 :: bk a8 :: (bx ++ (bw ++ []))) : Ob).Perm (bk a8 :: (bw ++ (bk a9 :: (bx ++ [])))) := (pc fun a => by (try simp only [pca, pcc, pcn, Nat.add_zero, Nat.zero_add]); first | done | ac_rfl)
 obtain ⟨fa, fb, jr⟩ := Dp.gv (L := (bk a9 :: bk a8 :: (bx ++ (bw ++ [])))) (O := O) (v := .slice a8 c1 c2) e8 e9 eg eh
 have fc := (eg.odr (rs := bk a8 :: bw) (c9.spa e6 da) eh 0 rfl)
 have fd := e7
 have fe : ((bk a9 :: (bx ++ [])) : Ob).Perm (bk a9 :: (bx ++ [])) := (pc fun a => by (try simp only [pca, pcc, pcn, Nat.add_zero, Nat.zero_add]); first | done | ac_rfl)
 obtain ⟨ff, ei, fg⟩ := Dp.gv (L := (bk a9 :: (bx ++ []))) (O := O) (v := .slice a9 c5 c6) fc fd fb fe
 refine L_call go7 [.slice a8 c1 c2, .slice a9 c5 c6] rfl ((F84.calls e4 ei.ok r3 a8 c1 c2 (fa.st fg) r4 a9 c5 c6 ff _ H).mono ?_)
 rintro _ fh ⟨r5, r6, aa, au, av, rfl, H, fi, fj, fk, db⟩
 have dc := ei.owns fi fj fk
 refine L_mv (.tuple #[.slice aa au av, vb r6]) rfl (L_pu (P_ext [.slice aa au av, vb r6] 0 (.slice aa au av) rfl rfl) (L_pu (P_ext [.slice aa au av, vb r6] 1 (vb r6) rfl rfl) (L_as (.slice aa au av) rfl (L_as (vb r6) rfl (L_nil (W_seq (W_reg (L_mv (.slice A1 n2 c3) rfl ?_))))))))
 refine L_call go8 [.slice A1 n2 c3] rfl ((F52.calls fh dc.ok aS A1 n2 c3 (hp4.st dc.st) _ H).mono ?_)
 rintro _ fl ⟨r7, af, a3, a4, ag, fm, rfl, H, cf, fn, cg, dd, de⟩
 have b0 := dc.owns cf fn cg
 have b1 : (((bk af :: (ag ++ [])) ++ [bk aa]) : Ob).Perm (bk af :: bk aa :: (ag ++ [])) := (pc fun a => by (try simp only [pca, pcc, pcn, Nat.add_zero, Nat.zero_add]); first | done | ac_rfl)
 have df := b0.perm b1
 refine L_as (.slice af a3 a4) rfl (L_nil (W_seq (W_reg (L_mv (.slice A6 n7 c8) rfl ?_))))
 refine L_call go9 [.slice A6 n7 c8] rfl ((F23.calls fl df.ok aD A6 n7 c8 (hp9.st df.st) _ H).mono ?_)
 rintro _ fo ⟨r8, ac, a5, a6, ae, fp, rfl, H, bh, fq, b2, dg, dh⟩
 have bi := df.owns bh fq b2
 have bj : (((bk ac :: (ae ++ [])) ++ (bk af :: bk aa :: (ag ++ []))) : Ob).Perm (bk ac :: bk af :: bk aa :: (ae ++ (ag ++ []))) := (pc fun a => by (try simp only [pca, pcc, pcn, Nat.add_zero, Nat.zero_add]); first | done | ac_rfl)
 have ch := bi.perm bj
 refine L_as (.slice ac a5 a6) rfl (L_nil (W_seq (W_reg (L_mv (.slice af a3 a4) rfl (L_mv (.slice ac a5 a6) rfl ?_)))))
 have fr := (bi.spa ((b0.spa dd b1).sos bh b2) bj)
 have fs := (de.k0 bh)
 have ej : ((bk ac :: bk af :: bk aa :: (ae ++ (ag ++ []))) : Ob).Perm (bk af :: (ag ++ (bk ac :: bk aa :: (ae ++ [])))) := (pc fun a => by (try simp only [pca, pcc, pcn, Nat.add_zero, Nat.zero_add]); first | done | ac_rfl)
 obtain ⟨ft, fu, js⟩ := Dp.gv (L := (bk ac :: bk af :: bk aa :: (ae ++ (ag ++ [])))) (O := O) (v := .slice af a3 a4) fr fs ch ej
 have fv := (ch.odr (rs := bk af :: ag) (bi.spa dg bj) ej 0 rfl)
 have fw := dh
 have fx : ((bk ac :: bk aa :: (ae ++ [])) : Ob).Perm (bk ac :: (ae ++ [bk aa])) := (pc fun a => by (try simp only [pca, pcc, pcn, Nat.add_zero, Nat.zero_add]); first | done | ac_rfl)
 obtain ⟨fy, fz, f0⟩ := Dp.gv (L := (bk ac :: bk aa :: (ae ++ []))) (O := O) (v := .slice ac a5 a6) fv fw fu fx
 refine L_call go10 [.slice af a3 a4, .slice ac a5 a6] rfl ((F92.calls fo fz.ok r7 af a3 a4 (ft.st f0) r8 ac a5 a6 fy _ H).mono ?_)
 rintro _ f1 ⟨r9, r10, ab, aj, ak, ad, f2, rfl, H, az, f3, bn, f4, di⟩
 have f5 := Ok.unl (L := (bk ac :: bk af :: bk aa :: (ae ++ (ag ++ [])))) (L' := [bk aa]) (O := O) ch az f3 bn
 have dk := Ow.unl (L := (bk ac :: bk af :: bk aa :: (ae ++ (ag ++ [])))) (L' := [bk aa]) (O := O) (fun _ _ _ _ _ _ h => h) (.cons _ (.cons _ (.cons_cons _ ((List.sublist_append_of_sublist_right (List.sublist_append_of_sublist_right (.refl _))))))) f4
 have ba := ch.owns az f5 bn
 have bb : (((bk ab :: (ad ++ [])) ++ (bk ac :: bk af :: bk aa :: (ae ++ (ag ++ [])))) : Ob).Perm (bk ab :: bk ac :: bk af :: bk aa :: (ad ++ (ae ++ (ag ++ [])))) := (pc fun a => by (try simp only [pca, pcc, pcn, Nat.add_zero, Nat.zero_add]); first | done | ac_rfl)
 have dl := ba.perm bb
 refine L_mv (.tuple #[.slice ab aj ak, vb r10]) rfl (L_pu (P_ext [.slice ab aj ak, vb r10] 0 (.slice ab aj ak) rfl rfl) (L_pu (P_ext [.slice ab aj ak, vb r10] 1 (vb r10) rfl rfl) (L_as (.slice ab aj ak) rfl (L_as (vb r10) rfl (L_nil (W_seq (W_seq (W_reg ?_))))))))
 refine L_mv (.slice ab aj ak) rfl (L_mv (.slice aa au av) rfl ?_)
 have f6 := (ba.spa dk bb)
 have f7 := di
 have ek : ((bk ab :: bk ac :: bk af :: bk aa :: (ad ++ (ae ++ (ag ++ [])))) : Ob).Perm (bk ab :: (ad ++ (bk ac :: bk af :: bk aa :: (ae ++ (ag ++ []))))) := (pc fun a => by (try simp only [pca, pcc, pcn, Nat.add_zero, Nat.zero_add]); first | done | ac_rfl)
 obtain ⟨f8, dn, jt⟩ := Dp.gv (L := (bk ab :: bk ac :: bk af :: bk aa :: (ad ++ (ae ++ (ag ++ []))))) (O := O) (v := .slice ab aj ak) f6 f7 dl ek
 have f9 := (dl.odr (rs := bk ab :: ad) (ba.spa ((bi.spa ((b0.spa (db.sos cf cg) b1).sos bh b2) bj).sos az bn) bb) ek 2 rfl)
 have ga := dn.gv f9 2 rfl
 have gb := dn.drop 2 rfl
 have gc := dn.std 2 rfl
 refine L_call go11 [.slice ab aj ak, .slice aa au av] rfl ((F58.calls f1 gb.ok r9 ab aj ak (f8.st gc) r5 aa au av ga _ H).mono ?_)
 rintro _ gd ⟨r11, rfl, H, aq⟩
 have b7 := dl.k0 aq
 refine L_pu (P_not r11 rfl) (L_mv (vb (!r11)) rfl ?_)
 rcases bool_or (!r11) with bc | bc
 ·have H := ite_t H bc
  refine L_pb bc rfl (L_pb bc rfl (L_pb bc rfl (L_pu (P_pick true (vb true) (by exact congrArg Value.bool bc) rfl) (L_nil (W_ct (b := true) rfl rfl ?_)))))
  refine W_seq ?_
  have ge : ((bk ab :: bk ac :: bk af :: bk aa :: (ad ++ (ae ++ (ag ++ [])))) : Ob).Perm ((bk ab :: bk ac :: bk af :: bk aa :: (ad ++ (ae ++ (ag ++ [])))) ++ []) := (pc fun a => by (try simp only [pca, pcc, pcn, Nat.add_zero, Nat.zero_add]); first | done | ac_rfl)
  have gf := b7.drops ge
  exact W_reg (L_as (vb false) rfl (L_nil (W_ret ⟨[vb false], ⟨_, rfl, rfl⟩, false, rfl, H, gf.gr.g0⟩)))
 have H := ite_f H bc
 refine L_rb bc rfl (L_mv (vb r10) rfl (L_rb bc rfl (L_mv (vb r6) rfl (L_rb bc rfl (L_pu (P_bcmp Tryz.underlying4 r10 r6 (r10 != r6) rfl rfl rfl) (L_pu (P_pick false (vb (r10 != r6)) (by exact congrArg Value.bool bc) rfl) (L_nil ?_)))))))
 refine W_cond (r10 != r6) rfl (fun ci => ?_) (fun ci => ?_)
 ·have H := ite_t H ci
  refine W_seq ?_
  have gg : ((bk ab :: bk ac :: bk af :: bk aa :: (ad ++ (ae ++ (ag ++ [])))) : Ob).Perm ((bk ab :: bk ac :: bk af :: bk aa :: (ad ++ (ae ++ (ag ++ [])))) ++ []) := (pc fun a => by (try simp only [pca, pcc, pcn, Nat.add_zero, Nat.zero_add]); first | done | ac_rfl)
  have gh := b7.drops gg
  exact W_reg (L_as (vb false) rfl (L_nil (W_ret ⟨[vb false], ⟨_, rfl, rfl⟩, false, rfl, H, gh.gr.g0⟩)))
 have H := ite_f H ci
 refine W_skip (W_seq (W_seq (W_reg (L_mv (.slice af a3 a4) rfl (L_mv (.slice A1 n2 c3) rfl ?_)))))
 refine L_call go8 [.slice A1 n2 c3] rfl ((F52.calls gd b7.ok aS A1 n2 c3 (hp4.st b7.st) _ H).mono ?_)
 rintro _ gi ⟨r12, ah, dp, dq, al, ju, rfl, H, ar, gj, bo, gk, gl⟩
 have bl := b7.owns ar gj bo
 have bm : (((bk ah :: (al ++ [])) ++ (bk ab :: bk ac :: bk af :: bk aa :: (ad ++ (ae ++ (ag ++ []))))) : Ob).Perm (bk ah :: bk ab :: bk ac :: bk af :: bk aa :: (al ++ (ad ++ (ae ++ (ag ++ []))))) := (pc fun a => by (try simp only [pca, pcc, pcn, Nat.add_zero, Nat.zero_add]); first | done | ac_rfl)
 have dr := bl.perm bm
 have gm := (bl.spa (((ba.spa ((bi.spa ((b0.spa dd b1).sos bh b2) bj).sos az bn) bb).sn aq).sos ar bo) bm)
 have gn := ((((de.k0 bh).k0 az).k0 aq).k0 ar)
 have el : ((bk ah :: bk ab :: bk ac :: bk af :: bk aa :: (al ++ (ad ++ (ae ++ (ag ++ []))))) : Ob).Perm (bk af :: (ag ++ (bk ah :: bk ab :: bk ac :: bk aa :: (al ++ (ad ++ (ae ++ [])))))) := (pc fun a => by (try simp only [pca, pcc, pcn, Nat.add_zero, Nat.zero_add]); first | done | ac_rfl)
 obtain ⟨gp, gq, jv⟩ := Dp.gv (L := (bk ah :: bk ab :: bk ac :: bk af :: bk aa :: (al ++ (ad ++ (ae ++ (ag ++ [])))))) (O := O) (v := .slice af a3 a4) gm gn dr el
 have gs := (dr.odr (rs := bk af :: ag) (bl.spa gk bm) el 0 rfl)
 have gt := gl
 have gu : ((bk ah :: bk ab :: bk ac :: bk aa :: (al ++ (ad ++ (ae ++ [])))) : Ob).Perm (bk ah :: (al ++ (bk ab :: bk ac :: bk aa :: (ad ++ (ae ++ []))))) := (pc fun a => by (try simp only [pca, pcc, pcn, Nat.add_zero, Nat.zero_add]); first | done | ac_rfl)
 obtain ⟨gw, gx, gy⟩ := Dp.gv (L := (bk ah :: bk ab :: bk ac :: bk aa :: (al ++ (ad ++ (ae ++ []))))) (O := O) (v := .slice ah dp dq) gs gt gq gu
 refine L_call go11 [.slice af a3 a4, .slice ah dp dq] rfl ((F58.calls gi gx.ok r7 af a3 a4 (gp.st gy) r12 ah dp dq gw _ H).mono ?_)
 rintro _ gz ⟨r13, rfl, H, a0⟩
 have cj := dr.k0 a0
 refine L_pu (P_not r13 rfl) (L_nil ?_)
 refine W_cond (!r13) rfl (fun ds => ?_) (fun ds => ?_)
 ·have H := ite_t H ds
  refine W_seq ?_
  have g1 : ((bk ah :: bk ab :: bk ac :: bk af :: bk aa :: (al ++ (ad ++ (ae ++ (ag ++ []))))) : Ob).Perm ((bk ah :: bk ab :: bk ac :: bk af :: bk aa :: (al ++ (ad ++ (ae ++ (ag ++ []))))) ++ []) := (pc fun a => by (try simp only [pca, pcc, pcn, Nat.add_zero, Nat.zero_add]); first | done | ac_rfl)
  have g2 := cj.drops g1
  exact W_reg (L_as (vb false) rfl (L_nil (W_ret ⟨[vb false], ⟨_, rfl, rfl⟩, false, rfl, H, g2.gr.g0⟩)))
 have H := ite_f H ds
 refine W_skip (W_seq (W_seq (W_reg (L_mv (.slice ac a5 a6) rfl (L_mv (.slice A6 n7 c8) rfl ?_)))))
 refine L_call go9 [.slice A6 n7 c8] rfl ((F23.calls gz cj.ok aD A6 n7 c8 (hp9.st cj.st) _ H).mono ?_)
 rintro _ g3 ⟨r14, am, dt, du, aw, jw, rfl, H, a1, g4, bz, g5, g6⟩
 have bp := cj.owns a1 g4 bz
 have bq : (((bk am :: (aw ++ [])) ++ (bk ah :: bk ab :: bk ac :: bk af :: bk aa :: (al ++ (ad ++ (ae ++ (ag ++ [])))))) : Ob).Perm (bk am :: bk ah :: bk ab :: bk ac :: bk af :: bk aa :: (aw ++ (al ++ (ad ++ (ae ++ (ag ++ [])))))) := (pc fun a => by (try simp only [pca, pcc, pcn, Nat.add_zero, Nat.zero_add]); first | done | ac_rfl)
 have dv := bp.perm bq
 have g7 := (bp.spa (((bl.spa (((ba.spa ((bi.spa dg bj).sos az bn) bb).sn aq).sos ar bo) bm).sn a0).sos a1 bz) bq)
 have g8 := (((((dh.k0 az).k0 aq).k0 ar).k0 a0).k0 a1)
 have em : ((bk am :: bk ah :: bk ab :: bk ac :: bk af :: bk aa :: (aw ++ (al ++ (ad ++ (ae ++ (ag ++ [])))))) : Ob).Perm (bk ac :: (ae ++ (bk am :: bk ah :: bk ab :: bk af :: bk aa :: (aw ++ (al ++ (ad ++ (ag ++ []))))))) := (pc fun a => by (try simp only [pca, pcc, pcn, Nat.add_zero, Nat.zero_add]); first | done | ac_rfl)
 obtain ⟨g9, ha, jx⟩ := Dp.gv (L := (bk am :: bk ah :: bk ab :: bk ac :: bk af :: bk aa :: (aw ++ (al ++ (ad ++ (ae ++ (ag ++ []))))))) (O := O) (v := .slice ac a5 a6) g7 g8 dv em
 have hc := (dv.odr (rs := bk ac :: ae) (bp.spa g5 bq) em 0 rfl)
 have hd := g6
 have he : ((bk am :: bk ah :: bk ab :: bk af :: bk aa :: (aw ++ (al ++ (ad ++ (ag ++ []))))) : Ob).Perm (bk am :: (aw ++ (bk ah :: bk ab :: bk af :: bk aa :: (al ++ (ad ++ (ag ++ [])))))) := (pc fun a => by (try simp only [pca, pcc, pcn, Nat.add_zero, Nat.zero_add]); first | done | ac_rfl)
 obtain ⟨hf, hg, hh⟩ := Dp.gv (L := (bk am :: bk ah :: bk ab :: bk af :: bk aa :: (aw ++ (al ++ (ad ++ (ag ++ [])))))) (O := O) (v := .slice am dt du) hc hd ha he
 refine L_call go12 [.slice ac a5 a6, .slice am dt du] rfl ((F27.calls g3 hg.ok r8 ac a5 a6 (g9.st hh) r14 am dt du hf _ H).mono ?_)
 rintro _ hi ⟨r15, rfl, H, bd⟩
 have a7 := dv.k0 bd
 refine L_pu (P_not r15 rfl) (L_nil ?_)
 refine W_cond (!r15) rfl (fun dw => ?_) (fun dw => ?_)
 ·have H := ite_t H dw
  refine W_seq ?_
  have hj : ((bk am :: bk ah :: bk ab :: bk ac :: bk af :: bk aa :: (aw ++ (al ++ (ad ++ (ae ++ (ag ++ [])))))) : Ob).Perm ((bk am :: bk ah :: bk ab :: bk ac :: bk af :: bk aa :: (aw ++ (al ++ (ad ++ (ae ++ (ag ++ [])))))) ++ []) := (pc fun a => by (try simp only [pca, pcc, pcn, Nat.add_zero, Nat.zero_add]); first | done | ac_rfl)
  have hk := a7.drops hj
  exact W_reg (L_as (vb false) rfl (L_nil (W_ret ⟨[vb false], ⟨_, rfl, rfl⟩, false, rfl, H, hk.gr.g0⟩)))
 have H := ite_f H dw
 refine W_skip (W_seq (W_reg (L_as (vi 1) rfl (L_nil (W_seq (W_reg (L_mv (.slice af a3 a4) rfl (L_mv (vi 1) rfl ?_))))))))
 have hl := ((bp.spa (((bl.spa (((ba.spa ((bi.spa ((b0.spa dd b1).sos bh b2) bj).sos az bn) bb).sn aq).sos ar bo) bm).sn a0).sos a1 bz) bq).sn bd)
 have hm := (((((((de.k0 bh).k0 az).k0 aq).k0 ar).k0 a0).k0 a1).k0 bd)
 have be : ((bk am :: bk ah :: bk ab :: bk ac :: bk af :: bk aa :: (aw ++ (al ++ (ad ++ (ae ++ (ag ++ [])))))) : Ob).Perm ((bk af :: (ag ++ [])) ++ (bk am :: bk ah :: bk ab :: bk ac :: bk aa :: (aw ++ (al ++ (ad ++ (ae ++ [])))))) := (pc fun a => by (try simp only [pca, pcc, pcn, Nat.add_zero, Nat.zero_add]); first | done | ac_rfl)
 refine L_call go13 [.slice af a3 a4, vi 1] rfl ((F28.calls hi a7.ok r7 af a3 a4 fm ag hl hm (Dj.left (Dj.left (a7.perm be).dj)) (fun b hb => List.mem_append_left _ (be.mem_iff.2 (List.mem_append_left _ hb))) 1 _ H).mono ?_)
 rintro _ hn ⟨r16, m, jy, rfl, H, br, jz, j0⟩
 have b4 := a7.dm br (fun b hb => be.mem_iff.2 (List.mem_append_left _ hb))
 refine L_as (vi r16) rfl (L_nil (W_seq ?_))
 have b5 : ((bk am :: bk ah :: bk ab :: bk ac :: bk af :: bk aa :: (aw ++ (al ++ (ad ++ (ae ++ (ag ++ [])))))) : Ob).Perm ((bk am :: bk ah :: bk af :: (aw ++ (al ++ (ag ++ [])))) ++ (bk ab :: bk ac :: bk aa :: (ad ++ (ae ++ [])))) := (pc fun a => by (try simp only [pca, pcc, pcn, Nat.add_zero, Nat.zero_add]); first | done | ac_rfl)
 have bs := b4.drops b5
 refine W_reg (L_mv (.slice ac a5 a6) rfl (L_mv (vi r16) rfl ?_))
 have ho := (b4.odr (a7.ogm ((bp.spa (((bl.spa (((ba.spa ((bi.spa dg bj).sos az bn) bb).sn aq).sos ar bo) bm).sn a0).sos a1 bz) bq).sn bd) br be 3 rfl) b5 1 rfl)
 have hp := (a7.dgm ((((((dh.k0 az).k0 aq).k0 ar).k0 a0).k0 a1).k0 bd) br be fun b hb => (mcm (mcm (mcm (mcm (mcm (List.mem_append_right _ (List.mem_append_right _ (List.mem_append_right _ (List.mem_append_left _ hb))))))))))
 have bt : ((bk ab :: bk ac :: bk aa :: (ad ++ (ae ++ []))) : Ob).Perm ((bk ac :: (ae ++ [])) ++ (bk ab :: bk aa :: (ad ++ []))) := (pc fun a => by (try simp only [pca, pcc, pcn, Nat.add_zero, Nat.zero_add]); first | done | ac_rfl)
 refine L_call go14 [.slice ac a5 a6, vi r16] rfl ((F13.calls hn bs.ok r8 ac a5 a6 fp ae ho hp (Dj.left (Dj.left (bs.perm bt).dj)) (fun b hb => List.mem_append_left _ (bt.mem_iff.2 (List.mem_append_left _ hb))) r16 _ H).mono ?_)
 rintro _ hq ⟨r17, m2, j1, rfl, H, b3, j2, j3⟩
 have ck := bs.dm b3 (fun b hb => bt.mem_iff.2 (List.mem_append_left _ hb))
 refine L_as (vi r17) rfl (L_nil (W_seq (W_seq (W_reg (L_mv (vi r17) rfl (L_pu (P_cmp r17 0 (decide (r17 < 0)) rfl rfl rfl) (L_mv (vb (decide (r17 < 0))) rfl ?_)))))))
 rcases bool_or (decide (r17 < 0)) with a2 | a2
 ·have H := ite_t H a2
  refine L_pb a2 rfl (L_pb a2 rfl (L_pb a2 rfl (L_pb a2 rfl (L_pu (P_pick true (vb true) (by exact congrArg Value.bool a2) rfl) (L_mv (vb true) rfl (L_pass (dj := 78) rfl rfl (.inl rfl) (L_pass (dj := 78) rfl rfl (.inl rfl) (L_pass (dj := 78) rfl rfl (.inl rfl) ?_))))))))
  refine L_pu (P_pick true (vb true) (by exact congrArg Value.bool rfl) rfl) (L_nil (W_ct (b := true) rfl rfl ?_))
  refine W_seq ?_
  have hr : ((bk ab :: bk ac :: bk aa :: (ad ++ (ae ++ []))) : Ob).Perm ((bk ab :: bk ac :: bk aa :: (ad ++ (ae ++ []))) ++ []) := (pc fun a => by (try simp only [pca, pcc, pcn, Nat.add_zero, Nat.zero_add]); first | done | ac_rfl)
  have hs := ck.drops hr
  exact W_reg (L_as (vb false) rfl (L_nil (W_ret ⟨[vb false], ⟨_, rfl, rfl⟩, false, rfl, H, hs.gr.g0⟩)))
 have H := ite_f H a2
 refine L_rb a2 rfl (L_mv (.slice ab aj ak) rfl (L_rb a2 rfl (L_mv (.slice aa au av) rfl (L_rb a2 rfl ?_))))
 have ht := (bs.ogm (b4.odr (a7.ogm ((bp.spa (((bl.spa (((ba.spa dk bb).sn aq).sos ar bo) bm).sn a0).sos a1 bz) bq).sn bd) br be 2 rfl) b5 0 rfl) b3 bt 0 rfl)
 have hu := (bs.dgm (a7.dgm (((((di.k0 aq).k0 ar).k0 a0).k0 a1).k0 bd) br be fun b hb => (mcm (mcm (mcm (mcm (mcm (List.mem_append_right _ (List.mem_append_right _ (List.mem_append_left _ hb))))))))) b3 bt fun b hb => (mcm (mcm (List.mem_append_left _ hb))))
 have en : ((bk ab :: bk ac :: bk aa :: (ad ++ (ae ++ []))) : Ob).Perm (bk ab :: (ad ++ (bk ac :: bk aa :: (ae ++ [])))) := (pc fun a => by (try simp only [pca, pcc, pcn, Nat.add_zero, Nat.zero_add]); first | done | ac_rfl)
 obtain ⟨hv, dx, j4⟩ := Dp.gv (L := (bk ab :: bk ac :: bk aa :: (ad ++ (ae ++ [])))) (O := O) (v := .slice ab aj ak) ht hu ck en
 have hw := (ck.odr (rs := bk ab :: ad) (bs.ogm (b4.odr (a7.ogm ((bp.spa (((bl.spa (((ba.spa ((bi.spa ((b0.spa (db.sos cf cg) b1).sos bh b2) bj).sos az bn) bb).sn aq).sos ar bo) bm).sn a0).sos a1 bz) bq).sn bd) br be 4 rfl) b5 2 rfl) b3 bt 1 rfl) en 1 rfl)
 have hx := dx.gv hw 1 rfl
 have hy := dx.drop 1 rfl
 have hz := dx.std 1 rfl
 refine L_call go11 [.slice ab aj ak, .slice aa au av] rfl ((F58.calls hq hy.ok r9 ab aj ak (hv.st hz) r5 aa au av hx _ H).mono ?_)
 rintro _ h0 ⟨r18, rfl, H, cl⟩
 have b8 := ck.k0 cl
 refine L_rb a2 rfl (L_pu (P_not r18 rfl) (L_pu (P_pick false (vb (!r18)) (by exact congrArg Value.bool a2) rfl) (L_mv (vb (!r18)) rfl ?_)))
 rcases bool_or (!r18) with bf | bf
 ·have H := ite_t H bf
  refine L_pb bf rfl (L_pb bf rfl (L_pb bf rfl (L_pu (P_pick true (vb true) (by exact congrArg Value.bool bf) rfl) (L_nil (W_ct (b := true) rfl rfl ?_)))))
  refine W_seq ?_
  have h1 : ((bk ab :: bk ac :: bk aa :: (ad ++ (ae ++ []))) : Ob).Perm ((bk ab :: bk ac :: bk aa :: (ad ++ (ae ++ []))) ++ []) := (pc fun a => by (try simp only [pca, pcc, pcn, Nat.add_zero, Nat.zero_add]); first | done | ac_rfl)
  have h2 := b8.drops h1
  exact W_reg (L_as (vb false) rfl (L_nil (W_ret ⟨[vb false], ⟨_, rfl, rfl⟩, false, rfl, H, h2.gr.g0⟩)))
 have H := ite_f H bf
 refine L_rb bf rfl (L_mv (vb r10) rfl (L_rb bf rfl (L_mv (vb r6) rfl (L_rb bf rfl (L_pu (P_bcmp Tryz.underlying4 r10 r6 (r10 != r6) rfl rfl rfl) (L_pu (P_pick false (vb (r10 != r6)) (by exact congrArg Value.bool bf) rfl) (L_nil (W_cf (b := r10 != r6) rfl ci ?_))))))))
 refine W_skip (W_seq (W_reg (L_as (vi 1) rfl (L_nil (W_seq (W_reg (L_mv (.slice ab aj ak) rfl (L_mv (vi 1) rfl ?_))))))))
 have h3 := ((bs.ogm (b4.odr (a7.ogm ((bp.spa (((bl.spa (((ba.spa dk bb).sn aq).sos ar bo) bm).sn a0).sos a1 bz) bq).sn bd) br be 2 rfl) b5 0 rfl) b3 bt 0 rfl).sn cl)
 have h4 := ((bs.dgm (a7.dgm (((((di.k0 aq).k0 ar).k0 a0).k0 a1).k0 bd) br be fun b hb => (mcm (mcm (mcm (mcm (mcm (List.mem_append_right _ (List.mem_append_right _ (List.mem_append_left _ hb))))))))) b3 bt fun b hb => (mcm (mcm (List.mem_append_left _ hb)))).k0 cl)
 have cm : ((bk ab :: bk ac :: bk aa :: (ad ++ (ae ++ []))) : Ob).Perm ((bk ab :: (ad ++ [])) ++ (bk ac :: bk aa :: (ae ++ []))) := (pc fun a => by (try simp only [pca, pcc, pcn, Nat.add_zero, Nat.zero_add]); first | done | ac_rfl)
 refine L_call go13 [.slice ab aj ak, vi 1] rfl ((F28.calls h0 b8.ok r9 ab aj ak f2 ad h3 h4 (Dj.left (Dj.left (b8.perm cm).dj)) (fun b hb => List.mem_append_left _ (cm.mem_iff.2 (List.mem_append_left _ hb))) 1 _ H).mono ?_)
 rintro _ h5 ⟨r19, m3, j5, rfl, H, eo, ep, eq⟩
 have er := b8.dm eo (fun b hb => cm.mem_iff.2 (List.mem_append_left _ hb))
 refine L_as (vi r19) rfl (L_nil (W_seq (W_reg (L_as (vi 1) rfl (L_nil (W_seq (W_reg (L_mv (.slice ab aj ak) rfl ?_))))))))
 refine L_mv (vi 1) rfl ?_
 have h6 : ((bk ab :: bk ac :: bk aa :: (ad ++ (ae ++ []))) : Ob).Perm (bk ab :: (ad ++ (bk ac :: bk aa :: (ae ++ [])))) := (pc fun a => by (try simp only [pca, pcc, pcn, Nat.add_zero, Nat.zero_add]); first | done | ac_rfl)
 obtain ⟨h7, h8, j6⟩ := Dp.gv (L := (bk ab :: bk ac :: bk aa :: (ad ++ (ae ++ [])))) (O := O) (v := .slice ab aj ak) ep eq er h6
 refine L_call go15 [.slice ab aj ak, vi 1] rfl ((F29.calls h5 h8.ok m3 ab aj ak h7 1 _ H).mono ?_)
 rintro _ h9 ⟨r20, rfl, H, cn⟩
 have b9 := er.k0 cn
 refine L_as (vi r20) rfl (L_nil (W_seq (W_seq (W_reg (L_mv (vi r20) rfl (L_pu (P_cmp r20 0 (decide (r20 < 0)) rfl rfl rfl) (L_nil ?_)))))))
 refine W_cond (decide (r20 < 0)) rfl (fun dy => ?_) (fun dy => ?_)
 ·have H := ite_t H dy
  refine W_seq ?_
  have ia : ((bk ab :: bk ac :: bk aa :: (ad ++ (ae ++ []))) : Ob).Perm ((bk ab :: bk ac :: bk aa :: (ad ++ (ae ++ []))) ++ []) := (pc fun a => by (try simp only [pca, pcc, pcn, Nat.add_zero, Nat.zero_add]); first | done | ac_rfl)
  have ib := b9.drops ia
  exact W_reg (L_as (vb false) rfl (L_nil (W_ret ⟨[vb false], ⟨_, rfl, rfl⟩, false, rfl, H, ib.gr.g0⟩)))
 have H := ite_f H dy
 refine W_skip (W_seq (W_seq (W_reg (L_mv (vi r20) rfl (L_mv (vi r19) rfl (L_pu (P_cmp r20 r19 (r20 != r19) rfl rfl rfl) (L_nil ?_)))))))
 refine W_cond (r20 != r19) rfl (fun dz => ?_) (fun dz => ?_)
 ·have H := ite_t H dz
  refine W_seq ?_
  have ic : ((bk ab :: bk ac :: bk aa :: (ad ++ (ae ++ []))) : Ob).Perm ((bk ab :: bk ac :: bk aa :: (ad ++ (ae ++ []))) ++ []) := (pc fun a => by (try simp only [pca, pcc, pcn, Nat.add_zero, Nat.zero_add]); first | done | ac_rfl)
  have id := b9.drops ic
  exact W_reg (L_as (vb false) rfl (L_nil (W_ret ⟨[vb false], ⟨_, rfl, rfl⟩, false, rfl, H, id.gr.g0⟩)))
 have H := ite_f H dz
 refine W_skip (W_seq (W_reg (L_mv (.slice A1 n2 c3) rfl ?_)))
 refine L_call go8 [.slice A1 n2 c3] rfl ((F52.calls h9 b9.ok aS A1 n2 c3 (hp4.st b9.st) _ H).mono ?_)
 rintro _ ie ⟨r21, an, d0, d1, ax, j7, rfl, H, co, ig, d2, ih, ii⟩
 have cp := b9.owns co ig d2
 have cq : (((bk an :: (ax ++ [])) ++ (bk ab :: bk ac :: bk aa :: (ad ++ (ae ++ [])))) : Ob).Perm (bk an :: bk ab :: bk ac :: bk aa :: (ax ++ (ad ++ (ae ++ [])))) := (pc fun a => by (try simp only [pca, pcc, pcn, Nat.add_zero, Nat.zero_add]); first | done | ac_rfl)
 have d3 := cp.perm cq
 refine L_mv (.slice A6 n7 c8) rfl ?_
 refine L_call go9 [.slice A6 n7 c8] rfl ((F23.calls ie d3.ok aD A6 n7 c8 (hp9.st d3.st) _ H).mono ?_)
 rintro _ ij ⟨r22, ao, d4, d5, ay, j8, rfl, H, b6, ik, cr, il, im⟩
 have ca := d3.owns b6 ik cr
 have cb : (((bk ao :: (ay ++ [])) ++ (bk an :: bk ab :: bk ac :: bk aa :: (ax ++ (ad ++ (ae ++ []))))) : Ob).Perm (bk ao :: bk an :: bk ab :: bk ac :: bk aa :: (ay ++ (ax ++ (ad ++ (ae ++ []))))) := (pc fun a => by (try simp only [pca, pcc, pcn, Nat.add_zero, Nat.zero_add]); first | done | ac_rfl)
 have cs := ca.perm cb
 have io := (ca.spa ((cp.spa ih cq).sos b6 cr) cb)
 have ip := (ii.k0 b6)
 have es : ((bk ao :: bk an :: bk ab :: bk ac :: bk aa :: (ay ++ (ax ++ (ad ++ (ae ++ []))))) : Ob).Perm (bk an :: (ax ++ (bk ao :: bk ab :: bk ac :: bk aa :: (ay ++ (ad ++ (ae ++ [])))))) := (pc fun a => by (try simp only [pca, pcc, pcn, Nat.add_zero, Nat.zero_add]); first | done | ac_rfl)
 obtain ⟨iq, ir, j9⟩ := Dp.gv (L := (bk ao :: bk an :: bk ab :: bk ac :: bk aa :: (ay ++ (ax ++ (ad ++ (ae ++ [])))))) (O := O) (v := .slice an d0 d1) io ip cs es
 have it := (cs.odr (rs := bk an :: ax) (ca.spa il cb) es 0 rfl)
 have iu := im
 have iv : ((bk ao :: bk ab :: bk ac :: bk aa :: (ay ++ (ad ++ (ae ++ [])))) : Ob).Perm (bk ao :: (ay ++ (bk ab :: bk ac :: bk aa :: (ad ++ (ae ++ []))))) := (pc fun a => by (try simp only [pca, pcc, pcn, Nat.add_zero, Nat.zero_add]); first | done | ac_rfl)
 obtain ⟨iw, ix, iy⟩ := Dp.gv (L := (bk ao :: bk ab :: bk ac :: bk aa :: (ay ++ (ad ++ (ae ++ []))))) (O := O) (v := .slice ao d4 d5) it iu ir iv
 refine L_call go10 [.slice an d0 d1, .slice ao d4 d5] rfl ((F92.calls ij ix.ok r21 an d0 d1 (iq.st iy) r22 ao d4 d5 iw _ H).mono ?_)
 rintro _ iz ⟨r23, r24, ai, bu, bv, ap, ka, rfl, H, cc, i0, ct, i1, i2⟩
 have i3 := Ok.unl (L := (bk ao :: bk an :: bk ab :: bk ac :: bk aa :: (ay ++ (ax ++ (ad ++ (ae ++ [])))))) (L' := (bk ab :: bk ac :: bk aa :: (ad ++ (ae ++ [])))) (O := O) cs cc i0 ct
 have i4 := Ow.unl (L := (bk ao :: bk an :: bk ab :: bk ac :: bk aa :: (ay ++ (ax ++ (ad ++ (ae ++ [])))))) (L' := (bk ab :: bk ac :: bk aa :: (ad ++ (ae ++ [])))) (O := O) (fun _ _ _ _ _ _ h => h) (.cons _ (.cons _ (.cons_cons _ (.cons_cons _ (.cons_cons _ (List.sublist_append_of_sublist_right (List.sublist_append_of_sublist_right (.append (.refl _) (.append (.refl _) (.refl _)))))))))) i1
 have cu := cs.owns cc i3 ct
 have cv : (((bk ai :: (ap ++ [])) ++ (bk ao :: bk an :: bk ab :: bk ac :: bk aa :: (ay ++ (ax ++ (ad ++ (ae ++ [])))))) : Ob).Perm (bk ai :: bk ao :: bk an :: bk ab :: bk ac :: bk aa :: (ap ++ (ay ++ (ax ++ (ad ++ (ae ++ [])))))) := (pc fun a => by (try simp only [pca, pcc, pcn, Nat.add_zero, Nat.zero_add]); first | done | ac_rfl)
 have cw := cu.perm cv
 refine L_mv (.tuple #[.slice ai bu bv, vb r24]) rfl (L_pu (P_ext [.slice ai bu bv, vb r24] 0 (.slice ai bu bv) rfl rfl) (L_pu (P_ext [.slice ai bu bv, vb r24] 1 (vb r24) rfl rfl) (L_as (.slice ai bu bv) rfl (L_as (vb r24) rfl (L_nil (W_seq (W_seq ?_)))))))
 have cx : ((bk ai :: bk ao :: bk an :: bk ab :: bk ac :: bk aa :: (ap ++ (ay ++ (ax ++ (ad ++ (ae ++ [])))))) : Ob).Perm ((bk ao :: bk an :: bk ac :: (ay ++ (ax ++ (ae ++ [])))) ++ (bk ai :: bk ab :: bk aa :: (ap ++ (ad ++ [])))) := (pc fun a => by (try simp only [pca, pcc, pcn, Nat.add_zero, Nat.zero_add]); first | done | ac_rfl)
 have d6 := cw.drops cx
 refine W_reg (L_mv (.slice ai bu bv) rfl (L_mv (.slice aa au av) rfl ?_))
 have i5 := (cw.odr (cu.spa i4 cv) cx 0 rfl)
 have i6 := i2
 have et : ((bk ai :: bk ab :: bk aa :: (ap ++ (ad ++ []))) : Ob).Perm (bk ai :: (ap ++ (bk ab :: bk aa :: (ad ++ [])))) := (pc fun a => by (try simp only [pca, pcc, pcn, Nat.add_zero, Nat.zero_add]); first | done | ac_rfl)
 obtain ⟨i7, d7, kb⟩ := Dp.gv (L := (bk ai :: bk ab :: bk aa :: (ap ++ (ad ++ [])))) (O := O) (v := .slice ai bu bv) i5 i6 d6 et
 have i8 := (d6.odr (rs := bk ai :: ap) (cw.odr (cu.spa ((ca.spa ((cp.spa (((b8.ogm ((bs.ogm (b4.odr (a7.ogm ((bp.spa (((bl.spa (((ba.spa ((bi.spa ((b0.spa (db.sos cf cg) b1).sos bh b2) bj).sos az bn) bb).sn aq).sos ar bo) bm).sn a0).sos a1 bz) bq).sn bd) br be 4 rfl) b5 2 rfl) b3 bt 1 rfl).sn cl) eo cm 1 rfl).sn cn).sos co d2) cq).sos b6 cr) cb).sos cc ct) cv) cx 2 rfl) et 1 rfl)
 have i9 := d7.gv i8 1 rfl
 have ja := d7.drop 1 rfl
 have jb := d7.std 1 rfl
 refine L_call go11 [.slice ai bu bv, .slice aa au av] rfl ((F58.calls iz ja.ok r23 ai bu bv (i7.st jb) r5 aa au av i9 _ H).mono ?_)
 rintro _ jc ⟨r25, rfl, H, d8⟩
 have cy := d6.k0 d8
 refine L_pu (P_not r25 rfl) (L_mv (vb (!r25)) rfl ?_)
 rcases bool_or (!r25) with bg | bg
 ·have H := ite_t H bg
  refine L_pb bg rfl (L_pb bg rfl (L_pb bg rfl (L_pu (P_pick true (vb true) (by exact congrArg Value.bool bg) rfl) (L_nil (W_ct (b := true) rfl rfl ?_)))))
  refine W_seq ?_
  have jd : ((bk ai :: bk ab :: bk aa :: (ap ++ (ad ++ []))) : Ob).Perm ((bk ai :: bk ab :: bk aa :: (ap ++ (ad ++ []))) ++ []) := (pc fun a => by (try simp only [pca, pcc, pcn, Nat.add_zero, Nat.zero_add]); first | done | ac_rfl)
  have je := cy.drops jd
  exact W_reg (L_as (vb false) rfl (L_nil (W_ret ⟨[vb false], ⟨_, rfl, rfl⟩, false, rfl, H, je.gr.g0⟩)))
 have H := ite_f H bg
 refine L_rb bg rfl (L_mv (vb r24) rfl (L_rb bg rfl (L_mv (vb r6) rfl (L_rb bg rfl (L_pu (P_bcmp Tryz.underlying4 r24 r6 (r24 != r6) rfl rfl rfl) (L_pu (P_pick false (vb (r24 != r6)) (by exact congrArg Value.bool bg) rfl) (L_nil ?_)))))))
 refine W_cond (r24 != r6) rfl (fun d9 => ?_) (fun d9 => ?_)
 ·have H := ite_t H d9
  refine W_seq ?_
  have jf : ((bk ai :: bk ab :: bk aa :: (ap ++ (ad ++ []))) : Ob).Perm ((bk ai :: bk ab :: bk aa :: (ap ++ (ad ++ []))) ++ []) := (pc fun a => by (try simp only [pca, pcc, pcn, Nat.add_zero, Nat.zero_add]); first | done | ac_rfl)
  have jg := cy.drops jf
  exact W_reg (L_as (vb false) rfl (L_nil (W_ret ⟨[vb false], ⟨_, rfl, rfl⟩, false, rfl, H, jg.gr.g0⟩)))
 have H := ite_f H d9
 refine W_skip (W_seq (W_reg (L_as (vi 1) rfl (L_nil (W_seq (W_reg (L_mv (.slice ab aj ak) rfl (L_mv (vi 1) rfl ?_))))))))
 have jh := ((cw.odr (cu.spa ((ca.spa ((cp.spa ((ep.sn cn).sos co d2) cq).sos b6 cr) cb).sos cc ct) cv) cx 1 rfl).sn d8)
 have ji := (((((eq.k0 cn).k0 co).k0 b6).k0 cc).k0 d8)
 have jj : ((bk ai :: bk ab :: bk aa :: (ap ++ (ad ++ []))) : Ob).Perm (bk ab :: (ad ++ (bk ai :: bk aa :: (ap ++ [])))) := (pc fun a => by (try simp only [pca, pcc, pcn, Nat.add_zero, Nat.zero_add]); first | done | ac_rfl)
 obtain ⟨jk, jl, kc⟩ := Dp.gv (L := (bk ai :: bk ab :: bk aa :: (ap ++ (ad ++ [])))) (O := O) (v := .slice ab aj ak) jh ji cy jj
 refine L_call go15 [.slice ab aj ak, vi 1] rfl ((F29.calls jc jl.ok m3 ab aj ak jk 1 _ H).mono ?_)
 rintro _ kd ⟨r26, rfl, H, jm⟩
 have jn := cy.k0 jm
 refine L_as (vi r26) rfl (L_nil (W_seq (W_seq ?_)))
 have jo : ((bk ai :: bk ab :: bk aa :: (ap ++ (ad ++ []))) : Ob).Perm ((bk ai :: bk ab :: bk aa :: (ap ++ (ad ++ []))) ++ []) := (pc fun a => by (try simp only [pca, pcc, pcn, Nat.add_zero, Nat.zero_add]); first | done | ac_rfl)
 have ea := jn.drops jo
 refine W_reg (L_mv (vi r26) rfl (L_pu (P_cmp r26 0 (decide (r26 < 0)) rfl rfl rfl) (L_nil ?_)))
 refine W_cond (decide (r26 < 0)) rfl (fun eb => ?_) (fun eb => ?_)
 ·have H := ite_t H eb
  exact W_seq (W_reg (L_as (vb false) rfl (L_nil (W_ret ⟨[vb false], ⟨_, rfl, rfl⟩, false, rfl, H, ea.gr.g0⟩))))
 have H := ite_f H eb
 refine W_skip (W_seq (W_seq (W_reg (L_mv (vi r26) rfl (L_mv (vi r19) rfl (L_pu (P_cmp r26 r19 (r26 != r19) rfl rfl rfl) (L_nil ?_)))))))
 refine W_cond (r26 != r19) rfl (fun ec => ?_) (fun ec => ?_)
 ·have H := ite_t H ec
  exact W_seq (W_reg (L_as (vb false) rfl (L_nil (W_ret ⟨[vb false], ⟨_, rfl, rfl⟩, false, rfl, H, ea.gr.g0⟩))))
 have H := ite_f H ec
 exact W_skip (W_seq (W_reg (L_as (vb true) rfl (L_nil (W_ret ⟨[vb true], ⟨_, rfl, rfl⟩, true, rfl, H, ea.gr.g0⟩)))))
end
section
section
variable {α : Type} [DecidableEq α]
def lcsR (x : α) (p : List α → Nat) : List α → Nat
  | [] => 0
  | y :: b => if x = y then p b + 1 else max (p (y :: b)) (lcsR x p b)
def lcs : List α → List α → Nat
  | [] => fun _ => 0
  | x :: a => lcsR x (lcs a)
@[simp] theorem lcs_nil (b : List α) : lcs [] b = 0 := rfl
@[simp] theorem lcs_nil2 (a : List α) : lcs a [] = 0 := by cases a <;> rfl
theorem pp {a b c d : Nat} (h : a = c) (k : b = d) : (a, b) = (c, d) := by rw [h, k]
def pairs (i j : Nat) : List α → List α → List (Nat × Nat)
  | x :: a, y :: b => if x = y then (i, j) :: pairs (i + 1) (j + 1) a b else if lcs (x :: a) b ≤ lcs a (y :: b) then pairs (i + 1) j a (y :: b) else pairs i (j + 1) (x :: a) b
  | [], _ => []
  | _ :: _, [] => []
  termination_by a b => a.length + b.length
end
section
variable {α : Type} [Inhabited α]
theorem nth_set (l : List α) {k : Nat} (h : k < l.length) (m : Nat) (v : α) : nth (l.set k v) (m : Int) = if m = k then v else nth l (m : Int) := by
  unfold nth
  rw [Int.toNat_natCast, List.getD_eq_getElem?_getD, List.getD_eq_getElem?_getD, List.getElem?_set]
  by_cases e : m = k
  · subst e; rw [if_pos rfl, if_pos rfl, if_pos h]; rfl
  · rw [if_neg (fun x => e x.symm), if_neg e]
variable [DecidableEq α]
structure Mates (o a : List α) (f : Nat → Option Nat) : Prop where
  lt : ∀ {t x}, f t = some x → t < o.length ∧ x < a.length
  eq : ∀ {t x}, f t = some x → nth o (t : Int) = nth a (x : Int)
  mono : ∀ {t x u y}, f t = some x → f u = some y → t < u → x < y
def From (f : Nat → Option Nat) (t j : Nat) : Prop := ∀ u x, t ≤ u → f u = some x → j ≤ x
theorem From.zero (f : Nat → Option Nat) (t : Nat) : From f t 0 := fun _ _ _ _ => Nat.zero_le _
theorem From.skip {f : Nat → Option Nat} {t j : Nat} (h : From f t j) : From f (t + 1) j := fun u x hu hx => h u x (by omega) hx
theorem From.step {o a : List α} {f : Nat → Option Nat} (m : Mates o a f) {t x : Nat} (h : f t = some x) : From f (t + 1) (x + 1) := fun u y hu hy => m.mono h hy (by omega)
end
end
def Tab (a b : List Pt) (D : Nat → Nat → Prop) (t : List (List Int)) : Prop := t.length = a.length + 1 ∧ ∀ r : Nat, r ≤ a.length → (nth t (r : Int)).length = b.length + 1 ∧ ∀ m : Nat, m ≤ b.length → D r m → nth (nth t (r : Int)) (m : Int) = (lcs (a.drop r) (b.drop m) : Nat)
theorem Tab.set {a b : List Pt} {D : Nat → Nat → Prop} {t : List (List Int)} (h : Tab a b D t) {i j : Nat} (hi : i ≤ a.length) (hj : j ≤ b.length) {v : Int} (hv : v = (lcs (a.drop i) (b.drop j) : Nat)) {D' : Nat → Nat → Prop} (hD : ∀ r m, D' r m → D r m ∨ (r = i ∧ m = j)) :
    Tab a b D' (t.set i ((nth t (i : Int)).set j v)) := by
  obtain ⟨h1, h2⟩ := h
  refine ⟨by rw [List.length_set]; exact h1, fun r hr => ?_⟩
  rw [nth_set _ (by omega)]
  by_cases e : r = i
  · subst e
    rw [if_pos rfl]
    refine ⟨by rw [List.length_set]; exact (h2 r hr).1, fun m hm hd => ?_⟩
    rw [nth_set _ (by rw [(h2 r hr).1]; omega)]
    by_cases f : m = j
    · subst f; rw [if_pos rfl, hv]
    · rw [if_neg f]
      exact (h2 r hr).2 m hm ((hD r m hd).resolve_right fun x => f x.2)
  · rw [if_neg e]
    exact ⟨(h2 r hr).1, fun m hm hd => (h2 r hr).2 m hm ((hD r m hd).resolve_right fun x => e x.1)⟩
def mateN (l : List (Nat × Nat)) (k : Nat) : Option Nat := match l with
  | [] => none
  | p :: l => if p.1 = k then some p.2 else mateN l k
def part (o a : List Pt) : Nat → Option Nat := mateN (pairs 0 0 o a)
def allN (n : Nat) (c : Nat → Bool) : Bool := (List.range n).all c
theorem allN_true {n : Nat} {c : Nat → Bool} (h : ∀ j, j < n → c j = true) : allN n c = true := by
  unfold allN; rw [List.all_eq_true]; intro j hj; exact h j (List.mem_range.1 hj)
theorem allN_false {n k : Nat} {c : Nat → Bool} (hk : k < n) (h : c k = false) : allN n c = false := by
  unfold allN
  rw [Bool.eq_false_iff]; intro ha
  rw [List.all_eq_true] at ha
  rw [ha k (List.mem_range.2 hk)] at h; cases h
theorem allN_iff {n : Nat} {c : Nat → Bool} : allN n c = true ↔ ∀ j, j < n → c j = true := by
  unfold allN; rw [List.all_eq_true]; exact ⟨fun h j hj => h j (List.mem_range.2 hj), fun h j hj => h j (List.mem_range.1 hj)⟩
theorem loop_all (n : Nat) (c : Nat → Bool) {B : (Int → Prop) → (Int → Nat) → Int → Prop} {F : Prop}
    (hs : ∀ (I : Int → Prop) (mu : Int → Nat) (k : Nat), k < n → (∀ j, j < k → c j = true) → (c k = true → I ((k : Int) + 1) ∧ mu ((k : Int) + 1) < mu (k : Int)) → B I mu (k : Int))
    (hF : (∀ j, j < n → c j = true) → F) :
    ∃ (I : Int → Prop) (mu : Int → Nat), I 0 ∧ ∀ (i : Int), I i → (if decide (i < (n : Int)) then B I mu i else F) := by
  refine ⟨fun i => ∃ k : Nat, i = k ∧ k ≤ n ∧ ∀ j, j < k → c j = true, fun i => ((n : Int) - i).toNat, ⟨0, rfl, Nat.zero_le _, fun j hj => absurd hj (Nat.not_lt_zero _)⟩, ?_⟩
  rintro _ ⟨k, rfl, hk, ha⟩
  by_cases h : (k : Int) < (n : Int)
  · rw [if_pos (by simpa using h)]
    refine hs _ _ k (by omega) ha fun hc => ⟨⟨k + 1, by omega, by omega, fun j hj => ?_⟩, by omega⟩
    by_cases e : j = k
    · subst e; exact hc
    · exact ha j (by omega)
  · rw [if_neg (by simpa using h)]
    exact hF fun j hj => ha j (by omega)
theorem less_irr : ∀ a : Str, Op.bytesLess a a = false
  | [] => rfl
  | x :: a => by rw [Op.bytesLess]; simp [less_irr a]
theorem less_tri : ∀ a b : Str, (!(Op.bytesLess a b)) = (Op.bytesLess b a || b == a)
  | [], [] => rfl
  | [], y :: b => rfl
  | x :: a, [] => rfl
  | x :: a, y :: b => by
    rw [Op.bytesLess, Op.bytesLess]
    have h := less_tri a b
    by_cases h1 : x < y
    · have h2 : ¬ y < x := fun h => absurd (UInt8.lt_trans h1 h) (UInt8.lt_irrefl _)
      have h3 : ¬ y = x := fun e => by subst e; exact UInt8.lt_irrefl _ h1
      simp [h1, h2, h3]
    · by_cases h2 : y < x
      · have h3 : ¬ x = y := fun e => by subst e; exact UInt8.lt_irrefl _ h2
        simp [h1, h2, h3]
      · have h3 : x = y := UInt8.le_antisymm (UInt8.not_lt.1 h2) (UInt8.not_lt.1 h1)
        subst h3
        simp only [h1, decide_false, Bool.false_or, beq_self_eq_true, Bool.true_and]
        rw [h]
        congr 1
        rw [Bool.eq_iff_iff, beq_iff_eq, beq_iff_eq]
        simp
end Go.Proofs.YtndjggncgpjolaaGreat