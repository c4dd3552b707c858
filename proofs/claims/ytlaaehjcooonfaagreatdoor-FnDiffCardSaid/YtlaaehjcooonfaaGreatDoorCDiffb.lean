/- It is proved here that the law FnDiff of the given program holds whatever it is handed: the walks through the code, the plain laws and the row, in this order.
   Conditions: none. -/
import Derived.Below
import Derived.ChangeArms
import Derived.ChangeOld
import Derived.ChangeSlices
import Derived.ChangeVars
import Derived.DataReads
import Derived.Deep.MidRow
import Derived.Deep.Quiet
import Derived.Deep.RegionLaw
import Derived.Deep.Upon
import Derived.KernelRfl
import Derived.LaidHandle
import Derived.LaidLaws
import Derived.LaidMore
import Derived.Laws.Build
import Derived.Laws.IdiomStrings
import Derived.Laws.OwnMore
import Derived.Laws.Slices
import Derived.Laws.Strings2
import Derived.Laws.StructEq
import Derived.Lib.ItoaNum
import Derived.Lib.LaidTab
import Derived.Lib.SliceRun
import Derived.MakeChecks
import Derived.OpenShut
import Derived.OpenVars
import Derived.ProofKit
import Derived.SevenTiedAt
import Derived.Shelf.LaysM
import Derived.Shelf.SlSortCmp.NoneTotal
import Derived.Shelf.SlSortCmp.WholeK
import Derived.Shelf.Slices.Cells
import Derived.Shelf.Slices.CompactS
import Derived.Shelf.Slices.In.SortNone
import Derived.Shelf.Small.Bits
import Derived.Shelf.Sort.Plain
import Derived.Shelf.Strconv.Itoa0
import Derived.Shelf.Strconv.Itoa1
import Derived.Shelf.Strconv.Itoa2
import Derived.Shelf.Strconv.Itoa3
import Derived.ShutString
import Derived.SizedLaws
import Derived.StillTail
import Derived.Stop.Joined
import Derived.Test.YtlaaehjcooonfaaGreatDoorCards
import Derived.Test.YtlaaehjcooonfaaGreatDoorProg
import Derived.Test.YtlaaehjcooonfaaGreatDoorRows
import Derived.Test.YtlaaehjcooonfaaGreatDoorTie
import Derived.WalkKit
import Derived.Test.YtlaaehjcooonfaaGreatDoorCDiffa
namespace Go.Proofs.YtlaaehjcooonfaaGreatDoor
set_option linter.unusedVariables false
set_option linter.unusedSimpArgs false
set_option linter.unusedSectionVars false
set_option maxHeartbeats 8000000
set_option maxRecDepth 100000
open Go.RowKit
variable {O : Ob} {w0 : World}
def F81.E (r_b : List UInt8) (r_p : Int) (id : Str) (Q : Feat → Int → Prop) : Prop :=
 F70.E r_b r_p (fun r2 m => F22.E r_b m 4 (fun r3 m2 => (∃ (I107 : Int → (List Tag) → Int → Prop) (mu108 : Int → (List Tag) → Int → Nat), I107 r3 [] m2 ∧ ∀ (i2 : Int) (xs2 : List Tag) (z2 : Int), I107 i2 xs2 z2 → (if decide (i2 > 0) then F124.E r_b z2 (fun r4 m3 => F125.E r_b m3 (fun r5 m4 => F126.E xs2 r4 r5 (fun r6 => (I64 (i2 - 1)) ∧ I107 (i2 - 1) r6 m4 ∧ mu108 (i2 - 1) r6 m4 < mu108 i2 xs2 z2))) else Q (⟨id, r2, xs2⟩ : Feat) z2))))
theorem F81.calls {b : Nat} {r_b : List UInt8} {A2 : Option Addr} {n3 c4 : Nat} {r_p : Int} {id : Str} {Q : Feat → Int → Prop} (H : F81.E r_b r_p id Q) (hO : Ok w0 O) (hp5 : Sl Kd.byte w0 (Fr O) (G A2 n3 c4) r_b) (hp0 : Bx w0 b [G A2 n3 c4, vi r_p]) (hm : some b ∈ O) (hs7 : Lim id) :
  Ret Tryz.prog 61 [Pz b, vs id] w0 (fun v w' => ∃ (r0 : Feat) (m0 : Int) (Aw0 : Option Addr) (nw0 cw0 : Nat) (Aw2 : Option Addr) (nw2 cw2 : Nat), v = .agg #[vs r0.Id, vi r0.Shape.Kind, G Aw0 nw0 cw0, G Aw2 nw2 cw2] ∧ Q r0 m0 ∧ Gr w0 w' (some b) ∧ Bx w' b [G A2 n3 c4, vi m0] ∧ Ok w' ([bk Aw0, bk Aw2] ++ O) ∧ (∀ b, some b ∈ [bk Aw0, bk Aw2] → w0.heap.size ≤ b) ∧ Lim r0.Id ∧ Ow kPt 49 w' ([bk Aw0, bk Aw2] ++ O) (G Aw0 nw0 cw0) r0.Shape.Pts ∧ Ow kTag 93 w' ([bk Aw0, bk Aw2] ++ O) (G Aw2 nw2 cw2) r0.Tags) := by
 unfold F81.E at H;have hc0 := Ct.initm1 (r := some b) hO (by intro b e; cases e; exact hm);refine X9 Tryz.func61 Z 26 Z [.cell 4 44] Z Z ?_;refine Xc (Xd (Yk [vs [], .int .i64 0, G none 0 0, G none 0 0] ze44 fun w8 b9 dd hu12 cw de => ?_));have b2 := hc0.own cw (some b9) (Yj dd hu12);refine Xb (Xc (Xd (Xe (vs id) Z (Xe (Pz b) Z ?_))));have df := (hp0.k0 cw);refine Xs go113 (F70.calls H b2.ok (hp5.st b2.st) df (List.mem_append_right _ hm)) Z ?_;rintro _ eq ⟨r2, m, ab, ao, ap, rfl, H, cx, dg, dh, di, dj⟩;have dk := b2.ownm cx dh di;refine Xa (Ym (.agg #[vs id, vi r2.Kind, G ab ao ap, G none 0 0]) RF) (Yk [vs [], .int .i64 0, G none 0 0, G none 0 0] ze44 fun er aa cy hu32 b3 dl => ?_);have b4 := dk.own b3 (some aa) (Yj cy hu32);refine Yd [vs id, vi r2.Kind, G ab ao ap, G none 0 0] dl Z Z sz44 Z Z fun dm b5 dn => ?_;have a3 := b4.wr 0 Z b5;refine Xb (Xc (Xc (Xd (Xe (Pz b) Z ?_))));have dp := (b4.bmo (dg.k0 b3) 0 Z b5);refine Xs go47 (F22.calls H a3.ok (hp5.st a3.st) dp (List.mem_append_right _ hm)) Z ?_;rintro _ cj ⟨r3, m2, rfl, H, b6, dq⟩;have dr := a3.wm b6;refine Xf (vi r3) Z (Xb (X6 ?_));have ds := dr.own (Gr.refl _ none) none (by simp);have dt : Ow kPt 49 cj ([bk none, some aa, bk ab, some b9] ++ O) (G none 0 0) [] := Ow.nil _ _ _ _;have du := ds.own (Gr.refl _ none) none (by simp);have dv : Ow kTag 93 cj ([bk none, bk none, some aa, bk ab, some b9] ++ O) (G none 0 0) [] := Ow.nil _ _ _ _;have cz := du.own (Gr.refl _ none) none (by simp);have dw : Ow kTag 93 cj ([bk none, bk none, bk none, some aa, bk ab, some b9] ++ O) (G none 0 0) [] := Ow.nil _ _ _ _;obtain ⟨dx, dy, ck, H⟩ := H;have dz := ((((a3.swm (b4.sw (dj.so _ b3 (X2 cy)) 1 0 Z Z Z b5) 1 Z b6).so none (Gr.refl _ none) (by simp)).so none (Gr.refl _ none) (by simp)).so none (Gr.refl _ none) (by simp));have d0 := ((dt.so none (Gr.refl _ none) (by simp)).so none (Gr.refl _ none) (by simp));have d1 := (dv.so none (Gr.refl _ none) (by simp));have d2 := dq;have d3 := (a3.bwm (b4.bm ((b2.bwm de 0 Z cx).k0 b3) 2 0 Z Z Z b5) 2 Z b6);have d4 := (a3.bwm dn 0 Z b6);refine Yi (α := Int × (List Tag) × (Option Addr) × Nat × Nat × Int) (fun (i2, xs2, ac, ai, aj, z2) t ay => dx i2 xs2 z2 ∧ Has t [(0, Pz b), (4, Pz b9), (5, Pz aa), (6, vi i2)] ∧ Cw [some b] w0 ay [bk ac, bk none, bk none, some aa, bk ab, some b9] O fun M => Sl Kd.byte ay (Fr M) (G A2 n3 c4) r_b ∧ Ow kPt 49 ay M (G ab ao ap) r2.Pts ∧ Ow kTag 93 ay M (G ac ai aj) xs2 ∧ Ow kPt 49 ay M (G none 0 0) ([] : List Pt) ∧ Ow kTag 93 ay M (G none 0 0) ([] : List Tag) ∧ Bx ay b [G A2 n3 c4, vi z2] ∧ Bx ay b9 [vs [], vi 0, G none 0 0, G none 0 0] ∧ Bx ay aa [vs id, vi r2.Kind, G ab ao ap, G ac ai aj]) (fun (i2, xs2, _, _, _, z2) => dy i2 xs2 z2) (r3, ([] : List Tag), none, 0, 0, m2) ⟨ck, (Xz Z), cz, (hp5.st cz.st), dz, dw, d0, d1, d2, d3, d4⟩ ?_;rintro ⟨i2, xs2, ac, ai, aj, z2⟩ _ ay ⟨ck, d5, a2, a5, b7, b8, cl, cm, cn, ca, cb⟩;obtain ⟨es, rfl⟩ := Has.ins d5;have H := H i2 xs2 z2 ck;refine Xc (Xc (Xd (Xe (vi i2) Z (Xa (X1 i2 0 (decide (i2 > 0)) Z Z Z) (Xb ?_)))));refine Xy (decide (i2 > 0)) Z (fun co => ?_) (fun co => ?_)
 ·have H := Xn H co;refine Xx (Xc (X6 (Y7 9 [some b, some aa] RK Z fun c0 ah a4 => ?_)));have ag := a2.k0 ah;refine Xu 0 Z RK a4 (Xj fa44_2 (Ad aa 0) (Ad aa 3) Z Z) ?_;refine Xu 2 Z RK a4 (Yw (Pz b) Z) ?_;refine Xu 4 Z RK a4 (Yw (Pz b) Z) ?_;refine Y6 1 3 RK Z Z ?_ ?_
  ·have c1 := (cb.k0 ah);refine Xa (Xm ag42 cL (Ad aa 3) (G ac ai aj) Z (c1.cell Z)) ?_;refine Xb ⟨a4, ?_⟩;refine X3 3 RK Z ?_;have c2 := a2.stn ah;have d6 := (cn.k0 ah);refine Xs go101 (F124.calls H ag.ok (a5.st c2) d6 (List.mem_append_right _ hm)) Z ?_;rintro _ d7 ⟨r4, m3, rfl, H, az, d8, d9⟩;have a0 := ag.wm az;have c3 := Gm.tq a4 az (hv_mem 0 Z);refine Xb ⟨c3, ?_⟩;refine X3 5 RK Z ?_;have cp := ag.stm az;have a6 := ((a5.st c2).st cp);refine Xs go102 (F125.calls H a0.ok a6 d8 (List.mem_append_right _ hm)) Z ?_;rintro _ cq ⟨r5, m4, rfl, H, am, cr, cs⟩;have ar := a0.wm am;have a7 := Gm.tq c3 am (hv_mem 0 Z);refine Xb ⟨a7, ?_⟩;refine X3 6 RK Z ?_;have a8 := (a0.swm (ag.swm (b8.sn ah) 0 Z az) 0 Z am);have a9 := ar.gv a8 0 Z;have ba := ar.drop 0 Z;refine Xs go100 (F126.calls H ba.ok a9 d9 cs) Z ?_;rintro _ c5 ⟨r6, au, av, aw, rfl, H, ad, bb, ak, bc⟩;have bd := Ok.unl (L := [bk ac, bk none, bk none, some aa, bk ab, some b9]) (L' := [bk none, bk none, some aa, bk ab, some b9]) (O := O) ar ad bb ak;have be := Ow.unl (L := [bk ac, bk none, bk none, some aa, bk ab, some b9]) (L' := [bk none, bk none, some aa, bk ab, some b9]) (O := O) (fun _ _ _ _ _ _ h => h) (.cons _ (.cons_cons _ (.cons_cons _ (.cons_cons _ (.cons_cons _ (.cons_cons _ (.slnil))))))) bc;have af := ar.owns ad bd ak;have ax := Gm.tm a7 ad;refine Xb ⟨ax, ?_⟩;refine Xu 7 Z RK ax (Xj fa44_2 (Ad aa 0) (Ad aa 3) Z Z) ?_;refine X3 8 RK Z ?_;have bf := ((a0.bwm (ag.bwm c1 3 Z az) 3 Z am).k0 ad);refine Ys 3 [G au av aw] [vs id, vi r2.Kind, G ab ao ap, G au av aw] bf Z Z sz42 Z Z Z fun c6 ae bg => ?_;have al := af.wr 4 Z ae;have bh := Gm.tq ax ae (hv_mem 1 Z);refine Xb ⟨bh, ?_⟩;refine Yq RK ?_;refine Xd (Xe (vi i2) Z ?_);obtain ⟨bi, H⟩ := H;refine Xa (Yz i2 1 Z Z bi) (Xf (vi (i2 - 1)) Z (Xb ?_));have bj := al.drop 1 Z;obtain ⟨bl, bn⟩ := H;have bo := a0.stm am;have bp := ar.stos ad ak;have bq := af.stw 4 Z ae;have br := al.std 1 Z;have bs := ((((a6.st bo).st bp).st bq).st br);have bt := (al.sd (af.sw ((a0.swm (ag.swm (b7.sn ah) 4 Z az) 4 Z am).sos ad ak) 5 4 Z Z Z ae) 5 1 Z Z Z);have bu := (al.sd (af.sw be 0 4 Z Z Z ae) 0 1 Z Z Z);have bv := (al.sd (af.sw ((a0.swm (ag.swm (cl.sn ah) 2 Z az) 2 Z am).sos ad ak) 3 4 Z Z Z ae) 3 1 Z Z Z);have bw := (al.sd (af.sw ((a0.swm (ag.swm (cm.sn ah) 1 Z az) 1 Z am).sos ad ak) 2 4 Z Z Z ae) 2 1 Z Z Z);have bx := (af.bmo (cr.k0 ad) 4 Z ae);have bz := (af.bm ((a0.bwm (ag.bwm (ca.k0 ah) 5 Z az) 5 Z am).k0 ad) 6 4 Z Z Z ae);have b0 := bg;exact ⟨(i2 - 1, r6, au, av, aw, m4), bn, bl, (Xz Z), bj, bs, bt, bu, bv, bw, bx, bz, b0⟩
  have ct := a2.stn ah;have ea := (cn.k0 ah);refine Xs go101 (F124.calls H ag.ok (a5.st ct) ea (List.mem_append_right _ hm)) Z ?_;rintro _ c7 ⟨r4, m3, rfl, H, aq, c8, c9⟩;have an := ag.wm aq;have cc := Gm.tq a4 aq (hv_mem 0 Z);refine Xb ⟨cc, ?_⟩;refine Y6 1 5 RK Z Z ?_ ?_
  ·have da := (ag.bwm (cb.k0 ah) 3 Z aq);refine Xa (Xm ag42 cL (Ad aa 3) (G ac ai aj) Z (da.cell Z)) ?_;refine Xb ⟨cc, ?_⟩;refine X3 5 RK Z ?_;have cp := ag.stm aq;have a6 := ((a5.st ct).st cp);refine Xs go102 (F125.calls H an.ok a6 c8 (List.mem_append_right _ hm)) Z ?_;rintro _ cq ⟨r5, m4, rfl, H, am, cr, cs⟩;have ar := an.wm am;have a7 := Gm.tq cc am (hv_mem 0 Z);refine Xb ⟨a7, ?_⟩;refine X3 6 RK Z ?_;have a8 := (an.swm (ag.swm (b8.sn ah) 0 Z aq) 0 Z am);have a9 := ar.gv a8 0 Z;have ba := ar.drop 0 Z;refine Xs go100 (F126.calls H ba.ok a9 c9 cs) Z ?_;rintro _ c5 ⟨r6, au, av, aw, rfl, H, ad, bb, ak, bc⟩;have bd := Ok.unl (L := [bk ac, bk none, bk none, some aa, bk ab, some b9]) (L' := [bk none, bk none, some aa, bk ab, some b9]) (O := O) ar ad bb ak;have be := Ow.unl (L := [bk ac, bk none, bk none, some aa, bk ab, some b9]) (L' := [bk none, bk none, some aa, bk ab, some b9]) (O := O) (fun _ _ _ _ _ _ h => h) (.cons _ (.cons_cons _ (.cons_cons _ (.cons_cons _ (.cons_cons _ (.cons_cons _ (.slnil))))))) bc;have af := ar.owns ad bd ak;have ax := Gm.tm a7 ad;refine Xb ⟨ax, ?_⟩;refine Xu 7 Z RK ax (Xj fa44_2 (Ad aa 0) (Ad aa 3) Z Z) ?_;refine X3 8 RK Z ?_;have bf := ((an.bwm da 3 Z am).k0 ad);refine Ys 3 [G au av aw] [vs id, vi r2.Kind, G ab ao ap, G au av aw] bf Z Z sz42 Z Z Z fun c6 ae bg => ?_;have al := af.wr 4 Z ae;have bh := Gm.tq ax ae (hv_mem 1 Z);refine Xb ⟨bh, ?_⟩;refine Yq RK ?_;refine Xd (Xe (vi i2) Z ?_);obtain ⟨bi, H⟩ := H;refine Xa (Yz i2 1 Z Z bi) (Xf (vi (i2 - 1)) Z (Xb ?_));have bj := al.drop 1 Z;obtain ⟨bl, bn⟩ := H;have bo := an.stm am;have bp := ar.stos ad ak;have bq := af.stw 4 Z ae;have br := al.std 1 Z;have bs := ((((a6.st bo).st bp).st bq).st br);have bt := (al.sd (af.sw ((an.swm (ag.swm (b7.sn ah) 4 Z aq) 4 Z am).sos ad ak) 5 4 Z Z Z ae) 5 1 Z Z Z);have bu := (al.sd (af.sw be 0 4 Z Z Z ae) 0 1 Z Z Z);have bv := (al.sd (af.sw ((an.swm (ag.swm (cl.sn ah) 2 Z aq) 2 Z am).sos ad ak) 3 4 Z Z Z ae) 3 1 Z Z Z);have bw := (al.sd (af.sw ((an.swm (ag.swm (cm.sn ah) 1 Z aq) 1 Z am).sos ad ak) 2 4 Z Z Z ae) 2 1 Z Z Z);have bx := (af.bmo (cr.k0 ad) 4 Z ae);have bz := (af.bm ((an.bwm (ag.bwm (ca.k0 ah) 5 Z aq) 5 Z am).k0 ad) 6 4 Z Z Z ae);have b0 := bg;exact ⟨(i2 - 1, r6, au, av, aw, m4), bn, bl, (Xz Z), bj, bs, bt, bu, bv, bw, bx, bz, b0⟩
  have eb := ag.stm aq;have db := ((a5.st ct).st eb);refine Xs go102 (F125.calls H an.ok db c8 (List.mem_append_right _ hm)) Z ?_;rintro _ ec ⟨r5, m4, rfl, H, a1, ed, ee⟩;have b1 := an.wm a1;have cu := Gm.tq cc a1 (hv_mem 0 Z);refine Xb ⟨cu, ?_⟩;refine X3 1 RK Z ?_;have dc := (an.bwm (ag.bwm (cb.k0 ah) 3 Z aq) 3 Z a1);refine Xa (Xm ag42 cL (Ad aa 3) (G ac ai aj) Z (dc.cell Z)) ?_;refine Xb ⟨cu, ?_⟩;refine X3 6 RK Z ?_;have a8 := (an.swm (ag.swm (b8.sn ah) 0 Z aq) 0 Z a1);have a9 := b1.gv a8 0 Z;have ba := b1.drop 0 Z;refine Xs go100 (F126.calls H ba.ok a9 c9 ee) Z ?_;rintro _ c5 ⟨r6, au, av, aw, rfl, H, ad, bb, ak, bc⟩;have bd := Ok.unl (L := [bk ac, bk none, bk none, some aa, bk ab, some b9]) (L' := [bk none, bk none, some aa, bk ab, some b9]) (O := O) b1 ad bb ak;have be := Ow.unl (L := [bk ac, bk none, bk none, some aa, bk ab, some b9]) (L' := [bk none, bk none, some aa, bk ab, some b9]) (O := O) (fun _ _ _ _ _ _ h => h) (.cons _ (.cons_cons _ (.cons_cons _ (.cons_cons _ (.cons_cons _ (.cons_cons _ (.slnil))))))) bc;have af := b1.owns ad bd ak;have ax := Gm.tm cu ad;refine Xb ⟨ax, ?_⟩;refine Xu 7 Z RK ax (Xj fa44_2 (Ad aa 0) (Ad aa 3) Z Z) ?_;refine X3 8 RK Z ?_;have bf := (dc.k0 ad);refine Ys 3 [G au av aw] [vs id, vi r2.Kind, G ab ao ap, G au av aw] bf Z Z sz42 Z Z Z fun c6 ae bg => ?_;have al := af.wr 4 Z ae;have bh := Gm.tq ax ae (hv_mem 1 Z);refine Xb ⟨bh, ?_⟩;refine Yq RK ?_;refine Xd (Xe (vi i2) Z ?_);obtain ⟨bi, H⟩ := H;refine Xa (Yz i2 1 Z Z bi) (Xf (vi (i2 - 1)) Z (Xb ?_));have bj := al.drop 1 Z;obtain ⟨bl, bn⟩ := H;have bo := an.stm a1;have bp := b1.stos ad ak;have bq := af.stw 4 Z ae;have br := al.std 1 Z;have bs := ((((db.st bo).st bp).st bq).st br);have bt := (al.sd (af.sw ((an.swm (ag.swm (b7.sn ah) 4 Z aq) 4 Z a1).sos ad ak) 5 4 Z Z Z ae) 5 1 Z Z Z);have bu := (al.sd (af.sw be 0 4 Z Z Z ae) 0 1 Z Z Z);have bv := (al.sd (af.sw ((an.swm (ag.swm (cl.sn ah) 2 Z aq) 2 Z a1).sos ad ak) 3 4 Z Z Z ae) 3 1 Z Z Z);have bw := (al.sd (af.sw ((an.swm (ag.swm (cm.sn ah) 1 Z aq) 1 Z a1).sos ad ak) 2 4 Z Z Z ae) 2 1 Z Z Z);have bx := (af.bmo (ed.k0 ad) 4 Z ae);have bz := (af.bm ((an.bwm (ag.bwm (ca.k0 ah) 5 Z aq) 5 Z a1).k0 ad) 6 4 Z Z Z ae);have b0 := bg;exact ⟨(i2 - 1, r6, au, av, aw, m4), bn, bl, (Xz Z), bj, bs, bt, bu, bv, bw, bx, bz, b0⟩
 have H := Xo H co;refine Yh (xin_hit ?_);refine Xc (Xd (Xa (Xv ag44 sz44 cL (Ad aa 0) [vs id, vi r2.Kind, G ab ao ap, G ac ai aj] Z Z (cb.cells (off := 00) Z)) (Yd [vs id, vi r2.Kind, G ab ao ap, G ac ai aj] ca Z Z sz44 Z Z fun ef cd eg => ?_)));have ce := a2.wr 5 Z cd;refine Xb (Xl ?_);have eh := ce.bgv eg 5 Z;have cf := ce.drop 5 Z;have cg := cf.drop 1 Z;have ch : Ct [some b] w0 ef [bk ac, some aa, bk ab] O := cg.drop 1 Z;have ci := ch.drop 1 Z;have cv := ci.perm (.swap _ _ _);have ei := cf.std 1 Z;have ej := cg.std 1 Z;have ek := ch.std 1 Z;have el := ci.stp (.swap _ _ _);have em := ((((eh.st ei).st ej).st ek).st el);have en := (ci.sp (ch.sd (cg.sd (cf.sd (ce.sd (a2.sw b7 4 5 Z Z Z cd) 4 5 Z Z Z) 4 1 Z Z Z) 3 1 Z Z Z) 2 1 Z Z Z) (.swap _ _ _));have eo := (ci.sp (ch.sd (cg.sd (cf.sd (ce.sd (a2.sw b8 0 5 Z Z Z cd) 0 5 Z Z Z) 0 1 Z Z Z) 0 1 Z Z Z) 0 1 Z Z Z) (.swap _ _ _));have ep := (a2.bmo cn 5 Z cd);exact ⟨[.agg #[vs id, vi r2.Kind, G ab ao ap, G ac ai aj]], ⟨_, _, Z, em.1.res Z ag44 sz44, Z⟩, (⟨id, r2, xs2⟩ : Feat), z2, ab, ao, ap, ac, ai, aj, Z, H, cv.gr.g1, ep, cv.ok, cv.ge, hs7, en, eo⟩
def F127.E (s : List Feat) (f : Feat) (Q : List Feat → Prop) : Prop :=
 (∃ (I74 : (List Feat) → Bool → Int → Prop) (mu75 : (List Feat) → Bool → Int → Nat), I74 [] false 0 ∧ ∀ (xs2 : List Feat) (done2 : Bool) (i2 : Int), I74 xs2 done2 i2 → (if decide (i2 < (s.length : Int)) then (if !done2 then ((0 : Int) ≤ i2 ∧ i2 < (s.length : Int)) ∧ (if !(Op.bytesLess ((nth s i2).Id) f.Id) then (xs2.length + ([f] : List Feat).length ≤ 268435456) ∧ ((0 : Int) ≤ i2 ∧ i2 < (s.length : Int)) ∧ (if ((nth s i2).Id) != f.Id then ((0 : Int) ≤ i2 ∧ i2 < (s.length : Int)) ∧ ((xs2 ++ ([f] : List Feat)).length + ([(nth s i2)] : List Feat).length ≤ 268435456) ∧ (-9223372036854775808 ≤ i2) ∧ I74 ((xs2 ++ ([f] : List Feat)) ++ ([(nth s i2)] : List Feat)) true (i2 + 1) ∧ mu75 ((xs2 ++ ([f] : List Feat)) ++ ([(nth s i2)] : List Feat)) true (i2 + 1) < mu75 xs2 done2 i2 else (-9223372036854775808 ≤ i2) ∧ I74 (xs2 ++ ([f] : List Feat)) true (i2 + 1) ∧ mu75 (xs2 ++ ([f] : List Feat)) true (i2 + 1) < mu75 xs2 done2 i2) else ((0 : Int) ≤ i2 ∧ i2 < (s.length : Int)) ∧ (if ((nth s i2).Id) != f.Id then ((0 : Int) ≤ i2 ∧ i2 < (s.length : Int)) ∧ (xs2.length + ([(nth s i2)] : List Feat).length ≤ 268435456) ∧ (-9223372036854775808 ≤ i2) ∧ I74 (xs2 ++ ([(nth s i2)] : List Feat)) done2 (i2 + 1) ∧ mu75 (xs2 ++ ([(nth s i2)] : List Feat)) done2 (i2 + 1) < mu75 xs2 done2 i2 else (-9223372036854775808 ≤ i2) ∧ I74 xs2 done2 (i2 + 1) ∧ mu75 xs2 done2 (i2 + 1) < mu75 xs2 done2 i2)) else ((0 : Int) ≤ i2 ∧ i2 < (s.length : Int)) ∧ (if ((nth s i2).Id) != f.Id then ((0 : Int) ≤ i2 ∧ i2 < (s.length : Int)) ∧ (xs2.length + ([(nth s i2)] : List Feat).length ≤ 268435456) ∧ (-9223372036854775808 ≤ i2) ∧ I74 (xs2 ++ ([(nth s i2)] : List Feat)) done2 (i2 + 1) ∧ mu75 (xs2 ++ ([(nth s i2)] : List Feat)) done2 (i2 + 1) < mu75 xs2 done2 i2 else (-9223372036854775808 ≤ i2) ∧ I74 xs2 done2 (i2 + 1) ∧ mu75 xs2 done2 (i2 + 1) < mu75 xs2 done2 i2)) else (if !done2 then (xs2.length + ([f] : List Feat).length ≤ 268435456) ∧ Q (xs2 ++ ([f] : List Feat)) else Q xs2)))
theorem F127.calls {s : List Feat} {A1 : Option Addr} {n2 c3 : Nat} {f : Feat} {A7 : Option Addr} {n8 c9 : Nat} {ag : Option Addr} {ah ai : Nat} {Q : List Feat → Prop} (H : F127.E s f Q) (hO : Ok w0 O) (hp4 : Sl kFeat w0 (Fr O) (G A1 n2 c3) s) (hs6 : Lim f.Id) (dz : Sl kPt w0 (Fr O) (G A7 n8 c9) f.Shape.Pts) (d0 : Sl kTag w0 (Fr O) (G ag ah ai) f.Tags) :
  Ret Tryz.prog 89 [G A1 n2 c3, .agg #[vs f.Id, vi f.Shape.Kind, G A7 n8 c9, G ag ah ai]] w0 (fun v w' => ∃ (r0 : List Feat) (Aw0 : Option Addr) (nw0 cw0 : Nat), v = G Aw0 nw0 cw0 ∧ Q r0 ∧ Gk w0 w' [bk Aw0] O (Ow kFeat 44 w' ([bk Aw0] ++ O) (G Aw0 nw0 cw0) r0)) := by
 unfold F127.E at H;have hc0 := Ct.init hO;refine X9 Tryz.func89 Z 53 Z [.tmp 4] Z Z ?_;refine Xc (Xd (Yp [vs f.Id, vi f.Shape.Kind, G A7 n8 c9, G ag ah ai] Z fun h4 ae d1 hu21 d2 d3 => ?_));have d4 := Fb.mk hc0.ok d1 d3;have c2 := hc0.k0 d2;refine Xf (G none 0 0) Z (Xb (Xc (Xd (X8 (kd := kFeat) Yr c2 ([] : List Feat) (cells := []) Z RF fun h5 c4 c5 c6 d5 hr31 a9 d6 => ?_))));refine Xf (G c4 c5 c6) Z (Xb (Xc (Xd (Xf (vb false) Z (Xb (Xc (Xc (Xd ?_))))))));refine Xf (vi 0) Z (Xb (X6 ?_));obtain ⟨d7, d8, b0, H⟩ := H;have d9 := c2.stown _ d5 hr31;have ea := (d4.st d9);refine Yi (α := (List Feat) × (Option Addr) × Nat × Nat × Bool × Int) (fun (xs2, aa, ac, ad, done2, i2) t an => d7 xs2 done2 i2 ∧ Has t [(0, G A1 n2 c3), (3, Pz ae), (5, G aa ac ad), (6, vb done2), (7, vi i2)] ∧ Cw [] w0 an [bk aa] O fun M => Sl kFeat an (Fr M) (G A1 n2 c3) s ∧ Sl kPt an (Fr M) (G A7 n8 c9) f.Shape.Pts ∧ Sl kTag an (Fr M) (G ag ah ai) f.Tags ∧ Ow kFeat 44 an M (G aa ac ad) xs2 ∧ Fb an M ae [vs f.Id, vi f.Shape.Kind, G A7 n8 c9, G ag ah ai]) (fun (xs2, _, _, _, done2, i2) => d8 xs2 done2 i2) (([] : List Feat), c4, c5, c6, false, 0) ⟨b0, (Xz Z), a9, (hp4.st a9.st), (dz.st a9.st), (d0.st a9.st), d6, ea⟩ ?_;rintro ⟨xs2, aa, ac, ad, done2, i2⟩ _ an ⟨b0, eb, aj, af, ao, ap, ar, a0⟩;obtain ⟨h6, rfl⟩ := Has.ins eb;have H := H xs2 done2 i2 b0;refine Xc (Xc (Xd (Xe (vi i2) Z (Xe (G A1 n2 c3) Z ?_))));have au := af.le;refine Xa (Ya u33_ A1 n2 c3 af.len Z) (Xa (X1 i2 (s.length : Int) (decide (i2 < (s.length : Int))) Z Z Z) (Xb ?_));refine Xy (decide (i2 < (s.length : Int))) Z (fun ak => ?_) (fun ak => ?_)
 ·have H := Xn H ak;refine Xx (Xc (X6 (Xc (Xc (Yy (fun x => Gr an x none) RK RK (Gr.drew _) ?_)))));refine Xw (vb done2) Z (Xg (X7 done2 Z) (Xw (vb (!done2)) Z ?_));rcases X4 (!done2) with ab | ab
  ·have H := Xn H ab;refine Xp ab Z (Xw (G A1 n2 c3) Z (Xp ab Z (Xw (vi i2) Z (Xp ab Z ?_))));obtain ⟨c7, H⟩ := H;obtain ⟨ba, h7, ec, h8, ed, ee⟩ := af.get default RD i2 c7;obtain ⟨h9, ia, ib, ic, id, ie, rfl, ig, ih, ii⟩ := kFeat.op ed;refine Xg (X5 u33_ Y1 A1 ba n2 c3 af.len i2 Z ec Z c7) (Xp ab Z (Xg (Xj fa44_0 (ba.add (i2.toNat * 4)) ((ba.add (i2.toNat * 4)).add 0) Z Z) (Xp ab Z (Xg (Xm ag9 cQ ((ba.add (i2.toNat * 4)).add 0) (vs ((nth s i2).Id)) Z (ee 0 _ Z)) (Xp ab Z (Xg (Xj fa44_0 (Ad ae 0) (Ad ae 0) Z Z) (Xp ab Z (Xg (Xm ag9 cQ (Ad ae 0) (vs f.Id) Z (a0.cell Z)) ?_))))))));refine Xp ab Z (Xg (Yo ((nth s i2).Id) f.Id (!(Op.bytesLess ((nth s i2).Id) f.Id)) Z Z Z) (Xg (Yt true (vb (!(Op.bytesLess ((nth s i2).Id) f.Id))) (by exact congrArg Value.bool ab) Z) (Yc fun ef av => ?_)));have a1 := aj.k0 av;refine Xy (!(Op.bytesLess ((nth s i2).Id) f.Id)) Z (fun b1 => ?_) (fun b1 => ?_)
   ·have H := Xn H b1;refine Xc (Xd (Xe (G aa ac ad) Z ?_));have aq := aj.stn av;have c8 := (a0.st aq);refine Xa (Xv ag44 sz44 cL (Ad ae 0) [vs f.Id, vi f.Shape.Kind, G A7 n8 c9, G ag ah ai] Z Z (c8.cells (off := 00) Z)) (X8 (kd := kFeat) Yr a1 ([f] : List Feat) (cells := [vs f.Id, vi f.Shape.Kind, G A7 n8 c9, G ag ah ai]) ⟨[vs f.Id, vi f.Shape.Kind, G A7 n8 c9, G ag ah ai], _, Z, (kFeat.mk _ _ f hs6 (ao.st aq) (ap.st aq)), Z⟩ RF fun ij eg eh ei da hr115 ej ek => ?_);obtain ⟨el, H⟩ := H;have em := ((ar.sn av).so _ da hr115);refine Ye Yr ej (G aa ac ad) xs2 ([f] : List Feat) Z em (G eg eh ei) Z ek.sx 1 Z el fun en bb bc bd ik aw b2 db => ?_;refine Xf (G bb bc bd) Z (Xb (Xd (Xf (vb true) Z (Xb (Xc (Yy (fun x => Gr en x none) RK RK (Gr.drew _) ?_))))));refine Xw (G A1 n2 c3) Z (Xw (vi i2) Z ?_);obtain ⟨dc, H⟩ := H;have ax := a1.stown _ da hr115;have ay := (((af.st aq).st ax).st aw);obtain ⟨be, il, eo, im, ep, eq⟩ := ay.get default RD i2 dc;obtain ⟨io, ip, iq, ir, it, iu, rfl, iv, iw, ix⟩ := kFeat.op ep;refine Xg (X5 u33_ Y1 A1 be n2 c3 ay.len i2 Z eo Z dc) (Xg (Xj fa44_0 (be.add (i2.toNat * 4)) ((be.add (i2.toNat * 4)).add 0) Z Z) (Xg (Xm ag9 cQ ((be.add (i2.toNat * 4)).add 0) (vs ((nth s i2).Id)) Z (eq 0 _ Z)) (Xg (Xj fa44_0 (Ad ae 0) (Ad ae 0) Z Z) ?_)));have b3 := ((c8.st ax).st aw);refine Xg (Xm ag9 cQ (Ad ae 0) (vs f.Id) Z (b3.cell Z)) (Xg (Yo ((nth s i2).Id) f.Id (((nth s i2).Id) != f.Id) Z Z Z) (Yc fun iy a2 => ?_));have a3 := b2.k0 a2;refine Xy (((nth s i2).Id) != f.Id) Z (fun b4 => ?_) (fun b4 => ?_)
    ·have H := Xn H b4;refine Xd (Xe (G bb bc bd) Z (Xe (G A1 n2 c3) Z (Xe (vi i2) Z ?_)));obtain ⟨dd, H⟩ := H;have az := b2.stn a2;obtain ⟨de, iz, er, i0, es, et⟩ := (ay.st az).get default RD i2 dd;obtain ⟨b5, b6, b7, b8, b9, ca, rfl, eu, ev, ew⟩ := kFeat.op es;refine Xa (X5 u33_ Y1 A1 de n2 c3 (ay.st az).len i2 Z er Z dd) (Xa (Xv ag44 sz44 cL (de.add (i2.toNat * 4)) [vs ((nth s i2).Id), vi ((nth s i2).Shape.Kind), G b5 b6 b7, G b8 b9 ca] Z Z et) (X8 (kd := kFeat) Yr a3 ([(nth s i2)] : List Feat) (cells := [vs ((nth s i2).Id), vi ((nth s i2).Shape.Kind), G b5 b6 b7, G b8 b9 ca]) ⟨[vs ((nth s i2).Id), vi ((nth s i2).Shape.Kind), G b5 b6 b7, G b8 b9 ca], _, Z, (kFeat.mk _ _ (nth s i2) eu ev ew), Z⟩ RF fun i1 ex ey ez df hr180 e0 e1 => ?_));obtain ⟨e2, H⟩ := H;have e3 := ((db.sn a2).so _ df hr180);refine Ye Yr e0 (G bb bc bd) (xs2 ++ ([f] : List Feat)) ([(nth s i2)] : List Feat) Z e3 (G ex ey ez) Z e1.sx 2 Z e2 fun i3 dg dh di i4 bf cb e4 => ?_;refine Xf (G dg dh di) Z (Xb (Xd (Xe (vi i2) Z ?_)));obtain ⟨e5, H⟩ := H;have e6 : I64 (i2 + 1) := i64_succ (of_decide_eq_true ak) au e5;refine Xa (Yb i2 1 Z Z e6) (Xf (vi (i2 + 1)) Z (Xb ?_));have cc := cb.drop 0 Z;have e7 := cc.drop 0 Z;obtain ⟨e8, e9⟩ := H;have bg := a3.stown _ df hr180;have bh := cb.std 0 Z;have bi := cc.std 0 Z;have fa := (((((ay.st az).st bg).st bf).st bh).st bi);have fb := ((((((((ao.st aq).st ax).st aw).st az).st bg).st bf).st bh).st bi);have fc := ((((((((ap.st aq).st ax).st aw).st az).st bg).st bf).st bh).st bi);have fd := (cc.sd (cb.sd e4 2 0 Z Z Z) 1 0 Z Z Z);have fe := (((((b3.st az).st bg).st bf).st bh).st bi);exact ⟨(((xs2 ++ ([f] : List Feat)) ++ ([(nth s i2)] : List Feat)), dg, dh, di, true, i2 + 1), e9, e8, (Xz Z), e7, fa, fb, fc, fd, fe⟩
    have H := Xo H b4;refine Xx (Xd (Xe (vi i2) Z ?_));obtain ⟨ff, H⟩ := H;have fg : I64 (i2 + 1) := i64_succ (of_decide_eq_true ak) au ff;refine Xa (Yb i2 1 Z Z fg) (Xf (vi (i2 + 1)) Z (Xb ?_));have fh := a3.drop 0 Z;obtain ⟨fi, fj⟩ := H;have bj := b2.stn a2;have bl := a3.std 0 Z;have fk := ((ay.st bj).st bl);have fl := (((((ao.st aq).st ax).st aw).st bj).st bl);have fm := (((((ap.st aq).st ax).st aw).st bj).st bl);have fn := (a3.sd (db.sn a2) 1 0 Z Z Z);have fo := ((b3.st bj).st bl);exact ⟨((xs2 ++ ([f] : List Feat)), bb, bc, bd, true, i2 + 1), fj, fi, (Xz Z), fh, fk, fl, fm, fn, fo⟩
   have H := Xo H b1;refine Xx (Xc (Yy (fun x => Gr ef x none) RK RK (Gr.drew _) ?_));refine Xw (G A1 n2 c3) Z (Xw (vi i2) Z ?_);obtain ⟨dj, H⟩ := H;have al := aj.stn av;obtain ⟨bm, i5, fp, i6, fq, fr⟩ := (af.st al).get default RD i2 dj;obtain ⟨i7, i8, i9, ja, jb, jc, rfl, jd, je, jf⟩ := kFeat.op fq;refine Xg (X5 u33_ Y1 A1 bm n2 c3 (af.st al).len i2 Z fp Z dj) (Xg (Xj fa44_0 (bm.add (i2.toNat * 4)) ((bm.add (i2.toNat * 4)).add 0) Z Z) (Xg (Xm ag9 cQ ((bm.add (i2.toNat * 4)).add 0) (vs ((nth s i2).Id)) Z (fr 0 _ Z)) (Xg (Xj fa44_0 (Ad ae 0) (Ad ae 0) Z Z) ?_)));have cd := (a0.st al);refine Xg (Xm ag9 cQ (Ad ae 0) (vs f.Id) Z (cd.cell Z)) (Xg (Yo ((nth s i2).Id) f.Id (((nth s i2).Id) != f.Id) Z Z Z) (Yc fun jg a4 => ?_));have ce := a1.k0 a4;refine Xy (((nth s i2).Id) != f.Id) Z (fun cf => ?_) (fun cf => ?_)
   ·have H := Xn H cf;refine Xd (Xe (G aa ac ad) Z (Xe (G A1 n2 c3) Z (Xe (vi i2) Z ?_)));obtain ⟨dk, H⟩ := H;have bn := a1.stn a4;have cg := ((af.st al).st bn);obtain ⟨dl, jh, fs, ji, ft, fu⟩ := cg.get default RD i2 dk;obtain ⟨ch, ci, cj, ck, cl, cm, rfl, fv, fw, fx⟩ := kFeat.op ft;refine Xa (X5 u33_ Y1 A1 dl n2 c3 cg.len i2 Z fs Z dk) (Xa (Xv ag44 sz44 cL (dl.add (i2.toNat * 4)) [vs ((nth s i2).Id), vi ((nth s i2).Shape.Kind), G ch ci cj, G ck cl cm] Z Z fu) (X8 (kd := kFeat) Yr ce ([(nth s i2)] : List Feat) (cells := [vs ((nth s i2).Id), vi ((nth s i2).Shape.Kind), G ch ci cj, G ck cl cm]) ⟨[vs ((nth s i2).Id), vi ((nth s i2).Shape.Kind), G ch ci cj, G ck cl cm], _, Z, (kFeat.mk _ _ (nth s i2) fv fw fx), Z⟩ RF fun jj fy fz f0 dm hr271 f1 f2 => ?_));obtain ⟨f3, H⟩ := H;have f4 := (((ar.sn av).sn a4).so _ dm hr271);refine Ye Yr f1 (G aa ac ad) xs2 ([(nth s i2)] : List Feat) Z f4 (G fy fz f0) Z f2.sx 1 Z f3 fun jk dn dp dq jl bo cn f5 => ?_;refine Xf (G dn dp dq) Z (Xb (Xd (Xe (vi i2) Z ?_)));obtain ⟨f6, H⟩ := H;have f7 : I64 (i2 + 1) := i64_succ (of_decide_eq_true ak) au f6;refine Xa (Yb i2 1 Z Z f7) (Xf (vi (i2 + 1)) Z (Xb ?_));have f8 := cn.drop 0 Z;obtain ⟨f9, ga⟩ := H;have bp := ce.stown _ dm hr271;have bq := cn.std 0 Z;have gb := (((cg.st bp).st bo).st bq);have gc := (((((ao.st al).st bn).st bp).st bo).st bq);have gd := (((((ap.st al).st bn).st bp).st bo).st bq);have gf := (cn.sd f5 1 0 Z Z Z);have gg := ((((cd.st bn).st bp).st bo).st bq);exact ⟨((xs2 ++ ([(nth s i2)] : List Feat)), dn, dp, dq, done2, i2 + 1), ga, f9, (Xz Z), f8, gb, gc, gd, gf, gg⟩
   have H := Xo H cf;refine Xx (Xd (Xe (vi i2) Z ?_));obtain ⟨gh, H⟩ := H;have gi : I64 (i2 + 1) := i64_succ (of_decide_eq_true ak) au gh;refine Xa (Yb i2 1 Z Z gi) (Xf (vi (i2 + 1)) Z (Xb ?_));obtain ⟨gj, gk⟩ := H;have br := a1.stn a4;have gl := ((af.st al).st br);have gm := ((ao.st al).st br);have gn := ((ap.st al).st br);have gp := ((ar.sn av).sn a4);have gq := (cd.st br);exact ⟨(xs2, aa, ac, ad, done2, i2 + 1), gk, gj, (Xz Z), ce, gl, gm, gn, gp, gq⟩
  have H := Xo H ab;refine Xq ab Z (Xq ab Z (Xq ab Z (Xq ab Z (Xq ab Z (Xq ab Z (Xq ab Z (Xq ab Z (Xg (Xk false (vb false) ab Z) ?_))))))));refine Yc fun gs bs => ?_;have co := aj.k0 bs;refine Y2 (b := false) Z Z ?_;refine Xx (Xc (Yy (fun x => Gr gs x none) RK RK (Gr.drew _) ?_));refine Xw (G A1 n2 c3) Z (Xw (vi i2) Z ?_);obtain ⟨dr, H⟩ := H;have am := aj.stn bs;obtain ⟨bt, jm, gt, jn, gu, gv⟩ := (af.st am).get default RD i2 dr;obtain ⟨jo, jp, jq, jr, js, jt, rfl, ju, jv, jw⟩ := kFeat.op gu;refine Xg (X5 u33_ Y1 A1 bt n2 c3 (af.st am).len i2 Z gt Z dr) (Xg (Xj fa44_0 (bt.add (i2.toNat * 4)) ((bt.add (i2.toNat * 4)).add 0) Z Z) (Xg (Xm ag9 cQ ((bt.add (i2.toNat * 4)).add 0) (vs ((nth s i2).Id)) Z (gv 0 _ Z)) (Xg (Xj fa44_0 (Ad ae 0) (Ad ae 0) Z Z) ?_)));have cp := (a0.st am);refine Xg (Xm ag9 cQ (Ad ae 0) (vs f.Id) Z (cp.cell Z)) (Xg (Yo ((nth s i2).Id) f.Id (((nth s i2).Id) != f.Id) Z Z Z) (Yc fun jx a5 => ?_));have cq := co.k0 a5;refine Xy (((nth s i2).Id) != f.Id) Z (fun cr => ?_) (fun cr => ?_)
  ·have H := Xn H cr;refine Xd (Xe (G aa ac ad) Z (Xe (G A1 n2 c3) Z (Xe (vi i2) Z ?_)));obtain ⟨ds, H⟩ := H;have bu := co.stn a5;have cs := ((af.st am).st bu);obtain ⟨dt, jy, gw, jz, gx, gy⟩ := cs.get default RD i2 ds;obtain ⟨ct, cu, cv, cw, cx, cy, rfl, gz, g1, g2⟩ := kFeat.op gx;refine Xa (X5 u33_ Y1 A1 dt n2 c3 cs.len i2 Z gw Z ds) (Xa (Xv ag44 sz44 cL (dt.add (i2.toNat * 4)) [vs ((nth s i2).Id), vi ((nth s i2).Shape.Kind), G ct cu cv, G cw cx cy] Z Z gy) (X8 (kd := kFeat) Yr cq ([(nth s i2)] : List Feat) (cells := [vs ((nth s i2).Id), vi ((nth s i2).Shape.Kind), G ct cu cv, G cw cx cy]) ⟨[vs ((nth s i2).Id), vi ((nth s i2).Shape.Kind), G ct cu cv, G cw cx cy], _, Z, (kFeat.mk _ _ (nth s i2) gz g1 g2), Z⟩ RF fun j0 g3 g4 g5 du hr362 g6 g7 => ?_));obtain ⟨g8, H⟩ := H;have g9 := (((ar.sn bs).sn a5).so _ du hr362);refine Ye Yr g6 (G aa ac ad) xs2 ([(nth s i2)] : List Feat) Z g9 (G g3 g4 g5) Z g7.sx 1 Z g8 fun j1 dv dw dx j2 bv cz ha => ?_;refine Xf (G dv dw dx) Z (Xb (Xd (Xe (vi i2) Z ?_)));obtain ⟨hb, H⟩ := H;have hc : I64 (i2 + 1) := i64_succ (of_decide_eq_true ak) au hb;refine Xa (Yb i2 1 Z Z hc) (Xf (vi (i2 + 1)) Z (Xb ?_));have hd := cz.drop 0 Z;obtain ⟨he, hf⟩ := H;have bw := cq.stown _ du hr362;have bx := cz.std 0 Z;have hg := (((cs.st bw).st bv).st bx);have hh := (((((ao.st am).st bu).st bw).st bv).st bx);have hi := (((((ap.st am).st bu).st bw).st bv).st bx);have hj := (cz.sd ha 1 0 Z Z Z);have hk := ((((cp.st bu).st bw).st bv).st bx);exact ⟨((xs2 ++ ([(nth s i2)] : List Feat)), dv, dw, dx, done2, i2 + 1), hf, he, (Xz Z), hd, hg, hh, hi, hj, hk⟩
  have H := Xo H cr;refine Xx (Xd (Xe (vi i2) Z ?_));obtain ⟨hl, H⟩ := H;have hm : I64 (i2 + 1) := i64_succ (of_decide_eq_true ak) au hl;refine Xa (Yb i2 1 Z Z hm) (Xf (vi (i2 + 1)) Z (Xb ?_));obtain ⟨hn, ho⟩ := H;have bz := co.stn a5;have hp := ((af.st am).st bz);have hq := ((ao.st am).st bz);have hr := ((ap.st am).st bz);have hs := ((ar.sn bs).sn a5);have ht := (cp.st bz);exact ⟨(xs2, aa, ac, ad, done2, i2 + 1), ho, hn, (Xz Z), cq, hp, hq, hr, hs, ht⟩
 have H := Xo H ak;refine Yh (xin_hit ?_);refine Xc (Xc (Xd (Xe (vb done2) Z (Xa (X7 done2 Z) (Xb ?_)))));refine Xy (!done2) Z (fun c0 => ?_) (fun c0 => ?_)
 ·have H := Xn H c0;refine Xd (Xe (G aa ac ad) Z (Xa (Xv ag44 sz44 cL (Ad ae 0) [vs f.Id, vi f.Shape.Kind, G A7 n8 c9, G ag ah ai] Z Z (a0.cells (off := 00) Z)) (X8 (kd := kFeat) Yr aj ([f] : List Feat) (cells := [vs f.Id, vi f.Shape.Kind, G A7 n8 c9, G ag ah ai]) ⟨[vs f.Id, vi f.Shape.Kind, G A7 n8 c9, G ag ah ai], _, Z, (kFeat.mk _ _ f hs6 ao ap), Z⟩ RF fun j3 hu hv hw hx hr405 hy hz => ?_)));obtain ⟨h0, H⟩ := H;have h1 := (ar.so _ hx hr405);refine Ye Yr hy (G aa ac ad) xs2 ([f] : List Feat) Z h1 (G hu hv hw) Z hz.sx 1 Z h0 fun j4 a6 a7 a8 j5 j6 dy h2 => ?_;refine Xf (G a6 a7 a8) Z (Xb (Xc (Xd (Xe (G a6 a7 a8) Z (Xf (G a6 a7 a8) Z (Xb (Xl ?_)))))));have c1 := dy.drop 0 Z;have h3 := (dy.sd h2 1 0 Z Z Z);exact ⟨[G a6 a7 a8], ⟨_, Z, Z⟩, (xs2 ++ ([f] : List Feat)), a6, a7, a8, Z, H, c1.gr.g0, c1.ok, c1.ge, h3⟩
 have H := Xo H c0;exact Xx (Xc (Xd (Xe (G aa ac ad) Z (Xf (G aa ac ad) Z (Xb (Xl ⟨[G aa ac ad], ⟨_, Z, Z⟩, xs2, aa, ac, ad, Z, H, aj.gr.g0, aj.ok, aj.ge, ar⟩))))))
def F71.E (r_b : List UInt8) (r_p : Int) (Q : List Feat → Int → Prop) : Prop :=
 F22.E r_b r_p 5 (fun r2 m => (∃ (I50 : (List Feat) → Int → Int → Prop) (mu51 : (List Feat) → Int → Int → Nat), I50 [] r2 m ∧ ∀ (xs2 : List Feat) (i2 z2 : Int), I50 xs2 i2 z2 → (if decide (i2 > 0) then F137.E r_b z2 (fun r3 m2 => F81.E r_b m2 r3 (fun r4 m3 => F127.E xs2 r4 (fun r5 => (I64 (i2 - 1)) ∧ I50 r5 (i2 - 1) m3 ∧ mu51 r5 (i2 - 1) m3 < mu51 xs2 i2 z2))) else Q xs2 z2)))
theorem F71.calls {b : Nat} {r_b : List UInt8} {A2 : Option Addr} {n3 c4 : Nat} {r_p : Int} {Q : List Feat → Int → Prop} (H : F71.E r_b r_p Q) (hO : Ok w0 O) (hp5 : Sl Kd.byte w0 (Fr O) (G A2 n3 c4) r_b) (hp0 : Bx w0 b [G A2 n3 c4, vi r_p]) (hm : some b ∈ O) :
  Ret Tryz.prog 48 [Pz b] w0 (fun v w' => ∃ (r0 : List Feat) (m0 : Int) (Aw0 : Option Addr) (nw0 cw0 : Nat), v = G Aw0 nw0 cw0 ∧ Q r0 m0 ∧ Gr w0 w' (some b) ∧ Bx w' b [G A2 n3 c4, vi m0] ∧ Ok w' ([bk Aw0] ++ O) ∧ (∀ b, some b ∈ [bk Aw0] → w0.heap.size ≤ b) ∧ Ow kFeat 44 w' ([bk Aw0] ++ O) (G Aw0 nw0 cw0) r0) := by
 unfold F71.E at H;have hc0 := Ct.initm1 (r := some b) hO (by intro b e; cases e; exact hm);refine X9 Tryz.func48 Z 19 Z [.tmp 2] Z Z ?_;refine Xc (Xd (Xf (G none 0 0) Z (Xb (Xc (Xd (X8 (kd := kFeat) Yr hc0 ([] : List Feat) (cells := []) Z RF fun w7 A8 n9 av bd hr12 ag be => ?_))))));refine Xf (G A8 n9 av) Z (Xb (Xc (Xc (Xd (Xe (Pz b) Z ?_)))));have bf := (hp0.k0 bd);refine Xs go47 (F22.calls H ag.ok (hp5.st ag.st) bf (List.mem_append_right _ hm)) Z ?_;rintro _ cd ⟨r2, m, rfl, H, aw, bg⟩;have ax := ag.wm aw;refine Xf (vi r2) Z (Xb (X6 ?_));obtain ⟨bh, bi, aj, H⟩ := H;have bj := (ag.swm be 0 Z aw);refine Yi (α := (List Feat) × (Option Addr) × Nat × Nat × Int × Int) (fun (xs2, aa, ab, ac, i2, z2) t ae => bh xs2 i2 z2 ∧ Has t [(0, Pz b), (3, G aa ab ac), (4, vi i2)] ∧ Cw [some b] w0 ae [bk aa] O fun M => Sl Kd.byte ae (Fr M) (G A2 n3 c4) r_b ∧ Ow kFeat 44 ae M (G aa ab ac) xs2 ∧ Bx ae b [G A2 n3 c4, vi z2]) (fun (xs2, _, _, _, i2, z2) => bi xs2 i2 z2) (([] : List Feat), A8, n9, av, r2, m) ⟨aj, (Xz Z), ax, (hp5.st ax.st), bj, bg⟩ ?_;rintro ⟨xs2, aa, ab, ac, i2, z2⟩ _ ae ⟨aj, bl, ad, ak, ay, az⟩;obtain ⟨ce, rfl⟩ := Has.ins bl;have H := H xs2 i2 z2 aj;refine Xc (Xc (Xd (Xe (vi i2) Z (Xa (X1 i2 0 (decide (i2 > 0)) Z Z Z) (Xb ?_)))));refine Xy (decide (i2 > 0)) Z (fun al => ?_) (fun al => ?_)
 ·have H := Xn H al;refine Xx (Xc (X6 (Xd (Xe (G aa ab ac) Z (Xe (Pz b) Z (Xe (Pz b) Z ?_))))));refine Xs go98 (F137.calls H ad.ok ak az (List.mem_append_right _ hm)) Z ?_;rintro _ bm ⟨r3, m2, rfl, H, am, bn, bo⟩;have ah := ad.wm am;have a0 := ad.stm am;refine Xs go61 (F81.calls H ah.ok (ak.st a0) bn (List.mem_append_right _ hm) bo) Z ?_;rintro _ a1 ⟨r4, m3, a2, a3, a4, a5, a6, a7, rfl, H, an, bp, bq, ao, br, bs, bt⟩;have af := ah.ownm an bq ao;have bu := (ah.som (ad.swm ay 0 Z am) 0 Z an ao);have bv := af.gv bu 2 Z;have ai := af.drop 2 Z;have bw := (af.sd bs 0 2 Z Z Z);have bx := ai.gv bw 0 Z;have ap := ai.drop 0 Z;have bz := (ai.sd (af.sd bt 1 2 Z Z Z) 1 0 Z Z Z);have b0 := ap.gv bz 0 Z;have aq : Ct [some b] w0 a1 [] O := ap.drop 0 Z;have a8 := ai.std 0 Z;have ar := ap.std 0 Z;have b1 := ((bv.st a8).st ar);refine Xs go89 (F127.calls H aq.ok b1 br (bx.st ar) b0) Z ?_;rintro _ cf ⟨r5, a9, ba, bb, rfl, H, au, b2, bc, b3⟩;have b4 := aq.owns au b2 bc;refine Xf (G a9 ba bb) Z (Xb (Xd (Xe (vi i2) Z ?_)));obtain ⟨b5, H⟩ := H;refine Xa (Yz i2 1 Z Z b5) (Xf (vi (i2 - 1)) Z (Xb ?_));obtain ⟨b6, b7⟩ := H;have b8 := ah.stom an ao;have b9 := af.std 2 Z;have ca := aq.stos au bc;have cb := ((((((ak.st a0).st b8).st b9).st a8).st ar).st ca);have cc := (bp.k0 au);exact ⟨(r5, a9, ba, bb, i2 - 1, m3), b7, b6, (Xz Z), b4, cb, b3, cc⟩
 have H := Xo H al;refine Yh (xin_hit ?_);exact Xc (Xd (Xe (G aa ab ac) Z (Xf (G aa ab ac) Z (Xb (Xl ⟨[G aa ab ac], ⟨_, Z, Z⟩, xs2, z2, aa, ab, ac, Z, H, ad.gr.g1, az, ad.ok, ad.ge, ay⟩)))))
section
section
variable {P : Program} {n : Nat} {N R : Ps} {X : Nat → Ps} {t : Tm} {w : World} {ops : Array Oper} {C : World → Prop} {listed : Array Bool} {m : Nat}
theorem Kg (i j l : Nat) {o o' o'' : Oper} (hr : Region.ready .any ops listed = [i, j, l]) (hi : ops[i]? = some o) (hj : ops[j]? = some o') (hl : ops[l]? = some o'')
  (k : L P n ops (fun t' w' => C w' ∧ M P n ops C N R X m (listed.setIfInBounds i true) t' w') R X [o] t w)
  (k' : L P n ops (fun t' w' => C w' ∧ M P n ops C N R X m (listed.setIfInBounds j true) t' w') R X [o'] t w)
  (k'' : L P n ops (fun t' w' => C w' ∧ M P n ops C N R X m (listed.setIfInBounds l true) t' w') R X [o''] t w) : M P n ops C N R X (m + 1) listed t w := by
 unfold M
 refine ⟨fun h => (by rw [hr] at h; cases h), fun q hq => ?_⟩
 rw [hr] at hq
 rcases (by simpa using hq : q = i ∨ q = j ∨ q = l) with rfl | rfl | rfl
 ·exact wpOp_mono (fun a' w' ⟨t', e, h⟩ => by rw [e]; unfold M at h; exact h) (Zk hi k)
 ·exact wpOp_mono (fun a' w' ⟨t', e, h⟩ => by rw [e]; unfold M at h; exact h) (Zk hj k')
 ·exact wpOp_mono (fun a' w' ⟨t', e, h⟩ => by rw [e]; unfold M at h; exact h) (Zk hl k'')
end
end
def F93.E (r_b : List UInt8) (r_p : Int) (Q : Shape → Int → Prop) : Prop :=
 F70.E r_b r_p (fun r2 m => F22.E r_b m (r2.Pts.length : Int) (fun r3 m2 => F22.E r_b m2 40 (fun r4 m3 => (if r4 == 0 then F37.E r_b m3 ([0, 4, 1, 2, 3] : List Int) (fun r5 m4 => Q (⟨r5, r2.Pts⟩ : Shape) m4) else (if r4 == 1 then F37.E r_b m3 ([1000, 1001, (-1001)] : List Int) (fun r6 m5 => ((0 : Int) ≤ r3 ∧ r3 < (r2.Pts.length : Int)) ∧ Q (⟨r2.Kind, (r2.Pts.set r3.toNat (⟨r6, (nth r2.Pts r3).Y⟩ : Pt))⟩ : Shape) m5) else (if r4 == 2 then ((r2.Pts.length : Int) ≤ 9223372036854775807 → I64 ((r2.Pts.length : Int) - 1)) ∧ ((0 : Int) ≤ (r2.Pts.length : Int) - 1 ∧ (r2.Pts.length : Int) - 1 < (r2.Pts.length : Int)) ∧ (r2.Pts.length + ([(nth r2.Pts ((r2.Pts.length : Int) - 1))] : List Pt).length ≤ 268435456) ∧ Q (⟨r2.Kind, (r2.Pts ++ ([(nth r2.Pts ((r2.Pts.length : Int) - 1))] : List Pt))⟩ : Shape) m3 else (if r4 == 3 then ((0 : Int) ≤ 0 ∧ (0 : Int) ≤ r3 ∧ r3 ≤ (r2.Pts.length : Int)) ∧ Q (⟨r2.Kind, ((r2.Pts.drop (0 : Int).toNat).take (r3.toNat - (0 : Int).toNat))⟩ : Shape) m3 else Q r2 m3)))))))
theorem F93.calls {b : Nat} {r_b : List UInt8} {A2 : Option Addr} {n3 c4 : Nat} {r_p : Int} {Q : Shape → Int → Prop} (H : F93.E r_b r_p Q) (hO : Ok w0 O) (hp5 : Sl Kd.byte w0 (Fr O) (G A2 n3 c4) r_b) (hp0 : Bx w0 b [G A2 n3 c4, vi r_p]) (hm : some b ∈ O) :
  Ret Tryz.prog 114 [Pz b] w0 (fun v w' => ∃ (r0 : Shape) (m0 : Int) (Aw0 : Option Addr) (nw0 cw0 : Nat), v = .agg #[vi r0.Kind, G Aw0 nw0 cw0] ∧ Q r0 m0 ∧ Gr w0 w' (some b) ∧ Bx w' b [G A2 n3 c4, vi m0] ∧ Sl kPt w' (Fr O) (G Aw0 nw0 cw0) r0.Pts) := by
 unfold F93.E at H;have hc0 := Ct.initm1 (r := some b) hO (by intro b e; cases e; exact hm);refine X9 Tryz.func114 Z 53 Z [.cell 2 41] Z Z ?_;refine Xc (Xd (Yk [.int .i64 0, G none 0 0] ze41 fun w7 b8 ek hu11 g9 bl => ?_));have a9 := hc0.own g9 (some b8) (Yj ek hu11);refine Xb (Xc (Xd (Xe (Pz b) Z ?_)));have el := (hp0.k0 g9);refine Xs go113 (F70.calls H a9.ok (hp5.st a9.st) el (List.mem_append_right _ hm)) Z ?_;rintro _ hb ⟨r2, m, ab, ac, ad, rfl, H, bd, em, en, eo, ep⟩;have eq := a9.ownm bd en eo;refine Yk [.int .i64 0, G none 0 0] ze41 fun hc aa d1 hu31 ba er => ?_;have bb := eq.own ba (some aa) (Yj d1 hu31);refine Yd [vi r2.Kind, G ab ac ad] er Z Z sz41 Z Z fun es bc b2 => ?_;have al := bb.wr 0 Z bc;refine Xb (Xc (Xd (Xe (Pz b) Z (Xa (Xj fa41_1 (Ad aa 0) (Ad aa 1) Z Z) (Xa (Xm ag39 cL (Ad aa 1) (G ab ac ad) Z (b2.cell Z)) ?_)))));have bq := (bb.sw (ep.so _ ba (X2 d1)) 1 0 Z Z Z bc);have ck := bq.le;refine Xa (Ya u39_ ab ac ad bq.len Z) ?_;have et := (bb.bmo (em.k0 ba) 0 Z bc);refine Xs go47 (F22.calls H al.ok (hp5.st al.st) et (List.mem_append_right _ hm)) Z ?_;rintro _ eu ⟨r3, m2, rfl, H, an, ev⟩;have am := al.wm an;refine Xf (vi r3) Z (Xb (Xc (Xc (Xd (Xe (Pz b) Z ?_)))));refine Xs go47 (F22.calls H am.ok (hp5.st am.st) ev (List.mem_append_right _ hm)) Z ?_;rintro _ hd ⟨r4, m3, rfl, H, ao, bn⟩;have b3 := am.wm ao;refine Xb (X6 (Xc (Xd (Xa (X1 r4 0 (r4 == 0) Z Z Z) (Xf (vb (r4 == 0)) Z (Xb ?_))))));refine Xy (r4 == 0) Z (fun c3 => ?_) (fun c3 => ?_)
 ·have H := Xn H c3;refine Xd (Xe (Pz b) Z (X8 (kd := (Kd.int .i64)) Zt b3 ([0, 4, 1, 2, 3] : List Int) (cells := [vi 0, vi 4, vi 1, vi 2, vi 3]) ⟨[vi 0], _, Z, Z, ⟨[vi 4], _, Z, Z, ⟨[vi 1], _, Z, Z, ⟨[vi 2], _, Z, Z, ⟨[vi 3], _, Z, Z, Z⟩⟩⟩⟩⟩ RF fun ew d2 d3 d4 cu hr60 ci ex => ?_));have ey := ci.gv ex 0 Z;have d5 := ci.drop 0 Z;have ez := (bn.k0 cu);refine Xs go146 (F37.calls H d5.ok (hp5.st d5.st) ez (List.mem_append_right _ hm) ey) Z ?_;rintro _ he ⟨r5, m4, rfl, H, cv, e0⟩;have cw := ci.wm cv;refine Xa (Xj fa41_0 (Ad aa 0) (Ad aa 0) Z Z) ?_;have e1 := (ci.bwm ((am.bwm (al.bwm b2 0 Z an) 0 Z ao).k0 cu) 1 Z cv);refine Ys 0 [vi r5] [vi r5, G ab ac ad] e1 Z Z sz3 Z Z Z fun hf cx e2 => ?_;have c5 := cw.wr 1 Z cx;refine Xb (Xc (Xd (Xa (Xv ag41 sz41 cL (Ad aa 0) [vi r5, G ab ac ad] Z Z (e2.cells (off := 00) Z)) ?_)));have e3 := (cw.bm (ci.bwm ((am.bwm (al.bwm (bb.bm ((a9.bwm bl 0 Z bd).k0 ba) 2 0 Z Z Z bc) 2 Z an) 2 Z ao).k0 cu) 3 Z cv) 3 1 Z Z Z cx);refine Yd [vi r5, G ab ac ad] e3 Z Z sz41 Z Z fun hg c6 e4 => ?_;have c7 := c5.wr 3 Z c6;refine Xb (Xl ?_);have e5 := c7.bgv e4 3 Z;have c8 := c7.drop 3 Z;have e6 := (c7.sd (c5.sw (cw.sw (ci.swm ((am.swm (al.swm bq 1 Z an) 1 Z ao).so _ cu hr60) 2 Z cv) 2 1 Z Z Z cx) 2 3 Z Z Z c6) 2 3 Z Z Z);have e7 := c8.gv e6 2 Z;have e8 := c8.drop 2 Z;have e9 := e8.clear;have fa := c8.std 2 Z;have fb := ((e5.st fa).st St.clear);have fc := (c5.bmo (cw.bmo e0 1 Z cx) 3 Z c6);exact ⟨[.agg #[vi r5, G ab ac ad]], ⟨_, _, Z, fb.1.res Z ag41 sz41, Z⟩, (⟨r5, r2.Pts⟩ : Shape), m4, ab, ac, ad, Z, H, e9.gr.g1, fc, (e7.st St.clear)⟩
 have H := Xo H c3;refine Xc (Xd (Xa (X1 r4 1 (r4 == 1) Z Z Z) (Xf (vb (r4 == 1)) Z (Xb ?_))));refine Xy (r4 == 1) Z (fun c9 => ?_) (fun c9 => ?_)
 ·have H := Xn H c9;refine Y7 9 [some b, bk ab] RK Z fun hh cl cm => ?_;have da := b3.k0 cl;refine Xu 0 Z RK cm (Xj fa41_1 (Ad aa 0) (Ad aa 1) Z Z) ?_;have d6 := ((am.bwm (al.bwm b2 0 Z an) 0 Z ao).k0 cl);refine Xu 1 Z RK cm (Y3 ag39 cR (Ad aa 1) (G ab ac ad) Z (d6.cell Z) (nm_cons (bx_nem da (j := 0) Z) (nm_cons (bx_ne da (j := 0) (i := 1) Z Z RD) nm_nil))) ?_;refine Xu 2 Z RK cm (Yw (vi r3) Z) ?_;refine Xu 3 Z RK cm (Yw (Pz b) Z) ?_;refine X3 4 RK Z ?_;refine X8 (kd := (Kd.int .i64)) Zt da ([1000, 1001, (-1001)] : List Int) (cells := [vi 1000, vi 1001, vi (-1001)]) ⟨[vi 1000], _, Z, Z, ⟨[vi 1001], _, Z, Z, ⟨[vi (-1001)], _, Z, Z, Z⟩⟩⟩ RF fun fd d7 d8 d9 cn hr105 cj fe => ?_;have ea := Gm.tm cm cn;refine Xb ⟨ea, ?_⟩;refine X3 5 RK Z ?_;have ff := cj.gv fe 0 Z;have eb := cj.drop 0 Z;have fg := ((bn.k0 cl).k0 cn);refine Xs go146 (F37.calls H eb.ok (hp5.st eb.st) fg (List.mem_append_right _ hm) ff) Z ?_;rintro _ hi ⟨r6, m5, rfl, H, co, fh⟩;have cy := cj.wm co;have cz := Gm.tq ea co (hv_mem 0 Z);refine Xb ⟨cz, ?_⟩;obtain ⟨db, H⟩ := H;have dc := (cj.swm (((am.swm (al.swm bq 1 Z an) 1 Z ao).sn cl).so _ cn hr105) 2 Z co);obtain ⟨c0, hj, ec, fi, fj⟩ := dc.get default RD r3 db;obtain rfl := kPt.op fi;refine Xu 6 Z RK cz (X5 u39_ Yv ab c0 ac ad dc.len r3 Z ec Z db) ?_;refine Xu 7 Z RK cz (Xj fa49_0 (c0.add (r3.toNat * 2)) ((c0.add (r3.toNat * 2)).add 0) Z Z) ?_;refine X3 8 RK Z ?_;refine Z9 ab ac ad r2.Pts dc r3 db c0 ec 0 Z [vi r6] Z sz3 Z (⟨r6, (nth r2.Pts r3).Y⟩ : Pt) [vi ((nth r2.Pts r3).X), vi ((nth r2.Pts r3).Y)] [vi r6, vi ((nth r2.Pts r3).Y)] fj Z Z (kPt.mk _ _ (⟨r6, (nth r2.Pts r3).Y⟩ : Pt)) fun hk cp fk => ?_;have dd := cy.wr 2 Z cp;have fl := Gm.tq cz cp (hv_mem 1 Z);refine Xb ⟨fl, ?_⟩;refine Yq RK ?_;refine Xc (Xd ?_);have fm := (cy.bm (cj.bwm (d6.k0 cn) 1 Z co) 1 2 Z Z Z cp);refine Xa (Xv ag41 sz41 cL (Ad aa 0) [vi r2.Kind, G ab ac ad] Z Z (fm.cells (off := 00) Z)) ?_;have fn := (cy.bm (cj.bwm (((am.bwm (al.bwm (bb.bm ((a9.bwm bl 0 Z bd).k0 ba) 2 0 Z Z Z bc) 2 Z an) 2 Z ao).k0 cl).k0 cn) 3 Z co) 3 2 Z Z Z cp);refine Yd [vi r2.Kind, G ab ac ad] fn Z Z sz41 Z Z fun hl de fo => ?_;have df := dd.wr 3 Z de;refine Xb (Xl ?_);have fp := df.bgv fo 3 Z;have dg := df.drop 3 Z;have fq := (df.sd (dd.sw fk 2 3 Z Z Z de) 2 3 Z Z Z);have fr := dg.gv fq 2 Z;have fs := dg.drop 2 Z;have ft := fs.clear;have fu := dg.std 2 Z;have fv := ((fp.st fu).st St.clear);have fw := (dd.bmo (cy.bmo fh 2 Z cp) 3 Z de);exact ⟨[.agg #[vi r2.Kind, G ab ac ad]], ⟨_, _, Z, fv.1.res Z ag41 sz41, Z⟩, (⟨r2.Kind, (r2.Pts.set r3.toNat (⟨r6, (nth r2.Pts r3).Y⟩ : Pt))⟩ : Shape), m5, ab, ac, ad, Z, H, ft.gr.g1, fw, (fr.st St.clear)⟩
 have H := Xo H c9;refine Xc (Xd (Xa (X1 r4 2 (r4 == 2) Z Z Z) (Xf (vb (r4 == 2)) Z (Xb ?_))));refine Xy (r4 == 2) Z (fun dh => ?_) (fun dh => ?_)
 ·have H := Xn H dh;obtain ⟨cq, H⟩ := H;obtain ⟨bp, H⟩ := H;obtain ⟨bw, H⟩ := H;refine Zi (J := (fun t b6 => ∃ (br : Option Addr) (b4 b5 : Nat), Has t [(2, Pz b8), (3, Pz aa)] ∧ Cw [some b] w0 b6 [some aa, bk br, some b8] O fun M => Sl Kd.byte b6 (Fr M) (G A2 n3 c4) r_b ∧ Ow kPt 49 b6 M (G br b4 b5) (r2.Pts ++ ([(nth r2.Pts ((r2.Pts.length : Int) - 1))] : List Pt)) ∧ Bx b6 b [G A2 n3 c4, vi m3] ∧ Bx b6 b8 [vi 0, G none 0 0] ∧ Bx b6 aa [vi r2.Kind, G br b4 b5])) ?_ ?_
  ·refine Y7 14 [bk ab, some aa] RK Z fun hn aw af => ?_;have bx := b3.k0 aw;refine Xu 0 Z RK af (Xj fa41_1 (Ad aa 0) (Ad aa 1) Z Z) ?_;refine Xu 2 Z RK af (Xj fa41_1 (Ad aa 0) (Ad aa 1) Z Z) ?_;refine Xu 4 Z RK af (Xj fa41_1 (Ad aa 0) (Ad aa 1) Z Z) ?_;refine Kg 1 3 5 RK Z Z Z ?_ ?_ ?_
   ·have ax := ((am.bwm (al.bwm b2 0 Z an) 0 Z ao).k0 aw);refine Xa (Xm ag39 cL (Ad aa 1) (G ab ac ad) Z (ax.cell Z)) ?_;refine Xb ⟨af, ?_⟩;refine Y6 3 5 RK Z Z ?_ ?_
    ·refine Xa (Xm ag39 cL (Ad aa 1) (G ab ac ad) Z (ax.cell Z)) ?_;refine Xb ⟨af, ?_⟩;refine X3 5 RK Z ?_;refine Xa (Xm ag39 cL (Ad aa 1) (G ab ac ad) Z (ax.cell Z)) ?_;refine Xb ⟨af, ?_⟩;have ap := ((am.swm (al.swm bq 1 Z an) 1 Z ao).sn aw);refine Xu 6 Z RK af (Ya u39_ ab ac ad ap.len Z) ?_;have bz := cq (len_le ck);refine Xu 7 Z RK af (Yz (r2.Pts.length : Int) 1 Z Z bz) ?_;obtain ⟨a2, cr, bs, bt, bo⟩ := ap.get default RD ((r2.Pts.length : Int) - 1) bp;obtain rfl := kPt.op bt;refine Xu 8 Z RK af (X5 u39_ Yv ab a2 ac ad ap.len ((r2.Pts.length : Int) - 1) Z bs Z bp) ?_;refine X3 9 RK Z ?_;refine Xa (Xv ag49 sz49 cL (a2.add (((r2.Pts.length : Int) - 1).toNat * 2)) [vi ((nth r2.Pts ((r2.Pts.length : Int) - 1)).X), vi ((nth r2.Pts ((r2.Pts.length : Int) - 1)).Y)] Z Z bo) ?_;refine Xb ⟨af, ?_⟩;refine X3 10 RK Z ?_;refine X8 (kd := kPt) Yl bx ([(nth r2.Pts ((r2.Pts.length : Int) - 1))] : List Pt) (cells := [vi ((nth r2.Pts ((r2.Pts.length : Int) - 1)).X), vi ((nth r2.Pts ((r2.Pts.length : Int) - 1)).Y)]) ⟨[vi ((nth r2.Pts ((r2.Pts.length : Int) - 1)).X), vi ((nth r2.Pts ((r2.Pts.length : Int) - 1)).Y)], _, Z, (kPt.mk _ _ (nth r2.Pts ((r2.Pts.length : Int) - 1))), Z⟩ RF fun b0 ay a3 a4 ae hr173 ag a5 => ?_;have aj := Gm.tm af ae;refine Xb ⟨aj, ?_⟩;refine X3 11 RK Z ?_;have a1 := (ap.so _ ae hr173);refine Ye Yl ag (G ab ac ad) r2.Pts ([(nth r2.Pts ((r2.Pts.length : Int) - 1))] : List Pt) Z a1 (G ay a3 a4) Z a5.sx 2 Z bw fun b7 aq ar au ak be ah bf => ?_;have av := Gm.tq aj ak (hv_mem 0 Z);have b9 := hv_app (L := [bk ay, some aa, bk ab, some b8]) (O := O) (i := 2) aj Z (hv_mem 0 Z) be ah;refine Xb ⟨av, ?_⟩;refine Xu 12 Z RK av (Xj fa41_1 (Ad aa 0) (Ad aa 1) Z Z) ?_;refine X3 13 RK Z ?_;have bg := (ag.bm (ax.k0 ae) 1 2 Z Z Z ak);refine Ys 1 [G aq ar au] [vi r2.Kind, G aq ar au] bg Z Z sz39 Z Z Z fun ca ai bh => ?_;have az := ah.wr 1 Z ai;have bi := Gm.tq av ai (hv_mem 1 Z);refine Xb ⟨bi, ?_⟩;refine Yq RK ?_;have a0 := az.drop 0 Z;have bj := (az.sd (ah.sw bf 2 1 Z Z Z ai) 2 0 Z Z Z);have a6 := (ah.bmo (ag.bmo ((bn.k0 aw).k0 ae) 2 Z ak) 1 Z ai);have a7 := (ah.bm (ag.bm (((am.bwm (al.bwm (bb.bm ((a9.bwm bl 0 Z bd).k0 ba) 2 0 Z Z Z bc) 2 Z an) 2 Z ao).k0 aw).k0 ae) 3 2 Z Z Z ak) 3 1 Z Z Z ai);have a8 := bh;exact ⟨aq, ar, au, (Xz Z), a0, (hp5.st a0.st), bj, a6, a7, a8⟩
    refine Xa (Xm ag39 cL (Ad aa 1) (G ab ac ad) Z (ax.cell Z)) ?_;refine Xb ⟨af, ?_⟩;have ap := ((am.swm (al.swm bq 1 Z an) 1 Z ao).sn aw);refine Xu 6 Z RK af (Ya u39_ ab ac ad ap.len Z) ?_;have bz := cq (len_le ck);refine Xu 7 Z RK af (Yz (r2.Pts.length : Int) 1 Z Z bz) ?_;refine X3 3 RK Z ?_;refine Xa (Xm ag39 cL (Ad aa 1) (G ab ac ad) Z (ax.cell Z)) ?_;refine Xb ⟨af, ?_⟩;obtain ⟨a2, cr, bs, bt, bo⟩ := ap.get default RD ((r2.Pts.length : Int) - 1) bp;obtain rfl := kPt.op bt;refine Xu 8 Z RK af (X5 u39_ Yv ab a2 ac ad ap.len ((r2.Pts.length : Int) - 1) Z bs Z bp) ?_;refine X3 9 RK Z ?_;refine Xa (Xv ag49 sz49 cL (a2.add (((r2.Pts.length : Int) - 1).toNat * 2)) [vi ((nth r2.Pts ((r2.Pts.length : Int) - 1)).X), vi ((nth r2.Pts ((r2.Pts.length : Int) - 1)).Y)] Z Z bo) ?_;refine Xb ⟨af, ?_⟩;refine X3 10 RK Z ?_;refine X8 (kd := kPt) Yl bx ([(nth r2.Pts ((r2.Pts.length : Int) - 1))] : List Pt) (cells := [vi ((nth r2.Pts ((r2.Pts.length : Int) - 1)).X), vi ((nth r2.Pts ((r2.Pts.length : Int) - 1)).Y)]) ⟨[vi ((nth r2.Pts ((r2.Pts.length : Int) - 1)).X), vi ((nth r2.Pts ((r2.Pts.length : Int) - 1)).Y)], _, Z, (kPt.mk _ _ (nth r2.Pts ((r2.Pts.length : Int) - 1))), Z⟩ RF fun b0 ay a3 a4 ae hr173 ag a5 => ?_;have aj := Gm.tm af ae;refine Xb ⟨aj, ?_⟩;refine X3 11 RK Z ?_;have a1 := (ap.so _ ae hr173);refine Ye Yl ag (G ab ac ad) r2.Pts ([(nth r2.Pts ((r2.Pts.length : Int) - 1))] : List Pt) Z a1 (G ay a3 a4) Z a5.sx 2 Z bw fun b7 aq ar au ak be ah bf => ?_;have av := Gm.tq aj ak (hv_mem 0 Z);have b9 := hv_app (L := [bk ay, some aa, bk ab, some b8]) (O := O) (i := 2) aj Z (hv_mem 0 Z) be ah;refine Xb ⟨av, ?_⟩;refine Xu 12 Z RK av (Xj fa41_1 (Ad aa 0) (Ad aa 1) Z Z) ?_;refine X3 13 RK Z ?_;have bg := (ag.bm (ax.k0 ae) 1 2 Z Z Z ak);refine Ys 1 [G aq ar au] [vi r2.Kind, G aq ar au] bg Z Z sz39 Z Z Z fun ca ai bh => ?_;have az := ah.wr 1 Z ai;have bi := Gm.tq av ai (hv_mem 1 Z);refine Xb ⟨bi, ?_⟩;refine Yq RK ?_;have a0 := az.drop 0 Z;have bj := (az.sd (ah.sw bf 2 1 Z Z Z ai) 2 0 Z Z Z);have a6 := (ah.bmo (ag.bmo ((bn.k0 aw).k0 ae) 2 Z ak) 1 Z ai);have a7 := (ah.bm (ag.bm (((am.bwm (al.bwm (bb.bm ((a9.bwm bl 0 Z bd).k0 ba) 2 0 Z Z Z bc) 2 Z an) 2 Z ao).k0 aw).k0 ae) 3 2 Z Z Z ak) 3 1 Z Z Z ai);have a8 := bh;exact ⟨aq, ar, au, (Xz Z), a0, (hp5.st a0.st), bj, a6, a7, a8⟩
   ·have ax := ((am.bwm (al.bwm b2 0 Z an) 0 Z ao).k0 aw);refine Xa (Xm ag39 cL (Ad aa 1) (G ab ac ad) Z (ax.cell Z)) ?_;refine Xb ⟨af, ?_⟩;refine Y6 1 5 RK Z Z ?_ ?_
    ·refine Xa (Xm ag39 cL (Ad aa 1) (G ab ac ad) Z (ax.cell Z)) ?_;refine Xb ⟨af, ?_⟩;refine X3 5 RK Z ?_;refine Xa (Xm ag39 cL (Ad aa 1) (G ab ac ad) Z (ax.cell Z)) ?_;refine Xb ⟨af, ?_⟩;have ap := ((am.swm (al.swm bq 1 Z an) 1 Z ao).sn aw);refine Xu 6 Z RK af (Ya u39_ ab ac ad ap.len Z) ?_;have bz := cq (len_le ck);refine Xu 7 Z RK af (Yz (r2.Pts.length : Int) 1 Z Z bz) ?_;obtain ⟨a2, cr, bs, bt, bo⟩ := ap.get default RD ((r2.Pts.length : Int) - 1) bp;obtain rfl := kPt.op bt;refine Xu 8 Z RK af (X5 u39_ Yv ab a2 ac ad ap.len ((r2.Pts.length : Int) - 1) Z bs Z bp) ?_;refine X3 9 RK Z ?_;refine Xa (Xv ag49 sz49 cL (a2.add (((r2.Pts.length : Int) - 1).toNat * 2)) [vi ((nth r2.Pts ((r2.Pts.length : Int) - 1)).X), vi ((nth r2.Pts ((r2.Pts.length : Int) - 1)).Y)] Z Z bo) ?_;refine Xb ⟨af, ?_⟩;refine X3 10 RK Z ?_;refine X8 (kd := kPt) Yl bx ([(nth r2.Pts ((r2.Pts.length : Int) - 1))] : List Pt) (cells := [vi ((nth r2.Pts ((r2.Pts.length : Int) - 1)).X), vi ((nth r2.Pts ((r2.Pts.length : Int) - 1)).Y)]) ⟨[vi ((nth r2.Pts ((r2.Pts.length : Int) - 1)).X), vi ((nth r2.Pts ((r2.Pts.length : Int) - 1)).Y)], _, Z, (kPt.mk _ _ (nth r2.Pts ((r2.Pts.length : Int) - 1))), Z⟩ RF fun b0 ay a3 a4 ae hr173 ag a5 => ?_;have aj := Gm.tm af ae;refine Xb ⟨aj, ?_⟩;refine X3 11 RK Z ?_;have a1 := (ap.so _ ae hr173);refine Ye Yl ag (G ab ac ad) r2.Pts ([(nth r2.Pts ((r2.Pts.length : Int) - 1))] : List Pt) Z a1 (G ay a3 a4) Z a5.sx 2 Z bw fun b7 aq ar au ak be ah bf => ?_;have av := Gm.tq aj ak (hv_mem 0 Z);have b9 := hv_app (L := [bk ay, some aa, bk ab, some b8]) (O := O) (i := 2) aj Z (hv_mem 0 Z) be ah;refine Xb ⟨av, ?_⟩;refine Xu 12 Z RK av (Xj fa41_1 (Ad aa 0) (Ad aa 1) Z Z) ?_;refine X3 13 RK Z ?_;have bg := (ag.bm (ax.k0 ae) 1 2 Z Z Z ak);refine Ys 1 [G aq ar au] [vi r2.Kind, G aq ar au] bg Z Z sz39 Z Z Z fun ca ai bh => ?_;have az := ah.wr 1 Z ai;have bi := Gm.tq av ai (hv_mem 1 Z);refine Xb ⟨bi, ?_⟩;refine Yq RK ?_;have a0 := az.drop 0 Z;have bj := (az.sd (ah.sw bf 2 1 Z Z Z ai) 2 0 Z Z Z);have a6 := (ah.bmo (ag.bmo ((bn.k0 aw).k0 ae) 2 Z ak) 1 Z ai);have a7 := (ah.bm (ag.bm (((am.bwm (al.bwm (bb.bm ((a9.bwm bl 0 Z bd).k0 ba) 2 0 Z Z Z bc) 2 Z an) 2 Z ao).k0 aw).k0 ae) 3 2 Z Z Z ak) 3 1 Z Z Z ai);have a8 := bh;exact ⟨aq, ar, au, (Xz Z), a0, (hp5.st a0.st), bj, a6, a7, a8⟩
    refine Xa (Xm ag39 cL (Ad aa 1) (G ab ac ad) Z (ax.cell Z)) ?_;refine Xb ⟨af, ?_⟩;have ap := ((am.swm (al.swm bq 1 Z an) 1 Z ao).sn aw);refine Xu 6 Z RK af (Ya u39_ ab ac ad ap.len Z) ?_;have bz := cq (len_le ck);refine Xu 7 Z RK af (Yz (r2.Pts.length : Int) 1 Z Z bz) ?_;obtain ⟨a2, cr, bs, bt, bo⟩ := ap.get default RD ((r2.Pts.length : Int) - 1) bp;obtain rfl := kPt.op bt;refine Xu 8 Z RK af (X5 u39_ Yv ab a2 ac ad ap.len ((r2.Pts.length : Int) - 1) Z bs Z bp) ?_;refine Y6 1 9 RK Z Z ?_ ?_
    ·refine Xa (Xm ag39 cL (Ad aa 1) (G ab ac ad) Z (ax.cell Z)) ?_;refine Xb ⟨af, ?_⟩;refine X3 9 RK Z ?_;refine Xa (Xv ag49 sz49 cL (a2.add (((r2.Pts.length : Int) - 1).toNat * 2)) [vi ((nth r2.Pts ((r2.Pts.length : Int) - 1)).X), vi ((nth r2.Pts ((r2.Pts.length : Int) - 1)).Y)] Z Z bo) ?_;refine Xb ⟨af, ?_⟩;refine X3 10 RK Z ?_;refine X8 (kd := kPt) Yl bx ([(nth r2.Pts ((r2.Pts.length : Int) - 1))] : List Pt) (cells := [vi ((nth r2.Pts ((r2.Pts.length : Int) - 1)).X), vi ((nth r2.Pts ((r2.Pts.length : Int) - 1)).Y)]) ⟨[vi ((nth r2.Pts ((r2.Pts.length : Int) - 1)).X), vi ((nth r2.Pts ((r2.Pts.length : Int) - 1)).Y)], _, Z, (kPt.mk _ _ (nth r2.Pts ((r2.Pts.length : Int) - 1))), Z⟩ RF fun b0 ay a3 a4 ae hr173 ag a5 => ?_;have aj := Gm.tm af ae;refine Xb ⟨aj, ?_⟩;refine X3 11 RK Z ?_;have a1 := (ap.so _ ae hr173);refine Ye Yl ag (G ab ac ad) r2.Pts ([(nth r2.Pts ((r2.Pts.length : Int) - 1))] : List Pt) Z a1 (G ay a3 a4) Z a5.sx 2 Z bw fun b7 aq ar au ak be ah bf => ?_;have av := Gm.tq aj ak (hv_mem 0 Z);have b9 := hv_app (L := [bk ay, some aa, bk ab, some b8]) (O := O) (i := 2) aj Z (hv_mem 0 Z) be ah;refine Xb ⟨av, ?_⟩;refine Xu 12 Z RK av (Xj fa41_1 (Ad aa 0) (Ad aa 1) Z Z) ?_;refine X3 13 RK Z ?_;have bg := (ag.bm (ax.k0 ae) 1 2 Z Z Z ak);refine Ys 1 [G aq ar au] [vi r2.Kind, G aq ar au] bg Z Z sz39 Z Z Z fun ca ai bh => ?_;have az := ah.wr 1 Z ai;have bi := Gm.tq av ai (hv_mem 1 Z);refine Xb ⟨bi, ?_⟩;refine Yq RK ?_;have a0 := az.drop 0 Z;have bj := (az.sd (ah.sw bf 2 1 Z Z Z ai) 2 0 Z Z Z);have a6 := (ah.bmo (ag.bmo ((bn.k0 aw).k0 ae) 2 Z ak) 1 Z ai);have a7 := (ah.bm (ag.bm (((am.bwm (al.bwm (bb.bm ((a9.bwm bl 0 Z bd).k0 ba) 2 0 Z Z Z bc) 2 Z an) 2 Z ao).k0 aw).k0 ae) 3 2 Z Z Z ak) 3 1 Z Z Z ai);have a8 := bh;exact ⟨aq, ar, au, (Xz Z), a0, (hp5.st a0.st), bj, a6, a7, a8⟩
    refine Xa (Xv ag49 sz49 cL (a2.add (((r2.Pts.length : Int) - 1).toNat * 2)) [vi ((nth r2.Pts ((r2.Pts.length : Int) - 1)).X), vi ((nth r2.Pts ((r2.Pts.length : Int) - 1)).Y)] Z Z bo) ?_;refine Xb ⟨af, ?_⟩;refine Y6 1 10 RK Z Z ?_ ?_
    ·refine Xa (Xm ag39 cL (Ad aa 1) (G ab ac ad) Z (ax.cell Z)) ?_;refine Xb ⟨af, ?_⟩;refine X3 10 RK Z ?_;refine X8 (kd := kPt) Yl bx ([(nth r2.Pts ((r2.Pts.length : Int) - 1))] : List Pt) (cells := [vi ((nth r2.Pts ((r2.Pts.length : Int) - 1)).X), vi ((nth r2.Pts ((r2.Pts.length : Int) - 1)).Y)]) ⟨[vi ((nth r2.Pts ((r2.Pts.length : Int) - 1)).X), vi ((nth r2.Pts ((r2.Pts.length : Int) - 1)).Y)], _, Z, (kPt.mk _ _ (nth r2.Pts ((r2.Pts.length : Int) - 1))), Z⟩ RF fun b0 ay a3 a4 ae hr173 ag a5 => ?_;have aj := Gm.tm af ae;refine Xb ⟨aj, ?_⟩;refine X3 11 RK Z ?_;have a1 := (ap.so _ ae hr173);refine Ye Yl ag (G ab ac ad) r2.Pts ([(nth r2.Pts ((r2.Pts.length : Int) - 1))] : List Pt) Z a1 (G ay a3 a4) Z a5.sx 2 Z bw fun b7 aq ar au ak be ah bf => ?_;have av := Gm.tq aj ak (hv_mem 0 Z);have b9 := hv_app (L := [bk ay, some aa, bk ab, some b8]) (O := O) (i := 2) aj Z (hv_mem 0 Z) be ah;refine Xb ⟨av, ?_⟩;refine Xu 12 Z RK av (Xj fa41_1 (Ad aa 0) (Ad aa 1) Z Z) ?_;refine X3 13 RK Z ?_;have bg := (ag.bm (ax.k0 ae) 1 2 Z Z Z ak);refine Ys 1 [G aq ar au] [vi r2.Kind, G aq ar au] bg Z Z sz39 Z Z Z fun ca ai bh => ?_;have az := ah.wr 1 Z ai;have bi := Gm.tq av ai (hv_mem 1 Z);refine Xb ⟨bi, ?_⟩;refine Yq RK ?_;have a0 := az.drop 0 Z;have bj := (az.sd (ah.sw bf 2 1 Z Z Z ai) 2 0 Z Z Z);have a6 := (ah.bmo (ag.bmo ((bn.k0 aw).k0 ae) 2 Z ak) 1 Z ai);have a7 := (ah.bm (ag.bm (((am.bwm (al.bwm (bb.bm ((a9.bwm bl 0 Z bd).k0 ba) 2 0 Z Z Z bc) 2 Z an) 2 Z ao).k0 aw).k0 ae) 3 2 Z Z Z ak) 3 1 Z Z Z ai);have a8 := bh;exact ⟨aq, ar, au, (Xz Z), a0, (hp5.st a0.st), bj, a6, a7, a8⟩
    refine X8 (kd := kPt) Yl bx ([(nth r2.Pts ((r2.Pts.length : Int) - 1))] : List Pt) (cells := [vi ((nth r2.Pts ((r2.Pts.length : Int) - 1)).X), vi ((nth r2.Pts ((r2.Pts.length : Int) - 1)).Y)]) ⟨[vi ((nth r2.Pts ((r2.Pts.length : Int) - 1)).X), vi ((nth r2.Pts ((r2.Pts.length : Int) - 1)).Y)], _, Z, (kPt.mk _ _ (nth r2.Pts ((r2.Pts.length : Int) - 1))), Z⟩ RF fun b0 ay a3 a4 ae hr173 ag a5 => ?_;have aj := Gm.tm af ae;refine Xb ⟨aj, ?_⟩;refine X3 1 RK Z ?_;have a1 := (ax.k0 ae);refine Xa (Xm ag39 cL (Ad aa 1) (G ab ac ad) Z (a1.cell Z)) ?_;refine Xb ⟨aj, ?_⟩;refine X3 11 RK Z ?_;have di := (ap.so _ ae hr173);refine Ye Yl ag (G ab ac ad) r2.Pts ([(nth r2.Pts ((r2.Pts.length : Int) - 1))] : List Pt) Z di (G ay a3 a4) Z a5.sx 2 Z bw fun fx cb cc cd b1 dj bu dk => ?_;have ce := Gm.tq aj b1 (hv_mem 0 Z);have fy := hv_app (L := [bk ay, some aa, bk ab, some b8]) (O := O) (i := 2) aj Z (hv_mem 0 Z) dj bu;refine Xb ⟨ce, ?_⟩;refine Xu 12 Z RK ce (Xj fa41_1 (Ad aa 0) (Ad aa 1) Z Z) ?_;refine X3 13 RK Z ?_;have dl := (ag.bm a1 1 2 Z Z Z b1);refine Ys 1 [G cb cc cd] [vi r2.Kind, G cb cc cd] dl Z Z sz39 Z Z Z fun fz bv dm => ?_;have cs := bu.wr 1 Z bv;have dn := Gm.tq ce bv (hv_mem 1 Z);refine Xb ⟨dn, ?_⟩;refine Yq RK ?_;have ct := cs.drop 0 Z;have a6 := (cs.sd (bu.sw dk 2 1 Z Z Z bv) 2 0 Z Z Z);have a7 := (bu.bmo (ag.bmo ((bn.k0 aw).k0 ae) 2 Z b1) 1 Z bv);have a8 := (bu.bm (ag.bm (((am.bwm (al.bwm (bb.bm ((a9.bwm bl 0 Z bd).k0 ba) 2 0 Z Z Z bc) 2 Z an) 2 Z ao).k0 aw).k0 ae) 3 2 Z Z Z b1) 3 1 Z Z Z bv);have dp := dm;exact ⟨cb, cc, cd, (Xz Z), ct, (hp5.st ct.st), a6, a7, a8, dp⟩
   have ax := ((am.bwm (al.bwm b2 0 Z an) 0 Z ao).k0 aw);refine Xa (Xm ag39 cL (Ad aa 1) (G ab ac ad) Z (ax.cell Z)) ?_;refine Xb ⟨af, ?_⟩;have ap := ((am.swm (al.swm bq 1 Z an) 1 Z ao).sn aw);refine Xu 6 Z RK af (Ya u39_ ab ac ad ap.len Z) ?_;have bz := cq (len_le ck);refine Xu 7 Z RK af (Yz (r2.Pts.length : Int) 1 Z Z bz) ?_;refine Y6 1 3 RK Z Z ?_ ?_
   ·refine Xa (Xm ag39 cL (Ad aa 1) (G ab ac ad) Z (ax.cell Z)) ?_;refine Xb ⟨af, ?_⟩;refine X3 3 RK Z ?_;refine Xa (Xm ag39 cL (Ad aa 1) (G ab ac ad) Z (ax.cell Z)) ?_;refine Xb ⟨af, ?_⟩;obtain ⟨a2, cr, bs, bt, bo⟩ := ap.get default RD ((r2.Pts.length : Int) - 1) bp;obtain rfl := kPt.op bt;refine Xu 8 Z RK af (X5 u39_ Yv ab a2 ac ad ap.len ((r2.Pts.length : Int) - 1) Z bs Z bp) ?_;refine X3 9 RK Z ?_;refine Xa (Xv ag49 sz49 cL (a2.add (((r2.Pts.length : Int) - 1).toNat * 2)) [vi ((nth r2.Pts ((r2.Pts.length : Int) - 1)).X), vi ((nth r2.Pts ((r2.Pts.length : Int) - 1)).Y)] Z Z bo) ?_;refine Xb ⟨af, ?_⟩;refine X3 10 RK Z ?_;refine X8 (kd := kPt) Yl bx ([(nth r2.Pts ((r2.Pts.length : Int) - 1))] : List Pt) (cells := [vi ((nth r2.Pts ((r2.Pts.length : Int) - 1)).X), vi ((nth r2.Pts ((r2.Pts.length : Int) - 1)).Y)]) ⟨[vi ((nth r2.Pts ((r2.Pts.length : Int) - 1)).X), vi ((nth r2.Pts ((r2.Pts.length : Int) - 1)).Y)], _, Z, (kPt.mk _ _ (nth r2.Pts ((r2.Pts.length : Int) - 1))), Z⟩ RF fun b0 ay a3 a4 ae hr173 ag a5 => ?_;have aj := Gm.tm af ae;refine Xb ⟨aj, ?_⟩;refine X3 11 RK Z ?_;have a1 := (ap.so _ ae hr173);refine Ye Yl ag (G ab ac ad) r2.Pts ([(nth r2.Pts ((r2.Pts.length : Int) - 1))] : List Pt) Z a1 (G ay a3 a4) Z a5.sx 2 Z bw fun b7 aq ar au ak be ah bf => ?_;have av := Gm.tq aj ak (hv_mem 0 Z);have b9 := hv_app (L := [bk ay, some aa, bk ab, some b8]) (O := O) (i := 2) aj Z (hv_mem 0 Z) be ah;refine Xb ⟨av, ?_⟩;refine Xu 12 Z RK av (Xj fa41_1 (Ad aa 0) (Ad aa 1) Z Z) ?_;refine X3 13 RK Z ?_;have bg := (ag.bm (ax.k0 ae) 1 2 Z Z Z ak);refine Ys 1 [G aq ar au] [vi r2.Kind, G aq ar au] bg Z Z sz39 Z Z Z fun ca ai bh => ?_;have az := ah.wr 1 Z ai;have bi := Gm.tq av ai (hv_mem 1 Z);refine Xb ⟨bi, ?_⟩;refine Yq RK ?_;have a0 := az.drop 0 Z;have bj := (az.sd (ah.sw bf 2 1 Z Z Z ai) 2 0 Z Z Z);have a6 := (ah.bmo (ag.bmo ((bn.k0 aw).k0 ae) 2 Z ak) 1 Z ai);have a7 := (ah.bm (ag.bm (((am.bwm (al.bwm (bb.bm ((a9.bwm bl 0 Z bd).k0 ba) 2 0 Z Z Z bc) 2 Z an) 2 Z ao).k0 aw).k0 ae) 3 2 Z Z Z ak) 3 1 Z Z Z ai);have a8 := bh;exact ⟨aq, ar, au, (Xz Z), a0, (hp5.st a0.st), bj, a6, a7, a8⟩
   refine Xa (Xm ag39 cL (Ad aa 1) (G ab ac ad) Z (ax.cell Z)) ?_;refine Xb ⟨af, ?_⟩;obtain ⟨a2, cr, bs, bt, bo⟩ := ap.get default RD ((r2.Pts.length : Int) - 1) bp;obtain rfl := kPt.op bt;refine Xu 8 Z RK af (X5 u39_ Yv ab a2 ac ad ap.len ((r2.Pts.length : Int) - 1) Z bs Z bp) ?_;refine Y6 1 9 RK Z Z ?_ ?_
   ·refine Xa (Xm ag39 cL (Ad aa 1) (G ab ac ad) Z (ax.cell Z)) ?_;refine Xb ⟨af, ?_⟩;refine X3 9 RK Z ?_;refine Xa (Xv ag49 sz49 cL (a2.add (((r2.Pts.length : Int) - 1).toNat * 2)) [vi ((nth r2.Pts ((r2.Pts.length : Int) - 1)).X), vi ((nth r2.Pts ((r2.Pts.length : Int) - 1)).Y)] Z Z bo) ?_;refine Xb ⟨af, ?_⟩;refine X3 10 RK Z ?_;refine X8 (kd := kPt) Yl bx ([(nth r2.Pts ((r2.Pts.length : Int) - 1))] : List Pt) (cells := [vi ((nth r2.Pts ((r2.Pts.length : Int) - 1)).X), vi ((nth r2.Pts ((r2.Pts.length : Int) - 1)).Y)]) ⟨[vi ((nth r2.Pts ((r2.Pts.length : Int) - 1)).X), vi ((nth r2.Pts ((r2.Pts.length : Int) - 1)).Y)], _, Z, (kPt.mk _ _ (nth r2.Pts ((r2.Pts.length : Int) - 1))), Z⟩ RF fun b0 ay a3 a4 ae hr173 ag a5 => ?_;have aj := Gm.tm af ae;refine Xb ⟨aj, ?_⟩;refine X3 11 RK Z ?_;have a1 := (ap.so _ ae hr173);refine Ye Yl ag (G ab ac ad) r2.Pts ([(nth r2.Pts ((r2.Pts.length : Int) - 1))] : List Pt) Z a1 (G ay a3 a4) Z a5.sx 2 Z bw fun b7 aq ar au ak be ah bf => ?_;have av := Gm.tq aj ak (hv_mem 0 Z);have b9 := hv_app (L := [bk ay, some aa, bk ab, some b8]) (O := O) (i := 2) aj Z (hv_mem 0 Z) be ah;refine Xb ⟨av, ?_⟩;refine Xu 12 Z RK av (Xj fa41_1 (Ad aa 0) (Ad aa 1) Z Z) ?_;refine X3 13 RK Z ?_;have bg := (ag.bm (ax.k0 ae) 1 2 Z Z Z ak);refine Ys 1 [G aq ar au] [vi r2.Kind, G aq ar au] bg Z Z sz39 Z Z Z fun ca ai bh => ?_;have az := ah.wr 1 Z ai;have bi := Gm.tq av ai (hv_mem 1 Z);refine Xb ⟨bi, ?_⟩;refine Yq RK ?_;have a0 := az.drop 0 Z;have bj := (az.sd (ah.sw bf 2 1 Z Z Z ai) 2 0 Z Z Z);have a6 := (ah.bmo (ag.bmo ((bn.k0 aw).k0 ae) 2 Z ak) 1 Z ai);have a7 := (ah.bm (ag.bm (((am.bwm (al.bwm (bb.bm ((a9.bwm bl 0 Z bd).k0 ba) 2 0 Z Z Z bc) 2 Z an) 2 Z ao).k0 aw).k0 ae) 3 2 Z Z Z ak) 3 1 Z Z Z ai);have a8 := bh;exact ⟨aq, ar, au, (Xz Z), a0, (hp5.st a0.st), bj, a6, a7, a8⟩
   refine Xa (Xv ag49 sz49 cL (a2.add (((r2.Pts.length : Int) - 1).toNat * 2)) [vi ((nth r2.Pts ((r2.Pts.length : Int) - 1)).X), vi ((nth r2.Pts ((r2.Pts.length : Int) - 1)).Y)] Z Z bo) ?_;refine Xb ⟨af, ?_⟩;refine Y6 1 10 RK Z Z ?_ ?_
   ·refine Xa (Xm ag39 cL (Ad aa 1) (G ab ac ad) Z (ax.cell Z)) ?_;refine Xb ⟨af, ?_⟩;refine X3 10 RK Z ?_;refine X8 (kd := kPt) Yl bx ([(nth r2.Pts ((r2.Pts.length : Int) - 1))] : List Pt) (cells := [vi ((nth r2.Pts ((r2.Pts.length : Int) - 1)).X), vi ((nth r2.Pts ((r2.Pts.length : Int) - 1)).Y)]) ⟨[vi ((nth r2.Pts ((r2.Pts.length : Int) - 1)).X), vi ((nth r2.Pts ((r2.Pts.length : Int) - 1)).Y)], _, Z, (kPt.mk _ _ (nth r2.Pts ((r2.Pts.length : Int) - 1))), Z⟩ RF fun b0 ay a3 a4 ae hr173 ag a5 => ?_;have aj := Gm.tm af ae;refine Xb ⟨aj, ?_⟩;refine X3 11 RK Z ?_;have a1 := (ap.so _ ae hr173);refine Ye Yl ag (G ab ac ad) r2.Pts ([(nth r2.Pts ((r2.Pts.length : Int) - 1))] : List Pt) Z a1 (G ay a3 a4) Z a5.sx 2 Z bw fun b7 aq ar au ak be ah bf => ?_;have av := Gm.tq aj ak (hv_mem 0 Z);have b9 := hv_app (L := [bk ay, some aa, bk ab, some b8]) (O := O) (i := 2) aj Z (hv_mem 0 Z) be ah;refine Xb ⟨av, ?_⟩;refine Xu 12 Z RK av (Xj fa41_1 (Ad aa 0) (Ad aa 1) Z Z) ?_;refine X3 13 RK Z ?_;have bg := (ag.bm (ax.k0 ae) 1 2 Z Z Z ak);refine Ys 1 [G aq ar au] [vi r2.Kind, G aq ar au] bg Z Z sz39 Z Z Z fun ca ai bh => ?_;have az := ah.wr 1 Z ai;have bi := Gm.tq av ai (hv_mem 1 Z);refine Xb ⟨bi, ?_⟩;refine Yq RK ?_;have a0 := az.drop 0 Z;have bj := (az.sd (ah.sw bf 2 1 Z Z Z ai) 2 0 Z Z Z);have a6 := (ah.bmo (ag.bmo ((bn.k0 aw).k0 ae) 2 Z ak) 1 Z ai);have a7 := (ah.bm (ag.bm (((am.bwm (al.bwm (bb.bm ((a9.bwm bl 0 Z bd).k0 ba) 2 0 Z Z Z bc) 2 Z an) 2 Z ao).k0 aw).k0 ae) 3 2 Z Z Z ak) 3 1 Z Z Z ai);have a8 := bh;exact ⟨aq, ar, au, (Xz Z), a0, (hp5.st a0.st), bj, a6, a7, a8⟩
   refine X8 (kd := kPt) Yl bx ([(nth r2.Pts ((r2.Pts.length : Int) - 1))] : List Pt) (cells := [vi ((nth r2.Pts ((r2.Pts.length : Int) - 1)).X), vi ((nth r2.Pts ((r2.Pts.length : Int) - 1)).Y)]) ⟨[vi ((nth r2.Pts ((r2.Pts.length : Int) - 1)).X), vi ((nth r2.Pts ((r2.Pts.length : Int) - 1)).Y)], _, Z, (kPt.mk _ _ (nth r2.Pts ((r2.Pts.length : Int) - 1))), Z⟩ RF fun b0 ay a3 a4 ae hr173 ag a5 => ?_;have aj := Gm.tm af ae;refine Xb ⟨aj, ?_⟩;refine X3 1 RK Z ?_;have a1 := (ax.k0 ae);refine Xa (Xm ag39 cL (Ad aa 1) (G ab ac ad) Z (a1.cell Z)) ?_;refine Xb ⟨aj, ?_⟩;refine X3 11 RK Z ?_;have di := (ap.so _ ae hr173);refine Ye Yl ag (G ab ac ad) r2.Pts ([(nth r2.Pts ((r2.Pts.length : Int) - 1))] : List Pt) Z di (G ay a3 a4) Z a5.sx 2 Z bw fun fx cb cc cd b1 dj bu dk => ?_;have ce := Gm.tq aj b1 (hv_mem 0 Z);have fy := hv_app (L := [bk ay, some aa, bk ab, some b8]) (O := O) (i := 2) aj Z (hv_mem 0 Z) dj bu;refine Xb ⟨ce, ?_⟩;refine Xu 12 Z RK ce (Xj fa41_1 (Ad aa 0) (Ad aa 1) Z Z) ?_;refine X3 13 RK Z ?_;have dl := (ag.bm a1 1 2 Z Z Z b1);refine Ys 1 [G cb cc cd] [vi r2.Kind, G cb cc cd] dl Z Z sz39 Z Z Z fun fz bv dm => ?_;have cs := bu.wr 1 Z bv;have dn := Gm.tq ce bv (hv_mem 1 Z);refine Xb ⟨dn, ?_⟩;refine Yq RK ?_;have ct := cs.drop 0 Z;have a6 := (cs.sd (bu.sw dk 2 1 Z Z Z bv) 2 0 Z Z Z);have a7 := (bu.bmo (ag.bmo ((bn.k0 aw).k0 ae) 2 Z b1) 1 Z bv);have a8 := (bu.bm (ag.bm (((am.bwm (al.bwm (bb.bm ((a9.bwm bl 0 Z bd).k0 ba) 2 0 Z Z Z bc) 2 Z an) 2 Z ao).k0 aw).k0 ae) 3 2 Z Z Z b1) 3 1 Z Z Z bv);have dp := dm;exact ⟨cb, cc, cd, (Xz Z), ct, (hp5.st ct.st), a6, a7, a8, dp⟩
  rintro ho b6 ⟨br, b4, b5, f0, dq, hp, f1, f2, f3, f4⟩;obtain ⟨hq, rfl⟩ := Has.ins f0;refine Xc (Xd (Xa (Xv ag41 sz41 cL (Ad aa 0) [vi r2.Kind, G br b4 b5] Z Z (f4.cells (off := 00) Z)) (Yd [vi r2.Kind, G br b4 b5] f3 Z Z sz41 Z Z fun f5 dr f6 => ?_)));have ds := dq.wr 2 Z dr;refine Xb (Xl ?_);have f7 := ds.bgv f6 2 Z;have dt := ds.drop 2 Z;have f8 := (ds.sd (dq.sw f1 1 2 Z Z Z dr) 1 2 Z Z Z);have f9 := dt.gv f8 1 Z;have ed : Ct [some b] w0 f5 [some aa] O := dt.drop 1 Z;have ga := ed.drop 0 Z;have gb := dt.std 1 Z;have ee := ed.std 0 Z;have gc := ((f7.st gb).st ee);have gd := (dq.bmo f2 2 Z dr);exact ⟨[.agg #[vi r2.Kind, G br b4 b5]], ⟨_, _, Z, gc.1.res Z ag41 sz41, Z⟩, (⟨r2.Kind, (r2.Pts ++ ([(nth r2.Pts ((r2.Pts.length : Int) - 1))] : List Pt))⟩ : Shape), m3, br, b4, b5, Z, H, ga.gr.g1, gd, (f9.st ee)⟩
 have H := Xo H dh;refine Xc (Xd (Xa (X1 r4 3 (r4 == 3) Z Z Z) (Xf (vb (r4 == 3)) Z (Xb ?_))));refine Xy (r4 == 3) Z (fun du => ?_) (fun du => ?_)
 ·have H := Xn H du;refine Xd (Xa (Xj fa41_1 (Ad aa 0) (Ad aa 1) Z Z) ?_);have ef := (am.bwm (al.bwm b2 0 Z an) 0 Z ao);refine Xa (Xm ag39 cL (Ad aa 1) (G ab ac ad) Z (ef.cell Z)) (Xe (vi r3) Z ?_);have ge := (am.swm (al.swm bq 1 Z an) 1 Z ao);have gf := b3.gv ge 1 Z;have c1 := b3.drop 1 Z;obtain ⟨gg, H⟩ := H;refine Zr u39_ Yv ab ac ad r2.Pts Z gf 0 r3 Z Z gg fun cf cg ch gh => ?_;refine Xa (Xj fa41_1 (Ad aa 0) (Ad aa 1) Z Z) ?_;have gi := ef;refine Ys 1 [G cf cg ch] [vi r2.Kind, G cf cg ch] gi Z Z sz39 Z Z Z fun hr c2 gj => ?_;have dv := c1.wr 0 Z c2;refine Xb (Xc (Xd (Xa (Xv ag41 sz41 cL (Ad aa 0) [vi r2.Kind, G cf cg ch] Z Z (gj.cells (off := 00) Z)) ?_)));have gk := (c1.bm (am.bwm (al.bwm (bb.bm ((a9.bwm bl 0 Z bd).k0 ba) 2 0 Z Z Z bc) 2 Z an) 2 Z ao) 1 0 Z Z Z c2);refine Yd [vi r2.Kind, G cf cg ch] gk Z Z sz41 Z Z fun gl dw gm => ?_;have dx := dv.wr 1 Z dw;refine Xb (Xl ?_);have gn := dx.bgv gm 1 Z;have eg := dx.drop 1 Z;have gp : Ct [some b] w0 gl [] O := eg.drop 0 Z;have eh := eg.std 0 Z;have gq := (gn.st eh);have gs := c1.stw 0 Z c2;have gt := dv.stw 1 Z dw;have gu := dx.std 1 Z;have gw := ((((gh.st gs).st gt).st gu).st eh);have gx := (dv.bmo (c1.bmo bn 0 Z c2) 1 Z dw);exact ⟨[.agg #[vi r2.Kind, G cf cg ch]], ⟨_, _, Z, gq.1.res Z ag41 sz41, Z⟩, (⟨r2.Kind, ((r2.Pts.drop (0 : Int).toNat).take (r3.toNat - (0 : Int).toNat))⟩ : Shape), m3, cf, cg, ch, Z, H, gp.gr.g1, gx, gw⟩
 have H := Xo H du;refine Xx (Xc (Xd ?_));have gy := (am.bwm (al.bwm b2 0 Z an) 0 Z ao);refine Xa (Xv ag41 sz41 cL (Ad aa 0) [vi r2.Kind, G ab ac ad] Z Z (gy.cells (off := 00) Z)) ?_;have gz := (am.bwm (al.bwm (bb.bm ((a9.bwm bl 0 Z bd).k0 ba) 2 0 Z Z Z bc) 2 Z an) 2 Z ao);refine Yd [vi r2.Kind, G ab ac ad] gz Z Z sz41 Z Z fun g0 dy g2 => ?_;have dz := b3.wr 2 Z dy;refine Xb (Xl ?_);have g3 := dz.bgv g2 2 Z;have d0 := dz.drop 2 Z;have g4 := (dz.sd (b3.sw (am.swm (al.swm bq 1 Z an) 1 Z ao) 1 2 Z Z Z dy) 1 2 Z Z Z);have g5 := d0.gv g4 1 Z;have ei := d0.drop 1 Z;have g6 : Ct [some b] w0 g0 [] O := ei.drop 0 Z;have g7 := d0.std 1 Z;have ej := ei.std 0 Z;have g8 := ((g3.st g7).st ej);have ha := (b3.bmo bn 2 Z dy);exact ⟨[.agg #[vi r2.Kind, G ab ac ad]], ⟨_, _, Z, g8.1.res Z ag41 sz41, Z⟩, r2, m3, ab, ac, ad, Z, H, g6.gr.g1, ha, (g5.st ej)⟩
def F94.E (r_b : List UInt8) (r_p : Int) (Q : Feat → Int → Prop) : Prop :=
 F137.E r_b r_p (fun r2 m => F81.E r_b m r2 (fun r3 m2 => F22.E r_b m2 40 (fun r4 m3 => (if r4 == 0 then F45.E r_b m3 ([([] : Str), ([65] : Str), ([97, 98, 99, 100, 101, 102, 103] : Str)] : List Str) (fun r5 m4 => Q (⟨r5, r3.Shape, r3.Tags⟩ : Feat) m4) else (if r4 == 1 then F93.E r_b m3 (fun r6 m5 => Q (⟨r3.Id, r6, r3.Tags⟩ : Feat) m5) else (if r4 == 2 then (r3.Tags.length + ([(⟨([97] : Str), ([98] : Str)⟩ : Tag)] : List Tag).length ≤ 268435456) ∧ Q (⟨r3.Id, r3.Shape, (r3.Tags ++ ([(⟨([97] : Str), ([98] : Str)⟩ : Tag)] : List Tag))⟩ : Feat) m3 else (if r4 == 3 then F45.E r_b m3 ([([] : Str), ([66] : Str)] : List Str) (fun r7 m6 => (r3.Tags.length + ([(⟨([122, 122] : Str), r7⟩ : Tag)] : List Tag).length ≤ 268435456) ∧ Q (⟨r3.Id, r3.Shape, (r3.Tags ++ ([(⟨([122, 122] : Str), r7⟩ : Tag)] : List Tag))⟩ : Feat) m6) else Q r3 m3)))))))
theorem F94.calls {b : Nat} {r_b : List UInt8} {A2 : Option Addr} {n3 c4 : Nat} {r_p : Int} {Q : Feat → Int → Prop} (H : F94.E r_b r_p Q) (hO : Ok w0 O) (hp5 : Sl Kd.byte w0 (Fr O) (G A2 n3 c4) r_b) (hp0 : Bx w0 b [G A2 n3 c4, vi r_p]) (hm : some b ∈ O) :
  Ret Tryz.prog 63 [Pz b] w0 (fun v w' => ∃ (r0 : Feat) (m0 : Int) (Aw0 : Option Addr) (nw0 cw0 : Nat) (Aw2 : Option Addr) (nw2 cw2 : Nat), v = .agg #[vs r0.Id, vi r0.Shape.Kind, G Aw0 nw0 cw0, G Aw2 nw2 cw2] ∧ Q r0 m0 ∧ Gr w0 w' (some b) ∧ Bx w' b [G A2 n3 c4, vi m0] ∧ Lim r0.Id ∧ Sl kPt w' (Fr O) (G Aw0 nw0 cw0) r0.Shape.Pts ∧ Sl kTag w' (Fr O) (G Aw2 nw2 cw2) r0.Tags) := by
 unfold F94.E at H;have hc0 := Ct.initm1 (r := some b) hO (by intro b e; cases e; exact hm);refine X9 Tryz.func63 Z 41 Z [.cell 2 44] Z Z ?_;refine Xc (Xd (Yk [vs [], .int .i64 0, G none 0 0, G none 0 0] ze44 fun w7 b8 ez hu11 g9 bi => ?_));have a8 := hc0.own g9 (some b8) (Yj ez hu11);refine Xb (Xc (Xd (Xe (Pz b) Z (Xe (Pz b) Z ?_))));have e0 := (hp0.k0 g9);refine Xs go98 (F137.calls H a8.ok (hp5.st a8.st) e0 (List.mem_append_right _ hm)) Z ?_;rintro _ e1 ⟨r2, m, rfl, H, bg, e2, e3⟩;have a9 := a8.wm bg;refine Xs go61 (F81.calls H a9.ok (hp5.st a9.st) e2 (List.mem_append_right _ hm) e3) Z ?_;rintro _ ht ⟨r3, m2, aa, ac, ad, ae, af, ag, rfl, H, bh, e4, e5, e6, bn, bo, bj⟩;have e7 := a9.ownm bh e5 e6;refine Yk [vs [], .int .i64 0, G none 0 0, G none 0 0] ze44 fun hu ab a2 hu44 ao e8 => ?_;have ap := e7.own ao (some ab) (Yj a2 hu44);refine Yd [vs r3.Id, vi r3.Shape.Kind, G aa ac ad, G ae af ag] e8 Z Z sz44 Z Z fun e9 aq bl => ?_;have ah := ap.wr 0 Z aq;refine Xb (Xc (Xc (Xd (Xe (Pz b) Z ?_))));have fa := (ap.bmo (e4.k0 ao) 0 Z aq);refine Xs go47 (F22.calls H ah.ok (hp5.st ah.st) fa (List.mem_append_right _ hm)) Z ?_;rintro _ fb ⟨r4, m3, rfl, H, ai, bp⟩;have a6 := ah.wm ai;refine Xb (X6 (Xc (Xd (Xa (X1 r4 0 (r4 == 0) Z Z Z) (Xf (vb (r4 == 0)) Z (Xb ?_))))));refine Xy (r4 == 0) Z (fun ds => ?_) (fun ds => ?_)
 ·have H := Xn H ds;refine Xd (Xe (Pz b) Z (X8 (kd := Kd.str) Y9 a6 ([([] : Str), ([65] : Str), ([97, 98, 99, 100, 101, 102, 103] : Str)] : List Str) (cells := [vs [], vs ([65] : Str), vs ([97, 98, 99, 100, 101, 102, 103] : Str)]) ⟨[vs []], _, Z, ⟨Z, (by decide : Lim ([] : Str))⟩, ⟨[vs ([65] : Str)], _, Z, ⟨Z, (by decide : Lim ([65] : Str))⟩, ⟨[vs ([97, 98, 99, 100, 101, 102, 103] : Str)], _, Z, ⟨Z, (by decide : Lim ([97, 98, 99, 100, 101, 102, 103] : Str))⟩, Z⟩⟩⟩ RF fun fc dt eb ec cn hr65 bq fd => ?_));have fe := bq.gv fd 0 Z;have ed := bq.drop 0 Z;have ff := (bp.k0 cn);refine Xs go96 (F45.calls H ed.ok (hp5.st ed.st) ff (List.mem_append_right _ hm) fe) Z ?_;rintro _ hv ⟨r5, m4, rfl, H, co, fg, fh⟩;have cp := bq.wm co;refine Xa (Xj fa44_0 (Ad ab 0) (Ad ab 0) Z Z) ?_;have fi := (bq.bwm ((ah.bwm bl 0 Z ai).k0 cn) 1 Z co);refine Ys 0 [vs r5] [vs r5, vi r3.Shape.Kind, G aa ac ad, G ae af ag] fi Z Z sz9 Z Z Z fun hw cq fj => ?_;have c5 := cp.wr 1 Z cq;refine Xb (Xc (Xd (Xa (Xv ag44 sz44 cL (Ad ab 0) [vs r5, vi r3.Shape.Kind, G aa ac ad, G ae af ag] Z Z (fj.cells (off := 00) Z)) ?_)));have fk := (cp.bm (bq.bwm ((ah.bwm (ap.bm ((a9.bwm (a8.bwm bi 0 Z bg) 0 Z bh).k0 ao) 3 0 Z Z Z aq) 3 Z ai).k0 cn) 4 Z co) 4 1 Z Z Z cq);refine Yd [vs r5, vi r3.Shape.Kind, G aa ac ad, G ae af ag] fk Z Z sz44 Z Z fun fl c6 fm => ?_;have c7 := c5.wr 4 Z c6;refine Xb (Xl ?_);have fn := c7.bgv fm 4 Z;have c8 := c7.drop 4 Z;have fo := (c7.sd (c5.sw (cp.sw (bq.swm ((ah.swm (ap.sw (bo.so _ ao (X2 a2)) 1 0 Z Z Z aq) 1 Z ai).so _ cn hr65) 2 Z co) 2 1 Z Z Z cq) 2 4 Z Z Z c6) 2 4 Z Z Z);have fp := c8.gv fo 2 Z;have du := c8.drop 2 Z;have fq := (c8.sd (c7.sd (c5.sw (cp.sw (bq.swm ((ah.swm (ap.sw (bj.so _ ao (X2 a2)) 2 0 Z Z Z aq) 2 Z ai).so _ cn hr65) 3 Z co) 3 1 Z Z Z cq) 3 4 Z Z Z c6) 3 4 Z Z Z) 3 2 Z Z Z);have fr := du.gv fq 2 Z;have fs : Ct [some b] w0 fl [bk dt, some ab] O := du.drop 2 Z;have ft := fs.clear;have fu := c8.std 2 Z;have ee := du.std 2 Z;have fv := (((fn.st fu).st ee).st St.clear);have fw := ((fp.st ee).st St.clear);have fx := (c5.bmo (cp.bmo fg 1 Z cq) 4 Z c6);exact ⟨[.agg #[vs r5, vi r3.Shape.Kind, G aa ac ad, G ae af ag]], ⟨_, _, Z, fv.1.res Z ag44 sz44, Z⟩, (⟨r5, r3.Shape, r3.Tags⟩ : Feat), m4, aa, ac, ad, ae, af, ag, Z, H, ft.gr.g1, fx, fh, fw, (fr.st St.clear)⟩
 have H := Xo H ds;refine Xc (Xd (Xa (X1 r4 1 (r4 == 1) Z Z Z) (Xf (vb (r4 == 1)) Z (Xb ?_))));refine Xy (r4 == 1) Z (fun dv => ?_) (fun dv => ?_)
 ·have H := Xn H dv;refine Xd (Xe (Pz b) Z ?_);refine Xs go114 (F93.calls H a6.ok (hp5.st a6.st) bp (List.mem_append_right _ hm)) Z ?_;rintro _ hx ⟨r6, m5, br, bs, bt, rfl, H, c9, fy, fz⟩;have cr := a6.wm c9;refine Xa (Xj fa44_1 (Ad ab 0) (Ad ab 1) Z Z) ?_;have f0 := (a6.bwm (ah.bwm bl 0 Z ai) 0 Z c9);refine Ys 1 [vi r6.Kind, G br bs bt] [vs r3.Id, vi r6.Kind, G br bs bt, G ae af ag] f0 Z Z sz41 Z Z Z fun hy cs f1 => ?_;have da := cr.wr 0 Z cs;refine Xb (Xc (Xd (Xa (Xv ag44 sz44 cL (Ad ab 0) [vs r3.Id, vi r6.Kind, G br bs bt, G ae af ag] Z Z (f1.cells (off := 00) Z)) ?_)));have f2 := (cr.bm (a6.bwm (ah.bwm (ap.bm ((a9.bwm (a8.bwm bi 0 Z bg) 0 Z bh).k0 ao) 3 0 Z Z Z aq) 3 Z ai) 3 Z c9) 3 0 Z Z Z cs);refine Yd [vs r3.Id, vi r6.Kind, G br bs bt, G ae af ag] f2 Z Z sz44 Z Z fun hz db f3 => ?_;have dc := da.wr 3 Z db;refine Xb (Xl ?_);have f4 := dc.bgv f3 3 Z;have dw := dc.drop 3 Z;have f5 := (dc.sd (da.sw (cr.sw (a6.swm (ah.swm (ap.sw (bj.so _ ao (X2 a2)) 2 0 Z Z Z aq) 2 Z ai) 2 Z c9) 2 0 Z Z Z cs) 2 3 Z Z Z db) 2 3 Z Z Z);have f6 := dw.gv f5 2 Z;have f7 := dw.drop 2 Z;have f8 := f7.clear;have ef := dw.std 2 Z;have f9 := ((f4.st ef).st St.clear);have ga := cr.stw 0 Z cs;have gb := da.stw 3 Z db;have gc := dc.std 3 Z;have gd := (((((fz.st ga).st gb).st gc).st ef).st St.clear);have ge := (da.bmo (cr.bmo fy 0 Z cs) 3 Z db);exact ⟨[.agg #[vs r3.Id, vi r6.Kind, G br bs bt, G ae af ag]], ⟨_, _, Z, f9.1.res Z ag44 sz44, Z⟩, (⟨r3.Id, r6, r3.Tags⟩ : Feat), m5, br, bs, bt, ae, af, ag, Z, H, f8.gr.g1, ge, bn, gd, (f6.st St.clear)⟩
 have H := Xo H dv;refine Xc (Xd (Xa (X1 r4 2 (r4 == 2) Z Z Z) (Xf (vb (r4 == 2)) Z (Xb ?_))));refine Xy (r4 == 2) Z (fun dx => ?_) (fun dx => ?_)
 ·have H := Xn H dx;refine Xd (Xa (Xj fa44_2 (Ad ab 0) (Ad ab 3) Z Z) ?_);have eg := (ah.bwm bl 0 Z ai);refine Xa (Xm ag42 cL (Ad ab 3) (G ae af ag) Z (eg.cell Z)) (Xa (Ym (.agg #[vs ([97] : Str), vs ([98] : Str)]) RF) (X8 (kd := kTag) Yx a6 ([(⟨([97] : Str), ([98] : Str)⟩ : Tag)] : List Tag) (cells := [vs ([97] : Str), vs ([98] : Str)]) ⟨[vs ([97] : Str), vs ([98] : Str)], _, Z, (kTag.mk _ _ (⟨([97] : Str), ([98] : Str)⟩ : Tag) (by decide : Lim ([97] : Str)) (by decide : Lim ([98] : Str))), Z⟩ RF fun h0 eh gf gg ct hr149 cu gh => ?_));obtain ⟨gi, H⟩ := H;have gj := ((ah.swm (ap.sw (bj.so _ ao (X2 a2)) 2 0 Z Z Z aq) 2 Z ai).so _ ct hr149);refine Ye Yx cu (G ae af ag) r3.Tags ([(⟨([97] : Str), ([98] : Str)⟩ : Tag)] : List Tag) Z gj (G eh gf gg) Z gh.sx 3 Z gi fun h1 bu bv bw dd gk cv gl => ?_;refine Xa (Xj fa44_2 (Ad ab 0) (Ad ab 3) Z Z) ?_;have gm := (cu.bm (eg.k0 ct) 1 3 Z Z Z dd);refine Ys 3 [G bu bv bw] [vs r3.Id, vi r3.Shape.Kind, G aa ac ad, G bu bv bw] gm Z Z sz42 Z Z Z fun h2 cw gn => ?_;have de := cv.wr 1 Z cw;refine Xb (Xc (Xd (Xa (Xv ag44 sz44 cL (Ad ab 0) [vs r3.Id, vi r3.Shape.Kind, G aa ac ad, G bu bv bw] Z Z (gn.cells (off := 00) Z)) ?_)));have gp := (cv.bm (cu.bm ((ah.bwm (ap.bm ((a9.bwm (a8.bwm bi 0 Z bg) 0 Z bh).k0 ao) 3 0 Z Z Z aq) 3 Z ai).k0 ct) 4 3 Z Z Z dd) 4 1 Z Z Z cw);refine Yd [vs r3.Id, vi r3.Shape.Kind, G aa ac ad, G bu bv bw] gp Z Z sz44 Z Z fun gq df gs => ?_;have dg := de.wr 4 Z df;refine Xb (Xl ?_);have gt := dg.bgv gs 4 Z;have dh := dg.drop 4 Z;have gu := (dg.sd (de.sw (cv.sw (cu.sm ((ah.swm (ap.sw (bo.so _ ao (X2 a2)) 1 0 Z Z Z aq) 1 Z ai).so _ ct hr149) 2 3 Z Z Z dd gk) 2 1 Z Z Z cw) 2 4 Z Z Z df) 2 4 Z Z Z);have gw := dh.gv gu 2 Z;have dy := dh.drop 2 Z;have gx := (dh.sd (dg.sd (de.sw (cv.sw gl 3 1 Z Z Z cw) 3 4 Z Z Z df) 3 4 Z Z Z) 3 2 Z Z Z);have gy := dy.gv gx 2 Z;have gz : Ct [some b] w0 gq [bk eh, some ab] O := dy.drop 2 Z;have g0 := gz.clear;have g2 := dh.std 2 Z;have ei := dy.std 2 Z;have g3 := (((gt.st g2).st ei).st St.clear);have g4 := ((gw.st ei).st St.clear);have g5 := (de.bmo (cv.bmo (cu.bmo (bp.k0 ct) 3 Z dd) 1 Z cw) 4 Z df);exact ⟨[.agg #[vs r3.Id, vi r3.Shape.Kind, G aa ac ad, G bu bv bw]], ⟨_, _, Z, g3.1.res Z ag44 sz44, Z⟩, (⟨r3.Id, r3.Shape, (r3.Tags ++ ([(⟨([97] : Str), ([98] : Str)⟩ : Tag)] : List Tag))⟩ : Feat), m3, aa, ac, ad, bu, bv, bw, Z, H, g0.gr.g1, g5, bn, g4, (gy.st St.clear)⟩
 have H := Xo H dx;refine Xc (Xd (Xa (X1 r4 3 (r4 == 3) Z Z Z) (Xf (vb (r4 == 3)) Z (Xb ?_))));refine Xy (r4 == 3) Z (fun dz => ?_) (fun dz => ?_)
 ·have H := Xn H dz;refine Y7 10 [some b, bk ae, some ab] RK Z fun h3 au cx => ?_;have ej := a6.k0 au;refine Xu 0 Z RK cx (Xj fa44_2 (Ad ab 0) (Ad ab 3) Z Z) ?_;refine Xu 2 Z RK cx (Yw (Pz b) Z) ?_;refine Y6 1 3 RK Z Z ?_ ?_
  ·have ek := ((ah.bwm bl 0 Z ai).k0 au);refine Xa (Xm ag42 cL (Ad ab 3) (G ae af ag) Z (ek.cell Z)) ?_;refine Xb ⟨cx, ?_⟩;refine X3 3 RK Z ?_;refine X8 (kd := Kd.str) Y9 ej ([([] : Str), ([66] : Str)] : List Str) (cells := [vs [], vs ([66] : Str)]) ⟨[vs []], _, Z, ⟨Z, (by decide : Lim ([] : Str))⟩, ⟨[vs ([66] : Str)], _, Z, ⟨Z, (by decide : Lim ([66] : Str))⟩, Z⟩⟩ RF fun g6 di el em cl hr201 bx g7 => ?_;have en := Gm.tm cx cl;refine Xb ⟨en, ?_⟩;refine X3 4 RK Z ?_;have d0 := bx.gv g7 0 Z;have cy := bx.drop 0 Z;have d1 := ((bp.k0 au).k0 cl);refine Xs go96 (F45.calls H cy.ok (hp5.st cy.st) d1 (List.mem_append_right _ hm) d0) Z ?_;rintro _ g8 ⟨r7, m6, rfl, H, a7, d2, d3⟩;have d4 := bx.wm a7;have bz := Gm.tq en a7 (hv_mem 0 Z);refine Xb ⟨bz, ?_⟩;refine Xu 5 Z RK bz (Ym (.agg #[vs ([122, 122] : Str), vs r7]) RF) ?_;refine X3 6 RK Z ?_;refine X8 (kd := kTag) Yx d4 ([(⟨([122, 122] : Str), r7⟩ : Tag)] : List Tag) (cells := [vs ([122, 122] : Str), vs r7]) ⟨[vs ([122, 122] : Str), vs r7], _, Z, (kTag.mk _ _ (⟨([122, 122] : Str), r7⟩ : Tag) (by decide : Lim ([122, 122] : Str)) d3), Z⟩ RF fun eo ba cz c0 av hr224 a1 c1 => ?_;have bb := Gm.tm bz av;refine Xb ⟨bb, ?_⟩;refine X3 7 RK Z ?_;obtain ⟨b0, H⟩ := H;have b1 := ((bx.swm (((ah.swm (ap.sw (bj.so _ ao (X2 a2)) 2 0 Z Z Z aq) 2 Z ai).sn au).so _ cl hr201) 3 Z a7).so _ av hr224);refine Ye Yx a1 (G ae af ag) r3.Tags ([(⟨([122, 122] : Str), r7⟩ : Tag)] : List Tag) Z b1 (G ba cz c0) Z c1.sx 4 Z b0 fun d5 aj ak al ar bc am b2 => ?_;have a3 := Gm.tq bb ar (hv_mem 1 Z);have d6 := hv_app (L := [bk ba, bk di, some ab, bk aa, bk ae, some b8]) (O := O) (i := 4) bb Z (hv_mem 1 Z) bc am;refine Xb ⟨a3, ?_⟩;refine Xu 8 Z RK a3 (Xj fa44_2 (Ad ab 0) (Ad ab 3) Z Z) ?_;refine X3 9 RK Z ?_;have b3 := (a1.bm ((bx.bwm (ek.k0 cl) 1 Z a7).k0 av) 2 4 Z Z Z ar);refine Ys 3 [G aj ak al] [vs r3.Id, vi r3.Shape.Kind, G aa ac ad, G aj ak al] b3 Z Z sz42 Z Z Z fun d7 an b4 => ?_;have aw := am.wr 2 Z an;have b5 := Gm.tq a3 an (hv_mem 2 Z);refine Xb ⟨b5, ?_⟩;refine Yq RK ?_;refine Xc (Xd (Xa (Xv ag44 sz44 cL (Ad ab 0) [vs r3.Id, vi r3.Shape.Kind, G aa ac ad, G aj ak al] Z Z (b4.cells (off := 00) Z)) ?_));have b6 := (am.bm (a1.bm ((bx.bwm (((ah.bwm (ap.bm ((a9.bwm (a8.bwm bi 0 Z bg) 0 Z bh).k0 ao) 3 0 Z Z Z aq) 3 Z ai).k0 au).k0 cl) 4 Z a7).k0 av) 5 4 Z Z Z ar) 5 2 Z Z Z an);refine Yd [vs r3.Id, vi r3.Shape.Kind, G aa ac ad, G aj ak al] b6 Z Z sz44 Z Z fun b7 ax b9 => ?_;have ay := aw.wr 5 Z ax;refine Xb (Xl ?_);have ca := ay.bgv b9 5 Z;have az := ay.drop 5 Z;have cb := (ay.sd (aw.sw (am.sw (a1.sm ((bx.swm (((ah.swm (ap.sw (bo.so _ ao (X2 a2)) 1 0 Z Z Z aq) 1 Z ai).sn au).so _ cl hr201) 2 Z a7).so _ av hr224) 3 4 Z Z Z ar bc) 3 2 Z Z Z an) 3 5 Z Z Z ax) 3 5 Z Z Z);have cc := az.gv cb 3 Z;have a4 := az.drop 3 Z;have cd := (az.sd (ay.sd (aw.sw (am.sw b2 4 2 Z Z Z an) 4 5 Z Z Z ax) 4 5 Z Z Z) 4 3 Z Z Z);have ce := a4.gv cd 3 Z;have cf : Ct [some b] w0 b7 [bk ba, bk di, some ab] O := a4.drop 3 Z;have cg := cf.clear;have ch := az.std 3 Z;have bd := a4.std 3 Z;have ci := (((ca.st ch).st bd).st St.clear);have cj := ((cc.st bd).st St.clear);have ck := (aw.bmo (am.bmo (a1.bmo (d2.k0 av) 4 Z ar) 2 Z an) 5 Z ax);exact ⟨[.agg #[vs r3.Id, vi r3.Shape.Kind, G aa ac ad, G aj ak al]], ⟨_, _, Z, ci.1.res Z ag44 sz44, Z⟩, (⟨r3.Id, r3.Shape, (r3.Tags ++ ([(⟨([122, 122] : Str), r7⟩ : Tag)] : List Tag))⟩ : Feat), m6, aa, ac, ad, aj, ak, al, Z, H, cg.gr.g1, ck, bn, cj, (ce.st St.clear)⟩
  refine X8 (kd := Kd.str) Y9 ej ([([] : Str), ([66] : Str)] : List Str) (cells := [vs [], vs ([66] : Str)]) ⟨[vs []], _, Z, ⟨Z, (by decide : Lim ([] : Str))⟩, ⟨[vs ([66] : Str)], _, Z, ⟨Z, (by decide : Lim ([66] : Str))⟩, Z⟩⟩ RF fun ep be dj dk a5 hr200 a0 eq => ?_;have dl := Gm.tm cx a5;refine Xb ⟨dl, ?_⟩;refine Y6 1 4 RK Z Z ?_ ?_
  ·have dm := (((ah.bwm bl 0 Z ai).k0 au).k0 a5);refine Xa (Xm ag42 cL (Ad ab 3) (G ae af ag) Z (dm.cell Z)) ?_;refine Xb ⟨dl, ?_⟩;refine X3 4 RK Z ?_;have d0 := a0.gv eq 0 Z;have cy := a0.drop 0 Z;have d1 := ((bp.k0 au).k0 a5);refine Xs go96 (F45.calls H cy.ok (hp5.st cy.st) d1 (List.mem_append_right _ hm) d0) Z ?_;rintro _ g8 ⟨r7, m6, rfl, H, a7, d2, d3⟩;have d4 := a0.wm a7;have bz := Gm.tq dl a7 (hv_mem 0 Z);refine Xb ⟨bz, ?_⟩;refine Xu 5 Z RK bz (Ym (.agg #[vs ([122, 122] : Str), vs r7]) RF) ?_;refine X3 6 RK Z ?_;refine X8 (kd := kTag) Yx d4 ([(⟨([122, 122] : Str), r7⟩ : Tag)] : List Tag) (cells := [vs ([122, 122] : Str), vs r7]) ⟨[vs ([122, 122] : Str), vs r7], _, Z, (kTag.mk _ _ (⟨([122, 122] : Str), r7⟩ : Tag) (by decide : Lim ([122, 122] : Str)) d3), Z⟩ RF fun eo ba cz c0 av hr224 a1 c1 => ?_;have bb := Gm.tm bz av;refine Xb ⟨bb, ?_⟩;refine X3 7 RK Z ?_;obtain ⟨b0, H⟩ := H;have b1 := ((a0.swm (((ah.swm (ap.sw (bj.so _ ao (X2 a2)) 2 0 Z Z Z aq) 2 Z ai).sn au).so _ a5 hr200) 3 Z a7).so _ av hr224);refine Ye Yx a1 (G ae af ag) r3.Tags ([(⟨([122, 122] : Str), r7⟩ : Tag)] : List Tag) Z b1 (G ba cz c0) Z c1.sx 4 Z b0 fun d5 aj ak al ar bc am b2 => ?_;have a3 := Gm.tq bb ar (hv_mem 1 Z);have d6 := hv_app (L := [bk ba, bk be, some ab, bk aa, bk ae, some b8]) (O := O) (i := 4) bb Z (hv_mem 1 Z) bc am;refine Xb ⟨a3, ?_⟩;refine Xu 8 Z RK a3 (Xj fa44_2 (Ad ab 0) (Ad ab 3) Z Z) ?_;refine X3 9 RK Z ?_;have b3 := (a1.bm ((a0.bwm dm 1 Z a7).k0 av) 2 4 Z Z Z ar);refine Ys 3 [G aj ak al] [vs r3.Id, vi r3.Shape.Kind, G aa ac ad, G aj ak al] b3 Z Z sz42 Z Z Z fun d7 an b4 => ?_;have aw := am.wr 2 Z an;have b5 := Gm.tq a3 an (hv_mem 2 Z);refine Xb ⟨b5, ?_⟩;refine Yq RK ?_;refine Xc (Xd (Xa (Xv ag44 sz44 cL (Ad ab 0) [vs r3.Id, vi r3.Shape.Kind, G aa ac ad, G aj ak al] Z Z (b4.cells (off := 00) Z)) ?_));have b6 := (am.bm (a1.bm ((a0.bwm (((ah.bwm (ap.bm ((a9.bwm (a8.bwm bi 0 Z bg) 0 Z bh).k0 ao) 3 0 Z Z Z aq) 3 Z ai).k0 au).k0 a5) 4 Z a7).k0 av) 5 4 Z Z Z ar) 5 2 Z Z Z an);refine Yd [vs r3.Id, vi r3.Shape.Kind, G aa ac ad, G aj ak al] b6 Z Z sz44 Z Z fun b7 ax b9 => ?_;have ay := aw.wr 5 Z ax;refine Xb (Xl ?_);have ca := ay.bgv b9 5 Z;have az := ay.drop 5 Z;have cb := (ay.sd (aw.sw (am.sw (a1.sm ((a0.swm (((ah.swm (ap.sw (bo.so _ ao (X2 a2)) 1 0 Z Z Z aq) 1 Z ai).sn au).so _ a5 hr200) 2 Z a7).so _ av hr224) 3 4 Z Z Z ar bc) 3 2 Z Z Z an) 3 5 Z Z Z ax) 3 5 Z Z Z);have cc := az.gv cb 3 Z;have a4 := az.drop 3 Z;have cd := (az.sd (ay.sd (aw.sw (am.sw b2 4 2 Z Z Z an) 4 5 Z Z Z ax) 4 5 Z Z Z) 4 3 Z Z Z);have ce := a4.gv cd 3 Z;have cf : Ct [some b] w0 b7 [bk ba, bk be, some ab] O := a4.drop 3 Z;have cg := cf.clear;have ch := az.std 3 Z;have bd := a4.std 3 Z;have ci := (((ca.st ch).st bd).st St.clear);have cj := ((cc.st bd).st St.clear);have ck := (aw.bmo (am.bmo (a1.bmo (d2.k0 av) 4 Z ar) 2 Z an) 5 Z ax);exact ⟨[.agg #[vs r3.Id, vi r3.Shape.Kind, G aa ac ad, G aj ak al]], ⟨_, _, Z, ci.1.res Z ag44 sz44, Z⟩, (⟨r3.Id, r3.Shape, (r3.Tags ++ ([(⟨([122, 122] : Str), r7⟩ : Tag)] : List Tag))⟩ : Feat), m6, aa, ac, ad, aj, ak, al, Z, H, cg.gr.g1, ck, bn, cj, (ce.st St.clear)⟩
  have dm := a0.gv eq 0 Z;have er := a0.drop 0 Z;have ha := ((bp.k0 au).k0 a5);refine Xs go96 (F45.calls H er.ok (hp5.st er.st) ha (List.mem_append_right _ hm) dm) Z ?_;rintro _ h4 ⟨r7, m6, rfl, H, bf, es, et⟩;have eu := a0.wm bf;have c2 := Gm.tq dl bf (hv_mem 0 Z);refine Xb ⟨c2, ?_⟩;refine Xu 5 Z RK c2 (Ym (.agg #[vs ([122, 122] : Str), vs r7]) RF) ?_;refine Y6 1 6 RK Z Z ?_ ?_
  ·have ev := (a0.bwm (((ah.bwm bl 0 Z ai).k0 au).k0 a5) 1 Z bf);refine Xa (Xm ag42 cL (Ad ab 3) (G ae af ag) Z (ev.cell Z)) ?_;refine Xb ⟨c2, ?_⟩;refine X3 6 RK Z ?_;refine X8 (kd := kTag) Yx eu ([(⟨([122, 122] : Str), r7⟩ : Tag)] : List Tag) (cells := [vs ([122, 122] : Str), vs r7]) ⟨[vs ([122, 122] : Str), vs r7], _, Z, (kTag.mk _ _ (⟨([122, 122] : Str), r7⟩ : Tag) (by decide : Lim ([122, 122] : Str)) et), Z⟩ RF fun eo ba cz c0 av hr224 a1 c1 => ?_;have bb := Gm.tm c2 av;refine Xb ⟨bb, ?_⟩;refine X3 7 RK Z ?_;obtain ⟨b0, H⟩ := H;have b1 := ((a0.swm (((ah.swm (ap.sw (bj.so _ ao (X2 a2)) 2 0 Z Z Z aq) 2 Z ai).sn au).so _ a5 hr200) 3 Z bf).so _ av hr224);refine Ye Yx a1 (G ae af ag) r3.Tags ([(⟨([122, 122] : Str), r7⟩ : Tag)] : List Tag) Z b1 (G ba cz c0) Z c1.sx 4 Z b0 fun d5 aj ak al ar bc am b2 => ?_;have a3 := Gm.tq bb ar (hv_mem 1 Z);have d6 := hv_app (L := [bk ba, bk be, some ab, bk aa, bk ae, some b8]) (O := O) (i := 4) bb Z (hv_mem 1 Z) bc am;refine Xb ⟨a3, ?_⟩;refine Xu 8 Z RK a3 (Xj fa44_2 (Ad ab 0) (Ad ab 3) Z Z) ?_;refine X3 9 RK Z ?_;have b3 := (a1.bm (ev.k0 av) 2 4 Z Z Z ar);refine Ys 3 [G aj ak al] [vs r3.Id, vi r3.Shape.Kind, G aa ac ad, G aj ak al] b3 Z Z sz42 Z Z Z fun d7 an b4 => ?_;have aw := am.wr 2 Z an;have b5 := Gm.tq a3 an (hv_mem 2 Z);refine Xb ⟨b5, ?_⟩;refine Yq RK ?_;refine Xc (Xd (Xa (Xv ag44 sz44 cL (Ad ab 0) [vs r3.Id, vi r3.Shape.Kind, G aa ac ad, G aj ak al] Z Z (b4.cells (off := 00) Z)) ?_));have b6 := (am.bm (a1.bm ((a0.bwm (((ah.bwm (ap.bm ((a9.bwm (a8.bwm bi 0 Z bg) 0 Z bh).k0 ao) 3 0 Z Z Z aq) 3 Z ai).k0 au).k0 a5) 4 Z bf).k0 av) 5 4 Z Z Z ar) 5 2 Z Z Z an);refine Yd [vs r3.Id, vi r3.Shape.Kind, G aa ac ad, G aj ak al] b6 Z Z sz44 Z Z fun b7 ax b9 => ?_;have ay := aw.wr 5 Z ax;refine Xb (Xl ?_);have ca := ay.bgv b9 5 Z;have az := ay.drop 5 Z;have cb := (ay.sd (aw.sw (am.sw (a1.sm ((a0.swm (((ah.swm (ap.sw (bo.so _ ao (X2 a2)) 1 0 Z Z Z aq) 1 Z ai).sn au).so _ a5 hr200) 2 Z bf).so _ av hr224) 3 4 Z Z Z ar bc) 3 2 Z Z Z an) 3 5 Z Z Z ax) 3 5 Z Z Z);have cc := az.gv cb 3 Z;have a4 := az.drop 3 Z;have cd := (az.sd (ay.sd (aw.sw (am.sw b2 4 2 Z Z Z an) 4 5 Z Z Z ax) 4 5 Z Z Z) 4 3 Z Z Z);have ce := a4.gv cd 3 Z;have cf : Ct [some b] w0 b7 [bk ba, bk be, some ab] O := a4.drop 3 Z;have cg := cf.clear;have ch := az.std 3 Z;have bd := a4.std 3 Z;have ci := (((ca.st ch).st bd).st St.clear);have cj := ((cc.st bd).st St.clear);have ck := (aw.bmo (am.bmo (a1.bmo (es.k0 av) 4 Z ar) 2 Z an) 5 Z ax);exact ⟨[.agg #[vs r3.Id, vi r3.Shape.Kind, G aa ac ad, G aj ak al]], ⟨_, _, Z, ci.1.res Z ag44 sz44, Z⟩, (⟨r3.Id, r3.Shape, (r3.Tags ++ ([(⟨([122, 122] : Str), r7⟩ : Tag)] : List Tag))⟩ : Feat), m6, aa, ac, ad, aj, ak, al, Z, H, cg.gr.g1, ck, bn, cj, (ce.st St.clear)⟩
  refine X8 (kd := kTag) Yx eu ([(⟨([122, 122] : Str), r7⟩ : Tag)] : List Tag) (cells := [vs ([122, 122] : Str), vs r7]) ⟨[vs ([122, 122] : Str), vs r7], _, Z, (kTag.mk _ _ (⟨([122, 122] : Str), r7⟩ : Tag) (by decide : Lim ([122, 122] : Str)) et), Z⟩ RF fun h5 d8 hb hc cm hr223 c3 hd => ?_;have dn := Gm.tm c2 cm;refine Xb ⟨dn, ?_⟩;refine X3 1 RK Z ?_;have ew := ((a0.bwm (((ah.bwm bl 0 Z ai).k0 au).k0 a5) 1 Z bf).k0 cm);refine Xa (Xm ag42 cL (Ad ab 3) (G ae af ag) Z (ew.cell Z)) ?_;refine Xb ⟨dn, ?_⟩;refine X3 7 RK Z ?_;obtain ⟨b0, H⟩ := H;have b1 := ((a0.swm (((ah.swm (ap.sw (bj.so _ ao (X2 a2)) 2 0 Z Z Z aq) 2 Z ai).sn au).so _ a5 hr200) 3 Z bf).so _ cm hr223);refine Ye Yx c3 (G ae af ag) r3.Tags ([(⟨([122, 122] : Str), r7⟩ : Tag)] : List Tag) Z b1 (G d8 hb hc) Z hd.sx 4 Z b0 fun d5 aj ak al ar bc am b2 => ?_;have a3 := Gm.tq dn ar (hv_mem 1 Z);have d6 := hv_app (L := [bk d8, bk be, some ab, bk aa, bk ae, some b8]) (O := O) (i := 4) dn Z (hv_mem 1 Z) bc am;refine Xb ⟨a3, ?_⟩;refine Xu 8 Z RK a3 (Xj fa44_2 (Ad ab 0) (Ad ab 3) Z Z) ?_;refine X3 9 RK Z ?_;have b3 := (c3.bm ew 2 4 Z Z Z ar);refine Ys 3 [G aj ak al] [vs r3.Id, vi r3.Shape.Kind, G aa ac ad, G aj ak al] b3 Z Z sz42 Z Z Z fun d7 an b4 => ?_;have aw := am.wr 2 Z an;have b5 := Gm.tq a3 an (hv_mem 2 Z);refine Xb ⟨b5, ?_⟩;refine Yq RK ?_;refine Xc (Xd (Xa (Xv ag44 sz44 cL (Ad ab 0) [vs r3.Id, vi r3.Shape.Kind, G aa ac ad, G aj ak al] Z Z (b4.cells (off := 00) Z)) ?_));have b6 := (am.bm (c3.bm ((a0.bwm (((ah.bwm (ap.bm ((a9.bwm (a8.bwm bi 0 Z bg) 0 Z bh).k0 ao) 3 0 Z Z Z aq) 3 Z ai).k0 au).k0 a5) 4 Z bf).k0 cm) 5 4 Z Z Z ar) 5 2 Z Z Z an);refine Yd [vs r3.Id, vi r3.Shape.Kind, G aa ac ad, G aj ak al] b6 Z Z sz44 Z Z fun b7 ax b9 => ?_;have ay := aw.wr 5 Z ax;refine Xb (Xl ?_);have ca := ay.bgv b9 5 Z;have az := ay.drop 5 Z;have cb := (ay.sd (aw.sw (am.sw (c3.sm ((a0.swm (((ah.swm (ap.sw (bo.so _ ao (X2 a2)) 1 0 Z Z Z aq) 1 Z ai).sn au).so _ a5 hr200) 2 Z bf).so _ cm hr223) 3 4 Z Z Z ar bc) 3 2 Z Z Z an) 3 5 Z Z Z ax) 3 5 Z Z Z);have cc := az.gv cb 3 Z;have a4 := az.drop 3 Z;have cd := (az.sd (ay.sd (aw.sw (am.sw b2 4 2 Z Z Z an) 4 5 Z Z Z ax) 4 5 Z Z Z) 4 3 Z Z Z);have ce := a4.gv cd 3 Z;have cf : Ct [some b] w0 b7 [bk d8, bk be, some ab] O := a4.drop 3 Z;have cg := cf.clear;have ch := az.std 3 Z;have bd := a4.std 3 Z;have ci := (((ca.st ch).st bd).st St.clear);have cj := ((cc.st bd).st St.clear);have ck := (aw.bmo (am.bmo (c3.bmo (es.k0 cm) 4 Z ar) 2 Z an) 5 Z ax);exact ⟨[.agg #[vs r3.Id, vi r3.Shape.Kind, G aa ac ad, G aj ak al]], ⟨_, _, Z, ci.1.res Z ag44 sz44, Z⟩, (⟨r3.Id, r3.Shape, (r3.Tags ++ ([(⟨([122, 122] : Str), r7⟩ : Tag)] : List Tag))⟩ : Feat), m6, aa, ac, ad, aj, ak, al, Z, H, cg.gr.g1, ck, bn, cj, (ce.st St.clear)⟩
 have H := Xo H dz;refine Xx (Xc (Xd ?_));have he := (ah.bwm bl 0 Z ai);refine Xa (Xv ag44 sz44 cL (Ad ab 0) [vs r3.Id, vi r3.Shape.Kind, G aa ac ad, G ae af ag] Z Z (he.cells (off := 00) Z)) ?_;have hf := (ah.bwm (ap.bm ((a9.bwm (a8.bwm bi 0 Z bg) 0 Z bh).k0 ao) 3 0 Z Z Z aq) 3 Z ai);refine Yd [vs r3.Id, vi r3.Shape.Kind, G aa ac ad, G ae af ag] hf Z Z sz44 Z Z fun hg dp hh => ?_;have dq := a6.wr 3 Z dp;refine Xb (Xl ?_);have hi := dq.bgv hh 3 Z;have dr := dq.drop 3 Z;have hj := (dq.sd (a6.sw (ah.swm (ap.sw (bo.so _ ao (X2 a2)) 1 0 Z Z Z aq) 1 Z ai) 1 3 Z Z Z dp) 1 3 Z Z Z);have hk := dr.gv hj 1 Z;have d9 := dr.drop 1 Z;have hl := (dr.sd (dq.sd (a6.sw (ah.swm (ap.sw (bj.so _ ao (X2 a2)) 2 0 Z Z Z aq) 2 Z ai) 2 3 Z Z Z dp) 2 3 Z Z Z) 2 1 Z Z Z);have hn := d9.gv hl 1 Z;have ex : Ct [some b] w0 hg [some ab] O := d9.drop 1 Z;have ho := ex.drop 0 Z;have hp := dr.std 1 Z;have ey := d9.std 1 Z;have ea := ex.std 0 Z;have hq := (((hi.st hp).st ey).st ea);have hr := ((hk.st ey).st ea);have hs := (a6.bmo bp 3 Z dp);exact ⟨[.agg #[vs r3.Id, vi r3.Shape.Kind, G aa ac ad, G ae af ag]], ⟨_, _, Z, hq.1.res Z ag44 sz44, Z⟩, r3, m3, aa, ac, ad, ae, af, ag, Z, H, ho.gr.g1, hs, bn, hr, (hn.st ea)⟩
section
section
variable {P : Program} {n : Nat} {t : Tm} {w : World} {ty : TypeId} {pos : String} {aft : Array Edge} {d : Nat} {x : Operand} {C : World → Prop}
theorem text_cut (s : Str) (i j : Nat) : (⟨s.toArray⟩ : ByteArray).extract i j = ⟨((s.drop i).take (j - i)).toArray⟩ := by
 apply ByteArray.ext
 rw [ByteArray.data_extract]
 apply Array.ext'
 rw [Array.toList_extract]
theorem lim_cut {s : Str} (h : Lim s) (i j : Nat) : Lim ((s.drop i).take j) := by
 unfold Lim at h ⊢
 rw [List.length_take, List.length_drop]; omega
theorem Kh {T : TypeId} (hu : P.underlying T = some .string) {lo hi : Option Operand} (s : Str) (hx : evt n t x = vs s) (i j : Int) (hlo : bound n t lo 0 i) (hhi : bound n t hi (s.length : Int) j)
  (hij : 0 ≤ i ∧ i ≤ j ∧ j ≤ (s.length : Int)) :
  Pu P n t C ⟨some d, .slice T x lo hi none, ty, pos, aft, none⟩ (vs ((s.drop i.toNat).take (j.toNat - i.toNat))) := fun w hw => by
 rw [vs, ← text_cut]
 have hz : (⟨s.toArray⟩ : ByteArray).size = s.length := size_ofL s
 have key : ∀ l h : Option Value, (Instr.sliceAt T (.string ⟨s.toArray⟩) l h none).run P w = (Instr.slice T (.string ⟨s.toArray⟩) l h none).run P w := fun l h => by
  simp [Instr.sliceAt, run_underlying hu]
 simp only [execOp, hx, Sem.run_bind]
 cases lo with
 | none =>
  cases hi with
  | none => simp only [bound] at hlo hhi; subst hlo; subst hhi; simp only [Option.map_none]; rw [key, run_slice_string_all w T _ hu, hz]; simp
  | some h => simp only [bound] at hlo hhi; subst hlo; simp only [Option.map_some, Option.map_none, hhi]; rw [key, run_slice_string_h w T _ hu .i64 j hij.2.1 (by rw [hz]; exact hij.2.2)]; simp
 | some l =>
  cases hi with
  | none => simp only [bound] at hlo hhi; subst hhi; simp only [Option.map_some, Option.map_none, hlo]; rw [key, run_slice_string_l w T _ hu .i64 i hij.1 (by rw [hz]; exact hij.2.1), hz]; simp
  | some h => simp only [bound] at hlo hhi; simp only [Option.map_some, Option.map_none, hlo, hhi]; rw [key, run_slice_string w T _ .i64 .i64 i j hu hij.1 hij.2.1 (by rw [hz]; exact hij.2.2)]; simp
end
end
def F107.E (r_b : List UInt8) (r_p : Int) (Q : List Feat → Int → Prop) : Prop :=
 F71.E r_b r_p (fun r2 m => F22.E r_b m 40 (fun r3 m2 => (if r3 == 0 then F94.E r_b m2 (fun r4 m3 => (r2.length + ([r4] : List Feat).length ≤ 268435456) ∧ Q (r2 ++ ([r4] : List Feat)) m3) else (if r3 == 1 then (r2.length + r2.length ≤ 268435456) ∧ Q (r2 ++ r2) m2 else (if r3 == 2 then (∃ (I106 : (List Feat) → Int → Prop) (mu107 : (List Feat) → Int → Nat), I106 r2 0 ∧ ∀ (xs2 : List Feat) (i2 : Int), I106 xs2 i2 → (if decide (i2 ≤ 8) then (I64 (i2 + 1)) ∧ ((0 : Int) ≤ i2 ∧ (i2 : Int) ≤ i2 + 1 ∧ i2 + 1 ≤ (([113, 114, 115, 116, 117, 118, 119, 120, 121, 122] : Str).length : Int)) ∧ F127.E xs2 (⟨((([113, 114, 115, 116, 117, 118, 119, 120, 121, 122] : Str).drop i2.toNat).take ((i2 + 1).toNat - i2.toNat)), (⟨1, ([(⟨0, 0⟩ : Pt)] : List Pt)⟩ : Shape), []⟩ : Feat) (fun r5 => (I64 (i2 + 1)) ∧ I106 r5 (i2 + 1) ∧ mu107 r5 (i2 + 1) < mu107 xs2 i2) else Q xs2 m2)) else Q r2 m2)))))
theorem F107.calls {b : Nat} {r_b : List UInt8} {A2 : Option Addr} {n3 c4 : Nat} {r_p : Int} {Q : List Feat → Int → Prop} (H : F107.E r_b r_p Q) (hO : Ok w0 O) (hp5 : Sl Kd.byte w0 (Fr O) (G A2 n3 c4) r_b) (hp0 : Bx w0 b [G A2 n3 c4, vi r_p]) (hm : some b ∈ O) :
  Ret Tryz.prog 58 [Pz b] w0 (fun v w' => ∃ (r0 : List Feat) (m0 : Int) (Aw0 : Option Addr) (nw0 cw0 : Nat), v = G Aw0 nw0 cw0 ∧ Q r0 m0 ∧ Gr w0 w' (some b) ∧ Bx w' b [G A2 n3 c4, vi m0] ∧ Ok w' ([bk Aw0] ++ O) ∧ (∀ b, some b ∈ [bk Aw0] → w0.heap.size ≤ b) ∧ Ow kFeat 44 w' ([bk Aw0] ++ O) (G Aw0 nw0 cw0) r0) := by
 unfold F107.E at H;have hc0 := Ct.initm1 (r := some b) hO (by intro b e; cases e; exact hm);refine X9 Tryz.func58 Z 38 Z [.tmp 2] Z Z ?_;refine Xc (Xd (Xf (G none 0 0) Z (Xb (Xc (Xd (Xe (Pz b) Z ?_))))));refine Xs go48 (F71.calls H hc0.ok hp5 hp0 hm) Z ?_;rintro _ w7 ⟨r2, m, A9, ab, ac, rfl, H, g8, bs, bt, bu, an⟩;have ag := hc0.ownm g8 bt bu;refine Xf (G A9 ab ac) Z (Xb (Xc (Xc (Xd (Xe (Pz b) Z ?_)))));refine Xs go47 (F22.calls H ag.ok (hp5.st ag.st) bs (List.mem_append_right _ hm)) Z ?_;rintro _ bv ⟨r3, m2, rfl, H, ah, ao⟩;have ad := ag.wm ah;refine Xb (X6 (Xc (Xd (Xa (X1 r3 0 (r3 == 0) Z Z Z) (Xf (vb (r3 == 0)) Z (Xb ?_))))));refine Xy (r3 == 0) Z (fun av => ?_) (fun av => ?_)
 ·have H := Xn H av;refine Xd (Xe (G A9 ab ac) Z (Xe (Pz b) Z ?_));refine Xs go63 (F94.calls H ad.ok (hp5.st ad.st) ao (List.mem_append_right _ hm)) Z ?_;rintro _ c7 ⟨r4, m3, ba, bb, bc, bd, be, bf, rfl, H, bg, bw, bx, bz, b0⟩;have b1 := ad.wm bg;refine X8 (kd := kFeat) Yr b1 ([r4] : List Feat) (cells := [vs r4.Id, vi r4.Shape.Kind, G ba bb bc, G bd be bf]) ⟨[vs r4.Id, vi r4.Shape.Kind, G ba bb bc, G bd be bf], _, Z, (kFeat.mk _ _ r4 bx bz b0), Z⟩ RF fun c8 b2 b3 b4 bh hr47 bi b5 => ?_;obtain ⟨b6, H⟩ := H;have b7 := ((ad.swm (ag.swm an 0 Z ah) 0 Z bg).so _ bh hr47);refine Ye Yr bi (G A9 ab ac) r2 ([r4] : List Feat) Z b7 (G b2 b3 b4) Z b5.sx 1 Z b6 fun c9 ai aj ak b8 da bj b9 => ?_;refine Xf (G ai aj ak) Z (Xb (Xc (Xd (Xe (G ai aj ak) Z (Xf (G ai aj ak) Z (Xb (Xl ?_)))))));have aw := bj.drop 0 Z;have ca := (bj.sd b9 1 0 Z Z Z);have cb := (bi.bmo (bw.k0 bh) 1 Z b8);exact ⟨[G ai aj ak], ⟨_, Z, Z⟩, (r2 ++ ([r4] : List Feat)), m3, ai, aj, ak, Z, H, aw.gr.g1, cb, aw.ok, aw.ge, ca⟩
 have H := Xo H av;refine Xc (Xd (Xa (X1 r3 1 (r3 == 1) Z Z Z) (Xf (vb (r3 == 1)) Z (Xb ?_))));refine Xy (r3 == 1) Z (fun ax => ?_) (fun ax => ?_)
 ·have H := Xn H ax;refine Xc (Xd (Xe (G A9 ab ac) Z (Xe (G A9 ab ac) Z ?_)));have bl := (ag.swm an 0 Z ah);obtain ⟨cc, H⟩ := H;refine Ye Yr ad (G A9 ab ac) r2 r2 Z bl (G A9 ab ac) Z bl.sx 0 Z cc fun db ay az a0 cd dc a1 ce => ?_;refine Xf (G ay az a0) Z (Xb (Xl ?_));have cf := (ad.bmo ao 0 Z cd);exact ⟨[G ay az a0], ⟨_, Z, Z⟩, (r2 ++ r2), m2, ay, az, a0, Z, H, a1.gr.g1, cf, a1.ok, a1.ge, ce⟩
 have H := Xo H ax;refine Xc (Xd (Xa (X1 r3 2 (r3 == 2) Z Z Z) (Xf (vb (r3 == 2)) Z (Xb ?_))));refine Xy (r3 == 2) Z (fun a2 => ?_) (fun a2 => ?_)
 ·have H := Xn H a2;refine Xc (Xd (Xf (vi 0) Z (Xb (X6 ?_))));obtain ⟨cg, ch, a3, H⟩ := H;have ci := (ag.swm an 0 Z ah);refine Yi (α := (List Feat) × (Option Addr) × Nat × Nat × Int) (fun (xs2, aa, ae, af, i2) t al => cg xs2 i2 ∧ Has t [(3, G aa ae af), (4, vi i2)] ∧ Cw [some b] w0 al [bk aa] O fun M => Sl Kd.byte al (Fr M) (G A2 n3 c4) r_b ∧ Ow kFeat 44 al M (G aa ae af) xs2 ∧ Bx al b [G A2 n3 c4, vi m2]) (fun (xs2, _, _, _, i2) => ch xs2 i2) (r2, A9, ab, ac, 0) ⟨a3, (Xz Z), ad, (hp5.st ad.st), ci, ao⟩ ?_;rintro ⟨xs2, aa, ae, af, i2⟩ _ al ⟨a3, cj, am, ck, bm, bn⟩;obtain ⟨dd, rfl⟩ := Has.ins cj;have H := H xs2 i2 a3;refine Xc (Xc (Xd (Xe (vi i2) Z (Xa (X1 i2 8 (decide (i2 ≤ 8)) Z Z Z) (Xb ?_)))));refine Xy (decide (i2 ≤ 8)) Z (fun a4 => ?_) (fun a4 => ?_)
  ·have H := Xn H a4;refine Xx (Xc (X6 (Xd (Xe (G aa ae af) Z (Xe (vi i2) Z (Xe (vi i2) Z ?_))))));obtain ⟨cl, H⟩ := H;refine Xa (Yb i2 1 Z Z cl) ?_;obtain ⟨cm, H⟩ := H;refine Xa (Kh u9_ ([113, 114, 115, 116, 117, 118, 119, 120, 121, 122] : Str) Z i2 (i2 + 1) Z Z cm) (Xa (Ym (.agg #[vi 0, vi 0]) RF) (X8 (kd := kPt) Yl am ([(⟨0, 0⟩ : Pt)] : List Pt) (cells := [vi 0, vi 0]) ⟨[vi 0, vi 0], _, Z, (kPt.mk _ _ (⟨0, 0⟩ : Pt)), Z⟩ RF fun cn ap aq ar a5 hr121 au co => ?_));refine Xa (Ym (.agg #[vi 1, G ap aq ar]) RF) (Xa (Ym (.agg #[vs ((([113, 114, 115, 116, 117, 118, 119, 120, 121, 122] : Str).drop i2.toNat).take ((i2 + 1).toNat - i2.toNat)), vi 1, G ap aq ar, G none 0 0]) RF) ?_);have cp := (bm.so _ a5 hr121);have cq := au.gv cp 1 Z;have a6 := au.drop 1 Z;have cr := (au.sd co 0 1 Z Z Z);have cs := a6.gv cr 0 Z;have a7 := a6.drop 0 Z;have bo := a6.std 0 Z;refine Xs go89 (F127.calls H a7.ok (cq.st bo) (lim_cut (by decide : Lim ([113, 114, 115, 116, 117, 118, 119, 120, 121, 122] : Str)) _ _) cs (Sl.nil _ _ _ none 0 RD)) Z ?_;rintro _ ct ⟨r5, a8, bp, bq, rfl, H, a9, cu, br, cv⟩;have cw : Ct [some b] w0 ct [bk a8] O := a7.owns a9 cu br;refine Xf (G a8 bp bq) Z (Xb (Xd (Xe (vi i2) Z ?_)));obtain ⟨cx, H⟩ := H;refine Xa (Yb i2 1 Z Z cx) (Xf (vi (i2 + 1)) Z (Xb ?_));obtain ⟨cy, cz⟩ := H;have c0 := am.stown _ a5 hr121;have c1 := au.std 1 Z;have c2 := a7.stos a9 br;have c3 := ((((ck.st c0).st c1).st bo).st c2);have c5 := ((bn.k0 a5).k0 a9);exact ⟨(r5, a8, bp, bq, i2 + 1), cz, cy, (Xz Z), cw, c3, cv, c5⟩
  have H := Xo H a4;refine Yh (xin_hit ?_);exact Xc (Xd (Xe (G aa ae af) Z (Xf (G aa ae af) Z (Xb (Xl ⟨[G aa ae af], ⟨_, Z, Z⟩, xs2, m2, aa, ae, af, Z, H, am.gr.g1, bn, am.ok, am.ge, bm⟩)))))
 have H := Xo H a2;refine Xx (Xc (Xd (Xe (G A9 ab ac) Z (Xf (G A9 ab ac) Z (Xb (Xl ?_))))));have c6 := (ag.swm an 0 Z ah);exact ⟨[G A9 ab ac], ⟨_, Z, Z⟩, r2, m2, A9, ab, ac, Z, H, ad.gr.g1, ao, ad.ok, ad.ge, c6⟩
def F86.E (s : Str) (Q : Bool → Prop) : Prop :=
 (∃ (I8 : Int → Prop) (mu9 : Int → Nat), I8 0 ∧ ∀ (i2 : Int), I8 i2 → (if decide (i2 < (s.length : Int)) then ((0 : Int) ≤ i2 ∧ i2 < (s.length : Int)) ∧ (if decide (((nth s i2).toNat : Int) < 97) then Q false else ((0 : Int) ≤ i2 ∧ i2 < (s.length : Int)) ∧ (if decide (((nth s i2).toNat : Int) > 122) then Q false else (-9223372036854775808 ≤ i2) ∧ I8 (i2 + 1) ∧ mu9 (i2 + 1) < mu9 i2)) else (if decide ((s.length : Int) ≥ 1) then Q (decide ((s.length : Int) ≤ 6)) else Q false)))
theorem F86.calls {s : Str} {Q : Bool → Prop} (H : F86.E s Q) (hO : Ok w0 O) (hs1 : Lim s) :
  Ret Tryz.prog 65 [vs s] w0 (fun v w' => ∃ (r0 : Bool), v = vb r0 ∧ Q r0 ∧ Gr w0 w' none) := by
 unfold F86.E at H;have hc0 := Ct.init hO;refine X9 Tryz.func65 Z 28 Z [.tmp 2] Z Z ?_;refine Xc (Xd (Xf (vb false) Z (Xb (Xc (Xc (Xd (Xf (vi 0) Z (Xb ?_))))))));refine X6 ?_;obtain ⟨I8, mu9, ad, H⟩ := H;refine Yi (α := Int) (fun (sv__ : Int) t w6 => match sv__ with | i2 => I8 i2 ∧ Has t [(0, vs s), (3, vi i2)] ∧ Ct [] w0 w6 [] O) (fun (sv__ : Int) => match sv__ with | i2 => mu9 i2) 0 ⟨ad, (Xz Z), hc0⟩ ?_;rintro i2 _ w6 ⟨ad, af, hc7⟩;obtain ⟨an, rfl⟩ := Has.ins af;have H := H i2 ad;refine Xc (Xc (Xd (Xe (vi i2) Z (Xe (vs s) Z ?_))));have ag := hs1;refine Xa (Zm u9_ s Z) (Xa (X1 i2 (s.length : Int) (decide (i2 < (s.length : Int))) Z Z Z) (Xb ?_));refine Xy (decide (i2 < (s.length : Int))) Z (fun ac => ?_) (fun ac => ?_)
 ·have H := Xn H ac;refine Xx (Xc (X6 (Xc (Xd (Xe (vs s) Z (Xe (vi i2) Z ?_))))));obtain ⟨ah, H⟩ := H;refine Xa (Zq u9_ s i2 Z Z ah) (Xa (X1 ((nth s i2).toNat : Int) 97 (decide (((nth s i2).toNat : Int) < 97)) Z Z Z) (Xe (vb (decide (((nth s i2).toNat : Int) < 97))) Z ?_));rcases X4 (decide (((nth s i2).toNat : Int) < 97)) with aa | aa
  ·have H := Xn H aa;refine Xi aa Z (Xi aa Z (Xi aa Z (Xi aa Z (Xa (Xk true (vb true) aa Z) (Xb (Yu (b := true) Z Z ?_))))));exact Xc (Xd (Xf (vb false) Z (Xb (Xl ⟨[vb false], ⟨_, Z, Z⟩, false, Z, H, hc7.gr.g0⟩))))
  have H := Xo H aa;refine Xh aa Z (Xe (vs s) Z (Xh aa Z (Xe (vi i2) Z (Xh aa Z ?_))));obtain ⟨ai, H⟩ := H;refine Xa (Zq u9_ s i2 Z Z ai) (Xh aa Z (Xa (X1 ((nth s i2).toNat : Int) 122 (decide (((nth s i2).toNat : Int) > 122)) Z Z Z) (Xa (Yt false (vb (decide (((nth s i2).toNat : Int) > 122))) (by exact congrArg Value.bool aa) Z) (Xb ?_))));refine Xy (decide (((nth s i2).toNat : Int) > 122)) Z (fun ae => ?_) (fun ae => ?_)
  ·have H := Xn H ae;exact Xc (Xd (Xf (vb false) Z (Xb (Xl ⟨[vb false], ⟨_, Z, Z⟩, false, Z, H, hc7.gr.g0⟩))))
  have H := Xo H ae;refine Xx (Xd (Xe (vi i2) Z ?_));obtain ⟨aj, H⟩ := H;have ak : I64 (i2 + 1) := i64_succ (of_decide_eq_true ac) ag aj;refine Xa (Yb i2 1 Z Z ak) (Xf (vi (i2 + 1)) Z (Xb ?_));obtain ⟨al, am⟩ := H;exact ⟨i2 + 1, am, al, (Xz Z), hc7⟩
 have H := Xo H ac;refine Yh (xin_hit ?_);refine Xc (Xd (Xe (vs s) Z (Xa (Zm u9_ s Z) (Xa (X1 (s.length : Int) 1 (decide ((s.length : Int) ≥ 1)) Z Z Z) (Xe (vb (decide ((s.length : Int) ≥ 1))) Z ?_)))));rcases X4 (decide ((s.length : Int) ≥ 1)) with ab | ab
 ·have H := Xn H ab;refine Xh ab Z (Xe (vs s) Z (Xh ab Z (Xa (Zm u9_ s Z) (Xh ab Z (Xa (X1 (s.length : Int) 6 (decide ((s.length : Int) ≤ 6)) Z Z Z) (Xa (Yt true (vb (decide ((s.length : Int) ≤ 6))) (by exact congrArg Value.bool ab) Z) (Xf (vb (decide ((s.length : Int) ≤ 6))) Z (Xb ?_))))))));exact Xl ⟨[vb (decide ((s.length : Int) ≤ 6))], ⟨_, Z, Z⟩, decide ((s.length : Int) ≤ 6), Z, H, hc7.gr.g0⟩
 have H := Xo H ab;exact Xi ab Z (Xi ab Z (Xi ab Z (Xa (Xk false (vb false) ab Z) (Xf (vb false) Z (Xb (Xl ⟨[vb false], ⟨_, Z, Z⟩, false, Z, H, hc7.gr.g0⟩))))))
def F87.E (t_ : List Tag) (Q : Bool → Prop) : Prop :=
 (∃ (I18 : Int → Prop) (mu19 : Int → Nat), I18 0 ∧ ∀ (i2 : Int), I18 i2 → (if decide (i2 < (t_.length : Int)) then ((0 : Int) ≤ i2 ∧ i2 < (t_.length : Int)) ∧ (∃ q : Bool, F86.E ((nth t_ i2).Key) (fun x => x = q) ∧ (if !q then Q false else ((0 : Int) ≤ i2 ∧ i2 < (t_.length : Int)) ∧ (∃ q2 : Bool, F86.E ((nth t_ i2).Val) (fun x => x = q2) ∧ (if !q2 then Q false else (if decide (i2 > 0) then ((0 : Int) ≤ i2 ∧ i2 < (t_.length : Int)) ∧ ((t_.length : Int) ≤ 9223372036854775807 → I64 (i2 - 1)) ∧ ((0 : Int) ≤ i2 - 1 ∧ i2 - 1 < (t_.length : Int)) ∧ (if Op.bytesLess ((nth t_ i2).Key) ((nth t_ (i2 - 1)).Key) || ((nth t_ i2).Key) == ((nth t_ (i2 - 1)).Key) then Q false else (-9223372036854775808 ≤ i2) ∧ I18 (i2 + 1) ∧ mu19 (i2 + 1) < mu19 i2) else (-9223372036854775808 ≤ i2) ∧ I18 (i2 + 1) ∧ mu19 (i2 + 1) < mu19 i2))))) else Q (decide ((t_.length : Int) ≤ 4))))
theorem F87.calls {t_ : List Tag} {A1 : Option Addr} {n2 c3 : Nat} {Q : Bool → Prop} (H : F87.E t_ Q) (hO : Ok w0 O) (hp4 : Sl kTag w0 (Fr O) (G A1 n2 c3) t_) :
  Ret Tryz.prog 67 [G A1 n2 c3] w0 (fun v w' => ∃ (r0 : Bool), v = vb r0 ∧ Q r0 ∧ Gr w0 w' none) := by
 unfold F87.E at H;have hc0 := Ct.init hO;refine X9 Tryz.func67 Z 47 Z [.tmp 2] Z Z ?_;refine Xc (Xd (Xf (vb false) Z (Xb (Xc (Xc (Xd (Xf (vi 0) Z (Xb ?_))))))));refine X6 ?_;obtain ⟨ax, ay, al, H⟩ := H;refine Yi (α := Int) (fun (sv__ : Int) t ag => match sv__ with | i2 => ax i2 ∧ Has t [(0, G A1 n2 c3), (3, vi i2)] ∧ Ct [] w0 ag [] O ∧ Sl kTag ag (Fr ([] ++ O)) (G A1 n2 c3) t_) (fun (sv__ : Int) => match sv__ with | i2 => ay i2) 0 ⟨al, (Xz Z), hc0, hp4⟩ ?_;rintro i2 _ ag ⟨al, az, ae, ad⟩;obtain ⟨bz, rfl⟩ := Has.ins az;have H := H i2 al;refine Xc (Xc (Xd (Xe (vi i2) Z (Xe (G A1 n2 c3) Z ?_))));have am := ad.le;refine Xa (Ya u42_ A1 n2 c3 ad.len Z) (Xa (X1 i2 (t_.length : Int) (decide (i2 < (t_.length : Int))) Z Z Z) (Xb ?_));refine Xy (decide (i2 < (t_.length : Int))) Z (fun af => ?_) (fun af => ?_)
 ·have H := Xn H af;refine Xx (Xc (X6 (Xc (Yy (fun x => Gr ag x none) RK RK (Gr.drew _) ?_))));refine Xw (G A1 n2 c3) Z (Xw (vi i2) Z ?_);obtain ⟨ao, H⟩ := H;obtain ⟨ah, b0, a0, b1, a1, a2⟩ := ad.get default RD i2 ao;obtain ⟨rfl, a3, b2⟩ := kTag.op a1;refine Xg (X5 u42_ Y4 A1 ah n2 c3 ad.len i2 Z a0 Z ao) (Xg (Xj fa93_0 (ah.add (i2.toNat * 2)) ((ah.add (i2.toNat * 2)).add 0) Z Z) (Xg (Xm ag9 cQ ((ah.add (i2.toNat * 2)).add 0) (vs ((nth t_ i2).Key)) Z (a2 0 _ Z)) ?_));obtain ⟨q, a4, H⟩ := H;refine Y0 go65 [vs ((nth t_ i2).Key)] Z (vb q) (fun w g => (F86.calls a4 (ae.k0 g).ok a3).mono ?_) ?_
  ·rintro _ w ⟨r, rfl, rfl, g2⟩;exact ⟨Z, Gr.t0 g g2⟩
  refine Xg (X7 q Z) (Xw (vb (!q)) Z ?_);rcases X4 (!q) with ab | ab
  ·have H := Xn H ab;refine Xq ab Z (Xq ab Z (Xq ab Z (Xq ab Z (Xq ab Z (Xq ab Z (Xq ab Z (Xg (Xk true (vb true) ab Z) (Xw (vb true) Z ?_))))))));refine Yg (dj := 26) Z Z (.inl Z) (Yg (dj := 26) Z Z (.inl Z) (Yg (dj := 26) Z Z (.inl Z) (X0 Z (X0 Z (X0 Z (X0 Z (X0 Z (X0 Z ?_))))))));refine X0 Z (X0 Z (X0 Z (X0 Z (X0 Z (X0 Z (Yg (dj := 26) Z Z (.inl Z) (Xg (Xk true (vb true) Z Z) (Yc fun b3 a5 => ?_))))))));have a6 := ae.k0 a5;refine Yu (b := true) Z Z ?_;exact Xc (Xd (Xf (vb false) Z (Xb (Xl ⟨[vb false], ⟨_, Z, Z⟩, false, Z, H, a6.gr.g0⟩))))
  have H := Xo H ab;refine Xp ab Z (Xw (G A1 n2 c3) Z (Xp ab Z (Xw (vi i2) Z (Xp ab Z ?_))));obtain ⟨ap, H⟩ := H;obtain ⟨ai, b4, a7, b5, a8, a9⟩ := ad.get default RD i2 ap;obtain ⟨rfl, b6, ba⟩ := kTag.op a8;refine Xg (X5 u42_ Y4 A1 ai n2 c3 ad.len i2 Z a7 Z ap) (Xp ab Z (Xg (Xj fa93_1 (ai.add (i2.toNat * 2)) ((ai.add (i2.toNat * 2)).add 1) Z Z) (Xp ab Z (Xg (Xm ag9 cQ ((ai.add (i2.toNat * 2)).add 1) (vs ((nth t_ i2).Val)) Z (a9 1 _ Z)) (Xp ab Z ?_)))));obtain ⟨q2, bb, H⟩ := H;refine Y0 go65 [vs ((nth t_ i2).Val)] Z (vb q2) (fun w g => (F86.calls bb (ae.k0 g).ok ba).mono ?_) ?_
  ·rintro _ w ⟨r, rfl, rfl, g2⟩;exact ⟨Z, Gr.t0 g g2⟩
  refine Xp ab Z (Xg (X7 q2 Z) (Xg (Xk false (vb (!q2)) ab Z) (Xw (vb (!q2)) Z ?_)));rcases X4 (!q2) with ac | ac
  ·have H := Xn H ac;refine Xq ac Z (Xq ac Z (Xq ac Z (X0 Z (X0 Z (X0 Z (X0 Z (X0 Z (X0 Z ?_))))))));refine X0 Z (X0 Z (X0 Z (X0 Z (X0 Z (X0 Z (Xq ac Z (Xg (Xk true (vb true) ac Z) (Yc fun b7 bc => ?_))))))));have bd := ae.k0 bc;refine Yu (b := true) Z Z ?_;exact Xc (Xd (Xf (vb false) Z (Xb (Xl ⟨[vb false], ⟨_, Z, Z⟩, false, Z, H, bd.gr.g0⟩))))
  have H := Xo H ac;refine Xp ac Z (Xw (vi i2) Z (Xp ac Z (Xg (X1 i2 0 (decide (i2 > 0)) Z Z Z) (Xp ac Z (Xw (vb (decide (i2 > 0))) Z ?_)))));rcases X4 (decide (i2 > 0)) with aa | aa
  ·have H := Xn H aa;refine Xp aa Z (Xw (G A1 n2 c3) Z (Xp aa Z (Xw (vi i2) Z (Xp aa Z ?_))));obtain ⟨aq, H⟩ := H;obtain ⟨aj, b8, be, b9, bf, bg⟩ := ad.get default RD i2 aq;obtain ⟨rfl, ca, cb⟩ := kTag.op bf;refine Xg (X5 u42_ Y4 A1 aj n2 c3 ad.len i2 Z be Z aq) (Xp aa Z (Xg (Xj fa93_0 (aj.add (i2.toNat * 2)) ((aj.add (i2.toNat * 2)).add 0) Z Z) (Xp aa Z (Xg (Xm ag9 cQ ((aj.add (i2.toNat * 2)).add 0) (vs ((nth t_ i2).Key)) Z (bg 0 _ Z)) (Xp aa Z (Xw (G A1 n2 c3) Z (Xp aa Z (Xw (vi i2) Z ?_))))))));refine Xp aa Z ?_;obtain ⟨bh, H⟩ := H;have bi := bh (len_le am);refine Xg (Yz i2 1 Z Z bi) (Xp aa Z ?_);obtain ⟨ar, H⟩ := H;obtain ⟨ak, cc, bj, cd, bl, bm⟩ := ad.get default RD (i2 - 1) ar;obtain ⟨rfl, ce, cf⟩ := kTag.op bl;refine Xg (X5 u42_ Y4 A1 ak n2 c3 ad.len (i2 - 1) Z bj Z ar) (Xp aa Z (Xg (Xj fa93_0 (ak.add ((i2 - 1).toNat * 2)) ((ak.add ((i2 - 1).toNat * 2)).add 0) Z Z) (Xp aa Z (Xg (Xm ag9 cQ ((ak.add ((i2 - 1).toNat * 2)).add 0) (vs ((nth t_ (i2 - 1)).Key)) Z (bm 0 _ Z)) (Xp aa Z (Xg (Yo ((nth t_ i2).Key) ((nth t_ (i2 - 1)).Key) (Op.bytesLess ((nth t_ i2).Key) ((nth t_ (i2 - 1)).Key) || ((nth t_ i2).Key) == ((nth t_ (i2 - 1)).Key)) Z Z Z) (Xp ac Z (Xg (Yt true (vb (Op.bytesLess ((nth t_ i2).Key) ((nth t_ (i2 - 1)).Key) || ((nth t_ i2).Key) == ((nth t_ (i2 - 1)).Key))) (by exact congrArg Value.bool aa) Z) ?_))))))));refine Xg (Yt false (vb (Op.bytesLess ((nth t_ i2).Key) ((nth t_ (i2 - 1)).Key) || ((nth t_ i2).Key) == ((nth t_ (i2 - 1)).Key))) (by exact congrArg Value.bool ac) Z) (Yc fun cg au => ?_);have av := ae.k0 au;refine Xy (Op.bytesLess ((nth t_ i2).Key) ((nth t_ (i2 - 1)).Key) || ((nth t_ i2).Key) == ((nth t_ (i2 - 1)).Key)) Z (fun an => ?_) (fun an => ?_)
   ·have H := Xn H an;exact Xc (Xd (Xf (vb false) Z (Xb (Xl ⟨[vb false], ⟨_, Z, Z⟩, false, Z, H, av.gr.g0⟩))))
   have H := Xo H an;refine Xx (Xd (Xe (vi i2) Z ?_));obtain ⟨bn, H⟩ := H;have bo : I64 (i2 + 1) := i64_succ (of_decide_eq_true af) am bn;refine Xa (Yb i2 1 Z Z bo) (Xf (vi (i2 + 1)) Z (Xb ?_));obtain ⟨bp, bq⟩ := H;have br := ae.stn au;exact ⟨i2 + 1, bq, bp, (Xz Z), av, (ad.st br)⟩
  have H := Xo H aa;refine Xq aa Z (Xq aa Z (Xq aa Z (Xq aa Z (Xq aa Z (Xq aa Z (Xq aa Z (Xq aa Z (Xq aa Z ?_))))))));refine Xq aa Z (Xq aa Z (Xq aa Z (Xp ac Z (Xg (Xk false (vb false) aa Z) (Xg (Xk false (vb false) ac Z) (Yc fun ch aw => ?_))))));have bs := ae.k0 aw;refine Y2 (b := false) Z Z ?_;refine Xx (Xd (Xe (vi i2) Z ?_));obtain ⟨bt, H⟩ := H;have bu : I64 (i2 + 1) := i64_succ (of_decide_eq_true af) am bt;refine Xa (Yb i2 1 Z Z bu) (Xf (vi (i2 + 1)) Z (Xb ?_));obtain ⟨bv, bw⟩ := H;have bx := ae.stn aw;exact ⟨i2 + 1, bw, bv, (Xz Z), bs, (ad.st bx)⟩
 have H := Xo H af;refine Yh (xin_hit ?_);exact Xc (Xd (Xe (G A1 n2 c3) Z (Xa (Ya u42_ A1 n2 c3 ad.len Z) (Xa (X1 (t_.length : Int) 4 (decide ((t_.length : Int) ≤ 4)) Z Z Z) (Xf (vb (decide ((t_.length : Int) ≤ 4))) Z (Xb (Xl ⟨[vb (decide ((t_.length : Int) ≤ 4))], ⟨_, Z, Z⟩, decide ((t_.length : Int) ≤ 4), Z, H, ae.gr.g0⟩)))))))
def F88.E (f : Feat) (Q : Bool → Prop) : Prop :=
 F86.E f.Id (fun r => (if r then F69.E f.Shape (fun r2 => (if r2 then F87.E f.Tags (fun r3 => Q r3) else Q false)) else Q false))
theorem F88.calls {f : Feat} {A2 : Option Addr} {n3 c4 : Nat} {A7 : Option Addr} {n8 c9 : Nat} {Q : Bool → Prop} (H : F88.E f Q) (hO : Ok w0 O) (hs1 : Lim f.Id) (hp5 : Sl kPt w0 (Fr O) (G A2 n3 c4) f.Shape.Pts) (ak : Sl kTag w0 (Fr O) (G A7 n8 c9) f.Tags) :
  Ret Tryz.prog 24 [.agg #[vs f.Id, vi f.Shape.Kind, G A2 n3 c4, G A7 n8 c9]] w0 (fun v w' => ∃ (r0 : Bool), v = vb r0 ∧ Q r0 ∧ Gr w0 w' none) := by
 unfold F88.E at H;have hc0 := Ct.init hO;refine X9 Tryz.func24 Z 16 Z [.tmp 2] Z Z ?_;refine Xc (Xd (Yp [vs f.Id, vi f.Shape.Kind, G A2 n3 c4, G A7 n8 c9] Z fun al ac am hu16 an ao => ?_));have ag := Fb.mk hc0.ok am ao;have af := hc0.k0 an;refine Xf (vb false) Z (Xb (Xc (Xd (Xa (Xj fa44_0 (Ad ac 0) (Ad ac 0) Z Z) (Xa (Xm ag9 cL (Ad ac 0) (vs f.Id) Z (ag.cell Z)) ?_)))));refine Xs go65 (F86.calls H af.ok hs1) Z ?_;rintro _ ap ⟨r, rfl, H, ah⟩;have ad := af.k0 ah;refine Xe (vb r) Z ?_;rcases X4 r with aa | aa
 ·have H := Xn H aa;refine Xh aa Z (Xa (Xj fa44_1 (Ad ac 0) (Ad ac 1) Z Z) (Xh aa Z ?_));have aq := af.stn ah;have ai := (ag.st aq);refine Xa (Xv ag41 sz41 cL (Ad ac 1) [vi f.Shape.Kind, G A2 n3 c4] Z Z (ai.cells (off := 1) Z)) (Xh aa Z ?_);refine Xs go66 (F69.calls H ad.ok (hp5.st ad.st)) Z ?_;rintro _ ar ⟨r2, rfl, H, aj⟩;have ae := ad.k0 aj;refine Xa (Xk true (vb r2) aa Z) (Xe (vb r2) Z ?_);rcases X4 r2 with ab | ab
  ·have H := Xn H ab;refine Xh ab Z (Xa (Xj fa44_2 (Ad ac 0) (Ad ac 3) Z Z) (Xh ab Z ?_));have au := ad.stn aj;have av := (ai.st au);refine Xa (Xm ag42 cL (Ad ac 3) (G A7 n8 c9) Z (av.cell Z)) (Xh ab Z ?_);refine Xs go67 (F87.calls H ae.ok (ak.st ae.st)) Z ?_;rintro _ ay ⟨r3, rfl, H, aw⟩;have ax := ae.k0 aw;exact Xa (Xk true (vb r3) ab Z) (Xf (vb r3) Z (Xb (Xl ⟨[vb r3], ⟨_, Z, Z⟩, r3, Z, H, ax.gr.g0⟩)))
  have H := Xo H ab;exact Xi ab Z (Xi ab Z (Xi ab Z (Xa (Xk false (vb false) ab Z) (Xf (vb false) Z (Xb (Xl ⟨[vb false], ⟨_, Z, Z⟩, false, Z, H, ae.gr.g0⟩))))))
 have H := Xo H aa;refine Xi aa Z (Xi aa Z (Xi aa Z (Xa (Xk false (vb false) aa Z) (Xe (vb false) Z (Xt (dj := 11) Z Z (.inl Z) (Xt (dj := 11) Z Z (.inl Z) (Xt (dj := 11) Z Z (.inl Z) (Xa (Xk false (vb false) Z Z) ?_))))))));exact Xf (vb false) Z (Xb (Xl ⟨[vb false], ⟨_, Z, Z⟩, false, Z, H, ad.gr.g0⟩))
def F72.E (s : List Feat) (Q : Bool → Prop) : Prop :=
 (∃ (I18 : Int → Prop) (mu19 : Int → Nat), I18 0 ∧ ∀ (i2 : Int), I18 i2 → (if decide (i2 < (s.length : Int)) then ((0 : Int) ≤ i2 ∧ i2 < (s.length : Int)) ∧ (∃ q : Bool, F88.E (nth s i2) (fun x => x = q) ∧ (if !q then Q false else (if decide (i2 > 0) then ((0 : Int) ≤ i2 ∧ i2 < (s.length : Int)) ∧ ((s.length : Int) ≤ 9223372036854775807 → I64 (i2 - 1)) ∧ ((0 : Int) ≤ i2 - 1 ∧ i2 - 1 < (s.length : Int)) ∧ (if Op.bytesLess ((nth s i2).Id) ((nth s (i2 - 1)).Id) || ((nth s i2).Id) == ((nth s (i2 - 1)).Id) then Q false else (-9223372036854775808 ≤ i2) ∧ I18 (i2 + 1) ∧ mu19 (i2 + 1) < mu19 i2) else (-9223372036854775808 ≤ i2) ∧ I18 (i2 + 1) ∧ mu19 (i2 + 1) < mu19 i2))) else Q (decide ((s.length : Int) ≤ 8))))
theorem F72.calls {s : List Feat} {A1 : Option Addr} {n2 c3 : Nat} {Q : Bool → Prop} (H : F72.E s Q) (hO : Ok w0 O) (hp4 : Sl kFeat w0 (Fr O) (G A1 n2 c3) s) :
  Ret Tryz.prog 22 [G A1 n2 c3] w0 (fun v w' => ∃ (r0 : Bool), v = vb r0 ∧ Q r0 ∧ Gr w0 w' none) := by
 unfold F72.E at H;have hc0 := Ct.init hO;refine X9 Tryz.func22 Z 37 Z [.tmp 2] Z Z ?_;refine Xc (Xd (Xf (vb false) Z (Xb (Xc (Xc (Xd (Xf (vi 0) Z (Xb ?_))))))));refine X6 ?_;obtain ⟨a0, a1, ai, H⟩ := H;refine Yi (α := Int) (fun (sv__ : Int) t af => match sv__ with | i2 => a0 i2 ∧ Has t [(0, G A1 n2 c3), (3, vi i2)] ∧ Ct [] w0 af [] O ∧ Sl kFeat af (Fr ([] ++ O)) (G A1 n2 c3) s) (fun (sv__ : Int) => match sv__ with | i2 => a1 i2) 0 ⟨ai, (Xz Z), hc0, hp4⟩ ?_;rintro i2 _ af ⟨ai, a2, ad, ac⟩;obtain ⟨bw, rfl⟩ := Has.ins a2;have H := H i2 ai;refine Xc (Xc (Xd (Xe (vi i2) Z (Xe (G A1 n2 c3) Z ?_))));have aj := ac.le;refine Xa (Ya u33_ A1 n2 c3 ac.len Z) (Xa (X1 i2 (s.length : Int) (decide (i2 < (s.length : Int))) Z Z Z) (Xb ?_));refine Xy (decide (i2 < (s.length : Int))) Z (fun ae => ?_) (fun ae => ?_)
 ·have H := Xn H ae;refine Xx (Xc (X6 (Xc (Yy (fun x => Gr af x none) RK RK (Gr.drew _) ?_))));refine Xw (G A1 n2 c3) Z (Xw (vi i2) Z ?_);obtain ⟨ar, H⟩ := H;obtain ⟨au, bx, a3, bz, a4, a5⟩ := ac.get default RD i2 ar;obtain ⟨ak, al, am, an, ao, ap, rfl, a6, a7, a8⟩ := kFeat.op a4;refine Xg (X5 u33_ Y1 A1 au n2 c3 ac.len i2 Z a3 Z ar) (Xg (Xv ag44 sz44 cQ (au.add (i2.toNat * 4)) [vs ((nth s i2).Id), vi ((nth s i2).Shape.Kind), G ak al am, G an ao ap] Z Z a5) ?_);obtain ⟨q, a9, H⟩ := H;refine Y0 go24 [.agg #[vs ((nth s i2).Id), vi ((nth s i2).Shape.Kind), G ak al am, G an ao ap]] Z (vb q) (fun w g => (F88.calls a9 (ad.k0 g).ok a6 (a7.st (.new _ g)) (a8.st (.new _ g))).mono ?_) ?_
  ·rintro _ w ⟨r, rfl, rfl, g2⟩;exact ⟨Z, Gr.t0 g g2⟩
  refine Xg (X7 q Z) (Xw (vb (!q)) Z ?_);rcases X4 (!q) with ab | ab
  ·have H := Xn H ab;refine Xq ab Z (Xq ab Z (Xq ab Z (X0 Z (X0 Z (X0 Z (X0 Z (X0 Z (X0 Z ?_))))))));refine X0 Z (X0 Z (X0 Z (X0 Z (X0 Z (X0 Z (Xq ab Z (Xg (Xk true (vb true) ab Z) (Yc fun b0 ba => ?_))))))));have bb := ad.k0 ba;refine Yu (b := true) Z Z ?_;exact Xc (Xd (Xf (vb false) Z (Xb (Xl ⟨[vb false], ⟨_, Z, Z⟩, false, Z, H, bb.gr.g0⟩))))
  have H := Xo H ab;refine Xp ab Z (Xw (vi i2) Z (Xp ab Z (Xg (X1 i2 0 (decide (i2 > 0)) Z Z Z) (Xp ab Z (Xw (vb (decide (i2 > 0))) Z ?_)))));rcases X4 (decide (i2 > 0)) with aa | aa
  ·have H := Xn H aa;refine Xp aa Z (Xw (G A1 n2 c3) Z (Xp aa Z (Xw (vi i2) Z (Xp aa Z ?_))));obtain ⟨av, H⟩ := H;obtain ⟨ag, b1, bc, b2, bd, be⟩ := ac.get default RD i2 av;obtain ⟨b3, b4, b5, b6, b7, b8, rfl, b9, ca, cb⟩ := kFeat.op bd;refine Xg (X5 u33_ Y1 A1 ag n2 c3 ac.len i2 Z bc Z av) (Xp aa Z (Xg (Xj fa44_0 (ag.add (i2.toNat * 4)) ((ag.add (i2.toNat * 4)).add 0) Z Z) (Xp aa Z (Xg (Xm ag9 cQ ((ag.add (i2.toNat * 4)).add 0) (vs ((nth s i2).Id)) Z (be 0 _ Z)) (Xp aa Z (Xw (G A1 n2 c3) Z (Xp aa Z (Xw (vi i2) Z ?_))))))));refine Xp aa Z ?_;obtain ⟨bf, H⟩ := H;have bg := bf (len_le aj);refine Xg (Yz i2 1 Z Z bg) (Xp aa Z ?_);obtain ⟨aw, H⟩ := H;obtain ⟨ah, cc, bh, cd, bi, bj⟩ := ac.get default RD (i2 - 1) aw;obtain ⟨ce, cf, cg, ch, ci, cj, rfl, ck, cl, cm⟩ := kFeat.op bi;refine Xg (X5 u33_ Y1 A1 ah n2 c3 ac.len (i2 - 1) Z bh Z aw) (Xp aa Z (Xg (Xj fa44_0 (ah.add ((i2 - 1).toNat * 4)) ((ah.add ((i2 - 1).toNat * 4)).add 0) Z Z) (Xp aa Z (Xg (Xm ag9 cQ ((ah.add ((i2 - 1).toNat * 4)).add 0) (vs ((nth s (i2 - 1)).Id)) Z (bj 0 _ Z)) (Xp aa Z (Xg (Yo ((nth s i2).Id) ((nth s (i2 - 1)).Id) (Op.bytesLess ((nth s i2).Id) ((nth s (i2 - 1)).Id) || ((nth s i2).Id) == ((nth s (i2 - 1)).Id)) Z Z Z) (Xp ab Z (Xg (Yt true (vb (Op.bytesLess ((nth s i2).Id) ((nth s (i2 - 1)).Id) || ((nth s i2).Id) == ((nth s (i2 - 1)).Id))) (by exact congrArg Value.bool aa) Z) ?_))))))));refine Xg (Yt false (vb (Op.bytesLess ((nth s i2).Id) ((nth s (i2 - 1)).Id) || ((nth s i2).Id) == ((nth s (i2 - 1)).Id))) (by exact congrArg Value.bool ab) Z) (Yc fun cn ax => ?_);have ay := ad.k0 ax;refine Xy (Op.bytesLess ((nth s i2).Id) ((nth s (i2 - 1)).Id) || ((nth s i2).Id) == ((nth s (i2 - 1)).Id)) Z (fun aq => ?_) (fun aq => ?_)
   ·have H := Xn H aq;exact Xc (Xd (Xf (vb false) Z (Xb (Xl ⟨[vb false], ⟨_, Z, Z⟩, false, Z, H, ay.gr.g0⟩))))
   have H := Xo H aq;refine Xx (Xd (Xe (vi i2) Z ?_));obtain ⟨bl, H⟩ := H;have bm : I64 (i2 + 1) := i64_succ (of_decide_eq_true ae) aj bl;refine Xa (Yb i2 1 Z Z bm) (Xf (vi (i2 + 1)) Z (Xb ?_));obtain ⟨bn, bo⟩ := H;have bp := ad.stn ax;exact ⟨i2 + 1, bo, bn, (Xz Z), ay, (ac.st bp)⟩
  have H := Xo H aa;refine Xq aa Z (Xq aa Z (Xq aa Z (Xq aa Z (Xq aa Z (Xq aa Z (Xq aa Z (Xq aa Z (Xq aa Z ?_))))))));refine Xq aa Z (Xq aa Z (Xq aa Z (Xp ab Z (Xg (Xk false (vb false) aa Z) (Xg (Xk false (vb false) ab Z) (Yc fun co az => ?_))))));have bq := ad.k0 az;refine Y2 (b := false) Z Z ?_;refine Xx (Xd (Xe (vi i2) Z ?_));obtain ⟨br, H⟩ := H;have bs : I64 (i2 + 1) := i64_succ (of_decide_eq_true ae) aj br;refine Xa (Yb i2 1 Z Z bs) (Xf (vi (i2 + 1)) Z (Xb ?_));obtain ⟨bt, bu⟩ := H;have bv := ad.stn az;exact ⟨i2 + 1, bu, bt, (Xz Z), bq, (ac.st bv)⟩
 have H := Xo H ae;refine Yh (xin_hit ?_);exact Xc (Xd (Xe (G A1 n2 c3) Z (Xa (Ya u33_ A1 n2 c3 ac.len Z) (Xa (X1 (s.length : Int) 8 (decide ((s.length : Int) ≤ 8)) Z Z Z) (Xf (vb (decide ((s.length : Int) ≤ 8))) Z (Xb (Xl ⟨[vb (decide ((s.length : Int) ≤ 8))], ⟨_, Z, Z⟩, decide ((s.length : Int) ≤ 8), Z, H, ad.gr.g0⟩)))))))
def F82.E (s : List Feat) (id : Str) (Q : Int → Prop) : Prop :=
 (∃ (I19 : Int → Prop) (mu20 : Int → Nat), I19 0 ∧ ∀ (i2 : Int), I19 i2 → (if decide (i2 < (s.length : Int)) then ((0 : Int) ≤ i2 ∧ i2 < (s.length : Int)) ∧ (if ((nth s i2).Id) == id then Q i2 else (-9223372036854775808 ≤ i2) ∧ I19 (i2 + 1) ∧ mu20 (i2 + 1) < mu20 i2) else Q (-1)))
theorem F82.calls {s : List Feat} {A1 : Option Addr} {n2 c3 : Nat} {id : Str} {Q : Int → Prop} (H : F82.E s id Q) (hO : Ok w0 O) (hp4 : Sl kFeat w0 (Fr O) (G A1 n2 c3) s) (hs6 : Lim id) :
  Ret Tryz.prog 99 [G A1 n2 c3, vs id] w0 (fun v w' => ∃ (r0 : Int), v = vi r0 ∧ Q r0 ∧ Gr w0 w' none) := by
 unfold F82.E at H;have hc0 := Ct.init hO;refine X9 Tryz.func99 Z 20 Z [.tmp 4] Z Z ?_;refine Xc (Xd (Xf (vi 0) Z (Xb (Xc (Xc (Xd (Xf (vi 0) Z (Xb ?_))))))));refine X6 ?_;obtain ⟨ai, aj, ad, H⟩ := H;refine Yi (α := Int) (fun (sv__ : Int) t ae => match sv__ with | i2 => ai i2 ∧ Has t [(0, G A1 n2 c3), (1, vs id), (5, vi i2)] ∧ Ct [] w0 ae [] O ∧ Sl kFeat ae (Fr ([] ++ O)) (G A1 n2 c3) s) (fun (sv__ : Int) => match sv__ with | i2 => aj i2) 0 ⟨ad, (Xz Z), hc0, hp4⟩ ?_;rintro i2 _ ae ⟨ad, ak, af, aa⟩;obtain ⟨av, rfl⟩ := Has.ins ak;have H := H i2 ad;refine Xc (Xc (Xd (Xe (vi i2) Z (Xe (G A1 n2 c3) Z ?_))));have al := aa.le;refine Xa (Ya u33_ A1 n2 c3 aa.len Z) (Xa (X1 i2 (s.length : Int) (decide (i2 < (s.length : Int))) Z Z Z) (Xb ?_));refine Xy (decide (i2 < (s.length : Int))) Z (fun ab => ?_) (fun ab => ?_)
 ·have H := Xn H ab;refine Xx (Xc (X6 (Xc (Xd (Xe (G A1 n2 c3) Z (Xe (vi i2) Z ?_))))));obtain ⟨ah, H⟩ := H;obtain ⟨ac, aw, am, ax, an, ao⟩ := aa.get default RD i2 ah;obtain ⟨ay, az, a0, a1, a2, a3, rfl, a4, a5, a6⟩ := kFeat.op an;refine Xa (X5 u33_ Y1 A1 ac n2 c3 aa.len i2 Z am Z ah) (Xa (Xj fa44_0 (ac.add (i2.toNat * 4)) ((ac.add (i2.toNat * 4)).add 0) Z Z) (Xa (Xm ag9 cL ((ac.add (i2.toNat * 4)).add 0) (vs ((nth s i2).Id)) Z (ao 0 _ Z)) (Xe (vs id) Z (Xa (Yo ((nth s i2).Id) id (((nth s i2).Id) == id) Z Z Z) (Xb ?_)))));refine Xy (((nth s i2).Id) == id) Z (fun ag => ?_) (fun ag => ?_)
  ·have H := Xn H ag;exact Xc (Xd (Xe (vi i2) Z (Xf (vi i2) Z (Xb (Xl ⟨[vi i2], ⟨_, Z, Z⟩, i2, Z, H, af.gr.g0⟩)))))
  have H := Xo H ag;refine Xx (Xd (Xe (vi i2) Z ?_));obtain ⟨ap, H⟩ := H;have aq : I64 (i2 + 1) := i64_succ (of_decide_eq_true ab) al ap;refine Xa (Yb i2 1 Z Z aq) (Xf (vi (i2 + 1)) Z (Xb ?_));obtain ⟨ar, au⟩ := H;exact ⟨i2 + 1, au, ar, (Xz Z), af, aa⟩
 have H := Xo H ab;refine Yh (xin_hit ?_);exact Xc (Xd (Xf (vi (-1)) Z (Xb (Xl ⟨[vi (-1)], ⟨_, Z, Z⟩, (-1), Z, H, af.gr.g0⟩))))
def F128.E (s : List Feat) (id : Str) (Q : List Feat → Prop) : Prop :=
 (∃ (I40 : (List Feat) → Int → Prop) (mu41 : (List Feat) → Int → Nat), I40 [] 0 ∧ ∀ (xs2 : List Feat) (i2 : Int), I40 xs2 i2 → (if decide (i2 < (s.length : Int)) then ((0 : Int) ≤ i2 ∧ i2 < (s.length : Int)) ∧ (if ((nth s i2).Id) != id then ((0 : Int) ≤ i2 ∧ i2 < (s.length : Int)) ∧ (xs2.length + ([(nth s i2)] : List Feat).length ≤ 268435456) ∧ (-9223372036854775808 ≤ i2) ∧ I40 (xs2 ++ ([(nth s i2)] : List Feat)) (i2 + 1) ∧ mu41 (xs2 ++ ([(nth s i2)] : List Feat)) (i2 + 1) < mu41 xs2 i2 else (-9223372036854775808 ≤ i2) ∧ I40 xs2 (i2 + 1) ∧ mu41 xs2 (i2 + 1) < mu41 xs2 i2) else Q xs2))
theorem F128.calls {s : List Feat} {A1 : Option Addr} {n2 c3 : Nat} {id : Str} {Q : List Feat → Prop} (H : F128.E s id Q) (hO : Ok w0 O) (hp4 : Sl kFeat w0 (Fr O) (G A1 n2 c3) s) (hs6 : Lim id) :
  Ret Tryz.prog 90 [G A1 n2 c3, vs id] w0 (fun v w' => ∃ (r0 : List Feat) (Aw0 : Option Addr) (nw0 cw0 : Nat), v = G Aw0 nw0 cw0 ∧ Q r0 ∧ Gk w0 w' [bk Aw0] O (Ow kFeat 44 w' ([bk Aw0] ++ O) (G Aw0 nw0 cw0) r0)) := by
 unfold F128.E at H;have hc0 := Ct.init hO;refine X9 Tryz.func90 Z 29 Z [.tmp 4] Z Z ?_;refine Xc (Xd (Xf (G none 0 0) Z (Xb (Xc (Xd (X8 (kd := kFeat) Yr hc0 ([] : List Feat) (cells := []) Z RF fun w7 A8 n9 au b5 hr12 av a4 => ?_))))));refine Xf (G A8 n9 au) Z (Xb (Xc (Xc (Xd (Xf (vi 0) Z (Xb (X6 ?_)))))));obtain ⟨a5, a6, ai, H⟩ := H;refine Yi (α := (List Feat) × (Option Addr) × Nat × Nat × Int) (fun (xs2, aa, ab, ac, i2) t ag => a5 xs2 i2 ∧ Has t [(0, G A1 n2 c3), (1, vs id), (5, G aa ab ac), (6, vi i2)] ∧ Cw [] w0 ag [bk aa] O fun M => Sl kFeat ag (Fr M) (G A1 n2 c3) s ∧ Ow kFeat 44 ag M (G aa ab ac) xs2) (fun (xs2, _, _, _, i2) => a6 xs2 i2) (([] : List Feat), A8, n9, au, 0) ⟨ai, (Xz Z), av, (hp4.st av.st), a4⟩ ?_;rintro ⟨xs2, aa, ab, ac, i2⟩ _ ag ⟨ai, a7, ae, ad, aj⟩;obtain ⟨b6, rfl⟩ := Has.ins a7;have H := H xs2 i2 ai;refine Xc (Xc (Xd (Xe (vi i2) Z (Xe (G A1 n2 c3) Z ?_))));have aw := ad.le;refine Xa (Ya u33_ A1 n2 c3 ad.len Z) (Xa (X1 i2 (s.length : Int) (decide (i2 < (s.length : Int))) Z Z Z) (Xb ?_));refine Xy (decide (i2 < (s.length : Int))) Z (fun af => ?_) (fun af => ?_)
 ·have H := Xn H af;refine Xx (Xc (X6 (Xc (Xd (Xe (G A1 n2 c3) Z (Xe (vi i2) Z ?_))))));obtain ⟨ax, H⟩ := H;obtain ⟨ah, b7, a8, b8, a9, ba⟩ := ad.get default RD i2 ax;obtain ⟨b9, ca, cb, cc, cd, ce, rfl, cf, cg, ch⟩ := kFeat.op a9;refine Xa (X5 u33_ Y1 A1 ah n2 c3 ad.len i2 Z a8 Z ax) (Xa (Xj fa44_0 (ah.add (i2.toNat * 4)) ((ah.add (i2.toNat * 4)).add 0) Z Z) (Xa (Xm ag9 cL ((ah.add (i2.toNat * 4)).add 0) (vs ((nth s i2).Id)) Z (ba 0 _ Z)) (Xe (vs id) Z (Xa (Yo ((nth s i2).Id) id (((nth s i2).Id) != id) Z Z Z) (Xb ?_)))));refine Xy (((nth s i2).Id) != id) Z (fun ak => ?_) (fun ak => ?_)
  ·have H := Xn H ak;refine Xd (Xe (G aa ab ac) Z (Xe (G A1 n2 c3) Z (Xe (vi i2) Z ?_)));obtain ⟨ay, H⟩ := H;obtain ⟨az, ci, bb, cj, bc, bd⟩ := ad.get default RD i2 ay;obtain ⟨al, am, an, ao, ap, aq, rfl, be, bf, bg⟩ := kFeat.op bc;refine Xa (X5 u33_ Y1 A1 az n2 c3 ad.len i2 Z bb Z ay) (Xa (Xv ag44 sz44 cL (az.add (i2.toNat * 4)) [vs ((nth s i2).Id), vi ((nth s i2).Shape.Kind), G al am an, G ao ap aq] Z Z bd) (X8 (kd := kFeat) Yr ae ([(nth s i2)] : List Feat) (cells := [vs ((nth s i2).Id), vi ((nth s i2).Shape.Kind), G al am an, G ao ap aq]) ⟨[vs ((nth s i2).Id), vi ((nth s i2).Shape.Kind), G al am an, G ao ap aq], _, Z, (kFeat.mk _ _ (nth s i2) be bf bg), Z⟩ RF fun ck bh bi bj a0 hr90 bl bm => ?_));obtain ⟨bn, H⟩ := H;have bo := (aj.so _ a0 hr90);refine Ye Yr bl (G aa ab ac) xs2 ([(nth s i2)] : List Feat) Z bo (G bh bi bj) Z bm.sx 1 Z bn fun cl a1 a2 a3 cm bp ar bq => ?_;refine Xf (G a1 a2 a3) Z (Xb (Xd (Xe (vi i2) Z ?_)));obtain ⟨br, H⟩ := H;have bs : I64 (i2 + 1) := i64_succ (of_decide_eq_true af) aw br;refine Xa (Yb i2 1 Z Z bs) (Xf (vi (i2 + 1)) Z (Xb ?_));have bt := ar.drop 0 Z;obtain ⟨bu, bv⟩ := H;have bw := ae.stown _ a0 hr90;have bx := ar.std 0 Z;have bz := (((ad.st bw).st bp).st bx);have b0 := (ar.sd bq 1 0 Z Z Z);exact ⟨((xs2 ++ ([(nth s i2)] : List Feat)), a1, a2, a3, i2 + 1), bv, bu, (Xz Z), bt, bz, b0⟩
  have H := Xo H ak;refine Xx (Xd (Xe (vi i2) Z ?_));obtain ⟨b1, H⟩ := H;have b2 : I64 (i2 + 1) := i64_succ (of_decide_eq_true af) aw b1;refine Xa (Yb i2 1 Z Z b2) (Xf (vi (i2 + 1)) Z (Xb ?_));obtain ⟨b3, b4⟩ := H;exact ⟨(xs2, aa, ab, ac, i2 + 1), b4, b3, (Xz Z), ae, ad, aj⟩
 have H := Xo H af;refine Yh (xin_hit ?_);exact Xc (Xd (Xe (G aa ab ac) Z (Xf (G aa ab ac) Z (Xb (Xl ⟨[G aa ab ac], ⟨_, Z, Z⟩, xs2, aa, ab, ac, Z, H, ae.gr.g0, ae.ok, ae.ge, aj⟩)))))
def F83.E (s : Shape) (Q : Shape → Prop) : Prop :=
 (([] : List Pt).length + s.Pts.length ≤ 268435456) ∧ Q (⟨s.Kind, (([] : List Pt) ++ s.Pts)⟩ : Shape)
theorem F83.calls {s : Shape} {A1 : Option Addr} {n2 c3 : Nat} {Q : Shape → Prop} (H : F83.E s Q) (hO : Ok w0 O) (hp4 : Sl kPt w0 (Fr O) (G A1 n2 c3) s.Pts) :
  Ret Tryz.prog 115 [.agg #[vi s.Kind, G A1 n2 c3]] w0 (fun v w' => ∃ (r0 : Shape) (Aw0 : Option Addr) (nw0 cw0 : Nat), v = .agg #[vi r0.Kind, G Aw0 nw0 cw0] ∧ Q r0 ∧ Gk w0 w' [bk Aw0] O (Ow kPt 49 w' ([bk Aw0] ++ O) (G Aw0 nw0 cw0) r0.Pts)) := by
 unfold F83.E at H;have hc0 := Ct.init hO;refine X9 Tryz.func115 Z 10 Z [.cell 2 41] Z Z ?_;refine Xc (Xd (Yp [vi s.Kind, G A1 n2 c3] Z fun w6 b7 hl9 hu10 g8 ay => ?_));have az := Fb.mk hc0.ok hl9 ay;have ap := hc0.k0 g8;refine Yk [.int .i64 0, G none 0 0] ze41 fun be ae aq hu19 ar a0 => ?_;have au := ap.own ar (some ae) (Yj aq hu19);refine Xb (Xc (Y7 8 [some ae] RK Z fun bf ag aa => ?_));have ah := au.k0 ag;refine Xu 0 Z RK aa (Xj fa41_0 (Ad b7 0) (Ad b7 0) Z Z) ?_;have a1 := ap.stown _ ar (X2 aq);have a2 := au.stn ag;have af := ((az.st a1).st a2);refine Xu 1 Z RK aa (Y3 ag3 cR (Ad b7 0) (vi s.Kind) Z (af.cell Z) (nm_cons (ah.fne 0 af.2 Z) nm_nil)) ?_;refine Xu 3 Z RK aa (Xj fa41_1 (Ad b7 0) (Ad b7 1) Z Z) ?_;refine Xu 4 Z RK aa (Y3 ag39 cR (Ad b7 1) (G A1 n2 c3) Z (af.cell Z) (nm_cons (ah.fne 0 af.2 Z) nm_nil)) ?_;refine X3 2 RK Z ?_;refine X8 (kd := kPt) Yl ah ([] : List Pt) (cells := []) Z RF fun bg av a3 a4 aw hr35 ai a5 => ?_;have aj := Gm.tm aa aw;refine Xb ⟨aj, ?_⟩;refine X3 5 RK Z ?_;obtain ⟨a6, H⟩ := H;refine Ye Yl ai (G av a3 a4) ([] : List Pt) s.Pts Z a5 (G A1 n2 c3) Z (hp4.st ai.st).sx 0 Z a6 fun bh ab ac ad ax a7 ak a8 => ?_;have al := Gm.tq aj ax (hv_new aa hr35);have bi := hv_app (L := [bk av, some ae]) (O := O) (i := 0) aj Z (hv_new aa hr35) a7 ak;refine Xb ⟨al, ?_⟩;refine Xu 6 Z RK al (Ym (.agg #[vi s.Kind, G ab ac ad]) RF) ?_;refine X3 7 RK Z ?_;have a9 := (ai.bm ((a0.k0 ag).k0 aw) 1 0 Z Z Z ax);refine Yd [vi s.Kind, G ab ac ad] a9 Z Z sz41 Z Z fun bj am ba => ?_;have an := ak.wr 1 Z am;have bb := Gm.tq al am (hv_mem 0 Z);refine Xb ⟨bb, ?_⟩;refine Yq RK ?_;refine Xl ?_;have bc := an.bgv ba 1 Z;have ao := an.drop 1 Z;have bd := (an.sd (ak.sw a8 0 1 Z Z Z am) 0 1 Z Z Z);exact ⟨[.agg #[vi s.Kind, G ab ac ad]], ⟨_, _, Z, bc.1.res Z ag41 sz41, Z⟩, (⟨s.Kind, (([] : List Pt) ++ s.Pts)⟩ : Shape), ab, ac, ad, Z, H, ao.gr.g0, ao.ok, ao.ge, bd⟩
def F84.E (f : Feat) (Q : Feat → Prop) : Prop :=
 (([] : List Tag).length + f.Tags.length ≤ 268435456) ∧ F83.E f.Shape (fun r => Q (⟨f.Id, r, (([] : List Tag) ++ f.Tags)⟩ : Feat))
theorem F84.calls {f : Feat} {A2 : Option Addr} {n3 c4 : Nat} {A7 : Option Addr} {n8 c9 : Nat} {Q : Feat → Prop} (H : F84.E f Q) (hO : Ok w0 O) (hs1 : Lim f.Id) (hp5 : Sl kPt w0 (Fr O) (G A2 n3 c4) f.Shape.Pts) (bn : Sl kTag w0 (Fr O) (G A7 n8 c9) f.Tags) :
  Ret Tryz.prog 64 [.agg #[vs f.Id, vi f.Shape.Kind, G A2 n3 c4, G A7 n8 c9]] w0 (fun v w' => ∃ (r0 : Feat) (Aw0 : Option Addr) (nw0 cw0 : Nat) (Aw2 : Option Addr) (nw2 cw2 : Nat), v = .agg #[vs r0.Id, vi r0.Shape.Kind, G Aw0 nw0 cw0, G Aw2 nw2 cw2] ∧ Q r0 ∧ Gk w0 w' [bk Aw0, bk Aw2] O (Lim r0.Id ∧ Ow kPt 49 w' ([bk Aw0, bk Aw2] ++ O) (G Aw0 nw0 cw0) r0.Shape.Pts ∧ Ow kTag 93 w' ([bk Aw0, bk Aw2] ++ O) (G Aw2 nw2 cw2) r0.Tags)) := by
 unfold F84.E at H;have hc0 := Ct.init hO;refine X9 Tryz.func64 Z 13 Z [.cell 2 44] Z Z ?_;refine Xc (Xd (Yp [vs f.Id, vi f.Shape.Kind, G A2 n3 c4, G A7 n8 c9] Z fun dd ac b3 hu16 b4 b5 => ?_));have b6 := Fb.mk hc0.ok b3 b5;have bo := hc0.k0 b4;refine Yk [vs [], .int .i64 0, G none 0 0, G none 0 0] ze44 fun de aa bp hu25 bq br => ?_;have bs := bo.own bq (some aa) (Yj bp hu25);refine Xb (Xc ?_);obtain ⟨bt, H⟩ := H;refine Zi (J := (fun t ai => ∃ (r : Shape) (ad : Option Addr) (aj ak : Nat) (ae : Option Addr) (al am : Nat), Has t [(2, Pz aa)] ∧ Cw [] w0 ai [bk ae, bk ad, some aa] O fun M => Ow kPt 49 ai M (G ad aj ak) r.Pts ∧ Ow kTag 93 ai M (G ae al am) (([] : List Tag) ++ f.Tags) ∧ Bx ai aa [vs f.Id, vi r.Kind, G ad aj ak, G ae al am] ∧ Q (⟨f.Id, r, (([] : List Tag) ++ f.Tags)⟩ : Feat))) ?_ ?_
 ·refine Y7 11 [some aa] RK Z fun b7 ap ab => ?_;have af := bs.k0 ap;refine Xu 0 Z RK ab (Xj fa44_0 (Ad ac 0) (Ad ac 0) Z Z) ?_;have b8 := bo.stown _ bq (X2 bp);have b9 := bs.stn ap;have ah := ((b6.st b8).st b9);refine Xu 1 Z RK ab (Y3 ag9 cR (Ad ac 0) (vs f.Id) Z (ah.cell Z) (nm_cons (af.fne 0 ah.2 Z) nm_nil)) ?_;refine Xu 2 Z RK ab (Xj fa44_1 (Ad ac 0) (Ad ac 1) Z Z) ?_;refine Xu 3 Z RK ab (Zd ag41 sz41 cR (Ad ac 1) [vi f.Shape.Kind, G A2 n3 c4] Z Z (ah.cells (off := 1) Z) (nm_cons (af.fne 0 ah.2 Z) nm_nil)) ?_;refine Xu 6 Z RK ab (Xj fa44_2 (Ad ac 0) (Ad ac 3) Z Z) ?_;refine Xu 7 Z RK ab (Y3 ag42 cR (Ad ac 3) (G A7 n8 c9) Z (ah.cell Z) (nm_cons (af.fne 0 ah.2 Z) nm_nil)) ?_;refine Y6 4 5 RK Z Z ?_ ?_
  ·refine Xs go115 (F83.calls H af.ok (hp5.st af.st)) Z ?_;rintro _ bu ⟨r, an, aq, ar, rfl, H, bc, ca, cb, cc⟩;have cd := af.owns bc ca cb;have au := Gm.tm ab bc;refine Xb ⟨au, ?_⟩;refine X3 5 RK Z ?_;refine X8 (kd := kTag) Yx cd ([] : List Tag) (cells := []) Z RF fun df bv ce cf bd hr54 av cg => ?_;have ag := Gm.tm au bd;refine Xb ⟨ag, ?_⟩;refine X3 8 RK Z ?_;refine Ye Yx av (G bv ce cf) ([] : List Tag) f.Tags Z cg (G A7 n8 c9) Z (bn.st av.st).sx 0 Z bt fun dg aw ax ay be bw az ch => ?_;have bf := Gm.tq ag be (hv_new au hr54);have dh := hv_app (L := [bk bv, bk an, some aa]) (O := O) (i := 0) ag Z (hv_new au hr54) bw az;refine Xb ⟨bf, ?_⟩;refine Xu 9 Z RK bf (Ym (.agg #[vs f.Id, vi r.Kind, G an aq ar, G aw ax ay]) RF) ?_;refine X3 10 RK Z ?_;have ci := (av.bm (((br.k0 ap).k0 bc).k0 bd) 2 0 Z Z Z be);refine Yd [vs f.Id, vi r.Kind, G an aq ar, G aw ax ay] ci Z Z sz44 Z Z fun di a0 cj => ?_;have ck := az.wr 2 Z a0;have cl := Gm.tq bf a0 (hv_mem 0 Z);refine Xb ⟨cl, ?_⟩;refine Yq RK ?_;have cm := (az.sw (av.sm (cc.so _ bd hr54) 1 0 Z Z Z be bw) 1 2 Z Z Z a0);have cn := (az.sw ch 0 2 Z Z Z a0);exact ⟨r, an, aq, ar, aw, ax, ay, (Xz Z), ck, cm, cn, cj, H⟩
  refine X8 (kd := kTag) Yx af ([] : List Tag) (cells := []) Z RF fun bu bx co cp bz hr42 bg cq => ?_;have b0 := Gm.tm ab bz;refine Xb ⟨b0, ?_⟩;refine X3 4 RK Z ?_;refine Xs go115 (F83.calls H bg.ok (hp5.st bg.st)) Z ?_;rintro _ dj ⟨r, ao, a1, a2, rfl, H, a3, cr, b1, cs⟩;have a4 := bg.owns a3 cr b1;have ag := Gm.tm b0 a3;refine Xb ⟨ag, ?_⟩;refine X3 8 RK Z ?_;have ct := (cq.sos a3 b1);refine Ye Yx a4 (G bx co cp) ([] : List Tag) f.Tags Z ct (G A7 n8 c9) Z (bn.st a4.st).sx 1 Z bt fun dk a5 a6 a7 bh b2 a8 cu => ?_;have bi := Gm.tq ag bh (hv_new ab hr42);have dl := hv_app (L := [bk ao, bk bx, some aa]) (O := O) (i := 1) ag Z (hv_new ab hr42) b2 a8;refine Xb ⟨bi, ?_⟩;refine Xu 9 Z RK bi (Ym (.agg #[vs f.Id, vi r.Kind, G ao a1 a2, G a5 a6 a7]) RF) ?_;refine X3 10 RK Z ?_;have cv := (a4.bm (((br.k0 ap).k0 bz).k0 a3) 2 1 Z Z Z bh);refine Yd [vs f.Id, vi r.Kind, G ao a1 a2, G a5 a6 a7] cv Z Z sz44 Z Z fun dm a9 cw => ?_;have bj := a8.wr 2 Z a9;have cx := Gm.tq bi a9 (hv_mem 0 Z);refine Xb ⟨cx, ?_⟩;refine Yq RK ?_;have cy := bj.perm (.swap _ _ _);have cz := (bj.sp (a8.sw (a4.sm cs 0 1 Z Z Z bh b2) 0 2 Z Z Z a9) (.swap _ _ _));have c0 := (bj.sp (a8.sw cu 1 2 Z Z Z a9) (.swap _ _ _));have c1 := cw;exact ⟨r, ao, a1, a2, a5, a6, a7, (Xz Z), cy, cz, c0, c1, H⟩
 rintro dn ai ⟨r, ad, aj, ak, ae, al, am, c2, ba, c3, c5, c6, H⟩;obtain ⟨dp, rfl⟩ := Has.ins c2;refine Xl ?_;have c7 := ba.bgv c6 2 Z;have bb := ba.drop 2 Z;have bl := bb.perm (.swap _ _ _);have c8 := bb.stp (.swap _ _ _);have da := (c7.st c8);have db := (bb.sp (ba.sd c3 1 2 Z Z Z) (.swap _ _ _));have dc := (bb.sp (ba.sd c5 0 2 Z Z Z) (.swap _ _ _));exact ⟨[.agg #[vs f.Id, vi r.Kind, G ad aj ak, G ae al am]], ⟨_, _, Z, da.1.res Z ag44 sz44, Z⟩, (⟨f.Id, r, (([] : List Tag) ++ f.Tags)⟩ : Feat), ad, aj, ak, ae, al, am, Z, H, bl.gr.g0, bl.ok, bl.ge, hs1, db, dc⟩
def F85.E (r_b : List UInt8) (r_p : Int) (s : Shape) (Q : Shape → Int → Prop) : Prop :=
 (if (s.Pts.length : Int) == 0 then Q s r_p else F22.E r_b r_p (s.Pts.length : Int) (fun r2 m => ((0 : Int) ≤ 0 ∧ (0 : Int) ≤ r2 ∧ r2 ≤ (s.Pts.length : Int)) ∧ (([] : List Pt).length + ((s.Pts.drop (0 : Int).toNat).take (r2.toNat - (0 : Int).toNat)).length ≤ 268435456) ∧ F22.E r_b m 3 (fun r3 m2 => (∃ (J96 : (List Pt) → Int → Prop), ((if r3 == 0 then ((0 : Int) ≤ r2 ∧ (r2 : Int) ≤ (s.Pts.length : Int) ∧ (s.Pts.length : Int) ≤ (s.Pts.length : Int)) ∧ F138.E r_b m2 (fun r4 m3 => ((([] : List Pt) ++ ((s.Pts.drop (0 : Int).toNat).take (r2.toNat - (0 : Int).toNat))).length + ([r4] : List Pt).length ≤ 268435456) ∧ (((([] : List Pt) ++ ((s.Pts.drop (0 : Int).toNat).take (r2.toNat - (0 : Int).toNat))) ++ ([r4] : List Pt)).length + ((s.Pts.drop r2.toNat).take ((s.Pts.length : Int).toNat - r2.toNat)).length ≤ 268435456) ∧ J96 (((([] : List Pt) ++ ((s.Pts.drop (0 : Int).toNat).take (r2.toNat - (0 : Int).toNat))) ++ ([r4] : List Pt)) ++ ((s.Pts.drop r2.toNat).take ((s.Pts.length : Int).toNat - r2.toNat))) m3) else (if r3 == 1 then ((s.Pts.length : Int) ≤ 9223372036854775807 → I64 (r2 + 1)) ∧ ((0 : Int) ≤ r2 + 1 ∧ (r2 + 1 : Int) ≤ (s.Pts.length : Int) ∧ (s.Pts.length : Int) ≤ (s.Pts.length : Int)) ∧ ((([] : List Pt) ++ ((s.Pts.drop (0 : Int).toNat).take (r2.toNat - (0 : Int).toNat))).length + ((s.Pts.drop (r2 + 1).toNat).take ((s.Pts.length : Int).toNat - (r2 + 1).toNat)).length ≤ 268435456) ∧ J96 ((([] : List Pt) ++ ((s.Pts.drop (0 : Int).toNat).take (r2.toNat - (0 : Int).toNat))) ++ ((s.Pts.drop (r2 + 1).toNat).take ((s.Pts.length : Int).toNat - (r2 + 1).toNat))) m2 else ((s.Pts.length : Int) ≤ 9223372036854775807 → I64 (r2 + 1)) ∧ ((0 : Int) ≤ r2 + 1 ∧ (r2 + 1 : Int) ≤ (s.Pts.length : Int) ∧ (s.Pts.length : Int) ≤ (s.Pts.length : Int)) ∧ F138.E r_b m2 (fun r5 m4 => ((([] : List Pt) ++ ((s.Pts.drop (0 : Int).toNat).take (r2.toNat - (0 : Int).toNat))).length + ([r5] : List Pt).length ≤ 268435456) ∧ (((([] : List Pt) ++ ((s.Pts.drop (0 : Int).toNat).take (r2.toNat - (0 : Int).toNat))) ++ ([r5] : List Pt)).length + ((s.Pts.drop (r2 + 1).toNat).take ((s.Pts.length : Int).toNat - (r2 + 1).toNat)).length ≤ 268435456) ∧ J96 (((([] : List Pt) ++ ((s.Pts.drop (0 : Int).toNat).take (r2.toNat - (0 : Int).toNat))) ++ ([r5] : List Pt)) ++ ((s.Pts.drop (r2 + 1).toNat).take ((s.Pts.length : Int).toNat - (r2 + 1).toNat))) m4)))) ∧ ∀ (xs : List Pt) (z : Int), J96 xs z → F69.E (⟨s.Kind, xs⟩ : Shape) (fun r6 => (if !r6 then Q s z else Q (⟨s.Kind, xs⟩ : Shape) z))))))
theorem F85.calls {b : Nat} {r_b : List UInt8} {A2 : Option Addr} {n3 c4 : Nat} {r_p : Int} {s : Shape} {A7 : Option Addr} {n8 c9 : Nat} {Q : Shape → Int → Prop} (H : F85.E r_b r_p s Q) (hO : Ok w0 O) (hp5 : Sl Kd.byte w0 (Fr O) (G A2 n3 c4) r_b) (hp0 : Bx w0 b [G A2 n3 c4, vi r_p]) (hm : some b ∈ O) (af : Sl kPt w0 (Fr O) (G A7 n8 c9) s.Pts) :
  Ret Tryz.prog 103 [Pz b, .agg #[vi s.Kind, G A7 n8 c9]] w0 (fun v w' => ∃ (r0 : Shape) (m0 : Int) (Aw0 : Option Addr) (nw0 cw0 : Nat), v = .agg #[vi r0.Kind, G Aw0 nw0 cw0] ∧ Q r0 m0 ∧ Gr w0 w' (some b) ∧ Bx w' b [G A2 n3 c4, vi m0] ∧ Sl kPt w' (Fr O) (G Aw0 nw0 cw0) r0.Pts) := by
 unfold F85.E at H;have hc0 := Ct.initm1 (r := some b) hO (by intro b e; cases e; exact hm);refine X9 Tryz.func103 Z 67 Z [.cell 4 41] Z Z ?_;refine Xc (Xd (Yp [vi s.Kind, G A7 n8 c9] Z fun hg aa dv hu16 bo dw => ?_));have dx := Fb.mk hc0.ok dv dw;have cj := hc0.k0 bo;refine Yk [.int .i64 0, G none 0 0] ze41 fun dy ac ck hu25 a8 a9 => ?_;have ag := cj.own a8 (some ac) (Yj ck hu25);refine Xb (Xc (Xc (Xd (Xa (Xj fa41_1 (Ad aa 0) (Ad aa 1) Z Z) ?_))));have dz := cj.stown _ a8 (X2 ck);have ba := (dx.st dz);refine Xa (Xm ag39 cL (Ad aa 1) (G A7 n8 c9) Z (ba.cell Z)) ?_;have cl := (af.st ag.st).le;refine Xa (Ya u39_ A7 n8 c9 (af.st ag.st).len Z) (Xa (X1 (s.Pts.length : Int) 0 ((s.Pts.length : Int) == 0) Z Z Z) (Xb ?_));refine Xy ((s.Pts.length : Int) == 0) Z (fun bp => ?_) (fun bp => ?_)
 ·have H := Xn H bp;refine Xc (Xd (Xa (Xv ag41 sz41 cL (Ad aa 0) [vi s.Kind, G A7 n8 c9] Z Z (ba.cells (off := 00) Z)) (Yd [vi s.Kind, G A7 n8 c9] a9 Z Z sz41 Z Z fun hh cm d0 => ?_)));have cn := ag.wr 0 Z cm;refine Xb (Xl ?_);have d1 := cn.bgv d0 0 Z;have co := cn.drop 0 Z;have d2 := (ag.bmo ((hp0.k0 bo).k0 a8) 0 Z cm);exact ⟨[.agg #[vi s.Kind, G A7 n8 c9]], ⟨_, _, Z, d1.1.res Z ag41 sz41, Z⟩, s, r_p, A7, n8, c9, Z, H, co.gr.g1, d2, (af.st co.st)⟩
 have H := Xo H bp;refine Xx (Xc (Xd (Xe (Pz b) Z (Xa (Xj fa41_1 (Ad aa 0) (Ad aa 1) Z Z) (Xa (Xm ag39 cL (Ad aa 1) (G A7 n8 c9) Z (ba.cell Z)) (Xa (Ya u39_ A7 n8 c9 (af.st ag.st).len Z) ?_))))));have d3 := ((hp0.k0 bo).k0 a8);refine Xs go47 (F22.calls H ag.ok (hp5.st ag.st) d3 (List.mem_append_right _ hm)) Z ?_;rintro _ hi ⟨r2, m, rfl, H, a0, d4⟩;have cp := ag.wm a0;refine Xf (vi r2) Z (Xb (Xc (Xd (X8 (kd := kPt) Yl cp ([] : List Pt) (cells := []) Z RF fun hj d5 d6 d7 a1 hr52 ay d8 => ?_))));refine Xa (Xj fa41_1 (Ad aa 0) (Ad aa 1) Z Z) ?_;have d9 := ag.stm a0;have ea := cp.stown _ a1 hr52;have bb := ((ba.st d9).st ea);refine Xa (Xm ag39 cL (Ad aa 1) (G A7 n8 c9) Z (bb.cell Z)) (Xe (vi r2) Z ?_);obtain ⟨eb, H⟩ := H;refine Zr u39_ Yv A7 n8 c9 s.Pts Z (af.st ay.st) 0 r2 Z Z eb fun ec ed ee ef => ?_;obtain ⟨eg, H⟩ := H;refine Ye Yl ay (G d5 d6 d7) ([] : List Pt) ((s.Pts.drop (0 : Int).toNat).take (r2.toNat - (0 : Int).toNat)) Z d8 (G ec ed ee) Z ef.sx 0 Z eg fun eh ai av aw bc bq ah br => ?_;refine Xf (G ai av aw) Z (Xb (Xc (Xc (Xd (Xe (Pz b) Z ?_)))));have ei := (ay.bmo (d4.k0 a1) 0 Z bc);refine Xs go47 (F22.calls H ah.ok (hp5.st ah.st) ei (List.mem_append_right _ hm)) Z ?_;rintro _ hk ⟨r3, m2, rfl, H, aj, bs⟩;have am := ah.wm aj;refine Xb (X6 (Xc (Xd (Xa (X1 r3 0 (r3 == 0) Z Z Z) (Xf (vb (r3 == 0)) Z (Xb ?_))))));obtain ⟨ej, H, ek⟩ := H;refine Zi (J := (fun t an => ∃ (xs : List Pt) (ab : Option Addr) (ad ae : Nat) (z : Int), ej xs z ∧ Has t [(3, Pz aa), (4, Pz ac), (6, G ab ad ae)] ∧ Cw [some b] w0 an [bk ab, some ac] O fun M => Sl kPt an (Fr M) (G A7 n8 c9) s.Pts ∧ Sl Kd.byte an (Fr M) (G A2 n3 c4) r_b ∧ Ow kPt 49 an M (G ab ad ae) xs ∧ Bx an b [G A2 n3 c4, vi z] ∧ Fb an M aa [vi s.Kind, G A7 n8 c9] ∧ Bx an ac [vi 0, G none 0 0])) ?_ ?_
 ·refine Xy (r3 == 0) Z (fun bt => ?_) (fun bt => ?_)
  ·have H := Xn H bt;refine Y7 11 [some b, bk ai] RK Z fun el a2 ax => ?_;have ak := am.k0 a2;refine Xu 0 Z RK ax (Yw (G ai av aw) Z) ?_;refine Xu 1 Z RK ax (Yw (Pz b) Z) ?_;refine Xu 5 Z RK ax (Xj fa41_1 (Ad aa 0) (Ad aa 1) Z Z) ?_;have em := ah.stm aj;have en := am.stn a2;have bd := (((bb.st bq).st em).st en);refine Xu 6 Z RK ax (Y3 ag39 cR (Ad aa 1) (G A7 n8 c9) Z (bd.cell Z) (nm_cons (fr_nem ak bd.2) (nm_cons (ak.fne 0 bd.2 Z) nm_nil))) ?_;refine Xu 7 Z RK ax (Yw (vi r2) Z) ?_;obtain ⟨eo, H⟩ := H;refine Z1 8 Z RK ax u39_ Yv A7 n8 c9 s.Pts Z (af.st ak.st) r2 (s.Pts.length : Int) Z (bd_none (af.st ak.st).len) eo fun ep eq er es => ?_;refine X3 2 RK Z ?_;have et := (bs.k0 a2);refine Xs go134 (F138.calls H ak.ok (hp5.st ak.st) et (List.mem_append_right _ hm)) Z ?_;rintro _ hl ⟨r4, m3, rfl, H, a3, eu⟩;have cq := ak.wm a3;have cr := Gm.tq ax a3 (hv_mem 0 Z);refine Xb ⟨cr, ?_⟩;refine X3 3 RK Z ?_;refine X8 (kd := kPt) Yl cq ([r4] : List Pt) (cells := [vi r4.X, vi r4.Y]) ⟨[vi r4.X, vi r4.Y], _, Z, (kPt.mk _ _ r4), Z⟩ RF fun hn bu ev ew a4 hr126 bv ex => ?_;have bw := Gm.tm cr a4;refine Xb ⟨bw, ?_⟩;refine X3 4 RK Z ?_;obtain ⟨ey, H⟩ := H;have ez := ((ak.swm ((ah.swm br 0 Z aj).sn a2) 0 Z a3).so _ a4 hr126);refine Ye Yl bv (G ai av aw) (([] : List Pt) ++ ((s.Pts.drop (0 : Int).toNat).take (r2.toNat - (0 : Int).toNat))) ([r4] : List Pt) Z ez (G bu ev ew) Z ex.sx 1 Z ey fun ho cs e0 e1 bx bz be e2 => ?_;have b0 := Gm.tq bw bx (hv_mem 1 Z);have ct := hv_app (L := [bk bu, bk ai, some ac]) (O := O) (i := 1) bw Z (hv_mem 1 Z) bz be;refine Xb ⟨b0, ?_⟩;refine X3 9 RK Z ?_;have cu := ak.stm a3;have cv := cq.stown _ a4 hr126;have e3 := (((es.st cu).st cv).st bz);obtain ⟨e4, H⟩ := H;refine Ye Yl be (G cs e0 e1) ((([] : List Pt) ++ ((s.Pts.drop (0 : Int).toNat).take (r2.toNat - (0 : Int).toNat))) ++ ([r4] : List Pt)) ((s.Pts.drop r2.toNat).take ((s.Pts.length : Int).toNat - r2.toNat)) Z e2 (G ep eq er) Z e3.sx 1 Z e4 fun hp cw cx cy b1 cz bf e5 => ?_;have c0 := Gm.tq b0 b1 ct;have hq := hv_app (L := [bk bu, bk cs, some ac]) (O := O) (i := 1) b0 Z ct cz bf;refine Xb ⟨c0, ?_⟩;refine Xu 10 Z RK c0 (Zf (G cw cx cy) Z) ?_;refine Yq RK ?_;have b2 := bf.drop 0 Z;have e6 := (bf.sd e5 1 0 Z Z Z);have e7 := (be.bmo (bv.bmo (eu.k0 a4) 1 Z bx) 1 Z b1);have e8 := bf.std 0 Z;have e9 := (((((bd.st cu).st cv).st bz).st cz).st e8);have fa := (be.bm (bv.bm ((ak.bwm ((ah.bwm (ay.bm ((ag.bwm a9 0 Z a0).k0 a1) 1 0 Z Z Z bc) 1 Z aj).k0 a2) 1 Z a3).k0 a4) 2 1 Z Z Z bx) 2 1 Z Z Z b1);exact ⟨(((([] : List Pt) ++ ((s.Pts.drop (0 : Int).toNat).take (r2.toNat - (0 : Int).toNat))) ++ ([r4] : List Pt)) ++ ((s.Pts.drop r2.toNat).take ((s.Pts.length : Int).toNat - r2.toNat))), cw, cx, cy, m3, H, (Xz Z), b2, (af.st b2.st), (hp5.st b2.st), e6, e7, e9, fa⟩
  have H := Xo H bt;refine Xc (Xd (Xa (X1 r3 1 (r3 == 1) Z Z Z) (Xf (vb (r3 == 1)) Z (Xb ?_))));refine Xy (r3 == 1) Z (fun b3 => ?_) (fun b3 => ?_)
  ·have H := Xn H b3;refine Xd (Xe (G ai av aw) Z (Xa (Xj fa41_1 (Ad aa 0) (Ad aa 1) Z Z) ?_));have fb := ah.stm aj;have c1 := ((bb.st bq).st fb);refine Xa (Xm ag39 cL (Ad aa 1) (G A7 n8 c9) Z (c1.cell Z)) (Xe (vi r2) Z ?_);obtain ⟨fc, H⟩ := H;have fd := fc (len_le cl);refine Xa (Yb r2 1 Z Z fd) ?_;obtain ⟨fe, H⟩ := H;refine Zr u39_ Yv A7 n8 c9 s.Pts Z (af.st am.st) (r2 + 1) (s.Pts.length : Int) Z (bd_none (af.st am.st).len) fe fun ff fg fh fi => ?_;obtain ⟨fj, H⟩ := H;have fk := (ah.swm br 0 Z aj);refine Ye Yl am (G ai av aw) (([] : List Pt) ++ ((s.Pts.drop (0 : Int).toNat).take (r2.toNat - (0 : Int).toNat))) ((s.Pts.drop (r2 + 1).toNat).take ((s.Pts.length : Int).toNat - (r2 + 1).toNat)) Z fk (G ff fg fh) Z fi.sx 0 Z fj fun hr c2 c3 c5 c6 fl b4 fm => ?_;refine Xf (G c2 c3 c5) Z (Xb ?_);have fn := (am.bmo bs 0 Z c6);have fo := (c1.st fl);have fp := (am.bm (ah.bwm (ay.bm ((ag.bwm a9 0 Z a0).k0 a1) 1 0 Z Z Z bc) 1 Z aj) 1 0 Z Z Z c6);exact ⟨((([] : List Pt) ++ ((s.Pts.drop (0 : Int).toNat).take (r2.toNat - (0 : Int).toNat))) ++ ((s.Pts.drop (r2 + 1).toNat).take ((s.Pts.length : Int).toNat - (r2 + 1).toNat))), c2, c3, c5, m2, H, (Xz Z), b4, (af.st b4.st), (hp5.st b4.st), fm, fn, fo, fp⟩
  have H := Xo H b3;refine Y7 12 [some b, bk ai] RK Z fun fq a5 ao => ?_;have al := am.k0 a5;refine Xu 0 Z RK ao (Yw (G ai av aw) Z) ?_;refine Xu 1 Z RK ao (Yw (Pz b) Z) ?_;refine Xu 5 Z RK ao (Xj fa41_1 (Ad aa 0) (Ad aa 1) Z Z) ?_;have fr := ah.stm aj;have fs := am.stn a5;have bg := (((bb.st bq).st fr).st fs);refine Xu 6 Z RK ao (Y3 ag39 cR (Ad aa 1) (G A7 n8 c9) Z (bg.cell Z) (nm_cons (fr_nem al bg.2) (nm_cons (al.fne 0 bg.2 Z) nm_nil))) ?_;refine Xu 7 Z RK ao (Yw (vi r2) Z) ?_;obtain ⟨ft, H⟩ := H;have fu := ft (len_le cl);refine Xu 8 Z RK ao (Yb r2 1 Z Z fu) ?_;obtain ⟨fv, H⟩ := H;refine Z1 9 Z RK ao u39_ Yv A7 n8 c9 s.Pts Z (af.st al.st) (r2 + 1) (s.Pts.length : Int) Z (bd_none (af.st al.st).len) fv fun fw fx fy fz => ?_;refine X3 2 RK Z ?_;have f0 := (bs.k0 a5);refine Xs go134 (F138.calls H al.ok (hp5.st al.st) f0 (List.mem_append_right _ hm)) Z ?_;rintro _ hs ⟨r5, m4, rfl, H, a6, f1⟩;have c7 := al.wm a6;have c8 := Gm.tq ao a6 (hv_mem 0 Z);refine Xb ⟨c8, ?_⟩;refine X3 3 RK Z ?_;refine X8 (kd := kPt) Yl c7 ([r5] : List Pt) (cells := [vi r5.X, vi r5.Y]) ⟨[vi r5.X, vi r5.Y], _, Z, (kPt.mk _ _ r5), Z⟩ RF fun ht b5 f2 f3 a7 hr218 b6 f4 => ?_;have b7 := Gm.tm c8 a7;refine Xb ⟨b7, ?_⟩;refine X3 4 RK Z ?_;obtain ⟨f5, H⟩ := H;have f6 := ((al.swm ((ah.swm br 0 Z aj).sn a5) 0 Z a6).so _ a7 hr218);refine Ye Yl b6 (G ai av aw) (([] : List Pt) ++ ((s.Pts.drop (0 : Int).toNat).take (r2.toNat - (0 : Int).toNat))) ([r5] : List Pt) Z f6 (G b5 f2 f3) Z f4.sx 1 Z f5 fun hu da f7 f8 b8 b9 bh f9 => ?_;have ca := Gm.tq b7 b8 (hv_mem 1 Z);have db := hv_app (L := [bk b5, bk ai, some ac]) (O := O) (i := 1) b7 Z (hv_mem 1 Z) b9 bh;refine Xb ⟨ca, ?_⟩;refine X3 10 RK Z ?_;have dc := al.stm a6;have dd := c7.stown _ a7 hr218;have ga := (((fz.st dc).st dd).st b9);obtain ⟨gb, H⟩ := H;refine Ye Yl bh (G da f7 f8) ((([] : List Pt) ++ ((s.Pts.drop (0 : Int).toNat).take (r2.toNat - (0 : Int).toNat))) ++ ([r5] : List Pt)) ((s.Pts.drop (r2 + 1).toNat).take ((s.Pts.length : Int).toNat - (r2 + 1).toNat)) Z f9 (G fw fx fy) Z ga.sx 1 Z gb fun hv de df dg cb dh bi gc => ?_;have di := Gm.tq ca cb db;have hw := hv_app (L := [bk b5, bk da, some ac]) (O := O) (i := 1) ca Z db dh bi;refine Xb ⟨di, ?_⟩;refine Xu 11 Z RK di (Zf (G de df dg) Z) ?_;refine Yq RK ?_;have cc := bi.drop 0 Z;have gd := (bi.sd gc 1 0 Z Z Z);have ge := (bh.bmo (b6.bmo (f1.k0 a7) 1 Z b8) 1 Z cb);have gf := bi.std 0 Z;have gg := (((((bg.st dc).st dd).st b9).st dh).st gf);have gh := (bh.bm (b6.bm ((al.bwm ((ah.bwm (ay.bm ((ag.bwm a9 0 Z a0).k0 a1) 1 0 Z Z Z bc) 1 Z aj).k0 a5) 1 Z a6).k0 a7) 2 1 Z Z Z b8) 2 1 Z Z Z cb);exact ⟨(((([] : List Pt) ++ ((s.Pts.drop (0 : Int).toNat).take (r2.toNat - (0 : Int).toNat))) ++ ([r5] : List Pt)) ++ ((s.Pts.drop (r2 + 1).toNat).take ((s.Pts.length : Int).toNat - (r2 + 1).toNat))), de, df, dg, m4, H, (Xz Z), cc, (af.st cc.st), (hp5.st cc.st), gd, ge, gg, gh⟩
 rintro hx an ⟨xs, ab, ad, ae, z, gi, gj, dj, gk, hy, dk, dl, dm, dn⟩;obtain ⟨hz, rfl⟩ := Has.ins gj;have H := ek xs z gi;refine Xc (Xd (Xa (Xj fa41_0 (Ad aa 0) (Ad aa 0) Z Z) (Xa (Xm ag3 cL (Ad aa 0) (vi s.Kind) Z (dm.cell Z)) (Xe (G ab ad ae) Z (Xa (Ym (.agg #[vi s.Kind, G ab ad ae]) RF) (Yk [.int .i64 0, G none 0 0] ze41 fun h0 bj bl hu264 ap gl => ?_))))));have aq := dj.own ap (some bj) (Yj bl hu264);refine Yd [vi s.Kind, G ab ad ae] gl Z Z sz41 Z Z fun gm ar dp => ?_;have bn := aq.wr 0 Z ar;refine Xb (Xc (Xc (Xd (Xa (Xv ag41 sz41 cL (Ad bj 0) [vi s.Kind, G ab ad ae] Z Z (dp.cells (off := 00) Z)) ?_))));have gn := (aq.sw (dk.so _ ap (X2 bl)) 1 0 Z Z Z ar);have gp := bn.gv gn 1 Z;have gq := bn.drop 1 Z;refine Xs go66 (F69.calls H gq.ok gp) Z ?_;rintro _ h1 ⟨r6, rfl, H, au⟩;have az := bn.k0 au;refine Xa (X7 r6 Z) (Xb ?_);refine Xy (!r6) Z (fun cd => ?_) (fun cd => ?_)
 ·have H := Xn H cd;refine Xc (Xd ?_);have dq := dj.stown _ ap (X2 bl);have dr := aq.stw 0 Z ar;have ds := bn.stn au;have gs := (((dm.st dq).st dr).st ds);refine Xa (Xv ag41 sz41 cL (Ad aa 0) [vi s.Kind, G A7 n8 c9] Z Z (gs.cells (off := 00) Z)) ?_;have gt := ((aq.bm (dn.k0 ap) 2 0 Z Z Z ar).k0 au);refine Yd [vi s.Kind, G A7 n8 c9] gt Z Z sz41 Z Z fun h2 ce gu => ?_;have cf := az.wr 2 Z ce;refine Xb (Xl ?_);have gw := cf.bgv gu 2 Z;have gx := cf.drop 2 Z;have gy := gx.clear;have gz := (gw.st St.clear);have g0 := az.stw 2 Z ce;have g2 := cf.std 2 Z;have g3 := ((((((gk.st dq).st dr).st ds).st g0).st g2).st St.clear);have g4 := (az.bmo ((aq.bmo (dl.k0 ap) 0 Z ar).k0 au) 2 Z ce);exact ⟨[.agg #[vi s.Kind, G A7 n8 c9]], ⟨_, _, Z, gz.1.res Z ag41 sz41, Z⟩, s, z, A7, n8, c9, Z, H, gy.gr.g1, g4, g3⟩
 have H := Xo H cd;refine Xx (Xc (Xd ?_));have g5 := (dp.k0 au);refine Xa (Xv ag41 sz41 cL (Ad bj 0) [vi s.Kind, G ab ad ae] Z Z (g5.cells (off := 00) Z)) ?_;have g6 := ((aq.bm (dn.k0 ap) 2 0 Z Z Z ar).k0 au);refine Yd [vi s.Kind, G ab ad ae] g6 Z Z sz41 Z Z fun g7 cg g8 => ?_;have ch := az.wr 2 Z cg;refine Xb (Xl ?_);have g9 := ch.bgv g8 2 Z;have ci := ch.drop 2 Z;have ha := (ch.sd (az.sw ((aq.sw (dk.so _ ap (X2 bl)) 1 0 Z Z Z ar).sn au) 1 2 Z Z Z cg) 1 2 Z Z Z);have hb := ci.gv ha 1 Z;have dt := ci.drop 1 Z;have hc : Ct [some b] w0 g7 [] O := dt.drop 0 Z;have hd := ci.std 1 Z;have du := dt.std 0 Z;have he := ((g9.st hd).st du);have hf := (az.bmo ((aq.bmo (dl.k0 ap) 0 Z ar).k0 au) 2 Z cg);exact ⟨[.agg #[vi s.Kind, G ab ad ae]], ⟨_, _, Z, he.1.res Z ag41 sz41, Z⟩, (⟨s.Kind, xs⟩ : Shape), z, ab, ad, ae, Z, H, hc.gr.g1, hf, (hb.st du)⟩
def F89.E (r_b : List UInt8) (r_p : Int) (s : List Feat) (Q : List Feat → Int → Prop) : Prop :=
 F22.E r_b r_p 3 (fun r2 m => (I64 (1 + r2)) ∧ (∃ (I50 : (List Feat) → Int → Int → Prop) (mu51 : (List Feat) → Int → Int → Nat), I50 s (1 + r2) m ∧ ∀ (out2 : List Feat) (i2 z2 : Int), I50 out2 i2 z2 → (if decide (i2 > 0) then F137.E r_b z2 (fun r3 m2 => F82.E out2 r3 (fun r4 => (if decide (r4 < 0) then F81.E r_b m2 r3 (fun r5 m3 => F127.E out2 r5 (fun r6 => (I64 (i2 - 1)) ∧ I50 r6 (i2 - 1) m3 ∧ mu51 r6 (i2 - 1) m3 < mu51 out2 i2 z2)) else F22.E r_b m2 4 (fun r7 m4 => (if r7 == 0 then F128.E out2 r3 (fun r8 => (I64 (i2 - 1)) ∧ I50 r8 (i2 - 1) m4 ∧ mu51 r8 (i2 - 1) m4 < mu51 out2 i2 z2) else F22.E r_b m4 2 (fun r9 m5 => (if r9 == 0 then ((0 : Int) ≤ r4 ∧ r4 < (out2.length : Int)) ∧ F84.E (nth out2 r4) (fun r10 => F124.E r_b m5 (fun r11 m6 => F125.E r_b m6 (fun r12 m7 => F126.E r10.Tags r11 r12 (fun r13 => F127.E out2 (⟨r10.Id, r10.Shape, r13⟩ : Feat) (fun r14 => (I64 (i2 - 1)) ∧ I50 r14 (i2 - 1) m7 ∧ mu51 r14 (i2 - 1) m7 < mu51 out2 i2 z2))))) else ((0 : Int) ≤ r4 ∧ r4 < (out2.length : Int)) ∧ F84.E (nth out2 r4) (fun r15 => F85.E r_b m5 r15.Shape (fun r16 m8 => F127.E out2 (⟨r15.Id, r16, r15.Tags⟩ : Feat) (fun r17 => (I64 (i2 - 1)) ∧ I50 r17 (i2 - 1) m8 ∧ mu51 r17 (i2 - 1) m8 < mu51 out2 i2 z2)))))))))) else F72.E out2 (fun r18 => (if !r18 then Q s z2 else Q out2 z2)))))
theorem F89.calls {b : Nat} {r_b : List UInt8} {A2 : Option Addr} {n3 c4 : Nat} {r_p : Int} {s : List Feat} {A7 : Option Addr} {n8 c9 : Nat} {Q : List Feat → Int → Prop} (H : F89.E r_b r_p s Q) (hO : Ok w0 O) (hp5 : Sl Kd.byte w0 (Fr O) (G A2 n3 c4) r_b) (hp0 : Bx w0 b [G A2 n3 c4, vi r_p]) (hm : some b ∈ O) (fu : Sl kFeat w0 (Fr O) (G A7 n8 c9) s) :
  Ret Tryz.prog 49 [Pz b, G A7 n8 c9] w0 (fun v w' => ∃ (r0 : List Feat) (m0 : Int) (Aw0 : Option Addr) (nw0 cw0 : Nat), v = G Aw0 nw0 cw0 ∧ Q r0 m0 ∧ Gr w0 w' (some b) ∧ Bx w' b [G A2 n3 c4, vi m0] ∧ Sl kFeat w' (Fr O) (G Aw0 nw0 cw0) r0) := by
 unfold F89.E at H;have hc0 := Ct.initm1 (r := some b) hO (by intro b e; cases e; exact hm);refine X9 Tryz.func49 Z 77 Z [.tmp 4] Z Z ?_;refine Xc (Xd (Xf (G none 0 0) Z (Xb (Xc (Xd (Xe (G A7 n8 c9) Z (Xf (G A7 n8 c9) Z (Xb ?_))))))));refine Xc (Xc (Xd (Xe (Pz b) Z ?_)));refine Xs go47 (F22.calls H hc0.ok hp5 hp0 hm) Z ?_;rintro _ j6 ⟨r2, m, rfl, H, hd, he⟩;have ds := hc0.wm hd;obtain ⟨hf, H⟩ := H;refine Xa (Yb 1 r2 Z Z hf) (Xf (vi (1 + r2)) Z (Xb (X6 ?_)));obtain ⟨hg, hh, d5, H⟩ := H;refine Yi (α := (List Feat) × (Option Addr) × Nat × Nat × Int × Int) (fun (out2, aa, ab, ac, i2, z2) t bq => hg out2 i2 z2 ∧ Has t [(0, Pz b), (1, G A7 n8 c9), (5, G aa ab ac), (6, vi i2)] ∧ Cw [some b] w0 bq [] O fun M => Sl kFeat bq (Fr M) (G A7 n8 c9) s ∧ Sl kFeat bq (Fr M) (G aa ab ac) out2 ∧ Sl Kd.byte bq (Fr M) (G A2 n3 c4) r_b ∧ Bx bq b [G A2 n3 c4, vi z2]) (fun (out2, _, _, _, i2, z2) => hh out2 i2 z2) (s, A7, n8, c9, 1 + r2, m) ⟨d5, (Xz Z), ds, (fu.st ds.st), (fu.st ds.st), (hp5.st ds.st), he⟩ ?_;rintro ⟨out2, aa, ab, ac, i2, z2⟩ _ bq ⟨d5, hi, b0, b1, b2, d6, d7⟩;obtain ⟨j7, rfl⟩ := Has.ins hi;have H := H out2 i2 z2 d5;refine Xc (Xc (Xd (Xe (vi i2) Z (Xa (X1 i2 0 (decide (i2 > 0)) Z Z Z) (Xb ?_)))));refine Xy (decide (i2 > 0)) Z (fun d8 => ?_) (fun d8 => ?_)
 ·have H := Xn H d8;refine Xx (Xc (X6 (Xc (Xd (Xe (Pz b) Z ?_)))));refine Xs go98 (F137.calls H b0.ok d6 d7 hm) Z ?_;rintro _ hj ⟨r3, m2, rfl, H, fv, fw, d9⟩;have dt := b0.wm fv;refine Xf (vs r3) Z (Xb (Xc (Xd (Xe (G aa ab ac) Z (Xe (vs r3) Z ?_)))));have ax := b0.stm fv;refine Xs go99 (F82.calls H dt.ok (b2.st ax) d9) Z ?_;rintro _ fx ⟨r4, rfl, H, ci⟩;have b3 := dt.k0 ci;refine Xf (vi r4) Z (Xb (X6 (Xc (Xd (Xe (vi r4) Z (Xa (X1 r4 0 (decide (r4 < 0)) Z Z Z) (Xf (vb (decide (r4 < 0))) Z (Xb ?_))))))));refine Xy (decide (r4 < 0)) Z (fun ea => ?_) (fun ea => ?_)
  ·have H := Xn H ea;refine Xd (Xe (G aa ab ac) Z (Xe (Pz b) Z (Xe (vs r3) Z ?_)));have eb := dt.stn ci;have fy := ((d6.st ax).st eb);have hk := (fw.k0 ci);refine Xs go61 (F81.calls H b3.ok fy hk hm d9) Z ?_;rintro _ hl ⟨r5, m3, fz, f0, f1, f2, f3, f4, rfl, H, f5, hn, ho, f6, hp, hq, hr⟩;have du := b3.ownm f5 ho f6;have hs := du.gv hq 0 Z;have ec := du.drop 0 Z;have ht := (du.sd hr 1 0 Z Z Z);have hu := ec.gv ht 0 Z;have ed := ec.drop 0 Z;have ee := b3.stom f5 f6;have ef := du.std 0 Z;have dv := ec.std 0 Z;have hv := (((((b2.st ax).st eb).st ee).st ef).st dv);refine Xs go89 (F127.calls H ed.ok hv hp (hs.st dv) hu) Z ?_;rintro _ hw ⟨r6, eg, f7, f8, rfl, H, eh, hx, f9, hy⟩;have ei : Ct [some b] w0 hw [bk eg] O := ed.owns eh hx f9;refine Xf (G eg f7 f8) Z (Xb (Xd (Xe (vi i2) Z ?_)));obtain ⟨hz, H⟩ := H;refine Xa (Yz i2 1 Z Z hz) (Xf (vi (i2 - 1)) Z (Xb ?_));have h0 := ei.gv hy 0 Z;have h1 := ei.drop 0 Z;obtain ⟨h2, h3⟩ := H;have ga := ed.stos eh f9;have gb := ei.std 0 Z;have h4 := (((((((b1.st ax).st eb).st ee).st ef).st dv).st ga).st gb);have h5 := (((((fy.st ee).st ef).st dv).st ga).st gb);have h6 := (hn.k0 eh);exact ⟨(r6, eg, f7, f8, i2 - 1, m3), h3, h2, (Xz Z), h1, h4, h0, h5, h6⟩
  have H := Xo H ea;refine Xc (Xd (Xe (Pz b) Z ?_));have bj := dt.stn ci;have b9 := ((d6.st ax).st bj);have h7 := (fw.k0 ci);refine Xs go47 (F22.calls H b3.ok b9 h7 hm) Z ?_;rintro _ gc ⟨r7, m4, rfl, H, ej, gd⟩;have b4 := b3.wm ej;refine Xa (X1 r7 0 (r7 == 0) Z Z Z) (Xf (vb (r7 == 0)) Z (Xb ?_));refine Xy (r7 == 0) Z (fun ek => ?_) (fun ek => ?_)
  ·have H := Xn H ek;refine Xd (Xe (G aa ab ac) Z (Xe (vs r3) Z ?_));have el := b3.stm ej;have h8 := (((b2.st ax).st bj).st el);refine Xs go90 (F128.calls H b4.ok h8 d9) Z ?_;rintro _ j8 ⟨r8, ge, gf, gg, rfl, H, em, h9, gh, ia⟩;have en := b4.owns em h9 gh;refine Xf (G ge gf gg) Z (Xb (Xd (Xe (vi i2) Z ?_)));obtain ⟨ib, H⟩ := H;refine Xa (Yz i2 1 Z Z ib) (Xf (vi (i2 - 1)) Z (Xb ?_));have ic := en.gv ia 0 Z;have id := en.drop 0 Z;obtain ⟨ie, ig⟩ := H;have gi := b4.stos em gh;have gj := en.std 0 Z;have ih := (((((b1.st ax).st bj).st el).st gi).st gj);have ii := (((b9.st el).st gi).st gj);have ij := (gd.k0 em);exact ⟨(r8, ge, gf, gg, i2 - 1, m4), ig, ie, (Xz Z), id, ih, ic, ii, ij⟩
  have H := Xo H ek;refine Xc (Xd (Xe (Pz b) Z ?_));have bg := b3.stm ej;refine Xs go47 (F22.calls H b4.ok (b9.st bg) gd hm) Z ?_;rintro _ gk ⟨r9, m5, rfl, H, eo, ep⟩;have b5 := b4.wm eo;refine Xa (X1 r9 0 (r9 == 0) Z Z Z) (Xf (vb (r9 == 0)) Z (Xb ?_));refine Xy (r9 == 0) Z (fun eq => ?_) (fun eq => ?_)
  ·have H := Xn H eq;refine Xc (Xd (Xe (G aa ab ac) Z (Xe (vi r4) Z ?_)));obtain ⟨gl, H⟩ := H;have ca := b4.stm eo;have cj := ((((b2.st ax).st bj).st bg).st ca);obtain ⟨gm, j9, ik, ka, il, im⟩ := cj.get default RD r4 gl;obtain ⟨er, es, et, eu, ev, ew, rfl, io, ip, iq⟩ := kFeat.op il;refine Xa (X5 u33_ Y1 aa gm ab ac cj.len r4 Z ik Z gl) (Xa (Xv ag44 sz44 cL (gm.add (r4.toNat * 4)) [vs ((nth out2 r4).Id), vi ((nth out2 r4).Shape.Kind), G er es et, G eu ev ew] Z Z im) ?_);refine Xs go64 (F84.calls H b5.ok io ip iq) Z ?_;rintro _ kb ⟨r10, ae, ai, aj, af, ap, aq, rfl, H, ck, ir, ex, ey, ez, e0⟩;have e1 := b5.owns ck ir ex;refine Yk [vs [], .int .i64 0, G none 0 0, G none 0 0] ze44 fun kc ad bl hu208 a0 it => ?_;have a1 := e1.own a0 (some ad) (Yj bl hu208);refine Yd [vs r10.Id, vi r10.Shape.Kind, G ae ai aj, G af ap aq] it Z Z sz44 Z Z fun kd a2 e2 => ?_;have e3 := a1.wr 0 Z a2;refine Xb (Xc (Y7 9 [some b, some ad] RK Z fun gn ar cb => ?_));have ao := e3.k0 ar;refine Xu 0 Z RK cb (Xj fa44_2 (Ad ad 0) (Ad ad 3) Z Z) ?_;refine Xu 2 Z RK cb (Yw (Pz b) Z) ?_;refine Xu 4 Z RK cb (Yw (Pz b) Z) ?_;refine Y6 1 3 RK Z Z ?_ ?_
   ·have gp := (e2.k0 ar);refine Xa (Xm ag42 cL (Ad ad 3) (G af ap aq) Z (gp.cell Z)) ?_;refine Xb ⟨cb, ?_⟩;refine X3 3 RK Z ?_;have bm := b5.stos ck ex;have bn := e1.stown _ a0 (X2 bl);have bo := a1.stw 0 Z a2;have e4 := e3.stn ar;have cl := ((((((b9.st bg).st ca).st bm).st bn).st bo).st e4);have iu := ((a1.bmo ((ep.k0 ck).k0 a0) 0 Z a2).k0 ar);refine Xs go101 (F124.calls H ao.ok cl iu (List.mem_append_right _ hm)) Z ?_;rintro _ iv ⟨r11, m6, rfl, H, cc, iw, ix⟩;have cd := ao.wm cc;have gq := Gm.tq cb cc (hv_mem 0 Z);refine Xb ⟨gq, ?_⟩;refine X3 5 RK Z ?_;have bp := ao.stm cc;refine Xs go102 (F125.calls H cd.ok (cl.st bp) iw (List.mem_append_right _ hm)) Z ?_;rintro _ e5 ⟨r12, m7, rfl, H, ay, e6, e7⟩;have a3 := cd.wm ay;have cm := Gm.tq gq ay (hv_mem 0 Z);refine Xb ⟨cm, ?_⟩;refine X3 6 RK Z ?_;have cn := (cd.swm (ao.swm ((a1.sw (e0.so _ a0 (X2 bl)) 2 0 Z Z Z a2).sn ar) 2 Z cc) 2 Z ay);have co := a3.gv cn 2 Z;have cp := a3.drop 2 Z;refine Xs go100 (F126.calls H cp.ok co ix e7) Z ?_;rintro _ gs ⟨r13, ak, al, am, rfl, H, ag, cq, au, cr⟩;have cs := Ok.unl (L := [some ad, bk ae, bk af]) (L' := [some ad, bk ae]) (O := O) a3 ag cq au;have ct := Ow.unl (L := [some ad, bk ae, bk af]) (L' := [some ad, bk ae]) (O := O) (fun _ _ _ _ _ _ h => h) (.cons_cons _ (.cons_cons _ (.cons _ (.slnil)))) cr;have an := a3.owns ag cs au;have a4 := Gm.tm cm ag;refine Xb ⟨a4, ?_⟩;refine Xu 7 Z RK a4 (Xj fa44_2 (Ad ad 0) (Ad ad 3) Z Z) ?_;refine X3 8 RK Z ?_;have cu := ((cd.bwm (ao.bwm gp 0 Z cc) 0 Z ay).k0 ag);refine Ys 3 [G ak al am] [vs r10.Id, vi r10.Shape.Kind, G ae ai aj, G ak al am] cu Z Z sz42 Z Z Z fun cv ah cw => ?_;have av := an.wr 1 Z ah;have cx := Gm.tq a4 ah (hv_mem 1 Z);refine Xb ⟨cx, ?_⟩;refine Yq RK ?_;refine Xd (Xe (G aa ab ac) Z (Xa (Xv ag44 sz44 cL (Ad ad 0) [vs r10.Id, vi r10.Shape.Kind, G ae ai aj, G ak al am] Z Z (cw.cells (off := 00) Z)) ?_));have cy := (an.sw ((cd.swm (ao.swm ((a1.sw (ez.so _ a0 (X2 bl)) 1 0 Z Z Z a2).sn ar) 1 Z cc) 1 Z ay).sos ag au) 2 1 Z Z Z ah);have cz := av.gv cy 2 Z;have a5 := av.drop 2 Z;have c0 := (av.sd (an.sw ct 0 1 Z Z Z ah) 0 2 Z Z Z);have c1 := a5.gv c0 0 Z;have a6 := a5.drop 0 Z;have a7 := cd.stm ay;have a8 := a3.stos ag au;have a9 := an.stw 1 Z ah;have ba := av.std 2 Z;have aw := a5.std 0 Z;have c2 := ((((((((((cj.st bm).st bn).st bo).st e4).st bp).st a7).st a8).st a9).st ba).st aw);refine Xs go89 (F127.calls H a6.ok c2 ey (cz.st aw) c1) Z ?_;rintro _ br ⟨r14, bb, bs, bt, rfl, H, bc, c3, bu, c5⟩;have bd : Ct [some b] w0 br [bk bb, some ad, bk af] O := a6.owns bc c3 bu;refine Xf (G bb bs bt) Z (Xb (Xd (Xe (vi i2) Z ?_)));obtain ⟨c6, H⟩ := H;refine Xa (Yz i2 1 Z Z c6) (Xf (vi (i2 - 1)) Z (Xb ?_));have be := bd.drop 1 Z;have bf := be.drop 1 Z;have c7 := (be.sd (bd.sd c5 0 1 Z Z Z) 0 1 Z Z Z);have c8 := bf.gv c7 0 Z;have da : Ct [some b] w0 br [] O := bf.drop 0 Z;obtain ⟨db, dc⟩ := H;have bv := a6.stos bc bu;have bw := bd.std 1 Z;have bx := be.std 1 Z;have bz := bf.std 0 Z;have dd := ((((((((((((((((((b1.st ax).st bj).st bg).st ca).st bm).st bn).st bo).st e4).st bp).st a7).st a8).st a9).st ba).st aw).st bv).st bw).st bx).st bz);have de := ((((((((((cl.st bp).st a7).st a8).st a9).st ba).st aw).st bv).st bw).st bx).st bz);have df := ((an.bmo (e6.k0 ag) 1 Z ah).k0 bc);exact ⟨(r14, bb, bs, bt, i2 - 1, m7), dc, db, (Xz Z), da, dd, c8, de, df⟩
   have dg := b5.stos ck ex;have bm := e1.stown _ a0 (X2 bl);have bn := a1.stw 0 Z a2;have bo := e3.stn ar;have dh := ((((((b9.st bg).st ca).st dg).st bm).st bn).st bo);have cl := ((a1.bmo ((ep.k0 ck).k0 a0) 0 Z a2).k0 ar);refine Xs go101 (F124.calls H ao.ok dh cl (List.mem_append_right _ hm)) Z ?_;rintro _ gt ⟨r11, m6, rfl, H, bh, gu, gw⟩;have az := ao.wm bh;have dw := Gm.tq cb bh (hv_mem 0 Z);refine Xb ⟨dw, ?_⟩;refine Y6 1 5 RK Z Z ?_ ?_
   ·have gx := (ao.bwm (e2.k0 ar) 0 Z bh);refine Xa (Xm ag42 cL (Ad ad 3) (G af ap aq) Z (gx.cell Z)) ?_;refine Xb ⟨dw, ?_⟩;refine X3 5 RK Z ?_;have bp := ao.stm bh;refine Xs go102 (F125.calls H az.ok (dh.st bp) gu (List.mem_append_right _ hm)) Z ?_;rintro _ e5 ⟨r12, m7, rfl, H, ay, e6, e7⟩;have a3 := az.wm ay;have cm := Gm.tq dw ay (hv_mem 0 Z);refine Xb ⟨cm, ?_⟩;refine X3 6 RK Z ?_;have cn := (az.swm (ao.swm ((a1.sw (e0.so _ a0 (X2 bl)) 2 0 Z Z Z a2).sn ar) 2 Z bh) 2 Z ay);have co := a3.gv cn 2 Z;have cp := a3.drop 2 Z;refine Xs go100 (F126.calls H cp.ok co gw e7) Z ?_;rintro _ gs ⟨r13, ak, al, am, rfl, H, ag, cq, au, cr⟩;have cs := Ok.unl (L := [some ad, bk ae, bk af]) (L' := [some ad, bk ae]) (O := O) a3 ag cq au;have ct := Ow.unl (L := [some ad, bk ae, bk af]) (L' := [some ad, bk ae]) (O := O) (fun _ _ _ _ _ _ h => h) (.cons_cons _ (.cons_cons _ (.cons _ (.slnil)))) cr;have an := a3.owns ag cs au;have a4 := Gm.tm cm ag;refine Xb ⟨a4, ?_⟩;refine Xu 7 Z RK a4 (Xj fa44_2 (Ad ad 0) (Ad ad 3) Z Z) ?_;refine X3 8 RK Z ?_;have cu := ((az.bwm gx 0 Z ay).k0 ag);refine Ys 3 [G ak al am] [vs r10.Id, vi r10.Shape.Kind, G ae ai aj, G ak al am] cu Z Z sz42 Z Z Z fun cv ah cw => ?_;have av := an.wr 1 Z ah;have cx := Gm.tq a4 ah (hv_mem 1 Z);refine Xb ⟨cx, ?_⟩;refine Yq RK ?_;refine Xd (Xe (G aa ab ac) Z (Xa (Xv ag44 sz44 cL (Ad ad 0) [vs r10.Id, vi r10.Shape.Kind, G ae ai aj, G ak al am] Z Z (cw.cells (off := 00) Z)) ?_));have cy := (an.sw ((az.swm (ao.swm ((a1.sw (ez.so _ a0 (X2 bl)) 1 0 Z Z Z a2).sn ar) 1 Z bh) 1 Z ay).sos ag au) 2 1 Z Z Z ah);have cz := av.gv cy 2 Z;have a5 := av.drop 2 Z;have c0 := (av.sd (an.sw ct 0 1 Z Z Z ah) 0 2 Z Z Z);have c1 := a5.gv c0 0 Z;have a6 := a5.drop 0 Z;have a7 := az.stm ay;have a8 := a3.stos ag au;have a9 := an.stw 1 Z ah;have ba := av.std 2 Z;have aw := a5.std 0 Z;have c2 := ((((((((((cj.st dg).st bm).st bn).st bo).st bp).st a7).st a8).st a9).st ba).st aw);refine Xs go89 (F127.calls H a6.ok c2 ey (cz.st aw) c1) Z ?_;rintro _ br ⟨r14, bb, bs, bt, rfl, H, bc, c3, bu, c5⟩;have bd : Ct [some b] w0 br [bk bb, some ad, bk af] O := a6.owns bc c3 bu;refine Xf (G bb bs bt) Z (Xb (Xd (Xe (vi i2) Z ?_)));obtain ⟨c6, H⟩ := H;refine Xa (Yz i2 1 Z Z c6) (Xf (vi (i2 - 1)) Z (Xb ?_));have be := bd.drop 1 Z;have bf := be.drop 1 Z;have c7 := (be.sd (bd.sd c5 0 1 Z Z Z) 0 1 Z Z Z);have c8 := bf.gv c7 0 Z;have da : Ct [some b] w0 br [] O := bf.drop 0 Z;obtain ⟨db, dc⟩ := H;have bv := a6.stos bc bu;have bw := bd.std 1 Z;have bx := be.std 1 Z;have bz := bf.std 0 Z;have dd := ((((((((((((((((((b1.st ax).st bj).st bg).st ca).st dg).st bm).st bn).st bo).st bp).st a7).st a8).st a9).st ba).st aw).st bv).st bw).st bx).st bz);have de := ((((((((((dh.st bp).st a7).st a8).st a9).st ba).st aw).st bv).st bw).st bx).st bz);have df := ((an.bmo (e6.k0 ag) 1 Z ah).k0 bc);exact ⟨(r14, bb, bs, bt, i2 - 1, m7), dc, db, (Xz Z), da, dd, c8, de, df⟩
   have dx := ao.stm bh;refine Xs go102 (F125.calls H az.ok (dh.st dx) gu (List.mem_append_right _ hm)) Z ?_;rintro _ iy ⟨r12, m7, rfl, H, ce, iz, i0⟩;have di := az.wm ce;have e8 := Gm.tq dw ce (hv_mem 0 Z);refine Xb ⟨e8, ?_⟩;refine X3 1 RK Z ?_;have gy := (az.bwm (ao.bwm (e2.k0 ar) 0 Z bh) 0 Z ce);refine Xa (Xm ag42 cL (Ad ad 3) (G af ap aq) Z (gy.cell Z)) ?_;refine Xb ⟨e8, ?_⟩;refine X3 6 RK Z ?_;have cn := (az.swm (ao.swm ((a1.sw (e0.so _ a0 (X2 bl)) 2 0 Z Z Z a2).sn ar) 2 Z bh) 2 Z ce);have co := di.gv cn 2 Z;have cp := di.drop 2 Z;refine Xs go100 (F126.calls H cp.ok co gw i0) Z ?_;rintro _ gs ⟨r13, ak, al, am, rfl, H, ag, cq, au, cr⟩;have cs := Ok.unl (L := [some ad, bk ae, bk af]) (L' := [some ad, bk ae]) (O := O) di ag cq au;have ct := Ow.unl (L := [some ad, bk ae, bk af]) (L' := [some ad, bk ae]) (O := O) (fun _ _ _ _ _ _ h => h) (.cons_cons _ (.cons_cons _ (.cons _ (.slnil)))) cr;have an := di.owns ag cs au;have a4 := Gm.tm e8 ag;refine Xb ⟨a4, ?_⟩;refine Xu 7 Z RK a4 (Xj fa44_2 (Ad ad 0) (Ad ad 3) Z Z) ?_;refine X3 8 RK Z ?_;have cu := (gy.k0 ag);refine Ys 3 [G ak al am] [vs r10.Id, vi r10.Shape.Kind, G ae ai aj, G ak al am] cu Z Z sz42 Z Z Z fun cv ah cw => ?_;have av := an.wr 1 Z ah;have cx := Gm.tq a4 ah (hv_mem 1 Z);refine Xb ⟨cx, ?_⟩;refine Yq RK ?_;refine Xd (Xe (G aa ab ac) Z (Xa (Xv ag44 sz44 cL (Ad ad 0) [vs r10.Id, vi r10.Shape.Kind, G ae ai aj, G ak al am] Z Z (cw.cells (off := 00) Z)) ?_));have cy := (an.sw ((az.swm (ao.swm ((a1.sw (ez.so _ a0 (X2 bl)) 1 0 Z Z Z a2).sn ar) 1 Z bh) 1 Z ce).sos ag au) 2 1 Z Z Z ah);have cz := av.gv cy 2 Z;have a5 := av.drop 2 Z;have c0 := (av.sd (an.sw ct 0 1 Z Z Z ah) 0 2 Z Z Z);have c1 := a5.gv c0 0 Z;have a6 := a5.drop 0 Z;have a7 := az.stm ce;have a8 := di.stos ag au;have a9 := an.stw 1 Z ah;have ba := av.std 2 Z;have aw := a5.std 0 Z;have c2 := ((((((((((cj.st dg).st bm).st bn).st bo).st dx).st a7).st a8).st a9).st ba).st aw);refine Xs go89 (F127.calls H a6.ok c2 ey (cz.st aw) c1) Z ?_;rintro _ br ⟨r14, bb, bs, bt, rfl, H, bc, c3, bu, c5⟩;have bd : Ct [some b] w0 br [bk bb, some ad, bk af] O := a6.owns bc c3 bu;refine Xf (G bb bs bt) Z (Xb (Xd (Xe (vi i2) Z ?_)));obtain ⟨c6, H⟩ := H;refine Xa (Yz i2 1 Z Z c6) (Xf (vi (i2 - 1)) Z (Xb ?_));have be := bd.drop 1 Z;have bf := be.drop 1 Z;have c7 := (be.sd (bd.sd c5 0 1 Z Z Z) 0 1 Z Z Z);have c8 := bf.gv c7 0 Z;have da : Ct [some b] w0 br [] O := bf.drop 0 Z;obtain ⟨db, dc⟩ := H;have bv := a6.stos bc bu;have bw := bd.std 1 Z;have bx := be.std 1 Z;have bz := bf.std 0 Z;have dd := ((((((((((((((((((b1.st ax).st bj).st bg).st ca).st dg).st bm).st bn).st bo).st dx).st a7).st a8).st a9).st ba).st aw).st bv).st bw).st bx).st bz);have de := ((((((((((dh.st dx).st a7).st a8).st a9).st ba).st aw).st bv).st bw).st bx).st bz);have df := ((an.bmo (iz.k0 ag) 1 Z ah).k0 bc);exact ⟨(r14, bb, bs, bt, i2 - 1, m7), dc, db, (Xz Z), da, dd, c8, de, df⟩
  have H := Xo H eq;refine Xc (Xd (Xe (G aa ab ac) Z (Xe (vi r4) Z ?_)));obtain ⟨gz, H⟩ := H;have e9 := b4.stm eo;have fa := ((((b2.st ax).st bj).st bg).st e9);obtain ⟨g0, ke, i1, kf, i3, i4⟩ := fa.get default RD r4 gz;obtain ⟨fb, fc, fd, fe, ff, fg, rfl, i5, i6, i7⟩ := kFeat.op i3;refine Xa (X5 u33_ Y1 aa g0 ab ac fa.len r4 Z i1 Z gz) (Xa (Xv ag44 sz44 cL (g0.add (r4.toNat * 4)) [vs ((nth out2 r4).Id), vi ((nth out2 r4).Shape.Kind), G fb fc fd, G fe ff fg] Z Z i4) ?_);refine Xs go64 (F84.calls H b5.ok i5 i6 i7) Z ?_;rintro _ kg ⟨r15, cf, cg, ch, b6, b7, b8, rfl, H, fh, i8, g2, i9, ja, jb⟩;have g3 := b5.owns fh i8 g2;refine Yk [vs [], .int .i64 0, G none 0 0, G none 0 0] ze44 fun kh bi dy hu351 dj jc => ?_;have dk := g3.own dj (some bi) (Yj dy hu351);refine Yd [vs r15.Id, vi r15.Shape.Kind, G cf cg ch, G b6 b7 b8] jc Z Z sz44 Z Z fun jd dl g4 => ?_;have dz := dk.wr 0 Z dl;refine Xb (Xc (Xd (Xe (Pz b) Z (Xa (Xj fa44_1 (Ad bi 0) (Ad bi 1) Z Z) (Xa (Xv ag41 sz41 cL (Ad bi 1) [vi r15.Shape.Kind, G cf cg ch] Z Z (g4.cells (off := 1) Z)) ?_)))));have je := (dk.sw (ja.so _ dj (X2 dy)) 1 0 Z Z Z dl);have jf := dz.gv je 1 Z;have dm := dz.drop 1 Z;have fi := b5.stos fh g2;have fj := g3.stown _ dj (X2 dy);have fk := dk.stw 0 Z dl;have fl := dz.std 1 Z;have g5 := ((((((b9.st bg).st e9).st fi).st fj).st fk).st fl);have jg := (dk.bmo ((ep.k0 fh).k0 dj) 0 Z dl);refine Xs go103 (F85.calls H dm.ok g5 jg (List.mem_append_right _ hm) jf) Z ?_;rintro _ ki ⟨r16, m8, dn, dp, dq, rfl, H, d0, jh, ji⟩;have d1 := dm.wm d0;refine Xa (Xj fa44_1 (Ad bi 0) (Ad bi 1) Z Z) ?_;have jj := (dm.bwm g4 0 Z d0);refine Ys 1 [vi r16.Kind, G dn dp dq] [vs r15.Id, vi r16.Kind, G dn dp dq, G b6 b7 b8] jj Z Z sz41 Z Z Z fun jk d2 jl => ?_;have fm := d1.wr 0 Z d2;refine Xb (Xd (Xe (G aa ab ac) Z (Xa (Xv ag44 sz44 cL (Ad bi 0) [vs r15.Id, vi r16.Kind, G dn dp dq, G b6 b7 b8] Z Z (jl.cells (off := 00) Z)) ?_)));have jm := (d1.sw (dm.swm (dz.sd (dk.sw (jb.so _ dj (X2 dy)) 2 0 Z Z Z dl) 2 1 Z Z Z) 1 Z d0) 1 0 Z Z Z d2);have jn := fm.gv jm 1 Z;have fn := fm.drop 1 Z;have fo := dm.stm d0;have d3 := d1.stw 0 Z d2;have d4 := fm.std 1 Z;have jo := (((((((fa.st fi).st fj).st fk).st fl).st fo).st d3).st d4);have jp := ((ji.st d3).st d4);refine Xs go89 (F127.calls H fn.ok jo i9 jp jn) Z ?_;rintro _ jq ⟨r17, fp, g6, g7, rfl, H, fq, jr, g8, js⟩;have fr : Ct [some b] w0 jq [bk fp, some bi] O := fn.owns fq jr g8;refine Xf (G fp g6 g7) Z (Xb (Xd (Xe (vi i2) Z ?_)));obtain ⟨jt, H⟩ := H;refine Xa (Yz i2 1 Z Z jt) (Xf (vi (i2 - 1)) Z (Xb ?_));have fs := fr.drop 1 Z;have ju := (fr.sd js 0 1 Z Z Z);have jv := fs.gv ju 0 Z;have jw := fs.drop 0 Z;obtain ⟨jx, jy⟩ := H;have g9 := fn.stos fq g8;have ha := fr.std 1 Z;have hb := fs.std 0 Z;have jz := ((((((((((((((b1.st ax).st bj).st bg).st e9).st fi).st fj).st fk).st fl).st fo).st d3).st d4).st g9).st ha).st hb);have j0 := ((((((g5.st fo).st d3).st d4).st g9).st ha).st hb);have j1 := ((d1.bmo jh 0 Z d2).k0 fq);exact ⟨(r17, fp, g6, g7, i2 - 1, m8), jy, jx, (Xz Z), jw, jz, jv, j0, j1⟩
 have H := Xo H d8;refine Yh (xin_hit ?_);refine Xc (Xc (Xd (Xe (G aa ab ac) Z ?_)));refine Xs go22 (F72.calls H b0.ok b2) Z ?_;rintro _ kj ⟨r18, rfl, H, dr⟩;have hc := b0.k0 dr;refine Xa (X7 r18 Z) (Xb ?_);refine Xy (!r18) Z (fun ft => ?_) (fun ft => ?_)
 ·have H := Xn H ft;refine Xc (Xd (Xe (G A7 n8 c9) Z (Xf (G A7 n8 c9) Z (Xb (Xl ?_)))));have j2 := b0.stn dr;have j3 := (d7.k0 dr);exact ⟨[G A7 n8 c9], ⟨_, Z, Z⟩, s, z2, A7, n8, c9, Z, H, hc.gr.g1, j3, (b1.st j2)⟩
 have H := Xo H ft;refine Xx (Xc (Xd (Xe (G aa ab ac) Z (Xf (G aa ab ac) Z (Xb (Xl ?_))))));have j4 := b0.stn dr;have j5 := (d7.k0 dr);exact ⟨[G aa ab ac], ⟨_, Z, Z⟩, out2, z2, aa, ab, ac, Z, H, hc.gr.g1, j5, (b2.st j4)⟩
def F29.E (code : List UInt8) (Q : List Feat → List Feat → Prop) : Prop :=
 F68.E code (fun r_b r_p => F107.E r_b r_p (fun r m => F72.E r (fun r2 => (if !r2 then F107.E r_b m (fun r3 m2 => Q r r3) else F22.E r_b m 4 (fun r4 m3 => (if r4 == 0 then F107.E r_b m3 (fun r5 m4 => Q r r5) else F89.E r_b m3 r (fun r6 m5 => Q r r6)))))))
theorem F29.calls {code : List UInt8} {A1 : Option Addr} {n2 c3 : Nat} {Q : List Feat → List Feat → Prop} (H : F29.E code Q) (hO : Ok w0 O) (hp4 : Sl Kd.byte w0 (Fr O) (G A1 n2 c3) code) :
  Ret Tryz.prog 19 [G A1 n2 c3] w0 (fun v w' => ∃ (r0 r1 : List Feat) (Aw0 : Option Addr) (nw0 cw0 : Nat) (Aw2 : Option Addr) (nw2 cw2 : Nat), v = .tuple #[G Aw0 nw0 cw0, G Aw2 nw2 cw2] ∧ Q r0 r1 ∧ Gr w0 w' none ∧ Sl kFeat w' (Fr O) (G Aw0 nw0 cw0) r0 ∧ Sl kFeat w' (Fr O) (G Aw2 nw2 cw2) r1) := by
 unfold F29.E at H;have hc0 := Ct.init hO;refine X9 Tryz.func19 Z 25 Z [.tmp 2, .tmp 3] Z Z ?_;refine Xc (Xd (Xf (G none 0 0) Z (Xf (G none 0 0) Z (Xb (Xc (Xd (Xe (G A1 n2 c3) Z ?_)))))));refine Xs go40 (F68.calls H hc0.ok hp4) Z ?_;rintro _ w6 ⟨r_b, r_p, b8, ah, ai, aj, rfl, H, g7, bq, br, hx9, ao⟩;have am := hc0.owns g7 bq br;refine Xf (Pz b8) Z (Xb (Xc (Xd (Xe (Pz b8) Z ?_))));refine Xs go58 (F107.calls H am.ok ao hx9 (mem_app 0 Z)) Z ?_;rintro _ bs ⟨r, m, aa, ab, ac, rfl, H, ap, a9, bt, aq, an⟩;have ak := am.ownw (j := 0) Z ap bt aq;refine Xf (G aa ab ac) Z (Xb (Xc (Xc (Xd (Xe (G aa ab ac) Z ?_)))));have bu := ak.gv an 0 Z;have bv := ak.drop 0 Z;refine Xs go22 (F72.calls H bv.ok bu) Z ?_;rintro _ ba ⟨r2, rfl, H, af⟩;have ae := ak.k0 af;refine Xa (X7 r2 Z) (Xe (vb (!r2)) Z ?_);rcases X4 (!r2) with ad | ad
 ·have H := Xn H ad;refine Xi ad Z (Xi ad Z (Xi ad Z (Xa (Xk true (vb true) ad Z) (Xb (Yu (b := true) Z Z ?_)))));refine Xc (Xd (Xe (G aa ab ac) Z (Xe (Pz b8) Z ?_)));have bw := am.stow 0 Z ap aq;have bx := ak.stn af;have bz := ((ao.st bw).st bx);have b0 := (a9.k0 af);refine Xs go58 (F107.calls H ae.ok bz b0 (mem_app 1 Z)) Z ?_;rintro _ b1 ⟨r3, m2, ar, au, av, rfl, H, bb, cz, b2, bc, b3⟩;have aw := ae.ownw (j := 1) Z bb b2 bc;refine Xf (G aa ab ac) Z (Xf (G ar au av) Z (Xb (Xl ?_)));have b4 := (ae.sow (an.sn af) 0 1 Z Z Z bb bc);have b5 := aw.gv b4 1 Z;have ax := aw.drop 1 Z;have b6 := (aw.sd b3 0 1 Z Z Z);have b7 := ax.gv b6 0 Z;have bd := ax.drop 0 Z;have b9 : Ct [] w0 b1 [] O := bd.drop 0 Z;have ca := ax.std 0 Z;have be := bd.std 0 Z;have cb := ((b5.st ca).st be);exact ⟨[G aa ab ac, G ar au av], ⟨_, Z, ⟨_, Z, Z⟩⟩, r, r3, aa, ab, ac, ar, au, av, Z, H, b9.gr.g0, cb, (b7.st be)⟩
 have H := Xo H ad;refine Xh ad Z (Xe (Pz b8) Z (Xh ad Z ?_));have cc := am.stow 0 Z ap aq;have cd := ak.stn af;have ay := ((ao.st cc).st cd);have ce := (a9.k0 af);refine Xs go47 (F22.calls H ae.ok ay ce (mem_app 1 Z)) Z ?_;rintro _ bf ⟨r4, m3, rfl, H, al, bg⟩;have ag := ae.wr 1 Z al;refine Xh ad Z (Xa (X1 r4 0 (r4 == 0) Z Z Z) (Xa (Xk false (vb (r4 == 0)) ad Z) (Xb ?_)));refine Xy (r4 == 0) Z (fun az => ?_) (fun az => ?_)
 ·have H := Xn H az;refine Xc (Xd (Xe (G aa ab ac) Z (Xe (Pz b8) Z ?_)));have cf := ae.stw 1 Z al;refine Xs go58 (F107.calls H ag.ok (ay.st cf) bg (mem_app 1 Z)) Z ?_;rintro _ cg ⟨r5, m4, a0, a1, a2, rfl, H, bh, c0, ch, bi, ci⟩;have a3 := ag.ownw (j := 1) Z bh ch bi;refine Xf (G aa ab ac) Z (Xf (G a0 a1 a2) Z (Xb (Xl ?_)));have cj := (ag.sow (ae.sw (an.sn af) 0 1 Z Z Z al) 0 1 Z Z Z bh bi);have ck := a3.gv cj 1 Z;have a4 := a3.drop 1 Z;have cl := (a3.sd ci 0 1 Z Z Z);have cm := a4.gv cl 0 Z;have bj := a4.drop 0 Z;have cn : Ct [] w0 cg [] O := bj.drop 0 Z;have co := a4.std 0 Z;have bl := bj.std 0 Z;have cp := ((ck.st co).st bl);exact ⟨[G aa ab ac, G a0 a1 a2], ⟨_, Z, ⟨_, Z, Z⟩⟩, r, r5, aa, ab, ac, a0, a1, a2, Z, H, cn.gr.g0, cp, (cm.st bl)⟩
 have H := Xo H az;refine Xx (Xc (Xd (Xe (G aa ab ac) Z (Xe (Pz b8) Z (Xe (G aa ab ac) Z ?_)))));have cq := (ae.sw (an.sn af) 0 1 Z Z Z al);have bm := ag.gv cq 0 Z;have a5 := ag.drop 0 Z;have cr := ae.stw 1 Z al;have cs := ag.std 0 Z;have ct := ((ay.st cr).st cs);have cu := bg;refine Xs go49 (F89.calls H a5.ok ct cu (mem_app 0 Z) bm) Z ?_;rintro _ c1 ⟨r6, m5, a6, a7, a8, rfl, H, bn, c2, cv⟩;have bo := a5.wr 0 Z bn;refine Xf (G aa ab ac) Z (Xf (G a6 a7 a8) Z (Xb (Xl ?_)));have cw := bo.drop 0 Z;have cx := a5.stw 0 Z bn;have bp := bo.std 0 Z;have cy := ((bm.st cx).st bp);exact ⟨[G aa ab ac, G a6 a7 a8], ⟨_, Z, ⟨_, Z, Z⟩⟩, r, r6, aa, ab, ac, a6, a7, a8, Z, H, cw.gr.g0, cy, (cv.st bp)⟩
def F96.E (n low high : Int) (Q : Bool → Prop) : Prop :=
 (if decide (n ≥ low) then Q (decide (n ≤ high)) else Q false)
theorem F96.calls {n : Int} {low : Int} {high : Int} {Q : Bool → Prop} (H : F96.E n low high Q) (hO : Ok w0 O) :
  Ret Tryz.prog 106 [vi n, vi low, vi high] w0 (fun v w' => ∃ (r0 : Bool), v = vb r0 ∧ Q r0 ∧ Gr w0 w' none ∧ w' = w0) := by
 unfold F96.E at H;have hc0 := Ct.init hO;refine X9 Tryz.func106 Z 15 Z [.tmp 6] Z Z ?_;refine Xc (Xd (Xf (vb false) Z (Xb (Xc (Xd (Xe (vi n) Z (Xe (vi low) Z (Xa (X1 n low (decide (n ≥ low)) Z Z Z) ?_))))))));refine Xe (vb (decide (n ≥ low))) Z ?_;rcases X4 (decide (n ≥ low)) with hq1 | hq1
 ·have H := Xn H hq1;refine Xh hq1 Z (Xe (vi n) Z (Xh hq1 Z (Xe (vi high) Z (Xh hq1 Z (Xa (X1 n high (decide (n ≤ high)) Z Z Z) (Xa (Xk true (vb (decide (n ≤ high))) hq1 Z) (Xf (vb (decide (n ≤ high))) Z (Xb ?_))))))));exact Xl ⟨[vb (decide (n ≤ high))], ⟨_, Z, Z⟩, decide (n ≤ high), Z, H, hc0.gr.g0, Z⟩
 have H := Xo H hq1;exact Xi hq1 Z (Xi hq1 Z (Xi hq1 Z (Xa (Xk false (vb false) hq1 Z) (Xf (vb false) Z (Xb (Xl ⟨[vb false], ⟨_, Z, Z⟩, false, Z, H, hc0.gr.g0, Z⟩))))))
def F96.m (n low high : Int) : Bool := (if decide (n ≥ low) then (decide (n ≤ high)) else false)
theorem F96.fn (n low high : Int) : F96.E n low high (fun r => r = F96.m n low high) := by
 unfold F96.E F96.m;(repeat' split) <;> simp_all
def F97.E (s : Str) (Q : Bool → Prop) : Prop :=
 (∃ (I9 : Int → Prop) (mu10 : Int → Nat), I9 0 ∧ ∀ (v2 : Int), I9 v2 → (if decide (v2 < (s.length : Int)) then ((0 : Int) ≤ v2 ∧ v2 < (s.length : Int)) ∧ (if decide (((nth s v2).toNat : Int) < 97) then Q false else ((0 : Int) ≤ v2 ∧ v2 < (s.length : Int)) ∧ (if decide (((nth s v2).toNat : Int) > 122) then Q false else (I64 (v2 + 1)) ∧ I9 (v2 + 1) ∧ mu10 (v2 + 1) < mu10 v2)) else F96.E (s.length : Int) 1 6 (fun r => Q r)))
theorem F97.calls {s : Str} {Q : Bool → Prop} (H : F97.E s Q) (hO : Ok w0 O) (hs1 : Lim s) :
  Ret Tryz.prog 51 [vs s] w0 (fun v w' => ∃ (r0 : Bool), v = vb r0 ∧ Q r0 ∧ Gr w0 w' none) := by
 unfold F97.E at H;have hc0 := Ct.init hO;refine X9 Tryz.func51 Z 23 Z [.tmp 2] Z Z ?_;refine Xc (Xd (Xf (vb false) Z (Xb (Xc (Xc (Xd (Xe (vs s) Z ?_)))))));have hl2 := hs1;refine Xa (Zm u9_ s Z) (Xe (vi 0) Z (Xb (X6 ?_)));obtain ⟨I9, ae, ab, H⟩ := H;refine Yi (α := Int) (fun (sv__ : Int) t w7 => match sv__ with | v2 => I9 v2 ∧ Has t [(0, vs s), (5, vi (s.length : Int)), (6, vi v2)] ∧ Ct [] w0 w7 [] O) (fun (sv__ : Int) => match sv__ with | v2 => ae v2) 0 ⟨ab, (Xz Z), hc0⟩ ?_;rintro v2 _ w7 ⟨ab, af, hc8⟩;obtain ⟨an, rfl⟩ := Has.ins af;have H := H v2 ab;refine Xc (Xd (Xa (X1 v2 (s.length : Int) (decide (v2 < (s.length : Int))) Z Z Z) (Xb (Xc ?_))));refine Xy (decide (v2 < (s.length : Int))) Z (fun ac => ?_) (fun ac => ?_)
 ·have H := Xn H ac;refine Xx (Xc (X6 (Xc (Xd (Xe (vi v2) Z (Xf (vi v2) Z (Xb (Xc ?_))))))));refine Xd (Xe (vs s) Z (Xe (vi v2) Z ?_));obtain ⟨ag, H⟩ := H;refine Xa (Zq u9_ s v2 Z Z ag) (Xa (X1 ((nth s v2).toNat : Int) 97 (decide (((nth s v2).toNat : Int) < 97)) Z Z Z) (Xe (vb (decide (((nth s v2).toNat : Int) < 97))) Z ?_));rcases X4 (decide (((nth s v2).toNat : Int) < 97)) with aa | aa
  ·have H := Xn H aa;refine Xi aa Z (Xi aa Z (Xi aa Z (Xi aa Z (Xa (Xk true (vb true) aa Z) (Xb (Yu (b := true) Z Z ?_))))));exact Xc (Xd (Xf (vb false) Z (Xb (Xl ⟨[vb false], ⟨_, Z, Z⟩, false, Z, H, hc8.gr.g0⟩))))
  have H := Xo H aa;refine Xh aa Z (Xe (vs s) Z (Xh aa Z (Xe (vi v2) Z (Xh aa Z ?_))));obtain ⟨ah, H⟩ := H;refine Xa (Zq u9_ s v2 Z Z ah) (Xh aa Z (Xa (X1 ((nth s v2).toNat : Int) 122 (decide (((nth s v2).toNat : Int) > 122)) Z Z Z) (Xa (Yt false (vb (decide (((nth s v2).toNat : Int) > 122))) (by exact congrArg Value.bool aa) Z) (Xb ?_))));refine Xy (decide (((nth s v2).toNat : Int) > 122)) Z (fun ad => ?_) (fun ad => ?_)
  ·have H := Xn H ad;exact Xc (Xd (Xf (vb false) Z (Xb (Xl ⟨[vb false], ⟨_, Z, Z⟩, false, Z, H, hc8.gr.g0⟩))))
  have H := Xo H ad;refine Xx (Xd ?_);obtain ⟨ai, H⟩ := H;refine Xa (Yb v2 1 Z Z ai) (Xe (vi (v2 + 1)) Z (Xb ?_));obtain ⟨aj, ak⟩ := H;exact ⟨v2 + 1, ak, aj, (Xz Z), hc8⟩
 have H := Xo H ac;refine Yh (xin_hit ?_);refine Xc (Xd (Xe (vs s) Z ?_));have ao := hs1;refine Xa (Zm u9_ s Z) ?_;refine Xs go106 (F96.calls H hc8.ok) Z ?_;rintro _ ap ⟨r, rfl, H, al, _⟩;have am := hc8.k0 al;exact Xf (vb r) Z (Xb (Xl ⟨[vb r], ⟨_, Z, Z⟩, r, Z, H, am.gr.g0⟩))
def F140.E (p : Pt) (Q : Bool → Prop) : Prop :=
 F96.E p.X (-1000) 1000 (fun r => (if r then F96.E p.Y (-1000) 1000 (fun r2 => Q r2) else Q false))
theorem F140.calls {p : Pt} {Q : Bool → Prop} (H : F140.E p Q) (hO : Ok w0 O) :
  Ret Tryz.prog 117 [.agg #[vi p.X, vi p.Y]] w0 (fun v w' => ∃ (r0 : Bool), v = vb r0 ∧ Q r0 ∧ Gr w0 w' none) := by
 unfold F140.E at H;have hc0 := Ct.init hO;refine X9 Tryz.func117 Z 11 Z [.tmp 2] Z Z ?_;refine Xc (Xd (Yp [vi p.X, vi p.Y] Z fun w1 b2 hl4 hu5 g3 hx6 => ?_));have h8 := Fb.mk hc0.ok hl4 hx6;have hc9 := hc0.k0 g3;refine Xf (vb false) Z (Xb (Xc (Xd (Xa (Xj fa49_0 (Ad b2 0) (Ad b2 0) Z Z) (Xa (Xm ag3 cL (Ad b2 0) (vi p.X) Z (h8.cell Z)) ?_)))));refine Xs go106 (F96.calls H hc9.ok) Z ?_;rintro _ ad ⟨r, rfl, H, ac, _⟩;have ab := hc9.k0 ac;refine Xe (vb r) Z ?_;rcases X4 r with aa | aa
 ·have H := Xn H aa;refine Xh aa Z (Xa (Xj fa49_1 (Ad b2 0) (Ad b2 1) Z Z) (Xh aa Z ?_));have ae := hc9.stn ac;have af := (h8.st ae);refine Xa (Xm ag3 cL (Ad b2 1) (vi p.Y) Z (af.cell Z)) (Xh aa Z ?_);refine Xs go106 (F96.calls H ab.ok) Z ?_;rintro _ ai ⟨r2, rfl, H, ag, _⟩;have ah := ab.k0 ag;exact Xa (Xk true (vb r2) aa Z) (Xf (vb r2) Z (Xb (Xl ⟨[vb r2], ⟨_, Z, Z⟩, r2, Z, H, ah.gr.g0⟩)))
 have H := Xo H aa;exact Xi aa Z (Xi aa Z (Xi aa Z (Xa (Xk false (vb false) aa Z) (Xf (vb false) Z (Xb (Xl ⟨[vb false], ⟨_, Z, Z⟩, false, Z, H, ab.gr.g0⟩))))))
def F73.E (s : Shape) (Q : Bool → Prop) : Prop :=
 (∃ (I31 : Int → Prop) (mu32 : Int → Nat), I31 0 ∧ ∀ (v2 : Int), I31 v2 → (if decide (v2 < (s.Pts.length : Int)) then ((0 : Int) ≤ v2 ∧ v2 < (s.Pts.length : Int)) ∧ (∃ q : Bool, F140.E (nth s.Pts v2) (fun x => x = q) ∧ (if !q then Q false else (if decide (v2 > 0) then (I64 (v2 - 1)) ∧ ((0 : Int) ≤ v2 - 1 ∧ v2 - 1 < (s.Pts.length : Int)) ∧ (if eqPt (nth s.Pts (v2 - 1)) (nth s.Pts v2) then Q false else (I64 (v2 + 1)) ∧ I31 (v2 + 1) ∧ mu32 (v2 + 1) < mu32 v2) else (I64 (v2 + 1)) ∧ I31 (v2 + 1) ∧ mu32 (v2 + 1) < mu32 v2))) else (if s.Kind == 1 then Q ((s.Pts.length : Int) == 1) else (if s.Kind == 2 then F96.E (s.Pts.length : Int) 2 6 (fun r2 => Q r2) else (if s.Kind == 3 then (if (F96.m (s.Pts.length : Int) 3 6) then ((0 : Int) ≤ 0 ∧ 0 < (s.Pts.length : Int)) ∧ ((s.Pts.length : Int) ≤ 9223372036854775807 → I64 ((s.Pts.length : Int) - 1)) ∧ ((0 : Int) ≤ (s.Pts.length : Int) - 1 ∧ (s.Pts.length : Int) - 1 < (s.Pts.length : Int)) ∧ Q (!(eqPt (nth s.Pts 0) (nth s.Pts ((s.Pts.length : Int) - 1)))) else Q false) else Q false)))))
theorem F73.calls {s : Shape} {A1 : Option Addr} {n2 c3 : Nat} {Q : Bool → Prop} (H : F73.E s Q) (hO : Ok w0 O) (hp4 : Sl kPt w0 (Fr O) (G A1 n2 c3) s.Pts) :
  Ret Tryz.prog 68 [.agg #[vi s.Kind, G A1 n2 c3]] w0 (fun v w' => ∃ (r0 : Bool), v = vb r0 ∧ Q r0 ∧ Gr w0 w' none) := by
 unfold F73.E at H;have hc0 := Ct.init hO;refine X9 Tryz.func68 Z 62 Z [.tmp 2] Z Z ?_;refine Xc (Xd (Yp [vi s.Kind, G A1 n2 c3] Z fun w6 b7 hl9 hu10 g8 bl => ?_));have ay := Fb.mk hc0.ok hl9 bl;have ai := hc0.k0 g8;refine Xf (vb false) Z (Xb (Xc (Xc (Xd (Xa (Xj fa41_1 (Ad b7 0) (Ad b7 1) Z Z) (Xa (Xm ag39 cL (Ad b7 1) (G A1 n2 c3) Z (ay.cell Z)) ?_))))));have cw := (hp4.st ai.st).le;refine Xa (Ya u39_ A1 n2 c3 (hp4.st ai.st).len Z) (Xe (vi 0) Z (Xb (X6 ?_)));obtain ⟨bm, bn, ak, H⟩ := H;refine Yi (α := Int) (fun (sv__ : Int) t af => match sv__ with | v2 => bm v2 ∧ Has t [(1, Pz b7), (7, G A1 n2 c3), (8, vi (s.Pts.length : Int)), (9, vi v2)] ∧ Cw [] w0 af [] O fun M => Sl kPt af (Fr M) (G A1 n2 c3) s.Pts ∧ Fb af M b7 [vi s.Kind, G A1 n2 c3]) (fun (sv__ : Int) => match sv__ with | v2 => bn v2) 0 ⟨ak, (Xz Z), ai, (hp4.st ai.st), ay⟩ ?_;rintro v2 _ af ⟨ak, bo, ad, ae, ag⟩;obtain ⟨cx, rfl⟩ := Has.ins bo;have H := H v2 ak;refine Xc (Xd (Xa (X1 v2 (s.Pts.length : Int) (decide (v2 < (s.Pts.length : Int))) Z Z Z) (Xb (Xc ?_))));refine Xy (decide (v2 < (s.Pts.length : Int))) Z (fun al => ?_) (fun al => ?_)
 ·have H := Xn H al;refine Xx (Xc (X6 (Xc (Xd (Xe (vi v2) Z ?_)))));obtain ⟨az, H⟩ := H;obtain ⟨a0, cy, bp, cz, bq, br⟩ := ae.get default RD v2 az;obtain rfl := kPt.op bq;refine Xa (X5 u39_ Yv A1 a0 n2 c3 ae.len v2 Z bp Z az) (Xa (Xv ag49 sz49 cL (a0.add (v2.toNat * 2)) [vi ((nth s.Pts v2).X), vi ((nth s.Pts v2).Y)] Z Z br) (Yk [.int .i64 0, .int .i64 0] ze49 fun c0 aj am hu49 an bs => ?_));have ao := ad.own an (some aj) (Yj am hu49);refine Xf (vi v2) Z (Yd [vi ((nth s.Pts v2).X), vi ((nth s.Pts v2).Y)] bs Z Z sz49 Z Z fun bt ap a1 => ?_);have ah := ao.wr 0 Z ap;refine Xb (Xc (Yy (fun x => Gr bt x none) RK RK (Gr.drew _) ?_));refine Xg (Xv ag49 sz49 cQ (Ad aj 0) [vi ((nth s.Pts v2).X), vi ((nth s.Pts v2).Y)] Z Z (a1.cells (off := 00) Z)) ?_;obtain ⟨q, bu, H⟩ := H;refine Y0 go117 [.agg #[vi ((nth s.Pts v2).X), vi ((nth s.Pts v2).Y)]] Z (vb q) (fun w g => (F140.calls bu (ah.k0 g).ok).mono ?_) ?_
  ·rintro _ w ⟨r, rfl, rfl, g2⟩;exact ⟨Z, Gr.t0 g g2⟩
  refine Xg (X7 q Z) (Xw (vb (!q)) Z ?_);rcases X4 (!q) with ac | ac
  ·have H := Xn H ac;refine Xq ac Z (Xq ac Z (Xq ac Z (X0 Z (X0 Z (X0 Z (X0 Z (X0 Z (X0 Z ?_))))))));refine X0 Z (X0 Z (Xq ac Z (Xg (Xk true (vb true) ac Z) (Yc fun c1 bv => ?_))));have bw := ah.k0 bv;refine Yu (b := true) Z Z ?_;refine Xc (Xd (Xf (vb false) Z (Xb (Xl ?_))));have bx := bw.drop 0 Z;exact ⟨[vb false], ⟨_, Z, Z⟩, false, Z, H, bx.gr.g0⟩
  have H := Xo H ac;refine Xp ac Z (Xw (vi v2) Z (Xp ac Z (Xg (X1 v2 0 (decide (v2 > 0)) Z Z Z) (Xp ac Z (Xw (vb (decide (v2 > 0))) Z ?_)))));rcases X4 (decide (v2 > 0)) with ab | ab
  ·have H := Xn H ab;refine Xp ab Z (Xg (Xj fa41_1 (Ad b7 0) (Ad b7 1) Z Z) (Xp ab Z ?_));have a2 := ad.stown _ an (X2 am);have a3 := ao.stw 0 Z ap;have a4 := ((ag.st a2).st a3);refine Xg (Xm ag39 cQ (Ad b7 1) (G A1 n2 c3) Z (a4.cell Z)) (Xp ab Z (Xw (vi v2) Z (Xp ab Z ?_)));obtain ⟨bz, H⟩ := H;refine Xg (Yz v2 1 Z Z bz) (Xp ab Z ?_);obtain ⟨a5, H⟩ := H;have aq := ((ae.st a2).st a3);obtain ⟨a6, c2, b0, c4, b1, b2⟩ := aq.get default RD (v2 - 1) a5;obtain rfl := kPt.op b1;refine Xg (X5 u39_ Yv A1 a6 n2 c3 aq.len (v2 - 1) Z b0 Z a5) (Xp ab Z (Xg (Xv ag49 sz49 cQ (a6.add ((v2 - 1).toNat * 2)) [vi ((nth s.Pts (v2 - 1)).X), vi ((nth s.Pts (v2 - 1)).Y)] Z Z b2) (Xp ab Z (Xg (Xv ag49 sz49 cQ (Ad aj 0) [vi ((nth s.Pts v2).X), vi ((nth s.Pts v2).Y)] Z Z (a1.cells (off := 00) Z)) (Xp ab Z (Xg (Z0 _ _ (eqPt (nth s.Pts (v2 - 1)) (nth s.Pts v2)) (qt49 (nth s.Pts (v2 - 1)) (nth s.Pts v2)) Z Z) (Xp ac Z (Xg (Yt true (vb (eqPt (nth s.Pts (v2 - 1)) (nth s.Pts v2))) (by exact congrArg Value.bool ab) Z) ?_))))))));refine Xg (Yt false (vb (eqPt (nth s.Pts (v2 - 1)) (nth s.Pts v2))) (by exact congrArg Value.bool ac) Z) (Yc fun c5 a7 => ?_);have ar := ah.k0 a7;refine Xy (eqPt (nth s.Pts (v2 - 1)) (nth s.Pts v2)) Z (fun au => ?_) (fun au => ?_)
   ·have H := Xn H au;refine Xc (Xd (Xf (vb false) Z (Xb (Xl ?_))));have b3 := ar.drop 0 Z;exact ⟨[vb false], ⟨_, Z, Z⟩, false, Z, H, b3.gr.g0⟩
   have H := Xo H au;refine Xx (Xd ?_);obtain ⟨b4, H⟩ := H;refine Xa (Yb v2 1 Z Z b4) (Xe (vi (v2 + 1)) Z (Xb ?_));have b5 := ar.drop 0 Z;obtain ⟨b6, b8⟩ := H;have a8 := ah.stn a7;have a9 := ar.std 0 Z;have b9 := ((aq.st a8).st a9);have ca := ((a4.st a8).st a9);exact ⟨v2 + 1, b8, b6, (Xz Z), b5, b9, ca⟩
  have H := Xo H ab;refine Xq ab Z (Xq ab Z (Xq ab Z (Xq ab Z (Xq ab Z (Xq ab Z (Xq ab Z (Xq ab Z (Xp ac Z ?_))))))));refine Xg (Xk false (vb false) ab Z) (Xg (Xk false (vb false) ac Z) (Yc fun c6 ba => ?_));have bb := ah.k0 ba;refine Y2 (b := false) Z Z ?_;refine Xx (Xd ?_);obtain ⟨cb, H⟩ := H;refine Xa (Yb v2 1 Z Z cb) (Xe (vi (v2 + 1)) Z (Xb ?_));have cc := bb.drop 0 Z;obtain ⟨cd, ce⟩ := H;have bc := ad.stown _ an (X2 am);have bd := ao.stw 0 Z ap;have be := ah.stn ba;have bf := bb.std 0 Z;have cf := ((((ae.st bc).st bd).st be).st bf);have cg := ((((ag.st bc).st bd).st be).st bf);exact ⟨v2 + 1, ce, cd, (Xz Z), cc, cf, cg⟩
 have H := Xo H al;refine Yh (xin_hit ?_);refine Xc (Xd (Xa (Xj fa41_1 (Ad b7 0) (Ad b7 1) Z Z) (Xa (Xm ag39 cL (Ad b7 1) (G A1 n2 c3) Z (ag.cell Z)) ?_)));have ch := ae.le;refine Xa (Ya u39_ A1 n2 c3 ae.len Z) (Xf (vi (s.Pts.length : Int)) Z (Xb (Xc (Xc (Xd (Xa (Xj fa41_0 (Ad b7 0) (Ad b7 0) Z Z) (Xa (Xm ag3 cL (Ad b7 0) (vi s.Kind) Z (ag.cell Z)) (Xb ?_))))))));refine X6 (Xc (Xd (Xa (X1 s.Kind 1 (s.Kind == 1) Z Z Z) (Xf (vb (s.Kind == 1)) Z (Xb ?_)))));refine Xy (s.Kind == 1) Z (fun av => ?_) (fun av => ?_)
 ·have H := Xn H av;exact Xc (Xd (Xe (vi (s.Pts.length : Int)) Z (Xa (X1 (s.Pts.length : Int) 1 ((s.Pts.length : Int) == 1) Z Z Z) (Xf (vb ((s.Pts.length : Int) == 1)) Z (Xb (Xl ⟨[vb ((s.Pts.length : Int) == 1)], ⟨_, Z, Z⟩, (s.Pts.length : Int) == 1, Z, H, ad.gr.g0⟩))))))
 have H := Xo H av;refine Xc (Xd (Xa (X1 s.Kind 2 (s.Kind == 2) Z Z Z) (Xf (vb (s.Kind == 2)) Z (Xb ?_))));refine Xy (s.Kind == 2) Z (fun aw => ?_) (fun aw => ?_)
 ·have H := Xn H aw;refine Xc (Xd (Xe (vi (s.Pts.length : Int)) Z ?_));refine Xs go106 (F96.calls H ad.ok) Z ?_;rintro _ c7 ⟨r2, rfl, H, ci, _⟩;have cj := ad.k0 ci;exact Xf (vb r2) Z (Xb (Xl ⟨[vb r2], ⟨_, Z, Z⟩, r2, Z, H, cj.gr.g0⟩))
 have H := Xo H aw;refine Xc (Xd (Xa (X1 s.Kind 3 (s.Kind == 3) Z Z Z) (Xf (vb (s.Kind == 3)) Z (Xb ?_))));refine Xy (s.Kind == 3) Z (fun ax => ?_) (fun ax => ?_)
 ·have H := Xn H ax;refine Xc (Yy (fun x => Gr af x none) RK RK (Gr.drew _) ?_);refine Xw (vi (s.Pts.length : Int)) Z ?_;refine Y0 go106 [vi (s.Pts.length : Int), vi 3, vi 6] Z (vb (F96.m (s.Pts.length : Int) 3 6)) (fun w g => (F96.calls (F96.fn (s.Pts.length : Int) 3 6) (ad.k0 g).ok).mono ?_) ?_
  ·rintro _ w ⟨r, rfl, rfl, g2, _⟩;exact ⟨Z, Gr.t0 g g2⟩
  refine Xw (vb (F96.m (s.Pts.length : Int) 3 6)) Z ?_;rcases X4 (F96.m (s.Pts.length : Int) 3 6) with aa | aa
  ·have H := Xn H aa;refine Xp aa Z (Xg (Xj fa41_1 (Ad b7 0) (Ad b7 1) Z Z) (Xp aa Z (Xg (Xm ag39 cQ (Ad b7 1) (G A1 n2 c3) Z (ag.cell Z)) (Xp aa Z ?_))));obtain ⟨bg, H⟩ := H;obtain ⟨bh, c8, ck, c9, cl, cm⟩ := ae.get default RD 0 bg;obtain rfl := kPt.op cl;refine Xg (X5 u39_ Yv A1 bh n2 c3 ae.len 0 Z ck Z bg) (Xp aa Z (Xg (Xv ag49 sz49 cQ (bh.add ((0 : Int).toNat * 2)) [vi ((nth s.Pts 0).X), vi ((nth s.Pts 0).Y)] Z Z cm) (Xp aa Z (Xg (Xj fa41_1 (Ad b7 0) (Ad b7 1) Z Z) (Xp aa Z (Xg (Xm ag39 cQ (Ad b7 1) (G A1 n2 c3) Z (ag.cell Z)) (Xp aa Z (Xw (vi (s.Pts.length : Int)) Z ?_))))))));refine Xp aa Z ?_;obtain ⟨cn, H⟩ := H;have co := cn (len_le ch);refine Xg (Yz (s.Pts.length : Int) 1 Z Z co) (Xp aa Z ?_);obtain ⟨bi, H⟩ := H;obtain ⟨bj, da, cp, db, cq, cr⟩ := ae.get default RD ((s.Pts.length : Int) - 1) bi;obtain rfl := kPt.op cq;refine Xg (X5 u39_ Yv A1 bj n2 c3 ae.len ((s.Pts.length : Int) - 1) Z cp Z bi) (Xp aa Z (Xg (Xv ag49 sz49 cQ (bj.add (((s.Pts.length : Int) - 1).toNat * 2)) [vi ((nth s.Pts ((s.Pts.length : Int) - 1)).X), vi ((nth s.Pts ((s.Pts.length : Int) - 1)).Y)] Z Z cr) (Xp aa Z (Xg (Zg _ _ (eqPt (nth s.Pts 0) (nth s.Pts ((s.Pts.length : Int) - 1))) (qt49 (nth s.Pts 0) (nth s.Pts ((s.Pts.length : Int) - 1))) Z Z) (Xg (Yt true (vb (!(eqPt (nth s.Pts 0) (nth s.Pts ((s.Pts.length : Int) - 1))))) (by exact congrArg Value.bool aa) Z) (Zb (vb (!(eqPt (nth s.Pts 0) (nth s.Pts ((s.Pts.length : Int) - 1))))) Z (Yc fun dc cs => ?_)))))));have ct := ad.k0 cs;exact Xl ⟨[vb (!(eqPt (nth s.Pts 0) (nth s.Pts ((s.Pts.length : Int) - 1))))], ⟨_, Z, Z⟩, !(eqPt (nth s.Pts 0) (nth s.Pts ((s.Pts.length : Int) - 1))), Z, H, ct.gr.g0⟩
  have H := Xo H aa;refine Xq aa Z (Xq aa Z (Xq aa Z (Xq aa Z (Xq aa Z (Xq aa Z (Xq aa Z (Xq aa Z (Xq aa Z ?_))))))));refine Xq aa Z (Xq aa Z (Xg (Xk false (vb false) aa Z) (Zb (vb false) Z (Yc fun dd cu => ?_))));have cv := ad.k0 cu;exact Xl ⟨[vb false], ⟨_, Z, Z⟩, false, Z, H, cv.gr.g0⟩
 have H := Xo H ax;exact Xx (Xc (Xd (Xf (vb false) Z (Xb (Xl ⟨[vb false], ⟨_, Z, Z⟩, false, Z, H, ad.gr.g0⟩)))))
def F99.E (f : Feat) (Q : Bool → Prop) : Prop :=
 (∃ (I43 : Int → Prop) (mu44 : Int → Nat), I43 0 ∧ ∀ (v2 : Int), I43 v2 → (if decide (v2 < (f.Tags.length : Int)) then ((0 : Int) ≤ v2 ∧ v2 < (f.Tags.length : Int)) ∧ (∃ q : Bool, F97.E ((nth f.Tags v2).Key) (fun x => x = q) ∧ (if !q then Q false else (∃ q2 : Bool, F97.E ((nth f.Tags v2).Val) (fun x => x = q2) ∧ (if !q2 then Q false else (if decide (v2 > 0) then (I64 (v2 - 1)) ∧ ((0 : Int) ≤ v2 - 1 ∧ v2 - 1 < (f.Tags.length : Int)) ∧ (if !(Op.bytesLess ((nth f.Tags (v2 - 1)).Key) ((nth f.Tags v2).Key)) then Q false else (I64 (v2 + 1)) ∧ I43 (v2 + 1) ∧ mu44 (v2 + 1) < mu44 v2) else (I64 (v2 + 1)) ∧ I43 (v2 + 1) ∧ mu44 (v2 + 1) < mu44 v2))))) else F97.E f.Id (fun r3 => (if r3 then F73.E f.Shape (fun r4 => (if r4 then Q (decide ((f.Tags.length : Int) ≤ 4)) else Q false)) else Q false))))
theorem F99.calls {f : Feat} {A2 : Option Addr} {n3 c4 : Nat} {A7 : Option Addr} {n8 c9 : Nat} {Q : Bool → Prop} (H : F99.E f Q) (hO : Ok w0 O) (hs1 : Lim f.Id) (hp5 : Sl kPt w0 (Fr O) (G A2 n3 c4) f.Shape.Pts) (ap : Sl kTag w0 (Fr O) (G A7 n8 c9) f.Tags) :
  Ret Tryz.prog 25 [.agg #[vs f.Id, vi f.Shape.Kind, G A2 n3 c4, G A7 n8 c9]] w0 (fun v w' => ∃ (r0 : Bool), v = vb r0 ∧ Q r0 ∧ Gr w0 w' none) := by
 unfold F99.E at H;have hc0 := Ct.init hO;refine X9 Tryz.func25 Z 54 Z [.tmp 2] Z Z ?_;refine Xc (Xd (Yp [vs f.Id, vi f.Shape.Kind, G A2 n3 c4, G A7 n8 c9] Z fun cy ab br hu16 bs bt => ?_));have bc := Fb.mk hc0.ok br bt;have ak := hc0.k0 bs;refine Xf (vb false) Z (Xb (Xc (Xc (Xd (Xa (Xj fa44_2 (Ad ab 0) (Ad ab 3) Z Z) (Xa (Xm ag42 cL (Ad ab 3) (G A7 n8 c9) Z (bc.cell Z)) ?_))))));have cz := (ap.st ak.st).le;refine Xa (Ya u42_ A7 n8 c9 (ap.st ak.st).len Z) (Xe (vi 0) Z (Xb (X6 ?_)));obtain ⟨bu, bv, aq, H⟩ := H;refine Yi (α := Int) (fun (sv__ : Int) t ai => match sv__ with | v2 => bu v2 ∧ Has t [(1, Pz ab), (6, G A7 n8 c9), (7, vi (f.Tags.length : Int)), (8, vi v2)] ∧ Cw [] w0 ai [] O fun M => Sl kTag ai (Fr M) (G A7 n8 c9) f.Tags ∧ Sl kPt ai (Fr M) (G A2 n3 c4) f.Shape.Pts ∧ Fb ai M ab [vs f.Id, vi f.Shape.Kind, G A2 n3 c4, G A7 n8 c9]) (fun (sv__ : Int) => match sv__ with | v2 => bv v2) 0 ⟨aq, (Xz Z), ak, (ap.st ak.st), (hp5.st ak.st), bc⟩ ?_;rintro v2 _ ai ⟨aq, bw, aj, al, ar, am⟩;obtain ⟨c0, rfl⟩ := Has.ins bw;have H := H v2 aq;refine Xc (Xd (Xa (X1 v2 (f.Tags.length : Int) (decide (v2 < (f.Tags.length : Int))) Z Z Z) (Xb (Xc ?_))));refine Xy (decide (v2 < (f.Tags.length : Int))) Z (fun au => ?_) (fun au => ?_)
 ·have H := Xn H au;refine Xx (Xc (X6 (Xc (Xd (Xe (vi v2) Z ?_)))));obtain ⟨bd, H⟩ := H;obtain ⟨be, c1, bx, c2, bz, b0⟩ := al.get default RD v2 bd;obtain ⟨rfl, b1, b2⟩ := kTag.op bz;refine Xa (X5 u42_ Y4 A7 be n8 c9 al.len v2 Z bx Z bd) (Xa (Xv ag93 sz93 cL (be.add (v2.toNat * 2)) [vs ((nth f.Tags v2).Key), vs ((nth f.Tags v2).Val)] Z Z b0) (Yk [vs [], vs []] ze93 fun c3 af av hu63 aw b3 => ?_));have ax := aj.own aw (some af) (Yj av hu63);refine Xf (vi v2) Z (Yd [vs ((nth f.Tags v2).Key), vs ((nth f.Tags v2).Val)] b3 Z Z sz93 Z Z fun b4 ay az => ?_);have ah := ax.wr 0 Z ay;refine Xb (Xc (Yy (fun x => Gr b4 x none) RK RK (Gr.drew _) ?_));refine Xg (Xj fa93_0 (Ad af 0) (Ad af 0) Z Z) (Xg (Xm ag9 cQ (Ad af 0) (vs ((nth f.Tags v2).Key)) Z (az.cell Z)) ?_);obtain ⟨q, b5, H⟩ := H;refine Y0 go51 [vs ((nth f.Tags v2).Key)] Z (vb q) (fun w g => (F97.calls b5 (ah.k0 g).ok b1).mono ?_) ?_
  ·rintro _ w ⟨r, rfl, rfl, g2⟩;exact ⟨Z, Gr.t0 g g2⟩
  refine Xg (X7 q Z) (Xw (vb (!q)) Z ?_);rcases X4 (!q) with ad | ad
  ·have H := Xn H ad;refine Xq ad Z (Xq ad Z (Xq ad Z (Xq ad Z (Xg (Xk true (vb true) ad Z) (Xw (vb true) Z (Yg (dj := 23) Z Z (.inl Z) (Yg (dj := 23) Z Z (.inl Z) (Yg (dj := 23) Z Z (.inl Z) ?_))))))));refine X0 Z (X0 Z (X0 Z (X0 Z (X0 Z (X0 Z (X0 Z (X0 Z (X0 Z ?_))))))));refine X0 Z (Yg (dj := 23) Z Z (.inl Z) (Xg (Xk true (vb true) Z Z) (Yc fun c5 b6 => ?_)));have b7 := ah.k0 b6;refine Yu (b := true) Z Z ?_;refine Xc (Xd (Xf (vb false) Z (Xb (Xl ?_))));have b8 := b7.drop 0 Z;exact ⟨[vb false], ⟨_, Z, Z⟩, false, Z, H, b8.gr.g0⟩
  have H := Xo H ad;refine Xp ad Z (Xg (Xj fa93_1 (Ad af 0) (Ad af 1) Z Z) (Xp ad Z (Xg (Xm ag9 cQ (Ad af 1) (vs ((nth f.Tags v2).Val)) Z (az.cell Z)) (Xp ad Z ?_))));obtain ⟨q2, b9, H⟩ := H;refine Y0 go51 [vs ((nth f.Tags v2).Val)] Z (vb q2) (fun w g => (F97.calls b9 (ah.k0 g).ok b2).mono ?_) ?_
  ·rintro _ w ⟨r, rfl, rfl, g2⟩;exact ⟨Z, Gr.t0 g g2⟩
  refine Xp ad Z (Xg (X7 q2 Z) (Xg (Xk false (vb (!q2)) ad Z) (Xw (vb (!q2)) Z ?_)));rcases X4 (!q2) with ac | ac
  ·have H := Xn H ac;refine Xq ac Z (Xq ac Z (Xq ac Z (X0 Z (X0 Z (X0 Z (X0 Z (X0 Z (X0 Z ?_))))))));refine X0 Z (X0 Z (X0 Z (X0 Z (Xq ac Z (Xg (Xk true (vb true) ac Z) (Yc fun c6 ca => ?_))))));have cb := ah.k0 ca;refine Yu (b := true) Z Z ?_;refine Xc (Xd (Xf (vb false) Z (Xb (Xl ?_))));have cc := cb.drop 0 Z;exact ⟨[vb false], ⟨_, Z, Z⟩, false, Z, H, cc.gr.g0⟩
  have H := Xo H ac;refine Xp ac Z (Xw (vi v2) Z (Xp ac Z (Xg (X1 v2 0 (decide (v2 > 0)) Z Z Z) (Xp ac Z (Xw (vb (decide (v2 > 0))) Z ?_)))));rcases X4 (decide (v2 > 0)) with aa | aa
  ·have H := Xn H aa;refine Xp aa Z (Xg (Xj fa44_2 (Ad ab 0) (Ad ab 3) Z Z) (Xp aa Z ?_));have a0 := aj.stown _ aw (X2 av);have a1 := ax.stw 0 Z ay;have bf := ((am.st a0).st a1);refine Xg (Xm ag42 cQ (Ad ab 3) (G A7 n8 c9) Z (bf.cell Z)) (Xp aa Z (Xw (vi v2) Z (Xp aa Z ?_)));obtain ⟨cd, H⟩ := H;refine Xg (Yz v2 1 Z Z cd) (Xp aa Z ?_);obtain ⟨bg, H⟩ := H;have a2 := ((al.st a0).st a1);obtain ⟨an, c7, ce, c8, cf, cg⟩ := a2.get default RD (v2 - 1) bg;obtain ⟨rfl, da, db⟩ := kTag.op cf;refine Xg (X5 u42_ Y4 A7 an n8 c9 a2.len (v2 - 1) Z ce Z bg) (Xp aa Z (Xg (Xj fa93_0 (an.add ((v2 - 1).toNat * 2)) ((an.add ((v2 - 1).toNat * 2)).add 0) Z Z) (Xp aa Z (Xg (Xm ag9 cQ ((an.add ((v2 - 1).toNat * 2)).add 0) (vs ((nth f.Tags (v2 - 1)).Key)) Z (cg 0 _ Z)) (Xp aa Z (Xg (Xj fa93_0 (Ad af 0) (Ad af 0) Z Z) (Xp aa Z (Xg (Xm ag9 cQ (Ad af 0) (vs ((nth f.Tags v2).Key)) Z (az.cell Z)) ?_))))))));refine Xp aa Z (Xg (Yo ((nth f.Tags (v2 - 1)).Key) ((nth f.Tags v2).Key) (!(Op.bytesLess ((nth f.Tags (v2 - 1)).Key) ((nth f.Tags v2).Key))) Z Z Z) (Xp ac Z (Xg (Yt true (vb (!(Op.bytesLess ((nth f.Tags (v2 - 1)).Key) ((nth f.Tags v2).Key)))) (by exact congrArg Value.bool aa) Z) (Xg (Yt false (vb (!(Op.bytesLess ((nth f.Tags (v2 - 1)).Key) ((nth f.Tags v2).Key)))) (by exact congrArg Value.bool ac) Z) (Yc fun dc bh => ?_)))));have a3 := ah.k0 bh;refine Xy (!(Op.bytesLess ((nth f.Tags (v2 - 1)).Key) ((nth f.Tags v2).Key))) Z (fun a4 => ?_) (fun a4 => ?_)
   ·have H := Xn H a4;refine Xc (Xd (Xf (vb false) Z (Xb (Xl ?_))));have ch := a3.drop 0 Z;exact ⟨[vb false], ⟨_, Z, Z⟩, false, Z, H, ch.gr.g0⟩
   have H := Xo H a4;refine Xx (Xd ?_);obtain ⟨ci, H⟩ := H;refine Xa (Yb v2 1 Z Z ci) (Xe (vi (v2 + 1)) Z (Xb ?_));have cj := a3.drop 0 Z;obtain ⟨ck, cl⟩ := H;have a5 := ah.stn bh;have a6 := a3.std 0 Z;have cm := ((a2.st a5).st a6);have cn := ((((ar.st a0).st a1).st a5).st a6);have co := ((bf.st a5).st a6);exact ⟨v2 + 1, cl, ck, (Xz Z), cj, cm, cn, co⟩
  have H := Xo H aa;refine Xq aa Z (Xq aa Z (Xq aa Z (Xq aa Z (Xq aa Z (Xq aa Z (Xq aa Z (Xq aa Z (Xq aa Z ?_))))))));refine Xq aa Z (Xp ac Z (Xg (Xk false (vb false) aa Z) (Xg (Xk false (vb false) ac Z) (Yc fun dd bi => ?_))));have bj := ah.k0 bi;refine Y2 (b := false) Z Z ?_;refine Xx (Xd ?_);obtain ⟨cp, H⟩ := H;refine Xa (Yb v2 1 Z Z cp) (Xe (vi (v2 + 1)) Z (Xb ?_));have cq := bj.drop 0 Z;obtain ⟨cr, cs⟩ := H;have a7 := aj.stown _ aw (X2 av);have a8 := ax.stw 0 Z ay;have a9 := ah.stn bi;have ba := bj.std 0 Z;have ct := ((((al.st a7).st a8).st a9).st ba);have cu := ((((ar.st a7).st a8).st a9).st ba);have cv := ((((am.st a7).st a8).st a9).st ba);exact ⟨v2 + 1, cs, cr, (Xz Z), cq, ct, cu, cv⟩
 have H := Xo H au;refine Yh (xin_hit ?_);refine Xc (Xd (Xa (Xj fa44_0 (Ad ab 0) (Ad ab 0) Z Z) (Xa (Xm ag9 cL (Ad ab 0) (vs f.Id) Z (am.cell Z)) ?_)));refine Xs go51 (F97.calls H aj.ok hs1) Z ?_;rintro _ cw ⟨r3, rfl, H, bl⟩;have ao := aj.k0 bl;refine Xe (vb r3) Z ?_;rcases X4 r3 with ag | ag
 ·have H := Xn H ag;refine Xh ag Z (Xa (Xj fa44_1 (Ad ab 0) (Ad ab 1) Z Z) (Xh ag Z ?_));have bb := aj.stn bl;have bm := (am.st bb);refine Xa (Xv ag41 sz41 cL (Ad ab 1) [vi f.Shape.Kind, G A2 n3 c4] Z Z (bm.cells (off := 1) Z)) (Xh ag Z ?_);refine Xs go68 (F73.calls H ao.ok (ar.st bb)) Z ?_;rintro _ de ⟨r4, rfl, H, bn⟩;have bo := ao.k0 bn;refine Xa (Xk true (vb r4) ag Z) (Xe (vb r4) Z ?_);rcases X4 r4 with ae | ae
  ·have H := Xn H ae;refine Xh ae Z (Xa (Xj fa44_2 (Ad ab 0) (Ad ab 3) Z Z) (Xh ae Z ?_));have bp := ao.stn bn;have cx := (bm.st bp);refine Xa (Xm ag42 cL (Ad ab 3) (G A7 n8 c9) Z (cx.cell Z)) (Xh ae Z ?_);have bq := ((al.st bb).st bp);have df := bq.le;exact Xa (Ya u42_ A7 n8 c9 bq.len Z) (Xh ae Z (Xa (X1 (f.Tags.length : Int) 4 (decide ((f.Tags.length : Int) ≤ 4)) Z Z Z) (Xa (Yt true (vb (decide ((f.Tags.length : Int) ≤ 4))) (by exact congrArg Value.bool ae) Z) (Xf (vb (decide ((f.Tags.length : Int) ≤ 4))) Z (Xb (Xl ⟨[vb (decide ((f.Tags.length : Int) ≤ 4))], ⟨_, Z, Z⟩, decide ((f.Tags.length : Int) ≤ 4), Z, H, bo.gr.g0⟩))))))
  have H := Xo H ae;exact Xi ae Z (Xi ae Z (Xi ae Z (Xi ae Z (Xa (Xk false (vb false) ae Z) (Xf (vb false) Z (Xb (Xl ⟨[vb false], ⟨_, Z, Z⟩, false, Z, H, bo.gr.g0⟩)))))))
 have H := Xo H ag;refine Xi ag Z (Xi ag Z (Xi ag Z (Xa (Xk false (vb false) ag Z) (Xe (vb false) Z (Xt (dj := 48) Z Z (.inl Z) (Xt (dj := 48) Z Z (.inl Z) (Xt (dj := 48) Z Z (.inl Z) (Xt (dj := 48) Z Z (.inl Z) ?_))))))));exact Xa (Xk false (vb false) Z Z) (Xf (vb false) Z (Xb (Xl ⟨[vb false], ⟨_, Z, Z⟩, false, Z, H, ao.gr.g0⟩)))
def F75.E (s : List Feat) (Q : Bool → Prop) : Prop :=
 (∃ (I19 : Int → Prop) (mu20 : Int → Nat), I19 0 ∧ ∀ (v2 : Int), I19 v2 → (if decide (v2 < (s.length : Int)) then ((0 : Int) ≤ v2 ∧ v2 < (s.length : Int)) ∧ (∃ q : Bool, F99.E (nth s v2) (fun x => x = q) ∧ (if !q then Q false else (if decide (v2 > 0) then (I64 (v2 - 1)) ∧ ((0 : Int) ≤ v2 - 1 ∧ v2 - 1 < (s.length : Int)) ∧ (if !(Op.bytesLess ((nth s (v2 - 1)).Id) ((nth s v2).Id)) then Q false else (I64 (v2 + 1)) ∧ I19 (v2 + 1) ∧ mu20 (v2 + 1) < mu20 v2) else (I64 (v2 + 1)) ∧ I19 (v2 + 1) ∧ mu20 (v2 + 1) < mu20 v2))) else Q (decide ((s.length : Int) ≤ 8))))
theorem F75.calls {s : List Feat} {A1 : Option Addr} {n2 c3 : Nat} {Q : Bool → Prop} (H : F75.E s Q) (hO : Ok w0 O) (hp4 : Sl kFeat w0 (Fr O) (G A1 n2 c3) s) :
  Ret Tryz.prog 37 [G A1 n2 c3] w0 (fun v w' => ∃ (r0 : Bool), v = vb r0 ∧ Q r0 ∧ Gr w0 w' none) := by
 unfold F75.E at H;have hc0 := Ct.init hO;refine X9 Tryz.func37 Z 34 Z [.tmp 2] Z Z ?_;refine Xc (Xd (Xf (vb false) Z (Xb (Xc (Xc (Xd (Xe (G A1 n2 c3) Z ?_)))))));have hl6 := hp4.le;refine Xa (Ya u33_ A1 n2 c3 hp4.len Z) (Xe (vi 0) Z (Xb (X6 ?_)));obtain ⟨a8, a9, ao, H⟩ := H;refine Yi (α := Int) (fun (sv__ : Int) t ap => match sv__ with | v2 => a8 v2 ∧ Has t [(0, G A1 n2 c3), (5, G A1 n2 c3), (6, vi (s.length : Int)), (7, vi v2)] ∧ Ct [] w0 ap [] O ∧ Sl kFeat ap (Fr ([] ++ O)) (G A1 n2 c3) s) (fun (sv__ : Int) => match sv__ with | v2 => a9 v2) 0 ⟨ao, (Xz Z), hc0, hp4⟩ ?_;rintro v2 _ ap ⟨ao, ba, aq, ac⟩;obtain ⟨ca, rfl⟩ := Has.ins ba;have H := H v2 ao;refine Xc (Xd (Xa (X1 v2 (s.length : Int) (decide (v2 < (s.length : Int))) Z Z Z) (Xb (Xc ?_))));refine Xy (decide (v2 < (s.length : Int))) Z (fun ar => ?_) (fun ar => ?_)
 ·have H := Xn H ar;refine Xx (Xc (X6 (Xc (Xd (Xe (vi v2) Z ?_)))));obtain ⟨ax, H⟩ := H;obtain ⟨ay, cb, bb, cc, bc, bd⟩ := ac.get default RD v2 ax;obtain ⟨ad, ae, af, ag, ah, ai, rfl, be, bf, bg⟩ := kFeat.op bc;refine Xa (X5 u33_ Y1 A1 ay n2 c3 ac.len v2 Z bb Z ax) (Xa (Xv ag44 sz44 cL (ay.add (v2.toNat * 4)) [vs ((nth s v2).Id), vi ((nth s v2).Shape.Kind), G ad ae af, G ag ah ai] Z Z bd) (Yk [vs [], .int .i64 0, G none 0 0, G none 0 0] ze44 fun cd aj az hu48 a0 bh => ?_));have a1 := aq.own a0 (some aj) (Yj az hu48);refine Xf (vi v2) Z (Yd [vs ((nth s v2).Id), vi ((nth s v2).Shape.Kind), G ad ae af, G ag ah ai] bh Z Z sz44 Z Z fun bi a2 a3 => ?_);have ak := a1.wr 0 Z a2;refine Xb (Xc (Yy (fun x => Gr bi x none) RK RK (Gr.drew _) ?_));refine Xg (Xv ag44 sz44 cQ (Ad aj 0) [vs ((nth s v2).Id), vi ((nth s v2).Shape.Kind), G ad ae af, G ag ah ai] Z Z (a3.cells (off := 00) Z)) ?_;have al := aq.stown _ a0 (X2 az);have am := a1.stw 0 Z a2;have bj := ((bf.st al).st am);have bl := ((bg.st al).st am);obtain ⟨q, bm, H⟩ := H;refine Y0 go25 [.agg #[vs ((nth s v2).Id), vi ((nth s v2).Shape.Kind), G ad ae af, G ag ah ai]] Z (vb q) (fun w g => (F99.calls bm (ak.k0 g).ok be (bj.st (.new _ g)) (bl.st (.new _ g))).mono ?_) ?_
  ·rintro _ w ⟨r, rfl, rfl, g2⟩;exact ⟨Z, Gr.t0 g g2⟩
  refine Xg (X7 q Z) (Xw (vb (!q)) Z ?_);rcases X4 (!q) with ab | ab
  ·have H := Xn H ab;refine Xq ab Z (Xq ab Z (Xq ab Z (X0 Z (X0 Z (X0 Z (X0 Z (X0 Z (X0 Z ?_))))))));refine X0 Z (X0 Z (X0 Z (Xq ab Z (Xg (Xk true (vb true) ab Z) (Yc fun ce bn => ?_)))));have bo := ak.k0 bn;refine Yu (b := true) Z Z ?_;refine Xc (Xd (Xf (vb false) Z (Xb (Xl ?_))));have bp := bo.drop 0 Z;exact ⟨[vb false], ⟨_, Z, Z⟩, false, Z, H, bp.gr.g0⟩
  have H := Xo H ab;refine Xp ab Z (Xw (vi v2) Z (Xp ab Z (Xg (X1 v2 0 (decide (v2 > 0)) Z Z Z) (Xp ab Z (Xw (vb (decide (v2 > 0))) Z ?_)))));rcases X4 (decide (v2 > 0)) with aa | aa
  ·have H := Xn H aa;refine Xp aa Z (Xw (G A1 n2 c3) Z (Xp aa Z (Xw (vi v2) Z (Xp aa Z ?_))));obtain ⟨bq, H⟩ := H;refine Xg (Yz v2 1 Z Z bq) (Xp aa Z ?_);obtain ⟨a4, H⟩ := H;have au := ((ac.st al).st am);obtain ⟨an, cf, br, cg, bs, bt⟩ := au.get default RD (v2 - 1) a4;obtain ⟨ch, ci, cj, ck, cl, cm, rfl, cn, co, cp⟩ := kFeat.op bs;refine Xg (X5 u33_ Y1 A1 an n2 c3 au.len (v2 - 1) Z br Z a4) (Xp aa Z (Xg (Xj fa44_0 (an.add ((v2 - 1).toNat * 4)) ((an.add ((v2 - 1).toNat * 4)).add 0) Z Z) (Xp aa Z (Xg (Xm ag9 cQ ((an.add ((v2 - 1).toNat * 4)).add 0) (vs ((nth s (v2 - 1)).Id)) Z (bt 0 _ Z)) (Xp aa Z (Xg (Xj fa44_0 (Ad aj 0) (Ad aj 0) Z Z) (Xp aa Z (Xg (Xm ag9 cQ (Ad aj 0) (vs ((nth s v2).Id)) Z (a3.cell Z)) ?_))))))));refine Xp aa Z (Xg (Yo ((nth s (v2 - 1)).Id) ((nth s v2).Id) (!(Op.bytesLess ((nth s (v2 - 1)).Id) ((nth s v2).Id))) Z Z Z) (Xp ab Z (Xg (Yt true (vb (!(Op.bytesLess ((nth s (v2 - 1)).Id) ((nth s v2).Id)))) (by exact congrArg Value.bool aa) Z) (Xg (Yt false (vb (!(Op.bytesLess ((nth s (v2 - 1)).Id) ((nth s v2).Id)))) (by exact congrArg Value.bool ab) Z) (Yc fun cq a5 => ?_)))));have av := ak.k0 a5;refine Xy (!(Op.bytesLess ((nth s (v2 - 1)).Id) ((nth s v2).Id))) Z (fun aw => ?_) (fun aw => ?_)
   ·have H := Xn H aw;refine Xc (Xd (Xf (vb false) Z (Xb (Xl ?_))));have bu := av.drop 0 Z;exact ⟨[vb false], ⟨_, Z, Z⟩, false, Z, H, bu.gr.g0⟩
   have H := Xo H aw;refine Xx (Xd ?_);obtain ⟨bv, H⟩ := H;refine Xa (Yb v2 1 Z Z bv) (Xe (vi (v2 + 1)) Z (Xb ?_));have bw := av.drop 0 Z;obtain ⟨bx, bz⟩ := H;have b0 := ak.stn a5;have b1 := av.std 0 Z;have b2 := ((au.st b0).st b1);exact ⟨v2 + 1, bz, bx, (Xz Z), bw, b2⟩
  have H := Xo H aa;refine Xq aa Z (Xq aa Z (Xq aa Z (Xq aa Z (Xq aa Z (Xq aa Z (Xq aa Z (Xq aa Z (Xq aa Z ?_))))))));refine Xp ab Z (Xg (Xk false (vb false) aa Z) (Xg (Xk false (vb false) ab Z) (Yc fun cr a6 => ?_)));have a7 := ak.k0 a6;refine Y2 (b := false) Z Z ?_;refine Xx (Xd ?_);obtain ⟨b3, H⟩ := H;refine Xa (Yb v2 1 Z Z b3) (Xe (vi (v2 + 1)) Z (Xb ?_));have b4 := a7.drop 0 Z;obtain ⟨b5, b6⟩ := H;have b7 := ak.stn a6;have b8 := a7.std 0 Z;have b9 := ((((ac.st al).st am).st b7).st b8);exact ⟨v2 + 1, b6, b5, (Xz Z), b4, b9⟩
 have H := Xo H ar;refine Yh (xin_hit ?_);refine Xc (Xd (Xe (G A1 n2 c3) Z ?_));have cs := ac.le;exact Xa (Ya u33_ A1 n2 c3 ac.len Z) (Xa (X1 (s.length : Int) 8 (decide ((s.length : Int) ≤ 8)) Z Z Z) (Xf (vb (decide ((s.length : Int) ≤ 8))) Z (Xb (Xl ⟨[vb (decide ((s.length : Int) ≤ 8))], ⟨_, Z, Z⟩, decide ((s.length : Int) ≤ 8), Z, H, aq.gr.g0⟩))))
end Go.Proofs.YtlaaehjcooonfaaGreatDoor
namespace Go.Proofs
open Go.Shelf
def Tryz.lays317_ren : Go.Shelf.Ren := ⟨fun | 317 => 187 | n => n, fun | 3 => 3 | 46 => 132 | n => n, fun | n => n⟩
theorem Tryz.lays317 : Go.Proofs.Lays.n317 Tryz.prog Tryz.lays317_ren := {
  mixed := by kernel_rfl
  f317 := Tryz.func187.trans (congrArg some (by kernel_rfl))
  t3 := Tryz.underlying3
  a3 := Tryz.isAgg3
  z3 := Tryz.sizeOf3
  v3 := Tryz.zeroValue3
  t46 := Tryz.underlying132
  a46 := Tryz.isAgg132
  z46 := Tryz.sizeOf132
  v46 := Tryz.zeroValue132 }
open Go.Lib in
theorem Tryz.internal_strconv_log10Pow2 (x : Nat) (h : x ≤ 64) (w : World) :
    Calls Tryz.prog 187 #[.int .i64 x] w fun e w' => e = .returned (.int .i64 (Lib.l10 x)) ∧ w' = w := Any.internal_strconv_log10Pow2 Tryz.lays317 x h w
def Tryz.lays318_ren : Go.Shelf.Ren := ⟨fun | 318 => 188 | n => n, fun | 3 => 3 | 4 => 4 | n => n, fun | n => n⟩
theorem Tryz.lays318 : Go.Proofs.Lays.n318 Tryz.prog Tryz.lays318_ren := {
  mixed := by kernel_rfl
  f318 := Tryz.func188.trans (congrArg some (by kernel_rfl))
  t3 := Tryz.underlying3
  a3 := Tryz.isAgg3
  z3 := Tryz.sizeOf3
  v3 := Tryz.zeroValue3
  t4 := Tryz.underlying4
  a4 := Tryz.isAgg4
  z4 := Tryz.sizeOf4
  v4 := Tryz.zeroValue4 }
open Go.Lib in
theorem Tryz.internal_strconv_bool2_int (b : Bool) (w : World) :
    Calls Tryz.prog 188 #[.bool b] w fun e w' => e = .returned (.int .i64 (if b then 1 else 0)) ∧ w' = w := Any.internal_strconv_bool2_int Tryz.lays318 b w
def Tryz.lays283_ren : Go.Shelf.Ren := ⟨fun | 283 => 181 | n => n, fun | 3 => 3 | 9 => 9 | 4 => 4 | n => n, fun | n => n⟩
theorem Tryz.lays283 : Go.Proofs.Lays.n283 Tryz.prog Tryz.lays283_ren := {
  mixed := by kernel_rfl
  f283 := Tryz.func181.trans (congrArg some (by kernel_rfl))
  t3 := Tryz.underlying3
  a3 := Tryz.isAgg3
  z3 := Tryz.sizeOf3
  v3 := Tryz.zeroValue3
  t4 := Tryz.underlying4
  a4 := Tryz.isAgg4
  z4 := Tryz.sizeOf4
  v4 := Tryz.zeroValue4
  t9 := Tryz.underlying9
  a9 := Tryz.isAgg9
  z9 := Tryz.sizeOf9
  v9 := Tryz.zeroValue9 }
open Go.Lib in
theorem Tryz.internal_strconv_small (i : Nat) (h : i < 100) (w : World) :
    Calls Tryz.prog 181 #[.int .i64 i] w fun e w' => e = .returned (.string ⟨(Lib.decDigits i).toArray⟩) ∧ w' = w := Any.internal_strconv_small Tryz.lays283 i h w
def Tryz.laysM284_ren : Go.Shelf.Ren := ⟨fun | 284 => 182 | 129 => 145 | 317 => 187 | 318 => 188 | n => n, fun | 53 => 165 | 3 => 3 | 212 => 202 | 0 => 0 | 4 => 4 | 46 => 132 | 5 => 5 | 9 => 9 | n => n, fun | 17 => 1 | n => n⟩
theorem Tryz.laysM284 : Go.Proofs.LaysM.n284 Tryz.prog Tryz.laysM284_ren := {
  mixed := by kernel_rfl
  f129 := Tryz.func145.trans (congrArg some (by kernel_rfl))
  f284 := Tryz.func182.trans (congrArg some (by kernel_rfl))
  f317 := Tryz.func187.trans (congrArg some (by kernel_rfl))
  f318 := Tryz.func188.trans (congrArg some (by kernel_rfl))
  t0 := Tryz.underlying0
  a0 := Tryz.isAgg0
  z0 := Tryz.sizeOf0
  v0 := Tryz.zeroValue0
  t3 := Tryz.underlying3
  a3 := Tryz.isAgg3
  z3 := Tryz.sizeOf3
  v3 := Tryz.zeroValue3
  t4 := Tryz.underlying4
  a4 := Tryz.isAgg4
  z4 := Tryz.sizeOf4
  v4 := Tryz.zeroValue4
  t5 := Tryz.underlying5
  a5 := Tryz.isAgg5
  z5 := Tryz.sizeOf5
  v5 := Tryz.zeroValue5
  t9 := Tryz.underlying9
  a9 := Tryz.isAgg9
  z9 := Tryz.sizeOf9
  v9 := Tryz.zeroValue9
  t46 := Tryz.underlying132
  a46 := Tryz.isAgg132
  z46 := Tryz.sizeOf132
  v46 := Tryz.zeroValue132
  t53 := Tryz.underlying165
  a53 := Tryz.isAgg165
  z53 := Tryz.sizeOf165
  v53 := Tryz.zeroValue165
  t212 := Tryz.underlying202
  a212 := Tryz.isAgg202
  z212 := Tryz.sizeOf202
  v212 := Tryz.zeroValue202
  g17 := by kernel_rfl
  i0 := by kernel_rfl
  i3 := by kernel_rfl
  i4 := by kernel_rfl
  i5 := by kernel_rfl
  i9 := by kernel_rfl
  i46 := by kernel_rfl
  i53 := by kernel_rfl
  i212 := by kernel_rfl
  m17 := by kernel_rfl }
open Go.Lib in
theorem Tryz.internal_strconv_numDigits (u : Nat) (h1 : 1 ≤ u) (h2 : u < 18446744073709551616) (w : World) (htab : Lib.TabIs Tryz.prog w "internal/strconv.uint64pow10" .u64 Lib.pow10Tab) :
    Calls Tryz.prog 182 #[.int .u64 u] w fun e w' => e = .returned (.int .i64 (Lib.nDigits u)) ∧ w' = w := Any.internal_strconv_numDigits Tryz.laysM284 u h1 h2 w htab
def Tryz.lays285_ren : Go.Shelf.Ren := ⟨fun | 285 => 183 | n => n, fun | 37 => 22 | 53 => 165 | 3 => 3 | 4 => 4 | 51 => 163 | 9 => 9 | 5 => 5 | 0 => 0 | n => n, fun | n => n⟩
theorem Tryz.lays285 : Go.Proofs.Lays.n285 Tryz.prog Tryz.lays285_ren := {
  mixed := by kernel_rfl
  f285 := Tryz.func183.trans (congrArg some (by kernel_rfl))
  t0 := Tryz.underlying0
  a0 := Tryz.isAgg0
  z0 := Tryz.sizeOf0
  v0 := Tryz.zeroValue0
  t3 := Tryz.underlying3
  a3 := Tryz.isAgg3
  z3 := Tryz.sizeOf3
  v3 := Tryz.zeroValue3
  t4 := Tryz.underlying4
  a4 := Tryz.isAgg4
  z4 := Tryz.sizeOf4
  v4 := Tryz.zeroValue4
  t5 := Tryz.underlying5
  a5 := Tryz.isAgg5
  z5 := Tryz.sizeOf5
  v5 := Tryz.zeroValue5
  t9 := Tryz.underlying9
  a9 := Tryz.isAgg9
  z9 := Tryz.sizeOf9
  v9 := Tryz.zeroValue9
  t37 := Tryz.underlying22
  a37 := Tryz.isAgg22
  z37 := Tryz.sizeOf22
  v37 := Tryz.zeroValue22
  t51 := Tryz.underlying163
  a51 := Tryz.isAgg163
  z51 := Tryz.sizeOf163
  v51 := Tryz.zeroValue163
  t53 := Tryz.underlying165
  a53 := Tryz.isAgg165
  z53 := Tryz.sizeOf165
  v53 := Tryz.zeroValue165 }
open Go.RowKit Go.Sort Go.Lib in
theorem Tryz.internal_strconv_formatBase10 (blk off cap : Nat) (u : Nat) (d : Array UInt8) (w : World) (hH : Holds (fun (b : UInt8) => Value.int .u8 (b.toNat : Int)) w blk off d) (hu : u < 10 ^ d.size) (hu64 : u < 18446744073709551616) (hsz : d.size < 4611686018427387904) :
    Calls Tryz.prog 183 #[.slice (some ⟨blk, off, none⟩) d.size cap, .int .u64 u] w fun e w' =>
      e = .returned (.tuple #[]) ∧ ∃ (n v' : Nat) (dk : Array UInt8), w' = (putRow (fun (b : UInt8) => Value.int .u8 (b.toNat : Int)) w blk off dk).drewN n ∧ FmtInv d.size u 0 v' dk := Any.internal_strconv_formatBase10 Tryz.lays285 blk off cap u d w hH hu hu64 hsz
def Tryz.laysM246_ren : Go.Shelf.Ren := ⟨fun | 246 => 174 | 283 => 181 | 284 => 182 | 285 => 183 | 286 => 184 | 129 => 145 | 317 => 187 | 318 => 188 | 319 => 189 | 320 => 190 | 337 => 191 | 338 => 192 | n => n, fun | 2 => 2 | 3 => 3 | 9 => 9 | 4 => 4 | 171 => 196 | 0 => 0 | 53 => 165 | 37 => 22 | 5 => 5 | 173 => 198 | 212 => 202 | 51 => 163 | 20 => 20 | 213 => 203 | 46 => 132 | 232 => 204 | 233 => 205 | n => n, fun | 17 => 1 | 18 => 2 | 19 => 3 | n => n⟩
theorem Tryz.laysM246 : Go.Proofs.LaysM.n246 Tryz.prog Tryz.laysM246_ren := {
  mixed := by kernel_rfl
  f129 := Tryz.func145.trans (congrArg some (by kernel_rfl))
  f246 := Tryz.func174.trans (congrArg some (by kernel_rfl))
  f283 := Tryz.func181.trans (congrArg some (by kernel_rfl))
  f284 := Tryz.func182.trans (congrArg some (by kernel_rfl))
  f285 := Tryz.func183.trans (congrArg some (by kernel_rfl))
  f286 := Tryz.func184.trans (congrArg some (by kernel_rfl))
  f317 := Tryz.func187.trans (congrArg some (by kernel_rfl))
  f318 := Tryz.func188.trans (congrArg some (by kernel_rfl))
  f319 := Tryz.func189.trans (congrArg some (by kernel_rfl))
  f320 := Tryz.func190.trans (congrArg some (by kernel_rfl))
  f337 := Tryz.func191.trans (congrArg some (by kernel_rfl))
  f338 := Tryz.func192.trans (congrArg some (by kernel_rfl))
  t0 := Tryz.underlying0
  a0 := Tryz.isAgg0
  z0 := Tryz.sizeOf0
  v0 := Tryz.zeroValue0
  t2 := Tryz.underlying2
  a2 := Tryz.isAgg2
  z2 := Tryz.sizeOf2
  v2 := Tryz.zeroValue2
  t3 := Tryz.underlying3
  a3 := Tryz.isAgg3
  z3 := Tryz.sizeOf3
  v3 := Tryz.zeroValue3
  t4 := Tryz.underlying4
  a4 := Tryz.isAgg4
  z4 := Tryz.sizeOf4
  v4 := Tryz.zeroValue4
  t5 := Tryz.underlying5
  a5 := Tryz.isAgg5
  z5 := Tryz.sizeOf5
  v5 := Tryz.zeroValue5
  t9 := Tryz.underlying9
  a9 := Tryz.isAgg9
  z9 := Tryz.sizeOf9
  v9 := Tryz.zeroValue9
  t20 := Tryz.underlying20
  a20 := Tryz.isAgg20
  z20 := Tryz.sizeOf20
  v20 := Tryz.zeroValue20
  t37 := Tryz.underlying22
  a37 := Tryz.isAgg22
  z37 := Tryz.sizeOf22
  v37 := Tryz.zeroValue22
  t46 := Tryz.underlying132
  a46 := Tryz.isAgg132
  z46 := Tryz.sizeOf132
  v46 := Tryz.zeroValue132
  t51 := Tryz.underlying163
  a51 := Tryz.isAgg163
  z51 := Tryz.sizeOf163
  v51 := Tryz.zeroValue163
  t53 := Tryz.underlying165
  a53 := Tryz.isAgg165
  z53 := Tryz.sizeOf165
  v53 := Tryz.zeroValue165
  t171 := Tryz.underlying196
  a171 := Tryz.isAgg196
  z171 := Tryz.sizeOf196
  v171 := Tryz.zeroValue196
  t173 := Tryz.underlying198
  a173 := Tryz.isAgg198
  z173 := Tryz.sizeOf198
  v173 := Tryz.zeroValue198
  t212 := Tryz.underlying202
  a212 := Tryz.isAgg202
  z212 := Tryz.sizeOf202
  v212 := Tryz.zeroValue202
  t213 := Tryz.underlying203
  a213 := Tryz.isAgg203
  z213 := Tryz.sizeOf203
  t232 := Tryz.underlying204
  a232 := Tryz.isAgg204
  z232 := Tryz.sizeOf204
  v232 := Tryz.zeroValue204
  t233 := Tryz.underlying205
  a233 := Tryz.isAgg205
  z233 := Tryz.sizeOf205
  v233 := Tryz.zeroValue205
  g17 := by kernel_rfl
  g18 := by kernel_rfl
  g19 := by kernel_rfl
  i0 := by kernel_rfl
  i2 := by kernel_rfl
  i3 := by kernel_rfl
  i4 := by kernel_rfl
  i5 := by kernel_rfl
  i9 := by kernel_rfl
  i20 := by kernel_rfl
  i37 := by kernel_rfl
  i46 := by kernel_rfl
  i51 := by kernel_rfl
  i53 := by kernel_rfl
  i171 := by kernel_rfl
  i173 := by kernel_rfl
  i212 := by kernel_rfl
  i232 := by kernel_rfl
  i233 := by kernel_rfl
  m17 := by kernel_rfl
  m18 := by kernel_rfl
  m19 := by kernel_rfl }
open Go.RowKit Go.Sort Go.Lib in
theorem Tryz.internal_strconv_FormatInt_10 (n : Int) (h0 : -9223372036854775808 ≤ n) (h1 : n ≤ 9223372036854775807) (w : World) (htab : Lib.TabIs Tryz.prog w "internal/strconv.uint64pow10" .u64 Lib.pow10Tab) :
    Calls Tryz.prog 174 #[.int .i64 n, .int .i64 10] w fun e w' => e = .returned (.string ⟨(Lib.itoa n).toArray⟩) ∧ ∃ k os, w' = grow (w.drewN k) os := Any.internal_strconv_FormatInt_10 Tryz.laysM246 n h0 h1 w htab
def Tryz.lays246_ren : Go.Shelf.Ren := ⟨fun | 246 => 174 | 283 => 181 | 284 => 182 | 285 => 183 | 286 => 184 | 129 => 145 | 317 => 187 | 318 => 188 | 319 => 189 | 320 => 190 | 337 => 191 | 338 => 192 | n => n, fun | 2 => 2 | 3 => 3 | 9 => 9 | 4 => 4 | 171 => 196 | 0 => 0 | 53 => 165 | 37 => 22 | 5 => 5 | 173 => 198 | 212 => 202 | 51 => 163 | 20 => 20 | 213 => 203 | 46 => 132 | 232 => 204 | 233 => 205 | n => n, fun | 17 => 1 | 18 => 2 | 19 => 3 | n => n⟩
theorem Tryz.lays246 : Go.Proofs.Lays.n246 Tryz.prog Tryz.lays246_ren := {
  mixed := by kernel_rfl
  f129 := Tryz.func145.trans (congrArg some (by kernel_rfl))
  f246 := Tryz.func174.trans (congrArg some (by kernel_rfl))
  f283 := Tryz.func181.trans (congrArg some (by kernel_rfl))
  f284 := Tryz.func182.trans (congrArg some (by kernel_rfl))
  f285 := Tryz.func183.trans (congrArg some (by kernel_rfl))
  f286 := Tryz.func184.trans (congrArg some (by kernel_rfl))
  f317 := Tryz.func187.trans (congrArg some (by kernel_rfl))
  f318 := Tryz.func188.trans (congrArg some (by kernel_rfl))
  f319 := Tryz.func189.trans (congrArg some (by kernel_rfl))
  f320 := Tryz.func190.trans (congrArg some (by kernel_rfl))
  f337 := Tryz.func191.trans (congrArg some (by kernel_rfl))
  f338 := Tryz.func192.trans (congrArg some (by kernel_rfl))
  t0 := Tryz.underlying0
  a0 := Tryz.isAgg0
  z0 := Tryz.sizeOf0
  v0 := Tryz.zeroValue0
  t2 := Tryz.underlying2
  a2 := Tryz.isAgg2
  z2 := Tryz.sizeOf2
  v2 := Tryz.zeroValue2
  t3 := Tryz.underlying3
  a3 := Tryz.isAgg3
  z3 := Tryz.sizeOf3
  v3 := Tryz.zeroValue3
  t4 := Tryz.underlying4
  a4 := Tryz.isAgg4
  z4 := Tryz.sizeOf4
  v4 := Tryz.zeroValue4
  t5 := Tryz.underlying5
  a5 := Tryz.isAgg5
  z5 := Tryz.sizeOf5
  v5 := Tryz.zeroValue5
  t9 := Tryz.underlying9
  a9 := Tryz.isAgg9
  z9 := Tryz.sizeOf9
  v9 := Tryz.zeroValue9
  t20 := Tryz.underlying20
  a20 := Tryz.isAgg20
  z20 := Tryz.sizeOf20
  v20 := Tryz.zeroValue20
  t37 := Tryz.underlying22
  a37 := Tryz.isAgg22
  z37 := Tryz.sizeOf22
  v37 := Tryz.zeroValue22
  t46 := Tryz.underlying132
  a46 := Tryz.isAgg132
  z46 := Tryz.sizeOf132
  v46 := Tryz.zeroValue132
  t51 := Tryz.underlying163
  a51 := Tryz.isAgg163
  z51 := Tryz.sizeOf163
  v51 := Tryz.zeroValue163
  t53 := Tryz.underlying165
  a53 := Tryz.isAgg165
  z53 := Tryz.sizeOf165
  v53 := Tryz.zeroValue165
  t171 := Tryz.underlying196
  a171 := Tryz.isAgg196
  z171 := Tryz.sizeOf196
  v171 := Tryz.zeroValue196
  t173 := Tryz.underlying198
  a173 := Tryz.isAgg198
  z173 := Tryz.sizeOf198
  v173 := Tryz.zeroValue198
  t212 := Tryz.underlying202
  a212 := Tryz.isAgg202
  z212 := Tryz.sizeOf202
  v212 := Tryz.zeroValue202
  t213 := Tryz.underlying203
  a213 := Tryz.isAgg203
  z213 := Tryz.sizeOf203
  t232 := Tryz.underlying204
  a232 := Tryz.isAgg204
  z232 := Tryz.sizeOf204
  v232 := Tryz.zeroValue204
  t233 := Tryz.underlying205
  a233 := Tryz.isAgg205
  z233 := Tryz.sizeOf205
  v233 := Tryz.zeroValue205
  g17 := by kernel_rfl
  g18 := by kernel_rfl
  g19 := by kernel_rfl }
open Go.RowKit Go.Sort Go.Lib in
theorem Tryz.internal_strconv_FormatInt_10_small (i : Nat) (hi : i < 100) (w : World) :
    Calls Tryz.prog 174 #[.int .i64 i, .int .i64 10] w fun e w' => e = .returned (.string ⟨(Lib.decDigits i).toArray⟩) ∧ w' = w := Any.internal_strconv_FormatInt_10_small Tryz.lays246 i hi w
def Tryz.laysM243_ren : Go.Shelf.Ren := ⟨fun | 243 => 154 | 246 => 174 | 283 => 181 | 284 => 182 | 285 => 183 | 286 => 184 | 129 => 145 | 317 => 187 | 318 => 188 | 319 => 189 | 320 => 190 | 337 => 191 | 338 => 192 | n => n, fun | 3 => 3 | 9 => 9 | 2 => 2 | 4 => 4 | 171 => 196 | 0 => 0 | 53 => 165 | 37 => 22 | 5 => 5 | 173 => 198 | 212 => 202 | 51 => 163 | 20 => 20 | 213 => 203 | 46 => 132 | 232 => 204 | 233 => 205 | n => n, fun | 17 => 1 | 18 => 2 | 19 => 3 | n => n⟩
theorem Tryz.laysM243 : Go.Proofs.LaysM.n243 Tryz.prog Tryz.laysM243_ren := {
  mixed := by kernel_rfl
  f129 := Tryz.func145.trans (congrArg some (by kernel_rfl))
  f243 := Tryz.func154.trans (congrArg some (by kernel_rfl))
  f246 := Tryz.func174.trans (congrArg some (by kernel_rfl))
  f283 := Tryz.func181.trans (congrArg some (by kernel_rfl))
  f284 := Tryz.func182.trans (congrArg some (by kernel_rfl))
  f285 := Tryz.func183.trans (congrArg some (by kernel_rfl))
  f286 := Tryz.func184.trans (congrArg some (by kernel_rfl))
  f317 := Tryz.func187.trans (congrArg some (by kernel_rfl))
  f318 := Tryz.func188.trans (congrArg some (by kernel_rfl))
  f319 := Tryz.func189.trans (congrArg some (by kernel_rfl))
  f320 := Tryz.func190.trans (congrArg some (by kernel_rfl))
  f337 := Tryz.func191.trans (congrArg some (by kernel_rfl))
  f338 := Tryz.func192.trans (congrArg some (by kernel_rfl))
  t0 := Tryz.underlying0
  a0 := Tryz.isAgg0
  z0 := Tryz.sizeOf0
  v0 := Tryz.zeroValue0
  t2 := Tryz.underlying2
  a2 := Tryz.isAgg2
  z2 := Tryz.sizeOf2
  v2 := Tryz.zeroValue2
  t3 := Tryz.underlying3
  a3 := Tryz.isAgg3
  z3 := Tryz.sizeOf3
  v3 := Tryz.zeroValue3
  t4 := Tryz.underlying4
  a4 := Tryz.isAgg4
  z4 := Tryz.sizeOf4
  v4 := Tryz.zeroValue4
  t5 := Tryz.underlying5
  a5 := Tryz.isAgg5
  z5 := Tryz.sizeOf5
  v5 := Tryz.zeroValue5
  t9 := Tryz.underlying9
  a9 := Tryz.isAgg9
  z9 := Tryz.sizeOf9
  v9 := Tryz.zeroValue9
  t20 := Tryz.underlying20
  a20 := Tryz.isAgg20
  z20 := Tryz.sizeOf20
  v20 := Tryz.zeroValue20
  t37 := Tryz.underlying22
  a37 := Tryz.isAgg22
  z37 := Tryz.sizeOf22
  v37 := Tryz.zeroValue22
  t46 := Tryz.underlying132
  a46 := Tryz.isAgg132
  z46 := Tryz.sizeOf132
  v46 := Tryz.zeroValue132
  t51 := Tryz.underlying163
  a51 := Tryz.isAgg163
  z51 := Tryz.sizeOf163
  v51 := Tryz.zeroValue163
  t53 := Tryz.underlying165
  a53 := Tryz.isAgg165
  z53 := Tryz.sizeOf165
  v53 := Tryz.zeroValue165
  t171 := Tryz.underlying196
  a171 := Tryz.isAgg196
  z171 := Tryz.sizeOf196
  v171 := Tryz.zeroValue196
  t173 := Tryz.underlying198
  a173 := Tryz.isAgg198
  z173 := Tryz.sizeOf198
  v173 := Tryz.zeroValue198
  t212 := Tryz.underlying202
  a212 := Tryz.isAgg202
  z212 := Tryz.sizeOf202
  v212 := Tryz.zeroValue202
  t213 := Tryz.underlying203
  a213 := Tryz.isAgg203
  z213 := Tryz.sizeOf203
  t232 := Tryz.underlying204
  a232 := Tryz.isAgg204
  z232 := Tryz.sizeOf204
  v232 := Tryz.zeroValue204
  t233 := Tryz.underlying205
  a233 := Tryz.isAgg205
  z233 := Tryz.sizeOf205
  v233 := Tryz.zeroValue205
  g17 := by kernel_rfl
  g18 := by kernel_rfl
  g19 := by kernel_rfl
  i0 := by kernel_rfl
  i2 := by kernel_rfl
  i3 := by kernel_rfl
  i4 := by kernel_rfl
  i5 := by kernel_rfl
  i9 := by kernel_rfl
  i20 := by kernel_rfl
  i37 := by kernel_rfl
  i46 := by kernel_rfl
  i51 := by kernel_rfl
  i53 := by kernel_rfl
  i171 := by kernel_rfl
  i173 := by kernel_rfl
  i212 := by kernel_rfl
  i232 := by kernel_rfl
  i233 := by kernel_rfl
  m17 := by kernel_rfl
  m18 := by kernel_rfl
  m19 := by kernel_rfl }
open Go.RowKit Go.Sort Go.Lib in
theorem Tryz.internal_strconv_Itoa (n : Int) (h0 : -9223372036854775808 ≤ n) (h1 : n ≤ 9223372036854775807) (w : World) (htab : Lib.TabIs Tryz.prog w "internal/strconv.uint64pow10" .u64 Lib.pow10Tab) :
    Calls Tryz.prog 154 #[.int .i64 n] w fun e w' => e = .returned (.string ⟨(Lib.itoa n).toArray⟩) ∧ ∃ k os, w' = grow (w.drewN k) os := Any.internal_strconv_Itoa Tryz.laysM243 n h0 h1 w htab
def Tryz.lays243_ren : Go.Shelf.Ren := ⟨fun | 243 => 154 | 246 => 174 | 283 => 181 | 284 => 182 | 285 => 183 | 286 => 184 | 129 => 145 | 317 => 187 | 318 => 188 | 319 => 189 | 320 => 190 | 337 => 191 | 338 => 192 | n => n, fun | 3 => 3 | 9 => 9 | 2 => 2 | 4 => 4 | 171 => 196 | 0 => 0 | 53 => 165 | 37 => 22 | 5 => 5 | 173 => 198 | 212 => 202 | 51 => 163 | 20 => 20 | 213 => 203 | 46 => 132 | 232 => 204 | 233 => 205 | n => n, fun | 17 => 1 | 18 => 2 | 19 => 3 | n => n⟩
theorem Tryz.lays243 : Go.Proofs.Lays.n243 Tryz.prog Tryz.lays243_ren := {
  mixed := by kernel_rfl
  f129 := Tryz.func145.trans (congrArg some (by kernel_rfl))
  f243 := Tryz.func154.trans (congrArg some (by kernel_rfl))
  f246 := Tryz.func174.trans (congrArg some (by kernel_rfl))
  f283 := Tryz.func181.trans (congrArg some (by kernel_rfl))
  f284 := Tryz.func182.trans (congrArg some (by kernel_rfl))
  f285 := Tryz.func183.trans (congrArg some (by kernel_rfl))
  f286 := Tryz.func184.trans (congrArg some (by kernel_rfl))
  f317 := Tryz.func187.trans (congrArg some (by kernel_rfl))
  f318 := Tryz.func188.trans (congrArg some (by kernel_rfl))
  f319 := Tryz.func189.trans (congrArg some (by kernel_rfl))
  f320 := Tryz.func190.trans (congrArg some (by kernel_rfl))
  f337 := Tryz.func191.trans (congrArg some (by kernel_rfl))
  f338 := Tryz.func192.trans (congrArg some (by kernel_rfl))
  t0 := Tryz.underlying0
  a0 := Tryz.isAgg0
  z0 := Tryz.sizeOf0
  v0 := Tryz.zeroValue0
  t2 := Tryz.underlying2
  a2 := Tryz.isAgg2
  z2 := Tryz.sizeOf2
  v2 := Tryz.zeroValue2
  t3 := Tryz.underlying3
  a3 := Tryz.isAgg3
  z3 := Tryz.sizeOf3
  v3 := Tryz.zeroValue3
  t4 := Tryz.underlying4
  a4 := Tryz.isAgg4
  z4 := Tryz.sizeOf4
  v4 := Tryz.zeroValue4
  t5 := Tryz.underlying5
  a5 := Tryz.isAgg5
  z5 := Tryz.sizeOf5
  v5 := Tryz.zeroValue5
  t9 := Tryz.underlying9
  a9 := Tryz.isAgg9
  z9 := Tryz.sizeOf9
  v9 := Tryz.zeroValue9
  t20 := Tryz.underlying20
  a20 := Tryz.isAgg20
  z20 := Tryz.sizeOf20
  v20 := Tryz.zeroValue20
  t37 := Tryz.underlying22
  a37 := Tryz.isAgg22
  z37 := Tryz.sizeOf22
  v37 := Tryz.zeroValue22
  t46 := Tryz.underlying132
  a46 := Tryz.isAgg132
  z46 := Tryz.sizeOf132
  v46 := Tryz.zeroValue132
  t51 := Tryz.underlying163
  a51 := Tryz.isAgg163
  z51 := Tryz.sizeOf163
  v51 := Tryz.zeroValue163
  t53 := Tryz.underlying165
  a53 := Tryz.isAgg165
  z53 := Tryz.sizeOf165
  v53 := Tryz.zeroValue165
  t171 := Tryz.underlying196
  a171 := Tryz.isAgg196
  z171 := Tryz.sizeOf196
  v171 := Tryz.zeroValue196
  t173 := Tryz.underlying198
  a173 := Tryz.isAgg198
  z173 := Tryz.sizeOf198
  v173 := Tryz.zeroValue198
  t212 := Tryz.underlying202
  a212 := Tryz.isAgg202
  z212 := Tryz.sizeOf202
  v212 := Tryz.zeroValue202
  t213 := Tryz.underlying203
  a213 := Tryz.isAgg203
  z213 := Tryz.sizeOf203
  t232 := Tryz.underlying204
  a232 := Tryz.isAgg204
  z232 := Tryz.sizeOf204
  v232 := Tryz.zeroValue204
  t233 := Tryz.underlying205
  a233 := Tryz.isAgg205
  z233 := Tryz.sizeOf205
  v233 := Tryz.zeroValue205
  g17 := by kernel_rfl
  g18 := by kernel_rfl
  g19 := by kernel_rfl }
open Go.RowKit Go.Sort Go.Lib in
theorem Tryz.internal_strconv_Itoa_small (i : Nat) (hi : i < 100) (w : World) :
    Calls Tryz.prog 154 #[.int .i64 i] w fun e w' => e = .returned (.string ⟨(Lib.decDigits i).toArray⟩) ∧ w' = w := Any.internal_strconv_Itoa_small Tryz.lays243 i hi w
def Tryz.laysM171_ren : Go.Shelf.Ren := ⟨fun | 171 => 126 | 243 => 154 | 246 => 174 | 283 => 181 | 284 => 182 | 285 => 183 | 286 => 184 | 129 => 145 | 317 => 187 | 318 => 188 | 319 => 189 | 320 => 190 | 337 => 191 | 338 => 192 | n => n, fun | 3 => 3 | 9 => 9 | 2 => 2 | 4 => 4 | 171 => 196 | 0 => 0 | 53 => 165 | 37 => 22 | 5 => 5 | 173 => 198 | 212 => 202 | 51 => 163 | 20 => 20 | 213 => 203 | 46 => 132 | 232 => 204 | 233 => 205 | n => n, fun | 17 => 1 | 18 => 2 | 19 => 3 | n => n⟩
theorem Tryz.laysM171 : Go.Proofs.LaysM.n171 Tryz.prog Tryz.laysM171_ren := {
  mixed := by kernel_rfl
  f129 := Tryz.func145.trans (congrArg some (by kernel_rfl))
  f171 := Tryz.func126.trans (congrArg some (by kernel_rfl))
  f243 := Tryz.func154.trans (congrArg some (by kernel_rfl))
  f246 := Tryz.func174.trans (congrArg some (by kernel_rfl))
  f283 := Tryz.func181.trans (congrArg some (by kernel_rfl))
  f284 := Tryz.func182.trans (congrArg some (by kernel_rfl))
  f285 := Tryz.func183.trans (congrArg some (by kernel_rfl))
  f286 := Tryz.func184.trans (congrArg some (by kernel_rfl))
  f317 := Tryz.func187.trans (congrArg some (by kernel_rfl))
  f318 := Tryz.func188.trans (congrArg some (by kernel_rfl))
  f319 := Tryz.func189.trans (congrArg some (by kernel_rfl))
  f320 := Tryz.func190.trans (congrArg some (by kernel_rfl))
  f337 := Tryz.func191.trans (congrArg some (by kernel_rfl))
  f338 := Tryz.func192.trans (congrArg some (by kernel_rfl))
  t0 := Tryz.underlying0
  a0 := Tryz.isAgg0
  z0 := Tryz.sizeOf0
  v0 := Tryz.zeroValue0
  t2 := Tryz.underlying2
  a2 := Tryz.isAgg2
  z2 := Tryz.sizeOf2
  v2 := Tryz.zeroValue2
  t3 := Tryz.underlying3
  a3 := Tryz.isAgg3
  z3 := Tryz.sizeOf3
  v3 := Tryz.zeroValue3
  t4 := Tryz.underlying4
  a4 := Tryz.isAgg4
  z4 := Tryz.sizeOf4
  v4 := Tryz.zeroValue4
  t5 := Tryz.underlying5
  a5 := Tryz.isAgg5
  z5 := Tryz.sizeOf5
  v5 := Tryz.zeroValue5
  t9 := Tryz.underlying9
  a9 := Tryz.isAgg9
  z9 := Tryz.sizeOf9
  v9 := Tryz.zeroValue9
  t20 := Tryz.underlying20
  a20 := Tryz.isAgg20
  z20 := Tryz.sizeOf20
  v20 := Tryz.zeroValue20
  t37 := Tryz.underlying22
  a37 := Tryz.isAgg22
  z37 := Tryz.sizeOf22
  v37 := Tryz.zeroValue22
  t46 := Tryz.underlying132
  a46 := Tryz.isAgg132
  z46 := Tryz.sizeOf132
  v46 := Tryz.zeroValue132
  t51 := Tryz.underlying163
  a51 := Tryz.isAgg163
  z51 := Tryz.sizeOf163
  v51 := Tryz.zeroValue163
  t53 := Tryz.underlying165
  a53 := Tryz.isAgg165
  z53 := Tryz.sizeOf165
  v53 := Tryz.zeroValue165
  t171 := Tryz.underlying196
  a171 := Tryz.isAgg196
  z171 := Tryz.sizeOf196
  v171 := Tryz.zeroValue196
  t173 := Tryz.underlying198
  a173 := Tryz.isAgg198
  z173 := Tryz.sizeOf198
  v173 := Tryz.zeroValue198
  t212 := Tryz.underlying202
  a212 := Tryz.isAgg202
  z212 := Tryz.sizeOf202
  v212 := Tryz.zeroValue202
  t213 := Tryz.underlying203
  a213 := Tryz.isAgg203
  z213 := Tryz.sizeOf203
  t232 := Tryz.underlying204
  a232 := Tryz.isAgg204
  z232 := Tryz.sizeOf204
  v232 := Tryz.zeroValue204
  t233 := Tryz.underlying205
  a233 := Tryz.isAgg205
  z233 := Tryz.sizeOf205
  v233 := Tryz.zeroValue205
  g17 := by kernel_rfl
  g18 := by kernel_rfl
  g19 := by kernel_rfl
  i0 := by kernel_rfl
  i2 := by kernel_rfl
  i3 := by kernel_rfl
  i4 := by kernel_rfl
  i5 := by kernel_rfl
  i9 := by kernel_rfl
  i20 := by kernel_rfl
  i37 := by kernel_rfl
  i46 := by kernel_rfl
  i51 := by kernel_rfl
  i53 := by kernel_rfl
  i171 := by kernel_rfl
  i173 := by kernel_rfl
  i212 := by kernel_rfl
  i232 := by kernel_rfl
  i233 := by kernel_rfl
  m17 := by kernel_rfl
  m18 := by kernel_rfl
  m19 := by kernel_rfl }
open Go.RowKit Go.Sort Go.Lib in
theorem Tryz.strconv_Itoa (n : Int) (h0 : -9223372036854775808 ≤ n) (h1 : n ≤ 9223372036854775807) (w : World) (htab : Lib.TabIs Tryz.prog w "internal/strconv.uint64pow10" .u64 Lib.pow10Tab) :
    Calls Tryz.prog 126 #[.int .i64 n] w fun e w' => e = .returned (.string ⟨(Lib.itoa n).toArray⟩) ∧ ∃ k os, w' = grow (w.drewN k) os := Any.strconv_Itoa Tryz.laysM171 n h0 h1 w htab
def Tryz.lays171_ren : Go.Shelf.Ren := ⟨fun | 171 => 126 | 243 => 154 | 246 => 174 | 283 => 181 | 284 => 182 | 285 => 183 | 286 => 184 | 129 => 145 | 317 => 187 | 318 => 188 | 319 => 189 | 320 => 190 | 337 => 191 | 338 => 192 | n => n, fun | 3 => 3 | 9 => 9 | 2 => 2 | 4 => 4 | 171 => 196 | 0 => 0 | 53 => 165 | 37 => 22 | 5 => 5 | 173 => 198 | 212 => 202 | 51 => 163 | 20 => 20 | 213 => 203 | 46 => 132 | 232 => 204 | 233 => 205 | n => n, fun | 17 => 1 | 18 => 2 | 19 => 3 | n => n⟩
theorem Tryz.lays171 : Go.Proofs.Lays.n171 Tryz.prog Tryz.lays171_ren := {
  mixed := by kernel_rfl
  f129 := Tryz.func145.trans (congrArg some (by kernel_rfl))
  f171 := Tryz.func126.trans (congrArg some (by kernel_rfl))
  f243 := Tryz.func154.trans (congrArg some (by kernel_rfl))
  f246 := Tryz.func174.trans (congrArg some (by kernel_rfl))
  f283 := Tryz.func181.trans (congrArg some (by kernel_rfl))
  f284 := Tryz.func182.trans (congrArg some (by kernel_rfl))
  f285 := Tryz.func183.trans (congrArg some (by kernel_rfl))
  f286 := Tryz.func184.trans (congrArg some (by kernel_rfl))
  f317 := Tryz.func187.trans (congrArg some (by kernel_rfl))
  f318 := Tryz.func188.trans (congrArg some (by kernel_rfl))
  f319 := Tryz.func189.trans (congrArg some (by kernel_rfl))
  f320 := Tryz.func190.trans (congrArg some (by kernel_rfl))
  f337 := Tryz.func191.trans (congrArg some (by kernel_rfl))
  f338 := Tryz.func192.trans (congrArg some (by kernel_rfl))
  t0 := Tryz.underlying0
  a0 := Tryz.isAgg0
  z0 := Tryz.sizeOf0
  v0 := Tryz.zeroValue0
  t2 := Tryz.underlying2
  a2 := Tryz.isAgg2
  z2 := Tryz.sizeOf2
  v2 := Tryz.zeroValue2
  t3 := Tryz.underlying3
  a3 := Tryz.isAgg3
  z3 := Tryz.sizeOf3
  v3 := Tryz.zeroValue3
  t4 := Tryz.underlying4
  a4 := Tryz.isAgg4
  z4 := Tryz.sizeOf4
  v4 := Tryz.zeroValue4
  t5 := Tryz.underlying5
  a5 := Tryz.isAgg5
  z5 := Tryz.sizeOf5
  v5 := Tryz.zeroValue5
  t9 := Tryz.underlying9
  a9 := Tryz.isAgg9
  z9 := Tryz.sizeOf9
  v9 := Tryz.zeroValue9
  t20 := Tryz.underlying20
  a20 := Tryz.isAgg20
  z20 := Tryz.sizeOf20
  v20 := Tryz.zeroValue20
  t37 := Tryz.underlying22
  a37 := Tryz.isAgg22
  z37 := Tryz.sizeOf22
  v37 := Tryz.zeroValue22
  t46 := Tryz.underlying132
  a46 := Tryz.isAgg132
  z46 := Tryz.sizeOf132
  v46 := Tryz.zeroValue132
  t51 := Tryz.underlying163
  a51 := Tryz.isAgg163
  z51 := Tryz.sizeOf163
  v51 := Tryz.zeroValue163
  t53 := Tryz.underlying165
  a53 := Tryz.isAgg165
  z53 := Tryz.sizeOf165
  v53 := Tryz.zeroValue165
  t171 := Tryz.underlying196
  a171 := Tryz.isAgg196
  z171 := Tryz.sizeOf196
  v171 := Tryz.zeroValue196
  t173 := Tryz.underlying198
  a173 := Tryz.isAgg198
  z173 := Tryz.sizeOf198
  v173 := Tryz.zeroValue198
  t212 := Tryz.underlying202
  a212 := Tryz.isAgg202
  z212 := Tryz.sizeOf202
  v212 := Tryz.zeroValue202
  t213 := Tryz.underlying203
  a213 := Tryz.isAgg203
  z213 := Tryz.sizeOf203
  t232 := Tryz.underlying204
  a232 := Tryz.isAgg204
  z232 := Tryz.sizeOf204
  v232 := Tryz.zeroValue204
  t233 := Tryz.underlying205
  a233 := Tryz.isAgg205
  z233 := Tryz.sizeOf205
  v233 := Tryz.zeroValue205
  g17 := by kernel_rfl
  g18 := by kernel_rfl
  g19 := by kernel_rfl }
open Go.RowKit Go.Sort Go.Lib in
theorem Tryz.strconv_Itoa_small (i : Nat) (hi : i < 100) (w : World) :
    Calls Tryz.prog 126 #[.int .i64 i] w fun e w' => e = .returned (.string ⟨(Lib.decDigits i).toArray⟩) ∧ w' = w := Any.strconv_Itoa_small Tryz.lays171 i hi w
def Tryz.lays190_ren : Go.Shelf.Ren := ⟨fun | 190 => 55 | 125 => 110 | 258 => 109 | 128 => 144 | 129 => 145 | 302 => 135 | 303 => 136 | 304 => 137 | 305 => 138 | 306 => 139 | 307 => 140 | 308 => 141 | 309 => 142 | 310 => 143 | 333 => 166 | 329 => 167 | 330 => 168 | 334 => 169 | 335 => 170 | 336 => 130 | 344 => 178 | n => n, fun | 31 => 50 | 9 => 9 | 3 => 3 | 46 => 132 | 0 => 0 | 51 => 163 | 53 => 165 | 4 => 4 | 183 => 155 | 182 => 154 | 131 => 160 | 5 => 5 | 218 => 183 | 222 => 187 | 228 => 192 | 229 => 193 | n => n, fun | n => n⟩
theorem Tryz.lays190 : Go.Proofs.Lays.n190 Tryz.prog Tryz.lays190_ren := {
  mixed := by kernel_rfl
  f125 := Tryz.func110.trans (congrArg some (by kernel_rfl))
  f128 := Tryz.func144.trans (congrArg some (by kernel_rfl))
  f129 := Tryz.func145.trans (congrArg some (by kernel_rfl))
  f190 := Tryz.func55.trans (congrArg some (by kernel_rfl))
  f258 := Tryz.func109.trans (congrArg some (by kernel_rfl))
  f302 := Tryz.func135.trans (congrArg some (by kernel_rfl))
  f303 := Tryz.func136.trans (congrArg some (by kernel_rfl))
  f304 := Tryz.func137.trans (congrArg some (by kernel_rfl))
  f305 := Tryz.func138.trans (congrArg some (by kernel_rfl))
  f306 := Tryz.func139.trans (congrArg some (by kernel_rfl))
  f307 := Tryz.func140.trans (congrArg some (by kernel_rfl))
  f308 := Tryz.func141.trans (congrArg some (by kernel_rfl))
  f309 := Tryz.func142.trans (congrArg some (by kernel_rfl))
  f310 := Tryz.func143.trans (congrArg some (by kernel_rfl))
  f329 := Tryz.func167.trans (congrArg some (by kernel_rfl))
  f330 := Tryz.func168.trans (congrArg some (by kernel_rfl))
  f333 := Tryz.func166.trans (congrArg some (by kernel_rfl))
  f334 := Tryz.func169.trans (congrArg some (by kernel_rfl))
  f335 := Tryz.func170.trans (congrArg some (by kernel_rfl))
  f336 := Tryz.func130.trans (congrArg some (by kernel_rfl))
  f344 := Tryz.func178.trans (congrArg some (by kernel_rfl))
  t0 := Tryz.underlying0
  a0 := Tryz.isAgg0
  z0 := Tryz.sizeOf0
  v0 := Tryz.zeroValue0
  t3 := Tryz.underlying3
  a3 := Tryz.isAgg3
  z3 := Tryz.sizeOf3
  v3 := Tryz.zeroValue3
  t4 := Tryz.underlying4
  a4 := Tryz.isAgg4
  z4 := Tryz.sizeOf4
  v4 := Tryz.zeroValue4
  t5 := Tryz.underlying5
  a5 := Tryz.isAgg5
  z5 := Tryz.sizeOf5
  v5 := Tryz.zeroValue5
  t9 := Tryz.underlying9
  a9 := Tryz.isAgg9
  z9 := Tryz.sizeOf9
  v9 := Tryz.zeroValue9
  t31 := Tryz.underlying50
  a31 := Tryz.isAgg50
  z31 := Tryz.sizeOf50
  v31 := Tryz.zeroValue50
  t46 := Tryz.underlying132
  a46 := Tryz.isAgg132
  z46 := Tryz.sizeOf132
  v46 := Tryz.zeroValue132
  t51 := Tryz.underlying163
  a51 := Tryz.isAgg163
  z51 := Tryz.sizeOf163
  v51 := Tryz.zeroValue163
  t53 := Tryz.underlying165
  a53 := Tryz.isAgg165
  z53 := Tryz.sizeOf165
  v53 := Tryz.zeroValue165
  t131 := Tryz.underlying160
  a131 := Tryz.isAgg160
  z131 := Tryz.sizeOf160
  v131 := Tryz.zeroValue160
  t182 := Tryz.underlying154
  a182 := Tryz.isAgg154
  z182 := Tryz.sizeOf154
  v182 := Tryz.zeroValue154
  t183 := Tryz.underlying155
  a183 := Tryz.isAgg155
  z183 := Tryz.sizeOf155
  v183 := Tryz.zeroValue155
  t218 := Tryz.underlying183
  a218 := Tryz.isAgg183
  z218 := Tryz.sizeOf183
  v218 := Tryz.zeroValue183
  t222 := Tryz.underlying187
  a222 := Tryz.isAgg187
  z222 := Tryz.sizeOf187
  v222 := Tryz.zeroValue187
  t228 := Tryz.underlying192
  a228 := Tryz.isAgg192
  z228 := Tryz.sizeOf192
  v228 := Tryz.zeroValue192
  t229 := Tryz.underlying193
  a229 := Tryz.isAgg193
  z229 := Tryz.sizeOf193
  v229 := Tryz.zeroValue193 }
open Go.Sort Go.RowKit in
theorem Tryz.slices_Sort_string (blk off cap : Nat) (ss : List (List UInt8)) (w : World) (hH : Holds encStr w blk off ss.toArray) (hblk : blk < w.heap.size) (hsz : ss.length < 4611686018427387904) :
    Calls Tryz.prog 55 #[.slice (some ⟨blk, off, none⟩) ss.length cap] w fun e w' =>
      e = .returned (.tuple #[]) ∧ ∃ n os, w' = grow (putRow encStr (Sort.ahead w n) blk off (ss.mergeSort fun x y => decide (x ≤ y)).toArray) os := Any.slices_Sort_string Tryz.lays190 blk off cap ss w hH hblk hsz
def Tryz.lays194_ren : Go.Shelf.Ren := ⟨fun | 194 => 56 | n => n, fun | 31 => 50 | 9 => 9 | 3 => 3 | 4 => 4 | 0 => 0 | n => n, fun | n => n⟩
theorem Tryz.lays194 : Go.Proofs.Lays.n194 Tryz.prog Tryz.lays194_ren := {
  mixed := by kernel_rfl
  f194 := Tryz.func56.trans (congrArg some (by kernel_rfl))
  t0 := Tryz.underlying0
  a0 := Tryz.isAgg0
  z0 := Tryz.sizeOf0
  v0 := Tryz.zeroValue0
  t3 := Tryz.underlying3
  a3 := Tryz.isAgg3
  z3 := Tryz.sizeOf3
  v3 := Tryz.zeroValue3
  t4 := Tryz.underlying4
  a4 := Tryz.isAgg4
  z4 := Tryz.sizeOf4
  v4 := Tryz.zeroValue4
  t9 := Tryz.underlying9
  a9 := Tryz.isAgg9
  z9 := Tryz.sizeOf9
  v9 := Tryz.zeroValue9
  t31 := Tryz.underlying50
  a31 := Tryz.isAgg50
  z31 := Tryz.sizeOf50
  v31 := Tryz.zeroValue50 }
open Go.RowKit Go.Lib Go.Sort in
theorem Tryz.slices_Compact_string_arr (blk off cap : Nat) (d : Array (List UInt8)) (w : World) (hH : Holds encStr w blk off d) (hsz : d.size ≤ 9223372036854775807) (hcap : d.size ≤ cap) :
    Calls Tryz.prog 56 #[.slice (some ⟨blk, off, none⟩) d.size cap] w fun e w' => e = .returned (.slice (some ⟨blk, off, none⟩) (compactUpTo d d.size).length cap) ∧ ∃ q, w' = putRow encStr (Sort.ahead w q) blk off (compactUpTo d d.size ++ List.replicate (d.size - (compactUpTo d d.size).length) []).toArray := Any.slices_Compact_string_arr Tryz.lays194 blk off cap d w hH hsz hcap
open Go.RowKit Go.Lib Go.Sort in
theorem Tryz.slices_Compact_string (blk off cap : Nat) (zs : List (List UInt8)) (w : World) (hH : Holds encStr w blk off zs.toArray) (hsz : zs.length ≤ 9223372036854775807) (hcap : zs.length ≤ cap) :
    Calls Tryz.prog 56 #[.slice (some ⟨blk, off, none⟩) zs.length cap] w fun e w' => e = .returned (.slice (some ⟨blk, off, none⟩) (Lib.compact zs).length cap) ∧ ∃ q, w' = putRow encStr (Sort.ahead w q) blk off (Lib.compact zs ++ List.replicate (zs.length - (Lib.compact zs).length) []).toArray := Any.slices_Compact_string Tryz.lays194 blk off cap zs w hH hsz hcap
open Go.RowKit Go.Lib Go.Sort in
theorem Tryz.slices_Compact_string_empty (a : Option Addr) (cap : Nat) (w : World) :
    Calls Tryz.prog 56 #[.slice a 0 cap] w fun e w' => e = .returned (.slice a 0 cap) ∧ w' = w := Any.slices_Compact_string_empty Tryz.lays194 a cap w
open Go.RowKit Go.Lib Go.Sort in
theorem Tryz.slices_Compact_string_cells (b off n c : Nat) (Sx : Nat → ByteArray) (w : World) (hbig : n ≤ 9223372036854775807) (hcap : n ≤ c) (hc : ∀ i, i < n → w.cell? ⟨b, off + i, none⟩ = some (.string (Sx i))) (hf : ∀ j, j < n → w.frozen? ⟨b, off + j, none⟩ = false) :
    Calls Tryz.prog 56 #[.slice (some ⟨b, off, none⟩) n c] w fun e w' => e = .returned (.slice (some ⟨b, off, none⟩) (Lib.compact (Lib.strsOf Sx n)).length c) ∧ ∃ q, w' = (w.drewN q).setCells b off ((Lib.compact (Lib.strsOf Sx n) ++ List.replicate (n - (Lib.compact (Lib.strsOf Sx n)).length) []).map encStr) := Any.slices_Compact_string_cells Tryz.lays194 b off n c Sx w hbig hcap hc hf
open Go.RowKit Go.Sort in
theorem Tryz.slices_Sort_string_none (p : Option Addr) (cap : Nat) (w : World) :
    Calls Tryz.prog 55 #[.slice p 0 cap] w fun e w' => e = .returned (.tuple #[]) ∧ w' = w := Any.slices_Sort_string_none Tryz.lays190 p cap w
end Go.Proofs
namespace Go.Proofs.YtlaaehjcooonfaaGreatDoor
set_option linter.unusedVariables false
set_option linter.unusedSimpArgs false
set_option linter.unusedSectionVars false
set_option maxHeartbeats 8000000
set_option maxRecDepth 100000
open Go.RowKit
variable {O : Ob} {w0 : World}
section
open Go.RowKit Go.Shelf Go.Sort Go.Lib
theorem strs_arr {w : World} {S : Sp} : ∀ {xs : List Str} {cs : List Value}, Arr Kd.str w S xs cs → cs = xs.map vs ∧ ∀ x ∈ xs, Lim x
 | [], _, h => ⟨h, fun x hx => by cases hx⟩
 | x :: xs, _, ⟨c1, c2, e, h1, h2⟩ => by
  obtain ⟨e2, h3⟩ := strs_arr h2
  refine ⟨by rw [e, h1.1, e2]; rfl, fun y hy => ?_⟩
  rcases List.mem_cons.1 hy with rfl | hy
  ·exact h1.2
  ·exact h3 y hy
theorem arr_strs {w : World} {S : Sp} : ∀ {xs : List Str}, (∀ x ∈ xs, Lim x) → Arr Kd.str w S xs (xs.map vs)
 | [], _ => rfl
 | x :: xs, h => ⟨[vs x], xs.map vs, rfl, ⟨rfl, h x List.mem_cons_self⟩, arr_strs fun y hy => h y (List.mem_cons_of_mem _ hy)⟩
theorem heap_put (w : World) (q g : Nat) (ys : List Str) (os : Array Obj) (b : Nat) (hb : b < w.heap.size) (hne : b ≠ g) : (grow (putRow encStr (Sort.ahead w q) g 0 ys.toArray) os).heap[b]? = w.heap[b]? := by
 have h1 : (w.heap.modify g (onCells (putCells encStr 0 ys.toArray))).size = w.heap.size := Array.size_modify
 simp only [grow, putRow, mapBlock, Sort.ahead]
 rw [Array.getElem?_append_left (by rw [h1]; exact hb), Array.getElem?_modify, if_neg (fun e => hne e.symm)]
theorem Ow.putS {e : TypeId} {w : World} {O : Ob} {g n c : Nat} {xs : List Str} (h : Ow Kd.str e w O (.slice (some ⟨g, 0, none⟩) n c) xs) (ys : List Str) (hl : ys.length = xs.length) (hy : ∀ y ∈ ys, Lim y) (q : Nat) (os : Array Obj) (hx : 0 < xs.length) :
  Gr w (grow (putRow encStr (Sort.ahead w q) g 0 ys.toArray) os) (some g) ∧ Ow Kd.str e (grow (putRow encStr (Sort.ahead w q) g 0 ys.toArray) os) O (.slice (some ⟨g, 0, none⟩) n c) ys := by
 have hgl := h.ltb g rfl
 have h1 : (w.heap.modify g (onCells (putCells encStr 0 ys.toArray))).size = w.heap.size := Array.size_modify
 refine ⟨⟨rfl, rfl, rfl, ?_, fun b hb hn => heap_put w q g ys os b hb fun e => hn (by rw [e])⟩, ?_⟩
 ·simp only [grow, putRow, mapBlock, Sort.ahead, Array.size_append, h1]; omega
 obtain ⟨cells, o1, o2, o3⟩ := h
 rcases o1.2 with ⟨_, e'⟩ | ⟨g', cap, cur, ev, h0, hg, hle, hmx, hcur, htake⟩
 ·omega
 ·cases ev
  have hk : Kd.str.sz = 1 := rfl
  refine ⟨ys.map vs, ⟨by rw [List.length_map, hk, Nat.mul_one], .inr ⟨g, c, putCells encStr 0 ys.toArray cur, by rw [hl], h0, ?_, by rw [hl]; exact hle, hmx, ?_, ?_⟩⟩, arr_strs hy, o3⟩
  ·simp only [grow, putRow, mapBlock, Sort.ahead]
   rw [Array.getElem?_append_left (by rw [h1]; exact hgl), Array.getElem?_modify, if_pos rfl, hg]; rfl
  ·rw [putCells, Array.size_mapIdx]; exact hcur
  ·rw [hk, Nat.mul_one]
   have hc1 : xs.length ≤ cur.size := by rw [hcur, hk, Nat.mul_one]; exact hle
   apply List.ext_getElem?
   intro j
   rw [List.getElem?_take, List.getElem?_map]
   by_cases hj : j < ys.length
   ·rw [if_pos hj, putCells, Array.getElem?_toList, Array.getElem?_mapIdx, Array.getElem?_eq_getElem OM, List.getElem?_eq_getElem hj]
    simp only [Option.map_some, Nat.zero_le, true_and, Nat.zero_add, List.size_toArray, hj, if_true, Nat.sub_zero]
    simp [hj]
   ·rw [if_neg hj, List.getElem?_eq_none OM]; rfl
theorem Ow.holds {e : TypeId} {w : World} {O : Ob} {g n c : Nat} {xs : List Str} (h : Ow Kd.str e w O (.slice (some ⟨g, 0, none⟩) n c) xs) : Holds encStr w g 0 xs.toArray := by
 obtain ⟨cells, o1, o2, o3⟩ := h
 obtain ⟨e2, _⟩ := strs_arr o2
 intro j hj
 simp only [List.size_toArray] at hj
 rcases o1.2 with ⟨_, e'⟩ | ⟨g', cap, cur, ev, h0, hg, hle, hmx, hcur, htake⟩
 ·omega
 ·cases ev
  have hc := World.ownsRow.cells o1 (g := g) rfl j (vs xs[j]) (by rw [e2]; simp [hj])
  have ha : (⟨g, 0, none⟩ : Addr).add j = ⟨g, 0 + j, none⟩ := by unfold Addr.add; split <;> simp_all
  rw [ha] at hc
  refine ⟨by rw [hc]; simp [hj], ?_⟩
  simp [World.frozen?, hg]
def sortS (xs : List Str) : List Str := xs.mergeSort fun x y => decide (x ≤ y)
theorem Ow.form {e : TypeId} {w : World} {O : Ob} {A : Option Addr} {n c : Nat} {xs : List Str} (h : Ow Kd.str e w O (.slice A n c) xs) (hx : 0 < xs.length) : ∃ g, A = some ⟨g, 0, none⟩ ∧ n = xs.length ∧ xs.length ≤ c ∧ g < w.heap.size := by
 obtain ⟨cells, o1, o2, o3⟩ := h
 rcases o1.2 with ⟨_, e'⟩ | ⟨g', cap, cur, ev, h0, hg, hle, hmx, hcur, htake⟩
 ·omega
 ·cases ev; exact ⟨g', rfl, rfl, hle, (Array.getElem?_eq_some_iff.1 hg).1⟩
theorem Ow.lims {e : TypeId} {w : World} {O : Ob} {v : Value} {xs : List Str} (h : Ow Kd.str e w O v xs) : ∀ x ∈ xs, Lim x := by
 obtain ⟨cells, o1, o2, o3⟩ := h
 exact (strs_arr o2).2
theorem compact_le (x : List Str) : (Lib.compact x).length ≤ x.length := by
 unfold Lib.compact Lib.compactUpTo
 rw [List.length_map]
 exact Nat.le_trans (List.length_filter_le _ _) (by rw [List.length_range]; exact Nat.le_refl _)
theorem compact_mem {x : List Str} {y : Str} (h : y ∈ Lib.compact x) : y ∈ x := by
 unfold Lib.compact Lib.compactUpTo at h
 obtain ⟨j, hj, rfl⟩ := List.mem_map.1 h
 have hl : j < x.length := List.mem_range.1 (List.mem_filter.1 hj).1
 simp [hl]
end
section
open Go.Shelf Go.Sort Go.Lib
def F8.E (x : List Str) (Q : List Str → Prop) : Prop := x.length ≤ 268435456 ∧ Q (sortS x)
theorem F8.calls {O : Ob} (w0 : World) (hO : Ok w0 O) (A : Option Addr) (n c : Nat) (x : List Str) (hp : Ow Kd.str 9 w0 O (.slice A n c) x) (Q : List Str → Prop) (h : F8.E x Q) :
  Ret Tryz.prog 55 [.slice A n c] w0 (fun v w' => ∃ (m0 : List Str), v = .tuple #[] ∧ Q m0 ∧ Gr w0 w' (blk (.slice A n c)) ∧ Ow Kd.str 9 w' O (.slice A n c) m0) := by
 obtain ⟨hl, hq⟩ := h
 by_cases hx : 0 < x.length
 ·obtain ⟨g, rfl, rfl, hc, hg⟩ := hp.form hx
  refine Calls.mono (Tryz.slices_Sort_string g 0 c x w0 hp.holds hg OM) fun e w' ⟨he, q, os, hw⟩ => ?_
  subst he; subst hw
  have hs : (sortS x).length = x.length := List.length_mergeSort _
  obtain ⟨h1, h2⟩ := hp.putS (sortS x) hs (fun y hy => hp.lims y (List.mem_mergeSort.1 hy)) q os hx
  exact ⟨_, rfl, sortS x, rfl, hq, h1, h2⟩
 ·have e0 : x = [] := List.length_eq_zero_iff.1 OM
  subst e0
  obtain rfl : n = 0 := hp.len
  refine Calls.mono (Tryz.slices_Sort_string_none A c w0) fun e w' ⟨he, hw⟩ => ?_
  subst he; subst hw
  exact ⟨_, rfl, [], rfl, (by simpa [sortS] using hq), Gr.refl _ _, hp⟩
end
section
open Go.Shelf Go.Sort Go.Lib
def F1.E (x : List Str) (Q : List Str → Prop) : Prop := x.length ≤ 268435456 ∧ Q (Lib.compact x)
theorem F1.calls {O : Ob} (w0 : World) (hO : Ok w0 O) (A : Option Addr) (n c : Nat) (x : List Str) (hp : Ow Kd.str 9 w0 O (.slice A n c) x) (Q : List Str → Prop) (h : F1.E x Q) :
  Ret Tryz.prog 56 [.slice A n c] w0 (fun v w' => ∃ (m0 : List Str) (l : Nat), v = .slice A l c ∧ Q m0 ∧ Gr w0 w' (blk (.slice A n c)) ∧ Ow Kd.str 9 w' O (.slice A l c) m0) := by
 obtain ⟨hl, hq⟩ := h
 by_cases hx : 0 < x.length
 ·obtain ⟨g, rfl, rfl, hc, hg⟩ := hp.form hx
  refine Calls.mono (Tryz.slices_Compact_string g 0 c x w0 hp.holds OM hc) fun e w' ⟨he, q, hw⟩ => ?_
  have hcl := compact_le x
  rw [← grow_empty (putRow encStr (Sort.ahead w0 q) g 0 _)] at hw
  subst he; subst hw
  obtain ⟨h1, h2⟩ := hp.putS (Lib.compact x ++ List.replicate (x.length - (Lib.compact x).length) []) (by rw [List.length_append, List.length_replicate]; omega) (fun y hy => by
   rcases List.mem_append.1 hy with hy | hy
   ·exact hp.lims y (compact_mem hy)
   ·rw [List.eq_of_mem_replicate hy]; decide) q #[] hx
  have h3 := h2.cut (Lib.compact x).length (by rw [List.length_append]; omega)
  rw [List.take_left'] at h3
  ·exact ⟨_, rfl, Lib.compact x, _, rfl, hq, h1, h3⟩
  ·rfl
 ·have e0 : x = [] := List.length_eq_zero_iff.1 OM
  subst e0
  obtain rfl : n = 0 := hp.len
  refine Calls.mono (Tryz.slices_Compact_string_empty A c w0) fun e w' ⟨he, hw⟩ => ?_
  subst he; subst hw
  exact ⟨_, rfl, [], _, rfl, hq, Gr.refl _ _, hp⟩
end
def F131.E (maps : List (List Feat)) (Q : List Str → Prop) : Prop :=
 (∃ (I40 : (List Str) → Int → Prop) (mu41 : (List Str) → Int → Nat), I40 [] 0 ∧ ∀ (xs2 : List Str) (v2 : Int), I40 xs2 v2 → (if decide (v2 < (maps.length : Int)) then ((0 : Int) ≤ v2 ∧ v2 < (maps.length : Int)) ∧ (∃ (I90 : (List Str) → Int → Prop) (mu91 : (List Str) → Int → Nat), I90 xs2 0 ∧ ∀ (xs4 : List Str) (v4 : Int), I90 xs4 v4 → (if decide (v4 < ((nth maps v2).length : Int)) then ((0 : Int) ≤ v4 ∧ v4 < ((nth maps v2).length : Int)) ∧ (xs4.length + ([(nth (nth maps v2) v4).Id] : List Str).length ≤ 268435456) ∧ (I64 (v4 + 1)) ∧ I90 (xs4 ++ ([(nth (nth maps v2) v4).Id] : List Str)) (v4 + 1) ∧ mu91 (xs4 ++ ([(nth (nth maps v2) v4).Id] : List Str)) (v4 + 1) < mu91 xs4 v4 else (I64 (v2 + 1)) ∧ I40 xs4 (v2 + 1) ∧ mu41 xs4 (v2 + 1) < mu41 xs2 v2)) else F8.E xs2 (fun m => F1.E m (fun r => Q r))))
theorem F131.calls {maps : List (List Feat)} {A1 : Option Addr} {n2 c3 : Nat} {Q : List Str → Prop} (H : F131.E maps Q) (hO : Ok w0 O) (hp4 : Sl (Kd.sl kFeat) w0 (Fr O) (G A1 n2 c3) maps) :
  Ret Tryz.prog 59 [G A1 n2 c3] w0 (fun v w' => ∃ (r0 : List Str) (Aw0 : Option Addr) (nw0 cw0 : Nat), v = G Aw0 nw0 cw0 ∧ Q r0 ∧ Gk w0 w' [bk Aw0] O (Ow Kd.str 9 w' ([bk Aw0] ++ O) (G Aw0 nw0 cw0) r0)) := by
 unfold F131.E at H;have hc0 := Ct.init hO;refine X9 Tryz.func59 Z 32 Z [.tmp 2] Z Z ?_;refine Xc (Xd (Xf (G none 0 0) Z (Xb (Xc (Xd (X8 (kd := Kd.str) Y9 hc0 ([] : List Str) (cells := []) Z RF fun w6 A7 n8 c9 c0 hr11 am bw => ?_))))));refine Xf (G A7 n8 c9) Z (Xb (Xc (Xc (Xd (Xe (G A1 n2 c3) Z ?_)))));have c1 := (hp4.st am.st).le;refine Xa (Ya Tryz.underlying134 A1 n2 c3 (hp4.st am.st).len Z) (Xe (vi 0) Z (Xb (X6 ?_)));obtain ⟨bx, bz, an, H⟩ := H;refine Yi (α := (List Str) × (Option Addr) × Nat × Nat × Int) (fun (xs2, aa, ac, ab, v2) t aj => bx xs2 v2 ∧ Has t [(3, G aa ac ab), (9, G A1 n2 c3), (10, vi (maps.length : Int)), (11, vi v2)] ∧ Cw [] w0 aj [bk aa] O fun M => Sl (Kd.sl kFeat) aj (Fr M) (G A1 n2 c3) maps ∧ Ow Kd.str 9 aj M (G aa ac ab) xs2) (fun (xs2, _, _, _, v2) => bz xs2 v2) (([] : List Str), A7, n8, c9, 0) ⟨an, (Xz Z), am, (hp4.st am.st), bw⟩ ?_;rintro ⟨xs2, aa, ac, ab, v2⟩ _ aj ⟨an, b0, ao, ap, bc⟩;obtain ⟨c2, rfl⟩ := Has.ins b0;have H := H xs2 v2 an;refine Xc (Xd (Xa (X1 v2 (maps.length : Int) (decide (v2 < (maps.length : Int))) Z Z Z) (Xb (Xc ?_))));refine Xy (decide (v2 < (maps.length : Int))) Z (fun aq => ?_) (fun aq => ?_)
 ·have H := Xn H aq;refine Xx (Xc (X6 (Xc (Xd ?_))));obtain ⟨bd, H⟩ := H;obtain ⟨be, c4, b1, c5, b2, b3⟩ := ap.get default RD v2 bd;obtain ⟨ae, af, ag, rfl, ar⟩ := Kd.sl.op b2;refine Xa (X5 Tryz.underlying134 Ke A1 be n2 c3 ap.len v2 Z b1 Z bd) (Xa (Xm ag33 cL (be.add (v2.toNat * 1)) (G ae af ag) Z (b3 0 _ Z)) (Xf (G ae af ag) Z (Xb (Xc (Xd (Xe (G ae af ag) Z ?_))))));have c6 := ar.le;refine Xa (Ya u33_ ae af ag ar.len Z) (Xe (vi 0) Z (Xb (X6 ?_)));obtain ⟨b4, b5, au, H⟩ := H;refine Yi (α := (List Str) × (Option Addr) × Nat × Nat × Int) (fun (xs4, ad, ah, ai, v4) t ak => b4 xs4 v4 ∧ Has t [(3, G ad ah ai), (9, G A1 n2 c3), (10, vi (maps.length : Int)), (11, vi v2), (15, G ae af ag), (16, vi ((nth maps v2).length : Int)), (17, vi v4)] ∧ Cw [] w0 ak [bk ad] O fun M => Sl (Kd.sl kFeat) ak (Fr M) (G A1 n2 c3) maps ∧ Sl kFeat ak (Fr M) (G ae af ag) (nth maps v2) ∧ Ow Kd.str 9 ak M (G ad ah ai) xs4) (fun (xs4, _, _, _, v4) => b5 xs4 v4) (xs2, aa, ac, ab, 0) ⟨au, (Xz Z), ao, ap, ar, bc⟩ ?_;rintro ⟨xs4, ad, ah, ai, v4⟩ _ ak ⟨au, b6, av, bf, aw, bg⟩;obtain ⟨c7, rfl⟩ := Has.ins b6;have H := H xs4 v4 au;refine Xc (Xd (Xa (X1 v4 ((nth maps v2).length : Int) (decide (v4 < ((nth maps v2).length : Int))) Z Z Z) (Xb (Xc ?_))));refine Xy (decide (v4 < ((nth maps v2).length : Int))) Z (fun ax => ?_) (fun ax => ?_)
  ·have H := Xn H ax;refine Xx (Xc (X6 (Xc (Xd ?_))));obtain ⟨bh, H⟩ := H;obtain ⟨bi, c8, b7, da, b8, b9⟩ := aw.get default RD v4 bh;obtain ⟨ay, az, a0, a1, a2, a3, rfl, ca, db, dc⟩ := kFeat.op b8;refine Xa (X5 u33_ Y1 ae bi af ag aw.len v4 Z b7 Z bh) (Xa (Xv ag44 sz44 cL (bi.add (v4.toNat * 4)) [vs ((nth (nth maps v2) v4).Id), vi ((nth (nth maps v2) v4).Shape.Kind), G ay az a0, G a1 a2 a3] Z Z b9) (Yk [vs [], .int .i64 0, G none 0 0, G none 0 0] ze44 fun dd al a4 hu119 a5 cb => ?_));have a6 := av.own a5 (some al) (Yj a4 hu119);refine Yd [vs ((nth (nth maps v2) v4).Id), vi ((nth (nth maps v2) v4).Shape.Kind), G ay az a0, G a1 a2 a3] cb Z Z sz44 Z Z fun de a7 cc => ?_;have bj := a6.wr 0 Z a7;refine Xb (Xd (Xe (G ad ah ai) Z (Xa (Xj fa44_0 (Ad al 0) (Ad al 0) Z Z) (Xa (Xm ag9 cL (Ad al 0) (vs ((nth (nth maps v2) v4).Id)) Z (cc.cell Z)) (X8 (kd := Kd.str) Y9 bj ([(nth (nth maps v2) v4).Id] : List Str) (cells := [vs ((nth (nth maps v2) v4).Id)]) ⟨[vs ((nth (nth maps v2) v4).Id)], _, Z, ⟨Z, ca⟩, Z⟩ RF fun df cd ce cf bl hr132 cg ch => ?_)))));obtain ⟨ci, H⟩ := H;have cj := ((a6.sw (bg.so _ a5 (X2 a4)) 1 0 Z Z Z a7).so _ bl hr132);refine Ye Y9 cg (G ad ah ai) xs4 ([(nth (nth maps v2) v4).Id] : List Str) Z cj (G cd ce cf) Z ch.sx 2 Z ci fun dg bm bn bo dh bp a8 ck => ?_;refine Xf (G bm bn bo) Z (Xb (Xd ?_));obtain ⟨cl, H⟩ := H;refine Xa (Yb v4 1 Z Z cl) (Xe (vi (v4 + 1)) Z (Xb ?_));have a9 := a8.drop 0 Z;have cm := a9.drop 0 Z;obtain ⟨cn, co⟩ := H;have bq := av.stown _ a5 (X2 a4);have br := a6.stw 0 Z a7;have bs := bj.stown _ bl hr132;have bt := a8.std 0 Z;have bu := a9.std 0 Z;have cp := ((((((bf.st bq).st br).st bs).st bp).st bt).st bu);have cq := ((((((aw.st bq).st br).st bs).st bp).st bt).st bu);have cr := (a9.sd (a8.sd ck 2 0 Z Z Z) 1 0 Z Z Z);exact ⟨((xs4 ++ ([(nth (nth maps v2) v4).Id] : List Str)), bm, bn, bo, v4 + 1), co, cn, (Xz Z), cm, cp, cq, cr⟩
  have H := Xo H ax;refine Yh (xin_hit ?_);refine Xd ?_;obtain ⟨cs, H⟩ := H;refine Xa (Yb v2 1 Z Z cs) (Xe (vi (v2 + 1)) Z (Xb ?_));obtain ⟨ct, cu⟩ := H;exact ⟨(xs4, ad, ah, ai, v2 + 1), cu, ct, (Xz Z), av, bf, bg⟩
 have H := Xo H aq;refine Yh (xin_hit ?_);refine Xc (Xd (Xe (G aa ac ab) Z ?_));refine Zj go55 [G aa ac ab] Z ((F8.calls aj ao.ok aa ac ab xs2 bc _ H).mono ?_);rintro _ cv ⟨m, rfl, H, cw, cx⟩;have bv := ao.wr 0 Z cw;refine Xb (Xc (Xd (Xe (G aa ac ab) Z ?_)));refine Zj go56 [G aa ac ab] Z ((F1.calls cv bv.ok aa ac ab m cx _ H).mono ?_);rintro _ di ⟨r, ba, rfl, H, cy, cz⟩;have bb := bv.wr 0 Z cy;exact Xf (G aa ba ab) Z (Xb (Xl ⟨[G aa ba ab], ⟨_, Z, Z⟩, r, aa, ba, ab, Z, H, bb.gr.g0, bb.ok, bb.ge, cz⟩))
def F56.E (f : Feat) (fv2 : Str) (Q : Bool → Prop) : Prop :=
 Q (f.Id == fv2)
theorem F56.calls {f : Feat} {A2 : Option Addr} {n3 c4 : Nat} {A7 : Option Addr} {n8 c9 : Nat} {b : Nat} {fv2 : Str} {Q : Bool → Prop} (H : F56.E f fv2 Q) (hO : Ok w0 O) (hs1 : Lim f.Id) (hp5 : Sl kPt w0 (Fr O) (G A2 n3 c4) f.Shape.Pts) (ah : Sl kTag w0 (Fr O) (G A7 n8 c9) f.Tags) (ai : Lim fv2) (hp1 : Fb w0 O b [vs fv2]) :
  Ret Tryz.prog 128 [.agg #[vs f.Id, vi f.Shape.Kind, G A2 n3 c4, G A7 n8 c9], Pz b] w0 (fun v w' => ∃ (r0 : Bool), v = vb r0 ∧ Q r0 ∧ Gr w0 w' none) := by
 unfold F56.E at H;have hc0 := Ct.init hO;refine X9 Tryz.func128 Z 8 Z [.tmp 3] Z Z ?_;refine Xc (Xd (Yp [vs f.Id, vi f.Shape.Kind, G A2 n3 c4, G A7 n8 c9] Z fun aj aa ac hu18 ad ae => ?_));have af := Fb.mk hc0.ok ac ae;have ab := hc0.k0 ad;refine Xf (vb false) Z (Xb (Xc (Xd (Xa (Xj fa44_0 (Ad aa 0) (Ad aa 0) Z Z) (Xa (Xm ag9 cL (Ad aa 0) (vs f.Id) Z (af.cell Z)) ?_)))));have ag := (hp1.st ab.st);exact Xa (Xm ag9 cL (Ad b 0) (vs fv2) Z (ag.cell Z)) (Xa (Yo f.Id fv2 (f.Id == fv2) Z Z Z) (Xf (vb (f.Id == fv2)) Z (Xb (Xl ⟨[vb (f.Id == fv2)], ⟨_, Z, Z⟩, f.Id == fv2, Z, H, ab.gr.g0⟩))))
def F2.E (s : List Feat) (f : Feat → Bool) (f_ok : Feat → Prop) (Q : Int → Prop) : Prop :=
 (∃ (I23 : Int → Prop) (mu24 : Int → Nat), I23 0 ∧ ∀ (v2 : Int), I23 v2 → (if decide (v2 < (s.length : Int)) then ((0 : Int) ≤ v2 ∧ v2 < (s.length : Int)) ∧ (f_ok (nth s v2)) ∧ (if (f (nth s v2)) then Q v2 else (I64 (v2 + 1)) ∧ I23 (v2 + 1) ∧ mu24 (v2 + 1) < mu24 v2) else Q (-1)))
theorem F2.calls {s : List Feat} {A1 : Option Addr} {n2 c3 : Nat} {fg6 : FuncId} {fc7 : List Value} {f : Feat → Bool} {f_ok : Feat → Prop} {Q : Int → Prop} (H : F2.E s f f_ok Q) (hO : Ok w0 O) (hp4 : Sl kFeat w0 (Fr O) (G A1 n2 c3) s) (hgo8 : Goes Tryz.prog fg6) (hf9 : ∀ (w : World) (L : Ob), Ct [] w0 w L O → ∀ (x0_ : Feat) (am : Option Addr) (an ao : Nat) (ap : Option Addr) (aq ar : Nat) (bc : Lim x0_.Id) (bd : Sl kPt w (Fr (L ++ O)) (G am an ao) x0_.Shape.Pts) (be : Sl kTag w (Fr (L ++ O)) (G ap aq ar) x0_.Tags), f_ok x0_ → Ret Tryz.prog fg6 ([.agg #[vs x0_.Id, vi x0_.Shape.Kind, G am an ao, G ap aq ar]] ++ fc7) w (fun v w' => v = vb (f x0_) ∧ Gr w w' none)) :
  Ret Tryz.prog 127 [G A1 n2 c3, .func (.func fg6) #[] fc7.toArray] w0 (fun v w' => ∃ (r0 : Int), v = vi r0 ∧ Q r0 ∧ Gr w0 w' none) := by
 unfold F2.E at H;have hc0 := Ct.init hO;refine X9 Tryz.func127 Z 19 Z [.tmp 4] Z Z ?_;refine Xc (Xd (Xf (vi 0) Z (Xb (Xc (Xc (Xd (Xe (G A1 n2 c3) Z ?_)))))));have bf := hp4.le;refine Xa (Ya u33_ A1 n2 c3 hp4.len Z) (Xe (vi 0) Z (Xb (X6 ?_)));obtain ⟨ay, az, ac, H⟩ := H;refine Yi (α := Int) (fun (sv__ : Int) t aa => match sv__ with | v2 => ay v2 ∧ Has t [(0, G A1 n2 c3), (1, .func (.func fg6) #[] fc7.toArray), (7, vi (s.length : Int)), (8, vi v2)] ∧ Ct [] w0 aa [] O ∧ Sl kFeat aa (Fr ([] ++ O)) (G A1 n2 c3) s) (fun (sv__ : Int) => match sv__ with | v2 => az v2) 0 ⟨ac, (Xz Z), hc0, hp4⟩ ?_;rintro v2 _ aa ⟨ac, a0, ab, ad⟩;obtain ⟨bg, rfl⟩ := Has.ins a0;have H := H v2 ac;refine Xc (Xd (Xa (X1 v2 (s.length : Int) (decide (v2 < (s.length : Int))) Z Z Z) (Xb (Xc ?_))));refine Xy (decide (v2 < (s.length : Int))) Z (fun ae => ?_) (fun ae => ?_)
 ·have H := Xn H ae;refine Xx (Xc (X6 (Xc (Xd (Xe (vi v2) Z (Xf (vi v2) Z (Xb (Xc ?_))))))));refine Xd (Xe (.func (.func fg6) #[] fc7.toArray) Z (Xe (G A1 n2 c3) Z (Xe (vi v2) Z ?_)));obtain ⟨au, H⟩ := H;obtain ⟨av, bh, a1, bi, a2, a3⟩ := ad.get default RD v2 au;obtain ⟨af, ag, ah, ai, aj, ak, rfl, a4, a5, a6⟩ := kFeat.op a2;refine Xa (X5 u33_ Y1 A1 av n2 c3 ad.len v2 Z a1 Z au) (Xa (Xv ag44 sz44 cL (av.add (v2.toNat * 4)) [vs ((nth s v2).Id), vi ((nth s v2).Shape.Kind), G af ag ah, G ai aj ak] Z Z a3) ?_);obtain ⟨a7, H⟩ := H;refine Zs hgo8 fc7 Z [.agg #[vs ((nth s v2).Id), vi ((nth s v2).Shape.Kind), G af ag ah, G ai aj ak]] Z ((hf9 aa [] ab (nth s v2) af ag ah ai aj ak a4 a5 a6 a7).mono ?_);rintro _ bj ⟨rfl, aw⟩;have ax := ab.k0 aw;refine Xb ?_;refine Xy (f (nth s v2)) Z (fun al => ?_) (fun al => ?_)
  ·have H := Xn H al;exact Xc (Xd (Xe (vi v2) Z (Xf (vi v2) Z (Xb (Xl ⟨[vi v2], ⟨_, Z, Z⟩, v2, Z, H, ax.gr.g0⟩)))))
  have H := Xo H al;refine Xx (Xd ?_);obtain ⟨a8, H⟩ := H;refine Xa (Yb v2 1 Z Z a8) (Xe (vi (v2 + 1)) Z (Xb ?_));obtain ⟨a9, ba⟩ := H;have bb := ab.stn aw;exact ⟨v2 + 1, ba, a9, (Xz Z), ax, (ad.st bb)⟩
 have H := Xo H ae;refine Yh (xin_hit ?_);exact Xc (Xd (Xf (vi (-1)) Z (Xb (Xl ⟨[vi (-1)], ⟨_, Z, Z⟩, (-1), Z, H, ab.gr.g0⟩))))
def F108.E (s : List Feat) (id : Str) (Q : Int → Prop) : Prop :=
 (∃ (f : Feat → Bool) (f_ok : Feat → Prop), (∀ x0_, f_ok x0_ → F56.E x0_ id (fun r => r = f x0_)) ∧ F2.E s f f_ok (fun r => Q r))
theorem F108.calls {s : List Feat} {A1 : Option Addr} {n2 c3 : Nat} {id : Str} {Q : Int → Prop} (H : F108.E s id Q) (hO : Ok w0 O) (hp4 : Sl kFeat w0 (Fr O) (G A1 n2 c3) s) (hs6 : Lim id) :
  Ret Tryz.prog 82 [G A1 n2 c3, vs id] w0 (fun v w' => ∃ (r0 : Int), v = vi r0 ∧ Q r0 ∧ Gr w0 w' none) := by
 unfold F108.E at H;have hc0 := Ct.init hO;refine X9 Tryz.func82 Z 8 Z [.tmp 4] Z Z ?_;refine Xc (Xd (Yp [vs id] Z fun w7 b8 ak hu11 g9 al => ?_));have am := Fb.mk hc0.ok ak al;have ag := hc0.k0 g9;refine Xf (vi 0) Z (Xb (Xc (Xd (Xe (G A1 n2 c3) Z (Xa (Z7 [Pz b8] Z) ?_)))));obtain ⟨f, f_ok, an, H⟩ := H;have ao : ∀ (w : World) (L : Ob), Ct [] w7 w L ([] ++ O) → ∀ (x0_ : Feat) (aa : Option Addr) (ab ac : Nat) (ad : Option Addr) (ae af : Nat) (ah : Lim x0_.Id) (ai : Sl kPt w (Fr (L ++ ([] ++ O))) (G aa ab ac) x0_.Shape.Pts) (aj : Sl kTag w (Fr (L ++ ([] ++ O))) (G ad ae af) x0_.Tags), f_ok x0_ → Ret Tryz.prog 128 ([.agg #[vs x0_.Id, vi x0_.Shape.Kind, G aa ab ac, G ad ae af]] ++ [Pz b8]) w (fun v w' => v = vb (f x0_) ∧ Gr w w' none) := by
  intro w L c x0_ aa ab ac ad ae af ah ai aj hok;refine (F56.calls (an x0_ hok) c.ok ah ai aj hs6 (am.st c.st)).mono ?_;rintro _ w2 ⟨r, rfl, rfl, g2⟩;exact ⟨Z, g2⟩
 refine Xs go127 (F2.calls H ag.ok (hp4.st ag.st) go128 ao) Z ?_;rintro _ ar ⟨r, rfl, H, ap⟩;have aq := ag.k0 ap;exact Xf (vi r) Z (Xb (Xl ⟨[vi r], ⟨_, Z, Z⟩, r, Z, H, aq.gr.g0⟩))
def F24.E (s : Shape) (Q : Shape → Prop) : Prop :=
 (([] : List Pt).length + s.Pts.length ≤ 268435456) ∧ Q (⟨s.Kind, (([] : List Pt) ++ s.Pts)⟩ : Shape)
theorem F24.calls {s : Shape} {A1 : Option Addr} {n2 c3 : Nat} {Q : Shape → Prop} (H : F24.E s Q) (hO : Ok w0 O) (hp4 : Sl kPt w0 (Fr O) (G A1 n2 c3) s.Pts) :
  Ret Tryz.prog 72 [.agg #[vi s.Kind, G A1 n2 c3]] w0 (fun v w' => ∃ (r0 : Shape) (Aw0 : Option Addr) (nw0 cw0 : Nat), v = .agg #[vi r0.Kind, G Aw0 nw0 cw0] ∧ Q r0 ∧ Gk w0 w' [bk Aw0] O (Ow kPt 49 w' ([bk Aw0] ++ O) (G Aw0 nw0 cw0) r0.Pts)) := by
 unfold F24.E at H;have hc0 := Ct.init hO;refine X9 Tryz.func72 Z 10 Z [.cell 2 41] Z Z ?_;refine Xc (Xd (Yp [vi s.Kind, G A1 n2 c3] Z fun w6 b7 hl9 hu10 g8 ay => ?_));have az := Fb.mk hc0.ok hl9 ay;have ap := hc0.k0 g8;refine Yk [.int .i64 0, G none 0 0] ze41 fun be ae aq hu19 ar a0 => ?_;have au := ap.own ar (some ae) (Yj aq hu19);refine Xb (Xc (Y7 8 [some ae] RK Z fun bf ag aa => ?_));have ah := au.k0 ag;refine Xu 0 Z RK aa (Xj fa41_0 (Ad b7 0) (Ad b7 0) Z Z) ?_;have a1 := ap.stown _ ar (X2 aq);have a2 := au.stn ag;have af := ((az.st a1).st a2);refine Xu 1 Z RK aa (Y3 ag3 cR (Ad b7 0) (vi s.Kind) Z (af.cell Z) (nm_cons (ah.fne 0 af.2 Z) nm_nil)) ?_;refine Xu 3 Z RK aa (Xj fa41_1 (Ad b7 0) (Ad b7 1) Z Z) ?_;refine Xu 4 Z RK aa (Y3 ag39 cR (Ad b7 1) (G A1 n2 c3) Z (af.cell Z) (nm_cons (ah.fne 0 af.2 Z) nm_nil)) ?_;refine X3 2 RK Z ?_;refine X8 (kd := kPt) Yl ah ([] : List Pt) (cells := []) Z RF fun bg av a3 a4 aw hr35 ai a5 => ?_;have aj := Gm.tm aa aw;refine Xb ⟨aj, ?_⟩;refine X3 5 RK Z ?_;obtain ⟨a6, H⟩ := H;refine Ye Yl ai (G av a3 a4) ([] : List Pt) s.Pts Z a5 (G A1 n2 c3) Z (hp4.st ai.st).sx 0 Z a6 fun bh ab ac ad ax a7 ak a8 => ?_;have al := Gm.tq aj ax (hv_new aa hr35);have bi := hv_app (L := [bk av, some ae]) (O := O) (i := 0) aj Z (hv_new aa hr35) a7 ak;refine Xb ⟨al, ?_⟩;refine Xu 6 Z RK al (Ym (.agg #[vi s.Kind, G ab ac ad]) RF) ?_;refine X3 7 RK Z ?_;have a9 := (ai.bm ((a0.k0 ag).k0 aw) 1 0 Z Z Z ax);refine Yd [vi s.Kind, G ab ac ad] a9 Z Z sz41 Z Z fun bj am ba => ?_;have an := ak.wr 1 Z am;have bb := Gm.tq al am (hv_mem 0 Z);refine Xb ⟨bb, ?_⟩;refine Yq RK ?_;refine Xl ?_;have bc := an.bgv ba 1 Z;have ao := an.drop 1 Z;have bd := (an.sd (ak.sw a8 0 1 Z Z Z am) 0 1 Z Z Z);exact ⟨[.agg #[vi s.Kind, G ab ac ad]], ⟨_, _, Z, bc.1.res Z ag41 sz41, Z⟩, (⟨s.Kind, (([] : List Pt) ++ s.Pts)⟩ : Shape), ab, ac, ad, Z, H, ao.gr.g0, ao.ok, ao.ge, bd⟩
def F40.E (f : Feat) (Q : Feat → Prop) : Prop :=
 (([] : List Tag).length + f.Tags.length ≤ 268435456) ∧ F24.E f.Shape (fun r => Q (⟨f.Id, r, (([] : List Tag) ++ f.Tags)⟩ : Feat))
theorem F40.calls {f : Feat} {A2 : Option Addr} {n3 c4 : Nat} {A7 : Option Addr} {n8 c9 : Nat} {Q : Feat → Prop} (H : F40.E f Q) (hO : Ok w0 O) (hs1 : Lim f.Id) (hp5 : Sl kPt w0 (Fr O) (G A2 n3 c4) f.Shape.Pts) (bn : Sl kTag w0 (Fr O) (G A7 n8 c9) f.Tags) :
  Ret Tryz.prog 77 [.agg #[vs f.Id, vi f.Shape.Kind, G A2 n3 c4, G A7 n8 c9]] w0 (fun v w' => ∃ (r0 : Feat) (Aw0 : Option Addr) (nw0 cw0 : Nat) (Aw2 : Option Addr) (nw2 cw2 : Nat), v = .agg #[vs r0.Id, vi r0.Shape.Kind, G Aw0 nw0 cw0, G Aw2 nw2 cw2] ∧ Q r0 ∧ Gk w0 w' [bk Aw0, bk Aw2] O (Lim r0.Id ∧ Ow kPt 49 w' ([bk Aw0, bk Aw2] ++ O) (G Aw0 nw0 cw0) r0.Shape.Pts ∧ Ow kTag 93 w' ([bk Aw0, bk Aw2] ++ O) (G Aw2 nw2 cw2) r0.Tags)) := by
 unfold F40.E at H;have hc0 := Ct.init hO;refine X9 Tryz.func77 Z 13 Z [.cell 2 44] Z Z ?_;refine Xc (Xd (Yp [vs f.Id, vi f.Shape.Kind, G A2 n3 c4, G A7 n8 c9] Z fun dd ac b3 hu16 b4 b5 => ?_));have b6 := Fb.mk hc0.ok b3 b5;have bo := hc0.k0 b4;refine Yk [vs [], .int .i64 0, G none 0 0, G none 0 0] ze44 fun de aa bp hu25 bq br => ?_;have bs := bo.own bq (some aa) (Yj bp hu25);refine Xb (Xc ?_);obtain ⟨bt, H⟩ := H;refine Zi (J := (fun t ai => ∃ (r : Shape) (ad : Option Addr) (aj ak : Nat) (ae : Option Addr) (al am : Nat), Has t [(2, Pz aa)] ∧ Cw [] w0 ai [bk ae, bk ad, some aa] O fun M => Ow kPt 49 ai M (G ad aj ak) r.Pts ∧ Ow kTag 93 ai M (G ae al am) (([] : List Tag) ++ f.Tags) ∧ Bx ai aa [vs f.Id, vi r.Kind, G ad aj ak, G ae al am] ∧ Q (⟨f.Id, r, (([] : List Tag) ++ f.Tags)⟩ : Feat))) ?_ ?_
 ·refine Y7 11 [some aa] RK Z fun b7 ap ab => ?_;have af := bs.k0 ap;refine Xu 0 Z RK ab (Xj fa44_0 (Ad ac 0) (Ad ac 0) Z Z) ?_;have b8 := bo.stown _ bq (X2 bp);have b9 := bs.stn ap;have ah := ((b6.st b8).st b9);refine Xu 1 Z RK ab (Y3 ag9 cR (Ad ac 0) (vs f.Id) Z (ah.cell Z) (nm_cons (af.fne 0 ah.2 Z) nm_nil)) ?_;refine Xu 2 Z RK ab (Xj fa44_1 (Ad ac 0) (Ad ac 1) Z Z) ?_;refine Xu 3 Z RK ab (Zd ag41 sz41 cR (Ad ac 1) [vi f.Shape.Kind, G A2 n3 c4] Z Z (ah.cells (off := 1) Z) (nm_cons (af.fne 0 ah.2 Z) nm_nil)) ?_;refine Xu 6 Z RK ab (Xj fa44_2 (Ad ac 0) (Ad ac 3) Z Z) ?_;refine Xu 7 Z RK ab (Y3 ag42 cR (Ad ac 3) (G A7 n8 c9) Z (ah.cell Z) (nm_cons (af.fne 0 ah.2 Z) nm_nil)) ?_;refine Y6 4 5 RK Z Z ?_ ?_
  ·refine Xs go72 (F24.calls H af.ok (hp5.st af.st)) Z ?_;rintro _ bu ⟨r, an, aq, ar, rfl, H, bc, ca, cb, cc⟩;have cd := af.owns bc ca cb;have au := Gm.tm ab bc;refine Xb ⟨au, ?_⟩;refine X3 5 RK Z ?_;refine X8 (kd := kTag) Yx cd ([] : List Tag) (cells := []) Z RF fun df bv ce cf bd hr54 av cg => ?_;have ag := Gm.tm au bd;refine Xb ⟨ag, ?_⟩;refine X3 8 RK Z ?_;refine Ye Yx av (G bv ce cf) ([] : List Tag) f.Tags Z cg (G A7 n8 c9) Z (bn.st av.st).sx 0 Z bt fun dg aw ax ay be bw az ch => ?_;have bf := Gm.tq ag be (hv_new au hr54);have dh := hv_app (L := [bk bv, bk an, some aa]) (O := O) (i := 0) ag Z (hv_new au hr54) bw az;refine Xb ⟨bf, ?_⟩;refine Xu 9 Z RK bf (Ym (.agg #[vs f.Id, vi r.Kind, G an aq ar, G aw ax ay]) RF) ?_;refine X3 10 RK Z ?_;have ci := (av.bm (((br.k0 ap).k0 bc).k0 bd) 2 0 Z Z Z be);refine Yd [vs f.Id, vi r.Kind, G an aq ar, G aw ax ay] ci Z Z sz44 Z Z fun di a0 cj => ?_;have ck := az.wr 2 Z a0;have cl := Gm.tq bf a0 (hv_mem 0 Z);refine Xb ⟨cl, ?_⟩;refine Yq RK ?_;have cm := (az.sw (av.sm (cc.so _ bd hr54) 1 0 Z Z Z be bw) 1 2 Z Z Z a0);have cn := (az.sw ch 0 2 Z Z Z a0);exact ⟨r, an, aq, ar, aw, ax, ay, (Xz Z), ck, cm, cn, cj, H⟩
  refine X8 (kd := kTag) Yx af ([] : List Tag) (cells := []) Z RF fun bu bx co cp bz hr42 bg cq => ?_;have b0 := Gm.tm ab bz;refine Xb ⟨b0, ?_⟩;refine X3 4 RK Z ?_;refine Xs go72 (F24.calls H bg.ok (hp5.st bg.st)) Z ?_;rintro _ dj ⟨r, ao, a1, a2, rfl, H, a3, cr, b1, cs⟩;have a4 := bg.owns a3 cr b1;have ag := Gm.tm b0 a3;refine Xb ⟨ag, ?_⟩;refine X3 8 RK Z ?_;have ct := (cq.sos a3 b1);refine Ye Yx a4 (G bx co cp) ([] : List Tag) f.Tags Z ct (G A7 n8 c9) Z (bn.st a4.st).sx 1 Z bt fun dk a5 a6 a7 bh b2 a8 cu => ?_;have bi := Gm.tq ag bh (hv_new ab hr42);have dl := hv_app (L := [bk ao, bk bx, some aa]) (O := O) (i := 1) ag Z (hv_new ab hr42) b2 a8;refine Xb ⟨bi, ?_⟩;refine Xu 9 Z RK bi (Ym (.agg #[vs f.Id, vi r.Kind, G ao a1 a2, G a5 a6 a7]) RF) ?_;refine X3 10 RK Z ?_;have cv := (a4.bm (((br.k0 ap).k0 bz).k0 a3) 2 1 Z Z Z bh);refine Yd [vs f.Id, vi r.Kind, G ao a1 a2, G a5 a6 a7] cv Z Z sz44 Z Z fun dm a9 cw => ?_;have bj := a8.wr 2 Z a9;have cx := Gm.tq bi a9 (hv_mem 0 Z);refine Xb ⟨cx, ?_⟩;refine Yq RK ?_;have cy := bj.perm (.swap _ _ _);have cz := (bj.sp (a8.sw (a4.sm cs 0 1 Z Z Z bh b2) 0 2 Z Z Z a9) (.swap _ _ _));have c0 := (bj.sp (a8.sw cu 1 2 Z Z Z a9) (.swap _ _ _));have c1 := cw;exact ⟨r, ao, a1, a2, a5, a6, a7, (Xz Z), cy, cz, c0, c1, H⟩
 rintro dn ai ⟨r, ad, aj, ak, ae, al, am, c2, ba, c3, c5, c6, H⟩;obtain ⟨dp, rfl⟩ := Has.ins c2;refine Xl ?_;have c7 := ba.bgv c6 2 Z;have bb := ba.drop 2 Z;have bl := bb.perm (.swap _ _ _);have c8 := bb.stp (.swap _ _ _);have da := (c7.st c8);have db := (bb.sp (ba.sd c3 1 2 Z Z Z) (.swap _ _ _));have dc := (bb.sp (ba.sd c5 0 2 Z Z Z) (.swap _ _ _));exact ⟨[.agg #[vs f.Id, vi r.Kind, G ad aj ak, G ae al am]], ⟨_, _, Z, da.1.res Z ag44 sz44, Z⟩, (⟨f.Id, r, (([] : List Tag) ++ f.Tags)⟩ : Feat), ad, aj, ak, ae, al, am, Z, H, bl.gr.g0, bl.ok, bl.ge, hs1, db, dc⟩
def F141.E (s : List Feat) (id : Str) (Q : Feat → Bool → Prop) : Prop :=
 F108.E s id (fun r => (if decide (r < 0) then Q (⟨[], (⟨0, []⟩ : Shape), []⟩ : Feat) false else ((0 : Int) ≤ r ∧ r < (s.length : Int)) ∧ F40.E (nth s r) (fun r2 => Q r2 true)))
theorem F141.calls {s : List Feat} {A1 : Option Addr} {n2 c3 : Nat} {id : Str} {Q : Feat → Bool → Prop} (H : F141.E s id Q) (hO : Ok w0 O) (hp4 : Sl kFeat w0 (Fr O) (G A1 n2 c3) s) (hs6 : Lim id) :
  Ret Tryz.prog 60 [G A1 n2 c3, vs id] w0 (fun v w' => ∃ (r0 : Feat) (r1 : Bool) (Aw0 : Option Addr) (nw0 cw0 : Nat) (Aw2 : Option Addr) (nw2 cw2 : Nat), v = .tuple #[.agg #[vs r0.Id, vi r0.Shape.Kind, G Aw0 nw0 cw0, G Aw2 nw2 cw2], vb r1] ∧ Q r0 r1 ∧ Gk w0 w' [bk Aw0, bk Aw2] O (Lim r0.Id ∧ Ow kPt 49 w' ([bk Aw0, bk Aw2] ++ O) (G Aw0 nw0 cw0) r0.Shape.Pts ∧ Ow kTag 93 w' ([bk Aw0, bk Aw2] ++ O) (G Aw2 nw2 cw2) r0.Tags)) := by
 unfold F141.E at H;have hc0 := Ct.init hO;refine X9 Tryz.func60 Z 18 Z [.cell 4 44, .tmp 5] Z Z ?_;refine Xc (Xd (Yk [vs [], .int .i64 0, G none 0 0, G none 0 0] ze44 fun w7 b8 a4 hu11 g9 az => ?_));have ak := hc0.own g9 (some b8) (Yj a4 hu11);refine Xf (vb false) Z (Xb (Xc (Xd (Xe (G A1 n2 c3) Z (Xe (vs id) Z ?_)))));refine Xs go82 (F108.calls H ak.ok (hp4.st ak.st) hs6) Z ?_;rintro _ a5 ⟨r, rfl, H, al⟩;have aa := ak.k0 al;refine Xf (vi r) Z (Xb (Xc (Xc (Xd (Xe (vi r) Z (Xa (X1 r 0 (decide (r < 0)) Z Z Z) (Xb ?_)))))));refine Xy (decide (r < 0)) Z (fun am => ?_) (fun am => ?_)
 ·have H := Xn H am;refine Xc (Xd (Xa (Ym (.agg #[vs [], vi 0, G none 0 0, G none 0 0]) RF) ?_));have a6 := (az.k0 al);refine Yd [vs [], vi 0, G none 0 0, G none 0 0] a6 Z Z sz44 Z Z fun a0 a7 a8 => ?_;have a9 := aa.wr 0 Z a7;refine Xf (vb false) Z (Xb (Xl ?_));have ba := a9.own (Gr.refl _ none) none (by simp);have bb : Ow kPt 49 a0 ([bk none, some b8] ++ O) (G none 0 0) [] := Ow.nil _ _ _ _;have ab := ba.own (Gr.refl _ none) none (by simp);have bc : Ow kTag 93 a0 ([bk none, bk none, some b8] ++ O) (G none 0 0) [] := Ow.nil _ _ _ _;have bd := a8;have be := ab.bgv bd 2 Z;have ac := ab.drop 2 Z;have an := ac.perm (.swap _ _ _);have bf := ac.stp (.swap _ _ _);have bg := (be.st bf);have bh := (ac.sp (ab.sd (bb.so none (Gr.refl _ none) (by simp)) 1 2 Z Z Z) (.swap _ _ _));have bi := (ac.sp (ab.sd bc 0 2 Z Z Z) (.swap _ _ _));exact ⟨[.agg #[vs [], vi 0, G none 0 0, G none 0 0], vb false], ⟨_, _, Z, bg.1.res Z ag44 sz44, ⟨_, Z, Z⟩⟩, (⟨([] : Str), (⟨0, ([] : List Pt)⟩ : Shape), ([] : List Tag)⟩ : Feat), false, none, 0, 0, none, 0, 0, Z, H, an.gr.g0, an.ok, an.ge, RD, bh, bi⟩
 have H := Xo H am;refine Xx (Xc (Xd (Xe (G A1 n2 c3) Z (Xe (vi r) Z ?_))));obtain ⟨a1, H⟩ := H;obtain ⟨a2, b1, bj, b2, bl, bm⟩ := (hp4.st aa.st).get default RD r a1;obtain ⟨ao, ap, aq, ar, au, av, rfl, bn, bo, bp⟩ := kFeat.op bl;refine Xa (X5 u33_ Y1 A1 a2 n2 c3 (hp4.st aa.st).len r Z bj Z a1) (Xa (Xv ag44 sz44 cL (a2.add (r.toNat * 4)) [vs ((nth s r).Id), vi ((nth s r).Shape.Kind), G ao ap aq, G ar au av] Z Z bm) ?_);refine Xs go77 (F40.calls H aa.ok bn bo bp) Z ?_;rintro _ b3 ⟨r2, ad, ae, af, ag, ah, ai, rfl, H, a3, bq, br, bs, bt, bu⟩;have aw := aa.owns a3 bq br;have bv := ((az.k0 al).k0 a3);refine Yd [vs r2.Id, vi r2.Shape.Kind, G ad ae af, G ag ah ai] bv Z Z sz44 Z Z fun b4 ax bw => ?_;have aj := aw.wr 2 Z ax;refine Xf (vb true) Z (Xb (Xl ?_));have bx := aj.bgv bw 2 Z;have ay := aj.drop 2 Z;have bz := (aj.sd (aw.sw bt 0 2 Z Z Z ax) 0 2 Z Z Z);have b0 := (aj.sd (aw.sw bu 1 2 Z Z Z ax) 1 2 Z Z Z);exact ⟨[.agg #[vs r2.Id, vi r2.Shape.Kind, G ad ae af, G ag ah ai], vb true], ⟨_, _, Z, bx.1.res Z ag44 sz44, ⟨_, Z, Z⟩⟩, r2, true, ad, ae, af, ag, ah, ai, Z, H, ay.gr.g0, ay.ok, ay.ge, bs, bz, b0⟩
def F23.E (s1 s2 : List Pt) (Q : Bool → Prop) : Prop :=
 (if (s1.length : Int) != (s2.length : Int) then Q false else (∃ (I32 : Int → Prop) (mu33 : Int → Nat), I32 0 ∧ ∀ (v2 : Int), I32 v2 → (if decide (v2 < (s1.length : Int)) then ((0 : Int) ≤ v2 ∧ v2 < (s1.length : Int)) ∧ ((0 : Int) ≤ v2 ∧ v2 < (s2.length : Int)) ∧ (if !(eqPt (nth s1 v2) (nth s2 v2)) then Q false else (I64 (v2 + 1)) ∧ I32 (v2 + 1) ∧ mu33 (v2 + 1) < mu33 v2) else Q true)))
theorem F23.calls {s1 : List Pt} {A1 : Option Addr} {n2 c3 : Nat} {s2 : List Pt} {A6 : Option Addr} {n7 c8 : Nat} {Q : Bool → Prop} (H : F23.E s1 s2 Q) (hO : Ok w0 O) (hp4 : Sl kPt w0 (Fr O) (G A1 n2 c3) s1) (hp9 : Sl kPt w0 (Fr O) (G A6 n7 c8) s2) :
  Ret Tryz.prog 118 [G A1 n2 c3, G A6 n7 c8] w0 (fun v w' => ∃ (r0 : Bool), v = vb r0 ∧ Q r0 ∧ Gr w0 w' none) := by
 unfold F23.E at H;have hc0 := Ct.init hO;refine X9 Tryz.func118 Z 26 Z [.tmp 4] Z Z ?_;refine Xc (Xd (Xf (vb false) Z (Xb (Xc (Xc (Xd (Xe (G A1 n2 c3) Z ?_)))))));have a3 := hp4.le;refine Xa (Ya u39_ A1 n2 c3 hp4.len Z) (Xe (G A6 n7 c8) Z ?_);have a4 := hp9.le;refine Xa (Ya u39_ A6 n7 c8 hp9.len Z) (Xa (X1 (s1.length : Int) (s2.length : Int) ((s1.length : Int) != (s2.length : Int)) Z Z Z) (Xb ?_));refine Xy ((s1.length : Int) != (s2.length : Int)) Z (fun ab => ?_) (fun ab => ?_)
 ·have H := Xn H ab;exact Xc (Xd (Xf (vb false) Z (Xb (Xl ⟨[vb false], ⟨_, Z, Z⟩, false, Z, H, hc0.gr.g0⟩))))
 have H := Xo H ab;refine Xx (Xc (Xc (Xd (Xe (G A1 n2 c3) Z (Xa (Ya u39_ A1 n2 c3 hp4.len Z) (Xe (vi 0) Z (Xb (X6 ?_))))))));obtain ⟨ap, aq, ac, H⟩ := H;refine Yi (α := Int) (fun (sv__ : Int) t aa => match sv__ with | v2 => ap v2 ∧ Has t [(0, G A1 n2 c3), (1, G A6 n7 c8), (12, vi (s1.length : Int)), (13, vi v2)] ∧ Cw [] w0 aa [] O fun M => Sl kPt aa (Fr M) (G A1 n2 c3) s1 ∧ Sl kPt aa (Fr M) (G A6 n7 c8) s2) (fun (sv__ : Int) => match sv__ with | v2 => aq v2) 0 ⟨ac, (Xz Z), hc0, hp4, hp9⟩ ?_;rintro v2 _ aa ⟨ac, ar, ad, ae, af⟩;obtain ⟨a5, rfl⟩ := Has.ins ar;have H := H v2 ac;refine Xc (Xd (Xa (X1 v2 (s1.length : Int) (decide (v2 < (s1.length : Int))) Z Z Z) (Xb (Xc ?_))));refine Xy (decide (v2 < (s1.length : Int))) Z (fun ag => ?_) (fun ag => ?_)
 ·have H := Xn H ag;refine Xx (Xc (X6 (Xc (Xd (Xe (vi v2) Z (Xf (vi v2) Z (Xb (Xc ?_))))))));refine Yy (fun x => Gr aa x none) RK RK (Gr.drew _) ?_;refine Xw (G A1 n2 c3) Z (Xw (vi v2) Z ?_);obtain ⟨ai, H⟩ := H;obtain ⟨aj, a6, au, a7, av, aw⟩ := ae.get default RD v2 ai;obtain rfl := kPt.op av;refine Xg (X5 u39_ Yv A1 aj n2 c3 ae.len v2 Z au Z ai) (Xg (Xv ag49 sz49 cQ (aj.add (v2.toNat * 2)) [vi ((nth s1 v2).X), vi ((nth s1 v2).Y)] Z Z aw) (Xw (G A6 n7 c8) Z (Xw (vi v2) Z ?_)));obtain ⟨ak, H⟩ := H;obtain ⟨al, a8, ax, a9, ay, az⟩ := af.get default RD v2 ak;obtain rfl := kPt.op ay;refine Xg (X5 u39_ Yv A6 al n7 c8 af.len v2 Z ax Z ak) (Xg (Xv ag49 sz49 cQ (al.add (v2.toNat * 2)) [vi ((nth s2 v2).X), vi ((nth s2 v2).Y)] Z Z az) (Xg (Zg _ _ (eqPt (nth s1 v2) (nth s2 v2)) (qt49 (nth s1 v2) (nth s2 v2)) Z Z) (Yc fun ba am => ?_)));have an := ad.k0 am;refine Xy (!(eqPt (nth s1 v2) (nth s2 v2))) Z (fun ah => ?_) (fun ah => ?_)
  ·have H := Xn H ah;exact Xc (Xd (Xf (vb false) Z (Xb (Xl ⟨[vb false], ⟨_, Z, Z⟩, false, Z, H, an.gr.g0⟩))))
  have H := Xo H ah;refine Xx (Xd ?_);obtain ⟨a0, H⟩ := H;refine Xa (Yb v2 1 Z Z a0) (Xe (vi (v2 + 1)) Z (Xb ?_));obtain ⟨a1, a2⟩ := H;have ao := ad.stn am;exact ⟨v2 + 1, a2, a1, (Xz Z), an, (ae.st ao), (af.st ao)⟩
 have H := Xo H ag;refine Yh (xin_hit ?_);exact Xc (Xd (Xf (vb true) Z (Xb (Xl ⟨[vb true], ⟨_, Z, Z⟩, true, Z, H, ad.gr.g0⟩))))
def F39.E (a b : Shape) (Q : Bool → Prop) : Prop :=
 (if a.Kind == b.Kind then F23.E a.Pts b.Pts (fun r => Q r) else Q false)
theorem F39.calls {a : Shape} {A1 : Option Addr} {n2 c3 : Nat} {b : Shape} {A6 : Option Addr} {n7 c8 : Nat} {Q : Bool → Prop} (H : F39.E a b Q) (hO : Ok w0 O) (hp4 : Sl kPt w0 (Fr O) (G A1 n2 c3) a.Pts) (hp9 : Sl kPt w0 (Fr O) (G A6 n7 c8) b.Pts) :
  Ret Tryz.prog 70 [.agg #[vi a.Kind, G A1 n2 c3], .agg #[vi b.Kind, G A6 n7 c8]] w0 (fun v w' => ∃ (r0 : Bool), v = vb r0 ∧ Q r0 ∧ Gr w0 w' none) := by
 unfold F39.E at H;have hc0 := Ct.init hO;refine X9 Tryz.func70 Z 17 Z [.tmp 4] Z Z ?_;refine Xc (Xd (Yp [vi a.Kind, G A1 n2 c3] Z fun au ab ai hu15 aj ak => ?_));have al := Fb.mk hc0.ok ai ak;have ae := hc0.k0 aj;refine Yp [vi b.Kind, G A6 n7 c8] Z fun am ac an hu24 af ao => ?_;have ag := Fb.mk ae.ok an ao;have ad := ae.k0 af;refine Xf (vb false) Z (Xb (Xc (Xd (Xa (Xj fa41_0 (Ad ab 0) (Ad ab 0) Z Z) ?_))));have ap := ae.stn af;have ah := (al.st ap);refine Xa (Xm ag3 cL (Ad ab 0) (vi a.Kind) Z (ah.cell Z)) (Xa (Xj fa41_0 (Ad ac 0) (Ad ac 0) Z Z) (Xa (Xm ag3 cL (Ad ac 0) (vi b.Kind) Z (ag.cell Z)) (Xa (X1 a.Kind b.Kind (a.Kind == b.Kind) Z Z Z) (Xe (vb (a.Kind == b.Kind)) Z ?_))));rcases X4 (a.Kind == b.Kind) with aa | aa
 ·have H := Xn H aa;refine Xh aa Z (Xa (Xj fa41_1 (Ad ab 0) (Ad ab 1) Z Z) (Xh aa Z (Xa (Xm ag39 cL (Ad ab 1) (G A1 n2 c3) Z (ah.cell Z)) (Xh aa Z (Xa (Xj fa41_1 (Ad ac 0) (Ad ac 1) Z Z) (Xh aa Z (Xa (Xm ag39 cL (Ad ac 1) (G A6 n7 c8) Z (ag.cell Z)) (Xh aa Z ?_))))))));refine Xs go118 (F23.calls H ad.ok (hp4.st ad.st) (hp9.st ad.st)) Z ?_;rintro _ av ⟨r, rfl, H, aq⟩;have ar := ad.k0 aq;exact Xa (Xk true (vb r) aa Z) (Xf (vb r) Z (Xb (Xl ⟨[vb r], ⟨_, Z, Z⟩, r, Z, H, ar.gr.g0⟩)))
 have H := Xo H aa;refine Xi aa Z (Xi aa Z (Xi aa Z (Xi aa Z (Xi aa Z (Xa (Xk false (vb false) aa Z) (Xf (vb false) Z (Xb (Xl ?_))))))));exact ⟨[vb false], ⟨_, Z, Z⟩, false, Z, H, ad.gr.g0⟩
end Go.Proofs.YtlaaehjcooonfaaGreatDoor