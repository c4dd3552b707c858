/- It is proved here that the law FnDiffOne of the given program holds whatever it is handed: the walks through the code, the plain laws and the row, in this order.
   Conditions: none. -/
import Derived.Below
import Derived.ChangeArms
import Derived.ChangeOld
import Derived.ChangeSlices
import Derived.ChangeVars
import Derived.DataReads
import Derived.Deep.Quiet
import Derived.KernelRfl
import Derived.LaidHandle
import Derived.LaidLaws
import Derived.LaidMore
import Derived.Laws.Build
import Derived.Laws.IdiomStrings
import Derived.Laws.OwnMore
import Derived.Laws.Slices
import Derived.Laws.Strings2
import Derived.Laws.StructEq
import Derived.Lib.ItoaNum
import Derived.Lib.LaidTab
import Derived.MakeChecks
import Derived.OpenShut
import Derived.OpenVars
import Derived.ProofKit
import Derived.SevenTiedAt
import Derived.Shelf.LaysM
import Derived.Shelf.SlSortCmp.NoneTotal
import Derived.Shelf.SlSortCmp.WholeK
import Derived.Shelf.Slices.Cells
import Derived.Shelf.Slices.CompactS
import Derived.Shelf.Slices.In.SortNone
import Derived.Shelf.Small.Bits
import Derived.Shelf.Sort.Plain
import Derived.Shelf.Strconv.Itoa0
import Derived.Shelf.Strconv.Itoa1
import Derived.Shelf.Strconv.Itoa2
import Derived.Shelf.Strconv.Itoa3
import Derived.ShutString
import Derived.SizedLaws
import Derived.StillTail
import Derived.Stop.Joined
import Derived.Test.YtlaaehjcooonfaaGreatDoorCards
import Derived.Test.YtlaaehjcooonfaaGreatDoorProg
import Derived.Test.YtlaaehjcooonfaaGreatDoorRows
import Derived.Test.YtlaaehjcooonfaaGreatDoorTie
import Derived.WalkKit
import Derived.Test.YtlaaehjcooonfaaGreatDoorCDiffOnea
namespace Go.Proofs.YtlaaehjcooonfaaGreatDoor
set_option linter.unusedVariables false
set_option linter.unusedSimpArgs false
set_option linter.unusedSectionVars false
set_option maxHeartbeats 8000000
set_option maxRecDepth 100000
open Go.RowKit
variable {O : Ob} {w0 : World}
def F80.E (r_b : List UInt8) (r_p : Int) (id : Str) (Q : Feat → Int → Prop) : Prop :=
 F69.E r_b r_p (fun r2 m => F22.E r_b m 4 (fun r3 m2 => (∃ (I107 : Int → (List Tag) → Int → Prop) (mu108 : Int → (List Tag) → Int → Nat), I107 r3 [] m2 ∧ ∀ (i2 : Int) (xs2 : List Tag) (z2 : Int), I107 i2 xs2 z2 → (if decide (i2 > 0) then F124.E r_b z2 (fun r4 m3 => F125.E r_b m3 (fun r5 m4 => F126.E xs2 r4 r5 (fun r6 => (I64 (i2 - 1)) ∧ I107 (i2 - 1) r6 m4 ∧ mu108 (i2 - 1) r6 m4 < mu108 i2 xs2 z2))) else Q (⟨id, r2, xs2⟩ : Feat) z2))))
theorem F80.calls {b : Nat} {r_b : List UInt8} {A2 : Option Addr} {n3 c4 : Nat} {r_p : Int} {id : Str} {Q : Feat → Int → Prop} (H : F80.E r_b r_p id Q) (hO : Ok w0 O) (hp5 : Sl Kd.byte w0 (Fr O) (G A2 n3 c4) r_b) (hp0 : Bx w0 b [G A2 n3 c4, vi r_p]) (hm : some b ∈ O) (hs7 : Lim id) :
  Ret Tryz.prog 61 [Pz b, vs id] w0 (fun v w' => ∃ (r0 : Feat) (m0 : Int) (Aw0 : Option Addr) (nw0 cw0 : Nat) (Aw2 : Option Addr) (nw2 cw2 : Nat), v = .agg #[vs r0.Id, vi r0.Shape.Kind, G Aw0 nw0 cw0, G Aw2 nw2 cw2] ∧ Q r0 m0 ∧ Gr w0 w' (some b) ∧ Bx w' b [G A2 n3 c4, vi m0] ∧ Ok w' ([bk Aw0, bk Aw2] ++ O) ∧ (∀ b, some b ∈ [bk Aw0, bk Aw2] → w0.heap.size ≤ b) ∧ Lim r0.Id ∧ Ow kPt 49 w' ([bk Aw0, bk Aw2] ++ O) (G Aw0 nw0 cw0) r0.Shape.Pts ∧ Ow kTag 93 w' ([bk Aw0, bk Aw2] ++ O) (G Aw2 nw2 cw2) r0.Tags) := by
 unfold F80.E at H;have hc0 := Ct.initm1 (r := some b) hO (by intro b e; cases e; exact hm);refine X9 Tryz.func61 Z 26 Z [.cell 4 44] Z Z ?_;refine Xc (Xd (Yp [vs [], .int .i64 0, G none 0 0, G none 0 0] ze44 fun w8 b9 dd hu12 cw de => ?_));have b2 := hc0.own cw (some b9) (Yn dd hu12);refine Xb (Xc (Xd (Xe (vs id) Z (Xe (Pz b) Z ?_))));have df := (hp0.k0 cw);refine Xu go113 (F69.calls H b2.ok (hp5.st b2.st) df (List.mem_append_right _ hm)) Z ?_;rintro _ eq ⟨r2, m, ab, ao, ap, rfl, H, cx, dg, dh, di, dj⟩;have dk := b2.ownm cx dh di;refine Xa (Yl (.agg #[vs id, vi r2.Kind, G ab ao ap, G none 0 0]) RF) (Yp [vs [], .int .i64 0, G none 0 0, G none 0 0] ze44 fun er aa cy hu32 b3 dl => ?_);have b4 := dk.own b3 (some aa) (Yn cy hu32);refine Ye [vs id, vi r2.Kind, G ab ao ap, G none 0 0] dl Z Z sz44 Z Z fun dm b5 dn => ?_;have a3 := b4.wr 0 Z b5;refine Xb (Xc (Xc (Xd (Xe (Pz b) Z ?_))));have dp := (b4.bmo (dg.k0 b3) 0 Z b5);refine Xu go47 (F22.calls H a3.ok (hp5.st a3.st) dp (List.mem_append_right _ hm)) Z ?_;rintro _ cj ⟨r3, m2, rfl, H, b6, dq⟩;have dr := a3.wm b6;refine Xg (vi r3) Z (Xb (X8 ?_));have ds := dr.own (Gr.refl _ none) none (by simp);have dt : Ow kPt 49 cj ([bk none, some aa, bk ab, some b9] ++ O) (G none 0 0) [] := Ow.nil _ _ _ _;have du := ds.own (Gr.refl _ none) none (by simp);have dv : Ow kTag 93 cj ([bk none, bk none, some aa, bk ab, some b9] ++ O) (G none 0 0) [] := Ow.nil _ _ _ _;have cz := du.own (Gr.refl _ none) none (by simp);have dw : Ow kTag 93 cj ([bk none, bk none, bk none, some aa, bk ab, some b9] ++ O) (G none 0 0) [] := Ow.nil _ _ _ _;obtain ⟨dx, dy, ck, H⟩ := H;have dz := ((((a3.swm (b4.sw (dj.so _ b3 (X4 cy)) 1 0 Z Z Z b5) 1 Z b6).so none (Gr.refl _ none) (by simp)).so none (Gr.refl _ none) (by simp)).so none (Gr.refl _ none) (by simp));have d0 := ((dt.so none (Gr.refl _ none) (by simp)).so none (Gr.refl _ none) (by simp));have d1 := (dv.so none (Gr.refl _ none) (by simp));have d2 := dq;have d3 := (a3.bwm (b4.bm ((b2.bwm de 0 Z cx).k0 b3) 2 0 Z Z Z b5) 2 Z b6);have d4 := (a3.bwm dn 0 Z b6);refine Yj (α := Int × (List Tag) × (Option Addr) × Nat × Nat × Int) (fun (i2, xs2, ac, ai, aj, z2) t ay => dx i2 xs2 z2 ∧ Has t [(0, Pz b), (4, Pz b9), (5, Pz aa), (6, vi i2)] ∧ Cw [some b] w0 ay [bk ac, bk none, bk none, some aa, bk ab, some b9] O fun M => Sl Kd.byte ay (Fr M) (G A2 n3 c4) r_b ∧ Ow kPt 49 ay M (G ab ao ap) r2.Pts ∧ Ow kTag 93 ay M (G ac ai aj) xs2 ∧ Ow kPt 49 ay M (G none 0 0) ([] : List Pt) ∧ Ow kTag 93 ay M (G none 0 0) ([] : List Tag) ∧ Bx ay b [G A2 n3 c4, vi z2] ∧ Bx ay b9 [vs [], vi 0, G none 0 0, G none 0 0] ∧ Bx ay aa [vs id, vi r2.Kind, G ab ao ap, G ac ai aj]) (fun (i2, xs2, _, _, _, z2) => dy i2 xs2 z2) (r3, ([] : List Tag), none, 0, 0, m2) ⟨ck, (X0 Z), cz, (hp5.st cz.st), dz, dw, d0, d1, d2, d3, d4⟩ ?_;rintro ⟨i2, xs2, ac, ai, aj, z2⟩ _ ay ⟨ck, d5, a2, a5, b7, b8, cl, cm, cn, ca, cb⟩;obtain ⟨es, rfl⟩ := Has.ins d5;have H := H i2 xs2 z2 ck;refine Xc (Xc (Xd (Xe (vi i2) Z (Xa (X1 i2 0 (decide (i2 > 0)) Z Z Z) (Xb ?_)))));refine Xz (decide (i2 > 0)) Z (fun co => ?_) (fun co => ?_)
 ·have H := Xp H co;refine Xx (Xc (X8 (Za 9 [some b, some aa] RK Z fun c0 ah a4 => ?_)));have ag := a2.k0 ah;refine Xy 0 Z RK a4 (Xj fa44_2 (Ad aa 0) (Ad aa 3) Z Z) ?_;refine Xy 2 Z RK a4 (Y2 (Pz b) Z) ?_;refine Xy 4 Z RK a4 (Y2 (Pz b) Z) ?_;refine Y8 1 3 RK Z Z ?_ ?_
  ·have c1 := (cb.k0 ah);refine Xa (Xo ag42 cL (Ad aa 3) (G ac ai aj) Z (c1.cell Z)) ?_;refine Xb ⟨a4, ?_⟩;refine X5 3 RK Z ?_;have c2 := a2.stn ah;have d6 := (cn.k0 ah);refine Xu go101 (F124.calls H ag.ok (a5.st c2) d6 (List.mem_append_right _ hm)) Z ?_;rintro _ d7 ⟨r4, m3, rfl, H, az, d8, d9⟩;have a0 := ag.wm az;have c3 := Gm.tq a4 az (hv_mem 0 Z);refine Xb ⟨c3, ?_⟩;refine X5 5 RK Z ?_;have cp := ag.stm az;have a6 := ((a5.st c2).st cp);refine Xu go102 (F125.calls H a0.ok a6 d8 (List.mem_append_right _ hm)) Z ?_;rintro _ cq ⟨r5, m4, rfl, H, am, cr, cs⟩;have ar := a0.wm am;have a7 := Gm.tq c3 am (hv_mem 0 Z);refine Xb ⟨a7, ?_⟩;refine X5 6 RK Z ?_;have a8 := (a0.swm (ag.swm (b8.sn ah) 0 Z az) 0 Z am);have a9 := ar.gv a8 0 Z;have ba := ar.drop 0 Z;refine Xu go100 (F126.calls H ba.ok a9 d9 cs) Z ?_;rintro _ c5 ⟨r6, au, av, aw, rfl, H, ad, bb, ak, bc⟩;have bd := Ok.unl (L := [bk ac, bk none, bk none, some aa, bk ab, some b9]) (L' := [bk none, bk none, some aa, bk ab, some b9]) (O := O) ar ad bb ak;have be := Ow.unl (L := [bk ac, bk none, bk none, some aa, bk ab, some b9]) (L' := [bk none, bk none, some aa, bk ab, some b9]) (O := O) (fun _ _ _ _ _ _ h => h) (.cons _ (.cons_cons _ (.cons_cons _ (.cons_cons _ (.cons_cons _ (.cons_cons _ (.slnil))))))) bc;have af := ar.owns ad bd ak;have ax := Gm.tm a7 ad;refine Xb ⟨ax, ?_⟩;refine Xy 7 Z RK ax (Xj fa44_2 (Ad aa 0) (Ad aa 3) Z Z) ?_;refine X5 8 RK Z ?_;have bf := ((a0.bwm (ag.bwm c1 3 Z az) 3 Z am).k0 ad);refine Yw 3 [G au av aw] [vs id, vi r2.Kind, G ab ao ap, G au av aw] bf Z Z sz42 Z Z Z fun c6 ae bg => ?_;have al := af.wr 4 Z ae;have bh := Gm.tq ax ae (hv_mem 1 Z);refine Xb ⟨bh, ?_⟩;refine Yv RK ?_;refine Xd (Xe (vi i2) Z ?_);obtain ⟨bi, H⟩ := H;refine Xa (Y3 i2 1 Z Z bi) (Xg (vi (i2 - 1)) Z (Xb ?_));have bj := al.drop 1 Z;obtain ⟨bl, bn⟩ := H;have bo := a0.stm am;have bp := ar.stos ad ak;have bq := af.stw 4 Z ae;have br := al.std 1 Z;have bs := ((((a6.st bo).st bp).st bq).st br);have bt := (al.sd (af.sw ((a0.swm (ag.swm (b7.sn ah) 4 Z az) 4 Z am).sos ad ak) 5 4 Z Z Z ae) 5 1 Z Z Z);have bu := (al.sd (af.sw be 0 4 Z Z Z ae) 0 1 Z Z Z);have bv := (al.sd (af.sw ((a0.swm (ag.swm (cl.sn ah) 2 Z az) 2 Z am).sos ad ak) 3 4 Z Z Z ae) 3 1 Z Z Z);have bw := (al.sd (af.sw ((a0.swm (ag.swm (cm.sn ah) 1 Z az) 1 Z am).sos ad ak) 2 4 Z Z Z ae) 2 1 Z Z Z);have bx := (af.bmo (cr.k0 ad) 4 Z ae);have bz := (af.bm ((a0.bwm (ag.bwm (ca.k0 ah) 5 Z az) 5 Z am).k0 ad) 6 4 Z Z Z ae);have b0 := bg;exact ⟨(i2 - 1, r6, au, av, aw, m4), bn, bl, (X0 Z), bj, bs, bt, bu, bv, bw, bx, bz, b0⟩
  have ct := a2.stn ah;have ea := (cn.k0 ah);refine Xu go101 (F124.calls H ag.ok (a5.st ct) ea (List.mem_append_right _ hm)) Z ?_;rintro _ c7 ⟨r4, m3, rfl, H, aq, c8, c9⟩;have an := ag.wm aq;have cc := Gm.tq a4 aq (hv_mem 0 Z);refine Xb ⟨cc, ?_⟩;refine Y8 1 5 RK Z Z ?_ ?_
  ·have da := (ag.bwm (cb.k0 ah) 3 Z aq);refine Xa (Xo ag42 cL (Ad aa 3) (G ac ai aj) Z (da.cell Z)) ?_;refine Xb ⟨cc, ?_⟩;refine X5 5 RK Z ?_;have cp := ag.stm aq;have a6 := ((a5.st ct).st cp);refine Xu go102 (F125.calls H an.ok a6 c8 (List.mem_append_right _ hm)) Z ?_;rintro _ cq ⟨r5, m4, rfl, H, am, cr, cs⟩;have ar := an.wm am;have a7 := Gm.tq cc am (hv_mem 0 Z);refine Xb ⟨a7, ?_⟩;refine X5 6 RK Z ?_;have a8 := (an.swm (ag.swm (b8.sn ah) 0 Z aq) 0 Z am);have a9 := ar.gv a8 0 Z;have ba := ar.drop 0 Z;refine Xu go100 (F126.calls H ba.ok a9 c9 cs) Z ?_;rintro _ c5 ⟨r6, au, av, aw, rfl, H, ad, bb, ak, bc⟩;have bd := Ok.unl (L := [bk ac, bk none, bk none, some aa, bk ab, some b9]) (L' := [bk none, bk none, some aa, bk ab, some b9]) (O := O) ar ad bb ak;have be := Ow.unl (L := [bk ac, bk none, bk none, some aa, bk ab, some b9]) (L' := [bk none, bk none, some aa, bk ab, some b9]) (O := O) (fun _ _ _ _ _ _ h => h) (.cons _ (.cons_cons _ (.cons_cons _ (.cons_cons _ (.cons_cons _ (.cons_cons _ (.slnil))))))) bc;have af := ar.owns ad bd ak;have ax := Gm.tm a7 ad;refine Xb ⟨ax, ?_⟩;refine Xy 7 Z RK ax (Xj fa44_2 (Ad aa 0) (Ad aa 3) Z Z) ?_;refine X5 8 RK Z ?_;have bf := ((an.bwm da 3 Z am).k0 ad);refine Yw 3 [G au av aw] [vs id, vi r2.Kind, G ab ao ap, G au av aw] bf Z Z sz42 Z Z Z fun c6 ae bg => ?_;have al := af.wr 4 Z ae;have bh := Gm.tq ax ae (hv_mem 1 Z);refine Xb ⟨bh, ?_⟩;refine Yv RK ?_;refine Xd (Xe (vi i2) Z ?_);obtain ⟨bi, H⟩ := H;refine Xa (Y3 i2 1 Z Z bi) (Xg (vi (i2 - 1)) Z (Xb ?_));have bj := al.drop 1 Z;obtain ⟨bl, bn⟩ := H;have bo := an.stm am;have bp := ar.stos ad ak;have bq := af.stw 4 Z ae;have br := al.std 1 Z;have bs := ((((a6.st bo).st bp).st bq).st br);have bt := (al.sd (af.sw ((an.swm (ag.swm (b7.sn ah) 4 Z aq) 4 Z am).sos ad ak) 5 4 Z Z Z ae) 5 1 Z Z Z);have bu := (al.sd (af.sw be 0 4 Z Z Z ae) 0 1 Z Z Z);have bv := (al.sd (af.sw ((an.swm (ag.swm (cl.sn ah) 2 Z aq) 2 Z am).sos ad ak) 3 4 Z Z Z ae) 3 1 Z Z Z);have bw := (al.sd (af.sw ((an.swm (ag.swm (cm.sn ah) 1 Z aq) 1 Z am).sos ad ak) 2 4 Z Z Z ae) 2 1 Z Z Z);have bx := (af.bmo (cr.k0 ad) 4 Z ae);have bz := (af.bm ((an.bwm (ag.bwm (ca.k0 ah) 5 Z aq) 5 Z am).k0 ad) 6 4 Z Z Z ae);have b0 := bg;exact ⟨(i2 - 1, r6, au, av, aw, m4), bn, bl, (X0 Z), bj, bs, bt, bu, bv, bw, bx, bz, b0⟩
  have eb := ag.stm aq;have db := ((a5.st ct).st eb);refine Xu go102 (F125.calls H an.ok db c8 (List.mem_append_right _ hm)) Z ?_;rintro _ ec ⟨r5, m4, rfl, H, a1, ed, ee⟩;have b1 := an.wm a1;have cu := Gm.tq cc a1 (hv_mem 0 Z);refine Xb ⟨cu, ?_⟩;refine X5 1 RK Z ?_;have dc := (an.bwm (ag.bwm (cb.k0 ah) 3 Z aq) 3 Z a1);refine Xa (Xo ag42 cL (Ad aa 3) (G ac ai aj) Z (dc.cell Z)) ?_;refine Xb ⟨cu, ?_⟩;refine X5 6 RK Z ?_;have a8 := (an.swm (ag.swm (b8.sn ah) 0 Z aq) 0 Z a1);have a9 := b1.gv a8 0 Z;have ba := b1.drop 0 Z;refine Xu go100 (F126.calls H ba.ok a9 c9 ee) Z ?_;rintro _ c5 ⟨r6, au, av, aw, rfl, H, ad, bb, ak, bc⟩;have bd := Ok.unl (L := [bk ac, bk none, bk none, some aa, bk ab, some b9]) (L' := [bk none, bk none, some aa, bk ab, some b9]) (O := O) b1 ad bb ak;have be := Ow.unl (L := [bk ac, bk none, bk none, some aa, bk ab, some b9]) (L' := [bk none, bk none, some aa, bk ab, some b9]) (O := O) (fun _ _ _ _ _ _ h => h) (.cons _ (.cons_cons _ (.cons_cons _ (.cons_cons _ (.cons_cons _ (.cons_cons _ (.slnil))))))) bc;have af := b1.owns ad bd ak;have ax := Gm.tm cu ad;refine Xb ⟨ax, ?_⟩;refine Xy 7 Z RK ax (Xj fa44_2 (Ad aa 0) (Ad aa 3) Z Z) ?_;refine X5 8 RK Z ?_;have bf := (dc.k0 ad);refine Yw 3 [G au av aw] [vs id, vi r2.Kind, G ab ao ap, G au av aw] bf Z Z sz42 Z Z Z fun c6 ae bg => ?_;have al := af.wr 4 Z ae;have bh := Gm.tq ax ae (hv_mem 1 Z);refine Xb ⟨bh, ?_⟩;refine Yv RK ?_;refine Xd (Xe (vi i2) Z ?_);obtain ⟨bi, H⟩ := H;refine Xa (Y3 i2 1 Z Z bi) (Xg (vi (i2 - 1)) Z (Xb ?_));have bj := al.drop 1 Z;obtain ⟨bl, bn⟩ := H;have bo := an.stm a1;have bp := b1.stos ad ak;have bq := af.stw 4 Z ae;have br := al.std 1 Z;have bs := ((((db.st bo).st bp).st bq).st br);have bt := (al.sd (af.sw ((an.swm (ag.swm (b7.sn ah) 4 Z aq) 4 Z a1).sos ad ak) 5 4 Z Z Z ae) 5 1 Z Z Z);have bu := (al.sd (af.sw be 0 4 Z Z Z ae) 0 1 Z Z Z);have bv := (al.sd (af.sw ((an.swm (ag.swm (cl.sn ah) 2 Z aq) 2 Z a1).sos ad ak) 3 4 Z Z Z ae) 3 1 Z Z Z);have bw := (al.sd (af.sw ((an.swm (ag.swm (cm.sn ah) 1 Z aq) 1 Z a1).sos ad ak) 2 4 Z Z Z ae) 2 1 Z Z Z);have bx := (af.bmo (ed.k0 ad) 4 Z ae);have bz := (af.bm ((an.bwm (ag.bwm (ca.k0 ah) 5 Z aq) 5 Z a1).k0 ad) 6 4 Z Z Z ae);have b0 := bg;exact ⟨(i2 - 1, r6, au, av, aw, m4), bn, bl, (X0 Z), bj, bs, bt, bu, bv, bw, bx, bz, b0⟩
 have H := Xq H co;refine Yh (xin_hit ?_);refine Xc (Xd (Xa (Xv ag44 sz44 cL (Ad aa 0) [vs id, vi r2.Kind, G ab ao ap, G ac ai aj] Z Z (cb.cells (off := 00) Z)) (Ye [vs id, vi r2.Kind, G ab ao ap, G ac ai aj] ca Z Z sz44 Z Z fun ef cd eg => ?_)));have ce := a2.wr 5 Z cd;refine Xb (Xn ?_);have eh := ce.bgv eg 5 Z;have cf := ce.drop 5 Z;have cg := cf.drop 1 Z;have ch : Ct [some b] w0 ef [bk ac, some aa, bk ab] O := cg.drop 1 Z;have ci := ch.drop 1 Z;have cv := ci.perm (.swap _ _ _);have ei := cf.std 1 Z;have ej := cg.std 1 Z;have ek := ch.std 1 Z;have el := ci.stp (.swap _ _ _);have em := ((((eh.st ei).st ej).st ek).st el);have en := (ci.sp (ch.sd (cg.sd (cf.sd (ce.sd (a2.sw b7 4 5 Z Z Z cd) 4 5 Z Z Z) 4 1 Z Z Z) 3 1 Z Z Z) 2 1 Z Z Z) (.swap _ _ _));have eo := (ci.sp (ch.sd (cg.sd (cf.sd (ce.sd (a2.sw b8 0 5 Z Z Z cd) 0 5 Z Z Z) 0 1 Z Z Z) 0 1 Z Z Z) 0 1 Z Z Z) (.swap _ _ _));have ep := (a2.bmo cn 5 Z cd);exact ⟨[.agg #[vs id, vi r2.Kind, G ab ao ap, G ac ai aj]], ⟨_, _, Z, em.1.res Z ag44 sz44, Z⟩, (⟨id, r2, xs2⟩ : Feat), z2, ab, ao, ap, ac, ai, aj, Z, H, cv.gr.g1, ep, cv.ok, cv.ge, hs7, en, eo⟩
def F127.E (s : List Feat) (f : Feat) (Q : List Feat → Prop) : Prop :=
 (∃ (I74 : (List Feat) → Bool → Int → Prop) (mu75 : (List Feat) → Bool → Int → Nat), I74 [] false 0 ∧ ∀ (xs2 : List Feat) (done2 : Bool) (i2 : Int), I74 xs2 done2 i2 → (if decide (i2 < (s.length : Int)) then (if !done2 then ((0 : Int) ≤ i2 ∧ i2 < (s.length : Int)) ∧ (if !(Op.bytesLess ((nth s i2).Id) f.Id) then (xs2.length + ([f] : List Feat).length ≤ 268435456) ∧ ((0 : Int) ≤ i2 ∧ i2 < (s.length : Int)) ∧ (if ((nth s i2).Id) != f.Id then ((0 : Int) ≤ i2 ∧ i2 < (s.length : Int)) ∧ ((xs2 ++ ([f] : List Feat)).length + ([(nth s i2)] : List Feat).length ≤ 268435456) ∧ (-9223372036854775808 ≤ i2) ∧ I74 ((xs2 ++ ([f] : List Feat)) ++ ([(nth s i2)] : List Feat)) true (i2 + 1) ∧ mu75 ((xs2 ++ ([f] : List Feat)) ++ ([(nth s i2)] : List Feat)) true (i2 + 1) < mu75 xs2 done2 i2 else (-9223372036854775808 ≤ i2) ∧ I74 (xs2 ++ ([f] : List Feat)) true (i2 + 1) ∧ mu75 (xs2 ++ ([f] : List Feat)) true (i2 + 1) < mu75 xs2 done2 i2) else ((0 : Int) ≤ i2 ∧ i2 < (s.length : Int)) ∧ (if ((nth s i2).Id) != f.Id then ((0 : Int) ≤ i2 ∧ i2 < (s.length : Int)) ∧ (xs2.length + ([(nth s i2)] : List Feat).length ≤ 268435456) ∧ (-9223372036854775808 ≤ i2) ∧ I74 (xs2 ++ ([(nth s i2)] : List Feat)) done2 (i2 + 1) ∧ mu75 (xs2 ++ ([(nth s i2)] : List Feat)) done2 (i2 + 1) < mu75 xs2 done2 i2 else (-9223372036854775808 ≤ i2) ∧ I74 xs2 done2 (i2 + 1) ∧ mu75 xs2 done2 (i2 + 1) < mu75 xs2 done2 i2)) else ((0 : Int) ≤ i2 ∧ i2 < (s.length : Int)) ∧ (if ((nth s i2).Id) != f.Id then ((0 : Int) ≤ i2 ∧ i2 < (s.length : Int)) ∧ (xs2.length + ([(nth s i2)] : List Feat).length ≤ 268435456) ∧ (-9223372036854775808 ≤ i2) ∧ I74 (xs2 ++ ([(nth s i2)] : List Feat)) done2 (i2 + 1) ∧ mu75 (xs2 ++ ([(nth s i2)] : List Feat)) done2 (i2 + 1) < mu75 xs2 done2 i2 else (-9223372036854775808 ≤ i2) ∧ I74 xs2 done2 (i2 + 1) ∧ mu75 xs2 done2 (i2 + 1) < mu75 xs2 done2 i2)) else (if !done2 then (xs2.length + ([f] : List Feat).length ≤ 268435456) ∧ Q (xs2 ++ ([f] : List Feat)) else Q xs2)))
theorem F127.calls {s : List Feat} {A1 : Option Addr} {n2 c3 : Nat} {f : Feat} {A7 : Option Addr} {n8 c9 : Nat} {ag : Option Addr} {ah ai : Nat} {Q : List Feat → Prop} (H : F127.E s f Q) (hO : Ok w0 O) (hp4 : Sl kFeat w0 (Fr O) (G A1 n2 c3) s) (hs6 : Lim f.Id) (dz : Sl kPt w0 (Fr O) (G A7 n8 c9) f.Shape.Pts) (d0 : Sl kTag w0 (Fr O) (G ag ah ai) f.Tags) :
  Ret Tryz.prog 89 [G A1 n2 c3, .agg #[vs f.Id, vi f.Shape.Kind, G A7 n8 c9, G ag ah ai]] w0 (fun v w' => ∃ (r0 : List Feat) (Aw0 : Option Addr) (nw0 cw0 : Nat), v = G Aw0 nw0 cw0 ∧ Q r0 ∧ Gk w0 w' [bk Aw0] O (Ow kFeat 44 w' ([bk Aw0] ++ O) (G Aw0 nw0 cw0) r0)) := by
 unfold F127.E at H;have hc0 := Ct.init hO;refine X9 Tryz.func89 Z 53 Z [.tmp 4] Z Z ?_;refine Xc (Xd (Yo [vs f.Id, vi f.Shape.Kind, G A7 n8 c9, G ag ah ai] Z fun h4 ae d1 hu21 d2 d3 => ?_));have d4 := Fb.mk hc0.ok d1 d3;have c2 := hc0.k0 d2;refine Xg (G none 0 0) Z (Xb (Xc (Xd (Yb (kd := kFeat) Yz c2 ([] : List Feat) (cells := []) Z RF fun h5 c4 c5 c6 d5 hr31 a9 d6 => ?_))));refine Xg (G c4 c5 c6) Z (Xb (Xc (Xd (Xg (vb false) Z (Xb (Xc (Xc (Xd ?_))))))));refine Xg (vi 0) Z (Xb (X8 ?_));obtain ⟨d7, d8, b0, H⟩ := H;have d9 := c2.stown _ d5 hr31;have ea := (d4.st d9);refine Yj (α := (List Feat) × (Option Addr) × Nat × Nat × Bool × Int) (fun (xs2, aa, ac, ad, done2, i2) t an => d7 xs2 done2 i2 ∧ Has t [(0, G A1 n2 c3), (3, Pz ae), (5, G aa ac ad), (6, vb done2), (7, vi i2)] ∧ Cw [] w0 an [bk aa] O fun M => Sl kFeat an (Fr M) (G A1 n2 c3) s ∧ Sl kPt an (Fr M) (G A7 n8 c9) f.Shape.Pts ∧ Sl kTag an (Fr M) (G ag ah ai) f.Tags ∧ Ow kFeat 44 an M (G aa ac ad) xs2 ∧ Fb an M ae [vs f.Id, vi f.Shape.Kind, G A7 n8 c9, G ag ah ai]) (fun (xs2, _, _, _, done2, i2) => d8 xs2 done2 i2) (([] : List Feat), c4, c5, c6, false, 0) ⟨b0, (X0 Z), a9, (hp4.st a9.st), (dz.st a9.st), (d0.st a9.st), d6, ea⟩ ?_;rintro ⟨xs2, aa, ac, ad, done2, i2⟩ _ an ⟨b0, eb, aj, af, ao, ap, ar, a0⟩;obtain ⟨h6, rfl⟩ := Has.ins eb;have H := H xs2 done2 i2 b0;refine Xc (Xc (Xd (Xe (vi i2) Z (Xe (G A1 n2 c3) Z ?_))));have au := af.le;refine Xa (Yc u33_ A1 n2 c3 af.len Z) (Xa (X1 i2 (s.length : Int) (decide (i2 < (s.length : Int))) Z Z Z) (Xb ?_));refine Xz (decide (i2 < (s.length : Int))) Z (fun ak => ?_) (fun ak => ?_)
 ·have H := Xp H ak;refine Xx (Xc (X8 (Xc (Xc (Ys (fun x => Gr an x none) RK RK (Gr.drew _) ?_)))));refine Xs (vb done2) Z (Xf (X7 done2 Z) (Xs (vb (!done2)) Z ?_));rcases X2 (!done2) with ab | ab
  ·have H := Xp H ab;refine Xl ab Z (Xs (G A1 n2 c3) Z (Xl ab Z (Xs (vi i2) Z (Xl ab Z ?_))));obtain ⟨c7, H⟩ := H;obtain ⟨ba, h7, ec, h8, ed, ee⟩ := af.get default RD i2 c7;obtain ⟨h9, ia, ib, ic, id, ie, rfl, ig, ih, ii⟩ := kFeat.op ed;refine Xf (X3 u33_ Y1 A1 ba n2 c3 af.len i2 Z ec Z c7) (Xl ab Z (Xf (Xj fa44_0 (ba.add (i2.toNat * 4)) ((ba.add (i2.toNat * 4)).add 0) Z Z) (Xl ab Z (Xf (Xo ag9 cQ ((ba.add (i2.toNat * 4)).add 0) (vs ((nth s i2).Id)) Z (ee 0 _ Z)) (Xl ab Z (Xf (Xj fa44_0 (Ad ae 0) (Ad ae 0) Z Z) (Xl ab Z (Xf (Xo ag9 cQ (Ad ae 0) (vs f.Id) Z (a0.cell Z)) ?_))))))));refine Xl ab Z (Xf (Yi ((nth s i2).Id) f.Id (!(Op.bytesLess ((nth s i2).Id) f.Id)) Z Z Z) (Xf (Ym true (vb (!(Op.bytesLess ((nth s i2).Id) f.Id))) (by exact congrArg Value.bool ab) Z) (Ya fun ef av => ?_)));have a1 := aj.k0 av;refine Xz (!(Op.bytesLess ((nth s i2).Id) f.Id)) Z (fun b1 => ?_) (fun b1 => ?_)
   ·have H := Xp H b1;refine Xc (Xd (Xe (G aa ac ad) Z ?_));have aq := aj.stn av;have c8 := (a0.st aq);refine Xa (Xv ag44 sz44 cL (Ad ae 0) [vs f.Id, vi f.Shape.Kind, G A7 n8 c9, G ag ah ai] Z Z (c8.cells (off := 00) Z)) (Yb (kd := kFeat) Yz a1 ([f] : List Feat) (cells := [vs f.Id, vi f.Shape.Kind, G A7 n8 c9, G ag ah ai]) ⟨[vs f.Id, vi f.Shape.Kind, G A7 n8 c9, G ag ah ai], _, Z, (kFeat.mk _ _ f hs6 (ao.st aq) (ap.st aq)), Z⟩ RF fun ij eg eh ei da hr115 ej ek => ?_);obtain ⟨el, H⟩ := H;have em := ((ar.sn av).so _ da hr115);refine Yg Yz ej (G aa ac ad) xs2 ([f] : List Feat) Z em (G eg eh ei) Z ek.sx 1 Z el fun en bb bc bd ik aw b2 db => ?_;refine Xg (G bb bc bd) Z (Xb (Xd (Xg (vb true) Z (Xb (Xc (Ys (fun x => Gr en x none) RK RK (Gr.drew _) ?_))))));refine Xs (G A1 n2 c3) Z (Xs (vi i2) Z ?_);obtain ⟨dc, H⟩ := H;have ax := a1.stown _ da hr115;have ay := (((af.st aq).st ax).st aw);obtain ⟨be, il, eo, im, ep, eq⟩ := ay.get default RD i2 dc;obtain ⟨io, ip, iq, ir, it, iu, rfl, iv, iw, ix⟩ := kFeat.op ep;refine Xf (X3 u33_ Y1 A1 be n2 c3 ay.len i2 Z eo Z dc) (Xf (Xj fa44_0 (be.add (i2.toNat * 4)) ((be.add (i2.toNat * 4)).add 0) Z Z) (Xf (Xo ag9 cQ ((be.add (i2.toNat * 4)).add 0) (vs ((nth s i2).Id)) Z (eq 0 _ Z)) (Xf (Xj fa44_0 (Ad ae 0) (Ad ae 0) Z Z) ?_)));have b3 := ((c8.st ax).st aw);refine Xf (Xo ag9 cQ (Ad ae 0) (vs f.Id) Z (b3.cell Z)) (Xf (Yi ((nth s i2).Id) f.Id (((nth s i2).Id) != f.Id) Z Z Z) (Ya fun iy a2 => ?_));have a3 := b2.k0 a2;refine Xz (((nth s i2).Id) != f.Id) Z (fun b4 => ?_) (fun b4 => ?_)
    ·have H := Xp H b4;refine Xd (Xe (G bb bc bd) Z (Xe (G A1 n2 c3) Z (Xe (vi i2) Z ?_)));obtain ⟨dd, H⟩ := H;have az := b2.stn a2;obtain ⟨de, iz, er, i0, es, et⟩ := (ay.st az).get default RD i2 dd;obtain ⟨b5, b6, b7, b8, b9, ca, rfl, eu, ev, ew⟩ := kFeat.op es;refine Xa (X3 u33_ Y1 A1 de n2 c3 (ay.st az).len i2 Z er Z dd) (Xa (Xv ag44 sz44 cL (de.add (i2.toNat * 4)) [vs ((nth s i2).Id), vi ((nth s i2).Shape.Kind), G b5 b6 b7, G b8 b9 ca] Z Z et) (Yb (kd := kFeat) Yz a3 ([(nth s i2)] : List Feat) (cells := [vs ((nth s i2).Id), vi ((nth s i2).Shape.Kind), G b5 b6 b7, G b8 b9 ca]) ⟨[vs ((nth s i2).Id), vi ((nth s i2).Shape.Kind), G b5 b6 b7, G b8 b9 ca], _, Z, (kFeat.mk _ _ (nth s i2) eu ev ew), Z⟩ RF fun i1 ex ey ez df hr180 e0 e1 => ?_));obtain ⟨e2, H⟩ := H;have e3 := ((db.sn a2).so _ df hr180);refine Yg Yz e0 (G bb bc bd) (xs2 ++ ([f] : List Feat)) ([(nth s i2)] : List Feat) Z e3 (G ex ey ez) Z e1.sx 2 Z e2 fun i3 dg dh di i4 bf cb e4 => ?_;refine Xg (G dg dh di) Z (Xb (Xd (Xe (vi i2) Z ?_)));obtain ⟨e5, H⟩ := H;have e6 : I64 (i2 + 1) := i64_succ (of_decide_eq_true ak) au e5;refine Xa (Yd i2 1 Z Z e6) (Xg (vi (i2 + 1)) Z (Xb ?_));have cc := cb.drop 0 Z;have e7 := cc.drop 0 Z;obtain ⟨e8, e9⟩ := H;have bg := a3.stown _ df hr180;have bh := cb.std 0 Z;have bi := cc.std 0 Z;have fa := (((((ay.st az).st bg).st bf).st bh).st bi);have fb := ((((((((ao.st aq).st ax).st aw).st az).st bg).st bf).st bh).st bi);have fc := ((((((((ap.st aq).st ax).st aw).st az).st bg).st bf).st bh).st bi);have fd := (cc.sd (cb.sd e4 2 0 Z Z Z) 1 0 Z Z Z);have fe := (((((b3.st az).st bg).st bf).st bh).st bi);exact ⟨(((xs2 ++ ([f] : List Feat)) ++ ([(nth s i2)] : List Feat)), dg, dh, di, true, i2 + 1), e9, e8, (X0 Z), e7, fa, fb, fc, fd, fe⟩
    have H := Xq H b4;refine Xx (Xd (Xe (vi i2) Z ?_));obtain ⟨ff, H⟩ := H;have fg : I64 (i2 + 1) := i64_succ (of_decide_eq_true ak) au ff;refine Xa (Yd i2 1 Z Z fg) (Xg (vi (i2 + 1)) Z (Xb ?_));have fh := a3.drop 0 Z;obtain ⟨fi, fj⟩ := H;have bj := b2.stn a2;have bl := a3.std 0 Z;have fk := ((ay.st bj).st bl);have fl := (((((ao.st aq).st ax).st aw).st bj).st bl);have fm := (((((ap.st aq).st ax).st aw).st bj).st bl);have fn := (a3.sd (db.sn a2) 1 0 Z Z Z);have fo := ((b3.st bj).st bl);exact ⟨((xs2 ++ ([f] : List Feat)), bb, bc, bd, true, i2 + 1), fj, fi, (X0 Z), fh, fk, fl, fm, fn, fo⟩
   have H := Xq H b1;refine Xx (Xc (Ys (fun x => Gr ef x none) RK RK (Gr.drew _) ?_));refine Xs (G A1 n2 c3) Z (Xs (vi i2) Z ?_);obtain ⟨dj, H⟩ := H;have al := aj.stn av;obtain ⟨bm, i5, fp, i6, fq, fr⟩ := (af.st al).get default RD i2 dj;obtain ⟨i7, i8, i9, ja, jb, jc, rfl, jd, je, jf⟩ := kFeat.op fq;refine Xf (X3 u33_ Y1 A1 bm n2 c3 (af.st al).len i2 Z fp Z dj) (Xf (Xj fa44_0 (bm.add (i2.toNat * 4)) ((bm.add (i2.toNat * 4)).add 0) Z Z) (Xf (Xo ag9 cQ ((bm.add (i2.toNat * 4)).add 0) (vs ((nth s i2).Id)) Z (fr 0 _ Z)) (Xf (Xj fa44_0 (Ad ae 0) (Ad ae 0) Z Z) ?_)));have cd := (a0.st al);refine Xf (Xo ag9 cQ (Ad ae 0) (vs f.Id) Z (cd.cell Z)) (Xf (Yi ((nth s i2).Id) f.Id (((nth s i2).Id) != f.Id) Z Z Z) (Ya fun jg a4 => ?_));have ce := a1.k0 a4;refine Xz (((nth s i2).Id) != f.Id) Z (fun cf => ?_) (fun cf => ?_)
   ·have H := Xp H cf;refine Xd (Xe (G aa ac ad) Z (Xe (G A1 n2 c3) Z (Xe (vi i2) Z ?_)));obtain ⟨dk, H⟩ := H;have bn := a1.stn a4;have cg := ((af.st al).st bn);obtain ⟨dl, jh, fs, ji, ft, fu⟩ := cg.get default RD i2 dk;obtain ⟨ch, ci, cj, ck, cl, cm, rfl, fv, fw, fx⟩ := kFeat.op ft;refine Xa (X3 u33_ Y1 A1 dl n2 c3 cg.len i2 Z fs Z dk) (Xa (Xv ag44 sz44 cL (dl.add (i2.toNat * 4)) [vs ((nth s i2).Id), vi ((nth s i2).Shape.Kind), G ch ci cj, G ck cl cm] Z Z fu) (Yb (kd := kFeat) Yz ce ([(nth s i2)] : List Feat) (cells := [vs ((nth s i2).Id), vi ((nth s i2).Shape.Kind), G ch ci cj, G ck cl cm]) ⟨[vs ((nth s i2).Id), vi ((nth s i2).Shape.Kind), G ch ci cj, G ck cl cm], _, Z, (kFeat.mk _ _ (nth s i2) fv fw fx), Z⟩ RF fun jj fy fz f0 dm hr271 f1 f2 => ?_));obtain ⟨f3, H⟩ := H;have f4 := (((ar.sn av).sn a4).so _ dm hr271);refine Yg Yz f1 (G aa ac ad) xs2 ([(nth s i2)] : List Feat) Z f4 (G fy fz f0) Z f2.sx 1 Z f3 fun jk dn dp dq jl bo cn f5 => ?_;refine Xg (G dn dp dq) Z (Xb (Xd (Xe (vi i2) Z ?_)));obtain ⟨f6, H⟩ := H;have f7 : I64 (i2 + 1) := i64_succ (of_decide_eq_true ak) au f6;refine Xa (Yd i2 1 Z Z f7) (Xg (vi (i2 + 1)) Z (Xb ?_));have f8 := cn.drop 0 Z;obtain ⟨f9, ga⟩ := H;have bp := ce.stown _ dm hr271;have bq := cn.std 0 Z;have gb := (((cg.st bp).st bo).st bq);have gc := (((((ao.st al).st bn).st bp).st bo).st bq);have gd := (((((ap.st al).st bn).st bp).st bo).st bq);have gf := (cn.sd f5 1 0 Z Z Z);have gg := ((((cd.st bn).st bp).st bo).st bq);exact ⟨((xs2 ++ ([(nth s i2)] : List Feat)), dn, dp, dq, done2, i2 + 1), ga, f9, (X0 Z), f8, gb, gc, gd, gf, gg⟩
   have H := Xq H cf;refine Xx (Xd (Xe (vi i2) Z ?_));obtain ⟨gh, H⟩ := H;have gi : I64 (i2 + 1) := i64_succ (of_decide_eq_true ak) au gh;refine Xa (Yd i2 1 Z Z gi) (Xg (vi (i2 + 1)) Z (Xb ?_));obtain ⟨gj, gk⟩ := H;have br := a1.stn a4;have gl := ((af.st al).st br);have gm := ((ao.st al).st br);have gn := ((ap.st al).st br);have gp := ((ar.sn av).sn a4);have gq := (cd.st br);exact ⟨(xs2, aa, ac, ad, done2, i2 + 1), gk, gj, (X0 Z), ce, gl, gm, gn, gp, gq⟩
  have H := Xq H ab;refine Xm ab Z (Xm ab Z (Xm ab Z (Xm ab Z (Xm ab Z (Xm ab Z (Xm ab Z (Xm ab Z (Xf (Xk false (vb false) ab Z) ?_))))))));refine Ya fun gs bs => ?_;have co := aj.k0 bs;refine Y0 (b := false) Z Z ?_;refine Xx (Xc (Ys (fun x => Gr gs x none) RK RK (Gr.drew _) ?_));refine Xs (G A1 n2 c3) Z (Xs (vi i2) Z ?_);obtain ⟨dr, H⟩ := H;have am := aj.stn bs;obtain ⟨bt, jm, gt, jn, gu, gv⟩ := (af.st am).get default RD i2 dr;obtain ⟨jo, jp, jq, jr, js, jt, rfl, ju, jv, jw⟩ := kFeat.op gu;refine Xf (X3 u33_ Y1 A1 bt n2 c3 (af.st am).len i2 Z gt Z dr) (Xf (Xj fa44_0 (bt.add (i2.toNat * 4)) ((bt.add (i2.toNat * 4)).add 0) Z Z) (Xf (Xo ag9 cQ ((bt.add (i2.toNat * 4)).add 0) (vs ((nth s i2).Id)) Z (gv 0 _ Z)) (Xf (Xj fa44_0 (Ad ae 0) (Ad ae 0) Z Z) ?_)));have cp := (a0.st am);refine Xf (Xo ag9 cQ (Ad ae 0) (vs f.Id) Z (cp.cell Z)) (Xf (Yi ((nth s i2).Id) f.Id (((nth s i2).Id) != f.Id) Z Z Z) (Ya fun jx a5 => ?_));have cq := co.k0 a5;refine Xz (((nth s i2).Id) != f.Id) Z (fun cr => ?_) (fun cr => ?_)
  ·have H := Xp H cr;refine Xd (Xe (G aa ac ad) Z (Xe (G A1 n2 c3) Z (Xe (vi i2) Z ?_)));obtain ⟨ds, H⟩ := H;have bu := co.stn a5;have cs := ((af.st am).st bu);obtain ⟨dt, jy, gw, jz, gx, gy⟩ := cs.get default RD i2 ds;obtain ⟨ct, cu, cv, cw, cx, cy, rfl, gz, g1, g2⟩ := kFeat.op gx;refine Xa (X3 u33_ Y1 A1 dt n2 c3 cs.len i2 Z gw Z ds) (Xa (Xv ag44 sz44 cL (dt.add (i2.toNat * 4)) [vs ((nth s i2).Id), vi ((nth s i2).Shape.Kind), G ct cu cv, G cw cx cy] Z Z gy) (Yb (kd := kFeat) Yz cq ([(nth s i2)] : List Feat) (cells := [vs ((nth s i2).Id), vi ((nth s i2).Shape.Kind), G ct cu cv, G cw cx cy]) ⟨[vs ((nth s i2).Id), vi ((nth s i2).Shape.Kind), G ct cu cv, G cw cx cy], _, Z, (kFeat.mk _ _ (nth s i2) gz g1 g2), Z⟩ RF fun j0 g3 g4 g5 du hr362 g6 g7 => ?_));obtain ⟨g8, H⟩ := H;have g9 := (((ar.sn bs).sn a5).so _ du hr362);refine Yg Yz g6 (G aa ac ad) xs2 ([(nth s i2)] : List Feat) Z g9 (G g3 g4 g5) Z g7.sx 1 Z g8 fun j1 dv dw dx j2 bv cz ha => ?_;refine Xg (G dv dw dx) Z (Xb (Xd (Xe (vi i2) Z ?_)));obtain ⟨hb, H⟩ := H;have hc : I64 (i2 + 1) := i64_succ (of_decide_eq_true ak) au hb;refine Xa (Yd i2 1 Z Z hc) (Xg (vi (i2 + 1)) Z (Xb ?_));have hd := cz.drop 0 Z;obtain ⟨he, hf⟩ := H;have bw := cq.stown _ du hr362;have bx := cz.std 0 Z;have hg := (((cs.st bw).st bv).st bx);have hh := (((((ao.st am).st bu).st bw).st bv).st bx);have hi := (((((ap.st am).st bu).st bw).st bv).st bx);have hj := (cz.sd ha 1 0 Z Z Z);have hk := ((((cp.st bu).st bw).st bv).st bx);exact ⟨((xs2 ++ ([(nth s i2)] : List Feat)), dv, dw, dx, done2, i2 + 1), hf, he, (X0 Z), hd, hg, hh, hi, hj, hk⟩
  have H := Xq H cr;refine Xx (Xd (Xe (vi i2) Z ?_));obtain ⟨hl, H⟩ := H;have hm : I64 (i2 + 1) := i64_succ (of_decide_eq_true ak) au hl;refine Xa (Yd i2 1 Z Z hm) (Xg (vi (i2 + 1)) Z (Xb ?_));obtain ⟨hn, ho⟩ := H;have bz := co.stn a5;have hp := ((af.st am).st bz);have hq := ((ao.st am).st bz);have hr := ((ap.st am).st bz);have hs := ((ar.sn bs).sn a5);have ht := (cp.st bz);exact ⟨(xs2, aa, ac, ad, done2, i2 + 1), ho, hn, (X0 Z), cq, hp, hq, hr, hs, ht⟩
 have H := Xq H ak;refine Yh (xin_hit ?_);refine Xc (Xc (Xd (Xe (vb done2) Z (Xa (X7 done2 Z) (Xb ?_)))));refine Xz (!done2) Z (fun c0 => ?_) (fun c0 => ?_)
 ·have H := Xp H c0;refine Xd (Xe (G aa ac ad) Z (Xa (Xv ag44 sz44 cL (Ad ae 0) [vs f.Id, vi f.Shape.Kind, G A7 n8 c9, G ag ah ai] Z Z (a0.cells (off := 00) Z)) (Yb (kd := kFeat) Yz aj ([f] : List Feat) (cells := [vs f.Id, vi f.Shape.Kind, G A7 n8 c9, G ag ah ai]) ⟨[vs f.Id, vi f.Shape.Kind, G A7 n8 c9, G ag ah ai], _, Z, (kFeat.mk _ _ f hs6 ao ap), Z⟩ RF fun j3 hu hv hw hx hr405 hy hz => ?_)));obtain ⟨h0, H⟩ := H;have h1 := (ar.so _ hx hr405);refine Yg Yz hy (G aa ac ad) xs2 ([f] : List Feat) Z h1 (G hu hv hw) Z hz.sx 1 Z h0 fun j4 a6 a7 a8 j5 j6 dy h2 => ?_;refine Xg (G a6 a7 a8) Z (Xb (Xc (Xd (Xe (G a6 a7 a8) Z (Xg (G a6 a7 a8) Z (Xb (Xn ?_)))))));have c1 := dy.drop 0 Z;have h3 := (dy.sd h2 1 0 Z Z Z);exact ⟨[G a6 a7 a8], ⟨_, Z, Z⟩, (xs2 ++ ([f] : List Feat)), a6, a7, a8, Z, H, c1.gr.g0, c1.ok, c1.ge, h3⟩
 have H := Xq H c0;exact Xx (Xc (Xd (Xe (G aa ac ad) Z (Xg (G aa ac ad) Z (Xb (Xn ⟨[G aa ac ad], ⟨_, Z, Z⟩, xs2, aa, ac, ad, Z, H, aj.gr.g0, aj.ok, aj.ge, ar⟩))))))
def F70.E (r_b : List UInt8) (r_p : Int) (Q : List Feat → Int → Prop) : Prop :=
 F22.E r_b r_p 5 (fun r2 m => (∃ (I50 : (List Feat) → Int → Int → Prop) (mu51 : (List Feat) → Int → Int → Nat), I50 [] r2 m ∧ ∀ (xs2 : List Feat) (i2 z2 : Int), I50 xs2 i2 z2 → (if decide (i2 > 0) then F137.E r_b z2 (fun r3 m2 => F80.E r_b m2 r3 (fun r4 m3 => F127.E xs2 r4 (fun r5 => (I64 (i2 - 1)) ∧ I50 r5 (i2 - 1) m3 ∧ mu51 r5 (i2 - 1) m3 < mu51 xs2 i2 z2))) else Q xs2 z2)))
theorem F70.calls {b : Nat} {r_b : List UInt8} {A2 : Option Addr} {n3 c4 : Nat} {r_p : Int} {Q : List Feat → Int → Prop} (H : F70.E r_b r_p Q) (hO : Ok w0 O) (hp5 : Sl Kd.byte w0 (Fr O) (G A2 n3 c4) r_b) (hp0 : Bx w0 b [G A2 n3 c4, vi r_p]) (hm : some b ∈ O) :
  Ret Tryz.prog 48 [Pz b] w0 (fun v w' => ∃ (r0 : List Feat) (m0 : Int) (Aw0 : Option Addr) (nw0 cw0 : Nat), v = G Aw0 nw0 cw0 ∧ Q r0 m0 ∧ Gr w0 w' (some b) ∧ Bx w' b [G A2 n3 c4, vi m0] ∧ Ok w' ([bk Aw0] ++ O) ∧ (∀ b, some b ∈ [bk Aw0] → w0.heap.size ≤ b) ∧ Ow kFeat 44 w' ([bk Aw0] ++ O) (G Aw0 nw0 cw0) r0) := by
 unfold F70.E at H;have hc0 := Ct.initm1 (r := some b) hO (by intro b e; cases e; exact hm);refine X9 Tryz.func48 Z 19 Z [.tmp 2] Z Z ?_;refine Xc (Xd (Xg (G none 0 0) Z (Xb (Xc (Xd (Yb (kd := kFeat) Yz hc0 ([] : List Feat) (cells := []) Z RF fun w7 A8 n9 av bd hr12 ag be => ?_))))));refine Xg (G A8 n9 av) Z (Xb (Xc (Xc (Xd (Xe (Pz b) Z ?_)))));have bf := (hp0.k0 bd);refine Xu go47 (F22.calls H ag.ok (hp5.st ag.st) bf (List.mem_append_right _ hm)) Z ?_;rintro _ cd ⟨r2, m, rfl, H, aw, bg⟩;have ax := ag.wm aw;refine Xg (vi r2) Z (Xb (X8 ?_));obtain ⟨bh, bi, aj, H⟩ := H;have bj := (ag.swm be 0 Z aw);refine Yj (α := (List Feat) × (Option Addr) × Nat × Nat × Int × Int) (fun (xs2, aa, ab, ac, i2, z2) t ae => bh xs2 i2 z2 ∧ Has t [(0, Pz b), (3, G aa ab ac), (4, vi i2)] ∧ Cw [some b] w0 ae [bk aa] O fun M => Sl Kd.byte ae (Fr M) (G A2 n3 c4) r_b ∧ Ow kFeat 44 ae M (G aa ab ac) xs2 ∧ Bx ae b [G A2 n3 c4, vi z2]) (fun (xs2, _, _, _, i2, z2) => bi xs2 i2 z2) (([] : List Feat), A8, n9, av, r2, m) ⟨aj, (X0 Z), ax, (hp5.st ax.st), bj, bg⟩ ?_;rintro ⟨xs2, aa, ab, ac, i2, z2⟩ _ ae ⟨aj, bl, ad, ak, ay, az⟩;obtain ⟨ce, rfl⟩ := Has.ins bl;have H := H xs2 i2 z2 aj;refine Xc (Xc (Xd (Xe (vi i2) Z (Xa (X1 i2 0 (decide (i2 > 0)) Z Z Z) (Xb ?_)))));refine Xz (decide (i2 > 0)) Z (fun al => ?_) (fun al => ?_)
 ·have H := Xp H al;refine Xx (Xc (X8 (Xd (Xe (G aa ab ac) Z (Xe (Pz b) Z (Xe (Pz b) Z ?_))))));refine Xu go98 (F137.calls H ad.ok ak az (List.mem_append_right _ hm)) Z ?_;rintro _ bm ⟨r3, m2, rfl, H, am, bn, bo⟩;have ah := ad.wm am;have a0 := ad.stm am;refine Xu go61 (F80.calls H ah.ok (ak.st a0) bn (List.mem_append_right _ hm) bo) Z ?_;rintro _ a1 ⟨r4, m3, a2, a3, a4, a5, a6, a7, rfl, H, an, bp, bq, ao, br, bs, bt⟩;have af := ah.ownm an bq ao;have bu := (ah.som (ad.swm ay 0 Z am) 0 Z an ao);have bv := af.gv bu 2 Z;have ai := af.drop 2 Z;have bw := (af.sd bs 0 2 Z Z Z);have bx := ai.gv bw 0 Z;have ap := ai.drop 0 Z;have bz := (ai.sd (af.sd bt 1 2 Z Z Z) 1 0 Z Z Z);have b0 := ap.gv bz 0 Z;have aq : Ct [some b] w0 a1 [] O := ap.drop 0 Z;have a8 := ai.std 0 Z;have ar := ap.std 0 Z;have b1 := ((bv.st a8).st ar);refine Xu go89 (F127.calls H aq.ok b1 br (bx.st ar) b0) Z ?_;rintro _ cf ⟨r5, a9, ba, bb, rfl, H, au, b2, bc, b3⟩;have b4 := aq.owns au b2 bc;refine Xg (G a9 ba bb) Z (Xb (Xd (Xe (vi i2) Z ?_)));obtain ⟨b5, H⟩ := H;refine Xa (Y3 i2 1 Z Z b5) (Xg (vi (i2 - 1)) Z (Xb ?_));obtain ⟨b6, b7⟩ := H;have b8 := ah.stom an ao;have b9 := af.std 2 Z;have ca := aq.stos au bc;have cb := ((((((ak.st a0).st b8).st b9).st a8).st ar).st ca);have cc := (bp.k0 au);exact ⟨(r5, a9, ba, bb, i2 - 1, m3), b7, b6, (X0 Z), b4, cb, b3, cc⟩
 have H := Xq H al;refine Yh (xin_hit ?_);exact Xc (Xd (Xe (G aa ab ac) Z (Xg (G aa ab ac) Z (Xb (Xn ⟨[G aa ab ac], ⟨_, Z, Z⟩, xs2, z2, aa, ab, ac, Z, H, ad.gr.g1, az, ad.ok, ad.ge, ay⟩)))))
section
section
variable {P : Program} {n : Nat} {N R : Ps} {X : Nat → Ps} {t : Tm} {w : World} {ops : Array Oper} {C : World → Prop} {listed : Array Bool} {m : Nat}
theorem Kg (i j l : Nat) {o o' o'' : Oper} (hr : Region.ready .any ops listed = [i, j, l]) (hi : ops[i]? = some o) (hj : ops[j]? = some o') (hl : ops[l]? = some o'')
  (k : L P n ops (fun t' w' => C w' ∧ M P n ops C N R X m (listed.setIfInBounds i true) t' w') R X [o] t w)
  (k' : L P n ops (fun t' w' => C w' ∧ M P n ops C N R X m (listed.setIfInBounds j true) t' w') R X [o'] t w)
  (k'' : L P n ops (fun t' w' => C w' ∧ M P n ops C N R X m (listed.setIfInBounds l true) t' w') R X [o''] t w) : M P n ops C N R X (m + 1) listed t w := by
 unfold M
 refine ⟨fun h => (by rw [hr] at h; cases h), fun q hq => ?_⟩
 rw [hr] at hq
 rcases (by simpa using hq : q = i ∨ q = j ∨ q = l) with rfl | rfl | rfl
 ·exact wpOp_mono (fun a' w' ⟨t', e, h⟩ => by rw [e]; unfold M at h; exact h) (Zj hi k)
 ·exact wpOp_mono (fun a' w' ⟨t', e, h⟩ => by rw [e]; unfold M at h; exact h) (Zj hj k')
 ·exact wpOp_mono (fun a' w' ⟨t', e, h⟩ => by rw [e]; unfold M at h; exact h) (Zj hl k'')
end
end
def F92.E (r_b : List UInt8) (r_p : Int) (Q : Shape → Int → Prop) : Prop :=
 F69.E r_b r_p (fun r2 m => F22.E r_b m (r2.Pts.length : Int) (fun r3 m2 => F22.E r_b m2 40 (fun r4 m3 => (if r4 == 0 then F37.E r_b m3 ([0, 4, 1, 2, 3] : List Int) (fun r5 m4 => Q (⟨r5, r2.Pts⟩ : Shape) m4) else (if r4 == 1 then F37.E r_b m3 ([1000, 1001, (-1001)] : List Int) (fun r6 m5 => ((0 : Int) ≤ r3 ∧ r3 < (r2.Pts.length : Int)) ∧ Q (⟨r2.Kind, (r2.Pts.set r3.toNat (⟨r6, (nth r2.Pts r3).Y⟩ : Pt))⟩ : Shape) m5) else (if r4 == 2 then ((r2.Pts.length : Int) ≤ 9223372036854775807 → I64 ((r2.Pts.length : Int) - 1)) ∧ ((0 : Int) ≤ (r2.Pts.length : Int) - 1 ∧ (r2.Pts.length : Int) - 1 < (r2.Pts.length : Int)) ∧ (r2.Pts.length + ([(nth r2.Pts ((r2.Pts.length : Int) - 1))] : List Pt).length ≤ 268435456) ∧ Q (⟨r2.Kind, (r2.Pts ++ ([(nth r2.Pts ((r2.Pts.length : Int) - 1))] : List Pt))⟩ : Shape) m3 else (if r4 == 3 then ((0 : Int) ≤ 0 ∧ (0 : Int) ≤ r3 ∧ r3 ≤ (r2.Pts.length : Int)) ∧ Q (⟨r2.Kind, ((r2.Pts.drop (0 : Int).toNat).take (r3.toNat - (0 : Int).toNat))⟩ : Shape) m3 else Q r2 m3)))))))
theorem F92.calls {b : Nat} {r_b : List UInt8} {A2 : Option Addr} {n3 c4 : Nat} {r_p : Int} {Q : Shape → Int → Prop} (H : F92.E r_b r_p Q) (hO : Ok w0 O) (hp5 : Sl Kd.byte w0 (Fr O) (G A2 n3 c4) r_b) (hp0 : Bx w0 b [G A2 n3 c4, vi r_p]) (hm : some b ∈ O) :
  Ret Tryz.prog 114 [Pz b] w0 (fun v w' => ∃ (r0 : Shape) (m0 : Int) (Aw0 : Option Addr) (nw0 cw0 : Nat), v = .agg #[vi r0.Kind, G Aw0 nw0 cw0] ∧ Q r0 m0 ∧ Gr w0 w' (some b) ∧ Bx w' b [G A2 n3 c4, vi m0] ∧ Sl kPt w' (Fr O) (G Aw0 nw0 cw0) r0.Pts) := by
 unfold F92.E at H;have hc0 := Ct.initm1 (r := some b) hO (by intro b e; cases e; exact hm);refine X9 Tryz.func114 Z 53 Z [.cell 2 41] Z Z ?_;refine Xc (Xd (Yp [.int .i64 0, G none 0 0] ze41 fun w7 b8 ek hu11 g9 bl => ?_));have a9 := hc0.own g9 (some b8) (Yn ek hu11);refine Xb (Xc (Xd (Xe (Pz b) Z ?_)));have el := (hp0.k0 g9);refine Xu go113 (F69.calls H a9.ok (hp5.st a9.st) el (List.mem_append_right _ hm)) Z ?_;rintro _ hb ⟨r2, m, ab, ac, ad, rfl, H, bd, em, en, eo, ep⟩;have eq := a9.ownm bd en eo;refine Yp [.int .i64 0, G none 0 0] ze41 fun hc aa d1 hu31 ba er => ?_;have bb := eq.own ba (some aa) (Yn d1 hu31);refine Ye [vi r2.Kind, G ab ac ad] er Z Z sz41 Z Z fun es bc b2 => ?_;have al := bb.wr 0 Z bc;refine Xb (Xc (Xd (Xe (Pz b) Z (Xa (Xj fa41_1 (Ad aa 0) (Ad aa 1) Z Z) (Xa (Xo ag39 cL (Ad aa 1) (G ab ac ad) Z (b2.cell Z)) ?_)))));have bq := (bb.sw (ep.so _ ba (X4 d1)) 1 0 Z Z Z bc);have ck := bq.le;refine Xa (Yc u39_ ab ac ad bq.len Z) ?_;have et := (bb.bmo (em.k0 ba) 0 Z bc);refine Xu go47 (F22.calls H al.ok (hp5.st al.st) et (List.mem_append_right _ hm)) Z ?_;rintro _ eu ⟨r3, m2, rfl, H, an, ev⟩;have am := al.wm an;refine Xg (vi r3) Z (Xb (Xc (Xc (Xd (Xe (Pz b) Z ?_)))));refine Xu go47 (F22.calls H am.ok (hp5.st am.st) ev (List.mem_append_right _ hm)) Z ?_;rintro _ hd ⟨r4, m3, rfl, H, ao, bn⟩;have b3 := am.wm ao;refine Xb (X8 (Xc (Xd (Xa (X1 r4 0 (r4 == 0) Z Z Z) (Xg (vb (r4 == 0)) Z (Xb ?_))))));refine Xz (r4 == 0) Z (fun c3 => ?_) (fun c3 => ?_)
 ·have H := Xp H c3;refine Xd (Xe (Pz b) Z (Yb (kd := (Kd.int .i64)) Zr b3 ([0, 4, 1, 2, 3] : List Int) (cells := [vi 0, vi 4, vi 1, vi 2, vi 3]) ⟨[vi 0], _, Z, Z, ⟨[vi 4], _, Z, Z, ⟨[vi 1], _, Z, Z, ⟨[vi 2], _, Z, Z, ⟨[vi 3], _, Z, Z, Z⟩⟩⟩⟩⟩ RF fun ew d2 d3 d4 cu hr60 ci ex => ?_));have ey := ci.gv ex 0 Z;have d5 := ci.drop 0 Z;have ez := (bn.k0 cu);refine Xu go146 (F37.calls H d5.ok (hp5.st d5.st) ez (List.mem_append_right _ hm) ey) Z ?_;rintro _ he ⟨r5, m4, rfl, H, cv, e0⟩;have cw := ci.wm cv;refine Xa (Xj fa41_0 (Ad aa 0) (Ad aa 0) Z Z) ?_;have e1 := (ci.bwm ((am.bwm (al.bwm b2 0 Z an) 0 Z ao).k0 cu) 1 Z cv);refine Yw 0 [vi r5] [vi r5, G ab ac ad] e1 Z Z sz3 Z Z Z fun hf cx e2 => ?_;have c5 := cw.wr 1 Z cx;refine Xb (Xc (Xd (Xa (Xv ag41 sz41 cL (Ad aa 0) [vi r5, G ab ac ad] Z Z (e2.cells (off := 00) Z)) ?_)));have e3 := (cw.bm (ci.bwm ((am.bwm (al.bwm (bb.bm ((a9.bwm bl 0 Z bd).k0 ba) 2 0 Z Z Z bc) 2 Z an) 2 Z ao).k0 cu) 3 Z cv) 3 1 Z Z Z cx);refine Ye [vi r5, G ab ac ad] e3 Z Z sz41 Z Z fun hg c6 e4 => ?_;have c7 := c5.wr 3 Z c6;refine Xb (Xn ?_);have e5 := c7.bgv e4 3 Z;have c8 := c7.drop 3 Z;have e6 := (c7.sd (c5.sw (cw.sw (ci.swm ((am.swm (al.swm bq 1 Z an) 1 Z ao).so _ cu hr60) 2 Z cv) 2 1 Z Z Z cx) 2 3 Z Z Z c6) 2 3 Z Z Z);have e7 := c8.gv e6 2 Z;have e8 := c8.drop 2 Z;have e9 := e8.clear;have fa := c8.std 2 Z;have fb := ((e5.st fa).st St.clear);have fc := (c5.bmo (cw.bmo e0 1 Z cx) 3 Z c6);exact ⟨[.agg #[vi r5, G ab ac ad]], ⟨_, _, Z, fb.1.res Z ag41 sz41, Z⟩, (⟨r5, r2.Pts⟩ : Shape), m4, ab, ac, ad, Z, H, e9.gr.g1, fc, (e7.st St.clear)⟩
 have H := Xq H c3;refine Xc (Xd (Xa (X1 r4 1 (r4 == 1) Z Z Z) (Xg (vb (r4 == 1)) Z (Xb ?_))));refine Xz (r4 == 1) Z (fun c9 => ?_) (fun c9 => ?_)
 ·have H := Xp H c9;refine Za 9 [some b, bk ab] RK Z fun hh cl cm => ?_;have da := b3.k0 cl;refine Xy 0 Z RK cm (Xj fa41_1 (Ad aa 0) (Ad aa 1) Z Z) ?_;have d6 := ((am.bwm (al.bwm b2 0 Z an) 0 Z ao).k0 cl);refine Xy 1 Z RK cm (Y6 ag39 cR (Ad aa 1) (G ab ac ad) Z (d6.cell Z) (nm_cons (bx_nem da (j := 0) Z) (nm_cons (bx_ne da (j := 0) (i := 1) Z Z RD) nm_nil))) ?_;refine Xy 2 Z RK cm (Y2 (vi r3) Z) ?_;refine Xy 3 Z RK cm (Y2 (Pz b) Z) ?_;refine X5 4 RK Z ?_;refine Yb (kd := (Kd.int .i64)) Zr da ([1000, 1001, (-1001)] : List Int) (cells := [vi 1000, vi 1001, vi (-1001)]) ⟨[vi 1000], _, Z, Z, ⟨[vi 1001], _, Z, Z, ⟨[vi (-1001)], _, Z, Z, Z⟩⟩⟩ RF fun fd d7 d8 d9 cn hr105 cj fe => ?_;have ea := Gm.tm cm cn;refine Xb ⟨ea, ?_⟩;refine X5 5 RK Z ?_;have ff := cj.gv fe 0 Z;have eb := cj.drop 0 Z;have fg := ((bn.k0 cl).k0 cn);refine Xu go146 (F37.calls H eb.ok (hp5.st eb.st) fg (List.mem_append_right _ hm) ff) Z ?_;rintro _ hi ⟨r6, m5, rfl, H, co, fh⟩;have cy := cj.wm co;have cz := Gm.tq ea co (hv_mem 0 Z);refine Xb ⟨cz, ?_⟩;obtain ⟨db, H⟩ := H;have dc := (cj.swm (((am.swm (al.swm bq 1 Z an) 1 Z ao).sn cl).so _ cn hr105) 2 Z co);obtain ⟨c0, hj, ec, fi, fj⟩ := dc.get default RD r3 db;obtain rfl := kPt.op fi;refine Xy 6 Z RK cz (X3 u39_ Yx ab c0 ac ad dc.len r3 Z ec Z db) ?_;refine Xy 7 Z RK cz (Xj fa49_0 (c0.add (r3.toNat * 2)) ((c0.add (r3.toNat * 2)).add 0) Z Z) ?_;refine X5 8 RK Z ?_;refine Zy ab ac ad r2.Pts dc r3 db c0 ec 0 Z [vi r6] Z sz3 Z (⟨r6, (nth r2.Pts r3).Y⟩ : Pt) [vi ((nth r2.Pts r3).X), vi ((nth r2.Pts r3).Y)] [vi r6, vi ((nth r2.Pts r3).Y)] fj Z Z (kPt.mk _ _ (⟨r6, (nth r2.Pts r3).Y⟩ : Pt)) fun hk cp fk => ?_;have dd := cy.wr 2 Z cp;have fl := Gm.tq cz cp (hv_mem 1 Z);refine Xb ⟨fl, ?_⟩;refine Yv RK ?_;refine Xc (Xd ?_);have fm := (cy.bm (cj.bwm (d6.k0 cn) 1 Z co) 1 2 Z Z Z cp);refine Xa (Xv ag41 sz41 cL (Ad aa 0) [vi r2.Kind, G ab ac ad] Z Z (fm.cells (off := 00) Z)) ?_;have fn := (cy.bm (cj.bwm (((am.bwm (al.bwm (bb.bm ((a9.bwm bl 0 Z bd).k0 ba) 2 0 Z Z Z bc) 2 Z an) 2 Z ao).k0 cl).k0 cn) 3 Z co) 3 2 Z Z Z cp);refine Ye [vi r2.Kind, G ab ac ad] fn Z Z sz41 Z Z fun hl de fo => ?_;have df := dd.wr 3 Z de;refine Xb (Xn ?_);have fp := df.bgv fo 3 Z;have dg := df.drop 3 Z;have fq := (df.sd (dd.sw fk 2 3 Z Z Z de) 2 3 Z Z Z);have fr := dg.gv fq 2 Z;have fs := dg.drop 2 Z;have ft := fs.clear;have fu := dg.std 2 Z;have fv := ((fp.st fu).st St.clear);have fw := (dd.bmo (cy.bmo fh 2 Z cp) 3 Z de);exact ⟨[.agg #[vi r2.Kind, G ab ac ad]], ⟨_, _, Z, fv.1.res Z ag41 sz41, Z⟩, (⟨r2.Kind, (r2.Pts.set r3.toNat (⟨r6, (nth r2.Pts r3).Y⟩ : Pt))⟩ : Shape), m5, ab, ac, ad, Z, H, ft.gr.g1, fw, (fr.st St.clear)⟩
 have H := Xq H c9;refine Xc (Xd (Xa (X1 r4 2 (r4 == 2) Z Z Z) (Xg (vb (r4 == 2)) Z (Xb ?_))));refine Xz (r4 == 2) Z (fun dh => ?_) (fun dh => ?_)
 ·have H := Xp H dh;obtain ⟨cq, H⟩ := H;obtain ⟨bp, H⟩ := H;obtain ⟨bw, H⟩ := H;refine Zi (J := (fun t b6 => ∃ (br : Option Addr) (b4 b5 : Nat), Has t [(2, Pz b8), (3, Pz aa)] ∧ Cw [some b] w0 b6 [some aa, bk br, some b8] O fun M => Sl Kd.byte b6 (Fr M) (G A2 n3 c4) r_b ∧ Ow kPt 49 b6 M (G br b4 b5) (r2.Pts ++ ([(nth r2.Pts ((r2.Pts.length : Int) - 1))] : List Pt)) ∧ Bx b6 b [G A2 n3 c4, vi m3] ∧ Bx b6 b8 [vi 0, G none 0 0] ∧ Bx b6 aa [vi r2.Kind, G br b4 b5])) ?_ ?_
  ·refine Za 14 [bk ab, some aa] RK Z fun hn aw af => ?_;have bx := b3.k0 aw;refine Xy 0 Z RK af (Xj fa41_1 (Ad aa 0) (Ad aa 1) Z Z) ?_;refine Xy 2 Z RK af (Xj fa41_1 (Ad aa 0) (Ad aa 1) Z Z) ?_;refine Xy 4 Z RK af (Xj fa41_1 (Ad aa 0) (Ad aa 1) Z Z) ?_;refine Kg 1 3 5 RK Z Z Z ?_ ?_ ?_
   ·have ax := ((am.bwm (al.bwm b2 0 Z an) 0 Z ao).k0 aw);refine Xa (Xo ag39 cL (Ad aa 1) (G ab ac ad) Z (ax.cell Z)) ?_;refine Xb ⟨af, ?_⟩;refine Y8 3 5 RK Z Z ?_ ?_
    ·refine Xa (Xo ag39 cL (Ad aa 1) (G ab ac ad) Z (ax.cell Z)) ?_;refine Xb ⟨af, ?_⟩;refine X5 5 RK Z ?_;refine Xa (Xo ag39 cL (Ad aa 1) (G ab ac ad) Z (ax.cell Z)) ?_;refine Xb ⟨af, ?_⟩;have ap := ((am.swm (al.swm bq 1 Z an) 1 Z ao).sn aw);refine Xy 6 Z RK af (Yc u39_ ab ac ad ap.len Z) ?_;have bz := cq (len_le ck);refine Xy 7 Z RK af (Y3 (r2.Pts.length : Int) 1 Z Z bz) ?_;obtain ⟨a2, cr, bs, bt, bo⟩ := ap.get default RD ((r2.Pts.length : Int) - 1) bp;obtain rfl := kPt.op bt;refine Xy 8 Z RK af (X3 u39_ Yx ab a2 ac ad ap.len ((r2.Pts.length : Int) - 1) Z bs Z bp) ?_;refine X5 9 RK Z ?_;refine Xa (Xv ag49 sz49 cL (a2.add (((r2.Pts.length : Int) - 1).toNat * 2)) [vi ((nth r2.Pts ((r2.Pts.length : Int) - 1)).X), vi ((nth r2.Pts ((r2.Pts.length : Int) - 1)).Y)] Z Z bo) ?_;refine Xb ⟨af, ?_⟩;refine X5 10 RK Z ?_;refine Yb (kd := kPt) Yt bx ([(nth r2.Pts ((r2.Pts.length : Int) - 1))] : List Pt) (cells := [vi ((nth r2.Pts ((r2.Pts.length : Int) - 1)).X), vi ((nth r2.Pts ((r2.Pts.length : Int) - 1)).Y)]) ⟨[vi ((nth r2.Pts ((r2.Pts.length : Int) - 1)).X), vi ((nth r2.Pts ((r2.Pts.length : Int) - 1)).Y)], _, Z, (kPt.mk _ _ (nth r2.Pts ((r2.Pts.length : Int) - 1))), Z⟩ RF fun b0 ay a3 a4 ae hr173 ag a5 => ?_;have aj := Gm.tm af ae;refine Xb ⟨aj, ?_⟩;refine X5 11 RK Z ?_;have a1 := (ap.so _ ae hr173);refine Yg Yt ag (G ab ac ad) r2.Pts ([(nth r2.Pts ((r2.Pts.length : Int) - 1))] : List Pt) Z a1 (G ay a3 a4) Z a5.sx 2 Z bw fun b7 aq ar au ak be ah bf => ?_;have av := Gm.tq aj ak (hv_mem 0 Z);have b9 := hv_app (L := [bk ay, some aa, bk ab, some b8]) (O := O) (i := 2) aj Z (hv_mem 0 Z) be ah;refine Xb ⟨av, ?_⟩;refine Xy 12 Z RK av (Xj fa41_1 (Ad aa 0) (Ad aa 1) Z Z) ?_;refine X5 13 RK Z ?_;have bg := (ag.bm (ax.k0 ae) 1 2 Z Z Z ak);refine Yw 1 [G aq ar au] [vi r2.Kind, G aq ar au] bg Z Z sz39 Z Z Z fun ca ai bh => ?_;have az := ah.wr 1 Z ai;have bi := Gm.tq av ai (hv_mem 1 Z);refine Xb ⟨bi, ?_⟩;refine Yv RK ?_;have a0 := az.drop 0 Z;have bj := (az.sd (ah.sw bf 2 1 Z Z Z ai) 2 0 Z Z Z);have a6 := (ah.bmo (ag.bmo ((bn.k0 aw).k0 ae) 2 Z ak) 1 Z ai);have a7 := (ah.bm (ag.bm (((am.bwm (al.bwm (bb.bm ((a9.bwm bl 0 Z bd).k0 ba) 2 0 Z Z Z bc) 2 Z an) 2 Z ao).k0 aw).k0 ae) 3 2 Z Z Z ak) 3 1 Z Z Z ai);have a8 := bh;exact ⟨aq, ar, au, (X0 Z), a0, (hp5.st a0.st), bj, a6, a7, a8⟩
    refine Xa (Xo ag39 cL (Ad aa 1) (G ab ac ad) Z (ax.cell Z)) ?_;refine Xb ⟨af, ?_⟩;have ap := ((am.swm (al.swm bq 1 Z an) 1 Z ao).sn aw);refine Xy 6 Z RK af (Yc u39_ ab ac ad ap.len Z) ?_;have bz := cq (len_le ck);refine Xy 7 Z RK af (Y3 (r2.Pts.length : Int) 1 Z Z bz) ?_;refine X5 3 RK Z ?_;refine Xa (Xo ag39 cL (Ad aa 1) (G ab ac ad) Z (ax.cell Z)) ?_;refine Xb ⟨af, ?_⟩;obtain ⟨a2, cr, bs, bt, bo⟩ := ap.get default RD ((r2.Pts.length : Int) - 1) bp;obtain rfl := kPt.op bt;refine Xy 8 Z RK af (X3 u39_ Yx ab a2 ac ad ap.len ((r2.Pts.length : Int) - 1) Z bs Z bp) ?_;refine X5 9 RK Z ?_;refine Xa (Xv ag49 sz49 cL (a2.add (((r2.Pts.length : Int) - 1).toNat * 2)) [vi ((nth r2.Pts ((r2.Pts.length : Int) - 1)).X), vi ((nth r2.Pts ((r2.Pts.length : Int) - 1)).Y)] Z Z bo) ?_;refine Xb ⟨af, ?_⟩;refine X5 10 RK Z ?_;refine Yb (kd := kPt) Yt bx ([(nth r2.Pts ((r2.Pts.length : Int) - 1))] : List Pt) (cells := [vi ((nth r2.Pts ((r2.Pts.length : Int) - 1)).X), vi ((nth r2.Pts ((r2.Pts.length : Int) - 1)).Y)]) ⟨[vi ((nth r2.Pts ((r2.Pts.length : Int) - 1)).X), vi ((nth r2.Pts ((r2.Pts.length : Int) - 1)).Y)], _, Z, (kPt.mk _ _ (nth r2.Pts ((r2.Pts.length : Int) - 1))), Z⟩ RF fun b0 ay a3 a4 ae hr173 ag a5 => ?_;have aj := Gm.tm af ae;refine Xb ⟨aj, ?_⟩;refine X5 11 RK Z ?_;have a1 := (ap.so _ ae hr173);refine Yg Yt ag (G ab ac ad) r2.Pts ([(nth r2.Pts ((r2.Pts.length : Int) - 1))] : List Pt) Z a1 (G ay a3 a4) Z a5.sx 2 Z bw fun b7 aq ar au ak be ah bf => ?_;have av := Gm.tq aj ak (hv_mem 0 Z);have b9 := hv_app (L := [bk ay, some aa, bk ab, some b8]) (O := O) (i := 2) aj Z (hv_mem 0 Z) be ah;refine Xb ⟨av, ?_⟩;refine Xy 12 Z RK av (Xj fa41_1 (Ad aa 0) (Ad aa 1) Z Z) ?_;refine X5 13 RK Z ?_;have bg := (ag.bm (ax.k0 ae) 1 2 Z Z Z ak);refine Yw 1 [G aq ar au] [vi r2.Kind, G aq ar au] bg Z Z sz39 Z Z Z fun ca ai bh => ?_;have az := ah.wr 1 Z ai;have bi := Gm.tq av ai (hv_mem 1 Z);refine Xb ⟨bi, ?_⟩;refine Yv RK ?_;have a0 := az.drop 0 Z;have bj := (az.sd (ah.sw bf 2 1 Z Z Z ai) 2 0 Z Z Z);have a6 := (ah.bmo (ag.bmo ((bn.k0 aw).k0 ae) 2 Z ak) 1 Z ai);have a7 := (ah.bm (ag.bm (((am.bwm (al.bwm (bb.bm ((a9.bwm bl 0 Z bd).k0 ba) 2 0 Z Z Z bc) 2 Z an) 2 Z ao).k0 aw).k0 ae) 3 2 Z Z Z ak) 3 1 Z Z Z ai);have a8 := bh;exact ⟨aq, ar, au, (X0 Z), a0, (hp5.st a0.st), bj, a6, a7, a8⟩
   ·have ax := ((am.bwm (al.bwm b2 0 Z an) 0 Z ao).k0 aw);refine Xa (Xo ag39 cL (Ad aa 1) (G ab ac ad) Z (ax.cell Z)) ?_;refine Xb ⟨af, ?_⟩;refine Y8 1 5 RK Z Z ?_ ?_
    ·refine Xa (Xo ag39 cL (Ad aa 1) (G ab ac ad) Z (ax.cell Z)) ?_;refine Xb ⟨af, ?_⟩;refine X5 5 RK Z ?_;refine Xa (Xo ag39 cL (Ad aa 1) (G ab ac ad) Z (ax.cell Z)) ?_;refine Xb ⟨af, ?_⟩;have ap := ((am.swm (al.swm bq 1 Z an) 1 Z ao).sn aw);refine Xy 6 Z RK af (Yc u39_ ab ac ad ap.len Z) ?_;have bz := cq (len_le ck);refine Xy 7 Z RK af (Y3 (r2.Pts.length : Int) 1 Z Z bz) ?_;obtain ⟨a2, cr, bs, bt, bo⟩ := ap.get default RD ((r2.Pts.length : Int) - 1) bp;obtain rfl := kPt.op bt;refine Xy 8 Z RK af (X3 u39_ Yx ab a2 ac ad ap.len ((r2.Pts.length : Int) - 1) Z bs Z bp) ?_;refine X5 9 RK Z ?_;refine Xa (Xv ag49 sz49 cL (a2.add (((r2.Pts.length : Int) - 1).toNat * 2)) [vi ((nth r2.Pts ((r2.Pts.length : Int) - 1)).X), vi ((nth r2.Pts ((r2.Pts.length : Int) - 1)).Y)] Z Z bo) ?_;refine Xb ⟨af, ?_⟩;refine X5 10 RK Z ?_;refine Yb (kd := kPt) Yt bx ([(nth r2.Pts ((r2.Pts.length : Int) - 1))] : List Pt) (cells := [vi ((nth r2.Pts ((r2.Pts.length : Int) - 1)).X), vi ((nth r2.Pts ((r2.Pts.length : Int) - 1)).Y)]) ⟨[vi ((nth r2.Pts ((r2.Pts.length : Int) - 1)).X), vi ((nth r2.Pts ((r2.Pts.length : Int) - 1)).Y)], _, Z, (kPt.mk _ _ (nth r2.Pts ((r2.Pts.length : Int) - 1))), Z⟩ RF fun b0 ay a3 a4 ae hr173 ag a5 => ?_;have aj := Gm.tm af ae;refine Xb ⟨aj, ?_⟩;refine X5 11 RK Z ?_;have a1 := (ap.so _ ae hr173);refine Yg Yt ag (G ab ac ad) r2.Pts ([(nth r2.Pts ((r2.Pts.length : Int) - 1))] : List Pt) Z a1 (G ay a3 a4) Z a5.sx 2 Z bw fun b7 aq ar au ak be ah bf => ?_;have av := Gm.tq aj ak (hv_mem 0 Z);have b9 := hv_app (L := [bk ay, some aa, bk ab, some b8]) (O := O) (i := 2) aj Z (hv_mem 0 Z) be ah;refine Xb ⟨av, ?_⟩;refine Xy 12 Z RK av (Xj fa41_1 (Ad aa 0) (Ad aa 1) Z Z) ?_;refine X5 13 RK Z ?_;have bg := (ag.bm (ax.k0 ae) 1 2 Z Z Z ak);refine Yw 1 [G aq ar au] [vi r2.Kind, G aq ar au] bg Z Z sz39 Z Z Z fun ca ai bh => ?_;have az := ah.wr 1 Z ai;have bi := Gm.tq av ai (hv_mem 1 Z);refine Xb ⟨bi, ?_⟩;refine Yv RK ?_;have a0 := az.drop 0 Z;have bj := (az.sd (ah.sw bf 2 1 Z Z Z ai) 2 0 Z Z Z);have a6 := (ah.bmo (ag.bmo ((bn.k0 aw).k0 ae) 2 Z ak) 1 Z ai);have a7 := (ah.bm (ag.bm (((am.bwm (al.bwm (bb.bm ((a9.bwm bl 0 Z bd).k0 ba) 2 0 Z Z Z bc) 2 Z an) 2 Z ao).k0 aw).k0 ae) 3 2 Z Z Z ak) 3 1 Z Z Z ai);have a8 := bh;exact ⟨aq, ar, au, (X0 Z), a0, (hp5.st a0.st), bj, a6, a7, a8⟩
    refine Xa (Xo ag39 cL (Ad aa 1) (G ab ac ad) Z (ax.cell Z)) ?_;refine Xb ⟨af, ?_⟩;have ap := ((am.swm (al.swm bq 1 Z an) 1 Z ao).sn aw);refine Xy 6 Z RK af (Yc u39_ ab ac ad ap.len Z) ?_;have bz := cq (len_le ck);refine Xy 7 Z RK af (Y3 (r2.Pts.length : Int) 1 Z Z bz) ?_;obtain ⟨a2, cr, bs, bt, bo⟩ := ap.get default RD ((r2.Pts.length : Int) - 1) bp;obtain rfl := kPt.op bt;refine Xy 8 Z RK af (X3 u39_ Yx ab a2 ac ad ap.len ((r2.Pts.length : Int) - 1) Z bs Z bp) ?_;refine Y8 1 9 RK Z Z ?_ ?_
    ·refine Xa (Xo ag39 cL (Ad aa 1) (G ab ac ad) Z (ax.cell Z)) ?_;refine Xb ⟨af, ?_⟩;refine X5 9 RK Z ?_;refine Xa (Xv ag49 sz49 cL (a2.add (((r2.Pts.length : Int) - 1).toNat * 2)) [vi ((nth r2.Pts ((r2.Pts.length : Int) - 1)).X), vi ((nth r2.Pts ((r2.Pts.length : Int) - 1)).Y)] Z Z bo) ?_;refine Xb ⟨af, ?_⟩;refine X5 10 RK Z ?_;refine Yb (kd := kPt) Yt bx ([(nth r2.Pts ((r2.Pts.length : Int) - 1))] : List Pt) (cells := [vi ((nth r2.Pts ((r2.Pts.length : Int) - 1)).X), vi ((nth r2.Pts ((r2.Pts.length : Int) - 1)).Y)]) ⟨[vi ((nth r2.Pts ((r2.Pts.length : Int) - 1)).X), vi ((nth r2.Pts ((r2.Pts.length : Int) - 1)).Y)], _, Z, (kPt.mk _ _ (nth r2.Pts ((r2.Pts.length : Int) - 1))), Z⟩ RF fun b0 ay a3 a4 ae hr173 ag a5 => ?_;have aj := Gm.tm af ae;refine Xb ⟨aj, ?_⟩;refine X5 11 RK Z ?_;have a1 := (ap.so _ ae hr173);refine Yg Yt ag (G ab ac ad) r2.Pts ([(nth r2.Pts ((r2.Pts.length : Int) - 1))] : List Pt) Z a1 (G ay a3 a4) Z a5.sx 2 Z bw fun b7 aq ar au ak be ah bf => ?_;have av := Gm.tq aj ak (hv_mem 0 Z);have b9 := hv_app (L := [bk ay, some aa, bk ab, some b8]) (O := O) (i := 2) aj Z (hv_mem 0 Z) be ah;refine Xb ⟨av, ?_⟩;refine Xy 12 Z RK av (Xj fa41_1 (Ad aa 0) (Ad aa 1) Z Z) ?_;refine X5 13 RK Z ?_;have bg := (ag.bm (ax.k0 ae) 1 2 Z Z Z ak);refine Yw 1 [G aq ar au] [vi r2.Kind, G aq ar au] bg Z Z sz39 Z Z Z fun ca ai bh => ?_;have az := ah.wr 1 Z ai;have bi := Gm.tq av ai (hv_mem 1 Z);refine Xb ⟨bi, ?_⟩;refine Yv RK ?_;have a0 := az.drop 0 Z;have bj := (az.sd (ah.sw bf 2 1 Z Z Z ai) 2 0 Z Z Z);have a6 := (ah.bmo (ag.bmo ((bn.k0 aw).k0 ae) 2 Z ak) 1 Z ai);have a7 := (ah.bm (ag.bm (((am.bwm (al.bwm (bb.bm ((a9.bwm bl 0 Z bd).k0 ba) 2 0 Z Z Z bc) 2 Z an) 2 Z ao).k0 aw).k0 ae) 3 2 Z Z Z ak) 3 1 Z Z Z ai);have a8 := bh;exact ⟨aq, ar, au, (X0 Z), a0, (hp5.st a0.st), bj, a6, a7, a8⟩
    refine Xa (Xv ag49 sz49 cL (a2.add (((r2.Pts.length : Int) - 1).toNat * 2)) [vi ((nth r2.Pts ((r2.Pts.length : Int) - 1)).X), vi ((nth r2.Pts ((r2.Pts.length : Int) - 1)).Y)] Z Z bo) ?_;refine Xb ⟨af, ?_⟩;refine Y8 1 10 RK Z Z ?_ ?_
    ·refine Xa (Xo ag39 cL (Ad aa 1) (G ab ac ad) Z (ax.cell Z)) ?_;refine Xb ⟨af, ?_⟩;refine X5 10 RK Z ?_;refine Yb (kd := kPt) Yt bx ([(nth r2.Pts ((r2.Pts.length : Int) - 1))] : List Pt) (cells := [vi ((nth r2.Pts ((r2.Pts.length : Int) - 1)).X), vi ((nth r2.Pts ((r2.Pts.length : Int) - 1)).Y)]) ⟨[vi ((nth r2.Pts ((r2.Pts.length : Int) - 1)).X), vi ((nth r2.Pts ((r2.Pts.length : Int) - 1)).Y)], _, Z, (kPt.mk _ _ (nth r2.Pts ((r2.Pts.length : Int) - 1))), Z⟩ RF fun b0 ay a3 a4 ae hr173 ag a5 => ?_;have aj := Gm.tm af ae;refine Xb ⟨aj, ?_⟩;refine X5 11 RK Z ?_;have a1 := (ap.so _ ae hr173);refine Yg Yt ag (G ab ac ad) r2.Pts ([(nth r2.Pts ((r2.Pts.length : Int) - 1))] : List Pt) Z a1 (G ay a3 a4) Z a5.sx 2 Z bw fun b7 aq ar au ak be ah bf => ?_;have av := Gm.tq aj ak (hv_mem 0 Z);have b9 := hv_app (L := [bk ay, some aa, bk ab, some b8]) (O := O) (i := 2) aj Z (hv_mem 0 Z) be ah;refine Xb ⟨av, ?_⟩;refine Xy 12 Z RK av (Xj fa41_1 (Ad aa 0) (Ad aa 1) Z Z) ?_;refine X5 13 RK Z ?_;have bg := (ag.bm (ax.k0 ae) 1 2 Z Z Z ak);refine Yw 1 [G aq ar au] [vi r2.Kind, G aq ar au] bg Z Z sz39 Z Z Z fun ca ai bh => ?_;have az := ah.wr 1 Z ai;have bi := Gm.tq av ai (hv_mem 1 Z);refine Xb ⟨bi, ?_⟩;refine Yv RK ?_;have a0 := az.drop 0 Z;have bj := (az.sd (ah.sw bf 2 1 Z Z Z ai) 2 0 Z Z Z);have a6 := (ah.bmo (ag.bmo ((bn.k0 aw).k0 ae) 2 Z ak) 1 Z ai);have a7 := (ah.bm (ag.bm (((am.bwm (al.bwm (bb.bm ((a9.bwm bl 0 Z bd).k0 ba) 2 0 Z Z Z bc) 2 Z an) 2 Z ao).k0 aw).k0 ae) 3 2 Z Z Z ak) 3 1 Z Z Z ai);have a8 := bh;exact ⟨aq, ar, au, (X0 Z), a0, (hp5.st a0.st), bj, a6, a7, a8⟩
    refine Yb (kd := kPt) Yt bx ([(nth r2.Pts ((r2.Pts.length : Int) - 1))] : List Pt) (cells := [vi ((nth r2.Pts ((r2.Pts.length : Int) - 1)).X), vi ((nth r2.Pts ((r2.Pts.length : Int) - 1)).Y)]) ⟨[vi ((nth r2.Pts ((r2.Pts.length : Int) - 1)).X), vi ((nth r2.Pts ((r2.Pts.length : Int) - 1)).Y)], _, Z, (kPt.mk _ _ (nth r2.Pts ((r2.Pts.length : Int) - 1))), Z⟩ RF fun b0 ay a3 a4 ae hr173 ag a5 => ?_;have aj := Gm.tm af ae;refine Xb ⟨aj, ?_⟩;refine X5 1 RK Z ?_;have a1 := (ax.k0 ae);refine Xa (Xo ag39 cL (Ad aa 1) (G ab ac ad) Z (a1.cell Z)) ?_;refine Xb ⟨aj, ?_⟩;refine X5 11 RK Z ?_;have di := (ap.so _ ae hr173);refine Yg Yt ag (G ab ac ad) r2.Pts ([(nth r2.Pts ((r2.Pts.length : Int) - 1))] : List Pt) Z di (G ay a3 a4) Z a5.sx 2 Z bw fun fx cb cc cd b1 dj bu dk => ?_;have ce := Gm.tq aj b1 (hv_mem 0 Z);have fy := hv_app (L := [bk ay, some aa, bk ab, some b8]) (O := O) (i := 2) aj Z (hv_mem 0 Z) dj bu;refine Xb ⟨ce, ?_⟩;refine Xy 12 Z RK ce (Xj fa41_1 (Ad aa 0) (Ad aa 1) Z Z) ?_;refine X5 13 RK Z ?_;have dl := (ag.bm a1 1 2 Z Z Z b1);refine Yw 1 [G cb cc cd] [vi r2.Kind, G cb cc cd] dl Z Z sz39 Z Z Z fun fz bv dm => ?_;have cs := bu.wr 1 Z bv;have dn := Gm.tq ce bv (hv_mem 1 Z);refine Xb ⟨dn, ?_⟩;refine Yv RK ?_;have ct := cs.drop 0 Z;have a6 := (cs.sd (bu.sw dk 2 1 Z Z Z bv) 2 0 Z Z Z);have a7 := (bu.bmo (ag.bmo ((bn.k0 aw).k0 ae) 2 Z b1) 1 Z bv);have a8 := (bu.bm (ag.bm (((am.bwm (al.bwm (bb.bm ((a9.bwm bl 0 Z bd).k0 ba) 2 0 Z Z Z bc) 2 Z an) 2 Z ao).k0 aw).k0 ae) 3 2 Z Z Z b1) 3 1 Z Z Z bv);have dp := dm;exact ⟨cb, cc, cd, (X0 Z), ct, (hp5.st ct.st), a6, a7, a8, dp⟩
   have ax := ((am.bwm (al.bwm b2 0 Z an) 0 Z ao).k0 aw);refine Xa (Xo ag39 cL (Ad aa 1) (G ab ac ad) Z (ax.cell Z)) ?_;refine Xb ⟨af, ?_⟩;have ap := ((am.swm (al.swm bq 1 Z an) 1 Z ao).sn aw);refine Xy 6 Z RK af (Yc u39_ ab ac ad ap.len Z) ?_;have bz := cq (len_le ck);refine Xy 7 Z RK af (Y3 (r2.Pts.length : Int) 1 Z Z bz) ?_;refine Y8 1 3 RK Z Z ?_ ?_
   ·refine Xa (Xo ag39 cL (Ad aa 1) (G ab ac ad) Z (ax.cell Z)) ?_;refine Xb ⟨af, ?_⟩;refine X5 3 RK Z ?_;refine Xa (Xo ag39 cL (Ad aa 1) (G ab ac ad) Z (ax.cell Z)) ?_;refine Xb ⟨af, ?_⟩;obtain ⟨a2, cr, bs, bt, bo⟩ := ap.get default RD ((r2.Pts.length : Int) - 1) bp;obtain rfl := kPt.op bt;refine Xy 8 Z RK af (X3 u39_ Yx ab a2 ac ad ap.len ((r2.Pts.length : Int) - 1) Z bs Z bp) ?_;refine X5 9 RK Z ?_;refine Xa (Xv ag49 sz49 cL (a2.add (((r2.Pts.length : Int) - 1).toNat * 2)) [vi ((nth r2.Pts ((r2.Pts.length : Int) - 1)).X), vi ((nth r2.Pts ((r2.Pts.length : Int) - 1)).Y)] Z Z bo) ?_;refine Xb ⟨af, ?_⟩;refine X5 10 RK Z ?_;refine Yb (kd := kPt) Yt bx ([(nth r2.Pts ((r2.Pts.length : Int) - 1))] : List Pt) (cells := [vi ((nth r2.Pts ((r2.Pts.length : Int) - 1)).X), vi ((nth r2.Pts ((r2.Pts.length : Int) - 1)).Y)]) ⟨[vi ((nth r2.Pts ((r2.Pts.length : Int) - 1)).X), vi ((nth r2.Pts ((r2.Pts.length : Int) - 1)).Y)], _, Z, (kPt.mk _ _ (nth r2.Pts ((r2.Pts.length : Int) - 1))), Z⟩ RF fun b0 ay a3 a4 ae hr173 ag a5 => ?_;have aj := Gm.tm af ae;refine Xb ⟨aj, ?_⟩;refine X5 11 RK Z ?_;have a1 := (ap.so _ ae hr173);refine Yg Yt ag (G ab ac ad) r2.Pts ([(nth r2.Pts ((r2.Pts.length : Int) - 1))] : List Pt) Z a1 (G ay a3 a4) Z a5.sx 2 Z bw fun b7 aq ar au ak be ah bf => ?_;have av := Gm.tq aj ak (hv_mem 0 Z);have b9 := hv_app (L := [bk ay, some aa, bk ab, some b8]) (O := O) (i := 2) aj Z (hv_mem 0 Z) be ah;refine Xb ⟨av, ?_⟩;refine Xy 12 Z RK av (Xj fa41_1 (Ad aa 0) (Ad aa 1) Z Z) ?_;refine X5 13 RK Z ?_;have bg := (ag.bm (ax.k0 ae) 1 2 Z Z Z ak);refine Yw 1 [G aq ar au] [vi r2.Kind, G aq ar au] bg Z Z sz39 Z Z Z fun ca ai bh => ?_;have az := ah.wr 1 Z ai;have bi := Gm.tq av ai (hv_mem 1 Z);refine Xb ⟨bi, ?_⟩;refine Yv RK ?_;have a0 := az.drop 0 Z;have bj := (az.sd (ah.sw bf 2 1 Z Z Z ai) 2 0 Z Z Z);have a6 := (ah.bmo (ag.bmo ((bn.k0 aw).k0 ae) 2 Z ak) 1 Z ai);have a7 := (ah.bm (ag.bm (((am.bwm (al.bwm (bb.bm ((a9.bwm bl 0 Z bd).k0 ba) 2 0 Z Z Z bc) 2 Z an) 2 Z ao).k0 aw).k0 ae) 3 2 Z Z Z ak) 3 1 Z Z Z ai);have a8 := bh;exact ⟨aq, ar, au, (X0 Z), a0, (hp5.st a0.st), bj, a6, a7, a8⟩
   refine Xa (Xo ag39 cL (Ad aa 1) (G ab ac ad) Z (ax.cell Z)) ?_;refine Xb ⟨af, ?_⟩;obtain ⟨a2, cr, bs, bt, bo⟩ := ap.get default RD ((r2.Pts.length : Int) - 1) bp;obtain rfl := kPt.op bt;refine Xy 8 Z RK af (X3 u39_ Yx ab a2 ac ad ap.len ((r2.Pts.length : Int) - 1) Z bs Z bp) ?_;refine Y8 1 9 RK Z Z ?_ ?_
   ·refine Xa (Xo ag39 cL (Ad aa 1) (G ab ac ad) Z (ax.cell Z)) ?_;refine Xb ⟨af, ?_⟩;refine X5 9 RK Z ?_;refine Xa (Xv ag49 sz49 cL (a2.add (((r2.Pts.length : Int) - 1).toNat * 2)) [vi ((nth r2.Pts ((r2.Pts.length : Int) - 1)).X), vi ((nth r2.Pts ((r2.Pts.length : Int) - 1)).Y)] Z Z bo) ?_;refine Xb ⟨af, ?_⟩;refine X5 10 RK Z ?_;refine Yb (kd := kPt) Yt bx ([(nth r2.Pts ((r2.Pts.length : Int) - 1))] : List Pt) (cells := [vi ((nth r2.Pts ((r2.Pts.length : Int) - 1)).X), vi ((nth r2.Pts ((r2.Pts.length : Int) - 1)).Y)]) ⟨[vi ((nth r2.Pts ((r2.Pts.length : Int) - 1)).X), vi ((nth r2.Pts ((r2.Pts.length : Int) - 1)).Y)], _, Z, (kPt.mk _ _ (nth r2.Pts ((r2.Pts.length : Int) - 1))), Z⟩ RF fun b0 ay a3 a4 ae hr173 ag a5 => ?_;have aj := Gm.tm af ae;refine Xb ⟨aj, ?_⟩;refine X5 11 RK Z ?_;have a1 := (ap.so _ ae hr173);refine Yg Yt ag (G ab ac ad) r2.Pts ([(nth r2.Pts ((r2.Pts.length : Int) - 1))] : List Pt) Z a1 (G ay a3 a4) Z a5.sx 2 Z bw fun b7 aq ar au ak be ah bf => ?_;have av := Gm.tq aj ak (hv_mem 0 Z);have b9 := hv_app (L := [bk ay, some aa, bk ab, some b8]) (O := O) (i := 2) aj Z (hv_mem 0 Z) be ah;refine Xb ⟨av, ?_⟩;refine Xy 12 Z RK av (Xj fa41_1 (Ad aa 0) (Ad aa 1) Z Z) ?_;refine X5 13 RK Z ?_;have bg := (ag.bm (ax.k0 ae) 1 2 Z Z Z ak);refine Yw 1 [G aq ar au] [vi r2.Kind, G aq ar au] bg Z Z sz39 Z Z Z fun ca ai bh => ?_;have az := ah.wr 1 Z ai;have bi := Gm.tq av ai (hv_mem 1 Z);refine Xb ⟨bi, ?_⟩;refine Yv RK ?_;have a0 := az.drop 0 Z;have bj := (az.sd (ah.sw bf 2 1 Z Z Z ai) 2 0 Z Z Z);have a6 := (ah.bmo (ag.bmo ((bn.k0 aw).k0 ae) 2 Z ak) 1 Z ai);have a7 := (ah.bm (ag.bm (((am.bwm (al.bwm (bb.bm ((a9.bwm bl 0 Z bd).k0 ba) 2 0 Z Z Z bc) 2 Z an) 2 Z ao).k0 aw).k0 ae) 3 2 Z Z Z ak) 3 1 Z Z Z ai);have a8 := bh;exact ⟨aq, ar, au, (X0 Z), a0, (hp5.st a0.st), bj, a6, a7, a8⟩
   refine Xa (Xv ag49 sz49 cL (a2.add (((r2.Pts.length : Int) - 1).toNat * 2)) [vi ((nth r2.Pts ((r2.Pts.length : Int) - 1)).X), vi ((nth r2.Pts ((r2.Pts.length : Int) - 1)).Y)] Z Z bo) ?_;refine Xb ⟨af, ?_⟩;refine Y8 1 10 RK Z Z ?_ ?_
   ·refine Xa (Xo ag39 cL (Ad aa 1) (G ab ac ad) Z (ax.cell Z)) ?_;refine Xb ⟨af, ?_⟩;refine X5 10 RK Z ?_;refine Yb (kd := kPt) Yt bx ([(nth r2.Pts ((r2.Pts.length : Int) - 1))] : List Pt) (cells := [vi ((nth r2.Pts ((r2.Pts.length : Int) - 1)).X), vi ((nth r2.Pts ((r2.Pts.length : Int) - 1)).Y)]) ⟨[vi ((nth r2.Pts ((r2.Pts.length : Int) - 1)).X), vi ((nth r2.Pts ((r2.Pts.length : Int) - 1)).Y)], _, Z, (kPt.mk _ _ (nth r2.Pts ((r2.Pts.length : Int) - 1))), Z⟩ RF fun b0 ay a3 a4 ae hr173 ag a5 => ?_;have aj := Gm.tm af ae;refine Xb ⟨aj, ?_⟩;refine X5 11 RK Z ?_;have a1 := (ap.so _ ae hr173);refine Yg Yt ag (G ab ac ad) r2.Pts ([(nth r2.Pts ((r2.Pts.length : Int) - 1))] : List Pt) Z a1 (G ay a3 a4) Z a5.sx 2 Z bw fun b7 aq ar au ak be ah bf => ?_;have av := Gm.tq aj ak (hv_mem 0 Z);have b9 := hv_app (L := [bk ay, some aa, bk ab, some b8]) (O := O) (i := 2) aj Z (hv_mem 0 Z) be ah;refine Xb ⟨av, ?_⟩;refine Xy 12 Z RK av (Xj fa41_1 (Ad aa 0) (Ad aa 1) Z Z) ?_;refine X5 13 RK Z ?_;have bg := (ag.bm (ax.k0 ae) 1 2 Z Z Z ak);refine Yw 1 [G aq ar au] [vi r2.Kind, G aq ar au] bg Z Z sz39 Z Z Z fun ca ai bh => ?_;have az := ah.wr 1 Z ai;have bi := Gm.tq av ai (hv_mem 1 Z);refine Xb ⟨bi, ?_⟩;refine Yv RK ?_;have a0 := az.drop 0 Z;have bj := (az.sd (ah.sw bf 2 1 Z Z Z ai) 2 0 Z Z Z);have a6 := (ah.bmo (ag.bmo ((bn.k0 aw).k0 ae) 2 Z ak) 1 Z ai);have a7 := (ah.bm (ag.bm (((am.bwm (al.bwm (bb.bm ((a9.bwm bl 0 Z bd).k0 ba) 2 0 Z Z Z bc) 2 Z an) 2 Z ao).k0 aw).k0 ae) 3 2 Z Z Z ak) 3 1 Z Z Z ai);have a8 := bh;exact ⟨aq, ar, au, (X0 Z), a0, (hp5.st a0.st), bj, a6, a7, a8⟩
   refine Yb (kd := kPt) Yt bx ([(nth r2.Pts ((r2.Pts.length : Int) - 1))] : List Pt) (cells := [vi ((nth r2.Pts ((r2.Pts.length : Int) - 1)).X), vi ((nth r2.Pts ((r2.Pts.length : Int) - 1)).Y)]) ⟨[vi ((nth r2.Pts ((r2.Pts.length : Int) - 1)).X), vi ((nth r2.Pts ((r2.Pts.length : Int) - 1)).Y)], _, Z, (kPt.mk _ _ (nth r2.Pts ((r2.Pts.length : Int) - 1))), Z⟩ RF fun b0 ay a3 a4 ae hr173 ag a5 => ?_;have aj := Gm.tm af ae;refine Xb ⟨aj, ?_⟩;refine X5 1 RK Z ?_;have a1 := (ax.k0 ae);refine Xa (Xo ag39 cL (Ad aa 1) (G ab ac ad) Z (a1.cell Z)) ?_;refine Xb ⟨aj, ?_⟩;refine X5 11 RK Z ?_;have di := (ap.so _ ae hr173);refine Yg Yt ag (G ab ac ad) r2.Pts ([(nth r2.Pts ((r2.Pts.length : Int) - 1))] : List Pt) Z di (G ay a3 a4) Z a5.sx 2 Z bw fun fx cb cc cd b1 dj bu dk => ?_;have ce := Gm.tq aj b1 (hv_mem 0 Z);have fy := hv_app (L := [bk ay, some aa, bk ab, some b8]) (O := O) (i := 2) aj Z (hv_mem 0 Z) dj bu;refine Xb ⟨ce, ?_⟩;refine Xy 12 Z RK ce (Xj fa41_1 (Ad aa 0) (Ad aa 1) Z Z) ?_;refine X5 13 RK Z ?_;have dl := (ag.bm a1 1 2 Z Z Z b1);refine Yw 1 [G cb cc cd] [vi r2.Kind, G cb cc cd] dl Z Z sz39 Z Z Z fun fz bv dm => ?_;have cs := bu.wr 1 Z bv;have dn := Gm.tq ce bv (hv_mem 1 Z);refine Xb ⟨dn, ?_⟩;refine Yv RK ?_;have ct := cs.drop 0 Z;have a6 := (cs.sd (bu.sw dk 2 1 Z Z Z bv) 2 0 Z Z Z);have a7 := (bu.bmo (ag.bmo ((bn.k0 aw).k0 ae) 2 Z b1) 1 Z bv);have a8 := (bu.bm (ag.bm (((am.bwm (al.bwm (bb.bm ((a9.bwm bl 0 Z bd).k0 ba) 2 0 Z Z Z bc) 2 Z an) 2 Z ao).k0 aw).k0 ae) 3 2 Z Z Z b1) 3 1 Z Z Z bv);have dp := dm;exact ⟨cb, cc, cd, (X0 Z), ct, (hp5.st ct.st), a6, a7, a8, dp⟩
  rintro ho b6 ⟨br, b4, b5, f0, dq, hp, f1, f2, f3, f4⟩;obtain ⟨hq, rfl⟩ := Has.ins f0;refine Xc (Xd (Xa (Xv ag41 sz41 cL (Ad aa 0) [vi r2.Kind, G br b4 b5] Z Z (f4.cells (off := 00) Z)) (Ye [vi r2.Kind, G br b4 b5] f3 Z Z sz41 Z Z fun f5 dr f6 => ?_)));have ds := dq.wr 2 Z dr;refine Xb (Xn ?_);have f7 := ds.bgv f6 2 Z;have dt := ds.drop 2 Z;have f8 := (ds.sd (dq.sw f1 1 2 Z Z Z dr) 1 2 Z Z Z);have f9 := dt.gv f8 1 Z;have ed : Ct [some b] w0 f5 [some aa] O := dt.drop 1 Z;have ga := ed.drop 0 Z;have gb := dt.std 1 Z;have ee := ed.std 0 Z;have gc := ((f7.st gb).st ee);have gd := (dq.bmo f2 2 Z dr);exact ⟨[.agg #[vi r2.Kind, G br b4 b5]], ⟨_, _, Z, gc.1.res Z ag41 sz41, Z⟩, (⟨r2.Kind, (r2.Pts ++ ([(nth r2.Pts ((r2.Pts.length : Int) - 1))] : List Pt))⟩ : Shape), m3, br, b4, b5, Z, H, ga.gr.g1, gd, (f9.st ee)⟩
 have H := Xq H dh;refine Xc (Xd (Xa (X1 r4 3 (r4 == 3) Z Z Z) (Xg (vb (r4 == 3)) Z (Xb ?_))));refine Xz (r4 == 3) Z (fun du => ?_) (fun du => ?_)
 ·have H := Xp H du;refine Xd (Xa (Xj fa41_1 (Ad aa 0) (Ad aa 1) Z Z) ?_);have ef := (am.bwm (al.bwm b2 0 Z an) 0 Z ao);refine Xa (Xo ag39 cL (Ad aa 1) (G ab ac ad) Z (ef.cell Z)) (Xe (vi r3) Z ?_);have ge := (am.swm (al.swm bq 1 Z an) 1 Z ao);have gf := b3.gv ge 1 Z;have c1 := b3.drop 1 Z;obtain ⟨gg, H⟩ := H;refine Zz u39_ Yx ab ac ad r2.Pts Z gf 0 r3 Z Z gg fun cf cg ch gh => ?_;refine Xa (Xj fa41_1 (Ad aa 0) (Ad aa 1) Z Z) ?_;have gi := ef;refine Yw 1 [G cf cg ch] [vi r2.Kind, G cf cg ch] gi Z Z sz39 Z Z Z fun hr c2 gj => ?_;have dv := c1.wr 0 Z c2;refine Xb (Xc (Xd (Xa (Xv ag41 sz41 cL (Ad aa 0) [vi r2.Kind, G cf cg ch] Z Z (gj.cells (off := 00) Z)) ?_)));have gk := (c1.bm (am.bwm (al.bwm (bb.bm ((a9.bwm bl 0 Z bd).k0 ba) 2 0 Z Z Z bc) 2 Z an) 2 Z ao) 1 0 Z Z Z c2);refine Ye [vi r2.Kind, G cf cg ch] gk Z Z sz41 Z Z fun gl dw gm => ?_;have dx := dv.wr 1 Z dw;refine Xb (Xn ?_);have gn := dx.bgv gm 1 Z;have eg := dx.drop 1 Z;have gp : Ct [some b] w0 gl [] O := eg.drop 0 Z;have eh := eg.std 0 Z;have gq := (gn.st eh);have gs := c1.stw 0 Z c2;have gt := dv.stw 1 Z dw;have gu := dx.std 1 Z;have gw := ((((gh.st gs).st gt).st gu).st eh);have gx := (dv.bmo (c1.bmo bn 0 Z c2) 1 Z dw);exact ⟨[.agg #[vi r2.Kind, G cf cg ch]], ⟨_, _, Z, gq.1.res Z ag41 sz41, Z⟩, (⟨r2.Kind, ((r2.Pts.drop (0 : Int).toNat).take (r3.toNat - (0 : Int).toNat))⟩ : Shape), m3, cf, cg, ch, Z, H, gp.gr.g1, gx, gw⟩
 have H := Xq H du;refine Xx (Xc (Xd ?_));have gy := (am.bwm (al.bwm b2 0 Z an) 0 Z ao);refine Xa (Xv ag41 sz41 cL (Ad aa 0) [vi r2.Kind, G ab ac ad] Z Z (gy.cells (off := 00) Z)) ?_;have gz := (am.bwm (al.bwm (bb.bm ((a9.bwm bl 0 Z bd).k0 ba) 2 0 Z Z Z bc) 2 Z an) 2 Z ao);refine Ye [vi r2.Kind, G ab ac ad] gz Z Z sz41 Z Z fun g0 dy g2 => ?_;have dz := b3.wr 2 Z dy;refine Xb (Xn ?_);have g3 := dz.bgv g2 2 Z;have d0 := dz.drop 2 Z;have g4 := (dz.sd (b3.sw (am.swm (al.swm bq 1 Z an) 1 Z ao) 1 2 Z Z Z dy) 1 2 Z Z Z);have g5 := d0.gv g4 1 Z;have ei := d0.drop 1 Z;have g6 : Ct [some b] w0 g0 [] O := ei.drop 0 Z;have g7 := d0.std 1 Z;have ej := ei.std 0 Z;have g8 := ((g3.st g7).st ej);have ha := (b3.bmo bn 2 Z dy);exact ⟨[.agg #[vi r2.Kind, G ab ac ad]], ⟨_, _, Z, g8.1.res Z ag41 sz41, Z⟩, r2, m3, ab, ac, ad, Z, H, g6.gr.g1, ha, (g5.st ej)⟩
def F93.E (r_b : List UInt8) (r_p : Int) (Q : Feat → Int → Prop) : Prop :=
 F137.E r_b r_p (fun r2 m => F80.E r_b m r2 (fun r3 m2 => F22.E r_b m2 40 (fun r4 m3 => (if r4 == 0 then F44.E r_b m3 ([([] : Str), ([65] : Str), ([97, 98, 99, 100, 101, 102, 103] : Str)] : List Str) (fun r5 m4 => Q (⟨r5, r3.Shape, r3.Tags⟩ : Feat) m4) else (if r4 == 1 then F92.E r_b m3 (fun r6 m5 => Q (⟨r3.Id, r6, r3.Tags⟩ : Feat) m5) else (if r4 == 2 then (r3.Tags.length + ([(⟨([97] : Str), ([98] : Str)⟩ : Tag)] : List Tag).length ≤ 268435456) ∧ Q (⟨r3.Id, r3.Shape, (r3.Tags ++ ([(⟨([97] : Str), ([98] : Str)⟩ : Tag)] : List Tag))⟩ : Feat) m3 else (if r4 == 3 then F44.E r_b m3 ([([] : Str), ([66] : Str)] : List Str) (fun r7 m6 => (r3.Tags.length + ([(⟨([122, 122] : Str), r7⟩ : Tag)] : List Tag).length ≤ 268435456) ∧ Q (⟨r3.Id, r3.Shape, (r3.Tags ++ ([(⟨([122, 122] : Str), r7⟩ : Tag)] : List Tag))⟩ : Feat) m6) else Q r3 m3)))))))
theorem F93.calls {b : Nat} {r_b : List UInt8} {A2 : Option Addr} {n3 c4 : Nat} {r_p : Int} {Q : Feat → Int → Prop} (H : F93.E r_b r_p Q) (hO : Ok w0 O) (hp5 : Sl Kd.byte w0 (Fr O) (G A2 n3 c4) r_b) (hp0 : Bx w0 b [G A2 n3 c4, vi r_p]) (hm : some b ∈ O) :
  Ret Tryz.prog 63 [Pz b] w0 (fun v w' => ∃ (r0 : Feat) (m0 : Int) (Aw0 : Option Addr) (nw0 cw0 : Nat) (Aw2 : Option Addr) (nw2 cw2 : Nat), v = .agg #[vs r0.Id, vi r0.Shape.Kind, G Aw0 nw0 cw0, G Aw2 nw2 cw2] ∧ Q r0 m0 ∧ Gr w0 w' (some b) ∧ Bx w' b [G A2 n3 c4, vi m0] ∧ Lim r0.Id ∧ Sl kPt w' (Fr O) (G Aw0 nw0 cw0) r0.Shape.Pts ∧ Sl kTag w' (Fr O) (G Aw2 nw2 cw2) r0.Tags) := by
 unfold F93.E at H;have hc0 := Ct.initm1 (r := some b) hO (by intro b e; cases e; exact hm);refine X9 Tryz.func63 Z 41 Z [.cell 2 44] Z Z ?_;refine Xc (Xd (Yp [vs [], .int .i64 0, G none 0 0, G none 0 0] ze44 fun w7 b8 ez hu11 g9 bi => ?_));have a8 := hc0.own g9 (some b8) (Yn ez hu11);refine Xb (Xc (Xd (Xe (Pz b) Z (Xe (Pz b) Z ?_))));have e0 := (hp0.k0 g9);refine Xu go98 (F137.calls H a8.ok (hp5.st a8.st) e0 (List.mem_append_right _ hm)) Z ?_;rintro _ e1 ⟨r2, m, rfl, H, bg, e2, e3⟩;have a9 := a8.wm bg;refine Xu go61 (F80.calls H a9.ok (hp5.st a9.st) e2 (List.mem_append_right _ hm) e3) Z ?_;rintro _ ht ⟨r3, m2, aa, ac, ad, ae, af, ag, rfl, H, bh, e4, e5, e6, bn, bo, bj⟩;have e7 := a9.ownm bh e5 e6;refine Yp [vs [], .int .i64 0, G none 0 0, G none 0 0] ze44 fun hu ab a2 hu44 ao e8 => ?_;have ap := e7.own ao (some ab) (Yn a2 hu44);refine Ye [vs r3.Id, vi r3.Shape.Kind, G aa ac ad, G ae af ag] e8 Z Z sz44 Z Z fun e9 aq bl => ?_;have ah := ap.wr 0 Z aq;refine Xb (Xc (Xc (Xd (Xe (Pz b) Z ?_))));have fa := (ap.bmo (e4.k0 ao) 0 Z aq);refine Xu go47 (F22.calls H ah.ok (hp5.st ah.st) fa (List.mem_append_right _ hm)) Z ?_;rintro _ fb ⟨r4, m3, rfl, H, ai, bp⟩;have a6 := ah.wm ai;refine Xb (X8 (Xc (Xd (Xa (X1 r4 0 (r4 == 0) Z Z Z) (Xg (vb (r4 == 0)) Z (Xb ?_))))));refine Xz (r4 == 0) Z (fun ds => ?_) (fun ds => ?_)
 ·have H := Xp H ds;refine Xd (Xe (Pz b) Z (Yb (kd := Kd.str) Y9 a6 ([([] : Str), ([65] : Str), ([97, 98, 99, 100, 101, 102, 103] : Str)] : List Str) (cells := [vs [], vs ([65] : Str), vs ([97, 98, 99, 100, 101, 102, 103] : Str)]) ⟨[vs []], _, Z, ⟨Z, (by decide : Lim ([] : Str))⟩, ⟨[vs ([65] : Str)], _, Z, ⟨Z, (by decide : Lim ([65] : Str))⟩, ⟨[vs ([97, 98, 99, 100, 101, 102, 103] : Str)], _, Z, ⟨Z, (by decide : Lim ([97, 98, 99, 100, 101, 102, 103] : Str))⟩, Z⟩⟩⟩ RF fun fc dt eb ec cn hr65 bq fd => ?_));have fe := bq.gv fd 0 Z;have ed := bq.drop 0 Z;have ff := (bp.k0 cn);refine Xu go96 (F44.calls H ed.ok (hp5.st ed.st) ff (List.mem_append_right _ hm) fe) Z ?_;rintro _ hv ⟨r5, m4, rfl, H, co, fg, fh⟩;have cp := bq.wm co;refine Xa (Xj fa44_0 (Ad ab 0) (Ad ab 0) Z Z) ?_;have fi := (bq.bwm ((ah.bwm bl 0 Z ai).k0 cn) 1 Z co);refine Yw 0 [vs r5] [vs r5, vi r3.Shape.Kind, G aa ac ad, G ae af ag] fi Z Z sz9 Z Z Z fun hw cq fj => ?_;have c5 := cp.wr 1 Z cq;refine Xb (Xc (Xd (Xa (Xv ag44 sz44 cL (Ad ab 0) [vs r5, vi r3.Shape.Kind, G aa ac ad, G ae af ag] Z Z (fj.cells (off := 00) Z)) ?_)));have fk := (cp.bm (bq.bwm ((ah.bwm (ap.bm ((a9.bwm (a8.bwm bi 0 Z bg) 0 Z bh).k0 ao) 3 0 Z Z Z aq) 3 Z ai).k0 cn) 4 Z co) 4 1 Z Z Z cq);refine Ye [vs r5, vi r3.Shape.Kind, G aa ac ad, G ae af ag] fk Z Z sz44 Z Z fun fl c6 fm => ?_;have c7 := c5.wr 4 Z c6;refine Xb (Xn ?_);have fn := c7.bgv fm 4 Z;have c8 := c7.drop 4 Z;have fo := (c7.sd (c5.sw (cp.sw (bq.swm ((ah.swm (ap.sw (bo.so _ ao (X4 a2)) 1 0 Z Z Z aq) 1 Z ai).so _ cn hr65) 2 Z co) 2 1 Z Z Z cq) 2 4 Z Z Z c6) 2 4 Z Z Z);have fp := c8.gv fo 2 Z;have du := c8.drop 2 Z;have fq := (c8.sd (c7.sd (c5.sw (cp.sw (bq.swm ((ah.swm (ap.sw (bj.so _ ao (X4 a2)) 2 0 Z Z Z aq) 2 Z ai).so _ cn hr65) 3 Z co) 3 1 Z Z Z cq) 3 4 Z Z Z c6) 3 4 Z Z Z) 3 2 Z Z Z);have fr := du.gv fq 2 Z;have fs : Ct [some b] w0 fl [bk dt, some ab] O := du.drop 2 Z;have ft := fs.clear;have fu := c8.std 2 Z;have ee := du.std 2 Z;have fv := (((fn.st fu).st ee).st St.clear);have fw := ((fp.st ee).st St.clear);have fx := (c5.bmo (cp.bmo fg 1 Z cq) 4 Z c6);exact ⟨[.agg #[vs r5, vi r3.Shape.Kind, G aa ac ad, G ae af ag]], ⟨_, _, Z, fv.1.res Z ag44 sz44, Z⟩, (⟨r5, r3.Shape, r3.Tags⟩ : Feat), m4, aa, ac, ad, ae, af, ag, Z, H, ft.gr.g1, fx, fh, fw, (fr.st St.clear)⟩
 have H := Xq H ds;refine Xc (Xd (Xa (X1 r4 1 (r4 == 1) Z Z Z) (Xg (vb (r4 == 1)) Z (Xb ?_))));refine Xz (r4 == 1) Z (fun dv => ?_) (fun dv => ?_)
 ·have H := Xp H dv;refine Xd (Xe (Pz b) Z ?_);refine Xu go114 (F92.calls H a6.ok (hp5.st a6.st) bp (List.mem_append_right _ hm)) Z ?_;rintro _ hx ⟨r6, m5, br, bs, bt, rfl, H, c9, fy, fz⟩;have cr := a6.wm c9;refine Xa (Xj fa44_1 (Ad ab 0) (Ad ab 1) Z Z) ?_;have f0 := (a6.bwm (ah.bwm bl 0 Z ai) 0 Z c9);refine Yw 1 [vi r6.Kind, G br bs bt] [vs r3.Id, vi r6.Kind, G br bs bt, G ae af ag] f0 Z Z sz41 Z Z Z fun hy cs f1 => ?_;have da := cr.wr 0 Z cs;refine Xb (Xc (Xd (Xa (Xv ag44 sz44 cL (Ad ab 0) [vs r3.Id, vi r6.Kind, G br bs bt, G ae af ag] Z Z (f1.cells (off := 00) Z)) ?_)));have f2 := (cr.bm (a6.bwm (ah.bwm (ap.bm ((a9.bwm (a8.bwm bi 0 Z bg) 0 Z bh).k0 ao) 3 0 Z Z Z aq) 3 Z ai) 3 Z c9) 3 0 Z Z Z cs);refine Ye [vs r3.Id, vi r6.Kind, G br bs bt, G ae af ag] f2 Z Z sz44 Z Z fun hz db f3 => ?_;have dc := da.wr 3 Z db;refine Xb (Xn ?_);have f4 := dc.bgv f3 3 Z;have dw := dc.drop 3 Z;have f5 := (dc.sd (da.sw (cr.sw (a6.swm (ah.swm (ap.sw (bj.so _ ao (X4 a2)) 2 0 Z Z Z aq) 2 Z ai) 2 Z c9) 2 0 Z Z Z cs) 2 3 Z Z Z db) 2 3 Z Z Z);have f6 := dw.gv f5 2 Z;have f7 := dw.drop 2 Z;have f8 := f7.clear;have ef := dw.std 2 Z;have f9 := ((f4.st ef).st St.clear);have ga := cr.stw 0 Z cs;have gb := da.stw 3 Z db;have gc := dc.std 3 Z;have gd := (((((fz.st ga).st gb).st gc).st ef).st St.clear);have ge := (da.bmo (cr.bmo fy 0 Z cs) 3 Z db);exact ⟨[.agg #[vs r3.Id, vi r6.Kind, G br bs bt, G ae af ag]], ⟨_, _, Z, f9.1.res Z ag44 sz44, Z⟩, (⟨r3.Id, r6, r3.Tags⟩ : Feat), m5, br, bs, bt, ae, af, ag, Z, H, f8.gr.g1, ge, bn, gd, (f6.st St.clear)⟩
 have H := Xq H dv;refine Xc (Xd (Xa (X1 r4 2 (r4 == 2) Z Z Z) (Xg (vb (r4 == 2)) Z (Xb ?_))));refine Xz (r4 == 2) Z (fun dx => ?_) (fun dx => ?_)
 ·have H := Xp H dx;refine Xd (Xa (Xj fa44_2 (Ad ab 0) (Ad ab 3) Z Z) ?_);have eg := (ah.bwm bl 0 Z ai);refine Xa (Xo ag42 cL (Ad ab 3) (G ae af ag) Z (eg.cell Z)) (Xa (Yl (.agg #[vs ([97] : Str), vs ([98] : Str)]) RF) (Yb (kd := kTag) Yu a6 ([(⟨([97] : Str), ([98] : Str)⟩ : Tag)] : List Tag) (cells := [vs ([97] : Str), vs ([98] : Str)]) ⟨[vs ([97] : Str), vs ([98] : Str)], _, Z, (kTag.mk _ _ (⟨([97] : Str), ([98] : Str)⟩ : Tag) (by decide : Lim ([97] : Str)) (by decide : Lim ([98] : Str))), Z⟩ RF fun h0 eh gf gg ct hr149 cu gh => ?_));obtain ⟨gi, H⟩ := H;have gj := ((ah.swm (ap.sw (bj.so _ ao (X4 a2)) 2 0 Z Z Z aq) 2 Z ai).so _ ct hr149);refine Yg Yu cu (G ae af ag) r3.Tags ([(⟨([97] : Str), ([98] : Str)⟩ : Tag)] : List Tag) Z gj (G eh gf gg) Z gh.sx 3 Z gi fun h1 bu bv bw dd gk cv gl => ?_;refine Xa (Xj fa44_2 (Ad ab 0) (Ad ab 3) Z Z) ?_;have gm := (cu.bm (eg.k0 ct) 1 3 Z Z Z dd);refine Yw 3 [G bu bv bw] [vs r3.Id, vi r3.Shape.Kind, G aa ac ad, G bu bv bw] gm Z Z sz42 Z Z Z fun h2 cw gn => ?_;have de := cv.wr 1 Z cw;refine Xb (Xc (Xd (Xa (Xv ag44 sz44 cL (Ad ab 0) [vs r3.Id, vi r3.Shape.Kind, G aa ac ad, G bu bv bw] Z Z (gn.cells (off := 00) Z)) ?_)));have gp := (cv.bm (cu.bm ((ah.bwm (ap.bm ((a9.bwm (a8.bwm bi 0 Z bg) 0 Z bh).k0 ao) 3 0 Z Z Z aq) 3 Z ai).k0 ct) 4 3 Z Z Z dd) 4 1 Z Z Z cw);refine Ye [vs r3.Id, vi r3.Shape.Kind, G aa ac ad, G bu bv bw] gp Z Z sz44 Z Z fun gq df gs => ?_;have dg := de.wr 4 Z df;refine Xb (Xn ?_);have gt := dg.bgv gs 4 Z;have dh := dg.drop 4 Z;have gu := (dg.sd (de.sw (cv.sw (cu.sm ((ah.swm (ap.sw (bo.so _ ao (X4 a2)) 1 0 Z Z Z aq) 1 Z ai).so _ ct hr149) 2 3 Z Z Z dd gk) 2 1 Z Z Z cw) 2 4 Z Z Z df) 2 4 Z Z Z);have gw := dh.gv gu 2 Z;have dy := dh.drop 2 Z;have gx := (dh.sd (dg.sd (de.sw (cv.sw gl 3 1 Z Z Z cw) 3 4 Z Z Z df) 3 4 Z Z Z) 3 2 Z Z Z);have gy := dy.gv gx 2 Z;have gz : Ct [some b] w0 gq [bk eh, some ab] O := dy.drop 2 Z;have g0 := gz.clear;have g2 := dh.std 2 Z;have ei := dy.std 2 Z;have g3 := (((gt.st g2).st ei).st St.clear);have g4 := ((gw.st ei).st St.clear);have g5 := (de.bmo (cv.bmo (cu.bmo (bp.k0 ct) 3 Z dd) 1 Z cw) 4 Z df);exact ⟨[.agg #[vs r3.Id, vi r3.Shape.Kind, G aa ac ad, G bu bv bw]], ⟨_, _, Z, g3.1.res Z ag44 sz44, Z⟩, (⟨r3.Id, r3.Shape, (r3.Tags ++ ([(⟨([97] : Str), ([98] : Str)⟩ : Tag)] : List Tag))⟩ : Feat), m3, aa, ac, ad, bu, bv, bw, Z, H, g0.gr.g1, g5, bn, g4, (gy.st St.clear)⟩
 have H := Xq H dx;refine Xc (Xd (Xa (X1 r4 3 (r4 == 3) Z Z Z) (Xg (vb (r4 == 3)) Z (Xb ?_))));refine Xz (r4 == 3) Z (fun dz => ?_) (fun dz => ?_)
 ·have H := Xp H dz;refine Za 10 [some b, bk ae, some ab] RK Z fun h3 au cx => ?_;have ej := a6.k0 au;refine Xy 0 Z RK cx (Xj fa44_2 (Ad ab 0) (Ad ab 3) Z Z) ?_;refine Xy 2 Z RK cx (Y2 (Pz b) Z) ?_;refine Y8 1 3 RK Z Z ?_ ?_
  ·have ek := ((ah.bwm bl 0 Z ai).k0 au);refine Xa (Xo ag42 cL (Ad ab 3) (G ae af ag) Z (ek.cell Z)) ?_;refine Xb ⟨cx, ?_⟩;refine X5 3 RK Z ?_;refine Yb (kd := Kd.str) Y9 ej ([([] : Str), ([66] : Str)] : List Str) (cells := [vs [], vs ([66] : Str)]) ⟨[vs []], _, Z, ⟨Z, (by decide : Lim ([] : Str))⟩, ⟨[vs ([66] : Str)], _, Z, ⟨Z, (by decide : Lim ([66] : Str))⟩, Z⟩⟩ RF fun g6 di el em cl hr201 bx g7 => ?_;have en := Gm.tm cx cl;refine Xb ⟨en, ?_⟩;refine X5 4 RK Z ?_;have d0 := bx.gv g7 0 Z;have cy := bx.drop 0 Z;have d1 := ((bp.k0 au).k0 cl);refine Xu go96 (F44.calls H cy.ok (hp5.st cy.st) d1 (List.mem_append_right _ hm) d0) Z ?_;rintro _ g8 ⟨r7, m6, rfl, H, a7, d2, d3⟩;have d4 := bx.wm a7;have bz := Gm.tq en a7 (hv_mem 0 Z);refine Xb ⟨bz, ?_⟩;refine Xy 5 Z RK bz (Yl (.agg #[vs ([122, 122] : Str), vs r7]) RF) ?_;refine X5 6 RK Z ?_;refine Yb (kd := kTag) Yu d4 ([(⟨([122, 122] : Str), r7⟩ : Tag)] : List Tag) (cells := [vs ([122, 122] : Str), vs r7]) ⟨[vs ([122, 122] : Str), vs r7], _, Z, (kTag.mk _ _ (⟨([122, 122] : Str), r7⟩ : Tag) (by decide : Lim ([122, 122] : Str)) d3), Z⟩ RF fun eo ba cz c0 av hr224 a1 c1 => ?_;have bb := Gm.tm bz av;refine Xb ⟨bb, ?_⟩;refine X5 7 RK Z ?_;obtain ⟨b0, H⟩ := H;have b1 := ((bx.swm (((ah.swm (ap.sw (bj.so _ ao (X4 a2)) 2 0 Z Z Z aq) 2 Z ai).sn au).so _ cl hr201) 3 Z a7).so _ av hr224);refine Yg Yu a1 (G ae af ag) r3.Tags ([(⟨([122, 122] : Str), r7⟩ : Tag)] : List Tag) Z b1 (G ba cz c0) Z c1.sx 4 Z b0 fun d5 aj ak al ar bc am b2 => ?_;have a3 := Gm.tq bb ar (hv_mem 1 Z);have d6 := hv_app (L := [bk ba, bk di, some ab, bk aa, bk ae, some b8]) (O := O) (i := 4) bb Z (hv_mem 1 Z) bc am;refine Xb ⟨a3, ?_⟩;refine Xy 8 Z RK a3 (Xj fa44_2 (Ad ab 0) (Ad ab 3) Z Z) ?_;refine X5 9 RK Z ?_;have b3 := (a1.bm ((bx.bwm (ek.k0 cl) 1 Z a7).k0 av) 2 4 Z Z Z ar);refine Yw 3 [G aj ak al] [vs r3.Id, vi r3.Shape.Kind, G aa ac ad, G aj ak al] b3 Z Z sz42 Z Z Z fun d7 an b4 => ?_;have aw := am.wr 2 Z an;have b5 := Gm.tq a3 an (hv_mem 2 Z);refine Xb ⟨b5, ?_⟩;refine Yv RK ?_;refine Xc (Xd (Xa (Xv ag44 sz44 cL (Ad ab 0) [vs r3.Id, vi r3.Shape.Kind, G aa ac ad, G aj ak al] Z Z (b4.cells (off := 00) Z)) ?_));have b6 := (am.bm (a1.bm ((bx.bwm (((ah.bwm (ap.bm ((a9.bwm (a8.bwm bi 0 Z bg) 0 Z bh).k0 ao) 3 0 Z Z Z aq) 3 Z ai).k0 au).k0 cl) 4 Z a7).k0 av) 5 4 Z Z Z ar) 5 2 Z Z Z an);refine Ye [vs r3.Id, vi r3.Shape.Kind, G aa ac ad, G aj ak al] b6 Z Z sz44 Z Z fun b7 ax b9 => ?_;have ay := aw.wr 5 Z ax;refine Xb (Xn ?_);have ca := ay.bgv b9 5 Z;have az := ay.drop 5 Z;have cb := (ay.sd (aw.sw (am.sw (a1.sm ((bx.swm (((ah.swm (ap.sw (bo.so _ ao (X4 a2)) 1 0 Z Z Z aq) 1 Z ai).sn au).so _ cl hr201) 2 Z a7).so _ av hr224) 3 4 Z Z Z ar bc) 3 2 Z Z Z an) 3 5 Z Z Z ax) 3 5 Z Z Z);have cc := az.gv cb 3 Z;have a4 := az.drop 3 Z;have cd := (az.sd (ay.sd (aw.sw (am.sw b2 4 2 Z Z Z an) 4 5 Z Z Z ax) 4 5 Z Z Z) 4 3 Z Z Z);have ce := a4.gv cd 3 Z;have cf : Ct [some b] w0 b7 [bk ba, bk di, some ab] O := a4.drop 3 Z;have cg := cf.clear;have ch := az.std 3 Z;have bd := a4.std 3 Z;have ci := (((ca.st ch).st bd).st St.clear);have cj := ((cc.st bd).st St.clear);have ck := (aw.bmo (am.bmo (a1.bmo (d2.k0 av) 4 Z ar) 2 Z an) 5 Z ax);exact ⟨[.agg #[vs r3.Id, vi r3.Shape.Kind, G aa ac ad, G aj ak al]], ⟨_, _, Z, ci.1.res Z ag44 sz44, Z⟩, (⟨r3.Id, r3.Shape, (r3.Tags ++ ([(⟨([122, 122] : Str), r7⟩ : Tag)] : List Tag))⟩ : Feat), m6, aa, ac, ad, aj, ak, al, Z, H, cg.gr.g1, ck, bn, cj, (ce.st St.clear)⟩
  refine Yb (kd := Kd.str) Y9 ej ([([] : Str), ([66] : Str)] : List Str) (cells := [vs [], vs ([66] : Str)]) ⟨[vs []], _, Z, ⟨Z, (by decide : Lim ([] : Str))⟩, ⟨[vs ([66] : Str)], _, Z, ⟨Z, (by decide : Lim ([66] : Str))⟩, Z⟩⟩ RF fun ep be dj dk a5 hr200 a0 eq => ?_;have dl := Gm.tm cx a5;refine Xb ⟨dl, ?_⟩;refine Y8 1 4 RK Z Z ?_ ?_
  ·have dm := (((ah.bwm bl 0 Z ai).k0 au).k0 a5);refine Xa (Xo ag42 cL (Ad ab 3) (G ae af ag) Z (dm.cell Z)) ?_;refine Xb ⟨dl, ?_⟩;refine X5 4 RK Z ?_;have d0 := a0.gv eq 0 Z;have cy := a0.drop 0 Z;have d1 := ((bp.k0 au).k0 a5);refine Xu go96 (F44.calls H cy.ok (hp5.st cy.st) d1 (List.mem_append_right _ hm) d0) Z ?_;rintro _ g8 ⟨r7, m6, rfl, H, a7, d2, d3⟩;have d4 := a0.wm a7;have bz := Gm.tq dl a7 (hv_mem 0 Z);refine Xb ⟨bz, ?_⟩;refine Xy 5 Z RK bz (Yl (.agg #[vs ([122, 122] : Str), vs r7]) RF) ?_;refine X5 6 RK Z ?_;refine Yb (kd := kTag) Yu d4 ([(⟨([122, 122] : Str), r7⟩ : Tag)] : List Tag) (cells := [vs ([122, 122] : Str), vs r7]) ⟨[vs ([122, 122] : Str), vs r7], _, Z, (kTag.mk _ _ (⟨([122, 122] : Str), r7⟩ : Tag) (by decide : Lim ([122, 122] : Str)) d3), Z⟩ RF fun eo ba cz c0 av hr224 a1 c1 => ?_;have bb := Gm.tm bz av;refine Xb ⟨bb, ?_⟩;refine X5 7 RK Z ?_;obtain ⟨b0, H⟩ := H;have b1 := ((a0.swm (((ah.swm (ap.sw (bj.so _ ao (X4 a2)) 2 0 Z Z Z aq) 2 Z ai).sn au).so _ a5 hr200) 3 Z a7).so _ av hr224);refine Yg Yu a1 (G ae af ag) r3.Tags ([(⟨([122, 122] : Str), r7⟩ : Tag)] : List Tag) Z b1 (G ba cz c0) Z c1.sx 4 Z b0 fun d5 aj ak al ar bc am b2 => ?_;have a3 := Gm.tq bb ar (hv_mem 1 Z);have d6 := hv_app (L := [bk ba, bk be, some ab, bk aa, bk ae, some b8]) (O := O) (i := 4) bb Z (hv_mem 1 Z) bc am;refine Xb ⟨a3, ?_⟩;refine Xy 8 Z RK a3 (Xj fa44_2 (Ad ab 0) (Ad ab 3) Z Z) ?_;refine X5 9 RK Z ?_;have b3 := (a1.bm ((a0.bwm dm 1 Z a7).k0 av) 2 4 Z Z Z ar);refine Yw 3 [G aj ak al] [vs r3.Id, vi r3.Shape.Kind, G aa ac ad, G aj ak al] b3 Z Z sz42 Z Z Z fun d7 an b4 => ?_;have aw := am.wr 2 Z an;have b5 := Gm.tq a3 an (hv_mem 2 Z);refine Xb ⟨b5, ?_⟩;refine Yv RK ?_;refine Xc (Xd (Xa (Xv ag44 sz44 cL (Ad ab 0) [vs r3.Id, vi r3.Shape.Kind, G aa ac ad, G aj ak al] Z Z (b4.cells (off := 00) Z)) ?_));have b6 := (am.bm (a1.bm ((a0.bwm (((ah.bwm (ap.bm ((a9.bwm (a8.bwm bi 0 Z bg) 0 Z bh).k0 ao) 3 0 Z Z Z aq) 3 Z ai).k0 au).k0 a5) 4 Z a7).k0 av) 5 4 Z Z Z ar) 5 2 Z Z Z an);refine Ye [vs r3.Id, vi r3.Shape.Kind, G aa ac ad, G aj ak al] b6 Z Z sz44 Z Z fun b7 ax b9 => ?_;have ay := aw.wr 5 Z ax;refine Xb (Xn ?_);have ca := ay.bgv b9 5 Z;have az := ay.drop 5 Z;have cb := (ay.sd (aw.sw (am.sw (a1.sm ((a0.swm (((ah.swm (ap.sw (bo.so _ ao (X4 a2)) 1 0 Z Z Z aq) 1 Z ai).sn au).so _ a5 hr200) 2 Z a7).so _ av hr224) 3 4 Z Z Z ar bc) 3 2 Z Z Z an) 3 5 Z Z Z ax) 3 5 Z Z Z);have cc := az.gv cb 3 Z;have a4 := az.drop 3 Z;have cd := (az.sd (ay.sd (aw.sw (am.sw b2 4 2 Z Z Z an) 4 5 Z Z Z ax) 4 5 Z Z Z) 4 3 Z Z Z);have ce := a4.gv cd 3 Z;have cf : Ct [some b] w0 b7 [bk ba, bk be, some ab] O := a4.drop 3 Z;have cg := cf.clear;have ch := az.std 3 Z;have bd := a4.std 3 Z;have ci := (((ca.st ch).st bd).st St.clear);have cj := ((cc.st bd).st St.clear);have ck := (aw.bmo (am.bmo (a1.bmo (d2.k0 av) 4 Z ar) 2 Z an) 5 Z ax);exact ⟨[.agg #[vs r3.Id, vi r3.Shape.Kind, G aa ac ad, G aj ak al]], ⟨_, _, Z, ci.1.res Z ag44 sz44, Z⟩, (⟨r3.Id, r3.Shape, (r3.Tags ++ ([(⟨([122, 122] : Str), r7⟩ : Tag)] : List Tag))⟩ : Feat), m6, aa, ac, ad, aj, ak, al, Z, H, cg.gr.g1, ck, bn, cj, (ce.st St.clear)⟩
  have dm := a0.gv eq 0 Z;have er := a0.drop 0 Z;have ha := ((bp.k0 au).k0 a5);refine Xu go96 (F44.calls H er.ok (hp5.st er.st) ha (List.mem_append_right _ hm) dm) Z ?_;rintro _ h4 ⟨r7, m6, rfl, H, bf, es, et⟩;have eu := a0.wm bf;have c2 := Gm.tq dl bf (hv_mem 0 Z);refine Xb ⟨c2, ?_⟩;refine Xy 5 Z RK c2 (Yl (.agg #[vs ([122, 122] : Str), vs r7]) RF) ?_;refine Y8 1 6 RK Z Z ?_ ?_
  ·have ev := (a0.bwm (((ah.bwm bl 0 Z ai).k0 au).k0 a5) 1 Z bf);refine Xa (Xo ag42 cL (Ad ab 3) (G ae af ag) Z (ev.cell Z)) ?_;refine Xb ⟨c2, ?_⟩;refine X5 6 RK Z ?_;refine Yb (kd := kTag) Yu eu ([(⟨([122, 122] : Str), r7⟩ : Tag)] : List Tag) (cells := [vs ([122, 122] : Str), vs r7]) ⟨[vs ([122, 122] : Str), vs r7], _, Z, (kTag.mk _ _ (⟨([122, 122] : Str), r7⟩ : Tag) (by decide : Lim ([122, 122] : Str)) et), Z⟩ RF fun eo ba cz c0 av hr224 a1 c1 => ?_;have bb := Gm.tm c2 av;refine Xb ⟨bb, ?_⟩;refine X5 7 RK Z ?_;obtain ⟨b0, H⟩ := H;have b1 := ((a0.swm (((ah.swm (ap.sw (bj.so _ ao (X4 a2)) 2 0 Z Z Z aq) 2 Z ai).sn au).so _ a5 hr200) 3 Z bf).so _ av hr224);refine Yg Yu a1 (G ae af ag) r3.Tags ([(⟨([122, 122] : Str), r7⟩ : Tag)] : List Tag) Z b1 (G ba cz c0) Z c1.sx 4 Z b0 fun d5 aj ak al ar bc am b2 => ?_;have a3 := Gm.tq bb ar (hv_mem 1 Z);have d6 := hv_app (L := [bk ba, bk be, some ab, bk aa, bk ae, some b8]) (O := O) (i := 4) bb Z (hv_mem 1 Z) bc am;refine Xb ⟨a3, ?_⟩;refine Xy 8 Z RK a3 (Xj fa44_2 (Ad ab 0) (Ad ab 3) Z Z) ?_;refine X5 9 RK Z ?_;have b3 := (a1.bm (ev.k0 av) 2 4 Z Z Z ar);refine Yw 3 [G aj ak al] [vs r3.Id, vi r3.Shape.Kind, G aa ac ad, G aj ak al] b3 Z Z sz42 Z Z Z fun d7 an b4 => ?_;have aw := am.wr 2 Z an;have b5 := Gm.tq a3 an (hv_mem 2 Z);refine Xb ⟨b5, ?_⟩;refine Yv RK ?_;refine Xc (Xd (Xa (Xv ag44 sz44 cL (Ad ab 0) [vs r3.Id, vi r3.Shape.Kind, G aa ac ad, G aj ak al] Z Z (b4.cells (off := 00) Z)) ?_));have b6 := (am.bm (a1.bm ((a0.bwm (((ah.bwm (ap.bm ((a9.bwm (a8.bwm bi 0 Z bg) 0 Z bh).k0 ao) 3 0 Z Z Z aq) 3 Z ai).k0 au).k0 a5) 4 Z bf).k0 av) 5 4 Z Z Z ar) 5 2 Z Z Z an);refine Ye [vs r3.Id, vi r3.Shape.Kind, G aa ac ad, G aj ak al] b6 Z Z sz44 Z Z fun b7 ax b9 => ?_;have ay := aw.wr 5 Z ax;refine Xb (Xn ?_);have ca := ay.bgv b9 5 Z;have az := ay.drop 5 Z;have cb := (ay.sd (aw.sw (am.sw (a1.sm ((a0.swm (((ah.swm (ap.sw (bo.so _ ao (X4 a2)) 1 0 Z Z Z aq) 1 Z ai).sn au).so _ a5 hr200) 2 Z bf).so _ av hr224) 3 4 Z Z Z ar bc) 3 2 Z Z Z an) 3 5 Z Z Z ax) 3 5 Z Z Z);have cc := az.gv cb 3 Z;have a4 := az.drop 3 Z;have cd := (az.sd (ay.sd (aw.sw (am.sw b2 4 2 Z Z Z an) 4 5 Z Z Z ax) 4 5 Z Z Z) 4 3 Z Z Z);have ce := a4.gv cd 3 Z;have cf : Ct [some b] w0 b7 [bk ba, bk be, some ab] O := a4.drop 3 Z;have cg := cf.clear;have ch := az.std 3 Z;have bd := a4.std 3 Z;have ci := (((ca.st ch).st bd).st St.clear);have cj := ((cc.st bd).st St.clear);have ck := (aw.bmo (am.bmo (a1.bmo (es.k0 av) 4 Z ar) 2 Z an) 5 Z ax);exact ⟨[.agg #[vs r3.Id, vi r3.Shape.Kind, G aa ac ad, G aj ak al]], ⟨_, _, Z, ci.1.res Z ag44 sz44, Z⟩, (⟨r3.Id, r3.Shape, (r3.Tags ++ ([(⟨([122, 122] : Str), r7⟩ : Tag)] : List Tag))⟩ : Feat), m6, aa, ac, ad, aj, ak, al, Z, H, cg.gr.g1, ck, bn, cj, (ce.st St.clear)⟩
  refine Yb (kd := kTag) Yu eu ([(⟨([122, 122] : Str), r7⟩ : Tag)] : List Tag) (cells := [vs ([122, 122] : Str), vs r7]) ⟨[vs ([122, 122] : Str), vs r7], _, Z, (kTag.mk _ _ (⟨([122, 122] : Str), r7⟩ : Tag) (by decide : Lim ([122, 122] : Str)) et), Z⟩ RF fun h5 d8 hb hc cm hr223 c3 hd => ?_;have dn := Gm.tm c2 cm;refine Xb ⟨dn, ?_⟩;refine X5 1 RK Z ?_;have ew := ((a0.bwm (((ah.bwm bl 0 Z ai).k0 au).k0 a5) 1 Z bf).k0 cm);refine Xa (Xo ag42 cL (Ad ab 3) (G ae af ag) Z (ew.cell Z)) ?_;refine Xb ⟨dn, ?_⟩;refine X5 7 RK Z ?_;obtain ⟨b0, H⟩ := H;have b1 := ((a0.swm (((ah.swm (ap.sw (bj.so _ ao (X4 a2)) 2 0 Z Z Z aq) 2 Z ai).sn au).so _ a5 hr200) 3 Z bf).so _ cm hr223);refine Yg Yu c3 (G ae af ag) r3.Tags ([(⟨([122, 122] : Str), r7⟩ : Tag)] : List Tag) Z b1 (G d8 hb hc) Z hd.sx 4 Z b0 fun d5 aj ak al ar bc am b2 => ?_;have a3 := Gm.tq dn ar (hv_mem 1 Z);have d6 := hv_app (L := [bk d8, bk be, some ab, bk aa, bk ae, some b8]) (O := O) (i := 4) dn Z (hv_mem 1 Z) bc am;refine Xb ⟨a3, ?_⟩;refine Xy 8 Z RK a3 (Xj fa44_2 (Ad ab 0) (Ad ab 3) Z Z) ?_;refine X5 9 RK Z ?_;have b3 := (c3.bm ew 2 4 Z Z Z ar);refine Yw 3 [G aj ak al] [vs r3.Id, vi r3.Shape.Kind, G aa ac ad, G aj ak al] b3 Z Z sz42 Z Z Z fun d7 an b4 => ?_;have aw := am.wr 2 Z an;have b5 := Gm.tq a3 an (hv_mem 2 Z);refine Xb ⟨b5, ?_⟩;refine Yv RK ?_;refine Xc (Xd (Xa (Xv ag44 sz44 cL (Ad ab 0) [vs r3.Id, vi r3.Shape.Kind, G aa ac ad, G aj ak al] Z Z (b4.cells (off := 00) Z)) ?_));have b6 := (am.bm (c3.bm ((a0.bwm (((ah.bwm (ap.bm ((a9.bwm (a8.bwm bi 0 Z bg) 0 Z bh).k0 ao) 3 0 Z Z Z aq) 3 Z ai).k0 au).k0 a5) 4 Z bf).k0 cm) 5 4 Z Z Z ar) 5 2 Z Z Z an);refine Ye [vs r3.Id, vi r3.Shape.Kind, G aa ac ad, G aj ak al] b6 Z Z sz44 Z Z fun b7 ax b9 => ?_;have ay := aw.wr 5 Z ax;refine Xb (Xn ?_);have ca := ay.bgv b9 5 Z;have az := ay.drop 5 Z;have cb := (ay.sd (aw.sw (am.sw (c3.sm ((a0.swm (((ah.swm (ap.sw (bo.so _ ao (X4 a2)) 1 0 Z Z Z aq) 1 Z ai).sn au).so _ a5 hr200) 2 Z bf).so _ cm hr223) 3 4 Z Z Z ar bc) 3 2 Z Z Z an) 3 5 Z Z Z ax) 3 5 Z Z Z);have cc := az.gv cb 3 Z;have a4 := az.drop 3 Z;have cd := (az.sd (ay.sd (aw.sw (am.sw b2 4 2 Z Z Z an) 4 5 Z Z Z ax) 4 5 Z Z Z) 4 3 Z Z Z);have ce := a4.gv cd 3 Z;have cf : Ct [some b] w0 b7 [bk d8, bk be, some ab] O := a4.drop 3 Z;have cg := cf.clear;have ch := az.std 3 Z;have bd := a4.std 3 Z;have ci := (((ca.st ch).st bd).st St.clear);have cj := ((cc.st bd).st St.clear);have ck := (aw.bmo (am.bmo (c3.bmo (es.k0 cm) 4 Z ar) 2 Z an) 5 Z ax);exact ⟨[.agg #[vs r3.Id, vi r3.Shape.Kind, G aa ac ad, G aj ak al]], ⟨_, _, Z, ci.1.res Z ag44 sz44, Z⟩, (⟨r3.Id, r3.Shape, (r3.Tags ++ ([(⟨([122, 122] : Str), r7⟩ : Tag)] : List Tag))⟩ : Feat), m6, aa, ac, ad, aj, ak, al, Z, H, cg.gr.g1, ck, bn, cj, (ce.st St.clear)⟩
 have H := Xq H dz;refine Xx (Xc (Xd ?_));have he := (ah.bwm bl 0 Z ai);refine Xa (Xv ag44 sz44 cL (Ad ab 0) [vs r3.Id, vi r3.Shape.Kind, G aa ac ad, G ae af ag] Z Z (he.cells (off := 00) Z)) ?_;have hf := (ah.bwm (ap.bm ((a9.bwm (a8.bwm bi 0 Z bg) 0 Z bh).k0 ao) 3 0 Z Z Z aq) 3 Z ai);refine Ye [vs r3.Id, vi r3.Shape.Kind, G aa ac ad, G ae af ag] hf Z Z sz44 Z Z fun hg dp hh => ?_;have dq := a6.wr 3 Z dp;refine Xb (Xn ?_);have hi := dq.bgv hh 3 Z;have dr := dq.drop 3 Z;have hj := (dq.sd (a6.sw (ah.swm (ap.sw (bo.so _ ao (X4 a2)) 1 0 Z Z Z aq) 1 Z ai) 1 3 Z Z Z dp) 1 3 Z Z Z);have hk := dr.gv hj 1 Z;have d9 := dr.drop 1 Z;have hl := (dr.sd (dq.sd (a6.sw (ah.swm (ap.sw (bj.so _ ao (X4 a2)) 2 0 Z Z Z aq) 2 Z ai) 2 3 Z Z Z dp) 2 3 Z Z Z) 2 1 Z Z Z);have hn := d9.gv hl 1 Z;have ex : Ct [some b] w0 hg [some ab] O := d9.drop 1 Z;have ho := ex.drop 0 Z;have hp := dr.std 1 Z;have ey := d9.std 1 Z;have ea := ex.std 0 Z;have hq := (((hi.st hp).st ey).st ea);have hr := ((hk.st ey).st ea);have hs := (a6.bmo bp 3 Z dp);exact ⟨[.agg #[vs r3.Id, vi r3.Shape.Kind, G aa ac ad, G ae af ag]], ⟨_, _, Z, hq.1.res Z ag44 sz44, Z⟩, r3, m3, aa, ac, ad, ae, af, ag, Z, H, ho.gr.g1, hs, bn, hr, (hn.st ea)⟩
section
section
variable {P : Program} {n : Nat} {t : Tm} {w : World} {ty : TypeId} {pos : String} {aft : Array Edge} {d : Nat} {x : Operand} {C : World → Prop}
theorem text_cut (s : Str) (i j : Nat) : (⟨s.toArray⟩ : ByteArray).extract i j = ⟨((s.drop i).take (j - i)).toArray⟩ := by
 apply ByteArray.ext
 rw [ByteArray.data_extract]
 apply Array.ext'
 rw [Array.toList_extract]
theorem lim_cut {s : Str} (h : Lim s) (i j : Nat) : Lim ((s.drop i).take j) := by
 unfold Lim at h ⊢
 rw [List.length_take, List.length_drop]; omega
theorem Kh {T : TypeId} (hu : P.underlying T = some .string) {lo hi : Option Operand} (s : Str) (hx : evt n t x = vs s) (i j : Int) (hlo : bound n t lo 0 i) (hhi : bound n t hi (s.length : Int) j)
  (hij : 0 ≤ i ∧ i ≤ j ∧ j ≤ (s.length : Int)) :
  Pu P n t C ⟨some d, .slice T x lo hi none, ty, pos, aft, none⟩ (vs ((s.drop i.toNat).take (j.toNat - i.toNat))) := fun w hw => by
 rw [vs, ← text_cut]
 have hz : (⟨s.toArray⟩ : ByteArray).size = s.length := size_ofL s
 have key : ∀ l h : Option Value, (Instr.sliceAt T (.string ⟨s.toArray⟩) l h none).run P w = (Instr.slice T (.string ⟨s.toArray⟩) l h none).run P w := fun l h => by
  simp [Instr.sliceAt, run_underlying hu]
 simp only [execOp, hx, Sem.run_bind]
 cases lo with
 | none =>
  cases hi with
  | none => simp only [bound] at hlo hhi; subst hlo; subst hhi; simp only [Option.map_none]; rw [key, run_slice_string_all w T _ hu, hz]; simp
  | some h => simp only [bound] at hlo hhi; subst hlo; simp only [Option.map_some, Option.map_none, hhi]; rw [key, run_slice_string_h w T _ hu .i64 j hij.2.1 (by rw [hz]; exact hij.2.2)]; simp
 | some l =>
  cases hi with
  | none => simp only [bound] at hlo hhi; subst hhi; simp only [Option.map_some, Option.map_none, hlo]; rw [key, run_slice_string_l w T _ hu .i64 i hij.1 (by rw [hz]; exact hij.2.1), hz]; simp
  | some h => simp only [bound] at hlo hhi; simp only [Option.map_some, Option.map_none, hlo, hhi]; rw [key, run_slice_string w T _ .i64 .i64 i j hu hij.1 hij.2.1 (by rw [hz]; exact hij.2.2)]; simp
end
end
def F106.E (r_b : List UInt8) (r_p : Int) (Q : List Feat → Int → Prop) : Prop :=
 F70.E r_b r_p (fun r2 m => F22.E r_b m 40 (fun r3 m2 => (if r3 == 0 then F93.E r_b m2 (fun r4 m3 => (r2.length + ([r4] : List Feat).length ≤ 268435456) ∧ Q (r2 ++ ([r4] : List Feat)) m3) else (if r3 == 1 then (r2.length + r2.length ≤ 268435456) ∧ Q (r2 ++ r2) m2 else (if r3 == 2 then (∃ (I106 : (List Feat) → Int → Prop) (mu107 : (List Feat) → Int → Nat), I106 r2 0 ∧ ∀ (xs2 : List Feat) (i2 : Int), I106 xs2 i2 → (if decide (i2 ≤ 8) then (I64 (i2 + 1)) ∧ ((0 : Int) ≤ i2 ∧ (i2 : Int) ≤ i2 + 1 ∧ i2 + 1 ≤ (([113, 114, 115, 116, 117, 118, 119, 120, 121, 122] : Str).length : Int)) ∧ F127.E xs2 (⟨((([113, 114, 115, 116, 117, 118, 119, 120, 121, 122] : Str).drop i2.toNat).take ((i2 + 1).toNat - i2.toNat)), (⟨1, ([(⟨0, 0⟩ : Pt)] : List Pt)⟩ : Shape), []⟩ : Feat) (fun r5 => (I64 (i2 + 1)) ∧ I106 r5 (i2 + 1) ∧ mu107 r5 (i2 + 1) < mu107 xs2 i2) else Q xs2 m2)) else Q r2 m2)))))
theorem F106.calls {b : Nat} {r_b : List UInt8} {A2 : Option Addr} {n3 c4 : Nat} {r_p : Int} {Q : List Feat → Int → Prop} (H : F106.E r_b r_p Q) (hO : Ok w0 O) (hp5 : Sl Kd.byte w0 (Fr O) (G A2 n3 c4) r_b) (hp0 : Bx w0 b [G A2 n3 c4, vi r_p]) (hm : some b ∈ O) :
  Ret Tryz.prog 58 [Pz b] w0 (fun v w' => ∃ (r0 : List Feat) (m0 : Int) (Aw0 : Option Addr) (nw0 cw0 : Nat), v = G Aw0 nw0 cw0 ∧ Q r0 m0 ∧ Gr w0 w' (some b) ∧ Bx w' b [G A2 n3 c4, vi m0] ∧ Ok w' ([bk Aw0] ++ O) ∧ (∀ b, some b ∈ [bk Aw0] → w0.heap.size ≤ b) ∧ Ow kFeat 44 w' ([bk Aw0] ++ O) (G Aw0 nw0 cw0) r0) := by
 unfold F106.E at H;have hc0 := Ct.initm1 (r := some b) hO (by intro b e; cases e; exact hm);refine X9 Tryz.func58 Z 38 Z [.tmp 2] Z Z ?_;refine Xc (Xd (Xg (G none 0 0) Z (Xb (Xc (Xd (Xe (Pz b) Z ?_))))));refine Xu go48 (F70.calls H hc0.ok hp5 hp0 hm) Z ?_;rintro _ w7 ⟨r2, m, A9, ab, ac, rfl, H, g8, bs, bt, bu, an⟩;have ag := hc0.ownm g8 bt bu;refine Xg (G A9 ab ac) Z (Xb (Xc (Xc (Xd (Xe (Pz b) Z ?_)))));refine Xu go47 (F22.calls H ag.ok (hp5.st ag.st) bs (List.mem_append_right _ hm)) Z ?_;rintro _ bv ⟨r3, m2, rfl, H, ah, ao⟩;have ad := ag.wm ah;refine Xb (X8 (Xc (Xd (Xa (X1 r3 0 (r3 == 0) Z Z Z) (Xg (vb (r3 == 0)) Z (Xb ?_))))));refine Xz (r3 == 0) Z (fun av => ?_) (fun av => ?_)
 ·have H := Xp H av;refine Xd (Xe (G A9 ab ac) Z (Xe (Pz b) Z ?_));refine Xu go63 (F93.calls H ad.ok (hp5.st ad.st) ao (List.mem_append_right _ hm)) Z ?_;rintro _ c7 ⟨r4, m3, ba, bb, bc, bd, be, bf, rfl, H, bg, bw, bx, bz, b0⟩;have b1 := ad.wm bg;refine Yb (kd := kFeat) Yz b1 ([r4] : List Feat) (cells := [vs r4.Id, vi r4.Shape.Kind, G ba bb bc, G bd be bf]) ⟨[vs r4.Id, vi r4.Shape.Kind, G ba bb bc, G bd be bf], _, Z, (kFeat.mk _ _ r4 bx bz b0), Z⟩ RF fun c8 b2 b3 b4 bh hr47 bi b5 => ?_;obtain ⟨b6, H⟩ := H;have b7 := ((ad.swm (ag.swm an 0 Z ah) 0 Z bg).so _ bh hr47);refine Yg Yz bi (G A9 ab ac) r2 ([r4] : List Feat) Z b7 (G b2 b3 b4) Z b5.sx 1 Z b6 fun c9 ai aj ak b8 da bj b9 => ?_;refine Xg (G ai aj ak) Z (Xb (Xc (Xd (Xe (G ai aj ak) Z (Xg (G ai aj ak) Z (Xb (Xn ?_)))))));have aw := bj.drop 0 Z;have ca := (bj.sd b9 1 0 Z Z Z);have cb := (bi.bmo (bw.k0 bh) 1 Z b8);exact ⟨[G ai aj ak], ⟨_, Z, Z⟩, (r2 ++ ([r4] : List Feat)), m3, ai, aj, ak, Z, H, aw.gr.g1, cb, aw.ok, aw.ge, ca⟩
 have H := Xq H av;refine Xc (Xd (Xa (X1 r3 1 (r3 == 1) Z Z Z) (Xg (vb (r3 == 1)) Z (Xb ?_))));refine Xz (r3 == 1) Z (fun ax => ?_) (fun ax => ?_)
 ·have H := Xp H ax;refine Xc (Xd (Xe (G A9 ab ac) Z (Xe (G A9 ab ac) Z ?_)));have bl := (ag.swm an 0 Z ah);obtain ⟨cc, H⟩ := H;refine Yg Yz ad (G A9 ab ac) r2 r2 Z bl (G A9 ab ac) Z bl.sx 0 Z cc fun db ay az a0 cd dc a1 ce => ?_;refine Xg (G ay az a0) Z (Xb (Xn ?_));have cf := (ad.bmo ao 0 Z cd);exact ⟨[G ay az a0], ⟨_, Z, Z⟩, (r2 ++ r2), m2, ay, az, a0, Z, H, a1.gr.g1, cf, a1.ok, a1.ge, ce⟩
 have H := Xq H ax;refine Xc (Xd (Xa (X1 r3 2 (r3 == 2) Z Z Z) (Xg (vb (r3 == 2)) Z (Xb ?_))));refine Xz (r3 == 2) Z (fun a2 => ?_) (fun a2 => ?_)
 ·have H := Xp H a2;refine Xc (Xd (Xg (vi 0) Z (Xb (X8 ?_))));obtain ⟨cg, ch, a3, H⟩ := H;have ci := (ag.swm an 0 Z ah);refine Yj (α := (List Feat) × (Option Addr) × Nat × Nat × Int) (fun (xs2, aa, ae, af, i2) t al => cg xs2 i2 ∧ Has t [(3, G aa ae af), (4, vi i2)] ∧ Cw [some b] w0 al [bk aa] O fun M => Sl Kd.byte al (Fr M) (G A2 n3 c4) r_b ∧ Ow kFeat 44 al M (G aa ae af) xs2 ∧ Bx al b [G A2 n3 c4, vi m2]) (fun (xs2, _, _, _, i2) => ch xs2 i2) (r2, A9, ab, ac, 0) ⟨a3, (X0 Z), ad, (hp5.st ad.st), ci, ao⟩ ?_;rintro ⟨xs2, aa, ae, af, i2⟩ _ al ⟨a3, cj, am, ck, bm, bn⟩;obtain ⟨dd, rfl⟩ := Has.ins cj;have H := H xs2 i2 a3;refine Xc (Xc (Xd (Xe (vi i2) Z (Xa (X1 i2 8 (decide (i2 ≤ 8)) Z Z Z) (Xb ?_)))));refine Xz (decide (i2 ≤ 8)) Z (fun a4 => ?_) (fun a4 => ?_)
  ·have H := Xp H a4;refine Xx (Xc (X8 (Xd (Xe (G aa ae af) Z (Xe (vi i2) Z (Xe (vi i2) Z ?_))))));obtain ⟨cl, H⟩ := H;refine Xa (Yd i2 1 Z Z cl) ?_;obtain ⟨cm, H⟩ := H;refine Xa (Kh u9_ ([113, 114, 115, 116, 117, 118, 119, 120, 121, 122] : Str) Z i2 (i2 + 1) Z Z cm) (Xa (Yl (.agg #[vi 0, vi 0]) RF) (Yb (kd := kPt) Yt am ([(⟨0, 0⟩ : Pt)] : List Pt) (cells := [vi 0, vi 0]) ⟨[vi 0, vi 0], _, Z, (kPt.mk _ _ (⟨0, 0⟩ : Pt)), Z⟩ RF fun cn ap aq ar a5 hr121 au co => ?_));refine Xa (Yl (.agg #[vi 1, G ap aq ar]) RF) (Xa (Yl (.agg #[vs ((([113, 114, 115, 116, 117, 118, 119, 120, 121, 122] : Str).drop i2.toNat).take ((i2 + 1).toNat - i2.toNat)), vi 1, G ap aq ar, G none 0 0]) RF) ?_);have cp := (bm.so _ a5 hr121);have cq := au.gv cp 1 Z;have a6 := au.drop 1 Z;have cr := (au.sd co 0 1 Z Z Z);have cs := a6.gv cr 0 Z;have a7 := a6.drop 0 Z;have bo := a6.std 0 Z;refine Xu go89 (F127.calls H a7.ok (cq.st bo) (lim_cut (by decide : Lim ([113, 114, 115, 116, 117, 118, 119, 120, 121, 122] : Str)) _ _) cs (Sl.nil _ _ _ none 0 RD)) Z ?_;rintro _ ct ⟨r5, a8, bp, bq, rfl, H, a9, cu, br, cv⟩;have cw : Ct [some b] w0 ct [bk a8] O := a7.owns a9 cu br;refine Xg (G a8 bp bq) Z (Xb (Xd (Xe (vi i2) Z ?_)));obtain ⟨cx, H⟩ := H;refine Xa (Yd i2 1 Z Z cx) (Xg (vi (i2 + 1)) Z (Xb ?_));obtain ⟨cy, cz⟩ := H;have c0 := am.stown _ a5 hr121;have c1 := au.std 1 Z;have c2 := a7.stos a9 br;have c3 := ((((ck.st c0).st c1).st bo).st c2);have c5 := ((bn.k0 a5).k0 a9);exact ⟨(r5, a8, bp, bq, i2 + 1), cz, cy, (X0 Z), cw, c3, cv, c5⟩
  have H := Xq H a4;refine Yh (xin_hit ?_);exact Xc (Xd (Xe (G aa ae af) Z (Xg (G aa ae af) Z (Xb (Xn ⟨[G aa ae af], ⟨_, Z, Z⟩, xs2, m2, aa, ae, af, Z, H, am.gr.g1, bn, am.ok, am.ge, bm⟩)))))
 have H := Xq H a2;refine Xx (Xc (Xd (Xe (G A9 ab ac) Z (Xg (G A9 ab ac) Z (Xb (Xn ?_))))));have c6 := (ag.swm an 0 Z ah);exact ⟨[G A9 ab ac], ⟨_, Z, Z⟩, r2, m2, A9, ab, ac, Z, H, ad.gr.g1, ao, ad.ok, ad.ge, c6⟩
def F17.E (code : List UInt8) (Q : List Feat → Feat → Prop) : Prop :=
 F67.E code (fun r_b r_p => F106.E r_b r_p (fun r m => F93.E r_b m (fun r2 m2 => Q r r2)))
theorem F17.calls {code : List UInt8} {A1 : Option Addr} {n2 c3 : Nat} {Q : List Feat → Feat → Prop} (H : F17.E code Q) (hO : Ok w0 O) (hp4 : Sl Kd.byte w0 (Fr O) (G A1 n2 c3) code) :
  Ret Tryz.prog 30 [G A1 n2 c3] w0 (fun v w' => ∃ (r0 : List Feat) (r1 : Feat) (Aw0 : Option Addr) (nw0 cw0 : Nat) (Aw2 : Option Addr) (nw2 cw2 : Nat) (Aw4 : Option Addr) (nw4 cw4 : Nat), v = .tuple #[G Aw0 nw0 cw0, .agg #[vs r1.Id, vi r1.Shape.Kind, G Aw2 nw2 cw2, G Aw4 nw4 cw4]] ∧ Q r0 r1 ∧ Gk w0 w' [bk Aw0] O (Ow kFeat 44 w' ([bk Aw0] ++ O) (G Aw0 nw0 cw0) r0 ∧ Lim r1.Id ∧ Sl kPt w' (Fr ([bk Aw0] ++ O)) (G Aw2 nw2 cw2) r1.Shape.Pts ∧ Sl kTag w' (Fr ([bk Aw0] ++ O)) (G Aw4 nw4 cw4) r1.Tags)) := by
 unfold F17.E at H;have hc0 := Ct.init hO;refine X9 Tryz.func30 Z 13 Z [.tmp 2, .cell 3 44] Z Z ?_;refine Xc (Xd (Xg (G none 0 0) Z (Yp [vs [], .int .i64 0, G none 0 0, G none 0 0] ze44 fun w6 b7 hl9 hu10 g8 a5 => ?_)));have an := hc0.own g8 (some b7) (Yn hl9 hu10);refine Xb (Xc (Xd (Xe (G A1 n2 c3) Z ?_)));refine Xu go40 (F67.calls H an.ok (hp4.st an.st)) Z ?_;rintro _ a6 ⟨r_b, r_p, aa, ax, ay, az, rfl, H, a0, a7, a8, a9, a1⟩;have ae := an.owns a0 a7 a8;refine Xg (Pz aa) Z (Xb (Xc (Xd (Xe (Pz aa) Z ?_))));refine Xu go58 (F106.calls H ae.ok a1 a9 (mem_app 0 Z)) Z ?_;rintro _ ba ⟨r, m, ab, ac, ad, rfl, H, ao, bb, bc, a2, bd⟩;have af := ae.ownw (j := 0) Z ao bc a2;refine Xg (G ab ac ad) Z (Xb (Xc (Xd (Xe (G ab ac ad) Z (Xe (Pz aa) Z ?_)))));have be := ae.stow 0 Z ao a2;refine Xu go63 (F93.calls H af.ok (a1.st be) bb (mem_app 1 Z)) Z ?_;rintro _ br ⟨r2, m2, ag, ah, ai, aj, ak, al, rfl, H, ap, bs, bf, bg, bh⟩;have aq := af.wr 1 Z ap;refine Xg (G ab ac ad) Z ?_;have bi := (af.bm (ae.bm (a5.k0 a0) 1 0 Z Z Z ao) 2 1 Z Z Z ap);refine Ye [vs r2.Id, vi r2.Shape.Kind, G ag ah ai, G aj ak al] bi Z Z sz44 Z Z fun bt ar bj => ?_;have am := aq.wr 2 Z ar;refine Xb (Xn ?_);have bl := am.bgv bj 2 Z;have au := am.drop 2 Z;have av := au.drop 1 Z;have aw := au.std 1 Z;have bn := (bl.st aw);have bo := (au.sd (am.sd (aq.sw (af.sw bd 0 1 Z Z Z ap) 0 2 Z Z Z ar) 0 2 Z Z Z) 0 1 Z Z Z);have a3 := aq.stw 2 Z ar;have a4 := am.std 2 Z;have bp := (((bg.st a3).st a4).st aw);have bq := (((bh.st a3).st a4).st aw);exact ⟨[G ab ac ad, .agg #[vs r2.Id, vi r2.Shape.Kind, G ag ah ai, G aj ak al]], ⟨_, Z, ⟨_, _, Z, bn.1.res Z ag44 sz44, Z⟩⟩, r, r2, ab, ac, ad, ag, ah, ai, aj, ak, al, Z, H, av.gr.g0, av.ok, av.ge, bo, bf, bp, bq⟩
def F95.E (n low high : Int) (Q : Bool → Prop) : Prop :=
 (if decide (n ≥ low) then Q (decide (n ≤ high)) else Q false)
theorem F95.calls {n : Int} {low : Int} {high : Int} {Q : Bool → Prop} (H : F95.E n low high Q) (hO : Ok w0 O) :
  Ret Tryz.prog 106 [vi n, vi low, vi high] w0 (fun v w' => ∃ (r0 : Bool), v = vb r0 ∧ Q r0 ∧ Gr w0 w' none ∧ w' = w0) := by
 unfold F95.E at H;have hc0 := Ct.init hO;refine X9 Tryz.func106 Z 15 Z [.tmp 6] Z Z ?_;refine Xc (Xd (Xg (vb false) Z (Xb (Xc (Xd (Xe (vi n) Z (Xe (vi low) Z (Xa (X1 n low (decide (n ≥ low)) Z Z Z) ?_))))))));refine Xe (vb (decide (n ≥ low))) Z ?_;rcases X2 (decide (n ≥ low)) with hq1 | hq1
 ·have H := Xp H hq1;refine Xh hq1 Z (Xe (vi n) Z (Xh hq1 Z (Xe (vi high) Z (Xh hq1 Z (Xa (X1 n high (decide (n ≤ high)) Z Z Z) (Xa (Xk true (vb (decide (n ≤ high))) hq1 Z) (Xg (vb (decide (n ≤ high))) Z (Xb ?_))))))));exact Xn ⟨[vb (decide (n ≤ high))], ⟨_, Z, Z⟩, decide (n ≤ high), Z, H, hc0.gr.g0, Z⟩
 have H := Xq H hq1;exact Xi hq1 Z (Xi hq1 Z (Xi hq1 Z (Xa (Xk false (vb false) hq1 Z) (Xg (vb false) Z (Xb (Xn ⟨[vb false], ⟨_, Z, Z⟩, false, Z, H, hc0.gr.g0, Z⟩))))))
def F95.m (n low high : Int) : Bool := (if decide (n ≥ low) then (decide (n ≤ high)) else false)
theorem F95.fn (n low high : Int) : F95.E n low high (fun r => r = F95.m n low high) := by
 unfold F95.E F95.m;(repeat' split) <;> simp_all
def F96.E (s : Str) (Q : Bool → Prop) : Prop :=
 (∃ (I9 : Int → Prop) (mu10 : Int → Nat), I9 0 ∧ ∀ (v2 : Int), I9 v2 → (if decide (v2 < (s.length : Int)) then ((0 : Int) ≤ v2 ∧ v2 < (s.length : Int)) ∧ (if decide (((nth s v2).toNat : Int) < 97) then Q false else ((0 : Int) ≤ v2 ∧ v2 < (s.length : Int)) ∧ (if decide (((nth s v2).toNat : Int) > 122) then Q false else (I64 (v2 + 1)) ∧ I9 (v2 + 1) ∧ mu10 (v2 + 1) < mu10 v2)) else F95.E (s.length : Int) 1 6 (fun r => Q r)))
theorem F96.calls {s : Str} {Q : Bool → Prop} (H : F96.E s Q) (hO : Ok w0 O) (hs1 : Lim s) :
  Ret Tryz.prog 51 [vs s] w0 (fun v w' => ∃ (r0 : Bool), v = vb r0 ∧ Q r0 ∧ Gr w0 w' none) := by
 unfold F96.E at H;have hc0 := Ct.init hO;refine X9 Tryz.func51 Z 23 Z [.tmp 2] Z Z ?_;refine Xc (Xd (Xg (vb false) Z (Xb (Xc (Xc (Xd (Xe (vs s) Z ?_)))))));have hl2 := hs1;refine Xa (Zl u9_ s Z) (Xe (vi 0) Z (Xb (X8 ?_)));obtain ⟨I9, ae, ab, H⟩ := H;refine Yj (α := Int) (fun (sv__ : Int) t w7 => match sv__ with | v2 => I9 v2 ∧ Has t [(0, vs s), (5, vi (s.length : Int)), (6, vi v2)] ∧ Ct [] w0 w7 [] O) (fun (sv__ : Int) => match sv__ with | v2 => ae v2) 0 ⟨ab, (X0 Z), hc0⟩ ?_;rintro v2 _ w7 ⟨ab, af, hc8⟩;obtain ⟨an, rfl⟩ := Has.ins af;have H := H v2 ab;refine Xc (Xd (Xa (X1 v2 (s.length : Int) (decide (v2 < (s.length : Int))) Z Z Z) (Xb (Xc ?_))));refine Xz (decide (v2 < (s.length : Int))) Z (fun ac => ?_) (fun ac => ?_)
 ·have H := Xp H ac;refine Xx (Xc (X8 (Xc (Xd (Xe (vi v2) Z (Xg (vi v2) Z (Xb (Xc ?_))))))));refine Xd (Xe (vs s) Z (Xe (vi v2) Z ?_));obtain ⟨ag, H⟩ := H;refine Xa (Zq u9_ s v2 Z Z ag) (Xa (X1 ((nth s v2).toNat : Int) 97 (decide (((nth s v2).toNat : Int) < 97)) Z Z Z) (Xe (vb (decide (((nth s v2).toNat : Int) < 97))) Z ?_));rcases X2 (decide (((nth s v2).toNat : Int) < 97)) with aa | aa
  ·have H := Xp H aa;refine Xi aa Z (Xi aa Z (Xi aa Z (Xi aa Z (Xa (Xk true (vb true) aa Z) (Xb (Yr (b := true) Z Z ?_))))));exact Xc (Xd (Xg (vb false) Z (Xb (Xn ⟨[vb false], ⟨_, Z, Z⟩, false, Z, H, hc8.gr.g0⟩))))
  have H := Xq H aa;refine Xh aa Z (Xe (vs s) Z (Xh aa Z (Xe (vi v2) Z (Xh aa Z ?_))));obtain ⟨ah, H⟩ := H;refine Xa (Zq u9_ s v2 Z Z ah) (Xh aa Z (Xa (X1 ((nth s v2).toNat : Int) 122 (decide (((nth s v2).toNat : Int) > 122)) Z Z Z) (Xa (Ym false (vb (decide (((nth s v2).toNat : Int) > 122))) (by exact congrArg Value.bool aa) Z) (Xb ?_))));refine Xz (decide (((nth s v2).toNat : Int) > 122)) Z (fun ad => ?_) (fun ad => ?_)
  ·have H := Xp H ad;exact Xc (Xd (Xg (vb false) Z (Xb (Xn ⟨[vb false], ⟨_, Z, Z⟩, false, Z, H, hc8.gr.g0⟩))))
  have H := Xq H ad;refine Xx (Xd ?_);obtain ⟨ai, H⟩ := H;refine Xa (Yd v2 1 Z Z ai) (Xe (vi (v2 + 1)) Z (Xb ?_));obtain ⟨aj, ak⟩ := H;exact ⟨v2 + 1, ak, aj, (X0 Z), hc8⟩
 have H := Xq H ac;refine Yh (xin_hit ?_);refine Xc (Xd (Xe (vs s) Z ?_));have ao := hs1;refine Xa (Zl u9_ s Z) ?_;refine Xu go106 (F95.calls H hc8.ok) Z ?_;rintro _ ap ⟨r, rfl, H, al, _⟩;have am := hc8.k0 al;exact Xg (vb r) Z (Xb (Xn ⟨[vb r], ⟨_, Z, Z⟩, r, Z, H, am.gr.g0⟩))
def F140.E (p : Pt) (Q : Bool → Prop) : Prop :=
 F95.E p.X (-1000) 1000 (fun r => (if r then F95.E p.Y (-1000) 1000 (fun r2 => Q r2) else Q false))
theorem F140.calls {p : Pt} {Q : Bool → Prop} (H : F140.E p Q) (hO : Ok w0 O) :
  Ret Tryz.prog 117 [.agg #[vi p.X, vi p.Y]] w0 (fun v w' => ∃ (r0 : Bool), v = vb r0 ∧ Q r0 ∧ Gr w0 w' none) := by
 unfold F140.E at H;have hc0 := Ct.init hO;refine X9 Tryz.func117 Z 11 Z [.tmp 2] Z Z ?_;refine Xc (Xd (Yo [vi p.X, vi p.Y] Z fun w1 b2 hl4 hu5 g3 hx6 => ?_));have h8 := Fb.mk hc0.ok hl4 hx6;have hc9 := hc0.k0 g3;refine Xg (vb false) Z (Xb (Xc (Xd (Xa (Xj fa49_0 (Ad b2 0) (Ad b2 0) Z Z) (Xa (Xo ag3 cL (Ad b2 0) (vi p.X) Z (h8.cell Z)) ?_)))));refine Xu go106 (F95.calls H hc9.ok) Z ?_;rintro _ ad ⟨r, rfl, H, ac, _⟩;have ab := hc9.k0 ac;refine Xe (vb r) Z ?_;rcases X2 r with aa | aa
 ·have H := Xp H aa;refine Xh aa Z (Xa (Xj fa49_1 (Ad b2 0) (Ad b2 1) Z Z) (Xh aa Z ?_));have ae := hc9.stn ac;have af := (h8.st ae);refine Xa (Xo ag3 cL (Ad b2 1) (vi p.Y) Z (af.cell Z)) (Xh aa Z ?_);refine Xu go106 (F95.calls H ab.ok) Z ?_;rintro _ ai ⟨r2, rfl, H, ag, _⟩;have ah := ab.k0 ag;exact Xa (Xk true (vb r2) aa Z) (Xg (vb r2) Z (Xb (Xn ⟨[vb r2], ⟨_, Z, Z⟩, r2, Z, H, ah.gr.g0⟩)))
 have H := Xq H aa;exact Xi aa Z (Xi aa Z (Xi aa Z (Xa (Xk false (vb false) aa Z) (Xg (vb false) Z (Xb (Xn ⟨[vb false], ⟨_, Z, Z⟩, false, Z, H, ab.gr.g0⟩))))))
def F72.E (s : Shape) (Q : Bool → Prop) : Prop :=
 (∃ (I31 : Int → Prop) (mu32 : Int → Nat), I31 0 ∧ ∀ (v2 : Int), I31 v2 → (if decide (v2 < (s.Pts.length : Int)) then ((0 : Int) ≤ v2 ∧ v2 < (s.Pts.length : Int)) ∧ (∃ q : Bool, F140.E (nth s.Pts v2) (fun x => x = q) ∧ (if !q then Q false else (if decide (v2 > 0) then (I64 (v2 - 1)) ∧ ((0 : Int) ≤ v2 - 1 ∧ v2 - 1 < (s.Pts.length : Int)) ∧ (if eqPt (nth s.Pts (v2 - 1)) (nth s.Pts v2) then Q false else (I64 (v2 + 1)) ∧ I31 (v2 + 1) ∧ mu32 (v2 + 1) < mu32 v2) else (I64 (v2 + 1)) ∧ I31 (v2 + 1) ∧ mu32 (v2 + 1) < mu32 v2))) else (if s.Kind == 1 then Q ((s.Pts.length : Int) == 1) else (if s.Kind == 2 then F95.E (s.Pts.length : Int) 2 6 (fun r2 => Q r2) else (if s.Kind == 3 then (if (F95.m (s.Pts.length : Int) 3 6) then ((0 : Int) ≤ 0 ∧ 0 < (s.Pts.length : Int)) ∧ ((s.Pts.length : Int) ≤ 9223372036854775807 → I64 ((s.Pts.length : Int) - 1)) ∧ ((0 : Int) ≤ (s.Pts.length : Int) - 1 ∧ (s.Pts.length : Int) - 1 < (s.Pts.length : Int)) ∧ Q (!(eqPt (nth s.Pts 0) (nth s.Pts ((s.Pts.length : Int) - 1)))) else Q false) else Q false)))))
theorem F72.calls {s : Shape} {A1 : Option Addr} {n2 c3 : Nat} {Q : Bool → Prop} (H : F72.E s Q) (hO : Ok w0 O) (hp4 : Sl kPt w0 (Fr O) (G A1 n2 c3) s.Pts) :
  Ret Tryz.prog 68 [.agg #[vi s.Kind, G A1 n2 c3]] w0 (fun v w' => ∃ (r0 : Bool), v = vb r0 ∧ Q r0 ∧ Gr w0 w' none) := by
 unfold F72.E at H;have hc0 := Ct.init hO;refine X9 Tryz.func68 Z 62 Z [.tmp 2] Z Z ?_;refine Xc (Xd (Yo [vi s.Kind, G A1 n2 c3] Z fun w6 b7 hl9 hu10 g8 bl => ?_));have ay := Fb.mk hc0.ok hl9 bl;have ai := hc0.k0 g8;refine Xg (vb false) Z (Xb (Xc (Xc (Xd (Xa (Xj fa41_1 (Ad b7 0) (Ad b7 1) Z Z) (Xa (Xo ag39 cL (Ad b7 1) (G A1 n2 c3) Z (ay.cell Z)) ?_))))));have cw := (hp4.st ai.st).le;refine Xa (Yc u39_ A1 n2 c3 (hp4.st ai.st).len Z) (Xe (vi 0) Z (Xb (X8 ?_)));obtain ⟨bm, bn, ak, H⟩ := H;refine Yj (α := Int) (fun (sv__ : Int) t af => match sv__ with | v2 => bm v2 ∧ Has t [(1, Pz b7), (7, G A1 n2 c3), (8, vi (s.Pts.length : Int)), (9, vi v2)] ∧ Cw [] w0 af [] O fun M => Sl kPt af (Fr M) (G A1 n2 c3) s.Pts ∧ Fb af M b7 [vi s.Kind, G A1 n2 c3]) (fun (sv__ : Int) => match sv__ with | v2 => bn v2) 0 ⟨ak, (X0 Z), ai, (hp4.st ai.st), ay⟩ ?_;rintro v2 _ af ⟨ak, bo, ad, ae, ag⟩;obtain ⟨cx, rfl⟩ := Has.ins bo;have H := H v2 ak;refine Xc (Xd (Xa (X1 v2 (s.Pts.length : Int) (decide (v2 < (s.Pts.length : Int))) Z Z Z) (Xb (Xc ?_))));refine Xz (decide (v2 < (s.Pts.length : Int))) Z (fun al => ?_) (fun al => ?_)
 ·have H := Xp H al;refine Xx (Xc (X8 (Xc (Xd (Xe (vi v2) Z ?_)))));obtain ⟨az, H⟩ := H;obtain ⟨a0, cy, bp, cz, bq, br⟩ := ae.get default RD v2 az;obtain rfl := kPt.op bq;refine Xa (X3 u39_ Yx A1 a0 n2 c3 ae.len v2 Z bp Z az) (Xa (Xv ag49 sz49 cL (a0.add (v2.toNat * 2)) [vi ((nth s.Pts v2).X), vi ((nth s.Pts v2).Y)] Z Z br) (Yp [.int .i64 0, .int .i64 0] ze49 fun c0 aj am hu49 an bs => ?_));have ao := ad.own an (some aj) (Yn am hu49);refine Xg (vi v2) Z (Ye [vi ((nth s.Pts v2).X), vi ((nth s.Pts v2).Y)] bs Z Z sz49 Z Z fun bt ap a1 => ?_);have ah := ao.wr 0 Z ap;refine Xb (Xc (Ys (fun x => Gr bt x none) RK RK (Gr.drew _) ?_));refine Xf (Xv ag49 sz49 cQ (Ad aj 0) [vi ((nth s.Pts v2).X), vi ((nth s.Pts v2).Y)] Z Z (a1.cells (off := 00) Z)) ?_;obtain ⟨q, bu, H⟩ := H;refine Yq go117 [.agg #[vi ((nth s.Pts v2).X), vi ((nth s.Pts v2).Y)]] Z (vb q) (fun w g => (F140.calls bu (ah.k0 g).ok).mono ?_) ?_
  ·rintro _ w ⟨r, rfl, rfl, g2⟩;exact ⟨Z, Gr.t0 g g2⟩
  refine Xf (X7 q Z) (Xs (vb (!q)) Z ?_);rcases X2 (!q) with ac | ac
  ·have H := Xp H ac;refine Xm ac Z (Xm ac Z (Xm ac Z (Xw Z (Xw Z (Xw Z (Xw Z (Xw Z (Xw Z ?_))))))));refine Xw Z (Xw Z (Xm ac Z (Xf (Xk true (vb true) ac Z) (Ya fun c1 bv => ?_))));have bw := ah.k0 bv;refine Yr (b := true) Z Z ?_;refine Xc (Xd (Xg (vb false) Z (Xb (Xn ?_))));have bx := bw.drop 0 Z;exact ⟨[vb false], ⟨_, Z, Z⟩, false, Z, H, bx.gr.g0⟩
  have H := Xq H ac;refine Xl ac Z (Xs (vi v2) Z (Xl ac Z (Xf (X1 v2 0 (decide (v2 > 0)) Z Z Z) (Xl ac Z (Xs (vb (decide (v2 > 0))) Z ?_)))));rcases X2 (decide (v2 > 0)) with ab | ab
  ·have H := Xp H ab;refine Xl ab Z (Xf (Xj fa41_1 (Ad b7 0) (Ad b7 1) Z Z) (Xl ab Z ?_));have a2 := ad.stown _ an (X4 am);have a3 := ao.stw 0 Z ap;have a4 := ((ag.st a2).st a3);refine Xf (Xo ag39 cQ (Ad b7 1) (G A1 n2 c3) Z (a4.cell Z)) (Xl ab Z (Xs (vi v2) Z (Xl ab Z ?_)));obtain ⟨bz, H⟩ := H;refine Xf (Y3 v2 1 Z Z bz) (Xl ab Z ?_);obtain ⟨a5, H⟩ := H;have aq := ((ae.st a2).st a3);obtain ⟨a6, c2, b0, c4, b1, b2⟩ := aq.get default RD (v2 - 1) a5;obtain rfl := kPt.op b1;refine Xf (X3 u39_ Yx A1 a6 n2 c3 aq.len (v2 - 1) Z b0 Z a5) (Xl ab Z (Xf (Xv ag49 sz49 cQ (a6.add ((v2 - 1).toNat * 2)) [vi ((nth s.Pts (v2 - 1)).X), vi ((nth s.Pts (v2 - 1)).Y)] Z Z b2) (Xl ab Z (Xf (Xv ag49 sz49 cQ (Ad aj 0) [vi ((nth s.Pts v2).X), vi ((nth s.Pts v2).Y)] Z Z (a1.cells (off := 00) Z)) (Xl ab Z (Xf (Z0 _ _ (eqPt (nth s.Pts (v2 - 1)) (nth s.Pts v2)) (qt49 (nth s.Pts (v2 - 1)) (nth s.Pts v2)) Z Z) (Xl ac Z (Xf (Ym true (vb (eqPt (nth s.Pts (v2 - 1)) (nth s.Pts v2))) (by exact congrArg Value.bool ab) Z) ?_))))))));refine Xf (Ym false (vb (eqPt (nth s.Pts (v2 - 1)) (nth s.Pts v2))) (by exact congrArg Value.bool ac) Z) (Ya fun c5 a7 => ?_);have ar := ah.k0 a7;refine Xz (eqPt (nth s.Pts (v2 - 1)) (nth s.Pts v2)) Z (fun au => ?_) (fun au => ?_)
   ·have H := Xp H au;refine Xc (Xd (Xg (vb false) Z (Xb (Xn ?_))));have b3 := ar.drop 0 Z;exact ⟨[vb false], ⟨_, Z, Z⟩, false, Z, H, b3.gr.g0⟩
   have H := Xq H au;refine Xx (Xd ?_);obtain ⟨b4, H⟩ := H;refine Xa (Yd v2 1 Z Z b4) (Xe (vi (v2 + 1)) Z (Xb ?_));have b5 := ar.drop 0 Z;obtain ⟨b6, b8⟩ := H;have a8 := ah.stn a7;have a9 := ar.std 0 Z;have b9 := ((aq.st a8).st a9);have ca := ((a4.st a8).st a9);exact ⟨v2 + 1, b8, b6, (X0 Z), b5, b9, ca⟩
  have H := Xq H ab;refine Xm ab Z (Xm ab Z (Xm ab Z (Xm ab Z (Xm ab Z (Xm ab Z (Xm ab Z (Xm ab Z (Xl ac Z ?_))))))));refine Xf (Xk false (vb false) ab Z) (Xf (Xk false (vb false) ac Z) (Ya fun c6 ba => ?_));have bb := ah.k0 ba;refine Y0 (b := false) Z Z ?_;refine Xx (Xd ?_);obtain ⟨cb, H⟩ := H;refine Xa (Yd v2 1 Z Z cb) (Xe (vi (v2 + 1)) Z (Xb ?_));have cc := bb.drop 0 Z;obtain ⟨cd, ce⟩ := H;have bc := ad.stown _ an (X4 am);have bd := ao.stw 0 Z ap;have be := ah.stn ba;have bf := bb.std 0 Z;have cf := ((((ae.st bc).st bd).st be).st bf);have cg := ((((ag.st bc).st bd).st be).st bf);exact ⟨v2 + 1, ce, cd, (X0 Z), cc, cf, cg⟩
 have H := Xq H al;refine Yh (xin_hit ?_);refine Xc (Xd (Xa (Xj fa41_1 (Ad b7 0) (Ad b7 1) Z Z) (Xa (Xo ag39 cL (Ad b7 1) (G A1 n2 c3) Z (ag.cell Z)) ?_)));have ch := ae.le;refine Xa (Yc u39_ A1 n2 c3 ae.len Z) (Xg (vi (s.Pts.length : Int)) Z (Xb (Xc (Xc (Xd (Xa (Xj fa41_0 (Ad b7 0) (Ad b7 0) Z Z) (Xa (Xo ag3 cL (Ad b7 0) (vi s.Kind) Z (ag.cell Z)) (Xb ?_))))))));refine X8 (Xc (Xd (Xa (X1 s.Kind 1 (s.Kind == 1) Z Z Z) (Xg (vb (s.Kind == 1)) Z (Xb ?_)))));refine Xz (s.Kind == 1) Z (fun av => ?_) (fun av => ?_)
 ·have H := Xp H av;exact Xc (Xd (Xe (vi (s.Pts.length : Int)) Z (Xa (X1 (s.Pts.length : Int) 1 ((s.Pts.length : Int) == 1) Z Z Z) (Xg (vb ((s.Pts.length : Int) == 1)) Z (Xb (Xn ⟨[vb ((s.Pts.length : Int) == 1)], ⟨_, Z, Z⟩, (s.Pts.length : Int) == 1, Z, H, ad.gr.g0⟩))))))
 have H := Xq H av;refine Xc (Xd (Xa (X1 s.Kind 2 (s.Kind == 2) Z Z Z) (Xg (vb (s.Kind == 2)) Z (Xb ?_))));refine Xz (s.Kind == 2) Z (fun aw => ?_) (fun aw => ?_)
 ·have H := Xp H aw;refine Xc (Xd (Xe (vi (s.Pts.length : Int)) Z ?_));refine Xu go106 (F95.calls H ad.ok) Z ?_;rintro _ c7 ⟨r2, rfl, H, ci, _⟩;have cj := ad.k0 ci;exact Xg (vb r2) Z (Xb (Xn ⟨[vb r2], ⟨_, Z, Z⟩, r2, Z, H, cj.gr.g0⟩))
 have H := Xq H aw;refine Xc (Xd (Xa (X1 s.Kind 3 (s.Kind == 3) Z Z Z) (Xg (vb (s.Kind == 3)) Z (Xb ?_))));refine Xz (s.Kind == 3) Z (fun ax => ?_) (fun ax => ?_)
 ·have H := Xp H ax;refine Xc (Ys (fun x => Gr af x none) RK RK (Gr.drew _) ?_);refine Xs (vi (s.Pts.length : Int)) Z ?_;refine Yq go106 [vi (s.Pts.length : Int), vi 3, vi 6] Z (vb (F95.m (s.Pts.length : Int) 3 6)) (fun w g => (F95.calls (F95.fn (s.Pts.length : Int) 3 6) (ad.k0 g).ok).mono ?_) ?_
  ·rintro _ w ⟨r, rfl, rfl, g2, _⟩;exact ⟨Z, Gr.t0 g g2⟩
  refine Xs (vb (F95.m (s.Pts.length : Int) 3 6)) Z ?_;rcases X2 (F95.m (s.Pts.length : Int) 3 6) with aa | aa
  ·have H := Xp H aa;refine Xl aa Z (Xf (Xj fa41_1 (Ad b7 0) (Ad b7 1) Z Z) (Xl aa Z (Xf (Xo ag39 cQ (Ad b7 1) (G A1 n2 c3) Z (ag.cell Z)) (Xl aa Z ?_))));obtain ⟨bg, H⟩ := H;obtain ⟨bh, c8, ck, c9, cl, cm⟩ := ae.get default RD 0 bg;obtain rfl := kPt.op cl;refine Xf (X3 u39_ Yx A1 bh n2 c3 ae.len 0 Z ck Z bg) (Xl aa Z (Xf (Xv ag49 sz49 cQ (bh.add ((0 : Int).toNat * 2)) [vi ((nth s.Pts 0).X), vi ((nth s.Pts 0).Y)] Z Z cm) (Xl aa Z (Xf (Xj fa41_1 (Ad b7 0) (Ad b7 1) Z Z) (Xl aa Z (Xf (Xo ag39 cQ (Ad b7 1) (G A1 n2 c3) Z (ag.cell Z)) (Xl aa Z (Xs (vi (s.Pts.length : Int)) Z ?_))))))));refine Xl aa Z ?_;obtain ⟨cn, H⟩ := H;have co := cn (len_le ch);refine Xf (Y3 (s.Pts.length : Int) 1 Z Z co) (Xl aa Z ?_);obtain ⟨bi, H⟩ := H;obtain ⟨bj, da, cp, db, cq, cr⟩ := ae.get default RD ((s.Pts.length : Int) - 1) bi;obtain rfl := kPt.op cq;refine Xf (X3 u39_ Yx A1 bj n2 c3 ae.len ((s.Pts.length : Int) - 1) Z cp Z bi) (Xl aa Z (Xf (Xv ag49 sz49 cQ (bj.add (((s.Pts.length : Int) - 1).toNat * 2)) [vi ((nth s.Pts ((s.Pts.length : Int) - 1)).X), vi ((nth s.Pts ((s.Pts.length : Int) - 1)).Y)] Z Z cr) (Xl aa Z (Xf (Ze _ _ (eqPt (nth s.Pts 0) (nth s.Pts ((s.Pts.length : Int) - 1))) (qt49 (nth s.Pts 0) (nth s.Pts ((s.Pts.length : Int) - 1))) Z Z) (Xf (Ym true (vb (!(eqPt (nth s.Pts 0) (nth s.Pts ((s.Pts.length : Int) - 1))))) (by exact congrArg Value.bool aa) Z) (Yy (vb (!(eqPt (nth s.Pts 0) (nth s.Pts ((s.Pts.length : Int) - 1))))) Z (Ya fun dc cs => ?_)))))));have ct := ad.k0 cs;exact Xn ⟨[vb (!(eqPt (nth s.Pts 0) (nth s.Pts ((s.Pts.length : Int) - 1))))], ⟨_, Z, Z⟩, !(eqPt (nth s.Pts 0) (nth s.Pts ((s.Pts.length : Int) - 1))), Z, H, ct.gr.g0⟩
  have H := Xq H aa;refine Xm aa Z (Xm aa Z (Xm aa Z (Xm aa Z (Xm aa Z (Xm aa Z (Xm aa Z (Xm aa Z (Xm aa Z ?_))))))));refine Xm aa Z (Xm aa Z (Xf (Xk false (vb false) aa Z) (Yy (vb false) Z (Ya fun dd cu => ?_))));have cv := ad.k0 cu;exact Xn ⟨[vb false], ⟨_, Z, Z⟩, false, Z, H, cv.gr.g0⟩
 have H := Xq H ax;exact Xx (Xc (Xd (Xg (vb false) Z (Xb (Xn ⟨[vb false], ⟨_, Z, Z⟩, false, Z, H, ad.gr.g0⟩)))))
def F98.E (f : Feat) (Q : Bool → Prop) : Prop :=
 (∃ (I43 : Int → Prop) (mu44 : Int → Nat), I43 0 ∧ ∀ (v2 : Int), I43 v2 → (if decide (v2 < (f.Tags.length : Int)) then ((0 : Int) ≤ v2 ∧ v2 < (f.Tags.length : Int)) ∧ (∃ q : Bool, F96.E ((nth f.Tags v2).Key) (fun x => x = q) ∧ (if !q then Q false else (∃ q2 : Bool, F96.E ((nth f.Tags v2).Val) (fun x => x = q2) ∧ (if !q2 then Q false else (if decide (v2 > 0) then (I64 (v2 - 1)) ∧ ((0 : Int) ≤ v2 - 1 ∧ v2 - 1 < (f.Tags.length : Int)) ∧ (if !(Op.bytesLess ((nth f.Tags (v2 - 1)).Key) ((nth f.Tags v2).Key)) then Q false else (I64 (v2 + 1)) ∧ I43 (v2 + 1) ∧ mu44 (v2 + 1) < mu44 v2) else (I64 (v2 + 1)) ∧ I43 (v2 + 1) ∧ mu44 (v2 + 1) < mu44 v2))))) else F96.E f.Id (fun r3 => (if r3 then F72.E f.Shape (fun r4 => (if r4 then Q (decide ((f.Tags.length : Int) ≤ 4)) else Q false)) else Q false))))
theorem F98.calls {f : Feat} {A2 : Option Addr} {n3 c4 : Nat} {A7 : Option Addr} {n8 c9 : Nat} {Q : Bool → Prop} (H : F98.E f Q) (hO : Ok w0 O) (hs1 : Lim f.Id) (hp5 : Sl kPt w0 (Fr O) (G A2 n3 c4) f.Shape.Pts) (ap : Sl kTag w0 (Fr O) (G A7 n8 c9) f.Tags) :
  Ret Tryz.prog 25 [.agg #[vs f.Id, vi f.Shape.Kind, G A2 n3 c4, G A7 n8 c9]] w0 (fun v w' => ∃ (r0 : Bool), v = vb r0 ∧ Q r0 ∧ Gr w0 w' none) := by
 unfold F98.E at H;have hc0 := Ct.init hO;refine X9 Tryz.func25 Z 54 Z [.tmp 2] Z Z ?_;refine Xc (Xd (Yo [vs f.Id, vi f.Shape.Kind, G A2 n3 c4, G A7 n8 c9] Z fun cy ab br hu16 bs bt => ?_));have bc := Fb.mk hc0.ok br bt;have ak := hc0.k0 bs;refine Xg (vb false) Z (Xb (Xc (Xc (Xd (Xa (Xj fa44_2 (Ad ab 0) (Ad ab 3) Z Z) (Xa (Xo ag42 cL (Ad ab 3) (G A7 n8 c9) Z (bc.cell Z)) ?_))))));have cz := (ap.st ak.st).le;refine Xa (Yc u42_ A7 n8 c9 (ap.st ak.st).len Z) (Xe (vi 0) Z (Xb (X8 ?_)));obtain ⟨bu, bv, aq, H⟩ := H;refine Yj (α := Int) (fun (sv__ : Int) t ai => match sv__ with | v2 => bu v2 ∧ Has t [(1, Pz ab), (6, G A7 n8 c9), (7, vi (f.Tags.length : Int)), (8, vi v2)] ∧ Cw [] w0 ai [] O fun M => Sl kTag ai (Fr M) (G A7 n8 c9) f.Tags ∧ Sl kPt ai (Fr M) (G A2 n3 c4) f.Shape.Pts ∧ Fb ai M ab [vs f.Id, vi f.Shape.Kind, G A2 n3 c4, G A7 n8 c9]) (fun (sv__ : Int) => match sv__ with | v2 => bv v2) 0 ⟨aq, (X0 Z), ak, (ap.st ak.st), (hp5.st ak.st), bc⟩ ?_;rintro v2 _ ai ⟨aq, bw, aj, al, ar, am⟩;obtain ⟨c0, rfl⟩ := Has.ins bw;have H := H v2 aq;refine Xc (Xd (Xa (X1 v2 (f.Tags.length : Int) (decide (v2 < (f.Tags.length : Int))) Z Z Z) (Xb (Xc ?_))));refine Xz (decide (v2 < (f.Tags.length : Int))) Z (fun au => ?_) (fun au => ?_)
 ·have H := Xp H au;refine Xx (Xc (X8 (Xc (Xd (Xe (vi v2) Z ?_)))));obtain ⟨bd, H⟩ := H;obtain ⟨be, c1, bx, c2, bz, b0⟩ := al.get default RD v2 bd;obtain ⟨rfl, b1, b2⟩ := kTag.op bz;refine Xa (X3 u42_ Y5 A7 be n8 c9 al.len v2 Z bx Z bd) (Xa (Xv ag93 sz93 cL (be.add (v2.toNat * 2)) [vs ((nth f.Tags v2).Key), vs ((nth f.Tags v2).Val)] Z Z b0) (Yp [vs [], vs []] ze93 fun c3 af av hu63 aw b3 => ?_));have ax := aj.own aw (some af) (Yn av hu63);refine Xg (vi v2) Z (Ye [vs ((nth f.Tags v2).Key), vs ((nth f.Tags v2).Val)] b3 Z Z sz93 Z Z fun b4 ay az => ?_);have ah := ax.wr 0 Z ay;refine Xb (Xc (Ys (fun x => Gr b4 x none) RK RK (Gr.drew _) ?_));refine Xf (Xj fa93_0 (Ad af 0) (Ad af 0) Z Z) (Xf (Xo ag9 cQ (Ad af 0) (vs ((nth f.Tags v2).Key)) Z (az.cell Z)) ?_);obtain ⟨q, b5, H⟩ := H;refine Yq go51 [vs ((nth f.Tags v2).Key)] Z (vb q) (fun w g => (F96.calls b5 (ah.k0 g).ok b1).mono ?_) ?_
  ·rintro _ w ⟨r, rfl, rfl, g2⟩;exact ⟨Z, Gr.t0 g g2⟩
  refine Xf (X7 q Z) (Xs (vb (!q)) Z ?_);rcases X2 (!q) with ad | ad
  ·have H := Xp H ad;refine Xm ad Z (Xm ad Z (Xm ad Z (Xm ad Z (Xf (Xk true (vb true) ad Z) (Xs (vb true) Z (Xt (dj := 23) Z Z (.inl Z) (Xt (dj := 23) Z Z (.inl Z) (Xt (dj := 23) Z Z (.inl Z) ?_))))))));refine Xw Z (Xw Z (Xw Z (Xw Z (Xw Z (Xw Z (Xw Z (Xw Z (Xw Z ?_))))))));refine Xw Z (Xt (dj := 23) Z Z (.inl Z) (Xf (Xk true (vb true) Z Z) (Ya fun c5 b6 => ?_)));have b7 := ah.k0 b6;refine Yr (b := true) Z Z ?_;refine Xc (Xd (Xg (vb false) Z (Xb (Xn ?_))));have b8 := b7.drop 0 Z;exact ⟨[vb false], ⟨_, Z, Z⟩, false, Z, H, b8.gr.g0⟩
  have H := Xq H ad;refine Xl ad Z (Xf (Xj fa93_1 (Ad af 0) (Ad af 1) Z Z) (Xl ad Z (Xf (Xo ag9 cQ (Ad af 1) (vs ((nth f.Tags v2).Val)) Z (az.cell Z)) (Xl ad Z ?_))));obtain ⟨q2, b9, H⟩ := H;refine Yq go51 [vs ((nth f.Tags v2).Val)] Z (vb q2) (fun w g => (F96.calls b9 (ah.k0 g).ok b2).mono ?_) ?_
  ·rintro _ w ⟨r, rfl, rfl, g2⟩;exact ⟨Z, Gr.t0 g g2⟩
  refine Xl ad Z (Xf (X7 q2 Z) (Xf (Xk false (vb (!q2)) ad Z) (Xs (vb (!q2)) Z ?_)));rcases X2 (!q2) with ac | ac
  ·have H := Xp H ac;refine Xm ac Z (Xm ac Z (Xm ac Z (Xw Z (Xw Z (Xw Z (Xw Z (Xw Z (Xw Z ?_))))))));refine Xw Z (Xw Z (Xw Z (Xw Z (Xm ac Z (Xf (Xk true (vb true) ac Z) (Ya fun c6 ca => ?_))))));have cb := ah.k0 ca;refine Yr (b := true) Z Z ?_;refine Xc (Xd (Xg (vb false) Z (Xb (Xn ?_))));have cc := cb.drop 0 Z;exact ⟨[vb false], ⟨_, Z, Z⟩, false, Z, H, cc.gr.g0⟩
  have H := Xq H ac;refine Xl ac Z (Xs (vi v2) Z (Xl ac Z (Xf (X1 v2 0 (decide (v2 > 0)) Z Z Z) (Xl ac Z (Xs (vb (decide (v2 > 0))) Z ?_)))));rcases X2 (decide (v2 > 0)) with aa | aa
  ·have H := Xp H aa;refine Xl aa Z (Xf (Xj fa44_2 (Ad ab 0) (Ad ab 3) Z Z) (Xl aa Z ?_));have a0 := aj.stown _ aw (X4 av);have a1 := ax.stw 0 Z ay;have bf := ((am.st a0).st a1);refine Xf (Xo ag42 cQ (Ad ab 3) (G A7 n8 c9) Z (bf.cell Z)) (Xl aa Z (Xs (vi v2) Z (Xl aa Z ?_)));obtain ⟨cd, H⟩ := H;refine Xf (Y3 v2 1 Z Z cd) (Xl aa Z ?_);obtain ⟨bg, H⟩ := H;have a2 := ((al.st a0).st a1);obtain ⟨an, c7, ce, c8, cf, cg⟩ := a2.get default RD (v2 - 1) bg;obtain ⟨rfl, da, db⟩ := kTag.op cf;refine Xf (X3 u42_ Y5 A7 an n8 c9 a2.len (v2 - 1) Z ce Z bg) (Xl aa Z (Xf (Xj fa93_0 (an.add ((v2 - 1).toNat * 2)) ((an.add ((v2 - 1).toNat * 2)).add 0) Z Z) (Xl aa Z (Xf (Xo ag9 cQ ((an.add ((v2 - 1).toNat * 2)).add 0) (vs ((nth f.Tags (v2 - 1)).Key)) Z (cg 0 _ Z)) (Xl aa Z (Xf (Xj fa93_0 (Ad af 0) (Ad af 0) Z Z) (Xl aa Z (Xf (Xo ag9 cQ (Ad af 0) (vs ((nth f.Tags v2).Key)) Z (az.cell Z)) ?_))))))));refine Xl aa Z (Xf (Yi ((nth f.Tags (v2 - 1)).Key) ((nth f.Tags v2).Key) (!(Op.bytesLess ((nth f.Tags (v2 - 1)).Key) ((nth f.Tags v2).Key))) Z Z Z) (Xl ac Z (Xf (Ym true (vb (!(Op.bytesLess ((nth f.Tags (v2 - 1)).Key) ((nth f.Tags v2).Key)))) (by exact congrArg Value.bool aa) Z) (Xf (Ym false (vb (!(Op.bytesLess ((nth f.Tags (v2 - 1)).Key) ((nth f.Tags v2).Key)))) (by exact congrArg Value.bool ac) Z) (Ya fun dc bh => ?_)))));have a3 := ah.k0 bh;refine Xz (!(Op.bytesLess ((nth f.Tags (v2 - 1)).Key) ((nth f.Tags v2).Key))) Z (fun a4 => ?_) (fun a4 => ?_)
   ·have H := Xp H a4;refine Xc (Xd (Xg (vb false) Z (Xb (Xn ?_))));have ch := a3.drop 0 Z;exact ⟨[vb false], ⟨_, Z, Z⟩, false, Z, H, ch.gr.g0⟩
   have H := Xq H a4;refine Xx (Xd ?_);obtain ⟨ci, H⟩ := H;refine Xa (Yd v2 1 Z Z ci) (Xe (vi (v2 + 1)) Z (Xb ?_));have cj := a3.drop 0 Z;obtain ⟨ck, cl⟩ := H;have a5 := ah.stn bh;have a6 := a3.std 0 Z;have cm := ((a2.st a5).st a6);have cn := ((((ar.st a0).st a1).st a5).st a6);have co := ((bf.st a5).st a6);exact ⟨v2 + 1, cl, ck, (X0 Z), cj, cm, cn, co⟩
  have H := Xq H aa;refine Xm aa Z (Xm aa Z (Xm aa Z (Xm aa Z (Xm aa Z (Xm aa Z (Xm aa Z (Xm aa Z (Xm aa Z ?_))))))));refine Xm aa Z (Xl ac Z (Xf (Xk false (vb false) aa Z) (Xf (Xk false (vb false) ac Z) (Ya fun dd bi => ?_))));have bj := ah.k0 bi;refine Y0 (b := false) Z Z ?_;refine Xx (Xd ?_);obtain ⟨cp, H⟩ := H;refine Xa (Yd v2 1 Z Z cp) (Xe (vi (v2 + 1)) Z (Xb ?_));have cq := bj.drop 0 Z;obtain ⟨cr, cs⟩ := H;have a7 := aj.stown _ aw (X4 av);have a8 := ax.stw 0 Z ay;have a9 := ah.stn bi;have ba := bj.std 0 Z;have ct := ((((al.st a7).st a8).st a9).st ba);have cu := ((((ar.st a7).st a8).st a9).st ba);have cv := ((((am.st a7).st a8).st a9).st ba);exact ⟨v2 + 1, cs, cr, (X0 Z), cq, ct, cu, cv⟩
 have H := Xq H au;refine Yh (xin_hit ?_);refine Xc (Xd (Xa (Xj fa44_0 (Ad ab 0) (Ad ab 0) Z Z) (Xa (Xo ag9 cL (Ad ab 0) (vs f.Id) Z (am.cell Z)) ?_)));refine Xu go51 (F96.calls H aj.ok hs1) Z ?_;rintro _ cw ⟨r3, rfl, H, bl⟩;have ao := aj.k0 bl;refine Xe (vb r3) Z ?_;rcases X2 r3 with ag | ag
 ·have H := Xp H ag;refine Xh ag Z (Xa (Xj fa44_1 (Ad ab 0) (Ad ab 1) Z Z) (Xh ag Z ?_));have bb := aj.stn bl;have bm := (am.st bb);refine Xa (Xv ag41 sz41 cL (Ad ab 1) [vi f.Shape.Kind, G A2 n3 c4] Z Z (bm.cells (off := 1) Z)) (Xh ag Z ?_);refine Xu go68 (F72.calls H ao.ok (ar.st bb)) Z ?_;rintro _ de ⟨r4, rfl, H, bn⟩;have bo := ao.k0 bn;refine Xa (Xk true (vb r4) ag Z) (Xe (vb r4) Z ?_);rcases X2 r4 with ae | ae
  ·have H := Xp H ae;refine Xh ae Z (Xa (Xj fa44_2 (Ad ab 0) (Ad ab 3) Z Z) (Xh ae Z ?_));have bp := ao.stn bn;have cx := (bm.st bp);refine Xa (Xo ag42 cL (Ad ab 3) (G A7 n8 c9) Z (cx.cell Z)) (Xh ae Z ?_);have bq := ((al.st bb).st bp);have df := bq.le;exact Xa (Yc u42_ A7 n8 c9 bq.len Z) (Xh ae Z (Xa (X1 (f.Tags.length : Int) 4 (decide ((f.Tags.length : Int) ≤ 4)) Z Z Z) (Xa (Ym true (vb (decide ((f.Tags.length : Int) ≤ 4))) (by exact congrArg Value.bool ae) Z) (Xg (vb (decide ((f.Tags.length : Int) ≤ 4))) Z (Xb (Xn ⟨[vb (decide ((f.Tags.length : Int) ≤ 4))], ⟨_, Z, Z⟩, decide ((f.Tags.length : Int) ≤ 4), Z, H, bo.gr.g0⟩))))))
  have H := Xq H ae;exact Xi ae Z (Xi ae Z (Xi ae Z (Xi ae Z (Xa (Xk false (vb false) ae Z) (Xg (vb false) Z (Xb (Xn ⟨[vb false], ⟨_, Z, Z⟩, false, Z, H, bo.gr.g0⟩)))))))
 have H := Xq H ag;refine Xi ag Z (Xi ag Z (Xi ag Z (Xa (Xk false (vb false) ag Z) (Xe (vb false) Z (X6 (dj := 48) Z Z (.inl Z) (X6 (dj := 48) Z Z (.inl Z) (X6 (dj := 48) Z Z (.inl Z) (X6 (dj := 48) Z Z (.inl Z) ?_))))))));exact Xa (Xk false (vb false) Z Z) (Xg (vb false) Z (Xb (Xn ⟨[vb false], ⟨_, Z, Z⟩, false, Z, H, ao.gr.g0⟩)))
def F74.E (s : List Feat) (Q : Bool → Prop) : Prop :=
 (∃ (I19 : Int → Prop) (mu20 : Int → Nat), I19 0 ∧ ∀ (v2 : Int), I19 v2 → (if decide (v2 < (s.length : Int)) then ((0 : Int) ≤ v2 ∧ v2 < (s.length : Int)) ∧ (∃ q : Bool, F98.E (nth s v2) (fun x => x = q) ∧ (if !q then Q false else (if decide (v2 > 0) then (I64 (v2 - 1)) ∧ ((0 : Int) ≤ v2 - 1 ∧ v2 - 1 < (s.length : Int)) ∧ (if !(Op.bytesLess ((nth s (v2 - 1)).Id) ((nth s v2).Id)) then Q false else (I64 (v2 + 1)) ∧ I19 (v2 + 1) ∧ mu20 (v2 + 1) < mu20 v2) else (I64 (v2 + 1)) ∧ I19 (v2 + 1) ∧ mu20 (v2 + 1) < mu20 v2))) else Q (decide ((s.length : Int) ≤ 8))))
theorem F74.calls {s : List Feat} {A1 : Option Addr} {n2 c3 : Nat} {Q : Bool → Prop} (H : F74.E s Q) (hO : Ok w0 O) (hp4 : Sl kFeat w0 (Fr O) (G A1 n2 c3) s) :
  Ret Tryz.prog 37 [G A1 n2 c3] w0 (fun v w' => ∃ (r0 : Bool), v = vb r0 ∧ Q r0 ∧ Gr w0 w' none) := by
 unfold F74.E at H;have hc0 := Ct.init hO;refine X9 Tryz.func37 Z 34 Z [.tmp 2] Z Z ?_;refine Xc (Xd (Xg (vb false) Z (Xb (Xc (Xc (Xd (Xe (G A1 n2 c3) Z ?_)))))));have hl6 := hp4.le;refine Xa (Yc u33_ A1 n2 c3 hp4.len Z) (Xe (vi 0) Z (Xb (X8 ?_)));obtain ⟨a8, a9, ao, H⟩ := H;refine Yj (α := Int) (fun (sv__ : Int) t ap => match sv__ with | v2 => a8 v2 ∧ Has t [(0, G A1 n2 c3), (5, G A1 n2 c3), (6, vi (s.length : Int)), (7, vi v2)] ∧ Ct [] w0 ap [] O ∧ Sl kFeat ap (Fr ([] ++ O)) (G A1 n2 c3) s) (fun (sv__ : Int) => match sv__ with | v2 => a9 v2) 0 ⟨ao, (X0 Z), hc0, hp4⟩ ?_;rintro v2 _ ap ⟨ao, ba, aq, ac⟩;obtain ⟨ca, rfl⟩ := Has.ins ba;have H := H v2 ao;refine Xc (Xd (Xa (X1 v2 (s.length : Int) (decide (v2 < (s.length : Int))) Z Z Z) (Xb (Xc ?_))));refine Xz (decide (v2 < (s.length : Int))) Z (fun ar => ?_) (fun ar => ?_)
 ·have H := Xp H ar;refine Xx (Xc (X8 (Xc (Xd (Xe (vi v2) Z ?_)))));obtain ⟨ax, H⟩ := H;obtain ⟨ay, cb, bb, cc, bc, bd⟩ := ac.get default RD v2 ax;obtain ⟨ad, ae, af, ag, ah, ai, rfl, be, bf, bg⟩ := kFeat.op bc;refine Xa (X3 u33_ Y1 A1 ay n2 c3 ac.len v2 Z bb Z ax) (Xa (Xv ag44 sz44 cL (ay.add (v2.toNat * 4)) [vs ((nth s v2).Id), vi ((nth s v2).Shape.Kind), G ad ae af, G ag ah ai] Z Z bd) (Yp [vs [], .int .i64 0, G none 0 0, G none 0 0] ze44 fun cd aj az hu48 a0 bh => ?_));have a1 := aq.own a0 (some aj) (Yn az hu48);refine Xg (vi v2) Z (Ye [vs ((nth s v2).Id), vi ((nth s v2).Shape.Kind), G ad ae af, G ag ah ai] bh Z Z sz44 Z Z fun bi a2 a3 => ?_);have ak := a1.wr 0 Z a2;refine Xb (Xc (Ys (fun x => Gr bi x none) RK RK (Gr.drew _) ?_));refine Xf (Xv ag44 sz44 cQ (Ad aj 0) [vs ((nth s v2).Id), vi ((nth s v2).Shape.Kind), G ad ae af, G ag ah ai] Z Z (a3.cells (off := 00) Z)) ?_;have al := aq.stown _ a0 (X4 az);have am := a1.stw 0 Z a2;have bj := ((bf.st al).st am);have bl := ((bg.st al).st am);obtain ⟨q, bm, H⟩ := H;refine Yq go25 [.agg #[vs ((nth s v2).Id), vi ((nth s v2).Shape.Kind), G ad ae af, G ag ah ai]] Z (vb q) (fun w g => (F98.calls bm (ak.k0 g).ok be (bj.st (.new _ g)) (bl.st (.new _ g))).mono ?_) ?_
  ·rintro _ w ⟨r, rfl, rfl, g2⟩;exact ⟨Z, Gr.t0 g g2⟩
  refine Xf (X7 q Z) (Xs (vb (!q)) Z ?_);rcases X2 (!q) with ab | ab
  ·have H := Xp H ab;refine Xm ab Z (Xm ab Z (Xm ab Z (Xw Z (Xw Z (Xw Z (Xw Z (Xw Z (Xw Z ?_))))))));refine Xw Z (Xw Z (Xw Z (Xm ab Z (Xf (Xk true (vb true) ab Z) (Ya fun ce bn => ?_)))));have bo := ak.k0 bn;refine Yr (b := true) Z Z ?_;refine Xc (Xd (Xg (vb false) Z (Xb (Xn ?_))));have bp := bo.drop 0 Z;exact ⟨[vb false], ⟨_, Z, Z⟩, false, Z, H, bp.gr.g0⟩
  have H := Xq H ab;refine Xl ab Z (Xs (vi v2) Z (Xl ab Z (Xf (X1 v2 0 (decide (v2 > 0)) Z Z Z) (Xl ab Z (Xs (vb (decide (v2 > 0))) Z ?_)))));rcases X2 (decide (v2 > 0)) with aa | aa
  ·have H := Xp H aa;refine Xl aa Z (Xs (G A1 n2 c3) Z (Xl aa Z (Xs (vi v2) Z (Xl aa Z ?_))));obtain ⟨bq, H⟩ := H;refine Xf (Y3 v2 1 Z Z bq) (Xl aa Z ?_);obtain ⟨a4, H⟩ := H;have au := ((ac.st al).st am);obtain ⟨an, cf, br, cg, bs, bt⟩ := au.get default RD (v2 - 1) a4;obtain ⟨ch, ci, cj, ck, cl, cm, rfl, cn, co, cp⟩ := kFeat.op bs;refine Xf (X3 u33_ Y1 A1 an n2 c3 au.len (v2 - 1) Z br Z a4) (Xl aa Z (Xf (Xj fa44_0 (an.add ((v2 - 1).toNat * 4)) ((an.add ((v2 - 1).toNat * 4)).add 0) Z Z) (Xl aa Z (Xf (Xo ag9 cQ ((an.add ((v2 - 1).toNat * 4)).add 0) (vs ((nth s (v2 - 1)).Id)) Z (bt 0 _ Z)) (Xl aa Z (Xf (Xj fa44_0 (Ad aj 0) (Ad aj 0) Z Z) (Xl aa Z (Xf (Xo ag9 cQ (Ad aj 0) (vs ((nth s v2).Id)) Z (a3.cell Z)) ?_))))))));refine Xl aa Z (Xf (Yi ((nth s (v2 - 1)).Id) ((nth s v2).Id) (!(Op.bytesLess ((nth s (v2 - 1)).Id) ((nth s v2).Id))) Z Z Z) (Xl ab Z (Xf (Ym true (vb (!(Op.bytesLess ((nth s (v2 - 1)).Id) ((nth s v2).Id)))) (by exact congrArg Value.bool aa) Z) (Xf (Ym false (vb (!(Op.bytesLess ((nth s (v2 - 1)).Id) ((nth s v2).Id)))) (by exact congrArg Value.bool ab) Z) (Ya fun cq a5 => ?_)))));have av := ak.k0 a5;refine Xz (!(Op.bytesLess ((nth s (v2 - 1)).Id) ((nth s v2).Id))) Z (fun aw => ?_) (fun aw => ?_)
   ·have H := Xp H aw;refine Xc (Xd (Xg (vb false) Z (Xb (Xn ?_))));have bu := av.drop 0 Z;exact ⟨[vb false], ⟨_, Z, Z⟩, false, Z, H, bu.gr.g0⟩
   have H := Xq H aw;refine Xx (Xd ?_);obtain ⟨bv, H⟩ := H;refine Xa (Yd v2 1 Z Z bv) (Xe (vi (v2 + 1)) Z (Xb ?_));have bw := av.drop 0 Z;obtain ⟨bx, bz⟩ := H;have b0 := ak.stn a5;have b1 := av.std 0 Z;have b2 := ((au.st b0).st b1);exact ⟨v2 + 1, bz, bx, (X0 Z), bw, b2⟩
  have H := Xq H aa;refine Xm aa Z (Xm aa Z (Xm aa Z (Xm aa Z (Xm aa Z (Xm aa Z (Xm aa Z (Xm aa Z (Xm aa Z ?_))))))));refine Xl ab Z (Xf (Xk false (vb false) aa Z) (Xf (Xk false (vb false) ab Z) (Ya fun cr a6 => ?_)));have a7 := ak.k0 a6;refine Y0 (b := false) Z Z ?_;refine Xx (Xd ?_);obtain ⟨b3, H⟩ := H;refine Xa (Yd v2 1 Z Z b3) (Xe (vi (v2 + 1)) Z (Xb ?_));have b4 := a7.drop 0 Z;obtain ⟨b5, b6⟩ := H;have b7 := ak.stn a6;have b8 := a7.std 0 Z;have b9 := ((((ac.st al).st am).st b7).st b8);exact ⟨v2 + 1, b6, b5, (X0 Z), b4, b9⟩
 have H := Xq H ar;refine Yh (xin_hit ?_);refine Xc (Xd (Xe (G A1 n2 c3) Z ?_));have cs := ac.le;exact Xa (Yc u33_ A1 n2 c3 ac.len Z) (Xa (X1 (s.length : Int) 8 (decide ((s.length : Int) ≤ 8)) Z Z Z) (Xg (vb (decide ((s.length : Int) ≤ 8))) Z (Xb (Xn ⟨[vb (decide ((s.length : Int) ≤ 8))], ⟨_, Z, Z⟩, decide ((s.length : Int) ≤ 8), Z, H, aq.gr.g0⟩))))
def F24.E (s : Shape) (Q : Shape → Prop) : Prop :=
 (([] : List Pt).length + s.Pts.length ≤ 268435456) ∧ Q (⟨s.Kind, (([] : List Pt) ++ s.Pts)⟩ : Shape)
theorem F24.calls {s : Shape} {A1 : Option Addr} {n2 c3 : Nat} {Q : Shape → Prop} (H : F24.E s Q) (hO : Ok w0 O) (hp4 : Sl kPt w0 (Fr O) (G A1 n2 c3) s.Pts) :
  Ret Tryz.prog 72 [.agg #[vi s.Kind, G A1 n2 c3]] w0 (fun v w' => ∃ (r0 : Shape) (Aw0 : Option Addr) (nw0 cw0 : Nat), v = .agg #[vi r0.Kind, G Aw0 nw0 cw0] ∧ Q r0 ∧ Gk w0 w' [bk Aw0] O (Ow kPt 49 w' ([bk Aw0] ++ O) (G Aw0 nw0 cw0) r0.Pts)) := by
 unfold F24.E at H;have hc0 := Ct.init hO;refine X9 Tryz.func72 Z 10 Z [.cell 2 41] Z Z ?_;refine Xc (Xd (Yo [vi s.Kind, G A1 n2 c3] Z fun w6 b7 hl9 hu10 g8 ay => ?_));have az := Fb.mk hc0.ok hl9 ay;have ap := hc0.k0 g8;refine Yp [.int .i64 0, G none 0 0] ze41 fun be ae aq hu19 ar a0 => ?_;have au := ap.own ar (some ae) (Yn aq hu19);refine Xb (Xc (Za 8 [some ae] RK Z fun bf ag aa => ?_));have ah := au.k0 ag;refine Xy 0 Z RK aa (Xj fa41_0 (Ad b7 0) (Ad b7 0) Z Z) ?_;have a1 := ap.stown _ ar (X4 aq);have a2 := au.stn ag;have af := ((az.st a1).st a2);refine Xy 1 Z RK aa (Y6 ag3 cR (Ad b7 0) (vi s.Kind) Z (af.cell Z) (nm_cons (ah.fne 0 af.2 Z) nm_nil)) ?_;refine Xy 3 Z RK aa (Xj fa41_1 (Ad b7 0) (Ad b7 1) Z Z) ?_;refine Xy 4 Z RK aa (Y6 ag39 cR (Ad b7 1) (G A1 n2 c3) Z (af.cell Z) (nm_cons (ah.fne 0 af.2 Z) nm_nil)) ?_;refine X5 2 RK Z ?_;refine Yb (kd := kPt) Yt ah ([] : List Pt) (cells := []) Z RF fun bg av a3 a4 aw hr35 ai a5 => ?_;have aj := Gm.tm aa aw;refine Xb ⟨aj, ?_⟩;refine X5 5 RK Z ?_;obtain ⟨a6, H⟩ := H;refine Yg Yt ai (G av a3 a4) ([] : List Pt) s.Pts Z a5 (G A1 n2 c3) Z (hp4.st ai.st).sx 0 Z a6 fun bh ab ac ad ax a7 ak a8 => ?_;have al := Gm.tq aj ax (hv_new aa hr35);have bi := hv_app (L := [bk av, some ae]) (O := O) (i := 0) aj Z (hv_new aa hr35) a7 ak;refine Xb ⟨al, ?_⟩;refine Xy 6 Z RK al (Yl (.agg #[vi s.Kind, G ab ac ad]) RF) ?_;refine X5 7 RK Z ?_;have a9 := (ai.bm ((a0.k0 ag).k0 aw) 1 0 Z Z Z ax);refine Ye [vi s.Kind, G ab ac ad] a9 Z Z sz41 Z Z fun bj am ba => ?_;have an := ak.wr 1 Z am;have bb := Gm.tq al am (hv_mem 0 Z);refine Xb ⟨bb, ?_⟩;refine Yv RK ?_;refine Xn ?_;have bc := an.bgv ba 1 Z;have ao := an.drop 1 Z;have bd := (an.sd (ak.sw a8 0 1 Z Z Z am) 0 1 Z Z Z);exact ⟨[.agg #[vi s.Kind, G ab ac ad]], ⟨_, _, Z, bc.1.res Z ag41 sz41, Z⟩, (⟨s.Kind, (([] : List Pt) ++ s.Pts)⟩ : Shape), ab, ac, ad, Z, H, ao.gr.g0, ao.ok, ao.ge, bd⟩
def F40.E (f : Feat) (Q : Feat → Prop) : Prop :=
 (([] : List Tag).length + f.Tags.length ≤ 268435456) ∧ F24.E f.Shape (fun r => Q (⟨f.Id, r, (([] : List Tag) ++ f.Tags)⟩ : Feat))
theorem F40.calls {f : Feat} {A2 : Option Addr} {n3 c4 : Nat} {A7 : Option Addr} {n8 c9 : Nat} {Q : Feat → Prop} (H : F40.E f Q) (hO : Ok w0 O) (hs1 : Lim f.Id) (hp5 : Sl kPt w0 (Fr O) (G A2 n3 c4) f.Shape.Pts) (bn : Sl kTag w0 (Fr O) (G A7 n8 c9) f.Tags) :
  Ret Tryz.prog 77 [.agg #[vs f.Id, vi f.Shape.Kind, G A2 n3 c4, G A7 n8 c9]] w0 (fun v w' => ∃ (r0 : Feat) (Aw0 : Option Addr) (nw0 cw0 : Nat) (Aw2 : Option Addr) (nw2 cw2 : Nat), v = .agg #[vs r0.Id, vi r0.Shape.Kind, G Aw0 nw0 cw0, G Aw2 nw2 cw2] ∧ Q r0 ∧ Gk w0 w' [bk Aw0, bk Aw2] O (Lim r0.Id ∧ Ow kPt 49 w' ([bk Aw0, bk Aw2] ++ O) (G Aw0 nw0 cw0) r0.Shape.Pts ∧ Ow kTag 93 w' ([bk Aw0, bk Aw2] ++ O) (G Aw2 nw2 cw2) r0.Tags)) := by
 unfold F40.E at H;have hc0 := Ct.init hO;refine X9 Tryz.func77 Z 13 Z [.cell 2 44] Z Z ?_;refine Xc (Xd (Yo [vs f.Id, vi f.Shape.Kind, G A2 n3 c4, G A7 n8 c9] Z fun dd ac b3 hu16 b4 b5 => ?_));have b6 := Fb.mk hc0.ok b3 b5;have bo := hc0.k0 b4;refine Yp [vs [], .int .i64 0, G none 0 0, G none 0 0] ze44 fun de aa bp hu25 bq br => ?_;have bs := bo.own bq (some aa) (Yn bp hu25);refine Xb (Xc ?_);obtain ⟨bt, H⟩ := H;refine Zi (J := (fun t ai => ∃ (r : Shape) (ad : Option Addr) (aj ak : Nat) (ae : Option Addr) (al am : Nat), Has t [(2, Pz aa)] ∧ Cw [] w0 ai [bk ae, bk ad, some aa] O fun M => Ow kPt 49 ai M (G ad aj ak) r.Pts ∧ Ow kTag 93 ai M (G ae al am) (([] : List Tag) ++ f.Tags) ∧ Bx ai aa [vs f.Id, vi r.Kind, G ad aj ak, G ae al am] ∧ Q (⟨f.Id, r, (([] : List Tag) ++ f.Tags)⟩ : Feat))) ?_ ?_
 ·refine Za 11 [some aa] RK Z fun b7 ap ab => ?_;have af := bs.k0 ap;refine Xy 0 Z RK ab (Xj fa44_0 (Ad ac 0) (Ad ac 0) Z Z) ?_;have b8 := bo.stown _ bq (X4 bp);have b9 := bs.stn ap;have ah := ((b6.st b8).st b9);refine Xy 1 Z RK ab (Y6 ag9 cR (Ad ac 0) (vs f.Id) Z (ah.cell Z) (nm_cons (af.fne 0 ah.2 Z) nm_nil)) ?_;refine Xy 2 Z RK ab (Xj fa44_1 (Ad ac 0) (Ad ac 1) Z Z) ?_;refine Xy 3 Z RK ab (Zf ag41 sz41 cR (Ad ac 1) [vi f.Shape.Kind, G A2 n3 c4] Z Z (ah.cells (off := 1) Z) (nm_cons (af.fne 0 ah.2 Z) nm_nil)) ?_;refine Xy 6 Z RK ab (Xj fa44_2 (Ad ac 0) (Ad ac 3) Z Z) ?_;refine Xy 7 Z RK ab (Y6 ag42 cR (Ad ac 3) (G A7 n8 c9) Z (ah.cell Z) (nm_cons (af.fne 0 ah.2 Z) nm_nil)) ?_;refine Y8 4 5 RK Z Z ?_ ?_
  ·refine Xu go72 (F24.calls H af.ok (hp5.st af.st)) Z ?_;rintro _ bu ⟨r, an, aq, ar, rfl, H, bc, ca, cb, cc⟩;have cd := af.owns bc ca cb;have au := Gm.tm ab bc;refine Xb ⟨au, ?_⟩;refine X5 5 RK Z ?_;refine Yb (kd := kTag) Yu cd ([] : List Tag) (cells := []) Z RF fun df bv ce cf bd hr54 av cg => ?_;have ag := Gm.tm au bd;refine Xb ⟨ag, ?_⟩;refine X5 8 RK Z ?_;refine Yg Yu av (G bv ce cf) ([] : List Tag) f.Tags Z cg (G A7 n8 c9) Z (bn.st av.st).sx 0 Z bt fun dg aw ax ay be bw az ch => ?_;have bf := Gm.tq ag be (hv_new au hr54);have dh := hv_app (L := [bk bv, bk an, some aa]) (O := O) (i := 0) ag Z (hv_new au hr54) bw az;refine Xb ⟨bf, ?_⟩;refine Xy 9 Z RK bf (Yl (.agg #[vs f.Id, vi r.Kind, G an aq ar, G aw ax ay]) RF) ?_;refine X5 10 RK Z ?_;have ci := (av.bm (((br.k0 ap).k0 bc).k0 bd) 2 0 Z Z Z be);refine Ye [vs f.Id, vi r.Kind, G an aq ar, G aw ax ay] ci Z Z sz44 Z Z fun di a0 cj => ?_;have ck := az.wr 2 Z a0;have cl := Gm.tq bf a0 (hv_mem 0 Z);refine Xb ⟨cl, ?_⟩;refine Yv RK ?_;have cm := (az.sw (av.sm (cc.so _ bd hr54) 1 0 Z Z Z be bw) 1 2 Z Z Z a0);have cn := (az.sw ch 0 2 Z Z Z a0);exact ⟨r, an, aq, ar, aw, ax, ay, (X0 Z), ck, cm, cn, cj, H⟩
  refine Yb (kd := kTag) Yu af ([] : List Tag) (cells := []) Z RF fun bu bx co cp bz hr42 bg cq => ?_;have b0 := Gm.tm ab bz;refine Xb ⟨b0, ?_⟩;refine X5 4 RK Z ?_;refine Xu go72 (F24.calls H bg.ok (hp5.st bg.st)) Z ?_;rintro _ dj ⟨r, ao, a1, a2, rfl, H, a3, cr, b1, cs⟩;have a4 := bg.owns a3 cr b1;have ag := Gm.tm b0 a3;refine Xb ⟨ag, ?_⟩;refine X5 8 RK Z ?_;have ct := (cq.sos a3 b1);refine Yg Yu a4 (G bx co cp) ([] : List Tag) f.Tags Z ct (G A7 n8 c9) Z (bn.st a4.st).sx 1 Z bt fun dk a5 a6 a7 bh b2 a8 cu => ?_;have bi := Gm.tq ag bh (hv_new ab hr42);have dl := hv_app (L := [bk ao, bk bx, some aa]) (O := O) (i := 1) ag Z (hv_new ab hr42) b2 a8;refine Xb ⟨bi, ?_⟩;refine Xy 9 Z RK bi (Yl (.agg #[vs f.Id, vi r.Kind, G ao a1 a2, G a5 a6 a7]) RF) ?_;refine X5 10 RK Z ?_;have cv := (a4.bm (((br.k0 ap).k0 bz).k0 a3) 2 1 Z Z Z bh);refine Ye [vs f.Id, vi r.Kind, G ao a1 a2, G a5 a6 a7] cv Z Z sz44 Z Z fun dm a9 cw => ?_;have bj := a8.wr 2 Z a9;have cx := Gm.tq bi a9 (hv_mem 0 Z);refine Xb ⟨cx, ?_⟩;refine Yv RK ?_;have cy := bj.perm (.swap _ _ _);have cz := (bj.sp (a8.sw (a4.sm cs 0 1 Z Z Z bh b2) 0 2 Z Z Z a9) (.swap _ _ _));have c0 := (bj.sp (a8.sw cu 1 2 Z Z Z a9) (.swap _ _ _));have c1 := cw;exact ⟨r, ao, a1, a2, a5, a6, a7, (X0 Z), cy, cz, c0, c1, H⟩
 rintro dn ai ⟨r, ad, aj, ak, ae, al, am, c2, ba, c3, c5, c6, H⟩;obtain ⟨dp, rfl⟩ := Has.ins c2;refine Xn ?_;have c7 := ba.bgv c6 2 Z;have bb := ba.drop 2 Z;have bl := bb.perm (.swap _ _ _);have c8 := bb.stp (.swap _ _ _);have da := (c7.st c8);have db := (bb.sp (ba.sd c3 1 2 Z Z Z) (.swap _ _ _));have dc := (bb.sp (ba.sd c5 0 2 Z Z Z) (.swap _ _ _));exact ⟨[.agg #[vs f.Id, vi r.Kind, G ad aj ak, G ae al am]], ⟨_, _, Z, da.1.res Z ag44 sz44, Z⟩, (⟨f.Id, r, (([] : List Tag) ++ f.Tags)⟩ : Feat), ad, aj, ak, ae, al, am, Z, H, bl.gr.g0, bl.ok, bl.ge, hs1, db, dc⟩
def F33.E (s : List Feat) (Q : List Feat → Prop) : Prop :=
 (∃ (I50 : (List Feat) → Int → Prop) (mu51 : (List Feat) → Int → Nat), I50 [] 0 ∧ ∀ (xs2 : List Feat) (v2 : Int), I50 xs2 v2 → (if decide (v2 < (s.length : Int)) then ((0 : Int) ≤ v2 ∧ v2 < (s.length : Int)) ∧ F40.E (nth s v2) (fun r => (xs2.length + ([r] : List Feat).length ≤ 268435456) ∧ (I64 (v2 + 1)) ∧ I50 (xs2 ++ ([r] : List Feat)) (v2 + 1) ∧ mu51 (xs2 ++ ([r] : List Feat)) (v2 + 1) < mu51 xs2 v2) else Q xs2))
theorem F33.calls {s : List Feat} {A1 : Option Addr} {n2 c3 : Nat} {Q : List Feat → Prop} (H : F33.E s Q) (hO : Ok w0 O) (hp4 : Sl kFeat w0 (Fr O) (G A1 n2 c3) s) :
  Ret Tryz.prog 81 [G A1 n2 c3] w0 (fun v w' => ∃ (r0 : List Feat) (Aw0 : Option Addr) (nw0 cw0 : Nat) (q0 : Ob) (ra0 : List (List Value)), v = G Aw0 nw0 cw0 ∧ Q r0 ∧ Gr w0 w' none ∧ Ok w' ((bk Aw0 :: (q0 ++ [])) ++ O) ∧ (∀ b, some b ∈ (bk Aw0 :: (q0 ++ [])) → w0.heap.size ≤ b) ∧ Ow (Kd.cells 4) 44 w' ((bk Aw0 :: (q0 ++ [])) ++ O) (G Aw0 nw0 cw0) ra0 ∧ DArr dFeat_44 w' q0 r0 ra0) := by
 unfold F33.E at H;have hc0 := Ct.init hO;refine X9 Tryz.func81 Z 20 Z [.tmp 2] Z Z ?_;refine Xc (Xd (Xg (G none 0 0) Z (Xb (Xc (Xd ?_)))));have b0 : DArr dFeat_44 w0 ([] : Ob) ([] : List Feat) ([] : List (List Value)) := Z;refine Yb (kd := Kd.cells 4) Yz hc0 ([] : List (List Value)) (cells := []) Z RF fun w6 A7 n8 c9 b1 hr11 bj b2 => ?_;have bl : ([bk A7] : Ob).Perm (bk A7 :: (([] : Ob) ++ [])) := RP;have ay := bj.perm bl;refine Xg (G A7 n8 c9) Z (Xb (Xc (Xc (Xd (Xe (G A1 n2 c3) Z ?_)))));have de := (hp4.st ay.st).le;refine Xa (Yc u33_ A1 n2 c3 (hp4.st ay.st).len Z) (Xe (vi 0) Z (Xb (X8 ?_)));obtain ⟨b3, b4, a6, H⟩ := H;have b5 := (bj.sp b2 bl);have b6 := (b0.k0 b1);refine Yj (α := (List Feat) × (List (List Value)) × Ob × (Option Addr) × Nat × Nat × Int) (fun (xs2, al, ad, ac, af, ag, v2) t aw => b3 xs2 v2 ∧ Has t [(3, G ac af ag), (7, G A1 n2 c3), (8, vi (s.length : Int)), (9, vi v2)] ∧ Cw [] w0 aw (bk ac :: (ad ++ [])) O fun M => Sl kFeat aw (Fr M) (G A1 n2 c3) s ∧ Ow (Kd.cells 4) 44 aw M (G ac af ag) al ∧ DArr dFeat_44 aw ad xs2 al) (fun (xs2, _, _, _, _, _, v2) => b4 xs2 v2) (([] : List Feat), ([] : List (List Value)), ([] : Ob), A7, n8, c9, 0) ⟨a6, (X0 Z), ay, (hp4.st ay.st), b5, b6⟩ ?_;rintro ⟨xs2, al, ad, ac, af, ag, v2⟩ _ aw ⟨a6, b7, ax, a7, bm, bn⟩;obtain ⟨df, rfl⟩ := Has.ins b7;have H := H xs2 v2 a6;refine Xc (Xd (Xa (X1 v2 (s.length : Int) (decide (v2 < (s.length : Int))) Z Z Z) (Xb (Xc ?_))));refine Xz (decide (v2 < (s.length : Int))) Z (fun a8 => ?_) (fun a8 => ?_)
 ·have H := Xp H a8;refine Xx (Xc (X8 (Xc (Xd ?_))));obtain ⟨bo, H⟩ := H;obtain ⟨bp, dg, b8, dh, b9, ca⟩ := a7.get default RD v2 bo;obtain ⟨an, ao, ap, aq, ar, au, rfl, cb, cc, cd⟩ := kFeat.op b9;refine Xa (X3 u33_ Y1 A1 bp n2 c3 a7.len v2 Z b8 Z bo) (Xa (Xv ag44 sz44 cL (bp.add (v2.toNat * 4)) [vs ((nth s v2).Id), vi ((nth s v2).Shape.Kind), G an ao ap, G aq ar au] Z Z ca) (Yp [vs [], .int .i64 0, G none 0 0, G none 0 0] ze44 fun di ae a9 hu81 az ce => ?_));have a0 := ax.own az (some ae) (Yn a9 hu81);refine Ye [vs ((nth s v2).Id), vi ((nth s v2).Shape.Kind), G an ao ap, G aq ar au] ce Z Z sz44 Z Z fun cf a1 cg => ?_;have ba := a0.wr 0 Z a1;refine Xb (Xd (Xe (G ac af ag) Z (Xa (Xv ag44 sz44 cL (Ad ae 0) [vs ((nth s v2).Id), vi ((nth s v2).Shape.Kind), G an ao ap, G aq ar au] Z Z (cg.cells (off := 00) Z)) ?_)));have bb := ax.stown _ az (X4 a9);have bc := a0.stw 0 Z a1;have ch := ((cc.st bb).st bc);have ci := ((cd.st bb).st bc);refine Xu go77 (F40.calls H ba.ok cb ch ci) Z ?_;rintro _ bq ⟨r, aa, ah, ai, ab, aj, ak, rfl, H, a2, cj, bd, ck, cl, cm⟩;have br := ba.owns a2 cj bd;have bs : (dFeat_44).D bq ([] ++ (([] ++ [bk aa]) ++ [bk ab])) r [vs r.Id, vi r.Shape.Kind, G aa ah ai, G ab aj ak] := (dFeat_44.mk _ r ck (Ds.ofOw kPt_flat cl) (Ds.ofOw kTag_flat cm));have cn : DArr dFeat_44 bq (([] ++ (([] ++ [bk aa]) ++ [bk ab])) ++ []) ([r] : List Feat) ([[vs r.Id, vi r.Shape.Kind, G aa ah ai, G ab aj ak]] : List (List Value)) := ⟨_, _, Z, bs, Z⟩;refine Yb (kd := Kd.cells 4) Yz br ([[vs r.Id, vi r.Shape.Kind, G aa ah ai, G ab aj ak]] : List (List Value)) (cells := [vs r.Id, vi r.Shape.Kind, G aa ah ai, G ab aj ak]) ⟨[vs r.Id, vi r.Shape.Kind, G aa ah ai, G ab aj ak], _, Z, Dd.raw _ bs, Z⟩ RF fun dj am co cp a3 hr116 a4 cq => ?_;have a5 : ((bk am :: bk aa :: bk ab :: some ae :: bk ac :: (ad ++ [])) : Ob).Perm (bk am :: some ae :: bk ac :: (ad ++ ((([] ++ (([] ++ [bk aa]) ++ [bk ab])) ++ []) ++ []))) := RP;have be := a4.perm a5;obtain ⟨cr, H⟩ := H;have cs := (a4.sp (((a0.sw (bm.so _ az (X4 a9)) 1 0 Z Z Z a1).sos a2 bd).so _ a3 hr116) a5);have ct := (a4.sp cq a5);have bt := (((DArr.sm (L := (some ae :: bk ac :: (ad ++ []))) (O := O) (i := 0) (bn.k0 az) a0 Z (fun b hb => (mcm (List.mem_append_left _ hb))) a1).k0 a2).k0 a3);have bu := (cn.k0 a3);have cu : al.length + ([[vs r.Id, vi r.Shape.Kind, G aa ah ai, G ab aj ak]] : List (List Value)).length ≤ 268435456 := by rw [bt.len, bu.len]; exact cr
  refine Yg (kd := Kd.cells 4) Yz be (G ac af ag) al ([[vs r.Id, vi r.Shape.Kind, G aa ah ai, G ab aj ak]] : List (List Value)) Z cs (G am co cp) Z ct.sx 2 Z cu fun dk av bv bw bx cv bz cw => ?_;have cx := (DArr.sm (L := (bk am :: some ae :: bk ac :: (ad ++ ((([] ++ (([] ++ [bk aa]) ++ [bk ab])) ++ []) ++ [])))) (O := O) (i := 2) bt be Z (fun b hb => (List.mem_append_left _ hb)) bx);have cy := (DArr.sm (L := (bk am :: some ae :: bk ac :: (ad ++ ((([] ++ (([] ++ [bk aa]) ++ [bk ab])) ++ []) ++ [])))) (O := O) (i := 2) bu be Z (fun b hb => (List.mem_append_right _ (List.mem_append_left _ hb))) bx);have cz := DArr.app cx cy;have bf : ((bk am :: some ae :: bk av :: (ad ++ ((([] ++ (([] ++ [bk aa]) ++ [bk ab])) ++ []) ++ []))) : Ob).Perm ((bk am :: []) ++ (some ae :: bk av :: (ad ++ ((([] ++ (([] ++ [bk aa]) ++ [bk ab])) ++ []) ++ [])))) := RP;have bg := bz.drops bf;have bh : ((some ae :: bk av :: (ad ++ ((([] ++ (([] ++ [bk aa]) ++ [bk ab])) ++ []) ++ []))) : Ob).Perm (some ae :: bk av :: ((ad ++ (([] ++ (([] ++ [bk aa]) ++ [bk ab])) ++ [])) ++ [])) := RP;have bi := bg.perm bh;refine Xg (G av bv bw) Z (Xb (Xd ?_));obtain ⟨c0, H⟩ := H;refine Xa (Yd v2 1 Z Z c0) (Xe (vi (v2 + 1)) Z (Xb ?_));have c1 := bi.drop 0 Z;obtain ⟨c2, c4⟩ := H;have c5 := ba.stos a2 bd;have c6 := br.stown _ a3 hr116;have c7 := a4.stp a5;have c8 := bg.stp bh;have da := bi.std 0 Z;have db := (((((((((a7.st bb).st bc).st c5).st c6).st c7).st cv).st (St.drops _ O bf)).st c8).st da);have dc := (bi.sd (bg.sp (bz.odr cw bf 1 Z) bh) 1 0 Z Z Z);have dd := cz;exact ⟨((xs2 ++ ([r] : List Feat)), (al ++ ([[vs r.Id, vi r.Shape.Kind, G aa ah ai, G ab aj ak]] : List (List Value))), (ad ++ (([] ++ (([] ++ [bk aa]) ++ [bk ab])) ++ [])), av, bv, bw, v2 + 1), c4, c2, (X0 Z), c1, db, dc, dd⟩
 have H := Xq H a8;refine Yh (xin_hit ?_);exact Xc (Xd (Xe (G ac af ag) Z (Xg (G ac af ag) Z (Xb (Xn ⟨[G ac af ag], ⟨_, Z, Z⟩, xs2, ac, af, ag, ad, al, Z, H, ax.gr.g0, ax.ok, ax.ge, bm, bn⟩)))))
def F55.E (f : Feat) (fv2 : Str) (Q : Bool → Prop) : Prop :=
 Q (f.Id == fv2)
theorem F55.calls {f : Feat} {A2 : Option Addr} {n3 c4 : Nat} {A7 : Option Addr} {n8 c9 : Nat} {b : Nat} {fv2 : Str} {Q : Bool → Prop} (H : F55.E f fv2 Q) (hO : Ok w0 O) (hs1 : Lim f.Id) (hp5 : Sl kPt w0 (Fr O) (G A2 n3 c4) f.Shape.Pts) (ah : Sl kTag w0 (Fr O) (G A7 n8 c9) f.Tags) (ai : Lim fv2) (hp1 : Fb w0 O b [vs fv2]) :
  Ret Tryz.prog 128 [.agg #[vs f.Id, vi f.Shape.Kind, G A2 n3 c4, G A7 n8 c9], Pz b] w0 (fun v w' => ∃ (r0 : Bool), v = vb r0 ∧ Q r0 ∧ Gr w0 w' none) := by
 unfold F55.E at H;have hc0 := Ct.init hO;refine X9 Tryz.func128 Z 8 Z [.tmp 3] Z Z ?_;refine Xc (Xd (Yo [vs f.Id, vi f.Shape.Kind, G A2 n3 c4, G A7 n8 c9] Z fun aj aa ac hu18 ad ae => ?_));have af := Fb.mk hc0.ok ac ae;have ab := hc0.k0 ad;refine Xg (vb false) Z (Xb (Xc (Xd (Xa (Xj fa44_0 (Ad aa 0) (Ad aa 0) Z Z) (Xa (Xo ag9 cL (Ad aa 0) (vs f.Id) Z (af.cell Z)) ?_)))));have ag := (hp1.st ab.st);exact Xa (Xo ag9 cL (Ad b 0) (vs fv2) Z (ag.cell Z)) (Xa (Yi f.Id fv2 (f.Id == fv2) Z Z Z) (Xg (vb (f.Id == fv2)) Z (Xb (Xn ⟨[vb (f.Id == fv2)], ⟨_, Z, Z⟩, f.Id == fv2, Z, H, ab.gr.g0⟩))))
def F2.E (s : List Feat) (f : Feat → Bool) (f_ok : Feat → Prop) (Q : Int → Prop) : Prop :=
 (∃ (I23 : Int → Prop) (mu24 : Int → Nat), I23 0 ∧ ∀ (v2 : Int), I23 v2 → (if decide (v2 < (s.length : Int)) then ((0 : Int) ≤ v2 ∧ v2 < (s.length : Int)) ∧ (f_ok (nth s v2)) ∧ (if (f (nth s v2)) then Q v2 else (I64 (v2 + 1)) ∧ I23 (v2 + 1) ∧ mu24 (v2 + 1) < mu24 v2) else Q (-1)))
theorem F2.calls {s : List Feat} {A1 : Option Addr} {n2 c3 : Nat} {fg6 : FuncId} {fc7 : List Value} {f : Feat → Bool} {f_ok : Feat → Prop} {Q : Int → Prop} (H : F2.E s f f_ok Q) (hO : Ok w0 O) (hp4 : Sl kFeat w0 (Fr O) (G A1 n2 c3) s) (hgo8 : Goes Tryz.prog fg6) (hf9 : ∀ (w : World) (L : Ob), Ct [] w0 w L O → ∀ (x0_ : Feat) (am : Option Addr) (an ao : Nat) (ap : Option Addr) (aq ar : Nat) (bc : Lim x0_.Id) (bd : Sl kPt w (Fr (L ++ O)) (G am an ao) x0_.Shape.Pts) (be : Sl kTag w (Fr (L ++ O)) (G ap aq ar) x0_.Tags), f_ok x0_ → Ret Tryz.prog fg6 ([.agg #[vs x0_.Id, vi x0_.Shape.Kind, G am an ao, G ap aq ar]] ++ fc7) w (fun v w' => v = vb (f x0_) ∧ Gr w w' none)) :
  Ret Tryz.prog 127 [G A1 n2 c3, .func (.func fg6) #[] fc7.toArray] w0 (fun v w' => ∃ (r0 : Int), v = vi r0 ∧ Q r0 ∧ Gr w0 w' none) := by
 unfold F2.E at H;have hc0 := Ct.init hO;refine X9 Tryz.func127 Z 19 Z [.tmp 4] Z Z ?_;refine Xc (Xd (Xg (vi 0) Z (Xb (Xc (Xc (Xd (Xe (G A1 n2 c3) Z ?_)))))));have bf := hp4.le;refine Xa (Yc u33_ A1 n2 c3 hp4.len Z) (Xe (vi 0) Z (Xb (X8 ?_)));obtain ⟨ay, az, ac, H⟩ := H;refine Yj (α := Int) (fun (sv__ : Int) t aa => match sv__ with | v2 => ay v2 ∧ Has t [(0, G A1 n2 c3), (1, .func (.func fg6) #[] fc7.toArray), (7, vi (s.length : Int)), (8, vi v2)] ∧ Ct [] w0 aa [] O ∧ Sl kFeat aa (Fr ([] ++ O)) (G A1 n2 c3) s) (fun (sv__ : Int) => match sv__ with | v2 => az v2) 0 ⟨ac, (X0 Z), hc0, hp4⟩ ?_;rintro v2 _ aa ⟨ac, a0, ab, ad⟩;obtain ⟨bg, rfl⟩ := Has.ins a0;have H := H v2 ac;refine Xc (Xd (Xa (X1 v2 (s.length : Int) (decide (v2 < (s.length : Int))) Z Z Z) (Xb (Xc ?_))));refine Xz (decide (v2 < (s.length : Int))) Z (fun ae => ?_) (fun ae => ?_)
 ·have H := Xp H ae;refine Xx (Xc (X8 (Xc (Xd (Xe (vi v2) Z (Xg (vi v2) Z (Xb (Xc ?_))))))));refine Xd (Xe (.func (.func fg6) #[] fc7.toArray) Z (Xe (G A1 n2 c3) Z (Xe (vi v2) Z ?_)));obtain ⟨au, H⟩ := H;obtain ⟨av, bh, a1, bi, a2, a3⟩ := ad.get default RD v2 au;obtain ⟨af, ag, ah, ai, aj, ak, rfl, a4, a5, a6⟩ := kFeat.op a2;refine Xa (X3 u33_ Y1 A1 av n2 c3 ad.len v2 Z a1 Z au) (Xa (Xv ag44 sz44 cL (av.add (v2.toNat * 4)) [vs ((nth s v2).Id), vi ((nth s v2).Shape.Kind), G af ag ah, G ai aj ak] Z Z a3) ?_);obtain ⟨a7, H⟩ := H;refine Zv hgo8 fc7 Z [.agg #[vs ((nth s v2).Id), vi ((nth s v2).Shape.Kind), G af ag ah, G ai aj ak]] Z ((hf9 aa [] ab (nth s v2) af ag ah ai aj ak a4 a5 a6 a7).mono ?_);rintro _ bj ⟨rfl, aw⟩;have ax := ab.k0 aw;refine Xb ?_;refine Xz (f (nth s v2)) Z (fun al => ?_) (fun al => ?_)
  ·have H := Xp H al;exact Xc (Xd (Xe (vi v2) Z (Xg (vi v2) Z (Xb (Xn ⟨[vi v2], ⟨_, Z, Z⟩, v2, Z, H, ax.gr.g0⟩)))))
  have H := Xq H al;refine Xx (Xd ?_);obtain ⟨a8, H⟩ := H;refine Xa (Yd v2 1 Z Z a8) (Xe (vi (v2 + 1)) Z (Xb ?_));obtain ⟨a9, ba⟩ := H;have bb := ab.stn aw;exact ⟨v2 + 1, ba, a9, (X0 Z), ax, (ad.st bb)⟩
 have H := Xq H ae;refine Yh (xin_hit ?_);exact Xc (Xd (Xg (vi (-1)) Z (Xb (Xn ⟨[vi (-1)], ⟨_, Z, Z⟩, (-1), Z, H, ab.gr.g0⟩))))
def F107.E (s : List Feat) (id : Str) (Q : Int → Prop) : Prop :=
 (∃ (f : Feat → Bool) (f_ok : Feat → Prop), (∀ x0_, f_ok x0_ → F55.E x0_ id (fun r => r = f x0_)) ∧ F2.E s f f_ok (fun r => Q r))
theorem F107.calls {s : List Feat} {A1 : Option Addr} {n2 c3 : Nat} {id : Str} {Q : Int → Prop} (H : F107.E s id Q) (hO : Ok w0 O) (hp4 : Sl kFeat w0 (Fr O) (G A1 n2 c3) s) (hs6 : Lim id) :
  Ret Tryz.prog 82 [G A1 n2 c3, vs id] w0 (fun v w' => ∃ (r0 : Int), v = vi r0 ∧ Q r0 ∧ Gr w0 w' none) := by
 unfold F107.E at H;have hc0 := Ct.init hO;refine X9 Tryz.func82 Z 8 Z [.tmp 4] Z Z ?_;refine Xc (Xd (Yo [vs id] Z fun w7 b8 ak hu11 g9 al => ?_));have am := Fb.mk hc0.ok ak al;have ag := hc0.k0 g9;refine Xg (vi 0) Z (Xb (Xc (Xd (Xe (G A1 n2 c3) Z (Xa (Z6 [Pz b8] Z) ?_)))));obtain ⟨f, f_ok, an, H⟩ := H;have ao : ∀ (w : World) (L : Ob), Ct [] w7 w L ([] ++ O) → ∀ (x0_ : Feat) (aa : Option Addr) (ab ac : Nat) (ad : Option Addr) (ae af : Nat) (ah : Lim x0_.Id) (ai : Sl kPt w (Fr (L ++ ([] ++ O))) (G aa ab ac) x0_.Shape.Pts) (aj : Sl kTag w (Fr (L ++ ([] ++ O))) (G ad ae af) x0_.Tags), f_ok x0_ → Ret Tryz.prog 128 ([.agg #[vs x0_.Id, vi x0_.Shape.Kind, G aa ab ac, G ad ae af]] ++ [Pz b8]) w (fun v w' => v = vb (f x0_) ∧ Gr w w' none) := by
  intro w L c x0_ aa ab ac ad ae af ah ai aj hok;refine (F55.calls (an x0_ hok) c.ok ah ai aj hs6 (am.st c.st)).mono ?_;rintro _ w2 ⟨r, rfl, rfl, g2⟩;exact ⟨Z, g2⟩
 refine Xu go127 (F2.calls H ag.ok (hp4.st ag.st) go128 ao) Z ?_;rintro _ ar ⟨r, rfl, H, ap⟩;have aq := ag.k0 ap;exact Xg (vi r) Z (Xb (Xn ⟨[vi r], ⟨_, Z, Z⟩, r, Z, H, aq.gr.g0⟩))
end Go.Proofs.YtlaaehjcooonfaaGreatDoor
namespace Go.Proofs
open Go.Shelf
def Tryz.lays317_ren : Go.Shelf.Ren := ⟨fun | 317 => 187 | n => n, fun | 3 => 3 | 46 => 132 | n => n, fun | n => n⟩
theorem Tryz.lays317 : Go.Proofs.Lays.n317 Tryz.prog Tryz.lays317_ren := {
  mixed := by kernel_rfl
  f317 := Tryz.func187.trans (congrArg some (by kernel_rfl))
  t3 := Tryz.underlying3
  a3 := Tryz.isAgg3
  z3 := Tryz.sizeOf3
  v3 := Tryz.zeroValue3
  t46 := Tryz.underlying132
  a46 := Tryz.isAgg132
  z46 := Tryz.sizeOf132
  v46 := Tryz.zeroValue132 }
open Go.Lib in
theorem Tryz.internal_strconv_log10Pow2 (x : Nat) (h : x ≤ 64) (w : World) :
    Calls Tryz.prog 187 #[.int .i64 x] w fun e w' => e = .returned (.int .i64 (Lib.l10 x)) ∧ w' = w := Any.internal_strconv_log10Pow2 Tryz.lays317 x h w
def Tryz.lays318_ren : Go.Shelf.Ren := ⟨fun | 318 => 188 | n => n, fun | 3 => 3 | 4 => 4 | n => n, fun | n => n⟩
theorem Tryz.lays318 : Go.Proofs.Lays.n318 Tryz.prog Tryz.lays318_ren := {
  mixed := by kernel_rfl
  f318 := Tryz.func188.trans (congrArg some (by kernel_rfl))
  t3 := Tryz.underlying3
  a3 := Tryz.isAgg3
  z3 := Tryz.sizeOf3
  v3 := Tryz.zeroValue3
  t4 := Tryz.underlying4
  a4 := Tryz.isAgg4
  z4 := Tryz.sizeOf4
  v4 := Tryz.zeroValue4 }
open Go.Lib in
theorem Tryz.internal_strconv_bool2_int (b : Bool) (w : World) :
    Calls Tryz.prog 188 #[.bool b] w fun e w' => e = .returned (.int .i64 (if b then 1 else 0)) ∧ w' = w := Any.internal_strconv_bool2_int Tryz.lays318 b w
def Tryz.lays283_ren : Go.Shelf.Ren := ⟨fun | 283 => 181 | n => n, fun | 3 => 3 | 9 => 9 | 4 => 4 | n => n, fun | n => n⟩
theorem Tryz.lays283 : Go.Proofs.Lays.n283 Tryz.prog Tryz.lays283_ren := {
  mixed := by kernel_rfl
  f283 := Tryz.func181.trans (congrArg some (by kernel_rfl))
  t3 := Tryz.underlying3
  a3 := Tryz.isAgg3
  z3 := Tryz.sizeOf3
  v3 := Tryz.zeroValue3
  t4 := Tryz.underlying4
  a4 := Tryz.isAgg4
  z4 := Tryz.sizeOf4
  v4 := Tryz.zeroValue4
  t9 := Tryz.underlying9
  a9 := Tryz.isAgg9
  z9 := Tryz.sizeOf9
  v9 := Tryz.zeroValue9 }
open Go.Lib in
theorem Tryz.internal_strconv_small (i : Nat) (h : i < 100) (w : World) :
    Calls Tryz.prog 181 #[.int .i64 i] w fun e w' => e = .returned (.string ⟨(Lib.decDigits i).toArray⟩) ∧ w' = w := Any.internal_strconv_small Tryz.lays283 i h w
def Tryz.laysM284_ren : Go.Shelf.Ren := ⟨fun | 284 => 182 | 129 => 145 | 317 => 187 | 318 => 188 | n => n, fun | 53 => 165 | 3 => 3 | 212 => 202 | 0 => 0 | 4 => 4 | 46 => 132 | 5 => 5 | 9 => 9 | n => n, fun | 17 => 1 | n => n⟩
theorem Tryz.laysM284 : Go.Proofs.LaysM.n284 Tryz.prog Tryz.laysM284_ren := {
  mixed := by kernel_rfl
  f129 := Tryz.func145.trans (congrArg some (by kernel_rfl))
  f284 := Tryz.func182.trans (congrArg some (by kernel_rfl))
  f317 := Tryz.func187.trans (congrArg some (by kernel_rfl))
  f318 := Tryz.func188.trans (congrArg some (by kernel_rfl))
  t0 := Tryz.underlying0
  a0 := Tryz.isAgg0
  z0 := Tryz.sizeOf0
  v0 := Tryz.zeroValue0
  t3 := Tryz.underlying3
  a3 := Tryz.isAgg3
  z3 := Tryz.sizeOf3
  v3 := Tryz.zeroValue3
  t4 := Tryz.underlying4
  a4 := Tryz.isAgg4
  z4 := Tryz.sizeOf4
  v4 := Tryz.zeroValue4
  t5 := Tryz.underlying5
  a5 := Tryz.isAgg5
  z5 := Tryz.sizeOf5
  v5 := Tryz.zeroValue5
  t9 := Tryz.underlying9
  a9 := Tryz.isAgg9
  z9 := Tryz.sizeOf9
  v9 := Tryz.zeroValue9
  t46 := Tryz.underlying132
  a46 := Tryz.isAgg132
  z46 := Tryz.sizeOf132
  v46 := Tryz.zeroValue132
  t53 := Tryz.underlying165
  a53 := Tryz.isAgg165
  z53 := Tryz.sizeOf165
  v53 := Tryz.zeroValue165
  t212 := Tryz.underlying202
  a212 := Tryz.isAgg202
  z212 := Tryz.sizeOf202
  v212 := Tryz.zeroValue202
  g17 := by kernel_rfl
  i0 := by kernel_rfl
  i3 := by kernel_rfl
  i4 := by kernel_rfl
  i5 := by kernel_rfl
  i9 := by kernel_rfl
  i46 := by kernel_rfl
  i53 := by kernel_rfl
  i212 := by kernel_rfl
  m17 := by kernel_rfl }
open Go.Lib in
theorem Tryz.internal_strconv_numDigits (u : Nat) (h1 : 1 ≤ u) (h2 : u < 18446744073709551616) (w : World) (htab : Lib.TabIs Tryz.prog w "internal/strconv.uint64pow10" .u64 Lib.pow10Tab) :
    Calls Tryz.prog 182 #[.int .u64 u] w fun e w' => e = .returned (.int .i64 (Lib.nDigits u)) ∧ w' = w := Any.internal_strconv_numDigits Tryz.laysM284 u h1 h2 w htab
def Tryz.lays285_ren : Go.Shelf.Ren := ⟨fun | 285 => 183 | n => n, fun | 37 => 22 | 53 => 165 | 3 => 3 | 4 => 4 | 51 => 163 | 9 => 9 | 5 => 5 | 0 => 0 | n => n, fun | n => n⟩
theorem Tryz.lays285 : Go.Proofs.Lays.n285 Tryz.prog Tryz.lays285_ren := {
  mixed := by kernel_rfl
  f285 := Tryz.func183.trans (congrArg some (by kernel_rfl))
  t0 := Tryz.underlying0
  a0 := Tryz.isAgg0
  z0 := Tryz.sizeOf0
  v0 := Tryz.zeroValue0
  t3 := Tryz.underlying3
  a3 := Tryz.isAgg3
  z3 := Tryz.sizeOf3
  v3 := Tryz.zeroValue3
  t4 := Tryz.underlying4
  a4 := Tryz.isAgg4
  z4 := Tryz.sizeOf4
  v4 := Tryz.zeroValue4
  t5 := Tryz.underlying5
  a5 := Tryz.isAgg5
  z5 := Tryz.sizeOf5
  v5 := Tryz.zeroValue5
  t9 := Tryz.underlying9
  a9 := Tryz.isAgg9
  z9 := Tryz.sizeOf9
  v9 := Tryz.zeroValue9
  t37 := Tryz.underlying22
  a37 := Tryz.isAgg22
  z37 := Tryz.sizeOf22
  v37 := Tryz.zeroValue22
  t51 := Tryz.underlying163
  a51 := Tryz.isAgg163
  z51 := Tryz.sizeOf163
  v51 := Tryz.zeroValue163
  t53 := Tryz.underlying165
  a53 := Tryz.isAgg165
  z53 := Tryz.sizeOf165
  v53 := Tryz.zeroValue165 }
open Go.RowKit Go.Sort Go.Lib in
theorem Tryz.internal_strconv_formatBase10 (blk off cap : Nat) (u : Nat) (d : Array UInt8) (w : World) (hH : Holds (fun (b : UInt8) => Value.int .u8 (b.toNat : Int)) w blk off d) (hu : u < 10 ^ d.size) (hu64 : u < 18446744073709551616) (hsz : d.size < 4611686018427387904) :
    Calls Tryz.prog 183 #[.slice (some ⟨blk, off, none⟩) d.size cap, .int .u64 u] w fun e w' =>
      e = .returned (.tuple #[]) ∧ ∃ (n v' : Nat) (dk : Array UInt8), w' = (putRow (fun (b : UInt8) => Value.int .u8 (b.toNat : Int)) w blk off dk).drewN n ∧ FmtInv d.size u 0 v' dk := Any.internal_strconv_formatBase10 Tryz.lays285 blk off cap u d w hH hu hu64 hsz
def Tryz.laysM246_ren : Go.Shelf.Ren := ⟨fun | 246 => 174 | 283 => 181 | 284 => 182 | 285 => 183 | 286 => 184 | 129 => 145 | 317 => 187 | 318 => 188 | 319 => 189 | 320 => 190 | 337 => 191 | 338 => 192 | n => n, fun | 2 => 2 | 3 => 3 | 9 => 9 | 4 => 4 | 171 => 196 | 0 => 0 | 53 => 165 | 37 => 22 | 5 => 5 | 173 => 198 | 212 => 202 | 51 => 163 | 20 => 20 | 213 => 203 | 46 => 132 | 232 => 204 | 233 => 205 | n => n, fun | 17 => 1 | 18 => 2 | 19 => 3 | n => n⟩
theorem Tryz.laysM246 : Go.Proofs.LaysM.n246 Tryz.prog Tryz.laysM246_ren := {
  mixed := by kernel_rfl
  f129 := Tryz.func145.trans (congrArg some (by kernel_rfl))
  f246 := Tryz.func174.trans (congrArg some (by kernel_rfl))
  f283 := Tryz.func181.trans (congrArg some (by kernel_rfl))
  f284 := Tryz.func182.trans (congrArg some (by kernel_rfl))
  f285 := Tryz.func183.trans (congrArg some (by kernel_rfl))
  f286 := Tryz.func184.trans (congrArg some (by kernel_rfl))
  f317 := Tryz.func187.trans (congrArg some (by kernel_rfl))
  f318 := Tryz.func188.trans (congrArg some (by kernel_rfl))
  f319 := Tryz.func189.trans (congrArg some (by kernel_rfl))
  f320 := Tryz.func190.trans (congrArg some (by kernel_rfl))
  f337 := Tryz.func191.trans (congrArg some (by kernel_rfl))
  f338 := Tryz.func192.trans (congrArg some (by kernel_rfl))
  t0 := Tryz.underlying0
  a0 := Tryz.isAgg0
  z0 := Tryz.sizeOf0
  v0 := Tryz.zeroValue0
  t2 := Tryz.underlying2
  a2 := Tryz.isAgg2
  z2 := Tryz.sizeOf2
  v2 := Tryz.zeroValue2
  t3 := Tryz.underlying3
  a3 := Tryz.isAgg3
  z3 := Tryz.sizeOf3
  v3 := Tryz.zeroValue3
  t4 := Tryz.underlying4
  a4 := Tryz.isAgg4
  z4 := Tryz.sizeOf4
  v4 := Tryz.zeroValue4
  t5 := Tryz.underlying5
  a5 := Tryz.isAgg5
  z5 := Tryz.sizeOf5
  v5 := Tryz.zeroValue5
  t9 := Tryz.underlying9
  a9 := Tryz.isAgg9
  z9 := Tryz.sizeOf9
  v9 := Tryz.zeroValue9
  t20 := Tryz.underlying20
  a20 := Tryz.isAgg20
  z20 := Tryz.sizeOf20
  v20 := Tryz.zeroValue20
  t37 := Tryz.underlying22
  a37 := Tryz.isAgg22
  z37 := Tryz.sizeOf22
  v37 := Tryz.zeroValue22
  t46 := Tryz.underlying132
  a46 := Tryz.isAgg132
  z46 := Tryz.sizeOf132
  v46 := Tryz.zeroValue132
  t51 := Tryz.underlying163
  a51 := Tryz.isAgg163
  z51 := Tryz.sizeOf163
  v51 := Tryz.zeroValue163
  t53 := Tryz.underlying165
  a53 := Tryz.isAgg165
  z53 := Tryz.sizeOf165
  v53 := Tryz.zeroValue165
  t171 := Tryz.underlying196
  a171 := Tryz.isAgg196
  z171 := Tryz.sizeOf196
  v171 := Tryz.zeroValue196
  t173 := Tryz.underlying198
  a173 := Tryz.isAgg198
  z173 := Tryz.sizeOf198
  v173 := Tryz.zeroValue198
  t212 := Tryz.underlying202
  a212 := Tryz.isAgg202
  z212 := Tryz.sizeOf202
  v212 := Tryz.zeroValue202
  t213 := Tryz.underlying203
  a213 := Tryz.isAgg203
  z213 := Tryz.sizeOf203
  t232 := Tryz.underlying204
  a232 := Tryz.isAgg204
  z232 := Tryz.sizeOf204
  v232 := Tryz.zeroValue204
  t233 := Tryz.underlying205
  a233 := Tryz.isAgg205
  z233 := Tryz.sizeOf205
  v233 := Tryz.zeroValue205
  g17 := by kernel_rfl
  g18 := by kernel_rfl
  g19 := by kernel_rfl
  i0 := by kernel_rfl
  i2 := by kernel_rfl
  i3 := by kernel_rfl
  i4 := by kernel_rfl
  i5 := by kernel_rfl
  i9 := by kernel_rfl
  i20 := by kernel_rfl
  i37 := by kernel_rfl
  i46 := by kernel_rfl
  i51 := by kernel_rfl
  i53 := by kernel_rfl
  i171 := by kernel_rfl
  i173 := by kernel_rfl
  i212 := by kernel_rfl
  i232 := by kernel_rfl
  i233 := by kernel_rfl
  m17 := by kernel_rfl
  m18 := by kernel_rfl
  m19 := by kernel_rfl }
open Go.RowKit Go.Sort Go.Lib in
theorem Tryz.internal_strconv_FormatInt_10 (n : Int) (h0 : -9223372036854775808 ≤ n) (h1 : n ≤ 9223372036854775807) (w : World) (htab : Lib.TabIs Tryz.prog w "internal/strconv.uint64pow10" .u64 Lib.pow10Tab) :
    Calls Tryz.prog 174 #[.int .i64 n, .int .i64 10] w fun e w' => e = .returned (.string ⟨(Lib.itoa n).toArray⟩) ∧ ∃ k os, w' = grow (w.drewN k) os := Any.internal_strconv_FormatInt_10 Tryz.laysM246 n h0 h1 w htab
def Tryz.lays246_ren : Go.Shelf.Ren := ⟨fun | 246 => 174 | 283 => 181 | 284 => 182 | 285 => 183 | 286 => 184 | 129 => 145 | 317 => 187 | 318 => 188 | 319 => 189 | 320 => 190 | 337 => 191 | 338 => 192 | n => n, fun | 2 => 2 | 3 => 3 | 9 => 9 | 4 => 4 | 171 => 196 | 0 => 0 | 53 => 165 | 37 => 22 | 5 => 5 | 173 => 198 | 212 => 202 | 51 => 163 | 20 => 20 | 213 => 203 | 46 => 132 | 232 => 204 | 233 => 205 | n => n, fun | 17 => 1 | 18 => 2 | 19 => 3 | n => n⟩
theorem Tryz.lays246 : Go.Proofs.Lays.n246 Tryz.prog Tryz.lays246_ren := {
  mixed := by kernel_rfl
  f129 := Tryz.func145.trans (congrArg some (by kernel_rfl))
  f246 := Tryz.func174.trans (congrArg some (by kernel_rfl))
  f283 := Tryz.func181.trans (congrArg some (by kernel_rfl))
  f284 := Tryz.func182.trans (congrArg some (by kernel_rfl))
  f285 := Tryz.func183.trans (congrArg some (by kernel_rfl))
  f286 := Tryz.func184.trans (congrArg some (by kernel_rfl))
  f317 := Tryz.func187.trans (congrArg some (by kernel_rfl))
  f318 := Tryz.func188.trans (congrArg some (by kernel_rfl))
  f319 := Tryz.func189.trans (congrArg some (by kernel_rfl))
  f320 := Tryz.func190.trans (congrArg some (by kernel_rfl))
  f337 := Tryz.func191.trans (congrArg some (by kernel_rfl))
  f338 := Tryz.func192.trans (congrArg some (by kernel_rfl))
  t0 := Tryz.underlying0
  a0 := Tryz.isAgg0
  z0 := Tryz.sizeOf0
  v0 := Tryz.zeroValue0
  t2 := Tryz.underlying2
  a2 := Tryz.isAgg2
  z2 := Tryz.sizeOf2
  v2 := Tryz.zeroValue2
  t3 := Tryz.underlying3
  a3 := Tryz.isAgg3
  z3 := Tryz.sizeOf3
  v3 := Tryz.zeroValue3
  t4 := Tryz.underlying4
  a4 := Tryz.isAgg4
  z4 := Tryz.sizeOf4
  v4 := Tryz.zeroValue4
  t5 := Tryz.underlying5
  a5 := Tryz.isAgg5
  z5 := Tryz.sizeOf5
  v5 := Tryz.zeroValue5
  t9 := Tryz.underlying9
  a9 := Tryz.isAgg9
  z9 := Tryz.sizeOf9
  v9 := Tryz.zeroValue9
  t20 := Tryz.underlying20
  a20 := Tryz.isAgg20
  z20 := Tryz.sizeOf20
  v20 := Tryz.zeroValue20
  t37 := Tryz.underlying22
  a37 := Tryz.isAgg22
  z37 := Tryz.sizeOf22
  v37 := Tryz.zeroValue22
  t46 := Tryz.underlying132
  a46 := Tryz.isAgg132
  z46 := Tryz.sizeOf132
  v46 := Tryz.zeroValue132
  t51 := Tryz.underlying163
  a51 := Tryz.isAgg163
  z51 := Tryz.sizeOf163
  v51 := Tryz.zeroValue163
  t53 := Tryz.underlying165
  a53 := Tryz.isAgg165
  z53 := Tryz.sizeOf165
  v53 := Tryz.zeroValue165
  t171 := Tryz.underlying196
  a171 := Tryz.isAgg196
  z171 := Tryz.sizeOf196
  v171 := Tryz.zeroValue196
  t173 := Tryz.underlying198
  a173 := Tryz.isAgg198
  z173 := Tryz.sizeOf198
  v173 := Tryz.zeroValue198
  t212 := Tryz.underlying202
  a212 := Tryz.isAgg202
  z212 := Tryz.sizeOf202
  v212 := Tryz.zeroValue202
  t213 := Tryz.underlying203
  a213 := Tryz.isAgg203
  z213 := Tryz.sizeOf203
  t232 := Tryz.underlying204
  a232 := Tryz.isAgg204
  z232 := Tryz.sizeOf204
  v232 := Tryz.zeroValue204
  t233 := Tryz.underlying205
  a233 := Tryz.isAgg205
  z233 := Tryz.sizeOf205
  v233 := Tryz.zeroValue205
  g17 := by kernel_rfl
  g18 := by kernel_rfl
  g19 := by kernel_rfl }
open Go.RowKit Go.Sort Go.Lib in
theorem Tryz.internal_strconv_FormatInt_10_small (i : Nat) (hi : i < 100) (w : World) :
    Calls Tryz.prog 174 #[.int .i64 i, .int .i64 10] w fun e w' => e = .returned (.string ⟨(Lib.decDigits i).toArray⟩) ∧ w' = w := Any.internal_strconv_FormatInt_10_small Tryz.lays246 i hi w
def Tryz.laysM243_ren : Go.Shelf.Ren := ⟨fun | 243 => 154 | 246 => 174 | 283 => 181 | 284 => 182 | 285 => 183 | 286 => 184 | 129 => 145 | 317 => 187 | 318 => 188 | 319 => 189 | 320 => 190 | 337 => 191 | 338 => 192 | n => n, fun | 3 => 3 | 9 => 9 | 2 => 2 | 4 => 4 | 171 => 196 | 0 => 0 | 53 => 165 | 37 => 22 | 5 => 5 | 173 => 198 | 212 => 202 | 51 => 163 | 20 => 20 | 213 => 203 | 46 => 132 | 232 => 204 | 233 => 205 | n => n, fun | 17 => 1 | 18 => 2 | 19 => 3 | n => n⟩
theorem Tryz.laysM243 : Go.Proofs.LaysM.n243 Tryz.prog Tryz.laysM243_ren := {
  mixed := by kernel_rfl
  f129 := Tryz.func145.trans (congrArg some (by kernel_rfl))
  f243 := Tryz.func154.trans (congrArg some (by kernel_rfl))
  f246 := Tryz.func174.trans (congrArg some (by kernel_rfl))
  f283 := Tryz.func181.trans (congrArg some (by kernel_rfl))
  f284 := Tryz.func182.trans (congrArg some (by kernel_rfl))
  f285 := Tryz.func183.trans (congrArg some (by kernel_rfl))
  f286 := Tryz.func184.trans (congrArg some (by kernel_rfl))
  f317 := Tryz.func187.trans (congrArg some (by kernel_rfl))
  f318 := Tryz.func188.trans (congrArg some (by kernel_rfl))
  f319 := Tryz.func189.trans (congrArg some (by kernel_rfl))
  f320 := Tryz.func190.trans (congrArg some (by kernel_rfl))
  f337 := Tryz.func191.trans (congrArg some (by kernel_rfl))
  f338 := Tryz.func192.trans (congrArg some (by kernel_rfl))
  t0 := Tryz.underlying0
  a0 := Tryz.isAgg0
  z0 := Tryz.sizeOf0
  v0 := Tryz.zeroValue0
  t2 := Tryz.underlying2
  a2 := Tryz.isAgg2
  z2 := Tryz.sizeOf2
  v2 := Tryz.zeroValue2
  t3 := Tryz.underlying3
  a3 := Tryz.isAgg3
  z3 := Tryz.sizeOf3
  v3 := Tryz.zeroValue3
  t4 := Tryz.underlying4
  a4 := Tryz.isAgg4
  z4 := Tryz.sizeOf4
  v4 := Tryz.zeroValue4
  t5 := Tryz.underlying5
  a5 := Tryz.isAgg5
  z5 := Tryz.sizeOf5
  v5 := Tryz.zeroValue5
  t9 := Tryz.underlying9
  a9 := Tryz.isAgg9
  z9 := Tryz.sizeOf9
  v9 := Tryz.zeroValue9
  t20 := Tryz.underlying20
  a20 := Tryz.isAgg20
  z20 := Tryz.sizeOf20
  v20 := Tryz.zeroValue20
  t37 := Tryz.underlying22
  a37 := Tryz.isAgg22
  z37 := Tryz.sizeOf22
  v37 := Tryz.zeroValue22
  t46 := Tryz.underlying132
  a46 := Tryz.isAgg132
  z46 := Tryz.sizeOf132
  v46 := Tryz.zeroValue132
  t51 := Tryz.underlying163
  a51 := Tryz.isAgg163
  z51 := Tryz.sizeOf163
  v51 := Tryz.zeroValue163
  t53 := Tryz.underlying165
  a53 := Tryz.isAgg165
  z53 := Tryz.sizeOf165
  v53 := Tryz.zeroValue165
  t171 := Tryz.underlying196
  a171 := Tryz.isAgg196
  z171 := Tryz.sizeOf196
  v171 := Tryz.zeroValue196
  t173 := Tryz.underlying198
  a173 := Tryz.isAgg198
  z173 := Tryz.sizeOf198
  v173 := Tryz.zeroValue198
  t212 := Tryz.underlying202
  a212 := Tryz.isAgg202
  z212 := Tryz.sizeOf202
  v212 := Tryz.zeroValue202
  t213 := Tryz.underlying203
  a213 := Tryz.isAgg203
  z213 := Tryz.sizeOf203
  t232 := Tryz.underlying204
  a232 := Tryz.isAgg204
  z232 := Tryz.sizeOf204
  v232 := Tryz.zeroValue204
  t233 := Tryz.underlying205
  a233 := Tryz.isAgg205
  z233 := Tryz.sizeOf205
  v233 := Tryz.zeroValue205
  g17 := by kernel_rfl
  g18 := by kernel_rfl
  g19 := by kernel_rfl
  i0 := by kernel_rfl
  i2 := by kernel_rfl
  i3 := by kernel_rfl
  i4 := by kernel_rfl
  i5 := by kernel_rfl
  i9 := by kernel_rfl
  i20 := by kernel_rfl
  i37 := by kernel_rfl
  i46 := by kernel_rfl
  i51 := by kernel_rfl
  i53 := by kernel_rfl
  i171 := by kernel_rfl
  i173 := by kernel_rfl
  i212 := by kernel_rfl
  i232 := by kernel_rfl
  i233 := by kernel_rfl
  m17 := by kernel_rfl
  m18 := by kernel_rfl
  m19 := by kernel_rfl }
open Go.RowKit Go.Sort Go.Lib in
theorem Tryz.internal_strconv_Itoa (n : Int) (h0 : -9223372036854775808 ≤ n) (h1 : n ≤ 9223372036854775807) (w : World) (htab : Lib.TabIs Tryz.prog w "internal/strconv.uint64pow10" .u64 Lib.pow10Tab) :
    Calls Tryz.prog 154 #[.int .i64 n] w fun e w' => e = .returned (.string ⟨(Lib.itoa n).toArray⟩) ∧ ∃ k os, w' = grow (w.drewN k) os := Any.internal_strconv_Itoa Tryz.laysM243 n h0 h1 w htab
def Tryz.lays243_ren : Go.Shelf.Ren := ⟨fun | 243 => 154 | 246 => 174 | 283 => 181 | 284 => 182 | 285 => 183 | 286 => 184 | 129 => 145 | 317 => 187 | 318 => 188 | 319 => 189 | 320 => 190 | 337 => 191 | 338 => 192 | n => n, fun | 3 => 3 | 9 => 9 | 2 => 2 | 4 => 4 | 171 => 196 | 0 => 0 | 53 => 165 | 37 => 22 | 5 => 5 | 173 => 198 | 212 => 202 | 51 => 163 | 20 => 20 | 213 => 203 | 46 => 132 | 232 => 204 | 233 => 205 | n => n, fun | 17 => 1 | 18 => 2 | 19 => 3 | n => n⟩
theorem Tryz.lays243 : Go.Proofs.Lays.n243 Tryz.prog Tryz.lays243_ren := {
  mixed := by kernel_rfl
  f129 := Tryz.func145.trans (congrArg some (by kernel_rfl))
  f243 := Tryz.func154.trans (congrArg some (by kernel_rfl))
  f246 := Tryz.func174.trans (congrArg some (by kernel_rfl))
  f283 := Tryz.func181.trans (congrArg some (by kernel_rfl))
  f284 := Tryz.func182.trans (congrArg some (by kernel_rfl))
  f285 := Tryz.func183.trans (congrArg some (by kernel_rfl))
  f286 := Tryz.func184.trans (congrArg some (by kernel_rfl))
  f317 := Tryz.func187.trans (congrArg some (by kernel_rfl))
  f318 := Tryz.func188.trans (congrArg some (by kernel_rfl))
  f319 := Tryz.func189.trans (congrArg some (by kernel_rfl))
  f320 := Tryz.func190.trans (congrArg some (by kernel_rfl))
  f337 := Tryz.func191.trans (congrArg some (by kernel_rfl))
  f338 := Tryz.func192.trans (congrArg some (by kernel_rfl))
  t0 := Tryz.underlying0
  a0 := Tryz.isAgg0
  z0 := Tryz.sizeOf0
  v0 := Tryz.zeroValue0
  t2 := Tryz.underlying2
  a2 := Tryz.isAgg2
  z2 := Tryz.sizeOf2
  v2 := Tryz.zeroValue2
  t3 := Tryz.underlying3
  a3 := Tryz.isAgg3
  z3 := Tryz.sizeOf3
  v3 := Tryz.zeroValue3
  t4 := Tryz.underlying4
  a4 := Tryz.isAgg4
  z4 := Tryz.sizeOf4
  v4 := Tryz.zeroValue4
  t5 := Tryz.underlying5
  a5 := Tryz.isAgg5
  z5 := Tryz.sizeOf5
  v5 := Tryz.zeroValue5
  t9 := Tryz.underlying9
  a9 := Tryz.isAgg9
  z9 := Tryz.sizeOf9
  v9 := Tryz.zeroValue9
  t20 := Tryz.underlying20
  a20 := Tryz.isAgg20
  z20 := Tryz.sizeOf20
  v20 := Tryz.zeroValue20
  t37 := Tryz.underlying22
  a37 := Tryz.isAgg22
  z37 := Tryz.sizeOf22
  v37 := Tryz.zeroValue22
  t46 := Tryz.underlying132
  a46 := Tryz.isAgg132
  z46 := Tryz.sizeOf132
  v46 := Tryz.zeroValue132
  t51 := Tryz.underlying163
  a51 := Tryz.isAgg163
  z51 := Tryz.sizeOf163
  v51 := Tryz.zeroValue163
  t53 := Tryz.underlying165
  a53 := Tryz.isAgg165
  z53 := Tryz.sizeOf165
  v53 := Tryz.zeroValue165
  t171 := Tryz.underlying196
  a171 := Tryz.isAgg196
  z171 := Tryz.sizeOf196
  v171 := Tryz.zeroValue196
  t173 := Tryz.underlying198
  a173 := Tryz.isAgg198
  z173 := Tryz.sizeOf198
  v173 := Tryz.zeroValue198
  t212 := Tryz.underlying202
  a212 := Tryz.isAgg202
  z212 := Tryz.sizeOf202
  v212 := Tryz.zeroValue202
  t213 := Tryz.underlying203
  a213 := Tryz.isAgg203
  z213 := Tryz.sizeOf203
  t232 := Tryz.underlying204
  a232 := Tryz.isAgg204
  z232 := Tryz.sizeOf204
  v232 := Tryz.zeroValue204
  t233 := Tryz.underlying205
  a233 := Tryz.isAgg205
  z233 := Tryz.sizeOf205
  v233 := Tryz.zeroValue205
  g17 := by kernel_rfl
  g18 := by kernel_rfl
  g19 := by kernel_rfl }
open Go.RowKit Go.Sort Go.Lib in
theorem Tryz.internal_strconv_Itoa_small (i : Nat) (hi : i < 100) (w : World) :
    Calls Tryz.prog 154 #[.int .i64 i] w fun e w' => e = .returned (.string ⟨(Lib.decDigits i).toArray⟩) ∧ w' = w := Any.internal_strconv_Itoa_small Tryz.lays243 i hi w
def Tryz.laysM171_ren : Go.Shelf.Ren := ⟨fun | 171 => 126 | 243 => 154 | 246 => 174 | 283 => 181 | 284 => 182 | 285 => 183 | 286 => 184 | 129 => 145 | 317 => 187 | 318 => 188 | 319 => 189 | 320 => 190 | 337 => 191 | 338 => 192 | n => n, fun | 3 => 3 | 9 => 9 | 2 => 2 | 4 => 4 | 171 => 196 | 0 => 0 | 53 => 165 | 37 => 22 | 5 => 5 | 173 => 198 | 212 => 202 | 51 => 163 | 20 => 20 | 213 => 203 | 46 => 132 | 232 => 204 | 233 => 205 | n => n, fun | 17 => 1 | 18 => 2 | 19 => 3 | n => n⟩
theorem Tryz.laysM171 : Go.Proofs.LaysM.n171 Tryz.prog Tryz.laysM171_ren := {
  mixed := by kernel_rfl
  f129 := Tryz.func145.trans (congrArg some (by kernel_rfl))
  f171 := Tryz.func126.trans (congrArg some (by kernel_rfl))
  f243 := Tryz.func154.trans (congrArg some (by kernel_rfl))
  f246 := Tryz.func174.trans (congrArg some (by kernel_rfl))
  f283 := Tryz.func181.trans (congrArg some (by kernel_rfl))
  f284 := Tryz.func182.trans (congrArg some (by kernel_rfl))
  f285 := Tryz.func183.trans (congrArg some (by kernel_rfl))
  f286 := Tryz.func184.trans (congrArg some (by kernel_rfl))
  f317 := Tryz.func187.trans (congrArg some (by kernel_rfl))
  f318 := Tryz.func188.trans (congrArg some (by kernel_rfl))
  f319 := Tryz.func189.trans (congrArg some (by kernel_rfl))
  f320 := Tryz.func190.trans (congrArg some (by kernel_rfl))
  f337 := Tryz.func191.trans (congrArg some (by kernel_rfl))
  f338 := Tryz.func192.trans (congrArg some (by kernel_rfl))
  t0 := Tryz.underlying0
  a0 := Tryz.isAgg0
  z0 := Tryz.sizeOf0
  v0 := Tryz.zeroValue0
  t2 := Tryz.underlying2
  a2 := Tryz.isAgg2
  z2 := Tryz.sizeOf2
  v2 := Tryz.zeroValue2
  t3 := Tryz.underlying3
  a3 := Tryz.isAgg3
  z3 := Tryz.sizeOf3
  v3 := Tryz.zeroValue3
  t4 := Tryz.underlying4
  a4 := Tryz.isAgg4
  z4 := Tryz.sizeOf4
  v4 := Tryz.zeroValue4
  t5 := Tryz.underlying5
  a5 := Tryz.isAgg5
  z5 := Tryz.sizeOf5
  v5 := Tryz.zeroValue5
  t9 := Tryz.underlying9
  a9 := Tryz.isAgg9
  z9 := Tryz.sizeOf9
  v9 := Tryz.zeroValue9
  t20 := Tryz.underlying20
  a20 := Tryz.isAgg20
  z20 := Tryz.sizeOf20
  v20 := Tryz.zeroValue20
  t37 := Tryz.underlying22
  a37 := Tryz.isAgg22
  z37 := Tryz.sizeOf22
  v37 := Tryz.zeroValue22
  t46 := Tryz.underlying132
  a46 := Tryz.isAgg132
  z46 := Tryz.sizeOf132
  v46 := Tryz.zeroValue132
  t51 := Tryz.underlying163
  a51 := Tryz.isAgg163
  z51 := Tryz.sizeOf163
  v51 := Tryz.zeroValue163
  t53 := Tryz.underlying165
  a53 := Tryz.isAgg165
  z53 := Tryz.sizeOf165
  v53 := Tryz.zeroValue165
  t171 := Tryz.underlying196
  a171 := Tryz.isAgg196
  z171 := Tryz.sizeOf196
  v171 := Tryz.zeroValue196
  t173 := Tryz.underlying198
  a173 := Tryz.isAgg198
  z173 := Tryz.sizeOf198
  v173 := Tryz.zeroValue198
  t212 := Tryz.underlying202
  a212 := Tryz.isAgg202
  z212 := Tryz.sizeOf202
  v212 := Tryz.zeroValue202
  t213 := Tryz.underlying203
  a213 := Tryz.isAgg203
  z213 := Tryz.sizeOf203
  t232 := Tryz.underlying204
  a232 := Tryz.isAgg204
  z232 := Tryz.sizeOf204
  v232 := Tryz.zeroValue204
  t233 := Tryz.underlying205
  a233 := Tryz.isAgg205
  z233 := Tryz.sizeOf205
  v233 := Tryz.zeroValue205
  g17 := by kernel_rfl
  g18 := by kernel_rfl
  g19 := by kernel_rfl
  i0 := by kernel_rfl
  i2 := by kernel_rfl
  i3 := by kernel_rfl
  i4 := by kernel_rfl
  i5 := by kernel_rfl
  i9 := by kernel_rfl
  i20 := by kernel_rfl
  i37 := by kernel_rfl
  i46 := by kernel_rfl
  i51 := by kernel_rfl
  i53 := by kernel_rfl
  i171 := by kernel_rfl
  i173 := by kernel_rfl
  i212 := by kernel_rfl
  i232 := by kernel_rfl
  i233 := by kernel_rfl
  m17 := by kernel_rfl
  m18 := by kernel_rfl
  m19 := by kernel_rfl }
open Go.RowKit Go.Sort Go.Lib in
theorem Tryz.strconv_Itoa (n : Int) (h0 : -9223372036854775808 ≤ n) (h1 : n ≤ 9223372036854775807) (w : World) (htab : Lib.TabIs Tryz.prog w "internal/strconv.uint64pow10" .u64 Lib.pow10Tab) :
    Calls Tryz.prog 126 #[.int .i64 n] w fun e w' => e = .returned (.string ⟨(Lib.itoa n).toArray⟩) ∧ ∃ k os, w' = grow (w.drewN k) os := Any.strconv_Itoa Tryz.laysM171 n h0 h1 w htab
def Tryz.lays171_ren : Go.Shelf.Ren := ⟨fun | 171 => 126 | 243 => 154 | 246 => 174 | 283 => 181 | 284 => 182 | 285 => 183 | 286 => 184 | 129 => 145 | 317 => 187 | 318 => 188 | 319 => 189 | 320 => 190 | 337 => 191 | 338 => 192 | n => n, fun | 3 => 3 | 9 => 9 | 2 => 2 | 4 => 4 | 171 => 196 | 0 => 0 | 53 => 165 | 37 => 22 | 5 => 5 | 173 => 198 | 212 => 202 | 51 => 163 | 20 => 20 | 213 => 203 | 46 => 132 | 232 => 204 | 233 => 205 | n => n, fun | 17 => 1 | 18 => 2 | 19 => 3 | n => n⟩
theorem Tryz.lays171 : Go.Proofs.Lays.n171 Tryz.prog Tryz.lays171_ren := {
  mixed := by kernel_rfl
  f129 := Tryz.func145.trans (congrArg some (by kernel_rfl))
  f171 := Tryz.func126.trans (congrArg some (by kernel_rfl))
  f243 := Tryz.func154.trans (congrArg some (by kernel_rfl))
  f246 := Tryz.func174.trans (congrArg some (by kernel_rfl))
  f283 := Tryz.func181.trans (congrArg some (by kernel_rfl))
  f284 := Tryz.func182.trans (congrArg some (by kernel_rfl))
  f285 := Tryz.func183.trans (congrArg some (by kernel_rfl))
  f286 := Tryz.func184.trans (congrArg some (by kernel_rfl))
  f317 := Tryz.func187.trans (congrArg some (by kernel_rfl))
  f318 := Tryz.func188.trans (congrArg some (by kernel_rfl))
  f319 := Tryz.func189.trans (congrArg some (by kernel_rfl))
  f320 := Tryz.func190.trans (congrArg some (by kernel_rfl))
  f337 := Tryz.func191.trans (congrArg some (by kernel_rfl))
  f338 := Tryz.func192.trans (congrArg some (by kernel_rfl))
  t0 := Tryz.underlying0
  a0 := Tryz.isAgg0
  z0 := Tryz.sizeOf0
  v0 := Tryz.zeroValue0
  t2 := Tryz.underlying2
  a2 := Tryz.isAgg2
  z2 := Tryz.sizeOf2
  v2 := Tryz.zeroValue2
  t3 := Tryz.underlying3
  a3 := Tryz.isAgg3
  z3 := Tryz.sizeOf3
  v3 := Tryz.zeroValue3
  t4 := Tryz.underlying4
  a4 := Tryz.isAgg4
  z4 := Tryz.sizeOf4
  v4 := Tryz.zeroValue4
  t5 := Tryz.underlying5
  a5 := Tryz.isAgg5
  z5 := Tryz.sizeOf5
  v5 := Tryz.zeroValue5
  t9 := Tryz.underlying9
  a9 := Tryz.isAgg9
  z9 := Tryz.sizeOf9
  v9 := Tryz.zeroValue9
  t20 := Tryz.underlying20
  a20 := Tryz.isAgg20
  z20 := Tryz.sizeOf20
  v20 := Tryz.zeroValue20
  t37 := Tryz.underlying22
  a37 := Tryz.isAgg22
  z37 := Tryz.sizeOf22
  v37 := Tryz.zeroValue22
  t46 := Tryz.underlying132
  a46 := Tryz.isAgg132
  z46 := Tryz.sizeOf132
  v46 := Tryz.zeroValue132
  t51 := Tryz.underlying163
  a51 := Tryz.isAgg163
  z51 := Tryz.sizeOf163
  v51 := Tryz.zeroValue163
  t53 := Tryz.underlying165
  a53 := Tryz.isAgg165
  z53 := Tryz.sizeOf165
  v53 := Tryz.zeroValue165
  t171 := Tryz.underlying196
  a171 := Tryz.isAgg196
  z171 := Tryz.sizeOf196
  v171 := Tryz.zeroValue196
  t173 := Tryz.underlying198
  a173 := Tryz.isAgg198
  z173 := Tryz.sizeOf198
  v173 := Tryz.zeroValue198
  t212 := Tryz.underlying202
  a212 := Tryz.isAgg202
  z212 := Tryz.sizeOf202
  v212 := Tryz.zeroValue202
  t213 := Tryz.underlying203
  a213 := Tryz.isAgg203
  z213 := Tryz.sizeOf203
  t232 := Tryz.underlying204
  a232 := Tryz.isAgg204
  z232 := Tryz.sizeOf204
  v232 := Tryz.zeroValue204
  t233 := Tryz.underlying205
  a233 := Tryz.isAgg205
  z233 := Tryz.sizeOf205
  v233 := Tryz.zeroValue205
  g17 := by kernel_rfl
  g18 := by kernel_rfl
  g19 := by kernel_rfl }
open Go.RowKit Go.Sort Go.Lib in
theorem Tryz.strconv_Itoa_small (i : Nat) (hi : i < 100) (w : World) :
    Calls Tryz.prog 126 #[.int .i64 i] w fun e w' => e = .returned (.string ⟨(Lib.decDigits i).toArray⟩) ∧ w' = w := Any.strconv_Itoa_small Tryz.lays171 i hi w
def Tryz.lays190_ren : Go.Shelf.Ren := ⟨fun | 190 => 55 | 125 => 110 | 258 => 109 | 128 => 144 | 129 => 145 | 302 => 135 | 303 => 136 | 304 => 137 | 305 => 138 | 306 => 139 | 307 => 140 | 308 => 141 | 309 => 142 | 310 => 143 | 333 => 166 | 329 => 167 | 330 => 168 | 334 => 169 | 335 => 170 | 336 => 130 | 344 => 178 | n => n, fun | 31 => 50 | 9 => 9 | 3 => 3 | 46 => 132 | 0 => 0 | 51 => 163 | 53 => 165 | 4 => 4 | 183 => 155 | 182 => 154 | 131 => 160 | 5 => 5 | 218 => 183 | 222 => 187 | 228 => 192 | 229 => 193 | n => n, fun | n => n⟩
theorem Tryz.lays190 : Go.Proofs.Lays.n190 Tryz.prog Tryz.lays190_ren := {
  mixed := by kernel_rfl
  f125 := Tryz.func110.trans (congrArg some (by kernel_rfl))
  f128 := Tryz.func144.trans (congrArg some (by kernel_rfl))
  f129 := Tryz.func145.trans (congrArg some (by kernel_rfl))
  f190 := Tryz.func55.trans (congrArg some (by kernel_rfl))
  f258 := Tryz.func109.trans (congrArg some (by kernel_rfl))
  f302 := Tryz.func135.trans (congrArg some (by kernel_rfl))
  f303 := Tryz.func136.trans (congrArg some (by kernel_rfl))
  f304 := Tryz.func137.trans (congrArg some (by kernel_rfl))
  f305 := Tryz.func138.trans (congrArg some (by kernel_rfl))
  f306 := Tryz.func139.trans (congrArg some (by kernel_rfl))
  f307 := Tryz.func140.trans (congrArg some (by kernel_rfl))
  f308 := Tryz.func141.trans (congrArg some (by kernel_rfl))
  f309 := Tryz.func142.trans (congrArg some (by kernel_rfl))
  f310 := Tryz.func143.trans (congrArg some (by kernel_rfl))
  f329 := Tryz.func167.trans (congrArg some (by kernel_rfl))
  f330 := Tryz.func168.trans (congrArg some (by kernel_rfl))
  f333 := Tryz.func166.trans (congrArg some (by kernel_rfl))
  f334 := Tryz.func169.trans (congrArg some (by kernel_rfl))
  f335 := Tryz.func170.trans (congrArg some (by kernel_rfl))
  f336 := Tryz.func130.trans (congrArg some (by kernel_rfl))
  f344 := Tryz.func178.trans (congrArg some (by kernel_rfl))
  t0 := Tryz.underlying0
  a0 := Tryz.isAgg0
  z0 := Tryz.sizeOf0
  v0 := Tryz.zeroValue0
  t3 := Tryz.underlying3
  a3 := Tryz.isAgg3
  z3 := Tryz.sizeOf3
  v3 := Tryz.zeroValue3
  t4 := Tryz.underlying4
  a4 := Tryz.isAgg4
  z4 := Tryz.sizeOf4
  v4 := Tryz.zeroValue4
  t5 := Tryz.underlying5
  a5 := Tryz.isAgg5
  z5 := Tryz.sizeOf5
  v5 := Tryz.zeroValue5
  t9 := Tryz.underlying9
  a9 := Tryz.isAgg9
  z9 := Tryz.sizeOf9
  v9 := Tryz.zeroValue9
  t31 := Tryz.underlying50
  a31 := Tryz.isAgg50
  z31 := Tryz.sizeOf50
  v31 := Tryz.zeroValue50
  t46 := Tryz.underlying132
  a46 := Tryz.isAgg132
  z46 := Tryz.sizeOf132
  v46 := Tryz.zeroValue132
  t51 := Tryz.underlying163
  a51 := Tryz.isAgg163
  z51 := Tryz.sizeOf163
  v51 := Tryz.zeroValue163
  t53 := Tryz.underlying165
  a53 := Tryz.isAgg165
  z53 := Tryz.sizeOf165
  v53 := Tryz.zeroValue165
  t131 := Tryz.underlying160
  a131 := Tryz.isAgg160
  z131 := Tryz.sizeOf160
  v131 := Tryz.zeroValue160
  t182 := Tryz.underlying154
  a182 := Tryz.isAgg154
  z182 := Tryz.sizeOf154
  v182 := Tryz.zeroValue154
  t183 := Tryz.underlying155
  a183 := Tryz.isAgg155
  z183 := Tryz.sizeOf155
  v183 := Tryz.zeroValue155
  t218 := Tryz.underlying183
  a218 := Tryz.isAgg183
  z218 := Tryz.sizeOf183
  v218 := Tryz.zeroValue183
  t222 := Tryz.underlying187
  a222 := Tryz.isAgg187
  z222 := Tryz.sizeOf187
  v222 := Tryz.zeroValue187
  t228 := Tryz.underlying192
  a228 := Tryz.isAgg192
  z228 := Tryz.sizeOf192
  v228 := Tryz.zeroValue192
  t229 := Tryz.underlying193
  a229 := Tryz.isAgg193
  z229 := Tryz.sizeOf193
  v229 := Tryz.zeroValue193 }
open Go.Sort Go.RowKit in
theorem Tryz.slices_Sort_string (blk off cap : Nat) (ss : List (List UInt8)) (w : World) (hH : Holds encStr w blk off ss.toArray) (hblk : blk < w.heap.size) (hsz : ss.length < 4611686018427387904) :
    Calls Tryz.prog 55 #[.slice (some ⟨blk, off, none⟩) ss.length cap] w fun e w' =>
      e = .returned (.tuple #[]) ∧ ∃ n os, w' = grow (putRow encStr (Sort.ahead w n) blk off (ss.mergeSort fun x y => decide (x ≤ y)).toArray) os := Any.slices_Sort_string Tryz.lays190 blk off cap ss w hH hblk hsz
def Tryz.lays194_ren : Go.Shelf.Ren := ⟨fun | 194 => 56 | n => n, fun | 31 => 50 | 9 => 9 | 3 => 3 | 4 => 4 | 0 => 0 | n => n, fun | n => n⟩
theorem Tryz.lays194 : Go.Proofs.Lays.n194 Tryz.prog Tryz.lays194_ren := {
  mixed := by kernel_rfl
  f194 := Tryz.func56.trans (congrArg some (by kernel_rfl))
  t0 := Tryz.underlying0
  a0 := Tryz.isAgg0
  z0 := Tryz.sizeOf0
  v0 := Tryz.zeroValue0
  t3 := Tryz.underlying3
  a3 := Tryz.isAgg3
  z3 := Tryz.sizeOf3
  v3 := Tryz.zeroValue3
  t4 := Tryz.underlying4
  a4 := Tryz.isAgg4
  z4 := Tryz.sizeOf4
  v4 := Tryz.zeroValue4
  t9 := Tryz.underlying9
  a9 := Tryz.isAgg9
  z9 := Tryz.sizeOf9
  v9 := Tryz.zeroValue9
  t31 := Tryz.underlying50
  a31 := Tryz.isAgg50
  z31 := Tryz.sizeOf50
  v31 := Tryz.zeroValue50 }
open Go.RowKit Go.Lib Go.Sort in
theorem Tryz.slices_Compact_string_arr (blk off cap : Nat) (d : Array (List UInt8)) (w : World) (hH : Holds encStr w blk off d) (hsz : d.size ≤ 9223372036854775807) (hcap : d.size ≤ cap) :
    Calls Tryz.prog 56 #[.slice (some ⟨blk, off, none⟩) d.size cap] w fun e w' => e = .returned (.slice (some ⟨blk, off, none⟩) (compactUpTo d d.size).length cap) ∧ ∃ q, w' = putRow encStr (Sort.ahead w q) blk off (compactUpTo d d.size ++ List.replicate (d.size - (compactUpTo d d.size).length) []).toArray := Any.slices_Compact_string_arr Tryz.lays194 blk off cap d w hH hsz hcap
open Go.RowKit Go.Lib Go.Sort in
theorem Tryz.slices_Compact_string (blk off cap : Nat) (zs : List (List UInt8)) (w : World) (hH : Holds encStr w blk off zs.toArray) (hsz : zs.length ≤ 9223372036854775807) (hcap : zs.length ≤ cap) :
    Calls Tryz.prog 56 #[.slice (some ⟨blk, off, none⟩) zs.length cap] w fun e w' => e = .returned (.slice (some ⟨blk, off, none⟩) (Lib.compact zs).length cap) ∧ ∃ q, w' = putRow encStr (Sort.ahead w q) blk off (Lib.compact zs ++ List.replicate (zs.length - (Lib.compact zs).length) []).toArray := Any.slices_Compact_string Tryz.lays194 blk off cap zs w hH hsz hcap
open Go.RowKit Go.Lib Go.Sort in
theorem Tryz.slices_Compact_string_empty (a : Option Addr) (cap : Nat) (w : World) :
    Calls Tryz.prog 56 #[.slice a 0 cap] w fun e w' => e = .returned (.slice a 0 cap) ∧ w' = w := Any.slices_Compact_string_empty Tryz.lays194 a cap w
open Go.RowKit Go.Lib Go.Sort in
theorem Tryz.slices_Compact_string_cells (b off n c : Nat) (Sx : Nat → ByteArray) (w : World) (hbig : n ≤ 9223372036854775807) (hcap : n ≤ c) (hc : ∀ i, i < n → w.cell? ⟨b, off + i, none⟩ = some (.string (Sx i))) (hf : ∀ j, j < n → w.frozen? ⟨b, off + j, none⟩ = false) :
    Calls Tryz.prog 56 #[.slice (some ⟨b, off, none⟩) n c] w fun e w' => e = .returned (.slice (some ⟨b, off, none⟩) (Lib.compact (Lib.strsOf Sx n)).length c) ∧ ∃ q, w' = (w.drewN q).setCells b off ((Lib.compact (Lib.strsOf Sx n) ++ List.replicate (n - (Lib.compact (Lib.strsOf Sx n)).length) []).map encStr) := Any.slices_Compact_string_cells Tryz.lays194 b off n c Sx w hbig hcap hc hf
open Go.RowKit Go.Sort in
theorem Tryz.slices_Sort_string_none (p : Option Addr) (cap : Nat) (w : World) :
    Calls Tryz.prog 55 #[.slice p 0 cap] w fun e w' => e = .returned (.tuple #[]) ∧ w' = w := Any.slices_Sort_string_none Tryz.lays190 p cap w
end Go.Proofs
namespace Go.Proofs.YtlaaehjcooonfaaGreatDoor
set_option linter.unusedVariables false
set_option linter.unusedSimpArgs false
set_option linter.unusedSectionVars false
set_option maxHeartbeats 8000000
set_option maxRecDepth 100000
open Go.RowKit
variable {O : Ob} {w0 : World}
section
open Go.RowKit Go.Shelf Go.Sort Go.Lib
theorem strs_arr {w : World} {S : Sp} : ∀ {xs : List Str} {cs : List Value}, Arr Kd.str w S xs cs → cs = xs.map vs ∧ ∀ x ∈ xs, Lim x
 | [], _, h => ⟨h, fun x hx => by cases hx⟩
 | x :: xs, _, ⟨c1, c2, e, h1, h2⟩ => by
  obtain ⟨e2, h3⟩ := strs_arr h2
  refine ⟨by rw [e, h1.1, e2]; rfl, fun y hy => ?_⟩
  rcases List.mem_cons.1 hy with rfl | hy
  ·exact h1.2
  ·exact h3 y hy
theorem arr_strs {w : World} {S : Sp} : ∀ {xs : List Str}, (∀ x ∈ xs, Lim x) → Arr Kd.str w S xs (xs.map vs)
 | [], _ => rfl
 | x :: xs, h => ⟨[vs x], xs.map vs, rfl, ⟨rfl, h x List.mem_cons_self⟩, arr_strs fun y hy => h y (List.mem_cons_of_mem _ hy)⟩
theorem heap_put (w : World) (q g : Nat) (ys : List Str) (os : Array Obj) (b : Nat) (hb : b < w.heap.size) (hne : b ≠ g) : (grow (putRow encStr (Sort.ahead w q) g 0 ys.toArray) os).heap[b]? = w.heap[b]? := by
 have h1 : (w.heap.modify g (onCells (putCells encStr 0 ys.toArray))).size = w.heap.size := Array.size_modify
 simp only [grow, putRow, mapBlock, Sort.ahead]
 rw [Array.getElem?_append_left (by rw [h1]; exact hb), Array.getElem?_modify, if_neg (fun e => hne e.symm)]
theorem Ow.putS {e : TypeId} {w : World} {O : Ob} {g n c : Nat} {xs : List Str} (h : Ow Kd.str e w O (.slice (some ⟨g, 0, none⟩) n c) xs) (ys : List Str) (hl : ys.length = xs.length) (hy : ∀ y ∈ ys, Lim y) (q : Nat) (os : Array Obj) (hx : 0 < xs.length) :
  Gr w (grow (putRow encStr (Sort.ahead w q) g 0 ys.toArray) os) (some g) ∧ Ow Kd.str e (grow (putRow encStr (Sort.ahead w q) g 0 ys.toArray) os) O (.slice (some ⟨g, 0, none⟩) n c) ys := by
 have hgl := h.ltb g rfl
 have h1 : (w.heap.modify g (onCells (putCells encStr 0 ys.toArray))).size = w.heap.size := Array.size_modify
 refine ⟨⟨rfl, rfl, rfl, ?_, fun b hb hn => heap_put w q g ys os b hb fun e => hn (by rw [e])⟩, ?_⟩
 ·simp only [grow, putRow, mapBlock, Sort.ahead, Array.size_append, h1]; omega
 obtain ⟨cells, o1, o2, o3⟩ := h
 rcases o1.2 with ⟨_, e'⟩ | ⟨g', cap, cur, ev, h0, hg, hle, hmx, hcur, htake⟩
 ·omega
 ·cases ev
  have hk : Kd.str.sz = 1 := rfl
  refine ⟨ys.map vs, ⟨by rw [List.length_map, hk, Nat.mul_one], .inr ⟨g, c, putCells encStr 0 ys.toArray cur, by rw [hl], h0, ?_, by rw [hl]; exact hle, hmx, ?_, ?_⟩⟩, arr_strs hy, o3⟩
  ·simp only [grow, putRow, mapBlock, Sort.ahead]
   rw [Array.getElem?_append_left (by rw [h1]; exact hgl), Array.getElem?_modify, if_pos rfl, hg]; rfl
  ·rw [putCells, Array.size_mapIdx]; exact hcur
  ·rw [hk, Nat.mul_one]
   have hc1 : xs.length ≤ cur.size := by rw [hcur, hk, Nat.mul_one]; exact hle
   apply List.ext_getElem?
   intro j
   rw [List.getElem?_take, List.getElem?_map]
   by_cases hj : j < ys.length
   ·rw [if_pos hj, putCells, Array.getElem?_toList, Array.getElem?_mapIdx, Array.getElem?_eq_getElem OM, List.getElem?_eq_getElem hj]
    simp only [Option.map_some, Nat.zero_le, true_and, Nat.zero_add, List.size_toArray, hj, if_true, Nat.sub_zero]
    simp [hj]
   ·rw [if_neg hj, List.getElem?_eq_none OM]; rfl
theorem Ow.holds {e : TypeId} {w : World} {O : Ob} {g n c : Nat} {xs : List Str} (h : Ow Kd.str e w O (.slice (some ⟨g, 0, none⟩) n c) xs) : Holds encStr w g 0 xs.toArray := by
 obtain ⟨cells, o1, o2, o3⟩ := h
 obtain ⟨e2, _⟩ := strs_arr o2
 intro j hj
 simp only [List.size_toArray] at hj
 rcases o1.2 with ⟨_, e'⟩ | ⟨g', cap, cur, ev, h0, hg, hle, hmx, hcur, htake⟩
 ·omega
 ·cases ev
  have hc := World.ownsRow.cells o1 (g := g) rfl j (vs xs[j]) (by rw [e2]; simp [hj])
  have ha : (⟨g, 0, none⟩ : Addr).add j = ⟨g, 0 + j, none⟩ := by unfold Addr.add; split <;> simp_all
  rw [ha] at hc
  refine ⟨by rw [hc]; simp [hj], ?_⟩
  simp [World.frozen?, hg]
def sortS (xs : List Str) : List Str := xs.mergeSort fun x y => decide (x ≤ y)
theorem Ow.form {e : TypeId} {w : World} {O : Ob} {A : Option Addr} {n c : Nat} {xs : List Str} (h : Ow Kd.str e w O (.slice A n c) xs) (hx : 0 < xs.length) : ∃ g, A = some ⟨g, 0, none⟩ ∧ n = xs.length ∧ xs.length ≤ c ∧ g < w.heap.size := by
 obtain ⟨cells, o1, o2, o3⟩ := h
 rcases o1.2 with ⟨_, e'⟩ | ⟨g', cap, cur, ev, h0, hg, hle, hmx, hcur, htake⟩
 ·omega
 ·cases ev; exact ⟨g', rfl, rfl, hle, (Array.getElem?_eq_some_iff.1 hg).1⟩
theorem Ow.lims {e : TypeId} {w : World} {O : Ob} {v : Value} {xs : List Str} (h : Ow Kd.str e w O v xs) : ∀ x ∈ xs, Lim x := by
 obtain ⟨cells, o1, o2, o3⟩ := h
 exact (strs_arr o2).2
theorem compact_le (x : List Str) : (Lib.compact x).length ≤ x.length := by
 unfold Lib.compact Lib.compactUpTo
 rw [List.length_map]
 exact Nat.le_trans (List.length_filter_le _ _) (by rw [List.length_range]; exact Nat.le_refl _)
theorem compact_mem {x : List Str} {y : Str} (h : y ∈ Lib.compact x) : y ∈ x := by
 unfold Lib.compact Lib.compactUpTo at h
 obtain ⟨j, hj, rfl⟩ := List.mem_map.1 h
 have hl : j < x.length := List.mem_range.1 (List.mem_filter.1 hj).1
 simp [hl]
end
end Go.Proofs.YtlaaehjcooonfaaGreatDoor
namespace Go.Proofs
open Go.Shelf
def Tryz.srt83_ren : Go.Shelf.Ren := ⟨fun | 6 => 83 | 15 => 110 | 14 => 129 | 28 => 144 | 29 => 145 | 20 => 155 | 21 => 156 | 22 => 157 | 23 => 158 | 24 => 159 | 25 => 160 | 26 => 161 | 27 => 162 | 46 => 175 | 47 => 167 | 48 => 168 | 49 => 176 | 50 => 177 | 57 => 185 | n => n, fun | 22 => 33 | 24 => 44 | 25 => 113 | 3 => 3 | 39 => 132 | 0 => 0 | 53 => 163 | 55 => 165 | 4 => 4 | 46 => 155 | 45 => 154 | 50 => 160 | 5 => 5 | 9 => 9 | 66 => 183 | 70 => 187 | 76 => 192 | 77 => 193 | n => n, fun | n => n⟩
theorem Tryz.srt83 : Go.Proofs.SlLaysF0.n6 Tryz.prog Tryz.srt83_ren := {
  mixed := by kernel_rfl
  f6 := ⟨ "slices.SortFunc[[]loop.example/townland/impl.Feat,loop.example/townland/impl.Feat]", by decide, Tryz.func83.trans (congrArg some (by kernel_rfl))⟩
  f14 := ⟨ "slices.pdqsortCmpFunc[loop.example/townland/impl.Feat]", by decide, Tryz.func129.trans (congrArg some (by kernel_rfl))⟩
  f15 := Tryz.func110.trans (congrArg some (by kernel_rfl))
  f20 := ⟨ "slices.insertionSortCmpFunc[loop.example/townland/impl.Feat]", by decide, Tryz.func155.trans (congrArg some (by kernel_rfl))⟩
  f21 := ⟨ "slices.heapSortCmpFunc[loop.example/townland/impl.Feat]", by decide, Tryz.func156.trans (congrArg some (by kernel_rfl))⟩
  f22 := ⟨ "slices.breakPatternsCmpFunc[loop.example/townland/impl.Feat]", by decide, Tryz.func157.trans (congrArg some (by kernel_rfl))⟩
  f23 := ⟨ "slices.choosePivotCmpFunc[loop.example/townland/impl.Feat]", by decide, Tryz.func158.trans (congrArg some (by kernel_rfl))⟩
  f24 := ⟨ "slices.reverseRangeCmpFunc[loop.example/townland/impl.Feat]", by decide, Tryz.func159.trans (congrArg some (by kernel_rfl))⟩
  f25 := ⟨ "slices.partialInsertionSortCmpFunc[loop.example/townland/impl.Feat]", by decide, Tryz.func160.trans (congrArg some (by kernel_rfl))⟩
  f26 := ⟨ "slices.partitionEqualCmpFunc[loop.example/townland/impl.Feat]", by decide, Tryz.func161.trans (congrArg some (by kernel_rfl))⟩
  f27 := ⟨ "slices.partitionCmpFunc[loop.example/townland/impl.Feat]", by decide, Tryz.func162.trans (congrArg some (by kernel_rfl))⟩
  f28 := Tryz.func144.trans (congrArg some (by kernel_rfl))
  f29 := Tryz.func145.trans (congrArg some (by kernel_rfl))
  f46 := ⟨ "slices.siftDownCmpFunc[loop.example/townland/impl.Feat]", by decide, Tryz.func175.trans (congrArg some (by kernel_rfl))⟩
  f47 := Tryz.func167.trans (congrArg some (by kernel_rfl))
  f48 := Tryz.func168.trans (congrArg some (by kernel_rfl))
  f49 := ⟨ "slices.medianAdjacentCmpFunc[loop.example/townland/impl.Feat]", by decide, Tryz.func176.trans (congrArg some (by kernel_rfl))⟩
  f50 := ⟨ "slices.medianCmpFunc[loop.example/townland/impl.Feat]", by decide, Tryz.func177.trans (congrArg some (by kernel_rfl))⟩
  f57 := ⟨ "slices.order2CmpFunc[loop.example/townland/impl.Feat]", by decide, Tryz.func185.trans (congrArg some (by kernel_rfl))⟩
  t0 := Tryz.underlying0
  a0 := Tryz.isAgg0
  z0 := Tryz.sizeOf0
  v0 := Tryz.zeroValue0
  t3 := Tryz.underlying3
  a3 := Tryz.isAgg3
  z3 := Tryz.sizeOf3
  v3 := Tryz.zeroValue3
  t4 := Tryz.underlying4
  a4 := Tryz.isAgg4
  z4 := Tryz.sizeOf4
  v4 := Tryz.zeroValue4
  t5 := Tryz.underlying5
  a5 := Tryz.isAgg5
  z5 := Tryz.sizeOf5
  v5 := Tryz.zeroValue5
  t9 := Tryz.underlying9
  a9 := Tryz.isAgg9
  z9 := Tryz.sizeOf9
  v9 := Tryz.zeroValue9
  t22 := Tryz.underlying33
  a22 := Tryz.isAgg33
  z22 := Tryz.sizeOf33
  v22 := Tryz.zeroValue33
  t25 := Tryz.underlying113
  a25 := Tryz.isAgg113
  z25 := Tryz.sizeOf113
  v25 := Tryz.zeroValue113
  t39 := Tryz.underlying132
  a39 := Tryz.isAgg132
  z39 := Tryz.sizeOf132
  v39 := Tryz.zeroValue132
  t45 := Tryz.underlying154
  a45 := Tryz.isAgg154
  z45 := Tryz.sizeOf154
  v45 := Tryz.zeroValue154
  t46 := Tryz.underlying155
  a46 := Tryz.isAgg155
  z46 := Tryz.sizeOf155
  v46 := Tryz.zeroValue155
  t50 := Tryz.underlying160
  a50 := Tryz.isAgg160
  z50 := Tryz.sizeOf160
  v50 := Tryz.zeroValue160
  t53 := Tryz.underlying163
  a53 := Tryz.isAgg163
  z53 := Tryz.sizeOf163
  v53 := Tryz.zeroValue163
  t55 := Tryz.underlying165
  a55 := Tryz.isAgg165
  z55 := Tryz.sizeOf165
  v55 := Tryz.zeroValue165
  t66 := Tryz.underlying183
  a66 := Tryz.isAgg183
  z66 := Tryz.sizeOf183
  v66 := Tryz.zeroValue183
  t70 := Tryz.underlying187
  a70 := Tryz.isAgg187
  z70 := Tryz.sizeOf187
  v70 := Tryz.zeroValue187
  t76 := Tryz.underlying192
  a76 := Tryz.isAgg192
  z76 := Tryz.sizeOf192
  v76 := Tryz.zeroValue192
  t77 := Tryz.underlying193
  a77 := Tryz.isAgg193
  z77 := Tryz.sizeOf193
  v77 := Tryz.zeroValue193 }
end Go.Proofs
namespace Go.Proofs.YtlaaehjcooonfaaGreatDoor
set_option linter.unusedVariables false
set_option linter.unusedSimpArgs false
set_option linter.unusedSectionVars false
set_option maxHeartbeats 8000000
set_option maxRecDepth 100000
open Go.RowKit
variable {O : Ob} {w0 : World}
section
open Go.RowKit Go.Shelf Go.Sort Go.Lib
section
variable {β : Type} {kd : Kd β} {w : World} {S : Sp} {e : TypeId} {O : Ob}
theorem Arr.pairs : ∀ {xs : List β} {cells : List Value}, Arr kd w S xs cells → ∃ ps : List (β × List Value), ps.map (·.1) = xs ∧ cells = (ps.map (·.2)).flatten ∧ ∀ p ∈ ps, kd.R w S p.1 p.2
 | [], _, h => ⟨[], rfl, h, fun p hp => by cases hp⟩
 | x :: xs, _, ⟨c1, c2, e, h1, h2⟩ => by
  obtain ⟨ps, e1, e2, h3⟩ := Arr.pairs h2
  refine ⟨(x, c1) :: ps, by simp [e1], by simp [e, e2], fun p hp => ?_⟩
  rcases List.mem_cons.1 hp with rfl | hp
  ·exact h1
  ·exact h3 p hp
theorem Arr.ofPairs : ∀ {ps : List (β × List Value)}, (∀ p ∈ ps, kd.R w S p.1 p.2) → Arr kd w S (ps.map (·.1)) (ps.map (·.2)).flatten
 | [], _ => rfl
 | p :: ps, h => ⟨p.2, _, by simp, h p List.mem_cons_self, Arr.ofPairs fun q hq => h q (List.mem_cons_of_mem _ hq)⟩
abbrev KE (kd : Kd β) (key : β → Str) : Type := { p : β × List Value // p.2.length = kd.sz ∧ (∀ v ∈ p.2, v.oneCell' = true) ∧ p.2[0]? = some (vs (key p.1)) }
def KE.cs {key : β → Str} (x : KE kd key) : List Value := x.1.2
theorem flat_len {key : β → Str} : ∀ l : List (KE kd key), ((l.map KE.cs).flatten).length = l.length * kd.sz
 | [] => by simp
 | x :: l => by simp only [List.map_cons, List.flatten_cons, List.length_append, List.length_cons]; rw [flat_len l, Nat.add_mul, Nat.one_mul, KE.cs, x.2.1]; omega
theorem flat_get {key : β → Str} (hk : 0 < kd.sz) : ∀ (l : List (KE kd key)) (t : Nat), t < l.length * kd.sz → ((l.map KE.cs).flatten)[t]? = (l[t / kd.sz]?).bind fun x => x.cs[t % kd.sz]?
 | [], t, h => by simp at h
 | x :: l, t, h => by
  rw [List.map_cons, List.flatten_cons]
  have hx : x.cs.length = kd.sz := x.2.1
  by_cases ht : t < kd.sz
  ·rw [List.getElem?_append_left OM, Nat.div_eq_of_lt ht, Nat.mod_eq_of_lt ht]; rfl
  ·rw [List.getElem?_append_right OM, hx, flat_get hk l (t - kd.sz) (by rw [List.length_cons, Nat.add_mul, Nat.one_mul] at h; omega)]
   have e1 : t / kd.sz = (t - kd.sz) / kd.sz + 1 := by rw [← Nat.add_div_right _ hk, Nat.sub_add_cancel OM]
   have e2 : t % kd.sz = (t - kd.sz) % kd.sz := by conv => lhs; rw [← Nat.sub_add_cancel (Nat.le_of_not_lt ht), Nat.add_mod_right]
   rw [e1, e2, List.getElem?_cons_succ]
theorem flatK_list {key : β → Str} [Inhabited (KE kd key)] (hk : 0 < kd.sz) (d : Array (KE kd key)) : (flatK KE.cs kd.sz d).toList = (d.toList.map KE.cs).flatten := by
 apply List.ext_getElem?
 intro t
 by_cases ht : t < d.size * kd.sz
 ·have h1 : t / kd.sz < d.size := Nat.div_lt_of_lt_mul (by rw [Nat.mul_comm]; exact ht)
  rw [flat_get hk _ _ (by simpa using ht)]
  have h2 : (flatK KE.cs kd.sz d).toList[t]? = some ((flatK KE.cs kd.sz d)[t]!) := by
   rw [Array.getElem?_toList, getElem!_pos (flatK KE.cs kd.sz d) t (by rw [size_flatK]; exact ht)]; exact Array.getElem?_eq_getElem _
  rw [h2, get_flatK _ _ _ _ ht]
  have h3 : d.toList[t / kd.sz]? = some d[t / kd.sz]! := by rw [Array.getElem?_toList, getElem!_pos d (t / kd.sz) h1]; exact Array.getElem?_eq_getElem _
  rw [h3, Option.bind_some]
  have h4 : (d[t / kd.sz]!).cs.length = kd.sz := (d[t / kd.sz]!).2.1
  have h5 : t % kd.sz < (d[t / kd.sz]!).cs.length := by rw [h4]; exact Nat.mod_lt _ hk
  rw [List.getElem?_eq_getElem h5, getElem!_pos ((d[t / kd.sz]!).cs) (t % kd.sz) h5]
 ·rw [List.getElem?_eq_none (by rw [Array.length_toList, size_flatK]; omega), List.getElem?_eq_none (by rw [flat_len, Array.length_toList]; omega)]
theorem add0 (g t : Nat) : (⟨g, 0, none⟩ : Addr).add t = ⟨g, 0 + t, none⟩ := by unfold Addr.add; split <;> simp_all
theorem Ow.sortK (hk : 0 < kd.sz) (key : β → Str) [Inhabited (KE kd key)] (hkey : ∀ x cs, kd.R w (Fr O) x cs → cs[0]? = some (vs (key x))) {A : Option Addr} {n c : Nat} {xs : List β} (h : Ow kd e w O (.slice A n c) xs) (hx : 0 < xs.length) :
  ∃ (g : Nat) (d : Array (KE kd key)), A = some ⟨g, 0, none⟩ ∧ n = d.size ∧ d.toList.map (·.1.1) = xs ∧ HoldsK KE.cs kd.sz w g 0 d ∧ g < w.heap.size ∧
   ∀ (d' : Array (KE kd key)) (q : Nat) (os : Array Obj), d'.toList.Perm d.toList →
    Gr w (sortWorldK KE.cs kd.sz w g 0 q d' os) (some g) ∧ Ow kd e (sortWorldK KE.cs kd.sz w g 0 q d' os) O (.slice A n c) (d'.toList.map (·.1.1)) := by
 obtain ⟨cells, o1, o2, o3⟩ := h
 obtain ⟨ps, e1, e2, e3⟩ := Arr.pairs o2
 obtain ⟨l, hl⟩ : ∃ l : List (KE kd key), l.map (·.1) = ps := by
  have : ∀ ps : List (β × List Value), (∀ p ∈ ps, kd.R w (Fr O) p.1 p.2) → ∃ l : List (KE kd key), l.map (·.1) = ps := fun ps => by
   induction ps with
   | nil => exact fun _ => ⟨[], rfl⟩
   | cons p ps ih =>
    intro hp
    obtain ⟨l, hl⟩ := ih fun q hq => hp q (List.mem_cons_of_mem _ hq)
    have h := hp p List.mem_cons_self
    exact ⟨⟨p, kd.len h, kd.one h, hkey _ _ h⟩ :: l, by rw [List.map_cons, hl]⟩
  exact this ps e3
 subst hl
 have hcs : cells = (l.map KE.cs).flatten := by rw [e2, List.map_map]; rfl
 have hxs : xs = l.map (·.1.1) := by rw [← e1, List.map_map]; rfl
 have hll : l.length = xs.length := by rw [hxs, List.length_map]
 rcases o1.2 with ⟨_, e'⟩ | ⟨g, cap, cur, ev, h0, hg, hle, hmx, hcur, htake⟩
 ·exfalso
  have := (show n = xs.length from by
   have := o1.1; omega)
  omega
 cases ev
 have hgl : g < w.heap.size := (Array.getElem?_eq_some_iff.1 hg).1
 refine ⟨g, l.toArray, rfl, by simp [hll], by simp [hxs], ?_, hgl, fun d' q os hp => ?_⟩
 ·intro t ht
  have ht' : t < l.length * kd.sz := by simpa using ht
  have hc := World.ownsRow.cells o1 (g := g) rfl t ((flatK KE.cs kd.sz l.toArray)[t]!) (by
   rw [hcs]; have hf := flatK_list hk l.toArray; rw [List.toList_toArray] at hf; rw [← hf, Array.getElem?_toList, getElem!_pos (flatK KE.cs kd.sz l.toArray) t ht]; exact Array.getElem?_eq_getElem _)
  rw [add0] at hc
  exact ⟨hc, by simp [World.frozen?, hg]⟩
 ·have hsz : d'.size = l.length := by have := hp.length_eq; simpa using this
  have h1 : (w.heap.modify g (onCells (putCells id 0 (flatK KE.cs kd.sz d')))).size = w.heap.size := Array.size_modify
  have hne : ∀ b, b < w.heap.size → b ≠ g → (sortWorldK KE.cs kd.sz w g 0 q d' os).heap[b]? = w.heap[b]? := fun b hb hn => by
   simp only [sortWorldK, grow, putRowK, putRow, mapBlock, Sort.ahead]
   rw [Array.getElem?_append_left (by rw [h1]; exact hb), Array.getElem?_modify, if_neg (fun e => hn e.symm)]
  have hGr : Gr w (sortWorldK KE.cs kd.sz w g 0 q d' os) (some g) := ⟨rfl, rfl, rfl, by
   simp only [sortWorldK, grow, putRowK, putRow, mapBlock, Sort.ahead, Array.size_append, h1]; omega, fun b hb hn => hne b hb fun e => hn (by rw [e])⟩
  have hn : (d'.toList.map (·.1.1)).length = xs.length := by rw [List.length_map, Array.length_toList, hsz, hll]
  have hn2 : d'.toList.length = xs.length := by rw [Array.length_toList, hsz, hll]
  refine ⟨hGr, (d'.toList.map KE.cs).flatten, ⟨by rw [flat_len, hn, hn2], .inr ⟨g, c, putCells id 0 (flatK KE.cs kd.sz d') cur, ?_, h0, ?_, ?_, hmx, ?_, ?_⟩⟩, ?_, o3⟩
  ·rw [hn]
  ·simp only [sortWorldK, grow, putRowK, putRow, mapBlock, Sort.ahead]
   rw [Array.getElem?_append_left (by rw [h1]; exact hgl), Array.getElem?_modify, if_pos rfl, hg]; rfl
  ·rw [hn]; exact hle
  ·rw [putCells, Array.size_mapIdx]; exact hcur
  ·have hc1 : xs.length * kd.sz ≤ cur.size := by rw [hcur]; exact Nat.mul_le_mul_right _ hle
   rw [← flatK_list hk]
   apply List.ext_getElem?
   intro j
   rw [List.getElem?_take, hn]
   by_cases hj : j < xs.length * kd.sz
   ·have hj2 : j < (flatK KE.cs kd.sz d').size := by rw [size_flatK, hsz, hll]; exact hj
    rw [if_pos hj, putCells, Array.getElem?_toList, Array.getElem?_mapIdx, Array.getElem?_eq_getElem OM, Array.getElem?_toList, Array.getElem?_eq_getElem hj2]
    simp only [Option.map_some, Nat.zero_le, true_and, Nat.zero_add, hj2, if_true, Nat.sub_zero, id]
    try rw [getElem!_pos (flatK KE.cs kd.sz d') j hj2]
   ·rw [if_neg hj, List.getElem?_eq_none (by rw [Array.length_toList, size_flatK, hsz, hll]; omega)]
  ·have hR : ∀ p ∈ d'.toList.map (·.1), kd.R (sortWorldK KE.cs kd.sz w g 0 q d' os) (Fr O) p.1 p.2 := fun p hp' => by
    obtain ⟨x, hx', rfl⟩ := List.mem_map.1 hp'
    have hm : x ∈ l := by have := hp.mem_iff.1 hx'; simpa using this
    exact kd.keep (e3 _ (List.mem_map.2 ⟨x, hm, rfl⟩)) fun b hS hb => hne b hb fun e => hS (by rw [e]; exact o3 g rfl)
   have := Arr.ofPairs hR
   rw [List.map_map, List.map_map] at this
   exact this
theorem ltK_swo {key : β → Str} : SWO fun x y : KE kd key => Op.bytesLess (key x.1.1) (key y.1.1) := by
 have irr : ∀ a : Str, Op.bytesLess a a = false := fun a => by
  induction a with
  | nil => rfl
  | cons x a ih => simp [Op.bytesLess, ih]
 have tr : ∀ {a b c : Str}, Op.bytesLess a b = true → Op.bytesLess b c = true → Op.bytesLess a c = true := by
  intro a
  induction a with
  | nil =>
   intro b c h1 h2
   cases c with
   | nil => cases b <;> simp [Op.bytesLess] at h2
   | cons z c => rfl
  | cons x a ih =>
   intro b c h1 h2
   cases b with
   | nil => simp [Op.bytesLess] at h1
   | cons y b =>
    cases c with
    | nil => simp [Op.bytesLess] at h2
    | cons z c =>
     rw [Op.bytesLess] at h1 h2 ⊢
     simp only [Bool.or_eq_true, Bool.and_eq_true, decide_eq_true_eq, beq_iff_eq] at h1 h2 ⊢
     rcases h1 with h1 | ⟨rfl, h1⟩
     ·rcases h2 with h2 | ⟨rfl, h2⟩
      ·exact .inl (UInt8.lt_trans h1 h2)
      ·exact .inl h1
     ·rcases h2 with h2 | ⟨rfl, h2⟩
      ·exact .inl h2
      ·exact .inr ⟨rfl, ih h1 h2⟩
 have tri : ∀ {a b : Str}, Op.bytesLess a b = false → Op.bytesLess b a = true ∨ a = b := by
  intro a
  induction a with
  | nil => intro b h; cases b with
   | nil => exact .inr rfl
   | cons y b => simp [Op.bytesLess] at h
  | cons x a ih =>
   intro b h
   cases b with
   | nil => exact .inl rfl
   | cons y b =>
    rw [Op.bytesLess] at h ⊢
    simp only [Bool.or_eq_false_iff, decide_eq_false_iff_not, Bool.and_eq_false_iff, beq_eq_false_iff_ne, Bool.or_eq_true, decide_eq_true_eq, Bool.and_eq_true, beq_iff_eq] at h ⊢
    obtain ⟨h1, h2⟩ := h
    by_cases e : x = y
    ·subst e
     rcases h2 with h2 | h2
     ·exact absurd rfl h2
     ·rcases ih h2 with g | g
      ·exact .inl (.inr ⟨rfl, g⟩)
      ·exact .inr (by rw [g])
    ·refine .inl (.inl ?_)
     rcases UInt8.lt_or_lt_of_ne e with g | g
     ·exact absurd g h1
     ·exact g
 exact ⟨fun x => irr _, fun x y z h1 h2 => tr h1 h2, fun x y z h1 h2 => by
  cases h : Op.bytesLess (key x.1.1) (key z.1.1) with
  | false => rfl
  | true =>
   rcases tri h2 with g | g
   ·have := tr h g; rw [this] at h1; cases h1
   ·rw [g, h] at h1; cases h1⟩
end
end
section
open Go.Shelf Go.Sort Go.Lib
def F6.E (x : List Feat) (Q : List Feat → Prop) : Prop := x.length ≤ 268435456 ∧ ∀ r : List Feat, r.Perm x → (r.Pairwise fun a b => Op.bytesLess b.Id a.Id = false) → Q r
instance : Inhabited (KE kFeat Feat.Id) := ⟨⟨(⟨[], ⟨0, []⟩, []⟩, [vs [], vi 0, .slice none 0 0, .slice none 0 0]), rfl, by decide, rfl⟩⟩
theorem kFeat_key {w : World} {S : Sp} (x : Feat) (cs : List Value) (h : kFeat.R w S x cs) : cs[0]? = some (vs x.Id) := by
 obtain ⟨A1, n1, c1, A2, n2, c2, rfl, _⟩ := kFeat.op h
 rfl
def CmpFeat (g : FuncId) (cf : Str → Str → Int) : Prop := ∀ (s t : Str) (a1 a2 a3 b1 b2 b3 : Value) (W : World),
 Calls Tryz.prog g #[.agg #[vs s, a1, a2, a3], .agg #[vs t, b1, b2, b3]] W fun e w' => e = .returned (vi (cf s t)) ∧ ∃ q os, w' = Sort.grow (W.drewN q) os
theorem F6.calls {O : Ob} (w0 : World) (hO : Ok w0 O) (A : Option Addr) (n c : Nat) (x : List Feat) (hp : Ow kFeat 44 w0 O (.slice A n c) x) (g : FuncId) (hg : Goes Tryz.prog g) (cf : Str → Str → Int) (hlt : ∀ s t, decide (cf s t < 0) = Op.bytesLess s t) (hcf : CmpFeat g cf)
  (Q : List Feat → Prop) (h : F6.E x Q) :
  Ret Tryz.prog 83 [.slice A n c, .func (.func g) #[] #[]] w0 (fun v w' => ∃ (m0 : List Feat), v = .tuple #[] ∧ Q m0 ∧ Gr w0 w' (blk (.slice A n c)) ∧ Ow kFeat 44 w' O (.slice A n c) m0) := by
 obtain ⟨hl, hq⟩ := h
 by_cases hx : 0 < x.length
 ·obtain ⟨b, d, rfl, rfl, e1, h1, h2, h3⟩ := Ow.sortK RD Feat.Id (fun x cs h => kFeat_key x cs h) hp hx
  have hsz : d.size = x.length := by rw [← e1]; simp
  have e2 : (ltOf fun x y : KE kFeat Feat.Id => cf x.1.1.Id y.1.1.Id) = fun x y => Op.bytesLess x.1.1.Id y.1.1.Id := by funext x y; exact hlt _ _
  have hcmp : CmpLays Tryz.prog g #[] (KE.cs (kd := kFeat) (key := Feat.Id)) 4 (fun x y => cf x.1.1.Id y.1.1.Id) b 0 d.size w0 := fun m os dk _ x y => by
   obtain ⟨⟨px, cx⟩, l1, _, k1⟩ := x
   obtain ⟨⟨py, cy⟩, l2, _, k2⟩ := y
   match cx, l1, k1, cy, l2, k2 with
   | [u0, u1, u2, u3], _, k1, [v0, v1, v2, v3], _, k2 =>
    simp only [List.getElem?_cons_zero, Option.some.injEq] at k1 k2
    subst k1; subst k2
    exact hcf _ _ _ _ _ _ _ _ _
  refine Calls.mono (AnyQ.slices_SortFunc Tryz.srt83 4 Tryz.isAgg44 Tryz.sizeOf44 (KE.cs (kd := kFeat) (key := Feat.Id)) (fun x => x.2.1) (fun x => x.2.2.1) (fun x y => cf x.1.1.Id y.1.1.Id) (by rw [e2]; exact ltK_swo) g #[] b 0 c d w0 (fun a w => hg.run a w) hcmp h1 h2 (by rw [hsz]; omega)) fun e w' ⟨he, d', q, os, hperm, hsort, hw⟩ => ?_
  subst he; subst hw
  have hd : d'.toList.Perm d.toList := by
   have := hperm.2.2
   have s1 := hperm.1
   rw [show d'.extract 0 d.size = d' by rw [← s1]; exact Array.extract_size, show d.extract 0 d.size = d from Array.extract_size] at this
   exact this
  obtain ⟨g1, g2⟩ := h3 d' q os hd
  refine ⟨_, rfl, d'.toList.map (fun y : KE kFeat Feat.Id => y.1.1), rfl, hq _ (by rw [← e1]; exact hd.map _) ?_, g1, g2⟩
  rw [e2] at hsort
  rw [List.pairwise_map]
  refine List.pairwise_iff_getElem.2 fun i j hi hj hij => ?_
  rw [Array.length_toList] at hi hj
  have := hsort i j (Nat.zero_le _) hij (by rw [← hperm.1]; exact hj)
  rw [getElem!_pos d' i hi, getElem!_pos d' j hj] at this
  simpa using this
 ·have e0 : x = [] := List.length_eq_zero_iff.1 OM
  subst e0
  obtain rfl : n = 0 := hp.len
  refine Calls.mono (AnyF.slices_SortFunc_none Tryz.srt83 A c _ w0) fun e w' ⟨he, hw⟩ => ?_
  subst he; subst hw
  exact ⟨_, rfl, [], rfl, hq [] (.refl _) .nil, Gr.refl _ _, hp⟩
end
section
open Go.Shelf Go.Sort Go.Lib
theorem sgo_nan : Goes Tryz.prog 130 := ⟨_, Tryz.func130, RK, RK⟩
theorem sgo_cmp : Goes Tryz.prog 85 := ⟨_, Tryz.func85, RK, RK⟩
theorem isNaN_s (s : Str) (W : World) : Calls Tryz.prog 130 #[vs s] W fun e w' => e = .returned (vb false) ∧ w' = W := by
 go_enter Tryz.func130, Tryz.ntmps130
 go_wp2
 go_ret
 exact ⟨by simp, rfl⟩
def cmpI (s t : Str) : Int := if Op.bytesLess s t then -1 else if s = t then 0 else 1
theorem cmpI_lt (s t : Str) : decide (cmpI s t < 0) = Op.bytesLess s t := by
 unfold cmpI
 cases Op.bytesLess s t
 ·by_cases h : s = t
  ·rw [if_neg RD, if_pos h]; rfl
  ·rw [if_neg RD, if_neg h]; rfl
 ·rfl
set_option maxHeartbeats 1000000 in
theorem compare_s (s t : Str) (W : World) : Calls Tryz.prog 85 #[vs s, vs t] W fun e w' => e = .returned (vi (cmpI s t)) ∧ w' = W := by
 have e7 : ∀ args w, (callFunc 130 args).run Tryz.prog w = .ok (.enter 130 args) w := sgo_nan.run
 have hg : ∀ T w, (binOp BinOp.gtr T (vs s) (vs t)).run Tryz.prog w = .ok (vb (!(Op.bytesLess s t || s == t))) w := fun T w => by simp [binOp, Op.stringOp]
 go_enter Tryz.func85, Tryz.ntmps85
 go_wp2_with (go_at_fn 130; refine (isNaN_s _ _).mono ?_; rintro e w' ⟨rfl, hw⟩; rw [hw])
 all_goals
  go_ret
  refine ⟨?_, rfl⟩
  simp_all [cmpI]
def F34.cf := cmpI
theorem F34.hlt (s t : Str) : decide (F34.cf s t < 0) = Op.bytesLess s t := cmpI_lt s t
set_option maxHeartbeats 1000000 in
theorem F34.cmp : CmpFeat 84 F34.cf := by
 intro s t a1 a2 a3 b1 b2 b3 W
 have e7 : ∀ args w, (callFunc 85 args).run Tryz.prog w = .ok (.enter 85 args) w := sgo_cmp.run
 go_enter Tryz.func84, Tryz.ntmps84
 go_wp2_with (go_at_fn 85; refine (compare_s _ _ _).mono ?_; rintro e w' ⟨rfl, hw⟩; rw [hw])
 all_goals
  go_ret
  refine ⟨?_, 0, _, by rw [alloc_eq_grow, alloc_eq_grow, grow_grow]; rfl⟩
  simp_all [F34.cf]
end
def F62.E (s : List Feat) (f : Feat) (Q : List Feat → Bool → Prop) : Prop :=
 F74.E s (fun r => (if !r then Q [] false else F98.E f (fun r2 => (if !r2 then Q [] false else F33.E s (fun r3 => F107.E r3 f.Id (fun r4 => (if decide (r4 ≥ 0) then F40.E f (fun r5 => ((0 : Int) ≤ r4 ∧ r4 < (r3.length : Int)) ∧ Q (r3.set r4.toNat r5) true) else (if (r3.length : Int) == 8 then Q [] false else (r3.length + ([f] : List Feat).length ≤ 268435456) ∧ F6.E (r3 ++ ([f] : List Feat)) (fun m => F33.E m (fun r6 => Q r6 true))))))))))
theorem F62.calls {s : List Feat} {A1 : Option Addr} {n2 c3 : Nat} {f : Feat} {A7 : Option Addr} {n8 c9 : Nat} {ag : Option Addr} {ah ai : Nat} {Q : List Feat → Bool → Prop} (H : F62.E s f Q) (hO : Ok w0 O) (hp4 : Sl kFeat w0 (Fr O) (G A1 n2 c3) s) (hs6 : Lim f.Id) (bd : Sl kPt w0 (Fr O) (G A7 n8 c9) f.Shape.Pts) (be : Sl kTag w0 (Fr O) (G ag ah ai) f.Tags) :
  Ret Tryz.prog 31 [G A1 n2 c3, .agg #[vs f.Id, vi f.Shape.Kind, G A7 n8 c9, G ag ah ai]] w0 (fun v w' => ∃ (r0 : List Feat) (r1 : Bool) (Aw0 : Option Addr) (nw0 cw0 : Nat), v = .tuple #[G Aw0 nw0 cw0, vb r1] ∧ Q r0 r1 ∧ Gk w0 w' [bk Aw0] O (Ow kFeat 44 w' ([bk Aw0] ++ O) (G Aw0 nw0 cw0) r0)) := by
 unfold F62.E at H;have hc0 := Ct.init hO;refine X9 Tryz.func31 Z 43 Z [.tmp 4, .tmp 5] Z Z ?_;refine Xc (Xd (Yo [vs f.Id, vi f.Shape.Kind, G A7 n8 c9, G ag ah ai] Z fun c1 ar c2 hu21 c4 c5 => ?_));have c6 := Fb.mk hc0.ok c2 c5;have a4 := hc0.k0 c4;refine Xg (G none 0 0) Z (Xg (vb false) Z (Xb (Xc (Xc (Xd (Xe (G A1 n2 c3) Z ?_))))));refine Xu go37 (F74.calls H a4.ok (hp4.st a4.st)) Z ?_;rintro _ c7 ⟨r, rfl, H, b8⟩;have au := a4.k0 b8;refine Xa (X7 r Z) (Xe (vb (!r)) Z ?_);rcases X2 (!r) with aj | aj
 ·have H := Xp H aj;refine Xi aj Z (Xi aj Z (Xi aj Z (Xa (Xk true (vb true) aj Z) (Xb (Yr (b := true) Z Z ?_)))));refine Xc (Xd (Yb (kd := kFeat) Yz au ([] : List Feat) (cells := []) Z RF fun e5 bf bg bh e6 hr38 bi c8 => ?_));exact Xg (G bf bg bh) Z (Xg (vb false) Z (Xb (Xn ⟨[G bf bg bh, vb false], ⟨_, Z, ⟨_, Z, Z⟩⟩, ([] : List Feat), false, bf, bg, bh, Z, H, bi.gr.g0, bi.ok, bi.ge, c8⟩)))
 have H := Xq H aj;refine Xh aj Z ?_;have da := a4.stn b8;have b9 := (c6.st da);refine Xa (Xv ag44 sz44 cL (Ad ar 0) [vs f.Id, vi f.Shape.Kind, G A7 n8 c9, G ag ah ai] Z Z (b9.cells (off := 00) Z)) (Xh aj Z ?_);refine Xu go25 (F98.calls H au.ok hs6 (bd.st au.st) (be.st au.st)) Z ?_;rintro _ db ⟨r2, rfl, H, ca⟩;have aw := au.k0 ca;refine Xh aj Z (Xa (X7 r2 Z) (Xa (Xk false (vb (!r2)) aj Z) (Xb ?_)));refine Xz (!r2) Z (fun bj => ?_) (fun bj => ?_)
 ·have H := Xp H bj;refine Xc (Xd (Yb (kd := kFeat) Yz aw ([] : List Feat) (cells := []) Z RF fun e7 bl bm bn e8 hr56 bo dc => ?_));exact Xg (G bl bm bn) Z (Xg (vb false) Z (Xb (Xn ⟨[G bl bm bn, vb false], ⟨_, Z, ⟨_, Z, Z⟩⟩, ([] : List Feat), false, bl, bm, bn, Z, H, bo.gr.g0, bo.ok, bo.ge, dc⟩)))
 have H := Xq H bj;refine Xx (Xc (Xd (Xe (G A1 n2 c3) Z ?_)));refine Xu go81 (F33.calls H aw.ok (hp4.st aw.st)) Z ?_;rintro _ cb ⟨r3, aa, ab, ac, ad, bp, rfl, H, cc, dd, cd, bq, br⟩;have a5 := aw.owns cc dd cd;have ax : (((bk aa :: (ad ++ [])) ++ []) : Ob).Perm (bk aa :: (ad ++ [])) := RP;have a6 := a5.perm ax;refine Xg (G aa ab ac) Z (Xb (Xc (Xc (Xd (Xe (G aa ab ac) Z (Xa (Xj fa44_0 (Ad ar 0) (Ad ar 0) Z Z) ?_))))));have de := au.stn ca;have df := aw.stos cc cd;have dg := St.spa (w := cb) (A := (bk aa :: (ad ++ []))) (L := []) (O := O) ax;have bs := (((b9.st de).st df).st dg);refine Xa (Xo ag9 cL (Ad ar 0) (vs f.Id) Z (bs.cell Z)) ?_;have dh := (a5.spa bq ax);have di := br;have dj : ((bk aa :: (ad ++ [])) : Ob).Perm (bk aa :: (ad ++ [])) := RP;obtain ⟨dk, dl, e9⟩ := Dp.gv (L := (bk aa :: (ad ++ []))) (O := O) (v := G aa ab ac) dh di a6 dj;refine Xu go82 (F107.calls H dl.ok dk hs6) Z ?_;rintro _ dm ⟨r4, rfl, H, ao⟩;have am := a6.k0 ao;refine Xg (vi r4) Z (Xb (Xc (Xd (Xe (vi r4) Z (Xa (X1 r4 0 (decide (r4 ≥ 0)) Z Z Z) (Xb ?_))))));refine Xz (decide (r4 ≥ 0)) Z (fun bt => ?_) (fun bt => ?_)
 ·have H := Xp H bt;refine Xc (Xd (Xe (G aa ab ac) Z (Xe (vi r4) Z ?_)));have dn := a6.stn ao;have dp := (bs.st dn);refine Xa (Xv ag44 sz44 cL (Ad ar 0) [vs f.Id, vi f.Shape.Kind, G A7 n8 c9, G ag ah ai] Z Z (dp.cells (off := 00) Z)) ?_;refine Xu go77 (F40.calls H am.ok hs6 (bd.st am.st) (be.st am.st)) Z ?_;rintro _ dq ⟨r5, ak, ay, az, al, a0, a1, rfl, H, bu, dr, ce, cg, ch, ci⟩;have a7 := am.owns bu dr ce;obtain ⟨a8, H⟩ := H;have a9 := (((a5.spa bq ax).sn ao).sos bu ce);have ba := ((br.k0 ao).k0 bu);have ds : (0 : Int) ≤ r4 ∧ r4 < (bp.length : Int) := by rw [ba.len]; exact a8
  obtain ⟨cj, fa, bv, dt, fb⟩ := a9.get default RD r4 ds;obtain rfl := Kd.cells.op dt;refine Xa (X3 u33_ Y1 aa cj ab ac (Dp.len a9 ba) r4 Z bv Z a8) ?_;have du : (dFeat_44).D dq ([] ++ (([] ++ [bk ak]) ++ [bk al])) r5 [vs r5.Id, vi r5.Shape.Kind, G ak ay az, G al a0 a1] := (dFeat_44.mk _ r5 cg (Ds.ofOw kPt_flat ch) (Ds.ofOw kTag_flat ci));have ck : (0 : Int) ≤ r4 ∧ r4 < (bp.length : Int) := by rw [ba.len]; exact a8
  obtain ⟨fc, cl, dv, dw, dx⟩ := a9.get default RD r4 ck;obtain rfl := Option.some.inj (bv.symm.trans dv);have cm : cl.length = 4 := (Kd.cells 4).len dw;refine Z8 (kd := Kd.cells 4) aa ab ac bp a9 r4 ck cj bv 0 Z [vs r5.Id, vi r5.Shape.Kind, G ak ay az, G al a0 a1] Z sz44 Z [vs r5.Id, vi r5.Shape.Kind, G ak ay az, G al a0 a1] cl [vs r5.Id, vi r5.Shape.Kind, G ak ay az, G al a0 a1] dx cm (whole_put cm) (Dd.raw _ du) fun dy bb dz => ?_;have cn := a7.wr 2 Z bb;have d0 := (a7.sw ch 0 2 Z Z Z bb);have d1 := (a7.sw ci 1 2 Z Z Z bb);have d2 : (dFeat_44).D dy ([] ++ (([] ++ [bk ak]) ++ [bk al])) r5 [vs r5.Id, vi r5.Shape.Kind, G ak ay az, G al a0 a1] := (dFeat_44.mk _ r5 cg (Ds.ofOw kPt_flat d0) (Ds.ofOw kTag_flat d1));have d3 := (DArr.sm (L := (bk ak :: bk al :: bk aa :: (ad ++ []))) (O := O) (i := 2) ba a7 Z (fun b hb => (List.mem_append_left _ hb)) bb);obtain ⟨av, bw, d4, d5⟩ := DArr.put d2 (Int.toNat r4) d3 (by have := a8; omega);have co : ((bk ak :: bk al :: bk aa :: (ad ++ [])) : Ob).Perm (bw ++ (bk aa :: (av ++ []))) := (show ((bk ak :: bk al :: bk aa :: (ad ++ [])) : Ob).Perm ((ad ++ ([] ++ (([] ++ [bk ak]) ++ [bk al]))) ++ (bk aa :: [])) from RP).trans ((d4.append_right (bk aa :: [])).trans (show ((bw ++ av) ++ (bk aa :: []) : Ob).Perm (bw ++ (bk aa :: (av ++ []))) from RP));have d6 := cn.drops co;refine Xb (Xc (Xd (Xe (G aa ab ac) Z (Xg (G aa ab ac) Z (Xg (vb true) Z (Xb (Xn ?_)))))));have d7 := (cn.odr dz co 0 Z);have d8 : ((bk aa :: (av ++ [])) : Ob).Perm (av ++ [bk aa]) := RP;obtain ⟨d9, bx, fd⟩ := Dp.own (L := (bk aa :: (av ++ []))) (O := O) d7 d5 d6 d8 (memi 0 Z);exact ⟨[G aa ab ac, vb true], ⟨_, Z, ⟨_, Z, Z⟩⟩, (r3.set r4.toNat r5), true, aa, ab, ac, Z, H, bx.gr.g0, bx.ok, bx.ge, d9⟩
 have H := Xq H bt;refine Xx (Xc (Xc (Xd (Xe (G aa ab ac) Z ?_))));have bz := ((a5.spa bq ax).sn ao);have b0 := (br.k0 ao);have fe := (Dp.le bz b0);refine Xa (Yc u33_ aa ab ac (Dp.len bz b0) Z) (Xa (X1 (r3.length : Int) 8 ((r3.length : Int) == 8) Z Z Z) (Xb ?_));refine Xz ((r3.length : Int) == 8) Z (fun b1 => ?_) (fun b1 => ?_)
 ·have H := Xp H b1;refine Xc (Xd (Yb (kd := kFeat) Yz am ([] : List Feat) (cells := []) Z RF fun ff a2 b2 b3 fg hr160 cp ea => ?_));refine Xg (G a2 b2 b3) Z (Xg (vb false) Z (Xb (Xn ?_)));have cq : ((bk a2 :: bk aa :: (ad ++ [])) : Ob).Perm ((bk aa :: (ad ++ [])) ++ [bk a2]) := RP;have b4 := cp.drops cq;have eb := (cp.odr ea cq 0 Z);exact ⟨[G a2 b2 b3, vb false], ⟨_, Z, ⟨_, Z, Z⟩⟩, ([] : List Feat), false, a2, b2, b3, Z, H, b4.gr.g0, b4.ok, b4.ge, eb⟩
 have H := Xq H b1;refine Xx (Xc (Xd (Xe (G aa ab ac) Z ?_)));have ec := a6.stn ao;have ed := (bs.st ec);refine Xa (Xv ag44 sz44 cL (Ad ar 0) [vs f.Id, vi f.Shape.Kind, G A7 n8 c9, G ag ah ai] Z Z (ed.cells (off := 00) Z)) (Yb (kd := kFeat) Yz am ([f] : List Feat) (cells := [vs f.Id, vi f.Shape.Kind, G A7 n8 c9, G ag ah ai]) ⟨[vs f.Id, vi f.Shape.Kind, G A7 n8 c9, G ag ah ai], _, Z, (kFeat.mk _ _ f hs6 (bd.st am.st) (be.st am.st)), Z⟩ RF fun fh af ee ef cr hr174 cs eg => ?_);have eh := (bz.so _ cr hr174);have ei := (b0.k0 cr);have ct : ((bk af :: bk aa :: (ad ++ [])) : Ob).Perm (ad ++ [bk af, bk aa]) := RP;obtain ⟨ej, ek, fi⟩ := Dp.own (L := (bk af :: bk aa :: (ad ++ []))) (O := O) eh ei cs ct (memi 1 Z);have el := (cs.odr eg ct 0 Z);obtain ⟨em, H⟩ := H;refine Yg Yz ek (G aa ab ac) r3 ([f] : List Feat) Z ej (G af ee ef) Z el.sx 1 Z em fun en ae ap aq fj fk cu eo => ?_;refine Xg (G ae ap aq) Z (Xb (Xc (Xd (Xe (G ae ap aq) Z ?_))));refine Zo go83 [G ae ap aq, .func (.func 84) #[] #[]] Z ((F6.calls en cu.ok ae ap aq (r3 ++ ([f] : List Feat)) eo 84 go84 F34.cf F34.hlt F34.cmp _ H).mono ?_);rintro _ ep ⟨m, rfl, H, eq, er⟩;have bc := cu.wr 1 Z eq;refine Xb (Xc (Xd (Xe (G ae ap aq) Z ?_)));have es := bc.gv er 1 Z;have et := bc.drop 1 Z;refine Xu go81 (F33.calls H et.ok es) Z ?_;rintro _ fl ⟨r6, an, b5, b6, a3, fm, rfl, H, cv, eu, cw, ev, ew⟩;have ex := Ok.unl (L := [bk af, bk ae]) (L' := [bk af]) (O := O) bc cv eu cw;have ey := Ow.unl (L := [bk af, bk ae]) (L' := [bk af]) (O := O) (fun _ _ _ _ _ _ h => h) (.cons_cons _ (.cons _ (.slnil))) ev;have cx := bc.owns cv ex cw;have cy : (((bk an :: (a3 ++ [])) ++ [bk af, bk ae]) : Ob).Perm (bk an :: bk af :: bk ae :: (a3 ++ [])) := RP;have ez := cx.perm cy;refine Xg (G an b5 b6) Z (Xg (vb true) Z (Xb (Xn ?_)));have e0 := (cx.spa ey cy);have e1 := ew;have e2 : ((bk an :: bk af :: bk ae :: (a3 ++ [])) : Ob).Perm (a3 ++ [bk an, bk af, bk ae]) := RP;obtain ⟨e3, cz, fn⟩ := Dp.own (L := (bk an :: bk af :: bk ae :: (a3 ++ []))) (O := O) e0 e1 ez e2 (memi 0 Z);have c0 := cz.drop 1 Z;have b7 := c0.drop 1 Z;have e4 := (c0.sd (cz.sd e3 0 1 Z Z Z) 0 1 Z Z Z);exact ⟨[G an b5 b6, vb true], ⟨_, Z, ⟨_, Z, Z⟩⟩, r6, true, an, b5, b6, Z, H, b7.gr.g0, b7.ok, b7.ge, e4⟩
section
open Go.Shelf Go.Sort Go.Lib
def F8.E (x : List Str) (Q : List Str → Prop) : Prop := x.length ≤ 268435456 ∧ Q (sortS x)
theorem F8.calls {O : Ob} (w0 : World) (hO : Ok w0 O) (A : Option Addr) (n c : Nat) (x : List Str) (hp : Ow Kd.str 9 w0 O (.slice A n c) x) (Q : List Str → Prop) (h : F8.E x Q) :
  Ret Tryz.prog 55 [.slice A n c] w0 (fun v w' => ∃ (m0 : List Str), v = .tuple #[] ∧ Q m0 ∧ Gr w0 w' (blk (.slice A n c)) ∧ Ow Kd.str 9 w' O (.slice A n c) m0) := by
 obtain ⟨hl, hq⟩ := h
 by_cases hx : 0 < x.length
 ·obtain ⟨g, rfl, rfl, hc, hg⟩ := hp.form hx
  refine Calls.mono (Tryz.slices_Sort_string g 0 c x w0 hp.holds hg OM) fun e w' ⟨he, q, os, hw⟩ => ?_
  subst he; subst hw
  have hs : (sortS x).length = x.length := List.length_mergeSort _
  obtain ⟨h1, h2⟩ := hp.putS (sortS x) hs (fun y hy => hp.lims y (List.mem_mergeSort.1 hy)) q os hx
  exact ⟨_, rfl, sortS x, rfl, hq, h1, h2⟩
 ·have e0 : x = [] := List.length_eq_zero_iff.1 OM
  subst e0
  obtain rfl : n = 0 := hp.len
  refine Calls.mono (Tryz.slices_Sort_string_none A c w0) fun e w' ⟨he, hw⟩ => ?_
  subst he; subst hw
  exact ⟨_, rfl, [], rfl, (by simpa [sortS] using hq), Gr.refl _ _, hp⟩
end
section
open Go.Shelf Go.Sort Go.Lib
def F1.E (x : List Str) (Q : List Str → Prop) : Prop := x.length ≤ 268435456 ∧ Q (Lib.compact x)
theorem F1.calls {O : Ob} (w0 : World) (hO : Ok w0 O) (A : Option Addr) (n c : Nat) (x : List Str) (hp : Ow Kd.str 9 w0 O (.slice A n c) x) (Q : List Str → Prop) (h : F1.E x Q) :
  Ret Tryz.prog 56 [.slice A n c] w0 (fun v w' => ∃ (m0 : List Str) (l : Nat), v = .slice A l c ∧ Q m0 ∧ Gr w0 w' (blk (.slice A n c)) ∧ Ow Kd.str 9 w' O (.slice A l c) m0) := by
 obtain ⟨hl, hq⟩ := h
 by_cases hx : 0 < x.length
 ·obtain ⟨g, rfl, rfl, hc, hg⟩ := hp.form hx
  refine Calls.mono (Tryz.slices_Compact_string g 0 c x w0 hp.holds OM hc) fun e w' ⟨he, q, hw⟩ => ?_
  have hcl := compact_le x
  rw [← grow_empty (putRow encStr (Sort.ahead w0 q) g 0 _)] at hw
  subst he; subst hw
  obtain ⟨h1, h2⟩ := hp.putS (Lib.compact x ++ List.replicate (x.length - (Lib.compact x).length) []) (by rw [List.length_append, List.length_replicate]; omega) (fun y hy => by
   rcases List.mem_append.1 hy with hy | hy
   ·exact hp.lims y (compact_mem hy)
   ·rw [List.eq_of_mem_replicate hy]; decide) q #[] hx
  have h3 := h2.cut (Lib.compact x).length (by rw [List.length_append]; omega)
  rw [List.take_left'] at h3
  ·exact ⟨_, rfl, Lib.compact x, _, rfl, hq, h1, h3⟩
  ·rfl
 ·have e0 : x = [] := List.length_eq_zero_iff.1 OM
  subst e0
  obtain rfl : n = 0 := hp.len
  refine Calls.mono (Tryz.slices_Compact_string_empty A c w0) fun e w' ⟨he, hw⟩ => ?_
  subst he; subst hw
  exact ⟨_, rfl, [], _, rfl, hq, Gr.refl _ _, hp⟩
end
def F131.E (maps : List (List Feat)) (Q : List Str → Prop) : Prop :=
 (∃ (I40 : (List Str) → Int → Prop) (mu41 : (List Str) → Int → Nat), I40 [] 0 ∧ ∀ (xs2 : List Str) (v2 : Int), I40 xs2 v2 → (if decide (v2 < (maps.length : Int)) then ((0 : Int) ≤ v2 ∧ v2 < (maps.length : Int)) ∧ (∃ (I90 : (List Str) → Int → Prop) (mu91 : (List Str) → Int → Nat), I90 xs2 0 ∧ ∀ (xs4 : List Str) (v4 : Int), I90 xs4 v4 → (if decide (v4 < ((nth maps v2).length : Int)) then ((0 : Int) ≤ v4 ∧ v4 < ((nth maps v2).length : Int)) ∧ (xs4.length + ([(nth (nth maps v2) v4).Id] : List Str).length ≤ 268435456) ∧ (I64 (v4 + 1)) ∧ I90 (xs4 ++ ([(nth (nth maps v2) v4).Id] : List Str)) (v4 + 1) ∧ mu91 (xs4 ++ ([(nth (nth maps v2) v4).Id] : List Str)) (v4 + 1) < mu91 xs4 v4 else (I64 (v2 + 1)) ∧ I40 xs4 (v2 + 1) ∧ mu41 xs4 (v2 + 1) < mu41 xs2 v2)) else F8.E xs2 (fun m => F1.E m (fun r => Q r))))
theorem F131.calls {maps : List (List Feat)} {A1 : Option Addr} {n2 c3 : Nat} {Q : List Str → Prop} (H : F131.E maps Q) (hO : Ok w0 O) (hp4 : Sl (Kd.sl kFeat) w0 (Fr O) (G A1 n2 c3) maps) :
  Ret Tryz.prog 59 [G A1 n2 c3] w0 (fun v w' => ∃ (r0 : List Str) (Aw0 : Option Addr) (nw0 cw0 : Nat), v = G Aw0 nw0 cw0 ∧ Q r0 ∧ Gk w0 w' [bk Aw0] O (Ow Kd.str 9 w' ([bk Aw0] ++ O) (G Aw0 nw0 cw0) r0)) := by
 unfold F131.E at H;have hc0 := Ct.init hO;refine X9 Tryz.func59 Z 32 Z [.tmp 2] Z Z ?_;refine Xc (Xd (Xg (G none 0 0) Z (Xb (Xc (Xd (Yb (kd := Kd.str) Y9 hc0 ([] : List Str) (cells := []) Z RF fun w6 A7 n8 c9 c0 hr11 am bw => ?_))))));refine Xg (G A7 n8 c9) Z (Xb (Xc (Xc (Xd (Xe (G A1 n2 c3) Z ?_)))));have c1 := (hp4.st am.st).le;refine Xa (Yc Tryz.underlying134 A1 n2 c3 (hp4.st am.st).len Z) (Xe (vi 0) Z (Xb (X8 ?_)));obtain ⟨bx, bz, an, H⟩ := H;refine Yj (α := (List Str) × (Option Addr) × Nat × Nat × Int) (fun (xs2, aa, ac, ab, v2) t aj => bx xs2 v2 ∧ Has t [(3, G aa ac ab), (9, G A1 n2 c3), (10, vi (maps.length : Int)), (11, vi v2)] ∧ Cw [] w0 aj [bk aa] O fun M => Sl (Kd.sl kFeat) aj (Fr M) (G A1 n2 c3) maps ∧ Ow Kd.str 9 aj M (G aa ac ab) xs2) (fun (xs2, _, _, _, v2) => bz xs2 v2) (([] : List Str), A7, n8, c9, 0) ⟨an, (X0 Z), am, (hp4.st am.st), bw⟩ ?_;rintro ⟨xs2, aa, ac, ab, v2⟩ _ aj ⟨an, b0, ao, ap, bc⟩;obtain ⟨c2, rfl⟩ := Has.ins b0;have H := H xs2 v2 an;refine Xc (Xd (Xa (X1 v2 (maps.length : Int) (decide (v2 < (maps.length : Int))) Z Z Z) (Xb (Xc ?_))));refine Xz (decide (v2 < (maps.length : Int))) Z (fun aq => ?_) (fun aq => ?_)
 ·have H := Xp H aq;refine Xx (Xc (X8 (Xc (Xd ?_))));obtain ⟨bd, H⟩ := H;obtain ⟨be, c4, b1, c5, b2, b3⟩ := ap.get default RD v2 bd;obtain ⟨ae, af, ag, rfl, ar⟩ := Kd.sl.op b2;refine Xa (X3 Tryz.underlying134 Ke A1 be n2 c3 ap.len v2 Z b1 Z bd) (Xa (Xo ag33 cL (be.add (v2.toNat * 1)) (G ae af ag) Z (b3 0 _ Z)) (Xg (G ae af ag) Z (Xb (Xc (Xd (Xe (G ae af ag) Z ?_))))));have c6 := ar.le;refine Xa (Yc u33_ ae af ag ar.len Z) (Xe (vi 0) Z (Xb (X8 ?_)));obtain ⟨b4, b5, au, H⟩ := H;refine Yj (α := (List Str) × (Option Addr) × Nat × Nat × Int) (fun (xs4, ad, ah, ai, v4) t ak => b4 xs4 v4 ∧ Has t [(3, G ad ah ai), (9, G A1 n2 c3), (10, vi (maps.length : Int)), (11, vi v2), (15, G ae af ag), (16, vi ((nth maps v2).length : Int)), (17, vi v4)] ∧ Cw [] w0 ak [bk ad] O fun M => Sl (Kd.sl kFeat) ak (Fr M) (G A1 n2 c3) maps ∧ Sl kFeat ak (Fr M) (G ae af ag) (nth maps v2) ∧ Ow Kd.str 9 ak M (G ad ah ai) xs4) (fun (xs4, _, _, _, v4) => b5 xs4 v4) (xs2, aa, ac, ab, 0) ⟨au, (X0 Z), ao, ap, ar, bc⟩ ?_;rintro ⟨xs4, ad, ah, ai, v4⟩ _ ak ⟨au, b6, av, bf, aw, bg⟩;obtain ⟨c7, rfl⟩ := Has.ins b6;have H := H xs4 v4 au;refine Xc (Xd (Xa (X1 v4 ((nth maps v2).length : Int) (decide (v4 < ((nth maps v2).length : Int))) Z Z Z) (Xb (Xc ?_))));refine Xz (decide (v4 < ((nth maps v2).length : Int))) Z (fun ax => ?_) (fun ax => ?_)
  ·have H := Xp H ax;refine Xx (Xc (X8 (Xc (Xd ?_))));obtain ⟨bh, H⟩ := H;obtain ⟨bi, c8, b7, da, b8, b9⟩ := aw.get default RD v4 bh;obtain ⟨ay, az, a0, a1, a2, a3, rfl, ca, db, dc⟩ := kFeat.op b8;refine Xa (X3 u33_ Y1 ae bi af ag aw.len v4 Z b7 Z bh) (Xa (Xv ag44 sz44 cL (bi.add (v4.toNat * 4)) [vs ((nth (nth maps v2) v4).Id), vi ((nth (nth maps v2) v4).Shape.Kind), G ay az a0, G a1 a2 a3] Z Z b9) (Yp [vs [], .int .i64 0, G none 0 0, G none 0 0] ze44 fun dd al a4 hu119 a5 cb => ?_));have a6 := av.own a5 (some al) (Yn a4 hu119);refine Ye [vs ((nth (nth maps v2) v4).Id), vi ((nth (nth maps v2) v4).Shape.Kind), G ay az a0, G a1 a2 a3] cb Z Z sz44 Z Z fun de a7 cc => ?_;have bj := a6.wr 0 Z a7;refine Xb (Xd (Xe (G ad ah ai) Z (Xa (Xj fa44_0 (Ad al 0) (Ad al 0) Z Z) (Xa (Xo ag9 cL (Ad al 0) (vs ((nth (nth maps v2) v4).Id)) Z (cc.cell Z)) (Yb (kd := Kd.str) Y9 bj ([(nth (nth maps v2) v4).Id] : List Str) (cells := [vs ((nth (nth maps v2) v4).Id)]) ⟨[vs ((nth (nth maps v2) v4).Id)], _, Z, ⟨Z, ca⟩, Z⟩ RF fun df cd ce cf bl hr132 cg ch => ?_)))));obtain ⟨ci, H⟩ := H;have cj := ((a6.sw (bg.so _ a5 (X4 a4)) 1 0 Z Z Z a7).so _ bl hr132);refine Yg Y9 cg (G ad ah ai) xs4 ([(nth (nth maps v2) v4).Id] : List Str) Z cj (G cd ce cf) Z ch.sx 2 Z ci fun dg bm bn bo dh bp a8 ck => ?_;refine Xg (G bm bn bo) Z (Xb (Xd ?_));obtain ⟨cl, H⟩ := H;refine Xa (Yd v4 1 Z Z cl) (Xe (vi (v4 + 1)) Z (Xb ?_));have a9 := a8.drop 0 Z;have cm := a9.drop 0 Z;obtain ⟨cn, co⟩ := H;have bq := av.stown _ a5 (X4 a4);have br := a6.stw 0 Z a7;have bs := bj.stown _ bl hr132;have bt := a8.std 0 Z;have bu := a9.std 0 Z;have cp := ((((((bf.st bq).st br).st bs).st bp).st bt).st bu);have cq := ((((((aw.st bq).st br).st bs).st bp).st bt).st bu);have cr := (a9.sd (a8.sd ck 2 0 Z Z Z) 1 0 Z Z Z);exact ⟨((xs4 ++ ([(nth (nth maps v2) v4).Id] : List Str)), bm, bn, bo, v4 + 1), co, cn, (X0 Z), cm, cp, cq, cr⟩
  have H := Xq H ax;refine Yh (xin_hit ?_);refine Xd ?_;obtain ⟨cs, H⟩ := H;refine Xa (Yd v2 1 Z Z cs) (Xe (vi (v2 + 1)) Z (Xb ?_));obtain ⟨ct, cu⟩ := H;exact ⟨(xs4, ad, ah, ai, v2 + 1), cu, ct, (X0 Z), av, bf, bg⟩
 have H := Xq H aq;refine Yh (xin_hit ?_);refine Xc (Xd (Xe (G aa ac ab) Z ?_));refine Zo go55 [G aa ac ab] Z ((F8.calls aj ao.ok aa ac ab xs2 bc _ H).mono ?_);rintro _ cv ⟨m, rfl, H, cw, cx⟩;have bv := ao.wr 0 Z cw;refine Xb (Xc (Xd (Xe (G aa ac ab) Z ?_)));refine Zo go56 [G aa ac ab] Z ((F1.calls cv bv.ok aa ac ab m cx _ H).mono ?_);rintro _ di ⟨r, ba, rfl, H, cy, cz⟩;have bb := bv.wr 0 Z cy;exact Xg (G aa ba ab) Z (Xb (Xn ⟨[G aa ba ab], ⟨_, Z, Z⟩, r, aa, ba, ab, Z, H, bb.gr.g0, bb.ok, bb.ge, cz⟩))
def F141.E (s : List Feat) (id : Str) (Q : Feat → Bool → Prop) : Prop :=
 F107.E s id (fun r => (if decide (r < 0) then Q (⟨[], (⟨0, []⟩ : Shape), []⟩ : Feat) false else ((0 : Int) ≤ r ∧ r < (s.length : Int)) ∧ F40.E (nth s r) (fun r2 => Q r2 true)))
theorem F141.calls {s : List Feat} {A1 : Option Addr} {n2 c3 : Nat} {id : Str} {Q : Feat → Bool → Prop} (H : F141.E s id Q) (hO : Ok w0 O) (hp4 : Sl kFeat w0 (Fr O) (G A1 n2 c3) s) (hs6 : Lim id) :
  Ret Tryz.prog 60 [G A1 n2 c3, vs id] w0 (fun v w' => ∃ (r0 : Feat) (r1 : Bool) (Aw0 : Option Addr) (nw0 cw0 : Nat) (Aw2 : Option Addr) (nw2 cw2 : Nat), v = .tuple #[.agg #[vs r0.Id, vi r0.Shape.Kind, G Aw0 nw0 cw0, G Aw2 nw2 cw2], vb r1] ∧ Q r0 r1 ∧ Gk w0 w' [bk Aw0, bk Aw2] O (Lim r0.Id ∧ Ow kPt 49 w' ([bk Aw0, bk Aw2] ++ O) (G Aw0 nw0 cw0) r0.Shape.Pts ∧ Ow kTag 93 w' ([bk Aw0, bk Aw2] ++ O) (G Aw2 nw2 cw2) r0.Tags)) := by
 unfold F141.E at H;have hc0 := Ct.init hO;refine X9 Tryz.func60 Z 18 Z [.cell 4 44, .tmp 5] Z Z ?_;refine Xc (Xd (Yp [vs [], .int .i64 0, G none 0 0, G none 0 0] ze44 fun w7 b8 a4 hu11 g9 az => ?_));have ak := hc0.own g9 (some b8) (Yn a4 hu11);refine Xg (vb false) Z (Xb (Xc (Xd (Xe (G A1 n2 c3) Z (Xe (vs id) Z ?_)))));refine Xu go82 (F107.calls H ak.ok (hp4.st ak.st) hs6) Z ?_;rintro _ a5 ⟨r, rfl, H, al⟩;have aa := ak.k0 al;refine Xg (vi r) Z (Xb (Xc (Xc (Xd (Xe (vi r) Z (Xa (X1 r 0 (decide (r < 0)) Z Z Z) (Xb ?_)))))));refine Xz (decide (r < 0)) Z (fun am => ?_) (fun am => ?_)
 ·have H := Xp H am;refine Xc (Xd (Xa (Yl (.agg #[vs [], vi 0, G none 0 0, G none 0 0]) RF) ?_));have a6 := (az.k0 al);refine Ye [vs [], vi 0, G none 0 0, G none 0 0] a6 Z Z sz44 Z Z fun a0 a7 a8 => ?_;have a9 := aa.wr 0 Z a7;refine Xg (vb false) Z (Xb (Xn ?_));have ba := a9.own (Gr.refl _ none) none (by simp);have bb : Ow kPt 49 a0 ([bk none, some b8] ++ O) (G none 0 0) [] := Ow.nil _ _ _ _;have ab := ba.own (Gr.refl _ none) none (by simp);have bc : Ow kTag 93 a0 ([bk none, bk none, some b8] ++ O) (G none 0 0) [] := Ow.nil _ _ _ _;have bd := a8;have be := ab.bgv bd 2 Z;have ac := ab.drop 2 Z;have an := ac.perm (.swap _ _ _);have bf := ac.stp (.swap _ _ _);have bg := (be.st bf);have bh := (ac.sp (ab.sd (bb.so none (Gr.refl _ none) (by simp)) 1 2 Z Z Z) (.swap _ _ _));have bi := (ac.sp (ab.sd bc 0 2 Z Z Z) (.swap _ _ _));exact ⟨[.agg #[vs [], vi 0, G none 0 0, G none 0 0], vb false], ⟨_, _, Z, bg.1.res Z ag44 sz44, ⟨_, Z, Z⟩⟩, (⟨([] : Str), (⟨0, ([] : List Pt)⟩ : Shape), ([] : List Tag)⟩ : Feat), false, none, 0, 0, none, 0, 0, Z, H, an.gr.g0, an.ok, an.ge, RD, bh, bi⟩
 have H := Xq H am;refine Xx (Xc (Xd (Xe (G A1 n2 c3) Z (Xe (vi r) Z ?_))));obtain ⟨a1, H⟩ := H;obtain ⟨a2, b1, bj, b2, bl, bm⟩ := (hp4.st aa.st).get default RD r a1;obtain ⟨ao, ap, aq, ar, au, av, rfl, bn, bo, bp⟩ := kFeat.op bl;refine Xa (X3 u33_ Y1 A1 a2 n2 c3 (hp4.st aa.st).len r Z bj Z a1) (Xa (Xv ag44 sz44 cL (a2.add (r.toNat * 4)) [vs ((nth s r).Id), vi ((nth s r).Shape.Kind), G ao ap aq, G ar au av] Z Z bm) ?_);refine Xu go77 (F40.calls H aa.ok bn bo bp) Z ?_;rintro _ b3 ⟨r2, ad, ae, af, ag, ah, ai, rfl, H, a3, bq, br, bs, bt, bu⟩;have aw := aa.owns a3 bq br;have bv := ((az.k0 al).k0 a3);refine Ye [vs r2.Id, vi r2.Shape.Kind, G ad ae af, G ag ah ai] bv Z Z sz44 Z Z fun b4 ax bw => ?_;have aj := aw.wr 2 Z ax;refine Xg (vb true) Z (Xb (Xn ?_));have bx := aj.bgv bw 2 Z;have ay := aj.drop 2 Z;have bz := (aj.sd (aw.sw bt 0 2 Z Z Z ax) 0 2 Z Z Z);have b0 := (aj.sd (aw.sw bu 1 2 Z Z Z ax) 1 2 Z Z Z);exact ⟨[.agg #[vs r2.Id, vi r2.Shape.Kind, G ad ae af, G ag ah ai], vb true], ⟨_, _, Z, bx.1.res Z ag44 sz44, ⟨_, Z, Z⟩⟩, r2, true, ad, ae, af, ag, ah, ai, Z, H, ay.gr.g0, ay.ok, ay.ge, bs, bz, b0⟩
def F23.E (s1 s2 : List Pt) (Q : Bool → Prop) : Prop :=
 (if (s1.length : Int) != (s2.length : Int) then Q false else (∃ (I32 : Int → Prop) (mu33 : Int → Nat), I32 0 ∧ ∀ (v2 : Int), I32 v2 → (if decide (v2 < (s1.length : Int)) then ((0 : Int) ≤ v2 ∧ v2 < (s1.length : Int)) ∧ ((0 : Int) ≤ v2 ∧ v2 < (s2.length : Int)) ∧ (if !(eqPt (nth s1 v2) (nth s2 v2)) then Q false else (I64 (v2 + 1)) ∧ I32 (v2 + 1) ∧ mu33 (v2 + 1) < mu33 v2) else Q true)))
theorem F23.calls {s1 : List Pt} {A1 : Option Addr} {n2 c3 : Nat} {s2 : List Pt} {A6 : Option Addr} {n7 c8 : Nat} {Q : Bool → Prop} (H : F23.E s1 s2 Q) (hO : Ok w0 O) (hp4 : Sl kPt w0 (Fr O) (G A1 n2 c3) s1) (hp9 : Sl kPt w0 (Fr O) (G A6 n7 c8) s2) :
  Ret Tryz.prog 118 [G A1 n2 c3, G A6 n7 c8] w0 (fun v w' => ∃ (r0 : Bool), v = vb r0 ∧ Q r0 ∧ Gr w0 w' none) := by
 unfold F23.E at H;have hc0 := Ct.init hO;refine X9 Tryz.func118 Z 26 Z [.tmp 4] Z Z ?_;refine Xc (Xd (Xg (vb false) Z (Xb (Xc (Xc (Xd (Xe (G A1 n2 c3) Z ?_)))))));have a3 := hp4.le;refine Xa (Yc u39_ A1 n2 c3 hp4.len Z) (Xe (G A6 n7 c8) Z ?_);have a4 := hp9.le;refine Xa (Yc u39_ A6 n7 c8 hp9.len Z) (Xa (X1 (s1.length : Int) (s2.length : Int) ((s1.length : Int) != (s2.length : Int)) Z Z Z) (Xb ?_));refine Xz ((s1.length : Int) != (s2.length : Int)) Z (fun ab => ?_) (fun ab => ?_)
 ·have H := Xp H ab;exact Xc (Xd (Xg (vb false) Z (Xb (Xn ⟨[vb false], ⟨_, Z, Z⟩, false, Z, H, hc0.gr.g0⟩))))
 have H := Xq H ab;refine Xx (Xc (Xc (Xd (Xe (G A1 n2 c3) Z (Xa (Yc u39_ A1 n2 c3 hp4.len Z) (Xe (vi 0) Z (Xb (X8 ?_))))))));obtain ⟨ap, aq, ac, H⟩ := H;refine Yj (α := Int) (fun (sv__ : Int) t aa => match sv__ with | v2 => ap v2 ∧ Has t [(0, G A1 n2 c3), (1, G A6 n7 c8), (12, vi (s1.length : Int)), (13, vi v2)] ∧ Cw [] w0 aa [] O fun M => Sl kPt aa (Fr M) (G A1 n2 c3) s1 ∧ Sl kPt aa (Fr M) (G A6 n7 c8) s2) (fun (sv__ : Int) => match sv__ with | v2 => aq v2) 0 ⟨ac, (X0 Z), hc0, hp4, hp9⟩ ?_;rintro v2 _ aa ⟨ac, ar, ad, ae, af⟩;obtain ⟨a5, rfl⟩ := Has.ins ar;have H := H v2 ac;refine Xc (Xd (Xa (X1 v2 (s1.length : Int) (decide (v2 < (s1.length : Int))) Z Z Z) (Xb (Xc ?_))));refine Xz (decide (v2 < (s1.length : Int))) Z (fun ag => ?_) (fun ag => ?_)
 ·have H := Xp H ag;refine Xx (Xc (X8 (Xc (Xd (Xe (vi v2) Z (Xg (vi v2) Z (Xb (Xc ?_))))))));refine Ys (fun x => Gr aa x none) RK RK (Gr.drew _) ?_;refine Xs (G A1 n2 c3) Z (Xs (vi v2) Z ?_);obtain ⟨ai, H⟩ := H;obtain ⟨aj, a6, au, a7, av, aw⟩ := ae.get default RD v2 ai;obtain rfl := kPt.op av;refine Xf (X3 u39_ Yx A1 aj n2 c3 ae.len v2 Z au Z ai) (Xf (Xv ag49 sz49 cQ (aj.add (v2.toNat * 2)) [vi ((nth s1 v2).X), vi ((nth s1 v2).Y)] Z Z aw) (Xs (G A6 n7 c8) Z (Xs (vi v2) Z ?_)));obtain ⟨ak, H⟩ := H;obtain ⟨al, a8, ax, a9, ay, az⟩ := af.get default RD v2 ak;obtain rfl := kPt.op ay;refine Xf (X3 u39_ Yx A6 al n7 c8 af.len v2 Z ax Z ak) (Xf (Xv ag49 sz49 cQ (al.add (v2.toNat * 2)) [vi ((nth s2 v2).X), vi ((nth s2 v2).Y)] Z Z az) (Xf (Ze _ _ (eqPt (nth s1 v2) (nth s2 v2)) (qt49 (nth s1 v2) (nth s2 v2)) Z Z) (Ya fun ba am => ?_)));have an := ad.k0 am;refine Xz (!(eqPt (nth s1 v2) (nth s2 v2))) Z (fun ah => ?_) (fun ah => ?_)
  ·have H := Xp H ah;exact Xc (Xd (Xg (vb false) Z (Xb (Xn ⟨[vb false], ⟨_, Z, Z⟩, false, Z, H, an.gr.g0⟩))))
  have H := Xq H ah;refine Xx (Xd ?_);obtain ⟨a0, H⟩ := H;refine Xa (Yd v2 1 Z Z a0) (Xe (vi (v2 + 1)) Z (Xb ?_));obtain ⟨a1, a2⟩ := H;have ao := ad.stn am;exact ⟨v2 + 1, a2, a1, (X0 Z), an, (ae.st ao), (af.st ao)⟩
 have H := Xq H ag;refine Yh (xin_hit ?_);exact Xc (Xd (Xg (vb true) Z (Xb (Xn ⟨[vb true], ⟨_, Z, Z⟩, true, Z, H, ad.gr.g0⟩))))
def F39.E (a b : Shape) (Q : Bool → Prop) : Prop :=
 (if a.Kind == b.Kind then F23.E a.Pts b.Pts (fun r => Q r) else Q false)
theorem F39.calls {a : Shape} {A1 : Option Addr} {n2 c3 : Nat} {b : Shape} {A6 : Option Addr} {n7 c8 : Nat} {Q : Bool → Prop} (H : F39.E a b Q) (hO : Ok w0 O) (hp4 : Sl kPt w0 (Fr O) (G A1 n2 c3) a.Pts) (hp9 : Sl kPt w0 (Fr O) (G A6 n7 c8) b.Pts) :
  Ret Tryz.prog 70 [.agg #[vi a.Kind, G A1 n2 c3], .agg #[vi b.Kind, G A6 n7 c8]] w0 (fun v w' => ∃ (r0 : Bool), v = vb r0 ∧ Q r0 ∧ Gr w0 w' none) := by
 unfold F39.E at H;have hc0 := Ct.init hO;refine X9 Tryz.func70 Z 17 Z [.tmp 4] Z Z ?_;refine Xc (Xd (Yo [vi a.Kind, G A1 n2 c3] Z fun au ab ai hu15 aj ak => ?_));have al := Fb.mk hc0.ok ai ak;have ae := hc0.k0 aj;refine Yo [vi b.Kind, G A6 n7 c8] Z fun am ac an hu24 af ao => ?_;have ag := Fb.mk ae.ok an ao;have ad := ae.k0 af;refine Xg (vb false) Z (Xb (Xc (Xd (Xa (Xj fa41_0 (Ad ab 0) (Ad ab 0) Z Z) ?_))));have ap := ae.stn af;have ah := (al.st ap);refine Xa (Xo ag3 cL (Ad ab 0) (vi a.Kind) Z (ah.cell Z)) (Xa (Xj fa41_0 (Ad ac 0) (Ad ac 0) Z Z) (Xa (Xo ag3 cL (Ad ac 0) (vi b.Kind) Z (ag.cell Z)) (Xa (X1 a.Kind b.Kind (a.Kind == b.Kind) Z Z Z) (Xe (vb (a.Kind == b.Kind)) Z ?_))));rcases X2 (a.Kind == b.Kind) with aa | aa
 ·have H := Xp H aa;refine Xh aa Z (Xa (Xj fa41_1 (Ad ab 0) (Ad ab 1) Z Z) (Xh aa Z (Xa (Xo ag39 cL (Ad ab 1) (G A1 n2 c3) Z (ah.cell Z)) (Xh aa Z (Xa (Xj fa41_1 (Ad ac 0) (Ad ac 1) Z Z) (Xh aa Z (Xa (Xo ag39 cL (Ad ac 1) (G A6 n7 c8) Z (ag.cell Z)) (Xh aa Z ?_))))))));refine Xu go118 (F23.calls H ad.ok (hp4.st ad.st) (hp9.st ad.st)) Z ?_;rintro _ av ⟨r, rfl, H, aq⟩;have ar := ad.k0 aq;exact Xa (Xk true (vb r) aa Z) (Xg (vb r) Z (Xb (Xn ⟨[vb r], ⟨_, Z, Z⟩, r, Z, H, ar.gr.g0⟩)))
 have H := Xq H aa;refine Xi aa Z (Xi aa Z (Xi aa Z (Xi aa Z (Xi aa Z (Xa (Xk false (vb false) aa Z) (Xg (vb false) Z (Xb (Xn ?_))))))));exact ⟨[vb false], ⟨_, Z, Z⟩, false, Z, H, ad.gr.g0⟩
def F18.E (s1 s2 : List Tag) (Q : Bool → Prop) : Prop :=
 (if (s1.length : Int) != (s2.length : Int) then Q false else (∃ (I32 : Int → Prop) (mu33 : Int → Nat), I32 0 ∧ ∀ (v2 : Int), I32 v2 → (if decide (v2 < (s1.length : Int)) then ((0 : Int) ≤ v2 ∧ v2 < (s1.length : Int)) ∧ ((0 : Int) ≤ v2 ∧ v2 < (s2.length : Int)) ∧ (if !(eqTag (nth s1 v2) (nth s2 v2)) then Q false else (I64 (v2 + 1)) ∧ I32 (v2 + 1) ∧ mu33 (v2 + 1) < mu33 v2) else Q true)))
theorem F18.calls {s1 : List Tag} {A1 : Option Addr} {n2 c3 : Nat} {s2 : List Tag} {A6 : Option Addr} {n7 c8 : Nat} {Q : Bool → Prop} (H : F18.E s1 s2 Q) (hO : Ok w0 O) (hp4 : Sl kTag w0 (Fr O) (G A1 n2 c3) s1) (hp9 : Sl kTag w0 (Fr O) (G A6 n7 c8) s2) :
  Ret Tryz.prog 79 [G A1 n2 c3, G A6 n7 c8] w0 (fun v w' => ∃ (r0 : Bool), v = vb r0 ∧ Q r0 ∧ Gr w0 w' none) := by
 unfold F18.E at H;have hc0 := Ct.init hO;refine X9 Tryz.func79 Z 26 Z [.tmp 4] Z Z ?_;refine Xc (Xd (Xg (vb false) Z (Xb (Xc (Xc (Xd (Xe (G A1 n2 c3) Z ?_)))))));have a3 := hp4.le;refine Xa (Yc u42_ A1 n2 c3 hp4.len Z) (Xe (G A6 n7 c8) Z ?_);have a4 := hp9.le;refine Xa (Yc u42_ A6 n7 c8 hp9.len Z) (Xa (X1 (s1.length : Int) (s2.length : Int) ((s1.length : Int) != (s2.length : Int)) Z Z Z) (Xb ?_));refine Xz ((s1.length : Int) != (s2.length : Int)) Z (fun ab => ?_) (fun ab => ?_)
 ·have H := Xp H ab;exact Xc (Xd (Xg (vb false) Z (Xb (Xn ⟨[vb false], ⟨_, Z, Z⟩, false, Z, H, hc0.gr.g0⟩))))
 have H := Xq H ab;refine Xx (Xc (Xc (Xd (Xe (G A1 n2 c3) Z (Xa (Yc u42_ A1 n2 c3 hp4.len Z) (Xe (vi 0) Z (Xb (X8 ?_))))))));obtain ⟨ap, aq, ac, H⟩ := H;refine Yj (α := Int) (fun (sv__ : Int) t aa => match sv__ with | v2 => ap v2 ∧ Has t [(0, G A1 n2 c3), (1, G A6 n7 c8), (12, vi (s1.length : Int)), (13, vi v2)] ∧ Cw [] w0 aa [] O fun M => Sl kTag aa (Fr M) (G A1 n2 c3) s1 ∧ Sl kTag aa (Fr M) (G A6 n7 c8) s2) (fun (sv__ : Int) => match sv__ with | v2 => aq v2) 0 ⟨ac, (X0 Z), hc0, hp4, hp9⟩ ?_;rintro v2 _ aa ⟨ac, ar, ad, ae, af⟩;obtain ⟨a5, rfl⟩ := Has.ins ar;have H := H v2 ac;refine Xc (Xd (Xa (X1 v2 (s1.length : Int) (decide (v2 < (s1.length : Int))) Z Z Z) (Xb (Xc ?_))));refine Xz (decide (v2 < (s1.length : Int))) Z (fun ag => ?_) (fun ag => ?_)
 ·have H := Xp H ag;refine Xx (Xc (X8 (Xc (Xd (Xe (vi v2) Z (Xg (vi v2) Z (Xb (Xc ?_))))))));refine Ys (fun x => Gr aa x none) RK RK (Gr.drew _) ?_;refine Xs (G A1 n2 c3) Z (Xs (vi v2) Z ?_);obtain ⟨ai, H⟩ := H;obtain ⟨aj, a6, au, a7, av, aw⟩ := ae.get default RD v2 ai;obtain ⟨rfl, a8, a9⟩ := kTag.op av;refine Xf (X3 u42_ Y5 A1 aj n2 c3 ae.len v2 Z au Z ai) (Xf (Xv ag93 sz93 cQ (aj.add (v2.toNat * 2)) [vs ((nth s1 v2).Key), vs ((nth s1 v2).Val)] Z Z aw) (Xs (G A6 n7 c8) Z (Xs (vi v2) Z ?_)));obtain ⟨ak, H⟩ := H;obtain ⟨al, ba, ax, bb, ay, az⟩ := af.get default RD v2 ak;obtain ⟨rfl, bc, bd⟩ := kTag.op ay;refine Xf (X3 u42_ Y5 A6 al n7 c8 af.len v2 Z ax Z ak) (Xf (Xv ag93 sz93 cQ (al.add (v2.toNat * 2)) [vs ((nth s2 v2).Key), vs ((nth s2 v2).Val)] Z Z az) (Xf (Ze _ _ (eqTag (nth s1 v2) (nth s2 v2)) (qt93 (nth s1 v2) (nth s2 v2)) Z Z) (Ya fun be am => ?_)));have an := ad.k0 am;refine Xz (!(eqTag (nth s1 v2) (nth s2 v2))) Z (fun ah => ?_) (fun ah => ?_)
  ·have H := Xp H ah;exact Xc (Xd (Xg (vb false) Z (Xb (Xn ⟨[vb false], ⟨_, Z, Z⟩, false, Z, H, an.gr.g0⟩))))
  have H := Xq H ah;refine Xx (Xd ?_);obtain ⟨a0, H⟩ := H;refine Xa (Yd v2 1 Z Z a0) (Xe (vi (v2 + 1)) Z (Xb ?_));obtain ⟨a1, a2⟩ := H;have ao := ad.stn am;exact ⟨v2 + 1, a2, a1, (X0 Z), an, (ae.st ao), (af.st ao)⟩
 have H := Xq H ag;refine Yh (xin_hit ?_);exact Xc (Xd (Xg (vb true) Z (Xb (Xn ⟨[vb true], ⟨_, Z, Z⟩, true, Z, H, ad.gr.g0⟩))))
def F46.E (a b : Feat) (Q : Bool → Prop) : Prop :=
 (if a.Id == b.Id then F39.E a.Shape b.Shape (fun r => (if r then F18.E a.Tags b.Tags (fun r2 => Q r2) else Q false)) else Q false)
theorem F46.calls {a : Feat} {A2 : Option Addr} {n3 c4 : Nat} {A7 : Option Addr} {n8 c9 : Nat} {b : Feat} {ae : Option Addr} {af ag : Nat} {ah : Option Addr} {ai aj : Nat} {Q : Bool → Prop} (H : F46.E a b Q) (hO : Ok w0 O) (hs1 : Lim a.Id) (hp5 : Sl kPt w0 (Fr O) (G A2 n3 c4) a.Shape.Pts) (au : Sl kTag w0 (Fr O) (G A7 n8 c9) a.Tags) (ba : Lim b.Id) (av : Sl kPt w0 (Fr O) (G ae af ag) b.Shape.Pts) (aw : Sl kTag w0 (Fr O) (G ah ai aj) b.Tags) :
  Ret Tryz.prog 28 [.agg #[vs a.Id, vi a.Shape.Kind, G A2 n3 c4, G A7 n8 c9], .agg #[vs b.Id, vi b.Shape.Kind, G ae af ag, G ah ai aj]] w0 (fun v w' => ∃ (r0 : Bool), v = vb r0 ∧ Q r0 ∧ Gr w0 w' none) := by
 unfold F46.E at H;have hc0 := Ct.init hO;refine X9 Tryz.func28 Z 24 Z [.tmp 4] Z Z ?_;refine Xc (Xd (Yo [vs a.Id, vi a.Shape.Kind, G A2 n3 c4, G A7 n8 c9] Z fun bb ac ax hu27 ay az => ?_));have a0 := Fb.mk hc0.ok ax az;have am := hc0.k0 ay;refine Yo [vs b.Id, vi b.Shape.Kind, G ae af ag, G ah ai aj] Z fun a1 ad a2 hu36 ap a3 => ?_;have an := Fb.mk am.ok a2 a3;have ak := am.k0 ap;refine Xg (vb false) Z (Xb (Xc (Xd (Xa (Xj fa44_0 (Ad ac 0) (Ad ac 0) Z Z) ?_))));have a4 := am.stn ap;have ao := (a0.st a4);refine Xa (Xo ag9 cL (Ad ac 0) (vs a.Id) Z (ao.cell Z)) (Xa (Xj fa44_0 (Ad ad 0) (Ad ad 0) Z Z) (Xa (Xo ag9 cL (Ad ad 0) (vs b.Id) Z (an.cell Z)) (Xa (Yi a.Id b.Id (a.Id == b.Id) Z Z Z) (Xe (vb (a.Id == b.Id)) Z ?_))));rcases X2 (a.Id == b.Id) with aa | aa
 ·have H := Xp H aa;refine Xh aa Z (Xa (Xj fa44_1 (Ad ac 0) (Ad ac 1) Z Z) (Xh aa Z (Xa (Xv ag41 sz41 cL (Ad ac 1) [vi a.Shape.Kind, G A2 n3 c4] Z Z (ao.cells (off := 1) Z)) (Xh aa Z (Xa (Xj fa44_1 (Ad ad 0) (Ad ad 1) Z Z) (Xh aa Z (Xa (Xv ag41 sz41 cL (Ad ad 1) [vi b.Shape.Kind, G ae af ag] Z Z (an.cells (off := 1) Z)) (Xh aa Z ?_))))))));refine Xu go70 (F39.calls H ak.ok (hp5.st ak.st) (av.st ak.st)) Z ?_;rintro _ a5 ⟨r, rfl, H, aq⟩;have al := ak.k0 aq;refine Xa (Xk true (vb r) aa Z) (Xe (vb r) Z ?_);rcases X2 r with ab | ab
  ·have H := Xp H ab;refine Xh ab Z (Xa (Xj fa44_2 (Ad ac 0) (Ad ac 3) Z Z) (Xh ab Z ?_));have ar := ak.stn aq;have a6 := (ao.st ar);refine Xa (Xo ag42 cL (Ad ac 3) (G A7 n8 c9) Z (a6.cell Z)) (Xh ab Z (Xa (Xj fa44_2 (Ad ad 0) (Ad ad 3) Z Z) (Xh ab Z ?_)));have a7 := (an.st ar);refine Xa (Xo ag42 cL (Ad ad 3) (G ah ai aj) Z (a7.cell Z)) (Xh ab Z ?_);refine Xu go79 (F18.calls H al.ok (au.st al.st) (aw.st al.st)) Z ?_;rintro _ bc ⟨r2, rfl, H, a8⟩;have a9 := al.k0 a8;exact Xa (Xk true (vb r2) ab Z) (Xg (vb r2) Z (Xb (Xn ⟨[vb r2], ⟨_, Z, Z⟩, r2, Z, H, a9.gr.g0⟩)))
  have H := Xq H ab;refine Xi ab Z (Xi ab Z (Xi ab Z (Xi ab Z (Xi ab Z (Xa (Xk false (vb false) ab Z) (Xg (vb false) Z (Xb (Xn ?_))))))));exact ⟨[vb false], ⟨_, Z, Z⟩, false, Z, H, al.gr.g0⟩
 have H := Xq H aa;refine Xi aa Z (Xi aa Z (Xi aa Z (Xi aa Z (Xi aa Z (Xa (Xk false (vb false) aa Z) (Xe (vb false) Z (X6 (dj := 17) Z Z (.inl Z) (X6 (dj := 17) Z Z (.inl Z) ?_))))))));exact X6 (dj := 17) Z Z (.inl Z) (X6 (dj := 17) Z Z (.inl Z) (X6 (dj := 17) Z Z (.inl Z) (Xa (Xk false (vb false) Z Z) (Xg (vb false) Z (Xb (Xn ⟨[vb false], ⟨_, Z, Z⟩, false, Z, H, ak.gr.g0⟩))))))
def F19.E (c_ : Change) (Q : Bool → Prop) : Prop :=
 (if c_.Had == c_.Has then F46.E c_.Was c_.Now (fun r => Q r) else Q false)
theorem F19.calls {c_ : Change} {A3 : Option Addr} {n4 c5 : Nat} {A8 : Option Addr} {n9 ad : Nat} {ae : Option Addr} {af ag : Nat} {ah : Option Addr} {ai aj : Nat} {Q : Bool → Prop} (H : F19.E c_ Q) (hO : Ok w0 O) (hs1 : Lim c_.Id) (hs2 : Lim c_.Was.Id) (hp6 : Sl kPt w0 (Fr O) (G A3 n4 c5) c_.Was.Shape.Pts) (al : Sl kTag w0 (Fr O) (G A8 n9 ad) c_.Was.Tags) (am : Lim c_.Now.Id) (an : Sl kPt w0 (Fr O) (G ae af ag) c_.Now.Shape.Pts) (ao : Sl kTag w0 (Fr O) (G ah ai aj) c_.Now.Tags) :
  Ret Tryz.prog 53 [.agg #[vs c_.Id, vb c_.Had, vs c_.Was.Id, vi c_.Was.Shape.Kind, G A3 n4 c5, G A8 n9 ad, vb c_.Has, vs c_.Now.Id, vi c_.Now.Shape.Kind, G ae af ag, G ah ai aj]] w0 (fun v w' => ∃ (r0 : Bool), v = vb r0 ∧ Q r0 ∧ Gr w0 w' none) := by
 unfold F19.E at H;have hc0 := Ct.init hO;refine X9 Tryz.func53 Z 15 Z [.tmp 2] Z Z ?_;refine Xc (Xd (Yo [vs c_.Id, vb c_.Had, vs c_.Was.Id, vi c_.Was.Shape.Kind, G A3 n4 c5, G A8 n9 ad, vb c_.Has, vs c_.Now.Id, vi c_.Now.Shape.Kind, G ae af ag, G ah ai aj] Z fun ap ab aq hu28 ar au => ?_));have ak := Fb.mk hc0.ok aq au;have ac := hc0.k0 ar;refine Xg (vb false) Z (Xb (Xc (Xd (Xa (Xj fa62_1 (Ad ab 0) (Ad ab 1) Z Z) (Xa (Xo ag4 cL (Ad ab 1) (vb c_.Had) Z (ak.cell Z)) (Xa (Xj fa62_3 (Ad ab 0) (Ad ab 6) Z Z) (Xa (Xo ag4 cL (Ad ab 6) (vb c_.Has) Z (ak.cell Z)) (Xa (Zp u4_ c_.Had c_.Has (c_.Had == c_.Has) Z Z Z) ?_))))))));refine Xe (vb (c_.Had == c_.Has)) Z ?_;rcases X2 (c_.Had == c_.Has) with aa | aa
 ·have H := Xp H aa;refine Xh aa Z (Xa (Xj fa62_2 (Ad ab 0) (Ad ab 2) Z Z) (Xh aa Z (Xa (Xv ag44 sz44 cL (Ad ab 2) [vs c_.Was.Id, vi c_.Was.Shape.Kind, G A3 n4 c5, G A8 n9 ad] Z Z (ak.cells (off := 2) Z)) (Xh aa Z (Xa (Xj fa62_4 (Ad ab 0) (Ad ab 7) Z Z) (Xh aa Z (Xa (Xv ag44 sz44 cL (Ad ab 7) [vs c_.Now.Id, vi c_.Now.Shape.Kind, G ae af ag, G ah ai aj] Z Z (ak.cells (off := 7) Z)) (Xh aa Z ?_))))))));refine Xu go28 (F46.calls H ac.ok hs2 (hp6.st ac.st) (al.st ac.st) am (an.st ac.st) (ao.st ac.st)) Z ?_;rintro _ ax ⟨r, rfl, H, av⟩;have aw := ac.k0 av;exact Xa (Xk true (vb r) aa Z) (Xg (vb r) Z (Xb (Xn ⟨[vb r], ⟨_, Z, Z⟩, r, Z, H, aw.gr.g0⟩)))
 have H := Xq H aa;refine Xi aa Z (Xi aa Z (Xi aa Z (Xi aa Z (Xi aa Z (Xa (Xk false (vb false) aa Z) (Xg (vb false) Z (Xb (Xn ?_))))))));exact ⟨[vb false], ⟨_, Z, Z⟩, false, Z, H, ac.gr.g0⟩
def F108.E (a b : List Feat) (Q : List Change → Prop) : Prop :=
 F74.E a (fun r => (if !r then Q [] else F74.E b (fun r2 => (if !r2 then Q [] else F131.E ([a, b] : List (List Feat)) (fun r3 => (∃ (I111 : (List Change) → Int → Prop) (mu112 : (List Change) → Int → Nat), I111 [] 0 ∧ ∀ (xs2 : List Change) (v2 : Int), I111 xs2 v2 → (if decide (v2 < (r3.length : Int)) then ((0 : Int) ≤ v2 ∧ v2 < (r3.length : Int)) ∧ F141.E a (nth r3 v2) (fun r4 r5 => F141.E b (nth r3 v2) (fun r6 r7 => F19.E (⟨(nth r3 v2), r5, r4, r7, r6⟩ : Change) (fun r8 => (if !r8 then (xs2.length + ([(⟨(nth r3 v2), r5, r4, r7, r6⟩ : Change)] : List Change).length ≤ 268435456) ∧ (I64 (v2 + 1)) ∧ I111 (xs2 ++ ([(⟨(nth r3 v2), r5, r4, r7, r6⟩ : Change)] : List Change)) (v2 + 1) ∧ mu112 (xs2 ++ ([(⟨(nth r3 v2), r5, r4, r7, r6⟩ : Change)] : List Change)) (v2 + 1) < mu112 xs2 v2 else (I64 (v2 + 1)) ∧ I111 xs2 (v2 + 1) ∧ mu112 xs2 (v2 + 1) < mu112 xs2 v2)))) else Q xs2)))))))
theorem F108.calls {a : List Feat} {A1 : Option Addr} {n2 c3 : Nat} {b : List Feat} {A6 : Option Addr} {n7 c8 : Nat} {Q : List Change → Prop} (H : F108.E a b Q) (hO : Ok w0 O) (hp4 : Sl kFeat w0 (Fr O) (G A1 n2 c3) a) (hp9 : Sl kFeat w0 (Fr O) (G A6 n7 c8) b) :
  Ret Tryz.prog 20 [G A1 n2 c3, G A6 n7 c8] w0 (fun v w' => ∃ (r0 : List Change) (Aw0 : Option Addr) (nw0 cw0 : Nat) (q0 : Ob) (ra0 : List (List Value)), v = G Aw0 nw0 cw0 ∧ Q r0 ∧ Gr w0 w' none ∧ Ok w' ((bk Aw0 :: (q0 ++ [])) ++ O) ∧ (∀ b, some b ∈ (bk Aw0 :: (q0 ++ [])) → w0.heap.size ≤ b) ∧ Ow (Kd.cells 11) 62 w' ((bk Aw0 :: (q0 ++ [])) ++ O) (G Aw0 nw0 cw0) ra0 ∧ DArr dChange_62 w' q0 r0 ra0) := by
 unfold F108.E at H;have hc0 := Ct.init hO;refine X9 Tryz.func20 Z 55 Z [.tmp 4] Z Z ?_;refine Xc (Xd (Xg (G none 0 0) Z (Xb (Xc (Xd ?_)))));have cd : DArr dChange_62 w0 ([] : Ob) ([] : List Change) ([] : List (List Value)) := Z;refine Yb (kd := Kd.cells 11) Zc hc0 ([] : List (List Value)) (cells := []) Z RF fun d4 aw a5 a6 ce hr16 bw cf => ?_;have bx : ([bk aw] : Ob).Perm (bk aw :: (([] : Ob) ++ [])) := RP;have cg := bw.perm bx;refine Xg (G aw a5 a6) Z (Xb (Xc (Xc (Xd (Xe (G A1 n2 c3) Z ?_)))));refine Xu go37 (F74.calls H cg.ok (hp4.st cg.st)) Z ?_;rintro _ d5 ⟨r, rfl, H, bf⟩;have bi := cg.k0 bf;refine Xa (X7 r Z) (Xe (vb (!r)) Z ?_);rcases X2 (!r) with a3 | a3
 ·have H := Xp H a3;refine Xi a3 Z (Xi a3 Z (Xi a3 Z (Xa (Xk true (vb true) a3 Z) (Xb (Yr (b := true) Z Z ?_)))));refine Xc (Xd (Xe (G aw a5 a6) Z (Xg (G aw a5 a6) Z (Xb (Xn ?_)))));have d6 := ((bw.sp cf bx).sn bf);have d7 := ((cd.k0 ce).k0 bf);exact ⟨[G aw a5 a6], ⟨_, Z, Z⟩, ([] : List Change), aw, a5, a6, ([] : Ob), ([] : List (List Value)), Z, H, bi.gr.g0, bi.ok, bi.ge, d6, d7⟩
 have H := Xq H a3;refine Xh a3 Z (Xe (G A6 n7 c8) Z (Xh a3 Z ?_));refine Xu go37 (F74.calls H bi.ok (hp9.st bi.st)) Z ?_;rintro _ gh ⟨r2, rfl, H, bo⟩;have bj := bi.k0 bo;refine Xh a3 Z (Xa (X7 r2 Z) (Xa (Xk false (vb (!r2)) a3 Z) (Xb ?_)));refine Xz (!r2) Z (fun ch => ?_) (fun ch => ?_)
 ·have H := Xp H ch;refine Xc (Xd (Xe (G aw a5 a6) Z (Xg (G aw a5 a6) Z (Xb (Xn ?_)))));have d8 := (((bw.sp cf bx).sn bf).sn bo);have d9 := (((cd.k0 ce).k0 bf).k0 bo);exact ⟨[G aw a5 a6], ⟨_, Z, Z⟩, ([] : List Change), aw, a5, a6, ([] : Ob), ([] : List (List Value)), Z, H, bj.gr.g0, bj.ok, bj.ge, d8, d9⟩
 have H := Xq H ch;refine Xx (Xc (Xc (Xd (Xe (G A1 n2 c3) Z (Xe (G A6 n7 c8) Z (Yb (kd := (Kd.sl kFeat)) Kc bj ([a, b] : List (List Feat)) (cells := [G A1 n2 c3, G A6 n7 c8]) ⟨[G A1 n2 c3], _, Z, ⟨_, Z, (hp4.st bj.st)⟩, ⟨[G A6 n7 c8], _, Z, ⟨_, Z, (hp9.st bj.st)⟩, Z⟩⟩ RF fun ea bz c4 c5 c6 hr46 b0 eb => ?_))))));have ec := b0.gv eb 0 Z;have ed := b0.drop 0 Z;refine Xu go59 (F131.calls H ed.ok ec) Z ?_;rintro _ gi ⟨r3, ah, b1, b2, rfl, H, b3, ee, ci, ef⟩;have eg := Ok.unl (L := (bk bz :: bk aw :: (([] : Ob) ++ []))) (L' := (bk aw :: (([] : Ob) ++ []))) (O := O) b0 b3 ee ci;have cj := Ow.unl (L := (bk bz :: bk aw :: (([] : Ob) ++ []))) (L' := (bk aw :: (([] : Ob) ++ []))) (O := O) (fun _ _ _ _ _ _ h => h) (.cons _ (.cons_cons _ (.append (.refl _) (.refl _)))) ef;have ck := b0.owns b3 eg ci;have gj := cj.le;refine Xa (Yc u50_ ah b1 b2 cj.len Z) (Xe (vi 0) Z (Xb (X8 ?_)));have cl := ck.drop 1 Z;obtain ⟨eh, ei, cm, H⟩ := H;have ej := (ck.sd (((((bw.sp cf bx).sn bf).sn bo).so _ c6 hr46).sos b3 ci) 2 1 Z Z Z);have ek := (((((cd.k0 ce).k0 bf).k0 bo).k0 c6).k0 b3);have el := (ck.sd cj 0 1 Z Z Z);refine Yj (α := (List Change) × (List (List Value)) × Ob × (Option Addr) × Nat × Nat × Int) (fun (xs2, ba, ag, af, a7, a8, v2) t bg => eh xs2 v2 ∧ Has t [(0, G A1 n2 c3), (1, G A6 n7 c8), (5, G af a7 a8), (22, G ah b1 b2), (23, vi (r3.length : Int)), (24, vi v2)] ∧ Cw [] w0 bg (bk ah :: bk af :: (ag ++ [])) O fun M => Sl kFeat bg (Fr M) (G A1 n2 c3) a ∧ Sl kFeat bg (Fr M) (G A6 n7 c8) b ∧ Ow (Kd.cells 11) 62 bg M (G af a7 a8) ba ∧ DArr dChange_62 bg ag xs2 ba ∧ Ow Kd.str 9 bg M (G ah b1 b2) r3) (fun (xs2, _, _, _, _, _, v2) => ei xs2 v2) (([] : List Change), ([] : List (List Value)), ([] : Ob), aw, a5, a6, 0) ⟨cm, (X0 Z), cl, (hp4.st cl.st), (hp9.st cl.st), ej, ek, el⟩ ?_;rintro ⟨xs2, ba, ag, af, a7, a8, v2⟩ _ bg ⟨cm, em, b4, en, eo, cn, co, b5⟩;obtain ⟨gk, rfl⟩ := Has.ins em;have H := H xs2 v2 cm;refine Xc (Xd (Xa (X1 v2 (r3.length : Int) (decide (v2 < (r3.length : Int))) Z Z Z) (Xb (Xc ?_))));refine Xz (decide (v2 < (r3.length : Int))) Z (fun cp => ?_) (fun cp => ?_)
 ·have H := Xp H cp;refine Xx (Xc (X8 (Xc (Xd ?_))));obtain ⟨c7, H⟩ := H;obtain ⟨c9, gl, ep, eq, er⟩ := b5.get default RD v2 c7;obtain ⟨rfl, b6⟩ := Kd.str.op eq;refine Xa (X3 u50_ Zg ah c9 b1 b2 b5.len v2 Z ep Z c7) (Xa (Xo ag9 cL (c9.add (v2.toNat * 1)) (vs (nth r3 v2)) Z (er 0 _ Z)) (Xg (vs (nth r3 v2)) Z (Xb (Xc (Xd (Xe (vs (nth r3 v2)) Z (Xa (Yl (.agg #[vs (nth r3 v2), vb false, vs [], vi 0, G none 0 0, G none 0 0, vb false, vs [], vi 0, G none 0 0, G none 0 0]) RF) (Yp [vs [], vb false, vs [], .int .i64 0, G none 0 0, G none 0 0, vb false, vs [], .int .i64 0, G none 0 0, G none 0 0] ze62 fun gm ae bl hu133 bb es => ?_))))))));have bc := b4.own bb (some ae) (Yn bl hu133);refine Ye [vs (nth r3 v2), vb false, vs [], vi 0, G none 0 0, G none 0 0, vb false, vs [], vi 0, G none 0 0, G none 0 0] es Z Z sz62 Z Z fun et bd eu => ?_;have cq := bc.wr 0 Z bd;refine Xb (Xc (Xd (Xe (G A1 n2 c3) Z (Xe (vs (nth r3 v2)) Z ?_))));have da := b4.stown _ bb (X4 bl);have db := bc.stw 0 Z bd;have cr := ((en.st da).st db);refine Xu go60 (F141.calls H cq.ok cr b6) Z ?_;rintro _ gn ⟨r4, r5, aa, ai, aj, ab, ak, al, rfl, H, a9, ev, bm, dc, dd, de⟩;have az := cq.owns a9 ev bm;refine Xe (.tuple #[.agg #[vs r4.Id, vi r4.Shape.Kind, G aa ai aj, G ab ak al], vb r5]) Z (Xa (Y7 [.agg #[vs r4.Id, vi r4.Shape.Kind, G aa ai aj, G ab ak al], vb r5] 0 (.agg #[vs r4.Id, vi r4.Shape.Kind, G aa ai aj, G ab ak al]) Z Z) (Xa (Y7 [.agg #[vs r4.Id, vi r4.Shape.Kind, G aa ai aj, G ab ak al], vb r5] 1 (vb r5) Z Z) (Xa (Xj fa62_2 (Ad ae 0) (Ad ae 2) Z Z) ?_)));have ew := (eu.k0 a9);refine Yw 2 [vs r4.Id, vi r4.Shape.Kind, G aa ai aj, G ab ak al] [vs (nth r3 v2), vb false, vs r4.Id, vi r4.Shape.Kind, G aa ai aj, G ab ak al, vb false, vs [], vi 0, G none 0 0, G none 0 0] ew Z Z sz44 Z Z Z fun gp a0 ex => ?_;have a1 := az.wr 2 Z a0;refine Xa (Xj fa62_1 (Ad ae 0) (Ad ae 1) Z Z) (Yw 1 [vb r5] [vs (nth r3 v2), vb r5, vs r4.Id, vi r4.Shape.Kind, G aa ai aj, G ab ak al, vb false, vs [], vi 0, G none 0 0, G none 0 0] ex Z Z sz4 Z Z Z fun ey a2 ez => ?_);have b7 := a1.wr 2 Z a2;refine Xb (Xc (Xd (Xe (G A6 n7 c8) Z (Xe (vs (nth r3 v2)) Z ?_))));have cs := cq.stos a9 bm;have ct := az.stw 2 Z a0;have cu := a1.stw 2 Z a2;have cv := (((((eo.st da).st db).st cs).st ct).st cu);refine Xu go60 (F141.calls H b7.ok cv b6) Z ?_;rintro _ gq ⟨r6, r7, ac, am, an, ad, ao, ap, rfl, H, ax, e0, a4, df, dg, dh⟩;have aq := b7.owns ax e0 a4;refine Xe (.tuple #[.agg #[vs r6.Id, vi r6.Shape.Kind, G ac am an, G ad ao ap], vb r7]) Z (Xa (Y7 [.agg #[vs r6.Id, vi r6.Shape.Kind, G ac am an, G ad ao ap], vb r7] 0 (.agg #[vs r6.Id, vi r6.Shape.Kind, G ac am an, G ad ao ap]) Z Z) (Xa (Y7 [.agg #[vs r6.Id, vi r6.Shape.Kind, G ac am an, G ad ao ap], vb r7] 1 (vb r7) Z Z) (Xa (Xj fa62_4 (Ad ae 0) (Ad ae 7) Z Z) ?_)));have e1 := (ez.k0 ax);refine Yw 7 [vs r6.Id, vi r6.Shape.Kind, G ac am an, G ad ao ap] [vs (nth r3 v2), vb r5, vs r4.Id, vi r4.Shape.Kind, G aa ai aj, G ab ak al, vb false, vs r6.Id, vi r6.Shape.Kind, G ac am an, G ad ao ap] e1 Z Z sz44 Z Z Z fun gs ar e2 => ?_;have au := aq.wr 4 Z ar;refine Xa (Xj fa62_3 (Ad ae 0) (Ad ae 6) Z Z) (Yw 6 [vb r7] [vs (nth r3 v2), vb r5, vs r4.Id, vi r4.Shape.Kind, G aa ai aj, G ab ak al, vb r7, vs r6.Id, vi r6.Shape.Kind, G ac am an, G ad ao ap] e2 Z Z sz4 Z Z Z fun di av dj => ?_);have be := au.wr 4 Z av;refine Xb (Xc (Xd (Xa (Xv ag62 sz62 cL (Ad ae 0) [vs (nth r3 v2), vb r5, vs r4.Id, vi r4.Shape.Kind, G aa ai aj, G ab ak al, vb r7, vs r6.Id, vi r6.Shape.Kind, G ac am an, G ad ao ap] Z Z (dj.cells (off := 00) Z)) ?_)));have e3 := (au.sw (aq.sw ((a1.sw (az.sw dd 0 2 Z Z Z a0) 0 2 Z Z Z a2).sos ax a4) 2 4 Z Z Z ar) 2 4 Z Z Z av);have e4 := be.gv e3 2 Z;have bp := be.drop 2 Z;have e5 := (be.sd (au.sw (aq.sw ((a1.sw (az.sw de 1 2 Z Z Z a0) 1 2 Z Z Z a2).sos ax a4) 3 4 Z Z Z ar) 3 4 Z Z Z av) 3 2 Z Z Z);have e6 := bp.gv e5 2 Z;have b8 : Ct [] w0 di (bk ac :: bk ad :: some ae :: bk ah :: bk af :: (ag ++ [])) O := bp.drop 2 Z;have e7 := (bp.sd (be.sd (au.sw (aq.sw dg 0 4 Z Z Z ar) 0 4 Z Z Z av) 0 2 Z Z Z) 0 2 Z Z Z);have e8 := b8.gv e7 0 Z;have cw := b8.drop 0 Z;have e9 := (b8.sd (bp.sd (be.sd (au.sw (aq.sw dh 1 4 Z Z Z ar) 1 4 Z Z Z av) 1 2 Z Z Z) 1 2 Z Z Z) 1 0 Z Z Z);have fa := cw.gv e9 0 Z;have fb := cw.drop 0 Z;have fc := bp.std 2 Z;have dk := b8.std 0 Z;have cx := cw.std 0 Z;have fd := (((e4.st fc).st dk).st cx);have fe := ((e6.st dk).st cx);refine Xu go53 (F19.calls H fb.ok b6 dc fd fe df (e8.st cx) fa) Z ?_;rintro _ dl ⟨r8, rfl, H, ay⟩;have bq := be.k0 ay;refine Xa (X7 r8 Z) (Xb ?_);refine Xz (!r8) Z (fun cy => ?_) (fun cy => ?_)
  ·have H := Xp H cy;refine Xd (Xe (G af a7 a8) Z ?_);have ff := (dj.k0 ay);refine Xa (Xv ag62 sz62 cL (Ad ae 0) [vs (nth r3 v2), vb r5, vs r4.Id, vi r4.Shape.Kind, G aa ai aj, G ab ak al, vb r7, vs r6.Id, vi r6.Shape.Kind, G ac am an, G ad ao ap] Z Z (ff.cells (off := 00) Z)) ?_;have fg := ((au.sw (aq.sw ((a1.sw (az.sw dd 0 2 Z Z Z a0) 0 2 Z Z Z a2).sos ax a4) 2 4 Z Z Z ar) 2 4 Z Z Z av).sn ay);have fh := ((au.sw (aq.sw ((a1.sw (az.sw de 1 2 Z Z Z a0) 1 2 Z Z Z a2).sos ax a4) 3 4 Z Z Z ar) 3 4 Z Z Z av).sn ay);have fi := ((au.sw (aq.sw dg 0 4 Z Z Z ar) 0 4 Z Z Z av).sn ay);have fj := ((au.sw (aq.sw dh 1 4 Z Z Z ar) 1 4 Z Z Z av).sn ay);have dm : (dChange_62).D dl ([] ++ ([] ++ (([] ++ (([] ++ [bk aa]) ++ [bk ab])) ++ ([] ++ ([] ++ (([] ++ [bk ac]) ++ [bk ad])))))) (⟨(nth r3 v2), r5, r4, r7, r6⟩ : Change) [vs (nth r3 v2), vb r5, vs r4.Id, vi r4.Shape.Kind, G aa ai aj, G ab ak al, vb r7, vs r6.Id, vi r6.Shape.Kind, G ac am an, G ad ao ap] := (dChange_62.mk _ (⟨(nth r3 v2), r5, r4, r7, r6⟩ : Change) b6 dc (Ds.ofOw kPt_flat fg) (Ds.ofOw kTag_flat fh) df (Ds.ofOw kPt_flat fi) (Ds.ofOw kTag_flat fj));have fk : DArr dChange_62 dl (([] ++ ([] ++ (([] ++ (([] ++ [bk aa]) ++ [bk ab])) ++ ([] ++ ([] ++ (([] ++ [bk ac]) ++ [bk ad])))))) ++ []) ([(⟨(nth r3 v2), r5, r4, r7, r6⟩ : Change)] : List Change) ([[vs (nth r3 v2), vb r5, vs r4.Id, vi r4.Shape.Kind, G aa ai aj, G ab ak al, vb r7, vs r6.Id, vi r6.Shape.Kind, G ac am an, G ad ao ap]] : List (List Value)) := ⟨_, _, Z, dm, Z⟩;refine Yb (kd := Kd.cells 11) Zc bq ([[vs (nth r3 v2), vb r5, vs r4.Id, vi r4.Shape.Kind, G aa ai aj, G ab ak al, vb r7, vs r6.Id, vi r6.Shape.Kind, G ac am an, G ad ao ap]] : List (List Value)) (cells := [vs (nth r3 v2), vb r5, vs r4.Id, vi r4.Shape.Kind, G aa ai aj, G ab ak al, vb r7, vs r6.Id, vi r6.Shape.Kind, G ac am an, G ad ao ap]) ⟨[vs (nth r3 v2), vb r5, vs r4.Id, vi r4.Shape.Kind, G aa ai aj, G ab ak al, vb r7, vs r6.Id, vi r6.Shape.Kind, G ac am an, G ad ao ap], _, Z, Dd.raw _ dm, Z⟩ RF fun gt bh fl fm br hr239 bs fn => ?_;have bt : ((bk bh :: bk ac :: bk ad :: bk aa :: bk ab :: some ae :: bk ah :: bk af :: (ag ++ [])) : Ob).Perm (bk bh :: some ae :: bk ah :: bk af :: (ag ++ ((([] ++ ([] ++ (([] ++ (([] ++ [bk aa]) ++ [bk ab])) ++ ([] ++ ([] ++ (([] ++ [bk ac]) ++ [bk ad])))))) ++ []) ++ []))) := RP;have b9 := bs.perm bt;obtain ⟨fo, H⟩ := H;have fp := (bs.sp (((au.sw (aq.sw ((a1.sw (az.sw ((bc.sw (cn.so _ bb (X4 bl)) 2 0 Z Z Z bd).sos a9 bm) 4 2 Z Z Z a0) 4 2 Z Z Z a2).sos ax a4) 6 4 Z Z Z ar) 6 4 Z Z Z av).sn ay).so _ br hr239) bt);have fq := (bs.sp fn bt);have dn := (((DArr.sm (L := (bk ac :: bk ad :: bk aa :: bk ab :: some ae :: bk ah :: bk af :: (ag ++ []))) (O := O) (i := 4) (DArr.sm (L := (bk ac :: bk ad :: bk aa :: bk ab :: some ae :: bk ah :: bk af :: (ag ++ []))) (O := O) (i := 4) ((DArr.sm (L := (bk aa :: bk ab :: some ae :: bk ah :: bk af :: (ag ++ []))) (O := O) (i := 2) (DArr.sm (L := (bk aa :: bk ab :: some ae :: bk ah :: bk af :: (ag ++ []))) (O := O) (i := 2) ((DArr.sm (L := (some ae :: bk ah :: bk af :: (ag ++ []))) (O := O) (i := 0) (co.k0 bb) bc Z (fun b hb => (mcm (mcm (List.mem_append_left _ hb)))) bd).k0 a9) az Z (fun b hb => (mcm (mcm (List.mem_append_left _ hb)))) a0) a1 Z (fun b hb => (mcm (mcm (List.mem_append_left _ hb)))) a2).k0 ax) aq Z (fun b hb => (mcm (mcm (List.mem_append_left _ hb)))) ar) au Z (fun b hb => (mcm (mcm (List.mem_append_left _ hb)))) av).k0 ay).k0 br);have dp := (fk.k0 br);have fr : ba.length + ([[vs (nth r3 v2), vb r5, vs r4.Id, vi r4.Shape.Kind, G aa ai aj, G ab ak al, vb r7, vs r6.Id, vi r6.Shape.Kind, G ac am an, G ad ao ap]] : List (List Value)).length ≤ 268435456 := by rw [dn.len, dp.len]; exact fo
   refine Yg (kd := Kd.cells 11) Zc b9 (G af a7 a8) ba ([[vs (nth r3 v2), vb r5, vs r4.Id, vi r4.Shape.Kind, G aa ai aj, G ab ak al, vb r7, vs r6.Id, vi r6.Shape.Kind, G ac am an, G ad ao ap]] : List (List Value)) Z fp (G bh fl fm) Z fq.sx 3 Z fr fun gu bn dq dr cz c0 c1 fs => ?_;have ft := (DArr.sm (L := (bk bh :: some ae :: bk ah :: bk af :: (ag ++ ((([] ++ ([] ++ (([] ++ (([] ++ [bk aa]) ++ [bk ab])) ++ ([] ++ ([] ++ (([] ++ [bk ac]) ++ [bk ad])))))) ++ []) ++ [])))) (O := O) (i := 3) dn b9 Z (fun b hb => (List.mem_append_left _ hb)) cz);have fu := (DArr.sm (L := (bk bh :: some ae :: bk ah :: bk af :: (ag ++ ((([] ++ ([] ++ (([] ++ (([] ++ [bk aa]) ++ [bk ab])) ++ ([] ++ ([] ++ (([] ++ [bk ac]) ++ [bk ad])))))) ++ []) ++ [])))) (O := O) (i := 3) dp b9 Z (fun b hb => (List.mem_append_right _ (List.mem_append_left _ hb))) cz);have fv := DArr.app ft fu;have bu : ((bk bh :: some ae :: bk ah :: bk bn :: (ag ++ ((([] ++ ([] ++ (([] ++ (([] ++ [bk aa]) ++ [bk ab])) ++ ([] ++ ([] ++ (([] ++ [bk ac]) ++ [bk ad])))))) ++ []) ++ []))) : Ob).Perm ((bk bh :: []) ++ (some ae :: bk ah :: bk bn :: (ag ++ ((([] ++ ([] ++ (([] ++ (([] ++ [bk aa]) ++ [bk ab])) ++ ([] ++ ([] ++ (([] ++ [bk ac]) ++ [bk ad])))))) ++ []) ++ [])))) := RP;have ca := c1.drops bu;have cb : ((some ae :: bk ah :: bk bn :: (ag ++ ((([] ++ ([] ++ (([] ++ (([] ++ [bk aa]) ++ [bk ab])) ++ ([] ++ ([] ++ (([] ++ [bk ac]) ++ [bk ad])))))) ++ []) ++ []))) : Ob).Perm (some ae :: bk ah :: bk bn :: ((ag ++ (([] ++ ([] ++ (([] ++ (([] ++ [bk aa]) ++ [bk ab])) ++ ([] ++ ([] ++ (([] ++ [bk ac]) ++ [bk ad])))))) ++ [])) ++ [])) := RP;have cc := ca.perm cb;refine Xg (G bn dq dr) Z (Xb (Xd ?_));obtain ⟨fw, H⟩ := H;refine Xa (Yd v2 1 Z Z fw) (Xe (vi (v2 + 1)) Z (Xb ?_));have fx := cc.drop 0 Z;obtain ⟨fy, fz⟩ := H;have ds := b7.stos ax a4;have dt := aq.stw 4 Z ar;have du := au.stw 4 Z av;have dv := be.stn ay;have dw := bq.stown _ br hr239;have dx := bs.stp bt;have dy := ca.stp cb;have dz := cc.std 0 Z;have f0 := (((((((((((((cr.st cs).st ct).st cu).st ds).st dt).st du).st dv).st dw).st dx).st c0).st (St.drops _ O bu)).st dy).st dz);have f1 := ((((((((((cv.st ds).st dt).st du).st dv).st dw).st dx).st c0).st (St.drops _ O bu)).st dy).st dz);have f2 := (cc.sd (ca.sp (c1.odr fs bu 2 Z) cb) 2 0 Z Z Z);have f3 := fv;have f4 := (cc.sd (ca.sp (c1.odr (b9.sm (bs.sp (((au.sw (aq.sw ((a1.sw (az.sw ((bc.sw (b5.so _ bb (X4 bl)) 1 0 Z Z Z bd).sos a9 bm) 3 2 Z Z Z a0) 3 2 Z Z Z a2).sos ax a4) 5 4 Z Z Z ar) 5 4 Z Z Z av).sn ay).so _ br hr239) bt) 2 3 Z Z Z cz c0) bu 1 Z) cb) 1 0 Z Z Z);exact ⟨((xs2 ++ ([(⟨(nth r3 v2), r5, r4, r7, r6⟩ : Change)] : List Change)), (ba ++ ([[vs (nth r3 v2), vb r5, vs r4.Id, vi r4.Shape.Kind, G aa ai aj, G ab ak al, vb r7, vs r6.Id, vi r6.Shape.Kind, G ac am an, G ad ao ap]] : List (List Value))), (ag ++ (([] ++ ([] ++ (([] ++ (([] ++ [bk aa]) ++ [bk ab])) ++ ([] ++ ([] ++ (([] ++ [bk ac]) ++ [bk ad])))))) ++ [])), bn, dq, dr, v2 + 1), fz, fy, (X0 Z), fx, f0, f1, f2, f3, f4⟩
  have H := Xq H cy;refine Xx ?_;have bv : ((bk ac :: bk ad :: bk aa :: bk ab :: some ae :: bk ah :: bk af :: (ag ++ [])) : Ob).Perm ((bk ac :: bk ad :: bk aa :: bk ab :: some ae :: []) ++ (bk ah :: bk af :: (ag ++ []))) := RP;have f5 := bq.drops bv;refine Xd ?_;obtain ⟨f6, H⟩ := H;refine Xa (Yd v2 1 Z Z f6) (Xe (vi (v2 + 1)) Z (Xb ?_));obtain ⟨f7, f8⟩ := H;have d0 := b7.stos ax a4;have d1 := aq.stw 4 Z ar;have d2 := au.stw 4 Z av;have d3 := be.stn ay;have f9 := ((((((((cr.st cs).st ct).st cu).st d0).st d1).st d2).st d3).st (St.drops _ O bv));have ga := (((((cv.st d0).st d1).st d2).st d3).st (St.drops _ O bv));have gb := (bq.odr ((au.sw (aq.sw ((a1.sw (az.sw ((bc.sw (cn.so _ bb (X4 bl)) 2 0 Z Z Z bd).sos a9 bm) 4 2 Z Z Z a0) 4 2 Z Z Z a2).sos ax a4) 6 4 Z Z Z ar) 6 4 Z Z Z av).sn ay) bv 1 Z);have gc := ((DArr.sm (L := (bk ac :: bk ad :: bk aa :: bk ab :: some ae :: bk ah :: bk af :: (ag ++ []))) (O := O) (i := 4) (DArr.sm (L := (bk ac :: bk ad :: bk aa :: bk ab :: some ae :: bk ah :: bk af :: (ag ++ []))) (O := O) (i := 4) ((DArr.sm (L := (bk aa :: bk ab :: some ae :: bk ah :: bk af :: (ag ++ []))) (O := O) (i := 2) (DArr.sm (L := (bk aa :: bk ab :: some ae :: bk ah :: bk af :: (ag ++ []))) (O := O) (i := 2) ((DArr.sm (L := (some ae :: bk ah :: bk af :: (ag ++ []))) (O := O) (i := 0) (co.k0 bb) bc Z (fun b hb => (mcm (mcm (List.mem_append_left _ hb)))) bd).k0 a9) az Z (fun b hb => (mcm (mcm (List.mem_append_left _ hb)))) a0) a1 Z (fun b hb => (mcm (mcm (List.mem_append_left _ hb)))) a2).k0 ax) aq Z (fun b hb => (mcm (mcm (List.mem_append_left _ hb)))) ar) au Z (fun b hb => (mcm (mcm (List.mem_append_left _ hb)))) av).k0 ay);have gd := (bq.odr ((au.sw (aq.sw ((a1.sw (az.sw ((bc.sw (b5.so _ bb (X4 bl)) 1 0 Z Z Z bd).sos a9 bm) 3 2 Z Z Z a0) 3 2 Z Z Z a2).sos ax a4) 5 4 Z Z Z ar) 5 4 Z Z Z av).sn ay) bv 0 Z);exact ⟨(xs2, ba, ag, af, a7, a8, v2 + 1), f8, f7, (X0 Z), f5, f9, ga, gb, gc, gd⟩
 have H := Xq H cp;refine Yh (xin_hit ?_);refine Xc (Xd (Xe (G af a7 a8) Z (Xg (G af a7 a8) Z (Xb (Xn ?_)))));have c2 := b4.drop 0 Z;have gf := (b4.sd cn 1 0 Z Z Z);have gg := co;exact ⟨[G af a7 a8], ⟨_, Z, Z⟩, xs2, af, a7, a8, ag, ba, Z, H, c2.gr.g0, c2.ok, c2.ge, gf, gg⟩
def F97.E (f : Feat) (Q : Bool → Prop) : Prop :=
 (if f.Id == ([] : Str) then (if f.Shape.Kind == 0 then (if (f.Shape.Pts.length : Int) == 0 then Q ((f.Tags.length : Int) == 0) else Q false) else Q false) else Q false)
theorem F97.calls {f : Feat} {A2 : Option Addr} {n3 c4 : Nat} {A7 : Option Addr} {n8 c9 : Nat} {Q : Bool → Prop} (H : F97.E f Q) (hO : Ok w0 O) (hs1 : Lim f.Id) (hp5 : Sl kPt w0 (Fr O) (G A2 n3 c4) f.Shape.Pts) (ag : Sl kTag w0 (Fr O) (G A7 n8 c9) f.Tags) :
  Ret Tryz.prog 107 [.agg #[vs f.Id, vi f.Shape.Kind, G A2 n3 c4, G A7 n8 c9]] w0 (fun v w' => ∃ (r0 : Bool), v = vb r0 ∧ Q r0 ∧ Gr w0 w' none) := by
 unfold F97.E at H;have hc0 := Ct.init hO;refine X9 Tryz.func107 Z 25 Z [.tmp 2] Z Z ?_;refine Xc (Xd (Yo [vs f.Id, vi f.Shape.Kind, G A2 n3 c4, G A7 n8 c9] Z fun ak aa ah hu16 ai aj => ?_));have af := Fb.mk hc0.ok ah aj;have ae := hc0.k0 ai;refine Xg (vb false) Z (Xb (Xc (Xd (Xa (Xj fa44_0 (Ad aa 0) (Ad aa 0) Z Z) (Xa (Xo ag9 cL (Ad aa 0) (vs f.Id) Z (af.cell Z)) (Xa (Yi f.Id ([] : Str) (f.Id == ([] : Str)) Z Z Z) (Xe (vb (f.Id == ([] : Str))) Z ?_)))))));rcases X2 (f.Id == ([] : Str)) with ac | ac
 ·have H := Xp H ac;refine Xh ac Z (Xa (Xj fa44_1 (Ad aa 0) (Ad aa 1) Z Z) (Xh ac Z (Xa (Xj fa41_0 (Ad aa 1) (Ad aa 1) Z Z) (Xh ac Z (Xa (Xo ag3 cL (Ad aa 1) (vi f.Shape.Kind) Z (af.cell Z)) (Xh ac Z (Xa (X1 f.Shape.Kind 0 (f.Shape.Kind == 0) Z Z Z) (Xa (Xk true (vb (f.Shape.Kind == 0)) ac Z) ?_))))))));refine Xe (vb (f.Shape.Kind == 0)) Z ?_;rcases X2 (f.Shape.Kind == 0) with ab | ab
  ·have H := Xp H ab;refine Xh ab Z (Xa (Xj fa44_1 (Ad aa 0) (Ad aa 1) Z Z) (Xh ab Z (Xa (Xj fa41_1 (Ad aa 1) (Ad aa 2) Z Z) (Xh ab Z (Xa (Xo ag39 cL (Ad aa 2) (G A2 n3 c4) Z (af.cell Z)) (Xh ab Z ?_))))));have al := (hp5.st ae.st).le;refine Xa (Yc u39_ A2 n3 c4 (hp5.st ae.st).len Z) (Xh ab Z (Xa (X1 (f.Shape.Pts.length : Int) 0 ((f.Shape.Pts.length : Int) == 0) Z Z Z) (Xa (Xk true (vb ((f.Shape.Pts.length : Int) == 0)) ab Z) (Xe (vb ((f.Shape.Pts.length : Int) == 0)) Z ?_))));rcases X2 ((f.Shape.Pts.length : Int) == 0) with ad | ad
   ·have H := Xp H ad;refine Xh ad Z (Xa (Xj fa44_2 (Ad aa 0) (Ad aa 3) Z Z) (Xh ad Z (Xa (Xo ag42 cL (Ad aa 3) (G A7 n8 c9) Z (af.cell Z)) (Xh ad Z ?_))));have am := (ag.st ae.st).le;exact Xa (Yc u42_ A7 n8 c9 (ag.st ae.st).len Z) (Xh ad Z (Xa (X1 (f.Tags.length : Int) 0 ((f.Tags.length : Int) == 0) Z Z Z) (Xa (Xk true (vb ((f.Tags.length : Int) == 0)) ad Z) (Xg (vb ((f.Tags.length : Int) == 0)) Z (Xb (Xn ⟨[vb ((f.Tags.length : Int) == 0)], ⟨_, Z, Z⟩, (f.Tags.length : Int) == 0, Z, H, ae.gr.g0⟩))))))
   have H := Xq H ad;exact Xi ad Z (Xi ad Z (Xi ad Z (Xi ad Z (Xa (Xk false (vb false) ad Z) (Xg (vb false) Z (Xb (Xn ⟨[vb false], ⟨_, Z, Z⟩, false, Z, H, ae.gr.g0⟩)))))))
  have H := Xq H ab;refine Xi ab Z (Xi ab Z (Xi ab Z (Xi ab Z (Xi ab Z (Xa (Xk false (vb false) ab Z) (Xe (vb false) Z (X6 (dj := 19) Z Z (.inl Z) (X6 (dj := 19) Z Z (.inl Z) ?_))))))));exact X6 (dj := 19) Z Z (.inl Z) (X6 (dj := 19) Z Z (.inl Z) (Xa (Xk false (vb false) Z Z) (Xg (vb false) Z (Xb (Xn ⟨[vb false], ⟨_, Z, Z⟩, false, Z, H, ae.gr.g0⟩)))))
 have H := Xq H ac;refine Xi ac Z (Xi ac Z (Xi ac Z (Xi ac Z (Xa (Xk false (vb false) ac Z) (Xe (vb false) Z (X6 (dj := 12) Z Z (.inl Z) (X6 (dj := 12) Z Z (.inl Z) (X6 (dj := 12) Z Z (.inl Z) ?_))))))));refine X6 (dj := 12) Z Z (.inl Z) (X6 (dj := 12) Z Z (.inl Z) (Xa (Xk false (vb false) Z Z) (Xe (vb false) Z (X6 (dj := 19) Z Z (.inl Z) (X6 (dj := 19) Z Z (.inl Z) (X6 (dj := 19) Z Z (.inl Z) (X6 (dj := 19) Z Z (.inl Z) (Xa (Xk false (vb false) Z Z) ?_))))))));exact Xg (vb false) Z (Xb (Xn ⟨[vb false], ⟨_, Z, Z⟩, false, Z, H, ae.gr.g0⟩))
def F99.E (id : Str) (has : Bool) (f : Feat) (Q : Bool → Prop) : Prop :=
 (if !has then F97.E f (fun r => Q r) else F98.E f (fun r2 => (if r2 then Q (f.Id == id) else Q false)))
theorem F99.calls {id : Str} {has : Bool} {f : Feat} {A3 : Option Addr} {n4 c5 : Nat} {A8 : Option Addr} {n9 ab : Nat} {Q : Bool → Prop} (H : F99.E id has f Q) (hO : Ok w0 O) (hs1 : Lim id) (hs2 : Lim f.Id) (hp6 : Sl kPt w0 (Fr O) (G A3 n4 c5) f.Shape.Pts) (ag : Sl kTag w0 (Fr O) (G A8 n9 ab) f.Tags) :
  Ret Tryz.prog 52 [vs id, vb has, .agg #[vs f.Id, vi f.Shape.Kind, G A3 n4 c5, G A8 n9 ab]] w0 (fun v w' => ∃ (r0 : Bool), v = vb r0 ∧ Q r0 ∧ Gr w0 w' none) := by
 unfold F99.E at H;have hc0 := Ct.init hO;refine X9 Tryz.func52 Z 19 Z [.tmp 6] Z Z ?_;refine Xc (Xd (Yo [vs f.Id, vi f.Shape.Kind, G A3 n4 c5, G A8 n9 ab] Z fun ah ad ak hu17 al am => ?_));have ae := Fb.mk hc0.ok ak am;have ac := hc0.k0 al;refine Xg (vb false) Z (Xb (Xc (Xc (Xd (Xe (vb has) Z (Xa (X7 has Z) (Xb ?_)))))));refine Xz (!has) Z (fun af => ?_) (fun af => ?_)
 ·have H := Xp H af;refine Xc (Xd (Xa (Xv ag44 sz44 cL (Ad ad 0) [vs f.Id, vi f.Shape.Kind, G A3 n4 c5, G A8 n9 ab] Z Z (ae.cells (off := 00) Z)) ?_));refine Xu go107 (F97.calls H ac.ok hs2 (hp6.st ac.st) (ag.st ac.st)) Z ?_;rintro _ ar ⟨r, rfl, H, an⟩;have ao := ac.k0 an;exact Xg (vb r) Z (Xb (Xn ⟨[vb r], ⟨_, Z, Z⟩, r, Z, H, ao.gr.g0⟩))
 have H := Xq H af;refine Xx (Xc (Xd (Xa (Xv ag44 sz44 cL (Ad ad 0) [vs f.Id, vi f.Shape.Kind, G A3 n4 c5, G A8 n9 ab] Z Z (ae.cells (off := 00) Z)) ?_)));refine Xu go25 (F98.calls H ac.ok hs2 (hp6.st ac.st) (ag.st ac.st)) Z ?_;rintro _ au ⟨r2, rfl, H, ai⟩;have aj := ac.k0 ai;refine Xe (vb r2) Z ?_;rcases X2 r2 with aa | aa
 ·have H := Xp H aa;refine Xh aa Z (Xa (Xj fa44_0 (Ad ad 0) (Ad ad 0) Z Z) (Xh aa Z ?_));have ap := ac.stn ai;have aq := (ae.st ap);refine Xa (Xo ag9 cL (Ad ad 0) (vs f.Id) Z (aq.cell Z)) (Xh aa Z (Xe (vs id) Z (Xh aa Z (Xa (Yi f.Id id (f.Id == id) Z Z Z) (Xa (Xk true (vb (f.Id == id)) aa Z) (Xg (vb (f.Id == id)) Z (Xb (Xn ?_))))))));exact ⟨[vb (f.Id == id)], ⟨_, Z, Z⟩, f.Id == id, Z, H, aj.gr.g0⟩
 have H := Xq H aa;exact Xi aa Z (Xi aa Z (Xi aa Z (Xi aa Z (Xa (Xk false (vb false) aa Z) (Xg (vb false) Z (Xb (Xn ⟨[vb false], ⟨_, Z, Z⟩, false, Z, H, aj.gr.g0⟩)))))))
end Go.Proofs.YtlaaehjcooonfaaGreatDoor