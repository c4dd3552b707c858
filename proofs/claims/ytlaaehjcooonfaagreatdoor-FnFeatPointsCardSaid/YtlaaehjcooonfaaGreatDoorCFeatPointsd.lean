/- It is proved here that the law FnFeatPoints of the given program holds whatever it is handed: the walks through the code, the plain laws and the row, in this order.
   Conditions: none. -/
import Derived.Below
import Derived.ChangeArms
import Derived.ChangeOld
import Derived.ChangeSlices
import Derived.ChangeVars
import Derived.DataReads
import Derived.Deep.Quiet
import Derived.KernelRfl
import Derived.LaidHandle
import Derived.LaidLaws
import Derived.LaidMore
import Derived.Laws.Build
import Derived.Laws.IdiomStrings
import Derived.Laws.OwnMore
import Derived.Laws.Slices
import Derived.Laws.StructEq
import Derived.Lib.ItoaNum
import Derived.Lib.LaidTab
import Derived.MakeChecks
import Derived.OpenShut
import Derived.OpenVars
import Derived.ProofKit
import Derived.SevenTiedAt
import Derived.Shelf.LaysM
import Derived.Shelf.Slices.Cells
import Derived.Shelf.Slices.CompactS
import Derived.Shelf.Slices.In.SortNone
import Derived.Shelf.Small.Bits
import Derived.Shelf.Sort.Plain
import Derived.Shelf.Strconv.Itoa0
import Derived.Shelf.Strconv.Itoa1
import Derived.Shelf.Strconv.Itoa2
import Derived.Shelf.Strconv.Itoa3
import Derived.ShutString
import Derived.SizedLaws
import Derived.StillTail
import Derived.Stop.Joined
import Derived.Test.YtlaaehjcooonfaaGreatDoorCards
import Derived.Test.YtlaaehjcooonfaaGreatDoorProg
import Derived.Test.YtlaaehjcooonfaaGreatDoorRows
import Derived.Test.YtlaaehjcooonfaaGreatDoorTie
import Derived.WalkKit
import Derived.Test.YtlaaehjcooonfaaGreatDoorCFeatPointsa
import Derived.Test.YtlaaehjcooonfaaGreatDoorCFeatPointsb
import Derived.Test.YtlaaehjcooonfaaGreatDoorCFeatPointsc
namespace Go.Proofs.YtlaaehjcooonfaaGreatDoor
set_option linter.unusedVariables false
set_option linter.unusedSimpArgs false
set_option linter.unusedSectionVars false
set_option maxHeartbeats 8000000
set_option maxRecDepth 100000
open Go.RowKit
variable {O : Ob} {w0 : World}
def F61.E (base_ a b : Feat) (Q : Feat → List Str → Prop) : Prop :=
 F87.E base_ (fun r => (if !r then Q (⟨[], (⟨0, []⟩ : Shape), []⟩ : Feat) [] else F87.E a (fun r2 => (if !r2 then Q (⟨[], (⟨0, []⟩ : Shape), []⟩ : Feat) [] else F87.E b (fun r3 => (if !r3 then Q (⟨[], (⟨0, []⟩ : Shape), []⟩ : Feat) [] else (if a.Id != base_.Id then Q (⟨[], (⟨0, []⟩ : Shape), []⟩ : Feat) [] else (if b.Id != base_.Id then Q (⟨[], (⟨0, []⟩ : Shape), []⟩ : Feat) [] else F114.E base_ a b (fun r4 r5 => Q r4 r5)))))))))
theorem F61.calls {base_ : Feat} {A2 : Option Addr} {n3 c4 : Nat} {A7 : Option Addr} {n8 c9 : Nat} {a : Feat} {ag : Option Addr} {ah ai : Nat} {aj : Option Addr} {ak al : Nat} {b : Feat} {am : Option Addr} {an ao : Nat} {ap : Option Addr} {aq ar : Nat} {Q : Feat → List Str → Prop} (H : F61.E base_ a b Q) (hO : Ok w0 O) (hs1 : Lim base_.Id) (hp5 : Sl kPt w0 (Fr O) (G A2 n3 c4) base_.Shape.Pts) (cl : Sl kTag w0 (Fr O) (G A7 n8 c9) base_.Tags) (cm : Lim a.Id) (cn : Sl kPt w0 (Fr O) (G ag ah ai) a.Shape.Pts) (co : Sl kTag w0 (Fr O) (G aj ak al) a.Tags) (cp : Lim b.Id) (cq : Sl kPt w0 (Fr O) (G am an ao) b.Shape.Pts) (cr : Sl kTag w0 (Fr O) (G ap aq ar) b.Tags) :
  Ret Tryz.prog 27 [.agg #[vs base_.Id, vi base_.Shape.Kind, G A2 n3 c4, G A7 n8 c9], .agg #[vs a.Id, vi a.Shape.Kind, G ag ah ai, G aj ak al], .agg #[vs b.Id, vi b.Shape.Kind, G am an ao, G ap aq ar]] w0 (fun v w' => ∃ (r0 : Feat) (r1 : List Str) (Aw0 : Option Addr) (nw0 cw0 : Nat) (Aw2 : Option Addr) (nw2 cw2 : Nat) (Aw4 : Option Addr) (nw4 cw4 : Nat), v = .tuple #[.agg #[vs r0.Id, vi r0.Shape.Kind, G Aw0 nw0 cw0, G Aw2 nw2 cw2], G Aw4 nw4 cw4] ∧ Q r0 r1 ∧ Gk w0 w' [bk Aw0, bk Aw2, bk Aw4] O (Lim r0.Id ∧ Ow kPt 49 w' ([bk Aw0, bk Aw2, bk Aw4] ++ O) (G Aw0 nw0 cw0) r0.Shape.Pts ∧ Ow kTag 93 w' ([bk Aw0, bk Aw2, bk Aw4] ++ O) (G Aw2 nw2 cw2) r0.Tags ∧ Ow Kd.str 9 w' ([bk Aw0, bk Aw2, bk Aw4] ++ O) (G Aw4 nw4 cw4) r1)) := by
 unfold F61.E at H;have hc0 := Ct.init hO;refine Yd Tryz.func27 Z 43 Z [.cell 6 44, .tmp 7] Z Z ?_;refine Xc (Xd (Yk [vs base_.Id, vi base_.Shape.Kind, G A2 n3 c4, G A7 n8 c9] Z fun gi au dm hu38 dn dp => ?_));have dq := Fb.mk hc0.ok dm dp;have bw := hc0.k0 dn;refine Yk [vs a.Id, vi a.Shape.Kind, G ag ah ai, G aj ak al] Z fun gj ba dr hu47 cs ds => ?_;have dt := Fb.mk bw.ok dr ds;have bx := bw.k0 cs;refine Yk [vs b.Id, vi b.Shape.Kind, G am an ao, G ap aq ar] Z fun gk bb du hu56 ct dv => ?_;have dw := Fb.mk bx.ok du dv;have cu := bx.k0 ct;refine Ya [vs [], .int .i64 0, G none 0 0, G none 0 0] ze44 fun dx aa cv hu65 cw a3 => ?_;have bc := cu.own cw (some aa) (X9 cv hu65);refine Xf (G none 0 0) Z (Xb (Xc (Xc (Xd ?_))));have dy := bw.stn cs;have cx := bx.stn ct;have bz := cu.stown _ cw (Xg cv);have cy := (((dq.st dy).st cx).st bz);refine Xa (Xr ag44 sz44 cL (Ad au 0) [vs base_.Id, vi base_.Shape.Kind, G A2 n3 c4, G A7 n8 c9] Z Z (cy.cells (off := 00) Z)) ?_;refine Xs go24 (F87.calls H bc.ok hs1 (hp5.st bc.st) (cl.st bc.st)) Z ?_;rintro _ dz ⟨r, rfl, H, av⟩;have a4 := bc.k0 av;refine Xa (Yr r Z) (Xe (vb (!r)) Z ?_);rcases Yb (!r) with ad | ad
 ·have H := Xi H ad;refine Xn ad Z (Xn ad Z (Xn ad Z (Xa (Xv true (vb true) ad Z) (Xe (vb true) Z (X2 (dj := 16) Z Z (.inl Z) (X2 (dj := 16) Z Z (.inl Z) (X2 (dj := 16) Z Z (.inl Z) (Xa (Xv true (vb true) Z Z) ?_))))))));refine Xe (vb true) Z (X2 (dj := 21) Z Z (.inl Z) (X2 (dj := 21) Z Z (.inl Z) (X2 (dj := 21) Z Z (.inl Z) (X2 (dj := 21) Z Z (.inl Z) (X2 (dj := 21) Z Z (.inl Z) (Xa (Xv true (vb true) Z Z) (Xe (vb true) Z (X2 (dj := 28) Z Z (.inl Z) ?_))))))));refine X2 (dj := 28) Z Z (.inl Z) (X2 (dj := 28) Z Z (.inl Z) (X2 (dj := 28) Z Z (.inl Z) (X2 (dj := 28) Z Z (.inl Z) (Xa (Xv true (vb true) Z Z) (Xb (Yp (b := true) Z Z ?_))))));refine Xc (Xd (Xa (Yi (.agg #[vs [], vi 0, G none 0 0, G none 0 0]) RF) (X7 (kd := Kd.str) Yu a4 ([] : List Str) (cells := []) Z RF fun gl bd b0 b1 d0 hr85 cz d1 => ?_)));have d2 := ((a3.k0 av).k0 d0);refine Xw [vs [], vi 0, G none 0 0, G none 0 0] d2 Z Z sz44 Z Z fun c0 c1 d3 => ?_;have d4 := cz.wr 1 Z c1;refine Xf (G bd b0 b1) Z (Xb (Xk ?_));have d5 := d4.own (Gr.refl _ none) none (by simp);have d6 : Ow kPt 49 c0 ([bk none, bk bd, some aa] ++ O) (G none 0 0) [] := Ow.nil _ _ _ _;have be := d5.own (Gr.refl _ none) none (by simp);have d7 : Ow kTag 93 c0 ([bk none, bk none, bk bd, some aa] ++ O) (G none 0 0) [] := Ow.nil _ _ _ _;have d8 := d3;have d9 := be.bgv d8 3 Z;have bf := be.drop 3 Z;have b2 := bf.perm (.swap _ _ _);have ea := bf.stp (.swap _ _ _);have eb := (d9.st ea);have ec := (bf.sp (be.sd (d6.so none (Gr.refl _ none) (by simp)) 1 3 Z Z Z) (.swap _ _ _));have ed := (bf.sp (be.sd d7 0 3 Z Z Z) (.swap _ _ _));have ee := (bf.sp (be.sd (((cz.sw d1 0 1 Z Z Z c1).so none (Gr.refl _ none) (by simp)).so none (Gr.refl _ none) (by simp)) 2 3 Z Z Z) (.swap _ _ _));exact ⟨[.agg #[vs [], vi 0, G none 0 0, G none 0 0], G bd b0 b1], ⟨_, _, Z, eb.1.res Z ag44 sz44, ⟨_, Z, Z⟩⟩, (⟨([] : Str), (⟨0, ([] : List Pt)⟩ : Shape), ([] : List Tag)⟩ : Feat), ([] : List Str), none, 0, 0, none, 0, 0, bd, b0, b1, Z, H, b2.gr.g0, b2.ok, b2.ge, RD, ec, ed, ee⟩
 have H := Xj H ad;refine Xl ad Z ?_;have b3 := bc.stn av;have c2 := (((dt.st cx).st bz).st b3);refine Xa (Xr ag44 sz44 cL (Ad ba 0) [vs a.Id, vi a.Shape.Kind, G ag ah ai, G aj ak al] Z Z (c2.cells (off := 00) Z)) (Xl ad Z ?_);refine Xs go24 (F87.calls H a4.ok cm (cn.st a4.st) (co.st a4.st)) Z ?_;rintro _ ef ⟨r2, rfl, H, aw⟩;have a5 := a4.k0 aw;refine Xl ad Z (Xa (Yr r2 Z) (Xa (Xv false (vb (!r2)) ad Z) (Xe (vb (!r2)) Z ?_)));rcases Yb (!r2) with ae | ae
 ·have H := Xi H ae;refine Xn ae Z (Xn ae Z (Xn ae Z (Xa (Xv true (vb true) ae Z) (Xe (vb true) Z (X2 (dj := 21) Z Z (.inl Z) (X2 (dj := 21) Z Z (.inl Z) (X2 (dj := 21) Z Z (.inl Z) (X2 (dj := 21) Z Z (.inl Z) ?_))))))));refine X2 (dj := 21) Z Z (.inl Z) (Xa (Xv true (vb true) Z Z) (Xe (vb true) Z (X2 (dj := 28) Z Z (.inl Z) (X2 (dj := 28) Z Z (.inl Z) (X2 (dj := 28) Z Z (.inl Z) (X2 (dj := 28) Z Z (.inl Z) (X2 (dj := 28) Z Z (.inl Z) (Xa (Xv true (vb true) Z Z) ?_))))))));refine Xb (Yp (b := true) Z Z ?_);refine Xc (Xd (Xa (Yi (.agg #[vs [], vi 0, G none 0 0, G none 0 0]) RF) (X7 (kd := Kd.str) Yu a5 ([] : List Str) (cells := []) Z RF fun gm bg b4 b5 eg hr123 c3 eh => ?_)));have ei := (((a3.k0 av).k0 aw).k0 eg);refine Xw [vs [], vi 0, G none 0 0, G none 0 0] ei Z Z sz44 Z Z fun c5 c6 ej => ?_;have ek := c3.wr 1 Z c6;refine Xf (G bg b4 b5) Z (Xb (Xk ?_));have el := ek.own (Gr.refl _ none) none (by simp);have em : Ow kPt 49 c5 ([bk none, bk bg, some aa] ++ O) (G none 0 0) [] := Ow.nil _ _ _ _;have bh := el.own (Gr.refl _ none) none (by simp);have en : Ow kTag 93 c5 ([bk none, bk none, bk bg, some aa] ++ O) (G none 0 0) [] := Ow.nil _ _ _ _;have eo := ej;have ep := bh.bgv eo 3 Z;have bi := bh.drop 3 Z;have b6 := bi.perm (.swap _ _ _);have eq := bi.stp (.swap _ _ _);have er := (ep.st eq);have es := (bi.sp (bh.sd (em.so none (Gr.refl _ none) (by simp)) 1 3 Z Z Z) (.swap _ _ _));have et := (bi.sp (bh.sd en 0 3 Z Z Z) (.swap _ _ _));have eu := (bi.sp (bh.sd (((c3.sw eh 0 1 Z Z Z c6).so none (Gr.refl _ none) (by simp)).so none (Gr.refl _ none) (by simp)) 2 3 Z Z Z) (.swap _ _ _));exact ⟨[.agg #[vs [], vi 0, G none 0 0, G none 0 0], G bg b4 b5], ⟨_, _, Z, er.1.res Z ag44 sz44, ⟨_, Z, Z⟩⟩, (⟨([] : Str), (⟨0, ([] : List Pt)⟩ : Shape), ([] : List Tag)⟩ : Feat), ([] : List Str), none, 0, 0, none, 0, 0, bg, b4, b5, Z, H, b6.gr.g0, b6.ok, b6.ge, RD, es, et, eu⟩
 have H := Xj H ae;refine Xl ae Z ?_;have b7 := a4.stn aw;have c7 := (((dw.st bz).st b3).st b7);refine Xa (Xr ag44 sz44 cL (Ad bb 0) [vs b.Id, vi b.Shape.Kind, G am an ao, G ap aq ar] Z Z (c7.cells (off := 00) Z)) (Xl ae Z ?_);refine Xs go24 (F87.calls H a5.ok cp (cq.st a5.st) (cr.st a5.st)) Z ?_;rintro _ ev ⟨r3, rfl, H, a6⟩;have af := a5.k0 a6;refine Xl ae Z (Xa (Yr r3 Z) (Xa (Xv false (vb (!r3)) ae Z) (Xe (vb (!r3)) Z ?_)));rcases Yb (!r3) with ab | ab
 ·have H := Xi H ab;refine Xn ab Z (Xn ab Z (Xn ab Z (Xn ab Z (Xn ab Z (Xa (Xv true (vb true) ab Z) (Xe (vb true) Z (X2 (dj := 28) Z Z (.inl Z) (X2 (dj := 28) Z Z (.inl Z) ?_))))))));refine X2 (dj := 28) Z Z (.inl Z) (X2 (dj := 28) Z Z (.inl Z) (X2 (dj := 28) Z Z (.inl Z) (Xa (Xv true (vb true) Z Z) (Xb (Yp (b := true) Z Z ?_)))));refine Xc (Xd (Xa (Yi (.agg #[vs [], vi 0, G none 0 0, G none 0 0]) RF) (X7 (kd := Kd.str) Yu af ([] : List Str) (cells := []) Z RF fun gn bj b8 b9 ew hr161 c8 ex => ?_)));have ey := ((((a3.k0 av).k0 aw).k0 a6).k0 ew);refine Xw [vs [], vi 0, G none 0 0, G none 0 0] ey Z Z sz44 Z Z fun da db ez => ?_;have e0 := c8.wr 1 Z db;refine Xf (G bj b8 b9) Z (Xb (Xk ?_));have e1 := e0.own (Gr.refl _ none) none (by simp);have e2 : Ow kPt 49 da ([bk none, bk bj, some aa] ++ O) (G none 0 0) [] := Ow.nil _ _ _ _;have bl := e1.own (Gr.refl _ none) none (by simp);have e3 : Ow kTag 93 da ([bk none, bk none, bk bj, some aa] ++ O) (G none 0 0) [] := Ow.nil _ _ _ _;have e4 := ez;have e5 := bl.bgv e4 3 Z;have bm := bl.drop 3 Z;have ca := bm.perm (.swap _ _ _);have e6 := bm.stp (.swap _ _ _);have e7 := (e5.st e6);have e8 := (bm.sp (bl.sd (e2.so none (Gr.refl _ none) (by simp)) 1 3 Z Z Z) (.swap _ _ _));have e9 := (bm.sp (bl.sd e3 0 3 Z Z Z) (.swap _ _ _));have fa := (bm.sp (bl.sd (((c8.sw ex 0 1 Z Z Z db).so none (Gr.refl _ none) (by simp)).so none (Gr.refl _ none) (by simp)) 2 3 Z Z Z) (.swap _ _ _));exact ⟨[.agg #[vs [], vi 0, G none 0 0, G none 0 0], G bj b8 b9], ⟨_, _, Z, e7.1.res Z ag44 sz44, ⟨_, Z, Z⟩⟩, (⟨([] : Str), (⟨0, ([] : List Pt)⟩ : Shape), ([] : List Tag)⟩ : Feat), ([] : List Str), none, 0, 0, none, 0, 0, bj, b8, b9, Z, H, ca.gr.g0, ca.ok, ca.ge, RD, e8, e9, fa⟩
 have H := Xj H ab;refine Xl ab Z (Xa (Xm fa44_0 (Ad ba 0) (Ad ba 0) Z Z) (Xl ab Z ?_));have cb := a5.stn a6;have dc := ((c2.st b7).st cb);refine Xa (Xp ag9 cL (Ad ba 0) (vs a.Id) Z (dc.cell Z)) (Xl ab Z (Xa (Xm fa44_0 (Ad au 0) (Ad au 0) Z Z) (Xl ab Z ?_)));have cc := (((cy.st b3).st b7).st cb);refine Xa (Xp ag9 cL (Ad au 0) (vs base_.Id) Z (cc.cell Z)) (Xl ab Z (Xa (Y0 a.Id base_.Id (a.Id != base_.Id) Z Z Z) (Xa (Xv false (vb (a.Id != base_.Id)) ab Z) (Xe (vb (a.Id != base_.Id)) Z ?_))));rcases Yb (a.Id != base_.Id) with ac | ac
 ·have H := Xi H ac;refine Xn ac Z (Xn ac Z (Xn ac Z (Xn ac Z (Xn ac Z (Xa (Xv true (vb true) ac Z) (Xb (Yp (b := true) Z Z ?_)))))));refine Xc (Xd (Xa (Yi (.agg #[vs [], vi 0, G none 0 0, G none 0 0]) RF) (X7 (kd := Kd.str) Yu af ([] : List Str) (cells := []) Z RF fun gp bn cd ce fb hr194 dd fc => ?_)));have fd := ((((a3.k0 av).k0 aw).k0 a6).k0 fb);refine Xw [vs [], vi 0, G none 0 0, G none 0 0] fd Z Z sz44 Z Z fun de df fe => ?_;have ff := dd.wr 1 Z df;refine Xf (G bn cd ce) Z (Xb (Xk ?_));have fg := ff.own (Gr.refl _ none) none (by simp);have fh : Ow kPt 49 de ([bk none, bk bn, some aa] ++ O) (G none 0 0) [] := Ow.nil _ _ _ _;have bo := fg.own (Gr.refl _ none) none (by simp);have fi : Ow kTag 93 de ([bk none, bk none, bk bn, some aa] ++ O) (G none 0 0) [] := Ow.nil _ _ _ _;have fj := fe;have fk := bo.bgv fj 3 Z;have bp := bo.drop 3 Z;have cf := bp.perm (.swap _ _ _);have fl := bp.stp (.swap _ _ _);have fm := (fk.st fl);have fn := (bp.sp (bo.sd (fh.so none (Gr.refl _ none) (by simp)) 1 3 Z Z Z) (.swap _ _ _));have fo := (bp.sp (bo.sd fi 0 3 Z Z Z) (.swap _ _ _));have fp := (bp.sp (bo.sd (((dd.sw fc 0 1 Z Z Z df).so none (Gr.refl _ none) (by simp)).so none (Gr.refl _ none) (by simp)) 2 3 Z Z Z) (.swap _ _ _));exact ⟨[.agg #[vs [], vi 0, G none 0 0, G none 0 0], G bn cd ce], ⟨_, _, Z, fm.1.res Z ag44 sz44, ⟨_, Z, Z⟩⟩, (⟨([] : Str), (⟨0, ([] : List Pt)⟩ : Shape), ([] : List Tag)⟩ : Feat), ([] : List Str), none, 0, 0, none, 0, 0, bn, cd, ce, Z, H, cf.gr.g0, cf.ok, cf.ge, RD, fn, fo, fp⟩
 have H := Xj H ac;refine Xl ac Z (Xa (Xm fa44_0 (Ad bb 0) (Ad bb 0) Z Z) (Xl ac Z ?_));have dg := (c7.st cb);refine Xa (Xp ag9 cL (Ad bb 0) (vs b.Id) Z (dg.cell Z)) (Xl ac Z (Xa (Xm fa44_0 (Ad au 0) (Ad au 0) Z Z) (Xl ac Z (Xa (Xp ag9 cL (Ad au 0) (vs base_.Id) Z (cc.cell Z)) (Xl ac Z (Xa (Y0 b.Id base_.Id (b.Id != base_.Id) Z Z Z) (Xa (Xv false (vb (b.Id != base_.Id)) ac Z) (Xb ?_))))))));refine Xu (b.Id != base_.Id) Z (fun cg => ?_) (fun cg => ?_)
 ·have H := Xi H cg;refine Xc (Xd (Xa (Yi (.agg #[vs [], vi 0, G none 0 0, G none 0 0]) RF) (X7 (kd := Kd.str) Yu af ([] : List Str) (cells := []) Z RF fun gq bq ch ci fq hr225 dh fr => ?_)));have fs := ((((a3.k0 av).k0 aw).k0 a6).k0 fq);refine Xw [vs [], vi 0, G none 0 0, G none 0 0] fs Z Z sz44 Z Z fun di dk ft => ?_;have fu := dh.wr 1 Z dk;refine Xf (G bq ch ci) Z (Xb (Xk ?_));have fv := fu.own (Gr.refl _ none) none (by simp);have fw : Ow kPt 49 di ([bk none, bk bq, some aa] ++ O) (G none 0 0) [] := Ow.nil _ _ _ _;have br := fv.own (Gr.refl _ none) none (by simp);have fx : Ow kTag 93 di ([bk none, bk none, bk bq, some aa] ++ O) (G none 0 0) [] := Ow.nil _ _ _ _;have fy := ft;have fz := br.bgv fy 3 Z;have bs := br.drop 3 Z;have cj := bs.perm (.swap _ _ _);have f0 := bs.stp (.swap _ _ _);have f1 := (fz.st f0);have f2 := (bs.sp (br.sd (fw.so none (Gr.refl _ none) (by simp)) 1 3 Z Z Z) (.swap _ _ _));have f3 := (bs.sp (br.sd fx 0 3 Z Z Z) (.swap _ _ _));have f4 := (bs.sp (br.sd (((dh.sw fr 0 1 Z Z Z dk).so none (Gr.refl _ none) (by simp)).so none (Gr.refl _ none) (by simp)) 2 3 Z Z Z) (.swap _ _ _));exact ⟨[.agg #[vs [], vi 0, G none 0 0, G none 0 0], G bq ch ci], ⟨_, _, Z, f1.1.res Z ag44 sz44, ⟨_, Z, Z⟩⟩, (⟨([] : Str), (⟨0, ([] : List Pt)⟩ : Shape), ([] : List Tag)⟩ : Feat), ([] : List Str), none, 0, 0, none, 0, 0, bq, ch, ci, Z, H, cj.gr.g0, cj.ok, cj.ge, RD, f2, f3, f4⟩
 have H := Xj H cg;refine Xz (Xc (Xd (Xa (Xr ag44 sz44 cL (Ad au 0) [vs base_.Id, vi base_.Shape.Kind, G A2 n3 c4, G A7 n8 c9] Z Z (cc.cells (off := 00) Z)) (Xa (Xr ag44 sz44 cL (Ad ba 0) [vs a.Id, vi a.Shape.Kind, G ag ah ai, G aj ak al] Z Z (dc.cells (off := 00) Z)) (Xa (Xr ag44 sz44 cL (Ad bb 0) [vs b.Id, vi b.Shape.Kind, G am an ao, G ap aq ar] Z Z (dg.cells (off := 00) Z)) ?_)))));refine Xs go78 (F114.calls H af.ok hs1 (hp5.st af.st) (cl.st af.st) cm (cn.st af.st) (co.st af.st) cp (cq.st af.st) (cr.st af.st)) Z ?_;rintro _ gs ⟨r4, r5, ax, ay, az, a0, a1, a2, a7, a8, a9, rfl, H, dl, f5, f6, f7, f8, f9, ga⟩;have bu := af.owns dl f5 f6;refine Xa (Yo [.agg #[vs r4.Id, vi r4.Shape.Kind, G ax ay az, G a0 a1 a2], G a7 a8 a9] 0 (.agg #[vs r4.Id, vi r4.Shape.Kind, G ax ay az, G a0 a1 a2]) Z Z) (Xa (Yo [.agg #[vs r4.Id, vi r4.Shape.Kind, G ax ay az, G a0 a1 a2], G a7 a8 a9] 1 (G a7 a8 a9) Z Z) ?_);have gb := ((((a3.k0 av).k0 aw).k0 a6).k0 dl);refine Xw [vs r4.Id, vi r4.Shape.Kind, G ax ay az, G a0 a1 a2] gb Z Z sz44 Z Z fun gt bv gc => ?_;have bt := bu.wr 3 Z bv;refine Xf (G a7 a8 a9) Z (Xb (Xk ?_));have gd := bt.bgv gc 3 Z;have ck := bt.drop 3 Z;have gf := (bt.sd (bu.sw f8 0 3 Z Z Z bv) 0 3 Z Z Z);have gg := (bt.sd (bu.sw f9 1 3 Z Z Z bv) 1 3 Z Z Z);have gh := (bt.sd (bu.sw ga 2 3 Z Z Z bv) 2 3 Z Z Z);exact ⟨[.agg #[vs r4.Id, vi r4.Shape.Kind, G ax ay az, G a0 a1 a2], G a7 a8 a9], ⟨_, _, Z, gd.1.res Z ag44 sz44, ⟨_, Z, Z⟩⟩, r4, r5, ax, ay, az, a0, a1, a2, a7, a8, a9, Z, H, ck.gr.g0, ck.ok, ck.ge, f7, gf, gg, gh⟩
def F17.E (s1 s2 : List Tag) (Q : Bool → Prop) : Prop :=
 (if (s1.length : Int) != (s2.length : Int) then Q false else (∃ (I32 : Int → Prop) (mu33 : Int → Nat), I32 0 ∧ ∀ (v2 : Int), I32 v2 → (if decide (v2 < (s1.length : Int)) then ((0 : Int) ≤ v2 ∧ v2 < (s1.length : Int)) ∧ ((0 : Int) ≤ v2 ∧ v2 < (s2.length : Int)) ∧ (if !(eqTag (nth s1 v2) (nth s2 v2)) then Q false else (I64 (v2 + 1)) ∧ I32 (v2 + 1) ∧ mu33 (v2 + 1) < mu33 v2) else Q true)))
theorem F17.calls {s1 : List Tag} {A1 : Option Addr} {n2 c3 : Nat} {s2 : List Tag} {A6 : Option Addr} {n7 c8 : Nat} {Q : Bool → Prop} (H : F17.E s1 s2 Q) (hO : Ok w0 O) (hp4 : Sl kTag w0 (Fr O) (G A1 n2 c3) s1) (hp9 : Sl kTag w0 (Fr O) (G A6 n7 c8) s2) :
  Ret Tryz.prog 79 [G A1 n2 c3, G A6 n7 c8] w0 (fun v w' => ∃ (r0 : Bool), v = vb r0 ∧ Q r0 ∧ Gr w0 w' none) := by
 unfold F17.E at H;have hc0 := Ct.init hO;refine Yd Tryz.func79 Z 26 Z [.tmp 4] Z Z ?_;refine Xc (Xd (Xf (vb false) Z (Xb (Xc (Xc (Xd (Xe (G A1 n2 c3) Z ?_)))))));have a3 := hp4.le;refine Xa (X4 u42_ A1 n2 c3 hp4.len Z) (Xe (G A6 n7 c8) Z ?_);have a4 := hp9.le;refine Xa (X4 u42_ A6 n7 c8 hp9.len Z) (Xa (Xx (s1.length : Int) (s2.length : Int) ((s1.length : Int) != (s2.length : Int)) Z Z Z) (Xb ?_));refine Xu ((s1.length : Int) != (s2.length : Int)) Z (fun ab => ?_) (fun ab => ?_)
 ·have H := Xi H ab;exact Xc (Xd (Xf (vb false) Z (Xb (Xk ⟨[vb false], ⟨_, Z, Z⟩, false, Z, H, hc0.gr.g0⟩))))
 have H := Xj H ab;refine Xz (Xc (Xc (Xd (Xe (G A1 n2 c3) Z (Xa (X4 u42_ A1 n2 c3 hp4.len Z) (Xe (vi 0) Z (Xb (X8 ?_))))))));obtain ⟨ap, aq, ac, H⟩ := H;refine Ys (α := Int) (fun (sv__ : Int) t aa => match sv__ with | v2 => ap v2 ∧ Has t [(0, G A1 n2 c3), (1, G A6 n7 c8), (12, vi (s1.length : Int)), (13, vi v2)] ∧ Cw [] w0 aa [] O fun M => Sl kTag aa (Fr M) (G A1 n2 c3) s1 ∧ Sl kTag aa (Fr M) (G A6 n7 c8) s2) (fun (sv__ : Int) => match sv__ with | v2 => aq v2) 0 ⟨ac, (Xt Z), hc0, hp4, hp9⟩ ?_;rintro v2 _ aa ⟨ac, ar, ad, ae, af⟩;obtain ⟨a5, rfl⟩ := Has.ins ar;have H := H v2 ac;refine Xc (Xd (Xa (Xx v2 (s1.length : Int) (decide (v2 < (s1.length : Int))) Z Z Z) (Xb (Xc ?_))));refine Xu (decide (v2 < (s1.length : Int))) Z (fun ag => ?_) (fun ag => ?_)
 ·have H := Xi H ag;refine Xz (Xc (X8 (Xc (Xd (Xe (vi v2) Z (Xf (vi v2) Z (Xb (Xc ?_))))))));refine Yz (fun x => Gr aa x none) RK RK (Gr.drew _) ?_;refine X1 (G A1 n2 c3) Z (X1 (vi v2) Z ?_);obtain ⟨ai, H⟩ := H;obtain ⟨aj, a6, au, a7, av, aw⟩ := ae.get default RD v2 ai;obtain ⟨rfl, a8, a9⟩ := kTag.op av;refine Xh (X3 u42_ Yx A1 aj n2 c3 ae.len v2 Z au Z ai) (Xh (Xr ag93 sz93 cQ (aj.add (v2.toNat * 2)) [vs ((nth s1 v2).Key), vs ((nth s1 v2).Val)] Z Z aw) (X1 (G A6 n7 c8) Z (X1 (vi v2) Z ?_)));obtain ⟨ak, H⟩ := H;obtain ⟨al, ba, ax, bb, ay, az⟩ := af.get default RD v2 ak;obtain ⟨rfl, bc, bd⟩ := kTag.op ay;refine Xh (X3 u42_ Yx A6 al n7 c8 af.len v2 Z ax Z ak) (Xh (Xr ag93 sz93 cQ (al.add (v2.toNat * 2)) [vs ((nth s2 v2).Key), vs ((nth s2 v2).Val)] Z Z az) (Xh (Zj _ _ (eqTag (nth s1 v2) (nth s2 v2)) (qt93 (nth s1 v2) (nth s2 v2)) Z Z) (Yn fun be am => ?_)));have an := ad.k0 am;refine Xu (!(eqTag (nth s1 v2) (nth s2 v2))) Z (fun ah => ?_) (fun ah => ?_)
  ·have H := Xi H ah;exact Xc (Xd (Xf (vb false) Z (Xb (Xk ⟨[vb false], ⟨_, Z, Z⟩, false, Z, H, an.gr.g0⟩))))
  have H := Xj H ah;refine Xz (Xd ?_);obtain ⟨a0, H⟩ := H;refine Xa (X6 v2 1 Z Z a0) (Xe (vi (v2 + 1)) Z (Xb ?_));obtain ⟨a1, a2⟩ := H;have ao := ad.stn am;exact ⟨v2 + 1, a2, a1, (Xt Z), an, (ae.st ao), (af.st ao)⟩
 have H := Xj H ag;refine Ym (xin_hit ?_);exact Xc (Xd (Xf (vb true) Z (Xb (Xk ⟨[vb true], ⟨_, Z, Z⟩, true, Z, H, ad.gr.g0⟩))))
def F46.E (a b : Feat) (Q : Bool → Prop) : Prop :=
 (if a.Id == b.Id then F38.E a.Shape b.Shape (fun r => (if r then F17.E a.Tags b.Tags (fun r2 => Q r2) else Q false)) else Q false)
theorem F46.calls {a : Feat} {A2 : Option Addr} {n3 c4 : Nat} {A7 : Option Addr} {n8 c9 : Nat} {b : Feat} {ae : Option Addr} {af ag : Nat} {ah : Option Addr} {ai aj : Nat} {Q : Bool → Prop} (H : F46.E a b Q) (hO : Ok w0 O) (hs1 : Lim a.Id) (hp5 : Sl kPt w0 (Fr O) (G A2 n3 c4) a.Shape.Pts) (au : Sl kTag w0 (Fr O) (G A7 n8 c9) a.Tags) (ba : Lim b.Id) (av : Sl kPt w0 (Fr O) (G ae af ag) b.Shape.Pts) (aw : Sl kTag w0 (Fr O) (G ah ai aj) b.Tags) :
  Ret Tryz.prog 28 [.agg #[vs a.Id, vi a.Shape.Kind, G A2 n3 c4, G A7 n8 c9], .agg #[vs b.Id, vi b.Shape.Kind, G ae af ag, G ah ai aj]] w0 (fun v w' => ∃ (r0 : Bool), v = vb r0 ∧ Q r0 ∧ Gr w0 w' none) := by
 unfold F46.E at H;have hc0 := Ct.init hO;refine Yd Tryz.func28 Z 24 Z [.tmp 4] Z Z ?_;refine Xc (Xd (Yk [vs a.Id, vi a.Shape.Kind, G A2 n3 c4, G A7 n8 c9] Z fun bb ac ax hu27 ay az => ?_));have a0 := Fb.mk hc0.ok ax az;have am := hc0.k0 ay;refine Yk [vs b.Id, vi b.Shape.Kind, G ae af ag, G ah ai aj] Z fun a1 ad a2 hu36 ap a3 => ?_;have an := Fb.mk am.ok a2 a3;have ak := am.k0 ap;refine Xf (vb false) Z (Xb (Xc (Xd (Xa (Xm fa44_0 (Ad ac 0) (Ad ac 0) Z Z) ?_))));have a4 := am.stn ap;have ao := (a0.st a4);refine Xa (Xp ag9 cL (Ad ac 0) (vs a.Id) Z (ao.cell Z)) (Xa (Xm fa44_0 (Ad ad 0) (Ad ad 0) Z Z) (Xa (Xp ag9 cL (Ad ad 0) (vs b.Id) Z (an.cell Z)) (Xa (Y0 a.Id b.Id (a.Id == b.Id) Z Z Z) (Xe (vb (a.Id == b.Id)) Z ?_))));rcases Yb (a.Id == b.Id) with aa | aa
 ·have H := Xi H aa;refine Xl aa Z (Xa (Xm fa44_1 (Ad ac 0) (Ad ac 1) Z Z) (Xl aa Z (Xa (Xr ag41 sz41 cL (Ad ac 1) [vi a.Shape.Kind, G A2 n3 c4] Z Z (ao.cells (off := 1) Z)) (Xl aa Z (Xa (Xm fa44_1 (Ad ad 0) (Ad ad 1) Z Z) (Xl aa Z (Xa (Xr ag41 sz41 cL (Ad ad 1) [vi b.Shape.Kind, G ae af ag] Z Z (an.cells (off := 1) Z)) (Xl aa Z ?_))))))));refine Xs go70 (F38.calls H ak.ok (hp5.st ak.st) (av.st ak.st)) Z ?_;rintro _ a5 ⟨r, rfl, H, aq⟩;have al := ak.k0 aq;refine Xa (Xv true (vb r) aa Z) (Xe (vb r) Z ?_);rcases Yb r with ab | ab
  ·have H := Xi H ab;refine Xl ab Z (Xa (Xm fa44_2 (Ad ac 0) (Ad ac 3) Z Z) (Xl ab Z ?_));have ar := ak.stn aq;have a6 := (ao.st ar);refine Xa (Xp ag42 cL (Ad ac 3) (G A7 n8 c9) Z (a6.cell Z)) (Xl ab Z (Xa (Xm fa44_2 (Ad ad 0) (Ad ad 3) Z Z) (Xl ab Z ?_)));have a7 := (an.st ar);refine Xa (Xp ag42 cL (Ad ad 3) (G ah ai aj) Z (a7.cell Z)) (Xl ab Z ?_);refine Xs go79 (F17.calls H al.ok (au.st al.st) (aw.st al.st)) Z ?_;rintro _ bc ⟨r2, rfl, H, a8⟩;have a9 := al.k0 a8;exact Xa (Xv true (vb r2) ab Z) (Xf (vb r2) Z (Xb (Xk ⟨[vb r2], ⟨_, Z, Z⟩, r2, Z, H, a9.gr.g0⟩)))
  have H := Xj H ab;refine Xn ab Z (Xn ab Z (Xn ab Z (Xn ab Z (Xn ab Z (Xa (Xv false (vb false) ab Z) (Xf (vb false) Z (Xb (Xk ?_))))))));exact ⟨[vb false], ⟨_, Z, Z⟩, false, Z, H, al.gr.g0⟩
 have H := Xj H aa;refine Xn aa Z (Xn aa Z (Xn aa Z (Xn aa Z (Xn aa Z (Xa (Xv false (vb false) aa Z) (Xe (vb false) Z (X2 (dj := 17) Z Z (.inl Z) (X2 (dj := 17) Z Z (.inl Z) ?_))))))));exact X2 (dj := 17) Z Z (.inl Z) (X2 (dj := 17) Z Z (.inl Z) (X2 (dj := 17) Z Z (.inl Z) (Xa (Xv false (vb false) Z Z) (Xf (vb false) Z (Xb (Xk ⟨[vb false], ⟨_, Z, Z⟩, false, Z, H, ak.gr.g0⟩))))))
def shapeNamesL : List Str := [[], [100, 111, 116], [108, 105, 110, 101], [114, 105, 110, 103]]
structure Glob (w : World) (O : Ob) : Prop where
 shapeNames : ∃ A : Option Addr, Fb w O 0 [.slice A 4 4] ∧ Sl Kd.str w (Fr O) (.slice A 4 4) shapeNamesL
 pow10 : Fb w O 1 (Lib.pow10Tab.map (Value.int .u64))
theorem Glob.st {w w' : World} {O O' : Ob} (h : Glob w O) (s : St w O w' O') : Glob w' O' :=
 ⟨let ⟨A, a, b⟩ := h.shapeNames; ⟨A, a.st s, b.st s⟩, h.pow10.st s⟩
theorem Glob.tab {w : World} {O : Ob} (h : Glob w O) : Lib.TabIs Tryz.prog w "internal/strconv.uint64pow10" .u64 Lib.pow10Tab := by
 obtain ⟨⟨e, hb⟩, _⟩ := h.pow10
 unfold Lib.TabIs World.var?
 rw [show Tryz.prog.globalNamed "internal/strconv.uint64pow10" = some 1 by kernel_rfl]
 simp only [Option.bind_some, hb]
theorem decDigits_len (u : Nat) : ∀ k, u < 10 ^ (k + 1) → (Lib.decDigits u).length ≤ k + 1 := by
 intro k
 induction k generalizing u with
 | zero => intro h; rw [Lib.decDigits, dif_pos OM]; simp
 | succ k ih =>
  intro h
  rw [Lib.decDigits]
  split
  ·simp
  ·rw [List.length_append]
   have := ih (u / 10) (by rw [Nat.pow_succ] at h; omega)
   simp only [List.length_cons, List.length_nil]
   omega
theorem itoa_len (n : Int) (h0 : -9223372036854775808 ≤ n) (h1 : n ≤ 9223372036854775807) : (Lib.itoa n).length ≤ 21 := by
 unfold Lib.itoa
 split
 ·have := decDigits_len n.natAbs 19 OM
  simp only [List.length_cons]; omega
 ·have := decDigits_len n.toNat 19 OM
  omega
section
open Go.Shelf Go.Sort Go.Lib
def F73.E (n : Int) (Q : Str → Prop) : Prop := (-9223372036854775808 ≤ n ∧ n ≤ 9223372036854775807) ∧ Q (Lib.itoa n)
theorem F73.calls {O : Ob} (w0 : World) (hO : Ok w0 O) (hG : Glob w0 O) (n : Int) (Q : Str → Prop) (h : F73.E n Q) :
  Ret Tryz.prog 126 [vi n] w0 (fun v w' => ∃ (r0 : Str), v = vs r0 ∧ Q r0 ∧ Gr w0 w' none ∧ Lim r0) := by
 obtain ⟨⟨h0, h1⟩, hq⟩ := h
 refine Calls.mono (Tryz.strconv_Itoa n h0 h1 w0 hG.tab) fun e w' ⟨he, k, os, hw⟩ => ?_
 subst he; subst hw
 refine ⟨_, rfl, Lib.itoa n, rfl, hq, ⟨rfl, by simp [grow], rfl, by simp [grow], fun b hb _ => by show (w0.heap ++ os)[b]? = w0.heap[b]?; exact Array.getElem?_append_left hb⟩, ?_⟩
 have := itoa_len n h0 h1
 unfold Lim; omega
end
def F24.E (s : Shape) (Q : Str → Prop) : Prop :=
 ((0 : Int) ≤ s.Kind ∧ s.Kind < (shapeNamesL.length : Int)) ∧ (∃ (I39 : Str → Int → Prop) (mu40 : Str → Int → Nat), I39 (nth shapeNamesL s.Kind) 0 ∧ ∀ (out2 : Str) (v2 : Int), I39 out2 v2 → (if decide (v2 < (s.Pts.length : Int)) then ((0 : Int) ≤ v2 ∧ v2 < (s.Pts.length : Int)) ∧ (∃ q : Str, F73.E ((nth s.Pts v2).X) (fun x => x = q) ∧ (Lim q) ∧ (([32] : Str).length + q.length ≤ 9223372036854775807) ∧ ((([32] : Str) ++ q).length + ([44] : Str).length ≤ 9223372036854775807) ∧ (∃ q2 : Str, F73.E ((nth s.Pts v2).Y) (fun x => x = q2) ∧ (Lim q2) ∧ (((([32] : Str) ++ q) ++ ([44] : Str)).length + q2.length ≤ 9223372036854775807) ∧ (out2.length + (((([32] : Str) ++ q) ++ ([44] : Str)) ++ q2).length ≤ 9223372036854775807) ∧ (I64 (v2 + 1)) ∧ I39 (out2 ++ (((([32] : Str) ++ q) ++ ([44] : Str)) ++ q2)) (v2 + 1) ∧ mu40 (out2 ++ (((([32] : Str) ++ q) ++ ([44] : Str)) ++ q2)) (v2 + 1) < mu40 out2 v2)) else Q out2))
theorem F24.calls {s : Shape} {A1 : Option Addr} {n2 c3 : Nat} {Q : Str → Prop} (H : F24.E s Q) (hO : Ok w0 O) (hG : Glob w0 O) (hp4 : Sl kPt w0 (Fr O) (G A1 n2 c3) s.Pts) :
  Ret Tryz.prog 80 [.agg #[vi s.Kind, G A1 n2 c3]] w0 (fun v w' => ∃ (r0 : Str), v = vs r0 ∧ Q r0 ∧ Gr w0 w' none ∧ Lim r0) := by
 unfold F24.E at H;have hc0 := Ct.init hO;obtain ⟨aG0, hGb0, hGs0⟩ := hG.shapeNames;refine Yd Tryz.func80 Z 31 Z [.tmp 2] Z Z ?_;refine Xc (Xd (Yk [vi s.Kind, G A1 n2 c3] Z fun w6 b7 hl9 hu10 g8 ax => ?_));have ai := Fb.mk hc0.ok hl9 ax;have ab := hc0.k0 g8;refine Xf (vs []) Z (Xb (Xc (Xd ?_)));have ay := (hGb0.st ab.st);refine Xa (Xp ag50 cL (Ad 0 0) (G aG0 4 4) Z (ay.cell Z)) (Xa (Xm fa41_0 (Ad b7 0) (Ad b7 0) Z Z) (Xa (Xp ag3 cL (Ad b7 0) (vi s.Kind) Z (ai.cell Z)) ?_));obtain ⟨aj, H⟩ := H;obtain ⟨ak, br, az, bs, a0, a1⟩ := (hGs0.st ab.st).get default RD s.Kind aj;obtain ⟨rfl, a2⟩ := Kd.str.op a0;refine Xa (X3 u50_ Zl aG0 ak 4 4 (hGs0.st ab.st).len s.Kind Z az Z aj) (Xa (Xp ag9 cL (ak.add (s.Kind.toNat * 1)) (vs (nth shapeNamesL s.Kind)) Z (a1 0 _ Z)) (Xf (vs (nth shapeNamesL s.Kind)) Z (Xb (Xc (Xc (Xd (Xa (Xm fa41_1 (Ad b7 0) (Ad b7 1) Z Z) (Xa (Xp ag39 cL (Ad b7 1) (G A1 n2 c3) Z (ai.cell Z)) ?_))))))));have bt := (hp4.st ab.st).le;refine Xa (X4 u39_ A1 n2 c3 (hp4.st ab.st).len Z) (Xe (vi 0) Z (Xb (X8 ?_)));obtain ⟨a3, a4, ad, H⟩ := H;refine Ys (α := Str × Int) (fun (out2, v2) t ae => a3 out2 v2 ∧ Has t [(3, vs out2), (12, G A1 n2 c3), (13, vi (s.Pts.length : Int)), (14, vi v2)] ∧ Ct [] w0 ae [] O ∧ Lim out2 ∧ Sl kPt ae (Fr ([] ++ O)) (G A1 n2 c3) s.Pts) (fun (out2, v2) => a4 out2 v2) ((nth shapeNamesL s.Kind), 0) ⟨ad, (Xt Z), ab, a2, (hp4.st ab.st)⟩ ?_;rintro ⟨out2, v2⟩ _ ae ⟨ad, a5, af, a6, ag⟩;obtain ⟨bu, rfl⟩ := Has.ins a5;have H := H out2 v2 ad;refine Xc (Xd (Xa (Xx v2 (s.Pts.length : Int) (decide (v2 < (s.Pts.length : Int))) Z Z Z) (Xb (Xc ?_))));refine Xu (decide (v2 < (s.Pts.length : Int))) Z (fun ah => ?_) (fun ah => ?_)
 ·have H := Xi H ah;refine Xz (Xc (X8 (Xc (Xd ?_))));obtain ⟨al, H⟩ := H;obtain ⟨am, bv, a7, bw, a8, a9⟩ := ag.get default RD v2 al;obtain rfl := kPt.op a8;refine Xa (X3 u39_ Yh A1 am n2 c3 ag.len v2 Z a7 Z al) (Xa (Xr ag49 sz49 cL (am.add (v2.toNat * 2)) [vi ((nth s.Pts v2).X), vi ((nth s.Pts v2).Y)] Z Z a9) (Ya [.int .i64 0, .int .i64 0] ze49 fun bx aa an hu57 ao ba => ?_));have ap := af.own ao (some aa) (X9 an hu57);refine Xw [vi ((nth s.Pts v2).X), vi ((nth s.Pts v2).Y)] ba Z Z sz49 Z Z fun bb aq ar => ?_;have ac := ap.wr 0 Z aq;refine Xb (Yz (fun x => Gr bb x none) RK RK (Gr.drew _) ?_);refine X1 (vs out2) Z (Xh (Xm fa49_0 (Ad aa 0) (Ad aa 0) Z Z) (Xh (Xp ag3 cQ (Ad aa 0) (vi ((nth s.Pts v2).X)) Z (ar.cell Z)) ?_));obtain ⟨q, bc, bz, H⟩ := H;refine Y6 go126 [vi ((nth s.Pts v2).X)] Z (vs q) (fun w g => (F73.calls w (ac.k0 g).ok (hG.st (ac.k0 g).st) ((nth s.Pts v2).X) _ bc).mono ?_) ?_
  ·rintro _ w ⟨r, rfl, rfl, g2, _⟩;exact ⟨Z, Gr.t0 g g2⟩
  obtain ⟨bd, H⟩ := H;refine Xh (Zm ([32] : Str) q Z Z bd) ?_;obtain ⟨be, H⟩ := H;refine Xh (Zm (([32] : Str) ++ q) ([44] : Str) Z Z be) (Xh (Xm fa49_1 (Ad aa 0) (Ad aa 1) Z Z) (Xh (Xp ag3 cQ (Ad aa 1) (vi ((nth s.Pts v2).Y)) Z (ar.cell Z)) ?_));obtain ⟨q2, bf, b0, H⟩ := H;refine Y6 go126 [vi ((nth s.Pts v2).Y)] Z (vs q2) (fun w g => (F73.calls w (ac.k0 g).ok (hG.st (ac.k0 g).st) ((nth s.Pts v2).Y) _ bf).mono ?_) ?_
  ·rintro _ w ⟨r, rfl, rfl, g2, _⟩;exact ⟨Z, Gr.t0 g g2⟩
  obtain ⟨bg, H⟩ := H;refine Xh (Zm ((([32] : Str) ++ q) ++ ([44] : Str)) q2 Z Z bg) ?_;obtain ⟨au, H⟩ := H;refine Xh (Zm out2 (((([32] : Str) ++ q) ++ ([44] : Str)) ++ q2) Z Z au) (Y3 (vs (out2 ++ (((([32] : Str) ++ q) ++ ([44] : Str)) ++ q2))) Z (Yn fun b1 av => ?_));have aw := ac.k0 av;refine Xd ?_;obtain ⟨bh, H⟩ := H;refine Xa (X6 v2 1 Z Z bh) (Xe (vi (v2 + 1)) Z (Xb ?_));have bi := aw.drop 0 Z;obtain ⟨bj, bl⟩ := H;have bm := af.stown _ ao (Xg an);have bn := ap.stw 0 Z aq;have bo := ac.stn av;have bp := aw.std 0 Z;have bq := ((((ag.st bm).st bn).st bo).st bp);exact ⟨((out2 ++ (((([32] : Str) ++ q) ++ ([44] : Str)) ++ q2)), v2 + 1), bl, bj, (Xt Z), bi, (lim_cat au), bq⟩
 have H := Xj H ah;refine Ym (xin_hit ?_);exact Xc (Xd (Xe (vs out2) Z (Xf (vs out2) Z (Xb (Xk ⟨[vs out2], ⟨_, Z, Z⟩, out2, Z, H, af.gr.g0, a6⟩)))))
def F41.E (s : Shape) (Q : Str → Prop) : Prop :=
 F72.E s (fun r => (if !r then Q [] else F24.E s (fun r2 => Q r2)))
theorem F41.calls {s : Shape} {A1 : Option Addr} {n2 c3 : Nat} {Q : Str → Prop} (H : F41.E s Q) (hO : Ok w0 O) (hG : Glob w0 O) (hp4 : Sl kPt w0 (Fr O) (G A1 n2 c3) s.Pts) :
  Ret Tryz.prog 29 [.agg #[vi s.Kind, G A1 n2 c3]] w0 (fun v w' => ∃ (r0 : Str), v = vs r0 ∧ Q r0 ∧ Gr w0 w' none ∧ Lim r0) := by
 unfold F41.E at H;have hc0 := Ct.init hO;refine Yd Tryz.func29 Z 8 Z [.tmp 2] Z Z ?_;refine Xc (Xd (Yk [vi s.Kind, G A1 n2 c3] Z fun w6 b7 hl9 hu10 g8 af => ?_));have ad := Fb.mk hc0.ok hl9 af;have ab := hc0.k0 g8;refine Xf (vs []) Z (Xb (Xc (Xc (Xd (Xa (Xr ag41 sz41 cL (Ad b7 0) [vi s.Kind, G A1 n2 c3] Z Z (ad.cells (off := 00) Z)) ?_)))));refine Xs go68 (F72.calls H ab.ok (hp4.st ab.st)) Z ?_;rintro _ ag ⟨r, rfl, H, ae⟩;have aa := ab.k0 ae;refine Xa (Yr r Z) (Xb ?_);refine Xu (!r) Z (fun ac => ?_) (fun ac => ?_)
 ·have H := Xi H ac;exact Xc (Xd (Xf (vs []) Z (Xb (Xk ⟨[vs []], ⟨_, Z, Z⟩, ([] : Str), Z, H, aa.gr.g0, (by decide : Lim ([] : Str))⟩))))
 have H := Xj H ac;refine Xz (Xc (Xd ?_));have ah := ab.stn ae;have ai := (ad.st ah);refine Xa (Xr ag41 sz41 cL (Ad b7 0) [vi s.Kind, G A1 n2 c3] Z Z (ai.cells (off := 00) Z)) ?_;refine Xs go80 (F24.calls H aa.ok (hG.st aa.st) (hp4.st aa.st)) Z ?_;rintro _ am ⟨r2, rfl, H, aj, ak⟩;have al := aa.k0 aj;exact Xf (vs r2) Z (Xb (Xk ⟨[vs r2], ⟨_, Z, Z⟩, r2, Z, H, al.gr.g0, ak⟩))
def laws_FnFeatPoints.E (code : List UInt8) (Q : Bool → Prop) : Prop :=
 (if decide ((code.length : Int) > 1048576) then Q true else F14.E code (fun r r2 r3 => F87.E r (fun r4 => (if !r4 then (∃ q : Bool, F98.E r (fun x => x = q) ∧ (∃ q2 : Bool, F87.E r (fun x => x = q2) ∧ Q (q == q2))) else (if decide ((r.Shape.Pts.length : Int) > 4) then (∃ q3 : Bool, F98.E r (fun x => x = q3) ∧ (∃ q4 : Bool, F87.E r (fun x => x = q4) ∧ Q (q3 == q4))) else F59.E (⟨r.Id, (⟨2, ([(⟨50, 1⟩ : Pt), (⟨51, 2⟩ : Pt)] : List Pt)⟩ : Shape), r.Tags⟩ : Feat) (⟨r.Id, (⟨2, ([(⟨49, 0⟩ : Pt), (⟨50, 1⟩ : Pt), (⟨51, 2⟩ : Pt)] : List Pt)⟩ : Shape), r.Tags⟩ : Feat) (⟨r.Id, (⟨2, ([(⟨50, 1⟩ : Pt), (⟨51, 2⟩ : Pt), (⟨52, 0⟩ : Pt)] : List Pt)⟩ : Shape), r.Tags⟩ : Feat) (fun r9 r10 => F61.E (⟨r.Id, (⟨2, ([(⟨50, 1⟩ : Pt), (⟨51, 2⟩ : Pt)] : List Pt)⟩ : Shape), r.Tags⟩ : Feat) (⟨r.Id, (⟨2, ([(⟨49, 0⟩ : Pt), (⟨50, 1⟩ : Pt), (⟨51, 2⟩ : Pt)] : List Pt)⟩ : Shape), r.Tags⟩ : Feat) (⟨r.Id, (⟨2, ([(⟨50, 1⟩ : Pt), (⟨51, 2⟩ : Pt), (⟨52, 0⟩ : Pt)] : List Pt)⟩ : Shape), r.Tags⟩ : Feat) (fun r11 r12 => F46.E r9 r11 (fun r13 => (if !r13 then Q false else (if (r10.length : Int) != (r12.length : Int) then Q false else (if decide ((r10.length : Int) > 0) then Q false else F41.E r9.Shape (fun r14 => (if r14 != ([108, 105, 110, 101, 32, 52, 57, 44, 48, 32, 53, 48, 44, 49, 32, 53, 49, 44, 50, 32, 53, 50, 44, 48] : Str) then Q false else F59.E (⟨r.Id, (⟨2, ([(⟨50, 1⟩ : Pt), (⟨51, 2⟩ : Pt)] : List Pt)⟩ : Shape), r.Tags⟩ : Feat) (⟨r.Id, (⟨2, ([(⟨49, 0⟩ : Pt), (⟨50, 1⟩ : Pt), (⟨51, 2⟩ : Pt)] : List Pt)⟩ : Shape), r.Tags⟩ : Feat) (⟨r.Id, (⟨1, ([(⟨7, 0⟩ : Pt)] : List Pt)⟩ : Shape), r.Tags⟩ : Feat) (fun r15 r16 => F59.E (⟨r.Id, (⟨2, ([(⟨50, 1⟩ : Pt), (⟨51, 2⟩ : Pt)] : List Pt)⟩ : Shape), r.Tags⟩ : Feat) (⟨r.Id, (⟨2, ([(⟨50, 1⟩ : Pt), (⟨51, 2⟩ : Pt)] : List Pt)⟩ : Shape), r.Tags⟩ : Feat) (⟨r.Id, (⟨1, ([(⟨7, 0⟩ : Pt)] : List Pt)⟩ : Shape), r.Tags⟩ : Feat) (fun r17 r18 => (if (r16.length : Int) == 1 then ((0 : Int) ≤ 0 ∧ 0 < (r16.length : Int)) ∧ (if (nth r16 0) == ([115, 104, 97, 112, 101] : Str) then (if (r18.length : Int) == 0 then F46.E r17 (⟨r.Id, (⟨1, ([(⟨7, 0⟩ : Pt)] : List Pt)⟩ : Shape), r.Tags⟩ : Feat) (fun r19 => Q r19) else Q false) else Q false) else Q false))))))))))))))))
theorem laws_FnFeatPoints.calls {O : Ob} (w0 : World) (hO : Ok w0 O) (hG : Glob w0 O) (code : List UInt8) (A1 : Option Addr) (n2 c3 : Nat) (hp4 : Sl Kd.byte w0 (Fr O) (G A1 n2 c3) code) (Q : Bool → Prop) (h : laws_FnFeatPoints.E code Q) :
  Ret Tryz.prog 5 [G A1 n2 c3] w0 (fun v w' => ∃ (r0 : Bool), v = vb r0 ∧ Q r0 ∧ Gr w0 w' none) := by
 unfold laws_FnFeatPoints.E at h;have H := h;clear h;have hc0 := Ct.init hO;refine Yd Tryz.func5 Z 136 Z [.tmp 2] Z Z ?_;refine Xc (Xd (Xf (vb false) Z (Xb (Xc (Xc (Xd (Xe (G A1 n2 c3) Z ?_)))))));have hl6 := hp4.le;refine Xa (X4 u22_ A1 n2 c3 hp4.len Z) (Xa (Xx (code.length : Int) 1048576 (decide ((code.length : Int) > 1048576)) Z Z Z) (Xb ?_));refine Xu (decide ((code.length : Int) > 1048576)) Z (fun hq7 => ?_) (fun hq7 => ?_)
 ·have H := Xi H hq7;exact Xc (Xd (Xf (vb true) Z (Xb (Xk ⟨[vb true], ⟨_, Z, Z⟩, true, Z, H, hc0.gr.g0⟩))))
 have H := Xj H hq7;refine Xz (Xc (Xd (Xe (G A1 n2 c3) Z ?_)));refine Xs go23 (F14.calls H hc0.ok hp4) Z ?_;rintro _ w8 ⟨r, r2, r3, am, an, ao, aa, ab, ac, dm, dn, dp, dq, dr, ds, dt, du, dv, dw, dx, dy, rfl, H, g9, az, hq, hr, pb, pd, pe, pf, pg, ph⟩;have f9 := hc0.k0 g9;refine Xe (.tuple #[.agg #[vs r.Id, vi r.Shape.Kind, G am an ao, G aa ab ac], .agg #[vs r2.Id, vi r2.Shape.Kind, G dm dn dp, G dq dr ds], .agg #[vs r3.Id, vi r3.Shape.Kind, G dt du dv, G dw dx dy]]) Z (Xa (Yo [.agg #[vs r.Id, vi r.Shape.Kind, G am an ao, G aa ab ac], .agg #[vs r2.Id, vi r2.Shape.Kind, G dm dn dp, G dq dr ds], .agg #[vs r3.Id, vi r3.Shape.Kind, G dt du dv, G dw dx dy]] 0 (.agg #[vs r.Id, vi r.Shape.Kind, G am an ao, G aa ab ac]) Z Z) (Xa (Yo [.agg #[vs r.Id, vi r.Shape.Kind, G am an ao, G aa ab ac], .agg #[vs r2.Id, vi r2.Shape.Kind, G dm dn dp, G dq dr ds], .agg #[vs r3.Id, vi r3.Shape.Kind, G dt du dv, G dw dx dy]] 1 (.agg #[vs r2.Id, vi r2.Shape.Kind, G dm dn dp, G dq dr ds]) Z Z) (Xa (Yo [.agg #[vs r.Id, vi r.Shape.Kind, G am an ao, G aa ab ac], .agg #[vs r2.Id, vi r2.Shape.Kind, G dm dn dp, G dq dr ds], .agg #[vs r3.Id, vi r3.Shape.Kind, G dt du dv, G dw dx dy]] 2 (.agg #[vs r3.Id, vi r3.Shape.Kind, G dt du dv, G dw dx dy]) Z Z) (Ya [vs [], .int .i64 0, G none 0 0, G none 0 0] ze44 fun pi a9 ga hu51 gb hs => ?_))));have gc := f9.own gb (some a9) (X9 ga hu51);refine Ya [vs [], .int .i64 0, G none 0 0, G none 0 0] ze44 fun pj ex gd hu59 fj ht => ?_;have ge := gc.own fj (some ex) (X9 gd hu59);refine Ya [vs [], .int .i64 0, G none 0 0, G none 0 0] ze44 fun pk ey gf hu67 ez hu => ?_;have e0 := ge.own ez (some ey) (X9 gf hu67);have hv := ((hs.k0 fj).k0 ez);refine Xw [vs r.Id, vi r.Shape.Kind, G am an ao, G aa ab ac] hv Z Z sz44 Z Z fun pl e1 hw => ?_;have e2 := e0.wr 2 Z e1;have hx := (e0.bm (ht.k0 ez) 1 2 Z Z Z e1);refine Xw [vs r2.Id, vi r2.Shape.Kind, G dm dn dp, G dq dr ds] hx Z Z sz44 Z Z fun pm e3 pn => ?_;have fk := e2.wr 1 Z e3;have hy := (e2.bm (e0.bm hu 0 2 Z Z Z e1) 0 1 Z Z Z e3);refine Xw [vs r3.Id, vi r3.Shape.Kind, G dt du dv, G dw dx dy] hy Z Z sz44 Z Z fun hz fl po => ?_;have e4 := fk.wr 0 Z fl;refine Xb (Xc (Xc (Xd ?_)));have fm := (fk.bm (e2.bm hw 2 1 Z Z Z e3) 2 0 Z Z Z fl);refine Xa (Xr ag44 sz44 cL (Ad a9 0) [vs r.Id, vi r.Shape.Kind, G am an ao, G aa ab ac] Z Z (fm.cells (off := 00) Z)) ?_;have gg := f9.stown _ gb (Xg ga);have gh := gc.stown _ fj (Xg gd);have gi := ge.stown _ ez (Xg gf);have gj := e0.stw 2 Z e1;have gk := e2.stw 1 Z e3;have gl := fk.stw 0 Z fl;have dz := ((((((hq.st gg).st gh).st gi).st gj).st gk).st gl);have ce := ((((((hr.st gg).st gh).st gi).st gj).st gk).st gl);refine Xs go24 (F87.calls H e4.ok az dz ce) Z ?_;rintro _ gm ⟨r4, rfl, H, er⟩;have bt := e4.k0 er;refine Xa (Yr r4 Z) (Xe (vb (!r4)) Z ?_);rcases Yb (!r4) with ba | ba
 ·have H := Xi H ba;refine Xn ba Z (Xn ba Z (Xn ba Z (Xn ba Z (Xn ba Z (Xa (Xv true (vb true) ba Z) (Xb (Yp (b := true) Z Z ?_)))))));refine Xc (Yz (fun x => Gr gm x none) RK RK (Gr.drew _) ?_);have gn := (fm.k0 er);refine Xh (Xr ag44 sz44 cQ (Ad a9 0) [vs r.Id, vi r.Shape.Kind, G am an ao, G aa ab ac] Z Z (gn.cells (off := 00) Z)) ?_;have e5 := e4.stn er;obtain ⟨q, h0, H⟩ := H;refine Y6 go25 [.agg #[vs r.Id, vi r.Shape.Kind, G am an ao, G aa ab ac]] Z (vb q) (fun w g => (F98.calls h0 (bt.k0 g).ok az ((dz.st e5).st (.new _ g)) ((ce.st e5).st (.new _ g))).mono ?_) ?_
  ·rintro _ w ⟨r, rfl, rfl, g2⟩;exact ⟨Z, Gr.t0 g g2⟩
  refine Xh (Xr ag44 sz44 cQ (Ad a9 0) [vs r.Id, vi r.Shape.Kind, G am an ao, G aa ab ac] Z Z (gn.cells (off := 00) Z)) ?_;obtain ⟨q2, h1, H⟩ := H;refine Y6 go24 [.agg #[vs r.Id, vi r.Shape.Kind, G am an ao, G aa ab ac]] Z (vb q2) (fun w g => (F87.calls h1 (bt.k0 g).ok az ((dz.st e5).st (.new _ g)) ((ce.st e5).st (.new _ g))).mono ?_) ?_
  ·rintro _ w ⟨r, rfl, rfl, g2⟩;exact ⟨Z, Gr.t0 g g2⟩
  refine Xh (Zd u4_ q q2 (q == q2) Z Z Z) (Y3 (vb (q == q2)) Z (Yn fun pp h2 => ?_));have h3 := bt.k0 h2;refine Xk ?_;have h4 := h3.clear;exact ⟨[vb (q == q2)], ⟨_, Z, Z⟩, q == q2, Z, H, h4.gr.g0⟩
 have H := Xj H ba;refine Xl ba Z (Xa (Xm fa44_1 (Ad a9 0) (Ad a9 1) Z Z) (Xl ba Z (Xa (Xm fa41_1 (Ad a9 1) (Ad a9 2) Z Z) (Xl ba Z ?_))));have e6 := (fm.k0 er);refine Xa (Xp ag39 cL (Ad a9 2) (G am an ao) Z (e6.cell Z)) (Xl ba Z ?_);have b5 := e4.stn er;have pq := (dz.st b5).le;refine Xa (X4 u39_ am an ao (dz.st b5).len Z) (Xl ba Z (Xa (Xx (r.Shape.Pts.length : Int) 4 (decide ((r.Shape.Pts.length : Int) > 4)) Z Z Z) (Xa (Yv false (vb (decide ((r.Shape.Pts.length : Int) > 4))) (by exact congrArg Value.bool ba) Z) (Xb ?_))));refine Xu (decide ((r.Shape.Pts.length : Int) > 4)) Z (fun fn => ?_) (fun fn => ?_)
 ·have H := Xi H fn;refine Xc (Yz (fun x => Gr gm x none) RK RK (Gr.drew _) ?_);refine Xh (Xr ag44 sz44 cQ (Ad a9 0) [vs r.Id, vi r.Shape.Kind, G am an ao, G aa ab ac] Z Z (e6.cells (off := 00) Z)) ?_;obtain ⟨q3, h5, H⟩ := H;refine Y6 go25 [.agg #[vs r.Id, vi r.Shape.Kind, G am an ao, G aa ab ac]] Z (vb q3) (fun w g => (F98.calls h5 (bt.k0 g).ok az ((dz.st b5).st (.new _ g)) ((ce.st b5).st (.new _ g))).mono ?_) ?_
  ·rintro _ w ⟨r, rfl, rfl, g2⟩;exact ⟨Z, Gr.t0 g g2⟩
  refine Xh (Xr ag44 sz44 cQ (Ad a9 0) [vs r.Id, vi r.Shape.Kind, G am an ao, G aa ab ac] Z Z (e6.cells (off := 00) Z)) ?_;obtain ⟨q4, h6, H⟩ := H;refine Y6 go24 [.agg #[vs r.Id, vi r.Shape.Kind, G am an ao, G aa ab ac]] Z (vb q4) (fun w g => (F87.calls h6 (bt.k0 g).ok az ((dz.st b5).st (.new _ g)) ((ce.st b5).st (.new _ g))).mono ?_) ?_
  ·rintro _ w ⟨r, rfl, rfl, g2⟩;exact ⟨Z, Gr.t0 g g2⟩
  refine Xh (Zd u4_ q3 q4 (q3 == q4) Z Z Z) (Y3 (vb (q3 == q4)) Z (Yn fun pr h7 => ?_));have h8 := bt.k0 h7;refine Xk ?_;have h9 := h8.clear;exact ⟨[vb (q3 == q4)], ⟨_, Z, Z⟩, q3 == q4, Z, H, h9.gr.g0⟩
 have H := Xj H fn;refine Xz (Xc (Xd (Xa (Xr ag44 sz44 cL (Ad a9 0) [vs r.Id, vi r.Shape.Kind, G am an ao, G aa ab ac] Z Z (e6.cells (off := 00) Z)) (Ya [vs [], .int .i64 0, G none 0 0, G none 0 0] ze44 fun ps ad eb hu150 ec ia => ?_))));have ed := bt.own ec (some ad) (X9 eb hu150);refine Xw [vs r.Id, vi r.Shape.Kind, G am an ao, G aa ab ac] ia Z Z sz44 Z Z fun pt ee ib => ?_;have ic := ed.wr 0 Z ee;refine Xb (Xc ?_);have ef : ([some ad, some ey, some ex, some a9] : Ob).Perm ((some ey :: some ex :: some a9 :: []) ++ [some ad]) := RP;have eg := ic.drops ef;refine Xd (Xa (Yi (.agg #[vi 50, vi 1]) RF) (Xa (Yi (.agg #[vi 51, vi 2]) RF) (X7 (kd := kPt) Ye eg ([(⟨50, 1⟩ : Pt), (⟨51, 2⟩ : Pt)] : List Pt) (cells := [vi 50, vi 1, vi 51, vi 2]) ⟨[vi 50, vi 1], _, Z, (kPt.mk _ _ (⟨50, 1⟩ : Pt)), ⟨[vi 51, vi 2], _, Z, (kPt.mk _ _ (⟨51, 2⟩ : Pt)), Z⟩⟩ RF fun pu ae aj ak eh hr165 cf e7 => ?_)));refine Xa (Yi (.agg #[vi 2, G ae aj ak]) RF) (Xa (Xm fa44_1 (Ad ad 0) (Ad ad 1) Z Z) ?_);have id := (ib.k0 eh);refine Yq 1 [vi 2, G ae aj ak] [vs r.Id, vi 2, G ae aj ak, G aa ab ac] id Z Z sz41 Z Z Z fun pv cg gp => ?_;have ei := cf.wr 1 Z cg;refine Xb (Xc (Xd (Xa (Xr ag44 sz44 cL (Ad ad 0) [vs r.Id, vi 2, G ae aj ak, G aa ab ac] Z Z (gp.cells (off := 00) Z)) (Ya [vs [], .int .i64 0, G none 0 0, G none 0 0] ze44 fun pw af ch hu178 b6 ie => ?_))));have b7 := ei.own b6 (some af) (X9 ch hu178);refine Xw [vs r.Id, vi 2, G ae aj ak, G aa ab ac] ie Z Z sz44 Z Z fun px b8 ig => ?_;have ej := b7.wr 0 Z b8;refine Xb (Xc (Xd (Xa (Yi (.agg #[vi 49, vi 0]) RF) (Xa (Yi (.agg #[vi 50, vi 1]) RF) (Xa (Yi (.agg #[vi 51, vi 2]) RF) (X7 (kd := kPt) Ye ej ([(⟨49, 0⟩ : Pt), (⟨50, 1⟩ : Pt), (⟨51, 2⟩ : Pt)] : List Pt) (cells := [vi 49, vi 0, vi 50, vi 1, vi 51, vi 2]) ⟨[vi 49, vi 0], _, Z, (kPt.mk _ _ (⟨49, 0⟩ : Pt)), ⟨[vi 50, vi 1], _, Z, (kPt.mk _ _ (⟨50, 1⟩ : Pt)), ⟨[vi 51, vi 2], _, Z, (kPt.mk _ _ (⟨51, 2⟩ : Pt)), Z⟩⟩⟩ RF fun py ag bu bv b9 hr191 bj fo => ?_))))));refine Xa (Yi (.agg #[vi 2, G ag bu bv]) RF) (Xa (Xm fa44_1 (Ad af 0) (Ad af 1) Z Z) ?_);have ih := (ig.k0 b9);refine Yq 1 [vi 2, G ag bu bv] [vs r.Id, vi 2, G ag bu bv, G aa ab ac] ih Z Z sz41 Z Z Z fun pz bl ii => ?_;have ek := bj.wr 1 Z bl;refine Xb (Xc (Xd ?_));have gq := (bj.bm ((b7.bm (gp.k0 b6) 2 0 Z Z Z b8).k0 b9) 3 1 Z Z Z bl);refine Xa (Xr ag44 sz44 cL (Ad ad 0) [vs r.Id, vi 2, G ae aj ak, G aa ab ac] Z Z (gq.cells (off := 00) Z)) (Ya [vs [], .int .i64 0, G none 0 0, G none 0 0] ze44 fun p0 ah bp hu205 bb ij => ?_);have bc := ek.own bb (some ah) (X9 bp hu205);refine Xw [vs r.Id, vi 2, G ae aj ak, G aa ab ac] ij Z Z sz44 Z Z fun p1 bd ik => ?_;have el := bc.wr 0 Z bd;refine Xb (Xc (Xd (Xa (Yi (.agg #[vi 50, vi 1]) RF) (Xa (Yi (.agg #[vi 51, vi 2]) RF) (Xa (Yi (.agg #[vi 52, vi 0]) RF) (X7 (kd := kPt) Ye el ([(⟨50, 1⟩ : Pt), (⟨51, 2⟩ : Pt), (⟨52, 0⟩ : Pt)] : List Pt) (cells := [vi 50, vi 1, vi 51, vi 2, vi 52, vi 0]) ⟨[vi 50, vi 1], _, Z, (kPt.mk _ _ (⟨50, 1⟩ : Pt)), ⟨[vi 51, vi 2], _, Z, (kPt.mk _ _ (⟨51, 2⟩ : Pt)), ⟨[vi 52, vi 0], _, Z, (kPt.mk _ _ (⟨52, 0⟩ : Pt)), Z⟩⟩⟩ RF fun p2 ap cj ck be hr218 a4 gs => ?_))))));refine Xa (Yi (.agg #[vi 2, G ap cj ck]) RF) (Xa (Xm fa44_1 (Ad ah 0) (Ad ah 1) Z Z) ?_);have il := (ik.k0 be);refine Yq 1 [vi 2, G ap cj ck] [vs r.Id, vi 2, G ap cj ck, G aa ab ac] il Z Z sz41 Z Z Z fun gt a5 gu => ?_;have ca := a4.wr 1 Z a5;refine Xb (Xc (Xd ?_));have gw := (a4.bm ((bc.bm (gq.k0 bb) 4 0 Z Z Z bd).k0 be) 5 1 Z Z Z a5);refine Xa (Xr ag44 sz44 cL (Ad ad 0) [vs r.Id, vi 2, G ae aj ak, G aa ab ac] Z Z (gw.cells (off := 00) Z)) ?_;have gx := (a4.bm ((bc.bm (ii.k0 bb) 2 0 Z Z Z bd).k0 be) 3 1 Z Z Z a5);refine Xa (Xr ag44 sz44 cL (Ad af 0) [vs r.Id, vi 2, G ag bu bv, G aa ab ac] Z Z (gx.cells (off := 00) Z)) (Xa (Xr ag44 sz44 cL (Ad ah 0) [vs r.Id, vi 2, G ap cj ck, G aa ab ac] Z Z (gu.cells (off := 00) Z)) ?_);have im := (a4.sw ((bc.sw ((bj.sw ((b7.sw ((cf.sw e7 0 1 Z Z Z cg).so _ b6 (Xg ch)) 1 0 Z Z Z b8).so _ b9 hr191) 2 1 Z Z Z bl).so _ bb (Xg bp)) 3 0 Z Z Z bd).so _ be hr218) 4 1 Z Z Z a5);have io := ca.gv im 4 Z;have e8 := ca.drop 4 Z;have ip := (ca.sd (a4.sw ((bc.sw ((bj.sw fo 0 1 Z Z Z bl).so _ bb (Xg bp)) 1 0 Z Z Z bd).so _ be hr218) 2 1 Z Z Z a5) 2 4 Z Z Z);have iq := e8.gv ip 2 Z;have fp := e8.drop 2 Z;have ir := (e8.sd (ca.sd (a4.sw gs 0 1 Z Z Z a5) 0 4 Z Z Z) 0 2 Z Z Z);have it := fp.gv ir 0 Z;have iu : Ct [] w0 gt [some ah, some af, some ad] O := fp.drop 0 Z;have gy := e8.std 2 Z;have fq := fp.std 0 Z;have iv := ((io.st gy).st fq);have iw := bt.stown _ ec (Xg eb);have ix := ed.stw 0 Z ee;have iy := eg.stown _ eh hr165;have iz := cf.stw 1 Z cg;have i0 := ei.stown _ b6 (Xg ch);have i1 := b7.stw 0 Z b8;have i2 := ej.stown _ b9 hr191;have i3 := bj.stw 1 Z bl;have i4 := ek.stown _ bb (Xg bp);have i5 := bc.stw 0 Z bd;have i6 := el.stown _ be hr218;have i7 := a4.stw 1 Z a5;have i8 := ca.std 4 Z;have fr := (((((((((((((((((ce.st b5).st iw).st ix).st (St.drops _ O ef)).st iy).st iz).st i0).st i1).st i2).st i3).st i4).st i5).st i6).st i7).st i8).st gy).st fq);refine Xs go26 (F59.calls H iu.ok az iv fr az (iq.st fq) fr az it fr) Z ?_;rintro _ p3 ⟨r9, r10, ai, bw, bx, aq, cl, cm, al, cn, co, rfl, H, bf, i9, bz, ja, jb, jc, jd⟩;have je := Ok.unl (L := [bk ap, some ah, bk ag, some af, bk ae, some ad]) (L' := [some ah, some af, some ad]) (O := O) ca bf i9 bz;have gz := Ow.unl (L := [bk ap, some ah, bk ag, some af, bk ae, some ad]) (L' := [some ah, some af, some ad]) (O := O) (fun _ _ _ _ _ _ h => h) (.cons _ (.cons_cons _ (.cons _ (.cons_cons _ (.cons _ (.cons_cons _ (.slnil))))))) jb;have jf := Ow.unl (L := [bk ap, some ah, bk ag, some af, bk ae, some ad]) (L' := [some ah, some af, some ad]) (O := O) (fun _ _ _ _ _ _ h => h) (.cons _ (.cons_cons _ (.cons _ (.cons_cons _ (.cons _ (.cons_cons _ (.slnil))))))) jc;have jg := Ow.unl (L := [bk ap, some ah, bk ag, some af, bk ae, some ad]) (L' := [some ah, some af, some ad]) (O := O) (fun _ _ _ _ _ _ h => h) (.cons _ (.cons_cons _ (.cons _ (.cons_cons _ (.cons _ (.cons_cons _ (.slnil))))))) jd;have es := ca.owns bf je bz;refine Xe (.tuple #[.agg #[vs r9.Id, vi r9.Shape.Kind, G ai bw bx, G aq cl cm], G al cn co]) Z (Xa (Yo [.agg #[vs r9.Id, vi r9.Shape.Kind, G ai bw bx, G aq cl cm], G al cn co] 0 (.agg #[vs r9.Id, vi r9.Shape.Kind, G ai bw bx, G aq cl cm]) Z Z) (Xa (Yo [.agg #[vs r9.Id, vi r9.Shape.Kind, G ai bw bx, G aq cl cm], G al cn co] 1 (G al cn co) Z Z) (Ya [vs [], .int .i64 0, G none 0 0, G none 0 0] ze44 fun p4 au bg hu288 a0 jh => ?_)));have a1 := es.own a0 (some au) (X9 bg hu288);refine Xw [vs r9.Id, vi r9.Shape.Kind, G ai bw bx, G aq cl cm] jh Z Z sz44 Z Z fun g1 a2 ji => ?_;have ci := a1.wr 0 Z a2;refine Xf (G al cn co) Z (Xb (Xc (Xd ?_)));have g3 := (a1.bm ((gw.k0 bf).k0 a0) 9 0 Z Z Z a2);refine Xa (Xr ag44 sz44 cL (Ad ad 0) [vs r.Id, vi 2, G ae aj ak, G aa ab ac] Z Z (g3.cells (off := 00) Z)) ?_;have g4 := (a1.bm ((gx.k0 bf).k0 a0) 7 0 Z Z Z a2);refine Xa (Xr ag44 sz44 cL (Ad af 0) [vs r.Id, vi 2, G ag bu bv, G aa ab ac] Z Z (g4.cells (off := 00) Z)) ?_;have jj := (a1.bm ((gu.k0 bf).k0 a0) 5 0 Z Z Z a2);refine Xa (Xr ag44 sz44 cL (Ad ah 0) [vs r.Id, vi 2, G ap cj ck, G aa ab ac] Z Z (jj.cells (off := 00) Z)) ?_;have jk := (a1.sw (((a4.sw ((bc.sw ((bj.sw ((b7.sw ((cf.sw e7 0 1 Z Z Z cg).so _ b6 (Xg ch)) 1 0 Z Z Z b8).so _ b9 hr191) 2 1 Z Z Z bl).so _ bb (Xg bp)) 3 0 Z Z Z bd).so _ be hr218) 4 1 Z Z Z a5).sos bf bz).so _ a0 (Xg bg)) 8 0 Z Z Z a2);have jl := ci.gv jk 8 Z;have e9 := ci.drop 8 Z;have jm := (ci.sd (a1.sw (((a4.sw ((bc.sw ((bj.sw fo 0 1 Z Z Z bl).so _ bb (Xg bp)) 1 0 Z Z Z bd).so _ be hr218) 2 1 Z Z Z a5).sos bf bz).so _ a0 (Xg bg)) 6 0 Z Z Z a2) 6 8 Z Z Z);have jn := e9.gv jm 6 Z;have fs := e9.drop 6 Z;have jo := (e9.sd (ci.sd (a1.sw (((a4.sw gs 0 1 Z Z Z a5).sos bf bz).so _ a0 (Xg bg)) 4 0 Z Z Z a2) 4 8 Z Z Z) 4 6 Z Z Z);have jp := fs.gv jo 4 Z;have jq : Ct [] w0 g1 [some au, bk ai, bk aq, bk al, some ah, some af, some ad] O := fs.drop 4 Z;have g5 := e9.std 6 Z;have ft := fs.std 4 Z;have jr := ((jl.st g5).st ft);have js := bt.stown _ ec (Xg eb);have jt := ed.stw 0 Z ee;have ju := eg.stown _ eh hr165;have jv := cf.stw 1 Z cg;have jw := ei.stown _ b6 (Xg ch);have jx := b7.stw 0 Z b8;have jy := ej.stown _ b9 hr191;have jz := bj.stw 1 Z bl;have j0 := ek.stown _ bb (Xg bp);have j1 := bc.stw 0 Z bd;have j2 := el.stown _ be hr218;have j3 := a4.stw 1 Z a5;have j4 := ca.stos bf bz;have j5 := es.stown _ a0 (Xg bg);have j6 := a1.stw 0 Z a2;have j7 := ci.std 8 Z;have fu := ((((((((((((((((((((ce.st b5).st js).st jt).st (St.drops _ O ef)).st ju).st jv).st jw).st jx).st jy).st jz).st j0).st j1).st j2).st j3).st j4).st j5).st j6).st j7).st g5).st ft);refine Xs go27 (F61.calls H jq.ok az jr fu az (jn.st ft) fu az jp fu) Z ?_;rintro _ p5 ⟨r11, r12, ay, cp, cq, aw, cr, cs, a3, d0, d1, rfl, H, bh, j8, b0, j9, ka, kb, kc⟩;have ke := Ok.unl (L := [some au, bk ai, bk aq, bk al, bk ap, some ah, bk ag, some af, bk ae, some ad]) (L' := [some au, bk ai, bk aq, bk al, some ah, some af, some ad]) (O := O) ci bh j8 b0;have kf := Ow.unl (L := [some au, bk ai, bk aq, bk al, bk ap, some ah, bk ag, some af, bk ae, some ad]) (L' := [some au, bk ai, bk aq, bk al, some ah, some af, some ad]) (O := O) (fun _ _ _ _ _ _ h => h) (.cons_cons _ (.cons_cons _ (.cons_cons _ (.cons_cons _ (.cons _ (.cons_cons _ (.cons _ (.cons_cons _ (.cons _ (.cons_cons _ (.slnil))))))))))) ka;have kg := Ow.unl (L := [some au, bk ai, bk aq, bk al, bk ap, some ah, bk ag, some af, bk ae, some ad]) (L' := [some au, bk ai, bk aq, bk al, some ah, some af, some ad]) (O := O) (fun _ _ _ _ _ _ h => h) (.cons_cons _ (.cons_cons _ (.cons_cons _ (.cons_cons _ (.cons _ (.cons_cons _ (.cons _ (.cons_cons _ (.cons _ (.cons_cons _ (.slnil))))))))))) kb;have kh := Ow.unl (L := [some au, bk ai, bk aq, bk al, bk ap, some ah, bk ag, some af, bk ae, some ad]) (L' := [some au, bk ai, bk aq, bk al, some ah, some af, some ad]) (O := O) (fun _ _ _ _ _ _ h => h) (.cons_cons _ (.cons_cons _ (.cons_cons _ (.cons_cons _ (.cons _ (.cons_cons _ (.cons _ (.cons_cons _ (.cons _ (.cons_cons _ (.slnil))))))))))) kc;have fa := ci.owns bh ke b0;refine Xe (.tuple #[.agg #[vs r11.Id, vi r11.Shape.Kind, G ay cp cq, G aw cr cs], G a3 d0 d1]) Z (Xa (Yo [.agg #[vs r11.Id, vi r11.Shape.Kind, G ay cp cq, G aw cr cs], G a3 d0 d1] 0 (.agg #[vs r11.Id, vi r11.Shape.Kind, G ay cp cq, G aw cr cs]) Z Z) (Xa (Yo [.agg #[vs r11.Id, vi r11.Shape.Kind, G ay cp cq, G aw cr cs], G a3 d0 d1] 1 (G a3 d0 d1) Z Z) (Ya [vs [], .int .i64 0, G none 0 0, G none 0 0] ze44 fun p6 bn bo hu361 a6 ki => ?_)));have a7 := fa.own a6 (some bn) (X9 bo hu361);refine Xw [vs r11.Id, vi r11.Shape.Kind, G ay cp cq, G aw cr cs] ki Z Z sz44 Z Z fun g6 a8 kj => ?_;have ct := a7.wr 0 Z a8;refine Xf (G a3 d0 d1) Z (Xb (Xc (Xc (Xd ?_))));have g7 := (a7.bm ((ji.k0 bh).k0 a6) 4 0 Z Z Z a8);refine Xa (Xr ag44 sz44 cL (Ad au 0) [vs r9.Id, vi r9.Shape.Kind, G ai bw bx, G aq cl cm] Z Z (g7.cells (off := 00) Z)) (Xa (Xr ag44 sz44 cL (Ad bn 0) [vs r11.Id, vi r11.Shape.Kind, G ay cp cq, G aw cr cs] Z Z (kj.cells (off := 00) Z)) ?_);have kk := (a7.sw (((a1.sw (gz.so _ a0 (Xg bg)) 1 0 Z Z Z a2).sos bh b0).so _ a6 (Xg bo)) 5 0 Z Z Z a8);have kl := ct.gv kk 5 Z;have et := ct.drop 5 Z;have km := (ct.sd (a7.sw (((a1.sw (jf.so _ a0 (Xg bg)) 2 0 Z Z Z a2).sos bh b0).so _ a6 (Xg bo)) 6 0 Z Z Z a8) 6 5 Z Z Z);have kn := et.gv km 5 Z;have fb := et.drop 5 Z;have ko := (et.sd (ct.sd (a7.sw (kf.so _ a6 (Xg bo)) 1 0 Z Z Z a8) 1 5 Z Z Z) 1 5 Z Z Z);have kp := fb.gv ko 1 Z;have fv : Ct [] w0 g6 [some bn, bk aw, bk a3, some au, bk al, bk ap, some ah, bk ag, some af, bk ae, some ad] O := fb.drop 1 Z;have kq := (fb.sd (et.sd (ct.sd (a7.sw (kg.so _ a6 (Xg bo)) 2 0 Z Z Z a8) 2 5 Z Z Z) 2 5 Z Z Z) 2 1 Z Z Z);have kr := fv.gv kq 1 Z;have ks := fv.drop 1 Z;have kt := et.std 5 Z;have g8 := fb.std 1 Z;have fw := fv.std 1 Z;have ku := (((kl.st kt).st g8).st fw);have kv := ((kn.st g8).st fw);refine Xs go28 (F46.calls H ks.ok ja ku kv j9 (kp.st fw) kr) Z ?_;rintro _ kx ⟨r13, rfl, H, bq⟩;have cu := ct.k0 bq;refine Xa (Yr r13 Z) (Xe (vb (!r13)) Z ?_);rcases Yb (!r13) with bi | bi
 ·have H := Xi H bi;refine Xn bi Z (Xn bi Z (Xn bi Z (Xn bi Z (Xn bi Z (Xa (Xv true (vb true) bi Z) (Xe (vb true) Z (X2 (dj := 87) Z Z (.inl Z) (X2 (dj := 87) Z Z (.inl Z) ?_))))))));refine X2 (dj := 87) Z Z (.inl Z) (Xa (Xv true (vb true) Z Z) (Xe (vb true) Z (X2 (dj := 92) Z Z (.inl Z) (X2 (dj := 92) Z Z (.inl Z) (X2 (dj := 92) Z Z (.inl Z) (X2 (dj := 92) Z Z (.inl Z) (Xa (Xv true (vb true) Z Z) (Xb ?_))))))));refine Yp (b := true) Z Z ?_;refine Xc ?_;have ky : ([some bn, bk ay, bk aw, bk a3, some au, bk ai, bk aq, bk al, bk ap, some ah, bk ag, some af, bk ae, some ad] : Ob).Perm ((some bn :: bk ay :: bk aw :: bk a3 :: some au :: bk ai :: bk aq :: bk al :: bk ap :: some ah :: bk ag :: some af :: bk ae :: some ad :: []) ++ []) := RP;have kz := cu.drops ky;exact Xd (Xf (vb false) Z (Xb (Xk ⟨[vb false], ⟨_, Z, Z⟩, false, Z, H, kz.gr.g0⟩)))
 have H := Xj H bi;refine Xl bi Z (Xe (G al cn co) Z (Xl bi Z ?_));have fx := ((a7.sw (((a1.sw (jg.so _ a0 (Xg bg)) 3 0 Z Z Z a2).sos bh b0).so _ a6 (Xg bo)) 7 0 Z Z Z a8).sn bq);have p7 := fx.le;refine Xa (X4 u50_ al cn co fx.len Z) (Xl bi Z (Xe (G a3 d0 d1) Z (Xl bi Z ?_)));have ha := ((a7.sw (kh.so _ a6 (Xg bo)) 3 0 Z Z Z a8).sn bq);have p8 := ha.le;refine Xa (X4 u50_ a3 d0 d1 ha.len Z) (Xl bi Z (Xa (Xx (r10.length : Int) (r12.length : Int) ((r10.length : Int) != (r12.length : Int)) Z Z Z) (Xa (Xv false (vb ((r10.length : Int) != (r12.length : Int))) bi Z) (Xe (vb ((r10.length : Int) != (r12.length : Int))) Z ?_))));rcases Yb ((r10.length : Int) != (r12.length : Int)) with cb | cb
 ·have H := Xi H cb;refine Xn cb Z (Xn cb Z (Xn cb Z (Xa (Xv true (vb true) cb Z) (Xe (vb true) Z (X2 (dj := 92) Z Z (.inl Z) (X2 (dj := 92) Z Z (.inl Z) (X2 (dj := 92) Z Z (.inl Z) (X2 (dj := 92) Z Z (.inl Z) ?_))))))));refine Xa (Xv true (vb true) Z Z) (Xb (Yp (b := true) Z Z ?_));refine Xc ?_;have k1 : ([some bn, bk ay, bk aw, bk a3, some au, bk ai, bk aq, bk al, bk ap, some ah, bk ag, some af, bk ae, some ad] : Ob).Perm ((some bn :: bk ay :: bk aw :: bk a3 :: some au :: bk ai :: bk aq :: bk al :: bk ap :: some ah :: bk ag :: some af :: bk ae :: some ad :: []) ++ []) := RP;have k2 := cu.drops k1;exact Xd (Xf (vb false) Z (Xb (Xk ⟨[vb false], ⟨_, Z, Z⟩, false, Z, H, k2.gr.g0⟩)))
 have H := Xj H cb;refine Xl cb Z (Xe (G al cn co) Z (Xl cb Z (Xa (X4 u50_ al cn co fx.len Z) (Xl cb Z (Xa (Xx (r10.length : Int) 0 (decide ((r10.length : Int) > 0)) Z Z Z) (Xa (Yv false (vb (decide ((r10.length : Int) > 0))) (by exact congrArg Value.bool cb) Z) (Xe (vb (decide ((r10.length : Int) > 0))) Z ?_)))))));rcases Yb (decide ((r10.length : Int) > 0)) with br | br
 ·have H := Xi H br;refine Xn br Z (Xn br Z (Xn br Z (Xn br Z (Xa (Xv true (vb true) br Z) (Xb (Yp (b := true) Z Z ?_))))));refine Xc ?_;have k3 : ([some bn, bk ay, bk aw, bk a3, some au, bk ai, bk aq, bk al, bk ap, some ah, bk ag, some af, bk ae, some ad] : Ob).Perm ((some bn :: bk ay :: bk aw :: bk a3 :: some au :: bk ai :: bk aq :: bk al :: bk ap :: some ah :: bk ag :: some af :: bk ae :: some ad :: []) ++ []) := RP;have k4 := cu.drops k3;exact Xd (Xf (vb false) Z (Xb (Xk ⟨[vb false], ⟨_, Z, Z⟩, false, Z, H, k4.gr.g0⟩)))
 have H := Xj H br;refine Xl br Z (Xa (Xm fa44_1 (Ad au 0) (Ad au 1) Z Z) (Xl br Z ?_));have k5 := (g7.k0 bq);refine Xa (Xr ag41 sz41 cL (Ad au 1) [vi r9.Shape.Kind, G ai bw bx] Z Z (k5.cells (off := 1) Z)) (Xl br Z ?_);have k6 := ((a7.sw (((a1.sw (gz.so _ a0 (Xg bg)) 1 0 Z Z Z a2).sos bh b0).so _ a6 (Xg bo)) 5 0 Z Z Z a8).sn bq);have k7 := cu.gv k6 5 Z;have hb := cu.drop 5 Z;refine Xs go29 (F41.calls H hb.ok (hG.st hb.st) k7) Z ?_;rintro _ p9 ⟨r14, rfl, H, cv, qa⟩;have eu := cu.k0 cv;refine Xl br Z (Xa (Y0 r14 ([108, 105, 110, 101, 32, 52, 57, 44, 48, 32, 53, 48, 44, 49, 32, 53, 49, 44, 50, 32, 53, 50, 44, 48] : Str) (r14 != ([108, 105, 110, 101, 32, 52, 57, 44, 48, 32, 53, 48, 44, 49, 32, 53, 49, 44, 50, 32, 53, 50, 44, 48] : Str)) Z Z Z) (Xa (Xv false (vb (r14 != ([108, 105, 110, 101, 32, 52, 57, 44, 48, 32, 53, 48, 44, 49, 32, 53, 49, 44, 50, 32, 53, 50, 44, 48] : Str))) br Z) (Xb ?_)));refine Xu (r14 != ([108, 105, 110, 101, 32, 52, 57, 44, 48, 32, 53, 48, 44, 49, 32, 53, 49, 44, 50, 32, 53, 50, 44, 48] : Str)) Z (fun fy => ?_) (fun fy => ?_)
 ·have H := Xi H fy;refine Xc ?_;have k8 : ([some bn, bk ay, bk aw, bk a3, some au, bk ai, bk aq, bk al, bk ap, some ah, bk ag, some af, bk ae, some ad] : Ob).Perm ((some bn :: bk ay :: bk aw :: bk a3 :: some au :: bk ai :: bk aq :: bk al :: bk ap :: some ah :: bk ag :: some af :: bk ae :: some ad :: []) ++ []) := RP;have k9 := eu.drops k8;exact Xd (Xf (vb false) Z (Xb (Xk ⟨[vb false], ⟨_, Z, Z⟩, false, Z, H, k9.gr.g0⟩)))
 have H := Xj H fy;refine Xz (Xc ?_);have d2 : ([some bn, bk ay, bk aw, bk a3, some au, bk ai, bk aq, bk al, bk ap, some ah, bk ag, some af, bk ae, some ad] : Ob).Perm ((some bn :: bk ay :: bk aw :: bk a3 :: some au :: bk ai :: bk aq :: bk al :: bk ap :: some ah :: []) ++ [bk ag, some af, bk ae, some ad]) := RP;have fc := eu.drops d2;refine Xd ?_;have hc := (((a7.bm ((g3.k0 bh).k0 a6) 13 0 Z Z Z a8).k0 bq).k0 cv);refine Xa (Xr ag44 sz44 cL (Ad ad 0) [vs r.Id, vi 2, G ae aj ak, G aa ab ac] Z Z (hc.cells (off := 00) Z)) (Ya [vs [], .int .i64 0, G none 0 0, G none 0 0] ze44 fun qb ar d3 hu432 cw la => ?_);have cx := fc.own cw (some ar) (X9 d3 hu432);refine Xw [vs r.Id, vi 2, G ae aj ak, G aa ab ac] la Z Z sz44 Z Z fun qc cy lb => ?_;have fd := cx.wr 0 Z cy;refine Xb (Xc (Xd (Xa (Yi (.agg #[vi 7, vi 0]) RF) (X7 (kd := kPt) Ye fd ([(⟨7, 0⟩ : Pt)] : List Pt) (cells := [vi 7, vi 0]) ⟨[vi 7, vi 0], _, Z, (kPt.mk _ _ (⟨7, 0⟩ : Pt)), Z⟩ RF fun qd av b1 b2 cz hr445 b3 fz => ?_))));refine Xa (Yi (.agg #[vi 1, G av b1 b2]) RF) (Xa (Xm fa44_1 (Ad ar 0) (Ad ar 1) Z Z) ?_);have lc := (lb.k0 cz);refine Yq 1 [vi 1, G av b1 b2] [vs r.Id, vi 1, G av b1 b2, G aa ab ac] lc Z Z sz41 Z Z Z fun hd b4 he => ?_;have c0 := b3.wr 1 Z b4;refine Xb (Xc (Xd ?_));have hf := (b3.bm ((cx.bm (hc.k0 cw) 4 0 Z Z Z cy).k0 cz) 5 1 Z Z Z b4);refine Xa (Xr ag44 sz44 cL (Ad ad 0) [vs r.Id, vi 2, G ae aj ak, G aa ab ac] Z Z (hf.cells (off := 00) Z)) ?_;have ld := (b3.bm ((cx.bm ((((a7.bm ((g4.k0 bh).k0 a6) 11 0 Z Z Z a8).k0 bq).k0 cv).k0 cw) 2 0 Z Z Z cy).k0 cz) 3 1 Z Z Z b4);refine Xa (Xr ag44 sz44 cL (Ad af 0) [vs r.Id, vi 2, G ag bu bv, G aa ab ac] Z Z (ld.cells (off := 00) Z)) (Xa (Xr ag44 sz44 cL (Ad ar 0) [vs r.Id, vi 1, G av b1 b2, G aa ab ac] Z Z (he.cells (off := 00) Z)) ?_);have lf := (b3.sw ((cx.sw ((eu.odr (((a7.sw (((a1.sw (((a4.sw ((bc.sw ((bj.sw ((b7.sw ((cf.sw e7 0 1 Z Z Z cg).so _ b6 (Xg ch)) 1 0 Z Z Z b8).so _ b9 hr191) 2 1 Z Z Z bl).so _ bb (Xg bp)) 3 0 Z Z Z bd).so _ be hr218) 4 1 Z Z Z a5).sos bf bz).so _ a0 (Xg bg)) 8 0 Z Z Z a2).sos bh b0).so _ a6 (Xg bo)) 12 0 Z Z Z a8).sn bq).sn cv) d2 2 Z).so _ cw (Xg d3)) 3 0 Z Z Z cy).so _ cz hr445) 4 1 Z Z Z b4);have lg := c0.gv lf 4 Z;have fe := c0.drop 4 Z;have lh := (c0.sd (b3.sw ((cx.sw ((eu.odr (((a7.sw (((a1.sw (((a4.sw ((bc.sw ((bj.sw fo 0 1 Z Z Z bl).so _ bb (Xg bp)) 1 0 Z Z Z bd).so _ be hr218) 2 1 Z Z Z a5).sos bf bz).so _ a0 (Xg bg)) 6 0 Z Z Z a2).sos bh b0).so _ a6 (Xg bo)) 10 0 Z Z Z a8).sn bq).sn cv) d2 0 Z).so _ cw (Xg d3)) 1 0 Z Z Z cy).so _ cz hr445) 2 1 Z Z Z b4) 2 4 Z Z Z);have li := fe.gv lh 2 Z;have f0 := fe.drop 2 Z;have lj := (fe.sd (c0.sd (b3.sw fz 0 1 Z Z Z b4) 0 4 Z Z Z) 0 2 Z Z Z);have lk := f0.gv lj 0 Z;have ll : Ct [] w0 hd [some ar, some af, some ad] O := f0.drop 0 Z;have hg := fe.std 2 Z;have f1 := f0.std 0 Z;have lm := ((lg.st hg).st f1);have ln := bt.stown _ ec (Xg eb);have lo := ed.stw 0 Z ee;have lp := eg.stown _ eh hr165;have lq := cf.stw 1 Z cg;have lr := ei.stown _ b6 (Xg ch);have ls := b7.stw 0 Z b8;have lt := ej.stown _ b9 hr191;have lu := bj.stw 1 Z bl;have lv := ek.stown _ bb (Xg bp);have lw := bc.stw 0 Z bd;have lx := el.stown _ be hr218;have ly := a4.stw 1 Z a5;have lz := ca.stos bf bz;have l0 := es.stown _ a0 (Xg bg);have l1 := a1.stw 0 Z a2;have l2 := ci.stos bh b0;have l3 := fa.stown _ a6 (Xg bo);have l4 := a7.stw 0 Z a8;have l5 := ct.stn bq;have l6 := cu.stn cv;have l7 := fc.stown _ cw (Xg d3);have l8 := cx.stw 0 Z cy;have l9 := fd.stown _ cz hr445;have ma := b3.stw 1 Z b4;have mb := c0.std 4 Z;have f2 := ((((((((((((((((((((((((((((((ce.st b5).st ln).st lo).st (St.drops _ O ef)).st lp).st lq).st lr).st ls).st lt).st lu).st lv).st lw).st lx).st ly).st lz).st l0).st l1).st l2).st l3).st l4).st l5).st l6).st (St.drops _ O d2)).st l7).st l8).st l9).st ma).st mb).st hg).st f1);refine Xs go26 (F59.calls H ll.ok az lm f2 az (li.st f1) f2 az lk f2) Z ?_;rintro _ qe ⟨r15, r16, df, em, en, dg, eo, ep, ax, c1, c2, rfl, H, c4, mc, d4, qf, md, me, mf⟩;have mg := Ok.unl (L := [bk av, some ar, bk ag, some af, bk ae, some ad]) (L' := [some ar, some af, some ad]) (O := O) c0 c4 mc d4;have qg := Ow.unl (L := [bk av, some ar, bk ag, some af, bk ae, some ad]) (L' := [some ar, some af, some ad]) (O := O) (fun _ _ _ _ _ _ h => h) (.cons _ (.cons_cons _ (.cons _ (.cons_cons _ (.cons _ (.cons_cons _ (.slnil))))))) md;have qh := Ow.unl (L := [bk av, some ar, bk ag, some af, bk ae, some ad]) (L' := [some ar, some af, some ad]) (O := O) (fun _ _ _ _ _ _ h => h) (.cons _ (.cons_cons _ (.cons _ (.cons_cons _ (.cons _ (.cons_cons _ (.slnil))))))) me;have mh := Ow.unl (L := [bk av, some ar, bk ag, some af, bk ae, some ad]) (L' := [some ar, some af, some ad]) (O := O) (fun _ _ _ _ _ _ h => h) (.cons _ (.cons_cons _ (.cons _ (.cons_cons _ (.cons _ (.cons_cons _ (.slnil))))))) mf;have f3 := c0.owns c4 mg d4;refine Xe (.tuple #[.agg #[vs r15.Id, vi r15.Shape.Kind, G df em en, G dg eo ep], G ax c1 c2]) Z (Xa (Yo [.agg #[vs r15.Id, vi r15.Shape.Kind, G df em en, G dg eo ep], G ax c1 c2] 0 (.agg #[vs r15.Id, vi r15.Shape.Kind, G df em en, G dg eo ep]) Z Z) (Xa (Yo [.agg #[vs r15.Id, vi r15.Shape.Kind, G df em en, G dg eo ep], G ax c1 c2] 1 (G ax c1 c2) Z Z) (Ya [vs [], .int .i64 0, G none 0 0, G none 0 0] ze44 fun qi ff d5 hu527 c5 mi => ?_)));have c6 := f3.own c5 (some ff) (X9 d5 hu527);refine Xw [vs r15.Id, vi r15.Shape.Kind, G df em en, G dg eo ep] mi Z Z sz44 Z Z fun mj c7 qj => ?_;have ev := c6.wr 0 Z c7;refine Xf (G ax c1 c2) Z (Xb (Xc ?_));have d6 : ([some ff, bk df, bk dg, bk ax, bk av, some ar, bk ag, some af, bk ae, some ad] : Ob).Perm ((some ff :: bk df :: bk dg :: bk ag :: some af :: []) ++ [bk ax, bk av, some ar, bk ae, some ad]) := RP;have d7 := ev.drops d6;refine Xd ?_;have hh := (c6.bm ((hf.k0 c4).k0 c5) 9 0 Z Z Z c7);refine Xa (Xr ag44 sz44 cL (Ad ad 0) [vs r.Id, vi 2, G ae aj ak, G aa ab ac] Z Z (hh.cells (off := 00) Z)) (Xa (Xr ag44 sz44 cL (Ad ad 0) [vs r.Id, vi 2, G ae aj ak, G aa ab ac] Z Z (hh.cells (off := 00) Z)) ?_);have hi := (c6.bm ((he.k0 c4).k0 c5) 5 0 Z Z Z c7);refine Xa (Xr ag44 sz44 cL (Ad ar 0) [vs r.Id, vi 1, G av b1 b2, G aa ab ac] Z Z (hi.cells (off := 00) Z)) ?_;have ml := (ev.odr (c6.sw (((b3.sw ((cx.sw ((eu.odr (((a7.sw (((a1.sw (((a4.sw ((bc.sw ((bj.sw ((b7.sw ((cf.sw e7 0 1 Z Z Z cg).so _ b6 (Xg ch)) 1 0 Z Z Z b8).so _ b9 hr191) 2 1 Z Z Z bl).so _ bb (Xg bp)) 3 0 Z Z Z bd).so _ be hr218) 4 1 Z Z Z a5).sos bf bz).so _ a0 (Xg bg)) 8 0 Z Z Z a2).sos bh b0).so _ a6 (Xg bo)) 12 0 Z Z Z a8).sn bq).sn cv) d2 2 Z).so _ cw (Xg d3)) 3 0 Z Z Z cy).so _ cz hr445) 4 1 Z Z Z b4).sos c4 d4).so _ c5 (Xg d5)) 8 0 Z Z Z c7) d6 3 Z);have hj := d7.gv ml 3 Z;have f4 := d7.drop 3 Z;have mm := (d7.sd (ev.odr (c6.sw (((b3.sw fz 0 1 Z Z Z b4).sos c4 d4).so _ c5 (Xg d5)) 4 0 Z Z Z c7) d6 1 Z) 1 3 Z Z Z);have mn := f4.gv mm 1 Z;have mo := f4.drop 1 Z;have f5 := f4.std 1 Z;have mp := bt.stown _ ec (Xg eb);have mq := ed.stw 0 Z ee;have mr := eg.stown _ eh hr165;have ms := cf.stw 1 Z cg;have mt := ei.stown _ b6 (Xg ch);have mu := b7.stw 0 Z b8;have mv := ej.stown _ b9 hr191;have mw := bj.stw 1 Z bl;have mx := ek.stown _ bb (Xg bp);have my := bc.stw 0 Z bd;have mz := el.stown _ be hr218;have m0 := a4.stw 1 Z a5;have m1 := ca.stos bf bz;have m2 := es.stown _ a0 (Xg bg);have m3 := a1.stw 0 Z a2;have m4 := ci.stos bh b0;have m5 := fa.stown _ a6 (Xg bo);have m6 := a7.stw 0 Z a8;have m7 := ct.stn bq;have m8 := cu.stn cv;have m9 := fc.stown _ cw (Xg d3);have na := cx.stw 0 Z cy;have nb := fd.stown _ cz hr445;have nc := b3.stw 1 Z b4;have nd := c0.stos c4 d4;have ne := f3.stown _ c5 (Xg d5);have nf := c6.stw 0 Z c7;have ng := d7.std 3 Z;have f6 := (((((((((((((((((((((((((((((((((ce.st b5).st mp).st mq).st (St.drops _ O ef)).st mr).st ms).st mt).st mu).st mv).st mw).st mx).st my).st mz).st m0).st m1).st m2).st m3).st m4).st m5).st m6).st m7).st m8).st (St.drops _ O d2)).st m9).st na).st nb).st nc).st nd).st ne).st nf).st (St.drops _ O d6)).st ng).st f5);refine Xs go26 (F59.calls H mo.ok az (hj.st f5) f6 az (hj.st f5) f6 az mn f6) Z ?_;rintro _ qk ⟨r17, r18, c8, c9, da, db, dc, dd, dh, d8, d9, rfl, H, eq, nh, ew, ni, nj, nk, nl⟩;have nm := Ok.unl (L := [bk ax, bk av, some ar, bk ae, some ad]) (L' := [bk ax, some ar, some ad]) (O := O) d7 eq nh ew;have nn := Ow.unl (L := [bk ax, bk av, some ar, bk ae, some ad]) (L' := [bk ax, some ar, some ad]) (O := O) (fun _ _ _ _ _ _ h => h) (.cons_cons _ (.cons _ (.cons_cons _ (.cons _ (.cons_cons _ (.slnil)))))) nj;have no := Ow.unl (L := [bk ax, bk av, some ar, bk ae, some ad]) (L' := [bk ax, some ar, some ad]) (O := O) (fun _ _ _ _ _ _ h => h) (.cons_cons _ (.cons _ (.cons_cons _ (.cons _ (.cons_cons _ (.slnil)))))) nk;have np := Ow.unl (L := [bk ax, bk av, some ar, bk ae, some ad]) (L' := [bk ax, some ar, some ad]) (O := O) (fun _ _ _ _ _ _ h => h) (.cons_cons _ (.cons _ (.cons_cons _ (.cons _ (.cons_cons _ (.slnil)))))) nl;have hk := d7.owns eq nm ew;refine Xe (.tuple #[.agg #[vs r17.Id, vi r17.Shape.Kind, G c8 c9 da, G db dc dd], G dh d8 d9]) Z (Xa (Yo [.agg #[vs r17.Id, vi r17.Shape.Kind, G c8 c9 da, G db dc dd], G dh d8 d9] 0 (.agg #[vs r17.Id, vi r17.Shape.Kind, G c8 c9 da, G db dc dd]) Z Z) (Xa (Yo [.agg #[vs r17.Id, vi r17.Shape.Kind, G c8 c9 da, G db dc dd], G dh d8 d9] 1 (G dh d8 d9) Z Z) (Ya [vs [], .int .i64 0, G none 0 0, G none 0 0] ze44 fun ql fg ea hu607 di nq => ?_)));have dk := hk.own di (some fg) (X9 ea hu607);refine Xw [vs r17.Id, vi r17.Shape.Kind, G c8 c9 da, G db dc dd] nq Z Z sz44 Z Z fun hl dl nr => ?_;have de := dk.wr 0 Z dl;refine Xf (G dh d8 d9) Z (Xb (Xc (Xd (Xe (G ax c1 c2) Z ?_))));have fh := (dk.sw (((ev.odr (c6.sw (mh.so _ c5 (Xg d5)) 3 0 Z Z Z c7) d6 0 Z).sos eq ew).so _ di (Xg ea)) 4 0 Z Z Z dl);have qm := fh.le;refine Xa (X4 u50_ ax c1 c2 fh.len Z) (Xa (Xx (r16.length : Int) 1 ((r16.length : Int) == 1) Z Z Z) (Xe (vb ((r16.length : Int) == 1)) Z ?_));rcases Yb ((r16.length : Int) == 1) with bs | bs
 ·have H := Xi H bs;refine Xl bs Z (Xe (G ax c1 c2) Z (Xl bs Z ?_));obtain ⟨hm, H⟩ := H;obtain ⟨hn, qn, ns, nt, nu⟩ := fh.get default RD 0 hm;obtain ⟨rfl, qo⟩ := Kd.str.op nt;refine Xa (X3 u50_ Zl ax hn c1 c2 fh.len 0 Z ns Z hm) (Xl bs Z (Xa (Xp ag9 cL (hn.add ((0 : Int).toNat * 1)) (vs (nth r16 0)) Z (nu 0 _ Z)) (Xl bs Z (Xa (Y0 (nth r16 0) ([115, 104, 97, 112, 101] : Str) ((nth r16 0) == ([115, 104, 97, 112, 101] : Str)) Z Z Z) (Xa (Xv true (vb ((nth r16 0) == ([115, 104, 97, 112, 101] : Str))) bs Z) (Xe (vb ((nth r16 0) == ([115, 104, 97, 112, 101] : Str))) Z ?_))))));rcases Yb ((nth r16 0) == ([115, 104, 97, 112, 101] : Str)) with cc | cc
  ·have H := Xi H cc;refine Xl cc Z (Xe (G dh d8 d9) Z (Xl cc Z ?_));have ho := (dk.sw (np.so _ di (Xg ea)) 3 0 Z Z Z dl);have qp := ho.le;refine Xa (X4 u50_ dh d8 d9 ho.len Z) (Xl cc Z (Xa (Xx (r18.length : Int) 0 ((r18.length : Int) == 0) Z Z Z) (Xa (Xv true (vb ((r18.length : Int) == 0)) cc Z) (Xe (vb ((r18.length : Int) == 0)) Z ?_))));rcases Yb ((r18.length : Int) == 0) with cd | cd
   ·have H := Xi H cd;refine Xl cd Z (Xa (Xr ag44 sz44 cL (Ad fg 0) [vs r17.Id, vi r17.Shape.Kind, G c8 c9 da, G db dc dd] Z Z (nr.cells (off := 00) Z)) (Xl cd Z ?_));have nv := (dk.bm ((hi.k0 eq).k0 di) 6 0 Z Z Z dl);refine Xa (Xr ag44 sz44 cL (Ad ar 0) [vs r.Id, vi 1, G av b1 b2, G aa ab ac] Z Z (nv.cells (off := 00) Z)) (Xl cd Z ?_);have nw := (dk.sw (nn.so _ di (Xg ea)) 1 0 Z Z Z dl);have nx := de.gv nw 1 Z;have fi := de.drop 1 Z;have ny := (de.sd (dk.sw (no.so _ di (Xg ea)) 2 0 Z Z Z dl) 2 1 Z Z Z);have nz := fi.gv ny 1 Z;have f7 := fi.drop 1 Z;have n0 := (fi.sd (de.sd (dk.sw (((ev.odr (c6.sw (((b3.sw fz 0 1 Z Z Z b4).sos c4 d4).so _ c5 (Xg d5)) 4 0 Z Z Z c7) d6 1 Z).sos eq ew).so _ di (Xg ea)) 5 0 Z Z Z dl) 5 1 Z Z Z) 4 1 Z Z Z);have n1 := f7.gv n0 3 Z;have n3 : Ct [] w0 hl [some fg, bk dh, bk ax, some ar, bk ae, some ad] O := f7.drop 3 Z;have hp := fi.std 1 Z;have f8 := f7.std 3 Z;have n4 := ((nx.st hp).st f8);have n5 := bt.stown _ ec (Xg eb);have n6 := ed.stw 0 Z ee;have n7 := eg.stown _ eh hr165;have n8 := cf.stw 1 Z cg;have n9 := ei.stown _ b6 (Xg ch);have oa := b7.stw 0 Z b8;have ob := ej.stown _ b9 hr191;have oc := bj.stw 1 Z bl;have od := ek.stown _ bb (Xg bp);have oe := bc.stw 0 Z bd;have og := el.stown _ be hr218;have oh := a4.stw 1 Z a5;have oi := ca.stos bf bz;have oj := es.stown _ a0 (Xg bg);have ol := a1.stw 0 Z a2;have om := ci.stos bh b0;have on := fa.stown _ a6 (Xg bo);have oo := a7.stw 0 Z a8;have oq := ct.stn bq;have os := cu.stn cv;have ot := fc.stown _ cw (Xg d3);have ou := cx.stw 0 Z cy;have ov := fd.stown _ cz hr445;have ow := b3.stw 1 Z b4;have ox := c0.stos c4 d4;have oy := f3.stown _ c5 (Xg d5);have oz := c6.stw 0 Z c7;have o0 := d7.stos eq ew;have o1 := hk.stown _ di (Xg ea);have o2 := dk.stw 0 Z dl;have o3 := de.std 1 Z;have o4 := (((((((((((((((((((((((((((((((((((((ce.st b5).st n5).st n6).st (St.drops _ O ef)).st n7).st n8).st n9).st oa).st ob).st oc).st od).st oe).st og).st oh).st oi).st oj).st ol).st om).st on).st oo).st oq).st os).st (St.drops _ O d2)).st ot).st ou).st ov).st ow).st ox).st oy).st oz).st (St.drops _ O d6)).st o0).st o1).st o2).st o3).st hp).st f8);refine Xs go28 (F46.calls H n3.ok ni n4 (nz.st f8) az n1 o4) Z ?_;rintro _ qq ⟨r19, rfl, H, o5⟩;have o6 := de.k0 o5;refine Xa (Xv true (vb r19) cd Z) (Xf (vb r19) Z (Xb (Xk ?_)));have o7 := o6.clear;exact ⟨[vb r19], ⟨_, Z, Z⟩, r19, Z, H, o7.gr.g0⟩
   have H := Xj H cd;refine Xn cd Z (Xn cd Z (Xn cd Z (Xa (Xv false (vb false) cd Z) (Xf (vb false) Z (Xb (Xk ?_))))));have o8 := de.clear;exact ⟨[vb false], ⟨_, Z, Z⟩, false, Z, H, o8.gr.g0⟩
  have H := Xj H cc;refine Xn cc Z (Xn cc Z (Xn cc Z (Xa (Xv false (vb false) cc Z) (Xe (vb false) Z (X2 (dj := 131) Z Z (.inl Z) (X2 (dj := 131) Z Z (.inl Z) (X2 (dj := 131) Z Z (.inl Z) (Xa (Xv false (vb false) Z Z) ?_))))))));refine Xf (vb false) Z (Xb (Xk ?_));have o9 := de.clear;exact ⟨[vb false], ⟨_, Z, Z⟩, false, Z, H, o9.gr.g0⟩
 have H := Xj H bs;refine Xn bs Z (Xn bs Z (Xn bs Z (Xn bs Z (Xa (Xv false (vb false) bs Z) (Xe (vb false) Z (X2 (dj := 126) Z Z (.inl Z) (X2 (dj := 126) Z Z (.inl Z) (X2 (dj := 126) Z Z (.inl Z) ?_))))))));refine Xa (Xv false (vb false) Z Z) (Xe (vb false) Z (X2 (dj := 131) Z Z (.inl Z) (X2 (dj := 131) Z Z (.inl Z) (X2 (dj := 131) Z Z (.inl Z) (Xa (Xv false (vb false) Z Z) (Xf (vb false) Z (Xb (Xk ?_))))))));have pa := de.clear;exact ⟨[vb false], ⟨_, Z, Z⟩, false, Z, H, pa.gr.g0⟩
section
section
variable {α : Type} [DecidableEq α]
def lcsR (x : α) (p : List α → Nat) : List α → Nat
 | [] => 0
 | y :: b => if x = y then p b + 1 else max (p (y :: b)) (lcsR x p b)
def lcs : List α → List α → Nat
 | [] => fun _ => 0
 | x :: a => lcsR x (lcs a)
@[simp] theorem lcs_nil (b : List α) : lcs [] b = 0 := rfl
@[simp] theorem lcs_nil2 (a : List α) : lcs a [] = 0 := by cases a <;> rfl
theorem lcs_cons (x y : α) (a b : List α) : lcs (x :: a) (y :: b) = if x = y then lcs a b + 1 else max (lcs a (y :: b)) (lcs (x :: a) b) := rfl
theorem lcs_sub (a b : List α) : ∃ s : List α, s.Sublist a ∧ s.Sublist b ∧ s.length = lcs a b := by
 induction a generalizing b with
 | nil => exact ⟨[], List.nil_sublist _, List.nil_sublist _, rfl⟩
 | cons x a ih =>
  induction b with
  | nil => exact ⟨[], List.nil_sublist _, List.nil_sublist _, rfl⟩
  | cons y b ihb =>
   rw [lcs_cons]
   by_cases h : x = y
   ·subst h
    obtain ⟨s, h1, h2, h3⟩ := ih b
    exact ⟨x :: s, h1.cons_cons x, h2.cons_cons x, by rw [if_pos rfl, ← h3]; rfl⟩
   ·rw [if_neg h]
    by_cases hm : lcs (x :: a) b ≤ lcs a (y :: b)
    ·obtain ⟨s, h1, h2, h3⟩ := ih (y :: b)
     exact ⟨s, h1.cons x, h2, OM⟩
    ·obtain ⟨s, h1, h2, h3⟩ := ihb
     exact ⟨s, h1, h2.cons y, OM⟩
theorem lcs_le1 (a b : List α) : lcs a b ≤ a.length := by
 obtain ⟨s, h1, h2, h3⟩ := lcs_sub a b; rw [← h3]; exact h1.length_le
theorem lcs_le2 (a b : List α) : lcs a b ≤ b.length := by
 obtain ⟨s, h1, h2, h3⟩ := lcs_sub a b; rw [← h3]; exact h2.length_le
theorem pp {a b c d : Nat} (h : a = c) (k : b = d) : (a, b) = (c, d) := by rw [h, k]
def pairs (i j : Nat) : List α → List α → List (Nat × Nat)
 | x :: a, y :: b => if x = y then (i, j) :: pairs (i + 1) (j + 1) a b else if lcs (x :: a) b ≤ lcs a (y :: b) then pairs (i + 1) j a (y :: b) else pairs i (j + 1) (x :: a) b
 | [], _ => []
 | _ :: _, [] => []
 termination_by a b => a.length + b.length
theorem pairs_nil (i j : Nat) (b : List α) : pairs i j [] b = [] := by rw [pairs]
theorem pairs_nil2 (i j : Nat) (a : List α) : pairs i j a [] = [] := by cases a <;> rw [pairs]
theorem pairs_cons (i j : Nat) (x y : α) (a b : List α) : pairs i j (x :: a) (y :: b) = if x = y then (i, j) :: pairs (i + 1) (j + 1) a b else if lcs (x :: a) b ≤ lcs a (y :: b) then pairs (i + 1) j a (y :: b) else pairs i (j + 1) (x :: a) b := by rw [pairs]
theorem pairs_ind {C : Nat → Nat → List α → List α → Prop} (h0 : ∀ i j b, C i j [] b) (h1 : ∀ i j a, C i j a [])
  (he : ∀ i j x a b, C (i + 1) (j + 1) a b → C i j (x :: a) (x :: b))
  (ha : ∀ i j x y a b, x ≠ y → lcs (x :: a) b ≤ lcs a (y :: b) → C (i + 1) j a (y :: b) → C i j (x :: a) (y :: b))
  (hb : ∀ i j x y a b, x ≠ y → ¬ lcs (x :: a) b ≤ lcs a (y :: b) → C i (j + 1) (x :: a) b → C i j (x :: a) (y :: b)) : ∀ i j (a b : List α), C i j a b := by
 have : ∀ n i j (a b : List α), a.length + b.length ≤ n → C i j a b := by
  intro n
  induction n with
  | zero => intro i j a b h; cases a with
   | nil => exact h0 _ _ _
   | cons _ _ => simp at h
  | succ n ih =>
   intro i j a b h
   cases a with
   | nil => exact h0 _ _ _
   | cons x a => cases b with
    | nil => exact h1 _ _ _
    | cons y b =>
     simp only [List.length_cons] at h
     by_cases e : x = y
     ·subst e; exact he _ _ _ _ _ (ih _ _ _ _ OM)
     ·by_cases l : lcs (x :: a) b ≤ lcs a (y :: b)
      ·exact ha _ _ _ _ _ _ e l (ih _ _ _ _ (by simp only [List.length_cons]; omega))
      ·exact hb _ _ _ _ _ _ e l (ih _ _ _ _ (by simp only [List.length_cons]; omega))
 exact fun i j a b => this _ i j a b (Nat.le_refl _)
theorem pairs_len (i j : Nat) (a b : List α) : (pairs i j a b).length = lcs a b := by
 refine pairs_ind (C := fun i j a b => (pairs i j a b).length = lcs a b) ?_ ?_ ?_ ?_ ?_ i j a b
 ·intros; rw [pairs_nil]; rfl
 ·intros; rw [pairs_nil2, lcs_nil2]; rfl
 ·intro i j x a b h; rw [pairs_cons, if_pos rfl, lcs_cons, if_pos rfl, List.length_cons, h]
 ·intro i j x y a b e l h; rw [pairs_cons, if_neg e, if_pos l, lcs_cons, if_neg e, h]; exact (Nat.max_eq_left l).symm
 ·intro i j x y a b e l h; rw [pairs_cons, if_neg e, if_neg l, lcs_cons, if_neg e, h]; exact (Nat.max_eq_right OM).symm
theorem pairs_mem (i j : Nat) (a b : List α) : ∀ p ∈ pairs i j a b, ∃ k l, p = (i + k, j + l) ∧ ∃ x, a[k]? = some x ∧ b[l]? = some x := by
 refine pairs_ind (C := fun i j a b => ∀ p ∈ pairs i j a b, ∃ k l, p = (i + k, j + l) ∧ ∃ x, a[k]? = some x ∧ b[l]? = some x) ?_ ?_ ?_ ?_ ?_ i j a b
 ·intro i j b p h; rw [pairs_nil] at h; cases h
 ·intro i j a p h; rw [pairs_nil2] at h; cases h
 ·intro i j x a b ih p h
  rw [pairs_cons, if_pos rfl] at h
  rcases List.mem_cons.1 h with rfl | h
  ·exact ⟨0, 0, rfl, x, rfl, rfl⟩
  ·obtain ⟨k, l, rfl, z, h1, h2⟩ := ih p h
   exact ⟨k + 1, l + 1, pp OM OM, z, h1, h2⟩
 ·intro i j x y a b e l ih p h
  rw [pairs_cons, if_neg e, if_pos l] at h
  obtain ⟨k, l, rfl, z, h1, h2⟩ := ih p h
  exact ⟨k + 1, l, pp OM OM, z, h1, h2⟩
 ·intro i j x y a b e l ih p h
  rw [pairs_cons, if_neg e, if_neg l] at h
  obtain ⟨k, l, rfl, z, h1, h2⟩ := ih p h
  exact ⟨k, l + 1, pp OM OM, z, h1, h2⟩
theorem pairs_ord (i j : Nat) (a b : List α) : (pairs i j a b).Pairwise (fun p q => p.1 < q.1 ∧ p.2 < q.2) := by
 refine pairs_ind (C := fun i j a b => (pairs i j a b).Pairwise (fun p q => p.1 < q.1 ∧ p.2 < q.2)) ?_ ?_ ?_ ?_ ?_ i j a b
 ·intros; rw [pairs_nil]; exact List.Pairwise.nil
 ·intros; rw [pairs_nil2]; exact List.Pairwise.nil
 ·intro i j x a b h; rw [pairs_cons, if_pos rfl]
  refine List.Pairwise.cons (fun p hp => ?_) h
  obtain ⟨k, l, rfl, _⟩ := pairs_mem _ _ _ _ p hp
  exact ⟨by dsimp only; omega, by dsimp only; omega⟩
 ·intro i j x y a b e l h; rw [pairs_cons, if_neg e, if_pos l]; exact h
 ·intro i j x y a b e l h; rw [pairs_cons, if_neg e, if_neg l]; exact h
end
section
variable {α : Type} [Inhabited α]
theorem nth_set (l : List α) {k : Nat} (h : k < l.length) (m : Nat) (v : α) : nth (l.set k v) (m : Int) = if m = k then v else nth l (m : Int) := by
 unfold nth
 rw [Int.toNat_natCast, List.getD_eq_getElem?_getD, List.getD_eq_getElem?_getD, List.getElem?_set]
 by_cases e : m = k
 ·subst e; rw [if_pos rfl, if_pos rfl, if_pos h]; rfl
 ·rw [if_neg (fun x => e x.symm), if_neg e]
theorem nth_rep (n m : Nat) (v : α) (h : m < n) : nth (List.replicate n v) (m : Int) = v := by
 rw [nth_nat _ (by simpa using h)]; simp
theorem drop_nth (l : List α) {k : Nat} (h : k < l.length) : l.drop k = nth l (k : Int) :: l.drop (k + 1) := by
 rw [nth_nat l h]; exact List.drop_eq_getElem_cons h
def seg (l : List α) (i j : Nat) : List α := (l.drop i).take (j - i)
theorem seg_len (l : List α) (i j : Nat) (h : j ≤ l.length) : (seg l i j).length = j - i := by
 unfold seg; rw [List.length_take, List.length_drop]; omega
theorem seg_end (l : List α) (i : Nat) : seg l i l.length = l.drop i := List.take_of_length_le (by simp)
theorem seg_app (l : List α) {i j : Nat} (h : i ≤ j) : seg l i j ++ l.drop j = l.drop i := by
 unfold seg
 have : l.drop j = (l.drop i).drop (j - i) := by rw [List.drop_drop]; congr 1; omega
 rw [this, List.take_append_drop]
variable [DecidableEq α]
theorem lcs_drop (a b : List α) {i j : Nat} (hi : i < a.length) (hj : j < b.length) : lcs (a.drop i) (b.drop j) = if nth a (i : Int) = nth b (j : Int) then lcs (a.drop (i + 1)) (b.drop (j + 1)) + 1 else max (lcs (a.drop (i + 1)) (b.drop j)) (lcs (a.drop i) (b.drop (j + 1))) := by
 rw [drop_nth a hi, drop_nth b hj, lcs_cons, ← drop_nth a hi, ← drop_nth b hj]
theorem pairs_drop (a b : List α) {i j : Nat} (hi : i < a.length) (hj : j < b.length) : pairs i j (a.drop i) (b.drop j) = if nth a (i : Int) = nth b (j : Int) then (i, j) :: pairs (i + 1) (j + 1) (a.drop (i + 1)) (b.drop (j + 1)) else if lcs (a.drop i) (b.drop (j + 1)) ≤ lcs (a.drop (i + 1)) (b.drop j) then pairs (i + 1) j (a.drop (i + 1)) (b.drop j) else pairs i (j + 1) (a.drop i) (b.drop (j + 1)) := by
 rw [drop_nth a hi, drop_nth b hj, pairs_cons, ← drop_nth a hi, ← drop_nth b hj]

def pickL (o a b : List α) : Option (List α) := if a = o then some b else if b = o then some a else if a = b then some a else none
theorem pickL_mem {o a b r : List α} (h : pickL o a b = some r) : (∀ z ∈ r, z ∈ a ∨ z ∈ b) ∧ (∀ z ∈ a, z ∈ o ∨ z ∈ r) ∧ (∀ z ∈ b, z ∈ o ∨ z ∈ r) ∧ r.length ≤ a.length + b.length := by
 unfold pickL at h
 by_cases h1 : a = o
 ·rw [if_pos h1] at h; cases h; subst h1
  exact ⟨fun z hz => .inr hz, fun z hz => .inl hz, fun z hz => .inr hz, OM⟩
 ·rw [if_neg h1] at h
  by_cases h2 : b = o
  ·rw [if_pos h2] at h; cases h; subst h2
   exact ⟨fun z hz => .inl hz, fun z hz => .inr hz, fun z hz => .inl hz, OM⟩
  ·rw [if_neg h2] at h
   by_cases h3 : a = b
   ·rw [if_pos h3] at h; cases h; subst h3
    exact ⟨fun z hz => .inl hz, fun z hz => .inr hz, fun z hz => .inr hz, OM⟩
   ·rw [if_neg h3] at h; cases h
def mloop (o a b : List α) (f g : Nat → Option Nat) : Nat → Nat → Nat → Nat → Nat → Option (List α)
 | 0, _, i, j, k => pickL (o.drop i) (a.drop j) (b.drop k)
 | n + 1, at_, i, j, k => match f at_, g at_ with
  | some x, some y => (pickL (seg o i at_) (seg a j x) (seg b k y)).bind fun p => (mloop o a b f g n (at_ + 1) (at_ + 1) (x + 1) (y + 1)).map fun r => p ++ nth o (at_ : Int) :: r
  | _, _ => mloop o a b f g n (at_ + 1) i j k
theorem mloop_zero (o a b : List α) (f g : Nat → Option Nat) (t i j k : Nat) : mloop o a b f g 0 t i j k = pickL (o.drop i) (a.drop j) (b.drop k) := rfl
theorem mloop_some {o a b : List α} {f g : Nat → Option Nat} {n t i j k x y : Nat} (hf : f t = some x) (hg : g t = some y) : mloop o a b f g (n + 1) t i j k = (pickL (seg o i t) (seg a j x) (seg b k y)).bind fun p => (mloop o a b f g n (t + 1) (t + 1) (x + 1) (y + 1)).map fun r => p ++ nth o (t : Int) :: r := by
 rw [mloop, hf, hg]
theorem mloop_none {o a b : List α} {f g : Nat → Option Nat} {n t i j k : Nat} (h : f t = none ∨ g t = none) : mloop o a b f g (n + 1) t i j k = mloop o a b f g n (t + 1) i j k := by
 rw [mloop]
 rcases h with h | h
 ·rw [h]
 ·rw [h]; cases f t <;> rfl
structure Mates (o a : List α) (f : Nat → Option Nat) : Prop where
 lt : ∀ {t x}, f t = some x → t < o.length ∧ x < a.length
 eq : ∀ {t x}, f t = some x → nth o (t : Int) = nth a (x : Int)
 mono : ∀ {t x u y}, f t = some x → f u = some y → t < u → x < y
def From (f : Nat → Option Nat) (t j : Nat) : Prop := ∀ u x, t ≤ u → f u = some x → j ≤ x
theorem From.zero (f : Nat → Option Nat) (t : Nat) : From f t 0 := fun _ _ _ _ => Nat.zero_le _
theorem From.skip {f : Nat → Option Nat} {t j : Nat} (h : From f t j) : From f (t + 1) j := fun u x hu hx => h u x OM hx
theorem From.step {o a : List α} {f : Nat → Option Nat} (m : Mates o a f) {t x : Nat} (h : f t = some x) : From f (t + 1) (x + 1) := fun u y hu hy => m.mono h hy OM
theorem mem_seg {l : List α} {i j : Nat} {z : α} (h : z ∈ seg l i j) : z ∈ l := List.mem_of_mem_drop (List.mem_of_mem_take h)
theorem mem_split {l : List α} {i j : Nat} (hij : i ≤ j) (hj : j < l.length) {z : α} (h : z ∈ l.drop i) : z ∈ seg l i j ∨ z = nth l (j : Int) ∨ z ∈ l.drop (j + 1) := by
 rw [← seg_app l hij, drop_nth l hj] at h
 rcases List.mem_append.1 h with h | h
 ·exact .inl h
 ·rcases List.mem_cons.1 h with h | h
  ·exact .inr (.inl h)
  ·exact .inr (.inr h)
theorem mloop_keep {o a b : List α} {f g : Nat → Option Nat} (mf : Mates o a f) (mg : Mates o b g) (n t i j k : Nat) (hn : t + n = o.length) (hj : From f t j) (hk : From g t k) (r : List α) (h : mloop o a b f g n t i j k = some r) :
  (∀ z ∈ r, z ∈ a ∨ z ∈ b) ∧ (∀ z ∈ a.drop j, z ∈ o ∨ z ∈ r) ∧ (∀ z ∈ b.drop k, z ∈ o ∨ z ∈ r) ∧ r.length ≤ (a.drop j).length + (b.drop k).length := by
 induction n generalizing t i j k r with
 | zero =>
  rw [mloop_zero] at h
  obtain ⟨h1, h2, h3, h4⟩ := pickL_mem h
  exact ⟨fun z hz => (h1 z hz).imp List.mem_of_mem_drop List.mem_of_mem_drop, fun z hz => (h2 z hz).imp List.mem_of_mem_drop id, fun z hz => (h3 z hz).imp List.mem_of_mem_drop id, h4⟩
 | succ n ih =>
  cases hf : f t with
  | none => rw [mloop_none (.inl hf)] at h; exact ih _ _ _ _ OM hj.skip hk.skip _ h
  | some x => cases hg : g t with
   | none => rw [mloop_none (.inr hg)] at h; exact ih _ _ _ _ OM hj.skip hk.skip _ h
   | some y =>
    rw [mloop_some hf hg] at h
    cases hp : pickL (seg o i t) (seg a j x) (seg b k y) with
    | none => rw [hp] at h; cases h
    | some p =>
     rw [hp, Option.bind_some] at h
     cases hr : mloop o a b f g n (t + 1) (t + 1) (x + 1) (y + 1) with
     | none => rw [hr] at h; cases h
     | some q =>
      rw [hr, Option.map_some] at h; cases h
      obtain ⟨h1, h2, h3, h4⟩ := pickL_mem hp
      obtain ⟨g1, g2, g3, g4⟩ := ih _ _ _ _ OM (.step mf hf) (.step mg hg) _ hr
      have hjx := hj t x (Nat.le_refl _) hf
      have hky := hk t y (Nat.le_refl _) hg
      have hx := (mf.lt hf).2
      have hy := (mg.lt hg).2
      have ex := mf.eq hf
      have ey := mg.eq hg
      refine ⟨fun z hz => ?_, fun z hz => ?_, fun z hz => ?_, ?_⟩
      ·rcases List.mem_append.1 hz with hz | hz
       ·exact (h1 z hz).imp mem_seg mem_seg
       ·rcases List.mem_cons.1 hz with rfl | hz
        ·rw [ex]; exact .inl (nth_mem a hx)
        ·exact g1 z hz
      ·rcases mem_split hjx hx hz with hz | rfl | hz
       ·exact (h2 z hz).imp mem_seg (fun h => List.mem_append_left _ h)
       ·exact .inr (List.mem_append_right _ (by rw [ex]; exact List.mem_cons_self))
       ·exact (g2 z hz).imp id (fun h => List.mem_append_right _ (List.mem_cons_of_mem _ h))
      ·rcases mem_split hky hy hz with hz | rfl | hz
       ·exact (h3 z hz).imp mem_seg (fun h => List.mem_append_left _ h)
       ·exact .inr (List.mem_append_right _ (by rw [ey]; exact List.mem_cons_self))
       ·exact (g3 z hz).imp id (fun h => List.mem_append_right _ (List.mem_cons_of_mem _ h))
      ·rw [seg_len a _ _ OM, seg_len b _ _ OM] at h4
       simp only [List.length_append, List.length_cons, List.length_drop] at g4 ⊢
       omega
end
end
def few (a b : List Pt) : Bool := decide (a.length ≤ 12) && decide (b.length ≤ 12)
theorem few_iff {a b : List Pt} : few a b = true ↔ a.length ≤ 12 ∧ b.length ≤ 12 := by simp [few]
theorem few_not {a b : List Pt} : few a b = false ↔ ¬ (a.length ≤ 12 ∧ b.length ≤ 12) := by rw [← few_iff]; simp
def slen (a b : List Pt) : Int := if few a b then (lcs a b : Nat) else 0
def mkP (p : Nat × Nat) : Pair := ⟨p.1, p.2⟩
def spairs (a b : List Pt) : List Pair := if few a b then (pairs 0 0 a b).map mkP else []
theorem spairs_few {a b : List Pt} (h : few a b = true) : spairs a b = (pairs 0 0 a b).map mkP := by unfold spairs; rw [if_pos h]
theorem spairs_len (a b : List Pt) : ((spairs a b).length : Int) = slen a b := by
 unfold spairs slen
 by_cases h : few a b = true
 ·rw [if_pos h, if_pos h, List.length_map, pairs_len]
 ·rw [if_neg h, if_neg h]; rfl
theorem slen_le (a b : List Pt) : 0 ≤ slen a b ∧ slen a b ≤ a.length ∧ slen a b ≤ b.length ∧ slen a b ≤ 12 := by
 unfold slen
 by_cases h : few a b = true
 ·have := few_iff.1 h
  have h1 := lcs_le1 a b; have h2 := lcs_le2 a b
  rw [if_pos h]; omega
 ·rw [if_neg h]; omega
def RowOk (a b : List Pt) (i : Nat) (j : Nat) (xs : List Int) : Prop := xs.length = b.length + 1 ∧ ∀ m : Nat, j ≤ m → m ≤ b.length → nth xs (m : Int) = (lcs (a.drop i) (b.drop m) : Nat)
def Tab (a b : List Pt) (D : Nat → Nat → Prop) (t : List (List Int)) : Prop := t.length = a.length + 1 ∧ ∀ r : Nat, r ≤ a.length → (nth t (r : Int)).length = b.length + 1 ∧ ∀ m : Nat, m ≤ b.length → D r m → nth (nth t (r : Int)) (m : Int) = (lcs (a.drop r) (b.drop m) : Nat)
theorem Tab.set {a b : List Pt} {D : Nat → Nat → Prop} {t : List (List Int)} (h : Tab a b D t) {i j : Nat} (hi : i ≤ a.length) (hj : j ≤ b.length) {v : Int} (hv : v = (lcs (a.drop i) (b.drop j) : Nat)) {D' : Nat → Nat → Prop} (hD : ∀ r m, D' r m → D r m ∨ (r = i ∧ m = j)) :
  Tab a b D' (t.set i ((nth t (i : Int)).set j v)) := by
 obtain ⟨h1, h2⟩ := h
 refine ⟨by rw [List.length_set]; exact h1, fun r hr => ?_⟩
 rw [nth_set _ OM]
 by_cases e : r = i
 ·subst e
  rw [if_pos rfl]
  refine ⟨by rw [List.length_set]; exact (h2 r hr).1, fun m hm hd => ?_⟩
  rw [nth_set _ (by rw [(h2 r hr).1]; omega)]
  by_cases f : m = j
  ·subst f; rw [if_pos rfl, hv]
  ·rw [if_neg f]
   exact (h2 r hr).2 m hm ((hD r m hd).resolve_right fun x => f x.2)
 ·rw [if_neg e]
  exact ⟨(h2 r hr).1, fun m hm hd => (h2 r hr).2 m hm ((hD r m hd).resolve_right fun x => e x.1)⟩
def mateI (l : List Pair) (k : Int) : Int := match l with
 | [] => -1
 | p :: l => if p.A == k then p.B else mateI l k
theorem mateI_nil (k : Int) : mateI [] k = -1 := rfl
theorem mateI_cons (p : Pair) (l : List Pair) (k : Int) : mateI (p :: l) k = if p.A == k then p.B else mateI l k := rfl
def mateN (l : List (Nat × Nat)) (k : Nat) : Option Nat := match l with
 | [] => none
 | p :: l => if p.1 = k then some p.2 else mateN l k
theorem mateI_mk (l : List (Nat × Nat)) (k : Nat) : mateI (l.map mkP) (k : Int) = match mateN l k with | some x => (x : Int) | none => -1 := by
 induction l with
 | nil => rfl
 | cons p l ih =>
  rw [List.map_cons, mateI_cons, mateN]
  by_cases h : p.1 = k
  ·rw [if_pos (by simp [mkP, h]), if_pos h]; rfl
  ·rw [if_neg (by simp [mkP]; omega), if_neg h, ih]
theorem mateN_mem {l : List (Nat × Nat)} {k x : Nat} (h : mateN l k = some x) : (k, x) ∈ l := by
 induction l with
 | nil => cases h
 | cons p l ih =>
  rw [mateN] at h
  by_cases e : p.1 = k
  ·rw [if_pos e] at h; cases h; subst e; exact List.mem_cons_self
  ·rw [if_neg e] at h; exact List.mem_cons_of_mem _ (ih h)
def part (o a : List Pt) : Nat → Option Nat := mateN (pairs 0 0 o a)
theorem part_mates (o a : List Pt) : Mates o a (part o a) := by
 have hm : ∀ {t x}, part o a t = some x → ∃ z, o[t]? = some z ∧ a[x]? = some z := fun {t x} h => by
  obtain ⟨k, l, e, z, h1, h2⟩ := pairs_mem 0 0 o a _ (mateN_mem h)
  rw [Nat.zero_add, Nat.zero_add] at e; cases e
  exact ⟨z, h1, h2⟩
 refine ⟨fun {t x} h => ?_, fun {t x} h => ?_, fun {t x u y} h1 h2 hu => ?_⟩
 ·obtain ⟨z, h1, h2⟩ := hm h
  exact ⟨(List.getElem?_eq_some_iff.1 h1).1, (List.getElem?_eq_some_iff.1 h2).1⟩
 ·obtain ⟨z, h1, h2⟩ := hm h
  obtain ⟨e1, e2⟩ := List.getElem?_eq_some_iff.1 h1
  obtain ⟨e3, e4⟩ := List.getElem?_eq_some_iff.1 h2
  rw [nth_nat _ e1, nth_nat _ e3, e2, e4]
 ·have ho := pairs_ord 0 0 o a
  have m1 := mateN_mem h1; have m2 := mateN_mem h2
  generalize pairs 0 0 o a = l at ho m1 m2
  induction l with
  | nil => cases m1
  | cons p l ih =>
   obtain ⟨q1, q2⟩ := List.pairwise_cons.1 ho
   rcases List.mem_cons.1 m1 with e1 | n1
   ·rcases List.mem_cons.1 m2 with e2 | n2
    ·subst e1; cases e2; omega
    ·subst e1; exact (q1 _ n2).2
   ·rcases List.mem_cons.1 m2 with e2 | n2
    ·subst e2; have := (q1 _ n1).1; dsimp only at this; omega
    ·exact ih q2 n1 n2
def smerge (o a b : List Pt) : Option (List Pt) := if few o a && few o b then mloop o a b (part o a) (part o b) o.length 0 0 0 0 else none
theorem smerge_few {o a b : List Pt} (h1 : few o a = true) (h2 : few o b = true) : smerge o a b = mloop o a b (part o a) (part o b) o.length 0 0 0 0 := by unfold smerge; rw [h1, h2]; rfl
theorem smerge_not {o a b : List Pt} (h : few o a = false ∨ few o b = false) : smerge o a b = none := by
 unfold smerge; rcases h with h | h <;> rw [h] <;> simp
theorem smerge_keep {o a b r : List Pt} (h : smerge o a b = some r) : (∀ z ∈ r, z ∈ a ∨ z ∈ b) ∧ (∀ z ∈ a, z ∈ o ∨ z ∈ r) ∧ (∀ z ∈ b, z ∈ o ∨ z ∈ r) ∧ r.length ≤ a.length + b.length := by
 unfold smerge at h
 by_cases hf : (few o a && few o b) = true
 ·rw [if_pos hf] at h
  exact mloop_keep (part_mates o a) (part_mates o b) _ _ _ _ _ OM (From.zero _ _) (From.zero _ _) _ h
 ·rw [if_neg hf] at h; cases h
theorem smerge_len {o a b r : List Pt} (h : smerge o a b = some r) : r.length ≤ 24 := by
 have h1 := (smerge_keep h).2.2.2
 unfold smerge at h
 by_cases hf : (few o a && few o b) = true
 ·rw [Bool.and_eq_true, few_iff, few_iff] at hf; omega
 ·rw [if_neg hf] at h; cases h
def allN (n : Nat) (c : Nat → Bool) : Bool := (List.range n).all c
theorem allN_true {n : Nat} {c : Nat → Bool} (h : ∀ j, j < n → c j = true) : allN n c = true := by
 unfold allN; rw [List.all_eq_true]; intro j hj; exact h j (List.mem_range.1 hj)
theorem allN_false {n k : Nat} {c : Nat → Bool} (hk : k < n) (h : c k = false) : allN n c = false := by
 unfold allN
 rw [Bool.eq_false_iff]; intro ha
 rw [List.all_eq_true] at ha
 rw [ha k (List.mem_range.2 hk)] at h; cases h
theorem allN_iff {n : Nat} {c : Nat → Bool} : allN n c = true ↔ ∀ j, j < n → c j = true := by
 unfold allN; rw [List.all_eq_true]; exact ⟨fun h j hj => h j (List.mem_range.2 hj), fun h j hj => h j (List.mem_range.1 hj)⟩
theorem loop_all (n : Nat) (c : Nat → Bool) {B : (Int → Prop) → (Int → Nat) → Int → Prop} {F : Prop}
  (hs : ∀ (I : Int → Prop) (mu : Int → Nat) (k : Nat), k < n → (∀ j, j < k → c j = true) → (c k = true → I ((k : Int) + 1) ∧ mu ((k : Int) + 1) < mu (k : Int)) → B I mu (k : Int))
  (hF : (∀ j, j < n → c j = true) → F) :
  ∃ (I : Int → Prop) (mu : Int → Nat), I 0 ∧ ∀ (i : Int), I i → (if decide (i < (n : Int)) then B I mu i else F) := by
 refine ⟨fun i => ∃ k : Nat, i = k ∧ k ≤ n ∧ ∀ j, j < k → c j = true, fun i => ((n : Int) - i).toNat, ⟨0, rfl, Nat.zero_le _, fun j hj => absurd hj (Nat.not_lt_zero _)⟩, ?_⟩
 rintro _ ⟨k, rfl, hk, ha⟩
 by_cases h : (k : Int) < (n : Int)
 ·rw [if_pos (by simpa using h)]
  refine hs _ _ k OM ha fun hc => ⟨⟨k + 1, OM, OM, fun j hj => ?_⟩, OM⟩
  by_cases e : j = k
  ·subst e; exact hc
  ·exact ha j OM
 ·rw [if_neg (by simpa using h)]
  exact hF fun j hj => ha j OM
theorem less_irr : ∀ a : Str, Op.bytesLess a a = false
 | [] => rfl
 | x :: a => by rw [Op.bytesLess]; simp [less_irr a]
theorem less_tri : ∀ a b : Str, (!(Op.bytesLess a b)) = (Op.bytesLess b a || b == a)
 | [], [] => rfl
 | [], y :: b => rfl
 | x :: a, [] => rfl
 | x :: a, y :: b => by
  rw [Op.bytesLess, Op.bytesLess]
  have h := less_tri a b
  by_cases h1 : x < y
  ·have h2 : ¬ y < x := fun h => absurd (UInt8.lt_trans h1 h) (UInt8.lt_irrefl _)
   have h3 : ¬ y = x := fun e => by subst e; exact UInt8.lt_irrefl _ h1
   simp [h1, h2, h3]
  ·by_cases h2 : y < x
   ·have h3 : ¬ x = y := fun e => by subst e; exact UInt8.lt_irrefl _ h2
    simp [h1, h2, h3]
   ·have h3 : x = y := UInt8.le_antisymm (UInt8.not_lt.1 h2) (UInt8.not_lt.1 h1)
    subst h3
    simp only [h1, decide_false, Bool.false_or, beq_self_eq_true, Bool.true_and]
    rw [h]
    congr 1
    rw [Bool.eq_iff_iff, beq_iff_eq, beq_iff_eq]
    simp
def byteOk (b : UInt8) : Bool := !(decide ((b.toNat : Int) < 97)) && !(decide ((b.toNat : Int) > 122))
def wordOk (s : Str) : Bool := allN s.length (fun k => byteOk (nth s (k : Int))) && (decide (1 ≤ s.length) && decide (s.length ≤ 6))
def inR (x : Int) : Bool := decide (-1000 ≤ x) && decide (x ≤ 1000)
def ptOk (p : Pt) : Bool := inR p.X && inR p.Y
def ptsOk (p : List Pt) : Bool := allN p.length fun k => ptOk (nth p (k : Int)) && (decide (k = 0) || !(decide (nth p ((k : Int) - 1) = nth p (k : Int))))
def kindOk (kind : Int) (p : List Pt) : Bool :=
 if kind = 1 then decide (p.length = 1) else if kind = 2 then decide (2 ≤ p.length) && decide (p.length ≤ 6)
 else if kind = 3 then decide (3 ≤ p.length) && decide (p.length ≤ 6) && !(decide (nth p 0 = nth p ((p.length : Int) - 1))) else false
def shapeOk (s : Shape) : Bool := ptsOk s.Pts && kindOk s.Kind s.Pts
def tagsOk (t : List Tag) : Bool := allN t.length fun k => wordOk (nth t (k : Int)).Key && wordOk (nth t (k : Int)).Val && (decide (k = 0) || Op.bytesLess (nth t ((k : Int) - 1)).Key (nth t (k : Int)).Key)
def featOk (f : Feat) : Bool := tagsOk f.Tags && decide (f.Tags.length ≤ 4) && wordOk f.Id && shapeOk f.Shape
def noF (f : Feat) : Bool := decide (f = ⟨[], ⟨0, []⟩, []⟩)
def sideOk (id : Str) (has : Bool) (f : Feat) : Bool := if has then featOk f && decide (f.Id = id) else noF f
def sameC (c : Change) : Bool := decide (c.Had = c.Has) && decide (c.Was = c.Now)
def changeOk (c : Change) : Bool := wordOk c.Id && sideOk c.Id c.Had c.Was && sideOk c.Id c.Has c.Now && !(sameC c)
def sheetOk (s : List Feat) : Bool := allN s.length (fun k => featOk (nth s (k : Int)) && (decide (k = 0) || Op.bytesLess (nth s ((k : Int) - 1)).Id (nth s (k : Int)).Id)) && decide (s.length ≤ 8)
theorem Feat.ext_iff' (a b : Feat) : a = b ↔ a.Id = b.Id ∧ a.Shape = b.Shape ∧ a.Tags = b.Tags := by cases a; cases b; simp
theorem Shape.ext_iff' (a b : Shape) : a = b ↔ a.Kind = b.Kind ∧ a.Pts = b.Pts := by cases a; cases b; simp
section
def findN (n : Nat) (c : Nat → Bool) : Int := match (List.range n).find? c with | some k => (k : Int) | none => -1
theorem findN_hit {n k : Nat} {c : Nat → Bool} (hk : k < n) (h : c k = true) (hp : ∀ j, j < k → c j = false) : findN n c = (k : Int) := by
 unfold findN
 have : (List.range n).find? c = some k := by
  rw [List.find?_range_eq_some]
  exact ⟨h, List.mem_range.2 hk, fun j hj => by rw [hp j hj]; rfl⟩
 rw [this]
theorem findN_none {n : Nat} {c : Nat → Bool} (h : ∀ j, j < n → c j = false) : findN n c = -1 := by
 unfold findN
 have : (List.range n).find? c = none := by
  rw [List.find?_eq_none]; intro j hj; rw [h j (List.mem_range.1 hj)]; exact Bool.false_ne_true
 rw [this]
theorem findN_le (n : Nat) (c : Nat → Bool) : -1 ≤ findN n c ∧ findN n c < n := by
 unfold findN
 cases h : (List.range n).find? c with
 | none => exact ⟨Int.le_refl _, by dsimp only; omega⟩
 | some k => have := List.mem_range.1 (List.mem_of_find?_eq_some h); exact ⟨by dsimp only; omega, by dsimp only; omega⟩
theorem loop_find (n : Nat) (c : Nat → Bool) {B : (Int → Prop) → (Int → Nat) → Int → Prop} {Q : Int → Prop} (hq : Q (findN n c))
  (hs : ∀ (I : Int → Prop) (mu : Int → Nat) (k : Nat), k < n → (c k = true → Q (k : Int)) → (c k = false → I ((k : Int) + 1) ∧ mu ((k : Int) + 1) < mu (k : Int)) → B I mu (k : Int)) :
  ∃ (I : Int → Prop) (mu : Int → Nat), I 0 ∧ ∀ (i : Int), I i → (if decide (i < (n : Int)) then B I mu i else Q (-1)) := by
 refine loop_all n (fun k => !(c k)) (fun I mu k hk hp hn => hs I mu k hk (fun h => ?_) (fun h => hn (by rw [h]; rfl))) (fun ha => ?_)
 ·rw [findN_hit hk h (fun j hj => by have := hp j hj; rwa [Bool.not_eq_true'] at this)] at hq; exact hq
 ·rw [findN_none (fun j hj => by have := ha j hj; rwa [Bool.not_eq_true'] at this)] at hq; exact hq
section
variable {α : Type} [Inhabited α] [DecidableEq α]
end
end
section
theorem less_trans : ∀ {a b c : Str}, Op.bytesLess a b = true → Op.bytesLess b c = true → Op.bytesLess a c = true
 | _, _, [], _, h => by rename_i b _; cases b <;> simp [Op.bytesLess] at h
 | _, [], _ :: _, h, _ => by rename_i a _ _ _; cases a <;> simp [Op.bytesLess] at h
 | [], _ :: _, _ :: _, _, _ => by simp [Op.bytesLess]
 | x :: a, y :: b, z :: c, h1, h2 => by
  rw [Op.bytesLess] at h1 h2 ⊢
  simp only [Bool.or_eq_true, Bool.and_eq_true, decide_eq_true_eq, beq_iff_eq] at h1 h2 ⊢
  rcases h1 with h1 | ⟨rfl, h1⟩
  ·rcases h2 with h2 | ⟨rfl, h2⟩
   ·exact .inl (UInt8.lt_trans h1 h2)
   ·exact .inl h1
  ·rcases h2 with h2 | ⟨rfl, h2⟩
   ·exact .inl h2
   ·exact .inr ⟨rfl, less_trans h1 h2⟩
theorem less_asym {a b : Str} (h : Op.bytesLess a b = true) : Op.bytesLess b a = false := by
 cases e : Op.bytesLess b a with
 | false => rfl
 | true => have := less_trans h e; rw [less_irr] at this; cases this
theorem less_or {a b : Str} (h : Op.bytesLess a b = false) : Op.bytesLess b a = true ∨ b = a := by
 have := less_tri a b
 rw [h] at this
 simpa using this.symm
def SS (l : List Str) : Prop := l.Pairwise fun x y => Op.bytesLess x y = true
theorem SS.ext : ∀ {l m : List Str}, SS l → SS m → (∀ x, x ∈ l ↔ x ∈ m) → l = m
 | [], [], _, _, _ => rfl
 | [], y :: m, _, _, h => by have := (h y).2 List.mem_cons_self; cases this
 | x :: l, [], _, _, h => by have := (h x).1 List.mem_cons_self; cases this
 | x :: l, y :: m, hl, hm, h => by
  obtain ⟨l1, l2⟩ := List.pairwise_cons.1 hl
  obtain ⟨m1, m2⟩ := List.pairwise_cons.1 hm
  have e : x = y := by
   rcases List.mem_cons.1 ((h x).1 List.mem_cons_self) with e | e
   ·exact e
   ·rcases List.mem_cons.1 ((h y).2 List.mem_cons_self) with e' | e'
    ·exact e'.symm
    ·have := less_trans (m1 x e) (l1 y e'); rw [less_irr] at this; cases this
  subst e
  rw [SS.ext l2 m2 fun z => ⟨fun hz => ?_, fun hz => ?_⟩]
  ·rcases List.mem_cons.1 ((h z).1 (List.mem_cons_of_mem _ hz)) with e | e
   ·subst e; have := l1 z hz; rw [less_irr] at this; cases this
   ·exact e
  ·rcases List.mem_cons.1 ((h z).2 (List.mem_cons_of_mem _ hz)) with e | e
   ·subst e; have := m1 z hz; rw [less_irr] at this; cases this
   ·exact e
theorem le_less (x y : Str) : decide (x ≤ y) = !(Op.bytesLess y x) := by
 rw [bytesLess_eq]
 by_cases h : y < x
 ·rw [decide_eq_true h, decide_eq_false (by rw [List.not_le]; exact h)]; rfl
 ·rw [decide_eq_false h, decide_eq_true (List.not_lt.1 h)]; rfl
theorem sortS_le (l : List Str) : (sortS l).Pairwise fun x y => Op.bytesLess y x = false := by
 have h := List.pairwise_mergeSort (le := fun x y : Str => decide (x ≤ y)) (fun a b c h1 h2 => by
  rw [le_less, Bool.not_eq_true'] at h1 h2 ⊢
  cases e : Op.bytesLess c a with
  | false => rfl
  | true =>
   rcases less_or h1 with h3 | h3
   ·have := less_trans e h3; rw [h2] at this; cases this
   ·subst h3; rw [h2] at e; cases e) (fun a b => by
  rw [le_less, le_less]
  cases e : Op.bytesLess b a with
  | false => rfl
  | true => rw [less_asym e]; rfl) l
 exact h.imp fun {x y} h => by rw [le_less, Bool.not_eq_true'] at h; exact h
theorem sortS_mem {l : List Str} {x : Str} : x ∈ sortS l ↔ x ∈ l := List.mem_mergeSort
section
open Go.Lib
theorem compact_of (l : List Str) (h : l.Pairwise fun x y => Op.bytesLess y x = false) : SS (compact l) ∧ ∀ x, x ∈ compact l ↔ x ∈ l := by
 have hle : ∀ i j, i ≤ j → j < l.length → Op.bytesLess (l.toArray[j]!) (l.toArray[i]!) = false := fun i j hij hj => by
  have hi : i < l.length := by omega
  simp only [List.getElem!_toArray, getElem!_pos l i hi, getElem!_pos l j hj]
  rcases Nat.lt_or_eq_of_le hij with hlt | rfl
  ·exact List.pairwise_iff_getElem.1 h i j hi hj hlt
  ·exact less_irr _
 constructor
 ·unfold compact compactUpTo SS
  rw [List.pairwise_map, List.pairwise_filter]
  refine List.pairwise_iff_getElem.2 fun i j hi hj hij => ?_
  simp only [List.length_range] at hi hj
  simp only [List.getElem_range]
  intro _ hk
  have hj0 : 0 < j := by omega
  have hne : l.toArray[j]! ≠ l.toArray[j - 1]! := fun e => by rw [keeps_neg hj0 e] at hk; cases hk
  have h1 : Op.bytesLess (l.toArray[j - 1]!) (l.toArray[j]!) = true := by
   rcases less_or (hle (j - 1) j OM hj) with h2 | h2
   ·exact h2
   ·exact absurd h2.symm hne
  rcases less_or (hle i (j - 1) OM OM) with h3 | h3
  ·exact less_trans h3 h1
  ·rw [h3]; exact h1
 ·intro x
  constructor
  ·exact compact_mem
  ·intro hx
   obtain ⟨k, hk, rfl⟩ := List.getElem_of_mem hx
   have key : ∀ k, k < l.length → l.toArray[k]! ∈ compact l := by
    intro k
    induction k using Nat.strongRecOn with
    | _ k ih =>
     intro hk
     cases e : keeps l.toArray k with
     | true =>
      unfold compact compactUpTo
      exact List.mem_map.2 ⟨k, List.mem_filter.2 ⟨List.mem_range.2 hk, e⟩, rfl⟩
     | false =>
      have hk0 : 0 < k := by
       rcases Nat.eq_zero_or_pos k with h0 | h0
       ·subst h0; rw [keeps_lt_one _ 0 OM] at e; cases e
       ·exact h0
      have he : l.toArray[k]! = l.toArray[k - 1]! := Classical.byContradiction fun hne => by rw [keeps_pos hne] at e; cases e
      rw [he]; exact ih (k - 1) OM OM
   have := key k hk
   simpa [getElem!_pos l k hk] using this
end
def uniq (l : List Str) : List Str := Lib.compact (sortS l)
theorem uniq_ss (l : List Str) : SS (uniq l) := (compact_of _ (sortS_le l)).1
theorem uniq_mem {l : List Str} {x : Str} : x ∈ uniq l ↔ x ∈ l := ((compact_of _ (sortS_le l)).2 x).trans sortS_mem
def ids (s : List Feat) : List Str := s.map (·.Id)
theorem sheet_ss {s : List Feat} (h : sheetOk s = true) : SS (ids s) ∧ s.length ≤ 8 ∧ ∀ f ∈ s, featOk f = true := by
 unfold sheetOk at h
 simp only [Bool.and_eq_true, decide_eq_true_eq] at h
 obtain ⟨h1, h2⟩ := h
 have h1 := allN_iff.1 h1
 have hadj : ∀ k, 0 < k → k < s.length → Op.bytesLess (nth s ((k : Int) - 1)).Id (nth s (k : Int)).Id = true := fun k h0 hk => by
  have := h1 k hk
  simp only [Bool.and_eq_true, Bool.or_eq_true, decide_eq_true_eq] at this
  rcases this.2 with h | h
  ·omega
  ·exact h
 refine ⟨?_, h2, fun f hf => ?_⟩
 ·unfold SS ids
  rw [List.pairwise_map]
  refine List.pairwise_iff_getElem.2 fun i j hi hj hij => ?_
  have key : ∀ d, i + d + 1 < s.length → Op.bytesLess s[i].Id (nth s ((i + d + 1 : Nat) : Int)).Id = true := by
   intro d
   induction d with
   | zero =>
    intro hd
    have := hadj (i + 0 + 1) OM hd
    rw [show (((i + 0 + 1 : Nat) : Int) - 1) = (i : Int) by omega, nth_nat s hi] at this
    exact this
   | succ d ih =>
    intro hd
    have := hadj (i + (d + 1) + 1) OM hd
    rw [show (((i + (d + 1) + 1 : Nat) : Int) - 1) = ((i + d + 1 : Nat) : Int) by omega] at this
    exact less_trans (ih OM) this
  have := key (j - i - 1) OM
  rw [show i + (j - i - 1) + 1 = j by omega, nth_nat s hj] at this
  exact this
 ·obtain ⟨k, hk, rfl⟩ := List.getElem_of_mem hf
  have := h1 k hk
  rw [nth_nat s hk] at this
  simp only [Bool.and_eq_true] at this
  exact this.1
theorem word_len {s : Str} (h : wordOk s = true) : s.length ≤ 6 := by
 unfold wordOk at h
 simp only [Bool.and_eq_true, decide_eq_true_eq] at h
 exact h.2.2
theorem bulk_small {α : Type} [Bulk α] (l : List α) (m : Nat) (h : ∀ x ∈ l, bulk x ≤ m) : bulk l ≤ l.length * (m + 1) := by
 induction l with
 | nil => exact Nat.zero_le _
 | cons x l ih =>
  have h1 := h x List.mem_cons_self
  have h2 := ih fun y hy => h y (List.mem_cons_of_mem _ hy)
  rw [bulk_cons, List.length_cons, Nat.add_mul]
  omega
theorem feat_small {f : Feat} (h : featOk f = true) : bulk f ≤ 100 ∧ f.Id.length ≤ 6 := by
 unfold featOk at h
 simp only [Bool.and_eq_true, decide_eq_true_eq] at h
 obtain ⟨⟨⟨h1, h2⟩, h3⟩, h4⟩ := h
 have hi := word_len h3
 have e1 : bulk f = bulk f.Id + (bulk f.Shape.Kind + bulk f.Shape.Pts) + bulk f.Tags := rfl
 have e2 : bulk f.Id = f.Id.length := bulk_str _
 have e3 : bulk f.Shape.Kind = 0 := rfl
 have e4 : bulk f.Shape.Pts = f.Shape.Pts.length := bulk_flat (fun _ => rfl) _
 have ht : bulk f.Tags ≤ f.Tags.length * (12 + 1) := bulk_small _ 12 fun t hm => by
  unfold tagsOk at h1
  obtain ⟨k, hk, rfl⟩ := List.getElem_of_mem hm
  have := allN_iff.1 h1 k hk
  rw [nth_nat _ hk] at this
  simp only [Bool.and_eq_true] at this
  have a1 := word_len this.1.1
  have a2 := word_len this.1.2
  have b0 : bulk f.Tags[k] = bulk f.Tags[k].Key + bulk f.Tags[k].Val := rfl
  have b1 : bulk f.Tags[k].Key = f.Tags[k].Key.length := bulk_str _
  have b2 : bulk f.Tags[k].Val = f.Tags[k].Val.length := bulk_str _
  omega
 have hp : f.Shape.Pts.length ≤ 6 := by
  unfold shapeOk kindOk at h4
  simp only [Bool.and_eq_true] at h4
  have := h4.2
  split at this
  ·simp only [decide_eq_true_eq] at this; omega
  ·split at this
   ·simp only [Bool.and_eq_true, decide_eq_true_eq] at this; omega
   ·split at this
    ·simp only [Bool.and_eq_true, decide_eq_true_eq] at this; omega
    ·cases this
 have : f.Tags.length * (12 + 1) ≤ 52 := by omega
 omega
def zeroF : Feat := ⟨[], ⟨0, []⟩, []⟩
theorem uniq_len (l : List Str) : (uniq l).length ≤ l.length := by
 unfold uniq
 have := compact_le (sortS l)
 have h2 : (sortS l).length = l.length := List.length_mergeSort _
 omega
end
theorem mate_part {o a : List Pt} (h : few o a = true) (t : Nat) : mateI (spairs o a) (t : Int) = match part o a t with | some x => (x : Int) | none => -1 := by
 rw [spairs_few h, mateI_mk]; rfl
structure MInv (o a b : List Pt) (xs : List Pt) (i j k t : Nat) : Prop where
 hi : i ≤ t
 ht : t ≤ o.length
 hj : j ≤ a.length
 hk : k ≤ b.length
 fj : From (part o a) t j
 fk : From (part o b) t k
 len : xs.length ≤ j + k
 eq : (mloop o a b (part o a) (part o b) (o.length - t) t i j k).map (xs ++ ·) = smerge o a b
theorem MInv.zero {o a b : List Pt} (h1 : few o a = true) (h2 : few o b = true) : MInv o a b [] 0 0 0 0 :=
 ⟨Nat.le_refl _, Nat.zero_le _, Nat.zero_le _, Nat.zero_le _, From.zero _ _, From.zero _ _, Nat.le_refl _, by rw [smerge_few h1 h2, Nat.sub_zero]; cases mloop o a b (part o a) (part o b) o.length 0 0 0 0 <;> rfl⟩
theorem MInv.skip {o a b xs : List Pt} {i j k t : Nat} (h : MInv o a b xs i j k t) (ht : t < o.length) (hn : part o a t = none ∨ part o b t = none) : MInv o a b xs i j k (t + 1) :=
 ⟨by have := h.hi; omega, ht, h.hj, h.hk, h.fj.skip, h.fk.skip, h.len, by
  have := h.eq
  rw [show o.length - t = (o.length - (t + 1)) + 1 by omega, mloop_none hn] at this
  exact this⟩
theorem MInv.step {o a b xs : List Pt} {i j k t x y : Nat} (h : MInv o a b xs i j k t) (ht : t < o.length) (hx : part o a t = some x) (hy : part o b t = some y) {p : List Pt} (hp : pickL (seg o i t) (seg a j x) (seg b k y) = some p) : MInv o a b (xs ++ p ++ [nth o (t : Int)]) (t + 1) (x + 1) (y + 1) (t + 1) := by
 have h1 := (part_mates o a).lt hx
 have h2 := (part_mates o b).lt hy
 refine ⟨Nat.le_refl _, ht, h1.2, h2.2, .step (part_mates o a) hx, .step (part_mates o b) hy, ?_, ?_⟩
 ·have := (pickL_mem hp).2.2.2
  rw [seg_len a _ _ OM, seg_len b _ _ OM] at this
  have h3 := h.fj t x (Nat.le_refl _) hx
  have h4 := h.fk t y (Nat.le_refl _) hy
  have h5 := h.len
  simp only [List.length_append, List.length_singleton]; omega
 ·have := h.eq
  rw [show o.length - t = (o.length - (t + 1)) + 1 by omega, mloop_some hx hy, hp, Option.bind_some, Option.map_map] at this
  rw [← this]
  congr 1
  funext r
  simp
theorem MInv.stop {o a b xs : List Pt} {i j k t x y : Nat} (h : MInv o a b xs i j k t) (ht : t < o.length) (hx : part o a t = some x) (hy : part o b t = some y) (hp : pickL (seg o i t) (seg a j x) (seg b k y) = none) : smerge o a b = none := by
 have := h.eq
 rw [show o.length - t = (o.length - (t + 1)) + 1 by omega, mloop_some hx hy, hp] at this
 exact this.symm
theorem MInv.last {o a b xs : List Pt} {i j k : Nat} (h : MInv o a b xs i j k o.length) : (pickL (o.drop i) (a.drop j) (b.drop k)).map (xs ++ ·) = smerge o a b := by
 have := h.eq
 rw [Nat.sub_self, mloop_zero] at this
 exact this
theorem MInv.from {o a b xs : List Pt} {i j k t x y : Nat} (h : MInv o a b xs i j k t) (hx : part o a t = some x) (hy : part o b t = some y) : j ≤ x ∧ x < a.length ∧ k ≤ y ∧ y < b.length :=
 ⟨h.fj t x (Nat.le_refl _) hx, ((part_mates o a).lt hx).2, h.fk t y (Nat.le_refl _) hy, ((part_mates o b).lt hy).2⟩
def keysT (t : List Tag) : List Str := t.map (·.Key)
theorem keys_app (s t : List Tag) : keysT (s ++ t) = keysT s ++ keysT t := List.map_append
def valT (t : List Tag) (key : Str) : value :=
 if findN t.length (fun j => (nth t (j : Int)).Key == key) < 0 then ⟨false, []⟩ else ⟨true, (nth t (findN t.length fun j => (nth t (j : Int)).Key == key)).Val⟩
theorem valT_no (t : List Tag) (key : Str) (h : (valT t key).has = false) : valT t key = ⟨false, []⟩ := by
 unfold valT at h ⊢
 split
 ·rfl
 ·rename_i h1; rw [if_neg h1] at h; cases h
def three {α : Type} [DecidableEq α] (o a b : α) : α × Bool := if a = o then (b, true) else if b = o then (a, true) else if a = b then (a, true) else (a, false)
def tagF (o a b : value) : value × Bool := if (three o a b).2 then three o a b else (if a.has then a else b, false)
def tagS : Str := [116, 97, 103, 32]
def tagK (o a b : List Tag) (k : Str) : value × Bool := tagF (valT o k) (valT a k) (valT b k)
def clashL (o a b : List Tag) (ks : List Str) : List Str := (ks.filter fun k => !(tagK o a b k).2).map fun k => tagS ++ k
def tagsL (o a b : List Tag) (ks : List Str) : List Tag := (ks.filter fun k => (tagK o a b k).1.has).map fun k => ⟨k, (tagK o a b k).1.val⟩
theorem clashL_snoc (o a b : List Tag) (ks : List Str) (k : Str) : clashL o a b (ks ++ [k]) = clashL o a b ks ++ (if (tagK o a b k).2 then [] else [tagS ++ k]) := by
 unfold clashL
 rw [List.filter_append, List.map_append]
 congr 1
 cases h : (tagK o a b k).2 <;> simp [h]
theorem tagsL_snoc (o a b : List Tag) (ks : List Str) (k : Str) : tagsL o a b (ks ++ [k]) = tagsL o a b ks ++ (if (tagK o a b k).1.has then [⟨k, (tagK o a b k).1.val⟩] else []) := by
 unfold tagsL
 rw [List.filter_append, List.map_append]
 congr 1
 cases h : (tagK o a b k).1.has <;> simp [h]
theorem clashL_len (o a b : List Tag) (ks : List Str) : (clashL o a b ks).length ≤ ks.length := by
 unfold clashL; rw [List.length_map]; exact List.length_filter_le _ _
theorem tagsL_len (o a b : List Tag) (ks : List Str) : (tagsL o a b ks).length ≤ ks.length := by
 unfold tagsL; rw [List.length_map]; exact List.length_filter_le _ _
def shapeF (o a b : Shape) : Shape × Bool :=
 if (three o a b).2 then three o a b
 else if a.Kind = o.Kind ∧ b.Kind = o.Kind then
  match smerge o.Pts a.Pts b.Pts with
  | some p => if shapeOk ⟨a.Kind, p⟩ then (⟨a.Kind, p⟩, true) else (a, false)
  | none => (a, false)
 else (a, false)
def allKeys (o a b : Feat) : List Str := uniq (keysT (o.Tags ++ a.Tags ++ b.Tags))
def shapeS : Str := [115, 104, 97, 112, 101]
def joinF (o a b : Feat) : Feat := ⟨a.Id, (shapeF o.Shape a.Shape b.Shape).1, tagsL o.Tags a.Tags b.Tags (allKeys o a b)⟩
def joinW (o a b : Feat) : List Str := (if (shapeF o.Shape a.Shape b.Shape).2 then [] else [shapeS]) ++ clashL o.Tags a.Tags b.Tags (allKeys o a b)
def joinOf (o a b : Feat) : Feat × List Str := if featOk (joinF o a b) then (joinF o a b, joinW o a b) else (a, [[109, 117, 99, 104]])
def featJoin (o a b : Feat) : Feat × List Str := if featOk o && featOk a && featOk b && decide (o.Id = a.Id) && decide (o.Id = b.Id) then joinOf o a b else (zeroF, [])
theorem feat_facts {f : Feat} (h : featOk f = true) : f.Tags.length ≤ 4 ∧ shapeOk f.Shape = true ∧ f.Shape.Pts.length ≤ 6 ∧ f.Id.length ≤ 6 ∧ ∀ t ∈ f.Tags, t.Key.length ≤ 6 ∧ t.Val.length ≤ 6 := by
 have hb := (feat_small h).2
 unfold featOk at h
 simp only [Bool.and_eq_true, decide_eq_true_eq] at h
 obtain ⟨⟨⟨h1, h2⟩, h3⟩, h4⟩ := h
 refine ⟨h2, h4, ?_, hb, fun t hm => ?_⟩
 ·unfold shapeOk kindOk at h4
  simp only [Bool.and_eq_true] at h4
  have := h4.2
  split at this
  ·simp only [decide_eq_true_eq] at this; omega
  ·split at this
   ·simp only [Bool.and_eq_true, decide_eq_true_eq] at this; omega
   ·split at this
    ·simp only [Bool.and_eq_true, decide_eq_true_eq] at this; omega
    ·cases this
 ·unfold tagsOk at h1
  obtain ⟨k, hk, rfl⟩ := List.getElem_of_mem hm
  have := allN_iff.1 h1 k hk
  rw [nth_nat _ hk] at this
  simp only [Bool.and_eq_true] at this
  exact ⟨word_len this.1.1, word_len this.1.2⟩
theorem shape_pts {s : Shape} (h : shapeOk s = true) : s.Pts.length ≤ 6 := by
 unfold shapeOk kindOk at h
 simp only [Bool.and_eq_true] at h
 have := h.2
 split at this
 ·simp only [decide_eq_true_eq] at this; omega
 ·split at this
  ·simp only [Bool.and_eq_true, decide_eq_true_eq] at this; omega
  ·split at this
   ·simp only [Bool.and_eq_true, decide_eq_true_eq] at this; omega
   ·cases this
theorem three_in {α : Type} [DecidableEq α] (o a b : α) : (three o a b).1 = a ∨ (three o a b).1 = b := by
 unfold three
 split
 ·exact .inr rfl
 ·split
  ·exact .inl rfl
  ·split <;> exact .inl rfl
theorem shapeF_pts {o a b : Shape} (ha : a.Pts.length ≤ 6) (hb : b.Pts.length ≤ 6) : (shapeF o a b).1.Pts.length ≤ 6 := by
 unfold shapeF
 split
 ·rcases three_in o a b with h | h <;> rw [h] <;> assumption
 ·split
  ·split
   ·split
    ·rename_i h; exact shape_pts h
    ·exact ha
   ·exact ha
  ·exact ha
theorem valT_len {t : List Tag} (h : ∀ x ∈ t, x.Val.length ≤ 6) (k : Str) : (valT t k).val.length ≤ 6 := by
 unfold valT
 split
 ·exact Nat.zero_le _
 ·have h1 := findN_le t.length fun j => (nth t (j : Int)).Key == k
  exact h _ (nth_memi t OM h1.2)
theorem tagF_in (o a b : value) : (tagF o a b).1 = a ∨ (tagF o a b).1 = b := by
 unfold tagF
 split
 ·exact three_in o a b
 ·split
  ·exact .inl rfl
  ·exact .inr rfl
theorem allKeys_len (o a b : Feat) : (allKeys o a b).length ≤ o.Tags.length + a.Tags.length + b.Tags.length := by
 have h := uniq_len (keysT (o.Tags ++ a.Tags ++ b.Tags))
 have e : (keysT (o.Tags ++ a.Tags ++ b.Tags)).length = o.Tags.length + a.Tags.length + b.Tags.length := by unfold keysT; simp; omega
 unfold allKeys; omega
theorem allKeys_small {o a b : Feat} (ho : featOk o = true) (ha : featOk a = true) (hb : featOk b = true) : (allKeys o a b).length ≤ 12 ∧ ∀ k ∈ allKeys o a b, k.length ≤ 6 := by
 have h1 := feat_facts ho; have h2 := feat_facts ha; have h3 := feat_facts hb
 refine ⟨by have := allKeys_len o a b; omega, fun k hk => ?_⟩
 unfold allKeys at hk
 rw [uniq_mem] at hk
 obtain ⟨t, ht, rfl⟩ := List.mem_map.1 hk
 rcases List.mem_append.1 ht with ht | ht
 ·rcases List.mem_append.1 ht with ht | ht
  ·exact (h1.2.2.2.2 t ht).1
  ·exact (h2.2.2.2.2 t ht).1
 ·exact (h3.2.2.2.2 t ht).1
theorem tagsL_small {o a b : Feat} (ho : featOk o = true) (ha : featOk a = true) (hb : featOk b = true) : bulk (tagsL o.Tags a.Tags b.Tags (allKeys o a b)) ≤ 200 := by
 obtain ⟨k1, k2⟩ := allKeys_small ho ha hb
 have hl := tagsL_len o.Tags a.Tags b.Tags (allKeys o a b)
 have hs := bulk_small (tagsL o.Tags a.Tags b.Tags (allKeys o a b)) 12 fun t ht => by
  unfold tagsL at ht
  obtain ⟨k, hk, rfl⟩ := List.mem_map.1 ht
  have hk := k2 k (List.mem_filter.1 hk).1
  have hv : (tagK o.Tags a.Tags b.Tags k).1.val.length ≤ 6 := by
   rcases tagF_in (valT o.Tags k) (valT a.Tags k) (valT b.Tags k) with h | h
   ·unfold tagK; rw [h]; exact valT_len (fun x hx => ((feat_facts ha).2.2.2.2 x hx).2) k
   ·unfold tagK; rw [h]; exact valT_len (fun x hx => ((feat_facts hb).2.2.2.2 x hx).2) k
  have e : bulk (⟨k, (tagK o.Tags a.Tags b.Tags k).1.val⟩ : Tag) = bulk k + bulk (tagK o.Tags a.Tags b.Tags k).1.val := rfl
  rw [e, bulk_str, bulk_str]; omega
 have : (tagsL o.Tags a.Tags b.Tags (allKeys o a b)).length * (12 + 1) ≤ 12 * 13 := Nat.mul_le_mul OM (Nat.le_refl _)
 omega
theorem joinF_small {o a b : Feat} (ho : featOk o = true) (ha : featOk a = true) (hb : featOk b = true) : bulk (joinF o a b) ≤ 300 := by
 have h2 := feat_facts ha; have h3 := feat_facts hb
 have ht := tagsL_small ho ha hb
 have hp := shapeF_pts (o := o.Shape) h2.2.2.1 h3.2.2.1
 have e : bulk (joinF o a b) = bulk a.Id + (0 + bulk (shapeF o.Shape a.Shape b.Shape).1.Pts) + bulk (tagsL o.Tags a.Tags b.Tags (allKeys o a b)) := rfl
 have e2 : bulk a.Id = a.Id.length := bulk_str _
 have e3 : bulk (shapeF o.Shape a.Shape b.Shape).1.Pts = (shapeF o.Shape a.Shape b.Shape).1.Pts.length := bulk_flat (fun _ => rfl) _
 omega
def ptT (p : Pt) : Str := [32] ++ Lib.itoa p.X ++ [44] ++ Lib.itoa p.Y
def shT (s : Shape) : Str := nth shapeNamesL s.Kind ++ s.Pts.flatMap ptT
theorem loop_text {α : Type} [Inhabited α] (l : List α) (g : α → Str) (t0 : Str) (m M : Nat) (hm : ∀ x ∈ l, (g x).length ≤ m) (hM : t0.length + l.length * m ≤ M)
  {B : (Str → Int → Prop) → (Str → Int → Nat) → Str → Int → Prop} {F : Str → Prop}
  (hs : ∀ (I : Str → Int → Prop) (mu : Str → Int → Nat) (k : Nat) (out : Str), k < l.length → nth l (k : Int) ∈ l → out.length ≤ M →
   (∀ X, X = out ++ g (nth l (k : Int)) → I X ((k : Int) + 1) ∧ mu X ((k : Int) + 1) < mu out (k : Int)) → B I mu out (k : Int))
  (hF : F (t0 ++ l.flatMap g)) :
  ∃ (I : Str → Int → Prop) (mu : Str → Int → Nat), I t0 0 ∧ ∀ (out : Str) (i : Int), I out i → (if decide (i < (l.length : Int)) then B I mu out i else F out) := by
 have len : ∀ k, k ≤ l.length → (t0 ++ (l.take k).flatMap g).length ≤ M := fun k hk => by
  have : ∀ n : List α, (∀ x ∈ n, (g x).length ≤ m) → (n.flatMap g).length ≤ n.length * m := fun n => by
   induction n with
   | nil => intro _; simp
   | cons a n ih =>
    intro h
    rw [List.flatMap_cons, List.length_append, List.length_cons, Nat.add_mul]
    have h1 := h a (List.mem_cons_self ..)
    have h2 := ih fun x hx => h x (List.mem_cons_of_mem _ hx)
    omega
  have h1 := this (l.take k) fun x hx => hm x (List.mem_of_mem_take hx)
  have h2 : (l.take k).length * m ≤ l.length * m := Nat.mul_le_mul_right _ (by rw [List.length_take]; omega)
  rw [List.length_append]; omega
 refine ⟨fun out i => ∃ k : Nat, i = k ∧ k ≤ l.length ∧ out = t0 ++ (l.take k).flatMap g, fun _ i => ((l.length : Int) - i).toNat, ⟨0, rfl, Nat.zero_le _, by simp⟩, ?_⟩
 rintro _ _ ⟨k, rfl, hk, rfl⟩
 by_cases h : (k : Int) < (l.length : Int)
 ·rw [if_pos (by simpa using h)]
  refine hs _ _ k _ OM (nth_mem l OM) (len k hk) fun X hX => ⟨⟨k + 1, OM, OM, ?_⟩, OM⟩
  rw [hX, take_nth l OM, List.flatMap_append, List.flatMap_cons, List.flatMap_nil, List.append_nil, List.append_assoc]
 ·rw [if_neg (by simpa using h)]
  have : k = l.length := by omega
  subst this
  rw [List.take_length]; exact hF
theorem shape_in {s : Shape} (h : shapeOk s = true) : (1 ≤ s.Kind ∧ s.Kind ≤ 3) ∧ s.Pts.length ≤ 6 ∧ ∀ p ∈ s.Pts, (-1000 ≤ p.X ∧ p.X ≤ 1000) ∧ -1000 ≤ p.Y ∧ p.Y ≤ 1000 := by
 have hp := shape_pts h
 unfold shapeOk at h
 rw [Bool.and_eq_true] at h
 refine ⟨?_, hp, fun p hm => ?_⟩
 ·have h2 := h.2
  unfold kindOk at h2
  by_cases k1 : s.Kind = 1
  ·omega
  ·rw [if_neg k1] at h2
   by_cases k2 : s.Kind = 2
   ·omega
   ·rw [if_neg k2] at h2
    by_cases k3 : s.Kind = 3
    ·omega
    ·rw [if_neg k3] at h2; cases h2
 ·obtain ⟨i, hi, rfl⟩ := List.mem_iff_getElem.1 hm
  have h1 := allN_iff.1 h.1 i hi
  rw [Bool.and_eq_true] at h1
  have h3 := h1.1
  have e : nth s.Pts (i : Int) = s.Pts[i] := by unfold nth; simp [hi]
  rw [e] at h3
  unfold ptOk inR at h3
  simp only [Bool.and_eq_true, decide_eq_true_eq] at h3
  omega
theorem ptT_len {p : Pt} (h : (-1000 ≤ p.X ∧ p.X ≤ 1000) ∧ -1000 ≤ p.Y ∧ p.Y ≤ 1000) : (ptT p).length ≤ 44 := by
 have h1 := itoa_len p.X OM OM
 have h2 := itoa_len p.Y OM OM
 unfold ptT
 simp only [List.length_append, List.length_cons, List.length_nil]; omega
theorem names_len : ∀ k : Int, (nth shapeNamesL k).length ≤ 4 := fun k => by
 by_cases h : 0 ≤ k ∧ k < 4
 ·have : k = 0 ∨ k = 1 ∨ k = 2 ∨ k = 3 := by omega
  rcases this with rfl | rfl | rfl | rfl <;> decide
 ·unfold nth
  by_cases h0 : k < 0
  ·have : k.toNat = 0 := by omega
   rw [this]; decide
  ·rw [show shapeNamesL.getD k.toNat default = default from by rw [List.getD_eq_getElem?_getD, List.getElem?_eq_none (by show 4 ≤ k.toNat; omega)]; rfl]; decide
section
def mkL {α : Type} (g : α → Int → α × Int) : List α → Int → List α × Int
 | [], k => ([], k)
 | x :: l, k => ((g x k).1 :: (mkL g l (g x k).2).1, (mkL g l (g x k).2).2)
section
variable {α : Type} {g : α → Int → α × Int}
theorem mkL_snoc (x : α) : ∀ (l : List α) (k : Int), mkL g (l ++ [x]) k = ((mkL g l k).1 ++ [(g x (mkL g l k).2).1], (g x (mkL g l k).2).2)
 | [], k => rfl
 | y :: l, k => by
  rw [List.cons_append, mkL, mkL_snoc x l]; rfl
theorem mkL_len : ∀ (l : List α) (k : Int), (mkL g l k).1.length = l.length
 | [], k => rfl
 | y :: l, k => by rw [mkL, List.length_cons, List.length_cons, mkL_len l]
theorem mkL_app : ∀ (l m : List α) (k : Int), mkL g (l ++ m) k = ((mkL g l k).1 ++ (mkL g m (mkL g l k).2).1, (mkL g m (mkL g l k).2).2)
 | [], m, k => rfl
 | y :: l, m, k => by rw [List.cons_append, mkL, mkL_app l]; rfl
variable [Inhabited α]
def Mk (g : α → Int → α × Int) (a : List α) (k : Int) (u : Nat) (xs : List α) (k' : Int) : Prop := u ≤ a.length ∧ xs = (mkL g (a.take u) k).1 ++ a.drop u ∧ k' = (mkL g (a.take u) k).2
variable {a xs : List α} {k k' : Int} {u : Nat}
theorem Mk.zero (a : List α) (k : Int) : Mk g a k 0 a k := ⟨Nat.zero_le _, by simp [mkL], by simp [mkL]⟩
theorem Mk.len (h : Mk g a k u xs k') : xs.length = a.length := by
 rw [h.2.1, List.length_append, mkL_len, List.length_take, List.length_drop]; have := h.1; omega
theorem Mk.nth (h : Mk g a k u xs k') (hu : u < a.length) : nth xs (u : Int) = Go.Proofs.YtlaaehjcooonfaaGreatDoor.nth a (u : Int) := by
 rw [nth_nat xs (by rw [h.len]; exact hu), nth_nat a hu]
 have hl : (mkL g (a.take u) k).1.length = u := by rw [mkL_len, List.length_take]; omega
 have := h.2.1
 subst this
 rw [List.getElem_append_right OM]
 simp [hl]
def Hd (g : α → Int → α × Int) (a : List α) (k : Int) (u : Nat) (k' : Int) : Prop := u ≤ a.length ∧ k' = (mkL g (a.take u) k).2
theorem Hd.zero (a : List α) (k : Int) : Hd g a k 0 k := ⟨Nat.zero_le _, by simp [mkL]⟩
theorem Hd.nth (h : Hd g a k u k') (hu : u < a.length) : nth (mkL g a k).1 (u : Int) = (g (Go.Proofs.YtlaaehjcooonfaaGreatDoor.nth a (u : Int)) k').1 := by
 have e : a = (a.take u ++ [Go.Proofs.YtlaaehjcooonfaaGreatDoor.nth a (u : Int)]) ++ a.drop (u + 1) := by rw [← take_nth a hu, List.take_append_drop]
 have hl : (mkL g (a.take u) k).1.length = u := by rw [mkL_len, List.length_take]; omega
 rw [nth_nat _ (by rw [mkL_len]; exact hu)]
 have h1 : (mkL g a k).1[u]? = some (g (Go.Proofs.YtlaaehjcooonfaaGreatDoor.nth a (u : Int)) k').1 := by
  conv => lhs; rw [e]
  rw [mkL_app, mkL_snoc]
  dsimp only
  rw [List.append_assoc, List.getElem?_append_right OM, hl, Nat.sub_self, h.2]; rfl
 rw [List.getElem?_eq_getElem (by rw [mkL_len]; exact hu)] at h1
 exact Option.some.inj h1
end
theorem bulk_feat (x : Feat) : bulk x = bulk x.Id + (bulk x.Shape.Kind + bulk x.Shape.Pts) + bulk x.Tags := rfl
end
theorem pw_ext {α : Type} {R : α → α → Prop} (irr : ∀ x, ¬ R x x) (tr : ∀ x y z, R x y → R y z → R x z) : ∀ {l m : List α}, l.Pairwise R → m.Pairwise R → (∀ x, x ∈ l ↔ x ∈ m) → l = m
 | [], [], _, _, _ => rfl
 | [], y :: m, _, _, h => by have := (h y).2 List.mem_cons_self; cases this
 | x :: l, [], _, _, h => by have := (h x).1 List.mem_cons_self; cases this
 | x :: l, y :: m, hl, hm, h => by
  obtain ⟨l1, l2⟩ := List.pairwise_cons.1 hl
  obtain ⟨m1, m2⟩ := List.pairwise_cons.1 hm
  have e : x = y := by
   rcases List.mem_cons.1 ((h x).1 List.mem_cons_self) with e | e
   ·exact e
   ·rcases List.mem_cons.1 ((h y).2 List.mem_cons_self) with e' | e'
    ·exact e'.symm
    ·exact absurd (tr _ _ _ (m1 x e) (l1 y e')) (irr _)
  subst e
  rw [pw_ext irr tr l2 m2 fun z => ⟨fun hz => ?_, fun hz => ?_⟩]
  ·rcases List.mem_cons.1 ((h z).1 (List.mem_cons_of_mem _ hz)) with e | e
   ·subst e; exact absurd (l1 z hz) (irr _)
   ·exact e
  ·rcases List.mem_cons.1 ((h z).2 (List.mem_cons_of_mem _ hz)) with e | e
   ·subst e; exact absurd (m1 z hz) (irr _)
   ·exact e
def idsC (d : List Change) : List Str := d.map (·.Id)
theorem idsC_app (s t : List Change) : idsC (s ++ t) = idsC s ++ idsC t := List.map_append
def CS (d : List Change) : Prop := d.Pairwise fun x y => Op.bytesLess x.Id y.Id = true
theorem CS.ext {l m : List Change} (hl : CS l) (hm : CS m) (h : ∀ x, x ∈ l ↔ x ∈ m) : l = m :=
 pw_ext (R := fun x y : Change => Op.bytesLess x.Id y.Id = true) (fun x e => by rw [less_irr] at e; cases e) (fun x y z h1 h2 => less_trans h1 h2) hl hm h
theorem CS.ids {d : List Change} (h : CS d) : SS (idsC d) := List.pairwise_map.2 h
theorem findN_true {n : Nat} {c : Nat → Bool} {k : Nat} (h : findN n c = (k : Int)) : k < n ∧ c k = true := by
 unfold findN at h
 cases e : (List.range n).find? c with
 | none => rw [e] at h; dsimp only at h; omega
 | some j =>
  rw [e] at h; dsimp only at h
  have : j = k := by omega
  subst this
  exact ⟨List.mem_range.1 (List.mem_of_find?_eq_some e), List.find?_some e⟩
theorem findN_neg {n : Nat} {c : Nat → Bool} (h : findN n c < 0) : ∀ j, j < n → c j = false := fun j hj => by
 unfold findN at h
 cases e : (List.range n).find? c with
 | some k => rw [e] at h; dsimp only at h; omega
 | none =>
  have := List.find?_eq_none.1 e j (List.mem_range.2 hj)
  simpa using this
theorem CS.inj {d : List Change} (h : CS d) {x y : Change} (hx : x ∈ d) (hy : y ∈ d) (e : x.Id = y.Id) : x = y := by
 obtain ⟨i, hi, rfl⟩ := List.getElem_of_mem hx
 obtain ⟨j, hj, rfl⟩ := List.getElem_of_mem hy
 rcases Nat.lt_trichotomy i j with g | g | g
 ·have := List.pairwise_iff_getElem.1 h i j hi hj g
  rw [e, less_irr] at this; cases this
 ·subst g; rfl
 ·have := List.pairwise_iff_getElem.1 h j i hj hi g
  rw [e, less_irr] at this; cases this
theorem three_r {α : Type} [DecidableEq α] (o a : α) : three o a o = (a, true) := by
 unfold three
 by_cases h : a = o
 ·rw [if_pos h, h]
 ·rw [if_neg h, if_pos rfl]
theorem three_l {α : Type} [DecidableEq α] (o b : α) : three o o b = (b, true) := by unfold three; rw [if_pos rfl]
theorem tagF_r (o a : value) : tagF o a o = (a, true) := by unfold tagF; rw [three_r, if_pos rfl]
theorem tagF_l (o b : value) : tagF o o b = (b, true) := by unfold tagF; rw [three_l, if_pos rfl]
theorem shapeF_r (o a : Shape) : shapeF o a o = (a, true) := by unfold shapeF; rw [three_r, if_pos rfl]
theorem shapeF_l (o b : Shape) : shapeF o o b = (b, true) := by unfold shapeF; rw [three_l, if_pos rfl]
def tagsOf (t : List Tag) (ks : List Str) : List Tag := (ks.filter fun k => (valT t k).has).map fun k => ⟨k, (valT t k).val⟩
theorem tagsL_r (o a : List Tag) (ks : List Str) : tagsL o a o ks = tagsOf a ks := by unfold tagsL tagsOf tagK; simp only [tagF_r]
theorem tagsL_l (o b : List Tag) (ks : List Str) : tagsL o o b ks = tagsOf b ks := by unfold tagsL tagsOf tagK; simp only [tagF_l]
theorem clashL_r (o a : List Tag) (ks : List Str) : clashL o a o ks = [] := by unfold clashL tagK; simp only [tagF_r]; simp
theorem clashL_l (o b : List Tag) (ks : List Str) : clashL o o b ks = [] := by unfold clashL tagK; simp only [tagF_l]; simp
theorem joinW_l (o c b : Feat) (h1 : c.Shape = o.Shape) (h2 : c.Tags = o.Tags) : joinW o c b = [] := by unfold joinW; rw [h1, h2, shapeF_l, clashL_l]; rfl
theorem valT_hit {t : List Tag} {k : Str} (h : (valT t k).has = true) : ∃ x ∈ t, x.Key = k ∧ valT t k = ⟨true, x.Val⟩ := by
 unfold valT at h ⊢
 split at h
 ·cases h
 ·rename_i g
  rw [if_neg g]
  have h1 := findN_le t.length fun j => (nth t (j : Int)).Key == k
  obtain ⟨i, hi⟩ : ∃ i : Nat, findN t.length (fun j => (nth t (j : Int)).Key == k) = (i : Int) := ⟨_, (Int.toNat_of_nonneg OM).symm⟩
  obtain ⟨h2, h3⟩ := findN_true hi
  rw [hi]
  exact ⟨_, nth_mem t h2, by simpa using h3, rfl⟩
theorem valT_iff {t : List Tag} {k : Str} : (valT t k).has = true ↔ k ∈ keysT t := by
 constructor
 ·intro h
  obtain ⟨x, hx, e, _⟩ := valT_hit h
  exact List.mem_map.2 ⟨x, hx, e⟩
 ·intro h
  unfold valT
  split
  ·rename_i g
   obtain ⟨f, hf, rfl⟩ := List.mem_map.1 h
   obtain ⟨j, hj, rfl⟩ := List.getElem_of_mem hf
   have := findN_neg g j hj
   rw [nth_nat t hj] at this
   simp at this
  ·rfl
theorem keys_inj : ∀ {t : List Tag}, SS (keysT t) → ∀ {x y : Tag}, x ∈ t → y ∈ t → x.Key = y.Key → x = y
 | [], _, _, _, h, _, _ => by cases h
 | a :: t, hs, x, y, hx, hy, e => by
  have h1 := List.pairwise_cons.1 hs
  rcases List.mem_cons.1 hx with rfl | hx' <;> rcases List.mem_cons.1 hy with rfl | hy'
  ·rfl
  ·have : Op.bytesLess x.Key y.Key = true := h1.1 y.Key (List.mem_map.2 ⟨y, hy', rfl⟩); rw [e, less_irr] at this; cases this
  ·have : Op.bytesLess y.Key x.Key = true := h1.1 x.Key (List.mem_map.2 ⟨x, hx', rfl⟩); rw [e, less_irr] at this; cases this
  ·exact keys_inj h1.2 hx' hy' e
theorem tagsOf_all {t : List Tag} {ks : List Str} (ht : SS (keysT t)) (hk : SS ks) (h : ∀ k ∈ keysT t, k ∈ ks) : tagsOf t ks = t := by
 unfold tagsOf
 have e : (ks.filter fun k => (valT t k).has) = keysT t := SS.ext (List.Pairwise.filter _ hk) ht fun k => by
  rw [List.mem_filter, valT_iff]
  exact ⟨fun g => g.2, fun g => ⟨h k g, g⟩⟩
 rw [e]
 unfold keysT
 rw [List.map_map]
 conv => rhs; rw [← List.map_id t]
 refine List.map_congr_left fun x hx => ?_
 obtain ⟨y, hy, e1, e2⟩ := valT_hit (valT_iff.2 (List.mem_map.2 ⟨x, hx, rfl⟩ : x.Key ∈ keysT t))
 have := keys_inj ht hy hx e1
 subst this
 simp only [Function.comp, e2, id]
theorem tags_ss {t : List Tag} (h : tagsOk t = true) : SS (keysT t) := by
 have h1 := allN_iff.1 h
 have hadj : ∀ k, 0 < k → k < t.length → Op.bytesLess (nth t ((k : Int) - 1)).Key (nth t (k : Int)).Key = true := fun k h0 hk => by
  have := h1 k hk
  simp only [Bool.and_eq_true, Bool.or_eq_true, decide_eq_true_eq] at this
  rcases this.2 with h | h
  ·omega
  ·exact h
 unfold SS keysT
 rw [List.pairwise_map]
 refine List.pairwise_iff_getElem.2 fun i j hi hj hij => ?_
 have key : ∀ d, i + d + 1 < t.length → Op.bytesLess t[i].Key (nth t ((i + d + 1 : Nat) : Int)).Key = true := by
  intro d
  induction d with
  | zero =>
   intro hd
   have := hadj (i + 0 + 1) OM hd
   rw [show (((i + 0 + 1 : Nat) : Int) - 1) = (i : Int) by omega, nth_nat t hi] at this
   exact this
  | succ d ih =>
   intro hd
   have := hadj (i + (d + 1) + 1) OM hd
   rw [show (((i + (d + 1) + 1 : Nat) : Int) - 1) = ((i + d + 1 : Nat) : Int) by omega] at this
   exact less_trans (ih OM) this
 have := key (j - i - 1) OM
 rw [show i + (j - i - 1) + 1 = j by omega, nth_nat t hj] at this
 exact this
theorem featOk_tags {f : Feat} (h : featOk f = true) : SS (keysT f.Tags) := by
 unfold featOk at h
 simp only [Bool.and_eq_true] at h
 exact tags_ss h.1.1.1
theorem joinF_r {o a : Feat} (ha : featOk a = true) : joinF o a o = a := by
 unfold joinF allKeys
 rw [shapeF_r, tagsL_r, tagsOf_all (featOk_tags ha) (uniq_ss _) (fun k hk => uniq_mem.2 (by rw [keys_app, keys_app]; exact List.mem_append_left _ (List.mem_append_right _ hk)))]
theorem joinF_l {o b : Feat} (hb : featOk b = true) (e : o.Id = b.Id) : joinF o o b = b := by
 unfold joinF allKeys
 rw [shapeF_l, tagsL_l, tagsOf_all (featOk_tags hb) (uniq_ss _) (fun k hk => uniq_mem.2 (by rw [keys_app, keys_app]; exact List.mem_append_right _ hk)), e]
theorem featJoin_l {o b : Feat} (ho : featOk o = true) (hb : featOk b = true) (e : o.Id = b.Id) : featJoin o o b = (b, []) := by
 unfold featJoin joinOf
 rw [joinF_l hb e, joinW_l o o b rfl rfl, ho, hb, e]; simp
theorem F67.law (code : List UInt8) (Q : List UInt8 → Int → Prop) (hq : ∀ b, b.length ≤ 2000 → Q b 0) : F67.E code Q := by
 unfold F67.E
 by_cases h : (code.length : Int) > 2000
 ·rw [if_pos (by simpa using h)]
  exact ⟨OM, hq _ (by rw [List.length_take]; omega)⟩
 ·rw [if_neg (by simpa using h)]
  exact hq _ OM
theorem ediv_le {p l : Int} (hp : 0 ≤ p) (hl : 0 < l) : 0 ≤ p / l ∧ p / l ≤ p := ⟨Int.ediv_nonneg hp OM, Int.ediv_le_self _ hp⟩
theorem F21.law (b : List UInt8) (p n : Int) (Q : Int → Int → Prop) (hb : b.length ≤ 2000) (hp : 0 ≤ p) (hp1 : p ≤ 1099511627776) (hq : ∀ v, 0 ≤ v → (v < n ∨ v = 0) → Q v (p + 1)) : F21.E b p n Q := by
 unfold F21.E
 refine ⟨by unfold I64; omega, ?_⟩
 by_cases hn : n < 1
 ·rw [if_pos (by simpa using hn)]; exact hq 0 OM (.inr rfl)
 rw [if_neg (by simpa using hn)]
 by_cases hl : (b.length : Int) = 0
 ·rw [if_pos (by simpa using hl)]; exact hq 0 OM (.inr rfl)
 rw [if_neg (by simpa using hl)]
 refine ⟨fun _ => by unfold I64; omega, ?_⟩
 rw [show p + 1 - 1 = p by omega]
 have fin : ∀ z : Int, 0 ≤ z → Q (z % n) (p + 1) := fun z hz => hq _ (Int.emod_nonneg _ OM) (.inl (Int.emod_lt_of_pos _ OM))
 by_cases hc : p < (b.length : Int)
 ·rw [if_pos (by simpa using hc)]
  exact ⟨OM, ⟨OM, OM⟩, fin _ OM⟩
 rw [if_neg (by simpa using hc)]
 have hlen : (0 : Int) < (b.length : Int) := by omega
 generalize hL : (b.length : Int) = L at *
 have m1 := Int.emod_nonneg p (show L ≠ 0 by omega)
 have m2 := Int.emod_lt_of_pos p hlen
 have m3 := Int.emod_nonneg (p * 7 + 3) (show L ≠ 0 by omega)
 have m4 := Int.emod_lt_of_pos (p * 7 + 3) hlen
 obtain ⟨d1, d2⟩ := ediv_le hp hlen
 generalize p % L = r1 at *
 generalize (p * 7 + 3) % L = r2 at *
 generalize p / L = q at *
 have u1 := (nth b r1).toNat_lt
 have u2 := (nth b r2).toNat_lt
 generalize (nth b r1).toNat = x1 at *
 generalize (nth b r2).toNat = x2 at *
 have s0 : 0 ≤ (x1 : Int) * 131 + (x2 : Int) * 1117 + p * 29 + q * 53 := by omega
 have s1 : (x1 : Int) * 131 + (x2 : Int) * 1117 + p * 29 + q * 53 ≤ 9223372036854775807 := by omega
 refine ⟨OM, OM, fun _ => by unfold I64; omega, fun _ => by unfold I64; omega, fun _ => by unfold I64; omega, OM, OM, fun _ => by unfold I64; omega, fun _ => by unfold I64; omega, fun _ => by unfold I64; omega, fun _ => by unfold I64; omega, OM, fun _ => by unfold I64; omega, fun _ => by unfold I64; omega, OM, ?_⟩
 generalize (x1 : Int) * 131 + (x2 : Int) * 1117 + p * 29 + q * 53 = s at *
 have hx : 0 ≤ xor64 s (s / 64) := xor64_nonneg ⟨s0, s1⟩ OM
 exact ⟨OM, fin _ hx⟩
theorem F36.law (b : List UInt8) (p : Int) (l : List Int) (Q : Int → Int → Prop) (hb : b.length ≤ 2000) (hp : 0 ≤ p) (hp1 : p ≤ 1099511627776) (hl : 0 < l.length) (hq : ∀ s ∈ l, Q s (p + 1)) : F36.E b p l Q := by
 unfold F36.E
 exact F21.law _ _ _ _ hb hp hp1 fun v h0 h1 => ⟨OM, hq _ (nth_memi l h0 OM)⟩
theorem F138.law (b : List UInt8) (p : Int) (Q : Pt → Int → Prop) (hb : b.length ≤ 2000) (hp : 0 ≤ p) (hp1 : p ≤ 1000000000) (hq : ∀ x y, 0 ≤ x → x ≤ 3 → 0 ≤ y → y ≤ 5 → Q ⟨x, y⟩ (p + 2)) : F138.E b p Q := by
 unfold F138.E
 refine F21.law _ _ _ _ hb hp OM fun v h0 h1 => F36.law _ _ _ _ hb OM OM RD fun y hy => ?_
 rw [show p + 1 + 1 = p + 2 by omega]
 simp only [List.mem_cons, List.not_mem_nil, or_false] at hy
 exact hq _ _ h0 OM OM OM
theorem F121.m_is (a b : Int) : F121.m a b = min a b := by
 unfold F121.m
 by_cases h : a < b
 ·simp [h]; omega
 ·simp [h]; omega
theorem F122.m_is (n : Int) : F122.m n = inR n := by
 unfold F122.m inR
 by_cases h : -1000 ≤ n
 ·rw [if_pos (by rw [decide_eq_true_eq]; omega), decide_eq_true h, Bool.true_and]
 ·rw [if_neg (by rw [decide_eq_true_eq]; omega), decide_eq_false h, Bool.false_and]
theorem F123.law (p : List Pt) (Q : Bool → Prop) (hq : Q (ptsOk p && decide (p.length ≤ 6))) : F123.E p Q := by
 unfold F123.E
 unfold ptsOk at hq
 refine loop_all p.length (fun k => ptOk (nth p (k : Int)) && (decide (k = 0) || !(decide (nth p ((k : Int) - 1) = nth p (k : Int))))) (fun I mu k hk hp hn => ?_) (fun ha => ?_)
 ·refine ⟨OM, ?_⟩
  rw [F122.m_is, F122.m_is]
  have bad : (ptOk (nth p (k : Int)) && (decide (k = 0) || !(decide (nth p ((k : Int) - 1) = nth p (k : Int))))) = false → Q false := fun h => by
   rw [allN_false hk h, Bool.false_and] at hq; exact hq
  cases h1 : inR (nth p (k : Int)).X with
  | false => rw [if_pos RD]; exact bad (by simp only [ptOk, h1, Bool.false_and])
  | true =>
   rw [if_neg RD]
   refine ⟨OM, ?_⟩
   cases h2 : inR (nth p (k : Int)).Y with
   | false => rw [if_pos RD]; exact bad (by simp only [ptOk, h2, Bool.and_false, Bool.false_and])
   | true =>
    rw [if_neg RD]
    have hpt : ptOk (nth p (k : Int)) = true := by simp only [ptOk, h1, h2, Bool.and_self]
    by_cases hk0 : k = 0
    ·rw [if_neg (by rw [decide_eq_true_eq]; omega)]
     obtain ⟨i1, i2⟩ := hn (by rw [hpt, decide_eq_true hk0]; rfl)
     exact ⟨OM, i1, i2⟩
    ·rw [if_pos (by rw [decide_eq_true_eq]; omega)]
     refine ⟨OM, fun _ => by unfold I64; omega, OM, ?_⟩
     rw [eqPt_is]
     by_cases he : nth p ((k : Int) - 1) = nth p (k : Int)
     ·rw [if_pos (by rw [decide_eq_true_eq]; exact he.symm)]
      exact bad (by rw [hpt, decide_eq_false hk0, decide_eq_true he]; rfl)
     ·rw [if_neg (by rw [decide_eq_true_eq]; exact fun e => he e.symm)]
      obtain ⟨i1, i2⟩ := hn (by rw [hpt, decide_eq_false hk0, decide_eq_false he]; rfl)
      exact ⟨OM, i1, i2⟩
 ·rw [allN_true ha, Bool.true_and] at hq
  have e2 : decide ((p.length : Int) ≤ 6) = decide (p.length ≤ 6) := decide_eq_decide.2 OM
  rw [e2]; exact hq
theorem F68.law (s : Shape) (Q : Bool → Prop) (hq : Q (shapeOk s)) : F68.E s Q := by
 unfold F68.E
 unfold shapeOk at hq
 refine F123.law _ _ ?_
 cases h1 : ptsOk s.Pts with
 | false => rw [h1, Bool.false_and] at hq; rw [Bool.false_and, if_pos RD]; exact hq
 | true =>
  rw [h1, Bool.true_and] at hq
  rw [Bool.true_and]
  unfold kindOk at hq
  by_cases h6 : s.Pts.length ≤ 6
  ·rw [decide_eq_true h6, if_neg RD]
   by_cases k1 : s.Kind = 1
   ·rw [if_pos k1] at hq
    rw [if_pos (by rw [beq_iff_eq]; exact k1)]
    have : ((s.Pts.length : Int) == 1) = decide (s.Pts.length = 1) := by rw [Bool.eq_iff_iff, beq_iff_eq, decide_eq_true_eq]; omega
    rw [this]; exact hq
   rw [if_neg k1] at hq
   rw [if_neg (by rw [beq_iff_eq]; exact k1)]
   by_cases k2 : s.Kind = 2
   ·rw [if_pos k2, decide_eq_true h6, Bool.and_true] at hq
    rw [if_pos (by rw [beq_iff_eq]; exact k2)]
    have : decide ((s.Pts.length : Int) ≥ 2) = decide (2 ≤ s.Pts.length) := decide_eq_decide.2 OM
    rw [this]; exact hq
   rw [if_neg k2] at hq
   rw [if_neg (by rw [beq_iff_eq]; exact k2)]
   by_cases k3 : s.Kind = 3
   ·rw [if_pos k3, decide_eq_true h6, Bool.and_true] at hq
    rw [if_pos (by rw [beq_iff_eq]; exact k3)]
    by_cases h3 : 3 ≤ s.Pts.length
    ·rw [decide_eq_true h3, Bool.true_and] at hq
     rw [if_pos (by rw [decide_eq_true_eq]; omega), eqPt_is]
     exact ⟨OM, fun _ => by unfold I64; omega, OM, hq⟩
    ·rw [decide_eq_false h3, Bool.false_and] at hq
     rw [if_neg (by rw [decide_eq_true_eq]; omega)]; exact hq
   ·rw [if_neg k3] at hq
    rw [if_neg (by rw [beq_iff_eq]; exact k3)]; exact hq
  ·rw [decide_eq_false h6, if_pos RD]
   have : (if s.Kind = 1 then decide (s.Pts.length = 1) else if s.Kind = 2 then decide (2 ≤ s.Pts.length) && decide (s.Pts.length ≤ 6)
 else if s.Kind = 3 then decide (3 ≤ s.Pts.length) && decide (s.Pts.length ≤ 6) && !(decide (nth s.Pts 0 = nth s.Pts ((s.Pts.length : Int) - 1))) else false) = false := by
    rw [decide_eq_false h6, decide_eq_false (show ¬ s.Pts.length = 1 by omega)]
    simp
   rw [this] at hq; exact hq
def FS (l : List Feat) : Prop := l.Pairwise fun x y => Op.bytesLess x.Id y.Id = true
theorem FS.ext {l m : List Feat} (hl : FS l) (hm : FS m) (h : ∀ x, x ∈ l ↔ x ∈ m) : l = m :=
 pw_ext (R := fun x y : Feat => Op.bytesLess x.Id y.Id = true) (fun x e => by rw [less_irr] at e; cases e) (fun x y z h1 h2 => less_trans h1 h2) hl hm h
theorem FS.inj {d : List Feat} (h : FS d) {x y : Feat} (hx : x ∈ d) (hy : y ∈ d) (e : x.Id = y.Id) : x = y := by
 obtain ⟨i, hi, rfl⟩ := List.getElem_of_mem hx
 obtain ⟨j, hj, rfl⟩ := List.getElem_of_mem hy
 rcases Nat.lt_trichotomy i j with g | g | g
 ·have := List.pairwise_iff_getElem.1 h i j hi hj g
  rw [e, less_irr] at this; cases this
 ·subst g; rfl
 ·have := List.pairwise_iff_getElem.1 h j i hj hi g
  rw [e, less_irr] at this; cases this
theorem now_id {d : List Change} (hd : ∀ c ∈ d, changeOk c = true) {c : Change} (hc : c ∈ d) (h : c.Has = true) : c.Now.Id = c.Id ∧ featOk c.Now = true := by
 have := hd c hc
 unfold changeOk at this
 simp only [Bool.and_eq_true] at this
 have h3 := this.1.2
 unfold sideOk at h3
 rw [h, if_pos rfl] at h3
 simp only [Bool.and_eq_true, decide_eq_true_eq] at h3
 exact ⟨h3.2, h3.1⟩
def Mem (s : List Feat) (d : List Change) (f : Feat) : Prop := (f ∈ s ∧ f.Id ∉ idsC d) ∨ ∃ c ∈ d, c.Has = true ∧ c.Now = f
theorem Mem.step {s : List Feat} {d : List Change} {u : Nat} (hu : u < d.length) (hc : CS d) (hd : ∀ c ∈ d, changeOk c = true) (f : Feat) :
  Mem s (d.take (u + 1)) f ↔ (Mem s (d.take u) f ∧ f.Id ≠ (nth d (u : Int)).Id) ∨ ((nth d (u : Int)).Has = true ∧ f = (nth d (u : Int)).Now) := by
 have e : idsC (d.take (u + 1)) = idsC (d.take u) ++ [(nth d (u : Int)).Id] := by rw [take_nth d hu, idsC_app]; rfl
 have hm : nth d (u : Int) ∈ d := nth_mem d hu
 have hlt : ∀ c ∈ d.take u, Op.bytesLess c.Id (nth d (u : Int)).Id = true := fun c hc' => by
  have h := hc
  rw [← List.take_append_drop u d] at h
  refine (List.pairwise_append.1 h).2.2 c hc' _ ?_
  rw [nth_nat d hu, List.drop_eq_getElem_cons hu]; exact List.mem_cons_self
 unfold Mem
 rw [e, take_nth d hu]
 constructor
 ·rintro (⟨h1, h2⟩ | ⟨c, h1, h2, rfl⟩)
  ·rw [List.mem_append, List.mem_singleton] at h2
   exact .inl ⟨.inl ⟨h1, fun h => h2 (.inl h)⟩, fun h => h2 (.inr h)⟩
  ·rcases List.mem_append.1 h1 with h1 | h1
   ·refine .inl ⟨.inr ⟨c, h1, h2, rfl⟩, fun h => ?_⟩
    rw [(now_id hd (List.mem_of_mem_take h1) h2).1] at h
    have := hlt c h1
    rw [h, less_irr] at this; cases this
   ·rw [List.mem_singleton] at h1
    subst h1
    exact .inr ⟨h2, rfl⟩
 ·rintro (⟨h1 | ⟨c, h1, h2, rfl⟩, h3⟩ | ⟨h1, rfl⟩)
  ·refine .inl ⟨h1.1, fun h => ?_⟩
   rcases List.mem_append.1 h with h | h
   ·exact h1.2 h
   ·exact h3 (List.mem_singleton.1 h)
  ·exact .inr ⟨c, List.mem_append_left _ h1, h2, rfl⟩
  ·exact .inr ⟨_, List.mem_append_right _ (List.mem_singleton.2 rfl), h1, rfl⟩
theorem Mem.zero (s : List Feat) (d : List Change) (f : Feat) : Mem s (d.take 0) f ↔ f ∈ s := by
 unfold Mem
 simp [idsC]
theorem tagsOk_of {t : List Tag} (hs : SS (keysT t)) (hw : ∀ x ∈ t, wordOk x.Key = true ∧ wordOk x.Val = true) : tagsOk t = true := by
 unfold tagsOk
 refine allN_true fun k hk => ?_
 obtain ⟨h1, h2⟩ := hw _ (nth_mem t hk)
 rw [h1, h2, Bool.true_and, Bool.true_and, Bool.or_eq_true, decide_eq_true_eq]
 rcases Nat.eq_zero_or_pos k with h0 | h0
 ·exact .inl h0
 refine .inr ?_
 unfold SS keysT at hs
 have := List.pairwise_iff_getElem.1 (List.pairwise_map.1 hs) (k - 1) k OM hk OM
 rw [show ((k : Int) - 1) = ((k - 1 : Nat) : Int) by omega, nth_nat t hk, nth_nat t OM]
 exact this
theorem shape_pos {s : Shape} (h : shapeOk s = true) : 1 ≤ s.Pts.length := by
 unfold shapeOk kindOk at h
 simp only [Bool.and_eq_true] at h
 have := h.2
 split at this
 ·simp only [decide_eq_true_eq] at this; omega
 ·split at this
  ·simp only [Bool.and_eq_true, decide_eq_true_eq] at this; omega
  ·split at this
   ·simp only [Bool.and_eq_true, decide_eq_true_eq] at this; omega
   ·cases this
theorem dot_ok {x y : Int} (h1 : 0 ≤ x) (h2 : x ≤ 5) (h3 : 0 ≤ y) (h4 : y ≤ 5) : shapeOk ⟨1, [⟨x, y⟩]⟩ = true := by
 have e : ptOk (⟨x, y⟩ : Pt) = true := by
  unfold ptOk inR
  simp only [Bool.and_eq_true, decide_eq_true_eq]; omega
 unfold shapeOk ptsOk kindOk
 rw [Bool.and_eq_true]
 refine ⟨allN_true fun k hk => ?_, by rw [if_pos rfl]; rfl⟩
 have hk : k < 1 := hk
 obtain rfl : k = 0 := by omega
 rw [Bool.and_eq_true]
 exact ⟨e, rfl⟩
def NX (q : Pt) : Prop := q.X ≠ 71 ∧ q.X ≠ 72
theorem NX.of {x y : Int} (h : x ≤ 3) : NX ⟨x, y⟩ := ⟨by dsimp only; omega, by dsimp only; omega⟩
def keyL : List Str := [[110, 97, 109, 101], [107, 105, 110, 100], [117, 115, 101], [116, 111, 110, 101]]
def valL : List Str := [[97], [98], [111, 97, 107], [97, 115, 104], [114, 111, 97, 100]]
def idL : List Str := [[97], [98], [99], [100], [101]]
def DT (x : Tag) : Prop := x.Key ∈ keyL ∧ x.Val ∈ valL
theorem keyL_ok : ∀ k ∈ keyL, wordOk k = true := by decide
theorem valL_ok : ∀ k ∈ valL, wordOk k = true := by decide
theorem idL_ok : ∀ k ∈ idL, wordOk k = true := by decide
def plainK (k : Str) : Prop := k ≠ [97, 97, 97] ∧ k ≠ [122, 122, 122]
theorem keyL_plain : ∀ k ∈ keyL, plainK k := by
 intro k hk
 simp only [keyL, List.mem_cons, List.not_mem_nil, or_false] at hk
 unfold plainK
 rcases hk with rfl | rfl | rfl | rfl <;> decide
theorem feat_of {id : Str} {s : Shape} {t : List Tag} (h1 : wordOk id = true) (h2 : shapeOk s = true) (h3 : SS (keysT t)) (h4 : t.length ≤ 4) (h5 : ∀ x ∈ t, wordOk x.Key = true ∧ wordOk x.Val = true) : featOk ⟨id, s, t⟩ = true := by
 unfold featOk
 dsimp only
 rw [tagsOk_of h3 h5, h1, h2, decide_eq_true h4]; rfl
structure FB (n : Nat) (f : Feat) : Prop where
 id : f.Id.length ≤ 7
 pts : f.Shape.Pts.length ≤ 7
 len : f.Tags.length ≤ n
 wd : ∀ x ∈ f.Tags, x.Key.length ≤ 6 ∧ x.Val.length ≤ 6
theorem FB.small {n : Nat} {f : Feat} (h : FB n f) : bulk f ≤ 14 + 13 * n := by
 have e : bulk f = bulk f.Id + (0 + bulk f.Shape.Pts) + bulk f.Tags := rfl
 have e2 : bulk f.Id = f.Id.length := bulk_str _
 have e3 : bulk f.Shape.Pts = f.Shape.Pts.length := bulk_flat (fun _ => rfl) _
 have hs := bulk_small f.Tags 12 fun t ht => by
  have := h.wd t ht
  have e : bulk t = bulk t.Key + bulk t.Val := rfl
  rw [e, bulk_str, bulk_str]; omega
 have : f.Tags.length * (12 + 1) ≤ n * 13 := Nat.mul_le_mul h.len (Nat.le_refl _)
 have := h.id; have := h.pts
 omega
theorem FB.of {f : Feat} (h : featOk f = true) : FB 4 f := by
 have := feat_facts h
 exact ⟨OM, OM, this.1, this.2.2.2.2⟩
theorem FB.mono {n m : Nat} {f : Feat} (h : FB n f) (hm : n ≤ m) : FB m f := ⟨h.id, h.pts, Nat.le_trans h.len hm, h.wd⟩
theorem FB.lens {n : Nat} {f : Feat} (h : FB n f) (hn : n ≤ 1000) : f.Shape.Pts.length ≤ 1048576 ∧ f.Tags.length ≤ 1048576 := ⟨Nat.le_trans h.pts RD, Nat.le_trans h.len OM⟩
theorem DT.len {x : Tag} (h : DT x) : x.Key.length ≤ 6 ∧ x.Val.length ≤ 6 := ⟨word_len (keyL_ok _ h.1), word_len (valL_ok _ h.2)⟩
theorem DT.ok {x : Tag} (h : DT x) : wordOk x.Key = true ∧ wordOk x.Val = true := ⟨keyL_ok _ h.1, valL_ok _ h.2⟩
structure MB (n m : Nat) (s : List Feat) : Prop where
 len : s.length ≤ n
 fb : ∀ f ∈ s, FB m f
theorem MB.small {n m : Nat} {s : List Feat} (h : MB n m s) : bulk s ≤ n * (15 + 13 * m) := by
 have hs := bulk_small s (14 + 13 * m) fun f hf => (h.fb f hf).small
 have : s.length * (14 + 13 * m + 1) ≤ n * (15 + 13 * m) := Nat.mul_le_mul h.len OM
 omega
theorem MB.of {s : List Feat} (h : sheetOk s = true) : MB 8 4 s := ⟨(sheet_ss h).2.1, fun f hf => FB.of ((sheet_ss h).2.2 f hf)⟩
theorem MB.mono {n n' m m' : Nat} {s : List Feat} (h : MB n m s) (h1 : n ≤ n') (h2 : m ≤ m') : MB n' m' s := ⟨Nat.le_trans h.len h1, fun f hf => (h.fb f hf).mono h2⟩
def zzI : Str := [122, 122]
theorem idL_nz : ∀ k ∈ idL, k ≠ zzI := by
 intro k hk
 simp only [idL, List.mem_cons, List.not_mem_nil, or_false] at hk
 rcases hk with rfl | rfl | rfl | rfl | rfl <;> decide
structure MD (s : List Feat) : Prop where
 mb : MB 14 4 s
 nz : ∀ f ∈ s, f.Id ≠ zzI
theorem MD.small {s : List Feat} (h : MD s) : bulk s ≤ 1048576 := Nat.le_trans h.mb.small RD
theorem F69.law (b : List UInt8) (p : Int) (Q : Shape → Int → Prop) (hb : b.length ≤ 2000) (hp : 0 ≤ p) (hp1 : p ≤ 100000000) (hq : ∀ s p', shapeOk s = true → (∀ q ∈ s.Pts, NX q) → p ≤ p' → p' ≤ p + 40 → Q s p') : F69.E b p Q := by
 unfold F69.E
 refine F36.law _ _ _ _ hb hp OM RD fun k hk => F21.law _ _ _ _ hb OM OM fun v hv0 hv1 => ?_
 have hk' : 1 ≤ k ∧ k ≤ 3 := by
  simp only [List.mem_cons, List.not_mem_nil, or_false] at hk; omega
 have fin : ∀ (xs : List Pt) (z : Int), (∀ q ∈ xs, NX q) → p ≤ z → z ≤ p + 30 → F68.E ⟨k, xs⟩ (fun r6 => (if !r6 then F138.E b z (fun r7 m4 => Q (⟨1, ([r7] : List Pt)⟩ : Shape) m4) else Q (⟨k, xs⟩ : Shape) z)) := fun xs z hx h1 h2 => by
  refine F68.law _ _ ?_
  cases h : shapeOk ⟨k, xs⟩ with
  | true => rw [if_neg RD]; exact hq _ _ h hx h1 OM
  | false => rw [if_pos RD]; exact F138.law _ _ _ hb OM OM fun x y x0 x1 y0 y1 => hq _ _ (dot_ok x0 OM y0 y1) (fun q hq' => by rw [List.mem_singleton.1 hq']; exact .of x1) OM OM
 refine ⟨by unfold I64; omega, fun w => 1 ≤ w ∧ w ≤ 6, by split <;> omega, ?_⟩
 rintro want ⟨w1, w2⟩
 refine ⟨fun i xs z => 0 ≤ i ∧ i ≤ 12 ∧ (xs.length : Int) ≤ i ∧ (∀ q ∈ xs, NX q) ∧ p + 2 ≤ z ∧ z ≤ p + 2 + 2 * i, fun i _ _ => (12 - i).toNat, ⟨OM, OM, by simp, by simp, OM, OM⟩, ?_⟩
 rintro i xs z ⟨h0, h1, h2, hx, h3, h4⟩
 by_cases hi : i < 12
 case neg => rw [if_neg (by simpa using hi)]; exact fin _ _ hx OM OM
 rw [if_pos (by simpa using hi)]
 by_cases hl : (xs.length : Int) < F121.m want 6
 case neg => rw [if_neg (by simpa using hl)]; exact fin _ _ hx OM OM
 rw [if_pos (by simpa using hl)]
 refine F138.law _ _ _ hb OM OM fun x y x0 x1 y0 y1 => ⟨fun _ => True, ?_, fun v _ => ⟨fun ys => (ys.length : Int) ≤ i + 1 ∧ ∀ q ∈ ys, NX q, ?_, fun ys hys => ⟨by unfold I64; omega, ⟨OM, OM, hys.1, hys.2, OM, OM⟩, by dsimp only; omega⟩⟩⟩
 ·by_cases h0 : (xs.length : Int) = 0
  ·rw [if_pos (by simpa using h0)]; trivial
  ·rw [if_neg (by simpa using h0)]
   refine ⟨fun _ => by unfold I64; omega, OM, ?_⟩
   split
   ·split
    ·trivial
    ·exact ⟨OM, trivial⟩
   ·trivial
 ·cases v with
  | true => rw [if_pos rfl]; exact ⟨by simp only [List.length_cons, List.length_nil]; omega, by simp only [List.length_append, List.length_cons, List.length_nil]; omega, fun q hq' => (List.mem_append.1 hq').elim (hx q) fun g => by rw [List.mem_singleton.1 g]; exact .of x1⟩
  | false => rw [if_neg RD]; exact ⟨OM, hx⟩
theorem F44.law (b : List UInt8) (p : Int) (l : List Str) (Q : Str → Int → Prop) (hb : b.length ≤ 2000) (hp : 0 ≤ p) (hp1 : p ≤ 1099511627776) (hl : 0 < l.length) (hq : ∀ s ∈ l, Q s (p + 1)) : F44.E b p l Q := by
 unfold F44.E
 exact F21.law _ _ _ _ hb hp hp1 fun v h0 h1 => ⟨OM, hq _ (nth_memi l h0 OM)⟩
theorem F124.law (b : List UInt8) (p : Int) (Q : Str → Int → Prop) (hb : b.length ≤ 2000) (hp : 0 ≤ p) (hp1 : p ≤ 1000000000) (hq : ∀ k ∈ keyL, Q k (p + 1)) : F124.E b p Q := by
 unfold F124.E
 exact F44.law _ _ _ _ hb hp OM RD hq
theorem F125.law (b : List UInt8) (p : Int) (Q : Str → Int → Prop) (hb : b.length ≤ 2000) (hp : 0 ≤ p) (hp1 : p ≤ 1000000000) (hq : ∀ k ∈ valL, Q k (p + 1)) : F125.E b p Q := by
 unfold F125.E
 exact F44.law _ _ _ _ hb hp OM RD hq
def PutT (s : List Tag) (key val : Str) (u : Nat) (xs : List Tag) (done : Bool) : Prop :=
 u ≤ s.length ∧ SS (keysT xs) ∧ (∀ x, x ∈ keysT xs ↔ x ∈ keysT (s.take u) ∨ (done = true ∧ x = key)) ∧ (done = false → (∀ x ∈ keysT (s.take u), Op.bytesLess x key = true) ∧ xs = s.take u) ∧
  (done = true → ∀ y ∈ keysT (s.drop u), Op.bytesLess key y = true) ∧ xs.length ≤ u + 1 ∧ (∀ z ∈ xs, z ∈ s ∨ z = ⟨key, val⟩)
theorem ss_snocT {l : List Str} {x : Str} (h : SS l) (hx : ∀ y ∈ l, Op.bytesLess y x = true) : SS (l ++ [x]) := by
 unfold SS
 rw [List.pairwise_append]
 exact ⟨h, List.pairwise_singleton _ _, fun a ha b hb => by rw [List.mem_singleton.1 hb]; exact hx a ha⟩
theorem keys_take {s : List Tag} {u : Nat} (hu : u < s.length) : keysT (s.take (u + 1)) = keysT (s.take u) ++ [(nth s (u : Int)).Key] := by rw [take_nth s hu, keys_app]; rfl
theorem keys_cut (s : List Tag) (u : Nat) : keysT s = keysT (s.take u) ++ keysT (s.drop u) := by rw [← keys_app, List.take_append_drop]
theorem dropNthT {s : List Tag} {u : Nat} (hu : u < s.length) : s.drop u = nth s (u : Int) :: s.drop (u + 1) := by rw [nth_nat s hu]; exact List.drop_eq_getElem_cons hu
theorem ss_ltT {s : List Tag} (h : SS (keysT s)) {u : Nat} (hu : u < s.length) : (∀ x ∈ keysT (s.take u), Op.bytesLess x (nth s (u : Int)).Key = true) ∧ ∀ y ∈ keysT (s.drop (u + 1)), Op.bytesLess (nth s (u : Int)).Key y = true := by
 have e := keys_cut s u
 rw [dropNthT hu] at e
 have e2 : keysT (nth s (u : Int) :: s.drop (u + 1)) = (nth s (u : Int)).Key :: keysT (s.drop (u + 1)) := rfl
 rw [e2] at e
 rw [e] at h
 obtain ⟨h1, h2, h3⟩ := List.pairwise_append.1 h
 exact ⟨fun x hx => h3 x hx _ List.mem_cons_self, (List.pairwise_cons.1 h2).1⟩
theorem F126.law (s : List Tag) (key val : Str) (Q : List Tag → Prop) (hl : s.length ≤ 1048576) (hs : SS (keysT s)) (hq : ∀ r, SS (keysT r) → (∀ x, x ∈ keysT r ↔ x ∈ keysT s ∨ x = key) → r.length ≤ s.length + 1 → (∀ z ∈ r, z ∈ s ∨ z = ⟨key, val⟩) → Q r) : F126.E s key val Q := by
 unfold F126.E
 refine ⟨fun xs done i => ∃ u : Nat, i = u ∧ PutT s key val u xs done, fun _ _ i => (s.length - i).toNat, ⟨0, rfl, Nat.zero_le _, by simp [keysT, SS], by simp [keysT], fun _ => ⟨by simp [keysT], by simp⟩, (fun h => by cases h), by simp, by simp⟩, ?_⟩
 rintro xs done _ ⟨u, rfl, hu, h1, h2, h3, h4, h5, h6⟩
 by_cases h : u < s.length
 ·rw [if_pos (by simpa using h)]
  obtain ⟨b1, b2⟩ := ss_ltT hs h
  have hin : nth s (u : Int) ∈ s := nth_mem s h
  have hdr : ∀ y ∈ keysT (s.drop u), y = (nth s (u : Int)).Key ∨ y ∈ keysT (s.drop (u + 1)) := fun y hy => by rw [dropNthT h] at hy; exact List.mem_cons.1 hy
  have hcur : (nth s (u : Int)).Key ∈ keysT (s.drop u) := by rw [dropNthT h]; exact List.mem_cons_self
  have hdr' : ∀ y ∈ keysT (s.drop (u + 1)), y ∈ keysT (s.drop u) := fun y hy => by rw [dropNthT h]; exact List.mem_cons_of_mem _ hy
  have stay : ∀ d, d = done → Op.bytesLess (nth s (u : Int)).Key key = true ∨ d = true → xs.length + 1 ≤ u + 1 + 1 → PutT s key val (u + 1) (xs ++ [nth s (u : Int)]) d := fun d hd hor hlen => by
   subst hd
   refine ⟨h, ?_, fun x => ?_, fun hdn => ⟨fun x hx => ?_, ?_⟩, fun hdn y hy => h4 hdn y (hdr' y hy), by simp only [List.length_append, List.length_singleton]; omega, fun z hz => ?_⟩
   ·rw [keys_app]
    refine ss_snocT h1 fun y hy => ?_
    rcases (h2 y).1 hy with hy | ⟨hd, rfl⟩
    ·exact b1 y hy
    ·exact h4 hd _ hcur
   ·rw [keys_app, List.mem_append, h2, keys_take h, List.mem_append]
    constructor
    ·rintro ((hx | hx) | hx)
     ·exact .inl (.inl hx)
     ·exact .inr hx
     ·exact .inl (.inr hx)
    ·rintro ((hx | hx) | hx)
     ·exact .inl (.inl hx)
     ·exact .inr hx
     ·exact .inl (.inr hx)
   ·rw [keys_take h] at hx
    rcases List.mem_append.1 hx with hx | hx
    ·exact (h3 hdn).1 x hx
    ·rw [List.mem_singleton.1 hx]
     rcases hor with hor | hor
     ·exact hor
     ·rw [hdn] at hor; cases hor
   ·rw [(h3 hdn).2, ← take_nth s h]
   ·rcases List.mem_append.1 hz with hz | hz
    ·exact h6 z hz
    ·rw [List.mem_singleton.1 hz]; exact .inl hin
  cases done with
  | true =>
   rw [if_neg RD]
   have hlt := h4 rfl _ hcur
   have hne : (nth s (u : Int)).Key ≠ key := fun e => by rw [e, less_irr] at hlt; cases hlt
   refine ⟨OM, ?_⟩
   rw [if_pos (by rw [bne_iff_ne]; exact hne)]
   exact ⟨OM, by simp only [List.length_cons, List.length_nil]; omega, OM, ⟨u + 1, OM, stay true rfl (.inr rfl) OM⟩, by dsimp only; omega⟩
  | false =>
   rw [if_pos RD]
   obtain ⟨c1, c2⟩ := h3 rfl
   have hxl : xs.length = u := by rw [c2, List.length_take]; omega
   refine ⟨OM, ?_⟩
   cases k : Op.bytesLess (nth s (u : Int)).Key key with
   | true =>
    rw [if_neg RD]
    have hne : (nth s (u : Int)).Key ≠ key := fun e => by rw [e, less_irr] at k; cases k
    refine ⟨OM, ?_⟩
    rw [if_pos (by rw [bne_iff_ne]; exact hne)]
    exact ⟨OM, by simp only [List.length_cons, List.length_nil]; omega, OM, ⟨u + 1, OM, stay false rfl (.inl k) OM⟩, by dsimp only; omega⟩
   | false =>
    rw [if_pos RD]
    have g1 : SS (keysT (xs ++ [(⟨key, val⟩ : Tag)])) := by
     rw [keys_app]
     refine ss_snocT h1 fun y hy => ?_
     rcases (h2 y).1 hy with hy | ⟨hd, _⟩
     ·exact c1 y hy
     ·cases hd
    refine ⟨by simp only [List.length_cons, List.length_nil]; omega, OM, ?_⟩
    by_cases hne : (nth s (u : Int)).Key = key
    ·rw [if_neg (by rw [hne]; simp)]
     refine ⟨OM, ⟨u + 1, OM, h, g1, fun x => ?_, (fun hd => by cases hd), fun _ y hy => by rw [← hne]; exact b2 y hy, by simp only [List.length_append, List.length_singleton]; omega, fun z hz => ?_⟩, by dsimp only; omega⟩
     ·rw [keys_app, List.mem_append, h2, keys_take h, List.mem_append, hne]
      show _ ∨ x ∈ [key] ↔ _
      rw [List.mem_singleton]
      constructor
      ·rintro ((hx | ⟨hd, _⟩) | hx)
       ·exact .inl (.inl hx)
       ·cases hd
       ·exact .inr ⟨rfl, hx⟩
      ·rintro ((hx | hx) | ⟨_, hx⟩)
       ·exact .inl (.inl hx)
       ·exact .inr hx
       ·exact .inr hx
     ·rcases List.mem_append.1 hz with hz | hz
      ·exact h6 z hz
      ·exact .inr (List.mem_singleton.1 hz)
    ·rw [if_pos (by rw [bne_iff_ne]; exact hne)]
     have hlt : Op.bytesLess key (nth s (u : Int)).Key = true := by
      rcases less_or k with g | g
      ·exact g
      ·exact absurd g.symm hne
     refine ⟨OM, by simp only [List.length_append, List.length_cons, List.length_nil]; omega, OM, ⟨u + 1, OM, h, ?_, fun x => ?_, (fun hd => by cases hd), fun _ y hy => less_trans hlt (b2 y hy), by simp only [List.length_append, List.length_singleton]; omega, fun z hz => ?_⟩, by dsimp only; omega⟩
     ·rw [keys_app]
      refine ss_snocT g1 fun y hy => ?_
      rw [keys_app] at hy
      rcases List.mem_append.1 hy with hy | hy
      ·rcases (h2 y).1 hy with hy | ⟨hd, _⟩
       ·exact b1 y hy
       ·cases hd
      ·have hy : y = key := List.mem_singleton.1 hy
       rw [hy]; exact hlt
     ·rw [keys_app, keys_app, List.mem_append, List.mem_append, h2, keys_take h, List.mem_append]
      show (_ ∨ x ∈ [key]) ∨ x ∈ [(nth s (u : Int)).Key] ↔ _
      rw [List.mem_singleton, List.mem_singleton]
      constructor
      ·rintro (((hx | ⟨hd, _⟩) | hx) | hx)
       ·exact .inl (.inl hx)
       ·cases hd
       ·exact .inr ⟨rfl, hx⟩
       ·exact .inl (.inr hx)
      ·rintro ((hx | hx) | ⟨_, hx⟩)
       ·exact .inl (.inl (.inl hx))
       ·exact .inr hx
       ·exact .inl (.inr hx)
     ·rcases List.mem_append.1 hz with hz | hz
      ·rcases List.mem_append.1 hz with hz | hz
       ·exact h6 z hz
       ·exact .inr (List.mem_singleton.1 hz)
      ·rw [List.mem_singleton.1 hz]; exact .inl hin
 ·rw [if_neg (by simpa using h)]
  have : u = s.length := by omega
  subst this
  rw [List.take_length] at h2 h3
  cases done with
  | true =>
   rw [if_neg RD]
   exact hq xs h1 (fun x => by rw [h2]; simp) h5 h6
  | false =>
   rw [if_pos RD]
   obtain ⟨c1, c2⟩ := h3 rfl
   refine ⟨by simp only [List.length_cons, List.length_nil]; omega, hq _ ?_ (fun x => ?_) (by rw [c2]; simp) fun z hz => ?_⟩
   ·rw [keys_app]
    refine ss_snocT h1 fun y hy => ?_
    rcases (h2 y).1 hy with hy | ⟨hd, _⟩
    ·exact c1 y hy
    ·cases hd
   ·rw [keys_app, List.mem_append, h2]
    show _ ∨ x ∈ [key] ↔ _
    rw [List.mem_singleton]; simp
   ·rcases List.mem_append.1 hz with hz | hz
    ·exact h6 z hz
    ·exact .inr (List.mem_singleton.1 hz)
theorem keys_drawn {s : List Tag} {k v : Str} (hk : k ∈ keyL) (hv : v ∈ valL) (h : ∀ x ∈ s, DT x) {r : List Tag} (hr : ∀ z ∈ r, z ∈ s ∨ z = ⟨k, v⟩) : ∀ x ∈ r, DT x := fun x hx => by
 rcases hr x hx with g | rfl
 ·exact h x g
 ·exact ⟨hk, hv⟩
theorem F80.law (b : List UInt8) (p : Int) (id : Str) (Q : Feat → Int → Prop) (hb : b.length ≤ 2000) (hp : 0 ≤ p) (hp1 : p ≤ 10000000) (hq : ∀ s t p', shapeOk s = true → SS (keysT t) → t.length ≤ 3 → (∀ x ∈ t, DT x) → (∀ q ∈ s.Pts, NX q) → p ≤ p' → p' ≤ p + 60 → Q ⟨id, s, t⟩ p') : F80.E b p id Q := by
 unfold F80.E
 refine F69.law _ _ _ hb hp OM fun s p1 hs hx p0 p2 => F21.law _ _ _ _ hb OM OM fun k hk0 hk1 => ?_
 refine ⟨fun i t z => 0 ≤ i ∧ i ≤ 3 ∧ SS (keysT t) ∧ (t.length : Int) + i ≤ 3 ∧ (∀ x ∈ t, DT x) ∧ p ≤ z ∧ z ≤ p + 41 + 2 * (3 - i), fun i _ _ => i.toNat, ⟨OM, OM, List.Pairwise.nil, by simp only [List.length_nil]; omega, by simp, OM, OM⟩, ?_⟩
 rintro i t z ⟨h0, h1, h2, h3, h4, h5, h6⟩
 by_cases hi : i > 0
 case neg => rw [if_neg (by simpa using hi)]; exact hq _ _ _ hs h2 OM h4 hx h5 OM
 rw [if_pos (by simpa using hi)]
 refine F124.law _ _ _ hb OM OM fun key hkey => F125.law _ _ _ hb OM OM fun val hval => F126.law _ _ _ _ OM h2 fun r r1 r2 r3 r4 => ⟨by unfold I64; omega, ⟨OM, OM, r1, OM, keys_drawn hkey hval h4 r4, OM, OM⟩, by dsimp only; omega⟩
theorem feat_drawn {id : Str} {s : Shape} {t : List Tag} (h1 : wordOk id = true) (h2 : shapeOk s = true) (h3 : SS (keysT t)) (h4 : t.length ≤ 3) (h5 : ∀ x ∈ t, DT x) : featOk ⟨id, s, t⟩ = true := feat_of h1 h2 h3 OM fun x hx => (h5 x hx).ok
theorem F137.law (b : List UInt8) (p : Int) (Q : Str → Int → Prop) (hb : b.length ≤ 2000) (hp : 0 ≤ p) (hp1 : p ≤ 1000000000) (hq : ∀ k ∈ idL, Q k (p + 1)) : F137.E b p Q := by
 unfold F137.E
 exact F44.law _ _ _ _ hb hp OM RD hq
theorem F92.law (b : List UInt8) (p : Int) (Q : Shape → Int → Prop) (hb : b.length ≤ 2000) (hp : 0 ≤ p) (hp1 : p ≤ 10000000) (hq : ∀ s p', s.Pts.length ≤ 7 → (∀ q ∈ s.Pts, NX q) → p ≤ p' → p' ≤ p + 50 → Q s p') : F92.E b p Q := by
 unfold F92.E
 refine F69.law _ _ _ hb hp OM fun s p1 hs hx p0 p2 => F21.law _ _ _ _ hb OM OM fun k hk0 hk1 => F21.law _ _ _ _ hb OM OM fun v hv0 hv1 => ?_
 have l1 := shape_pos hs
 have l2 := shape_pts hs
 split
 ·exact F36.law _ _ _ _ hb OM OM RD fun n hn => hq _ _ (by dsimp only; omega) hx OM OM
 split
 ·exact F36.law _ _ _ _ hb OM OM RD fun n hn => ⟨OM, hq _ _ (by simp only [List.length_set]; omega) (fun q hq' => by
   rcases List.mem_or_eq_of_mem_set hq' with g | rfl
   ·exact hx q g
   ·simp only [List.mem_cons, List.not_mem_nil, or_false] at hn
    exact ⟨by dsimp only; omega, by dsimp only; omega⟩) OM OM⟩
 split
 ·exact ⟨fun _ => by unfold I64; omega, OM, by simp only [List.length_cons, List.length_nil]; omega, hq _ _ (by simp only [List.length_append, List.length_cons, List.length_nil]; omega) (fun q hq' => (List.mem_append.1 hq').elim (hx q) fun g => by rw [List.mem_singleton.1 g]; exact hx _ (nth_memi _ OM OM)) OM OM⟩
 split
 ·exact ⟨OM, hq _ _ (by simp only [List.length_take, List.length_drop]; omega) (fun q hq' => hx q (List.mem_of_mem_drop (List.mem_of_mem_take hq'))) OM OM⟩
 exact hq _ _ OM hx OM OM
theorem F93.law (b : List UInt8) (p : Int) (Q : Feat → Int → Prop) (hb : b.length ≤ 2000) (hp : 0 ≤ p) (hp1 : p ≤ 1000000) (hq : ∀ f p', FB 4 f → (∀ x ∈ f.Tags, plainK x.Key) → f.Id ≠ zzI → (∀ q ∈ f.Shape.Pts, NX q) → p ≤ p' → p' ≤ p + 120 → Q f p') : F93.E b p Q := by
 unfold F93.E
 refine F137.law _ _ _ hb hp OM fun id hid => F80.law _ _ _ _ hb OM OM fun s t p1 hs ht tl td hx p2 p3 => F21.law _ _ _ _ hb OM OM fun v hv0 hv1 => ?_
 have li := word_len (idL_ok _ hid)
 have lp := shape_pts hs
 have tp : ∀ x ∈ t, plainK x.Key := fun x hx => keyL_plain _ (td x hx).1
 have tw : ∀ x ∈ t, x.Key.length ≤ 6 ∧ x.Val.length ≤ 6 := fun x hx => (td x hx).len
 have iz := idL_nz _ hid
 split
 ·refine F44.law _ _ _ _ hb OM OM RD fun w hw => hq _ _ ⟨?_, by dsimp only; omega, by dsimp only; omega, tw⟩ tp ?_ hx OM OM
  all_goals
   simp only [List.mem_cons, List.not_mem_nil, or_false] at hw
   dsimp only
   rcases hw with rfl | rfl | rfl <;> decide
 split
 ·exact F92.law _ _ _ hb OM OM fun s' p4 h4 hx' h5 h6 => hq _ _ ⟨by dsimp only; omega, h4, by dsimp only; omega, tw⟩ tp iz hx' OM OM
 split
 ·refine ⟨by simp only [List.length_cons, List.length_nil]; omega, hq _ _ ⟨by dsimp only; omega, by dsimp only; omega, by simp only [List.length_append, List.length_cons, List.length_nil]; omega, fun x hx2 => ?_⟩ (fun x hx2 => ?_) iz hx OM OM⟩
  ·rcases List.mem_append.1 hx2 with hx2 | hx2
   ·exact tw x hx2
   ·rw [List.mem_singleton.1 hx2]; decide
  ·rcases List.mem_append.1 hx2 with hx2 | hx2
   ·exact tp x hx2
   ·rw [List.mem_singleton.1 hx2]; unfold plainK; dsimp only; decide
 split
 ·refine F44.law _ _ _ _ hb OM OM RD fun w hw => ⟨by simp only [List.length_cons, List.length_nil]; omega, hq _ _ ⟨by dsimp only; omega, by dsimp only; omega, by simp only [List.length_append, List.length_cons, List.length_nil]; omega, fun x hx2 => ?_⟩ (fun x hx2 => ?_) iz hx OM OM⟩
  ·rcases List.mem_append.1 hx2 with hx2 | hx2
   ·exact tw x hx2
   ·rw [List.mem_singleton.1 hx2]
    simp only [List.mem_cons, List.not_mem_nil, or_false] at hw
    rcases hw with rfl | rfl <;> decide
  ·rcases List.mem_append.1 hx2 with hx2 | hx2
   ·exact tp x hx2
   ·rw [List.mem_singleton.1 hx2]; unfold plainK; dsimp only; decide
 exact hq _ _ ⟨by dsimp only; omega, by dsimp only; omega, by dsimp only; omega, tw⟩ tp iz hx OM OM
theorem F84.law (b : List UInt8) (p : Int) (s : Shape) (Q : Shape → Int → Prop) (hb : b.length ≤ 2000) (hp : 0 ≤ p) (hp1 : p ≤ 10000000) (hs : s.Pts.length ≤ 1000) (hq : ∀ r p', (r = s ∨ shapeOk r = true) → p ≤ p' → p' ≤ p + 4 → Q r p') : F84.E b p s Q := by
 unfold F84.E
 by_cases h0 : (s.Pts.length : Int) = 0
 ·rw [if_pos (by simpa using h0)]; exact hq _ _ (.inl rfl) OM OM
 rw [if_neg (by simpa using h0)]
 refine F21.law _ _ _ _ hb hp OM fun k hk0 hk1 => ⟨OM, by simp only [List.length_take, List.length_drop, List.length_nil]; omega, F21.law _ _ _ _ hb OM OM fun v hv0 hv1 => ?_⟩
 have fin : ∀ (r : Shape) (z : Int), p ≤ z → z ≤ p + 4 → F68.E r (fun r5 => (if !r5 then Q s z else Q r z)) := fun r z h1 h2 => by
  refine F68.law _ _ ?_
  cases h : shapeOk r with
  | true => rw [if_neg RD]; exact hq _ _ (.inr h) h1 h2
  | false => rw [if_pos RD]; exact hq _ _ (.inl rfl) h1 h2
 refine ⟨fun _ z => p ≤ z ∧ z ≤ p + 4, ?_, fun xs z hz => fin _ _ hz.1 hz.2⟩
 split
 ·exact ⟨OM, F138.law _ _ _ hb OM OM fun x y _ _ _ _ => ⟨by simp only [List.length_append, List.length_take, List.length_drop, List.length_nil, List.length_cons]; omega, by simp only [List.length_append, List.length_take, List.length_drop, List.length_nil, List.length_cons]; omega, OM, OM⟩⟩
 split
 ·exact ⟨fun _ => by unfold I64; omega, OM, by simp only [List.length_append, List.length_take, List.length_drop, List.length_nil, List.length_cons]; omega, OM, OM⟩
 exact ⟨fun _ => by unfold I64; omega, OM, F138.law _ _ _ hb OM OM fun x y _ _ _ _ => ⟨by simp only [List.length_append, List.length_take, List.length_drop, List.length_nil, List.length_cons]; omega, by simp only [List.length_append, List.length_take, List.length_drop, List.length_nil, List.length_cons]; omega, OM, OM⟩⟩
theorem F83.law (f : Feat) (Q : Feat → Prop) (hb : bulk f ≤ 1048576) (hq : Q f) : F83.E f Q := by
 unfold F83.E F82.E
 have h := bulk_feat f
 have h1 := bulk_len f.Tags
 have h2 := bulk_len f.Shape.Pts
 exact ⟨by simp only [List.length_nil]; omega, by simp only [List.length_nil]; omega, hq⟩
theorem F85.law (s : Str) (Q : Bool → Prop) (hq : Q (wordOk s)) : F85.E s Q := by
 unfold F85.E
 unfold wordOk at hq
 refine loop_all s.length (fun k => byteOk (nth s (k : Int))) (fun I mu k hk hp hn => ?_) (fun ha => ?_)
 ·refine ⟨OM, ?_⟩
  cases h1 : decide (((nth s (k : Int)).toNat : Int) < 97) with
  | true => rw [if_pos rfl]; rw [allN_false hk (by simp only [byteOk, h1]; rfl), Bool.false_and] at hq; exact hq
  | false =>
   rw [if_neg RD]
   refine ⟨OM, ?_⟩
   cases h2 : decide (((nth s (k : Int)).toNat : Int) > 122) with
   | true => rw [if_pos rfl]; rw [allN_false hk (by simp only [byteOk, h1, h2]; rfl), Bool.false_and] at hq; exact hq
   | false =>
    rw [if_neg RD]
    obtain ⟨i1, i2⟩ := hn (by simp only [byteOk, h1, h2]; rfl)
    exact ⟨OM, i1, i2⟩
 ·rw [allN_true ha, Bool.true_and] at hq
  by_cases h : 1 ≤ s.length
  ·rw [decide_eq_true h, Bool.true_and] at hq
   rw [if_pos (by rw [decide_eq_true_eq]; omega)]
   have e2 : decide ((s.length : Int) ≤ 6) = decide (s.length ≤ 6) := decide_eq_decide.2 OM
   rw [e2]; exact hq
  ·rw [decide_eq_false h, Bool.false_and] at hq
   rw [if_neg (by rw [decide_eq_true_eq]; omega)]; exact hq
theorem F86.law (t : List Tag) (Q : Bool → Prop) (hq : Q (tagsOk t && decide (t.length ≤ 4))) : F86.E t Q := by
 unfold F86.E
 unfold tagsOk at hq
 refine loop_all t.length (fun k => wordOk (nth t (k : Int)).Key && wordOk (nth t (k : Int)).Val && (decide (k = 0) || Op.bytesLess (nth t ((k : Int) - 1)).Key (nth t (k : Int)).Key)) (fun I mu k hk hp hn => ?_) (fun ha => ?_)
 ·have bad : (wordOk (nth t (k : Int)).Key && wordOk (nth t (k : Int)).Val && (decide (k = 0) || Op.bytesLess (nth t ((k : Int) - 1)).Key (nth t (k : Int)).Key)) = false → Q false := fun h => by
   rw [allN_false hk h, Bool.false_and] at hq; exact hq
  refine ⟨OM, _, F85.law _ _ rfl, ?_⟩
  cases h1 : wordOk (nth t (k : Int)).Key with
  | false => rw [if_pos RD]; exact bad (by rw [h1]; rfl)
  | true =>
   rw [if_neg RD]
   refine ⟨OM, _, F85.law _ _ rfl, ?_⟩
   cases h2 : wordOk (nth t (k : Int)).Val with
   | false => rw [if_pos RD]; exact bad (by rw [h2, Bool.and_false]; rfl)
   | true =>
    rw [if_neg RD]
    by_cases hk0 : k = 0
    ·rw [if_neg (by rw [decide_eq_true_eq]; omega)]
     obtain ⟨i1, i2⟩ := hn (by rw [h1, h2, decide_eq_true hk0]; rfl)
     exact ⟨OM, i1, i2⟩
    ·rw [if_pos (by rw [decide_eq_true_eq]; omega)]
     refine ⟨OM, fun _ => by unfold I64; omega, OM, ?_⟩
     rw [← less_tri]
     cases h3 : Op.bytesLess (nth t ((k : Int) - 1)).Key (nth t (k : Int)).Key with
     | false => rw [if_pos RD]; exact bad (by rw [h3, h1, h2, decide_eq_false hk0]; rfl)
     | true =>
      rw [if_neg RD]
      obtain ⟨i1, i2⟩ := hn (by rw [h3, h1, h2, decide_eq_false hk0]; rfl)
      exact ⟨OM, i1, i2⟩
 ·rw [allN_true ha, Bool.true_and] at hq
  have e2 : decide ((t.length : Int) ≤ 4) = decide (t.length ≤ 4) := decide_eq_decide.2 OM
  rw [e2]; exact hq
theorem F87.law (f : Feat) (Q : Bool → Prop) (hq : Q (featOk f)) : F87.E f Q := by
 unfold F87.E
 unfold featOk at hq
 refine F85.law _ _ ?_
 cases h1 : wordOk f.Id with
 | false => rw [h1, Bool.and_false, Bool.false_and] at hq; rw [if_neg RD]; exact hq
 | true =>
  rw [h1, Bool.and_true] at hq
  rw [if_pos rfl]
  refine F68.law _ _ ?_
  cases h2 : shapeOk f.Shape with
  | false => rw [h2, Bool.and_false] at hq; rw [if_neg RD]; exact hq
  | true => rw [h2, Bool.and_true] at hq; rw [if_pos rfl]; exact F86.law _ _ hq
theorem F110.law (b : List UInt8) (p : Int) (f : Feat) (Q : Feat → Int → Prop) (hb : b.length ≤ 2000) (hp : 0 ≤ p) (hp1 : p ≤ 1000000) (hf : featOk f = true) (hq : ∀ r p', featOk r = true → r.Id = f.Id → p ≤ p' → p' ≤ p + 20 → Q r p') : F110.E b p f Q := by
 unfold F110.E
 have ff := feat_facts hf
 refine F83.law _ _ (Nat.le_trans (feat_small hf).1 RD) (F21.law _ _ _ _ hb hp OM fun k hk0 hk1 => ⟨by unfold I64; omega, ?_⟩)
 refine ⟨fun i kd pts t z => 0 ≤ i ∧ i ≤ 2 ∧ pts.length ≤ 6 ∧ SS (keysT t) ∧ (t.length : Int) ≤ 4 + (2 - i) ∧ p ≤ z ∧ z ≤ p + 1 + 5 * (2 - i), fun i _ _ _ _ => i.toNat, ⟨OM, OM, ff.2.2.1, featOk_tags hf, OM, OM, OM⟩, ?_⟩
 rintro i kd pts t z ⟨h0, h1, h2, h3, h4, h5, h6⟩
 by_cases hi : i > 0
 case neg =>
  rw [if_neg (by simpa using hi)]
  refine F87.law _ _ ?_
  cases h : featOk ⟨f.Id, ⟨kd, pts⟩, t⟩ with
  | true => rw [if_neg RD]; exact hq _ _ h rfl h5 OM
  | false => rw [if_pos RD]; exact hq _ _ hf rfl h5 OM
 rw [if_pos (by simpa using hi)]
 refine F21.law _ _ _ _ hb OM OM fun v hv0 hv1 => ?_
 split
 ·exact F124.law _ _ _ hb OM OM fun key hkey => F125.law _ _ _ hb OM OM fun val hval => F126.law _ _ _ _ OM h3 fun r r1 r2 r3 r4 => ⟨by unfold I64; omega, ⟨OM, OM, h2, r1, OM, OM, OM⟩, by dsimp only; omega⟩
 split
 ·split
  ·rename_i g
   have g : (t.length : Int) > 0 := by simpa using g
   refine ⟨OM, fun _ => by unfold I64; omega, ⟨OM, OM, h2, ?_, by simp only [List.length_take, List.length_drop]; omega, OM, OM⟩, by dsimp only; omega⟩
   unfold SS keysT at h3 ⊢
   exact List.Pairwise.sublist (((List.take_sublist _ _).trans (List.drop_sublist _ _)).map _) h3
  ·exact ⟨fun _ => by unfold I64; omega, ⟨OM, OM, h2, h3, OM, OM, OM⟩, by dsimp only; omega⟩
 refine F84.law _ _ _ _ hb OM OM (by dsimp only; omega) fun r p' hr p1 p2 => ⟨by unfold I64; omega, ⟨OM, OM, ?_, h3, OM, OM, OM⟩, by dsimp only; omega⟩
 rcases hr with rfl | hr
 ·exact h2
 ·exact shape_pts hr
theorem F14.law (code : List UInt8) (Q : Feat → Feat → Feat → Prop) (hq : ∀ o a b, FB 4 o → FB 4 a → FB 4 b → (∀ x ∈ o.Tags, plainK x.Key) → Q o a b) : F14.E code Q := by
 unfold F14.E
 refine F67.law _ _ fun b hb => F80.law _ _ _ _ hb OM OM fun s t p hs ht tl td _ p0 p1 => ?_
 have ho : featOk ⟨[97], s, t⟩ = true := feat_drawn RD hs ht tl td
 have tp : ∀ x ∈ t, plainK x.Key := fun x hx => keyL_plain _ (td x hx).1
 refine F110.law _ _ _ _ hb OM OM ho fun a p2 ha _ p3 p4 => F110.law _ _ _ _ hb OM OM ho fun c p5 hc _ p6 p7 => F21.law _ _ _ _ hb OM OM fun v hv0 hv1 => ?_
 split
 ·exact F93.law _ _ _ hb OM OM fun o' p' h1 h2 _ _ _ _ => hq _ _ _ h1 (.of ha) (.of hc) h2
 split
 ·exact F93.law _ _ _ hb OM OM fun o' p' h1 h2 _ _ _ _ => hq _ _ _ (.of ho) h1 (.of hc) tp
 split
 ·exact F80.law _ _ _ _ hb OM OM fun s' t' p' hs' ht' tl' td' _ _ _ => hq _ _ _ (.of ho) (.of (feat_drawn RD hs' ht' tl' td')) (.of hc) tp
 split
 ·exact F83.law _ _ (Nat.le_trans (feat_small ha).1 RD) (hq _ _ _ (.of ho) (.of ha) (.of ha) tp)
 exact hq _ _ _ (.of ho) (.of ha) (.of hc) tp
theorem F95.law (n lo hi : Int) (Q : Bool → Prop) (hq : Q (decide (lo ≤ n) && decide (n ≤ hi))) : F95.E n lo hi Q := by
 unfold F95.E
 by_cases h : lo ≤ n
 ·rw [if_pos (by simpa using h)]; rw [decide_eq_true h, Bool.true_and] at hq; exact hq
 ·rw [if_neg (by simpa using h)]; rw [decide_eq_false h, Bool.false_and] at hq; exact hq
theorem F95.m_is (n lo hi : Int) : F95.m n lo hi = (decide (lo ≤ n) && decide (n ≤ hi)) := by
 unfold F95.m
 by_cases h : lo ≤ n
 ·rw [if_pos (by simpa using h), decide_eq_true h, Bool.true_and]
 ·rw [if_neg (by simpa using h), decide_eq_false h, Bool.false_and]
theorem F96.law (s : Str) (Q : Bool → Prop) (hl : s.length ≤ 1048576) (hq : Q (wordOk s)) : F96.E s Q := by
 unfold F96.E
 unfold wordOk at hq
 refine loop_all s.length (fun k => byteOk (nth s (k : Int))) (fun I mu k hk hp hn => ?_) (fun ha => ?_)
 ·refine ⟨OM, ?_⟩
  cases h1 : decide (((nth s (k : Int)).toNat : Int) < 97) with
  | true => rw [if_pos rfl]; rw [allN_false hk (by simp only [byteOk, h1]; rfl), Bool.false_and] at hq; exact hq
  | false =>
   rw [if_neg RD]
   refine ⟨OM, ?_⟩
   cases h2 : decide (((nth s (k : Int)).toNat : Int) > 122) with
   | true => rw [if_pos rfl]; rw [allN_false hk (by simp only [byteOk, h1, h2]; rfl), Bool.false_and] at hq; exact hq
   | false =>
    rw [if_neg RD]
    obtain ⟨i1, i2⟩ := hn (by simp only [byteOk, h1, h2]; rfl)
    exact ⟨by unfold I64; omega, i1, i2⟩
 ·rw [allN_true ha, Bool.true_and] at hq
  refine F95.law _ _ _ _ ?_
  have e1 : decide ((1 : Int) ≤ (s.length : Int)) = decide (1 ≤ s.length) := decide_eq_decide.2 OM
  have e2 : decide ((s.length : Int) ≤ 6) = decide (s.length ≤ 6) := decide_eq_decide.2 OM
  rw [e1, e2]; exact hq
theorem F140.law (p : Pt) (Q : Bool → Prop) (hq : Q (ptOk p)) : F140.E p Q := by
 unfold F140.E
 unfold ptOk at hq
 refine F95.law _ _ _ _ ?_
 change if inR p.X = true then _ else _
 cases h : inR p.X with
 | true => rw [if_pos rfl]; rw [h, Bool.true_and] at hq; exact F95.law _ _ _ _ hq
 | false => rw [if_neg RD]; rw [h, Bool.false_and] at hq; exact hq
theorem F72.law (s : Shape) (Q : Bool → Prop) (hl : s.Pts.length ≤ 1048576) (hq : Q (shapeOk s)) : F72.E s Q := by
 unfold F72.E
 unfold shapeOk ptsOk at hq
 refine loop_all s.Pts.length (fun k => ptOk (nth s.Pts (k : Int)) && (decide (k = 0) || !(decide (nth s.Pts ((k : Int) - 1) = nth s.Pts (k : Int))))) (fun I mu k hk hp hn => ?_) (fun ha => ?_)
 ·refine ⟨OM, _, F140.law _ _ rfl, ?_⟩
  have bad : (ptOk (nth s.Pts (k : Int)) && (decide (k = 0) || !(decide (nth s.Pts ((k : Int) - 1) = nth s.Pts (k : Int))))) = false → Q false := fun h => by
   rw [allN_false hk h, Bool.false_and] at hq; exact hq
  cases h1 : ptOk (nth s.Pts (k : Int)) with
  | false => rw [if_pos RD]; exact bad (by rw [h1]; rfl)
  | true =>
   rw [if_neg RD]
   by_cases hk0 : k = 0
   ·rw [if_neg (by rw [decide_eq_true_eq]; omega)]
    obtain ⟨i1, i2⟩ := hn (by rw [h1, decide_eq_true hk0]; rfl)
    exact ⟨by unfold I64; omega, i1, i2⟩
   ·rw [if_pos (by rw [decide_eq_true_eq]; omega)]
    refine ⟨by unfold I64; omega, OM, ?_⟩
    rw [eqPt_is]
    by_cases he : nth s.Pts ((k : Int) - 1) = nth s.Pts (k : Int)
    ·rw [if_pos (by rw [decide_eq_true_eq]; exact he)]
     exact bad (by rw [h1, decide_eq_false hk0, decide_eq_true he]; rfl)
    ·rw [if_neg (by rw [decide_eq_true_eq]; exact he)]
     obtain ⟨i1, i2⟩ := hn (by simp only [h1, decide_eq_false hk0, decide_eq_false he]; rfl)
     exact ⟨by unfold I64; omega, i1, i2⟩
 ·rw [allN_true ha, Bool.true_and] at hq
  unfold kindOk at hq
  by_cases k1 : s.Kind = 1
  ·rw [if_pos k1] at hq
   rw [if_pos (by rw [beq_iff_eq]; exact k1)]
   have : ((s.Pts.length : Int) == 1) = decide (s.Pts.length = 1) := by rw [Bool.eq_iff_iff, beq_iff_eq, decide_eq_true_eq]; omega
   rw [this]; exact hq
  rw [if_neg k1] at hq
  rw [if_neg (by rw [beq_iff_eq]; exact k1)]
  have e2 : decide ((2 : Int) ≤ (s.Pts.length : Int)) = decide (2 ≤ s.Pts.length) := decide_eq_decide.2 OM
  have e3 : decide ((3 : Int) ≤ (s.Pts.length : Int)) = decide (3 ≤ s.Pts.length) := decide_eq_decide.2 OM
  have e6 : decide ((s.Pts.length : Int) ≤ 6) = decide (s.Pts.length ≤ 6) := decide_eq_decide.2 OM
  by_cases k2 : s.Kind = 2
  ·rw [if_pos k2] at hq
   rw [if_pos (by rw [beq_iff_eq]; exact k2)]
   refine F95.law _ _ _ _ ?_
   rw [e2, e6]; exact hq
  rw [if_neg k2] at hq
  rw [if_neg (by rw [beq_iff_eq]; exact k2)]
  by_cases k3 : s.Kind = 3
  ·rw [if_pos k3] at hq
   rw [if_pos (by rw [beq_iff_eq]; exact k3), F95.m_is, e3, e6]
   cases hc : decide (3 ≤ s.Pts.length) && decide (s.Pts.length ≤ 6) with
   | true =>
    rw [hc, Bool.true_and] at hq
    rw [Bool.and_eq_true, decide_eq_true_eq, decide_eq_true_eq] at hc
    rw [if_pos rfl, eqPt_is]
    exact ⟨OM, fun _ => by unfold I64; omega, OM, hq⟩
   | false =>
    rw [hc, Bool.false_and] at hq
    rw [if_neg RD]; exact hq
  ·rw [if_neg k3] at hq
   rw [if_neg (by rw [beq_iff_eq]; exact k3)]; exact hq
theorem F98.law (f : Feat) (Q : Bool → Prop) (hb : bulk f ≤ 1048576) (hq : Q (featOk f)) : F98.E f Q := by
 unfold F98.E
 unfold featOk at hq
 have b1 : bulk f = bulk f.Id + bulk f.Shape + bulk f.Tags := rfl
 have b2 : bulk f.Shape = bulk f.Shape.Kind + bulk f.Shape.Pts := rfl
 have l1 := bulk_len f.Tags; have l2 := bulk_len f.Shape.Pts; have l3 := bulk_len f.Id
 have core : (tagsOk f.Tags = true → F96.E f.Id (fun r3 => (if r3 then F72.E f.Shape (fun r4 => (if r4 then Q (decide ((f.Tags.length : Int) ≤ 4)) else Q false)) else Q false))) := fun ha => by
  rw [ha, Bool.true_and] at hq
  refine F96.law _ _ OM ?_
  cases h1 : wordOk f.Id with
  | false => rw [h1, Bool.and_false, Bool.false_and] at hq; rw [if_neg RD]; exact hq
  | true =>
   rw [h1, Bool.and_true] at hq
   rw [if_pos rfl]
   refine F72.law _ _ OM ?_
   cases h2 : shapeOk f.Shape with
   | false => rw [h2, Bool.and_false] at hq; rw [if_neg RD]; exact hq
   | true =>
    rw [h2, Bool.and_true] at hq; rw [if_pos rfl]
    have e2 : decide ((f.Tags.length : Int) ≤ 4) = decide (f.Tags.length ≤ 4) := decide_eq_decide.2 OM
    rw [e2]; exact hq
 have bad : tagsOk f.Tags = false → Q false := fun h => by
  rw [h, Bool.false_and, Bool.false_and, Bool.false_and] at hq; exact hq
 unfold tagsOk at core bad
 refine loop_all f.Tags.length (fun k => wordOk (nth f.Tags (k : Int)).Key && wordOk (nth f.Tags (k : Int)).Val && (decide (k = 0) || Op.bytesLess (nth f.Tags ((k : Int) - 1)).Key (nth f.Tags (k : Int)).Key)) (fun I mu k hk hp hn => ?_) (fun ha => core (allN_true ha))
 have bad := fun h => bad (allN_false hk h)
 have m1 := bulk_mem (nth_mem f.Tags hk)
 have m2 : bulk (nth f.Tags (k : Int)) = bulk (nth f.Tags (k : Int)).Key + bulk (nth f.Tags (k : Int)).Val := rfl
 have m3 := bulk_len (nth f.Tags (k : Int)).Key; have m4 := bulk_len (nth f.Tags (k : Int)).Val
 refine ⟨OM, _, F96.law _ _ OM rfl, ?_⟩
 cases h1 : wordOk (nth f.Tags (k : Int)).Key with
 | false => rw [if_pos RD]; exact bad (by rw [h1]; rfl)
 | true =>
  rw [if_neg RD]
  refine ⟨_, F96.law _ _ OM rfl, ?_⟩
  cases h2 : wordOk (nth f.Tags (k : Int)).Val with
  | false => rw [if_pos RD]; exact bad (by rw [h2, Bool.and_false]; rfl)
  | true =>
   rw [if_neg RD]
   by_cases hk0 : k = 0
   ·rw [if_neg (by rw [decide_eq_true_eq]; omega)]
    obtain ⟨i1, i2⟩ := hn (by rw [h1, h2, decide_eq_true hk0]; rfl)
    exact ⟨by unfold I64; omega, i1, i2⟩
   ·rw [if_pos (by rw [decide_eq_true_eq]; omega)]
    refine ⟨by unfold I64; omega, OM, ?_⟩
    cases h3 : Op.bytesLess (nth f.Tags ((k : Int) - 1)).Key (nth f.Tags (k : Int)).Key with
    | false => rw [if_pos RD]; exact bad (by rw [h3, h1, h2, decide_eq_false hk0]; rfl)
    | true =>
     rw [if_neg RD]
     obtain ⟨i1, i2⟩ := hn (by rw [h3, h1, h2, decide_eq_false hk0]; rfl)
     exact ⟨by unfold I64; omega, i1, i2⟩
theorem F22.law (a b : List Pt) (Q : Bool → Prop) (hb : a.length ≤ 1048576) (hq : Q (decide (a = b))) : F22.E a b Q := by
 unfold F22.E
 exact eqI_shape eqPt eqPt_is a b Q hb hq
theorem F38.law (a b : Shape) (Q : Bool → Prop) (hl : a.Pts.length ≤ 1048576) (hq : Q (decide (a = b))) : F38.E a b Q := by
 unfold F38.E
 by_cases h : a.Kind = b.Kind
 ·rw [if_pos (by rw [beq_iff_eq]; exact h)]
  refine F22.law _ _ _ OM ?_
  have : decide (a.Pts = b.Pts) = decide (a = b) := decide_eq_decide.2 (by rw [Shape.ext_iff']; exact ⟨fun e => ⟨h, e⟩, fun e => e.2⟩)
  rw [this]; exact hq
 ·rw [if_neg (by rw [beq_iff_eq]; exact h)]
  rw [decide_eq_false (by rw [Shape.ext_iff']; exact fun e => h e.1)] at hq; exact hq
theorem F75.law (a b : List Pt) (Q : List (List Int) → Prop) (ha : a.length ≤ 1048576) (hb : b.length ≤ 1048576) (hq : ∀ t, Tab a b (fun _ _ => True) t → Q t) : F75.E a b Q := by
 unfold F75.E
 have hn : ((b.length : Int) + 1).toNat = b.length + 1 := by omega
 have hm : ((a.length : Int) + 1).toNat = a.length + 1 := by omega
 rw [hn, hm]
 refine ⟨fun _ => by unfold I64; omega, OM, fun xs v => ∃ k : Nat, v = k ∧ k ≤ a.length + 1 ∧ xs.length = a.length + 1 ∧ ∀ r : Nat, r < k → nth xs (r : Int) = List.replicate (b.length + 1) 0, fun _ v => (a.length + 1 - v).toNat,
  ⟨0, rfl, Nat.zero_le _, by simp, fun r hr => absurd hr (Nat.not_lt_zero _)⟩, ?_⟩
 rintro xs _ ⟨k, rfl, hk, hl, hx⟩
 rw [List.length_replicate]
 by_cases hk0 : (k : Int) < ((a.length + 1 : Nat) : Int)
 ·rw [if_pos (by simpa using hk0)]
  refine ⟨fun _ => by unfold I64; omega, OM, OM, fun _ => by unfold I64; omega, ⟨k + 1, OM, OM, by rw [List.length_set]; exact hl, fun r hr => ?_⟩, by dsimp only; omega⟩
  rw [Int.toNat_natCast, nth_set _ OM]
  by_cases e : r = k
  ·rw [if_pos e]
  ·rw [if_neg e]; exact hx r OM
 rw [if_neg (by simpa using hk0)]
 refine ⟨fun _ => by unfold I64; omega, fun xs i => ∃ k : Nat, i = (k : Int) - 1 ∧ k ≤ a.length ∧ Tab a b (fun r m => k ≤ r ∨ m = b.length) xs, fun _ i => (i + 1).toNat, ⟨a.length, rfl, Nat.le_refl _, hl, fun r hr => ?_⟩, ?_⟩
 ·rw [hx r OM]
  refine ⟨by simp, fun m hm hd => ?_⟩
  rw [nth_rep _ _ _ OM]
  rcases hd with hd | hd
  ·rw [List.drop_of_length_le (by omega : a.length ≤ r), lcs_nil]; rfl
  ·rw [hd, List.drop_length, lcs_nil2]; rfl
 clear hx hl hk0 hk xs k
 rintro xs _ ⟨k, rfl, hk, ht⟩
 by_cases hk0 : (k : Int) - 1 ≥ 0
 ·rw [if_pos (by simpa using hk0)]
  obtain ⟨i, rfl⟩ : ∃ i, k = i + 1 := ⟨k - 1, OM⟩
  have ei : ((i + 1 : Nat) : Int) - 1 = (i : Int) := by omega
  have ei1 : (i : Int) + 1 = ((i + 1 : Nat) : Int) := by omega
  rw [ei]
  refine ⟨fun _ => by unfold I64; omega, fun ys j => ∃ m : Nat, j = (m : Int) - 1 ∧ m ≤ b.length ∧ Tab a b (fun r u => i < r ∨ (r = i ∧ m ≤ u) ∨ u = b.length) ys, fun _ j => (j + 1).toNat, ⟨b.length, rfl, Nat.le_refl _, ht.1, fun r hr => ⟨(ht.2 r hr).1, fun m hm hd => (ht.2 r hr).2 m hm ?_⟩⟩, ?_⟩
  ·omega
  rintro ys _ ⟨m, rfl, hm, hs⟩
  by_cases hm0 : (m : Int) - 1 ≥ 0
  ·rw [if_pos (by simpa using hm0)]
   obtain ⟨j, rfl⟩ : ∃ j, m = j + 1 := ⟨m - 1, OM⟩
   have ej : ((j + 1 : Nat) : Int) - 1 = (j : Int) := by omega
   have ej1 : (j : Int) + 1 = ((j + 1 : Nat) : Int) := by omega
   rw [ej, ej1, ei1, eqPt_is]
   have hl := lcs_drop a b (i := i) (j := j) OM OM
   have s0 := hs.1
   have s1 := hs.2 i OM
   have s2 := hs.2 (i + 1) OM
   have n1 := s2.2 (j + 1) OM (.inl OM)
   have n2 := s2.2 j OM (.inl OM)
   have n3 := s1.2 (j + 1) OM (.inr (.inl ⟨rfl, OM⟩))
   have l1 := s1.1
   have l2 := s2.1
   have b1 := lcs_le2 (a.drop (i + 1)) (b.drop (j + 1))
   rw [List.length_drop] at b1
   have hset : ∀ v : Int, v = (lcs (a.drop i) (b.drop j) : Nat) → Tab a b (fun r u => i < r ∨ (r = i ∧ j ≤ u) ∨ u = b.length) (ys.set (i : Int).toNat ((nth ys (i : Int)).set (j : Int).toNat v)) := fun v hv => by
    rw [Int.toNat_natCast, Int.toNat_natCast]
    exact hs.set OM OM hv fun r u h => by omega
   refine ⟨OM, OM, ?_⟩
   by_cases he : nth a (i : Int) = nth b (j : Int)
   ·rw [if_pos (by simpa using he)]
    rw [if_pos he] at hl
    rw [n1]
    exact ⟨OM, by unfold I64; omega, OM, by unfold I64; omega, OM, by unfold I64; omega, OM, by unfold I64; omega, ⟨j, OM, OM, hset _ OM⟩, by dsimp only; omega⟩
   ·rw [if_neg (by simpa using he)]
    rw [if_neg he] at hl
    rw [n2, n3]
    exact ⟨OM, by unfold I64; omega, OM, OM, OM, by unfold I64; omega, OM, OM, by unfold I64; omega, ⟨j, OM, OM, hset _ OM⟩, by dsimp only; omega⟩
  ·rw [if_neg (by simpa using hm0)]
   have : m = 0 := by omega
   subst this
   refine ⟨by unfold I64; omega, ⟨i, OM, OM, hs.1, fun r hr => ⟨(hs.2 r hr).1, fun m hm hd => (hs.2 r hr).2 m hm ?_⟩⟩, by dsimp only; omega⟩
   omega
 ·rw [if_neg (by simpa using hk0)]
  have : k = 0 := by omega
  subst this
  exact hq _ ⟨ht.1, fun r hr => ⟨(ht.2 r hr).1, fun m hm _ => (ht.2 r hr).2 m hm (.inl (Nat.zero_le _))⟩⟩
theorem F56.law (a b : List Pt) (Q : List Pair → Prop) (hq : Q (spairs a b)) : F56.E a b Q := by
 unfold F56.E
 unfold spairs at hq
 by_cases h1 : (a.length : Int) > 12
 ·rw [if_pos (by simpa using h1)]
  rw [if_neg (by rw [few_iff]; omega)] at hq; exact hq
 rw [if_neg (by simpa using h1)]
 by_cases h2 : (b.length : Int) > 12
 ·rw [if_pos (by simpa using h2)]
  rw [if_neg (by rw [few_iff]; omega)] at hq; exact hq
 rw [if_neg (by simpa using h2)]
 rw [if_pos (by rw [few_iff]; omega)] at hq
 refine F75.law _ _ _ OM OM fun t ht => ?_
 refine ⟨fun xs i j => ∃ u v : Nat, i = u ∧ j = v ∧ u ≤ a.length ∧ v ≤ b.length ∧ xs ++ (pairs u v (a.drop u) (b.drop v)).map mkP = (pairs 0 0 a b).map mkP, fun _ i j => ((a.length - i) + (b.length - j)).toNat, ⟨0, 0, rfl, rfl, Nat.zero_le _, Nat.zero_le _, rfl⟩, ?_⟩
 rintro xs _ _ ⟨u, v, rfl, rfl, hu, hv, hx⟩
 by_cases hu0 : (u : Int) < (a.length : Int)
 ·rw [if_pos (by simpa using hu0)]
  by_cases hv0 : (v : Int) < (b.length : Int)
  ·rw [if_pos (by simpa using hv0)]
   have hu1 : u < a.length := by omega
   have hv1 : v < b.length := by omega
   rw [pairs_drop a b hu1 hv1] at hx
   have eu : (u : Int) + 1 = ((u + 1 : Nat) : Int) := by omega
   have ev : (v : Int) + 1 = ((v + 1 : Nat) : Int) := by omega
   rw [eqPt_is, eu, ev]
   refine ⟨OM, OM, ?_⟩
   by_cases he : nth a (u : Int) = nth b (v : Int)
   ·rw [if_pos (by simpa using he)]
    rw [if_pos he, List.map_cons] at hx
    have hl := congrArg List.length hx
    rw [List.length_map, pairs_len, List.length_append] at hl
    have := lcs_le1 a b
    exact ⟨by simp only [List.length_singleton]; omega, OM, OM, ⟨u + 1, v + 1, rfl, rfl, OM, OM, by rw [List.append_assoc]; exact hx⟩, by dsimp only; omega⟩
   ·rw [if_neg (by simpa using he)]
    rw [if_neg he] at hx
    have t0 := ht.1
    have t1 := ht.2 u OM
    have t2 := ht.2 (u + 1) OM
    have n1 := t2.2 v OM trivial
    have n2 := t1.2 (v + 1) OM trivial
    have l1 := t1.1
    have l2 := t2.1
    refine ⟨OM, OM, OM, OM, OM, OM, ?_⟩
    rw [n1, n2]
    by_cases hc : lcs (a.drop u) (b.drop (v + 1)) ≤ lcs (a.drop (u + 1)) (b.drop v)
    ·rw [if_pos (by simpa using hc)]
     rw [if_pos hc] at hx
     exact ⟨OM, ⟨u + 1, v, rfl, rfl, OM, OM, hx⟩, by dsimp only; omega⟩
    ·rw [if_neg (by simpa using hc)]
     rw [if_neg hc] at hx
     exact ⟨OM, ⟨u, v + 1, rfl, rfl, OM, OM, hx⟩, by dsimp only; omega⟩
  ·rw [if_neg (by simpa using hv0)]
   rw [List.drop_of_length_le (by omega : b.length ≤ v), pairs_nil2, List.map_nil, List.append_nil] at hx
   rw [hx]; exact hq
 ·rw [if_neg (by simpa using hu0)]
  rw [List.drop_of_length_le (by omega : a.length ≤ u), pairs_nil, List.map_nil, List.append_nil] at hx
  rw [hx]; exact hq
theorem F76.law (l : List Pair) (k : Int) (Q : Int → Prop) (hl : l.length ≤ 1048576) (hq : Q (mateI l k)) : F76.E l k Q := by
 unfold F76.E
 refine ⟨fun i => ∃ u : Nat, i = u ∧ u ≤ l.length ∧ mateI (l.drop u) k = mateI l k, fun i => (l.length - i).toNat, ⟨0, rfl, Nat.zero_le _, rfl⟩, ?_⟩
 rintro _ ⟨u, rfl, hu, he⟩
 by_cases h : (u : Int) < (l.length : Int)
 ·rw [if_pos (by simpa using h)]
  rw [drop_nth l OM, mateI_cons] at he
  refine ⟨OM, ?_⟩
  by_cases hc : ((nth l (u : Int)).A == k) = true
  ·rw [if_pos hc] at he ⊢
   rw [he]; exact hq
  ·rw [if_neg hc] at he ⊢
   exact ⟨by unfold I64; omega, ⟨u + 1, OM, OM, he⟩, by dsimp only; omega⟩
 ·rw [if_neg (by simpa using h)]
  rw [List.drop_of_length_le (by omega : l.length ≤ u), mateI_nil] at he
  rw [he]; exact hq
theorem F57.law (o a b : List Pt) (Q : List Pt → Bool → Prop) (hs : ∀ r, smerge o a b = some r → Q r true) (hn : smerge o a b = none → Q [] false) : F57.E o a b Q := by
 unfold F57.E
 by_cases c1 : (o.length : Int) > 12
 ·rw [if_pos (by simpa using c1)]
  exact hn (smerge_not (.inl (few_not.2 OM)))
 rw [if_neg (by simpa using c1)]
 by_cases c2 : (a.length : Int) > 12
 ·rw [if_pos (by simpa using c2)]
  exact hn (smerge_not (.inl (few_not.2 OM)))
 rw [if_neg (by simpa using c2)]
 by_cases c3 : (b.length : Int) > 12
 ·rw [if_pos (by simpa using c3)]
  exact hn (smerge_not (.inr (few_not.2 OM)))
 rw [if_neg (by simpa using c3)]
 have h1 : few o a = true := few_iff.2 OM
 have h2 : few o b = true := few_iff.2 OM
 refine F56.law _ _ _ (F56.law _ _ _ ?_)
 have lo := spairs_len o a; have lo2 := spairs_len o b
 have so := slen_le o a; have so2 := slen_le o b
 refine ⟨fun xs i j k t => (∃ i' j' k' t' : Nat, i = i' ∧ j = j' ∧ k = k' ∧ t = t' ∧ MInv o a b xs i' j' k' t') ∨ (t = (o.length : Int) + 1 ∧ smerge o a b = some xs), fun _ _ _ _ t => (o.length + 1 - t).toNat, .inl ⟨0, 0, 0, 0, rfl, rfl, rfl, rfl, MInv.zero h1 h2⟩, ?_⟩
 rintro xs _ _ _ _ (⟨i, j, k, t, rfl, rfl, rfl, rfl, h⟩ | ⟨rfl, h⟩)
 ·have ht := h.ht; have hi := h.hi; have hj := h.hj; have hk := h.hk; have hl := h.len
  rw [if_pos (by simp; omega)]
  simp only [Int.toNat_natCast]
  by_cases ht0 : (t : Int) < (o.length : Int)
  ·rw [if_pos (by simpa using ht0)]
   refine F76.law _ _ _ OM (F76.law _ _ _ OM ?_)
   rw [mate_part h1, mate_part h2]
   cases hx : part o a t with
   | none =>
    rw [if_pos RD]
    exact ⟨OM, .inl ⟨i, j, k, t + 1, rfl, rfl, rfl, rfl, h.skip OM (.inl hx)⟩, OM⟩
   | some x =>
    rw [if_neg (by simp)]
    cases hy : part o b t with
    | none =>
     rw [if_pos RD]
     exact ⟨OM, .inl ⟨i, j, k, t + 1, rfl, rfl, rfl, rfl, h.skip OM (.inr hy)⟩, OM⟩
    | some y =>
     rw [if_neg (by simp)]
     dsimp only
     obtain ⟨g1, g2, g3, g4⟩ := h.from hx hy
     refine ⟨OM, OM, OM, ?_⟩
     simp only [Int.toNat_natCast]
     have s1 := seg_len o i t OM; have s2 := seg_len a j x OM; have s3 := seg_len b k y OM
     have hs1 : ∀ p, pickL (seg o i t) (seg a j x) (seg b k y) = some p → p.length ≤ (x - j) + (y - k) ∧ MInv o a b (xs ++ p ++ [nth o (t : Int)]) (t + 1) (x + 1) (y + 1) (t + 1) := fun p hp =>
      ⟨by have := (pickL_mem hp).2.2.2; omega, h.step OM hx hy hp⟩
     have hn1 : pickL (seg o i t) (seg a j x) (seg b k y) = none → smerge o a b = none := h.stop OM hx hy
     change F22.E (seg a j x) (seg o i t) _
     simp only [← seg.eq_1]
     generalize seg o i t = so at *
     generalize seg a j x = sa at *
     generalize seg b k y = sb at *
     refine F22.law _ _ _ OM ⟨fun ys => ∃ p, p.length ≤ (x - j) + (y - k) ∧ MInv o a b (xs ++ p ++ [nth o (t : Int)]) (t + 1) (x + 1) (y + 1) (t + 1) ∧ ys = xs ++ p, ?_, ?_⟩
     ·by_cases q1 : sa = so
      ·rw [if_pos (by simpa using q1)]
       obtain ⟨hm, hi⟩ := hs1 sb (by unfold pickL; rw [if_pos q1])
       exact ⟨OM, sb, hm, hi, rfl⟩
      rw [if_neg (by simpa using q1)]
      refine F22.law _ _ _ OM ?_
      by_cases q2 : sb = so
      ·rw [if_pos (by simpa using q2)]
       obtain ⟨hm, hi⟩ := hs1 sa (by unfold pickL; rw [if_neg q1, if_pos q2])
       exact ⟨OM, sa, hm, hi, rfl⟩
      rw [if_neg (by simpa using q2)]
      refine F22.law _ _ _ OM ?_
      by_cases q3 : sa = sb
      ·rw [if_pos (by simpa using q3)]
       obtain ⟨hm, hi⟩ := hs1 sa (by unfold pickL; rw [if_neg q1, if_neg q2, if_pos q3])
       exact ⟨OM, sa, hm, hi, rfl⟩
      rw [if_neg (by simpa using q3)]
      exact hn (hn1 (by unfold pickL; rw [if_neg q1, if_neg q2, if_neg q3]))
     ·rintro _ ⟨p, hm, hi, rfl⟩
      exact ⟨OM, by simp only [List.length_append, List.length_singleton]; omega, OM, fun _ => by unfold I64; omega, fun _ => by unfold I64; omega, OM, .inl ⟨t + 1, x + 1, y + 1, t + 1, rfl, rfl, rfl, rfl, hi⟩, OM⟩
  ·rw [if_neg (by simpa using ht0)]
   have : t = o.length := by omega
   subst this
   refine ⟨OM, OM, OM, ?_⟩
   have hlast := h.last
   have e1 : (o.drop i).take (o.length - i) = o.drop i := seg_end o i
   have e2 : (a.drop j).take (a.length - j) = a.drop j := seg_end a j
   have e3 : (b.drop k).take (b.length - k) = b.drop k := seg_end b k
   rw [e1, e2, e3]
   have s2 : (a.drop j).length = a.length - j := List.length_drop; have s3 : (b.drop k).length = b.length - k := List.length_drop
   have hs1 : ∀ p, pickL (o.drop i) (a.drop j) (b.drop k) = some p → p.length ≤ (a.length - j) + (b.length - k) ∧ smerge o a b = some (xs ++ p) := fun p hp =>
    ⟨by have := (pickL_mem hp).2.2.2; omega, by rw [hp, Option.map_some] at hlast; exact hlast.symm⟩
   have hn1 : pickL (o.drop i) (a.drop j) (b.drop k) = none → smerge o a b = none := fun hp => by rw [hp] at hlast; exact hlast.symm
   generalize o.drop i = so at *
   generalize a.drop j = sa at *
   generalize b.drop k = sb at *
   refine F22.law _ _ _ OM ⟨fun ys => smerge o a b = some ys, ?_, ?_⟩
   ·by_cases q1 : sa = so
    ·rw [if_pos (by simpa using q1)]
     obtain ⟨hm, hi⟩ := hs1 sb (by unfold pickL; rw [if_pos q1])
     exact ⟨OM, hi⟩
    rw [if_neg (by simpa using q1)]
    refine F22.law _ _ _ OM ?_
    by_cases q2 : sb = so
    ·rw [if_pos (by simpa using q2)]
     obtain ⟨hm, hi⟩ := hs1 sa (by unfold pickL; rw [if_neg q1, if_pos q2])
     exact ⟨OM, hi⟩
    rw [if_neg (by simpa using q2)]
    refine F22.law _ _ _ OM ?_
    by_cases q3 : sa = sb
    ·rw [if_pos (by simpa using q3)]
     obtain ⟨hm, hi⟩ := hs1 sa (by unfold pickL; rw [if_neg q1, if_neg q2, if_pos q3])
     exact ⟨OM, hi⟩
    rw [if_neg (by simpa using q3)]
    exact hn (hn1 (by unfold pickL; rw [if_neg q1, if_neg q2, if_neg q3]))
   ·intro ys hi
    exact ⟨fun _ => by unfold I64; omega, fun _ => by unfold I64; omega, fun _ => by unfold I64; omega, fun _ => by unfold I64; omega, .inr ⟨rfl, hi⟩, OM⟩
 ·rw [if_neg (by simp; omega)]
  exact hs _ h
theorem F9.law (o a b : Shape) (ok : Shape → Shape → Prop) (Q : Shape → Bool → Prop) (h1 : ok a o) (h2 : ok b o) (h3 : ok a b) (hq : Q (three o a b).1 (three o a b).2) : F9.E o a b (fun x y => decide (x = y)) ok Q := by
 unfold F9.E
 unfold three at hq
 refine ⟨h1, ?_⟩
 by_cases e1 : a = o
 ·rw [if_pos e1] at hq; rw [if_pos (decide_eq_true e1)]; exact hq
 ·rw [if_neg e1] at hq; rw [if_neg (by simpa using e1)]
  refine ⟨h2, ?_⟩
  by_cases e2 : b = o
  ·rw [if_pos e2] at hq; rw [if_pos (decide_eq_true e2)]; exact hq
  ·rw [if_neg e2] at hq; rw [if_neg (by simpa using e2)]
   refine ⟨h3, ?_⟩
   by_cases e3 : a = b
   ·rw [if_pos e3] at hq; rw [if_pos (decide_eq_true e3)]; exact hq
   ·rw [if_neg e3] at hq; rw [if_neg (by simpa using e3)]; exact hq
theorem F10.law (o a b : value) (ok : value → value → Prop) (Q : value → Bool → Prop) (h1 : ok a o) (h2 : ok b o) (h3 : ok a b) (hq : Q (three o a b).1 (three o a b).2) : F10.E o a b (fun x y => decide (x = y)) ok Q := by
 unfold F10.E
 unfold three at hq
 refine ⟨h1, ?_⟩
 by_cases e1 : a = o
 ·rw [if_pos e1] at hq; rw [if_pos (decide_eq_true e1)]; exact hq
 ·rw [if_neg e1] at hq; rw [if_neg (by simpa using e1)]
  refine ⟨h2, ?_⟩
  by_cases e2 : b = o
  ·rw [if_pos e2] at hq; rw [if_pos (decide_eq_true e2)]; exact hq
  ·rw [if_neg e2] at hq; rw [if_neg (by simpa using e2)]
   refine ⟨h3, ?_⟩
   by_cases e3 : a = b
   ·rw [if_pos e3] at hq; rw [if_pos (decide_eq_true e3)]; exact hq
   ·rw [if_neg e3] at hq; rw [if_neg (by simpa using e3)]; exact hq
theorem F5.law (s : List Tag) (f : Tag → Bool) (ok : Tag → Prop) (Q : Int → Prop) (hl : s.length ≤ 1048576) (hok : ∀ x ∈ s, ok x) (hq : Q (findN s.length fun j => f (nth s (j : Int)))) : F5.E s f ok Q := by
 unfold F5.E
 refine loop_find s.length (fun j => f (nth s (j : Int))) hq (fun I mu k hk h1 h2 => ⟨OM, hok _ (nth_mem s hk), ?_⟩)
 cases h : f (nth s (k : Int)) with
 | true => rw [if_pos rfl]; exact h1 h
 | false => rw [if_neg RD]; obtain ⟨i1, i2⟩ := h2 h; exact ⟨by unfold I64; omega, i1, i2⟩
theorem F77.law (f : Feat) (key : Str) (Q : value → Prop) (hl : f.Tags.length ≤ 1048576) (hq : Q (valT f.Tags key)) : F77.E f key Q := by
 unfold F77.E F58.E
 have h1 := findN_le f.Tags.length fun j => (nth f.Tags (j : Int)).Key == key
 refine ⟨fun x => x.Key == key, fun x => x ∈ f.Tags, fun x hx => ?_, F5.law _ _ _ _ hl (fun x hx => hx) ?_⟩
 ·unfold F30.E; rfl
 ·unfold valT at hq
  by_cases h : findN f.Tags.length (fun j => (nth f.Tags (j : Int)).Key == key) < 0
  ·rw [if_pos h] at hq; rw [if_pos (by simpa using h)]; exact hq
  ·rw [if_neg h] at hq; rw [if_neg (by simpa using h)]; exact ⟨OM, hq⟩
theorem F15.law (l : List (List Tag)) (Q : List Tag → Prop) (h1 : l.length ≤ 1000) (h2 : l.flatten.length ≤ 1000000) (hq : Q l.flatten) : F15.E l Q := by
 have htk : ∀ u, (l.take u).flatten.length ≤ l.flatten.length := fun u => by
  have : l.flatten = (l.take u).flatten ++ (l.drop u).flatten := by rw [← List.flatten_append, List.take_append_drop]
  rw [this, List.length_append]; omega
 have hsn : ∀ u, u < l.length → (l.take (u + 1)).flatten = (l.take u).flatten ++ nth l (u : Int) := fun u hu => by rw [take_nth l hu, List.flatten_append]; simp
 unfold F15.E
 refine ⟨fun size i => ∃ u : Nat, i = u ∧ u ≤ l.length ∧ size = ((l.take u).flatten.length : Int), fun _ i => (l.length - i).toNat, ⟨0, rfl, Nat.zero_le _, by simp⟩, ?_⟩
 rintro _ _ ⟨u, rfl, hu, rfl⟩
 by_cases h : u < l.length
 ·rw [if_pos (by simpa using h)]
  have e := hsn u h
  have ht := htk (u + 1)
  rw [e, List.length_append] at ht
  refine ⟨OM, fun _ => by unfold I64; omega, ?_⟩
  rw [if_neg (by rw [decide_eq_true_eq]; omega)]
  exact ⟨fun _ => by unfold I64; omega, ⟨u + 1, OM, OM, by rw [e, List.length_append]; omega⟩, by dsimp only; omega⟩
 ·rw [if_neg (by simpa using h)]
  have : u = l.length := by omega
  subst this
  rw [List.take_length]
  have rest : ∃ (I82 : (List Tag) → Int → Prop) (mu83 : (List Tag) → Int → Nat), I82 [] 0 ∧ ∀ (xs2 : List Tag) (v4 : Int), I82 xs2 v4 → (if decide (v4 < (l.length : Int)) then ((0 : Int) ≤ v4 ∧ v4 < (l.length : Int)) ∧ (xs2.length + (nth l v4).length ≤ 268435456) ∧ (I64 (v4 + 1)) ∧ I82 (xs2 ++ (nth l v4)) (v4 + 1) ∧ mu83 (xs2 ++ (nth l v4)) (v4 + 1) < mu83 xs2 v4 else Q xs2) := by
   refine ⟨fun xs i => ∃ u : Nat, i = u ∧ u ≤ l.length ∧ xs = (l.take u).flatten, fun _ i => (l.length - i).toNat, ⟨0, rfl, Nat.zero_le _, by simp⟩, ?_⟩
   rintro _ _ ⟨u, rfl, hu, rfl⟩
   by_cases g : u < l.length
   ·rw [if_pos (by simpa using g)]
    have e := hsn u g
    have ht := htk (u + 1)
    rw [e, List.length_append] at ht
    exact ⟨OM, OM, by unfold I64; omega, ⟨u + 1, OM, OM, by rw [e]⟩, by dsimp only; omega⟩
   ·rw [if_neg (by simpa using g)]
    have : u = l.length := by omega
    subst this
    rw [List.take_length]; exact hq
  unfold F29.E
  rw [if_neg (by rw [decide_eq_true_eq]; omega)]
  refine ⟨by unfold I64; omega, by unfold I64; omega, ?_⟩
  by_cases hz : (l.flatten.length : Int) - (0 - 0) > 0
  ·rw [if_pos (by rw [decide_eq_true_eq]; exact hz)]
   exact ⟨OM, OM, rest⟩
  ·rw [if_neg (by rw [decide_eq_true_eq]; exact hz)]
   exact rest
theorem F39.law (f : Feat) (Q : Feat → Prop) (hb : bulk f ≤ 1048576) (hq : Q f) : F39.E f Q := by
 unfold F39.E F23.E
 have h := bulk_feat f
 have h1 := bulk_len f.Tags
 have h2 := bulk_len f.Shape.Pts
 exact ⟨by simp only [List.length_nil]; omega, by simp only [List.length_nil]; omega, hq⟩
theorem F59.law (o a b : Feat) (Q : Feat → List Str → Prop) (h1 : bulk o ≤ 1048576) (h2 : bulk a ≤ 1048576) (h3 : bulk b ≤ 1048576) (hq : Q (featJoin o a b).1 (featJoin o a b).2) : F59.E o a b Q := by
 unfold F59.E
 unfold featJoin at hq
 have zq : (featOk o && featOk a && featOk b && decide (o.Id = a.Id) && decide (o.Id = b.Id)) = false → Q ⟨[], ⟨0, []⟩, []⟩ [] := fun h => by rw [h, if_neg RD] at hq; exact hq
 refine F98.law _ _ h1 ?_
 cases ko : featOk o with
 | false => rw [if_pos RD]; exact zq (by rw [ko]; rfl)
 | true =>
 rw [if_neg RD]
 refine F98.law _ _ h2 ?_
 cases ka : featOk a with
 | false => rw [if_pos RD]; exact zq (by rw [ko, ka]; rfl)
 | true =>
 rw [if_neg RD]
 refine F98.law _ _ h3 ?_
 cases kb : featOk b with
 | false => rw [if_pos RD]; exact zq (by rw [ko, ka, kb]; rfl)
 | true =>
 rw [if_neg RD]
 by_cases e1 : o.Id = a.Id
 case neg => rw [if_pos (by rw [bne_iff_ne]; exact e1)]; exact zq (by rw [decide_eq_false e1]; simp)
 rw [if_neg (by rw [e1]; simp)]
 by_cases e2 : o.Id = b.Id
 case neg => rw [if_pos (by rw [bne_iff_ne]; exact e2)]; exact zq (by rw [decide_eq_false e2]; simp)
 rw [if_neg (by rw [e2]; simp)]
 rw [ko, ka, kb, decide_eq_true e1, decide_eq_true e2, if_pos RD] at hq
 clear zq
 have fo := feat_facts ko; have fa := feat_facts ka; have fb := feat_facts kb
 have so := fo.2.2.1; have sa := fa.2.2.1; have sb := fb.2.2.1
 refine ⟨fun x y => decide (x = y), fun x _ => x.Pts.length ≤ 1048576, fun x y hx => F38.law _ _ _ hx rfl, F9.law _ _ _ _ _ (by (try dsimp only); omega) (by (try dsimp only); omega) (by (try dsimp only); omega) ?_⟩
 refine ⟨fun xs z z2 => xs = (if (shapeF o.Shape a.Shape b.Shape).2 then [] else [shapeS]) ∧ (⟨z, z2⟩ : Shape) = (shapeF o.Shape a.Shape b.Shape).1, ?_, ?_⟩
 ·have hs : ([([115, 104, 97, 112, 101] : Str)] : List Str) = [shapeS] := rfl
  cases c0 : (three o.Shape a.Shape b.Shape).2 with
  | true =>
   rw [if_neg RD]
   have e : shapeF o.Shape a.Shape b.Shape = three o.Shape a.Shape b.Shape := by unfold shapeF; rw [if_pos c0]
   rw [e, c0]; exact ⟨rfl, rfl⟩
  | false =>
   rw [if_pos RD]
   have et : (three o.Shape a.Shape b.Shape).1 = a.Shape := by
    unfold three at c0 ⊢
    split
    ·rename_i h; rw [if_pos h] at c0; cases c0
    ·rename_i h
     rw [if_neg h] at c0
     split
     ·rename_i g; rw [if_pos g] at c0; try cases c0
     ·rename_i g
      rw [if_neg g] at c0
      split <;> rfl
   have bad : (shapeF o.Shape a.Shape b.Shape) = (a.Shape, false) → (if (!false) = true then (([] : List Str).length + ([([115, 104, 97, 112, 101] : Str)] : List Str).length ≤ 268435456) ∧ (([] : List Str) ++ ([([115, 104, 97, 112, 101] : Str)] : List Str) = (if (shapeF o.Shape a.Shape b.Shape).2 then [] else [shapeS]) ∧ (⟨(three o.Shape a.Shape b.Shape).1.Kind, (three o.Shape a.Shape b.Shape).1.Pts⟩ : Shape) = (shapeF o.Shape a.Shape b.Shape).1) else ([] : List Str) = (if (shapeF o.Shape a.Shape b.Shape).2 then [] else [shapeS]) ∧ (⟨(three o.Shape a.Shape b.Shape).1.Kind, (three o.Shape a.Shape b.Shape).1.Pts⟩ : Shape) = (shapeF o.Shape a.Shape b.Shape).1) := fun e => by
    rw [if_pos RD, e, et]; exact ⟨by decide, rfl, rfl⟩
   by_cases k1 : o.Shape.Kind = a.Shape.Kind
   case neg => rw [if_neg (by simpa using k1)]; exact bad (by unfold shapeF; rw [if_neg (by rw [c0]; decide), if_neg fun h => k1 h.1.symm])
   rw [if_pos (by simpa using k1)]
   have bad2 : shapeF o.Shape a.Shape b.Shape = (a.Shape, false) → ((⟨(three o.Shape a.Shape b.Shape).1.Kind, (three o.Shape a.Shape b.Shape).1.Pts⟩ : Shape) = (shapeF o.Shape a.Shape b.Shape).1 ∧ false = (shapeF o.Shape a.Shape b.Shape).2) := fun e => by rw [e, et]; exact ⟨rfl, rfl⟩
   refine ⟨fun fine z z2 => (⟨z, z2⟩ : Shape) = (shapeF o.Shape a.Shape b.Shape).1 ∧ fine = (shapeF o.Shape a.Shape b.Shape).2, ?_, ?_⟩
   ·by_cases k2 : o.Shape.Kind = b.Shape.Kind
    case neg => rw [if_neg (by simpa using k2)]; exact bad2 (by unfold shapeF; rw [if_neg (by rw [c0]; decide), if_neg fun h => k2 h.2.symm])
    rw [if_pos (by simpa using k2)]
    have hsh : shapeF o.Shape a.Shape b.Shape = match smerge o.Shape.Pts a.Shape.Pts b.Shape.Pts with
     | some p => if shapeOk ⟨a.Shape.Kind, p⟩ then (⟨a.Shape.Kind, p⟩, true) else (a.Shape, false)
     | none => (a.Shape, false) := by unfold shapeF; rw [if_neg (by rw [c0]; decide), if_pos ⟨k1.symm, k2.symm⟩]; try (cases smerge o.Shape.Pts a.Shape.Pts b.Shape.Pts <;> rfl)
    refine F57.law _ _ _ _ (fun r hr => ?_) (fun hr => ?_)
    ·rw [if_pos rfl]
     have hrl := smerge_len hr
     rw [hr] at hsh
     refine F72.law _ _ (by dsimp only; omega) ?_
     cases k3 : shapeOk ⟨a.Shape.Kind, r⟩ with
     | true =>
      rw [if_pos rfl]
      dsimp only at hsh
      rw [if_pos k3] at hsh
      rw [hsh]; exact ⟨rfl, rfl⟩
     | false =>
      rw [if_neg RD]
      dsimp only at hsh
      rw [if_neg (by rw [k3]; decide)] at hsh
      exact bad2 hsh
    ·rw [if_neg RD]
     rw [hr] at hsh
     exact bad2 hsh
   ·rintro _ z z2 ⟨hz, rfl⟩
    dsimp only
    rw [hz]
    cases (shapeF o.Shape a.Shape b.Shape).2 with
    | true => rw [if_neg RD]; exact ⟨rfl, rfl⟩
    | false => rw [if_pos RD]; exact ⟨by decide, rfl, rfl⟩
 rintro _ z z2 ⟨rfl, hz⟩
 rw [hz]
 unfold F23.E
 have hpts := shapeF_pts (o := o.Shape) sa sb
 refine ⟨by simp only [List.length_nil]; omega, ?_⟩
 rw [List.nil_append]
 have hfl : ([o.Tags, a.Tags, b.Tags] : List (List Tag)).flatten = o.Tags ++ a.Tags ++ b.Tags := by simp
 have hln : (o.Tags ++ a.Tags ++ b.Tags).length ≤ 12 := by simp only [List.length_append]; omega
 refine F15.law _ _ (by simp) (by rw [hfl]; omega) ?_
 rw [hfl]
 refine ⟨fun xs i => ∃ u : Nat, i = u ∧ u ≤ (o.Tags ++ a.Tags ++ b.Tags).length ∧ xs = keysT ((o.Tags ++ a.Tags ++ b.Tags).take u), fun _ i => ((o.Tags ++ a.Tags ++ b.Tags).length - i).toNat, ⟨0, rfl, Nat.zero_le _, rfl⟩, ?_⟩
 rintro _ _ ⟨u, rfl, hu, rfl⟩
 by_cases h : u < (o.Tags ++ a.Tags ++ b.Tags).length
 ·rw [if_pos (decide_eq_true OM)]
  have hil : (keysT ((o.Tags ++ a.Tags ++ b.Tags).take u)).length ≤ u := by unfold keysT; simp; omega
  refine ⟨OM, by simp only [List.length_cons, List.length_nil]; omega, by unfold I64; omega, ⟨u + 1, OM, OM, ?_⟩, by dsimp only; omega⟩
  rw [take_nth _ h, keys_app]; rfl
 rw [if_neg (by rw [decide_eq_true_eq]; omega)]
 have : u = (o.Tags ++ a.Tags ++ b.Tags).length := by omega
 subst this
 clear h hu
 rw [List.take_length]
 unfold F8.E F1.E
 have hkl : (keysT (o.Tags ++ a.Tags ++ b.Tags)).length ≤ 12 := by unfold keysT; rw [List.length_map]; exact hln
 refine ⟨OM, by unfold sortS; rw [List.length_mergeSort]; omega, ?_⟩
 obtain ⟨ks1, ks2⟩ := allKeys_small ko ka kb
 have ek : Lib.compact (sortS (keysT (o.Tags ++ a.Tags ++ b.Tags))) = allKeys o a b := rfl
 rw [ek]
 refine ⟨fun xs i ts => ∃ u : Nat, i = u ∧ u ≤ (allKeys o a b).length ∧ xs = (if (shapeF o.Shape a.Shape b.Shape).2 then [] else [shapeS]) ++ clashL o.Tags a.Tags b.Tags ((allKeys o a b).take u) ∧ ts = tagsL o.Tags a.Tags b.Tags ((allKeys o a b).take u), fun _ i _ => ((allKeys o a b).length - i).toNat, ⟨0, rfl, Nat.zero_le _, by simp [clashL], by simp [tagsL]⟩, ?_⟩
 rintro _ _ _ ⟨u, rfl, hu, rfl, rfl⟩
 have hpre : (if (shapeF o.Shape a.Shape b.Shape).2 then ([] : List Str) else [shapeS]).length ≤ 1 := by split <;> decide
 by_cases h : u < (allKeys o a b).length
 ·rw [if_pos (by simpa using h)]
  have hk6 := ks2 _ (nth_mem _ h)
  have hcl := clashL_len o.Tags a.Tags b.Tags ((allKeys o a b).take u)
  have htl := tagsL_len o.Tags a.Tags b.Tags ((allKeys o a b).take u)
  rw [List.length_take] at hcl htl
  refine ⟨OM, F77.law _ _ _ OM (F77.law _ _ _ OM (F77.law _ _ _ OM ?_))⟩
  refine ⟨fun x y => decide (x = y), fun _ _ => True, fun x y _ => by unfold F31.E; exact eqvalue_is x y, F10.law _ _ _ _ _ trivial trivial trivial ?_⟩
  have ec := clashL_snoc o.Tags a.Tags b.Tags ((allKeys o a b).take u) (nth (allKeys o a b) (u : Int))
  have et := tagsL_snoc o.Tags a.Tags b.Tags ((allKeys o a b).take u) (nth (allKeys o a b) (u : Int))
  rw [← take_nth _ h] at ec et
  refine ⟨fun xs z z2 => xs = (if (shapeF o.Shape a.Shape b.Shape).2 then [] else [shapeS]) ++ clashL o.Tags a.Tags b.Tags ((allKeys o a b).take (u + 1)) ∧ (⟨z, z2⟩ : value) = (tagK o.Tags a.Tags b.Tags (nth (allKeys o a b) (u : Int))).1, ?_, ?_⟩
  ·generalize nth (allKeys o a b) (u : Int) = k at *
   have ed : tagK o.Tags a.Tags b.Tags k = tagF (valT o.Tags k) (valT a.Tags k) (valT b.Tags k) := rfl
   rw [ec]
   cases c0 : (three (valT o.Tags k) (valT a.Tags k) (valT b.Tags k)).2 with
   | true =>
    have ek : tagK o.Tags a.Tags b.Tags k = three (valT o.Tags k) (valT a.Tags k) (valT b.Tags k) := by rw [ed]; unfold tagF; rw [if_pos c0]
    rw [if_neg RD, ek, c0, if_pos rfl, List.append_nil]
    exact ⟨rfl, rfl⟩
   | false =>
    have ek : tagK o.Tags a.Tags b.Tags k = (if (valT a.Tags k).has then valT a.Tags k else valT b.Tags k, false) := by rw [ed]; unfold tagF; rw [if_neg (by rw [c0]; decide)]
    rw [if_pos RD, ek]
    refine ⟨by simp only [List.length_cons, List.length_nil]; omega, by simp only [List.length_append, List.length_cons, List.length_nil]; omega, ?_⟩
    have e0 : (if ((if (valT a.Tags k).has then valT a.Tags k else valT b.Tags k, false) : value × Bool).2 then ([] : List Str) else [tagS ++ k]) = [tagS ++ k] := if_neg (by simp)
    rw [e0]
    cases c1 : (valT a.Tags k).has with
    | true => rw [if_neg (by simp)]; exact ⟨by rw [List.append_assoc]; rfl, by generalize valT a.Tags k = v at *; cases v; simp_all⟩
    | false => rw [if_pos (by simp)]; exact ⟨by rw [List.append_assoc]; rfl, by simp⟩
  ·rintro _ z3 z4 ⟨rfl, hz⟩
   have hz3 : z3 = (tagK o.Tags a.Tags b.Tags (nth (allKeys o a b) (u : Int))).1.has := by rw [← hz]
   have hz4 : z4 = (tagK o.Tags a.Tags b.Tags (nth (allKeys o a b) (u : Int))).1.val := by rw [← hz]
   refine ⟨fun ts => ts = tagsL o.Tags a.Tags b.Tags ((allKeys o a b).take (u + 1)), ?_, ?_⟩
   ·rw [et, hz3, hz4]
    split
    ·exact ⟨by simp only [List.length_cons, List.length_nil]; omega, rfl⟩
    ·rw [List.append_nil]
   ·rintro _ rfl
    exact ⟨by unfold I64; omega, ⟨u + 1, OM, OM, rfl, rfl⟩, by dsimp only; omega⟩
 rw [if_neg (by simpa using h)]
 have : u = (allKeys o a b).length := by omega
 subst this
 rw [List.take_length]
 have hjs := joinF_small ko ka kb
 unfold joinOf at hq
 show F98.E (joinF o a b) _
 refine F98.law _ _ OM ?_
 cases kj : featOk (joinF o a b) with
 | true =>
  rw [if_neg RD]
  rw [kj, if_pos rfl] at hq
  exact hq
 | false =>
  rw [if_pos RD]
  rw [kj, if_neg RD] at hq
  exact F39.law _ _ h2 hq
theorem F90.law (a b : List Pt) (Q : Bool → Prop) (hq : Q (decide (a = b))) : F90.E a b Q := by
 unfold F90.E
 exact eqS_shape eqPt eqPt_is a b Q hq
theorem F37.law (a b : Shape) (Q : Bool → Prop) (hq : Q (decide (a = b))) : F37.E a b Q := by
 unfold F37.E
 by_cases h : a.Kind = b.Kind
 ·rw [if_pos (by rw [beq_iff_eq]; exact h)]
  refine F90.law _ _ _ ?_
  have : decide (a.Pts = b.Pts) = decide (a = b) := decide_eq_decide.2 (by rw [Shape.ext_iff']; exact ⟨fun e => ⟨h, e⟩, fun e => e.2⟩)
  rw [this]; exact hq
 ·rw [if_neg (by rw [beq_iff_eq]; exact h)]
  rw [decide_eq_false (by rw [Shape.ext_iff']; exact fun e => h e.1)] at hq; exact hq
theorem F132.law (a b : List Pt) (Q : Bool → Prop) (hq : Q (few a b)) : F132.E a b Q := by
 unfold F132.E
 unfold few at hq
 by_cases h : a.length ≤ 12
 ·rw [if_pos (by simp; omega)]
  rw [decide_eq_true h, Bool.true_and] at hq
  have : decide ((b.length : Int) ≤ 12) = decide (b.length ≤ 12) := decide_eq_decide.2 OM
  rw [this]; exact hq
 ·rw [if_neg (by simp; omega)]
  rw [decide_eq_false h, Bool.false_and] at hq; exact hq
theorem F133.m_is (a b : Int) : F133.m a b = max a b := by
 unfold F133.m
 by_cases h : a > b
 ·simp [h]; omega
 ·simp [h]; omega
theorem F111.law (a b : List Pt) (Q : Int → Prop) (ha : a.length ≤ 1048576) (hb : b.length ≤ 1048576) (hq : Q (lcs a b : Nat)) : F111.E a b Q := by
 unfold F111.E
 have hn : ((b.length : Int) + 1).toNat = b.length + 1 := by omega
 rw [hn]
 refine ⟨fun _ => by unfold I64; omega, OM, fun _ _ => by unfold I64; omega,
  fun xs i => ∃ k : Nat, i = (k : Int) - 1 ∧ k ≤ a.length ∧ RowOk a b k 0 xs, fun _ i => (i + 1).toNat, ⟨a.length, rfl, Nat.le_refl _, by simp, fun m _ hm => ?_⟩, ?_⟩
 ·rw [nth_rep _ _ _ OM, List.drop_length, lcs_nil]; rfl
 rintro xs _ ⟨k, rfl, hk, hr⟩
 by_cases hk0 : (k : Int) - 1 ≥ 0
 ·rw [if_pos (by simpa using hk0)]
  obtain ⟨i, rfl⟩ : ∃ i, k = i + 1 := ⟨k - 1, OM⟩
  have ei : ((i + 1 : Nat) : Int) - 1 = (i : Int) := by omega
  rw [ei]
  refine ⟨fun _ => by unfold I64; omega, OM, fun _ => by unfold I64; omega,
   fun ys j => ∃ m : Nat, j = (m : Int) - 1 ∧ m ≤ b.length ∧ RowOk a b i m ys, fun _ j => (j + 1).toNat, ⟨b.length, rfl, Nat.le_refl _, by simp, fun m hm1 hm2 => ?_⟩, ?_⟩
  ·have : m = b.length := by omega
   subst this
   rw [nth_rep _ _ _ OM, List.drop_length, lcs_nil2]; rfl
  rintro ys _ ⟨m, rfl, hm, hs⟩
  by_cases hm0 : (m : Int) - 1 ≥ 0
  ·rw [if_pos (by simpa using hm0)]
   obtain ⟨j, rfl⟩ : ∃ j, m = j + 1 := ⟨m - 1, OM⟩
   have ej : ((j + 1 : Nat) : Int) - 1 = (j : Int) := by omega
   have ej1 : (j : Int) + 1 = ((j + 1 : Nat) : Int) := by omega
   rw [ej, ej1, eqPt_is]
   have hl := lcs_drop a b (i := i) (j := j) OM OM
   have n1 := hr.2 (j + 1) (Nat.zero_le _) OM
   have n2 := hr.2 j (Nat.zero_le _) OM
   have n3 := hs.2 (j + 1) (Nat.le_refl _) OM
   have b1 := lcs_le2 (a.drop (i + 1)) (b.drop (j + 1))
   rw [List.length_drop] at b1
   have hset : ∀ v : Int, v = (lcs (a.drop i) (b.drop j) : Nat) → RowOk a b i j (ys.set (j : Int).toNat v) := fun v hv => by
    refine ⟨by rw [List.length_set]; exact hs.1, fun u hu1 hu2 => ?_⟩
    rw [Int.toNat_natCast, nth_set _ (by have := hs.1; omega)]
    by_cases e : u = j
    ·subst e; rw [if_pos rfl, hv]
    ·rw [if_neg e]; exact hs.2 u OM hu2
   have l1 := hr.1
   have l2 := hs.1
   refine ⟨OM, OM, ?_⟩
   by_cases he : nth a (i : Int) = nth b (j : Int)
   ·rw [if_pos (by simpa using he)]
    rw [if_pos he] at hl
    rw [n1]
    exact ⟨by unfold I64; omega, OM, by unfold I64; omega, OM, by unfold I64; omega, ⟨j, OM, OM, hset _ OM⟩, by dsimp only; omega⟩
   ·rw [if_neg (by simpa using he)]
    rw [if_neg he] at hl
    rw [n2, n3, F133.m_is]
    exact ⟨OM, by unfold I64; omega, OM, OM, by unfold I64; omega, ⟨j, OM, OM, hset _ OM⟩, by dsimp only; omega⟩
  ·rw [if_neg (by simpa using hm0)]
   have : m = 0 := by omega
   subst this
   exact ⟨by unfold I64; omega, ⟨i, OM, OM, hs⟩, by dsimp only; omega⟩
 ·rw [if_neg (by simpa using hk0)]
  have : k = 0 := by omega
  subst this
  have h1 := hr.1
  have h2 := hr.2 0 (Nat.le_refl _) (Nat.zero_le _)
  refine ⟨OM, ?_⟩
  rw [show nth xs 0 = nth xs ((0 : Nat) : Int) from rfl, h2]
  exact hq
theorem cut_end (a : List Pt) (k : Nat) : (a.drop k).take (a.length - k) = a.drop k := List.take_of_length_le (by rw [List.length_drop]; omega)
theorem F60.law (a b : List Pt) (Q : List Pair → Prop) (hq : Q (spairs a b)) : F60.E a b Q := by
 unfold F60.E
 unfold spairs at hq
 refine ⟨fun xs i j => ∃ u v : Nat, i = u ∧ j = v ∧ u ≤ a.length ∧ v ≤ b.length ∧ (few a b = true → xs ++ (pairs u v (a.drop u) (b.drop v)).map mkP = (pairs 0 0 a b).map mkP) ∧ (few a b = false → xs = []), fun _ i j => ((a.length - i) + (b.length - j)).toNat, ⟨0, 0, rfl, rfl, Nat.zero_le _, Nat.zero_le _, fun _ => rfl, fun _ => rfl⟩, ?_⟩
 rintro xs _ _ ⟨u, v, rfl, rfl, hu, hv, hx, hy⟩
 have hend : (a.length ≤ u ∨ b.length ≤ v) → Q xs := fun h => by
  by_cases hf : few a b = true
  ·rw [if_pos hf] at hq
   have hx := hx hf
   rcases h with h | h
   ·rw [List.drop_of_length_le h, pairs_nil, List.map_nil, List.append_nil] at hx
    rw [hx]; exact hq
   ·rw [List.drop_of_length_le h, pairs_nil2, List.map_nil, List.append_nil] at hx
    rw [hx]; exact hq
  ·rw [if_neg hf] at hq
   rw [hy (by simpa using hf)]; exact hq
 by_cases hu0 : (u : Int) < (a.length : Int)
 ·rw [if_pos (by simpa using hu0)]
  by_cases hv0 : (v : Int) < (b.length : Int)
  ·rw [if_pos (by simpa using hv0)]
   refine F132.law _ _ _ ?_
   by_cases hf : few a b = true
   ·rw [if_pos hf]
    have hx := hx hf
    have hff := few_iff.1 hf
    have hu1 : u < a.length := by omega
    have hv1 : v < b.length := by omega
    rw [pairs_drop a b hu1 hv1] at hx
    have eu : (u : Int) + 1 = ((u + 1 : Nat) : Int) := by omega
    have ev : (v : Int) + 1 = ((v + 1 : Nat) : Int) := by omega
    rw [eqPt_is, eu, ev]
    refine ⟨OM, OM, ?_⟩
    by_cases he : nth a (u : Int) = nth b (v : Int)
    ·rw [if_pos (by simpa using he)]
     rw [if_pos he, List.map_cons] at hx
     have hl := congrArg List.length hx
     rw [List.length_map, pairs_len, List.length_append] at hl
     have := lcs_le1 a b
     exact ⟨by simp only [List.length_singleton]; omega, OM, OM, ⟨u + 1, v + 1, rfl, rfl, OM, OM, fun _ => by rw [List.append_assoc]; exact hx, fun e => absurd hf (by rw [e]; exact Bool.false_ne_true)⟩, by dsimp only; omega⟩
    ·rw [if_neg (by simpa using he)]
     rw [if_neg he] at hx
     simp only [Int.toNat_natCast, cut_end]
     refine ⟨OM, OM, OM, _, F111.law _ _ _ (by rw [List.length_drop]; omega) (by rw [List.length_drop]; omega) rfl, OM, OM, OM, _, F111.law _ _ _ (by rw [List.length_drop]; omega) (by rw [List.length_drop]; omega) rfl, ?_⟩
     by_cases hc : lcs (a.drop u) (b.drop (v + 1)) ≤ lcs (a.drop (u + 1)) (b.drop v)
     ·rw [if_pos (by simpa using hc)]
      rw [if_pos hc] at hx
      exact ⟨OM, ⟨u + 1, v, rfl, rfl, OM, OM, fun _ => hx, fun e => absurd hf (by rw [e]; exact Bool.false_ne_true)⟩, OM⟩
     ·rw [if_neg (by simpa using hc)]
      rw [if_neg hc] at hx
      exact ⟨OM, ⟨u, v + 1, rfl, rfl, OM, OM, fun _ => hx, fun e => absurd hf (by rw [e]; exact Bool.false_ne_true)⟩, OM⟩
   ·rw [if_neg hf]
    rw [if_neg hf] at hq
    rw [hy (by simpa using hf)]; exact hq
  ·rw [if_neg (by simpa using hv0)]; exact hend (.inr OM)
 ·rw [if_neg (by simpa using hu0)]; exact hend (.inl OM)
theorem F142.law (l : List Pair) (k : Int) (Q : Int → Prop) (hq : Q (mateI l k)) : F142.E l k Q := by
 unfold F142.E
 refine ⟨fun i => ∃ u : Nat, i = u ∧ u ≤ l.length ∧ mateI (l.drop u) k = mateI l k, fun i => (l.length - i).toNat, ⟨0, rfl, Nat.zero_le _, rfl⟩, ?_⟩
 rintro _ ⟨u, rfl, hu, he⟩
 by_cases h : (u : Int) < (l.length : Int)
 ·rw [if_pos (by simpa using h)]
  rw [drop_nth l OM, mateI_cons] at he
  refine ⟨OM, ?_⟩
  by_cases hc : ((nth l (u : Int)).A == k) = true
  ·rw [if_pos hc] at he ⊢
   refine ⟨OM, ?_⟩
   rw [he]; exact hq
  ·rw [if_neg hc] at he ⊢
   exact ⟨OM, ⟨u + 1, OM, OM, he⟩, by dsimp only; omega⟩
 ·rw [if_neg (by simpa using h)]
  rw [List.drop_of_length_le (by omega : l.length ≤ u), mateI_nil] at he
  rw [he]; exact hq
theorem F112.law (o a b : List Pt) (Q : List Pt → Bool → Prop) (hs : ∀ r, pickL o a b = some r → Q r true) (hn : pickL o a b = none → Q [] false) : F112.E o a b Q := by
 unfold F112.E
 unfold pickL at hs hn
 refine F90.law _ _ _ ?_
 by_cases h1 : a = o
 ·rw [if_pos (by simpa using h1)]
  rw [if_pos h1] at hs; exact hs _ rfl
 rw [if_neg (by simpa using h1)]
 rw [if_neg h1] at hs hn
 refine F90.law _ _ _ ?_
 by_cases h2 : b = o
 ·rw [if_pos (by simpa using h2)]
  rw [if_pos h2] at hs; exact hs _ rfl
 rw [if_neg (by simpa using h2)]
 rw [if_neg h2] at hs hn
 refine F90.law _ _ _ ?_
 by_cases h3 : a = b
 ·rw [if_pos (by simpa using h3)]
  rw [if_pos h3] at hs; exact hs _ rfl
 ·rw [if_neg (by simpa using h3)]
  rw [if_neg h3] at hn; exact hn rfl
theorem F78.law (o a b : List Pt) (Q : List Pt → Bool → Prop) (h1 : few o a = true) (h2 : few o b = true) (hs : ∀ r, smerge o a b = some r → Q r true) (hn : smerge o a b = none → Q [] false) : F78.E o a b Q := by
 unfold F78.E
 refine F60.law _ _ _ (F60.law _ _ _ ?_)
 have f1 := few_iff.1 h1; have f2 := few_iff.1 h2
 refine ⟨fun xs i j k t => (∃ i' j' k' t' : Nat, i = i' ∧ j = j' ∧ k = k' ∧ t = t' ∧ MInv o a b xs i' j' k' t') ∨ (t = (o.length : Int) + 1 ∧ smerge o a b = some xs), fun _ _ _ _ t => (o.length + 1 - t).toNat, .inl ⟨0, 0, 0, 0, rfl, rfl, rfl, rfl, MInv.zero h1 h2⟩, ?_⟩
 rintro xs _ _ _ _ (⟨i, j, k, t, rfl, rfl, rfl, rfl, h⟩ | ⟨rfl, h⟩)
 ·have ht := h.ht; have hi := h.hi; have hj := h.hj; have hk := h.hk; have hl := h.len
  rw [if_pos (by simp; omega)]
  simp only [Int.toNat_natCast]
  by_cases ht0 : (t : Int) < (o.length : Int)
  ·rw [if_pos (by simpa using ht0)]
   refine F142.law _ _ _ (F142.law _ _ _ ?_)
   rw [mate_part h1, mate_part h2]
   cases hx : part o a t with
   | none =>
    rw [if_pos RD]
    exact ⟨OM, .inl ⟨i, j, k, t + 1, rfl, rfl, rfl, rfl, h.skip OM (.inl hx)⟩, OM⟩
   | some x =>
    rw [if_neg (by simp)]
    cases hy : part o b t with
    | none =>
     rw [if_pos RD]
     exact ⟨OM, .inl ⟨i, j, k, t + 1, rfl, rfl, rfl, rfl, h.skip OM (.inr hy)⟩, OM⟩
    | some y =>
     rw [if_neg (by simp)]
     dsimp only
     obtain ⟨g1, g2, g3, g4⟩ := h.from hx hy
     refine ⟨OM, OM, OM, F112.law _ _ _ _ (fun p hp => ?_) (fun hp => ?_)⟩
     ·rw [if_neg (by simp)]
      have hm := (pickL_mem (o := seg o i t) (a := seg a j x) (b := seg b k y) hp).2.2.2
      rw [seg_len a _ _ OM, seg_len b _ _ OM] at hm
      exact ⟨OM, OM, by simp only [List.length_append, List.length_singleton]; omega, OM, fun _ _ _ => by unfold I64; omega, fun _ _ _ => by unfold I64; omega, OM, .inl ⟨t + 1, x + 1, y + 1, t + 1, rfl, rfl, rfl, rfl, h.step OM hx hy hp⟩, OM⟩
     ·rw [if_pos (by simp)]
      exact hn (h.stop OM hx hy hp)
  ·rw [if_neg (by simpa using ht0)]
   have : t = o.length := by omega
   subst this
   refine ⟨OM, OM, OM, ?_⟩
   have hlast := h.last
   have e1 : (o.drop i).take (o.length - i) = o.drop i := seg_end o i
   have e2 : (a.drop j).take (a.length - j) = a.drop j := seg_end a j
   have e3 : (b.drop k).take (b.length - k) = b.drop k := seg_end b k
   rw [e1, e2, e3]
   refine F112.law _ _ _ _ (fun p hp => ?_) (fun hp => ?_)
   ·rw [if_neg (by simp)]
    have hm := (pickL_mem hp).2.2.2
    rw [List.length_drop, List.length_drop] at hm
    rw [hp, Option.map_some] at hlast
    exact ⟨OM, fun _ _ _ => by unfold I64; omega, fun _ _ _ => by unfold I64; omega, fun _ _ _ => by unfold I64; omega, fun _ _ _ => by unfold I64; omega, .inr ⟨rfl, hlast.symm⟩, OM⟩
   ·rw [if_pos (by simp)]
    rw [hp] at hlast
    exact hn hlast.symm
 ·rw [if_neg (by simp; omega)]
  exact hs _ h
theorem F79.law (o a b : Shape) (Q : Shape → Bool → Prop) (h1 : o.Pts.length ≤ 6) (h2 : a.Pts.length ≤ 6) (h3 : b.Pts.length ≤ 6) (hq : Q (shapeF o a b).1 (shapeF o a b).2) : F79.E o a b Q := by
 unfold F79.E
 unfold shapeF three at hq
 refine F37.law _ _ _ ?_
 by_cases e1 : a = o
 ·rw [decide_eq_true e1, if_pos rfl]; rw [if_pos e1, if_pos rfl] at hq; exact hq
 rw [decide_eq_false e1, if_neg RD]; rw [if_neg e1] at hq
 refine F37.law _ _ _ ?_
 by_cases e2 : b = o
 ·rw [decide_eq_true e2, if_pos rfl]; rw [if_pos e2, if_pos rfl] at hq; exact hq
 rw [decide_eq_false e2, if_neg RD]; rw [if_neg e2] at hq
 refine F37.law _ _ _ ?_
 by_cases e3 : a = b
 ·rw [decide_eq_true e3, if_pos rfl]; rw [if_pos e3, if_pos rfl] at hq; exact hq
 rw [decide_eq_false e3, if_neg RD]; rw [if_neg e3, if_neg (by simp)] at hq
 by_cases k1 : a.Kind = b.Kind
 case neg => rw [if_pos (by rw [bne_iff_ne]; exact k1)]; rw [if_neg fun h => k1 (h.1.trans h.2.symm)] at hq; exact hq
 rw [if_neg (by rw [k1]; simp)]
 by_cases k2 : a.Kind = o.Kind
 case neg => rw [if_pos (by rw [bne_iff_ne]; exact k2)]; rw [if_neg fun h => k2 h.1] at hq; exact hq
 rw [if_neg (by rw [k2]; simp)]
 rw [if_pos ⟨k2, k1.symm.trans k2⟩] at hq
 refine F78.law _ _ _ _ (few_iff.2 OM) (few_iff.2 OM) (fun r hr => ?_) (fun hr => ?_)
 ·rw [if_neg RD]
  rw [hr] at hq
  dsimp only at hq
  refine F68.law _ _ ?_
  cases k3 : shapeOk ⟨a.Kind, r⟩ with
  | true => rw [if_neg RD]; rw [if_pos k3] at hq; exact hq
  | false => rw [if_pos RD]; rw [if_neg (by rw [k3]; decide)] at hq; exact hq
 ·rw [if_pos RD]; rw [hr] at hq; exact hq
theorem F134.law (t : List Tag) (key : Str) (Q : Str → Bool → Prop) (hq : Q (valT t key).val (valT t key).has) : F134.E t key Q := by
 unfold F134.E
 unfold valT at hq
 obtain ⟨I, mu, h1, h2⟩ := loop_find t.length (fun j => (nth t (j : Int)).Key == key) (Q := fun r => if r < 0 then Q [] false else Q (nth t r).Val true)
  (B := fun I mu i => ((0 : Int) ≤ i ∧ i < (t.length : Int)) ∧ (if ((nth t i).Key) == key then ((0 : Int) ≤ i ∧ i < (t.length : Int)) ∧ Q ((nth t i).Val) true else (-9223372036854775808 ≤ i) ∧ I (i + 1) ∧ mu (i + 1) < mu i))
  (by
   try dsimp only
   split
   ·rename_i h; rw [if_pos h] at hq; exact hq
   ·rename_i h; rw [if_neg h] at hq; exact hq)
  (fun I mu k hk h1 h2 => ⟨OM, by
   cases h : (nth t (k : Int)).Key == key with
   | true => rw [if_pos rfl]; have := h1 h; rw [if_neg OM] at this; exact ⟨OM, this⟩
   | false => rw [if_neg RD]; obtain ⟨i1, i2⟩ := h2 h; exact ⟨OM, i1, i2⟩⟩)
 refine ⟨I, mu, h1, fun i hi => ?_⟩
 have h3 := h2 i hi
 by_cases h : i < (t.length : Int)
 ·rw [if_pos (decide_eq_true h)] at h3 ⊢; exact h3
 ·rw [if_neg (by simpa using h)] at h3 ⊢
  rw [if_pos RD] at h3; exact h3
theorem value.ext_iff' (a b : value) : a = b ↔ a.has = b.has ∧ a.val = b.val := by cases a; cases b; simp
def tagE (o a b : value) (Q : Str → Bool → Bool → Prop) : Prop :=
 if a = o then Q b.val b.has true else if b = o then Q a.val a.has true else if a = b then Q a.val a.has true else if a.has then Q a.val true false else Q b.val true false
theorem tagE_of {o a b : value} {Q : Str → Bool → Bool → Prop} (ha : a.has = false → a = ⟨false, []⟩) (hb : b.has = false → b = ⟨false, []⟩) (hq : Q (tagF o a b).1.val (tagF o a b).1.has (tagF o a b).2) : tagE o a b Q := by
 unfold tagE
 unfold tagF three at hq
 by_cases e1 : a = o
 ·rw [if_pos e1]; rw [if_pos e1, if_pos rfl] at hq; exact hq
 ·rw [if_neg e1] at hq ⊢
  by_cases e2 : b = o
  ·rw [if_pos e2]; rw [if_pos e2, if_pos rfl] at hq; exact hq
  ·rw [if_neg e2] at hq ⊢
   by_cases e3 : a = b
   ·rw [if_pos e3]; rw [if_pos e3, if_pos rfl] at hq; exact hq
   ·rw [if_neg e3] at hq ⊢
    rw [if_neg (by simp)] at hq
    cases h : a.has with
    | true => rw [if_pos rfl]; rw [h, if_pos rfl, h] at hq; exact hq
    | false =>
     rw [if_neg RD]; rw [h, if_neg RD] at hq
     cases g : b.has with
     | true => rw [g] at hq; exact hq
     | false => exact absurd ((ha h).trans (hb g).symm) e3
theorem beq_dec {α : Type} [DecidableEq α] [BEq α] [LawfulBEq α] {x y : α} : ((x == y) = true) = (x = y) := by simp
theorem F135.law (o a b : List Tag) (key : Str) (Q : Str → Bool → Bool → Prop) (hq : Q (tagK o a b key).1.val (tagK o a b key).1.has (tagK o a b key).2) : F135.E o a b key Q := by
 unfold F135.E
 refine F134.law _ _ _ (F134.law _ _ _ (F134.law _ _ _ ?_))
 have h := tagE_of (valT_no a key) (valT_no b key) hq
 generalize valT o key = vo at *
 generalize valT a key = va at *
 generalize valT b key = vb at *
 unfold tagE at h
 simp only [value.ext_iff'] at h
 by_cases e1 : va.val = vo.val <;> by_cases e2 : va.has = vo.has <;> by_cases e3 : vb.val = vo.val <;> by_cases e4 : vb.has = vo.has <;> by_cases e5 : va.val = vb.val <;> by_cases e6 : va.has = vb.has <;>
  simp only [beq_dec, e1, e2, e3, e4, e5, e6, if_true, if_false, and_self, and_true, and_false, false_and, true_and] at h ⊢ <;> first | exact h | simp_all
theorem F113.law (o a b : List Tag) (Q : List Str → Prop) (h1 : o.length ≤ 100) (h2 : a.length ≤ 100) (h3 : b.length ≤ 100) (hq : Q (uniq (keysT (o ++ a ++ b)))) : F113.E o a b Q := by
 unfold F113.E
 rw [List.nil_append]
 refine ⟨by simp only [List.length_nil]; omega, OM, by simp only [List.length_append]; omega, ?_⟩
 have hl : (o ++ a ++ b).length ≤ 300 := by simp only [List.length_append]; omega
 generalize o ++ a ++ b = l at *
 refine ⟨fun s i => ∃ u : Nat, i = u ∧ u ≤ l.length ∧ SS (keysT s) ∧ (∀ x, x ∈ keysT s ↔ x ∈ keysT (l.take u)) ∧ s.length ≤ u, fun _ i => (l.length - i).toNat, ⟨0, rfl, Nat.zero_le _, by simp [keysT, SS], by simp [keysT], by simp⟩, ?_⟩
 rintro s _ ⟨u, rfl, hu, g1, g2, g3⟩
 by_cases h : u < l.length
 ·rw [if_pos (by simpa using h)]
  refine ⟨OM, F126.law _ _ _ _ OM g1 fun r r1 r2 r3 _ => ⟨OM, ⟨u + 1, OM, OM, r1, fun x => ?_, OM⟩, by dsimp only; omega⟩⟩
  rw [r2, g2, keys_take h, List.mem_append, List.mem_singleton]
 ·rw [if_neg (by simpa using h)]
  have : u = l.length := by omega
  subst this
  rw [List.take_length] at g2
  have e : keysT s = uniq (keysT l) := SS.ext g1 (uniq_ss _) fun x => by rw [g2, uniq_mem]
  rw [← e] at hq
  refine ⟨fun xs i => ∃ v : Nat, i = v ∧ v ≤ s.length ∧ xs = keysT (s.take v), fun _ i => (s.length - i).toNat, ⟨0, rfl, Nat.zero_le _, rfl⟩, ?_⟩
  rintro _ _ ⟨v, rfl, hv, rfl⟩
  have hil : (keysT (s.take v)).length ≤ v := by unfold keysT; simp; omega
  by_cases g : v < s.length
  ·rw [if_pos (by simpa using g)]
   refine ⟨OM, by simp only [List.length_cons, List.length_nil]; omega, OM, ⟨v + 1, OM, OM, ?_⟩, by dsimp only; omega⟩
   rw [keys_take g]
  ·rw [if_neg (by simpa using g)]
   have : v = s.length := by omega
   subst this
   rw [List.take_length]; exact hq
theorem F114.law (o a b : Feat) (Q : Feat → List Str → Prop) (ko : featOk o = true) (ka : featOk a = true) (kb : featOk b = true) (hq : Q (joinOf o a b).1 (joinOf o a b).2) : F114.E o a b Q := by
 unfold F114.E
 have fo := feat_facts ko; have fa := feat_facts ka; have fb := feat_facts kb
 have so := fo.2.2.1; have sa := fa.2.2.1; have sb := fb.2.2.1
 refine F79.law _ _ _ _ so sa sb ?_
 refine ⟨fun xs => xs = (if (shapeF o.Shape a.Shape b.Shape).2 then [] else [shapeS]), ?_, ?_⟩
 ·cases c : (shapeF o.Shape a.Shape b.Shape).2 with
  | true => rw [if_neg RD, if_pos rfl]
  | false => rw [if_pos RD, if_neg RD]; exact ⟨by decide, rfl⟩
 rintro _ rfl
 have hpts := shapeF_pts (o := o.Shape) sa sb
 unfold F82.E
 refine ⟨by simp only [List.length_nil]; omega, ?_⟩
 rw [List.nil_append]
 refine F113.law _ _ _ _ OM OM OM ?_
 obtain ⟨ks1, ks2⟩ := allKeys_small ko ka kb
 have ek : uniq (keysT (o.Tags ++ a.Tags ++ b.Tags)) = allKeys o a b := rfl
 rw [ek]
 refine ⟨fun xs i ts => ∃ u : Nat, i = u ∧ u ≤ (allKeys o a b).length ∧ xs = (if (shapeF o.Shape a.Shape b.Shape).2 then [] else [shapeS]) ++ clashL o.Tags a.Tags b.Tags ((allKeys o a b).take u) ∧ ts = tagsL o.Tags a.Tags b.Tags ((allKeys o a b).take u), fun _ i _ => ((allKeys o a b).length - i).toNat, ⟨0, rfl, Nat.zero_le _, by simp [clashL], by simp [tagsL]⟩, ?_⟩
 rintro _ _ _ ⟨u, rfl, hu, rfl, rfl⟩
 have hpre : (if (shapeF o.Shape a.Shape b.Shape).2 then ([] : List Str) else [shapeS]).length ≤ 1 := by split <;> decide
 by_cases h : u < (allKeys o a b).length
 ·rw [if_pos (by simpa using h)]
  have hk6 := ks2 _ (nth_mem _ h)
  have hcl := clashL_len o.Tags a.Tags b.Tags ((allKeys o a b).take u)
  have htl := tagsL_len o.Tags a.Tags b.Tags ((allKeys o a b).take u)
  rw [List.length_take] at hcl htl
  refine ⟨OM, F135.law _ _ _ _ _ ?_⟩
  have ec := clashL_snoc o.Tags a.Tags b.Tags ((allKeys o a b).take u) (nth (allKeys o a b) (u : Int))
  have et := tagsL_snoc o.Tags a.Tags b.Tags ((allKeys o a b).take u) (nth (allKeys o a b) (u : Int))
  rw [← take_nth _ h] at ec et
  refine ⟨fun xs => xs = (if (shapeF o.Shape a.Shape b.Shape).2 then [] else [shapeS]) ++ clashL o.Tags a.Tags b.Tags ((allKeys o a b).take (u + 1)), ?_, ?_⟩
  ·rw [ec]
   cases c : (tagK o.Tags a.Tags b.Tags (nth (allKeys o a b) (u : Int))).2 with
   | true => rw [if_neg RD, if_pos rfl, List.append_nil]
   | false =>
    rw [if_pos RD]
    simp only [Bool.false_eq_true, if_false]
    exact ⟨OM, by simp only [List.length_cons, List.length_nil]; omega, by simp only [List.length_append, List.length_cons, List.length_nil]; omega, by rw [List.append_assoc]; rfl⟩
  ·rintro _ rfl
   refine ⟨fun ts => ts = tagsL o.Tags a.Tags b.Tags ((allKeys o a b).take (u + 1)), ?_, ?_⟩
   ·rw [et]
    split
    ·exact ⟨OM, by simp only [List.length_cons, List.length_nil]; omega, rfl⟩
    ·rw [List.append_nil]
   ·rintro _ rfl
    exact ⟨by unfold I64; omega, ⟨u + 1, OM, OM, rfl, rfl⟩, by dsimp only; omega⟩
 rw [if_neg (by simpa using h)]
 have : u = (allKeys o a b).length := by omega
 subst this
 rw [List.take_length]
 unfold joinOf at hq
 show F87.E (joinF o a b) _
 refine F87.law _ _ ?_
 cases kj : featOk (joinF o a b) with
 | true =>
  rw [if_neg RD]
  rw [kj, if_pos rfl] at hq
  exact hq
 | false =>
  rw [if_pos RD]
  rw [kj, if_neg RD] at hq
  exact F83.law _ _ (by have := (feat_small ka).1; omega) hq
theorem F61.law (o a b : Feat) (Q : Feat → List Str → Prop) (hq : Q (featJoin o a b).1 (featJoin o a b).2) : F61.E o a b Q := by
 unfold F61.E
 unfold featJoin at hq
 have zq : (featOk o && featOk a && featOk b && decide (o.Id = a.Id) && decide (o.Id = b.Id)) = false → Q ⟨[], ⟨0, []⟩, []⟩ [] := fun h => by rw [h, if_neg RD] at hq; exact hq
 refine F87.law _ _ ?_
 cases ko : featOk o with
 | false => rw [if_pos RD]; exact zq (by rw [ko]; rfl)
 | true =>
 rw [if_neg RD]
 refine F87.law _ _ ?_
 cases ka : featOk a with
 | false => rw [if_pos RD]; exact zq (by rw [ko, ka]; rfl)
 | true =>
 rw [if_neg RD]
 refine F87.law _ _ ?_
 cases kb : featOk b with
 | false => rw [if_pos RD]; exact zq (by rw [ko, ka, kb]; rfl)
 | true =>
 rw [if_neg RD]
 by_cases e1 : a.Id = o.Id
 case neg => rw [if_pos (by rw [bne_iff_ne]; exact e1)]; exact zq (by rw [show decide (o.Id = a.Id) = false from decide_eq_false fun h => e1 h.symm]; simp)
 rw [if_neg (by rw [e1]; simp)]
 by_cases e2 : b.Id = o.Id
 case neg => rw [if_pos (by rw [bne_iff_ne]; exact e2)]; exact zq (by rw [show decide (o.Id = b.Id) = false from decide_eq_false fun h => e2 h.symm]; simp)
 rw [if_neg (by rw [e2]; simp)]
 rw [ko, ka, kb, decide_eq_true e1.symm, decide_eq_true e2.symm, if_pos RD] at hq
 exact F114.law _ _ _ _ ko ka kb hq
theorem F17.law (a b : List Tag) (Q : Bool → Prop) (hb : a.length ≤ 1048576) (hq : Q (decide (a = b))) : F17.E a b Q := by
 unfold F17.E
 exact eqI_shape eqTag eqTag_is a b Q hb hq
theorem F46.law (a b : Feat) (Q : Bool → Prop) (hl : a.Shape.Pts.length ≤ 1048576 ∧ a.Tags.length ≤ 1048576) (hq : Q (decide (a = b))) : F46.E a b Q := by
 unfold F46.E
 by_cases h : a.Id = b.Id
 ·rw [if_pos (by rw [beq_iff_eq]; exact h)]
  refine F38.law _ _ _ OM ?_
  by_cases h2 : a.Shape = b.Shape
  ·rw [decide_eq_true h2, if_pos rfl]
   refine F17.law _ _ _ OM ?_
   have : decide (a.Tags = b.Tags) = decide (a = b) := decide_eq_decide.2 (by rw [Feat.ext_iff']; exact ⟨fun e => ⟨h, h2, e⟩, fun e => e.2.2⟩)
   rw [this]; exact hq
  ·rw [decide_eq_false h2, if_neg RD]
   rw [decide_eq_false (by rw [Feat.ext_iff']; exact fun e => h2 e.2.1)] at hq; exact hq
 ·rw [if_neg (by rw [beq_iff_eq]; exact h)]
  rw [decide_eq_false (by rw [Feat.ext_iff']; exact fun e => h e.1)] at hq; exact hq
theorem F24.law (s : Shape) (h : shapeOk s = true) (Q : Str → Prop) (hq : Q (shT s)) : F24.E s Q := by
 obtain ⟨h1, h2, h3⟩ := shape_in h
 have h0 := names_len s.Kind
 unfold F24.E
 refine ⟨⟨OM, by show s.Kind < 4; omega⟩, loop_text s.Pts ptT _ 44 300 (fun p hp => ptT_len (h3 p hp)) OM (fun I mu k out hk hm ho hn => ?_) hq⟩
 have hp := h3 _ hm
 have l1 := itoa_len (nth s.Pts (k : Int)).X OM OM
 have l2 := itoa_len (nth s.Pts (k : Int)).Y OM OM
 obtain ⟨i1, i2⟩ := hn (out ++ (((([32] : Str) ++ Lib.itoa (nth s.Pts (k : Int)).X) ++ ([44] : Str)) ++ Lib.itoa (nth s.Pts (k : Int)).Y)) rfl
 refine ⟨OM, _, ⟨⟨OM, OM⟩, rfl⟩, by unfold Lim; omega, ?_, ?_, _, ⟨⟨OM, OM⟩, rfl⟩, by unfold Lim; omega, ?_, ?_, by unfold I64; omega, i1, i2⟩
 all_goals (simp only [List.length_append, List.length_cons, List.length_nil]; omega)
theorem F41.law (s : Shape) (Q : Str → Prop) (hs : shapeOk s = true) (hl : s.Pts.length ≤ 1048576) (hq : Q (shT s)) : F41.E s Q := by
 unfold F41.E
 refine F72.law _ _ hl ?_
 rw [hs, if_neg RD]
 exact F24.law _ hs _ hq
abbrev oF (o : Feat) (s : Shape) : Feat := ⟨o.Id, s, o.Tags⟩
theorem oF_ok {o : Feat} (h : featOk o = true) {s : Shape} (hs : shapeOk s = true) : featOk (oF o s) = true := by
 unfold featOk at h ⊢
 simp only [Bool.and_eq_true] at h ⊢
 exact ⟨h.1, hs⟩
theorem oF_join {o : Feat} (h : featOk o = true) {s0 s1 s2 : Shape} (h0 : shapeOk s0 = true) (h1 : shapeOk s1 = true) (h2 : shapeOk s2 = true) (hr : shapeOk (shapeF s0 s1 s2).1 = true) :
  featJoin (oF o s0) (oF o s1) (oF o s2) = (oF o (shapeF s0 s1 s2).1, if (shapeF s0 s1 s2).2 then [] else [shapeS]) := by
 have k1 := oF_ok h h1
 have ht : tagsL o.Tags o.Tags o.Tags (allKeys (oF o s0) (oF o s1) (oF o s2)) = o.Tags := congrArg Feat.Tags (joinF_r (o := oF o s0) (a := oF o s1) k1)
 have hj : joinF (oF o s0) (oF o s1) (oF o s2) = oF o (shapeF s0 s1 s2).1 := by
  unfold joinF; dsimp only; rw [ht]
 have hw : joinW (oF o s0) (oF o s1) (oF o s2) = if (shapeF s0 s1 s2).2 then [] else [shapeS] := by
  unfold joinW; dsimp only; rw [clashL_r, List.append_nil]
 unfold featJoin
 rw [oF_ok h h0, k1, oF_ok h h2, decide_eq_true rfl, if_pos RD]
 unfold joinOf
 rw [hj, hw, oF_ok h hr, if_pos rfl]
theorem laws_FnFeatPoints.gen (code : List UInt8) (Q : Bool → Prop) (hq : Q true) : laws_FnFeatPoints.E code Q := by
 unfold laws_FnFeatPoints.E
 by_cases c1 : (code.length : Int) > 1048576
 ·rw [if_pos (by simpa using c1)]; exact hq
 rw [if_neg (by simpa using c1)]
 refine F14.law _ _ fun o _ _ fo _ _ _ => ?_
 have bo : bulk o ≤ 1048576 := Nat.le_trans fo.small RD
 have same : ∃ q : Bool, F98.E o (fun x => x = q) ∧ (∃ q2 : Bool, F87.E o (fun x => x = q2) ∧ Q (q == q2)) :=
  ⟨_, F98.law _ _ bo rfl, _, F87.law _ _ rfl, by rw [show (featOk o == featOk o) = true from by simp]; exact hq⟩
 refine F87.law _ _ ?_
 cases ko : featOk o with
 | false => rw [if_pos RD]; exact same
 | true =>
 rw [if_neg RD]
 by_cases c2 : (o.Shape.Pts.length : Int) > 4
 ·rw [if_pos (by simpa using c2)]; exact same
 rw [if_neg (by simpa using c2)]
 have k0 : shapeOk ⟨2, [⟨50, 1⟩, ⟨51, 2⟩]⟩ = true := by decide
 have k1 : shapeOk ⟨2, [⟨49, 0⟩, ⟨50, 1⟩, ⟨51, 2⟩]⟩ = true := by decide
 have k2 : shapeOk ⟨2, [⟨50, 1⟩, ⟨51, 2⟩, ⟨52, 0⟩]⟩ = true := by decide
 have k3 : shapeOk ⟨1, [⟨7, 0⟩]⟩ = true := by decide
 have kr : shapeOk ⟨2, [⟨49, 0⟩, ⟨50, 1⟩, ⟨51, 2⟩, ⟨52, 0⟩]⟩ = true := by decide
 have f1 : shapeF ⟨2, [⟨50, 1⟩, ⟨51, 2⟩]⟩ ⟨2, [⟨49, 0⟩, ⟨50, 1⟩, ⟨51, 2⟩]⟩ ⟨2, [⟨50, 1⟩, ⟨51, 2⟩, ⟨52, 0⟩]⟩ = (⟨2, [⟨49, 0⟩, ⟨50, 1⟩, ⟨51, 2⟩, ⟨52, 0⟩]⟩, true) := RK
 have f2 : shapeF ⟨2, [⟨50, 1⟩, ⟨51, 2⟩]⟩ ⟨2, [⟨49, 0⟩, ⟨50, 1⟩, ⟨51, 2⟩]⟩ ⟨1, [⟨7, 0⟩]⟩ = (⟨2, [⟨49, 0⟩, ⟨50, 1⟩, ⟨51, 2⟩]⟩, false) := by decide
 have t1 : shT ⟨2, [⟨49, 0⟩, ⟨50, 1⟩, ⟨51, 2⟩, ⟨52, 0⟩]⟩ = [108, 105, 110, 101, 32, 52, 57, 44, 48, 32, 53, 48, 44, 49, 32, 53, 49, 44, 50, 32, 53, 50, 44, 48] := RK
 have j1 : featJoin (oF o ⟨2, [⟨50, 1⟩, ⟨51, 2⟩]⟩) (oF o ⟨2, [⟨49, 0⟩, ⟨50, 1⟩, ⟨51, 2⟩]⟩) (oF o ⟨2, [⟨50, 1⟩, ⟨51, 2⟩, ⟨52, 0⟩]⟩) = (oF o ⟨2, [⟨49, 0⟩, ⟨50, 1⟩, ⟨51, 2⟩, ⟨52, 0⟩]⟩, []) := by
  rw [oF_join ko k0 k1 k2 (by rw [f1]; exact kr), f1]; rfl
 have j2 : featJoin (oF o ⟨2, [⟨50, 1⟩, ⟨51, 2⟩]⟩) (oF o ⟨2, [⟨49, 0⟩, ⟨50, 1⟩, ⟨51, 2⟩]⟩) (oF o ⟨1, [⟨7, 0⟩]⟩) = (oF o ⟨2, [⟨49, 0⟩, ⟨50, 1⟩, ⟨51, 2⟩]⟩, [shapeS]) := by
  rw [oF_join ko k0 k1 k3 (by rw [f2]; exact k1), f2]; rfl
 have j3 := featJoin_l (oF_ok ko k0) (oF_ok ko k3) rfl
 have bk : ∀ {s : Shape}, shapeOk s = true → bulk (oF o s) ≤ 1048576 := fun h => Nat.le_trans (feat_small (oF_ok ko h)).1 RD
 have ln : ∀ {s : Shape}, shapeOk s = true → (oF o s).Shape.Pts.length ≤ 1048576 ∧ (oF o s).Tags.length ≤ 1048576 := fun {s} h => (FB.of (oF_ok ko h)).lens RD
 refine F59.law _ _ _ _ (bk k0) (bk k1) (bk k2) (F61.law _ _ _ _ ?_)
 rw [j1]
 dsimp only
 refine F46.law _ _ _ (ln kr) ?_
 rw [decide_eq_true rfl, if_neg RD, if_neg (by simp), if_neg (by simp)]
 refine F41.law _ _ kr (ln kr).1 ?_
 rw [t1, if_neg RD]
 refine F59.law _ _ _ _ (bk k0) (bk k1) (bk k3) ?_
 rw [j2]
 refine F59.law _ _ _ _ (bk k0) (bk k0) (bk k3) ?_
 rw [j3]
 dsimp only
 rw [if_pos RD]
 refine ⟨⟨by decide, by decide⟩, ?_⟩
 rw [if_pos RD, if_pos RD]
 refine F46.law _ _ _ (ln k3) ?_
 rw [decide_eq_true rfl]; exact hq
theorem laws_FnFeatPoints.law (code : List UInt8) (_ : ∀ x ∈ code, True) : laws_FnFeatPoints.E code (fun r => r = true) := laws_FnFeatPoints.gen code _ rfl
theorem laidVars_at {P : Program} {w : World} : ∀ {l : List (String × DataW Unit)} {ps : List MemPlace} {i : Nat} {n : String} {d : DataW Unit}, DataW.LaidVars P w l ps → l[i]? = some (n, d) →
  ∃ g t cs fuel p, P.globalNamed n = some g ∧ (P.globals[g]?).map (·.type) = some t ∧ w.var? P n = some cs ∧ DataW.trod (fun _ => ()) P w 0 (fun _ => true) false fuel t cs.toList = some (d, p) ∧ ∀ x ∈ MemPlace.row ⟨g, 0, none⟩ cs.size, x ∈ ps
 | [], _, _, _, _, _, h => by simp at h
 | (n', d') :: r, _, 0, n, d, ⟨g, t, cs, fuel, p, q, h1, h2, h3, h4, h5, e⟩, h => by
  simp only [List.getElem?_cons_zero, Option.some.injEq, Prod.mk.injEq] at h
  obtain ⟨rfl, rfl⟩ := h
  exact ⟨g, t, cs, fuel, p, h1, h2, h3, h4, fun x hx => by rw [e]; simp [hx]⟩
 | _ :: r, _, i + 1, n, d, ⟨g, t, cs, fuel, p, q, h1, h2, h3, h4, h5, e⟩, h => by
  obtain ⟨g', t', cs', f', p', a1, a2, a3, a4, a5⟩ := laidVars_at h5 (by simpa using h)
  exact ⟨g', t', cs', f', p', a1, a2, a3, a4, fun x hx => by rw [e]; simp [a5 x hx]⟩
theorem laid_box {P : Program} {w : World} {l : List (String × DataW Unit)} {i : Nat} {n : String} {d : DataW Unit} {g : Nat} {t : TypeId} (hL : laidMet P l w) (hi : l[i]? = some (n, d)) (hg : P.globalNamed n = some g) (ht : (P.globals[g]?).map (·.type) = some t) :
  ∃ cs fuel p, w.var? P n = some cs ∧ DataW.trod (fun _ => ()) P w 0 (fun _ => true) false fuel t cs.toList = some (d, p) ∧ (0 < cs.size → Bx w g cs.toList) := by
 obtain ⟨ps, h1, _, h3⟩ := hL
 obtain ⟨g', t', cs, fuel, p, a1, a2, a3, a4, a5⟩ := laidVars_at h1 hi
 obtain rfl := Option.some.inj (hg.symm.trans a1)
 obtain rfl := Option.some.inj (ht.symm.trans a2)
 refine ⟨cs, fuel, p, a3, a4, fun h0 => ?_⟩
 obtain ⟨⟨c, t', hh⟩, _⟩ := h3 g 0 (a5 _ (by unfold MemPlace.row; exact List.mem_map.2 ⟨0, List.mem_range.2 h0, rfl⟩))
 unfold World.var? at a3
 rw [hg] at a3
 simp only [Option.bind_some, hh, Option.some.injEq] at a3
 subst a3
 exact ⟨t', by rw [hh]⟩
theorem arr_vs {w : World} {S : Sp} : ∀ {ls : List Str}, (∀ x ∈ ls, Lim x) → Arr Kd.str w S ls (ls.map vs)
 | [], _ => rfl
 | x :: l, h => ⟨[vs x], l.map vs, rfl, ⟨rfl, h x (List.mem_cons_self ..)⟩, arr_vs fun y hy => h y (List.mem_cons_of_mem _ hy)⟩
theorem laid_strs {P : Program} {H : Type} {enc : TypeId × Value → H} {w : World} {t e : TypeId} {held : Bool} (ht : P.underlying t = some (.slice e)) (he : P.underlying e = some .string) (hce : P.cellsOf e = 1) {fuel : Nat} {cs : List Value} {ls : List Str} {p : List MemPlace} (hlim : ∀ x ∈ ls, Lim x)
  (h : DataW.trod enc P w 0 (fun _ => true) held fuel t cs = some (.slice (ls.map fun s => .lit (.string s)) [], p)) : ∃ A : Option Addr, cs = [.slice A ls.length ls.length] ∧ Sl Kd.str w (Fr []) (.slice A ls.length ls.length) ls := by
 rcases DataW.trod_slice ht h with ⟨_, e0⟩ | ⟨a, len, cap, elems, rest, n, _, rfl, hx, _, hl, hm, hlen, hel, hsp, _⟩
 ·simp only [Prod.mk.injEq, reduceCtorEq, false_and] at e0
 ·simp only [Prod.mk.injEq, DataW.slice.injEq] at hx
  obtain ⟨⟨hx1, hx2⟩, _⟩ := hx
  obtain ⟨hr, _⟩ := hsp rfl
  have hr0 : rest = [] := by
   cases rest with
   | nil => rfl
   | cons r rs => simp at hx2
  have hl2 : len = ls.length := by
   have := congrArg List.length hx1
   simp only [List.length_map] at this
   omega
  have hcl : cap = ls.length := by rw [hr0] at hr; simp at hr; omega
  subst hcl; subst hl2
  refine ⟨some a, rfl, some a, ls.length, ls.map vs, rfl, ⟨Nat.le_refl _, hm⟩, arr_vs hlim, fun j u hj => ⟨a, rfl, by simp [Fr], ?_⟩⟩
  have hjl : j < ls.length := by
   rcases Nat.lt_or_ge j ls.length with hq | hq
   ·exact hq
   ·rw [List.getElem?_eq_none (by simpa using hq)] at hj; cases hj
  have he' := hel j hjl
  rw [List.getElem?_eq_getElem OM, Option.bind_eq_some_iff] at he'
  obtain ⟨ci, hci, hti⟩ := he'
  obtain ⟨_, hcl, hcc⟩ := World.cells?_some hci
  obtain ⟨s, hs1, hs2, _⟩ := DataW.trod_string he hti
  have e1 : (ls.map fun s => (DataW.lit (.string s) : DataW H))[j]? = (elems.map (·.1))[j]? := by rw [hx1]
  rw [List.getElem?_map, List.getElem?_map, List.getElem?_eq_getElem hjl, List.getElem?_eq_getElem OM, hs2] at e1
  simp only [Option.map_some, Option.some.injEq, DataW.lit.injEq, Lit.string.injEq] at e1
  rw [List.getElem?_map, List.getElem?_eq_getElem hjl] at hj
  simp only [Option.map_some, Option.some.injEq] at hj
  have h0 := hcc 0 (by rw [hce]; omega)
  rw [hs1, add_add, hce, Nat.mul_one, Nat.add_zero] at h0
  rw [h0, ← hj, e1]
  simp [vs]
theorem glob_laid {W : World} {l : List (String × DataW Unit)} {i j : Nat} (hL : laidMet Tryz.prog l W)
  (hi : l[i]? = some ("loop.example/townland/impl.shapeNames", .slice (shapeNamesL.map fun s => .lit (.string s)) [])) (hj : l[j]? = some ("internal/strconv.uint64pow10", Lib.tabData .u64 Lib.pow10Tab)) : Glob W [] := by
 obtain ⟨cs, fuel, p, _, b1, c1⟩ := laid_box hL hi (g := 0) (t := 50) RK RK
 obtain ⟨A, e, hs⟩ := laid_strs Tryz.underlying50 Tryz.underlying9 RK RD b1
 obtain ⟨cs2, fuel2, p2, _, b2, c2⟩ := laid_box hL hj (g := 1) (t := 202) RK RK
 have e2 := Lib.cells_of_tab Tryz.underlying202 Tryz.underlying165 RK RK b2
 refine ⟨⟨A, ⟨?_, by simp⟩, hs⟩, ⟨?_, by simp⟩⟩
 ·have := c1 (by rw [← Array.length_toList, e]; exact Nat.one_pos)
  rw [e] at this; exact this
 ·have := c2 (by rw [← Array.length_toList, e2, List.length_map, Lib.pow10Tab_length]; decide)
  rw [e2] at this; exact this
end Go.Proofs.YtlaaehjcooonfaaGreatDoor
namespace Go.Proofs.YtlaaehjcooonfaaGreatDoor.rFnFeatPoints
open Go.ChangeShapes Go.WideShapes Go.ChangeAt Go.RowKit
open Go.ChangeMaps (open_string shut_string)
set_option linter.unusedVariables false
theorem own : ownKnob Tryz.prog.godebug = none := by kernel_rfl
theorem laidOut : laidOutB Tryz.prog = true := by kernel_rfl
theorem door_met (os : Os) (args : Array Value) : laidMetH Tryz.prog Rows.fnFeatPointsRow.laid ((World.doorLaid Tryz.prog 29 os).forCall (fun _ _ => 0) ⟨#[], args, []⟩).memory :=
  laidMetH_of_parts3 (fuel := 8) (laidMet_of_run' 8 (by kernel_rfl) (by kernel_rfl)) (by kernel_rfl) (by kernel_rfl)
set_option maxHeartbeats 4000000 in
set_option maxRecDepth 100000 in
theorem lifted (os : Os) (started : os.Started) (H : Type) (enc : TypeId × Value → H) :
    ReturnsInHanded {} Tryz.checked os 5 .any (fun w args => (Rows.fnFeatPointsSpec.pre enc Tryz.prog Tryz.f5 [] false w args ∧ laidMetH Tryz.prog Rows.fnFeatPointsRow.laid w) ∧ sizedMet enc Tryz.prog Tryz.f5 (OpenSpec.ofChange Rows.fnFeatPointsSpec) false w args) (Rows.fnFeatPointsSpec.post enc Tryz.prog Tryz.f5 false true false false) := by
  refine returnsInHanded_of_change_and (C := Tryz.checked) (X := fun w _ => laidMetH Tryz.prog Rows.fnFeatPointsRow.laid w) (fun _ _ _ hh h => h.of_heap hh) own started (by kernel_rfl) Tryz.func5
    (ChangeSpec.witness_shaped (enc := enc) (C := Tryz.checked) (os := os) (X := fun w _ => laidMetH Tryz.prog Rows.fnFeatPointsRow.laid w) false (World.doorLaid Tryz.prog 29 os) #[.slice none 0 0] 8 rfl (World.shaped_of_RefB (by kernel_rfl) (by kernel_rfl)) (by kernel_rfl) (by kernel_rfl) (by kernel_rfl) (door_met os _)) ?_
  intro W base args ds gs before hval0 hW _ hsz0 hL _
  have hG : Glob W [] := glob_laid (i := 3) (j := 2) (by rw [← MakeChecks.laidMetH_plain _ _ _ (by kernel_rfl)]; exact hL) (by kernel_rfl) (by kernel_rfl)
  have hval : ∀ (j : Nat) t v, Tryz.f5.params[j]? = some t → args[j]? = some v → Value.okWide Tryz.prog W .any base t v := hval0
  have hW' := hW
  obtain ⟨p, q, hA0, hV, rfl, hfz, hnd⟩ := hW
  have hA : DataW.TrodAll enc Tryz.prog W 0 (fun _ => true) true Tryz.f5.params.toList args.toList ds p := hA0
  rw [Tryz.params5] at hA hval
  obtain ⟨v0, vs0, d0, ds0, p0, q0, hargs, rfl, rfl, h0, r0⟩ := trodAll_cons hA
  obtain ⟨rfl, rfl, rfl⟩ := trodAll_nil r0
  obtain rfl : args = #[v0] := by cases args; simp_all
  have hV0 : DataW.TrodVars enc Tryz.prog W (fun _ => true) ["loop.example/townland/impl.shapeNames"] gs q := hV
  obtain ⟨_, _, _, _, g1, _, hgs, _⟩ := trodVars_one hV0
  subst hgs
  have k0 := h0
  have lt0 : ∀ x ∈ p0, x.block < W.heap.size := by obtain ⟨m, hm⟩ := k0; exact DataW.trod_lt m _ _ _ hm
  obtain ⟨x0, hv0, hx0⟩ : ∃ a : List UInt8, (∀ y0 ∈ a, True) ∧ (Kd.sl Kd.byte).R W (Fr []) a v0.cells.toList := by obtain ⟨fuel, hf⟩ := h0; exact (Tr.sl Tryz.underlying22 (by kernel_rfl) (Tr.byte Tryz.underlying5)) H enc W fuel _ _ hf
  obtain ⟨a0, n0, c0, rfl⟩ := okWide_slice Tryz.underlying22 (hval 0 22 v0 rfl rfl)
  have s0 : Sl Kd.byte W (Fr []) (.slice a0 n0 c0) x0 := by obtain ⟨_, e, h⟩ := hx0; simp [Value.cells] at e; subst e; exact h
  clear hA0 hval0 hsz0
  refine Calls.mono (laws_FnFeatPoints.calls W (Ok.nil W) hG x0 a0 n0 c0 s0 (fun r => r = true) (laws_FnFeatPoints.law x0 hv0)) fun e W' ⟨v, he, r, hr, hq, hg⟩ => ?_
  subst he; subst hr; subst hq
  have bel := Gr.below hg
  exact ⟨_, rfl, _, _, _, [], _, _, hW', trodAll_mk1 (shut_bool Tryz.underlying4 _), (trodAll_cons_mk (Below.trod laidOut (by kernel_rfl) (of_decide_eq_true (by kernel_rfl)) k0 bel lt0) trodAll_mk0), Below.trodVars laidOut bel (by kernel_rfl) hV0, bel.frame _, fun h => by cases h⟩
theorem over : Rows.fnFeatPointsRow.holds Tryz.pinned (OpenSpec.ofChange Rows.fnFeatPointsSpec) :=
  OpenClaim.holds_of_wide 5 Tryz.f5 rfl rfl rfl rfl rfl rfl rfl ⟨rfl, rfl, rfl, rfl, rfl⟩ rfl rfl rfl rfl rfl (by kernel_rfl) Tryz.func5 (by kernel_rfl)
    (of_decide_eq_true (by kernel_rfl)) (by unfold Func.isWrapper; first | (rw [if_pos (by decide +kernel)]; kernel_rfl) | (rw [if_neg (by decide +kernel)]; exact ⟨rfl, rfl⟩))
    (fun os started H enc _ => lifted os started H enc)
theorem card : Rows.FnFeatPointsCardSaid :=
  Claim7.holds_tied_plain_at .later [] [.data, .data, .data, .widerDeep] true (true, "e415afabf9b868df025d23cfa6c51a343106c6c6c244cd0de1bc1fd0934c8ded") false
    over (fun _ h => by cases h) (by kernel_rfl) (fun _ h => by cases h) fnFeatPoints_row_tie rfl ⟨rfl, rfl⟩ (by kernel_rfl) rfl
    (fun f fn hf hfn => by
      obtain rfl : f = 5 := Option.some.inj ((show Tryz.prog.funcNamed "loop.example/townland/laws.FnFeatPoints" = some 5 by kernel_rfl).symm.trans hf) |>.symm
      obtain rfl : fn = Tryz.f5 := (Option.some.inj (Tryz.func5.symm.trans hfn)).symm
      exact ⟨by kernel_rfl, fun j t ht => by
        rw [Tryz.params5] at ht
        have hm : t ∈ [22] := by simpa using Array.mem_of_getElem? ht
        have hall : ([22].all fun u => !Tryz.prog.wantsStandIn u) = true := by kernel_rfl
        exact (show Tryz.prog.wantsStandIn t = false by simpa using List.all_eq_true.1 hall t hm)⟩)
    (by kernel_rfl)
theorem proved : Rows.FnFeatPointsCardSaid := card
#print axioms proved
end Go.Proofs.YtlaaehjcooonfaaGreatDoor.rFnFeatPoints
namespace Go.Proofs.YtlaaehjcooonfaaGreatDoor
theorem fnFeatPoints_holds : Rows.FnFeatPointsCardSaid := rFnFeatPoints.proved
end Go.Proofs.YtlaaehjcooonfaaGreatDoor