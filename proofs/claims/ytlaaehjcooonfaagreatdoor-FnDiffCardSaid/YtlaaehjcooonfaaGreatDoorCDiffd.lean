/- It is proved here that the law FnDiff of the given program holds whatever it is handed: the walks through the code, the plain laws and the row, in this order.
   Conditions: none. -/
import Derived.Below
import Derived.ChangeArms
import Derived.ChangeOld
import Derived.ChangeSlices
import Derived.ChangeVars
import Derived.DataReads
import Derived.Deep.MidRow
import Derived.Deep.Quiet
import Derived.Deep.RegionLaw
import Derived.Deep.Upon
import Derived.KernelRfl
import Derived.LaidHandle
import Derived.LaidLaws
import Derived.LaidMore
import Derived.Laws.Build
import Derived.Laws.IdiomStrings
import Derived.Laws.OwnMore
import Derived.Laws.Slices
import Derived.Laws.Strings2
import Derived.Laws.StructEq
import Derived.Lib.ItoaNum
import Derived.Lib.LaidTab
import Derived.Lib.SliceRun
import Derived.MakeChecks
import Derived.OpenShut
import Derived.OpenVars
import Derived.ProofKit
import Derived.SevenTiedAt
import Derived.Shelf.LaysM
import Derived.Shelf.SlSortCmp.NoneTotal
import Derived.Shelf.SlSortCmp.WholeK
import Derived.Shelf.Slices.Cells
import Derived.Shelf.Slices.CompactS
import Derived.Shelf.Slices.In.SortNone
import Derived.Shelf.Small.Bits
import Derived.Shelf.Sort.Plain
import Derived.Shelf.Strconv.Itoa0
import Derived.Shelf.Strconv.Itoa1
import Derived.Shelf.Strconv.Itoa2
import Derived.Shelf.Strconv.Itoa3
import Derived.ShutString
import Derived.SizedLaws
import Derived.StillTail
import Derived.Stop.Joined
import Derived.Test.YtlaaehjcooonfaaGreatDoorCards
import Derived.Test.YtlaaehjcooonfaaGreatDoorProg
import Derived.Test.YtlaaehjcooonfaaGreatDoorRows
import Derived.Test.YtlaaehjcooonfaaGreatDoorTie
import Derived.WalkKit
import Derived.Test.YtlaaehjcooonfaaGreatDoorCDiffa
import Derived.Test.YtlaaehjcooonfaaGreatDoorCDiffb
import Derived.Test.YtlaaehjcooonfaaGreatDoorCDiffc
namespace Go.Proofs.YtlaaehjcooonfaaGreatDoor
set_option linter.unusedVariables false
set_option linter.unusedSimpArgs false
set_option linter.unusedSectionVars false
set_option maxHeartbeats 8000000
set_option maxRecDepth 100000
open Go.RowKit
variable {O : Ob} {w0 : World}
def laws_FnDiff.E (code : List UInt8) (Q : Bool → Prop) : Prop :=
 (if decide ((code.length : Int) > 1048576) then Q true else F29.E code (fun r r2 => F109.E r r2 (fun r3 => F50.E r3 (fun r4 => F110.E r r2 (fun r5 => F53.E r5 (fun r6 => (if r4 != r6 then Q false else F72.E r (fun r7 => (if !r7 then Q ((r3.length : Int) == 0) else F72.E r2 (fun r8 => (if !r8 then Q ((r3.length : Int) == 0) else F116.E r r3 (fun r9 r10 => F48.E r3 (fun r11 => F116.E r2 r11 (fun r12 r13 => F101.E r3 (fun r14 => (if r14 then (if r10 then F44.E r9 r2 (fun r15 => (if r15 then (if r13 then F44.E r12 r (fun r16 => (if r16 then F44.E r r2 (fun r17 => (if ((r3.length : Int) == 0) == r17 then F109.E r2 r (fun r18 => Q ((r18.length : Int) == (r3.length : Int))) else Q false)) else Q false)) else Q false) else Q false)) else Q false) else Q false))))))))))))))))
theorem laws_FnDiff.calls {O : Ob} (w0 : World) (hO : Ok w0 O) (hG : Glob w0 O) (code : List UInt8) (A1 : Option Addr) (n2 c3 : Nat) (hp4 : Sl Kd.byte w0 (Fr O) (G A1 n2 c3) code) (Q : Bool → Prop) (h : laws_FnDiff.E code Q) :
  Ret Tryz.prog 8 [G A1 n2 c3] w0 (fun v w' => ∃ (r0 : Bool), v = vb r0 ∧ Q r0 ∧ Gr w0 w' none) := by
 unfold laws_FnDiff.E at h;have H := h;clear h;have hc0 := Ct.init hO;refine X9 Tryz.func8 Z 88 Z [.tmp 2] Z Z ?_;refine Xc (Xd (Xf (vb false) Z (Xb (Xc (Xc (Xd (Xe (G A1 n2 c3) Z ?_)))))));have hl6 := hp4.le;refine Xa (Ya u22_ A1 n2 c3 hp4.len Z) (Xa (X1 (code.length : Int) 1048576 (decide ((code.length : Int) > 1048576)) Z Z Z) (Xb ?_));refine Xy (decide ((code.length : Int) > 1048576)) Z (fun hq7 => ?_) (fun hq7 => ?_)
 ·have H := Xn H hq7;exact Xc (Xd (Xf (vb true) Z (Xb (Xl ⟨[vb true], ⟨_, Z, Z⟩, true, Z, H, hc0.gr.g0⟩))))
 have H := Xo H hq7;refine Xx (Xc (Xd (Xe (G A1 n2 c3) Z ?_)));refine Xs go19 (F29.calls H hc0.ok hp4) Z ?_;rintro _ w8 ⟨r, r2, ah, ai, aj, ak, al, am, rfl, H, g9, cq, cr⟩;have cc := hc0.k0 g9;refine Xe (.tuple #[G ah ai aj, G ak al am]) Z (Xa (Y5 [G ah ai aj, G ak al am] 0 (G ah ai aj) Z Z) (Xa (Y5 [G ah ai aj, G ak al am] 1 (G ak al am) Z Z) (Xf (G ah ai aj) Z (Xf (G ak al am) Z (Xb (Xc (Xd (Xe (G ah ai aj) Z ?_))))))));refine Xe (G ak al am) Z ?_;refine Xs go20 (F109.calls H cc.ok cq cr) Z ?_;rintro _ cs ⟨r3, aa, an, ao, ab, g1, rfl, H, ct, dt, cu, bn, bo⟩;have bg := cc.owns ct dt cu;have a7 : (((bk aa :: (ab ++ [])) ++ []) : Ob).Perm (bk aa :: (ab ++ [])) := RP;have cd := bg.perm a7;refine Xf (G aa an ao) Z (Xb (Xc (Xc (Xd (Xe (G aa an ao) Z ?_)))));have du := (bg.spa bn a7);have dv := bo;have dw : ((bk aa :: (ab ++ [])) : Ob).Perm (bk aa :: (ab ++ [])) := RP;obtain ⟨dx, cv, g2⟩ := Dp.gv (L := (bk aa :: (ab ++ []))) (O := O) (v := G aa an ao) du dv cd dw;refine Xs go12 (F50.calls H cv.ok (hG.st cv.st) dx) Z ?_;rintro _ dy ⟨r4, rfl, H, aw, g3⟩;have ce := cd.k0 aw;refine Xe (G ah ai aj) Z (Xe (G ak al am) Z ?_);have cw := cc.stos ct cu;have cx := St.spa (w := cs) (A := (bk aa :: (ab ++ []))) (L := []) (O := O) a7;have cy := cd.stn aw;have cz := (((cq.st cw).st cx).st cy);have c0 := (((cr.st cw).st cx).st cy);refine Xs go21 (F110.calls H ce.ok cz c0) Z ?_;rintro _ dz ⟨r5, ac, c1, c2, rfl, H, ax, d0, bh, d1⟩;have b3 := ce.owns ax d0 bh;have d2 := b3.gv d1 0 Z;have d3 := b3.drop 0 Z;refine Xs go13 (F53.calls H d3.ok d2) Z ?_;rintro _ d4 ⟨r6, rfl, H, ay, g4⟩;have b4 := b3.k0 ay;refine Xa (Yo r4 r6 (r4 != r6) Z Z Z) (Xb ?_);refine Xy (r4 != r6) Z (fun cf => ?_) (fun cf => ?_)
 ·have H := Xn H cf;refine Xc (Xd (Xf (vb false) Z (Xb (Xl ?_))));have d5 := b4.clear;exact ⟨[vb false], ⟨_, Z, Z⟩, false, Z, H, d5.gr.g0⟩
 have H := Xo H cf;refine Xx (Xc (Xc (Xd (Xe (G ah ai aj) Z ?_))));have c4 := ce.stos ax bh;have c5 := b3.stn ay;have b5 := ((cz.st c4).st c5);refine Xs go22 (F72.calls H b4.ok b5) Z ?_;rintro _ d6 ⟨r7, rfl, H, az⟩;have bi := b4.k0 az;refine Xa (X7 r7 Z) (Xe (vb (!r7)) Z ?_);rcases X4 (!r7) with a2 | a2
 ·have H := Xn H a2;refine Xi a2 Z (Xi a2 Z (Xi a2 Z (Xa (Xk true (vb true) a2 Z) (Xb (Yu (b := true) Z Z ?_)))));refine Xc (Xd (Xe (G aa an ao) Z ?_));have c6 := (((((bg.spa bn a7).sn aw).sos ax bh).sn ay).sn az);have c7 := ((((bo.k0 aw).k0 ax).k0 ay).k0 az);have g5 := (Dp.le c6 c7);refine Xa (Ya u23_ aa an ao (Dp.len c6 c7) Z) (Xa (X1 (r3.length : Int) 0 ((r3.length : Int) == 0) Z Z Z) (Xf (vb ((r3.length : Int) == 0)) Z (Xb (Xl ?_))));have d7 := bi.clear;exact ⟨[vb ((r3.length : Int) == 0)], ⟨_, Z, Z⟩, (r3.length : Int) == 0, Z, H, d7.gr.g0⟩
 have H := Xo H a2;refine Xh a2 Z (Xe (G ak al am) Z (Xh a2 Z ?_));have b6 := b4.stn az;have b7 := (((c0.st c4).st c5).st b6);refine Xs go22 (F72.calls H bi.ok b7) Z ?_;rintro _ d8 ⟨r8, rfl, H, au⟩;have bj := bi.k0 au;refine Xh a2 Z (Xa (X7 r8 Z) (Xa (Xk false (vb (!r8)) a2 Z) (Xb ?_)));refine Xy (!r8) Z (fun cg => ?_) (fun cg => ?_)
 ·have H := Xn H cg;refine Xc (Xd (Xe (G aa an ao) Z ?_));have c8 := ((((((bg.spa bn a7).sn aw).sos ax bh).sn ay).sn az).sn au);have c9 := (((((bo.k0 aw).k0 ax).k0 ay).k0 az).k0 au);have g6 := (Dp.le c8 c9);refine Xa (Ya u23_ aa an ao (Dp.len c8 c9) Z) (Xa (X1 (r3.length : Int) 0 ((r3.length : Int) == 0) Z Z Z) (Xf (vb ((r3.length : Int) == 0)) Z (Xb (Xl ?_))));have d9 := bj.clear;exact ⟨[vb ((r3.length : Int) == 0)], ⟨_, Z, Z⟩, (r3.length : Int) == 0, Z, H, d9.gr.g0⟩
 have H := Xo H cg;refine Xx (Xc (Xd (Xe (G ah ai aj) Z (Xe (G aa an ao) Z ?_))));have ea := ((((((bg.spa bn a7).sn aw).sos ax bh).sn ay).sn az).sn au);have eb := (((((bo.k0 aw).k0 ax).k0 ay).k0 az).k0 au);have ec : ((bk ac :: bk aa :: (ab ++ [])) : Ob).Perm (bk aa :: (ab ++ [bk ac])) := RP;obtain ⟨ed, ee, ef⟩ := Dp.gv (L := (bk ac :: bk aa :: (ab ++ []))) (O := O) (v := G aa an ao) ea eb bj ec;have eg := bi.stn au;have eh := (((b5.st b6).st eg).st ef);refine Xs go34 (F116.calls H ee.ok eh ed) Z ?_;rintro _ bv ⟨r9, r10, ad, a8, a9, ae, g7, rfl, H, a0, ei, ba, ej, ek⟩;have el := Ok.unl (L := (bk ac :: bk aa :: (ab ++ []))) (L' := [bk ac]) (O := O) bj a0 ei ba;have em := Ow.unl (L := (bk ac :: bk aa :: (ab ++ []))) (L' := [bk ac]) (O := O) (fun _ _ _ _ _ _ h => h) (.cons_cons _ (.cons _ ((List.sublist_append_of_sublist_right (.refl _))))) ej;have bw := bj.owns a0 el ba;have bb : (((bk ad :: (ae ++ [])) ++ (bk ac :: bk aa :: (ab ++ []))) : Ob).Perm (bk ad :: bk ac :: bk aa :: (ae ++ (ab ++ []))) := RP;have bp := bw.perm bb;refine Xe (.tuple #[G ad a8 a9, vb r10]) Z (Xa (Y5 [G ad a8 a9, vb r10] 0 (G ad a8 a9) Z Z) (Xa (Y5 [G ad a8 a9, vb r10] 1 (vb r10) Z Z) (Xf (G ad a8 a9) Z (Xf (vb r10) Z (Xb (Xc (Xd (Xe (G ak al am) Z ?_))))))));refine Xe (G aa an ao) Z ?_;have en := (bw.spa (((((((bg.spa bn a7).sn aw).sos ax bh).sn ay).sn az).sn au).sos a0 ba) bb);have eo := ((((((bo.k0 aw).k0 ax).k0 ay).k0 az).k0 au).k0 a0);have ep : ((bk ad :: bk ac :: bk aa :: (ae ++ (ab ++ []))) : Ob).Perm (bk aa :: (ab ++ (bk ad :: bk ac :: (ae ++ [])))) := RP;obtain ⟨eq, er, g8⟩ := Dp.gv (L := (bk ad :: bk ac :: bk aa :: (ae ++ (ab ++ [])))) (O := O) (v := G aa an ao) en eo bp ep;refine Xs go11 (F48.calls H er.ok eq) Z ?_;rintro _ bx ⟨r11, af, ch, ci, ag, ha, rfl, H, a1, es, bc, et, eu⟩;have ev := Ok.unl (L := (bk ad :: bk ac :: bk aa :: (ae ++ (ab ++ [])))) (L' := (bk ad :: bk ac :: (ae ++ []))) (O := O) bp a1 es bc;have ew := Ow.unl (L := (bk ad :: bk ac :: bk aa :: (ae ++ (ab ++ [])))) (L' := (bk ad :: bk ac :: (ae ++ []))) (O := O) (fun _ _ _ _ _ _ h => h) (.cons_cons _ (.cons_cons _ (.cons _ (.append (.refl _) (List.sublist_append_of_sublist_right (.refl _)))))) et;have bz := bp.owns a1 ev bc;have bd : (((bk af :: (ag ++ [])) ++ (bk ad :: bk ac :: bk aa :: (ae ++ (ab ++ [])))) : Ob).Perm (bk af :: bk ad :: bk ac :: bk aa :: (ag ++ (ae ++ (ab ++ [])))) := RP;have bt := bz.perm bd;have ex := (bz.spa ew bd);have ey := eu;have ez : ((bk af :: bk ad :: bk ac :: bk aa :: (ag ++ (ae ++ (ab ++ [])))) : Ob).Perm (bk af :: (ag ++ (bk ad :: bk ac :: bk aa :: (ae ++ (ab ++ []))))) := RP;obtain ⟨e0, e1, e2⟩ := Dp.gv (L := (bk af :: bk ad :: bk ac :: bk aa :: (ag ++ (ae ++ (ab ++ []))))) (O := O) (v := G af ch ci) ex ey bt ez;have e3 := bi.stn au;have e4 := bj.stos a0 ba;have e5 := St.spa (w := bv) (A := (bk ad :: (ae ++ []))) (L := (bk ac :: bk aa :: (ab ++ []))) (O := O) bb;have e6 := bp.stos a1 bc;have e7 := St.spa (w := bx) (A := (bk af :: (ag ++ []))) (L := (bk ad :: bk ac :: bk aa :: (ae ++ (ab ++ [])))) (O := O) bd;have e8 := ((((((b7.st e3).st e4).st e5).st e6).st e7).st e2);refine Xs go34 (F116.calls H e1.ok e8 e0) Z ?_;rintro _ b8 ⟨r12, r13, ap, be, bf, av, hb, rfl, H, a3, e9, bl, fa, fb⟩;have fc := Ok.unl (L := (bk af :: bk ad :: bk ac :: bk aa :: (ag ++ (ae ++ (ab ++ []))))) (L' := (bk ad :: bk ac :: bk aa :: (ae ++ (ab ++ [])))) (O := O) bt a3 e9 bl;have fd := Ow.unl (L := (bk af :: bk ad :: bk ac :: bk aa :: (ag ++ (ae ++ (ab ++ []))))) (L' := (bk ad :: bk ac :: bk aa :: (ae ++ (ab ++ [])))) (O := O) (fun _ _ _ _ _ _ h => h) (.cons _ (.cons_cons _ (.cons_cons _ (.cons_cons _ (List.sublist_append_of_sublist_right (.append (.refl _) (.append (.refl _) (.refl _)))))))) fa;have b0 := bt.owns a3 fc bl;have bm : (((bk ap :: (av ++ [])) ++ (bk af :: bk ad :: bk ac :: bk aa :: (ag ++ (ae ++ (ab ++ []))))) : Ob).Perm (bk ap :: bk af :: bk ad :: bk ac :: bk aa :: (av ++ (ag ++ (ae ++ (ab ++ []))))) := RP;have b1 := b0.perm bm;refine Xe (.tuple #[G ap be bf, vb r13]) Z (Xa (Y5 [G ap be bf, vb r13] 0 (G ap be bf) Z Z) (Xa (Y5 [G ap be bf, vb r13] 1 (vb r13) Z Z) (Xf (G ap be bf) Z (Xf (vb r13) Z (Xb (Xc (Xd (Xe (G aa an ao) Z ?_))))))));have fe := (b0.spa ((bz.spa ((bw.spa (((((((bg.spa bn a7).sn aw).sos ax bh).sn ay).sn az).sn au).sos a0 ba) bb).sos a1 bc) bd).sos a3 bl) bm);have ff := ((((((((bo.k0 aw).k0 ax).k0 ay).k0 az).k0 au).k0 a0).k0 a1).k0 a3);have fg : ((bk ap :: bk af :: bk ad :: bk ac :: bk aa :: (av ++ (ag ++ (ae ++ (ab ++ []))))) : Ob).Perm (bk aa :: (ab ++ (bk ap :: bk af :: bk ad :: bk ac :: (av ++ (ag ++ (ae ++ [])))))) := RP;obtain ⟨fh, fi, hc⟩ := Dp.gv (L := (bk ap :: bk af :: bk ad :: bk ac :: bk aa :: (av ++ (ag ++ (ae ++ (ab ++ [])))))) (O := O) (v := G aa an ao) fe ff b1 fg;refine Xs go17 (F101.calls H fi.ok fh) Z ?_;rintro _ fj ⟨r14, rfl, H, a6⟩;have bu := b1.k0 a6;refine Xe (vb r14) Z ?_;rcases X4 r14 with bq | bq
 ·have H := Xn H bq;refine Xh bq Z (Xe (vb r10) Z (Xa (Xk true (vb r10) bq Z) (Xe (vb r10) Z ?_)));rcases X4 r10 with a4 | a4
  ·have H := Xn H a4;refine Xh a4 Z (Xe (G ad a8 a9) Z (Xh a4 Z (Xe (G ak al am) Z (Xh a4 Z ?_))));have fk := ((b0.spa ((bz.spa ((bw.spa em bb).sos a1 bc) bd).sos a3 bl) bm).sn a6);have fl := (((ek.k0 a1).k0 a3).k0 a6);have fm : ((bk ap :: bk af :: bk ad :: bk ac :: bk aa :: (av ++ (ag ++ (ae ++ (ab ++ []))))) : Ob).Perm (bk ad :: (ae ++ (bk ap :: bk af :: bk ac :: bk aa :: (av ++ (ag ++ (ab ++ [])))))) := RP;obtain ⟨fn, fo, fp⟩ := Dp.gv (L := (bk ap :: bk af :: bk ad :: bk ac :: bk aa :: (av ++ (ag ++ (ae ++ (ab ++ [])))))) (O := O) (v := G ad a8 a9) fk fl bu fm;have fq := bi.stn au;have fr := bj.stos a0 ba;have fs := St.spa (w := bv) (A := (bk ad :: (ae ++ []))) (L := (bk ac :: bk aa :: (ab ++ []))) (O := O) bb;have ft := bp.stos a1 bc;have fu := St.spa (w := bx) (A := (bk af :: (ag ++ []))) (L := (bk ad :: bk ac :: bk aa :: (ae ++ (ab ++ [])))) (O := O) bd;have fv := bt.stos a3 bl;have fw := St.spa (w := b8) (A := (bk ap :: (av ++ []))) (L := (bk af :: bk ad :: bk ac :: bk aa :: (ag ++ (ae ++ (ab ++ []))))) (O := O) bm;have fx := b1.stn a6;have fy := (((((((((b7.st fq).st fr).st fs).st ft).st fu).st fv).st fw).st fx).st fp);refine Xs go36 (F44.calls H fo.ok fn fy) Z ?_;rintro _ fz ⟨r15, rfl, H, br⟩;have b2 := bu.k0 br;refine Xa (Xk true (vb r15) a4 Z) (Xe (vb r15) Z ?_);rcases X4 r15 with bs | bs
   ·have H := Xn H bs;refine Xh bs Z (Xe (vb r13) Z (Xa (Xk true (vb r13) bs Z) (Xe (vb r13) Z ?_)));rcases X4 r13 with a5 | a5
    ·have H := Xn H a5;refine Xh a5 Z (Xe (G ap be bf) Z (Xh a5 Z (Xe (G ah ai aj) Z (Xh a5 Z ?_))));have f0 := (((b0.spa fd bm).sn a6).sn br);have f1 := ((fb.k0 a6).k0 br);have f2 : ((bk ap :: bk af :: bk ad :: bk ac :: bk aa :: (av ++ (ag ++ (ae ++ (ab ++ []))))) : Ob).Perm (bk ap :: (av ++ (bk af :: bk ad :: bk ac :: bk aa :: (ag ++ (ae ++ (ab ++ [])))))) := RP;obtain ⟨f3, f4, f5⟩ := Dp.gv (L := (bk ap :: bk af :: bk ad :: bk ac :: bk aa :: (av ++ (ag ++ (ae ++ (ab ++ [])))))) (O := O) (v := G ap be bf) f0 f1 b2 f2;have f6 := bi.stn au;have f7 := bj.stos a0 ba;have f8 := St.spa (w := bv) (A := (bk ad :: (ae ++ []))) (L := (bk ac :: bk aa :: (ab ++ []))) (O := O) bb;have f9 := bp.stos a1 bc;have ga := St.spa (w := bx) (A := (bk af :: (ag ++ []))) (L := (bk ad :: bk ac :: bk aa :: (ae ++ (ab ++ [])))) (O := O) bd;have gb := bt.stos a3 bl;have gc := St.spa (w := b8) (A := (bk ap :: (av ++ []))) (L := (bk af :: bk ad :: bk ac :: bk aa :: (ag ++ (ae ++ (ab ++ []))))) (O := O) bm;have gd := b1.stn a6;have ge := bu.stn br;have gf := (((((((((((b5.st b6).st f6).st f7).st f8).st f9).st ga).st gb).st gc).st gd).st ge).st f5);refine Xs go36 (F44.calls H f4.ok f3 gf) Z ?_;rintro _ gg ⟨r16, rfl, H, b9⟩;have ca := b2.k0 b9;refine Xa (Xk true (vb r16) a5 Z) (Xe (vb r16) Z ?_);rcases X4 r16 with aq | aq
     ·have H := Xn H aq;refine Xh aq Z (Xe (G aa an ao) Z (Xh aq Z ?_));have cj := ((((b0.spa ((bz.spa ((bw.spa (((((((bg.spa bn a7).sn aw).sos ax bh).sn ay).sn az).sn au).sos a0 ba) bb).sos a1 bc) bd).sos a3 bl) bm).sn a6).sn br).sn b9);have ck := (((((((((((bo.k0 aw).k0 ax).k0 ay).k0 az).k0 au).k0 a0).k0 a1).k0 a3).k0 a6).k0 br).k0 b9);have hd := (Dp.le cj ck);refine Xa (Ya u23_ aa an ao (Dp.len cj ck) Z) (Xh aq Z (Xa (X1 (r3.length : Int) 0 ((r3.length : Int) == 0) Z Z Z) (Xh aq Z (Xe (G ah ai aj) Z (Xh aq Z (Xe (G ak al am) Z (Xh aq Z ?_)))))));have da := bi.stn au;have db := bj.stos a0 ba;have dc := St.spa (w := bv) (A := (bk ad :: (ae ++ []))) (L := (bk ac :: bk aa :: (ab ++ []))) (O := O) bb;have dd := bp.stos a1 bc;have de := St.spa (w := bx) (A := (bk af :: (ag ++ []))) (L := (bk ad :: bk ac :: bk aa :: (ae ++ (ab ++ [])))) (O := O) bd;have df := bt.stos a3 bl;have dg := St.spa (w := b8) (A := (bk ap :: (av ++ []))) (L := (bk af :: bk ad :: bk ac :: bk aa :: (ag ++ (ae ++ (ab ++ []))))) (O := O) bm;have dh := b1.stn a6;have di := bu.stn br;have dk := b2.stn b9;have dl := (((((((((((b5.st b6).st da).st db).st dc).st dd).st de).st df).st dg).st dh).st di).st dk);have dm := ((((((((((b7.st da).st db).st dc).st dd).st de).st df).st dg).st dh).st di).st dk);refine Xs go36 (F44.calls H ca.ok dl dm) Z ?_;rintro _ gh ⟨r17, rfl, H, cb⟩;have cl := ca.k0 cb;refine Xh aq Z (Xa (Zp u4_ ((r3.length : Int) == 0) r17 (((r3.length : Int) == 0) == r17) Z Z Z) (Xa (Yt true (vb (((r3.length : Int) == 0) == r17)) (by exact congrArg Value.bool aq) Z) (Xe (vb (((r3.length : Int) == 0) == r17)) Z ?_)));rcases X4 (((r3.length : Int) == 0) == r17) with ar | ar
      ·have H := Xn H ar;refine Xh ar Z (Xe (G ak al am) Z (Xh ar Z (Xe (G ah ai aj) Z (Xh ar Z ?_))));have dn := ca.stn cb;refine Xs go20 (F109.calls H cl.ok (dm.st dn) (dl.st dn)) Z ?_;rintro _ he ⟨r18, cm, gi, gj, dp, hf, rfl, H, cn, gk, dq, gl, gm⟩;have co := cl.owns cn gk dq;have cp : (((bk cm :: (dp ++ [])) ++ (bk ap :: bk af :: bk ad :: bk ac :: bk aa :: (av ++ (ag ++ (ae ++ (ab ++ [])))))) : Ob).Perm (bk cm :: bk ap :: bk af :: bk ad :: bk ac :: bk aa :: (dp ++ (av ++ (ag ++ (ae ++ (ab ++ [])))))) := RP;have gn := co.perm cp;refine Xh ar Z ?_;have dr := (co.spa gl cp);have ds := gm;have hg := (Dp.le dr ds);refine Xa (Ya u23_ cm gi gj (Dp.len dr ds) Z) (Xh ar Z (Xe (G aa an ao) Z (Xh ar Z ?_)));have gp := (co.spa ((cj.sn cb).sos cn dq) cp);have gq := ((ck.k0 cb).k0 cn);refine Xa (Ya u23_ aa an ao (Dp.len gp gq) Z) (Xh ar Z (Xa (X1 (r18.length : Int) (r3.length : Int) ((r18.length : Int) == (r3.length : Int)) Z Z Z) (Xa (Xk true (vb ((r18.length : Int) == (r3.length : Int))) ar Z) (Xf (vb ((r18.length : Int) == (r3.length : Int))) Z (Xb (Xl ?_))))));have gs := gn.clear;exact ⟨[vb ((r18.length : Int) == (r3.length : Int))], ⟨_, Z, Z⟩, (r18.length : Int) == (r3.length : Int), Z, H, gs.gr.g0⟩
      have H := Xo H ar;refine Xi ar Z (Xi ar Z (Xi ar Z (Xi ar Z (Xi ar Z (Xi ar Z (Xi ar Z (Xa (Xk false (vb false) ar Z) (Xf (vb false) Z ?_))))))));refine Xb (Xl ?_);have gt := cl.clear;exact ⟨[vb false], ⟨_, Z, Z⟩, false, Z, H, gt.gr.g0⟩
     have H := Xo H aq;refine Xi aq Z (Xi aq Z (Xi aq Z (Xi aq Z (Xi aq Z (Xi aq Z (Xi aq Z (Xa (Xk false (vb false) aq Z) (Xe (vb false) Z ?_))))))));refine Xt (dj := 79) Z Z (.inl Z) (Xt (dj := 79) Z Z (.inl Z) (Xt (dj := 79) Z Z (.inl Z) (Xt (dj := 79) Z Z (.inl Z) (Xt (dj := 79) Z Z (.inl Z) (Xt (dj := 79) Z Z (.inl Z) (Xt (dj := 79) Z Z (.inl Z) (Xa (Xk false (vb false) Z Z) (Xf (vb false) Z ?_))))))));refine Xb (Xl ?_);have gu := ca.clear;exact ⟨[vb false], ⟨_, Z, Z⟩, false, Z, H, gu.gr.g0⟩
    have H := Xo H a5;refine Xi a5 Z (Xi a5 Z (Xi a5 Z (Xa (Xk false (vb false) a5 Z) (Xe (vb false) Z (Xt (dj := 70) Z Z (.inl Z) (Xt (dj := 70) Z Z (.inl Z) (Xt (dj := 70) Z Z (.inl Z) (Xt (dj := 70) Z Z (.inl Z) ?_))))))));refine Xt (dj := 70) Z Z (.inl Z) (Xt (dj := 70) Z Z (.inl Z) (Xt (dj := 70) Z Z (.inl Z) (Xa (Xk false (vb false) Z Z) (Xe (vb false) Z (Xt (dj := 79) Z Z (.inl Z) (Xt (dj := 79) Z Z (.inl Z) (Xt (dj := 79) Z Z (.inl Z) (Xt (dj := 79) Z Z (.inl Z) ?_))))))));refine Xt (dj := 79) Z Z (.inl Z) (Xt (dj := 79) Z Z (.inl Z) (Xt (dj := 79) Z Z (.inl Z) (Xa (Xk false (vb false) Z Z) (Xf (vb false) Z (Xb (Xl ?_))))));have gw := b2.clear;exact ⟨[vb false], ⟨_, Z, Z⟩, false, Z, H, gw.gr.g0⟩
   have H := Xo H bs;refine Xi bs Z (Xa (Xk false (vb false) bs Z) (Xe (vb false) Z (Xt (dj := 65) Z Z (.inl Z) (Xt (dj := 65) Z Z (.inl Z) (Xt (dj := 65) Z Z (.inl Z) (Xa (Xk false (vb false) Z Z) (Xe (vb false) Z (Xt (dj := 70) Z Z (.inl Z) ?_))))))));refine Xt (dj := 70) Z Z (.inl Z) (Xt (dj := 70) Z Z (.inl Z) (Xt (dj := 70) Z Z (.inl Z) (Xt (dj := 70) Z Z (.inl Z) (Xt (dj := 70) Z Z (.inl Z) (Xt (dj := 70) Z Z (.inl Z) (Xa (Xk false (vb false) Z Z) (Xe (vb false) Z (Xt (dj := 79) Z Z (.inl Z) ?_))))))));refine Xt (dj := 79) Z Z (.inl Z) (Xt (dj := 79) Z Z (.inl Z) (Xt (dj := 79) Z Z (.inl Z) (Xt (dj := 79) Z Z (.inl Z) (Xt (dj := 79) Z Z (.inl Z) (Xt (dj := 79) Z Z (.inl Z) (Xa (Xk false (vb false) Z Z) (Xf (vb false) Z (Xb ?_))))))));refine Xl ?_;have gx := b2.clear;exact ⟨[vb false], ⟨_, Z, Z⟩, false, Z, H, gx.gr.g0⟩
  have H := Xo H a4;refine Xi a4 Z (Xi a4 Z (Xi a4 Z (Xa (Xk false (vb false) a4 Z) (Xe (vb false) Z (Xt (dj := 62) Z Z (.inl Z) (Xa (Xk false (vb false) Z Z) (Xe (vb false) Z (Xt (dj := 65) Z Z (.inl Z) ?_))))))));refine Xt (dj := 65) Z Z (.inl Z) (Xt (dj := 65) Z Z (.inl Z) (Xa (Xk false (vb false) Z Z) (Xe (vb false) Z (Xt (dj := 70) Z Z (.inl Z) (Xt (dj := 70) Z Z (.inl Z) (Xt (dj := 70) Z Z (.inl Z) (Xt (dj := 70) Z Z (.inl Z) (Xt (dj := 70) Z Z (.inl Z) ?_))))))));refine Xt (dj := 70) Z Z (.inl Z) (Xt (dj := 70) Z Z (.inl Z) (Xa (Xk false (vb false) Z Z) (Xe (vb false) Z (Xt (dj := 79) Z Z (.inl Z) (Xt (dj := 79) Z Z (.inl Z) (Xt (dj := 79) Z Z (.inl Z) (Xt (dj := 79) Z Z (.inl Z) (Xt (dj := 79) Z Z (.inl Z) ?_))))))));refine Xt (dj := 79) Z Z (.inl Z) (Xt (dj := 79) Z Z (.inl Z) (Xa (Xk false (vb false) Z Z) (Xf (vb false) Z (Xb (Xl ?_)))));have gy := bu.clear;exact ⟨[vb false], ⟨_, Z, Z⟩, false, Z, H, gy.gr.g0⟩
 have H := Xo H bq;refine Xi bq Z (Xa (Xk false (vb false) bq Z) (Xe (vb false) Z (Xt (dj := 57) Z Z (.inl Z) (Xt (dj := 57) Z Z (.inl Z) (Xt (dj := 57) Z Z (.inl Z) (Xa (Xk false (vb false) Z Z) (Xe (vb false) Z (Xt (dj := 62) Z Z (.inl Z) ?_))))))));refine Xa (Xk false (vb false) Z Z) (Xe (vb false) Z (Xt (dj := 65) Z Z (.inl Z) (Xt (dj := 65) Z Z (.inl Z) (Xt (dj := 65) Z Z (.inl Z) (Xa (Xk false (vb false) Z Z) (Xe (vb false) Z (Xt (dj := 70) Z Z (.inl Z) (Xt (dj := 70) Z Z (.inl Z) ?_))))))));refine Xt (dj := 70) Z Z (.inl Z) (Xt (dj := 70) Z Z (.inl Z) (Xt (dj := 70) Z Z (.inl Z) (Xt (dj := 70) Z Z (.inl Z) (Xt (dj := 70) Z Z (.inl Z) (Xa (Xk false (vb false) Z Z) (Xe (vb false) Z (Xt (dj := 79) Z Z (.inl Z) (Xt (dj := 79) Z Z (.inl Z) ?_))))))));refine Xt (dj := 79) Z Z (.inl Z) (Xt (dj := 79) Z Z (.inl Z) (Xt (dj := 79) Z Z (.inl Z) (Xt (dj := 79) Z Z (.inl Z) (Xt (dj := 79) Z Z (.inl Z) (Xa (Xk false (vb false) Z Z) (Xf (vb false) Z (Xb (Xl ?_))))))));have gz := bu.clear;exact ⟨[vb false], ⟨_, Z, Z⟩, false, Z, H, gz.gr.g0⟩
section
section
variable {α : Type} [DecidableEq α]
def lcsR (x : α) (p : List α → Nat) : List α → Nat
 | [] => 0
 | y :: b => if x = y then p b + 1 else max (p (y :: b)) (lcsR x p b)
def lcs : List α → List α → Nat
 | [] => fun _ => 0
 | x :: a => lcsR x (lcs a)
@[simp] theorem lcs_nil (b : List α) : lcs [] b = 0 := rfl
@[simp] theorem lcs_nil2 (a : List α) : lcs a [] = 0 := by cases a <;> rfl
theorem pp {a b c d : Nat} (h : a = c) (k : b = d) : (a, b) = (c, d) := by rw [h, k]
def pairs (i j : Nat) : List α → List α → List (Nat × Nat)
 | x :: a, y :: b => if x = y then (i, j) :: pairs (i + 1) (j + 1) a b else if lcs (x :: a) b ≤ lcs a (y :: b) then pairs (i + 1) j a (y :: b) else pairs i (j + 1) (x :: a) b
 | [], _ => []
 | _ :: _, [] => []
 termination_by a b => a.length + b.length
theorem pairs_nil (i j : Nat) (b : List α) : pairs i j [] b = [] := by rw [pairs]
theorem pairs_nil2 (i j : Nat) (a : List α) : pairs i j a [] = [] := by cases a <;> rw [pairs]
theorem pairs_cons (i j : Nat) (x y : α) (a b : List α) : pairs i j (x :: a) (y :: b) = if x = y then (i, j) :: pairs (i + 1) (j + 1) a b else if lcs (x :: a) b ≤ lcs a (y :: b) then pairs (i + 1) j a (y :: b) else pairs i (j + 1) (x :: a) b := by rw [pairs]
theorem pairs_ind {C : Nat → Nat → List α → List α → Prop} (h0 : ∀ i j b, C i j [] b) (h1 : ∀ i j a, C i j a [])
  (he : ∀ i j x a b, C (i + 1) (j + 1) a b → C i j (x :: a) (x :: b))
  (ha : ∀ i j x y a b, x ≠ y → lcs (x :: a) b ≤ lcs a (y :: b) → C (i + 1) j a (y :: b) → C i j (x :: a) (y :: b))
  (hb : ∀ i j x y a b, x ≠ y → ¬ lcs (x :: a) b ≤ lcs a (y :: b) → C i (j + 1) (x :: a) b → C i j (x :: a) (y :: b)) : ∀ i j (a b : List α), C i j a b := by
 have : ∀ n i j (a b : List α), a.length + b.length ≤ n → C i j a b := by
  intro n
  induction n with
  | zero => intro i j a b h; cases a with
   | nil => exact h0 _ _ _
   | cons _ _ => simp at h
  | succ n ih =>
   intro i j a b h
   cases a with
   | nil => exact h0 _ _ _
   | cons x a => cases b with
    | nil => exact h1 _ _ _
    | cons y b =>
     simp only [List.length_cons] at h
     by_cases e : x = y
     ·subst e; exact he _ _ _ _ _ (ih _ _ _ _ OM)
     ·by_cases l : lcs (x :: a) b ≤ lcs a (y :: b)
      ·exact ha _ _ _ _ _ _ e l (ih _ _ _ _ (by simp only [List.length_cons]; omega))
      ·exact hb _ _ _ _ _ _ e l (ih _ _ _ _ (by simp only [List.length_cons]; omega))
 exact fun i j a b => this _ i j a b (Nat.le_refl _)
theorem pairs_mem (i j : Nat) (a b : List α) : ∀ p ∈ pairs i j a b, ∃ k l, p = (i + k, j + l) ∧ ∃ x, a[k]? = some x ∧ b[l]? = some x := by
 refine pairs_ind (C := fun i j a b => ∀ p ∈ pairs i j a b, ∃ k l, p = (i + k, j + l) ∧ ∃ x, a[k]? = some x ∧ b[l]? = some x) ?_ ?_ ?_ ?_ ?_ i j a b
 ·intro i j b p h; rw [pairs_nil] at h; cases h
 ·intro i j a p h; rw [pairs_nil2] at h; cases h
 ·intro i j x a b ih p h
  rw [pairs_cons, if_pos rfl] at h
  rcases List.mem_cons.1 h with rfl | h
  ·exact ⟨0, 0, rfl, x, rfl, rfl⟩
  ·obtain ⟨k, l, rfl, z, h1, h2⟩ := ih p h
   exact ⟨k + 1, l + 1, pp OM OM, z, h1, h2⟩
 ·intro i j x y a b e l ih p h
  rw [pairs_cons, if_neg e, if_pos l] at h
  obtain ⟨k, l, rfl, z, h1, h2⟩ := ih p h
  exact ⟨k + 1, l, pp OM OM, z, h1, h2⟩
 ·intro i j x y a b e l ih p h
  rw [pairs_cons, if_neg e, if_neg l] at h
  obtain ⟨k, l, rfl, z, h1, h2⟩ := ih p h
  exact ⟨k, l + 1, pp OM OM, z, h1, h2⟩
theorem pairs_ord (i j : Nat) (a b : List α) : (pairs i j a b).Pairwise (fun p q => p.1 < q.1 ∧ p.2 < q.2) := by
 refine pairs_ind (C := fun i j a b => (pairs i j a b).Pairwise (fun p q => p.1 < q.1 ∧ p.2 < q.2)) ?_ ?_ ?_ ?_ ?_ i j a b
 ·intros; rw [pairs_nil]; exact List.Pairwise.nil
 ·intros; rw [pairs_nil2]; exact List.Pairwise.nil
 ·intro i j x a b h; rw [pairs_cons, if_pos rfl]
  refine List.Pairwise.cons (fun p hp => ?_) h
  obtain ⟨k, l, rfl, _⟩ := pairs_mem _ _ _ _ p hp
  exact ⟨by dsimp only; omega, by dsimp only; omega⟩
 ·intro i j x y a b e l h; rw [pairs_cons, if_neg e, if_pos l]; exact h
 ·intro i j x y a b e l h; rw [pairs_cons, if_neg e, if_neg l]; exact h
end
section
variable {α : Type} [Inhabited α]
theorem nth_set (l : List α) {k : Nat} (h : k < l.length) (m : Nat) (v : α) : nth (l.set k v) (m : Int) = if m = k then v else nth l (m : Int) := by
 unfold nth
 rw [Int.toNat_natCast, List.getD_eq_getElem?_getD, List.getD_eq_getElem?_getD, List.getElem?_set]
 by_cases e : m = k
 ·subst e; rw [if_pos rfl, if_pos rfl, if_pos h]; rfl
 ·rw [if_neg (fun x => e x.symm), if_neg e]
def seg (l : List α) (i j : Nat) : List α := (l.drop i).take (j - i)
theorem seg_len (l : List α) (i j : Nat) (h : j ≤ l.length) : (seg l i j).length = j - i := by
 unfold seg; rw [List.length_take, List.length_drop]; omega
variable [DecidableEq α]
def pickL (o a b : List α) : Option (List α) := if a = o then some b else if b = o then some a else if a = b then some a else none
theorem pickL_mem {o a b r : List α} (h : pickL o a b = some r) : (∀ z ∈ r, z ∈ a ∨ z ∈ b) ∧ (∀ z ∈ a, z ∈ o ∨ z ∈ r) ∧ (∀ z ∈ b, z ∈ o ∨ z ∈ r) ∧ r.length ≤ a.length + b.length := by
 unfold pickL at h
 by_cases h1 : a = o
 ·rw [if_pos h1] at h; cases h; subst h1
  exact ⟨fun z hz => .inr hz, fun z hz => .inl hz, fun z hz => .inr hz, OM⟩
 ·rw [if_neg h1] at h
  by_cases h2 : b = o
  ·rw [if_pos h2] at h; cases h; subst h2
   exact ⟨fun z hz => .inl hz, fun z hz => .inr hz, fun z hz => .inl hz, OM⟩
  ·rw [if_neg h2] at h
   by_cases h3 : a = b
   ·rw [if_pos h3] at h; cases h; subst h3
    exact ⟨fun z hz => .inl hz, fun z hz => .inr hz, fun z hz => .inr hz, OM⟩
   ·rw [if_neg h3] at h; cases h
def mloop (o a b : List α) (f g : Nat → Option Nat) : Nat → Nat → Nat → Nat → Nat → Option (List α)
 | 0, _, i, j, k => pickL (o.drop i) (a.drop j) (b.drop k)
 | n + 1, at_, i, j, k => match f at_, g at_ with
  | some x, some y => (pickL (seg o i at_) (seg a j x) (seg b k y)).bind fun p => (mloop o a b f g n (at_ + 1) (at_ + 1) (x + 1) (y + 1)).map fun r => p ++ nth o (at_ : Int) :: r
  | _, _ => mloop o a b f g n (at_ + 1) i j k
theorem mloop_some {o a b : List α} {f g : Nat → Option Nat} {n t i j k x y : Nat} (hf : f t = some x) (hg : g t = some y) : mloop o a b f g (n + 1) t i j k = (pickL (seg o i t) (seg a j x) (seg b k y)).bind fun p => (mloop o a b f g n (t + 1) (t + 1) (x + 1) (y + 1)).map fun r => p ++ nth o (t : Int) :: r := by
 rw [mloop, hf, hg]
theorem mloop_none {o a b : List α} {f g : Nat → Option Nat} {n t i j k : Nat} (h : f t = none ∨ g t = none) : mloop o a b f g (n + 1) t i j k = mloop o a b f g n (t + 1) i j k := by
 rw [mloop]
 rcases h with h | h
 ·rw [h]
 ·rw [h]; cases f t <;> rfl
structure Mates (o a : List α) (f : Nat → Option Nat) : Prop where
 lt : ∀ {t x}, f t = some x → t < o.length ∧ x < a.length
 eq : ∀ {t x}, f t = some x → nth o (t : Int) = nth a (x : Int)
 mono : ∀ {t x u y}, f t = some x → f u = some y → t < u → x < y
def From (f : Nat → Option Nat) (t j : Nat) : Prop := ∀ u x, t ≤ u → f u = some x → j ≤ x
theorem From.zero (f : Nat → Option Nat) (t : Nat) : From f t 0 := fun _ _ _ _ => Nat.zero_le _
theorem From.skip {f : Nat → Option Nat} {t j : Nat} (h : From f t j) : From f (t + 1) j := fun u x hu hx => h u x OM hx
theorem From.step {o a : List α} {f : Nat → Option Nat} (m : Mates o a f) {t x : Nat} (h : f t = some x) : From f (t + 1) (x + 1) := fun u y hu hy => m.mono h hy OM
end
end
def few (a b : List Pt) : Bool := decide (a.length ≤ 12) && decide (b.length ≤ 12)
def Tab (a b : List Pt) (D : Nat → Nat → Prop) (t : List (List Int)) : Prop := t.length = a.length + 1 ∧ ∀ r : Nat, r ≤ a.length → (nth t (r : Int)).length = b.length + 1 ∧ ∀ m : Nat, m ≤ b.length → D r m → nth (nth t (r : Int)) (m : Int) = (lcs (a.drop r) (b.drop m) : Nat)
theorem Tab.set {a b : List Pt} {D : Nat → Nat → Prop} {t : List (List Int)} (h : Tab a b D t) {i j : Nat} (hi : i ≤ a.length) (hj : j ≤ b.length) {v : Int} (hv : v = (lcs (a.drop i) (b.drop j) : Nat)) {D' : Nat → Nat → Prop} (hD : ∀ r m, D' r m → D r m ∨ (r = i ∧ m = j)) :
  Tab a b D' (t.set i ((nth t (i : Int)).set j v)) := by
 obtain ⟨h1, h2⟩ := h
 refine ⟨by rw [List.length_set]; exact h1, fun r hr => ?_⟩
 rw [nth_set _ OM]
 by_cases e : r = i
 ·subst e
  rw [if_pos rfl]
  refine ⟨by rw [List.length_set]; exact (h2 r hr).1, fun m hm hd => ?_⟩
  rw [nth_set _ (by rw [(h2 r hr).1]; omega)]
  by_cases f : m = j
  ·subst f; rw [if_pos rfl, hv]
  ·rw [if_neg f]
   exact (h2 r hr).2 m hm ((hD r m hd).resolve_right fun x => f x.2)
 ·rw [if_neg e]
  exact ⟨(h2 r hr).1, fun m hm hd => (h2 r hr).2 m hm ((hD r m hd).resolve_right fun x => e x.1)⟩
def mateN (l : List (Nat × Nat)) (k : Nat) : Option Nat := match l with
 | [] => none
 | p :: l => if p.1 = k then some p.2 else mateN l k
theorem mateN_mem {l : List (Nat × Nat)} {k x : Nat} (h : mateN l k = some x) : (k, x) ∈ l := by
 induction l with
 | nil => cases h
 | cons p l ih =>
  rw [mateN] at h
  by_cases e : p.1 = k
  ·rw [if_pos e] at h; cases h; subst e; exact List.mem_cons_self
  ·rw [if_neg e] at h; exact List.mem_cons_of_mem _ (ih h)
def part (o a : List Pt) : Nat → Option Nat := mateN (pairs 0 0 o a)
theorem part_mates (o a : List Pt) : Mates o a (part o a) := by
 have hm : ∀ {t x}, part o a t = some x → ∃ z, o[t]? = some z ∧ a[x]? = some z := fun {t x} h => by
  obtain ⟨k, l, e, z, h1, h2⟩ := pairs_mem 0 0 o a _ (mateN_mem h)
  rw [Nat.zero_add, Nat.zero_add] at e; cases e
  exact ⟨z, h1, h2⟩
 refine ⟨fun {t x} h => ?_, fun {t x} h => ?_, fun {t x u y} h1 h2 hu => ?_⟩
 ·obtain ⟨z, h1, h2⟩ := hm h
  exact ⟨(List.getElem?_eq_some_iff.1 h1).1, (List.getElem?_eq_some_iff.1 h2).1⟩
 ·obtain ⟨z, h1, h2⟩ := hm h
  obtain ⟨e1, e2⟩ := List.getElem?_eq_some_iff.1 h1
  obtain ⟨e3, e4⟩ := List.getElem?_eq_some_iff.1 h2
  rw [nth_nat _ e1, nth_nat _ e3, e2, e4]
 ·have ho := pairs_ord 0 0 o a
  have m1 := mateN_mem h1; have m2 := mateN_mem h2
  generalize pairs 0 0 o a = l at ho m1 m2
  induction l with
  | nil => cases m1
  | cons p l ih =>
   obtain ⟨q1, q2⟩ := List.pairwise_cons.1 ho
   rcases List.mem_cons.1 m1 with e1 | n1
   ·rcases List.mem_cons.1 m2 with e2 | n2
    ·subst e1; cases e2; omega
    ·subst e1; exact (q1 _ n2).2
   ·rcases List.mem_cons.1 m2 with e2 | n2
    ·subst e2; have := (q1 _ n1).1; dsimp only at this; omega
    ·exact ih q2 n1 n2
def smerge (o a b : List Pt) : Option (List Pt) := if few o a && few o b then mloop o a b (part o a) (part o b) o.length 0 0 0 0 else none
theorem smerge_few {o a b : List Pt} (h1 : few o a = true) (h2 : few o b = true) : smerge o a b = mloop o a b (part o a) (part o b) o.length 0 0 0 0 := by unfold smerge; rw [h1, h2]; rfl
def allN (n : Nat) (c : Nat → Bool) : Bool := (List.range n).all c
theorem allN_true {n : Nat} {c : Nat → Bool} (h : ∀ j, j < n → c j = true) : allN n c = true := by
 unfold allN; rw [List.all_eq_true]; intro j hj; exact h j (List.mem_range.1 hj)
theorem allN_false {n k : Nat} {c : Nat → Bool} (hk : k < n) (h : c k = false) : allN n c = false := by
 unfold allN
 rw [Bool.eq_false_iff]; intro ha
 rw [List.all_eq_true] at ha
 rw [ha k (List.mem_range.2 hk)] at h; cases h
theorem allN_iff {n : Nat} {c : Nat → Bool} : allN n c = true ↔ ∀ j, j < n → c j = true := by
 unfold allN; rw [List.all_eq_true]; exact ⟨fun h j hj => h j (List.mem_range.2 hj), fun h j hj => h j (List.mem_range.1 hj)⟩
theorem loop_all (n : Nat) (c : Nat → Bool) {B : (Int → Prop) → (Int → Nat) → Int → Prop} {F : Prop}
  (hs : ∀ (I : Int → Prop) (mu : Int → Nat) (k : Nat), k < n → (∀ j, j < k → c j = true) → (c k = true → I ((k : Int) + 1) ∧ mu ((k : Int) + 1) < mu (k : Int)) → B I mu (k : Int))
  (hF : (∀ j, j < n → c j = true) → F) :
  ∃ (I : Int → Prop) (mu : Int → Nat), I 0 ∧ ∀ (i : Int), I i → (if decide (i < (n : Int)) then B I mu i else F) := by
 refine ⟨fun i => ∃ k : Nat, i = k ∧ k ≤ n ∧ ∀ j, j < k → c j = true, fun i => ((n : Int) - i).toNat, ⟨0, rfl, Nat.zero_le _, fun j hj => absurd hj (Nat.not_lt_zero _)⟩, ?_⟩
 rintro _ ⟨k, rfl, hk, ha⟩
 by_cases h : (k : Int) < (n : Int)
 ·rw [if_pos (by simpa using h)]
  refine hs _ _ k OM ha fun hc => ⟨⟨k + 1, OM, OM, fun j hj => ?_⟩, OM⟩
  by_cases e : j = k
  ·subst e; exact hc
  ·exact ha j OM
 ·rw [if_neg (by simpa using h)]
  exact hF fun j hj => ha j OM
theorem less_irr : ∀ a : Str, Op.bytesLess a a = false
 | [] => rfl
 | x :: a => by rw [Op.bytesLess]; simp [less_irr a]
theorem less_tri : ∀ a b : Str, (!(Op.bytesLess a b)) = (Op.bytesLess b a || b == a)
 | [], [] => rfl
 | [], y :: b => rfl
 | x :: a, [] => rfl
 | x :: a, y :: b => by
  rw [Op.bytesLess, Op.bytesLess]
  have h := less_tri a b
  by_cases h1 : x < y
  ·have h2 : ¬ y < x := fun h => absurd (UInt8.lt_trans h1 h) (UInt8.lt_irrefl _)
   have h3 : ¬ y = x := fun e => by subst e; exact UInt8.lt_irrefl _ h1
   simp [h1, h2, h3]
  ·by_cases h2 : y < x
   ·have h3 : ¬ x = y := fun e => by subst e; exact UInt8.lt_irrefl _ h2
    simp [h1, h2, h3]
   ·have h3 : x = y := UInt8.le_antisymm (UInt8.not_lt.1 h2) (UInt8.not_lt.1 h1)
    subst h3
    simp only [h1, decide_false, Bool.false_or, beq_self_eq_true, Bool.true_and]
    rw [h]
    congr 1
    rw [Bool.eq_iff_iff, beq_iff_eq, beq_iff_eq]
    simp
def byteOk (b : UInt8) : Bool := !(decide ((b.toNat : Int) < 97)) && !(decide ((b.toNat : Int) > 122))
def wordOk (s : Str) : Bool := allN s.length (fun k => byteOk (nth s (k : Int))) && (decide (1 ≤ s.length) && decide (s.length ≤ 6))
def inR (x : Int) : Bool := decide (-1000 ≤ x) && decide (x ≤ 1000)
def ptOk (p : Pt) : Bool := inR p.X && inR p.Y
def ptsOk (p : List Pt) : Bool := allN p.length fun k => ptOk (nth p (k : Int)) && (decide (k = 0) || !(decide (nth p ((k : Int) - 1) = nth p (k : Int))))
def kindOk (kind : Int) (p : List Pt) : Bool :=
 if kind = 1 then decide (p.length = 1) else if kind = 2 then decide (2 ≤ p.length) && decide (p.length ≤ 6)
 else if kind = 3 then decide (3 ≤ p.length) && decide (p.length ≤ 6) && !(decide (nth p 0 = nth p ((p.length : Int) - 1))) else false
def shapeOk (s : Shape) : Bool := ptsOk s.Pts && kindOk s.Kind s.Pts
def tagsOk (t : List Tag) : Bool := allN t.length fun k => wordOk (nth t (k : Int)).Key && wordOk (nth t (k : Int)).Val && (decide (k = 0) || Op.bytesLess (nth t ((k : Int) - 1)).Key (nth t (k : Int)).Key)
def featOk (f : Feat) : Bool := tagsOk f.Tags && decide (f.Tags.length ≤ 4) && wordOk f.Id && shapeOk f.Shape
def noF (f : Feat) : Bool := decide (f = ⟨[], ⟨0, []⟩, []⟩)
def sideOk (id : Str) (has : Bool) (f : Feat) : Bool := if has then featOk f && decide (f.Id = id) else noF f
def sameC (c : Change) : Bool := decide (c.Had = c.Has) && decide (c.Was = c.Now)
def changeOk (c : Change) : Bool := wordOk c.Id && sideOk c.Id c.Had c.Was && sideOk c.Id c.Has c.Now && !(sameC c)
def diffOk (d : List Change) : Bool := allN d.length (fun k => changeOk (nth d (k : Int)) && (decide (k = 0) || Op.bytesLess (nth d ((k : Int) - 1)).Id (nth d (k : Int)).Id)) && decide (d.length ≤ 16)
def sheetOk (s : List Feat) : Bool := allN s.length (fun k => featOk (nth s (k : Int)) && (decide (k = 0) || Op.bytesLess (nth s ((k : Int) - 1)).Id (nth s (k : Int)).Id)) && decide (s.length ≤ 8)
theorem Feat.ext_iff' (a b : Feat) : a = b ↔ a.Id = b.Id ∧ a.Shape = b.Shape ∧ a.Tags = b.Tags := by cases a; cases b; simp
theorem Shape.ext_iff' (a b : Shape) : a = b ↔ a.Kind = b.Kind ∧ a.Pts = b.Pts := by cases a; cases b; simp
section
def findN (n : Nat) (c : Nat → Bool) : Int := match (List.range n).find? c with | some k => (k : Int) | none => -1
theorem findN_hit {n k : Nat} {c : Nat → Bool} (hk : k < n) (h : c k = true) (hp : ∀ j, j < k → c j = false) : findN n c = (k : Int) := by
 unfold findN
 have : (List.range n).find? c = some k := by
  rw [List.find?_range_eq_some]
  exact ⟨h, List.mem_range.2 hk, fun j hj => by rw [hp j hj]; rfl⟩
 rw [this]
theorem findN_none {n : Nat} {c : Nat → Bool} (h : ∀ j, j < n → c j = false) : findN n c = -1 := by
 unfold findN
 have : (List.range n).find? c = none := by
  rw [List.find?_eq_none]; intro j hj; rw [h j (List.mem_range.1 hj)]; exact Bool.false_ne_true
 rw [this]
theorem findN_le (n : Nat) (c : Nat → Bool) : -1 ≤ findN n c ∧ findN n c < n := by
 unfold findN
 cases h : (List.range n).find? c with
 | none => exact ⟨Int.le_refl _, by dsimp only; omega⟩
 | some k => have := List.mem_range.1 (List.mem_of_find?_eq_some h); exact ⟨by dsimp only; omega, by dsimp only; omega⟩
theorem loop_find (n : Nat) (c : Nat → Bool) {B : (Int → Prop) → (Int → Nat) → Int → Prop} {Q : Int → Prop} (hq : Q (findN n c))
  (hs : ∀ (I : Int → Prop) (mu : Int → Nat) (k : Nat), k < n → (c k = true → Q (k : Int)) → (c k = false → I ((k : Int) + 1) ∧ mu ((k : Int) + 1) < mu (k : Int)) → B I mu (k : Int)) :
  ∃ (I : Int → Prop) (mu : Int → Nat), I 0 ∧ ∀ (i : Int), I i → (if decide (i < (n : Int)) then B I mu i else Q (-1)) := by
 refine loop_all n (fun k => !(c k)) (fun I mu k hk hp hn => hs I mu k hk (fun h => ?_) (fun h => hn (by rw [h]; rfl))) (fun ha => ?_)
 ·rw [findN_hit hk h (fun j hj => by have := hp j hj; rwa [Bool.not_eq_true'] at this)] at hq; exact hq
 ·rw [findN_none (fun j hj => by have := ha j hj; rwa [Bool.not_eq_true'] at this)] at hq; exact hq
section
variable {α : Type} [Inhabited α] [DecidableEq α]
theorem list_eq_iff (a b : List α) (h : a.length = b.length) : a = b ↔ ∀ k, k < a.length → nth a (k : Int) = nth b (k : Int) := ⟨fun e k _ => by rw [e], ext_nth h⟩
theorem eqF_shape (a b : List α) (el : α → α → Bool) (ok : α → α → Prop) (hok : ∀ x y, x ∈ a → ok x y) (hel : ∀ x y, x ∈ a → el x y = decide (x = y)) (hb : a.length ≤ 1048576) (Q : Bool → Prop) (hq : Q (decide (a = b))) :
  (if (a.length : Int) != (b.length : Int) then Q false else (∃ (I36 : Int → Prop) (mu37 : Int → Nat), I36 0 ∧ ∀ (v2 : Int), I36 v2 → (if decide (v2 < (a.length : Int)) then ((0 : Int) ≤ v2 ∧ v2 < (a.length : Int)) ∧ ((0 : Int) ≤ v2 ∧ v2 < (b.length : Int)) ∧ (ok (nth a v2) (nth b v2)) ∧ (if !(el (nth a v2) (nth b v2)) then Q false else (I64 (v2 + 1)) ∧ I36 (v2 + 1) ∧ mu37 (v2 + 1) < mu37 v2) else Q true))) := by
 by_cases hl : a.length = b.length
 ·rw [if_neg (by simp [hl])]
  refine loop_all a.length (fun k => decide (nth a (k : Int) = nth b (k : Int))) (fun I mu k hk hp hn => ?_) (fun ha => ?_)
  ·refine ⟨OM, OM, hok _ _ (nth_mem a hk), ?_⟩
   rw [hel _ _ (nth_mem a hk)]
   by_cases h : nth a (k : Int) = nth b (k : Int)
   ·rw [decide_eq_true h, if_neg RD]
    obtain ⟨i1, i2⟩ := hn (decide_eq_true h)
    exact ⟨by unfold I64; omega, i1, i2⟩
   ·rw [decide_eq_false h, if_pos RD]
    rw [decide_eq_false (by rw [list_eq_iff a b hl]; exact fun g => h (g k hk))] at hq; exact hq
  ·rw [decide_eq_true ((list_eq_iff a b hl).2 fun k hk => of_decide_eq_true (ha k hk))] at hq; exact hq
 ·rw [if_pos (by rw [bne_iff_ne]; omega)]
  rw [decide_eq_false (fun e => hl (by rw [e]))] at hq; exact hq
end
end
section
theorem less_trans : ∀ {a b c : Str}, Op.bytesLess a b = true → Op.bytesLess b c = true → Op.bytesLess a c = true
 | _, _, [], _, h => by rename_i b _; cases b <;> simp [Op.bytesLess] at h
 | _, [], _ :: _, h, _ => by rename_i a _ _ _; cases a <;> simp [Op.bytesLess] at h
 | [], _ :: _, _ :: _, _, _ => by simp [Op.bytesLess]
 | x :: a, y :: b, z :: c, h1, h2 => by
  rw [Op.bytesLess] at h1 h2 ⊢
  simp only [Bool.or_eq_true, Bool.and_eq_true, decide_eq_true_eq, beq_iff_eq] at h1 h2 ⊢
  rcases h1 with h1 | ⟨rfl, h1⟩
  ·rcases h2 with h2 | ⟨rfl, h2⟩
   ·exact .inl (UInt8.lt_trans h1 h2)
   ·exact .inl h1
  ·rcases h2 with h2 | ⟨rfl, h2⟩
   ·exact .inl h2
   ·exact .inr ⟨rfl, less_trans h1 h2⟩
theorem less_asym {a b : Str} (h : Op.bytesLess a b = true) : Op.bytesLess b a = false := by
 cases e : Op.bytesLess b a with
 | false => rfl
 | true => have := less_trans h e; rw [less_irr] at this; cases this
theorem less_or {a b : Str} (h : Op.bytesLess a b = false) : Op.bytesLess b a = true ∨ b = a := by
 have := less_tri a b
 rw [h] at this
 simpa using this.symm
def SS (l : List Str) : Prop := l.Pairwise fun x y => Op.bytesLess x y = true
theorem SS.ext : ∀ {l m : List Str}, SS l → SS m → (∀ x, x ∈ l ↔ x ∈ m) → l = m
 | [], [], _, _, _ => rfl
 | [], y :: m, _, _, h => by have := (h y).2 List.mem_cons_self; cases this
 | x :: l, [], _, _, h => by have := (h x).1 List.mem_cons_self; cases this
 | x :: l, y :: m, hl, hm, h => by
  obtain ⟨l1, l2⟩ := List.pairwise_cons.1 hl
  obtain ⟨m1, m2⟩ := List.pairwise_cons.1 hm
  have e : x = y := by
   rcases List.mem_cons.1 ((h x).1 List.mem_cons_self) with e | e
   ·exact e
   ·rcases List.mem_cons.1 ((h y).2 List.mem_cons_self) with e' | e'
    ·exact e'.symm
    ·have := less_trans (m1 x e) (l1 y e'); rw [less_irr] at this; cases this
  subst e
  rw [SS.ext l2 m2 fun z => ⟨fun hz => ?_, fun hz => ?_⟩]
  ·rcases List.mem_cons.1 ((h z).1 (List.mem_cons_of_mem _ hz)) with e | e
   ·subst e; have := l1 z hz; rw [less_irr] at this; cases this
   ·exact e
  ·rcases List.mem_cons.1 ((h z).2 (List.mem_cons_of_mem _ hz)) with e | e
   ·subst e; have := m1 z hz; rw [less_irr] at this; cases this
   ·exact e
theorem le_less (x y : Str) : decide (x ≤ y) = !(Op.bytesLess y x) := by
 rw [bytesLess_eq]
 by_cases h : y < x
 ·rw [decide_eq_true h, decide_eq_false (by rw [List.not_le]; exact h)]; rfl
 ·rw [decide_eq_false h, decide_eq_true (List.not_lt.1 h)]; rfl
theorem sortS_le (l : List Str) : (sortS l).Pairwise fun x y => Op.bytesLess y x = false := by
 have h := List.pairwise_mergeSort (le := fun x y : Str => decide (x ≤ y)) (fun a b c h1 h2 => by
  rw [le_less, Bool.not_eq_true'] at h1 h2 ⊢
  cases e : Op.bytesLess c a with
  | false => rfl
  | true =>
   rcases less_or h1 with h3 | h3
   ·have := less_trans e h3; rw [h2] at this; cases this
   ·subst h3; rw [h2] at e; cases e) (fun a b => by
  rw [le_less, le_less]
  cases e : Op.bytesLess b a with
  | false => rfl
  | true => rw [less_asym e]; rfl) l
 exact h.imp fun {x y} h => by rw [le_less, Bool.not_eq_true'] at h; exact h
theorem sortS_mem {l : List Str} {x : Str} : x ∈ sortS l ↔ x ∈ l := List.mem_mergeSort
section
open Go.Lib
theorem compact_of (l : List Str) (h : l.Pairwise fun x y => Op.bytesLess y x = false) : SS (compact l) ∧ ∀ x, x ∈ compact l ↔ x ∈ l := by
 have hle : ∀ i j, i ≤ j → j < l.length → Op.bytesLess (l.toArray[j]!) (l.toArray[i]!) = false := fun i j hij hj => by
  have hi : i < l.length := by omega
  simp only [List.getElem!_toArray, getElem!_pos l i hi, getElem!_pos l j hj]
  rcases Nat.lt_or_eq_of_le hij with hlt | rfl
  ·exact List.pairwise_iff_getElem.1 h i j hi hj hlt
  ·exact less_irr _
 constructor
 ·unfold compact compactUpTo SS
  rw [List.pairwise_map, List.pairwise_filter]
  refine List.pairwise_iff_getElem.2 fun i j hi hj hij => ?_
  simp only [List.length_range] at hi hj
  simp only [List.getElem_range]
  intro _ hk
  have hj0 : 0 < j := by omega
  have hne : l.toArray[j]! ≠ l.toArray[j - 1]! := fun e => by rw [keeps_neg hj0 e] at hk; cases hk
  have h1 : Op.bytesLess (l.toArray[j - 1]!) (l.toArray[j]!) = true := by
   rcases less_or (hle (j - 1) j OM hj) with h2 | h2
   ·exact h2
   ·exact absurd h2.symm hne
  rcases less_or (hle i (j - 1) OM OM) with h3 | h3
  ·exact less_trans h3 h1
  ·rw [h3]; exact h1
 ·intro x
  constructor
  ·exact compact_mem
  ·intro hx
   obtain ⟨k, hk, rfl⟩ := List.getElem_of_mem hx
   have key : ∀ k, k < l.length → l.toArray[k]! ∈ compact l := by
    intro k
    induction k using Nat.strongRecOn with
    | _ k ih =>
     intro hk
     cases e : keeps l.toArray k with
     | true =>
      unfold compact compactUpTo
      exact List.mem_map.2 ⟨k, List.mem_filter.2 ⟨List.mem_range.2 hk, e⟩, rfl⟩
     | false =>
      have hk0 : 0 < k := by
       rcases Nat.eq_zero_or_pos k with h0 | h0
       ·subst h0; rw [keeps_lt_one _ 0 OM] at e; cases e
       ·exact h0
      have he : l.toArray[k]! = l.toArray[k - 1]! := Classical.byContradiction fun hne => by rw [keeps_pos hne] at e; cases e
      rw [he]; exact ih (k - 1) OM OM
   have := key k hk
   simpa [getElem!_pos l k hk] using this
end
def uniq (l : List Str) : List Str := Lib.compact (sortS l)
theorem uniq_ss (l : List Str) : SS (uniq l) := (compact_of _ (sortS_le l)).1
theorem uniq_mem {l : List Str} {x : Str} : x ∈ uniq l ↔ x ∈ l := ((compact_of _ (sortS_le l)).2 x).trans sortS_mem
def ids (s : List Feat) : List Str := s.map (·.Id)
theorem ids_app (s t : List Feat) : ids (s ++ t) = ids s ++ ids t := List.map_append
theorem sheet_ss {s : List Feat} (h : sheetOk s = true) : SS (ids s) ∧ s.length ≤ 8 ∧ ∀ f ∈ s, featOk f = true := by
 unfold sheetOk at h
 simp only [Bool.and_eq_true, decide_eq_true_eq] at h
 obtain ⟨h1, h2⟩ := h
 have h1 := allN_iff.1 h1
 have hadj : ∀ k, 0 < k → k < s.length → Op.bytesLess (nth s ((k : Int) - 1)).Id (nth s (k : Int)).Id = true := fun k h0 hk => by
  have := h1 k hk
  simp only [Bool.and_eq_true, Bool.or_eq_true, decide_eq_true_eq] at this
  rcases this.2 with h | h
  ·omega
  ·exact h
 refine ⟨?_, h2, fun f hf => ?_⟩
 ·unfold SS ids
  rw [List.pairwise_map]
  refine List.pairwise_iff_getElem.2 fun i j hi hj hij => ?_
  have key : ∀ d, i + d + 1 < s.length → Op.bytesLess s[i].Id (nth s ((i + d + 1 : Nat) : Int)).Id = true := by
   intro d
   induction d with
   | zero =>
    intro hd
    have := hadj (i + 0 + 1) OM hd
    rw [show (((i + 0 + 1 : Nat) : Int) - 1) = (i : Int) by omega, nth_nat s hi] at this
    exact this
   | succ d ih =>
    intro hd
    have := hadj (i + (d + 1) + 1) OM hd
    rw [show (((i + (d + 1) + 1 : Nat) : Int) - 1) = ((i + d + 1 : Nat) : Int) by omega] at this
    exact less_trans (ih OM) this
  have := key (j - i - 1) OM
  rw [show i + (j - i - 1) + 1 = j by omega, nth_nat s hj] at this
  exact this
 ·obtain ⟨k, hk, rfl⟩ := List.getElem_of_mem hf
  have := h1 k hk
  rw [nth_nat s hk] at this
  simp only [Bool.and_eq_true] at this
  exact this.1
theorem word_len {s : Str} (h : wordOk s = true) : s.length ≤ 6 := by
 unfold wordOk at h
 simp only [Bool.and_eq_true, decide_eq_true_eq] at h
 exact h.2.2
theorem bulk_small {α : Type} [Bulk α] (l : List α) (m : Nat) (h : ∀ x ∈ l, bulk x ≤ m) : bulk l ≤ l.length * (m + 1) := by
 induction l with
 | nil => exact Nat.zero_le _
 | cons x l ih =>
  have h1 := h x List.mem_cons_self
  have h2 := ih fun y hy => h y (List.mem_cons_of_mem _ hy)
  rw [bulk_cons, List.length_cons, Nat.add_mul]
  omega
theorem feat_small {f : Feat} (h : featOk f = true) : bulk f ≤ 100 ∧ f.Id.length ≤ 6 := by
 unfold featOk at h
 simp only [Bool.and_eq_true, decide_eq_true_eq] at h
 obtain ⟨⟨⟨h1, h2⟩, h3⟩, h4⟩ := h
 have hi := word_len h3
 have e1 : bulk f = bulk f.Id + (bulk f.Shape.Kind + bulk f.Shape.Pts) + bulk f.Tags := rfl
 have e2 : bulk f.Id = f.Id.length := bulk_str _
 have e3 : bulk f.Shape.Kind = 0 := rfl
 have e4 : bulk f.Shape.Pts = f.Shape.Pts.length := bulk_flat (fun _ => rfl) _
 have ht : bulk f.Tags ≤ f.Tags.length * (12 + 1) := bulk_small _ 12 fun t hm => by
  unfold tagsOk at h1
  obtain ⟨k, hk, rfl⟩ := List.getElem_of_mem hm
  have := allN_iff.1 h1 k hk
  rw [nth_nat _ hk] at this
  simp only [Bool.and_eq_true] at this
  have a1 := word_len this.1.1
  have a2 := word_len this.1.2
  have b0 : bulk f.Tags[k] = bulk f.Tags[k].Key + bulk f.Tags[k].Val := rfl
  have b1 : bulk f.Tags[k].Key = f.Tags[k].Key.length := bulk_str _
  have b2 : bulk f.Tags[k].Val = f.Tags[k].Val.length := bulk_str _
  omega
 have hp : f.Shape.Pts.length ≤ 6 := by
  unfold shapeOk kindOk at h4
  simp only [Bool.and_eq_true] at h4
  have := h4.2
  split at this
  ·simp only [decide_eq_true_eq] at this; omega
  ·split at this
   ·simp only [Bool.and_eq_true, decide_eq_true_eq] at this; omega
   ·split at this
    ·simp only [Bool.and_eq_true, decide_eq_true_eq] at this; omega
    ·cases this
 have : f.Tags.length * (12 + 1) ≤ 52 := by omega
 omega
def zeroF : Feat := ⟨[], ⟨0, []⟩, []⟩
def sideOf (s : List Feat) (id : Str) : Feat × Bool :=
 if findN s.length (fun j => (nth s (j : Int)).Id == id) < 0 then (zeroF, false) else (nth s (findN s.length fun j => (nth s (j : Int)).Id == id), true)
theorem sideOf_small {s : List Feat} (h : sheetOk s = true) (id : Str) : bulk (sideOf s id).1 ≤ 100 := by
 unfold sideOf
 split
 ·exact (by decide : bulk zeroF ≤ 100)
 ·have h1 := findN_le s.length fun j => (nth s (j : Int)).Id == id
  exact (feat_small ((sheet_ss h).2.2 _ (nth_memi s OM h1.2))).1
def diffC (a b : List Feat) (id : Str) : Change := ⟨id, (sideOf a id).2, (sideOf a id).1, (sideOf b id).2, (sideOf b id).1⟩
def diffL (a b : List Feat) (l : List Str) : List Change := (l.map (diffC a b)).filter fun c => !(sameC c)
def diffOf (a b : List Feat) : List Change := if sheetOk a && sheetOk b then diffL a b (uniq (ids a ++ ids b)) else []
theorem diffL_snoc (a b : List Feat) (l : List Str) (x : Str) : diffL a b (l ++ [x]) = diffL a b l ++ (if sameC (diffC a b x) then [] else [diffC a b x]) := by
 unfold diffL
 rw [List.map_append, List.filter_append]
 congr 1
 cases h : sameC (diffC a b x) <;> simp [h]
theorem uniq_len (l : List Str) : (uniq l).length ≤ l.length := by
 unfold uniq
 have := compact_le (sortS l)
 have h2 : (sortS l).length = l.length := List.length_mergeSort _
 omega
theorem diffL_len (a b : List Feat) (l : List Str) : (diffL a b l).length ≤ l.length := by
 unfold diffL
 exact Nat.le_trans (List.length_filter_le _ _) (by rw [List.length_map]; exact Nat.le_refl _)
theorem diffC_small {a b : List Feat} (ha : sheetOk a = true) (hb : sheetOk b = true) {x : Str} (hx : x ∈ ids a ∨ x ∈ ids b) : bulk (diffC a b x) ≤ 206 := by
 have h1 := sideOf_small ha x
 have h2 := sideOf_small hb x
 have h3 : x.length ≤ 6 := by
  rcases hx with hx | hx
  all_goals
   obtain ⟨f, hf, rfl⟩ := List.mem_map.1 hx
  ·exact (feat_small ((sheet_ss ha).2.2 f hf)).2
  ·exact (feat_small ((sheet_ss hb).2.2 f hf)).2
 have e : bulk (diffC a b x) = bulk x + 0 + bulk (sideOf a x).1 + 0 + bulk (sideOf b x).1 := rfl
 have e2 : bulk x = x.length := bulk_str _
 omega
theorem diffOf_small (a b : List Feat) : bulk (diffOf a b) ≤ 10000 := by
 unfold diffOf
 cases h : sheetOk a && sheetOk b with
 | false => rw [if_neg RD]; exact Nat.zero_le _
 | true =>
  rw [if_pos rfl]
  simp only [Bool.and_eq_true] at h
  have la := (sheet_ss h.1).2.1
  have lb := (sheet_ss h.2).2.1
  have l1 := diffL_len a b (uniq (ids a ++ ids b))
  have l2 := uniq_len (ids a ++ ids b)
  have l3 : (ids a ++ ids b).length = a.length + b.length := by unfold ids; simp
  have hs := bulk_small (diffL a b (uniq (ids a ++ ids b))) 206 fun c hc => by
   unfold diffL at hc
   obtain ⟨hc, _⟩ := List.mem_filter.1 hc
   obtain ⟨x, hx, rfl⟩ := List.mem_map.1 hc
   exact diffC_small h.1 h.2 (List.mem_append.1 (uniq_mem.1 hx))
  have : (diffL a b (uniq (ids a ++ ids b))).length * (206 + 1) ≤ 16 * 207 := Nat.mul_le_mul OM (Nat.le_refl _)
  omega
end
section
def mkL {α : Type} (g : α → Int → α × Int) : List α → Int → List α × Int
 | [], k => ([], k)
 | x :: l, k => ((g x k).1 :: (mkL g l (g x k).2).1, (mkL g l (g x k).2).2)
section
variable {α : Type} {g : α → Int → α × Int}
theorem mkL_snoc (x : α) : ∀ (l : List α) (k : Int), mkL g (l ++ [x]) k = ((mkL g l k).1 ++ [(g x (mkL g l k).2).1], (g x (mkL g l k).2).2)
 | [], k => rfl
 | y :: l, k => by
  rw [List.cons_append, mkL, mkL_snoc x l]; rfl
theorem mkL_len : ∀ (l : List α) (k : Int), (mkL g l k).1.length = l.length
 | [], k => rfl
 | y :: l, k => by rw [mkL, List.length_cons, List.length_cons, mkL_len l]
theorem mkL_bd [Bulk α] (hb : ∀ x k, k ≤ (g x k).2 ∧ (g x k).2 ≤ k + 8 * (1 + (bulk x : Nat))) : ∀ (l : List α) (k : Int), k ≤ (mkL g l k).2 ∧ (mkL g l k).2 ≤ k + 8 * (bulk l : Nat)
 | [], k => ⟨Int.le_refl _, by simp [mkL, bulk_nil]⟩
 | y :: l, k => by
  have h1 := hb y k
  have h2 := mkL_bd hb l (g y k).2
  rw [bulk_cons, mkL]
  exact ⟨by dsimp only; omega, by dsimp only; omega⟩
theorem mkL_app : ∀ (l m : List α) (k : Int), mkL g (l ++ m) k = ((mkL g l k).1 ++ (mkL g m (mkL g l k).2).1, (mkL g m (mkL g l k).2).2)
 | [], m, k => rfl
 | y :: l, m, k => by rw [List.cons_append, mkL, mkL_app l]; rfl
variable [Inhabited α]
def Mk (g : α → Int → α × Int) (a : List α) (k : Int) (u : Nat) (xs : List α) (k' : Int) : Prop := u ≤ a.length ∧ xs = (mkL g (a.take u) k).1 ++ a.drop u ∧ k' = (mkL g (a.take u) k).2
variable {a xs : List α} {k k' : Int} {u : Nat}
theorem Mk.zero (a : List α) (k : Int) : Mk g a k 0 a k := ⟨Nat.zero_le _, by simp [mkL], by simp [mkL]⟩
theorem Mk.len (h : Mk g a k u xs k') : xs.length = a.length := by
 rw [h.2.1, List.length_append, mkL_len, List.length_take, List.length_drop]; have := h.1; omega
theorem Mk.nth (h : Mk g a k u xs k') (hu : u < a.length) : nth xs (u : Int) = Go.Proofs.YtlaaehjcooonfaaGreatDoor.nth a (u : Int) := by
 rw [nth_nat xs (by rw [h.len]; exact hu), nth_nat a hu]
 have hl : (mkL g (a.take u) k).1.length = u := by rw [mkL_len, List.length_take]; omega
 have := h.2.1
 subst this
 rw [List.getElem_append_right OM]
 simp [hl]
theorem Mk.bd [Bulk α] (h : Mk g a k u xs k') (hb : ∀ x k, k ≤ (g x k).2 ∧ (g x k).2 ≤ k + 8 * (1 + (bulk x : Nat))) : k ≤ k' ∧ k' ≤ k + 8 * (bulk a : Nat) := by
 have h1 := mkL_bd hb (a.take u) k
 have h2 := bulk_take a u
 rw [h.2.2]
 exact ⟨h1.1, OM⟩
def Hd (g : α → Int → α × Int) (a : List α) (k : Int) (u : Nat) (k' : Int) : Prop := u ≤ a.length ∧ k' = (mkL g (a.take u) k).2
theorem Hd.zero (a : List α) (k : Int) : Hd g a k 0 k := ⟨Nat.zero_le _, by simp [mkL]⟩
theorem Hd.nth (h : Hd g a k u k') (hu : u < a.length) : nth (mkL g a k).1 (u : Int) = (g (Go.Proofs.YtlaaehjcooonfaaGreatDoor.nth a (u : Int)) k').1 := by
 have e : a = (a.take u ++ [Go.Proofs.YtlaaehjcooonfaaGreatDoor.nth a (u : Int)]) ++ a.drop (u + 1) := by rw [← take_nth a hu, List.take_append_drop]
 have hl : (mkL g (a.take u) k).1.length = u := by rw [mkL_len, List.length_take]; omega
 rw [nth_nat _ (by rw [mkL_len]; exact hu)]
 have h1 : (mkL g a k).1[u]? = some (g (Go.Proofs.YtlaaehjcooonfaaGreatDoor.nth a (u : Int)) k').1 := by
  conv => lhs; rw [e]
  rw [mkL_app, mkL_snoc]
  dsimp only
  rw [List.append_assoc, List.getElem?_append_right OM, hl, Nat.sub_self, h.2]; rfl
 rw [List.getElem?_eq_getElem (by rw [mkL_len]; exact hu)] at h1
 exact Option.some.inj h1
theorem Hd.bd [Bulk α] (h : Hd g a k u k') (hb : ∀ x k, k ≤ (g x k).2 ∧ (g x k).2 ≤ k + 8 * (1 + (bulk x : Nat))) : k ≤ k' ∧ k' ≤ k + 8 * (bulk a : Nat) := by
 have h1 := mkL_bd hb (a.take u) k
 have h2 := bulk_take a u
 rw [h.2]
 exact ⟨h1.1, OM⟩
end
theorem bulk_feat (x : Feat) : bulk x = bulk x.Id + (bulk x.Shape.Kind + bulk x.Shape.Pts) + bulk x.Tags := rfl
theorem bulk_change (x : Change) : bulk x = bulk x.Id + bulk x.Had + bulk x.Was + bulk x.Has + bulk x.Now := rfl
end
theorem pw_ext {α : Type} {R : α → α → Prop} (irr : ∀ x, ¬ R x x) (tr : ∀ x y z, R x y → R y z → R x z) : ∀ {l m : List α}, l.Pairwise R → m.Pairwise R → (∀ x, x ∈ l ↔ x ∈ m) → l = m
 | [], [], _, _, _ => rfl
 | [], y :: m, _, _, h => by have := (h y).2 List.mem_cons_self; cases this
 | x :: l, [], _, _, h => by have := (h x).1 List.mem_cons_self; cases this
 | x :: l, y :: m, hl, hm, h => by
  obtain ⟨l1, l2⟩ := List.pairwise_cons.1 hl
  obtain ⟨m1, m2⟩ := List.pairwise_cons.1 hm
  have e : x = y := by
   rcases List.mem_cons.1 ((h x).1 List.mem_cons_self) with e | e
   ·exact e
   ·rcases List.mem_cons.1 ((h y).2 List.mem_cons_self) with e' | e'
    ·exact e'.symm
    ·exact absurd (tr _ _ _ (m1 x e) (l1 y e')) (irr _)
  subst e
  rw [pw_ext irr tr l2 m2 fun z => ⟨fun hz => ?_, fun hz => ?_⟩]
  ·rcases List.mem_cons.1 ((h z).1 (List.mem_cons_of_mem _ hz)) with e | e
   ·subst e; exact absurd (l1 z hz) (irr _)
   ·exact e
  ·rcases List.mem_cons.1 ((h z).2 (List.mem_cons_of_mem _ hz)) with e | e
   ·subst e; exact absurd (m1 z hz) (irr _)
   ·exact e
def idsC (d : List Change) : List Str := d.map (·.Id)
theorem idsC_app (s t : List Change) : idsC (s ++ t) = idsC s ++ idsC t := List.map_append
def CS (d : List Change) : Prop := d.Pairwise fun x y => Op.bytesLess x.Id y.Id = true
theorem CS.ext {l m : List Change} (hl : CS l) (hm : CS m) (h : ∀ x, x ∈ l ↔ x ∈ m) : l = m :=
 pw_ext (R := fun x y : Change => Op.bytesLess x.Id y.Id = true) (fun x e => by rw [less_irr] at e; cases e) (fun x y z h1 h2 => less_trans h1 h2) hl hm h
theorem CS.ids {d : List Change} (h : CS d) : SS (idsC d) := List.pairwise_map.2 h
theorem diff_cs {d : List Change} (h : diffOk d = true) : CS d ∧ d.length ≤ 16 ∧ ∀ c ∈ d, changeOk c = true := by
 unfold diffOk at h
 simp only [Bool.and_eq_true, decide_eq_true_eq] at h
 obtain ⟨h1, h2⟩ := h
 have h1 := allN_iff.1 h1
 have hadj : ∀ k, 0 < k → k < d.length → Op.bytesLess (nth d ((k : Int) - 1)).Id (nth d (k : Int)).Id = true := fun k h0 hk => by
  have := h1 k hk
  simp only [Bool.and_eq_true, Bool.or_eq_true, decide_eq_true_eq] at this
  rcases this.2 with h | h
  ·omega
  ·exact h
 refine ⟨?_, h2, fun f hf => ?_⟩
 ·refine List.pairwise_iff_getElem.2 fun i j hi hj hij => ?_
  have key : ∀ q, i + q + 1 < d.length → Op.bytesLess d[i].Id (nth d ((i + q + 1 : Nat) : Int)).Id = true := by
   intro q
   induction q with
   | zero =>
    intro hd
    have := hadj (i + 0 + 1) OM hd
    rw [show (((i + 0 + 1 : Nat) : Int) - 1) = (i : Int) by omega, nth_nat d hi] at this
    exact this
   | succ q ih =>
    intro hd
    have := hadj (i + (q + 1) + 1) OM hd
    rw [show (((i + (q + 1) + 1 : Nat) : Int) - 1) = ((i + q + 1 : Nat) : Int) by omega] at this
    exact less_trans (ih OM) this
  have := key (j - i - 1) OM
  rw [show i + (j - i - 1) + 1 = j by omega, nth_nat d hj] at this
  exact this
 ·obtain ⟨k, hk, rfl⟩ := List.getElem_of_mem hf
  have := h1 k hk
  rw [nth_nat d hk] at this
  simp only [Bool.and_eq_true] at this
  exact this.1
theorem side_small {id : Str} {has : Bool} {f : Feat} (h : sideOk id has f = true) : bulk f ≤ 100 := by
 unfold sideOk at h
 cases has with
 | true =>
  rw [if_pos rfl] at h
  simp only [Bool.and_eq_true] at h
  exact (feat_small h.1).1
 | false =>
  rw [if_neg RD] at h
  unfold noF at h
  rw [of_decide_eq_true h]; decide
theorem change_small {c : Change} (h : changeOk c = true) : bulk c ≤ 206 ∧ sameC c = false ∧ bulk c.Was ≤ 100 ∧ bulk c.Now ≤ 100 ∧ c.Id.length ≤ 6 := by
 unfold changeOk at h
 simp only [Bool.and_eq_true, Bool.not_eq_true'] at h
 obtain ⟨⟨⟨h1, h2⟩, h3⟩, h4⟩ := h
 have a1 := word_len h1
 have a2 := side_small h2
 have a3 := side_small h3
 have e := bulk_change c
 have e1 : bulk c.Id = c.Id.length := bulk_str _
 have e2 : bulk c.Had = 0 := rfl
 have e3 : bulk c.Has = 0 := rfl
 exact ⟨OM, h4, a2, a3, a1⟩
def atC (d : List Change) (id : Str) : Int := findN d.length fun j => (nth d (j : Int)).Id == id
theorem findN_true {n : Nat} {c : Nat → Bool} {k : Nat} (h : findN n c = (k : Int)) : k < n ∧ c k = true := by
 unfold findN at h
 cases e : (List.range n).find? c with
 | none => rw [e] at h; dsimp only at h; omega
 | some j =>
  rw [e] at h; dsimp only at h
  have : j = k := by omega
  subst this
  exact ⟨List.mem_range.1 (List.mem_of_find?_eq_some e), List.find?_some e⟩
theorem findN_neg {n : Nat} {c : Nat → Bool} (h : findN n c < 0) : ∀ j, j < n → c j = false := fun j hj => by
 unfold findN at h
 cases e : (List.range n).find? c with
 | some k => rw [e] at h; dsimp only at h; omega
 | none =>
  have := List.find?_eq_none.1 e j (List.mem_range.2 hj)
  simpa using this
theorem atC_hit {d : List Change} {id : Str} (h : ¬ atC d id < 0) : nth d (atC d id) ∈ d ∧ (nth d (atC d id)).Id = id := by
 obtain ⟨k, hk⟩ : ∃ k : Nat, atC d id = (k : Int) := ⟨(atC d id).toNat, OM⟩
 obtain ⟨h1, h2⟩ := findN_true hk
 rw [hk]
 exact ⟨nth_mem d h1, by simpa using h2⟩
theorem atC_miss {d : List Change} {id : Str} (h : atC d id < 0) : id ∉ idsC d := fun hm => by
 obtain ⟨c, hc, rfl⟩ := List.mem_map.1 hm
 obtain ⟨k, hk, rfl⟩ := List.getElem_of_mem hc
 have := findN_neg h k hk
 rw [nth_nat d hk] at this
 simp at this
theorem atC_mem {d : List Change} {id : Str} (h : ¬ atC d id < 0) : id ∈ idsC d := by
 obtain ⟨h1, h2⟩ := atC_hit h
 exact List.mem_map.2 ⟨_, h1, h2⟩
theorem CS.inj {d : List Change} (h : CS d) {x y : Change} (hx : x ∈ d) (hy : y ∈ d) (e : x.Id = y.Id) : x = y := by
 obtain ⟨i, hi, rfl⟩ := List.getElem_of_mem hx
 obtain ⟨j, hj, rfl⟩ := List.getElem_of_mem hy
 rcases Nat.lt_trichotomy i j with g | g | g
 ·have := List.pairwise_iff_getElem.1 h i j hi hj g
  rw [e, less_irr] at this; cases this
 ·subst g; rfl
 ·have := List.pairwise_iff_getElem.1 h j i hj hi g
  rw [e, less_irr] at this; cases this
theorem atC_of {d : List Change} (h : CS d) {c : Change} (hc : c ∈ d) : ¬ atC d c.Id < 0 ∧ nth d (atC d c.Id) = c := by
 have h0 : ¬ atC d c.Id < 0 := fun e => atC_miss e (List.mem_map.2 ⟨c, hc, rfl⟩)
 obtain ⟨h1, h2⟩ := atC_hit h0
 exact ⟨h0, h.inj h1 hc h2⟩
def turnC (c : Change) : Change := ⟨c.Id, c.Has, c.Now, c.Had, c.Was⟩
def turnD (d : List Change) : List Change := if diffOk d then d.map turnC else []
theorem bulk_turn (d : List Change) : bulk (d.map turnC) = bulk d := by
 induction d with
 | nil => rfl
 | cons c d ih =>
  rw [List.map_cons, bulk_cons, bulk_cons, ih, bulk_change, bulk_change c]
  unfold turnC
  dsimp only
  omega
theorem bulk_turnD (d : List Change) : bulk (turnD d) ≤ bulk d := by
 unfold turnD
 cases h : diffOk d with
 | false => rw [if_neg RD]; exact Nat.zero_le _
 | true => rw [if_pos rfl, bulk_turn]; exact Nat.le_refl _
theorem same_turn (c : Change) : sameC (turnC c) = sameC c := by
 unfold sameC turnC
 congr 1 <;> exact decide_eq_decide.2 eq_comm
theorem turnD_is {d : List Change} (h : diffOk d = true) : turnD d = d.map turnC := by unfold turnD; rw [h]; rfl
theorem idsC_ex {d : List Change} {i : Str} (h : i ∈ idsC d) : ∃ c ∈ d, c.Id = i := List.mem_map.1 h
theorem uniq_swap (l m : List Str) : uniq (l ++ m) = uniq (m ++ l) := SS.ext (uniq_ss _) (uniq_ss _) fun x => by rw [uniq_mem, uniq_mem, List.mem_append, List.mem_append]; exact or_comm
structure MInv (o a b : List Pt) (xs : List Pt) (i j k t : Nat) : Prop where
 hi : i ≤ t
 ht : t ≤ o.length
 hj : j ≤ a.length
 hk : k ≤ b.length
 fj : From (part o a) t j
 fk : From (part o b) t k
 len : xs.length ≤ j + k
 eq : (mloop o a b (part o a) (part o b) (o.length - t) t i j k).map (xs ++ ·) = smerge o a b
theorem MInv.zero {o a b : List Pt} (h1 : few o a = true) (h2 : few o b = true) : MInv o a b [] 0 0 0 0 :=
 ⟨Nat.le_refl _, Nat.zero_le _, Nat.zero_le _, Nat.zero_le _, From.zero _ _, From.zero _ _, Nat.le_refl _, by rw [smerge_few h1 h2, Nat.sub_zero]; cases mloop o a b (part o a) (part o b) o.length 0 0 0 0 <;> rfl⟩
theorem MInv.skip {o a b xs : List Pt} {i j k t : Nat} (h : MInv o a b xs i j k t) (ht : t < o.length) (hn : part o a t = none ∨ part o b t = none) : MInv o a b xs i j k (t + 1) :=
 ⟨by have := h.hi; omega, ht, h.hj, h.hk, h.fj.skip, h.fk.skip, h.len, by
  have := h.eq
  rw [show o.length - t = (o.length - (t + 1)) + 1 by omega, mloop_none hn] at this
  exact this⟩
theorem MInv.step {o a b xs : List Pt} {i j k t x y : Nat} (h : MInv o a b xs i j k t) (ht : t < o.length) (hx : part o a t = some x) (hy : part o b t = some y) {p : List Pt} (hp : pickL (seg o i t) (seg a j x) (seg b k y) = some p) : MInv o a b (xs ++ p ++ [nth o (t : Int)]) (t + 1) (x + 1) (y + 1) (t + 1) := by
 have h1 := (part_mates o a).lt hx
 have h2 := (part_mates o b).lt hy
 refine ⟨Nat.le_refl _, ht, h1.2, h2.2, .step (part_mates o a) hx, .step (part_mates o b) hy, ?_, ?_⟩
 ·have := (pickL_mem hp).2.2.2
  rw [seg_len a _ _ OM, seg_len b _ _ OM] at this
  have h3 := h.fj t x (Nat.le_refl _) hx
  have h4 := h.fk t y (Nat.le_refl _) hy
  have h5 := h.len
  simp only [List.length_append, List.length_singleton]; omega
 ·have := h.eq
  rw [show o.length - t = (o.length - (t + 1)) + 1 by omega, mloop_some hx hy, hp, Option.bind_some, Option.map_map] at this
  rw [← this]
  congr 1
  funext r
  simp
theorem MInv.from {o a b xs : List Pt} {i j k t x y : Nat} (h : MInv o a b xs i j k t) (hx : part o a t = some x) (hy : part o b t = some y) : j ≤ x ∧ x < a.length ∧ k ≤ y ∧ y < b.length :=
 ⟨h.fj t x (Nat.le_refl _) hx, ((part_mates o a).lt hx).2, h.fk t y (Nat.le_refl _) hy, ((part_mates o b).lt hy).2⟩
def keysT (t : List Tag) : List Str := t.map (·.Key)
theorem keys_app (s t : List Tag) : keysT (s ++ t) = keysT s ++ keysT t := List.map_append
theorem feat_facts {f : Feat} (h : featOk f = true) : f.Tags.length ≤ 4 ∧ shapeOk f.Shape = true ∧ f.Shape.Pts.length ≤ 6 ∧ f.Id.length ≤ 6 ∧ ∀ t ∈ f.Tags, t.Key.length ≤ 6 ∧ t.Val.length ≤ 6 := by
 have hb := (feat_small h).2
 unfold featOk at h
 simp only [Bool.and_eq_true, decide_eq_true_eq] at h
 obtain ⟨⟨⟨h1, h2⟩, h3⟩, h4⟩ := h
 refine ⟨h2, h4, ?_, hb, fun t hm => ?_⟩
 ·unfold shapeOk kindOk at h4
  simp only [Bool.and_eq_true] at h4
  have := h4.2
  split at this
  ·simp only [decide_eq_true_eq] at this; omega
  ·split at this
   ·simp only [Bool.and_eq_true, decide_eq_true_eq] at this; omega
   ·split at this
    ·simp only [Bool.and_eq_true, decide_eq_true_eq] at this; omega
    ·cases this
 ·unfold tagsOk at h1
  obtain ⟨k, hk, rfl⟩ := List.getElem_of_mem hm
  have := allN_iff.1 h1 k hk
  rw [nth_nat _ hk] at this
  simp only [Bool.and_eq_true] at this
  exact ⟨word_len this.1.1, word_len this.1.2⟩
theorem shape_pts {s : Shape} (h : shapeOk s = true) : s.Pts.length ≤ 6 := by
 unfold shapeOk kindOk at h
 simp only [Bool.and_eq_true] at h
 have := h.2
 split at this
 ·simp only [decide_eq_true_eq] at this; omega
 ·split at this
  ·simp only [Bool.and_eq_true, decide_eq_true_eq] at this; omega
  ·split at this
   ·simp only [Bool.and_eq_true, decide_eq_true_eq] at this; omega
   ·cases this
theorem sideOf_hit {s : List Feat} {id : Str} (h : (sideOf s id).2 = true) : (sideOf s id).1 ∈ s ∧ (sideOf s id).1.Id = id := by
 unfold sideOf at h ⊢
 split at h
 ·cases h
 ·rename_i g
  rw [if_neg g]
  have h1 := findN_le s.length fun j => (nth s (j : Int)).Id == id
  obtain ⟨k, hk⟩ : ∃ k : Nat, findN s.length (fun j => (nth s (j : Int)).Id == id) = (k : Int) := ⟨_, (Int.toNat_of_nonneg OM).symm⟩
  obtain ⟨h2, h3⟩ := findN_true hk
  rw [hk]
  exact ⟨nth_mem s h2, by simpa using h3⟩
theorem sideOf_no {s : List Feat} {id : Str} (h : (sideOf s id).2 = false) : (sideOf s id).1 = zeroF ∧ id ∉ ids s := by
 unfold sideOf at h ⊢
 split at h
 ·rename_i g
  rw [if_pos g]
  refine ⟨rfl, fun hm => ?_⟩
  obtain ⟨f, hf, rfl⟩ := List.mem_map.1 hm
  obtain ⟨k, hk, rfl⟩ := List.getElem_of_mem hf
  have := findN_neg g k hk
  rw [nth_nat s hk] at this
  simp at this
 ·cases h
theorem sideOf_iff {s : List Feat} {id : Str} : (sideOf s id).2 = true ↔ id ∈ ids s := by
 constructor
 ·intro h
  obtain ⟨h1, h2⟩ := sideOf_hit h
  exact List.mem_map.2 ⟨_, h1, h2⟩
 ·intro h
  cases g : (sideOf s id).2 with
  | true => rfl
  | false => exact absurd h (sideOf_no g).2
def FS (l : List Feat) : Prop := l.Pairwise fun x y => Op.bytesLess x.Id y.Id = true
theorem FS.ext {l m : List Feat} (hl : FS l) (hm : FS m) (h : ∀ x, x ∈ l ↔ x ∈ m) : l = m :=
 pw_ext (R := fun x y : Feat => Op.bytesLess x.Id y.Id = true) (fun x e => by rw [less_irr] at e; cases e) (fun x y z h1 h2 => less_trans h1 h2) hl hm h
theorem FS.of_ids {l : List Feat} (h : SS (ids l)) : FS l := List.pairwise_map.1 h
theorem FS.inj {d : List Feat} (h : FS d) {x y : Feat} (hx : x ∈ d) (hy : y ∈ d) (e : x.Id = y.Id) : x = y := by
 obtain ⟨i, hi, rfl⟩ := List.getElem_of_mem hx
 obtain ⟨j, hj, rfl⟩ := List.getElem_of_mem hy
 rcases Nat.lt_trichotomy i j with g | g | g
 ·have := List.pairwise_iff_getElem.1 h i j hi hj g
  rw [e, less_irr] at this; cases this
 ·subst g; rfl
 ·have := List.pairwise_iff_getElem.1 h j i hj hi g
  rw [e, less_irr] at this; cases this
theorem sheet_fs {s : List Feat} (h : sheetOk s = true) : FS s := FS.of_ids (sheet_ss h).1
theorem sideOf_of {s : List Feat} (h : FS s) {f : Feat} (hf : f ∈ s) : sideOf s f.Id = (f, true) := by
 have h1 : (sideOf s f.Id).2 = true := sideOf_iff.2 (List.mem_map.2 ⟨f, hf, rfl⟩)
 obtain ⟨h2, h3⟩ := sideOf_hit h1
 have := h.inj h2 hf h3
 exact Prod.ext this h1
def fits (s : List Feat) (c : Change) : Bool := decide ((sideOf s c.Id).2 = c.Had) && decide ((sideOf s c.Id).1 = c.Was)
def doAt (s : List Feat) (d : List Change) (id : Str) : Option Feat :=
 if atC d id < 0 then (if (sideOf s id).2 then some (sideOf s id).1 else none) else (if (nth d (atC d id)).Has then some (nth d (atC d id)).Now else none)
def doL (s : List Feat) (d : List Change) : List Feat := (uniq (ids s ++ idsC d)).filterMap (doAt s d)
def diffDo (s : List Feat) (d : List Change) : List Feat × Bool := if sheetOk s && diffOk d && d.all (fits s) && sheetOk (doL s d) then (doL s d, true) else ([], false)
theorem now_id {d : List Change} (hd : ∀ c ∈ d, changeOk c = true) {c : Change} (hc : c ∈ d) (h : c.Has = true) : c.Now.Id = c.Id ∧ featOk c.Now = true := by
 have := hd c hc
 unfold changeOk at this
 simp only [Bool.and_eq_true] at this
 have h3 := this.1.2
 unfold sideOk at h3
 rw [h, if_pos rfl] at h3
 simp only [Bool.and_eq_true, decide_eq_true_eq] at h3
 exact ⟨h3.2, h3.1⟩
theorem doAt_id {s : List Feat} {d : List Change} (hd : ∀ c ∈ d, changeOk c = true) {id : Str} {f : Feat} (h : doAt s d id = some f) : f.Id = id := by
 unfold doAt at h
 split at h
 ·split at h
  ·rename_i g
   cases h
   exact (sideOf_hit g).2
  ·cases h
 ·rename_i g
  split at h
  ·rename_i k
   cases h
   obtain ⟨h1, h2⟩ := atC_hit g
   rw [(now_id hd h1 k).1, h2]
  ·cases h
theorem doL_fs (s : List Feat) {d : List Change} (hd : ∀ c ∈ d, changeOk c = true) : FS (doL s d) := by
 unfold FS doL
 refine List.Pairwise.filterMap _ (fun x y hxy f hf g hg => ?_) (uniq_ss (ids s ++ idsC d))
 rw [doAt_id hd hf, doAt_id hd hg]; exact hxy
def Mem (s : List Feat) (d : List Change) (f : Feat) : Prop := (f ∈ s ∧ f.Id ∉ idsC d) ∨ ∃ c ∈ d, c.Has = true ∧ c.Now = f
theorem doL_mem {s : List Feat} {d : List Change} (hs : FS s) (hc : CS d) (hd : ∀ c ∈ d, changeOk c = true) (f : Feat) : f ∈ doL s d ↔ Mem s d f := by
 unfold doL Mem
 rw [List.mem_filterMap]
 constructor
 ·rintro ⟨id, _, h⟩
  have hid := doAt_id hd h
  unfold doAt at h
  split at h
  ·rename_i g
   split at h
   ·rename_i k
    cases h
    obtain ⟨k1, k2⟩ := sideOf_hit k
    exact .inl ⟨k1, by rw [k2]; exact atC_miss g⟩
   ·cases h
  ·rename_i g
   split at h
   ·rename_i k
    cases h
    exact .inr ⟨_, (atC_hit g).1, k, rfl⟩
   ·cases h
 ·rintro (⟨h1, h2⟩ | ⟨c, h1, h2, rfl⟩)
  ·refine ⟨f.Id, uniq_mem.2 (List.mem_append.2 (.inl (List.mem_map.2 ⟨f, h1, rfl⟩))), ?_⟩
   unfold doAt
   rw [if_pos (by
    apply Classical.byContradiction
    intro g
    exact h2 (atC_mem g)), sideOf_of hs h1, if_pos rfl]
  ·have hid := (now_id hd h1 h2).1
   obtain ⟨g1, g2⟩ := atC_of hc h1
   refine ⟨c.Id, uniq_mem.2 (List.mem_append.2 (.inr (List.mem_map.2 ⟨c, h1, rfl⟩))), ?_⟩
   unfold doAt
   rw [if_neg g1, g2, if_pos h2]
theorem Mem.step {s : List Feat} {d : List Change} {u : Nat} (hu : u < d.length) (hc : CS d) (hd : ∀ c ∈ d, changeOk c = true) (f : Feat) :
  Mem s (d.take (u + 1)) f ↔ (Mem s (d.take u) f ∧ f.Id ≠ (nth d (u : Int)).Id) ∨ ((nth d (u : Int)).Has = true ∧ f = (nth d (u : Int)).Now) := by
 have e : idsC (d.take (u + 1)) = idsC (d.take u) ++ [(nth d (u : Int)).Id] := by rw [take_nth d hu, idsC_app]; rfl
 have hm : nth d (u : Int) ∈ d := nth_mem d hu
 have hlt : ∀ c ∈ d.take u, Op.bytesLess c.Id (nth d (u : Int)).Id = true := fun c hc' => by
  have h := hc
  rw [← List.take_append_drop u d] at h
  refine (List.pairwise_append.1 h).2.2 c hc' _ ?_
  rw [nth_nat d hu, List.drop_eq_getElem_cons hu]; exact List.mem_cons_self
 unfold Mem
 rw [e, take_nth d hu]
 constructor
 ·rintro (⟨h1, h2⟩ | ⟨c, h1, h2, rfl⟩)
  ·rw [List.mem_append, List.mem_singleton] at h2
   exact .inl ⟨.inl ⟨h1, fun h => h2 (.inl h)⟩, fun h => h2 (.inr h)⟩
  ·rcases List.mem_append.1 h1 with h1 | h1
   ·refine .inl ⟨.inr ⟨c, h1, h2, rfl⟩, fun h => ?_⟩
    rw [(now_id hd (List.mem_of_mem_take h1) h2).1] at h
    have := hlt c h1
    rw [h, less_irr] at this; cases this
   ·rw [List.mem_singleton] at h1
    subst h1
    exact .inr ⟨h2, rfl⟩
 ·rintro (⟨h1 | ⟨c, h1, h2, rfl⟩, h3⟩ | ⟨h1, rfl⟩)
  ·refine .inl ⟨h1.1, fun h => ?_⟩
   rcases List.mem_append.1 h with h | h
   ·exact h1.2 h
   ·exact h3 (List.mem_singleton.1 h)
  ·exact .inr ⟨c, List.mem_append_left _ h1, h2, rfl⟩
  ·exact .inr ⟨_, List.mem_append_right _ (List.mem_singleton.2 rfl), h1, rfl⟩
theorem Mem.zero (s : List Feat) (d : List Change) (f : Feat) : Mem s (d.take 0) f ↔ f ∈ s := by
 unfold Mem
 simp [idsC]
theorem doL_len {s : List Feat} {d : List Change} (hs : sheetOk s = true) (hd : diffOk d = true) : (doL s d).length ≤ 24 := by
 unfold doL
 have h1 := List.length_filterMap_le (doAt s d) (uniq (ids s ++ idsC d))
 have h2 := uniq_len (ids s ++ idsC d)
 have h3 : (ids s ++ idsC d).length = s.length + d.length := by unfold ids idsC; simp
 have := (sheet_ss hs).2.1; have := (diff_cs hd).2.1
 omega
theorem doL_ok {s : List Feat} {d : List Change} (hs : sheetOk s = true) (hd : diffOk d = true) : ∀ f ∈ doL s d, featOk f = true := fun f hf => by
 rcases (doL_mem (sheet_fs hs) (diff_cs hd).1 (diff_cs hd).2.2 f).1 hf with h | ⟨c, h1, h2, rfl⟩
 ·exact (sheet_ss hs).2.2 f h.1
 ·exact (now_id (diff_cs hd).2.2 h1 h2).2
theorem doL_small {s : List Feat} {d : List Change} (hs : sheetOk s = true) (hd : diffOk d = true) : bulk (doL s d) ≤ 3000 := by
 have h1 := bulk_small (doL s d) 100 fun f hf => (feat_small (doL_ok hs hd f hf)).1
 have h2 := doL_len hs hd
 have : (doL s d).length * (100 + 1) ≤ 24 * 101 := Nat.mul_le_mul h2 (Nat.le_refl _)
 omega
theorem del_mem {xs : List Feat} (hn : (ids xs).Nodup) {k : Nat} (hk : k < xs.length) : (ids (xs.take k ++ xs.drop (k + 1))).Nodup ∧ (∀ f, f ∈ xs.take k ++ xs.drop (k + 1) ↔ f ∈ xs ∧ f.Id ≠ xs[k].Id) ∧ (xs.take k ++ xs.drop (k + 1)).length < xs.length := by
 have e : xs = xs.take k ++ xs[k] :: xs.drop (k + 1) := by rw [← List.drop_eq_getElem_cons hk, List.take_append_drop]
 have hn' := hn
 rw [e] at hn'
 unfold ids at hn' ⊢
 rw [List.map_append, List.map_cons] at hn'
 obtain ⟨n1, n2, n3⟩ := List.nodup_append.1 hn'
 obtain ⟨n4, n5⟩ := List.nodup_cons.1 n2
 refine ⟨?_, fun f => ?_, by simp only [List.length_append, List.length_take, List.length_drop]; omega⟩
 ·rw [List.map_append]
  exact List.nodup_append.2 ⟨n1, n5, fun a ha b hb => n3 a ha b (List.mem_cons_of_mem _ hb)⟩
 ·constructor
  ·intro hf
   rcases List.mem_append.1 hf with hf | hf
   ·exact ⟨List.mem_of_mem_take hf, fun h => n3 _ (List.mem_map.2 ⟨f, hf, rfl⟩) _ List.mem_cons_self h⟩
   ·exact ⟨List.mem_of_mem_drop hf, fun h => n4 (by rw [← h]; exact List.mem_map.2 ⟨f, hf, rfl⟩)⟩
  ·rintro ⟨hf, hne⟩
   rw [e] at hf
   rcases List.mem_append.1 hf with hf | hf
   ·exact List.mem_append_left _ hf
   ·rcases List.mem_cons.1 hf with rfl | hf
    ·exact absurd rfl hne
    ·exact List.mem_append_right _ hf
theorem tags_ss {t : List Tag} (h : tagsOk t = true) : SS (keysT t) := by
 have h1 := allN_iff.1 h
 have hadj : ∀ k, 0 < k → k < t.length → Op.bytesLess (nth t ((k : Int) - 1)).Key (nth t (k : Int)).Key = true := fun k h0 hk => by
  have := h1 k hk
  simp only [Bool.and_eq_true, Bool.or_eq_true, decide_eq_true_eq] at this
  rcases this.2 with h | h
  ·omega
  ·exact h
 unfold SS keysT
 rw [List.pairwise_map]
 refine List.pairwise_iff_getElem.2 fun i j hi hj hij => ?_
 have key : ∀ d, i + d + 1 < t.length → Op.bytesLess t[i].Key (nth t ((i + d + 1 : Nat) : Int)).Key = true := by
  intro d
  induction d with
  | zero =>
   intro hd
   have := hadj (i + 0 + 1) OM hd
   rw [show (((i + 0 + 1 : Nat) : Int) - 1) = (i : Int) by omega, nth_nat t hi] at this
   exact this
  | succ d ih =>
   intro hd
   have := hadj (i + (d + 1) + 1) OM hd
   rw [show (((i + (d + 1) + 1 : Nat) : Int) - 1) = ((i + d + 1 : Nat) : Int) by omega] at this
   exact less_trans (ih OM) this
 have := key (j - i - 1) OM
 rw [show i + (j - i - 1) + 1 = j by omega, nth_nat t hj] at this
 exact this
theorem featOk_tags {f : Feat} (h : featOk f = true) : SS (keysT f.Tags) := by
 unfold featOk at h
 simp only [Bool.and_eq_true] at h
 exact tags_ss h.1.1.1
theorem tagsOk_of {t : List Tag} (hs : SS (keysT t)) (hw : ∀ x ∈ t, wordOk x.Key = true ∧ wordOk x.Val = true) : tagsOk t = true := by
 unfold tagsOk
 refine allN_true fun k hk => ?_
 obtain ⟨h1, h2⟩ := hw _ (nth_mem t hk)
 rw [h1, h2, Bool.true_and, Bool.true_and, Bool.or_eq_true, decide_eq_true_eq]
 rcases Nat.eq_zero_or_pos k with h0 | h0
 ·exact .inl h0
 refine .inr ?_
 unfold SS keysT at hs
 have := List.pairwise_iff_getElem.1 (List.pairwise_map.1 hs) (k - 1) k OM hk OM
 rw [show ((k : Int) - 1) = ((k - 1 : Nat) : Int) by omega, nth_nat t hk, nth_nat t OM]
 exact this
theorem feat_words {f : Feat} (h : featOk f = true) : wordOk f.Id = true ∧ ∀ x ∈ f.Tags, wordOk x.Key = true ∧ wordOk x.Val = true := by
 unfold featOk at h
 simp only [Bool.and_eq_true] at h
 refine ⟨h.1.2, fun x hx => ?_⟩
 have ht := h.1.1.1
 unfold tagsOk at ht
 obtain ⟨k, hk, rfl⟩ := List.getElem_of_mem hx
 have := allN_iff.1 ht k hk
 rw [nth_nat _ hk] at this
 simp only [Bool.and_eq_true] at this
 exact this.1
theorem shape_pos {s : Shape} (h : shapeOk s = true) : 1 ≤ s.Pts.length := by
 unfold shapeOk kindOk at h
 simp only [Bool.and_eq_true] at h
 have := h.2
 split at this
 ·simp only [decide_eq_true_eq] at this; omega
 ·split at this
  ·simp only [Bool.and_eq_true, decide_eq_true_eq] at this; omega
  ·split at this
   ·simp only [Bool.and_eq_true, decide_eq_true_eq] at this; omega
   ·cases this
theorem dot_ok {x y : Int} (h1 : 0 ≤ x) (h2 : x ≤ 5) (h3 : 0 ≤ y) (h4 : y ≤ 5) : shapeOk ⟨1, [⟨x, y⟩]⟩ = true := by
 have e : ptOk (⟨x, y⟩ : Pt) = true := by
  unfold ptOk inR
  simp only [Bool.and_eq_true, decide_eq_true_eq]; omega
 unfold shapeOk ptsOk kindOk
 rw [Bool.and_eq_true]
 refine ⟨allN_true fun k hk => ?_, by rw [if_pos rfl]; rfl⟩
 have hk : k < 1 := hk
 obtain rfl : k = 0 := by omega
 rw [Bool.and_eq_true]
 exact ⟨e, rfl⟩
def NX (q : Pt) : Prop := q.X ≠ 71 ∧ q.X ≠ 72
theorem NX.of {x y : Int} (h : x ≤ 3) : NX ⟨x, y⟩ := ⟨by dsimp only; omega, by dsimp only; omega⟩
def keyL : List Str := [[110, 97, 109, 101], [107, 105, 110, 100], [117, 115, 101], [116, 111, 110, 101]]
def valL : List Str := [[97], [98], [111, 97, 107], [97, 115, 104], [114, 111, 97, 100]]
def idL : List Str := [[97], [98], [99], [100], [101]]
def DT (x : Tag) : Prop := x.Key ∈ keyL ∧ x.Val ∈ valL
theorem keyL_ok : ∀ k ∈ keyL, wordOk k = true := by decide
theorem valL_ok : ∀ k ∈ valL, wordOk k = true := by decide
theorem idL_ok : ∀ k ∈ idL, wordOk k = true := by decide
def plainK (k : Str) : Prop := k ≠ [97, 97, 97] ∧ k ≠ [122, 122, 122]
theorem keyL_plain : ∀ k ∈ keyL, plainK k := by
 intro k hk
 simp only [keyL, List.mem_cons, List.not_mem_nil, or_false] at hk
 unfold plainK
 rcases hk with rfl | rfl | rfl | rfl <;> decide
theorem feat_of {id : Str} {s : Shape} {t : List Tag} (h1 : wordOk id = true) (h2 : shapeOk s = true) (h3 : SS (keysT t)) (h4 : t.length ≤ 4) (h5 : ∀ x ∈ t, wordOk x.Key = true ∧ wordOk x.Val = true) : featOk ⟨id, s, t⟩ = true := by
 unfold featOk
 dsimp only
 rw [tagsOk_of h3 h5, h1, h2, decide_eq_true h4]; rfl
structure FB (n : Nat) (f : Feat) : Prop where
 id : f.Id.length ≤ 7
 pts : f.Shape.Pts.length ≤ 7
 len : f.Tags.length ≤ n
 wd : ∀ x ∈ f.Tags, x.Key.length ≤ 6 ∧ x.Val.length ≤ 6
theorem FB.small {n : Nat} {f : Feat} (h : FB n f) : bulk f ≤ 14 + 13 * n := by
 have e : bulk f = bulk f.Id + (0 + bulk f.Shape.Pts) + bulk f.Tags := rfl
 have e2 : bulk f.Id = f.Id.length := bulk_str _
 have e3 : bulk f.Shape.Pts = f.Shape.Pts.length := bulk_flat (fun _ => rfl) _
 have hs := bulk_small f.Tags 12 fun t ht => by
  have := h.wd t ht
  have e : bulk t = bulk t.Key + bulk t.Val := rfl
  rw [e, bulk_str, bulk_str]; omega
 have : f.Tags.length * (12 + 1) ≤ n * 13 := Nat.mul_le_mul h.len (Nat.le_refl _)
 have := h.id; have := h.pts
 omega
theorem FB.of {f : Feat} (h : featOk f = true) : FB 4 f := by
 have := feat_facts h
 exact ⟨OM, OM, this.1, this.2.2.2.2⟩
theorem FB.mono {n m : Nat} {f : Feat} (h : FB n f) (hm : n ≤ m) : FB m f := ⟨h.id, h.pts, Nat.le_trans h.len hm, h.wd⟩
theorem DT.len {x : Tag} (h : DT x) : x.Key.length ≤ 6 ∧ x.Val.length ≤ 6 := ⟨word_len (keyL_ok _ h.1), word_len (valL_ok _ h.2)⟩
theorem DT.ok {x : Tag} (h : DT x) : wordOk x.Key = true ∧ wordOk x.Val = true := ⟨keyL_ok _ h.1, valL_ok _ h.2⟩
structure MB (n m : Nat) (s : List Feat) : Prop where
 len : s.length ≤ n
 fb : ∀ f ∈ s, FB m f
theorem MB.small {n m : Nat} {s : List Feat} (h : MB n m s) : bulk s ≤ n * (15 + 13 * m) := by
 have hs := bulk_small s (14 + 13 * m) fun f hf => (h.fb f hf).small
 have : s.length * (14 + 13 * m + 1) ≤ n * (15 + 13 * m) := Nat.mul_le_mul h.len OM
 omega
theorem MB.of {s : List Feat} (h : sheetOk s = true) : MB 8 4 s := ⟨(sheet_ss h).2.1, fun f hf => FB.of ((sheet_ss h).2.2 f hf)⟩
theorem MB.mono {n n' m m' : Nat} {s : List Feat} (h : MB n m s) (h1 : n ≤ n') (h2 : m ≤ m') : MB n' m' s := ⟨Nat.le_trans h.len h1, fun f hf => (h.fb f hf).mono h2⟩
theorem sheet_of {s : List Feat} (h1 : SS (ids s)) (h2 : s.length ≤ 8) (h3 : ∀ f ∈ s, featOk f = true) : sheetOk s = true := by
 unfold sheetOk
 rw [Bool.and_eq_true]
 refine ⟨allN_true fun k hk => ?_, decide_eq_true h2⟩
 rw [Bool.and_eq_true, Bool.or_eq_true, decide_eq_true_eq]
 refine ⟨h3 _ (nth_mem s hk), ?_⟩
 rcases Nat.eq_zero_or_pos k with h0 | h0
 ·exact .inl h0
 refine .inr ?_
 unfold SS ids at h1
 have := List.pairwise_iff_getElem.1 (List.pairwise_map.1 h1) (k - 1) k OM hk OM
 rw [show ((k : Int) - 1) = ((k - 1 : Nat) : Int) by omega, nth_nat s hk, nth_nat s OM]
 exact this
def zzI : Str := [122, 122]
theorem idL_nz : ∀ k ∈ idL, k ≠ zzI := by
 intro k hk
 simp only [idL, List.mem_cons, List.not_mem_nil, or_false] at hk
 rcases hk with rfl | rfl | rfl | rfl | rfl <;> decide
structure MD (s : List Feat) : Prop where
 mb : MB 14 4 s
 nz : ∀ f ∈ s, f.Id ≠ zzI
theorem MD.small {s : List Feat} (h : MD s) : bulk s ≤ 1048576 := Nat.le_trans h.mb.small RD
theorem diff_of {d : List Change} (h1 : CS d) (h2 : d.length ≤ 16) (h3 : ∀ c ∈ d, changeOk c = true) : diffOk d = true := by
 unfold diffOk
 rw [Bool.and_eq_true]
 refine ⟨allN_true fun k hk => ?_, decide_eq_true h2⟩
 rw [Bool.and_eq_true, Bool.or_eq_true, decide_eq_true_eq]
 refine ⟨h3 _ (nth_mem d hk), ?_⟩
 rcases Nat.eq_zero_or_pos k with h0 | h0
 ·exact .inl h0
 refine .inr ?_
 have := List.pairwise_iff_getElem.1 h1 (k - 1) k OM hk OM
 rw [show ((k : Int) - 1) = ((k - 1 : Nat) : Int) by omega, nth_nat d hk, nth_nat d OM]
 exact this
theorem sideOf_eq {l m : List Feat} (hl : FS l) (hm : FS m) {i : Str} (h : ∀ f, f.Id = i → (f ∈ l ↔ f ∈ m)) : sideOf l i = sideOf m i := by
 cases g : (sideOf l i).2 with
 | true =>
  obtain ⟨h1, h2⟩ := sideOf_hit g
  have h3 := sideOf_of hm ((h _ h2).1 h1)
  rw [h2] at h3
  rw [h3]; exact Prod.ext rfl g
 | false =>
  obtain ⟨h1, h2⟩ := sideOf_no g
  have h3 : (sideOf m i).2 = false := by
   cases k : (sideOf m i).2 with
   | false => rfl
   | true =>
    obtain ⟨k1, k2⟩ := sideOf_hit k
    exact absurd (List.mem_map.2 ⟨_, (h _ k2).2 k1, k2⟩) h2
  exact Prod.ext (h1.trans (sideOf_no h3).1.symm) (g.trans h3.symm)
theorem idsC_mem {d : List Change} {i : Str} : i ∈ idsC d ↔ ∃ c ∈ d, c.Id = i := List.mem_map
theorem diffDo_yes {s : List Feat} {d : List Change} (h1 : sheetOk s = true) (h2 : diffOk d = true) (h3 : ∀ c ∈ d, fits s c = true) (h4 : sheetOk (doL s d) = true) : diffDo s d = (doL s d, true) := by
 unfold diffDo
 rw [h1, h2, h4, show d.all (fits s) = true from List.all_eq_true.2 h3]; rfl
def PutS (s : List Feat) (f : Feat) (u : Nat) (xs : List Feat) (done : Bool) : Prop :=
 u ≤ s.length ∧ SS (ids xs) ∧ (∀ x, x ∈ ids xs ↔ x ∈ ids (s.take u) ∨ (done = true ∧ x = f.Id)) ∧ (done = false → (∀ x ∈ ids (s.take u), Op.bytesLess x f.Id = true) ∧ xs = s.take u) ∧
  (done = true → ∀ y ∈ ids (s.drop u), Op.bytesLess f.Id y = true) ∧ xs.length ≤ u + 1 ∧ (∀ z ∈ xs, z ∈ s ∨ z = f)
theorem ss_snoc {l : List Str} {x : Str} (h : SS l) (hx : ∀ y ∈ l, Op.bytesLess y x = true) : SS (l ++ [x]) := by
 unfold SS
 rw [List.pairwise_append]
 exact ⟨h, List.pairwise_singleton _ _, fun a ha b hb => by rw [List.mem_singleton.1 hb]; exact hx a ha⟩
theorem ids_take {s : List Feat} {u : Nat} (hu : u < s.length) : ids (s.take (u + 1)) = ids (s.take u) ++ [(nth s (u : Int)).Id] := by rw [take_nth s hu, ids_app]; rfl
theorem ids_cut (s : List Feat) (u : Nat) : ids s = ids (s.take u) ++ ids (s.drop u) := by rw [← ids_app, List.take_append_drop]
theorem dropNth {s : List Feat} {u : Nat} (hu : u < s.length) : s.drop u = nth s (u : Int) :: s.drop (u + 1) := by rw [nth_nat s hu]; exact List.drop_eq_getElem_cons hu
theorem ss_lt {s : List Feat} (h : SS (ids s)) {u : Nat} (hu : u < s.length) : (∀ x ∈ ids (s.take u), Op.bytesLess x (nth s (u : Int)).Id = true) ∧ ∀ y ∈ ids (s.drop (u + 1)), Op.bytesLess (nth s (u : Int)).Id y = true := by
 have e := ids_cut s u
 rw [dropNth hu] at e
 have e2 : ids (nth s (u : Int) :: s.drop (u + 1)) = (nth s (u : Int)).Id :: ids (s.drop (u + 1)) := rfl
 rw [e2] at e
 rw [e] at h
 obtain ⟨h1, h2, h3⟩ := List.pairwise_append.1 h
 exact ⟨fun x hx => h3 x hx _ List.mem_cons_self, (List.pairwise_cons.1 h2).1⟩
theorem F127.law (s : List Feat) (f : Feat) (Q : List Feat → Prop) (hl : s.length ≤ 1048576) (hs : SS (ids s)) (hq : ∀ r, SS (ids r) → (∀ x, x ∈ ids r ↔ x ∈ ids s ∨ x = f.Id) → r.length ≤ s.length + 1 → (∀ z ∈ r, z ∈ s ∨ z = f) → Q r) : F127.E s f Q := by
 unfold F127.E
 refine ⟨fun xs done i => ∃ u : Nat, i = u ∧ PutS s f u xs done, fun _ _ i => (s.length - i).toNat, ⟨0, rfl, Nat.zero_le _, by simp [ids, SS], by simp [ids], fun _ => ⟨by simp [ids], by simp⟩, (fun h => by cases h), by simp, by simp⟩, ?_⟩
 rintro xs done _ ⟨u, rfl, hu, h1, h2, h3, h4, h5, h6⟩
 by_cases h : u < s.length
 ·rw [if_pos (by simpa using h)]
  obtain ⟨b1, b2⟩ := ss_lt hs h
  have hin : nth s (u : Int) ∈ s := nth_mem s h
  have hdr : ∀ y ∈ ids (s.drop u), y = (nth s (u : Int)).Id ∨ y ∈ ids (s.drop (u + 1)) := fun y hy => by rw [dropNth h] at hy; exact List.mem_cons.1 hy
  have hcur : (nth s (u : Int)).Id ∈ ids (s.drop u) := by rw [dropNth h]; exact List.mem_cons_self
  have hdr' : ∀ y ∈ ids (s.drop (u + 1)), y ∈ ids (s.drop u) := fun y hy => by rw [dropNth h]; exact List.mem_cons_of_mem _ hy
  have stay : ∀ d, d = done → Op.bytesLess (nth s (u : Int)).Id f.Id = true ∨ d = true → xs.length + 1 ≤ u + 1 + 1 → PutS s f (u + 1) (xs ++ [nth s (u : Int)]) d := fun d hd hor hlen => by
   subst hd
   refine ⟨h, ?_, fun x => ?_, fun hdn => ⟨fun x hx => ?_, ?_⟩, fun hdn y hy => h4 hdn y (hdr' y hy), by simp only [List.length_append, List.length_singleton]; omega, fun z hz => ?_⟩
   ·rw [ids_app]
    refine ss_snoc h1 fun y hy => ?_
    rcases (h2 y).1 hy with hy | ⟨hd, rfl⟩
    ·exact b1 y hy
    ·exact h4 hd _ hcur
   ·rw [ids_app, List.mem_append, h2, ids_take h, List.mem_append]
    constructor
    ·rintro ((hx | hx) | hx)
     ·exact .inl (.inl hx)
     ·exact .inr hx
     ·exact .inl (.inr hx)
    ·rintro ((hx | hx) | hx)
     ·exact .inl (.inl hx)
     ·exact .inr hx
     ·exact .inl (.inr hx)
   ·rw [ids_take h] at hx
    rcases List.mem_append.1 hx with hx | hx
    ·exact (h3 hdn).1 x hx
    ·rw [List.mem_singleton.1 hx]
     rcases hor with hor | hor
     ·exact hor
     ·rw [hdn] at hor; cases hor
   ·rw [(h3 hdn).2, ← take_nth s h]
   ·rcases List.mem_append.1 hz with hz | hz
    ·exact h6 z hz
    ·rw [List.mem_singleton.1 hz]; exact .inl hin
  cases done with
  | true =>
   rw [if_neg RD]
   have hlt := h4 rfl _ hcur
   have hne : (nth s (u : Int)).Id ≠ f.Id := fun e => by rw [e, less_irr] at hlt; cases hlt
   refine ⟨OM, ?_⟩
   rw [if_pos (by rw [bne_iff_ne]; exact hne)]
   exact ⟨OM, by simp only [List.length_cons, List.length_nil]; omega, OM, ⟨u + 1, OM, stay true rfl (.inr rfl) OM⟩, by dsimp only; omega⟩
  | false =>
   rw [if_pos RD]
   obtain ⟨c1, c2⟩ := h3 rfl
   have hxl : xs.length = u := by rw [c2, List.length_take]; omega
   refine ⟨OM, ?_⟩
   cases k : Op.bytesLess (nth s (u : Int)).Id f.Id with
   | true =>
    rw [if_neg RD]
    have hne : (nth s (u : Int)).Id ≠ f.Id := fun e => by rw [e, less_irr] at k; cases k
    refine ⟨OM, ?_⟩
    rw [if_pos (by rw [bne_iff_ne]; exact hne)]
    exact ⟨OM, by simp only [List.length_cons, List.length_nil]; omega, OM, ⟨u + 1, OM, stay false rfl (.inl k) OM⟩, by dsimp only; omega⟩
   | false =>
    rw [if_pos RD]
    have g1 : SS (ids (xs ++ [f])) := by
     rw [ids_app]
     refine ss_snoc h1 fun y hy => ?_
     rcases (h2 y).1 hy with hy | ⟨hd, _⟩
     ·exact c1 y hy
     ·cases hd
    refine ⟨by simp only [List.length_cons, List.length_nil]; omega, OM, ?_⟩
    by_cases hne : (nth s (u : Int)).Id = f.Id
    ·rw [if_neg (by rw [hne]; simp)]
     refine ⟨OM, ⟨u + 1, OM, h, g1, fun x => ?_, (fun hd => by cases hd), fun _ y hy => by rw [← hne]; exact b2 y hy, by simp only [List.length_append, List.length_singleton]; omega, fun z hz => ?_⟩, by dsimp only; omega⟩
     ·rw [ids_app, List.mem_append, h2, ids_take h, List.mem_append, hne]
      show _ ∨ x ∈ [f.Id] ↔ _
      rw [List.mem_singleton]
      constructor
      ·rintro ((hx | ⟨hd, _⟩) | hx)
       ·exact .inl (.inl hx)
       ·cases hd
       ·exact .inr ⟨rfl, hx⟩
      ·rintro ((hx | hx) | ⟨_, hx⟩)
       ·exact .inl (.inl hx)
       ·exact .inr hx
       ·exact .inr hx
     ·rcases List.mem_append.1 hz with hz | hz
      ·exact h6 z hz
      ·exact .inr (List.mem_singleton.1 hz)
    ·rw [if_pos (by rw [bne_iff_ne]; exact hne)]
     have hlt : Op.bytesLess f.Id (nth s (u : Int)).Id = true := by
      rcases less_or k with g | g
      ·exact g
      ·exact absurd g.symm hne
     refine ⟨OM, by simp only [List.length_append, List.length_cons, List.length_nil]; omega, OM, ⟨u + 1, OM, h, ?_, fun x => ?_, (fun hd => by cases hd), fun _ y hy => less_trans hlt (b2 y hy), by simp only [List.length_append, List.length_singleton]; omega, fun z hz => ?_⟩, by dsimp only; omega⟩
     ·rw [ids_app]
      refine ss_snoc g1 fun y hy => ?_
      rw [ids_app] at hy
      rcases List.mem_append.1 hy with hy | hy
      ·rcases (h2 y).1 hy with hy | ⟨hd, _⟩
       ·exact b1 y hy
       ·cases hd
      ·have hy : y = f.Id := List.mem_singleton.1 hy
       rw [hy]; exact hlt
     ·rw [ids_app, ids_app, List.mem_append, List.mem_append, h2, ids_take h, List.mem_append]
      show (_ ∨ x ∈ [f.Id]) ∨ x ∈ [(nth s (u : Int)).Id] ↔ _
      rw [List.mem_singleton, List.mem_singleton]
      constructor
      ·rintro (((hx | ⟨hd, _⟩) | hx) | hx)
       ·exact .inl (.inl hx)
       ·cases hd
       ·exact .inr ⟨rfl, hx⟩
       ·exact .inl (.inr hx)
      ·rintro ((hx | hx) | ⟨_, hx⟩)
       ·exact .inl (.inl (.inl hx))
       ·exact .inr hx
       ·exact .inl (.inr hx)
     ·rcases List.mem_append.1 hz with hz | hz
      ·rcases List.mem_append.1 hz with hz | hz
       ·exact h6 z hz
       ·exact .inr (List.mem_singleton.1 hz)
      ·rw [List.mem_singleton.1 hz]; exact .inl hin
 ·rw [if_neg (by simpa using h)]
  have : u = s.length := by omega
  subst this
  rw [List.take_length] at h2 h3
  cases done with
  | true =>
   rw [if_neg RD]
   exact hq xs h1 (fun x => by rw [h2]; simp) h5 h6
  | false =>
   rw [if_pos RD]
   obtain ⟨c1, c2⟩ := h3 rfl
   refine ⟨by simp only [List.length_cons, List.length_nil]; omega, hq _ ?_ (fun x => ?_) (by rw [c2]; simp) fun z hz => ?_⟩
   ·rw [ids_app]
    refine ss_snoc h1 fun y hy => ?_
    rcases (h2 y).1 hy with hy | ⟨hd, _⟩
    ·exact c1 y hy
    ·cases hd
   ·rw [ids_app, List.mem_append, h2]
    show _ ∨ x ∈ [f.Id] ↔ _
    rw [List.mem_singleton]; simp
   ·rcases List.mem_append.1 hz with hz | hz
    ·exact h6 z hz
    ·exact .inr (List.mem_singleton.1 hz)
theorem side_ext {l m : List Feat} (hl : FS l) (hm : FS m) (h : ∀ i, sideOf l i = sideOf m i) : l = m := by
 have key : ∀ {a b : List Feat}, FS a → FS b → (∀ i, sideOf a i = sideOf b i) → ∀ f ∈ a, f ∈ b := fun ha hb h f hf => by
  have h1 := sideOf_of ha hf
  rw [h f.Id] at h1
  have h2 := (sideOf_hit (show (sideOf _ f.Id).2 = true by rw [h1])).1
  rw [h1] at h2; exact h2
 exact FS.ext hl hm fun f => ⟨key hl hm h f, key hm hl (fun i => (h i).symm) f⟩
theorem sideOf_doL {s : List Feat} {d : List Change} (hs : FS s) (hd : CS d) (hc : ∀ c ∈ d, changeOk c = true) : (∀ c ∈ d, sideOf (doL s d) c.Id = (c.Now, c.Has)) ∧ ∀ i, i ∉ idsC d → sideOf (doL s d) i = sideOf s i := by
 have fs := doL_fs s hc
 constructor
 ·intro c hm
  cases h : c.Has with
  | true =>
   have e := sideOf_of fs ((doL_mem hs hd hc _).2 (.inr ⟨c, hm, h, rfl⟩))
   rw [(now_id hc hm h).1] at e; exact e
  | false =>
   have hn : c.Now = zeroF := by
    have := hc c hm
    unfold changeOk at this
    simp only [Bool.and_eq_true] at this
    have h3 := this.1.2
    unfold sideOk at h3
    rw [h, if_neg RD] at h3
    exact of_decide_eq_true h3
   have h2 : (sideOf (doL s d) c.Id).2 = false := by
    cases k : (sideOf (doL s d) c.Id).2 with
    | false => rfl
    | true =>
     obtain ⟨k1, k2⟩ := sideOf_hit k
     rcases (doL_mem hs hd hc _).1 k1 with ⟨_, g⟩ | ⟨x, g1, g2, g3⟩
     ·exact absurd (idsC_mem.2 ⟨c, hm, k2.symm⟩) g
     ·rw [← g3, (now_id hc g1 g2).1] at k2
      rw [hd.inj g1 hm k2, h] at g2; cases g2
   rw [hn]
   exact Prod.ext (sideOf_no h2).1 h2
 ·intro i hi
  refine sideOf_eq fs hs fun f e => ?_
  rw [doL_mem hs hd hc]
  unfold Mem
  constructor
  ·rintro (⟨g, _⟩ | ⟨x, g1, g2, rfl⟩)
   ·exact g
   ·rw [(now_id hc g1 g2).1] at e
    exact absurd (idsC_mem.2 ⟨x, g1, e⟩) hi
  ·intro g; exact .inl ⟨g, by rw [e]; exact hi⟩
theorem diffOf_is {a b : List Feat} (ha : sheetOk a = true) (hb : sheetOk b = true) : diffOf a b = diffL a b (uniq (ids a ++ ids b)) := by unfold diffOf; rw [ha, hb]; rfl
theorem diffL_in {a b : List Feat} {l : List Str} {c : Change} (h : c ∈ diffL a b l) : c = diffC a b c.Id ∧ c.Id ∈ l ∧ sameC c = false := by
 unfold diffL at h
 obtain ⟨h1, h2⟩ := List.mem_filter.1 h
 obtain ⟨x, hx, rfl⟩ := List.mem_map.1 h1
 exact ⟨rfl, hx, by simpa using h2⟩
theorem diffOf_mem {a b : List Feat} (ha : sheetOk a = true) (hb : sheetOk b = true) (i : Str) : (i ∈ idsC (diffOf a b) → diffC a b i ∈ diffOf a b) ∧ (i ∉ idsC (diffOf a b) → sideOf a i = sideOf b i) := by
 rw [diffOf_is ha hb]
 constructor
 ·intro h
  obtain ⟨c, hc, rfl⟩ := idsC_mem.1 h
  rw [← (diffL_in hc).1]; exact hc
 ·intro h
  by_cases hl : i ∈ ids a ++ ids b
  ·have hs : sameC (diffC a b i) = true := by
    cases k : sameC (diffC a b i) with
    | true => rfl
    | false =>
     refine absurd (idsC_mem.2 ⟨diffC a b i, ?_, rfl⟩) h
     unfold diffL
     exact List.mem_filter.2 ⟨List.mem_map.2 ⟨i, uniq_mem.2 hl, rfl⟩, by rw [k]; rfl⟩
   unfold sameC diffC at hs
   simp only [Bool.and_eq_true, decide_eq_true_eq] at hs
   exact Prod.ext hs.2 hs.1
  ·have h1 : ∀ {s : List Feat}, i ∉ ids s → sideOf s i = (zeroF, false) := fun {s} hn => by
    have : (sideOf s i).2 = false := by
     cases k : (sideOf s i).2 with
     | false => rfl
     | true => exact absurd (sideOf_iff.1 k) hn
    exact Prod.ext (sideOf_no this).1 this
   rw [h1 fun g => hl (List.mem_append_left _ g), h1 fun g => hl (List.mem_append_right _ g)]
theorem diffOf_ok {a b : List Feat} (ha : sheetOk a = true) (hb : sheetOk b = true) : diffOk (diffOf a b) = true := by
 rw [diffOf_is ha hb]
 have la := (sheet_ss ha).2.1
 have lb := (sheet_ss hb).2.1
 have l1 := diffL_len a b (uniq (ids a ++ ids b))
 have l2 := uniq_len (ids a ++ ids b)
 have l3 : (ids a ++ ids b).length = a.length + b.length := by unfold ids; simp
 refine diff_of ?_ OM fun c hc => ?_
 ·unfold CS diffL
  refine List.Pairwise.filter _ (List.pairwise_map.2 ?_)
  exact (uniq_ss (ids a ++ ids b)).imp fun {x y} h => h
 ·obtain ⟨e, hi, hs⟩ := diffL_in hc
  have side : ∀ {s : List Feat}, sheetOk s = true → sideOk c.Id (sideOf s c.Id).2 (sideOf s c.Id).1 = true := fun {s} h => by
   unfold sideOk
   cases k : (sideOf s c.Id).2 with
   | true =>
    obtain ⟨k1, k2⟩ := sideOf_hit k
    rw [if_pos rfl, (sheet_ss h).2.2 _ k1, decide_eq_true k2]; rfl
   | false =>
    rw [if_neg RD, (sideOf_no k).1]
    exact decide_eq_true rfl
  have hw : wordOk c.Id = true := by
   rcases List.mem_append.1 (uniq_mem.1 hi) with g | g
   all_goals
    obtain ⟨f, hf, e2⟩ := List.mem_map.1 g
    rw [← e2]
   ·exact (feat_words ((sheet_ss ha).2.2 f hf)).1
   ·exact (feat_words ((sheet_ss hb).2.2 f hf)).1
  unfold changeOk
  have e1 : sideOk c.Id c.Had c.Was = true := by
   have h1 : c.Had = (sideOf a c.Id).2 := congrArg Change.Had e
   have h2 : c.Was = (sideOf a c.Id).1 := congrArg Change.Was e
   rw [h1, h2]; exact side ha
  have e2 : sideOk c.Id c.Has c.Now = true := by
   have h1 : c.Has = (sideOf b c.Id).2 := congrArg Change.Has e
   have h2 : c.Now = (sideOf b c.Id).1 := congrArg Change.Now e
   rw [h1, h2]; exact side hb
  rw [hs, hw, e1, e2]; rfl
theorem side_fits {s : List Feat} {c : Change} (h : sideOf s c.Id = (c.Was, c.Had)) : fits s c = true := by
 unfold fits; rw [h, decide_eq_true rfl, decide_eq_true rfl]; rfl
theorem diff_fits {a b : List Feat} (ha : sheetOk a = true) (hb : sheetOk b = true) {c : Change} (h : c ∈ diffOf a b) : sideOf a c.Id = (c.Was, c.Had) ∧ sideOf b c.Id = (c.Now, c.Has) := by
 rw [diffOf_is ha hb] at h
 have e := (diffL_in h).1
 constructor
 ·exact Prod.ext (congrArg Change.Was e).symm (congrArg Change.Had e).symm
 ·exact Prod.ext (congrArg Change.Now e).symm (congrArg Change.Has e).symm
theorem do_diff {a b : List Feat} (ha : sheetOk a = true) (hb : sheetOk b = true) : diffDo a (diffOf a b) = (b, true) := by
 have hd := diffOf_ok ha hb
 have hc := (diff_cs hd).2.2
 obtain ⟨p1, p2⟩ := sideOf_doL (sheet_fs ha) (diff_cs hd).1 hc
 have e : doL a (diffOf a b) = b := side_ext (doL_fs a hc) (sheet_fs hb) fun i => by
  by_cases hi : i ∈ idsC (diffOf a b)
  ·obtain ⟨c, hm, rfl⟩ := idsC_ex hi
   rw [p1 c hm, (diff_fits ha hb hm).2]
  ·rw [p2 i hi, (diffOf_mem ha hb i).2 hi]
 have := diffDo_yes ha hd (fun c hm => side_fits (diff_fits ha hb hm).1) (by rw [e]; exact hb)
 rw [e] at this; exact this
theorem diffL_turn (a b : List Feat) (l : List Str) : (diffL a b l).map turnC = diffL b a l := by
 unfold diffL
 induction l with
 | nil => rfl
 | cons i l ih =>
  rw [List.map_cons, List.map_cons, List.filter_cons, List.filter_cons, show sameC (diffC b a i) = sameC (diffC a b i) from same_turn (diffC a b i)]
  cases sameC (diffC a b i) with
  | true => exact ih
  | false => rw [if_pos (by rfl), if_pos (by rfl), List.map_cons, ih]; rfl
theorem diffOf_turn {a b : List Feat} (ha : sheetOk a = true) (hb : sheetOk b = true) : turnD (diffOf a b) = diffOf b a := by
 rw [turnD_is (diffOf_ok ha hb), diffOf_is ha hb, diffOf_is hb ha, diffL_turn, uniq_swap]
theorem diffOf_self {a b : List Feat} (ha : sheetOk a = true) (hb : sheetOk b = true) : diffOf a b = [] ↔ a = b := by
 constructor
 ·intro h
  refine side_ext (sheet_fs ha) (sheet_fs hb) fun i => (diffOf_mem ha hb i).2 ?_
  rw [h]; exact fun g => by cases g
 ·rintro rfl
  refine List.eq_nil_iff_forall_not_mem.2 fun x hx => ?_
  rw [diffOf_is ha ha] at hx
  obtain ⟨e, _, h3⟩ := diffL_in hx
  rw [e] at h3
  unfold sameC diffC at h3
  simp at h3
theorem F68.law (code : List UInt8) (Q : List UInt8 → Int → Prop) (hq : ∀ b, b.length ≤ 2000 → Q b 0) : F68.E code Q := by
 unfold F68.E
 by_cases h : (code.length : Int) > 2000
 ·rw [if_pos (by simpa using h)]
  exact ⟨OM, hq _ (by rw [List.length_take]; omega)⟩
 ·rw [if_neg (by simpa using h)]
  exact hq _ OM
theorem ediv_le {p l : Int} (hp : 0 ≤ p) (hl : 0 < l) : 0 ≤ p / l ∧ p / l ≤ p := ⟨Int.ediv_nonneg hp OM, Int.ediv_le_self _ hp⟩
theorem F22.law (b : List UInt8) (p n : Int) (Q : Int → Int → Prop) (hb : b.length ≤ 2000) (hp : 0 ≤ p) (hp1 : p ≤ 1099511627776) (hq : ∀ v, 0 ≤ v → (v < n ∨ v = 0) → Q v (p + 1)) : F22.E b p n Q := by
 unfold F22.E
 refine ⟨by unfold I64; omega, ?_⟩
 by_cases hn : n < 1
 ·rw [if_pos (by simpa using hn)]; exact hq 0 OM (.inr rfl)
 rw [if_neg (by simpa using hn)]
 by_cases hl : (b.length : Int) = 0
 ·rw [if_pos (by simpa using hl)]; exact hq 0 OM (.inr rfl)
 rw [if_neg (by simpa using hl)]
 refine ⟨fun _ => by unfold I64; omega, ?_⟩
 rw [show p + 1 - 1 = p by omega]
 have fin : ∀ z : Int, 0 ≤ z → Q (z % n) (p + 1) := fun z hz => hq _ (Int.emod_nonneg _ OM) (.inl (Int.emod_lt_of_pos _ OM))
 by_cases hc : p < (b.length : Int)
 ·rw [if_pos (by simpa using hc)]
  exact ⟨OM, ⟨OM, OM⟩, fin _ OM⟩
 rw [if_neg (by simpa using hc)]
 have hlen : (0 : Int) < (b.length : Int) := by omega
 generalize hL : (b.length : Int) = L at *
 have m1 := Int.emod_nonneg p (show L ≠ 0 by omega)
 have m2 := Int.emod_lt_of_pos p hlen
 have m3 := Int.emod_nonneg (p * 7 + 3) (show L ≠ 0 by omega)
 have m4 := Int.emod_lt_of_pos (p * 7 + 3) hlen
 obtain ⟨d1, d2⟩ := ediv_le hp hlen
 generalize p % L = r1 at *
 generalize (p * 7 + 3) % L = r2 at *
 generalize p / L = q at *
 have u1 := (nth b r1).toNat_lt
 have u2 := (nth b r2).toNat_lt
 generalize (nth b r1).toNat = x1 at *
 generalize (nth b r2).toNat = x2 at *
 have s0 : 0 ≤ (x1 : Int) * 131 + (x2 : Int) * 1117 + p * 29 + q * 53 := by omega
 have s1 : (x1 : Int) * 131 + (x2 : Int) * 1117 + p * 29 + q * 53 ≤ 9223372036854775807 := by omega
 refine ⟨OM, OM, fun _ => by unfold I64; omega, fun _ => by unfold I64; omega, fun _ => by unfold I64; omega, OM, OM, fun _ => by unfold I64; omega, fun _ => by unfold I64; omega, fun _ => by unfold I64; omega, fun _ => by unfold I64; omega, OM, fun _ => by unfold I64; omega, fun _ => by unfold I64; omega, OM, ?_⟩
 generalize (x1 : Int) * 131 + (x2 : Int) * 1117 + p * 29 + q * 53 = s at *
 have hx : 0 ≤ xor64 s (s / 64) := xor64_nonneg ⟨s0, s1⟩ OM
 exact ⟨OM, fin _ hx⟩
theorem F37.law (b : List UInt8) (p : Int) (l : List Int) (Q : Int → Int → Prop) (hb : b.length ≤ 2000) (hp : 0 ≤ p) (hp1 : p ≤ 1099511627776) (hl : 0 < l.length) (hq : ∀ s ∈ l, Q s (p + 1)) : F37.E b p l Q := by
 unfold F37.E
 exact F22.law _ _ _ _ hb hp hp1 fun v h0 h1 => ⟨OM, hq _ (nth_memi l h0 OM)⟩
theorem F138.law (b : List UInt8) (p : Int) (Q : Pt → Int → Prop) (hb : b.length ≤ 2000) (hp : 0 ≤ p) (hp1 : p ≤ 1000000000) (hq : ∀ x y, 0 ≤ x → x ≤ 3 → 0 ≤ y → y ≤ 5 → Q ⟨x, y⟩ (p + 2)) : F138.E b p Q := by
 unfold F138.E
 refine F22.law _ _ _ _ hb hp OM fun v h0 h1 => F37.law _ _ _ _ hb OM OM RD fun y hy => ?_
 rw [show p + 1 + 1 = p + 2 by omega]
 simp only [List.mem_cons, List.not_mem_nil, or_false] at hy
 exact hq _ _ h0 OM OM OM
theorem F121.m_is (a b : Int) : F121.m a b = min a b := by
 unfold F121.m
 by_cases h : a < b
 ·simp [h]; omega
 ·simp [h]; omega
theorem F122.m_is (n : Int) : F122.m n = inR n := by
 unfold F122.m inR
 by_cases h : -1000 ≤ n
 ·rw [if_pos (by rw [decide_eq_true_eq]; omega), decide_eq_true h, Bool.true_and]
 ·rw [if_neg (by rw [decide_eq_true_eq]; omega), decide_eq_false h, Bool.false_and]
theorem F123.law (p : List Pt) (Q : Bool → Prop) (hq : Q (ptsOk p && decide (p.length ≤ 6))) : F123.E p Q := by
 unfold F123.E
 unfold ptsOk at hq
 refine loop_all p.length (fun k => ptOk (nth p (k : Int)) && (decide (k = 0) || !(decide (nth p ((k : Int) - 1) = nth p (k : Int))))) (fun I mu k hk hp hn => ?_) (fun ha => ?_)
 ·refine ⟨OM, ?_⟩
  rw [F122.m_is, F122.m_is]
  have bad : (ptOk (nth p (k : Int)) && (decide (k = 0) || !(decide (nth p ((k : Int) - 1) = nth p (k : Int))))) = false → Q false := fun h => by
   rw [allN_false hk h, Bool.false_and] at hq; exact hq
  cases h1 : inR (nth p (k : Int)).X with
  | false => rw [if_pos RD]; exact bad (by simp only [ptOk, h1, Bool.false_and])
  | true =>
   rw [if_neg RD]
   refine ⟨OM, ?_⟩
   cases h2 : inR (nth p (k : Int)).Y with
   | false => rw [if_pos RD]; exact bad (by simp only [ptOk, h2, Bool.and_false, Bool.false_and])
   | true =>
    rw [if_neg RD]
    have hpt : ptOk (nth p (k : Int)) = true := by simp only [ptOk, h1, h2, Bool.and_self]
    by_cases hk0 : k = 0
    ·rw [if_neg (by rw [decide_eq_true_eq]; omega)]
     obtain ⟨i1, i2⟩ := hn (by rw [hpt, decide_eq_true hk0]; rfl)
     exact ⟨OM, i1, i2⟩
    ·rw [if_pos (by rw [decide_eq_true_eq]; omega)]
     refine ⟨OM, fun _ => by unfold I64; omega, OM, ?_⟩
     rw [eqPt_is]
     by_cases he : nth p ((k : Int) - 1) = nth p (k : Int)
     ·rw [if_pos (by rw [decide_eq_true_eq]; exact he.symm)]
      exact bad (by rw [hpt, decide_eq_false hk0, decide_eq_true he]; rfl)
     ·rw [if_neg (by rw [decide_eq_true_eq]; exact fun e => he e.symm)]
      obtain ⟨i1, i2⟩ := hn (by rw [hpt, decide_eq_false hk0, decide_eq_false he]; rfl)
      exact ⟨OM, i1, i2⟩
 ·rw [allN_true ha, Bool.true_and] at hq
  have e2 : decide ((p.length : Int) ≤ 6) = decide (p.length ≤ 6) := decide_eq_decide.2 OM
  rw [e2]; exact hq
theorem F69.law (s : Shape) (Q : Bool → Prop) (hq : Q (shapeOk s)) : F69.E s Q := by
 unfold F69.E
 unfold shapeOk at hq
 refine F123.law _ _ ?_
 cases h1 : ptsOk s.Pts with
 | false => rw [h1, Bool.false_and] at hq; rw [Bool.false_and, if_pos RD]; exact hq
 | true =>
  rw [h1, Bool.true_and] at hq
  rw [Bool.true_and]
  unfold kindOk at hq
  by_cases h6 : s.Pts.length ≤ 6
  ·rw [decide_eq_true h6, if_neg RD]
   by_cases k1 : s.Kind = 1
   ·rw [if_pos k1] at hq
    rw [if_pos (by rw [beq_iff_eq]; exact k1)]
    have : ((s.Pts.length : Int) == 1) = decide (s.Pts.length = 1) := by rw [Bool.eq_iff_iff, beq_iff_eq, decide_eq_true_eq]; omega
    rw [this]; exact hq
   rw [if_neg k1] at hq
   rw [if_neg (by rw [beq_iff_eq]; exact k1)]
   by_cases k2 : s.Kind = 2
   ·rw [if_pos k2, decide_eq_true h6, Bool.and_true] at hq
    rw [if_pos (by rw [beq_iff_eq]; exact k2)]
    have : decide ((s.Pts.length : Int) ≥ 2) = decide (2 ≤ s.Pts.length) := decide_eq_decide.2 OM
    rw [this]; exact hq
   rw [if_neg k2] at hq
   rw [if_neg (by rw [beq_iff_eq]; exact k2)]
   by_cases k3 : s.Kind = 3
   ·rw [if_pos k3, decide_eq_true h6, Bool.and_true] at hq
    rw [if_pos (by rw [beq_iff_eq]; exact k3)]
    by_cases h3 : 3 ≤ s.Pts.length
    ·rw [decide_eq_true h3, Bool.true_and] at hq
     rw [if_pos (by rw [decide_eq_true_eq]; omega), eqPt_is]
     exact ⟨OM, fun _ => by unfold I64; omega, OM, hq⟩
    ·rw [decide_eq_false h3, Bool.false_and] at hq
     rw [if_neg (by rw [decide_eq_true_eq]; omega)]; exact hq
   ·rw [if_neg k3] at hq
    rw [if_neg (by rw [beq_iff_eq]; exact k3)]; exact hq
  ·rw [decide_eq_false h6, if_pos RD]
   have : (if s.Kind = 1 then decide (s.Pts.length = 1) else if s.Kind = 2 then decide (2 ≤ s.Pts.length) && decide (s.Pts.length ≤ 6)
 else if s.Kind = 3 then decide (3 ≤ s.Pts.length) && decide (s.Pts.length ≤ 6) && !(decide (nth s.Pts 0 = nth s.Pts ((s.Pts.length : Int) - 1))) else false) = false := by
    rw [decide_eq_false h6, decide_eq_false (show ¬ s.Pts.length = 1 by omega)]
    simp
   rw [this] at hq; exact hq
theorem F70.law (b : List UInt8) (p : Int) (Q : Shape → Int → Prop) (hb : b.length ≤ 2000) (hp : 0 ≤ p) (hp1 : p ≤ 100000000) (hq : ∀ s p', shapeOk s = true → (∀ q ∈ s.Pts, NX q) → p ≤ p' → p' ≤ p + 40 → Q s p') : F70.E b p Q := by
 unfold F70.E
 refine F37.law _ _ _ _ hb hp OM RD fun k hk => F22.law _ _ _ _ hb OM OM fun v hv0 hv1 => ?_
 have hk' : 1 ≤ k ∧ k ≤ 3 := by
  simp only [List.mem_cons, List.not_mem_nil, or_false] at hk; omega
 have fin : ∀ (xs : List Pt) (z : Int), (∀ q ∈ xs, NX q) → p ≤ z → z ≤ p + 30 → F69.E ⟨k, xs⟩ (fun r6 => (if !r6 then F138.E b z (fun r7 m4 => Q (⟨1, ([r7] : List Pt)⟩ : Shape) m4) else Q (⟨k, xs⟩ : Shape) z)) := fun xs z hx h1 h2 => by
  refine F69.law _ _ ?_
  cases h : shapeOk ⟨k, xs⟩ with
  | true => rw [if_neg RD]; exact hq _ _ h hx h1 OM
  | false => rw [if_pos RD]; exact F138.law _ _ _ hb OM OM fun x y x0 x1 y0 y1 => hq _ _ (dot_ok x0 OM y0 y1) (fun q hq' => by rw [List.mem_singleton.1 hq']; exact .of x1) OM OM
 refine ⟨by unfold I64; omega, fun w => 1 ≤ w ∧ w ≤ 6, by split <;> omega, ?_⟩
 rintro want ⟨w1, w2⟩
 refine ⟨fun i xs z => 0 ≤ i ∧ i ≤ 12 ∧ (xs.length : Int) ≤ i ∧ (∀ q ∈ xs, NX q) ∧ p + 2 ≤ z ∧ z ≤ p + 2 + 2 * i, fun i _ _ => (12 - i).toNat, ⟨OM, OM, by simp, by simp, OM, OM⟩, ?_⟩
 rintro i xs z ⟨h0, h1, h2, hx, h3, h4⟩
 by_cases hi : i < 12
 case neg => rw [if_neg (by simpa using hi)]; exact fin _ _ hx OM OM
 rw [if_pos (by simpa using hi)]
 by_cases hl : (xs.length : Int) < F121.m want 6
 case neg => rw [if_neg (by simpa using hl)]; exact fin _ _ hx OM OM
 rw [if_pos (by simpa using hl)]
 refine F138.law _ _ _ hb OM OM fun x y x0 x1 y0 y1 => ⟨fun _ => True, ?_, fun v _ => ⟨fun ys => (ys.length : Int) ≤ i + 1 ∧ ∀ q ∈ ys, NX q, ?_, fun ys hys => ⟨by unfold I64; omega, ⟨OM, OM, hys.1, hys.2, OM, OM⟩, by dsimp only; omega⟩⟩⟩
 ·by_cases h0 : (xs.length : Int) = 0
  ·rw [if_pos (by simpa using h0)]; trivial
  ·rw [if_neg (by simpa using h0)]
   refine ⟨fun _ => by unfold I64; omega, OM, ?_⟩
   split
   ·split
    ·trivial
    ·exact ⟨OM, trivial⟩
   ·trivial
 ·cases v with
  | true => rw [if_pos rfl]; exact ⟨by simp only [List.length_cons, List.length_nil]; omega, by simp only [List.length_append, List.length_cons, List.length_nil]; omega, fun q hq' => (List.mem_append.1 hq').elim (hx q) fun g => by rw [List.mem_singleton.1 g]; exact .of x1⟩
  | false => rw [if_neg RD]; exact ⟨OM, hx⟩
theorem F45.law (b : List UInt8) (p : Int) (l : List Str) (Q : Str → Int → Prop) (hb : b.length ≤ 2000) (hp : 0 ≤ p) (hp1 : p ≤ 1099511627776) (hl : 0 < l.length) (hq : ∀ s ∈ l, Q s (p + 1)) : F45.E b p l Q := by
 unfold F45.E
 exact F22.law _ _ _ _ hb hp hp1 fun v h0 h1 => ⟨OM, hq _ (nth_memi l h0 OM)⟩
theorem F124.law (b : List UInt8) (p : Int) (Q : Str → Int → Prop) (hb : b.length ≤ 2000) (hp : 0 ≤ p) (hp1 : p ≤ 1000000000) (hq : ∀ k ∈ keyL, Q k (p + 1)) : F124.E b p Q := by
 unfold F124.E
 exact F45.law _ _ _ _ hb hp OM RD hq
theorem F125.law (b : List UInt8) (p : Int) (Q : Str → Int → Prop) (hb : b.length ≤ 2000) (hp : 0 ≤ p) (hp1 : p ≤ 1000000000) (hq : ∀ k ∈ valL, Q k (p + 1)) : F125.E b p Q := by
 unfold F125.E
 exact F45.law _ _ _ _ hb hp OM RD hq
def PutT (s : List Tag) (key val : Str) (u : Nat) (xs : List Tag) (done : Bool) : Prop :=
 u ≤ s.length ∧ SS (keysT xs) ∧ (∀ x, x ∈ keysT xs ↔ x ∈ keysT (s.take u) ∨ (done = true ∧ x = key)) ∧ (done = false → (∀ x ∈ keysT (s.take u), Op.bytesLess x key = true) ∧ xs = s.take u) ∧
  (done = true → ∀ y ∈ keysT (s.drop u), Op.bytesLess key y = true) ∧ xs.length ≤ u + 1 ∧ (∀ z ∈ xs, z ∈ s ∨ z = ⟨key, val⟩)
theorem ss_snocT {l : List Str} {x : Str} (h : SS l) (hx : ∀ y ∈ l, Op.bytesLess y x = true) : SS (l ++ [x]) := by
 unfold SS
 rw [List.pairwise_append]
 exact ⟨h, List.pairwise_singleton _ _, fun a ha b hb => by rw [List.mem_singleton.1 hb]; exact hx a ha⟩
theorem keys_take {s : List Tag} {u : Nat} (hu : u < s.length) : keysT (s.take (u + 1)) = keysT (s.take u) ++ [(nth s (u : Int)).Key] := by rw [take_nth s hu, keys_app]; rfl
theorem keys_cut (s : List Tag) (u : Nat) : keysT s = keysT (s.take u) ++ keysT (s.drop u) := by rw [← keys_app, List.take_append_drop]
theorem dropNthT {s : List Tag} {u : Nat} (hu : u < s.length) : s.drop u = nth s (u : Int) :: s.drop (u + 1) := by rw [nth_nat s hu]; exact List.drop_eq_getElem_cons hu
theorem ss_ltT {s : List Tag} (h : SS (keysT s)) {u : Nat} (hu : u < s.length) : (∀ x ∈ keysT (s.take u), Op.bytesLess x (nth s (u : Int)).Key = true) ∧ ∀ y ∈ keysT (s.drop (u + 1)), Op.bytesLess (nth s (u : Int)).Key y = true := by
 have e := keys_cut s u
 rw [dropNthT hu] at e
 have e2 : keysT (nth s (u : Int) :: s.drop (u + 1)) = (nth s (u : Int)).Key :: keysT (s.drop (u + 1)) := rfl
 rw [e2] at e
 rw [e] at h
 obtain ⟨h1, h2, h3⟩ := List.pairwise_append.1 h
 exact ⟨fun x hx => h3 x hx _ List.mem_cons_self, (List.pairwise_cons.1 h2).1⟩
theorem F126.law (s : List Tag) (key val : Str) (Q : List Tag → Prop) (hl : s.length ≤ 1048576) (hs : SS (keysT s)) (hq : ∀ r, SS (keysT r) → (∀ x, x ∈ keysT r ↔ x ∈ keysT s ∨ x = key) → r.length ≤ s.length + 1 → (∀ z ∈ r, z ∈ s ∨ z = ⟨key, val⟩) → Q r) : F126.E s key val Q := by
 unfold F126.E
 refine ⟨fun xs done i => ∃ u : Nat, i = u ∧ PutT s key val u xs done, fun _ _ i => (s.length - i).toNat, ⟨0, rfl, Nat.zero_le _, by simp [keysT, SS], by simp [keysT], fun _ => ⟨by simp [keysT], by simp⟩, (fun h => by cases h), by simp, by simp⟩, ?_⟩
 rintro xs done _ ⟨u, rfl, hu, h1, h2, h3, h4, h5, h6⟩
 by_cases h : u < s.length
 ·rw [if_pos (by simpa using h)]
  obtain ⟨b1, b2⟩ := ss_ltT hs h
  have hin : nth s (u : Int) ∈ s := nth_mem s h
  have hdr : ∀ y ∈ keysT (s.drop u), y = (nth s (u : Int)).Key ∨ y ∈ keysT (s.drop (u + 1)) := fun y hy => by rw [dropNthT h] at hy; exact List.mem_cons.1 hy
  have hcur : (nth s (u : Int)).Key ∈ keysT (s.drop u) := by rw [dropNthT h]; exact List.mem_cons_self
  have hdr' : ∀ y ∈ keysT (s.drop (u + 1)), y ∈ keysT (s.drop u) := fun y hy => by rw [dropNthT h]; exact List.mem_cons_of_mem _ hy
  have stay : ∀ d, d = done → Op.bytesLess (nth s (u : Int)).Key key = true ∨ d = true → xs.length + 1 ≤ u + 1 + 1 → PutT s key val (u + 1) (xs ++ [nth s (u : Int)]) d := fun d hd hor hlen => by
   subst hd
   refine ⟨h, ?_, fun x => ?_, fun hdn => ⟨fun x hx => ?_, ?_⟩, fun hdn y hy => h4 hdn y (hdr' y hy), by simp only [List.length_append, List.length_singleton]; omega, fun z hz => ?_⟩
   ·rw [keys_app]
    refine ss_snocT h1 fun y hy => ?_
    rcases (h2 y).1 hy with hy | ⟨hd, rfl⟩
    ·exact b1 y hy
    ·exact h4 hd _ hcur
   ·rw [keys_app, List.mem_append, h2, keys_take h, List.mem_append]
    constructor
    ·rintro ((hx | hx) | hx)
     ·exact .inl (.inl hx)
     ·exact .inr hx
     ·exact .inl (.inr hx)
    ·rintro ((hx | hx) | hx)
     ·exact .inl (.inl hx)
     ·exact .inr hx
     ·exact .inl (.inr hx)
   ·rw [keys_take h] at hx
    rcases List.mem_append.1 hx with hx | hx
    ·exact (h3 hdn).1 x hx
    ·rw [List.mem_singleton.1 hx]
     rcases hor with hor | hor
     ·exact hor
     ·rw [hdn] at hor; cases hor
   ·rw [(h3 hdn).2, ← take_nth s h]
   ·rcases List.mem_append.1 hz with hz | hz
    ·exact h6 z hz
    ·rw [List.mem_singleton.1 hz]; exact .inl hin
  cases done with
  | true =>
   rw [if_neg RD]
   have hlt := h4 rfl _ hcur
   have hne : (nth s (u : Int)).Key ≠ key := fun e => by rw [e, less_irr] at hlt; cases hlt
   refine ⟨OM, ?_⟩
   rw [if_pos (by rw [bne_iff_ne]; exact hne)]
   exact ⟨OM, by simp only [List.length_cons, List.length_nil]; omega, OM, ⟨u + 1, OM, stay true rfl (.inr rfl) OM⟩, by dsimp only; omega⟩
  | false =>
   rw [if_pos RD]
   obtain ⟨c1, c2⟩ := h3 rfl
   have hxl : xs.length = u := by rw [c2, List.length_take]; omega
   refine ⟨OM, ?_⟩
   cases k : Op.bytesLess (nth s (u : Int)).Key key with
   | true =>
    rw [if_neg RD]
    have hne : (nth s (u : Int)).Key ≠ key := fun e => by rw [e, less_irr] at k; cases k
    refine ⟨OM, ?_⟩
    rw [if_pos (by rw [bne_iff_ne]; exact hne)]
    exact ⟨OM, by simp only [List.length_cons, List.length_nil]; omega, OM, ⟨u + 1, OM, stay false rfl (.inl k) OM⟩, by dsimp only; omega⟩
   | false =>
    rw [if_pos RD]
    have g1 : SS (keysT (xs ++ [(⟨key, val⟩ : Tag)])) := by
     rw [keys_app]
     refine ss_snocT h1 fun y hy => ?_
     rcases (h2 y).1 hy with hy | ⟨hd, _⟩
     ·exact c1 y hy
     ·cases hd
    refine ⟨by simp only [List.length_cons, List.length_nil]; omega, OM, ?_⟩
    by_cases hne : (nth s (u : Int)).Key = key
    ·rw [if_neg (by rw [hne]; simp)]
     refine ⟨OM, ⟨u + 1, OM, h, g1, fun x => ?_, (fun hd => by cases hd), fun _ y hy => by rw [← hne]; exact b2 y hy, by simp only [List.length_append, List.length_singleton]; omega, fun z hz => ?_⟩, by dsimp only; omega⟩
     ·rw [keys_app, List.mem_append, h2, keys_take h, List.mem_append, hne]
      show _ ∨ x ∈ [key] ↔ _
      rw [List.mem_singleton]
      constructor
      ·rintro ((hx | ⟨hd, _⟩) | hx)
       ·exact .inl (.inl hx)
       ·cases hd
       ·exact .inr ⟨rfl, hx⟩
      ·rintro ((hx | hx) | ⟨_, hx⟩)
       ·exact .inl (.inl hx)
       ·exact .inr hx
       ·exact .inr hx
     ·rcases List.mem_append.1 hz with hz | hz
      ·exact h6 z hz
      ·exact .inr (List.mem_singleton.1 hz)
    ·rw [if_pos (by rw [bne_iff_ne]; exact hne)]
     have hlt : Op.bytesLess key (nth s (u : Int)).Key = true := by
      rcases less_or k with g | g
      ·exact g
      ·exact absurd g.symm hne
     refine ⟨OM, by simp only [List.length_append, List.length_cons, List.length_nil]; omega, OM, ⟨u + 1, OM, h, ?_, fun x => ?_, (fun hd => by cases hd), fun _ y hy => less_trans hlt (b2 y hy), by simp only [List.length_append, List.length_singleton]; omega, fun z hz => ?_⟩, by dsimp only; omega⟩
     ·rw [keys_app]
      refine ss_snocT g1 fun y hy => ?_
      rw [keys_app] at hy
      rcases List.mem_append.1 hy with hy | hy
      ·rcases (h2 y).1 hy with hy | ⟨hd, _⟩
       ·exact b1 y hy
       ·cases hd
      ·have hy : y = key := List.mem_singleton.1 hy
       rw [hy]; exact hlt
     ·rw [keys_app, keys_app, List.mem_append, List.mem_append, h2, keys_take h, List.mem_append]
      show (_ ∨ x ∈ [key]) ∨ x ∈ [(nth s (u : Int)).Key] ↔ _
      rw [List.mem_singleton, List.mem_singleton]
      constructor
      ·rintro (((hx | ⟨hd, _⟩) | hx) | hx)
       ·exact .inl (.inl hx)
       ·cases hd
       ·exact .inr ⟨rfl, hx⟩
       ·exact .inl (.inr hx)
      ·rintro ((hx | hx) | ⟨_, hx⟩)
       ·exact .inl (.inl (.inl hx))
       ·exact .inr hx
       ·exact .inl (.inr hx)
     ·rcases List.mem_append.1 hz with hz | hz
      ·rcases List.mem_append.1 hz with hz | hz
       ·exact h6 z hz
       ·exact .inr (List.mem_singleton.1 hz)
      ·rw [List.mem_singleton.1 hz]; exact .inl hin
 ·rw [if_neg (by simpa using h)]
  have : u = s.length := by omega
  subst this
  rw [List.take_length] at h2 h3
  cases done with
  | true =>
   rw [if_neg RD]
   exact hq xs h1 (fun x => by rw [h2]; simp) h5 h6
  | false =>
   rw [if_pos RD]
   obtain ⟨c1, c2⟩ := h3 rfl
   refine ⟨by simp only [List.length_cons, List.length_nil]; omega, hq _ ?_ (fun x => ?_) (by rw [c2]; simp) fun z hz => ?_⟩
   ·rw [keys_app]
    refine ss_snocT h1 fun y hy => ?_
    rcases (h2 y).1 hy with hy | ⟨hd, _⟩
    ·exact c1 y hy
    ·cases hd
   ·rw [keys_app, List.mem_append, h2]
    show _ ∨ x ∈ [key] ↔ _
    rw [List.mem_singleton]; simp
   ·rcases List.mem_append.1 hz with hz | hz
    ·exact h6 z hz
    ·exact .inr (List.mem_singleton.1 hz)
theorem keys_drawn {s : List Tag} {k v : Str} (hk : k ∈ keyL) (hv : v ∈ valL) (h : ∀ x ∈ s, DT x) {r : List Tag} (hr : ∀ z ∈ r, z ∈ s ∨ z = ⟨k, v⟩) : ∀ x ∈ r, DT x := fun x hx => by
 rcases hr x hx with g | rfl
 ·exact h x g
 ·exact ⟨hk, hv⟩
theorem F81.law (b : List UInt8) (p : Int) (id : Str) (Q : Feat → Int → Prop) (hb : b.length ≤ 2000) (hp : 0 ≤ p) (hp1 : p ≤ 10000000) (hq : ∀ s t p', shapeOk s = true → SS (keysT t) → t.length ≤ 3 → (∀ x ∈ t, DT x) → (∀ q ∈ s.Pts, NX q) → p ≤ p' → p' ≤ p + 60 → Q ⟨id, s, t⟩ p') : F81.E b p id Q := by
 unfold F81.E
 refine F70.law _ _ _ hb hp OM fun s p1 hs hx p0 p2 => F22.law _ _ _ _ hb OM OM fun k hk0 hk1 => ?_
 refine ⟨fun i t z => 0 ≤ i ∧ i ≤ 3 ∧ SS (keysT t) ∧ (t.length : Int) + i ≤ 3 ∧ (∀ x ∈ t, DT x) ∧ p ≤ z ∧ z ≤ p + 41 + 2 * (3 - i), fun i _ _ => i.toNat, ⟨OM, OM, List.Pairwise.nil, by simp only [List.length_nil]; omega, by simp, OM, OM⟩, ?_⟩
 rintro i t z ⟨h0, h1, h2, h3, h4, h5, h6⟩
 by_cases hi : i > 0
 case neg => rw [if_neg (by simpa using hi)]; exact hq _ _ _ hs h2 OM h4 hx h5 OM
 rw [if_pos (by simpa using hi)]
 refine F124.law _ _ _ hb OM OM fun key hkey => F125.law _ _ _ hb OM OM fun val hval => F126.law _ _ _ _ OM h2 fun r r1 r2 r3 r4 => ⟨by unfold I64; omega, ⟨OM, OM, r1, OM, keys_drawn hkey hval h4 r4, OM, OM⟩, by dsimp only; omega⟩
theorem feat_drawn {id : Str} {s : Shape} {t : List Tag} (h1 : wordOk id = true) (h2 : shapeOk s = true) (h3 : SS (keysT t)) (h4 : t.length ≤ 3) (h5 : ∀ x ∈ t, DT x) : featOk ⟨id, s, t⟩ = true := feat_of h1 h2 h3 OM fun x hx => (h5 x hx).ok
theorem F137.law (b : List UInt8) (p : Int) (Q : Str → Int → Prop) (hb : b.length ≤ 2000) (hp : 0 ≤ p) (hp1 : p ≤ 1000000000) (hq : ∀ k ∈ idL, Q k (p + 1)) : F137.E b p Q := by
 unfold F137.E
 exact F45.law _ _ _ _ hb hp OM RD hq
theorem F71.gen (P : Str → Prop) (hP : ∀ k ∈ idL, P k) (b : List UInt8) (p : Int) (Q : List Feat → Int → Prop) (hb : b.length ≤ 2000) (hp : 0 ≤ p) (hp1 : p ≤ 1000000) (hq : ∀ s p', sheetOk s = true → s.length ≤ 4 → (∀ f ∈ s, P f.Id) → (∀ f ∈ s, ∀ q ∈ f.Shape.Pts, NX q) → p ≤ p' → p' ≤ p + 300 → Q s p') : F71.E b p Q := by
 unfold F71.E
 refine F22.law _ _ _ _ hb hp OM fun k hk0 hk1 => ?_
 refine ⟨fun s i z => 0 ≤ i ∧ i ≤ 4 ∧ SS (ids s) ∧ (s.length : Int) + i ≤ 4 ∧ (∀ f ∈ s, featOk f = true ∧ P f.Id ∧ ∀ q ∈ f.Shape.Pts, NX q) ∧ p ≤ z ∧ z ≤ p + 1 + 61 * (4 - i), fun _ i _ => i.toNat, ⟨OM, OM, List.Pairwise.nil, by simp only [List.length_nil]; omega, by simp, OM, OM⟩, ?_⟩
 rintro s i z ⟨h0, h1, h2, h3, h4, h5, h6⟩
 by_cases hi : i > 0
 case neg => rw [if_neg (by simpa using hi)]; exact hq _ _ (sheet_of h2 OM fun f hf => (h4 f hf).1) OM (fun f hf => (h4 f hf).2.1) (fun f hf => (h4 f hf).2.2) h5 OM
 rw [if_pos (by simpa using hi)]
 refine F137.law _ _ _ hb OM OM fun id hid => F81.law _ _ _ _ hb OM OM fun sh t p1 hs ht tl td hx p2 p3 => F127.law _ _ _ OM h2 fun r r1 r2 r3 r4 => ⟨by unfold I64; omega, ⟨OM, OM, r1, OM, fun f hf => ?_, OM, OM⟩, by dsimp only; omega⟩
 rcases r4 f hf with g | rfl
 ·exact h4 f g
 ·exact ⟨feat_drawn (idL_ok _ hid) hs ht tl td, hP _ hid, hx⟩
theorem F71.law (b : List UInt8) (p : Int) (Q : List Feat → Int → Prop) (hb : b.length ≤ 2000) (hp : 0 ≤ p) (hp1 : p ≤ 1000000) (hq : ∀ s p', sheetOk s = true → s.length ≤ 4 → (∀ f ∈ s, f.Id ≠ zzI) → (∀ f ∈ s, ∀ q ∈ f.Shape.Pts, NX q) → p ≤ p' → p' ≤ p + 300 → Q s p') : F71.E b p Q :=
 F71.gen (fun i => i ≠ zzI) idL_nz b p Q hb hp hp1 hq
theorem F93.law (b : List UInt8) (p : Int) (Q : Shape → Int → Prop) (hb : b.length ≤ 2000) (hp : 0 ≤ p) (hp1 : p ≤ 10000000) (hq : ∀ s p', s.Pts.length ≤ 7 → (∀ q ∈ s.Pts, NX q) → p ≤ p' → p' ≤ p + 50 → Q s p') : F93.E b p Q := by
 unfold F93.E
 refine F70.law _ _ _ hb hp OM fun s p1 hs hx p0 p2 => F22.law _ _ _ _ hb OM OM fun k hk0 hk1 => F22.law _ _ _ _ hb OM OM fun v hv0 hv1 => ?_
 have l1 := shape_pos hs
 have l2 := shape_pts hs
 split
 ·exact F37.law _ _ _ _ hb OM OM RD fun n hn => hq _ _ (by dsimp only; omega) hx OM OM
 split
 ·exact F37.law _ _ _ _ hb OM OM RD fun n hn => ⟨OM, hq _ _ (by simp only [List.length_set]; omega) (fun q hq' => by
   rcases List.mem_or_eq_of_mem_set hq' with g | rfl
   ·exact hx q g
   ·simp only [List.mem_cons, List.not_mem_nil, or_false] at hn
    exact ⟨by dsimp only; omega, by dsimp only; omega⟩) OM OM⟩
 split
 ·exact ⟨fun _ => by unfold I64; omega, OM, by simp only [List.length_cons, List.length_nil]; omega, hq _ _ (by simp only [List.length_append, List.length_cons, List.length_nil]; omega) (fun q hq' => (List.mem_append.1 hq').elim (hx q) fun g => by rw [List.mem_singleton.1 g]; exact hx _ (nth_memi _ OM OM)) OM OM⟩
 split
 ·exact ⟨OM, hq _ _ (by simp only [List.length_take, List.length_drop]; omega) (fun q hq' => hx q (List.mem_of_mem_drop (List.mem_of_mem_take hq'))) OM OM⟩
 exact hq _ _ OM hx OM OM
theorem F94.law (b : List UInt8) (p : Int) (Q : Feat → Int → Prop) (hb : b.length ≤ 2000) (hp : 0 ≤ p) (hp1 : p ≤ 1000000) (hq : ∀ f p', FB 4 f → (∀ x ∈ f.Tags, plainK x.Key) → f.Id ≠ zzI → (∀ q ∈ f.Shape.Pts, NX q) → p ≤ p' → p' ≤ p + 120 → Q f p') : F94.E b p Q := by
 unfold F94.E
 refine F137.law _ _ _ hb hp OM fun id hid => F81.law _ _ _ _ hb OM OM fun s t p1 hs ht tl td hx p2 p3 => F22.law _ _ _ _ hb OM OM fun v hv0 hv1 => ?_
 have li := word_len (idL_ok _ hid)
 have lp := shape_pts hs
 have tp : ∀ x ∈ t, plainK x.Key := fun x hx => keyL_plain _ (td x hx).1
 have tw : ∀ x ∈ t, x.Key.length ≤ 6 ∧ x.Val.length ≤ 6 := fun x hx => (td x hx).len
 have iz := idL_nz _ hid
 split
 ·refine F45.law _ _ _ _ hb OM OM RD fun w hw => hq _ _ ⟨?_, by dsimp only; omega, by dsimp only; omega, tw⟩ tp ?_ hx OM OM
  all_goals
   simp only [List.mem_cons, List.not_mem_nil, or_false] at hw
   dsimp only
   rcases hw with rfl | rfl | rfl <;> decide
 split
 ·exact F93.law _ _ _ hb OM OM fun s' p4 h4 hx' h5 h6 => hq _ _ ⟨by dsimp only; omega, h4, by dsimp only; omega, tw⟩ tp iz hx' OM OM
 split
 ·refine ⟨by simp only [List.length_cons, List.length_nil]; omega, hq _ _ ⟨by dsimp only; omega, by dsimp only; omega, by simp only [List.length_append, List.length_cons, List.length_nil]; omega, fun x hx2 => ?_⟩ (fun x hx2 => ?_) iz hx OM OM⟩
  ·rcases List.mem_append.1 hx2 with hx2 | hx2
   ·exact tw x hx2
   ·rw [List.mem_singleton.1 hx2]; decide
  ·rcases List.mem_append.1 hx2 with hx2 | hx2
   ·exact tp x hx2
   ·rw [List.mem_singleton.1 hx2]; unfold plainK; dsimp only; decide
 split
 ·refine F45.law _ _ _ _ hb OM OM RD fun w hw => ⟨by simp only [List.length_cons, List.length_nil]; omega, hq _ _ ⟨by dsimp only; omega, by dsimp only; omega, by simp only [List.length_append, List.length_cons, List.length_nil]; omega, fun x hx2 => ?_⟩ (fun x hx2 => ?_) iz hx OM OM⟩
  ·rcases List.mem_append.1 hx2 with hx2 | hx2
   ·exact tw x hx2
   ·rw [List.mem_singleton.1 hx2]
    simp only [List.mem_cons, List.not_mem_nil, or_false] at hw
    rcases hw with rfl | rfl <;> decide
  ·rcases List.mem_append.1 hx2 with hx2 | hx2
   ·exact tp x hx2
   ·rw [List.mem_singleton.1 hx2]; unfold plainK; dsimp only; decide
 exact hq _ _ ⟨by dsimp only; omega, by dsimp only; omega, by dsimp only; omega, tw⟩ tp iz hx OM OM
theorem F107.law (b : List UInt8) (p : Int) (Q : List Feat → Int → Prop) (hb : b.length ≤ 2000) (hp : 0 ≤ p) (hp1 : p ≤ 100000) (hq : ∀ s p', MD s → (∀ f ∈ s, ∀ q ∈ f.Shape.Pts, NX q) → p ≤ p' → p' ≤ p + 500 → Q s p') : F107.E b p Q := by
 unfold F107.E
 refine F71.law _ _ _ hb hp OM fun s p1 hs hl hz hn p2 p3 => F22.law _ _ _ _ hb OM OM fun v hv0 hv1 => ?_
 have mb := MB.of hs
 have hm : MD s := ⟨⟨OM, mb.fb⟩, hz⟩
 split
 ·refine F94.law _ _ _ hb OM OM fun f p4 h1 _ h2 hfx h3 h4 => ⟨by simp only [List.length_cons, List.length_nil]; omega, hq _ _ ⟨⟨by simp only [List.length_append, List.length_cons, List.length_nil]; omega, fun x hx => ?_⟩, fun x hx => ?_⟩ (fun x hx => ?_) OM OM⟩
  ·rcases List.mem_append.1 hx with hx | hx
   ·exact mb.fb x hx
   ·rw [List.mem_singleton.1 hx]; exact h1
  ·rcases List.mem_append.1 hx with hx | hx
   ·exact hz x hx
   ·rw [List.mem_singleton.1 hx]; exact h2
  ·rcases List.mem_append.1 hx with hx | hx
   ·exact hn x hx
   ·rw [List.mem_singleton.1 hx]; exact hfx
 split
 ·refine ⟨OM, hq _ _ ⟨⟨by simp only [List.length_append]; omega, fun x hx => ?_⟩, fun x hx => ?_⟩ (fun x hx => ?_) OM OM⟩
  ·rcases List.mem_append.1 hx with hx | hx <;> exact mb.fb x hx
  ·rcases List.mem_append.1 hx with hx | hx <;> exact hz x hx
  ·rcases List.mem_append.1 hx with hx | hx <;> exact hn x hx
 split
 ·refine ⟨fun s i => 0 ≤ i ∧ i ≤ 9 ∧ SS (ids s) ∧ (s.length : Int) ≤ 4 + i ∧ (∀ f ∈ s, FB 4 f ∧ f.Id ≠ zzI ∧ ∀ q ∈ f.Shape.Pts, NX q), fun _ i => (9 - i).toNat, ⟨OM, OM, (sheet_ss hs).1, OM, fun f hf => ⟨mb.fb f hf, hz f hf, hn f hf⟩⟩, ?_⟩
  rintro s i ⟨h0, h1, h2, h3, h4⟩
  by_cases hi : i ≤ 8
  case neg => rw [if_neg (by simpa using hi)]; exact hq _ _ ⟨⟨OM, fun f hf => (h4 f hf).1⟩, fun f hf => (h4 f hf).2.1⟩ (fun f hf => (h4 f hf).2.2) OM OM
  rw [if_pos (by simpa using hi)]
  have hl1 : ∀ l : Str, ((l.drop i.toNat).take ((i + 1).toNat - i.toNat)).length ≤ 1 := fun l => by rw [List.length_take]; omega
  refine ⟨by unfold I64; omega, by simp only [List.length_cons, List.length_nil]; omega, F127.law _ _ _ OM h2 fun r r1 r2 r3 r4 => ⟨by unfold I64; omega, ⟨OM, OM, r1, OM, fun f hf => ?_⟩, by dsimp only; omega⟩⟩
  rcases r4 f hf with g | rfl
  ·exact h4 f g
  ·refine ⟨⟨Nat.le_trans (hl1 _) RD, by dsimp only [List.length_cons, List.length_nil]; omega, by simp only [List.length_nil]; omega, by simp⟩, fun e => ?_, fun q hq' => by rw [List.mem_singleton.1 hq']; exact .of RD⟩
   have := hl1 [113, 114, 115, 116, 117, 118, 119, 120, 121, 122]
   dsimp only at e
   rw [e] at this
   exact absurd this RD
 exact hq _ _ hm hn OM OM
theorem F82.law (s : List Feat) (id : Str) (Q : Int → Prop) (hq : Q (findN s.length fun j => (nth s (j : Int)).Id == id)) : F82.E s id Q := by
 unfold F82.E
 refine loop_find s.length (fun j => (nth s (j : Int)).Id == id) hq (fun I mu k hk h1 h2 => ⟨OM, ?_⟩)
 cases h : (nth s (k : Int)).Id == id with
 | true => rw [if_pos rfl]; exact h1 h
 | false => rw [if_neg RD]; obtain ⟨i1, i2⟩ := h2 h; exact ⟨OM, i1, i2⟩
theorem F128.law (s : List Feat) (id : Str) (Q : List Feat → Prop) (hl : s.length ≤ 1048576) (hq : Q (s.filter fun f => decide (f.Id ≠ id))) : F128.E s id Q := by
 unfold F128.E
 refine ⟨fun xs i => ∃ u : Nat, i = u ∧ u ≤ s.length ∧ xs = (s.take u).filter fun f => decide (f.Id ≠ id), fun _ i => (s.length - i).toNat, ⟨0, rfl, Nat.zero_le _, rfl⟩, ?_⟩
 rintro _ _ ⟨u, rfl, hu, rfl⟩
 have hfl := List.length_filter_le (fun f : Feat => decide (f.Id ≠ id)) (s.take u)
 rw [List.length_take] at hfl
 by_cases h : u < s.length
 ·rw [if_pos (by simpa using h)]
  refine ⟨OM, ?_⟩
  by_cases e : (nth s (u : Int)).Id = id
  ·rw [if_neg (by rw [e]; simp)]
   refine ⟨OM, ⟨u + 1, OM, OM, ?_⟩, by dsimp only; omega⟩
   rw [take_nth s h, List.filter_append, List.filter_cons_of_neg (by rw [decide_eq_true_eq]; exact fun g => g e), List.filter_nil, List.append_nil]
  ·rw [if_pos (by rw [bne_iff_ne]; exact e)]
   refine ⟨OM, by simp only [List.length_cons, List.length_nil]; omega, OM, ⟨u + 1, OM, OM, ?_⟩, by dsimp only; omega⟩
   rw [take_nth s h, List.filter_append, List.filter_cons_of_pos (by rw [decide_eq_true_eq]; exact e), List.filter_nil]
 ·rw [if_neg (by simpa using h)]
  have : u = s.length := by omega
  subst this
  rw [List.take_length]; exact hq
theorem F85.law (b : List UInt8) (p : Int) (s : Shape) (Q : Shape → Int → Prop) (hb : b.length ≤ 2000) (hp : 0 ≤ p) (hp1 : p ≤ 10000000) (hs : s.Pts.length ≤ 1000) (hq : ∀ r p', (r = s ∨ shapeOk r = true) → p ≤ p' → p' ≤ p + 4 → Q r p') : F85.E b p s Q := by
 unfold F85.E
 by_cases h0 : (s.Pts.length : Int) = 0
 ·rw [if_pos (by simpa using h0)]; exact hq _ _ (.inl rfl) OM OM
 rw [if_neg (by simpa using h0)]
 refine F22.law _ _ _ _ hb hp OM fun k hk0 hk1 => ⟨OM, by simp only [List.length_take, List.length_drop, List.length_nil]; omega, F22.law _ _ _ _ hb OM OM fun v hv0 hv1 => ?_⟩
 have fin : ∀ (r : Shape) (z : Int), p ≤ z → z ≤ p + 4 → F69.E r (fun r5 => (if !r5 then Q s z else Q r z)) := fun r z h1 h2 => by
  refine F69.law _ _ ?_
  cases h : shapeOk r with
  | true => rw [if_neg RD]; exact hq _ _ (.inr h) h1 h2
  | false => rw [if_pos RD]; exact hq _ _ (.inl rfl) h1 h2
 refine ⟨fun _ z => p ≤ z ∧ z ≤ p + 4, ?_, fun xs z hz => fin _ _ hz.1 hz.2⟩
 split
 ·exact ⟨OM, F138.law _ _ _ hb OM OM fun x y _ _ _ _ => ⟨by simp only [List.length_append, List.length_take, List.length_drop, List.length_nil, List.length_cons]; omega, by simp only [List.length_append, List.length_take, List.length_drop, List.length_nil, List.length_cons]; omega, OM, OM⟩⟩
 split
 ·exact ⟨fun _ => by unfold I64; omega, OM, by simp only [List.length_append, List.length_take, List.length_drop, List.length_nil, List.length_cons]; omega, OM, OM⟩
 exact ⟨fun _ => by unfold I64; omega, OM, F138.law _ _ _ hb OM OM fun x y _ _ _ _ => ⟨by simp only [List.length_append, List.length_take, List.length_drop, List.length_nil, List.length_cons]; omega, by simp only [List.length_append, List.length_take, List.length_drop, List.length_nil, List.length_cons]; omega, OM, OM⟩⟩
theorem F84.law (f : Feat) (Q : Feat → Prop) (hb : bulk f ≤ 1048576) (hq : Q f) : F84.E f Q := by
 unfold F84.E F83.E
 have h := bulk_feat f
 have h1 := bulk_len f.Tags
 have h2 := bulk_len f.Shape.Pts
 exact ⟨by simp only [List.length_nil]; omega, by simp only [List.length_nil]; omega, hq⟩
theorem F86.law (s : Str) (Q : Bool → Prop) (hq : Q (wordOk s)) : F86.E s Q := by
 unfold F86.E
 unfold wordOk at hq
 refine loop_all s.length (fun k => byteOk (nth s (k : Int))) (fun I mu k hk hp hn => ?_) (fun ha => ?_)
 ·refine ⟨OM, ?_⟩
  cases h1 : decide (((nth s (k : Int)).toNat : Int) < 97) with
  | true => rw [if_pos rfl]; rw [allN_false hk (by simp only [byteOk, h1]; rfl), Bool.false_and] at hq; exact hq
  | false =>
   rw [if_neg RD]
   refine ⟨OM, ?_⟩
   cases h2 : decide (((nth s (k : Int)).toNat : Int) > 122) with
   | true => rw [if_pos rfl]; rw [allN_false hk (by simp only [byteOk, h1, h2]; rfl), Bool.false_and] at hq; exact hq
   | false =>
    rw [if_neg RD]
    obtain ⟨i1, i2⟩ := hn (by simp only [byteOk, h1, h2]; rfl)
    exact ⟨OM, i1, i2⟩
 ·rw [allN_true ha, Bool.true_and] at hq
  by_cases h : 1 ≤ s.length
  ·rw [decide_eq_true h, Bool.true_and] at hq
   rw [if_pos (by rw [decide_eq_true_eq]; omega)]
   have e2 : decide ((s.length : Int) ≤ 6) = decide (s.length ≤ 6) := decide_eq_decide.2 OM
   rw [e2]; exact hq
  ·rw [decide_eq_false h, Bool.false_and] at hq
   rw [if_neg (by rw [decide_eq_true_eq]; omega)]; exact hq
theorem F87.law (t : List Tag) (Q : Bool → Prop) (hq : Q (tagsOk t && decide (t.length ≤ 4))) : F87.E t Q := by
 unfold F87.E
 unfold tagsOk at hq
 refine loop_all t.length (fun k => wordOk (nth t (k : Int)).Key && wordOk (nth t (k : Int)).Val && (decide (k = 0) || Op.bytesLess (nth t ((k : Int) - 1)).Key (nth t (k : Int)).Key)) (fun I mu k hk hp hn => ?_) (fun ha => ?_)
 ·have bad : (wordOk (nth t (k : Int)).Key && wordOk (nth t (k : Int)).Val && (decide (k = 0) || Op.bytesLess (nth t ((k : Int) - 1)).Key (nth t (k : Int)).Key)) = false → Q false := fun h => by
   rw [allN_false hk h, Bool.false_and] at hq; exact hq
  refine ⟨OM, _, F86.law _ _ rfl, ?_⟩
  cases h1 : wordOk (nth t (k : Int)).Key with
  | false => rw [if_pos RD]; exact bad (by rw [h1]; rfl)
  | true =>
   rw [if_neg RD]
   refine ⟨OM, _, F86.law _ _ rfl, ?_⟩
   cases h2 : wordOk (nth t (k : Int)).Val with
   | false => rw [if_pos RD]; exact bad (by rw [h2, Bool.and_false]; rfl)
   | true =>
    rw [if_neg RD]
    by_cases hk0 : k = 0
    ·rw [if_neg (by rw [decide_eq_true_eq]; omega)]
     obtain ⟨i1, i2⟩ := hn (by rw [h1, h2, decide_eq_true hk0]; rfl)
     exact ⟨OM, i1, i2⟩
    ·rw [if_pos (by rw [decide_eq_true_eq]; omega)]
     refine ⟨OM, fun _ => by unfold I64; omega, OM, ?_⟩
     rw [← less_tri]
     cases h3 : Op.bytesLess (nth t ((k : Int) - 1)).Key (nth t (k : Int)).Key with
     | false => rw [if_pos RD]; exact bad (by rw [h3, h1, h2, decide_eq_false hk0]; rfl)
     | true =>
      rw [if_neg RD]
      obtain ⟨i1, i2⟩ := hn (by rw [h3, h1, h2, decide_eq_false hk0]; rfl)
      exact ⟨OM, i1, i2⟩
 ·rw [allN_true ha, Bool.true_and] at hq
  have e2 : decide ((t.length : Int) ≤ 4) = decide (t.length ≤ 4) := decide_eq_decide.2 OM
  rw [e2]; exact hq
theorem F88.law (f : Feat) (Q : Bool → Prop) (hq : Q (featOk f)) : F88.E f Q := by
 unfold F88.E
 unfold featOk at hq
 refine F86.law _ _ ?_
 cases h1 : wordOk f.Id with
 | false => rw [h1, Bool.and_false, Bool.false_and] at hq; rw [if_neg RD]; exact hq
 | true =>
  rw [h1, Bool.and_true] at hq
  rw [if_pos rfl]
  refine F69.law _ _ ?_
  cases h2 : shapeOk f.Shape with
  | false => rw [h2, Bool.and_false] at hq; rw [if_neg RD]; exact hq
  | true => rw [h2, Bool.and_true] at hq; rw [if_pos rfl]; exact F87.law _ _ hq
theorem F72.law (d : List Feat) (Q : Bool → Prop) (hq : Q (sheetOk d)) : F72.E d Q := by
 unfold F72.E
 unfold sheetOk at hq
 refine loop_all d.length (fun k => featOk (nth d (k : Int)) && (decide (k = 0) || Op.bytesLess (nth d ((k : Int) - 1)).Id (nth d (k : Int)).Id)) (fun I mu k hk hp hn => ?_) (fun ha => ?_)
 ·have bad : (featOk (nth d (k : Int)) && (decide (k = 0) || Op.bytesLess (nth d ((k : Int) - 1)).Id (nth d (k : Int)).Id)) = false → Q false := fun h => by
   rw [allN_false hk h, Bool.false_and] at hq; exact hq
  refine ⟨OM, _, F88.law _ _ rfl, ?_⟩
  cases h1 : featOk (nth d (k : Int)) with
  | false => rw [if_pos RD]; exact bad (by rw [h1]; rfl)
  | true =>
   rw [if_neg RD]
   by_cases hk0 : k = 0
   ·rw [if_neg (by rw [decide_eq_true_eq]; omega)]
    obtain ⟨i1, i2⟩ := hn (by rw [h1, decide_eq_true hk0]; rfl)
    exact ⟨OM, i1, i2⟩
   ·rw [if_pos (by rw [decide_eq_true_eq]; omega)]
    refine ⟨OM, fun _ => by unfold I64; omega, OM, ?_⟩
    rw [← less_tri]
    cases h3 : Op.bytesLess (nth d ((k : Int) - 1)).Id (nth d (k : Int)).Id with
    | false => rw [if_pos RD]; exact bad (by rw [h3, h1, decide_eq_false hk0]; rfl)
    | true =>
     rw [if_neg RD]
     obtain ⟨i1, i2⟩ := hn (by rw [h3, h1, decide_eq_false hk0]; rfl)
     exact ⟨OM, i1, i2⟩
 ·rw [allN_true ha, Bool.true_and] at hq
  have e2 : decide ((d.length : Int) ≤ 8) = decide (d.length ≤ 8) := decide_eq_decide.2 OM
  rw [e2]; exact hq
theorem FB.put {n : Nat} {f : Feat} (h : FB n f) {k v : Str} (hk : k ∈ keyL) (hv : v ∈ valL) {r : List Tag} (hl : r.length ≤ f.Tags.length + 1) (hr : ∀ z ∈ r, z ∈ f.Tags ∨ z = ⟨k, v⟩) : FB (n + 1) ⟨f.Id, f.Shape, r⟩ := ⟨h.id, h.pts, Nat.le_trans hl (Nat.succ_le_succ h.len), fun x hx => by
 rcases hr x hx with g | rfl
 ·exact h.wd x g
 ·exact DT.len ⟨hk, hv⟩⟩
theorem F89.gen (P : Str → Prop) (hP : ∀ k ∈ idL, P k) (b : List UInt8) (p : Int) (s : List Feat) (Q : List Feat → Int → Prop) (hb : b.length ≤ 2000) (hp : 0 ≤ p) (hp1 : p ≤ 1000000) (hs : sheetOk s = true) (hz : ∀ f ∈ s, P f.Id) (hq : ∀ r p', sheetOk r = true → (∀ f ∈ r, P f.Id) → p ≤ p' → p' ≤ p + 250 → Q r p') : F89.E b p s Q := by
 unfold F89.E
 have mb := MB.of hs
 refine F22.law _ _ _ _ hb hp OM fun k hk0 hk1 => ⟨by unfold I64; omega, ?_⟩
 refine ⟨fun s i z => 0 ≤ i ∧ i ≤ 3 ∧ SS (ids s) ∧ (s.length : Int) + i ≤ 11 ∧ (∀ f ∈ s, SS (keysT f.Tags) ∧ FB (7 - i.toNat) f ∧ P f.Id) ∧ p ≤ z ∧ z ≤ p + 1 + 65 * (3 - i), fun _ i _ => i.toNat, ⟨OM, OM, (sheet_ss hs).1, by have := mb.len; omega, fun f hf => ⟨featOk_tags ((sheet_ss hs).2.2 f hf), (mb.fb f hf).mono OM, hz f hf⟩, OM, OM⟩, ?_⟩
 rintro s2 i z ⟨h0, h1, h2, h3, h4, h5, h6⟩
 by_cases hi : i > 0
 case neg =>
  rw [if_neg (by simpa using hi)]
  refine F72.law _ _ ?_
  cases h : sheetOk s2 with
  | true => rw [if_neg RD]; exact hq _ _ h (fun f hf => (h4 f hf).2.2) h5 OM
  | false => rw [if_pos RD]; exact hq _ _ hs hz h5 OM
 rw [if_pos (by simpa using hi)]
 have em : 7 - (i - 1).toNat = 7 - i.toNat + 1 := by omega
 have step : ∀ (f : Feat), SS (keysT f.Tags) → FB (7 - i.toNat + 1) f → P f.Id → ∀ r : List Feat, (∀ z ∈ r, z ∈ s2 ∨ z = f) → ∀ x ∈ r, SS (keysT x.Tags) ∧ FB (7 - (i - 1).toNat) x ∧ P x.Id := fun f a1 a2 a3 r hr x hx => by
  rw [em]
  rcases hr x hx with g | rfl
  ·have := h4 x g
   exact ⟨this.1, this.2.1.mono OM, this.2.2⟩
  ·exact ⟨a1, a2, a3⟩
 refine F137.law _ _ _ hb OM OM fun id hid => F82.law _ _ _ ?_
 have hle := findN_le s2.length fun j => (nth s2 (j : Int)).Id == id
 generalize findN s2.length (fun j => (nth s2 (j : Int)).Id == id) = at_ at *
 by_cases ha : at_ < 0
 ·rw [if_pos (by simpa using ha)]
  refine F81.law _ _ _ _ hb OM OM fun sh t p1 hsh ht tl td _ p2 p3 => F127.law _ _ _ OM h2 fun r r1 r2 r3 r4 => ⟨by unfold I64; omega, ⟨OM, OM, r1, OM, step _ ht ?_ (hP _ hid) r r4, OM, OM⟩, by dsimp only; omega⟩
  exact ((FB.of (feat_drawn (idL_ok _ hid) hsh ht tl td)).mono OM)
 rw [if_neg (by simpa using ha)]
 have hm : nth s2 at_ ∈ s2 := nth_memi s2 OM hle.2
 obtain ⟨f1, f2, f3⟩ := h4 _ hm
 have fb := f2.small
 refine F22.law _ _ _ _ hb OM OM fun v hv0 hv1 => ?_
 split
 ·refine F128.law _ _ _ OM ⟨by unfold I64; omega, ⟨OM, OM, ?_, ?_, fun x hx => ?_, OM, OM⟩, by dsimp only; omega⟩
  ·unfold SS ids at h2 ⊢
   exact List.Pairwise.sublist (List.filter_sublist.map _) h2
  ·have := List.length_filter_le (fun f : Feat => decide (f.Id ≠ id)) s2; omega
  ·have := h4 x (List.mem_filter.1 hx).1
   exact ⟨this.1, this.2.1.mono OM, this.2.2⟩
 refine F22.law _ _ _ _ hb OM OM fun w hw0 hw1 => ?_
 split
 ·refine ⟨OM, F84.law _ _ OM (F124.law _ _ _ hb OM OM fun key hkey => F125.law _ _ _ hb OM OM fun val hval => F126.law _ _ _ _ (by have := f2.len; omega) f1 fun t t1 t2 t3 t4 => F127.law _ _ _ OM h2 fun r r1 r2 r3 r4 => ⟨by unfold I64; omega, ⟨OM, OM, r1, OM, step _ t1 (f2.put hkey hval t3 t4) f3 r r4, OM, OM⟩, by dsimp only; omega⟩)⟩
 ·refine ⟨OM, F84.law _ _ OM (F85.law _ _ _ _ hb OM OM (by have := f2.pts; omega) fun sh p' hsh p1 p2 => F127.law _ _ _ OM h2 fun r r1 r2 r3 r4 => ⟨by unfold I64; omega, ⟨OM, OM, r1, OM, step ⟨(nth s2 at_).Id, sh, (nth s2 at_).Tags⟩ f1 ⟨f2.id, ?_, Nat.le_trans f2.len OM, f2.wd⟩ f3 r r4, OM, OM⟩, by dsimp only; omega⟩)⟩
  rcases hsh with rfl | hsh
  ·exact f2.pts
  ·exact Nat.le_trans (shape_pts hsh) RD
theorem F89.law (b : List UInt8) (p : Int) (s : List Feat) (Q : List Feat → Int → Prop) (hb : b.length ≤ 2000) (hp : 0 ≤ p) (hp1 : p ≤ 1000000) (hs : sheetOk s = true) (hz : ∀ f ∈ s, f.Id ≠ zzI) (hq : ∀ r p', sheetOk r = true → (∀ f ∈ r, f.Id ≠ zzI) → p ≤ p' → p' ≤ p + 250 → Q r p') : F89.E b p s Q :=
 F89.gen (fun i => i ≠ zzI) idL_nz b p s Q hb hp hp1 hs hz hq
theorem F29.law (code : List UInt8) (Q : List Feat → List Feat → Prop) (hq : ∀ a b, MD a → MD b → Q a b) : F29.E code Q := by
 unfold F29.E
 refine F68.law _ _ fun b hb => F107.law _ _ _ hb OM OM fun s p ms _ p0 p1 => F72.law _ _ ?_
 cases hs : sheetOk s with
 | false => rw [if_pos RD]; exact F107.law _ _ _ hb OM OM fun t p2 mt _ _ _ => hq _ _ ms mt
 | true =>
 rw [if_neg RD]
 refine F22.law _ _ _ _ hb OM OM fun v hv0 hv1 => ?_
 split
 ·exact F107.law _ _ _ hb OM OM fun t p2 mt _ _ _ => hq _ _ ms mt
 exact F89.law _ _ _ _ hb OM OM hs ms.nz fun r p4 hr rz _ _ => hq _ _ ms ⟨(MB.of hr).mono OM OM, rz⟩
theorem F2.law (s : List Feat) (f : Feat → Bool) (ok : Feat → Prop) (Q : Int → Prop) (hl : s.length ≤ 1048576) (hok : ∀ x ∈ s, ok x) (hq : Q (findN s.length fun j => f (nth s (j : Int)))) : F2.E s f ok Q := by
 unfold F2.E
 refine loop_find s.length (fun j => f (nth s (j : Int))) hq (fun I mu k hk h1 h2 => ⟨OM, hok _ (nth_mem s hk), ?_⟩)
 cases h : f (nth s (k : Int)) with
 | true => rw [if_pos rfl]; exact h1 h
 | false => rw [if_neg RD]; obtain ⟨i1, i2⟩ := h2 h; exact ⟨by unfold I64; omega, i1, i2⟩
theorem F108.law (s : List Feat) (id : Str) (Q : Int → Prop) (hl : s.length ≤ 1048576) (hq : Q (findN s.length fun j => (nth s (j : Int)).Id == id)) : F108.E s id Q := by
 unfold F108.E
 refine ⟨fun x => x.Id == id, fun x => x ∈ s, fun x hx => ?_, F2.law _ _ _ _ hl (fun x hx => hx) hq⟩
 unfold F56.E
 rfl
theorem F40.law (f : Feat) (Q : Feat → Prop) (hb : bulk f ≤ 1048576) (hq : Q f) : F40.E f Q := by
 unfold F40.E F24.E
 have h := bulk_feat f
 have h1 := bulk_len f.Tags
 have h2 := bulk_len f.Shape.Pts
 exact ⟨by simp only [List.length_nil]; omega, by simp only [List.length_nil]; omega, hq⟩
theorem F141.law (s : List Feat) (id : Str) (Q : Feat → Bool → Prop) (hb : bulk s ≤ 1048576) (hq : Q (sideOf s id).1 (sideOf s id).2) : F141.E s id Q := by
 unfold F141.E
 have hl := bulk_len s
 refine F108.law _ _ _ OM ?_
 have h1 := findN_le s.length fun j => (nth s (j : Int)).Id == id
 unfold sideOf at hq
 by_cases h : findN s.length (fun j => (nth s (j : Int)).Id == id) < 0
 ·rw [if_pos h] at hq; rw [if_pos (by simpa using h)]; exact hq
 ·rw [if_neg h] at hq; rw [if_neg (by simpa using h)]
  exact ⟨OM, F40.law _ _ (by have := bulk_mem (nth_memi s OM h1.2); omega) hq⟩
def idsAll (maps : List (List Feat)) : List Str := (maps.map ids).flatten
theorem idsAll_snoc (m : List (List Feat)) (s : List Feat) : idsAll (m ++ [s]) = idsAll m ++ ids s := by unfold idsAll; simp
theorem idsAll_take (m : List (List Feat)) (k : Nat) : (idsAll (m.take k)).length ≤ (idsAll m).length := by
 have h : idsAll m = idsAll (m.take k) ++ idsAll (m.drop k) := by
  unfold idsAll; rw [← List.flatten_append, ← List.map_append, List.take_append_drop]
 rw [h, List.length_append]; omega
theorem F131.law (maps : List (List Feat)) (Q : List Str → Prop) (h1 : maps.length ≤ 1048576) (h2 : (idsAll maps).length ≤ 268435456) (h3 : ∀ s ∈ maps, s.length ≤ 1048576) (hq : Q (uniq (idsAll maps))) : F131.E maps Q := by
 unfold F131.E
 refine ⟨fun xs i => ∃ u : Nat, i = u ∧ u ≤ maps.length ∧ xs = idsAll (maps.take u), fun _ i => (maps.length - i).toNat, ⟨0, rfl, Nat.zero_le _, rfl⟩, ?_⟩
 rintro _ _ ⟨u, rfl, hu, rfl⟩
 by_cases h : u < maps.length
 ·rw [if_pos (by simpa using h)]
  have hs := h3 _ (nth_mem maps h)
  have ht := idsAll_take maps (u + 1)
  rw [take_nth maps h, idsAll_snoc, List.length_append] at ht
  have hil : (ids (nth maps (u : Int))).length = (nth maps (u : Int)).length := by unfold ids; simp
  refine ⟨OM, fun xs j => ∃ v : Nat, j = v ∧ v ≤ (nth maps (u : Int)).length ∧ xs = idsAll (maps.take u) ++ ids ((nth maps (u : Int)).take v), fun _ j => ((nth maps (u : Int)).length - j).toNat, ⟨0, rfl, Nat.zero_le _, by simp [ids]⟩, ?_⟩
  rintro _ _ ⟨v, rfl, hv, rfl⟩
  by_cases g : v < (nth maps (u : Int)).length
  ·rw [if_pos (by simpa using g)]
   have hiv : (ids ((nth maps (u : Int)).take v)).length ≤ v := by unfold ids; simp; omega
   refine ⟨OM, by simp only [List.length_append, List.length_cons, List.length_nil]; omega, by unfold I64; omega, ⟨v + 1, OM, OM, ?_⟩, by dsimp only; omega⟩
   rw [take_nth _ g, ids_app, List.append_assoc]; rfl
  ·rw [if_neg (by simpa using g)]
   have : v = (nth maps (u : Int)).length := by omega
   subst this
   refine ⟨by unfold I64; omega, ⟨u + 1, OM, OM, ?_⟩, by dsimp only; omega⟩
   rw [List.take_length, take_nth maps h, idsAll_snoc]
 ·rw [if_neg (by simpa using h)]
  have : u = maps.length := by omega
  subst this
  rw [List.take_length]
  unfold F8.E F1.E
  exact ⟨h2, by unfold sortS; rw [List.length_mergeSort]; exact h2, hq⟩
theorem F96.law (n lo hi : Int) (Q : Bool → Prop) (hq : Q (decide (lo ≤ n) && decide (n ≤ hi))) : F96.E n lo hi Q := by
 unfold F96.E
 by_cases h : lo ≤ n
 ·rw [if_pos (by simpa using h)]; rw [decide_eq_true h, Bool.true_and] at hq; exact hq
 ·rw [if_neg (by simpa using h)]; rw [decide_eq_false h, Bool.false_and] at hq; exact hq
theorem F96.m_is (n lo hi : Int) : F96.m n lo hi = (decide (lo ≤ n) && decide (n ≤ hi)) := by
 unfold F96.m
 by_cases h : lo ≤ n
 ·rw [if_pos (by simpa using h), decide_eq_true h, Bool.true_and]
 ·rw [if_neg (by simpa using h), decide_eq_false h, Bool.false_and]
theorem F97.law (s : Str) (Q : Bool → Prop) (hl : s.length ≤ 1048576) (hq : Q (wordOk s)) : F97.E s Q := by
 unfold F97.E
 unfold wordOk at hq
 refine loop_all s.length (fun k => byteOk (nth s (k : Int))) (fun I mu k hk hp hn => ?_) (fun ha => ?_)
 ·refine ⟨OM, ?_⟩
  cases h1 : decide (((nth s (k : Int)).toNat : Int) < 97) with
  | true => rw [if_pos rfl]; rw [allN_false hk (by simp only [byteOk, h1]; rfl), Bool.false_and] at hq; exact hq
  | false =>
   rw [if_neg RD]
   refine ⟨OM, ?_⟩
   cases h2 : decide (((nth s (k : Int)).toNat : Int) > 122) with
   | true => rw [if_pos rfl]; rw [allN_false hk (by simp only [byteOk, h1, h2]; rfl), Bool.false_and] at hq; exact hq
   | false =>
    rw [if_neg RD]
    obtain ⟨i1, i2⟩ := hn (by simp only [byteOk, h1, h2]; rfl)
    exact ⟨by unfold I64; omega, i1, i2⟩
 ·rw [allN_true ha, Bool.true_and] at hq
  refine F96.law _ _ _ _ ?_
  have e1 : decide ((1 : Int) ≤ (s.length : Int)) = decide (1 ≤ s.length) := decide_eq_decide.2 OM
  have e2 : decide ((s.length : Int) ≤ 6) = decide (s.length ≤ 6) := decide_eq_decide.2 OM
  rw [e1, e2]; exact hq
theorem F140.law (p : Pt) (Q : Bool → Prop) (hq : Q (ptOk p)) : F140.E p Q := by
 unfold F140.E
 unfold ptOk at hq
 refine F96.law _ _ _ _ ?_
 change if inR p.X = true then _ else _
 cases h : inR p.X with
 | true => rw [if_pos rfl]; rw [h, Bool.true_and] at hq; exact F96.law _ _ _ _ hq
 | false => rw [if_neg RD]; rw [h, Bool.false_and] at hq; exact hq
theorem F73.law (s : Shape) (Q : Bool → Prop) (hl : s.Pts.length ≤ 1048576) (hq : Q (shapeOk s)) : F73.E s Q := by
 unfold F73.E
 unfold shapeOk ptsOk at hq
 refine loop_all s.Pts.length (fun k => ptOk (nth s.Pts (k : Int)) && (decide (k = 0) || !(decide (nth s.Pts ((k : Int) - 1) = nth s.Pts (k : Int))))) (fun I mu k hk hp hn => ?_) (fun ha => ?_)
 ·refine ⟨OM, _, F140.law _ _ rfl, ?_⟩
  have bad : (ptOk (nth s.Pts (k : Int)) && (decide (k = 0) || !(decide (nth s.Pts ((k : Int) - 1) = nth s.Pts (k : Int))))) = false → Q false := fun h => by
   rw [allN_false hk h, Bool.false_and] at hq; exact hq
  cases h1 : ptOk (nth s.Pts (k : Int)) with
  | false => rw [if_pos RD]; exact bad (by rw [h1]; rfl)
  | true =>
   rw [if_neg RD]
   by_cases hk0 : k = 0
   ·rw [if_neg (by rw [decide_eq_true_eq]; omega)]
    obtain ⟨i1, i2⟩ := hn (by rw [h1, decide_eq_true hk0]; rfl)
    exact ⟨by unfold I64; omega, i1, i2⟩
   ·rw [if_pos (by rw [decide_eq_true_eq]; omega)]
    refine ⟨by unfold I64; omega, OM, ?_⟩
    rw [eqPt_is]
    by_cases he : nth s.Pts ((k : Int) - 1) = nth s.Pts (k : Int)
    ·rw [if_pos (by rw [decide_eq_true_eq]; exact he)]
     exact bad (by rw [h1, decide_eq_false hk0, decide_eq_true he]; rfl)
    ·rw [if_neg (by rw [decide_eq_true_eq]; exact he)]
     obtain ⟨i1, i2⟩ := hn (by simp only [h1, decide_eq_false hk0, decide_eq_false he]; rfl)
     exact ⟨by unfold I64; omega, i1, i2⟩
 ·rw [allN_true ha, Bool.true_and] at hq
  unfold kindOk at hq
  by_cases k1 : s.Kind = 1
  ·rw [if_pos k1] at hq
   rw [if_pos (by rw [beq_iff_eq]; exact k1)]
   have : ((s.Pts.length : Int) == 1) = decide (s.Pts.length = 1) := by rw [Bool.eq_iff_iff, beq_iff_eq, decide_eq_true_eq]; omega
   rw [this]; exact hq
  rw [if_neg k1] at hq
  rw [if_neg (by rw [beq_iff_eq]; exact k1)]
  have e2 : decide ((2 : Int) ≤ (s.Pts.length : Int)) = decide (2 ≤ s.Pts.length) := decide_eq_decide.2 OM
  have e3 : decide ((3 : Int) ≤ (s.Pts.length : Int)) = decide (3 ≤ s.Pts.length) := decide_eq_decide.2 OM
  have e6 : decide ((s.Pts.length : Int) ≤ 6) = decide (s.Pts.length ≤ 6) := decide_eq_decide.2 OM
  by_cases k2 : s.Kind = 2
  ·rw [if_pos k2] at hq
   rw [if_pos (by rw [beq_iff_eq]; exact k2)]
   refine F96.law _ _ _ _ ?_
   rw [e2, e6]; exact hq
  rw [if_neg k2] at hq
  rw [if_neg (by rw [beq_iff_eq]; exact k2)]
  by_cases k3 : s.Kind = 3
  ·rw [if_pos k3] at hq
   rw [if_pos (by rw [beq_iff_eq]; exact k3), F96.m_is, e3, e6]
   cases hc : decide (3 ≤ s.Pts.length) && decide (s.Pts.length ≤ 6) with
   | true =>
    rw [hc, Bool.true_and] at hq
    rw [Bool.and_eq_true, decide_eq_true_eq, decide_eq_true_eq] at hc
    rw [if_pos rfl, eqPt_is]
    exact ⟨OM, fun _ => by unfold I64; omega, OM, hq⟩
   | false =>
    rw [hc, Bool.false_and] at hq
    rw [if_neg RD]; exact hq
  ·rw [if_neg k3] at hq
   rw [if_neg (by rw [beq_iff_eq]; exact k3)]; exact hq
theorem F99.law (f : Feat) (Q : Bool → Prop) (hb : bulk f ≤ 1048576) (hq : Q (featOk f)) : F99.E f Q := by
 unfold F99.E
 unfold featOk at hq
 have b1 : bulk f = bulk f.Id + bulk f.Shape + bulk f.Tags := rfl
 have b2 : bulk f.Shape = bulk f.Shape.Kind + bulk f.Shape.Pts := rfl
 have l1 := bulk_len f.Tags; have l2 := bulk_len f.Shape.Pts; have l3 := bulk_len f.Id
 have core : (tagsOk f.Tags = true → F97.E f.Id (fun r3 => (if r3 then F73.E f.Shape (fun r4 => (if r4 then Q (decide ((f.Tags.length : Int) ≤ 4)) else Q false)) else Q false))) := fun ha => by
  rw [ha, Bool.true_and] at hq
  refine F97.law _ _ OM ?_
  cases h1 : wordOk f.Id with
  | false => rw [h1, Bool.and_false, Bool.false_and] at hq; rw [if_neg RD]; exact hq
  | true =>
   rw [h1, Bool.and_true] at hq
   rw [if_pos rfl]
   refine F73.law _ _ OM ?_
   cases h2 : shapeOk f.Shape with
   | false => rw [h2, Bool.and_false] at hq; rw [if_neg RD]; exact hq
   | true =>
    rw [h2, Bool.and_true] at hq; rw [if_pos rfl]
    have e2 : decide ((f.Tags.length : Int) ≤ 4) = decide (f.Tags.length ≤ 4) := decide_eq_decide.2 OM
    rw [e2]; exact hq
 have bad : tagsOk f.Tags = false → Q false := fun h => by
  rw [h, Bool.false_and, Bool.false_and, Bool.false_and] at hq; exact hq
 unfold tagsOk at core bad
 refine loop_all f.Tags.length (fun k => wordOk (nth f.Tags (k : Int)).Key && wordOk (nth f.Tags (k : Int)).Val && (decide (k = 0) || Op.bytesLess (nth f.Tags ((k : Int) - 1)).Key (nth f.Tags (k : Int)).Key)) (fun I mu k hk hp hn => ?_) (fun ha => core (allN_true ha))
 have bad := fun h => bad (allN_false hk h)
 have m1 := bulk_mem (nth_mem f.Tags hk)
 have m2 : bulk (nth f.Tags (k : Int)) = bulk (nth f.Tags (k : Int)).Key + bulk (nth f.Tags (k : Int)).Val := rfl
 have m3 := bulk_len (nth f.Tags (k : Int)).Key; have m4 := bulk_len (nth f.Tags (k : Int)).Val
 refine ⟨OM, _, F97.law _ _ OM rfl, ?_⟩
 cases h1 : wordOk (nth f.Tags (k : Int)).Key with
 | false => rw [if_pos RD]; exact bad (by rw [h1]; rfl)
 | true =>
  rw [if_neg RD]
  refine ⟨_, F97.law _ _ OM rfl, ?_⟩
  cases h2 : wordOk (nth f.Tags (k : Int)).Val with
  | false => rw [if_pos RD]; exact bad (by rw [h2, Bool.and_false]; rfl)
  | true =>
   rw [if_neg RD]
   by_cases hk0 : k = 0
   ·rw [if_neg (by rw [decide_eq_true_eq]; omega)]
    obtain ⟨i1, i2⟩ := hn (by rw [h1, h2, decide_eq_true hk0]; rfl)
    exact ⟨by unfold I64; omega, i1, i2⟩
   ·rw [if_pos (by rw [decide_eq_true_eq]; omega)]
    refine ⟨by unfold I64; omega, OM, ?_⟩
    cases h3 : Op.bytesLess (nth f.Tags ((k : Int) - 1)).Key (nth f.Tags (k : Int)).Key with
    | false => rw [if_pos RD]; exact bad (by rw [h3, h1, h2, decide_eq_false hk0]; rfl)
    | true =>
     rw [if_neg RD]
     obtain ⟨i1, i2⟩ := hn (by rw [h3, h1, h2, decide_eq_false hk0]; rfl)
     exact ⟨by unfold I64; omega, i1, i2⟩
theorem F75.law (d : List Feat) (Q : Bool → Prop) (hb : bulk d ≤ 1048576) (hq : Q (sheetOk d)) : F75.E d Q := by
 unfold F75.E
 unfold sheetOk at hq
 have hl := bulk_len d
 refine loop_all d.length (fun k => featOk (nth d (k : Int)) && (decide (k = 0) || Op.bytesLess (nth d ((k : Int) - 1)).Id (nth d (k : Int)).Id)) (fun I mu k hk hp hn => ?_) (fun ha => ?_)
 ·have bad : (featOk (nth d (k : Int)) && (decide (k = 0) || Op.bytesLess (nth d ((k : Int) - 1)).Id (nth d (k : Int)).Id)) = false → Q false := fun h => by
   rw [allN_false hk h, Bool.false_and] at hq; exact hq
  have m1 := bulk_mem (nth_mem d hk)
  refine ⟨OM, _, F99.law _ _ OM rfl, ?_⟩
  cases h1 : featOk (nth d (k : Int)) with
  | false => rw [if_pos RD]; exact bad (by rw [h1]; rfl)
  | true =>
   rw [if_neg RD]
   by_cases hk0 : k = 0
   ·rw [if_neg (by rw [decide_eq_true_eq]; omega)]
    obtain ⟨i1, i2⟩ := hn (by rw [h1, decide_eq_true hk0]; rfl)
    exact ⟨by unfold I64; omega, i1, i2⟩
   ·rw [if_pos (by rw [decide_eq_true_eq]; omega)]
    refine ⟨by unfold I64; omega, OM, ?_⟩
    cases h3 : Op.bytesLess (nth d ((k : Int) - 1)).Id (nth d (k : Int)).Id with
    | false => rw [if_pos RD]; exact bad (by rw [h3, h1, decide_eq_false hk0]; rfl)
    | true =>
     rw [if_neg RD]
     obtain ⟨i1, i2⟩ := hn (by rw [h3, h1, decide_eq_false hk0]; rfl)
     exact ⟨by unfold I64; omega, i1, i2⟩
 ·rw [allN_true ha, Bool.true_and] at hq
  have e2 : decide ((d.length : Int) ≤ 8) = decide (d.length ≤ 8) := decide_eq_decide.2 OM
  rw [e2]; exact hq
theorem F18.law (a b : List Tag) (Q : Bool → Prop) (hb : a.length ≤ 1048576) (hq : Q (decide (a = b))) : F18.E a b Q := by
 unfold F18.E
 exact eqI_shape eqTag eqTag_is a b Q hb hq
theorem F23.law (a b : List Pt) (Q : Bool → Prop) (hb : a.length ≤ 1048576) (hq : Q (decide (a = b))) : F23.E a b Q := by
 unfold F23.E
 exact eqI_shape eqPt eqPt_is a b Q hb hq
theorem F39.law (a b : Shape) (Q : Bool → Prop) (hl : a.Pts.length ≤ 1048576) (hq : Q (decide (a = b))) : F39.E a b Q := by
 unfold F39.E
 by_cases h : a.Kind = b.Kind
 ·rw [if_pos (by rw [beq_iff_eq]; exact h)]
  refine F23.law _ _ _ OM ?_
  have : decide (a.Pts = b.Pts) = decide (a = b) := decide_eq_decide.2 (by rw [Shape.ext_iff']; exact ⟨fun e => ⟨h, e⟩, fun e => e.2⟩)
  rw [this]; exact hq
 ·rw [if_neg (by rw [beq_iff_eq]; exact h)]
  rw [decide_eq_false (by rw [Shape.ext_iff']; exact fun e => h e.1)] at hq; exact hq
theorem F47.law (a b : Feat) (Q : Bool → Prop) (hl : a.Shape.Pts.length ≤ 1048576 ∧ a.Tags.length ≤ 1048576) (hq : Q (decide (a = b))) : F47.E a b Q := by
 unfold F47.E
 by_cases h : a.Id = b.Id
 ·rw [if_pos (by rw [beq_iff_eq]; exact h)]
  refine F39.law _ _ _ OM ?_
  by_cases h2 : a.Shape = b.Shape
  ·rw [decide_eq_true h2, if_pos rfl]
   refine F18.law _ _ _ OM ?_
   have : decide (a.Tags = b.Tags) = decide (a = b) := decide_eq_decide.2 (by rw [Feat.ext_iff']; exact ⟨fun e => ⟨h, h2, e⟩, fun e => e.2.2⟩)
   rw [this]; exact hq
  ·rw [decide_eq_false h2, if_neg RD]
   rw [decide_eq_false (by rw [Feat.ext_iff']; exact fun e => h2 e.2.1)] at hq; exact hq
 ·rw [if_neg (by rw [beq_iff_eq]; exact h)]
  rw [decide_eq_false (by rw [Feat.ext_iff']; exact fun e => h e.1)] at hq; exact hq
theorem F19.law (c : Change) (Q : Bool → Prop) (hb : bulk c ≤ 1048576) (hq : Q (sameC c)) : F19.E c Q := by
 unfold F19.E
 unfold sameC at hq
 have b1 : bulk c = bulk c.Id + bulk c.Had + bulk c.Was + bulk c.Has + bulk c.Now := rfl
 have b2 : bulk c.Was = bulk c.Was.Id + bulk c.Was.Shape + bulk c.Was.Tags := rfl
 have b3 : bulk c.Was.Shape = bulk c.Was.Shape.Kind + bulk c.Was.Shape.Pts := rfl
 have l1 := bulk_len c.Was.Tags; have l2 := bulk_len c.Was.Shape.Pts
 by_cases h : c.Had = c.Has
 ·rw [if_pos (by rw [beq_iff_eq]; exact h)]
  rw [decide_eq_true h, Bool.true_and] at hq
  exact F47.law _ _ _ OM hq
 ·rw [if_neg (by rw [beq_iff_eq]; exact h)]
  rw [decide_eq_false h] at hq; exact hq
theorem F109.law (a b : List Feat) (Q : List Change → Prop) (ha : bulk a ≤ 1048576) (hb : bulk b ≤ 1048576) (hq : Q (diffOf a b)) : F109.E a b Q := by
 unfold F109.E
 unfold diffOf at hq
 refine F75.law _ _ ha ?_
 cases ka : sheetOk a with
 | false => rw [if_pos RD]; rw [ka, Bool.false_and, if_neg RD] at hq; exact hq
 | true =>
  rw [if_neg RD]
  refine F75.law _ _ hb ?_
  cases kb : sheetOk b with
  | false => rw [if_pos RD]; rw [ka, kb, if_neg RD] at hq; exact hq
  | true =>
   rw [if_neg RD]
   rw [ka, kb, if_pos RD] at hq
   have la := (sheet_ss ka).2.1
   have lb := (sheet_ss kb).2.1
   have e : idsAll [a, b] = ids a ++ ids b := by unfold idsAll; simp
   have l3 : (ids a ++ ids b).length = a.length + b.length := by unfold ids; simp
   refine F131.law _ _ (by simp) (by rw [e]; omega) (fun s hs => by
    simp only [List.mem_cons, List.not_mem_nil, or_false] at hs
    rcases hs with rfl | rfl <;> omega) ?_
   rw [e]
   have l2 := uniq_len (ids a ++ ids b)
   refine ⟨fun xs i => ∃ u : Nat, i = u ∧ u ≤ (uniq (ids a ++ ids b)).length ∧ xs = diffL a b ((uniq (ids a ++ ids b)).take u), fun _ i => ((uniq (ids a ++ ids b)).length - i).toNat, ⟨0, rfl, Nat.zero_le _, rfl⟩, ?_⟩
   rintro _ _ ⟨u, rfl, hu, rfl⟩
   by_cases h : u < (uniq (ids a ++ ids b)).length
   ·rw [if_pos (by simpa using h)]
    have hm := List.mem_append.1 (uniq_mem.1 (nth_mem _ h))
    have hs := diffC_small ka kb hm
    have hd := diffL_len a b ((uniq (ids a ++ ids b)).take u)
    rw [List.length_take] at hd
    have en := diffL_snoc a b ((uniq (ids a ++ ids b)).take u) (nth (uniq (ids a ++ ids b)) (u : Int))
    rw [← take_nth _ h] at en
    refine ⟨OM, F141.law _ _ _ ha (F141.law _ _ _ hb (F19.law _ _ (by exact Nat.le_trans hs RD) ?_))⟩
    show (if (!(sameC (diffC a b (nth (uniq (ids a ++ ids b)) (u : Int))))) = true then _ else _)
    cases k : sameC (diffC a b (nth (uniq (ids a ++ ids b)) (u : Int))) with
    | false =>
     rw [k] at en
     rw [if_pos RD]
     exact ⟨by simp only [List.length_cons, List.length_nil]; omega, by unfold I64; omega, ⟨u + 1, OM, OM, en.symm⟩, by dsimp only; omega⟩
    | true =>
     rw [k] at en
     rw [if_neg RD]
     exact ⟨by unfold I64; omega, ⟨u + 1, OM, OM, by rw [en]; simp⟩, by dsimp only; omega⟩
   ·rw [if_neg (by simpa using h)]
    have : u = (uniq (ids a ++ ids b)).length := by omega
    subst this
    rw [List.take_length]; exact hq
theorem F129.law (a b : List Feat) (Q : List Str → Prop) (ha : a.length ≤ 1000) (hb : b.length ≤ 1000) (hs : SS (ids a)) (hq : Q (uniq (ids a ++ ids b))) : F129.E a b Q := by
 unfold F129.E
 refine ⟨fun s i => ∃ u : Nat, i = u ∧ u ≤ b.length ∧ SS (ids s) ∧ (∀ x, x ∈ ids s ↔ x ∈ ids a ∨ x ∈ ids (b.take u)) ∧ s.length ≤ a.length + u, fun _ i => (b.length - i).toNat, ⟨0, rfl, Nat.zero_le _, hs, by simp [ids], OM⟩, ?_⟩
 rintro s _ ⟨u, rfl, hu, h1, h2, h3⟩
 by_cases h : u < b.length
 ·rw [if_pos (by simpa using h)]
  refine ⟨OM, F127.law _ _ _ OM h1 fun r r1 r2 r3 _ => ⟨OM, ⟨u + 1, OM, OM, r1, fun x => ?_, OM⟩, by dsimp only; omega⟩⟩
  rw [r2, h2, ids_take h, List.mem_append, List.mem_singleton]
  constructor
  ·rintro ((hx | hx) | hx)
   ·exact .inl hx
   ·exact .inr (.inl hx)
   ·exact .inr (.inr hx)
  ·rintro (hx | hx | hx)
   ·exact .inl (.inl hx)
   ·exact .inl (.inr hx)
   ·exact .inr hx
 ·rw [if_neg (by simpa using h)]
  have : u = b.length := by omega
  subst this
  rw [List.take_length] at h2
  have e : ids s = uniq (ids a ++ ids b) := SS.ext h1 (uniq_ss _) fun x => by rw [h2, uniq_mem, List.mem_append]
  rw [← e] at hq
  refine ⟨fun xs i => ∃ v : Nat, i = v ∧ v ≤ s.length ∧ xs = ids (s.take v), fun _ i => (s.length - i).toNat, ⟨0, rfl, Nat.zero_le _, rfl⟩, ?_⟩
  rintro _ _ ⟨v, rfl, hv, rfl⟩
  have hil : (ids (s.take v)).length ≤ v := by unfold ids; simp; omega
  by_cases g : v < s.length
  ·rw [if_pos (by simpa using g)]
   refine ⟨OM, by simp only [List.length_cons, List.length_nil]; omega, OM, ⟨v + 1, OM, OM, ?_⟩, by dsimp only; omega⟩
   rw [ids_take g]
  ·rw [if_neg (by simpa using g)]
   have : v = s.length := by omega
   subst this
   rw [List.take_length]; exact hq
theorem F90.law (s : List Feat) (id : Str) (Q : Feat → Bool → Prop) (hb : bulk s ≤ 1048576) (hq : Q (sideOf s id).1 (sideOf s id).2) : F90.E s id Q := by
 unfold F90.E
 have hl := bulk_len s
 refine F82.law _ _ _ ?_
 have h1 := findN_le s.length fun j => (nth s (j : Int)).Id == id
 unfold sideOf at hq
 by_cases h : findN s.length (fun j => (nth s (j : Int)).Id == id) < 0
 ·rw [if_pos h] at hq; rw [if_pos (by simpa using h)]; exact hq
 ·rw [if_neg h] at hq; rw [if_neg (by simpa using h)]
  exact ⟨OM, F84.law _ _ (by have := bulk_mem (nth_memi s OM h1.2); omega) hq⟩
theorem F92.law (a b : List Tag) (Q : Bool → Prop) (hq : Q (decide (a = b))) : F92.E a b Q := by
 unfold F92.E
 exact eqS_shape eqTag eqTag_is a b Q hq
theorem F91.law (a b : List Pt) (Q : Bool → Prop) (hq : Q (decide (a = b))) : F91.E a b Q := by
 unfold F91.E
 exact eqS_shape eqPt eqPt_is a b Q hq
theorem F38.law (a b : Shape) (Q : Bool → Prop) (hq : Q (decide (a = b))) : F38.E a b Q := by
 unfold F38.E
 by_cases h : a.Kind = b.Kind
 ·rw [if_pos (by rw [beq_iff_eq]; exact h)]
  refine F91.law _ _ _ ?_
  have : decide (a.Pts = b.Pts) = decide (a = b) := decide_eq_decide.2 (by rw [Shape.ext_iff']; exact ⟨fun e => ⟨h, e⟩, fun e => e.2⟩)
  rw [this]; exact hq
 ·rw [if_neg (by rw [beq_iff_eq]; exact h)]
  rw [decide_eq_false (by rw [Shape.ext_iff']; exact fun e => h e.1)] at hq; exact hq
theorem F46.law (a b : Feat) (Q : Bool → Prop) (hq : Q (decide (a = b))) : F46.E a b Q := by
 unfold F46.E
 by_cases h : a.Id = b.Id
 ·rw [if_pos (by rw [beq_iff_eq]; exact h)]
  refine F38.law _ _ _ ?_
  by_cases h2 : a.Shape = b.Shape
  ·rw [decide_eq_true h2, if_pos rfl]
   refine F92.law _ _ _ ?_
   have : decide (a.Tags = b.Tags) = decide (a = b) := decide_eq_decide.2 (by rw [Feat.ext_iff']; exact ⟨fun e => ⟨h, h2, e⟩, fun e => e.2.2⟩)
   rw [this]; exact hq
  ·rw [decide_eq_false h2, if_neg RD]
   rw [decide_eq_false (by rw [Feat.ext_iff']; exact fun e => h2 e.2.1)] at hq; exact hq
 ·rw [if_neg (by rw [beq_iff_eq]; exact h)]
  rw [decide_eq_false (by rw [Feat.ext_iff']; exact fun e => h e.1)] at hq; exact hq
theorem sameC_t {c : Change} (h1 : c.Had = c.Has) (h2 : c.Was = c.Now) : sameC c = true := by unfold sameC; rw [decide_eq_true h1, decide_eq_true h2]; rfl
theorem sameC_f1 {c : Change} (h : ¬ c.Was = c.Now) : sameC c = false := by unfold sameC; rw [decide_eq_false h, Bool.and_false]
theorem sameC_f2 {c : Change} (h : ¬ c.Had = c.Has) : sameC c = false := by unfold sameC; rw [decide_eq_false h, Bool.false_and]
theorem F139.law (a b : List Feat) (Q : List Change → Prop) (ba : bulk a ≤ 1048576) (bb : bulk b ≤ 1048576) (ha : a.length ≤ 1000) (hb : b.length ≤ 1000) (hs : SS (ids a)) (hq : Q (diffL a b (uniq (ids a ++ ids b)))) : F139.E a b Q := by
 unfold F139.E
 refine F129.law _ _ _ ha hb hs ?_
 have l2 := uniq_len (ids a ++ ids b)
 have l3 : (ids a ++ ids b).length = a.length + b.length := by unfold ids; simp
 refine ⟨fun xs i => ∃ u : Nat, i = u ∧ u ≤ (uniq (ids a ++ ids b)).length ∧ xs = diffL a b ((uniq (ids a ++ ids b)).take u), fun _ i => ((uniq (ids a ++ ids b)).length - i).toNat, ⟨0, rfl, Nat.zero_le _, rfl⟩, ?_⟩
 rintro _ _ ⟨u, rfl, hu, rfl⟩
 by_cases h : u < (uniq (ids a ++ ids b)).length
 ·rw [if_pos (by simpa using h)]
  have hd := diffL_len a b ((uniq (ids a ++ ids b)).take u)
  rw [List.length_take] at hd
  have en := diffL_snoc a b ((uniq (ids a ++ ids b)).take u) (nth (uniq (ids a ++ ids b)) (u : Int))
  rw [← take_nth _ h] at en
  have add : sameC (diffC a b (nth (uniq (ids a ++ ids b)) (u : Int))) = false → diffL a b ((uniq (ids a ++ ids b)).take u) ++ [diffC a b (nth (uniq (ids a ++ ids b)) (u : Int))] = diffL a b ((uniq (ids a ++ ids b)).take (u + 1)) := fun k => by rw [k] at en; exact en.symm
  have old : sameC (diffC a b (nth (uniq (ids a ++ ids b)) (u : Int))) = true → diffL a b ((uniq (ids a ++ ids b)).take u) = diffL a b ((uniq (ids a ++ ids b)).take (u + 1)) := fun k => by rw [k] at en; rw [en]; simp
  refine ⟨OM, F90.law _ _ _ ba ⟨OM, F90.law _ _ _ bb ?_⟩⟩
  by_cases k1 : (sideOf a (nth (uniq (ids a ++ ids b)) (u : Int))).2 = (sideOf b (nth (uniq (ids a ++ ids b)) (u : Int))).2
  ·rw [if_neg (by rw [k1]; simp)]
   refine F46.law _ _ _ ?_
   by_cases k2 : (sideOf a (nth (uniq (ids a ++ ids b)) (u : Int))).1 = (sideOf b (nth (uniq (ids a ++ ids b)) (u : Int))).1
   ·rw [decide_eq_true k2, if_neg RD]
    exact ⟨OM, ⟨u + 1, OM, OM, old (sameC_t k1 k2)⟩, by dsimp only; omega⟩
   ·rw [decide_eq_false k2, if_pos RD]
    exact ⟨OM, by simp only [List.length_cons, List.length_nil]; omega, OM, ⟨u + 1, OM, OM, add (sameC_f1 k2)⟩, by dsimp only; omega⟩
  ·rw [if_pos (by rw [bne_iff_ne]; exact k1)]
   exact ⟨OM, by simp only [List.length_cons, List.length_nil]; omega, OM, ⟨u + 1, OM, OM, add (sameC_f2 k1)⟩, by dsimp only; omega⟩
 ·rw [if_neg (by simpa using h)]
  have : u = (uniq (ids a ++ ids b)).length := by omega
  subst this
  rw [List.take_length]; exact hq
theorem F110.law (a b : List Feat) (Q : List Change → Prop) (ba : bulk a ≤ 1048576) (bb : bulk b ≤ 1048576) (hq : Q (diffOf a b)) : F110.E a b Q := by
 unfold F110.E
 unfold diffOf at hq
 refine F72.law _ _ ?_
 cases ka : sheetOk a with
 | false => rw [if_pos RD]; rw [ka, Bool.false_and, if_neg RD] at hq; exact hq
 | true =>
  rw [if_neg RD]
  refine F72.law _ _ ?_
  cases kb : sheetOk b with
  | false => rw [if_pos RD]; rw [ka, kb, if_neg RD] at hq; exact hq
  | true =>
   rw [if_neg RD]
   rw [ka, kb, if_pos RD] at hq
   have la := sheet_ss ka
   have lb := sheet_ss kb
   exact F139.law _ _ _ ba bb OM OM la.1 hq
def ptT (p : Pt) : Str := [32] ++ Lib.itoa p.X ++ [44] ++ Lib.itoa p.Y
def shT (s : Shape) : Str := nth shapeNamesL s.Kind ++ s.Pts.flatMap ptT
def tagT (t : Tag) : Str := [32] ++ t.Key ++ [61] ++ t.Val
def featT (f : Feat) : Str := if featOk f then f.Id ++ [32] ++ shT f.Shape ++ f.Tags.flatMap tagT else []
def sideT (has : Bool) (f : Feat) : Str := if has then featT f else [45]
def lineT (c : Change) : Str := c.Id ++ [58, 32] ++ sideT c.Had c.Was ++ [32, 62, 32] ++ sideT c.Has c.Now ++ [10]
def diffT (d : List Change) : Str := if diffOk d then d.flatMap lineT else []
theorem loop_text {α : Type} [Inhabited α] (l : List α) (g : α → Str) (t0 : Str) (m M : Nat) (hm : ∀ x ∈ l, (g x).length ≤ m) (hM : t0.length + l.length * m ≤ M)
  {B : (Str → Int → Prop) → (Str → Int → Nat) → Str → Int → Prop} {F : Str → Prop}
  (hs : ∀ (I : Str → Int → Prop) (mu : Str → Int → Nat) (k : Nat) (out : Str), k < l.length → nth l (k : Int) ∈ l → out.length ≤ M →
   (∀ X, X = out ++ g (nth l (k : Int)) → I X ((k : Int) + 1) ∧ mu X ((k : Int) + 1) < mu out (k : Int)) → B I mu out (k : Int))
  (hF : F (t0 ++ l.flatMap g)) :
  ∃ (I : Str → Int → Prop) (mu : Str → Int → Nat), I t0 0 ∧ ∀ (out : Str) (i : Int), I out i → (if decide (i < (l.length : Int)) then B I mu out i else F out) := by
 have len : ∀ k, k ≤ l.length → (t0 ++ (l.take k).flatMap g).length ≤ M := fun k hk => by
  have : ∀ n : List α, (∀ x ∈ n, (g x).length ≤ m) → (n.flatMap g).length ≤ n.length * m := fun n => by
   induction n with
   | nil => intro _; simp
   | cons a n ih =>
    intro h
    rw [List.flatMap_cons, List.length_append, List.length_cons, Nat.add_mul]
    have h1 := h a (List.mem_cons_self ..)
    have h2 := ih fun x hx => h x (List.mem_cons_of_mem _ hx)
    omega
  have h1 := this (l.take k) fun x hx => hm x (List.mem_of_mem_take hx)
  have h2 : (l.take k).length * m ≤ l.length * m := Nat.mul_le_mul_right _ (by rw [List.length_take]; omega)
  rw [List.length_append]; omega
 refine ⟨fun out i => ∃ k : Nat, i = k ∧ k ≤ l.length ∧ out = t0 ++ (l.take k).flatMap g, fun _ i => ((l.length : Int) - i).toNat, ⟨0, rfl, Nat.zero_le _, by simp⟩, ?_⟩
 rintro _ _ ⟨k, rfl, hk, rfl⟩
 by_cases h : (k : Int) < (l.length : Int)
 ·rw [if_pos (by simpa using h)]
  refine hs _ _ k _ OM (nth_mem l OM) (len k hk) fun X hX => ⟨⟨k + 1, OM, OM, ?_⟩, OM⟩
  rw [hX, take_nth l OM, List.flatMap_append, List.flatMap_cons, List.flatMap_nil, List.append_nil, List.append_assoc]
 ·rw [if_neg (by simpa using h)]
  have : k = l.length := by omega
  subst this
  rw [List.take_length]; exact hF
theorem flatT_len {α : Type} (l : List α) (g : α → Str) (m : Nat) (hm : ∀ x ∈ l, (g x).length ≤ m) : (l.flatMap g).length ≤ l.length * m := by
 induction l with
 | nil => simp
 | cons a n ih =>
  rw [List.flatMap_cons, List.length_append, List.length_cons, Nat.add_mul]
  have h1 := hm a (List.mem_cons_self ..)
  have h2 := ih fun x hx => hm x (List.mem_cons_of_mem _ hx)
  omega
theorem shape_in {s : Shape} (h : shapeOk s = true) : (1 ≤ s.Kind ∧ s.Kind ≤ 3) ∧ s.Pts.length ≤ 6 ∧ ∀ p ∈ s.Pts, (-1000 ≤ p.X ∧ p.X ≤ 1000) ∧ -1000 ≤ p.Y ∧ p.Y ≤ 1000 := by
 have hp := shape_pts h
 unfold shapeOk at h
 rw [Bool.and_eq_true] at h
 refine ⟨?_, hp, fun p hm => ?_⟩
 ·have h2 := h.2
  unfold kindOk at h2
  by_cases k1 : s.Kind = 1
  ·omega
  ·rw [if_neg k1] at h2
   by_cases k2 : s.Kind = 2
   ·omega
   ·rw [if_neg k2] at h2
    by_cases k3 : s.Kind = 3
    ·omega
    ·rw [if_neg k3] at h2; cases h2
 ·obtain ⟨i, hi, rfl⟩ := List.mem_iff_getElem.1 hm
  have h1 := allN_iff.1 h.1 i hi
  rw [Bool.and_eq_true] at h1
  have h3 := h1.1
  have e : nth s.Pts (i : Int) = s.Pts[i] := by unfold nth; simp [hi]
  rw [e] at h3
  unfold ptOk inR at h3
  simp only [Bool.and_eq_true, decide_eq_true_eq] at h3
  omega
theorem ptT_len {p : Pt} (h : (-1000 ≤ p.X ∧ p.X ≤ 1000) ∧ -1000 ≤ p.Y ∧ p.Y ≤ 1000) : (ptT p).length ≤ 44 := by
 have h1 := itoa_len p.X OM OM
 have h2 := itoa_len p.Y OM OM
 unfold ptT
 simp only [List.length_append, List.length_cons, List.length_nil]; omega
theorem names_len : ∀ k : Int, (nth shapeNamesL k).length ≤ 4 := fun k => by
 by_cases h : 0 ≤ k ∧ k < 4
 ·have : k = 0 ∨ k = 1 ∨ k = 2 ∨ k = 3 := by omega
  rcases this with rfl | rfl | rfl | rfl <;> decide
 ·unfold nth
  by_cases h0 : k < 0
  ·have : k.toNat = 0 := by omega
   rw [this]; decide
  ·rw [show shapeNamesL.getD k.toNat default = default from by rw [List.getD_eq_getElem?_getD, List.getElem?_eq_none (by show 4 ≤ k.toNat; omega)]; rfl]; decide
theorem shT_len {s : Shape} (h : shapeOk s = true) : (shT s).length ≤ 268 := by
 obtain ⟨_, h2, h3⟩ := shape_in h
 have h4 := flatT_len s.Pts ptT 44 fun p hp => ptT_len (h3 p hp)
 have h5 := names_len s.Kind
 unfold shT
 rw [List.length_append]; omega
theorem featT_len (f : Feat) : (featT f).length ≤ 400 := by
 unfold featT
 by_cases h : featOk f = true
 ·rw [if_pos h]
  obtain ⟨h1, h2, _, h4, h5⟩ := feat_facts h
  have h6 := shT_len h2
  have h7 := flatT_len f.Tags tagT 14 fun t ht => by
   have := h5 t ht
   unfold tagT
   simp only [List.length_append, List.length_cons, List.length_nil]; omega
  simp only [List.length_append, List.length_cons, List.length_nil]; omega
 ·rw [if_neg h]; exact Nat.zero_le _
theorem sideT_len (b : Bool) (f : Feat) : (sideT b f).length ≤ 400 := by
 unfold sideT
 cases b
 ·exact (by decide : ([45] : Str).length ≤ 400)
 ·exact featT_len f
theorem lineT_len {c : Change} (h : c.Id.length ≤ 6) : (lineT c).length ≤ 812 := by
 have h1 := sideT_len c.Had c.Was
 have h2 := sideT_len c.Has c.Now
 unfold lineT
 simp only [List.length_append, List.length_cons, List.length_nil]; omega
theorem F98.law (f : Feat) (Q : Bool → Prop) (hq : Q (noF f)) : F98.E f Q := by
 unfold F98.E
 obtain ⟨i, ⟨k, p⟩, t⟩ := f
 unfold noF at hq
 dsimp only
 have e : decide ((⟨i, ⟨k, p⟩, t⟩ : Feat) = ⟨[], ⟨0, []⟩, []⟩) = (decide (i = []) && decide (k = 0) && decide (p = []) && decide (t = [])) := by
  rw [Bool.eq_iff_iff]; simp [and_assoc]
 rw [e] at hq
 cases h1 : decide (i = []) with
 | false => rw [h1] at hq; rw [if_neg (by rw [beq_iff_eq]; exact of_decide_eq_false h1)]; exact hq
 | true =>
  rw [if_pos (by rw [beq_iff_eq]; exact of_decide_eq_true h1)]
  cases h2 : decide (k = 0) with
  | false => rw [h1, h2] at hq; rw [if_neg (by rw [beq_iff_eq]; exact of_decide_eq_false h2)]; exact hq
  | true =>
   rw [if_pos (by rw [beq_iff_eq]; exact of_decide_eq_true h2)]
   cases h3 : decide (p = []) with
   | false => rw [h1, h2, h3] at hq; rw [if_neg (by rw [beq_iff_eq]; have := of_decide_eq_false h3; intro e; exact this (List.length_eq_zero_iff.1 OM))]; exact hq
   | true =>
    rw [if_pos (by rw [beq_iff_eq, of_decide_eq_true h3]; rfl)]
    rw [h1, h2, h3] at hq
    have : ((t.length : Int) == 0) = decide (t = []) := by
     rw [Bool.eq_iff_iff, beq_iff_eq, decide_eq_true_eq]
     exact ⟨fun e => List.length_eq_zero_iff.1 OM, fun e => by rw [e]; rfl⟩
    rw [this]; exact hq
theorem F100.law (id : Str) (has : Bool) (f : Feat) (Q : Bool → Prop) (hb : bulk f ≤ 1048576) (hq : Q (sideOk id has f)) : F100.E id has f Q := by
 unfold F100.E
 unfold sideOk at hq
 cases has with
 | false => rw [if_pos RD]; rw [if_neg RD] at hq; exact F98.law _ _ hq
 | true =>
  rw [if_neg RD]; rw [if_pos rfl] at hq
  refine F99.law _ _ hb ?_
  cases h : featOk f with
  | false => rw [h] at hq; rw [if_neg RD]; exact hq
  | true =>
   rw [h, Bool.true_and] at hq; rw [if_pos rfl]
   have : (f.Id == id) = decide (f.Id = id) := by rw [Bool.eq_iff_iff, beq_iff_eq, decide_eq_true_eq]
   rw [this]; exact hq
theorem F101.law (d : List Change) (Q : Bool → Prop) (hb : bulk d ≤ 1048576) (hq : Q (diffOk d)) : F101.E d Q := by
 unfold F101.E
 unfold diffOk at hq
 have hl := bulk_len d
 refine loop_all d.length (fun k => changeOk (nth d (k : Int)) && (decide (k = 0) || Op.bytesLess (nth d ((k : Int) - 1)).Id (nth d (k : Int)).Id)) (fun I mu k hk hp hn => ?_) (fun ha => ?_)
 ·have bad : (changeOk (nth d (k : Int)) && (decide (k = 0) || Op.bytesLess (nth d ((k : Int) - 1)).Id (nth d (k : Int)).Id)) = false → Q false := fun h => by
   rw [allN_false hk h, Bool.false_and] at hq; exact hq
  have m1 := bulk_mem (nth_mem d hk)
  have b1 : bulk (nth d (k : Int)) = bulk (nth d (k : Int)).Id + bulk (nth d (k : Int)).Had + bulk (nth d (k : Int)).Was + bulk (nth d (k : Int)).Has + bulk (nth d (k : Int)).Now := rfl
  have l1 := bulk_len (nth d (k : Int)).Id
  generalize hc : nth d (k : Int) = c at *
  refine ⟨OM, _, F97.law _ _ OM rfl, ?_⟩
  have co : ∀ a b e g : Bool, wordOk c.Id = a → sideOk c.Id c.Had c.Was = b → sideOk c.Id c.Has c.Now = e → sameC c = g → changeOk c = (a && b && e && !g) := fun a b e g h1 h2 h3 h4 => by unfold changeOk; rw [h1, h2, h3, h4]
  have rest : wordOk c.Id = true → (decide (k = 0) || Op.bytesLess (nth d ((k : Int) - 1)).Id c.Id) = true →
    (∃ q : Bool, F100.E c.Id c.Had c.Was (fun x => x = q) ∧ (if !q then Q false else (∃ q2 : Bool, F100.E c.Id c.Has c.Now (fun x => x = q2) ∧ (if !q2 then Q false else (∃ q3 : Bool, F19.E c (fun x => x = q3) ∧ (if q3 then Q false else (I64 ((k : Int) + 1)) ∧ I ((k : Int) + 1) ∧ mu ((k : Int) + 1) < mu (k : Int))))))) := fun h1 ho => by
   refine ⟨_, F100.law _ _ _ _ OM rfl, ?_⟩
   cases h2 : sideOk c.Id c.Had c.Was with
   | false => rw [if_pos RD]; exact bad (by rw [co _ _ _ _ h1 h2 rfl rfl]; rfl)
   | true =>
    rw [if_neg RD]
    refine ⟨_, F100.law _ _ _ _ OM rfl, ?_⟩
    cases h3 : sideOk c.Id c.Has c.Now with
    | false => rw [if_pos RD]; exact bad (by rw [co _ _ _ _ h1 h2 h3 rfl]; rfl)
    | true =>
     rw [if_neg RD]
     refine ⟨_, F19.law _ _ OM rfl, ?_⟩
     cases h4 : sameC c with
     | true => rw [if_pos rfl]; exact bad (by rw [co _ _ _ _ h1 h2 h3 h4]; rfl)
     | false =>
      rw [if_neg RD]
      obtain ⟨i1, i2⟩ := hn (by rw [co _ _ _ _ h1 h2 h3 h4, ho]; rfl)
      exact ⟨by unfold I64; omega, i1, i2⟩
  cases h1 : wordOk c.Id with
  | false => rw [if_pos RD]; exact bad (by rw [co _ _ _ _ h1 rfl rfl rfl]; rfl)
  | true =>
   rw [if_neg RD]
   by_cases hk0 : k = 0
   ·rw [if_neg (by rw [decide_eq_true_eq]; omega)]
    exact rest h1 (by rw [decide_eq_true hk0]; rfl)
   ·rw [if_pos (by rw [decide_eq_true_eq]; omega)]
    refine ⟨by unfold I64; omega, OM, ?_⟩
    cases h3 : Op.bytesLess (nth d ((k : Int) - 1)).Id c.Id with
    | false => rw [if_pos RD]; exact bad (by rw [h3, decide_eq_false hk0]; simp)
    | true => rw [if_neg RD]; exact rest h1 (by rw [h3, Bool.or_true])
 ·rw [allN_true ha, Bool.true_and] at hq
  have e2 : decide ((d.length : Int) ≤ 16) = decide (d.length ≤ 16) := decide_eq_decide.2 OM
  rw [e2]; exact hq
theorem F25.law (s : Shape) (h : shapeOk s = true) (Q : Str → Prop) (hq : Q (shT s)) : F25.E s Q := by
 obtain ⟨h1, h2, h3⟩ := shape_in h
 have h0 := names_len s.Kind
 unfold F25.E
 refine ⟨⟨OM, by show s.Kind < 4; omega⟩, loop_text s.Pts ptT _ 44 300 (fun p hp => ptT_len (h3 p hp)) OM (fun I mu k out hk hm ho hn => ?_) hq⟩
 have hp := h3 _ hm
 have l1 := itoa_len (nth s.Pts (k : Int)).X OM OM
 have l2 := itoa_len (nth s.Pts (k : Int)).Y OM OM
 obtain ⟨i1, i2⟩ := hn (out ++ (((([32] : Str) ++ Lib.itoa (nth s.Pts (k : Int)).X) ++ ([44] : Str)) ++ Lib.itoa (nth s.Pts (k : Int)).Y)) rfl
 refine ⟨OM, _, ⟨⟨OM, OM⟩, rfl⟩, by unfold Lim; omega, ?_, ?_, _, ⟨⟨OM, OM⟩, rfl⟩, by unfold Lim; omega, ?_, ?_, by unfold I64; omega, i1, i2⟩
 all_goals (simp only [List.length_append, List.length_cons, List.length_nil]; omega)
theorem F49.law (f : Feat) (hb : bulk f ≤ 1048576) (Q : Str → Prop) (hq : Q (featT f)) : F49.E f Q := by
 unfold F49.E
 refine F99.law _ _ hb ?_
 unfold featT at hq
 by_cases h : featOk f = true
 ·rw [if_pos h] at hq
  obtain ⟨h1, h2, _, h4, h5⟩ := feat_facts h
  have l1 := shT_len h2
  rw [h, if_neg RD]
  refine ⟨?_, _, F25.law _ h2 _ rfl, by unfold Lim; omega, ?_, loop_text f.Tags tagT _ 14 400 (fun t ht => ?_) ?_ (fun I mu k out hk hm ho hn => ?_) hq⟩
  ·simp only [List.length_cons, List.length_nil]; omega
  ·simp only [List.length_append, List.length_cons, List.length_nil]; omega
  ·have := h5 t ht
   unfold tagT
   simp only [List.length_append, List.length_cons, List.length_nil]; omega
  ·simp only [List.length_append, List.length_cons, List.length_nil]; omega
  ·have ht := h5 _ hm
   obtain ⟨i1, i2⟩ := hn (out ++ (((([32] : Str) ++ ((nth f.Tags (k : Int)).Key)) ++ ([61] : Str)) ++ ((nth f.Tags (k : Int)).Val))) rfl
   refine ⟨OM, ?_, ?_, ?_, ?_, by unfold I64; omega, i1, i2⟩
   all_goals (simp only [List.length_append, List.length_cons, List.length_nil]; omega)
 ·rw [if_neg h] at hq
  rw [Bool.eq_false_iff.2 h, if_pos RD]; exact hq
theorem F26.law (has : Bool) (f : Feat) (hb : bulk f ≤ 1048576) (Q : Str → Prop) (hq : Q (sideT has f)) : F26.E has f Q := by
 unfold F26.E
 cases has with
 | false => rw [if_pos RD]; exact hq
 | true => rw [if_neg RD]; exact F49.law _ hb _ hq
theorem F50.law (d : List Change) (hb : bulk d ≤ 1048576) (Q : Str → Prop) (hq : Q (diffT d)) : F50.E d Q := by
 unfold F50.E
 refine F101.law _ _ hb ?_
 unfold diffT at hq
 by_cases h : diffOk d = true
 ·rw [if_pos h] at hq
  obtain ⟨_, h2, h3⟩ := diff_cs h
  rw [h, if_neg RD]
  have hid : ∀ c ∈ d, c.Id.length ≤ 6 := fun c hc => by
   have := h3 c hc
   unfold changeOk at this
   simp only [Bool.and_eq_true] at this
   exact word_len this.1.1.1
  refine loop_text d lineT _ 812 13000 (fun c hc => lineT_len (hid c hc)) (by show 0 + d.length * 812 ≤ 13000; omega) (fun I mu k out hk hm ho hn => ?_) hq
  have m1 := bulk_mem hm
  have hi := hid _ hm
  have b1 : bulk (nth d (k : Int)) = bulk (nth d (k : Int)).Id + bulk (nth d (k : Int)).Had + bulk (nth d (k : Int)).Was + bulk (nth d (k : Int)).Has + bulk (nth d (k : Int)).Now := rfl
  have l1 := sideT_len (nth d (k : Int)).Had (nth d (k : Int)).Was
  have l2 := sideT_len (nth d (k : Int)).Has (nth d (k : Int)).Now
  obtain ⟨i1, i2⟩ := hn (out ++ (((((((nth d (k : Int)).Id) ++ ([58, 32] : Str)) ++ sideT (nth d (k : Int)).Had (nth d (k : Int)).Was) ++ ([32, 62, 32] : Str)) ++ sideT (nth d (k : Int)).Has (nth d (k : Int)).Now) ++ ([10] : Str))) rfl
  refine ⟨OM, ?_, F26.law _ _ OM _ ⟨?_, ?_, F26.law _ _ OM _ ⟨?_, ?_, ?_, by unfold I64; omega, i1, i2⟩⟩⟩
  all_goals (simp only [List.length_append, List.length_cons, List.length_nil]; omega)
 ·rw [if_neg h] at hq
  rw [Bool.eq_false_iff.2 h, if_pos RD]; exact hq
theorem F130.law (c : Change) (Q : Bool → Prop) (hq : Q (changeOk c)) : F130.E c Q := by
 unfold F130.E
 unfold changeOk sideOk noF sameC at hq
 have eid : ∀ f : Feat, (f.Id == c.Id) = decide (f.Id = c.Id) := fun f => by rw [Bool.eq_iff_iff, beq_iff_eq, decide_eq_true_eq]
 refine F86.law _ _ ?_
 cases hw : wordOk c.Id with
 | false => rw [hw] at hq; rw [if_pos RD]; exact hq
 | true =>
  rw [hw, Bool.true_and] at hq
  rw [if_neg RD]
  cases h1 : c.Had <;> cases h2 : c.Has
  ·-- neither
   rw [h1, h2] at hq
   rw [if_pos RD, if_pos RD]
   simp only [reduceIte, Bool.false_eq_true, Bool.true_eq_false, reduceCtorEq, if_false, if_true, eq_self, decide_true, decide_false, Bool.true_and, Bool.false_and, Bool.not_false, Bool.not_true, Bool.and_true] at hq
   have e : (decide (c.Was = (⟨[], ⟨0, []⟩, []⟩ : Feat)) && decide (c.Now = (⟨[], ⟨0, []⟩, []⟩ : Feat)) && !(decide (c.Was = c.Now))) = false := by
    by_cases a : c.Was = (⟨[], ⟨0, []⟩, []⟩ : Feat)
    ·by_cases b : c.Now = (⟨[], ⟨0, []⟩, []⟩ : Feat)
     ·rw [decide_eq_true (a.trans b.symm)]; simp
     ·rw [decide_eq_false b]; simp
    ·rw [decide_eq_false a]; rfl
   rw [e] at hq; exact hq
  ·rw [h1, h2] at hq
   simp only [reduceIte, Bool.false_eq_true, Bool.true_eq_false, reduceCtorEq, if_false, if_true, eq_self, decide_true, decide_false, Bool.true_and, Bool.false_and, Bool.not_false, Bool.not_true, Bool.and_true] at hq
   rw [if_pos RD, if_neg RD, if_neg RD]
   refine F46.law _ _ _ ?_
   cases ha : decide (c.Was = (⟨[], ⟨0, []⟩, []⟩ : Feat)) with
   | false => rw [ha] at hq; rw [if_pos RD]; exact hq
   | true =>
    rw [ha, Bool.true_and] at hq
    rw [if_neg RD]
    refine F88.law _ _ ?_
    cases hf : featOk c.Now with
    | false => rw [hf] at hq; rw [if_neg RD]; exact hq
    | true => rw [hf, Bool.true_and] at hq; rw [if_pos rfl, eid]; exact hq
  ·rw [h1, h2] at hq
   simp only [reduceIte, Bool.false_eq_true, Bool.true_eq_false, reduceCtorEq, if_false, if_true, eq_self, decide_true, decide_false, Bool.true_and, Bool.false_and, Bool.not_false, Bool.not_true, Bool.and_true] at hq
   rw [if_neg RD, if_pos rfl, if_neg RD, if_pos RD]
   refine F46.law _ _ _ ?_
   cases ha : decide (c.Now = (⟨[], ⟨0, []⟩, []⟩ : Feat)) with
   | false => rw [ha, Bool.and_false] at hq; rw [if_pos RD]; exact hq
   | true =>
    rw [ha, Bool.and_true] at hq
    rw [if_neg RD]
    refine F88.law _ _ ?_
    cases hf : featOk c.Was with
    | false => rw [hf] at hq; rw [if_neg RD]; exact hq
    | true =>
     rw [hf, Bool.true_and] at hq; rw [if_pos rfl, eid]
     cases hi : decide (c.Was.Id = c.Id) with
     | false => rw [hi] at hq; rw [if_neg RD]; exact hq
     | true => rw [hi] at hq; rw [if_pos rfl]; exact hq
  ·rw [h1, h2] at hq
   simp only [reduceIte, Bool.false_eq_true, Bool.true_eq_false, reduceCtorEq, if_false, if_true, eq_self, decide_true, decide_false, Bool.true_and, Bool.false_and, Bool.not_false, Bool.not_true, Bool.and_true] at hq
   rw [if_neg RD, if_pos rfl, if_pos rfl]
   refine F46.law _ _ _ ?_
   cases hs : decide (c.Was = c.Now) with
   | true => rw [hs, Bool.not_true, Bool.and_false] at hq; rw [if_pos rfl]; exact hq
   | false =>
    rw [hs, Bool.not_false, Bool.and_true] at hq
    rw [if_neg RD, if_neg RD]
    refine F88.law _ _ ?_
    cases hf : featOk c.Was with
    | false => rw [hf] at hq; rw [if_neg RD]; exact hq
    | true =>
     rw [hf, Bool.true_and] at hq; rw [if_pos rfl, eid]
     cases hi : decide (c.Was.Id = c.Id) with
     | false => rw [hi] at hq; rw [if_neg RD]; exact hq
     | true =>
      rw [hi, Bool.true_and] at hq; rw [if_pos rfl]
      refine F88.law _ _ ?_
      cases hg : featOk c.Now with
      | false => rw [hg] at hq; rw [if_neg RD]; exact hq
      | true => rw [hg, Bool.true_and] at hq; rw [if_pos rfl, eid]; exact hq
theorem F102.law (d : List Change) (Q : Bool → Prop) (hq : Q (diffOk d)) : F102.E d Q := by
 unfold F102.E
 unfold diffOk at hq
 refine loop_all d.length (fun k => changeOk (nth d (k : Int)) && (decide (k = 0) || Op.bytesLess (nth d ((k : Int) - 1)).Id (nth d (k : Int)).Id)) (fun I mu k hk hp hn => ?_) (fun ha => ?_)
 ·have bad : (changeOk (nth d (k : Int)) && (decide (k = 0) || Op.bytesLess (nth d ((k : Int) - 1)).Id (nth d (k : Int)).Id)) = false → Q false := fun h => by
   rw [allN_false hk h, Bool.false_and] at hq; exact hq
  refine ⟨OM, _, F130.law _ _ rfl, ?_⟩
  cases h1 : changeOk (nth d (k : Int)) with
  | false => rw [if_pos RD]; exact bad (by rw [h1]; rfl)
  | true =>
   rw [if_neg RD]
   by_cases hk0 : k = 0
   ·rw [if_neg (by rw [decide_eq_true_eq]; omega)]
    obtain ⟨i1, i2⟩ := hn (by rw [h1, decide_eq_true hk0]; rfl)
    exact ⟨OM, i1, i2⟩
   ·rw [if_pos (by rw [decide_eq_true_eq]; omega)]
    refine ⟨OM, fun _ => by unfold I64; omega, OM, ?_⟩
    rw [← less_tri]
    cases h3 : Op.bytesLess (nth d ((k : Int) - 1)).Id (nth d (k : Int)).Id with
    | false => rw [if_pos RD]; exact bad (by rw [h3, h1, decide_eq_false hk0]; rfl)
    | true =>
     rw [if_neg RD]
     obtain ⟨i1, i2⟩ := hn (by rw [h3, h1, decide_eq_false hk0]; rfl)
     exact ⟨OM, i1, i2⟩
 ·rw [allN_true ha, Bool.true_and] at hq
  have e2 : decide ((d.length : Int) ≤ 16) = decide (d.length ≤ 16) := decide_eq_decide.2 OM
  rw [e2]; exact hq
theorem l12Dec_pos (R : Int → (Str → Prop) → Prop) (n : Int) (h0 : 0 ≤ n) (h1 : n ≤ 4611686018427387904) (Q : Str → Prop) (hq : Q (Lib.itoa n)) : F105.Er R n Q := by
 unfold F105.Er
 rw [if_neg (by rw [decide_eq_true_eq]; omega), if_neg (by rw [decide_eq_true_eq]; omega)]
 have hl := decDigits_len n.toNat 19 OM
 have hi : Lib.itoa n = Lib.decDigits n.toNat := by unfold Lib.itoa; rw [if_neg OM]
 refine ⟨fun k out => 0 ≤ k ∧ k ≤ n ∧ Lib.decDigits n.toNat = Lib.decDigits k.toNat ++ out, fun k _ => k.toNat, ⟨h0, Int.le_refl _, by simp⟩, ?_⟩
 rintro k out ⟨k0, kn, e⟩
 have hlen : (Lib.decDigits k.toNat).length + out.length ≤ 20 := by rw [e, List.length_append] at hl; exact hl
 by_cases hk : k > 9
 ·rw [if_pos (by simpa using hk)]
  have d : [(UInt8.ofNat (48 + k % 10).toNat)] = [UInt8.ofNat (48 + k.toNat % 10)] := by congr 2; omega
  have e2 : Lib.decDigits k.toNat = Lib.decDigits (k / 10).toNat ++ [UInt8.ofNat (48 + k.toNat % 10)] := by
   conv => lhs; rw [Lib.decDigits]
   rw [dif_neg OM]
   congr 2; omega
  refine ⟨⟨k0, by decide⟩, by unfold I64; omega, OM, ?_, OM, ⟨OM, OM, ?_⟩, by dsimp only; omega⟩
  ·simp only [List.length_cons, List.length_nil]; omega
  ·rw [e, e2, d, List.append_assoc]
 ·rw [if_neg (by simpa using hk)]
  have e2 : Lib.decDigits k.toNat = [UInt8.ofNat (48 + k).toNat] := by
   rw [Lib.decDigits, dif_pos OM]
   congr 2; omega
  refine ⟨by unfold I64; omega, OM, ?_, ?_⟩
  ·simp only [List.length_cons, List.length_nil]; omega
  ·rw [← e2, ← e, ← hi]; exact hq
theorem F105.law (n : Int) (h0 : -4611686018427387904 ≤ n) (h1 : n ≤ 4611686018427387904) (Q : Str → Prop) (hq : Q (Lib.itoa n)) : F105.E n Q := by
 unfold F105.E
 by_cases hn : 0 ≤ n
 ·exact l12Dec_pos _ n hn h1 Q hq
 ·unfold F105.Er
  rw [if_neg (by rw [decide_eq_true_eq]; omega), if_pos (by rw [decide_eq_true_eq]; omega)]
  have hl := itoa_len (-n) OM OM
  refine ⟨by unfold I64; omega, l12Dec_pos _ (-n) OM OM _ ⟨?_, ?_⟩⟩
  ·simp only [List.length_cons, List.length_nil]; omega
  ·have : [45] ++ Lib.itoa (-n) = Lib.itoa n := by
    unfold Lib.itoa
    rw [if_neg OM, if_pos OM]
    have : (-n).toNat = n.natAbs := by omega
    rw [this]; rfl
   rw [this]; exact hq
theorem F104.law (k : Int) (h : 0 ≤ k ∧ k < 4) (Q : Str → Prop) (hq : Q (nth shapeNamesL k)) : F104.E k Q := by
 unfold F104.E
 exact ⟨⟨h.1, by show k < 4; omega⟩, hq⟩
theorem F41.law (s : Shape) (h : shapeOk s = true) (hl : s.Pts.length ≤ 1048576) (Q : Str → Prop) (hq : Q (shT s)) : F41.E s Q := by
 obtain ⟨h1, h2, h3⟩ := shape_in h
 have h0 := names_len s.Kind
 unfold F41.E
 refine F69.law _ _ ?_
 rw [h, if_neg RD]
 refine F104.law _ OM _ (loop_text s.Pts ptT _ 44 300 (fun p hp => ptT_len (h3 p hp)) OM (fun I mu k out hk hm ho hn => ?_) hq)
 have hp := h3 _ hm
 have l1 := itoa_len (nth s.Pts (k : Int)).X OM OM
 have l2 := itoa_len (nth s.Pts (k : Int)).Y OM OM
 obtain ⟨i1, i2⟩ := hn ((((out ++ ([32] : Str)) ++ Lib.itoa (nth s.Pts (k : Int)).X) ++ ([44] : Str)) ++ Lib.itoa (nth s.Pts (k : Int)).Y) (by unfold ptT; simp only [List.append_assoc])
 refine ⟨?_, OM, _, F105.law _ OM OM _ rfl, by unfold Lim; omega, ?_, ?_, OM, _, F105.law _ OM OM _ rfl, by unfold Lim; omega, ?_, OM, i1, i2⟩
 all_goals (simp only [List.length_append, List.length_cons, List.length_nil]; omega)
theorem F52.law (f : Feat) (hb : bulk f ≤ 1048576) (Q : Str → Prop) (hq : Q (featT f)) : F52.E f Q := by
 unfold F52.E
 refine F88.law _ _ ?_
 unfold featT at hq
 by_cases h : featOk f = true
 ·rw [if_pos h] at hq
  obtain ⟨h1, h2, h3, h4, h5⟩ := feat_facts h
  have l1 := shT_len h2
  rw [h, if_neg RD]
  refine ⟨?_, _, F41.law _ h2 OM _ rfl, by unfold Lim; omega, ?_, loop_text f.Tags tagT _ 14 400 (fun t ht => ?_) ?_ (fun I mu k out hk hm ho hn => ?_) hq⟩
  ·simp only [List.length_cons, List.length_nil]; omega
  ·simp only [List.length_append, List.length_cons, List.length_nil]; omega
  ·have := h5 t ht
   unfold tagT
   simp only [List.length_append, List.length_cons, List.length_nil]; omega
  ·simp only [List.length_append, List.length_cons, List.length_nil]; omega
  ·have ht := h5 _ hm
   obtain ⟨i1, i2⟩ := hn ((((out ++ ([32] : Str)) ++ ((nth f.Tags (k : Int)).Key)) ++ ([61] : Str)) ++ ((nth f.Tags (k : Int)).Val)) (by unfold tagT; simp only [List.append_assoc])
   refine ⟨?_, OM, ?_, ?_, OM, ?_, OM, i1, i2⟩
   all_goals (simp only [List.length_append, List.length_cons, List.length_nil]; omega)
 ·rw [if_neg h] at hq
  rw [Bool.eq_false_iff.2 h, if_pos RD]; exact hq
theorem F106.law (f : Feat) (is : Bool) (hb : bulk f ≤ 1048576) (Q : Str → Prop) (hq : Q (sideT is f)) : F106.E f is Q := by
 unfold F106.E
 cases is with
 | false => rw [if_pos RD]; exact hq
 | true => rw [if_neg RD]; exact F52.law _ hb _ hq
theorem F53.law (d : List Change) (hb : bulk d ≤ 1048576) (Q : Str → Prop) (hq : Q (diffT d)) : F53.E d Q := by
 unfold F53.E
 unfold diffT at hq
 by_cases h : diffOk d = true
 ·rw [if_pos h] at hq
  obtain ⟨_, h2, h3⟩ := diff_cs h
  have hid : ∀ c ∈ d, c.Id.length ≤ 6 := fun c hc => by
   have := h3 c hc
   unfold changeOk at this
   simp only [Bool.and_eq_true] at this
   exact word_len this.1.1.1
  refine loop_text d lineT _ 812 13000 (fun c hc => lineT_len (hid c hc)) (by show 0 + d.length * 812 ≤ 13000; omega) (fun I mu k out hk hm ho hn => ?_) hq
  refine F102.law _ _ ?_
  rw [h, if_pos rfl]
  have m1 := bulk_mem hm
  have hi := hid _ hm
  have b1 : bulk (nth d (k : Int)) = bulk (nth d (k : Int)).Id + bulk (nth d (k : Int)).Had + bulk (nth d (k : Int)).Was + bulk (nth d (k : Int)).Has + bulk (nth d (k : Int)).Now := rfl
  have l1 := sideT_len (nth d (k : Int)).Had (nth d (k : Int)).Was
  have l2 := sideT_len (nth d (k : Int)).Has (nth d (k : Int)).Now
  obtain ⟨i1, i2⟩ := hn ((((((out ++ ((nth d (k : Int)).Id)) ++ ([58, 32] : Str)) ++ sideT (nth d (k : Int)).Had (nth d (k : Int)).Was) ++ ([32, 62, 32] : Str)) ++ sideT (nth d (k : Int)).Has (nth d (k : Int)).Now) ++ ([10] : Str)) (by unfold lineT; simp only [List.append_assoc])
  refine ⟨OM, ?_, ?_, OM, OM, _, F106.law _ _ OM _ rfl, by unfold Lim; omega, ?_, ?_, OM, OM, _, F106.law _ _ OM _ rfl, by unfold Lim; omega, ?_, ?_, OM, i1, i2⟩
  all_goals ((try simp only [List.length_append, List.length_cons, List.length_nil]); omega)
 ·rw [if_neg h] at hq
  have e : diffOk d = false := Bool.eq_false_iff.2 h
  refine ⟨fun out i => out = [] ∧ i = 0, fun _ _ => 0, ⟨rfl, rfl⟩, ?_⟩
  rintro _ _ ⟨rfl, rfl⟩
  by_cases h0 : (0 : Int) < (d.length : Int)
  ·rw [if_pos (by simpa using h0)]
   refine F102.law _ _ ?_
   rw [e, if_neg RD]; exact hq
  ·rw [if_neg (by simpa using h0)]; exact hq
theorem F33.law (s : List Feat) (Q : List Feat → Prop) (hb : bulk s ≤ 1048576) (hq : Q s) : F33.E s Q := by
 unfold F33.E
 have hl := bulk_len s
 refine ⟨fun xs i => ∃ u : Nat, i = u ∧ u ≤ s.length ∧ xs = s.take u, fun _ i => (s.length - i).toNat, ⟨0, rfl, Nat.zero_le _, rfl⟩, ?_⟩
 rintro _ _ ⟨u, rfl, hu, rfl⟩
 by_cases h : u < s.length
 ·rw [if_pos (by simpa using h)]
  have hm := bulk_mem (nth_mem s h)
  refine ⟨OM, F40.law _ _ OM ⟨by simp only [List.length_take, List.length_cons, List.length_nil]; omega, by unfold I64; omega, ⟨u + 1, OM, OM, ?_⟩, by dsimp only; omega⟩⟩
  rw [take_nth s h]
 ·rw [if_neg (by simpa using h)]
  have : u = s.length := by omega
  subst this
  rw [List.take_length]; exact hq
theorem F116.law (s : List Feat) (d : List Change) (Q : List Feat → Bool → Prop) (h1 : bulk s ≤ 1048576) (h2 : bulk d ≤ 1048576) (hq : Q (diffDo s d).1 (diffDo s d).2) : F116.E s d Q := by
 unfold F116.E
 unfold diffDo at hq
 have zq : (sheetOk s && diffOk d && d.all (fits s) && sheetOk (doL s d)) = false → Q [] false := fun h => by rw [h, if_neg RD] at hq; exact hq
 refine F75.law _ _ h1 ?_
 cases ks : sheetOk s with
 | false => rw [if_pos RD]; exact zq (by rw [ks]; rfl)
 | true =>
 rw [if_neg RD]
 refine F101.law _ _ h2 ?_
 cases kd : diffOk d with
 | false => rw [if_pos RD]; exact zq (by rw [ks, kd]; rfl)
 | true =>
 rw [if_neg RD]
 have fs := sheet_fs ks; have dc := diff_cs kd; have ls := (sheet_ss ks).2.1; have ld := dc.2.1
 have nd0 : (ids s).Nodup := (sheet_ss ks).1.imp fun {a b} h e => by rw [e, less_irr] at h; cases h
 refine F33.law _ _ h1 ?_
 refine ⟨fun xs i => ∃ u : Nat, i = u ∧ u ≤ d.length ∧ (ids xs).Nodup ∧ xs.length ≤ s.length + u ∧ (∀ f, f ∈ xs ↔ Mem s (d.take u) f) ∧ ∀ c ∈ d.take u, fits s c = true, fun _ i => (d.length - i).toNat, ⟨0, rfl, Nat.zero_le _, nd0, OM, fun f => (Mem.zero s d f).symm, by simp⟩, ?_⟩
 rintro xs _ ⟨u, rfl, hu, g1, g2, g3, g4⟩
 by_cases h : u < d.length
 ·rw [if_pos (by simpa using h)]
  have hm : nth d (u : Int) ∈ d := nth_mem d h
  have hb := change_small (dc.2.2 _ hm)
  have st := fun f => Mem.step (s := s) h dc.1 dc.2.2 f
  have bad : fits s (nth d (u : Int)) = false → Q [] false := fun kf => zq (by
   have : d.all (fits s) = false := by
    rw [List.all_eq_false]; exact ⟨_, hm, by rw [kf]; decide⟩
   rw [this]; simp)
  have sb := sideOf_small ks (nth d (u : Int)).Id
  have sb2 : (sideOf s (nth d (u : Int)).Id).1.Shape.Pts.length ≤ 1048576 ∧ (sideOf s (nth d (u : Int)).Id).1.Tags.length ≤ 1048576 := by
   have e := bulk_feat (sideOf s (nth d (u : Int)).Id).1
   have e2 := bulk_len (sideOf s (nth d (u : Int)).Id).1.Tags
   have e3 := bulk_len (sideOf s (nth d (u : Int)).Id).1.Shape.Pts
   omega
  refine ⟨OM, F141.law _ _ _ h1 ?_⟩
  by_cases k1 : (sideOf s (nth d (u : Int)).Id).2 = (nth d (u : Int)).Had
  case neg => rw [if_pos (by rw [bne_iff_ne]; exact k1)]; exact bad (by unfold fits; rw [decide_eq_false k1]; rfl)
  rw [if_neg (by rw [k1]; simp)]
  refine F47.law _ _ _ sb2 ?_
  by_cases k2 : (sideOf s (nth d (u : Int)).Id).1 = (nth d (u : Int)).Was
  case neg => rw [decide_eq_false k2, if_pos RD]; exact bad (by unfold fits; rw [decide_eq_false k2, Bool.and_false])
  rw [decide_eq_true k2, if_neg RD]
  have kf : fits s (nth d (u : Int)) = true := by unfold fits; rw [decide_eq_true k1, decide_eq_true k2]; rfl
  have g4' : ∀ c ∈ d.take (u + 1), fits s c = true := fun c hc => by
   rw [take_nth d h] at hc
   rcases List.mem_append.1 hc with hc | hc
   ·exact g4 c hc
   ·rw [List.mem_singleton.1 hc]; exact kf
  -- what follows when the name is gone
  have fin : ∀ ys : List Feat, (ids ys).Nodup → (∀ f, f ∈ ys ↔ f ∈ xs ∧ f.Id ≠ (nth d (u : Int)).Id) → ys.length ≤ xs.length →
    (if (nth d (u : Int)).Has = true then F40.E (nth d (u : Int)).Now (fun r => (ys.length + ([r] : List Feat).length ≤ 268435456) ∧ (I64 ((u : Int) + 1)) ∧ (∃ v : Nat, (u : Int) + 1 = v ∧ v ≤ d.length ∧ (ids (ys ++ [r])).Nodup ∧ (ys ++ [r]).length ≤ s.length + v ∧ (∀ f, f ∈ ys ++ [r] ↔ Mem s (d.take v) f) ∧ ∀ c ∈ d.take v, fits s c = true) ∧ (d.length - ((u : Int) + 1)).toNat < (d.length - (u : Int)).toNat)
    else (I64 ((u : Int) + 1)) ∧ (∃ v : Nat, (u : Int) + 1 = v ∧ v ≤ d.length ∧ (ids ys).Nodup ∧ ys.length ≤ s.length + v ∧ (∀ f, f ∈ ys ↔ Mem s (d.take v) f) ∧ ∀ c ∈ d.take v, fits s c = true) ∧ (d.length - ((u : Int) + 1)).toNat < (d.length - (u : Int)).toNat) := fun ys n1 n2 n3 => by
   split
   ·rename_i kh
    have hid := (now_id dc.2.2 hm kh).1
    refine F40.law _ _ OM ⟨by simp only [List.length_cons, List.length_nil]; omega, by unfold I64; omega, ⟨u + 1, OM, OM, ?_, by simp only [List.length_append, List.length_cons, List.length_nil]; omega, fun f => ?_, g4'⟩, OM⟩
    ·rw [ids_app]
     refine List.nodup_append.2 ⟨n1, by simp [ids], fun a ha b hb' => ?_⟩
     have hb' : b = (nth d (u : Int)).Now.Id := List.mem_singleton.1 hb'
     obtain ⟨f, hf, rfl⟩ := List.mem_map.1 ha
     rw [hb', hid]; exact ((n2 f).1 hf).2
    ·rw [List.mem_append, List.mem_singleton, n2, st, g3, kh]
     constructor
     ·rintro (hx | rfl)
      ·exact .inl hx
      ·exact .inr ⟨rfl, rfl⟩
     ·rintro (hx | ⟨_, rfl⟩)
      ·exact .inl hx
      ·exact .inr rfl
   ·rename_i kh
    refine ⟨by unfold I64; omega, ⟨u + 1, OM, OM, n1, OM, fun f => ?_, g4'⟩, OM⟩
    rw [n2, st, g3]
    constructor
    ·exact .inl
    ·rintro (hx | ⟨hx, _⟩)
     ·exact hx
     ·exact absurd hx kh
  refine F108.law _ _ _ OM ?_
  have hle := findN_le xs.length fun j => (nth xs (j : Int)).Id == (nth d (u : Int)).Id
  by_cases k3 : findN xs.length (fun j => (nth xs (j : Int)).Id == (nth d (u : Int)).Id) < 0
  ·rw [if_neg (by rw [decide_eq_true_eq]; omega)]
   refine fin xs g1 (fun f => ⟨fun hf => ⟨hf, fun e => ?_⟩, fun hf => hf.1⟩) (Nat.le_refl _)
   obtain ⟨k, hk, rfl⟩ := List.getElem_of_mem hf
   have := findN_neg k3 k hk
   rw [nth_nat xs hk] at this
   simp [e] at this
  ·obtain ⟨k, hk⟩ : ∃ k : Nat, findN xs.length (fun j => (nth xs (j : Int)).Id == (nth d (u : Int)).Id) = (k : Int) := ⟨_, (Int.toNat_of_nonneg OM).symm⟩
   obtain ⟨q1, q2⟩ := findN_true hk
   rw [hk, if_pos (by rw [decide_eq_true_eq]; omega)]
   have q3 : xs[k].Id = (nth d (u : Int)).Id := by rw [nth_nat xs q1] at q2; simpa using q2
   obtain ⟨m1, m2, m3⟩ := del_mem g1 q1
   unfold F11.E
   refine ⟨by unfold I64; omega, ⟨OM, OM, OM⟩, OM, ?_⟩
   rw [Int.toNat_natCast, show ((k : Int) + 1).toNat = k + 1 by omega]
   exact fin _ m1 (fun f => by rw [m2, q3]) OM
 ·rw [if_neg (by simpa using h)]
  have : u = d.length := by omega
  subst this
  rw [List.take_length] at g3 g4
  unfold F6.E
  refine ⟨OM, fun r hp hs => ?_⟩
  have n1 : (ids r).Nodup := (hp.map Feat.Id).nodup_iff.2 g1
  have g5 : FS r := by
   have h3 := List.Pairwise.and hs (List.pairwise_map.1 n1)
   refine h3.imp fun {a b} hab => ?_
   rcases less_or hab.1 with g | g
   ·exact g
   ·exact absurd g hab.2
  have e : r = doL s d := FS.ext g5 (doL_fs s dc.2.2) fun f => by rw [hp.mem_iff, g3, doL_mem fs dc.1 dc.2.2]
  subst e
  have ka : d.all (fits s) = true := List.all_eq_true.2 g4
  rw [ks, kd, ka] at hq
  have hsm := doL_small ks kd
  refine F75.law _ _ OM ?_
  cases ko : sheetOk (doL s d) with
  | false => rw [if_pos RD]; rw [ko, if_neg RD] at hq; exact hq
  | true =>
   rw [if_neg RD]
   rw [ko, if_pos RD] at hq
   exact F33.law _ _ OM hq
theorem F48.law (d : List Change) (Q : List Change → Prop) (hb : bulk d ≤ 1048576) (hq : Q (turnD d)) : F48.E d Q := by
 unfold F48.E
 have hl := bulk_len d
 refine F101.law _ _ OM ?_
 cases hk : diffOk d with
 | false =>
  have e : turnD d = [] := by unfold turnD; rw [hk]; rfl
  rw [e] at hq; rw [if_pos RD]; exact hq
 | true =>
  have e : turnD d = d.map turnC := by unfold turnD; rw [hk]; rfl
  rw [e] at hq
  rw [if_neg RD]
  refine ⟨fun xs i => ∃ u : Nat, i = u ∧ u ≤ d.length ∧ xs = (d.take u).map turnC, fun _ i => (d.length - i).toNat, ⟨0, rfl, Nat.zero_le _, rfl⟩, ?_⟩
  rintro _ _ ⟨u, rfl, hu, rfl⟩
  by_cases h : u < d.length
  ·rw [if_pos (by simpa using h)]
   have hm := bulk_mem (nth_mem d h)
   have hc := bulk_change (nth d (u : Int))
   refine ⟨OM, ?_⟩
   unfold F20.E
   refine F40.law _ _ (by dsimp only; omega) (F40.law _ _ (by dsimp only; omega) ⟨by simp only [List.length_map, List.length_take, List.length_cons, List.length_nil]; omega, by unfold I64; omega, ⟨u + 1, OM, OM, ?_⟩, by dsimp only; omega⟩)
   rw [take_nth d h, List.map_append]; rfl
  ·rw [if_neg (by simpa using h)]
   have : u = d.length := by omega
   subst this
   rw [List.take_length]; exact hq
theorem F3.law (a b : List Feat) (el : Feat → Feat → Bool) (ok : Feat → Feat → Prop) (Q : Bool → Prop) (hb : a.length ≤ 1048576) (hok : ∀ x y, x ∈ a → ok x y) (hel : ∀ x y, x ∈ a → el x y = decide (x = y)) (hq : Q (decide (a = b))) : F3.E a b el ok Q := by
 unfold F3.E
 exact eqF_shape a b el ok hok hel hb Q hq
theorem F44.law (a b : List Feat) (Q : Bool → Prop) (hb : bulk a ≤ 1048576) (hq : Q (decide (a = b))) : F44.E a b Q := by
 unfold F44.E
 have hl := bulk_len a
 refine ⟨fun x y => decide (x = y), fun x _ => x ∈ a, fun x y hx => F47.law x y _ ?_ rfl, F3.law a b _ _ _ OM (fun x y hx => hx) (fun _ _ _ => rfl) hq⟩
 have m := bulk_mem hx
 have b1 : bulk x = bulk x.Id + bulk x.Shape + bulk x.Tags := rfl
 have b2 : bulk x.Shape = bulk x.Shape.Kind + bulk x.Shape.Pts := rfl
 have l1 := bulk_len x.Tags; have l2 := bulk_len x.Shape.Pts
 omega
theorem laws_FnDiff.gen (code : List UInt8) (Q : Bool → Prop) (hq : Q true) : laws_FnDiff.E code Q := by
 unfold laws_FnDiff.E
 by_cases c1 : (code.length : Int) > 1048576
 ·rw [if_pos (by simpa using c1)]; exact hq
 rw [if_neg (by simpa using c1)]
 refine F29.law _ _ fun a b ma mb => ?_
 have ba := ma.small
 have bb := mb.small
 have bd : ∀ s t : List Feat, bulk (diffOf s t) ≤ 1048576 := fun s t => Nat.le_trans (diffOf_small s t) RD
 refine F109.law _ _ _ ba bb (F50.law _ (bd a b) _ (F110.law _ _ _ ba bb (F53.law _ (bd a b) _ ?_)))
 rw [if_neg (by simp)]
 have no : sheetOk a = false ∨ sheetOk b = false → diffOf a b = [] := fun h => by
  unfold diffOf
  rcases h with h | h
  ·rw [h]; rfl
  ·rw [h, Bool.and_false]; rfl
 refine F72.law _ _ ?_
 cases ka : sheetOk a with
 | false => rw [if_pos RD, no (.inl ka)]; exact hq
 | true =>
 rw [if_neg RD]
 refine F72.law _ _ ?_
 cases kb : sheetOk b with
 | false => rw [if_pos RD, no (.inr kb)]; exact hq
 | true =>
 rw [if_neg RD]
 refine F116.law _ _ _ ba (bd a b) (F48.law _ _ (bd a b) (F116.law _ _ _ bb (Nat.le_trans (bulk_turnD _) (bd a b)) (F101.law _ _ (bd a b) ?_)))
 rw [diffOf_ok ka kb, if_pos rfl, diffOf_turn ka kb, do_diff ka kb, do_diff kb ka, if_pos rfl]
 refine F44.law _ _ _ bb ?_
 rw [decide_eq_true rfl, if_pos rfl, if_pos rfl]
 refine F44.law _ _ _ ba ?_
 rw [decide_eq_true rfl, if_pos rfl]
 refine F44.law _ _ _ ba ?_
 have e1 : (((diffOf a b).length : Int) == 0) = decide (a = b) := by
  rw [Bool.eq_iff_iff, beq_iff_eq, decide_eq_true_eq, ← diffOf_self ka kb]
  constructor
  ·intro h; exact List.length_eq_zero_iff.1 OM
  ·intro h; rw [h]; rfl
 rw [e1, if_pos (by simp)]
 refine F109.law _ _ _ bb ba ?_
 have e2 : (diffOf b a).length = (diffOf a b).length := by rw [← diffOf_turn ka kb, turnD_is (diffOf_ok ka kb), List.length_map]
 rw [e2, show (((diffOf a b).length : Int) == ((diffOf a b).length : Int)) = true from by simp]; exact hq
theorem laws_FnDiff.law (code : List UInt8) (_ : ∀ x ∈ code, True) : laws_FnDiff.E code (fun r => r = true) := laws_FnDiff.gen code _ rfl
theorem laidVars_at {P : Program} {w : World} : ∀ {l : List (String × DataW Unit)} {ps : List MemPlace} {i : Nat} {n : String} {d : DataW Unit}, DataW.LaidVars P w l ps → l[i]? = some (n, d) →
  ∃ g t cs fuel p, P.globalNamed n = some g ∧ (P.globals[g]?).map (·.type) = some t ∧ w.var? P n = some cs ∧ DataW.trod (fun _ => ()) P w 0 (fun _ => true) false fuel t cs.toList = some (d, p) ∧ ∀ x ∈ MemPlace.row ⟨g, 0, none⟩ cs.size, x ∈ ps
 | [], _, _, _, _, _, h => by simp at h
 | (n', d') :: r, _, 0, n, d, ⟨g, t, cs, fuel, p, q, h1, h2, h3, h4, h5, e⟩, h => by
  simp only [List.getElem?_cons_zero, Option.some.injEq, Prod.mk.injEq] at h
  obtain ⟨rfl, rfl⟩ := h
  exact ⟨g, t, cs, fuel, p, h1, h2, h3, h4, fun x hx => by rw [e]; simp [hx]⟩
 | _ :: r, _, i + 1, n, d, ⟨g, t, cs, fuel, p, q, h1, h2, h3, h4, h5, e⟩, h => by
  obtain ⟨g', t', cs', f', p', a1, a2, a3, a4, a5⟩ := laidVars_at h5 (by simpa using h)
  exact ⟨g', t', cs', f', p', a1, a2, a3, a4, fun x hx => by rw [e]; simp [a5 x hx]⟩
theorem laid_box {P : Program} {w : World} {l : List (String × DataW Unit)} {i : Nat} {n : String} {d : DataW Unit} {g : Nat} {t : TypeId} (hL : laidMet P l w) (hi : l[i]? = some (n, d)) (hg : P.globalNamed n = some g) (ht : (P.globals[g]?).map (·.type) = some t) :
  ∃ cs fuel p, w.var? P n = some cs ∧ DataW.trod (fun _ => ()) P w 0 (fun _ => true) false fuel t cs.toList = some (d, p) ∧ (0 < cs.size → Bx w g cs.toList) := by
 obtain ⟨ps, h1, _, h3⟩ := hL
 obtain ⟨g', t', cs, fuel, p, a1, a2, a3, a4, a5⟩ := laidVars_at h1 hi
 obtain rfl := Option.some.inj (hg.symm.trans a1)
 obtain rfl := Option.some.inj (ht.symm.trans a2)
 refine ⟨cs, fuel, p, a3, a4, fun h0 => ?_⟩
 obtain ⟨⟨c, t', hh⟩, _⟩ := h3 g 0 (a5 _ (by unfold MemPlace.row; exact List.mem_map.2 ⟨0, List.mem_range.2 h0, rfl⟩))
 unfold World.var? at a3
 rw [hg] at a3
 simp only [Option.bind_some, hh, Option.some.injEq] at a3
 subst a3
 exact ⟨t', by rw [hh]⟩
theorem arr_vs {w : World} {S : Sp} : ∀ {ls : List Str}, (∀ x ∈ ls, Lim x) → Arr Kd.str w S ls (ls.map vs)
 | [], _ => rfl
 | x :: l, h => ⟨[vs x], l.map vs, rfl, ⟨rfl, h x (List.mem_cons_self ..)⟩, arr_vs fun y hy => h y (List.mem_cons_of_mem _ hy)⟩
theorem laid_strs {P : Program} {H : Type} {enc : TypeId × Value → H} {w : World} {t e : TypeId} {held : Bool} (ht : P.underlying t = some (.slice e)) (he : P.underlying e = some .string) (hce : P.cellsOf e = 1) {fuel : Nat} {cs : List Value} {ls : List Str} {p : List MemPlace} (hlim : ∀ x ∈ ls, Lim x)
  (h : DataW.trod enc P w 0 (fun _ => true) held fuel t cs = some (.slice (ls.map fun s => .lit (.string s)) [], p)) : ∃ A : Option Addr, cs = [.slice A ls.length ls.length] ∧ Sl Kd.str w (Fr []) (.slice A ls.length ls.length) ls := by
 rcases DataW.trod_slice ht h with ⟨_, e0⟩ | ⟨a, len, cap, elems, rest, n, _, rfl, hx, _, hl, hm, hlen, hel, hsp, _⟩
 ·simp only [Prod.mk.injEq, reduceCtorEq, false_and] at e0
 ·simp only [Prod.mk.injEq, DataW.slice.injEq] at hx
  obtain ⟨⟨hx1, hx2⟩, _⟩ := hx
  obtain ⟨hr, _⟩ := hsp rfl
  have hr0 : rest = [] := by
   cases rest with
   | nil => rfl
   | cons r rs => simp at hx2
  have hl2 : len = ls.length := by
   have := congrArg List.length hx1
   simp only [List.length_map] at this
   omega
  have hcl : cap = ls.length := by rw [hr0] at hr; simp at hr; omega
  subst hcl; subst hl2
  refine ⟨some a, rfl, some a, ls.length, ls.map vs, rfl, ⟨Nat.le_refl _, hm⟩, arr_vs hlim, fun j u hj => ⟨a, rfl, by simp [Fr], ?_⟩⟩
  have hjl : j < ls.length := by
   rcases Nat.lt_or_ge j ls.length with hq | hq
   ·exact hq
   ·rw [List.getElem?_eq_none (by simpa using hq)] at hj; cases hj
  have he' := hel j hjl
  rw [List.getElem?_eq_getElem OM, Option.bind_eq_some_iff] at he'
  obtain ⟨ci, hci, hti⟩ := he'
  obtain ⟨_, hcl, hcc⟩ := World.cells?_some hci
  obtain ⟨s, hs1, hs2, _⟩ := DataW.trod_string he hti
  have e1 : (ls.map fun s => (DataW.lit (.string s) : DataW H))[j]? = (elems.map (·.1))[j]? := by rw [hx1]
  rw [List.getElem?_map, List.getElem?_map, List.getElem?_eq_getElem hjl, List.getElem?_eq_getElem OM, hs2] at e1
  simp only [Option.map_some, Option.some.injEq, DataW.lit.injEq, Lit.string.injEq] at e1
  rw [List.getElem?_map, List.getElem?_eq_getElem hjl] at hj
  simp only [Option.map_some, Option.some.injEq] at hj
  have h0 := hcc 0 (by rw [hce]; omega)
  rw [hs1, add_add, hce, Nat.mul_one, Nat.add_zero] at h0
  rw [h0, ← hj, e1]
  simp [vs]
theorem glob_laid {W : World} {l : List (String × DataW Unit)} {i j : Nat} (hL : laidMet Tryz.prog l W)
  (hi : l[i]? = some ("loop.example/townland/impl.shapeNames", .slice (shapeNamesL.map fun s => .lit (.string s)) [])) (hj : l[j]? = some ("internal/strconv.uint64pow10", Lib.tabData .u64 Lib.pow10Tab)) : Glob W [] := by
 obtain ⟨cs, fuel, p, _, b1, c1⟩ := laid_box hL hi (g := 0) (t := 50) RK RK
 obtain ⟨A, e, hs⟩ := laid_strs Tryz.underlying50 Tryz.underlying9 RK RD b1
 obtain ⟨cs2, fuel2, p2, _, b2, c2⟩ := laid_box hL hj (g := 1) (t := 202) RK RK
 have e2 := Lib.cells_of_tab Tryz.underlying202 Tryz.underlying165 RK RK b2
 refine ⟨⟨A, ⟨?_, by simp⟩, hs⟩, ⟨?_, by simp⟩⟩
 ·have := c1 (by rw [← Array.length_toList, e]; exact Nat.one_pos)
  rw [e] at this; exact this
 ·have := c2 (by rw [← Array.length_toList, e2, List.length_map, Lib.pow10Tab_length]; decide)
  rw [e2] at this; exact this
end Go.Proofs.YtlaaehjcooonfaaGreatDoor
namespace Go.Proofs.YtlaaehjcooonfaaGreatDoor.rFnDiff
open Go.ChangeShapes Go.WideShapes Go.ChangeAt Go.RowKit
open Go.ChangeMaps (open_string shut_string)
set_option linter.unusedVariables false
theorem own : ownKnob Tryz.prog.godebug = none := by kernel_rfl
theorem laidOut : laidOutB Tryz.prog = true := by kernel_rfl
theorem door_met (os : Os) (args : Array Value) : laidMetH Tryz.prog Rows.fnDiffRow.laid ((World.doorLaid Tryz.prog 29 os).forCall (fun _ _ => 0) ⟨#[], args, []⟩).memory :=
  laidMetH_of_parts3 (fuel := 8) (laidMet_of_run' 8 (by kernel_rfl) (by kernel_rfl)) (by kernel_rfl) (by kernel_rfl)
set_option maxHeartbeats 4000000 in
set_option maxRecDepth 100000 in
theorem lifted (os : Os) (started : os.Started) (H : Type) (enc : TypeId × Value → H) :
    ReturnsInHanded {} Tryz.checked os 8 .any (fun w args => (Rows.fnDiffSpec.pre enc Tryz.prog Tryz.f8 [] false w args ∧ laidMetH Tryz.prog Rows.fnDiffRow.laid w) ∧ sizedMet enc Tryz.prog Tryz.f8 (OpenSpec.ofChange Rows.fnDiffSpec) false w args) (Rows.fnDiffSpec.post enc Tryz.prog Tryz.f8 false true false false) := by
  refine returnsInHanded_of_change_and (C := Tryz.checked) (X := fun w _ => laidMetH Tryz.prog Rows.fnDiffRow.laid w) (fun _ _ _ hh h => h.of_heap hh) own started (by kernel_rfl) Tryz.func8
    (ChangeSpec.witness_shaped (enc := enc) (C := Tryz.checked) (os := os) (X := fun w _ => laidMetH Tryz.prog Rows.fnDiffRow.laid w) false (World.doorLaid Tryz.prog 29 os) #[.slice none 0 0] 8 rfl (World.shaped_of_RefB (by kernel_rfl) (by kernel_rfl)) (by kernel_rfl) (by kernel_rfl) (by kernel_rfl) (door_met os _)) ?_
  intro W base args ds gs before hval0 hW _ hsz0 hL _
  have hG : Glob W [] := glob_laid (i := 3) (j := 2) (by rw [← MakeChecks.laidMetH_plain _ _ _ (by kernel_rfl)]; exact hL) (by kernel_rfl) (by kernel_rfl)
  have hval : ∀ (j : Nat) t v, Tryz.f8.params[j]? = some t → args[j]? = some v → Value.okWide Tryz.prog W .any base t v := hval0
  have hW' := hW
  obtain ⟨p, q, hA0, hV, rfl, hfz, hnd⟩ := hW
  have hA : DataW.TrodAll enc Tryz.prog W 0 (fun _ => true) true Tryz.f8.params.toList args.toList ds p := hA0
  rw [Tryz.params8] at hA hval
  obtain ⟨v0, vs0, d0, ds0, p0, q0, hargs, rfl, rfl, h0, r0⟩ := trodAll_cons hA
  obtain ⟨rfl, rfl, rfl⟩ := trodAll_nil r0
  obtain rfl : args = #[v0] := by cases args; simp_all
  have hV0 : DataW.TrodVars enc Tryz.prog W (fun _ => true) ["loop.example/townland/impl.shapeNames"] gs q := hV
  obtain ⟨_, _, _, _, g1, _, hgs, _⟩ := trodVars_one hV0
  subst hgs
  have k0 := h0
  have lt0 : ∀ x ∈ p0, x.block < W.heap.size := by obtain ⟨m, hm⟩ := k0; exact DataW.trod_lt m _ _ _ hm
  obtain ⟨x0, hv0, hx0⟩ : ∃ a : List UInt8, (∀ y0 ∈ a, True) ∧ (Kd.sl Kd.byte).R W (Fr []) a v0.cells.toList := by obtain ⟨fuel, hf⟩ := h0; exact (Tr.sl Tryz.underlying22 (by kernel_rfl) (Tr.byte Tryz.underlying5)) H enc W fuel _ _ hf
  obtain ⟨a0, n0, c0, rfl⟩ := okWide_slice Tryz.underlying22 (hval 0 22 v0 rfl rfl)
  have s0 : Sl Kd.byte W (Fr []) (.slice a0 n0 c0) x0 := by obtain ⟨_, e, h⟩ := hx0; simp [Value.cells] at e; subst e; exact h
  clear hA0 hval0 hsz0
  refine Calls.mono (laws_FnDiff.calls W (Ok.nil W) hG x0 a0 n0 c0 s0 (fun r => r = true) (laws_FnDiff.law x0 hv0)) fun e W' ⟨v, he, r, hr, hq, hg⟩ => ?_
  subst he; subst hr; subst hq
  have bel := Gr.below hg
  exact ⟨_, rfl, _, _, _, [], _, _, hW', trodAll_mk1 (shut_bool Tryz.underlying4 _), (trodAll_cons_mk (Below.trod laidOut (by kernel_rfl) (of_decide_eq_true (by kernel_rfl)) k0 bel lt0) trodAll_mk0), Below.trodVars laidOut bel (by kernel_rfl) hV0, bel.frame _, fun h => by cases h⟩
theorem over : Rows.fnDiffRow.holds Tryz.pinned (OpenSpec.ofChange Rows.fnDiffSpec) :=
  OpenClaim.holds_of_wide 8 Tryz.f8 rfl rfl rfl rfl rfl rfl rfl ⟨rfl, rfl, rfl, rfl, rfl⟩ rfl rfl rfl rfl rfl (by kernel_rfl) Tryz.func8 (by kernel_rfl)
    (of_decide_eq_true (by kernel_rfl)) (by unfold Func.isWrapper; first | (rw [if_pos (by decide +kernel)]; kernel_rfl) | (rw [if_neg (by decide +kernel)]; exact ⟨rfl, rfl⟩))
    (fun os started H enc _ => lifted os started H enc)
theorem card : Rows.FnDiffCardSaid :=
  Claim7.holds_tied_plain_at .later [] [.data, .data, .data, .widerDeep] true (true, "e415afabf9b868df025d23cfa6c51a343106c6c6c244cd0de1bc1fd0934c8ded") false
    over (fun _ h => by cases h) (by kernel_rfl) (fun _ h => by cases h) fnDiff_row_tie rfl ⟨rfl, rfl⟩ (by kernel_rfl) rfl
    (fun f fn hf hfn => by
      obtain rfl : f = 8 := Option.some.inj ((show Tryz.prog.funcNamed "loop.example/townland/laws.FnDiff" = some 8 by kernel_rfl).symm.trans hf) |>.symm
      obtain rfl : fn = Tryz.f8 := (Option.some.inj (Tryz.func8.symm.trans hfn)).symm
      exact ⟨by kernel_rfl, fun j t ht => by
        rw [Tryz.params8] at ht
        have hm : t ∈ [22] := by simpa using Array.mem_of_getElem? ht
        have hall : ([22].all fun u => !Tryz.prog.wantsStandIn u) = true := by kernel_rfl
        exact (show Tryz.prog.wantsStandIn t = false by simpa using List.all_eq_true.1 hall t hm)⟩)
    (by kernel_rfl)
theorem proved : Rows.FnDiffCardSaid := card
#print axioms proved
end Go.Proofs.YtlaaehjcooonfaaGreatDoor.rFnDiff
namespace Go.Proofs.YtlaaehjcooonfaaGreatDoor
theorem fnDiff_holds : Rows.FnDiffCardSaid := rFnDiff.proved
end Go.Proofs.YtlaaehjcooonfaaGreatDoor