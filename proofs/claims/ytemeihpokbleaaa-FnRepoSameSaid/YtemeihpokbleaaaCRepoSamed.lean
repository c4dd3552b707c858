/- It is proved here that the law FnRepoSame of the given program holds whatever it is handed: the walks through the code, the plain laws and the row, in this order.
   Conditions: none. -/
import Derived.Below
import Derived.ChangeArms
import Derived.ChangeOld
import Derived.ChangeSlices
import Derived.DataReads
import Derived.Deep.Quiet
import Derived.KernelRfl
import Derived.Laws.Build
import Derived.Laws.IdiomStrings
import Derived.Laws.OwnMore
import Derived.Laws.Slices
import Derived.Laws.Strings2
import Derived.Laws.StructEq
import Derived.OpenShut
import Derived.ProofKit
import Derived.Shelf.Slices.CompactS
import Derived.Shelf.Sort.Plain
import Derived.ShutString
import Derived.SizedLaws
import Derived.StillTail
import Derived.Test.YtemeihpokbleaaaProg
import Derived.Test.YtemeihpokbleaaaRows
import Derived.WalkKit
import Derived.Test.YtemeihpokbleaaaCRepoSamea
import Derived.Test.YtemeihpokbleaaaCRepoSameb
import Derived.Test.YtemeihpokbleaaaCRepoSamec
namespace Go.Proofs.Ytemeihpokbleaaa
set_option linter.unusedVariables false
set_option linter.unusedSimpArgs false
set_option linter.unusedSectionVars false
set_option maxHeartbeats 8000000
set_option maxRecDepth 100000
open Go.RowKit
variable {O : Ob} {w0 : World}
def F78.E (r_b : List UInt8) (r_p : Int) (Q : Feat → Int → Prop) : Prop :=
 F94.E r_b r_p (fun r2 m => F57.E r_b m r2 (fun r3 m2 => F23.E r_b m2 40 (fun r4 m3 => (if r4 == 0 then F39.E r_b m3 ([([] : Str), ([65] : Str), ([97, 98, 99, 100, 101, 102, 103] : Str)] : List Str) (fun r5 m4 => Q (⟨r5, r3.Shape, r3.Tags⟩ : Feat) m4) else (if r4 == 1 then F77.E r_b m3 (fun r6 m5 => Q (⟨r3.Id, r6, r3.Tags⟩ : Feat) m5) else (if r4 == 2 then (r3.Tags.length + ([(⟨([97] : Str), ([98] : Str)⟩ : Tag)] : List Tag).length ≤ 268435456) ∧ Q (⟨r3.Id, r3.Shape, (r3.Tags ++ ([(⟨([97] : Str), ([98] : Str)⟩ : Tag)] : List Tag))⟩ : Feat) m3 else (if r4 == 3 then F39.E r_b m3 ([([] : Str), ([66] : Str)] : List Str) (fun r7 m6 => (r3.Tags.length + ([(⟨([122, 122] : Str), r7⟩ : Tag)] : List Tag).length ≤ 268435456) ∧ Q (⟨r3.Id, r3.Shape, (r3.Tags ++ ([(⟨([122, 122] : Str), r7⟩ : Tag)] : List Tag))⟩ : Feat) m6) else Q r3 m3)))))))
theorem F78.calls {b : Nat} {r_b : List UInt8} {A2 : Option Addr} {n3 c4 : Nat} {r_p : Int} {Q : Feat → Int → Prop} (H : F78.E r_b r_p Q) (hO : Ok w0 O) (hp5 : Sl Kd.byte w0 (Fr O) (G A2 n3 c4) r_b) (hp0 : Bx w0 b [G A2 n3 c4, vi r_p]) (hm : some b ∈ O) :
  Ret Try.prog 59 [Pz b] w0 (fun v w' => ∃ (r0 : Feat) (m0 : Int) (Aw0 : Option Addr) (nw0 cw0 : Nat) (Aw2 : Option Addr) (nw2 cw2 : Nat), v = .agg #[vs r0.Id, vi r0.Shape.Kind, G Aw0 nw0 cw0, G Aw2 nw2 cw2] ∧ Q r0 m0 ∧ Gr w0 w' (some b) ∧ Bx w' b [G A2 n3 c4, vi m0] ∧ Lim r0.Id ∧ Sl kPt w' (Fr O) (G Aw0 nw0 cw0) r0.Shape.Pts ∧ Sl kTag w' (Fr O) (G Aw2 nw2 cw2) r0.Tags) := by
 unfold F78.E at H;have hc0 := Ct.initm1 (r := some b) hO (by intro b e; cases e; exact hm);refine X9 Try.func59 Z 41 Z [.cell 2 80] Z Z ?_;refine Xc (Xd (Yf [vs [], .int .i64 0, G none 0 0, G none 0 0] ze80 fun w7 b8 ez hu11 g9 bi => ?_));have a8 := hc0.own g9 (some b8) (Yd ez hu11);refine Xb (Xc (Xd (Xe (Pz b) Z (Xe (Pz b) Z ?_))));have e0 := (hp0.k0 g9);refine Xs go73 (F94.calls H a8.ok (hp5.st a8.st) e0 (List.mem_append_right _ hm)) Z ?_;rintro _ e1 ⟨r2, m, rfl, H, bg, e2, e3⟩;have a9 := a8.wm bg;refine Xs go72 (F57.calls H a9.ok (hp5.st a9.st) e2 (List.mem_append_right _ hm) e3) Z ?_;rintro _ ht ⟨r3, m2, aa, ac, ad, ae, af, ag, rfl, H, bh, e4, e5, e6, bn, bo, bj⟩;have e7 := a9.ownm bh e5 e6;refine Yf [vs [], .int .i64 0, G none 0 0, G none 0 0] ze80 fun hu ab a2 hu44 ao e8 => ?_;have ap := e7.own ao (some ab) (Yd a2 hu44);refine Xt [vs r3.Id, vi r3.Shape.Kind, G aa ac ad, G ae af ag] e8 Z Z sz80 Z Z fun e9 aq bl => ?_;have ah := ap.wr 0 Z aq;refine Xb (Xc (Xc (Xd (Xe (Pz b) Z ?_))));have fa := (ap.bmo (e4.k0 ao) 0 Z aq);refine Xs go41 (F23.calls H ah.ok (hp5.st ah.st) fa (List.mem_append_right _ hm)) Z ?_;rintro _ fb ⟨r4, m3, rfl, H, ai, bp⟩;have a6 := ah.wm ai;refine Xb (X6 (Xc (Xd (Xa (Xw r4 0 (r4 == 0) Z Z Z) (Xf (vb (r4 == 0)) Z (Xb ?_))))));refine Xu (r4 == 0) Z (fun ds => ?_) (fun ds => ?_)
 ·have H := Xn H ds;refine Xd (Xe (Pz b) Z (X5 (kd := Kd.str) Zh a6 ([([] : Str), ([65] : Str), ([97, 98, 99, 100, 101, 102, 103] : Str)] : List Str) (cells := [vs [], vs ([65] : Str), vs ([97, 98, 99, 100, 101, 102, 103] : Str)]) ⟨[vs []], _, Z, ⟨Z, (by decide : Lim ([] : Str))⟩, ⟨[vs ([65] : Str)], _, Z, ⟨Z, (by decide : Lim ([65] : Str))⟩, ⟨[vs ([97, 98, 99, 100, 101, 102, 103] : Str)], _, Z, ⟨Z, (by decide : Lim ([97, 98, 99, 100, 101, 102, 103] : Str))⟩, Z⟩⟩⟩ RF fun fc dt eb ec cn hr65 bq fd => ?_));have fe := bq.gv fd 0 Z;have ed := bq.drop 0 Z;have ff := (bp.k0 cn);refine Xs go80 (F39.calls H ed.ok (hp5.st ed.st) ff (List.mem_append_right _ hm) fe) Z ?_;rintro _ hv ⟨r5, m4, rfl, H, co, fg, fh⟩;have cp := bq.wm co;refine Xa (Xg fa80_0 (Ad ab 0) (Ad ab 0) Z Z) ?_;have fi := (bq.bwm ((ah.bwm bl 0 Z ai).k0 cn) 1 Z co);refine Ye 0 [vs r5] [vs r5, vi r3.Shape.Kind, G aa ac ad, G ae af ag] fi Z Z sz9 Z Z Z fun hw cq fj => ?_;have c5 := cp.wr 1 Z cq;refine Xb (Xc (Xd (Xa (Xr ag80 sz80 cL (Ad ab 0) [vs r5, vi r3.Shape.Kind, G aa ac ad, G ae af ag] Z Z (fj.cells (off := 00) Z)) ?_)));have fk := (cp.bm (bq.bwm ((ah.bwm (ap.bm ((a9.bwm (a8.bwm bi 0 Z bg) 0 Z bh).k0 ao) 3 0 Z Z Z aq) 3 Z ai).k0 cn) 4 Z co) 4 1 Z Z Z cq);refine Xt [vs r5, vi r3.Shape.Kind, G aa ac ad, G ae af ag] fk Z Z sz80 Z Z fun fl c6 fm => ?_;have c7 := c5.wr 4 Z c6;refine Xb (Xk ?_);have fn := c7.bgv fm 4 Z;have c8 := c7.drop 4 Z;have fo := (c7.sd (c5.sw (cp.sw (bq.swm ((ah.swm (ap.sw (bo.so _ ao (Xi a2)) 1 0 Z Z Z aq) 1 Z ai).so _ cn hr65) 2 Z co) 2 1 Z Z Z cq) 2 4 Z Z Z c6) 2 4 Z Z Z);have fp := c8.gv fo 2 Z;have du := c8.drop 2 Z;have fq := (c8.sd (c7.sd (c5.sw (cp.sw (bq.swm ((ah.swm (ap.sw (bj.so _ ao (Xi a2)) 2 0 Z Z Z aq) 2 Z ai).so _ cn hr65) 3 Z co) 3 1 Z Z Z cq) 3 4 Z Z Z c6) 3 4 Z Z Z) 3 2 Z Z Z);have fr := du.gv fq 2 Z;have fs : Ct [some b] w0 fl [bk dt, some ab] O := du.drop 2 Z;have ft := fs.clear;have fu := c8.std 2 Z;have ee := du.std 2 Z;have fv := (((fn.st fu).st ee).st St.clear);have fw := ((fp.st ee).st St.clear);have fx := (c5.bmo (cp.bmo fg 1 Z cq) 4 Z c6);exact ⟨[.agg #[vs r5, vi r3.Shape.Kind, G aa ac ad, G ae af ag]], ⟨_, _, Z, fv.1.res Z ag80 sz80, Z⟩, (⟨r5, r3.Shape, r3.Tags⟩ : Feat), m4, aa, ac, ad, ae, af, ag, Z, H, ft.gr.g1, fx, fh, fw, (fr.st St.clear)⟩
 have H := Xo H ds;refine Xc (Xd (Xa (Xw r4 1 (r4 == 1) Z Z Z) (Xf (vb (r4 == 1)) Z (Xb ?_))));refine Xu (r4 == 1) Z (fun dv => ?_) (fun dv => ?_)
 ·have H := Xn H dv;refine Xd (Xe (Pz b) Z ?_);refine Xs go81 (F77.calls H a6.ok (hp5.st a6.st) bp (List.mem_append_right _ hm)) Z ?_;rintro _ hx ⟨r6, m5, br, bs, bt, rfl, H, c9, fy, fz⟩;have cr := a6.wm c9;refine Xa (Xg fa80_1 (Ad ab 0) (Ad ab 1) Z Z) ?_;have f0 := (a6.bwm (ah.bwm bl 0 Z ai) 0 Z c9);refine Ye 1 [vi r6.Kind, G br bs bt] [vs r3.Id, vi r6.Kind, G br bs bt, G ae af ag] f0 Z Z sz77 Z Z Z fun hy cs f1 => ?_;have da := cr.wr 0 Z cs;refine Xb (Xc (Xd (Xa (Xr ag80 sz80 cL (Ad ab 0) [vs r3.Id, vi r6.Kind, G br bs bt, G ae af ag] Z Z (f1.cells (off := 00) Z)) ?_)));have f2 := (cr.bm (a6.bwm (ah.bwm (ap.bm ((a9.bwm (a8.bwm bi 0 Z bg) 0 Z bh).k0 ao) 3 0 Z Z Z aq) 3 Z ai) 3 Z c9) 3 0 Z Z Z cs);refine Xt [vs r3.Id, vi r6.Kind, G br bs bt, G ae af ag] f2 Z Z sz80 Z Z fun hz db f3 => ?_;have dc := da.wr 3 Z db;refine Xb (Xk ?_);have f4 := dc.bgv f3 3 Z;have dw := dc.drop 3 Z;have f5 := (dc.sd (da.sw (cr.sw (a6.swm (ah.swm (ap.sw (bj.so _ ao (Xi a2)) 2 0 Z Z Z aq) 2 Z ai) 2 Z c9) 2 0 Z Z Z cs) 2 3 Z Z Z db) 2 3 Z Z Z);have f6 := dw.gv f5 2 Z;have f7 := dw.drop 2 Z;have f8 := f7.clear;have ef := dw.std 2 Z;have f9 := ((f4.st ef).st St.clear);have ga := cr.stw 0 Z cs;have gb := da.stw 3 Z db;have gc := dc.std 3 Z;have gd := (((((fz.st ga).st gb).st gc).st ef).st St.clear);have ge := (da.bmo (cr.bmo fy 0 Z cs) 3 Z db);exact ⟨[.agg #[vs r3.Id, vi r6.Kind, G br bs bt, G ae af ag]], ⟨_, _, Z, f9.1.res Z ag80 sz80, Z⟩, (⟨r3.Id, r6, r3.Tags⟩ : Feat), m5, br, bs, bt, ae, af, ag, Z, H, f8.gr.g1, ge, bn, gd, (f6.st St.clear)⟩
 have H := Xo H dv;refine Xc (Xd (Xa (Xw r4 2 (r4 == 2) Z Z Z) (Xf (vb (r4 == 2)) Z (Xb ?_))));refine Xu (r4 == 2) Z (fun dx => ?_) (fun dx => ?_)
 ·have H := Xn H dx;refine Xd (Xa (Xg fa80_2 (Ad ab 0) (Ad ab 3) Z Z) ?_);have eg := (ah.bwm bl 0 Z ai);refine Xa (Xj ag78 cL (Ad ab 3) (G ae af ag) Z (eg.cell Z)) (Xa (Yn (.agg #[vs ([97] : Str), vs ([98] : Str)]) RF) (X5 (kd := kTag) Yu a6 ([(⟨([97] : Str), ([98] : Str)⟩ : Tag)] : List Tag) (cells := [vs ([97] : Str), vs ([98] : Str)]) ⟨[vs ([97] : Str), vs ([98] : Str)], _, Z, (kTag.mk _ _ (⟨([97] : Str), ([98] : Str)⟩ : Tag) (by decide : Lim ([97] : Str)) (by decide : Lim ([98] : Str))), Z⟩ RF fun h0 eh gf gg ct hr149 cu gh => ?_));obtain ⟨gi, H⟩ := H;have gj := ((ah.swm (ap.sw (bj.so _ ao (Xi a2)) 2 0 Z Z Z aq) 2 Z ai).so _ ct hr149);refine Ya Yu cu (G ae af ag) r3.Tags ([(⟨([97] : Str), ([98] : Str)⟩ : Tag)] : List Tag) Z gj (G eh gf gg) Z gh.sx 3 Z gi fun h1 bu bv bw dd gk cv gl => ?_;refine Xa (Xg fa80_2 (Ad ab 0) (Ad ab 3) Z Z) ?_;have gm := (cu.bm (eg.k0 ct) 1 3 Z Z Z dd);refine Ye 3 [G bu bv bw] [vs r3.Id, vi r3.Shape.Kind, G aa ac ad, G bu bv bw] gm Z Z sz78 Z Z Z fun h2 cw gn => ?_;have de := cv.wr 1 Z cw;refine Xb (Xc (Xd (Xa (Xr ag80 sz80 cL (Ad ab 0) [vs r3.Id, vi r3.Shape.Kind, G aa ac ad, G bu bv bw] Z Z (gn.cells (off := 00) Z)) ?_)));have gp := (cv.bm (cu.bm ((ah.bwm (ap.bm ((a9.bwm (a8.bwm bi 0 Z bg) 0 Z bh).k0 ao) 3 0 Z Z Z aq) 3 Z ai).k0 ct) 4 3 Z Z Z dd) 4 1 Z Z Z cw);refine Xt [vs r3.Id, vi r3.Shape.Kind, G aa ac ad, G bu bv bw] gp Z Z sz80 Z Z fun gq df gs => ?_;have dg := de.wr 4 Z df;refine Xb (Xk ?_);have gt := dg.bgv gs 4 Z;have dh := dg.drop 4 Z;have gu := (dg.sd (de.sw (cv.sw (cu.sm ((ah.swm (ap.sw (bo.so _ ao (Xi a2)) 1 0 Z Z Z aq) 1 Z ai).so _ ct hr149) 2 3 Z Z Z dd gk) 2 1 Z Z Z cw) 2 4 Z Z Z df) 2 4 Z Z Z);have gw := dh.gv gu 2 Z;have dy := dh.drop 2 Z;have gx := (dh.sd (dg.sd (de.sw (cv.sw gl 3 1 Z Z Z cw) 3 4 Z Z Z df) 3 4 Z Z Z) 3 2 Z Z Z);have gy := dy.gv gx 2 Z;have gz : Ct [some b] w0 gq [bk eh, some ab] O := dy.drop 2 Z;have g0 := gz.clear;have g2 := dh.std 2 Z;have ei := dy.std 2 Z;have g3 := (((gt.st g2).st ei).st St.clear);have g4 := ((gw.st ei).st St.clear);have g5 := (de.bmo (cv.bmo (cu.bmo (bp.k0 ct) 3 Z dd) 1 Z cw) 4 Z df);exact ⟨[.agg #[vs r3.Id, vi r3.Shape.Kind, G aa ac ad, G bu bv bw]], ⟨_, _, Z, g3.1.res Z ag80 sz80, Z⟩, (⟨r3.Id, r3.Shape, (r3.Tags ++ ([(⟨([97] : Str), ([98] : Str)⟩ : Tag)] : List Tag))⟩ : Feat), m3, aa, ac, ad, bu, bv, bw, Z, H, g0.gr.g1, g5, bn, g4, (gy.st St.clear)⟩
 have H := Xo H dx;refine Xc (Xd (Xa (Xw r4 3 (r4 == 3) Z Z Z) (Xf (vb (r4 == 3)) Z (Xb ?_))));refine Xu (r4 == 3) Z (fun dz => ?_) (fun dz => ?_)
 ·have H := Xn H dz;refine Yt 10 [some b, bk ae, some ab] RK Z fun h3 au cx => ?_;have ej := a6.k0 au;refine Xl 0 Z RK cx (Xg fa80_2 (Ad ab 0) (Ad ab 3) Z Z) ?_;refine Xl 2 Z RK cx (Yj (Pz b) Z) ?_;refine Yo 1 3 RK Z Z ?_ ?_
  ·have ek := ((ah.bwm bl 0 Z ai).k0 au);refine Xa (Xj ag78 cL (Ad ab 3) (G ae af ag) Z (ek.cell Z)) ?_;refine Xb ⟨cx, ?_⟩;refine Xm 3 RK Z ?_;refine X5 (kd := Kd.str) Zh ej ([([] : Str), ([66] : Str)] : List Str) (cells := [vs [], vs ([66] : Str)]) ⟨[vs []], _, Z, ⟨Z, (by decide : Lim ([] : Str))⟩, ⟨[vs ([66] : Str)], _, Z, ⟨Z, (by decide : Lim ([66] : Str))⟩, Z⟩⟩ RF fun g6 di el em cl hr201 bx g7 => ?_;have en := Gm.tm cx cl;refine Xb ⟨en, ?_⟩;refine Xm 4 RK Z ?_;have d0 := bx.gv g7 0 Z;have cy := bx.drop 0 Z;have d1 := ((bp.k0 au).k0 cl);refine Xs go80 (F39.calls H cy.ok (hp5.st cy.st) d1 (List.mem_append_right _ hm) d0) Z ?_;rintro _ g8 ⟨r7, m6, rfl, H, a7, d2, d3⟩;have d4 := bx.wm a7;have bz := Gm.tq en a7 (hv_mem 0 Z);refine Xb ⟨bz, ?_⟩;refine Xl 5 Z RK bz (Yn (.agg #[vs ([122, 122] : Str), vs r7]) RF) ?_;refine Xm 6 RK Z ?_;refine X5 (kd := kTag) Yu d4 ([(⟨([122, 122] : Str), r7⟩ : Tag)] : List Tag) (cells := [vs ([122, 122] : Str), vs r7]) ⟨[vs ([122, 122] : Str), vs r7], _, Z, (kTag.mk _ _ (⟨([122, 122] : Str), r7⟩ : Tag) (by decide : Lim ([122, 122] : Str)) d3), Z⟩ RF fun eo ba cz c0 av hr224 a1 c1 => ?_;have bb := Gm.tm bz av;refine Xb ⟨bb, ?_⟩;refine Xm 7 RK Z ?_;obtain ⟨b0, H⟩ := H;have b1 := ((bx.swm (((ah.swm (ap.sw (bj.so _ ao (Xi a2)) 2 0 Z Z Z aq) 2 Z ai).sn au).so _ cl hr201) 3 Z a7).so _ av hr224);refine Ya Yu a1 (G ae af ag) r3.Tags ([(⟨([122, 122] : Str), r7⟩ : Tag)] : List Tag) Z b1 (G ba cz c0) Z c1.sx 4 Z b0 fun d5 aj ak al ar bc am b2 => ?_;have a3 := Gm.tq bb ar (hv_mem 1 Z);have d6 := hv_app (L := [bk ba, bk di, some ab, bk aa, bk ae, some b8]) (O := O) (i := 4) bb Z (hv_mem 1 Z) bc am;refine Xb ⟨a3, ?_⟩;refine Xl 8 Z RK a3 (Xg fa80_2 (Ad ab 0) (Ad ab 3) Z Z) ?_;refine Xm 9 RK Z ?_;have b3 := (a1.bm ((bx.bwm (ek.k0 cl) 1 Z a7).k0 av) 2 4 Z Z Z ar);refine Ye 3 [G aj ak al] [vs r3.Id, vi r3.Shape.Kind, G aa ac ad, G aj ak al] b3 Z Z sz78 Z Z Z fun d7 an b4 => ?_;have aw := am.wr 2 Z an;have b5 := Gm.tq a3 an (hv_mem 2 Z);refine Xb ⟨b5, ?_⟩;refine X8 RK ?_;refine Xc (Xd (Xa (Xr ag80 sz80 cL (Ad ab 0) [vs r3.Id, vi r3.Shape.Kind, G aa ac ad, G aj ak al] Z Z (b4.cells (off := 00) Z)) ?_));have b6 := (am.bm (a1.bm ((bx.bwm (((ah.bwm (ap.bm ((a9.bwm (a8.bwm bi 0 Z bg) 0 Z bh).k0 ao) 3 0 Z Z Z aq) 3 Z ai).k0 au).k0 cl) 4 Z a7).k0 av) 5 4 Z Z Z ar) 5 2 Z Z Z an);refine Xt [vs r3.Id, vi r3.Shape.Kind, G aa ac ad, G aj ak al] b6 Z Z sz80 Z Z fun b7 ax b9 => ?_;have ay := aw.wr 5 Z ax;refine Xb (Xk ?_);have ca := ay.bgv b9 5 Z;have az := ay.drop 5 Z;have cb := (ay.sd (aw.sw (am.sw (a1.sm ((bx.swm (((ah.swm (ap.sw (bo.so _ ao (Xi a2)) 1 0 Z Z Z aq) 1 Z ai).sn au).so _ cl hr201) 2 Z a7).so _ av hr224) 3 4 Z Z Z ar bc) 3 2 Z Z Z an) 3 5 Z Z Z ax) 3 5 Z Z Z);have cc := az.gv cb 3 Z;have a4 := az.drop 3 Z;have cd := (az.sd (ay.sd (aw.sw (am.sw b2 4 2 Z Z Z an) 4 5 Z Z Z ax) 4 5 Z Z Z) 4 3 Z Z Z);have ce := a4.gv cd 3 Z;have cf : Ct [some b] w0 b7 [bk ba, bk di, some ab] O := a4.drop 3 Z;have cg := cf.clear;have ch := az.std 3 Z;have bd := a4.std 3 Z;have ci := (((ca.st ch).st bd).st St.clear);have cj := ((cc.st bd).st St.clear);have ck := (aw.bmo (am.bmo (a1.bmo (d2.k0 av) 4 Z ar) 2 Z an) 5 Z ax);exact ⟨[.agg #[vs r3.Id, vi r3.Shape.Kind, G aa ac ad, G aj ak al]], ⟨_, _, Z, ci.1.res Z ag80 sz80, Z⟩, (⟨r3.Id, r3.Shape, (r3.Tags ++ ([(⟨([122, 122] : Str), r7⟩ : Tag)] : List Tag))⟩ : Feat), m6, aa, ac, ad, aj, ak, al, Z, H, cg.gr.g1, ck, bn, cj, (ce.st St.clear)⟩
  refine X5 (kd := Kd.str) Zh ej ([([] : Str), ([66] : Str)] : List Str) (cells := [vs [], vs ([66] : Str)]) ⟨[vs []], _, Z, ⟨Z, (by decide : Lim ([] : Str))⟩, ⟨[vs ([66] : Str)], _, Z, ⟨Z, (by decide : Lim ([66] : Str))⟩, Z⟩⟩ RF fun ep be dj dk a5 hr200 a0 eq => ?_;have dl := Gm.tm cx a5;refine Xb ⟨dl, ?_⟩;refine Yo 1 4 RK Z Z ?_ ?_
  ·have dm := (((ah.bwm bl 0 Z ai).k0 au).k0 a5);refine Xa (Xj ag78 cL (Ad ab 3) (G ae af ag) Z (dm.cell Z)) ?_;refine Xb ⟨dl, ?_⟩;refine Xm 4 RK Z ?_;have d0 := a0.gv eq 0 Z;have cy := a0.drop 0 Z;have d1 := ((bp.k0 au).k0 a5);refine Xs go80 (F39.calls H cy.ok (hp5.st cy.st) d1 (List.mem_append_right _ hm) d0) Z ?_;rintro _ g8 ⟨r7, m6, rfl, H, a7, d2, d3⟩;have d4 := a0.wm a7;have bz := Gm.tq dl a7 (hv_mem 0 Z);refine Xb ⟨bz, ?_⟩;refine Xl 5 Z RK bz (Yn (.agg #[vs ([122, 122] : Str), vs r7]) RF) ?_;refine Xm 6 RK Z ?_;refine X5 (kd := kTag) Yu d4 ([(⟨([122, 122] : Str), r7⟩ : Tag)] : List Tag) (cells := [vs ([122, 122] : Str), vs r7]) ⟨[vs ([122, 122] : Str), vs r7], _, Z, (kTag.mk _ _ (⟨([122, 122] : Str), r7⟩ : Tag) (by decide : Lim ([122, 122] : Str)) d3), Z⟩ RF fun eo ba cz c0 av hr224 a1 c1 => ?_;have bb := Gm.tm bz av;refine Xb ⟨bb, ?_⟩;refine Xm 7 RK Z ?_;obtain ⟨b0, H⟩ := H;have b1 := ((a0.swm (((ah.swm (ap.sw (bj.so _ ao (Xi a2)) 2 0 Z Z Z aq) 2 Z ai).sn au).so _ a5 hr200) 3 Z a7).so _ av hr224);refine Ya Yu a1 (G ae af ag) r3.Tags ([(⟨([122, 122] : Str), r7⟩ : Tag)] : List Tag) Z b1 (G ba cz c0) Z c1.sx 4 Z b0 fun d5 aj ak al ar bc am b2 => ?_;have a3 := Gm.tq bb ar (hv_mem 1 Z);have d6 := hv_app (L := [bk ba, bk be, some ab, bk aa, bk ae, some b8]) (O := O) (i := 4) bb Z (hv_mem 1 Z) bc am;refine Xb ⟨a3, ?_⟩;refine Xl 8 Z RK a3 (Xg fa80_2 (Ad ab 0) (Ad ab 3) Z Z) ?_;refine Xm 9 RK Z ?_;have b3 := (a1.bm ((a0.bwm dm 1 Z a7).k0 av) 2 4 Z Z Z ar);refine Ye 3 [G aj ak al] [vs r3.Id, vi r3.Shape.Kind, G aa ac ad, G aj ak al] b3 Z Z sz78 Z Z Z fun d7 an b4 => ?_;have aw := am.wr 2 Z an;have b5 := Gm.tq a3 an (hv_mem 2 Z);refine Xb ⟨b5, ?_⟩;refine X8 RK ?_;refine Xc (Xd (Xa (Xr ag80 sz80 cL (Ad ab 0) [vs r3.Id, vi r3.Shape.Kind, G aa ac ad, G aj ak al] Z Z (b4.cells (off := 00) Z)) ?_));have b6 := (am.bm (a1.bm ((a0.bwm (((ah.bwm (ap.bm ((a9.bwm (a8.bwm bi 0 Z bg) 0 Z bh).k0 ao) 3 0 Z Z Z aq) 3 Z ai).k0 au).k0 a5) 4 Z a7).k0 av) 5 4 Z Z Z ar) 5 2 Z Z Z an);refine Xt [vs r3.Id, vi r3.Shape.Kind, G aa ac ad, G aj ak al] b6 Z Z sz80 Z Z fun b7 ax b9 => ?_;have ay := aw.wr 5 Z ax;refine Xb (Xk ?_);have ca := ay.bgv b9 5 Z;have az := ay.drop 5 Z;have cb := (ay.sd (aw.sw (am.sw (a1.sm ((a0.swm (((ah.swm (ap.sw (bo.so _ ao (Xi a2)) 1 0 Z Z Z aq) 1 Z ai).sn au).so _ a5 hr200) 2 Z a7).so _ av hr224) 3 4 Z Z Z ar bc) 3 2 Z Z Z an) 3 5 Z Z Z ax) 3 5 Z Z Z);have cc := az.gv cb 3 Z;have a4 := az.drop 3 Z;have cd := (az.sd (ay.sd (aw.sw (am.sw b2 4 2 Z Z Z an) 4 5 Z Z Z ax) 4 5 Z Z Z) 4 3 Z Z Z);have ce := a4.gv cd 3 Z;have cf : Ct [some b] w0 b7 [bk ba, bk be, some ab] O := a4.drop 3 Z;have cg := cf.clear;have ch := az.std 3 Z;have bd := a4.std 3 Z;have ci := (((ca.st ch).st bd).st St.clear);have cj := ((cc.st bd).st St.clear);have ck := (aw.bmo (am.bmo (a1.bmo (d2.k0 av) 4 Z ar) 2 Z an) 5 Z ax);exact ⟨[.agg #[vs r3.Id, vi r3.Shape.Kind, G aa ac ad, G aj ak al]], ⟨_, _, Z, ci.1.res Z ag80 sz80, Z⟩, (⟨r3.Id, r3.Shape, (r3.Tags ++ ([(⟨([122, 122] : Str), r7⟩ : Tag)] : List Tag))⟩ : Feat), m6, aa, ac, ad, aj, ak, al, Z, H, cg.gr.g1, ck, bn, cj, (ce.st St.clear)⟩
  have dm := a0.gv eq 0 Z;have er := a0.drop 0 Z;have ha := ((bp.k0 au).k0 a5);refine Xs go80 (F39.calls H er.ok (hp5.st er.st) ha (List.mem_append_right _ hm) dm) Z ?_;rintro _ h4 ⟨r7, m6, rfl, H, bf, es, et⟩;have eu := a0.wm bf;have c2 := Gm.tq dl bf (hv_mem 0 Z);refine Xb ⟨c2, ?_⟩;refine Xl 5 Z RK c2 (Yn (.agg #[vs ([122, 122] : Str), vs r7]) RF) ?_;refine Yo 1 6 RK Z Z ?_ ?_
  ·have ev := (a0.bwm (((ah.bwm bl 0 Z ai).k0 au).k0 a5) 1 Z bf);refine Xa (Xj ag78 cL (Ad ab 3) (G ae af ag) Z (ev.cell Z)) ?_;refine Xb ⟨c2, ?_⟩;refine Xm 6 RK Z ?_;refine X5 (kd := kTag) Yu eu ([(⟨([122, 122] : Str), r7⟩ : Tag)] : List Tag) (cells := [vs ([122, 122] : Str), vs r7]) ⟨[vs ([122, 122] : Str), vs r7], _, Z, (kTag.mk _ _ (⟨([122, 122] : Str), r7⟩ : Tag) (by decide : Lim ([122, 122] : Str)) et), Z⟩ RF fun eo ba cz c0 av hr224 a1 c1 => ?_;have bb := Gm.tm c2 av;refine Xb ⟨bb, ?_⟩;refine Xm 7 RK Z ?_;obtain ⟨b0, H⟩ := H;have b1 := ((a0.swm (((ah.swm (ap.sw (bj.so _ ao (Xi a2)) 2 0 Z Z Z aq) 2 Z ai).sn au).so _ a5 hr200) 3 Z bf).so _ av hr224);refine Ya Yu a1 (G ae af ag) r3.Tags ([(⟨([122, 122] : Str), r7⟩ : Tag)] : List Tag) Z b1 (G ba cz c0) Z c1.sx 4 Z b0 fun d5 aj ak al ar bc am b2 => ?_;have a3 := Gm.tq bb ar (hv_mem 1 Z);have d6 := hv_app (L := [bk ba, bk be, some ab, bk aa, bk ae, some b8]) (O := O) (i := 4) bb Z (hv_mem 1 Z) bc am;refine Xb ⟨a3, ?_⟩;refine Xl 8 Z RK a3 (Xg fa80_2 (Ad ab 0) (Ad ab 3) Z Z) ?_;refine Xm 9 RK Z ?_;have b3 := (a1.bm (ev.k0 av) 2 4 Z Z Z ar);refine Ye 3 [G aj ak al] [vs r3.Id, vi r3.Shape.Kind, G aa ac ad, G aj ak al] b3 Z Z sz78 Z Z Z fun d7 an b4 => ?_;have aw := am.wr 2 Z an;have b5 := Gm.tq a3 an (hv_mem 2 Z);refine Xb ⟨b5, ?_⟩;refine X8 RK ?_;refine Xc (Xd (Xa (Xr ag80 sz80 cL (Ad ab 0) [vs r3.Id, vi r3.Shape.Kind, G aa ac ad, G aj ak al] Z Z (b4.cells (off := 00) Z)) ?_));have b6 := (am.bm (a1.bm ((a0.bwm (((ah.bwm (ap.bm ((a9.bwm (a8.bwm bi 0 Z bg) 0 Z bh).k0 ao) 3 0 Z Z Z aq) 3 Z ai).k0 au).k0 a5) 4 Z bf).k0 av) 5 4 Z Z Z ar) 5 2 Z Z Z an);refine Xt [vs r3.Id, vi r3.Shape.Kind, G aa ac ad, G aj ak al] b6 Z Z sz80 Z Z fun b7 ax b9 => ?_;have ay := aw.wr 5 Z ax;refine Xb (Xk ?_);have ca := ay.bgv b9 5 Z;have az := ay.drop 5 Z;have cb := (ay.sd (aw.sw (am.sw (a1.sm ((a0.swm (((ah.swm (ap.sw (bo.so _ ao (Xi a2)) 1 0 Z Z Z aq) 1 Z ai).sn au).so _ a5 hr200) 2 Z bf).so _ av hr224) 3 4 Z Z Z ar bc) 3 2 Z Z Z an) 3 5 Z Z Z ax) 3 5 Z Z Z);have cc := az.gv cb 3 Z;have a4 := az.drop 3 Z;have cd := (az.sd (ay.sd (aw.sw (am.sw b2 4 2 Z Z Z an) 4 5 Z Z Z ax) 4 5 Z Z Z) 4 3 Z Z Z);have ce := a4.gv cd 3 Z;have cf : Ct [some b] w0 b7 [bk ba, bk be, some ab] O := a4.drop 3 Z;have cg := cf.clear;have ch := az.std 3 Z;have bd := a4.std 3 Z;have ci := (((ca.st ch).st bd).st St.clear);have cj := ((cc.st bd).st St.clear);have ck := (aw.bmo (am.bmo (a1.bmo (es.k0 av) 4 Z ar) 2 Z an) 5 Z ax);exact ⟨[.agg #[vs r3.Id, vi r3.Shape.Kind, G aa ac ad, G aj ak al]], ⟨_, _, Z, ci.1.res Z ag80 sz80, Z⟩, (⟨r3.Id, r3.Shape, (r3.Tags ++ ([(⟨([122, 122] : Str), r7⟩ : Tag)] : List Tag))⟩ : Feat), m6, aa, ac, ad, aj, ak, al, Z, H, cg.gr.g1, ck, bn, cj, (ce.st St.clear)⟩
  refine X5 (kd := kTag) Yu eu ([(⟨([122, 122] : Str), r7⟩ : Tag)] : List Tag) (cells := [vs ([122, 122] : Str), vs r7]) ⟨[vs ([122, 122] : Str), vs r7], _, Z, (kTag.mk _ _ (⟨([122, 122] : Str), r7⟩ : Tag) (by decide : Lim ([122, 122] : Str)) et), Z⟩ RF fun h5 d8 hb hc cm hr223 c3 hd => ?_;have dn := Gm.tm c2 cm;refine Xb ⟨dn, ?_⟩;refine Xm 1 RK Z ?_;have ew := ((a0.bwm (((ah.bwm bl 0 Z ai).k0 au).k0 a5) 1 Z bf).k0 cm);refine Xa (Xj ag78 cL (Ad ab 3) (G ae af ag) Z (ew.cell Z)) ?_;refine Xb ⟨dn, ?_⟩;refine Xm 7 RK Z ?_;obtain ⟨b0, H⟩ := H;have b1 := ((a0.swm (((ah.swm (ap.sw (bj.so _ ao (Xi a2)) 2 0 Z Z Z aq) 2 Z ai).sn au).so _ a5 hr200) 3 Z bf).so _ cm hr223);refine Ya Yu c3 (G ae af ag) r3.Tags ([(⟨([122, 122] : Str), r7⟩ : Tag)] : List Tag) Z b1 (G d8 hb hc) Z hd.sx 4 Z b0 fun d5 aj ak al ar bc am b2 => ?_;have a3 := Gm.tq dn ar (hv_mem 1 Z);have d6 := hv_app (L := [bk d8, bk be, some ab, bk aa, bk ae, some b8]) (O := O) (i := 4) dn Z (hv_mem 1 Z) bc am;refine Xb ⟨a3, ?_⟩;refine Xl 8 Z RK a3 (Xg fa80_2 (Ad ab 0) (Ad ab 3) Z Z) ?_;refine Xm 9 RK Z ?_;have b3 := (c3.bm ew 2 4 Z Z Z ar);refine Ye 3 [G aj ak al] [vs r3.Id, vi r3.Shape.Kind, G aa ac ad, G aj ak al] b3 Z Z sz78 Z Z Z fun d7 an b4 => ?_;have aw := am.wr 2 Z an;have b5 := Gm.tq a3 an (hv_mem 2 Z);refine Xb ⟨b5, ?_⟩;refine X8 RK ?_;refine Xc (Xd (Xa (Xr ag80 sz80 cL (Ad ab 0) [vs r3.Id, vi r3.Shape.Kind, G aa ac ad, G aj ak al] Z Z (b4.cells (off := 00) Z)) ?_));have b6 := (am.bm (c3.bm ((a0.bwm (((ah.bwm (ap.bm ((a9.bwm (a8.bwm bi 0 Z bg) 0 Z bh).k0 ao) 3 0 Z Z Z aq) 3 Z ai).k0 au).k0 a5) 4 Z bf).k0 cm) 5 4 Z Z Z ar) 5 2 Z Z Z an);refine Xt [vs r3.Id, vi r3.Shape.Kind, G aa ac ad, G aj ak al] b6 Z Z sz80 Z Z fun b7 ax b9 => ?_;have ay := aw.wr 5 Z ax;refine Xb (Xk ?_);have ca := ay.bgv b9 5 Z;have az := ay.drop 5 Z;have cb := (ay.sd (aw.sw (am.sw (c3.sm ((a0.swm (((ah.swm (ap.sw (bo.so _ ao (Xi a2)) 1 0 Z Z Z aq) 1 Z ai).sn au).so _ a5 hr200) 2 Z bf).so _ cm hr223) 3 4 Z Z Z ar bc) 3 2 Z Z Z an) 3 5 Z Z Z ax) 3 5 Z Z Z);have cc := az.gv cb 3 Z;have a4 := az.drop 3 Z;have cd := (az.sd (ay.sd (aw.sw (am.sw b2 4 2 Z Z Z an) 4 5 Z Z Z ax) 4 5 Z Z Z) 4 3 Z Z Z);have ce := a4.gv cd 3 Z;have cf : Ct [some b] w0 b7 [bk d8, bk be, some ab] O := a4.drop 3 Z;have cg := cf.clear;have ch := az.std 3 Z;have bd := a4.std 3 Z;have ci := (((ca.st ch).st bd).st St.clear);have cj := ((cc.st bd).st St.clear);have ck := (aw.bmo (am.bmo (c3.bmo (es.k0 cm) 4 Z ar) 2 Z an) 5 Z ax);exact ⟨[.agg #[vs r3.Id, vi r3.Shape.Kind, G aa ac ad, G aj ak al]], ⟨_, _, Z, ci.1.res Z ag80 sz80, Z⟩, (⟨r3.Id, r3.Shape, (r3.Tags ++ ([(⟨([122, 122] : Str), r7⟩ : Tag)] : List Tag))⟩ : Feat), m6, aa, ac, ad, aj, ak, al, Z, H, cg.gr.g1, ck, bn, cj, (ce.st St.clear)⟩
 have H := Xo H dz;refine Xz (Xc (Xd ?_));have he := (ah.bwm bl 0 Z ai);refine Xa (Xr ag80 sz80 cL (Ad ab 0) [vs r3.Id, vi r3.Shape.Kind, G aa ac ad, G ae af ag] Z Z (he.cells (off := 00) Z)) ?_;have hf := (ah.bwm (ap.bm ((a9.bwm (a8.bwm bi 0 Z bg) 0 Z bh).k0 ao) 3 0 Z Z Z aq) 3 Z ai);refine Xt [vs r3.Id, vi r3.Shape.Kind, G aa ac ad, G ae af ag] hf Z Z sz80 Z Z fun hg dp hh => ?_;have dq := a6.wr 3 Z dp;refine Xb (Xk ?_);have hi := dq.bgv hh 3 Z;have dr := dq.drop 3 Z;have hj := (dq.sd (a6.sw (ah.swm (ap.sw (bo.so _ ao (Xi a2)) 1 0 Z Z Z aq) 1 Z ai) 1 3 Z Z Z dp) 1 3 Z Z Z);have hk := dr.gv hj 1 Z;have d9 := dr.drop 1 Z;have hl := (dr.sd (dq.sd (a6.sw (ah.swm (ap.sw (bj.so _ ao (Xi a2)) 2 0 Z Z Z aq) 2 Z ai) 2 3 Z Z Z dp) 2 3 Z Z Z) 2 1 Z Z Z);have hn := d9.gv hl 1 Z;have ex : Ct [some b] w0 hg [some ab] O := d9.drop 1 Z;have ho := ex.drop 0 Z;have hp := dr.std 1 Z;have ey := d9.std 1 Z;have ea := ex.std 0 Z;have hq := (((hi.st hp).st ey).st ea);have hr := ((hk.st ey).st ea);have hs := (a6.bmo bp 3 Z dp);exact ⟨[.agg #[vs r3.Id, vi r3.Shape.Kind, G aa ac ad, G ae af ag]], ⟨_, _, Z, hq.1.res Z ag80 sz80, Z⟩, r3, m3, aa, ac, ad, ae, af, ag, Z, H, ho.gr.g1, hs, bn, hr, (hn.st ea)⟩
section
section
variable {P : Program} {n : Nat} {t : Tm} {w : World} {ty : TypeId} {pos : String} {aft : Array Edge} {d : Nat} {x : Operand} {C : World → Prop}
theorem text_cut (s : Str) (i j : Nat) : (⟨s.toArray⟩ : ByteArray).extract i j = ⟨((s.drop i).take (j - i)).toArray⟩ := by
 apply ByteArray.ext
 rw [ByteArray.data_extract]
 apply Array.ext'
 rw [Array.toList_extract]
theorem lim_cut {s : Str} (h : Lim s) (i j : Nat) : Lim ((s.drop i).take j) := by
 unfold Lim at h ⊢
 rw [List.length_take, List.length_drop]; omega
theorem Ki {T : TypeId} (hu : P.underlying T = some .string) {lo hi : Option Operand} (s : Str) (hx : evt n t x = vs s) (i j : Int) (hlo : bound n t lo 0 i) (hhi : bound n t hi (s.length : Int) j)
  (hij : 0 ≤ i ∧ i ≤ j ∧ j ≤ (s.length : Int)) :
  Pu P n t C ⟨some d, .slice T x lo hi none, ty, pos, aft, none⟩ (vs ((s.drop i.toNat).take (j.toNat - i.toNat))) := fun w hw => by
 rw [vs, ← text_cut]
 have hz : (⟨s.toArray⟩ : ByteArray).size = s.length := size_ofL s
 have key : ∀ l h : Option Value, (Instr.sliceAt T (.string ⟨s.toArray⟩) l h none).run P w = (Instr.slice T (.string ⟨s.toArray⟩) l h none).run P w := fun l h => by
  simp [Instr.sliceAt, run_underlying hu]
 simp only [execOp, hx, Sem.run_bind]
 cases lo with
 | none =>
  cases hi with
  | none => simp only [bound] at hlo hhi; subst hlo; subst hhi; simp only [Option.map_none]; rw [key, run_slice_string_all w T _ hu, hz]; simp
  | some h => simp only [bound] at hlo hhi; subst hlo; simp only [Option.map_some, Option.map_none, hhi]; rw [key, run_slice_string_h w T _ hu .i64 j hij.2.1 (by rw [hz]; exact hij.2.2)]; simp
 | some l =>
  cases hi with
  | none => simp only [bound] at hlo hhi; subst hhi; simp only [Option.map_some, Option.map_none, hlo]; rw [key, run_slice_string_l w T _ hu .i64 i hij.1 (by rw [hz]; exact hij.2.1), hz]; simp
  | some h => simp only [bound] at hlo hhi; simp only [Option.map_some, Option.map_none, hlo, hhi]; rw [key, run_slice_string w T _ .i64 .i64 i j hu hij.1 hij.2.1 (by rw [hz]; exact hij.2.2)]; simp
end
end
def F79.E (r_b : List UInt8) (r_p : Int) (Q : List Feat → Int → Prop) : Prop :=
 F51.E r_b r_p (fun r2 m => F23.E r_b m 40 (fun r3 m2 => (if r3 == 0 then F78.E r_b m2 (fun r4 m3 => (r2.length + ([r4] : List Feat).length ≤ 268435456) ∧ Q (r2 ++ ([r4] : List Feat)) m3) else (if r3 == 1 then (r2.length + r2.length ≤ 268435456) ∧ Q (r2 ++ r2) m2 else (if r3 == 2 then (∃ (I106 : (List Feat) → Int → Prop) (mu107 : (List Feat) → Int → Nat), I106 r2 0 ∧ ∀ (xs2 : List Feat) (i2 : Int), I106 xs2 i2 → (if decide (i2 ≤ 8) then (I64 (i2 + 1)) ∧ ((0 : Int) ≤ i2 ∧ (i2 : Int) ≤ i2 + 1 ∧ i2 + 1 ≤ (([113, 114, 115, 116, 117, 118, 119, 120, 121, 122] : Str).length : Int)) ∧ F91.E xs2 (⟨((([113, 114, 115, 116, 117, 118, 119, 120, 121, 122] : Str).drop i2.toNat).take ((i2 + 1).toNat - i2.toNat)), (⟨1, ([(⟨0, 0⟩ : Pt)] : List Pt)⟩ : Shape), []⟩ : Feat) (fun r5 => (I64 (i2 + 1)) ∧ I106 r5 (i2 + 1) ∧ mu107 r5 (i2 + 1) < mu107 xs2 i2) else Q xs2 m2)) else Q r2 m2)))))
theorem F79.calls {b : Nat} {r_b : List UInt8} {A2 : Option Addr} {n3 c4 : Nat} {r_p : Int} {Q : List Feat → Int → Prop} (H : F79.E r_b r_p Q) (hO : Ok w0 O) (hp5 : Sl Kd.byte w0 (Fr O) (G A2 n3 c4) r_b) (hp0 : Bx w0 b [G A2 n3 c4, vi r_p]) (hm : some b ∈ O) :
  Ret Try.prog 43 [Pz b] w0 (fun v w' => ∃ (r0 : List Feat) (m0 : Int) (Aw0 : Option Addr) (nw0 cw0 : Nat), v = G Aw0 nw0 cw0 ∧ Q r0 m0 ∧ Gr w0 w' (some b) ∧ Bx w' b [G A2 n3 c4, vi m0] ∧ Ok w' ([bk Aw0] ++ O) ∧ (∀ b, some b ∈ [bk Aw0] → w0.heap.size ≤ b) ∧ Ow kFeat 80 w' ([bk Aw0] ++ O) (G Aw0 nw0 cw0) r0) := by
 unfold F79.E at H;have hc0 := Ct.initm1 (r := some b) hO (by intro b e; cases e; exact hm);refine X9 Try.func43 Z 38 Z [.tmp 2] Z Z ?_;refine Xc (Xd (Xf (G none 0 0) Z (Xb (Xc (Xd (Xe (Pz b) Z ?_))))));refine Xs go57 (F51.calls H hc0.ok hp5 hp0 hm) Z ?_;rintro _ w7 ⟨r2, m, A9, ab, ac, rfl, H, g8, bs, bt, bu, an⟩;have ag := hc0.ownm g8 bt bu;refine Xf (G A9 ab ac) Z (Xb (Xc (Xc (Xd (Xe (Pz b) Z ?_)))));refine Xs go41 (F23.calls H ag.ok (hp5.st ag.st) bs (List.mem_append_right _ hm)) Z ?_;rintro _ bv ⟨r3, m2, rfl, H, ah, ao⟩;have ad := ag.wm ah;refine Xb (X6 (Xc (Xd (Xa (Xw r3 0 (r3 == 0) Z Z Z) (Xf (vb (r3 == 0)) Z (Xb ?_))))));refine Xu (r3 == 0) Z (fun av => ?_) (fun av => ?_)
 ·have H := Xn H av;refine Xd (Xe (G A9 ab ac) Z (Xe (Pz b) Z ?_));refine Xs go59 (F78.calls H ad.ok (hp5.st ad.st) ao (List.mem_append_right _ hm)) Z ?_;rintro _ c7 ⟨r4, m3, ba, bb, bc, bd, be, bf, rfl, H, bg, bw, bx, bz, b0⟩;have b1 := ad.wm bg;refine X5 (kd := kFeat) Y0 b1 ([r4] : List Feat) (cells := [vs r4.Id, vi r4.Shape.Kind, G ba bb bc, G bd be bf]) ⟨[vs r4.Id, vi r4.Shape.Kind, G ba bb bc, G bd be bf], _, Z, (kFeat.mk _ _ r4 bx bz b0), Z⟩ RF fun c8 b2 b3 b4 bh hr47 bi b5 => ?_;obtain ⟨b6, H⟩ := H;have b7 := ((ad.swm (ag.swm an 0 Z ah) 0 Z bg).so _ bh hr47);refine Ya Y0 bi (G A9 ab ac) r2 ([r4] : List Feat) Z b7 (G b2 b3 b4) Z b5.sx 1 Z b6 fun c9 ai aj ak b8 da bj b9 => ?_;refine Xf (G ai aj ak) Z (Xb (Xc (Xd (Xe (G ai aj ak) Z (Xf (G ai aj ak) Z (Xb (Xk ?_)))))));have aw := bj.drop 0 Z;have ca := (bj.sd b9 1 0 Z Z Z);have cb := (bi.bmo (bw.k0 bh) 1 Z b8);exact ⟨[G ai aj ak], ⟨_, Z, Z⟩, (r2 ++ ([r4] : List Feat)), m3, ai, aj, ak, Z, H, aw.gr.g1, cb, aw.ok, aw.ge, ca⟩
 have H := Xo H av;refine Xc (Xd (Xa (Xw r3 1 (r3 == 1) Z Z Z) (Xf (vb (r3 == 1)) Z (Xb ?_))));refine Xu (r3 == 1) Z (fun ax => ?_) (fun ax => ?_)
 ·have H := Xn H ax;refine Xc (Xd (Xe (G A9 ab ac) Z (Xe (G A9 ab ac) Z ?_)));have bl := (ag.swm an 0 Z ah);obtain ⟨cc, H⟩ := H;refine Ya Y0 ad (G A9 ab ac) r2 r2 Z bl (G A9 ab ac) Z bl.sx 0 Z cc fun db ay az a0 cd dc a1 ce => ?_;refine Xf (G ay az a0) Z (Xb (Xk ?_));have cf := (ad.bmo ao 0 Z cd);exact ⟨[G ay az a0], ⟨_, Z, Z⟩, (r2 ++ r2), m2, ay, az, a0, Z, H, a1.gr.g1, cf, a1.ok, a1.ge, ce⟩
 have H := Xo H ax;refine Xc (Xd (Xa (Xw r3 2 (r3 == 2) Z Z Z) (Xf (vb (r3 == 2)) Z (Xb ?_))));refine Xu (r3 == 2) Z (fun a2 => ?_) (fun a2 => ?_)
 ·have H := Xn H a2;refine Xc (Xd (Xf (vi 0) Z (Xb (X6 ?_))));obtain ⟨cg, ch, a3, H⟩ := H;have ci := (ag.swm an 0 Z ah);refine Ym (α := (List Feat) × (Option Addr) × Nat × Nat × Int) (fun (xs2, aa, ae, af, i2) t al => cg xs2 i2 ∧ Has t [(3, G aa ae af), (4, vi i2)] ∧ Cw [some b] w0 al [bk aa] O fun M => Sl Kd.byte al (Fr M) (G A2 n3 c4) r_b ∧ Ow kFeat 80 al M (G aa ae af) xs2 ∧ Bx al b [G A2 n3 c4, vi m2]) (fun (xs2, _, _, _, i2) => ch xs2 i2) (r2, A9, ab, ac, 0) ⟨a3, (Xv Z), ad, (hp5.st ad.st), ci, ao⟩ ?_;rintro ⟨xs2, aa, ae, af, i2⟩ _ al ⟨a3, cj, am, ck, bm, bn⟩;obtain ⟨dd, rfl⟩ := Has.ins cj;have H := H xs2 i2 a3;refine Xc (Xc (Xd (Xe (vi i2) Z (Xa (Xw i2 8 (decide (i2 ≤ 8)) Z Z Z) (Xb ?_)))));refine Xu (decide (i2 ≤ 8)) Z (fun a4 => ?_) (fun a4 => ?_)
  ·have H := Xn H a4;refine Xz (Xc (X6 (Xd (Xe (G aa ae af) Z (Xe (vi i2) Z (Xe (vi i2) Z ?_))))));obtain ⟨cl, H⟩ := H;refine Xa (Yb i2 1 Z Z cl) ?_;obtain ⟨cm, H⟩ := H;refine Xa (Ki u9_ ([113, 114, 115, 116, 117, 118, 119, 120, 121, 122] : Str) Z i2 (i2 + 1) Z Z cm) (Xa (Yn (.agg #[vi 0, vi 0]) RF) (X5 (kd := kPt) Yk am ([(⟨0, 0⟩ : Pt)] : List Pt) (cells := [vi 0, vi 0]) ⟨[vi 0, vi 0], _, Z, (kPt.mk _ _ (⟨0, 0⟩ : Pt)), Z⟩ RF fun cn ap aq ar a5 hr121 au co => ?_));refine Xa (Yn (.agg #[vi 1, G ap aq ar]) RF) (Xa (Yn (.agg #[vs ((([113, 114, 115, 116, 117, 118, 119, 120, 121, 122] : Str).drop i2.toNat).take ((i2 + 1).toNat - i2.toNat)), vi 1, G ap aq ar, G none 0 0]) RF) ?_);have cp := (bm.so _ a5 hr121);have cq := au.gv cp 1 Z;have a6 := au.drop 1 Z;have cr := (au.sd co 0 1 Z Z Z);have cs := a6.gv cr 0 Z;have a7 := a6.drop 0 Z;have bo := a6.std 0 Z;refine Xs go60 (F91.calls H a7.ok (cq.st bo) (lim_cut (by decide : Lim ([113, 114, 115, 116, 117, 118, 119, 120, 121, 122] : Str)) _ _) cs (Sl.nil _ _ _ none 0 RD)) Z ?_;rintro _ ct ⟨r5, a8, bp, bq, rfl, H, a9, cu, br, cv⟩;have cw : Ct [some b] w0 ct [bk a8] O := a7.owns a9 cu br;refine Xf (G a8 bp bq) Z (Xb (Xd (Xe (vi i2) Z ?_)));obtain ⟨cx, H⟩ := H;refine Xa (Yb i2 1 Z Z cx) (Xf (vi (i2 + 1)) Z (Xb ?_));obtain ⟨cy, cz⟩ := H;have c0 := am.stown _ a5 hr121;have c1 := au.std 1 Z;have c2 := a7.stos a9 br;have c3 := ((((ck.st c0).st c1).st bo).st c2);have c5 := ((bn.k0 a5).k0 a9);exact ⟨(r5, a8, bp, bq, i2 + 1), cz, cy, (Xv Z), cw, c3, cv, c5⟩
  have H := Xo H a4;refine Yl (xin_hit ?_);exact Xc (Xd (Xe (G aa ae af) Z (Xf (G aa ae af) Z (Xb (Xk ⟨[G aa ae af], ⟨_, Z, Z⟩, xs2, m2, aa, ae, af, Z, H, am.gr.g1, bn, am.ok, am.ge, bm⟩)))))
 have H := Xo H a2;refine Xz (Xc (Xd (Xe (G A9 ab ac) Z (Xf (G A9 ab ac) Z (Xb (Xk ?_))))));have c6 := (ag.swm an 0 Z ah);exact ⟨[G A9 ab ac], ⟨_, Z, Z⟩, r2, m2, A9, ab, ac, Z, H, ad.gr.g1, ao, ad.ok, ad.ge, c6⟩
def F80.E (r_b : List UInt8) (r_p : Int) (Q : Repo → Int → Prop) : Prop :=
 F76.E r_b r_p (fun r2 m => F23.E r_b m (r2.Commits.length : Int) (fun r3 m2 => F23.E r_b m2 48 (fun r4 m3 => (if r4 == 0 then F28.E r_b m3 ([(-1), (r2.Commits.length : Int)] : List Int) (fun r5 m4 => ((0 : Int) ≤ 0 ∧ 0 < (r2.Heads.length : Int)) ∧ Q (⟨r2.Commits, (r2.Heads.set (0 : Int).toNat (⟨(nth r2.Heads 0).Name, r5⟩ : Head))⟩ : Repo) m4) else (if r4 == 1 then ((0 : Int) ≤ r3 ∧ r3 < (r2.Commits.length : Int)) ∧ (((nth r2.Commits r3).Up).length + ([r3] : List Int).length ≤ 268435456) ∧ Q (⟨(r2.Commits.set r3.toNat (⟨(((nth r2.Commits r3).Up) ++ ([r3] : List Int)), (nth r2.Commits r3).Sheet, (nth r2.Commits r3).Note⟩ : Commit)), r2.Heads⟩ : Repo) m3 else (if r4 == 2 then F79.E r_b m3 (fun r6 m5 => ((0 : Int) ≤ r3 ∧ r3 < (r2.Commits.length : Int)) ∧ Q (⟨(r2.Commits.set r3.toNat (⟨(nth r2.Commits r3).Up, r6, (nth r2.Commits r3).Note⟩ : Commit)), r2.Heads⟩ : Repo) m5) else (if r4 == 3 then ((0 : Int) ≤ r3 ∧ r3 < (r2.Commits.length : Int)) ∧ Q (⟨(r2.Commits.set r3.toNat (⟨(nth r2.Commits r3).Up, (nth r2.Commits r3).Sheet, []⟩ : Commit)), r2.Heads⟩ : Repo) m3 else (if r4 == 4 then ((0 : Int) ≤ 0 ∧ 0 < (r2.Heads.length : Int)) ∧ (r2.Heads.length + ([(nth r2.Heads 0)] : List Head).length ≤ 268435456) ∧ Q (⟨r2.Commits, (r2.Heads ++ ([(nth r2.Heads 0)] : List Head))⟩ : Repo) m3 else (if r4 == 5 then ((0 : Int) ≤ r3 ∧ r3 < (r2.Commits.length : Int)) ∧ Q (⟨(r2.Commits.set r3.toNat (⟨[], (nth r2.Commits r3).Sheet, (nth r2.Commits r3).Note⟩ : Commit)), r2.Heads⟩ : Repo) m3 else Q r2 m3)))))))))
theorem F80.calls {b : Nat} {r_b : List UInt8} {A2 : Option Addr} {n3 c4 : Nat} {r_p : Int} {Q : Repo → Int → Prop} (H : F80.E r_b r_p Q) (hO : Ok w0 O) (hp5 : Sl Kd.byte w0 (Fr O) (G A2 n3 c4) r_b) (hp0 : Bx w0 b [G A2 n3 c4, vi r_p]) (hm : some b ∈ O) :
  Ret Try.prog 20 [Pz b] w0 (fun v w' => ∃ (r0 : Repo) (m0 : Int) (Aw0 : Option Addr) (nw0 cw0 : Nat) (Aw2 : Option Addr) (nw2 cw2 : Nat), v = .agg #[G Aw0 nw0 cw0, G Aw2 nw2 cw2] ∧ Q r0 m0 ∧ Gr w0 w' (some b) ∧ Bx w' b [G A2 n3 c4, vi m0] ∧ Ok w' ([bk Aw0, bk Aw2] ++ O) ∧ (∀ b, some b ∈ [bk Aw0, bk Aw2] → w0.heap.size ≤ b) ∧ Ow kCommit 33 w' ([bk Aw0, bk Aw2] ++ O) (G Aw0 nw0 cw0) r0.Commits ∧ Ow kHead 35 w' ([bk Aw0, bk Aw2] ++ O) (G Aw2 nw2 cw2) r0.Heads) := by
 unfold F80.E at H;have hc0 := Ct.initm1 (r := some b) hO (by intro b e; cases e; exact hm);refine X9 Try.func20 Z 77 Z [.cell 2 26] Z Z ?_;refine Xc (Xd (Yf [G none 0 0, G none 0 0] ze26 fun w7 b8 ji hu11 g9 bt => ?_));have be := hc0.own g9 (some b8) (Yd ji hu11);refine Xb (Xc (Xd (Xe (Pz b) Z ?_)));have jj := (hp0.k0 g9);refine Xs go40 (F76.calls H be.ok (hp5.st be.st) jj (List.mem_append_right _ hm)) Z ?_;rintro _ bu ⟨r2, m, aa, ad, ae, af, e1, ac, ak, al, rfl, H, bn, jk, jl, jm, jn, jo, bv, b3⟩;have bw := be.ownm bn jl jm;have a1 : (((bk aa :: bk ac :: (af ++ [])) ++ [some b8]) : Ob).Perm (bk aa :: bk ac :: some b8 :: (af ++ [])) := RP;have bo := bw.perm a1;refine Yf [G none 0 0, G none 0 0] ze26 fun qf ab a2 hu43 ao jp => ?_;have ap := bo.own ao (some ab) (Yd a2 hu43);refine Xt [G aa ad ae, G ac ak al] jp Z Z sz26 Z Z fun jq aq bz => ?_;have ag := ap.wr 0 Z aq;refine Xb (Xc (Xd (Xe (Pz b) Z (Xa (Xg fa26_0 (Ad ab 0) (Ad ab 0) Z Z) (Xa (Xj ag23 cL (Ad ab 0) (G aa ad ae) Z (bz.cell Z)) ?_)))));have bg := (ap.sw ((bw.spa jn a1).so _ ao (Xi a2)) 1 0 Z Z Z aq);have bh := (DArr.sm (L := (some ab :: bk aa :: bk ac :: some b8 :: (af ++ []))) (O := O) (i := 0) (jo.k0 ao) ap Z (fun b hb => (mcm (mcm (mcm (List.mem_append_left _ hb))))) aq);have qg := (Dp.le bg bh);refine Xa (X3 u23_ aa ad ae (Dp.len bg bh) Z) ?_;have jr := (ap.bmo (jk.k0 ao) 0 Z aq);refine Xs go41 (F23.calls H ag.ok (hp5.st ag.st) jr (List.mem_append_right _ hm)) Z ?_;rintro _ js ⟨r3, m2, rfl, H, ai, jt⟩;have ah := ag.wm ai;refine Xf (vi r3) Z (Xb (Xc (Xc (Xd (Xe (Pz b) Z ?_)))));refine Xs go41 (F23.calls H ah.ok (hp5.st ah.st) jt (List.mem_append_right _ hm)) Z ?_;rintro _ dv ⟨r4, m3, rfl, H, aj, bp⟩;have av := ah.wm aj;refine Xb (X6 (Xc (Xd (Xa (Xw r4 0 (r4 == 0) Z Z Z) (Xf (vb (r4 == 0)) Z (Xb ?_))))));refine Xu (r4 == 0) Z (fun gb => ?_) (fun gb => ?_)
 ·have H := Xn H gb;refine Yt 11 [some b, bk ac] RK Z fun qh b4 cj => ?_;have da := av.k0 b4;refine Xl 0 Z RK cj (Xg fa26_1 (Ad ab 0) (Ad ab 1) Z Z) ?_;have gc := ((ah.bwm (ag.bwm bz 0 Z ai) 0 Z aj).k0 b4);refine Xl 1 Z RK cj (Yv ag24 cR (Ad ab 1) (G ac ak al) Z (gc.cell Z) (nm_cons (bx_nem da (j := 0) Z) (nm_cons (bx_ne da (j := 0) (i := 2) Z Z RD) nm_nil))) ?_;refine Xl 2 Z RK cj (Yj (Pz b) Z) ?_;refine Xl 3 Z RK cj (Xg fa26_0 (Ad ab 0) (Ad ab 0) Z Z) ?_;refine Xl 4 Z RK cj (Yv ag23 cR (Ad ab 0) (G aa ad ae) Z (gc.cell Z) (nm_cons (bx_nem da (j := 0) Z) (nm_cons (bx_ne da (j := 0) (i := 2) Z Z RD) nm_nil))) ?_;have hy := ((ah.swm (ag.swm bg 1 Z ai) 1 Z aj).sn b4);have hz := ((DArr.swm (L := (some ab :: bk aa :: bk ac :: some b8 :: (af ++ []))) (O := O) (DArr.swm (L := (some ab :: bk aa :: bk ac :: some b8 :: (af ++ []))) (O := O) bh ag (fun b hb => (mcm (mcm (mcm (mcm (List.mem_append_left _ hb)))))) row1 ai) ah (fun b hb => (mcm (mcm (mcm (mcm (List.mem_append_left _ hb)))))) row1 aj).k0 b4);refine Xl 5 Z RK cj (X3 u23_ aa ad ae (Dp.len hy hz) Z) ?_;refine Xm 6 RK Z ?_;refine X5 (kd := (Kd.int .i64)) Y8 da ([(-1), (r2.Commits.length : Int)] : List Int) (cells := [vi (-1), vi (r2.Commits.length : Int)]) ⟨[vi (-1)], _, Z, Z, ⟨[vi (r2.Commits.length : Int)], _, Z, Z, Z⟩⟩ RF fun ju ck h0 h1 b5 hr80 b0 jv => ?_;have h2 := Gm.tm cj b5;refine Xb ⟨h2, ?_⟩;refine Xm 7 RK Z ?_;have jw := b0.gv jv 0 Z;have h3 := b0.drop 0 Z;have jx := ((bp.k0 b4).k0 b5);refine Xs go42 (F28.calls H h3.ok (hp5.st h3.st) jx (List.mem_append_right _ hm) jw) Z ?_;rintro _ qi ⟨r5, m4, rfl, H, b6, jy⟩;have cl := b0.wm b6;have e2 := Gm.tq h2 b6 (hv_mem 0 Z);refine Xb ⟨e2, ?_⟩;obtain ⟨gd, H⟩ := H;have gf := (b0.swm (((ah.swm (ag.swm (ap.sw ((bw.spa b3 a1).so _ ao (Xi a2)) 2 0 Z Z Z aq) 2 Z ai) 2 Z aj).sn b4).so _ b5 hr80) 3 Z b6);obtain ⟨e3, qj, h4, jz, j0⟩ := gf.get default RD 0 gd;obtain ⟨rfl, j1⟩ := kHead.op jz;refine Xl 8 Z RK e2 (X0 u24_ Ys ac e3 ak al gf.len 0 Z h4 Z gd) ?_;refine Xl 9 Z RK e2 (Xg fa35_1 (e3.add ((0 : Int).toNat * 2)) ((e3.add ((0 : Int).toNat * 2)).add 1) Z Z) ?_;refine Xm 10 RK Z ?_;refine Yy ac ak al r2.Heads gf 0 gd e3 h4 1 Z [vi r5] Z sz3 Z (⟨(nth r2.Heads 0).Name, r5⟩ : Head) [vs ((nth r2.Heads 0).Name), vi ((nth r2.Heads 0).At)] [vs ((nth r2.Heads 0).Name), vi r5] j0 Z Z (kHead.mk _ _ (⟨(nth r2.Heads 0).Name, r5⟩ : Head) j1) fun qk b7 j2 => ?_;have db := cl.wr 3 Z b7;have j3 := Gm.tq e2 b7 (hv_mem 1 Z);refine Xb ⟨j3, ?_⟩;refine X8 RK ?_;refine Xc (Xd ?_);have j4 := (cl.bm (b0.bwm (gc.k0 b5) 1 Z b6) 1 3 Z Z Z b7);refine Xa (Xr ag26 sz26 cL (Ad ab 0) [G aa ad ae, G ac ak al] Z Z (j4.cells (off := 00) Z)) ?_;have j5 := (cl.bm (b0.bwm (((ah.bwm (ag.bwm (ap.bm ((be.bwm bt 0 Z bn).k0 ao) 3 0 Z Z Z aq) 3 Z ai) 3 Z aj).k0 b4).k0 b5) 4 Z b6) 4 3 Z Z Z b7);refine Xt [G aa ad ae, G ac ak al] j5 Z Z sz26 Z Z fun j6 dc j7 => ?_;have e4 := db.wr 4 Z dc;refine Xb (Xk ?_);have j8 := (db.sw (cl.sw (b0.swm (hy.so _ b5 hr80) 2 Z b6) 2 3 Z Z Z b7) 2 4 Z Z Z dc);have j9 := (DArr.sm (L := (bk ck :: some ab :: bk aa :: bk ac :: some b8 :: (af ++ []))) (O := O) (i := 4) (DArr.sm (L := (bk ck :: some ab :: bk aa :: bk ac :: some b8 :: (af ++ []))) (O := O) (i := 3) (DArr.swm (L := (bk ck :: some ab :: bk aa :: bk ac :: some b8 :: (af ++ []))) (O := O) (hz.k0 b5) b0 (fun b hb => (mcm (mcm (mcm (mcm (mcm (List.mem_append_left _ hb))))))) row1 b6) cl Z (fun b hb => (mcm (List.mem_append_left _ hb))) b7) db Z (fun b hb => (List.mem_append_left _ hb)) dc);have ka := St.spa (w := bu) (A := (bk aa :: bk ac :: (af ++ []))) (L := [some b8]) (O := O) a1;have kb := bo.stown _ ao (Xi a2);have kc := ap.stw 0 Z aq;have ke := ag.stm ai;have kf := ah.stm aj;have kg := av.stn b4;have kh := da.stown _ b5 hr80;have ki := b0.stm b6;have kj := cl.stw 3 Z b7;have kk := db.stw 4 Z dc;have kl := ((((((((((bv.st ka).st kb).st kc).st ke).st kf).st kg).st kh).st ki).st kj).st kk);have dw : ((bk ck :: some ab :: bk aa :: bk ac :: some b8 :: (af ++ [])) : Ob).Perm (af ++ [bk ck, some ab, bk aa, bk ac, some b8]) := RP;have e5 := e4.drops dw;have km := (e4.odr j8 dw 2 Z);have kn := Ow.ofR (k := kCommit) km (half33.join j9 (kl.st (St.drops _ O dw)) (fun b hb => Op.out e4 dw hb));have ko := j7;have kp := e5.bgv ko 4 Z;have e6 := e5.drop 4 Z;have e7 := e6.drop 0 Z;have gg : Ct [some b] w0 j6 [bk aa, bk ac] O := e7.drop 0 Z;have kq := e6.std 0 Z;have kr := e7.std 0 Z;have ks := ((kp.st kq).st kr);have kt := (e7.sd (e6.sd (e5.sd kn 2 4 Z Z Z) 2 0 Z Z Z) 1 0 Z Z Z);have ku := (e7.sd (e6.sd (e5.sd (e4.odr (db.sw j2 3 4 Z Z Z dc) dw 3 Z) 3 4 Z Z Z) 3 0 Z Z Z) 2 0 Z Z Z);have kv := (db.bmo (cl.bmo jy 3 Z b7) 4 Z dc);exact ⟨[.agg #[G aa ad ae, G ac ak al]], ⟨_, _, Z, ks.1.res Z ag26 sz26, Z⟩, (⟨r2.Commits, (r2.Heads.set (0 : Int).toNat (⟨(nth r2.Heads 0).Name, r5⟩ : Head))⟩ : Repo), m4, aa, ad, ae, ac, ak, al, Z, H, gg.gr.g1, kv, gg.ok, gg.ge, kt, ku⟩
 have H := Xo H gb;refine Xc (Xd (Xa (Xw r4 1 (r4 == 1) Z Z Z) (Xf (vb (r4 == 1)) Z (Xb ?_))));refine Xu (r4 == 1) Z (fun gh => ?_) (fun gh => ?_)
 ·have H := Xn H gh;obtain ⟨dx, H⟩ := H;have h5 := (ah.swm (ag.swm bg 1 Z ai) 1 Z aj);have gi := (DArr.swm (L := (some ab :: bk aa :: bk ac :: some b8 :: (af ++ []))) (O := O) (DArr.swm (L := (some ab :: bk aa :: bk ac :: some b8 :: (af ++ []))) (O := O) bh ag (fun b hb => (mcm (mcm (mcm (mcm (List.mem_append_left _ hb)))))) row1 ai) ah (fun b hb => (mcm (mcm (mcm (mcm (List.mem_append_left _ hb)))))) row1 aj);have kx := St.spa (w := bu) (A := (bk aa :: bk ac :: (af ++ []))) (L := [some b8]) (O := O) a1;have ky := bo.stown _ ao (Xi a2);have kz := ap.stw 0 Z aq;have k1 := ag.stm ai;have k2 := ah.stm aj;have h6 := (((((bv.st kx).st ky).st kz).st k1).st k2);have gj := Dp.len h5 gi;have b1 : (0 : Int) ≤ r3 ∧ r3 < (e1.length : Int) := by rw [gi.len]; exact dx
  have dd : ((some ab :: bk aa :: bk ac :: some b8 :: (af ++ [])) : Ob).Perm (af ++ [some ab, bk aa, bk ac, some b8]) := RP;obtain ⟨bi, dy, dz, d0, d1, d2, e8, d3, ha164, k3, k4, k5, ql⟩ := half33.at gi h6 (Int.toNat r3) (by have := dx; omega) (Op.dj av dd);have gk : Ct [some b] w0 dv (bk bi :: [some ab, bk aa, bk ac, some b8]) O := Op.ct av dd ha164;have h7 : St dv ((some ab :: bk aa :: bk ac :: some b8 :: (af ++ [])) ++ O) dv ((bk bi :: [some ab, bk aa, bk ac, some b8]) ++ O) := Op.st dd ha164;have h8 : Ow (Kd.int .i64) 3 dv ((bk bi :: [some ab, bk aa, bk ac, some b8]) ++ O) (G bi dy dz) ((nth r2.Commits r3).Up) := Ds.toOw k3 (fun b hb => List.mem_append_left _ (by rw [List.mem_singleton] at hb; rw [hb]; exact List.mem_cons_self));have k6 := Op.ow h5 dd ha164 (memi 1 Z);have gl := k4.st h7;have k7 := h6.st h7;have h9 : RArr kCommit dv (Fr ((bk bi :: [some ab, bk aa, bk ac, some b8]) ++ O)) (r2.Commits.set (Int.toNat r3) (⟨[], (nth r2.Commits r3).Sheet, (nth r2.Commits r3).Note⟩ : Commit)) (e1.set (Int.toNat r3) [G none 0 0, G d0 d1 d2, vs ((nth r2.Commits r3).Note)]) := RArr.zip (fun _ _ => half33.join1) (k5 _ _ _ (fun b hb hn => Op.fr av dd ha164 hb hn) (half33.up _ _ Z Z Z)) (RArr.set k7 (half33.rs (x := (⟨[], (nth r2.Commits r3).Sheet, (nth r2.Commits r3).Note⟩ : Commit)) Z gl d3));obtain ⟨ia, H⟩ := H;have k8 := (ah.bwm (ag.bwm bz 0 Z ai) 0 Z aj);have ib := (Op.ow (ah.swm (ag.swm (ap.sw ((bw.spa b3 a1).so _ ao (Xi a2)) 2 0 Z Z Z aq) 2 Z ai) 2 Z aj) dd ha164 (memi 2 Z));have ic := (ah.bwm (ag.bwm (ap.bm ((be.bwm bt 0 Z bn).k0 ao) 3 0 Z Z Z aq) 3 Z ai) 3 Z aj);refine Zj (J := (fun t b9 => Has t [(2, Pz b8), (3, Pz ab)] ∧ Cw [some b] w0 b9 [some ab, bk aa, bk ac, some b8] O fun M => Sl Kd.byte b9 (Fr M) (G A2 n3 c4) r_b ∧ Ow kCommit 33 b9 M (G aa ad ae) (r2.Commits.set r3.toNat (⟨(((nth r2.Commits r3).Up) ++ ([r3] : List Int)), (nth r2.Commits r3).Sheet, (nth r2.Commits r3).Note⟩ : Commit)) ∧ Ow kHead 35 b9 M (G ac ak al) r2.Heads ∧ Bx b9 b [G A2 n3 c4, vi m3] ∧ Bx b9 b8 [G none 0 0, G none 0 0] ∧ Bx b9 ab [G aa ad ae, G ac ak al])) ?_ ?_
  ·refine Yt 15 [bk bi, bk aa] RK Z fun qm bf bj => ?_;have ca := gk.k0 bf;refine Xl 0 Z RK bj (Xg fa26_0 (Ad ab 0) (Ad ab 0) Z Z) ?_;have e9 := (k8.k0 bf);refine Xl 1 Z RK bj (Yv ag23 cR (Ad ab 0) (G aa ad ae) Z (e9.cell Z) (nm_cons (bx_ne ca (j := 1) (i := 0) Z Z RD) (nm_cons (bx_ne ca (j := 1) (i := 2) Z Z RD) nm_nil))) ?_;refine Xl 2 Z RK bj (Yj (vi r3) Z) ?_;refine Xl 3 Z RK bj (Xg fa26_0 (Ad ab 0) (Ad ab 0) Z Z) ?_;refine Xl 4 Z RK bj (Yv ag23 cR (Ad ab 0) (G aa ad ae) Z (e9.cell Z) (nm_cons (bx_ne ca (j := 1) (i := 0) Z Z RD) (nm_cons (bx_ne ca (j := 1) (i := 2) Z Z RD) nm_nil))) ?_;refine Xl 5 Z RK bj (Yj (vi r3) Z) ?_;have fa := (k6.sn bf);obtain ⟨d4, qn, gm, k9, qo⟩ := fa.get default RD r3 b1;obtain rfl := Kd.cells.op k9;refine Xl 6 Z RK bj (X0 u23_ Y2 aa d4 ad ae gj r3 Z gm Z dx) ?_;refine Xl 7 Z RK bj (Xg fa33_0 (d4.add (r3.toNat * 3)) ((d4.add (r3.toNat * 3)).add 0) Z Z) ?_;refine Xl 9 Z RK bj (Yj (vi r3) Z) ?_;refine Yo 8 10 RK Z Z ?_ ?_
   ·obtain ⟨qp, qq, la, lb, lc⟩ := fa.get default RD r3 b1;obtain rfl := Kd.cells.op lb;obtain rfl := Option.some.inj (gm.symm.trans la);have ld := lc 0 _ (by rw [e8]; rfl);refine Xa (Xj ag30 cL ((d4.add (r3.toNat * 3)).add 0) (G bi dy dz) Z ld) ?_;refine Xb ⟨bj, ?_⟩;refine Xm 10 RK Z ?_;refine X5 (kd := (Kd.int .i64)) Y8 ca ([r3] : List Int) (cells := [vi r3]) ⟨[vi r3], _, Z, Z, Z⟩ RF fun qr id lf lg cb hr207 de lh => ?_;have gn := Gm.tm bj cb;refine Xb ⟨gn, ?_⟩;refine Xm 11 RK Z ?_;have li := ((h8.sn bf).so _ cb hr207);refine Ya Y8 de (G bi dy dz) ((nth r2.Commits r3).Up) ([r3] : List Int) Z li (G id lf lg) Z lh.sx 1 Z ia fun qs gp gq gs df d5 dg lj => ?_;have fb := Gm.tq gn df (hv_mem 0 Z);have qt := hv_app (L := [bk id, bk bi, some ab, bk aa, bk ac, some b8]) (O := O) (i := 1) gn Z (hv_mem 0 Z) d5 dg;refine Xb ⟨fb, ?_⟩;have ie := (de.sm (fa.so _ cb hr207) 3 1 Z Z Z df d5);obtain ⟨fc, qu, gt, lk, qv⟩ := ie.get default RD r3 b1;obtain rfl := Kd.cells.op lk;refine Xl 12 Z RK fb (X0 u23_ Y2 aa fc ad ae gj r3 Z gt Z dx) ?_;refine Xl 13 Z RK fb (Xg fa33_0 (fc.add (r3.toNat * 3)) ((fc.add (r3.toNat * 3)).add 0) Z Z) ?_;refine Xm 14 RK Z ?_;have d6 := dg.gv lj 1 Z;have dh := dg.drop 1 Z;have ig := (dg.sd ie 3 1 Z Z Z);obtain ⟨qw, qx, ll, ih, lm⟩ := ig.get default RD r3 b1;obtain rfl := Option.some.inj (gt.symm.trans ll);obtain rfl := Kd.cells.op ih;have ii := gk.stn bf;have d7 := ca.stown _ cb hr207;have d8 := dg.std 1 Z;have ij := ((((gl.st ii).st d7).st d5).st d8);refine Yy (kd := Kd.cells 3) aa ad ae e1 ig r3 b1 fc gt 0 Z [G gp gq gs] Z sz30 Z [G gp gq gs, G d0 d1 d2, vs ((nth r2.Commits r3).Note)] _ [G gp gq gs, G d0 d1 d2, vs ((nth r2.Commits r3).Note)] lm (Kd.len _ ih) (by rw [e8]; rfl) (Kd.asraw (kCommit.mk _ _ (⟨(((nth r2.Commits r3).Up) ++ ([r3] : List Int)), (nth r2.Commits r3).Sheet, (nth r2.Commits r3).Note⟩ : Commit) d6 ij d3)) fun qy cm ln => ?_;have gu := dh.wr 2 Z cm;have lo := Gm.tq fb cm (hv_mem 1 Z);have gw := dh.stw 2 Z cm;have lp := (((((h9.st ii).st d7).st d5).st d8).st gw);have gx := Ow.ofR (k := kCommit) ln (RArr.fill lp (kCommit.mk _ _ (⟨(((nth r2.Commits r3).Up) ++ ([r3] : List Int)), (nth r2.Commits r3).Sheet, (nth r2.Commits r3).Note⟩ : Commit) (d6.st gw) (ij.st gw) d3));refine Xb ⟨lo, ?_⟩;refine X8 RK ?_;have ik := gu.drop 0 Z;have lq := (gu.sd gx 2 0 Z Z Z);have gy := (gu.sd (dh.sw (dg.sd (de.sm ((ib.sn bf).so _ cb hr207) 4 1 Z Z Z df d5) 4 1 Z Z Z) 3 2 Z Z Z cm) 3 0 Z Z Z);have gz := (dh.bmo (de.bmo ((bp.k0 bf).k0 cb) 1 Z df) 2 Z cm);have g0 := (dh.bm (de.bm ((ic.k0 bf).k0 cb) 5 1 Z Z Z df) 4 2 Z Z Z cm);have g2 := (dh.bm (de.bm (e9.k0 cb) 2 1 Z Z Z df) 1 2 Z Z Z cm);exact ⟨(Xv Z), ik, (hp5.st ik.st), lq, gy, gz, g0, g2⟩
   refine X5 (kd := (Kd.int .i64)) Y8 ca ([r3] : List Int) (cells := [vi r3]) ⟨[vi r3], _, Z, Z, Z⟩ RF fun qz il lr ls cc hr201 di lt => ?_;have fd := Gm.tm bj cc;refine Xb ⟨fd, ?_⟩;refine Xm 8 RK Z ?_;have im := (fa.so _ cc hr201);obtain ⟨q0, q1, lu, lv, lw⟩ := im.get default RD r3 b1;obtain rfl := Kd.cells.op lv;obtain rfl := Option.some.inj (gm.symm.trans lu);have lx := lw 0 _ (by rw [e8]; rfl);refine Xa (Xj ag30 cL ((d4.add (r3.toNat * 3)).add 0) (G bi dy dz) Z lx) ?_;refine Xb ⟨fd, ?_⟩;refine Xm 11 RK Z ?_;have ly := ((h8.sn bf).so _ cc hr201);refine Ya Y8 di (G bi dy dz) ((nth r2.Commits r3).Up) ([r3] : List Int) Z ly (G il lr ls) Z lt.sx 1 Z ia fun q2 g3 g4 g5 dk d9 dl lz => ?_;have fe := Gm.tq fd dk (hv_mem 0 Z);have q3 := hv_app (L := [bk il, bk bi, some ab, bk aa, bk ac, some b8]) (O := O) (i := 1) fd Z (hv_mem 0 Z) d9 dl;refine Xb ⟨fe, ?_⟩;have d6 := (di.sm im 3 1 Z Z Z dk d9);obtain ⟨ff, q4, g6, l0, q5⟩ := d6.get default RD r3 b1;obtain rfl := Kd.cells.op l0;refine Xl 12 Z RK fe (X0 u23_ Y2 aa ff ad ae gj r3 Z g6 Z dx) ?_;refine Xl 13 Z RK fe (Xg fa33_0 (ff.add (r3.toNat * 3)) ((ff.add (r3.toNat * 3)).add 0) Z Z) ?_;refine Xm 14 RK Z ?_;have io := dl.gv lz 1 Z;have dm := dl.drop 1 Z;have ip := (dl.sd d6 3 1 Z Z Z);obtain ⟨q6, q7, l1, iq, l2⟩ := ip.get default RD r3 b1;obtain rfl := Option.some.inj (g6.symm.trans l1);obtain rfl := Kd.cells.op iq;have d7 := gk.stn bf;have d8 := ca.stown _ cc hr201;have ir := dl.std 1 Z;have it := ((((gl.st d7).st d8).st d9).st ir);refine Yy (kd := Kd.cells 3) aa ad ae e1 ip r3 b1 ff g6 0 Z [G g3 g4 g5] Z sz30 Z [G g3 g4 g5, G d0 d1 d2, vs ((nth r2.Commits r3).Note)] _ [G g3 g4 g5, G d0 d1 d2, vs ((nth r2.Commits r3).Note)] l2 (Kd.len _ iq) (by rw [e8]; rfl) (Kd.asraw (kCommit.mk _ _ (⟨(((nth r2.Commits r3).Up) ++ ([r3] : List Int)), (nth r2.Commits r3).Sheet, (nth r2.Commits r3).Note⟩ : Commit) io it d3)) fun q8 cn l3 => ?_;have g7 := dm.wr 2 Z cn;have l4 := Gm.tq fe cn (hv_mem 1 Z);have g8 := dm.stw 2 Z cn;have gx := (((((h9.st d7).st d8).st d9).st ir).st g8);have l5 := Ow.ofR (k := kCommit) l3 (RArr.fill gx (kCommit.mk _ _ (⟨(((nth r2.Commits r3).Up) ++ ([r3] : List Int)), (nth r2.Commits r3).Sheet, (nth r2.Commits r3).Note⟩ : Commit) (io.st g8) (it.st g8) d3));refine Xb ⟨l4, ?_⟩;refine X8 RK ?_;have iu := g7.drop 0 Z;have gy := (g7.sd l5 2 0 Z Z Z);have gz := (g7.sd (dm.sw (dl.sd (di.sm ((ib.sn bf).so _ cc hr201) 4 1 Z Z Z dk d9) 4 1 Z Z Z) 3 2 Z Z Z cn) 3 0 Z Z Z);have g0 := (dm.bmo (di.bmo ((bp.k0 bf).k0 cc) 1 Z dk) 2 Z cn);have g2 := (dm.bm (di.bm ((ic.k0 bf).k0 cc) 5 1 Z Z Z dk) 4 2 Z Z Z cn);have l6 := (dm.bm (di.bm (e9.k0 cc) 2 1 Z Z Z dk) 1 2 Z Z Z cn);exact ⟨(Xv Z), iu, (hp5.st iu.st), gy, gz, g0, g2, l6⟩
  rintro q9 b9 ⟨l7, fg, ra, l8, l9, ma, mb, mc⟩;obtain ⟨rb, rfl⟩ := Has.ins l7;refine Xc (Xd (Xa (Xr ag26 sz26 cL (Ad ab 0) [G aa ad ae, G ac ak al] Z Z (mc.cells (off := 00) Z)) (Xt [G aa ad ae, G ac ak al] mb Z Z sz26 Z Z fun md fh me => ?_)));have fi := fg.wr 3 Z fh;refine Xb (Xk ?_);have mf := fi.bgv me 3 Z;have fj : Ct [some b] w0 md [some ab, bk aa, bk ac] O := fi.drop 3 Z;have ha := fj.drop 0 Z;have mg := fj.std 0 Z;have mh := (mf.st mg);have mi := (fj.sd (fi.sd (fg.sw l8 1 3 Z Z Z fh) 1 3 Z Z Z) 1 0 Z Z Z);have mj := (fj.sd (fi.sd (fg.sw l9 2 3 Z Z Z fh) 2 3 Z Z Z) 2 0 Z Z Z);have ml := (fg.bmo ma 3 Z fh);exact ⟨[.agg #[G aa ad ae, G ac ak al]], ⟨_, _, Z, mh.1.res Z ag26 sz26, Z⟩, (⟨(r2.Commits.set r3.toNat (⟨(((nth r2.Commits r3).Up) ++ ([r3] : List Int)), (nth r2.Commits r3).Sheet, (nth r2.Commits r3).Note⟩ : Commit)), r2.Heads⟩ : Repo), m3, aa, ad, ae, ac, ak, al, Z, H, ha.gr.g1, ml, ha.ok, ha.ge, mi, mj⟩
 have H := Xo H gh;refine Xc (Xd (Xa (Xw r4 2 (r4 == 2) Z Z Z) (Xf (vb (r4 == 2)) Z (Xb ?_))));refine Xu (r4 == 2) Z (fun hc => ?_) (fun hc => ?_)
 ·have H := Xn H hc;refine Yt 8 [some b, bk aa] RK Z fun mm cd ea => ?_;have bq := av.k0 cd;refine Xl 0 Z RK ea (Xg fa26_0 (Ad ab 0) (Ad ab 0) Z Z) ?_;have iv := ((ah.bwm (ag.bwm bz 0 Z ai) 0 Z aj).k0 cd);refine Xl 1 Z RK ea (Yv ag23 cR (Ad ab 0) (G aa ad ae) Z (iv.cell Z) (nm_cons (bx_nem bq (j := 0) Z) (nm_cons (bx_ne bq (j := 0) (i := 1) Z Z RD) nm_nil))) ?_;refine Xl 2 Z RK ea (Yj (vi r3) Z) ?_;refine Xl 3 Z RK ea (Yj (Pz b) Z) ?_;refine Xm 4 RK Z ?_;have mn := (bp.k0 cd);refine Xs go43 (F79.calls H bq.ok (hp5.st bq.st) mn (List.mem_append_right _ hm)) Z ?_;rintro _ rc ⟨r6, m5, fk, iw, ix, rfl, H, ce, mo, mp, fl, mq⟩;have eb := bq.ownm ce mp fl;have fm := Gm.tq ea ce (hv_mem 0 Z);refine Xb ⟨fm, ?_⟩;obtain ⟨hd, H⟩ := H;have mr := (bq.som ((ah.swm (ag.swm bg 1 Z ai) 1 Z aj).sn cd) 1 Z ce fl);have ms := (DArr.swm (L := (some ab :: bk aa :: bk ac :: some b8 :: (af ++ []))) (O := O) ((DArr.swm (L := (some ab :: bk aa :: bk ac :: some b8 :: (af ++ []))) (O := O) (DArr.swm (L := (some ab :: bk aa :: bk ac :: some b8 :: (af ++ []))) (O := O) bh ag (fun b hb => (mcm (mcm (mcm (mcm (List.mem_append_left _ hb)))))) row1 ai) ah (fun b hb => (mcm (mcm (mcm (mcm (List.mem_append_left _ hb)))))) row1 aj).k0 cd) bq (fun b hb => (mcm (mcm (mcm (mcm (List.mem_append_left _ hb)))))) row1 ce);have mt := St.spa (w := bu) (A := (bk aa :: bk ac :: (af ++ []))) (L := [some b8]) (O := O) a1;have mu := bo.stown _ ao (Xi a2);have mv := ap.stw 0 Z aq;have mw := ag.stm ai;have mx := ah.stm aj;have my := av.stn cd;have mz := bq.stom ce fl;have m1 := (((((((bv.st mt).st mu).st mv).st mw).st mx).st my).st mz);have dn : ((bk fk :: some ab :: bk aa :: bk ac :: some b8 :: (af ++ [])) : Ob).Perm (af ++ [bk fk, some ab, bk aa, bk ac, some b8]) := RP;have ec := eb.drops dn;have m6 := (eb.odr mr dn 2 Z);have he := Ow.ofR (k := kCommit) m6 (half33.join ms (m1.st (St.drops _ O dn)) (fun b hb => Op.out eb dn hb));obtain ⟨fn, rd, iy, m7, m8⟩ := he.get default RD r3 hd;obtain ⟨iz, i0, i1, m9, na, nb, rfl, nc, re, nd⟩ := kCommit.op m7;refine Xl 5 Z RK fm (X0 u23_ Y2 aa fn ad ae he.len r3 Z iy Z hd) ?_;refine Xl 6 Z RK fm (Xg fa33_1 (fn.add (r3.toNat * 3)) ((fn.add (r3.toNat * 3)).add 1) Z Z) ?_;refine Xm 7 RK Z ?_;have ne := (eb.odr mq dn 0 Z);have nf := ec.gv ne 0 Z;have ed := ec.drop 0 Z;have ng := (ec.sd he 2 0 Z Z Z);have nh := ec.std 0 Z;refine Yy aa ad ae r2.Commits ng r3 hd fn iy 1 Z [G fk iw ix] Z sz31 Z (⟨(nth r2.Commits r3).Up, r6, (nth r2.Commits r3).Note⟩ : Commit) [G iz i0 i1, G m9 na nb, vs ((nth r2.Commits r3).Note)] [G iz i0 i1, G fk iw ix, vs ((nth r2.Commits r3).Note)] m8 Z Z (kCommit.mk _ _ (⟨(nth r2.Commits r3).Up, r6, (nth r2.Commits r3).Note⟩ : Commit) (nc.st nh) nf nd) fun rf dp ni => ?_;have fo := ed.wr 1 Z dp;have nj := Gm.tq fm dp (hv_mem 1 Z);refine Xb ⟨nj, ?_⟩;refine X8 RK ?_;refine Xc (Xd ?_);have nk := (ed.bm (bq.bwm iv 0 Z ce) 0 1 Z Z Z dp);refine Xa (Xr ag26 sz26 cL (Ad ab 0) [G aa ad ae, G ac ak al] Z Z (nk.cells (off := 00) Z)) ?_;have nl := (ed.bm (bq.bwm ((ah.bwm (ag.bwm (ap.bm ((be.bwm bt 0 Z bn).k0 ao) 3 0 Z Z Z aq) 3 Z ai) 3 Z aj).k0 cd) 3 Z ce) 3 1 Z Z Z dp);refine Xt [G aa ad ae, G ac ak al] nl Z Z sz26 Z Z fun nm fp nn => ?_;have fq := fo.wr 3 Z fp;refine Xb (Xk ?_);have no := fq.bgv nn 3 Z;have fs := fq.drop 3 Z;have hf : Ct [some b] w0 nm [bk aa, bk ac] O := fs.drop 0 Z;have np := fs.std 0 Z;have nq := (no.st np);have nr := (fs.sd (fq.sd (fo.sw ni 1 3 Z Z Z fp) 1 3 Z Z Z) 1 0 Z Z Z);have ns := (fs.sd (fq.sd (fo.sw (ed.sw (ec.sd (eb.odr (bq.som ((ah.swm (ag.swm (ap.sw ((bw.spa b3 a1).so _ ao (Xi a2)) 2 0 Z Z Z aq) 2 Z ai) 2 Z aj).sn cd) 2 Z ce fl) dn 3 Z) 3 0 Z Z Z) 2 1 Z Z Z dp) 2 3 Z Z Z fp) 2 3 Z Z Z) 2 0 Z Z Z);have nt := (fo.bmo (ed.bmo mo 1 Z dp) 3 Z fp);exact ⟨[.agg #[G aa ad ae, G ac ak al]], ⟨_, _, Z, nq.1.res Z ag26 sz26, Z⟩, (⟨(r2.Commits.set r3.toNat (⟨(nth r2.Commits r3).Up, r6, (nth r2.Commits r3).Note⟩ : Commit)), r2.Heads⟩ : Repo), m5, aa, ad, ae, ac, ak, al, Z, H, hf.gr.g1, nt, hf.ok, hf.ge, nr, ns⟩
 have H := Xo H hc;refine Xc (Xd (Xa (Xw r4 3 (r4 == 3) Z Z Z) (Xf (vb (r4 == 3)) Z (Xb ?_))));refine Xu (r4 == 3) Z (fun hg => ?_) (fun hg => ?_)
 ·have H := Xn H hg;refine Xd (Xa (Xg fa26_0 (Ad ab 0) (Ad ab 0) Z Z) ?_);have i2 := (ah.bwm (ag.bwm bz 0 Z ai) 0 Z aj);refine Xa (Xj ag23 cL (Ad ab 0) (G aa ad ae) Z (i2.cell Z)) (Xe (vi r3) Z ?_);obtain ⟨hh, H⟩ := H;have nu := (ah.swm (ag.swm bg 1 Z ai) 1 Z aj);have nv := (DArr.swm (L := (some ab :: bk aa :: bk ac :: some b8 :: (af ++ []))) (O := O) (DArr.swm (L := (some ab :: bk aa :: bk ac :: some b8 :: (af ++ []))) (O := O) bh ag (fun b hb => (mcm (mcm (mcm (mcm (List.mem_append_left _ hb)))))) row1 ai) ah (fun b hb => (mcm (mcm (mcm (mcm (List.mem_append_left _ hb)))))) row1 aj);have nw := St.spa (w := bu) (A := (bk aa :: bk ac :: (af ++ []))) (L := [some b8]) (O := O) a1;have nx := bo.stown _ ao (Xi a2);have ny := ap.stw 0 Z aq;have nz := ag.stm ai;have n0 := ah.stm aj;have n1 := (((((bv.st nw).st nx).st ny).st nz).st n0);have ee : ((some ab :: bk aa :: bk ac :: some b8 :: (af ++ [])) : Ob).Perm (af ++ [some ab, bk aa, bk ac, some b8]) := RP;have ef := av.drops ee;have n2 := (av.odr nu ee 1 Z);have hi := Ow.ofR (k := kCommit) n2 (half33.join nv (n1.st (St.drops _ O ee)) (fun b hb => Op.out av ee hb));obtain ⟨ft, rg, i3, n4, n5⟩ := hi.get default RD r3 hh;obtain ⟨i4, i5, i6, i7, i8, i9, rfl, n6, n7, rh⟩ := kCommit.op n4;refine Xa (X0 u23_ Y2 aa ft ad ae hi.len r3 Z i3 Z hh) (Xa (Xg fa33_2 (ft.add (r3.toNat * 3)) ((ft.add (r3.toNat * 3)).add 2) Z Z) (Yy aa ad ae r2.Commits hi r3 hh ft i3 2 Z [vs []] Z sz9 Z (⟨(nth r2.Commits r3).Up, (nth r2.Commits r3).Sheet, ([] : Str)⟩ : Commit) [G i4 i5 i6, G i7 i8 i9, vs ((nth r2.Commits r3).Note)] [G i4 i5 i6, G i7 i8 i9, vs []] n5 Z Z (kCommit.mk _ _ (⟨(nth r2.Commits r3).Up, (nth r2.Commits r3).Sheet, ([] : Str)⟩ : Commit) n6 n7 (by decide : Lim ([] : Str))) fun ri eg n8 => ?_));have fu := ef.wr 1 Z eg;refine Xb (Xc (Xd ?_));have n9 := (ef.bm i2 0 1 Z Z Z eg);refine Xa (Xr ag26 sz26 cL (Ad ab 0) [G aa ad ae, G ac ak al] Z Z (n9.cells (off := 00) Z)) ?_;have oa := (ef.bm (ah.bwm (ag.bwm (ap.bm ((be.bwm bt 0 Z bn).k0 ao) 3 0 Z Z Z aq) 3 Z ai) 3 Z aj) 3 1 Z Z Z eg);refine Xt [G aa ad ae, G ac ak al] oa Z Z sz26 Z Z fun rj fv ob => ?_;have fw := fu.wr 3 Z fv;refine Xb (Xk ?_);have oc := fw.bgv ob 3 Z;have fx := fw.drop 3 Z;have hj := fx.drop 0 Z;have od := fx.std 0 Z;have oe := (oc.st od);have og := (fx.sd (fw.sd (fu.sw n8 1 3 Z Z Z fv) 1 3 Z Z Z) 1 0 Z Z Z);have oh := (fx.sd (fw.sd (fu.sw (ef.sw (av.odr (ah.swm (ag.swm (ap.sw ((bw.spa b3 a1).so _ ao (Xi a2)) 2 0 Z Z Z aq) 2 Z ai) 2 Z aj) ee 2 Z) 2 1 Z Z Z eg) 2 3 Z Z Z fv) 2 3 Z Z Z) 2 0 Z Z Z);have oi := (fu.bmo (ef.bmo bp 1 Z eg) 3 Z fv);exact ⟨[.agg #[G aa ad ae, G ac ak al]], ⟨_, _, Z, oe.1.res Z ag26 sz26, Z⟩, (⟨(r2.Commits.set r3.toNat (⟨(nth r2.Commits r3).Up, (nth r2.Commits r3).Sheet, ([] : Str)⟩ : Commit)), r2.Heads⟩ : Repo), m3, aa, ad, ae, ac, ak, al, Z, H, hj.gr.g1, oi, hj.ok, hj.ge, og, oh⟩
 have H := Xo H hg;refine Xc (Xd (Xa (Xw r4 4 (r4 == 4) Z Z Z) (Xf (vb (r4 == 4)) Z (Xb ?_))));refine Xu (r4 == 4) Z (fun hk => ?_) (fun hk => ?_)
 ·have H := Xn H hk;refine Yt 10 [bk ac, some ab] RK Z fun rk ay a8 => ?_;have cf := av.k0 ay;obtain ⟨fy, H⟩ := H;obtain ⟨fz, H⟩ := H;refine Xl 0 Z RK a8 (Xg fa26_1 (Ad ab 0) (Ad ab 1) Z Z) ?_;refine Xl 2 Z RK a8 (Xg fa26_1 (Ad ab 0) (Ad ab 1) Z Z) ?_;refine Yo 1 3 RK Z Z ?_ ?_
  ·have bx := ((ah.bwm (ag.bwm bz 0 Z ai) 0 Z aj).k0 ay);refine Xa (Xj ag24 cL (Ad ab 1) (G ac ak al) Z (bx.cell Z)) ?_;refine Xb ⟨a8, ?_⟩;refine Xm 3 RK Z ?_;refine Xa (Xj ag24 cL (Ad ab 1) (G ac ak al) Z (bx.cell Z)) ?_;refine Xb ⟨a8, ?_⟩;have b2 := ((ah.swm (ag.swm (ap.sw ((bw.spa b3 a1).so _ ao (Xi a2)) 2 0 Z Z Z aq) 2 Z ai) 2 Z aj).sn ay);obtain ⟨dq, oj, hl, ho, f0⟩ := b2.get default RD 0 fy;obtain ⟨rfl, eh⟩ := kHead.op ho;refine Xl 4 Z RK a8 (X0 u24_ Ys ac dq ak al b2.len 0 Z hl Z fy) ?_;refine Xm 5 RK Z ?_;refine Xa (Xr ag35 sz35 cL (dq.add ((0 : Int).toNat * 2)) [vs ((nth r2.Heads 0).Name), vi ((nth r2.Heads 0).At)] Z Z f0) ?_;refine Xb ⟨a8, ?_⟩;refine Xm 6 RK Z ?_;refine X5 (kd := kHead) Y4 cf ([(nth r2.Heads 0)] : List Head) (cells := [vs ((nth r2.Heads 0).Name), vi ((nth r2.Heads 0).At)]) ⟨[vs ((nth r2.Heads 0).Name), vi ((nth r2.Heads 0).At)], _, Z, (kHead.mk _ _ (nth r2.Heads 0) eh), Z⟩ RF fun hp ar co cp an hr2362 au cq => ?_;have a9 := Gm.tm a8 an;refine Xb ⟨a9, ?_⟩;refine Xm 7 RK Z ?_;have cg := (b2.so _ an hr2362);refine Ya Y4 au (G ac ak al) r2.Heads ([(nth r2.Heads 0)] : List Head) Z cg (G ar co cp) Z cq.sx 3 Z fz fun ja am az a0 a3 br aw ei => ?_;have bs := Gm.tq a9 a3 (hv_mem 0 Z);have jb := hv_app (L := (bk ar :: some ab :: bk aa :: bk ac :: some b8 :: (af ++ []))) (O := O) (i := 3) a9 Z (hv_mem 0 Z) br aw;refine Xb ⟨bs, ?_⟩;refine Xl 8 Z RK bs (Xg fa26_1 (Ad ab 0) (Ad ab 1) Z Z) ?_;refine Xm 9 RK Z ?_;have ej := (au.bm (bx.k0 an) 1 3 Z Z Z a3);refine Ye 1 [G am az a0] [G aa ad ae, G am az a0] ej Z Z sz24 Z Z Z fun jc ax ek => ?_;have a4 := aw.wr 1 Z ax;have el := Gm.tq bs ax (hv_mem 1 Z);refine Xb ⟨el, ?_⟩;refine X8 RK ?_;refine Xc (Xd (Xa (Xr ag26 sz26 cL (Ad ab 0) [G aa ad ae, G am az a0] Z Z (ek.cells (off := 00) Z)) ?_));have em := (aw.bm (au.bm (((ah.bwm (ag.bwm (ap.bm ((be.bwm bt 0 Z bn).k0 ao) 3 0 Z Z Z aq) 3 Z ai) 3 Z aj).k0 ay).k0 an) 4 3 Z Z Z a3) 4 1 Z Z Z ax);refine Xt [G aa ad ae, G am az a0] em Z Z sz26 Z Z fun en a5 eo => ?_;have bb := a4.wr 4 Z a5;refine Xb (Xk ?_);have ep := (a4.sw (aw.sw (au.sm (((ah.swm (ag.swm bg 1 Z ai) 1 Z aj).sn ay).so _ an hr2362) 2 3 Z Z Z a3 br) 2 1 Z Z Z ax) 2 4 Z Z Z a5);have eq := (DArr.sm (L := (bk ar :: some ab :: bk aa :: bk am :: some b8 :: (af ++ []))) (O := O) (i := 4) (DArr.sm (L := (bk ar :: some ab :: bk aa :: bk am :: some b8 :: (af ++ []))) (O := O) (i := 1) (DArr.sm (L := (bk ar :: some ab :: bk aa :: bk ac :: some b8 :: (af ++ []))) (O := O) (i := 3) (((DArr.swm (L := (some ab :: bk aa :: bk ac :: some b8 :: (af ++ []))) (O := O) (DArr.swm (L := (some ab :: bk aa :: bk ac :: some b8 :: (af ++ []))) (O := O) bh ag (fun b hb => (mcm (mcm (mcm (mcm (List.mem_append_left _ hb)))))) row1 ai) ah (fun b hb => (mcm (mcm (mcm (mcm (List.mem_append_left _ hb)))))) row1 aj).k0 ay).k0 an) au Z (fun b hb => (mcm (List.mem_append_left _ hb))) a3) aw Z (fun b hb => (mcm (mcm (mcm (List.mem_append_left _ hb))))) ax) a4 Z (fun b hb => (List.mem_append_left _ hb)) a5);have er := St.spa (w := bu) (A := (bk aa :: bk ac :: (af ++ []))) (L := [some b8]) (O := O) a1;have cr := bo.stown _ ao (Xi a2);have cs := ap.stw 0 Z aq;have cu := ag.stm ai;have cv := ah.stm aj;have cw := av.stn ay;have cx := cf.stown _ an hr2362;have cy := aw.stw 1 Z ax;have cz := a4.stw 4 Z a5;have es := ((((((((((bv.st er).st cr).st cs).st cu).st cv).st cw).st cx).st br).st cy).st cz);have a7 : ((bk ar :: some ab :: bk aa :: bk am :: some b8 :: (af ++ [])) : Ob).Perm (af ++ [bk ar, some ab, bk aa, bk am, some b8]) := RP;have bc := bb.drops a7;have c0 := (bb.odr ep a7 2 Z);have et := Ow.ofR (k := kCommit) c0 (half33.join eq (es.st (St.drops _ O a7)) (fun b hb => Op.out bb a7 hb));have c1 := eo;have c2 := bc.bgv c1 4 Z;have bd := bc.drop 4 Z;have a6 := bd.drop 0 Z;have ba : Ct [some b] w0 en [bk aa, bk am] O := a6.drop 0 Z;have eu := bd.std 0 Z;have c3 := a6.std 0 Z;have ev := ((c2.st eu).st c3);have c5 := (a6.sd (bd.sd (bc.sd et 2 4 Z Z Z) 2 0 Z Z Z) 1 0 Z Z Z);have c6 := (a6.sd (bd.sd (bc.sd (bb.odr (a4.sw (aw.sw ei 3 1 Z Z Z ax) 3 4 Z Z Z a5) a7 3 Z) 3 4 Z Z Z) 3 0 Z Z Z) 2 0 Z Z Z);have c7 := (a4.bmo (aw.bmo (au.bmo ((bp.k0 ay).k0 an) 3 Z a3) 1 Z ax) 4 Z a5);exact ⟨[.agg #[G aa ad ae, G am az a0]], ⟨_, _, Z, ev.1.res Z ag26 sz26, Z⟩, (⟨r2.Commits, (r2.Heads ++ ([(nth r2.Heads 0)] : List Head))⟩ : Repo), m3, aa, ad, ae, am, az, a0, Z, H, ba.gr.g1, c7, ba.ok, ba.ge, c5, c6⟩
  have bx := ((ah.bwm (ag.bwm bz 0 Z ai) 0 Z aj).k0 ay);refine Xa (Xj ag24 cL (Ad ab 1) (G ac ak al) Z (bx.cell Z)) ?_;refine Xb ⟨a8, ?_⟩;have b2 := ((ah.swm (ag.swm (ap.sw ((bw.spa b3 a1).so _ ao (Xi a2)) 2 0 Z Z Z aq) 2 Z ai) 2 Z aj).sn ay);obtain ⟨dq, oj, hl, ho, f0⟩ := b2.get default RD 0 fy;obtain ⟨rfl, eh⟩ := kHead.op ho;refine Xl 4 Z RK a8 (X0 u24_ Ys ac dq ak al b2.len 0 Z hl Z fy) ?_;refine Yo 1 5 RK Z Z ?_ ?_
  ·refine Xa (Xj ag24 cL (Ad ab 1) (G ac ak al) Z (bx.cell Z)) ?_;refine Xb ⟨a8, ?_⟩;refine Xm 5 RK Z ?_;refine Xa (Xr ag35 sz35 cL (dq.add ((0 : Int).toNat * 2)) [vs ((nth r2.Heads 0).Name), vi ((nth r2.Heads 0).At)] Z Z f0) ?_;refine Xb ⟨a8, ?_⟩;refine Xm 6 RK Z ?_;refine X5 (kd := kHead) Y4 cf ([(nth r2.Heads 0)] : List Head) (cells := [vs ((nth r2.Heads 0).Name), vi ((nth r2.Heads 0).At)]) ⟨[vs ((nth r2.Heads 0).Name), vi ((nth r2.Heads 0).At)], _, Z, (kHead.mk _ _ (nth r2.Heads 0) eh), Z⟩ RF fun hp ar co cp an hr2362 au cq => ?_;have a9 := Gm.tm a8 an;refine Xb ⟨a9, ?_⟩;refine Xm 7 RK Z ?_;have cg := (b2.so _ an hr2362);refine Ya Y4 au (G ac ak al) r2.Heads ([(nth r2.Heads 0)] : List Head) Z cg (G ar co cp) Z cq.sx 3 Z fz fun ja am az a0 a3 br aw ei => ?_;have bs := Gm.tq a9 a3 (hv_mem 0 Z);have jb := hv_app (L := (bk ar :: some ab :: bk aa :: bk ac :: some b8 :: (af ++ []))) (O := O) (i := 3) a9 Z (hv_mem 0 Z) br aw;refine Xb ⟨bs, ?_⟩;refine Xl 8 Z RK bs (Xg fa26_1 (Ad ab 0) (Ad ab 1) Z Z) ?_;refine Xm 9 RK Z ?_;have ej := (au.bm (bx.k0 an) 1 3 Z Z Z a3);refine Ye 1 [G am az a0] [G aa ad ae, G am az a0] ej Z Z sz24 Z Z Z fun jc ax ek => ?_;have a4 := aw.wr 1 Z ax;have el := Gm.tq bs ax (hv_mem 1 Z);refine Xb ⟨el, ?_⟩;refine X8 RK ?_;refine Xc (Xd (Xa (Xr ag26 sz26 cL (Ad ab 0) [G aa ad ae, G am az a0] Z Z (ek.cells (off := 00) Z)) ?_));have em := (aw.bm (au.bm (((ah.bwm (ag.bwm (ap.bm ((be.bwm bt 0 Z bn).k0 ao) 3 0 Z Z Z aq) 3 Z ai) 3 Z aj).k0 ay).k0 an) 4 3 Z Z Z a3) 4 1 Z Z Z ax);refine Xt [G aa ad ae, G am az a0] em Z Z sz26 Z Z fun en a5 eo => ?_;have bb := a4.wr 4 Z a5;refine Xb (Xk ?_);have ep := (a4.sw (aw.sw (au.sm (((ah.swm (ag.swm bg 1 Z ai) 1 Z aj).sn ay).so _ an hr2362) 2 3 Z Z Z a3 br) 2 1 Z Z Z ax) 2 4 Z Z Z a5);have eq := (DArr.sm (L := (bk ar :: some ab :: bk aa :: bk am :: some b8 :: (af ++ []))) (O := O) (i := 4) (DArr.sm (L := (bk ar :: some ab :: bk aa :: bk am :: some b8 :: (af ++ []))) (O := O) (i := 1) (DArr.sm (L := (bk ar :: some ab :: bk aa :: bk ac :: some b8 :: (af ++ []))) (O := O) (i := 3) (((DArr.swm (L := (some ab :: bk aa :: bk ac :: some b8 :: (af ++ []))) (O := O) (DArr.swm (L := (some ab :: bk aa :: bk ac :: some b8 :: (af ++ []))) (O := O) bh ag (fun b hb => (mcm (mcm (mcm (mcm (List.mem_append_left _ hb)))))) row1 ai) ah (fun b hb => (mcm (mcm (mcm (mcm (List.mem_append_left _ hb)))))) row1 aj).k0 ay).k0 an) au Z (fun b hb => (mcm (List.mem_append_left _ hb))) a3) aw Z (fun b hb => (mcm (mcm (mcm (List.mem_append_left _ hb))))) ax) a4 Z (fun b hb => (List.mem_append_left _ hb)) a5);have er := St.spa (w := bu) (A := (bk aa :: bk ac :: (af ++ []))) (L := [some b8]) (O := O) a1;have cr := bo.stown _ ao (Xi a2);have cs := ap.stw 0 Z aq;have cu := ag.stm ai;have cv := ah.stm aj;have cw := av.stn ay;have cx := cf.stown _ an hr2362;have cy := aw.stw 1 Z ax;have cz := a4.stw 4 Z a5;have es := ((((((((((bv.st er).st cr).st cs).st cu).st cv).st cw).st cx).st br).st cy).st cz);have a7 : ((bk ar :: some ab :: bk aa :: bk am :: some b8 :: (af ++ [])) : Ob).Perm (af ++ [bk ar, some ab, bk aa, bk am, some b8]) := RP;have bc := bb.drops a7;have c0 := (bb.odr ep a7 2 Z);have et := Ow.ofR (k := kCommit) c0 (half33.join eq (es.st (St.drops _ O a7)) (fun b hb => Op.out bb a7 hb));have c1 := eo;have c2 := bc.bgv c1 4 Z;have bd := bc.drop 4 Z;have a6 := bd.drop 0 Z;have ba : Ct [some b] w0 en [bk aa, bk am] O := a6.drop 0 Z;have eu := bd.std 0 Z;have c3 := a6.std 0 Z;have ev := ((c2.st eu).st c3);have c5 := (a6.sd (bd.sd (bc.sd et 2 4 Z Z Z) 2 0 Z Z Z) 1 0 Z Z Z);have c6 := (a6.sd (bd.sd (bc.sd (bb.odr (a4.sw (aw.sw ei 3 1 Z Z Z ax) 3 4 Z Z Z a5) a7 3 Z) 3 4 Z Z Z) 3 0 Z Z Z) 2 0 Z Z Z);have c7 := (a4.bmo (aw.bmo (au.bmo ((bp.k0 ay).k0 an) 3 Z a3) 1 Z ax) 4 Z a5);exact ⟨[.agg #[G aa ad ae, G am az a0]], ⟨_, _, Z, ev.1.res Z ag26 sz26, Z⟩, (⟨r2.Commits, (r2.Heads ++ ([(nth r2.Heads 0)] : List Head))⟩ : Repo), m3, aa, ad, ae, am, az, a0, Z, H, ba.gr.g1, c7, ba.ok, ba.ge, c5, c6⟩
  refine Xa (Xr ag35 sz35 cL (dq.add ((0 : Int).toNat * 2)) [vs ((nth r2.Heads 0).Name), vi ((nth r2.Heads 0).At)] Z Z f0) ?_;refine Xb ⟨a8, ?_⟩;refine Yo 1 6 RK Z Z ?_ ?_
  ·refine Xa (Xj ag24 cL (Ad ab 1) (G ac ak al) Z (bx.cell Z)) ?_;refine Xb ⟨a8, ?_⟩;refine Xm 6 RK Z ?_;refine X5 (kd := kHead) Y4 cf ([(nth r2.Heads 0)] : List Head) (cells := [vs ((nth r2.Heads 0).Name), vi ((nth r2.Heads 0).At)]) ⟨[vs ((nth r2.Heads 0).Name), vi ((nth r2.Heads 0).At)], _, Z, (kHead.mk _ _ (nth r2.Heads 0) eh), Z⟩ RF fun hp ar co cp an hr2362 au cq => ?_;have a9 := Gm.tm a8 an;refine Xb ⟨a9, ?_⟩;refine Xm 7 RK Z ?_;have cg := (b2.so _ an hr2362);refine Ya Y4 au (G ac ak al) r2.Heads ([(nth r2.Heads 0)] : List Head) Z cg (G ar co cp) Z cq.sx 3 Z fz fun ja am az a0 a3 br aw ei => ?_;have bs := Gm.tq a9 a3 (hv_mem 0 Z);have jb := hv_app (L := (bk ar :: some ab :: bk aa :: bk ac :: some b8 :: (af ++ []))) (O := O) (i := 3) a9 Z (hv_mem 0 Z) br aw;refine Xb ⟨bs, ?_⟩;refine Xl 8 Z RK bs (Xg fa26_1 (Ad ab 0) (Ad ab 1) Z Z) ?_;refine Xm 9 RK Z ?_;have ej := (au.bm (bx.k0 an) 1 3 Z Z Z a3);refine Ye 1 [G am az a0] [G aa ad ae, G am az a0] ej Z Z sz24 Z Z Z fun jc ax ek => ?_;have a4 := aw.wr 1 Z ax;have el := Gm.tq bs ax (hv_mem 1 Z);refine Xb ⟨el, ?_⟩;refine X8 RK ?_;refine Xc (Xd (Xa (Xr ag26 sz26 cL (Ad ab 0) [G aa ad ae, G am az a0] Z Z (ek.cells (off := 00) Z)) ?_));have em := (aw.bm (au.bm (((ah.bwm (ag.bwm (ap.bm ((be.bwm bt 0 Z bn).k0 ao) 3 0 Z Z Z aq) 3 Z ai) 3 Z aj).k0 ay).k0 an) 4 3 Z Z Z a3) 4 1 Z Z Z ax);refine Xt [G aa ad ae, G am az a0] em Z Z sz26 Z Z fun en a5 eo => ?_;have bb := a4.wr 4 Z a5;refine Xb (Xk ?_);have ep := (a4.sw (aw.sw (au.sm (((ah.swm (ag.swm bg 1 Z ai) 1 Z aj).sn ay).so _ an hr2362) 2 3 Z Z Z a3 br) 2 1 Z Z Z ax) 2 4 Z Z Z a5);have eq := (DArr.sm (L := (bk ar :: some ab :: bk aa :: bk am :: some b8 :: (af ++ []))) (O := O) (i := 4) (DArr.sm (L := (bk ar :: some ab :: bk aa :: bk am :: some b8 :: (af ++ []))) (O := O) (i := 1) (DArr.sm (L := (bk ar :: some ab :: bk aa :: bk ac :: some b8 :: (af ++ []))) (O := O) (i := 3) (((DArr.swm (L := (some ab :: bk aa :: bk ac :: some b8 :: (af ++ []))) (O := O) (DArr.swm (L := (some ab :: bk aa :: bk ac :: some b8 :: (af ++ []))) (O := O) bh ag (fun b hb => (mcm (mcm (mcm (mcm (List.mem_append_left _ hb)))))) row1 ai) ah (fun b hb => (mcm (mcm (mcm (mcm (List.mem_append_left _ hb)))))) row1 aj).k0 ay).k0 an) au Z (fun b hb => (mcm (List.mem_append_left _ hb))) a3) aw Z (fun b hb => (mcm (mcm (mcm (List.mem_append_left _ hb))))) ax) a4 Z (fun b hb => (List.mem_append_left _ hb)) a5);have er := St.spa (w := bu) (A := (bk aa :: bk ac :: (af ++ []))) (L := [some b8]) (O := O) a1;have cr := bo.stown _ ao (Xi a2);have cs := ap.stw 0 Z aq;have cu := ag.stm ai;have cv := ah.stm aj;have cw := av.stn ay;have cx := cf.stown _ an hr2362;have cy := aw.stw 1 Z ax;have cz := a4.stw 4 Z a5;have es := ((((((((((bv.st er).st cr).st cs).st cu).st cv).st cw).st cx).st br).st cy).st cz);have a7 : ((bk ar :: some ab :: bk aa :: bk am :: some b8 :: (af ++ [])) : Ob).Perm (af ++ [bk ar, some ab, bk aa, bk am, some b8]) := RP;have bc := bb.drops a7;have c0 := (bb.odr ep a7 2 Z);have et := Ow.ofR (k := kCommit) c0 (half33.join eq (es.st (St.drops _ O a7)) (fun b hb => Op.out bb a7 hb));have c1 := eo;have c2 := bc.bgv c1 4 Z;have bd := bc.drop 4 Z;have a6 := bd.drop 0 Z;have ba : Ct [some b] w0 en [bk aa, bk am] O := a6.drop 0 Z;have eu := bd.std 0 Z;have c3 := a6.std 0 Z;have ev := ((c2.st eu).st c3);have c5 := (a6.sd (bd.sd (bc.sd et 2 4 Z Z Z) 2 0 Z Z Z) 1 0 Z Z Z);have c6 := (a6.sd (bd.sd (bc.sd (bb.odr (a4.sw (aw.sw ei 3 1 Z Z Z ax) 3 4 Z Z Z a5) a7 3 Z) 3 4 Z Z Z) 3 0 Z Z Z) 2 0 Z Z Z);have c7 := (a4.bmo (aw.bmo (au.bmo ((bp.k0 ay).k0 an) 3 Z a3) 1 Z ax) 4 Z a5);exact ⟨[.agg #[G aa ad ae, G am az a0]], ⟨_, _, Z, ev.1.res Z ag26 sz26, Z⟩, (⟨r2.Commits, (r2.Heads ++ ([(nth r2.Heads 0)] : List Head))⟩ : Repo), m3, aa, ad, ae, am, az, a0, Z, H, ba.gr.g1, c7, ba.ok, ba.ge, c5, c6⟩
  refine X5 (kd := kHead) Y4 cf ([(nth r2.Heads 0)] : List Head) (cells := [vs ((nth r2.Heads 0).Name), vi ((nth r2.Heads 0).At)]) ⟨[vs ((nth r2.Heads 0).Name), vi ((nth r2.Heads 0).At)], _, Z, (kHead.mk _ _ (nth r2.Heads 0) eh), Z⟩ RF fun hp ar co cp an hr2362 au cq => ?_;have a9 := Gm.tm a8 an;refine Xb ⟨a9, ?_⟩;refine Xm 1 RK Z ?_;have cg := (bx.k0 an);refine Xa (Xj ag24 cL (Ad ab 1) (G ac ak al) Z (cg.cell Z)) ?_;refine Xb ⟨a9, ?_⟩;refine Xm 7 RK Z ?_;have ol := (b2.so _ an hr2362);refine Ya Y4 au (G ac ak al) r2.Heads ([(nth r2.Heads 0)] : List Head) Z ol (G ar co cp) Z cq.sx 3 Z fz fun rl bl c8 c9 dr hq ch om => ?_;have hr := Gm.tq a9 dr (hv_mem 0 Z);have rm := hv_app (L := (bk ar :: some ab :: bk aa :: bk ac :: some b8 :: (af ++ []))) (O := O) (i := 3) a9 Z (hv_mem 0 Z) hq ch;refine Xb ⟨hr, ?_⟩;refine Xl 8 Z RK hr (Xg fa26_1 (Ad ab 0) (Ad ab 1) Z Z) ?_;refine Xm 9 RK Z ?_;have on := (au.bm cg 1 3 Z Z Z dr);refine Ye 1 [G bl c8 c9] [G aa ad ae, G bl c8 c9] on Z Z sz24 Z Z Z fun rn ci oo => ?_;have ds := ch.wr 1 Z ci;have oq := Gm.tq hr ci (hv_mem 1 Z);refine Xb ⟨oq, ?_⟩;refine X8 RK ?_;refine Xc (Xd (Xa (Xr ag26 sz26 cL (Ad ab 0) [G aa ad ae, G bl c8 c9] Z Z (oo.cells (off := 00) Z)) ?_));have os := (ch.bm (au.bm (((ah.bwm (ag.bwm (ap.bm ((be.bwm bt 0 Z bn).k0 ao) 3 0 Z Z Z aq) 3 Z ai) 3 Z aj).k0 ay).k0 an) 4 3 Z Z Z dr) 4 1 Z Z Z ci);refine Xt [G aa ad ae, G bl c8 c9] os Z Z sz26 Z Z fun ot dt ou => ?_;have f1 := ds.wr 4 Z dt;refine Xb (Xk ?_);have ov := (ds.sw (ch.sw (au.sm (((ah.swm (ag.swm bg 1 Z ai) 1 Z aj).sn ay).so _ an hr2362) 2 3 Z Z Z dr hq) 2 1 Z Z Z ci) 2 4 Z Z Z dt);have ox := (DArr.sm (L := (bk ar :: some ab :: bk aa :: bk bl :: some b8 :: (af ++ []))) (O := O) (i := 4) (DArr.sm (L := (bk ar :: some ab :: bk aa :: bk bl :: some b8 :: (af ++ []))) (O := O) (i := 1) (DArr.sm (L := (bk ar :: some ab :: bk aa :: bk ac :: some b8 :: (af ++ []))) (O := O) (i := 3) (((DArr.swm (L := (some ab :: bk aa :: bk ac :: some b8 :: (af ++ []))) (O := O) (DArr.swm (L := (some ab :: bk aa :: bk ac :: some b8 :: (af ++ []))) (O := O) bh ag (fun b hb => (mcm (mcm (mcm (mcm (List.mem_append_left _ hb)))))) row1 ai) ah (fun b hb => (mcm (mcm (mcm (mcm (List.mem_append_left _ hb)))))) row1 aj).k0 ay).k0 an) au Z (fun b hb => (mcm (List.mem_append_left _ hb))) dr) ch Z (fun b hb => (mcm (mcm (mcm (List.mem_append_left _ hb))))) ci) ds Z (fun b hb => (List.mem_append_left _ hb)) dt);have cr := St.spa (w := bu) (A := (bk aa :: bk ac :: (af ++ []))) (L := [some b8]) (O := O) a1;have cs := bo.stown _ ao (Xi a2);have cu := ap.stw 0 Z aq;have cv := ag.stm ai;have cw := ah.stm aj;have cx := av.stn ay;have cy := cf.stown _ an hr2362;have cz := ch.stw 1 Z ci;have oy := ds.stw 4 Z dt;have oz := ((((((((((bv.st cr).st cs).st cu).st cv).st cw).st cx).st cy).st hq).st cz).st oy);have ew : ((bk ar :: some ab :: bk aa :: bk bl :: some b8 :: (af ++ [])) : Ob).Perm (af ++ [bk ar, some ab, bk aa, bk bl, some b8]) := RP;have f2 := f1.drops ew;have c1 := (f1.odr ov ew 2 Z);have c0 := Ow.ofR (k := kCommit) c1 (half33.join ox (oz.st (St.drops _ O ew)) (fun b hb => Op.out f1 ew hb));have c2 := ou;have o0 := f2.bgv c2 4 Z;have a6 := f2.drop 4 Z;have ba := a6.drop 0 Z;have hs : Ct [some b] w0 ot [bk aa, bk bl] O := ba.drop 0 Z;have c3 := a6.std 0 Z;have o1 := ba.std 0 Z;have c5 := ((o0.st c3).st o1);have c6 := (ba.sd (a6.sd (f2.sd c0 2 4 Z Z Z) 2 0 Z Z Z) 1 0 Z Z Z);have c7 := (ba.sd (a6.sd (f2.sd (f1.odr (ds.sw (ch.sw om 3 1 Z Z Z ci) 3 4 Z Z Z dt) ew 3 Z) 3 4 Z Z Z) 3 0 Z Z Z) 2 0 Z Z Z);have o2 := (ds.bmo (ch.bmo (au.bmo ((bp.k0 ay).k0 an) 3 Z dr) 1 Z ci) 4 Z dt);exact ⟨[.agg #[G aa ad ae, G bl c8 c9]], ⟨_, _, Z, c5.1.res Z ag26 sz26, Z⟩, (⟨r2.Commits, (r2.Heads ++ ([(nth r2.Heads 0)] : List Head))⟩ : Repo), m3, aa, ad, ae, bl, c8, c9, Z, H, hs.gr.g1, o2, hs.ok, hs.ge, c6, c7⟩
 have H := Xo H hk;refine Xc (Xd (Xa (Xw r4 5 (r4 == 5) Z Z Z) (Xf (vb (r4 == 5)) Z (Xb ?_))));refine Xu (r4 == 5) Z (fun ht => ?_) (fun ht => ?_)
 ·have H := Xn H ht;refine Xd (Xa (Xg fa26_0 (Ad ab 0) (Ad ab 0) Z Z) ?_);have jd := (ah.bwm (ag.bwm bz 0 Z ai) 0 Z aj);refine Xa (Xj ag23 cL (Ad ab 0) (G aa ad ae) Z (jd.cell Z)) (Xe (vi r3) Z ?_);obtain ⟨hu, H⟩ := H;have o3 := (ah.swm (ag.swm bg 1 Z ai) 1 Z aj);have o4 := (DArr.swm (L := (some ab :: bk aa :: bk ac :: some b8 :: (af ++ []))) (O := O) (DArr.swm (L := (some ab :: bk aa :: bk ac :: some b8 :: (af ++ []))) (O := O) bh ag (fun b hb => (mcm (mcm (mcm (mcm (List.mem_append_left _ hb)))))) row1 ai) ah (fun b hb => (mcm (mcm (mcm (mcm (List.mem_append_left _ hb)))))) row1 aj);have o5 := St.spa (w := bu) (A := (bk aa :: bk ac :: (af ++ []))) (L := [some b8]) (O := O) a1;have o6 := bo.stown _ ao (Xi a2);have o7 := ap.stw 0 Z aq;have o8 := ag.stm ai;have o9 := ah.stm aj;have pa := (((((bv.st o5).st o6).st o7).st o8).st o9);have ex : ((some ab :: bk aa :: bk ac :: some b8 :: (af ++ [])) : Ob).Perm (af ++ [some ab, bk aa, bk ac, some b8]) := RP;have ey := av.drops ex;have pb := (av.odr o3 ex 1 Z);have hv := Ow.ofR (k := kCommit) pb (half33.join o4 (pa.st (St.drops _ O ex)) (fun b hb => Op.out av ex hb));obtain ⟨f3, ro, je, pd, pe⟩ := hv.get default RD r3 hu;obtain ⟨pf, pg, ph, jf, jg, jh, rfl, rp, pi, pj⟩ := kCommit.op pd;refine Xa (X0 u23_ Y2 aa f3 ad ae hv.len r3 Z je Z hu) (Xa (Xg fa33_0 (f3.add (r3.toNat * 3)) ((f3.add (r3.toNat * 3)).add 0) Z Z) (Yy aa ad ae r2.Commits hv r3 hu f3 je 0 Z [G none 0 0] Z sz30 Z (⟨[], (nth r2.Commits r3).Sheet, (nth r2.Commits r3).Note⟩ : Commit) [G pf pg ph, G jf jg jh, vs ((nth r2.Commits r3).Note)] [G none 0 0, G jf jg jh, vs ((nth r2.Commits r3).Note)] pe Z Z (kCommit.mk _ _ (⟨[], (nth r2.Commits r3).Sheet, (nth r2.Commits r3).Note⟩ : Commit) (Sl.nil _ _ _ none 0 RD) pi pj) fun rq ez pk => ?_));have f4 := ey.wr 1 Z ez;refine Xb (Xc (Xd ?_));have pl := (ey.bm jd 0 1 Z Z Z ez);refine Xa (Xr ag26 sz26 cL (Ad ab 0) [G aa ad ae, G ac ak al] Z Z (pl.cells (off := 00) Z)) ?_;have pm := (ey.bm (ah.bwm (ag.bwm (ap.bm ((be.bwm bt 0 Z bn).k0 ao) 3 0 Z Z Z aq) 3 Z ai) 3 Z aj) 3 1 Z Z Z ez);refine Xt [G aa ad ae, G ac ak al] pm Z Z sz26 Z Z fun rr f5 pn => ?_;have f6 := f4.wr 3 Z f5;refine Xb (Xk ?_);have po := f6.bgv pn 3 Z;have f7 := f6.drop 3 Z;have hw := f7.drop 0 Z;have pp := f7.std 0 Z;have pq := (po.st pp);have pr := (f7.sd (f6.sd (f4.sw pk 1 3 Z Z Z f5) 1 3 Z Z Z) 1 0 Z Z Z);have ps := (f7.sd (f6.sd (f4.sw (ey.sw (av.odr (ah.swm (ag.swm (ap.sw ((bw.spa b3 a1).so _ ao (Xi a2)) 2 0 Z Z Z aq) 2 Z ai) 2 Z aj) ex 2 Z) 2 1 Z Z Z ez) 2 3 Z Z Z f5) 2 3 Z Z Z) 2 0 Z Z Z);have pt := (f4.bmo (ey.bmo bp 1 Z ez) 3 Z f5);exact ⟨[.agg #[G aa ad ae, G ac ak al]], ⟨_, _, Z, pq.1.res Z ag26 sz26, Z⟩, (⟨(r2.Commits.set r3.toNat (⟨[], (nth r2.Commits r3).Sheet, (nth r2.Commits r3).Note⟩ : Commit)), r2.Heads⟩ : Repo), m3, aa, ad, ae, ac, ak, al, Z, H, hw.gr.g1, pt, hw.ok, hw.ge, pr, ps⟩
 have H := Xo H ht;refine Xz (Xc (Xd ?_));have pu := (ah.bwm (ag.bwm bz 0 Z ai) 0 Z aj);refine Xa (Xr ag26 sz26 cL (Ad ab 0) [G aa ad ae, G ac ak al] Z Z (pu.cells (off := 00) Z)) ?_;have pv := (ah.bwm (ag.bwm (ap.bm ((be.bwm bt 0 Z bn).k0 ao) 3 0 Z Z Z aq) 3 Z ai) 3 Z aj);refine Xt [G aa ad ae, G ac ak al] pv Z Z sz26 Z Z fun rt du pw => ?_;have f8 := av.wr 3 Z du;refine Xb (Xk ?_);have px := (av.sw (ah.swm (ag.swm bg 1 Z ai) 1 Z aj) 1 3 Z Z Z du);have py := (DArr.sm (L := (some ab :: bk aa :: bk ac :: some b8 :: (af ++ []))) (O := O) (i := 3) (DArr.swm (L := (some ab :: bk aa :: bk ac :: some b8 :: (af ++ []))) (O := O) (DArr.swm (L := (some ab :: bk aa :: bk ac :: some b8 :: (af ++ []))) (O := O) bh ag (fun b hb => (mcm (mcm (mcm (mcm (List.mem_append_left _ hb)))))) row1 ai) ah (fun b hb => (mcm (mcm (mcm (mcm (List.mem_append_left _ hb)))))) row1 aj) av Z (fun b hb => (List.mem_append_left _ hb)) du);have pz := St.spa (w := bu) (A := (bk aa :: bk ac :: (af ++ []))) (L := [some b8]) (O := O) a1;have p0 := bo.stown _ ao (Xi a2);have p1 := ap.stw 0 Z aq;have p2 := ag.stm ai;have p3 := ah.stm aj;have p4 := av.stw 3 Z du;have p5 := ((((((bv.st pz).st p0).st p1).st p2).st p3).st p4);have e0 : ((some ab :: bk aa :: bk ac :: some b8 :: (af ++ [])) : Ob).Perm (af ++ [some ab, bk aa, bk ac, some b8]) := RP;have f9 := f8.drops e0;have p6 := (f8.odr px e0 1 Z);have p7 := Ow.ofR (k := kCommit) p6 (half33.join py (p5.st (St.drops _ O e0)) (fun b hb => Op.out f8 e0 hb));have p8 := pw;have p9 := f9.bgv p8 3 Z;have ga := f9.drop 3 Z;have hx := ga.drop 0 Z;have qa := ga.std 0 Z;have qb := (p9.st qa);have qc := (ga.sd (f9.sd p7 1 3 Z Z Z) 1 0 Z Z Z);have qd := (ga.sd (f9.sd (f8.odr (av.sw (ah.swm (ag.swm (ap.sw ((bw.spa b3 a1).so _ ao (Xi a2)) 2 0 Z Z Z aq) 2 Z ai) 2 Z aj) 2 3 Z Z Z du) e0 2 Z) 2 3 Z Z Z) 2 0 Z Z Z);have qe := (av.bmo bp 3 Z du);exact ⟨[.agg #[G aa ad ae, G ac ak al]], ⟨_, _, Z, qb.1.res Z ag26 sz26, Z⟩, r2, m3, aa, ad, ae, ac, ak, al, Z, H, hx.gr.g1, qe, hx.ok, hx.ge, qc, qd⟩
def F11.E (code : List UInt8) (Q : Repo → Repo → Prop) : Prop :=
 F47.E code (fun r_b r_p => F80.E r_b r_p (fun r m => F47.E code (fun r_b2 r_p2 => F80.E r_b2 r_p2 (fun r2 m2 => (if decide ((code.length : Int) > 0) then ((0 : Int) ≤ 0 ∧ 0 < (code.length : Int)) ∧ ((0 : Int) ≤ ((nth code 0).toNat : Int) ∧ (0 : Int) < 2) ∧ (if (((nth code 0).toNat : Int) % 2) == 1 then ((0 : Int) ≤ 0 ∧ 0 < (r2.Commits.length : Int)) ∧ (((nth r2.Commits 0).Note).length + ([97] : Str).length ≤ 9223372036854775807) ∧ ((0 : Int) ≤ 0 ∧ 0 < (r2.Commits.length : Int)) ∧ Q r (⟨(r2.Commits.set (0 : Int).toNat (⟨(nth r2.Commits 0).Up, (nth r2.Commits 0).Sheet, (((nth r2.Commits 0).Note) ++ ([97] : Str))⟩ : Commit)), r2.Heads⟩ : Repo) else Q r r2) else Q r r2)))))
theorem F11.calls {code : List UInt8} {A1 : Option Addr} {n2 c3 : Nat} {Q : Repo → Repo → Prop} (H : F11.E code Q) (hO : Ok w0 O) (hp4 : Sl Kd.byte w0 (Fr O) (G A1 n2 c3) code) :
  Ret Try.prog 7 [G A1 n2 c3] w0 (fun v w' => ∃ (r0 r1 : Repo) (Aw0 : Option Addr) (nw0 cw0 : Nat) (Aw2 : Option Addr) (nw2 cw2 : Nat) (Aw4 : Option Addr) (nw4 cw4 : Nat) (Aw6 : Option Addr) (nw6 cw6 : Nat), v = .tuple #[.agg #[G Aw0 nw0 cw0, G Aw2 nw2 cw2], .agg #[G Aw4 nw4 cw4, G Aw6 nw6 cw6]] ∧ Q r0 r1 ∧ Gk w0 w' [bk Aw0, bk Aw2, bk Aw4, bk Aw6] O (Ow kCommit 33 w' ([bk Aw0, bk Aw2, bk Aw4, bk Aw6] ++ O) (G Aw0 nw0 cw0) r0.Commits ∧ Ow kHead 35 w' ([bk Aw0, bk Aw2, bk Aw4, bk Aw6] ++ O) (G Aw2 nw2 cw2) r0.Heads ∧ Ow kCommit 33 w' ([bk Aw0, bk Aw2, bk Aw4, bk Aw6] ++ O) (G Aw4 nw4 cw4) r1.Commits ∧ Ow kHead 35 w' ([bk Aw0, bk Aw2, bk Aw4, bk Aw6] ++ O) (G Aw6 nw6 cw6) r1.Heads)) := by
 unfold F11.E at H;have hc0 := Ct.init hO;refine X9 Try.func7 Z 34 Z [.cell 2 26, .cell 3 26] Z Z ?_;refine Xc (Xd (Yf [G none 0 0, G none 0 0] ze26 fun w6 b7 hl9 hu10 g8 cl => ?_));have dy := hc0.own g8 (some b7) (Yd hl9 hu10);refine Yf [G none 0 0, G none 0 0] ze26 fun dz a1 d0 hu18 ci cm => ?_;have cn := dy.own ci (some a1) (Yd d0 hu18);refine Xb (Xc (Xd (Xe (G A1 n2 c3) Z ?_)));refine Xs go21 (F47.calls H cn.ok (hp4.st cn.st)) Z ?_;rintro _ d1 ⟨r_b, r_p, c5, d2, d3, d4, rfl, H, bd, d5, d6, d7, d8⟩;have a9 := cn.owns bd d5 d6;refine Xs go20 (F80.calls H a9.ok d8 d7 (mem_app 0 Z)) Z ?_;rintro _ gm ⟨r, m, ab, aj, ak, ac, al, am, rfl, H, be, gn, d9, ea, co, cp⟩;have eb := a9.ownw (j := 0) Z be d9 ea;refine Yf [G none 0 0, G none 0 0] ze26 fun gp ba bf hu56 ax ec => ?_;have ay := eb.own ax (some ba) (Yd bf hu56);refine Xt [G ab aj ak, G ac al am] ec Z Z sz26 Z Z fun ed az cq => ?_;have cr := ay.wr 0 Z az;refine Xb (Xc (Xd (Xe (G A1 n2 c3) Z ?_)));refine Xs go21 (F47.calls H cr.ok (hp4.st cr.st)) Z ?_;rintro _ ee ⟨r_b2, r_p2, c6, ef, eg, eh, rfl, H, aq, ei, bg, ej, ek⟩;have an := cr.owns aq ei bg;refine Xs go20 (F80.calls H an.ok ek ej (mem_app 0 Z)) Z ?_;rintro _ gq ⟨r2, m2, aa, ae, af, ad, ao, ap, rfl, H, ar, gs, el, bh, cs, ct⟩;have em := an.ownw (j := 0) Z ar el bh;refine Yf [G none 0 0, G none 0 0] ze26 fun gt aw a0 hu98 ag en => ?_;have ah := em.own ag (some aw) (Yd a0 hu98);refine Xt [G aa ae af, G ad ao ap] en Z Z sz26 Z Z fun gu ai cu => ?_;have au := ah.wr 0 Z ai;refine Xb (Xc (Xc (Xd (Xe (G A1 n2 c3) Z ?_))));have gv := (hp4.st au.st).le;refine Xa (X3 u22_ A1 n2 c3 (hp4.st au.st).len Z) (Xa (Xw (code.length : Int) 0 (decide ((code.length : Int) > 0)) Z Z Z) (Xe (vb (decide ((code.length : Int) > 0))) Z ?_));rcases Yc (decide ((code.length : Int) > 0)) with av | av
 ·have H := Xn H av;refine Xp av Z (Xe (G A1 n2 c3) Z (Xp av Z ?_));obtain ⟨c7, H⟩ := H;obtain ⟨c8, gw, eo, gx, ep, eq⟩ := (hp4.st au.st).get default RD 0 c7;obtain rfl := Kd.byte.op ep;refine Xa (X0 u22_ Zr A1 c8 n2 c3 (hp4.st au.st).len 0 Z eo Z c7) (Xp av Z (Xa (Xj ag5 cL (c8.add ((0 : Int).toNat * 1)) (v8 (nth code 0)) Z (eq 0 _ Z)) (Xp av Z ?_)));obtain ⟨er, H⟩ := H;refine Xa (Zo ((nth code 0).toNat : Int) 2 Z Z er) (Xp av Z (Xa (Xw (((nth code 0).toNat : Int) % 2) 1 ((((nth code 0).toNat : Int) % 2) == 1) Z Z Z) (Xa (Yq true (vb ((((nth code 0).toNat : Int) % 2) == 1)) (by exact congrArg Value.bool av) Z) (Xb ?_))));refine Xu ((((nth code 0).toNat : Int) % 2) == 1) Z (fun cv => ?_) (fun cv => ?_)
  ·have H := Xn H cv;refine Z5 10 RK RK fun gy a5 => ?_;have bb := au.k0 a5;refine Y1 (Xg fa26_0 (Ad aw 0) (Ad aw 0) Z Z) ?_;have cw := (cu.k0 a5);refine Y1 (Xj ag23 cL (Ad aw 0) (G aa ae af) Z (cw.cell Z)) ?_;refine Y1 (Xg fa26_0 (Ad aw 0) (Ad aw 0) Z Z) ?_;refine Y1 (Xj ag23 cL (Ad aw 0) (G aa ae af) Z (cw.cell Z)) ?_;obtain ⟨c9, H⟩ := H;have cd := ((ah.sw (cs.so _ ag (Xi a0)) 1 0 Z Z Z ai).sn a5);obtain ⟨cj, gz, es, et, eu⟩ := cd.get default RD 0 c9;obtain ⟨g1, g2, g3, g4, g5, g6, rfl, g7, g9, ha⟩ := kCommit.op et;refine Y1 (X0 u23_ Y2 aa cj ae af cd.len 0 Z es Z c9) ?_;refine Y1 (Xg fa33_2 (cj.add ((0 : Int).toNat * 3)) ((cj.add ((0 : Int).toNat * 3)).add 2) Z Z) ?_;refine Y1 (Xj ag9 cL ((cj.add ((0 : Int).toNat * 3)).add 2) (vs ((nth r2.Commits 0).Note)) Z (eu 2 _ Z)) ?_;obtain ⟨da, H⟩ := H;refine Y1 (Zz ((nth r2.Commits 0).Note) ([97] : Str) Z Z da) ?_;obtain ⟨cx, H⟩ := H;obtain ⟨ck, hb, db, ev, ew⟩ := cd.get default RD 0 cx;obtain ⟨dc, dd, de, df, dg, dh, rfl, ex, ey, hc⟩ := kCommit.op ev;refine Y1 (X0 u23_ Y2 aa ck ae af cd.len 0 Z db Z cx) ?_;refine Y1 (Xg fa33_2 (ck.add ((0 : Int).toNat * 3)) ((ck.add ((0 : Int).toNat * 3)).add 2) Z Z) ?_;refine Z6 ?_;refine Yy aa ae af r2.Commits cd 0 cx ck db 2 Z [vs (((nth r2.Commits 0).Note) ++ ([97] : Str))] Z sz9 Z (⟨(nth r2.Commits 0).Up, (nth r2.Commits 0).Sheet, (((nth r2.Commits 0).Note) ++ ([97] : Str))⟩ : Commit) [G dc dd de, G df dg dh, vs ((nth r2.Commits 0).Note)] [G dc dd de, G df dg dh, vs (((nth r2.Commits 0).Note) ++ ([97] : Str))] ew Z Z (kCommit.mk _ _ (⟨(nth r2.Commits 0).Up, (nth r2.Commits 0).Sheet, (((nth r2.Commits 0).Note) ++ ([97] : Str))⟩ : Commit) ex ey (lim_cat da)) fun hd bc ez => ?_;have ce := bb.wr 1 Z bc;refine Xb (Xc ?_);have cf := ce.drop 3 Z;have e0 := cf.drop 6 Z;refine Yt 4 [some b7, some a1] RK Z fun he a6 cy => ?_;have a2 := e0.k0 a6;have e1 := ((bb.bm ((ah.bm ((an.bm (cq.k0 aq) 1 0 Z Z Z ar).k0 ag) 4 0 Z Z Z ai).k0 a5) 4 1 Z Z Z bc).k0 a6);refine Xl 0 Z RK cy (Za ag26 sz26 cR (Ad ba 0) [G ab aj ak, G ac al am] Z Z (e1.cells (off := 0) Z) (nm_cons (bx_ne a2 (j := 3) (i := 7) Z Z RD) (nm_cons (bx_ne a2 (j := 3) (i := 6) Z Z RD) nm_nil))) ?_;have e2 := ((bb.bm cw 0 1 Z Z Z bc).k0 a6);refine Xl 1 Z RK cy (Za ag26 sz26 cR (Ad aw 0) [G aa ae af, G ad ao ap] Z Z (e2.cells (off := 0) Z) (nm_cons (bx_ne a2 (j := 0) (i := 7) Z Z RD) (nm_cons (bx_ne a2 (j := 0) (i := 6) Z Z RD) nm_nil))) ?_;refine Xm 2 RK Z ?_;have e3 := ((bb.bm ((ah.bm ((an.bm ((ay.bm ((a9.bm ((cl.k0 ci).k0 bd) 2 0 Z Z Z be).k0 ax) 5 0 Z Z Z az).k0 aq) 6 0 Z Z Z ar).k0 ag) 9 0 Z Z Z ai).k0 a5) 9 1 Z Z Z bc).k0 a6);refine Xt [G ab aj ak, G ac al am] e3 Z Z sz26 Z Z fun hf bi e4 => ?_;have bt := a2.wr 7 Z bi;have di := Gm.tq cy bi (hv_mem 0 Z);refine Xb ⟨di, ?_⟩;refine Xm 3 RK Z ?_;have e5 := (a2.bm ((bb.bm ((ah.bm ((an.bm ((ay.bm ((a9.bm (cm.k0 bd) 1 0 Z Z Z be).k0 ax) 4 0 Z Z Z az).k0 aq) 5 0 Z Z Z ar).k0 ag) 8 0 Z Z Z ai).k0 a5) 8 1 Z Z Z bc).k0 a6) 6 7 Z Z Z bi);refine Xt [G aa ae af, G ad ao ap] e5 Z Z sz26 Z Z fun dj bj e6 => ?_;have bu := bt.wr 6 Z bj;have e7 := Gm.tq di bj (hv_mem 1 Z);refine Xb ⟨e7, ?_⟩;refine X8 RK ?_;refine Xk ?_;have e8 := (bt.bm e4 7 6 Z Z Z bj);have e9 := bu.bgv e8 7 Z;have bl : Ct [] w0 dj [some aw, bk aa, bk ad, some ba, bk ab, bk ac, some a1] O := bu.drop 7 Z;have fa := e6;have fb := bl.bgv fa 6 Z;have bv := bl.drop 6 Z;have bw := bv.drop 0 Z;have bx : Ct [] w0 dj [bk aa, bk ad, bk ab, bk ac] O := bw.drop 2 Z;have bz : ([bk aa, bk ad, bk ab, bk ac] : Ob).Perm [bk ab, bk ac, bk aa, bk ad] := RP;have cz := bx.perm bz;have fc := bl.std 6 Z;have dk := bv.std 0 Z;have dl := bw.std 2 Z;have dm := bx.stp bz;have fd := ((((e9.st fc).st dk).st dl).st dm);have fe := (((fb.st dk).st dl).st dm);have ff := (bx.sp (bw.sd (bv.sd (bl.sd (bu.sd (bt.sw (a2.sw ((cf.sd (ce.sd (bb.sw ((ah.sw ((an.sow ((ay.sw (co.so _ ax (Xi bf)) 1 0 Z Z Z az).sos aq bg) 2 0 Z Z Z ar bh).so _ ag (Xi a0)) 5 0 Z Z Z ai).sn a5) 5 1 Z Z Z bc) 5 3 Z Z Z) 4 6 Z Z Z).sn a6) 4 7 Z Z Z bi) 4 6 Z Z Z bj) 4 7 Z Z Z) 4 6 Z Z Z) 4 0 Z Z Z) 3 2 Z Z Z) bz);have fg := (bx.sp (bw.sd (bv.sd (bl.sd (bu.sd (bt.sw (a2.sw ((cf.sd (ce.sd (bb.sw ((ah.sw ((an.sow ((ay.sw (cp.so _ ax (Xi bf)) 2 0 Z Z Z az).sos aq bg) 3 0 Z Z Z ar bh).so _ ag (Xi a0)) 6 0 Z Z Z ai).sn a5) 6 1 Z Z Z bc) 6 3 Z Z Z) 5 6 Z Z Z).sn a6) 5 7 Z Z Z bi) 5 6 Z Z Z bj) 5 7 Z Z Z) 5 6 Z Z Z) 5 0 Z Z Z) 4 2 Z Z Z) bz);have fh := (bx.sp (bw.sd (bv.sd (bl.sd (bu.sd (bt.sw (a2.sw ((cf.sd (ce.sd ez 1 3 Z Z Z) 1 6 Z Z Z).sn a6) 1 7 Z Z Z bi) 1 6 Z Z Z bj) 1 7 Z Z Z) 1 6 Z Z Z) 1 0 Z Z Z) 0 2 Z Z Z) bz);have fi := (bx.sp (bw.sd (bv.sd (bl.sd (bu.sd (bt.sw (a2.sw ((cf.sd (ce.sd (bb.sw ((ah.sw (ct.so _ ag (Xi a0)) 2 0 Z Z Z ai).sn a5) 2 1 Z Z Z bc) 2 3 Z Z Z) 2 6 Z Z Z).sn a6) 2 7 Z Z Z bi) 2 6 Z Z Z bj) 2 7 Z Z Z) 2 6 Z Z Z) 2 0 Z Z Z) 1 2 Z Z Z) bz);exact ⟨[.agg #[G ab aj ak, G ac al am], .agg #[G aa ae af, G ad ao ap]], ⟨_, _, Z, fd.1.res Z ag26 sz26, ⟨_, _, Z, fe.1.res Z ag26 sz26, Z⟩⟩, r, (⟨(r2.Commits.set (0 : Int).toNat (⟨(nth r2.Commits 0).Up, (nth r2.Commits 0).Sheet, (((nth r2.Commits 0).Note) ++ ([97] : Str))⟩ : Commit)), r2.Heads⟩ : Repo), ab, aj, ak, ac, al, am, aa, ae, af, ad, ao, ap, Z, H, cz.gr.g0, cz.ok, cz.ge, ff, fg, fh, fi⟩
  have H := Xo H cv;refine Xz (Xc ?_);have cg := au.drop 3 Z;have fj := cg.drop 6 Z;refine Yt 4 [some b7, some a1] RK Z fun hg a7 c0 => ?_;have a3 := fj.k0 a7;have fk := ((ah.bm ((an.bm (cq.k0 aq) 1 0 Z Z Z ar).k0 ag) 4 0 Z Z Z ai).k0 a7);refine Xl 0 Z RK c0 (Za ag26 sz26 cR (Ad ba 0) [G ab aj ak, G ac al am] Z Z (fk.cells (off := 0) Z) (nm_cons (bx_ne a3 (j := 3) (i := 7) Z Z RD) (nm_cons (bx_ne a3 (j := 3) (i := 6) Z Z RD) nm_nil))) ?_;have fl := (cu.k0 a7);refine Xl 1 Z RK c0 (Za ag26 sz26 cR (Ad aw 0) [G aa ae af, G ad ao ap] Z Z (fl.cells (off := 0) Z) (nm_cons (bx_ne a3 (j := 0) (i := 7) Z Z RD) (nm_cons (bx_ne a3 (j := 0) (i := 6) Z Z RD) nm_nil))) ?_;refine Xm 2 RK Z ?_;have fm := ((ah.bm ((an.bm ((ay.bm ((a9.bm ((cl.k0 ci).k0 bd) 2 0 Z Z Z be).k0 ax) 5 0 Z Z Z az).k0 aq) 6 0 Z Z Z ar).k0 ag) 9 0 Z Z Z ai).k0 a7);refine Xt [G ab aj ak, G ac al am] fm Z Z sz26 Z Z fun hh bn fn => ?_;have b0 := a3.wr 7 Z bn;have dn := Gm.tq c0 bn (hv_mem 0 Z);refine Xb ⟨dn, ?_⟩;refine Xm 3 RK Z ?_;have fo := (a3.bm ((ah.bm ((an.bm ((ay.bm ((a9.bm (cm.k0 bd) 1 0 Z Z Z be).k0 ax) 4 0 Z Z Z az).k0 aq) 5 0 Z Z Z ar).k0 ag) 8 0 Z Z Z ai).k0 a7) 6 7 Z Z Z bn);refine Xt [G aa ae af, G ad ao ap] fo Z Z sz26 Z Z fun dp bo fp => ?_;have b1 := b0.wr 6 Z bo;have fq := Gm.tq dn bo (hv_mem 1 Z);refine Xb ⟨fq, ?_⟩;refine X8 RK ?_;refine Xk ?_;have fr := (b0.bm fn 7 6 Z Z Z bo);have fs := b1.bgv fr 7 Z;have bp : Ct [] w0 dp [some aw, bk aa, bk ad, some ba, bk ab, bk ac, some a1] O := b1.drop 7 Z;have ft := fp;have fu := bp.bgv ft 6 Z;have b2 := bp.drop 6 Z;have b3 := b2.drop 0 Z;have b4 : Ct [] w0 dp [bk aa, bk ad, bk ab, bk ac] O := b3.drop 2 Z;have b5 : ([bk aa, bk ad, bk ab, bk ac] : Ob).Perm [bk ab, bk ac, bk aa, bk ad] := RP;have c1 := b4.perm b5;have fv := bp.std 6 Z;have dq := b2.std 0 Z;have dr := b3.std 2 Z;have ds := b4.stp b5;have fw := ((((fs.st fv).st dq).st dr).st ds);have fx := (((fu.st dq).st dr).st ds);have fy := (b4.sp (b3.sd (b2.sd (bp.sd (b1.sd (b0.sw (a3.sw ((cg.sd (au.sd (ah.sw ((an.sow ((ay.sw (co.so _ ax (Xi bf)) 1 0 Z Z Z az).sos aq bg) 2 0 Z Z Z ar bh).so _ ag (Xi a0)) 5 0 Z Z Z ai) 5 3 Z Z Z) 4 6 Z Z Z).sn a7) 4 7 Z Z Z bn) 4 6 Z Z Z bo) 4 7 Z Z Z) 4 6 Z Z Z) 4 0 Z Z Z) 3 2 Z Z Z) b5);have fz := (b4.sp (b3.sd (b2.sd (bp.sd (b1.sd (b0.sw (a3.sw ((cg.sd (au.sd (ah.sw ((an.sow ((ay.sw (cp.so _ ax (Xi bf)) 2 0 Z Z Z az).sos aq bg) 3 0 Z Z Z ar bh).so _ ag (Xi a0)) 6 0 Z Z Z ai) 6 3 Z Z Z) 5 6 Z Z Z).sn a7) 5 7 Z Z Z bn) 5 6 Z Z Z bo) 5 7 Z Z Z) 5 6 Z Z Z) 5 0 Z Z Z) 4 2 Z Z Z) b5);have f0 := (b4.sp (b3.sd (b2.sd (bp.sd (b1.sd (b0.sw (a3.sw ((cg.sd (au.sd (ah.sw (cs.so _ ag (Xi a0)) 1 0 Z Z Z ai) 1 3 Z Z Z) 1 6 Z Z Z).sn a7) 1 7 Z Z Z bn) 1 6 Z Z Z bo) 1 7 Z Z Z) 1 6 Z Z Z) 1 0 Z Z Z) 0 2 Z Z Z) b5);have f1 := (b4.sp (b3.sd (b2.sd (bp.sd (b1.sd (b0.sw (a3.sw ((cg.sd (au.sd (ah.sw (ct.so _ ag (Xi a0)) 2 0 Z Z Z ai) 2 3 Z Z Z) 2 6 Z Z Z).sn a7) 2 7 Z Z Z bn) 2 6 Z Z Z bo) 2 7 Z Z Z) 2 6 Z Z Z) 2 0 Z Z Z) 1 2 Z Z Z) b5);exact ⟨[.agg #[G ab aj ak, G ac al am], .agg #[G aa ae af, G ad ao ap]], ⟨_, _, Z, fw.1.res Z ag26 sz26, ⟨_, _, Z, fx.1.res Z ag26 sz26, Z⟩⟩, r, r2, ab, aj, ak, ac, al, am, aa, ae, af, ad, ao, ap, Z, H, c1.gr.g0, c1.ok, c1.ge, fy, fz, f0, f1⟩
 have H := Xo H av;refine Xq av Z (Xq av Z (Xq av Z (Xq av Z (Xq av Z (Xa (X2 false (vb false) av Z) (Xb (Ze (b := false) Z Z ?_)))))));refine Xz (Xc ?_);have ch := au.drop 3 Z;have f2 := ch.drop 6 Z;refine Yt 4 [some b7, some a1] RK Z fun hi a8 c2 => ?_;have a4 := f2.k0 a8;have f3 := ((ah.bm ((an.bm (cq.k0 aq) 1 0 Z Z Z ar).k0 ag) 4 0 Z Z Z ai).k0 a8);refine Xl 0 Z RK c2 (Za ag26 sz26 cR (Ad ba 0) [G ab aj ak, G ac al am] Z Z (f3.cells (off := 0) Z) (nm_cons (bx_ne a4 (j := 3) (i := 7) Z Z RD) (nm_cons (bx_ne a4 (j := 3) (i := 6) Z Z RD) nm_nil))) ?_;have f4 := (cu.k0 a8);refine Xl 1 Z RK c2 (Za ag26 sz26 cR (Ad aw 0) [G aa ae af, G ad ao ap] Z Z (f4.cells (off := 0) Z) (nm_cons (bx_ne a4 (j := 0) (i := 7) Z Z RD) (nm_cons (bx_ne a4 (j := 0) (i := 6) Z Z RD) nm_nil))) ?_;refine Xm 2 RK Z ?_;have f5 := ((ah.bm ((an.bm ((ay.bm ((a9.bm ((cl.k0 ci).k0 bd) 2 0 Z Z Z be).k0 ax) 5 0 Z Z Z az).k0 aq) 6 0 Z Z Z ar).k0 ag) 9 0 Z Z Z ai).k0 a8);refine Xt [G ab aj ak, G ac al am] f5 Z Z sz26 Z Z fun hj bq f6 => ?_;have b6 := a4.wr 7 Z bq;have dt := Gm.tq c2 bq (hv_mem 0 Z);refine Xb ⟨dt, ?_⟩;refine Xm 3 RK Z ?_;have f7 := (a4.bm ((ah.bm ((an.bm ((ay.bm ((a9.bm (cm.k0 bd) 1 0 Z Z Z be).k0 ax) 4 0 Z Z Z az).k0 aq) 5 0 Z Z Z ar).k0 ag) 8 0 Z Z Z ai).k0 a8) 6 7 Z Z Z bq);refine Xt [G aa ae af, G ad ao ap] f7 Z Z sz26 Z Z fun du br f8 => ?_;have b8 := b6.wr 6 Z br;have f9 := Gm.tq dt br (hv_mem 1 Z);refine Xb ⟨f9, ?_⟩;refine X8 RK ?_;refine Xk ?_;have ga := (b6.bm f6 7 6 Z Z Z br);have gb := b8.bgv ga 7 Z;have bs : Ct [] w0 du [some aw, bk aa, bk ad, some ba, bk ab, bk ac, some a1] O := b8.drop 7 Z;have gc := f8;have gd := bs.bgv gc 6 Z;have b9 := bs.drop 6 Z;have ca := b9.drop 0 Z;have cb : Ct [] w0 du [bk aa, bk ad, bk ab, bk ac] O := ca.drop 2 Z;have cc : ([bk aa, bk ad, bk ab, bk ac] : Ob).Perm [bk ab, bk ac, bk aa, bk ad] := RP;have c4 := cb.perm cc;have gf := bs.std 6 Z;have dv := b9.std 0 Z;have dw := ca.std 2 Z;have dx := cb.stp cc;have gg := ((((gb.st gf).st dv).st dw).st dx);have gh := (((gd.st dv).st dw).st dx);have gi := (cb.sp (ca.sd (b9.sd (bs.sd (b8.sd (b6.sw (a4.sw ((ch.sd (au.sd (ah.sw ((an.sow ((ay.sw (co.so _ ax (Xi bf)) 1 0 Z Z Z az).sos aq bg) 2 0 Z Z Z ar bh).so _ ag (Xi a0)) 5 0 Z Z Z ai) 5 3 Z Z Z) 4 6 Z Z Z).sn a8) 4 7 Z Z Z bq) 4 6 Z Z Z br) 4 7 Z Z Z) 4 6 Z Z Z) 4 0 Z Z Z) 3 2 Z Z Z) cc);have gj := (cb.sp (ca.sd (b9.sd (bs.sd (b8.sd (b6.sw (a4.sw ((ch.sd (au.sd (ah.sw ((an.sow ((ay.sw (cp.so _ ax (Xi bf)) 2 0 Z Z Z az).sos aq bg) 3 0 Z Z Z ar bh).so _ ag (Xi a0)) 6 0 Z Z Z ai) 6 3 Z Z Z) 5 6 Z Z Z).sn a8) 5 7 Z Z Z bq) 5 6 Z Z Z br) 5 7 Z Z Z) 5 6 Z Z Z) 5 0 Z Z Z) 4 2 Z Z Z) cc);have gk := (cb.sp (ca.sd (b9.sd (bs.sd (b8.sd (b6.sw (a4.sw ((ch.sd (au.sd (ah.sw (cs.so _ ag (Xi a0)) 1 0 Z Z Z ai) 1 3 Z Z Z) 1 6 Z Z Z).sn a8) 1 7 Z Z Z bq) 1 6 Z Z Z br) 1 7 Z Z Z) 1 6 Z Z Z) 1 0 Z Z Z) 0 2 Z Z Z) cc);have gl := (cb.sp (ca.sd (b9.sd (bs.sd (b8.sd (b6.sw (a4.sw ((ch.sd (au.sd (ah.sw (ct.so _ ag (Xi a0)) 2 0 Z Z Z ai) 2 3 Z Z Z) 2 6 Z Z Z).sn a8) 2 7 Z Z Z bq) 2 6 Z Z Z br) 2 7 Z Z Z) 2 6 Z Z Z) 2 0 Z Z Z) 1 2 Z Z Z) cc);exact ⟨[.agg #[G ab aj ak, G ac al am], .agg #[G aa ae af, G ad ao ap]], ⟨_, _, Z, gg.1.res Z ag26 sz26, ⟨_, _, Z, gh.1.res Z ag26 sz26, Z⟩⟩, r, r2, ab, aj, ak, ac, al, am, aa, ae, af, ad, ao, ap, Z, H, c4.gr.g0, c4.ok, c4.ge, gi, gj, gk, gl⟩
def F0.E (s1 s2 : List Commit) (eq : Commit → Commit → Bool) (eq_ok : Commit → Commit → Prop) (Q : Bool → Prop) : Prop :=
 (if (s1.length : Int) != (s2.length : Int) then Q false else (∃ (I36 : Int → Prop) (mu37 : Int → Nat), I36 0 ∧ ∀ (v2 : Int), I36 v2 → (if decide (v2 < (s1.length : Int)) then ((0 : Int) ≤ v2 ∧ v2 < (s1.length : Int)) ∧ ((0 : Int) ≤ v2 ∧ v2 < (s2.length : Int)) ∧ (eq_ok (nth s1 v2) (nth s2 v2)) ∧ (if !(eq (nth s1 v2) (nth s2 v2)) then Q false else (I64 (v2 + 1)) ∧ I36 (v2 + 1) ∧ mu37 (v2 + 1) < mu37 v2) else Q true)))
theorem F0.calls {s1 : List Commit} {A1 : Option Addr} {n2 c3 : Nat} {s2 : List Commit} {A6 : Option Addr} {n7 c8 : Nat} {ao : FuncId} {ap : List Value} {eq : Commit → Commit → Bool} {eq_ok : Commit → Commit → Prop} {Q : Bool → Prop} (H : F0.E s1 s2 eq eq_ok Q) (hO : Ok w0 O) (hp4 : Sl kCommit w0 (Fr O) (G A1 n2 c3) s1) (hp9 : Sl kCommit w0 (Fr O) (G A6 n7 c8) s2) (b3 : Goes Try.prog ao) (b4 : ∀ (w : World) (L : Ob), Ct [] w0 w L O → ∀ (x0_ : Commit) (a9 : Option Addr) (ba bb : Nat) (bc : Option Addr) (bd be : Nat) (c4 : Sl (Kd.int .i64) w (Fr (L ++ O)) (G a9 ba bb) x0_.Up) (c5 : Sl kFeat w (Fr (L ++ O)) (G bc bd be) x0_.Sheet) (c6 : Lim x0_.Note) (x1_ : Commit) (bf : Option Addr) (bg bh : Nat) (bi : Option Addr) (bj bl : Nat) (c7 : Sl (Kd.int .i64) w (Fr (L ++ O)) (G bf bg bh) x1_.Up) (c9 : Sl kFeat w (Fr (L ++ O)) (G bi bj bl) x1_.Sheet) (da : Lim x1_.Note), eq_ok x0_ x1_ → Ret Try.prog ao ([.agg #[G a9 ba bb, G bc bd be, vs x0_.Note], .agg #[G bf bg bh, G bi bj bl, vs x1_.Note]] ++ ap) w (fun v w' => v = vb (eq x0_ x1_) ∧ Gr w w' none)) :
  Ret Try.prog 22 [G A1 n2 c3, G A6 n7 c8, .func (.func ao) #[] ap.toArray] w0 (fun v w' => ∃ (r0 : Bool), v = vb r0 ∧ Q r0 ∧ Gr w0 w' none) := by
 unfold F0.E at H;have hc0 := Ct.init hO;refine X9 Try.func22 Z 32 Z [.tmp 6] Z Z ?_;refine Xc (Xd (Xf (vb false) Z (Xb (Xc (Xc (Xd (Xe (G A1 n2 c3) Z ?_)))))));have db := hp4.le;refine Xa (X3 u23_ A1 n2 c3 hp4.len Z) (Xe (G A6 n7 c8) Z ?_);have dc := hp9.le;refine Xa (X3 u23_ A6 n7 c8 hp9.len Z) (Xa (Xw (s1.length : Int) (s2.length : Int) ((s1.length : Int) != (s2.length : Int)) Z Z Z) (Xb ?_));refine Xu ((s1.length : Int) != (s2.length : Int)) Z (fun ax => ?_) (fun ax => ?_)
 ·have H := Xn H ax;exact Xc (Xd (Xf (vb false) Z (Xb (Xk ⟨[vb false], ⟨_, Z, Z⟩, false, Z, H, hc0.gr.g0⟩))))
 have H := Xo H ax;refine Xz (Xc (Xc (Xd (Xe (G A1 n2 c3) Z (Xa (X3 u23_ A1 n2 c3 hp4.len Z) (Xe (vi 0) Z (Xb (X6 ?_))))))));obtain ⟨b5, b6, ay, H⟩ := H;refine Ym (α := Int) (fun (sv__ : Int) t aq => match sv__ with | v2 => b5 v2 ∧ Has t [(1, G A6 n7 c8), (2, .func (.func ao) #[] ap.toArray), (15, G A1 n2 c3), (16, vi (s1.length : Int)), (17, vi v2)] ∧ Cw [] w0 aq [] O fun M => Sl kCommit aq (Fr M) (G A6 n7 c8) s2 ∧ Sl kCommit aq (Fr M) (G A1 n2 c3) s1) (fun (sv__ : Int) => match sv__ with | v2 => b6 v2) 0 ⟨ay, (Xv Z), hc0, hp9, hp4⟩ ?_;rintro v2 _ aq ⟨ay, b7, az, b8, a0⟩;obtain ⟨dd, rfl⟩ := Has.ins b7;have H := H v2 ay;refine Xc (Xd (Xa (Xw v2 (s1.length : Int) (decide (v2 < (s1.length : Int))) Z Z Z) (Xb (Xc ?_))));refine Xu (decide (v2 < (s1.length : Int))) Z (fun a1 => ?_) (fun a1 => ?_)
 ·have H := Xn H a1;refine Xz (Xc (X6 (Xc (Xd (Xe (vi v2) Z ?_)))));obtain ⟨bn, H⟩ := H;obtain ⟨bo, de, b9, df, ca, cb⟩ := a0.get default RD v2 bn;obtain ⟨aa, ab, ac, ad, ae, af, rfl, cc, cd, ce⟩ := kCommit.op ca;refine Xa (X0 u23_ Y2 A1 bo n2 c3 a0.len v2 Z b9 Z bn) (Xa (Xr ag33 sz33 cL (bo.add (v2.toNat * 3)) [G aa ab ac, G ad ae af, vs ((nth s1 v2).Note)] Z Z cb) (Yf [G none 0 0, G none 0 0, vs []] ze33 fun dg ar bp hu65 bq cf => ?_));have br := az.own bq (some ar) (Yd bp hu65);refine Xf (vi v2) Z (Xt [G aa ab ac, G ad ae af, vs ((nth s1 v2).Note)] cf Z Z sz33 Z Z fun dh bs cg => ?_);have bt := br.wr 0 Z bs;refine Xb (Xc (Xd (Xe (G A6 n7 c8) Z (Xe (vi v2) Z ?_))));obtain ⟨bu, H⟩ := H;have au := az.stown _ bq (Xi bp);have av := br.stw 0 Z bs;have a2 := ((b8.st au).st av);obtain ⟨bv, di, ch, dj, ci, cj⟩ := a2.get default RD v2 bu;obtain ⟨ag, ah, ai, aj, ak, al, rfl, ck, cl, cm⟩ := kCommit.op ci;refine Xa (X0 u23_ Y2 A6 bv n7 c8 a2.len v2 Z ch Z bu) (Xa (Xr ag33 sz33 cL (bv.add (v2.toNat * 3)) [G ag ah ai, G aj ak al, vs ((nth s2 v2).Note)] Z Z cj) (Yf [G none 0 0, G none 0 0, vs []] ze33 fun dk aw bw hu98 a3 cn => ?_));have a4 := bt.own a3 (some aw) (Yd bw hu98);refine Xt [G ag ah ai, G aj ak al, vs ((nth s2 v2).Note)] cn Z Z sz33 Z Z fun co a5 cp => ?_;have a6 := a4.wr 0 Z a5;refine Xb (Xc (Xd (Xe (.func (.func ao) #[] ap.toArray) Z ?_)));have cq := (a4.bm (cg.k0 a3) 1 0 Z Z Z a5);refine Xa (Xr ag33 sz33 cL (Ad ar 0) [G aa ab ac, G ad ae af, vs ((nth s1 v2).Note)] Z Z (cq.cells (off := 00) Z)) (Xa (Xr ag33 sz33 cL (Ad aw 0) [G ag ah ai, G aj ak al, vs ((nth s2 v2).Note)] Z Z (cp.cells (off := 00) Z)) ?_);obtain ⟨cr, H⟩ := H;have am := bt.stown _ a3 (Xi bw);have an := a4.stw 0 Z a5;have cs := ((((cc.st au).st av).st am).st an);have ct := ((((cd.st au).st av).st am).st an);have cu := ((ck.st am).st an);have cv := ((cl.st am).st an);refine Z2 b3 ap Z [.agg #[G aa ab ac, G ad ae af, vs ((nth s1 v2).Note)], .agg #[G ag ah ai, G aj ak al, vs ((nth s2 v2).Note)]] Z ((b4 co [some aw, some ar] a6 (nth s1 v2) aa ab ac ad ae af cs ct ce (nth s2 v2) ag ah ai aj ak al cu cv cm cr).mono ?_);rintro _ dl ⟨rfl, bx⟩;have a7 := a6.k0 bx;refine Xa (Yp (eq (nth s1 v2) (nth s2 v2)) Z) (Xb ?_);refine Xu (!(eq (nth s1 v2) (nth s2 v2))) Z (fun a8 => ?_) (fun a8 => ?_)
  ·have H := Xn H a8;refine Xc (Xd (Xf (vb false) Z (Xb (Xk ?_))));have cw := a7.clear;exact ⟨[vb false], ⟨_, Z, Z⟩, false, Z, H, cw.gr.g0⟩
  have H := Xo H a8;refine Xz (Xd ?_);obtain ⟨cx, H⟩ := H;refine Xa (Yb v2 1 Z Z cx) (Xe (vi (v2 + 1)) Z (Xb ?_));have bz := a7.drop 0 Z;have cy := bz.drop 0 Z;obtain ⟨cz, c0⟩ := H;have b0 := a6.stn bx;have b1 := a7.std 0 Z;have b2 := bz.std 0 Z;have c1 := (((((a2.st am).st an).st b0).st b1).st b2);have c2 := (((((((a0.st au).st av).st am).st an).st b0).st b1).st b2);exact ⟨v2 + 1, c0, cz, (Xv Z), cy, c1, c2⟩
 have H := Xo H a1;refine Yl (xin_hit ?_);exact Xc (Xd (Xf (vb true) Z (Xb (Xk ⟨[vb true], ⟨_, Z, Z⟩, true, Z, H, az.gr.g0⟩))))
def F15.E (s1 s2 : List Int) (Q : Bool → Prop) : Prop :=
 (if (s1.length : Int) != (s2.length : Int) then Q false else (∃ (I32 : Int → Prop) (mu33 : Int → Nat), I32 0 ∧ ∀ (v2 : Int), I32 v2 → (if decide (v2 < (s1.length : Int)) then ((0 : Int) ≤ v2 ∧ v2 < (s1.length : Int)) ∧ ((0 : Int) ≤ v2 ∧ v2 < (s2.length : Int)) ∧ (if (nth s1 v2) != (nth s2 v2) then Q false else (I64 (v2 + 1)) ∧ I32 (v2 + 1) ∧ mu33 (v2 + 1) < mu33 v2) else Q true)))
theorem F15.calls {s1 : List Int} {A1 : Option Addr} {n2 c3 : Nat} {s2 : List Int} {A6 : Option Addr} {n7 c8 : Nat} {Q : Bool → Prop} (H : F15.E s1 s2 Q) (hO : Ok w0 O) (hp4 : Sl (Kd.int .i64) w0 (Fr O) (G A1 n2 c3) s1) (hp9 : Sl (Kd.int .i64) w0 (Fr O) (G A6 n7 c8) s2) :
  Ret Try.prog 44 [G A1 n2 c3, G A6 n7 c8] w0 (fun v w' => ∃ (r0 : Bool), v = vb r0 ∧ Q r0 ∧ Gr w0 w' none) := by
 unfold F15.E at H;have hc0 := Ct.init hO;refine X9 Try.func44 Z 26 Z [.tmp 4] Z Z ?_;refine Xc (Xd (Xf (vb false) Z (Xb (Xc (Xc (Xd (Xe (G A1 n2 c3) Z ?_)))))));have a3 := hp4.le;refine Xa (X3 u30_ A1 n2 c3 hp4.len Z) (Xe (G A6 n7 c8) Z ?_);have a4 := hp9.le;refine Xa (X3 u30_ A6 n7 c8 hp9.len Z) (Xa (Xw (s1.length : Int) (s2.length : Int) ((s1.length : Int) != (s2.length : Int)) Z Z Z) (Xb ?_));refine Xu ((s1.length : Int) != (s2.length : Int)) Z (fun ab => ?_) (fun ab => ?_)
 ·have H := Xn H ab;exact Xc (Xd (Xf (vb false) Z (Xb (Xk ⟨[vb false], ⟨_, Z, Z⟩, false, Z, H, hc0.gr.g0⟩))))
 have H := Xo H ab;refine Xz (Xc (Xc (Xd (Xe (G A1 n2 c3) Z (Xa (X3 u30_ A1 n2 c3 hp4.len Z) (Xe (vi 0) Z (Xb (X6 ?_))))))));obtain ⟨ap, aq, ac, H⟩ := H;refine Ym (α := Int) (fun (sv__ : Int) t aa => match sv__ with | v2 => ap v2 ∧ Has t [(0, G A1 n2 c3), (1, G A6 n7 c8), (12, vi (s1.length : Int)), (13, vi v2)] ∧ Cw [] w0 aa [] O fun M => Sl (Kd.int .i64) aa (Fr M) (G A1 n2 c3) s1 ∧ Sl (Kd.int .i64) aa (Fr M) (G A6 n7 c8) s2) (fun (sv__ : Int) => match sv__ with | v2 => aq v2) 0 ⟨ac, (Xv Z), hc0, hp4, hp9⟩ ?_;rintro v2 _ aa ⟨ac, ar, ad, ae, af⟩;obtain ⟨a5, rfl⟩ := Has.ins ar;have H := H v2 ac;refine Xc (Xd (Xa (Xw v2 (s1.length : Int) (decide (v2 < (s1.length : Int))) Z Z Z) (Xb (Xc ?_))));refine Xu (decide (v2 < (s1.length : Int))) Z (fun ag => ?_) (fun ag => ?_)
 ·have H := Xn H ag;refine Xz (Xc (X6 (Xc (Xd (Xe (vi v2) Z (Xf (vi v2) Z (Xb (Xc ?_))))))));refine Yx (fun x => Gr aa x none) RK RK (Gr.drew _) ?_;refine X1 (G A1 n2 c3) Z (X1 (vi v2) Z ?_);obtain ⟨ai, H⟩ := H;obtain ⟨aj, a6, au, a7, av, aw⟩ := ae.get default RD v2 ai;obtain rfl := Kd.int.op av;refine Xh (X0 u30_ Zg A1 aj n2 c3 ae.len v2 Z au Z ai) (Xh (Xj ag3 cQ (aj.add (v2.toNat * 1)) (vi (nth s1 v2)) Z (aw 0 _ Z)) (X1 (G A6 n7 c8) Z (X1 (vi v2) Z ?_)));obtain ⟨ak, H⟩ := H;obtain ⟨al, a8, ax, a9, ay, az⟩ := af.get default RD v2 ak;obtain rfl := Kd.int.op ay;refine Xh (X0 u30_ Zg A6 al n7 c8 af.len v2 Z ax Z ak) (Xh (Xj ag3 cQ (al.add (v2.toNat * 1)) (vi (nth s2 v2)) Z (az 0 _ Z)) (Xh (Xw (nth s1 v2) (nth s2 v2) ((nth s1 v2) != (nth s2 v2)) Z Z Z) (Yh fun ba am => ?_)));have an := ad.k0 am;refine Xu ((nth s1 v2) != (nth s2 v2)) Z (fun ah => ?_) (fun ah => ?_)
  ·have H := Xn H ah;exact Xc (Xd (Xf (vb false) Z (Xb (Xk ⟨[vb false], ⟨_, Z, Z⟩, false, Z, H, an.gr.g0⟩))))
  have H := Xo H ah;refine Xz (Xd ?_);obtain ⟨a0, H⟩ := H;refine Xa (Yb v2 1 Z Z a0) (Xe (vi (v2 + 1)) Z (Xb ?_));obtain ⟨a1, a2⟩ := H;have ao := ad.stn am;exact ⟨v2 + 1, a2, a1, (Xv Z), an, (ae.st ao), (af.st ao)⟩
 have H := Xo H ag;refine Yl (xin_hit ?_);exact Xc (Xd (Xf (vb true) Z (Xb (Xk ⟨[vb true], ⟨_, Z, Z⟩, true, Z, H, ad.gr.g0⟩))))
def F3.E (s1 s2 : List Feat) (eq : Feat → Feat → Bool) (eq_ok : Feat → Feat → Prop) (Q : Bool → Prop) : Prop :=
 (if (s1.length : Int) != (s2.length : Int) then Q false else (∃ (I36 : Int → Prop) (mu37 : Int → Nat), I36 0 ∧ ∀ (v2 : Int), I36 v2 → (if decide (v2 < (s1.length : Int)) then ((0 : Int) ≤ v2 ∧ v2 < (s1.length : Int)) ∧ ((0 : Int) ≤ v2 ∧ v2 < (s2.length : Int)) ∧ (eq_ok (nth s1 v2) (nth s2 v2)) ∧ (if !(eq (nth s1 v2) (nth s2 v2)) then Q false else (I64 (v2 + 1)) ∧ I36 (v2 + 1) ∧ mu37 (v2 + 1) < mu37 v2) else Q true)))
theorem F3.calls {s1 : List Feat} {A1 : Option Addr} {n2 c3 : Nat} {s2 : List Feat} {A6 : Option Addr} {n7 c8 : Nat} {ao : FuncId} {ap : List Value} {eq : Feat → Feat → Bool} {eq_ok : Feat → Feat → Prop} {Q : Bool → Prop} (H : F3.E s1 s2 eq eq_ok Q) (hO : Ok w0 O) (hp4 : Sl kFeat w0 (Fr O) (G A1 n2 c3) s1) (hp9 : Sl kFeat w0 (Fr O) (G A6 n7 c8) s2) (b3 : Goes Try.prog ao) (b4 : ∀ (w : World) (L : Ob), Ct [] w0 w L O → ∀ (x0_ : Feat) (a9 : Option Addr) (ba bb : Nat) (bc : Option Addr) (bd be : Nat) (c4 : Lim x0_.Id) (c5 : Sl kPt w (Fr (L ++ O)) (G a9 ba bb) x0_.Shape.Pts) (c6 : Sl kTag w (Fr (L ++ O)) (G bc bd be) x0_.Tags) (x1_ : Feat) (bf : Option Addr) (bg bh : Nat) (bi : Option Addr) (bj bl : Nat) (c7 : Lim x1_.Id) (c9 : Sl kPt w (Fr (L ++ O)) (G bf bg bh) x1_.Shape.Pts) (da : Sl kTag w (Fr (L ++ O)) (G bi bj bl) x1_.Tags), eq_ok x0_ x1_ → Ret Try.prog ao ([.agg #[vs x0_.Id, vi x0_.Shape.Kind, G a9 ba bb, G bc bd be], .agg #[vs x1_.Id, vi x1_.Shape.Kind, G bf bg bh, G bi bj bl]] ++ ap) w (fun v w' => v = vb (eq x0_ x1_) ∧ Gr w w' none)) :
  Ret Try.prog 61 [G A1 n2 c3, G A6 n7 c8, .func (.func ao) #[] ap.toArray] w0 (fun v w' => ∃ (r0 : Bool), v = vb r0 ∧ Q r0 ∧ Gr w0 w' none) := by
 unfold F3.E at H;have hc0 := Ct.init hO;refine X9 Try.func61 Z 32 Z [.tmp 6] Z Z ?_;refine Xc (Xd (Xf (vb false) Z (Xb (Xc (Xc (Xd (Xe (G A1 n2 c3) Z ?_)))))));have db := hp4.le;refine Xa (X3 u31_ A1 n2 c3 hp4.len Z) (Xe (G A6 n7 c8) Z ?_);have dc := hp9.le;refine Xa (X3 u31_ A6 n7 c8 hp9.len Z) (Xa (Xw (s1.length : Int) (s2.length : Int) ((s1.length : Int) != (s2.length : Int)) Z Z Z) (Xb ?_));refine Xu ((s1.length : Int) != (s2.length : Int)) Z (fun ax => ?_) (fun ax => ?_)
 ·have H := Xn H ax;exact Xc (Xd (Xf (vb false) Z (Xb (Xk ⟨[vb false], ⟨_, Z, Z⟩, false, Z, H, hc0.gr.g0⟩))))
 have H := Xo H ax;refine Xz (Xc (Xc (Xd (Xe (G A1 n2 c3) Z (Xa (X3 u31_ A1 n2 c3 hp4.len Z) (Xe (vi 0) Z (Xb (X6 ?_))))))));obtain ⟨b5, b6, ay, H⟩ := H;refine Ym (α := Int) (fun (sv__ : Int) t aq => match sv__ with | v2 => b5 v2 ∧ Has t [(1, G A6 n7 c8), (2, .func (.func ao) #[] ap.toArray), (15, G A1 n2 c3), (16, vi (s1.length : Int)), (17, vi v2)] ∧ Cw [] w0 aq [] O fun M => Sl kFeat aq (Fr M) (G A6 n7 c8) s2 ∧ Sl kFeat aq (Fr M) (G A1 n2 c3) s1) (fun (sv__ : Int) => match sv__ with | v2 => b6 v2) 0 ⟨ay, (Xv Z), hc0, hp9, hp4⟩ ?_;rintro v2 _ aq ⟨ay, b7, az, b8, a0⟩;obtain ⟨dd, rfl⟩ := Has.ins b7;have H := H v2 ay;refine Xc (Xd (Xa (Xw v2 (s1.length : Int) (decide (v2 < (s1.length : Int))) Z Z Z) (Xb (Xc ?_))));refine Xu (decide (v2 < (s1.length : Int))) Z (fun a1 => ?_) (fun a1 => ?_)
 ·have H := Xn H a1;refine Xz (Xc (X6 (Xc (Xd (Xe (vi v2) Z ?_)))));obtain ⟨bn, H⟩ := H;obtain ⟨bo, de, b9, df, ca, cb⟩ := a0.get default RD v2 bn;obtain ⟨aa, ab, ac, ad, ae, af, rfl, cc, cd, ce⟩ := kFeat.op ca;refine Xa (X0 u31_ Y3 A1 bo n2 c3 a0.len v2 Z b9 Z bn) (Xa (Xr ag80 sz80 cL (bo.add (v2.toNat * 4)) [vs ((nth s1 v2).Id), vi ((nth s1 v2).Shape.Kind), G aa ab ac, G ad ae af] Z Z cb) (Yf [vs [], .int .i64 0, G none 0 0, G none 0 0] ze80 fun dg ar bp hu65 bq cf => ?_));have br := az.own bq (some ar) (Yd bp hu65);refine Xf (vi v2) Z (Xt [vs ((nth s1 v2).Id), vi ((nth s1 v2).Shape.Kind), G aa ab ac, G ad ae af] cf Z Z sz80 Z Z fun dh bs cg => ?_);have bt := br.wr 0 Z bs;refine Xb (Xc (Xd (Xe (G A6 n7 c8) Z (Xe (vi v2) Z ?_))));obtain ⟨bu, H⟩ := H;have au := az.stown _ bq (Xi bp);have av := br.stw 0 Z bs;have a2 := ((b8.st au).st av);obtain ⟨bv, di, ch, dj, ci, cj⟩ := a2.get default RD v2 bu;obtain ⟨ag, ah, ai, aj, ak, al, rfl, ck, cl, cm⟩ := kFeat.op ci;refine Xa (X0 u31_ Y3 A6 bv n7 c8 a2.len v2 Z ch Z bu) (Xa (Xr ag80 sz80 cL (bv.add (v2.toNat * 4)) [vs ((nth s2 v2).Id), vi ((nth s2 v2).Shape.Kind), G ag ah ai, G aj ak al] Z Z cj) (Yf [vs [], .int .i64 0, G none 0 0, G none 0 0] ze80 fun dk aw bw hu98 a3 cn => ?_));have a4 := bt.own a3 (some aw) (Yd bw hu98);refine Xt [vs ((nth s2 v2).Id), vi ((nth s2 v2).Shape.Kind), G ag ah ai, G aj ak al] cn Z Z sz80 Z Z fun co a5 cp => ?_;have a6 := a4.wr 0 Z a5;refine Xb (Xc (Xd (Xe (.func (.func ao) #[] ap.toArray) Z ?_)));have cq := (a4.bm (cg.k0 a3) 1 0 Z Z Z a5);refine Xa (Xr ag80 sz80 cL (Ad ar 0) [vs ((nth s1 v2).Id), vi ((nth s1 v2).Shape.Kind), G aa ab ac, G ad ae af] Z Z (cq.cells (off := 00) Z)) (Xa (Xr ag80 sz80 cL (Ad aw 0) [vs ((nth s2 v2).Id), vi ((nth s2 v2).Shape.Kind), G ag ah ai, G aj ak al] Z Z (cp.cells (off := 00) Z)) ?_);obtain ⟨cr, H⟩ := H;have am := bt.stown _ a3 (Xi bw);have an := a4.stw 0 Z a5;have cs := ((((cd.st au).st av).st am).st an);have ct := ((((ce.st au).st av).st am).st an);have cu := ((cl.st am).st an);have cv := ((cm.st am).st an);refine Z2 b3 ap Z [.agg #[vs ((nth s1 v2).Id), vi ((nth s1 v2).Shape.Kind), G aa ab ac, G ad ae af], .agg #[vs ((nth s2 v2).Id), vi ((nth s2 v2).Shape.Kind), G ag ah ai, G aj ak al]] Z ((b4 co [some aw, some ar] a6 (nth s1 v2) aa ab ac ad ae af cc cs ct (nth s2 v2) ag ah ai aj ak al ck cu cv cr).mono ?_);rintro _ dl ⟨rfl, bx⟩;have a7 := a6.k0 bx;refine Xa (Yp (eq (nth s1 v2) (nth s2 v2)) Z) (Xb ?_);refine Xu (!(eq (nth s1 v2) (nth s2 v2))) Z (fun a8 => ?_) (fun a8 => ?_)
  ·have H := Xn H a8;refine Xc (Xd (Xf (vb false) Z (Xb (Xk ?_))));have cw := a7.clear;exact ⟨[vb false], ⟨_, Z, Z⟩, false, Z, H, cw.gr.g0⟩
  have H := Xo H a8;refine Xz (Xd ?_);obtain ⟨cx, H⟩ := H;refine Xa (Yb v2 1 Z Z cx) (Xe (vi (v2 + 1)) Z (Xb ?_));have bz := a7.drop 0 Z;have cy := bz.drop 0 Z;obtain ⟨cz, c0⟩ := H;have b0 := a6.stn bx;have b1 := a7.std 0 Z;have b2 := bz.std 0 Z;have c1 := (((((a2.st am).st an).st b0).st b1).st b2);have c2 := (((((((a0.st au).st av).st am).st an).st b0).st b1).st b2);exact ⟨v2 + 1, c0, cz, (Xv Z), cy, c1, c2⟩
 have H := Xo H a1;refine Yl (xin_hit ?_);exact Xc (Xd (Xf (vb true) Z (Xb (Xk ⟨[vb true], ⟨_, Z, Z⟩, true, Z, H, az.gr.g0⟩))))
def F25.E (s1 s2 : List Pt) (Q : Bool → Prop) : Prop :=
 (if (s1.length : Int) != (s2.length : Int) then Q false else (∃ (I32 : Int → Prop) (mu33 : Int → Nat), I32 0 ∧ ∀ (v2 : Int), I32 v2 → (if decide (v2 < (s1.length : Int)) then ((0 : Int) ≤ v2 ∧ v2 < (s1.length : Int)) ∧ ((0 : Int) ≤ v2 ∧ v2 < (s2.length : Int)) ∧ (if !(eqPt (nth s1 v2) (nth s2 v2)) then Q false else (I64 (v2 + 1)) ∧ I32 (v2 + 1) ∧ mu33 (v2 + 1) < mu33 v2) else Q true)))
theorem F25.calls {s1 : List Pt} {A1 : Option Addr} {n2 c3 : Nat} {s2 : List Pt} {A6 : Option Addr} {n7 c8 : Nat} {Q : Bool → Prop} (H : F25.E s1 s2 Q) (hO : Ok w0 O) (hp4 : Sl kPt w0 (Fr O) (G A1 n2 c3) s1) (hp9 : Sl kPt w0 (Fr O) (G A6 n7 c8) s2) :
  Ret Try.prog 97 [G A1 n2 c3, G A6 n7 c8] w0 (fun v w' => ∃ (r0 : Bool), v = vb r0 ∧ Q r0 ∧ Gr w0 w' none) := by
 unfold F25.E at H;have hc0 := Ct.init hO;refine X9 Try.func97 Z 26 Z [.tmp 4] Z Z ?_;refine Xc (Xd (Xf (vb false) Z (Xb (Xc (Xc (Xd (Xe (G A1 n2 c3) Z ?_)))))));have a3 := hp4.le;refine Xa (X3 u75_ A1 n2 c3 hp4.len Z) (Xe (G A6 n7 c8) Z ?_);have a4 := hp9.le;refine Xa (X3 u75_ A6 n7 c8 hp9.len Z) (Xa (Xw (s1.length : Int) (s2.length : Int) ((s1.length : Int) != (s2.length : Int)) Z Z Z) (Xb ?_));refine Xu ((s1.length : Int) != (s2.length : Int)) Z (fun ab => ?_) (fun ab => ?_)
 ·have H := Xn H ab;exact Xc (Xd (Xf (vb false) Z (Xb (Xk ⟨[vb false], ⟨_, Z, Z⟩, false, Z, H, hc0.gr.g0⟩))))
 have H := Xo H ab;refine Xz (Xc (Xc (Xd (Xe (G A1 n2 c3) Z (Xa (X3 u75_ A1 n2 c3 hp4.len Z) (Xe (vi 0) Z (Xb (X6 ?_))))))));obtain ⟨ap, aq, ac, H⟩ := H;refine Ym (α := Int) (fun (sv__ : Int) t aa => match sv__ with | v2 => ap v2 ∧ Has t [(0, G A1 n2 c3), (1, G A6 n7 c8), (12, vi (s1.length : Int)), (13, vi v2)] ∧ Cw [] w0 aa [] O fun M => Sl kPt aa (Fr M) (G A1 n2 c3) s1 ∧ Sl kPt aa (Fr M) (G A6 n7 c8) s2) (fun (sv__ : Int) => match sv__ with | v2 => aq v2) 0 ⟨ac, (Xv Z), hc0, hp4, hp9⟩ ?_;rintro v2 _ aa ⟨ac, ar, ad, ae, af⟩;obtain ⟨a5, rfl⟩ := Has.ins ar;have H := H v2 ac;refine Xc (Xd (Xa (Xw v2 (s1.length : Int) (decide (v2 < (s1.length : Int))) Z Z Z) (Xb (Xc ?_))));refine Xu (decide (v2 < (s1.length : Int))) Z (fun ag => ?_) (fun ag => ?_)
 ·have H := Xn H ag;refine Xz (Xc (X6 (Xc (Xd (Xe (vi v2) Z (Xf (vi v2) Z (Xb (Xc ?_))))))));refine Yx (fun x => Gr aa x none) RK RK (Gr.drew _) ?_;refine X1 (G A1 n2 c3) Z (X1 (vi v2) Z ?_);obtain ⟨ai, H⟩ := H;obtain ⟨aj, a6, au, a7, av, aw⟩ := ae.get default RD v2 ai;obtain rfl := kPt.op av;refine Xh (X0 u75_ Yw A1 aj n2 c3 ae.len v2 Z au Z ai) (Xh (Xr ag88 sz88 cQ (aj.add (v2.toNat * 2)) [vi ((nth s1 v2).X), vi ((nth s1 v2).Y)] Z Z aw) (X1 (G A6 n7 c8) Z (X1 (vi v2) Z ?_)));obtain ⟨ak, H⟩ := H;obtain ⟨al, a8, ax, a9, ay, az⟩ := af.get default RD v2 ak;obtain rfl := kPt.op ay;refine Xh (X0 u75_ Yw A6 al n7 c8 af.len v2 Z ax Z ak) (Xh (Xr ag88 sz88 cQ (al.add (v2.toNat * 2)) [vi ((nth s2 v2).X), vi ((nth s2 v2).Y)] Z Z az) (Xh (Zf _ _ (eqPt (nth s1 v2) (nth s2 v2)) (qt88 (nth s1 v2) (nth s2 v2)) Z Z) (Yh fun ba am => ?_)));have an := ad.k0 am;refine Xu (!(eqPt (nth s1 v2) (nth s2 v2))) Z (fun ah => ?_) (fun ah => ?_)
  ·have H := Xn H ah;exact Xc (Xd (Xf (vb false) Z (Xb (Xk ⟨[vb false], ⟨_, Z, Z⟩, false, Z, H, an.gr.g0⟩))))
  have H := Xo H ah;refine Xz (Xd ?_);obtain ⟨a0, H⟩ := H;refine Xa (Yb v2 1 Z Z a0) (Xe (vi (v2 + 1)) Z (Xb ?_));obtain ⟨a1, a2⟩ := H;have ao := ad.stn am;exact ⟨v2 + 1, a2, a1, (Xv Z), an, (ae.st ao), (af.st ao)⟩
 have H := Xo H ag;refine Yl (xin_hit ?_);exact Xc (Xd (Xf (vb true) Z (Xb (Xk ⟨[vb true], ⟨_, Z, Z⟩, true, Z, H, ad.gr.g0⟩))))
def F31.E (a b : Shape) (Q : Bool → Prop) : Prop :=
 (if a.Kind == b.Kind then F25.E a.Pts b.Pts (fun r => Q r) else Q false)
theorem F31.calls {a : Shape} {A1 : Option Addr} {n2 c3 : Nat} {b : Shape} {A6 : Option Addr} {n7 c8 : Nat} {Q : Bool → Prop} (H : F31.E a b Q) (hO : Ok w0 O) (hp4 : Sl kPt w0 (Fr O) (G A1 n2 c3) a.Pts) (hp9 : Sl kPt w0 (Fr O) (G A6 n7 c8) b.Pts) :
  Ret Try.prog 82 [.agg #[vi a.Kind, G A1 n2 c3], .agg #[vi b.Kind, G A6 n7 c8]] w0 (fun v w' => ∃ (r0 : Bool), v = vb r0 ∧ Q r0 ∧ Gr w0 w' none) := by
 unfold F31.E at H;have hc0 := Ct.init hO;refine X9 Try.func82 Z 17 Z [.tmp 4] Z Z ?_;refine Xc (Xd (Yi [vi a.Kind, G A1 n2 c3] Z fun au ab ai hu15 aj ak => ?_));have al := Fb.mk hc0.ok ai ak;have ae := hc0.k0 aj;refine Yi [vi b.Kind, G A6 n7 c8] Z fun am ac an hu24 af ao => ?_;have ag := Fb.mk ae.ok an ao;have ad := ae.k0 af;refine Xf (vb false) Z (Xb (Xc (Xd (Xa (Xg fa77_0 (Ad ab 0) (Ad ab 0) Z Z) ?_))));have ap := ae.stn af;have ah := (al.st ap);refine Xa (Xj ag3 cL (Ad ab 0) (vi a.Kind) Z (ah.cell Z)) (Xa (Xg fa77_0 (Ad ac 0) (Ad ac 0) Z Z) (Xa (Xj ag3 cL (Ad ac 0) (vi b.Kind) Z (ag.cell Z)) (Xa (Xw a.Kind b.Kind (a.Kind == b.Kind) Z Z Z) (Xe (vb (a.Kind == b.Kind)) Z ?_))));rcases Yc (a.Kind == b.Kind) with aa | aa
 ·have H := Xn H aa;refine Xp aa Z (Xa (Xg fa77_1 (Ad ab 0) (Ad ab 1) Z Z) (Xp aa Z (Xa (Xj ag75 cL (Ad ab 1) (G A1 n2 c3) Z (ah.cell Z)) (Xp aa Z (Xa (Xg fa77_1 (Ad ac 0) (Ad ac 1) Z Z) (Xp aa Z (Xa (Xj ag75 cL (Ad ac 1) (G A6 n7 c8) Z (ag.cell Z)) (Xp aa Z ?_))))))));refine Xs go97 (F25.calls H ad.ok (hp4.st ad.st) (hp9.st ad.st)) Z ?_;rintro _ av ⟨r, rfl, H, aq⟩;have ar := ad.k0 aq;exact Xa (X2 true (vb r) aa Z) (Xf (vb r) Z (Xb (Xk ⟨[vb r], ⟨_, Z, Z⟩, r, Z, H, ar.gr.g0⟩)))
 have H := Xo H aa;refine Xq aa Z (Xq aa Z (Xq aa Z (Xq aa Z (Xq aa Z (Xa (X2 false (vb false) aa Z) (Xf (vb false) Z (Xb (Xk ?_))))))));exact ⟨[vb false], ⟨_, Z, Z⟩, false, Z, H, ad.gr.g0⟩
def F16.E (s1 s2 : List Tag) (Q : Bool → Prop) : Prop :=
 (if (s1.length : Int) != (s2.length : Int) then Q false else (∃ (I32 : Int → Prop) (mu33 : Int → Nat), I32 0 ∧ ∀ (v2 : Int), I32 v2 → (if decide (v2 < (s1.length : Int)) then ((0 : Int) ≤ v2 ∧ v2 < (s1.length : Int)) ∧ ((0 : Int) ≤ v2 ∧ v2 < (s2.length : Int)) ∧ (if !(eqTag (nth s1 v2) (nth s2 v2)) then Q false else (I64 (v2 + 1)) ∧ I32 (v2 + 1) ∧ mu33 (v2 + 1) < mu33 v2) else Q true)))
theorem F16.calls {s1 : List Tag} {A1 : Option Addr} {n2 c3 : Nat} {s2 : List Tag} {A6 : Option Addr} {n7 c8 : Nat} {Q : Bool → Prop} (H : F16.E s1 s2 Q) (hO : Ok w0 O) (hp4 : Sl kTag w0 (Fr O) (G A1 n2 c3) s1) (hp9 : Sl kTag w0 (Fr O) (G A6 n7 c8) s2) :
  Ret Try.prog 83 [G A1 n2 c3, G A6 n7 c8] w0 (fun v w' => ∃ (r0 : Bool), v = vb r0 ∧ Q r0 ∧ Gr w0 w' none) := by
 unfold F16.E at H;have hc0 := Ct.init hO;refine X9 Try.func83 Z 26 Z [.tmp 4] Z Z ?_;refine Xc (Xd (Xf (vb false) Z (Xb (Xc (Xc (Xd (Xe (G A1 n2 c3) Z ?_)))))));have a3 := hp4.le;refine Xa (X3 u78_ A1 n2 c3 hp4.len Z) (Xe (G A6 n7 c8) Z ?_);have a4 := hp9.le;refine Xa (X3 u78_ A6 n7 c8 hp9.len Z) (Xa (Xw (s1.length : Int) (s2.length : Int) ((s1.length : Int) != (s2.length : Int)) Z Z Z) (Xb ?_));refine Xu ((s1.length : Int) != (s2.length : Int)) Z (fun ab => ?_) (fun ab => ?_)
 ·have H := Xn H ab;exact Xc (Xd (Xf (vb false) Z (Xb (Xk ⟨[vb false], ⟨_, Z, Z⟩, false, Z, H, hc0.gr.g0⟩))))
 have H := Xo H ab;refine Xz (Xc (Xc (Xd (Xe (G A1 n2 c3) Z (Xa (X3 u78_ A1 n2 c3 hp4.len Z) (Xe (vi 0) Z (Xb (X6 ?_))))))));obtain ⟨ap, aq, ac, H⟩ := H;refine Ym (α := Int) (fun (sv__ : Int) t aa => match sv__ with | v2 => ap v2 ∧ Has t [(0, G A1 n2 c3), (1, G A6 n7 c8), (12, vi (s1.length : Int)), (13, vi v2)] ∧ Cw [] w0 aa [] O fun M => Sl kTag aa (Fr M) (G A1 n2 c3) s1 ∧ Sl kTag aa (Fr M) (G A6 n7 c8) s2) (fun (sv__ : Int) => match sv__ with | v2 => aq v2) 0 ⟨ac, (Xv Z), hc0, hp4, hp9⟩ ?_;rintro v2 _ aa ⟨ac, ar, ad, ae, af⟩;obtain ⟨a5, rfl⟩ := Has.ins ar;have H := H v2 ac;refine Xc (Xd (Xa (Xw v2 (s1.length : Int) (decide (v2 < (s1.length : Int))) Z Z Z) (Xb (Xc ?_))));refine Xu (decide (v2 < (s1.length : Int))) Z (fun ag => ?_) (fun ag => ?_)
 ·have H := Xn H ag;refine Xz (Xc (X6 (Xc (Xd (Xe (vi v2) Z (Xf (vi v2) Z (Xb (Xc ?_))))))));refine Yx (fun x => Gr aa x none) RK RK (Gr.drew _) ?_;refine X1 (G A1 n2 c3) Z (X1 (vi v2) Z ?_);obtain ⟨ai, H⟩ := H;obtain ⟨aj, a6, au, a7, av, aw⟩ := ae.get default RD v2 ai;obtain ⟨rfl, a8, a9⟩ := kTag.op av;refine Xh (X0 u78_ Y7 A1 aj n2 c3 ae.len v2 Z au Z ai) (Xh (Xr ag108 sz108 cQ (aj.add (v2.toNat * 2)) [vs ((nth s1 v2).Key), vs ((nth s1 v2).Val)] Z Z aw) (X1 (G A6 n7 c8) Z (X1 (vi v2) Z ?_)));obtain ⟨ak, H⟩ := H;obtain ⟨al, ba, ax, bb, ay, az⟩ := af.get default RD v2 ak;obtain ⟨rfl, bc, bd⟩ := kTag.op ay;refine Xh (X0 u78_ Y7 A6 al n7 c8 af.len v2 Z ax Z ak) (Xh (Xr ag108 sz108 cQ (al.add (v2.toNat * 2)) [vs ((nth s2 v2).Key), vs ((nth s2 v2).Val)] Z Z az) (Xh (Zf _ _ (eqTag (nth s1 v2) (nth s2 v2)) (qt108 (nth s1 v2) (nth s2 v2)) Z Z) (Yh fun be am => ?_)));have an := ad.k0 am;refine Xu (!(eqTag (nth s1 v2) (nth s2 v2))) Z (fun ah => ?_) (fun ah => ?_)
  ·have H := Xn H ah;exact Xc (Xd (Xf (vb false) Z (Xb (Xk ⟨[vb false], ⟨_, Z, Z⟩, false, Z, H, an.gr.g0⟩))))
  have H := Xo H ah;refine Xz (Xd ?_);obtain ⟨a0, H⟩ := H;refine Xa (Yb v2 1 Z Z a0) (Xe (vi (v2 + 1)) Z (Xb ?_));obtain ⟨a1, a2⟩ := H;have ao := ad.stn am;exact ⟨v2 + 1, a2, a1, (Xv Z), an, (ae.st ao), (af.st ao)⟩
 have H := Xo H ag;refine Yl (xin_hit ?_);exact Xc (Xd (Xf (vb true) Z (Xb (Xk ⟨[vb true], ⟨_, Z, Z⟩, true, Z, H, ad.gr.g0⟩))))
def F41.E (a b : Feat) (Q : Bool → Prop) : Prop :=
 (if a.Id == b.Id then F31.E a.Shape b.Shape (fun r => (if r then F16.E a.Tags b.Tags (fun r2 => Q r2) else Q false)) else Q false)
theorem F41.calls {a : Feat} {A2 : Option Addr} {n3 c4 : Nat} {A7 : Option Addr} {n8 c9 : Nat} {b : Feat} {ae : Option Addr} {af ag : Nat} {ah : Option Addr} {ai aj : Nat} {Q : Bool → Prop} (H : F41.E a b Q) (hO : Ok w0 O) (hs1 : Lim a.Id) (hp5 : Sl kPt w0 (Fr O) (G A2 n3 c4) a.Shape.Pts) (au : Sl kTag w0 (Fr O) (G A7 n8 c9) a.Tags) (ba : Lim b.Id) (av : Sl kPt w0 (Fr O) (G ae af ag) b.Shape.Pts) (aw : Sl kTag w0 (Fr O) (G ah ai aj) b.Tags) :
  Ret Try.prog 62 [.agg #[vs a.Id, vi a.Shape.Kind, G A2 n3 c4, G A7 n8 c9], .agg #[vs b.Id, vi b.Shape.Kind, G ae af ag, G ah ai aj]] w0 (fun v w' => ∃ (r0 : Bool), v = vb r0 ∧ Q r0 ∧ Gr w0 w' none) := by
 unfold F41.E at H;have hc0 := Ct.init hO;refine X9 Try.func62 Z 24 Z [.tmp 4] Z Z ?_;refine Xc (Xd (Yi [vs a.Id, vi a.Shape.Kind, G A2 n3 c4, G A7 n8 c9] Z fun bb ac ax hu27 ay az => ?_));have a0 := Fb.mk hc0.ok ax az;have am := hc0.k0 ay;refine Yi [vs b.Id, vi b.Shape.Kind, G ae af ag, G ah ai aj] Z fun a1 ad a2 hu36 ap a3 => ?_;have an := Fb.mk am.ok a2 a3;have ak := am.k0 ap;refine Xf (vb false) Z (Xb (Xc (Xd (Xa (Xg fa80_0 (Ad ac 0) (Ad ac 0) Z Z) ?_))));have a4 := am.stn ap;have ao := (a0.st a4);refine Xa (Xj ag9 cL (Ad ac 0) (vs a.Id) Z (ao.cell Z)) (Xa (Xg fa80_0 (Ad ad 0) (Ad ad 0) Z Z) (Xa (Xj ag9 cL (Ad ad 0) (vs b.Id) Z (an.cell Z)) (Xa (Y5 a.Id b.Id (a.Id == b.Id) Z Z Z) (Xe (vb (a.Id == b.Id)) Z ?_))));rcases Yc (a.Id == b.Id) with aa | aa
 ·have H := Xn H aa;refine Xp aa Z (Xa (Xg fa80_1 (Ad ac 0) (Ad ac 1) Z Z) (Xp aa Z (Xa (Xr ag77 sz77 cL (Ad ac 1) [vi a.Shape.Kind, G A2 n3 c4] Z Z (ao.cells (off := 1) Z)) (Xp aa Z (Xa (Xg fa80_1 (Ad ad 0) (Ad ad 1) Z Z) (Xp aa Z (Xa (Xr ag77 sz77 cL (Ad ad 1) [vi b.Shape.Kind, G ae af ag] Z Z (an.cells (off := 1) Z)) (Xp aa Z ?_))))))));refine Xs go82 (F31.calls H ak.ok (hp5.st ak.st) (av.st ak.st)) Z ?_;rintro _ a5 ⟨r, rfl, H, aq⟩;have al := ak.k0 aq;refine Xa (X2 true (vb r) aa Z) (Xe (vb r) Z ?_);rcases Yc r with ab | ab
  ·have H := Xn H ab;refine Xp ab Z (Xa (Xg fa80_2 (Ad ac 0) (Ad ac 3) Z Z) (Xp ab Z ?_));have ar := ak.stn aq;have a6 := (ao.st ar);refine Xa (Xj ag78 cL (Ad ac 3) (G A7 n8 c9) Z (a6.cell Z)) (Xp ab Z (Xa (Xg fa80_2 (Ad ad 0) (Ad ad 3) Z Z) (Xp ab Z ?_)));have a7 := (an.st ar);refine Xa (Xj ag78 cL (Ad ad 3) (G ah ai aj) Z (a7.cell Z)) (Xp ab Z ?_);refine Xs go83 (F16.calls H al.ok (au.st al.st) (aw.st al.st)) Z ?_;rintro _ bc ⟨r2, rfl, H, a8⟩;have a9 := al.k0 a8;exact Xa (X2 true (vb r2) ab Z) (Xf (vb r2) Z (Xb (Xk ⟨[vb r2], ⟨_, Z, Z⟩, r2, Z, H, a9.gr.g0⟩)))
  have H := Xo H ab;refine Xq ab Z (Xq ab Z (Xq ab Z (Xq ab Z (Xq ab Z (Xa (X2 false (vb false) ab Z) (Xf (vb false) Z (Xb (Xk ?_))))))));exact ⟨[vb false], ⟨_, Z, Z⟩, false, Z, H, al.gr.g0⟩
 have H := Xo H aa;refine Xq aa Z (Xq aa Z (Xq aa Z (Xq aa Z (Xq aa Z (Xa (X2 false (vb false) aa Z) (Xe (vb false) Z (X7 (dj := 17) Z Z (.inl Z) (X7 (dj := 17) Z Z (.inl Z) ?_))))))));exact X7 (dj := 17) Z Z (.inl Z) (X7 (dj := 17) Z Z (.inl Z) (X7 (dj := 17) Z Z (.inl Z) (Xa (X2 false (vb false) Z Z) (Xf (vb false) Z (Xb (Xk ⟨[vb false], ⟨_, Z, Z⟩, false, Z, H, ak.gr.g0⟩))))))
def F32.E (a b : List Feat) (Q : Bool → Prop) : Prop :=
 (∃ (f : Feat → Feat → Bool) (f_ok : Feat → Feat → Prop), (∀ x0_ x1_, f_ok x0_ x1_ → F41.E x0_ x1_  (fun r => r = f x0_ x1_)) ∧ F3.E a b f f_ok (fun r => Q r))
theorem F32.calls {a : List Feat} {A1 : Option Addr} {n2 c3 : Nat} {b : List Feat} {A6 : Option Addr} {n7 c8 : Nat} {Q : Bool → Prop} (H : F32.E a b Q) (hO : Ok w0 O) (hp4 : Sl kFeat w0 (Fr O) (G A1 n2 c3) a) (hp9 : Sl kFeat w0 (Fr O) (G A6 n7 c8) b) :
  Ret Try.prog 45 [G A1 n2 c3, G A6 n7 c8] w0 (fun v w' => ∃ (r0 : Bool), v = vb r0 ∧ Q r0 ∧ Gr w0 w' none) := by
 unfold F32.E at H;have hc0 := Ct.init hO;refine X9 Try.func45 Z 8 Z [.tmp 4] Z Z ?_;refine Xc (Xd (Xf (vb false) Z (Xb (Xc (Xd (Xe (G A1 n2 c3) Z (Xe (G A6 n7 c8) Z ?_)))))));obtain ⟨f, f_ok, au, H⟩ := H;have av : ∀ (w : World) (L : Ob), Ct [] w0 w L ([] ++ O) → ∀ (x0_ : Feat) (aa : Option Addr) (ab ac : Nat) (ad : Option Addr) (ae af : Nat) (am : Lim x0_.Id) (an : Sl kPt w (Fr (L ++ ([] ++ O))) (G aa ab ac) x0_.Shape.Pts) (ao : Sl kTag w (Fr (L ++ ([] ++ O))) (G ad ae af) x0_.Tags) (x1_ : Feat) (ag : Option Addr) (ah ai : Nat) (aj : Option Addr) (ak al : Nat) (ap : Lim x1_.Id) (aq : Sl kPt w (Fr (L ++ ([] ++ O))) (G ag ah ai) x1_.Shape.Pts) (ar : Sl kTag w (Fr (L ++ ([] ++ O))) (G aj ak al) x1_.Tags), f_ok x0_ x1_ → Ret Try.prog 62 ([.agg #[vs x0_.Id, vi x0_.Shape.Kind, G aa ab ac, G ad ae af], .agg #[vs x1_.Id, vi x1_.Shape.Kind, G ag ah ai, G aj ak al]] ++ []) w (fun v w' => v = vb (f x0_ x1_) ∧ Gr w w' none) := by
  intro w L c x0_ aa ab ac ad ae af am an ao x1_ ag ah ai aj ak al ap aq ar hok;refine (F41.calls (au x0_ x1_ hok) c.ok am an ao ap aq ar).mono ?_;rintro _ w2 ⟨r, rfl, rfl, g2⟩;exact ⟨Z, g2⟩
 refine Xs go61 (F3.calls H hc0.ok hp4 hp9 go62 av) Z ?_;rintro _ ay ⟨r, rfl, H, aw⟩;have ax := hc0.k0 aw;exact Xf (vb r) Z (Xb (Xk ⟨[vb r], ⟨_, Z, Z⟩, r, Z, H, ax.gr.g0⟩))
def F26.E (a b : Commit) (Q : Bool → Prop) : Prop :=
 F15.E a.Up b.Up (fun r => (if r then F32.E a.Sheet b.Sheet (fun r2 => (if r2 then Q (a.Note == b.Note) else Q false)) else Q false))
theorem F26.calls {a : Commit} {A1 : Option Addr} {n2 c3 : Nat} {A6 : Option Addr} {n7 c8 : Nat} {b : Commit} {ae : Option Addr} {af ag : Nat} {ah : Option Addr} {ai aj : Nat} {Q : Bool → Prop} (H : F26.E a b Q) (hO : Ok w0 O) (hp4 : Sl (Kd.int .i64) w0 (Fr O) (G A1 n2 c3) a.Up) (hp9 : Sl kFeat w0 (Fr O) (G A6 n7 c8) a.Sheet) (bc : Lim a.Note) (az : Sl (Kd.int .i64) w0 (Fr O) (G ae af ag) b.Up) (a0 : Sl kFeat w0 (Fr O) (G ah ai aj) b.Sheet) (bd : Lim b.Note) :
  Ret Try.prog 23 [.agg #[G A1 n2 c3, G A6 n7 c8, vs a.Note], .agg #[G ae af ag, G ah ai aj, vs b.Note]] w0 (fun v w' => ∃ (r0 : Bool), v = vb r0 ∧ Q r0 ∧ Gr w0 w' none) := by
 unfold F26.E at H;have hc0 := Ct.init hO;refine X9 Try.func23 Z 24 Z [.tmp 4] Z Z ?_;refine Xc (Xd (Yi [G A1 n2 c3, G A6 n7 c8, vs a.Note] Z fun be ac a1 hu27 a2 a3 => ?_));have a4 := Fb.mk hc0.ok a1 a3;have am := hc0.k0 a2;refine Yi [G ae af ag, G ah ai aj, vs b.Note] Z fun a5 ad a6 hu36 an a7 => ?_;have ao := Fb.mk am.ok a6 a7;have al := am.k0 an;refine Xf (vb false) Z (Xb (Xc (Xd (Xa (Xg fa33_0 (Ad ac 0) (Ad ac 0) Z Z) ?_))));have a8 := am.stn an;have ap := (a4.st a8);refine Xa (Xj ag30 cL (Ad ac 0) (G A1 n2 c3) Z (ap.cell Z)) (Xa (Xg fa33_0 (Ad ad 0) (Ad ad 0) Z Z) (Xa (Xj ag30 cL (Ad ad 0) (G ae af ag) Z (ao.cell Z)) ?_));refine Xs go44 (F15.calls H al.ok (hp4.st al.st) (az.st al.st)) Z ?_;rintro _ a9 ⟨r, rfl, H, aq⟩;have ak := al.k0 aq;refine Xe (vb r) Z ?_;rcases Yc r with aa | aa
 ·have H := Xn H aa;refine Xp aa Z (Xa (Xg fa33_1 (Ad ac 0) (Ad ac 1) Z Z) (Xp aa Z ?_));have ar := al.stn aq;have au := (ap.st ar);refine Xa (Xj ag31 cL (Ad ac 1) (G A6 n7 c8) Z (au.cell Z)) (Xp aa Z (Xa (Xg fa33_1 (Ad ad 0) (Ad ad 1) Z Z) (Xp aa Z ?_)));have av := (ao.st ar);refine Xa (Xj ag31 cL (Ad ad 1) (G ah ai aj) Z (av.cell Z)) (Xp aa Z ?_);refine Xs go45 (F32.calls H ak.ok (hp9.st ak.st) (a0.st ak.st)) Z ?_;rintro _ bf ⟨r2, rfl, H, aw⟩;have ax := ak.k0 aw;refine Xa (X2 true (vb r2) aa Z) (Xe (vb r2) Z ?_);rcases Yc r2 with ab | ab
  ·have H := Xn H ab;refine Xp ab Z (Xa (Xg fa33_2 (Ad ac 0) (Ad ac 2) Z Z) (Xp ab Z ?_));have ay := ak.stn aw;have ba := (au.st ay);refine Xa (Xj ag9 cL (Ad ac 2) (vs a.Note) Z (ba.cell Z)) (Xp ab Z (Xa (Xg fa33_2 (Ad ad 0) (Ad ad 2) Z Z) (Xp ab Z ?_)));have bb := (av.st ay);exact Xa (Xj ag9 cL (Ad ad 2) (vs b.Note) Z (bb.cell Z)) (Xp ab Z (Xa (Y5 a.Note b.Note (a.Note == b.Note) Z Z Z) (Xa (X2 true (vb (a.Note == b.Note)) ab Z) (Xf (vb (a.Note == b.Note)) Z (Xb (Xk ⟨[vb (a.Note == b.Note)], ⟨_, Z, Z⟩, a.Note == b.Note, Z, H, ax.gr.g0⟩))))))
  have H := Xo H ab;refine Xq ab Z (Xq ab Z (Xq ab Z (Xq ab Z (Xq ab Z (Xa (X2 false (vb false) ab Z) (Xf (vb false) Z (Xb (Xk ?_))))))));exact ⟨[vb false], ⟨_, Z, Z⟩, false, Z, H, ax.gr.g0⟩
 have H := Xo H aa;refine Xq aa Z (Xq aa Z (Xq aa Z (Xq aa Z (Xq aa Z (Xa (X2 false (vb false) aa Z) (Xe (vb false) Z (X7 (dj := 17) Z Z (.inl Z) (X7 (dj := 17) Z Z (.inl Z) ?_))))))));exact X7 (dj := 17) Z Z (.inl Z) (X7 (dj := 17) Z Z (.inl Z) (X7 (dj := 17) Z Z (.inl Z) (Xa (X2 false (vb false) Z Z) (Xf (vb false) Z (Xb (Xk ⟨[vb false], ⟨_, Z, Z⟩, false, Z, H, ak.gr.g0⟩))))))
def F12.E (s1 s2 : List Head) (Q : Bool → Prop) : Prop :=
 (if (s1.length : Int) != (s2.length : Int) then Q false else (∃ (I32 : Int → Prop) (mu33 : Int → Nat), I32 0 ∧ ∀ (v2 : Int), I32 v2 → (if decide (v2 < (s1.length : Int)) then ((0 : Int) ≤ v2 ∧ v2 < (s1.length : Int)) ∧ ((0 : Int) ≤ v2 ∧ v2 < (s2.length : Int)) ∧ (if !(eqHead (nth s1 v2) (nth s2 v2)) then Q false else (I64 (v2 + 1)) ∧ I32 (v2 + 1) ∧ mu33 (v2 + 1) < mu33 v2) else Q true)))
theorem F12.calls {s1 : List Head} {A1 : Option Addr} {n2 c3 : Nat} {s2 : List Head} {A6 : Option Addr} {n7 c8 : Nat} {Q : Bool → Prop} (H : F12.E s1 s2 Q) (hO : Ok w0 O) (hp4 : Sl kHead w0 (Fr O) (G A1 n2 c3) s1) (hp9 : Sl kHead w0 (Fr O) (G A6 n7 c8) s2) :
  Ret Try.prog 24 [G A1 n2 c3, G A6 n7 c8] w0 (fun v w' => ∃ (r0 : Bool), v = vb r0 ∧ Q r0 ∧ Gr w0 w' none) := by
 unfold F12.E at H;have hc0 := Ct.init hO;refine X9 Try.func24 Z 26 Z [.tmp 4] Z Z ?_;refine Xc (Xd (Xf (vb false) Z (Xb (Xc (Xc (Xd (Xe (G A1 n2 c3) Z ?_)))))));have a3 := hp4.le;refine Xa (X3 u24_ A1 n2 c3 hp4.len Z) (Xe (G A6 n7 c8) Z ?_);have a4 := hp9.le;refine Xa (X3 u24_ A6 n7 c8 hp9.len Z) (Xa (Xw (s1.length : Int) (s2.length : Int) ((s1.length : Int) != (s2.length : Int)) Z Z Z) (Xb ?_));refine Xu ((s1.length : Int) != (s2.length : Int)) Z (fun ab => ?_) (fun ab => ?_)
 ·have H := Xn H ab;exact Xc (Xd (Xf (vb false) Z (Xb (Xk ⟨[vb false], ⟨_, Z, Z⟩, false, Z, H, hc0.gr.g0⟩))))
 have H := Xo H ab;refine Xz (Xc (Xc (Xd (Xe (G A1 n2 c3) Z (Xa (X3 u24_ A1 n2 c3 hp4.len Z) (Xe (vi 0) Z (Xb (X6 ?_))))))));obtain ⟨ap, aq, ac, H⟩ := H;refine Ym (α := Int) (fun (sv__ : Int) t aa => match sv__ with | v2 => ap v2 ∧ Has t [(0, G A1 n2 c3), (1, G A6 n7 c8), (12, vi (s1.length : Int)), (13, vi v2)] ∧ Cw [] w0 aa [] O fun M => Sl kHead aa (Fr M) (G A1 n2 c3) s1 ∧ Sl kHead aa (Fr M) (G A6 n7 c8) s2) (fun (sv__ : Int) => match sv__ with | v2 => aq v2) 0 ⟨ac, (Xv Z), hc0, hp4, hp9⟩ ?_;rintro v2 _ aa ⟨ac, ar, ad, ae, af⟩;obtain ⟨a5, rfl⟩ := Has.ins ar;have H := H v2 ac;refine Xc (Xd (Xa (Xw v2 (s1.length : Int) (decide (v2 < (s1.length : Int))) Z Z Z) (Xb (Xc ?_))));refine Xu (decide (v2 < (s1.length : Int))) Z (fun ag => ?_) (fun ag => ?_)
 ·have H := Xn H ag;refine Xz (Xc (X6 (Xc (Xd (Xe (vi v2) Z (Xf (vi v2) Z (Xb (Xc ?_))))))));refine Yx (fun x => Gr aa x none) RK RK (Gr.drew _) ?_;refine X1 (G A1 n2 c3) Z (X1 (vi v2) Z ?_);obtain ⟨ai, H⟩ := H;obtain ⟨aj, a6, au, a7, av, aw⟩ := ae.get default RD v2 ai;obtain ⟨rfl, a8⟩ := kHead.op av;refine Xh (X0 u24_ Ys A1 aj n2 c3 ae.len v2 Z au Z ai) (Xh (Xr ag35 sz35 cQ (aj.add (v2.toNat * 2)) [vs ((nth s1 v2).Name), vi ((nth s1 v2).At)] Z Z aw) (X1 (G A6 n7 c8) Z (X1 (vi v2) Z ?_)));obtain ⟨ak, H⟩ := H;obtain ⟨al, a9, ax, ba, ay, az⟩ := af.get default RD v2 ak;obtain ⟨rfl, bb⟩ := kHead.op ay;refine Xh (X0 u24_ Ys A6 al n7 c8 af.len v2 Z ax Z ak) (Xh (Xr ag35 sz35 cQ (al.add (v2.toNat * 2)) [vs ((nth s2 v2).Name), vi ((nth s2 v2).At)] Z Z az) (Xh (Zf _ _ (eqHead (nth s1 v2) (nth s2 v2)) (qt35 (nth s1 v2) (nth s2 v2)) Z Z) (Yh fun bc am => ?_)));have an := ad.k0 am;refine Xu (!(eqHead (nth s1 v2) (nth s2 v2))) Z (fun ah => ?_) (fun ah => ?_)
  ·have H := Xn H ah;exact Xc (Xd (Xf (vb false) Z (Xb (Xk ⟨[vb false], ⟨_, Z, Z⟩, false, Z, H, an.gr.g0⟩))))
  have H := Xo H ah;refine Xz (Xd ?_);obtain ⟨a0, H⟩ := H;refine Xa (Yb v2 1 Z Z a0) (Xe (vi (v2 + 1)) Z (Xb ?_));obtain ⟨a1, a2⟩ := H;have ao := ad.stn am;exact ⟨v2 + 1, a2, a1, (Xv Z), an, (ae.st ao), (af.st ao)⟩
 have H := Xo H ag;refine Yl (xin_hit ?_);exact Xc (Xd (Xf (vb true) Z (Xb (Xk ⟨[vb true], ⟨_, Z, Z⟩, true, Z, H, ad.gr.g0⟩))))
def F42.E (a b : Repo) (Q : Bool → Prop) : Prop :=
 (∃ (f : Commit → Commit → Bool) (f_ok : Commit → Commit → Prop), (∀ x0_ x1_, f_ok x0_ x1_ → F26.E x0_ x1_  (fun r => r = f x0_ x1_)) ∧ F0.E a.Commits b.Commits f f_ok (fun r => (if r then F12.E a.Heads b.Heads (fun r2 => Q r2) else Q false)))
theorem F42.calls {a : Repo} {A1 : Option Addr} {n2 c3 : Nat} {A6 : Option Addr} {n7 c8 : Nat} {b : Repo} {ab : Option Addr} {ac ad : Nat} {ae : Option Addr} {af ag : Nat} {Q : Bool → Prop} (H : F42.E a b Q) (hO : Ok w0 O) (hp4 : Sl kCommit w0 (Fr O) (G A1 n2 c3) a.Commits) (hp9 : Sl kHead w0 (Fr O) (G A6 n7 c8) a.Heads) (bc : Sl kCommit w0 (Fr O) (G ab ac ad) b.Commits) (bd : Sl kHead w0 (Fr O) (G ae af ag) b.Heads) :
  Ret Try.prog 8 [.agg #[G A1 n2 c3, G A6 n7 c8], .agg #[G ab ac ad, G ae af ag]] w0 (fun v w' => ∃ (r0 : Bool), v = vb r0 ∧ Q r0 ∧ Gr w0 w' none) := by
 unfold F42.E at H;have hc0 := Ct.init hO;refine X9 Try.func8 Z 17 Z [.tmp 4] Z Z ?_;refine Xc (Xd (Yi [G A1 n2 c3, G A6 n7 c8] Z fun bt ah be hu25 bf bg => ?_));have bh := Fb.mk hc0.ok be bg;have az := hc0.k0 bf;refine Yi [G ab ac ad, G ae af ag] Z fun a0 ai bi hu34 a1 bj => ?_;have a2 := Fb.mk az.ok bi bj;have aj := az.k0 a1;refine Xf (vb false) Z (Xb (Xc (Xd (Xa (Xg fa26_0 (Ad ah 0) (Ad ah 0) Z Z) ?_))));have bl := az.stn a1;have a3 := (bh.st bl);refine Xa (Xj ag23 cL (Ad ah 0) (G A1 n2 c3) Z (a3.cell Z)) (Xa (Xg fa26_0 (Ad ai 0) (Ad ai 0) Z Z) (Xa (Xj ag23 cL (Ad ai 0) (G ab ac ad) Z (a2.cell Z)) ?_));obtain ⟨f, f_ok, bm, H⟩ := H;have bn : ∀ (w : World) (L : Ob), Ct [] a0 w L ([] ++ O) → ∀ (x0_ : Commit) (al : Option Addr) (am an : Nat) (ao : Option Addr) (ap aq : Nat) (a4 : Sl (Kd.int .i64) w (Fr (L ++ ([] ++ O))) (G al am an) x0_.Up) (a5 : Sl kFeat w (Fr (L ++ ([] ++ O))) (G ao ap aq) x0_.Sheet) (a6 : Lim x0_.Note) (x1_ : Commit) (ar : Option Addr) (au av : Nat) (aw : Option Addr) (ax ay : Nat) (a7 : Sl (Kd.int .i64) w (Fr (L ++ ([] ++ O))) (G ar au av) x1_.Up) (a8 : Sl kFeat w (Fr (L ++ ([] ++ O))) (G aw ax ay) x1_.Sheet) (a9 : Lim x1_.Note), f_ok x0_ x1_ → Ret Try.prog 23 ([.agg #[G al am an, G ao ap aq, vs x0_.Note], .agg #[G ar au av, G aw ax ay, vs x1_.Note]] ++ []) w (fun v w' => v = vb (f x0_ x1_) ∧ Gr w w' none) := by
  intro w L c x0_ al am an ao ap aq a4 a5 a6 x1_ ar au av aw ax ay a7 a8 a9 hok;refine (F26.calls (bm x0_ x1_ hok) c.ok a4 a5 a6 a7 a8 a9).mono ?_;rintro _ w2 ⟨r, rfl, rfl, g2⟩;exact ⟨Z, g2⟩
 refine Xs go22 (F0.calls H aj.ok (hp4.st aj.st) (bc.st aj.st) go23 bn) Z ?_;rintro _ bo ⟨r, rfl, H, ba⟩;have ak := aj.k0 ba;refine Xe (vb r) Z ?_;rcases Yc r with aa | aa
 ·have H := Xn H aa;refine Xp aa Z (Xa (Xg fa26_1 (Ad ah 0) (Ad ah 1) Z Z) (Xp aa Z ?_));have bb := aj.stn ba;have bp := (a3.st bb);refine Xa (Xj ag24 cL (Ad ah 1) (G A6 n7 c8) Z (bp.cell Z)) (Xp aa Z (Xa (Xg fa26_1 (Ad ai 0) (Ad ai 1) Z Z) (Xp aa Z ?_)));have bq := (a2.st bb);refine Xa (Xj ag24 cL (Ad ai 1) (G ae af ag) Z (bq.cell Z)) (Xp aa Z ?_);refine Xs go24 (F12.calls H ak.ok (hp9.st ak.st) (bd.st ak.st)) Z ?_;rintro _ bu ⟨r2, rfl, H, br⟩;have bs := ak.k0 br;exact Xa (X2 true (vb r2) aa Z) (Xf (vb r2) Z (Xb (Xk ⟨[vb r2], ⟨_, Z, Z⟩, r2, Z, H, bs.gr.g0⟩)))
 have H := Xo H aa;refine Xq aa Z (Xq aa Z (Xq aa Z (Xq aa Z (Xq aa Z (Xa (X2 false (vb false) aa Z) (Xf (vb false) Z (Xb (Xk ?_))))))));exact ⟨[vb false], ⟨_, Z, Z⟩, false, Z, H, ak.gr.g0⟩
def F43.E (a b : Repo) (Q : Bool → Prop) : Prop :=
 (if (a.Commits.length : Int) != (b.Commits.length : Int) then Q false else (if (a.Heads.length : Int) != (b.Heads.length : Int) then Q false else (∃ (I83 : Int → Prop) (mu84 : Int → Nat), I83 0 ∧ ∀ (i2 : Int), I83 i2 → (if decide (i2 < (a.Commits.length : Int)) then ((0 : Int) ≤ i2 ∧ i2 < (a.Commits.length : Int)) ∧ ((0 : Int) ≤ i2 ∧ i2 < (b.Commits.length : Int)) ∧ (∃ q : Bool, F65.E (nth a.Commits i2) (nth b.Commits i2) (fun x => x = q) ∧ (if !q then Q false else (-9223372036854775808 ≤ i2) ∧ I83 (i2 + 1) ∧ mu84 (i2 + 1) < mu84 i2)) else (∃ (I182 : Int → Prop) (mu183 : Int → Nat), I182 0 ∧ ∀ (i4 : Int), I182 i4 → (if decide (i4 < (a.Heads.length : Int)) then ((0 : Int) ≤ i4 ∧ i4 < (a.Heads.length : Int)) ∧ ((0 : Int) ≤ i4 ∧ i4 < (b.Heads.length : Int)) ∧ (if !(eqHead (nth a.Heads i4) (nth b.Heads i4)) then Q false else (-9223372036854775808 ≤ i4) ∧ I182 (i4 + 1) ∧ mu183 (i4 + 1) < mu183 i4) else Q true))))))
theorem F43.calls {a : Repo} {A1 : Option Addr} {n2 c3 : Nat} {A6 : Option Addr} {n7 c8 : Nat} {b : Repo} {ae : Option Addr} {af ag : Nat} {ah : Option Addr} {ai aj : Nat} {Q : Bool → Prop} (H : F43.E a b Q) (hO : Ok w0 O) (hp4 : Sl kCommit w0 (Fr O) (G A1 n2 c3) a.Commits) (hp9 : Sl kHead w0 (Fr O) (G A6 n7 c8) a.Heads) (ax : Sl kCommit w0 (Fr O) (G ae af ag) b.Commits) (ay : Sl kHead w0 (Fr O) (G ah ai aj) b.Heads) :
  Ret Try.prog 9 [.agg #[G A1 n2 c3, G A6 n7 c8], .agg #[G ae af ag, G ah ai aj]] w0 (fun v w' => ∃ (r0 : Bool), v = vb r0 ∧ Q r0 ∧ Gr w0 w' none) := by
 unfold F43.E at H;have hc0 := Ct.init hO;refine X9 Try.func9 Z 60 Z [.tmp 4] Z Z ?_;refine Xc (Xd (Yi [G A1 n2 c3, G A6 n7 c8] Z fun dj aa b5 hu25 b6 b7 => ?_));have b8 := Fb.mk hc0.ok b5 b7;have az := hc0.k0 b6;refine Yi [G ae af ag, G ah ai aj] Z fun dk ac b9 hu34 bo ca => ?_;have a0 := Fb.mk az.ok b9 ca;have ad := az.k0 bo;refine Xf (vb false) Z (Xb (Xc (Xc (Xd (Xa (Xg fa26_0 (Ad aa 0) (Ad aa 0) Z Z) ?_)))));have cb := az.stn bo;have a1 := (b8.st cb);refine Xa (Xj ag23 cL (Ad aa 0) (G A1 n2 c3) Z (a1.cell Z)) ?_;have dl := (hp4.st ad.st).le;refine Xa (X3 u23_ A1 n2 c3 (hp4.st ad.st).len Z) (Xa (Xg fa26_0 (Ad ac 0) (Ad ac 0) Z Z) (Xa (Xj ag23 cL (Ad ac 0) (G ae af ag) Z (a0.cell Z)) ?_));have dm := (ax.st ad.st).le;refine Xa (X3 u23_ ae af ag (ax.st ad.st).len Z) (Xa (Xw (a.Commits.length : Int) (b.Commits.length : Int) ((a.Commits.length : Int) != (b.Commits.length : Int)) Z Z Z) (Xe (vb ((a.Commits.length : Int) != (b.Commits.length : Int))) Z ?_));rcases Yc ((a.Commits.length : Int) != (b.Commits.length : Int)) with ab | ab
 ·have H := Xn H ab;refine Xq ab Z (Xq ab Z (Xq ab Z (Xq ab Z (Xq ab Z (Xq ab Z (Xq ab Z (Xa (X2 true (vb true) ab Z) (Xb ?_))))))));refine Yz (b := true) Z Z ?_;exact Xc (Xd (Xf (vb false) Z (Xb (Xk ⟨[vb false], ⟨_, Z, Z⟩, false, Z, H, ad.gr.g0⟩))))
 have H := Xo H ab;refine Xp ab Z (Xa (Xg fa26_1 (Ad aa 0) (Ad aa 1) Z Z) (Xp ab Z (Xa (Xj ag24 cL (Ad aa 1) (G A6 n7 c8) Z (a1.cell Z)) (Xp ab Z ?_))));have dn := (hp9.st ad.st).le;refine Xa (X3 u24_ A6 n7 c8 (hp9.st ad.st).len Z) (Xp ab Z (Xa (Xg fa26_1 (Ad ac 0) (Ad ac 1) Z Z) (Xp ab Z (Xa (Xj ag24 cL (Ad ac 1) (G ah ai aj) Z (a0.cell Z)) (Xp ab Z ?_)))));have dp := (ay.st ad.st).le;refine Xa (X3 u24_ ah ai aj (ay.st ad.st).len Z) (Xp ab Z (Xa (Xw (a.Heads.length : Int) (b.Heads.length : Int) ((a.Heads.length : Int) != (b.Heads.length : Int)) Z Z Z) (Xa (X2 false (vb ((a.Heads.length : Int) != (b.Heads.length : Int))) ab Z) (Xb ?_))));refine Xu ((a.Heads.length : Int) != (b.Heads.length : Int)) Z (fun a2 => ?_) (fun a2 => ?_)
 ·have H := Xn H a2;exact Xc (Xd (Xf (vb false) Z (Xb (Xk ⟨[vb false], ⟨_, Z, Z⟩, false, Z, H, ad.gr.g0⟩))))
 have H := Xo H a2;refine Xz (Xc (Xc (Xd (Xf (vi 0) Z (Xb (X6 ?_))))));obtain ⟨cc, cd, a3, H⟩ := H;refine Ym (α := Int) (fun (sv__ : Int) t ak => match sv__ with | i2 => cc i2 ∧ Has t [(2, Pz aa), (3, Pz ac), (5, vi i2)] ∧ Cw [] w0 ak [] O fun M => Sl kCommit ak (Fr M) (G A1 n2 c3) a.Commits ∧ Sl kHead ak (Fr M) (G A6 n7 c8) a.Heads ∧ Sl kCommit ak (Fr M) (G ae af ag) b.Commits ∧ Sl kHead ak (Fr M) (G ah ai aj) b.Heads ∧ Fb ak M aa [G A1 n2 c3, G A6 n7 c8] ∧ Fb ak M ac [G ae af ag, G ah ai aj]) (fun (sv__ : Int) => match sv__ with | i2 => cd i2) 0 ⟨a3, (Xv Z), ad, (hp4.st ad.st), (hp9.st ad.st), (ax.st ad.st), (ay.st ad.st), a1, a0⟩ ?_;rintro i2 _ ak ⟨a3, ce, aq, am, bp, ar, bq, au, a4⟩;obtain ⟨dq, rfl⟩ := Has.ins ce;have H := H i2 a3;refine Xc (Xc (Xd (Xe (vi i2) Z (Xa (Xg fa26_0 (Ad aa 0) (Ad aa 0) Z Z) (Xa (Xj ag23 cL (Ad aa 0) (G A1 n2 c3) Z (au.cell Z)) ?_)))));have cf := am.le;refine Xa (X3 u23_ A1 n2 c3 am.len Z) (Xa (Xw i2 (a.Commits.length : Int) (decide (i2 < (a.Commits.length : Int))) Z Z Z) (Xb ?_));refine Xu (decide (i2 < (a.Commits.length : Int))) Z (fun av => ?_) (fun av => ?_)
 ·have H := Xn H av;refine Xz (Xc (X6 (Xc (Yx (fun x => Gr ak x none) RK RK (Gr.drew _) ?_))));refine Xh (Xg fa26_0 (Ad aa 0) (Ad aa 0) Z Z) (Xh (Xj ag23 cQ (Ad aa 0) (G A1 n2 c3) Z (au.cell Z)) (X1 (vi i2) Z ?_));obtain ⟨br, H⟩ := H;obtain ⟨bs, dr, cg, ds, ch, ci⟩ := am.get default RD i2 br;obtain ⟨a5, a6, a7, a8, a9, ba, rfl, cj, ck, cl⟩ := kCommit.op ch;refine Xh (X0 u23_ Y2 A1 bs n2 c3 am.len i2 Z cg Z br) (Xh (Xr ag33 sz33 cQ (bs.add (i2.toNat * 3)) [G a5 a6 a7, G a8 a9 ba, vs ((nth a.Commits i2).Note)] Z Z ci) (Xh (Xg fa26_0 (Ad ac 0) (Ad ac 0) Z Z) (Xh (Xj ag23 cQ (Ad ac 0) (G ae af ag) Z (a4.cell Z)) (X1 (vi i2) Z ?_))));obtain ⟨bt, H⟩ := H;obtain ⟨bu, dt, cm, du, cn, co⟩ := ar.get default RD i2 bt;obtain ⟨bb, bc, bd, be, bf, bg, rfl, cp, cq, cr⟩ := kCommit.op cn;refine Xh (X0 u23_ Y2 ae bu af ag ar.len i2 Z cm Z bt) (Xh (Xr ag33 sz33 cQ (bu.add (i2.toNat * 3)) [G bb bc bd, G be bf bg, vs ((nth b.Commits i2).Note)] Z Z co) ?_);obtain ⟨q, cs, H⟩ := H;refine Zd go25 [.agg #[G a5 a6 a7, G a8 a9 ba, vs ((nth a.Commits i2).Note)], .agg #[G bb bc bd, G be bf bg, vs ((nth b.Commits i2).Note)]] Z (vb q) (fun w g => (F65.calls cs (aq.k0 g).ok (cj.st (.new _ g)) (ck.st (.new _ g)) cl (cp.st (.new _ g)) (cq.st (.new _ g)) cr).mono ?_) ?_
  ·rintro _ w ⟨r, rfl, rfl, g2⟩;exact ⟨Z, Gr.t0 g g2⟩
  refine Xh (Yp q Z) (Yh fun dv bv => ?_);have bw := aq.k0 bv;refine Xu (!q) Z (fun bh => ?_) (fun bh => ?_)
  ·have H := Xn H bh;exact Xc (Xd (Xf (vb false) Z (Xb (Xk ⟨[vb false], ⟨_, Z, Z⟩, false, Z, H, bw.gr.g0⟩))))
  have H := Xo H bh;refine Xz (Xd (Xe (vi i2) Z ?_));obtain ⟨ct, H⟩ := H;have cu : I64 (i2 + 1) := i64_succ (of_decide_eq_true av) cf ct;refine Xa (Yb i2 1 Z Z cu) (Xf (vi (i2 + 1)) Z (Xb ?_));obtain ⟨cv, cw⟩ := H;have an := aq.stn bv;have cx := (au.st an);have cy := (a4.st an);exact ⟨i2 + 1, cw, cv, (Xv Z), bw, (am.st an), (bp.st an), (ar.st an), (bq.st an), cx, cy⟩
 have H := Xo H av;refine Yl (xin_hit ?_);refine Xc (Xc (Xd (Xf (vi 0) Z (Xb (X6 ?_)))));obtain ⟨cz, c0, bi, H⟩ := H;refine Ym (α := Int) (fun (sv__ : Int) t al => match sv__ with | i4 => cz i4 ∧ Has t [(2, Pz aa), (3, Pz ac), (6, vi i4)] ∧ Cw [] w0 al [] O fun M => Sl kCommit al (Fr M) (G A1 n2 c3) a.Commits ∧ Sl kHead al (Fr M) (G A6 n7 c8) a.Heads ∧ Sl kCommit al (Fr M) (G ae af ag) b.Commits ∧ Sl kHead al (Fr M) (G ah ai aj) b.Heads ∧ Fb al M aa [G A1 n2 c3, G A6 n7 c8] ∧ Fb al M ac [G ae af ag, G ah ai aj]) (fun (sv__ : Int) => match sv__ with | i4 => c0 i4) 0 ⟨bi, (Xv Z), aq, am, bp, ar, bq, au, a4⟩ ?_;rintro i4 _ al ⟨bi, c1, bj, c2, ap, c4, bl, bm, bx⟩;obtain ⟨dw, rfl⟩ := Has.ins c1;have H := H i4 bi;refine Xc (Xc (Xd (Xe (vi i4) Z (Xa (Xg fa26_1 (Ad aa 0) (Ad aa 1) Z Z) (Xa (Xj ag24 cL (Ad aa 1) (G A6 n7 c8) Z (bm.cell Z)) ?_)))));have c5 := ap.le;refine Xa (X3 u24_ A6 n7 c8 ap.len Z) (Xa (Xw i4 (a.Heads.length : Int) (decide (i4 < (a.Heads.length : Int))) Z Z Z) (Xb ?_));refine Xu (decide (i4 < (a.Heads.length : Int))) Z (fun aw => ?_) (fun aw => ?_)
 ·have H := Xn H aw;refine Xz (Xc (X6 (Xc (Yx (fun x => Gr al x none) RK RK (Gr.drew _) ?_))));refine Xh (Xg fa26_1 (Ad aa 0) (Ad aa 1) Z Z) (Xh (Xj ag24 cQ (Ad aa 1) (G A6 n7 c8) Z (bm.cell Z)) (X1 (vi i4) Z ?_));obtain ⟨bz, H⟩ := H;obtain ⟨b0, dx, c6, dy, c7, c9⟩ := ap.get default RD i4 bz;obtain ⟨rfl, dz⟩ := kHead.op c7;refine Xh (X0 u24_ Ys A6 b0 n7 c8 ap.len i4 Z c6 Z bz) (Xh (Xr ag35 sz35 cQ (b0.add (i4.toNat * 2)) [vs ((nth a.Heads i4).Name), vi ((nth a.Heads i4).At)] Z Z c9) (Xh (Xg fa26_1 (Ad ac 0) (Ad ac 1) Z Z) (Xh (Xj ag24 cQ (Ad ac 1) (G ah ai aj) Z (bx.cell Z)) (X1 (vi i4) Z ?_))));obtain ⟨b1, H⟩ := H;obtain ⟨b2, d0, da, d1, db, dc⟩ := bl.get default RD i4 b1;obtain ⟨rfl, d2⟩ := kHead.op db;refine Xh (X0 u24_ Ys ah b2 ai aj bl.len i4 Z da Z b1) (Xh (Xr ag35 sz35 cQ (b2.add (i4.toNat * 2)) [vs ((nth b.Heads i4).Name), vi ((nth b.Heads i4).At)] Z Z dc) (Xh (Zf _ _ (eqHead (nth a.Heads i4) (nth b.Heads i4)) (qt35 (nth a.Heads i4) (nth b.Heads i4)) Z Z) (Yh fun d3 b3 => ?_)));have b4 := bj.k0 b3;refine Xu (!(eqHead (nth a.Heads i4) (nth b.Heads i4))) Z (fun bn => ?_) (fun bn => ?_)
  ·have H := Xn H bn;exact Xc (Xd (Xf (vb false) Z (Xb (Xk ⟨[vb false], ⟨_, Z, Z⟩, false, Z, H, b4.gr.g0⟩))))
  have H := Xo H bn;refine Xz (Xd (Xe (vi i4) Z ?_));obtain ⟨dd, H⟩ := H;have de : I64 (i4 + 1) := i64_succ (of_decide_eq_true aw) c5 dd;refine Xa (Yb i4 1 Z Z de) (Xf (vi (i4 + 1)) Z (Xb ?_));obtain ⟨df, dg⟩ := H;have ao := bj.stn b3;have dh := (bm.st ao);have di := (bx.st ao);exact ⟨i4 + 1, dg, df, (Xv Z), b4, (c2.st ao), (ap.st ao), (c4.st ao), (bl.st ao), dh, di⟩
 have H := Xo H aw;refine Yl (xin_hit ?_);exact Xc (Xd (Xf (vb true) Z (Xb (Xk ⟨[vb true], ⟨_, Z, Z⟩, true, Z, H, bj.gr.g0⟩))))
def laws_FnRepoSame.E (code : List UInt8) (Q : Bool → Prop) : Prop :=
 (if decide ((code.length : Int) > 1048576) then Q true else F11.E code (fun r r2 => F42.E r r2 (fun r3 => F43.E r r2 (fun r4 => (if r3 != r4 then Q false else F42.E r2 r (fun r5 => (if r3 != r5 then Q false else F42.E r r (fun r6 => (if !r6 then Q false else (([] : List Commit).length + r.Commits.length ≤ 268435456) ∧ ((0 : Int) ≤ 0 ∧ 0 < (r.Commits.length : Int)) ∧ (((nth r.Commits 0).Note).length + ([120] : Str).length ≤ 9223372036854775807) ∧ ((0 : Int) ≤ 0 ∧ 0 < ((([] : List Commit) ++ r.Commits).length : Int)) ∧ (([] : List Head).length + r.Heads.length ≤ 268435456) ∧ ((([] : List Head) ++ r.Heads).length + ([(⟨[], 0⟩ : Head)] : List Head).length ≤ 268435456) ∧ ((code.length : Int) ≤ 9223372036854775807 → (r.Commits.length : Int) ≤ 9223372036854775807 → I64 ((r.Commits.length : Int) - 1)) ∧ ((0 : Int) ≤ 0 ∧ (0 : Int) ≤ (r.Commits.length : Int) - 1 ∧ (r.Commits.length : Int) - 1 ≤ (r.Commits.length : Int)) ∧ F42.E r (⟨((([] : List Commit) ++ r.Commits).set (0 : Int).toNat (⟨(nth (([] : List Commit) ++ r.Commits) 0).Up, (nth (([] : List Commit) ++ r.Commits) 0).Sheet, (((nth r.Commits 0).Note) ++ ([120] : Str))⟩ : Commit)), r.Heads⟩ : Repo) (fun r7 => (if !r7 then F42.E r (⟨r.Commits, ((([] : List Head) ++ r.Heads) ++ ([(⟨[], 0⟩ : Head)] : List Head))⟩ : Repo) (fun r8 => (if !r8 then F42.E r (⟨((r.Commits.drop (0 : Int).toNat).take (((r.Commits.length : Int) - 1).toNat - (0 : Int).toNat)), r.Heads⟩ : Repo) (fun r9 => Q (!r9)) else Q false)) else Q false)))))))))))
theorem laws_FnRepoSame.calls {O : Ob} (w0 : World) (hO : Ok w0 O) (code : List UInt8) (A1 : Option Addr) (n2 c3 : Nat) (hp4 : Sl Kd.byte w0 (Fr O) (G A1 n2 c3) code) (Q : Bool → Prop) (h : laws_FnRepoSame.E code Q) :
  Ret Try.prog 3 [G A1 n2 c3] w0 (fun v w' => ∃ (r0 : Bool), v = vb r0 ∧ Q r0 ∧ Gr w0 w' none) := by
 unfold laws_FnRepoSame.E at h;have H := h;clear h;have hc0 := Ct.init hO;refine X9 Try.func3 Z 88 Z [.tmp 2] Z Z ?_;refine Xc (Xd (Xf (vb false) Z (Xb (Xc (Xc (Xd (Xe (G A1 n2 c3) Z ?_)))))));have hl6 := hp4.le;refine Xa (X3 u22_ A1 n2 c3 hp4.len Z) (Xa (Xw (code.length : Int) 1048576 (decide ((code.length : Int) > 1048576)) Z Z Z) (Xb ?_));refine Xu (decide ((code.length : Int) > 1048576)) Z (fun hq7 => ?_) (fun hq7 => ?_)
 ·have H := Xn H hq7;exact Xc (Xd (Xf (vb true) Z (Xb (Xk ⟨[vb true], ⟨_, Z, Z⟩, true, Z, H, hc0.gr.g0⟩))))
 have H := Xo H hq7;refine Xz (Xc (Xd (Xe (G A1 n2 c3) Z ?_)));refine Xs go7 (F11.calls H hc0.ok hp4) Z ?_;rintro _ w8 ⟨r, r2, aa, ac, ad, ab, ae, af, ai, au, av, ah, aw, ax, rfl, H, g9, e0, e1, b4, b5, c4, c5⟩;have e2 := hc0.owns g9 e0 e1;refine Xe (.tuple #[.agg #[G aa ac ad, G ab ae af], .agg #[G ai au av, G ah aw ax]]) Z (Xa (Y9 [.agg #[G aa ac ad, G ab ae af], .agg #[G ai au av, G ah aw ax]] 0 (.agg #[G aa ac ad, G ab ae af]) Z Z) (Xa (Y9 [.agg #[G aa ac ad, G ab ae af], .agg #[G ai au av, G ah aw ax]] 1 (.agg #[G ai au av, G ah aw ax]) Z Z) (Yf [G none 0 0, G none 0 0] ze26 fun i2 ag ao hu38 ap e3 => ?_)));have e4 := e2.own ap (some ag) (Yd ao hu38);refine Yf [G none 0 0, G none 0 0] ze26 fun i3 ar aq hu46 aj e5 => ?_;have ak := e4.own aj (some ar) (Yd aq hu46);have e6 := (e3.k0 aj);refine Xt [G aa ac ad, G ab ae af] e6 Z Z sz26 Z Z fun i4 al e7 => ?_;have am := ak.wr 1 Z al;have e8 := (ak.bm e5 0 1 Z Z Z al);refine Xt [G ai au av, G ah aw ax] e8 Z Z sz26 Z Z fun ds an dt => ?_;have bu := am.wr 0 Z an;refine Xb (Xc (Xd ?_));have du := (am.bm e7 1 0 Z Z Z an);refine Xa (Xr ag26 sz26 cL (Ad ag 0) [G aa ac ad, G ab ae af] Z Z (du.cells (off := 00) Z)) (Xa (Xr ag26 sz26 cL (Ad ar 0) [G ai au av, G ah aw ax] Z Z (dt.cells (off := 00) Z)) ?_);have e9 := (am.sw (ak.sw ((b4.so _ ap (Xi ao)).so _ aj (Xi aq)) 2 1 Z Z Z al) 2 0 Z Z Z an);have fa := bu.gv e9 2 Z;have b6 := bu.drop 2 Z;have fb := (bu.sd (am.sw (ak.sw ((b5.so _ ap (Xi ao)).so _ aj (Xi aq)) 3 1 Z Z Z al) 3 0 Z Z Z an) 3 2 Z Z Z);have fc := b6.gv fb 2 Z;have co := b6.drop 2 Z;have fd := (b6.sd (bu.sd (am.sw (ak.sw ((c4.so _ ap (Xi ao)).so _ aj (Xi aq)) 4 1 Z Z Z al) 4 0 Z Z Z an) 4 2 Z Z Z) 3 2 Z Z Z);have fe := co.gv fd 2 Z;have c6 : Ct [] w0 ds [some ar, some ag, bk ah] O := co.drop 2 Z;have ff := (co.sd (b6.sd (bu.sd (am.sw (ak.sw ((c5.so _ ap (Xi ao)).so _ aj (Xi aq)) 5 1 Z Z Z al) 5 0 Z Z Z an) 5 2 Z Z Z) 4 2 Z Z Z) 3 2 Z Z Z);have fg := c6.gv ff 2 Z;have fh := c6.drop 2 Z;have fi := b6.std 2 Z;have dv := co.std 2 Z;have c7 := c6.std 2 Z;have fj := (((fa.st fi).st dv).st c7);have fk := ((fc.st dv).st c7);refine Xs go8 (F42.calls H fh.ok fj fk (fe.st c7) fg) Z ?_;rintro _ dw ⟨r3, rfl, H, ay⟩;have bv := bu.k0 ay;refine Xf (vb r3) Z (Xb (Xc (Xc (Xd (Xe (vb r3) Z ?_)))));have dx := (du.k0 ay);refine Xa (Xr ag26 sz26 cL (Ad ag 0) [G aa ac ad, G ab ae af] Z Z (dx.cells (off := 00) Z)) ?_;have dy := (dt.k0 ay);refine Xa (Xr ag26 sz26 cL (Ad ar 0) [G ai au av, G ah aw ax] Z Z (dy.cells (off := 00) Z)) ?_;have fl := ((am.sw (ak.sw ((b4.so _ ap (Xi ao)).so _ aj (Xi aq)) 2 1 Z Z Z al) 2 0 Z Z Z an).sn ay);have fm := bv.gv fl 2 Z;have b7 := bv.drop 2 Z;have fn := (bv.sd ((am.sw (ak.sw ((b5.so _ ap (Xi ao)).so _ aj (Xi aq)) 3 1 Z Z Z al) 3 0 Z Z Z an).sn ay) 3 2 Z Z Z);have fo := b7.gv fn 2 Z;have cp := b7.drop 2 Z;have fp := (b7.sd (bv.sd ((am.sw (ak.sw ((c4.so _ ap (Xi ao)).so _ aj (Xi aq)) 4 1 Z Z Z al) 4 0 Z Z Z an).sn ay) 4 2 Z Z Z) 3 2 Z Z Z);have fq := cp.gv fp 2 Z;have c8 : Ct [] w0 dw [some ar, some ag, bk ah] O := cp.drop 2 Z;have fr := (cp.sd (b7.sd (bv.sd ((am.sw (ak.sw ((c5.so _ ap (Xi ao)).so _ aj (Xi aq)) 5 1 Z Z Z al) 5 0 Z Z Z an).sn ay) 5 2 Z Z Z) 4 2 Z Z Z) 3 2 Z Z Z);have fs := c8.gv fr 2 Z;have ft := c8.drop 2 Z;have fu := b7.std 2 Z;have dz := cp.std 2 Z;have c9 := c8.std 2 Z;have fv := (((fm.st fu).st dz).st c9);have fw := ((fo.st dz).st c9);refine Xs go9 (F43.calls H ft.ok fv fw (fq.st c9) fs) Z ?_;rintro _ d0 ⟨r4, rfl, H, a5⟩;have bp := bv.k0 a5;refine Xa (Zt Try.underlying4 r3 r4 (r3 != r4) Z Z Z) (Xe (vb (r3 != r4)) Z ?_);rcases Yc (r3 != r4) with az | az
 ·have H := Xn H az;refine Xq az Z (Xq az Z (Xq az Z (Xq az Z (Xq az Z (Xa (X2 true (vb true) az Z) (Xe (vb true) Z (X7 (dj := 32) Z Z (.inl Z) (X7 (dj := 32) Z Z (.inl Z) ?_))))))));refine X7 (dj := 32) Z Z (.inl Z) (X7 (dj := 32) Z Z (.inl Z) (Xa (X2 true (vb true) Z Z) (Xb (Yz (b := true) Z Z ?_))));refine Xc ?_;have fx : ([some ar, some ag, bk aa, bk ab, bk ai, bk ah] : Ob).Perm ((some ar :: some ag :: bk aa :: bk ab :: bk ai :: bk ah :: []) ++ []) := RP;have fy := bp.drops fx;exact Xd (Xf (vb false) Z (Xb (Xk ⟨[vb false], ⟨_, Z, Z⟩, false, Z, H, fy.gr.g0⟩)))
 have H := Xo H az;refine Xp az Z (Xe (vb r3) Z (Xp az Z ?_));have fz := (dy.k0 a5);refine Xa (Xr ag26 sz26 cL (Ad ar 0) [G ai au av, G ah aw ax] Z Z (fz.cells (off := 00) Z)) (Xp az Z ?_);have d1 := (dx.k0 a5);refine Xa (Xr ag26 sz26 cL (Ad ag 0) [G aa ac ad, G ab ae af] Z Z (d1.cells (off := 00) Z)) (Xp az Z ?_);have f0 := (((am.sw (ak.sw ((c4.so _ ap (Xi ao)).so _ aj (Xi aq)) 4 1 Z Z Z al) 4 0 Z Z Z an).sn ay).sn a5);have f1 := bp.gv f0 4 Z;have b8 := bp.drop 4 Z;have f2 := (bp.sd (((am.sw (ak.sw ((c5.so _ ap (Xi ao)).so _ aj (Xi aq)) 5 1 Z Z Z al) 5 0 Z Z Z an).sn ay).sn a5) 5 4 Z Z Z);have f3 := b8.gv f2 4 Z;have cq := b8.drop 4 Z;have f4 := (b8.sd (bp.sd (((am.sw (ak.sw ((b4.so _ ap (Xi ao)).so _ aj (Xi aq)) 2 1 Z Z Z al) 2 0 Z Z Z an).sn ay).sn a5) 2 4 Z Z Z) 2 4 Z Z Z);have f5 := cq.gv f4 2 Z;have da : Ct [] w0 d0 [some ar, some ag, bk ab] O := cq.drop 2 Z;have f6 := (cq.sd (b8.sd (bp.sd (((am.sw (ak.sw ((b5.so _ ap (Xi ao)).so _ aj (Xi aq)) 3 1 Z Z Z al) 3 0 Z Z Z an).sn ay).sn a5) 3 4 Z Z Z) 3 4 Z Z Z) 3 2 Z Z Z);have f7 := da.gv f6 2 Z;have f8 := da.drop 2 Z;have f9 := b8.std 4 Z;have d2 := cq.std 2 Z;have db := da.std 2 Z;have ga := (((f1.st f9).st d2).st db);have gb := ((f3.st d2).st db);refine Xs go8 (F42.calls H f8.ok ga gb (f5.st db) f7) Z ?_;rintro _ gc ⟨r5, rfl, H, bw⟩;have b9 := bp.k0 bw;refine Xp az Z (Xa (Zt Try.underlying4 r3 r5 (r3 != r5) Z Z Z) (Xa (X2 false (vb (r3 != r5)) az Z) (Xe (vb (r3 != r5)) Z ?_)));rcases Yc (r3 != r5) with a0 | a0
 ·have H := Xn H a0;refine Xq a0 Z (Xq a0 Z (Xq a0 Z (Xq a0 Z (Xa (X2 true (vb true) a0 Z) (Xb (Yz (b := true) Z Z ?_))))));refine Xc ?_;have gd : ([some ar, some ag, bk aa, bk ab, bk ai, bk ah] : Ob).Perm ((some ar :: some ag :: bk aa :: bk ab :: bk ai :: bk ah :: []) ++ []) := RP;have ge := b9.drops gd;exact Xd (Xf (vb false) Z (Xb (Xk ⟨[vb false], ⟨_, Z, Z⟩, false, Z, H, ge.gr.g0⟩)))
 have H := Xo H a0;refine Xp a0 Z ?_;have dc := (d1.k0 bw);refine Xa (Xr ag26 sz26 cL (Ad ag 0) [G aa ac ad, G ab ae af] Z Z (dc.cells (off := 00) Z)) (Xp a0 Z (Xa (Xr ag26 sz26 cL (Ad ag 0) [G aa ac ad, G ab ae af] Z Z (dc.cells (off := 00) Z)) (Xp a0 Z ?_)));have gf := ((((am.sw (ak.sw ((b4.so _ ap (Xi ao)).so _ aj (Xi aq)) 2 1 Z Z Z al) 2 0 Z Z Z an).sn ay).sn a5).sn bw);have d3 := b9.gv gf 2 Z;have dd := b9.drop 2 Z;have gg := (b9.sd ((((am.sw (ak.sw ((b5.so _ ap (Xi ao)).so _ aj (Xi aq)) 3 1 Z Z Z al) 3 0 Z Z Z an).sn ay).sn a5).sn bw) 3 2 Z Z Z);have d4 := dd.gv gg 2 Z;have gh := dd.drop 2 Z;have d5 := dd.std 2 Z;refine Xs go8 (F42.calls H gh.ok (d3.st d5) d4 (d3.st d5) d4) Z ?_;rintro _ i5 ⟨r6, rfl, H, cr⟩;have cs := b9.k0 cr;refine Xp a0 Z (Xa (Yp r6 Z) (Xa (X2 false (vb (!r6)) a0 Z) (Xb ?_)));refine Xu (!r6) Z (fun de => ?_) (fun de => ?_)
 ·have H := Xn H de;refine Xc ?_;have gi : ([some ar, some ag, bk aa, bk ab, bk ai, bk ah] : Ob).Perm ((some ar :: some ag :: bk aa :: bk ab :: bk ai :: bk ah :: []) ++ []) := RP;have gj := cs.drops gi;exact Xd (Xf (vb false) Z (Xb (Xk ⟨[vb false], ⟨_, Z, Z⟩, false, Z, H, gj.gr.g0⟩)))
 have H := Xo H de;refine Xz (Xc ?_);have df : ([some ar, some ag, bk aa, bk ab, bk ai, bk ah] : Ob).Perm ((some ar :: bk ai :: bk ah :: []) ++ [some ag, bk aa, bk ab]) := RP;have gk := cs.drops df;refine Xd ?_;have d6 := (dc.k0 cr);refine Xa (Xr ag26 sz26 cL (Ad ag 0) [G aa ac ad, G ab ae af] Z Z (d6.cells (off := 00) Z)) (Yf [G none 0 0, G none 0 0] ze26 fun i6 a6 dg hu178 ct gl => ?_);have cu := gk.own ct (some a6) (Yd dg hu178);refine Xt [G aa ac ad, G ab ae af] gl Z Z sz26 Z Z fun i7 cv gm => ?_;have gn := cu.wr 0 Z cv;refine Xb (Xc (Xd (X5 (kd := kCommit) Yr gn ([] : List Commit) (cells := []) Z RF fun i8 gp gq gs cw hr191 ca gt => ?_)));refine Xa (Xg fa26_0 (Ad ag 0) (Ad ag 0) Z Z) ?_;have d7 := ((cu.bm (d6.k0 ct) 1 0 Z Z Z cv).k0 cw);refine Xa (Xj ag23 cL (Ad ag 0) (G aa ac ad) Z (d7.cell Z)) ?_;have d8 := ((cu.sw ((cs.odr (((((am.sw (ak.sw ((b4.so _ ap (Xi ao)).so _ aj (Xi aq)) 2 1 Z Z Z al) 2 0 Z Z Z an).sn ay).sn a5).sn bw).sn cr) df 1 Z).so _ ct (Xi dg)) 2 0 Z Z Z cv).so _ cw hr191);obtain ⟨gu, H⟩ := H;refine Ya Yr ca (G gp gq gs) ([] : List Commit) r.Commits Z gt (G aa ac ad) Z d8.sx 0 Z gu fun i9 ba bh bi cx d9 cb gw => ?_;refine Xa (Xg fa26_0 (Ad a6 0) (Ad a6 0) Z Z) ?_;have gx := (ca.bm (gm.k0 cw) 1 0 Z Z Z cx);refine Ye 0 [G ba bh bi] [G ba bh bi, G ab ae af] gx Z Z sz23 Z Z Z fun ja cc gy => ?_;have gz := cb.wr 1 Z cc;refine Xb (Xc (Z5 10 RK RK fun jb bx => ?_));have cd := gz.k0 bx;refine Y1 (Xg fa26_0 (Ad a6 0) (Ad a6 0) Z Z) ?_;have ea := (gy.k0 bx);refine Y1 (Xj ag23 cL (Ad a6 0) (G ba bh bi) Z (ea.cell Z)) ?_;refine Y1 (Xg fa26_0 (Ad ag 0) (Ad ag 0) Z Z) ?_;have eb := ((cb.bm (ca.bm d7 2 0 Z Z Z cx) 2 1 Z Z Z cc).k0 bx);refine Y1 (Xj ag23 cL (Ad ag 0) (G aa ac ad) Z (eb.cell Z)) ?_;obtain ⟨ec, H⟩ := H;have dh := ((cb.sw (ca.sm d8 3 0 Z Z Z cx d9) 3 1 Z Z Z cc).sn bx);obtain ⟨cy, jc, g1, g2, g3⟩ := dh.get default RD 0 ec;obtain ⟨jd, je, jf, jg, jh, ji, rfl, jj, jk, jl⟩ := kCommit.op g2;refine Y1 (X0 u23_ Y2 aa cy ac ad dh.len 0 Z g1 Z ec) ?_;refine Y1 (Xg fa33_2 (cy.add ((0 : Int).toNat * 3)) ((cy.add ((0 : Int).toNat * 3)).add 2) Z Z) ?_;refine Y1 (Xj ag9 cL ((cy.add ((0 : Int).toNat * 3)).add 2) (vs ((nth r.Commits 0).Note)) Z (g3 2 _ Z)) ?_;obtain ⟨ed, H⟩ := H;refine Y1 (Zz ((nth r.Commits 0).Note) ([120] : Str) Z Z ed) ?_;obtain ⟨di, H⟩ := H;have dk := ((cb.sw gw 0 1 Z Z Z cc).sn bx);obtain ⟨cz, jm, ee, g4, g5⟩ := dk.get default RD 0 di;obtain ⟨ef, eg, eh, ei, ej, ek, rfl, g6, g7, jn⟩ := kCommit.op g4;refine Y1 (X0 u23_ Y2 ba cz bh bi dk.len 0 Z ee Z di) ?_;refine Y1 (Xg fa33_2 (cz.add ((0 : Int).toNat * 3)) ((cz.add ((0 : Int).toNat * 3)).add 2) Z Z) ?_;refine Z6 ?_;refine Yy ba bh bi (([] : List Commit) ++ r.Commits) dk 0 di cz ee 2 Z [vs (((nth r.Commits 0).Note) ++ ([120] : Str))] Z sz9 Z (⟨(nth (([] : List Commit) ++ r.Commits) 0).Up, (nth (([] : List Commit) ++ r.Commits) 0).Sheet, (((nth r.Commits 0).Note) ++ ([120] : Str))⟩ : Commit) [G ef eg eh, G ei ej ek, vs ((nth (([] : List Commit) ++ r.Commits) 0).Note)] [G ef eg eh, G ei ej ek, vs (((nth r.Commits 0).Note) ++ ([120] : Str))] g5 Z Z (kCommit.mk _ _ (⟨(nth (([] : List Commit) ++ r.Commits) 0).Up, (nth (([] : List Commit) ++ r.Commits) 0).Sheet, (((nth r.Commits 0).Note) ++ ([120] : Str))⟩ : Commit) g6 g7 (lim_cat ed)) fun jo ce g8 => ?_;have ha := cd.wr 0 Z ce;refine Xb (Xc (Xd ?_));have el := (cd.bm eb 2 0 Z Z Z ce);refine Xa (Xr ag26 sz26 cL (Ad ag 0) [G aa ac ad, G ab ae af] Z Z (el.cells (off := 00) Z)) (Yf [G none 0 0, G none 0 0] ze26 fun jp bj c0 hu265 bz hb => ?_);have b0 := ha.own bz (some bj) (Yd c0 hu265);refine Xt [G aa ac ad, G ab ae af] hb Z Z sz26 Z Z fun jq b1 hc => ?_;have hd := b0.wr 0 Z b1;refine Xb (Xc (Xd (X5 (kd := kHead) Y4 hd ([] : List Head) (cells := []) Z RF fun jr he hf hg b2 hr278 bb hh => ?_)));refine Xa (Xg fa26_1 (Ad ag 0) (Ad ag 1) Z Z) ?_;have em := ((b0.bm (el.k0 bz) 3 0 Z Z Z b1).k0 b2);refine Xa (Xj ag24 cL (Ad ag 1) (G ab ae af) Z (em.cell Z)) ?_;have c1 := ((b0.sw ((cd.sw ((cb.sw (ca.sm ((cu.sw ((cs.odr (((((am.sw (ak.sw ((b5.so _ ap (Xi ao)).so _ aj (Xi aq)) 3 1 Z Z Z al) 3 0 Z Z Z an).sn ay).sn a5).sn bw).sn cr) df 2 Z).so _ ct (Xi dg)) 3 0 Z Z Z cv).so _ cw hr191) 4 0 Z Z Z cx d9) 4 1 Z Z Z cc).sn bx) 4 0 Z Z Z ce).so _ bz (Xi c0)) 5 0 Z Z Z b1).so _ b2 hr278);obtain ⟨hi, H⟩ := H;refine Ya Y4 bb (G he hf hg) ([] : List Head) r.Heads Z hh (G ab ae af) Z c1.sx 0 Z hi fun js hj hk hl bl cf hm hn => ?_;refine Xa (Yn (.agg #[vs [], vi 0]) RF) (X5 (kd := kHead) Y4 hm ([(⟨([] : Str), 0⟩ : Head)] : List Head) (cells := [vs [], vi 0]) ⟨[vs [], vi 0], _, Z, (kHead.mk _ _ (⟨([] : Str), 0⟩ : Head) RD), Z⟩ RF fun jt dl ho hp bc hr299 bd hq => ?_);obtain ⟨hr, H⟩ := H;have hs := (hn.so _ bc hr299);refine Ya Y4 bd (G hj hk hl) (([] : List Head) ++ r.Heads) ([(⟨([] : Str), 0⟩ : Head)] : List Head) Z hs (G dl ho hp) Z hq.sx 1 Z hr fun ju b3 cg ch bn ci be ht => ?_;refine Xa (Xg fa26_1 (Ad bj 0) (Ad bj 1) Z Z) ?_;have hu := (bd.bm ((bb.bm (hc.k0 b2) 1 0 Z Z Z bl).k0 bc) 2 1 Z Z Z bn);refine Ye 1 [G b3 cg ch] [G aa ac ad, G b3 cg ch] hu Z Z sz24 Z Z Z fun jv bf hv => ?_;have hw := be.wr 2 Z bf;refine Xb (Xc (Xd ?_));have en := (be.bm (bd.bm ((bb.bm em 4 0 Z Z Z bl).k0 bc) 5 1 Z Z Z bn) 5 2 Z Z Z bf);refine Xa (Xr ag26 sz26 cL (Ad ag 0) [G aa ac ad, G ab ae af] Z Z (en.cells (off := 00) Z)) (Yf [G none 0 0, G none 0 0] ze26 fun jw bo bq hu324 a7 hx => ?_);have a8 := hw.own a7 (some bo) (Yd bq hu324);refine Xt [G aa ac ad, G ab ae af] hx Z Z sz26 Z Z fun jx a9 hy => ?_;have br := a8.wr 0 Z a9;refine Xb (Xc (Xd (Xa (Xg fa26_0 (Ad ag 0) (Ad ag 0) Z Z) ?_)));have dm := (a8.bm (en.k0 a7) 6 0 Z Z Z a9);refine Xa (Xj ag23 cL (Ad ag 0) (G aa ac ad) Z (dm.cell Z)) (Xa (Xg fa26_0 (Ad ag 0) (Ad ag 0) Z Z) (Xa (Xj ag23 cL (Ad ag 0) (G aa ac ad) Z (dm.cell Z)) ?_));have dn := (a8.sw ((be.sw (bd.sm ((bb.sm ((b0.sw ((cd.sw dh 3 0 Z Z Z ce).so _ bz (Xi c0)) 4 0 Z Z Z b1).so _ b2 hr278) 5 0 Z Z Z bl cf).so _ bc hr299) 6 1 Z Z Z bn ci) 6 2 Z Z Z bf).so _ a7 (Xi bq)) 7 0 Z Z Z a9);have hz := dn.le;refine Xa (X3 u23_ aa ac ad dn.len Z) ?_;obtain ⟨h0, H⟩ := H;have h1 := h0 (len_le hl6) (len_le hz);refine Xa (Yg (r.Commits.length : Int) 1 Z Z h1) ?_;have c2 := br.gv dn 7 Z;have a3 := br.drop 7 Z;obtain ⟨h2, H⟩ := H;refine Zp u23_ Y2 aa ac ad r.Commits Z c2 0 ((r.Commits.length : Int) - 1) Z Z h2 fun cj ck cl h3 => ?_;refine Xa (Xg fa26_0 (Ad bo 0) (Ad bo 0) Z Z) ?_;have h4 := hy;refine Ye 0 [G cj ck cl] [G cj ck cl, G ab ae af] h4 Z Z sz23 Z Z Z fun eo a4 h5 => ?_;have bs := a3.wr 0 Z a4;refine Xb (Xc (Xd ?_));have ep := (a3.bm dm 6 0 Z Z Z a4);refine Xa (Xr ag26 sz26 cL (Ad ag 0) [G aa ac ad, G ab ae af] Z Z (ep.cells (off := 00) Z)) ?_;have h6 := (a3.bm (a8.bm ((be.bm (bd.bm ((bb.bm ((b0.bm ((cd.bm ea 1 0 Z Z Z ce).k0 bz) 2 0 Z Z Z b1).k0 b2) 3 0 Z Z Z bl).k0 bc) 4 1 Z Z Z bn) 4 2 Z Z Z bf).k0 a7) 5 0 Z Z Z a9) 5 0 Z Z Z a4);refine Xa (Xr ag26 sz26 cL (Ad a6 0) [G ba bh bi, G ab ae af] Z Z (h6.cells (off := 00) Z)) ?_;have h7 := (a3.sw (br.sd (a8.sw ((be.sw (bd.sm ((bb.sm c1 6 0 Z Z Z bl cf).so _ bc hr299) 7 1 Z Z Z bn ci) 7 2 Z Z Z bf).so _ a7 (Xi bq)) 8 0 Z Z Z a9) 8 7 Z Z Z) 7 0 Z Z Z a4);have eq := bs.gv h7 7 Z;have dp := bs.drop 7 Z;have h8 := (bs.sd (a3.sw (br.sd (a8.sw ((be.sw (bd.sm ((bb.sm ((b0.sw (g8.so _ bz (Xi c0)) 1 0 Z Z Z b1).so _ b2 hr278) 2 0 Z Z Z bl cf).so _ bc hr299) 3 1 Z Z Z bn ci) 3 2 Z Z Z bf).so _ a7 (Xi bq)) 4 0 Z Z Z a9) 4 7 Z Z Z) 4 0 Z Z Z a4) 4 7 Z Z Z);have h9 := dp.gv h8 4 Z;have ia : Ct [] w0 eo [some bo, bk dl, bk b3, some bj, some a6, some ag] O := dp.drop 4 Z;have ib := a3.stw 0 Z a4;have ic := bs.std 7 Z;have dq := dp.std 4 Z;have id := (((c2.st ib).st ic).st dq);refine Xs go8 (F42.calls H ia.ok id (eq.st dq) h9 (eq.st dq)) Z ?_;rintro _ er ⟨r7, rfl, H, bg⟩;have bt := bs.k0 bg;refine Xa (Yp r7 Z) (Xe (vb (!r7)) Z ?_);rcases Yc (!r7) with a1 | a1
 ·have H := Xn H a1;refine Xp a1 Z ?_;have es := (ep.k0 bg);refine Xa (Xr ag26 sz26 cL (Ad ag 0) [G aa ac ad, G ab ae af] Z Z (es.cells (off := 00) Z)) (Xp a1 Z ?_);have ie := ((a3.bm (a8.bm (hv.k0 a7) 3 0 Z Z Z a9) 3 0 Z Z Z a4).k0 bg);refine Xa (Xr ag26 sz26 cL (Ad bj 0) [G aa ac ad, G b3 cg ch] Z Z (ie.cells (off := 00) Z)) (Xp a1 Z ?_);have ig := ((a3.sw (br.sd (a8.sw ((be.sw (bd.sm ((bb.sm c1 6 0 Z Z Z bl cf).so _ bc hr299) 7 1 Z Z Z bn ci) 7 2 Z Z Z bf).so _ a7 (Xi bq)) 8 0 Z Z Z a9) 8 7 Z Z Z) 7 0 Z Z Z a4).sn bg);have ih := bt.gv ig 7 Z;have dr := bt.drop 7 Z;have ii := (bt.sd ((a3.sw (br.sd (a8.sw ((be.sw ht 1 2 Z Z Z bf).so _ a7 (Xi bq)) 2 0 Z Z Z a9) 2 7 Z Z Z) 2 0 Z Z Z a4).sn bg) 2 7 Z Z Z);have ij := dr.gv ii 2 Z;have ik : Ct [] w0 er [some bo, bk dl, some bj, bk ba, some a6, some ag] O := dr.drop 2 Z;have il := a3.stw 0 Z a4;have im := bs.stn bg;have io := bt.std 7 Z;have et := dr.std 2 Z;have eu := ((((c2.st il).st im).st io).st et);refine Xs go8 (F42.calls H ik.ok eu (ih.st et) eu ij) Z ?_;rintro _ ip ⟨r8, rfl, H, cm⟩;have cn := bt.k0 cm;refine Xp a1 Z (Xa (Yp r8 Z) (Xa (X2 true (vb (!r8)) a1 Z) (Xe (vb (!r8)) Z ?_)));rcases Yc (!r8) with a2 | a2
  ·have H := Xn H a2;refine Xp a2 Z ?_;have iq := (es.k0 cm);refine Xa (Xr ag26 sz26 cL (Ad ag 0) [G aa ac ad, G ab ae af] Z Z (iq.cells (off := 00) Z)) (Xp a2 Z ?_);have ir := ((h5.k0 bg).k0 cm);refine Xa (Xr ag26 sz26 cL (Ad bo 0) [G cj ck cl, G ab ae af] Z Z (ir.cells (off := 00) Z)) (Xp a2 Z ?_);have it := (((a3.sw (br.sd (a8.sw ((be.sw (bd.sm ((bb.sm c1 6 0 Z Z Z bl cf).so _ bc hr299) 7 1 Z Z Z bn ci) 7 2 Z Z Z bf).so _ a7 (Xi bq)) 8 0 Z Z Z a9) 8 7 Z Z Z) 7 0 Z Z Z a4).sn bg).sn cm);have ev := cn.gv it 7 Z;have iu := cn.drop 7 Z;have ew := a3.stw 0 Z a4;have ex := bs.stn bg;have ey := bt.stn cm;have ez := cn.std 7 Z;have iv := ((((c2.st ew).st ex).st ey).st ez);have iw := ((((h3.st ew).st ex).st ey).st ez);refine Xs go8 (F42.calls H iu.ok iv ev iw ev) Z ?_;rintro _ jy ⟨r9, rfl, H, ix⟩;have iy := cn.k0 ix;refine Xp a2 Z (Xa (Yp r9 Z) (Xa (X2 true (vb (!r9)) a2 Z) (Xf (vb (!r9)) Z (Xb (Xk ?_)))));have iz := iy.clear;exact ⟨[vb (!r9)], ⟨_, Z, Z⟩, !r9, Z, H, iz.gr.g0⟩
  have H := Xo H a2;refine Xq a2 Z (Xq a2 Z (Xq a2 Z (Xq a2 Z (Xa (X2 false (vb false) a2 Z) (Xf (vb false) Z (Xb (Xk ?_)))))));have i0 := cn.clear;exact ⟨[vb false], ⟨_, Z, Z⟩, false, Z, H, i0.gr.g0⟩
 have H := Xo H a1;refine Xq a1 Z (Xq a1 Z (Xq a1 Z (Xq a1 Z (Xa (X2 false (vb false) a1 Z) (Xe (vb false) Z (X7 (dj := 82) Z Z (.inl Z) (X7 (dj := 82) Z Z (.inl Z) (X7 (dj := 82) Z Z (.inl Z) ?_))))))));refine X7 (dj := 82) Z Z (.inl Z) (Xa (X2 false (vb false) Z Z) (Xf (vb false) Z (Xb (Xk ?_))));have i1 := bt.clear;exact ⟨[vb false], ⟨_, Z, Z⟩, false, Z, H, i1.gr.g0⟩
section
section
variable {α : Type} [DecidableEq α]
def lcsR (x : α) (p : List α → Nat) : List α → Nat
 | [] => 0
 | y :: b => if x = y then p b + 1 else max (p (y :: b)) (lcsR x p b)
def lcs : List α → List α → Nat
 | [] => fun _ => 0
 | x :: a => lcsR x (lcs a)
@[simp] theorem lcs_nil (b : List α) : lcs [] b = 0 := rfl
@[simp] theorem lcs_nil2 (a : List α) : lcs a [] = 0 := by cases a <;> rfl
theorem pp {a b c d : Nat} (h : a = c) (k : b = d) : (a, b) = (c, d) := by rw [h, k]
def pairs (i j : Nat) : List α → List α → List (Nat × Nat)
 | x :: a, y :: b => if x = y then (i, j) :: pairs (i + 1) (j + 1) a b else if lcs (x :: a) b ≤ lcs a (y :: b) then pairs (i + 1) j a (y :: b) else pairs i (j + 1) (x :: a) b
 | [], _ => []
 | _ :: _, [] => []
 termination_by a b => a.length + b.length
theorem pairs_nil (i j : Nat) (b : List α) : pairs i j [] b = [] := by rw [pairs]
theorem pairs_nil2 (i j : Nat) (a : List α) : pairs i j a [] = [] := by cases a <;> rw [pairs]
theorem pairs_cons (i j : Nat) (x y : α) (a b : List α) : pairs i j (x :: a) (y :: b) = if x = y then (i, j) :: pairs (i + 1) (j + 1) a b else if lcs (x :: a) b ≤ lcs a (y :: b) then pairs (i + 1) j a (y :: b) else pairs i (j + 1) (x :: a) b := by rw [pairs]
theorem pairs_ind {C : Nat → Nat → List α → List α → Prop} (h0 : ∀ i j b, C i j [] b) (h1 : ∀ i j a, C i j a [])
  (he : ∀ i j x a b, C (i + 1) (j + 1) a b → C i j (x :: a) (x :: b))
  (ha : ∀ i j x y a b, x ≠ y → lcs (x :: a) b ≤ lcs a (y :: b) → C (i + 1) j a (y :: b) → C i j (x :: a) (y :: b))
  (hb : ∀ i j x y a b, x ≠ y → ¬ lcs (x :: a) b ≤ lcs a (y :: b) → C i (j + 1) (x :: a) b → C i j (x :: a) (y :: b)) : ∀ i j (a b : List α), C i j a b := by
 have : ∀ n i j (a b : List α), a.length + b.length ≤ n → C i j a b := by
  intro n
  induction n with
  | zero => intro i j a b h; cases a with
   | nil => exact h0 _ _ _
   | cons _ _ => simp at h
  | succ n ih =>
   intro i j a b h
   cases a with
   | nil => exact h0 _ _ _
   | cons x a => cases b with
    | nil => exact h1 _ _ _
    | cons y b =>
     simp only [List.length_cons] at h
     by_cases e : x = y
     ·subst e; exact he _ _ _ _ _ (ih _ _ _ _ OM)
     ·by_cases l : lcs (x :: a) b ≤ lcs a (y :: b)
      ·exact ha _ _ _ _ _ _ e l (ih _ _ _ _ (by simp only [List.length_cons]; omega))
      ·exact hb _ _ _ _ _ _ e l (ih _ _ _ _ (by simp only [List.length_cons]; omega))
 exact fun i j a b => this _ i j a b (Nat.le_refl _)
theorem pairs_mem (i j : Nat) (a b : List α) : ∀ p ∈ pairs i j a b, ∃ k l, p = (i + k, j + l) ∧ ∃ x, a[k]? = some x ∧ b[l]? = some x := by
 refine pairs_ind (C := fun i j a b => ∀ p ∈ pairs i j a b, ∃ k l, p = (i + k, j + l) ∧ ∃ x, a[k]? = some x ∧ b[l]? = some x) ?_ ?_ ?_ ?_ ?_ i j a b
 ·intro i j b p h; rw [pairs_nil] at h; cases h
 ·intro i j a p h; rw [pairs_nil2] at h; cases h
 ·intro i j x a b ih p h
  rw [pairs_cons, if_pos rfl] at h
  rcases List.mem_cons.1 h with rfl | h
  ·exact ⟨0, 0, rfl, x, rfl, rfl⟩
  ·obtain ⟨k, l, rfl, z, h1, h2⟩ := ih p h
   exact ⟨k + 1, l + 1, pp OM OM, z, h1, h2⟩
 ·intro i j x y a b e l ih p h
  rw [pairs_cons, if_neg e, if_pos l] at h
  obtain ⟨k, l, rfl, z, h1, h2⟩ := ih p h
  exact ⟨k + 1, l, pp OM OM, z, h1, h2⟩
 ·intro i j x y a b e l ih p h
  rw [pairs_cons, if_neg e, if_neg l] at h
  obtain ⟨k, l, rfl, z, h1, h2⟩ := ih p h
  exact ⟨k, l + 1, pp OM OM, z, h1, h2⟩
theorem pairs_ord (i j : Nat) (a b : List α) : (pairs i j a b).Pairwise (fun p q => p.1 < q.1 ∧ p.2 < q.2) := by
 refine pairs_ind (C := fun i j a b => (pairs i j a b).Pairwise (fun p q => p.1 < q.1 ∧ p.2 < q.2)) ?_ ?_ ?_ ?_ ?_ i j a b
 ·intros; rw [pairs_nil]; exact List.Pairwise.nil
 ·intros; rw [pairs_nil2]; exact List.Pairwise.nil
 ·intro i j x a b h; rw [pairs_cons, if_pos rfl]
  refine List.Pairwise.cons (fun p hp => ?_) h
  obtain ⟨k, l, rfl, _⟩ := pairs_mem _ _ _ _ p hp
  exact ⟨by dsimp only; omega, by dsimp only; omega⟩
 ·intro i j x y a b e l h; rw [pairs_cons, if_neg e, if_pos l]; exact h
 ·intro i j x y a b e l h; rw [pairs_cons, if_neg e, if_neg l]; exact h
end
section
variable {α : Type} [Inhabited α]
theorem nth_set (l : List α) {k : Nat} (h : k < l.length) (m : Nat) (v : α) : nth (l.set k v) (m : Int) = if m = k then v else nth l (m : Int) := by
 unfold nth
 rw [Int.toNat_natCast, List.getD_eq_getElem?_getD, List.getD_eq_getElem?_getD, List.getElem?_set]
 by_cases e : m = k
 ·subst e; rw [if_pos rfl, if_pos rfl, if_pos h]; rfl
 ·rw [if_neg (fun x => e x.symm), if_neg e]
def seg (l : List α) (i j : Nat) : List α := (l.drop i).take (j - i)
theorem seg_len (l : List α) (i j : Nat) (h : j ≤ l.length) : (seg l i j).length = j - i := by
 unfold seg; rw [List.length_take, List.length_drop]; omega
variable [DecidableEq α]
def pickL (o a b : List α) : Option (List α) := if a = o then some b else if b = o then some a else if a = b then some a else none
theorem pickL_mem {o a b r : List α} (h : pickL o a b = some r) : (∀ z ∈ r, z ∈ a ∨ z ∈ b) ∧ (∀ z ∈ a, z ∈ o ∨ z ∈ r) ∧ (∀ z ∈ b, z ∈ o ∨ z ∈ r) ∧ r.length ≤ a.length + b.length := by
 unfold pickL at h
 by_cases h1 : a = o
 ·rw [if_pos h1] at h; cases h; subst h1
  exact ⟨fun z hz => .inr hz, fun z hz => .inl hz, fun z hz => .inr hz, OM⟩
 ·rw [if_neg h1] at h
  by_cases h2 : b = o
  ·rw [if_pos h2] at h; cases h; subst h2
   exact ⟨fun z hz => .inl hz, fun z hz => .inr hz, fun z hz => .inl hz, OM⟩
  ·rw [if_neg h2] at h
   by_cases h3 : a = b
   ·rw [if_pos h3] at h; cases h; subst h3
    exact ⟨fun z hz => .inl hz, fun z hz => .inr hz, fun z hz => .inr hz, OM⟩
   ·rw [if_neg h3] at h; cases h
def mloop (o a b : List α) (f g : Nat → Option Nat) : Nat → Nat → Nat → Nat → Nat → Option (List α)
 | 0, _, i, j, k => pickL (o.drop i) (a.drop j) (b.drop k)
 | n + 1, at_, i, j, k => match f at_, g at_ with
  | some x, some y => (pickL (seg o i at_) (seg a j x) (seg b k y)).bind fun p => (mloop o a b f g n (at_ + 1) (at_ + 1) (x + 1) (y + 1)).map fun r => p ++ nth o (at_ : Int) :: r
  | _, _ => mloop o a b f g n (at_ + 1) i j k
theorem mloop_some {o a b : List α} {f g : Nat → Option Nat} {n t i j k x y : Nat} (hf : f t = some x) (hg : g t = some y) : mloop o a b f g (n + 1) t i j k = (pickL (seg o i t) (seg a j x) (seg b k y)).bind fun p => (mloop o a b f g n (t + 1) (t + 1) (x + 1) (y + 1)).map fun r => p ++ nth o (t : Int) :: r := by
 rw [mloop, hf, hg]
theorem mloop_none {o a b : List α} {f g : Nat → Option Nat} {n t i j k : Nat} (h : f t = none ∨ g t = none) : mloop o a b f g (n + 1) t i j k = mloop o a b f g n (t + 1) i j k := by
 rw [mloop]
 rcases h with h | h
 ·rw [h]
 ·rw [h]; cases f t <;> rfl
structure Mates (o a : List α) (f : Nat → Option Nat) : Prop where
 lt : ∀ {t x}, f t = some x → t < o.length ∧ x < a.length
 eq : ∀ {t x}, f t = some x → nth o (t : Int) = nth a (x : Int)
 mono : ∀ {t x u y}, f t = some x → f u = some y → t < u → x < y
def From (f : Nat → Option Nat) (t j : Nat) : Prop := ∀ u x, t ≤ u → f u = some x → j ≤ x
theorem From.zero (f : Nat → Option Nat) (t : Nat) : From f t 0 := fun _ _ _ _ => Nat.zero_le _
theorem From.skip {f : Nat → Option Nat} {t j : Nat} (h : From f t j) : From f (t + 1) j := fun u x hu hx => h u x OM hx
theorem From.step {o a : List α} {f : Nat → Option Nat} (m : Mates o a f) {t x : Nat} (h : f t = some x) : From f (t + 1) (x + 1) := fun u y hu hy => m.mono h hy OM
end
end
def allN (n : Nat) (c : Nat → Bool) : Bool := (List.range n).all c
theorem allN_true {n : Nat} {c : Nat → Bool} (h : ∀ j, j < n → c j = true) : allN n c = true := by
 unfold allN; rw [List.all_eq_true]; intro j hj; exact h j (List.mem_range.1 hj)
theorem allN_false {n k : Nat} {c : Nat → Bool} (hk : k < n) (h : c k = false) : allN n c = false := by
 unfold allN
 rw [Bool.eq_false_iff]; intro ha
 rw [List.all_eq_true] at ha
 rw [ha k (List.mem_range.2 hk)] at h; cases h
theorem allN_iff {n : Nat} {c : Nat → Bool} : allN n c = true ↔ ∀ j, j < n → c j = true := by
 unfold allN; rw [List.all_eq_true]; exact ⟨fun h j hj => h j (List.mem_range.2 hj), fun h j hj => h j (List.mem_range.1 hj)⟩
theorem loop_all (n : Nat) (c : Nat → Bool) {B : (Int → Prop) → (Int → Nat) → Int → Prop} {F : Prop}
  (hs : ∀ (I : Int → Prop) (mu : Int → Nat) (k : Nat), k < n → (∀ j, j < k → c j = true) → (c k = true → I ((k : Int) + 1) ∧ mu ((k : Int) + 1) < mu (k : Int)) → B I mu (k : Int))
  (hF : (∀ j, j < n → c j = true) → F) :
  ∃ (I : Int → Prop) (mu : Int → Nat), I 0 ∧ ∀ (i : Int), I i → (if decide (i < (n : Int)) then B I mu i else F) := by
 refine ⟨fun i => ∃ k : Nat, i = k ∧ k ≤ n ∧ ∀ j, j < k → c j = true, fun i => ((n : Int) - i).toNat, ⟨0, rfl, Nat.zero_le _, fun j hj => absurd hj (Nat.not_lt_zero _)⟩, ?_⟩
 rintro _ ⟨k, rfl, hk, ha⟩
 by_cases h : (k : Int) < (n : Int)
 ·rw [if_pos (by simpa using h)]
  refine hs _ _ k OM ha fun hc => ⟨⟨k + 1, OM, OM, fun j hj => ?_⟩, OM⟩
  by_cases e : j = k
  ·subst e; exact hc
  ·exact ha j OM
 ·rw [if_neg (by simpa using h)]
  exact hF fun j hj => ha j OM
theorem less_irr : ∀ a : Str, Op.bytesLess a a = false
 | [] => rfl
 | x :: a => by rw [Op.bytesLess]; simp [less_irr a]
theorem less_tri : ∀ a b : Str, (!(Op.bytesLess a b)) = (Op.bytesLess b a || b == a)
 | [], [] => rfl
 | [], y :: b => rfl
 | x :: a, [] => rfl
 | x :: a, y :: b => by
  rw [Op.bytesLess, Op.bytesLess]
  have h := less_tri a b
  by_cases h1 : x < y
  ·have h2 : ¬ y < x := fun h => absurd (UInt8.lt_trans h1 h) (UInt8.lt_irrefl _)
   have h3 : ¬ y = x := fun e => by subst e; exact UInt8.lt_irrefl _ h1
   simp [h1, h2, h3]
  ·by_cases h2 : y < x
   ·have h3 : ¬ x = y := fun e => by subst e; exact UInt8.lt_irrefl _ h2
    simp [h1, h2, h3]
   ·have h3 : x = y := UInt8.le_antisymm (UInt8.not_lt.1 h2) (UInt8.not_lt.1 h1)
    subst h3
    simp only [h1, decide_false, Bool.false_or, beq_self_eq_true, Bool.true_and]
    rw [h]
    congr 1
    rw [Bool.eq_iff_iff, beq_iff_eq, beq_iff_eq]
    simp
section
def findN (n : Nat) (c : Nat → Bool) : Int := match (List.range n).find? c with | some k => (k : Int) | none => -1
theorem findN_hit {n k : Nat} {c : Nat → Bool} (hk : k < n) (h : c k = true) (hp : ∀ j, j < k → c j = false) : findN n c = (k : Int) := by
 unfold findN
 have : (List.range n).find? c = some k := by
  rw [List.find?_range_eq_some]
  exact ⟨h, List.mem_range.2 hk, fun j hj => by rw [hp j hj]; rfl⟩
 rw [this]
theorem findN_none {n : Nat} {c : Nat → Bool} (h : ∀ j, j < n → c j = false) : findN n c = -1 := by
 unfold findN
 have : (List.range n).find? c = none := by
  rw [List.find?_eq_none]; intro j hj; rw [h j (List.mem_range.1 hj)]; exact Bool.false_ne_true
 rw [this]
theorem findN_le (n : Nat) (c : Nat → Bool) : -1 ≤ findN n c ∧ findN n c < n := by
 unfold findN
 cases h : (List.range n).find? c with
 | none => exact ⟨Int.le_refl _, by dsimp only; omega⟩
 | some k => have := List.mem_range.1 (List.mem_of_find?_eq_some h); exact ⟨by dsimp only; omega, by dsimp only; omega⟩
theorem loop_find (n : Nat) (c : Nat → Bool) {B : (Int → Prop) → (Int → Nat) → Int → Prop} {Q : Int → Prop} (hq : Q (findN n c))
  (hs : ∀ (I : Int → Prop) (mu : Int → Nat) (k : Nat), k < n → (c k = true → Q (k : Int)) → (c k = false → I ((k : Int) + 1) ∧ mu ((k : Int) + 1) < mu (k : Int)) → B I mu (k : Int)) :
  ∃ (I : Int → Prop) (mu : Int → Nat), I 0 ∧ ∀ (i : Int), I i → (if decide (i < (n : Int)) then B I mu i else Q (-1)) := by
 refine loop_all n (fun k => !(c k)) (fun I mu k hk hp hn => hs I mu k hk (fun h => ?_) (fun h => hn (by rw [h]; rfl))) (fun ha => ?_)
 ·rw [findN_hit hk h (fun j hj => by have := hp j hj; rwa [Bool.not_eq_true'] at this)] at hq; exact hq
 ·rw [findN_none (fun j hj => by have := ha j hj; rwa [Bool.not_eq_true'] at this)] at hq; exact hq
section
variable {α : Type} [Inhabited α] [DecidableEq α]
theorem list_eq_iff (a b : List α) (h : a.length = b.length) : a = b ↔ ∀ k, k < a.length → nth a (k : Int) = nth b (k : Int) := ⟨fun e k _ => by rw [e], ext_nth h⟩
theorem eqF_shape (a b : List α) (el : α → α → Bool) (ok : α → α → Prop) (hok : ∀ x y, x ∈ a → ok x y) (hel : ∀ x y, x ∈ a → el x y = decide (x = y)) (hb : a.length ≤ 1048576) (Q : Bool → Prop) (hq : Q (decide (a = b))) :
  (if (a.length : Int) != (b.length : Int) then Q false else (∃ (I36 : Int → Prop) (mu37 : Int → Nat), I36 0 ∧ ∀ (v2 : Int), I36 v2 → (if decide (v2 < (a.length : Int)) then ((0 : Int) ≤ v2 ∧ v2 < (a.length : Int)) ∧ ((0 : Int) ≤ v2 ∧ v2 < (b.length : Int)) ∧ (ok (nth a v2) (nth b v2)) ∧ (if !(el (nth a v2) (nth b v2)) then Q false else (I64 (v2 + 1)) ∧ I36 (v2 + 1) ∧ mu37 (v2 + 1) < mu37 v2) else Q true))) := by
 by_cases hl : a.length = b.length
 ·rw [if_neg (by simp [hl])]
  refine loop_all a.length (fun k => decide (nth a (k : Int) = nth b (k : Int))) (fun I mu k hk hp hn => ?_) (fun ha => ?_)
  ·refine ⟨OM, OM, hok _ _ (nth_mem a hk), ?_⟩
   rw [hel _ _ (nth_mem a hk)]
   by_cases h : nth a (k : Int) = nth b (k : Int)
   ·rw [decide_eq_true h, if_neg RD]
    obtain ⟨i1, i2⟩ := hn (decide_eq_true h)
    exact ⟨by unfold I64; omega, i1, i2⟩
   ·rw [decide_eq_false h, if_pos RD]
    rw [decide_eq_false (by rw [list_eq_iff a b hl]; exact fun g => h (g k hk))] at hq; exact hq
  ·rw [decide_eq_true ((list_eq_iff a b hl).2 fun k hk => of_decide_eq_true (ha k hk))] at hq; exact hq
 ·rw [if_pos (by rw [bne_iff_ne]; omega)]
  rw [decide_eq_false (fun e => hl (by rw [e]))] at hq; exact hq
theorem eqQ_shape (a b : List α) (el : α → α → (Bool → Prop) → Prop) (hel : ∀ x y, x ∈ a → el x y (fun r => r = decide (x = y))) (Q : Prop) (Q' : Prop) (hl : a.length = b.length) (hn : a ≠ b → Q) (hy : a = b → Q') :
  (∃ (I32 : Int → Prop) (mu33 : Int → Nat), I32 0 ∧ ∀ (i2 : Int), I32 i2 → (if decide (i2 < (a.length : Int)) then ((0 : Int) ≤ i2 ∧ i2 < (a.length : Int)) ∧ ((0 : Int) ≤ i2 ∧ i2 < (b.length : Int)) ∧ (∃ q : Bool, el (nth a i2) (nth b i2) (fun x => x = q) ∧ (if !q then Q else (-9223372036854775808 ≤ i2) ∧ I32 (i2 + 1) ∧ mu33 (i2 + 1) < mu33 i2)) else Q')) := by
 refine loop_all a.length (fun k => decide (nth a (k : Int) = nth b (k : Int))) (fun I mu k hk hp hn' => ?_) (fun ha => ?_)
 ·refine ⟨OM, OM, _, hel _ _ (nth_mem a hk), ?_⟩
  by_cases h : nth a (k : Int) = nth b (k : Int)
  ·rw [decide_eq_true h, if_neg RD]
   obtain ⟨i1, i2⟩ := hn' (decide_eq_true h)
   exact ⟨OM, i1, i2⟩
  ·rw [decide_eq_false h, if_pos RD]
   exact hn (by rw [Ne, list_eq_iff a b hl]; exact fun g => h (g k hk))
 ·exact hy ((list_eq_iff a b hl).2 fun k hk => of_decide_eq_true (ha k hk))
end
end
def few (a b : List Pt) : Bool := decide (a.length ≤ 12) && decide (b.length ≤ 12)
def Tab (a b : List Pt) (D : Nat → Nat → Prop) (t : List (List Int)) : Prop := t.length = a.length + 1 ∧ ∀ r : Nat, r ≤ a.length → (nth t (r : Int)).length = b.length + 1 ∧ ∀ m : Nat, m ≤ b.length → D r m → nth (nth t (r : Int)) (m : Int) = (lcs (a.drop r) (b.drop m) : Nat)
theorem Tab.set {a b : List Pt} {D : Nat → Nat → Prop} {t : List (List Int)} (h : Tab a b D t) {i j : Nat} (hi : i ≤ a.length) (hj : j ≤ b.length) {v : Int} (hv : v = (lcs (a.drop i) (b.drop j) : Nat)) {D' : Nat → Nat → Prop} (hD : ∀ r m, D' r m → D r m ∨ (r = i ∧ m = j)) :
  Tab a b D' (t.set i ((nth t (i : Int)).set j v)) := by
 obtain ⟨h1, h2⟩ := h
 refine ⟨by rw [List.length_set]; exact h1, fun r hr => ?_⟩
 rw [nth_set _ OM]
 by_cases e : r = i
 ·subst e
  rw [if_pos rfl]
  refine ⟨by rw [List.length_set]; exact (h2 r hr).1, fun m hm hd => ?_⟩
  rw [nth_set _ (by rw [(h2 r hr).1]; omega)]
  by_cases f : m = j
  ·subst f; rw [if_pos rfl, hv]
  ·rw [if_neg f]
   exact (h2 r hr).2 m hm ((hD r m hd).resolve_right fun x => f x.2)
 ·rw [if_neg e]
  exact ⟨(h2 r hr).1, fun m hm hd => (h2 r hr).2 m hm ((hD r m hd).resolve_right fun x => e x.1)⟩
def mateN (l : List (Nat × Nat)) (k : Nat) : Option Nat := match l with
 | [] => none
 | p :: l => if p.1 = k then some p.2 else mateN l k
theorem mateN_mem {l : List (Nat × Nat)} {k x : Nat} (h : mateN l k = some x) : (k, x) ∈ l := by
 induction l with
 | nil => cases h
 | cons p l ih =>
  rw [mateN] at h
  by_cases e : p.1 = k
  ·rw [if_pos e] at h; cases h; subst e; exact List.mem_cons_self
  ·rw [if_neg e] at h; exact List.mem_cons_of_mem _ (ih h)
def part (o a : List Pt) : Nat → Option Nat := mateN (pairs 0 0 o a)
theorem part_mates (o a : List Pt) : Mates o a (part o a) := by
 have hm : ∀ {t x}, part o a t = some x → ∃ z, o[t]? = some z ∧ a[x]? = some z := fun {t x} h => by
  obtain ⟨k, l, e, z, h1, h2⟩ := pairs_mem 0 0 o a _ (mateN_mem h)
  rw [Nat.zero_add, Nat.zero_add] at e; cases e
  exact ⟨z, h1, h2⟩
 refine ⟨fun {t x} h => ?_, fun {t x} h => ?_, fun {t x u y} h1 h2 hu => ?_⟩
 ·obtain ⟨z, h1, h2⟩ := hm h
  exact ⟨(List.getElem?_eq_some_iff.1 h1).1, (List.getElem?_eq_some_iff.1 h2).1⟩
 ·obtain ⟨z, h1, h2⟩ := hm h
  obtain ⟨e1, e2⟩ := List.getElem?_eq_some_iff.1 h1
  obtain ⟨e3, e4⟩ := List.getElem?_eq_some_iff.1 h2
  rw [nth_nat _ e1, nth_nat _ e3, e2, e4]
 ·have ho := pairs_ord 0 0 o a
  have m1 := mateN_mem h1; have m2 := mateN_mem h2
  generalize pairs 0 0 o a = l at ho m1 m2
  induction l with
  | nil => cases m1
  | cons p l ih =>
   obtain ⟨q1, q2⟩ := List.pairwise_cons.1 ho
   rcases List.mem_cons.1 m1 with e1 | n1
   ·rcases List.mem_cons.1 m2 with e2 | n2
    ·subst e1; cases e2; omega
    ·subst e1; exact (q1 _ n2).2
   ·rcases List.mem_cons.1 m2 with e2 | n2
    ·subst e2; have := (q1 _ n1).1; dsimp only at this; omega
    ·exact ih q2 n1 n2
def smerge (o a b : List Pt) : Option (List Pt) := if few o a && few o b then mloop o a b (part o a) (part o b) o.length 0 0 0 0 else none
theorem smerge_few {o a b : List Pt} (h1 : few o a = true) (h2 : few o b = true) : smerge o a b = mloop o a b (part o a) (part o b) o.length 0 0 0 0 := by unfold smerge; rw [h1, h2]; rfl
def byteOk (b : UInt8) : Bool := !(decide ((b.toNat : Int) < 97)) && !(decide ((b.toNat : Int) > 122))
def wordOk (s : Str) : Bool := allN s.length (fun k => byteOk (nth s (k : Int))) && (decide (1 ≤ s.length) && decide (s.length ≤ 6))
def inR (x : Int) : Bool := decide (-1000 ≤ x) && decide (x ≤ 1000)
def ptOk (p : Pt) : Bool := inR p.X && inR p.Y
def ptsOk (p : List Pt) : Bool := allN p.length fun k => ptOk (nth p (k : Int)) && (decide (k = 0) || !(decide (nth p ((k : Int) - 1) = nth p (k : Int))))
def kindOk (kind : Int) (p : List Pt) : Bool :=
 if kind = 1 then decide (p.length = 1) else if kind = 2 then decide (2 ≤ p.length) && decide (p.length ≤ 6)
 else if kind = 3 then decide (3 ≤ p.length) && decide (p.length ≤ 6) && !(decide (nth p 0 = nth p ((p.length : Int) - 1))) else false
def shapeOk (s : Shape) : Bool := ptsOk s.Pts && kindOk s.Kind s.Pts
def tagsOk (t : List Tag) : Bool := allN t.length fun k => wordOk (nth t (k : Int)).Key && wordOk (nth t (k : Int)).Val && (decide (k = 0) || Op.bytesLess (nth t ((k : Int) - 1)).Key (nth t (k : Int)).Key)
def featOk (f : Feat) : Bool := tagsOk f.Tags && decide (f.Tags.length ≤ 4) && wordOk f.Id && shapeOk f.Shape
def sheetOk (s : List Feat) : Bool := allN s.length (fun k => featOk (nth s (k : Int)) && (decide (k = 0) || Op.bytesLess (nth s ((k : Int) - 1)).Id (nth s (k : Int)).Id)) && decide (s.length ≤ 8)
theorem Feat.ext_iff' (a b : Feat) : a = b ↔ a.Id = b.Id ∧ a.Shape = b.Shape ∧ a.Tags = b.Tags := by cases a; cases b; simp
theorem Shape.ext_iff' (a b : Shape) : a = b ↔ a.Kind = b.Kind ∧ a.Pts = b.Pts := by cases a; cases b; simp
theorem F16.law (a b : List Tag) (Q : Bool → Prop) (hb : a.length ≤ 1048576) (hq : Q (decide (a = b))) : F16.E a b Q := by
 unfold F16.E
 exact eqI_shape eqTag eqTag_is a b Q hb hq
theorem F25.law (a b : List Pt) (Q : Bool → Prop) (hb : a.length ≤ 1048576) (hq : Q (decide (a = b))) : F25.E a b Q := by
 unfold F25.E
 exact eqI_shape eqPt eqPt_is a b Q hb hq
theorem F31.law (a b : Shape) (Q : Bool → Prop) (hl : a.Pts.length ≤ 1048576) (hq : Q (decide (a = b))) : F31.E a b Q := by
 unfold F31.E
 by_cases h : a.Kind = b.Kind
 ·rw [if_pos (by rw [beq_iff_eq]; exact h)]
  refine F25.law _ _ _ OM ?_
  have : decide (a.Pts = b.Pts) = decide (a = b) := decide_eq_decide.2 (by rw [Shape.ext_iff']; exact ⟨fun e => ⟨h, e⟩, fun e => e.2⟩)
  rw [this]; exact hq
 ·rw [if_neg (by rw [beq_iff_eq]; exact h)]
  rw [decide_eq_false (by rw [Shape.ext_iff']; exact fun e => h e.1)] at hq; exact hq
theorem F41.law (a b : Feat) (Q : Bool → Prop) (hl : a.Shape.Pts.length ≤ 1048576 ∧ a.Tags.length ≤ 1048576) (hq : Q (decide (a = b))) : F41.E a b Q := by
 unfold F41.E
 by_cases h : a.Id = b.Id
 ·rw [if_pos (by rw [beq_iff_eq]; exact h)]
  refine F31.law _ _ _ OM ?_
  by_cases h2 : a.Shape = b.Shape
  ·rw [decide_eq_true h2, if_pos rfl]
   refine F16.law _ _ _ OM ?_
   have : decide (a.Tags = b.Tags) = decide (a = b) := decide_eq_decide.2 (by rw [Feat.ext_iff']; exact ⟨fun e => ⟨h, h2, e⟩, fun e => e.2.2⟩)
   rw [this]; exact hq
  ·rw [decide_eq_false h2, if_neg RD]
   rw [decide_eq_false (by rw [Feat.ext_iff']; exact fun e => h2 e.2.1)] at hq; exact hq
 ·rw [if_neg (by rw [beq_iff_eq]; exact h)]
  rw [decide_eq_false (by rw [Feat.ext_iff']; exact fun e => h e.1)] at hq; exact hq
theorem F3.law (a b : List Feat) (el : Feat → Feat → Bool) (ok : Feat → Feat → Prop) (Q : Bool → Prop) (hb : a.length ≤ 1048576) (hok : ∀ x y, x ∈ a → ok x y) (hel : ∀ x y, x ∈ a → el x y = decide (x = y)) (hq : Q (decide (a = b))) : F3.E a b el ok Q := by
 unfold F3.E
 exact eqF_shape a b el ok hok hel hb Q hq
theorem F32.law (a b : List Feat) (Q : Bool → Prop) (hb : bulk a ≤ 1048576) (hq : Q (decide (a = b))) : F32.E a b Q := by
 unfold F32.E
 have hl := bulk_len a
 refine ⟨fun x y => decide (x = y), fun x _ => x ∈ a, fun x y hx => F41.law x y _ ?_ rfl, F3.law a b _ _ _ OM (fun x y hx => hx) (fun _ _ _ => rfl) hq⟩
 have m := bulk_mem hx
 have b1 : bulk x = bulk x.Id + bulk x.Shape + bulk x.Tags := rfl
 have b2 : bulk x.Shape = bulk x.Shape.Kind + bulk x.Shape.Pts := rfl
 have l1 := bulk_len x.Tags; have l2 := bulk_len x.Shape.Pts
 omega
theorem F15.law (a b : List Int) (Q : Bool → Prop) (hb : a.length ≤ 1048576) (hq : Q (decide (a = b))) : F15.E a b Q := by
 unfold F15.E
 exact eqI_shape (fun x y => x == y) (fun x y => by by_cases h : x = y <;> simp [h]) a b Q hb hq
theorem Commit.ext_iff' (a b : Commit) : a = b ↔ a.Up = b.Up ∧ a.Sheet = b.Sheet ∧ a.Note = b.Note := by cases a; cases b; simp
theorem F26.law (a b : Commit) (Q : Bool → Prop) (hb : bulk a ≤ 1048576) (hq : Q (decide (a = b))) : F26.E a b Q := by
 unfold F26.E
 have b1 : bulk a = bulk a.Up + bulk a.Sheet + bulk a.Note := rfl
 have l1 := bulk_len a.Up
 have e : decide (a = b) = (decide (a.Up = b.Up) && (decide (a.Sheet = b.Sheet) && decide (a.Note = b.Note))) := by
  rw [Bool.eq_iff_iff]; simp only [Bool.and_eq_true, decide_eq_true_eq]; exact Commit.ext_iff' a b
 rw [e] at hq
 refine F15.law _ _ _ OM ?_
 cases h1 : decide (a.Up = b.Up) with
 | false => rw [h1] at hq; rw [if_neg RD]; exact hq
 | true =>
  rw [h1, Bool.true_and] at hq
  rw [if_pos rfl]
  refine F32.law _ _ _ OM ?_
  cases h2 : decide (a.Sheet = b.Sheet) with
  | false => rw [h2] at hq; rw [if_neg RD]; exact hq
  | true =>
   rw [h2, Bool.true_and] at hq
   rw [if_pos rfl]
   have : (a.Note == b.Note) = decide (a.Note = b.Note) := by rw [Bool.eq_iff_iff, beq_iff_eq, decide_eq_true_eq]
   rw [this]; exact hq
theorem F0.law (a b : List Commit) (el : Commit → Commit → Bool) (ok : Commit → Commit → Prop) (Q : Bool → Prop) (hb : a.length ≤ 1048576) (hok : ∀ x y, x ∈ a → ok x y) (hel : ∀ x y, x ∈ a → el x y = decide (x = y)) (hq : Q (decide (a = b))) : F0.E a b el ok Q := by
 unfold F0.E
 exact eqF_shape a b el ok hok hel hb Q hq
theorem F12.law (a b : List Head) (Q : Bool → Prop) (hb : a.length ≤ 1048576) (hq : Q (decide (a = b))) : F12.E a b Q := by
 unfold F12.E
 exact eqI_shape eqHead eqHead_is a b Q hb hq
theorem Repo.ext_iff' (a b : Repo) : a = b ↔ a.Commits = b.Commits ∧ a.Heads = b.Heads := by cases a; cases b; simp
theorem F42.law (a b : Repo) (Q : Bool → Prop) (hb : bulk a ≤ 1048576) (hq : Q (decide (a = b))) : F42.E a b Q := by
 unfold F42.E
 have b1 : bulk a = bulk a.Commits + bulk a.Heads := rfl
 have l1 := bulk_len a.Commits; have l2 := bulk_len a.Heads
 have e : decide (a = b) = (decide (a.Commits = b.Commits) && decide (a.Heads = b.Heads)) := by
  rw [Bool.eq_iff_iff]; simp only [Bool.and_eq_true, decide_eq_true_eq]; exact Repo.ext_iff' a b
 rw [e] at hq
 refine ⟨fun x y => decide (x = y), fun x _ => x ∈ a.Commits, fun x y hx => F26.law x y _ (by have := bulk_mem hx; omega) rfl, F0.law _ _ _ _ _ OM (fun x y hx => hx) (fun _ _ _ => rfl) ?_⟩
 cases h1 : decide (a.Commits = b.Commits) with
 | false => rw [h1] at hq; rw [if_neg RD]; exact hq
 | true =>
  rw [h1, Bool.true_and] at hq
  rw [if_pos rfl]
  exact F12.law _ _ _ OM hq
theorem F64.law (a b : List Tag) (Q : Bool → Prop) (hq : Q (decide (a = b))) : F64.E a b Q := by
 unfold F64.E
 exact eqS_shape eqTag eqTag_is a b Q hq
theorem F63.law (a b : List Pt) (Q : Bool → Prop) (hq : Q (decide (a = b))) : F63.E a b Q := by
 unfold F63.E
 exact eqS_shape eqPt eqPt_is a b Q hq
theorem F29.law (a b : Shape) (Q : Bool → Prop) (hq : Q (decide (a = b))) : F29.E a b Q := by
 unfold F29.E
 by_cases h : a.Kind = b.Kind
 ·rw [if_pos (by rw [beq_iff_eq]; exact h)]
  refine F63.law _ _ _ ?_
  have : decide (a.Pts = b.Pts) = decide (a = b) := decide_eq_decide.2 (by rw [Shape.ext_iff']; exact ⟨fun e => ⟨h, e⟩, fun e => e.2⟩)
  rw [this]; exact hq
 ·rw [if_neg (by rw [beq_iff_eq]; exact h)]
  rw [decide_eq_false (by rw [Shape.ext_iff']; exact fun e => h e.1)] at hq; exact hq
theorem F40.law (a b : Feat) (Q : Bool → Prop) (hq : Q (decide (a = b))) : F40.E a b Q := by
 unfold F40.E
 by_cases h : a.Id = b.Id
 ·rw [if_pos (by rw [beq_iff_eq]; exact h)]
  refine F29.law _ _ _ ?_
  by_cases h2 : a.Shape = b.Shape
  ·rw [decide_eq_true h2, if_pos rfl]
   refine F64.law _ _ _ ?_
   have : decide (a.Tags = b.Tags) = decide (a = b) := decide_eq_decide.2 (by rw [Feat.ext_iff']; exact ⟨fun e => ⟨h, h2, e⟩, fun e => e.2.2⟩)
   rw [this]; exact hq
  ·rw [decide_eq_false h2, if_neg RD]
   rw [decide_eq_false (by rw [Feat.ext_iff']; exact fun e => h2 e.2.1)] at hq; exact hq
 ·rw [if_neg (by rw [beq_iff_eq]; exact h)]
  rw [decide_eq_false (by rw [Feat.ext_iff']; exact fun e => h e.1)] at hq; exact hq
theorem F30.law (a b : List Feat) (Q : Bool → Prop) (hq : Q (decide (a = b))) : F30.E a b Q := by
 unfold F30.E
 by_cases hl : a.length = b.length
 ·rw [if_neg (by simp [hl])]
  exact eqQ_shape a b F40.E (fun x y _ => F40.law x y _ rfl) _ _ hl (fun h => by rw [decide_eq_false h] at hq; exact hq) (fun h => by rw [decide_eq_true h] at hq; exact hq)
 ·rw [if_pos (by rw [bne_iff_ne]; omega)]
  rw [decide_eq_false (fun e => hl (by rw [e]))] at hq; exact hq
theorem F62.law (a b : List Int) (Q : Bool → Prop) (hq : Q (decide (a = b))) : F62.E a b Q := by
 unfold F62.E
 exact eqN_shape a b Q hq
theorem Commit.ext_iff2 (a b : Commit) : a = b ↔ a.Up = b.Up ∧ a.Sheet = b.Sheet ∧ a.Note = b.Note := by cases a; cases b; simp
theorem F65.law (a b : Commit) (Q : Bool → Prop) (hq : Q (decide (a = b))) : F65.E a b Q := by
 unfold F65.E
 have e : decide (a = b) = (decide (a.Up = b.Up) && (decide (a.Sheet = b.Sheet) && decide (a.Note = b.Note))) := by
  rw [Bool.eq_iff_iff]; simp only [Bool.and_eq_true, decide_eq_true_eq]; exact Commit.ext_iff2 a b
 rw [e] at hq
 refine F62.law _ _ _ ?_
 cases h1 : decide (a.Up = b.Up) with
 | false => rw [h1] at hq; rw [if_neg RD]; exact hq
 | true =>
  rw [h1, Bool.true_and] at hq
  rw [if_pos rfl]
  refine F30.law _ _ _ ?_
  cases h2 : decide (a.Sheet = b.Sheet) with
  | false => rw [h2] at hq; rw [if_neg RD]; exact hq
  | true =>
   rw [h2, Bool.true_and] at hq
   rw [if_pos rfl]
   have : (a.Note == b.Note) = decide (a.Note = b.Note) := by rw [Bool.eq_iff_iff, beq_iff_eq, decide_eq_true_eq]
   rw [this]; exact hq
theorem Repo.ext_iff2 (a b : Repo) : a = b ↔ a.Commits = b.Commits ∧ a.Heads = b.Heads := by cases a; cases b; simp
theorem F43.law (a b : Repo) (Q : Bool → Prop) (hq : Q (decide (a = b))) : F43.E a b Q := by
 unfold F43.E
 have bad : (a.Commits = b.Commits → a.Heads ≠ b.Heads) → Q false := fun h => by
  rw [decide_eq_false (by rw [Repo.ext_iff2]; exact fun e => h e.1 e.2)] at hq; exact hq
 by_cases h1 : a.Commits.length = b.Commits.length
 ·rw [if_neg (by simp [h1])]
  by_cases h2 : a.Heads.length = b.Heads.length
  ·rw [if_neg (by simp [h2])]
   refine eqQ_shape a.Commits b.Commits F65.E (fun x y _ => F65.law x y _ rfl) _ _ h1 (fun h => bad fun e => absurd e h) (fun hc => ?_)
   have hh := eqS_shape eqHead eqHead_is a.Heads b.Heads Q
   rw [if_neg (by simp [h2])] at hh
   refine hh ?_
   have : decide (a = b) = decide (a.Heads = b.Heads) := decide_eq_decide.2 (by rw [Repo.ext_iff2]; exact ⟨fun e => e.2, fun e => ⟨hc, e⟩⟩)
   rw [this] at hq; exact hq
  ·rw [if_pos (by rw [bne_iff_ne]; omega)]
   exact bad fun _ e => h2 (by rw [e])
 ·rw [if_pos (by rw [bne_iff_ne]; omega)]
  exact bad fun e => absurd (by rw [e]) h1
section
open Go.RowKit Go.Shelf Go.Sort Go.Lib
theorem strs_arr {w : World} {S : Sp} : ∀ {xs : List Str} {cs : List Value}, Arr Kd.str w S xs cs → cs = xs.map vs ∧ ∀ x ∈ xs, Lim x
 | [], _, h => ⟨h, fun x hx => by cases hx⟩
 | x :: xs, _, ⟨c1, c2, e, h1, h2⟩ => by
  obtain ⟨e2, h3⟩ := strs_arr h2
  refine ⟨by rw [e, h1.1, e2]; rfl, fun y hy => ?_⟩
  rcases List.mem_cons.1 hy with rfl | hy
  ·exact h1.2
  ·exact h3 y hy
theorem Ow.holds {e : TypeId} {w : World} {O : Ob} {g n c : Nat} {xs : List Str} (h : Ow Kd.str e w O (.slice (some ⟨g, 0, none⟩) n c) xs) : Holds encStr w g 0 xs.toArray := by
 obtain ⟨cells, o1, o2, o3⟩ := h
 obtain ⟨e2, _⟩ := strs_arr o2
 intro j hj
 simp only [List.size_toArray] at hj
 rcases o1.2 with ⟨_, e'⟩ | ⟨g', cap, cur, ev, h0, hg, hle, hmx, hcur, htake⟩
 ·omega
 ·cases ev
  have hc := World.ownsRow.cells o1 (g := g) rfl j (vs xs[j]) (by rw [e2]; simp [hj])
  have ha : (⟨g, 0, none⟩ : Addr).add j = ⟨g, 0 + j, none⟩ := by unfold Addr.add; split <;> simp_all
  rw [ha] at hc
  refine ⟨by rw [hc]; simp [hj], ?_⟩
  simp [World.frozen?, hg]
end
section
theorem less_trans : ∀ {a b c : Str}, Op.bytesLess a b = true → Op.bytesLess b c = true → Op.bytesLess a c = true
 | _, _, [], _, h => by rename_i b _; cases b <;> simp [Op.bytesLess] at h
 | _, [], _ :: _, h, _ => by rename_i a _ _ _; cases a <;> simp [Op.bytesLess] at h
 | [], _ :: _, _ :: _, _, _ => by simp [Op.bytesLess]
 | x :: a, y :: b, z :: c, h1, h2 => by
  rw [Op.bytesLess] at h1 h2 ⊢
  simp only [Bool.or_eq_true, Bool.and_eq_true, decide_eq_true_eq, beq_iff_eq] at h1 h2 ⊢
  rcases h1 with h1 | ⟨rfl, h1⟩
  ·rcases h2 with h2 | ⟨rfl, h2⟩
   ·exact .inl (UInt8.lt_trans h1 h2)
   ·exact .inl h1
  ·rcases h2 with h2 | ⟨rfl, h2⟩
   ·exact .inl h2
   ·exact .inr ⟨rfl, less_trans h1 h2⟩
theorem less_or {a b : Str} (h : Op.bytesLess a b = false) : Op.bytesLess b a = true ∨ b = a := by
 have := less_tri a b
 rw [h] at this
 simpa using this.symm
def SS (l : List Str) : Prop := l.Pairwise fun x y => Op.bytesLess x y = true
theorem SS.ext : ∀ {l m : List Str}, SS l → SS m → (∀ x, x ∈ l ↔ x ∈ m) → l = m
 | [], [], _, _, _ => rfl
 | [], y :: m, _, _, h => by have := (h y).2 List.mem_cons_self; cases this
 | x :: l, [], _, _, h => by have := (h x).1 List.mem_cons_self; cases this
 | x :: l, y :: m, hl, hm, h => by
  obtain ⟨l1, l2⟩ := List.pairwise_cons.1 hl
  obtain ⟨m1, m2⟩ := List.pairwise_cons.1 hm
  have e : x = y := by
   rcases List.mem_cons.1 ((h x).1 List.mem_cons_self) with e | e
   ·exact e
   ·rcases List.mem_cons.1 ((h y).2 List.mem_cons_self) with e' | e'
    ·exact e'.symm
    ·have := less_trans (m1 x e) (l1 y e'); rw [less_irr] at this; cases this
  subst e
  rw [SS.ext l2 m2 fun z => ⟨fun hz => ?_, fun hz => ?_⟩]
  ·rcases List.mem_cons.1 ((h z).1 (List.mem_cons_of_mem _ hz)) with e | e
   ·subst e; have := l1 z hz; rw [less_irr] at this; cases this
   ·exact e
  ·rcases List.mem_cons.1 ((h z).2 (List.mem_cons_of_mem _ hz)) with e | e
   ·subst e; have := m1 z hz; rw [less_irr] at this; cases this
   ·exact e
section
open Go.Lib
end
def ids (s : List Feat) : List Str := s.map (·.Id)
theorem ids_app (s t : List Feat) : ids (s ++ t) = ids s ++ ids t := List.map_append
theorem sheet_ss {s : List Feat} (h : sheetOk s = true) : SS (ids s) ∧ s.length ≤ 8 ∧ ∀ f ∈ s, featOk f = true := by
 unfold sheetOk at h
 simp only [Bool.and_eq_true, decide_eq_true_eq] at h
 obtain ⟨h1, h2⟩ := h
 have h1 := allN_iff.1 h1
 have hadj : ∀ k, 0 < k → k < s.length → Op.bytesLess (nth s ((k : Int) - 1)).Id (nth s (k : Int)).Id = true := fun k h0 hk => by
  have := h1 k hk
  simp only [Bool.and_eq_true, Bool.or_eq_true, decide_eq_true_eq] at this
  rcases this.2 with h | h
  ·omega
  ·exact h
 refine ⟨?_, h2, fun f hf => ?_⟩
 ·unfold SS ids
  rw [List.pairwise_map]
  refine List.pairwise_iff_getElem.2 fun i j hi hj hij => ?_
  have key : ∀ d, i + d + 1 < s.length → Op.bytesLess s[i].Id (nth s ((i + d + 1 : Nat) : Int)).Id = true := by
   intro d
   induction d with
   | zero =>
    intro hd
    have := hadj (i + 0 + 1) OM hd
    rw [show (((i + 0 + 1 : Nat) : Int) - 1) = (i : Int) by omega, nth_nat s hi] at this
    exact this
   | succ d ih =>
    intro hd
    have := hadj (i + (d + 1) + 1) OM hd
    rw [show (((i + (d + 1) + 1 : Nat) : Int) - 1) = ((i + d + 1 : Nat) : Int) by omega] at this
    exact less_trans (ih OM) this
  have := key (j - i - 1) OM
  rw [show i + (j - i - 1) + 1 = j by omega, nth_nat s hj] at this
  exact this
 ·obtain ⟨k, hk, rfl⟩ := List.getElem_of_mem hf
  have := h1 k hk
  rw [nth_nat s hk] at this
  simp only [Bool.and_eq_true] at this
  exact this.1
theorem word_len {s : Str} (h : wordOk s = true) : s.length ≤ 6 := by
 unfold wordOk at h
 simp only [Bool.and_eq_true, decide_eq_true_eq] at h
 exact h.2.2
theorem bulk_small {α : Type} [Bulk α] (l : List α) (m : Nat) (h : ∀ x ∈ l, bulk x ≤ m) : bulk l ≤ l.length * (m + 1) := by
 induction l with
 | nil => exact Nat.zero_le _
 | cons x l ih =>
  have h1 := h x List.mem_cons_self
  have h2 := ih fun y hy => h y (List.mem_cons_of_mem _ hy)
  rw [bulk_cons, List.length_cons, Nat.add_mul]
  omega
theorem feat_small {f : Feat} (h : featOk f = true) : bulk f ≤ 100 ∧ f.Id.length ≤ 6 := by
 unfold featOk at h
 simp only [Bool.and_eq_true, decide_eq_true_eq] at h
 obtain ⟨⟨⟨h1, h2⟩, h3⟩, h4⟩ := h
 have hi := word_len h3
 have e1 : bulk f = bulk f.Id + (bulk f.Shape.Kind + bulk f.Shape.Pts) + bulk f.Tags := rfl
 have e2 : bulk f.Id = f.Id.length := bulk_str _
 have e3 : bulk f.Shape.Kind = 0 := rfl
 have e4 : bulk f.Shape.Pts = f.Shape.Pts.length := bulk_flat (fun _ => rfl) _
 have ht : bulk f.Tags ≤ f.Tags.length * (12 + 1) := bulk_small _ 12 fun t hm => by
  unfold tagsOk at h1
  obtain ⟨k, hk, rfl⟩ := List.getElem_of_mem hm
  have := allN_iff.1 h1 k hk
  rw [nth_nat _ hk] at this
  simp only [Bool.and_eq_true] at this
  have a1 := word_len this.1.1
  have a2 := word_len this.1.2
  have b0 : bulk f.Tags[k] = bulk f.Tags[k].Key + bulk f.Tags[k].Val := rfl
  have b1 : bulk f.Tags[k].Key = f.Tags[k].Key.length := bulk_str _
  have b2 : bulk f.Tags[k].Val = f.Tags[k].Val.length := bulk_str _
  omega
 have hp : f.Shape.Pts.length ≤ 6 := by
  unfold shapeOk kindOk at h4
  simp only [Bool.and_eq_true] at h4
  have := h4.2
  split at this
  ·simp only [decide_eq_true_eq] at this; omega
  ·split at this
   ·simp only [Bool.and_eq_true, decide_eq_true_eq] at this; omega
   ·split at this
    ·simp only [Bool.and_eq_true, decide_eq_true_eq] at this; omega
    ·cases this
 have : f.Tags.length * (12 + 1) ≤ 52 := by omega
 omega
end
structure MInv (o a b : List Pt) (xs : List Pt) (i j k t : Nat) : Prop where
 hi : i ≤ t
 ht : t ≤ o.length
 hj : j ≤ a.length
 hk : k ≤ b.length
 fj : From (part o a) t j
 fk : From (part o b) t k
 len : xs.length ≤ j + k
 eq : (mloop o a b (part o a) (part o b) (o.length - t) t i j k).map (xs ++ ·) = smerge o a b
theorem MInv.zero {o a b : List Pt} (h1 : few o a = true) (h2 : few o b = true) : MInv o a b [] 0 0 0 0 :=
 ⟨Nat.le_refl _, Nat.zero_le _, Nat.zero_le _, Nat.zero_le _, From.zero _ _, From.zero _ _, Nat.le_refl _, by rw [smerge_few h1 h2, Nat.sub_zero]; cases mloop o a b (part o a) (part o b) o.length 0 0 0 0 <;> rfl⟩
theorem MInv.skip {o a b xs : List Pt} {i j k t : Nat} (h : MInv o a b xs i j k t) (ht : t < o.length) (hn : part o a t = none ∨ part o b t = none) : MInv o a b xs i j k (t + 1) :=
 ⟨by have := h.hi; omega, ht, h.hj, h.hk, h.fj.skip, h.fk.skip, h.len, by
  have := h.eq
  rw [show o.length - t = (o.length - (t + 1)) + 1 by omega, mloop_none hn] at this
  exact this⟩
theorem MInv.step {o a b xs : List Pt} {i j k t x y : Nat} (h : MInv o a b xs i j k t) (ht : t < o.length) (hx : part o a t = some x) (hy : part o b t = some y) {p : List Pt} (hp : pickL (seg o i t) (seg a j x) (seg b k y) = some p) : MInv o a b (xs ++ p ++ [nth o (t : Int)]) (t + 1) (x + 1) (y + 1) (t + 1) := by
 have h1 := (part_mates o a).lt hx
 have h2 := (part_mates o b).lt hy
 refine ⟨Nat.le_refl _, ht, h1.2, h2.2, .step (part_mates o a) hx, .step (part_mates o b) hy, ?_, ?_⟩
 ·have := (pickL_mem hp).2.2.2
  rw [seg_len a _ _ OM, seg_len b _ _ OM] at this
  have h3 := h.fj t x (Nat.le_refl _) hx
  have h4 := h.fk t y (Nat.le_refl _) hy
  have h5 := h.len
  simp only [List.length_append, List.length_singleton]; omega
 ·have := h.eq
  rw [show o.length - t = (o.length - (t + 1)) + 1 by omega, mloop_some hx hy, hp, Option.bind_some, Option.map_map] at this
  rw [← this]
  congr 1
  funext r
  simp
theorem MInv.from {o a b xs : List Pt} {i j k t x y : Nat} (h : MInv o a b xs i j k t) (hx : part o a t = some x) (hy : part o b t = some y) : j ≤ x ∧ x < a.length ∧ k ≤ y ∧ y < b.length :=
 ⟨h.fj t x (Nat.le_refl _) hx, ((part_mates o a).lt hx).2, h.fk t y (Nat.le_refl _) hy, ((part_mates o b).lt hy).2⟩
def keysT (t : List Tag) : List Str := t.map (·.Key)
theorem keys_app (s t : List Tag) : keysT (s ++ t) = keysT s ++ keysT t := List.map_append
theorem feat_facts {f : Feat} (h : featOk f = true) : f.Tags.length ≤ 4 ∧ shapeOk f.Shape = true ∧ f.Shape.Pts.length ≤ 6 ∧ f.Id.length ≤ 6 ∧ ∀ t ∈ f.Tags, t.Key.length ≤ 6 ∧ t.Val.length ≤ 6 := by
 have hb := (feat_small h).2
 unfold featOk at h
 simp only [Bool.and_eq_true, decide_eq_true_eq] at h
 obtain ⟨⟨⟨h1, h2⟩, h3⟩, h4⟩ := h
 refine ⟨h2, h4, ?_, hb, fun t hm => ?_⟩
 ·unfold shapeOk kindOk at h4
  simp only [Bool.and_eq_true] at h4
  have := h4.2
  split at this
  ·simp only [decide_eq_true_eq] at this; omega
  ·split at this
   ·simp only [Bool.and_eq_true, decide_eq_true_eq] at this; omega
   ·split at this
    ·simp only [Bool.and_eq_true, decide_eq_true_eq] at this; omega
    ·cases this
 ·unfold tagsOk at h1
  obtain ⟨k, hk, rfl⟩ := List.getElem_of_mem hm
  have := allN_iff.1 h1 k hk
  rw [nth_nat _ hk] at this
  simp only [Bool.and_eq_true] at this
  exact ⟨word_len this.1.1, word_len this.1.2⟩
theorem shape_pts {s : Shape} (h : shapeOk s = true) : s.Pts.length ≤ 6 := by
 unfold shapeOk kindOk at h
 simp only [Bool.and_eq_true] at h
 have := h.2
 split at this
 ·simp only [decide_eq_true_eq] at this; omega
 ·split at this
  ·simp only [Bool.and_eq_true, decide_eq_true_eq] at this; omega
  ·split at this
   ·simp only [Bool.and_eq_true, decide_eq_true_eq] at this; omega
   ·cases this
section
def mkL {α : Type} (g : α → Int → α × Int) : List α → Int → List α × Int
 | [], k => ([], k)
 | x :: l, k => ((g x k).1 :: (mkL g l (g x k).2).1, (mkL g l (g x k).2).2)
section
variable {α : Type} {g : α → Int → α × Int}
theorem mkL_snoc (x : α) : ∀ (l : List α) (k : Int), mkL g (l ++ [x]) k = ((mkL g l k).1 ++ [(g x (mkL g l k).2).1], (g x (mkL g l k).2).2)
 | [], k => rfl
 | y :: l, k => by
  rw [List.cons_append, mkL, mkL_snoc x l]; rfl
theorem mkL_len : ∀ (l : List α) (k : Int), (mkL g l k).1.length = l.length
 | [], k => rfl
 | y :: l, k => by rw [mkL, List.length_cons, List.length_cons, mkL_len l]
theorem mkL_app : ∀ (l m : List α) (k : Int), mkL g (l ++ m) k = ((mkL g l k).1 ++ (mkL g m (mkL g l k).2).1, (mkL g m (mkL g l k).2).2)
 | [], m, k => rfl
 | y :: l, m, k => by rw [List.cons_append, mkL, mkL_app l]; rfl
variable [Inhabited α]
def Mk (g : α → Int → α × Int) (a : List α) (k : Int) (u : Nat) (xs : List α) (k' : Int) : Prop := u ≤ a.length ∧ xs = (mkL g (a.take u) k).1 ++ a.drop u ∧ k' = (mkL g (a.take u) k).2
variable {a xs : List α} {k k' : Int} {u : Nat}
theorem Mk.zero (a : List α) (k : Int) : Mk g a k 0 a k := ⟨Nat.zero_le _, by simp [mkL], by simp [mkL]⟩
theorem Mk.len (h : Mk g a k u xs k') : xs.length = a.length := by
 rw [h.2.1, List.length_append, mkL_len, List.length_take, List.length_drop]; have := h.1; omega
theorem Mk.nth (h : Mk g a k u xs k') (hu : u < a.length) : nth xs (u : Int) = Go.Proofs.Ytemeihpokbleaaa.nth a (u : Int) := by
 rw [nth_nat xs (by rw [h.len]; exact hu), nth_nat a hu]
 have hl : (mkL g (a.take u) k).1.length = u := by rw [mkL_len, List.length_take]; omega
 have := h.2.1
 subst this
 rw [List.getElem_append_right OM]
 simp [hl]
def Hd (g : α → Int → α × Int) (a : List α) (k : Int) (u : Nat) (k' : Int) : Prop := u ≤ a.length ∧ k' = (mkL g (a.take u) k).2
theorem Hd.zero (a : List α) (k : Int) : Hd g a k 0 k := ⟨Nat.zero_le _, by simp [mkL]⟩
theorem Hd.nth (h : Hd g a k u k') (hu : u < a.length) : nth (mkL g a k).1 (u : Int) = (g (Go.Proofs.Ytemeihpokbleaaa.nth a (u : Int)) k').1 := by
 have e : a = (a.take u ++ [Go.Proofs.Ytemeihpokbleaaa.nth a (u : Int)]) ++ a.drop (u + 1) := by rw [← take_nth a hu, List.take_append_drop]
 have hl : (mkL g (a.take u) k).1.length = u := by rw [mkL_len, List.length_take]; omega
 rw [nth_nat _ (by rw [mkL_len]; exact hu)]
 have h1 : (mkL g a k).1[u]? = some (g (Go.Proofs.Ytemeihpokbleaaa.nth a (u : Int)) k').1 := by
  conv => lhs; rw [e]
  rw [mkL_app, mkL_snoc]
  dsimp only
  rw [List.append_assoc, List.getElem?_append_right OM, hl, Nat.sub_self, h.2]; rfl
 rw [List.getElem?_eq_getElem (by rw [mkL_len]; exact hu)] at h1
 exact Option.some.inj h1
end
theorem bulk_feat (x : Feat) : bulk x = bulk x.Id + (bulk x.Shape.Kind + bulk x.Shape.Pts) + bulk x.Tags := rfl
end
theorem pw_ext {α : Type} {R : α → α → Prop} (irr : ∀ x, ¬ R x x) (tr : ∀ x y z, R x y → R y z → R x z) : ∀ {l m : List α}, l.Pairwise R → m.Pairwise R → (∀ x, x ∈ l ↔ x ∈ m) → l = m
 | [], [], _, _, _ => rfl
 | [], y :: m, _, _, h => by have := (h y).2 List.mem_cons_self; cases this
 | x :: l, [], _, _, h => by have := (h x).1 List.mem_cons_self; cases this
 | x :: l, y :: m, hl, hm, h => by
  obtain ⟨l1, l2⟩ := List.pairwise_cons.1 hl
  obtain ⟨m1, m2⟩ := List.pairwise_cons.1 hm
  have e : x = y := by
   rcases List.mem_cons.1 ((h x).1 List.mem_cons_self) with e | e
   ·exact e
   ·rcases List.mem_cons.1 ((h y).2 List.mem_cons_self) with e' | e'
    ·exact e'.symm
    ·exact absurd (tr _ _ _ (m1 x e) (l1 y e')) (irr _)
  subst e
  rw [pw_ext irr tr l2 m2 fun z => ⟨fun hz => ?_, fun hz => ?_⟩]
  ·rcases List.mem_cons.1 ((h z).1 (List.mem_cons_of_mem _ hz)) with e | e
   ·subst e; exact absurd (l1 z hz) (irr _)
   ·exact e
  ·rcases List.mem_cons.1 ((h z).2 (List.mem_cons_of_mem _ hz)) with e | e
   ·subst e; exact absurd (m1 z hz) (irr _)
   ·exact e
def FS (l : List Feat) : Prop := l.Pairwise fun x y => Op.bytesLess x.Id y.Id = true
theorem FS.ext {l m : List Feat} (hl : FS l) (hm : FS m) (h : ∀ x, x ∈ l ↔ x ∈ m) : l = m :=
 pw_ext (R := fun x y : Feat => Op.bytesLess x.Id y.Id = true) (fun x e => by rw [less_irr] at e; cases e) (fun x y z h1 h2 => less_trans h1 h2) hl hm h
theorem FS.inj {d : List Feat} (h : FS d) {x y : Feat} (hx : x ∈ d) (hy : y ∈ d) (e : x.Id = y.Id) : x = y := by
 obtain ⟨i, hi, rfl⟩ := List.getElem_of_mem hx
 obtain ⟨j, hj, rfl⟩ := List.getElem_of_mem hy
 rcases Nat.lt_trichotomy i j with g | g | g
 ·have := List.pairwise_iff_getElem.1 h i j hi hj g
  rw [e, less_irr] at this; cases this
 ·subst g; rfl
 ·have := List.pairwise_iff_getElem.1 h j i hj hi g
  rw [e, less_irr] at this; cases this
theorem tags_ss {t : List Tag} (h : tagsOk t = true) : SS (keysT t) := by
 have h1 := allN_iff.1 h
 have hadj : ∀ k, 0 < k → k < t.length → Op.bytesLess (nth t ((k : Int) - 1)).Key (nth t (k : Int)).Key = true := fun k h0 hk => by
  have := h1 k hk
  simp only [Bool.and_eq_true, Bool.or_eq_true, decide_eq_true_eq] at this
  rcases this.2 with h | h
  ·omega
  ·exact h
 unfold SS keysT
 rw [List.pairwise_map]
 refine List.pairwise_iff_getElem.2 fun i j hi hj hij => ?_
 have key : ∀ d, i + d + 1 < t.length → Op.bytesLess t[i].Key (nth t ((i + d + 1 : Nat) : Int)).Key = true := by
  intro d
  induction d with
  | zero =>
   intro hd
   have := hadj (i + 0 + 1) OM hd
   rw [show (((i + 0 + 1 : Nat) : Int) - 1) = (i : Int) by omega, nth_nat t hi] at this
   exact this
  | succ d ih =>
   intro hd
   have := hadj (i + (d + 1) + 1) OM hd
   rw [show (((i + (d + 1) + 1 : Nat) : Int) - 1) = ((i + d + 1 : Nat) : Int) by omega] at this
   exact less_trans (ih OM) this
 have := key (j - i - 1) OM
 rw [show i + (j - i - 1) + 1 = j by omega, nth_nat t hj] at this
 exact this
theorem featOk_tags {f : Feat} (h : featOk f = true) : SS (keysT f.Tags) := by
 unfold featOk at h
 simp only [Bool.and_eq_true] at h
 exact tags_ss h.1.1.1
theorem tagsOk_of {t : List Tag} (hs : SS (keysT t)) (hw : ∀ x ∈ t, wordOk x.Key = true ∧ wordOk x.Val = true) : tagsOk t = true := by
 unfold tagsOk
 refine allN_true fun k hk => ?_
 obtain ⟨h1, h2⟩ := hw _ (nth_mem t hk)
 rw [h1, h2, Bool.true_and, Bool.true_and, Bool.or_eq_true, decide_eq_true_eq]
 rcases Nat.eq_zero_or_pos k with h0 | h0
 ·exact .inl h0
 refine .inr ?_
 unfold SS keysT at hs
 have := List.pairwise_iff_getElem.1 (List.pairwise_map.1 hs) (k - 1) k OM hk OM
 rw [show ((k : Int) - 1) = ((k - 1 : Nat) : Int) by omega, nth_nat t hk, nth_nat t OM]
 exact this
theorem shape_pos {s : Shape} (h : shapeOk s = true) : 1 ≤ s.Pts.length := by
 unfold shapeOk kindOk at h
 simp only [Bool.and_eq_true] at h
 have := h.2
 split at this
 ·simp only [decide_eq_true_eq] at this; omega
 ·split at this
  ·simp only [Bool.and_eq_true, decide_eq_true_eq] at this; omega
  ·split at this
   ·simp only [Bool.and_eq_true, decide_eq_true_eq] at this; omega
   ·cases this
theorem dot_ok {x y : Int} (h1 : 0 ≤ x) (h2 : x ≤ 5) (h3 : 0 ≤ y) (h4 : y ≤ 5) : shapeOk ⟨1, [⟨x, y⟩]⟩ = true := by
 have e : ptOk (⟨x, y⟩ : Pt) = true := by
  unfold ptOk inR
  simp only [Bool.and_eq_true, decide_eq_true_eq]; omega
 unfold shapeOk ptsOk kindOk
 rw [Bool.and_eq_true]
 refine ⟨allN_true fun k hk => ?_, by rw [if_pos rfl]; rfl⟩
 have hk : k < 1 := hk
 obtain rfl : k = 0 := by omega
 rw [Bool.and_eq_true]
 exact ⟨e, rfl⟩
def NX (q : Pt) : Prop := q.X ≠ 71 ∧ q.X ≠ 72
theorem NX.of {x y : Int} (h : x ≤ 3) : NX ⟨x, y⟩ := ⟨by dsimp only; omega, by dsimp only; omega⟩
def keyL : List Str := [[110, 97, 109, 101], [107, 105, 110, 100], [117, 115, 101], [116, 111, 110, 101]]
def valL : List Str := [[97], [98], [111, 97, 107], [97, 115, 104], [114, 111, 97, 100]]
def idL : List Str := [[97], [98], [99], [100], [101]]
def DT (x : Tag) : Prop := x.Key ∈ keyL ∧ x.Val ∈ valL
theorem keyL_ok : ∀ k ∈ keyL, wordOk k = true := by decide
theorem valL_ok : ∀ k ∈ valL, wordOk k = true := by decide
theorem idL_ok : ∀ k ∈ idL, wordOk k = true := by decide
def plainK (k : Str) : Prop := k ≠ [97, 97, 97] ∧ k ≠ [122, 122, 122]
theorem keyL_plain : ∀ k ∈ keyL, plainK k := by
 intro k hk
 simp only [keyL, List.mem_cons, List.not_mem_nil, or_false] at hk
 unfold plainK
 rcases hk with rfl | rfl | rfl | rfl <;> decide
theorem feat_of {id : Str} {s : Shape} {t : List Tag} (h1 : wordOk id = true) (h2 : shapeOk s = true) (h3 : SS (keysT t)) (h4 : t.length ≤ 4) (h5 : ∀ x ∈ t, wordOk x.Key = true ∧ wordOk x.Val = true) : featOk ⟨id, s, t⟩ = true := by
 unfold featOk
 dsimp only
 rw [tagsOk_of h3 h5, h1, h2, decide_eq_true h4]; rfl
structure FB (n : Nat) (f : Feat) : Prop where
 id : f.Id.length ≤ 7
 pts : f.Shape.Pts.length ≤ 7
 len : f.Tags.length ≤ n
 wd : ∀ x ∈ f.Tags, x.Key.length ≤ 6 ∧ x.Val.length ≤ 6
theorem FB.small {n : Nat} {f : Feat} (h : FB n f) : bulk f ≤ 14 + 13 * n := by
 have e : bulk f = bulk f.Id + (0 + bulk f.Shape.Pts) + bulk f.Tags := rfl
 have e2 : bulk f.Id = f.Id.length := bulk_str _
 have e3 : bulk f.Shape.Pts = f.Shape.Pts.length := bulk_flat (fun _ => rfl) _
 have hs := bulk_small f.Tags 12 fun t ht => by
  have := h.wd t ht
  have e : bulk t = bulk t.Key + bulk t.Val := rfl
  rw [e, bulk_str, bulk_str]; omega
 have : f.Tags.length * (12 + 1) ≤ n * 13 := Nat.mul_le_mul h.len (Nat.le_refl _)
 have := h.id; have := h.pts
 omega
theorem FB.of {f : Feat} (h : featOk f = true) : FB 4 f := by
 have := feat_facts h
 exact ⟨OM, OM, this.1, this.2.2.2.2⟩
theorem FB.mono {n m : Nat} {f : Feat} (h : FB n f) (hm : n ≤ m) : FB m f := ⟨h.id, h.pts, Nat.le_trans h.len hm, h.wd⟩
theorem DT.len {x : Tag} (h : DT x) : x.Key.length ≤ 6 ∧ x.Val.length ≤ 6 := ⟨word_len (keyL_ok _ h.1), word_len (valL_ok _ h.2)⟩
theorem DT.ok {x : Tag} (h : DT x) : wordOk x.Key = true ∧ wordOk x.Val = true := ⟨keyL_ok _ h.1, valL_ok _ h.2⟩
structure MB (n m : Nat) (s : List Feat) : Prop where
 len : s.length ≤ n
 fb : ∀ f ∈ s, FB m f
theorem MB.small {n m : Nat} {s : List Feat} (h : MB n m s) : bulk s ≤ n * (15 + 13 * m) := by
 have hs := bulk_small s (14 + 13 * m) fun f hf => (h.fb f hf).small
 have : s.length * (14 + 13 * m + 1) ≤ n * (15 + 13 * m) := Nat.mul_le_mul h.len OM
 omega
theorem MB.of {s : List Feat} (h : sheetOk s = true) : MB 8 4 s := ⟨(sheet_ss h).2.1, fun f hf => FB.of ((sheet_ss h).2.2 f hf)⟩
theorem MB.mono {n n' m m' : Nat} {s : List Feat} (h : MB n m s) (h1 : n ≤ n') (h2 : m ≤ m') : MB n' m' s := ⟨Nat.le_trans h.len h1, fun f hf => (h.fb f hf).mono h2⟩
theorem sheet_of {s : List Feat} (h1 : SS (ids s)) (h2 : s.length ≤ 8) (h3 : ∀ f ∈ s, featOk f = true) : sheetOk s = true := by
 unfold sheetOk
 rw [Bool.and_eq_true]
 refine ⟨allN_true fun k hk => ?_, decide_eq_true h2⟩
 rw [Bool.and_eq_true, Bool.or_eq_true, decide_eq_true_eq]
 refine ⟨h3 _ (nth_mem s hk), ?_⟩
 rcases Nat.eq_zero_or_pos k with h0 | h0
 ·exact .inl h0
 refine .inr ?_
 unfold SS ids at h1
 have := List.pairwise_iff_getElem.1 (List.pairwise_map.1 h1) (k - 1) k OM hk OM
 rw [show ((k : Int) - 1) = ((k - 1 : Nat) : Int) by omega, nth_nat s hk, nth_nat s OM]
 exact this
def zzI : Str := [122, 122]
theorem idL_nz : ∀ k ∈ idL, k ≠ zzI := by
 intro k hk
 simp only [idL, List.mem_cons, List.not_mem_nil, or_false] at hk
 rcases hk with rfl | rfl | rfl | rfl | rfl <;> decide
structure MD (s : List Feat) : Prop where
 mb : MB 14 4 s
 nz : ∀ f ∈ s, f.Id ≠ zzI
theorem MD.small {s : List Feat} (h : MD s) : bulk s ≤ 1048576 := Nat.le_trans h.mb.small RD
def findCommit (r : Repo) (c : Commit) : Int := findN r.Commits.length fun j => decide (nth r.Commits (j : Int) = c)
def findHead (r : Repo) (name : Str) : Int := findN r.Heads.length fun j => decide ((nth r.Heads (j : Int)).Name = name)
def inUp (up : List Int) (k j : Nat) : Bool := decide (0 ≤ nth up (j : Int)) && decide (nth up (j : Int) < (k : Int))
def upOk (up : List Int) (k : Nat) : Bool := (decide (k = 0) == decide (up.length = 0)) && decide (up.length ≤ 2) && allN up.length fun j => inUp up k j && !(decide (nth up (j : Int) ∈ up.take j))
theorem upOk_eq (up : List Int) (k : Nat) : (allN up.length (inUp up k) && (decide (up.length ≤ 2) && ((decide (0 < up.length) == decide (0 < k)) && (decide (up.length < 2) || !(decide (nth up 0 = nth up 1)))))) = upOk up k := by
 unfold upOk
 have h0 : (decide (k = 0) == decide (up.length = 0)) = (decide (0 < up.length) == decide (0 < k)) := by
  rcases Nat.eq_zero_or_pos k with h | h <;> rcases Nat.eq_zero_or_pos up.length with g | g
  ·rw [h, g]; rfl
  ·rw [h, decide_eq_false (show ¬ up.length = 0 by omega), decide_eq_true g]; rfl
  ·rw [g, decide_eq_false (show ¬ k = 0 by omega), decide_eq_true h]; rfl
  ·rw [decide_eq_false (show ¬ k = 0 by omega), decide_eq_false (show ¬ up.length = 0 by omega), decide_eq_true h, decide_eq_true g]; rfl
 rw [h0]
 match up with
 | [] => simp [allN]
 | [x] => simp [allN, Bool.and_comm]
 | [x, y] =>
  have e : allN 2 (fun j => inUp [x, y] k j && !(decide (nth [x, y] (j : Int) ∈ [x, y].take j))) = (inUp [x, y] k 0 && inUp [x, y] k 1 && !(decide (x = y))) := by
   have : (decide (y = x)) = decide (x = y) := decide_eq_decide.2 eq_comm
   simp [allN, List.range_succ, nth, this, Bool.and_assoc]
  have e2 : allN 2 (inUp [x, y] k) = (inUp [x, y] k 0 && inUp [x, y] k 1) := by simp [allN, List.range_succ]
  show (allN 2 (inUp [x, y] k) && _) = (_ && allN 2 _)
  rw [e, e2]
  have e3 : decide (nth [x, y] 0 = nth [x, y] 1) = decide (x = y) := rfl
  rw [e3]
  simp only [show decide ([x, y].length ≤ 2) = true from rfl, show decide ([x, y].length < 2) = false from rfl, Bool.true_and, Bool.false_or, Bool.and_true]
  cases decide (x = y) <;> cases inUp [x, y] k 0 <;> cases inUp [x, y] k 1 <;> cases (decide (0 < [x, y].length) == decide (0 < k)) <;> rfl
 | x :: y :: z :: l =>
  have : decide ((x :: y :: z :: l).length ≤ 2) = false := decide_eq_false (by simp)
  rw [this]; simp
def repoOk (r : Repo) : Bool :=
 (decide (1 ≤ r.Commits.length) && decide (r.Commits.length ≤ 14)) && (decide (1 ≤ r.Heads.length) && decide (r.Heads.length ≤ 4)) &&
 allN r.Commits.length (fun k => sheetOk (nth r.Commits (k : Int)).Sheet && wordOk (nth r.Commits (k : Int)).Note && decide (findCommit r (nth r.Commits (k : Int)) = (k : Int)) && upOk (nth r.Commits (k : Int)).Up k) &&
 allN r.Heads.length (fun k => wordOk (nth r.Heads (k : Int)).Name && decide (findHead r (nth r.Heads (k : Int)).Name = (k : Int)) && (decide (0 ≤ (nth r.Heads (k : Int)).At) && decide ((nth r.Heads (k : Int)).At < (r.Commits.length : Int))))
def stepUp (up : List Int) (m : List Bool) : List Bool := up.foldl (fun m u => m.set u.toNat true) m
def back (r : Repo) : Nat → List Bool → List Bool
 | 0, m => m
 | k + 1, m => back r k (if nth m (k : Int) then stepUp (nth r.Commits (k : Int)).Up m else m)
structure RW (r : Repo) : Prop where
 c0 : 1 ≤ r.Commits.length
 c1 : r.Commits.length ≤ 12
 h0 : 1 ≤ r.Heads.length
 h1 : r.Heads.length ≤ 4
 cs : ∀ c ∈ r.Commits, c.Up.length ≤ 2 ∧ sheetOk c.Sheet = true ∧ c.Note.length ≤ 5
 hs : ∀ h ∈ r.Heads, h.Name.length ≤ 6 ∧ 0 ≤ h.At ∧ h.At < (r.Commits.length : Int)
structure RB (r : Repo) : Prop where
 c0 : 1 ≤ r.Commits.length
 c1 : r.Commits.length ≤ 12
 h0 : 1 ≤ r.Heads.length
 h1 : r.Heads.length ≤ 5
 cs : ∀ c ∈ r.Commits, c.Up.length ≤ 3 ∧ bulk c.Sheet ≤ 938 ∧ c.Note.length ≤ 6
 hs : ∀ h ∈ r.Heads, h.Name.length ≤ 6
theorem sheet_bulk {s : List Feat} (h : sheetOk s = true) : bulk s ≤ 938 := Nat.le_trans (MB.of h).small RD
theorem md_bulk {s : List Feat} (h : MD s) : bulk s ≤ 938 := Nat.le_trans h.mb.small RD
theorem RW.rb {r : Repo} (h : RW r) : RB r := ⟨h.c0, h.c1, h.h0, Nat.le_trans h.h1 RD, fun c hc => by
 obtain ⟨h1, h2, h3⟩ := h.cs c hc
 exact ⟨OM, sheet_bulk h2, OM⟩, fun x hx => (h.hs x hx).1⟩
theorem commit_bulk {c : Commit} {a b d : Nat} (h1 : c.Up.length ≤ a) (h2 : bulk c.Sheet ≤ b) (h3 : c.Note.length ≤ d) : bulk c ≤ a + b + d := by
 have e : bulk c = bulk c.Up + bulk c.Sheet + bulk c.Note := rfl
 have e1 : bulk c.Up = c.Up.length := bulk_ints _
 have e3 : bulk c.Note = c.Note.length := bulk_str _
 omega
theorem repo_bulk {r : Repo} {n m a b : Nat} (h1 : r.Commits.length ≤ n) (h2 : r.Heads.length ≤ m) (h3 : ∀ c ∈ r.Commits, bulk c ≤ a) (h4 : ∀ h ∈ r.Heads, h.Name.length ≤ b) : bulk r ≤ n * (a + 1) + m * (b + 1) := by
 have e : bulk r = bulk r.Commits + bulk r.Heads := rfl
 have g1 := bulk_small r.Commits a h3
 have g2 := bulk_small r.Heads b fun h hh => by
  have e : bulk h = bulk h.Name + 0 := rfl
  have e2 : bulk h.Name = h.Name.length := bulk_str _
  have := h4 h hh
  omega
 have g3 : r.Commits.length * (a + 1) ≤ n * (a + 1) := Nat.mul_le_mul h1 (Nat.le_refl _)
 have g4 : r.Heads.length * (b + 1) ≤ m * (b + 1) := Nat.mul_le_mul h2 (Nat.le_refl _)
 omega
theorem RB.small {r : Repo} (h : RB r) : bulk r ≤ 20000 := by
 have := repo_bulk h.c1 h.h1 (fun c hc => commit_bulk (h.cs c hc).1 (h.cs c hc).2.1 (h.cs c hc).2.2) h.hs
 omega
theorem RB.big {r : Repo} (h : RB r) : bulk r ≤ 1048576 := Nat.le_trans h.small RD
theorem RB.set {r : Repo} (h : RB r) (k : Nat) {c : Commit} (hc : c.Up.length ≤ 3 ∧ bulk c.Sheet ≤ 938 ∧ c.Note.length ≤ 6) : RB ⟨r.Commits.set k c, r.Heads⟩ :=
 ⟨by dsimp only; rw [List.length_set]; exact h.c0, by dsimp only; rw [List.length_set]; exact h.c1, h.h0, h.h1, fun x hx => by
  rcases List.mem_or_eq_of_mem_set hx with hx | rfl
  ·exact h.cs x hx
  ·exact hc, h.hs⟩
theorem name_len {n : Str} (h : n ∈ ([[109, 97, 105, 110], [97, 110, 110], [98, 111, 98]] : List Str)) : n.length ≤ 6 := by
 simp only [List.mem_cons, List.not_mem_nil, or_false] at h
 rcases h with rfl | rfl | rfl <;> decide
theorem note_len {n : Str} (h : n ∈ ([[97, 110, 110], [98, 111, 98], [102, 105, 120]] : List Str)) : n.length ≤ 5 := by
 simp only [List.mem_cons, List.not_mem_nil, or_false] at h
 rcases h with rfl | rfl | rfl <;> decide
theorem iteB {c : Bool} {A B : Prop} (h1 : c = true → A) (h2 : c = false → B) : (if c = true then A else B) := by
 cases c with
 | true => rw [if_pos rfl]; exact h1 rfl
 | false => rw [if_neg RD]; exact h2 rfl
theorem F56.law (s : Str) (Q : Bool → Prop) (hq : Q (wordOk s)) : F56.E s Q := by
 unfold F56.E
 unfold wordOk at hq
 refine loop_all s.length (fun k => byteOk (nth s (k : Int))) (fun I mu k hk hp hn => ?_) (fun ha => ?_)
 ·refine ⟨OM, ?_⟩
  cases h1 : decide (((nth s (k : Int)).toNat : Int) < 97) with
  | true => rw [if_pos rfl]; rw [allN_false hk (by simp only [byteOk, h1]; rfl), Bool.false_and] at hq; exact hq
  | false =>
   rw [if_neg RD]
   refine ⟨OM, ?_⟩
   cases h2 : decide (((nth s (k : Int)).toNat : Int) > 122) with
   | true => rw [if_pos rfl]; rw [allN_false hk (by simp only [byteOk, h1, h2]; rfl), Bool.false_and] at hq; exact hq
   | false =>
    rw [if_neg RD]
    obtain ⟨i1, i2⟩ := hn (by simp only [byteOk, h1, h2]; rfl)
    exact ⟨OM, i1, i2⟩
 ·rw [allN_true ha, Bool.true_and] at hq
  by_cases h : 1 ≤ s.length
  ·rw [decide_eq_true h, Bool.true_and] at hq
   rw [if_pos (by rw [decide_eq_true_eq]; omega)]
   have e2 : decide ((s.length : Int) ≤ 6) = decide (s.length ≤ 6) := decide_eq_decide.2 OM
   rw [e2]; exact hq
  ·rw [decide_eq_false h, Bool.false_and] at hq
   rw [if_neg (by rw [decide_eq_true_eq]; omega)]; exact hq
theorem F48.law (name : Str) (Q : Repo → Bool → Prop) (hw : wordOk name = true) (hq : Q ⟨[⟨[], [], [98, 101, 103, 105, 110]⟩], [⟨name, 0⟩]⟩ true) : F48.E name Q := by
 unfold F48.E
 refine F56.law _ _ ?_
 rw [hw]
 exact hq
theorem ediv_le {p l : Int} (hp : 0 ≤ p) (hl : 0 < l) : 0 ≤ p / l ∧ p / l ≤ p := ⟨Int.ediv_nonneg hp OM, Int.ediv_le_self _ hp⟩
theorem F23.law (b : List UInt8) (p n : Int) (Q : Int → Int → Prop) (hb : b.length ≤ 2000) (hp : 0 ≤ p) (hp1 : p ≤ 1099511627776) (hq : ∀ v, 0 ≤ v → (v < n ∨ v = 0) → Q v (p + 1)) : F23.E b p n Q := by
 unfold F23.E
 refine ⟨by unfold I64; omega, ?_⟩
 by_cases hn : n < 1
 ·rw [if_pos (by simpa using hn)]; exact hq 0 OM (.inr rfl)
 rw [if_neg (by simpa using hn)]
 by_cases hl : (b.length : Int) = 0
 ·rw [if_pos (by simpa using hl)]; exact hq 0 OM (.inr rfl)
 rw [if_neg (by simpa using hl)]
 refine ⟨fun _ => by unfold I64; omega, ?_⟩
 rw [show p + 1 - 1 = p by omega]
 have fin : ∀ z : Int, 0 ≤ z → Q (z % n) (p + 1) := fun z hz => hq _ (Int.emod_nonneg _ OM) (.inl (Int.emod_lt_of_pos _ OM))
 by_cases hc : p < (b.length : Int)
 ·rw [if_pos (by simpa using hc)]
  exact ⟨OM, ⟨OM, OM⟩, fin _ OM⟩
 rw [if_neg (by simpa using hc)]
 have hlen : (0 : Int) < (b.length : Int) := by omega
 generalize hL : (b.length : Int) = L at *
 have m1 := Int.emod_nonneg p (show L ≠ 0 by omega)
 have m2 := Int.emod_lt_of_pos p hlen
 have m3 := Int.emod_nonneg (p * 7 + 3) (show L ≠ 0 by omega)
 have m4 := Int.emod_lt_of_pos (p * 7 + 3) hlen
 obtain ⟨d1, d2⟩ := ediv_le hp hlen
 generalize p % L = r1 at *
 generalize (p * 7 + 3) % L = r2 at *
 generalize p / L = q at *
 have u1 := (nth b r1).toNat_lt
 have u2 := (nth b r2).toNat_lt
 generalize (nth b r1).toNat = x1 at *
 generalize (nth b r2).toNat = x2 at *
 have s0 : 0 ≤ (x1 : Int) * 131 + (x2 : Int) * 1117 + p * 29 + q * 53 := by omega
 have s1 : (x1 : Int) * 131 + (x2 : Int) * 1117 + p * 29 + q * 53 ≤ 9223372036854775807 := by omega
 refine ⟨OM, OM, fun _ => by unfold I64; omega, fun _ => by unfold I64; omega, fun _ => by unfold I64; omega, OM, OM, fun _ => by unfold I64; omega, fun _ => by unfold I64; omega, fun _ => by unfold I64; omega, fun _ => by unfold I64; omega, OM, fun _ => by unfold I64; omega, fun _ => by unfold I64; omega, OM, ?_⟩
 generalize (x1 : Int) * 131 + (x2 : Int) * 1117 + p * 29 + q * 53 = s at *
 have hx : 0 ≤ xor64 s (s / 64) := xor64_nonneg ⟨s0, s1⟩ OM
 exact ⟨OM, fin _ hx⟩
theorem F28.law (b : List UInt8) (p : Int) (l : List Int) (Q : Int → Int → Prop) (hb : b.length ≤ 2000) (hp : 0 ≤ p) (hp1 : p ≤ 1099511627776) (hl : 0 < l.length) (hq : ∀ s ∈ l, Q s (p + 1)) : F28.E b p l Q := by
 unfold F28.E
 exact F23.law _ _ _ _ hb hp hp1 fun v h0 h1 => ⟨OM, hq _ (nth_memi l h0 OM)⟩
theorem F95.law (b : List UInt8) (p : Int) (Q : Pt → Int → Prop) (hb : b.length ≤ 2000) (hp : 0 ≤ p) (hp1 : p ≤ 1000000000) (hq : ∀ x y, 0 ≤ x → x ≤ 3 → 0 ≤ y → y ≤ 5 → Q ⟨x, y⟩ (p + 2)) : F95.E b p Q := by
 unfold F95.E
 refine F23.law _ _ _ _ hb hp OM fun v h0 h1 => F28.law _ _ _ _ hb OM OM RD fun y hy => ?_
 rw [show p + 1 + 1 = p + 2 by omega]
 simp only [List.mem_cons, List.not_mem_nil, or_false] at hy
 exact hq _ _ h0 OM OM OM
theorem F85.m_is (a b : Int) : F85.m a b = min a b := by
 unfold F85.m
 by_cases h : a < b
 ·simp [h]; omega
 ·simp [h]; omega
theorem F86.m_is (n : Int) : F86.m n = inR n := by
 unfold F86.m inR
 by_cases h : -1000 ≤ n
 ·rw [if_pos (by rw [decide_eq_true_eq]; omega), decide_eq_true h, Bool.true_and]
 ·rw [if_neg (by rw [decide_eq_true_eq]; omega), decide_eq_false h, Bool.false_and]
theorem F87.law (p : List Pt) (Q : Bool → Prop) (hq : Q (ptsOk p && decide (p.length ≤ 6))) : F87.E p Q := by
 unfold F87.E
 unfold ptsOk at hq
 refine loop_all p.length (fun k => ptOk (nth p (k : Int)) && (decide (k = 0) || !(decide (nth p ((k : Int) - 1) = nth p (k : Int))))) (fun I mu k hk hp hn => ?_) (fun ha => ?_)
 ·refine ⟨OM, ?_⟩
  rw [F86.m_is, F86.m_is]
  have bad : (ptOk (nth p (k : Int)) && (decide (k = 0) || !(decide (nth p ((k : Int) - 1) = nth p (k : Int))))) = false → Q false := fun h => by
   rw [allN_false hk h, Bool.false_and] at hq; exact hq
  cases h1 : inR (nth p (k : Int)).X with
  | false => rw [if_pos RD]; exact bad (by simp only [ptOk, h1, Bool.false_and])
  | true =>
   rw [if_neg RD]
   refine ⟨OM, ?_⟩
   cases h2 : inR (nth p (k : Int)).Y with
   | false => rw [if_pos RD]; exact bad (by simp only [ptOk, h2, Bool.and_false, Bool.false_and])
   | true =>
    rw [if_neg RD]
    have hpt : ptOk (nth p (k : Int)) = true := by simp only [ptOk, h1, h2, Bool.and_self]
    by_cases hk0 : k = 0
    ·rw [if_neg (by rw [decide_eq_true_eq]; omega)]
     obtain ⟨i1, i2⟩ := hn (by rw [hpt, decide_eq_true hk0]; rfl)
     exact ⟨OM, i1, i2⟩
    ·rw [if_pos (by rw [decide_eq_true_eq]; omega)]
     refine ⟨OM, fun _ => by unfold I64; omega, OM, ?_⟩
     rw [eqPt_is]
     by_cases he : nth p ((k : Int) - 1) = nth p (k : Int)
     ·rw [if_pos (by rw [decide_eq_true_eq]; exact he.symm)]
      exact bad (by rw [hpt, decide_eq_false hk0, decide_eq_true he]; rfl)
     ·rw [if_neg (by rw [decide_eq_true_eq]; exact fun e => he e.symm)]
      obtain ⟨i1, i2⟩ := hn (by rw [hpt, decide_eq_false hk0, decide_eq_false he]; rfl)
      exact ⟨OM, i1, i2⟩
 ·rw [allN_true ha, Bool.true_and] at hq
  have e2 : decide ((p.length : Int) ≤ 6) = decide (p.length ≤ 6) := decide_eq_decide.2 OM
  rw [e2]; exact hq
theorem F49.law (s : Shape) (Q : Bool → Prop) (hq : Q (shapeOk s)) : F49.E s Q := by
 unfold F49.E
 unfold shapeOk at hq
 refine F87.law _ _ ?_
 cases h1 : ptsOk s.Pts with
 | false => rw [h1, Bool.false_and] at hq; rw [Bool.false_and, if_pos RD]; exact hq
 | true =>
  rw [h1, Bool.true_and] at hq
  rw [Bool.true_and]
  unfold kindOk at hq
  by_cases h6 : s.Pts.length ≤ 6
  ·rw [decide_eq_true h6, if_neg RD]
   by_cases k1 : s.Kind = 1
   ·rw [if_pos k1] at hq
    rw [if_pos (by rw [beq_iff_eq]; exact k1)]
    have : ((s.Pts.length : Int) == 1) = decide (s.Pts.length = 1) := by rw [Bool.eq_iff_iff, beq_iff_eq, decide_eq_true_eq]; omega
    rw [this]; exact hq
   rw [if_neg k1] at hq
   rw [if_neg (by rw [beq_iff_eq]; exact k1)]
   by_cases k2 : s.Kind = 2
   ·rw [if_pos k2, decide_eq_true h6, Bool.and_true] at hq
    rw [if_pos (by rw [beq_iff_eq]; exact k2)]
    have : decide ((s.Pts.length : Int) ≥ 2) = decide (2 ≤ s.Pts.length) := decide_eq_decide.2 OM
    rw [this]; exact hq
   rw [if_neg k2] at hq
   rw [if_neg (by rw [beq_iff_eq]; exact k2)]
   by_cases k3 : s.Kind = 3
   ·rw [if_pos k3, decide_eq_true h6, Bool.and_true] at hq
    rw [if_pos (by rw [beq_iff_eq]; exact k3)]
    by_cases h3 : 3 ≤ s.Pts.length
    ·rw [decide_eq_true h3, Bool.true_and] at hq
     rw [if_pos (by rw [decide_eq_true_eq]; omega), eqPt_is]
     exact ⟨OM, fun _ => by unfold I64; omega, OM, hq⟩
    ·rw [decide_eq_false h3, Bool.false_and] at hq
     rw [if_neg (by rw [decide_eq_true_eq]; omega)]; exact hq
   ·rw [if_neg k3] at hq
    rw [if_neg (by rw [beq_iff_eq]; exact k3)]; exact hq
  ·rw [decide_eq_false h6, if_pos RD]
   have : (if s.Kind = 1 then decide (s.Pts.length = 1) else if s.Kind = 2 then decide (2 ≤ s.Pts.length) && decide (s.Pts.length ≤ 6)
 else if s.Kind = 3 then decide (3 ≤ s.Pts.length) && decide (s.Pts.length ≤ 6) && !(decide (nth s.Pts 0 = nth s.Pts ((s.Pts.length : Int) - 1))) else false) = false := by
    rw [decide_eq_false h6, decide_eq_false (show ¬ s.Pts.length = 1 by omega)]
    simp
   rw [this] at hq; exact hq
theorem F50.law (b : List UInt8) (p : Int) (Q : Shape → Int → Prop) (hb : b.length ≤ 2000) (hp : 0 ≤ p) (hp1 : p ≤ 100000000) (hq : ∀ s p', shapeOk s = true → (∀ q ∈ s.Pts, NX q) → p ≤ p' → p' ≤ p + 40 → Q s p') : F50.E b p Q := by
 unfold F50.E
 refine F28.law _ _ _ _ hb hp OM RD fun k hk => F23.law _ _ _ _ hb OM OM fun v hv0 hv1 => ?_
 have hk' : 1 ≤ k ∧ k ≤ 3 := by
  simp only [List.mem_cons, List.not_mem_nil, or_false] at hk; omega
 have fin : ∀ (xs : List Pt) (z : Int), (∀ q ∈ xs, NX q) → p ≤ z → z ≤ p + 30 → F49.E ⟨k, xs⟩ (fun r6 => (if !r6 then F95.E b z (fun r7 m4 => Q (⟨1, ([r7] : List Pt)⟩ : Shape) m4) else Q (⟨k, xs⟩ : Shape) z)) := fun xs z hx h1 h2 => by
  refine F49.law _ _ ?_
  cases h : shapeOk ⟨k, xs⟩ with
  | true => rw [if_neg RD]; exact hq _ _ h hx h1 OM
  | false => rw [if_pos RD]; exact F95.law _ _ _ hb OM OM fun x y x0 x1 y0 y1 => hq _ _ (dot_ok x0 OM y0 y1) (fun q hq' => by rw [List.mem_singleton.1 hq']; exact .of x1) OM OM
 refine ⟨by unfold I64; omega, fun w => 1 ≤ w ∧ w ≤ 6, by split <;> omega, ?_⟩
 rintro want ⟨w1, w2⟩
 refine ⟨fun i xs z => 0 ≤ i ∧ i ≤ 12 ∧ (xs.length : Int) ≤ i ∧ (∀ q ∈ xs, NX q) ∧ p + 2 ≤ z ∧ z ≤ p + 2 + 2 * i, fun i _ _ => (12 - i).toNat, ⟨OM, OM, by simp, by simp, OM, OM⟩, ?_⟩
 rintro i xs z ⟨h0, h1, h2, hx, h3, h4⟩
 by_cases hi : i < 12
 case neg => rw [if_neg (by simpa using hi)]; exact fin _ _ hx OM OM
 rw [if_pos (by simpa using hi)]
 by_cases hl : (xs.length : Int) < F85.m want 6
 case neg => rw [if_neg (by simpa using hl)]; exact fin _ _ hx OM OM
 rw [if_pos (by simpa using hl)]
 refine F95.law _ _ _ hb OM OM fun x y x0 x1 y0 y1 => ⟨fun _ => True, ?_, fun v _ => ⟨fun ys => (ys.length : Int) ≤ i + 1 ∧ ∀ q ∈ ys, NX q, ?_, fun ys hys => ⟨by unfold I64; omega, ⟨OM, OM, hys.1, hys.2, OM, OM⟩, by dsimp only; omega⟩⟩⟩
 ·by_cases h0 : (xs.length : Int) = 0
  ·rw [if_pos (by simpa using h0)]; trivial
  ·rw [if_neg (by simpa using h0)]
   refine ⟨fun _ => by unfold I64; omega, OM, ?_⟩
   split
   ·split
    ·trivial
    ·exact ⟨OM, trivial⟩
   ·trivial
 ·cases v with
  | true => rw [if_pos rfl]; exact ⟨by simp only [List.length_cons, List.length_nil]; omega, by simp only [List.length_append, List.length_cons, List.length_nil]; omega, fun q hq' => (List.mem_append.1 hq').elim (hx q) fun g => by rw [List.mem_singleton.1 g]; exact .of x1⟩
  | false => rw [if_neg RD]; exact ⟨OM, hx⟩
theorem F39.law (b : List UInt8) (p : Int) (l : List Str) (Q : Str → Int → Prop) (hb : b.length ≤ 2000) (hp : 0 ≤ p) (hp1 : p ≤ 1099511627776) (hl : 0 < l.length) (hq : ∀ s ∈ l, Q s (p + 1)) : F39.E b p l Q := by
 unfold F39.E
 exact F23.law _ _ _ _ hb hp hp1 fun v h0 h1 => ⟨OM, hq _ (nth_memi l h0 OM)⟩
theorem F88.law (b : List UInt8) (p : Int) (Q : Str → Int → Prop) (hb : b.length ≤ 2000) (hp : 0 ≤ p) (hp1 : p ≤ 1000000000) (hq : ∀ k ∈ keyL, Q k (p + 1)) : F88.E b p Q := by
 unfold F88.E
 exact F39.law _ _ _ _ hb hp OM RD hq
theorem F89.law (b : List UInt8) (p : Int) (Q : Str → Int → Prop) (hb : b.length ≤ 2000) (hp : 0 ≤ p) (hp1 : p ≤ 1000000000) (hq : ∀ k ∈ valL, Q k (p + 1)) : F89.E b p Q := by
 unfold F89.E
 exact F39.law _ _ _ _ hb hp OM RD hq
def PutT (s : List Tag) (key val : Str) (u : Nat) (xs : List Tag) (done : Bool) : Prop :=
 u ≤ s.length ∧ SS (keysT xs) ∧ (∀ x, x ∈ keysT xs ↔ x ∈ keysT (s.take u) ∨ (done = true ∧ x = key)) ∧ (done = false → (∀ x ∈ keysT (s.take u), Op.bytesLess x key = true) ∧ xs = s.take u) ∧
  (done = true → ∀ y ∈ keysT (s.drop u), Op.bytesLess key y = true) ∧ xs.length ≤ u + 1 ∧ (∀ z ∈ xs, z ∈ s ∨ z = ⟨key, val⟩)
theorem ss_snocT {l : List Str} {x : Str} (h : SS l) (hx : ∀ y ∈ l, Op.bytesLess y x = true) : SS (l ++ [x]) := by
 unfold SS
 rw [List.pairwise_append]
 exact ⟨h, List.pairwise_singleton _ _, fun a ha b hb => by rw [List.mem_singleton.1 hb]; exact hx a ha⟩
theorem keys_take {s : List Tag} {u : Nat} (hu : u < s.length) : keysT (s.take (u + 1)) = keysT (s.take u) ++ [(nth s (u : Int)).Key] := by rw [take_nth s hu, keys_app]; rfl
theorem keys_cut (s : List Tag) (u : Nat) : keysT s = keysT (s.take u) ++ keysT (s.drop u) := by rw [← keys_app, List.take_append_drop]
theorem dropNthT {s : List Tag} {u : Nat} (hu : u < s.length) : s.drop u = nth s (u : Int) :: s.drop (u + 1) := by rw [nth_nat s hu]; exact List.drop_eq_getElem_cons hu
theorem ss_ltT {s : List Tag} (h : SS (keysT s)) {u : Nat} (hu : u < s.length) : (∀ x ∈ keysT (s.take u), Op.bytesLess x (nth s (u : Int)).Key = true) ∧ ∀ y ∈ keysT (s.drop (u + 1)), Op.bytesLess (nth s (u : Int)).Key y = true := by
 have e := keys_cut s u
 rw [dropNthT hu] at e
 have e2 : keysT (nth s (u : Int) :: s.drop (u + 1)) = (nth s (u : Int)).Key :: keysT (s.drop (u + 1)) := rfl
 rw [e2] at e
 rw [e] at h
 obtain ⟨h1, h2, h3⟩ := List.pairwise_append.1 h
 exact ⟨fun x hx => h3 x hx _ List.mem_cons_self, (List.pairwise_cons.1 h2).1⟩
theorem F90.law (s : List Tag) (key val : Str) (Q : List Tag → Prop) (hl : s.length ≤ 1048576) (hs : SS (keysT s)) (hq : ∀ r, SS (keysT r) → (∀ x, x ∈ keysT r ↔ x ∈ keysT s ∨ x = key) → r.length ≤ s.length + 1 → (∀ z ∈ r, z ∈ s ∨ z = ⟨key, val⟩) → Q r) : F90.E s key val Q := by
 unfold F90.E
 refine ⟨fun xs done i => ∃ u : Nat, i = u ∧ PutT s key val u xs done, fun _ _ i => (s.length - i).toNat, ⟨0, rfl, Nat.zero_le _, by simp [keysT, SS], by simp [keysT], fun _ => ⟨by simp [keysT], by simp⟩, (fun h => by cases h), by simp, by simp⟩, ?_⟩
 rintro xs done _ ⟨u, rfl, hu, h1, h2, h3, h4, h5, h6⟩
 by_cases h : u < s.length
 ·rw [if_pos (by simpa using h)]
  obtain ⟨b1, b2⟩ := ss_ltT hs h
  have hin : nth s (u : Int) ∈ s := nth_mem s h
  have hdr : ∀ y ∈ keysT (s.drop u), y = (nth s (u : Int)).Key ∨ y ∈ keysT (s.drop (u + 1)) := fun y hy => by rw [dropNthT h] at hy; exact List.mem_cons.1 hy
  have hcur : (nth s (u : Int)).Key ∈ keysT (s.drop u) := by rw [dropNthT h]; exact List.mem_cons_self
  have hdr' : ∀ y ∈ keysT (s.drop (u + 1)), y ∈ keysT (s.drop u) := fun y hy => by rw [dropNthT h]; exact List.mem_cons_of_mem _ hy
  have stay : ∀ d, d = done → Op.bytesLess (nth s (u : Int)).Key key = true ∨ d = true → xs.length + 1 ≤ u + 1 + 1 → PutT s key val (u + 1) (xs ++ [nth s (u : Int)]) d := fun d hd hor hlen => by
   subst hd
   refine ⟨h, ?_, fun x => ?_, fun hdn => ⟨fun x hx => ?_, ?_⟩, fun hdn y hy => h4 hdn y (hdr' y hy), by simp only [List.length_append, List.length_singleton]; omega, fun z hz => ?_⟩
   ·rw [keys_app]
    refine ss_snocT h1 fun y hy => ?_
    rcases (h2 y).1 hy with hy | ⟨hd, rfl⟩
    ·exact b1 y hy
    ·exact h4 hd _ hcur
   ·rw [keys_app, List.mem_append, h2, keys_take h, List.mem_append]
    constructor
    ·rintro ((hx | hx) | hx)
     ·exact .inl (.inl hx)
     ·exact .inr hx
     ·exact .inl (.inr hx)
    ·rintro ((hx | hx) | hx)
     ·exact .inl (.inl hx)
     ·exact .inr hx
     ·exact .inl (.inr hx)
   ·rw [keys_take h] at hx
    rcases List.mem_append.1 hx with hx | hx
    ·exact (h3 hdn).1 x hx
    ·rw [List.mem_singleton.1 hx]
     rcases hor with hor | hor
     ·exact hor
     ·rw [hdn] at hor; cases hor
   ·rw [(h3 hdn).2, ← take_nth s h]
   ·rcases List.mem_append.1 hz with hz | hz
    ·exact h6 z hz
    ·rw [List.mem_singleton.1 hz]; exact .inl hin
  cases done with
  | true =>
   rw [if_neg RD]
   have hlt := h4 rfl _ hcur
   have hne : (nth s (u : Int)).Key ≠ key := fun e => by rw [e, less_irr] at hlt; cases hlt
   refine ⟨OM, ?_⟩
   rw [if_pos (by rw [bne_iff_ne]; exact hne)]
   exact ⟨OM, by simp only [List.length_cons, List.length_nil]; omega, OM, ⟨u + 1, OM, stay true rfl (.inr rfl) OM⟩, by dsimp only; omega⟩
  | false =>
   rw [if_pos RD]
   obtain ⟨c1, c2⟩ := h3 rfl
   have hxl : xs.length = u := by rw [c2, List.length_take]; omega
   refine ⟨OM, ?_⟩
   cases k : Op.bytesLess (nth s (u : Int)).Key key with
   | true =>
    rw [if_neg RD]
    have hne : (nth s (u : Int)).Key ≠ key := fun e => by rw [e, less_irr] at k; cases k
    refine ⟨OM, ?_⟩
    rw [if_pos (by rw [bne_iff_ne]; exact hne)]
    exact ⟨OM, by simp only [List.length_cons, List.length_nil]; omega, OM, ⟨u + 1, OM, stay false rfl (.inl k) OM⟩, by dsimp only; omega⟩
   | false =>
    rw [if_pos RD]
    have g1 : SS (keysT (xs ++ [(⟨key, val⟩ : Tag)])) := by
     rw [keys_app]
     refine ss_snocT h1 fun y hy => ?_
     rcases (h2 y).1 hy with hy | ⟨hd, _⟩
     ·exact c1 y hy
     ·cases hd
    refine ⟨by simp only [List.length_cons, List.length_nil]; omega, OM, ?_⟩
    by_cases hne : (nth s (u : Int)).Key = key
    ·rw [if_neg (by rw [hne]; simp)]
     refine ⟨OM, ⟨u + 1, OM, h, g1, fun x => ?_, (fun hd => by cases hd), fun _ y hy => by rw [← hne]; exact b2 y hy, by simp only [List.length_append, List.length_singleton]; omega, fun z hz => ?_⟩, by dsimp only; omega⟩
     ·rw [keys_app, List.mem_append, h2, keys_take h, List.mem_append, hne]
      show _ ∨ x ∈ [key] ↔ _
      rw [List.mem_singleton]
      constructor
      ·rintro ((hx | ⟨hd, _⟩) | hx)
       ·exact .inl (.inl hx)
       ·cases hd
       ·exact .inr ⟨rfl, hx⟩
      ·rintro ((hx | hx) | ⟨_, hx⟩)
       ·exact .inl (.inl hx)
       ·exact .inr hx
       ·exact .inr hx
     ·rcases List.mem_append.1 hz with hz | hz
      ·exact h6 z hz
      ·exact .inr (List.mem_singleton.1 hz)
    ·rw [if_pos (by rw [bne_iff_ne]; exact hne)]
     have hlt : Op.bytesLess key (nth s (u : Int)).Key = true := by
      rcases less_or k with g | g
      ·exact g
      ·exact absurd g.symm hne
     refine ⟨OM, by simp only [List.length_append, List.length_cons, List.length_nil]; omega, OM, ⟨u + 1, OM, h, ?_, fun x => ?_, (fun hd => by cases hd), fun _ y hy => less_trans hlt (b2 y hy), by simp only [List.length_append, List.length_singleton]; omega, fun z hz => ?_⟩, by dsimp only; omega⟩
     ·rw [keys_app]
      refine ss_snocT g1 fun y hy => ?_
      rw [keys_app] at hy
      rcases List.mem_append.1 hy with hy | hy
      ·rcases (h2 y).1 hy with hy | ⟨hd, _⟩
       ·exact b1 y hy
       ·cases hd
      ·have hy : y = key := List.mem_singleton.1 hy
       rw [hy]; exact hlt
     ·rw [keys_app, keys_app, List.mem_append, List.mem_append, h2, keys_take h, List.mem_append]
      show (_ ∨ x ∈ [key]) ∨ x ∈ [(nth s (u : Int)).Key] ↔ _
      rw [List.mem_singleton, List.mem_singleton]
      constructor
      ·rintro (((hx | ⟨hd, _⟩) | hx) | hx)
       ·exact .inl (.inl hx)
       ·cases hd
       ·exact .inr ⟨rfl, hx⟩
       ·exact .inl (.inr hx)
      ·rintro ((hx | hx) | ⟨_, hx⟩)
       ·exact .inl (.inl (.inl hx))
       ·exact .inr hx
       ·exact .inl (.inr hx)
     ·rcases List.mem_append.1 hz with hz | hz
      ·rcases List.mem_append.1 hz with hz | hz
       ·exact h6 z hz
       ·exact .inr (List.mem_singleton.1 hz)
      ·rw [List.mem_singleton.1 hz]; exact .inl hin
 ·rw [if_neg (by simpa using h)]
  have : u = s.length := by omega
  subst this
  rw [List.take_length] at h2 h3
  cases done with
  | true =>
   rw [if_neg RD]
   exact hq xs h1 (fun x => by rw [h2]; simp) h5 h6
  | false =>
   rw [if_pos RD]
   obtain ⟨c1, c2⟩ := h3 rfl
   refine ⟨by simp only [List.length_cons, List.length_nil]; omega, hq _ ?_ (fun x => ?_) (by rw [c2]; simp) fun z hz => ?_⟩
   ·rw [keys_app]
    refine ss_snocT h1 fun y hy => ?_
    rcases (h2 y).1 hy with hy | ⟨hd, _⟩
    ·exact c1 y hy
    ·cases hd
   ·rw [keys_app, List.mem_append, h2]
    show _ ∨ x ∈ [key] ↔ _
    rw [List.mem_singleton]; simp
   ·rcases List.mem_append.1 hz with hz | hz
    ·exact h6 z hz
    ·exact .inr (List.mem_singleton.1 hz)
theorem keys_drawn {s : List Tag} {k v : Str} (hk : k ∈ keyL) (hv : v ∈ valL) (h : ∀ x ∈ s, DT x) {r : List Tag} (hr : ∀ z ∈ r, z ∈ s ∨ z = ⟨k, v⟩) : ∀ x ∈ r, DT x := fun x hx => by
 rcases hr x hx with g | rfl
 ·exact h x g
 ·exact ⟨hk, hv⟩
theorem F57.law (b : List UInt8) (p : Int) (id : Str) (Q : Feat → Int → Prop) (hb : b.length ≤ 2000) (hp : 0 ≤ p) (hp1 : p ≤ 10000000) (hq : ∀ s t p', shapeOk s = true → SS (keysT t) → t.length ≤ 3 → (∀ x ∈ t, DT x) → (∀ q ∈ s.Pts, NX q) → p ≤ p' → p' ≤ p + 60 → Q ⟨id, s, t⟩ p') : F57.E b p id Q := by
 unfold F57.E
 refine F50.law _ _ _ hb hp OM fun s p1 hs hx p0 p2 => F23.law _ _ _ _ hb OM OM fun k hk0 hk1 => ?_
 refine ⟨fun i t z => 0 ≤ i ∧ i ≤ 3 ∧ SS (keysT t) ∧ (t.length : Int) + i ≤ 3 ∧ (∀ x ∈ t, DT x) ∧ p ≤ z ∧ z ≤ p + 41 + 2 * (3 - i), fun i _ _ => i.toNat, ⟨OM, OM, List.Pairwise.nil, by simp only [List.length_nil]; omega, by simp, OM, OM⟩, ?_⟩
 rintro i t z ⟨h0, h1, h2, h3, h4, h5, h6⟩
 by_cases hi : i > 0
 case neg => rw [if_neg (by simpa using hi)]; exact hq _ _ _ hs h2 OM h4 hx h5 OM
 rw [if_pos (by simpa using hi)]
 refine F88.law _ _ _ hb OM OM fun key hkey => F89.law _ _ _ hb OM OM fun val hval => F90.law _ _ _ _ OM h2 fun r r1 r2 r3 r4 => ⟨by unfold I64; omega, ⟨OM, OM, r1, OM, keys_drawn hkey hval h4 r4, OM, OM⟩, by dsimp only; omega⟩
theorem feat_drawn {id : Str} {s : Shape} {t : List Tag} (h1 : wordOk id = true) (h2 : shapeOk s = true) (h3 : SS (keysT t)) (h4 : t.length ≤ 3) (h5 : ∀ x ∈ t, DT x) : featOk ⟨id, s, t⟩ = true := feat_of h1 h2 h3 OM fun x hx => (h5 x hx).ok
theorem F94.law (b : List UInt8) (p : Int) (Q : Str → Int → Prop) (hb : b.length ≤ 2000) (hp : 0 ≤ p) (hp1 : p ≤ 1000000000) (hq : ∀ k ∈ idL, Q k (p + 1)) : F94.E b p Q := by
 unfold F94.E
 exact F39.law _ _ _ _ hb hp OM RD hq
def PutS (s : List Feat) (f : Feat) (u : Nat) (xs : List Feat) (done : Bool) : Prop :=
 u ≤ s.length ∧ SS (ids xs) ∧ (∀ x, x ∈ ids xs ↔ x ∈ ids (s.take u) ∨ (done = true ∧ x = f.Id)) ∧ (done = false → (∀ x ∈ ids (s.take u), Op.bytesLess x f.Id = true) ∧ xs = s.take u) ∧
  (done = true → ∀ y ∈ ids (s.drop u), Op.bytesLess f.Id y = true) ∧ xs.length ≤ u + 1 ∧ (∀ z ∈ xs, z ∈ s ∨ z = f)
theorem ss_snoc {l : List Str} {x : Str} (h : SS l) (hx : ∀ y ∈ l, Op.bytesLess y x = true) : SS (l ++ [x]) := by
 unfold SS
 rw [List.pairwise_append]
 exact ⟨h, List.pairwise_singleton _ _, fun a ha b hb => by rw [List.mem_singleton.1 hb]; exact hx a ha⟩
theorem ids_take {s : List Feat} {u : Nat} (hu : u < s.length) : ids (s.take (u + 1)) = ids (s.take u) ++ [(nth s (u : Int)).Id] := by rw [take_nth s hu, ids_app]; rfl
theorem ids_cut (s : List Feat) (u : Nat) : ids s = ids (s.take u) ++ ids (s.drop u) := by rw [← ids_app, List.take_append_drop]
theorem dropNth {s : List Feat} {u : Nat} (hu : u < s.length) : s.drop u = nth s (u : Int) :: s.drop (u + 1) := by rw [nth_nat s hu]; exact List.drop_eq_getElem_cons hu
theorem ss_lt {s : List Feat} (h : SS (ids s)) {u : Nat} (hu : u < s.length) : (∀ x ∈ ids (s.take u), Op.bytesLess x (nth s (u : Int)).Id = true) ∧ ∀ y ∈ ids (s.drop (u + 1)), Op.bytesLess (nth s (u : Int)).Id y = true := by
 have e := ids_cut s u
 rw [dropNth hu] at e
 have e2 : ids (nth s (u : Int) :: s.drop (u + 1)) = (nth s (u : Int)).Id :: ids (s.drop (u + 1)) := rfl
 rw [e2] at e
 rw [e] at h
 obtain ⟨h1, h2, h3⟩ := List.pairwise_append.1 h
 exact ⟨fun x hx => h3 x hx _ List.mem_cons_self, (List.pairwise_cons.1 h2).1⟩
theorem F91.law (s : List Feat) (f : Feat) (Q : List Feat → Prop) (hl : s.length ≤ 1048576) (hs : SS (ids s)) (hq : ∀ r, SS (ids r) → (∀ x, x ∈ ids r ↔ x ∈ ids s ∨ x = f.Id) → r.length ≤ s.length + 1 → (∀ z ∈ r, z ∈ s ∨ z = f) → Q r) : F91.E s f Q := by
 unfold F91.E
 refine ⟨fun xs done i => ∃ u : Nat, i = u ∧ PutS s f u xs done, fun _ _ i => (s.length - i).toNat, ⟨0, rfl, Nat.zero_le _, by simp [ids, SS], by simp [ids], fun _ => ⟨by simp [ids], by simp⟩, (fun h => by cases h), by simp, by simp⟩, ?_⟩
 rintro xs done _ ⟨u, rfl, hu, h1, h2, h3, h4, h5, h6⟩
 by_cases h : u < s.length
 ·rw [if_pos (by simpa using h)]
  obtain ⟨b1, b2⟩ := ss_lt hs h
  have hin : nth s (u : Int) ∈ s := nth_mem s h
  have hdr : ∀ y ∈ ids (s.drop u), y = (nth s (u : Int)).Id ∨ y ∈ ids (s.drop (u + 1)) := fun y hy => by rw [dropNth h] at hy; exact List.mem_cons.1 hy
  have hcur : (nth s (u : Int)).Id ∈ ids (s.drop u) := by rw [dropNth h]; exact List.mem_cons_self
  have hdr' : ∀ y ∈ ids (s.drop (u + 1)), y ∈ ids (s.drop u) := fun y hy => by rw [dropNth h]; exact List.mem_cons_of_mem _ hy
  have stay : ∀ d, d = done → Op.bytesLess (nth s (u : Int)).Id f.Id = true ∨ d = true → xs.length + 1 ≤ u + 1 + 1 → PutS s f (u + 1) (xs ++ [nth s (u : Int)]) d := fun d hd hor hlen => by
   subst hd
   refine ⟨h, ?_, fun x => ?_, fun hdn => ⟨fun x hx => ?_, ?_⟩, fun hdn y hy => h4 hdn y (hdr' y hy), by simp only [List.length_append, List.length_singleton]; omega, fun z hz => ?_⟩
   ·rw [ids_app]
    refine ss_snoc h1 fun y hy => ?_
    rcases (h2 y).1 hy with hy | ⟨hd, rfl⟩
    ·exact b1 y hy
    ·exact h4 hd _ hcur
   ·rw [ids_app, List.mem_append, h2, ids_take h, List.mem_append]
    constructor
    ·rintro ((hx | hx) | hx)
     ·exact .inl (.inl hx)
     ·exact .inr hx
     ·exact .inl (.inr hx)
    ·rintro ((hx | hx) | hx)
     ·exact .inl (.inl hx)
     ·exact .inr hx
     ·exact .inl (.inr hx)
   ·rw [ids_take h] at hx
    rcases List.mem_append.1 hx with hx | hx
    ·exact (h3 hdn).1 x hx
    ·rw [List.mem_singleton.1 hx]
     rcases hor with hor | hor
     ·exact hor
     ·rw [hdn] at hor; cases hor
   ·rw [(h3 hdn).2, ← take_nth s h]
   ·rcases List.mem_append.1 hz with hz | hz
    ·exact h6 z hz
    ·rw [List.mem_singleton.1 hz]; exact .inl hin
  cases done with
  | true =>
   rw [if_neg RD]
   have hlt := h4 rfl _ hcur
   have hne : (nth s (u : Int)).Id ≠ f.Id := fun e => by rw [e, less_irr] at hlt; cases hlt
   refine ⟨OM, ?_⟩
   rw [if_pos (by rw [bne_iff_ne]; exact hne)]
   exact ⟨OM, by simp only [List.length_cons, List.length_nil]; omega, OM, ⟨u + 1, OM, stay true rfl (.inr rfl) OM⟩, by dsimp only; omega⟩
  | false =>
   rw [if_pos RD]
   obtain ⟨c1, c2⟩ := h3 rfl
   have hxl : xs.length = u := by rw [c2, List.length_take]; omega
   refine ⟨OM, ?_⟩
   cases k : Op.bytesLess (nth s (u : Int)).Id f.Id with
   | true =>
    rw [if_neg RD]
    have hne : (nth s (u : Int)).Id ≠ f.Id := fun e => by rw [e, less_irr] at k; cases k
    refine ⟨OM, ?_⟩
    rw [if_pos (by rw [bne_iff_ne]; exact hne)]
    exact ⟨OM, by simp only [List.length_cons, List.length_nil]; omega, OM, ⟨u + 1, OM, stay false rfl (.inl k) OM⟩, by dsimp only; omega⟩
   | false =>
    rw [if_pos RD]
    have g1 : SS (ids (xs ++ [f])) := by
     rw [ids_app]
     refine ss_snoc h1 fun y hy => ?_
     rcases (h2 y).1 hy with hy | ⟨hd, _⟩
     ·exact c1 y hy
     ·cases hd
    refine ⟨by simp only [List.length_cons, List.length_nil]; omega, OM, ?_⟩
    by_cases hne : (nth s (u : Int)).Id = f.Id
    ·rw [if_neg (by rw [hne]; simp)]
     refine ⟨OM, ⟨u + 1, OM, h, g1, fun x => ?_, (fun hd => by cases hd), fun _ y hy => by rw [← hne]; exact b2 y hy, by simp only [List.length_append, List.length_singleton]; omega, fun z hz => ?_⟩, by dsimp only; omega⟩
     ·rw [ids_app, List.mem_append, h2, ids_take h, List.mem_append, hne]
      show _ ∨ x ∈ [f.Id] ↔ _
      rw [List.mem_singleton]
      constructor
      ·rintro ((hx | ⟨hd, _⟩) | hx)
       ·exact .inl (.inl hx)
       ·cases hd
       ·exact .inr ⟨rfl, hx⟩
      ·rintro ((hx | hx) | ⟨_, hx⟩)
       ·exact .inl (.inl hx)
       ·exact .inr hx
       ·exact .inr hx
     ·rcases List.mem_append.1 hz with hz | hz
      ·exact h6 z hz
      ·exact .inr (List.mem_singleton.1 hz)
    ·rw [if_pos (by rw [bne_iff_ne]; exact hne)]
     have hlt : Op.bytesLess f.Id (nth s (u : Int)).Id = true := by
      rcases less_or k with g | g
      ·exact g
      ·exact absurd g.symm hne
     refine ⟨OM, by simp only [List.length_append, List.length_cons, List.length_nil]; omega, OM, ⟨u + 1, OM, h, ?_, fun x => ?_, (fun hd => by cases hd), fun _ y hy => less_trans hlt (b2 y hy), by simp only [List.length_append, List.length_singleton]; omega, fun z hz => ?_⟩, by dsimp only; omega⟩
     ·rw [ids_app]
      refine ss_snoc g1 fun y hy => ?_
      rw [ids_app] at hy
      rcases List.mem_append.1 hy with hy | hy
      ·rcases (h2 y).1 hy with hy | ⟨hd, _⟩
       ·exact b1 y hy
       ·cases hd
      ·have hy : y = f.Id := List.mem_singleton.1 hy
       rw [hy]; exact hlt
     ·rw [ids_app, ids_app, List.mem_append, List.mem_append, h2, ids_take h, List.mem_append]
      show (_ ∨ x ∈ [f.Id]) ∨ x ∈ [(nth s (u : Int)).Id] ↔ _
      rw [List.mem_singleton, List.mem_singleton]
      constructor
      ·rintro (((hx | ⟨hd, _⟩) | hx) | hx)
       ·exact .inl (.inl hx)
       ·cases hd
       ·exact .inr ⟨rfl, hx⟩
       ·exact .inl (.inr hx)
      ·rintro ((hx | hx) | ⟨_, hx⟩)
       ·exact .inl (.inl (.inl hx))
       ·exact .inr hx
       ·exact .inl (.inr hx)
     ·rcases List.mem_append.1 hz with hz | hz
      ·rcases List.mem_append.1 hz with hz | hz
       ·exact h6 z hz
       ·exact .inr (List.mem_singleton.1 hz)
      ·rw [List.mem_singleton.1 hz]; exact .inl hin
 ·rw [if_neg (by simpa using h)]
  have : u = s.length := by omega
  subst this
  rw [List.take_length] at h2 h3
  cases done with
  | true =>
   rw [if_neg RD]
   exact hq xs h1 (fun x => by rw [h2]; simp) h5 h6
  | false =>
   rw [if_pos RD]
   obtain ⟨c1, c2⟩ := h3 rfl
   refine ⟨by simp only [List.length_cons, List.length_nil]; omega, hq _ ?_ (fun x => ?_) (by rw [c2]; simp) fun z hz => ?_⟩
   ·rw [ids_app]
    refine ss_snoc h1 fun y hy => ?_
    rcases (h2 y).1 hy with hy | ⟨hd, _⟩
    ·exact c1 y hy
    ·cases hd
   ·rw [ids_app, List.mem_append, h2]
    show _ ∨ x ∈ [f.Id] ↔ _
    rw [List.mem_singleton]; simp
   ·rcases List.mem_append.1 hz with hz | hz
    ·exact h6 z hz
    ·exact .inr (List.mem_singleton.1 hz)
theorem F51.gen (P : Str → Prop) (hP : ∀ k ∈ idL, P k) (b : List UInt8) (p : Int) (Q : List Feat → Int → Prop) (hb : b.length ≤ 2000) (hp : 0 ≤ p) (hp1 : p ≤ 1000000) (hq : ∀ s p', sheetOk s = true → s.length ≤ 4 → (∀ f ∈ s, P f.Id) → (∀ f ∈ s, ∀ q ∈ f.Shape.Pts, NX q) → p ≤ p' → p' ≤ p + 300 → Q s p') : F51.E b p Q := by
 unfold F51.E
 refine F23.law _ _ _ _ hb hp OM fun k hk0 hk1 => ?_
 refine ⟨fun s i z => 0 ≤ i ∧ i ≤ 4 ∧ SS (ids s) ∧ (s.length : Int) + i ≤ 4 ∧ (∀ f ∈ s, featOk f = true ∧ P f.Id ∧ ∀ q ∈ f.Shape.Pts, NX q) ∧ p ≤ z ∧ z ≤ p + 1 + 61 * (4 - i), fun _ i _ => i.toNat, ⟨OM, OM, List.Pairwise.nil, by simp only [List.length_nil]; omega, by simp, OM, OM⟩, ?_⟩
 rintro s i z ⟨h0, h1, h2, h3, h4, h5, h6⟩
 by_cases hi : i > 0
 case neg => rw [if_neg (by simpa using hi)]; exact hq _ _ (sheet_of h2 OM fun f hf => (h4 f hf).1) OM (fun f hf => (h4 f hf).2.1) (fun f hf => (h4 f hf).2.2) h5 OM
 rw [if_pos (by simpa using hi)]
 refine F94.law _ _ _ hb OM OM fun id hid => F57.law _ _ _ _ hb OM OM fun sh t p1 hs ht tl td hx p2 p3 => F91.law _ _ _ OM h2 fun r r1 r2 r3 r4 => ⟨by unfold I64; omega, ⟨OM, OM, r1, OM, fun f hf => ?_, OM, OM⟩, by dsimp only; omega⟩
 rcases r4 f hf with g | rfl
 ·exact h4 f g
 ·exact ⟨feat_drawn (idL_ok _ hid) hs ht tl td, hP _ hid, hx⟩
theorem F51.law (b : List UInt8) (p : Int) (Q : List Feat → Int → Prop) (hb : b.length ≤ 2000) (hp : 0 ≤ p) (hp1 : p ≤ 1000000) (hq : ∀ s p', sheetOk s = true → s.length ≤ 4 → (∀ f ∈ s, f.Id ≠ zzI) → (∀ f ∈ s, ∀ q ∈ f.Shape.Pts, NX q) → p ≤ p' → p' ≤ p + 300 → Q s p') : F51.E b p Q :=
 F51.gen (fun i => i ≠ zzI) idL_nz b p Q hb hp hp1 hq
theorem F58.law (b : List UInt8) (p : Int) (Q : Str → Int → Prop) (hb : b.length ≤ 2000) (hp : 0 ≤ p) (hp1 : p ≤ 1000000) (hq : ∀ n : Str, n.length ≤ 6 → Q n (p + 1)) : F58.E b p Q := by
 unfold F58.E
 exact F39.law _ _ _ _ hb hp OM RD fun n hn => hq n (name_len hn)
theorem F59.law (r : Repo) (name : Str) (Q : Int → Prop) (hq : Q (findHead r name)) : F59.E r name Q := by
 unfold F59.E
 refine loop_find r.Heads.length (fun j => decide ((nth r.Heads (j : Int)).Name = name)) hq (fun I mu k hk h1 h2 => ⟨OM, ?_⟩)
 have e : ((nth r.Heads (k : Int)).Name == name) = decide ((nth r.Heads (k : Int)).Name = name) := by rw [Bool.eq_iff_iff, beq_iff_eq, decide_eq_true_eq]
 rw [e]
 cases h : decide ((nth r.Heads (k : Int)).Name = name) with
 | true => rw [if_pos rfl]; exact h1 h
 | false => rw [if_neg RD]; obtain ⟨i1, i2⟩ := h2 h; exact ⟨OM, i1, i2⟩
theorem F96.law (up : List Int) (k : Nat) (Q : Bool → Prop) (hq : Q (upOk up k)) : F96.E up (k : Int) Q := by
 unfold F96.E
 rw [← upOk_eq] at hq
 refine loop_all up.length (inUp up k) (fun I mu j hj hp hn => ?_) (fun ha => ?_)
 ·have bad : inUp up k j = false → Q false := fun h => by rw [allN_false hj h, Bool.false_and] at hq; exact hq
  refine ⟨OM, ?_⟩
  by_cases h1 : 0 ≤ nth up (j : Int)
  ·rw [if_neg (by rw [decide_eq_true_eq]; omega)]
   refine ⟨OM, ?_⟩
   by_cases h2 : nth up (j : Int) < (k : Int)
   ·rw [if_neg (by rw [decide_eq_true_eq]; omega)]
    obtain ⟨i1, i2⟩ := hn (by unfold inUp; rw [decide_eq_true h1, decide_eq_true h2]; rfl)
    exact ⟨OM, i1, i2⟩
   ·rw [if_pos (by rw [decide_eq_true_eq]; omega)]
    exact bad (by unfold inUp; rw [decide_eq_false h2, Bool.and_false])
  ·rw [if_pos (by rw [decide_eq_true_eq]; omega)]
   exact bad (by unfold inUp; rw [decide_eq_false h1]; rfl)
 ·rw [allN_true ha, Bool.true_and] at hq
  by_cases h1 : up.length ≤ 2
  ·rw [decide_eq_true h1, Bool.true_and] at hq
   rw [if_pos (by rw [decide_eq_true_eq]; omega)]
   have e1 : decide ((up.length : Int) > 0) = decide (0 < up.length) := decide_eq_decide.2 OM
   have e2 : decide ((k : Int) > 0) = decide (0 < k) := decide_eq_decide.2 OM
   rw [e1, e2]
   cases h2 : (decide (0 < up.length) == decide (0 < k)) with
   | false => rw [h2] at hq; rw [if_neg RD]; exact hq
   | true =>
    rw [h2, Bool.true_and] at hq
    rw [if_pos rfl]
    by_cases h3 : up.length < 2
    ·rw [decide_eq_true h3, Bool.true_or] at hq
     rw [if_pos (by rw [decide_eq_true_eq]; omega)]; exact hq
    ·rw [decide_eq_false h3, Bool.false_or] at hq
     rw [if_neg (by rw [decide_eq_true_eq]; omega)]
     refine ⟨OM, OM, ?_⟩
     have : (nth up 0 != nth up 1) = !(decide (nth up 0 = nth up 1)) := by
      by_cases h : nth up 0 = nth up 1
      ·rw [decide_eq_true h, h]; simp
      ·rw [decide_eq_false h]; simpa using h
     rw [this]; exact hq
  ·rw [decide_eq_false h1] at hq
   rw [if_neg (by rw [decide_eq_true_eq]; omega)]; exact hq
theorem F60.law (t : List Tag) (Q : Bool → Prop) (hq : Q (tagsOk t && decide (t.length ≤ 4))) : F60.E t Q := by
 unfold F60.E
 unfold tagsOk at hq
 refine loop_all t.length (fun k => wordOk (nth t (k : Int)).Key && wordOk (nth t (k : Int)).Val && (decide (k = 0) || Op.bytesLess (nth t ((k : Int) - 1)).Key (nth t (k : Int)).Key)) (fun I mu k hk hp hn => ?_) (fun ha => ?_)
 ·have bad : (wordOk (nth t (k : Int)).Key && wordOk (nth t (k : Int)).Val && (decide (k = 0) || Op.bytesLess (nth t ((k : Int) - 1)).Key (nth t (k : Int)).Key)) = false → Q false := fun h => by
   rw [allN_false hk h, Bool.false_and] at hq; exact hq
  refine ⟨OM, _, F56.law _ _ rfl, ?_⟩
  cases h1 : wordOk (nth t (k : Int)).Key with
  | false => rw [if_pos RD]; exact bad (by rw [h1]; rfl)
  | true =>
   rw [if_neg RD]
   refine ⟨OM, _, F56.law _ _ rfl, ?_⟩
   cases h2 : wordOk (nth t (k : Int)).Val with
   | false => rw [if_pos RD]; exact bad (by rw [h2, Bool.and_false]; rfl)
   | true =>
    rw [if_neg RD]
    by_cases hk0 : k = 0
    ·rw [if_neg (by rw [decide_eq_true_eq]; omega)]
     obtain ⟨i1, i2⟩ := hn (by rw [h1, h2, decide_eq_true hk0]; rfl)
     exact ⟨OM, i1, i2⟩
    ·rw [if_pos (by rw [decide_eq_true_eq]; omega)]
     refine ⟨OM, fun _ => by unfold I64; omega, OM, ?_⟩
     rw [← less_tri]
     cases h3 : Op.bytesLess (nth t ((k : Int) - 1)).Key (nth t (k : Int)).Key with
     | false => rw [if_pos RD]; exact bad (by rw [h3, h1, h2, decide_eq_false hk0]; rfl)
     | true =>
      rw [if_neg RD]
      obtain ⟨i1, i2⟩ := hn (by rw [h3, h1, h2, decide_eq_false hk0]; rfl)
      exact ⟨OM, i1, i2⟩
 ·rw [allN_true ha, Bool.true_and] at hq
  have e2 : decide ((t.length : Int) ≤ 4) = decide (t.length ≤ 4) := decide_eq_decide.2 OM
  rw [e2]; exact hq
theorem F61.law (f : Feat) (Q : Bool → Prop) (hq : Q (featOk f)) : F61.E f Q := by
 unfold F61.E
 unfold featOk at hq
 refine F56.law _ _ ?_
 cases h1 : wordOk f.Id with
 | false => rw [h1, Bool.and_false, Bool.false_and] at hq; rw [if_neg RD]; exact hq
 | true =>
  rw [h1, Bool.and_true] at hq
  rw [if_pos rfl]
  refine F49.law _ _ ?_
  cases h2 : shapeOk f.Shape with
  | false => rw [h2, Bool.and_false] at hq; rw [if_neg RD]; exact hq
  | true => rw [h2, Bool.and_true] at hq; rw [if_pos rfl]; exact F60.law _ _ hq
theorem F52.law (d : List Feat) (Q : Bool → Prop) (hq : Q (sheetOk d)) : F52.E d Q := by
 unfold F52.E
 unfold sheetOk at hq
 refine loop_all d.length (fun k => featOk (nth d (k : Int)) && (decide (k = 0) || Op.bytesLess (nth d ((k : Int) - 1)).Id (nth d (k : Int)).Id)) (fun I mu k hk hp hn => ?_) (fun ha => ?_)
 ·have bad : (featOk (nth d (k : Int)) && (decide (k = 0) || Op.bytesLess (nth d ((k : Int) - 1)).Id (nth d (k : Int)).Id)) = false → Q false := fun h => by
   rw [allN_false hk h, Bool.false_and] at hq; exact hq
  refine ⟨OM, _, F61.law _ _ rfl, ?_⟩
  cases h1 : featOk (nth d (k : Int)) with
  | false => rw [if_pos RD]; exact bad (by rw [h1]; rfl)
  | true =>
   rw [if_neg RD]
   by_cases hk0 : k = 0
   ·rw [if_neg (by rw [decide_eq_true_eq]; omega)]
    obtain ⟨i1, i2⟩ := hn (by rw [h1, decide_eq_true hk0]; rfl)
    exact ⟨OM, i1, i2⟩
   ·rw [if_pos (by rw [decide_eq_true_eq]; omega)]
    refine ⟨OM, fun _ => by unfold I64; omega, OM, ?_⟩
    rw [← less_tri]
    cases h3 : Op.bytesLess (nth d ((k : Int) - 1)).Id (nth d (k : Int)).Id with
    | false => rw [if_pos RD]; exact bad (by rw [h3, h1, decide_eq_false hk0]; rfl)
    | true =>
     rw [if_neg RD]
     obtain ⟨i1, i2⟩ := hn (by rw [h3, h1, decide_eq_false hk0]; rfl)
     exact ⟨OM, i1, i2⟩
 ·rw [allN_true ha, Bool.true_and] at hq
  have e2 : decide ((d.length : Int) ≤ 8) = decide (d.length ≤ 8) := decide_eq_decide.2 OM
  rw [e2]; exact hq
theorem F66.law (r : Repo) (c : Commit) (Q : Int → Prop) (hq : Q (findCommit r c)) : F66.E r c Q := by
 unfold F66.E
 refine loop_find r.Commits.length (fun j => decide (nth r.Commits (j : Int) = c)) hq (fun I mu k hk h1 h2 => ⟨OM, _, F65.law _ _ _ rfl, ?_⟩)
 cases h : decide (nth r.Commits (k : Int) = c) with
 | true => rw [if_pos rfl]; exact h1 h
 | false => rw [if_neg RD]; obtain ⟨i1, i2⟩ := h2 h; exact ⟨OM, i1, i2⟩
theorem F67.law (r : Repo) (Q : Bool → Prop) (hq : Q (repoOk r)) : F67.E r Q := by
 unfold F67.E
 unfold repoOk at hq
 by_cases h1 : 1 ≤ r.Commits.length
 case neg => rw [if_pos (by rw [decide_eq_true_eq]; omega)]; rw [decide_eq_false h1] at hq; exact hq
 rw [if_neg (by rw [decide_eq_true_eq]; omega)]
 by_cases h2 : r.Commits.length ≤ 14
 case neg => rw [if_pos (by rw [decide_eq_true_eq]; omega)]; rw [decide_eq_false h2, Bool.and_false] at hq; exact hq
 rw [if_neg (by rw [decide_eq_true_eq]; omega)]
 by_cases h3 : 1 ≤ r.Heads.length
 case neg => rw [if_pos (by rw [decide_eq_true_eq]; omega)]; rw [decide_eq_false h3, Bool.false_and, Bool.and_false] at hq; exact hq
 rw [if_neg (by rw [decide_eq_true_eq]; omega)]
 by_cases h4 : r.Heads.length ≤ 4
 case neg => rw [if_pos (by rw [decide_eq_true_eq]; omega)]; rw [decide_eq_false h4, Bool.and_false, Bool.and_false] at hq; exact hq
 rw [if_neg (by rw [decide_eq_true_eq]; omega)]
 rw [decide_eq_true h1, decide_eq_true h2, decide_eq_true h3, decide_eq_true h4, Bool.and_self, Bool.and_self, Bool.true_and] at hq
 refine loop_all r.Commits.length (fun k => sheetOk (nth r.Commits (k : Int)).Sheet && wordOk (nth r.Commits (k : Int)).Note && decide (findCommit r (nth r.Commits (k : Int)) = (k : Int)) && upOk (nth r.Commits (k : Int)).Up k) (fun I mu k hk hp hn => ?_) (fun ha => ?_)
 ·have bad : (sheetOk (nth r.Commits (k : Int)).Sheet && wordOk (nth r.Commits (k : Int)).Note && decide (findCommit r (nth r.Commits (k : Int)) = (k : Int)) && upOk (nth r.Commits (k : Int)).Up k) = false → Q false := fun h => by
   rw [allN_false hk h, Bool.false_and] at hq; exact hq
  refine ⟨OM, F96.law _ _ _ ?_⟩
  cases a1 : upOk (nth r.Commits (k : Int)).Up k with
  | false => rw [if_pos RD]; exact bad (by rw [a1, Bool.and_false])
  | true =>
   rw [if_neg RD]
   refine F52.law _ _ ?_
   cases a2 : sheetOk (nth r.Commits (k : Int)).Sheet with
   | false => rw [if_pos RD]; exact bad (by rw [a2]; rfl)
   | true =>
    rw [if_neg RD]
    refine F56.law _ _ ?_
    cases a3 : wordOk (nth r.Commits (k : Int)).Note with
    | false => rw [if_pos RD]; exact bad (by rw [a3, Bool.and_false]; rfl)
    | true =>
     rw [if_neg RD]
     refine F66.law _ _ _ ?_
     by_cases a4 : findCommit r (nth r.Commits (k : Int)) = (k : Int)
     ·rw [if_neg (by rw [bne_iff_ne]; exact fun h => h a4)]
      obtain ⟨i1, i2⟩ := hn (by rw [a1, a2, a3, decide_eq_true a4]; rfl)
      exact ⟨OM, i1, i2⟩
     ·rw [if_pos (by rw [bne_iff_ne]; exact a4)]
      exact bad (by rw [decide_eq_false a4, Bool.and_false]; rfl)
 ·rw [allN_true ha, Bool.true_and] at hq
  refine loop_all r.Heads.length (fun k => wordOk (nth r.Heads (k : Int)).Name && decide (findHead r (nth r.Heads (k : Int)).Name = (k : Int)) && (decide (0 ≤ (nth r.Heads (k : Int)).At) && decide ((nth r.Heads (k : Int)).At < (r.Commits.length : Int)))) (fun I mu k hk hp hn => ?_) (fun ha => ?_)
  ·have bad : (wordOk (nth r.Heads (k : Int)).Name && decide (findHead r (nth r.Heads (k : Int)).Name = (k : Int)) && (decide (0 ≤ (nth r.Heads (k : Int)).At) && decide ((nth r.Heads (k : Int)).At < (r.Commits.length : Int)))) = false → Q false := fun h => by
    rw [allN_false hk h] at hq; exact hq
   refine ⟨OM, F56.law _ _ ?_⟩
   cases a1 : wordOk (nth r.Heads (k : Int)).Name with
   | false => rw [if_pos RD]; exact bad (by rw [a1]; rfl)
   | true =>
    rw [if_neg RD]
    refine F59.law _ _ _ ?_
    by_cases a2 : findHead r (nth r.Heads (k : Int)).Name = (k : Int)
    ·rw [if_neg (by rw [bne_iff_ne]; exact fun h => h a2)]
     by_cases a3 : 0 ≤ (nth r.Heads (k : Int)).At
     ·rw [if_neg (by rw [decide_eq_true_eq]; omega)]
      by_cases a4 : (nth r.Heads (k : Int)).At < (r.Commits.length : Int)
      ·rw [if_neg (by rw [decide_eq_true_eq]; omega)]
       obtain ⟨i1, i2⟩ := hn (by rw [a1, decide_eq_true a2, decide_eq_true a3, decide_eq_true a4]; rfl)
       exact ⟨OM, i1, i2⟩
      ·rw [if_pos (by rw [decide_eq_true_eq]; omega)]
       exact bad (by rw [decide_eq_false a4, Bool.and_false, Bool.and_false])
     ·rw [if_pos (by rw [decide_eq_true_eq]; omega)]
      exact bad (by rw [decide_eq_false a3, Bool.false_and, Bool.and_false])
    ·rw [if_pos (by rw [bne_iff_ne]; exact a2)]
     exact bad (by rw [decide_eq_false a2, Bool.and_false]; rfl)
  ·rw [allN_true ha] at hq; exact hq
theorem F69.law (f : Feat) (Q : Feat → Prop) (hb : bulk f ≤ 1048576) (hq : Q f) : F69.E f Q := by
 unfold F69.E F68.E
 have h := bulk_feat f
 have h1 := bulk_len f.Tags
 have h2 := bulk_len f.Shape.Pts
 exact ⟨by simp only [List.length_nil]; omega, by simp only [List.length_nil]; omega, hq⟩
theorem F70.law (s : List Feat) (Q : List Feat → Prop) (hb : bulk s ≤ 1048576) (hq : Q s) : F70.E s Q := by
 unfold F70.E
 have hl := bulk_len s
 refine ⟨fun xs i => ∃ u : Nat, i = u ∧ u ≤ s.length ∧ xs = s.take u, fun _ i => (s.length - i).toNat, ⟨0, rfl, Nat.zero_le _, rfl⟩, ?_⟩
 rintro _ _ ⟨u, rfl, hu, rfl⟩
 by_cases h : u < s.length
 ·rw [if_pos (by simpa using h)]
  have hm := bulk_mem (nth_mem s h)
  refine ⟨OM, F69.law _ _ OM ⟨by simp only [List.length_take, List.length_cons, List.length_nil]; omega, OM, ⟨u + 1, OM, OM, ?_⟩, by dsimp only; omega⟩⟩
  rw [take_nth s h]
 ·rw [if_neg (by simpa using h)]
  have : u = s.length := by omega
  subst this
  rw [List.take_length]; exact hq
theorem F92.law (c : Commit) (Q : Commit → Prop) (h1 : c.Up.length ≤ 1000) (h2 : bulk c.Sheet ≤ 1048576) (hq : Q c) : F92.E c Q := by
 unfold F92.E
 exact ⟨by simp only [List.length_nil]; omega, F70.law _ _ h2 (by simpa using hq)⟩
theorem F71.law (r : Repo) (Q : Repo → Prop) (h0 : r.Commits.length ≤ 1000) (h1 : r.Heads.length ≤ 1000) (h2 : ∀ c ∈ r.Commits, c.Up.length ≤ 1000 ∧ bulk c.Sheet ≤ 1048576) (hq : Q r) : F71.E r Q := by
 unfold F71.E
 refine ⟨by simp only [List.length_nil]; omega, fun i xs => ∃ u : Nat, i = u ∧ u ≤ r.Commits.length ∧ xs = r.Commits.take u, fun i _ => (r.Commits.length - i).toNat, ⟨0, rfl, Nat.zero_le _, rfl⟩, ?_⟩
 rintro _ _ ⟨u, rfl, hu, rfl⟩
 by_cases h : u < r.Commits.length
 ·rw [if_pos (by simpa using h)]
  have hm := h2 _ (nth_mem r.Commits h)
  refine ⟨OM, F92.law _ _ hm.1 hm.2 ⟨by simp only [List.length_take, List.length_cons, List.length_nil]; omega, OM, ⟨u + 1, OM, OM, ?_⟩, by dsimp only; omega⟩⟩
  rw [take_nth r.Commits h]
 ·rw [if_neg (by simpa using h)]
  have : u = r.Commits.length := by omega
  subst this
  rw [List.take_length]; exact hq
theorem RW.branch {r : Repo} (h : RW r) {name : Str} (hn : name.length ≤ 6) {a : Int} (h4 : ¬ 4 ≤ r.Heads.length) (ha : 0 ≤ a ∧ a < (r.Commits.length : Int)) : RW ⟨r.Commits, r.Heads ++ [⟨name, a⟩]⟩ :=
 ⟨h.c0, h.c1, by have := h.h0; dsimp only; rw [List.length_append]; omega, by dsimp only; rw [List.length_append, List.length_singleton]; omega, h.cs, fun x hx => by
  rcases List.mem_append.1 hx with hx | hx
  ·exact h.hs x hx
  ·rw [List.mem_singleton.1 hx]; exact ⟨hn, ha⟩⟩
theorem F24.law (r : Repo) (name src : Str) (Q : Repo → Int → Prop) (h : RW r) (hn : name.length ≤ 6) (h0 : ∀ k, Q ⟨[], []⟩ k) (hq : ∀ x k, RW x → Q x k) : F24.E r name src Q := by
 unfold F24.E
 refine F67.law _ _ ?_
 split
 ·exact h0 _
 refine F56.law _ _ ?_
 split
 ·exact h0 _
 refine F71.law _ _ (Nat.le_trans h.c1 RD) (Nat.le_trans h.h1 RD) (fun c hc => ?_) (F59.law _ _ _ ?_)
 ·obtain ⟨h1, h2, h3⟩ := h.cs c hc
  exact ⟨OM, Nat.le_trans (sheet_bulk h2) RD⟩
 split
 ·exact hq _ _ h
 rename_i ha
 refine F59.law _ _ _ ?_
 split
 ·exact hq _ _ h
 split
 ·exact hq _ _ h
 rename_i h4
 have hle := findN_le r.Heads.length fun j => decide ((nth r.Heads (j : Int)).Name = src)
 have e : findHead r src = findN r.Heads.length fun j => decide ((nth r.Heads (j : Int)).Name = src) := rfl
 rw [← e] at hle
 simp only [decide_eq_true_eq] at ha h4
 have hb : 0 ≤ findHead r src ∧ findHead r src < (r.Heads.length : Int) := by omega
 have hm := h.hs _ (nth_memi r.Heads hb.1 hb.2)
 exact ⟨hb, by have := h.h1; simp only [List.length_cons, List.length_nil]; omega, hq _ _ (h.branch hn OM hm.2)⟩
theorem F72.law (s : List Feat) (id : Str) (Q : Int → Prop) (hq : Q (findN s.length fun j => (nth s (j : Int)).Id == id)) : F72.E s id Q := by
 unfold F72.E
 refine loop_find s.length (fun j => (nth s (j : Int)).Id == id) hq (fun I mu k hk h1 h2 => ⟨OM, ?_⟩)
 cases h : (nth s (k : Int)).Id == id with
 | true => rw [if_pos rfl]; exact h1 h
 | false => rw [if_neg RD]; obtain ⟨i1, i2⟩ := h2 h; exact ⟨OM, i1, i2⟩
theorem F93.law (s : List Feat) (id : Str) (Q : List Feat → Prop) (hl : s.length ≤ 1048576) (hq : Q (s.filter fun f => decide (f.Id ≠ id))) : F93.E s id Q := by
 unfold F93.E
 refine ⟨fun xs i => ∃ u : Nat, i = u ∧ u ≤ s.length ∧ xs = (s.take u).filter fun f => decide (f.Id ≠ id), fun _ i => (s.length - i).toNat, ⟨0, rfl, Nat.zero_le _, rfl⟩, ?_⟩
 rintro _ _ ⟨u, rfl, hu, rfl⟩
 have hfl := List.length_filter_le (fun f : Feat => decide (f.Id ≠ id)) (s.take u)
 rw [List.length_take] at hfl
 by_cases h : u < s.length
 ·rw [if_pos (by simpa using h)]
  refine ⟨OM, ?_⟩
  by_cases e : (nth s (u : Int)).Id = id
  ·rw [if_neg (by rw [e]; simp)]
   refine ⟨OM, ⟨u + 1, OM, OM, ?_⟩, by dsimp only; omega⟩
   rw [take_nth s h, List.filter_append, List.filter_cons_of_neg (by rw [decide_eq_true_eq]; exact fun g => g e), List.filter_nil, List.append_nil]
  ·rw [if_pos (by rw [bne_iff_ne]; exact e)]
   refine ⟨OM, by simp only [List.length_cons, List.length_nil]; omega, OM, ⟨u + 1, OM, OM, ?_⟩, by dsimp only; omega⟩
   rw [take_nth s h, List.filter_append, List.filter_cons_of_pos (by rw [decide_eq_true_eq]; exact e), List.filter_nil]
 ·rw [if_neg (by simpa using h)]
  have : u = s.length := by omega
  subst this
  rw [List.take_length]; exact hq
theorem F73.law (b : List UInt8) (p : Int) (s : Shape) (Q : Shape → Int → Prop) (hb : b.length ≤ 2000) (hp : 0 ≤ p) (hp1 : p ≤ 10000000) (hs : s.Pts.length ≤ 1000) (hq : ∀ r p', (r = s ∨ shapeOk r = true) → p ≤ p' → p' ≤ p + 4 → Q r p') : F73.E b p s Q := by
 unfold F73.E
 by_cases h0 : (s.Pts.length : Int) = 0
 ·rw [if_pos (by simpa using h0)]; exact hq _ _ (.inl rfl) OM OM
 rw [if_neg (by simpa using h0)]
 refine F23.law _ _ _ _ hb hp OM fun k hk0 hk1 => ⟨OM, by simp only [List.length_take, List.length_drop, List.length_nil]; omega, F23.law _ _ _ _ hb OM OM fun v hv0 hv1 => ?_⟩
 have fin : ∀ (r : Shape) (z : Int), p ≤ z → z ≤ p + 4 → F49.E r (fun r5 => (if !r5 then Q s z else Q r z)) := fun r z h1 h2 => by
  refine F49.law _ _ ?_
  cases h : shapeOk r with
  | true => rw [if_neg RD]; exact hq _ _ (.inr h) h1 h2
  | false => rw [if_pos RD]; exact hq _ _ (.inl rfl) h1 h2
 refine ⟨fun _ z => p ≤ z ∧ z ≤ p + 4, ?_, fun xs z hz => fin _ _ hz.1 hz.2⟩
 split
 ·exact ⟨OM, F95.law _ _ _ hb OM OM fun x y _ _ _ _ => ⟨by simp only [List.length_append, List.length_take, List.length_drop, List.length_nil, List.length_cons]; omega, by simp only [List.length_append, List.length_take, List.length_drop, List.length_nil, List.length_cons]; omega, OM, OM⟩⟩
 split
 ·exact ⟨fun _ => by unfold I64; omega, OM, by simp only [List.length_append, List.length_take, List.length_drop, List.length_nil, List.length_cons]; omega, OM, OM⟩
 exact ⟨fun _ => by unfold I64; omega, OM, F95.law _ _ _ hb OM OM fun x y _ _ _ _ => ⟨by simp only [List.length_append, List.length_take, List.length_drop, List.length_nil, List.length_cons]; omega, by simp only [List.length_append, List.length_take, List.length_drop, List.length_nil, List.length_cons]; omega, OM, OM⟩⟩
theorem FB.put {n : Nat} {f : Feat} (h : FB n f) {k v : Str} (hk : k ∈ keyL) (hv : v ∈ valL) {r : List Tag} (hl : r.length ≤ f.Tags.length + 1) (hr : ∀ z ∈ r, z ∈ f.Tags ∨ z = ⟨k, v⟩) : FB (n + 1) ⟨f.Id, f.Shape, r⟩ := ⟨h.id, h.pts, Nat.le_trans hl (Nat.succ_le_succ h.len), fun x hx => by
 rcases hr x hx with g | rfl
 ·exact h.wd x g
 ·exact DT.len ⟨hk, hv⟩⟩
theorem F74.gen (P : Str → Prop) (hP : ∀ k ∈ idL, P k) (b : List UInt8) (p : Int) (s : List Feat) (Q : List Feat → Int → Prop) (hb : b.length ≤ 2000) (hp : 0 ≤ p) (hp1 : p ≤ 1000000) (hs : sheetOk s = true) (hz : ∀ f ∈ s, P f.Id) (hq : ∀ r p', sheetOk r = true → (∀ f ∈ r, P f.Id) → p ≤ p' → p' ≤ p + 250 → Q r p') : F74.E b p s Q := by
 unfold F74.E
 have mb := MB.of hs
 refine F23.law _ _ _ _ hb hp OM fun k hk0 hk1 => ⟨by unfold I64; omega, ?_⟩
 refine ⟨fun s i z => 0 ≤ i ∧ i ≤ 3 ∧ SS (ids s) ∧ (s.length : Int) + i ≤ 11 ∧ (∀ f ∈ s, SS (keysT f.Tags) ∧ FB (7 - i.toNat) f ∧ P f.Id) ∧ p ≤ z ∧ z ≤ p + 1 + 65 * (3 - i), fun _ i _ => i.toNat, ⟨OM, OM, (sheet_ss hs).1, by have := mb.len; omega, fun f hf => ⟨featOk_tags ((sheet_ss hs).2.2 f hf), (mb.fb f hf).mono OM, hz f hf⟩, OM, OM⟩, ?_⟩
 rintro s2 i z ⟨h0, h1, h2, h3, h4, h5, h6⟩
 by_cases hi : i > 0
 case neg =>
  rw [if_neg (by simpa using hi)]
  refine F52.law _ _ ?_
  cases h : sheetOk s2 with
  | true => rw [if_neg RD]; exact hq _ _ h (fun f hf => (h4 f hf).2.2) h5 OM
  | false => rw [if_pos RD]; exact hq _ _ hs hz h5 OM
 rw [if_pos (by simpa using hi)]
 have em : 7 - (i - 1).toNat = 7 - i.toNat + 1 := by omega
 have step : ∀ (f : Feat), SS (keysT f.Tags) → FB (7 - i.toNat + 1) f → P f.Id → ∀ r : List Feat, (∀ z ∈ r, z ∈ s2 ∨ z = f) → ∀ x ∈ r, SS (keysT x.Tags) ∧ FB (7 - (i - 1).toNat) x ∧ P x.Id := fun f a1 a2 a3 r hr x hx => by
  rw [em]
  rcases hr x hx with g | rfl
  ·have := h4 x g
   exact ⟨this.1, this.2.1.mono OM, this.2.2⟩
  ·exact ⟨a1, a2, a3⟩
 refine F94.law _ _ _ hb OM OM fun id hid => F72.law _ _ _ ?_
 have hle := findN_le s2.length fun j => (nth s2 (j : Int)).Id == id
 generalize findN s2.length (fun j => (nth s2 (j : Int)).Id == id) = at_ at *
 by_cases ha : at_ < 0
 ·rw [if_pos (by simpa using ha)]
  refine F57.law _ _ _ _ hb OM OM fun sh t p1 hsh ht tl td _ p2 p3 => F91.law _ _ _ OM h2 fun r r1 r2 r3 r4 => ⟨by unfold I64; omega, ⟨OM, OM, r1, OM, step _ ht ?_ (hP _ hid) r r4, OM, OM⟩, by dsimp only; omega⟩
  exact ((FB.of (feat_drawn (idL_ok _ hid) hsh ht tl td)).mono OM)
 rw [if_neg (by simpa using ha)]
 have hm : nth s2 at_ ∈ s2 := nth_memi s2 OM hle.2
 obtain ⟨f1, f2, f3⟩ := h4 _ hm
 have fb := f2.small
 refine F23.law _ _ _ _ hb OM OM fun v hv0 hv1 => ?_
 split
 ·refine F93.law _ _ _ OM ⟨by unfold I64; omega, ⟨OM, OM, ?_, ?_, fun x hx => ?_, OM, OM⟩, by dsimp only; omega⟩
  ·unfold SS ids at h2 ⊢
   exact List.Pairwise.sublist (List.filter_sublist.map _) h2
  ·have := List.length_filter_le (fun f : Feat => decide (f.Id ≠ id)) s2; omega
  ·have := h4 x (List.mem_filter.1 hx).1
   exact ⟨this.1, this.2.1.mono OM, this.2.2⟩
 refine F23.law _ _ _ _ hb OM OM fun w hw0 hw1 => ?_
 split
 ·refine ⟨OM, F69.law _ _ OM (F88.law _ _ _ hb OM OM fun key hkey => F89.law _ _ _ hb OM OM fun val hval => F90.law _ _ _ _ (by have := f2.len; omega) f1 fun t t1 t2 t3 t4 => F91.law _ _ _ OM h2 fun r r1 r2 r3 r4 => ⟨by unfold I64; omega, ⟨OM, OM, r1, OM, step _ t1 (f2.put hkey hval t3 t4) f3 r r4, OM, OM⟩, by dsimp only; omega⟩)⟩
 ·refine ⟨OM, F69.law _ _ OM (F73.law _ _ _ _ hb OM OM (by have := f2.pts; omega) fun sh p' hsh p1 p2 => F91.law _ _ _ OM h2 fun r r1 r2 r3 r4 => ⟨by unfold I64; omega, ⟨OM, OM, r1, OM, step ⟨(nth s2 at_).Id, sh, (nth s2 at_).Tags⟩ f1 ⟨f2.id, ?_, Nat.le_trans f2.len OM, f2.wd⟩ f3 r r4, OM, OM⟩, by dsimp only; omega⟩)⟩
  rcases hsh with rfl | hsh
  ·exact f2.pts
  ·exact Nat.le_trans (shape_pts hsh) RD
theorem F74.law (b : List UInt8) (p : Int) (s : List Feat) (Q : List Feat → Int → Prop) (hb : b.length ≤ 2000) (hp : 0 ≤ p) (hp1 : p ≤ 1000000) (hs : sheetOk s = true) (hz : ∀ f ∈ s, f.Id ≠ zzI) (hq : ∀ r p', sheetOk r = true → (∀ f ∈ r, f.Id ≠ zzI) → p ≤ p' → p' ≤ p + 250 → Q r p') : F74.E b p s Q :=
 F74.gen (fun i => i ≠ zzI) idL_nz b p s Q hb hp hp1 hs hz hq
end Go.Proofs.Ytemeihpokbleaaa