/- It is proved here that the law FnSheetSide of the given program holds whatever it is handed: the walks through the code, the plain laws and the row, in this order.
   Conditions: none. -/
import Derived.Below
import Derived.ChangeArms
import Derived.ChangeOld
import Derived.ChangeSlices
import Derived.DataReads
import Derived.Deep.Quiet
import Derived.KernelRfl
import Derived.Laws.Build
import Derived.Laws.IdiomStrings
import Derived.Laws.OwnMore
import Derived.Laws.Slices
import Derived.Laws.Strings2
import Derived.Laws.StructEq
import Derived.OpenShut
import Derived.ProofKit
import Derived.Shelf.SlSortCmp.NoneTotal
import Derived.Shelf.SlSortCmp.WholeK
import Derived.Shelf.Slices.Cells
import Derived.Shelf.Slices.CompactS
import Derived.Shelf.Slices.In.SortNone
import Derived.Shelf.Small.Bits
import Derived.Shelf.Sort.Plain
import Derived.Shelf.Strconv.Itoa0
import Derived.ShutString
import Derived.SizedLaws
import Derived.StillTail
import Derived.Test.YtpdmnmpcjljeaaaGreatProg
import Derived.Test.YtpdmnmpcjljeaaaGreatRows
import Derived.WalkKit
import Derived.Test.YtpdmnmpcjljeaaaGreatCSheetSidea
import Derived.Test.YtpdmnmpcjljeaaaGreatCSheetSideb
import Derived.Test.YtpdmnmpcjljeaaaGreatCSheetSidec
import Derived.Test.YtpdmnmpcjljeaaaGreatCSheetSided
namespace Go.Proofs.YtpdmnmpcjljeaaaGreat
set_option linter.unusedVariables false
set_option linter.unusedSimpArgs false
set_option linter.unusedSectionVars false
set_option maxHeartbeats 8000000
set_option maxRecDepth 100000
open Go.RowKit
variable {O : Ob} {w0 : World}
def laws_FnSheetSide.E (code : List UInt8) (Q : Bool → Prop) : Prop :=
 (if decide ((code.length : Int) > 1048576) then Q true else F11.E code (fun r r2 r3 => F41.E r r2 r3 (fun r4 r5 r6 => F42.E r r2 r3 (fun r7 r8 r9 => (∃ (J84 : Bool → Prop), ((if r6 != r9 then J84 true else F43.E r5 r8 (fun r10 => (if !r10 then J84 true else (if !r6 then J84 true else J84 (decide ((r2.length : Int) ≥ 8))))))) ∧ ∀ (v : Bool), J84 v → (if v then (if r6 == r9 then F43.E r5 r8 (fun r11 => Q r11) else Q false) else F59.E r2 (⟨([122, 122] : Str), (⟨1, ([(⟨1, 1⟩ : Pt)] : List Pt)⟩ : Shape), []⟩ : Feat) (fun r12 r13 => F41.E r r12 r3 (fun r14 r15 r16 => (if !r13 then Q false else (if !r16 then Q (decide ((r4.length : Int) ≥ 8)) else F58.E r14 ([122, 122] : Str) (fun r17 r18 => F60.E r14 ([122, 122] : Str) (fun r19 r20 => (∃ (J316 : Bool → Prop), ((if r18 then F55.E r17 (⟨([122, 122] : Str), (⟨1, ([(⟨1, 1⟩ : Pt)] : List Pt)⟩ : Shape), []⟩ : Feat) (fun r21 => (if r21 then (if r20 then F44.E r19 r4 (fun r22 => (if r22 then F43.E r15 r5 (fun r23 => J316 r23) else J316 false)) else J316 false) else J316 false)) else J316 false)) ∧ ∀ (v2 : Bool), J316 v2 → Q v2)))))))))))))
theorem laws_FnSheetSide.calls {O : Ob} (w0 : World) (hO : Ok w0 O) (code : List UInt8) (A1 : Option Addr) (n2 c3 : Nat) (hp4 : Sl Kd.byte w0 (Fr O) (G A1 n2 c3) code) (Q : Bool → Prop) (h : laws_FnSheetSide.E code Q) :
  Ret Tryz.prog 9 [G A1 n2 c3] w0 (fun v w' => ∃ (r0 : Bool), v = vb r0 ∧ Q r0 ∧ Gr w0 w' none) := by
 unfold laws_FnSheetSide.E at h;have H := h;clear h;have hc0 := Ct.init hO;refine X8 Tryz.func9 Z 127 Z [.tmp 2] Z Z ?_;refine Xc (Xe (Xf (vb false) Z (Xb (Xc (Xc (Xe (Xd (G A1 n2 c3) Z ?_)))))));have hl6 := hp4.le;refine Xa (X6 u22_ A1 n2 c3 hp4.len Z) (Xa (Xy (code.length : Int) 1048576 (decide ((code.length : Int) > 1048576)) Z Z Z) (Xb ?_));refine Xq (decide ((code.length : Int) > 1048576)) Z (fun hq7 => ?_) (fun hq7 => ?_)
 ·have H := Xh H hq7;exact Xc (Xe (Xf (vb true) Z (Xb (Xk ⟨[vb true], ⟨_, Z, Z⟩, true, Z, H, hc0.gr.g0⟩))))
 have H := Xi H hq7;refine Xv (Xc (Xe (Xd (G A1 n2 c3) Z ?_)));refine Xm go24 (F11.calls H hc0.ok hp4) Z ?_;rintro _ w8 ⟨r, r2, r3, ar, au, av, an, ao, ap, aw, ax, ay, rfl, H, g9, d2, d3, d4⟩;have c8 := hc0.k0 g9;refine Xd (.tuple #[G ar au av, G an ao ap, G aw ax ay]) Z (Xa (Yf [G ar au av, G an ao ap, G aw ax ay] 0 (G ar au av) Z Z) (Xa (Yf [G ar au av, G an ao ap, G aw ax ay] 1 (G an ao ap) Z Z) (Xa (Yf [G ar au av, G an ao ap, G aw ax ay] 2 (G aw ax ay) Z Z) (Xf (G ar au av) Z (Xf (G an ao ap) Z (Xf (G aw ax ay) Z (Xb (Xc ?_))))))));refine Xe (Xd (G ar au av) Z (Xd (G an ao ap) Z (Xd (G aw ax ay) Z ?_)));refine Xm go20 (F41.calls H c8.ok d2 d3 d4) Z ?_;rintro _ d5 ⟨r4, r5, r6, aa, a3, a4, ad, d6, ab, az, a0, rfl, H, d7, eu, d8, c5, c6, cy⟩;have bp := c8.owns d7 eu d8;have bd : (((bk aa :: bk ab :: (ad ++ [])) ++ []) : Ob).Perm (bk aa :: bk ab :: (ad ++ [])) := RP;have cj := bp.perm bd;refine Xd (.tuple #[G aa a3 a4, G ab az a0, vb r6]) Z (Xa (Yf [G aa a3 a4, G ab az a0, vb r6] 0 (G aa a3 a4) Z Z) (Xa (Yf [G aa a3 a4, G ab az a0, vb r6] 1 (G ab az a0) Z Z) (Xa (Yf [G aa a3 a4, G ab az a0, vb r6] 2 (vb r6) Z Z) (Xf (G aa a3 a4) Z (Xf (G ab az a0) Z (Xf (vb r6) Z (Xb (Xc ?_))))))));refine Xe (Xd (G ar au av) Z (Xd (G an ao ap) Z (Xd (G aw ax ay) Z ?_)));have c9 := c8.stos d7 d8;have da := St.spa (w := d5) (A := (bk aa :: bk ab :: (ad ++ []))) (L := []) (O := O) bd;have cz := ((d2.st c9).st da);have c0 := ((d3.st c9).st da);have c1 := ((d4.st c9).st da);refine Xm go21 (F42.calls H cj.ok cz c0 c1) Z ?_;rintro _ ev ⟨r7, r8, r9, ck, cl, cm, ac, a5, a6, rfl, H, aq, ew, a7, i6, c2⟩;have bb := cj.owns aq ew a7;refine Xd (.tuple #[G ck cl cm, G ac a5 a6, vb r9]) Z (Xa (Yf [G ck cl cm, G ac a5 a6, vb r9] 0 (G ck cl cm) Z Z) (Xa (Yf [G ck cl cm, G ac a5 a6, vb r9] 1 (G ac a5 a6) Z Z) (Xa (Yf [G ck cl cm, G ac a5 a6, vb r9] 2 (vb r9) Z Z) (Xf (G ck cl cm) Z (Xf (G ac a5 a6) Z (Xf (vb r9) Z (Xb (Xc ?_))))))));refine Xc ?_;obtain ⟨ex, H, ey⟩ := H;refine Y1 (J := (fun t be => ∃ (v : Bool), ex v ∧ Has t [(3, G ar au av), (4, G an ao ap), (5, G aw ax ay), (6, G aa a3 a4), (7, G ab az a0), (8, vb r6), (10, G ac a5 a6), (11, vb r9), (64, vb v)] ∧ Cw [] w0 be (bk ac :: bk aa :: bk ab :: (ad ++ [])) O fun M => Sl kFeat be (Fr M) (G ar au av) r ∧ Sl kFeat be (Fr M) (G an ao ap) r2 ∧ Sl kFeat be (Fr M) (G aw ax ay) r3 ∧ Ow (Kd.cells 4) 28 be M (G aa a3 a4) d6 ∧ DArr dFeat_28 be ad r4 d6 ∧ Ow kClash 59 be M (G ab az a0) r5 ∧ Ow kClash 59 be M (G ac a5 a6) r8)) ?_ ?_
 ·refine Xe (Xd (vb r6) Z (Xd (vb r9) Z (Xa (Zb u4_ r6 r9 (r6 != r9) Z Z Z) (Xd (vb (r6 != r9)) Z ?_))));rcases X9 (r6 != r9) with ba | ba
  ·have H := Xh H ba;refine Xo ba Z (Xo ba Z (Xo ba Z (Xo ba Z (Xa (Xu true (vb true) ba Z) (Xd (vb true) Z (Ya (dj := 56) Z Z (.inl Z) (Ya (dj := 56) Z Z (.inl Z) (Xa (Xu true (vb true) Z Z) ?_))))))));refine Xd (vb true) Z (Ya (dj := 60) Z Z (.inl Z) (Ya (dj := 60) Z Z (.inl Z) (Ya (dj := 60) Z Z (.inl Z) (Xa (Xu true (vb true) Z Z) (Xb ?_)))));have ez := bb.drop 0 Z;have db := cj.stos aq a7;have dc := bb.std 0 Z;have e0 := ((cz.st db).st dc);have e1 := ((c0.st db).st dc);have e2 := ((c1.st db).st dc);have e3 := (bb.sd ((bp.spa c5 bd).sos aq a7) 2 0 Z Z Z);have e4 := (c6.k0 aq);have e5 := (bb.sd ((bp.spa cy bd).sos aq a7) 3 0 Z Z Z);have e6 := (bb.sd c2 1 0 Z Z Z);exact ⟨true, H, (Xn Z), ez, e0, e1, e2, e3, e4, e5, e6⟩
  have H := Xi H ba;refine Xl ba Z (Xd (G ab az a0) Z (Xl ba Z (Xd (G ac a5 a6) Z (Xl ba Z ?_))));have e7 := ((bp.spa cy bd).sos aq a7);have e8 := bb.gv e7 3 Z;have dd := bb.drop 3 Z;have e9 := (bb.sd c2 1 3 Z Z Z);have fa := dd.gv e9 1 Z;have fb := dd.drop 1 Z;have fc := dd.std 1 Z;refine Xm go22 (F43.calls H fb.ok (e8.st fc) fa) Z ?_;rintro _ i7 ⟨r10, rfl, H, a1⟩;have a2 := bb.k0 a1;refine Xl ba Z (Xa (Yh r10 Z) (Xa (Xu false (vb (!r10)) ba Z) (Xd (vb (!r10)) Z ?_)));rcases X9 (!r10) with bu | bu
  ·have H := Xh H bu;refine Xo bu Z (Xo bu Z (Xa (Xu true (vb true) bu Z) (Xd (vb true) Z (Ya (dj := 60) Z Z (.inl Z) (Ya (dj := 60) Z Z (.inl Z) (Ya (dj := 60) Z Z (.inl Z) (Xa (Xu true (vb true) Z Z) (Xb ?_))))))));have fd := a2.drop 0 Z;have de := cj.stos aq a7;have df := bb.stn a1;have dg := a2.std 0 Z;have fe := (((cz.st de).st df).st dg);have ff := (((c0.st de).st df).st dg);have fg := (((c1.st de).st df).st dg);have fh := (a2.sd (((bp.spa c5 bd).sos aq a7).sn a1) 2 0 Z Z Z);have fi := ((c6.k0 aq).k0 a1);have fj := (a2.sd (((bp.spa cy bd).sos aq a7).sn a1) 3 0 Z Z Z);have fk := (a2.sd (c2.sn a1) 1 0 Z Z Z);exact ⟨true, H, (Xn Z), fd, fe, ff, fg, fh, fi, fj, fk⟩
  have H := Xi H bu;refine Xl bu Z (Xd (vb r6) Z (Xl bu Z (Xa (Yh r6 Z) (Xa (Xu false (vb (!r6)) bu Z) (Xd (vb (!r6)) Z ?_)))));rcases X9 (!r6) with bf | bf
  ·have H := Xh H bf;refine Xo bf Z (Xo bf Z (Xo bf Z (Xa (Xu true (vb true) bf Z) (Xb ?_))));have fl := a2.drop 0 Z;have dh := cj.stos aq a7;have di := bb.stn a1;have dk := a2.std 0 Z;have fm := (((cz.st dh).st di).st dk);have fn := (((c0.st dh).st di).st dk);have fo := (((c1.st dh).st di).st dk);have fp := (a2.sd (((bp.spa c5 bd).sos aq a7).sn a1) 2 0 Z Z Z);have fq := ((c6.k0 aq).k0 a1);have fr := (a2.sd (((bp.spa cy bd).sos aq a7).sn a1) 3 0 Z Z Z);have fs := (a2.sd (c2.sn a1) 1 0 Z Z Z);exact ⟨true, H, (Xn Z), fl, fm, fn, fo, fp, fq, fr, fs⟩
  have H := Xi H bf;refine Xl bf Z (Xd (G an ao ap) Z (Xl bf Z ?_));have dl := cj.stos aq a7;have dm := bb.stn a1;have dn := ((c0.st dl).st dm);have i8 := dn.le;refine Xa (X6 u41_ an ao ap dn.len Z) (Xl bf Z (Xa (Xy (r2.length : Int) 8 (decide ((r2.length : Int) ≥ 8)) Z Z Z) (Xa (Yv false (vb (decide ((r2.length : Int) ≥ 8))) (by exact congrArg Value.bool bf) Z) (Xb ?_))));have ft := a2.drop 0 Z;have dp := a2.std 0 Z;have fu := (((cz.st dl).st dm).st dp);have fv := (((c1.st dl).st dm).st dp);have fw := (a2.sd (((bp.spa c5 bd).sos aq a7).sn a1) 2 0 Z Z Z);have fx := ((c6.k0 aq).k0 a1);have fy := (a2.sd (((bp.spa cy bd).sos aq a7).sn a1) 3 0 Z Z Z);have fz := (a2.sd (c2.sn a1) 1 0 Z Z Z);exact ⟨decide ((r2.length : Int) ≥ 8), H, (Xn Z), ft, fu, (dn.st dp), fv, fw, fx, fy, fz⟩
 rintro i9 be ⟨v, f0, f1, cd, f2, f3, f4, d9, ea, eb, f5⟩;obtain ⟨ja, rfl⟩ := Has.ins f1;have H := ey v f0;refine Xq v Z (fun dq => ?_) (fun dq => ?_)
 ·have H := Xh H dq;refine Xc (Xe (Xd (vb r6) Z (Xd (vb r9) Z (Xa (Zb u4_ r6 r9 (r6 == r9) Z Z Z) (Xd (vb (r6 == r9)) Z ?_)))));rcases X9 (r6 == r9) with bg | bg
  ·have H := Xh H bg;refine Xl bg Z (Xd (G ab az a0) Z (Xl bg Z (Xd (G ac a5 a6) Z (Xl bg Z ?_))));have f6 := cd.gv eb 2 Z;have dr := cd.drop 2 Z;have f7 := (cd.sd f5 0 2 Z Z Z);have f8 := dr.gv f7 0 Z;have f9 : Ct [] w0 be (bk aa :: (ad ++ [])) O := dr.drop 0 Z;have ga := dr.std 0 Z;refine Xm go22 (F43.calls H f9.ok (f6.st ga) f8) Z ?_;rintro _ jb ⟨r11, rfl, H, gb⟩;have gc := cd.k0 gb;refine Xa (Xu true (vb r11) bg Z) (Xf (vb r11) Z (Xb (Xk ?_)));have gd := gc.clear;exact ⟨[vb r11], ⟨_, Z, Z⟩, r11, Z, H, gd.gr.g0⟩
  have H := Xi H bg;refine Xo bg Z (Xo bg Z (Xo bg Z (Xa (Xu false (vb false) bg Z) (Xf (vb false) Z (Xb (Xk ?_))))));have ge := cd.clear;exact ⟨[vb false], ⟨_, Z, Z⟩, false, Z, H, ge.gr.g0⟩
 have H := Xi H dq;refine Xv (Xc (Xe (Xa (Yl (.agg #[vi 1, vi 1]) RF) (X4 (kd := kPt) Yi cd ([(⟨1, 1⟩ : Pt)] : List Pt) (cells := [vi 1, vi 1]) ⟨[vi 1, vi 1], _, Z, (kPt.mk _ _ (⟨1, 1⟩ : Pt)), Z⟩ RF fun jc bc bq br cn hr175 ec gf => ?_))));refine Xa (Yl (.agg #[vi 1, G bc bq br]) RF) (Xa (Yl (.agg #[vs ([122, 122] : Str), vi 1, G bc bq br, G none 0 0]) RF) (Ye [vs [], .int .i64 0, G none 0 0, G none 0 0] ze28 fun jd ae co hu183 b4 gg => ?_));have b5 := ec.own b4 (some ae) (Yc co hu183);refine X1 [vs ([122, 122] : Str), vi 1, G bc bq br, G none 0 0] gg Z Z sz28 Z Z fun gh b6 ed => ?_;have cp := b5.wr 0 Z b6;refine Xb (Xc (Xe (Xd (G an ao ap) Z (Xa (Xr ag28 sz28 cL (Ad ae 0) [vs ([122, 122] : Str), vi 1, G bc bq br, G none 0 0] Z Z (ed.cells (off := 00) Z)) ?_))));have gi := (b5.sw (gf.so _ b4 (Xg co)) 1 0 Z Z Z b6);have ee := cp.gv gi 1 Z;have c7 := cp.drop 1 Z;have ds := cd.stown _ cn hr175;have dt := ec.stown _ b4 (Xg co);have du := b5.stw 0 Z b6;have dv := cp.std 1 Z;have gj := ((((f3.st ds).st dt).st du).st dv);refine Xm go33 (F59.calls H c7.ok gj (by decide : Lim ([122, 122] : Str)) ee (Sl.nil _ _ _ none 0 RD)) Z ?_;rintro _ ef ⟨r12, r13, af, b7, b8, rfl, H, bv, gk, cq, gl⟩;have cr := c7.owns bv gk cq;refine Xd (.tuple #[G af b7 b8, vb r13]) Z (Xa (Yf [G af b7 b8, vb r13] 0 (G af b7 b8) Z Z) (Xa (Yf [G af b7 b8, vb r13] 1 (vb r13) Z Z) (Xf (G af b7 b8) Z (Xf (vb r13) Z (Xb (Xc (Xe (Xd (G ar au av) Z ?_))))))));refine Xd (G af b7 b8) Z (Xd (G aw ax ay) Z ?_);have gm := cr.gv gl 0 Z;have gn : Ct [] w0 ef (some ae :: bk ac :: bk aa :: bk ab :: (ad ++ [])) O := cr.drop 0 Z;have eg := c7.stos bv cq;have eh := cr.std 0 Z;have gp := ((((((f2.st ds).st dt).st du).st dv).st eg).st eh);have gq := ((((((f4.st ds).st dt).st du).st dv).st eg).st eh);refine Xm go20 (F41.calls H gn.ok gp gm gq) Z ?_;rintro _ ei ⟨r14, r15, r16, ah, a8, a9, al, je, ag, bw, bx, rfl, H, bz, gs, cs, gt, ej, gu⟩;have gw := Ok.unl (L := (bk af :: some ae :: bk ac :: bk aa :: bk ab :: (ad ++ []))) (L' := (some ae :: bk ac :: bk aa :: bk ab :: (ad ++ []))) (O := O) cr bz gs cs;have ek := Ow.unl (L := (bk af :: some ae :: bk ac :: bk aa :: bk ab :: (ad ++ []))) (L' := (some ae :: bk ac :: bk aa :: bk ab :: (ad ++ []))) (O := O) (fun _ _ _ _ _ _ h => h) (.cons _ (.cons_cons _ (.cons_cons _ (.cons_cons _ (.cons_cons _ (.append (.refl _) (.refl _))))))) gt;have gx := Ow.unl (L := (bk af :: some ae :: bk ac :: bk aa :: bk ab :: (ad ++ []))) (L' := (some ae :: bk ac :: bk aa :: bk ab :: (ad ++ []))) (O := O) (fun _ _ _ _ _ _ h => h) (.cons _ (.cons_cons _ (.cons_cons _ (.cons_cons _ (.cons_cons _ (.append (.refl _) (.refl _))))))) gu;have ce := cr.owns bz gw cs;have b9 : (((bk ah :: bk ag :: (al ++ [])) ++ (bk af :: some ae :: bk ac :: bk aa :: bk ab :: (ad ++ []))) : Ob).Perm (bk ah :: bk ag :: bk af :: some ae :: bk ac :: bk aa :: bk ab :: (al ++ (ad ++ []))) := RP;have cf := ce.perm b9;refine Xd (.tuple #[G ah a8 a9, G ag bw bx, vb r16]) Z (Xa (Yf [G ah a8 a9, G ag bw bx, vb r16] 0 (G ah a8 a9) Z Z) (Xa (Yf [G ah a8 a9, G ag bw bx, vb r16] 1 (G ag bw bx) Z Z) (Xa (Yf [G ah a8 a9, G ag bw bx, vb r16] 2 (vb r16) Z Z) (Xf (G ah a8 a9) Z (Xf (G ag bw bx) Z (Xf (vb r16) Z (Xb (Xc ?_))))))));refine Xc (Xe (Xd (vb r13) Z (Xa (Yh r13 Z) (Xb ?_))));refine Xq (!r13) Z (fun dw => ?_) (fun dw => ?_)
 ·have H := Xh H dw;refine Xc ?_;have gy : ((bk ah :: bk ag :: bk af :: some ae :: bk ac :: bk aa :: bk ab :: (al ++ (ad ++ []))) : Ob).Perm ((bk ah :: bk ag :: bk af :: some ae :: bk ac :: bk aa :: bk ab :: (al ++ (ad ++ []))) ++ []) := RP;have gz := cf.drops gy;exact Xe (Xf (vb false) Z (Xb (Xk ⟨[vb false], ⟨_, Z, Z⟩, false, Z, H, gz.gr.g0⟩)))
 have H := Xi H dw;refine Xv (Xc (Xc (Xe (Xd (vb r16) Z (Xa (Yh r16 Z) (Xb ?_))))));refine Xq (!r16) Z (fun dx => ?_) (fun dx => ?_)
 ·have H := Xh H dx;refine Xc ?_;have el : ((bk ah :: bk ag :: bk af :: some ae :: bk ac :: bk aa :: bk ab :: (al ++ (ad ++ []))) : Ob).Perm ((bk ah :: bk ag :: bk af :: some ae :: bk ac :: bk ab :: (al ++ [])) ++ (bk aa :: (ad ++ []))) := RP;have g1 := cf.drops el;refine Xe (Xd (G aa a3 a4) Z ?_);have em := (cf.odr (ce.spa (((cp.sd (b5.sw ((d9.so _ cn hr175).so _ b4 (Xg co)) 3 0 Z Z Z b6) 3 1 Z Z Z).sos bv cq).sos bz cs) b9) el 0 Z);have en := (((DArr.sm (L := (some ae :: bk bc :: bk ac :: bk aa :: bk ab :: (ad ++ []))) (O := O) (i := 0) ((ea.k0 cn).k0 b4) b5 Z (fun b hb => (mcm (mcm (mcm (mcm (List.mem_append_left _ hb)))))) b6).k0 bv).k0 bz);have jf := (Dp.le em en);refine Xa (X6 u41_ aa a3 a4 (Dp.len em en) Z) (Xa (Xy (r4.length : Int) 8 (decide ((r4.length : Int) ≥ 8)) Z Z Z) (Xf (vb (decide ((r4.length : Int) ≥ 8))) Z (Xb (Xk ?_))));have g2 : ((bk aa :: (ad ++ [])) : Ob).Perm ((bk aa :: (ad ++ [])) ++ []) := RP;have g3 := g1.drops g2;exact ⟨[vb (decide ((r4.length : Int) ≥ 8))], ⟨_, Z, Z⟩, decide ((r4.length : Int) ≥ 8), Z, H, g3.gr.g0⟩
 have H := Xi H dx;refine Xv (Xc (Xe (Xd (G ah a8 a9) Z ?_)));have g4 := (ce.spa ek b9);have g5 := ej;have g6 : ((bk ah :: bk ag :: bk af :: some ae :: bk ac :: bk aa :: bk ab :: (al ++ (ad ++ []))) : Ob).Perm (bk ah :: (al ++ (bk ag :: bk af :: some ae :: bk ac :: bk aa :: bk ab :: (ad ++ [])))) := RP;obtain ⟨g7, g8, jg⟩ := Dp.gv (L := (bk ah :: bk ag :: bk af :: some ae :: bk ac :: bk aa :: bk ab :: (al ++ (ad ++ [])))) (O := O) (v := G ah a8 a9) g4 g5 cf g6;refine Xm go23 (F58.calls H g8.ok g7 (by decide : Lim ([122, 122] : Str))) Z ?_;rintro _ jh ⟨r17, r18, aj, b0, b1, ai, b2, b3, rfl, H, bs, ha, cg, hc, hd, he⟩;have hf := Ok.unl (L := (bk ah :: bk ag :: bk af :: some ae :: bk ac :: bk aa :: bk ab :: (al ++ (ad ++ [])))) (L' := (bk ag :: bk af :: some ae :: bk ac :: bk aa :: bk ab :: (ad ++ []))) (O := O) cf bs ha cg;have hg := Ow.unl (L := (bk ah :: bk ag :: bk af :: some ae :: bk ac :: bk aa :: bk ab :: (al ++ (ad ++ [])))) (L' := (bk ag :: bk af :: some ae :: bk ac :: bk aa :: bk ab :: (ad ++ []))) (O := O) (fun _ _ _ _ _ _ h => h) (.cons _ (.cons_cons _ (.cons_cons _ (.cons_cons _ (.cons_cons _ (.cons_cons _ (.cons_cons _ (List.sublist_append_of_sublist_right (.append (.refl _) (.refl _)))))))))) hd;have hh := Ow.unl (L := (bk ah :: bk ag :: bk af :: some ae :: bk ac :: bk aa :: bk ab :: (al ++ (ad ++ [])))) (L' := (bk ag :: bk af :: some ae :: bk ac :: bk aa :: bk ab :: (ad ++ []))) (O := O) (fun _ _ _ _ _ _ h => h) (.cons _ (.cons_cons _ (.cons_cons _ (.cons_cons _ (.cons_cons _ (.cons_cons _ (.cons_cons _ (List.sublist_append_of_sublist_right (.append (.refl _) (.refl _)))))))))) he;have eo := cf.owns bs hf cg;refine Xd (.tuple #[.agg #[vs r17.Id, vi r17.Shape.Kind, G aj b0 b1, G ai b2 b3], vb r18]) Z (Xa (Yf [.agg #[vs r17.Id, vi r17.Shape.Kind, G aj b0 b1, G ai b2 b3], vb r18] 0 (.agg #[vs r17.Id, vi r17.Shape.Kind, G aj b0 b1, G ai b2 b3]) Z Z) (Xa (Yf [.agg #[vs r17.Id, vi r17.Shape.Kind, G aj b0 b1, G ai b2 b3], vb r18] 1 (vb r18) Z Z) (Ye [vs [], .int .i64 0, G none 0 0, G none 0 0] ze28 fun ji ak ca hu285 bh hi => ?_)));have bi := eo.own bh (some ak) (Yc ca hu285);refine X1 [vs r17.Id, vi r17.Shape.Kind, G aj b0 b1, G ai b2 b3] hi Z Z sz28 Z Z fun hj bj hk => ?_;have ct := bi.wr 0 Z bj;refine Xf (vb r18) Z (Xb (Xc (Xe (Xd (G ah a8 a9) Z ?_))));have hl := (bi.sw (((ce.spa ek b9).sos bs cg).so _ bh (Xg ca)) 3 0 Z Z Z bj);have hm := (DArr.sm (L := (some ak :: bk aj :: bk ai :: bk ah :: bk ag :: bk af :: some ae :: bk ac :: bk aa :: bk ab :: (al ++ (ad ++ [])))) (O := O) (i := 0) ((ej.k0 bs).k0 bh) bi Z (fun b hb => (mcm (mcm (mcm (mcm (mcm (mcm (mcm (mcm (mcm (List.mem_append_left _ hb))))))))))) bj);have cu : ((some ak :: bk aj :: bk ai :: bk ah :: bk ag :: bk af :: some ae :: bk ac :: bk aa :: bk ab :: (al ++ (ad ++ []))) : Ob).Perm (bk ah :: (al ++ (some ak :: bk aj :: bk ai :: bk ag :: bk af :: some ae :: bk ac :: bk aa :: bk ab :: (ad ++ [])))) := RP;obtain ⟨hn, dy, ho⟩ := Dp.gv (L := (some ak :: bk aj :: bk ai :: bk ah :: bk ag :: bk af :: some ae :: bk ac :: bk aa :: bk ab :: (al ++ (ad ++ [])))) (O := O) (v := G ah a8 a9) hl hm ct cu;refine Xm go34 (F60.calls H dy.ok hn (by decide : Lim ([122, 122] : Str))) Z ?_;rintro _ ep ⟨r19, r20, am, cb, cc, rfl, H, bt, hp, ch, hq⟩;have cv := dy.owns bt hp ch;refine Xd (.tuple #[G am cb cc, vb r20]) Z (Xa (Yf [G am cb cc, vb r20] 0 (G am cb cc) Z Z) (Xa (Yf [G am cb cc, vb r20] 1 (vb r20) Z Z) (Xf (G am cb cc) Z (Xf (vb r20) Z (Xb (Xc ?_))))));obtain ⟨hr, H, hs⟩ := H;refine Y1 (J := (fun t eq => ∃ (v2 : Bool), hr v2 ∧ Has t [(2, vb v2)] ∧ Ct [] w0 eq [] O)) ?_ ?_
 ·refine Xe (Xd (vb r18) Z (Xd (vb r18) Z ?_));rcases X9 r18 with bl | bl
  ·have H := Xh H bl;refine Xl bl Z ?_;have ht := (hk.k0 bt);refine Xa (Xr ag28 sz28 cL (Ad ak 0) [vs r17.Id, vi r17.Shape.Kind, G aj b0 b1, G ai b2 b3] Z Z (ht.cells (off := 00) Z)) (Xl bl Z ?_);have hu := ((bi.bm ((((ed.k0 bv).k0 bz).k0 bs).k0 bh) 6 0 Z Z Z bj).k0 bt);refine Xa (Xr ag28 sz28 cL (Ad ae 0) [vs ([122, 122] : Str), vi 1, G bc bq br, G none 0 0] Z Z (hu.cells (off := 00) Z)) (Xl bl Z ?_);have hv := ((ct.odr (rs := bk ah :: al) (bi.sw (hg.so _ bh (Xg ca)) 1 0 Z Z Z bj) cu 1 Z).sos bt ch);have hw := cv.gv hv 2 Z;have dz : Ct [] w0 ep (bk am :: some ak :: bk ai :: bk ag :: bk af :: some ae :: bk ac :: bk aa :: bk ab :: (ad ++ [])) O := cv.drop 2 Z;have hx := (cv.sd ((ct.odr (rs := bk ah :: al) (bi.sw (hh.so _ bh (Xg ca)) 2 0 Z Z Z bj) cu 2 Z).sos bt ch) 3 2 Z Z Z);have hy := dz.gv hx 2 Z;have hz := dz.drop 2 Z;have er := dz.std 2 Z;have h0 := c7.stos bv cq;have h1 := cr.stos bz cs;have h2 := St.spa (w := ei) (A := (bk ah :: bk ag :: (al ++ []))) (L := (bk af :: some ae :: bk ac :: bk aa :: bk ab :: (ad ++ []))) (O := O) b9;have h3 := cf.stos bs cg;have h4 := eo.stown _ bh (Xg ca);have h5 := bi.stw 0 Z bj;have h6 := dy.stos bt ch;have h7 := cv.std 2 Z;have h8 := ((((((((((ee.st h0).st h1).st h2).st h3).st h4).st h5).st ho).st h6).st h7).st er);refine Xm go17 (F55.calls H hz.ok hc (hw.st er) hy (by decide : Lim ([122, 122] : Str)) h8 (Sl.nil _ _ _ none 0 RD)) Z ?_;rintro _ es ⟨r21, rfl, H, cw⟩;have cx := cv.k0 cw;refine Xa (Xu true (vb r21) bl Z) (Xd (vb r21) Z ?_);rcases X9 r21 with ci | ci
   ·have H := Xh H ci;refine Xl ci Z (Xd (vb r20) Z (Xa (Xu true (vb r20) ci Z) (Xd (vb r20) Z ?_)));rcases X9 r20 with bn | bn
    ·have H := Xh H bn;refine Xl bn Z (Xd (G am cb cc) Z (Xl bn Z (Xd (G aa a3 a4) Z (Xl bn Z ?_))));have h9 := (hq.sn cw);have ia := cx.gv h9 0 Z;have ib : Ct [] w0 es (some ak :: bk aj :: bk ai :: bk ag :: bk af :: some ae :: bk ac :: bk aa :: bk ab :: (ad ++ [])) O := cx.drop 0 Z;have ic := (cx.sd (((ct.odr (rs := bk ah :: al) (bi.sw (((ce.spa (((cp.sd (b5.sw ((d9.so _ cn hr175).so _ b4 (Xg co)) 3 0 Z Z Z b6) 3 1 Z Z Z).sos bv cq).sos bz cs) b9).sos bs cg).so _ bh (Xg ca)) 8 0 Z Z Z bj) cu 7 Z).sos bt ch).sn cw) 8 0 Z Z Z);have id := (((DArr.sm (L := (some ak :: bk aj :: bk ai :: bk ah :: bk ag :: bk af :: some ae :: bk ac :: bk aa :: bk ab :: (al ++ (ad ++ [])))) (O := O) (i := 0) (((((DArr.sm (L := (some ae :: bk bc :: bk ac :: bk aa :: bk ab :: (ad ++ []))) (O := O) (i := 0) ((ea.k0 cn).k0 b4) b5 Z (fun b hb => (mcm (mcm (mcm (mcm (List.mem_append_left _ hb)))))) b6).k0 bv).k0 bz).k0 bs).k0 bh) bi Z (fun b hb => (mcm (mcm (mcm (mcm (mcm (mcm (mcm (mcm (mcm (List.mem_append_right _ (List.mem_append_left _ hb)))))))))))) bj).k0 bt).k0 cw);have ie : ((some ak :: bk aj :: bk ai :: bk ag :: bk af :: some ae :: bk ac :: bk aa :: bk ab :: (ad ++ [])) : Ob).Perm (bk aa :: (ad ++ [some ak, bk aj, bk ai, bk ag, bk af, some ae, bk ac, bk ab])) := RP;obtain ⟨ig, ih, ii⟩ := Dp.gv (L := (some ak :: bk aj :: bk ai :: bk ag :: bk af :: some ae :: bk ac :: bk aa :: bk ab :: (ad ++ []))) (O := O) (v := G aa a3 a4) ic id ib ie;refine Xm go25 (F44.calls H ih.ok (ia.st ii) ig) Z ?_;rintro _ et ⟨r22, rfl, H, d0⟩;have c4 := cx.k0 d0;refine Xa (Xu true (vb r22) bn Z) (Xd (vb r22) Z ?_);rcases X9 r22 with bo | bo
     ·have H := Xh H bo;refine Xl bo Z (Xd (G ag bw bx) Z (Xl bo Z (Xd (G ab az a0) Z (Xl bo Z ?_))));have ij := ((((ct.odr (rs := bk ah :: al) (bi.sw (((ce.spa gx b9).sos bs cg).so _ bh (Xg ca)) 4 0 Z Z Z bj) cu 3 Z).sos bt ch).sn cw).sn d0);have ik := c4.gv ij 4 Z;have d1 : Ct [] w0 et (bk am :: some ak :: bk aj :: bk ai :: bk af :: some ae :: bk ac :: bk aa :: bk ab :: (ad ++ [])) O := c4.drop 4 Z;have il := (c4.sd ((((ct.odr (rs := bk ah :: al) (bi.sw (((ce.spa (((cp.sd (b5.sw ((eb.so _ cn hr175).so _ b4 (Xg co)) 4 0 Z Z Z b6) 4 1 Z Z Z).sos bv cq).sos bz cs) b9).sos bs cg).so _ bh (Xg ca)) 9 0 Z Z Z bj) cu 8 Z).sos bt ch).sn cw).sn d0) 9 4 Z Z Z);have im := d1.gv il 8 Z;have io := d1.drop 8 Z;have ip := d1.std 8 Z;refine Xm go22 (F43.calls H io.ok (ik.st ip) im) Z ?_;rintro _ jj ⟨r23, rfl, H, iq⟩;have ir := c4.k0 iq;refine Xa (Xu true (vb r23) bo Z) (Xf (vb r23) Z (Xb ?_));have it : ((bk am :: some ak :: bk aj :: bk ai :: bk ag :: bk af :: some ae :: bk ac :: bk aa :: bk ab :: (ad ++ [])) : Ob).Perm ((bk am :: some ak :: bk aj :: bk ai :: bk ag :: bk af :: some ae :: bk ac :: bk aa :: bk ab :: (ad ++ [])) ++ []) := RP;have iu := ir.drops it;exact ⟨r23, H, (Xn Z), iu⟩
     have H := Xi H bo;refine Xo bo Z (Xo bo Z (Xo bo Z (Xa (Xu false (vb false) bo Z) (Xf (vb false) Z (Xb ?_)))));have iv : ((bk am :: some ak :: bk aj :: bk ai :: bk ag :: bk af :: some ae :: bk ac :: bk aa :: bk ab :: (ad ++ [])) : Ob).Perm ((bk am :: some ak :: bk aj :: bk ai :: bk ag :: bk af :: some ae :: bk ac :: bk aa :: bk ab :: (ad ++ [])) ++ []) := RP;have iw := c4.drops iv;exact ⟨false, H, (Xn Z), iw⟩
    have H := Xi H bn;refine Xo bn Z (Xo bn Z (Xo bn Z (Xa (Xu false (vb false) bn Z) (Xd (vb false) Z (Ya (dj := 122) Z Z (.inl Z) (Ya (dj := 122) Z Z (.inl Z) (Ya (dj := 122) Z Z (.inl Z) (Xa (Xu false (vb false) Z Z) ?_))))))));refine Xf (vb false) Z (Xb ?_);have ix : ((bk am :: some ak :: bk aj :: bk ai :: bk ag :: bk af :: some ae :: bk ac :: bk aa :: bk ab :: (ad ++ [])) : Ob).Perm ((bk am :: some ak :: bk aj :: bk ai :: bk ag :: bk af :: some ae :: bk ac :: bk aa :: bk ab :: (ad ++ [])) ++ []) := RP;have iy := cx.drops ix;exact ⟨false, H, (Xn Z), iy⟩
   have H := Xi H ci;refine Xo ci Z (Xa (Xu false (vb false) ci Z) (Xd (vb false) Z (Ya (dj := 117) Z Z (.inl Z) (Ya (dj := 117) Z Z (.inl Z) (Ya (dj := 117) Z Z (.inl Z) (Xa (Xu false (vb false) Z Z) (Xd (vb false) Z (Ya (dj := 122) Z Z (.inl Z) ?_))))))));refine Ya (dj := 122) Z Z (.inl Z) (Ya (dj := 122) Z Z (.inl Z) (Xa (Xu false (vb false) Z Z) (Xf (vb false) Z (Xb ?_))));have iz : ((bk am :: some ak :: bk aj :: bk ai :: bk ag :: bk af :: some ae :: bk ac :: bk aa :: bk ab :: (ad ++ [])) : Ob).Perm ((bk am :: some ak :: bk aj :: bk ai :: bk ag :: bk af :: some ae :: bk ac :: bk aa :: bk ab :: (ad ++ [])) ++ []) := RP;have i0 := cx.drops iz;exact ⟨false, H, (Xn Z), i0⟩
  have H := Xi H bl;refine Xo bl Z (Xo bl Z (Xo bl Z (Xa (Xu false (vb false) bl Z) (Xd (vb false) Z (Ya (dj := 114) Z Z (.inl Z) (Xa (Xu false (vb false) Z Z) (Xd (vb false) Z (Ya (dj := 117) Z Z (.inl Z) ?_))))))));refine Ya (dj := 117) Z Z (.inl Z) (Ya (dj := 117) Z Z (.inl Z) (Xa (Xu false (vb false) Z Z) (Xd (vb false) Z (Ya (dj := 122) Z Z (.inl Z) (Ya (dj := 122) Z Z (.inl Z) (Ya (dj := 122) Z Z (.inl Z) (Xa (Xu false (vb false) Z Z) (Xf (vb false) Z ?_))))))));refine Xb ?_;have i1 : ((bk am :: some ak :: bk aj :: bk ai :: bk ag :: bk af :: some ae :: bk ac :: bk aa :: bk ab :: (ad ++ [])) : Ob).Perm ((bk am :: some ak :: bk aj :: bk ai :: bk ag :: bk af :: some ae :: bk ac :: bk aa :: bk ab :: (ad ++ [])) ++ []) := RP;have i2 := cv.drops i1;exact ⟨false, H, (Xn Z), i2⟩
 rintro jk eq ⟨v2, i3, i4, i5⟩;obtain ⟨jl, rfl⟩ := Has.ins i4;have H := hs v2 i3;exact Xk ⟨[vb v2], ⟨_, Z, Z⟩, v2, Z, H, i5.gr.g0⟩
section
section
variable {α : Type} [DecidableEq α]
def lcsR (x : α) (p : List α → Nat) : List α → Nat
 | [] => 0
 | y :: b => if x = y then p b + 1 else max (p (y :: b)) (lcsR x p b)
def lcs : List α → List α → Nat
 | [] => fun _ => 0
 | x :: a => lcsR x (lcs a)
@[simp] theorem lcs_nil (b : List α) : lcs [] b = 0 := rfl
@[simp] theorem lcs_nil2 (a : List α) : lcs a [] = 0 := by cases a <;> rfl
theorem lcs_cons (x y : α) (a b : List α) : lcs (x :: a) (y :: b) = if x = y then lcs a b + 1 else max (lcs a (y :: b)) (lcs (x :: a) b) := rfl
theorem lcs_sub (a b : List α) : ∃ s : List α, s.Sublist a ∧ s.Sublist b ∧ s.length = lcs a b := by
 induction a generalizing b with
 | nil => exact ⟨[], List.nil_sublist _, List.nil_sublist _, rfl⟩
 | cons x a ih =>
  induction b with
  | nil => exact ⟨[], List.nil_sublist _, List.nil_sublist _, rfl⟩
  | cons y b ihb =>
   rw [lcs_cons]
   by_cases h : x = y
   ·subst h
    obtain ⟨s, h1, h2, h3⟩ := ih b
    exact ⟨x :: s, h1.cons_cons x, h2.cons_cons x, by rw [if_pos rfl, ← h3]; rfl⟩
   ·rw [if_neg h]
    by_cases hm : lcs (x :: a) b ≤ lcs a (y :: b)
    ·obtain ⟨s, h1, h2, h3⟩ := ih (y :: b)
     exact ⟨s, h1.cons x, h2, OM⟩
    ·obtain ⟨s, h1, h2, h3⟩ := ihb
     exact ⟨s, h1, h2.cons y, OM⟩
theorem lcs_le1 (a b : List α) : lcs a b ≤ a.length := by
 obtain ⟨s, h1, h2, h3⟩ := lcs_sub a b; rw [← h3]; exact h1.length_le
theorem lcs_le2 (a b : List α) : lcs a b ≤ b.length := by
 obtain ⟨s, h1, h2, h3⟩ := lcs_sub a b; rw [← h3]; exact h2.length_le
theorem pp {a b c d : Nat} (h : a = c) (k : b = d) : (a, b) = (c, d) := by rw [h, k]
def pairs (i j : Nat) : List α → List α → List (Nat × Nat)
 | x :: a, y :: b => if x = y then (i, j) :: pairs (i + 1) (j + 1) a b else if lcs (x :: a) b ≤ lcs a (y :: b) then pairs (i + 1) j a (y :: b) else pairs i (j + 1) (x :: a) b
 | [], _ => []
 | _ :: _, [] => []
 termination_by a b => a.length + b.length
theorem pairs_nil (i j : Nat) (b : List α) : pairs i j [] b = [] := by rw [pairs]
theorem pairs_nil2 (i j : Nat) (a : List α) : pairs i j a [] = [] := by cases a <;> rw [pairs]
theorem pairs_cons (i j : Nat) (x y : α) (a b : List α) : pairs i j (x :: a) (y :: b) = if x = y then (i, j) :: pairs (i + 1) (j + 1) a b else if lcs (x :: a) b ≤ lcs a (y :: b) then pairs (i + 1) j a (y :: b) else pairs i (j + 1) (x :: a) b := by rw [pairs]
theorem pairs_ind {C : Nat → Nat → List α → List α → Prop} (h0 : ∀ i j b, C i j [] b) (h1 : ∀ i j a, C i j a [])
  (he : ∀ i j x a b, C (i + 1) (j + 1) a b → C i j (x :: a) (x :: b))
  (ha : ∀ i j x y a b, x ≠ y → lcs (x :: a) b ≤ lcs a (y :: b) → C (i + 1) j a (y :: b) → C i j (x :: a) (y :: b))
  (hb : ∀ i j x y a b, x ≠ y → ¬ lcs (x :: a) b ≤ lcs a (y :: b) → C i (j + 1) (x :: a) b → C i j (x :: a) (y :: b)) : ∀ i j (a b : List α), C i j a b := by
 have : ∀ n i j (a b : List α), a.length + b.length ≤ n → C i j a b := by
  intro n
  induction n with
  | zero => intro i j a b h; cases a with
   | nil => exact h0 _ _ _
   | cons _ _ => simp at h
  | succ n ih =>
   intro i j a b h
   cases a with
   | nil => exact h0 _ _ _
   | cons x a => cases b with
    | nil => exact h1 _ _ _
    | cons y b =>
     simp only [List.length_cons] at h
     by_cases e : x = y
     ·subst e; exact he _ _ _ _ _ (ih _ _ _ _ OM)
     ·by_cases l : lcs (x :: a) b ≤ lcs a (y :: b)
      ·exact ha _ _ _ _ _ _ e l (ih _ _ _ _ (by simp only [List.length_cons]; omega))
      ·exact hb _ _ _ _ _ _ e l (ih _ _ _ _ (by simp only [List.length_cons]; omega))
 exact fun i j a b => this _ i j a b (Nat.le_refl _)
theorem pairs_len (i j : Nat) (a b : List α) : (pairs i j a b).length = lcs a b := by
 refine pairs_ind (C := fun i j a b => (pairs i j a b).length = lcs a b) ?_ ?_ ?_ ?_ ?_ i j a b
 ·intros; rw [pairs_nil]; rfl
 ·intros; rw [pairs_nil2, lcs_nil2]; rfl
 ·intro i j x a b h; rw [pairs_cons, if_pos rfl, lcs_cons, if_pos rfl, List.length_cons, h]
 ·intro i j x y a b e l h; rw [pairs_cons, if_neg e, if_pos l, lcs_cons, if_neg e, h]; exact (Nat.max_eq_left l).symm
 ·intro i j x y a b e l h; rw [pairs_cons, if_neg e, if_neg l, lcs_cons, if_neg e, h]; exact (Nat.max_eq_right OM).symm
theorem pairs_mem (i j : Nat) (a b : List α) : ∀ p ∈ pairs i j a b, ∃ k l, p = (i + k, j + l) ∧ ∃ x, a[k]? = some x ∧ b[l]? = some x := by
 refine pairs_ind (C := fun i j a b => ∀ p ∈ pairs i j a b, ∃ k l, p = (i + k, j + l) ∧ ∃ x, a[k]? = some x ∧ b[l]? = some x) ?_ ?_ ?_ ?_ ?_ i j a b
 ·intro i j b p h; rw [pairs_nil] at h; cases h
 ·intro i j a p h; rw [pairs_nil2] at h; cases h
 ·intro i j x a b ih p h
  rw [pairs_cons, if_pos rfl] at h
  rcases List.mem_cons.1 h with rfl | h
  ·exact ⟨0, 0, rfl, x, rfl, rfl⟩
  ·obtain ⟨k, l, rfl, z, h1, h2⟩ := ih p h
   exact ⟨k + 1, l + 1, pp OM OM, z, h1, h2⟩
 ·intro i j x y a b e l ih p h
  rw [pairs_cons, if_neg e, if_pos l] at h
  obtain ⟨k, l, rfl, z, h1, h2⟩ := ih p h
  exact ⟨k + 1, l, pp OM OM, z, h1, h2⟩
 ·intro i j x y a b e l ih p h
  rw [pairs_cons, if_neg e, if_neg l] at h
  obtain ⟨k, l, rfl, z, h1, h2⟩ := ih p h
  exact ⟨k, l + 1, pp OM OM, z, h1, h2⟩
theorem pairs_ord (i j : Nat) (a b : List α) : (pairs i j a b).Pairwise (fun p q => p.1 < q.1 ∧ p.2 < q.2) := by
 refine pairs_ind (C := fun i j a b => (pairs i j a b).Pairwise (fun p q => p.1 < q.1 ∧ p.2 < q.2)) ?_ ?_ ?_ ?_ ?_ i j a b
 ·intros; rw [pairs_nil]; exact List.Pairwise.nil
 ·intros; rw [pairs_nil2]; exact List.Pairwise.nil
 ·intro i j x a b h; rw [pairs_cons, if_pos rfl]
  refine List.Pairwise.cons (fun p hp => ?_) h
  obtain ⟨k, l, rfl, _⟩ := pairs_mem _ _ _ _ p hp
  exact ⟨by dsimp only; omega, by dsimp only; omega⟩
 ·intro i j x y a b e l h; rw [pairs_cons, if_neg e, if_pos l]; exact h
 ·intro i j x y a b e l h; rw [pairs_cons, if_neg e, if_neg l]; exact h
end
section
variable {α : Type} [Inhabited α]
theorem nth_set (l : List α) {k : Nat} (h : k < l.length) (m : Nat) (v : α) : nth (l.set k v) (m : Int) = if m = k then v else nth l (m : Int) := by
 unfold nth
 rw [Int.toNat_natCast, List.getD_eq_getElem?_getD, List.getD_eq_getElem?_getD, List.getElem?_set]
 by_cases e : m = k
 ·subst e; rw [if_pos rfl, if_pos rfl, if_pos h]; rfl
 ·rw [if_neg (fun x => e x.symm), if_neg e]
theorem nth_rep (n m : Nat) (v : α) (h : m < n) : nth (List.replicate n v) (m : Int) = v := by
 rw [nth_nat _ (by simpa using h)]; simp
theorem drop_nth (l : List α) {k : Nat} (h : k < l.length) : l.drop k = nth l (k : Int) :: l.drop (k + 1) := by
 rw [nth_nat l h]; exact List.drop_eq_getElem_cons h
def seg (l : List α) (i j : Nat) : List α := (l.drop i).take (j - i)
theorem seg_len (l : List α) (i j : Nat) (h : j ≤ l.length) : (seg l i j).length = j - i := by
 unfold seg; rw [List.length_take, List.length_drop]; omega
theorem seg_end (l : List α) (i : Nat) : seg l i l.length = l.drop i := List.take_of_length_le (by simp)
theorem seg_app (l : List α) {i j : Nat} (h : i ≤ j) : seg l i j ++ l.drop j = l.drop i := by
 unfold seg
 have : l.drop j = (l.drop i).drop (j - i) := by rw [List.drop_drop]; congr 1; omega
 rw [this, List.take_append_drop]
variable [DecidableEq α]
theorem lcs_drop (a b : List α) {i j : Nat} (hi : i < a.length) (hj : j < b.length) : lcs (a.drop i) (b.drop j) = if nth a (i : Int) = nth b (j : Int) then lcs (a.drop (i + 1)) (b.drop (j + 1)) + 1 else max (lcs (a.drop (i + 1)) (b.drop j)) (lcs (a.drop i) (b.drop (j + 1))) := by
 rw [drop_nth a hi, drop_nth b hj, lcs_cons, ← drop_nth a hi, ← drop_nth b hj]
theorem pairs_drop (a b : List α) {i j : Nat} (hi : i < a.length) (hj : j < b.length) : pairs i j (a.drop i) (b.drop j) = if nth a (i : Int) = nth b (j : Int) then (i, j) :: pairs (i + 1) (j + 1) (a.drop (i + 1)) (b.drop (j + 1)) else if lcs (a.drop i) (b.drop (j + 1)) ≤ lcs (a.drop (i + 1)) (b.drop j) then pairs (i + 1) j (a.drop (i + 1)) (b.drop j) else pairs i (j + 1) (a.drop i) (b.drop (j + 1)) := by
 rw [drop_nth a hi, drop_nth b hj, pairs_cons, ← drop_nth a hi, ← drop_nth b hj]

def pickL (o a b : List α) : Option (List α) := if a = o then some b else if b = o then some a else if a = b then some a else none
theorem pickL_mem {o a b r : List α} (h : pickL o a b = some r) : (∀ z ∈ r, z ∈ a ∨ z ∈ b) ∧ (∀ z ∈ a, z ∈ o ∨ z ∈ r) ∧ (∀ z ∈ b, z ∈ o ∨ z ∈ r) ∧ r.length ≤ a.length + b.length := by
 unfold pickL at h
 by_cases h1 : a = o
 ·rw [if_pos h1] at h; cases h; subst h1
  exact ⟨fun z hz => .inr hz, fun z hz => .inl hz, fun z hz => .inr hz, OM⟩
 ·rw [if_neg h1] at h
  by_cases h2 : b = o
  ·rw [if_pos h2] at h; cases h; subst h2
   exact ⟨fun z hz => .inl hz, fun z hz => .inr hz, fun z hz => .inl hz, OM⟩
  ·rw [if_neg h2] at h
   by_cases h3 : a = b
   ·rw [if_pos h3] at h; cases h; subst h3
    exact ⟨fun z hz => .inl hz, fun z hz => .inr hz, fun z hz => .inr hz, OM⟩
   ·rw [if_neg h3] at h; cases h
def mloop (o a b : List α) (f g : Nat → Option Nat) : Nat → Nat → Nat → Nat → Nat → Option (List α)
 | 0, _, i, j, k => pickL (o.drop i) (a.drop j) (b.drop k)
 | n + 1, at_, i, j, k => match f at_, g at_ with
  | some x, some y => (pickL (seg o i at_) (seg a j x) (seg b k y)).bind fun p => (mloop o a b f g n (at_ + 1) (at_ + 1) (x + 1) (y + 1)).map fun r => p ++ nth o (at_ : Int) :: r
  | _, _ => mloop o a b f g n (at_ + 1) i j k
theorem mloop_zero (o a b : List α) (f g : Nat → Option Nat) (t i j k : Nat) : mloop o a b f g 0 t i j k = pickL (o.drop i) (a.drop j) (b.drop k) := rfl
theorem mloop_some {o a b : List α} {f g : Nat → Option Nat} {n t i j k x y : Nat} (hf : f t = some x) (hg : g t = some y) : mloop o a b f g (n + 1) t i j k = (pickL (seg o i t) (seg a j x) (seg b k y)).bind fun p => (mloop o a b f g n (t + 1) (t + 1) (x + 1) (y + 1)).map fun r => p ++ nth o (t : Int) :: r := by
 rw [mloop, hf, hg]
theorem mloop_none {o a b : List α} {f g : Nat → Option Nat} {n t i j k : Nat} (h : f t = none ∨ g t = none) : mloop o a b f g (n + 1) t i j k = mloop o a b f g n (t + 1) i j k := by
 rw [mloop]
 rcases h with h | h
 ·rw [h]
 ·rw [h]; cases f t <;> rfl
structure Mates (o a : List α) (f : Nat → Option Nat) : Prop where
 lt : ∀ {t x}, f t = some x → t < o.length ∧ x < a.length
 eq : ∀ {t x}, f t = some x → nth o (t : Int) = nth a (x : Int)
 mono : ∀ {t x u y}, f t = some x → f u = some y → t < u → x < y
def From (f : Nat → Option Nat) (t j : Nat) : Prop := ∀ u x, t ≤ u → f u = some x → j ≤ x
theorem From.zero (f : Nat → Option Nat) (t : Nat) : From f t 0 := fun _ _ _ _ => Nat.zero_le _
theorem From.skip {f : Nat → Option Nat} {t j : Nat} (h : From f t j) : From f (t + 1) j := fun u x hu hx => h u x OM hx
theorem From.step {o a : List α} {f : Nat → Option Nat} (m : Mates o a f) {t x : Nat} (h : f t = some x) : From f (t + 1) (x + 1) := fun u y hu hy => m.mono h hy OM
theorem mem_seg {l : List α} {i j : Nat} {z : α} (h : z ∈ seg l i j) : z ∈ l := List.mem_of_mem_drop (List.mem_of_mem_take h)
theorem mem_split {l : List α} {i j : Nat} (hij : i ≤ j) (hj : j < l.length) {z : α} (h : z ∈ l.drop i) : z ∈ seg l i j ∨ z = nth l (j : Int) ∨ z ∈ l.drop (j + 1) := by
 rw [← seg_app l hij, drop_nth l hj] at h
 rcases List.mem_append.1 h with h | h
 ·exact .inl h
 ·rcases List.mem_cons.1 h with h | h
  ·exact .inr (.inl h)
  ·exact .inr (.inr h)
theorem mloop_keep {o a b : List α} {f g : Nat → Option Nat} (mf : Mates o a f) (mg : Mates o b g) (n t i j k : Nat) (hn : t + n = o.length) (hj : From f t j) (hk : From g t k) (r : List α) (h : mloop o a b f g n t i j k = some r) :
  (∀ z ∈ r, z ∈ a ∨ z ∈ b) ∧ (∀ z ∈ a.drop j, z ∈ o ∨ z ∈ r) ∧ (∀ z ∈ b.drop k, z ∈ o ∨ z ∈ r) ∧ r.length ≤ (a.drop j).length + (b.drop k).length := by
 induction n generalizing t i j k r with
 | zero =>
  rw [mloop_zero] at h
  obtain ⟨h1, h2, h3, h4⟩ := pickL_mem h
  exact ⟨fun z hz => (h1 z hz).imp List.mem_of_mem_drop List.mem_of_mem_drop, fun z hz => (h2 z hz).imp List.mem_of_mem_drop id, fun z hz => (h3 z hz).imp List.mem_of_mem_drop id, h4⟩
 | succ n ih =>
  cases hf : f t with
  | none => rw [mloop_none (.inl hf)] at h; exact ih _ _ _ _ OM hj.skip hk.skip _ h
  | some x => cases hg : g t with
   | none => rw [mloop_none (.inr hg)] at h; exact ih _ _ _ _ OM hj.skip hk.skip _ h
   | some y =>
    rw [mloop_some hf hg] at h
    cases hp : pickL (seg o i t) (seg a j x) (seg b k y) with
    | none => rw [hp] at h; cases h
    | some p =>
     rw [hp, Option.bind_some] at h
     cases hr : mloop o a b f g n (t + 1) (t + 1) (x + 1) (y + 1) with
     | none => rw [hr] at h; cases h
     | some q =>
      rw [hr, Option.map_some] at h; cases h
      obtain ⟨h1, h2, h3, h4⟩ := pickL_mem hp
      obtain ⟨g1, g2, g3, g4⟩ := ih _ _ _ _ OM (.step mf hf) (.step mg hg) _ hr
      have hjx := hj t x (Nat.le_refl _) hf
      have hky := hk t y (Nat.le_refl _) hg
      have hx := (mf.lt hf).2
      have hy := (mg.lt hg).2
      have ex := mf.eq hf
      have ey := mg.eq hg
      refine ⟨fun z hz => ?_, fun z hz => ?_, fun z hz => ?_, ?_⟩
      ·rcases List.mem_append.1 hz with hz | hz
       ·exact (h1 z hz).imp mem_seg mem_seg
       ·rcases List.mem_cons.1 hz with rfl | hz
        ·rw [ex]; exact .inl (nth_mem a hx)
        ·exact g1 z hz
      ·rcases mem_split hjx hx hz with hz | rfl | hz
       ·exact (h2 z hz).imp mem_seg (fun h => List.mem_append_left _ h)
       ·exact .inr (List.mem_append_right _ (by rw [ex]; exact List.mem_cons_self))
       ·exact (g2 z hz).imp id (fun h => List.mem_append_right _ (List.mem_cons_of_mem _ h))
      ·rcases mem_split hky hy hz with hz | rfl | hz
       ·exact (h3 z hz).imp mem_seg (fun h => List.mem_append_left _ h)
       ·exact .inr (List.mem_append_right _ (by rw [ey]; exact List.mem_cons_self))
       ·exact (g3 z hz).imp id (fun h => List.mem_append_right _ (List.mem_cons_of_mem _ h))
      ·rw [seg_len a _ _ OM, seg_len b _ _ OM] at h4
       simp only [List.length_append, List.length_cons, List.length_drop] at g4 ⊢
       omega
end
end
def few (a b : List Pt) : Bool := decide (a.length ≤ 12) && decide (b.length ≤ 12)
theorem few_iff {a b : List Pt} : few a b = true ↔ a.length ≤ 12 ∧ b.length ≤ 12 := by simp [few]
theorem few_not {a b : List Pt} : few a b = false ↔ ¬ (a.length ≤ 12 ∧ b.length ≤ 12) := by rw [← few_iff]; simp
def slen (a b : List Pt) : Int := if few a b then (lcs a b : Nat) else 0
def mkP (p : Nat × Nat) : Pair := ⟨p.1, p.2⟩
def spairs (a b : List Pt) : List Pair := if few a b then (pairs 0 0 a b).map mkP else []
theorem spairs_few {a b : List Pt} (h : few a b = true) : spairs a b = (pairs 0 0 a b).map mkP := by unfold spairs; rw [if_pos h]
theorem spairs_len (a b : List Pt) : ((spairs a b).length : Int) = slen a b := by
 unfold spairs slen
 by_cases h : few a b = true
 ·rw [if_pos h, if_pos h, List.length_map, pairs_len]
 ·rw [if_neg h, if_neg h]; rfl
theorem slen_le (a b : List Pt) : 0 ≤ slen a b ∧ slen a b ≤ a.length ∧ slen a b ≤ b.length ∧ slen a b ≤ 12 := by
 unfold slen
 by_cases h : few a b = true
 ·have := few_iff.1 h
  have h1 := lcs_le1 a b; have h2 := lcs_le2 a b
  rw [if_pos h]; omega
 ·rw [if_neg h]; omega
def RowOk (a b : List Pt) (i : Nat) (j : Nat) (xs : List Int) : Prop := xs.length = b.length + 1 ∧ ∀ m : Nat, j ≤ m → m ≤ b.length → nth xs (m : Int) = (lcs (a.drop i) (b.drop m) : Nat)
def Tab (a b : List Pt) (D : Nat → Nat → Prop) (t : List (List Int)) : Prop := t.length = a.length + 1 ∧ ∀ r : Nat, r ≤ a.length → (nth t (r : Int)).length = b.length + 1 ∧ ∀ m : Nat, m ≤ b.length → D r m → nth (nth t (r : Int)) (m : Int) = (lcs (a.drop r) (b.drop m) : Nat)
theorem Tab.set {a b : List Pt} {D : Nat → Nat → Prop} {t : List (List Int)} (h : Tab a b D t) {i j : Nat} (hi : i ≤ a.length) (hj : j ≤ b.length) {v : Int} (hv : v = (lcs (a.drop i) (b.drop j) : Nat)) {D' : Nat → Nat → Prop} (hD : ∀ r m, D' r m → D r m ∨ (r = i ∧ m = j)) :
  Tab a b D' (t.set i ((nth t (i : Int)).set j v)) := by
 obtain ⟨h1, h2⟩ := h
 refine ⟨by rw [List.length_set]; exact h1, fun r hr => ?_⟩
 rw [nth_set _ OM]
 by_cases e : r = i
 ·subst e
  rw [if_pos rfl]
  refine ⟨by rw [List.length_set]; exact (h2 r hr).1, fun m hm hd => ?_⟩
  rw [nth_set _ (by rw [(h2 r hr).1]; omega)]
  by_cases f : m = j
  ·subst f; rw [if_pos rfl, hv]
  ·rw [if_neg f]
   exact (h2 r hr).2 m hm ((hD r m hd).resolve_right fun x => f x.2)
 ·rw [if_neg e]
  exact ⟨(h2 r hr).1, fun m hm hd => (h2 r hr).2 m hm ((hD r m hd).resolve_right fun x => e x.1)⟩
def mateI (l : List Pair) (k : Int) : Int := match l with
 | [] => -1
 | p :: l => if p.A == k then p.B else mateI l k
theorem mateI_nil (k : Int) : mateI [] k = -1 := rfl
theorem mateI_cons (p : Pair) (l : List Pair) (k : Int) : mateI (p :: l) k = if p.A == k then p.B else mateI l k := rfl
def mateN (l : List (Nat × Nat)) (k : Nat) : Option Nat := match l with
 | [] => none
 | p :: l => if p.1 = k then some p.2 else mateN l k
theorem mateI_mk (l : List (Nat × Nat)) (k : Nat) : mateI (l.map mkP) (k : Int) = match mateN l k with | some x => (x : Int) | none => -1 := by
 induction l with
 | nil => rfl
 | cons p l ih =>
  rw [List.map_cons, mateI_cons, mateN]
  by_cases h : p.1 = k
  ·rw [if_pos (by simp [mkP, h]), if_pos h]; rfl
  ·rw [if_neg (by simp [mkP]; omega), if_neg h, ih]
theorem mateN_mem {l : List (Nat × Nat)} {k x : Nat} (h : mateN l k = some x) : (k, x) ∈ l := by
 induction l with
 | nil => cases h
 | cons p l ih =>
  rw [mateN] at h
  by_cases e : p.1 = k
  ·rw [if_pos e] at h; cases h; subst e; exact List.mem_cons_self
  ·rw [if_neg e] at h; exact List.mem_cons_of_mem _ (ih h)
def part (o a : List Pt) : Nat → Option Nat := mateN (pairs 0 0 o a)
theorem part_mates (o a : List Pt) : Mates o a (part o a) := by
 have hm : ∀ {t x}, part o a t = some x → ∃ z, o[t]? = some z ∧ a[x]? = some z := fun {t x} h => by
  obtain ⟨k, l, e, z, h1, h2⟩ := pairs_mem 0 0 o a _ (mateN_mem h)
  rw [Nat.zero_add, Nat.zero_add] at e; cases e
  exact ⟨z, h1, h2⟩
 refine ⟨fun {t x} h => ?_, fun {t x} h => ?_, fun {t x u y} h1 h2 hu => ?_⟩
 ·obtain ⟨z, h1, h2⟩ := hm h
  exact ⟨(List.getElem?_eq_some_iff.1 h1).1, (List.getElem?_eq_some_iff.1 h2).1⟩
 ·obtain ⟨z, h1, h2⟩ := hm h
  obtain ⟨e1, e2⟩ := List.getElem?_eq_some_iff.1 h1
  obtain ⟨e3, e4⟩ := List.getElem?_eq_some_iff.1 h2
  rw [nth_nat _ e1, nth_nat _ e3, e2, e4]
 ·have ho := pairs_ord 0 0 o a
  have m1 := mateN_mem h1; have m2 := mateN_mem h2
  generalize pairs 0 0 o a = l at ho m1 m2
  induction l with
  | nil => cases m1
  | cons p l ih =>
   obtain ⟨q1, q2⟩ := List.pairwise_cons.1 ho
   rcases List.mem_cons.1 m1 with e1 | n1
   ·rcases List.mem_cons.1 m2 with e2 | n2
    ·subst e1; cases e2; omega
    ·subst e1; exact (q1 _ n2).2
   ·rcases List.mem_cons.1 m2 with e2 | n2
    ·subst e2; have := (q1 _ n1).1; dsimp only at this; omega
    ·exact ih q2 n1 n2
def smerge (o a b : List Pt) : Option (List Pt) := if few o a && few o b then mloop o a b (part o a) (part o b) o.length 0 0 0 0 else none
theorem smerge_few {o a b : List Pt} (h1 : few o a = true) (h2 : few o b = true) : smerge o a b = mloop o a b (part o a) (part o b) o.length 0 0 0 0 := by unfold smerge; rw [h1, h2]; rfl
theorem smerge_not {o a b : List Pt} (h : few o a = false ∨ few o b = false) : smerge o a b = none := by
 unfold smerge; rcases h with h | h <;> rw [h] <;> simp
theorem smerge_keep {o a b r : List Pt} (h : smerge o a b = some r) : (∀ z ∈ r, z ∈ a ∨ z ∈ b) ∧ (∀ z ∈ a, z ∈ o ∨ z ∈ r) ∧ (∀ z ∈ b, z ∈ o ∨ z ∈ r) ∧ r.length ≤ a.length + b.length := by
 unfold smerge at h
 by_cases hf : (few o a && few o b) = true
 ·rw [if_pos hf] at h
  exact mloop_keep (part_mates o a) (part_mates o b) _ _ _ _ _ OM (From.zero _ _) (From.zero _ _) _ h
 ·rw [if_neg hf] at h; cases h
theorem smerge_len {o a b r : List Pt} (h : smerge o a b = some r) : r.length ≤ 24 := by
 have h1 := (smerge_keep h).2.2.2
 unfold smerge at h
 by_cases hf : (few o a && few o b) = true
 ·rw [Bool.and_eq_true, few_iff, few_iff] at hf; omega
 ·rw [if_neg hf] at h; cases h
def allN (n : Nat) (c : Nat → Bool) : Bool := (List.range n).all c
theorem allN_true {n : Nat} {c : Nat → Bool} (h : ∀ j, j < n → c j = true) : allN n c = true := by
 unfold allN; rw [List.all_eq_true]; intro j hj; exact h j (List.mem_range.1 hj)
theorem allN_false {n k : Nat} {c : Nat → Bool} (hk : k < n) (h : c k = false) : allN n c = false := by
 unfold allN
 rw [Bool.eq_false_iff]; intro ha
 rw [List.all_eq_true] at ha
 rw [ha k (List.mem_range.2 hk)] at h; cases h
theorem allN_iff {n : Nat} {c : Nat → Bool} : allN n c = true ↔ ∀ j, j < n → c j = true := by
 unfold allN; rw [List.all_eq_true]; exact ⟨fun h j hj => h j (List.mem_range.2 hj), fun h j hj => h j (List.mem_range.1 hj)⟩
theorem loop_all (n : Nat) (c : Nat → Bool) {B : (Int → Prop) → (Int → Nat) → Int → Prop} {F : Prop}
  (hs : ∀ (I : Int → Prop) (mu : Int → Nat) (k : Nat), k < n → (∀ j, j < k → c j = true) → (c k = true → I ((k : Int) + 1) ∧ mu ((k : Int) + 1) < mu (k : Int)) → B I mu (k : Int))
  (hF : (∀ j, j < n → c j = true) → F) :
  ∃ (I : Int → Prop) (mu : Int → Nat), I 0 ∧ ∀ (i : Int), I i → (if decide (i < (n : Int)) then B I mu i else F) := by
 refine ⟨fun i => ∃ k : Nat, i = k ∧ k ≤ n ∧ ∀ j, j < k → c j = true, fun i => ((n : Int) - i).toNat, ⟨0, rfl, Nat.zero_le _, fun j hj => absurd hj (Nat.not_lt_zero _)⟩, ?_⟩
 rintro _ ⟨k, rfl, hk, ha⟩
 by_cases h : (k : Int) < (n : Int)
 ·rw [if_pos (by simpa using h)]
  refine hs _ _ k OM ha fun hc => ⟨⟨k + 1, OM, OM, fun j hj => ?_⟩, OM⟩
  by_cases e : j = k
  ·subst e; exact hc
  ·exact ha j OM
 ·rw [if_neg (by simpa using h)]
  exact hF fun j hj => ha j OM
theorem less_irr : ∀ a : Str, Op.bytesLess a a = false
 | [] => rfl
 | x :: a => by rw [Op.bytesLess]; simp [less_irr a]
theorem less_tri : ∀ a b : Str, (!(Op.bytesLess a b)) = (Op.bytesLess b a || b == a)
 | [], [] => rfl
 | [], y :: b => rfl
 | x :: a, [] => rfl
 | x :: a, y :: b => by
  rw [Op.bytesLess, Op.bytesLess]
  have h := less_tri a b
  by_cases h1 : x < y
  ·have h2 : ¬ y < x := fun h => absurd (UInt8.lt_trans h1 h) (UInt8.lt_irrefl _)
   have h3 : ¬ y = x := fun e => by subst e; exact UInt8.lt_irrefl _ h1
   simp [h1, h2, h3]
  ·by_cases h2 : y < x
   ·have h3 : ¬ x = y := fun e => by subst e; exact UInt8.lt_irrefl _ h2
    simp [h1, h2, h3]
   ·have h3 : x = y := UInt8.le_antisymm (UInt8.not_lt.1 h2) (UInt8.not_lt.1 h1)
    subst h3
    simp only [h1, decide_false, Bool.false_or, beq_self_eq_true, Bool.true_and]
    rw [h]
    congr 1
    rw [Bool.eq_iff_iff, beq_iff_eq, beq_iff_eq]
    simp
def byteOk (b : UInt8) : Bool := !(decide ((b.toNat : Int) < 97)) && !(decide ((b.toNat : Int) > 122))
def wordOk (s : Str) : Bool := allN s.length (fun k => byteOk (nth s (k : Int))) && (decide (1 ≤ s.length) && decide (s.length ≤ 6))
def inR (x : Int) : Bool := decide (-1000 ≤ x) && decide (x ≤ 1000)
def ptOk (p : Pt) : Bool := inR p.X && inR p.Y
def ptsOk (p : List Pt) : Bool := allN p.length fun k => ptOk (nth p (k : Int)) && (decide (k = 0) || !(decide (nth p ((k : Int) - 1) = nth p (k : Int))))
def kindOk (kind : Int) (p : List Pt) : Bool :=
 if kind = 1 then decide (p.length = 1) else if kind = 2 then decide (2 ≤ p.length) && decide (p.length ≤ 6)
 else if kind = 3 then decide (3 ≤ p.length) && decide (p.length ≤ 6) && !(decide (nth p 0 = nth p ((p.length : Int) - 1))) else false
def shapeOk (s : Shape) : Bool := ptsOk s.Pts && kindOk s.Kind s.Pts
def tagsOk (t : List Tag) : Bool := allN t.length fun k => wordOk (nth t (k : Int)).Key && wordOk (nth t (k : Int)).Val && (decide (k = 0) || Op.bytesLess (nth t ((k : Int) - 1)).Key (nth t (k : Int)).Key)
def featOk (f : Feat) : Bool := tagsOk f.Tags && decide (f.Tags.length ≤ 4) && wordOk f.Id && shapeOk f.Shape
def noF (f : Feat) : Bool := decide (f = ⟨[], ⟨0, []⟩, []⟩)
def sideOk (id : Str) (has : Bool) (f : Feat) : Bool := if has then featOk f && decide (f.Id = id) else noF f
def sameC (c : Change) : Bool := decide (c.Had = c.Has) && decide (c.Was = c.Now)
def changeOk (c : Change) : Bool := wordOk c.Id && sideOk c.Id c.Had c.Was && sideOk c.Id c.Has c.Now && !(sameC c)
def sheetOk (s : List Feat) : Bool := allN s.length (fun k => featOk (nth s (k : Int)) && (decide (k = 0) || Op.bytesLess (nth s ((k : Int) - 1)).Id (nth s (k : Int)).Id)) && decide (s.length ≤ 8)
theorem Feat.ext_iff' (a b : Feat) : a = b ↔ a.Id = b.Id ∧ a.Shape = b.Shape ∧ a.Tags = b.Tags := by cases a; cases b; simp
theorem Shape.ext_iff' (a b : Shape) : a = b ↔ a.Kind = b.Kind ∧ a.Pts = b.Pts := by cases a; cases b; simp
section
def findN (n : Nat) (c : Nat → Bool) : Int := match (List.range n).find? c with | some k => (k : Int) | none => -1
theorem findN_hit {n k : Nat} {c : Nat → Bool} (hk : k < n) (h : c k = true) (hp : ∀ j, j < k → c j = false) : findN n c = (k : Int) := by
 unfold findN
 have : (List.range n).find? c = some k := by
  rw [List.find?_range_eq_some]
  exact ⟨h, List.mem_range.2 hk, fun j hj => by rw [hp j hj]; rfl⟩
 rw [this]
theorem findN_none {n : Nat} {c : Nat → Bool} (h : ∀ j, j < n → c j = false) : findN n c = -1 := by
 unfold findN
 have : (List.range n).find? c = none := by
  rw [List.find?_eq_none]; intro j hj; rw [h j (List.mem_range.1 hj)]; exact Bool.false_ne_true
 rw [this]
theorem findN_le (n : Nat) (c : Nat → Bool) : -1 ≤ findN n c ∧ findN n c < n := by
 unfold findN
 cases h : (List.range n).find? c with
 | none => exact ⟨Int.le_refl _, by dsimp only; omega⟩
 | some k => have := List.mem_range.1 (List.mem_of_find?_eq_some h); exact ⟨by dsimp only; omega, by dsimp only; omega⟩
theorem loop_find (n : Nat) (c : Nat → Bool) {B : (Int → Prop) → (Int → Nat) → Int → Prop} {Q : Int → Prop} (hq : Q (findN n c))
  (hs : ∀ (I : Int → Prop) (mu : Int → Nat) (k : Nat), k < n → (c k = true → Q (k : Int)) → (c k = false → I ((k : Int) + 1) ∧ mu ((k : Int) + 1) < mu (k : Int)) → B I mu (k : Int)) :
  ∃ (I : Int → Prop) (mu : Int → Nat), I 0 ∧ ∀ (i : Int), I i → (if decide (i < (n : Int)) then B I mu i else Q (-1)) := by
 refine loop_all n (fun k => !(c k)) (fun I mu k hk hp hn => hs I mu k hk (fun h => ?_) (fun h => hn (by rw [h]; rfl))) (fun ha => ?_)
 ·rw [findN_hit hk h (fun j hj => by have := hp j hj; rwa [Bool.not_eq_true'] at this)] at hq; exact hq
 ·rw [findN_none (fun j hj => by have := ha j hj; rwa [Bool.not_eq_true'] at this)] at hq; exact hq
section
variable {α : Type} [Inhabited α] [DecidableEq α]
theorem list_eq_iff (a b : List α) (h : a.length = b.length) : a = b ↔ ∀ k, k < a.length → nth a (k : Int) = nth b (k : Int) := ⟨fun e k _ => by rw [e], ext_nth h⟩
theorem eqF_shape (a b : List α) (el : α → α → Bool) (ok : α → α → Prop) (hok : ∀ x y, x ∈ a → ok x y) (hel : ∀ x y, x ∈ a → el x y = decide (x = y)) (hb : a.length ≤ 1048576) (Q : Bool → Prop) (hq : Q (decide (a = b))) :
  (if (a.length : Int) != (b.length : Int) then Q false else (∃ (I36 : Int → Prop) (mu37 : Int → Nat), I36 0 ∧ ∀ (v2 : Int), I36 v2 → (if decide (v2 < (a.length : Int)) then ((0 : Int) ≤ v2 ∧ v2 < (a.length : Int)) ∧ ((0 : Int) ≤ v2 ∧ v2 < (b.length : Int)) ∧ (ok (nth a v2) (nth b v2)) ∧ (if !(el (nth a v2) (nth b v2)) then Q false else (I64 (v2 + 1)) ∧ I36 (v2 + 1) ∧ mu37 (v2 + 1) < mu37 v2) else Q true))) := by
 by_cases hl : a.length = b.length
 ·rw [if_neg (by simp [hl])]
  refine loop_all a.length (fun k => decide (nth a (k : Int) = nth b (k : Int))) (fun I mu k hk hp hn => ?_) (fun ha => ?_)
  ·refine ⟨OM, OM, hok _ _ (nth_mem a hk), ?_⟩
   rw [hel _ _ (nth_mem a hk)]
   by_cases h : nth a (k : Int) = nth b (k : Int)
   ·rw [decide_eq_true h, if_neg RD]
    obtain ⟨i1, i2⟩ := hn (decide_eq_true h)
    exact ⟨by unfold I64; omega, i1, i2⟩
   ·rw [decide_eq_false h, if_pos RD]
    rw [decide_eq_false (by rw [list_eq_iff a b hl]; exact fun g => h (g k hk))] at hq; exact hq
  ·rw [decide_eq_true ((list_eq_iff a b hl).2 fun k hk => of_decide_eq_true (ha k hk))] at hq; exact hq
 ·rw [if_pos (by rw [bne_iff_ne]; omega)]
  rw [decide_eq_false (fun e => hl (by rw [e]))] at hq; exact hq
end
end
section
theorem less_trans : ∀ {a b c : Str}, Op.bytesLess a b = true → Op.bytesLess b c = true → Op.bytesLess a c = true
 | _, _, [], _, h => by rename_i b _; cases b <;> simp [Op.bytesLess] at h
 | _, [], _ :: _, h, _ => by rename_i a _ _ _; cases a <;> simp [Op.bytesLess] at h
 | [], _ :: _, _ :: _, _, _ => by simp [Op.bytesLess]
 | x :: a, y :: b, z :: c, h1, h2 => by
  rw [Op.bytesLess] at h1 h2 ⊢
  simp only [Bool.or_eq_true, Bool.and_eq_true, decide_eq_true_eq, beq_iff_eq] at h1 h2 ⊢
  rcases h1 with h1 | ⟨rfl, h1⟩
  ·rcases h2 with h2 | ⟨rfl, h2⟩
   ·exact .inl (UInt8.lt_trans h1 h2)
   ·exact .inl h1
  ·rcases h2 with h2 | ⟨rfl, h2⟩
   ·exact .inl h2
   ·exact .inr ⟨rfl, less_trans h1 h2⟩
theorem less_asym {a b : Str} (h : Op.bytesLess a b = true) : Op.bytesLess b a = false := by
 cases e : Op.bytesLess b a with
 | false => rfl
 | true => have := less_trans h e; rw [less_irr] at this; cases this
theorem less_or {a b : Str} (h : Op.bytesLess a b = false) : Op.bytesLess b a = true ∨ b = a := by
 have := less_tri a b
 rw [h] at this
 simpa using this.symm
def SS (l : List Str) : Prop := l.Pairwise fun x y => Op.bytesLess x y = true
theorem SS.ext : ∀ {l m : List Str}, SS l → SS m → (∀ x, x ∈ l ↔ x ∈ m) → l = m
 | [], [], _, _, _ => rfl
 | [], y :: m, _, _, h => by have := (h y).2 List.mem_cons_self; cases this
 | x :: l, [], _, _, h => by have := (h x).1 List.mem_cons_self; cases this
 | x :: l, y :: m, hl, hm, h => by
  obtain ⟨l1, l2⟩ := List.pairwise_cons.1 hl
  obtain ⟨m1, m2⟩ := List.pairwise_cons.1 hm
  have e : x = y := by
   rcases List.mem_cons.1 ((h x).1 List.mem_cons_self) with e | e
   ·exact e
   ·rcases List.mem_cons.1 ((h y).2 List.mem_cons_self) with e' | e'
    ·exact e'.symm
    ·have := less_trans (m1 x e) (l1 y e'); rw [less_irr] at this; cases this
  subst e
  rw [SS.ext l2 m2 fun z => ⟨fun hz => ?_, fun hz => ?_⟩]
  ·rcases List.mem_cons.1 ((h z).1 (List.mem_cons_of_mem _ hz)) with e | e
   ·subst e; have := l1 z hz; rw [less_irr] at this; cases this
   ·exact e
  ·rcases List.mem_cons.1 ((h z).2 (List.mem_cons_of_mem _ hz)) with e | e
   ·subst e; have := m1 z hz; rw [less_irr] at this; cases this
   ·exact e
theorem le_less (x y : Str) : decide (x ≤ y) = !(Op.bytesLess y x) := by
 rw [bytesLess_eq]
 by_cases h : y < x
 ·rw [decide_eq_true h, decide_eq_false (by rw [List.not_le]; exact h)]; rfl
 ·rw [decide_eq_false h, decide_eq_true (List.not_lt.1 h)]; rfl
theorem sortS_le (l : List Str) : (sortS l).Pairwise fun x y => Op.bytesLess y x = false := by
 have h := List.pairwise_mergeSort (le := fun x y : Str => decide (x ≤ y)) (fun a b c h1 h2 => by
  rw [le_less, Bool.not_eq_true'] at h1 h2 ⊢
  cases e : Op.bytesLess c a with
  | false => rfl
  | true =>
   rcases less_or h1 with h3 | h3
   ·have := less_trans e h3; rw [h2] at this; cases this
   ·subst h3; rw [h2] at e; cases e) (fun a b => by
  rw [le_less, le_less]
  cases e : Op.bytesLess b a with
  | false => rfl
  | true => rw [less_asym e]; rfl) l
 exact h.imp fun {x y} h => by rw [le_less, Bool.not_eq_true'] at h; exact h
theorem sortS_mem {l : List Str} {x : Str} : x ∈ sortS l ↔ x ∈ l := List.mem_mergeSort
section
open Go.Lib
theorem compact_of (l : List Str) (h : l.Pairwise fun x y => Op.bytesLess y x = false) : SS (compact l) ∧ ∀ x, x ∈ compact l ↔ x ∈ l := by
 have hle : ∀ i j, i ≤ j → j < l.length → Op.bytesLess (l.toArray[j]!) (l.toArray[i]!) = false := fun i j hij hj => by
  have hi : i < l.length := by omega
  simp only [List.getElem!_toArray, getElem!_pos l i hi, getElem!_pos l j hj]
  rcases Nat.lt_or_eq_of_le hij with hlt | rfl
  ·exact List.pairwise_iff_getElem.1 h i j hi hj hlt
  ·exact less_irr _
 constructor
 ·unfold compact compactUpTo SS
  rw [List.pairwise_map, List.pairwise_filter]
  refine List.pairwise_iff_getElem.2 fun i j hi hj hij => ?_
  simp only [List.length_range] at hi hj
  simp only [List.getElem_range]
  intro _ hk
  have hj0 : 0 < j := by omega
  have hne : l.toArray[j]! ≠ l.toArray[j - 1]! := fun e => by rw [keeps_neg hj0 e] at hk; cases hk
  have h1 : Op.bytesLess (l.toArray[j - 1]!) (l.toArray[j]!) = true := by
   rcases less_or (hle (j - 1) j OM hj) with h2 | h2
   ·exact h2
   ·exact absurd h2.symm hne
  rcases less_or (hle i (j - 1) OM OM) with h3 | h3
  ·exact less_trans h3 h1
  ·rw [h3]; exact h1
 ·intro x
  constructor
  ·exact compact_mem
  ·intro hx
   obtain ⟨k, hk, rfl⟩ := List.getElem_of_mem hx
   have key : ∀ k, k < l.length → l.toArray[k]! ∈ compact l := by
    intro k
    induction k using Nat.strongRecOn with
    | _ k ih =>
     intro hk
     cases e : keeps l.toArray k with
     | true =>
      unfold compact compactUpTo
      exact List.mem_map.2 ⟨k, List.mem_filter.2 ⟨List.mem_range.2 hk, e⟩, rfl⟩
     | false =>
      have hk0 : 0 < k := by
       rcases Nat.eq_zero_or_pos k with h0 | h0
       ·subst h0; rw [keeps_lt_one _ 0 OM] at e; cases e
       ·exact h0
      have he : l.toArray[k]! = l.toArray[k - 1]! := Classical.byContradiction fun hne => by rw [keeps_pos hne] at e; cases e
      rw [he]; exact ih (k - 1) OM OM
   have := key k hk
   simpa [getElem!_pos l k hk] using this
end
def uniq (l : List Str) : List Str := Lib.compact (sortS l)
theorem uniq_ss (l : List Str) : SS (uniq l) := (compact_of _ (sortS_le l)).1
theorem uniq_mem {l : List Str} {x : Str} : x ∈ uniq l ↔ x ∈ l := ((compact_of _ (sortS_le l)).2 x).trans sortS_mem
def ids (s : List Feat) : List Str := s.map (·.Id)
theorem ids_app (s t : List Feat) : ids (s ++ t) = ids s ++ ids t := List.map_append
theorem sheet_ss {s : List Feat} (h : sheetOk s = true) : SS (ids s) ∧ s.length ≤ 8 ∧ ∀ f ∈ s, featOk f = true := by
 unfold sheetOk at h
 simp only [Bool.and_eq_true, decide_eq_true_eq] at h
 obtain ⟨h1, h2⟩ := h
 have h1 := allN_iff.1 h1
 have hadj : ∀ k, 0 < k → k < s.length → Op.bytesLess (nth s ((k : Int) - 1)).Id (nth s (k : Int)).Id = true := fun k h0 hk => by
  have := h1 k hk
  simp only [Bool.and_eq_true, Bool.or_eq_true, decide_eq_true_eq] at this
  rcases this.2 with h | h
  ·omega
  ·exact h
 refine ⟨?_, h2, fun f hf => ?_⟩
 ·unfold SS ids
  rw [List.pairwise_map]
  refine List.pairwise_iff_getElem.2 fun i j hi hj hij => ?_
  have key : ∀ d, i + d + 1 < s.length → Op.bytesLess s[i].Id (nth s ((i + d + 1 : Nat) : Int)).Id = true := by
   intro d
   induction d with
   | zero =>
    intro hd
    have := hadj (i + 0 + 1) OM hd
    rw [show (((i + 0 + 1 : Nat) : Int) - 1) = (i : Int) by omega, nth_nat s hi] at this
    exact this
   | succ d ih =>
    intro hd
    have := hadj (i + (d + 1) + 1) OM hd
    rw [show (((i + (d + 1) + 1 : Nat) : Int) - 1) = ((i + d + 1 : Nat) : Int) by omega] at this
    exact less_trans (ih OM) this
  have := key (j - i - 1) OM
  rw [show i + (j - i - 1) + 1 = j by omega, nth_nat s hj] at this
  exact this
 ·obtain ⟨k, hk, rfl⟩ := List.getElem_of_mem hf
  have := h1 k hk
  rw [nth_nat s hk] at this
  simp only [Bool.and_eq_true] at this
  exact this.1
theorem word_len {s : Str} (h : wordOk s = true) : s.length ≤ 6 := by
 unfold wordOk at h
 simp only [Bool.and_eq_true, decide_eq_true_eq] at h
 exact h.2.2
theorem bulk_small {α : Type} [Bulk α] (l : List α) (m : Nat) (h : ∀ x ∈ l, bulk x ≤ m) : bulk l ≤ l.length * (m + 1) := by
 induction l with
 | nil => exact Nat.zero_le _
 | cons x l ih =>
  have h1 := h x List.mem_cons_self
  have h2 := ih fun y hy => h y (List.mem_cons_of_mem _ hy)
  rw [bulk_cons, List.length_cons, Nat.add_mul]
  omega
theorem feat_small {f : Feat} (h : featOk f = true) : bulk f ≤ 100 ∧ f.Id.length ≤ 6 := by
 unfold featOk at h
 simp only [Bool.and_eq_true, decide_eq_true_eq] at h
 obtain ⟨⟨⟨h1, h2⟩, h3⟩, h4⟩ := h
 have hi := word_len h3
 have e1 : bulk f = bulk f.Id + (bulk f.Shape.Kind + bulk f.Shape.Pts) + bulk f.Tags := rfl
 have e2 : bulk f.Id = f.Id.length := bulk_str _
 have e3 : bulk f.Shape.Kind = 0 := rfl
 have e4 : bulk f.Shape.Pts = f.Shape.Pts.length := bulk_flat (fun _ => rfl) _
 have ht : bulk f.Tags ≤ f.Tags.length * (12 + 1) := bulk_small _ 12 fun t hm => by
  unfold tagsOk at h1
  obtain ⟨k, hk, rfl⟩ := List.getElem_of_mem hm
  have := allN_iff.1 h1 k hk
  rw [nth_nat _ hk] at this
  simp only [Bool.and_eq_true] at this
  have a1 := word_len this.1.1
  have a2 := word_len this.1.2
  have b0 : bulk f.Tags[k] = bulk f.Tags[k].Key + bulk f.Tags[k].Val := rfl
  have b1 : bulk f.Tags[k].Key = f.Tags[k].Key.length := bulk_str _
  have b2 : bulk f.Tags[k].Val = f.Tags[k].Val.length := bulk_str _
  omega
 have hp : f.Shape.Pts.length ≤ 6 := by
  unfold shapeOk kindOk at h4
  simp only [Bool.and_eq_true] at h4
  have := h4.2
  split at this
  ·simp only [decide_eq_true_eq] at this; omega
  ·split at this
   ·simp only [Bool.and_eq_true, decide_eq_true_eq] at this; omega
   ·split at this
    ·simp only [Bool.and_eq_true, decide_eq_true_eq] at this; omega
    ·cases this
 have : f.Tags.length * (12 + 1) ≤ 52 := by omega
 omega
def zeroF : Feat := ⟨[], ⟨0, []⟩, []⟩
def sideOf (s : List Feat) (id : Str) : Feat × Bool :=
 if findN s.length (fun j => (nth s (j : Int)).Id == id) < 0 then (zeroF, false) else (nth s (findN s.length fun j => (nth s (j : Int)).Id == id), true)
theorem uniq_len (l : List Str) : (uniq l).length ≤ l.length := by
 unfold uniq
 have := compact_le (sortS l)
 have h2 : (sortS l).length = l.length := List.length_mergeSort _
 omega
end
theorem mate_part {o a : List Pt} (h : few o a = true) (t : Nat) : mateI (spairs o a) (t : Int) = match part o a t with | some x => (x : Int) | none => -1 := by
 rw [spairs_few h, mateI_mk]; rfl
structure MInv (o a b : List Pt) (xs : List Pt) (i j k t : Nat) : Prop where
 hi : i ≤ t
 ht : t ≤ o.length
 hj : j ≤ a.length
 hk : k ≤ b.length
 fj : From (part o a) t j
 fk : From (part o b) t k
 len : xs.length ≤ j + k
 eq : (mloop o a b (part o a) (part o b) (o.length - t) t i j k).map (xs ++ ·) = smerge o a b
theorem MInv.zero {o a b : List Pt} (h1 : few o a = true) (h2 : few o b = true) : MInv o a b [] 0 0 0 0 :=
 ⟨Nat.le_refl _, Nat.zero_le _, Nat.zero_le _, Nat.zero_le _, From.zero _ _, From.zero _ _, Nat.le_refl _, by rw [smerge_few h1 h2, Nat.sub_zero]; cases mloop o a b (part o a) (part o b) o.length 0 0 0 0 <;> rfl⟩
theorem MInv.skip {o a b xs : List Pt} {i j k t : Nat} (h : MInv o a b xs i j k t) (ht : t < o.length) (hn : part o a t = none ∨ part o b t = none) : MInv o a b xs i j k (t + 1) :=
 ⟨by have := h.hi; omega, ht, h.hj, h.hk, h.fj.skip, h.fk.skip, h.len, by
  have := h.eq
  rw [show o.length - t = (o.length - (t + 1)) + 1 by omega, mloop_none hn] at this
  exact this⟩
theorem MInv.step {o a b xs : List Pt} {i j k t x y : Nat} (h : MInv o a b xs i j k t) (ht : t < o.length) (hx : part o a t = some x) (hy : part o b t = some y) {p : List Pt} (hp : pickL (seg o i t) (seg a j x) (seg b k y) = some p) : MInv o a b (xs ++ p ++ [nth o (t : Int)]) (t + 1) (x + 1) (y + 1) (t + 1) := by
 have h1 := (part_mates o a).lt hx
 have h2 := (part_mates o b).lt hy
 refine ⟨Nat.le_refl _, ht, h1.2, h2.2, .step (part_mates o a) hx, .step (part_mates o b) hy, ?_, ?_⟩
 ·have := (pickL_mem hp).2.2.2
  rw [seg_len a _ _ OM, seg_len b _ _ OM] at this
  have h3 := h.fj t x (Nat.le_refl _) hx
  have h4 := h.fk t y (Nat.le_refl _) hy
  have h5 := h.len
  simp only [List.length_append, List.length_singleton]; omega
 ·have := h.eq
  rw [show o.length - t = (o.length - (t + 1)) + 1 by omega, mloop_some hx hy, hp, Option.bind_some, Option.map_map] at this
  rw [← this]
  congr 1
  funext r
  simp
theorem MInv.stop {o a b xs : List Pt} {i j k t x y : Nat} (h : MInv o a b xs i j k t) (ht : t < o.length) (hx : part o a t = some x) (hy : part o b t = some y) (hp : pickL (seg o i t) (seg a j x) (seg b k y) = none) : smerge o a b = none := by
 have := h.eq
 rw [show o.length - t = (o.length - (t + 1)) + 1 by omega, mloop_some hx hy, hp] at this
 exact this.symm
theorem MInv.last {o a b xs : List Pt} {i j k : Nat} (h : MInv o a b xs i j k o.length) : (pickL (o.drop i) (a.drop j) (b.drop k)).map (xs ++ ·) = smerge o a b := by
 have := h.eq
 rw [Nat.sub_self, mloop_zero] at this
 exact this
theorem MInv.from {o a b xs : List Pt} {i j k t x y : Nat} (h : MInv o a b xs i j k t) (hx : part o a t = some x) (hy : part o b t = some y) : j ≤ x ∧ x < a.length ∧ k ≤ y ∧ y < b.length :=
 ⟨h.fj t x (Nat.le_refl _) hx, ((part_mates o a).lt hx).2, h.fk t y (Nat.le_refl _) hy, ((part_mates o b).lt hy).2⟩
def keysT (t : List Tag) : List Str := t.map (·.Key)
theorem keys_app (s t : List Tag) : keysT (s ++ t) = keysT s ++ keysT t := List.map_append
def valT (t : List Tag) (key : Str) : value :=
 if findN t.length (fun j => (nth t (j : Int)).Key == key) < 0 then ⟨false, []⟩ else ⟨true, (nth t (findN t.length fun j => (nth t (j : Int)).Key == key)).Val⟩
theorem valT_no (t : List Tag) (key : Str) (h : (valT t key).has = false) : valT t key = ⟨false, []⟩ := by
 unfold valT at h ⊢
 split
 ·rfl
 ·rename_i h1; rw [if_neg h1] at h; cases h
def three {α : Type} [DecidableEq α] (o a b : α) : α × Bool := if a = o then (b, true) else if b = o then (a, true) else if a = b then (a, true) else (a, false)
def tagF (o a b : value) : value × Bool := if (three o a b).2 then three o a b else (if a.has then a else b, false)
def tagS : Str := [116, 97, 103, 32]
def tagK (o a b : List Tag) (k : Str) : value × Bool := tagF (valT o k) (valT a k) (valT b k)
def clashL (o a b : List Tag) (ks : List Str) : List Str := (ks.filter fun k => !(tagK o a b k).2).map fun k => tagS ++ k
def tagsL (o a b : List Tag) (ks : List Str) : List Tag := (ks.filter fun k => (tagK o a b k).1.has).map fun k => ⟨k, (tagK o a b k).1.val⟩
theorem clashL_snoc (o a b : List Tag) (ks : List Str) (k : Str) : clashL o a b (ks ++ [k]) = clashL o a b ks ++ (if (tagK o a b k).2 then [] else [tagS ++ k]) := by
 unfold clashL
 rw [List.filter_append, List.map_append]
 congr 1
 cases h : (tagK o a b k).2 <;> simp [h]
theorem tagsL_snoc (o a b : List Tag) (ks : List Str) (k : Str) : tagsL o a b (ks ++ [k]) = tagsL o a b ks ++ (if (tagK o a b k).1.has then [⟨k, (tagK o a b k).1.val⟩] else []) := by
 unfold tagsL
 rw [List.filter_append, List.map_append]
 congr 1
 cases h : (tagK o a b k).1.has <;> simp [h]
theorem clashL_len (o a b : List Tag) (ks : List Str) : (clashL o a b ks).length ≤ ks.length := by
 unfold clashL; rw [List.length_map]; exact List.length_filter_le _ _
theorem tagsL_len (o a b : List Tag) (ks : List Str) : (tagsL o a b ks).length ≤ ks.length := by
 unfold tagsL; rw [List.length_map]; exact List.length_filter_le _ _
def shapeF (o a b : Shape) : Shape × Bool :=
 if (three o a b).2 then three o a b
 else if a.Kind = o.Kind ∧ b.Kind = o.Kind then
  match smerge o.Pts a.Pts b.Pts with
  | some p => if shapeOk ⟨a.Kind, p⟩ then (⟨a.Kind, p⟩, true) else (a, false)
  | none => (a, false)
 else (a, false)
def allKeys (o a b : Feat) : List Str := uniq (keysT (o.Tags ++ a.Tags ++ b.Tags))
def shapeS : Str := [115, 104, 97, 112, 101]
def joinF (o a b : Feat) : Feat := ⟨a.Id, (shapeF o.Shape a.Shape b.Shape).1, tagsL o.Tags a.Tags b.Tags (allKeys o a b)⟩
def joinW (o a b : Feat) : List Str := (if (shapeF o.Shape a.Shape b.Shape).2 then [] else [shapeS]) ++ clashL o.Tags a.Tags b.Tags (allKeys o a b)
def joinOf (o a b : Feat) : Feat × List Str := if featOk (joinF o a b) then (joinF o a b, joinW o a b) else (a, [[109, 117, 99, 104]])
def featJoin (o a b : Feat) : Feat × List Str := if featOk o && featOk a && featOk b && decide (o.Id = a.Id) && decide (o.Id = b.Id) then joinOf o a b else (zeroF, [])
theorem feat_facts {f : Feat} (h : featOk f = true) : f.Tags.length ≤ 4 ∧ shapeOk f.Shape = true ∧ f.Shape.Pts.length ≤ 6 ∧ f.Id.length ≤ 6 ∧ ∀ t ∈ f.Tags, t.Key.length ≤ 6 ∧ t.Val.length ≤ 6 := by
 have hb := (feat_small h).2
 unfold featOk at h
 simp only [Bool.and_eq_true, decide_eq_true_eq] at h
 obtain ⟨⟨⟨h1, h2⟩, h3⟩, h4⟩ := h
 refine ⟨h2, h4, ?_, hb, fun t hm => ?_⟩
 ·unfold shapeOk kindOk at h4
  simp only [Bool.and_eq_true] at h4
  have := h4.2
  split at this
  ·simp only [decide_eq_true_eq] at this; omega
  ·split at this
   ·simp only [Bool.and_eq_true, decide_eq_true_eq] at this; omega
   ·split at this
    ·simp only [Bool.and_eq_true, decide_eq_true_eq] at this; omega
    ·cases this
 ·unfold tagsOk at h1
  obtain ⟨k, hk, rfl⟩ := List.getElem_of_mem hm
  have := allN_iff.1 h1 k hk
  rw [nth_nat _ hk] at this
  simp only [Bool.and_eq_true] at this
  exact ⟨word_len this.1.1, word_len this.1.2⟩
theorem shape_pts {s : Shape} (h : shapeOk s = true) : s.Pts.length ≤ 6 := by
 unfold shapeOk kindOk at h
 simp only [Bool.and_eq_true] at h
 have := h.2
 split at this
 ·simp only [decide_eq_true_eq] at this; omega
 ·split at this
  ·simp only [Bool.and_eq_true, decide_eq_true_eq] at this; omega
  ·split at this
   ·simp only [Bool.and_eq_true, decide_eq_true_eq] at this; omega
   ·cases this
theorem three_in {α : Type} [DecidableEq α] (o a b : α) : (three o a b).1 = a ∨ (three o a b).1 = b := by
 unfold three
 split
 ·exact .inr rfl
 ·split
  ·exact .inl rfl
  ·split <;> exact .inl rfl
theorem shapeF_pts {o a b : Shape} (ha : a.Pts.length ≤ 6) (hb : b.Pts.length ≤ 6) : (shapeF o a b).1.Pts.length ≤ 6 := by
 unfold shapeF
 split
 ·rcases three_in o a b with h | h <;> rw [h] <;> assumption
 ·split
  ·split
   ·split
    ·rename_i h; exact shape_pts h
    ·exact ha
   ·exact ha
  ·exact ha
theorem valT_len {t : List Tag} (h : ∀ x ∈ t, x.Val.length ≤ 6) (k : Str) : (valT t k).val.length ≤ 6 := by
 unfold valT
 split
 ·exact Nat.zero_le _
 ·have h1 := findN_le t.length fun j => (nth t (j : Int)).Key == k
  exact h _ (nth_memi t OM h1.2)
theorem tagF_in (o a b : value) : (tagF o a b).1 = a ∨ (tagF o a b).1 = b := by
 unfold tagF
 split
 ·exact three_in o a b
 ·split
  ·exact .inl rfl
  ·exact .inr rfl
theorem allKeys_len (o a b : Feat) : (allKeys o a b).length ≤ o.Tags.length + a.Tags.length + b.Tags.length := by
 have h := uniq_len (keysT (o.Tags ++ a.Tags ++ b.Tags))
 have e : (keysT (o.Tags ++ a.Tags ++ b.Tags)).length = o.Tags.length + a.Tags.length + b.Tags.length := by unfold keysT; simp; omega
 unfold allKeys; omega
theorem allKeys_small {o a b : Feat} (ho : featOk o = true) (ha : featOk a = true) (hb : featOk b = true) : (allKeys o a b).length ≤ 12 ∧ ∀ k ∈ allKeys o a b, k.length ≤ 6 := by
 have h1 := feat_facts ho; have h2 := feat_facts ha; have h3 := feat_facts hb
 refine ⟨by have := allKeys_len o a b; omega, fun k hk => ?_⟩
 unfold allKeys at hk
 rw [uniq_mem] at hk
 obtain ⟨t, ht, rfl⟩ := List.mem_map.1 hk
 rcases List.mem_append.1 ht with ht | ht
 ·rcases List.mem_append.1 ht with ht | ht
  ·exact (h1.2.2.2.2 t ht).1
  ·exact (h2.2.2.2.2 t ht).1
 ·exact (h3.2.2.2.2 t ht).1
theorem tagsL_small {o a b : Feat} (ho : featOk o = true) (ha : featOk a = true) (hb : featOk b = true) : bulk (tagsL o.Tags a.Tags b.Tags (allKeys o a b)) ≤ 200 := by
 obtain ⟨k1, k2⟩ := allKeys_small ho ha hb
 have hl := tagsL_len o.Tags a.Tags b.Tags (allKeys o a b)
 have hs := bulk_small (tagsL o.Tags a.Tags b.Tags (allKeys o a b)) 12 fun t ht => by
  unfold tagsL at ht
  obtain ⟨k, hk, rfl⟩ := List.mem_map.1 ht
  have hk := k2 k (List.mem_filter.1 hk).1
  have hv : (tagK o.Tags a.Tags b.Tags k).1.val.length ≤ 6 := by
   rcases tagF_in (valT o.Tags k) (valT a.Tags k) (valT b.Tags k) with h | h
   ·unfold tagK; rw [h]; exact valT_len (fun x hx => ((feat_facts ha).2.2.2.2 x hx).2) k
   ·unfold tagK; rw [h]; exact valT_len (fun x hx => ((feat_facts hb).2.2.2.2 x hx).2) k
  have e : bulk (⟨k, (tagK o.Tags a.Tags b.Tags k).1.val⟩ : Tag) = bulk k + bulk (tagK o.Tags a.Tags b.Tags k).1.val := rfl
  rw [e, bulk_str, bulk_str]; omega
 have : (tagsL o.Tags a.Tags b.Tags (allKeys o a b)).length * (12 + 1) ≤ 12 * 13 := Nat.mul_le_mul OM (Nat.le_refl _)
 omega
theorem joinF_small {o a b : Feat} (ho : featOk o = true) (ha : featOk a = true) (hb : featOk b = true) : bulk (joinF o a b) ≤ 300 := by
 have h2 := feat_facts ha; have h3 := feat_facts hb
 have ht := tagsL_small ho ha hb
 have hp := shapeF_pts (o := o.Shape) h2.2.2.1 h3.2.2.1
 have e : bulk (joinF o a b) = bulk a.Id + (0 + bulk (shapeF o.Shape a.Shape b.Shape).1.Pts) + bulk (tagsL o.Tags a.Tags b.Tags (allKeys o a b)) := rfl
 have e2 : bulk a.Id = a.Id.length := bulk_str _
 have e3 : bulk (shapeF o.Shape a.Shape b.Shape).1.Pts = (shapeF o.Shape a.Shape b.Shape).1.Pts.length := bulk_flat (fun _ => rfl) _
 omega
section
def mkL {α : Type} (g : α → Int → α × Int) : List α → Int → List α × Int
 | [], k => ([], k)
 | x :: l, k => ((g x k).1 :: (mkL g l (g x k).2).1, (mkL g l (g x k).2).2)
section
variable {α : Type} {g : α → Int → α × Int}
theorem mkL_snoc (x : α) : ∀ (l : List α) (k : Int), mkL g (l ++ [x]) k = ((mkL g l k).1 ++ [(g x (mkL g l k).2).1], (g x (mkL g l k).2).2)
 | [], k => rfl
 | y :: l, k => by
  rw [List.cons_append, mkL, mkL_snoc x l]; rfl
theorem mkL_len : ∀ (l : List α) (k : Int), (mkL g l k).1.length = l.length
 | [], k => rfl
 | y :: l, k => by rw [mkL, List.length_cons, List.length_cons, mkL_len l]
theorem mkL_app : ∀ (l m : List α) (k : Int), mkL g (l ++ m) k = ((mkL g l k).1 ++ (mkL g m (mkL g l k).2).1, (mkL g m (mkL g l k).2).2)
 | [], m, k => rfl
 | y :: l, m, k => by rw [List.cons_append, mkL, mkL_app l]; rfl
variable [Inhabited α]
def Mk (g : α → Int → α × Int) (a : List α) (k : Int) (u : Nat) (xs : List α) (k' : Int) : Prop := u ≤ a.length ∧ xs = (mkL g (a.take u) k).1 ++ a.drop u ∧ k' = (mkL g (a.take u) k).2
variable {a xs : List α} {k k' : Int} {u : Nat}
theorem Mk.zero (a : List α) (k : Int) : Mk g a k 0 a k := ⟨Nat.zero_le _, by simp [mkL], by simp [mkL]⟩
theorem Mk.len (h : Mk g a k u xs k') : xs.length = a.length := by
 rw [h.2.1, List.length_append, mkL_len, List.length_take, List.length_drop]; have := h.1; omega
theorem Mk.nth (h : Mk g a k u xs k') (hu : u < a.length) : nth xs (u : Int) = Go.Proofs.YtpdmnmpcjljeaaaGreat.nth a (u : Int) := by
 rw [nth_nat xs (by rw [h.len]; exact hu), nth_nat a hu]
 have hl : (mkL g (a.take u) k).1.length = u := by rw [mkL_len, List.length_take]; omega
 have := h.2.1
 subst this
 rw [List.getElem_append_right OM]
 simp [hl]
def Hd (g : α → Int → α × Int) (a : List α) (k : Int) (u : Nat) (k' : Int) : Prop := u ≤ a.length ∧ k' = (mkL g (a.take u) k).2
theorem Hd.zero (a : List α) (k : Int) : Hd g a k 0 k := ⟨Nat.zero_le _, by simp [mkL]⟩
theorem Hd.nth (h : Hd g a k u k') (hu : u < a.length) : nth (mkL g a k).1 (u : Int) = (g (Go.Proofs.YtpdmnmpcjljeaaaGreat.nth a (u : Int)) k').1 := by
 have e : a = (a.take u ++ [Go.Proofs.YtpdmnmpcjljeaaaGreat.nth a (u : Int)]) ++ a.drop (u + 1) := by rw [← take_nth a hu, List.take_append_drop]
 have hl : (mkL g (a.take u) k).1.length = u := by rw [mkL_len, List.length_take]; omega
 rw [nth_nat _ (by rw [mkL_len]; exact hu)]
 have h1 : (mkL g a k).1[u]? = some (g (Go.Proofs.YtpdmnmpcjljeaaaGreat.nth a (u : Int)) k').1 := by
  conv => lhs; rw [e]
  rw [mkL_app, mkL_snoc]
  dsimp only
  rw [List.append_assoc, List.getElem?_append_right OM, hl, Nat.sub_self, h.2]; rfl
 rw [List.getElem?_eq_getElem (by rw [mkL_len]; exact hu)] at h1
 exact Option.some.inj h1
end
theorem bulk_feat (x : Feat) : bulk x = bulk x.Id + (bulk x.Shape.Kind + bulk x.Shape.Pts) + bulk x.Tags := rfl
end
theorem pw_ext {α : Type} {R : α → α → Prop} (irr : ∀ x, ¬ R x x) (tr : ∀ x y z, R x y → R y z → R x z) : ∀ {l m : List α}, l.Pairwise R → m.Pairwise R → (∀ x, x ∈ l ↔ x ∈ m) → l = m
 | [], [], _, _, _ => rfl
 | [], y :: m, _, _, h => by have := (h y).2 List.mem_cons_self; cases this
 | x :: l, [], _, _, h => by have := (h x).1 List.mem_cons_self; cases this
 | x :: l, y :: m, hl, hm, h => by
  obtain ⟨l1, l2⟩ := List.pairwise_cons.1 hl
  obtain ⟨m1, m2⟩ := List.pairwise_cons.1 hm
  have e : x = y := by
   rcases List.mem_cons.1 ((h x).1 List.mem_cons_self) with e | e
   ·exact e
   ·rcases List.mem_cons.1 ((h y).2 List.mem_cons_self) with e' | e'
    ·exact e'.symm
    ·exact absurd (tr _ _ _ (m1 x e) (l1 y e')) (irr _)
  subst e
  rw [pw_ext irr tr l2 m2 fun z => ⟨fun hz => ?_, fun hz => ?_⟩]
  ·rcases List.mem_cons.1 ((h z).1 (List.mem_cons_of_mem _ hz)) with e | e
   ·subst e; exact absurd (l1 z hz) (irr _)
   ·exact e
  ·rcases List.mem_cons.1 ((h z).2 (List.mem_cons_of_mem _ hz)) with e | e
   ·subst e; exact absurd (m1 z hz) (irr _)
   ·exact e
def idsC (d : List Change) : List Str := d.map (·.Id)
theorem idsC_app (s t : List Change) : idsC (s ++ t) = idsC s ++ idsC t := List.map_append
def CS (d : List Change) : Prop := d.Pairwise fun x y => Op.bytesLess x.Id y.Id = true
theorem CS.ext {l m : List Change} (hl : CS l) (hm : CS m) (h : ∀ x, x ∈ l ↔ x ∈ m) : l = m :=
 pw_ext (R := fun x y : Change => Op.bytesLess x.Id y.Id = true) (fun x e => by rw [less_irr] at e; cases e) (fun x y z h1 h2 => less_trans h1 h2) hl hm h
theorem CS.ids {d : List Change} (h : CS d) : SS (idsC d) := List.pairwise_map.2 h
theorem findN_true {n : Nat} {c : Nat → Bool} {k : Nat} (h : findN n c = (k : Int)) : k < n ∧ c k = true := by
 unfold findN at h
 cases e : (List.range n).find? c with
 | none => rw [e] at h; dsimp only at h; omega
 | some j =>
  rw [e] at h; dsimp only at h
  have : j = k := by omega
  subst this
  exact ⟨List.mem_range.1 (List.mem_of_find?_eq_some e), List.find?_some e⟩
theorem findN_neg {n : Nat} {c : Nat → Bool} (h : findN n c < 0) : ∀ j, j < n → c j = false := fun j hj => by
 unfold findN at h
 cases e : (List.range n).find? c with
 | some k => rw [e] at h; dsimp only at h; omega
 | none =>
  have := List.find?_eq_none.1 e j (List.mem_range.2 hj)
  simpa using this
theorem CS.inj {d : List Change} (h : CS d) {x y : Change} (hx : x ∈ d) (hy : y ∈ d) (e : x.Id = y.Id) : x = y := by
 obtain ⟨i, hi, rfl⟩ := List.getElem_of_mem hx
 obtain ⟨j, hj, rfl⟩ := List.getElem_of_mem hy
 rcases Nat.lt_trichotomy i j with g | g | g
 ·have := List.pairwise_iff_getElem.1 h i j hi hj g
  rw [e, less_irr] at this; cases this
 ·subst g; rfl
 ·have := List.pairwise_iff_getElem.1 h j i hj hi g
  rw [e, less_irr] at this; cases this
theorem sideOf_hit {s : List Feat} {id : Str} (h : (sideOf s id).2 = true) : (sideOf s id).1 ∈ s ∧ (sideOf s id).1.Id = id := by
 unfold sideOf at h ⊢
 split at h
 ·cases h
 ·rename_i g
  rw [if_neg g]
  have h1 := findN_le s.length fun j => (nth s (j : Int)).Id == id
  obtain ⟨k, hk⟩ : ∃ k : Nat, findN s.length (fun j => (nth s (j : Int)).Id == id) = (k : Int) := ⟨_, (Int.toNat_of_nonneg OM).symm⟩
  obtain ⟨h2, h3⟩ := findN_true hk
  rw [hk]
  exact ⟨nth_mem s h2, by simpa using h3⟩
theorem sideOf_no {s : List Feat} {id : Str} (h : (sideOf s id).2 = false) : (sideOf s id).1 = zeroF ∧ id ∉ ids s := by
 unfold sideOf at h ⊢
 split at h
 ·rename_i g
  rw [if_pos g]
  refine ⟨rfl, fun hm => ?_⟩
  obtain ⟨f, hf, rfl⟩ := List.mem_map.1 hm
  obtain ⟨k, hk, rfl⟩ := List.getElem_of_mem hf
  have := findN_neg g k hk
  rw [nth_nat s hk] at this
  simp at this
 ·cases h
theorem sideOf_iff {s : List Feat} {id : Str} : (sideOf s id).2 = true ↔ id ∈ ids s := by
 constructor
 ·intro h
  obtain ⟨h1, h2⟩ := sideOf_hit h
  exact List.mem_map.2 ⟨_, h1, h2⟩
 ·intro h
  cases g : (sideOf s id).2 with
  | true => rfl
  | false => exact absurd h (sideOf_no g).2
def thOf (s : List Feat) (id : Str) : thing := ⟨(sideOf s id).2, (sideOf s id).1⟩
theorem thOf_no {s : List Feat} {id : Str} (h : (thOf s id).has = false) : thOf s id = ⟨false, zeroF⟩ := by
 have h1 := (sideOf_no h).1
 unfold thOf at h ⊢
 dsimp only at h
 rw [h, h1]
def goneS : Str := [103, 111, 110, 101]
def bothS : Str := [98, 111, 116, 104]
def oneOf (o a b : thing) : thing × List Str :=
 if (three o a b).2 then ((three o a b).1, [])
 else if a.has = false then (b, [goneS])
 else if b.has = false then (a, [goneS])
 else if o.has = false then (a, [bothS])
 else (⟨true, (joinOf o.f a.f b.f).1⟩, (joinOf o.f a.f b.f).2)
def oneAt (o a b : List Feat) (id : Str) : thing × List Str := oneOf (thOf o id) (thOf a id) (thOf b id)
def joinFs (o a b : List Feat) (l : List Str) : List Feat := (l.filter fun i => (oneAt o a b i).1.has).map fun i => (oneAt o a b i).1.f
def clashAtL (i : Str) (w : List Str) : List Clash := w.map fun x => ⟨i, x⟩
def joinCs (o a b : List Feat) (l : List Str) : List Clash := (l.map fun i => clashAtL i (oneAt o a b i).2).flatten
def ids3 (o a b : List Feat) : List Str := uniq (ids o ++ ids a ++ ids b)
def sheetJoin (o a b : List Feat) : List Feat × List Clash × Bool :=
 if sheetOk o && sheetOk a && sheetOk b then
  if sheetOk (joinFs o a b (ids3 o a b)) then (joinFs o a b (ids3 o a b), joinCs o a b (ids3 o a b), true) else ([], [], false)
 else ([], [], false)
theorem joinFs_snoc (o a b : List Feat) (l : List Str) (i : Str) : joinFs o a b (l ++ [i]) = joinFs o a b l ++ (if (oneAt o a b i).1.has then [(oneAt o a b i).1.f] else []) := by
 unfold joinFs
 rw [List.filter_append, List.map_append]
 congr 1
 cases h : (oneAt o a b i).1.has <;> simp [h]
theorem joinCs_snoc (o a b : List Feat) (l : List Str) (i : Str) : joinCs o a b (l ++ [i]) = joinCs o a b l ++ clashAtL i (oneAt o a b i).2 := by
 unfold joinCs
 rw [List.map_append, List.flatten_append]
 simp
theorem joinFs_len (o a b : List Feat) (l : List Str) : (joinFs o a b l).length ≤ l.length := by
 unfold joinFs; rw [List.length_map]; exact List.length_filter_le _ _
theorem ids3_len {o a b : List Feat} (ho : sheetOk o = true) (ha : sheetOk a = true) (hb : sheetOk b = true) : (ids3 o a b).length ≤ 24 := by
 have h1 := uniq_len (ids o ++ ids a ++ ids b)
 have h2 : (ids o ++ ids a ++ ids b).length = o.length + a.length + b.length := by unfold ids; simp; omega
 have := (sheet_ss ho).2.1; have := (sheet_ss ha).2.1; have := (sheet_ss hb).2.1
 unfold ids3; omega
theorem ids3_small {o a b : List Feat} (ho : sheetOk o = true) (ha : sheetOk a = true) (hb : sheetOk b = true) {i : Str} (hi : i ∈ ids3 o a b) : i.length ≤ 6 := by
 have key : ∀ {s : List Feat}, sheetOk s = true → i ∈ ids s → i.length ≤ 6 := fun hs hm => by
  obtain ⟨f, hf, rfl⟩ := List.mem_map.1 hm
  exact (feat_small ((sheet_ss hs).2.2 f hf)).2
 unfold ids3 at hi
 rcases List.mem_append.1 (uniq_mem.1 hi) with h | h
 ·rcases List.mem_append.1 h with h | h
  ·exact key ho h
  ·exact key ha h
 ·exact key hb h
theorem thOf_ok {s : List Feat} (hs : sheetOk s = true) (id : Str) : thOf s id = ⟨false, zeroF⟩ ∨ ((thOf s id).has = true ∧ featOk (thOf s id).f = true ∧ (thOf s id).f.Id = id) := by
 cases h : (sideOf s id).2 with
 | false => exact .inl (thOf_no h)
 | true =>
  obtain ⟨h1, h2⟩ := sideOf_hit h
  exact .inr ⟨h, (sheet_ss hs).2.2 _ h1, h2⟩
theorem three_case {α : Type} [DecidableEq α] (o a b : α) : (a = o ∧ three o a b = (b, true)) ∨ (¬ a = o ∧ b = o ∧ three o a b = (a, true)) ∨ (¬ a = o ∧ ¬ b = o ∧ a = b ∧ three o a b = (a, true)) ∨ (¬ a = o ∧ ¬ b = o ∧ ¬ a = b ∧ three o a b = (a, false)) := by
 unfold three
 by_cases h1 : a = o
 ·exact .inl ⟨h1, if_pos h1⟩
 ·rw [if_neg h1]
  by_cases h2 : b = o
  ·exact .inr (.inl ⟨h1, h2, if_pos h2⟩)
  ·rw [if_neg h2]
   by_cases h3 : a = b
   ·exact .inr (.inr (.inl ⟨h1, h2, h3, if_pos h3⟩))
   ·exact .inr (.inr (.inr ⟨h1, h2, h3, if_neg h3⟩))
theorem joinW_len {o a b : Feat} (ho : featOk o = true) (ha : featOk a = true) (hb : featOk b = true) : (joinOf o a b).2.length ≤ 13 ∧ (∀ x ∈ (joinOf o a b).2, x.length ≤ 20) ∧ bulk (joinOf o a b).1 ≤ 300 := by
 obtain ⟨ks1, ks2⟩ := allKeys_small ho ha hb
 have hcl := clashL_len o.Tags a.Tags b.Tags (allKeys o a b)
 unfold joinOf
 split
 ·refine ⟨?_, fun x hx => ?_, joinF_small ho ha hb⟩
  ·unfold joinW
   rw [List.length_append]
   split
   ·simp only [List.length_nil]; omega
   ·simp only [List.length_cons, List.length_nil]; omega
  ·unfold joinW at hx
   rcases List.mem_append.1 hx with hx | hx
   ·split at hx
    ·cases hx
    ·rw [List.mem_singleton.1 hx]; decide
   ·unfold clashL at hx
    obtain ⟨k, hk, rfl⟩ := List.mem_map.1 hx
    have := ks2 k (List.mem_filter.1 hk).1
    rw [List.length_append]
    have : tagS.length = 4 := rfl
    omega
 ·refine ⟨by simp, fun x hx => ?_, Nat.le_trans (feat_small ha).1 OM⟩
  rw [List.mem_singleton.1 hx]; decide
theorem oneAt_small {o a b : List Feat} (ho : sheetOk o = true) (ha : sheetOk a = true) (hb : sheetOk b = true) (i : Str) : (oneAt o a b i).2.length ≤ 13 ∧ (∀ x ∈ (oneAt o a b i).2, x.length ≤ 20) ∧ bulk (oneAt o a b i).1.f ≤ 300 := by
 have to_ := thOf_ok ho i; have ta := thOf_ok ha i; have tb := thOf_ok hb i
 have small : ∀ {t : thing}, (t = ⟨false, zeroF⟩ ∨ (t.has = true ∧ featOk t.f = true ∧ t.f.Id = i)) → bulk t.f ≤ 300 := fun h => by
  rcases h with rfl | h
  ·exact (by decide : bulk zeroF ≤ 300)
  ·exact Nat.le_trans (feat_small h.2.1).1 OM
 unfold oneAt oneOf
 split
 ·refine ⟨by simp, fun x hx => (by cases hx), ?_⟩
  rcases three_in (thOf o i) (thOf a i) (thOf b i) with h | h <;> rw [h]
  ·exact small ta
  ·exact small tb
 ·split
  ·exact ⟨by simp, fun x hx => by rw [List.mem_singleton.1 hx]; decide, small tb⟩
  ·rename_i h1
   split
   ·exact ⟨by simp, fun x hx => by rw [List.mem_singleton.1 hx]; decide, small ta⟩
   ·rename_i h2
    split
    ·exact ⟨by simp, fun x hx => by rw [List.mem_singleton.1 hx]; decide, small ta⟩
    ·rename_i h3
     have g : ∀ {t : thing}, (t = ⟨false, zeroF⟩ ∨ (t.has = true ∧ featOk t.f = true ∧ t.f.Id = i)) → ¬ t.has = false → featOk t.f = true := fun h hn => by
      rcases h with rfl | h
      ·exact absurd rfl hn
      ·exact h.2.1
     exact joinW_len (g to_ h3) (g ta h1) (g tb h2)
theorem joinCs_len {o a b : List Feat} (ho : sheetOk o = true) (ha : sheetOk a = true) (hb : sheetOk b = true) (l : List Str) : (joinCs o a b l).length ≤ 13 * l.length := by
 induction l with
 | nil => exact Nat.zero_le _
 | cons i l ih =>
  have e : joinCs o a b (i :: l) = clashAtL i (oneAt o a b i).2 ++ joinCs o a b l := by unfold joinCs; simp
  have h := (oneAt_small ho ha hb i).1
  rw [e, List.length_append, List.length_cons]
  have : (clashAtL i (oneAt o a b i).2).length = (oneAt o a b i).2.length := by unfold clashAtL; simp
  omega
theorem joinFs_small {o a b : List Feat} (ho : sheetOk o = true) (ha : sheetOk a = true) (hb : sheetOk b = true) (l : List Str) : bulk (joinFs o a b l) ≤ 301 * l.length := by
 have h1 := bulk_small (joinFs o a b l) 300 fun f hf => by
  unfold joinFs at hf
  obtain ⟨i, _, rfl⟩ := List.mem_map.1 hf
  exact (oneAt_small ho ha hb i).2.2
 have h2 := joinFs_len o a b l
 have : (joinFs o a b l).length * (300 + 1) ≤ l.length * 301 := Nat.mul_le_mul h2 (Nat.le_refl _)
 omega
theorem joinCs_small {o a b : List Feat} (ho : sheetOk o = true) (ha : sheetOk a = true) (hb : sheetOk b = true) : bulk (joinCs o a b (ids3 o a b)) ≤ 20000 := by
 have h1 := bulk_small (joinCs o a b (ids3 o a b)) 26 fun c hc => by
  unfold joinCs at hc
  obtain ⟨m, hm, hc⟩ := List.mem_flatten.1 hc
  obtain ⟨i, hi, rfl⟩ := List.mem_map.1 hm
  obtain ⟨x, hx, rfl⟩ := List.mem_map.1 hc
  have e1 := ids3_small ho ha hb hi
  have e2 := (oneAt_small ho ha hb i).2.1 x hx
  have e : bulk (⟨i, x⟩ : Clash) = bulk i + bulk x := rfl
  rw [e, bulk_str, bulk_str]; omega
 have h2 := joinCs_len ho ha hb (ids3 o a b)
 have h3 := ids3_len ho ha hb
 have : (joinCs o a b (ids3 o a b)).length * (26 + 1) ≤ (13 * 24) * 27 := Nat.mul_le_mul OM (Nat.le_refl _)
 omega
theorem sheetJoin_small (o a b : List Feat) : bulk (sheetJoin o a b).1 ≤ 10000 ∧ bulk (sheetJoin o a b).2.1 ≤ 20000 := by
 unfold sheetJoin
 split
 ·rename_i h
  simp only [Bool.and_eq_true] at h
  split
  ·have h1 := joinFs_small h.1.1 h.1.2 h.2 (ids3 o a b)
   have h2 := ids3_len h.1.1 h.1.2 h.2
   exact ⟨by dsimp only; omega, joinCs_small h.1.1 h.1.2 h.2⟩
  ·exact ⟨Nat.zero_le _, Nat.zero_le _⟩
 ·exact ⟨Nat.zero_le _, Nat.zero_le _⟩
theorem thing.ext_iff' (a b : thing) : a = b ↔ a.has = b.has ∧ a.f = b.f := by cases a; cases b; simp
def ThOk (i : Str) (t : thing) : Prop := t = ⟨false, zeroF⟩ ∨ (t.has = true ∧ featOk t.f = true ∧ t.f.Id = i)
theorem ThOk.small {i : Str} {t : thing} (h : ThOk i t) : bulk t.f ≤ 100 ∧ (t.f.Shape.Pts.length ≤ 1048576 ∧ t.f.Tags.length ≤ 1048576) := by
 have key : bulk t.f ≤ 100 := by
  rcases h with rfl | h
  ·exact (by decide : bulk zeroF ≤ 100)
  ·exact (feat_small h.2.1).1
 have h1 := bulk_feat t.f
 have h2 := bulk_len t.f.Tags
 have h3 := bulk_len t.f.Shape.Pts
 exact ⟨key, OM, OM⟩
theorem ThOk.has {i : Str} {t : thing} (h : ThOk i t) (g : t.has = true) : featOk t.f = true ∧ t.f.Id = i := by
 rcases h with rfl | h
 ·cases g
 ·exact h.2
theorem ThOk.no {i : Str} {t : thing} (h : ThOk i t) (g : t.has = false) : t = ⟨false, zeroF⟩ := by
 rcases h with rfl | h
 ·rfl
 ·rw [h.1] at g; cases g
theorem one_same {o a b : thing} (h : (three o a b).2 = true) : oneOf o a b = ((three o a b).1, []) := by unfold oneOf; rw [if_pos h]
theorem one_else {o a b : thing} (h : (three o a b).2 = false) : oneOf o a b = if a.has = false then (b, [goneS]) else if b.has = false then (a, [goneS]) else if o.has = false then (a, [bothS]) else (⟨true, (joinOf o.f a.f b.f).1⟩, (joinOf o.f a.f b.f).2) := by
 unfold oneOf; rw [if_neg (by rw [h]; decide)]
def FS (l : List Feat) : Prop := l.Pairwise fun x y => Op.bytesLess x.Id y.Id = true
theorem FS.ext {l m : List Feat} (hl : FS l) (hm : FS m) (h : ∀ x, x ∈ l ↔ x ∈ m) : l = m :=
 pw_ext (R := fun x y : Feat => Op.bytesLess x.Id y.Id = true) (fun x e => by rw [less_irr] at e; cases e) (fun x y z h1 h2 => less_trans h1 h2) hl hm h
theorem FS.toIds {l : List Feat} (h : FS l) : SS (ids l) := List.pairwise_map.2 h
theorem FS.of_ids {l : List Feat} (h : SS (ids l)) : FS l := List.pairwise_map.1 h
theorem FS.inj {d : List Feat} (h : FS d) {x y : Feat} (hx : x ∈ d) (hy : y ∈ d) (e : x.Id = y.Id) : x = y := by
 obtain ⟨i, hi, rfl⟩ := List.getElem_of_mem hx
 obtain ⟨j, hj, rfl⟩ := List.getElem_of_mem hy
 rcases Nat.lt_trichotomy i j with g | g | g
 ·have := List.pairwise_iff_getElem.1 h i j hi hj g
  rw [e, less_irr] at this; cases this
 ·subst g; rfl
 ·have := List.pairwise_iff_getElem.1 h j i hj hi g
  rw [e, less_irr] at this; cases this
theorem sheet_fs {s : List Feat} (h : sheetOk s = true) : FS s := FS.of_ids (sheet_ss h).1
theorem sideOf_of {s : List Feat} (h : FS s) {f : Feat} (hf : f ∈ s) : sideOf s f.Id = (f, true) := by
 have h1 : (sideOf s f.Id).2 = true := sideOf_iff.2 (List.mem_map.2 ⟨f, hf, rfl⟩)
 obtain ⟨h2, h3⟩ := sideOf_hit h1
 have := h.inj h2 hf h3
 exact Prod.ext this h1
theorem now_id {d : List Change} (hd : ∀ c ∈ d, changeOk c = true) {c : Change} (hc : c ∈ d) (h : c.Has = true) : c.Now.Id = c.Id ∧ featOk c.Now = true := by
 have := hd c hc
 unfold changeOk at this
 simp only [Bool.and_eq_true] at this
 have h3 := this.1.2
 unfold sideOk at h3
 rw [h, if_pos rfl] at h3
 simp only [Bool.and_eq_true, decide_eq_true_eq] at h3
 exact ⟨h3.2, h3.1⟩
def Mem (s : List Feat) (d : List Change) (f : Feat) : Prop := (f ∈ s ∧ f.Id ∉ idsC d) ∨ ∃ c ∈ d, c.Has = true ∧ c.Now = f
theorem Mem.step {s : List Feat} {d : List Change} {u : Nat} (hu : u < d.length) (hc : CS d) (hd : ∀ c ∈ d, changeOk c = true) (f : Feat) :
  Mem s (d.take (u + 1)) f ↔ (Mem s (d.take u) f ∧ f.Id ≠ (nth d (u : Int)).Id) ∨ ((nth d (u : Int)).Has = true ∧ f = (nth d (u : Int)).Now) := by
 have e : idsC (d.take (u + 1)) = idsC (d.take u) ++ [(nth d (u : Int)).Id] := by rw [take_nth d hu, idsC_app]; rfl
 have hm : nth d (u : Int) ∈ d := nth_mem d hu
 have hlt : ∀ c ∈ d.take u, Op.bytesLess c.Id (nth d (u : Int)).Id = true := fun c hc' => by
  have h := hc
  rw [← List.take_append_drop u d] at h
  refine (List.pairwise_append.1 h).2.2 c hc' _ ?_
  rw [nth_nat d hu, List.drop_eq_getElem_cons hu]; exact List.mem_cons_self
 unfold Mem
 rw [e, take_nth d hu]
 constructor
 ·rintro (⟨h1, h2⟩ | ⟨c, h1, h2, rfl⟩)
  ·rw [List.mem_append, List.mem_singleton] at h2
   exact .inl ⟨.inl ⟨h1, fun h => h2 (.inl h)⟩, fun h => h2 (.inr h)⟩
  ·rcases List.mem_append.1 h1 with h1 | h1
   ·refine .inl ⟨.inr ⟨c, h1, h2, rfl⟩, fun h => ?_⟩
    rw [(now_id hd (List.mem_of_mem_take h1) h2).1] at h
    have := hlt c h1
    rw [h, less_irr] at this; cases this
   ·rw [List.mem_singleton] at h1
    subst h1
    exact .inr ⟨h2, rfl⟩
 ·rintro (⟨h1 | ⟨c, h1, h2, rfl⟩, h3⟩ | ⟨h1, rfl⟩)
  ·refine .inl ⟨h1.1, fun h => ?_⟩
   rcases List.mem_append.1 h with h | h
   ·exact h1.2 h
   ·exact h3 (List.mem_singleton.1 h)
  ·exact .inr ⟨c, List.mem_append_left _ h1, h2, rfl⟩
  ·exact .inr ⟨_, List.mem_append_right _ (List.mem_singleton.2 rfl), h1, rfl⟩
theorem Mem.zero (s : List Feat) (d : List Change) (f : Feat) : Mem s (d.take 0) f ↔ f ∈ s := by
 unfold Mem
 simp [idsC]
theorem del_mem {xs : List Feat} (hn : (ids xs).Nodup) {k : Nat} (hk : k < xs.length) : (ids (xs.take k ++ xs.drop (k + 1))).Nodup ∧ (∀ f, f ∈ xs.take k ++ xs.drop (k + 1) ↔ f ∈ xs ∧ f.Id ≠ xs[k].Id) ∧ (xs.take k ++ xs.drop (k + 1)).length < xs.length := by
 have e : xs = xs.take k ++ xs[k] :: xs.drop (k + 1) := by rw [← List.drop_eq_getElem_cons hk, List.take_append_drop]
 have hn' := hn
 rw [e] at hn'
 unfold ids at hn' ⊢
 rw [List.map_append, List.map_cons] at hn'
 obtain ⟨n1, n2, n3⟩ := List.nodup_append.1 hn'
 obtain ⟨n4, n5⟩ := List.nodup_cons.1 n2
 refine ⟨?_, fun f => ?_, by simp only [List.length_append, List.length_take, List.length_drop]; omega⟩
 ·rw [List.map_append]
  exact List.nodup_append.2 ⟨n1, n5, fun a ha b hb => n3 a ha b (List.mem_cons_of_mem _ hb)⟩
 ·constructor
  ·intro hf
   rcases List.mem_append.1 hf with hf | hf
   ·exact ⟨List.mem_of_mem_take hf, fun h => n3 _ (List.mem_map.2 ⟨f, hf, rfl⟩) _ List.mem_cons_self h⟩
   ·exact ⟨List.mem_of_mem_drop hf, fun h => n4 (by rw [← h]; exact List.mem_map.2 ⟨f, hf, rfl⟩)⟩
  ·rintro ⟨hf, hne⟩
   rw [e] at hf
   rcases List.mem_append.1 hf with hf | hf
   ·exact List.mem_append_left _ hf
   ·rcases List.mem_cons.1 hf with rfl | hf
    ·exact absurd rfl hne
    ·exact List.mem_append_right _ hf
theorem three_r {α : Type} [DecidableEq α] (o a : α) : three o a o = (a, true) := by
 unfold three
 by_cases h : a = o
 ·rw [if_pos h, h]
 ·rw [if_neg h, if_pos rfl]
theorem tags_ss {t : List Tag} (h : tagsOk t = true) : SS (keysT t) := by
 have h1 := allN_iff.1 h
 have hadj : ∀ k, 0 < k → k < t.length → Op.bytesLess (nth t ((k : Int) - 1)).Key (nth t (k : Int)).Key = true := fun k h0 hk => by
  have := h1 k hk
  simp only [Bool.and_eq_true, Bool.or_eq_true, decide_eq_true_eq] at this
  rcases this.2 with h | h
  ·omega
  ·exact h
 unfold SS keysT
 rw [List.pairwise_map]
 refine List.pairwise_iff_getElem.2 fun i j hi hj hij => ?_
 have key : ∀ d, i + d + 1 < t.length → Op.bytesLess t[i].Key (nth t ((i + d + 1 : Nat) : Int)).Key = true := by
  intro d
  induction d with
  | zero =>
   intro hd
   have := hadj (i + 0 + 1) OM hd
   rw [show (((i + 0 + 1 : Nat) : Int) - 1) = (i : Int) by omega, nth_nat t hi] at this
   exact this
  | succ d ih =>
   intro hd
   have := hadj (i + (d + 1) + 1) OM hd
   rw [show (((i + (d + 1) + 1 : Nat) : Int) - 1) = ((i + d + 1 : Nat) : Int) by omega] at this
   exact less_trans (ih OM) this
 have := key (j - i - 1) OM
 rw [show i + (j - i - 1) + 1 = j by omega, nth_nat t hj] at this
 exact this
theorem featOk_tags {f : Feat} (h : featOk f = true) : SS (keysT f.Tags) := by
 unfold featOk at h
 simp only [Bool.and_eq_true] at h
 exact tags_ss h.1.1.1
theorem oneOf_r (o a : thing) : oneOf o a o = (a, []) := by unfold oneOf; rw [three_r, if_pos rfl]
theorem ids3_b {o a b : List Feat} : ∀ i ∈ ids b, i ∈ ids3 o a b := fun _ hi => uniq_mem.2 (List.mem_append_right _ hi)
theorem ids3_a {o a b : List Feat} : ∀ i ∈ ids a, i ∈ ids3 o a b := fun _ hi => uniq_mem.2 (List.mem_append_left _ (List.mem_append_right _ hi))
theorem tagsOk_of {t : List Tag} (hs : SS (keysT t)) (hw : ∀ x ∈ t, wordOk x.Key = true ∧ wordOk x.Val = true) : tagsOk t = true := by
 unfold tagsOk
 refine allN_true fun k hk => ?_
 obtain ⟨h1, h2⟩ := hw _ (nth_mem t hk)
 rw [h1, h2, Bool.true_and, Bool.true_and, Bool.or_eq_true, decide_eq_true_eq]
 rcases Nat.eq_zero_or_pos k with h0 | h0
 ·exact .inl h0
 refine .inr ?_
 unfold SS keysT at hs
 have := List.pairwise_iff_getElem.1 (List.pairwise_map.1 hs) (k - 1) k OM hk OM
 rw [show ((k : Int) - 1) = ((k - 1 : Nat) : Int) by omega, nth_nat t hk, nth_nat t OM]
 exact this
theorem oneOf_ok {i : Str} {o a b : thing} (ho : ThOk i o) (ha : ThOk i a) (hb : ThOk i b) : ThOk i (oneOf o a b).1 := by
 cases h : (three o a b).2 with
 | true =>
  rw [one_same h]
  rcases three_in o a b with g | g <;> rw [g] <;> assumption
 | false =>
  rw [one_else h]
  split
  ·exact hb
  split
  ·exact ha
  split
  ·exact ha
  rename_i ca cb co
  rw [Bool.not_eq_false] at ca cb co
  obtain ⟨fo, io⟩ := ho.has co; obtain ⟨fa, ia⟩ := ha.has ca; obtain ⟨fb, ib⟩ := hb.has cb
  refine .inr ⟨rfl, ?_⟩
  dsimp only
  unfold joinOf
  split
  ·rename_i g; exact ⟨g, ia⟩
  ·exact ⟨fa, ia⟩
theorem oneOf_has {o a b : thing} (h : (oneOf o a b).1.has = true) : a.has = true ∨ b.has = true := by
 cases g : (three o a b).2 with
 | true =>
  rw [one_same g] at h
  rcases three_in o a b with e | e <;> rw [e] at h
  ·exact .inl h
  ·exact .inr h
 | false =>
  rw [one_else g] at h
  split at h
  ·exact .inr h
  ·rename_i ca; exact .inl (by rwa [Bool.not_eq_false] at ca)
theorem oneAt_ok {o a b : List Feat} (ho : sheetOk o = true) (ha : sheetOk a = true) (hb : sheetOk b = true) (i : Str) : ThOk i (oneAt o a b i).1 :=
 oneOf_ok (thOf_ok ho i) (thOf_ok ha i) (thOf_ok hb i)
theorem joinFs_ids {o a b : List Feat} (ho : sheetOk o = true) (ha : sheetOk a = true) (hb : sheetOk b = true) (l : List Str) :
  ids (joinFs o a b l) = l.filter fun i => (oneAt o a b i).1.has := by
 unfold ids joinFs
 rw [List.map_map]
 refine (List.map_congr_left fun i hi => ?_).trans (List.map_id _)
 exact ((oneAt_ok ho ha hb i).has (List.mem_filter.1 hi).2).2
theorem thOf_join {o a b : List Feat} (ho : sheetOk o = true) (ha : sheetOk a = true) (hb : sheetOk b = true) (i : Str) :
  thOf (joinFs o a b (ids3 o a b)) i = (oneAt o a b i).1 := by
 have e := joinFs_ids ho ha hb (ids3 o a b)
 have hk := oneAt_ok ho ha hb i
 have fs : FS (joinFs o a b (ids3 o a b)) := FS.of_ids (by rw [e]; exact List.Pairwise.filter _ (uniq_ss _))
 cases h : (oneAt o a b i).1.has with
 | true =>
  have hi : i ∈ ids3 o a b := by
   rcases oneOf_has h with g | g
   ·exact ids3_a _ (sideOf_iff.1 g)
   ·exact ids3_b _ (sideOf_iff.1 g)
  have hm : (oneAt o a b i).1.f ∈ joinFs o a b (ids3 o a b) := List.mem_map.2 ⟨i, List.mem_filter.2 ⟨hi, h⟩, rfl⟩
  have := sideOf_of fs hm
  rw [(hk.has h).2] at this
  unfold thOf
  rw [this, ← h]
 | false =>
  rw [hk.no h]
  refine thOf_no ?_
  cases g : (thOf (joinFs o a b (ids3 o a b)) i).has with
  | false => rfl
  | true =>
   have := sideOf_iff.1 g
   rw [e] at this
   rw [(List.mem_filter.1 this).2] at h; cases h
theorem sheetJoin_of {o a b : List Feat} (h : (sheetJoin o a b).2.2 = true) : sheetOk o = true ∧ sheetOk a = true ∧ sheetOk b = true ∧ sheetOk (joinFs o a b (ids3 o a b)) = true ∧ sheetJoin o a b = (joinFs o a b (ids3 o a b), joinCs o a b (ids3 o a b), true) := by
 unfold sheetJoin at h ⊢
 split at h
 ·rename_i g
  simp only [Bool.and_eq_true] at g
  split at h
  ·rename_i k; exact ⟨g.1.1, g.1.2, g.2, k, by rw [g.1.1, g.1.2, g.2, k]; rfl⟩
  ·cases h
 ·cases h
def getOf (s : List Feat) (id : Str) : Feat × Bool := if sheetOk s then sideOf s id else (zeroF, false)
theorem getOf_ok {s : List Feat} (h : sheetOk s = true) (id : Str) : getOf s id = sideOf s id := by unfold getOf; rw [if_pos h]
theorem shape_pos {s : Shape} (h : shapeOk s = true) : 1 ≤ s.Pts.length := by
 unfold shapeOk kindOk at h
 simp only [Bool.and_eq_true] at h
 have := h.2
 split at this
 ·simp only [decide_eq_true_eq] at this; omega
 ·split at this
  ·simp only [Bool.and_eq_true, decide_eq_true_eq] at this; omega
  ·split at this
   ·simp only [Bool.and_eq_true, decide_eq_true_eq] at this; omega
   ·cases this
theorem dot_ok {x y : Int} (h1 : 0 ≤ x) (h2 : x ≤ 5) (h3 : 0 ≤ y) (h4 : y ≤ 5) : shapeOk ⟨1, [⟨x, y⟩]⟩ = true := by
 have e : ptOk (⟨x, y⟩ : Pt) = true := by
  unfold ptOk inR
  simp only [Bool.and_eq_true, decide_eq_true_eq]; omega
 unfold shapeOk ptsOk kindOk
 rw [Bool.and_eq_true]
 refine ⟨allN_true fun k hk => ?_, by rw [if_pos rfl]; rfl⟩
 have hk : k < 1 := hk
 obtain rfl : k = 0 := by omega
 rw [Bool.and_eq_true]
 exact ⟨e, rfl⟩
def NX (q : Pt) : Prop := q.X ≠ 71 ∧ q.X ≠ 72
theorem NX.of {x y : Int} (h : x ≤ 3) : NX ⟨x, y⟩ := ⟨by dsimp only; omega, by dsimp only; omega⟩
def keyL : List Str := [[110, 97, 109, 101], [107, 105, 110, 100], [117, 115, 101], [116, 111, 110, 101]]
def valL : List Str := [[97], [98], [111, 97, 107], [97, 115, 104], [114, 111, 97, 100]]
def idL : List Str := [[97], [98], [99], [100], [101]]
def DT (x : Tag) : Prop := x.Key ∈ keyL ∧ x.Val ∈ valL
theorem keyL_ok : ∀ k ∈ keyL, wordOk k = true := by decide
theorem valL_ok : ∀ k ∈ valL, wordOk k = true := by decide
theorem idL_ok : ∀ k ∈ idL, wordOk k = true := by decide
def plainK (k : Str) : Prop := k ≠ [97, 97, 97] ∧ k ≠ [122, 122, 122]
theorem keyL_plain : ∀ k ∈ keyL, plainK k := by
 intro k hk
 simp only [keyL, List.mem_cons, List.not_mem_nil, or_false] at hk
 unfold plainK
 rcases hk with rfl | rfl | rfl | rfl <;> decide
theorem feat_of {id : Str} {s : Shape} {t : List Tag} (h1 : wordOk id = true) (h2 : shapeOk s = true) (h3 : SS (keysT t)) (h4 : t.length ≤ 4) (h5 : ∀ x ∈ t, wordOk x.Key = true ∧ wordOk x.Val = true) : featOk ⟨id, s, t⟩ = true := by
 unfold featOk
 dsimp only
 rw [tagsOk_of h3 h5, h1, h2, decide_eq_true h4]; rfl
structure FB (n : Nat) (f : Feat) : Prop where
 id : f.Id.length ≤ 7
 pts : f.Shape.Pts.length ≤ 7
 len : f.Tags.length ≤ n
 wd : ∀ x ∈ f.Tags, x.Key.length ≤ 6 ∧ x.Val.length ≤ 6
theorem FB.small {n : Nat} {f : Feat} (h : FB n f) : bulk f ≤ 14 + 13 * n := by
 have e : bulk f = bulk f.Id + (0 + bulk f.Shape.Pts) + bulk f.Tags := rfl
 have e2 : bulk f.Id = f.Id.length := bulk_str _
 have e3 : bulk f.Shape.Pts = f.Shape.Pts.length := bulk_flat (fun _ => rfl) _
 have hs := bulk_small f.Tags 12 fun t ht => by
  have := h.wd t ht
  have e : bulk t = bulk t.Key + bulk t.Val := rfl
  rw [e, bulk_str, bulk_str]; omega
 have : f.Tags.length * (12 + 1) ≤ n * 13 := Nat.mul_le_mul h.len (Nat.le_refl _)
 have := h.id; have := h.pts
 omega
theorem FB.of {f : Feat} (h : featOk f = true) : FB 4 f := by
 have := feat_facts h
 exact ⟨OM, OM, this.1, this.2.2.2.2⟩
theorem FB.mono {n m : Nat} {f : Feat} (h : FB n f) (hm : n ≤ m) : FB m f := ⟨h.id, h.pts, Nat.le_trans h.len hm, h.wd⟩
theorem DT.len {x : Tag} (h : DT x) : x.Key.length ≤ 6 ∧ x.Val.length ≤ 6 := ⟨word_len (keyL_ok _ h.1), word_len (valL_ok _ h.2)⟩
theorem DT.ok {x : Tag} (h : DT x) : wordOk x.Key = true ∧ wordOk x.Val = true := ⟨keyL_ok _ h.1, valL_ok _ h.2⟩
structure MB (n m : Nat) (s : List Feat) : Prop where
 len : s.length ≤ n
 fb : ∀ f ∈ s, FB m f
theorem MB.small {n m : Nat} {s : List Feat} (h : MB n m s) : bulk s ≤ n * (15 + 13 * m) := by
 have hs := bulk_small s (14 + 13 * m) fun f hf => (h.fb f hf).small
 have : s.length * (14 + 13 * m + 1) ≤ n * (15 + 13 * m) := Nat.mul_le_mul h.len OM
 omega
theorem MB.of {s : List Feat} (h : sheetOk s = true) : MB 8 4 s := ⟨(sheet_ss h).2.1, fun f hf => FB.of ((sheet_ss h).2.2 f hf)⟩
theorem MB.mono {n n' m m' : Nat} {s : List Feat} (h : MB n m s) (h1 : n ≤ n') (h2 : m ≤ m') : MB n' m' s := ⟨Nat.le_trans h.len h1, fun f hf => (h.fb f hf).mono h2⟩
theorem sheet_of {s : List Feat} (h1 : SS (ids s)) (h2 : s.length ≤ 8) (h3 : ∀ f ∈ s, featOk f = true) : sheetOk s = true := by
 unfold sheetOk
 rw [Bool.and_eq_true]
 refine ⟨allN_true fun k hk => ?_, decide_eq_true h2⟩
 rw [Bool.and_eq_true, Bool.or_eq_true, decide_eq_true_eq]
 refine ⟨h3 _ (nth_mem s hk), ?_⟩
 rcases Nat.eq_zero_or_pos k with h0 | h0
 ·exact .inl h0
 refine .inr ?_
 unfold SS ids at h1
 have := List.pairwise_iff_getElem.1 (List.pairwise_map.1 h1) (k - 1) k OM hk OM
 rw [show ((k : Int) - 1) = ((k - 1 : Nat) : Int) by omega, nth_nat s hk, nth_nat s OM]
 exact this
def zzI : Str := [122, 122]
theorem idL_nz : ∀ k ∈ idL, k ≠ zzI := by
 intro k hk
 simp only [idL, List.mem_cons, List.not_mem_nil, or_false] at hk
 rcases hk with rfl | rfl | rfl | rfl | rfl <;> decide
structure MD (s : List Feat) : Prop where
 mb : MB 14 4 s
 nz : ∀ f ∈ s, f.Id ≠ zzI
theorem MD.small {s : List Feat} (h : MD s) : bulk s ≤ 1048576 := Nat.le_trans h.mb.small RD
theorem sideOf_eq {l m : List Feat} (hl : FS l) (hm : FS m) {i : Str} (h : ∀ f, f.Id = i → (f ∈ l ↔ f ∈ m)) : sideOf l i = sideOf m i := by
 cases g : (sideOf l i).2 with
 | true =>
  obtain ⟨h1, h2⟩ := sideOf_hit g
  have h3 := sideOf_of hm ((h _ h2).1 h1)
  rw [h2] at h3
  rw [h3]; exact Prod.ext rfl g
 | false =>
  obtain ⟨h1, h2⟩ := sideOf_no g
  have h3 : (sideOf m i).2 = false := by
   cases k : (sideOf m i).2 with
   | false => rfl
   | true =>
    obtain ⟨k1, k2⟩ := sideOf_hit k
    exact absurd (List.mem_map.2 ⟨_, (h _ k2).2 k1, k2⟩) h2
  exact Prod.ext (h1.trans (sideOf_no h3).1.symm) (g.trans h3.symm)
def PutS (s : List Feat) (f : Feat) (u : Nat) (xs : List Feat) (done : Bool) : Prop :=
 u ≤ s.length ∧ SS (ids xs) ∧ (∀ x, x ∈ ids xs ↔ x ∈ ids (s.take u) ∨ (done = true ∧ x = f.Id)) ∧ (done = false → (∀ x ∈ ids (s.take u), Op.bytesLess x f.Id = true) ∧ xs = s.take u) ∧
  (done = true → ∀ y ∈ ids (s.drop u), Op.bytesLess f.Id y = true) ∧ xs.length ≤ u + 1 ∧ (∀ z ∈ xs, z ∈ s ∨ z = f)
theorem ss_snoc {l : List Str} {x : Str} (h : SS l) (hx : ∀ y ∈ l, Op.bytesLess y x = true) : SS (l ++ [x]) := by
 unfold SS
 rw [List.pairwise_append]
 exact ⟨h, List.pairwise_singleton _ _, fun a ha b hb => by rw [List.mem_singleton.1 hb]; exact hx a ha⟩
theorem ids_take {s : List Feat} {u : Nat} (hu : u < s.length) : ids (s.take (u + 1)) = ids (s.take u) ++ [(nth s (u : Int)).Id] := by rw [take_nth s hu, ids_app]; rfl
theorem ids_cut (s : List Feat) (u : Nat) : ids s = ids (s.take u) ++ ids (s.drop u) := by rw [← ids_app, List.take_append_drop]
theorem dropNth {s : List Feat} {u : Nat} (hu : u < s.length) : s.drop u = nth s (u : Int) :: s.drop (u + 1) := by rw [nth_nat s hu]; exact List.drop_eq_getElem_cons hu
theorem ss_lt {s : List Feat} (h : SS (ids s)) {u : Nat} (hu : u < s.length) : (∀ x ∈ ids (s.take u), Op.bytesLess x (nth s (u : Int)).Id = true) ∧ ∀ y ∈ ids (s.drop (u + 1)), Op.bytesLess (nth s (u : Int)).Id y = true := by
 have e := ids_cut s u
 rw [dropNth hu] at e
 have e2 : ids (nth s (u : Int) :: s.drop (u + 1)) = (nth s (u : Int)).Id :: ids (s.drop (u + 1)) := rfl
 rw [e2] at e
 rw [e] at h
 obtain ⟨h1, h2, h3⟩ := List.pairwise_append.1 h
 exact ⟨fun x hx => h3 x hx _ List.mem_cons_self, (List.pairwise_cons.1 h2).1⟩
theorem F119.law (s : List Feat) (f : Feat) (Q : List Feat → Prop) (hl : s.length ≤ 1048576) (hs : SS (ids s)) (hq : ∀ r, SS (ids r) → (∀ x, x ∈ ids r ↔ x ∈ ids s ∨ x = f.Id) → r.length ≤ s.length + 1 → (∀ z ∈ r, z ∈ s ∨ z = f) → Q r) : F119.E s f Q := by
 unfold F119.E
 refine ⟨fun xs done i => ∃ u : Nat, i = u ∧ PutS s f u xs done, fun _ _ i => (s.length - i).toNat, ⟨0, rfl, Nat.zero_le _, by simp [ids, SS], by simp [ids], fun _ => ⟨by simp [ids], by simp⟩, (fun h => by cases h), by simp, by simp⟩, ?_⟩
 rintro xs done _ ⟨u, rfl, hu, h1, h2, h3, h4, h5, h6⟩
 by_cases h : u < s.length
 ·rw [if_pos (by simpa using h)]
  obtain ⟨b1, b2⟩ := ss_lt hs h
  have hin : nth s (u : Int) ∈ s := nth_mem s h
  have hdr : ∀ y ∈ ids (s.drop u), y = (nth s (u : Int)).Id ∨ y ∈ ids (s.drop (u + 1)) := fun y hy => by rw [dropNth h] at hy; exact List.mem_cons.1 hy
  have hcur : (nth s (u : Int)).Id ∈ ids (s.drop u) := by rw [dropNth h]; exact List.mem_cons_self
  have hdr' : ∀ y ∈ ids (s.drop (u + 1)), y ∈ ids (s.drop u) := fun y hy => by rw [dropNth h]; exact List.mem_cons_of_mem _ hy
  have stay : ∀ d, d = done → Op.bytesLess (nth s (u : Int)).Id f.Id = true ∨ d = true → xs.length + 1 ≤ u + 1 + 1 → PutS s f (u + 1) (xs ++ [nth s (u : Int)]) d := fun d hd hor hlen => by
   subst hd
   refine ⟨h, ?_, fun x => ?_, fun hdn => ⟨fun x hx => ?_, ?_⟩, fun hdn y hy => h4 hdn y (hdr' y hy), by simp only [List.length_append, List.length_singleton]; omega, fun z hz => ?_⟩
   ·rw [ids_app]
    refine ss_snoc h1 fun y hy => ?_
    rcases (h2 y).1 hy with hy | ⟨hd, rfl⟩
    ·exact b1 y hy
    ·exact h4 hd _ hcur
   ·rw [ids_app, List.mem_append, h2, ids_take h, List.mem_append]
    constructor
    ·rintro ((hx | hx) | hx)
     ·exact .inl (.inl hx)
     ·exact .inr hx
     ·exact .inl (.inr hx)
    ·rintro ((hx | hx) | hx)
     ·exact .inl (.inl hx)
     ·exact .inr hx
     ·exact .inl (.inr hx)
   ·rw [ids_take h] at hx
    rcases List.mem_append.1 hx with hx | hx
    ·exact (h3 hdn).1 x hx
    ·rw [List.mem_singleton.1 hx]
     rcases hor with hor | hor
     ·exact hor
     ·rw [hdn] at hor; cases hor
   ·rw [(h3 hdn).2, ← take_nth s h]
   ·rcases List.mem_append.1 hz with hz | hz
    ·exact h6 z hz
    ·rw [List.mem_singleton.1 hz]; exact .inl hin
  cases done with
  | true =>
   rw [if_neg RD]
   have hlt := h4 rfl _ hcur
   have hne : (nth s (u : Int)).Id ≠ f.Id := fun e => by rw [e, less_irr] at hlt; cases hlt
   refine ⟨OM, ?_⟩
   rw [if_pos (by rw [bne_iff_ne]; exact hne)]
   exact ⟨OM, by simp only [List.length_cons, List.length_nil]; omega, OM, ⟨u + 1, OM, stay true rfl (.inr rfl) OM⟩, by dsimp only; omega⟩
  | false =>
   rw [if_pos RD]
   obtain ⟨c1, c2⟩ := h3 rfl
   have hxl : xs.length = u := by rw [c2, List.length_take]; omega
   refine ⟨OM, ?_⟩
   cases k : Op.bytesLess (nth s (u : Int)).Id f.Id with
   | true =>
    rw [if_neg RD]
    have hne : (nth s (u : Int)).Id ≠ f.Id := fun e => by rw [e, less_irr] at k; cases k
    refine ⟨OM, ?_⟩
    rw [if_pos (by rw [bne_iff_ne]; exact hne)]
    exact ⟨OM, by simp only [List.length_cons, List.length_nil]; omega, OM, ⟨u + 1, OM, stay false rfl (.inl k) OM⟩, by dsimp only; omega⟩
   | false =>
    rw [if_pos RD]
    have g1 : SS (ids (xs ++ [f])) := by
     rw [ids_app]
     refine ss_snoc h1 fun y hy => ?_
     rcases (h2 y).1 hy with hy | ⟨hd, _⟩
     ·exact c1 y hy
     ·cases hd
    refine ⟨by simp only [List.length_cons, List.length_nil]; omega, OM, ?_⟩
    by_cases hne : (nth s (u : Int)).Id = f.Id
    ·rw [if_neg (by rw [hne]; simp)]
     refine ⟨OM, ⟨u + 1, OM, h, g1, fun x => ?_, (fun hd => by cases hd), fun _ y hy => by rw [← hne]; exact b2 y hy, by simp only [List.length_append, List.length_singleton]; omega, fun z hz => ?_⟩, by dsimp only; omega⟩
     ·rw [ids_app, List.mem_append, h2, ids_take h, List.mem_append, hne]
      show _ ∨ x ∈ [f.Id] ↔ _
      rw [List.mem_singleton]
      constructor
      ·rintro ((hx | ⟨hd, _⟩) | hx)
       ·exact .inl (.inl hx)
       ·cases hd
       ·exact .inr ⟨rfl, hx⟩
      ·rintro ((hx | hx) | ⟨_, hx⟩)
       ·exact .inl (.inl hx)
       ·exact .inr hx
       ·exact .inr hx
     ·rcases List.mem_append.1 hz with hz | hz
      ·exact h6 z hz
      ·exact .inr (List.mem_singleton.1 hz)
    ·rw [if_pos (by rw [bne_iff_ne]; exact hne)]
     have hlt : Op.bytesLess f.Id (nth s (u : Int)).Id = true := by
      rcases less_or k with g | g
      ·exact g
      ·exact absurd g.symm hne
     refine ⟨OM, by simp only [List.length_append, List.length_cons, List.length_nil]; omega, OM, ⟨u + 1, OM, h, ?_, fun x => ?_, (fun hd => by cases hd), fun _ y hy => less_trans hlt (b2 y hy), by simp only [List.length_append, List.length_singleton]; omega, fun z hz => ?_⟩, by dsimp only; omega⟩
     ·rw [ids_app]
      refine ss_snoc g1 fun y hy => ?_
      rw [ids_app] at hy
      rcases List.mem_append.1 hy with hy | hy
      ·rcases (h2 y).1 hy with hy | ⟨hd, _⟩
       ·exact b1 y hy
       ·cases hd
      ·have hy : y = f.Id := List.mem_singleton.1 hy
       rw [hy]; exact hlt
     ·rw [ids_app, ids_app, List.mem_append, List.mem_append, h2, ids_take h, List.mem_append]
      show (_ ∨ x ∈ [f.Id]) ∨ x ∈ [(nth s (u : Int)).Id] ↔ _
      rw [List.mem_singleton, List.mem_singleton]
      constructor
      ·rintro (((hx | ⟨hd, _⟩) | hx) | hx)
       ·exact .inl (.inl hx)
       ·cases hd
       ·exact .inr ⟨rfl, hx⟩
       ·exact .inl (.inr hx)
      ·rintro ((hx | hx) | ⟨_, hx⟩)
       ·exact .inl (.inl (.inl hx))
       ·exact .inr hx
       ·exact .inl (.inr hx)
     ·rcases List.mem_append.1 hz with hz | hz
      ·rcases List.mem_append.1 hz with hz | hz
       ·exact h6 z hz
       ·exact .inr (List.mem_singleton.1 hz)
      ·rw [List.mem_singleton.1 hz]; exact .inl hin
 ·rw [if_neg (by simpa using h)]
  have : u = s.length := by omega
  subst this
  rw [List.take_length] at h2 h3
  cases done with
  | true =>
   rw [if_neg RD]
   exact hq xs h1 (fun x => by rw [h2]; simp) h5 h6
  | false =>
   rw [if_pos RD]
   obtain ⟨c1, c2⟩ := h3 rfl
   refine ⟨by simp only [List.length_cons, List.length_nil]; omega, hq _ ?_ (fun x => ?_) (by rw [c2]; simp) fun z hz => ?_⟩
   ·rw [ids_app]
    refine ss_snoc h1 fun y hy => ?_
    rcases (h2 y).1 hy with hy | ⟨hd, _⟩
    ·exact c1 y hy
    ·cases hd
   ·rw [ids_app, List.mem_append, h2]
    show _ ∨ x ∈ [f.Id] ↔ _
    rw [List.mem_singleton]; simp
   ·rcases List.mem_append.1 hz with hz | hz
    ·exact h6 z hz
    ·exact .inr (List.mem_singleton.1 hz)
def putL (s : List Feat) (f : Feat) : List Feat := (s.filter fun x => Op.bytesLess x.Id f.Id) ++ f :: s.filter fun x => Op.bytesLess f.Id x.Id
theorem putL_ss {s : List Feat} (h : SS (ids s)) (f : Feat) : SS (ids (putL s f)) := by
 have h := List.pairwise_map.1 h
 refine List.pairwise_map.2 ?_
 unfold putL
 refine List.pairwise_append.2 ⟨h.filter _, List.pairwise_cons.2 ⟨fun x hx => (List.mem_filter.1 hx).2, h.filter _⟩, fun a ha b hb => ?_⟩
 have h1 := (List.mem_filter.1 ha).2
 rcases List.mem_cons.1 hb with rfl | hb
 ·exact h1
 ·exact less_trans h1 (List.mem_filter.1 hb).2
theorem putL_mem {s : List Feat} {f x : Feat} : x ∈ putL s f ↔ (x ∈ s ∧ x.Id ≠ f.Id) ∨ x = f := by
 unfold putL
 rw [List.mem_append, List.mem_cons, List.mem_filter, List.mem_filter]
 constructor
 ·rintro (⟨h1, h2⟩ | rfl | ⟨h1, h2⟩)
  ·exact .inl ⟨h1, fun e => by rw [e, less_irr] at h2; cases h2⟩
  ·exact .inr rfl
  ·exact .inl ⟨h1, fun e => by rw [e, less_irr] at h2; cases h2⟩
 ·rintro (⟨h1, h2⟩ | rfl)
  ·cases k : Op.bytesLess x.Id f.Id with
   | true => exact .inl ⟨h1, rfl⟩
   | false =>
    rcases less_or k with g | g
    ·exact .inr (.inr ⟨h1, g⟩)
    ·exact absurd g.symm h2
  ·exact .inr (.inl rfl)
theorem nodup_ss {l : List Str} (h : SS l) : l.Nodup := h.imp fun {x y} hxy e => by rw [e, less_irr] at hxy; cases hxy
theorem putL_ids {s : List Feat} {f : Feat} {i : Str} : i ∈ ids (putL s f) ↔ i ∈ ids s ∨ i = f.Id := by
 constructor
 ·intro h
  obtain ⟨x, hx, rfl⟩ := List.mem_map.1 h
  rcases putL_mem.1 hx with g | rfl
  ·exact .inl (List.mem_map.2 ⟨x, g.1, rfl⟩)
  ·exact .inr rfl
 ·rintro (h | rfl)
  ·obtain ⟨x, hx, rfl⟩ := List.mem_map.1 h
   by_cases e : x.Id = f.Id
   ·exact List.mem_map.2 ⟨f, putL_mem.2 (.inr rfl), e.symm⟩
   ·exact List.mem_map.2 ⟨x, putL_mem.2 (.inl ⟨hx, e⟩), rfl⟩
  ·exact List.mem_map.2 ⟨f, putL_mem.2 (.inr rfl), rfl⟩
theorem putL_len {s : List Feat} (hs : SS (ids s)) (f : Feat) : (putL s f).length = s.length + (if f.Id ∈ ids s then 0 else 1) := by
 have e1 : (ids (putL s f)).length = (putL s f).length := List.length_map _
 have e2 : (ids s).length = s.length := List.length_map _
 rw [← e1, ← e2]
 have h := putL_ss hs f
 by_cases g : f.Id ∈ ids s
 ·rw [if_pos g, SS.ext h hs fun x => by rw [putL_ids]; exact ⟨fun h => h.elim id fun e => e ▸ g, .inl⟩]; rfl
 ·rw [if_neg g]
  have p : (ids (putL s f)).Perm (f.Id :: ids s) := (List.perm_ext_iff_of_nodup (nodup_ss h) (List.nodup_cons.2 ⟨g, nodup_ss hs⟩)).2 fun x => by rw [putL_ids, List.mem_cons]; exact or_comm
  rw [p.length_eq, List.length_cons]
theorem putL_fs {s : List Feat} (hs : FS s) (f : Feat) : FS (putL s f) := FS.of_ids (putL_ss hs.toIds f)
theorem putL_ok {s : List Feat} {f : Feat} (hs : sheetOk s = true) (hf : featOk f = true) (hl : (putL s f).length ≤ 8) : sheetOk (putL s f) = true := by
 refine sheet_of (putL_ss (sheet_ss hs).1 f) hl fun x hx => ?_
 rcases putL_mem.1 hx with g | rfl
 ·exact (sheet_ss hs).2.2 x g.1
 ·exact hf
def putOf (s : List Feat) (f : Feat) : List Feat × Bool := if sheetOk s && featOk f && decide ((putL s f).length ≤ 8) then (putL s f, true) else ([], false)
def cutL (s : List Feat) (i : Str) : List Feat := s.filter fun f => decide (f.Id ≠ i)
def cutOf (s : List Feat) (i : Str) : List Feat × Bool := if sheetOk s && decide (i ∈ ids s) then (cutL s i, true) else ([], false)
theorem putOf_yes {s : List Feat} {f : Feat} (h1 : sheetOk s = true) (h2 : featOk f = true) (h3 : (putL s f).length ≤ 8) : putOf s f = (putL s f, true) := by
 unfold putOf; rw [h1, h2, decide_eq_true h3]; rfl
theorem cutL_mem {s : List Feat} {i : Str} {f : Feat} : f ∈ cutL s i ↔ f ∈ s ∧ f.Id ≠ i := by
 unfold cutL; rw [List.mem_filter, decide_eq_true_eq]
theorem cutL_fs {s : List Feat} (h : FS s) (i : Str) : FS (cutL s i) := List.Pairwise.filter _ h
theorem cutL_ok {s : List Feat} (h : sheetOk s = true) (i : Str) : sheetOk (cutL s i) = true :=
 sheet_of (cutL_fs (sheet_fs h) i).toIds (Nat.le_trans (List.length_filter_le _ _) (sheet_ss h).2.1) fun f hf => (sheet_ss h).2.2 f (cutL_mem.1 hf).1
theorem cutOf_yes {s : List Feat} {i : Str} (h1 : sheetOk s = true) (h2 : i ∈ ids s) : cutOf s i = (cutL s i, true) := by
 unfold cutOf; rw [h1, decide_eq_true h2]; rfl
theorem sideOf_put {s : List Feat} (h : FS s) (f : Feat) (i : Str) : sideOf (putL s f) i = if i = f.Id then (f, true) else sideOf s i := by
 by_cases e : i = f.Id
 ·rw [if_pos e, e]; exact sideOf_of (putL_fs h f) (putL_mem.2 (.inr rfl))
 ·rw [if_neg e]
  refine sideOf_eq (putL_fs h f) h fun x hx => ?_
  rw [putL_mem]
  constructor
  ·rintro (g | rfl)
   ·exact g.1
   ·exact absurd hx.symm e
  ·intro g; exact .inl ⟨g, fun k => e (hx.symm.trans k)⟩
theorem side_ext {l m : List Feat} (hl : FS l) (hm : FS m) (h : ∀ i, sideOf l i = sideOf m i) : l = m := by
 have key : ∀ {a b : List Feat}, FS a → FS b → (∀ i, sideOf a i = sideOf b i) → ∀ f ∈ a, f ∈ b := fun ha hb h f hf => by
  have h1 := sideOf_of ha hf
  rw [h f.Id] at h1
  have h2 := (sideOf_hit (show (sideOf _ f.Id).2 = true by rw [h1])).1
  rw [h1] at h2; exact h2
 exact FS.ext hl hm fun f => ⟨key hl hm h f, key hm hl (fun i => (h i).symm) f⟩
theorem side_none {s : List Feat} {i : Str} (h : i ∉ ids s) : sideOf s i = (zeroF, false) := by
 have : (sideOf s i).2 = false := by
  cases k : (sideOf s i).2 with
  | false => rfl
  | true => exact absurd (sideOf_iff.1 k) h
 exact Prod.ext (sideOf_no this).1 this
theorem thOf_none {s : List Feat} {i : Str} (h : i ∉ ids s) : thOf s i = ⟨false, zeroF⟩ := by unfold thOf; rw [side_none h]
theorem thOf_put {s : List Feat} (h : FS s) (f : Feat) (i : Str) : thOf (putL s f) i = if i = f.Id then ⟨true, f⟩ else thOf s i := by
 unfold thOf
 rw [sideOf_put h]
 by_cases e : i = f.Id
 ·rw [if_pos e, if_pos e]
 ·rw [if_neg e, if_neg e]
theorem join_fs {o a b : List Feat} (ho : sheetOk o = true) (ha : sheetOk a = true) (hb : sheetOk b = true) : FS (joinFs o a b (ids3 o a b)) := FS.of_ids (by rw [joinFs_ids ho ha hb]; exact List.Pairwise.filter _ (uniq_ss _))
theorem join_side {o a b : List Feat} (ho : sheetOk o = true) (ha : sheetOk a = true) (hb : sheetOk b = true) (i : Str) : sideOf (joinFs o a b (ids3 o a b)) i = ((oneAt o a b i).1.f, (oneAt o a b i).1.has) := by
 rw [← thOf_join ho ha hb i]; rfl
theorem joinCs_cons (o a b : List Feat) (i : Str) (l : List Str) : joinCs o a b (i :: l) = clashAtL i (oneAt o a b i).2 ++ joinCs o a b l := by unfold joinCs; simp
theorem joinCs_filter {o a b : List Feat} {p : Str → Bool} (h : ∀ i, p i = false → (oneAt o a b i).2 = []) (l : List Str) : joinCs o a b l = joinCs o a b (l.filter p) := by
 induction l with
 | nil => rfl
 | cons i l ih =>
  rw [joinCs_cons, ih]
  cases k : p i with
  | true => rw [List.filter_cons_of_pos k, joinCs_cons]
  | false => rw [List.filter_cons_of_neg (by rw [k]; exact Bool.false_ne_true), h i k]; rfl
theorem joinCs_congr {o a b a' b' : List Feat} {l : List Str} (h : ∀ i ∈ l, (oneAt o a b i).2 = (oneAt o a' b' i).2) : joinCs o a b l = joinCs o a' b' l := by
 unfold joinCs
 rw [List.map_congr_left fun i hi => by rw [h i hi]]
theorem join_put {o a b : List Feat} {f : Feat} (ko : sheetOk o = true) (ka : sheetOk a = true) (kb : sheetOk b = true) (km : sheetOk (putL a f) = true) (no : f.Id ∉ ids o) (na : f.Id ∉ ids a) (nb : f.Id ∉ ids b) :
  joinFs o (putL a f) b (ids3 o (putL a f) b) = putL (joinFs o a b (ids3 o a b)) f ∧ joinCs o (putL a f) b (ids3 o (putL a f) b) = joinCs o a b (ids3 o a b) ∧ f.Id ∉ ids (joinFs o a b (ids3 o a b)) := by
 have one : ∀ i, oneAt o (putL a f) b i = if i = f.Id then (⟨true, f⟩, []) else oneAt o a b i := fun i => by
  unfold oneAt
  rw [thOf_put (sheet_fs ka)]
  by_cases e : i = f.Id
  ·rw [if_pos e, if_pos e, e, thOf_none no, thOf_none nb, oneOf_r]
  ·rw [if_neg e, if_neg e]
 have hj := join_fs ko ka kb
 refine ⟨side_ext (join_fs ko km kb) (putL_fs hj f) fun i => ?_, ?_, fun h => ?_⟩
 ·rw [join_side ko km kb, sideOf_put hj, one]
  by_cases e : i = f.Id
  ·rw [if_pos e, if_pos e]
  ·rw [if_neg e, if_neg e, join_side ko ka kb]
 ·rw [joinCs_filter (p := fun i => decide (i ≠ f.Id)) (fun i hi => by
   have e : i = f.Id := by simpa using hi
   rw [one, if_pos e])]
  have el : (ids3 o (putL a f) b).filter (fun i => decide (i ≠ f.Id)) = ids3 o a b := SS.ext (List.Pairwise.filter _ (uniq_ss _)) (uniq_ss _) fun i => by
   rw [List.mem_filter]
   unfold ids3
   rw [uniq_mem, uniq_mem]
   simp only [List.mem_append, putL_ids, decide_eq_true_eq]
   constructor
   ·rintro ⟨(h | h | h) | h, e⟩
    ·exact .inl (.inl h)
    ·exact .inl (.inr h)
    ·exact absurd h e
    ·exact .inr h
   ·rintro ((h | h) | h)
    ·exact ⟨.inl (.inl h), fun e => no (e ▸ h)⟩
    ·exact ⟨.inl (.inr (.inl h)), fun e => na (e ▸ h)⟩
    ·exact ⟨.inr h, fun e => nb (e ▸ h)⟩
  rw [el]
  refine joinCs_congr fun i hi => ?_
  rw [one, if_neg fun e => ?_]
  subst e
  unfold ids3 at hi
  rw [uniq_mem] at hi
  rcases List.mem_append.1 hi with h | h
  ·rcases List.mem_append.1 h with h | h
   ·exact no h
   ·exact na h
  ·exact nb h
 ·rw [joinFs_ids ko ka kb, List.mem_filter] at h
  have := h.1
  unfold ids3 at this
  rw [uniq_mem] at this
  rcases List.mem_append.1 this with h | h
  ·rcases List.mem_append.1 h with h | h
   ·exact no h
   ·exact na h
  ·exact nb h
theorem cut_put {s : List Feat} (hs : FS s) {f : Feat} (h : f.Id ∉ ids s) : cutL (putL s f) f.Id = s := FS.ext (cutL_fs (putL_fs hs f) _) hs fun x => by
 rw [cutL_mem, putL_mem]
 constructor
 ·rintro ⟨g | rfl, e⟩
  ·exact g.1
  ·exact absurd rfl e
 ·intro g
  have : x.Id ≠ f.Id := fun e => h (List.mem_map.2 ⟨x, g, e⟩)
  exact ⟨.inl ⟨g, this⟩, this⟩
theorem F62.law (code : List UInt8) (Q : List UInt8 → Int → Prop) (hq : ∀ b, b.length ≤ 2000 → Q b 0) : F62.E code Q := by
 unfold F62.E
 by_cases h : (code.length : Int) > 2000
 ·rw [if_pos (by simpa using h)]
  exact ⟨OM, hq _ (by rw [List.length_take]; omega)⟩
 ·rw [if_neg (by simpa using h)]
  exact hq _ OM
theorem ediv_le {p l : Int} (hp : 0 ≤ p) (hl : 0 < l) : 0 ≤ p / l ∧ p / l ≤ p := ⟨Int.ediv_nonneg hp OM, Int.ediv_le_self _ hp⟩
theorem F25.law (b : List UInt8) (p n : Int) (Q : Int → Int → Prop) (hb : b.length ≤ 2000) (hp : 0 ≤ p) (hp1 : p ≤ 1099511627776) (hq : ∀ v, 0 ≤ v → (v < n ∨ v = 0) → Q v (p + 1)) : F25.E b p n Q := by
 unfold F25.E
 refine ⟨by unfold I64; omega, ?_⟩
 by_cases hn : n < 1
 ·rw [if_pos (by simpa using hn)]; exact hq 0 OM (.inr rfl)
 rw [if_neg (by simpa using hn)]
 by_cases hl : (b.length : Int) = 0
 ·rw [if_pos (by simpa using hl)]; exact hq 0 OM (.inr rfl)
 rw [if_neg (by simpa using hl)]
 refine ⟨fun _ => by unfold I64; omega, ?_⟩
 rw [show p + 1 - 1 = p by omega]
 have fin : ∀ z : Int, 0 ≤ z → Q (z % n) (p + 1) := fun z hz => hq _ (Int.emod_nonneg _ OM) (.inl (Int.emod_lt_of_pos _ OM))
 by_cases hc : p < (b.length : Int)
 ·rw [if_pos (by simpa using hc)]
  exact ⟨OM, ⟨OM, OM⟩, fin _ OM⟩
 rw [if_neg (by simpa using hc)]
 have hlen : (0 : Int) < (b.length : Int) := by omega
 generalize hL : (b.length : Int) = L at *
 have m1 := Int.emod_nonneg p (show L ≠ 0 by omega)
 have m2 := Int.emod_lt_of_pos p hlen
 have m3 := Int.emod_nonneg (p * 7 + 3) (show L ≠ 0 by omega)
 have m4 := Int.emod_lt_of_pos (p * 7 + 3) hlen
 obtain ⟨d1, d2⟩ := ediv_le hp hlen
 generalize p % L = r1 at *
 generalize (p * 7 + 3) % L = r2 at *
 generalize p / L = q at *
 have u1 := (nth b r1).toNat_lt
 have u2 := (nth b r2).toNat_lt
 generalize (nth b r1).toNat = x1 at *
 generalize (nth b r2).toNat = x2 at *
 have s0 : 0 ≤ (x1 : Int) * 131 + (x2 : Int) * 1117 + p * 29 + q * 53 := by omega
 have s1 : (x1 : Int) * 131 + (x2 : Int) * 1117 + p * 29 + q * 53 ≤ 9223372036854775807 := by omega
 refine ⟨OM, OM, fun _ => by unfold I64; omega, fun _ => by unfold I64; omega, fun _ => by unfold I64; omega, OM, OM, fun _ => by unfold I64; omega, fun _ => by unfold I64; omega, fun _ => by unfold I64; omega, fun _ => by unfold I64; omega, OM, fun _ => by unfold I64; omega, fun _ => by unfold I64; omega, OM, ?_⟩
 generalize (x1 : Int) * 131 + (x2 : Int) * 1117 + p * 29 + q * 53 = s at *
 have hx : 0 ≤ xor64 s (s / 64) := xor64_nonneg ⟨s0, s1⟩ OM
 exact ⟨OM, fin _ hx⟩
theorem F35.law (b : List UInt8) (p : Int) (l : List Int) (Q : Int → Int → Prop) (hb : b.length ≤ 2000) (hp : 0 ≤ p) (hp1 : p ≤ 1099511627776) (hl : 0 < l.length) (hq : ∀ s ∈ l, Q s (p + 1)) : F35.E b p l Q := by
 unfold F35.E
 exact F25.law _ _ _ _ hb hp hp1 fun v h0 h1 => ⟨OM, hq _ (nth_memi l h0 OM)⟩
theorem F125.law (b : List UInt8) (p : Int) (Q : Pt → Int → Prop) (hb : b.length ≤ 2000) (hp : 0 ≤ p) (hp1 : p ≤ 1000000000) (hq : ∀ x y, 0 ≤ x → x ≤ 3 → 0 ≤ y → y ≤ 5 → Q ⟨x, y⟩ (p + 2)) : F125.E b p Q := by
 unfold F125.E
 refine F25.law _ _ _ _ hb hp OM fun v h0 h1 => F35.law _ _ _ _ hb OM OM RD fun y hy => ?_
 rw [show p + 1 + 1 = p + 2 by omega]
 simp only [List.mem_cons, List.not_mem_nil, or_false] at hy
 exact hq _ _ h0 OM OM OM
theorem F109.m_is (a b : Int) : F109.m a b = min a b := by
 unfold F109.m
 by_cases h : a < b
 ·simp [h]; omega
 ·simp [h]; omega
theorem F110.m_is (n : Int) : F110.m n = inR n := by
 unfold F110.m inR
 by_cases h : -1000 ≤ n
 ·rw [if_pos (by rw [decide_eq_true_eq]; omega), decide_eq_true h, Bool.true_and]
 ·rw [if_neg (by rw [decide_eq_true_eq]; omega), decide_eq_false h, Bool.false_and]
theorem F111.law (p : List Pt) (Q : Bool → Prop) (hq : Q (ptsOk p && decide (p.length ≤ 6))) : F111.E p Q := by
 unfold F111.E
 unfold ptsOk at hq
 refine loop_all p.length (fun k => ptOk (nth p (k : Int)) && (decide (k = 0) || !(decide (nth p ((k : Int) - 1) = nth p (k : Int))))) (fun I mu k hk hp hn => ?_) (fun ha => ?_)
 ·refine ⟨OM, ?_⟩
  rw [F110.m_is, F110.m_is]
  have bad : (ptOk (nth p (k : Int)) && (decide (k = 0) || !(decide (nth p ((k : Int) - 1) = nth p (k : Int))))) = false → Q false := fun h => by
   rw [allN_false hk h, Bool.false_and] at hq; exact hq
  cases h1 : inR (nth p (k : Int)).X with
  | false => rw [if_pos RD]; exact bad (by simp only [ptOk, h1, Bool.false_and])
  | true =>
   rw [if_neg RD]
   refine ⟨OM, ?_⟩
   cases h2 : inR (nth p (k : Int)).Y with
   | false => rw [if_pos RD]; exact bad (by simp only [ptOk, h2, Bool.and_false, Bool.false_and])
   | true =>
    rw [if_neg RD]
    have hpt : ptOk (nth p (k : Int)) = true := by simp only [ptOk, h1, h2, Bool.and_self]
    by_cases hk0 : k = 0
    ·rw [if_neg (by rw [decide_eq_true_eq]; omega)]
     obtain ⟨i1, i2⟩ := hn (by rw [hpt, decide_eq_true hk0]; rfl)
     exact ⟨OM, i1, i2⟩
    ·rw [if_pos (by rw [decide_eq_true_eq]; omega)]
     refine ⟨OM, fun _ => by unfold I64; omega, OM, ?_⟩
     rw [eqPt_is]
     by_cases he : nth p ((k : Int) - 1) = nth p (k : Int)
     ·rw [if_pos (by rw [decide_eq_true_eq]; exact he.symm)]
      exact bad (by rw [hpt, decide_eq_false hk0, decide_eq_true he]; rfl)
     ·rw [if_neg (by rw [decide_eq_true_eq]; exact fun e => he e.symm)]
      obtain ⟨i1, i2⟩ := hn (by rw [hpt, decide_eq_false hk0, decide_eq_false he]; rfl)
      exact ⟨OM, i1, i2⟩
 ·rw [allN_true ha, Bool.true_and] at hq
  have e2 : decide ((p.length : Int) ≤ 6) = decide (p.length ≤ 6) := decide_eq_decide.2 OM
  rw [e2]; exact hq
theorem F63.law (s : Shape) (Q : Bool → Prop) (hq : Q (shapeOk s)) : F63.E s Q := by
 unfold F63.E
 unfold shapeOk at hq
 refine F111.law _ _ ?_
 cases h1 : ptsOk s.Pts with
 | false => rw [h1, Bool.false_and] at hq; rw [Bool.false_and, if_pos RD]; exact hq
 | true =>
  rw [h1, Bool.true_and] at hq
  rw [Bool.true_and]
  unfold kindOk at hq
  by_cases h6 : s.Pts.length ≤ 6
  ·rw [decide_eq_true h6, if_neg RD]
   by_cases k1 : s.Kind = 1
   ·rw [if_pos k1] at hq
    rw [if_pos (by rw [beq_iff_eq]; exact k1)]
    have : ((s.Pts.length : Int) == 1) = decide (s.Pts.length = 1) := by rw [Bool.eq_iff_iff, beq_iff_eq, decide_eq_true_eq]; omega
    rw [this]; exact hq
   rw [if_neg k1] at hq
   rw [if_neg (by rw [beq_iff_eq]; exact k1)]
   by_cases k2 : s.Kind = 2
   ·rw [if_pos k2, decide_eq_true h6, Bool.and_true] at hq
    rw [if_pos (by rw [beq_iff_eq]; exact k2)]
    have : decide ((s.Pts.length : Int) ≥ 2) = decide (2 ≤ s.Pts.length) := decide_eq_decide.2 OM
    rw [this]; exact hq
   rw [if_neg k2] at hq
   rw [if_neg (by rw [beq_iff_eq]; exact k2)]
   by_cases k3 : s.Kind = 3
   ·rw [if_pos k3, decide_eq_true h6, Bool.and_true] at hq
    rw [if_pos (by rw [beq_iff_eq]; exact k3)]
    by_cases h3 : 3 ≤ s.Pts.length
    ·rw [decide_eq_true h3, Bool.true_and] at hq
     rw [if_pos (by rw [decide_eq_true_eq]; omega), eqPt_is]
     exact ⟨OM, fun _ => by unfold I64; omega, OM, hq⟩
    ·rw [decide_eq_false h3, Bool.false_and] at hq
     rw [if_neg (by rw [decide_eq_true_eq]; omega)]; exact hq
   ·rw [if_neg k3] at hq
    rw [if_neg (by rw [beq_iff_eq]; exact k3)]; exact hq
  ·rw [decide_eq_false h6, if_pos RD]
   have : (if s.Kind = 1 then decide (s.Pts.length = 1) else if s.Kind = 2 then decide (2 ≤ s.Pts.length) && decide (s.Pts.length ≤ 6)
 else if s.Kind = 3 then decide (3 ≤ s.Pts.length) && decide (s.Pts.length ≤ 6) && !(decide (nth s.Pts 0 = nth s.Pts ((s.Pts.length : Int) - 1))) else false) = false := by
    rw [decide_eq_false h6, decide_eq_false (show ¬ s.Pts.length = 1 by omega)]
    simp
   rw [this] at hq; exact hq
theorem F64.law (b : List UInt8) (p : Int) (Q : Shape → Int → Prop) (hb : b.length ≤ 2000) (hp : 0 ≤ p) (hp1 : p ≤ 100000000) (hq : ∀ s p', shapeOk s = true → (∀ q ∈ s.Pts, NX q) → p ≤ p' → p' ≤ p + 40 → Q s p') : F64.E b p Q := by
 unfold F64.E
 refine F35.law _ _ _ _ hb hp OM RD fun k hk => F25.law _ _ _ _ hb OM OM fun v hv0 hv1 => ?_
 have hk' : 1 ≤ k ∧ k ≤ 3 := by
  simp only [List.mem_cons, List.not_mem_nil, or_false] at hk; omega
 have fin : ∀ (xs : List Pt) (z : Int), (∀ q ∈ xs, NX q) → p ≤ z → z ≤ p + 30 → F63.E ⟨k, xs⟩ (fun r6 => (if !r6 then F125.E b z (fun r7 m4 => Q (⟨1, ([r7] : List Pt)⟩ : Shape) m4) else Q (⟨k, xs⟩ : Shape) z)) := fun xs z hx h1 h2 => by
  refine F63.law _ _ ?_
  cases h : shapeOk ⟨k, xs⟩ with
  | true => rw [if_neg RD]; exact hq _ _ h hx h1 OM
  | false => rw [if_pos RD]; exact F125.law _ _ _ hb OM OM fun x y x0 x1 y0 y1 => hq _ _ (dot_ok x0 OM y0 y1) (fun q hq' => by rw [List.mem_singleton.1 hq']; exact .of x1) OM OM
 refine ⟨by unfold I64; omega, fun w => 1 ≤ w ∧ w ≤ 6, by split <;> omega, ?_⟩
 rintro want ⟨w1, w2⟩
 refine ⟨fun i xs z => 0 ≤ i ∧ i ≤ 12 ∧ (xs.length : Int) ≤ i ∧ (∀ q ∈ xs, NX q) ∧ p + 2 ≤ z ∧ z ≤ p + 2 + 2 * i, fun i _ _ => (12 - i).toNat, ⟨OM, OM, by simp, by simp, OM, OM⟩, ?_⟩
 rintro i xs z ⟨h0, h1, h2, hx, h3, h4⟩
 by_cases hi : i < 12
 case neg => rw [if_neg (by simpa using hi)]; exact fin _ _ hx OM OM
 rw [if_pos (by simpa using hi)]
 by_cases hl : (xs.length : Int) < F109.m want 6
 case neg => rw [if_neg (by simpa using hl)]; exact fin _ _ hx OM OM
 rw [if_pos (by simpa using hl)]
 refine F125.law _ _ _ hb OM OM fun x y x0 x1 y0 y1 => ⟨fun _ => True, ?_, fun v _ => ⟨fun ys => (ys.length : Int) ≤ i + 1 ∧ ∀ q ∈ ys, NX q, ?_, fun ys hys => ⟨by unfold I64; omega, ⟨OM, OM, hys.1, hys.2, OM, OM⟩, by dsimp only; omega⟩⟩⟩
 ·by_cases h0 : (xs.length : Int) = 0
  ·rw [if_pos (by simpa using h0)]; trivial
  ·rw [if_neg (by simpa using h0)]
   refine ⟨fun _ => by unfold I64; omega, OM, ?_⟩
   split
   ·split
    ·trivial
    ·exact ⟨OM, trivial⟩
   ·trivial
 ·cases v with
  | true => rw [if_pos rfl]; exact ⟨by simp only [List.length_cons, List.length_nil]; omega, by simp only [List.length_append, List.length_cons, List.length_nil]; omega, fun q hq' => (List.mem_append.1 hq').elim (hx q) fun g => by rw [List.mem_singleton.1 g]; exact .of x1⟩
  | false => rw [if_neg RD]; exact ⟨OM, hx⟩
theorem F48.law (b : List UInt8) (p : Int) (l : List Str) (Q : Str → Int → Prop) (hb : b.length ≤ 2000) (hp : 0 ≤ p) (hp1 : p ≤ 1099511627776) (hl : 0 < l.length) (hq : ∀ s ∈ l, Q s (p + 1)) : F48.E b p l Q := by
 unfold F48.E
 exact F25.law _ _ _ _ hb hp hp1 fun v h0 h1 => ⟨OM, hq _ (nth_memi l h0 OM)⟩
theorem F112.law (b : List UInt8) (p : Int) (Q : Str → Int → Prop) (hb : b.length ≤ 2000) (hp : 0 ≤ p) (hp1 : p ≤ 1000000000) (hq : ∀ k ∈ keyL, Q k (p + 1)) : F112.E b p Q := by
 unfold F112.E
 exact F48.law _ _ _ _ hb hp OM RD hq
theorem F113.law (b : List UInt8) (p : Int) (Q : Str → Int → Prop) (hb : b.length ≤ 2000) (hp : 0 ≤ p) (hp1 : p ≤ 1000000000) (hq : ∀ k ∈ valL, Q k (p + 1)) : F113.E b p Q := by
 unfold F113.E
 exact F48.law _ _ _ _ hb hp OM RD hq
def PutT (s : List Tag) (key val : Str) (u : Nat) (xs : List Tag) (done : Bool) : Prop :=
 u ≤ s.length ∧ SS (keysT xs) ∧ (∀ x, x ∈ keysT xs ↔ x ∈ keysT (s.take u) ∨ (done = true ∧ x = key)) ∧ (done = false → (∀ x ∈ keysT (s.take u), Op.bytesLess x key = true) ∧ xs = s.take u) ∧
  (done = true → ∀ y ∈ keysT (s.drop u), Op.bytesLess key y = true) ∧ xs.length ≤ u + 1 ∧ (∀ z ∈ xs, z ∈ s ∨ z = ⟨key, val⟩)
theorem ss_snocT {l : List Str} {x : Str} (h : SS l) (hx : ∀ y ∈ l, Op.bytesLess y x = true) : SS (l ++ [x]) := by
 unfold SS
 rw [List.pairwise_append]
 exact ⟨h, List.pairwise_singleton _ _, fun a ha b hb => by rw [List.mem_singleton.1 hb]; exact hx a ha⟩
theorem keys_take {s : List Tag} {u : Nat} (hu : u < s.length) : keysT (s.take (u + 1)) = keysT (s.take u) ++ [(nth s (u : Int)).Key] := by rw [take_nth s hu, keys_app]; rfl
theorem keys_cut (s : List Tag) (u : Nat) : keysT s = keysT (s.take u) ++ keysT (s.drop u) := by rw [← keys_app, List.take_append_drop]
theorem dropNthT {s : List Tag} {u : Nat} (hu : u < s.length) : s.drop u = nth s (u : Int) :: s.drop (u + 1) := by rw [nth_nat s hu]; exact List.drop_eq_getElem_cons hu
theorem ss_ltT {s : List Tag} (h : SS (keysT s)) {u : Nat} (hu : u < s.length) : (∀ x ∈ keysT (s.take u), Op.bytesLess x (nth s (u : Int)).Key = true) ∧ ∀ y ∈ keysT (s.drop (u + 1)), Op.bytesLess (nth s (u : Int)).Key y = true := by
 have e := keys_cut s u
 rw [dropNthT hu] at e
 have e2 : keysT (nth s (u : Int) :: s.drop (u + 1)) = (nth s (u : Int)).Key :: keysT (s.drop (u + 1)) := rfl
 rw [e2] at e
 rw [e] at h
 obtain ⟨h1, h2, h3⟩ := List.pairwise_append.1 h
 exact ⟨fun x hx => h3 x hx _ List.mem_cons_self, (List.pairwise_cons.1 h2).1⟩
theorem F114.law (s : List Tag) (key val : Str) (Q : List Tag → Prop) (hl : s.length ≤ 1048576) (hs : SS (keysT s)) (hq : ∀ r, SS (keysT r) → (∀ x, x ∈ keysT r ↔ x ∈ keysT s ∨ x = key) → r.length ≤ s.length + 1 → (∀ z ∈ r, z ∈ s ∨ z = ⟨key, val⟩) → Q r) : F114.E s key val Q := by
 unfold F114.E
 refine ⟨fun xs done i => ∃ u : Nat, i = u ∧ PutT s key val u xs done, fun _ _ i => (s.length - i).toNat, ⟨0, rfl, Nat.zero_le _, by simp [keysT, SS], by simp [keysT], fun _ => ⟨by simp [keysT], by simp⟩, (fun h => by cases h), by simp, by simp⟩, ?_⟩
 rintro xs done _ ⟨u, rfl, hu, h1, h2, h3, h4, h5, h6⟩
 by_cases h : u < s.length
 ·rw [if_pos (by simpa using h)]
  obtain ⟨b1, b2⟩ := ss_ltT hs h
  have hin : nth s (u : Int) ∈ s := nth_mem s h
  have hdr : ∀ y ∈ keysT (s.drop u), y = (nth s (u : Int)).Key ∨ y ∈ keysT (s.drop (u + 1)) := fun y hy => by rw [dropNthT h] at hy; exact List.mem_cons.1 hy
  have hcur : (nth s (u : Int)).Key ∈ keysT (s.drop u) := by rw [dropNthT h]; exact List.mem_cons_self
  have hdr' : ∀ y ∈ keysT (s.drop (u + 1)), y ∈ keysT (s.drop u) := fun y hy => by rw [dropNthT h]; exact List.mem_cons_of_mem _ hy
  have stay : ∀ d, d = done → Op.bytesLess (nth s (u : Int)).Key key = true ∨ d = true → xs.length + 1 ≤ u + 1 + 1 → PutT s key val (u + 1) (xs ++ [nth s (u : Int)]) d := fun d hd hor hlen => by
   subst hd
   refine ⟨h, ?_, fun x => ?_, fun hdn => ⟨fun x hx => ?_, ?_⟩, fun hdn y hy => h4 hdn y (hdr' y hy), by simp only [List.length_append, List.length_singleton]; omega, fun z hz => ?_⟩
   ·rw [keys_app]
    refine ss_snocT h1 fun y hy => ?_
    rcases (h2 y).1 hy with hy | ⟨hd, rfl⟩
    ·exact b1 y hy
    ·exact h4 hd _ hcur
   ·rw [keys_app, List.mem_append, h2, keys_take h, List.mem_append]
    constructor
    ·rintro ((hx | hx) | hx)
     ·exact .inl (.inl hx)
     ·exact .inr hx
     ·exact .inl (.inr hx)
    ·rintro ((hx | hx) | hx)
     ·exact .inl (.inl hx)
     ·exact .inr hx
     ·exact .inl (.inr hx)
   ·rw [keys_take h] at hx
    rcases List.mem_append.1 hx with hx | hx
    ·exact (h3 hdn).1 x hx
    ·rw [List.mem_singleton.1 hx]
     rcases hor with hor | hor
     ·exact hor
     ·rw [hdn] at hor; cases hor
   ·rw [(h3 hdn).2, ← take_nth s h]
   ·rcases List.mem_append.1 hz with hz | hz
    ·exact h6 z hz
    ·rw [List.mem_singleton.1 hz]; exact .inl hin
  cases done with
  | true =>
   rw [if_neg RD]
   have hlt := h4 rfl _ hcur
   have hne : (nth s (u : Int)).Key ≠ key := fun e => by rw [e, less_irr] at hlt; cases hlt
   refine ⟨OM, ?_⟩
   rw [if_pos (by rw [bne_iff_ne]; exact hne)]
   exact ⟨OM, by simp only [List.length_cons, List.length_nil]; omega, OM, ⟨u + 1, OM, stay true rfl (.inr rfl) OM⟩, by dsimp only; omega⟩
  | false =>
   rw [if_pos RD]
   obtain ⟨c1, c2⟩ := h3 rfl
   have hxl : xs.length = u := by rw [c2, List.length_take]; omega
   refine ⟨OM, ?_⟩
   cases k : Op.bytesLess (nth s (u : Int)).Key key with
   | true =>
    rw [if_neg RD]
    have hne : (nth s (u : Int)).Key ≠ key := fun e => by rw [e, less_irr] at k; cases k
    refine ⟨OM, ?_⟩
    rw [if_pos (by rw [bne_iff_ne]; exact hne)]
    exact ⟨OM, by simp only [List.length_cons, List.length_nil]; omega, OM, ⟨u + 1, OM, stay false rfl (.inl k) OM⟩, by dsimp only; omega⟩
   | false =>
    rw [if_pos RD]
    have g1 : SS (keysT (xs ++ [(⟨key, val⟩ : Tag)])) := by
     rw [keys_app]
     refine ss_snocT h1 fun y hy => ?_
     rcases (h2 y).1 hy with hy | ⟨hd, _⟩
     ·exact c1 y hy
     ·cases hd
    refine ⟨by simp only [List.length_cons, List.length_nil]; omega, OM, ?_⟩
    by_cases hne : (nth s (u : Int)).Key = key
    ·rw [if_neg (by rw [hne]; simp)]
     refine ⟨OM, ⟨u + 1, OM, h, g1, fun x => ?_, (fun hd => by cases hd), fun _ y hy => by rw [← hne]; exact b2 y hy, by simp only [List.length_append, List.length_singleton]; omega, fun z hz => ?_⟩, by dsimp only; omega⟩
     ·rw [keys_app, List.mem_append, h2, keys_take h, List.mem_append, hne]
      show _ ∨ x ∈ [key] ↔ _
      rw [List.mem_singleton]
      constructor
      ·rintro ((hx | ⟨hd, _⟩) | hx)
       ·exact .inl (.inl hx)
       ·cases hd
       ·exact .inr ⟨rfl, hx⟩
      ·rintro ((hx | hx) | ⟨_, hx⟩)
       ·exact .inl (.inl hx)
       ·exact .inr hx
       ·exact .inr hx
     ·rcases List.mem_append.1 hz with hz | hz
      ·exact h6 z hz
      ·exact .inr (List.mem_singleton.1 hz)
    ·rw [if_pos (by rw [bne_iff_ne]; exact hne)]
     have hlt : Op.bytesLess key (nth s (u : Int)).Key = true := by
      rcases less_or k with g | g
      ·exact g
      ·exact absurd g.symm hne
     refine ⟨OM, by simp only [List.length_append, List.length_cons, List.length_nil]; omega, OM, ⟨u + 1, OM, h, ?_, fun x => ?_, (fun hd => by cases hd), fun _ y hy => less_trans hlt (b2 y hy), by simp only [List.length_append, List.length_singleton]; omega, fun z hz => ?_⟩, by dsimp only; omega⟩
     ·rw [keys_app]
      refine ss_snocT g1 fun y hy => ?_
      rw [keys_app] at hy
      rcases List.mem_append.1 hy with hy | hy
      ·rcases (h2 y).1 hy with hy | ⟨hd, _⟩
       ·exact b1 y hy
       ·cases hd
      ·have hy : y = key := List.mem_singleton.1 hy
       rw [hy]; exact hlt
     ·rw [keys_app, keys_app, List.mem_append, List.mem_append, h2, keys_take h, List.mem_append]
      show (_ ∨ x ∈ [key]) ∨ x ∈ [(nth s (u : Int)).Key] ↔ _
      rw [List.mem_singleton, List.mem_singleton]
      constructor
      ·rintro (((hx | ⟨hd, _⟩) | hx) | hx)
       ·exact .inl (.inl hx)
       ·cases hd
       ·exact .inr ⟨rfl, hx⟩
       ·exact .inl (.inr hx)
      ·rintro ((hx | hx) | ⟨_, hx⟩)
       ·exact .inl (.inl (.inl hx))
       ·exact .inr hx
       ·exact .inl (.inr hx)
     ·rcases List.mem_append.1 hz with hz | hz
      ·rcases List.mem_append.1 hz with hz | hz
       ·exact h6 z hz
       ·exact .inr (List.mem_singleton.1 hz)
      ·rw [List.mem_singleton.1 hz]; exact .inl hin
 ·rw [if_neg (by simpa using h)]
  have : u = s.length := by omega
  subst this
  rw [List.take_length] at h2 h3
  cases done with
  | true =>
   rw [if_neg RD]
   exact hq xs h1 (fun x => by rw [h2]; simp) h5 h6
  | false =>
   rw [if_pos RD]
   obtain ⟨c1, c2⟩ := h3 rfl
   refine ⟨by simp only [List.length_cons, List.length_nil]; omega, hq _ ?_ (fun x => ?_) (by rw [c2]; simp) fun z hz => ?_⟩
   ·rw [keys_app]
    refine ss_snocT h1 fun y hy => ?_
    rcases (h2 y).1 hy with hy | ⟨hd, _⟩
    ·exact c1 y hy
    ·cases hd
   ·rw [keys_app, List.mem_append, h2]
    show _ ∨ x ∈ [key] ↔ _
    rw [List.mem_singleton]; simp
   ·rcases List.mem_append.1 hz with hz | hz
    ·exact h6 z hz
    ·exact .inr (List.mem_singleton.1 hz)
theorem keys_drawn {s : List Tag} {k v : Str} (hk : k ∈ keyL) (hv : v ∈ valL) (h : ∀ x ∈ s, DT x) {r : List Tag} (hr : ∀ z ∈ r, z ∈ s ∨ z = ⟨k, v⟩) : ∀ x ∈ r, DT x := fun x hx => by
 rcases hr x hx with g | rfl
 ·exact h x g
 ·exact ⟨hk, hv⟩
theorem F78.law (b : List UInt8) (p : Int) (id : Str) (Q : Feat → Int → Prop) (hb : b.length ≤ 2000) (hp : 0 ≤ p) (hp1 : p ≤ 10000000) (hq : ∀ s t p', shapeOk s = true → SS (keysT t) → t.length ≤ 3 → (∀ x ∈ t, DT x) → (∀ q ∈ s.Pts, NX q) → p ≤ p' → p' ≤ p + 60 → Q ⟨id, s, t⟩ p') : F78.E b p id Q := by
 unfold F78.E
 refine F64.law _ _ _ hb hp OM fun s p1 hs hx p0 p2 => F25.law _ _ _ _ hb OM OM fun k hk0 hk1 => ?_
 refine ⟨fun i t z => 0 ≤ i ∧ i ≤ 3 ∧ SS (keysT t) ∧ (t.length : Int) + i ≤ 3 ∧ (∀ x ∈ t, DT x) ∧ p ≤ z ∧ z ≤ p + 41 + 2 * (3 - i), fun i _ _ => i.toNat, ⟨OM, OM, List.Pairwise.nil, by simp only [List.length_nil]; omega, by simp, OM, OM⟩, ?_⟩
 rintro i t z ⟨h0, h1, h2, h3, h4, h5, h6⟩
 by_cases hi : i > 0
 case neg => rw [if_neg (by simpa using hi)]; exact hq _ _ _ hs h2 OM h4 hx h5 OM
 rw [if_pos (by simpa using hi)]
 refine F112.law _ _ _ hb OM OM fun key hkey => F113.law _ _ _ hb OM OM fun val hval => F114.law _ _ _ _ OM h2 fun r r1 r2 r3 r4 => ⟨by unfold I64; omega, ⟨OM, OM, r1, OM, keys_drawn hkey hval h4 r4, OM, OM⟩, by dsimp only; omega⟩
theorem feat_drawn {id : Str} {s : Shape} {t : List Tag} (h1 : wordOk id = true) (h2 : shapeOk s = true) (h3 : SS (keysT t)) (h4 : t.length ≤ 3) (h5 : ∀ x ∈ t, DT x) : featOk ⟨id, s, t⟩ = true := feat_of h1 h2 h3 OM fun x hx => (h5 x hx).ok
theorem F126.law (b : List UInt8) (p : Int) (Q : Str → Int → Prop) (hb : b.length ≤ 2000) (hp : 0 ≤ p) (hp1 : p ≤ 1000000000) (hq : ∀ k ∈ idL, Q k (p + 1)) : F126.E b p Q := by
 unfold F126.E
 exact F48.law _ _ _ _ hb hp OM RD hq
theorem F73.law (b : List UInt8) (p : Int) (Q : List Feat → Int → Prop) (hb : b.length ≤ 2000) (hp : 0 ≤ p) (hp1 : p ≤ 1000000) (hq : ∀ s p', sheetOk s = true → s.length ≤ 4 → (∀ f ∈ s, f.Id ≠ zzI) → (∀ f ∈ s, ∀ q ∈ f.Shape.Pts, NX q) → p ≤ p' → p' ≤ p + 300 → Q s p') : F73.E b p Q := by
 unfold F73.E
 refine F25.law _ _ _ _ hb hp OM fun k hk0 hk1 => ?_
 refine ⟨fun s i z => 0 ≤ i ∧ i ≤ 4 ∧ SS (ids s) ∧ (s.length : Int) + i ≤ 4 ∧ (∀ f ∈ s, featOk f = true ∧ f.Id ≠ zzI ∧ ∀ q ∈ f.Shape.Pts, NX q) ∧ p ≤ z ∧ z ≤ p + 1 + 61 * (4 - i), fun _ i _ => i.toNat, ⟨OM, OM, List.Pairwise.nil, by simp only [List.length_nil]; omega, by simp, OM, OM⟩, ?_⟩
 rintro s i z ⟨h0, h1, h2, h3, h4, h5, h6⟩
 by_cases hi : i > 0
 case neg => rw [if_neg (by simpa using hi)]; exact hq _ _ (sheet_of h2 OM fun f hf => (h4 f hf).1) OM (fun f hf => (h4 f hf).2.1) (fun f hf => (h4 f hf).2.2) h5 OM
 rw [if_pos (by simpa using hi)]
 refine F126.law _ _ _ hb OM OM fun id hid => F78.law _ _ _ _ hb OM OM fun sh t p1 hs ht tl td hx p2 p3 => F119.law _ _ _ OM h2 fun r r1 r2 r3 r4 => ⟨by unfold I64; omega, ⟨OM, OM, r1, OM, fun f hf => ?_, OM, OM⟩, by dsimp only; omega⟩
 rcases r4 f hf with g | rfl
 ·exact h4 f g
 ·exact ⟨feat_drawn (idL_ok _ hid) hs ht tl td, idL_nz _ hid, hx⟩
theorem F86.law (b : List UInt8) (p : Int) (Q : Shape → Int → Prop) (hb : b.length ≤ 2000) (hp : 0 ≤ p) (hp1 : p ≤ 10000000) (hq : ∀ s p', s.Pts.length ≤ 7 → (∀ q ∈ s.Pts, NX q) → p ≤ p' → p' ≤ p + 50 → Q s p') : F86.E b p Q := by
 unfold F86.E
 refine F64.law _ _ _ hb hp OM fun s p1 hs hx p0 p2 => F25.law _ _ _ _ hb OM OM fun k hk0 hk1 => F25.law _ _ _ _ hb OM OM fun v hv0 hv1 => ?_
 have l1 := shape_pos hs
 have l2 := shape_pts hs
 split
 ·exact F35.law _ _ _ _ hb OM OM RD fun n hn => hq _ _ (by dsimp only; omega) hx OM OM
 split
 ·exact F35.law _ _ _ _ hb OM OM RD fun n hn => ⟨OM, hq _ _ (by simp only [List.length_set]; omega) (fun q hq' => by
   rcases List.mem_or_eq_of_mem_set hq' with g | rfl
   ·exact hx q g
   ·simp only [List.mem_cons, List.not_mem_nil, or_false] at hn
    exact ⟨by dsimp only; omega, by dsimp only; omega⟩) OM OM⟩
 split
 ·exact ⟨fun _ => by unfold I64; omega, OM, by simp only [List.length_cons, List.length_nil]; omega, hq _ _ (by simp only [List.length_append, List.length_cons, List.length_nil]; omega) (fun q hq' => (List.mem_append.1 hq').elim (hx q) fun g => by rw [List.mem_singleton.1 g]; exact hx _ (nth_memi _ OM OM)) OM OM⟩
 split
 ·exact ⟨OM, hq _ _ (by simp only [List.length_take, List.length_drop]; omega) (fun q hq' => hx q (List.mem_of_mem_drop (List.mem_of_mem_take hq'))) OM OM⟩
 exact hq _ _ OM hx OM OM
theorem F87.law (b : List UInt8) (p : Int) (Q : Feat → Int → Prop) (hb : b.length ≤ 2000) (hp : 0 ≤ p) (hp1 : p ≤ 1000000) (hq : ∀ f p', FB 4 f → (∀ x ∈ f.Tags, plainK x.Key) → f.Id ≠ zzI → (∀ q ∈ f.Shape.Pts, NX q) → p ≤ p' → p' ≤ p + 120 → Q f p') : F87.E b p Q := by
 unfold F87.E
 refine F126.law _ _ _ hb hp OM fun id hid => F78.law _ _ _ _ hb OM OM fun s t p1 hs ht tl td hx p2 p3 => F25.law _ _ _ _ hb OM OM fun v hv0 hv1 => ?_
 have li := word_len (idL_ok _ hid)
 have lp := shape_pts hs
 have tp : ∀ x ∈ t, plainK x.Key := fun x hx => keyL_plain _ (td x hx).1
 have tw : ∀ x ∈ t, x.Key.length ≤ 6 ∧ x.Val.length ≤ 6 := fun x hx => (td x hx).len
 have iz := idL_nz _ hid
 split
 ·refine F48.law _ _ _ _ hb OM OM RD fun w hw => hq _ _ ⟨?_, by dsimp only; omega, by dsimp only; omega, tw⟩ tp ?_ hx OM OM
  all_goals
   simp only [List.mem_cons, List.not_mem_nil, or_false] at hw
   dsimp only
   rcases hw with rfl | rfl | rfl <;> decide
 split
 ·exact F86.law _ _ _ hb OM OM fun s' p4 h4 hx' h5 h6 => hq _ _ ⟨by dsimp only; omega, h4, by dsimp only; omega, tw⟩ tp iz hx' OM OM
 split
 ·refine ⟨by simp only [List.length_cons, List.length_nil]; omega, hq _ _ ⟨by dsimp only; omega, by dsimp only; omega, by simp only [List.length_append, List.length_cons, List.length_nil]; omega, fun x hx2 => ?_⟩ (fun x hx2 => ?_) iz hx OM OM⟩
  ·rcases List.mem_append.1 hx2 with hx2 | hx2
   ·exact tw x hx2
   ·rw [List.mem_singleton.1 hx2]; decide
  ·rcases List.mem_append.1 hx2 with hx2 | hx2
   ·exact tp x hx2
   ·rw [List.mem_singleton.1 hx2]; unfold plainK; dsimp only; decide
 split
 ·refine F48.law _ _ _ _ hb OM OM RD fun w hw => ⟨by simp only [List.length_cons, List.length_nil]; omega, hq _ _ ⟨by dsimp only; omega, by dsimp only; omega, by simp only [List.length_append, List.length_cons, List.length_nil]; omega, fun x hx2 => ?_⟩ (fun x hx2 => ?_) iz hx OM OM⟩
  ·rcases List.mem_append.1 hx2 with hx2 | hx2
   ·exact tw x hx2
   ·rw [List.mem_singleton.1 hx2]
    simp only [List.mem_cons, List.not_mem_nil, or_false] at hw
    rcases hw with rfl | rfl <;> decide
  ·rcases List.mem_append.1 hx2 with hx2 | hx2
   ·exact tp x hx2
   ·rw [List.mem_singleton.1 hx2]; unfold plainK; dsimp only; decide
 exact hq _ _ ⟨by dsimp only; omega, by dsimp only; omega, by dsimp only; omega, tw⟩ tp iz hx OM OM
theorem F96.law (b : List UInt8) (p : Int) (Q : List Feat → Int → Prop) (hb : b.length ≤ 2000) (hp : 0 ≤ p) (hp1 : p ≤ 100000) (hq : ∀ s p', MD s → (∀ f ∈ s, ∀ q ∈ f.Shape.Pts, NX q) → p ≤ p' → p' ≤ p + 500 → Q s p') : F96.E b p Q := by
 unfold F96.E
 refine F73.law _ _ _ hb hp OM fun s p1 hs hl hz hn p2 p3 => F25.law _ _ _ _ hb OM OM fun v hv0 hv1 => ?_
 have mb := MB.of hs
 have hm : MD s := ⟨⟨OM, mb.fb⟩, hz⟩
 split
 ·refine F87.law _ _ _ hb OM OM fun f p4 h1 _ h2 hfx h3 h4 => ⟨by simp only [List.length_cons, List.length_nil]; omega, hq _ _ ⟨⟨by simp only [List.length_append, List.length_cons, List.length_nil]; omega, fun x hx => ?_⟩, fun x hx => ?_⟩ (fun x hx => ?_) OM OM⟩
  ·rcases List.mem_append.1 hx with hx | hx
   ·exact mb.fb x hx
   ·rw [List.mem_singleton.1 hx]; exact h1
  ·rcases List.mem_append.1 hx with hx | hx
   ·exact hz x hx
   ·rw [List.mem_singleton.1 hx]; exact h2
  ·rcases List.mem_append.1 hx with hx | hx
   ·exact hn x hx
   ·rw [List.mem_singleton.1 hx]; exact hfx
 split
 ·refine ⟨OM, hq _ _ ⟨⟨by simp only [List.length_append]; omega, fun x hx => ?_⟩, fun x hx => ?_⟩ (fun x hx => ?_) OM OM⟩
  ·rcases List.mem_append.1 hx with hx | hx <;> exact mb.fb x hx
  ·rcases List.mem_append.1 hx with hx | hx <;> exact hz x hx
  ·rcases List.mem_append.1 hx with hx | hx <;> exact hn x hx
 split
 ·refine ⟨fun s i => 0 ≤ i ∧ i ≤ 9 ∧ SS (ids s) ∧ (s.length : Int) ≤ 4 + i ∧ (∀ f ∈ s, FB 4 f ∧ f.Id ≠ zzI ∧ ∀ q ∈ f.Shape.Pts, NX q), fun _ i => (9 - i).toNat, ⟨OM, OM, (sheet_ss hs).1, OM, fun f hf => ⟨mb.fb f hf, hz f hf, hn f hf⟩⟩, ?_⟩
  rintro s i ⟨h0, h1, h2, h3, h4⟩
  by_cases hi : i ≤ 8
  case neg => rw [if_neg (by simpa using hi)]; exact hq _ _ ⟨⟨OM, fun f hf => (h4 f hf).1⟩, fun f hf => (h4 f hf).2.1⟩ (fun f hf => (h4 f hf).2.2) OM OM
  rw [if_pos (by simpa using hi)]
  have hl1 : ∀ l : Str, ((l.drop i.toNat).take ((i + 1).toNat - i.toNat)).length ≤ 1 := fun l => by rw [List.length_take]; omega
  refine ⟨by unfold I64; omega, by simp only [List.length_cons, List.length_nil]; omega, F119.law _ _ _ OM h2 fun r r1 r2 r3 r4 => ⟨by unfold I64; omega, ⟨OM, OM, r1, OM, fun f hf => ?_⟩, by dsimp only; omega⟩⟩
  rcases r4 f hf with g | rfl
  ·exact h4 f g
  ·refine ⟨⟨Nat.le_trans (hl1 _) RD, by dsimp only [List.length_cons, List.length_nil]; omega, by simp only [List.length_nil]; omega, by simp⟩, fun e => ?_, fun q hq' => by rw [List.mem_singleton.1 hq']; exact .of RD⟩
   have := hl1 [113, 114, 115, 116, 117, 118, 119, 120, 121, 122]
   dsimp only at e
   rw [e] at this
   exact absurd this RD
 exact hq _ _ hm hn OM OM
theorem F98.law (s : List Feat) (id : Str) (Q : Int → Prop) (hq : Q (findN s.length fun j => (nth s (j : Int)).Id == id)) : F98.E s id Q := by
 unfold F98.E
 refine loop_find s.length (fun j => (nth s (j : Int)).Id == id) hq (fun I mu k hk h1 h2 => ⟨OM, ?_⟩)
 cases h : (nth s (k : Int)).Id == id with
 | true => rw [if_pos rfl]; exact h1 h
 | false => rw [if_neg RD]; obtain ⟨i1, i2⟩ := h2 h; exact ⟨OM, i1, i2⟩
theorem F124.law (s : List Feat) (id : Str) (Q : List Feat → Prop) (hl : s.length ≤ 1048576) (hq : Q (s.filter fun f => decide (f.Id ≠ id))) : F124.E s id Q := by
 unfold F124.E
 refine ⟨fun xs i => ∃ u : Nat, i = u ∧ u ≤ s.length ∧ xs = (s.take u).filter fun f => decide (f.Id ≠ id), fun _ i => (s.length - i).toNat, ⟨0, rfl, Nat.zero_le _, rfl⟩, ?_⟩
 rintro _ _ ⟨u, rfl, hu, rfl⟩
 have hfl := List.length_filter_le (fun f : Feat => decide (f.Id ≠ id)) (s.take u)
 rw [List.length_take] at hfl
 by_cases h : u < s.length
 ·rw [if_pos (by simpa using h)]
  refine ⟨OM, ?_⟩
  by_cases e : (nth s (u : Int)).Id = id
  ·rw [if_neg (by rw [e]; simp)]
   refine ⟨OM, ⟨u + 1, OM, OM, ?_⟩, by dsimp only; omega⟩
   rw [take_nth s h, List.filter_append, List.filter_cons_of_neg (by rw [decide_eq_true_eq]; exact fun g => g e), List.filter_nil, List.append_nil]
  ·rw [if_pos (by rw [bne_iff_ne]; exact e)]
   refine ⟨OM, by simp only [List.length_cons, List.length_nil]; omega, OM, ⟨u + 1, OM, OM, ?_⟩, by dsimp only; omega⟩
   rw [take_nth s h, List.filter_append, List.filter_cons_of_pos (by rw [decide_eq_true_eq]; exact e), List.filter_nil]
 ·rw [if_neg (by simpa using h)]
  have : u = s.length := by omega
  subst this
  rw [List.take_length]; exact hq
theorem F81.law (b : List UInt8) (p : Int) (s : Shape) (Q : Shape → Int → Prop) (hb : b.length ≤ 2000) (hp : 0 ≤ p) (hp1 : p ≤ 10000000) (hs : s.Pts.length ≤ 1000) (hq : ∀ r p', (r = s ∨ shapeOk r = true) → p ≤ p' → p' ≤ p + 4 → Q r p') : F81.E b p s Q := by
 unfold F81.E
 by_cases h0 : (s.Pts.length : Int) = 0
 ·rw [if_pos (by simpa using h0)]; exact hq _ _ (.inl rfl) OM OM
 rw [if_neg (by simpa using h0)]
 refine F25.law _ _ _ _ hb hp OM fun k hk0 hk1 => ⟨OM, by simp only [List.length_take, List.length_drop, List.length_nil]; omega, F25.law _ _ _ _ hb OM OM fun v hv0 hv1 => ?_⟩
 have fin : ∀ (r : Shape) (z : Int), p ≤ z → z ≤ p + 4 → F63.E r (fun r5 => (if !r5 then Q s z else Q r z)) := fun r z h1 h2 => by
  refine F63.law _ _ ?_
  cases h : shapeOk r with
  | true => rw [if_neg RD]; exact hq _ _ (.inr h) h1 h2
  | false => rw [if_pos RD]; exact hq _ _ (.inl rfl) h1 h2
 refine ⟨fun _ z => p ≤ z ∧ z ≤ p + 4, ?_, fun xs z hz => fin _ _ hz.1 hz.2⟩
 split
 ·exact ⟨OM, F125.law _ _ _ hb OM OM fun x y _ _ _ _ => ⟨by simp only [List.length_append, List.length_take, List.length_drop, List.length_nil, List.length_cons]; omega, by simp only [List.length_append, List.length_take, List.length_drop, List.length_nil, List.length_cons]; omega, OM, OM⟩⟩
 split
 ·exact ⟨fun _ => by unfold I64; omega, OM, by simp only [List.length_append, List.length_take, List.length_drop, List.length_nil, List.length_cons]; omega, OM, OM⟩
 exact ⟨fun _ => by unfold I64; omega, OM, F125.law _ _ _ hb OM OM fun x y _ _ _ _ => ⟨by simp only [List.length_append, List.length_take, List.length_drop, List.length_nil, List.length_cons]; omega, by simp only [List.length_append, List.length_take, List.length_drop, List.length_nil, List.length_cons]; omega, OM, OM⟩⟩
theorem F80.law (f : Feat) (Q : Feat → Prop) (hb : bulk f ≤ 1048576) (hq : Q f) : F80.E f Q := by
 unfold F80.E F79.E
 have h := bulk_feat f
 have h1 := bulk_len f.Tags
 have h2 := bulk_len f.Shape.Pts
 exact ⟨by simp only [List.length_nil]; omega, by simp only [List.length_nil]; omega, hq⟩
theorem F82.law (s : Str) (Q : Bool → Prop) (hq : Q (wordOk s)) : F82.E s Q := by
 unfold F82.E
 unfold wordOk at hq
 refine loop_all s.length (fun k => byteOk (nth s (k : Int))) (fun I mu k hk hp hn => ?_) (fun ha => ?_)
 ·refine ⟨OM, ?_⟩
  cases h1 : decide (((nth s (k : Int)).toNat : Int) < 97) with
  | true => rw [if_pos rfl]; rw [allN_false hk (by simp only [byteOk, h1]; rfl), Bool.false_and] at hq; exact hq
  | false =>
   rw [if_neg RD]
   refine ⟨OM, ?_⟩
   cases h2 : decide (((nth s (k : Int)).toNat : Int) > 122) with
   | true => rw [if_pos rfl]; rw [allN_false hk (by simp only [byteOk, h1, h2]; rfl), Bool.false_and] at hq; exact hq
   | false =>
    rw [if_neg RD]
    obtain ⟨i1, i2⟩ := hn (by simp only [byteOk, h1, h2]; rfl)
    exact ⟨OM, i1, i2⟩
 ·rw [allN_true ha, Bool.true_and] at hq
  by_cases h : 1 ≤ s.length
  ·rw [decide_eq_true h, Bool.true_and] at hq
   rw [if_pos (by rw [decide_eq_true_eq]; omega)]
   have e2 : decide ((s.length : Int) ≤ 6) = decide (s.length ≤ 6) := decide_eq_decide.2 OM
   rw [e2]; exact hq
  ·rw [decide_eq_false h, Bool.false_and] at hq
   rw [if_neg (by rw [decide_eq_true_eq]; omega)]; exact hq
theorem F83.law (t : List Tag) (Q : Bool → Prop) (hq : Q (tagsOk t && decide (t.length ≤ 4))) : F83.E t Q := by
 unfold F83.E
 unfold tagsOk at hq
 refine loop_all t.length (fun k => wordOk (nth t (k : Int)).Key && wordOk (nth t (k : Int)).Val && (decide (k = 0) || Op.bytesLess (nth t ((k : Int) - 1)).Key (nth t (k : Int)).Key)) (fun I mu k hk hp hn => ?_) (fun ha => ?_)
 ·have bad : (wordOk (nth t (k : Int)).Key && wordOk (nth t (k : Int)).Val && (decide (k = 0) || Op.bytesLess (nth t ((k : Int) - 1)).Key (nth t (k : Int)).Key)) = false → Q false := fun h => by
   rw [allN_false hk h, Bool.false_and] at hq; exact hq
  refine ⟨OM, _, F82.law _ _ rfl, ?_⟩
  cases h1 : wordOk (nth t (k : Int)).Key with
  | false => rw [if_pos RD]; exact bad (by rw [h1]; rfl)
  | true =>
   rw [if_neg RD]
   refine ⟨OM, _, F82.law _ _ rfl, ?_⟩
   cases h2 : wordOk (nth t (k : Int)).Val with
   | false => rw [if_pos RD]; exact bad (by rw [h2, Bool.and_false]; rfl)
   | true =>
    rw [if_neg RD]
    by_cases hk0 : k = 0
    ·rw [if_neg (by rw [decide_eq_true_eq]; omega)]
     obtain ⟨i1, i2⟩ := hn (by rw [h1, h2, decide_eq_true hk0]; rfl)
     exact ⟨OM, i1, i2⟩
    ·rw [if_pos (by rw [decide_eq_true_eq]; omega)]
     refine ⟨OM, fun _ => by unfold I64; omega, OM, ?_⟩
     rw [← less_tri]
     cases h3 : Op.bytesLess (nth t ((k : Int) - 1)).Key (nth t (k : Int)).Key with
     | false => rw [if_pos RD]; exact bad (by rw [h3, h1, h2, decide_eq_false hk0]; rfl)
     | true =>
      rw [if_neg RD]
      obtain ⟨i1, i2⟩ := hn (by rw [h3, h1, h2, decide_eq_false hk0]; rfl)
      exact ⟨OM, i1, i2⟩
 ·rw [allN_true ha, Bool.true_and] at hq
  have e2 : decide ((t.length : Int) ≤ 4) = decide (t.length ≤ 4) := decide_eq_decide.2 OM
  rw [e2]; exact hq
theorem F84.law (f : Feat) (Q : Bool → Prop) (hq : Q (featOk f)) : F84.E f Q := by
 unfold F84.E
 unfold featOk at hq
 refine F82.law _ _ ?_
 cases h1 : wordOk f.Id with
 | false => rw [h1, Bool.and_false, Bool.false_and] at hq; rw [if_neg RD]; exact hq
 | true =>
  rw [h1, Bool.and_true] at hq
  rw [if_pos rfl]
  refine F63.law _ _ ?_
  cases h2 : shapeOk f.Shape with
  | false => rw [h2, Bool.and_false] at hq; rw [if_neg RD]; exact hq
  | true => rw [h2, Bool.and_true] at hq; rw [if_pos rfl]; exact F83.law _ _ hq
theorem F76.law (d : List Feat) (Q : Bool → Prop) (hq : Q (sheetOk d)) : F76.E d Q := by
 unfold F76.E
 unfold sheetOk at hq
 refine loop_all d.length (fun k => featOk (nth d (k : Int)) && (decide (k = 0) || Op.bytesLess (nth d ((k : Int) - 1)).Id (nth d (k : Int)).Id)) (fun I mu k hk hp hn => ?_) (fun ha => ?_)
 ·have bad : (featOk (nth d (k : Int)) && (decide (k = 0) || Op.bytesLess (nth d ((k : Int) - 1)).Id (nth d (k : Int)).Id)) = false → Q false := fun h => by
   rw [allN_false hk h, Bool.false_and] at hq; exact hq
  refine ⟨OM, _, F84.law _ _ rfl, ?_⟩
  cases h1 : featOk (nth d (k : Int)) with
  | false => rw [if_pos RD]; exact bad (by rw [h1]; rfl)
  | true =>
   rw [if_neg RD]
   by_cases hk0 : k = 0
   ·rw [if_neg (by rw [decide_eq_true_eq]; omega)]
    obtain ⟨i1, i2⟩ := hn (by rw [h1, decide_eq_true hk0]; rfl)
    exact ⟨OM, i1, i2⟩
   ·rw [if_pos (by rw [decide_eq_true_eq]; omega)]
    refine ⟨OM, fun _ => by unfold I64; omega, OM, ?_⟩
    rw [← less_tri]
    cases h3 : Op.bytesLess (nth d ((k : Int) - 1)).Id (nth d (k : Int)).Id with
    | false => rw [if_pos RD]; exact bad (by rw [h3, h1, decide_eq_false hk0]; rfl)
    | true =>
     rw [if_neg RD]
     obtain ⟨i1, i2⟩ := hn (by rw [h3, h1, decide_eq_false hk0]; rfl)
     exact ⟨OM, i1, i2⟩
 ·rw [allN_true ha, Bool.true_and] at hq
  have e2 : decide ((d.length : Int) ≤ 8) = decide (d.length ≤ 8) := decide_eq_decide.2 OM
  rw [e2]; exact hq
theorem FB.put {n : Nat} {f : Feat} (h : FB n f) {k v : Str} (hk : k ∈ keyL) (hv : v ∈ valL) {r : List Tag} (hl : r.length ≤ f.Tags.length + 1) (hr : ∀ z ∈ r, z ∈ f.Tags ∨ z = ⟨k, v⟩) : FB (n + 1) ⟨f.Id, f.Shape, r⟩ := ⟨h.id, h.pts, Nat.le_trans hl (Nat.succ_le_succ h.len), fun x hx => by
 rcases hr x hx with g | rfl
 ·exact h.wd x g
 ·exact DT.len ⟨hk, hv⟩⟩
theorem F103.law (b : List UInt8) (p : Int) (s : List Feat) (Q : List Feat → Int → Prop) (hb : b.length ≤ 2000) (hp : 0 ≤ p) (hp1 : p ≤ 1000000) (hs : sheetOk s = true) (hz : ∀ f ∈ s, f.Id ≠ zzI) (hq : ∀ r p', sheetOk r = true → (∀ f ∈ r, f.Id ≠ zzI) → p ≤ p' → p' ≤ p + 250 → Q r p') : F103.E b p s Q := by
 unfold F103.E
 have mb := MB.of hs
 refine F25.law _ _ _ _ hb hp OM fun k hk0 hk1 => ⟨by unfold I64; omega, ?_⟩
 refine ⟨fun s i z => 0 ≤ i ∧ i ≤ 3 ∧ SS (ids s) ∧ (s.length : Int) + i ≤ 11 ∧ (∀ f ∈ s, SS (keysT f.Tags) ∧ FB (7 - i.toNat) f ∧ f.Id ≠ zzI) ∧ p ≤ z ∧ z ≤ p + 1 + 65 * (3 - i), fun _ i _ => i.toNat, ⟨OM, OM, (sheet_ss hs).1, by have := mb.len; omega, fun f hf => ⟨featOk_tags ((sheet_ss hs).2.2 f hf), (mb.fb f hf).mono OM, hz f hf⟩, OM, OM⟩, ?_⟩
 rintro s2 i z ⟨h0, h1, h2, h3, h4, h5, h6⟩
 by_cases hi : i > 0
 case neg =>
  rw [if_neg (by simpa using hi)]
  refine F76.law _ _ ?_
  cases h : sheetOk s2 with
  | true => rw [if_neg RD]; exact hq _ _ h (fun f hf => (h4 f hf).2.2) h5 OM
  | false => rw [if_pos RD]; exact hq _ _ hs hz h5 OM
 rw [if_pos (by simpa using hi)]
 have em : 7 - (i - 1).toNat = 7 - i.toNat + 1 := by omega
 have step : ∀ (f : Feat), SS (keysT f.Tags) → FB (7 - i.toNat + 1) f → f.Id ≠ zzI → ∀ r : List Feat, (∀ z ∈ r, z ∈ s2 ∨ z = f) → ∀ x ∈ r, SS (keysT x.Tags) ∧ FB (7 - (i - 1).toNat) x ∧ x.Id ≠ zzI := fun f a1 a2 a3 r hr x hx => by
  rw [em]
  rcases hr x hx with g | rfl
  ·have := h4 x g
   exact ⟨this.1, this.2.1.mono OM, this.2.2⟩
  ·exact ⟨a1, a2, a3⟩
 refine F126.law _ _ _ hb OM OM fun id hid => F98.law _ _ _ ?_
 have hle := findN_le s2.length fun j => (nth s2 (j : Int)).Id == id
 generalize findN s2.length (fun j => (nth s2 (j : Int)).Id == id) = at_ at *
 by_cases ha : at_ < 0
 ·rw [if_pos (by simpa using ha)]
  refine F78.law _ _ _ _ hb OM OM fun sh t p1 hsh ht tl td _ p2 p3 => F119.law _ _ _ OM h2 fun r r1 r2 r3 r4 => ⟨by unfold I64; omega, ⟨OM, OM, r1, OM, step _ ht ?_ (idL_nz _ hid) r r4, OM, OM⟩, by dsimp only; omega⟩
  exact ((FB.of (feat_drawn (idL_ok _ hid) hsh ht tl td)).mono OM)
 rw [if_neg (by simpa using ha)]
 have hm : nth s2 at_ ∈ s2 := nth_memi s2 OM hle.2
 obtain ⟨f1, f2, f3⟩ := h4 _ hm
 have fb := f2.small
 refine F25.law _ _ _ _ hb OM OM fun v hv0 hv1 => ?_
 split
 ·refine F124.law _ _ _ OM ⟨by unfold I64; omega, ⟨OM, OM, ?_, ?_, fun x hx => ?_, OM, OM⟩, by dsimp only; omega⟩
  ·unfold SS ids at h2 ⊢
   exact List.Pairwise.sublist (List.filter_sublist.map _) h2
  ·have := List.length_filter_le (fun f : Feat => decide (f.Id ≠ id)) s2; omega
  ·have := h4 x (List.mem_filter.1 hx).1
   exact ⟨this.1, this.2.1.mono OM, this.2.2⟩
 refine F25.law _ _ _ _ hb OM OM fun w hw0 hw1 => ?_
 split
 ·refine ⟨OM, F80.law _ _ OM (F112.law _ _ _ hb OM OM fun key hkey => F113.law _ _ _ hb OM OM fun val hval => F114.law _ _ _ _ (by have := f2.len; omega) f1 fun t t1 t2 t3 t4 => F119.law _ _ _ OM h2 fun r r1 r2 r3 r4 => ⟨by unfold I64; omega, ⟨OM, OM, r1, OM, step _ t1 (f2.put hkey hval t3 t4) f3 r r4, OM, OM⟩, by dsimp only; omega⟩)⟩
 ·refine ⟨OM, F80.law _ _ OM (F81.law _ _ _ _ hb OM OM (by have := f2.pts; omega) fun sh p' hsh p1 p2 => F119.law _ _ _ OM h2 fun r r1 r2 r3 r4 => ⟨by unfold I64; omega, ⟨OM, OM, r1, OM, step ⟨(nth s2 at_).Id, sh, (nth s2 at_).Tags⟩ f1 ⟨f2.id, ?_, Nat.le_trans f2.len OM, f2.wd⟩ f3 r r4, OM, OM⟩, by dsimp only; omega⟩)⟩
  rcases hsh with rfl | hsh
  ·exact f2.pts
  ·exact Nat.le_trans (shape_pts hsh) RD
theorem F101.law (s : List Feat) (Q : List Feat → Prop) (hb : bulk s ≤ 1048576) (hq : Q s) : F101.E s Q := by
 unfold F101.E
 have hl := bulk_len s
 refine ⟨fun xs i => ∃ u : Nat, i = u ∧ u ≤ s.length ∧ xs = s.take u, fun _ i => (s.length - i).toNat, ⟨0, rfl, Nat.zero_le _, rfl⟩, ?_⟩
 rintro _ _ ⟨u, rfl, hu, rfl⟩
 by_cases h : u < s.length
 ·rw [if_pos (by simpa using h)]
  have hm := bulk_mem (nth_mem s h)
  refine ⟨OM, F80.law _ _ OM ⟨by simp only [List.length_take, List.length_cons, List.length_nil]; omega, OM, ⟨u + 1, OM, OM, ?_⟩, by dsimp only; omega⟩⟩
  rw [take_nth s h]
 ·rw [if_neg (by simpa using h)]
  have : u = s.length := by omega
  subst this
  rw [List.take_length]; exact hq
theorem MD.of {s : List Feat} (h : sheetOk s = true) (hz : ∀ f ∈ s, f.Id ≠ zzI) : MD s := ⟨(MB.of h).mono OM OM, hz⟩
theorem F11.law (code : List UInt8) (Q : List Feat → List Feat → List Feat → Prop) (hq : ∀ o a b, MD o → MD a → MD b → Q o a b) : F11.E code Q := by
 unfold F11.E
 refine F62.law _ _ fun b hb => F73.law _ _ _ hb OM OM fun s p hs _ hz _ p0 p1 => F25.law _ _ _ _ hb OM OM fun v hv0 hv1 => ?_
 have ms := MD.of hs hz
 split
 ·exact F96.law _ _ _ hb OM OM fun t p2 mt _ p3 p4 => F103.law _ _ _ _ hb OM OM hs hz fun r p5 hr rz _ _ => hq _ _ _ mt (.of hr rz) ms
 split
 ·exact F96.law _ _ _ hb OM OM fun t p2 mt _ p3 p4 => F103.law _ _ _ _ hb OM OM hs hz fun r p5 hr rz _ _ => hq _ _ _ ms mt (.of hr rz)
 split
 ·exact F103.law _ _ _ _ hb OM OM hs hz fun r p5 hr rz _ _ => F101.law _ _ (Nat.le_trans (MB.of hr).small RD) (hq _ _ _ ms (.of hr rz) (.of hr rz))
 exact F103.law _ _ _ _ hb OM OM hs hz fun r p5 hr rz _ _ => F103.law _ _ _ _ hb OM OM hr rz fun r2 p6 hr2 rz2 _ _ => F103.law _ _ _ _ hb OM OM hs hz fun r3 p7 hr3 rz3 _ _ => F103.law _ _ _ _ hb OM OM hr3 rz3 fun r4 p8 hr4 rz4 _ _ => hq _ _ _ ms (.of hr2 rz2) (.of hr4 rz4)
theorem F88.law (n lo hi : Int) (Q : Bool → Prop) (hq : Q (decide (lo ≤ n) && decide (n ≤ hi))) : F88.E n lo hi Q := by
 unfold F88.E
 by_cases h : lo ≤ n
 ·rw [if_pos (by simpa using h)]; rw [decide_eq_true h, Bool.true_and] at hq; exact hq
 ·rw [if_neg (by simpa using h)]; rw [decide_eq_false h, Bool.false_and] at hq; exact hq
theorem F88.m_is (n lo hi : Int) : F88.m n lo hi = (decide (lo ≤ n) && decide (n ≤ hi)) := by
 unfold F88.m
 by_cases h : lo ≤ n
 ·rw [if_pos (by simpa using h), decide_eq_true h, Bool.true_and]
 ·rw [if_neg (by simpa using h), decide_eq_false h, Bool.false_and]
theorem F89.law (s : Str) (Q : Bool → Prop) (hl : s.length ≤ 1048576) (hq : Q (wordOk s)) : F89.E s Q := by
 unfold F89.E
 unfold wordOk at hq
 refine loop_all s.length (fun k => byteOk (nth s (k : Int))) (fun I mu k hk hp hn => ?_) (fun ha => ?_)
 ·refine ⟨OM, ?_⟩
  cases h1 : decide (((nth s (k : Int)).toNat : Int) < 97) with
  | true => rw [if_pos rfl]; rw [allN_false hk (by simp only [byteOk, h1]; rfl), Bool.false_and] at hq; exact hq
  | false =>
   rw [if_neg RD]
   refine ⟨OM, ?_⟩
   cases h2 : decide (((nth s (k : Int)).toNat : Int) > 122) with
   | true => rw [if_pos rfl]; rw [allN_false hk (by simp only [byteOk, h1, h2]; rfl), Bool.false_and] at hq; exact hq
   | false =>
    rw [if_neg RD]
    obtain ⟨i1, i2⟩ := hn (by simp only [byteOk, h1, h2]; rfl)
    exact ⟨by unfold I64; omega, i1, i2⟩
 ·rw [allN_true ha, Bool.true_and] at hq
  refine F88.law _ _ _ _ ?_
  have e1 : decide ((1 : Int) ≤ (s.length : Int)) = decide (1 ≤ s.length) := decide_eq_decide.2 OM
  have e2 : decide ((s.length : Int) ≤ 6) = decide (s.length ≤ 6) := decide_eq_decide.2 OM
  rw [e1, e2]; exact hq
theorem F127.law (p : Pt) (Q : Bool → Prop) (hq : Q (ptOk p)) : F127.E p Q := by
 unfold F127.E
 unfold ptOk at hq
 refine F88.law _ _ _ _ ?_
 change if inR p.X = true then _ else _
 cases h : inR p.X with
 | true => rw [if_pos rfl]; rw [h, Bool.true_and] at hq; exact F88.law _ _ _ _ hq
 | false => rw [if_neg RD]; rw [h, Bool.false_and] at hq; exact hq
theorem F65.law (s : Shape) (Q : Bool → Prop) (hl : s.Pts.length ≤ 1048576) (hq : Q (shapeOk s)) : F65.E s Q := by
 unfold F65.E
 unfold shapeOk ptsOk at hq
 refine loop_all s.Pts.length (fun k => ptOk (nth s.Pts (k : Int)) && (decide (k = 0) || !(decide (nth s.Pts ((k : Int) - 1) = nth s.Pts (k : Int))))) (fun I mu k hk hp hn => ?_) (fun ha => ?_)
 ·refine ⟨OM, _, F127.law _ _ rfl, ?_⟩
  have bad : (ptOk (nth s.Pts (k : Int)) && (decide (k = 0) || !(decide (nth s.Pts ((k : Int) - 1) = nth s.Pts (k : Int))))) = false → Q false := fun h => by
   rw [allN_false hk h, Bool.false_and] at hq; exact hq
  cases h1 : ptOk (nth s.Pts (k : Int)) with
  | false => rw [if_pos RD]; exact bad (by rw [h1]; rfl)
  | true =>
   rw [if_neg RD]
   by_cases hk0 : k = 0
   ·rw [if_neg (by rw [decide_eq_true_eq]; omega)]
    obtain ⟨i1, i2⟩ := hn (by rw [h1, decide_eq_true hk0]; rfl)
    exact ⟨by unfold I64; omega, i1, i2⟩
   ·rw [if_pos (by rw [decide_eq_true_eq]; omega)]
    refine ⟨by unfold I64; omega, OM, ?_⟩
    rw [eqPt_is]
    by_cases he : nth s.Pts ((k : Int) - 1) = nth s.Pts (k : Int)
    ·rw [if_pos (by rw [decide_eq_true_eq]; exact he)]
     exact bad (by rw [h1, decide_eq_false hk0, decide_eq_true he]; rfl)
    ·rw [if_neg (by rw [decide_eq_true_eq]; exact he)]
     obtain ⟨i1, i2⟩ := hn (by simp only [h1, decide_eq_false hk0, decide_eq_false he]; rfl)
     exact ⟨by unfold I64; omega, i1, i2⟩
 ·rw [allN_true ha, Bool.true_and] at hq
  unfold kindOk at hq
  by_cases k1 : s.Kind = 1
  ·rw [if_pos k1] at hq
   rw [if_pos (by rw [beq_iff_eq]; exact k1)]
   have : ((s.Pts.length : Int) == 1) = decide (s.Pts.length = 1) := by rw [Bool.eq_iff_iff, beq_iff_eq, decide_eq_true_eq]; omega
   rw [this]; exact hq
  rw [if_neg k1] at hq
  rw [if_neg (by rw [beq_iff_eq]; exact k1)]
  have e2 : decide ((2 : Int) ≤ (s.Pts.length : Int)) = decide (2 ≤ s.Pts.length) := decide_eq_decide.2 OM
  have e3 : decide ((3 : Int) ≤ (s.Pts.length : Int)) = decide (3 ≤ s.Pts.length) := decide_eq_decide.2 OM
  have e6 : decide ((s.Pts.length : Int) ≤ 6) = decide (s.Pts.length ≤ 6) := decide_eq_decide.2 OM
  by_cases k2 : s.Kind = 2
  ·rw [if_pos k2] at hq
   rw [if_pos (by rw [beq_iff_eq]; exact k2)]
   refine F88.law _ _ _ _ ?_
   rw [e2, e6]; exact hq
  rw [if_neg k2] at hq
  rw [if_neg (by rw [beq_iff_eq]; exact k2)]
  by_cases k3 : s.Kind = 3
  ·rw [if_pos k3] at hq
   rw [if_pos (by rw [beq_iff_eq]; exact k3), F88.m_is, e3, e6]
   cases hc : decide (3 ≤ s.Pts.length) && decide (s.Pts.length ≤ 6) with
   | true =>
    rw [hc, Bool.true_and] at hq
    rw [Bool.and_eq_true, decide_eq_true_eq, decide_eq_true_eq] at hc
    rw [if_pos rfl, eqPt_is]
    exact ⟨OM, fun _ => by unfold I64; omega, OM, hq⟩
   | false =>
    rw [hc, Bool.false_and] at hq
    rw [if_neg RD]; exact hq
  ·rw [if_neg k3] at hq
   rw [if_neg (by rw [beq_iff_eq]; exact k3)]; exact hq
theorem F90.law (f : Feat) (Q : Bool → Prop) (hb : bulk f ≤ 1048576) (hq : Q (featOk f)) : F90.E f Q := by
 unfold F90.E
 unfold featOk at hq
 have b1 : bulk f = bulk f.Id + bulk f.Shape + bulk f.Tags := rfl
 have b2 : bulk f.Shape = bulk f.Shape.Kind + bulk f.Shape.Pts := rfl
 have l1 := bulk_len f.Tags; have l2 := bulk_len f.Shape.Pts; have l3 := bulk_len f.Id
 have core : (tagsOk f.Tags = true → F89.E f.Id (fun r3 => (if r3 then F65.E f.Shape (fun r4 => (if r4 then Q (decide ((f.Tags.length : Int) ≤ 4)) else Q false)) else Q false))) := fun ha => by
  rw [ha, Bool.true_and] at hq
  refine F89.law _ _ OM ?_
  cases h1 : wordOk f.Id with
  | false => rw [h1, Bool.and_false, Bool.false_and] at hq; rw [if_neg RD]; exact hq
  | true =>
   rw [h1, Bool.and_true] at hq
   rw [if_pos rfl]
   refine F65.law _ _ OM ?_
   cases h2 : shapeOk f.Shape with
   | false => rw [h2, Bool.and_false] at hq; rw [if_neg RD]; exact hq
   | true =>
    rw [h2, Bool.and_true] at hq; rw [if_pos rfl]
    have e2 : decide ((f.Tags.length : Int) ≤ 4) = decide (f.Tags.length ≤ 4) := decide_eq_decide.2 OM
    rw [e2]; exact hq
 have bad : tagsOk f.Tags = false → Q false := fun h => by
  rw [h, Bool.false_and, Bool.false_and, Bool.false_and] at hq; exact hq
 unfold tagsOk at core bad
 refine loop_all f.Tags.length (fun k => wordOk (nth f.Tags (k : Int)).Key && wordOk (nth f.Tags (k : Int)).Val && (decide (k = 0) || Op.bytesLess (nth f.Tags ((k : Int) - 1)).Key (nth f.Tags (k : Int)).Key)) (fun I mu k hk hp hn => ?_) (fun ha => core (allN_true ha))
 have bad := fun h => bad (allN_false hk h)
 have m1 := bulk_mem (nth_mem f.Tags hk)
 have m2 : bulk (nth f.Tags (k : Int)) = bulk (nth f.Tags (k : Int)).Key + bulk (nth f.Tags (k : Int)).Val := rfl
 have m3 := bulk_len (nth f.Tags (k : Int)).Key; have m4 := bulk_len (nth f.Tags (k : Int)).Val
 refine ⟨OM, _, F89.law _ _ OM rfl, ?_⟩
 cases h1 : wordOk (nth f.Tags (k : Int)).Key with
 | false => rw [if_pos RD]; exact bad (by rw [h1]; rfl)
 | true =>
  rw [if_neg RD]
  refine ⟨_, F89.law _ _ OM rfl, ?_⟩
  cases h2 : wordOk (nth f.Tags (k : Int)).Val with
  | false => rw [if_pos RD]; exact bad (by rw [h2, Bool.and_false]; rfl)
  | true =>
   rw [if_neg RD]
   by_cases hk0 : k = 0
   ·rw [if_neg (by rw [decide_eq_true_eq]; omega)]
    obtain ⟨i1, i2⟩ := hn (by rw [h1, h2, decide_eq_true hk0]; rfl)
    exact ⟨by unfold I64; omega, i1, i2⟩
   ·rw [if_pos (by rw [decide_eq_true_eq]; omega)]
    refine ⟨by unfold I64; omega, OM, ?_⟩
    cases h3 : Op.bytesLess (nth f.Tags ((k : Int) - 1)).Key (nth f.Tags (k : Int)).Key with
    | false => rw [if_pos RD]; exact bad (by rw [h3, h1, h2, decide_eq_false hk0]; rfl)
    | true =>
     rw [if_neg RD]
     obtain ⟨i1, i2⟩ := hn (by rw [h3, h1, h2, decide_eq_false hk0]; rfl)
     exact ⟨by unfold I64; omega, i1, i2⟩
theorem F74.law (d : List Feat) (Q : Bool → Prop) (hb : bulk d ≤ 1048576) (hq : Q (sheetOk d)) : F74.E d Q := by
 unfold F74.E
 unfold sheetOk at hq
 have hl := bulk_len d
 refine loop_all d.length (fun k => featOk (nth d (k : Int)) && (decide (k = 0) || Op.bytesLess (nth d ((k : Int) - 1)).Id (nth d (k : Int)).Id)) (fun I mu k hk hp hn => ?_) (fun ha => ?_)
 ·have bad : (featOk (nth d (k : Int)) && (decide (k = 0) || Op.bytesLess (nth d ((k : Int) - 1)).Id (nth d (k : Int)).Id)) = false → Q false := fun h => by
   rw [allN_false hk h, Bool.false_and] at hq; exact hq
  have m1 := bulk_mem (nth_mem d hk)
  refine ⟨OM, _, F90.law _ _ OM rfl, ?_⟩
  cases h1 : featOk (nth d (k : Int)) with
  | false => rw [if_pos RD]; exact bad (by rw [h1]; rfl)
  | true =>
   rw [if_neg RD]
   by_cases hk0 : k = 0
   ·rw [if_neg (by rw [decide_eq_true_eq]; omega)]
    obtain ⟨i1, i2⟩ := hn (by rw [h1, decide_eq_true hk0]; rfl)
    exact ⟨by unfold I64; omega, i1, i2⟩
   ·rw [if_pos (by rw [decide_eq_true_eq]; omega)]
    refine ⟨by unfold I64; omega, OM, ?_⟩
    cases h3 : Op.bytesLess (nth d ((k : Int) - 1)).Id (nth d (k : Int)).Id with
    | false => rw [if_pos RD]; exact bad (by rw [h3, h1, decide_eq_false hk0]; rfl)
    | true =>
     rw [if_neg RD]
     obtain ⟨i1, i2⟩ := hn (by rw [h3, h1, decide_eq_false hk0]; rfl)
     exact ⟨by unfold I64; omega, i1, i2⟩
 ·rw [allN_true ha, Bool.true_and] at hq
  have e2 : decide ((d.length : Int) ≤ 8) = decide (d.length ≤ 8) := decide_eq_decide.2 OM
  rw [e2]; exact hq
def idsAll (maps : List (List Feat)) : List Str := (maps.map ids).flatten
theorem idsAll_snoc (m : List (List Feat)) (s : List Feat) : idsAll (m ++ [s]) = idsAll m ++ ids s := by unfold idsAll; simp
theorem idsAll_take (m : List (List Feat)) (k : Nat) : (idsAll (m.take k)).length ≤ (idsAll m).length := by
 have h : idsAll m = idsAll (m.take k) ++ idsAll (m.drop k) := by
  unfold idsAll; rw [← List.flatten_append, ← List.map_append, List.take_append_drop]
 rw [h, List.length_append]; omega
theorem F120.law (maps : List (List Feat)) (Q : List Str → Prop) (h1 : maps.length ≤ 1048576) (h2 : (idsAll maps).length ≤ 268435456) (h3 : ∀ s ∈ maps, s.length ≤ 1048576) (hq : Q (uniq (idsAll maps))) : F120.E maps Q := by
 unfold F120.E
 refine ⟨fun xs i => ∃ u : Nat, i = u ∧ u ≤ maps.length ∧ xs = idsAll (maps.take u), fun _ i => (maps.length - i).toNat, ⟨0, rfl, Nat.zero_le _, rfl⟩, ?_⟩
 rintro _ _ ⟨u, rfl, hu, rfl⟩
 by_cases h : u < maps.length
 ·rw [if_pos (by simpa using h)]
  have hs := h3 _ (nth_mem maps h)
  have ht := idsAll_take maps (u + 1)
  rw [take_nth maps h, idsAll_snoc, List.length_append] at ht
  have hil : (ids (nth maps (u : Int))).length = (nth maps (u : Int)).length := by unfold ids; simp
  refine ⟨OM, fun xs j => ∃ v : Nat, j = v ∧ v ≤ (nth maps (u : Int)).length ∧ xs = idsAll (maps.take u) ++ ids ((nth maps (u : Int)).take v), fun _ j => ((nth maps (u : Int)).length - j).toNat, ⟨0, rfl, Nat.zero_le _, by simp [ids]⟩, ?_⟩
  rintro _ _ ⟨v, rfl, hv, rfl⟩
  by_cases g : v < (nth maps (u : Int)).length
  ·rw [if_pos (by simpa using g)]
   have hiv : (ids ((nth maps (u : Int)).take v)).length ≤ v := by unfold ids; simp; omega
   refine ⟨OM, by simp only [List.length_append, List.length_cons, List.length_nil]; omega, by unfold I64; omega, ⟨v + 1, OM, OM, ?_⟩, by dsimp only; omega⟩
   rw [take_nth _ g, ids_app, List.append_assoc]; rfl
  ·rw [if_neg (by simpa using g)]
   have : v = (nth maps (u : Int)).length := by omega
   subst this
   refine ⟨by unfold I64; omega, ⟨u + 1, OM, OM, ?_⟩, by dsimp only; omega⟩
   rw [List.take_length, take_nth maps h, idsAll_snoc]
 ·rw [if_neg (by simpa using h)]
  have : u = maps.length := by omega
  subst this
  rw [List.take_length]
  unfold F7.E F0.E
  exact ⟨h2, by unfold sortS; rw [List.length_mergeSort]; exact h2, hq⟩
theorem F1.law (s : List Feat) (f : Feat → Bool) (ok : Feat → Prop) (Q : Int → Prop) (hl : s.length ≤ 1048576) (hok : ∀ x ∈ s, ok x) (hq : Q (findN s.length fun j => f (nth s (j : Int)))) : F1.E s f ok Q := by
 unfold F1.E
 refine loop_find s.length (fun j => f (nth s (j : Int))) hq (fun I mu k hk h1 h2 => ⟨OM, hok _ (nth_mem s hk), ?_⟩)
 cases h : f (nth s (k : Int)) with
 | true => rw [if_pos rfl]; exact h1 h
 | false => rw [if_neg RD]; obtain ⟨i1, i2⟩ := h2 h; exact ⟨by unfold I64; omega, i1, i2⟩
theorem F97.law (s : List Feat) (id : Str) (Q : Int → Prop) (hl : s.length ≤ 1048576) (hq : Q (findN s.length fun j => (nth s (j : Int)).Id == id)) : F97.E s id Q := by
 unfold F97.E
 refine ⟨fun x => x.Id == id, fun x => x ∈ s, fun x hx => ?_, F1.law _ _ _ _ hl (fun x hx => hx) hq⟩
 unfold F56.E
 rfl
theorem F36.law (f : Feat) (Q : Feat → Prop) (hb : bulk f ≤ 1048576) (hq : Q f) : F36.E f Q := by
 unfold F36.E F26.E
 have h := bulk_feat f
 have h1 := bulk_len f.Tags
 have h2 := bulk_len f.Shape.Pts
 exact ⟨by simp only [List.length_nil]; omega, by simp only [List.length_nil]; omega, hq⟩
theorem F129.law (s : List Feat) (id : Str) (Q : Feat → Bool → Prop) (hb : bulk s ≤ 1048576) (hq : Q (sideOf s id).1 (sideOf s id).2) : F129.E s id Q := by
 unfold F129.E
 have hl := bulk_len s
 refine F97.law _ _ _ OM ?_
 have h1 := findN_le s.length fun j => (nth s (j : Int)).Id == id
 unfold sideOf at hq
 by_cases h : findN s.length (fun j => (nth s (j : Int)).Id == id) < 0
 ·rw [if_pos h] at hq; rw [if_pos (by simpa using h)]; exact hq
 ·rw [if_neg h] at hq; rw [if_neg (by simpa using h)]
  exact ⟨OM, F36.law _ _ (by have := bulk_mem (nth_memi s OM h1.2); omega) hq⟩
theorem F75.law (s : List Feat) (id : Str) (Q : thing → Prop) (hb : bulk s ≤ 1048576) (hq : Q (thOf s id)) : F75.E s id Q := by
 unfold F75.E
 exact F129.law s id _ hb hq
theorem F20.law (a b : List Tag) (Q : Bool → Prop) (hb : a.length ≤ 1048576) (hq : Q (decide (a = b))) : F20.E a b Q := by
 unfold F20.E
 exact eqI_shape eqTag eqTag_is a b Q hb hq
theorem F28.law (a b : List Pt) (Q : Bool → Prop) (hb : a.length ≤ 1048576) (hq : Q (decide (a = b))) : F28.E a b Q := by
 unfold F28.E
 exact eqI_shape eqPt eqPt_is a b Q hb hq
theorem F38.law (a b : Shape) (Q : Bool → Prop) (hl : a.Pts.length ≤ 1048576) (hq : Q (decide (a = b))) : F38.E a b Q := by
 unfold F38.E
 by_cases h : a.Kind = b.Kind
 ·rw [if_pos (by rw [beq_iff_eq]; exact h)]
  refine F28.law _ _ _ OM ?_
  have : decide (a.Pts = b.Pts) = decide (a = b) := decide_eq_decide.2 (by rw [Shape.ext_iff']; exact ⟨fun e => ⟨h, e⟩, fun e => e.2⟩)
  rw [this]; exact hq
 ·rw [if_neg (by rw [beq_iff_eq]; exact h)]
  rw [decide_eq_false (by rw [Shape.ext_iff']; exact fun e => h e.1)] at hq; exact hq
theorem F55.law (a b : Feat) (Q : Bool → Prop) (hl : a.Shape.Pts.length ≤ 1048576 ∧ a.Tags.length ≤ 1048576) (hq : Q (decide (a = b))) : F55.E a b Q := by
 unfold F55.E
 by_cases h : a.Id = b.Id
 ·rw [if_pos (by rw [beq_iff_eq]; exact h)]
  refine F38.law _ _ _ OM ?_
  by_cases h2 : a.Shape = b.Shape
  ·rw [decide_eq_true h2, if_pos rfl]
   refine F20.law _ _ _ OM ?_
   have : decide (a.Tags = b.Tags) = decide (a = b) := decide_eq_decide.2 (by rw [Feat.ext_iff']; exact ⟨fun e => ⟨h, h2, e⟩, fun e => e.2.2⟩)
   rw [this]; exact hq
  ·rw [decide_eq_false h2, if_neg RD]
   rw [decide_eq_false (by rw [Feat.ext_iff']; exact fun e => h2 e.2.1)] at hq; exact hq
 ·rw [if_neg (by rw [beq_iff_eq]; exact h)]
  rw [decide_eq_false (by rw [Feat.ext_iff']; exact fun e => h e.1)] at hq; exact hq
theorem F40.law (a b : thing) (Q : Bool → Prop) (hb : a.f.Shape.Pts.length ≤ 1048576 ∧ a.f.Tags.length ≤ 1048576) (hq : Q (decide (a = b))) : F40.E a b Q := by
 unfold F40.E
 by_cases h : a.has = b.has
 ·rw [if_pos (by simpa using h)]
  refine F55.law _ _ _ hb ?_
  have e : decide (a.f = b.f) = decide (a = b) := decide_eq_decide.2 (by rw [thing.ext_iff']; exact ⟨fun g => ⟨h, g⟩, fun g => g.2⟩)
  rw [e]; exact hq
 ·rw [if_neg (by simpa using h)]
  rw [decide_eq_false fun e => h (by rw [e])] at hq; exact hq
theorem F9.law (o a b : thing) (ok : thing → thing → Prop) (Q : thing → Bool → Prop) (h1 : ok a o) (h2 : ok b o) (h3 : ok a b) (hq : Q (three o a b).1 (three o a b).2) : F9.E o a b (fun x y => decide (x = y)) ok Q := by
 unfold F9.E
 unfold three at hq
 refine ⟨h1, ?_⟩
 by_cases e1 : a = o
 ·rw [if_pos e1] at hq; rw [if_pos (decide_eq_true e1)]; exact hq
 ·rw [if_neg e1] at hq; rw [if_neg (by simpa using e1)]
  refine ⟨h2, ?_⟩
  by_cases e2 : b = o
  ·rw [if_pos e2] at hq; rw [if_pos (decide_eq_true e2)]; exact hq
  ·rw [if_neg e2] at hq; rw [if_neg (by simpa using e2)]
   refine ⟨h3, ?_⟩
   by_cases e3 : a = b
   ·rw [if_pos e3] at hq; rw [if_pos (decide_eq_true e3)]; exact hq
   ·rw [if_neg e3] at hq; rw [if_neg (by simpa using e3)]; exact hq
theorem F67.law (a b : List Pt) (Q : List (List Int) → Prop) (ha : a.length ≤ 1048576) (hb : b.length ≤ 1048576) (hq : ∀ t, Tab a b (fun _ _ => True) t → Q t) : F67.E a b Q := by
 unfold F67.E
 have hn : ((b.length : Int) + 1).toNat = b.length + 1 := by omega
 have hm : ((a.length : Int) + 1).toNat = a.length + 1 := by omega
 rw [hn, hm]
 refine ⟨fun _ => by unfold I64; omega, OM, fun xs v => ∃ k : Nat, v = k ∧ k ≤ a.length + 1 ∧ xs.length = a.length + 1 ∧ ∀ r : Nat, r < k → nth xs (r : Int) = List.replicate (b.length + 1) 0, fun _ v => (a.length + 1 - v).toNat,
  ⟨0, rfl, Nat.zero_le _, by simp, fun r hr => absurd hr (Nat.not_lt_zero _)⟩, ?_⟩
 rintro xs _ ⟨k, rfl, hk, hl, hx⟩
 rw [List.length_replicate]
 by_cases hk0 : (k : Int) < ((a.length + 1 : Nat) : Int)
 ·rw [if_pos (by simpa using hk0)]
  refine ⟨fun _ => by unfold I64; omega, OM, OM, fun _ => by unfold I64; omega, ⟨k + 1, OM, OM, by rw [List.length_set]; exact hl, fun r hr => ?_⟩, by dsimp only; omega⟩
  rw [Int.toNat_natCast, nth_set _ OM]
  by_cases e : r = k
  ·rw [if_pos e]
  ·rw [if_neg e]; exact hx r OM
 rw [if_neg (by simpa using hk0)]
 refine ⟨fun _ => by unfold I64; omega, fun xs i => ∃ k : Nat, i = (k : Int) - 1 ∧ k ≤ a.length ∧ Tab a b (fun r m => k ≤ r ∨ m = b.length) xs, fun _ i => (i + 1).toNat, ⟨a.length, rfl, Nat.le_refl _, hl, fun r hr => ?_⟩, ?_⟩
 ·rw [hx r OM]
  refine ⟨by simp, fun m hm hd => ?_⟩
  rw [nth_rep _ _ _ OM]
  rcases hd with hd | hd
  ·rw [List.drop_of_length_le (by omega : a.length ≤ r), lcs_nil]; rfl
  ·rw [hd, List.drop_length, lcs_nil2]; rfl
 clear hx hl hk0 hk xs k
 rintro xs _ ⟨k, rfl, hk, ht⟩
 by_cases hk0 : (k : Int) - 1 ≥ 0
 ·rw [if_pos (by simpa using hk0)]
  obtain ⟨i, rfl⟩ : ∃ i, k = i + 1 := ⟨k - 1, OM⟩
  have ei : ((i + 1 : Nat) : Int) - 1 = (i : Int) := by omega
  have ei1 : (i : Int) + 1 = ((i + 1 : Nat) : Int) := by omega
  rw [ei]
  refine ⟨fun _ => by unfold I64; omega, fun ys j => ∃ m : Nat, j = (m : Int) - 1 ∧ m ≤ b.length ∧ Tab a b (fun r u => i < r ∨ (r = i ∧ m ≤ u) ∨ u = b.length) ys, fun _ j => (j + 1).toNat, ⟨b.length, rfl, Nat.le_refl _, ht.1, fun r hr => ⟨(ht.2 r hr).1, fun m hm hd => (ht.2 r hr).2 m hm ?_⟩⟩, ?_⟩
  ·omega
  rintro ys _ ⟨m, rfl, hm, hs⟩
  by_cases hm0 : (m : Int) - 1 ≥ 0
  ·rw [if_pos (by simpa using hm0)]
   obtain ⟨j, rfl⟩ : ∃ j, m = j + 1 := ⟨m - 1, OM⟩
   have ej : ((j + 1 : Nat) : Int) - 1 = (j : Int) := by omega
   have ej1 : (j : Int) + 1 = ((j + 1 : Nat) : Int) := by omega
   rw [ej, ej1, ei1, eqPt_is]
   have hl := lcs_drop a b (i := i) (j := j) OM OM
   have s0 := hs.1
   have s1 := hs.2 i OM
   have s2 := hs.2 (i + 1) OM
   have n1 := s2.2 (j + 1) OM (.inl OM)
   have n2 := s2.2 j OM (.inl OM)
   have n3 := s1.2 (j + 1) OM (.inr (.inl ⟨rfl, OM⟩))
   have l1 := s1.1
   have l2 := s2.1
   have b1 := lcs_le2 (a.drop (i + 1)) (b.drop (j + 1))
   rw [List.length_drop] at b1
   have hset : ∀ v : Int, v = (lcs (a.drop i) (b.drop j) : Nat) → Tab a b (fun r u => i < r ∨ (r = i ∧ j ≤ u) ∨ u = b.length) (ys.set (i : Int).toNat ((nth ys (i : Int)).set (j : Int).toNat v)) := fun v hv => by
    rw [Int.toNat_natCast, Int.toNat_natCast]
    exact hs.set OM OM hv fun r u h => by omega
   refine ⟨OM, OM, ?_⟩
   by_cases he : nth a (i : Int) = nth b (j : Int)
   ·rw [if_pos (by simpa using he)]
    rw [if_pos he] at hl
    rw [n1]
    exact ⟨OM, by unfold I64; omega, OM, by unfold I64; omega, OM, by unfold I64; omega, OM, by unfold I64; omega, ⟨j, OM, OM, hset _ OM⟩, by dsimp only; omega⟩
   ·rw [if_neg (by simpa using he)]
    rw [if_neg he] at hl
    rw [n2, n3]
    exact ⟨OM, by unfold I64; omega, OM, OM, OM, by unfold I64; omega, OM, OM, by unfold I64; omega, ⟨j, OM, OM, hset _ OM⟩, by dsimp only; omega⟩
  ·rw [if_neg (by simpa using hm0)]
   have : m = 0 := by omega
   subst this
   refine ⟨by unfold I64; omega, ⟨i, OM, OM, hs.1, fun r hr => ⟨(hs.2 r hr).1, fun m hm hd => (hs.2 r hr).2 m hm ?_⟩⟩, by dsimp only; omega⟩
   omega
 ·rw [if_neg (by simpa using hk0)]
  have : k = 0 := by omega
  subst this
  exact hq _ ⟨ht.1, fun r hr => ⟨(ht.2 r hr).1, fun m hm _ => (ht.2 r hr).2 m hm (.inl (Nat.zero_le _))⟩⟩
theorem F50.law (a b : List Pt) (Q : List Pair → Prop) (hq : Q (spairs a b)) : F50.E a b Q := by
 unfold F50.E
 unfold spairs at hq
 by_cases h1 : (a.length : Int) > 12
 ·rw [if_pos (by simpa using h1)]
  rw [if_neg (by rw [few_iff]; omega)] at hq; exact hq
 rw [if_neg (by simpa using h1)]
 by_cases h2 : (b.length : Int) > 12
 ·rw [if_pos (by simpa using h2)]
  rw [if_neg (by rw [few_iff]; omega)] at hq; exact hq
 rw [if_neg (by simpa using h2)]
 rw [if_pos (by rw [few_iff]; omega)] at hq
 refine F67.law _ _ _ OM OM fun t ht => ?_
 refine ⟨fun xs i j => ∃ u v : Nat, i = u ∧ j = v ∧ u ≤ a.length ∧ v ≤ b.length ∧ xs ++ (pairs u v (a.drop u) (b.drop v)).map mkP = (pairs 0 0 a b).map mkP, fun _ i j => ((a.length - i) + (b.length - j)).toNat, ⟨0, 0, rfl, rfl, Nat.zero_le _, Nat.zero_le _, rfl⟩, ?_⟩
 rintro xs _ _ ⟨u, v, rfl, rfl, hu, hv, hx⟩
 by_cases hu0 : (u : Int) < (a.length : Int)
 ·rw [if_pos (by simpa using hu0)]
  by_cases hv0 : (v : Int) < (b.length : Int)
  ·rw [if_pos (by simpa using hv0)]
   have hu1 : u < a.length := by omega
   have hv1 : v < b.length := by omega
   rw [pairs_drop a b hu1 hv1] at hx
   have eu : (u : Int) + 1 = ((u + 1 : Nat) : Int) := by omega
   have ev : (v : Int) + 1 = ((v + 1 : Nat) : Int) := by omega
   rw [eqPt_is, eu, ev]
   refine ⟨OM, OM, ?_⟩
   by_cases he : nth a (u : Int) = nth b (v : Int)
   ·rw [if_pos (by simpa using he)]
    rw [if_pos he, List.map_cons] at hx
    have hl := congrArg List.length hx
    rw [List.length_map, pairs_len, List.length_append] at hl
    have := lcs_le1 a b
    exact ⟨by simp only [List.length_singleton]; omega, OM, OM, ⟨u + 1, v + 1, rfl, rfl, OM, OM, by rw [List.append_assoc]; exact hx⟩, by dsimp only; omega⟩
   ·rw [if_neg (by simpa using he)]
    rw [if_neg he] at hx
    have t0 := ht.1
    have t1 := ht.2 u OM
    have t2 := ht.2 (u + 1) OM
    have n1 := t2.2 v OM trivial
    have n2 := t1.2 (v + 1) OM trivial
    have l1 := t1.1
    have l2 := t2.1
    refine ⟨OM, OM, OM, OM, OM, OM, ?_⟩
    rw [n1, n2]
    by_cases hc : lcs (a.drop u) (b.drop (v + 1)) ≤ lcs (a.drop (u + 1)) (b.drop v)
    ·rw [if_pos (by simpa using hc)]
     rw [if_pos hc] at hx
     exact ⟨OM, ⟨u + 1, v, rfl, rfl, OM, OM, hx⟩, by dsimp only; omega⟩
    ·rw [if_neg (by simpa using hc)]
     rw [if_neg hc] at hx
     exact ⟨OM, ⟨u, v + 1, rfl, rfl, OM, OM, hx⟩, by dsimp only; omega⟩
  ·rw [if_neg (by simpa using hv0)]
   rw [List.drop_of_length_le (by omega : b.length ≤ v), pairs_nil2, List.map_nil, List.append_nil] at hx
   rw [hx]; exact hq
 ·rw [if_neg (by simpa using hu0)]
  rw [List.drop_of_length_le (by omega : a.length ≤ u), pairs_nil, List.map_nil, List.append_nil] at hx
  rw [hx]; exact hq
theorem F68.law (l : List Pair) (k : Int) (Q : Int → Prop) (hl : l.length ≤ 1048576) (hq : Q (mateI l k)) : F68.E l k Q := by
 unfold F68.E
 refine ⟨fun i => ∃ u : Nat, i = u ∧ u ≤ l.length ∧ mateI (l.drop u) k = mateI l k, fun i => (l.length - i).toNat, ⟨0, rfl, Nat.zero_le _, rfl⟩, ?_⟩
 rintro _ ⟨u, rfl, hu, he⟩
 by_cases h : (u : Int) < (l.length : Int)
 ·rw [if_pos (by simpa using h)]
  rw [drop_nth l OM, mateI_cons] at he
  refine ⟨OM, ?_⟩
  by_cases hc : ((nth l (u : Int)).A == k) = true
  ·rw [if_pos hc] at he ⊢
   rw [he]; exact hq
  ·rw [if_neg hc] at he ⊢
   exact ⟨by unfold I64; omega, ⟨u + 1, OM, OM, he⟩, by dsimp only; omega⟩
 ·rw [if_neg (by simpa using h)]
  rw [List.drop_of_length_le (by omega : l.length ≤ u), mateI_nil] at he
  rw [he]; exact hq
theorem F51.law (o a b : List Pt) (Q : List Pt → Bool → Prop) (hs : ∀ r, smerge o a b = some r → Q r true) (hn : smerge o a b = none → Q [] false) : F51.E o a b Q := by
 unfold F51.E
 by_cases c1 : (o.length : Int) > 12
 ·rw [if_pos (by simpa using c1)]
  exact hn (smerge_not (.inl (few_not.2 OM)))
 rw [if_neg (by simpa using c1)]
 by_cases c2 : (a.length : Int) > 12
 ·rw [if_pos (by simpa using c2)]
  exact hn (smerge_not (.inl (few_not.2 OM)))
 rw [if_neg (by simpa using c2)]
 by_cases c3 : (b.length : Int) > 12
 ·rw [if_pos (by simpa using c3)]
  exact hn (smerge_not (.inr (few_not.2 OM)))
 rw [if_neg (by simpa using c3)]
 have h1 : few o a = true := few_iff.2 OM
 have h2 : few o b = true := few_iff.2 OM
 refine F50.law _ _ _ (F50.law _ _ _ ?_)
 have lo := spairs_len o a; have lo2 := spairs_len o b
 have so := slen_le o a; have so2 := slen_le o b
 refine ⟨fun xs i j k t => (∃ i' j' k' t' : Nat, i = i' ∧ j = j' ∧ k = k' ∧ t = t' ∧ MInv o a b xs i' j' k' t') ∨ (t = (o.length : Int) + 1 ∧ smerge o a b = some xs), fun _ _ _ _ t => (o.length + 1 - t).toNat, .inl ⟨0, 0, 0, 0, rfl, rfl, rfl, rfl, MInv.zero h1 h2⟩, ?_⟩
 rintro xs _ _ _ _ (⟨i, j, k, t, rfl, rfl, rfl, rfl, h⟩ | ⟨rfl, h⟩)
 ·have ht := h.ht; have hi := h.hi; have hj := h.hj; have hk := h.hk; have hl := h.len
  rw [if_pos (by simp; omega)]
  simp only [Int.toNat_natCast]
  by_cases ht0 : (t : Int) < (o.length : Int)
  ·rw [if_pos (by simpa using ht0)]
   refine F68.law _ _ _ OM (F68.law _ _ _ OM ?_)
   rw [mate_part h1, mate_part h2]
   cases hx : part o a t with
   | none =>
    rw [if_pos RD]
    exact ⟨OM, .inl ⟨i, j, k, t + 1, rfl, rfl, rfl, rfl, h.skip OM (.inl hx)⟩, OM⟩
   | some x =>
    rw [if_neg (by simp)]
    cases hy : part o b t with
    | none =>
     rw [if_pos RD]
     exact ⟨OM, .inl ⟨i, j, k, t + 1, rfl, rfl, rfl, rfl, h.skip OM (.inr hy)⟩, OM⟩
    | some y =>
     rw [if_neg (by simp)]
     dsimp only
     obtain ⟨g1, g2, g3, g4⟩ := h.from hx hy
     refine ⟨OM, OM, OM, ?_⟩
     simp only [Int.toNat_natCast]
     have s1 := seg_len o i t OM; have s2 := seg_len a j x OM; have s3 := seg_len b k y OM
     have hs1 : ∀ p, pickL (seg o i t) (seg a j x) (seg b k y) = some p → p.length ≤ (x - j) + (y - k) ∧ MInv o a b (xs ++ p ++ [nth o (t : Int)]) (t + 1) (x + 1) (y + 1) (t + 1) := fun p hp =>
      ⟨by have := (pickL_mem hp).2.2.2; omega, h.step OM hx hy hp⟩
     have hn1 : pickL (seg o i t) (seg a j x) (seg b k y) = none → smerge o a b = none := h.stop OM hx hy
     change F28.E (seg a j x) (seg o i t) _
     simp only [← seg.eq_1]
     generalize seg o i t = so at *
     generalize seg a j x = sa at *
     generalize seg b k y = sb at *
     refine F28.law _ _ _ OM ⟨fun ys => ∃ p, p.length ≤ (x - j) + (y - k) ∧ MInv o a b (xs ++ p ++ [nth o (t : Int)]) (t + 1) (x + 1) (y + 1) (t + 1) ∧ ys = xs ++ p, ?_, ?_⟩
     ·by_cases q1 : sa = so
      ·rw [if_pos (by simpa using q1)]
       obtain ⟨hm, hi⟩ := hs1 sb (by unfold pickL; rw [if_pos q1])
       exact ⟨OM, sb, hm, hi, rfl⟩
      rw [if_neg (by simpa using q1)]
      refine F28.law _ _ _ OM ?_
      by_cases q2 : sb = so
      ·rw [if_pos (by simpa using q2)]
       obtain ⟨hm, hi⟩ := hs1 sa (by unfold pickL; rw [if_neg q1, if_pos q2])
       exact ⟨OM, sa, hm, hi, rfl⟩
      rw [if_neg (by simpa using q2)]
      refine F28.law _ _ _ OM ?_
      by_cases q3 : sa = sb
      ·rw [if_pos (by simpa using q3)]
       obtain ⟨hm, hi⟩ := hs1 sa (by unfold pickL; rw [if_neg q1, if_neg q2, if_pos q3])
       exact ⟨OM, sa, hm, hi, rfl⟩
      rw [if_neg (by simpa using q3)]
      exact hn (hn1 (by unfold pickL; rw [if_neg q1, if_neg q2, if_neg q3]))
     ·rintro _ ⟨p, hm, hi, rfl⟩
      exact ⟨OM, by simp only [List.length_append, List.length_singleton]; omega, OM, fun _ => by unfold I64; omega, fun _ => by unfold I64; omega, OM, .inl ⟨t + 1, x + 1, y + 1, t + 1, rfl, rfl, rfl, rfl, hi⟩, OM⟩
  ·rw [if_neg (by simpa using ht0)]
   have : t = o.length := by omega
   subst this
   refine ⟨OM, OM, OM, ?_⟩
   have hlast := h.last
   have e1 : (o.drop i).take (o.length - i) = o.drop i := seg_end o i
   have e2 : (a.drop j).take (a.length - j) = a.drop j := seg_end a j
   have e3 : (b.drop k).take (b.length - k) = b.drop k := seg_end b k
   rw [e1, e2, e3]
   have s2 : (a.drop j).length = a.length - j := List.length_drop; have s3 : (b.drop k).length = b.length - k := List.length_drop
   have hs1 : ∀ p, pickL (o.drop i) (a.drop j) (b.drop k) = some p → p.length ≤ (a.length - j) + (b.length - k) ∧ smerge o a b = some (xs ++ p) := fun p hp =>
    ⟨by have := (pickL_mem hp).2.2.2; omega, by rw [hp, Option.map_some] at hlast; exact hlast.symm⟩
   have hn1 : pickL (o.drop i) (a.drop j) (b.drop k) = none → smerge o a b = none := fun hp => by rw [hp] at hlast; exact hlast.symm
   generalize o.drop i = so at *
   generalize a.drop j = sa at *
   generalize b.drop k = sb at *
   refine F28.law _ _ _ OM ⟨fun ys => smerge o a b = some ys, ?_, ?_⟩
   ·by_cases q1 : sa = so
    ·rw [if_pos (by simpa using q1)]
     obtain ⟨hm, hi⟩ := hs1 sb (by unfold pickL; rw [if_pos q1])
     exact ⟨OM, hi⟩
    rw [if_neg (by simpa using q1)]
    refine F28.law _ _ _ OM ?_
    by_cases q2 : sb = so
    ·rw [if_pos (by simpa using q2)]
     obtain ⟨hm, hi⟩ := hs1 sa (by unfold pickL; rw [if_neg q1, if_pos q2])
     exact ⟨OM, hi⟩
    rw [if_neg (by simpa using q2)]
    refine F28.law _ _ _ OM ?_
    by_cases q3 : sa = sb
    ·rw [if_pos (by simpa using q3)]
     obtain ⟨hm, hi⟩ := hs1 sa (by unfold pickL; rw [if_neg q1, if_neg q2, if_pos q3])
     exact ⟨OM, hi⟩
    rw [if_neg (by simpa using q3)]
    exact hn (hn1 (by unfold pickL; rw [if_neg q1, if_neg q2, if_neg q3]))
   ·intro ys hi
    exact ⟨fun _ => by unfold I64; omega, fun _ => by unfold I64; omega, fun _ => by unfold I64; omega, fun _ => by unfold I64; omega, .inr ⟨rfl, hi⟩, OM⟩
 ·rw [if_neg (by simp; omega)]
  exact hs _ h
theorem F6.law (o a b : Shape) (ok : Shape → Shape → Prop) (Q : Shape → Bool → Prop) (h1 : ok a o) (h2 : ok b o) (h3 : ok a b) (hq : Q (three o a b).1 (three o a b).2) : F6.E o a b (fun x y => decide (x = y)) ok Q := by
 unfold F6.E
 unfold three at hq
 refine ⟨h1, ?_⟩
 by_cases e1 : a = o
 ·rw [if_pos e1] at hq; rw [if_pos (decide_eq_true e1)]; exact hq
 ·rw [if_neg e1] at hq; rw [if_neg (by simpa using e1)]
  refine ⟨h2, ?_⟩
  by_cases e2 : b = o
  ·rw [if_pos e2] at hq; rw [if_pos (decide_eq_true e2)]; exact hq
  ·rw [if_neg e2] at hq; rw [if_neg (by simpa using e2)]
   refine ⟨h3, ?_⟩
   by_cases e3 : a = b
   ·rw [if_pos e3] at hq; rw [if_pos (decide_eq_true e3)]; exact hq
   ·rw [if_neg e3] at hq; rw [if_neg (by simpa using e3)]; exact hq
theorem F8.law (o a b : value) (ok : value → value → Prop) (Q : value → Bool → Prop) (h1 : ok a o) (h2 : ok b o) (h3 : ok a b) (hq : Q (three o a b).1 (three o a b).2) : F8.E o a b (fun x y => decide (x = y)) ok Q := by
 unfold F8.E
 unfold three at hq
 refine ⟨h1, ?_⟩
 by_cases e1 : a = o
 ·rw [if_pos e1] at hq; rw [if_pos (decide_eq_true e1)]; exact hq
 ·rw [if_neg e1] at hq; rw [if_neg (by simpa using e1)]
  refine ⟨h2, ?_⟩
  by_cases e2 : b = o
  ·rw [if_pos e2] at hq; rw [if_pos (decide_eq_true e2)]; exact hq
  ·rw [if_neg e2] at hq; rw [if_neg (by simpa using e2)]
   refine ⟨h3, ?_⟩
   by_cases e3 : a = b
   ·rw [if_pos e3] at hq; rw [if_pos (decide_eq_true e3)]; exact hq
   ·rw [if_neg e3] at hq; rw [if_neg (by simpa using e3)]; exact hq
theorem F3.law (s : List Tag) (f : Tag → Bool) (ok : Tag → Prop) (Q : Int → Prop) (hl : s.length ≤ 1048576) (hok : ∀ x ∈ s, ok x) (hq : Q (findN s.length fun j => f (nth s (j : Int)))) : F3.E s f ok Q := by
 unfold F3.E
 refine loop_find s.length (fun j => f (nth s (j : Int))) hq (fun I mu k hk h1 h2 => ⟨OM, hok _ (nth_mem s hk), ?_⟩)
 cases h : f (nth s (k : Int)) with
 | true => rw [if_pos rfl]; exact h1 h
 | false => rw [if_neg RD]; obtain ⟨i1, i2⟩ := h2 h; exact ⟨by unfold I64; omega, i1, i2⟩
theorem F69.law (f : Feat) (key : Str) (Q : value → Prop) (hl : f.Tags.length ≤ 1048576) (hq : Q (valT f.Tags key)) : F69.E f key Q := by
 unfold F69.E F49.E
 have h1 := findN_le f.Tags.length fun j => (nth f.Tags (j : Int)).Key == key
 refine ⟨fun x => x.Key == key, fun x => x ∈ f.Tags, fun x hx => ?_, F3.law _ _ _ _ hl (fun x hx => hx) ?_⟩
 ·unfold F27.E; rfl
 ·unfold valT at hq
  by_cases h : findN f.Tags.length (fun j => (nth f.Tags (j : Int)).Key == key) < 0
  ·rw [if_pos h] at hq; rw [if_pos (by simpa using h)]; exact hq
  ·rw [if_neg h] at hq; rw [if_neg (by simpa using h)]; exact ⟨OM, hq⟩
theorem F16.law (l : List (List Tag)) (Q : List Tag → Prop) (h1 : l.length ≤ 1000) (h2 : l.flatten.length ≤ 1000000) (hq : Q l.flatten) : F16.E l Q := by
 have htk : ∀ u, (l.take u).flatten.length ≤ l.flatten.length := fun u => by
  have : l.flatten = (l.take u).flatten ++ (l.drop u).flatten := by rw [← List.flatten_append, List.take_append_drop]
  rw [this, List.length_append]; omega
 have hsn : ∀ u, u < l.length → (l.take (u + 1)).flatten = (l.take u).flatten ++ nth l (u : Int) := fun u hu => by rw [take_nth l hu, List.flatten_append]; simp
 unfold F16.E
 refine ⟨fun size i => ∃ u : Nat, i = u ∧ u ≤ l.length ∧ size = ((l.take u).flatten.length : Int), fun _ i => (l.length - i).toNat, ⟨0, rfl, Nat.zero_le _, by simp⟩, ?_⟩
 rintro _ _ ⟨u, rfl, hu, rfl⟩
 by_cases h : u < l.length
 ·rw [if_pos (by simpa using h)]
  have e := hsn u h
  have ht := htk (u + 1)
  rw [e, List.length_append] at ht
  refine ⟨OM, fun _ => by unfold I64; omega, ?_⟩
  rw [if_neg (by rw [decide_eq_true_eq]; omega)]
  exact ⟨fun _ => by unfold I64; omega, ⟨u + 1, OM, OM, by rw [e, List.length_append]; omega⟩, by dsimp only; omega⟩
 ·rw [if_neg (by simpa using h)]
  have : u = l.length := by omega
  subst this
  rw [List.take_length]
  have rest : ∃ (I82 : (List Tag) → Int → Prop) (mu83 : (List Tag) → Int → Nat), I82 [] 0 ∧ ∀ (xs2 : List Tag) (v4 : Int), I82 xs2 v4 → (if decide (v4 < (l.length : Int)) then ((0 : Int) ≤ v4 ∧ v4 < (l.length : Int)) ∧ (xs2.length + (nth l v4).length ≤ 268435456) ∧ (I64 (v4 + 1)) ∧ I82 (xs2 ++ (nth l v4)) (v4 + 1) ∧ mu83 (xs2 ++ (nth l v4)) (v4 + 1) < mu83 xs2 v4 else Q xs2) := by
   refine ⟨fun xs i => ∃ u : Nat, i = u ∧ u ≤ l.length ∧ xs = (l.take u).flatten, fun _ i => (l.length - i).toNat, ⟨0, rfl, Nat.zero_le _, by simp⟩, ?_⟩
   rintro _ _ ⟨u, rfl, hu, rfl⟩
   by_cases g : u < l.length
   ·rw [if_pos (by simpa using g)]
    have e := hsn u g
    have ht := htk (u + 1)
    rw [e, List.length_append] at ht
    exact ⟨OM, OM, by unfold I64; omega, ⟨u + 1, OM, OM, by rw [e]⟩, by dsimp only; omega⟩
   ·rw [if_neg (by simpa using g)]
    have : u = l.length := by omega
    subst this
    rw [List.take_length]; exact hq
  unfold F29.E
  rw [if_neg (by rw [decide_eq_true_eq]; omega)]
  refine ⟨by unfold I64; omega, by unfold I64; omega, ?_⟩
  by_cases hz : (l.flatten.length : Int) - (0 - 0) > 0
  ·rw [if_pos (by rw [decide_eq_true_eq]; exact hz)]
   exact ⟨OM, OM, rest⟩
  ·rw [if_neg (by rw [decide_eq_true_eq]; exact hz)]
   exact rest
theorem F52.law (o a b : Feat) (Q : Feat → List Str → Prop) (h1 : bulk o ≤ 1048576) (h2 : bulk a ≤ 1048576) (h3 : bulk b ≤ 1048576) (hq : Q (featJoin o a b).1 (featJoin o a b).2) : F52.E o a b Q := by
 unfold F52.E
 unfold featJoin at hq
 have zq : (featOk o && featOk a && featOk b && decide (o.Id = a.Id) && decide (o.Id = b.Id)) = false → Q ⟨[], ⟨0, []⟩, []⟩ [] := fun h => by rw [h, if_neg RD] at hq; exact hq
 refine F90.law _ _ h1 ?_
 cases ko : featOk o with
 | false => rw [if_pos RD]; exact zq (by rw [ko]; rfl)
 | true =>
 rw [if_neg RD]
 refine F90.law _ _ h2 ?_
 cases ka : featOk a with
 | false => rw [if_pos RD]; exact zq (by rw [ko, ka]; rfl)
 | true =>
 rw [if_neg RD]
 refine F90.law _ _ h3 ?_
 cases kb : featOk b with
 | false => rw [if_pos RD]; exact zq (by rw [ko, ka, kb]; rfl)
 | true =>
 rw [if_neg RD]
 by_cases e1 : o.Id = a.Id
 case neg => rw [if_pos (by rw [bne_iff_ne]; exact e1)]; exact zq (by rw [decide_eq_false e1]; simp)
 rw [if_neg (by rw [e1]; simp)]
 by_cases e2 : o.Id = b.Id
 case neg => rw [if_pos (by rw [bne_iff_ne]; exact e2)]; exact zq (by rw [decide_eq_false e2]; simp)
 rw [if_neg (by rw [e2]; simp)]
 rw [ko, ka, kb, decide_eq_true e1, decide_eq_true e2, if_pos RD] at hq
 clear zq
 have fo := feat_facts ko; have fa := feat_facts ka; have fb := feat_facts kb
 have so := fo.2.2.1; have sa := fa.2.2.1; have sb := fb.2.2.1
 refine ⟨fun x y => decide (x = y), fun x _ => x.Pts.length ≤ 1048576, fun x y hx => F38.law _ _ _ hx rfl, F6.law _ _ _ _ _ (by (try dsimp only); omega) (by (try dsimp only); omega) (by (try dsimp only); omega) ?_⟩
 refine ⟨fun xs z z2 => xs = (if (shapeF o.Shape a.Shape b.Shape).2 then [] else [shapeS]) ∧ (⟨z, z2⟩ : Shape) = (shapeF o.Shape a.Shape b.Shape).1, ?_, ?_⟩
 ·have hs : ([([115, 104, 97, 112, 101] : Str)] : List Str) = [shapeS] := rfl
  cases c0 : (three o.Shape a.Shape b.Shape).2 with
  | true =>
   rw [if_neg RD]
   have e : shapeF o.Shape a.Shape b.Shape = three o.Shape a.Shape b.Shape := by unfold shapeF; rw [if_pos c0]
   rw [e, c0]; exact ⟨rfl, rfl⟩
  | false =>
   rw [if_pos RD]
   have et : (three o.Shape a.Shape b.Shape).1 = a.Shape := by
    unfold three at c0 ⊢
    split
    ·rename_i h; rw [if_pos h] at c0; cases c0
    ·rename_i h
     rw [if_neg h] at c0
     split
     ·rename_i g; rw [if_pos g] at c0; try cases c0
     ·rename_i g
      rw [if_neg g] at c0
      split <;> rfl
   have bad : (shapeF o.Shape a.Shape b.Shape) = (a.Shape, false) → (if (!false) = true then (([] : List Str).length + ([([115, 104, 97, 112, 101] : Str)] : List Str).length ≤ 268435456) ∧ (([] : List Str) ++ ([([115, 104, 97, 112, 101] : Str)] : List Str) = (if (shapeF o.Shape a.Shape b.Shape).2 then [] else [shapeS]) ∧ (⟨(three o.Shape a.Shape b.Shape).1.Kind, (three o.Shape a.Shape b.Shape).1.Pts⟩ : Shape) = (shapeF o.Shape a.Shape b.Shape).1) else ([] : List Str) = (if (shapeF o.Shape a.Shape b.Shape).2 then [] else [shapeS]) ∧ (⟨(three o.Shape a.Shape b.Shape).1.Kind, (three o.Shape a.Shape b.Shape).1.Pts⟩ : Shape) = (shapeF o.Shape a.Shape b.Shape).1) := fun e => by
    rw [if_pos RD, e, et]; exact ⟨by decide, rfl, rfl⟩
   by_cases k1 : o.Shape.Kind = a.Shape.Kind
   case neg => rw [if_neg (by simpa using k1)]; exact bad (by unfold shapeF; rw [if_neg (by rw [c0]; decide), if_neg fun h => k1 h.1.symm])
   rw [if_pos (by simpa using k1)]
   have bad2 : shapeF o.Shape a.Shape b.Shape = (a.Shape, false) → ((⟨(three o.Shape a.Shape b.Shape).1.Kind, (three o.Shape a.Shape b.Shape).1.Pts⟩ : Shape) = (shapeF o.Shape a.Shape b.Shape).1 ∧ false = (shapeF o.Shape a.Shape b.Shape).2) := fun e => by rw [e, et]; exact ⟨rfl, rfl⟩
   refine ⟨fun fine z z2 => (⟨z, z2⟩ : Shape) = (shapeF o.Shape a.Shape b.Shape).1 ∧ fine = (shapeF o.Shape a.Shape b.Shape).2, ?_, ?_⟩
   ·by_cases k2 : o.Shape.Kind = b.Shape.Kind
    case neg => rw [if_neg (by simpa using k2)]; exact bad2 (by unfold shapeF; rw [if_neg (by rw [c0]; decide), if_neg fun h => k2 h.2.symm])
    rw [if_pos (by simpa using k2)]
    have hsh : shapeF o.Shape a.Shape b.Shape = match smerge o.Shape.Pts a.Shape.Pts b.Shape.Pts with
     | some p => if shapeOk ⟨a.Shape.Kind, p⟩ then (⟨a.Shape.Kind, p⟩, true) else (a.Shape, false)
     | none => (a.Shape, false) := by unfold shapeF; rw [if_neg (by rw [c0]; decide), if_pos ⟨k1.symm, k2.symm⟩]; try (cases smerge o.Shape.Pts a.Shape.Pts b.Shape.Pts <;> rfl)
    refine F51.law _ _ _ _ (fun r hr => ?_) (fun hr => ?_)
    ·rw [if_pos rfl]
     have hrl := smerge_len hr
     rw [hr] at hsh
     refine F65.law _ _ (by dsimp only; omega) ?_
     cases k3 : shapeOk ⟨a.Shape.Kind, r⟩ with
     | true =>
      rw [if_pos rfl]
      dsimp only at hsh
      rw [if_pos k3] at hsh
      rw [hsh]; exact ⟨rfl, rfl⟩
     | false =>
      rw [if_neg RD]
      dsimp only at hsh
      rw [if_neg (by rw [k3]; decide)] at hsh
      exact bad2 hsh
    ·rw [if_neg RD]
     rw [hr] at hsh
     exact bad2 hsh
   ·rintro _ z z2 ⟨hz, rfl⟩
    dsimp only
    rw [hz]
    cases (shapeF o.Shape a.Shape b.Shape).2 with
    | true => rw [if_neg RD]; exact ⟨rfl, rfl⟩
    | false => rw [if_pos RD]; exact ⟨by decide, rfl, rfl⟩
 rintro _ z z2 ⟨rfl, hz⟩
 rw [hz]
 unfold F26.E
 have hpts := shapeF_pts (o := o.Shape) sa sb
 refine ⟨by simp only [List.length_nil]; omega, ?_⟩
 rw [List.nil_append]
 have hfl : ([o.Tags, a.Tags, b.Tags] : List (List Tag)).flatten = o.Tags ++ a.Tags ++ b.Tags := by simp
 have hln : (o.Tags ++ a.Tags ++ b.Tags).length ≤ 12 := by simp only [List.length_append]; omega
 refine F16.law _ _ (by simp) (by rw [hfl]; omega) ?_
 rw [hfl]
 refine ⟨fun xs i => ∃ u : Nat, i = u ∧ u ≤ (o.Tags ++ a.Tags ++ b.Tags).length ∧ xs = keysT ((o.Tags ++ a.Tags ++ b.Tags).take u), fun _ i => ((o.Tags ++ a.Tags ++ b.Tags).length - i).toNat, ⟨0, rfl, Nat.zero_le _, rfl⟩, ?_⟩
 rintro _ _ ⟨u, rfl, hu, rfl⟩
 by_cases h : u < (o.Tags ++ a.Tags ++ b.Tags).length
 ·rw [if_pos (decide_eq_true OM)]
  have hil : (keysT ((o.Tags ++ a.Tags ++ b.Tags).take u)).length ≤ u := by unfold keysT; simp; omega
  refine ⟨OM, by simp only [List.length_cons, List.length_nil]; omega, by unfold I64; omega, ⟨u + 1, OM, OM, ?_⟩, by dsimp only; omega⟩
  rw [take_nth _ h, keys_app]; rfl
 rw [if_neg (by rw [decide_eq_true_eq]; omega)]
 have : u = (o.Tags ++ a.Tags ++ b.Tags).length := by omega
 subst this
 clear h hu
 rw [List.take_length]
 unfold F7.E F0.E
 have hkl : (keysT (o.Tags ++ a.Tags ++ b.Tags)).length ≤ 12 := by unfold keysT; rw [List.length_map]; exact hln
 refine ⟨OM, by unfold sortS; rw [List.length_mergeSort]; omega, ?_⟩
 obtain ⟨ks1, ks2⟩ := allKeys_small ko ka kb
 have ek : Lib.compact (sortS (keysT (o.Tags ++ a.Tags ++ b.Tags))) = allKeys o a b := rfl
 rw [ek]
 refine ⟨fun xs i ts => ∃ u : Nat, i = u ∧ u ≤ (allKeys o a b).length ∧ xs = (if (shapeF o.Shape a.Shape b.Shape).2 then [] else [shapeS]) ++ clashL o.Tags a.Tags b.Tags ((allKeys o a b).take u) ∧ ts = tagsL o.Tags a.Tags b.Tags ((allKeys o a b).take u), fun _ i _ => ((allKeys o a b).length - i).toNat, ⟨0, rfl, Nat.zero_le _, by simp [clashL], by simp [tagsL]⟩, ?_⟩
 rintro _ _ _ ⟨u, rfl, hu, rfl, rfl⟩
 have hpre : (if (shapeF o.Shape a.Shape b.Shape).2 then ([] : List Str) else [shapeS]).length ≤ 1 := by split <;> decide
 by_cases h : u < (allKeys o a b).length
 ·rw [if_pos (by simpa using h)]
  have hk6 := ks2 _ (nth_mem _ h)
  have hcl := clashL_len o.Tags a.Tags b.Tags ((allKeys o a b).take u)
  have htl := tagsL_len o.Tags a.Tags b.Tags ((allKeys o a b).take u)
  rw [List.length_take] at hcl htl
  refine ⟨OM, F69.law _ _ _ OM (F69.law _ _ _ OM (F69.law _ _ _ OM ?_))⟩
  refine ⟨fun x y => decide (x = y), fun _ _ => True, fun x y _ => by unfold F30.E; exact eqvalue_is x y, F8.law _ _ _ _ _ trivial trivial trivial ?_⟩
  have ec := clashL_snoc o.Tags a.Tags b.Tags ((allKeys o a b).take u) (nth (allKeys o a b) (u : Int))
  have et := tagsL_snoc o.Tags a.Tags b.Tags ((allKeys o a b).take u) (nth (allKeys o a b) (u : Int))
  rw [← take_nth _ h] at ec et
  refine ⟨fun xs z z2 => xs = (if (shapeF o.Shape a.Shape b.Shape).2 then [] else [shapeS]) ++ clashL o.Tags a.Tags b.Tags ((allKeys o a b).take (u + 1)) ∧ (⟨z, z2⟩ : value) = (tagK o.Tags a.Tags b.Tags (nth (allKeys o a b) (u : Int))).1, ?_, ?_⟩
  ·generalize nth (allKeys o a b) (u : Int) = k at *
   have ed : tagK o.Tags a.Tags b.Tags k = tagF (valT o.Tags k) (valT a.Tags k) (valT b.Tags k) := rfl
   rw [ec]
   cases c0 : (three (valT o.Tags k) (valT a.Tags k) (valT b.Tags k)).2 with
   | true =>
    have ek : tagK o.Tags a.Tags b.Tags k = three (valT o.Tags k) (valT a.Tags k) (valT b.Tags k) := by rw [ed]; unfold tagF; rw [if_pos c0]
    rw [if_neg RD, ek, c0, if_pos rfl, List.append_nil]
    exact ⟨rfl, rfl⟩
   | false =>
    have ek : tagK o.Tags a.Tags b.Tags k = (if (valT a.Tags k).has then valT a.Tags k else valT b.Tags k, false) := by rw [ed]; unfold tagF; rw [if_neg (by rw [c0]; decide)]
    rw [if_pos RD, ek]
    refine ⟨by simp only [List.length_cons, List.length_nil]; omega, by simp only [List.length_append, List.length_cons, List.length_nil]; omega, ?_⟩
    have e0 : (if ((if (valT a.Tags k).has then valT a.Tags k else valT b.Tags k, false) : value × Bool).2 then ([] : List Str) else [tagS ++ k]) = [tagS ++ k] := if_neg (by simp)
    rw [e0]
    cases c1 : (valT a.Tags k).has with
    | true => rw [if_neg (by simp)]; exact ⟨by rw [List.append_assoc]; rfl, by generalize valT a.Tags k = v at *; cases v; simp_all⟩
    | false => rw [if_pos (by simp)]; exact ⟨by rw [List.append_assoc]; rfl, by simp⟩
  ·rintro _ z3 z4 ⟨rfl, hz⟩
   have hz3 : z3 = (tagK o.Tags a.Tags b.Tags (nth (allKeys o a b) (u : Int))).1.has := by rw [← hz]
   have hz4 : z4 = (tagK o.Tags a.Tags b.Tags (nth (allKeys o a b) (u : Int))).1.val := by rw [← hz]
   refine ⟨fun ts => ts = tagsL o.Tags a.Tags b.Tags ((allKeys o a b).take (u + 1)), ?_, ?_⟩
   ·rw [et, hz3, hz4]
    split
    ·exact ⟨by simp only [List.length_cons, List.length_nil]; omega, rfl⟩
    ·rw [List.append_nil]
   ·rintro _ rfl
    exact ⟨by unfold I64; omega, ⟨u + 1, OM, OM, rfl, rfl⟩, by dsimp only; omega⟩
 rw [if_neg (by simpa using h)]
 have : u = (allKeys o a b).length := by omega
 subst this
 rw [List.take_length]
 have hjs := joinF_small ko ka kb
 unfold joinOf at hq
 show F90.E (joinF o a b) _
 refine F90.law _ _ OM ?_
 cases kj : featOk (joinF o a b) with
 | true =>
  rw [if_neg RD]
  rw [kj, if_pos rfl] at hq
  exact hq
 | false =>
  rw [if_pos RD]
  rw [kj, if_neg RD] at hq
  exact F36.law _ _ h2 hq
theorem F41.law (o a b : List Feat) (Q : List Feat → List Clash → Bool → Prop) (h1 : bulk o ≤ 1048576) (h2 : bulk a ≤ 1048576) (h3 : bulk b ≤ 1048576) (hq : Q (sheetJoin o a b).1 (sheetJoin o a b).2.1 (sheetJoin o a b).2.2) : F41.E o a b Q := by
 unfold F41.E
 unfold sheetJoin at hq
 have zq : (sheetOk o && sheetOk a && sheetOk b) = false → Q [] [] false := fun h => by rw [h, if_neg RD] at hq; exact hq
 refine F74.law _ _ h1 ?_
 cases ko : sheetOk o with
 | false => rw [if_pos RD]; exact zq (by rw [ko]; rfl)
 | true =>
 rw [if_neg RD]
 refine F74.law _ _ h2 ?_
 cases ka : sheetOk a with
 | false => rw [if_pos RD]; exact zq (by rw [ko, ka]; rfl)
 | true =>
 rw [if_neg RD]
 refine F74.law _ _ h3 ?_
 cases kb : sheetOk b with
 | false => rw [if_pos RD]; exact zq (by rw [ko, ka, kb]; rfl)
 | true =>
 rw [if_neg RD]
 rw [ko, ka, kb, if_pos RD] at hq
 clear zq
 have e : idsAll [o, a, b] = ids o ++ ids a ++ ids b := by unfold idsAll; simp
 have lo := (sheet_ss ko).2.1; have la := (sheet_ss ka).2.1; have lb := (sheet_ss kb).2.1
 have l3 : (ids o ++ ids a ++ ids b).length = o.length + a.length + b.length := by unfold ids; simp; omega
 refine F120.law _ _ (by simp) (by rw [e]; omega) (fun s hs => by
  simp only [List.mem_cons, List.not_mem_nil, or_false] at hs
  rcases hs with rfl | rfl | rfl <;> omega) ?_
 rw [e]
 have eids : uniq (ids o ++ ids a ++ ids b) = ids3 o a b := rfl
 rw [eids]
 have hlen := ids3_len ko ka kb
 refine ⟨fun cs fs l i => ∃ u : Nat, i = u ∧ u ≤ (ids3 o a b).length ∧ l = ids3 o a b ∧ cs = joinCs o a b ((ids3 o a b).take u) ∧ fs = joinFs o a b ((ids3 o a b).take u), fun _ _ _ i => ((ids3 o a b).length - i).toNat, ⟨0, rfl, Nat.zero_le _, rfl, rfl, rfl⟩, ?_⟩
 rintro _ _ _ _ ⟨u, rfl, hu, rfl, rfl, rfl⟩
 by_cases h : u < (ids3 o a b).length
 ·rw [if_pos (by simpa using h)]
  have ec := joinCs_snoc o a b ((ids3 o a b).take u) (nth (ids3 o a b) (u : Int))
  have ef := joinFs_snoc o a b ((ids3 o a b).take u) (nth (ids3 o a b) (u : Int))
  rw [← take_nth _ h] at ec ef
  have hcl := joinCs_len ko ka kb ((ids3 o a b).take u)
  have hfl := joinFs_len o a b ((ids3 o a b).take u)
  rw [List.length_take] at hcl hfl
  have hsm := (oneAt_small ko ka kb (nth (ids3 o a b) (u : Int))).2.2
  have to_ : ThOk _ _ := thOf_ok ko (nth (ids3 o a b) (u : Int))
  have ta_ : ThOk _ _ := thOf_ok ka (nth (ids3 o a b) (u : Int))
  have tb_ : ThOk _ _ := thOf_ok kb (nth (ids3 o a b) (u : Int))
  refine ⟨OM, F75.law _ _ _ h1 (F75.law _ _ _ h2 (F75.law _ _ _ h3 ?_))⟩
  have eo : oneAt o a b (nth (ids3 o a b) (u : Int)) = oneOf (thOf o (nth (ids3 o a b) (u : Int))) (thOf a (nth (ids3 o a b) (u : Int))) (thOf b (nth (ids3 o a b) (u : Int))) := rfl
  rw [eo] at ec ef hsm
  clear eo
  generalize thOf o (nth (ids3 o a b) (u : Int)) = x at *
  generalize thOf a (nth (ids3 o a b) (u : Int)) = y at *
  generalize thOf b (nth (ids3 o a b) (u : Int)) = z at *
  generalize nth (ids3 o a b) (u : Int) = i at *
  have sx := to_.small; have sy := ta_.small; have sz := tb_.small
  refine ⟨fun x y => decide (x = y), fun x _ => x.f.Shape.Pts.length ≤ 1048576 ∧ x.f.Tags.length ≤ 1048576, fun x y hx => F40.law _ _ _ hx rfl, F9.law _ _ _ _ _ sy.2 sz.2 sy.2 ?_⟩
  refine ⟨fun cs fs l c1 c2 c3 c4 c5 => cs = joinCs o a b ((ids3 o a b).take (u + 1)) ∧ fs = joinFs o a b ((ids3 o a b).take u) ∧ l = ids3 o a b ∧ (⟨c1, (⟨c2, (⟨c3, c4⟩ : Shape), c5⟩ : Feat)⟩ : thing) = (oneOf x y z).1, ?_, ?_⟩
  ·rcases Bool.eq_false_or_eq_true (three x y z).2 with c0 | c0
   ·rw [if_pos c0]
    exact ⟨by rw [ec, one_same c0]; simp [clashAtL], rfl, rfl, by rw [one_same c0]⟩
   rw [if_neg (by rw [c0]; decide)]
   have e1 := one_else c0
   rcases Bool.eq_false_or_eq_true y.has with ca | ca
   case inr =>
    rw [if_pos (by rw [ca]; rfl)]
    rw [if_pos ca] at e1
    exact ⟨by simp only [List.length_cons, List.length_nil]; omega, by rw [ec, e1]; rfl, rfl, rfl, by rw [e1]⟩
   rw [if_neg (by rw [ca]; decide)]
   rw [if_neg (by rw [ca]; decide)] at e1
   rcases Bool.eq_false_or_eq_true z.has with cb | cb
   case inr =>
    rw [if_pos (by rw [cb]; rfl)]
    rw [if_pos cb] at e1
    exact ⟨by simp only [List.length_cons, List.length_nil]; omega, by rw [ec, e1]; rfl, rfl, rfl, by rw [e1]⟩
   rw [if_neg (by rw [cb]; decide)]
   rw [if_neg (by rw [cb]; decide)] at e1
   rcases Bool.eq_false_or_eq_true x.has with co | co
   case inr =>
    rw [if_pos (by rw [co]; rfl)]
    rw [if_pos co] at e1
    exact ⟨by simp only [List.length_cons, List.length_nil]; omega, by rw [ec, e1]; rfl, rfl, rfl, by rw [e1]⟩
   rw [if_neg (by rw [co]; decide)]
   rw [if_neg (by rw [co]; decide)] at e1
   obtain ⟨fx, ix⟩ := to_.has co; obtain ⟨fy, iy⟩ := ta_.has ca; obtain ⟨fz, iz⟩ := tb_.has cb
   refine F52.law _ _ _ _ OM OM OM ?_
   have ej : featJoin x.f y.f z.f = joinOf x.f y.f z.f := by unfold featJoin; rw [if_pos (by rw [fx, fy, fz, ix, iy, iz]; simp)]
   rw [ej]
   obtain ⟨w1, w2, w3⟩ := joinW_len fx fy fz
   generalize (joinOf x.f y.f z.f).1 = rf at *
   generalize (joinOf x.f y.f z.f).2 = W at *
   refine ⟨fun xs k => ∃ v : Nat, k = v ∧ v ≤ W.length ∧ xs = joinCs o a b ((ids3 o a b).take u) ++ clashAtL i (W.take v), fun _ k => (W.length - k).toNat, ⟨0, rfl, Nat.zero_le _, by simp [clashAtL]⟩, ?_⟩
   rintro _ _ ⟨v, rfl, hv, rfl⟩
   have hwl : (clashAtL i (W.take v)).length ≤ v := by unfold clashAtL; simp; omega
   by_cases g : v < W.length
   ·rw [if_pos (by simpa using g)]
    refine ⟨OM, by simp only [List.length_append, List.length_cons, List.length_nil]; omega, by unfold I64; omega, ⟨v + 1, OM, OM, ?_⟩, by dsimp only; omega⟩
    rw [take_nth _ g]; unfold clashAtL; rw [List.map_append, List.append_assoc]; rfl
   ·rw [if_neg (by simpa using g)]
    have : v = W.length := by omega
    subst this
    rw [List.take_length]
    exact ⟨by rw [ec, e1], rfl, rfl, by rw [e1]⟩
  ·rintro _ _ _ c1 c2 c3 c4 c5 ⟨rfl, rfl, rfl, hc⟩
   rw [← hc] at ef hsm
   refine ⟨fun fs => fs = joinFs o a b ((ids3 o a b).take (u + 1)), ?_, ?_⟩
   ·rw [ef]
    cases c1 with
    | true => rw [if_pos rfl]; exact F36.law _ _ (Nat.le_trans hsm RD) ⟨by simp only [List.length_cons, List.length_nil]; omega, rfl⟩
    | false => rw [if_neg RD]; simp
   ·rintro _ rfl
    exact ⟨by unfold I64; omega, ⟨u + 1, OM, OM, rfl, rfl, rfl⟩, by dsimp only; omega⟩
 rw [if_neg (by simpa using h)]
 have : u = (ids3 o a b).length := by omega
 subst this
 rw [List.take_length]
 have hs := joinFs_small ko ka kb (ids3 o a b)
 refine F74.law _ _ OM ?_
 cases kj : sheetOk (joinFs o a b (ids3 o a b)) with
 | true => rw [if_neg RD]; rw [kj, if_pos rfl] at hq; exact hq
 | false => rw [if_pos RD]; rw [kj, if_neg RD] at hq; exact hq
theorem F121.law (a b : List Feat) (Q : List Str → Prop) (ha : a.length ≤ 1000) (hb : b.length ≤ 1000) (hs : SS (ids a)) (hq : Q (uniq (ids a ++ ids b))) : F121.E a b Q := by
 unfold F121.E
 refine ⟨fun s i => ∃ u : Nat, i = u ∧ u ≤ b.length ∧ SS (ids s) ∧ (∀ x, x ∈ ids s ↔ x ∈ ids a ∨ x ∈ ids (b.take u)) ∧ s.length ≤ a.length + u, fun _ i => (b.length - i).toNat, ⟨0, rfl, Nat.zero_le _, hs, by simp [ids], OM⟩, ?_⟩
 rintro s _ ⟨u, rfl, hu, h1, h2, h3⟩
 by_cases h : u < b.length
 ·rw [if_pos (by simpa using h)]
  refine ⟨OM, F119.law _ _ _ OM h1 fun r r1 r2 r3 _ => ⟨OM, ⟨u + 1, OM, OM, r1, fun x => ?_, OM⟩, by dsimp only; omega⟩⟩
  rw [r2, h2, ids_take h, List.mem_append, List.mem_singleton]
  constructor
  ·rintro ((hx | hx) | hx)
   ·exact .inl hx
   ·exact .inr (.inl hx)
   ·exact .inr (.inr hx)
  ·rintro (hx | hx | hx)
   ·exact .inl (.inl hx)
   ·exact .inl (.inr hx)
   ·exact .inr hx
 ·rw [if_neg (by simpa using h)]
  have : u = b.length := by omega
  subst this
  rw [List.take_length] at h2
  have e : ids s = uniq (ids a ++ ids b) := SS.ext h1 (uniq_ss _) fun x => by rw [h2, uniq_mem, List.mem_append]
  rw [← e] at hq
  refine ⟨fun xs i => ∃ v : Nat, i = v ∧ v ≤ s.length ∧ xs = ids (s.take v), fun _ i => (s.length - i).toNat, ⟨0, rfl, Nat.zero_le _, rfl⟩, ?_⟩
  rintro _ _ ⟨v, rfl, hv, rfl⟩
  have hil : (ids (s.take v)).length ≤ v := by unfold ids; simp; omega
  by_cases g : v < s.length
  ·rw [if_pos (by simpa using g)]
   refine ⟨OM, by simp only [List.length_cons, List.length_nil]; omega, OM, ⟨v + 1, OM, OM, ?_⟩, by dsimp only; omega⟩
   rw [ids_take g]
  ·rw [if_neg (by simpa using g)]
   have : v = s.length := by omega
   subst this
   rw [List.take_length]; exact hq
theorem F122.law (o a b : List Feat) (Q : List Str → Prop) (ho : o.length ≤ 100) (ha : a.length ≤ 100) (hb : b.length ≤ 100) (hs : SS (ids o)) (hq : Q (ids3 o a b)) : F122.E o a b Q := by
 unfold F122.E
 refine ⟨fun s i => ∃ u : Nat, i = u ∧ u ≤ a.length ∧ SS (ids s) ∧ (∀ x, x ∈ ids s ↔ x ∈ ids o ∨ x ∈ ids (a.take u)) ∧ s.length ≤ o.length + u, fun _ i => (a.length - i).toNat, ⟨0, rfl, Nat.zero_le _, hs, by simp [ids], OM⟩, ?_⟩
 rintro s _ ⟨u, rfl, hu, h1, h2, h3⟩
 by_cases h : u < a.length
 ·rw [if_pos (by simpa using h)]
  refine ⟨OM, F119.law _ _ _ OM h1 fun r r1 r2 r3 _ => ⟨OM, ⟨u + 1, OM, OM, r1, fun x => ?_, OM⟩, by dsimp only; omega⟩⟩
  rw [r2, h2, ids_take h, List.mem_append, List.mem_singleton]
  constructor
  ·rintro ((hx | hx) | hx)
   ·exact .inl hx
   ·exact .inr (.inl hx)
   ·exact .inr (.inr hx)
  ·rintro (hx | hx | hx)
   ·exact .inl (.inl hx)
   ·exact .inl (.inr hx)
   ·exact .inr hx
 ·rw [if_neg (by simpa using h)]
  have : u = a.length := by omega
  subst this
  rw [List.take_length] at h2
  refine F121.law _ _ _ OM OM h1 ?_
  have e : uniq (ids s ++ ids b) = ids3 o a b := SS.ext (uniq_ss _) (uniq_ss _) fun x => by unfold ids3; rw [uniq_mem, uniq_mem, List.mem_append, h2, List.mem_append, List.mem_append]
  rw [e]; exact hq
theorem F99.law (s : List Feat) (id : Str) (Q : Feat → Bool → Prop) (hb : bulk s ≤ 1048576) (hq : Q (sideOf s id).1 (sideOf s id).2) : F99.E s id Q := by
 unfold F99.E
 have hl := bulk_len s
 refine F98.law _ _ _ ?_
 have h1 := findN_le s.length fun j => (nth s (j : Int)).Id == id
 unfold sideOf at hq
 by_cases h : findN s.length (fun j => (nth s (j : Int)).Id == id) < 0
 ·rw [if_pos h] at hq; rw [if_pos (by simpa using h)]; exact hq
 ·rw [if_neg h] at hq; rw [if_neg (by simpa using h)]
  exact ⟨OM, F80.law _ _ (by have := bulk_mem (nth_memi s OM h1.2); omega) hq⟩
theorem F100.law (a b : List Tag) (Q : Bool → Prop) (hq : Q (decide (a = b))) : F100.E a b Q := by
 unfold F100.E
 exact eqS_shape eqTag eqTag_is a b Q hq
theorem F91.law (a b : List Pt) (Q : Bool → Prop) (hq : Q (decide (a = b))) : F91.E a b Q := by
 unfold F91.E
 exact eqS_shape eqPt eqPt_is a b Q hq
theorem F39.law (a b : Shape) (Q : Bool → Prop) (hq : Q (decide (a = b))) : F39.E a b Q := by
 unfold F39.E
 by_cases h : a.Kind = b.Kind
 ·rw [if_pos (by rw [beq_iff_eq]; exact h)]
  refine F91.law _ _ _ ?_
  have : decide (a.Pts = b.Pts) = decide (a = b) := decide_eq_decide.2 (by rw [Shape.ext_iff']; exact ⟨fun e => ⟨h, e⟩, fun e => e.2⟩)
  rw [this]; exact hq
 ·rw [if_neg (by rw [beq_iff_eq]; exact h)]
  rw [decide_eq_false (by rw [Shape.ext_iff']; exact fun e => h e.1)] at hq; exact hq
theorem F57.law (a b : Feat) (Q : Bool → Prop) (hq : Q (decide (a = b))) : F57.E a b Q := by
 unfold F57.E
 by_cases h : a.Id = b.Id
 ·rw [if_pos (by rw [beq_iff_eq]; exact h)]
  refine F39.law _ _ _ ?_
  by_cases h2 : a.Shape = b.Shape
  ·rw [decide_eq_true h2, if_pos rfl]
   refine F100.law _ _ _ ?_
   have : decide (a.Tags = b.Tags) = decide (a = b) := decide_eq_decide.2 (by rw [Feat.ext_iff']; exact ⟨fun e => ⟨h, h2, e⟩, fun e => e.2.2⟩)
   rw [this]; exact hq
  ·rw [decide_eq_false h2, if_neg RD]
   rw [decide_eq_false (by rw [Feat.ext_iff']; exact fun e => h2 e.2.1)] at hq; exact hq
 ·rw [if_neg (by rw [beq_iff_eq]; exact h)]
  rw [decide_eq_false (by rw [Feat.ext_iff']; exact fun e => h e.1)] at hq; exact hq
theorem F115.law (a b : List Pt) (Q : Bool → Prop) (hq : Q (few a b)) : F115.E a b Q := by
 unfold F115.E
 unfold few at hq
 by_cases h : a.length ≤ 12
 ·rw [if_pos (by simp; omega)]
  rw [decide_eq_true h, Bool.true_and] at hq
  have : decide ((b.length : Int) ≤ 12) = decide (b.length ≤ 12) := decide_eq_decide.2 OM
  rw [this]; exact hq
 ·rw [if_neg (by simp; omega)]
  rw [decide_eq_false h, Bool.false_and] at hq; exact hq
theorem F116.m_is (a b : Int) : F116.m a b = max a b := by
 unfold F116.m
 by_cases h : a > b
 ·simp [h]; omega
 ·simp [h]; omega
theorem F92.law (a b : List Pt) (Q : Int → Prop) (ha : a.length ≤ 1048576) (hb : b.length ≤ 1048576) (hq : Q (lcs a b : Nat)) : F92.E a b Q := by
 unfold F92.E
 have hn : ((b.length : Int) + 1).toNat = b.length + 1 := by omega
 rw [hn]
 refine ⟨fun _ => by unfold I64; omega, OM, fun _ _ => by unfold I64; omega,
  fun xs i => ∃ k : Nat, i = (k : Int) - 1 ∧ k ≤ a.length ∧ RowOk a b k 0 xs, fun _ i => (i + 1).toNat, ⟨a.length, rfl, Nat.le_refl _, by simp, fun m _ hm => ?_⟩, ?_⟩
 ·rw [nth_rep _ _ _ OM, List.drop_length, lcs_nil]; rfl
 rintro xs _ ⟨k, rfl, hk, hr⟩
 by_cases hk0 : (k : Int) - 1 ≥ 0
 ·rw [if_pos (by simpa using hk0)]
  obtain ⟨i, rfl⟩ : ∃ i, k = i + 1 := ⟨k - 1, OM⟩
  have ei : ((i + 1 : Nat) : Int) - 1 = (i : Int) := by omega
  rw [ei]
  refine ⟨fun _ => by unfold I64; omega, OM, fun _ => by unfold I64; omega,
   fun ys j => ∃ m : Nat, j = (m : Int) - 1 ∧ m ≤ b.length ∧ RowOk a b i m ys, fun _ j => (j + 1).toNat, ⟨b.length, rfl, Nat.le_refl _, by simp, fun m hm1 hm2 => ?_⟩, ?_⟩
  ·have : m = b.length := by omega
   subst this
   rw [nth_rep _ _ _ OM, List.drop_length, lcs_nil2]; rfl
  rintro ys _ ⟨m, rfl, hm, hs⟩
  by_cases hm0 : (m : Int) - 1 ≥ 0
  ·rw [if_pos (by simpa using hm0)]
   obtain ⟨j, rfl⟩ : ∃ j, m = j + 1 := ⟨m - 1, OM⟩
   have ej : ((j + 1 : Nat) : Int) - 1 = (j : Int) := by omega
   have ej1 : (j : Int) + 1 = ((j + 1 : Nat) : Int) := by omega
   rw [ej, ej1, eqPt_is]
   have hl := lcs_drop a b (i := i) (j := j) OM OM
   have n1 := hr.2 (j + 1) (Nat.zero_le _) OM
   have n2 := hr.2 j (Nat.zero_le _) OM
   have n3 := hs.2 (j + 1) (Nat.le_refl _) OM
   have b1 := lcs_le2 (a.drop (i + 1)) (b.drop (j + 1))
   rw [List.length_drop] at b1
   have hset : ∀ v : Int, v = (lcs (a.drop i) (b.drop j) : Nat) → RowOk a b i j (ys.set (j : Int).toNat v) := fun v hv => by
    refine ⟨by rw [List.length_set]; exact hs.1, fun u hu1 hu2 => ?_⟩
    rw [Int.toNat_natCast, nth_set _ (by have := hs.1; omega)]
    by_cases e : u = j
    ·subst e; rw [if_pos rfl, hv]
    ·rw [if_neg e]; exact hs.2 u OM hu2
   have l1 := hr.1
   have l2 := hs.1
   refine ⟨OM, OM, ?_⟩
   by_cases he : nth a (i : Int) = nth b (j : Int)
   ·rw [if_pos (by simpa using he)]
    rw [if_pos he] at hl
    rw [n1]
    exact ⟨by unfold I64; omega, OM, by unfold I64; omega, OM, by unfold I64; omega, ⟨j, OM, OM, hset _ OM⟩, by dsimp only; omega⟩
   ·rw [if_neg (by simpa using he)]
    rw [if_neg he] at hl
    rw [n2, n3, F116.m_is]
    exact ⟨OM, by unfold I64; omega, OM, OM, by unfold I64; omega, ⟨j, OM, OM, hset _ OM⟩, by dsimp only; omega⟩
  ·rw [if_neg (by simpa using hm0)]
   have : m = 0 := by omega
   subst this
   exact ⟨by unfold I64; omega, ⟨i, OM, OM, hs⟩, by dsimp only; omega⟩
 ·rw [if_neg (by simpa using hk0)]
  have : k = 0 := by omega
  subst this
  have h1 := hr.1
  have h2 := hr.2 0 (Nat.le_refl _) (Nat.zero_le _)
  refine ⟨OM, ?_⟩
  rw [show nth xs 0 = nth xs ((0 : Nat) : Int) from rfl, h2]
  exact hq
theorem cut_end (a : List Pt) (k : Nat) : (a.drop k).take (a.length - k) = a.drop k := List.take_of_length_le (by rw [List.length_drop]; omega)
theorem F53.law (a b : List Pt) (Q : List Pair → Prop) (hq : Q (spairs a b)) : F53.E a b Q := by
 unfold F53.E
 unfold spairs at hq
 refine ⟨fun xs i j => ∃ u v : Nat, i = u ∧ j = v ∧ u ≤ a.length ∧ v ≤ b.length ∧ (few a b = true → xs ++ (pairs u v (a.drop u) (b.drop v)).map mkP = (pairs 0 0 a b).map mkP) ∧ (few a b = false → xs = []), fun _ i j => ((a.length - i) + (b.length - j)).toNat, ⟨0, 0, rfl, rfl, Nat.zero_le _, Nat.zero_le _, fun _ => rfl, fun _ => rfl⟩, ?_⟩
 rintro xs _ _ ⟨u, v, rfl, rfl, hu, hv, hx, hy⟩
 have hend : (a.length ≤ u ∨ b.length ≤ v) → Q xs := fun h => by
  by_cases hf : few a b = true
  ·rw [if_pos hf] at hq
   have hx := hx hf
   rcases h with h | h
   ·rw [List.drop_of_length_le h, pairs_nil, List.map_nil, List.append_nil] at hx
    rw [hx]; exact hq
   ·rw [List.drop_of_length_le h, pairs_nil2, List.map_nil, List.append_nil] at hx
    rw [hx]; exact hq
  ·rw [if_neg hf] at hq
   rw [hy (by simpa using hf)]; exact hq
 by_cases hu0 : (u : Int) < (a.length : Int)
 ·rw [if_pos (by simpa using hu0)]
  by_cases hv0 : (v : Int) < (b.length : Int)
  ·rw [if_pos (by simpa using hv0)]
   refine F115.law _ _ _ ?_
   by_cases hf : few a b = true
   ·rw [if_pos hf]
    have hx := hx hf
    have hff := few_iff.1 hf
    have hu1 : u < a.length := by omega
    have hv1 : v < b.length := by omega
    rw [pairs_drop a b hu1 hv1] at hx
    have eu : (u : Int) + 1 = ((u + 1 : Nat) : Int) := by omega
    have ev : (v : Int) + 1 = ((v + 1 : Nat) : Int) := by omega
    rw [eqPt_is, eu, ev]
    refine ⟨OM, OM, ?_⟩
    by_cases he : nth a (u : Int) = nth b (v : Int)
    ·rw [if_pos (by simpa using he)]
     rw [if_pos he, List.map_cons] at hx
     have hl := congrArg List.length hx
     rw [List.length_map, pairs_len, List.length_append] at hl
     have := lcs_le1 a b
     exact ⟨by simp only [List.length_singleton]; omega, OM, OM, ⟨u + 1, v + 1, rfl, rfl, OM, OM, fun _ => by rw [List.append_assoc]; exact hx, fun e => absurd hf (by rw [e]; exact Bool.false_ne_true)⟩, by dsimp only; omega⟩
    ·rw [if_neg (by simpa using he)]
     rw [if_neg he] at hx
     simp only [Int.toNat_natCast, cut_end]
     refine ⟨OM, OM, OM, _, F92.law _ _ _ (by rw [List.length_drop]; omega) (by rw [List.length_drop]; omega) rfl, OM, OM, OM, _, F92.law _ _ _ (by rw [List.length_drop]; omega) (by rw [List.length_drop]; omega) rfl, ?_⟩
     by_cases hc : lcs (a.drop u) (b.drop (v + 1)) ≤ lcs (a.drop (u + 1)) (b.drop v)
     ·rw [if_pos (by simpa using hc)]
      rw [if_pos hc] at hx
      exact ⟨OM, ⟨u + 1, v, rfl, rfl, OM, OM, fun _ => hx, fun e => absurd hf (by rw [e]; exact Bool.false_ne_true)⟩, OM⟩
     ·rw [if_neg (by simpa using hc)]
      rw [if_neg hc] at hx
      exact ⟨OM, ⟨u, v + 1, rfl, rfl, OM, OM, fun _ => hx, fun e => absurd hf (by rw [e]; exact Bool.false_ne_true)⟩, OM⟩
   ·rw [if_neg hf]
    rw [if_neg hf] at hq
    rw [hy (by simpa using hf)]; exact hq
  ·rw [if_neg (by simpa using hv0)]; exact hend (.inr OM)
 ·rw [if_neg (by simpa using hu0)]; exact hend (.inl OM)
theorem F128.law (l : List Pair) (k : Int) (Q : Int → Prop) (hq : Q (mateI l k)) : F128.E l k Q := by
 unfold F128.E
 refine ⟨fun i => ∃ u : Nat, i = u ∧ u ≤ l.length ∧ mateI (l.drop u) k = mateI l k, fun i => (l.length - i).toNat, ⟨0, rfl, Nat.zero_le _, rfl⟩, ?_⟩
 rintro _ ⟨u, rfl, hu, he⟩
 by_cases h : (u : Int) < (l.length : Int)
 ·rw [if_pos (by simpa using h)]
  rw [drop_nth l OM, mateI_cons] at he
  refine ⟨OM, ?_⟩
  by_cases hc : ((nth l (u : Int)).A == k) = true
  ·rw [if_pos hc] at he ⊢
   refine ⟨OM, ?_⟩
   rw [he]; exact hq
  ·rw [if_neg hc] at he ⊢
   exact ⟨OM, ⟨u + 1, OM, OM, he⟩, by dsimp only; omega⟩
 ·rw [if_neg (by simpa using h)]
  rw [List.drop_of_length_le (by omega : l.length ≤ u), mateI_nil] at he
  rw [he]; exact hq
theorem F93.law (o a b : List Pt) (Q : List Pt → Bool → Prop) (hs : ∀ r, pickL o a b = some r → Q r true) (hn : pickL o a b = none → Q [] false) : F93.E o a b Q := by
 unfold F93.E
 unfold pickL at hs hn
 refine F91.law _ _ _ ?_
 by_cases h1 : a = o
 ·rw [if_pos (by simpa using h1)]
  rw [if_pos h1] at hs; exact hs _ rfl
 rw [if_neg (by simpa using h1)]
 rw [if_neg h1] at hs hn
 refine F91.law _ _ _ ?_
 by_cases h2 : b = o
 ·rw [if_pos (by simpa using h2)]
  rw [if_pos h2] at hs; exact hs _ rfl
 rw [if_neg (by simpa using h2)]
 rw [if_neg h2] at hs hn
 refine F91.law _ _ _ ?_
 by_cases h3 : a = b
 ·rw [if_pos (by simpa using h3)]
  rw [if_pos h3] at hs; exact hs _ rfl
 ·rw [if_neg (by simpa using h3)]
  rw [if_neg h3] at hn; exact hn rfl
theorem F70.law (o a b : List Pt) (Q : List Pt → Bool → Prop) (h1 : few o a = true) (h2 : few o b = true) (hs : ∀ r, smerge o a b = some r → Q r true) (hn : smerge o a b = none → Q [] false) : F70.E o a b Q := by
 unfold F70.E
 refine F53.law _ _ _ (F53.law _ _ _ ?_)
 have f1 := few_iff.1 h1; have f2 := few_iff.1 h2
 refine ⟨fun xs i j k t => (∃ i' j' k' t' : Nat, i = i' ∧ j = j' ∧ k = k' ∧ t = t' ∧ MInv o a b xs i' j' k' t') ∨ (t = (o.length : Int) + 1 ∧ smerge o a b = some xs), fun _ _ _ _ t => (o.length + 1 - t).toNat, .inl ⟨0, 0, 0, 0, rfl, rfl, rfl, rfl, MInv.zero h1 h2⟩, ?_⟩
 rintro xs _ _ _ _ (⟨i, j, k, t, rfl, rfl, rfl, rfl, h⟩ | ⟨rfl, h⟩)
 ·have ht := h.ht; have hi := h.hi; have hj := h.hj; have hk := h.hk; have hl := h.len
  rw [if_pos (by simp; omega)]
  simp only [Int.toNat_natCast]
  by_cases ht0 : (t : Int) < (o.length : Int)
  ·rw [if_pos (by simpa using ht0)]
   refine F128.law _ _ _ (F128.law _ _ _ ?_)
   rw [mate_part h1, mate_part h2]
   cases hx : part o a t with
   | none =>
    rw [if_pos RD]
    exact ⟨OM, .inl ⟨i, j, k, t + 1, rfl, rfl, rfl, rfl, h.skip OM (.inl hx)⟩, OM⟩
   | some x =>
    rw [if_neg (by simp)]
    cases hy : part o b t with
    | none =>
     rw [if_pos RD]
     exact ⟨OM, .inl ⟨i, j, k, t + 1, rfl, rfl, rfl, rfl, h.skip OM (.inr hy)⟩, OM⟩
    | some y =>
     rw [if_neg (by simp)]
     dsimp only
     obtain ⟨g1, g2, g3, g4⟩ := h.from hx hy
     refine ⟨OM, OM, OM, F93.law _ _ _ _ (fun p hp => ?_) (fun hp => ?_)⟩
     ·rw [if_neg (by simp)]
      have hm := (pickL_mem (o := seg o i t) (a := seg a j x) (b := seg b k y) hp).2.2.2
      rw [seg_len a _ _ OM, seg_len b _ _ OM] at hm
      exact ⟨OM, OM, by simp only [List.length_append, List.length_singleton]; omega, OM, fun _ _ _ => by unfold I64; omega, fun _ _ _ => by unfold I64; omega, OM, .inl ⟨t + 1, x + 1, y + 1, t + 1, rfl, rfl, rfl, rfl, h.step OM hx hy hp⟩, OM⟩
     ·rw [if_pos (by simp)]
      exact hn (h.stop OM hx hy hp)
  ·rw [if_neg (by simpa using ht0)]
   have : t = o.length := by omega
   subst this
   refine ⟨OM, OM, OM, ?_⟩
   have hlast := h.last
   have e1 : (o.drop i).take (o.length - i) = o.drop i := seg_end o i
   have e2 : (a.drop j).take (a.length - j) = a.drop j := seg_end a j
   have e3 : (b.drop k).take (b.length - k) = b.drop k := seg_end b k
   rw [e1, e2, e3]
   refine F93.law _ _ _ _ (fun p hp => ?_) (fun hp => ?_)
   ·rw [if_neg (by simp)]
    have hm := (pickL_mem hp).2.2.2
    rw [List.length_drop, List.length_drop] at hm
    rw [hp, Option.map_some] at hlast
    exact ⟨OM, fun _ _ _ => by unfold I64; omega, fun _ _ _ => by unfold I64; omega, fun _ _ _ => by unfold I64; omega, fun _ _ _ => by unfold I64; omega, .inr ⟨rfl, hlast.symm⟩, OM⟩
   ·rw [if_pos (by simp)]
    rw [hp] at hlast
    exact hn hlast.symm
 ·rw [if_neg (by simp; omega)]
  exact hs _ h
theorem F71.law (o a b : Shape) (Q : Shape → Bool → Prop) (h1 : o.Pts.length ≤ 6) (h2 : a.Pts.length ≤ 6) (h3 : b.Pts.length ≤ 6) (hq : Q (shapeF o a b).1 (shapeF o a b).2) : F71.E o a b Q := by
 unfold F71.E
 unfold shapeF three at hq
 refine F39.law _ _ _ ?_
 by_cases e1 : a = o
 ·rw [decide_eq_true e1, if_pos rfl]; rw [if_pos e1, if_pos rfl] at hq; exact hq
 rw [decide_eq_false e1, if_neg RD]; rw [if_neg e1] at hq
 refine F39.law _ _ _ ?_
 by_cases e2 : b = o
 ·rw [decide_eq_true e2, if_pos rfl]; rw [if_pos e2, if_pos rfl] at hq; exact hq
 rw [decide_eq_false e2, if_neg RD]; rw [if_neg e2] at hq
 refine F39.law _ _ _ ?_
 by_cases e3 : a = b
 ·rw [decide_eq_true e3, if_pos rfl]; rw [if_pos e3, if_pos rfl] at hq; exact hq
 rw [decide_eq_false e3, if_neg RD]; rw [if_neg e3, if_neg (by simp)] at hq
 by_cases k1 : a.Kind = b.Kind
 case neg => rw [if_pos (by rw [bne_iff_ne]; exact k1)]; rw [if_neg fun h => k1 (h.1.trans h.2.symm)] at hq; exact hq
 rw [if_neg (by rw [k1]; simp)]
 by_cases k2 : a.Kind = o.Kind
 case neg => rw [if_pos (by rw [bne_iff_ne]; exact k2)]; rw [if_neg fun h => k2 h.1] at hq; exact hq
 rw [if_neg (by rw [k2]; simp)]
 rw [if_pos ⟨k2, k1.symm.trans k2⟩] at hq
 refine F70.law _ _ _ _ (few_iff.2 OM) (few_iff.2 OM) (fun r hr => ?_) (fun hr => ?_)
 ·rw [if_neg RD]
  rw [hr] at hq
  dsimp only at hq
  refine F63.law _ _ ?_
  cases k3 : shapeOk ⟨a.Kind, r⟩ with
  | true => rw [if_neg RD]; rw [if_pos k3] at hq; exact hq
  | false => rw [if_pos RD]; rw [if_neg (by rw [k3]; decide)] at hq; exact hq
 ·rw [if_pos RD]; rw [hr] at hq; exact hq
theorem F117.law (t : List Tag) (key : Str) (Q : Str → Bool → Prop) (hq : Q (valT t key).val (valT t key).has) : F117.E t key Q := by
 unfold F117.E
 unfold valT at hq
 obtain ⟨I, mu, h1, h2⟩ := loop_find t.length (fun j => (nth t (j : Int)).Key == key) (Q := fun r => if r < 0 then Q [] false else Q (nth t r).Val true)
  (B := fun I mu i => ((0 : Int) ≤ i ∧ i < (t.length : Int)) ∧ (if ((nth t i).Key) == key then ((0 : Int) ≤ i ∧ i < (t.length : Int)) ∧ Q ((nth t i).Val) true else (-9223372036854775808 ≤ i) ∧ I (i + 1) ∧ mu (i + 1) < mu i))
  (by
   try dsimp only
   split
   ·rename_i h; rw [if_pos h] at hq; exact hq
   ·rename_i h; rw [if_neg h] at hq; exact hq)
  (fun I mu k hk h1 h2 => ⟨OM, by
   cases h : (nth t (k : Int)).Key == key with
   | true => rw [if_pos rfl]; have := h1 h; rw [if_neg OM] at this; exact ⟨OM, this⟩
   | false => rw [if_neg RD]; obtain ⟨i1, i2⟩ := h2 h; exact ⟨OM, i1, i2⟩⟩)
 refine ⟨I, mu, h1, fun i hi => ?_⟩
 have h3 := h2 i hi
 by_cases h : i < (t.length : Int)
 ·rw [if_pos (decide_eq_true h)] at h3 ⊢; exact h3
 ·rw [if_neg (by simpa using h)] at h3 ⊢
  rw [if_pos RD] at h3; exact h3
theorem value.ext_iff' (a b : value) : a = b ↔ a.has = b.has ∧ a.val = b.val := by cases a; cases b; simp
def tagE (o a b : value) (Q : Str → Bool → Bool → Prop) : Prop :=
 if a = o then Q b.val b.has true else if b = o then Q a.val a.has true else if a = b then Q a.val a.has true else if a.has then Q a.val true false else Q b.val true false
theorem tagE_of {o a b : value} {Q : Str → Bool → Bool → Prop} (ha : a.has = false → a = ⟨false, []⟩) (hb : b.has = false → b = ⟨false, []⟩) (hq : Q (tagF o a b).1.val (tagF o a b).1.has (tagF o a b).2) : tagE o a b Q := by
 unfold tagE
 unfold tagF three at hq
 by_cases e1 : a = o
 ·rw [if_pos e1]; rw [if_pos e1, if_pos rfl] at hq; exact hq
 ·rw [if_neg e1] at hq ⊢
  by_cases e2 : b = o
  ·rw [if_pos e2]; rw [if_pos e2, if_pos rfl] at hq; exact hq
  ·rw [if_neg e2] at hq ⊢
   by_cases e3 : a = b
   ·rw [if_pos e3]; rw [if_pos e3, if_pos rfl] at hq; exact hq
   ·rw [if_neg e3] at hq ⊢
    rw [if_neg (by simp)] at hq
    cases h : a.has with
    | true => rw [if_pos rfl]; rw [h, if_pos rfl, h] at hq; exact hq
    | false =>
     rw [if_neg RD]; rw [h, if_neg RD] at hq
     cases g : b.has with
     | true => rw [g] at hq; exact hq
     | false => exact absurd ((ha h).trans (hb g).symm) e3
theorem beq_dec {α : Type} [DecidableEq α] [BEq α] [LawfulBEq α] {x y : α} : ((x == y) = true) = (x = y) := by simp
theorem F118.law (o a b : List Tag) (key : Str) (Q : Str → Bool → Bool → Prop) (hq : Q (tagK o a b key).1.val (tagK o a b key).1.has (tagK o a b key).2) : F118.E o a b key Q := by
 unfold F118.E
 refine F117.law _ _ _ (F117.law _ _ _ (F117.law _ _ _ ?_))
 have h := tagE_of (valT_no a key) (valT_no b key) hq
 generalize valT o key = vo at *
 generalize valT a key = va at *
 generalize valT b key = vb at *
 unfold tagE at h
 simp only [value.ext_iff'] at h
 by_cases e1 : va.val = vo.val <;> by_cases e2 : va.has = vo.has <;> by_cases e3 : vb.val = vo.val <;> by_cases e4 : vb.has = vo.has <;> by_cases e5 : va.val = vb.val <;> by_cases e6 : va.has = vb.has <;>
  simp only [beq_dec, e1, e2, e3, e4, e5, e6, if_true, if_false, and_self, and_true, and_false, false_and, true_and] at h ⊢ <;> first | exact h | simp_all
theorem F94.law (o a b : List Tag) (Q : List Str → Prop) (h1 : o.length ≤ 100) (h2 : a.length ≤ 100) (h3 : b.length ≤ 100) (hq : Q (uniq (keysT (o ++ a ++ b)))) : F94.E o a b Q := by
 unfold F94.E
 rw [List.nil_append]
 refine ⟨by simp only [List.length_nil]; omega, OM, by simp only [List.length_append]; omega, ?_⟩
 have hl : (o ++ a ++ b).length ≤ 300 := by simp only [List.length_append]; omega
 generalize o ++ a ++ b = l at *
 refine ⟨fun s i => ∃ u : Nat, i = u ∧ u ≤ l.length ∧ SS (keysT s) ∧ (∀ x, x ∈ keysT s ↔ x ∈ keysT (l.take u)) ∧ s.length ≤ u, fun _ i => (l.length - i).toNat, ⟨0, rfl, Nat.zero_le _, by simp [keysT, SS], by simp [keysT], by simp⟩, ?_⟩
 rintro s _ ⟨u, rfl, hu, g1, g2, g3⟩
 by_cases h : u < l.length
 ·rw [if_pos (by simpa using h)]
  refine ⟨OM, F114.law _ _ _ _ OM g1 fun r r1 r2 r3 _ => ⟨OM, ⟨u + 1, OM, OM, r1, fun x => ?_, OM⟩, by dsimp only; omega⟩⟩
  rw [r2, g2, keys_take h, List.mem_append, List.mem_singleton]
 ·rw [if_neg (by simpa using h)]
  have : u = l.length := by omega
  subst this
  rw [List.take_length] at g2
  have e : keysT s = uniq (keysT l) := SS.ext g1 (uniq_ss _) fun x => by rw [g2, uniq_mem]
  rw [← e] at hq
  refine ⟨fun xs i => ∃ v : Nat, i = v ∧ v ≤ s.length ∧ xs = keysT (s.take v), fun _ i => (s.length - i).toNat, ⟨0, rfl, Nat.zero_le _, rfl⟩, ?_⟩
  rintro _ _ ⟨v, rfl, hv, rfl⟩
  have hil : (keysT (s.take v)).length ≤ v := by unfold keysT; simp; omega
  by_cases g : v < s.length
  ·rw [if_pos (by simpa using g)]
   refine ⟨OM, by simp only [List.length_cons, List.length_nil]; omega, OM, ⟨v + 1, OM, OM, ?_⟩, by dsimp only; omega⟩
   rw [keys_take g]
  ·rw [if_neg (by simpa using g)]
   have : v = s.length := by omega
   subst this
   rw [List.take_length]; exact hq
theorem F95.law (o a b : Feat) (Q : Feat → List Str → Prop) (ko : featOk o = true) (ka : featOk a = true) (kb : featOk b = true) (hq : Q (joinOf o a b).1 (joinOf o a b).2) : F95.E o a b Q := by
 unfold F95.E
 have fo := feat_facts ko; have fa := feat_facts ka; have fb := feat_facts kb
 have so := fo.2.2.1; have sa := fa.2.2.1; have sb := fb.2.2.1
 refine F71.law _ _ _ _ so sa sb ?_
 refine ⟨fun xs => xs = (if (shapeF o.Shape a.Shape b.Shape).2 then [] else [shapeS]), ?_, ?_⟩
 ·cases c : (shapeF o.Shape a.Shape b.Shape).2 with
  | true => rw [if_neg RD, if_pos rfl]
  | false => rw [if_pos RD, if_neg RD]; exact ⟨by decide, rfl⟩
 rintro _ rfl
 have hpts := shapeF_pts (o := o.Shape) sa sb
 unfold F79.E
 refine ⟨by simp only [List.length_nil]; omega, ?_⟩
 rw [List.nil_append]
 refine F94.law _ _ _ _ OM OM OM ?_
 obtain ⟨ks1, ks2⟩ := allKeys_small ko ka kb
 have ek : uniq (keysT (o.Tags ++ a.Tags ++ b.Tags)) = allKeys o a b := rfl
 rw [ek]
 refine ⟨fun xs i ts => ∃ u : Nat, i = u ∧ u ≤ (allKeys o a b).length ∧ xs = (if (shapeF o.Shape a.Shape b.Shape).2 then [] else [shapeS]) ++ clashL o.Tags a.Tags b.Tags ((allKeys o a b).take u) ∧ ts = tagsL o.Tags a.Tags b.Tags ((allKeys o a b).take u), fun _ i _ => ((allKeys o a b).length - i).toNat, ⟨0, rfl, Nat.zero_le _, by simp [clashL], by simp [tagsL]⟩, ?_⟩
 rintro _ _ _ ⟨u, rfl, hu, rfl, rfl⟩
 have hpre : (if (shapeF o.Shape a.Shape b.Shape).2 then ([] : List Str) else [shapeS]).length ≤ 1 := by split <;> decide
 by_cases h : u < (allKeys o a b).length
 ·rw [if_pos (by simpa using h)]
  have hk6 := ks2 _ (nth_mem _ h)
  have hcl := clashL_len o.Tags a.Tags b.Tags ((allKeys o a b).take u)
  have htl := tagsL_len o.Tags a.Tags b.Tags ((allKeys o a b).take u)
  rw [List.length_take] at hcl htl
  refine ⟨OM, F118.law _ _ _ _ _ ?_⟩
  have ec := clashL_snoc o.Tags a.Tags b.Tags ((allKeys o a b).take u) (nth (allKeys o a b) (u : Int))
  have et := tagsL_snoc o.Tags a.Tags b.Tags ((allKeys o a b).take u) (nth (allKeys o a b) (u : Int))
  rw [← take_nth _ h] at ec et
  refine ⟨fun xs => xs = (if (shapeF o.Shape a.Shape b.Shape).2 then [] else [shapeS]) ++ clashL o.Tags a.Tags b.Tags ((allKeys o a b).take (u + 1)), ?_, ?_⟩
  ·rw [ec]
   cases c : (tagK o.Tags a.Tags b.Tags (nth (allKeys o a b) (u : Int))).2 with
   | true => rw [if_neg RD, if_pos rfl, List.append_nil]
   | false =>
    rw [if_pos RD]
    simp only [Bool.false_eq_true, if_false]
    exact ⟨OM, by simp only [List.length_cons, List.length_nil]; omega, by simp only [List.length_append, List.length_cons, List.length_nil]; omega, by rw [List.append_assoc]; rfl⟩
  ·rintro _ rfl
   refine ⟨fun ts => ts = tagsL o.Tags a.Tags b.Tags ((allKeys o a b).take (u + 1)), ?_, ?_⟩
   ·rw [et]
    split
    ·exact ⟨OM, by simp only [List.length_cons, List.length_nil]; omega, rfl⟩
    ·rw [List.append_nil]
   ·rintro _ rfl
    exact ⟨by unfold I64; omega, ⟨u + 1, OM, OM, rfl, rfl⟩, by dsimp only; omega⟩
 rw [if_neg (by simpa using h)]
 have : u = (allKeys o a b).length := by omega
 subst this
 rw [List.take_length]
 unfold joinOf at hq
 show F84.E (joinF o a b) _
 refine F84.law _ _ ?_
 cases kj : featOk (joinF o a b) with
 | true =>
  rw [if_neg RD]
  rw [kj, if_pos rfl] at hq
  exact hq
 | false =>
  rw [if_pos RD]
  rw [kj, if_neg RD] at hq
  exact F80.law _ _ (by have := (feat_small ka).1; omega) hq
theorem th_same {x y : thing} (h : x.has = y.has) : decide (x.f = y.f) = decide (x = y) := decide_eq_decide.2 (by rw [thing.ext_iff']; exact ⟨fun g => ⟨h, g⟩, fun g => g.2⟩)
theorem th_diff {x y : thing} (h : ¬ x.has = y.has) : decide (x = y) = false := decide_eq_false fun e => h (by rw [e])
theorem three_snd {α : Type} [DecidableEq α] (o a b : α) : (three o a b).2 = (decide (a = o) || (decide (b = o) || decide (a = b))) := by
 unfold three
 by_cases h1 : a = o
 ·rw [if_pos h1, decide_eq_true h1]; rfl
 ·rw [if_neg h1, decide_eq_false h1]
  by_cases h2 : b = o
  ·rw [if_pos h2, decide_eq_true h2]; rfl
  ·rw [if_neg h2, decide_eq_false h2]
   by_cases h3 : a = b
   ·rw [if_pos h3, decide_eq_true h3]; rfl
   ·rw [if_neg h3, decide_eq_false h3]; rfl
theorem F123.law (o a b : List Feat) (id : Str) (Q : Feat → Bool → List Str → Prop) (ho : sheetOk o = true) (ha : sheetOk a = true) (hb : sheetOk b = true) (h1 : bulk o ≤ 1048576) (h2 : bulk a ≤ 1048576) (h3 : bulk b ≤ 1048576)
  (hq : Q (oneAt o a b id).1.f (oneAt o a b id).1.has (oneAt o a b id).2) : F123.E o a b id Q := by
 unfold F123.E
 refine F99.law _ _ _ h1 (F99.law _ _ _ h2 (F99.law _ _ _ h3 ?_))
 have to_ : ThOk _ _ := thOf_ok ho id
 have ta_ : ThOk _ _ := thOf_ok ha id
 have tb_ : ThOk _ _ := thOf_ok hb id
 have eo : oneAt o a b id = oneOf (thOf o id) (thOf a id) (thOf b id) := rfl
 rw [eo] at hq
 clear eo
 have e1 : (sideOf o id).1 = (thOf o id).f := rfl
 have e2 : (sideOf o id).2 = (thOf o id).has := rfl
 have e3 : (sideOf a id).1 = (thOf a id).f := rfl
 have e4 : (sideOf a id).2 = (thOf a id).has := rfl
 have e5 : (sideOf b id).1 = (thOf b id).f := rfl
 have e6 : (sideOf b id).2 = (thOf b id).has := rfl
 rw [e1, e2, e3, e4, e5, e6]
 clear e1 e2 e3 e4 e5 e6
 generalize thOf o id = x at *
 generalize thOf a id = y at *
 generalize thOf b id = z at *
 refine ⟨fun v => v = decide (y = x), ?_, ?_⟩
 ·by_cases g : y.has = x.has
  ·rw [if_pos (by simpa using g)]; exact F57.law _ _ _ (th_same g)
  ·rw [if_neg (by simpa using g)]; exact (th_diff g).symm
 rintro _ rfl
 by_cases c1 : y = x
 ·rw [decide_eq_true c1, if_pos rfl]
  have et : three x y z = (z, true) := by unfold three; rw [if_pos c1]
  rw [one_same (by rw [et]), et] at hq; exact hq
 rw [decide_eq_false c1, if_neg RD]
 refine ⟨fun v => v = (decide (z = x) || decide (y = z)), ?_, ?_⟩
 ·have k2 : (if (y.has == z.has) = true then F57.E y.f z.f (fun r9 => r9 = decide (y = z)) else false = decide (y = z)) := by
   by_cases g : y.has = z.has
   ·rw [if_pos (by simpa using g)]; exact F57.law _ _ _ (th_same g)
   ·rw [if_neg (by simpa using g)]; exact (th_diff g).symm
  by_cases g : z.has = x.has
  ·rw [if_pos (by simpa using g)]
   refine F57.law _ _ _ ?_
   rw [th_same g]
   by_cases c2 : z = x
   ·rw [decide_eq_true c2, if_pos rfl]; rfl
   ·rw [decide_eq_false c2, if_neg RD, Bool.false_or]; exact k2
  ·rw [if_neg (by simpa using g), th_diff g, Bool.false_or]; exact k2
 rintro _ rfl
 have e3 := three_snd x y z
 rw [decide_eq_false c1, Bool.false_or] at e3
 cases c2 : (decide (z = x) || decide (y = z)) with
 | true =>
  rw [if_pos rfl]
  have et : three x y z = (y, true) := by
   rcases three_case x y z with ⟨g, _⟩ | ⟨_, _, g⟩ | ⟨_, _, _, g⟩ | ⟨_, g1, g2, _⟩
   ·exact absurd g c1
   ·exact g
   ·exact g
   ·rw [decide_eq_false g1, decide_eq_false g2] at c2; cases c2
  rw [one_same (by rw [et]), et] at hq; exact hq
 | false =>
  rw [if_neg RD]
  rw [c2] at e3
  rw [one_else e3] at hq
  rcases Bool.eq_false_or_eq_true y.has with ca | ca
  case inr =>
   rw [if_pos (by rw [ca]; rfl)]
   rw [if_pos ca] at hq
   have hz : z.has = true := by
    cases g : z.has with
    | true => rfl
    | false =>
     rw [ta_.no ca, tb_.no g] at c2
     simp at c2
   rw [hz] at hq; exact hq
  rw [if_neg (by rw [ca]; decide)]
  rw [if_neg (by rw [ca]; decide)] at hq
  rcases Bool.eq_false_or_eq_true z.has with cb | cb
  case inr =>
   rw [if_pos (by rw [cb]; rfl)]
   rw [if_pos cb] at hq
   rw [ca] at hq; exact hq
  rw [if_neg (by rw [cb]; decide)]
  rw [if_neg (by rw [cb]; decide)] at hq
  rcases Bool.eq_false_or_eq_true x.has with co | co
  case inr =>
   rw [if_pos (by rw [co]; rfl)]
   rw [if_pos co] at hq
   rw [ca] at hq; exact hq
  rw [if_neg (by rw [co]; decide)]
  rw [if_neg (by rw [co]; decide)] at hq
  obtain ⟨fx, ix⟩ := to_.has co; obtain ⟨fy, iy⟩ := ta_.has ca; obtain ⟨fz, iz⟩ := tb_.has cb
  exact F95.law _ _ _ _ fx fy fz hq
theorem F102.law (o a b : List Feat) (Q : List Feat → List Clash → Bool → Prop) (ho : sheetOk o = true) (ha : sheetOk a = true) (hb : sheetOk b = true) (h1 : bulk o ≤ 1048576) (h2 : bulk a ≤ 1048576) (h3 : bulk b ≤ 1048576)
  (hq : Q (joinFs o a b (ids3 o a b)) (joinCs o a b (ids3 o a b)) (sheetOk (joinFs o a b (ids3 o a b)))) : F102.E o a b Q := by
 unfold F102.E
 have so := sheet_ss ho; have sa := sheet_ss ha; have sb := sheet_ss hb
 refine F122.law _ _ _ _ OM OM OM so.1 ?_
 have hlen := ids3_len ho ha hb
 refine ⟨fun fs cs l i => ∃ u : Nat, i = u ∧ u ≤ (ids3 o a b).length ∧ l = ids3 o a b ∧ cs = joinCs o a b ((ids3 o a b).take u) ∧ fs = joinFs o a b ((ids3 o a b).take u), fun _ _ _ i => ((ids3 o a b).length - i).toNat, ⟨0, rfl, Nat.zero_le _, rfl, rfl, rfl⟩, ?_⟩
 rintro _ _ _ _ ⟨u, rfl, hu, rfl, rfl, rfl⟩
 by_cases h : u < (ids3 o a b).length
 ·rw [if_pos (by simpa using h)]
  have ec := joinCs_snoc o a b ((ids3 o a b).take u) (nth (ids3 o a b) (u : Int))
  have ef := joinFs_snoc o a b ((ids3 o a b).take u) (nth (ids3 o a b) (u : Int))
  rw [← take_nth _ h] at ec ef
  have hcl := joinCs_len ho ha hb ((ids3 o a b).take u)
  have hfl := joinFs_len o a b ((ids3 o a b).take u)
  rw [List.length_take] at hcl hfl
  have hw := (oneAt_small ho ha hb (nth (ids3 o a b) (u : Int))).1
  refine ⟨OM, F123.law _ _ _ _ _ ho ha hb h1 h2 h3 ?_⟩
  generalize nth (ids3 o a b) (u : Int) = i at *
  have inner : ∀ fs : List Feat, fs = joinFs o a b ((ids3 o a b).take (u + 1)) → ∃ (I : List Clash → Int → Prop) (mu : List Clash → Int → Nat), I (joinCs o a b ((ids3 o a b).take u)) 0 ∧ ∀ (xs : List Clash) (k : Int), I xs k →
    (if decide (k < ((oneAt o a b i).2.length : Int)) = true then ((0 : Int) ≤ (u : Int) ∧ (u : Int) < ((ids3 o a b).length : Int)) ∧ ((0 : Int) ≤ k ∧ k < ((oneAt o a b i).2.length : Int)) ∧ (xs.length + ([(⟨i, (nth (oneAt o a b i).2 k)⟩ : Clash)] : List Clash).length ≤ 268435456) ∧ (-9223372036854775808 ≤ k) ∧ I (xs ++ ([(⟨i, (nth (oneAt o a b i).2 k)⟩ : Clash)] : List Clash)) (k + 1) ∧ mu (xs ++ ([(⟨i, (nth (oneAt o a b i).2 k)⟩ : Clash)] : List Clash)) (k + 1) < mu xs k
    else (((oneAt o a b i).2.length : Int) ≤ 9223372036854775807 → I64 ((u : Int) + 1)) ∧ (∃ v : Nat, (u : Int) + 1 = v ∧ v ≤ (ids3 o a b).length ∧ ids3 o a b = ids3 o a b ∧ xs = joinCs o a b ((ids3 o a b).take v) ∧ fs = joinFs o a b ((ids3 o a b).take v)) ∧ ((ids3 o a b).length - ((u : Int) + 1)).toNat < ((ids3 o a b).length - (u : Int)).toNat) := fun fs hfs => by
   generalize (oneAt o a b i).2 = W at *
   refine ⟨fun xs k => ∃ v : Nat, k = v ∧ v ≤ W.length ∧ xs = joinCs o a b ((ids3 o a b).take u) ++ clashAtL i (W.take v), fun _ k => (W.length - k).toNat, ⟨0, rfl, Nat.zero_le _, by simp [clashAtL]⟩, ?_⟩
   rintro _ _ ⟨v, rfl, hv, rfl⟩
   have hwl : (clashAtL i (W.take v)).length ≤ v := by unfold clashAtL; simp; omega
   by_cases g : v < W.length
   ·rw [if_pos (by simpa using g)]
    refine ⟨OM, OM, by simp only [List.length_append, List.length_cons, List.length_nil]; omega, OM, ⟨v + 1, OM, OM, ?_⟩, by dsimp only; omega⟩
    rw [take_nth _ g]; unfold clashAtL; rw [List.map_append, List.append_assoc]; rfl
   ·rw [if_neg (by simpa using g)]
    have : v = W.length := by omega
    subst this
    rw [List.take_length]
    exact ⟨fun _ => by unfold I64; omega, ⟨u + 1, OM, OM, rfl, ec.symm, hfs⟩, OM⟩
  rcases Bool.eq_false_or_eq_true (oneAt o a b i).1.has with c | c
  ·rw [if_pos c]
   exact ⟨by simp only [List.length_cons, List.length_nil]; omega, inner _ (by rw [ef, if_pos c])⟩
  ·rw [if_neg (by rw [c]; decide)]
   exact inner _ (by rw [ef, if_neg (by rw [c]; decide), List.append_nil])
 rw [if_neg (by simpa using h)]
 have : u = (ids3 o a b).length := by omega
 subst this
 rw [List.take_length]
 have hs := joinFs_small ho ha hb (ids3 o a b)
 exact F101.law _ _ OM (F76.law _ _ hq)
theorem F42.law (o a b : List Feat) (Q : List Feat → List Clash → Bool → Prop) (h1 : bulk o ≤ 1048576) (h2 : bulk a ≤ 1048576) (h3 : bulk b ≤ 1048576) (hq : Q (sheetJoin o a b).1 (sheetJoin o a b).2.1 (sheetJoin o a b).2.2) : F42.E o a b Q := by
 unfold F42.E
 unfold sheetJoin at hq
 have zq : (sheetOk o && sheetOk a && sheetOk b) = false → Q [] [] false := fun h => by rw [h, if_neg RD] at hq; exact hq
 refine F76.law _ _ ?_
 cases ko : sheetOk o with
 | false => rw [if_pos RD]; exact zq (by rw [ko]; rfl)
 | true =>
 rw [if_neg RD]
 refine F76.law _ _ ?_
 cases ka : sheetOk a with
 | false => rw [if_pos RD]; exact zq (by rw [ko, ka]; rfl)
 | true =>
 rw [if_neg RD]
 refine F76.law _ _ ?_
 cases kb : sheetOk b with
 | false => rw [if_pos RD]; exact zq (by rw [ko, ka, kb]; rfl)
 | true =>
 rw [if_neg RD]
 rw [ko, ka, kb, if_pos RD] at hq
 refine F102.law _ _ _ _ ko ka kb h1 h2 h3 ?_
 cases kj : sheetOk (joinFs o a b (ids3 o a b)) with
 | true => rw [if_neg RD]; rw [kj, if_pos rfl] at hq; exact hq
 | false => rw [if_pos RD]; rw [kj, if_neg RD] at hq; exact hq
def F47.E (a b : List Clash) (Q : Bool → Prop) : Prop :=
 (if (a.length : Int) != (b.length : Int) then Q false else (∃ (I32 : Int → Prop) (mu33 : Int → Nat), I32 0 ∧ ∀ (i2 : Int), I32 i2 → (if decide (i2 < (a.length : Int)) then ((0 : Int) ≤ i2 ∧ i2 < (a.length : Int)) ∧ ((0 : Int) ≤ i2 ∧ i2 < (b.length : Int)) ∧ (if !(eqClash (nth a i2) (nth b i2)) then Q false else (-9223372036854775808 ≤ i2) ∧ I32 (i2 + 1) ∧ mu33 (i2 + 1) < mu33 i2) else Q true)))
theorem F47.law (a b : List Clash) (Q : Bool → Prop) (hq : Q (decide (a = b))) : F47.E a b Q := by
 unfold F47.E
 exact eqS_shape eqClash eqClash_is a b Q hq
theorem F10.law (a b : List Clash) (Q : Bool → Prop) (hb : a.length ≤ 1048576) (hq : Q (decide (a = b))) : F10.E a b Q := by
 unfold F10.E
 exact eqI_shape eqClash eqClash_is a b Q hb hq
theorem F43.law (a b : List Clash) (Q : Bool → Prop) (hb : a.length ≤ 1048576) (hq : Q (decide (a = b))) : F43.E a b Q := by
 unfold F43.E
 exact F10.law _ _ _ hb hq
theorem F33.law (s : List Feat) (Q : List Feat → Prop) (hb : bulk s ≤ 1048576) (hq : Q s) : F33.E s Q := by
 unfold F33.E
 have hl := bulk_len s
 refine ⟨fun xs i => ∃ u : Nat, i = u ∧ u ≤ s.length ∧ xs = s.take u, fun _ i => (s.length - i).toNat, ⟨0, rfl, Nat.zero_le _, rfl⟩, ?_⟩
 rintro _ _ ⟨u, rfl, hu, rfl⟩
 by_cases h : u < s.length
 ·rw [if_pos (by simpa using h)]
  have hm := bulk_mem (nth_mem s h)
  refine ⟨OM, F36.law _ _ OM ⟨by simp only [List.length_take, List.length_cons, List.length_nil]; omega, by unfold I64; omega, ⟨u + 1, OM, OM, ?_⟩, by dsimp only; omega⟩⟩
  rw [take_nth s h]
 ·rw [if_neg (by simpa using h)]
  have : u = s.length := by omega
  subst this
  rw [List.take_length]; exact hq
theorem F59.law (s : List Feat) (f : Feat) (Q : List Feat → Bool → Prop) (hb : bulk s ≤ 1048576) (hbf : bulk f ≤ 1048576) (hq : Q (putOf s f).1 (putOf s f).2) : F59.E s f Q := by
 unfold F59.E
 unfold putOf at hq
 refine F74.law _ _ hb ?_
 cases ks : sheetOk s with
 | false => rw [if_pos RD]; rw [ks, if_neg (by simp)] at hq; exact hq
 | true =>
 rw [if_neg RD]
 refine F90.law _ _ hbf ?_
 cases kf : featOk f with
 | false => rw [if_pos RD]; rw [kf, if_neg (by simp)] at hq; exact hq
 | true =>
 rw [if_neg RD]
 rw [ks, kf] at hq
 have ss := (sheet_ss ks).1
 have fs := sheet_fs ks
 have ll := (sheet_ss ks).2.1
 have pl := putL_len ss f
 refine F33.law _ _ hb (F97.law _ _ _ OM ?_)
 have hle := findN_le s.length fun j => (nth s (j : Int)).Id == f.Id
 by_cases h : findN s.length (fun j => (nth s (j : Int)).Id == f.Id) ≥ 0
 ·rw [if_pos (by simpa using h)]
  refine F36.law _ _ hbf ⟨OM, ?_⟩
  obtain ⟨i, hi⟩ : ∃ i : Nat, findN s.length (fun j => (nth s (j : Int)).Id == f.Id) = (i : Int) := ⟨_, (Int.toNat_of_nonneg OM).symm⟩
  obtain ⟨h1, h2⟩ := findN_true hi
  rw [hi, Int.toNat_natCast]
  have e : (nth s (i : Int)).Id = f.Id := by simpa using h2
  have hin : f.Id ∈ ids s := List.mem_map.2 ⟨_, nth_mem s h1, e⟩
  rw [nth_nat _ h1] at e
  have hks : ids (s.set i f) = ids s := by
   unfold ids
   apply List.ext_getElem?
   intro j
   rw [List.getElem?_map, List.getElem?_map, List.getElem?_set]
   by_cases hj : i = j
   ·subst hj
    rw [if_pos rfl, if_pos h1, List.getElem?_eq_getElem h1]
    simp [e]
   ·rw [if_neg hj]
  have hmem : f ∈ s.set i f := List.mem_of_getElem? (List.getElem?_set_self h1)
  have hs' : FS (s.set i f) := FS.of_ids (by rw [hks]; exact ss)
  have eq : s.set i f = putL s f := FS.ext hs' (putL_fs fs f) fun x => by
   rw [putL_mem]
   constructor
   ·intro hx
    by_cases k : x.Id = f.Id
    ·exact .inr (hs'.inj hx hmem k)
    ·rcases List.mem_or_eq_of_mem_set hx with g | g
     ·exact .inl ⟨g, k⟩
     ·exact .inr g
   ·rintro (⟨g, k⟩ | rfl)
    ·obtain ⟨j, hj, rfl⟩ := List.getElem_of_mem g
     have : i ≠ j := fun e2 => by subst e2; exact k e
     refine List.mem_of_getElem? (i := j) ?_
     rw [List.getElem?_set, if_neg this, List.getElem?_eq_getElem hj]
    ·exact hmem
  rw [if_pos hin] at pl
  rw [decide_eq_true (by omega : (putL s f).length ≤ 8)] at hq
  rw [eq]; exact hq
 ·rw [if_neg (by simpa using h)]
  have hno : f.Id ∉ ids s := fun hm => by
   obtain ⟨x, hx, ex⟩ := List.mem_map.1 hm
   obtain ⟨j, hj, rfl⟩ := List.getElem_of_mem hx
   have := findN_neg (n := s.length) (c := fun j => (nth s (j : Int)).Id == f.Id) OM j hj
   rw [nth_nat _ hj] at this
   simp at this
   exact this ex
  rw [if_neg hno] at pl
  by_cases h8 : (s.length : Int) = 8
  ·rw [if_pos (by simpa using h8)]
   rw [decide_eq_false (by omega : ¬ (putL s f).length ≤ 8), if_neg RD] at hq; exact hq
  rw [if_neg (by simpa using h8)]
  rw [decide_eq_true (by omega : (putL s f).length ≤ 8)] at hq
  unfold F4.E
  refine ⟨by simp only [List.length_cons, List.length_nil]; omega, by simp only [List.length_append, List.length_cons, List.length_nil]; omega, fun r hp hs => ?_⟩
  have nd : (ids r).Nodup := by
   have h0 : (ids (s ++ [f])).Nodup := by
    rw [ids_app]
    refine List.nodup_append.2 ⟨nodup_ss ss, by simp [ids], fun a ha b hb' e => ?_⟩
    have hb' : b = f.Id := by simpa [ids] using hb'
    rw [e, hb'] at ha; exact hno ha
   exact (hp.map (fun x : Feat => x.Id)).nodup_iff.2 h0
  have fr : FS r := by
   unfold FS
   unfold ids at nd
   refine (hs.and (List.pairwise_map.1 nd)).imp fun {a b} h => ?_
   rcases less_or h.1 with g | g
   ·exact g
   ·exact absurd g h.2
  have eq : r = putL s f := FS.ext fr (putL_fs fs f) fun x => by
   rw [putL_mem, hp.mem_iff, List.mem_append, List.mem_singleton]
   constructor
   ·rintro (g | g)
    ·exact .inl ⟨g, fun e => hno (List.mem_map.2 ⟨x, g, e⟩)⟩
    ·exact .inr g
   ·rintro (g | g)
    ·exact .inl g.1
    ·exact .inr g
  rw [eq]
  exact F33.law _ _ (Nat.le_trans (MB.of (putL_ok ks kf OM)).small RD) hq
theorem F60.law (s : List Feat) (id : Str) (Q : List Feat → Bool → Prop) (hb : bulk s ≤ 1048576) (hq : Q (cutOf s id).1 (cutOf s id).2) : F60.E s id Q := by
 unfold F60.E
 have hl := bulk_len s
 refine F97.law _ _ _ OM (F74.law _ _ hb ?_)
 unfold cutOf at hq
 cases ks : sheetOk s with
 | false => rw [if_pos RD]; rw [ks, if_neg (by simp)] at hq; exact hq
 | true =>
 rw [if_neg RD]
 rw [ks, Bool.true_and] at hq
 have fs := sheet_fs ks
 have ll := (sheet_ss ks).2.1
 have hle := findN_le s.length fun j => (nth s (j : Int)).Id == id
 by_cases h : findN s.length (fun j => (nth s (j : Int)).Id == id) < 0
 ·rw [if_pos (by simpa using h)]
  have hno : id ∉ ids s := fun hm => by
   obtain ⟨x, hx, ex⟩ := List.mem_map.1 hm
   obtain ⟨j, hj, rfl⟩ := List.getElem_of_mem hx
   have := findN_neg h j hj
   rw [nth_nat _ hj] at this
   simp at this
   exact this ex
  rw [decide_eq_false hno, if_neg RD] at hq; exact hq
 ·rw [if_neg (by simpa using h)]
  obtain ⟨i, hi⟩ : ∃ i : Nat, findN s.length (fun j => (nth s (j : Int)).Id == id) = (i : Int) := ⟨_, (Int.toNat_of_nonneg OM).symm⟩
  obtain ⟨h1, h2⟩ := findN_true hi
  have e : (nth s (i : Int)).Id = id := by simpa using h2
  have hin : id ∈ ids s := List.mem_map.2 ⟨_, nth_mem s h1, e⟩
  rw [nth_nat _ h1] at e
  rw [decide_eq_true hin, if_pos rfl] at hq
  rw [hi]
  have t1 : (s.drop (0 : Int).toNat).take ((i : Int).toNat - (0 : Int).toNat) = s.take i := by simp
  have t2 : (s.drop ((i : Int) + 1).toNat).take ((s.length : Int).toNat - ((i : Int) + 1).toNat) = s.drop (i + 1) := by
   rw [show ((i : Int) + 1).toNat = i + 1 by omega, Int.toNat_natCast]; exact List.take_of_length_le (by rw [List.length_drop]; omega)
  rw [t1, t2]
  have mb := MB.of ks
  have b1 : bulk (s.take i) ≤ 1048576 := Nat.le_trans (MB.small (n := 8) (m := 4) ⟨by rw [List.length_take]; omega, fun f hf => mb.fb f (List.mem_of_mem_take hf)⟩) RD
  obtain ⟨d1, d2, d3⟩ := del_mem (nodup_ss (sheet_ss ks).1) h1
  have eq : s.take i ++ s.drop (i + 1) = cutL s id := by
   refine FS.ext ?_ (cutL_fs fs id) fun f => ?_
   ·refine List.Pairwise.sublist ?_ fs
    have : s = s.take i ++ s.drop i := (List.take_append_drop _ _).symm
    conv => rhs; rw [this]
    exact List.Sublist.append (List.Sublist.refl _) (List.drop_sublist_drop_left s (Nat.le_succ i))
   ·rw [d2, cutL_mem, e]
  refine ⟨OM, by unfold I64; omega, OM, F33.law _ _ b1 ⟨by simp only [List.length_take, List.length_drop]; omega, ?_⟩⟩
  rw [eq]
  exact F33.law _ _ (Nat.le_trans (MB.of (cutL_ok ks id)).small RD) hq
theorem F58.law (s : List Feat) (id : Str) (Q : Feat → Bool → Prop) (hb : bulk s ≤ 1048576) (hq : Q (getOf s id).1 (getOf s id).2) : F58.E s id Q := by
 unfold F58.E
 have hl := bulk_len s
 refine F97.law _ _ _ OM (F74.law _ _ hb ?_)
 unfold getOf at hq
 cases h : sheetOk s with
 | false => rw [if_pos RD]; rw [h, if_neg RD] at hq; exact hq
 | true =>
  rw [if_neg RD]; rw [h, if_pos rfl] at hq
  unfold sideOf at hq
  have hle := findN_le s.length fun j => (nth s (j : Int)).Id == id
  split
  ·rename_i g; rw [if_pos (by simpa using g)] at hq; exact hq
  ·rename_i g
   have g : ¬ findN s.length (fun j => (nth s (j : Int)).Id == id) < 0 := by simpa using g
   rw [if_neg g] at hq
   have hm := nth_memi s (by omega : 0 ≤ findN s.length fun j => (nth s (j : Int)).Id == id) hle.2
   exact ⟨OM, F36.law _ _ (Nat.le_trans (feat_small ((sheet_ss h).2.2 _ hm)).1 RD) hq⟩
theorem F2.law (a b : List Feat) (el : Feat → Feat → Bool) (ok : Feat → Feat → Prop) (Q : Bool → Prop) (hb : a.length ≤ 1048576) (hok : ∀ x y, x ∈ a → ok x y) (hel : ∀ x y, x ∈ a → el x y = decide (x = y)) (hq : Q (decide (a = b))) : F2.E a b el ok Q := by
 unfold F2.E
 exact eqF_shape a b el ok hok hel hb Q hq
theorem F44.law (a b : List Feat) (Q : Bool → Prop) (hb : bulk a ≤ 1048576) (hq : Q (decide (a = b))) : F44.E a b Q := by
 unfold F44.E
 have hl := bulk_len a
 refine ⟨fun x y => decide (x = y), fun x _ => x ∈ a, fun x y hx => F55.law x y _ ?_ rfl, F2.law a b _ _ _ OM (fun x y hx => hx) (fun _ _ _ => rfl) hq⟩
 have m := bulk_mem hx
 have b1 : bulk x = bulk x.Id + bulk x.Shape + bulk x.Tags := rfl
 have b2 : bulk x.Shape = bulk x.Shape.Kind + bulk x.Shape.Pts := rfl
 have l1 := bulk_len x.Tags; have l2 := bulk_len x.Shape.Pts
 omega
def zzF : Feat := ⟨[122, 122], ⟨1, [⟨1, 1⟩]⟩, []⟩
theorem zzF_ok : featOk zzF = true := feat_of RD (dot_ok RD RD RD RD) List.Pairwise.nil RD fun x hx => (by cases hx)
theorem laws_FnSheetSide.gen (code : List UInt8) (Q : Bool → Prop) (hq : Q true) : laws_FnSheetSide.E code Q := by
 unfold laws_FnSheetSide.E
 by_cases c1 : (code.length : Int) > 1048576
 ·rw [if_pos (by simpa using c1)]; exact hq
 rw [if_neg (by simpa using c1)]
 refine F11.law _ _ fun o a b mo ma mb => ?_
 have bo := mo.small; have ba := ma.small; have bb := mb.small
 obtain ⟨s1, s2⟩ := sheetJoin_small o a b
 have cl := bulk_len (sheetJoin o a b).2.1
 refine F41.law _ _ _ _ bo ba bb (F42.law _ _ _ _ bo ba bb ?_)
 refine ⟨fun v => v = (!(sheetJoin o a b).2.2 || decide ((a.length : Int) ≥ 8)), ?_, ?_⟩
 ·rw [if_neg (by simp)]
  refine F43.law _ _ _ OM ?_
  rw [decide_eq_true rfl, if_neg RD]
  cases (sheetJoin o a b).2.2 with
  | false => rw [if_pos RD]; rfl
  | true => rw [if_neg RD]; rfl
 rintro _ rfl
 by_cases hv : (!(sheetJoin o a b).2.2 || decide ((a.length : Int) ≥ 8)) = true
 ·rw [if_pos hv, if_pos (by simp)]
  exact F43.law _ _ _ OM (by rw [decide_eq_true rfl]; exact hq)
 rw [if_neg hv]
 simp only [Bool.or_eq_true, not_or, Bool.not_eq_true', decide_eq_true_eq, Bool.not_eq_false] at hv
 obtain ⟨k1, la⟩ := hv
 obtain ⟨ko, ka, kb, kx, ex⟩ := sheetJoin_of k1
 have ns : ∀ {s : List Feat}, MD s → zzF.Id ∉ ids s := fun {s} m h => by
  obtain ⟨f, hf, e⟩ := List.mem_map.1 h
  exact m.nz f hf e
 have pl := putL_len (sheet_ss ka).1 zzF
 rw [if_neg (ns ma)] at pl
 have km := putL_ok ka zzF_ok OM
 have hm : putOf a zzF = (putL a zzF, true) := putOf_yes ka zzF_ok OM
 have bm : bulk (putL a zzF) ≤ 1048576 := Nat.le_trans (MB.of km).small RD
 have ez : (⟨([122, 122] : Str), (⟨1, ([(⟨1, 1⟩ : Pt)] : List Pt)⟩ : Shape), []⟩ : Feat) = zzF := rfl
 rw [ez]
 refine F59.law _ _ _ ba RD ?_
 rw [hm]
 refine F41.law _ _ _ _ bo bm bb ?_
 rw [if_neg (by simp)]
 obtain ⟨j1, j2, j3⟩ := join_put ko ka kb km (ns mo) (ns ma) (ns mb)
 have hj := join_fs ko ka kb
 have pj := putL_len hj.toIds zzF
 rw [if_neg j3] at pj
 have sj : bulk (joinFs o a b (ids3 o a b)) ≤ 1048576 := Nat.le_trans (MB.of kx).small RD
 rw [ex] at cl s2 ⊢
 cases k2 : (sheetJoin o (putL a zzF) b).2.2 with
 | false =>
  rw [if_pos RD]
  have h8 : ¬ (putL (joinFs o a b (ids3 o a b)) zzF).length ≤ 8 := fun h => by
   have hk := putL_ok kx zzF_ok h
   rw [← j1] at hk
   unfold sheetJoin at k2
   rw [ko, km, kb, if_pos RD, hk, if_pos rfl] at k2
   cases k2
  rw [decide_eq_true (by dsimp only; omega)]; exact hq
 | true =>
 rw [if_neg RD]
 obtain ⟨_, _, _, ky, ey⟩ := sheetJoin_of k2
 rw [j1, j2] at ey
 rw [j1] at ky
 rw [ey]
 have by_ : bulk (putL (joinFs o a b (ids3 o a b)) zzF) ≤ 1048576 := Nat.le_trans (MB.of ky).small RD
 refine F58.law _ _ _ by_ (F60.law _ _ _ by_ ?_)
 have eg : getOf (putL (joinFs o a b (ids3 o a b)) zzF) [122, 122] = (zzF, true) := by
  rw [getOf_ok ky, sideOf_put hj]; exact if_pos rfl
 have ec : cutOf (putL (joinFs o a b (ids3 o a b)) zzF) [122, 122] = (joinFs o a b (ids3 o a b), true) := by
  have h1 : zzF.Id ∈ ids (putL (joinFs o a b (ids3 o a b)) zzF) := putL_ids.2 (.inr rfl)
  exact (cutOf_yes ky h1).trans (by rw [cut_put hj j3])
 rw [eg, ec]
 refine ⟨fun v => v = true, ?_, fun v hv => by rw [hv]; exact hq⟩
 rw [if_pos rfl]
 refine F55.law _ _ _ RD ?_
 rw [decide_eq_true rfl, if_pos rfl, if_pos rfl]
 refine F44.law _ _ _ sj ?_
 rw [decide_eq_true rfl, if_pos rfl]
 exact F43.law _ _ _ (Nat.le_trans cl OM) (decide_eq_true rfl)
theorem laws_FnSheetSide.law (code : List UInt8) (_ : ∀ x ∈ code, True) : laws_FnSheetSide.E code (fun r => r = true) := laws_FnSheetSide.gen code _ rfl
end Go.Proofs.YtpdmnmpcjljeaaaGreat
namespace Go.Proofs.YtpdmnmpcjljeaaaGreat.rFnSheetSide
open Go.ChangeShapes Go.WideShapes Go.ChangeAt Go.RowKit
open Go.ChangeMaps (open_string shut_string)
set_option linter.unusedVariables false
theorem own : ownKnob Tryz.prog.godebug = none := by kernel_rfl
theorem laidOut : laidOutB Tryz.prog = true := by kernel_rfl
set_option maxHeartbeats 4000000 in
set_option maxRecDepth 100000 in
theorem lifted (os : Os) (started : os.Started) (H : Type) (enc : TypeId × Value → H) :
    ReturnsInHanded {} Tryz.checked os 9 .any (Rows.fnSheetSideSpec.pre6 enc Tryz.prog Tryz.f9 Rows.fnSheetSideRow.domain false) (Rows.fnSheetSideSpec.post enc Tryz.prog Tryz.f9 false true false false) := by
  refine returnsInHanded_of_change_sized (C := Tryz.checked) own started (by kernel_rfl) Tryz.func9
    (ChangeSpec.witness6 (enc := enc) (C := Tryz.checked) false ⟨#[], #[.slice none 0 0], []⟩ 8 (by kernel_rfl) (by kernel_rfl) (by kernel_rfl) (by kernel_rfl)) ?_
  intro W base args ds gs before hval0 hW hcnd hsz0 _
  have hval : ∀ (j : Nat) t v, Tryz.f9.params[j]? = some t → args[j]? = some v → Value.okWide Tryz.prog W .any base t v := hval0
  have hW' := hW
  obtain ⟨p, q, hA0, hV, rfl, hfz, hnd⟩ := hW
  have hA : DataW.TrodAll enc Tryz.prog W 0 (fun _ => true) true Tryz.f9.params.toList args.toList ds p := hA0
  rw [Tryz.params9] at hA hval
  obtain ⟨v0, vs0, d0, ds0, p0, q0, hargs, rfl, rfl, h0, r0⟩ := trodAll_cons hA
  obtain ⟨rfl, rfl, rfl⟩ := trodAll_nil r0
  obtain rfl : args = #[v0] := by cases args; simp_all
  obtain ⟨rfl, rfl⟩ := trodVars_none hV
  have k0 := h0
  have lt0 : ∀ x ∈ p0, x.block < W.heap.size := by obtain ⟨m, hm⟩ := k0; exact DataW.trod_lt m _ _ _ hm
  obtain ⟨x0, hv0, hx0⟩ : ∃ a : List UInt8, (∀ y0 ∈ a, True) ∧ (Kd.sl Kd.byte).R W (Fr []) a v0.cells.toList := by obtain ⟨fuel, hf⟩ := h0; exact (Tr.sl Tryz.underlying22 (by kernel_rfl) (Tr.byte Tryz.underlying5)) H enc W fuel _ _ hf
  obtain ⟨a0, n0, c0, rfl⟩ := okWide_slice Tryz.underlying22 (hval 0 22 v0 rfl rfl)
  have s0 : Sl Kd.byte W (Fr []) (.slice a0 n0 c0) x0 := by obtain ⟨_, e, h⟩ := hx0; simp [Value.cells] at e; subst e; exact h
  clear hA0 hval0 hsz0
  refine Calls.mono (laws_FnSheetSide.calls W (Ok.nil W) x0 a0 n0 c0 s0 (fun r => r = true) (laws_FnSheetSide.law x0 hv0)) fun e W' ⟨v, he, r, hr, hq, hg⟩ => ?_
  subst he; subst hr; subst hq
  have bel := Gr.below hg
  exact ⟨_, rfl, _, _, _, [], _, [], hW', trodAll_mk1 (shut_bool Tryz.underlying4 _), (trodAll_cons_mk (Below.trod laidOut (by kernel_rfl) (of_decide_eq_true (by kernel_rfl)) k0 bel lt0) trodAll_mk0), rfl, bel.frame _, fun h => by cases h⟩
theorem over : Rows.fnSheetSideRow.holds Tryz.pinned (OpenSpec.ofChange Rows.fnSheetSideSpec) :=
  OpenClaim.holds_of_wide 9 Tryz.f9 rfl rfl rfl rfl rfl rfl rfl ⟨rfl, rfl, rfl, rfl, rfl⟩ rfl rfl rfl rfl rfl (by kernel_rfl) Tryz.func9 (by kernel_rfl)
    (of_decide_eq_true (by kernel_rfl)) (by unfold Func.isWrapper; first | (rw [if_pos (by decide +kernel)]; kernel_rfl) | (rw [if_neg (by decide +kernel)]; exact ⟨rfl, rfl⟩))
    (fun os started H enc _ => lifted os started H enc)
theorem proved : Rows.FnSheetSideSaid := over
#print axioms proved
end Go.Proofs.YtpdmnmpcjljeaaaGreat.rFnSheetSide
namespace Go.Proofs.YtpdmnmpcjljeaaaGreat
theorem fnSheetSide_holds : Rows.FnSheetSideSaid := rFnSheetSide.proved
end Go.Proofs.YtpdmnmpcjljeaaaGreat