/- It is proved here that the law FnFeatTags of the given program holds whatever it is handed: the walks through the code, the plain laws and the row, in this order.
   Conditions: none. -/
import Derived.Below
import Derived.ChangeArms
import Derived.ChangeOld
import Derived.ChangeSlices
import Derived.DataReads
import Derived.Deep.Quiet
import Derived.KernelRfl
import Derived.Laws.Build
import Derived.Laws.IdiomStrings
import Derived.Laws.OwnMore
import Derived.Laws.Slices
import Derived.Laws.StructEq
import Derived.OpenShut
import Derived.ProofKit
import Derived.Shelf.SlSortCmp.NoneTotal
import Derived.Shelf.SlSortCmp.WholeK
import Derived.Shelf.Slices.Cells
import Derived.Shelf.Slices.CompactS
import Derived.Shelf.Slices.In.SortNone
import Derived.Shelf.Small.Bits
import Derived.Shelf.Sort.Plain
import Derived.Shelf.Strconv.Itoa0
import Derived.ShutString
import Derived.SizedLaws
import Derived.StillTail
import Derived.Test.YtpdmnmpcjljeaaaGreatProg
import Derived.Test.YtpdmnmpcjljeaaaGreatRows
import Derived.WalkKit
import Derived.Test.YtpdmnmpcjljeaaaGreatCFeatTagsa
import Derived.Test.YtpdmnmpcjljeaaaGreatCFeatTagsb
import Derived.Test.YtpdmnmpcjljeaaaGreatCFeatTagsc
namespace Go.Proofs.YtpdmnmpcjljeaaaGreat
set_option linter.unusedVariables false
set_option linter.unusedSimpArgs false
set_option linter.unusedSectionVars false
set_option maxHeartbeats 8000000
set_option maxRecDepth 100000
section
open Go.RowKit
def F71.E (o : Shape) (a : Shape) (b : Shape) (Q : Shape → Bool → Prop) : Prop :=
 F39.E a o (fun r => (if r then Q b true else F39.E b o (fun r2 => (if r2 then Q a true else F39.E a b (fun r3 => (if r3 then Q a true else (if a.Kind != b.Kind then Q a false else (if a.Kind != o.Kind then Q a false else F70.E o.Pts a.Pts b.Pts (fun r4 r5 => (if !r5 then Q a false else F63.E (⟨a.Kind, r4⟩ : Shape) (fun r6 => (if !r6 then Q a false else Q (⟨a.Kind, r4⟩ : Shape) true))))))))))))
theorem F71.calls {O : Ob} (w0 : World) (hO : Ok w0 O) (o : Shape) (A1 : Option Addr) (n2 c3 : Nat) (hp4 : Sl kPt w0 (Fr O) (G A1 n2 c3) o.Pts) (a : Shape) (A6 : Option Addr) (n7 c8 : Nat) (hp9 : Sl kPt w0 (Fr O) (G A6 n7 c8) a.Pts) (b : Shape) (ab : Option Addr) (ac ad : Nat) (a5 : Sl kPt w0 (Fr O) (G ab ac ad) b.Pts) (Q : Shape → Bool → Prop) (h : F71.E o a b Q) :
  Ret Tryz.prog 108 [.agg #[vi o.Kind, G A1 n2 c3], .agg #[vi a.Kind, G A6 n7 c8], .agg #[vi b.Kind, G ab ac ad]] w0 (fun v w' => ∃ (r0 : Shape) (r1 : Bool) (Aw0 : Option Addr) (nw0 cw0 : Nat), v = .tuple #[.agg #[vi r0.Kind, G Aw0 nw0 cw0], vb r1] ∧ Q r0 r1 ∧ Gr w0 w' none ∧ Sl kPt w' (Fr O) (G Aw0 nw0 cw0) r0.Pts) := by
 unfold F71.E at h;have H := h;clear h;have hc0 := Ct.init hO;refine Yd Tryz.func108 Z 63 Z [.cell 6 25, .tmp 7] Z Z ?_;refine Xc (Xe (Yk [vi o.Kind, G A1 n2 c3] Z fun ev aq co hu20 cp cq => ?_));have cr := Fb.mk hc0.ok co cq;have a9 := hc0.k0 cp;refine Yk [vi a.Kind, G A6 n7 c8] Z fun ew aa cs hu29 bq ct => ?_;have cu := Fb.mk a9.ok cs ct;have ba := a9.k0 bq;refine Yk [vi b.Kind, G ab ac ad] Z fun ex am cv hu38 br cw => ?_;have bs := Fb.mk ba.ok cv cw;have bt := ba.k0 br;refine Yb [.int .i64 0, G none 0 0] ze25 fun cx an bu hu47 bv ar => ?_;have az := bt.own bv (some an) (Ya bu hu47);refine Xf (vb false) Z (Xb (Xc (X8 (Xc (Xe ?_)))));have bw := ba.stn br;have a6 := bt.stown _ bv (Xg bu);have bb := ((cu.st bw).st a6);refine Xa (Xs ag25 sz25 cL ⟨aa, 0, none⟩ [vi a.Kind, G A6 n7 c8] Z Z (bb.cells (off := 0) Z)) ?_;have cy := a9.stn bq;have bx := (((cr.st cy).st bw).st a6);refine Xa (Xs ag25 sz25 cL ⟨aq, 0, none⟩ [vi o.Kind, G A1 n2 c3] Z Z (bx.cells (off := 0) Z)) ?_;refine Xt go144 [.agg #[vi a.Kind, G A6 n7 c8], .agg #[vi o.Kind, G A1 n2 c3]] Z ((F39.calls cx az.ok a A6 n7 c8 (hp9.st az.st) o A1 n2 c3 (hp4.st az.st) _ H).mono ?_);rintro _ cz ⟨r, rfl, H, ai⟩;have ax := az.k0 ai;refine Xf (vb r) Z (Xb ?_);refine Xx r Z (fun bc => ?_) (fun bc => ?_)
 ·have H := Xi H bc;refine Xc (Xe ?_);have c0 := az.stn ai;have c1 := ((bs.st a6).st c0);refine Xa (Xs ag25 sz25 cL ⟨am, 0, none⟩ [vi b.Kind, G ab ac ad] Z Z (c1.cells (off := 0) Z)) ?_;have c2 := (ar.k0 ai);refine Xv an 0 [vi 0, G none 0 0] [vi b.Kind, G ab ac ad] [vi b.Kind, G ab ac ad] Z c2 Z sz25 Z Z Z fun ey c4 c5 => ?_;have bz := ax.wr 0 Z c4;refine Xf (vb true) Z (Xb (Xk ?_));have c6 := bz.bgv c5 0 Z;have b0 := bz.drop 0 Z;exact ⟨[.agg #[vi b.Kind, G ab ac ad], vb true], ⟨_, _, Z, c6.1.res Z ag25 sz25, ⟨_, Z, Z⟩⟩, b, true, ab, ac, ad, Z, H, b0.gr.g0, (a5.st b0.st)⟩
 have H := Xj H bc;refine Xc (Xe ?_);have a7 := az.stn ai;have b1 := ((bs.st a6).st a7);refine Xa (Xs ag25 sz25 cL ⟨am, 0, none⟩ [vi b.Kind, G ab ac ad] Z Z (b1.cells (off := 0) Z)) ?_;have b2 := (bx.st a7);refine Xa (Xs ag25 sz25 cL ⟨aq, 0, none⟩ [vi o.Kind, G A1 n2 c3] Z Z (b2.cells (off := 0) Z)) ?_;refine Xt go144 [.agg #[vi b.Kind, G ab ac ad], .agg #[vi o.Kind, G A1 n2 c3]] Z ((F39.calls cz ax.ok b ab ac ad (a5.st ax.st) o A1 n2 c3 (hp4.st ax.st) _ H).mono ?_);rintro _ c7 ⟨r2, rfl, H, al⟩;have ay := ax.k0 al;refine Xd (vb r2) Z ?_;rcases X7 r2 with aj | aj
 ·have H := Xi H aj;refine Xn aj Z (Xn aj Z (Xn aj Z (Xa (Xo true (vb true) aj Z) (Xf (vb true) Z (Xb (Yn (b := true) Z Z ?_))))));refine Xc (Xe ?_);have c9 := ax.stn al;have da := ((bb.st a7).st c9);refine Xa (Xs ag25 sz25 cL ⟨aa, 0, none⟩ [vi a.Kind, G A6 n7 c8] Z Z (da.cells (off := 0) Z)) ?_;have db := ((ar.k0 ai).k0 al);refine Xv an 0 [vi 0, G none 0 0] [vi a.Kind, G A6 n7 c8] [vi a.Kind, G A6 n7 c8] Z db Z sz25 Z Z Z fun ez dc dd => ?_;have b3 := ay.wr 0 Z dc;refine Xf (vb true) Z (Xb (Xk ?_));have de := b3.bgv dd 0 Z;have b4 := b3.drop 0 Z;exact ⟨[.agg #[vi a.Kind, G A6 n7 c8], vb true], ⟨_, _, Z, de.1.res Z ag25 sz25, ⟨_, Z, Z⟩⟩, a, true, A6, n7, c8, Z, H, b4.gr.g0, (hp9.st b4.st)⟩
 have H := Xj H aj;refine Xm aj Z ?_;have bd := ax.stn al;have be := ((bb.st a7).st bd);refine Xa (Xs ag25 sz25 cL ⟨aa, 0, none⟩ [vi a.Kind, G A6 n7 c8] Z Z (be.cells (off := 0) Z)) (Xm aj Z ?_);have b5 := (b1.st bd);refine Xa (Xs ag25 sz25 cL ⟨am, 0, none⟩ [vi b.Kind, G ab ac ad] Z Z (b5.cells (off := 0) Z)) (Xm aj Z ?_);refine Xt go144 [.agg #[vi a.Kind, G A6 n7 c8], .agg #[vi b.Kind, G ab ac ad]] Z ((F39.calls c7 ay.ok a A6 n7 c8 (hp9.st ay.st) b ab ac ad (a5.st ay.st) _ H).mono ?_);rintro _ df ⟨r3, rfl, H, ao⟩;have ap := ay.k0 ao;refine Xa (Xo false (vb r3) aj Z) (Xf (vb r3) Z (Xb ?_));refine Xx r3 Z (fun bf => ?_) (fun bf => ?_)
 ·have H := Xi H bf;refine Xc (Xe ?_);have dg := ay.stn ao;have dh := (be.st dg);refine Xa (Xs ag25 sz25 cL ⟨aa, 0, none⟩ [vi a.Kind, G A6 n7 c8] Z Z (dh.cells (off := 0) Z)) ?_;have di := (((ar.k0 ai).k0 al).k0 ao);refine Xv an 0 [vi 0, G none 0 0] [vi a.Kind, G A6 n7 c8] [vi a.Kind, G A6 n7 c8] Z di Z sz25 Z Z Z fun e0 dj dk => ?_;have b6 := ap.wr 0 Z dj;refine Xf (vb true) Z (Xb (Xk ?_));have dl := b6.bgv dk 0 Z;have b7 := b6.drop 0 Z;exact ⟨[.agg #[vi a.Kind, G A6 n7 c8], vb true], ⟨_, _, Z, dl.1.res Z ag25 sz25, ⟨_, Z, Z⟩⟩, a, true, A6, n7, c8, Z, H, b7.gr.g0, (hp9.st b7.st)⟩
 have H := Xj H bf;refine Xc (Xe (Xa (Xp fa25_0 ⟨aa, 0, none⟩ ⟨aa, 0, none⟩ Z Z) ?_));have bg := ay.stn ao;have a0 := (be.st bg);refine Xa (Xr ag3 cL ⟨aa, 0, none⟩ (vi a.Kind) Z (a0.cell Z)) (Xa (Xp fa25_0 ⟨am, 0, none⟩ ⟨am, 0, none⟩ Z Z) ?_);have b8 := (b5.st bg);refine Xa (Xr ag3 cL ⟨am, 0, none⟩ (vi b.Kind) Z (b8.cell Z)) (Xa (Xz a.Kind b.Kind (a.Kind != b.Kind) Z Z Z) (Xd (vb (a.Kind != b.Kind)) Z ?_));rcases X7 (a.Kind != b.Kind) with ah | ah
 ·have H := Xi H ah;refine Xn ah Z (Xn ah Z (Xn ah Z (Xn ah Z (Xn ah Z (Xa (Xo true (vb true) ah Z) (Xf (vb true) Z (Xb (Yn (b := true) Z Z ?_))))))));refine Xc (Xe (Xa (Xs ag25 sz25 cL ⟨aa, 0, none⟩ [vi a.Kind, G A6 n7 c8] Z Z (a0.cells (off := 0) Z)) ?_));have dm := (((ar.k0 ai).k0 al).k0 ao);refine Xv an 0 [vi 0, G none 0 0] [vi a.Kind, G A6 n7 c8] [vi a.Kind, G A6 n7 c8] Z dm Z sz25 Z Z Z fun e1 dn dp => ?_;have b9 := ap.wr 0 Z dn;refine Xf (vb false) Z (Xb (Xk ?_));have dq := b9.bgv dp 0 Z;have ca := b9.drop 0 Z;exact ⟨[.agg #[vi a.Kind, G A6 n7 c8], vb false], ⟨_, _, Z, dq.1.res Z ag25 sz25, ⟨_, Z, Z⟩⟩, a, false, A6, n7, c8, Z, H, ca.gr.g0, (hp9.st ca.st)⟩
 have H := Xj H ah;refine Xm ah Z (Xa (Xp fa25_0 ⟨aa, 0, none⟩ ⟨aa, 0, none⟩ Z Z) (Xm ah Z (Xa (Xr ag3 cL ⟨aa, 0, none⟩ (vi a.Kind) Z (a0.cell Z)) (Xm ah Z (Xa (Xp fa25_0 ⟨aq, 0, none⟩ ⟨aq, 0, none⟩ Z Z) (Xm ah Z ?_))))));have cb := ((b2.st bd).st bg);refine Xa (Xr ag3 cL ⟨aq, 0, none⟩ (vi o.Kind) Z (cb.cell Z)) (Xm ah Z (Xa (Xz a.Kind o.Kind (a.Kind != o.Kind) Z Z Z) (Xa (Xo false (vb (a.Kind != o.Kind)) ah Z) (Xf (vb (a.Kind != o.Kind)) Z (Xb ?_)))));refine Xx (a.Kind != o.Kind) Z (fun bh => ?_) (fun bh => ?_)
 ·have H := Xi H bh;refine Xc (Xe (Xa (Xs ag25 sz25 cL ⟨aa, 0, none⟩ [vi a.Kind, G A6 n7 c8] Z Z (a0.cells (off := 0) Z)) ?_));have dr := (((ar.k0 ai).k0 al).k0 ao);refine Xv an 0 [vi 0, G none 0 0] [vi a.Kind, G A6 n7 c8] [vi a.Kind, G A6 n7 c8] Z dr Z sz25 Z Z Z fun e2 ds dt => ?_;have cc := ap.wr 0 Z ds;refine Xf (vb false) Z (Xb (Xk ?_));have du := cc.bgv dt 0 Z;have cd := cc.drop 0 Z;exact ⟨[.agg #[vi a.Kind, G A6 n7 c8], vb false], ⟨_, _, Z, du.1.res Z ag25 sz25, ⟨_, Z, Z⟩⟩, a, false, A6, n7, c8, Z, H, cd.gr.g0, (hp9.st cd.st)⟩
 have H := Xj H bh;refine X0 (Xc (Xe (Xa (Xp fa25_1 ⟨aq, 0, none⟩ ⟨aq, 1, none⟩ Z Z) (Xa (Xr ag23 cL ⟨aq, 1, none⟩ (G A1 n2 c3) Z (cb.cell Z)) (Xa (Xp fa25_1 ⟨aa, 0, none⟩ ⟨aa, 1, none⟩ Z Z) (Xa (Xr ag23 cL ⟨aa, 1, none⟩ (G A6 n7 c8) Z (a0.cell Z)) (Xa (Xp fa25_1 ⟨am, 0, none⟩ ⟨am, 1, none⟩ Z Z) (Xa (Xr ag23 cL ⟨am, 1, none⟩ (G ab ac ad) Z (b8.cell Z)) ?_))))))));refine Xt go145 [G A1 n2 c3, G A6 n7 c8, G ab ac ad] Z ((F70.calls df ap.ok o.Pts A1 n2 c3 (hp4.st ap.st) a.Pts A6 n7 c8 (hp9.st ap.st) b.Pts ab ac ad (a5.st ap.st) _ H).mono ?_);rintro _ e3 ⟨r4, r5, ae, af, ag, rfl, H, a2, dv, ce, cf⟩;have bi := ap.owns a2 dv ce;refine Xd (.tuple #[G ae af ag, vb r5]) Z (Xa (Yj [G ae af ag, vb r5] 0 (G ae af ag) Z Z) (Xa (Yj [G ae af ag, vb r5] 1 (vb r5) Z Z) (Xf (G ae af ag) Z (Xf (vb r5) Z (Xb (Xc (Xe (Xa (Xp fa25_0 ⟨aa, 0, none⟩ ⟨aa, 0, none⟩ Z Z) ?_))))))));have dw := ap.stos a2 ce;have bj := (a0.st dw);refine Xa (Xr ag3 cL ⟨aa, 0, none⟩ (vi a.Kind) Z (bj.cell Z)) (Xd (G ae af ag) Z (Xa (Yl (.agg #[vi a.Kind, G ae af ag]) (fun _ => by kernel_rfl)) (Yb [.int .i64 0, G none 0 0] ze25 fun e4 a8 a3 hu147 au dx => ?_)));have av := bi.own au (some a8) (Ya a3 hu147);refine Xv a8 0 [vi 0, G none 0 0] [vi a.Kind, G ae af ag] [vi a.Kind, G ae af ag] Z dx Z sz25 Z Z Z fun dy aw cg => ?_;have a4 := av.wr 0 Z aw;refine Xb (Xc (Xc (Xe (Xd (vb r5) Z (Xa (Yp r5 Z) (Xd (vb (!r5)) Z ?_))))));rcases X7 (!r5) with ak | ak
 ·have H := Xi H ak;refine Xn ak Z (Xn ak Z (Xn ak Z (Xa (Xo true (vb true) ak Z) (Xb (Yn (b := true) Z Z ?_)))));refine Xc (Xe ?_);have dz := bi.stown _ au (Xg a3);have d0 := av.stw 0 Z aw;have d1 := ((bj.st dz).st d0);refine Xa (Xs ag25 sz25 cL ⟨aa, 0, none⟩ [vi a.Kind, G A6 n7 c8] Z Z (d1.cells (off := 0) Z)) ?_;have d2 := (av.bm (((((ar.k0 ai).k0 al).k0 ao).k0 a2).k0 au) 2 0 Z Z Z aw);refine Xv an 0 [vi 0, G none 0 0] [vi a.Kind, G A6 n7 c8] [vi a.Kind, G A6 n7 c8] Z d2 Z sz25 Z Z Z fun e5 d3 d4 => ?_;have ch := a4.wr 2 Z d3;refine Xf (vb false) Z (Xb (Xk ?_));have d5 := ch.bgv d4 2 Z;have d6 := ch.drop 2 Z;have ci := d6.clear;have d7 := (d5.st St.clear);exact ⟨[.agg #[vi a.Kind, G A6 n7 c8], vb false], ⟨_, _, Z, d7.1.res Z ag25 sz25, ⟨_, Z, Z⟩⟩, a, false, A6, n7, c8, Z, H, ci.gr.g0, (hp9.st ci.st)⟩
 have H := Xj H ak;refine Xm ak Z (Xa (Xs ag25 sz25 cL ⟨a8, 0, none⟩ [vi a.Kind, G ae af ag] Z Z (cg.cells (off := 0) Z)) (Xm ak Z ?_));have d8 := (av.sw (cf.so _ au (Xg a3)) 1 0 Z Z Z aw);have d9 := a4.gv d8 1 Z;have ea := a4.drop 1 Z;refine Xt go46 [.agg #[vi a.Kind, G ae af ag]] Z ((F63.calls dy ea.ok (⟨a.Kind, r4⟩ : Shape) ae af ag d9 _ H).mono ?_);rintro _ e6 ⟨r6, rfl, H, a1⟩;have bl := a4.k0 a1;refine Xm ak Z (Xa (Yp r6 Z) (Xa (Xo false (vb (!r6)) ak Z) (Xb ?_)));refine Xx (!r6) Z (fun bn => ?_) (fun bn => ?_)
 ·have H := Xi H bn;refine Xc (Xe ?_);have eb := bi.stown _ au (Xg a3);have ec := av.stw 0 Z aw;have ed := a4.stn a1;have ee := (((bj.st eb).st ec).st ed);refine Xa (Xs ag25 sz25 cL ⟨aa, 0, none⟩ [vi a.Kind, G A6 n7 c8] Z Z (ee.cells (off := 0) Z)) ?_;have ef := ((av.bm (((((ar.k0 ai).k0 al).k0 ao).k0 a2).k0 au) 2 0 Z Z Z aw).k0 a1);refine Xv an 0 [vi 0, G none 0 0] [vi a.Kind, G A6 n7 c8] [vi a.Kind, G A6 n7 c8] Z ef Z sz25 Z Z Z fun e7 eg eh => ?_;have cj := bl.wr 2 Z eg;refine Xf (vb false) Z (Xb (Xk ?_));have ei := cj.bgv eh 2 Z;have ej := cj.drop 2 Z;have ck := ej.clear;have ek := (ei.st St.clear);exact ⟨[.agg #[vi a.Kind, G A6 n7 c8], vb false], ⟨_, _, Z, ek.1.res Z ag25 sz25, ⟨_, Z, Z⟩⟩, a, false, A6, n7, c8, Z, H, ck.gr.g0, (hp9.st ck.st)⟩
 have H := Xj H bn;refine X0 (Xc (Xe ?_));have el := (cg.k0 a1);refine Xa (Xs ag25 sz25 cL ⟨a8, 0, none⟩ [vi a.Kind, G ae af ag] Z Z (el.cells (off := 0) Z)) ?_;have em := ((av.bm (((((ar.k0 ai).k0 al).k0 ao).k0 a2).k0 au) 2 0 Z Z Z aw).k0 a1);refine Xv an 0 [vi 0, G none 0 0] [vi a.Kind, G ae af ag] [vi a.Kind, G ae af ag] Z em Z sz25 Z Z Z fun en cl eo => ?_;have bo := bl.wr 2 Z cl;refine Xf (vb true) Z (Xb (Xk ?_));have ep := bo.bgv eo 2 Z;have bp := bo.drop 2 Z;have eq := (bo.sd (bl.sw ((av.sw (cf.so _ au (Xg a3)) 1 0 Z Z Z aw).sn a1) 1 2 Z Z Z cl) 1 2 Z Z Z);have er := bp.gv eq 1 Z;have cm := bp.drop 1 Z;have es : Ct [] w0 en [] O := cm.drop 0 Z;have et := bp.std 1 Z;have cn := cm.std 0 Z;have eu := ((ep.st et).st cn);exact ⟨[.agg #[vi a.Kind, G ae af ag], vb true], ⟨_, _, Z, eu.1.res Z ag25 sz25, ⟨_, Z, Z⟩⟩, (⟨a.Kind, r4⟩ : Shape), true, ae, af, ag, Z, H, es.gr.g0, (er.st cn)⟩
end
section
open Go.RowKit
def F94.E (o : List Tag) (a : List Tag) (b : List Tag) (Q : List Str → Prop) : Prop :=
 (([] : List Tag).length + o.length ≤ 268435456) ∧ ((([] : List Tag) ++ o).length + a.length ≤ 268435456) ∧ (((([] : List Tag) ++ o) ++ a).length + b.length ≤ 268435456) ∧ (∃ (I88 : (List Tag) → Int → Prop) (mu89 : (List Tag) → Int → Nat), I88 ([] : List Tag) 0 ∧ ∀ (xs2 : List Tag) (i2 : Int), I88 xs2 i2 → (if decide (i2 < ((((([] : List Tag) ++ o) ++ a) ++ b).length : Int)) then ((0 : Int) ≤ i2 ∧ i2 < ((((([] : List Tag) ++ o) ++ a) ++ b).length : Int)) ∧ F114.E xs2 ((nth (((([] : List Tag) ++ o) ++ a) ++ b) i2).Key) ([97] : Str) (fun r => (-9223372036854775808 ≤ i2) ∧ I88 r (i2 + 1) ∧ mu89 r (i2 + 1) < mu89 xs2 i2) else (∃ (I163 : (List Str) → Int → Prop) (mu164 : (List Str) → Int → Nat), I163 ([] : List Str) 0 ∧ ∀ (xs4 : List Str) (i4 : Int), I163 xs4 i4 → (if decide (i4 < (xs2.length : Int)) then ((0 : Int) ≤ i4 ∧ i4 < (xs2.length : Int)) ∧ (xs4.length + ([(nth xs2 i4).Key] : List Str).length ≤ 268435456) ∧ (-9223372036854775808 ≤ i4) ∧ I163 (xs4 ++ ([(nth xs2 i4).Key] : List Str)) (i4 + 1) ∧ mu164 (xs4 ++ ([(nth xs2 i4).Key] : List Str)) (i4 + 1) < mu164 xs4 i4 else Q xs4))))
theorem F94.calls {O : Ob} (w0 : World) (hO : Ok w0 O) (o : List Tag) (A1 : Option Addr) (n2 c3 : Nat) (hp4 : Sl kTag w0 (Fr O) (G A1 n2 c3) o) (a : List Tag) (A6 : Option Addr) (n7 c8 : Nat) (hp9 : Sl kTag w0 (Fr O) (G A6 n7 c8) a) (b : List Tag) (an : Option Addr) (ao ap : Nat) (bs : Sl kTag w0 (Fr O) (G an ao ap) b) (Q : List Str → Prop) (h : F94.E o a b Q) :
  Ret Tryz.prog 109 [G A1 n2 c3, G A6 n7 c8, G an ao ap] w0 (fun v w' => ∃ (r0 : List Str) (Aw0 : Option Addr) (nw0 cw0 : Nat), v = G Aw0 nw0 cw0 ∧ Q r0 ∧ Gr w0 w' none ∧ Ok w' ([bk Aw0] ++ O) ∧ (∀ b, some b ∈ [bk Aw0] → w0.heap.size ≤ b) ∧ Ow Kd.str 9 w' ([bk Aw0] ++ O) (G Aw0 nw0 cw0) r0) := by
 unfold F94.E at h;have H := h;clear h;have hc0 := Ct.init hO;refine Yd Tryz.func109 Z 49 Z [.tmp 6] Z Z ?_;refine Xc (Xe (Xf (G none 0 0) Z (Xb (Xc (Xe (X9 (kd := kTag) Ym hc0 ([] : List Tag) (cells := []) Z (fun _ => by kernel_rfl) fun dx bt bu bv dy hr21 a6 bw => ?_))))));refine Xd (G A1 n2 c3) Z ?_;obtain ⟨bx, H⟩ := H;refine Ye Ym a6 (G bt bu bv) ([] : List Tag) o Z bw (G A1 n2 c3) Z (hp4.st a6.st).sx 0 Z bx fun dz bz b0 b1 d0 d1 a7 b2 => ?_;refine Xd (G A6 n7 c8) Z ?_;obtain ⟨b3, H⟩ := H;refine Ye Ym a7 (G bz b0 b1) (([] : List Tag) ++ o) a Z b2 (G A6 n7 c8) Z (hp9.st a7.st).sx 0 Z b3 fun d2 b4 b5 b6 d3 d4 a8 b7 => ?_;refine Xd (G an ao ap) Z ?_;obtain ⟨b8, H⟩ := H;refine Ye Ym a8 (G b4 b5 b6) ((([] : List Tag) ++ o) ++ a) b Z b7 (G an ao ap) Z (bs.st a8.st).sx 0 Z b8 fun d5 ab ah ai d6 d7 b9 ca => ?_;refine Xf (G ab ah ai) Z (Xb (Xc (Xe (X9 (kd := kTag) Ym b9 ([] : List Tag) (cells := []) Z (fun _ => by kernel_rfl) fun d8 a9 ba bb cb hr60 cc cd => ?_))));refine Xf (G a9 ba bb) Z (Xb (Xc (Xc (Xe (Xf (vi 0) Z (Xb (X8 ?_)))))));obtain ⟨ce, cf, ax, H⟩ := H;have cg := (ca.so _ cb hr60);refine Ys (α := (List Tag) × (Option Addr) × Nat × Nat × Int) (fun (sv__ : (List Tag) × (Option Addr) × Nat × Nat × Int) t aj => match sv__ with | (xs2, aa, ac, ad, i2) => ce xs2 i2 ∧ Has t [(7, G ab ah ai), (8, G aa ac ad), (9, vi i2)] ∧ Ct [] w0 aj [bk aa, bk ab] O ∧ Ow kTag 78 aj ([bk aa, bk ab] ++ O) (G ab ah ai) (((([] : List Tag) ++ o) ++ a) ++ b) ∧ Ow kTag 78 aj ([bk aa, bk ab] ++ O) (G aa ac ad) xs2) (fun (sv__ : (List Tag) × (Option Addr) × Nat × Nat × Int) => match sv__ with | (xs2, _, _, _, i2) => cf xs2 i2) (([] : List Tag), a9, ba, bb, 0) ⟨ax, (Xw Z), cc, cg, cd⟩ ?_;rintro ⟨xs2, aa, ac, ad, i2⟩ _ aj ⟨ax, ch, ak, al, bc⟩;obtain ⟨d9, rfl⟩ := Has.ins ch;have H := H xs2 i2 ax;refine Xc (Xc (Xe (Xd (vi i2) Z (Xd (G ab ah ai) Z ?_))));have ci := al.le;refine Xa (X3 u26_ ab ah ai al.len Z) (Xa (Xz i2 ((((([] : List Tag) ++ o) ++ a) ++ b).length : Int) (decide (i2 < ((((([] : List Tag) ++ o) ++ a) ++ b).length : Int))) Z Z Z) (Xb ?_));refine Xx (decide (i2 < ((((([] : List Tag) ++ o) ++ a) ++ b).length : Int))) Z (fun aq => ?_) (fun aq => ?_)
 ·have H := Xi H aq;refine X0 (Xc (X8 (Xe (Xd (G aa ac ad) Z (Xd (G ab ah ai) Z (Xd (vi i2) Z ?_))))));obtain ⟨bd, H⟩ := H;obtain ⟨ar, ea, cj, ck, cl⟩ := al.get default (by decide) i2 bd;obtain ⟨rfl, cm, eb⟩ := kTag.op ck;refine Xa (X4 u26_ Yw ab ar ah ai al.len i2 Z cj Z bd) (Xa (Xp fa78_0 (ar.add (i2.toNat * 2)) ((ar.add (i2.toNat * 2)).add 0) Z Z) (Xa (Xr ag9 cL ((ar.add (i2.toNat * 2)).add 0) (vs ((nth (((([] : List Tag) ++ o) ++ a) ++ b) i2).Key)) Z (cl 0 _ Z)) ?_));have cn := ak.gv bc 0 Z;have co := ak.drop 0 Z;refine Xt go87 [G aa ac ad, vs ((nth (((([] : List Tag) ++ o) ++ a) ++ b) i2).Key), vs ([97] : Str)] Z ((F114.calls aj co.ok xs2 aa ac ad cn ((nth (((([] : List Tag) ++ o) ++ a) ++ b) i2).Key) cm ([97] : Str) (by decide : Lim ([97] : Str)) _ H).mono ?_);rintro _ ec ⟨r, be, bf, bg, rfl, H, ay, cp, az, cq⟩;have cr := Ok.unl (L := [bk aa, bk ab]) (L' := [bk ab]) (O := O) ak ay cp az;have cs := Ow.unl (L := [bk aa, bk ab]) (L' := [bk ab]) (O := O) (fun _ _ _ _ _ _ h => h) (.cons _ (.cons_cons _ (.slnil))) cq;have a0 := ak.owns ay cr az;refine Xf (G be bf bg) Z (Xb (Xe (Xd (vi i2) Z ?_)));obtain ⟨ct, H⟩ := H;have cu : I64 (i2 + 1) := i64_succ (of_decide_eq_true aq) ci ct;refine Xa (X6 i2 1 Z Z cu) (Xf (vi (i2 + 1)) Z (Xb ?_));have cv := a0.drop 1 Z;obtain ⟨cw, cx⟩ := H;have cy := (a0.sd (al.sos ay az) 2 1 Z Z Z);have cz := (a0.sd cs 0 1 Z Z Z);exact ⟨(r, be, bf, bg, i2 + 1), cx, cw, (Xw Z), cv, cy, cz⟩
 have H := Xj H aq;refine Yq (xin_hit ?_);refine Xc (Xe (X9 (kd := Kd.str) Yu ak ([] : List Str) (cells := []) Z (fun _ => by kernel_rfl) fun ed bh bi bj c0 hr134 a1 c1 => ?_));refine Xf (G bh bi bj) Z (Xb (Xc (Xc (Xe (Xf (vi 0) Z (Xb (X8 ?_)))))));have c2 := a1.drop 2 Z;obtain ⟨c4, c5, a2, H⟩ := H;have c6 := (a1.sd (bc.so _ c0 hr134) 1 2 Z Z Z);have c7 := (a1.sd c1 0 2 Z Z Z);refine Ys (α := (List Str) × (Option Addr) × Nat × Nat × Int) (fun (sv__ : (List Str) × (Option Addr) × Nat × Nat × Int) t au => match sv__ with | (xs4, ae, af, ag, i4) => c4 xs4 i4 ∧ Has t [(8, G aa ac ad), (10, G ae af ag), (11, vi i4)] ∧ Ct [] w0 au [bk ae, bk aa] O ∧ Ow kTag 78 au ([bk ae, bk aa] ++ O) (G aa ac ad) xs2 ∧ Ow Kd.str 9 au ([bk ae, bk aa] ++ O) (G ae af ag) xs4) (fun (sv__ : (List Str) × (Option Addr) × Nat × Nat × Int) => match sv__ with | (xs4, _, _, _, i4) => c5 xs4 i4) (([] : List Str), bh, bi, bj, 0) ⟨a2, (Xw Z), c2, c6, c7⟩ ?_;rintro ⟨xs4, ae, af, ag, i4⟩ _ au ⟨a2, c9, a3, am, bl⟩;obtain ⟨ee, rfl⟩ := Has.ins c9;have H := H xs4 i4 a2;refine Xc (Xc (Xe (Xd (vi i4) Z (Xd (G aa ac ad) Z ?_))));have da := am.le;refine Xa (X3 u26_ aa ac ad am.len Z) (Xa (Xz i4 (xs2.length : Int) (decide (i4 < (xs2.length : Int))) Z Z Z) (Xb ?_));refine Xx (decide (i4 < (xs2.length : Int))) Z (fun av => ?_) (fun av => ?_)
 ·have H := Xi H av;refine X0 (Xc (X8 (Xe (Xd (G ae af ag) Z (Xd (G aa ac ad) Z (Xd (vi i4) Z ?_))))));obtain ⟨bm, H⟩ := H;obtain ⟨aw, ef, db, dc, dd⟩ := am.get default (by decide) i4 bm;obtain ⟨rfl, de, eg⟩ := kTag.op dc;refine Xa (X4 u26_ Yw aa aw ac ad am.len i4 Z db Z bm) (Xa (Xp fa78_0 (aw.add (i4.toNat * 2)) ((aw.add (i4.toNat * 2)).add 0) Z Z) (Xa (Xr ag9 cL ((aw.add (i4.toNat * 2)).add 0) (vs ((nth xs2 i4).Key)) Z (dd 0 _ Z)) (X9 (kd := Kd.str) Yu a3 ([(nth xs2 i4).Key] : List Str) (cells := [vs ((nth xs2 i4).Key)]) ⟨[vs ((nth xs2 i4).Key)], _, Z, ⟨Z, de⟩, Z⟩ (fun _ => by kernel_rfl) fun eh df dg dh bn hr187 bo di => ?_)));obtain ⟨dj, H⟩ := H;have dk := (bl.so _ bn hr187);refine Ye Yu bo (G ae af ag) xs4 ([(nth xs2 i4).Key] : List Str) Z dk (G df dg dh) Z di.sx 1 Z dj fun ei bp bq br dl dm a4 dn => ?_;refine Xf (G bp bq br) Z (Xb (Xe (Xd (vi i4) Z ?_)));obtain ⟨dp, H⟩ := H;have dq : I64 (i4 + 1) := i64_succ (of_decide_eq_true av) da dp;refine Xa (X6 i4 1 Z Z dq) (Xf (vi (i4 + 1)) Z (Xb ?_));have dr := a4.drop 0 Z;obtain ⟨ds, dt⟩ := H;have du := (a4.sd (bo.sm (am.so _ bn hr187) 2 1 Z Z Z dl dm) 2 0 Z Z Z);have dv := (a4.sd dn 1 0 Z Z Z);exact ⟨((xs4 ++ ([(nth xs2 i4).Key] : List Str)), bp, bq, br, i4 + 1), dt, ds, (Xw Z), dr, du, dv⟩
 have H := Xj H av;refine Yq (xin_hit ?_);refine Xc (Xe (Xd (G ae af ag) Z (Xf (G ae af ag) Z (Xb (Xk ?_)))));have a5 := a3.drop 1 Z;have dw := (a3.sd bl 0 1 Z Z Z);exact ⟨[G ae af ag], ⟨_, Z, Z⟩, xs4, ae, af, ag, Z, H, a5.gr.g0, a5.ok, a5.ge, dw⟩
end
section
open Go.RowKit
def F117.E (t_ : List Tag) (key : Str) (Q : Str → Bool → Prop) : Prop :=
 (∃ (I19 : Int → Prop) (mu20 : Int → Nat), I19 0 ∧ ∀ (i2 : Int), I19 i2 → (if decide (i2 < (t_.length : Int)) then ((0 : Int) ≤ i2 ∧ i2 < (t_.length : Int)) ∧ (if ((nth t_ i2).Key) == key then ((0 : Int) ≤ i2 ∧ i2 < (t_.length : Int)) ∧ Q ((nth t_ i2).Val) true else (-9223372036854775808 ≤ i2) ∧ I19 (i2 + 1) ∧ mu20 (i2 + 1) < mu20 i2) else Q ([] : Str) false))
theorem F117.calls {O : Ob} (w0 : World) (hO : Ok w0 O) (t_ : List Tag) (A1 : Option Addr) (n2 c3 : Nat) (hp4 : Sl kTag w0 (Fr O) (G A1 n2 c3) t_) (key : Str) (hs6 : Lim key) (Q : Str → Bool → Prop) (h : F117.E t_ key Q) :
  Ret Tryz.prog 146 [G A1 n2 c3, vs key] w0 (fun v w' => ∃ (r0 : Str) (r1 : Bool), v = .tuple #[vs r0, vb r1] ∧ Q r0 r1 ∧ Gr w0 w' none ∧ Lim r0) := by
 unfold F117.E at h;have H := h;clear h;have hc0 := Ct.init hO;refine Yd Tryz.func146 Z 25 Z [.tmp 4, .tmp 5] Z Z ?_;refine Xc (Xe (Xf (vs ([] : Str)) Z (Xf (vb false) Z (Xb (Xc (Xc (Xe (Xf (vi 0) Z ?_))))))));refine Xb (X8 ?_);obtain ⟨ak, al, ae, H⟩ := H;refine Ys (α := Int) (fun (sv__ : Int) t af => match sv__ with | i2 => ak i2 ∧ Has t [(0, G A1 n2 c3), (1, vs key), (6, vi i2)] ∧ Ct [] w0 af [] O ∧ Sl kTag af (Fr ([] ++ O)) (G A1 n2 c3) t_) (fun (sv__ : Int) => match sv__ with | i2 => al i2) 0 ⟨ae, (Xw Z), hc0, hp4⟩ ?_;rintro i2 _ af ⟨ae, am, ag, aa⟩;obtain ⟨a1, rfl⟩ := Has.ins am;have H := H i2 ae;refine Xc (Xc (Xe (Xd (vi i2) Z (Xd (G A1 n2 c3) Z ?_))));have an := aa.le;refine Xa (X3 u26_ A1 n2 c3 aa.len Z) (Xa (Xz i2 (t_.length : Int) (decide (i2 < (t_.length : Int))) Z Z Z) (Xb ?_));refine Xx (decide (i2 < (t_.length : Int))) Z (fun ab => ?_) (fun ab => ?_)
 ·have H := Xi H ab;refine X0 (Xc (X8 (Xc (Xe (Xd (G A1 n2 c3) Z (Xd (vi i2) Z ?_))))));obtain ⟨ai, H⟩ := H;obtain ⟨ac, a2, ao, a3, ap, aq⟩ := aa.get default (by decide) i2 ai;obtain ⟨rfl, a4, a5⟩ := kTag.op ap;refine Xa (X4 u26_ Yw A1 ac n2 c3 aa.len i2 Z ao Z ai) (Xa (Xp fa78_0 (ac.add (i2.toNat * 2)) ((ac.add (i2.toNat * 2)).add 0) Z Z) (Xa (Xr ag9 cL ((ac.add (i2.toNat * 2)).add 0) (vs ((nth t_ i2).Key)) Z (aq 0 _ Z)) (Xd (vs key) Z (Xa (Yz ((nth t_ i2).Key) key (((nth t_ i2).Key) == key) Z Z Z) (Xb ?_)))));refine Xx (((nth t_ i2).Key) == key) Z (fun ah => ?_) (fun ah => ?_)
  ·have H := Xi H ah;refine Xc (Xe (Xd (G A1 n2 c3) Z (Xd (vi i2) Z ?_)));obtain ⟨aj, H⟩ := H;obtain ⟨ad, a6, ar, a7, au, av⟩ := aa.get default (by decide) i2 aj;obtain ⟨rfl, a8, aw⟩ := kTag.op au;exact Xa (X4 u26_ Yw A1 ad n2 c3 aa.len i2 Z ar Z aj) (Xa (Xp fa78_1 (ad.add (i2.toNat * 2)) ((ad.add (i2.toNat * 2)).add 1) Z Z) (Xa (Xr ag9 cL ((ad.add (i2.toNat * 2)).add 1) (vs ((nth t_ i2).Val)) Z (av 1 _ Z)) (Xf (vs ((nth t_ i2).Val)) Z (Xf (vb true) Z (Xb (Xk ⟨[vs ((nth t_ i2).Val), vb true], ⟨_, Z, ⟨_, Z, Z⟩⟩, (nth t_ i2).Val, true, Z, H, ag.gr.g0, aw⟩))))))
  have H := Xj H ah;refine X0 (Xe (Xd (vi i2) Z ?_));obtain ⟨ax, H⟩ := H;have ay : I64 (i2 + 1) := i64_succ (of_decide_eq_true ab) an ax;refine Xa (X6 i2 1 Z Z ay) (Xf (vi (i2 + 1)) Z (Xb ?_));obtain ⟨az, a0⟩ := H;exact ⟨i2 + 1, a0, az, (Xw Z), ag, aa⟩
 have H := Xj H ab;refine Yq (xin_hit ?_);exact Xc (Xe (Xf (vs ([] : Str)) Z (Xf (vb false) Z (Xb (Xk ⟨[vs ([] : Str), vb false], ⟨_, Z, ⟨_, Z, Z⟩⟩, ([] : Str), false, Z, H, ag.gr.g0, (by decide : Lim ([] : Str))⟩)))))
end
section
open Go.RowKit
def F118.E (o : List Tag) (a : List Tag) (b : List Tag) (key : Str) (Q : Str → Bool → Bool → Prop) : Prop :=
 F117.E o key (fun r r2 => F117.E a key (fun r3 r4 => F117.E b key (fun r5 r6 => (if r3 == r then (if r4 == r2 then Q r5 r6 true else (if r5 == r then (if r6 == r2 then Q r3 r4 true else (if r3 == r5 then (if r4 == r6 then Q r3 r4 true else (if r4 then Q r3 true false else Q r5 true false)) else (if r4 then Q r3 true false else Q r5 true false))) else (if r3 == r5 then (if r4 == r6 then Q r3 r4 true else (if r4 then Q r3 true false else Q r5 true false)) else (if r4 then Q r3 true false else Q r5 true false)))) else (if r5 == r then (if r6 == r2 then Q r3 r4 true else (if r3 == r5 then (if r4 == r6 then Q r3 r4 true else (if r4 then Q r3 true false else Q r5 true false)) else (if r4 then Q r3 true false else Q r5 true false))) else (if r3 == r5 then (if r4 == r6 then Q r3 r4 true else (if r4 then Q r3 true false else Q r5 true false)) else (if r4 then Q r3 true false else Q r5 true false)))))))
theorem F118.calls {O : Ob} (w0 : World) (hO : Ok w0 O) (o : List Tag) (A1 : Option Addr) (n2 c3 : Nat) (hp4 : Sl kTag w0 (Fr O) (G A1 n2 c3) o) (a : List Tag) (A6 : Option Addr) (n7 c8 : Nat) (hp9 : Sl kTag w0 (Fr O) (G A6 n7 c8) a) (b : List Tag) (am : Option Addr) (an ao : Nat) (a7 : Sl kTag w0 (Fr O) (G am an ao) b) (key : Str) (ap : Lim key) (Q : Str → Bool → Bool → Prop) (h : F118.E o a b key Q) :
  Ret Tryz.prog 110 [G A1 n2 c3, G A6 n7 c8, G am an ao, vs key] w0 (fun v w' => ∃ (r0 : Str) (r1 : Bool) (r2 : Bool), v = .tuple #[vs r0, vb r1, vb r2] ∧ Q r0 r1 r2 ∧ Gr w0 w' none ∧ Lim r0) := by
 unfold F118.E at h;have H := h;clear h;have hc0 := Ct.init hO;refine Yd Tryz.func110 Z 71 Z [.tmp 8, .tmp 9, .tmp 10] Z Z ?_;refine Xc (Xe (Xf (vs ([] : Str)) Z (Xf (vb false) Z (Xf (vb false) Z (Xb (Xc (Xe (Xd (G A1 n2 c3) Z ?_))))))));refine Xd (vs key) Z ?_;refine Xt go146 [G A1 n2 c3, vs key] Z ((F117.calls w0 hc0.ok o A1 n2 c3 hp4 key ap _ H).mono ?_);rintro _ a8 ⟨r, r2, rfl, H, a9, bd⟩;have aq := hc0.k0 a9;refine Xd (.tuple #[vs r, vb r2]) Z (Xa (Yj [vs r, vb r2] 0 (vs r) Z Z) (Xa (Yj [vs r, vb r2] 1 (vb r2) Z Z) (Xf (vs r) Z (Xf (vb r2) Z (Xb (Xc (Xe (Xd (G A6 n7 c8) Z ?_))))))));refine Xd (vs key) Z ?_;refine Xt go146 [G A6 n7 c8, vs key] Z ((F117.calls a8 aq.ok a A6 n7 c8 (hp9.st aq.st) key ap _ H).mono ?_);rintro _ ba ⟨r3, r4, rfl, H, bb, ad⟩;have ar := aq.k0 bb;refine Xd (.tuple #[vs r3, vb r4]) Z (Xa (Yj [vs r3, vb r4] 0 (vs r3) Z Z) (Xa (Yj [vs r3, vb r4] 1 (vb r4) Z Z) (Xf (vs r3) Z (Xf (vb r4) Z (Xb (Xc (Xe (Xd (G am an ao) Z ?_))))))));refine Xd (vs key) Z ?_;refine Xt go146 [G am an ao, vs key] Z ((F117.calls ba ar.ok b am an ao (a7.st ar.st) key ap _ H).mono ?_);rintro _ be ⟨r5, r6, rfl, H, bc, al⟩;have aa := ar.k0 bc;refine Xd (.tuple #[vs r5, vb r6]) Z (Xa (Yj [vs r5, vb r6] 0 (vs r5) Z Z) (Xa (Yj [vs r5, vb r6] 1 (vb r6) Z Z) (Xf (vs r5) Z (Xf (vb r6) Z (Xb (Xc (X8 (Xc ?_))))))));refine Xe (Xd (vs r3) Z (Xd (vs r) Z (Xa (Yz r3 r (r3 == r) Z Z Z) (Xd (vb (r3 == r)) Z ?_))));rcases X7 (r3 == r) with ae | ae
 ·have H := Xi H ae;refine Xm ae Z (Xd (vb r4) Z (Xm ae Z (Xd (vb r2) Z (Xm ae Z (Xa (Za u4_ r4 r2 (r4 == r2) Z Z Z) (Xa (Xo true (vb (r4 == r2)) ae Z) (Xf (vb (r4 == r2)) Z (Xb ?_))))))));refine Xx (r4 == r2) Z (fun au => ?_) (fun au => ?_)
  ·have H := Xi H au;refine Xc (Xe (Xd (vs r5) Z (Xd (vb r6) Z (Xf (vs r5) Z (Xf (vb r6) Z (Xf (vb true) Z (Xb (Xk ?_))))))));exact ⟨[vs r5, vb r6, vb true], ⟨_, Z, ⟨_, Z, ⟨_, Z, Z⟩⟩⟩, r5, r6, true, Z, H, aa.gr.g0, al⟩
  have H := Xj H au;refine Xc (Xe (Xd (vs r5) Z (Xd (vs r) Z (Xa (Yz r5 r (r5 == r) Z Z Z) (Xd (vb (r5 == r)) Z ?_)))));rcases X7 (r5 == r) with af | af
  ·have H := Xi H af;refine Xm af Z (Xd (vb r6) Z (Xm af Z (Xd (vb r2) Z (Xm af Z (Xa (Za u4_ r6 r2 (r6 == r2) Z Z Z) (Xa (Xo true (vb (r6 == r2)) af Z) (Xd (vb (r6 == r2)) Z ?_)))))));rcases X7 (r6 == r2) with ab | ab
   ·have H := Xi H ab;refine Xn ab Z (Xn ab Z (Xn ab Z (Xn ab Z (Zk Z (Zk Z (Zk Z (Xn ab Z (Xa (Xo true (vb true) ab Z) ?_))))))));refine Xf (vb true) Z (Xb (Yn (b := true) Z Z ?_));refine Xc (Xe (Xd (vs r3) Z (Xd (vb r4) Z (Xf (vs r3) Z (Xf (vb r4) Z (Xf (vb true) Z (Xb (Xk ?_))))))));exact ⟨[vs r3, vb r4, vb true], ⟨_, Z, ⟨_, Z, ⟨_, Z, Z⟩⟩⟩, r3, r4, true, Z, H, aa.gr.g0, ad⟩
   have H := Xj H ab;refine Xm ab Z (Xd (vs r3) Z (Xm ab Z (Xd (vs r5) Z (Xm ab Z (Xa (Yz r3 r5 (r3 == r5) Z Z Z) (Xm ab Z (Xd (vb (r3 == r5)) Z ?_)))))));rcases X7 (r3 == r5) with ag | ag
   ·have H := Xi H ag;refine Xm ag Z (Xd (vb r4) Z (Xm ag Z (Xd (vb r6) Z (Xm ag Z (Xa (Za u4_ r4 r6 (r4 == r6) Z Z Z) (Xm ab Z (Xa (Xo true (vb (r4 == r6)) ag Z) (Xa (Xo false (vb (r4 == r6)) ab Z) ?_))))))));refine Xf (vb (r4 == r6)) Z (Xb ?_);refine Xx (r4 == r6) Z (fun av => ?_) (fun av => ?_)
    ·have H := Xi H av;refine Xc (Xe (Xd (vs r3) Z (Xd (vb r4) Z (Xf (vs r3) Z (Xf (vb r4) Z (Xf (vb true) Z (Xb (Xk ?_))))))));exact ⟨[vs r3, vb r4, vb true], ⟨_, Z, ⟨_, Z, ⟨_, Z, Z⟩⟩⟩, r3, r4, true, Z, H, aa.gr.g0, ad⟩
    have H := Xj H av;refine Xc (Xe (Xd (vb r4) Z (Xf (vb r4) Z (Xb ?_))));refine Xx r4 Z (fun aw => ?_) (fun aw => ?_)
    ·have H := Xi H aw;exact Xc (Xe (Xd (vs r3) Z (Xf (vs r3) Z (Xf (vb true) Z (Xf (vb false) Z (Xb (Xk ⟨[vs r3, vb true, vb false], ⟨_, Z, ⟨_, Z, ⟨_, Z, Z⟩⟩⟩, r3, true, false, Z, H, aa.gr.g0, ad⟩)))))))
    have H := Xj H aw;refine X0 (Xc (Xe (Xd (vs r5) Z (Xf (vs r5) Z (Xf (vb true) Z (Xf (vb false) Z (Xb (Xk ?_))))))));exact ⟨[vs r5, vb true, vb false], ⟨_, Z, ⟨_, Z, ⟨_, Z, Z⟩⟩⟩, r5, true, false, Z, H, aa.gr.g0, al⟩
   have H := Xj H ag;refine Xn ag Z (Xn ag Z (Xn ag Z (Xm ab Z (Xa (Xo false (vb false) ag Z) (Xa (Xo false (vb false) ab Z) (Xf (vb false) Z (Xb (Y5 (b := false) Z Z ?_))))))));refine Xc (Xe (Xd (vb r4) Z (Xf (vb r4) Z (Xb ?_))));refine Xx r4 Z (fun ax => ?_) (fun ax => ?_)
   ·have H := Xi H ax;exact Xc (Xe (Xd (vs r3) Z (Xf (vs r3) Z (Xf (vb true) Z (Xf (vb false) Z (Xb (Xk ⟨[vs r3, vb true, vb false], ⟨_, Z, ⟨_, Z, ⟨_, Z, Z⟩⟩⟩, r3, true, false, Z, H, aa.gr.g0, ad⟩)))))))
   have H := Xj H ax;refine X0 (Xc (Xe (Xd (vs r5) Z (Xf (vs r5) Z (Xf (vb true) Z (Xf (vb false) Z (Xb (Xk ?_))))))));exact ⟨[vs r5, vb true, vb false], ⟨_, Z, ⟨_, Z, ⟨_, Z, Z⟩⟩⟩, r5, true, false, Z, H, aa.gr.g0, al⟩
  have H := Xj H af;refine Xn af Z (Xn af Z (Xn af Z (Xa (Xo false (vb false) af Z) (Xd (vb false) Z (Y9 (dj := 55) Z Z Z (Xd (vs r3) Z (Y9 (dj := 55) Z Z Z (Xd (vs r5) Z ?_))))))));refine Y9 (dj := 55) Z Z Z (Xa (Yz r3 r5 (r3 == r5) Z Z Z) (Y9 (dj := 55) Z Z Z (Xd (vb (r3 == r5)) Z ?_)));rcases X7 (r3 == r5) with ah | ah
  ·have H := Xi H ah;refine Xm ah Z (Xd (vb r4) Z (Xm ah Z (Xd (vb r6) Z (Xm ah Z (Xa (Za u4_ r4 r6 (r4 == r6) Z Z Z) (Y9 (dj := 55) Z Z Z (Xa (Xo true (vb (r4 == r6)) ah Z) (Xa (Xo false (vb (r4 == r6)) Z Z) ?_))))))));refine Xf (vb (r4 == r6)) Z (Xb ?_);refine Xx (r4 == r6) Z (fun ay => ?_) (fun ay => ?_)
   ·have H := Xi H ay;refine Xc (Xe (Xd (vs r3) Z (Xd (vb r4) Z (Xf (vs r3) Z (Xf (vb r4) Z (Xf (vb true) Z (Xb (Xk ?_))))))));exact ⟨[vs r3, vb r4, vb true], ⟨_, Z, ⟨_, Z, ⟨_, Z, Z⟩⟩⟩, r3, r4, true, Z, H, aa.gr.g0, ad⟩
   have H := Xj H ay;refine Xc (Xe (Xd (vb r4) Z (Xf (vb r4) Z (Xb ?_))));refine Xx r4 Z (fun az => ?_) (fun az => ?_)
   ·have H := Xi H az;exact Xc (Xe (Xd (vs r3) Z (Xf (vs r3) Z (Xf (vb true) Z (Xf (vb false) Z (Xb (Xk ⟨[vs r3, vb true, vb false], ⟨_, Z, ⟨_, Z, ⟨_, Z, Z⟩⟩⟩, r3, true, false, Z, H, aa.gr.g0, ad⟩)))))))
   have H := Xj H az;refine X0 (Xc (Xe (Xd (vs r5) Z (Xf (vs r5) Z (Xf (vb true) Z (Xf (vb false) Z (Xb (Xk ?_))))))));exact ⟨[vs r5, vb true, vb false], ⟨_, Z, ⟨_, Z, ⟨_, Z, Z⟩⟩⟩, r5, true, false, Z, H, aa.gr.g0, al⟩
  have H := Xj H ah;refine Xn ah Z (Xn ah Z (Xn ah Z (Y9 (dj := 55) Z Z Z (Xa (Xo false (vb false) ah Z) (Xa (Xo false (vb false) Z Z) (Xf (vb false) Z (Xb (Y5 (b := false) Z Z ?_))))))));refine Xc (Xe (Xd (vb r4) Z (Xf (vb r4) Z (Xb ?_))));refine Xx r4 Z (fun a0 => ?_) (fun a0 => ?_)
  ·have H := Xi H a0;exact Xc (Xe (Xd (vs r3) Z (Xf (vs r3) Z (Xf (vb true) Z (Xf (vb false) Z (Xb (Xk ⟨[vs r3, vb true, vb false], ⟨_, Z, ⟨_, Z, ⟨_, Z, Z⟩⟩⟩, r3, true, false, Z, H, aa.gr.g0, ad⟩)))))))
  have H := Xj H a0;refine X0 (Xc (Xe (Xd (vs r5) Z (Xf (vs r5) Z (Xf (vb true) Z (Xf (vb false) Z (Xb (Xk ?_))))))));exact ⟨[vs r5, vb true, vb false], ⟨_, Z, ⟨_, Z, ⟨_, Z, Z⟩⟩⟩, r5, true, false, Z, H, aa.gr.g0, al⟩
 have H := Xj H ae;refine Xn ae Z (Xn ae Z (Xn ae Z (Xa (Xo false (vb false) ae Z) (Xf (vb false) Z (Xb (Y5 (b := false) Z Z ?_))))));refine Xc (Xe (Xd (vs r5) Z (Xd (vs r) Z (Xa (Yz r5 r (r5 == r) Z Z Z) (Xd (vb (r5 == r)) Z ?_)))));rcases X7 (r5 == r) with ai | ai
 ·have H := Xi H ai;refine Xm ai Z (Xd (vb r6) Z (Xm ai Z (Xd (vb r2) Z (Xm ai Z (Xa (Za u4_ r6 r2 (r6 == r2) Z Z Z) (Xa (Xo true (vb (r6 == r2)) ai Z) (Xd (vb (r6 == r2)) Z ?_)))))));rcases X7 (r6 == r2) with ac | ac
  ·have H := Xi H ac;refine Xn ac Z (Xn ac Z (Xn ac Z (Xn ac Z (Zk Z (Zk Z (Zk Z (Xn ac Z (Xa (Xo true (vb true) ac Z) ?_))))))));refine Xf (vb true) Z (Xb (Yn (b := true) Z Z ?_));refine Xc (Xe (Xd (vs r3) Z (Xd (vb r4) Z (Xf (vs r3) Z (Xf (vb r4) Z (Xf (vb true) Z (Xb (Xk ?_))))))));exact ⟨[vs r3, vb r4, vb true], ⟨_, Z, ⟨_, Z, ⟨_, Z, Z⟩⟩⟩, r3, r4, true, Z, H, aa.gr.g0, ad⟩
  have H := Xj H ac;refine Xm ac Z (Xd (vs r3) Z (Xm ac Z (Xd (vs r5) Z (Xm ac Z (Xa (Yz r3 r5 (r3 == r5) Z Z Z) (Xm ac Z (Xd (vb (r3 == r5)) Z ?_)))))));rcases X7 (r3 == r5) with aj | aj
  ·have H := Xi H aj;refine Xm aj Z (Xd (vb r4) Z (Xm aj Z (Xd (vb r6) Z (Xm aj Z (Xa (Za u4_ r4 r6 (r4 == r6) Z Z Z) (Xm ac Z (Xa (Xo true (vb (r4 == r6)) aj Z) (Xa (Xo false (vb (r4 == r6)) ac Z) ?_))))))));refine Xf (vb (r4 == r6)) Z (Xb ?_);refine Xx (r4 == r6) Z (fun a1 => ?_) (fun a1 => ?_)
   ·have H := Xi H a1;refine Xc (Xe (Xd (vs r3) Z (Xd (vb r4) Z (Xf (vs r3) Z (Xf (vb r4) Z (Xf (vb true) Z (Xb (Xk ?_))))))));exact ⟨[vs r3, vb r4, vb true], ⟨_, Z, ⟨_, Z, ⟨_, Z, Z⟩⟩⟩, r3, r4, true, Z, H, aa.gr.g0, ad⟩
   have H := Xj H a1;refine Xc (Xe (Xd (vb r4) Z (Xf (vb r4) Z (Xb ?_))));refine Xx r4 Z (fun a2 => ?_) (fun a2 => ?_)
   ·have H := Xi H a2;exact Xc (Xe (Xd (vs r3) Z (Xf (vs r3) Z (Xf (vb true) Z (Xf (vb false) Z (Xb (Xk ⟨[vs r3, vb true, vb false], ⟨_, Z, ⟨_, Z, ⟨_, Z, Z⟩⟩⟩, r3, true, false, Z, H, aa.gr.g0, ad⟩)))))))
   have H := Xj H a2;refine X0 (Xc (Xe (Xd (vs r5) Z (Xf (vs r5) Z (Xf (vb true) Z (Xf (vb false) Z (Xb (Xk ?_))))))));exact ⟨[vs r5, vb true, vb false], ⟨_, Z, ⟨_, Z, ⟨_, Z, Z⟩⟩⟩, r5, true, false, Z, H, aa.gr.g0, al⟩
  have H := Xj H aj;refine Xn aj Z (Xn aj Z (Xn aj Z (Xm ac Z (Xa (Xo false (vb false) aj Z) (Xa (Xo false (vb false) ac Z) (Xf (vb false) Z (Xb (Y5 (b := false) Z Z ?_))))))));refine Xc (Xe (Xd (vb r4) Z (Xf (vb r4) Z (Xb ?_))));refine Xx r4 Z (fun a3 => ?_) (fun a3 => ?_)
  ·have H := Xi H a3;exact Xc (Xe (Xd (vs r3) Z (Xf (vs r3) Z (Xf (vb true) Z (Xf (vb false) Z (Xb (Xk ⟨[vs r3, vb true, vb false], ⟨_, Z, ⟨_, Z, ⟨_, Z, Z⟩⟩⟩, r3, true, false, Z, H, aa.gr.g0, ad⟩)))))))
  have H := Xj H a3;refine X0 (Xc (Xe (Xd (vs r5) Z (Xf (vs r5) Z (Xf (vb true) Z (Xf (vb false) Z (Xb (Xk ?_))))))));exact ⟨[vs r5, vb true, vb false], ⟨_, Z, ⟨_, Z, ⟨_, Z, Z⟩⟩⟩, r5, true, false, Z, H, aa.gr.g0, al⟩
 have H := Xj H ai;refine Xn ai Z (Xn ai Z (Xn ai Z (Xa (Xo false (vb false) ai Z) (Xd (vb false) Z (Y9 (dj := 55) Z Z Z (Xd (vs r3) Z (Y9 (dj := 55) Z Z Z (Xd (vs r5) Z ?_))))))));refine Y9 (dj := 55) Z Z Z (Xa (Yz r3 r5 (r3 == r5) Z Z Z) (Y9 (dj := 55) Z Z Z (Xd (vb (r3 == r5)) Z ?_)));rcases X7 (r3 == r5) with ak | ak
 ·have H := Xi H ak;refine Xm ak Z (Xd (vb r4) Z (Xm ak Z (Xd (vb r6) Z (Xm ak Z (Xa (Za u4_ r4 r6 (r4 == r6) Z Z Z) (Y9 (dj := 55) Z Z Z (Xa (Xo true (vb (r4 == r6)) ak Z) (Xa (Xo false (vb (r4 == r6)) Z Z) ?_))))))));refine Xf (vb (r4 == r6)) Z (Xb ?_);refine Xx (r4 == r6) Z (fun a4 => ?_) (fun a4 => ?_)
  ·have H := Xi H a4;refine Xc (Xe (Xd (vs r3) Z (Xd (vb r4) Z (Xf (vs r3) Z (Xf (vb r4) Z (Xf (vb true) Z (Xb (Xk ?_))))))));exact ⟨[vs r3, vb r4, vb true], ⟨_, Z, ⟨_, Z, ⟨_, Z, Z⟩⟩⟩, r3, r4, true, Z, H, aa.gr.g0, ad⟩
  have H := Xj H a4;refine Xc (Xe (Xd (vb r4) Z (Xf (vb r4) Z (Xb ?_))));refine Xx r4 Z (fun a5 => ?_) (fun a5 => ?_)
  ·have H := Xi H a5;exact Xc (Xe (Xd (vs r3) Z (Xf (vs r3) Z (Xf (vb true) Z (Xf (vb false) Z (Xb (Xk ⟨[vs r3, vb true, vb false], ⟨_, Z, ⟨_, Z, ⟨_, Z, Z⟩⟩⟩, r3, true, false, Z, H, aa.gr.g0, ad⟩)))))))
  have H := Xj H a5;refine X0 (Xc (Xe (Xd (vs r5) Z (Xf (vs r5) Z (Xf (vb true) Z (Xf (vb false) Z (Xb (Xk ?_))))))));exact ⟨[vs r5, vb true, vb false], ⟨_, Z, ⟨_, Z, ⟨_, Z, Z⟩⟩⟩, r5, true, false, Z, H, aa.gr.g0, al⟩
 have H := Xj H ak;refine Xn ak Z (Xn ak Z (Xn ak Z (Y9 (dj := 55) Z Z Z (Xa (Xo false (vb false) ak Z) (Xa (Xo false (vb false) Z Z) (Xf (vb false) Z (Xb (Y5 (b := false) Z Z ?_))))))));refine Xc (Xe (Xd (vb r4) Z (Xf (vb r4) Z (Xb ?_))));refine Xx r4 Z (fun a6 => ?_) (fun a6 => ?_)
 ·have H := Xi H a6;exact Xc (Xe (Xd (vs r3) Z (Xf (vs r3) Z (Xf (vb true) Z (Xf (vb false) Z (Xb (Xk ⟨[vs r3, vb true, vb false], ⟨_, Z, ⟨_, Z, ⟨_, Z, Z⟩⟩⟩, r3, true, false, Z, H, aa.gr.g0, ad⟩)))))))
 have H := Xj H a6;refine X0 (Xc (Xe (Xd (vs r5) Z (Xf (vs r5) Z (Xf (vb true) Z (Xf (vb false) Z (Xb (Xk ?_))))))));exact ⟨[vs r5, vb true, vb false], ⟨_, Z, ⟨_, Z, ⟨_, Z, Z⟩⟩⟩, r5, true, false, Z, H, aa.gr.g0, al⟩
end
section
open Go.RowKit
def F95.E (o : Feat) (a : Feat) (b : Feat) (Q : Feat → List Str → Prop) : Prop :=
 F71.E o.Shape a.Shape b.Shape (fun r r2 => (∃ (J134 : (List Str) → Prop), ((if !r2 then (([] : List Str).length + ([([115, 104, 97, 112, 101] : Str)] : List Str).length ≤ 268435456) ∧ J134 (([] : List Str) ++ ([([115, 104, 97, 112, 101] : Str)] : List Str)) else J134 ([] : List Str))) ∧ ∀ (xs : List Str), J134 xs → F79.E r (fun r3 => F94.E o.Tags a.Tags b.Tags (fun r4 => (∃ (I2328 : (List Str) → Int → (List Tag) → Prop) (mu2329 : (List Str) → Int → (List Tag) → Nat), I2328 xs 0 ([] : List Tag) ∧ ∀ (xs4 : List Str) (i2 : Int) (xs5 : List Tag), I2328 xs4 i2 xs5 → (if decide (i2 < (r4.length : Int)) then ((0 : Int) ≤ i2 ∧ i2 < (r4.length : Int)) ∧ F118.E o.Tags a.Tags b.Tags (nth r4 i2) (fun r5 r6 r7 => (∃ (J2411 : (List Str) → Prop), ((if !r7 then ((0 : Int) ≤ i2 ∧ i2 < (r4.length : Int)) ∧ (([116, 97, 103, 32] : Str).length + (nth r4 i2).length ≤ 9223372036854775807) ∧ (xs4.length + ([(([116, 97, 103, 32] : Str) ++ (nth r4 i2))] : List Str).length ≤ 268435456) ∧ J2411 (xs4 ++ ([(([116, 97, 103, 32] : Str) ++ (nth r4 i2))] : List Str)) else J2411 xs4)) ∧ ∀ (xs6 : List Str), J2411 xs6 → (∃ (J2516 : (List Tag) → Prop), ((if r6 then ((0 : Int) ≤ i2 ∧ i2 < (r4.length : Int)) ∧ (xs5.length + ([(⟨(nth r4 i2), r5⟩ : Tag)] : List Tag).length ≤ 268435456) ∧ J2516 (xs5 ++ ([(⟨(nth r4 i2), r5⟩ : Tag)] : List Tag)) else J2516 xs5)) ∧ ∀ (xs7 : List Tag), J2516 xs7 → (I64 (i2 + 1)) ∧ I2328 xs6 (i2 + 1) xs7 ∧ mu2329 xs6 (i2 + 1) xs7 < mu2329 xs4 i2 xs5))) else F84.E (⟨a.Id, r3, xs5⟩ : Feat) (fun r8 => (if !r8 then F80.E a (fun r9 => Q r9 ([([109, 117, 99, 104] : Str)] : List Str)) else Q (⟨a.Id, r3, xs5⟩ : Feat) xs4))))))))
theorem F95.calls {O : Ob} (w0 : World) (hO : Ok w0 O) (o : Feat) (A2 : Option Addr) (n3 c4 : Nat) (A7 : Option Addr) (n8 c9 : Nat) (hs1 : Lim o.Id) (hp5 : Sl kPt w0 (Fr O) (G A2 n3 c4) o.Shape.Pts) (hu : Sl kTag w0 (Fr O) (G A7 n8 c9) o.Tags) (a : Feat) (a2 : Option Addr) (a3 a4 : Nat) (am : Option Addr) (an ao : Nat) (e3 : Lim a.Id) (e4 : Sl kPt w0 (Fr O) (G a2 a3 a4) a.Shape.Pts) (hv : Sl kTag w0 (Fr O) (G am an ao) a.Tags) (b : Feat) (bp : Option Addr) (bq br : Nat) (a5 : Option Addr) (a6 a7 : Nat) (qt : Lim b.Id) (e5 : Sl kPt w0 (Fr O) (G bp bq br) b.Shape.Pts) (hw : Sl kTag w0 (Fr O) (G a5 a6 a7) b.Tags) (Q : Feat → List Str → Prop) (h : F95.E o a b Q) :
  Ret Tryz.prog 63 [.agg #[vs o.Id, vi o.Shape.Kind, G A2 n3 c4, G A7 n8 c9], .agg #[vs a.Id, vi a.Shape.Kind, G a2 a3 a4, G am an ao], .agg #[vs b.Id, vi b.Shape.Kind, G bp bq br, G a5 a6 a7]] w0 (fun v w' => ∃ (r0 : Feat) (r1 : List Str) (Aw0 : Option Addr) (nw0 cw0 : Nat) (Aw2 : Option Addr) (nw2 cw2 : Nat) (Aw4 : Option Addr) (nw4 cw4 : Nat), v = .tuple #[.agg #[vs r0.Id, vi r0.Shape.Kind, G Aw0 nw0 cw0, G Aw2 nw2 cw2], G Aw4 nw4 cw4] ∧ Q r0 r1 ∧ Gr w0 w' none ∧ Ok w' ([bk Aw0, bk Aw2, bk Aw4] ++ O) ∧ (∀ b, some b ∈ [bk Aw0, bk Aw2, bk Aw4] → w0.heap.size ≤ b) ∧ Lim r0.Id ∧ Ow kPt 61 w' ([bk Aw0, bk Aw2, bk Aw4] ++ O) (G Aw0 nw0 cw0) r0.Shape.Pts ∧ Ow kTag 78 w' ([bk Aw0, bk Aw2, bk Aw4] ++ O) (G Aw2 nw2 cw2) r0.Tags ∧ Ow Kd.str 9 w' ([bk Aw0, bk Aw2, bk Aw4] ++ O) (G Aw4 nw4 cw4) r1) := by
 unfold F95.E at h;have H := h;clear h;have hc0 := Ct.init hO;refine Yd Tryz.func63 Z 96 Z [.cell 6 28, .tmp 7] Z Z ?_;refine Xc (Xe (Yk [vs o.Id, vi o.Shape.Kind, G A2 n3 c4, G A7 n8 c9] Z fun qu au jt hu38 ju jv => ?_));have jw := Fb.mk hc0.ok jt jv;have e6 := hc0.k0 ju;refine Yk [vs a.Id, vi a.Shape.Kind, G a2 a3 a4, G am an ao] Z fun qv ai jx hu47 hx jy => ?_;have jz := Fb.mk e6.ok jx jy;have e7 := e6.k0 hx;refine Yk [vs b.Id, vi b.Shape.Kind, G bp bq br, G a5 a6 a7] Z fun qw av j0 hu56 hy j1 => ?_;have j2 := Fb.mk e7.ok j0 j1;have hz := e7.k0 hy;refine Yb [vs [], .int .i64 0, G none 0 0, G none 0 0] ze28 fun qx aa h0 hu65 h1 h2 => ?_;have h3 := hz.own h1 (some aa) (Ya h0 hu65);refine Xf (G none 0 0) Z (Xb (Xc (Xe (X9 (kd := Kd.str) Yu h3 ([] : List Str) (cells := []) Z (fun _ => by kernel_rfl) fun j3 dt du dv e8 hr74 cp h4 => ?_))));refine Xf (G dt du dv) Z (Xb (Xc (Xe (Xa (Xp fa28_1 ⟨au, 0, none⟩ ⟨au, 1, none⟩ Z Z) ?_))));have j4 := e6.stn hx;have h5 := e7.stn hy;have e9 := hz.stown _ h1 (Xg h0);have fa := h3.stown _ e8 hr74;have fb := ((((jw.st j4).st h5).st e9).st fa);refine Xa (Xs ag25 sz25 cL ⟨au, 1, none⟩ [vi o.Shape.Kind, G A2 n3 c4] Z Z (fb.cells (off := 1) Z)) (Xa (Xp fa28_1 ⟨ai, 0, none⟩ ⟨ai, 1, none⟩ Z Z) ?_);have fc := (((jz.st h5).st e9).st fa);refine Xa (Xs ag25 sz25 cL ⟨ai, 1, none⟩ [vi a.Shape.Kind, G a2 a3 a4] Z Z (fc.cells (off := 1) Z)) (Xa (Xp fa28_1 ⟨av, 0, none⟩ ⟨av, 1, none⟩ Z Z) ?_);have fd := ((j2.st e9).st fa);refine Xa (Xs ag25 sz25 cL ⟨av, 1, none⟩ [vi b.Shape.Kind, G bp bq br] Z Z (fd.cells (off := 1) Z)) ?_;refine Xt go108 [.agg #[vi o.Shape.Kind, G A2 n3 c4], .agg #[vi a.Shape.Kind, G a2 a3 a4], .agg #[vi b.Shape.Kind, G bp bq br]] Z ((F71.calls j3 cp.ok o.Shape A2 n3 c4 (hp5.st cp.st) a.Shape a2 a3 a4 (e4.st cp.st) b.Shape bp bq br (e5.st cp.st) _ H).mono ?_);rintro _ qy ⟨r, r2, bt, bu, bv, rfl, H, cq, h6⟩;have fe := cp.k0 cq;refine Xd (.tuple #[.agg #[vi r.Kind, G bt bu bv], vb r2]) Z (Xa (Yj [.agg #[vi r.Kind, G bt bu bv], vb r2] 0 (.agg #[vi r.Kind, G bt bu bv]) Z Z) (Xa (Yj [.agg #[vi r.Kind, G bt bu bv], vb r2] 1 (vb r2) Z Z) (Yb [.int .i64 0, G none 0 0] ze25 fun qz aw c7 hu100 cr j5 => ?_)));have cs := fe.own cr (some aw) (Ya c7 hu100);refine Xv aw 0 [vi 0, G none 0 0] [vi r.Kind, G bt bu bv] [vi r.Kind, G bt bu bv] Z j5 Z sz25 Z Z Z fun q0 ct h7 => ?_;have b4 := cs.wr 0 Z ct;refine Xf (vb r2) Z (Xb (Xc (Xc (Xe (Xd (vb r2) Z (Xa (Yp r2 Z) (Xb ?_)))))));obtain ⟨j6, H, j7⟩ := H;refine Y1 (J := (fun t bh => ∃ (xs : List Str) (aj : Option Addr) (c8 : Nat) (da : Nat), j6 xs ∧ Has t [(3, .pointer (some ⟨au, 0, none⟩)), (4, .pointer (some ⟨ai, 0, none⟩)), (5, .pointer (some ⟨av, 0, none⟩)), (6, .pointer (some ⟨aa, 0, none⟩)), (8, G aj c8 da), (9, .pointer (some ⟨aw, 0, none⟩))] ∧ Ct [] w0 bh [some aw, bk aj, some aa] O ∧ Sl kPt bh (Fr ([some aw, bk aj, some aa] ++ O)) (G a2 a3 a4) a.Shape.Pts ∧ Sl kTag bh (Fr ([some aw, bk aj, some aa] ++ O)) (G am an ao) a.Tags ∧ Sl kPt bh (Fr ([some aw, bk aj, some aa] ++ O)) (G bt bu bv) r.Pts ∧ Sl kPt bh (Fr ([some aw, bk aj, some aa] ++ O)) (G bp bq br) b.Shape.Pts ∧ Sl kTag bh (Fr ([some aw, bk aj, some aa] ++ O)) (G a5 a6 a7) b.Tags ∧ Sl kPt bh (Fr ([some aw, bk aj, some aa] ++ O)) (G A2 n3 c4) o.Shape.Pts ∧ Sl kTag bh (Fr ([some aw, bk aj, some aa] ++ O)) (G A7 n8 c9) o.Tags ∧ Ow Kd.str 9 bh ([some aw, bk aj, some aa] ++ O) (G aj c8 da) xs ∧ Fb bh ([some aw, bk aj, some aa] ++ O) au [vs o.Id, vi o.Shape.Kind, G A2 n3 c4, G A7 n8 c9] ∧ Fb bh ([some aw, bk aj, some aa] ++ O) ai [vs a.Id, vi a.Shape.Kind, G a2 a3 a4, G am an ao] ∧ Fb bh ([some aw, bk aj, some aa] ++ O) av [vs b.Id, vi b.Shape.Kind, G bp bq br, G a5 a6 a7] ∧ Bx bh aa [vs ([] : Str), vi 0, G none 0 0, G none 0 0] ∧ Bx bh aw [vi r.Kind, G bt bu bv])) ?_ ?_
 ·refine Xx (!r2) Z (fun ff => ?_) (fun ff => ?_)
  ·have H := Xi H ff;refine Xe (Xd (G dt du dv) Z (X9 (kd := Kd.str) Yu b4 ([([115, 104, 97, 112, 101] : Str)] : List Str) (cells := [vs ([115, 104, 97, 112, 101] : Str)]) ⟨[vs ([115, 104, 97, 112, 101] : Str)], _, Z, ⟨Z, (by decide : Lim ([115, 104, 97, 112, 101] : Str))⟩, Z⟩ (fun _ => by kernel_rfl) fun q1 j8 j9 ka dw hr143 fg kb => ?_));obtain ⟨kc, H⟩ := H;have ke := ((cs.sw ((h4.sn cq).so _ cr (Xg c7)) 1 0 Z Z Z ct).so _ dw hr143);refine Ye Yu fg (G dt du dv) ([] : List Str) ([([115, 104, 97, 112, 101] : Str)] : List Str) Z ke (G j8 j9 ka) Z kb.sx 2 Z kc fun q2 h8 h9 ia ib dx fh kf => ?_;refine Xf (G h8 h9 ia) Z (Xb ?_);have cu := fh.drop 0 Z;have dy := fe.stown _ cr (Xg c7);have dz := cs.stw 0 Z ct;have d0 := b4.stown _ dw hr143;have d1 := fh.std 0 Z;have kg := (((((h6.st dy).st dz).st d0).st dx).st d1);have kh := (fh.sd kf 2 0 Z Z Z);have fi := cp.stn cq;have ki := ((((((fb.st fi).st dy).st dz).st d0).st dx).st d1);have kj := ((((((fc.st fi).st dy).st dz).st d0).st dx).st d1);have kk := ((((((fd.st fi).st dy).st dz).st d0).st dx).st d1);have kl := (fg.bm ((cs.bm (((h2.k0 e8).k0 cq).k0 cr) 2 0 Z Z Z ct).k0 dw) 3 2 Z Z Z ib);have km := (fg.bm (h7.k0 dw) 1 2 Z Z Z ib);exact ⟨(([] : List Str) ++ ([([115, 104, 97, 112, 101] : Str)] : List Str)), h8, h9, ia, H, (Xw Z), cu, (e4.st cu.st), (hv.st cu.st), kg, (e5.st cu.st), (hw.st cu.st), (hp5.st cu.st), (hu.st cu.st), kh, ki, kj, kk, kl, km⟩
  have H := Xj H ff;refine X0 ?_;have d2 := fe.stown _ cr (Xg c7);have d3 := cs.stw 0 Z ct;have kn := ((h6.st d2).st d3);have ko := (cs.sw ((h4.sn cq).so _ cr (Xg c7)) 1 0 Z Z Z ct);have fj := cp.stn cq;have kp := (((fb.st fj).st d2).st d3);have kq := (((fc.st fj).st d2).st d3);have kr := (((fd.st fj).st d2).st d3);have ks := (cs.bm (((h2.k0 e8).k0 cq).k0 cr) 2 0 Z Z Z ct);exact ⟨([] : List Str), dt, du, dv, H, (Xw Z), b4, (e4.st b4.st), (hv.st b4.st), kn, (e5.st b4.st), (hw.st b4.st), (hp5.st b4.st), (hu.st b4.st), ko, kp, kq, kr, ks, h7⟩
 rintro q3 bh ⟨xs, aj, c8, da, kt, ku, fk, kv, ic, id, kx, ie, ky, ig, kz, k1, ih, k2, k3, k4⟩;obtain ⟨q4, rfl⟩ := Has.ins ku;have H := j7 xs kt;refine Xc ?_;refine Y1 (J := (fun t c1 => ∃ (r3 : Shape) (ab : Nat) (ac : Option Addr) (ak : Nat) (al : Nat), Has t [(3, .pointer (some ⟨au, 0, none⟩)), (4, .pointer (some ⟨ai, 0, none⟩)), (5, .pointer (some ⟨av, 0, none⟩)), (6, .pointer (some ⟨aa, 0, none⟩)), (8, G aj c8 da), (11, .pointer (some ⟨ab, 0, none⟩))] ∧ Gr bh c1 none ∧ Ct [] w0 c1 [some ab, bk ac, some aw, bk aj, some aa] O ∧ (∀ b, some b ∈ ([some ab, bk ac] : Ob) → bh.heap.size ≤ b) ∧ Ow kPt 61 c1 ([some ab, bk ac, some aw, bk aj, some aa] ++ O) (G ac ak al) r3.Pts ∧ Bx c1 ab [vs a.Id, vi r3.Kind, G ac ak al, G none 0 0] ∧ F94.E o.Tags a.Tags b.Tags (fun r4 => (∃ (db : (List Str) → Int → (List Tag) → Prop) (d4 : (List Str) → Int → (List Tag) → Nat), db xs 0 ([] : List Tag) ∧ ∀ (xs4 : List Str) (i2 : Int) (xs5 : List Tag), db xs4 i2 xs5 → (if decide (i2 < (r4.length : Int)) then ((0 : Int) ≤ i2 ∧ i2 < (r4.length : Int)) ∧ F118.E o.Tags a.Tags b.Tags (nth r4 i2) (fun r5 r6 r7 => (∃ (dc : (List Str) → Prop), ((if !r7 then ((0 : Int) ≤ i2 ∧ i2 < (r4.length : Int)) ∧ (([116, 97, 103, 32] : Str).length + (nth r4 i2).length ≤ 9223372036854775807) ∧ (xs4.length + ([(([116, 97, 103, 32] : Str) ++ (nth r4 i2))] : List Str).length ≤ 268435456) ∧ dc (xs4 ++ ([(([116, 97, 103, 32] : Str) ++ (nth r4 i2))] : List Str)) else dc xs4)) ∧ ∀ (xs6 : List Str), dc xs6 → (∃ (dd : (List Tag) → Prop), ((if r6 then ((0 : Int) ≤ i2 ∧ i2 < (r4.length : Int)) ∧ (xs5.length + ([(⟨(nth r4 i2), r5⟩ : Tag)] : List Tag).length ≤ 268435456) ∧ dd (xs5 ++ ([(⟨(nth r4 i2), r5⟩ : Tag)] : List Tag)) else dd xs5)) ∧ ∀ (xs7 : List Tag), dd xs7 → (I64 (i2 + 1)) ∧ db xs6 (i2 + 1) xs7 ∧ d4 xs6 (i2 + 1) xs7 < d4 xs4 i2 xs5))) else F84.E (⟨a.Id, r3, xs5⟩ : Feat) (fun r8 => (if !r8 then F80.E a (fun r9 => Q r9 ([([109, 117, 99, 104] : Str)] : List Str)) else Q (⟨a.Id, r3, xs5⟩ : Feat) xs4))))))) ?_ ?_
 ·refine Yy 7 [] (by kernel_rfl) Z fun k5 b5 cg => ?_;have d5 := fk.k0 b5;refine Xq 0 Z (by kernel_rfl) cg (Xp fa28_0 ⟨ai, 0, none⟩ ⟨ai, 0, none⟩ Z Z) ?_;have fl := fk.stn b5;have k6 := (ih.st fl);refine Xq 1 Z (by kernel_rfl) cg (Y6 ag9 cR ⟨ai, 0, none⟩ (vs a.Id) Z (k6.cell Z) nm_nil) ?_;have k7 := (k4.k0 b5);refine Xq 2 Z (by kernel_rfl) cg (Y2 ag25 sz25 cR ⟨aw, 0, none⟩ [vi r.Kind, G bt bu bv] Z Z (k7.cells (off := 0) Z) nm_nil) ?_;refine Yv 3 5 (by kernel_rfl) Z Z ?_ ?_
  ·refine Xt go94 [.agg #[vi r.Kind, G bt bu bv]] Z ((F79.calls k5 d5.ok r bt bu bv (id.st fl) _ H).mono ?_);rintro _ ii ⟨r3, d6, d7, d8, rfl, H, ij, k8, ik, k9⟩;have la := d5.owns ij k8 ik;have de := Gm.tm cg ij;refine Xb ⟨de, ?_⟩;refine Xq 4 Z (by kernel_rfl) de (Yl (.agg #[vs a.Id, vi r3.Kind, G d6 d7 d8, G none 0 0]) (fun _ => by kernel_rfl)) ?_;refine Xu 5 (by kernel_rfl) Z ?_;refine Yb [vs [], .int .i64 0, G none 0 0, G none 0 0] ze28 fun q5 fm d9 hu206 fn lb => ?_;have il := la.own fn (some fm) (Ya d9 hu206);have im := Gm.tm de fn;refine Xb ⟨im, ?_⟩;refine Xu 6 (by kernel_rfl) Z ?_;refine Xv fm 0 [vs ([] : Str), vi 0, G none 0 0, G none 0 0] [vs a.Id, vi r3.Kind, G d6 d7 d8, G none 0 0] [vs a.Id, vi r3.Kind, G d6 d7 d8, G none 0 0] Z lb Z sz28 Z Z Z fun q6 fo lc => ?_;have ld := il.wr 0 Z fo;have io := Gm.tq im fo (hv_new de (Xg d9));refine Xb ⟨io, ?_⟩;refine Yf (by kernel_rfl) ?_;have fp := (il.sw (k9.so _ fn (Xg d9)) 1 0 Z Z Z fo);exact ⟨r3, fm, d6, d7, d8, (Xw Z), (Gr.t0 b5 io.g0), ld, (jg_cons b5.size (hv_new de (Xg d9)) (jg_cons b5.size (hv_hge cg ik (q := 0) Z) jg_nil)), fp, lc, H⟩
  refine Yb [vs [], .int .i64 0, G none 0 0, G none 0 0] ze28 fun ii fq ea hu194 fr lf => ?_;have ip := d5.own fr (some fq) (Ya ea hu194);have fs := Gm.tm cg fr;refine Xb ⟨fs, ?_⟩;refine Xu 3 (by kernel_rfl) Z ?_;have lg := d5.stown _ fr (Xg ea);have lh := ((id.st fl).st lg);refine Xt go94 [.agg #[vi r.Kind, G bt bu bv]] Z ((F79.calls ii ip.ok r bt bu bv lh _ H).mono ?_);rintro _ q7 ⟨r3, eb, ec, ed, rfl, H, ft, li, iq, lj⟩;have ir := ip.owns ft li iq;have fu := Gm.tm fs ft;refine Xb ⟨fu, ?_⟩;refine Xq 4 Z (by kernel_rfl) fu (Yl (.agg #[vs a.Id, vi r3.Kind, G eb ec ed, G none 0 0]) (fun _ => by kernel_rfl)) ?_;refine Xu 6 (by kernel_rfl) Z ?_;have fp := (lf.k0 ft);refine Xv fq 0 [vs ([] : Str), vi 0, G none 0 0, G none 0 0] [vs a.Id, vi r3.Kind, G eb ec ed, G none 0 0] [vs a.Id, vi r3.Kind, G eb ec ed, G none 0 0] Z fp Z sz28 Z Z Z fun q8 fv lk => ?_;have it := ir.wr 1 Z fv;have iu := Gm.tq fu fv (hv_new cg (Xg ea));refine Xb ⟨iu, ?_⟩;refine Yf (by kernel_rfl) ?_;have ll := it.perm (.swap _ _ _);have lm := (it.sp (ir.sw lj 0 1 Z Z Z fv) (.swap _ _ _));have ln := lk;exact ⟨r3, fq, eb, ec, ed, (Xw Z), (Gr.t0 b5 iu.g0), ll, (jg_cons b5.size (hv_new cg (Xg ea)) (jg_cons b5.size (hv_hge fs iq (q := 0) Z) jg_nil)), lm, ln, H⟩
 rintro q9 c1 ⟨r3, ab, ac, ak, al, lo, fw, fx, iv, lp, lq, H⟩;obtain ⟨ra, rfl⟩ := Has.ins lo;refine Xc (Xe (Xa (Xp fa28_2 ⟨au, 0, none⟩ ⟨au, 3, none⟩ Z Z) ?_));have bw := fk.stos fw iv;have iw := (k1.st bw);refine Xa (Xr ag26 cL ⟨au, 3, none⟩ (G A7 n8 c9) Z (iw.cell Z)) (Xa (Xp fa28_2 ⟨ai, 0, none⟩ ⟨ai, 3, none⟩ Z Z) ?_);have ix := (ih.st bw);refine Xa (Xr ag26 cL ⟨ai, 3, none⟩ (G am an ao) Z (ix.cell Z)) (Xa (Xp fa28_2 ⟨av, 0, none⟩ ⟨av, 3, none⟩ Z Z) ?_);have iy := (k2.st bw);refine Xa (Xr ag26 cL ⟨av, 3, none⟩ (G a5 a6 a7) Z (iy.cell Z)) ?_;refine Xt go109 [G A7 n8 c9, G am an ao, G a5 a6 a7] Z ((F94.calls c1 fx.ok o.Tags A7 n8 c9 (ig.st bw) a.Tags am an ao (ic.st bw) b.Tags a5 a6 a7 (ie.st bw) _ H).mono ?_);rintro _ ee ⟨r4, ad, bi, bj, rfl, H, c2, lr, ef, ls⟩;have df : Ct [] w0 ee [bk ad, some ab, bk ac, some aw, bk aj, some aa] O := fx.owns c2 lr ef;refine Xf (G ad bi bj) Z (Xb (Xc (Xc (Xe (Xf (vi 0) Z (Xb (X8 ?_)))))));have iz := df.drop 3 Z;have i0 := iz.own (Gr.refl _ none) none (by simp);have lt : Ow kTag 78 ee ([bk none, bk ad, some ab, bk ac, bk aj, some aa] ++ O) (G none 0 0) [] := Ow.nil _ _ _ _;have i1 := i0.own (Gr.refl _ none) none (by simp);have lu : Ow kPt 61 ee ([bk none, bk none, bk ad, some ab, bk ac, bk aj, some aa] ++ O) (G none 0 0) [] := Ow.nil _ _ _ _;have lv := i1.own (Gr.refl _ none) none (by simp);have lw : Ow kTag 78 ee ([bk none, bk none, bk none, bk ad, some ab, bk ac, bk aj, some aa] ++ O) (G none 0 0) [] := Ow.nil _ _ _ _;obtain ⟨db, d4, fy, H⟩ := H;have b6 := fx.stos c2 ef;have b7 := df.std 3 Z;have b8 := iz.st0n;have b9 := i0.st0n;have ca := i1.st0n;have lx := ((((((kv.st bw).st b6).st b7).st b8).st b9).st ca);have ly := ((((((ic.st bw).st b6).st b7).st b8).st b9).st ca);have lz := ((((((kx.st bw).st b6).st b7).st b8).st b9).st ca);have l0 := ((((((ie.st bw).st b6).st b7).st b8).st b9).st ca);have l1 := ((((((ky.st bw).st b6).st b7).st b8).st b9).st ca);have l2 := ((((((ig.st bw).st b6).st b7).st b8).st b9).st ca);have l3 := ((((df.sd ((kz.sos fw iv).sos c2 ef) 4 3 Z Z Z).so none (Gr.refl _ none) (by simp)).so none (Gr.refl _ none) (by simp)).so none (Gr.refl _ none) (by simp));have l4 := ((((df.sd ls 0 3 Z Z Z).so none (Gr.refl _ none) (by simp)).so none (Gr.refl _ none) (by simp)).so none (Gr.refl _ none) (by simp));have l5 := ((((df.sd (lp.sos c2 ef) 2 3 Z Z Z).so none (Gr.refl _ none) (by simp)).so none (Gr.refl _ none) (by simp)).so none (Gr.refl _ none) (by simp));have l6 := ((lt.so none (Gr.refl _ none) (by simp)).so none (Gr.refl _ none) (by simp));have l7 := (lu.so none (Gr.refl _ none) (by simp));have l8 := (((((iw.st b6).st b7).st b8).st b9).st ca);have l9 := (((((ix.st b6).st b7).st b8).st b9).st ca);have ma := (((((iy.st b6).st b7).st b8).st b9).st ca);have mb := ((k3.k0 fw).k0 c2);have mc := (lq.k0 c2);refine Ys (α := (List Str) × (Option Addr) × Nat × Nat × Int × (List Tag) × (Option Addr) × Nat × Nat) (fun (sv__ : (List Str) × (Option Addr) × Nat × Nat × Int × (List Tag) × (Option Addr) × Nat × Nat) t ap => match sv__ with | (xs4, ag, bz, b0, i2, xs5, ae, ax, ay) => db xs4 i2 xs5 ∧ Has t [(3, .pointer (some ⟨au, 0, none⟩)), (4, .pointer (some ⟨ai, 0, none⟩)), (5, .pointer (some ⟨av, 0, none⟩)), (6, .pointer (some ⟨aa, 0, none⟩)), (8, G ag bz b0), (11, .pointer (some ⟨ab, 0, none⟩)), (12, G ad bi bj), (13, vi i2)] ∧ Ct [] w0 ap [bk none, bk none, bk ae, bk ad, some ab, bk ac, bk ag, some aa] O ∧ Sl kPt ap (Fr ([bk none, bk none, bk ae, bk ad, some ab, bk ac, bk ag, some aa] ++ O)) (G a2 a3 a4) a.Shape.Pts ∧ Sl kTag ap (Fr ([bk none, bk none, bk ae, bk ad, some ab, bk ac, bk ag, some aa] ++ O)) (G am an ao) a.Tags ∧ Sl kPt ap (Fr ([bk none, bk none, bk ae, bk ad, some ab, bk ac, bk ag, some aa] ++ O)) (G bp bq br) b.Shape.Pts ∧ Sl kTag ap (Fr ([bk none, bk none, bk ae, bk ad, some ab, bk ac, bk ag, some aa] ++ O)) (G a5 a6 a7) b.Tags ∧ Sl kPt ap (Fr ([bk none, bk none, bk ae, bk ad, some ab, bk ac, bk ag, some aa] ++ O)) (G A2 n3 c4) o.Shape.Pts ∧ Sl kTag ap (Fr ([bk none, bk none, bk ae, bk ad, some ab, bk ac, bk ag, some aa] ++ O)) (G A7 n8 c9) o.Tags ∧ Ow Kd.str 9 ap ([bk none, bk none, bk ae, bk ad, some ab, bk ac, bk ag, some aa] ++ O) (G ag bz b0) xs4 ∧ Ow Kd.str 9 ap ([bk none, bk none, bk ae, bk ad, some ab, bk ac, bk ag, some aa] ++ O) (G ad bi bj) r4 ∧ Ow kPt 61 ap ([bk none, bk none, bk ae, bk ad, some ab, bk ac, bk ag, some aa] ++ O) (G ac ak al) r3.Pts ∧ Ow kTag 78 ap ([bk none, bk none, bk ae, bk ad, some ab, bk ac, bk ag, some aa] ++ O) (G ae ax ay) xs5 ∧ Ow kPt 61 ap ([bk none, bk none, bk ae, bk ad, some ab, bk ac, bk ag, some aa] ++ O) (G none 0 0) ([] : List Pt) ∧ Ow kTag 78 ap ([bk none, bk none, bk ae, bk ad, some ab, bk ac, bk ag, some aa] ++ O) (G none 0 0) ([] : List Tag) ∧ Fb ap ([bk none, bk none, bk ae, bk ad, some ab, bk ac, bk ag, some aa] ++ O) au [vs o.Id, vi o.Shape.Kind, G A2 n3 c4, G A7 n8 c9] ∧ Fb ap ([bk none, bk none, bk ae, bk ad, some ab, bk ac, bk ag, some aa] ++ O) ai [vs a.Id, vi a.Shape.Kind, G a2 a3 a4, G am an ao] ∧ Fb ap ([bk none, bk none, bk ae, bk ad, some ab, bk ac, bk ag, some aa] ++ O) av [vs b.Id, vi b.Shape.Kind, G bp bq br, G a5 a6 a7] ∧ Bx ap aa [vs ([] : Str), vi 0, G none 0 0, G none 0 0] ∧ Bx ap ab [vs a.Id, vi r3.Kind, G ac ak al, G ae ax ay]) (fun (sv__ : (List Str) × (Option Addr) × Nat × Nat × Int × (List Tag) × (Option Addr) × Nat × Nat) => match sv__ with | (xs4, _, _, _, i2, xs5, _, _, _) => d4 xs4 i2 xs5) (xs, aj, c8, da, 0, ([] : List Tag), none, 0, 0) ⟨fy, (Xw Z), lv, lx, ly, lz, l0, l1, l2, l3, l4, l5, l6, l7, lw, l8, l9, ma, mb, mc⟩ ?_;rintro ⟨xs4, ag, bz, b0, i2, xs5, ae, ax, ay⟩ _ ap ⟨fy, md, cv, fz, eg, i3, f0, i4, f1, f2, f3, eh, ei, i5, i6, me, i7, mf, ej, ek⟩;obtain ⟨rb, rfl⟩ := Has.ins md;have H := H xs4 i2 xs5 fy;refine Xc (Xc (Xe (Xd (vi i2) Z (Xd (G ad bi bj) Z ?_))));have rc := f3.le;refine Xa (X3 u34_ ad bi bj f3.len Z) (Xa (Xz i2 (r4.length : Int) (decide (i2 < (r4.length : Int))) Z Z Z) (Xb ?_));refine Xx (decide (i2 < (r4.length : Int))) Z (fun f4 => ?_) (fun f4 => ?_)
 ·have H := Xi H f4;refine X0 (Xc (X8 (Xc (Yy 18 [] (by kernel_rfl) Z fun mg bl bx => ?_))));have el := cv.k0 bl;refine Xq 0 Z (by kernel_rfl) bx (Xp fa28_2 ⟨au, 0, none⟩ ⟨au, 3, none⟩ Z Z) ?_;have bf := cv.stn bl;have f5 := (me.st bf);refine Xq 1 Z (by kernel_rfl) bx (Y6 ag26 cR ⟨au, 3, none⟩ (G A7 n8 c9) Z (f5.cell Z) nm_nil) ?_;refine Xq 2 Z (by kernel_rfl) bx (Xp fa28_2 ⟨ai, 0, none⟩ ⟨ai, 3, none⟩ Z Z) ?_;have f6 := (i7.st bf);refine Xq 3 Z (by kernel_rfl) bx (Y6 ag26 cR ⟨ai, 3, none⟩ (G am an ao) Z (f6.cell Z) nm_nil) ?_;refine Xq 4 Z (by kernel_rfl) bx (Xp fa28_2 ⟨av, 0, none⟩ ⟨av, 3, none⟩ Z Z) ?_;have f7 := (mf.st bf);refine Xq 5 Z (by kernel_rfl) bx (Y6 ag26 cR ⟨av, 3, none⟩ (G a5 a6 a7) Z (f7.cell Z) nm_nil) ?_;refine Xq 6 Z (by kernel_rfl) bx (Yc (G ad bi bj) Z) ?_;refine Xq 7 Z (by kernel_rfl) bx (Yc (vi i2) Z) ?_;obtain ⟨i8, H⟩ := H;have em := (f3.sn bl);obtain ⟨i9, rd, mh, mi, mj⟩ := em.get default (by decide) i2 i8;obtain ⟨rfl, ml⟩ := Kd.str.op mi;refine Xq 8 Z (by kernel_rfl) bx (X4 u34_ Zn ad i9 bi bj em.len i2 Z mh Z i8) ?_;refine Xq 9 Z (by kernel_rfl) bx (Y6 ag9 cR (i9.add (i2.toNat * 1)) (vs (nth r4 i2)) Z (mj 0 _ Z) nm_nil) ?_;refine Xu 10 (by kernel_rfl) Z ?_;refine Xt go110 [G A7 n8 c9, G am an ao, G a5 a6 a7, vs (nth r4 i2)] Z ((F118.calls mg el.ok o.Tags A7 n8 c9 (f1.st bf) a.Tags am an ao (eg.st bf) b.Tags a5 a6 a7 (f0.st bf) (nth r4 i2) ml _ H).mono ?_);rintro _ re ⟨r5, r6, r7, rfl, H, az, ja⟩;have f8 := el.k0 az;have ch := Gm.tm bx az;refine Xb ⟨ch, ?_⟩;refine Xq 11 Z (by kernel_rfl) ch (Yc (.tuple #[vs r5, vb r6, vb r7]) Z) ?_;refine Xq 12 Z (by kernel_rfl) ch (Yj [vs r5, vb r6, vb r7] 0 (vs r5) Z Z) ?_;refine Xq 13 Z (by kernel_rfl) ch (Yj [vs r5, vb r6, vb r7] 1 (vb r6) Z Z) ?_;refine Xq 14 Z (by kernel_rfl) ch (Yj [vs r5, vb r6, vb r7] 2 (vb r7) Z Z) ?_;refine Xq 15 Z (by kernel_rfl) ch (Y7 (vs r5) Z) ?_;refine Xq 16 Z (by kernel_rfl) ch (Y7 (vb r6) Z) ?_;refine Xq 17 Z (by kernel_rfl) ch (Y7 (vb r7) Z) ?_;refine Yf (by kernel_rfl) ?_;refine Xc (Xc (Xe (Xd (vb r7) Z (Xa (Yp r7 Z) (Xb ?_)))));obtain ⟨dc, H, mm⟩ := H;refine Y1 (J := (fun t a8 => ∃ (xs6 : List Str) (af : Option Addr) (ci : Nat) (cj : Nat), dc xs6 ∧ Has t [(3, .pointer (some ⟨au, 0, none⟩)), (4, .pointer (some ⟨ai, 0, none⟩)), (5, .pointer (some ⟨av, 0, none⟩)), (6, .pointer (some ⟨aa, 0, none⟩)), (8, G af ci cj), (11, .pointer (some ⟨ab, 0, none⟩)), (12, G ad bi bj), (13, vi i2), (14, vs r5), (15, vb r6)] ∧ Ct [] w0 a8 [bk none, bk none, bk ae, bk ad, some ab, bk ac, bk af, some aa] O ∧ Sl kPt a8 (Fr ([bk none, bk none, bk ae, bk ad, some ab, bk ac, bk af, some aa] ++ O)) (G a2 a3 a4) a.Shape.Pts ∧ Sl kTag a8 (Fr ([bk none, bk none, bk ae, bk ad, some ab, bk ac, bk af, some aa] ++ O)) (G am an ao) a.Tags ∧ Sl kPt a8 (Fr ([bk none, bk none, bk ae, bk ad, some ab, bk ac, bk af, some aa] ++ O)) (G bp bq br) b.Shape.Pts ∧ Sl kTag a8 (Fr ([bk none, bk none, bk ae, bk ad, some ab, bk ac, bk af, some aa] ++ O)) (G a5 a6 a7) b.Tags ∧ Sl kPt a8 (Fr ([bk none, bk none, bk ae, bk ad, some ab, bk ac, bk af, some aa] ++ O)) (G A2 n3 c4) o.Shape.Pts ∧ Sl kTag a8 (Fr ([bk none, bk none, bk ae, bk ad, some ab, bk ac, bk af, some aa] ++ O)) (G A7 n8 c9) o.Tags ∧ Ow Kd.str 9 a8 ([bk none, bk none, bk ae, bk ad, some ab, bk ac, bk af, some aa] ++ O) (G af ci cj) xs6 ∧ Ow Kd.str 9 a8 ([bk none, bk none, bk ae, bk ad, some ab, bk ac, bk af, some aa] ++ O) (G ad bi bj) r4 ∧ Ow kPt 61 a8 ([bk none, bk none, bk ae, bk ad, some ab, bk ac, bk af, some aa] ++ O) (G ac ak al) r3.Pts ∧ Ow kTag 78 a8 ([bk none, bk none, bk ae, bk ad, some ab, bk ac, bk af, some aa] ++ O) (G ae ax ay) xs5 ∧ Ow kPt 61 a8 ([bk none, bk none, bk ae, bk ad, some ab, bk ac, bk af, some aa] ++ O) (G none 0 0) ([] : List Pt) ∧ Ow kTag 78 a8 ([bk none, bk none, bk ae, bk ad, some ab, bk ac, bk af, some aa] ++ O) (G none 0 0) ([] : List Tag) ∧ Fb a8 ([bk none, bk none, bk ae, bk ad, some ab, bk ac, bk af, some aa] ++ O) au [vs o.Id, vi o.Shape.Kind, G A2 n3 c4, G A7 n8 c9] ∧ Fb a8 ([bk none, bk none, bk ae, bk ad, some ab, bk ac, bk af, some aa] ++ O) ai [vs a.Id, vi a.Shape.Kind, G a2 a3 a4, G am an ao] ∧ Fb a8 ([bk none, bk none, bk ae, bk ad, some ab, bk ac, bk af, some aa] ++ O) av [vs b.Id, vi b.Shape.Kind, G bp bq br, G a5 a6 a7] ∧ Bx a8 aa [vs ([] : Str), vi 0, G none 0 0, G none 0 0] ∧ Bx a8 ab [vs a.Id, vi r3.Kind, G ac ak al, G ae ax ay])) ?_ ?_
  ·refine Xx (!r7) Z (fun f9 => ?_) (fun f9 => ?_)
   ·have H := Xi H f9;refine Xe (Xd (G ag bz b0) Z (Xd (G ad bi bj) Z (Xd (vi i2) Z ?_)));obtain ⟨jb, H⟩ := H;have ga := (em.sn az);obtain ⟨jc, rf, mn, mo, mp⟩ := ga.get default (by decide) i2 jb;obtain ⟨rfl, rg⟩ := Kd.str.op mo;refine Xa (X4 u34_ Zn ad jc bi bj ga.len i2 Z mn Z jb) (Xa (Xr ag9 cL (jc.add (i2.toNat * 1)) (vs (nth r4 i2)) Z (mp 0 _ Z)) ?_);obtain ⟨jd, H⟩ := H;refine Xa (Z5 ([116, 97, 103, 32] : Str) (nth r4 i2) Z Z jd) (X9 (kd := Kd.str) Yu f8 ([(([116, 97, 103, 32] : Str) ++ (nth r4 i2))] : List Str) (cells := [vs (([116, 97, 103, 32] : Str) ++ (nth r4 i2))]) ⟨[vs (([116, 97, 103, 32] : Str) ++ (nth r4 i2))], _, Z, ⟨Z, (lim_cat jd)⟩, Z⟩ (fun _ => by kernel_rfl) fun rh mq mr ms cb hr2430 ck mt => ?_);obtain ⟨mu, H⟩ := H;have mv := (((f2.sn bl).sn az).so _ cb hr2430);refine Ye Yu ck (G ag bz b0) xs4 ([(([116, 97, 103, 32] : Str) ++ (nth r4 i2))] : List Str) Z mv (G mq mr ms) Z mt.sx 7 Z mu fun ri je jf jg cw bs cl mw => ?_;refine Xf (G je jf jg) Z (Xb ?_);have mx := cl.drop 0 Z;have cc := el.stn az;have cd := f8.stown _ cb hr2430;have ce := cl.std 0 Z;have my := (((((fz.st bf).st cc).st cd).st bs).st ce);have mz := (((((eg.st bf).st cc).st cd).st bs).st ce);have m0 := (((((i3.st bf).st cc).st cd).st bs).st ce);have m1 := (((((f0.st bf).st cc).st cd).st bs).st ce);have m2 := (((((i4.st bf).st cc).st cd).st bs).st ce);have m3 := (((((f1.st bf).st cc).st cd).st bs).st ce);have m4 := (cl.sd mw 7 0 Z Z Z);have m5 := (cl.sd (ck.sm (ga.so _ cb hr2430) 4 7 Z Z Z cw bs) 4 0 Z Z Z);have m6 := (cl.sd (ck.sm (((eh.sn bl).sn az).so _ cb hr2430) 6 7 Z Z Z cw bs) 6 0 Z Z Z);have m7 := (cl.sd (ck.sm (((ei.sn bl).sn az).so _ cb hr2430) 3 7 Z Z Z cw bs) 3 0 Z Z Z);have m8 := (cl.sd (ck.sm (((i5.sn bl).sn az).so _ cb hr2430) 2 7 Z Z Z cw bs) 2 0 Z Z Z);have m9 := (cl.sd (ck.sm (((i6.sn bl).sn az).so _ cb hr2430) 1 7 Z Z Z cw bs) 1 0 Z Z Z);have na := ((((f5.st cc).st cd).st bs).st ce);have nb := ((((f6.st cc).st cd).st bs).st ce);have nc := ((((f7.st cc).st cd).st bs).st ce);have nd := (ck.bm (((ej.k0 bl).k0 az).k0 cb) 8 7 Z Z Z cw);have ne := (ck.bm (((ek.k0 bl).k0 az).k0 cb) 5 7 Z Z Z cw);exact ⟨(xs4 ++ ([(([116, 97, 103, 32] : Str) ++ (nth r4 i2))] : List Str)), je, jf, jg, H, (Xw Z), mx, my, mz, m0, m1, m2, m3, m4, m5, m6, m7, m8, m9, na, nb, nc, nd, ne⟩
   have H := Xj H f9;refine X0 ?_;have cf := el.stn az;have nf := ((fz.st bf).st cf);have ng := ((eg.st bf).st cf);have nh := ((i3.st bf).st cf);have ni := ((f0.st bf).st cf);have nj := ((i4.st bf).st cf);have nk := ((f1.st bf).st cf);have nl := ((f2.sn bl).sn az);have nm := (em.sn az);have nn := ((eh.sn bl).sn az);have no := ((ei.sn bl).sn az);have np := ((i5.sn bl).sn az);have nq := ((i6.sn bl).sn az);have nr := (f5.st cf);have ns := (f6.st cf);have nt := (f7.st cf);have nu := ((ej.k0 bl).k0 az);have nv := ((ek.k0 bl).k0 az);exact ⟨xs4, ag, bz, b0, H, (Xw Z), f8, nf, ng, nh, ni, nj, nk, nl, nm, nn, no, np, nq, nr, ns, nt, nu, nv⟩
  rintro rj a8 ⟨xs6, af, ci, cj, nw, nx, en, gb, gc, gd, gf, gg, gh, gi, jh, gj, gk, gl, gm, gn, gp, gq, gs, gt⟩;obtain ⟨rk, rfl⟩ := Has.ins nx;have H := mm xs6 nw;refine Xc (Xe (Xd (vb r6) Z (Xb ?_)));obtain ⟨dd, H, ny⟩ := H;refine Y1 (J := (fun t a9 => ∃ (xs7 : List Tag) (a0 : Option Addr) (eo : Nat) (ep : Nat), dd xs7 ∧ Has t [(3, .pointer (some ⟨au, 0, none⟩)), (4, .pointer (some ⟨ai, 0, none⟩)), (5, .pointer (some ⟨av, 0, none⟩)), (6, .pointer (some ⟨aa, 0, none⟩)), (8, G af ci cj), (11, .pointer (some ⟨ab, 0, none⟩)), (12, G ad bi bj), (13, vi i2)] ∧ Ct [] w0 a9 [bk none, bk none, bk a0, bk ad, some ab, bk ac, bk af, some aa] O ∧ Sl kPt a9 (Fr ([bk none, bk none, bk a0, bk ad, some ab, bk ac, bk af, some aa] ++ O)) (G a2 a3 a4) a.Shape.Pts ∧ Sl kTag a9 (Fr ([bk none, bk none, bk a0, bk ad, some ab, bk ac, bk af, some aa] ++ O)) (G am an ao) a.Tags ∧ Sl kPt a9 (Fr ([bk none, bk none, bk a0, bk ad, some ab, bk ac, bk af, some aa] ++ O)) (G bp bq br) b.Shape.Pts ∧ Sl kTag a9 (Fr ([bk none, bk none, bk a0, bk ad, some ab, bk ac, bk af, some aa] ++ O)) (G a5 a6 a7) b.Tags ∧ Sl kPt a9 (Fr ([bk none, bk none, bk a0, bk ad, some ab, bk ac, bk af, some aa] ++ O)) (G A2 n3 c4) o.Shape.Pts ∧ Sl kTag a9 (Fr ([bk none, bk none, bk a0, bk ad, some ab, bk ac, bk af, some aa] ++ O)) (G A7 n8 c9) o.Tags ∧ Ow Kd.str 9 a9 ([bk none, bk none, bk a0, bk ad, some ab, bk ac, bk af, some aa] ++ O) (G af ci cj) xs6 ∧ Ow Kd.str 9 a9 ([bk none, bk none, bk a0, bk ad, some ab, bk ac, bk af, some aa] ++ O) (G ad bi bj) r4 ∧ Ow kPt 61 a9 ([bk none, bk none, bk a0, bk ad, some ab, bk ac, bk af, some aa] ++ O) (G ac ak al) r3.Pts ∧ Ow kTag 78 a9 ([bk none, bk none, bk a0, bk ad, some ab, bk ac, bk af, some aa] ++ O) (G a0 eo ep) xs7 ∧ Ow kPt 61 a9 ([bk none, bk none, bk a0, bk ad, some ab, bk ac, bk af, some aa] ++ O) (G none 0 0) ([] : List Pt) ∧ Ow kTag 78 a9 ([bk none, bk none, bk a0, bk ad, some ab, bk ac, bk af, some aa] ++ O) (G none 0 0) ([] : List Tag) ∧ Fb a9 ([bk none, bk none, bk a0, bk ad, some ab, bk ac, bk af, some aa] ++ O) au [vs o.Id, vi o.Shape.Kind, G A2 n3 c4, G A7 n8 c9] ∧ Fb a9 ([bk none, bk none, bk a0, bk ad, some ab, bk ac, bk af, some aa] ++ O) ai [vs a.Id, vi a.Shape.Kind, G a2 a3 a4, G am an ao] ∧ Fb a9 ([bk none, bk none, bk a0, bk ad, some ab, bk ac, bk af, some aa] ++ O) av [vs b.Id, vi b.Shape.Kind, G bp bq br, G a5 a6 a7] ∧ Bx a9 aa [vs ([] : Str), vi 0, G none 0 0, G none 0 0] ∧ Bx a9 ab [vs a.Id, vi r3.Kind, G ac ak al, G a0 eo ep])) ?_ ?_
  ·refine Xx r6 Z (fun gu => ?_) (fun gu => ?_)
   ·have H := Xi H gu;obtain ⟨ji, H⟩ := H;obtain ⟨jj, H⟩ := H;refine Y1 (J := (fun t ba => ∃ (a1 : Option Addr) (eq : Nat) (er : Nat), Has t [(3, .pointer (some ⟨au, 0, none⟩)), (4, .pointer (some ⟨ai, 0, none⟩)), (5, .pointer (some ⟨av, 0, none⟩)), (6, .pointer (some ⟨aa, 0, none⟩)), (8, G af ci cj), (11, .pointer (some ⟨ab, 0, none⟩)), (12, G ad bi bj), (13, vi i2)] ∧ Ct [] w0 ba [bk none, bk none, bk a1, bk ad, some ab, bk ac, bk af, some aa] O ∧ Sl kPt ba (Fr ([bk none, bk none, bk a1, bk ad, some ab, bk ac, bk af, some aa] ++ O)) (G a2 a3 a4) a.Shape.Pts ∧ Sl kTag ba (Fr ([bk none, bk none, bk a1, bk ad, some ab, bk ac, bk af, some aa] ++ O)) (G am an ao) a.Tags ∧ Sl kPt ba (Fr ([bk none, bk none, bk a1, bk ad, some ab, bk ac, bk af, some aa] ++ O)) (G bp bq br) b.Shape.Pts ∧ Sl kTag ba (Fr ([bk none, bk none, bk a1, bk ad, some ab, bk ac, bk af, some aa] ++ O)) (G a5 a6 a7) b.Tags ∧ Sl kPt ba (Fr ([bk none, bk none, bk a1, bk ad, some ab, bk ac, bk af, some aa] ++ O)) (G A2 n3 c4) o.Shape.Pts ∧ Sl kTag ba (Fr ([bk none, bk none, bk a1, bk ad, some ab, bk ac, bk af, some aa] ++ O)) (G A7 n8 c9) o.Tags ∧ Ow Kd.str 9 ba ([bk none, bk none, bk a1, bk ad, some ab, bk ac, bk af, some aa] ++ O) (G af ci cj) xs6 ∧ Ow Kd.str 9 ba ([bk none, bk none, bk a1, bk ad, some ab, bk ac, bk af, some aa] ++ O) (G ad bi bj) r4 ∧ Ow kPt 61 ba ([bk none, bk none, bk a1, bk ad, some ab, bk ac, bk af, some aa] ++ O) (G ac ak al) r3.Pts ∧ Ow kTag 78 ba ([bk none, bk none, bk a1, bk ad, some ab, bk ac, bk af, some aa] ++ O) (G a1 eq er) (xs5 ++ ([(⟨(nth r4 i2), r5⟩ : Tag)] : List Tag)) ∧ Ow kPt 61 ba ([bk none, bk none, bk a1, bk ad, some ab, bk ac, bk af, some aa] ++ O) (G none 0 0) ([] : List Pt) ∧ Ow kTag 78 ba ([bk none, bk none, bk a1, bk ad, some ab, bk ac, bk af, some aa] ++ O) (G none 0 0) ([] : List Tag) ∧ Fb ba ([bk none, bk none, bk a1, bk ad, some ab, bk ac, bk af, some aa] ++ O) au [vs o.Id, vi o.Shape.Kind, G A2 n3 c4, G A7 n8 c9] ∧ Fb ba ([bk none, bk none, bk a1, bk ad, some ab, bk ac, bk af, some aa] ++ O) ai [vs a.Id, vi a.Shape.Kind, G a2 a3 a4, G am an ao] ∧ Fb ba ([bk none, bk none, bk a1, bk ad, some ab, bk ac, bk af, some aa] ++ O) av [vs b.Id, vi b.Shape.Kind, G bp bq br, G a5 a6 a7] ∧ Bx ba aa [vs ([] : Str), vi 0, G none 0 0, G none 0 0] ∧ Bx ba ab [vs a.Id, vi r3.Kind, G ac ak al, G a1 eq er])) ?_ ?_
    ·refine Yy 12 [bk ae, some ab] (by kernel_rfl) Z fun rl bg b1 => ?_;have c3 := en.k0 bg;refine Xq 0 Z (by kernel_rfl) b1 (Xp fa28_2 ⟨ab, 0, none⟩ ⟨ab, 3, none⟩ Z Z) ?_;refine Xq 2 Z (by kernel_rfl) b1 (Yc (G ad bi bj) Z) ?_;refine Xq 3 Z (by kernel_rfl) b1 (Yc (vi i2) Z) ?_;have es := (jh.sn bg);obtain ⟨jk, rm, gw, nz, n0⟩ := es.get default (by decide) i2 ji;obtain ⟨rfl, jl⟩ := Kd.str.op nz;refine Xq 4 Z (by kernel_rfl) b1 (X4 u34_ Zn ad jk bi bj es.len i2 Z gw Z ji) ?_;refine Xq 5 Z (by kernel_rfl) b1 (Y6 ag9 cR (jk.add (i2.toNat * 1)) (vs (nth r4 i2)) Z (n0 0 _ Z) (nm_cons (by simp only [add_block]; exact (ow_ne c3 (j := 3) (i := 2) Z gw Z (by decide))) (nm_cons (by simp only [add_block]; exact (ow_ne c3 (j := 3) (i := 4) Z gw Z (by decide))) nm_nil))) ?_;refine Xq 6 Z (by kernel_rfl) b1 (Yc (vs r5) Z) ?_;refine Xq 7 Z (by kernel_rfl) b1 (Yl (.agg #[vs (nth r4 i2), vs r5]) (fun _ => by kernel_rfl)) ?_;refine Yv 1 8 (by kernel_rfl) Z Z ?_ ?_
     ·have jm := (gt.k0 bg);refine Xa (Xr ag26 cL ⟨ab, 3, none⟩ (G ae ax ay) Z (jm.cell Z)) ?_;refine Xb ⟨b1, ?_⟩;refine Xu 8 (by kernel_rfl) Z ?_;refine X9 (kd := kTag) Ym c3 ([(⟨(nth r4 i2), r5⟩ : Tag)] : List Tag) (cells := [vs (nth r4 i2), vs r5]) ⟨[vs (nth r4 i2), vs r5], _, Z, (kTag.mk _ _ (⟨(nth r4 i2), r5⟩ : Tag) jl ja), Z⟩ (fun _ => by kernel_rfl) fun rn jn n1 n2 b2 hr2540 cm n4 => ?_;have gx := Gm.tm b1 b2;refine Xb ⟨gx, ?_⟩;refine Xu 9 (by kernel_rfl) Z ?_;have gy := ((gk.sn bg).so _ b2 hr2540);refine Ye Ym cm (G ae ax ay) xs5 ([(⟨(nth r4 i2), r5⟩ : Tag)] : List Tag) Z gy (G jn n1 n2) Z n4.sx 3 Z jj fun n5 cx cy cz bn ah aq gz => ?_;have c0 := Gm.tq gx bn (hv_mem 0 Z);have n6 := hv_app (L := [bk jn, bk none, bk none, bk ae, bk ad, some ab, bk ac, bk af, some aa]) (O := O) (i := 3) gx Z (hv_mem 0 Z) ah aq;refine Xb ⟨c0, ?_⟩;refine Xq 10 Z (by kernel_rfl) c0 (Xp fa28_2 ⟨ab, 0, none⟩ ⟨ab, 3, none⟩ Z Z) ?_;refine Xu 11 (by kernel_rfl) Z ?_;have g1 := (cm.bm (jm.k0 b2) 5 3 Z Z Z bn);refine Xv ab 3 [vs a.Id, vi r3.Kind, G ac ak al, G ae ax ay] [G cx cy cz] [vs a.Id, vi r3.Kind, G ac ak al, G cx cy cz] Z g1 Z sz26 Z Z Z fun n7 ar g2 => ?_;have bo := aq.wr 5 Z ar;have g3 := Gm.tq c0 ar (hv_mem 1 Z);refine Xb ⟨g3, ?_⟩;refine Yf (by kernel_rfl) ?_;have g4 := bo.drop 0 Z;have bb := en.stn bg;have bc := c3.stown _ b2 hr2540;have bd := aq.stw 5 Z ar;have be := bo.std 0 Z;have g5 := (((((gb.st bb).st bc).st ah).st bd).st be);have g6 := (((((gc.st bb).st bc).st ah).st bd).st be);have g7 := (((((gd.st bb).st bc).st ah).st bd).st be);have g8 := (((((gf.st bb).st bc).st ah).st bd).st be);have g9 := (((((gg.st bb).st bc).st ah).st bd).st be);have ha := (((((gh.st bb).st bc).st ah).st bd).st be);have hb := (bo.sd (aq.sw (cm.sm ((gi.sn bg).so _ b2 hr2540) 7 3 Z Z Z bn ah) 7 5 Z Z Z ar) 7 0 Z Z Z);have hc := (bo.sd (aq.sw (cm.sm (es.so _ b2 hr2540) 4 3 Z Z Z bn ah) 4 5 Z Z Z ar) 4 0 Z Z Z);have hd := (bo.sd (aq.sw (cm.sm ((gj.sn bg).so _ b2 hr2540) 6 3 Z Z Z bn ah) 6 5 Z Z Z ar) 6 0 Z Z Z);have he := (bo.sd (aq.sw gz 3 5 Z Z Z ar) 3 0 Z Z Z);have hf := (bo.sd (aq.sw (cm.sm ((gl.sn bg).so _ b2 hr2540) 2 3 Z Z Z bn ah) 2 5 Z Z Z ar) 2 0 Z Z Z);have hg := (bo.sd (aq.sw (cm.sm ((gm.sn bg).so _ b2 hr2540) 1 3 Z Z Z bn ah) 1 5 Z Z Z ar) 1 0 Z Z Z);have hh := (((((gn.st bb).st bc).st ah).st bd).st be);have hi := (((((gp.st bb).st bc).st ah).st bd).st be);have hj := (((((gq.st bb).st bc).st ah).st bd).st be);have hk := (aq.bm (cm.bm ((gs.k0 bg).k0 b2) 8 3 Z Z Z bn) 8 5 Z Z Z ar);have hl := g2;exact ⟨cx, cy, cz, (Xw Z), g4, g5, g6, g7, g8, g9, ha, hb, hc, hd, he, hf, hg, hh, hi, hj, hk, hl⟩
     refine X9 (kd := kTag) Ym c3 ([(⟨(nth r4 i2), r5⟩ : Tag)] : List Tag) (cells := [vs (nth r4 i2), vs r5]) ⟨[vs (nth r4 i2), vs r5], _, Z, (kTag.mk _ _ (⟨(nth r4 i2), r5⟩ : Tag) jl ja), Z⟩ (fun _ => by kernel_rfl) fun ro jo n9 oa b3 hr2539 cn ob => ?_;have et := Gm.tm b1 b3;refine Xb ⟨et, ?_⟩;refine Xu 1 (by kernel_rfl) Z ?_;have jp := ((gt.k0 bg).k0 b3);refine Xa (Xr ag26 cL ⟨ab, 3, none⟩ (G ae ax ay) Z (jp.cell Z)) ?_;refine Xb ⟨et, ?_⟩;refine Xu 9 (by kernel_rfl) Z ?_;have gy := ((gk.sn bg).so _ b3 hr2539);refine Ye Ym cn (G ae ax ay) xs5 ([(⟨(nth r4 i2), r5⟩ : Tag)] : List Tag) Z gy (G jo n9 oa) Z ob.sx 3 Z jj fun n5 cx cy cz bn ah aq gz => ?_;have c0 := Gm.tq et bn (hv_mem 0 Z);have n6 := hv_app (L := [bk jo, bk none, bk none, bk ae, bk ad, some ab, bk ac, bk af, some aa]) (O := O) (i := 3) et Z (hv_mem 0 Z) ah aq;refine Xb ⟨c0, ?_⟩;refine Xq 10 Z (by kernel_rfl) c0 (Xp fa28_2 ⟨ab, 0, none⟩ ⟨ab, 3, none⟩ Z Z) ?_;refine Xu 11 (by kernel_rfl) Z ?_;have g1 := (cn.bm jp 5 3 Z Z Z bn);refine Xv ab 3 [vs a.Id, vi r3.Kind, G ac ak al, G ae ax ay] [G cx cy cz] [vs a.Id, vi r3.Kind, G ac ak al, G cx cy cz] Z g1 Z sz26 Z Z Z fun n7 ar g2 => ?_;have bo := aq.wr 5 Z ar;have g3 := Gm.tq c0 ar (hv_mem 1 Z);refine Xb ⟨g3, ?_⟩;refine Yf (by kernel_rfl) ?_;have g4 := bo.drop 0 Z;have bb := en.stn bg;have bc := c3.stown _ b3 hr2539;have bd := aq.stw 5 Z ar;have be := bo.std 0 Z;have g5 := (((((gb.st bb).st bc).st ah).st bd).st be);have g6 := (((((gc.st bb).st bc).st ah).st bd).st be);have g7 := (((((gd.st bb).st bc).st ah).st bd).st be);have g8 := (((((gf.st bb).st bc).st ah).st bd).st be);have g9 := (((((gg.st bb).st bc).st ah).st bd).st be);have ha := (((((gh.st bb).st bc).st ah).st bd).st be);have hb := (bo.sd (aq.sw (cn.sm ((gi.sn bg).so _ b3 hr2539) 7 3 Z Z Z bn ah) 7 5 Z Z Z ar) 7 0 Z Z Z);have hc := (bo.sd (aq.sw (cn.sm (es.so _ b3 hr2539) 4 3 Z Z Z bn ah) 4 5 Z Z Z ar) 4 0 Z Z Z);have hd := (bo.sd (aq.sw (cn.sm ((gj.sn bg).so _ b3 hr2539) 6 3 Z Z Z bn ah) 6 5 Z Z Z ar) 6 0 Z Z Z);have he := (bo.sd (aq.sw gz 3 5 Z Z Z ar) 3 0 Z Z Z);have hf := (bo.sd (aq.sw (cn.sm ((gl.sn bg).so _ b3 hr2539) 2 3 Z Z Z bn ah) 2 5 Z Z Z ar) 2 0 Z Z Z);have hg := (bo.sd (aq.sw (cn.sm ((gm.sn bg).so _ b3 hr2539) 1 3 Z Z Z bn ah) 1 5 Z Z Z ar) 1 0 Z Z Z);have hh := (((((gn.st bb).st bc).st ah).st bd).st be);have hi := (((((gp.st bb).st bc).st ah).st bd).st be);have hj := (((((gq.st bb).st bc).st ah).st bd).st be);have hk := (aq.bm (cn.bm ((gs.k0 bg).k0 b3) 8 3 Z Z Z bn) 8 5 Z Z Z ar);have hl := g2;exact ⟨cx, cy, cz, (Xw Z), g4, g5, g6, g7, g8, g9, ha, hb, hc, hd, he, hf, hg, hh, hi, hj, hk, hl⟩
    rintro rp ba ⟨a1, eq, er, oc, od, oe, og, oh, oi, oj, ol, om, on, oo, oq, os, ot, ou, ov, ow, ox, oy⟩;obtain ⟨rq, rfl⟩ := Has.ins oc;exact ⟨(xs5 ++ ([(⟨(nth r4 i2), r5⟩ : Tag)] : List Tag)), a1, eq, er, H, (Xw Z), od, oe, og, oh, oi, oj, ol, om, on, oo, oq, os, ot, ou, ov, ow, ox, oy⟩
   have H := Xj H gu;exact X0 ⟨xs5, ae, ax, ay, H, (Xw Z), en, gb, gc, gd, gf, gg, gh, gi, jh, gj, gk, gl, gm, gn, gp, gq, gs, gt⟩
  rintro rr a9 ⟨xs7, a0, eo, ep, oz, o0, o1, o2, o3, o4, o5, o6, o7, o8, o9, pa, pb, pd, pe, pf, pg, ph, pi, pj⟩;obtain ⟨rs, rfl⟩ := Has.ins o0;have H := ny xs7 oz;refine Xe (Xd (vi i2) Z ?_);obtain ⟨pk, H⟩ := H;refine Xa (X6 i2 1 Z Z pk) (Xf (vi (i2 + 1)) Z (Xb ?_));obtain ⟨pl, pm⟩ := H;exact ⟨(xs6, af, ci, cj, i2 + 1, xs7, a0, eo, ep), pm, pl, (Xw Z), o1, o2, o3, o4, o5, o6, o7, o8, o9, pa, pb, pd, pe, pf, pg, ph, pi, pj⟩
 have H := Xj H f4;refine Yq (xin_hit ?_);refine Xc (Xc (Xe (Xa (Xs ag28 sz28 cL ⟨ab, 0, none⟩ [vs a.Id, vi r3.Kind, G ac ak al, G ae ax ay] Z Z (ek.cells (off := 0) Z)) ?_)));have pn := cv.gv eh 5 Z;have hm := cv.drop 5 Z;have po := (cv.sd ei 2 5 Z Z Z);have pp := hm.gv po 2 Z;have pq : Ct [] w0 ap [bk none, bk none, bk ad, some ab, bk ag, some aa] O := hm.drop 2 Z;have pr := hm.std 2 Z;refine Xt go13 [.agg #[vs a.Id, vi r3.Kind, G ac ak al, G ae ax ay]] Z ((F84.calls ap pq.ok (⟨a.Id, r3, xs5⟩ : Feat) ac ak al ae ax ay e3 (pn.st pr) pp _ H).mono ?_);rintro _ ps ⟨r8, rfl, H, co⟩;have dg := cv.k0 co;refine Xa (Yp r8 Z) (Xb ?_);refine Xx (!r8) Z (fun hn => ?_) (fun hn => ?_)
 ·have H := Xi H hn;refine Xc ?_;have eu : ([bk none, bk none, bk ae, bk ad, some ab, bk ac, bk ag, some aa] : Ob).Perm ((bk ae :: bk ad :: some ab :: bk ac :: bk ag :: []) ++ [bk none, bk none, some aa]) := (pc fun a => by (try simp only [pca, pcc, pcn, Nat.add_zero, Nat.zero_add]); first | done | ac_rfl);have jq := dg.drops eu;refine Xe ?_;have ho := cv.stn co;have pt := ((i7.st ho).st (St.drops _ O eu));refine Xa (Xs ag28 sz28 cL ⟨ai, 0, none⟩ [vs a.Id, vi a.Shape.Kind, G a2 a3 a4, G am an ao] Z Z (pt.cells (off := 0) Z)) ?_;have pu := ((fz.st ho).st (St.drops _ O eu));have pv := ((eg.st ho).st (St.drops _ O eu));refine Xt go42 [.agg #[vs a.Id, vi a.Shape.Kind, G a2 a3 a4, G am an ao]] Z ((F80.calls ps jq.ok a a2 a3 a4 am an ao e3 pu pv _ H).mono ?_);rintro _ pw ⟨r9, c5, ev, ew, c6, ex, ey, rfl, H, jr, px, py, pz, p0, p1⟩;have p2 : Ct [] w0 pw [bk c5, bk c6, bk none, bk none, some aa] O := jq.owns jr px py;refine X9 (kd := Kd.str) Yu p2 ([([109, 117, 99, 104] : Str)] : List Str) (cells := [vs ([109, 117, 99, 104] : Str)]) ⟨[vs ([109, 117, 99, 104] : Str)], _, Z, ⟨Z, (by decide : Lim ([109, 117, 99, 104] : Str))⟩, Z⟩ (fun _ => by kernel_rfl) fun rt ez hp hq hr hr4606 e0 p3 => ?_;have p4 := (((ej.k0 co).k0 jr).k0 hr);refine Xv aa 0 [vs ([] : Str), vi 0, G none 0 0, G none 0 0] [vs r9.Id, vi r9.Shape.Kind, G c5 ev ew, G c6 ex ey] [vs r9.Id, vi r9.Shape.Kind, G c5 ev ew, G c6 ex ey] Z p4 Z sz28 Z Z Z fun p5 e1 p6 => ?_;have dh := e0.wr 5 Z e1;refine Xf (G ez hp hq) Z (Xb (Xk ?_));have p7 := dh.bgv p6 5 Z;have di := dh.drop 5 Z;have dj := di.drop 3 Z;have dk : Ct [] w0 p5 [bk ez, bk c5, bk c6] O := dj.drop 3 Z;have dl := dk.perm (.swap _ _ _);have hs := dl.perm (.cons _ (.swap _ _ _));have p8 := di.std 3 Z;have p9 := dj.std 3 Z;have qa := dk.stp (.swap _ _ _);have qb := dl.stp (.cons _ (.swap _ _ _));have qc := ((((p7.st p8).st p9).st qa).st qb);have qd := (dl.sp (dk.sp (dj.sd (di.sd (dh.sd (e0.sw (p0.so _ hr hr4606) 1 5 Z Z Z e1) 1 5 Z Z Z) 1 3 Z Z Z) 1 3 Z Z Z) (.swap _ _ _)) (.cons _ (.swap _ _ _)));have qe := (dl.sp (dk.sp (dj.sd (di.sd (dh.sd (e0.sw (p1.so _ hr hr4606) 2 5 Z Z Z e1) 2 5 Z Z Z) 2 3 Z Z Z) 2 3 Z Z Z) (.swap _ _ _)) (.cons _ (.swap _ _ _)));have qf := (dl.sp (dk.sp (dj.sd (di.sd (dh.sd (e0.sw p3 0 5 Z Z Z e1) 0 5 Z Z Z) 0 3 Z Z Z) 0 3 Z Z Z) (.swap _ _ _)) (.cons _ (.swap _ _ _)));exact ⟨[.agg #[vs r9.Id, vi r9.Shape.Kind, G c5 ev ew, G c6 ex ey], G ez hp hq], ⟨_, _, Z, qc.1.res Z ag28 sz28, ⟨_, Z, Z⟩⟩, r9, ([([109, 117, 99, 104] : Str)] : List Str), c5, ev, ew, c6, ex, ey, ez, hp, hq, Z, H, hs.gr.g0, hs.ok, hs.ge, pz, qd, qe, qf⟩
 have H := Xj H hn;refine X0 (Xc (Xe ?_));have qg := (ek.k0 co);refine Xa (Xs ag28 sz28 cL ⟨ab, 0, none⟩ [vs a.Id, vi r3.Kind, G ac ak al, G ae ax ay] Z Z (qg.cells (off := 0) Z)) (Xd (G ag bz b0) Z ?_);have qh := (ej.k0 co);refine Xv aa 0 [vs ([] : Str), vi 0, G none 0 0, G none 0 0] [vs a.Id, vi r3.Kind, G ac ak al, G ae ax ay] [vs a.Id, vi r3.Kind, G ac ak al, G ae ax ay] Z qh Z sz28 Z Z Z fun js e2 qi => ?_;have dm := dg.wr 7 Z e2;refine Xf (G ag bz b0) Z (Xb (Xk ?_));have qj := dm.bgv qi 7 Z;have dn := dm.drop 7 Z;have dp : Ct [] w0 js [bk none, bk ae, bk ad, some ab, bk ac, bk ag] O := dn.drop 0 Z;have dq := dp.drop 0 Z;have dr := dq.drop 1 Z;have ds : Ct [] w0 js [bk ae, bk ac, bk ag] O := dr.drop 1 Z;have ht := ds.perm (.swap _ _ _);have qk := dn.std 0 Z;have ql := dp.std 0 Z;have qm := dq.std 1 Z;have qn := dr.std 1 Z;have qo := ds.stp (.swap _ _ _);have qp := (((((qj.st qk).st ql).st qm).st qn).st qo);have qq := (ds.sp (dr.sd (dq.sd (dp.sd (dn.sd (dm.sd (dg.sw (eh.sn co) 5 7 Z Z Z e2) 5 7 Z Z Z) 5 0 Z Z Z) 4 0 Z Z Z) 3 1 Z Z Z) 2 1 Z Z Z) (.swap _ _ _));have qr := (ds.sp (dr.sd (dq.sd (dp.sd (dn.sd (dm.sd (dg.sw (ei.sn co) 2 7 Z Z Z e2) 2 7 Z Z Z) 2 0 Z Z Z) 1 0 Z Z Z) 0 1 Z Z Z) 0 1 Z Z Z) (.swap _ _ _));have qs := (ds.sp (dr.sd (dq.sd (dp.sd (dn.sd (dm.sd (dg.sw (f2.sn co) 6 7 Z Z Z e2) 6 7 Z Z Z) 6 0 Z Z Z) 5 0 Z Z Z) 4 1 Z Z Z) 3 1 Z Z Z) (.swap _ _ _));exact ⟨[.agg #[vs a.Id, vi r3.Kind, G ac ak al, G ae ax ay], G ag bz b0], ⟨_, _, Z, qp.1.res Z ag28 sz28, ⟨_, Z, Z⟩⟩, (⟨a.Id, r3, xs5⟩ : Feat), xs4, ac, ak, al, ae, ax, ay, ag, bz, b0, Z, H, ht.gr.g0, ht.ok, ht.ge, e3, qq, qr, qs⟩
end
section
open Go.RowKit
def F54.E (base_ : Feat) (a : Feat) (b : Feat) (Q : Feat → List Str → Prop) : Prop :=
 F84.E base_ (fun r => (if !r then Q (⟨([] : Str), (⟨0, ([] : List Pt)⟩ : Shape), ([] : List Tag)⟩ : Feat) ([] : List Str) else F84.E a (fun r2 => (if !r2 then Q (⟨([] : Str), (⟨0, ([] : List Pt)⟩ : Shape), ([] : List Tag)⟩ : Feat) ([] : List Str) else F84.E b (fun r3 => (if !r3 then Q (⟨([] : Str), (⟨0, ([] : List Pt)⟩ : Shape), ([] : List Tag)⟩ : Feat) ([] : List Str) else (if a.Id != base_.Id then Q (⟨([] : Str), (⟨0, ([] : List Pt)⟩ : Shape), ([] : List Tag)⟩ : Feat) ([] : List Str) else (if b.Id != base_.Id then Q (⟨([] : Str), (⟨0, ([] : List Pt)⟩ : Shape), ([] : List Tag)⟩ : Feat) ([] : List Str) else F95.E base_ a b (fun r4 r5 => Q r4 r5)))))))))
theorem F54.calls {O : Ob} (w0 : World) (hO : Ok w0 O) (base_ : Feat) (A2 : Option Addr) (n3 c4 : Nat) (A7 : Option Addr) (n8 c9 : Nat) (hs1 : Lim base_.Id) (hp5 : Sl kPt w0 (Fr O) (G A2 n3 c4) base_.Shape.Pts) (cl : Sl kTag w0 (Fr O) (G A7 n8 c9) base_.Tags) (a : Feat) (ag : Option Addr) (ah ai : Nat) (aj : Option Addr) (ak al : Nat) (cm : Lim a.Id) (cn : Sl kPt w0 (Fr O) (G ag ah ai) a.Shape.Pts) (co : Sl kTag w0 (Fr O) (G aj ak al) a.Tags) (b : Feat) (am : Option Addr) (an ao : Nat) (ap : Option Addr) (aq ar : Nat) (cp : Lim b.Id) (cq : Sl kPt w0 (Fr O) (G am an ao) b.Shape.Pts) (cr : Sl kTag w0 (Fr O) (G ap aq ar) b.Tags) (Q : Feat → List Str → Prop) (h : F54.E base_ a b Q) :
  Ret Tryz.prog 16 [.agg #[vs base_.Id, vi base_.Shape.Kind, G A2 n3 c4, G A7 n8 c9], .agg #[vs a.Id, vi a.Shape.Kind, G ag ah ai, G aj ak al], .agg #[vs b.Id, vi b.Shape.Kind, G am an ao, G ap aq ar]] w0 (fun v w' => ∃ (r0 : Feat) (r1 : List Str) (Aw0 : Option Addr) (nw0 cw0 : Nat) (Aw2 : Option Addr) (nw2 cw2 : Nat) (Aw4 : Option Addr) (nw4 cw4 : Nat), v = .tuple #[.agg #[vs r0.Id, vi r0.Shape.Kind, G Aw0 nw0 cw0, G Aw2 nw2 cw2], G Aw4 nw4 cw4] ∧ Q r0 r1 ∧ Gr w0 w' none ∧ Ok w' ([bk Aw0, bk Aw2, bk Aw4] ++ O) ∧ (∀ b, some b ∈ [bk Aw0, bk Aw2, bk Aw4] → w0.heap.size ≤ b) ∧ Lim r0.Id ∧ Ow kPt 61 w' ([bk Aw0, bk Aw2, bk Aw4] ++ O) (G Aw0 nw0 cw0) r0.Shape.Pts ∧ Ow kTag 78 w' ([bk Aw0, bk Aw2, bk Aw4] ++ O) (G Aw2 nw2 cw2) r0.Tags ∧ Ow Kd.str 9 w' ([bk Aw0, bk Aw2, bk Aw4] ++ O) (G Aw4 nw4 cw4) r1) := by
 unfold F54.E at h;have H := h;clear h;have hc0 := Ct.init hO;refine Yd Tryz.func16 Z 43 Z [.cell 6 28, .tmp 7] Z Z ?_;refine Xc (Xe (Yk [vs base_.Id, vi base_.Shape.Kind, G A2 n3 c4, G A7 n8 c9] Z fun gi au dm hu38 dn dp => ?_));have dq := Fb.mk hc0.ok dm dp;have bw := hc0.k0 dn;refine Yk [vs a.Id, vi a.Shape.Kind, G ag ah ai, G aj ak al] Z fun gj ba dr hu47 cs ds => ?_;have dt := Fb.mk bw.ok dr ds;have bx := bw.k0 cs;refine Yk [vs b.Id, vi b.Shape.Kind, G am an ao, G ap aq ar] Z fun gk bb du hu56 ct dv => ?_;have dw := Fb.mk bx.ok du dv;have cu := bx.k0 ct;refine Yb [vs [], .int .i64 0, G none 0 0, G none 0 0] ze28 fun dx aa cv hu65 cw a3 => ?_;have bc := cu.own cw (some aa) (Ya cv hu65);refine Xf (G none 0 0) Z (Xb (Xc (Xc (Xe ?_))));have dy := bw.stn cs;have cx := bx.stn ct;have bz := cu.stown _ cw (Xg cv);have cy := (((dq.st dy).st cx).st bz);refine Xa (Xs ag28 sz28 cL ⟨au, 0, none⟩ [vs base_.Id, vi base_.Shape.Kind, G A2 n3 c4, G A7 n8 c9] Z Z (cy.cells (off := 0) Z)) ?_;refine Xt go13 [.agg #[vs base_.Id, vi base_.Shape.Kind, G A2 n3 c4, G A7 n8 c9]] Z ((F84.calls dx bc.ok base_ A2 n3 c4 A7 n8 c9 hs1 (hp5.st bc.st) (cl.st bc.st) _ H).mono ?_);rintro _ dz ⟨r, rfl, H, av⟩;have a4 := bc.k0 av;refine Xa (Yp r Z) (Xd (vb (!r)) Z ?_);rcases X7 (!r) with ad | ad
 ·have H := Xi H ad;refine Xn ad Z (Xn ad Z (Xn ad Z (Xa (Xo true (vb true) ad Z) (Xd (vb true) Z (Xl (dj := 16) Z Z (.inl Z) (Xl (dj := 16) Z Z (.inl Z) (Xl (dj := 16) Z Z (.inl Z) (Xa (Xo true (vb true) Z Z) ?_))))))));refine Xd (vb true) Z (Xl (dj := 21) Z Z (.inl Z) (Xl (dj := 21) Z Z (.inl Z) (Xl (dj := 21) Z Z (.inl Z) (Xl (dj := 21) Z Z (.inl Z) (Xl (dj := 21) Z Z (.inl Z) (Xa (Xo true (vb true) Z Z) (Xd (vb true) Z (Xl (dj := 28) Z Z (.inl Z) ?_))))))));refine Xl (dj := 28) Z Z (.inl Z) (Xl (dj := 28) Z Z (.inl Z) (Xl (dj := 28) Z Z (.inl Z) (Xl (dj := 28) Z Z (.inl Z) (Xa (Xo true (vb true) Z Z) (Xb (Yn (b := true) Z Z ?_))))));refine Xc (Xe (Xa (Yl (.agg #[vs ([] : Str), vi 0, G none 0 0, G none 0 0]) (fun _ => by kernel_rfl)) (X9 (kd := Kd.str) Yu a4 ([] : List Str) (cells := []) Z (fun _ => by kernel_rfl) fun gl bd b0 b1 d0 hr85 cz d1 => ?_)));have d2 := ((a3.k0 av).k0 d0);refine Xv aa 0 [vs ([] : Str), vi 0, G none 0 0, G none 0 0] [vs ([] : Str), vi 0, G none 0 0, G none 0 0] [vs ([] : Str), vi 0, G none 0 0, G none 0 0] Z d2 Z sz28 Z Z Z fun c0 c1 d3 => ?_;have d4 := cz.wr 1 Z c1;refine Xf (G bd b0 b1) Z (Xb (Xk ?_));have d5 := d4.own (Gr.refl _ none) none (by simp);have d6 : Ow kPt 61 c0 ([bk none, bk bd, some aa] ++ O) (G none 0 0) [] := Ow.nil _ _ _ _;have be := d5.own (Gr.refl _ none) none (by simp);have d7 : Ow kTag 78 c0 ([bk none, bk none, bk bd, some aa] ++ O) (G none 0 0) [] := Ow.nil _ _ _ _;have d8 := d3;have d9 := be.bgv d8 3 Z;have bf := be.drop 3 Z;have b2 := bf.perm (.swap _ _ _);have ea := bf.stp (.swap _ _ _);have eb := (d9.st ea);have ec := (bf.sp (be.sd (d6.so none (Gr.refl _ none) (by simp)) 1 3 Z Z Z) (.swap _ _ _));have ed := (bf.sp (be.sd d7 0 3 Z Z Z) (.swap _ _ _));have ee := (bf.sp (be.sd (((cz.sw d1 0 1 Z Z Z c1).so none (Gr.refl _ none) (by simp)).so none (Gr.refl _ none) (by simp)) 2 3 Z Z Z) (.swap _ _ _));exact ⟨[.agg #[vs ([] : Str), vi 0, G none 0 0, G none 0 0], G bd b0 b1], ⟨_, _, Z, eb.1.res Z ag28 sz28, ⟨_, Z, Z⟩⟩, (⟨([] : Str), (⟨0, ([] : List Pt)⟩ : Shape), ([] : List Tag)⟩ : Feat), ([] : List Str), none, 0, 0, none, 0, 0, bd, b0, b1, Z, H, b2.gr.g0, b2.ok, b2.ge, (by decide), ec, ed, ee⟩
 have H := Xj H ad;refine Xm ad Z ?_;have b3 := bc.stn av;have c2 := (((dt.st cx).st bz).st b3);refine Xa (Xs ag28 sz28 cL ⟨ba, 0, none⟩ [vs a.Id, vi a.Shape.Kind, G ag ah ai, G aj ak al] Z Z (c2.cells (off := 0) Z)) (Xm ad Z ?_);refine Xt go13 [.agg #[vs a.Id, vi a.Shape.Kind, G ag ah ai, G aj ak al]] Z ((F84.calls dz a4.ok a ag ah ai aj ak al cm (cn.st a4.st) (co.st a4.st) _ H).mono ?_);rintro _ ef ⟨r2, rfl, H, aw⟩;have a5 := a4.k0 aw;refine Xm ad Z (Xa (Yp r2 Z) (Xa (Xo false (vb (!r2)) ad Z) (Xd (vb (!r2)) Z ?_)));rcases X7 (!r2) with ae | ae
 ·have H := Xi H ae;refine Xn ae Z (Xn ae Z (Xn ae Z (Xa (Xo true (vb true) ae Z) (Xd (vb true) Z (Xl (dj := 21) Z Z (.inl Z) (Xl (dj := 21) Z Z (.inl Z) (Xl (dj := 21) Z Z (.inl Z) (Xl (dj := 21) Z Z (.inl Z) ?_))))))));refine Xl (dj := 21) Z Z (.inl Z) (Xa (Xo true (vb true) Z Z) (Xd (vb true) Z (Xl (dj := 28) Z Z (.inl Z) (Xl (dj := 28) Z Z (.inl Z) (Xl (dj := 28) Z Z (.inl Z) (Xl (dj := 28) Z Z (.inl Z) (Xl (dj := 28) Z Z (.inl Z) (Xa (Xo true (vb true) Z Z) ?_))))))));refine Xb (Yn (b := true) Z Z ?_);refine Xc (Xe (Xa (Yl (.agg #[vs ([] : Str), vi 0, G none 0 0, G none 0 0]) (fun _ => by kernel_rfl)) (X9 (kd := Kd.str) Yu a5 ([] : List Str) (cells := []) Z (fun _ => by kernel_rfl) fun gm bg b4 b5 eg hr123 c3 eh => ?_)));have ei := (((a3.k0 av).k0 aw).k0 eg);refine Xv aa 0 [vs ([] : Str), vi 0, G none 0 0, G none 0 0] [vs ([] : Str), vi 0, G none 0 0, G none 0 0] [vs ([] : Str), vi 0, G none 0 0, G none 0 0] Z ei Z sz28 Z Z Z fun c5 c6 ej => ?_;have ek := c3.wr 1 Z c6;refine Xf (G bg b4 b5) Z (Xb (Xk ?_));have el := ek.own (Gr.refl _ none) none (by simp);have em : Ow kPt 61 c5 ([bk none, bk bg, some aa] ++ O) (G none 0 0) [] := Ow.nil _ _ _ _;have bh := el.own (Gr.refl _ none) none (by simp);have en : Ow kTag 78 c5 ([bk none, bk none, bk bg, some aa] ++ O) (G none 0 0) [] := Ow.nil _ _ _ _;have eo := ej;have ep := bh.bgv eo 3 Z;have bi := bh.drop 3 Z;have b6 := bi.perm (.swap _ _ _);have eq := bi.stp (.swap _ _ _);have er := (ep.st eq);have es := (bi.sp (bh.sd (em.so none (Gr.refl _ none) (by simp)) 1 3 Z Z Z) (.swap _ _ _));have et := (bi.sp (bh.sd en 0 3 Z Z Z) (.swap _ _ _));have eu := (bi.sp (bh.sd (((c3.sw eh 0 1 Z Z Z c6).so none (Gr.refl _ none) (by simp)).so none (Gr.refl _ none) (by simp)) 2 3 Z Z Z) (.swap _ _ _));exact ⟨[.agg #[vs ([] : Str), vi 0, G none 0 0, G none 0 0], G bg b4 b5], ⟨_, _, Z, er.1.res Z ag28 sz28, ⟨_, Z, Z⟩⟩, (⟨([] : Str), (⟨0, ([] : List Pt)⟩ : Shape), ([] : List Tag)⟩ : Feat), ([] : List Str), none, 0, 0, none, 0, 0, bg, b4, b5, Z, H, b6.gr.g0, b6.ok, b6.ge, (by decide), es, et, eu⟩
 have H := Xj H ae;refine Xm ae Z ?_;have b7 := a4.stn aw;have c7 := (((dw.st bz).st b3).st b7);refine Xa (Xs ag28 sz28 cL ⟨bb, 0, none⟩ [vs b.Id, vi b.Shape.Kind, G am an ao, G ap aq ar] Z Z (c7.cells (off := 0) Z)) (Xm ae Z ?_);refine Xt go13 [.agg #[vs b.Id, vi b.Shape.Kind, G am an ao, G ap aq ar]] Z ((F84.calls ef a5.ok b am an ao ap aq ar cp (cq.st a5.st) (cr.st a5.st) _ H).mono ?_);rintro _ ev ⟨r3, rfl, H, a6⟩;have af := a5.k0 a6;refine Xm ae Z (Xa (Yp r3 Z) (Xa (Xo false (vb (!r3)) ae Z) (Xd (vb (!r3)) Z ?_)));rcases X7 (!r3) with ab | ab
 ·have H := Xi H ab;refine Xn ab Z (Xn ab Z (Xn ab Z (Xn ab Z (Xn ab Z (Xa (Xo true (vb true) ab Z) (Xd (vb true) Z (Xl (dj := 28) Z Z (.inl Z) (Xl (dj := 28) Z Z (.inl Z) ?_))))))));refine Xl (dj := 28) Z Z (.inl Z) (Xl (dj := 28) Z Z (.inl Z) (Xl (dj := 28) Z Z (.inl Z) (Xa (Xo true (vb true) Z Z) (Xb (Yn (b := true) Z Z ?_)))));refine Xc (Xe (Xa (Yl (.agg #[vs ([] : Str), vi 0, G none 0 0, G none 0 0]) (fun _ => by kernel_rfl)) (X9 (kd := Kd.str) Yu af ([] : List Str) (cells := []) Z (fun _ => by kernel_rfl) fun gn bj b8 b9 ew hr161 c8 ex => ?_)));have ey := ((((a3.k0 av).k0 aw).k0 a6).k0 ew);refine Xv aa 0 [vs ([] : Str), vi 0, G none 0 0, G none 0 0] [vs ([] : Str), vi 0, G none 0 0, G none 0 0] [vs ([] : Str), vi 0, G none 0 0, G none 0 0] Z ey Z sz28 Z Z Z fun da db ez => ?_;have e0 := c8.wr 1 Z db;refine Xf (G bj b8 b9) Z (Xb (Xk ?_));have e1 := e0.own (Gr.refl _ none) none (by simp);have e2 : Ow kPt 61 da ([bk none, bk bj, some aa] ++ O) (G none 0 0) [] := Ow.nil _ _ _ _;have bl := e1.own (Gr.refl _ none) none (by simp);have e3 : Ow kTag 78 da ([bk none, bk none, bk bj, some aa] ++ O) (G none 0 0) [] := Ow.nil _ _ _ _;have e4 := ez;have e5 := bl.bgv e4 3 Z;have bm := bl.drop 3 Z;have ca := bm.perm (.swap _ _ _);have e6 := bm.stp (.swap _ _ _);have e7 := (e5.st e6);have e8 := (bm.sp (bl.sd (e2.so none (Gr.refl _ none) (by simp)) 1 3 Z Z Z) (.swap _ _ _));have e9 := (bm.sp (bl.sd e3 0 3 Z Z Z) (.swap _ _ _));have fa := (bm.sp (bl.sd (((c8.sw ex 0 1 Z Z Z db).so none (Gr.refl _ none) (by simp)).so none (Gr.refl _ none) (by simp)) 2 3 Z Z Z) (.swap _ _ _));exact ⟨[.agg #[vs ([] : Str), vi 0, G none 0 0, G none 0 0], G bj b8 b9], ⟨_, _, Z, e7.1.res Z ag28 sz28, ⟨_, Z, Z⟩⟩, (⟨([] : Str), (⟨0, ([] : List Pt)⟩ : Shape), ([] : List Tag)⟩ : Feat), ([] : List Str), none, 0, 0, none, 0, 0, bj, b8, b9, Z, H, ca.gr.g0, ca.ok, ca.ge, (by decide), e8, e9, fa⟩
 have H := Xj H ab;refine Xm ab Z (Xa (Xp fa28_0 ⟨ba, 0, none⟩ ⟨ba, 0, none⟩ Z Z) (Xm ab Z ?_));have cb := a5.stn a6;have dc := ((c2.st b7).st cb);refine Xa (Xr ag9 cL ⟨ba, 0, none⟩ (vs a.Id) Z (dc.cell Z)) (Xm ab Z (Xa (Xp fa28_0 ⟨au, 0, none⟩ ⟨au, 0, none⟩ Z Z) (Xm ab Z ?_)));have cc := (((cy.st b3).st b7).st cb);refine Xa (Xr ag9 cL ⟨au, 0, none⟩ (vs base_.Id) Z (cc.cell Z)) (Xm ab Z (Xa (Yz a.Id base_.Id (a.Id != base_.Id) Z Z Z) (Xa (Xo false (vb (a.Id != base_.Id)) ab Z) (Xd (vb (a.Id != base_.Id)) Z ?_))));rcases X7 (a.Id != base_.Id) with ac | ac
 ·have H := Xi H ac;refine Xn ac Z (Xn ac Z (Xn ac Z (Xn ac Z (Xn ac Z (Xa (Xo true (vb true) ac Z) (Xb (Yn (b := true) Z Z ?_)))))));refine Xc (Xe (Xa (Yl (.agg #[vs ([] : Str), vi 0, G none 0 0, G none 0 0]) (fun _ => by kernel_rfl)) (X9 (kd := Kd.str) Yu af ([] : List Str) (cells := []) Z (fun _ => by kernel_rfl) fun gp bn cd ce fb hr194 dd fc => ?_)));have fd := ((((a3.k0 av).k0 aw).k0 a6).k0 fb);refine Xv aa 0 [vs ([] : Str), vi 0, G none 0 0, G none 0 0] [vs ([] : Str), vi 0, G none 0 0, G none 0 0] [vs ([] : Str), vi 0, G none 0 0, G none 0 0] Z fd Z sz28 Z Z Z fun de df fe => ?_;have ff := dd.wr 1 Z df;refine Xf (G bn cd ce) Z (Xb (Xk ?_));have fg := ff.own (Gr.refl _ none) none (by simp);have fh : Ow kPt 61 de ([bk none, bk bn, some aa] ++ O) (G none 0 0) [] := Ow.nil _ _ _ _;have bo := fg.own (Gr.refl _ none) none (by simp);have fi : Ow kTag 78 de ([bk none, bk none, bk bn, some aa] ++ O) (G none 0 0) [] := Ow.nil _ _ _ _;have fj := fe;have fk := bo.bgv fj 3 Z;have bp := bo.drop 3 Z;have cf := bp.perm (.swap _ _ _);have fl := bp.stp (.swap _ _ _);have fm := (fk.st fl);have fn := (bp.sp (bo.sd (fh.so none (Gr.refl _ none) (by simp)) 1 3 Z Z Z) (.swap _ _ _));have fo := (bp.sp (bo.sd fi 0 3 Z Z Z) (.swap _ _ _));have fp := (bp.sp (bo.sd (((dd.sw fc 0 1 Z Z Z df).so none (Gr.refl _ none) (by simp)).so none (Gr.refl _ none) (by simp)) 2 3 Z Z Z) (.swap _ _ _));exact ⟨[.agg #[vs ([] : Str), vi 0, G none 0 0, G none 0 0], G bn cd ce], ⟨_, _, Z, fm.1.res Z ag28 sz28, ⟨_, Z, Z⟩⟩, (⟨([] : Str), (⟨0, ([] : List Pt)⟩ : Shape), ([] : List Tag)⟩ : Feat), ([] : List Str), none, 0, 0, none, 0, 0, bn, cd, ce, Z, H, cf.gr.g0, cf.ok, cf.ge, (by decide), fn, fo, fp⟩
 have H := Xj H ac;refine Xm ac Z (Xa (Xp fa28_0 ⟨bb, 0, none⟩ ⟨bb, 0, none⟩ Z Z) (Xm ac Z ?_));have dg := (c7.st cb);refine Xa (Xr ag9 cL ⟨bb, 0, none⟩ (vs b.Id) Z (dg.cell Z)) (Xm ac Z (Xa (Xp fa28_0 ⟨au, 0, none⟩ ⟨au, 0, none⟩ Z Z) (Xm ac Z (Xa (Xr ag9 cL ⟨au, 0, none⟩ (vs base_.Id) Z (cc.cell Z)) (Xm ac Z (Xa (Yz b.Id base_.Id (b.Id != base_.Id) Z Z Z) (Xa (Xo false (vb (b.Id != base_.Id)) ac Z) (Xb ?_))))))));refine Xx (b.Id != base_.Id) Z (fun cg => ?_) (fun cg => ?_)
 ·have H := Xi H cg;refine Xc (Xe (Xa (Yl (.agg #[vs ([] : Str), vi 0, G none 0 0, G none 0 0]) (fun _ => by kernel_rfl)) (X9 (kd := Kd.str) Yu af ([] : List Str) (cells := []) Z (fun _ => by kernel_rfl) fun gq bq ch ci fq hr225 dh fr => ?_)));have fs := ((((a3.k0 av).k0 aw).k0 a6).k0 fq);refine Xv aa 0 [vs ([] : Str), vi 0, G none 0 0, G none 0 0] [vs ([] : Str), vi 0, G none 0 0, G none 0 0] [vs ([] : Str), vi 0, G none 0 0, G none 0 0] Z fs Z sz28 Z Z Z fun di dk ft => ?_;have fu := dh.wr 1 Z dk;refine Xf (G bq ch ci) Z (Xb (Xk ?_));have fv := fu.own (Gr.refl _ none) none (by simp);have fw : Ow kPt 61 di ([bk none, bk bq, some aa] ++ O) (G none 0 0) [] := Ow.nil _ _ _ _;have br := fv.own (Gr.refl _ none) none (by simp);have fx : Ow kTag 78 di ([bk none, bk none, bk bq, some aa] ++ O) (G none 0 0) [] := Ow.nil _ _ _ _;have fy := ft;have fz := br.bgv fy 3 Z;have bs := br.drop 3 Z;have cj := bs.perm (.swap _ _ _);have f0 := bs.stp (.swap _ _ _);have f1 := (fz.st f0);have f2 := (bs.sp (br.sd (fw.so none (Gr.refl _ none) (by simp)) 1 3 Z Z Z) (.swap _ _ _));have f3 := (bs.sp (br.sd fx 0 3 Z Z Z) (.swap _ _ _));have f4 := (bs.sp (br.sd (((dh.sw fr 0 1 Z Z Z dk).so none (Gr.refl _ none) (by simp)).so none (Gr.refl _ none) (by simp)) 2 3 Z Z Z) (.swap _ _ _));exact ⟨[.agg #[vs ([] : Str), vi 0, G none 0 0, G none 0 0], G bq ch ci], ⟨_, _, Z, f1.1.res Z ag28 sz28, ⟨_, Z, Z⟩⟩, (⟨([] : Str), (⟨0, ([] : List Pt)⟩ : Shape), ([] : List Tag)⟩ : Feat), ([] : List Str), none, 0, 0, none, 0, 0, bq, ch, ci, Z, H, cj.gr.g0, cj.ok, cj.ge, (by decide), f2, f3, f4⟩
 have H := Xj H cg;refine X0 (Xc (Xe (Xa (Xs ag28 sz28 cL ⟨au, 0, none⟩ [vs base_.Id, vi base_.Shape.Kind, G A2 n3 c4, G A7 n8 c9] Z Z (cc.cells (off := 0) Z)) (Xa (Xs ag28 sz28 cL ⟨ba, 0, none⟩ [vs a.Id, vi a.Shape.Kind, G ag ah ai, G aj ak al] Z Z (dc.cells (off := 0) Z)) (Xa (Xs ag28 sz28 cL ⟨bb, 0, none⟩ [vs b.Id, vi b.Shape.Kind, G am an ao, G ap aq ar] Z Z (dg.cells (off := 0) Z)) ?_)))));refine Xt go63 [.agg #[vs base_.Id, vi base_.Shape.Kind, G A2 n3 c4, G A7 n8 c9], .agg #[vs a.Id, vi a.Shape.Kind, G ag ah ai, G aj ak al], .agg #[vs b.Id, vi b.Shape.Kind, G am an ao, G ap aq ar]] Z ((F95.calls ev af.ok base_ A2 n3 c4 A7 n8 c9 hs1 (hp5.st af.st) (cl.st af.st) a ag ah ai aj ak al cm (cn.st af.st) (co.st af.st) b am an ao ap aq ar cp (cq.st af.st) (cr.st af.st) _ H).mono ?_);rintro _ gs ⟨r4, r5, ax, ay, az, a0, a1, a2, a7, a8, a9, rfl, H, dl, f5, f6, f7, f8, f9, ga⟩;have bu := af.owns dl f5 f6;refine Xa (Yj [.agg #[vs r4.Id, vi r4.Shape.Kind, G ax ay az, G a0 a1 a2], G a7 a8 a9] 0 (.agg #[vs r4.Id, vi r4.Shape.Kind, G ax ay az, G a0 a1 a2]) Z Z) (Xa (Yj [.agg #[vs r4.Id, vi r4.Shape.Kind, G ax ay az, G a0 a1 a2], G a7 a8 a9] 1 (G a7 a8 a9) Z Z) ?_);have gb := ((((a3.k0 av).k0 aw).k0 a6).k0 dl);refine Xv aa 0 [vs ([] : Str), vi 0, G none 0 0, G none 0 0] [vs r4.Id, vi r4.Shape.Kind, G ax ay az, G a0 a1 a2] [vs r4.Id, vi r4.Shape.Kind, G ax ay az, G a0 a1 a2] Z gb Z sz28 Z Z Z fun gt bv gc => ?_;have bt := bu.wr 3 Z bv;refine Xf (G a7 a8 a9) Z (Xb (Xk ?_));have gd := bt.bgv gc 3 Z;have ck := bt.drop 3 Z;have gf := (bt.sd (bu.sw f8 0 3 Z Z Z bv) 0 3 Z Z Z);have gg := (bt.sd (bu.sw f9 1 3 Z Z Z bv) 1 3 Z Z Z);have gh := (bt.sd (bu.sw ga 2 3 Z Z Z bv) 2 3 Z Z Z);exact ⟨[.agg #[vs r4.Id, vi r4.Shape.Kind, G ax ay az, G a0 a1 a2], G a7 a8 a9], ⟨_, _, Z, gd.1.res Z ag28 sz28, ⟨_, Z, Z⟩⟩, r4, r5, ax, ay, az, a0, a1, a2, a7, a8, a9, Z, H, ck.gr.g0, ck.ok, ck.ge, f7, gf, gg, gh⟩
end
section
open Go.RowKit
def F20.E (s1 : List Tag) (s2 : List Tag) (Q : Bool → Prop) : Prop :=
 (if (s1.length : Int) != (s2.length : Int) then Q false else (∃ (I32 : Int → Prop) (mu33 : Int → Nat), I32 0 ∧ ∀ (v2 : Int), I32 v2 → (if decide (v2 < (s1.length : Int)) then ((0 : Int) ≤ v2 ∧ v2 < (s1.length : Int)) ∧ ((0 : Int) ≤ v2 ∧ v2 < (s2.length : Int)) ∧ (if !(eqTag (nth s1 v2) (nth s2 v2)) then Q false else (I64 (v2 + 1)) ∧ I32 (v2 + 1) ∧ mu33 (v2 + 1) < mu33 v2) else Q true)))
theorem F20.calls {O : Ob} (w0 : World) (hO : Ok w0 O) (s1 : List Tag) (A1 : Option Addr) (n2 c3 : Nat) (hp4 : Sl kTag w0 (Fr O) (G A1 n2 c3) s1) (s2 : List Tag) (A6 : Option Addr) (n7 c8 : Nat) (hp9 : Sl kTag w0 (Fr O) (G A6 n7 c8) s2) (Q : Bool → Prop) (h : F20.E s1 s2 Q) :
  Ret Tryz.prog 64 [G A1 n2 c3, G A6 n7 c8] w0 (fun v w' => ∃ (r0 : Bool), v = vb r0 ∧ Q r0 ∧ Gr w0 w' none) := by
 unfold F20.E at h;have H := h;clear h;have hc0 := Ct.init hO;refine Yd Tryz.func64 Z 26 Z [.tmp 4] Z Z ?_;refine Xc (Xe (Xf (vb false) Z (Xb (Xc (Xc (Xe (Xd (G A1 n2 c3) Z ?_)))))));have a3 := hp4.le;refine Xa (X3 u26_ A1 n2 c3 hp4.len Z) (Xd (G A6 n7 c8) Z ?_);have a4 := hp9.le;refine Xa (X3 u26_ A6 n7 c8 hp9.len Z) (Xa (Xz (s1.length : Int) (s2.length : Int) ((s1.length : Int) != (s2.length : Int)) Z Z Z) (Xb ?_));refine Xx ((s1.length : Int) != (s2.length : Int)) Z (fun ab => ?_) (fun ab => ?_)
 ·have H := Xi H ab;exact Xc (Xe (Xf (vb false) Z (Xb (Xk ⟨[vb false], ⟨_, Z, Z⟩, false, Z, H, hc0.gr.g0⟩))))
 have H := Xj H ab;refine X0 (Xc (Xc (Xe (Xd (G A1 n2 c3) Z (Xa (X3 u26_ A1 n2 c3 hp4.len Z) (Xd (vi 0) Z (Xb (X8 ?_))))))));obtain ⟨ap, aq, ac, H⟩ := H;refine Ys (α := Int) (fun (sv__ : Int) t aa => match sv__ with | v2 => ap v2 ∧ Has t [(0, G A1 n2 c3), (1, G A6 n7 c8), (12, vi (s1.length : Int)), (13, vi v2)] ∧ Ct [] w0 aa [] O ∧ Sl kTag aa (Fr ([] ++ O)) (G A1 n2 c3) s1 ∧ Sl kTag aa (Fr ([] ++ O)) (G A6 n7 c8) s2) (fun (sv__ : Int) => match sv__ with | v2 => aq v2) 0 ⟨ac, (Xw Z), hc0, hp4, hp9⟩ ?_;rintro v2 _ aa ⟨ac, ar, ad, ae, af⟩;obtain ⟨a5, rfl⟩ := Has.ins ar;have H := H v2 ac;refine Xc (Xe (Xa (Xz v2 (s1.length : Int) (decide (v2 < (s1.length : Int))) Z Z Z) (Xb (Xc ?_))));refine Xx (decide (v2 < (s1.length : Int))) Z (fun ag => ?_) (fun ag => ?_)
 ·have H := Xi H ag;refine X0 (Xc (X8 (Xc (Xe (Xd (vi v2) Z (Xf (vi v2) Z (Xb (Xc ?_))))))));refine Yx (fun x => Gr aa x none) (by kernel_rfl) (by kernel_rfl) (Gr.drew _) ?_;refine X2 (G A1 n2 c3) Z (X2 (vi v2) Z ?_);obtain ⟨ai, H⟩ := H;obtain ⟨aj, a6, au, a7, av, aw⟩ := ae.get default (by decide) v2 ai;obtain ⟨rfl, a8, a9⟩ := kTag.op av;refine Xh (X4 u26_ Yw A1 aj n2 c3 ae.len v2 Z au Z ai) (Xh (Xs ag78 sz78 cQ (aj.add (v2.toNat * 2)) [vs ((nth s1 v2).Key), vs ((nth s1 v2).Val)] Z Z aw) (X2 (G A6 n7 c8) Z (X2 (vi v2) Z ?_)));obtain ⟨ak, H⟩ := H;obtain ⟨al, ba, ax, bb, ay, az⟩ := af.get default (by decide) v2 ak;obtain ⟨rfl, bc, bd⟩ := kTag.op ay;refine Xh (X4 u26_ Yw A6 al n7 c8 af.len v2 Z ax Z ak) (Xh (Xs ag78 sz78 cQ (al.add (v2.toNat * 2)) [vs ((nth s2 v2).Key), vs ((nth s2 v2).Val)] Z Z az) (Xh (Zi _ _ (eqTag (nth s1 v2) (nth s2 v2)) (qt78 (nth s1 v2) (nth s2 v2)) Z Z) (Yo fun be am => ?_)));have an := ad.k0 am;refine Xx (!(eqTag (nth s1 v2) (nth s2 v2))) Z (fun ah => ?_) (fun ah => ?_)
  ·have H := Xi H ah;exact Xc (Xe (Xf (vb false) Z (Xb (Xk ⟨[vb false], ⟨_, Z, Z⟩, false, Z, H, an.gr.g0⟩))))
  have H := Xj H ah;refine X0 (Xe ?_);obtain ⟨a0, H⟩ := H;refine Xa (X6 v2 1 Z Z a0) (Xd (vi (v2 + 1)) Z (Xb ?_));obtain ⟨a1, a2⟩ := H;have ao := ad.stn am;exact ⟨v2 + 1, a2, a1, (Xw Z), an, (ae.st ao), (af.st ao)⟩
 have H := Xj H ag;refine Yq (xin_hit ?_);exact Xc (Xe (Xf (vb true) Z (Xb (Xk ⟨[vb true], ⟨_, Z, Z⟩, true, Z, H, ad.gr.g0⟩))))
end
section
open Go.RowKit
def F55.E (a : Feat) (b : Feat) (Q : Bool → Prop) : Prop :=
 (if a.Id == b.Id then F38.E a.Shape b.Shape (fun r => (if r then F20.E a.Tags b.Tags (fun r2 => Q r2) else Q false)) else Q false)
theorem F55.calls {O : Ob} (w0 : World) (hO : Ok w0 O) (a : Feat) (A2 : Option Addr) (n3 c4 : Nat) (A7 : Option Addr) (n8 c9 : Nat) (hs1 : Lim a.Id) (hp5 : Sl kPt w0 (Fr O) (G A2 n3 c4) a.Shape.Pts) (au : Sl kTag w0 (Fr O) (G A7 n8 c9) a.Tags) (b : Feat) (ae : Option Addr) (af ag : Nat) (ah : Option Addr) (ai aj : Nat) (ba : Lim b.Id) (av : Sl kPt w0 (Fr O) (G ae af ag) b.Shape.Pts) (aw : Sl kTag w0 (Fr O) (G ah ai aj) b.Tags) (Q : Bool → Prop) (h : F55.E a b Q) :
  Ret Tryz.prog 17 [.agg #[vs a.Id, vi a.Shape.Kind, G A2 n3 c4, G A7 n8 c9], .agg #[vs b.Id, vi b.Shape.Kind, G ae af ag, G ah ai aj]] w0 (fun v w' => ∃ (r0 : Bool), v = vb r0 ∧ Q r0 ∧ Gr w0 w' none) := by
 unfold F55.E at h;have H := h;clear h;have hc0 := Ct.init hO;refine Yd Tryz.func17 Z 24 Z [.tmp 4] Z Z ?_;refine Xc (Xe (Yk [vs a.Id, vi a.Shape.Kind, G A2 n3 c4, G A7 n8 c9] Z fun bb ac ax hu27 ay az => ?_));have a0 := Fb.mk hc0.ok ax az;have am := hc0.k0 ay;refine Yk [vs b.Id, vi b.Shape.Kind, G ae af ag, G ah ai aj] Z fun a1 ad a2 hu36 ap a3 => ?_;have an := Fb.mk am.ok a2 a3;have ak := am.k0 ap;refine Xf (vb false) Z (Xb (Xc (Xe (Xa (Xp fa28_0 ⟨ac, 0, none⟩ ⟨ac, 0, none⟩ Z Z) ?_))));have a4 := am.stn ap;have ao := (a0.st a4);refine Xa (Xr ag9 cL ⟨ac, 0, none⟩ (vs a.Id) Z (ao.cell Z)) (Xa (Xp fa28_0 ⟨ad, 0, none⟩ ⟨ad, 0, none⟩ Z Z) (Xa (Xr ag9 cL ⟨ad, 0, none⟩ (vs b.Id) Z (an.cell Z)) (Xa (Yz a.Id b.Id (a.Id == b.Id) Z Z Z) (Xd (vb (a.Id == b.Id)) Z ?_))));rcases X7 (a.Id == b.Id) with aa | aa
 ·have H := Xi H aa;refine Xm aa Z (Xa (Xp fa28_1 ⟨ac, 0, none⟩ ⟨ac, 1, none⟩ Z Z) (Xm aa Z (Xa (Xs ag25 sz25 cL ⟨ac, 1, none⟩ [vi a.Shape.Kind, G A2 n3 c4] Z Z (ao.cells (off := 1) Z)) (Xm aa Z (Xa (Xp fa28_1 ⟨ad, 0, none⟩ ⟨ad, 1, none⟩ Z Z) (Xm aa Z (Xa (Xs ag25 sz25 cL ⟨ad, 1, none⟩ [vi b.Shape.Kind, G ae af ag] Z Z (an.cells (off := 1) Z)) (Xm aa Z ?_))))))));refine Xt go54 [.agg #[vi a.Shape.Kind, G A2 n3 c4], .agg #[vi b.Shape.Kind, G ae af ag]] Z ((F38.calls a1 ak.ok a.Shape A2 n3 c4 (hp5.st ak.st) b.Shape ae af ag (av.st ak.st) _ H).mono ?_);rintro _ a5 ⟨r, rfl, H, aq⟩;have al := ak.k0 aq;refine Xa (Xo true (vb r) aa Z) (Xd (vb r) Z ?_);rcases X7 r with ab | ab
  ·have H := Xi H ab;refine Xm ab Z (Xa (Xp fa28_2 ⟨ac, 0, none⟩ ⟨ac, 3, none⟩ Z Z) (Xm ab Z ?_));have ar := ak.stn aq;have a6 := (ao.st ar);refine Xa (Xr ag26 cL ⟨ac, 3, none⟩ (G A7 n8 c9) Z (a6.cell Z)) (Xm ab Z (Xa (Xp fa28_2 ⟨ad, 0, none⟩ ⟨ad, 3, none⟩ Z Z) (Xm ab Z ?_)));have a7 := (an.st ar);refine Xa (Xr ag26 cL ⟨ad, 3, none⟩ (G ah ai aj) Z (a7.cell Z)) (Xm ab Z ?_);refine Xt go64 [G A7 n8 c9, G ah ai aj] Z ((F20.calls a5 al.ok a.Tags A7 n8 c9 (au.st al.st) b.Tags ah ai aj (aw.st al.st) _ H).mono ?_);rintro _ bc ⟨r2, rfl, H, a8⟩;have a9 := al.k0 a8;exact Xa (Xo true (vb r2) ab Z) (Xf (vb r2) Z (Xb (Xk ⟨[vb r2], ⟨_, Z, Z⟩, r2, Z, H, a9.gr.g0⟩)))
  have H := Xj H ab;refine Xn ab Z (Xn ab Z (Xn ab Z (Xn ab Z (Xn ab Z (Xa (Xo false (vb false) ab Z) (Xf (vb false) Z (Xb (Xk ?_))))))));exact ⟨[vb false], ⟨_, Z, Z⟩, false, Z, H, al.gr.g0⟩
 have H := Xj H aa;refine Xn aa Z (Xn aa Z (Xn aa Z (Xn aa Z (Xn aa Z (Xa (Xo false (vb false) aa Z) (Xd (vb false) Z (Xl (dj := 17) Z Z (.inl Z) (Xl (dj := 17) Z Z (.inl Z) ?_))))))));exact Xl (dj := 17) Z Z (.inl Z) (Xl (dj := 17) Z Z (.inl Z) (Xl (dj := 17) Z Z (.inl Z) (Xa (Xo false (vb false) Z Z) (Xf (vb false) Z (Xb (Xk ⟨[vb false], ⟨_, Z, Z⟩, false, Z, H, ak.gr.g0⟩))))))
end
section
open Go.RowKit
def F72.E (f : Feat) (key : Str) (Q : Str → Bool → Prop) : Prop :=
 F49.E f key (fun r => F90.E f (fun r2 => (if !r2 then Q ([] : Str) false else (if decide (r < 0) then Q ([] : Str) false else ((0 : Int) ≤ r ∧ r < (f.Tags.length : Int)) ∧ Q ((nth f.Tags r).Val) true))))
theorem F72.calls {O : Ob} (w0 : World) (hO : Ok w0 O) (f : Feat) (A2 : Option Addr) (n3 c4 : Nat) (A7 : Option Addr) (n8 c9 : Nat) (hs1 : Lim f.Id) (hp5 : Sl kPt w0 (Fr O) (G A2 n3 c4) f.Shape.Pts) (af : Sl kTag w0 (Fr O) (G A7 n8 c9) f.Tags) (key : Str) (an : Lim key) (Q : Str → Bool → Prop) (h : F72.E f key Q) :
  Ret Tryz.prog 18 [.agg #[vs f.Id, vi f.Shape.Kind, G A2 n3 c4, G A7 n8 c9], vs key] w0 (fun v w' => ∃ (r0 : Str) (r1 : Bool), v = .tuple #[vs r0, vb r1] ∧ Q r0 r1 ∧ Gr w0 w' none ∧ Lim r0) := by
 unfold F72.E at h;have H := h;clear h;have hc0 := Ct.init hO;refine Yd Tryz.func18 Z 23 Z [.tmp 4, .tmp 5] Z Z ?_;refine Xc (Xe (Yk [vs f.Id, vi f.Shape.Kind, G A2 n3 c4, G A7 n8 c9] Z fun ao ab ap hu17 aq ar => ?_));have ai := Fb.mk hc0.ok ap ar;have ac := hc0.k0 aq;refine Xf (vs ([] : Str)) Z (Xf (vb false) Z (Xb (Xc (Xe (Xa (Xs ag28 sz28 cL ⟨ab, 0, none⟩ [vs f.Id, vi f.Shape.Kind, G A2 n3 c4, G A7 n8 c9] Z Z (ai.cells (off := 0) Z)) (Xd (vs key) Z ?_))))));refine Xt go49 [.agg #[vs f.Id, vi f.Shape.Kind, G A2 n3 c4, G A7 n8 c9], vs key] Z ((F49.calls ao ac.ok f A2 n3 c4 A7 n8 c9 hs1 (hp5.st ac.st) (af.st ac.st) key an _ H).mono ?_);rintro _ au ⟨r, rfl, H, aj⟩;have ad := ac.k0 aj;refine Xf (vi r) Z (Xb (Xc (Xc (Xe ?_))));have av := ac.stn aj;have ak := (ai.st av);refine Xa (Xs ag28 sz28 cL ⟨ab, 0, none⟩ [vs f.Id, vi f.Shape.Kind, G A2 n3 c4, G A7 n8 c9] Z Z (ak.cells (off := 0) Z)) ?_;refine Xt go12 [.agg #[vs f.Id, vi f.Shape.Kind, G A2 n3 c4, G A7 n8 c9]] Z ((F90.calls au ad.ok f A2 n3 c4 A7 n8 c9 hs1 (hp5.st ad.st) (af.st ad.st) _ H).mono ?_);rintro _ a2 ⟨r2, rfl, H, al⟩;have ae := ad.k0 al;refine Xa (Yp r2 Z) (Xd (vb (!r2)) Z ?_);rcases X7 (!r2) with aa | aa
 ·have H := Xi H aa;refine Xn aa Z (Xn aa Z (Xa (Xo true (vb true) aa Z) (Xb (Yn (b := true) Z Z ?_))));exact Xc (Xe (Xf (vs ([] : Str)) Z (Xf (vb false) Z (Xb (Xk ⟨[vs ([] : Str), vb false], ⟨_, Z, ⟨_, Z, Z⟩⟩, ([] : Str), false, Z, H, ae.gr.g0, (by decide : Lim ([] : Str))⟩)))))
 have H := Xj H aa;refine Xm aa Z (Xd (vi r) Z (Xm aa Z (Xa (Xz r 0 (decide (r < 0)) Z Z Z) (Xa (Xo false (vb (decide (r < 0))) aa Z) (Xb ?_)))));refine Xx (decide (r < 0)) Z (fun ah => ?_) (fun ah => ?_)
 ·have H := Xi H ah;exact Xc (Xe (Xf (vs ([] : Str)) Z (Xf (vb false) Z (Xb (Xk ⟨[vs ([] : Str), vb false], ⟨_, Z, ⟨_, Z, Z⟩⟩, ([] : Str), false, Z, H, ae.gr.g0, (by decide : Lim ([] : Str))⟩)))))
 have H := Xj H ah;refine X0 (Xc (Xe (Xa (Xp fa28_2 ⟨ab, 0, none⟩ ⟨ab, 3, none⟩ Z Z) ?_)));have aw := ad.stn al;have ax := (ak.st aw);refine Xa (Xr ag26 cL ⟨ab, 3, none⟩ (G A7 n8 c9) Z (ax.cell Z)) (Xd (vi r) Z ?_);obtain ⟨am, H⟩ := H;obtain ⟨ag, a3, ay, a4, az, a0⟩ := (af.st ae.st).get default (by decide) r am;obtain ⟨rfl, a5, a1⟩ := kTag.op az;exact Xa (X4 u26_ Yw A7 ag n8 c9 (af.st ae.st).len r Z ay Z am) (Xa (Xp fa78_1 (ag.add (r.toNat * 2)) ((ag.add (r.toNat * 2)).add 1) Z Z) (Xa (Xr ag9 cL ((ag.add (r.toNat * 2)).add 1) (vs ((nth f.Tags r).Val)) Z (a0 1 _ Z)) (Xf (vs ((nth f.Tags r).Val)) Z (Xf (vb true) Z (Xb (Xk ⟨[vs ((nth f.Tags r).Val), vb true], ⟨_, Z, ⟨_, Z, Z⟩⟩, (nth f.Tags r).Val, true, Z, H, ae.gr.g0, a1⟩))))))
end
section
open Go.RowKit
def laws_FnFeatTags.E (code : List UInt8) (Q : Bool → Prop) : Prop :=
 (if decide ((code.length : Int) > 1048576) then Q true else F15.E code (fun r r2 r3 => (∃ q : Bool, F90.E r (fun x => x = q) ∧ (∃ q2 : Bool, F84.E r (fun x => x = q2) ∧ (if q != q2 then (∃ q3 : Bool, F90.E r (fun x => x = q3) ∧ (∃ q4 : Bool, F84.E r (fun x => x = q4) ∧ Q (q3 == q4))) else (∃ q5 : Bool, F84.E r (fun x => x = q5) ∧ (if !q5 then (∃ q6 : Bool, F90.E r (fun x => x = q6) ∧ (∃ q7 : Bool, F84.E r (fun x => x = q7) ∧ Q (q6 == q7))) else (if decide ((r.Tags.length : Int) > 2) then (∃ q8 : Bool, F90.E r (fun x => x = q8) ∧ (∃ q9 : Bool, F84.E r (fun x => x = q9) ∧ Q (q8 == q9))) else F66.E r ([97, 97, 97] : Str) ([108, 101, 102, 116] : Str) (fun r13 r14 => F66.E r ([122, 122, 122] : Str) ([114, 105, 103, 104, 116] : Str) (fun r15 r16 => F66.E r ([97, 97, 97] : Str) ([114, 105, 103, 104, 116] : Str) (fun r17 r18 => F52.E r r13 r15 (fun r19 r20 => F54.E r r13 r15 (fun r21 r22 => F52.E r r13 r13 (fun r23 r24 => F52.E r r13 r17 (fun r25 r26 => (if !r14 then Q false else (if !r16 then Q false else (if !r18 then Q false else F55.E r19 r21 (fun r27 => (if !r27 then Q false else (if (r20.length : Int) != (r22.length : Int) then Q false else (if decide ((r20.length : Int) > 0) then Q false else (if decide ((r24.length : Int) > 0) then Q false else F55.E r23 r13 (fun r28 => (if !r28 then Q false else F72.E r19 ([97, 97, 97] : Str) (fun r29 r30 => F72.E r19 ([122, 122, 122] : Str) (fun r31 r32 => (if r30 then (if r29 == ([108, 101, 102, 116] : Str) then (if r32 then (if r31 == ([114, 105, 103, 104, 116] : Str) then ((code.length : Int) ≤ 9223372036854775807 → (r.Tags.length : Int) ≤ 9223372036854775807 → (r20.length : Int) ≤ 9223372036854775807 → (r22.length : Int) ≤ 9223372036854775807 → (r24.length : Int) ≤ 9223372036854775807 → (r19.Tags.length : Int) ≤ 9223372036854775807 → I64 ((r.Tags.length : Int) + 2)) ∧ (if (r19.Tags.length : Int) == ((r.Tags.length : Int) + 2) then (if (r26.length : Int) == 1 then ((0 : Int) ≤ 0 ∧ 0 < (r26.length : Int)) ∧ (if (nth r26 0) == ([116, 97, 103, 32, 97, 97, 97] : Str) then F55.E r25 r13 (fun r33 => Q r33) else Q false) else Q false) else Q false) else Q false) else Q false) else Q false) else Q false))))))))))))))))))))))))))))
theorem laws_FnFeatTags.calls {O : Ob} (w0 : World) (hO : Ok w0 O) (code : List UInt8) (A1 : Option Addr) (n2 c3 : Nat) (hp4 : Sl Kd.byte w0 (Fr O) (G A1 n2 c3) code) (Q : Bool → Prop) (h : laws_FnFeatTags.E code Q) :
  Ret Tryz.prog 3 [G A1 n2 c3] w0 (fun v w' => ∃ (r0 : Bool), v = vb r0 ∧ Q r0 ∧ Gr w0 w' none) := by
 unfold laws_FnFeatTags.E at h;have H := h;clear h;have hc0 := Ct.init hO;refine Yd Tryz.func3 Z 184 Z [.tmp 2] Z Z ?_;refine Xc (Xe (Xf (vb false) Z (Xb (Xc (Xc (Xe (Xd (G A1 n2 c3) Z ?_)))))));have hl6 := hp4.le;refine Xa (X3 u22_ A1 n2 c3 hp4.len Z) (Xa (Xz (code.length : Int) 1048576 (decide ((code.length : Int) > 1048576)) Z Z Z) (Xb ?_));refine Xx (decide ((code.length : Int) > 1048576)) Z (fun hq7 => ?_) (fun hq7 => ?_)
 ·have H := Xi H hq7;exact Xc (Xe (Xf (vb true) Z (Xb (Xk ⟨[vb true], ⟨_, Z, Z⟩, true, Z, H, hc0.gr.g0⟩))))
 have H := Xj H hq7;refine X0 (Xc (Xe (Xd (G A1 n2 c3) Z ?_)));refine Xt go11 [G A1 n2 c3] Z ((F15.calls w0 hc0.ok code A1 n2 c3 hp4 _ H).mono ?_);rintro _ w8 ⟨r, r2, r3, al, am, an, ag, ah, ai, eh, ei, ej, ek, el, em, en, eo, ep, eq, er, es, rfl, H, g9, cn, jy, jz, qz, q0, q1, ra, rb, rc⟩;have g5 := hc0.k0 g9;refine Xd (.tuple #[.agg #[vs r.Id, vi r.Shape.Kind, G al am an, G ag ah ai], .agg #[vs r2.Id, vi r2.Shape.Kind, G eh ei ej, G ek el em], .agg #[vs r3.Id, vi r3.Shape.Kind, G en eo ep, G eq er es]]) Z (Xa (Yj [.agg #[vs r.Id, vi r.Shape.Kind, G al am an, G ag ah ai], .agg #[vs r2.Id, vi r2.Shape.Kind, G eh ei ej, G ek el em], .agg #[vs r3.Id, vi r3.Shape.Kind, G en eo ep, G eq er es]] 0 (.agg #[vs r.Id, vi r.Shape.Kind, G al am an, G ag ah ai]) Z Z) (Xa (Yj [.agg #[vs r.Id, vi r.Shape.Kind, G al am an, G ag ah ai], .agg #[vs r2.Id, vi r2.Shape.Kind, G eh ei ej, G ek el em], .agg #[vs r3.Id, vi r3.Shape.Kind, G en eo ep, G eq er es]] 1 (.agg #[vs r2.Id, vi r2.Shape.Kind, G eh ei ej, G ek el em]) Z Z) (Xa (Yj [.agg #[vs r.Id, vi r.Shape.Kind, G al am an, G ag ah ai], .agg #[vs r2.Id, vi r2.Shape.Kind, G eh ei ej, G ek el em], .agg #[vs r3.Id, vi r3.Shape.Kind, G en eo ep, G eq er es]] 2 (.agg #[vs r3.Id, vi r3.Shape.Kind, G en eo ep, G eq er es]) Z Z) (Yb [vs [], .int .i64 0, G none 0 0, G none 0 0] ze28 fun rd aa g6 hu51 g7 j0 => ?_))));have g8 := g5.own g7 (some aa) (Ya g6 hu51);refine Yb [vs [], .int .i64 0, G none 0 0, G none 0 0] ze28 fun re b8 ha hu59 f5 j1 => ?_;have hb := g8.own f5 (some b8) (Ya ha hu59);refine Yb [vs [], .int .i64 0, G none 0 0, G none 0 0] ze28 fun rf b9 hc hu67 fj j2 => ?_;have fk := hb.own fj (some b9) (Ya hc hu67);have j3 := ((j0.k0 f5).k0 fj);refine Xv aa 0 [vs ([] : Str), vi 0, G none 0 0, G none 0 0] [vs r.Id, vi r.Shape.Kind, G al am an, G ag ah ai] [vs r.Id, vi r.Shape.Kind, G al am an, G ag ah ai] Z j3 Z sz28 Z Z Z fun rg fl j4 => ?_;have fm := fk.wr 2 Z fl;have j5 := (fk.bm (j1.k0 fj) 1 2 Z Z Z fl);refine Xv b8 0 [vs ([] : Str), vi 0, G none 0 0, G none 0 0] [vs r2.Id, vi r2.Shape.Kind, G eh ei ej, G ek el em] [vs r2.Id, vi r2.Shape.Kind, G eh ei ej, G ek el em] Z j5 Z sz28 Z Z Z fun rh fn ri => ?_;have f6 := fm.wr 1 Z fn;have j6 := (fm.bm (fk.bm j2 0 2 Z Z Z fl) 0 1 Z Z Z fn);refine Xv b9 0 [vs ([] : Str), vi 0, G none 0 0, G none 0 0] [vs r3.Id, vi r3.Shape.Kind, G en eo ep, G eq er es] [vs r3.Id, vi r3.Shape.Kind, G en eo ep, G eq er es] Z j6 Z sz28 Z Z Z fun j7 f7 rj => ?_;have dn := f6.wr 0 Z f7;refine Xb (Xc (Xc (Yx (fun x => Gr j7 x none) (by kernel_rfl) (by kernel_rfl) (Gr.drew _) ?_)));have ef := (f6.bm (fm.bm j4 2 1 Z Z Z fn) 2 0 Z Z Z f7);refine Xh (Xs ag28 sz28 cQ ⟨aa, 0, none⟩ [vs r.Id, vi r.Shape.Kind, G al am an, G ag ah ai] Z Z (ef.cells (off := 0) Z)) ?_;have hd := g5.stown _ g7 (Xg g6);have he := g8.stown _ f5 (Xg ha);have hf := hb.stown _ fj (Xg hc);have hg := fk.stw 2 Z fl;have hh := fm.stw 1 Z fn;have hi := f6.stw 0 Z f7;have de := ((((((jy.st hd).st he).st hf).st hg).st hh).st hi);have cz := ((((((jz.st hd).st he).st hf).st hg).st hh).st hi);obtain ⟨q, j8, H⟩ := H;refine Y0 go12 [.agg #[vs r.Id, vi r.Shape.Kind, G al am an, G ag ah ai]] Z (vb q) (fun w g => (F90.calls w (dn.k0 g).ok r al am an ag ah ai cn (de.st (.new _ g)) (cz.st (.new _ g)) _ j8).mono ?_) ?_
 ·rintro _ w ⟨r, rfl, rfl, g2⟩;exact ⟨Z, Gr.t0 g g2⟩
 refine Xh (Xs ag28 sz28 cQ ⟨aa, 0, none⟩ [vs r.Id, vi r.Shape.Kind, G al am an, G ag ah ai] Z Z (ef.cells (off := 0) Z)) ?_;obtain ⟨q2, j9, H⟩ := H;refine Y0 go13 [.agg #[vs r.Id, vi r.Shape.Kind, G al am an, G ag ah ai]] Z (vb q2) (fun w g => (F84.calls w (dn.k0 g).ok r al am an ag ah ai cn (de.st (.new _ g)) (cz.st (.new _ g)) _ j9).mono ?_) ?_
 ·rintro _ w ⟨r, rfl, rfl, g2⟩;exact ⟨Z, Gr.t0 g g2⟩
 refine Xh (Za u4_ q q2 (q != q2) Z Z Z) (X2 (vb (q != q2)) Z ?_);rcases X7 (q != q2) with df | df
 ·have H := Xi H df;refine X1 df Z (X1 df Z (X1 df Z (Xh (Xo true (vb true) df Z) (X2 (vb true) Z (Y3 (dj := 43) Z Z (.inl Z) (Y3 (dj := 43) Z Z (.inl Z) (Y3 (dj := 43) Z Z (.inl Z) (Y3 (dj := 43) Z Z (.inl Z) ?_))))))));refine Xh (Xo true (vb true) Z Z) (Yo fun ka f8 => ?_);have f9 := dn.k0 f8;refine Yn (b := true) Z Z ?_;refine Xc (Yx (fun x => Gr ka x none) (by kernel_rfl) (by kernel_rfl) (Gr.drew _) ?_);have hj := (ef.k0 f8);refine Xh (Xs ag28 sz28 cQ ⟨aa, 0, none⟩ [vs r.Id, vi r.Shape.Kind, G al am an, G ag ah ai] Z Z (hj.cells (off := 0) Z)) ?_;have fo := dn.stn f8;obtain ⟨q3, kb, H⟩ := H;refine Y0 go12 [.agg #[vs r.Id, vi r.Shape.Kind, G al am an, G ag ah ai]] Z (vb q3) (fun w g => (F90.calls w (f9.k0 g).ok r al am an ag ah ai cn ((de.st fo).st (.new _ g)) ((cz.st fo).st (.new _ g)) _ kb).mono ?_) ?_
  ·rintro _ w ⟨r, rfl, rfl, g2⟩;exact ⟨Z, Gr.t0 g g2⟩
  refine Xh (Xs ag28 sz28 cQ ⟨aa, 0, none⟩ [vs r.Id, vi r.Shape.Kind, G al am an, G ag ah ai] Z Z (hj.cells (off := 0) Z)) ?_;obtain ⟨q4, kc, H⟩ := H;refine Y0 go13 [.agg #[vs r.Id, vi r.Shape.Kind, G al am an, G ag ah ai]] Z (vb q4) (fun w g => (F84.calls w (f9.k0 g).ok r al am an ag ah ai cn ((de.st fo).st (.new _ g)) ((cz.st fo).st (.new _ g)) _ kc).mono ?_) ?_
  ·rintro _ w ⟨r, rfl, rfl, g2⟩;exact ⟨Z, Gr.t0 g g2⟩
  refine Xh (Za u4_ q3 q4 (q3 == q4) Z Z Z) (Y4 (vb (q3 == q4)) Z (Yo fun rk kd => ?_));have ke := f9.k0 kd;refine Xk ?_;have kf := ke.clear;exact ⟨[vb (q3 == q4)], ⟨_, Z, Z⟩, q3 == q4, Z, H, kf.gr.g0⟩
 have H := Xj H df;refine Xy df Z (Xh (Xs ag28 sz28 cQ ⟨aa, 0, none⟩ [vs r.Id, vi r.Shape.Kind, G al am an, G ag ah ai] Z Z (ef.cells (off := 0) Z)) (Xy df Z ?_));obtain ⟨q5, kg, H⟩ := H;refine Y0 go13 [.agg #[vs r.Id, vi r.Shape.Kind, G al am an, G ag ah ai]] Z (vb q5) (fun w g => (F84.calls w (dn.k0 g).ok r al am an ag ah ai cn (de.st (.new _ g)) (cz.st (.new _ g)) _ kg).mono ?_) ?_
 ·rintro _ w ⟨r, rfl, rfl, g2⟩;exact ⟨Z, Gr.t0 g g2⟩
 refine Xy df Z (Xh (Yp q5 Z) (Xh (Xo false (vb (!q5)) df Z) (X2 (vb (!q5)) Z ?_)));rcases X7 (!q5) with c0 | c0
 ·have H := Xi H c0;refine X1 c0 Z (X1 c0 Z (X1 c0 Z (X1 c0 Z (Xh (Xo true (vb true) c0 Z) (Yo fun kh ga => ?_)))));have gb := dn.k0 ga;refine Yn (b := true) Z Z ?_;refine Xc (Yx (fun x => Gr kh x none) (by kernel_rfl) (by kernel_rfl) (Gr.drew _) ?_);have hk := (ef.k0 ga);refine Xh (Xs ag28 sz28 cQ ⟨aa, 0, none⟩ [vs r.Id, vi r.Shape.Kind, G al am an, G ag ah ai] Z Z (hk.cells (off := 0) Z)) ?_;have fp := dn.stn ga;obtain ⟨q6, ki, H⟩ := H;refine Y0 go12 [.agg #[vs r.Id, vi r.Shape.Kind, G al am an, G ag ah ai]] Z (vb q6) (fun w g => (F90.calls w (gb.k0 g).ok r al am an ag ah ai cn ((de.st fp).st (.new _ g)) ((cz.st fp).st (.new _ g)) _ ki).mono ?_) ?_
  ·rintro _ w ⟨r, rfl, rfl, g2⟩;exact ⟨Z, Gr.t0 g g2⟩
  refine Xh (Xs ag28 sz28 cQ ⟨aa, 0, none⟩ [vs r.Id, vi r.Shape.Kind, G al am an, G ag ah ai] Z Z (hk.cells (off := 0) Z)) ?_;obtain ⟨q7, kj, H⟩ := H;refine Y0 go13 [.agg #[vs r.Id, vi r.Shape.Kind, G al am an, G ag ah ai]] Z (vb q7) (fun w g => (F84.calls w (gb.k0 g).ok r al am an ag ah ai cn ((de.st fp).st (.new _ g)) ((cz.st fp).st (.new _ g)) _ kj).mono ?_) ?_
  ·rintro _ w ⟨r, rfl, rfl, g2⟩;exact ⟨Z, Gr.t0 g g2⟩
  refine Xh (Za u4_ q6 q7 (q6 == q7) Z Z Z) (Y4 (vb (q6 == q7)) Z (Yo fun rl kk => ?_));have kl := gb.k0 kk;refine Xk ?_;have km := kl.clear;exact ⟨[vb (q6 == q7)], ⟨_, Z, Z⟩, q6 == q7, Z, H, km.gr.g0⟩
 have H := Xj H c0;refine Xy c0 Z (Xh (Xp fa28_2 ⟨aa, 0, none⟩ ⟨aa, 3, none⟩ Z Z) (Xy c0 Z (Xh (Xr ag26 cQ ⟨aa, 3, none⟩ (G ag ah ai) Z (ef.cell Z)) (Xy c0 Z ?_))));have kn := cz.le;refine Xh (X3 u26_ ag ah ai cz.len Z) (Xy c0 Z (Xh (Xz (r.Tags.length : Int) 2 (decide ((r.Tags.length : Int) > 2)) Z Z Z) (Xh (Yt false (vb (decide ((r.Tags.length : Int) > 2))) (by exact congrArg Value.bool c0) Z) (Yo fun hl e5 => ?_))));have e0 := dn.k0 e5;refine Xx (decide ((r.Tags.length : Int) > 2)) Z (fun gc => ?_) (fun gc => ?_)
 ·have H := Xi H gc;refine Xc (Yx (fun x => Gr hl x none) (by kernel_rfl) (by kernel_rfl) (Gr.drew _) ?_);have hm := (ef.k0 e5);refine Xh (Xs ag28 sz28 cQ ⟨aa, 0, none⟩ [vs r.Id, vi r.Shape.Kind, G al am an, G ag ah ai] Z Z (hm.cells (off := 0) Z)) ?_;have fq := dn.stn e5;obtain ⟨q8, ko, H⟩ := H;refine Y0 go12 [.agg #[vs r.Id, vi r.Shape.Kind, G al am an, G ag ah ai]] Z (vb q8) (fun w g => (F90.calls w (e0.k0 g).ok r al am an ag ah ai cn ((de.st fq).st (.new _ g)) ((cz.st fq).st (.new _ g)) _ ko).mono ?_) ?_
  ·rintro _ w ⟨r, rfl, rfl, g2⟩;exact ⟨Z, Gr.t0 g g2⟩
  refine Xh (Xs ag28 sz28 cQ ⟨aa, 0, none⟩ [vs r.Id, vi r.Shape.Kind, G al am an, G ag ah ai] Z Z (hm.cells (off := 0) Z)) ?_;obtain ⟨q9, kp, H⟩ := H;refine Y0 go13 [.agg #[vs r.Id, vi r.Shape.Kind, G al am an, G ag ah ai]] Z (vb q9) (fun w g => (F84.calls w (e0.k0 g).ok r al am an ag ah ai cn ((de.st fq).st (.new _ g)) ((cz.st fq).st (.new _ g)) _ kp).mono ?_) ?_
  ·rintro _ w ⟨r, rfl, rfl, g2⟩;exact ⟨Z, Gr.t0 g g2⟩
  refine Xh (Za u4_ q8 q9 (q8 == q9) Z Z Z) (Y4 (vb (q8 == q9)) Z (Yo fun rm kq => ?_));have kr := e0.k0 kq;refine Xk ?_;have ks := kr.clear;exact ⟨[vb (q8 == q9)], ⟨_, Z, Z⟩, q8 == q9, Z, H, ks.gr.g0⟩
 have H := Xj H gc;refine X0 (Xc (Xe ?_));have hn := (ef.k0 e5);refine Xa (Xs ag28 sz28 cL ⟨aa, 0, none⟩ [vs r.Id, vi r.Shape.Kind, G al am an, G ag ah ai] Z Z (hn.cells (off := 0) Z)) ?_;have fr := dn.stn e5;refine Xt go14 [.agg #[vs r.Id, vi r.Shape.Kind, G al am an, G ag ah ai], vs ([97, 97, 97] : Str), vs ([108, 101, 102, 116] : Str)] Z ((F66.calls hl e0.ok r al am an ag ah ai cn (de.st fr) (cz.st fr) ([97, 97, 97] : Str) (by decide : Lim ([97, 97, 97] : Str)) ([108, 101, 102, 116] : Str) (by decide : Lim ([108, 101, 102, 116] : Str)) _ H).mono ?_);rintro _ rn ⟨r13, r14, ae, bh, bi, ac, bj, bl, rfl, H, gd, kt, ho, et, e1, e2⟩;have hp := e0.owns gd kt ho;refine Xd (.tuple #[.agg #[vs r13.Id, vi r13.Shape.Kind, G ae bh bi, G ac bj bl], vb r14]) Z (Xa (Yj [.agg #[vs r13.Id, vi r13.Shape.Kind, G ae bh bi, G ac bj bl], vb r14] 0 (.agg #[vs r13.Id, vi r13.Shape.Kind, G ae bh bi, G ac bj bl]) Z Z) (Xa (Yj [.agg #[vs r13.Id, vi r13.Shape.Kind, G ae bh bi, G ac bj bl], vb r14] 1 (vb r14) Z Z) (Yb [vs [], .int .i64 0, G none 0 0, G none 0 0] ze28 fun ro ab cw hu218 cq ku => ?_)));have cr := hp.own cq (some ab) (Ya cw hu218);refine Xv ab 0 [vs ([] : Str), vi 0, G none 0 0, G none 0 0] [vs r13.Id, vi r13.Shape.Kind, G ae bh bi, G ac bj bl] [vs r13.Id, vi r13.Shape.Kind, G ae bh bi, G ac bj bl] Z ku Z sz28 Z Z Z fun kv cs kx => ?_;have ge := cr.wr 0 Z cs;refine Xf (vb r14) Z (Xb (Xc (Xe ?_)));have hq := (cr.bm ((hn.k0 gd).k0 cq) 5 0 Z Z Z cs);refine Xa (Xs ag28 sz28 cL ⟨aa, 0, none⟩ [vs r.Id, vi r.Shape.Kind, G al am an, G ag ah ai] Z Z (hq.cells (off := 0) Z)) ?_;have hr := e0.stos gd ho;have hs := hp.stown _ cq (Xg cw);have ht := cr.stw 0 Z cs;have hu := ((((de.st fr).st hr).st hs).st ht);have hv := ((((cz.st fr).st hr).st hs).st ht);refine Xt go14 [.agg #[vs r.Id, vi r.Shape.Kind, G al am an, G ag ah ai], vs ([122, 122, 122] : Str), vs ([114, 105, 103, 104, 116] : Str)] Z ((F66.calls kv ge.ok r al am an ag ah ai cn hu hv ([122, 122, 122] : Str) (by decide : Lim ([122, 122, 122] : Str)) ([114, 105, 103, 104, 116] : Str) (by decide : Lim ([114, 105, 103, 104, 116] : Str)) _ H).mono ?_);rintro _ rp ⟨r15, r16, ca, c6, c7, bz, c8, c9, rfl, H, co, ky, cx, hw, hx, hy⟩;have hz := ge.owns co ky cx;refine Xd (.tuple #[.agg #[vs r15.Id, vi r15.Shape.Kind, G ca c6 c7, G bz c8 c9], vb r16]) Z (Xa (Yj [.agg #[vs r15.Id, vi r15.Shape.Kind, G ca c6 c7, G bz c8 c9], vb r16] 0 (.agg #[vs r15.Id, vi r15.Shape.Kind, G ca c6 c7, G bz c8 c9]) Z Z) (Xa (Yj [.agg #[vs r15.Id, vi r15.Shape.Kind, G ca c6 c7, G bz c8 c9], vb r16] 1 (vb r16) Z Z) (Yb [vs [], .int .i64 0, G none 0 0, G none 0 0] ze28 fun rq b0 ck hu253 cg kz => ?_)));have ch := hz.own cg (some b0) (Ya ck hu253);refine Xv b0 0 [vs ([] : Str), vi 0, G none 0 0, G none 0 0] [vs r15.Id, vi r15.Shape.Kind, G ca c6 c7, G bz c8 c9] [vs r15.Id, vi r15.Shape.Kind, G ca c6 c7, G bz c8 c9] Z kz Z sz28 Z Z Z fun k1 ci k2 => ?_;have eu := ch.wr 0 Z ci;refine Xf (vb r16) Z (Xb (Xc (Xe ?_)));have h0 := (ch.bm ((hq.k0 co).k0 cg) 8 0 Z Z Z ci);refine Xa (Xs ag28 sz28 cL ⟨aa, 0, none⟩ [vs r.Id, vi r.Shape.Kind, G al am an, G ag ah ai] Z Z (h0.cells (off := 0) Z)) ?_;have h1 := ge.stos co cx;have h2 := hz.stown _ cg (Xg ck);have h3 := ch.stw 0 Z ci;have e6 := (((hu.st h1).st h2).st h3);have e3 := (((hv.st h1).st h2).st h3);refine Xt go14 [.agg #[vs r.Id, vi r.Shape.Kind, G al am an, G ag ah ai], vs ([97, 97, 97] : Str), vs ([114, 105, 103, 104, 116] : Str)] Z ((F66.calls k1 eu.ok r al am an ag ah ai cn e6 e3 ([97, 97, 97] : Str) (by decide : Lim ([97, 97, 97] : Str)) ([114, 105, 103, 104, 116] : Str) (by decide : Lim ([114, 105, 103, 104, 116] : Str)) _ H).mono ?_);rintro _ rr ⟨r17, r18, av, dq, dr, ar, ds, dt, rfl, H, bv, k3, cb, k4, k5, k6⟩;have e4 := eu.owns bv k3 cb;refine Xd (.tuple #[.agg #[vs r17.Id, vi r17.Shape.Kind, G av dq dr, G ar ds dt], vb r18]) Z (Xa (Yj [.agg #[vs r17.Id, vi r17.Shape.Kind, G av dq dr, G ar ds dt], vb r18] 0 (.agg #[vs r17.Id, vi r17.Shape.Kind, G av dq dr, G ar ds dt]) Z Z) (Xa (Yj [.agg #[vs r17.Id, vi r17.Shape.Kind, G av dq dr, G ar ds dt], vb r18] 1 (vb r18) Z Z) (Yb [vs [], .int .i64 0, G none 0 0, G none 0 0] ze28 fun rs aw b1 hu288 bn k7 => ?_)));have bo := e4.own bn (some aw) (Ya b1 hu288);refine Xv aw 0 [vs ([] : Str), vi 0, G none 0 0, G none 0 0] [vs r17.Id, vi r17.Shape.Kind, G av dq dr, G ar ds dt] [vs r17.Id, vi r17.Shape.Kind, G av dq dr, G ar ds dt] Z k7 Z sz28 Z Z Z fun h4 bp k8 => ?_;have da := bo.wr 0 Z bp;refine Xf (vb r18) Z (Xb (Xc (Xe ?_)));have h5 := (bo.bm ((h0.k0 bv).k0 bn) 11 0 Z Z Z bp);refine Xa (Xs ag28 sz28 cL ⟨aa, 0, none⟩ [vs r.Id, vi r.Shape.Kind, G al am an, G ag ah ai] Z Z (h5.cells (off := 0) Z)) ?_;have h6 := (bo.bm (((ch.bm ((kx.k0 co).k0 cg) 3 0 Z Z Z ci).k0 bv).k0 bn) 6 0 Z Z Z bp);refine Xa (Xs ag28 sz28 cL ⟨ab, 0, none⟩ [vs r13.Id, vi r13.Shape.Kind, G ae bh bi, G ac bj bl] Z Z (h6.cells (off := 0) Z)) ?_;have h7 := (bo.bm ((k2.k0 bv).k0 bn) 3 0 Z Z Z bp);refine Xa (Xs ag28 sz28 cL ⟨b0, 0, none⟩ [vs r15.Id, vi r15.Shape.Kind, G ca c6 c7, G bz c8 c9] Z Z (h7.cells (off := 0) Z)) ?_;have k9 := (bo.sw (((ch.sw (((cr.sw (e1.so _ cq (Xg cw)) 1 0 Z Z Z cs).sos co cx).so _ cg (Xg ck)) 4 0 Z Z Z ci).sos bv cb).so _ bn (Xg b1)) 7 0 Z Z Z bp);have la := da.gv k9 7 Z;have e7 := da.drop 7 Z;have lb := (da.sd (bo.sw (((ch.sw (((cr.sw (e2.so _ cq (Xg cw)) 2 0 Z Z Z cs).sos co cx).so _ cg (Xg ck)) 5 0 Z Z Z ci).sos bv cb).so _ bn (Xg b1)) 8 0 Z Z Z bp) 8 7 Z Z Z);have lc := e7.gv lb 7 Z;have fs := e7.drop 7 Z;have ld := (e7.sd (da.sd (bo.sw (((ch.sw (hx.so _ cg (Xg ck)) 1 0 Z Z Z ci).sos bv cb).so _ bn (Xg b1)) 4 0 Z Z Z bp) 4 7 Z Z Z) 4 7 Z Z Z);have lf := fs.gv ld 4 Z;have gf : Ct [] w0 h4 [some aw, bk av, bk ar, some b0, bk bz, some ab, some b9, some b8, some aa] O := fs.drop 4 Z;have lg := (fs.sd (e7.sd (da.sd (bo.sw (((ch.sw (hy.so _ cg (Xg ck)) 2 0 Z Z Z ci).sos bv cb).so _ bn (Xg b1)) 5 0 Z Z Z bp) 5 7 Z Z Z) 5 7 Z Z Z) 5 4 Z Z Z);have lh := gf.gv lg 4 Z;have li := gf.drop 4 Z;have h8 := eu.stos bv cb;have h9 := e4.stown _ bn (Xg b1);have ia := bo.stw 0 Z bp;have ib := da.std 7 Z;have gg := e7.std 7 Z;have ft := fs.std 4 Z;have e8 := gf.std 4 Z;have lj := (((((((e6.st h8).st h9).st ia).st ib).st gg).st ft).st e8);have lk := (((((((e3.st h8).st h9).st ia).st ib).st gg).st ft).st e8);have ll := (((la.st gg).st ft).st e8);have lm := ((lc.st ft).st e8);refine Xt go15 [.agg #[vs r.Id, vi r.Shape.Kind, G al am an, G ag ah ai], .agg #[vs r13.Id, vi r13.Shape.Kind, G ae bh bi, G ac bj bl], .agg #[vs r15.Id, vi r15.Shape.Kind, G ca c6 c7, G bz c8 c9]] Z ((F52.calls h4 li.ok r al am an ag ah ai cn lj lk r13 ae bh bi ac bj bl et ll lm r15 ca c6 c7 bz c8 c9 hw (lf.st e8) lh _ H).mono ?_);rintro _ rt ⟨r19, r20, af, ct, cu, ad, cl, cm, aj, du, dv, rfl, H, b2, ln, cj, gh, lo, lp, lq⟩;have lr := Ok.unl (L := [some aw, bk av, bk ar, some b0, bk ca, bk bz, some ab, bk ae, bk ac, some b9, some b8, some aa]) (L' := [some aw, bk av, bk ar, some b0, some ab, some b9, some b8, some aa]) (O := O) da b2 ln cj;have gi := Ow.unl (L := [some aw, bk av, bk ar, some b0, bk ca, bk bz, some ab, bk ae, bk ac, some b9, some b8, some aa]) (L' := [some aw, bk av, bk ar, some b0, some ab, some b9, some b8, some aa]) (O := O) (fun _ _ _ _ _ _ h => h) (.cons_cons _ (.cons_cons _ (.cons_cons _ (.cons_cons _ (.cons _ (.cons _ (.cons_cons _ (.cons _ (.cons _ (.cons_cons _ (.cons_cons _ (.cons_cons _ (.slnil))))))))))))) lo;have fu := Ow.unl (L := [some aw, bk av, bk ar, some b0, bk ca, bk bz, some ab, bk ae, bk ac, some b9, some b8, some aa]) (L' := [some aw, bk av, bk ar, some b0, some ab, some b9, some b8, some aa]) (O := O) (fun _ _ _ _ _ _ h => h) (.cons_cons _ (.cons_cons _ (.cons_cons _ (.cons_cons _ (.cons _ (.cons _ (.cons_cons _ (.cons _ (.cons _ (.cons_cons _ (.cons_cons _ (.cons_cons _ (.slnil))))))))))))) lp;have ls := Ow.unl (L := [some aw, bk av, bk ar, some b0, bk ca, bk bz, some ab, bk ae, bk ac, some b9, some b8, some aa]) (L' := [some aw, bk av, bk ar, some b0, some ab, some b9, some b8, some aa]) (O := O) (fun _ _ _ _ _ _ h => h) (.cons_cons _ (.cons_cons _ (.cons_cons _ (.cons_cons _ (.cons _ (.cons _ (.cons_cons _ (.cons _ (.cons _ (.cons_cons _ (.cons_cons _ (.cons_cons _ (.slnil))))))))))))) lq;have e9 := da.owns b2 lr cj;refine Xd (.tuple #[.agg #[vs r19.Id, vi r19.Shape.Kind, G af ct cu, G ad cl cm], G aj du dv]) Z (Xa (Yj [.agg #[vs r19.Id, vi r19.Shape.Kind, G af ct cu, G ad cl cm], G aj du dv] 0 (.agg #[vs r19.Id, vi r19.Shape.Kind, G af ct cu, G ad cl cm]) Z Z) (Xa (Yj [.agg #[vs r19.Id, vi r19.Shape.Kind, G af ct cu, G ad cl cm], G aj du dv] 1 (G aj du dv) Z Z) (Yb [vs [], .int .i64 0, G none 0 0, G none 0 0] ze28 fun ru ak bq hu356 a2 lt => ?_)));have a3 := e9.own a2 (some ak) (Ya bq hu356);refine Xv ak 0 [vs ([] : Str), vi 0, G none 0 0, G none 0 0] [vs r19.Id, vi r19.Shape.Kind, G af ct cu, G ad cl cm] [vs r19.Id, vi r19.Shape.Kind, G af ct cu, G ad cl cm] Z lt Z sz28 Z Z Z fun ic a4 lu => ?_;have dg := a3.wr 0 Z a4;refine Xf (G aj du dv) Z (Xb (Xc (Xe ?_)));have id := (a3.bm ((h5.k0 b2).k0 a2) 15 0 Z Z Z a4);refine Xa (Xs ag28 sz28 cL ⟨aa, 0, none⟩ [vs r.Id, vi r.Shape.Kind, G al am an, G ag ah ai] Z Z (id.cells (off := 0) Z)) ?_;have ie := (a3.bm ((h6.k0 b2).k0 a2) 10 0 Z Z Z a4);refine Xa (Xs ag28 sz28 cL ⟨ab, 0, none⟩ [vs r13.Id, vi r13.Shape.Kind, G ae bh bi, G ac bj bl] Z Z (ie.cells (off := 0) Z)) ?_;have lv := (a3.bm ((h7.k0 b2).k0 a2) 7 0 Z Z Z a4);refine Xa (Xs ag28 sz28 cL ⟨b0, 0, none⟩ [vs r15.Id, vi r15.Shape.Kind, G ca c6 c7, G bz c8 c9] Z Z (lv.cells (off := 0) Z)) ?_;have lw := (a3.sw (((bo.sw (((ch.sw (((cr.sw (e1.so _ cq (Xg cw)) 1 0 Z Z Z cs).sos co cx).so _ cg (Xg ck)) 4 0 Z Z Z ci).sos bv cb).so _ bn (Xg b1)) 7 0 Z Z Z bp).sos b2 cj).so _ a2 (Xg bq)) 11 0 Z Z Z a4);have lx := dg.gv lw 11 Z;have fa := dg.drop 11 Z;have ly := (dg.sd (a3.sw (((bo.sw (((ch.sw (((cr.sw (e2.so _ cq (Xg cw)) 2 0 Z Z Z cs).sos co cx).so _ cg (Xg ck)) 5 0 Z Z Z ci).sos bv cb).so _ bn (Xg b1)) 8 0 Z Z Z bp).sos b2 cj).so _ a2 (Xg bq)) 12 0 Z Z Z a4) 12 11 Z Z Z);have lz := fa.gv ly 11 Z;have fv := fa.drop 11 Z;have l0 := (fa.sd (dg.sd (a3.sw (((bo.sw (((ch.sw (hx.so _ cg (Xg ck)) 1 0 Z Z Z ci).sos bv cb).so _ bn (Xg b1)) 4 0 Z Z Z bp).sos b2 cj).so _ a2 (Xg bq)) 8 0 Z Z Z a4) 8 11 Z Z Z) 8 11 Z Z Z);have l1 := fv.gv l0 8 Z;have gj : Ct [] w0 ic [some ak, bk af, bk ad, bk aj, some aw, bk av, bk ar, some b0, bk bz, some ab, some b9, some b8, some aa] O := fv.drop 8 Z;have l2 := (fv.sd (fa.sd (dg.sd (a3.sw (((bo.sw (((ch.sw (hy.so _ cg (Xg ck)) 2 0 Z Z Z ci).sos bv cb).so _ bn (Xg b1)) 5 0 Z Z Z bp).sos b2 cj).so _ a2 (Xg bq)) 9 0 Z Z Z a4) 9 11 Z Z Z) 9 11 Z Z Z) 9 8 Z Z Z);have l3 := gj.gv l2 8 Z;have l4 := gj.drop 8 Z;have ig := eu.stos bv cb;have ih := e4.stown _ bn (Xg b1);have ii := bo.stw 0 Z bp;have ij := da.stos b2 cj;have ik := e9.stown _ a2 (Xg bq);have il := a3.stw 0 Z a4;have im := dg.std 11 Z;have gk := fa.std 11 Z;have fw := fv.std 8 Z;have fb := gj.std 8 Z;have l5 := ((((((((((e6.st ig).st ih).st ii).st ij).st ik).st il).st im).st gk).st fw).st fb);have l6 := ((((((((((e3.st ig).st ih).st ii).st ij).st ik).st il).st im).st gk).st fw).st fb);have l7 := (((lx.st gk).st fw).st fb);have l8 := ((lz.st fw).st fb);refine Xt go16 [.agg #[vs r.Id, vi r.Shape.Kind, G al am an, G ag ah ai], .agg #[vs r13.Id, vi r13.Shape.Kind, G ae bh bi, G ac bj bl], .agg #[vs r15.Id, vi r15.Shape.Kind, G ca c6 c7, G bz c8 c9]] Z ((F54.calls ic l4.ok r al am an ag ah ai cn l5 l6 r13 ae bh bi ac bj bl et l7 l8 r15 ca c6 c7 bz c8 c9 hw (l1.st fb) l3 _ H).mono ?_);rintro _ rv ⟨r21, r22, ap, dw, dx, ao, dy, dz, aq, ev, ew, rfl, H, br, l9, b4, ma, mb, mc, md⟩;have me := Ok.unl (L := [some ak, bk af, bk ad, bk aj, some aw, bk av, bk ar, some b0, bk ca, bk bz, some ab, bk ae, bk ac, some b9, some b8, some aa]) (L' := [some ak, bk af, bk ad, bk aj, some aw, bk av, bk ar, some b0, some ab, some b9, some b8, some aa]) (O := O) dg br l9 b4;have mf := Ow.unl (L := [some ak, bk af, bk ad, bk aj, some aw, bk av, bk ar, some b0, bk ca, bk bz, some ab, bk ae, bk ac, some b9, some b8, some aa]) (L' := [some ak, bk af, bk ad, bk aj, some aw, bk av, bk ar, some b0, some ab, some b9, some b8, some aa]) (O := O) (fun _ _ _ _ _ _ h => h) (.cons_cons _ (.cons_cons _ (.cons_cons _ (.cons_cons _ (.cons_cons _ (.cons_cons _ (.cons_cons _ (.cons_cons _ (.cons _ (.cons _ (.cons_cons _ (.cons _ (.cons _ (.cons_cons _ (.cons_cons _ (.cons_cons _ (.slnil))))))))))))))))) mb;have mg := Ow.unl (L := [some ak, bk af, bk ad, bk aj, some aw, bk av, bk ar, some b0, bk ca, bk bz, some ab, bk ae, bk ac, some b9, some b8, some aa]) (L' := [some ak, bk af, bk ad, bk aj, some aw, bk av, bk ar, some b0, some ab, some b9, some b8, some aa]) (O := O) (fun _ _ _ _ _ _ h => h) (.cons_cons _ (.cons_cons _ (.cons_cons _ (.cons_cons _ (.cons_cons _ (.cons_cons _ (.cons_cons _ (.cons_cons _ (.cons _ (.cons _ (.cons_cons _ (.cons _ (.cons _ (.cons_cons _ (.cons_cons _ (.cons_cons _ (.slnil))))))))))))))))) mc;have mh := Ow.unl (L := [some ak, bk af, bk ad, bk aj, some aw, bk av, bk ar, some b0, bk ca, bk bz, some ab, bk ae, bk ac, some b9, some b8, some aa]) (L' := [some ak, bk af, bk ad, bk aj, some aw, bk av, bk ar, some b0, some ab, some b9, some b8, some aa]) (O := O) (fun _ _ _ _ _ _ h => h) (.cons_cons _ (.cons_cons _ (.cons_cons _ (.cons_cons _ (.cons_cons _ (.cons_cons _ (.cons_cons _ (.cons_cons _ (.cons _ (.cons _ (.cons_cons _ (.cons _ (.cons _ (.cons_cons _ (.cons_cons _ (.cons_cons _ (.slnil))))))))))))))))) md;have fx := dg.owns br me b4;refine Xd (.tuple #[.agg #[vs r21.Id, vi r21.Shape.Kind, G ap dw dx, G ao dy dz], G aq ev ew]) Z (Xa (Yj [.agg #[vs r21.Id, vi r21.Shape.Kind, G ap dw dx, G ao dy dz], G aq ev ew] 0 (.agg #[vs r21.Id, vi r21.Shape.Kind, G ap dw dx, G ao dy dz]) Z Z) (Xa (Yj [.agg #[vs r21.Id, vi r21.Shape.Kind, G ap dw dx, G ao dy dz], G aq ev ew] 1 (G aq ev ew) Z Z) (Yb [vs [], .int .i64 0, G none 0 0, G none 0 0] ze28 fun rw au bw hu427 ba mi => ?_)));have bb := fx.own ba (some au) (Ya bw hu427);refine Xv au 0 [vs ([] : Str), vi 0, G none 0 0, G none 0 0] [vs r21.Id, vi r21.Shape.Kind, G ap dw dx, G ao dy dz] [vs r21.Id, vi r21.Shape.Kind, G ap dw dx, G ao dy dz] Z mi Z sz28 Z Z Z fun mj bc mk => ?_;have cc := bb.wr 0 Z bc;refine Xf (G aq ev ew) Z (Xb (Xc ?_));have bs : ([some au, bk ap, bk ao, bk aq, some ak, bk af, bk ad, bk aj, some aw, bk av, bk ar, some b0, bk ca, bk bz, some ab, bk ae, bk ac, some b9, some b8, some aa] : Ob).Perm ((some b0 :: bk ca :: bk bz :: some b9 :: some b8 :: []) ++ [some au, bk ap, bk ao, bk aq, some ak, bk af, bk ad, bk aj, some aw, bk av, bk ar, some ab, bk ae, bk ac, some aa]) := (pc fun a => by (try simp only [pca, pcc, pcn, Nat.add_zero, Nat.zero_add]); first | done | ac_rfl);have eg := cc.drops bs;refine Xe ?_;have io := (bb.bm ((id.k0 br).k0 ba) 19 0 Z Z Z bc);refine Xa (Xs ag28 sz28 cL ⟨aa, 0, none⟩ [vs r.Id, vi r.Shape.Kind, G al am an, G ag ah ai] Z Z (io.cells (off := 0) Z)) ?_;have gl := (bb.bm ((ie.k0 br).k0 ba) 14 0 Z Z Z bc);refine Xa (Xs ag28 sz28 cL ⟨ab, 0, none⟩ [vs r13.Id, vi r13.Shape.Kind, G ae bh bi, G ac bj bl] Z Z (gl.cells (off := 0) Z)) (Xa (Xs ag28 sz28 cL ⟨ab, 0, none⟩ [vs r13.Id, vi r13.Shape.Kind, G ae bh bi, G ac bj bl] Z Z (gl.cells (off := 0) Z)) ?_);have ml := (cc.odr (bb.sw (((a3.sw (((bo.sw (((ch.sw (((cr.sw (e1.so _ cq (Xg cw)) 1 0 Z Z Z cs).sos co cx).so _ cg (Xg ck)) 4 0 Z Z Z ci).sos bv cb).so _ bn (Xg b1)) 7 0 Z Z Z bp).sos b2 cj).so _ a2 (Xg bq)) 11 0 Z Z Z a4).sos br b4).so _ ba (Xg bw)) 15 0 Z Z Z bc) bs 12 Z);have ip := eg.gv ml 12 Z;have gm := eg.drop 12 Z;have mm := (eg.sd (cc.odr (bb.sw (((a3.sw (((bo.sw (((ch.sw (((cr.sw (e2.so _ cq (Xg cw)) 2 0 Z Z Z cs).sos co cx).so _ cg (Xg ck)) 5 0 Z Z Z ci).sos bv cb).so _ bn (Xg b1)) 8 0 Z Z Z bp).sos b2 cj).so _ a2 (Xg bq)) 12 0 Z Z Z a4).sos br b4).so _ ba (Xg bw)) 16 0 Z Z Z bc) bs 13 Z) 13 12 Z Z Z);have iq := gm.gv mm 12 Z;have mn := gm.drop 12 Z;have ir := eu.stos bv cb;have it := e4.stown _ bn (Xg b1);have iu := bo.stw 0 Z bp;have iv := da.stos b2 cj;have iw := e9.stown _ a2 (Xg bq);have ix := a3.stw 0 Z a4;have iy := dg.stos br b4;have iz := fx.stown _ ba (Xg bw);have i0 := bb.stw 0 Z bc;have i1 := eg.std 12 Z;have fy := gm.std 12 Z;have mo := ((((((((((((e6.st ir).st it).st iu).st iv).st iw).st ix).st iy).st iz).st i0).st (St.drops _ O bs)).st i1).st fy);have mp := ((((((((((((e3.st ir).st it).st iu).st iv).st iw).st ix).st iy).st iz).st i0).st (St.drops _ O bs)).st i1).st fy);refine Xt go15 [.agg #[vs r.Id, vi r.Shape.Kind, G al am an, G ag ah ai], .agg #[vs r13.Id, vi r13.Shape.Kind, G ae bh bi, G ac bj bl], .agg #[vs r13.Id, vi r13.Shape.Kind, G ae bh bi, G ac bj bl]] Z ((F52.calls mj mn.ok r al am an ag ah ai cn mo mp r13 ae bh bi ac bj bl et (ip.st fy) iq r13 ae bh bi ac bj bl et (ip.st fy) iq _ H).mono ?_);rintro _ rx ⟨r23, r24, ax, d0, d1, ay, d2, d3, az, ex, ey, rfl, H, bd, mq, b5, mr, ms, mt, mu⟩;have mv := Ok.unl (L := [some au, bk ap, bk ao, bk aq, some ak, bk af, bk ad, bk aj, some aw, bk av, bk ar, some ab, bk ae, bk ac, some aa]) (L' := [some au, bk ap, bk ao, bk aq, some ak, bk af, bk ad, bk aj, some aw, bk av, bk ar, some ab, some aa]) (O := O) eg bd mq b5;have mw := Ow.unl (L := [some au, bk ap, bk ao, bk aq, some ak, bk af, bk ad, bk aj, some aw, bk av, bk ar, some ab, bk ae, bk ac, some aa]) (L' := [some au, bk ap, bk ao, bk aq, some ak, bk af, bk ad, bk aj, some aw, bk av, bk ar, some ab, some aa]) (O := O) (fun _ _ _ _ _ _ h => h) (.cons_cons _ (.cons_cons _ (.cons_cons _ (.cons_cons _ (.cons_cons _ (.cons_cons _ (.cons_cons _ (.cons_cons _ (.cons_cons _ (.cons_cons _ (.cons_cons _ (.cons_cons _ (.cons _ (.cons _ (.cons_cons _ (.slnil)))))))))))))))) ms;have mx := Ow.unl (L := [some au, bk ap, bk ao, bk aq, some ak, bk af, bk ad, bk aj, some aw, bk av, bk ar, some ab, bk ae, bk ac, some aa]) (L' := [some au, bk ap, bk ao, bk aq, some ak, bk af, bk ad, bk aj, some aw, bk av, bk ar, some ab, some aa]) (O := O) (fun _ _ _ _ _ _ h => h) (.cons_cons _ (.cons_cons _ (.cons_cons _ (.cons_cons _ (.cons_cons _ (.cons_cons _ (.cons_cons _ (.cons_cons _ (.cons_cons _ (.cons_cons _ (.cons_cons _ (.cons_cons _ (.cons _ (.cons _ (.cons_cons _ (.slnil)))))))))))))))) mt;have my := Ow.unl (L := [some au, bk ap, bk ao, bk aq, some ak, bk af, bk ad, bk aj, some aw, bk av, bk ar, some ab, bk ae, bk ac, some aa]) (L' := [some au, bk ap, bk ao, bk aq, some ak, bk af, bk ad, bk aj, some aw, bk av, bk ar, some ab, some aa]) (O := O) (fun _ _ _ _ _ _ h => h) (.cons_cons _ (.cons_cons _ (.cons_cons _ (.cons_cons _ (.cons_cons _ (.cons_cons _ (.cons_cons _ (.cons_cons _ (.cons_cons _ (.cons_cons _ (.cons_cons _ (.cons_cons _ (.cons _ (.cons _ (.cons_cons _ (.slnil)))))))))))))))) mu;have gn := eg.owns bd mv b5;refine Xd (.tuple #[.agg #[vs r23.Id, vi r23.Shape.Kind, G ax d0 d1, G ay d2 d3], G az ex ey]) Z (Xa (Yj [.agg #[vs r23.Id, vi r23.Shape.Kind, G ax d0 d1, G ay d2 d3], G az ex ey] 0 (.agg #[vs r23.Id, vi r23.Shape.Kind, G ax d0 d1, G ay d2 d3]) Z Z) (Xa (Yj [.agg #[vs r23.Id, vi r23.Shape.Kind, G ax d0 d1, G ay d2 d3], G az ex ey] 1 (G az ex ey) Z Z) (Yb [vs [], .int .i64 0, G none 0 0, G none 0 0] ze28 fun ry a0 bx hu490 a7 mz => ?_)));have a8 := gn.own a7 (some a0) (Ya bx hu490);refine Xv a0 0 [vs ([] : Str), vi 0, G none 0 0, G none 0 0] [vs r23.Id, vi r23.Shape.Kind, G ax d0 d1, G ay d2 d3] [vs r23.Id, vi r23.Shape.Kind, G ax d0 d1, G ay d2 d3] Z mz Z sz28 Z Z Z fun i2 a9 m0 => ?_;have d4 := a8.wr 0 Z a9;refine Xf (G az ex ey) Z (Xb (Xc (Xe ?_)));have i3 := (a8.bm ((io.k0 bd).k0 a7) 18 0 Z Z Z a9);refine Xa (Xs ag28 sz28 cL ⟨aa, 0, none⟩ [vs r.Id, vi r.Shape.Kind, G al am an, G ag ah ai] Z Z (i3.cells (off := 0) Z)) ?_;have i4 := (a8.bm ((gl.k0 bd).k0 a7) 15 0 Z Z Z a9);refine Xa (Xs ag28 sz28 cL ⟨ab, 0, none⟩ [vs r13.Id, vi r13.Shape.Kind, G ae bh bi, G ac bj bl] Z Z (i4.cells (off := 0) Z)) ?_;have m1 := (a8.bm (((bb.bm (((a3.bm ((k8.k0 b2).k0 a2) 4 0 Z Z Z a4).k0 br).k0 ba) 8 0 Z Z Z bc).k0 bd).k0 a7) 12 0 Z Z Z a9);refine Xa (Xs ag28 sz28 cL ⟨aw, 0, none⟩ [vs r17.Id, vi r17.Shape.Kind, G av dq dr, G ar ds dt] Z Z (m1.cells (off := 0) Z)) ?_;have m2 := (a8.sw (((cc.odr (bb.sw (((a3.sw (((bo.sw (((ch.sw (((cr.sw (e1.so _ cq (Xg cw)) 1 0 Z Z Z cs).sos co cx).so _ cg (Xg ck)) 4 0 Z Z Z ci).sos bv cb).so _ bn (Xg b1)) 7 0 Z Z Z bp).sos b2 cj).so _ a2 (Xg bq)) 11 0 Z Z Z a4).sos br b4).so _ ba (Xg bw)) 15 0 Z Z Z bc) bs 12 Z).sos bd b5).so _ a7 (Xg bx)) 16 0 Z Z Z a9);have m3 := d4.gv m2 16 Z;have fc := d4.drop 16 Z;have m4 := (d4.sd (a8.sw (((cc.odr (bb.sw (((a3.sw (((bo.sw (((ch.sw (((cr.sw (e2.so _ cq (Xg cw)) 2 0 Z Z Z cs).sos co cx).so _ cg (Xg ck)) 5 0 Z Z Z ci).sos bv cb).so _ bn (Xg b1)) 8 0 Z Z Z bp).sos b2 cj).so _ a2 (Xg bq)) 12 0 Z Z Z a4).sos br b4).so _ ba (Xg bw)) 16 0 Z Z Z bc) bs 13 Z).sos bd b5).so _ a7 (Xg bx)) 17 0 Z Z Z a9) 17 16 Z Z Z);have m5 := fc.gv m4 16 Z;have fz := fc.drop 16 Z;have m6 := (fc.sd (d4.sd (a8.sw (((cc.odr (bb.sw (((a3.sw (((bo.sw (k5.so _ bn (Xg b1)) 1 0 Z Z Z bp).sos b2 cj).so _ a2 (Xg bq)) 5 0 Z Z Z a4).sos br b4).so _ ba (Xg bw)) 9 0 Z Z Z bc) bs 9 Z).sos bd b5).so _ a7 (Xg bx)) 13 0 Z Z Z a9) 13 16 Z Z Z) 13 16 Z Z Z);have m7 := fz.gv m6 13 Z;have gp : Ct [] w0 i2 [some a0, bk ax, bk ay, bk az, some au, bk ap, bk ao, bk aq, some ak, bk af, bk ad, bk aj, some aw, bk ar, some ab, some aa] O := fz.drop 13 Z;have m8 := (fz.sd (fc.sd (d4.sd (a8.sw (((cc.odr (bb.sw (((a3.sw (((bo.sw (k6.so _ bn (Xg b1)) 2 0 Z Z Z bp).sos b2 cj).so _ a2 (Xg bq)) 6 0 Z Z Z a4).sos br b4).so _ ba (Xg bw)) 10 0 Z Z Z bc) bs 10 Z).sos bd b5).so _ a7 (Xg bx)) 14 0 Z Z Z a9) 14 16 Z Z Z) 14 16 Z Z Z) 14 13 Z Z Z);have m9 := gp.gv m8 13 Z;have na := gp.drop 13 Z;have i5 := eu.stos bv cb;have i6 := e4.stown _ bn (Xg b1);have i7 := bo.stw 0 Z bp;have i8 := da.stos b2 cj;have i9 := e9.stown _ a2 (Xg bq);have ja := a3.stw 0 Z a4;have jb := dg.stos br b4;have jc := fx.stown _ ba (Xg bw);have jd := bb.stw 0 Z bc;have je := eg.stos bd b5;have jf := gn.stown _ a7 (Xg bx);have jg := a8.stw 0 Z a9;have jh := d4.std 16 Z;have gq := fc.std 16 Z;have f0 := fz.std 13 Z;have fd := gp.std 13 Z;have nb := (((((((((((((((((e6.st i5).st i6).st i7).st i8).st i9).st ja).st jb).st jc).st jd).st (St.drops _ O bs)).st je).st jf).st jg).st jh).st gq).st f0).st fd);have nc := (((((((((((((((((e3.st i5).st i6).st i7).st i8).st i9).st ja).st jb).st jc).st jd).st (St.drops _ O bs)).st je).st jf).st jg).st jh).st gq).st f0).st fd);have nd := (((m3.st gq).st f0).st fd);have ne := ((m5.st f0).st fd);refine Xt go15 [.agg #[vs r.Id, vi r.Shape.Kind, G al am an, G ag ah ai], .agg #[vs r13.Id, vi r13.Shape.Kind, G ae bh bi, G ac bj bl], .agg #[vs r17.Id, vi r17.Shape.Kind, G av dq dr, G ar ds dt]] Z ((F52.calls i2 na.ok r al am an ag ah ai cn nb nc r13 ae bh bi ac bj bl et nd ne r17 av dq dr ar ds dt k4 (m7.st fd) m9 _ H).mono ?_);rintro _ rz ⟨r25, r26, a5, d5, d6, a6, d7, d8, a1, d9, ea, rfl, H, bt, nf, ce, ng, nh, ni, nj⟩;have nk := Ok.unl (L := [some a0, bk ax, bk ay, bk az, some au, bk ap, bk ao, bk aq, some ak, bk af, bk ad, bk aj, some aw, bk av, bk ar, some ab, bk ae, bk ac, some aa]) (L' := [some a0, bk ax, bk ay, bk az, some au, bk ap, bk ao, bk aq, some ak, bk af, bk ad, bk aj, some aw, some ab, some aa]) (O := O) d4 bt nf ce;have nl := Ow.unl (L := [some a0, bk ax, bk ay, bk az, some au, bk ap, bk ao, bk aq, some ak, bk af, bk ad, bk aj, some aw, bk av, bk ar, some ab, bk ae, bk ac, some aa]) (L' := [some a0, bk ax, bk ay, bk az, some au, bk ap, bk ao, bk aq, some ak, bk af, bk ad, bk aj, some aw, some ab, some aa]) (O := O) (fun _ _ _ _ _ _ h => h) (.cons_cons _ (.cons_cons _ (.cons_cons _ (.cons_cons _ (.cons_cons _ (.cons_cons _ (.cons_cons _ (.cons_cons _ (.cons_cons _ (.cons_cons _ (.cons_cons _ (.cons_cons _ (.cons_cons _ (.cons _ (.cons _ (.cons_cons _ (.cons _ (.cons _ (.cons_cons _ (.slnil)))))))))))))))))))) nh;have nm := Ow.unl (L := [some a0, bk ax, bk ay, bk az, some au, bk ap, bk ao, bk aq, some ak, bk af, bk ad, bk aj, some aw, bk av, bk ar, some ab, bk ae, bk ac, some aa]) (L' := [some a0, bk ax, bk ay, bk az, some au, bk ap, bk ao, bk aq, some ak, bk af, bk ad, bk aj, some aw, some ab, some aa]) (O := O) (fun _ _ _ _ _ _ h => h) (.cons_cons _ (.cons_cons _ (.cons_cons _ (.cons_cons _ (.cons_cons _ (.cons_cons _ (.cons_cons _ (.cons_cons _ (.cons_cons _ (.cons_cons _ (.cons_cons _ (.cons_cons _ (.cons_cons _ (.cons _ (.cons _ (.cons_cons _ (.cons _ (.cons _ (.cons_cons _ (.slnil)))))))))))))))))))) ni;have nn := Ow.unl (L := [some a0, bk ax, bk ay, bk az, some au, bk ap, bk ao, bk aq, some ak, bk af, bk ad, bk aj, some aw, bk av, bk ar, some ab, bk ae, bk ac, some aa]) (L' := [some a0, bk ax, bk ay, bk az, some au, bk ap, bk ao, bk aq, some ak, bk af, bk ad, bk aj, some aw, some ab, some aa]) (O := O) (fun _ _ _ _ _ _ h => h) (.cons_cons _ (.cons_cons _ (.cons_cons _ (.cons_cons _ (.cons_cons _ (.cons_cons _ (.cons_cons _ (.cons_cons _ (.cons_cons _ (.cons_cons _ (.cons_cons _ (.cons_cons _ (.cons_cons _ (.cons _ (.cons _ (.cons_cons _ (.cons _ (.cons _ (.cons_cons _ (.slnil)))))))))))))))))))) nj;have ji := d4.owns bt nk ce;refine Xd (.tuple #[.agg #[vs r25.Id, vi r25.Shape.Kind, G a5 d5 d6, G a6 d7 d8], G a1 d9 ea]) Z (Xa (Yj [.agg #[vs r25.Id, vi r25.Shape.Kind, G a5 d5 d6, G a6 d7 d8], G a1 d9 ea] 0 (.agg #[vs r25.Id, vi r25.Shape.Kind, G a5 d5 d6, G a6 d7 d8]) Z Z) (Xa (Yj [.agg #[vs r25.Id, vi r25.Shape.Kind, G a5 d5 d6, G a6 d7 d8], G a1 d9 ea] 1 (G a1 d9 ea) Z Z) (Yb [vs [], .int .i64 0, G none 0 0, G none 0 0] ze28 fun r1 bu b6 hu567 be no => ?_)));have bf := ji.own be (some bu) (Ya b6 hu567);refine Xv bu 0 [vs ([] : Str), vi 0, G none 0 0, G none 0 0] [vs r25.Id, vi r25.Shape.Kind, G a5 d5 d6, G a6 d7 d8] [vs r25.Id, vi r25.Shape.Kind, G a5 d5 d6, G a6 d7 d8] Z no Z sz28 Z Z Z fun jj bg np => ?_;have cd := bf.wr 0 Z bg;refine Xf (G a1 d9 ea) Z (Xb (Xc (Xc ?_)));have b7 : ([some bu, bk a5, bk a6, bk a1, some a0, bk ax, bk ay, bk az, some au, bk ap, bk ao, bk aq, some ak, bk af, bk ad, bk aj, some aw, bk av, bk ar, some ab, bk ae, bk ac, some aa] : Ob).Perm ((some aw :: bk av :: bk ar :: []) ++ [some bu, bk a5, bk a6, bk a1, some a0, bk ax, bk ay, bk az, some au, bk ap, bk ao, bk aq, some ak, bk af, bk ad, bk aj, some ab, bk ae, bk ac, some aa]) := (pc fun a => by (try simp only [pca, pcc, pcn, Nat.add_zero, Nat.zero_add]); first | done | ac_rfl);have dp := cd.drops b7;refine Xe (Xd (vb r14) Z (Xa (Yp r14 Z) (Xd (vb (!r14)) Z ?_)));rcases X7 (!r14) with eb | eb
 ·have H := Xi H eb;refine Xn eb Z (Xn eb Z (Xa (Xo true (vb true) eb Z) (Xd (vb true) Z (Xl (dj := 103) Z Z (.inl Z) (Xl (dj := 103) Z Z (.inl Z) (Xa (Xo true (vb true) Z Z) (Xd (vb true) Z (Xl (dj := 107) Z Z (.inl Z) ?_))))))));refine Xl (dj := 107) Z Z (.inl Z) (Xl (dj := 107) Z Z (.inl Z) (Xl (dj := 107) Z Z (.inl Z) (Xa (Xo true (vb true) Z Z) (Xd (vb true) Z (Xl (dj := 113) Z Z (.inl Z) (Xl (dj := 113) Z Z (.inl Z) (Xl (dj := 113) Z Z (.inl Z) (Xl (dj := 113) Z Z (.inl Z) ?_))))))));refine Xl (dj := 113) Z Z (.inl Z) (Xa (Xo true (vb true) Z Z) (Xd (vb true) Z (Xl (dj := 120) Z Z (.inl Z) (Xl (dj := 120) Z Z (.inl Z) (Xl (dj := 120) Z Z (.inl Z) (Xa (Xo true (vb true) Z Z) (Xd (vb true) Z (Xl (dj := 125) Z Z (.inl Z) ?_))))))));refine Xl (dj := 125) Z Z (.inl Z) (Xl (dj := 125) Z Z (.inl Z) (Xa (Xo true (vb true) Z Z) (Xd (vb true) Z (Xl (dj := 130) Z Z (.inl Z) (Xl (dj := 130) Z Z (.inl Z) (Xl (dj := 130) Z Z (.inl Z) (Xl (dj := 130) Z Z (.inl Z) (Xa (Xo true (vb true) Z Z) ?_))))))));refine Xb (Yn (b := true) Z Z ?_);refine Xc ?_;have nq : ([some bu, bk a5, bk a6, bk a1, some a0, bk ax, bk ay, bk az, some au, bk ap, bk ao, bk aq, some ak, bk af, bk ad, bk aj, some ab, bk ae, bk ac, some aa] : Ob).Perm ((some bu :: bk a5 :: bk a6 :: bk a1 :: some a0 :: bk ax :: bk ay :: bk az :: some au :: bk ap :: bk ao :: bk aq :: some ak :: bk af :: bk ad :: bk aj :: some ab :: bk ae :: bk ac :: some aa :: []) ++ []) := (pc fun a => by (try simp only [pca, pcc, pcn, Nat.add_zero, Nat.zero_add]); first | done | ac_rfl);have nr := dp.drops nq;exact Xe (Xf (vb false) Z (Xb (Xk ⟨[vb false], ⟨_, Z, Z⟩, false, Z, H, nr.gr.g0⟩)))
 have H := Xj H eb;refine Xm eb Z (Xd (vb r16) Z (Xm eb Z (Xa (Yp r16 Z) (Xa (Xo false (vb (!r16)) eb Z) (Xd (vb (!r16)) Z ?_)))));rcases X7 (!r16) with ec | ec
 ·have H := Xi H ec;refine Xn ec Z (Xn ec Z (Xa (Xo true (vb true) ec Z) (Xd (vb true) Z (Xl (dj := 107) Z Z (.inl Z) (Xl (dj := 107) Z Z (.inl Z) (Xl (dj := 107) Z Z (.inl Z) (Xl (dj := 107) Z Z (.inl Z) (Xa (Xo true (vb true) Z Z) ?_))))))));refine Xd (vb true) Z (Xl (dj := 113) Z Z (.inl Z) (Xl (dj := 113) Z Z (.inl Z) (Xl (dj := 113) Z Z (.inl Z) (Xl (dj := 113) Z Z (.inl Z) (Xl (dj := 113) Z Z (.inl Z) (Xa (Xo true (vb true) Z Z) (Xd (vb true) Z (Xl (dj := 120) Z Z (.inl Z) ?_))))))));refine Xl (dj := 120) Z Z (.inl Z) (Xl (dj := 120) Z Z (.inl Z) (Xa (Xo true (vb true) Z Z) (Xd (vb true) Z (Xl (dj := 125) Z Z (.inl Z) (Xl (dj := 125) Z Z (.inl Z) (Xl (dj := 125) Z Z (.inl Z) (Xa (Xo true (vb true) Z Z) (Xd (vb true) Z ?_))))))));refine Xl (dj := 130) Z Z (.inl Z) (Xl (dj := 130) Z Z (.inl Z) (Xl (dj := 130) Z Z (.inl Z) (Xl (dj := 130) Z Z (.inl Z) (Xa (Xo true (vb true) Z Z) (Xb (Yn (b := true) Z Z ?_))))));refine Xc ?_;have ns : ([some bu, bk a5, bk a6, bk a1, some a0, bk ax, bk ay, bk az, some au, bk ap, bk ao, bk aq, some ak, bk af, bk ad, bk aj, some ab, bk ae, bk ac, some aa] : Ob).Perm ((some bu :: bk a5 :: bk a6 :: bk a1 :: some a0 :: bk ax :: bk ay :: bk az :: some au :: bk ap :: bk ao :: bk aq :: some ak :: bk af :: bk ad :: bk aj :: some ab :: bk ae :: bk ac :: some aa :: []) ++ []) := (pc fun a => by (try simp only [pca, pcc, pcn, Nat.add_zero, Nat.zero_add]); first | done | ac_rfl);have nt := dp.drops ns;exact Xe (Xf (vb false) Z (Xb (Xk ⟨[vb false], ⟨_, Z, Z⟩, false, Z, H, nt.gr.g0⟩)))
 have H := Xj H ec;refine Xm ec Z (Xd (vb r18) Z (Xm ec Z (Xa (Yp r18 Z) (Xa (Xo false (vb (!r18)) ec Z) (Xd (vb (!r18)) Z ?_)))));rcases X7 (!r18) with c1 | c1
 ·have H := Xi H c1;refine Xn c1 Z (Xn c1 Z (Xn c1 Z (Xn c1 Z (Xa (Xo true (vb true) c1 Z) (Xd (vb true) Z (Xl (dj := 113) Z Z (.inl Z) (Xl (dj := 113) Z Z (.inl Z) (Xl (dj := 113) Z Z (.inl Z) ?_))))))));refine Xl (dj := 113) Z Z (.inl Z) (Xl (dj := 113) Z Z (.inl Z) (Xa (Xo true (vb true) Z Z) (Xd (vb true) Z (Xl (dj := 120) Z Z (.inl Z) (Xl (dj := 120) Z Z (.inl Z) (Xl (dj := 120) Z Z (.inl Z) (Xa (Xo true (vb true) Z Z) (Xd (vb true) Z ?_))))))));refine Xl (dj := 125) Z Z (.inl Z) (Xl (dj := 125) Z Z (.inl Z) (Xl (dj := 125) Z Z (.inl Z) (Xa (Xo true (vb true) Z Z) (Xd (vb true) Z (Xl (dj := 130) Z Z (.inl Z) (Xl (dj := 130) Z Z (.inl Z) (Xl (dj := 130) Z Z (.inl Z) (Xl (dj := 130) Z Z (.inl Z) ?_))))))));refine Xa (Xo true (vb true) Z Z) (Xb (Yn (b := true) Z Z ?_));refine Xc ?_;have nu : ([some bu, bk a5, bk a6, bk a1, some a0, bk ax, bk ay, bk az, some au, bk ap, bk ao, bk aq, some ak, bk af, bk ad, bk aj, some ab, bk ae, bk ac, some aa] : Ob).Perm ((some bu :: bk a5 :: bk a6 :: bk a1 :: some a0 :: bk ax :: bk ay :: bk az :: some au :: bk ap :: bk ao :: bk aq :: some ak :: bk af :: bk ad :: bk aj :: some ab :: bk ae :: bk ac :: some aa :: []) ++ []) := (pc fun a => by (try simp only [pca, pcc, pcn, Nat.add_zero, Nat.zero_add]); first | done | ac_rfl);have nv := dp.drops nu;exact Xe (Xf (vb false) Z (Xb (Xk ⟨[vb false], ⟨_, Z, Z⟩, false, Z, H, nv.gr.g0⟩)))
 have H := Xj H c1;refine Xm c1 Z ?_;have jk := (bf.bm (((a8.bm (((bb.bm ((lu.k0 br).k0 ba) 4 0 Z Z Z bc).k0 bd).k0 a7) 8 0 Z Z Z a9).k0 bt).k0 be) 12 0 Z Z Z bg);refine Xa (Xs ag28 sz28 cL ⟨ak, 0, none⟩ [vs r19.Id, vi r19.Shape.Kind, G af ct cu, G ad cl cm] Z Z (jk.cells (off := 0) Z)) (Xm c1 Z ?_);have nw := (bf.bm (((a8.bm ((mk.k0 bd).k0 a7) 4 0 Z Z Z a9).k0 bt).k0 be) 8 0 Z Z Z bg);refine Xa (Xs ag28 sz28 cL ⟨au, 0, none⟩ [vs r21.Id, vi r21.Shape.Kind, G ap dw dx, G ao dy dz] Z Z (nw.cells (off := 0) Z)) (Xm c1 Z ?_);have nx := (cd.odr (bf.sw (((a8.sw (((cc.odr (bb.sw (((a3.sw (gi.so _ a2 (Xg bq)) 1 0 Z Z Z a4).sos br b4).so _ ba (Xg bw)) 5 0 Z Z Z bc) bs 5 Z).sos bd b5).so _ a7 (Xg bx)) 9 0 Z Z Z a9).sos bt ce).so _ be (Xg b6)) 13 0 Z Z Z bg) b7 13 Z);have ny := dp.gv nx 13 Z;have fe := dp.drop 13 Z;have nz := (dp.sd (cd.odr (bf.sw (((a8.sw (((cc.odr (bb.sw (((a3.sw (fu.so _ a2 (Xg bq)) 2 0 Z Z Z a4).sos br b4).so _ ba (Xg bw)) 6 0 Z Z Z bc) bs 6 Z).sos bd b5).so _ a7 (Xg bx)) 10 0 Z Z Z a9).sos bt ce).so _ be (Xg b6)) 14 0 Z Z Z bg) b7 14 Z) 14 13 Z Z Z);have n0 := fe.gv nz 13 Z;have f1 := fe.drop 13 Z;have n1 := (fe.sd (dp.sd (cd.odr (bf.sw (((a8.sw (((cc.odr (bb.sw (mf.so _ ba (Xg bw)) 1 0 Z Z Z bc) bs 1 Z).sos bd b5).so _ a7 (Xg bx)) 5 0 Z Z Z a9).sos bt ce).so _ be (Xg b6)) 9 0 Z Z Z bg) b7 9 Z) 9 13 Z Z Z) 9 13 Z Z Z);have n3 := f1.gv n1 9 Z;have gs : Ct [] w0 jj [some bu, bk a5, bk a6, bk a1, some a0, bk ax, bk ay, bk az, some au, bk ao, bk aq, some ak, bk aj, some ab, bk ae, bk ac, some aa] O := f1.drop 9 Z;have n4 := (f1.sd (fe.sd (dp.sd (cd.odr (bf.sw (((a8.sw (((cc.odr (bb.sw (mg.so _ ba (Xg bw)) 2 0 Z Z Z bc) bs 2 Z).sos bd b5).so _ a7 (Xg bx)) 6 0 Z Z Z a9).sos bt ce).so _ be (Xg b6)) 10 0 Z Z Z bg) b7 10 Z) 10 13 Z Z Z) 10 13 Z Z Z) 10 9 Z Z Z);have n5 := gs.gv n4 9 Z;have n6 := gs.drop 9 Z;have n7 := fe.std 13 Z;have jl := f1.std 9 Z;have gt := gs.std 9 Z;have n8 := (((ny.st n7).st jl).st gt);have n9 := ((n0.st jl).st gt);refine Xt go17 [.agg #[vs r19.Id, vi r19.Shape.Kind, G af ct cu, G ad cl cm], .agg #[vs r21.Id, vi r21.Shape.Kind, G ap dw dx, G ao dy dz]] Z ((F55.calls jj n6.ok r19 af ct cu ad cl cm gh n8 n9 r21 ap dw dx ao dy dz ma (n3.st gt) n5 _ H).mono ?_);rintro _ jm ⟨r27, rfl, H, b3⟩;have dh := dp.k0 b3;refine Xm c1 Z (Xa (Yp r27 Z) (Xa (Xo false (vb (!r27)) c1 Z) (Xd (vb (!r27)) Z ?_)));rcases X7 (!r27) with cv | cv
 ·have H := Xi H cv;refine Xn cv Z (Xn cv Z (Xn cv Z (Xn cv Z (Xn cv Z (Xa (Xo true (vb true) cv Z) (Xd (vb true) Z (Xl (dj := 120) Z Z (.inl Z) (Xl (dj := 120) Z Z (.inl Z) ?_))))))));refine Xl (dj := 120) Z Z (.inl Z) (Xa (Xo true (vb true) Z Z) (Xd (vb true) Z (Xl (dj := 125) Z Z (.inl Z) (Xl (dj := 125) Z Z (.inl Z) (Xl (dj := 125) Z Z (.inl Z) (Xa (Xo true (vb true) Z Z) (Xd (vb true) Z (Xl (dj := 130) Z Z (.inl Z) ?_))))))));refine Xl (dj := 130) Z Z (.inl Z) (Xl (dj := 130) Z Z (.inl Z) (Xl (dj := 130) Z Z (.inl Z) (Xa (Xo true (vb true) Z Z) (Xb (Yn (b := true) Z Z ?_)))));refine Xc ?_;have oa : ([some bu, bk a5, bk a6, bk a1, some a0, bk ax, bk ay, bk az, some au, bk ap, bk ao, bk aq, some ak, bk af, bk ad, bk aj, some ab, bk ae, bk ac, some aa] : Ob).Perm ((some bu :: bk a5 :: bk a6 :: bk a1 :: some a0 :: bk ax :: bk ay :: bk az :: some au :: bk ap :: bk ao :: bk aq :: some ak :: bk af :: bk ad :: bk aj :: some ab :: bk ae :: bk ac :: some aa :: []) ++ []) := (pc fun a => by (try simp only [pca, pcc, pcn, Nat.add_zero, Nat.zero_add]); first | done | ac_rfl);have ob := dh.drops oa;exact Xe (Xf (vb false) Z (Xb (Xk ⟨[vb false], ⟨_, Z, Z⟩, false, Z, H, ob.gr.g0⟩)))
 have H := Xj H cv;refine Xm cv Z (Xd (G aj du dv) Z (Xm cv Z ?_));have gu := ((cd.odr (bf.sw (((a8.sw (((cc.odr (bb.sw (((a3.sw (ls.so _ a2 (Xg bq)) 3 0 Z Z Z a4).sos br b4).so _ ba (Xg bw)) 7 0 Z Z Z bc) bs 7 Z).sos bd b5).so _ a7 (Xg bx)) 11 0 Z Z Z a9).sos bt ce).so _ be (Xg b6)) 15 0 Z Z Z bg) b7 15 Z).sn b3);have oc := gu.le;refine Xa (X3 u34_ aj du dv gu.len Z) (Xm cv Z (Xd (G aq ev ew) Z (Xm cv Z ?_)));have jn := ((cd.odr (bf.sw (((a8.sw (((cc.odr (bb.sw (mh.so _ ba (Xg bw)) 3 0 Z Z Z bc) bs 3 Z).sos bd b5).so _ a7 (Xg bx)) 7 0 Z Z Z a9).sos bt ce).so _ be (Xg b6)) 11 0 Z Z Z bg) b7 11 Z).sn b3);have od := jn.le;refine Xa (X3 u34_ aq ev ew jn.len Z) (Xm cv Z (Xa (Xz (r20.length : Int) (r22.length : Int) ((r20.length : Int) != (r22.length : Int)) Z Z Z) (Xa (Xo false (vb ((r20.length : Int) != (r22.length : Int))) cv Z) (Xd (vb ((r20.length : Int) != (r22.length : Int))) Z ?_))));rcases X7 ((r20.length : Int) != (r22.length : Int)) with di | di
 ·have H := Xi H di;refine Xn di Z (Xn di Z (Xn di Z (Xa (Xo true (vb true) di Z) (Xd (vb true) Z (Xl (dj := 125) Z Z (.inl Z) (Xl (dj := 125) Z Z (.inl Z) (Xl (dj := 125) Z Z (.inl Z) (Xa (Xo true (vb true) Z Z) ?_))))))));refine Xd (vb true) Z (Xl (dj := 130) Z Z (.inl Z) (Xl (dj := 130) Z Z (.inl Z) (Xl (dj := 130) Z Z (.inl Z) (Xl (dj := 130) Z Z (.inl Z) (Xa (Xo true (vb true) Z Z) (Xb (Yn (b := true) Z Z ?_)))))));refine Xc ?_;have oe : ([some bu, bk a5, bk a6, bk a1, some a0, bk ax, bk ay, bk az, some au, bk ap, bk ao, bk aq, some ak, bk af, bk ad, bk aj, some ab, bk ae, bk ac, some aa] : Ob).Perm ((some bu :: bk a5 :: bk a6 :: bk a1 :: some a0 :: bk ax :: bk ay :: bk az :: some au :: bk ap :: bk ao :: bk aq :: some ak :: bk af :: bk ad :: bk aj :: some ab :: bk ae :: bk ac :: some aa :: []) ++ []) := (pc fun a => by (try simp only [pca, pcc, pcn, Nat.add_zero, Nat.zero_add]); first | done | ac_rfl);have og := dh.drops oe;exact Xe (Xf (vb false) Z (Xb (Xk ⟨[vb false], ⟨_, Z, Z⟩, false, Z, H, og.gr.g0⟩)))
 have H := Xj H di;refine Xm di Z (Xd (G aj du dv) Z (Xm di Z (Xa (X3 u34_ aj du dv gu.len Z) (Xm di Z (Xa (Xz (r20.length : Int) 0 (decide ((r20.length : Int) > 0)) Z Z Z) (Xa (Yt false (vb (decide ((r20.length : Int) > 0))) (by exact congrArg Value.bool di) Z) (Xd (vb (decide ((r20.length : Int) > 0))) Z ?_)))))));rcases X7 (decide ((r20.length : Int) > 0)) with dk | dk
 ·have H := Xi H dk;refine Xn dk Z (Xn dk Z (Xn dk Z (Xa (Xo true (vb true) dk Z) (Xd (vb true) Z (Xl (dj := 130) Z Z (.inl Z) (Xl (dj := 130) Z Z (.inl Z) (Xl (dj := 130) Z Z (.inl Z) (Xl (dj := 130) Z Z (.inl Z) ?_))))))));refine Xa (Xo true (vb true) Z Z) (Xb (Yn (b := true) Z Z ?_));refine Xc ?_;have oh : ([some bu, bk a5, bk a6, bk a1, some a0, bk ax, bk ay, bk az, some au, bk ap, bk ao, bk aq, some ak, bk af, bk ad, bk aj, some ab, bk ae, bk ac, some aa] : Ob).Perm ((some bu :: bk a5 :: bk a6 :: bk a1 :: some a0 :: bk ax :: bk ay :: bk az :: some au :: bk ap :: bk ao :: bk aq :: some ak :: bk af :: bk ad :: bk aj :: some ab :: bk ae :: bk ac :: some aa :: []) ++ []) := (pc fun a => by (try simp only [pca, pcc, pcn, Nat.add_zero, Nat.zero_add]); first | done | ac_rfl);have oi := dh.drops oh;exact Xe (Xf (vb false) Z (Xb (Xk ⟨[vb false], ⟨_, Z, Z⟩, false, Z, H, oi.gr.g0⟩)))
 have H := Xj H dk;refine Xm dk Z (Xd (G az ex ey) Z (Xm dk Z ?_));have jo := ((cd.odr (bf.sw (((a8.sw (my.so _ a7 (Xg bx)) 3 0 Z Z Z a9).sos bt ce).so _ be (Xg b6)) 7 0 Z Z Z bg) b7 7 Z).sn b3);have oj := jo.le;refine Xa (X3 u34_ az ex ey jo.len Z) (Xm dk Z (Xa (Xz (r24.length : Int) 0 (decide ((r24.length : Int) > 0)) Z Z Z) (Xa (Yt false (vb (decide ((r24.length : Int) > 0))) (by exact congrArg Value.bool dk) Z) (Xd (vb (decide ((r24.length : Int) > 0))) Z ?_))));rcases X7 (decide ((r24.length : Int) > 0)) with c2 | c2
 ·have H := Xi H c2;refine Xn c2 Z (Xn c2 Z (Xn c2 Z (Xn c2 Z (Xa (Xo true (vb true) c2 Z) (Xb (Yn (b := true) Z Z ?_))))));refine Xc ?_;have ol : ([some bu, bk a5, bk a6, bk a1, some a0, bk ax, bk ay, bk az, some au, bk ap, bk ao, bk aq, some ak, bk af, bk ad, bk aj, some ab, bk ae, bk ac, some aa] : Ob).Perm ((some bu :: bk a5 :: bk a6 :: bk a1 :: some a0 :: bk ax :: bk ay :: bk az :: some au :: bk ap :: bk ao :: bk aq :: some ak :: bk af :: bk ad :: bk aj :: some ab :: bk ae :: bk ac :: some aa :: []) ++ []) := (pc fun a => by (try simp only [pca, pcc, pcn, Nat.add_zero, Nat.zero_add]); first | done | ac_rfl);have om := dh.drops ol;exact Xe (Xf (vb false) Z (Xb (Xk ⟨[vb false], ⟨_, Z, Z⟩, false, Z, H, om.gr.g0⟩)))
 have H := Xj H c2;refine Xm c2 Z ?_;have on := ((bf.bm ((m0.k0 bt).k0 be) 4 0 Z Z Z bg).k0 b3);refine Xa (Xs ag28 sz28 cL ⟨a0, 0, none⟩ [vs r23.Id, vi r23.Shape.Kind, G ax d0 d1, G ay d2 d3] Z Z (on.cells (off := 0) Z)) (Xm c2 Z ?_);have jp := ((bf.bm ((i4.k0 bt).k0 be) 19 0 Z Z Z bg).k0 b3);refine Xa (Xs ag28 sz28 cL ⟨ab, 0, none⟩ [vs r13.Id, vi r13.Shape.Kind, G ae bh bi, G ac bj bl] Z Z (jp.cells (off := 0) Z)) (Xm c2 Z ?_);have oo := ((cd.odr (bf.sw (((a8.sw (mw.so _ a7 (Xg bx)) 1 0 Z Z Z a9).sos bt ce).so _ be (Xg b6)) 5 0 Z Z Z bg) b7 5 Z).sn b3);have oq := dh.gv oo 5 Z;have ff := dh.drop 5 Z;have os := (dh.sd ((cd.odr (bf.sw (((a8.sw (mx.so _ a7 (Xg bx)) 2 0 Z Z Z a9).sos bt ce).so _ be (Xg b6)) 6 0 Z Z Z bg) b7 6 Z).sn b3) 6 5 Z Z Z);have ot := ff.gv os 5 Z;have f2 := ff.drop 5 Z;have ou := (ff.sd (dh.sd ((cd.odr (bf.sw (((a8.sw (((cc.odr (bb.sw (((a3.sw (((bo.sw (((ch.sw (((cr.sw (e1.so _ cq (Xg cw)) 1 0 Z Z Z cs).sos co cx).so _ cg (Xg ck)) 4 0 Z Z Z ci).sos bv cb).so _ bn (Xg b1)) 7 0 Z Z Z bp).sos b2 cj).so _ a2 (Xg bq)) 11 0 Z Z Z a4).sos br b4).so _ ba (Xg bw)) 15 0 Z Z Z bc) bs 12 Z).sos bd b5).so _ a7 (Xg bx)) 16 0 Z Z Z a9).sos bt ce).so _ be (Xg b6)) 20 0 Z Z Z bg) b7 17 Z).sn b3) 17 5 Z Z Z) 16 5 Z Z Z);have ov := f2.gv ou 15 Z;have gw : Ct [] w0 jm [some bu, bk a5, bk a6, bk a1, some a0, bk az, some au, bk ap, bk ao, bk aq, some ak, bk af, bk ad, bk aj, some ab, bk ac, some aa] O := f2.drop 15 Z;have ow := (f2.sd (ff.sd (dh.sd ((cd.odr (bf.sw (((a8.sw (((cc.odr (bb.sw (((a3.sw (((bo.sw (((ch.sw (((cr.sw (e2.so _ cq (Xg cw)) 2 0 Z Z Z cs).sos co cx).so _ cg (Xg ck)) 5 0 Z Z Z ci).sos bv cb).so _ bn (Xg b1)) 8 0 Z Z Z bp).sos b2 cj).so _ a2 (Xg bq)) 12 0 Z Z Z a4).sos br b4).so _ ba (Xg bw)) 16 0 Z Z Z bc) bs 13 Z).sos bd b5).so _ a7 (Xg bx)) 17 0 Z Z Z a9).sos bt ce).so _ be (Xg b6)) 21 0 Z Z Z bg) b7 18 Z).sn b3) 18 5 Z Z Z) 17 5 Z Z Z) 16 15 Z Z Z);have ox := gw.gv ow 15 Z;have oy := gw.drop 15 Z;have oz := ff.std 5 Z;have jq := f2.std 15 Z;have gx := gw.std 15 Z;have o0 := (((oq.st oz).st jq).st gx);have o1 := ((ot.st jq).st gx);refine Xt go17 [.agg #[vs r23.Id, vi r23.Shape.Kind, G ax d0 d1, G ay d2 d3], .agg #[vs r13.Id, vi r13.Shape.Kind, G ae bh bi, G ac bj bl]] Z ((F55.calls jm oy.ok r23 ax d0 d1 ay d2 d3 mr o0 o1 r13 ae bh bi ac bj bl et (ov.st gx) ox _ H).mono ?_);rintro _ o2 ⟨r28, rfl, H, cp⟩;have db := dh.k0 cp;refine Xm c2 Z (Xa (Yp r28 Z) (Xa (Xo false (vb (!r28)) c2 Z) (Xb ?_)));refine Xx (!r28) Z (fun gy => ?_) (fun gy => ?_)
 ·have H := Xi H gy;refine Xc ?_;have o3 : ([some bu, bk a5, bk a6, bk a1, some a0, bk ax, bk ay, bk az, some au, bk ap, bk ao, bk aq, some ak, bk af, bk ad, bk aj, some ab, bk ae, bk ac, some aa] : Ob).Perm ((some bu :: bk a5 :: bk a6 :: bk a1 :: some a0 :: bk ax :: bk ay :: bk az :: some au :: bk ap :: bk ao :: bk aq :: some ak :: bk af :: bk ad :: bk aj :: some ab :: bk ae :: bk ac :: some aa :: []) ++ []) := (pc fun a => by (try simp only [pca, pcc, pcn, Nat.add_zero, Nat.zero_add]); first | done | ac_rfl);have o4 := db.drops o3;exact Xe (Xf (vb false) Z (Xb (Xk ⟨[vb false], ⟨_, Z, Z⟩, false, Z, H, o4.gr.g0⟩)))
 have H := Xj H gy;refine X0 (Xc ?_);have dc : ([some bu, bk a5, bk a6, bk a1, some a0, bk ax, bk ay, bk az, some au, bk ap, bk ao, bk aq, some ak, bk af, bk ad, bk aj, some ab, bk ae, bk ac, some aa] : Ob).Perm ((some a0 :: bk ax :: bk ay :: bk az :: some au :: bk ap :: bk ao :: bk aq :: bk aj :: []) ++ [some bu, bk a5, bk a6, bk a1, some ak, bk af, bk ad, some ab, bk ae, bk ac, some aa]) := (pc fun a => by (try simp only [pca, pcc, pcn, Nat.add_zero, Nat.zero_add]); first | done | ac_rfl);have fg := db.drops dc;refine Xe ?_;have jr := ((jk.k0 b3).k0 cp);refine Xa (Xs ag28 sz28 cL ⟨ak, 0, none⟩ [vs r19.Id, vi r19.Shape.Kind, G af ct cu, G ad cl cm] Z Z (jr.cells (off := 0) Z)) ?_;have o5 := (db.odr (((cd.odr (bf.sw (((a8.sw (((cc.odr (bb.sw (((a3.sw (gi.so _ a2 (Xg bq)) 1 0 Z Z Z a4).sos br b4).so _ ba (Xg bw)) 5 0 Z Z Z bc) bs 5 Z).sos bd b5).so _ a7 (Xg bx)) 9 0 Z Z Z a9).sos bt ce).so _ be (Xg b6)) 13 0 Z Z Z bg) b7 13 Z).sn b3).sn cp) dc 5 Z);have o6 := fg.gv o5 5 Z;have gz := fg.drop 5 Z;have o7 := (fg.sd (db.odr (((cd.odr (bf.sw (((a8.sw (((cc.odr (bb.sw (((a3.sw (fu.so _ a2 (Xg bq)) 2 0 Z Z Z a4).sos br b4).so _ ba (Xg bw)) 6 0 Z Z Z bc) bs 6 Z).sos bd b5).so _ a7 (Xg bx)) 10 0 Z Z Z a9).sos bt ce).so _ be (Xg b6)) 14 0 Z Z Z bg) b7 14 Z).sn b3).sn cp) dc 6 Z) 6 5 Z Z Z);have o8 := gz.gv o7 5 Z;have o9 := gz.drop 5 Z;have pa := gz.std 5 Z;refine Xt go18 [.agg #[vs r19.Id, vi r19.Shape.Kind, G af ct cu, G ad cl cm], vs ([97, 97, 97] : Str)] Z ((F72.calls o2 o9.ok r19 af ct cu ad cl cm gh (o6.st pa) o8 ([97, 97, 97] : Str) (by decide : Lim ([97, 97, 97] : Str)) _ H).mono ?_);rintro _ pb ⟨r29, r30, rfl, H, cy, r4⟩;have fh := fg.k0 cy;refine Xd (.tuple #[vs r29, vb r30]) Z (Xa (Yj [vs r29, vb r30] 0 (vs r29) Z Z) (Xa (Yj [vs r29, vb r30] 1 (vb r30) Z Z) (Xf (vs r29) Z (Xf (vb r30) Z (Xb (Xc (Xe ?_)))))));have js := (jr.k0 cy);refine Xa (Xs ag28 sz28 cL ⟨ak, 0, none⟩ [vs r19.Id, vi r19.Shape.Kind, G af ct cu, G ad cl cm] Z Z (js.cells (off := 0) Z)) ?_;have pd := ((db.odr (((cd.odr (bf.sw (((a8.sw (((cc.odr (bb.sw (((a3.sw (gi.so _ a2 (Xg bq)) 1 0 Z Z Z a4).sos br b4).so _ ba (Xg bw)) 5 0 Z Z Z bc) bs 5 Z).sos bd b5).so _ a7 (Xg bx)) 9 0 Z Z Z a9).sos bt ce).so _ be (Xg b6)) 13 0 Z Z Z bg) b7 13 Z).sn b3).sn cp) dc 5 Z).sn cy);have pe := fh.gv pd 5 Z;have g1 := fh.drop 5 Z;have pf := (fh.sd ((db.odr (((cd.odr (bf.sw (((a8.sw (((cc.odr (bb.sw (((a3.sw (fu.so _ a2 (Xg bq)) 2 0 Z Z Z a4).sos br b4).so _ ba (Xg bw)) 6 0 Z Z Z bc) bs 6 Z).sos bd b5).so _ a7 (Xg bx)) 10 0 Z Z Z a9).sos bt ce).so _ be (Xg b6)) 14 0 Z Z Z bg) b7 14 Z).sn b3).sn cp) dc 6 Z).sn cy) 6 5 Z Z Z);have pg := g1.gv pf 5 Z;have ph := g1.drop 5 Z;have pi := g1.std 5 Z;refine Xt go18 [.agg #[vs r19.Id, vi r19.Shape.Kind, G af ct cu, G ad cl cm], vs ([122, 122, 122] : Str)] Z ((F72.calls pb ph.ok r19 af ct cu ad cl cm gh (pe.st pi) pg ([122, 122, 122] : Str) (by decide : Lim ([122, 122, 122] : Str)) _ H).mono ?_);rintro _ jt ⟨r31, r32, rfl, H, dd, r5⟩;have c4 := fh.k0 dd;refine Xd (.tuple #[vs r31, vb r32]) Z (Xa (Yj [vs r31, vb r32] 0 (vs r31) Z Z) (Xa (Yj [vs r31, vb r32] 1 (vb r32) Z Z) (Xf (vs r31) Z (Xf (vb r32) Z (Xb (Xc (Xe (Xd (vb r30) Z ?_))))))));refine Xd (vb r30) Z ?_;rcases X7 r30 with ed | ed
 ·have H := Xi H ed;refine Xm ed Z (Xd (vs r29) Z (Xm ed Z (Xa (Yz r29 ([108, 101, 102, 116] : Str) (r29 == ([108, 101, 102, 116] : Str)) Z Z Z) (Xa (Xo true (vb (r29 == ([108, 101, 102, 116] : Str))) ed Z) (Xd (vb (r29 == ([108, 101, 102, 116] : Str))) Z ?_)))));rcases X7 (r29 == ([108, 101, 102, 116] : Str)) with ez | ez
  ·have H := Xi H ez;refine Xm ez Z (Xd (vb r32) Z (Xa (Xo true (vb r32) ez Z) (Xd (vb r32) Z ?_)));rcases X7 r32 with ee | ee
   ·have H := Xi H ee;refine Xm ee Z (Xd (vs r31) Z (Xm ee Z (Xa (Yz r31 ([114, 105, 103, 104, 116] : Str) (r31 == ([114, 105, 103, 104, 116] : Str)) Z Z Z) (Xa (Xo true (vb (r31 == ([114, 105, 103, 104, 116] : Str))) ee Z) (Xd (vb (r31 == ([114, 105, 103, 104, 116] : Str))) Z ?_)))));rcases X7 (r31 == ([114, 105, 103, 104, 116] : Str)) with cf | cf
    ·have H := Xi H cf;refine Xm cf Z (Xa (Xp fa28_2 ⟨ak, 0, none⟩ ⟨ak, 3, none⟩ Z Z) (Xm cf Z ?_));have pj := (js.k0 dd);refine Xa (Xr ag26 cL ⟨ak, 3, none⟩ (G ad cl cm) Z (pj.cell Z)) (Xm cf Z ?_);have ju := (((db.odr (((cd.odr (bf.sw (((a8.sw (((cc.odr (bb.sw (((a3.sw (fu.so _ a2 (Xg bq)) 2 0 Z Z Z a4).sos br b4).so _ ba (Xg bw)) 6 0 Z Z Z bc) bs 6 Z).sos bd b5).so _ a7 (Xg bx)) 10 0 Z Z Z a9).sos bt ce).so _ be (Xg b6)) 14 0 Z Z Z bg) b7 14 Z).sn b3).sn cp) dc 6 Z).sn cy).sn dd);have pk := ju.le;refine Xa (X3 u26_ ad cl cm ju.len Z) (Xm cf Z (Xa (Xp fa28_2 ⟨aa, 0, none⟩ ⟨aa, 3, none⟩ Z Z) (Xm cf Z ?_)));have pl := (((((bf.bm ((i3.k0 bt).k0 be) 22 0 Z Z Z bg).k0 b3).k0 cp).k0 cy).k0 dd);refine Xa (Xr ag26 cL ⟨aa, 3, none⟩ (G ag ah ai) Z (pl.cell Z)) (Xm cf Z ?_);have pm := eu.stos bv cb;have pn := e4.stown _ bn (Xg b1);have po := bo.stw 0 Z bp;have pp := da.stos b2 cj;have pq := e9.stown _ a2 (Xg bq);have pr := a3.stw 0 Z a4;have ps := dg.stos br b4;have pt := fx.stown _ ba (Xg bw);have pu := bb.stw 0 Z bc;have pv := eg.stos bd b5;have pw := gn.stown _ a7 (Xg bx);have px := a8.stw 0 Z a9;have py := d4.stos bt ce;have pz := ji.stown _ be (Xg b6);have p0 := bf.stw 0 Z bg;have p1 := dp.stn b3;have p2 := dh.stn cp;have p3 := fg.stn cy;have p4 := fh.stn dd;have p5 := ((((((((((((((((((((((e3.st pm).st pn).st po).st pp).st pq).st pr).st ps).st pt).st pu).st (St.drops _ O bs)).st pv).st pw).st px).st py).st pz).st p0).st (St.drops _ O b7)).st p1).st p2).st (St.drops _ O dc)).st p3).st p4);refine Xa (X3 u26_ ag ah ai p5.len Z) (Xm cf Z ?_);obtain ⟨p6, H⟩ := H;have p7 := p6 (len_le hl6) (len_le kn) (len_le oc) (len_le od) (len_le oj) (len_le pk);refine Xa (X6 (r.Tags.length : Int) 2 Z Z p7) (Xm cf Z (Xa (Xz (r19.Tags.length : Int) ((r.Tags.length : Int) + 2) ((r19.Tags.length : Int) == ((r.Tags.length : Int) + 2)) Z Z Z) (Xa (Yt true (vb ((r19.Tags.length : Int) == ((r.Tags.length : Int) + 2))) (by exact congrArg Value.bool cf) Z) (Xd (vb ((r19.Tags.length : Int) == ((r.Tags.length : Int) + 2))) Z ?_))));rcases X7 ((r19.Tags.length : Int) == ((r.Tags.length : Int) + 2)) with dl | dl
     ·have H := Xi H dl;refine Xm dl Z (Xd (G a1 d9 ea) Z (Xm dl Z ?_));have f3 := (((db.odr (((cd.odr (bf.sw (nn.so _ be (Xg b6)) 3 0 Z Z Z bg) b7 3 Z).sn b3).sn cp) dc 3 Z).sn cy).sn dd);have r6 := f3.le;refine Xa (X3 u34_ a1 d9 ea f3.len Z) (Xm dl Z (Xa (Xz (r26.length : Int) 1 ((r26.length : Int) == 1) Z Z Z) (Xa (Xo true (vb ((r26.length : Int) == 1)) dl Z) (Xd (vb ((r26.length : Int) == 1)) Z ?_))));rcases X7 ((r26.length : Int) == 1) with c5 | c5
      ·have H := Xi H c5;refine Xm c5 Z (Xd (G a1 d9 ea) Z (Xm c5 Z ?_));obtain ⟨jv, H⟩ := H;obtain ⟨jw, r7, p8, p9, qa⟩ := f3.get default (by decide) 0 jv;obtain ⟨rfl, r8⟩ := Kd.str.op p9;refine Xa (X4 u34_ Zn a1 jw d9 ea f3.len 0 Z p8 Z jv) (Xm c5 Z (Xa (Xr ag9 cL (jw.add ((0 : Int).toNat * 1)) (vs (nth r26 0)) Z (qa 0 _ Z)) (Xm c5 Z (Xa (Yz (nth r26 0) ([116, 97, 103, 32, 97, 97, 97] : Str) ((nth r26 0) == ([116, 97, 103, 32, 97, 97, 97] : Str)) Z Z Z) (Xa (Xo true (vb ((nth r26 0) == ([116, 97, 103, 32, 97, 97, 97] : Str))) c5 Z) (Xd (vb ((nth r26 0) == ([116, 97, 103, 32, 97, 97, 97] : Str))) Z ?_))))));rcases X7 ((nth r26 0) == ([116, 97, 103, 32, 97, 97, 97] : Str)) with dm | dm
       ·have H := Xi H dm;refine Xm dm Z ?_;have qb := ((((np.k0 b3).k0 cp).k0 cy).k0 dd);refine Xa (Xs ag28 sz28 cL ⟨bu, 0, none⟩ [vs r25.Id, vi r25.Shape.Kind, G a5 d5 d6, G a6 d7 d8] Z Z (qb.cells (off := 0) Z)) (Xm dm Z ?_);have qc := (((jp.k0 cp).k0 cy).k0 dd);refine Xa (Xs ag28 sz28 cL ⟨ab, 0, none⟩ [vs r13.Id, vi r13.Shape.Kind, G ae bh bi, G ac bj bl] Z Z (qc.cells (off := 0) Z)) (Xm dm Z ?_);have qd := (((db.odr (((cd.odr (bf.sw (nl.so _ be (Xg b6)) 1 0 Z Z Z bg) b7 1 Z).sn b3).sn cp) dc 1 Z).sn cy).sn dd);have qe := c4.gv qd 1 Z;have fi := c4.drop 1 Z;have qf := (c4.sd (((db.odr (((cd.odr (bf.sw (nm.so _ be (Xg b6)) 2 0 Z Z Z bg) b7 2 Z).sn b3).sn cp) dc 2 Z).sn cy).sn dd) 2 1 Z Z Z);have qg := fi.gv qf 1 Z;have f4 := fi.drop 1 Z;have qh := (fi.sd (c4.sd (((db.odr (((cd.odr (bf.sw (((a8.sw (((cc.odr (bb.sw (((a3.sw (((bo.sw (((ch.sw (((cr.sw (e1.so _ cq (Xg cw)) 1 0 Z Z Z cs).sos co cx).so _ cg (Xg ck)) 4 0 Z Z Z ci).sos bv cb).so _ bn (Xg b1)) 7 0 Z Z Z bp).sos b2 cj).so _ a2 (Xg bq)) 11 0 Z Z Z a4).sos br b4).so _ ba (Xg bw)) 15 0 Z Z Z bc) bs 12 Z).sos bd b5).so _ a7 (Xg bx)) 16 0 Z Z Z a9).sos bt ce).so _ be (Xg b6)) 20 0 Z Z Z bg) b7 17 Z).sn b3).sn cp) dc 8 Z).sn cy).sn dd) 8 1 Z Z Z) 7 1 Z Z Z);have qi := f4.gv qh 6 Z;have g3 : Ct [] w0 jt [some bu, bk a1, some ak, bk af, bk ad, some ab, bk ac, some aa] O := f4.drop 6 Z;have qj := (f4.sd (fi.sd (c4.sd (((db.odr (((cd.odr (bf.sw (((a8.sw (((cc.odr (bb.sw (((a3.sw (((bo.sw (((ch.sw (((cr.sw (e2.so _ cq (Xg cw)) 2 0 Z Z Z cs).sos co cx).so _ cg (Xg ck)) 5 0 Z Z Z ci).sos bv cb).so _ bn (Xg b1)) 8 0 Z Z Z bp).sos b2 cj).so _ a2 (Xg bq)) 12 0 Z Z Z a4).sos br b4).so _ ba (Xg bw)) 16 0 Z Z Z bc) bs 13 Z).sos bd b5).so _ a7 (Xg bx)) 17 0 Z Z Z a9).sos bt ce).so _ be (Xg b6)) 21 0 Z Z Z bg) b7 18 Z).sn b3).sn cp) dc 9 Z).sn cy).sn dd) 9 1 Z Z Z) 8 1 Z Z Z) 7 6 Z Z Z);have qk := g3.gv qj 6 Z;have ql := g3.drop 6 Z;have qm := fi.std 1 Z;have jx := f4.std 6 Z;have g4 := g3.std 6 Z;have qn := (((qe.st qm).st jx).st g4);have qo := ((qg.st jx).st g4);refine Xt go17 [.agg #[vs r25.Id, vi r25.Shape.Kind, G a5 d5 d6, G a6 d7 d8], .agg #[vs r13.Id, vi r13.Shape.Kind, G ae bh bi, G ac bj bl]] Z ((F55.calls jt ql.ok r25 a5 d5 d6 a6 d7 d8 ng qn qo r13 ae bh bi ac bj bl et (qi.st g4) qk _ H).mono ?_);rintro _ r9 ⟨r33, rfl, H, qp⟩;have qq := c4.k0 qp;refine Xa (Xo true (vb r33) dm Z) (Xf (vb r33) Z (Xb (Xk ?_)));have qr := qq.clear;exact ⟨[vb r33], ⟨_, Z, Z⟩, r33, Z, H, qr.gr.g0⟩
       have H := Xj H dm;refine Xn dm Z (Xn dm Z (Xn dm Z (Xa (Xo false (vb false) dm Z) (Xf (vb false) Z (Xb (Xk ?_))))));have qs := c4.clear;exact ⟨[vb false], ⟨_, Z, Z⟩, false, Z, H, qs.gr.g0⟩
      have H := Xj H c5;refine Xn c5 Z (Xn c5 Z (Xn c5 Z (Xn c5 Z (Xa (Xo false (vb false) c5 Z) (Xd (vb false) Z (Xl (dj := 179) Z Z (.inl Z) (Xl (dj := 179) Z Z (.inl Z) (Xl (dj := 179) Z Z (.inl Z) ?_))))))));refine Xa (Xo false (vb false) Z Z) (Xf (vb false) Z (Xb (Xk ?_)));have qt := c4.clear;exact ⟨[vb false], ⟨_, Z, Z⟩, false, Z, H, qt.gr.g0⟩
     have H := Xj H dl;refine Xn dl Z (Xn dl Z (Xn dl Z (Xa (Xo false (vb false) dl Z) (Xd (vb false) Z (Xl (dj := 173) Z Z (.inl Z) (Xl (dj := 173) Z Z (.inl Z) (Xl (dj := 173) Z Z (.inl Z) (Xl (dj := 173) Z Z (.inl Z) ?_))))))));refine Xa (Xo false (vb false) Z Z) (Xd (vb false) Z (Xl (dj := 179) Z Z (.inl Z) (Xl (dj := 179) Z Z (.inl Z) (Xl (dj := 179) Z Z (.inl Z) (Xa (Xo false (vb false) Z Z) (Xf (vb false) Z (Xb (Xk ?_))))))));have qu := c4.clear;exact ⟨[vb false], ⟨_, Z, Z⟩, false, Z, H, qu.gr.g0⟩
    have H := Xj H cf;refine Xn cf Z (Xn cf Z (Xn cf Z (Xn cf Z (Xn cf Z (Xn cf Z (Xn cf Z (Xn cf Z (Xa (Xo false (vb false) cf Z) ?_))))))));refine Xd (vb false) Z (Xl (dj := 168) Z Z (.inl Z) (Xl (dj := 168) Z Z (.inl Z) (Xl (dj := 168) Z Z (.inl Z) (Xa (Xo false (vb false) Z Z) (Xd (vb false) Z (Xl (dj := 173) Z Z (.inl Z) (Xl (dj := 173) Z Z (.inl Z) (Xl (dj := 173) Z Z (.inl Z) ?_))))))));refine Xl (dj := 173) Z Z (.inl Z) (Xa (Xo false (vb false) Z Z) (Xd (vb false) Z (Xl (dj := 179) Z Z (.inl Z) (Xl (dj := 179) Z Z (.inl Z) (Xl (dj := 179) Z Z (.inl Z) (Xa (Xo false (vb false) Z Z) (Xf (vb false) Z (Xb ?_))))))));refine Xk ?_;have qv := c4.clear;exact ⟨[vb false], ⟨_, Z, Z⟩, false, Z, H, qv.gr.g0⟩
   have H := Xj H ee;refine Xn ee Z (Xn ee Z (Xa (Xo false (vb false) ee Z) (Xd (vb false) Z (Xl (dj := 158) Z Z (.inl Z) (Xl (dj := 158) Z Z (.inl Z) (Xl (dj := 158) Z Z (.inl Z) (Xl (dj := 158) Z Z (.inl Z) (Xl (dj := 158) Z Z (.inl Z) ?_))))))));refine Xl (dj := 158) Z Z (.inl Z) (Xl (dj := 158) Z Z (.inl Z) (Xl (dj := 158) Z Z (.inl Z) (Xa (Xo false (vb false) Z Z) (Xd (vb false) Z (Xl (dj := 168) Z Z (.inl Z) (Xl (dj := 168) Z Z (.inl Z) (Xl (dj := 168) Z Z (.inl Z) (Xa (Xo false (vb false) Z Z) ?_))))))));refine Xd (vb false) Z (Xl (dj := 173) Z Z (.inl Z) (Xl (dj := 173) Z Z (.inl Z) (Xl (dj := 173) Z Z (.inl Z) (Xl (dj := 173) Z Z (.inl Z) (Xa (Xo false (vb false) Z Z) (Xd (vb false) Z (Xl (dj := 179) Z Z (.inl Z) (Xl (dj := 179) Z Z (.inl Z) ?_))))))));refine Xl (dj := 179) Z Z (.inl Z) (Xa (Xo false (vb false) Z Z) (Xf (vb false) Z (Xb (Xk ?_))));have qw := c4.clear;exact ⟨[vb false], ⟨_, Z, Z⟩, false, Z, H, qw.gr.g0⟩
  have H := Xj H ez;refine Xn ez Z (Xa (Xo false (vb false) ez Z) (Xd (vb false) Z (Xl (dj := 154) Z Z (.inl Z) (Xl (dj := 154) Z Z (.inl Z) (Xa (Xo false (vb false) Z Z) (Xd (vb false) Z (Xl (dj := 158) Z Z (.inl Z) (Xl (dj := 158) Z Z (.inl Z) ?_))))))));refine Xl (dj := 158) Z Z (.inl Z) (Xl (dj := 158) Z Z (.inl Z) (Xl (dj := 158) Z Z (.inl Z) (Xl (dj := 158) Z Z (.inl Z) (Xl (dj := 158) Z Z (.inl Z) (Xl (dj := 158) Z Z (.inl Z) (Xa (Xo false (vb false) Z Z) (Xd (vb false) Z (Xl (dj := 168) Z Z (.inl Z) ?_))))))));refine Xl (dj := 168) Z Z (.inl Z) (Xl (dj := 168) Z Z (.inl Z) (Xa (Xo false (vb false) Z Z) (Xd (vb false) Z (Xl (dj := 173) Z Z (.inl Z) (Xl (dj := 173) Z Z (.inl Z) (Xl (dj := 173) Z Z (.inl Z) (Xl (dj := 173) Z Z (.inl Z) (Xa (Xo false (vb false) Z Z) ?_))))))));refine Xd (vb false) Z (Xl (dj := 179) Z Z (.inl Z) (Xl (dj := 179) Z Z (.inl Z) (Xl (dj := 179) Z Z (.inl Z) (Xa (Xo false (vb false) Z Z) (Xf (vb false) Z (Xb (Xk ?_)))))));have qx := c4.clear;exact ⟨[vb false], ⟨_, Z, Z⟩, false, Z, H, qx.gr.g0⟩
 have H := Xj H ed;refine Xn ed Z (Xn ed Z (Xa (Xo false (vb false) ed Z) (Xd (vb false) Z (Xl (dj := 151) Z Z (.inl Z) (Xa (Xo false (vb false) Z Z) (Xd (vb false) Z (Xl (dj := 154) Z Z (.inl Z) (Xl (dj := 154) Z Z (.inl Z) ?_))))))));refine Xa (Xo false (vb false) Z Z) (Xd (vb false) Z (Xl (dj := 158) Z Z (.inl Z) (Xl (dj := 158) Z Z (.inl Z) (Xl (dj := 158) Z Z (.inl Z) (Xl (dj := 158) Z Z (.inl Z) (Xl (dj := 158) Z Z (.inl Z) (Xl (dj := 158) Z Z (.inl Z) (Xl (dj := 158) Z Z (.inl Z) ?_))))))));refine Xl (dj := 158) Z Z (.inl Z) (Xa (Xo false (vb false) Z Z) (Xd (vb false) Z (Xl (dj := 168) Z Z (.inl Z) (Xl (dj := 168) Z Z (.inl Z) (Xl (dj := 168) Z Z (.inl Z) (Xa (Xo false (vb false) Z Z) (Xd (vb false) Z (Xl (dj := 173) Z Z (.inl Z) ?_))))))));refine Xl (dj := 173) Z Z (.inl Z) (Xl (dj := 173) Z Z (.inl Z) (Xl (dj := 173) Z Z (.inl Z) (Xa (Xo false (vb false) Z Z) (Xd (vb false) Z (Xl (dj := 179) Z Z (.inl Z) (Xl (dj := 179) Z Z (.inl Z) (Xl (dj := 179) Z Z (.inl Z) (Xa (Xo false (vb false) Z Z) ?_))))))));refine Xf (vb false) Z (Xb (Xk ?_));have qy := c4.clear;exact ⟨[vb false], ⟨_, Z, Z⟩, false, Z, H, qy.gr.g0⟩
end
theorem F62.law (code : List UInt8) (Q : List UInt8 → Int → Prop) (hq : ∀ b, b.length ≤ 2000 → Q b 0) : F62.E code Q := by
 unfold F62.E
 by_cases h : (code.length : Int) > 2000
 ·rw [if_pos (by simpa using h)]
  exact ⟨by omega, hq _ (by rw [List.length_take]; omega)⟩
 ·rw [if_neg (by simpa using h)]
  exact hq _ (by omega)
theorem ediv_le {p l : Int} (hp : 0 ≤ p) (hl : 0 < l) : 0 ≤ p / l ∧ p / l ≤ p := ⟨Int.ediv_nonneg hp (by omega), Int.ediv_le_self _ hp⟩
theorem F26.law (b : List UInt8) (p n : Int) (Q : Int → Int → Prop) (hb : b.length ≤ 2000) (hp : 0 ≤ p) (hp1 : p ≤ 1099511627776) (hq : ∀ v, 0 ≤ v → (v < n ∨ v = 0) → Q v (p + 1)) : F26.E b p n Q := by
 unfold F26.E
 refine ⟨by unfold I64; omega, ?_⟩
 by_cases hn : n < 1
 ·rw [if_pos (by simpa using hn)]; exact hq 0 (by omega) (.inr rfl)
 rw [if_neg (by simpa using hn)]
 by_cases hl : (b.length : Int) = 0
 ·rw [if_pos (by simpa using hl)]; exact hq 0 (by omega) (.inr rfl)
 rw [if_neg (by simpa using hl)]
 refine ⟨fun _ => by unfold I64; omega, ?_⟩
 rw [show p + 1 - 1 = p by omega]
 have fin : ∀ z : Int, 0 ≤ z → Q (z % n) (p + 1) := fun z hz => hq _ (Int.emod_nonneg _ (by omega)) (.inl (Int.emod_lt_of_pos _ (by omega)))
 by_cases hc : p < (b.length : Int)
 ·rw [if_pos (by simpa using hc)]
  exact ⟨by omega, ⟨by omega, by omega⟩, fin _ (by omega)⟩
 rw [if_neg (by simpa using hc)]
 have hlen : (0 : Int) < (b.length : Int) := by omega
 generalize hL : (b.length : Int) = L at *
 have m1 := Int.emod_nonneg p (show L ≠ 0 by omega)
 have m2 := Int.emod_lt_of_pos p hlen
 have m3 := Int.emod_nonneg (p * 7 + 3) (show L ≠ 0 by omega)
 have m4 := Int.emod_lt_of_pos (p * 7 + 3) hlen
 obtain ⟨d1, d2⟩ := ediv_le hp hlen
 generalize p % L = r1 at *
 generalize (p * 7 + 3) % L = r2 at *
 generalize p / L = q at *
 have u1 := (nth b r1).toNat_lt
 have u2 := (nth b r2).toNat_lt
 generalize (nth b r1).toNat = x1 at *
 generalize (nth b r2).toNat = x2 at *
 have s0 : 0 ≤ (x1 : Int) * 131 + (x2 : Int) * 1117 + p * 29 + q * 53 := by omega
 have s1 : (x1 : Int) * 131 + (x2 : Int) * 1117 + p * 29 + q * 53 ≤ 9223372036854775807 := by omega
 refine ⟨by omega, by omega, fun _ => by unfold I64; omega, fun _ => by unfold I64; omega, fun _ => by unfold I64; omega, by omega, by omega, fun _ => by unfold I64; omega, fun _ => by unfold I64; omega, fun _ => by unfold I64; omega, fun _ => by unfold I64; omega, by omega, fun _ => by unfold I64; omega, fun _ => by unfold I64; omega, by omega, ?_⟩
 generalize (x1 : Int) * 131 + (x2 : Int) * 1117 + p * 29 + q * 53 = s at *
 have hx : 0 ≤ xor64 s (s / 64) := xor64_nonneg ⟨s0, s1⟩ (by omega)
 exact ⟨by omega, fin _ hx⟩
section
section
variable {α : Type} [DecidableEq α]
def lcsR (x : α) (p : List α → Nat) : List α → Nat
 | [] => 0
 | y :: b => if x = y then p b + 1 else max (p (y :: b)) (lcsR x p b)
def lcs : List α → List α → Nat
 | [] => fun _ => 0
 | x :: a => lcsR x (lcs a)
@[simp] theorem lcs_nil (b : List α) : lcs [] b = 0 := rfl
@[simp] theorem lcs_nil2 (a : List α) : lcs a [] = 0 := by cases a <;> rfl
theorem lcs_cons (x y : α) (a b : List α) : lcs (x :: a) (y :: b) = if x = y then lcs a b + 1 else max (lcs a (y :: b)) (lcs (x :: a) b) := rfl
theorem lcs_sub (a b : List α) : ∃ s : List α, s.Sublist a ∧ s.Sublist b ∧ s.length = lcs a b := by
 induction a generalizing b with
 | nil => exact ⟨[], List.nil_sublist _, List.nil_sublist _, rfl⟩
 | cons x a ih =>
  induction b with
  | nil => exact ⟨[], List.nil_sublist _, List.nil_sublist _, rfl⟩
  | cons y b ihb =>
   rw [lcs_cons]
   by_cases h : x = y
   ·subst h
    obtain ⟨s, h1, h2, h3⟩ := ih b
    exact ⟨x :: s, h1.cons_cons x, h2.cons_cons x, by rw [if_pos rfl, ← h3]; rfl⟩
   ·rw [if_neg h]
    by_cases hm : lcs (x :: a) b ≤ lcs a (y :: b)
    ·obtain ⟨s, h1, h2, h3⟩ := ih (y :: b)
     exact ⟨s, h1.cons x, h2, by omega⟩
    ·obtain ⟨s, h1, h2, h3⟩ := ihb
     exact ⟨s, h1, h2.cons y, by omega⟩
theorem lcs_le1 (a b : List α) : lcs a b ≤ a.length := by
 obtain ⟨s, h1, h2, h3⟩ := lcs_sub a b; rw [← h3]; exact h1.length_le
theorem lcs_le2 (a b : List α) : lcs a b ≤ b.length := by
 obtain ⟨s, h1, h2, h3⟩ := lcs_sub a b; rw [← h3]; exact h2.length_le
theorem pp {a b c d : Nat} (h : a = c) (k : b = d) : (a, b) = (c, d) := by rw [h, k]
def pairs (i j : Nat) : List α → List α → List (Nat × Nat)
 | x :: a, y :: b => if x = y then (i, j) :: pairs (i + 1) (j + 1) a b else if lcs (x :: a) b ≤ lcs a (y :: b) then pairs (i + 1) j a (y :: b) else pairs i (j + 1) (x :: a) b
 | [], _ => []
 | _ :: _, [] => []
 termination_by a b => a.length + b.length
theorem pairs_nil (i j : Nat) (b : List α) : pairs i j [] b = [] := by rw [pairs]
theorem pairs_nil2 (i j : Nat) (a : List α) : pairs i j a [] = [] := by cases a <;> rw [pairs]
theorem pairs_cons (i j : Nat) (x y : α) (a b : List α) : pairs i j (x :: a) (y :: b) = if x = y then (i, j) :: pairs (i + 1) (j + 1) a b else if lcs (x :: a) b ≤ lcs a (y :: b) then pairs (i + 1) j a (y :: b) else pairs i (j + 1) (x :: a) b := by rw [pairs]
theorem pairs_ind {C : Nat → Nat → List α → List α → Prop} (h0 : ∀ i j b, C i j [] b) (h1 : ∀ i j a, C i j a [])
  (he : ∀ i j x a b, C (i + 1) (j + 1) a b → C i j (x :: a) (x :: b))
  (ha : ∀ i j x y a b, x ≠ y → lcs (x :: a) b ≤ lcs a (y :: b) → C (i + 1) j a (y :: b) → C i j (x :: a) (y :: b))
  (hb : ∀ i j x y a b, x ≠ y → ¬ lcs (x :: a) b ≤ lcs a (y :: b) → C i (j + 1) (x :: a) b → C i j (x :: a) (y :: b)) : ∀ i j (a b : List α), C i j a b := by
 have : ∀ n i j (a b : List α), a.length + b.length ≤ n → C i j a b := by
  intro n
  induction n with
  | zero => intro i j a b h; cases a with
   | nil => exact h0 _ _ _
   | cons _ _ => simp at h
  | succ n ih =>
   intro i j a b h
   cases a with
   | nil => exact h0 _ _ _
   | cons x a => cases b with
    | nil => exact h1 _ _ _
    | cons y b =>
     simp only [List.length_cons] at h
     by_cases e : x = y
     ·subst e; exact he _ _ _ _ _ (ih _ _ _ _ (by omega))
     ·by_cases l : lcs (x :: a) b ≤ lcs a (y :: b)
      ·exact ha _ _ _ _ _ _ e l (ih _ _ _ _ (by simp only [List.length_cons]; omega))
      ·exact hb _ _ _ _ _ _ e l (ih _ _ _ _ (by simp only [List.length_cons]; omega))
 exact fun i j a b => this _ i j a b (Nat.le_refl _)
theorem pairs_len (i j : Nat) (a b : List α) : (pairs i j a b).length = lcs a b := by
 refine pairs_ind (C := fun i j a b => (pairs i j a b).length = lcs a b) ?_ ?_ ?_ ?_ ?_ i j a b
 ·intros; rw [pairs_nil]; rfl
 ·intros; rw [pairs_nil2, lcs_nil2]; rfl
 ·intro i j x a b h; rw [pairs_cons, if_pos rfl, lcs_cons, if_pos rfl, List.length_cons, h]
 ·intro i j x y a b e l h; rw [pairs_cons, if_neg e, if_pos l, lcs_cons, if_neg e, h]; exact (Nat.max_eq_left l).symm
 ·intro i j x y a b e l h; rw [pairs_cons, if_neg e, if_neg l, lcs_cons, if_neg e, h]; exact (Nat.max_eq_right (by omega)).symm
theorem pairs_mem (i j : Nat) (a b : List α) : ∀ p ∈ pairs i j a b, ∃ k l, p = (i + k, j + l) ∧ ∃ x, a[k]? = some x ∧ b[l]? = some x := by
 refine pairs_ind (C := fun i j a b => ∀ p ∈ pairs i j a b, ∃ k l, p = (i + k, j + l) ∧ ∃ x, a[k]? = some x ∧ b[l]? = some x) ?_ ?_ ?_ ?_ ?_ i j a b
 ·intro i j b p h; rw [pairs_nil] at h; cases h
 ·intro i j a p h; rw [pairs_nil2] at h; cases h
 ·intro i j x a b ih p h
  rw [pairs_cons, if_pos rfl] at h
  rcases List.mem_cons.1 h with rfl | h
  ·exact ⟨0, 0, rfl, x, rfl, rfl⟩
  ·obtain ⟨k, l, rfl, z, h1, h2⟩ := ih p h
   exact ⟨k + 1, l + 1, pp (by omega) (by omega), z, h1, h2⟩
 ·intro i j x y a b e l ih p h
  rw [pairs_cons, if_neg e, if_pos l] at h
  obtain ⟨k, l, rfl, z, h1, h2⟩ := ih p h
  exact ⟨k + 1, l, pp (by omega) (by omega), z, h1, h2⟩
 ·intro i j x y a b e l ih p h
  rw [pairs_cons, if_neg e, if_neg l] at h
  obtain ⟨k, l, rfl, z, h1, h2⟩ := ih p h
  exact ⟨k, l + 1, pp (by omega) (by omega), z, h1, h2⟩
theorem pairs_ord (i j : Nat) (a b : List α) : (pairs i j a b).Pairwise (fun p q => p.1 < q.1 ∧ p.2 < q.2) := by
 refine pairs_ind (C := fun i j a b => (pairs i j a b).Pairwise (fun p q => p.1 < q.1 ∧ p.2 < q.2)) ?_ ?_ ?_ ?_ ?_ i j a b
 ·intros; rw [pairs_nil]; exact List.Pairwise.nil
 ·intros; rw [pairs_nil2]; exact List.Pairwise.nil
 ·intro i j x a b h; rw [pairs_cons, if_pos rfl]
  refine List.Pairwise.cons (fun p hp => ?_) h
  obtain ⟨k, l, rfl, _⟩ := pairs_mem _ _ _ _ p hp
  exact ⟨by dsimp only; omega, by dsimp only; omega⟩
 ·intro i j x y a b e l h; rw [pairs_cons, if_neg e, if_pos l]; exact h
 ·intro i j x y a b e l h; rw [pairs_cons, if_neg e, if_neg l]; exact h
end
section
variable {α : Type} [Inhabited α]
theorem nth_set (l : List α) {k : Nat} (h : k < l.length) (m : Nat) (v : α) : nth (l.set k v) (m : Int) = if m = k then v else nth l (m : Int) := by
 unfold nth
 rw [Int.toNat_natCast, List.getD_eq_getElem?_getD, List.getD_eq_getElem?_getD, List.getElem?_set]
 by_cases e : m = k
 ·subst e; rw [if_pos rfl, if_pos rfl, if_pos h]; rfl
 ·rw [if_neg (fun x => e x.symm), if_neg e]
theorem nth_rep (n m : Nat) (v : α) (h : m < n) : nth (List.replicate n v) (m : Int) = v := by
 rw [nth_nat _ (by simpa using h)]; simp
theorem drop_nth (l : List α) {k : Nat} (h : k < l.length) : l.drop k = nth l (k : Int) :: l.drop (k + 1) := by
 rw [nth_nat l h]; exact List.drop_eq_getElem_cons h
def seg (l : List α) (i j : Nat) : List α := (l.drop i).take (j - i)
theorem seg_len (l : List α) (i j : Nat) (h : j ≤ l.length) : (seg l i j).length = j - i := by
 unfold seg; rw [List.length_take, List.length_drop]; omega
theorem seg_end (l : List α) (i : Nat) : seg l i l.length = l.drop i := List.take_of_length_le (by simp)
theorem seg_app (l : List α) {i j : Nat} (h : i ≤ j) : seg l i j ++ l.drop j = l.drop i := by
 unfold seg
 have : l.drop j = (l.drop i).drop (j - i) := by rw [List.drop_drop]; congr 1; omega
 rw [this, List.take_append_drop]
variable [DecidableEq α]
theorem lcs_drop (a b : List α) {i j : Nat} (hi : i < a.length) (hj : j < b.length) : lcs (a.drop i) (b.drop j) = if nth a (i : Int) = nth b (j : Int) then lcs (a.drop (i + 1)) (b.drop (j + 1)) + 1 else max (lcs (a.drop (i + 1)) (b.drop j)) (lcs (a.drop i) (b.drop (j + 1))) := by
 rw [drop_nth a hi, drop_nth b hj, lcs_cons, ← drop_nth a hi, ← drop_nth b hj]
theorem pairs_drop (a b : List α) {i j : Nat} (hi : i < a.length) (hj : j < b.length) : pairs i j (a.drop i) (b.drop j) = if nth a (i : Int) = nth b (j : Int) then (i, j) :: pairs (i + 1) (j + 1) (a.drop (i + 1)) (b.drop (j + 1)) else if lcs (a.drop i) (b.drop (j + 1)) ≤ lcs (a.drop (i + 1)) (b.drop j) then pairs (i + 1) j (a.drop (i + 1)) (b.drop j) else pairs i (j + 1) (a.drop i) (b.drop (j + 1)) := by
 rw [drop_nth a hi, drop_nth b hj, pairs_cons, ← drop_nth a hi, ← drop_nth b hj]

def pickL (o a b : List α) : Option (List α) := if a = o then some b else if b = o then some a else if a = b then some a else none
theorem pickL_mem {o a b r : List α} (h : pickL o a b = some r) : (∀ z ∈ r, z ∈ a ∨ z ∈ b) ∧ (∀ z ∈ a, z ∈ o ∨ z ∈ r) ∧ (∀ z ∈ b, z ∈ o ∨ z ∈ r) ∧ r.length ≤ a.length + b.length := by
 unfold pickL at h
 by_cases h1 : a = o
 ·rw [if_pos h1] at h; cases h; subst h1
  exact ⟨fun z hz => .inr hz, fun z hz => .inl hz, fun z hz => .inr hz, by omega⟩
 ·rw [if_neg h1] at h
  by_cases h2 : b = o
  ·rw [if_pos h2] at h; cases h; subst h2
   exact ⟨fun z hz => .inl hz, fun z hz => .inr hz, fun z hz => .inl hz, by omega⟩
  ·rw [if_neg h2] at h
   by_cases h3 : a = b
   ·rw [if_pos h3] at h; cases h; subst h3
    exact ⟨fun z hz => .inl hz, fun z hz => .inr hz, fun z hz => .inr hz, by omega⟩
   ·rw [if_neg h3] at h; cases h
def mloop (o a b : List α) (f g : Nat → Option Nat) : Nat → Nat → Nat → Nat → Nat → Option (List α)
 | 0, _, i, j, k => pickL (o.drop i) (a.drop j) (b.drop k)
 | n + 1, at_, i, j, k => match f at_, g at_ with
  | some x, some y => (pickL (seg o i at_) (seg a j x) (seg b k y)).bind fun p => (mloop o a b f g n (at_ + 1) (at_ + 1) (x + 1) (y + 1)).map fun r => p ++ nth o (at_ : Int) :: r
  | _, _ => mloop o a b f g n (at_ + 1) i j k
theorem mloop_zero (o a b : List α) (f g : Nat → Option Nat) (t i j k : Nat) : mloop o a b f g 0 t i j k = pickL (o.drop i) (a.drop j) (b.drop k) := rfl
theorem mloop_some {o a b : List α} {f g : Nat → Option Nat} {n t i j k x y : Nat} (hf : f t = some x) (hg : g t = some y) : mloop o a b f g (n + 1) t i j k = (pickL (seg o i t) (seg a j x) (seg b k y)).bind fun p => (mloop o a b f g n (t + 1) (t + 1) (x + 1) (y + 1)).map fun r => p ++ nth o (t : Int) :: r := by
 rw [mloop, hf, hg]
theorem mloop_none {o a b : List α} {f g : Nat → Option Nat} {n t i j k : Nat} (h : f t = none ∨ g t = none) : mloop o a b f g (n + 1) t i j k = mloop o a b f g n (t + 1) i j k := by
 rw [mloop]
 rcases h with h | h
 ·rw [h]
 ·rw [h]; cases f t <;> rfl
structure Mates (o a : List α) (f : Nat → Option Nat) : Prop where
 lt : ∀ {t x}, f t = some x → t < o.length ∧ x < a.length
 eq : ∀ {t x}, f t = some x → nth o (t : Int) = nth a (x : Int)
 mono : ∀ {t x u y}, f t = some x → f u = some y → t < u → x < y
def From (f : Nat → Option Nat) (t j : Nat) : Prop := ∀ u x, t ≤ u → f u = some x → j ≤ x
theorem From.zero (f : Nat → Option Nat) (t : Nat) : From f t 0 := fun _ _ _ _ => Nat.zero_le _
theorem From.skip {f : Nat → Option Nat} {t j : Nat} (h : From f t j) : From f (t + 1) j := fun u x hu hx => h u x (by omega) hx
theorem From.step {o a : List α} {f : Nat → Option Nat} (m : Mates o a f) {t x : Nat} (h : f t = some x) : From f (t + 1) (x + 1) := fun u y hu hy => m.mono h hy (by omega)
theorem mem_seg {l : List α} {i j : Nat} {z : α} (h : z ∈ seg l i j) : z ∈ l := List.mem_of_mem_drop (List.mem_of_mem_take h)
theorem mem_split {l : List α} {i j : Nat} (hij : i ≤ j) (hj : j < l.length) {z : α} (h : z ∈ l.drop i) : z ∈ seg l i j ∨ z = nth l (j : Int) ∨ z ∈ l.drop (j + 1) := by
 rw [← seg_app l hij, drop_nth l hj] at h
 rcases List.mem_append.1 h with h | h
 ·exact .inl h
 ·rcases List.mem_cons.1 h with h | h
  ·exact .inr (.inl h)
  ·exact .inr (.inr h)
theorem mloop_keep {o a b : List α} {f g : Nat → Option Nat} (mf : Mates o a f) (mg : Mates o b g) (n t i j k : Nat) (hn : t + n = o.length) (hj : From f t j) (hk : From g t k) (r : List α) (h : mloop o a b f g n t i j k = some r) :
  (∀ z ∈ r, z ∈ a ∨ z ∈ b) ∧ (∀ z ∈ a.drop j, z ∈ o ∨ z ∈ r) ∧ (∀ z ∈ b.drop k, z ∈ o ∨ z ∈ r) ∧ r.length ≤ (a.drop j).length + (b.drop k).length := by
 induction n generalizing t i j k r with
 | zero =>
  rw [mloop_zero] at h
  obtain ⟨h1, h2, h3, h4⟩ := pickL_mem h
  exact ⟨fun z hz => (h1 z hz).imp List.mem_of_mem_drop List.mem_of_mem_drop, fun z hz => (h2 z hz).imp List.mem_of_mem_drop id, fun z hz => (h3 z hz).imp List.mem_of_mem_drop id, h4⟩
 | succ n ih =>
  cases hf : f t with
  | none => rw [mloop_none (.inl hf)] at h; exact ih _ _ _ _ (by omega) hj.skip hk.skip _ h
  | some x => cases hg : g t with
   | none => rw [mloop_none (.inr hg)] at h; exact ih _ _ _ _ (by omega) hj.skip hk.skip _ h
   | some y =>
    rw [mloop_some hf hg] at h
    cases hp : pickL (seg o i t) (seg a j x) (seg b k y) with
    | none => rw [hp] at h; cases h
    | some p =>
     rw [hp, Option.bind_some] at h
     cases hr : mloop o a b f g n (t + 1) (t + 1) (x + 1) (y + 1) with
     | none => rw [hr] at h; cases h
     | some q =>
      rw [hr, Option.map_some] at h; cases h
      obtain ⟨h1, h2, h3, h4⟩ := pickL_mem hp
      obtain ⟨g1, g2, g3, g4⟩ := ih _ _ _ _ (by omega) (.step mf hf) (.step mg hg) _ hr
      have hjx := hj t x (Nat.le_refl _) hf
      have hky := hk t y (Nat.le_refl _) hg
      have hx := (mf.lt hf).2
      have hy := (mg.lt hg).2
      have ex := mf.eq hf
      have ey := mg.eq hg
      refine ⟨fun z hz => ?_, fun z hz => ?_, fun z hz => ?_, ?_⟩
      ·rcases List.mem_append.1 hz with hz | hz
       ·exact (h1 z hz).imp mem_seg mem_seg
       ·rcases List.mem_cons.1 hz with rfl | hz
        ·rw [ex]; exact .inl (nth_mem a hx)
        ·exact g1 z hz
      ·rcases mem_split hjx hx hz with hz | rfl | hz
       ·exact (h2 z hz).imp mem_seg (fun h => List.mem_append_left _ h)
       ·exact .inr (List.mem_append_right _ (by rw [ex]; exact List.mem_cons_self))
       ·exact (g2 z hz).imp id (fun h => List.mem_append_right _ (List.mem_cons_of_mem _ h))
      ·rcases mem_split hky hy hz with hz | rfl | hz
       ·exact (h3 z hz).imp mem_seg (fun h => List.mem_append_left _ h)
       ·exact .inr (List.mem_append_right _ (by rw [ey]; exact List.mem_cons_self))
       ·exact (g3 z hz).imp id (fun h => List.mem_append_right _ (List.mem_cons_of_mem _ h))
      ·rw [seg_len a _ _ (by omega), seg_len b _ _ (by omega)] at h4
       simp only [List.length_append, List.length_cons, List.length_drop] at g4 ⊢
       omega
end
end
def few (a b : List Pt) : Bool := decide (a.length ≤ 12) && decide (b.length ≤ 12)
theorem few_iff {a b : List Pt} : few a b = true ↔ a.length ≤ 12 ∧ b.length ≤ 12 := by simp [few]
theorem few_not {a b : List Pt} : few a b = false ↔ ¬ (a.length ≤ 12 ∧ b.length ≤ 12) := by rw [← few_iff]; simp
def slen (a b : List Pt) : Int := if few a b then (lcs a b : Nat) else 0
def mkP (p : Nat × Nat) : Pair := ⟨p.1, p.2⟩
def spairs (a b : List Pt) : List Pair := if few a b then (pairs 0 0 a b).map mkP else []
theorem spairs_few {a b : List Pt} (h : few a b = true) : spairs a b = (pairs 0 0 a b).map mkP := by unfold spairs; rw [if_pos h]
theorem spairs_len (a b : List Pt) : ((spairs a b).length : Int) = slen a b := by
 unfold spairs slen
 by_cases h : few a b = true
 ·rw [if_pos h, if_pos h, List.length_map, pairs_len]
 ·rw [if_neg h, if_neg h]; rfl
theorem slen_le (a b : List Pt) : 0 ≤ slen a b ∧ slen a b ≤ a.length ∧ slen a b ≤ b.length ∧ slen a b ≤ 12 := by
 unfold slen
 by_cases h : few a b = true
 ·have := few_iff.1 h
  have h1 := lcs_le1 a b; have h2 := lcs_le2 a b
  rw [if_pos h]; omega
 ·rw [if_neg h]; omega
def RowOk (a b : List Pt) (i : Nat) (j : Nat) (xs : List Int) : Prop := xs.length = b.length + 1 ∧ ∀ m : Nat, j ≤ m → m ≤ b.length → nth xs (m : Int) = (lcs (a.drop i) (b.drop m) : Nat)
def Tab (a b : List Pt) (D : Nat → Nat → Prop) (t : List (List Int)) : Prop := t.length = a.length + 1 ∧ ∀ r : Nat, r ≤ a.length → (nth t (r : Int)).length = b.length + 1 ∧ ∀ m : Nat, m ≤ b.length → D r m → nth (nth t (r : Int)) (m : Int) = (lcs (a.drop r) (b.drop m) : Nat)
theorem Tab.set {a b : List Pt} {D : Nat → Nat → Prop} {t : List (List Int)} (h : Tab a b D t) {i j : Nat} (hi : i ≤ a.length) (hj : j ≤ b.length) {v : Int} (hv : v = (lcs (a.drop i) (b.drop j) : Nat)) {D' : Nat → Nat → Prop} (hD : ∀ r m, D' r m → D r m ∨ (r = i ∧ m = j)) :
  Tab a b D' (t.set i ((nth t (i : Int)).set j v)) := by
 obtain ⟨h1, h2⟩ := h
 refine ⟨by rw [List.length_set]; exact h1, fun r hr => ?_⟩
 rw [nth_set _ (by omega)]
 by_cases e : r = i
 ·subst e
  rw [if_pos rfl]
  refine ⟨by rw [List.length_set]; exact (h2 r hr).1, fun m hm hd => ?_⟩
  rw [nth_set _ (by rw [(h2 r hr).1]; omega)]
  by_cases f : m = j
  ·subst f; rw [if_pos rfl, hv]
  ·rw [if_neg f]
   exact (h2 r hr).2 m hm ((hD r m hd).resolve_right fun x => f x.2)
 ·rw [if_neg e]
  exact ⟨(h2 r hr).1, fun m hm hd => (h2 r hr).2 m hm ((hD r m hd).resolve_right fun x => e x.1)⟩
def mateI (l : List Pair) (k : Int) : Int := match l with
 | [] => -1
 | p :: l => if p.A == k then p.B else mateI l k
theorem mateI_nil (k : Int) : mateI [] k = -1 := rfl
theorem mateI_cons (p : Pair) (l : List Pair) (k : Int) : mateI (p :: l) k = if p.A == k then p.B else mateI l k := rfl
def mateN (l : List (Nat × Nat)) (k : Nat) : Option Nat := match l with
 | [] => none
 | p :: l => if p.1 = k then some p.2 else mateN l k
theorem mateI_mk (l : List (Nat × Nat)) (k : Nat) : mateI (l.map mkP) (k : Int) = match mateN l k with | some x => (x : Int) | none => -1 := by
 induction l with
 | nil => rfl
 | cons p l ih =>
  rw [List.map_cons, mateI_cons, mateN]
  by_cases h : p.1 = k
  ·rw [if_pos (by simp [mkP, h]), if_pos h]; rfl
  ·rw [if_neg (by simp [mkP]; omega), if_neg h, ih]
theorem mateN_mem {l : List (Nat × Nat)} {k x : Nat} (h : mateN l k = some x) : (k, x) ∈ l := by
 induction l with
 | nil => cases h
 | cons p l ih =>
  rw [mateN] at h
  by_cases e : p.1 = k
  ·rw [if_pos e] at h; cases h; subst e; exact List.mem_cons_self
  ·rw [if_neg e] at h; exact List.mem_cons_of_mem _ (ih h)
def part (o a : List Pt) : Nat → Option Nat := mateN (pairs 0 0 o a)
theorem part_mates (o a : List Pt) : Mates o a (part o a) := by
 have hm : ∀ {t x}, part o a t = some x → ∃ z, o[t]? = some z ∧ a[x]? = some z := fun {t x} h => by
  obtain ⟨k, l, e, z, h1, h2⟩ := pairs_mem 0 0 o a _ (mateN_mem h)
  rw [Nat.zero_add, Nat.zero_add] at e; cases e
  exact ⟨z, h1, h2⟩
 refine ⟨fun {t x} h => ?_, fun {t x} h => ?_, fun {t x u y} h1 h2 hu => ?_⟩
 ·obtain ⟨z, h1, h2⟩ := hm h
  exact ⟨(List.getElem?_eq_some_iff.1 h1).1, (List.getElem?_eq_some_iff.1 h2).1⟩
 ·obtain ⟨z, h1, h2⟩ := hm h
  obtain ⟨e1, e2⟩ := List.getElem?_eq_some_iff.1 h1
  obtain ⟨e3, e4⟩ := List.getElem?_eq_some_iff.1 h2
  rw [nth_nat _ e1, nth_nat _ e3, e2, e4]
 ·have ho := pairs_ord 0 0 o a
  have m1 := mateN_mem h1; have m2 := mateN_mem h2
  generalize pairs 0 0 o a = l at ho m1 m2
  induction l with
  | nil => cases m1
  | cons p l ih =>
   obtain ⟨q1, q2⟩ := List.pairwise_cons.1 ho
   rcases List.mem_cons.1 m1 with e1 | n1
   ·rcases List.mem_cons.1 m2 with e2 | n2
    ·subst e1; cases e2; omega
    ·subst e1; exact (q1 _ n2).2
   ·rcases List.mem_cons.1 m2 with e2 | n2
    ·subst e2; have := (q1 _ n1).1; dsimp only at this; omega
    ·exact ih q2 n1 n2
def smerge (o a b : List Pt) : Option (List Pt) := if few o a && few o b then mloop o a b (part o a) (part o b) o.length 0 0 0 0 else none
theorem smerge_few {o a b : List Pt} (h1 : few o a = true) (h2 : few o b = true) : smerge o a b = mloop o a b (part o a) (part o b) o.length 0 0 0 0 := by unfold smerge; rw [h1, h2]; rfl
theorem smerge_not {o a b : List Pt} (h : few o a = false ∨ few o b = false) : smerge o a b = none := by
 unfold smerge; rcases h with h | h <;> rw [h] <;> simp
theorem smerge_keep {o a b r : List Pt} (h : smerge o a b = some r) : (∀ z ∈ r, z ∈ a ∨ z ∈ b) ∧ (∀ z ∈ a, z ∈ o ∨ z ∈ r) ∧ (∀ z ∈ b, z ∈ o ∨ z ∈ r) ∧ r.length ≤ a.length + b.length := by
 unfold smerge at h
 by_cases hf : (few o a && few o b) = true
 ·rw [if_pos hf] at h
  exact mloop_keep (part_mates o a) (part_mates o b) _ _ _ _ _ (by omega) (From.zero _ _) (From.zero _ _) _ h
 ·rw [if_neg hf] at h; cases h
theorem smerge_len {o a b r : List Pt} (h : smerge o a b = some r) : r.length ≤ 24 := by
 have h1 := (smerge_keep h).2.2.2
 unfold smerge at h
 by_cases hf : (few o a && few o b) = true
 ·rw [Bool.and_eq_true, few_iff, few_iff] at hf; omega
 ·rw [if_neg hf] at h; cases h
theorem F35.law (b : List UInt8) (p : Int) (l : List Int) (Q : Int → Int → Prop) (hb : b.length ≤ 2000) (hp : 0 ≤ p) (hp1 : p ≤ 1099511627776) (hl : 0 < l.length) (hq : ∀ s ∈ l, Q s (p + 1)) : F35.E b p l Q := by
 unfold F35.E
 exact F26.law _ _ _ _ hb hp hp1 fun v h0 h1 => ⟨by omega, hq _ (nth_memi l h0 (by omega))⟩
def allN (n : Nat) (c : Nat → Bool) : Bool := (List.range n).all c
theorem allN_true {n : Nat} {c : Nat → Bool} (h : ∀ j, j < n → c j = true) : allN n c = true := by
 unfold allN; rw [List.all_eq_true]; intro j hj; exact h j (List.mem_range.1 hj)
theorem allN_false {n k : Nat} {c : Nat → Bool} (hk : k < n) (h : c k = false) : allN n c = false := by
 unfold allN
 rw [Bool.eq_false_iff]; intro ha
 rw [List.all_eq_true] at ha
 rw [ha k (List.mem_range.2 hk)] at h; cases h
theorem allN_iff {n : Nat} {c : Nat → Bool} : allN n c = true ↔ ∀ j, j < n → c j = true := by
 unfold allN; rw [List.all_eq_true]; exact ⟨fun h j hj => h j (List.mem_range.2 hj), fun h j hj => h j (List.mem_range.1 hj)⟩
theorem loop_all (n : Nat) (c : Nat → Bool) {B : (Int → Prop) → (Int → Nat) → Int → Prop} {F : Prop}
  (hs : ∀ (I : Int → Prop) (mu : Int → Nat) (k : Nat), k < n → (∀ j, j < k → c j = true) → (c k = true → I ((k : Int) + 1) ∧ mu ((k : Int) + 1) < mu (k : Int)) → B I mu (k : Int))
  (hF : (∀ j, j < n → c j = true) → F) :
  ∃ (I : Int → Prop) (mu : Int → Nat), I 0 ∧ ∀ (i : Int), I i → (if decide (i < (n : Int)) then B I mu i else F) := by
 refine ⟨fun i => ∃ k : Nat, i = k ∧ k ≤ n ∧ ∀ j, j < k → c j = true, fun i => ((n : Int) - i).toNat, ⟨0, rfl, Nat.zero_le _, fun j hj => absurd hj (Nat.not_lt_zero _)⟩, ?_⟩
 rintro _ ⟨k, rfl, hk, ha⟩
 by_cases h : (k : Int) < (n : Int)
 ·rw [if_pos (by simpa using h)]
  refine hs _ _ k (by omega) ha fun hc => ⟨⟨k + 1, by omega, by omega, fun j hj => ?_⟩, by omega⟩
  by_cases e : j = k
  ·subst e; exact hc
  ·exact ha j (by omega)
 ·rw [if_neg (by simpa using h)]
  exact hF fun j hj => ha j (by omega)
theorem ite_true' {b : Bool} {p q : Prop} (h : b = true) (hp : p) : (if b then p else q) := by rw [if_pos h]; exact hp
theorem less_irr : ∀ a : Str, Op.bytesLess a a = false
 | [] => rfl
 | x :: a => by rw [Op.bytesLess]; simp [less_irr a]
theorem less_tri : ∀ a b : Str, (!(Op.bytesLess a b)) = (Op.bytesLess b a || b == a)
 | [], [] => rfl
 | [], y :: b => rfl
 | x :: a, [] => rfl
 | x :: a, y :: b => by
  rw [Op.bytesLess, Op.bytesLess]
  have h := less_tri a b
  by_cases h1 : x < y
  ·have h2 : ¬ y < x := fun h => absurd (UInt8.lt_trans h1 h) (UInt8.lt_irrefl _)
   have h3 : ¬ y = x := fun e => by subst e; exact UInt8.lt_irrefl _ h1
   simp [h1, h2, h3]
  ·by_cases h2 : y < x
   ·have h3 : ¬ x = y := fun e => by subst e; exact UInt8.lt_irrefl _ h2
    simp [h1, h2, h3]
   ·have h3 : x = y := UInt8.le_antisymm (UInt8.not_lt.1 h2) (UInt8.not_lt.1 h1)
    subst h3
    simp only [h1, decide_false, Bool.false_or, beq_self_eq_true, Bool.true_and]
    rw [h]
    congr 1
    rw [Bool.eq_iff_iff, beq_iff_eq, beq_iff_eq]
    simp
def byteOk (b : UInt8) : Bool := !(decide ((b.toNat : Int) < 97)) && !(decide ((b.toNat : Int) > 122))
def wordOk (s : Str) : Bool := allN s.length (fun k => byteOk (nth s (k : Int))) && (decide (1 ≤ s.length) && decide (s.length ≤ 6))
def inR (x : Int) : Bool := decide (-1000 ≤ x) && decide (x ≤ 1000)
def ptOk (p : Pt) : Bool := inR p.X && inR p.Y
def ptsOk (p : List Pt) : Bool := allN p.length fun k => ptOk (nth p (k : Int)) && (decide (k = 0) || !(decide (nth p ((k : Int) - 1) = nth p (k : Int))))
def kindOk (kind : Int) (p : List Pt) : Bool :=
 if kind = 1 then decide (p.length = 1) else if kind = 2 then decide (2 ≤ p.length) && decide (p.length ≤ 6)
 else if kind = 3 then decide (3 ≤ p.length) && decide (p.length ≤ 6) && !(decide (nth p 0 = nth p ((p.length : Int) - 1))) else false
def shapeOk (s : Shape) : Bool := ptsOk s.Pts && kindOk s.Kind s.Pts
def tagsOk (t : List Tag) : Bool := allN t.length fun k => wordOk (nth t (k : Int)).Key && wordOk (nth t (k : Int)).Val && (decide (k = 0) || Op.bytesLess (nth t ((k : Int) - 1)).Key (nth t (k : Int)).Key)
def featOk (f : Feat) : Bool := tagsOk f.Tags && decide (f.Tags.length ≤ 4) && wordOk f.Id && shapeOk f.Shape
def noF (f : Feat) : Bool := decide (f = ⟨[], ⟨0, []⟩, []⟩)
def sideOk (id : Str) (has : Bool) (f : Feat) : Bool := if has then featOk f && decide (f.Id = id) else noF f
def sameC (c : Change) : Bool := decide (c.Had = c.Has) && decide (c.Was = c.Now)
def changeOk (c : Change) : Bool := wordOk c.Id && sideOk c.Id c.Had c.Was && sideOk c.Id c.Has c.Now && !(sameC c)
def sheetOk (s : List Feat) : Bool := allN s.length (fun k => featOk (nth s (k : Int)) && (decide (k = 0) || Op.bytesLess (nth s ((k : Int) - 1)).Id (nth s (k : Int)).Id)) && decide (s.length ≤ 8)
theorem Feat.ext_iff' (a b : Feat) : a = b ↔ a.Id = b.Id ∧ a.Shape = b.Shape ∧ a.Tags = b.Tags := by cases a; cases b; simp
theorem Shape.ext_iff' (a b : Shape) : a = b ↔ a.Kind = b.Kind ∧ a.Pts = b.Pts := by cases a; cases b; simp
theorem F125.law (b : List UInt8) (p : Int) (Q : Pt → Int → Prop) (hb : b.length ≤ 2000) (hp : 0 ≤ p) (hp1 : p ≤ 1000000000) (hq : ∀ x y, 0 ≤ x → x ≤ 3 → 0 ≤ y → y ≤ 5 → Q ⟨x, y⟩ (p + 2)) : F125.E b p Q := by
 unfold F125.E
 refine F26.law _ _ _ _ hb hp (by omega) fun v h0 h1 => F35.law _ _ _ _ hb (by omega) (by omega) (by decide) fun y hy => ?_
 rw [show p + 1 + 1 = p + 2 by omega]
 simp only [List.mem_cons, List.not_mem_nil, or_false] at hy
 exact hq _ _ h0 (by omega) (by omega) (by omega)
theorem F109.m_is (a b : Int) : F109.m a b = min a b := by
 unfold F109.m
 by_cases h : a < b
 ·simp [h]; omega
 ·simp [h]; omega
theorem F110.m_is (n : Int) : F110.m n = inR n := by
 unfold F110.m inR
 by_cases h : -1000 ≤ n
 ·rw [if_pos (by rw [decide_eq_true_eq]; omega), decide_eq_true h, Bool.true_and]
 ·rw [if_neg (by rw [decide_eq_true_eq]; omega), decide_eq_false h, Bool.false_and]
theorem F111.law (p : List Pt) (Q : Bool → Prop) (hq : Q (ptsOk p && decide (p.length ≤ 6))) : F111.E p Q := by
 unfold F111.E
 unfold ptsOk at hq
 refine loop_all p.length (fun k => ptOk (nth p (k : Int)) && (decide (k = 0) || !(decide (nth p ((k : Int) - 1) = nth p (k : Int))))) (fun I mu k hk hp hn => ?_) (fun ha => ?_)
 ·refine ⟨by omega, ?_⟩
  rw [F110.m_is, F110.m_is]
  have bad : (ptOk (nth p (k : Int)) && (decide (k = 0) || !(decide (nth p ((k : Int) - 1) = nth p (k : Int))))) = false → Q false := fun h => by
   rw [allN_false hk h, Bool.false_and] at hq; exact hq
  cases h1 : inR (nth p (k : Int)).X with
  | false => rw [if_pos (by decide)]; exact bad (by simp only [ptOk, h1, Bool.false_and])
  | true =>
   rw [if_neg (by decide)]
   refine ⟨by omega, ?_⟩
   cases h2 : inR (nth p (k : Int)).Y with
   | false => rw [if_pos (by decide)]; exact bad (by simp only [ptOk, h2, Bool.and_false, Bool.false_and])
   | true =>
    rw [if_neg (by decide)]
    have hpt : ptOk (nth p (k : Int)) = true := by simp only [ptOk, h1, h2, Bool.and_self]
    by_cases hk0 : k = 0
    ·rw [if_neg (by rw [decide_eq_true_eq]; omega)]
     obtain ⟨i1, i2⟩ := hn (by rw [hpt, decide_eq_true hk0]; rfl)
     exact ⟨by omega, i1, i2⟩
    ·rw [if_pos (by rw [decide_eq_true_eq]; omega)]
     refine ⟨by omega, fun _ => by unfold I64; omega, by omega, ?_⟩
     rw [eqPt_is]
     by_cases he : nth p ((k : Int) - 1) = nth p (k : Int)
     ·rw [if_pos (by rw [decide_eq_true_eq]; exact he.symm)]
      exact bad (by rw [hpt, decide_eq_false hk0, decide_eq_true he]; rfl)
     ·rw [if_neg (by rw [decide_eq_true_eq]; exact fun e => he e.symm)]
      obtain ⟨i1, i2⟩ := hn (by rw [hpt, decide_eq_false hk0, decide_eq_false he]; rfl)
      exact ⟨by omega, i1, i2⟩
 ·rw [allN_true ha, Bool.true_and] at hq
  have e2 : decide ((p.length : Int) ≤ 6) = decide (p.length ≤ 6) := decide_eq_decide.2 (by omega)
  rw [e2]; exact hq
theorem F63.law (s : Shape) (Q : Bool → Prop) (hq : Q (shapeOk s)) : F63.E s Q := by
 unfold F63.E
 unfold shapeOk at hq
 refine F111.law _ _ ?_
 cases h1 : ptsOk s.Pts with
 | false => rw [h1, Bool.false_and] at hq; rw [Bool.false_and, if_pos (by decide)]; exact hq
 | true =>
  rw [h1, Bool.true_and] at hq
  rw [Bool.true_and]
  unfold kindOk at hq
  by_cases h6 : s.Pts.length ≤ 6
  ·rw [decide_eq_true h6, if_neg (by decide)]
   by_cases k1 : s.Kind = 1
   ·rw [if_pos k1] at hq
    rw [if_pos (by rw [beq_iff_eq]; exact k1)]
    have : ((s.Pts.length : Int) == 1) = decide (s.Pts.length = 1) := by rw [Bool.eq_iff_iff, beq_iff_eq, decide_eq_true_eq]; omega
    rw [this]; exact hq
   rw [if_neg k1] at hq
   rw [if_neg (by rw [beq_iff_eq]; exact k1)]
   by_cases k2 : s.Kind = 2
   ·rw [if_pos k2, decide_eq_true h6, Bool.and_true] at hq
    rw [if_pos (by rw [beq_iff_eq]; exact k2)]
    have : decide ((s.Pts.length : Int) ≥ 2) = decide (2 ≤ s.Pts.length) := decide_eq_decide.2 (by omega)
    rw [this]; exact hq
   rw [if_neg k2] at hq
   rw [if_neg (by rw [beq_iff_eq]; exact k2)]
   by_cases k3 : s.Kind = 3
   ·rw [if_pos k3, decide_eq_true h6, Bool.and_true] at hq
    rw [if_pos (by rw [beq_iff_eq]; exact k3)]
    by_cases h3 : 3 ≤ s.Pts.length
    ·rw [decide_eq_true h3, Bool.true_and] at hq
     rw [if_pos (by rw [decide_eq_true_eq]; omega), eqPt_is]
     exact ⟨by omega, fun _ => by unfold I64; omega, by omega, hq⟩
    ·rw [decide_eq_false h3, Bool.false_and] at hq
     rw [if_neg (by rw [decide_eq_true_eq]; omega)]; exact hq
   ·rw [if_neg k3] at hq
    rw [if_neg (by rw [beq_iff_eq]; exact k3)]; exact hq
  ·rw [decide_eq_false h6, if_pos (by decide)]
   have : (if s.Kind = 1 then decide (s.Pts.length = 1) else if s.Kind = 2 then decide (2 ≤ s.Pts.length) && decide (s.Pts.length ≤ 6)
 else if s.Kind = 3 then decide (3 ≤ s.Pts.length) && decide (s.Pts.length ≤ 6) && !(decide (nth s.Pts 0 = nth s.Pts ((s.Pts.length : Int) - 1))) else false) = false := by
    rw [decide_eq_false h6, decide_eq_false (show ¬ s.Pts.length = 1 by omega)]
    simp
   rw [this] at hq; exact hq
section
def findN (n : Nat) (c : Nat → Bool) : Int := match (List.range n).find? c with | some k => (k : Int) | none => -1
theorem findN_hit {n k : Nat} {c : Nat → Bool} (hk : k < n) (h : c k = true) (hp : ∀ j, j < k → c j = false) : findN n c = (k : Int) := by
 unfold findN
 have : (List.range n).find? c = some k := by
  rw [List.find?_range_eq_some]
  exact ⟨h, List.mem_range.2 hk, fun j hj => by rw [hp j hj]; rfl⟩
 rw [this]
theorem findN_none {n : Nat} {c : Nat → Bool} (h : ∀ j, j < n → c j = false) : findN n c = -1 := by
 unfold findN
 have : (List.range n).find? c = none := by
  rw [List.find?_eq_none]; intro j hj; rw [h j (List.mem_range.1 hj)]; exact Bool.false_ne_true
 rw [this]
theorem findN_le (n : Nat) (c : Nat → Bool) : -1 ≤ findN n c ∧ findN n c < n := by
 unfold findN
 cases h : (List.range n).find? c with
 | none => exact ⟨Int.le_refl _, by dsimp only; omega⟩
 | some k => have := List.mem_range.1 (List.mem_of_find?_eq_some h); exact ⟨by dsimp only; omega, by dsimp only; omega⟩
theorem loop_find (n : Nat) (c : Nat → Bool) {B : (Int → Prop) → (Int → Nat) → Int → Prop} {Q : Int → Prop} (hq : Q (findN n c))
  (hs : ∀ (I : Int → Prop) (mu : Int → Nat) (k : Nat), k < n → (c k = true → Q (k : Int)) → (c k = false → I ((k : Int) + 1) ∧ mu ((k : Int) + 1) < mu (k : Int)) → B I mu (k : Int)) :
  ∃ (I : Int → Prop) (mu : Int → Nat), I 0 ∧ ∀ (i : Int), I i → (if decide (i < (n : Int)) then B I mu i else Q (-1)) := by
 refine loop_all n (fun k => !(c k)) (fun I mu k hk hp hn => hs I mu k hk (fun h => ?_) (fun h => hn (by rw [h]; rfl))) (fun ha => ?_)
 ·rw [findN_hit hk h (fun j hj => by have := hp j hj; rwa [Bool.not_eq_true'] at this)] at hq; exact hq
 ·rw [findN_none (fun j hj => by have := ha j hj; rwa [Bool.not_eq_true'] at this)] at hq; exact hq
section
variable {α : Type} [Inhabited α] [DecidableEq α]
end
end
section
theorem less_trans : ∀ {a b c : Str}, Op.bytesLess a b = true → Op.bytesLess b c = true → Op.bytesLess a c = true
 | _, _, [], _, h => by rename_i b _; cases b <;> simp [Op.bytesLess] at h
 | _, [], _ :: _, h, _ => by rename_i a _ _ _; cases a <;> simp [Op.bytesLess] at h
 | [], _ :: _, _ :: _, _, _ => by simp [Op.bytesLess]
 | x :: a, y :: b, z :: c, h1, h2 => by
  rw [Op.bytesLess] at h1 h2 ⊢
  simp only [Bool.or_eq_true, Bool.and_eq_true, decide_eq_true_eq, beq_iff_eq] at h1 h2 ⊢
  rcases h1 with h1 | ⟨rfl, h1⟩
  ·rcases h2 with h2 | ⟨rfl, h2⟩
   ·exact .inl (UInt8.lt_trans h1 h2)
   ·exact .inl h1
  ·rcases h2 with h2 | ⟨rfl, h2⟩
   ·exact .inl h2
   ·exact .inr ⟨rfl, less_trans h1 h2⟩
theorem less_asym {a b : Str} (h : Op.bytesLess a b = true) : Op.bytesLess b a = false := by
 cases e : Op.bytesLess b a with
 | false => rfl
 | true => have := less_trans h e; rw [less_irr] at this; cases this
theorem less_or {a b : Str} (h : Op.bytesLess a b = false) : Op.bytesLess b a = true ∨ b = a := by
 have := less_tri a b
 rw [h] at this
 simpa using this.symm
def SS (l : List Str) : Prop := l.Pairwise fun x y => Op.bytesLess x y = true
theorem SS.ext : ∀ {l m : List Str}, SS l → SS m → (∀ x, x ∈ l ↔ x ∈ m) → l = m
 | [], [], _, _, _ => rfl
 | [], y :: m, _, _, h => by have := (h y).2 List.mem_cons_self; cases this
 | x :: l, [], _, _, h => by have := (h x).1 List.mem_cons_self; cases this
 | x :: l, y :: m, hl, hm, h => by
  obtain ⟨l1, l2⟩ := List.pairwise_cons.1 hl
  obtain ⟨m1, m2⟩ := List.pairwise_cons.1 hm
  have e : x = y := by
   rcases List.mem_cons.1 ((h x).1 List.mem_cons_self) with e | e
   ·exact e
   ·rcases List.mem_cons.1 ((h y).2 List.mem_cons_self) with e' | e'
    ·exact e'.symm
    ·have := less_trans (m1 x e) (l1 y e'); rw [less_irr] at this; cases this
  subst e
  rw [SS.ext l2 m2 fun z => ⟨fun hz => ?_, fun hz => ?_⟩]
  ·rcases List.mem_cons.1 ((h z).1 (List.mem_cons_of_mem _ hz)) with e | e
   ·subst e; have := l1 z hz; rw [less_irr] at this; cases this
   ·exact e
  ·rcases List.mem_cons.1 ((h z).2 (List.mem_cons_of_mem _ hz)) with e | e
   ·subst e; have := m1 z hz; rw [less_irr] at this; cases this
   ·exact e
theorem le_less (x y : Str) : decide (x ≤ y) = !(Op.bytesLess y x) := by
 rw [bytesLess_eq]
 by_cases h : y < x
 ·rw [decide_eq_true h, decide_eq_false (by rw [List.not_le]; exact h)]; rfl
 ·rw [decide_eq_false h, decide_eq_true (List.not_lt.1 h)]; rfl
theorem sortS_le (l : List Str) : (sortS l).Pairwise fun x y => Op.bytesLess y x = false := by
 have h := List.pairwise_mergeSort (le := fun x y : Str => decide (x ≤ y)) (fun a b c h1 h2 => by
  rw [le_less, Bool.not_eq_true'] at h1 h2 ⊢
  cases e : Op.bytesLess c a with
  | false => rfl
  | true =>
   rcases less_or h1 with h3 | h3
   ·have := less_trans e h3; rw [h2] at this; cases this
   ·subst h3; rw [h2] at e; cases e) (fun a b => by
  rw [le_less, le_less]
  cases e : Op.bytesLess b a with
  | false => rfl
  | true => rw [less_asym e]; rfl) l
 exact h.imp fun {x y} h => by rw [le_less, Bool.not_eq_true'] at h; exact h
theorem sortS_mem {l : List Str} {x : Str} : x ∈ sortS l ↔ x ∈ l := List.mem_mergeSort
section
open Go.Lib
theorem compact_of (l : List Str) (h : l.Pairwise fun x y => Op.bytesLess y x = false) : SS (compact l) ∧ ∀ x, x ∈ compact l ↔ x ∈ l := by
 have hle : ∀ i j, i ≤ j → j < l.length → Op.bytesLess (l.toArray[j]!) (l.toArray[i]!) = false := fun i j hij hj => by
  have hi : i < l.length := by omega
  simp only [List.getElem!_toArray, getElem!_pos l i hi, getElem!_pos l j hj]
  rcases Nat.lt_or_eq_of_le hij with hlt | rfl
  ·exact List.pairwise_iff_getElem.1 h i j hi hj hlt
  ·exact less_irr _
 constructor
 ·unfold compact compactUpTo SS
  rw [List.pairwise_map, List.pairwise_filter]
  refine List.pairwise_iff_getElem.2 fun i j hi hj hij => ?_
  simp only [List.length_range] at hi hj
  simp only [List.getElem_range]
  intro _ hk
  have hj0 : 0 < j := by omega
  have hne : l.toArray[j]! ≠ l.toArray[j - 1]! := fun e => by rw [keeps_neg hj0 e] at hk; cases hk
  have h1 : Op.bytesLess (l.toArray[j - 1]!) (l.toArray[j]!) = true := by
   rcases less_or (hle (j - 1) j (by omega) hj) with h2 | h2
   ·exact h2
   ·exact absurd h2.symm hne
  rcases less_or (hle i (j - 1) (by omega) (by omega)) with h3 | h3
  ·exact less_trans h3 h1
  ·rw [h3]; exact h1
 ·intro x
  constructor
  ·exact compact_mem
  ·intro hx
   obtain ⟨k, hk, rfl⟩ := List.getElem_of_mem hx
   have key : ∀ k, k < l.length → l.toArray[k]! ∈ compact l := by
    intro k
    induction k using Nat.strongRecOn with
    | _ k ih =>
     intro hk
     cases e : keeps l.toArray k with
     | true =>
      unfold compact compactUpTo
      exact List.mem_map.2 ⟨k, List.mem_filter.2 ⟨List.mem_range.2 hk, e⟩, rfl⟩
     | false =>
      have hk0 : 0 < k := by
       rcases Nat.eq_zero_or_pos k with h0 | h0
       ·subst h0; rw [keeps_lt_one _ 0 (by omega)] at e; cases e
       ·exact h0
      have he : l.toArray[k]! = l.toArray[k - 1]! := Classical.byContradiction fun hne => by rw [keeps_pos hne] at e; cases e
      rw [he]; exact ih (k - 1) (by omega) (by omega)
   have := key k hk
   simpa [getElem!_pos l k hk] using this
end
def uniq (l : List Str) : List Str := Lib.compact (sortS l)
theorem uniq_ss (l : List Str) : SS (uniq l) := (compact_of _ (sortS_le l)).1
theorem uniq_mem {l : List Str} {x : Str} : x ∈ uniq l ↔ x ∈ l := ((compact_of _ (sortS_le l)).2 x).trans sortS_mem
def ids (s : List Feat) : List Str := s.map (·.Id)
theorem sheet_ss {s : List Feat} (h : sheetOk s = true) : SS (ids s) ∧ s.length ≤ 8 ∧ ∀ f ∈ s, featOk f = true := by
 unfold sheetOk at h
 simp only [Bool.and_eq_true, decide_eq_true_eq] at h
 obtain ⟨h1, h2⟩ := h
 have h1 := allN_iff.1 h1
 have hadj : ∀ k, 0 < k → k < s.length → Op.bytesLess (nth s ((k : Int) - 1)).Id (nth s (k : Int)).Id = true := fun k h0 hk => by
  have := h1 k hk
  simp only [Bool.and_eq_true, Bool.or_eq_true, decide_eq_true_eq] at this
  rcases this.2 with h | h
  ·omega
  ·exact h
 refine ⟨?_, h2, fun f hf => ?_⟩
 ·unfold SS ids
  rw [List.pairwise_map]
  refine List.pairwise_iff_getElem.2 fun i j hi hj hij => ?_
  have key : ∀ d, i + d + 1 < s.length → Op.bytesLess s[i].Id (nth s ((i + d + 1 : Nat) : Int)).Id = true := by
   intro d
   induction d with
   | zero =>
    intro hd
    have := hadj (i + 0 + 1) (by omega) hd
    rw [show (((i + 0 + 1 : Nat) : Int) - 1) = (i : Int) by omega, nth_nat s hi] at this
    exact this
   | succ d ih =>
    intro hd
    have := hadj (i + (d + 1) + 1) (by omega) hd
    rw [show (((i + (d + 1) + 1 : Nat) : Int) - 1) = ((i + d + 1 : Nat) : Int) by omega] at this
    exact less_trans (ih (by omega)) this
  have := key (j - i - 1) (by omega)
  rw [show i + (j - i - 1) + 1 = j by omega, nth_nat s hj] at this
  exact this
 ·obtain ⟨k, hk, rfl⟩ := List.getElem_of_mem hf
  have := h1 k hk
  rw [nth_nat s hk] at this
  simp only [Bool.and_eq_true] at this
  exact this.1
theorem word_len {s : Str} (h : wordOk s = true) : s.length ≤ 6 := by
 unfold wordOk at h
 simp only [Bool.and_eq_true, decide_eq_true_eq] at h
 exact h.2.2
theorem bulk_small {α : Type} [Bulk α] (l : List α) (m : Nat) (h : ∀ x ∈ l, bulk x ≤ m) : bulk l ≤ l.length * (m + 1) := by
 induction l with
 | nil => exact Nat.zero_le _
 | cons x l ih =>
  have h1 := h x List.mem_cons_self
  have h2 := ih fun y hy => h y (List.mem_cons_of_mem _ hy)
  rw [bulk_cons, List.length_cons, Nat.add_mul]
  omega
theorem feat_small {f : Feat} (h : featOk f = true) : bulk f ≤ 100 ∧ f.Id.length ≤ 6 := by
 unfold featOk at h
 simp only [Bool.and_eq_true, decide_eq_true_eq] at h
 obtain ⟨⟨⟨h1, h2⟩, h3⟩, h4⟩ := h
 have hi := word_len h3
 have e1 : bulk f = bulk f.Id + (bulk f.Shape.Kind + bulk f.Shape.Pts) + bulk f.Tags := rfl
 have e2 : bulk f.Id = f.Id.length := bulk_str _
 have e3 : bulk f.Shape.Kind = 0 := rfl
 have e4 : bulk f.Shape.Pts = f.Shape.Pts.length := bulk_flat (fun _ => rfl) _
 have ht : bulk f.Tags ≤ f.Tags.length * (12 + 1) := bulk_small _ 12 fun t hm => by
  unfold tagsOk at h1
  obtain ⟨k, hk, rfl⟩ := List.getElem_of_mem hm
  have := allN_iff.1 h1 k hk
  rw [nth_nat _ hk] at this
  simp only [Bool.and_eq_true] at this
  have a1 := word_len this.1.1
  have a2 := word_len this.1.2
  have b0 : bulk f.Tags[k] = bulk f.Tags[k].Key + bulk f.Tags[k].Val := rfl
  have b1 : bulk f.Tags[k].Key = f.Tags[k].Key.length := bulk_str _
  have b2 : bulk f.Tags[k].Val = f.Tags[k].Val.length := bulk_str _
  omega
 have hp : f.Shape.Pts.length ≤ 6 := by
  unfold shapeOk kindOk at h4
  simp only [Bool.and_eq_true] at h4
  have := h4.2
  split at this
  ·simp only [decide_eq_true_eq] at this; omega
  ·split at this
   ·simp only [Bool.and_eq_true, decide_eq_true_eq] at this; omega
   ·split at this
    ·simp only [Bool.and_eq_true, decide_eq_true_eq] at this; omega
    ·cases this
 have : f.Tags.length * (12 + 1) ≤ 52 := by omega
 omega
def zeroF : Feat := ⟨[], ⟨0, []⟩, []⟩
theorem uniq_len (l : List Str) : (uniq l).length ≤ l.length := by
 unfold uniq
 have := compact_le (sortS l)
 have h2 : (sortS l).length = l.length := List.length_mergeSort _
 omega
end
theorem mate_part {o a : List Pt} (h : few o a = true) (t : Nat) : mateI (spairs o a) (t : Int) = match part o a t with | some x => (x : Int) | none => -1 := by
 rw [spairs_few h, mateI_mk]; rfl
structure MInv (o a b : List Pt) (xs : List Pt) (i j k t : Nat) : Prop where
 hi : i ≤ t
 ht : t ≤ o.length
 hj : j ≤ a.length
 hk : k ≤ b.length
 fj : From (part o a) t j
 fk : From (part o b) t k
 len : xs.length ≤ j + k
 eq : (mloop o a b (part o a) (part o b) (o.length - t) t i j k).map (xs ++ ·) = smerge o a b
theorem MInv.zero {o a b : List Pt} (h1 : few o a = true) (h2 : few o b = true) : MInv o a b [] 0 0 0 0 :=
 ⟨Nat.le_refl _, Nat.zero_le _, Nat.zero_le _, Nat.zero_le _, From.zero _ _, From.zero _ _, Nat.le_refl _, by rw [smerge_few h1 h2, Nat.sub_zero]; cases mloop o a b (part o a) (part o b) o.length 0 0 0 0 <;> rfl⟩
theorem MInv.skip {o a b xs : List Pt} {i j k t : Nat} (h : MInv o a b xs i j k t) (ht : t < o.length) (hn : part o a t = none ∨ part o b t = none) : MInv o a b xs i j k (t + 1) :=
 ⟨by have := h.hi; omega, ht, h.hj, h.hk, h.fj.skip, h.fk.skip, h.len, by
  have := h.eq
  rw [show o.length - t = (o.length - (t + 1)) + 1 by omega, mloop_none hn] at this
  exact this⟩
theorem MInv.step {o a b xs : List Pt} {i j k t x y : Nat} (h : MInv o a b xs i j k t) (ht : t < o.length) (hx : part o a t = some x) (hy : part o b t = some y) {p : List Pt} (hp : pickL (seg o i t) (seg a j x) (seg b k y) = some p) : MInv o a b (xs ++ p ++ [nth o (t : Int)]) (t + 1) (x + 1) (y + 1) (t + 1) := by
 have h1 := (part_mates o a).lt hx
 have h2 := (part_mates o b).lt hy
 refine ⟨Nat.le_refl _, ht, h1.2, h2.2, .step (part_mates o a) hx, .step (part_mates o b) hy, ?_, ?_⟩
 ·have := (pickL_mem hp).2.2.2
  rw [seg_len a _ _ (by omega), seg_len b _ _ (by omega)] at this
  have h3 := h.fj t x (Nat.le_refl _) hx
  have h4 := h.fk t y (Nat.le_refl _) hy
  have h5 := h.len
  simp only [List.length_append, List.length_singleton]; omega
 ·have := h.eq
  rw [show o.length - t = (o.length - (t + 1)) + 1 by omega, mloop_some hx hy, hp, Option.bind_some, Option.map_map] at this
  rw [← this]
  congr 1
  funext r
  simp
theorem MInv.stop {o a b xs : List Pt} {i j k t x y : Nat} (h : MInv o a b xs i j k t) (ht : t < o.length) (hx : part o a t = some x) (hy : part o b t = some y) (hp : pickL (seg o i t) (seg a j x) (seg b k y) = none) : smerge o a b = none := by
 have := h.eq
 rw [show o.length - t = (o.length - (t + 1)) + 1 by omega, mloop_some hx hy, hp] at this
 exact this.symm
theorem MInv.last {o a b xs : List Pt} {i j k : Nat} (h : MInv o a b xs i j k o.length) : (pickL (o.drop i) (a.drop j) (b.drop k)).map (xs ++ ·) = smerge o a b := by
 have := h.eq
 rw [Nat.sub_self, mloop_zero] at this
 exact this
theorem MInv.from {o a b xs : List Pt} {i j k t x y : Nat} (h : MInv o a b xs i j k t) (hx : part o a t = some x) (hy : part o b t = some y) : j ≤ x ∧ x < a.length ∧ k ≤ y ∧ y < b.length :=
 ⟨h.fj t x (Nat.le_refl _) hx, ((part_mates o a).lt hx).2, h.fk t y (Nat.le_refl _) hy, ((part_mates o b).lt hy).2⟩
def keysT (t : List Tag) : List Str := t.map (·.Key)
theorem keys_app (s t : List Tag) : keysT (s ++ t) = keysT s ++ keysT t := List.map_append
def valT (t : List Tag) (key : Str) : value :=
 if findN t.length (fun j => (nth t (j : Int)).Key == key) < 0 then ⟨false, []⟩ else ⟨true, (nth t (findN t.length fun j => (nth t (j : Int)).Key == key)).Val⟩
theorem valT_no (t : List Tag) (key : Str) (h : (valT t key).has = false) : valT t key = ⟨false, []⟩ := by
 unfold valT at h ⊢
 split
 ·rfl
 ·rename_i h1; rw [if_neg h1] at h; cases h
def three {α : Type} [DecidableEq α] (o a b : α) : α × Bool := if a = o then (b, true) else if b = o then (a, true) else if a = b then (a, true) else (a, false)
def tagF (o a b : value) : value × Bool := if (three o a b).2 then three o a b else (if a.has then a else b, false)
def tagS : Str := [116, 97, 103, 32]
def tagK (o a b : List Tag) (k : Str) : value × Bool := tagF (valT o k) (valT a k) (valT b k)
def clashL (o a b : List Tag) (ks : List Str) : List Str := (ks.filter fun k => !(tagK o a b k).2).map fun k => tagS ++ k
def tagsL (o a b : List Tag) (ks : List Str) : List Tag := (ks.filter fun k => (tagK o a b k).1.has).map fun k => ⟨k, (tagK o a b k).1.val⟩
theorem clashL_snoc (o a b : List Tag) (ks : List Str) (k : Str) : clashL o a b (ks ++ [k]) = clashL o a b ks ++ (if (tagK o a b k).2 then [] else [tagS ++ k]) := by
 unfold clashL
 rw [List.filter_append, List.map_append]
 congr 1
 cases h : (tagK o a b k).2 <;> simp [h]
theorem tagsL_snoc (o a b : List Tag) (ks : List Str) (k : Str) : tagsL o a b (ks ++ [k]) = tagsL o a b ks ++ (if (tagK o a b k).1.has then [⟨k, (tagK o a b k).1.val⟩] else []) := by
 unfold tagsL
 rw [List.filter_append, List.map_append]
 congr 1
 cases h : (tagK o a b k).1.has <;> simp [h]
theorem clashL_len (o a b : List Tag) (ks : List Str) : (clashL o a b ks).length ≤ ks.length := by
 unfold clashL; rw [List.length_map]; exact List.length_filter_le _ _
theorem tagsL_len (o a b : List Tag) (ks : List Str) : (tagsL o a b ks).length ≤ ks.length := by
 unfold tagsL; rw [List.length_map]; exact List.length_filter_le _ _
def shapeF (o a b : Shape) : Shape × Bool :=
 if (three o a b).2 then three o a b
 else if a.Kind = o.Kind ∧ b.Kind = o.Kind then
  match smerge o.Pts a.Pts b.Pts with
  | some p => if shapeOk ⟨a.Kind, p⟩ then (⟨a.Kind, p⟩, true) else (a, false)
  | none => (a, false)
 else (a, false)
def allKeys (o a b : Feat) : List Str := uniq (keysT (o.Tags ++ a.Tags ++ b.Tags))
def shapeS : Str := [115, 104, 97, 112, 101]
def joinF (o a b : Feat) : Feat := ⟨a.Id, (shapeF o.Shape a.Shape b.Shape).1, tagsL o.Tags a.Tags b.Tags (allKeys o a b)⟩
def joinW (o a b : Feat) : List Str := (if (shapeF o.Shape a.Shape b.Shape).2 then [] else [shapeS]) ++ clashL o.Tags a.Tags b.Tags (allKeys o a b)
def joinOf (o a b : Feat) : Feat × List Str := if featOk (joinF o a b) then (joinF o a b, joinW o a b) else (a, [[109, 117, 99, 104]])
def featJoin (o a b : Feat) : Feat × List Str := if featOk o && featOk a && featOk b && decide (o.Id = a.Id) && decide (o.Id = b.Id) then joinOf o a b else (zeroF, [])
theorem feat_facts {f : Feat} (h : featOk f = true) : f.Tags.length ≤ 4 ∧ shapeOk f.Shape = true ∧ f.Shape.Pts.length ≤ 6 ∧ f.Id.length ≤ 6 ∧ ∀ t ∈ f.Tags, t.Key.length ≤ 6 ∧ t.Val.length ≤ 6 := by
 have hb := (feat_small h).2
 unfold featOk at h
 simp only [Bool.and_eq_true, decide_eq_true_eq] at h
 obtain ⟨⟨⟨h1, h2⟩, h3⟩, h4⟩ := h
 refine ⟨h2, h4, ?_, hb, fun t hm => ?_⟩
 ·unfold shapeOk kindOk at h4
  simp only [Bool.and_eq_true] at h4
  have := h4.2
  split at this
  ·simp only [decide_eq_true_eq] at this; omega
  ·split at this
   ·simp only [Bool.and_eq_true, decide_eq_true_eq] at this; omega
   ·split at this
    ·simp only [Bool.and_eq_true, decide_eq_true_eq] at this; omega
    ·cases this
 ·unfold tagsOk at h1
  obtain ⟨k, hk, rfl⟩ := List.getElem_of_mem hm
  have := allN_iff.1 h1 k hk
  rw [nth_nat _ hk] at this
  simp only [Bool.and_eq_true] at this
  exact ⟨word_len this.1.1, word_len this.1.2⟩
theorem shape_pts {s : Shape} (h : shapeOk s = true) : s.Pts.length ≤ 6 := by
 unfold shapeOk kindOk at h
 simp only [Bool.and_eq_true] at h
 have := h.2
 split at this
 ·simp only [decide_eq_true_eq] at this; omega
 ·split at this
  ·simp only [Bool.and_eq_true, decide_eq_true_eq] at this; omega
  ·split at this
   ·simp only [Bool.and_eq_true, decide_eq_true_eq] at this; omega
   ·cases this
theorem three_in {α : Type} [DecidableEq α] (o a b : α) : (three o a b).1 = a ∨ (three o a b).1 = b := by
 unfold three
 split
 ·exact .inr rfl
 ·split
  ·exact .inl rfl
  ·split <;> exact .inl rfl
theorem shapeF_pts {o a b : Shape} (ha : a.Pts.length ≤ 6) (hb : b.Pts.length ≤ 6) : (shapeF o a b).1.Pts.length ≤ 6 := by
 unfold shapeF
 split
 ·rcases three_in o a b with h | h <;> rw [h] <;> assumption
 ·split
  ·split
   ·split
    ·rename_i h; exact shape_pts h
    ·exact ha
   ·exact ha
  ·exact ha
theorem valT_len {t : List Tag} (h : ∀ x ∈ t, x.Val.length ≤ 6) (k : Str) : (valT t k).val.length ≤ 6 := by
 unfold valT
 split
 ·exact Nat.zero_le _
 ·have h1 := findN_le t.length fun j => (nth t (j : Int)).Key == k
  exact h _ (nth_memi t (by omega) h1.2)
theorem tagF_in (o a b : value) : (tagF o a b).1 = a ∨ (tagF o a b).1 = b := by
 unfold tagF
 split
 ·exact three_in o a b
 ·split
  ·exact .inl rfl
  ·exact .inr rfl
theorem allKeys_len (o a b : Feat) : (allKeys o a b).length ≤ o.Tags.length + a.Tags.length + b.Tags.length := by
 have h := uniq_len (keysT (o.Tags ++ a.Tags ++ b.Tags))
 have e : (keysT (o.Tags ++ a.Tags ++ b.Tags)).length = o.Tags.length + a.Tags.length + b.Tags.length := by unfold keysT; simp; omega
 unfold allKeys; omega
theorem allKeys_small {o a b : Feat} (ho : featOk o = true) (ha : featOk a = true) (hb : featOk b = true) : (allKeys o a b).length ≤ 12 ∧ ∀ k ∈ allKeys o a b, k.length ≤ 6 := by
 have h1 := feat_facts ho; have h2 := feat_facts ha; have h3 := feat_facts hb
 refine ⟨by have := allKeys_len o a b; omega, fun k hk => ?_⟩
 unfold allKeys at hk
 rw [uniq_mem] at hk
 obtain ⟨t, ht, rfl⟩ := List.mem_map.1 hk
 rcases List.mem_append.1 ht with ht | ht
 ·rcases List.mem_append.1 ht with ht | ht
  ·exact (h1.2.2.2.2 t ht).1
  ·exact (h2.2.2.2.2 t ht).1
 ·exact (h3.2.2.2.2 t ht).1
theorem tagsL_small {o a b : Feat} (ho : featOk o = true) (ha : featOk a = true) (hb : featOk b = true) : bulk (tagsL o.Tags a.Tags b.Tags (allKeys o a b)) ≤ 200 := by
 obtain ⟨k1, k2⟩ := allKeys_small ho ha hb
 have hl := tagsL_len o.Tags a.Tags b.Tags (allKeys o a b)
 have hs := bulk_small (tagsL o.Tags a.Tags b.Tags (allKeys o a b)) 12 fun t ht => by
  unfold tagsL at ht
  obtain ⟨k, hk, rfl⟩ := List.mem_map.1 ht
  have hk := k2 k (List.mem_filter.1 hk).1
  have hv : (tagK o.Tags a.Tags b.Tags k).1.val.length ≤ 6 := by
   rcases tagF_in (valT o.Tags k) (valT a.Tags k) (valT b.Tags k) with h | h
   ·unfold tagK; rw [h]; exact valT_len (fun x hx => ((feat_facts ha).2.2.2.2 x hx).2) k
   ·unfold tagK; rw [h]; exact valT_len (fun x hx => ((feat_facts hb).2.2.2.2 x hx).2) k
  have e : bulk (⟨k, (tagK o.Tags a.Tags b.Tags k).1.val⟩ : Tag) = bulk k + bulk (tagK o.Tags a.Tags b.Tags k).1.val := rfl
  rw [e, bulk_str, bulk_str]; omega
 have : (tagsL o.Tags a.Tags b.Tags (allKeys o a b)).length * (12 + 1) ≤ 12 * 13 := Nat.mul_le_mul (by omega) (Nat.le_refl _)
 omega
theorem joinF_small {o a b : Feat} (ho : featOk o = true) (ha : featOk a = true) (hb : featOk b = true) : bulk (joinF o a b) ≤ 300 := by
 have h2 := feat_facts ha; have h3 := feat_facts hb
 have ht := tagsL_small ho ha hb
 have hp := shapeF_pts (o := o.Shape) h2.2.2.1 h3.2.2.1
 have e : bulk (joinF o a b) = bulk a.Id + (0 + bulk (shapeF o.Shape a.Shape b.Shape).1.Pts) + bulk (tagsL o.Tags a.Tags b.Tags (allKeys o a b)) := rfl
 have e2 : bulk a.Id = a.Id.length := bulk_str _
 have e3 : bulk (shapeF o.Shape a.Shape b.Shape).1.Pts = (shapeF o.Shape a.Shape b.Shape).1.Pts.length := bulk_flat (fun _ => rfl) _
 omega
section
def mkL {α : Type} (g : α → Int → α × Int) : List α → Int → List α × Int
 | [], k => ([], k)
 | x :: l, k => ((g x k).1 :: (mkL g l (g x k).2).1, (mkL g l (g x k).2).2)
section
variable {α : Type} {g : α → Int → α × Int}
theorem mkL_snoc (x : α) : ∀ (l : List α) (k : Int), mkL g (l ++ [x]) k = ((mkL g l k).1 ++ [(g x (mkL g l k).2).1], (g x (mkL g l k).2).2)
 | [], k => rfl
 | y :: l, k => by
  rw [List.cons_append, mkL, mkL_snoc x l]; rfl
theorem mkL_len : ∀ (l : List α) (k : Int), (mkL g l k).1.length = l.length
 | [], k => rfl
 | y :: l, k => by rw [mkL, List.length_cons, List.length_cons, mkL_len l]
theorem mkL_app : ∀ (l m : List α) (k : Int), mkL g (l ++ m) k = ((mkL g l k).1 ++ (mkL g m (mkL g l k).2).1, (mkL g m (mkL g l k).2).2)
 | [], m, k => rfl
 | y :: l, m, k => by rw [List.cons_append, mkL, mkL_app l]; rfl
variable [Inhabited α]
def Mk (g : α → Int → α × Int) (a : List α) (k : Int) (u : Nat) (xs : List α) (k' : Int) : Prop := u ≤ a.length ∧ xs = (mkL g (a.take u) k).1 ++ a.drop u ∧ k' = (mkL g (a.take u) k).2
variable {a xs : List α} {k k' : Int} {u : Nat}
theorem Mk.zero (a : List α) (k : Int) : Mk g a k 0 a k := ⟨Nat.zero_le _, by simp [mkL], by simp [mkL]⟩
theorem Mk.len (h : Mk g a k u xs k') : xs.length = a.length := by
 rw [h.2.1, List.length_append, mkL_len, List.length_take, List.length_drop]; have := h.1; omega
theorem Mk.nth (h : Mk g a k u xs k') (hu : u < a.length) : nth xs (u : Int) = Go.Proofs.YtpdmnmpcjljeaaaGreat.nth a (u : Int) := by
 rw [nth_nat xs (by rw [h.len]; exact hu), nth_nat a hu]
 have hl : (mkL g (a.take u) k).1.length = u := by rw [mkL_len, List.length_take]; omega
 have := h.2.1
 subst this
 rw [List.getElem_append_right (by omega)]
 simp [hl]
def Hd (g : α → Int → α × Int) (a : List α) (k : Int) (u : Nat) (k' : Int) : Prop := u ≤ a.length ∧ k' = (mkL g (a.take u) k).2
theorem Hd.zero (a : List α) (k : Int) : Hd g a k 0 k := ⟨Nat.zero_le _, by simp [mkL]⟩
theorem Hd.nth (h : Hd g a k u k') (hu : u < a.length) : nth (mkL g a k).1 (u : Int) = (g (Go.Proofs.YtpdmnmpcjljeaaaGreat.nth a (u : Int)) k').1 := by
 have e : a = (a.take u ++ [Go.Proofs.YtpdmnmpcjljeaaaGreat.nth a (u : Int)]) ++ a.drop (u + 1) := by rw [← take_nth a hu, List.take_append_drop]
 have hl : (mkL g (a.take u) k).1.length = u := by rw [mkL_len, List.length_take]; omega
 rw [nth_nat _ (by rw [mkL_len]; exact hu)]
 have h1 : (mkL g a k).1[u]? = some (g (Go.Proofs.YtpdmnmpcjljeaaaGreat.nth a (u : Int)) k').1 := by
  conv => lhs; rw [e]
  rw [mkL_app, mkL_snoc]
  dsimp only
  rw [List.append_assoc, List.getElem?_append_right (by omega), hl, Nat.sub_self, h.2]; rfl
 rw [List.getElem?_eq_getElem (by rw [mkL_len]; exact hu)] at h1
 exact Option.some.inj h1
end
theorem bulk_feat (x : Feat) : bulk x = bulk x.Id + (bulk x.Shape.Kind + bulk x.Shape.Pts) + bulk x.Tags := rfl
end
theorem pw_ext {α : Type} {R : α → α → Prop} (irr : ∀ x, ¬ R x x) (tr : ∀ x y z, R x y → R y z → R x z) : ∀ {l m : List α}, l.Pairwise R → m.Pairwise R → (∀ x, x ∈ l ↔ x ∈ m) → l = m
 | [], [], _, _, _ => rfl
 | [], y :: m, _, _, h => by have := (h y).2 List.mem_cons_self; cases this
 | x :: l, [], _, _, h => by have := (h x).1 List.mem_cons_self; cases this
 | x :: l, y :: m, hl, hm, h => by
  obtain ⟨l1, l2⟩ := List.pairwise_cons.1 hl
  obtain ⟨m1, m2⟩ := List.pairwise_cons.1 hm
  have e : x = y := by
   rcases List.mem_cons.1 ((h x).1 List.mem_cons_self) with e | e
   ·exact e
   ·rcases List.mem_cons.1 ((h y).2 List.mem_cons_self) with e' | e'
    ·exact e'.symm
    ·exact absurd (tr _ _ _ (m1 x e) (l1 y e')) (irr _)
  subst e
  rw [pw_ext irr tr l2 m2 fun z => ⟨fun hz => ?_, fun hz => ?_⟩]
  ·rcases List.mem_cons.1 ((h z).1 (List.mem_cons_of_mem _ hz)) with e | e
   ·subst e; exact absurd (l1 z hz) (irr _)
   ·exact e
  ·rcases List.mem_cons.1 ((h z).2 (List.mem_cons_of_mem _ hz)) with e | e
   ·subst e; exact absurd (m1 z hz) (irr _)
   ·exact e
def idsC (d : List Change) : List Str := d.map (·.Id)
theorem idsC_app (s t : List Change) : idsC (s ++ t) = idsC s ++ idsC t := List.map_append
def CS (d : List Change) : Prop := d.Pairwise fun x y => Op.bytesLess x.Id y.Id = true
theorem CS.ext {l m : List Change} (hl : CS l) (hm : CS m) (h : ∀ x, x ∈ l ↔ x ∈ m) : l = m :=
 pw_ext (R := fun x y : Change => Op.bytesLess x.Id y.Id = true) (fun x e => by rw [less_irr] at e; cases e) (fun x y z h1 h2 => less_trans h1 h2) hl hm h
theorem CS.ids {d : List Change} (h : CS d) : SS (idsC d) := List.pairwise_map.2 h
theorem findN_true {n : Nat} {c : Nat → Bool} {k : Nat} (h : findN n c = (k : Int)) : k < n ∧ c k = true := by
 unfold findN at h
 cases e : (List.range n).find? c with
 | none => rw [e] at h; dsimp only at h; omega
 | some j =>
  rw [e] at h; dsimp only at h
  have : j = k := by omega
  subst this
  exact ⟨List.mem_range.1 (List.mem_of_find?_eq_some e), List.find?_some e⟩
theorem findN_neg {n : Nat} {c : Nat → Bool} (h : findN n c < 0) : ∀ j, j < n → c j = false := fun j hj => by
 unfold findN at h
 cases e : (List.range n).find? c with
 | some k => rw [e] at h; dsimp only at h; omega
 | none =>
  have := List.find?_eq_none.1 e j (List.mem_range.2 hj)
  simpa using this
theorem CS.inj {d : List Change} (h : CS d) {x y : Change} (hx : x ∈ d) (hy : y ∈ d) (e : x.Id = y.Id) : x = y := by
 obtain ⟨i, hi, rfl⟩ := List.getElem_of_mem hx
 obtain ⟨j, hj, rfl⟩ := List.getElem_of_mem hy
 rcases Nat.lt_trichotomy i j with g | g | g
 ·have := List.pairwise_iff_getElem.1 h i j hi hj g
  rw [e, less_irr] at this; cases this
 ·subst g; rfl
 ·have := List.pairwise_iff_getElem.1 h j i hj hi g
  rw [e, less_irr] at this; cases this
theorem thing.ext_iff' (a b : thing) : a = b ↔ a.has = b.has ∧ a.f = b.f := by cases a; cases b; simp
def ThOk (i : Str) (t : thing) : Prop := t = ⟨false, zeroF⟩ ∨ (t.has = true ∧ featOk t.f = true ∧ t.f.Id = i)
theorem ThOk.small {i : Str} {t : thing} (h : ThOk i t) : bulk t.f ≤ 100 ∧ (t.f.Shape.Pts.length ≤ 1048576 ∧ t.f.Tags.length ≤ 1048576) := by
 have key : bulk t.f ≤ 100 := by
  rcases h with rfl | h
  ·exact (by decide : bulk zeroF ≤ 100)
  ·exact (feat_small h.2.1).1
 have h1 := bulk_feat t.f
 have h2 := bulk_len t.f.Tags
 have h3 := bulk_len t.f.Shape.Pts
 exact ⟨key, by omega, by omega⟩
theorem ThOk.has {i : Str} {t : thing} (h : ThOk i t) (g : t.has = true) : featOk t.f = true ∧ t.f.Id = i := by
 rcases h with rfl | h
 ·cases g
 ·exact h.2
def FS (l : List Feat) : Prop := l.Pairwise fun x y => Op.bytesLess x.Id y.Id = true
theorem FS.ext {l m : List Feat} (hl : FS l) (hm : FS m) (h : ∀ x, x ∈ l ↔ x ∈ m) : l = m :=
 pw_ext (R := fun x y : Feat => Op.bytesLess x.Id y.Id = true) (fun x e => by rw [less_irr] at e; cases e) (fun x y z h1 h2 => less_trans h1 h2) hl hm h
theorem FS.inj {d : List Feat} (h : FS d) {x y : Feat} (hx : x ∈ d) (hy : y ∈ d) (e : x.Id = y.Id) : x = y := by
 obtain ⟨i, hi, rfl⟩ := List.getElem_of_mem hx
 obtain ⟨j, hj, rfl⟩ := List.getElem_of_mem hy
 rcases Nat.lt_trichotomy i j with g | g | g
 ·have := List.pairwise_iff_getElem.1 h i j hi hj g
  rw [e, less_irr] at this; cases this
 ·subst g; rfl
 ·have := List.pairwise_iff_getElem.1 h j i hj hi g
  rw [e, less_irr] at this; cases this
theorem now_id {d : List Change} (hd : ∀ c ∈ d, changeOk c = true) {c : Change} (hc : c ∈ d) (h : c.Has = true) : c.Now.Id = c.Id ∧ featOk c.Now = true := by
 have := hd c hc
 unfold changeOk at this
 simp only [Bool.and_eq_true] at this
 have h3 := this.1.2
 unfold sideOk at h3
 rw [h, if_pos rfl] at h3
 simp only [Bool.and_eq_true, decide_eq_true_eq] at h3
 exact ⟨h3.2, h3.1⟩
def Mem (s : List Feat) (d : List Change) (f : Feat) : Prop := (f ∈ s ∧ f.Id ∉ idsC d) ∨ ∃ c ∈ d, c.Has = true ∧ c.Now = f
theorem Mem.step {s : List Feat} {d : List Change} {u : Nat} (hu : u < d.length) (hc : CS d) (hd : ∀ c ∈ d, changeOk c = true) (f : Feat) :
  Mem s (d.take (u + 1)) f ↔ (Mem s (d.take u) f ∧ f.Id ≠ (nth d (u : Int)).Id) ∨ ((nth d (u : Int)).Has = true ∧ f = (nth d (u : Int)).Now) := by
 have e : idsC (d.take (u + 1)) = idsC (d.take u) ++ [(nth d (u : Int)).Id] := by rw [take_nth d hu, idsC_app]; rfl
 have hm : nth d (u : Int) ∈ d := nth_mem d hu
 have hlt : ∀ c ∈ d.take u, Op.bytesLess c.Id (nth d (u : Int)).Id = true := fun c hc' => by
  have h := hc
  rw [← List.take_append_drop u d] at h
  refine (List.pairwise_append.1 h).2.2 c hc' _ ?_
  rw [nth_nat d hu, List.drop_eq_getElem_cons hu]; exact List.mem_cons_self
 unfold Mem
 rw [e, take_nth d hu]
 constructor
 ·rintro (⟨h1, h2⟩ | ⟨c, h1, h2, rfl⟩)
  ·rw [List.mem_append, List.mem_singleton] at h2
   exact .inl ⟨.inl ⟨h1, fun h => h2 (.inl h)⟩, fun h => h2 (.inr h)⟩
  ·rcases List.mem_append.1 h1 with h1 | h1
   ·refine .inl ⟨.inr ⟨c, h1, h2, rfl⟩, fun h => ?_⟩
    rw [(now_id hd (List.mem_of_mem_take h1) h2).1] at h
    have := hlt c h1
    rw [h, less_irr] at this; cases this
   ·rw [List.mem_singleton] at h1
    subst h1
    exact .inr ⟨h2, rfl⟩
 ·rintro (⟨h1 | ⟨c, h1, h2, rfl⟩, h3⟩ | ⟨h1, rfl⟩)
  ·refine .inl ⟨h1.1, fun h => ?_⟩
   rcases List.mem_append.1 h with h | h
   ·exact h1.2 h
   ·exact h3 (List.mem_singleton.1 h)
  ·exact .inr ⟨c, List.mem_append_left _ h1, h2, rfl⟩
  ·exact .inr ⟨_, List.mem_append_right _ (List.mem_singleton.2 rfl), h1, rfl⟩
theorem Mem.zero (s : List Feat) (d : List Change) (f : Feat) : Mem s (d.take 0) f ↔ f ∈ s := by
 unfold Mem
 simp [idsC]
theorem three_r {α : Type} [DecidableEq α] (o a : α) : three o a o = (a, true) := by
 unfold three
 by_cases h : a = o
 ·rw [if_pos h, h]
 ·rw [if_neg h, if_pos rfl]
theorem three_l {α : Type} [DecidableEq α] (o b : α) : three o o b = (b, true) := by unfold three; rw [if_pos rfl]
theorem three_s {α : Type} [DecidableEq α] (o a : α) : three o a a = (a, true) := by
 unfold three
 by_cases h : a = o
 ·rw [if_pos h]
 ·rw [if_neg h, if_neg h, if_pos rfl]
theorem tagF_r (o a : value) : tagF o a o = (a, true) := by unfold tagF; rw [three_r, if_pos rfl]
theorem tagF_l (o b : value) : tagF o o b = (b, true) := by unfold tagF; rw [three_l, if_pos rfl]
theorem tagF_s (o a : value) : tagF o a a = (a, true) := by unfold tagF; rw [three_s, if_pos rfl]
theorem shapeF_s (o a : Shape) : shapeF o a a = (a, true) := by unfold shapeF; rw [three_s, if_pos rfl]
def tagsOf (t : List Tag) (ks : List Str) : List Tag := (ks.filter fun k => (valT t k).has).map fun k => ⟨k, (valT t k).val⟩
theorem tagsL_s (o a : List Tag) (ks : List Str) : tagsL o a a ks = tagsOf a ks := by unfold tagsL tagsOf tagK; simp only [tagF_s]
theorem clashL_s (o a : List Tag) (ks : List Str) : clashL o a a ks = [] := by unfold clashL tagK; simp only [tagF_s]; simp
theorem joinW_s (o a : Feat) : joinW o a a = [] := by unfold joinW; rw [shapeF_s, clashL_s]; rfl
theorem valT_hit {t : List Tag} {k : Str} (h : (valT t k).has = true) : ∃ x ∈ t, x.Key = k ∧ valT t k = ⟨true, x.Val⟩ := by
 unfold valT at h ⊢
 split at h
 ·cases h
 ·rename_i g
  rw [if_neg g]
  have h1 := findN_le t.length fun j => (nth t (j : Int)).Key == k
  obtain ⟨i, hi⟩ : ∃ i : Nat, findN t.length (fun j => (nth t (j : Int)).Key == k) = (i : Int) := ⟨_, (Int.toNat_of_nonneg (by omega)).symm⟩
  obtain ⟨h2, h3⟩ := findN_true hi
  rw [hi]
  exact ⟨_, nth_mem t h2, by simpa using h3, rfl⟩
theorem valT_iff {t : List Tag} {k : Str} : (valT t k).has = true ↔ k ∈ keysT t := by
 constructor
 ·intro h
  obtain ⟨x, hx, e, _⟩ := valT_hit h
  exact List.mem_map.2 ⟨x, hx, e⟩
 ·intro h
  unfold valT
  split
  ·rename_i g
   obtain ⟨f, hf, rfl⟩ := List.mem_map.1 h
   obtain ⟨j, hj, rfl⟩ := List.getElem_of_mem hf
   have := findN_neg g j hj
   rw [nth_nat t hj] at this
   simp at this
  ·rfl
theorem keys_inj : ∀ {t : List Tag}, SS (keysT t) → ∀ {x y : Tag}, x ∈ t → y ∈ t → x.Key = y.Key → x = y
 | [], _, _, _, h, _, _ => by cases h
 | a :: t, hs, x, y, hx, hy, e => by
  have h1 := List.pairwise_cons.1 hs
  rcases List.mem_cons.1 hx with rfl | hx' <;> rcases List.mem_cons.1 hy with rfl | hy'
  ·rfl
  ·have : Op.bytesLess x.Key y.Key = true := h1.1 y.Key (List.mem_map.2 ⟨y, hy', rfl⟩); rw [e, less_irr] at this; cases this
  ·have : Op.bytesLess y.Key x.Key = true := h1.1 x.Key (List.mem_map.2 ⟨x, hx', rfl⟩); rw [e, less_irr] at this; cases this
  ·exact keys_inj h1.2 hx' hy' e
theorem tagsOf_all {t : List Tag} {ks : List Str} (ht : SS (keysT t)) (hk : SS ks) (h : ∀ k ∈ keysT t, k ∈ ks) : tagsOf t ks = t := by
 unfold tagsOf
 have e : (ks.filter fun k => (valT t k).has) = keysT t := SS.ext (List.Pairwise.filter _ hk) ht fun k => by
  rw [List.mem_filter, valT_iff]
  exact ⟨fun g => g.2, fun g => ⟨h k g, g⟩⟩
 rw [e]
 unfold keysT
 rw [List.map_map]
 conv => rhs; rw [← List.map_id t]
 refine List.map_congr_left fun x hx => ?_
 obtain ⟨y, hy, e1, e2⟩ := valT_hit (valT_iff.2 (List.mem_map.2 ⟨x, hx, rfl⟩ : x.Key ∈ keysT t))
 have := keys_inj ht hy hx e1
 subst this
 simp only [Function.comp, e2, id]
theorem tags_ss {t : List Tag} (h : tagsOk t = true) : SS (keysT t) := by
 have h1 := allN_iff.1 h
 have hadj : ∀ k, 0 < k → k < t.length → Op.bytesLess (nth t ((k : Int) - 1)).Key (nth t (k : Int)).Key = true := fun k h0 hk => by
  have := h1 k hk
  simp only [Bool.and_eq_true, Bool.or_eq_true, decide_eq_true_eq] at this
  rcases this.2 with h | h
  ·omega
  ·exact h
 unfold SS keysT
 rw [List.pairwise_map]
 refine List.pairwise_iff_getElem.2 fun i j hi hj hij => ?_
 have key : ∀ d, i + d + 1 < t.length → Op.bytesLess t[i].Key (nth t ((i + d + 1 : Nat) : Int)).Key = true := by
  intro d
  induction d with
  | zero =>
   intro hd
   have := hadj (i + 0 + 1) (by omega) hd
   rw [show (((i + 0 + 1 : Nat) : Int) - 1) = (i : Int) by omega, nth_nat t hi] at this
   exact this
  | succ d ih =>
   intro hd
   have := hadj (i + (d + 1) + 1) (by omega) hd
   rw [show (((i + (d + 1) + 1 : Nat) : Int) - 1) = ((i + d + 1 : Nat) : Int) by omega] at this
   exact less_trans (ih (by omega)) this
 have := key (j - i - 1) (by omega)
 rw [show i + (j - i - 1) + 1 = j by omega, nth_nat t hj] at this
 exact this
theorem featOk_tags {f : Feat} (h : featOk f = true) : SS (keysT f.Tags) := by
 unfold featOk at h
 simp only [Bool.and_eq_true] at h
 exact tags_ss h.1.1.1
theorem joinF_s {o a : Feat} (ha : featOk a = true) : joinF o a a = a := by
 unfold joinF allKeys
 rw [shapeF_s, tagsL_s, tagsOf_all (featOk_tags ha) (uniq_ss _) (fun k hk => uniq_mem.2 (by rw [keys_app, keys_app]; exact List.mem_append_right _ hk))]
theorem featJoin_s {o a : Feat} (ho : featOk o = true) (ha : featOk a = true) (e : o.Id = a.Id) : featJoin o a a = (a, []) := by
 unfold featJoin joinOf
 rw [joinF_s ha, joinW_s, ho, ha, e]; simp
theorem tagsOk_of {t : List Tag} (hs : SS (keysT t)) (hw : ∀ x ∈ t, wordOk x.Key = true ∧ wordOk x.Val = true) : tagsOk t = true := by
 unfold tagsOk
 refine allN_true fun k hk => ?_
 obtain ⟨h1, h2⟩ := hw _ (nth_mem t hk)
 rw [h1, h2, Bool.true_and, Bool.true_and, Bool.or_eq_true, decide_eq_true_eq]
 rcases Nat.eq_zero_or_pos k with h0 | h0
 ·exact .inl h0
 refine .inr ?_
 unfold SS keysT at hs
 have := List.pairwise_iff_getElem.1 (List.pairwise_map.1 hs) (k - 1) k (by omega) hk (by omega)
 rw [show ((k : Int) - 1) = ((k - 1 : Nat) : Int) by omega, nth_nat t hk, nth_nat t (by omega)]
 exact this
theorem feat_words {f : Feat} (h : featOk f = true) : wordOk f.Id = true ∧ ∀ x ∈ f.Tags, wordOk x.Key = true ∧ wordOk x.Val = true := by
 unfold featOk at h
 simp only [Bool.and_eq_true] at h
 refine ⟨h.1.2, fun x hx => ?_⟩
 have ht := h.1.1.1
 unfold tagsOk at ht
 obtain ⟨k, hk, rfl⟩ := List.getElem_of_mem hx
 have := allN_iff.1 ht k hk
 rw [nth_nat _ hk] at this
 simp only [Bool.and_eq_true] at this
 exact this.1
theorem shapeF_ok {o a b : Shape} (ha : shapeOk a = true) (hb : shapeOk b = true) : shapeOk (shapeF o a b).1 = true := by
 unfold shapeF
 split
 ·rcases three_in o a b with h | h <;> rw [h] <;> assumption
 ·split
  ·split
   ·split
    ·rename_i h; exact h
    ·exact ha
   ·exact ha
  ·exact ha
theorem tagsL_keys (o a b : List Tag) (ks : List Str) : keysT (tagsL o a b ks) = ks.filter fun k => (tagK o a b k).1.has := by
 unfold keysT tagsL
 rw [List.map_map]
 exact (List.map_congr_left fun k _ => rfl).trans (List.map_id _)
theorem joinF_ok {o a b : Feat} (ho : featOk o = true) (ha : featOk a = true) (hb : featOk b = true) :
  featOk (joinF o a b) = decide ((tagsL o.Tags a.Tags b.Tags (allKeys o a b)).length ≤ 4) := by
 have ht : tagsOk (tagsL o.Tags a.Tags b.Tags (allKeys o a b)) = true := by
  refine tagsOk_of ?_ fun x hx => ?_
  ·rw [tagsL_keys]; exact List.Pairwise.filter _ (uniq_ss _)
  ·unfold tagsL at hx
   obtain ⟨k, hk, rfl⟩ := List.mem_map.1 hx
   obtain ⟨hk, hh⟩ := List.mem_filter.1 hk
   constructor
   ·unfold allKeys at hk
    rw [uniq_mem] at hk
    obtain ⟨t, ht, rfl⟩ := List.mem_map.1 hk
    rcases List.mem_append.1 ht with ht | ht
    ·rcases List.mem_append.1 ht with ht | ht
     ·exact ((feat_words ho).2 t ht).1
     ·exact ((feat_words ha).2 t ht).1
    ·exact ((feat_words hb).2 t ht).1
   ·dsimp only
    unfold tagK at hh ⊢
    rcases tagF_in (valT o.Tags k) (valT a.Tags k) (valT b.Tags k) with h | h <;> rw [h] at hh ⊢
    ·obtain ⟨y, hy, _, e⟩ := valT_hit hh
     rw [e]; exact ((feat_words ha).2 y hy).2
    ·obtain ⟨y, hy, _, e⟩ := valT_hit hh
     rw [e]; exact ((feat_words hb).2 y hy).2
 have hs := shapeF_ok (o := o.Shape) (feat_facts ha).2.1 (feat_facts hb).2.1
 unfold featOk
 have e : joinF o a b = ⟨a.Id, (shapeF o.Shape a.Shape b.Shape).1, tagsL o.Tags a.Tags b.Tags (allKeys o a b)⟩ := rfl
 rw [e]
 dsimp only
 rw [ht, hs, (feat_words ha).1, Bool.true_and, Bool.and_true, Bool.and_true]
theorem tagF_else {o a b : value} (h : (three o a b).2 = false) : tagF o a b = (if a.has then a else b, false) := by unfold tagF; rw [if_neg (by rw [h]; decide)]
theorem shape_pos {s : Shape} (h : shapeOk s = true) : 1 ≤ s.Pts.length := by
 unfold shapeOk kindOk at h
 simp only [Bool.and_eq_true] at h
 have := h.2
 split at this
 ·simp only [decide_eq_true_eq] at this; omega
 ·split at this
  ·simp only [Bool.and_eq_true, decide_eq_true_eq] at this; omega
  ·split at this
   ·simp only [Bool.and_eq_true, decide_eq_true_eq] at this; omega
   ·cases this
theorem dot_ok {x y : Int} (h1 : 0 ≤ x) (h2 : x ≤ 5) (h3 : 0 ≤ y) (h4 : y ≤ 5) : shapeOk ⟨1, [⟨x, y⟩]⟩ = true := by
 have e : ptOk (⟨x, y⟩ : Pt) = true := by
  unfold ptOk inR
  simp only [Bool.and_eq_true, decide_eq_true_eq]; omega
 unfold shapeOk ptsOk kindOk
 rw [Bool.and_eq_true]
 refine ⟨allN_true fun k hk => ?_, by rw [if_pos rfl]; rfl⟩
 have hk : k < 1 := hk
 obtain rfl : k = 0 := by omega
 rw [Bool.and_eq_true]
 exact ⟨e, rfl⟩
def NX (q : Pt) : Prop := q.X ≠ 71 ∧ q.X ≠ 72
theorem NX.of {x y : Int} (h : x ≤ 3) : NX ⟨x, y⟩ := ⟨by dsimp only; omega, by dsimp only; omega⟩
def keyL : List Str := [[110, 97, 109, 101], [107, 105, 110, 100], [117, 115, 101], [116, 111, 110, 101]]
def valL : List Str := [[97], [98], [111, 97, 107], [97, 115, 104], [114, 111, 97, 100]]
def idL : List Str := [[97], [98], [99], [100], [101]]
def DT (x : Tag) : Prop := x.Key ∈ keyL ∧ x.Val ∈ valL
theorem keyL_ok : ∀ k ∈ keyL, wordOk k = true := by decide
theorem valL_ok : ∀ k ∈ valL, wordOk k = true := by decide
theorem idL_ok : ∀ k ∈ idL, wordOk k = true := by decide
def plainK (k : Str) : Prop := k ≠ [97, 97, 97] ∧ k ≠ [122, 122, 122]
theorem keyL_plain : ∀ k ∈ keyL, plainK k := by
 intro k hk
 simp only [keyL, List.mem_cons, List.not_mem_nil, or_false] at hk
 unfold plainK
 rcases hk with rfl | rfl | rfl | rfl <;> decide
theorem feat_of {id : Str} {s : Shape} {t : List Tag} (h1 : wordOk id = true) (h2 : shapeOk s = true) (h3 : SS (keysT t)) (h4 : t.length ≤ 4) (h5 : ∀ x ∈ t, wordOk x.Key = true ∧ wordOk x.Val = true) : featOk ⟨id, s, t⟩ = true := by
 unfold featOk
 dsimp only
 rw [tagsOk_of h3 h5, h1, h2, decide_eq_true h4]; rfl
structure FB (n : Nat) (f : Feat) : Prop where
 id : f.Id.length ≤ 7
 pts : f.Shape.Pts.length ≤ 7
 len : f.Tags.length ≤ n
 wd : ∀ x ∈ f.Tags, x.Key.length ≤ 6 ∧ x.Val.length ≤ 6
theorem FB.small {n : Nat} {f : Feat} (h : FB n f) : bulk f ≤ 14 + 13 * n := by
 have e : bulk f = bulk f.Id + (0 + bulk f.Shape.Pts) + bulk f.Tags := rfl
 have e2 : bulk f.Id = f.Id.length := bulk_str _
 have e3 : bulk f.Shape.Pts = f.Shape.Pts.length := bulk_flat (fun _ => rfl) _
 have hs := bulk_small f.Tags 12 fun t ht => by
  have := h.wd t ht
  have e : bulk t = bulk t.Key + bulk t.Val := rfl
  rw [e, bulk_str, bulk_str]; omega
 have : f.Tags.length * (12 + 1) ≤ n * 13 := Nat.mul_le_mul h.len (Nat.le_refl _)
 have := h.id; have := h.pts
 omega
theorem FB.of {f : Feat} (h : featOk f = true) : FB 4 f := by
 have := feat_facts h
 exact ⟨by omega, by omega, this.1, this.2.2.2.2⟩
theorem FB.mono {n m : Nat} {f : Feat} (h : FB n f) (hm : n ≤ m) : FB m f := ⟨h.id, h.pts, Nat.le_trans h.len hm, h.wd⟩
theorem FB.lens {n : Nat} {f : Feat} (h : FB n f) (hn : n ≤ 1000) : f.Shape.Pts.length ≤ 1048576 ∧ f.Tags.length ≤ 1048576 := ⟨Nat.le_trans h.pts (by decide), Nat.le_trans h.len (by omega)⟩
theorem DT.len {x : Tag} (h : DT x) : x.Key.length ≤ 6 ∧ x.Val.length ≤ 6 := ⟨word_len (keyL_ok _ h.1), word_len (valL_ok _ h.2)⟩
theorem DT.ok {x : Tag} (h : DT x) : wordOk x.Key = true ∧ wordOk x.Val = true := ⟨keyL_ok _ h.1, valL_ok _ h.2⟩
structure MB (n m : Nat) (s : List Feat) : Prop where
 len : s.length ≤ n
 fb : ∀ f ∈ s, FB m f
theorem MB.small {n m : Nat} {s : List Feat} (h : MB n m s) : bulk s ≤ n * (15 + 13 * m) := by
 have hs := bulk_small s (14 + 13 * m) fun f hf => (h.fb f hf).small
 have : s.length * (14 + 13 * m + 1) ≤ n * (15 + 13 * m) := Nat.mul_le_mul h.len (by omega)
 omega
theorem MB.of {s : List Feat} (h : sheetOk s = true) : MB 8 4 s := ⟨(sheet_ss h).2.1, fun f hf => FB.of ((sheet_ss h).2.2 f hf)⟩
theorem MB.mono {n n' m m' : Nat} {s : List Feat} (h : MB n m s) (h1 : n ≤ n') (h2 : m ≤ m') : MB n' m' s := ⟨Nat.le_trans h.len h1, fun f hf => (h.fb f hf).mono h2⟩
def zzI : Str := [122, 122]
theorem idL_nz : ∀ k ∈ idL, k ≠ zzI := by
 intro k hk
 simp only [idL, List.mem_cons, List.not_mem_nil, or_false] at hk
 rcases hk with rfl | rfl | rfl | rfl | rfl <;> decide
structure MD (s : List Feat) : Prop where
 mb : MB 14 4 s
 nz : ∀ f ∈ s, f.Id ≠ zzI
theorem MD.small {s : List Feat} (h : MD s) : bulk s ≤ 1048576 := Nat.le_trans h.mb.small (by decide)
theorem F64.law (b : List UInt8) (p : Int) (Q : Shape → Int → Prop) (hb : b.length ≤ 2000) (hp : 0 ≤ p) (hp1 : p ≤ 100000000) (hq : ∀ s p', shapeOk s = true → (∀ q ∈ s.Pts, NX q) → p ≤ p' → p' ≤ p + 40 → Q s p') : F64.E b p Q := by
 unfold F64.E
 refine F35.law _ _ _ _ hb hp (by omega) (by decide) fun k hk => F26.law _ _ _ _ hb (by omega) (by omega) fun v hv0 hv1 => ?_
 have hk' : 1 ≤ k ∧ k ≤ 3 := by
  simp only [List.mem_cons, List.not_mem_nil, or_false] at hk; omega
 have fin : ∀ (xs : List Pt) (z : Int), (∀ q ∈ xs, NX q) → p ≤ z → z ≤ p + 30 → F63.E ⟨k, xs⟩ (fun r6 => (if !r6 then F125.E b z (fun r7 m4 => Q (⟨1, ([r7] : List Pt)⟩ : Shape) m4) else Q (⟨k, xs⟩ : Shape) z)) := fun xs z hx h1 h2 => by
  refine F63.law _ _ ?_
  cases h : shapeOk ⟨k, xs⟩ with
  | true => rw [if_neg (by decide)]; exact hq _ _ h hx h1 (by omega)
  | false => rw [if_pos (by decide)]; exact F125.law _ _ _ hb (by omega) (by omega) fun x y x0 x1 y0 y1 => hq _ _ (dot_ok x0 (by omega) y0 y1) (fun q hq' => by rw [List.mem_singleton.1 hq']; exact .of x1) (by omega) (by omega)
 refine ⟨by unfold I64; omega, fun w => 1 ≤ w ∧ w ≤ 6, by split <;> omega, ?_⟩
 rintro want ⟨w1, w2⟩
 refine ⟨fun i xs z => 0 ≤ i ∧ i ≤ 12 ∧ (xs.length : Int) ≤ i ∧ (∀ q ∈ xs, NX q) ∧ p + 2 ≤ z ∧ z ≤ p + 2 + 2 * i, fun i _ _ => (12 - i).toNat, ⟨by omega, by omega, by simp, by simp, by omega, by omega⟩, ?_⟩
 rintro i xs z ⟨h0, h1, h2, hx, h3, h4⟩
 by_cases hi : i < 12
 case neg => rw [if_neg (by simpa using hi)]; exact fin _ _ hx (by omega) (by omega)
 rw [if_pos (by simpa using hi)]
 by_cases hl : (xs.length : Int) < F109.m want 6
 case neg => rw [if_neg (by simpa using hl)]; exact fin _ _ hx (by omega) (by omega)
 rw [if_pos (by simpa using hl)]
 refine F125.law _ _ _ hb (by omega) (by omega) fun x y x0 x1 y0 y1 => ⟨fun _ => True, ?_, fun v _ => ⟨fun ys => (ys.length : Int) ≤ i + 1 ∧ ∀ q ∈ ys, NX q, ?_, fun ys hys => ⟨by unfold I64; omega, ⟨by omega, by omega, hys.1, hys.2, by omega, by omega⟩, by dsimp only; omega⟩⟩⟩
 ·by_cases h0 : (xs.length : Int) = 0
  ·rw [if_pos (by simpa using h0)]; trivial
  ·rw [if_neg (by simpa using h0)]
   refine ⟨fun _ => by unfold I64; omega, by omega, ?_⟩
   split
   ·split
    ·trivial
    ·exact ⟨by omega, trivial⟩
   ·trivial
 ·cases v with
  | true => rw [if_pos rfl]; exact ⟨by simp only [List.length_cons, List.length_nil]; omega, by simp only [List.length_append, List.length_cons, List.length_nil]; omega, fun q hq' => (List.mem_append.1 hq').elim (hx q) fun g => by rw [List.mem_singleton.1 g]; exact .of x1⟩
  | false => rw [if_neg (by decide)]; exact ⟨by omega, hx⟩
theorem F48.law (b : List UInt8) (p : Int) (l : List Str) (Q : Str → Int → Prop) (hb : b.length ≤ 2000) (hp : 0 ≤ p) (hp1 : p ≤ 1099511627776) (hl : 0 < l.length) (hq : ∀ s ∈ l, Q s (p + 1)) : F48.E b p l Q := by
 unfold F48.E
 exact F26.law _ _ _ _ hb hp hp1 fun v h0 h1 => ⟨by omega, hq _ (nth_memi l h0 (by omega))⟩
theorem F112.law (b : List UInt8) (p : Int) (Q : Str → Int → Prop) (hb : b.length ≤ 2000) (hp : 0 ≤ p) (hp1 : p ≤ 1000000000) (hq : ∀ k ∈ keyL, Q k (p + 1)) : F112.E b p Q := by
 unfold F112.E
 exact F48.law _ _ _ _ hb hp (by omega) (by decide) hq
theorem F113.law (b : List UInt8) (p : Int) (Q : Str → Int → Prop) (hb : b.length ≤ 2000) (hp : 0 ≤ p) (hp1 : p ≤ 1000000000) (hq : ∀ k ∈ valL, Q k (p + 1)) : F113.E b p Q := by
 unfold F113.E
 exact F48.law _ _ _ _ hb hp (by omega) (by decide) hq
def PutT (s : List Tag) (key val : Str) (u : Nat) (xs : List Tag) (done : Bool) : Prop :=
 u ≤ s.length ∧ SS (keysT xs) ∧ (∀ x, x ∈ keysT xs ↔ x ∈ keysT (s.take u) ∨ (done = true ∧ x = key)) ∧ (done = false → (∀ x ∈ keysT (s.take u), Op.bytesLess x key = true) ∧ xs = s.take u) ∧
  (done = true → ∀ y ∈ keysT (s.drop u), Op.bytesLess key y = true) ∧ xs.length ≤ u + 1 ∧ (∀ z ∈ xs, z ∈ s ∨ z = ⟨key, val⟩)
theorem ss_snocT {l : List Str} {x : Str} (h : SS l) (hx : ∀ y ∈ l, Op.bytesLess y x = true) : SS (l ++ [x]) := by
 unfold SS
 rw [List.pairwise_append]
 exact ⟨h, List.pairwise_singleton _ _, fun a ha b hb => by rw [List.mem_singleton.1 hb]; exact hx a ha⟩
theorem keys_take {s : List Tag} {u : Nat} (hu : u < s.length) : keysT (s.take (u + 1)) = keysT (s.take u) ++ [(nth s (u : Int)).Key] := by rw [take_nth s hu, keys_app]; rfl
theorem keys_cut (s : List Tag) (u : Nat) : keysT s = keysT (s.take u) ++ keysT (s.drop u) := by rw [← keys_app, List.take_append_drop]
theorem dropNthT {s : List Tag} {u : Nat} (hu : u < s.length) : s.drop u = nth s (u : Int) :: s.drop (u + 1) := by rw [nth_nat s hu]; exact List.drop_eq_getElem_cons hu
theorem ss_ltT {s : List Tag} (h : SS (keysT s)) {u : Nat} (hu : u < s.length) : (∀ x ∈ keysT (s.take u), Op.bytesLess x (nth s (u : Int)).Key = true) ∧ ∀ y ∈ keysT (s.drop (u + 1)), Op.bytesLess (nth s (u : Int)).Key y = true := by
 have e := keys_cut s u
 rw [dropNthT hu] at e
 have e2 : keysT (nth s (u : Int) :: s.drop (u + 1)) = (nth s (u : Int)).Key :: keysT (s.drop (u + 1)) := rfl
 rw [e2] at e
 rw [e] at h
 obtain ⟨h1, h2, h3⟩ := List.pairwise_append.1 h
 exact ⟨fun x hx => h3 x hx _ List.mem_cons_self, (List.pairwise_cons.1 h2).1⟩
theorem F114.law (s : List Tag) (key val : Str) (Q : List Tag → Prop) (hl : s.length ≤ 1048576) (hs : SS (keysT s)) (hq : ∀ r, SS (keysT r) → (∀ x, x ∈ keysT r ↔ x ∈ keysT s ∨ x = key) → r.length ≤ s.length + 1 → (∀ z ∈ r, z ∈ s ∨ z = ⟨key, val⟩) → Q r) : F114.E s key val Q := by
 unfold F114.E
 refine ⟨fun xs done i => ∃ u : Nat, i = u ∧ PutT s key val u xs done, fun _ _ i => (s.length - i).toNat, ⟨0, rfl, Nat.zero_le _, by simp [keysT, SS], by simp [keysT], fun _ => ⟨by simp [keysT], by simp⟩, (fun h => by cases h), by simp, by simp⟩, ?_⟩
 rintro xs done _ ⟨u, rfl, hu, h1, h2, h3, h4, h5, h6⟩
 by_cases h : u < s.length
 ·rw [if_pos (by simpa using h)]
  obtain ⟨b1, b2⟩ := ss_ltT hs h
  have hin : nth s (u : Int) ∈ s := nth_mem s h
  have hdr : ∀ y ∈ keysT (s.drop u), y = (nth s (u : Int)).Key ∨ y ∈ keysT (s.drop (u + 1)) := fun y hy => by rw [dropNthT h] at hy; exact List.mem_cons.1 hy
  have hcur : (nth s (u : Int)).Key ∈ keysT (s.drop u) := by rw [dropNthT h]; exact List.mem_cons_self
  have hdr' : ∀ y ∈ keysT (s.drop (u + 1)), y ∈ keysT (s.drop u) := fun y hy => by rw [dropNthT h]; exact List.mem_cons_of_mem _ hy
  have stay : ∀ d, d = done → Op.bytesLess (nth s (u : Int)).Key key = true ∨ d = true → xs.length + 1 ≤ u + 1 + 1 → PutT s key val (u + 1) (xs ++ [nth s (u : Int)]) d := fun d hd hor hlen => by
   subst hd
   refine ⟨h, ?_, fun x => ?_, fun hdn => ⟨fun x hx => ?_, ?_⟩, fun hdn y hy => h4 hdn y (hdr' y hy), by simp only [List.length_append, List.length_singleton]; omega, fun z hz => ?_⟩
   ·rw [keys_app]
    refine ss_snocT h1 fun y hy => ?_
    rcases (h2 y).1 hy with hy | ⟨hd, rfl⟩
    ·exact b1 y hy
    ·exact h4 hd _ hcur
   ·rw [keys_app, List.mem_append, h2, keys_take h, List.mem_append]
    constructor
    ·rintro ((hx | hx) | hx)
     ·exact .inl (.inl hx)
     ·exact .inr hx
     ·exact .inl (.inr hx)
    ·rintro ((hx | hx) | hx)
     ·exact .inl (.inl hx)
     ·exact .inr hx
     ·exact .inl (.inr hx)
   ·rw [keys_take h] at hx
    rcases List.mem_append.1 hx with hx | hx
    ·exact (h3 hdn).1 x hx
    ·rw [List.mem_singleton.1 hx]
     rcases hor with hor | hor
     ·exact hor
     ·rw [hdn] at hor; cases hor
   ·rw [(h3 hdn).2, ← take_nth s h]
   ·rcases List.mem_append.1 hz with hz | hz
    ·exact h6 z hz
    ·rw [List.mem_singleton.1 hz]; exact .inl hin
  cases done with
  | true =>
   rw [if_neg (by decide)]
   have hlt := h4 rfl _ hcur
   have hne : (nth s (u : Int)).Key ≠ key := fun e => by rw [e, less_irr] at hlt; cases hlt
   refine ⟨by omega, ?_⟩
   rw [if_pos (by rw [bne_iff_ne]; exact hne)]
   exact ⟨by omega, by simp only [List.length_cons, List.length_nil]; omega, by omega, ⟨u + 1, by omega, stay true rfl (.inr rfl) (by omega)⟩, by dsimp only; omega⟩
  | false =>
   rw [if_pos (by decide)]
   obtain ⟨c1, c2⟩ := h3 rfl
   have hxl : xs.length = u := by rw [c2, List.length_take]; omega
   refine ⟨by omega, ?_⟩
   cases k : Op.bytesLess (nth s (u : Int)).Key key with
   | true =>
    rw [if_neg (by decide)]
    have hne : (nth s (u : Int)).Key ≠ key := fun e => by rw [e, less_irr] at k; cases k
    refine ⟨by omega, ?_⟩
    rw [if_pos (by rw [bne_iff_ne]; exact hne)]
    exact ⟨by omega, by simp only [List.length_cons, List.length_nil]; omega, by omega, ⟨u + 1, by omega, stay false rfl (.inl k) (by omega)⟩, by dsimp only; omega⟩
   | false =>
    rw [if_pos (by decide)]
    have g1 : SS (keysT (xs ++ [(⟨key, val⟩ : Tag)])) := by
     rw [keys_app]
     refine ss_snocT h1 fun y hy => ?_
     rcases (h2 y).1 hy with hy | ⟨hd, _⟩
     ·exact c1 y hy
     ·cases hd
    refine ⟨by simp only [List.length_cons, List.length_nil]; omega, by omega, ?_⟩
    by_cases hne : (nth s (u : Int)).Key = key
    ·rw [if_neg (by rw [hne]; simp)]
     refine ⟨by omega, ⟨u + 1, by omega, h, g1, fun x => ?_, (fun hd => by cases hd), fun _ y hy => by rw [← hne]; exact b2 y hy, by simp only [List.length_append, List.length_singleton]; omega, fun z hz => ?_⟩, by dsimp only; omega⟩
     ·rw [keys_app, List.mem_append, h2, keys_take h, List.mem_append, hne]
      show _ ∨ x ∈ [key] ↔ _
      rw [List.mem_singleton]
      constructor
      ·rintro ((hx | ⟨hd, _⟩) | hx)
       ·exact .inl (.inl hx)
       ·cases hd
       ·exact .inr ⟨rfl, hx⟩
      ·rintro ((hx | hx) | ⟨_, hx⟩)
       ·exact .inl (.inl hx)
       ·exact .inr hx
       ·exact .inr hx
     ·rcases List.mem_append.1 hz with hz | hz
      ·exact h6 z hz
      ·exact .inr (List.mem_singleton.1 hz)
    ·rw [if_pos (by rw [bne_iff_ne]; exact hne)]
     have hlt : Op.bytesLess key (nth s (u : Int)).Key = true := by
      rcases less_or k with g | g
      ·exact g
      ·exact absurd g.symm hne
     refine ⟨by omega, by simp only [List.length_append, List.length_cons, List.length_nil]; omega, by omega, ⟨u + 1, by omega, h, ?_, fun x => ?_, (fun hd => by cases hd), fun _ y hy => less_trans hlt (b2 y hy), by simp only [List.length_append, List.length_singleton]; omega, fun z hz => ?_⟩, by dsimp only; omega⟩
     ·rw [keys_app]
      refine ss_snocT g1 fun y hy => ?_
      rw [keys_app] at hy
      rcases List.mem_append.1 hy with hy | hy
      ·rcases (h2 y).1 hy with hy | ⟨hd, _⟩
       ·exact b1 y hy
       ·cases hd
      ·have hy : y = key := List.mem_singleton.1 hy
       rw [hy]; exact hlt
     ·rw [keys_app, keys_app, List.mem_append, List.mem_append, h2, keys_take h, List.mem_append]
      show (_ ∨ x ∈ [key]) ∨ x ∈ [(nth s (u : Int)).Key] ↔ _
      rw [List.mem_singleton, List.mem_singleton]
      constructor
      ·rintro (((hx | ⟨hd, _⟩) | hx) | hx)
       ·exact .inl (.inl hx)
       ·cases hd
       ·exact .inr ⟨rfl, hx⟩
       ·exact .inl (.inr hx)
      ·rintro ((hx | hx) | ⟨_, hx⟩)
       ·exact .inl (.inl (.inl hx))
       ·exact .inr hx
       ·exact .inl (.inr hx)
     ·rcases List.mem_append.1 hz with hz | hz
      ·rcases List.mem_append.1 hz with hz | hz
       ·exact h6 z hz
       ·exact .inr (List.mem_singleton.1 hz)
      ·rw [List.mem_singleton.1 hz]; exact .inl hin
 ·rw [if_neg (by simpa using h)]
  have : u = s.length := by omega
  subst this
  rw [List.take_length] at h2 h3
  cases done with
  | true =>
   rw [if_neg (by decide)]
   exact hq xs h1 (fun x => by rw [h2]; simp) h5 h6
  | false =>
   rw [if_pos (by decide)]
   obtain ⟨c1, c2⟩ := h3 rfl
   refine ⟨by simp only [List.length_cons, List.length_nil]; omega, hq _ ?_ (fun x => ?_) (by rw [c2]; simp) fun z hz => ?_⟩
   ·rw [keys_app]
    refine ss_snocT h1 fun y hy => ?_
    rcases (h2 y).1 hy with hy | ⟨hd, _⟩
    ·exact c1 y hy
    ·cases hd
   ·rw [keys_app, List.mem_append, h2]
    show _ ∨ x ∈ [key] ↔ _
    rw [List.mem_singleton]; simp
   ·rcases List.mem_append.1 hz with hz | hz
    ·exact h6 z hz
    ·exact .inr (List.mem_singleton.1 hz)
theorem keys_drawn {s : List Tag} {k v : Str} (hk : k ∈ keyL) (hv : v ∈ valL) (h : ∀ x ∈ s, DT x) {r : List Tag} (hr : ∀ z ∈ r, z ∈ s ∨ z = ⟨k, v⟩) : ∀ x ∈ r, DT x := fun x hx => by
 rcases hr x hx with g | rfl
 ·exact h x g
 ·exact ⟨hk, hv⟩
theorem F78.law (b : List UInt8) (p : Int) (id : Str) (Q : Feat → Int → Prop) (hb : b.length ≤ 2000) (hp : 0 ≤ p) (hp1 : p ≤ 10000000) (hq : ∀ s t p', shapeOk s = true → SS (keysT t) → t.length ≤ 3 → (∀ x ∈ t, DT x) → (∀ q ∈ s.Pts, NX q) → p ≤ p' → p' ≤ p + 60 → Q ⟨id, s, t⟩ p') : F78.E b p id Q := by
 unfold F78.E
 refine F64.law _ _ _ hb hp (by omega) fun s p1 hs hx p0 p2 => F26.law _ _ _ _ hb (by omega) (by omega) fun k hk0 hk1 => ?_
 refine ⟨fun i t z => 0 ≤ i ∧ i ≤ 3 ∧ SS (keysT t) ∧ (t.length : Int) + i ≤ 3 ∧ (∀ x ∈ t, DT x) ∧ p ≤ z ∧ z ≤ p + 41 + 2 * (3 - i), fun i _ _ => i.toNat, ⟨by omega, by omega, List.Pairwise.nil, by simp only [List.length_nil]; omega, by simp, by omega, by omega⟩, ?_⟩
 rintro i t z ⟨h0, h1, h2, h3, h4, h5, h6⟩
 by_cases hi : i > 0
 case neg => rw [if_neg (by simpa using hi)]; exact hq _ _ _ hs h2 (by omega) h4 hx h5 (by omega)
 rw [if_pos (by simpa using hi)]
 refine F112.law _ _ _ hb (by omega) (by omega) fun key hkey => F113.law _ _ _ hb (by omega) (by omega) fun val hval => F114.law _ _ _ _ (by omega) h2 fun r r1 r2 r3 r4 => ⟨by unfold I64; omega, ⟨by omega, by omega, r1, by omega, keys_drawn hkey hval h4 r4, by omega, by omega⟩, by dsimp only; omega⟩
theorem feat_drawn {id : Str} {s : Shape} {t : List Tag} (h1 : wordOk id = true) (h2 : shapeOk s = true) (h3 : SS (keysT t)) (h4 : t.length ≤ 3) (h5 : ∀ x ∈ t, DT x) : featOk ⟨id, s, t⟩ = true := feat_of h1 h2 h3 (by omega) fun x hx => (h5 x hx).ok
theorem F126.law (b : List UInt8) (p : Int) (Q : Str → Int → Prop) (hb : b.length ≤ 2000) (hp : 0 ≤ p) (hp1 : p ≤ 1000000000) (hq : ∀ k ∈ idL, Q k (p + 1)) : F126.E b p Q := by
 unfold F126.E
 exact F48.law _ _ _ _ hb hp (by omega) (by decide) hq
theorem F86.law (b : List UInt8) (p : Int) (Q : Shape → Int → Prop) (hb : b.length ≤ 2000) (hp : 0 ≤ p) (hp1 : p ≤ 10000000) (hq : ∀ s p', s.Pts.length ≤ 7 → (∀ q ∈ s.Pts, NX q) → p ≤ p' → p' ≤ p + 50 → Q s p') : F86.E b p Q := by
 unfold F86.E
 refine F64.law _ _ _ hb hp (by omega) fun s p1 hs hx p0 p2 => F26.law _ _ _ _ hb (by omega) (by omega) fun k hk0 hk1 => F26.law _ _ _ _ hb (by omega) (by omega) fun v hv0 hv1 => ?_
 have l1 := shape_pos hs
 have l2 := shape_pts hs
 split
 ·exact F35.law _ _ _ _ hb (by omega) (by omega) (by decide) fun n hn => hq _ _ (by dsimp only; omega) hx (by omega) (by omega)
 split
 ·exact F35.law _ _ _ _ hb (by omega) (by omega) (by decide) fun n hn => ⟨by omega, hq _ _ (by simp only [List.length_set]; omega) (fun q hq' => by
   rcases List.mem_or_eq_of_mem_set hq' with g | rfl
   ·exact hx q g
   ·simp only [List.mem_cons, List.not_mem_nil, or_false] at hn
    exact ⟨by dsimp only; omega, by dsimp only; omega⟩) (by omega) (by omega)⟩
 split
 ·exact ⟨fun _ => by unfold I64; omega, by omega, by simp only [List.length_cons, List.length_nil]; omega, hq _ _ (by simp only [List.length_append, List.length_cons, List.length_nil]; omega) (fun q hq' => (List.mem_append.1 hq').elim (hx q) fun g => by rw [List.mem_singleton.1 g]; exact hx _ (nth_memi _ (by omega) (by omega))) (by omega) (by omega)⟩
 split
 ·exact ⟨by omega, hq _ _ (by simp only [List.length_take, List.length_drop]; omega) (fun q hq' => hx q (List.mem_of_mem_drop (List.mem_of_mem_take hq'))) (by omega) (by omega)⟩
 exact hq _ _ (by omega) hx (by omega) (by omega)
theorem F87.law (b : List UInt8) (p : Int) (Q : Feat → Int → Prop) (hb : b.length ≤ 2000) (hp : 0 ≤ p) (hp1 : p ≤ 1000000) (hq : ∀ f p', FB 4 f → (∀ x ∈ f.Tags, plainK x.Key) → f.Id ≠ zzI → (∀ q ∈ f.Shape.Pts, NX q) → p ≤ p' → p' ≤ p + 120 → Q f p') : F87.E b p Q := by
 unfold F87.E
 refine F126.law _ _ _ hb hp (by omega) fun id hid => F78.law _ _ _ _ hb (by omega) (by omega) fun s t p1 hs ht tl td hx p2 p3 => F26.law _ _ _ _ hb (by omega) (by omega) fun v hv0 hv1 => ?_
 have li := word_len (idL_ok _ hid)
 have lp := shape_pts hs
 have tp : ∀ x ∈ t, plainK x.Key := fun x hx => keyL_plain _ (td x hx).1
 have tw : ∀ x ∈ t, x.Key.length ≤ 6 ∧ x.Val.length ≤ 6 := fun x hx => (td x hx).len
 have iz := idL_nz _ hid
 split
 ·refine F48.law _ _ _ _ hb (by omega) (by omega) (by decide) fun w hw => hq _ _ ⟨?_, by dsimp only; omega, by dsimp only; omega, tw⟩ tp ?_ hx (by omega) (by omega)
  all_goals
   simp only [List.mem_cons, List.not_mem_nil, or_false] at hw
   dsimp only
   rcases hw with rfl | rfl | rfl <;> decide
 split
 ·exact F86.law _ _ _ hb (by omega) (by omega) fun s' p4 h4 hx' h5 h6 => hq _ _ ⟨by dsimp only; omega, h4, by dsimp only; omega, tw⟩ tp iz hx' (by omega) (by omega)
 split
 ·refine ⟨by simp only [List.length_cons, List.length_nil]; omega, hq _ _ ⟨by dsimp only; omega, by dsimp only; omega, by simp only [List.length_append, List.length_cons, List.length_nil]; omega, fun x hx2 => ?_⟩ (fun x hx2 => ?_) iz hx (by omega) (by omega)⟩
  ·rcases List.mem_append.1 hx2 with hx2 | hx2
   ·exact tw x hx2
   ·rw [List.mem_singleton.1 hx2]; decide
  ·rcases List.mem_append.1 hx2 with hx2 | hx2
   ·exact tp x hx2
   ·rw [List.mem_singleton.1 hx2]; unfold plainK; dsimp only; decide
 split
 ·refine F48.law _ _ _ _ hb (by omega) (by omega) (by decide) fun w hw => ⟨by simp only [List.length_cons, List.length_nil]; omega, hq _ _ ⟨by dsimp only; omega, by dsimp only; omega, by simp only [List.length_append, List.length_cons, List.length_nil]; omega, fun x hx2 => ?_⟩ (fun x hx2 => ?_) iz hx (by omega) (by omega)⟩
  ·rcases List.mem_append.1 hx2 with hx2 | hx2
   ·exact tw x hx2
   ·rw [List.mem_singleton.1 hx2]
    simp only [List.mem_cons, List.not_mem_nil, or_false] at hw
    rcases hw with rfl | rfl <;> decide
  ·rcases List.mem_append.1 hx2 with hx2 | hx2
   ·exact tp x hx2
   ·rw [List.mem_singleton.1 hx2]; unfold plainK; dsimp only; decide
 exact hq _ _ ⟨by dsimp only; omega, by dsimp only; omega, by dsimp only; omega, tw⟩ tp iz hx (by omega) (by omega)
theorem F81.law (b : List UInt8) (p : Int) (s : Shape) (Q : Shape → Int → Prop) (hb : b.length ≤ 2000) (hp : 0 ≤ p) (hp1 : p ≤ 10000000) (hs : s.Pts.length ≤ 1000) (hq : ∀ r p', (r = s ∨ shapeOk r = true) → p ≤ p' → p' ≤ p + 4 → Q r p') : F81.E b p s Q := by
 unfold F81.E
 by_cases h0 : (s.Pts.length : Int) = 0
 ·rw [if_pos (by simpa using h0)]; exact hq _ _ (.inl rfl) (by omega) (by omega)
 rw [if_neg (by simpa using h0)]
 refine F26.law _ _ _ _ hb hp (by omega) fun k hk0 hk1 => ⟨by omega, by simp only [List.length_take, List.length_drop, List.length_nil]; omega, F26.law _ _ _ _ hb (by omega) (by omega) fun v hv0 hv1 => ?_⟩
 have fin : ∀ (r : Shape) (z : Int), p ≤ z → z ≤ p + 4 → F63.E r (fun r5 => (if !r5 then Q s z else Q r z)) := fun r z h1 h2 => by
  refine F63.law _ _ ?_
  cases h : shapeOk r with
  | true => rw [if_neg (by decide)]; exact hq _ _ (.inr h) h1 h2
  | false => rw [if_pos (by decide)]; exact hq _ _ (.inl rfl) h1 h2
 refine ⟨fun _ z => p ≤ z ∧ z ≤ p + 4, ?_, fun xs z hz => fin _ _ hz.1 hz.2⟩
 split
 ·exact ⟨by omega, F125.law _ _ _ hb (by omega) (by omega) fun x y _ _ _ _ => ⟨by simp only [List.length_append, List.length_take, List.length_drop, List.length_nil, List.length_cons]; omega, by simp only [List.length_append, List.length_take, List.length_drop, List.length_nil, List.length_cons]; omega, by omega, by omega⟩⟩
 split
 ·exact ⟨fun _ => by unfold I64; omega, by omega, by simp only [List.length_append, List.length_take, List.length_drop, List.length_nil, List.length_cons]; omega, by omega, by omega⟩
 exact ⟨fun _ => by unfold I64; omega, by omega, F125.law _ _ _ hb (by omega) (by omega) fun x y _ _ _ _ => ⟨by simp only [List.length_append, List.length_take, List.length_drop, List.length_nil, List.length_cons]; omega, by simp only [List.length_append, List.length_take, List.length_drop, List.length_nil, List.length_cons]; omega, by omega, by omega⟩⟩
theorem F80.law (f : Feat) (Q : Feat → Prop) (hb : bulk f ≤ 1048576) (hq : Q f) : F80.E f Q := by
 unfold F80.E F79.E
 have h := bulk_feat f
 have h1 := bulk_len f.Tags
 have h2 := bulk_len f.Shape.Pts
 exact ⟨by simp only [List.length_nil]; omega, by simp only [List.length_nil]; omega, hq⟩
theorem F82.law (s : Str) (Q : Bool → Prop) (hq : Q (wordOk s)) : F82.E s Q := by
 unfold F82.E
 unfold wordOk at hq
 refine loop_all s.length (fun k => byteOk (nth s (k : Int))) (fun I mu k hk hp hn => ?_) (fun ha => ?_)
 ·refine ⟨by omega, ?_⟩
  cases h1 : decide (((nth s (k : Int)).toNat : Int) < 97) with
  | true => rw [if_pos rfl]; rw [allN_false hk (by simp only [byteOk, h1]; rfl), Bool.false_and] at hq; exact hq
  | false =>
   rw [if_neg (by decide)]
   refine ⟨by omega, ?_⟩
   cases h2 : decide (((nth s (k : Int)).toNat : Int) > 122) with
   | true => rw [if_pos rfl]; rw [allN_false hk (by simp only [byteOk, h1, h2]; rfl), Bool.false_and] at hq; exact hq
   | false =>
    rw [if_neg (by decide)]
    obtain ⟨i1, i2⟩ := hn (by simp only [byteOk, h1, h2]; rfl)
    exact ⟨by omega, i1, i2⟩
 ·rw [allN_true ha, Bool.true_and] at hq
  by_cases h : 1 ≤ s.length
  ·rw [decide_eq_true h, Bool.true_and] at hq
   rw [if_pos (by rw [decide_eq_true_eq]; omega)]
   have e2 : decide ((s.length : Int) ≤ 6) = decide (s.length ≤ 6) := decide_eq_decide.2 (by omega)
   rw [e2]; exact hq
  ·rw [decide_eq_false h, Bool.false_and] at hq
   rw [if_neg (by rw [decide_eq_true_eq]; omega)]; exact hq
theorem F83.law (t : List Tag) (Q : Bool → Prop) (hq : Q (tagsOk t && decide (t.length ≤ 4))) : F83.E t Q := by
 unfold F83.E
 unfold tagsOk at hq
 refine loop_all t.length (fun k => wordOk (nth t (k : Int)).Key && wordOk (nth t (k : Int)).Val && (decide (k = 0) || Op.bytesLess (nth t ((k : Int) - 1)).Key (nth t (k : Int)).Key)) (fun I mu k hk hp hn => ?_) (fun ha => ?_)
 ·have bad : (wordOk (nth t (k : Int)).Key && wordOk (nth t (k : Int)).Val && (decide (k = 0) || Op.bytesLess (nth t ((k : Int) - 1)).Key (nth t (k : Int)).Key)) = false → Q false := fun h => by
   rw [allN_false hk h, Bool.false_and] at hq; exact hq
  refine ⟨by omega, _, F82.law _ _ rfl, ?_⟩
  cases h1 : wordOk (nth t (k : Int)).Key with
  | false => rw [if_pos (by decide)]; exact bad (by rw [h1]; rfl)
  | true =>
   rw [if_neg (by decide)]
   refine ⟨by omega, _, F82.law _ _ rfl, ?_⟩
   cases h2 : wordOk (nth t (k : Int)).Val with
   | false => rw [if_pos (by decide)]; exact bad (by rw [h2, Bool.and_false]; rfl)
   | true =>
    rw [if_neg (by decide)]
    by_cases hk0 : k = 0
    ·rw [if_neg (by rw [decide_eq_true_eq]; omega)]
     obtain ⟨i1, i2⟩ := hn (by rw [h1, h2, decide_eq_true hk0]; rfl)
     exact ⟨by omega, i1, i2⟩
    ·rw [if_pos (by rw [decide_eq_true_eq]; omega)]
     refine ⟨by omega, fun _ => by unfold I64; omega, by omega, ?_⟩
     rw [← less_tri]
     cases h3 : Op.bytesLess (nth t ((k : Int) - 1)).Key (nth t (k : Int)).Key with
     | false => rw [if_pos (by decide)]; exact bad (by rw [h3, h1, h2, decide_eq_false hk0]; rfl)
     | true =>
      rw [if_neg (by decide)]
      obtain ⟨i1, i2⟩ := hn (by rw [h3, h1, h2, decide_eq_false hk0]; rfl)
      exact ⟨by omega, i1, i2⟩
 ·rw [allN_true ha, Bool.true_and] at hq
  have e2 : decide ((t.length : Int) ≤ 4) = decide (t.length ≤ 4) := decide_eq_decide.2 (by omega)
  rw [e2]; exact hq
end Go.Proofs.YtpdmnmpcjljeaaaGreat