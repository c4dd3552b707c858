/- It is proved here that the law FnFeatMove of the given program holds whatever it is handed: the walks through the code, the plain laws and the row, in this order.
   Conditions: none. -/
import Derived.Below
import Derived.ChangeArms
import Derived.ChangeOld
import Derived.ChangeSlices
import Derived.DataReads
import Derived.Deep.Quiet
import Derived.KernelRfl
import Derived.Laws.Build
import Derived.Laws.IdiomStrings
import Derived.Laws.OwnMore
import Derived.Laws.Slices
import Derived.Laws.StructEq
import Derived.OpenShut
import Derived.ProofKit
import Derived.Shelf.SlSortCmp.NoneTotal
import Derived.Shelf.SlSortCmp.WholeK
import Derived.Shelf.Slices.Cells
import Derived.Shelf.Slices.CompactS
import Derived.Shelf.Slices.In.SortNone
import Derived.Shelf.Small.Bits
import Derived.Shelf.Sort.Plain
import Derived.Shelf.Strconv.Itoa0
import Derived.ShutString
import Derived.SizedLaws
import Derived.StillTail
import Derived.Test.YtpdmnmpcjljeaaaProg
import Derived.Test.YtpdmnmpcjljeaaaRows
import Derived.WalkKit
import Derived.Test.YtpdmnmpcjljeaaaCFeatMovea
import Derived.Test.YtpdmnmpcjljeaaaCFeatMoveb
import Derived.Test.YtpdmnmpcjljeaaaCFeatMovec
namespace Go.Proofs.Ytpdmnmpcjljeaaa
set_option linter.unusedVariables false
set_option linter.unusedSimpArgs false
set_option linter.unusedSectionVars false
set_option maxHeartbeats 8000000
set_option maxRecDepth 100000
section
open Go.RowKit
def laws_FnFeatMove.E (code : List UInt8) (Q : Bool → Prop) : Prop :=
 (if decide ((code.length : Int) > 1048576) then Q true else F11.E code (fun r r2 r3 => F9.E code (fun r4 r5 r6 => F28.E r4 r5 r6 (fun r7 r8 => F29.E r4 r5 r6 (fun r9 r10 => (if r8 != r10 then (if r8 == r10 then F25.E r7 r9 (fun r11 => Q r11) else Q false) else F25.E r7 r9 (fun r12 => (if !r12 then (if r8 == r10 then F25.E r7 r9 (fun r13 => Q r13) else Q false) else (if !r8 then (if r8 == r10 then F25.E r7 r9 (fun r14 => Q r14) else Q false) else F64.E r (fun r15 => (if !r15 then (if r8 == r10 then F25.E r7 r9 (fun r16 => Q r16) else Q false) else (if decide ((r.Tags.length : Int) ≥ 4) then (if r8 == r10 then F25.E r7 r9 (fun r17 => Q r17) else Q false) else F54.E (⟨r.Id, r4, r.Tags⟩ : Feat) ([122, 122, 122] : Str) ([110, 101, 119] : Str) (fun r18 r19 => F37.E (⟨r.Id, r4, r.Tags⟩ : Feat) (⟨r.Id, r7, r.Tags⟩ : Feat) r18 (fun r20 r21 => F37.E (⟨r.Id, r4, r.Tags⟩ : Feat) r18 (⟨r.Id, r7, r.Tags⟩ : Feat) (fun r22 r23 => F53.E r20 ([122, 122, 122] : Str) (fun r24 r25 => (if r19 then (if (r21.length : Int) == 0 then (if (r23.length : Int) == 0 then F40.E r20 r22 (fun r26 => (if r26 then F25.E r20.Shape r7 (fun r27 => (if r27 then (if r25 then Q (r24 == ([110, 101, 119] : Str)) else Q false) else Q false)) else Q false)) else Q false) else Q false) else Q false)))))))))))))))))
theorem laws_FnFeatMove.calls {O : Ob} (w0 : World) (hO : Ok w0 O) (code : List UInt8) (A1 : Option Addr) (n2 c3 : Nat) (hp4 : Sl Kd.byte w0 (Fr O) (G A1 n2 c3) code) (Q : Bool → Prop) (h : laws_FnFeatMove.E code Q) :
  Ret Try.prog 4 [G A1 n2 c3] w0 (fun v w' => ∃ (r0 : Bool), v = vb r0 ∧ Q r0 ∧ Gr w0 w' none) := by
 unfold laws_FnFeatMove.E at h;have H := h;clear h;have hc0 := Ct.init hO;refine Yd Try.func4 Z 143 Z [.tmp 2] Z Z ?_;refine Xc (Xd (Xf (vb false) Z (Xb (Xc (Xc (Xd (Xe (G A1 n2 c3) Z ?_)))))));have hl6 := hp4.le;refine Xa (X8 u22_ A1 n2 c3 hp4.len Z) (Xa (Xz (code.length : Int) 1048576 (decide ((code.length : Int) > 1048576)) Z Z Z) (Xb ?_));refine Xx (decide ((code.length : Int) > 1048576)) Z (fun hq7 => ?_) (fun hq7 => ?_)
 ·have H := Xi H hq7;exact Xc (Xd (Xf (vb true) Z (Xb (Xl ⟨[vb true], ⟨_, Z, Z⟩, true, Z, H, hc0.gr.g0⟩))))
 have H := Xj H hq7;refine X1 (Xc (Xd (Xe (G A1 n2 c3) Z ?_)));refine Xo go6 [G A1 n2 c3] Z ((F11.calls w0 hc0.ok code A1 n2 c3 hp4 _ H).mono ?_);rintro _ w8 ⟨r, r2, r3, bd, be, bf, ad, ae, af, c4, c5, c6, c7, c8, c9, da, db, dc, dd, de, df, rfl, H, g9, dx, h6, h7, m5, m6, m7, m8, m9, na⟩;have f4 := hc0.k0 g9;refine Xe (.tuple #[.agg #[vs r.Id, vi r.Shape.Kind, G bd be bf, G ad ae af], .agg #[vs r2.Id, vi r2.Shape.Kind, G c4 c5 c6, G c7 c8 c9], .agg #[vs r3.Id, vi r3.Shape.Kind, G da db dc, G dd de df]]) Z (Xa (Ys [.agg #[vs r.Id, vi r.Shape.Kind, G bd be bf, G ad ae af], .agg #[vs r2.Id, vi r2.Shape.Kind, G c4 c5 c6, G c7 c8 c9], .agg #[vs r3.Id, vi r3.Shape.Kind, G da db dc, G dd de df]] 0 (.agg #[vs r.Id, vi r.Shape.Kind, G bd be bf, G ad ae af]) Z Z) (Xa (Ys [.agg #[vs r.Id, vi r.Shape.Kind, G bd be bf, G ad ae af], .agg #[vs r2.Id, vi r2.Shape.Kind, G c4 c5 c6, G c7 c8 c9], .agg #[vs r3.Id, vi r3.Shape.Kind, G da db dc, G dd de df]] 1 (.agg #[vs r2.Id, vi r2.Shape.Kind, G c4 c5 c6, G c7 c8 c9]) Z Z) (Xa (Ys [.agg #[vs r.Id, vi r.Shape.Kind, G bd be bf, G ad ae af], .agg #[vs r2.Id, vi r2.Shape.Kind, G c4 c5 c6, G c7 c8 c9], .agg #[vs r3.Id, vi r3.Shape.Kind, G da db dc, G dd de df]] 2 (.agg #[vs r3.Id, vi r3.Shape.Kind, G da db dc, G dd de df]) Z Z) (X7 [vs [], .int .i64 0, G none 0 0, G none 0 0] ze28 fun nb ac f5 hu51 f6 h8 => ?_))));have f7 := f4.own f6 (some ac) (X6 f5 hu51);refine X7 [vs [], .int .i64 0, G none 0 0, G none 0 0] ze28 fun nc bg f8 hu59 ew h9 => ?_;have f9 := f7.own ew (some bg) (X6 f8 hu59);refine X7 [vs [], .int .i64 0, G none 0 0, G none 0 0] ze28 fun nd bh ga hu67 eg ia => ?_;have eh := f9.own eg (some bh) (X6 ga hu67);have ib := ((h8.k0 ew).k0 eg);refine Xm ac 0 [vs ([] : Str), vi 0, G none 0 0, G none 0 0] [vs r.Id, vi r.Shape.Kind, G bd be bf, G ad ae af] [vs r.Id, vi r.Shape.Kind, G bd be bf, G ad ae af] Z ib Z sz28 Z Z Z fun ne ei ic => ?_;have ej := eh.wr 2 Z ei;have id := (eh.bm (h9.k0 eg) 1 2 Z Z Z ei);refine Xm bg 0 [vs ([] : Str), vi 0, G none 0 0, G none 0 0] [vs r2.Id, vi r2.Shape.Kind, G c4 c5 c6, G c7 c8 c9] [vs r2.Id, vi r2.Shape.Kind, G c4 c5 c6, G c7 c8 c9] Z id Z sz28 Z Z Z fun nf ek ng => ?_;have ex := ej.wr 1 Z ek;have ie := (ej.bm (eh.bm ia 0 2 Z Z Z ei) 0 1 Z Z Z ek);refine Xm bh 0 [vs ([] : Str), vi 0, G none 0 0, G none 0 0] [vs r3.Id, vi r3.Shape.Kind, G da db dc, G dd de df] [vs r3.Id, vi r3.Shape.Kind, G da db dc, G dd de df] Z ie Z sz28 Z Z Z fun ig ey nh => ?_;have el := ex.wr 0 Z ey;refine Xb (Xc (Xd (Xe (G A1 n2 c3) Z ?_)));refine Xo go14 [G A1 n2 c3] Z ((F9.calls ig el.ok code A1 n2 c3 (hp4.st el.st) _ H).mono ?_);rintro _ ni ⟨r4, r5, r6, ak, al, am, rfl, H, ez, ih⟩;have gb := el.k0 ez;refine Xe (.tuple #[.agg #[vi r4.Kind, G ak al am], vi r5, vi r6]) Z (Xa (Ys [.agg #[vi r4.Kind, G ak al am], vi r5, vi r6] 0 (.agg #[vi r4.Kind, G ak al am]) Z Z) (Xa (Ys [.agg #[vi r4.Kind, G ak al am], vi r5, vi r6] 1 (vi r5) Z Z) (Xa (Ys [.agg #[vi r4.Kind, G ak al am], vi r5, vi r6] 2 (vi r6) Z Z) (X7 [.int .i64 0, G none 0 0] ze25 fun nj ag gc hu101 e0 ii => ?_))));have e1 := gb.own e0 (some ag) (X6 gc hu101);refine Xm ag 0 [vi 0, G none 0 0] [vi r4.Kind, G ak al am] [vi r4.Kind, G ak al am] Z ii Z sz25 Z Z Z fun ij e2 gd => ?_;have e3 := e1.wr 0 Z e2;refine Xf (vi r5) Z (Xf (vi r6) Z (Xb (Xc (Xd (Xa (Xr ag25 sz25 cL ⟨ag, 0, none⟩ [vi r4.Kind, G ak al am] Z Z (gd.cells (off := 0) Z)) (Xe (vi r5) Z (Xe (vi r6) Z ?_)))))));have e4 := gb.stown _ e0 (Xg gc);have e5 := e1.stw 0 Z e2;have ge := ((ih.st e4).st e5);refine Xo go15 [.agg #[vi r4.Kind, G ak al am], vi r5, vi r6] Z ((F28.calls ij e3.ok r4 ak al am ge r5 r6 _ H).mono ?_);rintro _ nk ⟨r7, r8, aa, ah, ai, rfl, H, em, ik, gf, cq⟩;have gg := e3.owns em ik gf;refine Xe (.tuple #[.agg #[vi r7.Kind, G aa ah ai], vb r8]) Z (Xa (Ys [.agg #[vi r7.Kind, G aa ah ai], vb r8] 0 (.agg #[vi r7.Kind, G aa ah ai]) Z Z) (Xa (Ys [.agg #[vi r7.Kind, G aa ah ai], vb r8] 1 (vb r8) Z Z) (X7 [.int .i64 0, G none 0 0] ze25 fun nl ab b6 hu127 bi il => ?_)));have bj := gg.own bi (some ab) (X6 b6 hu127);refine Xm ab 0 [vi 0, G none 0 0] [vi r7.Kind, G aa ah ai] [vi r7.Kind, G aa ah ai] Z il Z sz25 Z Z Z fun im bl gh => ?_;have e6 := bj.wr 0 Z bl;refine Xf (vb r8) Z (Xb (Xc (Xd ?_)));have gi := (bj.bm ((gd.k0 em).k0 bi) 2 0 Z Z Z bl);refine Xa (Xr ag25 sz25 cL ⟨ag, 0, none⟩ [vi r4.Kind, G ak al am] Z Z (gi.cells (off := 0) Z)) (Xe (vi r5) Z (Xe (vi r6) Z ?_));have e7 := e3.stos em gf;have e8 := gg.stown _ bi (Xg b6);have e9 := bj.stw 0 Z bl;have gj := (((ge.st e7).st e8).st e9);refine Xo go16 [.agg #[vi r4.Kind, G ak al am], vi r5, vi r6] Z ((F29.calls im e6.ok r4 ak al am gj r5 r6 _ H).mono ?_);rintro _ nm ⟨r9, r10, aj, aq, ar, rfl, H, ba, io, b7, dy⟩;have gk := e6.owns ba io b7;refine Xe (.tuple #[.agg #[vi r9.Kind, G aj aq ar], vb r10]) Z (Xa (Ys [.agg #[vi r9.Kind, G aj aq ar], vb r10] 0 (.agg #[vi r9.Kind, G aj aq ar]) Z Z) (Xa (Ys [.agg #[vi r9.Kind, G aj aq ar], vb r10] 1 (vb r10) Z Z) (X7 [.int .i64 0, G none 0 0] ze25 fun nn a2 a5 hu155 az ip => ?_)));have a0 := gk.own az (some a2) (X6 a5 hu155);refine Xm a2 0 [vi 0, G none 0 0] [vi r9.Kind, G aj aq ar] [vi r9.Kind, G aj aq ar] Z ip Z sz25 Z Z Z fun gl a1 dz => ?_;have c1 := a0.wr 0 Z a1;refine Xf (vb r10) Z (Xb (Xc (Xc (Xd (Xe (vb r8) Z (Xe (vb r10) Z (Xa (Ze u4_ r8 r10 (r8 != r10) Z Z Z) (Xe (vb (r8 != r10)) Z ?_))))))));rcases Ya (r8 != r10) with bn | bn
 ·have H := Xi H bn;refine Xq bn Z (Xq bn Z (Xq bn Z (Xq bn Z (Xa (Xt true (vb true) bn Z) (Xe (vb true) Z (X0 (dj := 61) Z Z (.inl Z) (X0 (dj := 61) Z Z (.inl Z) (Xa (Xt true (vb true) Z Z) ?_))))))));refine Xe (vb true) Z (X0 (dj := 65) Z Z (.inl Z) (X0 (dj := 65) Z Z (.inl Z) (X0 (dj := 65) Z Z (.inl Z) (Xa (Xt true (vb true) Z Z) (Xe (vb true) Z (X0 (dj := 70) Z Z (.inl Z) (X0 (dj := 70) Z Z (.inl Z) (X0 (dj := 70) Z Z (.inl Z) ?_))))))));refine X0 (dj := 70) Z Z (.inl Z) (Xa (Xt true (vb true) Z Z) (Xb (Ym (b := true) Z Z ?_)));refine Xc ?_;have fa : ([some a2, bk aj, some ab, bk aa, some ag, some bh, some bg, some ac] : Ob).Perm ((some ag :: some bh :: some bg :: some ac :: []) ++ [some a2, bk aj, some ab, bk aa]) := (pc fun a => by (try simp only [pca, pcc, pcn, Nat.add_zero, Nat.zero_add]); first | done | ac_rfl);have d6 := c1.drops fa;refine Xd (Xe (vb r8) Z (Xe (vb r10) Z (Xa (Ze u4_ r8 r10 (r8 == r10) Z Z Z) (Xe (vb (r8 == r10)) Z ?_))));rcases Ya (r8 == r10) with b8 | b8
  ·have H := Xi H b8;refine Xp b8 Z ?_;have iq := (a0.bm ((gh.k0 ba).k0 az) 2 0 Z Z Z a1);refine Xa (Xr ag25 sz25 cL ⟨ab, 0, none⟩ [vi r7.Kind, G aa ah ai] Z Z (iq.cells (off := 0) Z)) (Xp b8 Z ?_);have ir := dz;refine Xa (Xr ag25 sz25 cL ⟨a2, 0, none⟩ [vi r9.Kind, G aj aq ar] Z Z (ir.cells (off := 0) Z)) (Xp b8 Z ?_);have it := (c1.odr (a0.sw (((bj.sw (cq.so _ bi (Xg b6)) 1 0 Z Z Z bl).sos ba b7).so _ az (Xg a5)) 3 0 Z Z Z a1) fa 3 Z);have iu := d6.gv it 3 Z;have fb := d6.drop 3 Z;have iv := (d6.sd (c1.odr (a0.sw (dy.so _ az (Xg a5)) 1 0 Z Z Z a1) fa 1 Z) 1 3 Z Z Z);have iw := fb.gv iv 1 Z;have ix := fb.drop 1 Z;have iy := fb.std 1 Z;refine Xo go13 [.agg #[vi r7.Kind, G aa ah ai], .agg #[vi r9.Kind, G aj aq ar]] Z ((F25.calls gl ix.ok r7 aa ah ai (iu.st iy) r9 aj aq ar iw _ H).mono ?_);rintro _ no ⟨r11, rfl, H, iz⟩;have i0 := d6.k0 iz;refine Xa (Xt true (vb r11) b8 Z) (Xf (vb r11) Z (Xb (Xl ?_)));have i1 := i0.clear;exact ⟨[vb r11], ⟨_, Z, Z⟩, r11, Z, H, i1.gr.g0⟩
  have H := Xj H b8;refine Xq b8 Z (Xq b8 Z (Xq b8 Z (Xa (Xt false (vb false) b8 Z) (Xf (vb false) Z (Xb (Xl ?_))))));have i2 := d6.clear;exact ⟨[vb false], ⟨_, Z, Z⟩, false, Z, H, i2.gr.g0⟩
 have H := Xj H bn;refine Xp bn Z ?_;have d0 := (a0.bm ((gh.k0 ba).k0 az) 2 0 Z Z Z a1);refine Xa (Xr ag25 sz25 cL ⟨ab, 0, none⟩ [vi r7.Kind, G aa ah ai] Z Z (d0.cells (off := 0) Z)) (Xp bn Z (Xa (Xr ag25 sz25 cL ⟨a2, 0, none⟩ [vi r9.Kind, G aj aq ar] Z Z (dz.cells (off := 0) Z)) (Xp bn Z ?_)));have i3 := (a0.sw (((bj.sw (cq.so _ bi (Xg b6)) 1 0 Z Z Z bl).sos ba b7).so _ az (Xg a5)) 3 0 Z Z Z a1);have i4 := c1.gv i3 3 Z;have fc := c1.drop 3 Z;have i5 := (c1.sd (a0.sw (dy.so _ az (Xg a5)) 1 0 Z Z Z a1) 1 3 Z Z Z);have i6 := fc.gv i5 1 Z;have i7 := fc.drop 1 Z;have i8 := fc.std 1 Z;refine Xo go13 [.agg #[vi r7.Kind, G aa ah ai], .agg #[vi r9.Kind, G aj aq ar]] Z ((F25.calls gl i7.ok r7 aa ah ai (i4.st i8) r9 aj aq ar i6 _ H).mono ?_);rintro _ fd ⟨r12, rfl, H, au⟩;have cr := c1.k0 au;refine Xp bn Z (Xa (Yk r12 Z) (Xa (Xt false (vb (!r12)) bn Z) (Xe (vb (!r12)) Z ?_)));rcases Ya (!r12) with cs | cs
 ·have H := Xi H cs;refine Xq cs Z (Xq cs Z (Xa (Xt true (vb true) cs Z) (Xe (vb true) Z (X0 (dj := 65) Z Z (.inl Z) (X0 (dj := 65) Z Z (.inl Z) (X0 (dj := 65) Z Z (.inl Z) (Xa (Xt true (vb true) Z Z) (Xe (vb true) Z ?_))))))));refine X0 (dj := 70) Z Z (.inl Z) (X0 (dj := 70) Z Z (.inl Z) (X0 (dj := 70) Z Z (.inl Z) (X0 (dj := 70) Z Z (.inl Z) (Xa (Xt true (vb true) Z Z) (Xb (Ym (b := true) Z Z ?_))))));refine Xc ?_;have fe : ([some a2, bk aj, some ab, bk aa, some ag, some bh, some bg, some ac] : Ob).Perm ((some ag :: some bh :: some bg :: some ac :: []) ++ [some a2, bk aj, some ab, bk aa]) := (pc fun a => by (try simp only [pca, pcc, pcn, Nat.add_zero, Nat.zero_add]); first | done | ac_rfl);have d7 := cr.drops fe;refine Xd (Xe (vb r8) Z (Xe (vb r10) Z (Xa (Ze u4_ r8 r10 (r8 == r10) Z Z Z) (Xe (vb (r8 == r10)) Z ?_))));rcases Ya (r8 == r10) with b9 | b9
  ·have H := Xi H b9;refine Xp b9 Z ?_;have i9 := (d0.k0 au);refine Xa (Xr ag25 sz25 cL ⟨ab, 0, none⟩ [vi r7.Kind, G aa ah ai] Z Z (i9.cells (off := 0) Z)) (Xp b9 Z ?_);have ja := (dz.k0 au);refine Xa (Xr ag25 sz25 cL ⟨a2, 0, none⟩ [vi r9.Kind, G aj aq ar] Z Z (ja.cells (off := 0) Z)) (Xp b9 Z ?_);have jb := (cr.odr ((a0.sw (((bj.sw (cq.so _ bi (Xg b6)) 1 0 Z Z Z bl).sos ba b7).so _ az (Xg a5)) 3 0 Z Z Z a1).sn au) fe 3 Z);have jc := d7.gv jb 3 Z;have ff := d7.drop 3 Z;have jd := (d7.sd (cr.odr ((a0.sw (dy.so _ az (Xg a5)) 1 0 Z Z Z a1).sn au) fe 1 Z) 1 3 Z Z Z);have je := ff.gv jd 1 Z;have jf := ff.drop 1 Z;have jg := ff.std 1 Z;refine Xo go13 [.agg #[vi r7.Kind, G aa ah ai], .agg #[vi r9.Kind, G aj aq ar]] Z ((F25.calls fd jf.ok r7 aa ah ai (jc.st jg) r9 aj aq ar je _ H).mono ?_);rintro _ np ⟨r13, rfl, H, jh⟩;have ji := d7.k0 jh;refine Xa (Xt true (vb r13) b9 Z) (Xf (vb r13) Z (Xb (Xl ?_)));have jj := ji.clear;exact ⟨[vb r13], ⟨_, Z, Z⟩, r13, Z, H, jj.gr.g0⟩
  have H := Xj H b9;refine Xq b9 Z (Xq b9 Z (Xq b9 Z (Xa (Xt false (vb false) b9 Z) (Xf (vb false) Z (Xb (Xl ?_))))));have jk := d7.clear;exact ⟨[vb false], ⟨_, Z, Z⟩, false, Z, H, jk.gr.g0⟩
 have H := Xj H cs;refine Xp cs Z (Xe (vb r8) Z (Xp cs Z (Xa (Yk r8 Z) (Xa (Xt false (vb (!r8)) cs Z) (Xe (vb (!r8)) Z ?_)))));rcases Ya (!r8) with ca | ca
 ·have H := Xi H ca;refine Xq ca Z (Xq ca Z (Xq ca Z (Xa (Xt true (vb true) ca Z) (Xe (vb true) Z (X0 (dj := 70) Z Z (.inl Z) (X0 (dj := 70) Z Z (.inl Z) (X0 (dj := 70) Z Z (.inl Z) (X0 (dj := 70) Z Z (.inl Z) ?_))))))));refine Xa (Xt true (vb true) Z Z) (Xb (Ym (b := true) Z Z ?_));refine Xc ?_;have fg : ([some a2, bk aj, some ab, bk aa, some ag, some bh, some bg, some ac] : Ob).Perm ((some ag :: some bh :: some bg :: some ac :: []) ++ [some a2, bk aj, some ab, bk aa]) := (pc fun a => by (try simp only [pca, pcc, pcn, Nat.add_zero, Nat.zero_add]); first | done | ac_rfl);have d8 := cr.drops fg;refine Xd (Xe (vb r8) Z (Xe (vb r10) Z (Xa (Ze u4_ r8 r10 (r8 == r10) Z Z Z) (Xe (vb (r8 == r10)) Z ?_))));rcases Ya (r8 == r10) with cb | cb
  ·have H := Xi H cb;refine Xp cb Z ?_;have jl := (d0.k0 au);refine Xa (Xr ag25 sz25 cL ⟨ab, 0, none⟩ [vi r7.Kind, G aa ah ai] Z Z (jl.cells (off := 0) Z)) (Xp cb Z ?_);have jm := (dz.k0 au);refine Xa (Xr ag25 sz25 cL ⟨a2, 0, none⟩ [vi r9.Kind, G aj aq ar] Z Z (jm.cells (off := 0) Z)) (Xp cb Z ?_);have jn := (cr.odr ((a0.sw (((bj.sw (cq.so _ bi (Xg b6)) 1 0 Z Z Z bl).sos ba b7).so _ az (Xg a5)) 3 0 Z Z Z a1).sn au) fg 3 Z);have jo := d8.gv jn 3 Z;have fh := d8.drop 3 Z;have jp := (d8.sd (cr.odr ((a0.sw (dy.so _ az (Xg a5)) 1 0 Z Z Z a1).sn au) fg 1 Z) 1 3 Z Z Z);have jq := fh.gv jp 1 Z;have jr := fh.drop 1 Z;have js := fh.std 1 Z;refine Xo go13 [.agg #[vi r7.Kind, G aa ah ai], .agg #[vi r9.Kind, G aj aq ar]] Z ((F25.calls fd jr.ok r7 aa ah ai (jo.st js) r9 aj aq ar jq _ H).mono ?_);rintro _ nq ⟨r14, rfl, H, jt⟩;have ju := d8.k0 jt;refine Xa (Xt true (vb r14) cb Z) (Xf (vb r14) Z (Xb (Xl ?_)));have jv := ju.clear;exact ⟨[vb r14], ⟨_, Z, Z⟩, r14, Z, H, jv.gr.g0⟩
  have H := Xj H cb;refine Xq cb Z (Xq cb Z (Xq cb Z (Xa (Xt false (vb false) cb Z) (Xf (vb false) Z (Xb (Xl ?_))))));have jw := d8.clear;exact ⟨[vb false], ⟨_, Z, Z⟩, false, Z, H, jw.gr.g0⟩
 have H := Xj H ca;refine Xp ca Z ?_;have gm := ((a0.bm (((bj.bm (((e1.bm (((ex.bm (ej.bm ic 2 1 Z Z Z ek) 2 0 Z Z Z ey).k0 ez).k0 e0) 3 0 Z Z Z e2).k0 em).k0 bi) 5 0 Z Z Z bl).k0 ba).k0 az) 7 0 Z Z Z a1).k0 au);refine Xa (Xr ag28 sz28 cL ⟨ac, 0, none⟩ [vs r.Id, vi r.Shape.Kind, G bd be bf, G ad ae af] Z Z (gm.cells (off := 0) Z)) (Xp ca Z ?_);have gn := f4.stown _ f6 (Xg f5);have gp := f7.stown _ ew (Xg f8);have gq := f9.stown _ eg (Xg ga);have gs := eh.stw 2 Z ei;have gt := ej.stw 1 Z ek;have gu := ex.stw 0 Z ey;have gw := el.stn ez;have fi := e6.stos ba b7;have fj := gk.stown _ az (Xg a5);have fk := a0.stw 0 Z a1;have fl := c1.stn au;have jx := ((((((((((((((((h6.st gn).st gp).st gq).st gs).st gt).st gu).st gw).st e4).st e5).st e7).st e8).st e9).st fi).st fj).st fk).st fl);have en := ((((((((((((((((h7.st gn).st gp).st gq).st gs).st gt).st gu).st gw).st e4).st e5).st e7).st e8).st e9).st fi).st fj).st fk).st fl);refine Xo go10 [.agg #[vs r.Id, vi r.Shape.Kind, G bd be bf, G ad ae af]] Z ((F64.calls fd cr.ok r bd be bf ad ae af dx jx en _ H).mono ?_);rintro _ gx ⟨r15, rfl, H, a6⟩;have cn := cr.k0 a6;refine Xp ca Z (Xa (Yk r15 Z) (Xa (Xt false (vb (!r15)) ca Z) (Xe (vb (!r15)) Z ?_)));rcases Ya (!r15) with bo | bo
 ·have H := Xi H bo;refine Xq bo Z (Xq bo Z (Xq bo Z (Xq bo Z (Xa (Xt true (vb true) bo Z) (Xb (Ym (b := true) Z Z ?_))))));refine Xc ?_;have fm : ([some a2, bk aj, some ab, bk aa, some ag, some bh, some bg, some ac] : Ob).Perm ((some ag :: some bh :: some bg :: some ac :: []) ++ [some a2, bk aj, some ab, bk aa]) := (pc fun a => by (try simp only [pca, pcc, pcn, Nat.add_zero, Nat.zero_add]); first | done | ac_rfl);have d9 := cn.drops fm;refine Xd (Xe (vb r8) Z (Xe (vb r10) Z (Xa (Ze u4_ r8 r10 (r8 == r10) Z Z Z) (Xe (vb (r8 == r10)) Z ?_))));rcases Ya (r8 == r10) with cc | cc
  ·have H := Xi H cc;refine Xp cc Z ?_;have jy := ((d0.k0 au).k0 a6);refine Xa (Xr ag25 sz25 cL ⟨ab, 0, none⟩ [vi r7.Kind, G aa ah ai] Z Z (jy.cells (off := 0) Z)) (Xp cc Z ?_);have jz := ((dz.k0 au).k0 a6);refine Xa (Xr ag25 sz25 cL ⟨a2, 0, none⟩ [vi r9.Kind, G aj aq ar] Z Z (jz.cells (off := 0) Z)) (Xp cc Z ?_);have j0 := (cn.odr (((a0.sw (((bj.sw (cq.so _ bi (Xg b6)) 1 0 Z Z Z bl).sos ba b7).so _ az (Xg a5)) 3 0 Z Z Z a1).sn au).sn a6) fm 3 Z);have j1 := d9.gv j0 3 Z;have fn := d9.drop 3 Z;have j2 := (d9.sd (cn.odr (((a0.sw (dy.so _ az (Xg a5)) 1 0 Z Z Z a1).sn au).sn a6) fm 1 Z) 1 3 Z Z Z);have j3 := fn.gv j2 1 Z;have j4 := fn.drop 1 Z;have j5 := fn.std 1 Z;refine Xo go13 [.agg #[vi r7.Kind, G aa ah ai], .agg #[vi r9.Kind, G aj aq ar]] Z ((F25.calls gx j4.ok r7 aa ah ai (j1.st j5) r9 aj aq ar j3 _ H).mono ?_);rintro _ nr ⟨r16, rfl, H, j6⟩;have j7 := d9.k0 j6;refine Xa (Xt true (vb r16) cc Z) (Xf (vb r16) Z (Xb (Xl ?_)));have j8 := j7.clear;exact ⟨[vb r16], ⟨_, Z, Z⟩, r16, Z, H, j8.gr.g0⟩
  have H := Xj H cc;refine Xq cc Z (Xq cc Z (Xq cc Z (Xa (Xt false (vb false) cc Z) (Xf (vb false) Z (Xb (Xl ?_))))));have j9 := d9.clear;exact ⟨[vb false], ⟨_, Z, Z⟩, false, Z, H, j9.gr.g0⟩
 have H := Xj H bo;refine Xp bo Z (Xa (Xk fa28_2 ⟨ac, 0, none⟩ ⟨ac, 3, none⟩ Z Z) (Xp bo Z ?_));have gy := (gm.k0 a6);refine Xa (Xs ag26 cL ⟨ac, 3, none⟩ (G ad ae af) Z (gy.cell Z)) (Xp bo Z ?_);have eo := cr.stn a6;have ns := (en.st eo).le;refine Xa (X8 u26_ ad ae af (en.st eo).len Z) (Xp bo Z (Xa (Xz (r.Tags.length : Int) 4 (decide ((r.Tags.length : Int) ≥ 4)) Z Z Z) (Xa (Yr false (vb (decide ((r.Tags.length : Int) ≥ 4))) (by exact congrArg Value.bool bo) Z) (Xb ?_))));refine Xx (decide ((r.Tags.length : Int) ≥ 4)) Z (fun fo => ?_) (fun fo => ?_)
 ·have H := Xi H fo;refine Xc ?_;have fp : ([some a2, bk aj, some ab, bk aa, some ag, some bh, some bg, some ac] : Ob).Perm ((some ag :: some bh :: some bg :: some ac :: []) ++ [some a2, bk aj, some ab, bk aa]) := (pc fun a => by (try simp only [pca, pcc, pcn, Nat.add_zero, Nat.zero_add]); first | done | ac_rfl);have ea := cn.drops fp;refine Xd (Xe (vb r8) Z (Xe (vb r10) Z (Xa (Ze u4_ r8 r10 (r8 == r10) Z Z Z) (Xe (vb (r8 == r10)) Z ?_))));rcases Ya (r8 == r10) with cd | cd
  ·have H := Xi H cd;refine Xp cd Z ?_;have ka := ((d0.k0 au).k0 a6);refine Xa (Xr ag25 sz25 cL ⟨ab, 0, none⟩ [vi r7.Kind, G aa ah ai] Z Z (ka.cells (off := 0) Z)) (Xp cd Z ?_);have kb := ((dz.k0 au).k0 a6);refine Xa (Xr ag25 sz25 cL ⟨a2, 0, none⟩ [vi r9.Kind, G aj aq ar] Z Z (kb.cells (off := 0) Z)) (Xp cd Z ?_);have kc := (cn.odr (((a0.sw (((bj.sw (cq.so _ bi (Xg b6)) 1 0 Z Z Z bl).sos ba b7).so _ az (Xg a5)) 3 0 Z Z Z a1).sn au).sn a6) fp 3 Z);have kd := ea.gv kc 3 Z;have fq := ea.drop 3 Z;have ke := (ea.sd (cn.odr (((a0.sw (dy.so _ az (Xg a5)) 1 0 Z Z Z a1).sn au).sn a6) fp 1 Z) 1 3 Z Z Z);have kf := fq.gv ke 1 Z;have kg := fq.drop 1 Z;have kh := fq.std 1 Z;refine Xo go13 [.agg #[vi r7.Kind, G aa ah ai], .agg #[vi r9.Kind, G aj aq ar]] Z ((F25.calls gx kg.ok r7 aa ah ai (kd.st kh) r9 aj aq ar kf _ H).mono ?_);rintro _ nt ⟨r17, rfl, H, ki⟩;have kj := ea.k0 ki;refine Xa (Xt true (vb r17) cd Z) (Xf (vb r17) Z (Xb (Xl ?_)));have kk := kj.clear;exact ⟨[vb r17], ⟨_, Z, Z⟩, r17, Z, H, kk.gr.g0⟩
  have H := Xj H cd;refine Xq cd Z (Xq cd Z (Xq cd Z (Xa (Xt false (vb false) cd Z) (Xf (vb false) Z (Xb (Xl ?_))))));have kl := ea.clear;exact ⟨[vb false], ⟨_, Z, Z⟩, false, Z, H, kl.gr.g0⟩
 have H := Xj H fo;refine X1 (Xc ?_);have d1 : ([some a2, bk aj, some ab, bk aa, some ag, some bh, some bg, some ac] : Ob).Perm ((some a2 :: bk aj :: some bh :: some bg :: []) ++ [some ab, bk aa, some ag, some ac]) := (pc fun a => by (try simp only [pca, pcc, pcn, Nat.add_zero, Nat.zero_add]); first | done | ac_rfl);have gz := cn.drops d1;refine Xd ?_;have km := gy;refine Xa (Xr ag28 sz28 cL ⟨ac, 0, none⟩ [vs r.Id, vi r.Shape.Kind, G bd be bf, G ad ae af] Z Z (km.cells (off := 0) Z)) (X7 [vs [], .int .i64 0, G none 0 0, G none 0 0] ze28 fun nu an eb hu324 dg kn => ?_);have dh := gz.own dg (some an) (X6 eb hu324);refine Xm an 0 [vs ([] : Str), vi 0, G none 0 0, G none 0 0] [vs r.Id, vi r.Shape.Kind, G bd be bf, G ad ae af] [vs r.Id, vi r.Shape.Kind, G bd be bf, G ad ae af] Z kn Z sz28 Z Z Z fun nv di ko => ?_;have d2 := dh.wr 0 Z di;refine Xb (Xc (Xd ?_));have kp := (dh.bm ((((a0.bm ((gi.k0 ba).k0 az) 4 0 Z Z Z a1).k0 au).k0 a6).k0 dg) 3 0 Z Z Z di);refine Xa (Xr ag25 sz25 cL ⟨ag, 0, none⟩ [vi r4.Kind, G ak al am] Z Z (kp.cells (off := 0) Z)) (Xa (Xk fa28_1 ⟨an, 0, none⟩ ⟨an, 1, none⟩ Z Z) (Xm an 1 [vs r.Id, vi r.Shape.Kind, G bd be bf, G ad ae af] [vi r4.Kind, G ak al am] [vs r.Id, vi r4.Kind, G ak al am, G ad ae af] Z ko Z sz25 Z Z Z fun nw d3 g1 => ?_));have g2 := d2.wr 0 Z d3;refine Xb (Xc (Xd (Xa (Xr ag28 sz28 cL ⟨an, 0, none⟩ [vs r.Id, vi r4.Kind, G ak al am, G ad ae af] Z Z (g1.cells (off := 0) Z)) (X7 [vs [], .int .i64 0, G none 0 0, G none 0 0] ze28 fun nx ao ec hu341 dk kq => ?_))));have dl := g2.own dk (some ao) (X6 ec hu341);refine Xm ao 0 [vs ([] : Str), vi 0, G none 0 0, G none 0 0] [vs r.Id, vi r4.Kind, G ak al am, G ad ae af] [vs r.Id, vi r4.Kind, G ak al am, G ad ae af] Z kq Z sz28 Z Z Z fun ny dm kr => ?_;have dn := dl.wr 0 Z dm;refine Xb (Xc (Xd ?_));have g3 := (dl.bm ((d2.bm (dh.bm (((d0.k0 au).k0 a6).k0 dg) 1 0 Z Z Z di) 1 0 Z Z Z d3).k0 dk) 2 0 Z Z Z dm);refine Xa (Xr ag25 sz25 cL ⟨ab, 0, none⟩ [vi r7.Kind, G aa ah ai] Z Z (g3.cells (off := 0) Z)) (Xa (Xk fa28_1 ⟨ao, 0, none⟩ ⟨ao, 1, none⟩ Z Z) (Xm ao 1 [vs r.Id, vi r4.Kind, G ak al am, G ad ae af] [vi r7.Kind, G aa ah ai] [vs r.Id, vi r7.Kind, G aa ah ai, G ad ae af] Z kr Z sz25 Z Z Z fun ks dp kt => ?_));have ep := dn.wr 0 Z dp;refine Xb (Xc (Xd ?_));have g4 := (dn.bm (dl.bm (g1.k0 dk) 1 0 Z Z Z dm) 1 0 Z Z Z dp);refine Xa (Xr ag28 sz28 cL ⟨an, 0, none⟩ [vs r.Id, vi r4.Kind, G ak al am, G ad ae af] Z Z (g4.cells (off := 0) Z)) ?_;have g5 := gz.stown _ dg (Xg eb);have g6 := dh.stw 0 Z di;have g7 := d2.stw 0 Z d3;have g8 := g2.stown _ dk (Xg ec);have ha := dl.stw 0 Z dm;have hb := dn.stw 0 Z dp;have fr := ((((((((((((gj.st fi).st fj).st fk).st fl).st eo).st (St.drops _ O d1)).st g5).st g6).st g7).st g8).st ha).st hb);have fs := ((((((((en.st eo).st (St.drops _ O d1)).st g5).st g6).st g7).st g8).st ha).st hb);refine Xo go17 [.agg #[vs r.Id, vi r4.Kind, G ak al am, G ad ae af], vs ([122, 122, 122] : Str), vs ([110, 101, 119] : Str)] Z ((F54.calls ks ep.ok (⟨r.Id, r4, r.Tags⟩ : Feat) ak al am ad ae af dx fr fs ([122, 122, 122] : Str) (by decide : Lim ([122, 122, 122] : Str)) ([110, 101, 119] : Str) (by decide : Lim ([110, 101, 119] : Str)) _ H).mono ?_);rintro _ nz ⟨r18, r19, ax, bw, bx, ay, bz, b0, rfl, H, ct, ku, d4, hc, hd, he⟩;have ft := ep.owns ct ku d4;refine Xe (.tuple #[.agg #[vs r18.Id, vi r18.Shape.Kind, G ax bw bx, G ay bz b0], vb r19]) Z (Xa (Ys [.agg #[vs r18.Id, vi r18.Shape.Kind, G ax bw bx, G ay bz b0], vb r19] 0 (.agg #[vs r18.Id, vi r18.Shape.Kind, G ax bw bx, G ay bz b0]) Z Z) (Xa (Ys [.agg #[vs r18.Id, vi r18.Shape.Kind, G ax bw bx, G ay bz b0], vb r19] 1 (vb r19) Z Z) (X7 [vs [], .int .i64 0, G none 0 0, G none 0 0] ze28 fun n0 av co hu384 bp kv => ?_)));have bq := ft.own bp (some av) (X6 co hu384);refine Xm av 0 [vs ([] : Str), vi 0, G none 0 0, G none 0 0] [vs r18.Id, vi r18.Shape.Kind, G ax bw bx, G ay bz b0] [vs r18.Id, vi r18.Shape.Kind, G ax bw bx, G ay bz b0] Z kv Z sz28 Z Z Z fun hf br hg => ?_;have c2 := bq.wr 0 Z br;refine Xf (vb r19) Z (Xb (Xc (Xd ?_)));have hh := (bq.bm ((g4.k0 ct).k0 bp) 4 0 Z Z Z br);refine Xa (Xr ag28 sz28 cL ⟨an, 0, none⟩ [vs r.Id, vi r4.Kind, G ak al am, G ad ae af] Z Z (hh.cells (off := 0) Z)) ?_;have hi := (bq.bm ((kt.k0 ct).k0 bp) 3 0 Z Z Z br);refine Xa (Xr ag28 sz28 cL ⟨ao, 0, none⟩ [vs r.Id, vi r7.Kind, G aa ah ai, G ad ae af] Z Z (hi.cells (off := 0) Z)) (Xa (Xr ag28 sz28 cL ⟨av, 0, none⟩ [vs r18.Id, vi r18.Shape.Kind, G ax bw bx, G ay bz b0] Z Z (hg.cells (off := 0) Z)) ?_);have kx := (bq.sw (((dn.sw (dl.sw ((d2.sw (dh.sw ((cn.odr (((a0.sw (((bj.sw (cq.so _ bi (Xg b6)) 1 0 Z Z Z bl).sos ba b7).so _ az (Xg a5)) 3 0 Z Z Z a1).sn au).sn a6) d1 1 Z).so _ dg (Xg eb)) 2 0 Z Z Z di) 2 0 Z Z Z d3).so _ dk (Xg ec)) 3 0 Z Z Z dm) 3 0 Z Z Z dp).sos ct d4).so _ bp (Xg co)) 6 0 Z Z Z br);have ky := c2.gv kx 6 Z;have eq := c2.drop 6 Z;have kz := (c2.sd (bq.sw (hd.so _ bp (Xg co)) 1 0 Z Z Z br) 1 6 Z Z Z);have k1 := eq.gv kz 1 Z;have fu := eq.drop 1 Z;have k2 := (eq.sd (c2.sd (bq.sw (he.so _ bp (Xg co)) 2 0 Z Z Z br) 2 6 Z Z Z) 2 1 Z Z Z);have k3 := fu.gv k2 1 Z;have k4 : Ct [] w0 hf [some av, some ao, some an, some ab, some ag, some ac] O := fu.drop 1 Z;have hj := ep.stos ct d4;have hk := ft.stown _ bp (Xg co);have hl := bq.stw 0 Z br;have hm := c2.std 6 Z;have fv := eq.std 1 Z;have er := fu.std 1 Z;have k5 := ((((((fr.st hj).st hk).st hl).st hm).st fv).st er);have hn := ((((((fs.st hj).st hk).st hl).st hm).st fv).st er);have k6 := ((ky.st fv).st er);refine Xo go7 [.agg #[vs r.Id, vi r4.Kind, G ak al am, G ad ae af], .agg #[vs r.Id, vi r7.Kind, G aa ah ai, G ad ae af], .agg #[vs r18.Id, vi r18.Shape.Kind, G ax bw bx, G ay bz b0]] Z ((F37.calls hf k4.ok (⟨r.Id, r4, r.Tags⟩ : Feat) ak al am ad ae af dx k5 hn (⟨r.Id, r7, r.Tags⟩ : Feat) aa ah ai ad ae af dx k6 hn r18 ax bw bx ay bz b0 hc (k1.st er) k3 _ H).mono ?_);rintro _ n1 ⟨r20, r21, ap, bb, bc, aw, b1, b2, a3, dq, dr, rfl, H, ce, k7, ds, ho, k8, k9, la⟩;have lb := Ok.unl (L := [some av, bk ax, bk ay, some ao, some an, some ab, bk aa, some ag, some ac]) (L' := [some av, some ao, some an, some ab, some ag, some ac]) (O := O) c2 ce k7 ds;have fw := Ow.unl (L := [some av, bk ax, bk ay, some ao, some an, some ab, bk aa, some ag, some ac]) (L' := [some av, some ao, some an, some ab, some ag, some ac]) (O := O) (fun _ _ _ _ _ _ h => h) (.cons_cons _ (.cons _ (.cons _ (.cons_cons _ (.cons_cons _ (.cons_cons _ (.cons _ (.cons_cons _ (.cons_cons _ (.slnil)))))))))) k8;have hp := Ow.unl (L := [some av, bk ax, bk ay, some ao, some an, some ab, bk aa, some ag, some ac]) (L' := [some av, some ao, some an, some ab, some ag, some ac]) (O := O) (fun _ _ _ _ _ _ h => h) (.cons_cons _ (.cons _ (.cons _ (.cons_cons _ (.cons_cons _ (.cons_cons _ (.cons _ (.cons_cons _ (.cons_cons _ (.slnil)))))))))) k9;have lc := Ow.unl (L := [some av, bk ax, bk ay, some ao, some an, some ab, bk aa, some ag, some ac]) (L' := [some av, some ao, some an, some ab, some ag, some ac]) (O := O) (fun _ _ _ _ _ _ h => h) (.cons_cons _ (.cons _ (.cons _ (.cons_cons _ (.cons_cons _ (.cons_cons _ (.cons _ (.cons_cons _ (.cons_cons _ (.slnil)))))))))) la;have hq := c2.owns ce lb ds;refine Xe (.tuple #[.agg #[vs r20.Id, vi r20.Shape.Kind, G ap bb bc, G aw b1 b2], G a3 dq dr]) Z (Xa (Ys [.agg #[vs r20.Id, vi r20.Shape.Kind, G ap bb bc, G aw b1 b2], G a3 dq dr] 0 (.agg #[vs r20.Id, vi r20.Shape.Kind, G ap bb bc, G aw b1 b2]) Z Z) (Xa (Ys [.agg #[vs r20.Id, vi r20.Shape.Kind, G ap bb bc, G aw b1 b2], G a3 dq dr] 1 (G a3 dq dr) Z Z) (X7 [vs [], .int .i64 0, G none 0 0, G none 0 0] ze28 fun n3 a4 b3 hu445 a7 ld => ?_)));have a8 := hq.own a7 (some a4) (X6 b3 hu445);refine Xm a4 0 [vs ([] : Str), vi 0, G none 0 0, G none 0 0] [vs r20.Id, vi r20.Shape.Kind, G ap bb bc, G aw b1 b2] [vs r20.Id, vi r20.Shape.Kind, G ap bb bc, G aw b1 b2] Z ld Z sz28 Z Z Z fun hr a9 lf => ?_;have dt := a8.wr 0 Z a9;refine Xf (G a3 dq dr) Z (Xb (Xc (Xd ?_)));have lg := (a8.bm ((hh.k0 ce).k0 a7) 8 0 Z Z Z a9);refine Xa (Xr ag28 sz28 cL ⟨an, 0, none⟩ [vs r.Id, vi r4.Kind, G ak al am, G ad ae af] Z Z (lg.cells (off := 0) Z)) ?_;have lh := (a8.bm ((hg.k0 ce).k0 a7) 4 0 Z Z Z a9);refine Xa (Xr ag28 sz28 cL ⟨av, 0, none⟩ [vs r18.Id, vi r18.Shape.Kind, G ax bw bx, G ay bz b0] Z Z (lh.cells (off := 0) Z)) ?_;have li := (a8.bm ((hi.k0 ce).k0 a7) 7 0 Z Z Z a9);refine Xa (Xr ag28 sz28 cL ⟨ao, 0, none⟩ [vs r.Id, vi r7.Kind, G aa ah ai, G ad ae af] Z Z (li.cells (off := 0) Z)) ?_;have lj := (a8.sw (((bq.sw (hd.so _ bp (Xg co)) 1 0 Z Z Z br).sos ce ds).so _ a7 (Xg b3)) 5 0 Z Z Z a9);have lk := dt.gv lj 5 Z;have es := dt.drop 5 Z;have ll := (dt.sd (a8.sw (((bq.sw (he.so _ bp (Xg co)) 2 0 Z Z Z br).sos ce ds).so _ a7 (Xg b3)) 6 0 Z Z Z a9) 6 5 Z Z Z);have lm := es.gv ll 5 Z;have fx := es.drop 5 Z;have ln := (es.sd (dt.sd (a8.sw (((bq.sw (((dn.sw (dl.sw ((d2.sw (dh.sw ((cn.odr (((a0.sw (((bj.sw (cq.so _ bi (Xg b6)) 1 0 Z Z Z bl).sos ba b7).so _ az (Xg a5)) 3 0 Z Z Z a1).sn au).sn a6) d1 1 Z).so _ dg (Xg eb)) 2 0 Z Z Z di) 2 0 Z Z Z d3).so _ dk (Xg ec)) 3 0 Z Z Z dm) 3 0 Z Z Z dp).sos ct d4).so _ bp (Xg co)) 6 0 Z Z Z br).sos ce ds).so _ a7 (Xg b3)) 10 0 Z Z Z a9) 10 5 Z Z Z) 9 5 Z Z Z);have lo := fx.gv ln 8 Z;have lp : Ct [] w0 hr [some a4, bk ap, bk aw, bk a3, some av, some ao, some an, some ab, some ag, some ac] O := fx.drop 8 Z;have hs := ep.stos ct d4;have ht := ft.stown _ bp (Xg co);have hu := bq.stw 0 Z br;have hv := c2.stos ce ds;have hw := hq.stown _ a7 (Xg b3);have hx := a8.stw 0 Z a9;have hy := dt.std 5 Z;have fy := es.std 5 Z;have et := fx.std 8 Z;have lq := (((((((((fr.st hs).st ht).st hu).st hv).st hw).st hx).st hy).st fy).st et);have hz := (((((((((fs.st hs).st ht).st hu).st hv).st hw).st hx).st hy).st fy).st et);have lr := ((lk.st fy).st et);refine Xo go7 [.agg #[vs r.Id, vi r4.Kind, G ak al am, G ad ae af], .agg #[vs r18.Id, vi r18.Shape.Kind, G ax bw bx, G ay bz b0], .agg #[vs r.Id, vi r7.Kind, G aa ah ai, G ad ae af]] Z ((F37.calls hr lp.ok (⟨r.Id, r4, r.Tags⟩ : Feat) ak al am ad ae af dx lq hz r18 ax bw bx ay bz b0 hc lr (lm.st et) (⟨r.Id, r7, r.Tags⟩ : Feat) aa ah ai ad ae af dx lo hz _ H).mono ?_);rintro _ n4 ⟨r22, r23, cf, cu, cv, b4, cw, cx, cp, du, dv, rfl, H, cg, ls, cy, lt, lu, lv, lw⟩;have lx := Ok.unl (L := [some a4, bk ap, bk aw, bk a3, some av, bk ax, bk ay, some ao, some an, some ab, bk aa, some ag, some ac]) (L' := [some a4, bk ap, bk aw, bk a3, some av, some ao, some an, some ab, some ag, some ac]) (O := O) dt cg ls cy;have ly := Ow.unl (L := [some a4, bk ap, bk aw, bk a3, some av, bk ax, bk ay, some ao, some an, some ab, bk aa, some ag, some ac]) (L' := [some a4, bk ap, bk aw, bk a3, some av, some ao, some an, some ab, some ag, some ac]) (O := O) (fun _ _ _ _ _ _ h => h) (.cons_cons _ (.cons_cons _ (.cons_cons _ (.cons_cons _ (.cons_cons _ (.cons _ (.cons _ (.cons_cons _ (.cons_cons _ (.cons_cons _ (.cons _ (.cons_cons _ (.cons_cons _ (.slnil)))))))))))))) lu;have lz := Ow.unl (L := [some a4, bk ap, bk aw, bk a3, some av, bk ax, bk ay, some ao, some an, some ab, bk aa, some ag, some ac]) (L' := [some a4, bk ap, bk aw, bk a3, some av, some ao, some an, some ab, some ag, some ac]) (O := O) (fun _ _ _ _ _ _ h => h) (.cons_cons _ (.cons_cons _ (.cons_cons _ (.cons_cons _ (.cons_cons _ (.cons _ (.cons _ (.cons_cons _ (.cons_cons _ (.cons_cons _ (.cons _ (.cons_cons _ (.cons_cons _ (.slnil)))))))))))))) lv;have l0 := Ow.unl (L := [some a4, bk ap, bk aw, bk a3, some av, bk ax, bk ay, some ao, some an, some ab, bk aa, some ag, some ac]) (L' := [some a4, bk ap, bk aw, bk a3, some av, some ao, some an, some ab, some ag, some ac]) (O := O) (fun _ _ _ _ _ _ h => h) (.cons_cons _ (.cons_cons _ (.cons_cons _ (.cons_cons _ (.cons_cons _ (.cons _ (.cons _ (.cons_cons _ (.cons_cons _ (.cons_cons _ (.cons _ (.cons_cons _ (.cons_cons _ (.slnil)))))))))))))) lw;have l1 := dt.owns cg lx cy;refine Xe (.tuple #[.agg #[vs r22.Id, vi r22.Shape.Kind, G cf cu cv, G b4 cw cx], G cp du dv]) Z (Xa (Ys [.agg #[vs r22.Id, vi r22.Shape.Kind, G cf cu cv, G b4 cw cx], G cp du dv] 0 (.agg #[vs r22.Id, vi r22.Shape.Kind, G cf cu cv, G b4 cw cx]) Z Z) (Xa (Ys [.agg #[vs r22.Id, vi r22.Shape.Kind, G cf cu cv, G b4 cw cx], G cp du dv] 1 (G cp du dv) Z Z) (X7 [vs [], .int .i64 0, G none 0 0, G none 0 0] ze28 fun n5 d5 ch hu510 bs l2 => ?_)));have bt := l1.own bs (some d5) (X6 ch hu510);refine Xm d5 0 [vs ([] : Str), vi 0, G none 0 0, G none 0 0] [vs r22.Id, vi r22.Shape.Kind, G cf cu cv, G b4 cw cx] [vs r22.Id, vi r22.Shape.Kind, G cf cu cv, G b4 cw cx] Z l2 Z sz28 Z Z Z fun l3 bu l4 => ?_;have ci := bt.wr 0 Z bu;refine Xf (G cp du dv) Z (Xb (Xc ?_));have cj : ([some d5, bk cf, bk b4, bk cp, some a4, bk ap, bk aw, bk a3, some av, bk ax, bk ay, some ao, some an, some ab, bk aa, some ag, some ac] : Ob).Perm ((some av :: bk ax :: bk ay :: some ao :: some an :: some ag :: some ac :: []) ++ [some d5, bk cf, bk b4, bk cp, some a4, bk ap, bk aw, bk a3, some ab, bk aa]) := (pc fun a => by (try simp only [pca, pcc, pcn, Nat.add_zero, Nat.zero_add]); first | done | ac_rfl);have eu := ci.drops cj;refine Xd ?_;have h0 := (bt.bm ((lf.k0 cg).k0 bs) 4 0 Z Z Z bu);refine Xa (Xr ag28 sz28 cL ⟨a4, 0, none⟩ [vs r20.Id, vi r20.Shape.Kind, G ap bb bc, G aw b1 b2] Z Z (h0.cells (off := 0) Z)) ?_;have l5 := (ci.odr (bt.sw (((a8.sw (fw.so _ a7 (Xg b3)) 1 0 Z Z Z a9).sos cg cy).so _ bs (Xg ch)) 5 0 Z Z Z bu) cj 5 Z);have l6 := eu.gv l5 5 Z;have fz := eu.drop 5 Z;have l7 := (eu.sd (ci.odr (bt.sw (((a8.sw (hp.so _ a7 (Xg b3)) 2 0 Z Z Z a9).sos cg cy).so _ bs (Xg ch)) 6 0 Z Z Z bu) cj 6 Z) 6 5 Z Z Z);have l8 := fz.gv l7 5 Z;have l9 := fz.drop 5 Z;have ma := fz.std 5 Z;refine Xo go11 [.agg #[vs r20.Id, vi r20.Shape.Kind, G ap bb bc, G aw b1 b2], vs ([122, 122, 122] : Str)] Z ((F53.calls l3 l9.ok r20 ap bb bc aw b1 b2 ho (l6.st ma) l8 ([122, 122, 122] : Str) (by decide : Lim ([122, 122, 122] : Str)) _ H).mono ?_);rintro _ h1 ⟨r24, r25, rfl, H, b5, n6⟩;have cz := eu.k0 b5;refine Xe (.tuple #[vs r24, vb r25]) Z (Xa (Ys [vs r24, vb r25] 0 (vs r24) Z Z) (Xa (Ys [vs r24, vb r25] 1 (vb r25) Z Z) (Xf (vs r24) Z (Xf (vb r25) Z (Xb (Xc (Xd (Xe (vb r19) Z ?_))))))));refine Xe (vb r19) Z ?_;rcases Ya r19 with ck | ck
 ·have H := Xi H ck;refine Xp ck Z (Xe (G a3 dq dr) Z (Xp ck Z ?_));have h2 := ((ci.odr (bt.sw (((a8.sw (lc.so _ a7 (Xg b3)) 3 0 Z Z Z a9).sos cg cy).so _ bs (Xg ch)) 7 0 Z Z Z bu) cj 7 Z).sn b5);have n7 := h2.le;refine Xa (X8 u31_ a3 dq dr h2.len Z) (Xp ck Z (Xa (Xz (r21.length : Int) 0 ((r21.length : Int) == 0) Z Z Z) (Xa (Xt true (vb ((r21.length : Int) == 0)) ck Z) (Xe (vb ((r21.length : Int) == 0)) Z ?_))));rcases Ya ((r21.length : Int) == 0) with cl | cl
  ·have H := Xi H cl;refine Xp cl Z (Xe (G cp du dv) Z (Xp cl Z ?_));have h3 := ((ci.odr (bt.sw (l0.so _ bs (Xg ch)) 3 0 Z Z Z bu) cj 3 Z).sn b5);have n8 := h3.le;refine Xa (X8 u31_ cp du dv h3.len Z) (Xp cl Z (Xa (Xz (r23.length : Int) 0 ((r23.length : Int) == 0) Z Z Z) (Xa (Xt true (vb ((r23.length : Int) == 0)) cl Z) (Xe (vb ((r23.length : Int) == 0)) Z ?_))));rcases Ya ((r23.length : Int) == 0) with cm | cm
   ·have H := Xi H cm;refine Xp cm Z ?_;have h4 := (h0.k0 b5);refine Xa (Xr ag28 sz28 cL ⟨a4, 0, none⟩ [vs r20.Id, vi r20.Shape.Kind, G ap bb bc, G aw b1 b2] Z Z (h4.cells (off := 0) Z)) (Xp cm Z ?_);have mb := (l4.k0 b5);refine Xa (Xr ag28 sz28 cL ⟨d5, 0, none⟩ [vs r22.Id, vi r22.Shape.Kind, G cf cu cv, G b4 cw cx] Z Z (mb.cells (off := 0) Z)) (Xp cm Z ?_);have mc := ((ci.odr (bt.sw (((a8.sw (fw.so _ a7 (Xg b3)) 1 0 Z Z Z a9).sos cg cy).so _ bs (Xg ch)) 5 0 Z Z Z bu) cj 5 Z).sn b5);have md := cz.gv mc 5 Z;have ed := cz.drop 5 Z;have me := (cz.sd ((ci.odr (bt.sw (((a8.sw (hp.so _ a7 (Xg b3)) 2 0 Z Z Z a9).sos cg cy).so _ bs (Xg ch)) 6 0 Z Z Z bu) cj 6 Z).sn b5) 6 5 Z Z Z);have mf := ed.gv me 5 Z;have ev := ed.drop 5 Z;have mg := (ed.sd (cz.sd ((ci.odr (bt.sw (ly.so _ bs (Xg ch)) 1 0 Z Z Z bu) cj 1 Z).sn b5) 1 5 Z Z Z) 1 5 Z Z Z);have mh := ev.gv mg 1 Z;have f0 : Ct [] w0 h1 [some d5, bk b4, bk cp, some a4, bk a3, some ab, bk aa] O := ev.drop 1 Z;have mi := (ev.sd (ed.sd (cz.sd ((ci.odr (bt.sw (lz.so _ bs (Xg ch)) 2 0 Z Z Z bu) cj 2 Z).sn b5) 2 5 Z Z Z) 2 5 Z Z Z) 2 1 Z Z Z);have mj := f0.gv mi 1 Z;have mk := f0.drop 1 Z;have ml := ed.std 5 Z;have h5 := ev.std 1 Z;have f1 := f0.std 1 Z;have mm := (((md.st ml).st h5).st f1);have mn := ((mf.st h5).st f1);refine Xo go9 [.agg #[vs r20.Id, vi r20.Shape.Kind, G ap bb bc, G aw b1 b2], .agg #[vs r22.Id, vi r22.Shape.Kind, G cf cu cv, G b4 cw cx]] Z ((F40.calls h1 mk.ok r20 ap bb bc aw b1 b2 ho mm mn r22 cf cu cv b4 cw cx lt (mh.st f1) mj _ H).mono ?_);rintro _ mo ⟨r26, rfl, H, ee⟩;have ef := cz.k0 ee;refine Xa (Xt true (vb r26) cm Z) (Xe (vb r26) Z ?_);rcases Ya r26 with bv | bv
    ·have H := Xi H bv;refine Xp bv Z (Xa (Xk fa28_1 ⟨a4, 0, none⟩ ⟨a4, 1, none⟩ Z Z) (Xp bv Z ?_));have mp := (h4.k0 ee);refine Xa (Xr ag25 sz25 cL ⟨a4, 1, none⟩ [vi r20.Shape.Kind, G ap bb bc] Z Z (mp.cells (off := 1) Z)) (Xp bv Z ?_);have mq := (((bt.bm (((a8.bm (((bq.bm (((dn.bm g3 2 0 Z Z Z dp).k0 ct).k0 bp) 5 0 Z Z Z br).k0 ce).k0 a7) 9 0 Z Z Z a9).k0 cg).k0 bs) 13 0 Z Z Z bu).k0 b5).k0 ee);refine Xa (Xr ag25 sz25 cL ⟨ab, 0, none⟩ [vi r7.Kind, G aa ah ai] Z Z (mq.cells (off := 0) Z)) (Xp bv Z ?_);have mr := (((ci.odr (bt.sw (((a8.sw (fw.so _ a7 (Xg b3)) 1 0 Z Z Z a9).sos cg cy).so _ bs (Xg ch)) 5 0 Z Z Z bu) cj 5 Z).sn b5).sn ee);have ms := ef.gv mr 5 Z;have f2 := ef.drop 5 Z;have mt := (ef.sd (((ci.odr (bt.sw (((a8.sw (((bq.sw (((dn.sw (dl.sw ((d2.sw (dh.sw ((cn.odr (((a0.sw (((bj.sw (cq.so _ bi (Xg b6)) 1 0 Z Z Z bl).sos ba b7).so _ az (Xg a5)) 3 0 Z Z Z a1).sn au).sn a6) d1 1 Z).so _ dg (Xg eb)) 2 0 Z Z Z di) 2 0 Z Z Z d3).so _ dk (Xg ec)) 3 0 Z Z Z dm) 3 0 Z Z Z dp).sos ct d4).so _ bp (Xg co)) 6 0 Z Z Z br).sos ce ds).so _ a7 (Xg b3)) 10 0 Z Z Z a9).sos cg cy).so _ bs (Xg ch)) 14 0 Z Z Z bu) cj 9 Z).sn b5).sn ee) 9 5 Z Z Z);have mu := f2.gv mt 8 Z;have mv := f2.drop 8 Z;have mw := f2.std 8 Z;refine Xo go13 [.agg #[vi r20.Shape.Kind, G ap bb bc], .agg #[vi r7.Kind, G aa ah ai]] Z ((F25.calls mo mv.ok r20.Shape ap bb bc (ms.st mw) r7 aa ah ai mu _ H).mono ?_);rintro _ n9 ⟨r27, rfl, H, mx⟩;have f3 := ef.k0 mx;refine Xa (Xt true (vb r27) bv Z) (Xe (vb r27) Z ?_);rcases Ya r27 with dw | dw
     ·have H := Xi H dw;refine Xp dw Z (Xe (vb r25) Z (Xa (Xt true (vb r25) dw Z) (Xe (vb r25) Z ?_)));rcases Ya r25 with c0 | c0
      ·have H := Xi H c0;refine Xp c0 Z (Xe (vs r24) Z (Xp c0 Z (Xa (Y4 r24 ([110, 101, 119] : Str) (r24 == ([110, 101, 119] : Str)) Z Z Z) (Xa (Xt true (vb (r24 == ([110, 101, 119] : Str))) c0 Z) (Xf (vb (r24 == ([110, 101, 119] : Str))) Z (Xb (Xl ?_)))))));have my := f3.clear;exact ⟨[vb (r24 == ([110, 101, 119] : Str))], ⟨_, Z, Z⟩, r24 == ([110, 101, 119] : Str), Z, H, my.gr.g0⟩
      have H := Xj H c0;refine Xq c0 Z (Xq c0 Z (Xa (Xt false (vb false) c0 Z) (Xf (vb false) Z (Xb (Xl ?_)))));have mz := f3.clear;exact ⟨[vb false], ⟨_, Z, Z⟩, false, Z, H, mz.gr.g0⟩
     have H := Xj H dw;refine Xq dw Z (Xa (Xt false (vb false) dw Z) (Xe (vb false) Z (X0 (dj := 139) Z Z (.inl Z) (X0 (dj := 139) Z Z (.inl Z) (Xa (Xt false (vb false) Z Z) (Xf (vb false) Z (Xb (Xl ?_))))))));have m0 := f3.clear;exact ⟨[vb false], ⟨_, Z, Z⟩, false, Z, H, m0.gr.g0⟩
    have H := Xj H bv;refine Xq bv Z (Xq bv Z (Xq bv Z (Xq bv Z (Xa (Xt false (vb false) bv Z) (Xe (vb false) Z (X0 (dj := 136) Z Z (.inl Z) (Xa (Xt false (vb false) Z Z) (Xe (vb false) Z ?_))))))));refine X0 (dj := 139) Z Z (.inl Z) (X0 (dj := 139) Z Z (.inl Z) (Xa (Xt false (vb false) Z Z) (Xf (vb false) Z (Xb (Xl ?_)))));have m1 := ef.clear;exact ⟨[vb false], ⟨_, Z, Z⟩, false, Z, H, m1.gr.g0⟩
   have H := Xj H cm;refine Xq cm Z (Xq cm Z (Xq cm Z (Xa (Xt false (vb false) cm Z) (Xe (vb false) Z (X0 (dj := 130) Z Z (.inl Z) (X0 (dj := 130) Z Z (.inl Z) (X0 (dj := 130) Z Z (.inl Z) (X0 (dj := 130) Z Z (.inl Z) ?_))))))));refine Xa (Xt false (vb false) Z Z) (Xe (vb false) Z (X0 (dj := 136) Z Z (.inl Z) (Xa (Xt false (vb false) Z Z) (Xe (vb false) Z (X0 (dj := 139) Z Z (.inl Z) (X0 (dj := 139) Z Z (.inl Z) (Xa (Xt false (vb false) Z Z) (Xf (vb false) Z ?_))))))));refine Xb (Xl ?_);have m2 := cz.clear;exact ⟨[vb false], ⟨_, Z, Z⟩, false, Z, H, m2.gr.g0⟩
  have H := Xj H cl;refine Xq cl Z (Xq cl Z (Xq cl Z (Xa (Xt false (vb false) cl Z) (Xe (vb false) Z (X0 (dj := 125) Z Z (.inl Z) (X0 (dj := 125) Z Z (.inl Z) (X0 (dj := 125) Z Z (.inl Z) (Xa (Xt false (vb false) Z Z) ?_))))))));refine Xe (vb false) Z (X0 (dj := 130) Z Z (.inl Z) (X0 (dj := 130) Z Z (.inl Z) (X0 (dj := 130) Z Z (.inl Z) (X0 (dj := 130) Z Z (.inl Z) (Xa (Xt false (vb false) Z Z) (Xe (vb false) Z (X0 (dj := 136) Z Z (.inl Z) (Xa (Xt false (vb false) Z Z) ?_))))))));refine Xe (vb false) Z (X0 (dj := 139) Z Z (.inl Z) (X0 (dj := 139) Z Z (.inl Z) (Xa (Xt false (vb false) Z Z) (Xf (vb false) Z (Xb (Xl ?_))))));have m3 := cz.clear;exact ⟨[vb false], ⟨_, Z, Z⟩, false, Z, H, m3.gr.g0⟩
 have H := Xj H ck;refine Xq ck Z (Xq ck Z (Xq ck Z (Xa (Xt false (vb false) ck Z) (Xe (vb false) Z (X0 (dj := 120) Z Z (.inl Z) (X0 (dj := 120) Z Z (.inl Z) (X0 (dj := 120) Z Z (.inl Z) (Xa (Xt false (vb false) Z Z) ?_))))))));refine Xe (vb false) Z (X0 (dj := 125) Z Z (.inl Z) (X0 (dj := 125) Z Z (.inl Z) (X0 (dj := 125) Z Z (.inl Z) (Xa (Xt false (vb false) Z Z) (Xe (vb false) Z (X0 (dj := 130) Z Z (.inl Z) (X0 (dj := 130) Z Z (.inl Z) (X0 (dj := 130) Z Z (.inl Z) ?_))))))));refine X0 (dj := 130) Z Z (.inl Z) (Xa (Xt false (vb false) Z Z) (Xe (vb false) Z (X0 (dj := 136) Z Z (.inl Z) (Xa (Xt false (vb false) Z Z) (Xe (vb false) Z (X0 (dj := 139) Z Z (.inl Z) (X0 (dj := 139) Z Z (.inl Z) (Xa (Xt false (vb false) Z Z) ?_))))))));refine Xf (vb false) Z (Xb (Xl ?_));have m4 := cz.clear;exact ⟨[vb false], ⟨_, Z, Z⟩, false, Z, H, m4.gr.g0⟩
end
theorem F44.law (code : List UInt8) (Q : List UInt8 → Int → Prop) (hq : ∀ b, b.length ≤ 2000 → Q b 0) : F44.E code Q := by
 unfold F44.E
 by_cases h : (code.length : Int) > 2000
 ·rw [if_pos (by simpa using h)]
  exact ⟨by omega, hq _ (by rw [List.length_take]; omega)⟩
 ·rw [if_neg (by simpa using h)]
  exact hq _ (by omega)
theorem ediv_le {p l : Int} (hp : 0 ≤ p) (hl : 0 < l) : 0 ≤ p / l ∧ p / l ≤ p := ⟨Int.ediv_nonneg hp (by omega), Int.ediv_le_self _ hp⟩
theorem F15.law (b : List UInt8) (p n : Int) (Q : Int → Int → Prop) (hb : b.length ≤ 2000) (hp : 0 ≤ p) (hp1 : p ≤ 1099511627776) (hq : ∀ v, 0 ≤ v → (v < n ∨ v = 0) → Q v (p + 1)) : F15.E b p n Q := by
 unfold F15.E
 refine ⟨by unfold I64; omega, ?_⟩
 by_cases hn : n < 1
 ·rw [if_pos (by simpa using hn)]; exact hq 0 (by omega) (.inr rfl)
 rw [if_neg (by simpa using hn)]
 by_cases hl : (b.length : Int) = 0
 ·rw [if_pos (by simpa using hl)]; exact hq 0 (by omega) (.inr rfl)
 rw [if_neg (by simpa using hl)]
 refine ⟨fun _ => by unfold I64; omega, ?_⟩
 rw [show p + 1 - 1 = p by omega]
 have fin : ∀ z : Int, 0 ≤ z → Q (z % n) (p + 1) := fun z hz => hq _ (Int.emod_nonneg _ (by omega)) (.inl (Int.emod_lt_of_pos _ (by omega)))
 by_cases hc : p < (b.length : Int)
 ·rw [if_pos (by simpa using hc)]
  exact ⟨by omega, ⟨by omega, by omega⟩, fin _ (by omega)⟩
 rw [if_neg (by simpa using hc)]
 have hlen : (0 : Int) < (b.length : Int) := by omega
 generalize hL : (b.length : Int) = L at *
 have m1 := Int.emod_nonneg p (show L ≠ 0 by omega)
 have m2 := Int.emod_lt_of_pos p hlen
 have m3 := Int.emod_nonneg (p * 7 + 3) (show L ≠ 0 by omega)
 have m4 := Int.emod_lt_of_pos (p * 7 + 3) hlen
 obtain ⟨d1, d2⟩ := ediv_le hp hlen
 generalize p % L = r1 at *
 generalize (p * 7 + 3) % L = r2 at *
 generalize p / L = q at *
 have u1 := (nth b r1).toNat_lt
 have u2 := (nth b r2).toNat_lt
 generalize (nth b r1).toNat = x1 at *
 generalize (nth b r2).toNat = x2 at *
 have s0 : 0 ≤ (x1 : Int) * 131 + (x2 : Int) * 1117 + p * 29 + q * 53 := by omega
 have s1 : (x1 : Int) * 131 + (x2 : Int) * 1117 + p * 29 + q * 53 ≤ 9223372036854775807 := by omega
 refine ⟨by omega, by omega, fun _ => by unfold I64; omega, fun _ => by unfold I64; omega, fun _ => by unfold I64; omega, by omega, by omega, fun _ => by unfold I64; omega, fun _ => by unfold I64; omega, fun _ => by unfold I64; omega, fun _ => by unfold I64; omega, by omega, fun _ => by unfold I64; omega, fun _ => by unfold I64; omega, by omega, ?_⟩
 generalize (x1 : Int) * 131 + (x2 : Int) * 1117 + p * 29 + q * 53 = s at *
 have hx : 0 ≤ xor64 s (s / 64) := xor64_nonneg ⟨s0, s1⟩ (by omega)
 exact ⟨by omega, fin _ hx⟩
section
section
variable {α : Type} [DecidableEq α]
def lcsR (x : α) (p : List α → Nat) : List α → Nat
  | [] => 0
  | y :: b => if x = y then p b + 1 else max (p (y :: b)) (lcsR x p b)
def lcs : List α → List α → Nat
  | [] => fun _ => 0
  | x :: a => lcsR x (lcs a)
@[simp] theorem lcs_nil (b : List α) : lcs [] b = 0 := rfl
@[simp] theorem lcs_nil2 (a : List α) : lcs a [] = 0 := by cases a <;> rfl
theorem lcs_cons (x y : α) (a b : List α) : lcs (x :: a) (y :: b) = if x = y then lcs a b + 1 else max (lcs a (y :: b)) (lcs (x :: a) b) := rfl
theorem lcs_sub (a b : List α) : ∃ s : List α, s.Sublist a ∧ s.Sublist b ∧ s.length = lcs a b := by
  induction a generalizing b with
  | nil => exact ⟨[], List.nil_sublist _, List.nil_sublist _, rfl⟩
  | cons x a ih =>
    induction b with
    | nil => exact ⟨[], List.nil_sublist _, List.nil_sublist _, rfl⟩
    | cons y b ihb =>
      rw [lcs_cons]
      by_cases h : x = y
      · subst h
        obtain ⟨s, h1, h2, h3⟩ := ih b
        exact ⟨x :: s, h1.cons_cons x, h2.cons_cons x, by rw [if_pos rfl, ← h3]; rfl⟩
      · rw [if_neg h]
        by_cases hm : lcs (x :: a) b ≤ lcs a (y :: b)
        · obtain ⟨s, h1, h2, h3⟩ := ih (y :: b)
          exact ⟨s, h1.cons x, h2, by omega⟩
        · obtain ⟨s, h1, h2, h3⟩ := ihb
          exact ⟨s, h1, h2.cons y, by omega⟩
theorem lcs_le1 (a b : List α) : lcs a b ≤ a.length := by
  obtain ⟨s, h1, h2, h3⟩ := lcs_sub a b; rw [← h3]; exact h1.length_le
theorem lcs_le2 (a b : List α) : lcs a b ≤ b.length := by
  obtain ⟨s, h1, h2, h3⟩ := lcs_sub a b; rw [← h3]; exact h2.length_le
theorem pp {a b c d : Nat} (h : a = c) (k : b = d) : (a, b) = (c, d) := by rw [h, k]
def pairs (i j : Nat) : List α → List α → List (Nat × Nat)
  | x :: a, y :: b => if x = y then (i, j) :: pairs (i + 1) (j + 1) a b else if lcs (x :: a) b ≤ lcs a (y :: b) then pairs (i + 1) j a (y :: b) else pairs i (j + 1) (x :: a) b
  | [], _ => []
  | _ :: _, [] => []
  termination_by a b => a.length + b.length
theorem pairs_nil (i j : Nat) (b : List α) : pairs i j [] b = [] := by rw [pairs]
theorem pairs_nil2 (i j : Nat) (a : List α) : pairs i j a [] = [] := by cases a <;> rw [pairs]
theorem pairs_cons (i j : Nat) (x y : α) (a b : List α) : pairs i j (x :: a) (y :: b) = if x = y then (i, j) :: pairs (i + 1) (j + 1) a b else if lcs (x :: a) b ≤ lcs a (y :: b) then pairs (i + 1) j a (y :: b) else pairs i (j + 1) (x :: a) b := by rw [pairs]
theorem pairs_ind {C : Nat → Nat → List α → List α → Prop} (h0 : ∀ i j b, C i j [] b) (h1 : ∀ i j a, C i j a [])
    (he : ∀ i j x a b, C (i + 1) (j + 1) a b → C i j (x :: a) (x :: b))
    (ha : ∀ i j x y a b, x ≠ y → lcs (x :: a) b ≤ lcs a (y :: b) → C (i + 1) j a (y :: b) → C i j (x :: a) (y :: b))
    (hb : ∀ i j x y a b, x ≠ y → ¬ lcs (x :: a) b ≤ lcs a (y :: b) → C i (j + 1) (x :: a) b → C i j (x :: a) (y :: b)) : ∀ i j (a b : List α), C i j a b := by
  have : ∀ n i j (a b : List α), a.length + b.length ≤ n → C i j a b := by
    intro n
    induction n with
    | zero => intro i j a b h; cases a with
      | nil => exact h0 _ _ _
      | cons _ _ => simp at h
    | succ n ih =>
      intro i j a b h
      cases a with
      | nil => exact h0 _ _ _
      | cons x a => cases b with
        | nil => exact h1 _ _ _
        | cons y b =>
          simp only [List.length_cons] at h
          by_cases e : x = y
          · subst e; exact he _ _ _ _ _ (ih _ _ _ _ (by omega))
          · by_cases l : lcs (x :: a) b ≤ lcs a (y :: b)
            · exact ha _ _ _ _ _ _ e l (ih _ _ _ _ (by simp only [List.length_cons]; omega))
            · exact hb _ _ _ _ _ _ e l (ih _ _ _ _ (by simp only [List.length_cons]; omega))
  exact fun i j a b => this _ i j a b (Nat.le_refl _)
theorem pairs_len (i j : Nat) (a b : List α) : (pairs i j a b).length = lcs a b := by
  refine pairs_ind (C := fun i j a b => (pairs i j a b).length = lcs a b) ?_ ?_ ?_ ?_ ?_ i j a b
  · intros; rw [pairs_nil]; rfl
  · intros; rw [pairs_nil2, lcs_nil2]; rfl
  · intro i j x a b h; rw [pairs_cons, if_pos rfl, lcs_cons, if_pos rfl, List.length_cons, h]
  · intro i j x y a b e l h; rw [pairs_cons, if_neg e, if_pos l, lcs_cons, if_neg e, h]; exact (Nat.max_eq_left l).symm
  · intro i j x y a b e l h; rw [pairs_cons, if_neg e, if_neg l, lcs_cons, if_neg e, h]; exact (Nat.max_eq_right (by omega)).symm
theorem pairs_mem (i j : Nat) (a b : List α) : ∀ p ∈ pairs i j a b, ∃ k l, p = (i + k, j + l) ∧ ∃ x, a[k]? = some x ∧ b[l]? = some x := by
  refine pairs_ind (C := fun i j a b => ∀ p ∈ pairs i j a b, ∃ k l, p = (i + k, j + l) ∧ ∃ x, a[k]? = some x ∧ b[l]? = some x) ?_ ?_ ?_ ?_ ?_ i j a b
  · intro i j b p h; rw [pairs_nil] at h; cases h
  · intro i j a p h; rw [pairs_nil2] at h; cases h
  · intro i j x a b ih p h
    rw [pairs_cons, if_pos rfl] at h
    rcases List.mem_cons.1 h with rfl | h
    · exact ⟨0, 0, rfl, x, rfl, rfl⟩
    · obtain ⟨k, l, rfl, z, h1, h2⟩ := ih p h
      exact ⟨k + 1, l + 1, pp (by omega) (by omega), z, h1, h2⟩
  · intro i j x y a b e l ih p h
    rw [pairs_cons, if_neg e, if_pos l] at h
    obtain ⟨k, l, rfl, z, h1, h2⟩ := ih p h
    exact ⟨k + 1, l, pp (by omega) (by omega), z, h1, h2⟩
  · intro i j x y a b e l ih p h
    rw [pairs_cons, if_neg e, if_neg l] at h
    obtain ⟨k, l, rfl, z, h1, h2⟩ := ih p h
    exact ⟨k, l + 1, pp (by omega) (by omega), z, h1, h2⟩
theorem pairs_ord (i j : Nat) (a b : List α) : (pairs i j a b).Pairwise (fun p q => p.1 < q.1 ∧ p.2 < q.2) := by
  refine pairs_ind (C := fun i j a b => (pairs i j a b).Pairwise (fun p q => p.1 < q.1 ∧ p.2 < q.2)) ?_ ?_ ?_ ?_ ?_ i j a b
  · intros; rw [pairs_nil]; exact List.Pairwise.nil
  · intros; rw [pairs_nil2]; exact List.Pairwise.nil
  · intro i j x a b h; rw [pairs_cons, if_pos rfl]
    refine List.Pairwise.cons (fun p hp => ?_) h
    obtain ⟨k, l, rfl, _⟩ := pairs_mem _ _ _ _ p hp
    exact ⟨by dsimp only; omega, by dsimp only; omega⟩
  · intro i j x y a b e l h; rw [pairs_cons, if_neg e, if_pos l]; exact h
  · intro i j x y a b e l h; rw [pairs_cons, if_neg e, if_neg l]; exact h
end
section
variable {α : Type} [Inhabited α]
theorem nth_set (l : List α) {k : Nat} (h : k < l.length) (m : Nat) (v : α) : nth (l.set k v) (m : Int) = if m = k then v else nth l (m : Int) := by
  unfold nth
  rw [Int.toNat_natCast, List.getD_eq_getElem?_getD, List.getD_eq_getElem?_getD, List.getElem?_set]
  by_cases e : m = k
  · subst e; rw [if_pos rfl, if_pos rfl, if_pos h]; rfl
  · rw [if_neg (fun x => e x.symm), if_neg e]
theorem nth_rep (n m : Nat) (v : α) (h : m < n) : nth (List.replicate n v) (m : Int) = v := by
  rw [nth_nat _ (by simpa using h)]; simp
theorem drop_nth (l : List α) {k : Nat} (h : k < l.length) : l.drop k = nth l (k : Int) :: l.drop (k + 1) := by
  rw [nth_nat l h]; exact List.drop_eq_getElem_cons h
def seg (l : List α) (i j : Nat) : List α := (l.drop i).take (j - i)
theorem seg_len (l : List α) (i j : Nat) (h : j ≤ l.length) : (seg l i j).length = j - i := by
  unfold seg; rw [List.length_take, List.length_drop]; omega
theorem seg_end (l : List α) (i : Nat) : seg l i l.length = l.drop i := List.take_of_length_le (by simp)
theorem seg_app (l : List α) {i j : Nat} (h : i ≤ j) : seg l i j ++ l.drop j = l.drop i := by
  unfold seg
  have : l.drop j = (l.drop i).drop (j - i) := by rw [List.drop_drop]; congr 1; omega
  rw [this, List.take_append_drop]
variable [DecidableEq α]
theorem lcs_drop (a b : List α) {i j : Nat} (hi : i < a.length) (hj : j < b.length) : lcs (a.drop i) (b.drop j) = if nth a (i : Int) = nth b (j : Int) then lcs (a.drop (i + 1)) (b.drop (j + 1)) + 1 else max (lcs (a.drop (i + 1)) (b.drop j)) (lcs (a.drop i) (b.drop (j + 1))) := by
  rw [drop_nth a hi, drop_nth b hj, lcs_cons, ← drop_nth a hi, ← drop_nth b hj]
theorem pairs_drop (a b : List α) {i j : Nat} (hi : i < a.length) (hj : j < b.length) : pairs i j (a.drop i) (b.drop j) = if nth a (i : Int) = nth b (j : Int) then (i, j) :: pairs (i + 1) (j + 1) (a.drop (i + 1)) (b.drop (j + 1)) else if lcs (a.drop i) (b.drop (j + 1)) ≤ lcs (a.drop (i + 1)) (b.drop j) then pairs (i + 1) j (a.drop (i + 1)) (b.drop j) else pairs i (j + 1) (a.drop i) (b.drop (j + 1)) := by
  rw [drop_nth a hi, drop_nth b hj, pairs_cons, ← drop_nth a hi, ← drop_nth b hj]

def pickL (o a b : List α) : Option (List α) := if a = o then some b else if b = o then some a else if a = b then some a else none
theorem pickL_mem {o a b r : List α} (h : pickL o a b = some r) : (∀ z ∈ r, z ∈ a ∨ z ∈ b) ∧ (∀ z ∈ a, z ∈ o ∨ z ∈ r) ∧ (∀ z ∈ b, z ∈ o ∨ z ∈ r) ∧ r.length ≤ a.length + b.length := by
  unfold pickL at h
  by_cases h1 : a = o
  · rw [if_pos h1] at h; cases h; subst h1
    exact ⟨fun z hz => .inr hz, fun z hz => .inl hz, fun z hz => .inr hz, by omega⟩
  · rw [if_neg h1] at h
    by_cases h2 : b = o
    · rw [if_pos h2] at h; cases h; subst h2
      exact ⟨fun z hz => .inl hz, fun z hz => .inr hz, fun z hz => .inl hz, by omega⟩
    · rw [if_neg h2] at h
      by_cases h3 : a = b
      · rw [if_pos h3] at h; cases h; subst h3
        exact ⟨fun z hz => .inl hz, fun z hz => .inr hz, fun z hz => .inr hz, by omega⟩
      · rw [if_neg h3] at h; cases h
def mloop (o a b : List α) (f g : Nat → Option Nat) : Nat → Nat → Nat → Nat → Nat → Option (List α)
  | 0, _, i, j, k => pickL (o.drop i) (a.drop j) (b.drop k)
  | n + 1, at_, i, j, k => match f at_, g at_ with
    | some x, some y => (pickL (seg o i at_) (seg a j x) (seg b k y)).bind fun p => (mloop o a b f g n (at_ + 1) (at_ + 1) (x + 1) (y + 1)).map fun r => p ++ nth o (at_ : Int) :: r
    | _, _ => mloop o a b f g n (at_ + 1) i j k
theorem mloop_zero (o a b : List α) (f g : Nat → Option Nat) (t i j k : Nat) : mloop o a b f g 0 t i j k = pickL (o.drop i) (a.drop j) (b.drop k) := rfl
theorem mloop_some {o a b : List α} {f g : Nat → Option Nat} {n t i j k x y : Nat} (hf : f t = some x) (hg : g t = some y) : mloop o a b f g (n + 1) t i j k = (pickL (seg o i t) (seg a j x) (seg b k y)).bind fun p => (mloop o a b f g n (t + 1) (t + 1) (x + 1) (y + 1)).map fun r => p ++ nth o (t : Int) :: r := by
  rw [mloop, hf, hg]
theorem mloop_none {o a b : List α} {f g : Nat → Option Nat} {n t i j k : Nat} (h : f t = none ∨ g t = none) : mloop o a b f g (n + 1) t i j k = mloop o a b f g n (t + 1) i j k := by
  rw [mloop]
  rcases h with h | h
  · rw [h]
  · rw [h]; cases f t <;> rfl
structure Mates (o a : List α) (f : Nat → Option Nat) : Prop where
  lt : ∀ {t x}, f t = some x → t < o.length ∧ x < a.length
  eq : ∀ {t x}, f t = some x → nth o (t : Int) = nth a (x : Int)
  mono : ∀ {t x u y}, f t = some x → f u = some y → t < u → x < y
def From (f : Nat → Option Nat) (t j : Nat) : Prop := ∀ u x, t ≤ u → f u = some x → j ≤ x
theorem From.zero (f : Nat → Option Nat) (t : Nat) : From f t 0 := fun _ _ _ _ => Nat.zero_le _
theorem From.skip {f : Nat → Option Nat} {t j : Nat} (h : From f t j) : From f (t + 1) j := fun u x hu hx => h u x (by omega) hx
theorem From.step {o a : List α} {f : Nat → Option Nat} (m : Mates o a f) {t x : Nat} (h : f t = some x) : From f (t + 1) (x + 1) := fun u y hu hy => m.mono h hy (by omega)
theorem mem_seg {l : List α} {i j : Nat} {z : α} (h : z ∈ seg l i j) : z ∈ l := List.mem_of_mem_drop (List.mem_of_mem_take h)
theorem mem_split {l : List α} {i j : Nat} (hij : i ≤ j) (hj : j < l.length) {z : α} (h : z ∈ l.drop i) : z ∈ seg l i j ∨ z = nth l (j : Int) ∨ z ∈ l.drop (j + 1) := by
  rw [← seg_app l hij, drop_nth l hj] at h
  rcases List.mem_append.1 h with h | h
  · exact .inl h
  · rcases List.mem_cons.1 h with h | h
    · exact .inr (.inl h)
    · exact .inr (.inr h)
theorem mloop_keep {o a b : List α} {f g : Nat → Option Nat} (mf : Mates o a f) (mg : Mates o b g) (n t i j k : Nat) (hn : t + n = o.length) (hj : From f t j) (hk : From g t k) (r : List α) (h : mloop o a b f g n t i j k = some r) :
    (∀ z ∈ r, z ∈ a ∨ z ∈ b) ∧ (∀ z ∈ a.drop j, z ∈ o ∨ z ∈ r) ∧ (∀ z ∈ b.drop k, z ∈ o ∨ z ∈ r) ∧ r.length ≤ (a.drop j).length + (b.drop k).length := by
  induction n generalizing t i j k r with
  | zero =>
    rw [mloop_zero] at h
    obtain ⟨h1, h2, h3, h4⟩ := pickL_mem h
    exact ⟨fun z hz => (h1 z hz).imp List.mem_of_mem_drop List.mem_of_mem_drop, fun z hz => (h2 z hz).imp List.mem_of_mem_drop id, fun z hz => (h3 z hz).imp List.mem_of_mem_drop id, h4⟩
  | succ n ih =>
    cases hf : f t with
    | none => rw [mloop_none (.inl hf)] at h; exact ih _ _ _ _ (by omega) hj.skip hk.skip _ h
    | some x => cases hg : g t with
      | none => rw [mloop_none (.inr hg)] at h; exact ih _ _ _ _ (by omega) hj.skip hk.skip _ h
      | some y =>
        rw [mloop_some hf hg] at h
        cases hp : pickL (seg o i t) (seg a j x) (seg b k y) with
        | none => rw [hp] at h; cases h
        | some p =>
          rw [hp, Option.bind_some] at h
          cases hr : mloop o a b f g n (t + 1) (t + 1) (x + 1) (y + 1) with
          | none => rw [hr] at h; cases h
          | some q =>
            rw [hr, Option.map_some] at h; cases h
            obtain ⟨h1, h2, h3, h4⟩ := pickL_mem hp
            obtain ⟨g1, g2, g3, g4⟩ := ih _ _ _ _ (by omega) (.step mf hf) (.step mg hg) _ hr
            have hjx := hj t x (Nat.le_refl _) hf
            have hky := hk t y (Nat.le_refl _) hg
            have hx := (mf.lt hf).2
            have hy := (mg.lt hg).2
            have ex := mf.eq hf
            have ey := mg.eq hg
            refine ⟨fun z hz => ?_, fun z hz => ?_, fun z hz => ?_, ?_⟩
            · rcases List.mem_append.1 hz with hz | hz
              · exact (h1 z hz).imp mem_seg mem_seg
              · rcases List.mem_cons.1 hz with rfl | hz
                · rw [ex]; exact .inl (nth_mem a hx)
                · exact g1 z hz
            · rcases mem_split hjx hx hz with hz | rfl | hz
              · exact (h2 z hz).imp mem_seg (fun h => List.mem_append_left _ h)
              · exact .inr (List.mem_append_right _ (by rw [ex]; exact List.mem_cons_self))
              · exact (g2 z hz).imp id (fun h => List.mem_append_right _ (List.mem_cons_of_mem _ h))
            · rcases mem_split hky hy hz with hz | rfl | hz
              · exact (h3 z hz).imp mem_seg (fun h => List.mem_append_left _ h)
              · exact .inr (List.mem_append_right _ (by rw [ey]; exact List.mem_cons_self))
              · exact (g3 z hz).imp id (fun h => List.mem_append_right _ (List.mem_cons_of_mem _ h))
            · rw [seg_len a _ _ (by omega), seg_len b _ _ (by omega)] at h4
              simp only [List.length_append, List.length_cons, List.length_drop] at g4 ⊢
              omega
end
end
def few (a b : List Pt) : Bool := decide (a.length ≤ 12) && decide (b.length ≤ 12)
theorem few_iff {a b : List Pt} : few a b = true ↔ a.length ≤ 12 ∧ b.length ≤ 12 := by simp [few]
theorem few_not {a b : List Pt} : few a b = false ↔ ¬ (a.length ≤ 12 ∧ b.length ≤ 12) := by rw [← few_iff]; simp
def slen (a b : List Pt) : Int := if few a b then (lcs a b : Nat) else 0
def mkP (p : Nat × Nat) : Pair := ⟨p.1, p.2⟩
def spairs (a b : List Pt) : List Pair := if few a b then (pairs 0 0 a b).map mkP else []
theorem spairs_few {a b : List Pt} (h : few a b = true) : spairs a b = (pairs 0 0 a b).map mkP := by unfold spairs; rw [if_pos h]
theorem spairs_len (a b : List Pt) : ((spairs a b).length : Int) = slen a b := by
  unfold spairs slen
  by_cases h : few a b = true
  · rw [if_pos h, if_pos h, List.length_map, pairs_len]
  · rw [if_neg h, if_neg h]; rfl
theorem slen_le (a b : List Pt) : 0 ≤ slen a b ∧ slen a b ≤ a.length ∧ slen a b ≤ b.length ∧ slen a b ≤ 12 := by
  unfold slen
  by_cases h : few a b = true
  · have := few_iff.1 h
    have h1 := lcs_le1 a b; have h2 := lcs_le2 a b
    rw [if_pos h]; omega
  · rw [if_neg h]; omega
def Tab (a b : List Pt) (D : Nat → Nat → Prop) (t : List (List Int)) : Prop := t.length = a.length + 1 ∧ ∀ r : Nat, r ≤ a.length → (nth t (r : Int)).length = b.length + 1 ∧ ∀ m : Nat, m ≤ b.length → D r m → nth (nth t (r : Int)) (m : Int) = (lcs (a.drop r) (b.drop m) : Nat)
theorem Tab.set {a b : List Pt} {D : Nat → Nat → Prop} {t : List (List Int)} (h : Tab a b D t) {i j : Nat} (hi : i ≤ a.length) (hj : j ≤ b.length) {v : Int} (hv : v = (lcs (a.drop i) (b.drop j) : Nat)) {D' : Nat → Nat → Prop} (hD : ∀ r m, D' r m → D r m ∨ (r = i ∧ m = j)) :
    Tab a b D' (t.set i ((nth t (i : Int)).set j v)) := by
  obtain ⟨h1, h2⟩ := h
  refine ⟨by rw [List.length_set]; exact h1, fun r hr => ?_⟩
  rw [nth_set _ (by omega)]
  by_cases e : r = i
  · subst e
    rw [if_pos rfl]
    refine ⟨by rw [List.length_set]; exact (h2 r hr).1, fun m hm hd => ?_⟩
    rw [nth_set _ (by rw [(h2 r hr).1]; omega)]
    by_cases f : m = j
    · subst f; rw [if_pos rfl, hv]
    · rw [if_neg f]
      exact (h2 r hr).2 m hm ((hD r m hd).resolve_right fun x => f x.2)
  · rw [if_neg e]
    exact ⟨(h2 r hr).1, fun m hm hd => (h2 r hr).2 m hm ((hD r m hd).resolve_right fun x => e x.1)⟩
def mateI (l : List Pair) (k : Int) : Int := match l with
  | [] => -1
  | p :: l => if p.A == k then p.B else mateI l k
theorem mateI_nil (k : Int) : mateI [] k = -1 := rfl
theorem mateI_cons (p : Pair) (l : List Pair) (k : Int) : mateI (p :: l) k = if p.A == k then p.B else mateI l k := rfl
def mateN (l : List (Nat × Nat)) (k : Nat) : Option Nat := match l with
  | [] => none
  | p :: l => if p.1 = k then some p.2 else mateN l k
theorem mateI_mk (l : List (Nat × Nat)) (k : Nat) : mateI (l.map mkP) (k : Int) = match mateN l k with | some x => (x : Int) | none => -1 := by
  induction l with
  | nil => rfl
  | cons p l ih =>
    rw [List.map_cons, mateI_cons, mateN]
    by_cases h : p.1 = k
    · rw [if_pos (by simp [mkP, h]), if_pos h]; rfl
    · rw [if_neg (by simp [mkP]; omega), if_neg h, ih]
theorem mateN_mem {l : List (Nat × Nat)} {k x : Nat} (h : mateN l k = some x) : (k, x) ∈ l := by
  induction l with
  | nil => cases h
  | cons p l ih =>
    rw [mateN] at h
    by_cases e : p.1 = k
    · rw [if_pos e] at h; cases h; subst e; exact List.mem_cons_self
    · rw [if_neg e] at h; exact List.mem_cons_of_mem _ (ih h)
def part (o a : List Pt) : Nat → Option Nat := mateN (pairs 0 0 o a)
theorem part_mates (o a : List Pt) : Mates o a (part o a) := by
  have hm : ∀ {t x}, part o a t = some x → ∃ z, o[t]? = some z ∧ a[x]? = some z := fun {t x} h => by
    obtain ⟨k, l, e, z, h1, h2⟩ := pairs_mem 0 0 o a _ (mateN_mem h)
    rw [Nat.zero_add, Nat.zero_add] at e; cases e
    exact ⟨z, h1, h2⟩
  refine ⟨fun {t x} h => ?_, fun {t x} h => ?_, fun {t x u y} h1 h2 hu => ?_⟩
  · obtain ⟨z, h1, h2⟩ := hm h
    exact ⟨(List.getElem?_eq_some_iff.1 h1).1, (List.getElem?_eq_some_iff.1 h2).1⟩
  · obtain ⟨z, h1, h2⟩ := hm h
    obtain ⟨e1, e2⟩ := List.getElem?_eq_some_iff.1 h1
    obtain ⟨e3, e4⟩ := List.getElem?_eq_some_iff.1 h2
    rw [nth_nat _ e1, nth_nat _ e3, e2, e4]
  · have ho := pairs_ord 0 0 o a
    have m1 := mateN_mem h1; have m2 := mateN_mem h2
    generalize pairs 0 0 o a = l at ho m1 m2
    induction l with
    | nil => cases m1
    | cons p l ih =>
      obtain ⟨q1, q2⟩ := List.pairwise_cons.1 ho
      rcases List.mem_cons.1 m1 with e1 | n1
      · rcases List.mem_cons.1 m2 with e2 | n2
        · subst e1; cases e2; omega
        · subst e1; exact (q1 _ n2).2
      · rcases List.mem_cons.1 m2 with e2 | n2
        · subst e2; have := (q1 _ n1).1; dsimp only at this; omega
        · exact ih q2 n1 n2
def smerge (o a b : List Pt) : Option (List Pt) := if few o a && few o b then mloop o a b (part o a) (part o b) o.length 0 0 0 0 else none
theorem smerge_few {o a b : List Pt} (h1 : few o a = true) (h2 : few o b = true) : smerge o a b = mloop o a b (part o a) (part o b) o.length 0 0 0 0 := by unfold smerge; rw [h1, h2]; rfl
theorem smerge_not {o a b : List Pt} (h : few o a = false ∨ few o b = false) : smerge o a b = none := by
  unfold smerge; rcases h with h | h <;> rw [h] <;> simp
theorem smerge_keep {o a b r : List Pt} (h : smerge o a b = some r) : (∀ z ∈ r, z ∈ a ∨ z ∈ b) ∧ (∀ z ∈ a, z ∈ o ∨ z ∈ r) ∧ (∀ z ∈ b, z ∈ o ∨ z ∈ r) ∧ r.length ≤ a.length + b.length := by
  unfold smerge at h
  by_cases hf : (few o a && few o b) = true
  · rw [if_pos hf] at h
    exact mloop_keep (part_mates o a) (part_mates o b) _ _ _ _ _ (by omega) (From.zero _ _) (From.zero _ _) _ h
  · rw [if_neg hf] at h; cases h
theorem smerge_len {o a b r : List Pt} (h : smerge o a b = some r) : r.length ≤ 24 := by
  have h1 := (smerge_keep h).2.2.2
  unfold smerge at h
  by_cases hf : (few o a && few o b) = true
  · rw [Bool.and_eq_true, few_iff, few_iff] at hf; omega
  · rw [if_neg hf] at h; cases h
theorem F24.law (b : List UInt8) (p : Int) (l : List Int) (Q : Int → Int → Prop) (hb : b.length ≤ 2000) (hp : 0 ≤ p) (hp1 : p ≤ 1099511627776) (hl : 0 < l.length) (hq : ∀ s ∈ l, Q s (p + 1)) : F24.E b p l Q := by
 unfold F24.E
 exact F15.law _ _ _ _ hb hp hp1 fun v h0 h1 => ⟨by omega, hq _ (nth_memi l h0 (by omega))⟩
def allN (n : Nat) (c : Nat → Bool) : Bool := (List.range n).all c
theorem allN_true {n : Nat} {c : Nat → Bool} (h : ∀ j, j < n → c j = true) : allN n c = true := by
  unfold allN; rw [List.all_eq_true]; intro j hj; exact h j (List.mem_range.1 hj)
theorem allN_false {n k : Nat} {c : Nat → Bool} (hk : k < n) (h : c k = false) : allN n c = false := by
  unfold allN
  rw [Bool.eq_false_iff]; intro ha
  rw [List.all_eq_true] at ha
  rw [ha k (List.mem_range.2 hk)] at h; cases h
theorem allN_iff {n : Nat} {c : Nat → Bool} : allN n c = true ↔ ∀ j, j < n → c j = true := by
  unfold allN; rw [List.all_eq_true]; exact ⟨fun h j hj => h j (List.mem_range.2 hj), fun h j hj => h j (List.mem_range.1 hj)⟩
theorem loop_all (n : Nat) (c : Nat → Bool) {B : (Int → Prop) → (Int → Nat) → Int → Prop} {F : Prop}
    (hs : ∀ (I : Int → Prop) (mu : Int → Nat) (k : Nat), k < n → (∀ j, j < k → c j = true) → (c k = true → I ((k : Int) + 1) ∧ mu ((k : Int) + 1) < mu (k : Int)) → B I mu (k : Int))
    (hF : (∀ j, j < n → c j = true) → F) :
    ∃ (I : Int → Prop) (mu : Int → Nat), I 0 ∧ ∀ (i : Int), I i → (if decide (i < (n : Int)) then B I mu i else F) := by
  refine ⟨fun i => ∃ k : Nat, i = k ∧ k ≤ n ∧ ∀ j, j < k → c j = true, fun i => ((n : Int) - i).toNat, ⟨0, rfl, Nat.zero_le _, fun j hj => absurd hj (Nat.not_lt_zero _)⟩, ?_⟩
  rintro _ ⟨k, rfl, hk, ha⟩
  by_cases h : (k : Int) < (n : Int)
  · rw [if_pos (by simpa using h)]
    refine hs _ _ k (by omega) ha fun hc => ⟨⟨k + 1, by omega, by omega, fun j hj => ?_⟩, by omega⟩
    by_cases e : j = k
    · subst e; exact hc
    · exact ha j (by omega)
  · rw [if_neg (by simpa using h)]
    exact hF fun j hj => ha j (by omega)
theorem less_irr : ∀ a : Str, Op.bytesLess a a = false
  | [] => rfl
  | x :: a => by rw [Op.bytesLess]; simp [less_irr a]
theorem less_tri : ∀ a b : Str, (!(Op.bytesLess a b)) = (Op.bytesLess b a || b == a)
  | [], [] => rfl
  | [], y :: b => rfl
  | x :: a, [] => rfl
  | x :: a, y :: b => by
    rw [Op.bytesLess, Op.bytesLess]
    have h := less_tri a b
    by_cases h1 : x < y
    · have h2 : ¬ y < x := fun h => absurd (UInt8.lt_trans h1 h) (UInt8.lt_irrefl _)
      have h3 : ¬ y = x := fun e => by subst e; exact UInt8.lt_irrefl _ h1
      simp [h1, h2, h3]
    · by_cases h2 : y < x
      · have h3 : ¬ x = y := fun e => by subst e; exact UInt8.lt_irrefl _ h2
        simp [h1, h2, h3]
      · have h3 : x = y := UInt8.le_antisymm (UInt8.not_lt.1 h2) (UInt8.not_lt.1 h1)
        subst h3
        simp only [h1, decide_false, Bool.false_or, beq_self_eq_true, Bool.true_and]
        rw [h]
        congr 1
        rw [Bool.eq_iff_iff, beq_iff_eq, beq_iff_eq]
        simp
def byteOk (b : UInt8) : Bool := !(decide ((b.toNat : Int) < 97)) && !(decide ((b.toNat : Int) > 122))
def wordOk (s : Str) : Bool := allN s.length (fun k => byteOk (nth s (k : Int))) && (decide (1 ≤ s.length) && decide (s.length ≤ 6))
def inR (x : Int) : Bool := decide (-1000 ≤ x) && decide (x ≤ 1000)
def ptOk (p : Pt) : Bool := inR p.X && inR p.Y
def ptsOk (p : List Pt) : Bool := allN p.length fun k => ptOk (nth p (k : Int)) && (decide (k = 0) || !(decide (nth p ((k : Int) - 1) = nth p (k : Int))))
def kindOk (kind : Int) (p : List Pt) : Bool :=
  if kind = 1 then decide (p.length = 1) else if kind = 2 then decide (2 ≤ p.length) && decide (p.length ≤ 6)
  else if kind = 3 then decide (3 ≤ p.length) && decide (p.length ≤ 6) && !(decide (nth p 0 = nth p ((p.length : Int) - 1))) else false
def shapeOk (s : Shape) : Bool := ptsOk s.Pts && kindOk s.Kind s.Pts
def tagsOk (t : List Tag) : Bool := allN t.length fun k => wordOk (nth t (k : Int)).Key && wordOk (nth t (k : Int)).Val && (decide (k = 0) || Op.bytesLess (nth t ((k : Int) - 1)).Key (nth t (k : Int)).Key)
def featOk (f : Feat) : Bool := tagsOk f.Tags && decide (f.Tags.length ≤ 4) && wordOk f.Id && shapeOk f.Shape
def noF (f : Feat) : Bool := decide (f = ⟨[], ⟨0, []⟩, []⟩)
def sideOk (id : Str) (has : Bool) (f : Feat) : Bool := if has then featOk f && decide (f.Id = id) else noF f
def sameC (c : Change) : Bool := decide (c.Had = c.Has) && decide (c.Was = c.Now)
def changeOk (c : Change) : Bool := wordOk c.Id && sideOk c.Id c.Had c.Was && sideOk c.Id c.Has c.Now && !(sameC c)
def sheetOk (s : List Feat) : Bool := allN s.length (fun k => featOk (nth s (k : Int)) && (decide (k = 0) || Op.bytesLess (nth s ((k : Int) - 1)).Id (nth s (k : Int)).Id)) && decide (s.length ≤ 8)
theorem Feat.ext_iff' (a b : Feat) : a = b ↔ a.Id = b.Id ∧ a.Shape = b.Shape ∧ a.Tags = b.Tags := by cases a; cases b; simp
theorem Shape.ext_iff' (a b : Shape) : a = b ↔ a.Kind = b.Kind ∧ a.Pts = b.Pts := by cases a; cases b; simp
theorem F105.law (b : List UInt8) (p : Int) (Q : Pt → Int → Prop) (hb : b.length ≤ 2000) (hp : 0 ≤ p) (hp1 : p ≤ 1000000000) (hq : ∀ x y, 0 ≤ x → x ≤ 3 → 0 ≤ y → y ≤ 5 → Q ⟨x, y⟩ (p + 2)) : F105.E b p Q := by
 unfold F105.E
 refine F15.law _ _ _ _ hb hp (by omega) fun v h0 h1 => F24.law _ _ _ _ hb (by omega) (by omega) (by decide) fun y hy => ?_
 rw [show p + 1 + 1 = p + 2 by omega]
 simp only [List.mem_cons, List.not_mem_nil, or_false] at hy
 exact hq _ _ h0 (by omega) (by omega) (by omega)
theorem F91.m_is (a b : Int) : F91.m a b = min a b := by
 unfold F91.m
 by_cases h : a < b
 ·simp [h]; omega
 ·simp [h]; omega
theorem F92.m_is (n : Int) : F92.m n = inR n := by
 unfold F92.m inR
 by_cases h : -1000 ≤ n
 ·rw [if_pos (by rw [decide_eq_true_eq]; omega), decide_eq_true h, Bool.true_and]
 ·rw [if_neg (by rw [decide_eq_true_eq]; omega), decide_eq_false h, Bool.false_and]
theorem F93.law (p : List Pt) (Q : Bool → Prop) (hq : Q (ptsOk p && decide (p.length ≤ 6))) : F93.E p Q := by
 unfold F93.E
 unfold ptsOk at hq
 refine loop_all p.length (fun k => ptOk (nth p (k : Int)) && (decide (k = 0) || !(decide (nth p ((k : Int) - 1) = nth p (k : Int))))) (fun I mu k hk hp hn => ?_) (fun ha => ?_)
 ·refine ⟨by omega, ?_⟩
  rw [F92.m_is, F92.m_is]
  have bad : (ptOk (nth p (k : Int)) && (decide (k = 0) || !(decide (nth p ((k : Int) - 1) = nth p (k : Int))))) = false → Q false := fun h => by
   rw [allN_false hk h, Bool.false_and] at hq; exact hq
  cases h1 : inR (nth p (k : Int)).X with
  | false => rw [if_pos (by decide)]; exact bad (by simp only [ptOk, h1, Bool.false_and])
  | true =>
   rw [if_neg (by decide)]
   refine ⟨by omega, ?_⟩
   cases h2 : inR (nth p (k : Int)).Y with
   | false => rw [if_pos (by decide)]; exact bad (by simp only [ptOk, h2, Bool.and_false, Bool.false_and])
   | true =>
    rw [if_neg (by decide)]
    have hpt : ptOk (nth p (k : Int)) = true := by simp only [ptOk, h1, h2, Bool.and_self]
    by_cases hk0 : k = 0
    ·rw [if_neg (by rw [decide_eq_true_eq]; omega)]
     obtain ⟨i1, i2⟩ := hn (by rw [hpt, decide_eq_true hk0]; rfl)
     exact ⟨by omega, i1, i2⟩
    ·rw [if_pos (by rw [decide_eq_true_eq]; omega)]
     refine ⟨by omega, fun _ => by unfold I64; omega, by omega, ?_⟩
     rw [eqPt_is]
     by_cases he : nth p ((k : Int) - 1) = nth p (k : Int)
     ·rw [if_pos (by rw [decide_eq_true_eq]; exact he.symm)]
      exact bad (by rw [hpt, decide_eq_false hk0, decide_eq_true he]; rfl)
     ·rw [if_neg (by rw [decide_eq_true_eq]; exact fun e => he e.symm)]
      obtain ⟨i1, i2⟩ := hn (by rw [hpt, decide_eq_false hk0, decide_eq_false he]; rfl)
      exact ⟨by omega, i1, i2⟩
 ·rw [allN_true ha, Bool.true_and] at hq
  have e2 : decide ((p.length : Int) ≤ 6) = decide (p.length ≤ 6) := decide_eq_decide.2 (by omega)
  rw [e2]; exact hq
theorem F45.law (s : Shape) (Q : Bool → Prop) (hq : Q (shapeOk s)) : F45.E s Q := by
 unfold F45.E
 unfold shapeOk at hq
 refine F93.law _ _ ?_
 cases h1 : ptsOk s.Pts with
 | false => rw [h1, Bool.false_and] at hq; rw [Bool.false_and, if_pos (by decide)]; exact hq
 | true =>
  rw [h1, Bool.true_and] at hq
  rw [Bool.true_and]
  unfold kindOk at hq
  by_cases h6 : s.Pts.length ≤ 6
  ·rw [decide_eq_true h6, if_neg (by decide)]
   by_cases k1 : s.Kind = 1
   ·rw [if_pos k1] at hq
    rw [if_pos (by rw [beq_iff_eq]; exact k1)]
    have : ((s.Pts.length : Int) == 1) = decide (s.Pts.length = 1) := by rw [Bool.eq_iff_iff, beq_iff_eq, decide_eq_true_eq]; omega
    rw [this]; exact hq
   rw [if_neg k1] at hq
   rw [if_neg (by rw [beq_iff_eq]; exact k1)]
   by_cases k2 : s.Kind = 2
   ·rw [if_pos k2, decide_eq_true h6, Bool.and_true] at hq
    rw [if_pos (by rw [beq_iff_eq]; exact k2)]
    have : decide ((s.Pts.length : Int) ≥ 2) = decide (2 ≤ s.Pts.length) := decide_eq_decide.2 (by omega)
    rw [this]; exact hq
   rw [if_neg k2] at hq
   rw [if_neg (by rw [beq_iff_eq]; exact k2)]
   by_cases k3 : s.Kind = 3
   ·rw [if_pos k3, decide_eq_true h6, Bool.and_true] at hq
    rw [if_pos (by rw [beq_iff_eq]; exact k3)]
    by_cases h3 : 3 ≤ s.Pts.length
    ·rw [decide_eq_true h3, Bool.true_and] at hq
     rw [if_pos (by rw [decide_eq_true_eq]; omega), eqPt_is]
     exact ⟨by omega, fun _ => by unfold I64; omega, by omega, hq⟩
    ·rw [decide_eq_false h3, Bool.false_and] at hq
     rw [if_neg (by rw [decide_eq_true_eq]; omega)]; exact hq
   ·rw [if_neg k3] at hq
    rw [if_neg (by rw [beq_iff_eq]; exact k3)]; exact hq
  ·rw [decide_eq_false h6, if_pos (by decide)]
   have : (if s.Kind = 1 then decide (s.Pts.length = 1) else if s.Kind = 2 then decide (2 ≤ s.Pts.length) && decide (s.Pts.length ≤ 6)
 else if s.Kind = 3 then decide (3 ≤ s.Pts.length) && decide (s.Pts.length ≤ 6) && !(decide (nth s.Pts 0 = nth s.Pts ((s.Pts.length : Int) - 1))) else false) = false := by
    rw [decide_eq_false h6, decide_eq_false (show ¬ s.Pts.length = 1 by omega)]
    simp
   rw [this] at hq; exact hq
section
def findN (n : Nat) (c : Nat → Bool) : Int := match (List.range n).find? c with | some k => (k : Int) | none => -1
theorem findN_hit {n k : Nat} {c : Nat → Bool} (hk : k < n) (h : c k = true) (hp : ∀ j, j < k → c j = false) : findN n c = (k : Int) := by
  unfold findN
  have : (List.range n).find? c = some k := by
    rw [List.find?_range_eq_some]
    exact ⟨h, List.mem_range.2 hk, fun j hj => by rw [hp j hj]; rfl⟩
  rw [this]
theorem findN_none {n : Nat} {c : Nat → Bool} (h : ∀ j, j < n → c j = false) : findN n c = -1 := by
  unfold findN
  have : (List.range n).find? c = none := by
    rw [List.find?_eq_none]; intro j hj; rw [h j (List.mem_range.1 hj)]; exact Bool.false_ne_true
  rw [this]
theorem findN_le (n : Nat) (c : Nat → Bool) : -1 ≤ findN n c ∧ findN n c < n := by
  unfold findN
  cases h : (List.range n).find? c with
  | none => exact ⟨Int.le_refl _, by dsimp only; omega⟩
  | some k => have := List.mem_range.1 (List.mem_of_find?_eq_some h); exact ⟨by dsimp only; omega, by dsimp only; omega⟩
theorem loop_find (n : Nat) (c : Nat → Bool) {B : (Int → Prop) → (Int → Nat) → Int → Prop} {Q : Int → Prop} (hq : Q (findN n c))
    (hs : ∀ (I : Int → Prop) (mu : Int → Nat) (k : Nat), k < n → (c k = true → Q (k : Int)) → (c k = false → I ((k : Int) + 1) ∧ mu ((k : Int) + 1) < mu (k : Int)) → B I mu (k : Int)) :
    ∃ (I : Int → Prop) (mu : Int → Nat), I 0 ∧ ∀ (i : Int), I i → (if decide (i < (n : Int)) then B I mu i else Q (-1)) := by
  refine loop_all n (fun k => !(c k)) (fun I mu k hk hp hn => hs I mu k hk (fun h => ?_) (fun h => hn (by rw [h]; rfl))) (fun ha => ?_)
  · rw [findN_hit hk h (fun j hj => by have := hp j hj; rwa [Bool.not_eq_true'] at this)] at hq; exact hq
  · rw [findN_none (fun j hj => by have := ha j hj; rwa [Bool.not_eq_true'] at this)] at hq; exact hq
section
variable {α : Type} [Inhabited α] [DecidableEq α]
end
end
section
theorem less_trans : ∀ {a b c : Str}, Op.bytesLess a b = true → Op.bytesLess b c = true → Op.bytesLess a c = true
  | _, _, [], _, h => by rename_i b _; cases b <;> simp [Op.bytesLess] at h
  | _, [], _ :: _, h, _ => by rename_i a _ _ _; cases a <;> simp [Op.bytesLess] at h
  | [], _ :: _, _ :: _, _, _ => by simp [Op.bytesLess]
  | x :: a, y :: b, z :: c, h1, h2 => by
    rw [Op.bytesLess] at h1 h2 ⊢
    simp only [Bool.or_eq_true, Bool.and_eq_true, decide_eq_true_eq, beq_iff_eq] at h1 h2 ⊢
    rcases h1 with h1 | ⟨rfl, h1⟩
    · rcases h2 with h2 | ⟨rfl, h2⟩
      · exact .inl (UInt8.lt_trans h1 h2)
      · exact .inl h1
    · rcases h2 with h2 | ⟨rfl, h2⟩
      · exact .inl h2
      · exact .inr ⟨rfl, less_trans h1 h2⟩
theorem less_asym {a b : Str} (h : Op.bytesLess a b = true) : Op.bytesLess b a = false := by
  cases e : Op.bytesLess b a with
  | false => rfl
  | true => have := less_trans h e; rw [less_irr] at this; cases this
theorem less_or {a b : Str} (h : Op.bytesLess a b = false) : Op.bytesLess b a = true ∨ b = a := by
  have := less_tri a b
  rw [h] at this
  simpa using this.symm
def SS (l : List Str) : Prop := l.Pairwise fun x y => Op.bytesLess x y = true
theorem SS.ext : ∀ {l m : List Str}, SS l → SS m → (∀ x, x ∈ l ↔ x ∈ m) → l = m
  | [], [], _, _, _ => rfl
  | [], y :: m, _, _, h => by have := (h y).2 List.mem_cons_self; cases this
  | x :: l, [], _, _, h => by have := (h x).1 List.mem_cons_self; cases this
  | x :: l, y :: m, hl, hm, h => by
    obtain ⟨l1, l2⟩ := List.pairwise_cons.1 hl
    obtain ⟨m1, m2⟩ := List.pairwise_cons.1 hm
    have e : x = y := by
      rcases List.mem_cons.1 ((h x).1 List.mem_cons_self) with e | e
      · exact e
      · rcases List.mem_cons.1 ((h y).2 List.mem_cons_self) with e' | e'
        · exact e'.symm
        · have := less_trans (m1 x e) (l1 y e'); rw [less_irr] at this; cases this
    subst e
    rw [SS.ext l2 m2 fun z => ⟨fun hz => ?_, fun hz => ?_⟩]
    · rcases List.mem_cons.1 ((h z).1 (List.mem_cons_of_mem _ hz)) with e | e
      · subst e; have := l1 z hz; rw [less_irr] at this; cases this
      · exact e
    · rcases List.mem_cons.1 ((h z).2 (List.mem_cons_of_mem _ hz)) with e | e
      · subst e; have := m1 z hz; rw [less_irr] at this; cases this
      · exact e
theorem le_less (x y : Str) : decide (x ≤ y) = !(Op.bytesLess y x) := by
  rw [bytesLess_eq]
  by_cases h : y < x
  · rw [decide_eq_true h, decide_eq_false (by rw [List.not_le]; exact h)]; rfl
  · rw [decide_eq_false h, decide_eq_true (List.not_lt.1 h)]; rfl
theorem sortS_le (l : List Str) : (sortS l).Pairwise fun x y => Op.bytesLess y x = false := by
  have h := List.pairwise_mergeSort (le := fun x y : Str => decide (x ≤ y)) (fun a b c h1 h2 => by
    rw [le_less, Bool.not_eq_true'] at h1 h2 ⊢
    cases e : Op.bytesLess c a with
    | false => rfl
    | true =>
      rcases less_or h1 with h3 | h3
      · have := less_trans e h3; rw [h2] at this; cases this
      · subst h3; rw [h2] at e; cases e) (fun a b => by
    rw [le_less, le_less]
    cases e : Op.bytesLess b a with
    | false => rfl
    | true => rw [less_asym e]; rfl) l
  exact h.imp fun {x y} h => by rw [le_less, Bool.not_eq_true'] at h; exact h
theorem sortS_mem {l : List Str} {x : Str} : x ∈ sortS l ↔ x ∈ l := List.mem_mergeSort
section
open Go.Lib
theorem compact_of (l : List Str) (h : l.Pairwise fun x y => Op.bytesLess y x = false) : SS (compact l) ∧ ∀ x, x ∈ compact l ↔ x ∈ l := by
  have hle : ∀ i j, i ≤ j → j < l.length → Op.bytesLess (l.toArray[j]!) (l.toArray[i]!) = false := fun i j hij hj => by
    have hi : i < l.length := by omega
    simp only [List.getElem!_toArray, getElem!_pos l i hi, getElem!_pos l j hj]
    rcases Nat.lt_or_eq_of_le hij with hlt | rfl
    · exact List.pairwise_iff_getElem.1 h i j hi hj hlt
    · exact less_irr _
  constructor
  · unfold compact compactUpTo SS
    rw [List.pairwise_map, List.pairwise_filter]
    refine List.pairwise_iff_getElem.2 fun i j hi hj hij => ?_
    simp only [List.length_range] at hi hj
    simp only [List.getElem_range]
    intro _ hk
    have hj0 : 0 < j := by omega
    have hne : l.toArray[j]! ≠ l.toArray[j - 1]! := fun e => by rw [keeps_neg hj0 e] at hk; cases hk
    have h1 : Op.bytesLess (l.toArray[j - 1]!) (l.toArray[j]!) = true := by
      rcases less_or (hle (j - 1) j (by omega) hj) with h2 | h2
      · exact h2
      · exact absurd h2.symm hne
    rcases less_or (hle i (j - 1) (by omega) (by omega)) with h3 | h3
    · exact less_trans h3 h1
    · rw [h3]; exact h1
  · intro x
    constructor
    · exact compact_mem
    · intro hx
      obtain ⟨k, hk, rfl⟩ := List.getElem_of_mem hx
      have key : ∀ k, k < l.length → l.toArray[k]! ∈ compact l := by
        intro k
        induction k using Nat.strongRecOn with
        | _ k ih =>
          intro hk
          cases e : keeps l.toArray k with
          | true =>
            unfold compact compactUpTo
            exact List.mem_map.2 ⟨k, List.mem_filter.2 ⟨List.mem_range.2 hk, e⟩, rfl⟩
          | false =>
            have hk0 : 0 < k := by
              rcases Nat.eq_zero_or_pos k with h0 | h0
              · subst h0; rw [keeps_lt_one _ 0 (by omega)] at e; cases e
              · exact h0
            have he : l.toArray[k]! = l.toArray[k - 1]! := Classical.byContradiction fun hne => by rw [keeps_pos hne] at e; cases e
            rw [he]; exact ih (k - 1) (by omega) (by omega)
      have := key k hk
      simpa [getElem!_pos l k hk] using this
end
def uniq (l : List Str) : List Str := Lib.compact (sortS l)
theorem uniq_ss (l : List Str) : SS (uniq l) := (compact_of _ (sortS_le l)).1
theorem uniq_mem {l : List Str} {x : Str} : x ∈ uniq l ↔ x ∈ l := ((compact_of _ (sortS_le l)).2 x).trans sortS_mem
def ids (s : List Feat) : List Str := s.map (·.Id)
theorem sheet_ss {s : List Feat} (h : sheetOk s = true) : SS (ids s) ∧ s.length ≤ 8 ∧ ∀ f ∈ s, featOk f = true := by
  unfold sheetOk at h
  simp only [Bool.and_eq_true, decide_eq_true_eq] at h
  obtain ⟨h1, h2⟩ := h
  have h1 := allN_iff.1 h1
  have hadj : ∀ k, 0 < k → k < s.length → Op.bytesLess (nth s ((k : Int) - 1)).Id (nth s (k : Int)).Id = true := fun k h0 hk => by
    have := h1 k hk
    simp only [Bool.and_eq_true, Bool.or_eq_true, decide_eq_true_eq] at this
    rcases this.2 with h | h
    · omega
    · exact h
  refine ⟨?_, h2, fun f hf => ?_⟩
  · unfold SS ids
    rw [List.pairwise_map]
    refine List.pairwise_iff_getElem.2 fun i j hi hj hij => ?_
    have key : ∀ d, i + d + 1 < s.length → Op.bytesLess s[i].Id (nth s ((i + d + 1 : Nat) : Int)).Id = true := by
      intro d
      induction d with
      | zero =>
        intro hd
        have := hadj (i + 0 + 1) (by omega) hd
        rw [show (((i + 0 + 1 : Nat) : Int) - 1) = (i : Int) by omega, nth_nat s hi] at this
        exact this
      | succ d ih =>
        intro hd
        have := hadj (i + (d + 1) + 1) (by omega) hd
        rw [show (((i + (d + 1) + 1 : Nat) : Int) - 1) = ((i + d + 1 : Nat) : Int) by omega] at this
        exact less_trans (ih (by omega)) this
    have := key (j - i - 1) (by omega)
    rw [show i + (j - i - 1) + 1 = j by omega, nth_nat s hj] at this
    exact this
  · obtain ⟨k, hk, rfl⟩ := List.getElem_of_mem hf
    have := h1 k hk
    rw [nth_nat s hk] at this
    simp only [Bool.and_eq_true] at this
    exact this.1
theorem word_len {s : Str} (h : wordOk s = true) : s.length ≤ 6 := by
  unfold wordOk at h
  simp only [Bool.and_eq_true, decide_eq_true_eq] at h
  exact h.2.2
theorem bulk_small {α : Type} [Bulk α] (l : List α) (m : Nat) (h : ∀ x ∈ l, bulk x ≤ m) : bulk l ≤ l.length * (m + 1) := by
  induction l with
  | nil => exact Nat.zero_le _
  | cons x l ih =>
    have h1 := h x List.mem_cons_self
    have h2 := ih fun y hy => h y (List.mem_cons_of_mem _ hy)
    rw [bulk_cons, List.length_cons, Nat.add_mul]
    omega
theorem feat_small {f : Feat} (h : featOk f = true) : bulk f ≤ 100 ∧ f.Id.length ≤ 6 := by
  unfold featOk at h
  simp only [Bool.and_eq_true, decide_eq_true_eq] at h
  obtain ⟨⟨⟨h1, h2⟩, h3⟩, h4⟩ := h
  have hi := word_len h3
  have e1 : bulk f = bulk f.Id + (bulk f.Shape.Kind + bulk f.Shape.Pts) + bulk f.Tags := rfl
  have e2 : bulk f.Id = f.Id.length := bulk_str _
  have e3 : bulk f.Shape.Kind = 0 := rfl
  have e4 : bulk f.Shape.Pts = f.Shape.Pts.length := bulk_flat (fun _ => rfl) _
  have ht : bulk f.Tags ≤ f.Tags.length * (12 + 1) := bulk_small _ 12 fun t hm => by
    unfold tagsOk at h1
    obtain ⟨k, hk, rfl⟩ := List.getElem_of_mem hm
    have := allN_iff.1 h1 k hk
    rw [nth_nat _ hk] at this
    simp only [Bool.and_eq_true] at this
    have a1 := word_len this.1.1
    have a2 := word_len this.1.2
    have b0 : bulk f.Tags[k] = bulk f.Tags[k].Key + bulk f.Tags[k].Val := rfl
    have b1 : bulk f.Tags[k].Key = f.Tags[k].Key.length := bulk_str _
    have b2 : bulk f.Tags[k].Val = f.Tags[k].Val.length := bulk_str _
    omega
  have hp : f.Shape.Pts.length ≤ 6 := by
    unfold shapeOk kindOk at h4
    simp only [Bool.and_eq_true] at h4
    have := h4.2
    split at this
    · simp only [decide_eq_true_eq] at this; omega
    · split at this
      · simp only [Bool.and_eq_true, decide_eq_true_eq] at this; omega
      · split at this
        · simp only [Bool.and_eq_true, decide_eq_true_eq] at this; omega
        · cases this
  have : f.Tags.length * (12 + 1) ≤ 52 := by omega
  omega
def zeroF : Feat := ⟨[], ⟨0, []⟩, []⟩
theorem uniq_len (l : List Str) : (uniq l).length ≤ l.length := by
  unfold uniq
  have := compact_le (sortS l)
  have h2 : (sortS l).length = l.length := List.length_mergeSort _
  omega
end
theorem mate_part {o a : List Pt} (h : few o a = true) (t : Nat) : mateI (spairs o a) (t : Int) = match part o a t with | some x => (x : Int) | none => -1 := by
  rw [spairs_few h, mateI_mk]; rfl
structure MInv (o a b : List Pt) (xs : List Pt) (i j k t : Nat) : Prop where
  hi : i ≤ t
  ht : t ≤ o.length
  hj : j ≤ a.length
  hk : k ≤ b.length
  fj : From (part o a) t j
  fk : From (part o b) t k
  len : xs.length ≤ j + k
  eq : (mloop o a b (part o a) (part o b) (o.length - t) t i j k).map (xs ++ ·) = smerge o a b
theorem MInv.zero {o a b : List Pt} (h1 : few o a = true) (h2 : few o b = true) : MInv o a b [] 0 0 0 0 :=
  ⟨Nat.le_refl _, Nat.zero_le _, Nat.zero_le _, Nat.zero_le _, From.zero _ _, From.zero _ _, Nat.le_refl _, by rw [smerge_few h1 h2, Nat.sub_zero]; cases mloop o a b (part o a) (part o b) o.length 0 0 0 0 <;> rfl⟩
theorem MInv.skip {o a b xs : List Pt} {i j k t : Nat} (h : MInv o a b xs i j k t) (ht : t < o.length) (hn : part o a t = none ∨ part o b t = none) : MInv o a b xs i j k (t + 1) :=
  ⟨by have := h.hi; omega, ht, h.hj, h.hk, h.fj.skip, h.fk.skip, h.len, by
    have := h.eq
    rw [show o.length - t = (o.length - (t + 1)) + 1 by omega, mloop_none hn] at this
    exact this⟩
theorem MInv.step {o a b xs : List Pt} {i j k t x y : Nat} (h : MInv o a b xs i j k t) (ht : t < o.length) (hx : part o a t = some x) (hy : part o b t = some y) {p : List Pt} (hp : pickL (seg o i t) (seg a j x) (seg b k y) = some p) : MInv o a b (xs ++ p ++ [nth o (t : Int)]) (t + 1) (x + 1) (y + 1) (t + 1) := by
  have h1 := (part_mates o a).lt hx
  have h2 := (part_mates o b).lt hy
  refine ⟨Nat.le_refl _, ht, h1.2, h2.2, .step (part_mates o a) hx, .step (part_mates o b) hy, ?_, ?_⟩
  · have := (pickL_mem hp).2.2.2
    rw [seg_len a _ _ (by omega), seg_len b _ _ (by omega)] at this
    have h3 := h.fj t x (Nat.le_refl _) hx
    have h4 := h.fk t y (Nat.le_refl _) hy
    have h5 := h.len
    simp only [List.length_append, List.length_singleton]; omega
  · have := h.eq
    rw [show o.length - t = (o.length - (t + 1)) + 1 by omega, mloop_some hx hy, hp, Option.bind_some, Option.map_map] at this
    rw [← this]
    congr 1
    funext r
    simp
theorem MInv.stop {o a b xs : List Pt} {i j k t x y : Nat} (h : MInv o a b xs i j k t) (ht : t < o.length) (hx : part o a t = some x) (hy : part o b t = some y) (hp : pickL (seg o i t) (seg a j x) (seg b k y) = none) : smerge o a b = none := by
  have := h.eq
  rw [show o.length - t = (o.length - (t + 1)) + 1 by omega, mloop_some hx hy, hp] at this
  exact this.symm
theorem MInv.last {o a b xs : List Pt} {i j k : Nat} (h : MInv o a b xs i j k o.length) : (pickL (o.drop i) (a.drop j) (b.drop k)).map (xs ++ ·) = smerge o a b := by
  have := h.eq
  rw [Nat.sub_self, mloop_zero] at this
  exact this
theorem MInv.from {o a b xs : List Pt} {i j k t x y : Nat} (h : MInv o a b xs i j k t) (hx : part o a t = some x) (hy : part o b t = some y) : j ≤ x ∧ x < a.length ∧ k ≤ y ∧ y < b.length :=
  ⟨h.fj t x (Nat.le_refl _) hx, ((part_mates o a).lt hx).2, h.fk t y (Nat.le_refl _) hy, ((part_mates o b).lt hy).2⟩
def keysT (t : List Tag) : List Str := t.map (·.Key)
theorem keys_app (s t : List Tag) : keysT (s ++ t) = keysT s ++ keysT t := List.map_append
def valT (t : List Tag) (key : Str) : value :=
  if findN t.length (fun j => (nth t (j : Int)).Key == key) < 0 then ⟨false, []⟩ else ⟨true, (nth t (findN t.length fun j => (nth t (j : Int)).Key == key)).Val⟩
theorem valT_no (t : List Tag) (key : Str) (h : (valT t key).has = false) : valT t key = ⟨false, []⟩ := by
  unfold valT at h ⊢
  split
  · rfl
  · rename_i h1; rw [if_neg h1] at h; cases h
def three {α : Type} [DecidableEq α] (o a b : α) : α × Bool := if a = o then (b, true) else if b = o then (a, true) else if a = b then (a, true) else (a, false)
def tagF (o a b : value) : value × Bool := if (three o a b).2 then three o a b else (if a.has then a else b, false)
def tagS : Str := [116, 97, 103, 32]
def tagK (o a b : List Tag) (k : Str) : value × Bool := tagF (valT o k) (valT a k) (valT b k)
def clashL (o a b : List Tag) (ks : List Str) : List Str := (ks.filter fun k => !(tagK o a b k).2).map fun k => tagS ++ k
def tagsL (o a b : List Tag) (ks : List Str) : List Tag := (ks.filter fun k => (tagK o a b k).1.has).map fun k => ⟨k, (tagK o a b k).1.val⟩
theorem clashL_snoc (o a b : List Tag) (ks : List Str) (k : Str) : clashL o a b (ks ++ [k]) = clashL o a b ks ++ (if (tagK o a b k).2 then [] else [tagS ++ k]) := by
  unfold clashL
  rw [List.filter_append, List.map_append]
  congr 1
  cases h : (tagK o a b k).2 <;> simp [h]
theorem tagsL_snoc (o a b : List Tag) (ks : List Str) (k : Str) : tagsL o a b (ks ++ [k]) = tagsL o a b ks ++ (if (tagK o a b k).1.has then [⟨k, (tagK o a b k).1.val⟩] else []) := by
  unfold tagsL
  rw [List.filter_append, List.map_append]
  congr 1
  cases h : (tagK o a b k).1.has <;> simp [h]
theorem clashL_len (o a b : List Tag) (ks : List Str) : (clashL o a b ks).length ≤ ks.length := by
  unfold clashL; rw [List.length_map]; exact List.length_filter_le _ _
theorem tagsL_len (o a b : List Tag) (ks : List Str) : (tagsL o a b ks).length ≤ ks.length := by
  unfold tagsL; rw [List.length_map]; exact List.length_filter_le _ _
def shapeF (o a b : Shape) : Shape × Bool :=
  if (three o a b).2 then three o a b
  else if a.Kind = o.Kind ∧ b.Kind = o.Kind then
    match smerge o.Pts a.Pts b.Pts with
    | some p => if shapeOk ⟨a.Kind, p⟩ then (⟨a.Kind, p⟩, true) else (a, false)
    | none => (a, false)
  else (a, false)
def allKeys (o a b : Feat) : List Str := uniq (keysT (o.Tags ++ a.Tags ++ b.Tags))
def shapeS : Str := [115, 104, 97, 112, 101]
def joinF (o a b : Feat) : Feat := ⟨a.Id, (shapeF o.Shape a.Shape b.Shape).1, tagsL o.Tags a.Tags b.Tags (allKeys o a b)⟩
def joinW (o a b : Feat) : List Str := (if (shapeF o.Shape a.Shape b.Shape).2 then [] else [shapeS]) ++ clashL o.Tags a.Tags b.Tags (allKeys o a b)
def joinOf (o a b : Feat) : Feat × List Str := if featOk (joinF o a b) then (joinF o a b, joinW o a b) else (a, [[109, 117, 99, 104]])
def featJoin (o a b : Feat) : Feat × List Str := if featOk o && featOk a && featOk b && decide (o.Id = a.Id) && decide (o.Id = b.Id) then joinOf o a b else (zeroF, [])
theorem feat_facts {f : Feat} (h : featOk f = true) : f.Tags.length ≤ 4 ∧ shapeOk f.Shape = true ∧ f.Shape.Pts.length ≤ 6 ∧ f.Id.length ≤ 6 ∧ ∀ t ∈ f.Tags, t.Key.length ≤ 6 ∧ t.Val.length ≤ 6 := by
  have hb := (feat_small h).2
  unfold featOk at h
  simp only [Bool.and_eq_true, decide_eq_true_eq] at h
  obtain ⟨⟨⟨h1, h2⟩, h3⟩, h4⟩ := h
  refine ⟨h2, h4, ?_, hb, fun t hm => ?_⟩
  · unfold shapeOk kindOk at h4
    simp only [Bool.and_eq_true] at h4
    have := h4.2
    split at this
    · simp only [decide_eq_true_eq] at this; omega
    · split at this
      · simp only [Bool.and_eq_true, decide_eq_true_eq] at this; omega
      · split at this
        · simp only [Bool.and_eq_true, decide_eq_true_eq] at this; omega
        · cases this
  · unfold tagsOk at h1
    obtain ⟨k, hk, rfl⟩ := List.getElem_of_mem hm
    have := allN_iff.1 h1 k hk
    rw [nth_nat _ hk] at this
    simp only [Bool.and_eq_true] at this
    exact ⟨word_len this.1.1, word_len this.1.2⟩
theorem shape_pts {s : Shape} (h : shapeOk s = true) : s.Pts.length ≤ 6 := by
  unfold shapeOk kindOk at h
  simp only [Bool.and_eq_true] at h
  have := h.2
  split at this
  · simp only [decide_eq_true_eq] at this; omega
  · split at this
    · simp only [Bool.and_eq_true, decide_eq_true_eq] at this; omega
    · split at this
      · simp only [Bool.and_eq_true, decide_eq_true_eq] at this; omega
      · cases this
theorem three_in {α : Type} [DecidableEq α] (o a b : α) : (three o a b).1 = a ∨ (three o a b).1 = b := by
  unfold three
  split
  · exact .inr rfl
  · split
    · exact .inl rfl
    · split <;> exact .inl rfl
theorem shapeF_pts {o a b : Shape} (ha : a.Pts.length ≤ 6) (hb : b.Pts.length ≤ 6) : (shapeF o a b).1.Pts.length ≤ 6 := by
  unfold shapeF
  split
  · rcases three_in o a b with h | h <;> rw [h] <;> assumption
  · split
    · split
      · split
        · rename_i h; exact shape_pts h
        · exact ha
      · exact ha
    · exact ha
theorem valT_len {t : List Tag} (h : ∀ x ∈ t, x.Val.length ≤ 6) (k : Str) : (valT t k).val.length ≤ 6 := by
  unfold valT
  split
  · exact Nat.zero_le _
  · have h1 := findN_le t.length fun j => (nth t (j : Int)).Key == k
    exact h _ (nth_memi t (by omega) h1.2)
theorem tagF_in (o a b : value) : (tagF o a b).1 = a ∨ (tagF o a b).1 = b := by
  unfold tagF
  split
  · exact three_in o a b
  · split
    · exact .inl rfl
    · exact .inr rfl
theorem allKeys_len (o a b : Feat) : (allKeys o a b).length ≤ o.Tags.length + a.Tags.length + b.Tags.length := by
  have h := uniq_len (keysT (o.Tags ++ a.Tags ++ b.Tags))
  have e : (keysT (o.Tags ++ a.Tags ++ b.Tags)).length = o.Tags.length + a.Tags.length + b.Tags.length := by unfold keysT; simp; omega
  unfold allKeys; omega
theorem allKeys_small {o a b : Feat} (ho : featOk o = true) (ha : featOk a = true) (hb : featOk b = true) : (allKeys o a b).length ≤ 12 ∧ ∀ k ∈ allKeys o a b, k.length ≤ 6 := by
  have h1 := feat_facts ho; have h2 := feat_facts ha; have h3 := feat_facts hb
  refine ⟨by have := allKeys_len o a b; omega, fun k hk => ?_⟩
  unfold allKeys at hk
  rw [uniq_mem] at hk
  obtain ⟨t, ht, rfl⟩ := List.mem_map.1 hk
  rcases List.mem_append.1 ht with ht | ht
  · rcases List.mem_append.1 ht with ht | ht
    · exact (h1.2.2.2.2 t ht).1
    · exact (h2.2.2.2.2 t ht).1
  · exact (h3.2.2.2.2 t ht).1
theorem tagsL_small {o a b : Feat} (ho : featOk o = true) (ha : featOk a = true) (hb : featOk b = true) : bulk (tagsL o.Tags a.Tags b.Tags (allKeys o a b)) ≤ 200 := by
  obtain ⟨k1, k2⟩ := allKeys_small ho ha hb
  have hl := tagsL_len o.Tags a.Tags b.Tags (allKeys o a b)
  have hs := bulk_small (tagsL o.Tags a.Tags b.Tags (allKeys o a b)) 12 fun t ht => by
    unfold tagsL at ht
    obtain ⟨k, hk, rfl⟩ := List.mem_map.1 ht
    have hk := k2 k (List.mem_filter.1 hk).1
    have hv : (tagK o.Tags a.Tags b.Tags k).1.val.length ≤ 6 := by
      rcases tagF_in (valT o.Tags k) (valT a.Tags k) (valT b.Tags k) with h | h
      · unfold tagK; rw [h]; exact valT_len (fun x hx => ((feat_facts ha).2.2.2.2 x hx).2) k
      · unfold tagK; rw [h]; exact valT_len (fun x hx => ((feat_facts hb).2.2.2.2 x hx).2) k
    have e : bulk (⟨k, (tagK o.Tags a.Tags b.Tags k).1.val⟩ : Tag) = bulk k + bulk (tagK o.Tags a.Tags b.Tags k).1.val := rfl
    rw [e, bulk_str, bulk_str]; omega
  have : (tagsL o.Tags a.Tags b.Tags (allKeys o a b)).length * (12 + 1) ≤ 12 * 13 := Nat.mul_le_mul (by omega) (Nat.le_refl _)
  omega
theorem joinF_small {o a b : Feat} (ho : featOk o = true) (ha : featOk a = true) (hb : featOk b = true) : bulk (joinF o a b) ≤ 300 := by
  have h2 := feat_facts ha; have h3 := feat_facts hb
  have ht := tagsL_small ho ha hb
  have hp := shapeF_pts (o := o.Shape) h2.2.2.1 h3.2.2.1
  have e : bulk (joinF o a b) = bulk a.Id + (0 + bulk (shapeF o.Shape a.Shape b.Shape).1.Pts) + bulk (tagsL o.Tags a.Tags b.Tags (allKeys o a b)) := rfl
  have e2 : bulk a.Id = a.Id.length := bulk_str _
  have e3 : bulk (shapeF o.Shape a.Shape b.Shape).1.Pts = (shapeF o.Shape a.Shape b.Shape).1.Pts.length := bulk_flat (fun _ => rfl) _
  omega
section
def mkL {α : Type} (g : α → Int → α × Int) : List α → Int → List α × Int
  | [], k => ([], k)
  | x :: l, k => ((g x k).1 :: (mkL g l (g x k).2).1, (mkL g l (g x k).2).2)
section
variable {α : Type} {g : α → Int → α × Int}
theorem mkL_snoc (x : α) : ∀ (l : List α) (k : Int), mkL g (l ++ [x]) k = ((mkL g l k).1 ++ [(g x (mkL g l k).2).1], (g x (mkL g l k).2).2)
  | [], k => rfl
  | y :: l, k => by
    rw [List.cons_append, mkL, mkL_snoc x l]; rfl
theorem mkL_len : ∀ (l : List α) (k : Int), (mkL g l k).1.length = l.length
  | [], k => rfl
  | y :: l, k => by rw [mkL, List.length_cons, List.length_cons, mkL_len l]
theorem mkL_app : ∀ (l m : List α) (k : Int), mkL g (l ++ m) k = ((mkL g l k).1 ++ (mkL g m (mkL g l k).2).1, (mkL g m (mkL g l k).2).2)
  | [], m, k => rfl
  | y :: l, m, k => by rw [List.cons_append, mkL, mkL_app l]; rfl
variable [Inhabited α]
def Mk (g : α → Int → α × Int) (a : List α) (k : Int) (u : Nat) (xs : List α) (k' : Int) : Prop := u ≤ a.length ∧ xs = (mkL g (a.take u) k).1 ++ a.drop u ∧ k' = (mkL g (a.take u) k).2
variable {a xs : List α} {k k' : Int} {u : Nat}
theorem Mk.zero (a : List α) (k : Int) : Mk g a k 0 a k := ⟨Nat.zero_le _, by simp [mkL], by simp [mkL]⟩
theorem Mk.len (h : Mk g a k u xs k') : xs.length = a.length := by
  rw [h.2.1, List.length_append, mkL_len, List.length_take, List.length_drop]; have := h.1; omega
theorem Mk.nth (h : Mk g a k u xs k') (hu : u < a.length) : nth xs (u : Int) = Go.Proofs.Ytpdmnmpcjljeaaa.nth a (u : Int) := by
  rw [nth_nat xs (by rw [h.len]; exact hu), nth_nat a hu]
  have hl : (mkL g (a.take u) k).1.length = u := by rw [mkL_len, List.length_take]; omega
  have := h.2.1
  subst this
  rw [List.getElem_append_right (by omega)]
  simp [hl]
def Hd (g : α → Int → α × Int) (a : List α) (k : Int) (u : Nat) (k' : Int) : Prop := u ≤ a.length ∧ k' = (mkL g (a.take u) k).2
theorem Hd.zero (a : List α) (k : Int) : Hd g a k 0 k := ⟨Nat.zero_le _, by simp [mkL]⟩
theorem Hd.nth (h : Hd g a k u k') (hu : u < a.length) : nth (mkL g a k).1 (u : Int) = (g (Go.Proofs.Ytpdmnmpcjljeaaa.nth a (u : Int)) k').1 := by
  have e : a = (a.take u ++ [Go.Proofs.Ytpdmnmpcjljeaaa.nth a (u : Int)]) ++ a.drop (u + 1) := by rw [← take_nth a hu, List.take_append_drop]
  have hl : (mkL g (a.take u) k).1.length = u := by rw [mkL_len, List.length_take]; omega
  rw [nth_nat _ (by rw [mkL_len]; exact hu)]
  have h1 : (mkL g a k).1[u]? = some (g (Go.Proofs.Ytpdmnmpcjljeaaa.nth a (u : Int)) k').1 := by
    conv => lhs; rw [e]
    rw [mkL_app, mkL_snoc]
    dsimp only
    rw [List.append_assoc, List.getElem?_append_right (by omega), hl, Nat.sub_self, h.2]; rfl
  rw [List.getElem?_eq_getElem (by rw [mkL_len]; exact hu)] at h1
  exact Option.some.inj h1
end
theorem bulk_feat (x : Feat) : bulk x = bulk x.Id + (bulk x.Shape.Kind + bulk x.Shape.Pts) + bulk x.Tags := rfl
end
theorem pw_ext {α : Type} {R : α → α → Prop} (irr : ∀ x, ¬ R x x) (tr : ∀ x y z, R x y → R y z → R x z) : ∀ {l m : List α}, l.Pairwise R → m.Pairwise R → (∀ x, x ∈ l ↔ x ∈ m) → l = m
  | [], [], _, _, _ => rfl
  | [], y :: m, _, _, h => by have := (h y).2 List.mem_cons_self; cases this
  | x :: l, [], _, _, h => by have := (h x).1 List.mem_cons_self; cases this
  | x :: l, y :: m, hl, hm, h => by
    obtain ⟨l1, l2⟩ := List.pairwise_cons.1 hl
    obtain ⟨m1, m2⟩ := List.pairwise_cons.1 hm
    have e : x = y := by
      rcases List.mem_cons.1 ((h x).1 List.mem_cons_self) with e | e
      · exact e
      · rcases List.mem_cons.1 ((h y).2 List.mem_cons_self) with e' | e'
        · exact e'.symm
        · exact absurd (tr _ _ _ (m1 x e) (l1 y e')) (irr _)
    subst e
    rw [pw_ext irr tr l2 m2 fun z => ⟨fun hz => ?_, fun hz => ?_⟩]
    · rcases List.mem_cons.1 ((h z).1 (List.mem_cons_of_mem _ hz)) with e | e
      · subst e; exact absurd (l1 z hz) (irr _)
      · exact e
    · rcases List.mem_cons.1 ((h z).2 (List.mem_cons_of_mem _ hz)) with e | e
      · subst e; exact absurd (m1 z hz) (irr _)
      · exact e
def idsC (d : List Change) : List Str := d.map (·.Id)
theorem idsC_app (s t : List Change) : idsC (s ++ t) = idsC s ++ idsC t := List.map_append
def CS (d : List Change) : Prop := d.Pairwise fun x y => Op.bytesLess x.Id y.Id = true
theorem CS.ext {l m : List Change} (hl : CS l) (hm : CS m) (h : ∀ x, x ∈ l ↔ x ∈ m) : l = m :=
  pw_ext (R := fun x y : Change => Op.bytesLess x.Id y.Id = true) (fun x e => by rw [less_irr] at e; cases e) (fun x y z h1 h2 => less_trans h1 h2) hl hm h
theorem CS.ids {d : List Change} (h : CS d) : SS (idsC d) := List.pairwise_map.2 h
theorem findN_true {n : Nat} {c : Nat → Bool} {k : Nat} (h : findN n c = (k : Int)) : k < n ∧ c k = true := by
  unfold findN at h
  cases e : (List.range n).find? c with
  | none => rw [e] at h; dsimp only at h; omega
  | some j =>
    rw [e] at h; dsimp only at h
    have : j = k := by omega
    subst this
    exact ⟨List.mem_range.1 (List.mem_of_find?_eq_some e), List.find?_some e⟩
theorem findN_neg {n : Nat} {c : Nat → Bool} (h : findN n c < 0) : ∀ j, j < n → c j = false := fun j hj => by
  unfold findN at h
  cases e : (List.range n).find? c with
  | some k => rw [e] at h; dsimp only at h; omega
  | none =>
    have := List.find?_eq_none.1 e j (List.mem_range.2 hj)
    simpa using this
theorem CS.inj {d : List Change} (h : CS d) {x y : Change} (hx : x ∈ d) (hy : y ∈ d) (e : x.Id = y.Id) : x = y := by
  obtain ⟨i, hi, rfl⟩ := List.getElem_of_mem hx
  obtain ⟨j, hj, rfl⟩ := List.getElem_of_mem hy
  rcases Nat.lt_trichotomy i j with g | g | g
  · have := List.pairwise_iff_getElem.1 h i j hi hj g
    rw [e, less_irr] at this; cases this
  · subst g; rfl
  · have := List.pairwise_iff_getElem.1 h j i hj hi g
    rw [e, less_irr] at this; cases this
def FS (l : List Feat) : Prop := l.Pairwise fun x y => Op.bytesLess x.Id y.Id = true
theorem FS.ext {l m : List Feat} (hl : FS l) (hm : FS m) (h : ∀ x, x ∈ l ↔ x ∈ m) : l = m :=
  pw_ext (R := fun x y : Feat => Op.bytesLess x.Id y.Id = true) (fun x e => by rw [less_irr] at e; cases e) (fun x y z h1 h2 => less_trans h1 h2) hl hm h
theorem FS.inj {d : List Feat} (h : FS d) {x y : Feat} (hx : x ∈ d) (hy : y ∈ d) (e : x.Id = y.Id) : x = y := by
  obtain ⟨i, hi, rfl⟩ := List.getElem_of_mem hx
  obtain ⟨j, hj, rfl⟩ := List.getElem_of_mem hy
  rcases Nat.lt_trichotomy i j with g | g | g
  · have := List.pairwise_iff_getElem.1 h i j hi hj g
    rw [e, less_irr] at this; cases this
  · subst g; rfl
  · have := List.pairwise_iff_getElem.1 h j i hj hi g
    rw [e, less_irr] at this; cases this
theorem now_id {d : List Change} (hd : ∀ c ∈ d, changeOk c = true) {c : Change} (hc : c ∈ d) (h : c.Has = true) : c.Now.Id = c.Id ∧ featOk c.Now = true := by
  have := hd c hc
  unfold changeOk at this
  simp only [Bool.and_eq_true] at this
  have h3 := this.1.2
  unfold sideOk at h3
  rw [h, if_pos rfl] at h3
  simp only [Bool.and_eq_true, decide_eq_true_eq] at h3
  exact ⟨h3.2, h3.1⟩
def Mem (s : List Feat) (d : List Change) (f : Feat) : Prop := (f ∈ s ∧ f.Id ∉ idsC d) ∨ ∃ c ∈ d, c.Has = true ∧ c.Now = f
theorem Mem.step {s : List Feat} {d : List Change} {u : Nat} (hu : u < d.length) (hc : CS d) (hd : ∀ c ∈ d, changeOk c = true) (f : Feat) :
    Mem s (d.take (u + 1)) f ↔ (Mem s (d.take u) f ∧ f.Id ≠ (nth d (u : Int)).Id) ∨ ((nth d (u : Int)).Has = true ∧ f = (nth d (u : Int)).Now) := by
  have e : idsC (d.take (u + 1)) = idsC (d.take u) ++ [(nth d (u : Int)).Id] := by rw [take_nth d hu, idsC_app]; rfl
  have hm : nth d (u : Int) ∈ d := nth_mem d hu
  have hlt : ∀ c ∈ d.take u, Op.bytesLess c.Id (nth d (u : Int)).Id = true := fun c hc' => by
    have h := hc
    rw [← List.take_append_drop u d] at h
    refine (List.pairwise_append.1 h).2.2 c hc' _ ?_
    rw [nth_nat d hu, List.drop_eq_getElem_cons hu]; exact List.mem_cons_self
  unfold Mem
  rw [e, take_nth d hu]
  constructor
  · rintro (⟨h1, h2⟩ | ⟨c, h1, h2, rfl⟩)
    · rw [List.mem_append, List.mem_singleton] at h2
      exact .inl ⟨.inl ⟨h1, fun h => h2 (.inl h)⟩, fun h => h2 (.inr h)⟩
    · rcases List.mem_append.1 h1 with h1 | h1
      · refine .inl ⟨.inr ⟨c, h1, h2, rfl⟩, fun h => ?_⟩
        rw [(now_id hd (List.mem_of_mem_take h1) h2).1] at h
        have := hlt c h1
        rw [h, less_irr] at this; cases this
      · rw [List.mem_singleton] at h1
        subst h1
        exact .inr ⟨h2, rfl⟩
  · rintro (⟨h1 | ⟨c, h1, h2, rfl⟩, h3⟩ | ⟨h1, rfl⟩)
    · refine .inl ⟨h1.1, fun h => ?_⟩
      rcases List.mem_append.1 h with h | h
      · exact h1.2 h
      · exact h3 (List.mem_singleton.1 h)
    · exact .inr ⟨c, List.mem_append_left _ h1, h2, rfl⟩
    · exact .inr ⟨_, List.mem_append_right _ (List.mem_singleton.2 rfl), h1, rfl⟩
theorem Mem.zero (s : List Feat) (d : List Change) (f : Feat) : Mem s (d.take 0) f ↔ f ∈ s := by
  unfold Mem
  simp [idsC]
theorem three_r {α : Type} [DecidableEq α] (o a : α) : three o a o = (a, true) := by
  unfold three
  by_cases h : a = o
  · rw [if_pos h, h]
  · rw [if_neg h, if_pos rfl]
theorem three_l {α : Type} [DecidableEq α] (o b : α) : three o o b = (b, true) := by unfold three; rw [if_pos rfl]
theorem tagF_r (o a : value) : tagF o a o = (a, true) := by unfold tagF; rw [three_r, if_pos rfl]
theorem tagF_l (o b : value) : tagF o o b = (b, true) := by unfold tagF; rw [three_l, if_pos rfl]
theorem shapeF_r (o a : Shape) : shapeF o a o = (a, true) := by unfold shapeF; rw [three_r, if_pos rfl]
theorem shapeF_l (o b : Shape) : shapeF o o b = (b, true) := by unfold shapeF; rw [three_l, if_pos rfl]
def tagsOf (t : List Tag) (ks : List Str) : List Tag := (ks.filter fun k => (valT t k).has).map fun k => ⟨k, (valT t k).val⟩
theorem tagsL_r (o a : List Tag) (ks : List Str) : tagsL o a o ks = tagsOf a ks := by unfold tagsL tagsOf tagK; simp only [tagF_r]
theorem tagsL_l (o b : List Tag) (ks : List Str) : tagsL o o b ks = tagsOf b ks := by unfold tagsL tagsOf tagK; simp only [tagF_l]
theorem clashL_r (o a : List Tag) (ks : List Str) : clashL o a o ks = [] := by unfold clashL tagK; simp only [tagF_r]; simp
theorem clashL_l (o b : List Tag) (ks : List Str) : clashL o o b ks = [] := by unfold clashL tagK; simp only [tagF_l]; simp
theorem valT_hit {t : List Tag} {k : Str} (h : (valT t k).has = true) : ∃ x ∈ t, x.Key = k ∧ valT t k = ⟨true, x.Val⟩ := by
  unfold valT at h ⊢
  split at h
  · cases h
  · rename_i g
    rw [if_neg g]
    have h1 := findN_le t.length fun j => (nth t (j : Int)).Key == k
    obtain ⟨i, hi⟩ : ∃ i : Nat, findN t.length (fun j => (nth t (j : Int)).Key == k) = (i : Int) := ⟨_, (Int.toNat_of_nonneg (by omega)).symm⟩
    obtain ⟨h2, h3⟩ := findN_true hi
    rw [hi]
    exact ⟨_, nth_mem t h2, by simpa using h3, rfl⟩
theorem valT_iff {t : List Tag} {k : Str} : (valT t k).has = true ↔ k ∈ keysT t := by
  constructor
  · intro h
    obtain ⟨x, hx, e, _⟩ := valT_hit h
    exact List.mem_map.2 ⟨x, hx, e⟩
  · intro h
    unfold valT
    split
    · rename_i g
      obtain ⟨f, hf, rfl⟩ := List.mem_map.1 h
      obtain ⟨j, hj, rfl⟩ := List.getElem_of_mem hf
      have := findN_neg g j hj
      rw [nth_nat t hj] at this
      simp at this
    · rfl
theorem keys_inj : ∀ {t : List Tag}, SS (keysT t) → ∀ {x y : Tag}, x ∈ t → y ∈ t → x.Key = y.Key → x = y
  | [], _, _, _, h, _, _ => by cases h
  | a :: t, hs, x, y, hx, hy, e => by
    have h1 := List.pairwise_cons.1 hs
    rcases List.mem_cons.1 hx with rfl | hx' <;> rcases List.mem_cons.1 hy with rfl | hy'
    · rfl
    · have : Op.bytesLess x.Key y.Key = true := h1.1 y.Key (List.mem_map.2 ⟨y, hy', rfl⟩); rw [e, less_irr] at this; cases this
    · have : Op.bytesLess y.Key x.Key = true := h1.1 x.Key (List.mem_map.2 ⟨x, hx', rfl⟩); rw [e, less_irr] at this; cases this
    · exact keys_inj h1.2 hx' hy' e
theorem tagsOf_all {t : List Tag} {ks : List Str} (ht : SS (keysT t)) (hk : SS ks) (h : ∀ k ∈ keysT t, k ∈ ks) : tagsOf t ks = t := by
  unfold tagsOf
  have e : (ks.filter fun k => (valT t k).has) = keysT t := SS.ext (List.Pairwise.filter _ hk) ht fun k => by
    rw [List.mem_filter, valT_iff]
    exact ⟨fun g => g.2, fun g => ⟨h k g, g⟩⟩
  rw [e]
  unfold keysT
  rw [List.map_map]
  conv => rhs; rw [← List.map_id t]
  refine List.map_congr_left fun x hx => ?_
  obtain ⟨y, hy, e1, e2⟩ := valT_hit (valT_iff.2 (List.mem_map.2 ⟨x, hx, rfl⟩ : x.Key ∈ keysT t))
  have := keys_inj ht hy hx e1
  subst this
  simp only [Function.comp, e2, id]
theorem tags_ss {t : List Tag} (h : tagsOk t = true) : SS (keysT t) := by
  have h1 := allN_iff.1 h
  have hadj : ∀ k, 0 < k → k < t.length → Op.bytesLess (nth t ((k : Int) - 1)).Key (nth t (k : Int)).Key = true := fun k h0 hk => by
    have := h1 k hk
    simp only [Bool.and_eq_true, Bool.or_eq_true, decide_eq_true_eq] at this
    rcases this.2 with h | h
    · omega
    · exact h
  unfold SS keysT
  rw [List.pairwise_map]
  refine List.pairwise_iff_getElem.2 fun i j hi hj hij => ?_
  have key : ∀ d, i + d + 1 < t.length → Op.bytesLess t[i].Key (nth t ((i + d + 1 : Nat) : Int)).Key = true := by
    intro d
    induction d with
    | zero =>
      intro hd
      have := hadj (i + 0 + 1) (by omega) hd
      rw [show (((i + 0 + 1 : Nat) : Int) - 1) = (i : Int) by omega, nth_nat t hi] at this
      exact this
    | succ d ih =>
      intro hd
      have := hadj (i + (d + 1) + 1) (by omega) hd
      rw [show (((i + (d + 1) + 1 : Nat) : Int) - 1) = ((i + d + 1 : Nat) : Int) by omega] at this
      exact less_trans (ih (by omega)) this
  have := key (j - i - 1) (by omega)
  rw [show i + (j - i - 1) + 1 = j by omega, nth_nat t hj] at this
  exact this
theorem featOk_tags {f : Feat} (h : featOk f = true) : SS (keysT f.Tags) := by
  unfold featOk at h
  simp only [Bool.and_eq_true] at h
  exact tags_ss h.1.1.1
theorem tagsOk_of {t : List Tag} (hs : SS (keysT t)) (hw : ∀ x ∈ t, wordOk x.Key = true ∧ wordOk x.Val = true) : tagsOk t = true := by
  unfold tagsOk
  refine allN_true fun k hk => ?_
  obtain ⟨h1, h2⟩ := hw _ (nth_mem t hk)
  rw [h1, h2, Bool.true_and, Bool.true_and, Bool.or_eq_true, decide_eq_true_eq]
  rcases Nat.eq_zero_or_pos k with h0 | h0
  · exact .inl h0
  refine .inr ?_
  unfold SS keysT at hs
  have := List.pairwise_iff_getElem.1 (List.pairwise_map.1 hs) (k - 1) k (by omega) hk (by omega)
  rw [show ((k : Int) - 1) = ((k - 1 : Nat) : Int) by omega, nth_nat t hk, nth_nat t (by omega)]
  exact this
theorem feat_words {f : Feat} (h : featOk f = true) : wordOk f.Id = true ∧ ∀ x ∈ f.Tags, wordOk x.Key = true ∧ wordOk x.Val = true := by
  unfold featOk at h
  simp only [Bool.and_eq_true] at h
  refine ⟨h.1.2, fun x hx => ?_⟩
  have ht := h.1.1.1
  unfold tagsOk at ht
  obtain ⟨k, hk, rfl⟩ := List.getElem_of_mem hx
  have := allN_iff.1 ht k hk
  rw [nth_nat _ hk] at this
  simp only [Bool.and_eq_true] at this
  exact this.1
theorem shape_pos {s : Shape} (h : shapeOk s = true) : 1 ≤ s.Pts.length := by
  unfold shapeOk kindOk at h
  simp only [Bool.and_eq_true] at h
  have := h.2
  split at this
  · simp only [decide_eq_true_eq] at this; omega
  · split at this
    · simp only [Bool.and_eq_true, decide_eq_true_eq] at this; omega
    · split at this
      · simp only [Bool.and_eq_true, decide_eq_true_eq] at this; omega
      · cases this
theorem dot_ok {x y : Int} (h1 : 0 ≤ x) (h2 : x ≤ 5) (h3 : 0 ≤ y) (h4 : y ≤ 5) : shapeOk ⟨1, [⟨x, y⟩]⟩ = true := by
  have e : ptOk (⟨x, y⟩ : Pt) = true := by
    unfold ptOk inR
    simp only [Bool.and_eq_true, decide_eq_true_eq]; omega
  unfold shapeOk ptsOk kindOk
  rw [Bool.and_eq_true]
  refine ⟨allN_true fun k hk => ?_, by rw [if_pos rfl]; rfl⟩
  have hk : k < 1 := hk
  obtain rfl : k = 0 := by omega
  rw [Bool.and_eq_true]
  exact ⟨e, rfl⟩
def keyL : List Str := [[110, 97, 109, 101], [107, 105, 110, 100], [117, 115, 101], [116, 111, 110, 101]]
def valL : List Str := [[97], [98], [111, 97, 107], [97, 115, 104], [114, 111, 97, 100]]
def idL : List Str := [[97], [98], [99], [100], [101]]
def DT (x : Tag) : Prop := x.Key ∈ keyL ∧ x.Val ∈ valL
theorem keyL_ok : ∀ k ∈ keyL, wordOk k = true := by decide
theorem valL_ok : ∀ k ∈ valL, wordOk k = true := by decide
theorem idL_ok : ∀ k ∈ idL, wordOk k = true := by decide
def plainK (k : Str) : Prop := k ≠ [97, 97, 97] ∧ k ≠ [122, 122, 122]
theorem keyL_plain : ∀ k ∈ keyL, plainK k := by
  intro k hk
  simp only [keyL, List.mem_cons, List.not_mem_nil, or_false] at hk
  unfold plainK
  rcases hk with rfl | rfl | rfl | rfl <;> decide
theorem feat_of {id : Str} {s : Shape} {t : List Tag} (h1 : wordOk id = true) (h2 : shapeOk s = true) (h3 : SS (keysT t)) (h4 : t.length ≤ 4) (h5 : ∀ x ∈ t, wordOk x.Key = true ∧ wordOk x.Val = true) : featOk ⟨id, s, t⟩ = true := by
  unfold featOk
  dsimp only
  rw [tagsOk_of h3 h5, h1, h2, decide_eq_true h4]; rfl
structure FB (n : Nat) (f : Feat) : Prop where
  id : f.Id.length ≤ 7
  pts : f.Shape.Pts.length ≤ 7
  len : f.Tags.length ≤ n
  wd : ∀ x ∈ f.Tags, x.Key.length ≤ 6 ∧ x.Val.length ≤ 6
theorem FB.of {f : Feat} (h : featOk f = true) : FB 4 f := by
  have := feat_facts h
  exact ⟨by omega, by omega, this.1, this.2.2.2.2⟩
theorem FB.mono {n m : Nat} {f : Feat} (h : FB n f) (hm : n ≤ m) : FB m f := ⟨h.id, h.pts, Nat.le_trans h.len hm, h.wd⟩
theorem DT.len {x : Tag} (h : DT x) : x.Key.length ≤ 6 ∧ x.Val.length ≤ 6 := ⟨word_len (keyL_ok _ h.1), word_len (valL_ok _ h.2)⟩
theorem DT.ok {x : Tag} (h : DT x) : wordOk x.Key = true ∧ wordOk x.Val = true := ⟨keyL_ok _ h.1, valL_ok _ h.2⟩
structure MB (n m : Nat) (s : List Feat) : Prop where
  len : s.length ≤ n
  fb : ∀ f ∈ s, FB m f
theorem MB.of {s : List Feat} (h : sheetOk s = true) : MB 8 4 s := ⟨(sheet_ss h).2.1, fun f hf => FB.of ((sheet_ss h).2.2 f hf)⟩
theorem MB.mono {n n' m m' : Nat} {s : List Feat} (h : MB n m s) (h1 : n ≤ n') (h2 : m ≤ m') : MB n' m' s := ⟨Nat.le_trans h.len h1, fun f hf => (h.fb f hf).mono h2⟩
def zzI : Str := [122, 122]
theorem idL_nz : ∀ k ∈ idL, k ≠ zzI := by
  intro k hk
  simp only [idL, List.mem_cons, List.not_mem_nil, or_false] at hk
  rcases hk with rfl | rfl | rfl | rfl | rfl <;> decide
structure MD (s : List Feat) : Prop where
  mb : MB 14 4 s
  nz : ∀ f ∈ s, f.Id ≠ zzI
theorem F46.law (b : List UInt8) (p : Int) (Q : Shape → Int → Prop) (hb : b.length ≤ 2000) (hp : 0 ≤ p) (hp1 : p ≤ 100000000) (hq : ∀ s p', shapeOk s = true → p ≤ p' → p' ≤ p + 40 → Q s p') : F46.E b p Q := by
 unfold F46.E
 refine F24.law _ _ _ _ hb hp (by omega) (by decide) fun k hk => F15.law _ _ _ _ hb (by omega) (by omega) fun v hv0 hv1 => ?_
 have hk' : 1 ≤ k ∧ k ≤ 3 := by
  simp only [List.mem_cons, List.not_mem_nil, or_false] at hk; omega
 have fin : ∀ (xs : List Pt) (z : Int), p ≤ z → z ≤ p + 30 → F45.E ⟨k, xs⟩ (fun r6 => (if !r6 then F105.E b z (fun r7 m4 => Q (⟨1, ([r7] : List Pt)⟩ : Shape) m4) else Q (⟨k, xs⟩ : Shape) z)) := fun xs z h1 h2 => by
  refine F45.law _ _ ?_
  cases h : shapeOk ⟨k, xs⟩ with
  | true => rw [if_neg (by decide)]; exact hq _ _ h h1 (by omega)
  | false => rw [if_pos (by decide)]; exact F105.law _ _ _ hb (by omega) (by omega) fun x y x0 x1 y0 y1 => hq _ _ (dot_ok x0 (by omega) y0 y1) (by omega) (by omega)
 refine ⟨by unfold I64; omega, fun w => 1 ≤ w ∧ w ≤ 6, by split <;> omega, ?_⟩
 rintro want ⟨w1, w2⟩
 refine ⟨fun i xs z => 0 ≤ i ∧ i ≤ 12 ∧ (xs.length : Int) ≤ i ∧ p + 2 ≤ z ∧ z ≤ p + 2 + 2 * i, fun i _ _ => (12 - i).toNat, ⟨by omega, by omega, by simp, by omega, by omega⟩, ?_⟩
 rintro i xs z ⟨h0, h1, h2, h3, h4⟩
 by_cases hi : i < 12
 case neg => rw [if_neg (by simpa using hi)]; exact fin _ _ (by omega) (by omega)
 rw [if_pos (by simpa using hi)]
 by_cases hl : (xs.length : Int) < F91.m want 6
 case neg => rw [if_neg (by simpa using hl)]; exact fin _ _ (by omega) (by omega)
 rw [if_pos (by simpa using hl)]
 refine F105.law _ _ _ hb (by omega) (by omega) fun x y x0 x1 y0 y1 => ⟨fun _ => True, ?_, fun v _ => ⟨fun ys => (ys.length : Int) ≤ i + 1, ?_, fun ys hys => ⟨by unfold I64; omega, ⟨by omega, by omega, hys, by omega, by omega⟩, by dsimp only; omega⟩⟩⟩
 ·by_cases h0 : (xs.length : Int) = 0
  ·rw [if_pos (by simpa using h0)]; trivial
  ·rw [if_neg (by simpa using h0)]
   refine ⟨fun _ => by unfold I64; omega, by omega, ?_⟩
   split
   ·split
    ·trivial
    ·exact ⟨by omega, trivial⟩
   ·trivial
 ·cases v with
  | true => rw [if_pos rfl]; exact ⟨by simp only [List.length_cons, List.length_nil]; omega, by simp only [List.length_append, List.length_cons, List.length_nil]; omega⟩
  | false => rw [if_neg (by decide)]; omega
theorem F33.law (b : List UInt8) (p : Int) (l : List Str) (Q : Str → Int → Prop) (hb : b.length ≤ 2000) (hp : 0 ≤ p) (hp1 : p ≤ 1099511627776) (hl : 0 < l.length) (hq : ∀ s ∈ l, Q s (p + 1)) : F33.E b p l Q := by
 unfold F33.E
 exact F15.law _ _ _ _ hb hp hp1 fun v h0 h1 => ⟨by omega, hq _ (nth_memi l h0 (by omega))⟩
theorem F94.law (b : List UInt8) (p : Int) (Q : Str → Int → Prop) (hb : b.length ≤ 2000) (hp : 0 ≤ p) (hp1 : p ≤ 1000000000) (hq : ∀ k ∈ keyL, Q k (p + 1)) : F94.E b p Q := by
 unfold F94.E
 exact F33.law _ _ _ _ hb hp (by omega) (by decide) hq
theorem F95.law (b : List UInt8) (p : Int) (Q : Str → Int → Prop) (hb : b.length ≤ 2000) (hp : 0 ≤ p) (hp1 : p ≤ 1000000000) (hq : ∀ k ∈ valL, Q k (p + 1)) : F95.E b p Q := by
 unfold F95.E
 exact F33.law _ _ _ _ hb hp (by omega) (by decide) hq
def PutT (s : List Tag) (key val : Str) (u : Nat) (xs : List Tag) (done : Bool) : Prop :=
 u ≤ s.length ∧ SS (keysT xs) ∧ (∀ x, x ∈ keysT xs ↔ x ∈ keysT (s.take u) ∨ (done = true ∧ x = key)) ∧ (done = false → (∀ x ∈ keysT (s.take u), Op.bytesLess x key = true) ∧ xs = s.take u) ∧
  (done = true → ∀ y ∈ keysT (s.drop u), Op.bytesLess key y = true) ∧ xs.length ≤ u + 1 ∧ (∀ z ∈ xs, z ∈ s ∨ z = ⟨key, val⟩)
theorem ss_snocT {l : List Str} {x : Str} (h : SS l) (hx : ∀ y ∈ l, Op.bytesLess y x = true) : SS (l ++ [x]) := by
 unfold SS
 rw [List.pairwise_append]
 exact ⟨h, List.pairwise_singleton _ _, fun a ha b hb => by rw [List.mem_singleton.1 hb]; exact hx a ha⟩
theorem keys_take {s : List Tag} {u : Nat} (hu : u < s.length) : keysT (s.take (u + 1)) = keysT (s.take u) ++ [(nth s (u : Int)).Key] := by rw [take_nth s hu, keys_app]; rfl
theorem keys_cut (s : List Tag) (u : Nat) : keysT s = keysT (s.take u) ++ keysT (s.drop u) := by rw [← keys_app, List.take_append_drop]
theorem dropNthT {s : List Tag} {u : Nat} (hu : u < s.length) : s.drop u = nth s (u : Int) :: s.drop (u + 1) := by rw [nth_nat s hu]; exact List.drop_eq_getElem_cons hu
theorem ss_ltT {s : List Tag} (h : SS (keysT s)) {u : Nat} (hu : u < s.length) : (∀ x ∈ keysT (s.take u), Op.bytesLess x (nth s (u : Int)).Key = true) ∧ ∀ y ∈ keysT (s.drop (u + 1)), Op.bytesLess (nth s (u : Int)).Key y = true := by
 have e := keys_cut s u
 rw [dropNthT hu] at e
 have e2 : keysT (nth s (u : Int) :: s.drop (u + 1)) = (nth s (u : Int)).Key :: keysT (s.drop (u + 1)) := rfl
 rw [e2] at e
 rw [e] at h
 obtain ⟨h1, h2, h3⟩ := List.pairwise_append.1 h
 exact ⟨fun x hx => h3 x hx _ List.mem_cons_self, (List.pairwise_cons.1 h2).1⟩
theorem F96.law (s : List Tag) (key val : Str) (Q : List Tag → Prop) (hl : s.length ≤ 1048576) (hs : SS (keysT s)) (hq : ∀ r, SS (keysT r) → (∀ x, x ∈ keysT r ↔ x ∈ keysT s ∨ x = key) → r.length ≤ s.length + 1 → (∀ z ∈ r, z ∈ s ∨ z = ⟨key, val⟩) → Q r) : F96.E s key val Q := by
 unfold F96.E
 refine ⟨fun xs done i => ∃ u : Nat, i = u ∧ PutT s key val u xs done, fun _ _ i => (s.length - i).toNat, ⟨0, rfl, Nat.zero_le _, by simp [keysT, SS], by simp [keysT], fun _ => ⟨by simp [keysT], by simp⟩, (fun h => by cases h), by simp, by simp⟩, ?_⟩
 rintro xs done _ ⟨u, rfl, hu, h1, h2, h3, h4, h5, h6⟩
 by_cases h : u < s.length
 ·rw [if_pos (by simpa using h)]
  obtain ⟨b1, b2⟩ := ss_ltT hs h
  have hin : nth s (u : Int) ∈ s := nth_mem s h
  have hdr : ∀ y ∈ keysT (s.drop u), y = (nth s (u : Int)).Key ∨ y ∈ keysT (s.drop (u + 1)) := fun y hy => by rw [dropNthT h] at hy; exact List.mem_cons.1 hy
  have hcur : (nth s (u : Int)).Key ∈ keysT (s.drop u) := by rw [dropNthT h]; exact List.mem_cons_self
  have hdr' : ∀ y ∈ keysT (s.drop (u + 1)), y ∈ keysT (s.drop u) := fun y hy => by rw [dropNthT h]; exact List.mem_cons_of_mem _ hy
  have stay : ∀ d, d = done → Op.bytesLess (nth s (u : Int)).Key key = true ∨ d = true → xs.length + 1 ≤ u + 1 + 1 → PutT s key val (u + 1) (xs ++ [nth s (u : Int)]) d := fun d hd hor hlen => by
   subst hd
   refine ⟨h, ?_, fun x => ?_, fun hdn => ⟨fun x hx => ?_, ?_⟩, fun hdn y hy => h4 hdn y (hdr' y hy), by simp only [List.length_append, List.length_singleton]; omega, fun z hz => ?_⟩
   ·rw [keys_app]
    refine ss_snocT h1 fun y hy => ?_
    rcases (h2 y).1 hy with hy | ⟨hd, rfl⟩
    ·exact b1 y hy
    ·exact h4 hd _ hcur
   ·rw [keys_app, List.mem_append, h2, keys_take h, List.mem_append]
    constructor
    ·rintro ((hx | hx) | hx)
     ·exact .inl (.inl hx)
     ·exact .inr hx
     ·exact .inl (.inr hx)
    ·rintro ((hx | hx) | hx)
     ·exact .inl (.inl hx)
     ·exact .inr hx
     ·exact .inl (.inr hx)
   ·rw [keys_take h] at hx
    rcases List.mem_append.1 hx with hx | hx
    ·exact (h3 hdn).1 x hx
    ·rw [List.mem_singleton.1 hx]
     rcases hor with hor | hor
     ·exact hor
     ·rw [hdn] at hor; cases hor
   ·rw [(h3 hdn).2, ← take_nth s h]
   ·rcases List.mem_append.1 hz with hz | hz
    ·exact h6 z hz
    ·rw [List.mem_singleton.1 hz]; exact .inl hin
  cases done with
  | true =>
   rw [if_neg (by decide)]
   have hlt := h4 rfl _ hcur
   have hne : (nth s (u : Int)).Key ≠ key := fun e => by rw [e, less_irr] at hlt; cases hlt
   refine ⟨by omega, ?_⟩
   rw [if_pos (by rw [bne_iff_ne]; exact hne)]
   exact ⟨by omega, by simp only [List.length_cons, List.length_nil]; omega, by omega, ⟨u + 1, by omega, stay true rfl (.inr rfl) (by omega)⟩, by dsimp only; omega⟩
  | false =>
   rw [if_pos (by decide)]
   obtain ⟨c1, c2⟩ := h3 rfl
   have hxl : xs.length = u := by rw [c2, List.length_take]; omega
   refine ⟨by omega, ?_⟩
   cases k : Op.bytesLess (nth s (u : Int)).Key key with
   | true =>
    rw [if_neg (by decide)]
    have hne : (nth s (u : Int)).Key ≠ key := fun e => by rw [e, less_irr] at k; cases k
    refine ⟨by omega, ?_⟩
    rw [if_pos (by rw [bne_iff_ne]; exact hne)]
    exact ⟨by omega, by simp only [List.length_cons, List.length_nil]; omega, by omega, ⟨u + 1, by omega, stay false rfl (.inl k) (by omega)⟩, by dsimp only; omega⟩
   | false =>
    rw [if_pos (by decide)]
    have g1 : SS (keysT (xs ++ [(⟨key, val⟩ : Tag)])) := by
     rw [keys_app]
     refine ss_snocT h1 fun y hy => ?_
     rcases (h2 y).1 hy with hy | ⟨hd, _⟩
     ·exact c1 y hy
     ·cases hd
    refine ⟨by simp only [List.length_cons, List.length_nil]; omega, by omega, ?_⟩
    by_cases hne : (nth s (u : Int)).Key = key
    ·rw [if_neg (by rw [hne]; simp)]
     refine ⟨by omega, ⟨u + 1, by omega, h, g1, fun x => ?_, (fun hd => by cases hd), fun _ y hy => by rw [← hne]; exact b2 y hy, by simp only [List.length_append, List.length_singleton]; omega, fun z hz => ?_⟩, by dsimp only; omega⟩
     ·rw [keys_app, List.mem_append, h2, keys_take h, List.mem_append, hne]
      show _ ∨ x ∈ [key] ↔ _
      rw [List.mem_singleton]
      constructor
      ·rintro ((hx | ⟨hd, _⟩) | hx)
       ·exact .inl (.inl hx)
       ·cases hd
       ·exact .inr ⟨rfl, hx⟩
      ·rintro ((hx | hx) | ⟨_, hx⟩)
       ·exact .inl (.inl hx)
       ·exact .inr hx
       ·exact .inr hx
     ·rcases List.mem_append.1 hz with hz | hz
      ·exact h6 z hz
      ·exact .inr (List.mem_singleton.1 hz)
    ·rw [if_pos (by rw [bne_iff_ne]; exact hne)]
     have hlt : Op.bytesLess key (nth s (u : Int)).Key = true := by
      rcases less_or k with g | g
      ·exact g
      ·exact absurd g.symm hne
     refine ⟨by omega, by simp only [List.length_append, List.length_cons, List.length_nil]; omega, by omega, ⟨u + 1, by omega, h, ?_, fun x => ?_, (fun hd => by cases hd), fun _ y hy => less_trans hlt (b2 y hy), by simp only [List.length_append, List.length_singleton]; omega, fun z hz => ?_⟩, by dsimp only; omega⟩
     ·rw [keys_app]
      refine ss_snocT g1 fun y hy => ?_
      rw [keys_app] at hy
      rcases List.mem_append.1 hy with hy | hy
      ·rcases (h2 y).1 hy with hy | ⟨hd, _⟩
       ·exact b1 y hy
       ·cases hd
      ·have hy : y = key := List.mem_singleton.1 hy
       rw [hy]; exact hlt
     ·rw [keys_app, keys_app, List.mem_append, List.mem_append, h2, keys_take h, List.mem_append]
      show (_ ∨ x ∈ [key]) ∨ x ∈ [(nth s (u : Int)).Key] ↔ _
      rw [List.mem_singleton, List.mem_singleton]
      constructor
      ·rintro (((hx | ⟨hd, _⟩) | hx) | hx)
       ·exact .inl (.inl hx)
       ·cases hd
       ·exact .inr ⟨rfl, hx⟩
       ·exact .inl (.inr hx)
      ·rintro ((hx | hx) | ⟨_, hx⟩)
       ·exact .inl (.inl (.inl hx))
       ·exact .inr hx
       ·exact .inl (.inr hx)
     ·rcases List.mem_append.1 hz with hz | hz
      ·rcases List.mem_append.1 hz with hz | hz
       ·exact h6 z hz
       ·exact .inr (List.mem_singleton.1 hz)
      ·rw [List.mem_singleton.1 hz]; exact .inl hin
 ·rw [if_neg (by simpa using h)]
  have : u = s.length := by omega
  subst this
  rw [List.take_length] at h2 h3
  cases done with
  | true =>
   rw [if_neg (by decide)]
   exact hq xs h1 (fun x => by rw [h2]; simp) h5 h6
  | false =>
   rw [if_pos (by decide)]
   obtain ⟨c1, c2⟩ := h3 rfl
   refine ⟨by simp only [List.length_cons, List.length_nil]; omega, hq _ ?_ (fun x => ?_) (by rw [c2]; simp) fun z hz => ?_⟩
   ·rw [keys_app]
    refine ss_snocT h1 fun y hy => ?_
    rcases (h2 y).1 hy with hy | ⟨hd, _⟩
    ·exact c1 y hy
    ·cases hd
   ·rw [keys_app, List.mem_append, h2]
    show _ ∨ x ∈ [key] ↔ _
    rw [List.mem_singleton]; simp
   ·rcases List.mem_append.1 hz with hz | hz
    ·exact h6 z hz
    ·exact .inr (List.mem_singleton.1 hz)
theorem keys_drawn {s : List Tag} {k v : Str} (hk : k ∈ keyL) (hv : v ∈ valL) (h : ∀ x ∈ s, DT x) {r : List Tag} (hr : ∀ z ∈ r, z ∈ s ∨ z = ⟨k, v⟩) : ∀ x ∈ r, DT x := fun x hx => by
 rcases hr x hx with g | rfl
 ·exact h x g
 ·exact ⟨hk, hv⟩
theorem F58.law (b : List UInt8) (p : Int) (id : Str) (Q : Feat → Int → Prop) (hb : b.length ≤ 2000) (hp : 0 ≤ p) (hp1 : p ≤ 10000000) (hq : ∀ s t p', shapeOk s = true → SS (keysT t) → t.length ≤ 3 → (∀ x ∈ t, DT x) → p ≤ p' → p' ≤ p + 60 → Q ⟨id, s, t⟩ p') : F58.E b p id Q := by
 unfold F58.E
 refine F46.law _ _ _ hb hp (by omega) fun s p1 hs p0 p2 => F15.law _ _ _ _ hb (by omega) (by omega) fun k hk0 hk1 => ?_
 refine ⟨fun i t z => 0 ≤ i ∧ i ≤ 3 ∧ SS (keysT t) ∧ (t.length : Int) + i ≤ 3 ∧ (∀ x ∈ t, DT x) ∧ p ≤ z ∧ z ≤ p + 41 + 2 * (3 - i), fun i _ _ => i.toNat, ⟨by omega, by omega, List.Pairwise.nil, by simp only [List.length_nil]; omega, by simp, by omega, by omega⟩, ?_⟩
 rintro i t z ⟨h0, h1, h2, h3, h4, h5, h6⟩
 by_cases hi : i > 0
 case neg => rw [if_neg (by simpa using hi)]; exact hq _ _ _ hs h2 (by omega) h4 h5 (by omega)
 rw [if_pos (by simpa using hi)]
 refine F94.law _ _ _ hb (by omega) (by omega) fun key hkey => F95.law _ _ _ hb (by omega) (by omega) fun val hval => F96.law _ _ _ _ (by omega) h2 fun r r1 r2 r3 r4 => ⟨by unfold I64; omega, ⟨by omega, by omega, r1, by omega, keys_drawn hkey hval h4 r4, by omega, by omega⟩, by dsimp only; omega⟩
theorem feat_drawn {id : Str} {s : Shape} {t : List Tag} (h1 : wordOk id = true) (h2 : shapeOk s = true) (h3 : SS (keysT t)) (h4 : t.length ≤ 3) (h5 : ∀ x ∈ t, DT x) : featOk ⟨id, s, t⟩ = true := feat_of h1 h2 h3 (by omega) fun x hx => (h5 x hx).ok
theorem F106.law (b : List UInt8) (p : Int) (Q : Str → Int → Prop) (hb : b.length ≤ 2000) (hp : 0 ≤ p) (hp1 : p ≤ 1000000000) (hq : ∀ k ∈ idL, Q k (p + 1)) : F106.E b p Q := by
 unfold F106.E
 exact F33.law _ _ _ _ hb hp (by omega) (by decide) hq
theorem F66.law (b : List UInt8) (p : Int) (Q : Shape → Int → Prop) (hb : b.length ≤ 2000) (hp : 0 ≤ p) (hp1 : p ≤ 10000000) (hq : ∀ s p', s.Pts.length ≤ 7 → p ≤ p' → p' ≤ p + 50 → Q s p') : F66.E b p Q := by
 unfold F66.E
 refine F46.law _ _ _ hb hp (by omega) fun s p1 hs p0 p2 => F15.law _ _ _ _ hb (by omega) (by omega) fun k hk0 hk1 => F15.law _ _ _ _ hb (by omega) (by omega) fun v hv0 hv1 => ?_
 have l1 := shape_pos hs
 have l2 := shape_pts hs
 split
 ·exact F24.law _ _ _ _ hb (by omega) (by omega) (by decide) fun n hn => hq _ _ (by dsimp only; omega) (by omega) (by omega)
 split
 ·exact F24.law _ _ _ _ hb (by omega) (by omega) (by decide) fun n hn => ⟨by omega, hq _ _ (by simp only [List.length_set]; omega) (by omega) (by omega)⟩
 split
 ·exact ⟨fun _ => by unfold I64; omega, by omega, by simp only [List.length_cons, List.length_nil]; omega, hq _ _ (by simp only [List.length_append, List.length_cons, List.length_nil]; omega) (by omega) (by omega)⟩
 split
 ·exact ⟨by omega, hq _ _ (by simp only [List.length_take, List.length_drop]; omega) (by omega) (by omega)⟩
 exact hq _ _ (by omega) (by omega) (by omega)
theorem F67.law (b : List UInt8) (p : Int) (Q : Feat → Int → Prop) (hb : b.length ≤ 2000) (hp : 0 ≤ p) (hp1 : p ≤ 1000000) (hq : ∀ f p', FB 4 f → (∀ x ∈ f.Tags, plainK x.Key) → f.Id ≠ zzI → p ≤ p' → p' ≤ p + 120 → Q f p') : F67.E b p Q := by
 unfold F67.E
 refine F106.law _ _ _ hb hp (by omega) fun id hid => F58.law _ _ _ _ hb (by omega) (by omega) fun s t p1 hs ht tl td p2 p3 => F15.law _ _ _ _ hb (by omega) (by omega) fun v hv0 hv1 => ?_
 have li := word_len (idL_ok _ hid)
 have lp := shape_pts hs
 have tp : ∀ x ∈ t, plainK x.Key := fun x hx => keyL_plain _ (td x hx).1
 have tw : ∀ x ∈ t, x.Key.length ≤ 6 ∧ x.Val.length ≤ 6 := fun x hx => (td x hx).len
 have iz := idL_nz _ hid
 split
 ·refine F33.law _ _ _ _ hb (by omega) (by omega) (by decide) fun w hw => hq _ _ ⟨?_, by dsimp only; omega, by dsimp only; omega, tw⟩ tp ?_ (by omega) (by omega)
  all_goals
   simp only [List.mem_cons, List.not_mem_nil, or_false] at hw
   dsimp only
   rcases hw with rfl | rfl | rfl <;> decide
 split
 ·exact F66.law _ _ _ hb (by omega) (by omega) fun s' p4 h4 h5 h6 => hq _ _ ⟨by dsimp only; omega, h4, by dsimp only; omega, tw⟩ tp iz (by omega) (by omega)
 split
 ·refine ⟨by simp only [List.length_cons, List.length_nil]; omega, hq _ _ ⟨by dsimp only; omega, by dsimp only; omega, by simp only [List.length_append, List.length_cons, List.length_nil]; omega, fun x hx => ?_⟩ (fun x hx => ?_) iz (by omega) (by omega)⟩
  ·rcases List.mem_append.1 hx with hx | hx
   ·exact tw x hx
   ·rw [List.mem_singleton.1 hx]; decide
  ·rcases List.mem_append.1 hx with hx | hx
   ·exact tp x hx
   ·rw [List.mem_singleton.1 hx]; unfold plainK; dsimp only; decide
 split
 ·refine F33.law _ _ _ _ hb (by omega) (by omega) (by decide) fun w hw => ⟨by simp only [List.length_cons, List.length_nil]; omega, hq _ _ ⟨by dsimp only; omega, by dsimp only; omega, by simp only [List.length_append, List.length_cons, List.length_nil]; omega, fun x hx => ?_⟩ (fun x hx => ?_) iz (by omega) (by omega)⟩
  ·rcases List.mem_append.1 hx with hx | hx
   ·exact tw x hx
   ·rw [List.mem_singleton.1 hx]
    simp only [List.mem_cons, List.not_mem_nil, or_false] at hw
    rcases hw with rfl | rfl <;> decide
  ·rcases List.mem_append.1 hx with hx | hx
   ·exact tp x hx
   ·rw [List.mem_singleton.1 hx]; unfold plainK; dsimp only; decide
 exact hq _ _ ⟨by dsimp only; omega, by dsimp only; omega, by dsimp only; omega, tw⟩ tp iz (by omega) (by omega)
theorem F61.law (b : List UInt8) (p : Int) (s : Shape) (Q : Shape → Int → Prop) (hb : b.length ≤ 2000) (hp : 0 ≤ p) (hp1 : p ≤ 10000000) (hs : s.Pts.length ≤ 1000) (hq : ∀ r p', (r = s ∨ shapeOk r = true) → p ≤ p' → p' ≤ p + 4 → Q r p') : F61.E b p s Q := by
 unfold F61.E
 by_cases h0 : (s.Pts.length : Int) = 0
 ·rw [if_pos (by simpa using h0)]; exact hq _ _ (.inl rfl) (by omega) (by omega)
 rw [if_neg (by simpa using h0)]
 refine F15.law _ _ _ _ hb hp (by omega) fun k hk0 hk1 => ⟨by omega, by simp only [List.length_take, List.length_drop, List.length_nil]; omega, F15.law _ _ _ _ hb (by omega) (by omega) fun v hv0 hv1 => ?_⟩
 have fin : ∀ (r : Shape) (z : Int), p ≤ z → z ≤ p + 4 → F45.E r (fun r5 => (if !r5 then Q s z else Q r z)) := fun r z h1 h2 => by
  refine F45.law _ _ ?_
  cases h : shapeOk r with
  | true => rw [if_neg (by decide)]; exact hq _ _ (.inr h) h1 h2
  | false => rw [if_pos (by decide)]; exact hq _ _ (.inl rfl) h1 h2
 split
 ·exact ⟨by omega, F105.law _ _ _ hb (by omega) (by omega) fun x y _ _ _ _ => ⟨by simp only [List.length_append, List.length_take, List.length_drop, List.length_nil, List.length_cons]; omega, by simp only [List.length_append, List.length_take, List.length_drop, List.length_nil, List.length_cons]; omega, fin _ _ (by omega) (by omega)⟩⟩
 split
 ·exact ⟨fun _ => by unfold I64; omega, by omega, by simp only [List.length_append, List.length_take, List.length_drop, List.length_nil, List.length_cons]; omega, fin _ _ (by omega) (by omega)⟩
 exact ⟨fun _ => by unfold I64; omega, by omega, F105.law _ _ _ hb (by omega) (by omega) fun x y _ _ _ _ => ⟨by simp only [List.length_append, List.length_take, List.length_drop, List.length_nil, List.length_cons]; omega, by simp only [List.length_append, List.length_take, List.length_drop, List.length_nil, List.length_cons]; omega, fin _ _ (by omega) (by omega)⟩⟩
theorem F60.law (f : Feat) (Q : Feat → Prop) (hb : bulk f ≤ 1048576) (hq : Q f) : F60.E f Q := by
 unfold F60.E F59.E
 have h := bulk_feat f
 have h1 := bulk_len f.Tags
 have h2 := bulk_len f.Shape.Pts
 exact ⟨by simp only [List.length_nil]; omega, by simp only [List.length_nil]; omega, hq⟩
theorem F62.law (s : Str) (Q : Bool → Prop) (hq : Q (wordOk s)) : F62.E s Q := by
 unfold F62.E
 unfold wordOk at hq
 refine loop_all s.length (fun k => byteOk (nth s (k : Int))) (fun I mu k hk hp hn => ?_) (fun ha => ?_)
 ·refine ⟨by omega, ?_⟩
  cases h1 : decide (((nth s (k : Int)).toNat : Int) < 97) with
  | true => rw [if_pos rfl]; rw [allN_false hk (by simp only [byteOk, h1]; rfl), Bool.false_and] at hq; exact hq
  | false =>
   rw [if_neg (by decide)]
   refine ⟨by omega, ?_⟩
   cases h2 : decide (((nth s (k : Int)).toNat : Int) > 122) with
   | true => rw [if_pos rfl]; rw [allN_false hk (by simp only [byteOk, h1, h2]; rfl), Bool.false_and] at hq; exact hq
   | false =>
    rw [if_neg (by decide)]
    obtain ⟨i1, i2⟩ := hn (by simp only [byteOk, h1, h2]; rfl)
    exact ⟨by omega, i1, i2⟩
 ·rw [allN_true ha, Bool.true_and] at hq
  by_cases h : 1 ≤ s.length
  ·rw [decide_eq_true h, Bool.true_and] at hq
   rw [if_pos (by rw [decide_eq_true_eq]; omega)]
   have e2 : decide ((s.length : Int) ≤ 6) = decide (s.length ≤ 6) := decide_eq_decide.2 (by omega)
   rw [e2]; exact hq
  ·rw [decide_eq_false h, Bool.false_and] at hq
   rw [if_neg (by rw [decide_eq_true_eq]; omega)]; exact hq
theorem F63.law (t : List Tag) (Q : Bool → Prop) (hq : Q (tagsOk t && decide (t.length ≤ 4))) : F63.E t Q := by
 unfold F63.E
 unfold tagsOk at hq
 refine loop_all t.length (fun k => wordOk (nth t (k : Int)).Key && wordOk (nth t (k : Int)).Val && (decide (k = 0) || Op.bytesLess (nth t ((k : Int) - 1)).Key (nth t (k : Int)).Key)) (fun I mu k hk hp hn => ?_) (fun ha => ?_)
 ·have bad : (wordOk (nth t (k : Int)).Key && wordOk (nth t (k : Int)).Val && (decide (k = 0) || Op.bytesLess (nth t ((k : Int) - 1)).Key (nth t (k : Int)).Key)) = false → Q false := fun h => by
   rw [allN_false hk h, Bool.false_and] at hq; exact hq
  refine ⟨by omega, _, F62.law _ _ rfl, ?_⟩
  cases h1 : wordOk (nth t (k : Int)).Key with
  | false => rw [if_pos (by decide)]; exact bad (by rw [h1]; rfl)
  | true =>
   rw [if_neg (by decide)]
   refine ⟨by omega, _, F62.law _ _ rfl, ?_⟩
   cases h2 : wordOk (nth t (k : Int)).Val with
   | false => rw [if_pos (by decide)]; exact bad (by rw [h2, Bool.and_false]; rfl)
   | true =>
    rw [if_neg (by decide)]
    by_cases hk0 : k = 0
    ·rw [if_neg (by rw [decide_eq_true_eq]; omega)]
     obtain ⟨i1, i2⟩ := hn (by rw [h1, h2, decide_eq_true hk0]; rfl)
     exact ⟨by omega, i1, i2⟩
    ·rw [if_pos (by rw [decide_eq_true_eq]; omega)]
     refine ⟨by omega, fun _ => by unfold I64; omega, by omega, ?_⟩
     rw [← less_tri]
     cases h3 : Op.bytesLess (nth t ((k : Int) - 1)).Key (nth t (k : Int)).Key with
     | false => rw [if_pos (by decide)]; exact bad (by rw [h3, h1, h2, decide_eq_false hk0]; rfl)
     | true =>
      rw [if_neg (by decide)]
      obtain ⟨i1, i2⟩ := hn (by rw [h3, h1, h2, decide_eq_false hk0]; rfl)
      exact ⟨by omega, i1, i2⟩
 ·rw [allN_true ha, Bool.true_and] at hq
  have e2 : decide ((t.length : Int) ≤ 4) = decide (t.length ≤ 4) := decide_eq_decide.2 (by omega)
  rw [e2]; exact hq
theorem F64.law (f : Feat) (Q : Bool → Prop) (hq : Q (featOk f)) : F64.E f Q := by
 unfold F64.E
 unfold featOk at hq
 refine F62.law _ _ ?_
 cases h1 : wordOk f.Id with
 | false => rw [h1, Bool.and_false, Bool.false_and] at hq; rw [if_neg (by decide)]; exact hq
 | true =>
  rw [h1, Bool.and_true] at hq
  rw [if_pos rfl]
  refine F45.law _ _ ?_
  cases h2 : shapeOk f.Shape with
  | false => rw [h2, Bool.and_false] at hq; rw [if_neg (by decide)]; exact hq
  | true => rw [h2, Bool.and_true] at hq; rw [if_pos rfl]; exact F63.law _ _ hq
theorem F65.law (b : List UInt8) (p : Int) (f : Feat) (Q : Feat → Int → Prop) (hb : b.length ≤ 2000) (hp : 0 ≤ p) (hp1 : p ≤ 1000000) (hf : featOk f = true) (hq : ∀ r p', featOk r = true → r.Id = f.Id → p ≤ p' → p' ≤ p + 20 → Q r p') : F65.E b p f Q := by
 unfold F65.E
 have ff := feat_facts hf
 refine F60.law _ _ (Nat.le_trans (feat_small hf).1 (by decide)) (F15.law _ _ _ _ hb hp (by omega) fun k hk0 hk1 => ⟨by unfold I64; omega, ?_⟩)
 refine ⟨fun i kd pts t z => 0 ≤ i ∧ i ≤ 2 ∧ pts.length ≤ 6 ∧ SS (keysT t) ∧ (t.length : Int) ≤ 4 + (2 - i) ∧ p ≤ z ∧ z ≤ p + 1 + 5 * (2 - i), fun i _ _ _ _ => i.toNat, ⟨by omega, by omega, ff.2.2.1, featOk_tags hf, by omega, by omega, by omega⟩, ?_⟩
 rintro i kd pts t z ⟨h0, h1, h2, h3, h4, h5, h6⟩
 by_cases hi : i > 0
 case neg =>
  rw [if_neg (by simpa using hi)]
  refine F64.law _ _ ?_
  cases h : featOk ⟨f.Id, ⟨kd, pts⟩, t⟩ with
  | true => rw [if_neg (by decide)]; exact hq _ _ h rfl h5 (by omega)
  | false => rw [if_pos (by decide)]; exact hq _ _ hf rfl h5 (by omega)
 rw [if_pos (by simpa using hi)]
 refine F15.law _ _ _ _ hb (by omega) (by omega) fun v hv0 hv1 => ?_
 split
 ·exact F94.law _ _ _ hb (by omega) (by omega) fun key hkey => F95.law _ _ _ hb (by omega) (by omega) fun val hval => F96.law _ _ _ _ (by omega) h3 fun r r1 r2 r3 r4 => ⟨by unfold I64; omega, ⟨by omega, by omega, h2, r1, by omega, by omega, by omega⟩, by dsimp only; omega⟩
 split
 ·split
  ·rename_i g
   have g : (t.length : Int) > 0 := by simpa using g
   refine ⟨by omega, fun _ => by unfold I64; omega, ⟨by omega, by omega, h2, ?_, by simp only [List.length_take, List.length_drop]; omega, by omega, by omega⟩, by dsimp only; omega⟩
   unfold SS keysT at h3 ⊢
   exact List.Pairwise.sublist (((List.take_sublist _ _).trans (List.drop_sublist _ _)).map _) h3
  ·exact ⟨fun _ => by unfold I64; omega, ⟨by omega, by omega, h2, h3, by omega, by omega, by omega⟩, by dsimp only; omega⟩
 refine F61.law _ _ _ _ hb (by omega) (by omega) (by dsimp only; omega) fun r p' hr p1 p2 => ⟨by unfold I64; omega, ⟨by omega, by omega, ?_, h3, by omega, by omega, by omega⟩, by dsimp only; omega⟩
 rcases hr with rfl | hr
 ·exact h2
 ·exact shape_pts hr
theorem F11.law (code : List UInt8) (Q : Feat → Feat → Feat → Prop) (hq : ∀ o a b, FB 4 o → FB 4 a → FB 4 b → (∀ x ∈ o.Tags, plainK x.Key) → Q o a b) : F11.E code Q := by
 unfold F11.E
 refine F44.law _ _ fun b hb => F58.law _ _ _ _ hb (by omega) (by omega) fun s t p hs ht tl td p0 p1 => ?_
 have ho : featOk ⟨[97], s, t⟩ = true := feat_drawn (by decide) hs ht tl td
 have tp : ∀ x ∈ t, plainK x.Key := fun x hx => keyL_plain _ (td x hx).1
 refine F65.law _ _ _ _ hb (by omega) (by omega) ho fun a p2 ha _ p3 p4 => F65.law _ _ _ _ hb (by omega) (by omega) ho fun c p5 hc _ p6 p7 => F15.law _ _ _ _ hb (by omega) (by omega) fun v hv0 hv1 => ?_
 split
 ·exact F67.law _ _ _ hb (by omega) (by omega) fun o' p' h1 h2 _ _ _ => hq _ _ _ h1 (.of ha) (.of hc) h2
 split
 ·exact F67.law _ _ _ hb (by omega) (by omega) fun o' p' h1 h2 _ _ _ => hq _ _ _ (.of ho) h1 (.of hc) tp
 split
 ·exact F58.law _ _ _ _ hb (by omega) (by omega) fun s' t' p' hs' ht' tl' td' _ _ => hq _ _ _ (.of ho) (.of (feat_drawn (by decide) hs' ht' tl' td')) (.of hc) tp
 split
 ·exact F60.law _ _ (Nat.le_trans (feat_small ha).1 (by decide)) (hq _ _ _ (.of ho) (.of ha) (.of ha) tp)
 exact hq _ _ _ (.of ho) (.of ha) (.of hc) tp
theorem F9.law (code : List UInt8) (Q : Shape → Int → Int → Prop) (hq : ∀ s dx dy, s.Pts.length ≤ 7 → Q s dx dy) : F9.E code Q := by
 unfold F9.E
 exact F44.law _ _ fun b hb => F66.law _ _ _ hb (by omega) (by omega) fun s p hs p0 p1 => F24.law _ _ _ _ hb (by omega) (by omega) (by decide) fun dx _ => F24.law _ _ _ _ hb (by omega) (by omega) (by decide) fun dy _ => hq _ _ _ hs
theorem F68.law (n lo hi : Int) (Q : Bool → Prop) (hq : Q (decide (lo ≤ n) && decide (n ≤ hi))) : F68.E n lo hi Q := by
 unfold F68.E
 by_cases h : lo ≤ n
 ·rw [if_pos (by simpa using h)]; rw [decide_eq_true h, Bool.true_and] at hq; exact hq
 ·rw [if_neg (by simpa using h)]; rw [decide_eq_false h, Bool.false_and] at hq; exact hq
theorem F68.m_is (n lo hi : Int) : F68.m n lo hi = (decide (lo ≤ n) && decide (n ≤ hi)) := by
 unfold F68.m
 by_cases h : lo ≤ n
 ·rw [if_pos (by simpa using h), decide_eq_true h, Bool.true_and]
 ·rw [if_neg (by simpa using h), decide_eq_false h, Bool.false_and]
theorem F69.law (s : Str) (Q : Bool → Prop) (hl : s.length ≤ 1048576) (hq : Q (wordOk s)) : F69.E s Q := by
 unfold F69.E
 unfold wordOk at hq
 refine loop_all s.length (fun k => byteOk (nth s (k : Int))) (fun I mu k hk hp hn => ?_) (fun ha => ?_)
 ·refine ⟨by omega, ?_⟩
  cases h1 : decide (((nth s (k : Int)).toNat : Int) < 97) with
  | true => rw [if_pos rfl]; rw [allN_false hk (by simp only [byteOk, h1]; rfl), Bool.false_and] at hq; exact hq
  | false =>
   rw [if_neg (by decide)]
   refine ⟨by omega, ?_⟩
   cases h2 : decide (((nth s (k : Int)).toNat : Int) > 122) with
   | true => rw [if_pos rfl]; rw [allN_false hk (by simp only [byteOk, h1, h2]; rfl), Bool.false_and] at hq; exact hq
   | false =>
    rw [if_neg (by decide)]
    obtain ⟨i1, i2⟩ := hn (by simp only [byteOk, h1, h2]; rfl)
    exact ⟨by unfold I64; omega, i1, i2⟩
 ·rw [allN_true ha, Bool.true_and] at hq
  refine F68.law _ _ _ _ ?_
  have e1 : decide ((1 : Int) ≤ (s.length : Int)) = decide (1 ≤ s.length) := decide_eq_decide.2 (by omega)
  have e2 : decide ((s.length : Int) ≤ 6) = decide (s.length ≤ 6) := decide_eq_decide.2 (by omega)
  rw [e1, e2]; exact hq
theorem F107.law (p : Pt) (Q : Bool → Prop) (hq : Q (ptOk p)) : F107.E p Q := by
 unfold F107.E
 unfold ptOk at hq
 refine F68.law _ _ _ _ ?_
 change if inR p.X = true then _ else _
 cases h : inR p.X with
 | true => rw [if_pos rfl]; rw [h, Bool.true_and] at hq; exact F68.law _ _ _ _ hq
 | false => rw [if_neg (by decide)]; rw [h, Bool.false_and] at hq; exact hq
theorem F47.law (s : Shape) (Q : Bool → Prop) (hl : s.Pts.length ≤ 1048576) (hq : Q (shapeOk s)) : F47.E s Q := by
 unfold F47.E
 unfold shapeOk ptsOk at hq
 refine loop_all s.Pts.length (fun k => ptOk (nth s.Pts (k : Int)) && (decide (k = 0) || !(decide (nth s.Pts ((k : Int) - 1) = nth s.Pts (k : Int))))) (fun I mu k hk hp hn => ?_) (fun ha => ?_)
 ·refine ⟨by omega, _, F107.law _ _ rfl, ?_⟩
  have bad : (ptOk (nth s.Pts (k : Int)) && (decide (k = 0) || !(decide (nth s.Pts ((k : Int) - 1) = nth s.Pts (k : Int))))) = false → Q false := fun h => by
   rw [allN_false hk h, Bool.false_and] at hq; exact hq
  cases h1 : ptOk (nth s.Pts (k : Int)) with
  | false => rw [if_pos (by decide)]; exact bad (by rw [h1]; rfl)
  | true =>
   rw [if_neg (by decide)]
   by_cases hk0 : k = 0
   ·rw [if_neg (by rw [decide_eq_true_eq]; omega)]
    obtain ⟨i1, i2⟩ := hn (by rw [h1, decide_eq_true hk0]; rfl)
    exact ⟨by unfold I64; omega, i1, i2⟩
   ·rw [if_pos (by rw [decide_eq_true_eq]; omega)]
    refine ⟨by unfold I64; omega, by omega, ?_⟩
    rw [eqPt_is]
    by_cases he : nth s.Pts ((k : Int) - 1) = nth s.Pts (k : Int)
    ·rw [if_pos (by rw [decide_eq_true_eq]; exact he)]
     exact bad (by rw [h1, decide_eq_false hk0, decide_eq_true he]; rfl)
    ·rw [if_neg (by rw [decide_eq_true_eq]; exact he)]
     obtain ⟨i1, i2⟩ := hn (by simp only [h1, decide_eq_false hk0, decide_eq_false he]; rfl)
     exact ⟨by unfold I64; omega, i1, i2⟩
 ·rw [allN_true ha, Bool.true_and] at hq
  unfold kindOk at hq
  by_cases k1 : s.Kind = 1
  ·rw [if_pos k1] at hq
   rw [if_pos (by rw [beq_iff_eq]; exact k1)]
   have : ((s.Pts.length : Int) == 1) = decide (s.Pts.length = 1) := by rw [Bool.eq_iff_iff, beq_iff_eq, decide_eq_true_eq]; omega
   rw [this]; exact hq
  rw [if_neg k1] at hq
  rw [if_neg (by rw [beq_iff_eq]; exact k1)]
  have e2 : decide ((2 : Int) ≤ (s.Pts.length : Int)) = decide (2 ≤ s.Pts.length) := decide_eq_decide.2 (by omega)
  have e3 : decide ((3 : Int) ≤ (s.Pts.length : Int)) = decide (3 ≤ s.Pts.length) := decide_eq_decide.2 (by omega)
  have e6 : decide ((s.Pts.length : Int) ≤ 6) = decide (s.Pts.length ≤ 6) := decide_eq_decide.2 (by omega)
  by_cases k2 : s.Kind = 2
  ·rw [if_pos k2] at hq
   rw [if_pos (by rw [beq_iff_eq]; exact k2)]
   refine F68.law _ _ _ _ ?_
   rw [e2, e6]; exact hq
  rw [if_neg k2] at hq
  rw [if_neg (by rw [beq_iff_eq]; exact k2)]
  by_cases k3 : s.Kind = 3
  ·rw [if_pos k3] at hq
   rw [if_pos (by rw [beq_iff_eq]; exact k3), F68.m_is, e3, e6]
   cases hc : decide (3 ≤ s.Pts.length) && decide (s.Pts.length ≤ 6) with
   | true =>
    rw [hc, Bool.true_and] at hq
    rw [Bool.and_eq_true, decide_eq_true_eq, decide_eq_true_eq] at hc
    rw [if_pos rfl, eqPt_is]
    exact ⟨by omega, fun _ => by unfold I64; omega, by omega, hq⟩
   | false =>
    rw [hc, Bool.false_and] at hq
    rw [if_neg (by decide)]; exact hq
  ·rw [if_neg k3] at hq
   rw [if_neg (by rw [beq_iff_eq]; exact k3)]; exact hq
theorem F70.law (f : Feat) (Q : Bool → Prop) (hb : bulk f ≤ 1048576) (hq : Q (featOk f)) : F70.E f Q := by
 unfold F70.E
 unfold featOk at hq
 have b1 : bulk f = bulk f.Id + bulk f.Shape + bulk f.Tags := rfl
 have b2 : bulk f.Shape = bulk f.Shape.Kind + bulk f.Shape.Pts := rfl
 have l1 := bulk_len f.Tags; have l2 := bulk_len f.Shape.Pts; have l3 := bulk_len f.Id
 have core : (tagsOk f.Tags = true → F69.E f.Id (fun r3 => (if r3 then F47.E f.Shape (fun r4 => (if r4 then Q (decide ((f.Tags.length : Int) ≤ 4)) else Q false)) else Q false))) := fun ha => by
  rw [ha, Bool.true_and] at hq
  refine F69.law _ _ (by omega) ?_
  cases h1 : wordOk f.Id with
  | false => rw [h1, Bool.and_false, Bool.false_and] at hq; rw [if_neg (by decide)]; exact hq
  | true =>
   rw [h1, Bool.and_true] at hq
   rw [if_pos rfl]
   refine F47.law _ _ (by omega) ?_
   cases h2 : shapeOk f.Shape with
   | false => rw [h2, Bool.and_false] at hq; rw [if_neg (by decide)]; exact hq
   | true =>
    rw [h2, Bool.and_true] at hq; rw [if_pos rfl]
    have e2 : decide ((f.Tags.length : Int) ≤ 4) = decide (f.Tags.length ≤ 4) := decide_eq_decide.2 (by omega)
    rw [e2]; exact hq
 have bad : tagsOk f.Tags = false → Q false := fun h => by
  rw [h, Bool.false_and, Bool.false_and, Bool.false_and] at hq; exact hq
 unfold tagsOk at core bad
 refine loop_all f.Tags.length (fun k => wordOk (nth f.Tags (k : Int)).Key && wordOk (nth f.Tags (k : Int)).Val && (decide (k = 0) || Op.bytesLess (nth f.Tags ((k : Int) - 1)).Key (nth f.Tags (k : Int)).Key)) (fun I mu k hk hp hn => ?_) (fun ha => core (allN_true ha))
 have bad := fun h => bad (allN_false hk h)
 have m1 := bulk_mem (nth_mem f.Tags hk)
 have m2 : bulk (nth f.Tags (k : Int)) = bulk (nth f.Tags (k : Int)).Key + bulk (nth f.Tags (k : Int)).Val := rfl
 have m3 := bulk_len (nth f.Tags (k : Int)).Key; have m4 := bulk_len (nth f.Tags (k : Int)).Val
 refine ⟨by omega, _, F69.law _ _ (by omega) rfl, ?_⟩
 cases h1 : wordOk (nth f.Tags (k : Int)).Key with
 | false => rw [if_pos (by decide)]; exact bad (by rw [h1]; rfl)
 | true =>
  rw [if_neg (by decide)]
  refine ⟨_, F69.law _ _ (by omega) rfl, ?_⟩
  cases h2 : wordOk (nth f.Tags (k : Int)).Val with
  | false => rw [if_pos (by decide)]; exact bad (by rw [h2, Bool.and_false]; rfl)
  | true =>
   rw [if_neg (by decide)]
   by_cases hk0 : k = 0
   ·rw [if_neg (by rw [decide_eq_true_eq]; omega)]
    obtain ⟨i1, i2⟩ := hn (by rw [h1, h2, decide_eq_true hk0]; rfl)
    exact ⟨by unfold I64; omega, i1, i2⟩
   ·rw [if_pos (by rw [decide_eq_true_eq]; omega)]
    refine ⟨by unfold I64; omega, by omega, ?_⟩
    cases h3 : Op.bytesLess (nth f.Tags ((k : Int) - 1)).Key (nth f.Tags (k : Int)).Key with
    | false => rw [if_pos (by decide)]; exact bad (by rw [h3, h1, h2, decide_eq_false hk0]; rfl)
    | true =>
     rw [if_neg (by decide)]
     obtain ⟨i1, i2⟩ := hn (by rw [h3, h1, h2, decide_eq_false hk0]; rfl)
     exact ⟨by unfold I64; omega, i1, i2⟩
theorem F16.law (a b : List Pt) (Q : Bool → Prop) (hb : a.length ≤ 1048576) (hq : Q (decide (a = b))) : F16.E a b Q := by
 unfold F16.E
 exact eqI_shape eqPt eqPt_is a b Q hb hq
theorem F25.law (a b : Shape) (Q : Bool → Prop) (hl : a.Pts.length ≤ 1048576) (hq : Q (decide (a = b))) : F25.E a b Q := by
 unfold F25.E
 by_cases h : a.Kind = b.Kind
 ·rw [if_pos (by rw [beq_iff_eq]; exact h)]
  refine F16.law _ _ _ (by omega) ?_
  have : decide (a.Pts = b.Pts) = decide (a = b) := decide_eq_decide.2 (by rw [Shape.ext_iff']; exact ⟨fun e => ⟨h, e⟩, fun e => e.2⟩)
  rw [this]; exact hq
 ·rw [if_neg (by rw [beq_iff_eq]; exact h)]
  rw [decide_eq_false (by rw [Shape.ext_iff']; exact fun e => h e.1)] at hq; exact hq
theorem F48.law (a b : List Pt) (Q : List (List Int) → Prop) (ha : a.length ≤ 1048576) (hb : b.length ≤ 1048576) (hq : ∀ t, Tab a b (fun _ _ => True) t → Q t) : F48.E a b Q := by
 unfold F48.E
 have hn : ((b.length : Int) + 1).toNat = b.length + 1 := by omega
 have hm : ((a.length : Int) + 1).toNat = a.length + 1 := by omega
 rw [hn, hm]
 refine ⟨fun _ => by unfold I64; omega, by omega, fun xs v => ∃ k : Nat, v = k ∧ k ≤ a.length + 1 ∧ xs.length = a.length + 1 ∧ ∀ r : Nat, r < k → nth xs (r : Int) = List.replicate (b.length + 1) 0, fun _ v => (a.length + 1 - v).toNat,
  ⟨0, rfl, Nat.zero_le _, by simp, fun r hr => absurd hr (Nat.not_lt_zero _)⟩, ?_⟩
 rintro xs _ ⟨k, rfl, hk, hl, hx⟩
 rw [List.length_replicate]
 by_cases hk0 : (k : Int) < ((a.length + 1 : Nat) : Int)
 ·rw [if_pos (by simpa using hk0)]
  refine ⟨fun _ => by unfold I64; omega, by omega, by omega, fun _ => by unfold I64; omega, ⟨k + 1, by omega, by omega, by rw [List.length_set]; exact hl, fun r hr => ?_⟩, by dsimp only; omega⟩
  rw [Int.toNat_natCast, nth_set _ (by omega)]
  by_cases e : r = k
  ·rw [if_pos e]
  ·rw [if_neg e]; exact hx r (by omega)
 rw [if_neg (by simpa using hk0)]
 refine ⟨fun _ => by unfold I64; omega, fun xs i => ∃ k : Nat, i = (k : Int) - 1 ∧ k ≤ a.length ∧ Tab a b (fun r m => k ≤ r ∨ m = b.length) xs, fun _ i => (i + 1).toNat, ⟨a.length, rfl, Nat.le_refl _, hl, fun r hr => ?_⟩, ?_⟩
 ·rw [hx r (by omega)]
  refine ⟨by simp, fun m hm hd => ?_⟩
  rw [nth_rep _ _ _ (by omega)]
  rcases hd with hd | hd
  ·rw [List.drop_of_length_le (by omega : a.length ≤ r), lcs_nil]; rfl
  ·rw [hd, List.drop_length, lcs_nil2]; rfl
 clear hx hl hk0 hk xs k
 rintro xs _ ⟨k, rfl, hk, ht⟩
 by_cases hk0 : (k : Int) - 1 ≥ 0
 ·rw [if_pos (by simpa using hk0)]
  obtain ⟨i, rfl⟩ : ∃ i, k = i + 1 := ⟨k - 1, by omega⟩
  have ei : ((i + 1 : Nat) : Int) - 1 = (i : Int) := by omega
  have ei1 : (i : Int) + 1 = ((i + 1 : Nat) : Int) := by omega
  rw [ei]
  refine ⟨fun _ => by unfold I64; omega, fun ys j => ∃ m : Nat, j = (m : Int) - 1 ∧ m ≤ b.length ∧ Tab a b (fun r u => i < r ∨ (r = i ∧ m ≤ u) ∨ u = b.length) ys, fun _ j => (j + 1).toNat, ⟨b.length, rfl, Nat.le_refl _, ht.1, fun r hr => ⟨(ht.2 r hr).1, fun m hm hd => (ht.2 r hr).2 m hm ?_⟩⟩, ?_⟩
  ·omega
  rintro ys _ ⟨m, rfl, hm, hs⟩
  by_cases hm0 : (m : Int) - 1 ≥ 0
  ·rw [if_pos (by simpa using hm0)]
   obtain ⟨j, rfl⟩ : ∃ j, m = j + 1 := ⟨m - 1, by omega⟩
   have ej : ((j + 1 : Nat) : Int) - 1 = (j : Int) := by omega
   have ej1 : (j : Int) + 1 = ((j + 1 : Nat) : Int) := by omega
   rw [ej, ej1, ei1, eqPt_is]
   have hl := lcs_drop a b (i := i) (j := j) (by omega) (by omega)
   have s0 := hs.1
   have s1 := hs.2 i (by omega)
   have s2 := hs.2 (i + 1) (by omega)
   have n1 := s2.2 (j + 1) (by omega) (.inl (by omega))
   have n2 := s2.2 j (by omega) (.inl (by omega))
   have n3 := s1.2 (j + 1) (by omega) (.inr (.inl ⟨rfl, by omega⟩))
   have l1 := s1.1
   have l2 := s2.1
   have b1 := lcs_le2 (a.drop (i + 1)) (b.drop (j + 1))
   rw [List.length_drop] at b1
   have hset : ∀ v : Int, v = (lcs (a.drop i) (b.drop j) : Nat) → Tab a b (fun r u => i < r ∨ (r = i ∧ j ≤ u) ∨ u = b.length) (ys.set (i : Int).toNat ((nth ys (i : Int)).set (j : Int).toNat v)) := fun v hv => by
    rw [Int.toNat_natCast, Int.toNat_natCast]
    exact hs.set (by omega) (by omega) hv fun r u h => by omega
   refine ⟨by omega, by omega, ?_⟩
   by_cases he : nth a (i : Int) = nth b (j : Int)
   ·rw [if_pos (by simpa using he)]
    rw [if_pos he] at hl
    rw [n1]
    exact ⟨by omega, by unfold I64; omega, by omega, by unfold I64; omega, by omega, by unfold I64; omega, by omega, by unfold I64; omega, ⟨j, by omega, by omega, hset _ (by omega)⟩, by dsimp only; omega⟩
   ·rw [if_neg (by simpa using he)]
    rw [if_neg he] at hl
    rw [n2, n3]
    exact ⟨by omega, by unfold I64; omega, by omega, by omega, by omega, by unfold I64; omega, by omega, by omega, by unfold I64; omega, ⟨j, by omega, by omega, hset _ (by omega)⟩, by dsimp only; omega⟩
  ·rw [if_neg (by simpa using hm0)]
   have : m = 0 := by omega
   subst this
   refine ⟨by unfold I64; omega, ⟨i, by omega, by omega, hs.1, fun r hr => ⟨(hs.2 r hr).1, fun m hm hd => (hs.2 r hr).2 m hm ?_⟩⟩, by dsimp only; omega⟩
   omega
 ·rw [if_neg (by simpa using hk0)]
  have : k = 0 := by omega
  subst this
  exact hq _ ⟨ht.1, fun r hr => ⟨(ht.2 r hr).1, fun m hm _ => (ht.2 r hr).2 m hm (.inl (Nat.zero_le _))⟩⟩
theorem F34.law (a b : List Pt) (Q : List Pair → Prop) (hq : Q (spairs a b)) : F34.E a b Q := by
 unfold F34.E
 unfold spairs at hq
 by_cases h1 : (a.length : Int) > 12
 ·rw [if_pos (by simpa using h1)]
  rw [if_neg (by rw [few_iff]; omega)] at hq; exact hq
 rw [if_neg (by simpa using h1)]
 by_cases h2 : (b.length : Int) > 12
 ·rw [if_pos (by simpa using h2)]
  rw [if_neg (by rw [few_iff]; omega)] at hq; exact hq
 rw [if_neg (by simpa using h2)]
 rw [if_pos (by rw [few_iff]; omega)] at hq
 refine F48.law _ _ _ (by omega) (by omega) fun t ht => ?_
 refine ⟨fun xs i j => ∃ u v : Nat, i = u ∧ j = v ∧ u ≤ a.length ∧ v ≤ b.length ∧ xs ++ (pairs u v (a.drop u) (b.drop v)).map mkP = (pairs 0 0 a b).map mkP, fun _ i j => ((a.length - i) + (b.length - j)).toNat, ⟨0, 0, rfl, rfl, Nat.zero_le _, Nat.zero_le _, rfl⟩, ?_⟩
 rintro xs _ _ ⟨u, v, rfl, rfl, hu, hv, hx⟩
 by_cases hu0 : (u : Int) < (a.length : Int)
 ·rw [if_pos (by simpa using hu0)]
  by_cases hv0 : (v : Int) < (b.length : Int)
  ·rw [if_pos (by simpa using hv0)]
   have hu1 : u < a.length := by omega
   have hv1 : v < b.length := by omega
   rw [pairs_drop a b hu1 hv1] at hx
   have eu : (u : Int) + 1 = ((u + 1 : Nat) : Int) := by omega
   have ev : (v : Int) + 1 = ((v + 1 : Nat) : Int) := by omega
   rw [eqPt_is, eu, ev]
   refine ⟨by omega, by omega, ?_⟩
   by_cases he : nth a (u : Int) = nth b (v : Int)
   ·rw [if_pos (by simpa using he)]
    rw [if_pos he, List.map_cons] at hx
    have hl := congrArg List.length hx
    rw [List.length_map, pairs_len, List.length_append] at hl
    have := lcs_le1 a b
    exact ⟨by simp only [List.length_singleton]; omega, by omega, by omega, ⟨u + 1, v + 1, rfl, rfl, by omega, by omega, by rw [List.append_assoc]; exact hx⟩, by dsimp only; omega⟩
   ·rw [if_neg (by simpa using he)]
    rw [if_neg he] at hx
    have t0 := ht.1
    have t1 := ht.2 u (by omega)
    have t2 := ht.2 (u + 1) (by omega)
    have n1 := t2.2 v (by omega) trivial
    have n2 := t1.2 (v + 1) (by omega) trivial
    have l1 := t1.1
    have l2 := t2.1
    refine ⟨by omega, by omega, by omega, by omega, by omega, by omega, ?_⟩
    rw [n1, n2]
    by_cases hc : lcs (a.drop u) (b.drop (v + 1)) ≤ lcs (a.drop (u + 1)) (b.drop v)
    ·rw [if_pos (by simpa using hc)]
     rw [if_pos hc] at hx
     exact ⟨by omega, ⟨u + 1, v, rfl, rfl, by omega, by omega, hx⟩, by dsimp only; omega⟩
    ·rw [if_neg (by simpa using hc)]
     rw [if_neg hc] at hx
     exact ⟨by omega, ⟨u, v + 1, rfl, rfl, by omega, by omega, hx⟩, by dsimp only; omega⟩
  ·rw [if_neg (by simpa using hv0)]
   rw [List.drop_of_length_le (by omega : b.length ≤ v), pairs_nil2, List.map_nil, List.append_nil] at hx
   rw [hx]; exact hq
 ·rw [if_neg (by simpa using hu0)]
  rw [List.drop_of_length_le (by omega : a.length ≤ u), pairs_nil, List.map_nil, List.append_nil] at hx
  rw [hx]; exact hq
theorem F49.law (l : List Pair) (k : Int) (Q : Int → Prop) (hl : l.length ≤ 1048576) (hq : Q (mateI l k)) : F49.E l k Q := by
 unfold F49.E
 refine ⟨fun i => ∃ u : Nat, i = u ∧ u ≤ l.length ∧ mateI (l.drop u) k = mateI l k, fun i => (l.length - i).toNat, ⟨0, rfl, Nat.zero_le _, rfl⟩, ?_⟩
 rintro _ ⟨u, rfl, hu, he⟩
 by_cases h : (u : Int) < (l.length : Int)
 ·rw [if_pos (by simpa using h)]
  rw [drop_nth l (by omega), mateI_cons] at he
  refine ⟨by omega, ?_⟩
  by_cases hc : ((nth l (u : Int)).A == k) = true
  ·rw [if_pos hc] at he ⊢
   rw [he]; exact hq
  ·rw [if_neg hc] at he ⊢
   exact ⟨by unfold I64; omega, ⟨u + 1, by omega, by omega, he⟩, by dsimp only; omega⟩
 ·rw [if_neg (by simpa using h)]
  rw [List.drop_of_length_le (by omega : l.length ≤ u), mateI_nil] at he
  rw [he]; exact hq
theorem F35.law (o a b : List Pt) (Q : List Pt → Bool → Prop) (hs : ∀ r, smerge o a b = some r → Q r true) (hn : smerge o a b = none → Q [] false) : F35.E o a b Q := by
 unfold F35.E
 by_cases c1 : (o.length : Int) > 12
 ·rw [if_pos (by simpa using c1)]
  exact hn (smerge_not (.inl (few_not.2 (by omega))))
 rw [if_neg (by simpa using c1)]
 by_cases c2 : (a.length : Int) > 12
 ·rw [if_pos (by simpa using c2)]
  exact hn (smerge_not (.inl (few_not.2 (by omega))))
 rw [if_neg (by simpa using c2)]
 by_cases c3 : (b.length : Int) > 12
 ·rw [if_pos (by simpa using c3)]
  exact hn (smerge_not (.inr (few_not.2 (by omega))))
 rw [if_neg (by simpa using c3)]
 have h1 : few o a = true := few_iff.2 (by omega)
 have h2 : few o b = true := few_iff.2 (by omega)
 refine F34.law _ _ _ (F34.law _ _ _ ?_)
 have lo := spairs_len o a; have lo2 := spairs_len o b
 have so := slen_le o a; have so2 := slen_le o b
 refine ⟨fun xs i j k t => (∃ i' j' k' t' : Nat, i = i' ∧ j = j' ∧ k = k' ∧ t = t' ∧ MInv o a b xs i' j' k' t') ∨ (t = (o.length : Int) + 1 ∧ smerge o a b = some xs), fun _ _ _ _ t => (o.length + 1 - t).toNat, .inl ⟨0, 0, 0, 0, rfl, rfl, rfl, rfl, MInv.zero h1 h2⟩, ?_⟩
 rintro xs _ _ _ _ (⟨i, j, k, t, rfl, rfl, rfl, rfl, h⟩ | ⟨rfl, h⟩)
 ·have ht := h.ht; have hi := h.hi; have hj := h.hj; have hk := h.hk; have hl := h.len
  rw [if_pos (by simp; omega)]
  simp only [Int.toNat_natCast]
  by_cases ht0 : (t : Int) < (o.length : Int)
  ·rw [if_pos (by simpa using ht0)]
   refine F49.law _ _ _ (by omega) (F49.law _ _ _ (by omega) ?_)
   rw [mate_part h1, mate_part h2]
   cases hx : part o a t with
   | none =>
    rw [if_pos (by decide)]
    exact ⟨by omega, .inl ⟨i, j, k, t + 1, rfl, rfl, rfl, rfl, h.skip (by omega) (.inl hx)⟩, by omega⟩
   | some x =>
    rw [if_neg (by simp)]
    cases hy : part o b t with
    | none =>
     rw [if_pos (by decide)]
     exact ⟨by omega, .inl ⟨i, j, k, t + 1, rfl, rfl, rfl, rfl, h.skip (by omega) (.inr hy)⟩, by omega⟩
    | some y =>
     rw [if_neg (by simp)]
     dsimp only
     obtain ⟨g1, g2, g3, g4⟩ := h.from hx hy
     refine ⟨by omega, by omega, by omega, ?_⟩
     simp only [Int.toNat_natCast]
     have s1 := seg_len o i t (by omega); have s2 := seg_len a j x (by omega); have s3 := seg_len b k y (by omega)
     have hs1 : ∀ p, pickL (seg o i t) (seg a j x) (seg b k y) = some p → p.length ≤ (x - j) + (y - k) ∧ MInv o a b (xs ++ p ++ [nth o (t : Int)]) (t + 1) (x + 1) (y + 1) (t + 1) := fun p hp =>
      ⟨by have := (pickL_mem hp).2.2.2; omega, h.step (by omega) hx hy hp⟩
     have hn1 : pickL (seg o i t) (seg a j x) (seg b k y) = none → smerge o a b = none := h.stop (by omega) hx hy
     change F16.E (seg a j x) (seg o i t) _
     simp only [← seg.eq_1]
     generalize seg o i t = so at *
     generalize seg a j x = sa at *
     generalize seg b k y = sb at *
     refine F16.law _ _ _ (by omega) ?_
     by_cases q1 : sa = so
     ·rw [if_pos (by simpa using q1)]
      obtain ⟨hm, hi⟩ := hs1 sb (by unfold pickL; rw [if_pos q1])
      exact ⟨by omega, by omega, by simp only [List.length_append, List.length_singleton]; omega, by omega, fun _ _ _ => by unfold I64; omega, fun _ _ _ => by unfold I64; omega, by omega, .inl ⟨t + 1, x + 1, y + 1, t + 1, rfl, rfl, rfl, rfl, hi⟩, by omega⟩
     rw [if_neg (by simpa using q1)]
     refine F16.law _ _ _ (by omega) ?_
     by_cases q2 : sb = so
     ·rw [if_pos (by simpa using q2)]
      obtain ⟨hm, hi⟩ := hs1 sa (by unfold pickL; rw [if_neg q1, if_pos q2])
      exact ⟨by omega, by omega, by simp only [List.length_append, List.length_singleton]; omega, by omega, fun _ _ _ => by unfold I64; omega, fun _ _ _ => by unfold I64; omega, by omega, .inl ⟨t + 1, x + 1, y + 1, t + 1, rfl, rfl, rfl, rfl, hi⟩, by omega⟩
     rw [if_neg (by simpa using q2)]
     refine F16.law _ _ _ (by omega) ?_
     by_cases q3 : sa = sb
     ·rw [if_pos (by simpa using q3)]
      obtain ⟨hm, hi⟩ := hs1 sa (by unfold pickL; rw [if_neg q1, if_neg q2, if_pos q3])
      exact ⟨by omega, by omega, by simp only [List.length_append, List.length_singleton]; omega, by omega, fun _ _ _ => by unfold I64; omega, fun _ _ _ => by unfold I64; omega, by omega, .inl ⟨t + 1, x + 1, y + 1, t + 1, rfl, rfl, rfl, rfl, hi⟩, by omega⟩
     rw [if_neg (by simpa using q3)]
     exact hn (hn1 (by unfold pickL; rw [if_neg q1, if_neg q2, if_neg q3]))
  ·rw [if_neg (by simpa using ht0)]
   have : t = o.length := by omega
   subst this
   refine ⟨by omega, by omega, by omega, ?_⟩
   have hlast := h.last
   have e1 : (o.drop i).take (o.length - i) = o.drop i := seg_end o i
   have e2 : (a.drop j).take (a.length - j) = a.drop j := seg_end a j
   have e3 : (b.drop k).take (b.length - k) = b.drop k := seg_end b k
   rw [e1, e2, e3]
   have s2 : (a.drop j).length = a.length - j := List.length_drop; have s3 : (b.drop k).length = b.length - k := List.length_drop
   have hs1 : ∀ p, pickL (o.drop i) (a.drop j) (b.drop k) = some p → p.length ≤ (a.length - j) + (b.length - k) ∧ smerge o a b = some (xs ++ p) := fun p hp =>
    ⟨by have := (pickL_mem hp).2.2.2; omega, by rw [hp, Option.map_some] at hlast; exact hlast.symm⟩
   have hn1 : pickL (o.drop i) (a.drop j) (b.drop k) = none → smerge o a b = none := fun hp => by rw [hp] at hlast; exact hlast.symm
   generalize o.drop i = so at *
   generalize a.drop j = sa at *
   generalize b.drop k = sb at *
   refine F16.law _ _ _ (by omega) ?_
   by_cases q1 : sa = so
   ·rw [if_pos (by simpa using q1)]
    obtain ⟨hm, hi⟩ := hs1 sb (by unfold pickL; rw [if_pos q1])
    exact ⟨by omega, fun _ _ _ => by unfold I64; omega, fun _ _ _ => by unfold I64; omega, fun _ _ _ => by unfold I64; omega, fun _ _ _ => by unfold I64; omega, .inr ⟨rfl, hi⟩, by omega⟩
   rw [if_neg (by simpa using q1)]
   refine F16.law _ _ _ (by omega) ?_
   by_cases q2 : sb = so
   ·rw [if_pos (by simpa using q2)]
    obtain ⟨hm, hi⟩ := hs1 sa (by unfold pickL; rw [if_neg q1, if_pos q2])
    exact ⟨by omega, fun _ _ _ => by unfold I64; omega, fun _ _ _ => by unfold I64; omega, fun _ _ _ => by unfold I64; omega, fun _ _ _ => by unfold I64; omega, .inr ⟨rfl, hi⟩, by omega⟩
   rw [if_neg (by simpa using q2)]
   refine F16.law _ _ _ (by omega) ?_
   by_cases q3 : sa = sb
   ·rw [if_pos (by simpa using q3)]
    obtain ⟨hm, hi⟩ := hs1 sa (by unfold pickL; rw [if_neg q1, if_neg q2, if_pos q3])
    exact ⟨by omega, fun _ _ _ => by unfold I64; omega, fun _ _ _ => by unfold I64; omega, fun _ _ _ => by unfold I64; omega, fun _ _ _ => by unfold I64; omega, .inr ⟨rfl, hi⟩, by omega⟩
   rw [if_neg (by simpa using q3)]
   exact hn (hn1 (by unfold pickL; rw [if_neg q1, if_neg q2, if_neg q3]))
 ·rw [if_neg (by simp; omega)]
  exact hs _ h
theorem F6.law (o a b : Shape) (ok : Shape → Shape → Prop) (Q : Shape → Bool → Prop) (h1 : ok a o) (h2 : ok b o) (h3 : ok a b) (hq : Q (three o a b).1 (three o a b).2) : F6.E o a b (fun x y => decide (x = y)) ok Q := by
 unfold F6.E
 unfold three at hq
 refine ⟨h1, ?_⟩
 by_cases e1 : a = o
 ·rw [if_pos e1] at hq; rw [if_pos (decide_eq_true e1)]; exact hq
 ·rw [if_neg e1] at hq; rw [if_neg (by simpa using e1)]
  refine ⟨h2, ?_⟩
  by_cases e2 : b = o
  ·rw [if_pos e2] at hq; rw [if_pos (decide_eq_true e2)]; exact hq
  ·rw [if_neg e2] at hq; rw [if_neg (by simpa using e2)]
   refine ⟨h3, ?_⟩
   by_cases e3 : a = b
   ·rw [if_pos e3] at hq; rw [if_pos (decide_eq_true e3)]; exact hq
   ·rw [if_neg e3] at hq; rw [if_neg (by simpa using e3)]; exact hq
theorem F8.law (o a b : value) (ok : value → value → Prop) (Q : value → Bool → Prop) (h1 : ok a o) (h2 : ok b o) (h3 : ok a b) (hq : Q (three o a b).1 (three o a b).2) : F8.E o a b (fun x y => decide (x = y)) ok Q := by
 unfold F8.E
 unfold three at hq
 refine ⟨h1, ?_⟩
 by_cases e1 : a = o
 ·rw [if_pos e1] at hq; rw [if_pos (decide_eq_true e1)]; exact hq
 ·rw [if_neg e1] at hq; rw [if_neg (by simpa using e1)]
  refine ⟨h2, ?_⟩
  by_cases e2 : b = o
  ·rw [if_pos e2] at hq; rw [if_pos (decide_eq_true e2)]; exact hq
  ·rw [if_neg e2] at hq; rw [if_neg (by simpa using e2)]
   refine ⟨h3, ?_⟩
   by_cases e3 : a = b
   ·rw [if_pos e3] at hq; rw [if_pos (decide_eq_true e3)]; exact hq
   ·rw [if_neg e3] at hq; rw [if_neg (by simpa using e3)]; exact hq
theorem F3.law (s : List Tag) (f : Tag → Bool) (ok : Tag → Prop) (Q : Int → Prop) (hl : s.length ≤ 1048576) (hok : ∀ x ∈ s, ok x) (hq : Q (findN s.length fun j => f (nth s (j : Int)))) : F3.E s f ok Q := by
 unfold F3.E
 refine loop_find s.length (fun j => f (nth s (j : Int))) hq (fun I mu k hk h1 h2 => ⟨by omega, hok _ (nth_mem s hk), ?_⟩)
 cases h : f (nth s (k : Int)) with
 | true => rw [if_pos rfl]; exact h1 h
 | false => rw [if_neg (by decide)]; obtain ⟨i1, i2⟩ := h2 h; exact ⟨by unfold I64; omega, i1, i2⟩
theorem F50.law (f : Feat) (key : Str) (Q : value → Prop) (hl : f.Tags.length ≤ 1048576) (hq : Q (valT f.Tags key)) : F50.E f key Q := by
 unfold F50.E F36.E
 have h1 := findN_le f.Tags.length fun j => (nth f.Tags (j : Int)).Key == key
 refine ⟨fun x => x.Key == key, fun x => x ∈ f.Tags, fun x hx => ?_, F3.law _ _ _ _ hl (fun x hx => hx) ?_⟩
 ·unfold F19.E; rfl
 ·unfold valT at hq
  by_cases h : findN f.Tags.length (fun j => (nth f.Tags (j : Int)).Key == key) < 0
  ·rw [if_pos h] at hq; rw [if_pos (by simpa using h)]; exact hq
  ·rw [if_neg h] at hq; rw [if_neg (by simpa using h)]; exact ⟨by omega, hq⟩
theorem F12.law (l : List (List Tag)) (Q : List Tag → Prop) (h1 : l.length ≤ 1000) (h2 : l.flatten.length ≤ 1000000) (hq : Q l.flatten) : F12.E l Q := by
 have htk : ∀ u, (l.take u).flatten.length ≤ l.flatten.length := fun u => by
  have : l.flatten = (l.take u).flatten ++ (l.drop u).flatten := by rw [← List.flatten_append, List.take_append_drop]
  rw [this, List.length_append]; omega
 have hsn : ∀ u, u < l.length → (l.take (u + 1)).flatten = (l.take u).flatten ++ nth l (u : Int) := fun u hu => by rw [take_nth l hu, List.flatten_append]; simp
 unfold F12.E
 refine ⟨fun size i => ∃ u : Nat, i = u ∧ u ≤ l.length ∧ size = ((l.take u).flatten.length : Int), fun _ i => (l.length - i).toNat, ⟨0, rfl, Nat.zero_le _, by simp⟩, ?_⟩
 rintro _ _ ⟨u, rfl, hu, rfl⟩
 by_cases h : u < l.length
 ·rw [if_pos (by simpa using h)]
  have e := hsn u h
  have ht := htk (u + 1)
  rw [e, List.length_append] at ht
  refine ⟨by omega, fun _ => by unfold I64; omega, ?_⟩
  rw [if_neg (by rw [decide_eq_true_eq]; omega)]
  exact ⟨fun _ => by unfold I64; omega, ⟨u + 1, by omega, by omega, by rw [e, List.length_append]; omega⟩, by dsimp only; omega⟩
 ·rw [if_neg (by simpa using h)]
  have : u = l.length := by omega
  subst this
  rw [List.take_length]
  have rest : ∃ (I82 : (List Tag) → Int → Prop) (mu83 : (List Tag) → Int → Nat), I82 [] 0 ∧ ∀ (xs2 : List Tag) (v4 : Int), I82 xs2 v4 → (if decide (v4 < (l.length : Int)) then ((0 : Int) ≤ v4 ∧ v4 < (l.length : Int)) ∧ (xs2.length + (nth l v4).length ≤ 268435456) ∧ (I64 (v4 + 1)) ∧ I82 (xs2 ++ (nth l v4)) (v4 + 1) ∧ mu83 (xs2 ++ (nth l v4)) (v4 + 1) < mu83 xs2 v4 else Q xs2) := by
   refine ⟨fun xs i => ∃ u : Nat, i = u ∧ u ≤ l.length ∧ xs = (l.take u).flatten, fun _ i => (l.length - i).toNat, ⟨0, rfl, Nat.zero_le _, by simp⟩, ?_⟩
   rintro _ _ ⟨u, rfl, hu, rfl⟩
   by_cases g : u < l.length
   ·rw [if_pos (by simpa using g)]
    have e := hsn u g
    have ht := htk (u + 1)
    rw [e, List.length_append] at ht
    exact ⟨by omega, by omega, by unfold I64; omega, ⟨u + 1, by omega, by omega, by rw [e]⟩, by dsimp only; omega⟩
   ·rw [if_neg (by simpa using g)]
    have : u = l.length := by omega
    subst this
    rw [List.take_length]; exact hq
  unfold F18.E
  rw [if_neg (by rw [decide_eq_true_eq]; omega)]
  refine ⟨by unfold I64; omega, by unfold I64; omega, ?_⟩
  by_cases hz : (l.flatten.length : Int) - (0 - 0) > 0
  ·rw [if_pos (by rw [decide_eq_true_eq]; exact hz)]
   exact ⟨by omega, by omega, rest⟩
  ·rw [if_neg (by rw [decide_eq_true_eq]; exact hz)]
   exact rest
theorem F26.law (f : Feat) (Q : Feat → Prop) (hb : bulk f ≤ 1048576) (hq : Q f) : F26.E f Q := by
 unfold F26.E F17.E
 have h := bulk_feat f
 have h1 := bulk_len f.Tags
 have h2 := bulk_len f.Shape.Pts
 exact ⟨by simp only [List.length_nil]; omega, by simp only [List.length_nil]; omega, hq⟩
theorem F37.law (o a b : Feat) (Q : Feat → List Str → Prop) (h1 : bulk o ≤ 1048576) (h2 : bulk a ≤ 1048576) (h3 : bulk b ≤ 1048576) (hq : Q (featJoin o a b).1 (featJoin o a b).2) : F37.E o a b Q := by
 unfold F37.E
 unfold featJoin at hq
 have zq : (featOk o && featOk a && featOk b && decide (o.Id = a.Id) && decide (o.Id = b.Id)) = false → Q ⟨[], ⟨0, []⟩, []⟩ [] := fun h => by rw [h, if_neg (by decide)] at hq; exact hq
 refine F70.law _ _ h1 ?_
 cases ko : featOk o with
 | false => rw [if_pos (by decide)]; exact zq (by rw [ko]; rfl)
 | true =>
 rw [if_neg (by decide)]
 refine F70.law _ _ h2 ?_
 cases ka : featOk a with
 | false => rw [if_pos (by decide)]; exact zq (by rw [ko, ka]; rfl)
 | true =>
 rw [if_neg (by decide)]
 refine F70.law _ _ h3 ?_
 cases kb : featOk b with
 | false => rw [if_pos (by decide)]; exact zq (by rw [ko, ka, kb]; rfl)
 | true =>
 rw [if_neg (by decide)]
 by_cases e1 : o.Id = a.Id
 case neg => rw [if_pos (by rw [bne_iff_ne]; exact e1)]; exact zq (by rw [decide_eq_false e1]; simp)
 rw [if_neg (by rw [e1]; simp)]
 by_cases e2 : o.Id = b.Id
 case neg => rw [if_pos (by rw [bne_iff_ne]; exact e2)]; exact zq (by rw [decide_eq_false e2]; simp)
 rw [if_neg (by rw [e2]; simp)]
 rw [ko, ka, kb, decide_eq_true e1, decide_eq_true e2, if_pos (by decide)] at hq
 clear zq
 have fo := feat_facts ko; have fa := feat_facts ka; have fb := feat_facts kb
 have so := fo.2.2.1; have sa := fa.2.2.1; have sb := fb.2.2.1
 refine ⟨fun x y => decide (x = y), fun x _ => x.Pts.length ≤ 1048576, fun x y hx => F25.law _ _ _ hx rfl, F6.law _ _ _ _ _ (by (try dsimp only); omega) (by (try dsimp only); omega) (by (try dsimp only); omega) ?_⟩
 refine ⟨fun xs z z2 => xs = (if (shapeF o.Shape a.Shape b.Shape).2 then [] else [shapeS]) ∧ (⟨z, z2⟩ : Shape) = (shapeF o.Shape a.Shape b.Shape).1, ?_, ?_⟩
 ·have hs : ([([115, 104, 97, 112, 101] : Str)] : List Str) = [shapeS] := rfl
  cases c0 : (three o.Shape a.Shape b.Shape).2 with
  | true =>
   rw [if_neg (by decide)]
   have e : shapeF o.Shape a.Shape b.Shape = three o.Shape a.Shape b.Shape := by unfold shapeF; rw [if_pos c0]
   rw [e, c0]; exact ⟨rfl, rfl⟩
  | false =>
   rw [if_pos (by decide)]
   have et : (three o.Shape a.Shape b.Shape).1 = a.Shape := by
    unfold three at c0 ⊢
    split
    ·rename_i h; rw [if_pos h] at c0; cases c0
    ·rename_i h
     rw [if_neg h] at c0
     split
     ·rename_i g; rw [if_pos g] at c0; try cases c0
     ·rename_i g
      rw [if_neg g] at c0
      split <;> rfl
   have bad : (shapeF o.Shape a.Shape b.Shape) = (a.Shape, false) → (if (!false) = true then (([] : List Str).length + ([([115, 104, 97, 112, 101] : Str)] : List Str).length ≤ 268435456) ∧ (([] : List Str) ++ ([([115, 104, 97, 112, 101] : Str)] : List Str) = (if (shapeF o.Shape a.Shape b.Shape).2 then [] else [shapeS]) ∧ (⟨(three o.Shape a.Shape b.Shape).1.Kind, (three o.Shape a.Shape b.Shape).1.Pts⟩ : Shape) = (shapeF o.Shape a.Shape b.Shape).1) else ([] : List Str) = (if (shapeF o.Shape a.Shape b.Shape).2 then [] else [shapeS]) ∧ (⟨(three o.Shape a.Shape b.Shape).1.Kind, (three o.Shape a.Shape b.Shape).1.Pts⟩ : Shape) = (shapeF o.Shape a.Shape b.Shape).1) := fun e => by
    rw [if_pos (by decide), e, et]; exact ⟨by decide, rfl, rfl⟩
   by_cases k1 : o.Shape.Kind = a.Shape.Kind
   case neg => rw [if_neg (by simpa using k1)]; exact bad (by unfold shapeF; rw [if_neg (by rw [c0]; decide), if_neg fun h => k1 h.1.symm])
   rw [if_pos (by simpa using k1)]
   by_cases k2 : o.Shape.Kind = b.Shape.Kind
   case neg => rw [if_neg (by simpa using k2)]; exact bad (by unfold shapeF; rw [if_neg (by rw [c0]; decide), if_neg fun h => k2 h.2.symm])
   rw [if_pos (by simpa using k2)]
   have hsh : shapeF o.Shape a.Shape b.Shape = match smerge o.Shape.Pts a.Shape.Pts b.Shape.Pts with
    | some p => if shapeOk ⟨a.Shape.Kind, p⟩ then (⟨a.Shape.Kind, p⟩, true) else (a.Shape, false)
    | none => (a.Shape, false) := by unfold shapeF; rw [if_neg (by rw [c0]; decide), if_pos ⟨k1.symm, k2.symm⟩]; try (cases smerge o.Shape.Pts a.Shape.Pts b.Shape.Pts <;> rfl)
   refine F35.law _ _ _ _ (fun r hr => ?_) (fun hr => ?_)
   ·rw [if_pos rfl]
    have hrl := smerge_len hr
    rw [hr] at hsh
    refine F47.law _ _ (by dsimp only; omega) ?_
    cases k3 : shapeOk ⟨a.Shape.Kind, r⟩ with
    | true =>
     rw [if_pos rfl, if_neg (by decide)]
     dsimp only at hsh
     rw [if_pos k3] at hsh
     rw [hsh]; exact ⟨rfl, rfl⟩
    | false =>
     rw [if_neg (by decide)]
     dsimp only at hsh
     rw [if_neg (by rw [k3]; decide)] at hsh
     exact bad hsh
   ·rw [if_neg (by decide)]
    rw [hr] at hsh
    exact bad hsh
 rintro _ z z2 ⟨rfl, hz⟩
 rw [hz]
 unfold F17.E
 have hpts := shapeF_pts (o := o.Shape) sa sb
 refine ⟨by simp only [List.length_nil]; omega, ?_⟩
 rw [List.nil_append]
 have hfl : ([o.Tags, a.Tags, b.Tags] : List (List Tag)).flatten = o.Tags ++ a.Tags ++ b.Tags := by simp
 have hln : (o.Tags ++ a.Tags ++ b.Tags).length ≤ 12 := by simp only [List.length_append]; omega
 refine F12.law _ _ (by simp) (by rw [hfl]; omega) ?_
 rw [hfl]
 refine ⟨fun xs i => ∃ u : Nat, i = u ∧ u ≤ (o.Tags ++ a.Tags ++ b.Tags).length ∧ xs = keysT ((o.Tags ++ a.Tags ++ b.Tags).take u), fun _ i => ((o.Tags ++ a.Tags ++ b.Tags).length - i).toNat, ⟨0, rfl, Nat.zero_le _, rfl⟩, ?_⟩
 rintro _ _ ⟨u, rfl, hu, rfl⟩
 by_cases h : u < (o.Tags ++ a.Tags ++ b.Tags).length
 ·rw [if_pos (decide_eq_true (by omega))]
  have hil : (keysT ((o.Tags ++ a.Tags ++ b.Tags).take u)).length ≤ u := by unfold keysT; simp; omega
  refine ⟨by omega, by simp only [List.length_cons, List.length_nil]; omega, by unfold I64; omega, ⟨u + 1, by omega, by omega, ?_⟩, by dsimp only; omega⟩
  rw [take_nth _ h, keys_app]; rfl
 rw [if_neg (by rw [decide_eq_true_eq]; omega)]
 have : u = (o.Tags ++ a.Tags ++ b.Tags).length := by omega
 subst this
 clear h hu
 rw [List.take_length]
 unfold F7.E F0.E
 have hkl : (keysT (o.Tags ++ a.Tags ++ b.Tags)).length ≤ 12 := by unfold keysT; rw [List.length_map]; exact hln
 refine ⟨by omega, by unfold sortS; rw [List.length_mergeSort]; omega, ?_⟩
 obtain ⟨ks1, ks2⟩ := allKeys_small ko ka kb
 have ek : Lib.compact (sortS (keysT (o.Tags ++ a.Tags ++ b.Tags))) = allKeys o a b := rfl
 rw [ek]
 refine ⟨fun xs i ts => ∃ u : Nat, i = u ∧ u ≤ (allKeys o a b).length ∧ xs = (if (shapeF o.Shape a.Shape b.Shape).2 then [] else [shapeS]) ++ clashL o.Tags a.Tags b.Tags ((allKeys o a b).take u) ∧ ts = tagsL o.Tags a.Tags b.Tags ((allKeys o a b).take u), fun _ i _ => ((allKeys o a b).length - i).toNat, ⟨0, rfl, Nat.zero_le _, by simp [clashL], by simp [tagsL]⟩, ?_⟩
 rintro _ _ _ ⟨u, rfl, hu, rfl, rfl⟩
 have hpre : (if (shapeF o.Shape a.Shape b.Shape).2 then ([] : List Str) else [shapeS]).length ≤ 1 := by split <;> decide
 by_cases h : u < (allKeys o a b).length
 ·rw [if_pos (by simpa using h)]
  have hk6 := ks2 _ (nth_mem _ h)
  have hcl := clashL_len o.Tags a.Tags b.Tags ((allKeys o a b).take u)
  have htl := tagsL_len o.Tags a.Tags b.Tags ((allKeys o a b).take u)
  rw [List.length_take] at hcl htl
  refine ⟨by omega, F50.law _ _ _ (by omega) (F50.law _ _ _ (by omega) (F50.law _ _ _ (by omega) ?_))⟩
  refine ⟨fun x y => decide (x = y), fun _ _ => True, fun x y _ => by unfold F20.E; exact eqvalue_is x y, F8.law _ _ _ _ _ trivial trivial trivial ?_⟩
  have ec := clashL_snoc o.Tags a.Tags b.Tags ((allKeys o a b).take u) (nth (allKeys o a b) (u : Int))
  have et := tagsL_snoc o.Tags a.Tags b.Tags ((allKeys o a b).take u) (nth (allKeys o a b) (u : Int))
  rw [← take_nth _ h] at ec et
  refine ⟨fun xs z z2 => xs = (if (shapeF o.Shape a.Shape b.Shape).2 then [] else [shapeS]) ++ clashL o.Tags a.Tags b.Tags ((allKeys o a b).take (u + 1)) ∧ (⟨z, z2⟩ : value) = (tagK o.Tags a.Tags b.Tags (nth (allKeys o a b) (u : Int))).1, ?_, ?_⟩
  ·generalize nth (allKeys o a b) (u : Int) = k at *
   have ed : tagK o.Tags a.Tags b.Tags k = tagF (valT o.Tags k) (valT a.Tags k) (valT b.Tags k) := rfl
   rw [ec]
   cases c0 : (three (valT o.Tags k) (valT a.Tags k) (valT b.Tags k)).2 with
   | true =>
    have ek : tagK o.Tags a.Tags b.Tags k = three (valT o.Tags k) (valT a.Tags k) (valT b.Tags k) := by rw [ed]; unfold tagF; rw [if_pos c0]
    rw [if_neg (by decide), ek, c0, if_pos rfl, List.append_nil]
    exact ⟨rfl, rfl⟩
   | false =>
    have ek : tagK o.Tags a.Tags b.Tags k = (if (valT a.Tags k).has then valT a.Tags k else valT b.Tags k, false) := by rw [ed]; unfold tagF; rw [if_neg (by rw [c0]; decide)]
    rw [if_pos (by decide), ek]
    refine ⟨by simp only [List.length_cons, List.length_nil]; omega, by simp only [List.length_append, List.length_cons, List.length_nil]; omega, ?_⟩
    have e0 : (if ((if (valT a.Tags k).has then valT a.Tags k else valT b.Tags k, false) : value × Bool).2 then ([] : List Str) else [tagS ++ k]) = [tagS ++ k] := if_neg (by simp)
    rw [e0]
    cases c1 : (valT a.Tags k).has with
    | true => rw [if_neg (by simp)]; exact ⟨by rw [List.append_assoc]; rfl, by generalize valT a.Tags k = v at *; cases v; simp_all⟩
    | false => rw [if_pos (by simp)]; exact ⟨by rw [List.append_assoc]; rfl, by simp⟩
  ·rintro _ z3 z4 ⟨rfl, hz⟩
   have hz3 : z3 = (tagK o.Tags a.Tags b.Tags (nth (allKeys o a b) (u : Int))).1.has := by rw [← hz]
   have hz4 : z4 = (tagK o.Tags a.Tags b.Tags (nth (allKeys o a b) (u : Int))).1.val := by rw [← hz]
   refine ⟨fun ts => ts = tagsL o.Tags a.Tags b.Tags ((allKeys o a b).take (u + 1)), ?_, ?_⟩
   ·rw [et, hz3, hz4]
    split
    ·exact ⟨by simp only [List.length_cons, List.length_nil]; omega, rfl⟩
    ·rw [List.append_nil]
   ·rintro _ rfl
    exact ⟨by unfold I64; omega, ⟨u + 1, by omega, by omega, rfl, rfl⟩, by dsimp only; omega⟩
 rw [if_neg (by simpa using h)]
 have : u = (allKeys o a b).length := by omega
 subst this
 rw [List.take_length]
 have hjs := joinF_small ko ka kb
 unfold joinOf at hq
 show F70.E (joinF o a b) _
 refine F70.law _ _ (by omega) ?_
 cases kj : featOk (joinF o a b) with
 | true =>
  rw [if_neg (by decide)]
  rw [kj, if_pos rfl] at hq
  exact hq
 | false =>
  rw [if_pos (by decide)]
  rw [kj, if_neg (by decide)] at hq
  exact F26.law _ _ h2 hq
theorem valT_of {t : List Tag} (hs : SS (keysT t)) {x : Tag} (hx : x ∈ t) : valT t x.Key = ⟨true, x.Val⟩ := by
  obtain ⟨y, hy, e1, e2⟩ := valT_hit (valT_iff.2 (List.mem_map.2 ⟨x, hx, rfl⟩ : x.Key ∈ keysT t))
  have := keys_inj hs hy hx e1
  subst this; exact e2
theorem valT_none {t : List Tag} {k : Str} (h : k ∉ keysT t) : valT t k = ⟨false, []⟩ := by
  refine valT_no _ _ ?_
  cases g : (valT t k).has with
  | false => rfl
  | true => exact absurd (valT_iff.1 g) h
def IsPut (t : List Tag) (k v : Str) (u : List Tag) : Prop := SS (keysT u) ∧ ∀ x, x ∈ u ↔ (x ∈ t ∧ x.Key ≠ k) ∨ x = ⟨k, v⟩
theorem IsPut.at {t u : List Tag} {k v : Str} (ht : SS (keysT t)) (h : IsPut t k v u) (key : Str) : valT u key = if key = k then ⟨true, v⟩ else valT t key := by
  by_cases e : key = k
  · rw [if_pos e, e]
    exact valT_of h.1 ((h.2 ⟨k, v⟩).2 (.inr rfl))
  · rw [if_neg e]
    by_cases g : key ∈ keysT t
    · obtain ⟨x, hx, rfl⟩ := List.mem_map.1 g
      rw [valT_of ht hx]
      exact valT_of h.1 ((h.2 x).2 (.inl ⟨hx, e⟩))
    · rw [valT_none g]
      refine valT_none fun hm => ?_
      obtain ⟨x, hx, rfl⟩ := List.mem_map.1 hm
      rcases (h.2 x).1 hx with hx | rfl
      · exact g (List.mem_map.2 ⟨x, hx.1, rfl⟩)
      · exact e rfl
theorem IsPut.keys {t u : List Tag} {k v : Str} (h : IsPut t k v u) (key : Str) : key ∈ keysT u ↔ key ∈ keysT t ∨ key = k := by
  constructor
  · intro hm
    obtain ⟨x, hx, rfl⟩ := List.mem_map.1 hm
    rcases (h.2 x).1 hx with hx | rfl
    · exact .inl (List.mem_map.2 ⟨x, hx.1, rfl⟩)
    · exact .inr rfl
  · rintro (hm | rfl)
    · obtain ⟨x, hx, rfl⟩ := List.mem_map.1 hm
      by_cases e : x.Key = k
      · exact List.mem_map.2 ⟨⟨k, v⟩, (h.2 _).2 (.inr rfl), e.symm⟩
      · exact List.mem_map.2 ⟨x, (h.2 _).2 (.inl ⟨hx, e⟩), rfl⟩
    · exact List.mem_map.2 ⟨_, (h.2 ⟨key, v⟩).2 (.inr rfl), rfl⟩
theorem IsPut.uniq {t u u' : List Tag} {k v : Str} (h : IsPut t k v u) (h' : IsPut t k v u') : u = u' := by
  have key : ∀ {l m : List Tag}, SS (keysT l) → SS (keysT m) → (∀ x, x ∈ l ↔ x ∈ m) → l = m := fun {l m} hl hm hx =>
    pw_ext (R := fun x y : Tag => Op.bytesLess x.Key y.Key = true) (fun x e => by rw [less_irr] at e; cases e) (fun x y z h1 h2 => less_trans h1 h2) (List.pairwise_map.1 hl) (List.pairwise_map.1 hm) hx
  exact key h.1 h'.1 fun x => (h.2 x).trans (h'.2 x).symm
theorem IsPut.len {t u : List Tag} {k v : Str} (ht : SS (keysT t)) (h : IsPut t k v u) : u.length = t.length + (if k ∈ keysT t then 0 else 1) := by
  have e1 : (keysT u).length = u.length := List.length_map _
  have e2 : (keysT t).length = t.length := List.length_map _
  rw [← e1, ← e2]
  have nd : ∀ {l : List Str}, SS l → l.Nodup := fun hl => hl.imp fun {x y} hxy e => by rw [e, less_irr] at hxy; cases hxy
  by_cases g : k ∈ keysT t
  · rw [if_pos g, SS.ext h.1 ht fun x => by rw [h.keys]; exact ⟨fun h => h.elim id fun e => e ▸ g, .inl⟩]; rfl
  · rw [if_neg g]
    have p : (keysT u).Perm (k :: keysT t) := (List.perm_ext_iff_of_nodup (nd h.1) (List.nodup_cons.2 ⟨g, nd ht⟩)).2 fun x => by rw [h.keys, List.mem_cons]; exact or_comm
    rw [p.length_eq, List.length_cons]
theorem IsPut.ok {t u : List Tag} {k v : Str} (ht : tagsOk t = true) (hk : wordOk k = true) (hv : wordOk v = true) (h : IsPut t k v u) : tagsOk u = true := by
  refine tagsOk_of h.1 fun x hx => ?_
  rcases (h.2 x).1 hx with hx | rfl
  · unfold tagsOk at ht
    obtain ⟨j, hj, rfl⟩ := List.getElem_of_mem hx.1
    have := allN_iff.1 ht j hj
    rw [nth_nat _ hj] at this
    simp only [Bool.and_eq_true] at this
    exact this.1
  · exact ⟨hk, hv⟩
def getT (f : Feat) (k : Str) : Str × Bool := if featOk f then ((valT f.Tags k).val, (valT f.Tags k).has) else ([], false)
theorem allKeys_ss (a b c : Feat) : SS (allKeys a b c) := uniq_ss _
theorem F36.law (f : Feat) (key : Str) (Q : Int → Prop) (hl : f.Tags.length ≤ 1048576) (hq : Q (findN f.Tags.length fun j => (nth f.Tags (j : Int)).Key == key)) : F36.E f key Q := by
 unfold F36.E
 refine ⟨fun x => x.Key == key, fun x => x ∈ f.Tags, fun x hx => ?_, F3.law _ _ _ _ hl (fun x hx => hx) hq⟩
 unfold F19.E; rfl
theorem F53.law (f : Feat) (key : Str) (Q : Str → Bool → Prop) (hb : bulk f ≤ 1048576) (hq : Q (getT f key).1 (getT f key).2) : F53.E f key Q := by
 unfold F53.E
 have h1 := bulk_feat f
 have h2 := bulk_len f.Tags
 refine F36.law _ _ _ (by omega) (F70.law _ _ hb ?_)
 unfold getT at hq
 cases h : featOk f with
 | false => rw [if_pos (by decide)]; rw [h, if_neg (by decide)] at hq; exact hq
 | true =>
  rw [if_neg (by decide)]; rw [h, if_pos rfl] at hq
  unfold valT at hq
  have hle := findN_le f.Tags.length fun j => (nth f.Tags (j : Int)).Key == key
  split
  ·rename_i g; rw [if_pos (by simpa using g)] at hq; exact hq
  ·rename_i g
   have g : ¬ findN f.Tags.length (fun j => (nth f.Tags (j : Int)).Key == key) < 0 := by simpa using g
   rw [if_neg g] at hq; exact ⟨by omega, hq⟩
theorem F13.law (a b : List Tag) (Q : Bool → Prop) (hb : a.length ≤ 1048576) (hq : Q (decide (a = b))) : F13.E a b Q := by
 unfold F13.E
 exact eqI_shape eqTag eqTag_is a b Q hb hq
theorem F40.law (a b : Feat) (Q : Bool → Prop) (hl : a.Shape.Pts.length ≤ 1048576 ∧ a.Tags.length ≤ 1048576) (hq : Q (decide (a = b))) : F40.E a b Q := by
 unfold F40.E
 by_cases h : a.Id = b.Id
 ·rw [if_pos (by rw [beq_iff_eq]; exact h)]
  refine F25.law _ _ _ (by omega) ?_
  by_cases h2 : a.Shape = b.Shape
  ·rw [decide_eq_true h2, if_pos rfl]
   refine F13.law _ _ _ (by omega) ?_
   have : decide (a.Tags = b.Tags) = decide (a = b) := decide_eq_decide.2 (by rw [Feat.ext_iff']; exact ⟨fun e => ⟨h, h2, e⟩, fun e => e.2.2⟩)
   rw [this]; exact hq
  ·rw [decide_eq_false h2, if_neg (by decide)]
   rw [decide_eq_false (by rw [Feat.ext_iff']; exact fun e => h2 e.2.1)] at hq; exact hq
 ·rw [if_neg (by rw [beq_iff_eq]; exact h)]
  rw [decide_eq_false (by rw [Feat.ext_iff']; exact fun e => h e.1)] at hq; exact hq
theorem F54.law (f : Feat) (key val : Str) (Q : Feat → Bool → Prop) (hf : featOk f = true) (hk : wordOk key = true) (hv : wordOk val = true) (hl : f.Tags.length < 4) (hq : ∀ u, IsPut f.Tags key val u → featOk ⟨f.Id, f.Shape, u⟩ = true → Q ⟨f.Id, f.Shape, u⟩ true) : F54.E f key val Q := by
 unfold F54.E
 have hb : bulk f ≤ 1048576 := Nat.le_trans (feat_small hf).1 (by decide)
 have ss := featOk_tags hf
 have hw := feat_words hf
 have fin : ∀ u, IsPut f.Tags key val u → featOk ⟨f.Id, f.Shape, u⟩ = true := fun u hu => by
  have l := hu.len ss
  refine feat_of hw.1 (feat_facts hf).2.1 hu.1 (by split at l <;> omega) fun x hx => ?_
  rcases (hu.2 x).1 hx with g | rfl
  ·exact hw.2 x g.1
  ·exact ⟨hk, hv⟩
 refine F70.law _ _ hb ?_
 rw [hf, if_neg (by decide)]
 refine F26.law _ _ hb (F36.law _ _ _ (by omega) ?_)
 have hle := findN_le f.Tags.length fun j => (nth f.Tags (j : Int)).Key == key
 by_cases h : findN f.Tags.length (fun j => (nth f.Tags (j : Int)).Key == key) ≥ 0
 ·rw [if_pos (by simpa using h)]
  refine ⟨by omega, ?_⟩
  obtain ⟨i, hi⟩ : ∃ i : Nat, findN f.Tags.length (fun j => (nth f.Tags (j : Int)).Key == key) = (i : Int) := ⟨_, (Int.toNat_of_nonneg (by omega)).symm⟩
  obtain ⟨h1, h2⟩ := findN_true hi
  rw [hi, Int.toNat_natCast]
  have e : (nth f.Tags (i : Int)).Key = key := by simpa using h2
  rw [e]
  have hget : (f.Tags.set i ⟨key, val⟩)[i]? = some ⟨key, val⟩ := List.getElem?_set_self h1
  have hks : keysT (f.Tags.set i ⟨key, val⟩) = keysT f.Tags := by
   unfold keysT
   apply List.ext_getElem?
   intro j
   rw [List.getElem?_map, List.getElem?_map, List.getElem?_set]
   by_cases hj : i = j
   ·subst hj
    rw [if_pos rfl, if_pos h1, List.getElem?_eq_getElem h1]
    rw [nth_nat _ h1] at e
    simp [e]
   ·rw [if_neg hj]
  have hmem : (⟨key, val⟩ : Tag) ∈ f.Tags.set i ⟨key, val⟩ := List.mem_of_getElem? hget
  have hs' : SS (keysT (f.Tags.set i ⟨key, val⟩)) := by rw [hks]; exact ss
  have put : IsPut f.Tags key val (f.Tags.set i ⟨key, val⟩) := by
   refine ⟨hs', fun x => ⟨fun hx => ?_, ?_⟩⟩
   ·by_cases k : x.Key = key
    ·exact .inr (keys_inj hs' hx hmem k)
    ·rcases List.mem_or_eq_of_mem_set hx with g | g
     ·exact .inl ⟨g, k⟩
     ·exact .inr g
   ·rintro (⟨g, k⟩ | rfl)
    ·obtain ⟨j, hj, rfl⟩ := List.getElem_of_mem g
     have : i ≠ j := fun e2 => by subst e2; rw [nth_nat _ h1] at e; exact k e
     refine List.mem_of_getElem? (i := j) ?_
     rw [List.getElem?_set, if_neg this, List.getElem?_eq_getElem hj]
    ·exact hmem
  have ok := fin _ put
  refine F70.law _ _ (Nat.le_trans (feat_small ok).1 (by decide)) ?_
  rw [ok, if_neg (by decide)]
  exact F26.law _ _ (Nat.le_trans (feat_small ok).1 (by decide)) (hq _ put ok)
 ·rw [if_neg (by simpa using h)]
  have hno : key ∉ keysT f.Tags := fun hm => by
   obtain ⟨x, hx, ex⟩ := List.mem_map.1 hm
   obtain ⟨j, hj, rfl⟩ := List.getElem_of_mem hx
   have := findN_neg (n := f.Tags.length) (c := fun j => (nth f.Tags (j : Int)).Key == key) (by omega) j hj
   rw [nth_nat _ hj] at this
   simp at this
   exact this ex
  unfold F5.E
  refine ⟨by simp only [List.length_cons, List.length_nil]; omega, by simp only [List.length_append, List.length_cons, List.length_nil]; omega, fun r hp hs => ?_⟩
  have hmem : ∀ x, x ∈ r ↔ x ∈ f.Tags ∨ x = ⟨key, val⟩ := fun x => by rw [hp.mem_iff, List.mem_append, List.mem_singleton]
  have nd : (keysT r).Nodup := by
   have h0 : (keysT (f.Tags ++ [⟨key, val⟩])).Nodup := by
    rw [keys_app]
    refine List.nodup_append.2 ⟨ss.imp fun {a b} h e => (by rw [e, less_irr] at h; cases h), by simp [keysT], fun a ha b hb' e => ?_⟩
    have hb' : b = key := by simpa [keysT] using hb'
    rw [e, hb'] at ha; exact hno ha
   exact (hp.map (fun t : Tag => t.Key)).nodup_iff.2 h0
  have put : IsPut f.Tags key val r := by
   refine ⟨?_, fun x => ?_⟩
   ·unfold SS keysT
    unfold keysT at nd
    rw [List.pairwise_map]
    have nd' := List.pairwise_map.1 nd
    refine (hs.and nd').imp fun {a b} h => ?_
    rcases less_or h.1 with g | g
    ·exact g
    ·exact absurd g h.2
   ·rw [hmem]
    constructor
    ·rintro (g | g)
     ·exact .inl ⟨g, fun e => hno (List.mem_map.2 ⟨x, g, e⟩)⟩
     ·exact .inr g
    ·rintro (g | g)
     ·exact .inl g.1
     ·exact .inr g
  have ok := fin _ put
  refine F70.law _ _ (Nat.le_trans (feat_small ok).1 (by decide)) ?_
  rw [ok, if_neg (by decide)]
  exact F26.law _ _ (Nat.le_trans (feat_small ok).1 (by decide)) (hq _ put ok)
def mvP (dx dy : Int) (p : Pt) : Pt := ⟨p.X + dx, p.Y + dy⟩
def mvL (dx dy : Int) (s : List Pt) (u : Nat) : List Pt := (s.take u).map (mvP dx dy) ++ s.drop u
theorem mvL_len (dx dy : Int) (s : List Pt) {u : Nat} (hu : u ≤ s.length) : (mvL dx dy s u).length = s.length := by
  unfold mvL; rw [List.length_append, List.length_map, List.length_take, List.length_drop]; omega
theorem mvL_all (dx dy : Int) (s : List Pt) : mvL dx dy s s.length = s.map (mvP dx dy) := by unfold mvL; rw [List.take_length, List.drop_length, List.append_nil]
theorem mvL_nth (dx dy : Int) (s : List Pt) {u : Nat} (hu : u < s.length) : nth (mvL dx dy s u) (u : Int) = nth s (u : Int) := by
  rw [nth_nat s hu, nth_nat _ (by rw [mvL_len _ _ _ (by omega)]; exact hu)]
  unfold mvL
  rw [List.getElem_append_right (by rw [List.length_map, List.length_take]; omega)]
  simp only [List.length_map, List.length_take, List.getElem_drop]
  congr 1; omega
theorem mvL_set (dx dy : Int) (s : List Pt) {u : Nat} (hu : u < s.length) : (mvL dx dy s u).set u (mvP dx dy (nth s (u : Int))) = mvL dx dy s (u + 1) := by
  unfold mvL
  rw [List.set_append_right _ _ (by rw [List.length_map, List.length_take]; omega), take_nth s hu, List.map_append, List.append_assoc]
  congr 1
  have : u - ((s.take u).map (mvP dx dy)).length = 0 := by rw [List.length_map, List.length_take]; omega
  rw [this, List.drop_eq_getElem_cons hu]; rfl
theorem nth_setP {l : List Pt} {u : Nat} (hu : u < l.length) (a : Pt) : nth (l.set u a) (u : Int) = a := by
  rw [nth_nat _ (by rw [List.length_set]; exact hu)]; exact List.getElem_set_self _
theorem shape_in {s : Shape} (h : shapeOk s = true) {p : Pt} (hp : p ∈ s.Pts) : -1000 ≤ p.X ∧ p.X ≤ 1000 ∧ -1000 ≤ p.Y ∧ p.Y ≤ 1000 := by
  unfold shapeOk ptsOk at h
  simp only [Bool.and_eq_true] at h
  obtain ⟨k, hk, rfl⟩ := List.getElem_of_mem hp
  have := allN_iff.1 h.1 k hk
  rw [nth_nat _ hk] at this
  simp only [Bool.and_eq_true, ptOk, inR, decide_eq_true_eq] at this
  omega
def moved (s : Shape) (dx dy : Int) : Shape := ⟨s.Kind, s.Pts.map (mvP dx dy)⟩
def moveOf (s : Shape) (dx dy : Int) : Shape × Bool :=
  if shapeOk s && (decide (-2000 ≤ dx) && decide (dx ≤ 2000)) && (decide (-2000 ≤ dy) && decide (dy ≤ 2000)) && shapeOk (moved s dx dy) then (moved s dx dy, true) else (⟨0, []⟩, false)
theorem moveOf_ok {s : Shape} {dx dy : Int} (h : (moveOf s dx dy).2 = true) : shapeOk s = true ∧ shapeOk (moveOf s dx dy).1 = true := by
  unfold moveOf at h ⊢
  split at h
  · rename_i g
    rw [if_pos g]
    simp only [Bool.and_eq_true] at g
    exact ⟨g.1.1.1, g.2⟩
  · cases h
theorem moveOf_len (s : Shape) (dx dy : Int) (h : s.Pts.length ≤ 1000) : (moveOf s dx dy).1.Pts.length ≤ 1000 := by
  unfold moveOf
  split
  · unfold moved; rw [List.length_map]; exact h
  · exact Nat.zero_le _
theorem F28.law (s : Shape) (dx dy : Int) (Q : Shape → Bool → Prop) (hl0 : s.Pts.length ≤ 1048576) (hq : Q (moveOf s dx dy).1 (moveOf s dx dy).2) : F28.E s dx dy Q := by
 unfold F28.E
 unfold moveOf at hq
 refine F47.law _ _ (by omega) ?_
 cases ks : shapeOk s with
 | false => rw [if_pos (by decide)]; rw [ks, if_neg (by simp)] at hq; exact hq
 | true =>
 rw [if_neg (by decide)]
 refine F68.law _ _ _ _ ?_
 by_cases h1 : -2000 ≤ dx ∧ dx ≤ 2000
 case neg => rw [if_pos (by simp; omega)]; rw [if_neg (by simp; omega)] at hq; exact hq
 rw [if_neg (by simp; omega)]
 refine F68.law _ _ _ _ ?_
 by_cases h2 : -2000 ≤ dy ∧ dy ≤ 2000
 case neg => rw [if_pos (by simp; omega)]; rw [if_neg (by simp; omega)] at hq; exact hq
 rw [if_neg (by simp; omega)]
 have hl := shape_pts ks
 unfold F17.E
 rw [List.nil_append]
 refine ⟨by simp only [List.length_nil]; omega, ?_⟩
 refine ⟨fun i xs => ∃ u : Nat, i = u ∧ u ≤ s.Pts.length ∧ xs = mvL dx dy s.Pts u, fun i _ => (s.Pts.length - i).toNat, ⟨0, rfl, Nat.zero_le _, rfl⟩, ?_⟩
 rintro _ _ ⟨u, rfl, hu, rfl⟩
 by_cases h : u < s.Pts.length
 ·rw [if_pos (by simpa using h)]
  have hb := shape_in ks (nth_mem s.Pts h)
  have es := mvL_set dx dy s.Pts h
  have ln := mvL_len dx dy s.Pts hu
  have h' : u < (mvL dx dy s.Pts u).length := by omega
  rw [Int.toNat_natCast, nth_setP h', List.set_set, List.length_set, ln, mvL_nth _ _ _ h]
  exact ⟨by omega, by unfold I64; omega, by omega, by omega, by unfold I64; dsimp only; omega, by omega, by unfold I64; omega, ⟨u + 1, by omega, by omega, es⟩, by dsimp only; omega⟩
 ·rw [if_neg (by simpa using h)]
  have : u = s.Pts.length := by omega
  subst this
  rw [mvL_all]
  have em : (⟨s.Kind, s.Pts.map (mvP dx dy)⟩ : Shape) = moved s dx dy := rfl
  rw [em]
  refine F47.law _ _ (by unfold moved; rw [List.length_map]; omega) ?_
  cases km : shapeOk (moved s dx dy) with
  | false => rw [if_pos (by decide)]; rw [km, if_neg (by simp)] at hq; exact hq
  | true => rw [if_neg (by decide)]; rw [ks, km, if_pos (by simp; omega)] at hq; exact hq
theorem F29.law (s : Shape) (dx dy : Int) (Q : Shape → Bool → Prop) (hq : Q (moveOf s dx dy).1 (moveOf s dx dy).2) : F29.E s dx dy Q := by
 unfold F29.E
 unfold moveOf at hq
 refine F45.law _ _ ?_
 cases ks : shapeOk s with
 | false => rw [if_pos (by decide)]; rw [ks, if_neg (by simp)] at hq; exact hq
 | true =>
 rw [if_neg (by decide)]
 by_cases h1 : dx < -2000
 ·rw [if_pos (by simpa using h1)]; rw [if_neg (by simp; omega)] at hq; exact hq
 rw [if_neg (by simpa using h1)]
 by_cases h2 : dx > 2000
 ·rw [if_pos (by simpa using h2)]; rw [if_neg (by simp; omega)] at hq; exact hq
 rw [if_neg (by simpa using h2)]
 by_cases h3 : dy < -2000
 ·rw [if_pos (by simpa using h3)]; rw [if_neg (by simp; omega)] at hq; exact hq
 rw [if_neg (by simpa using h3)]
 by_cases h4 : dy > 2000
 ·rw [if_pos (by simpa using h4)]; rw [if_neg (by simp; omega)] at hq; exact hq
 rw [if_neg (by simpa using h4)]
 have hl := shape_pts ks
 unfold F59.E
 rw [List.nil_append]
 refine ⟨by simp only [List.length_nil]; omega, ?_⟩
 refine ⟨fun i xs => ∃ u : Nat, i = u ∧ u ≤ s.Pts.length ∧ xs = mvL dx dy s.Pts u, fun i _ => (s.Pts.length - i).toNat, ⟨0, rfl, Nat.zero_le _, rfl⟩, ?_⟩
 rintro _ _ ⟨u, rfl, hu, rfl⟩
 rw [mvL_len _ _ _ hu]
 by_cases h : u < s.Pts.length
 ·rw [if_pos (by simpa using h)]
  have hb := shape_in ks (nth_mem s.Pts h)
  have es := mvL_set dx dy s.Pts h
  refine ⟨by omega, fun _ => by unfold I64; omega, by omega, fun _ => by unfold I64; omega, by omega, by omega, ⟨u + 1, by omega, by omega, ?_⟩, by dsimp only; omega⟩
  rw [Int.toNat_natCast]; exact es
 ·rw [if_neg (by simpa using h)]
  have : u = s.Pts.length := by omega
  subst this
  rw [mvL_all]
  refine F45.law _ _ ?_
  have em : (⟨s.Kind, s.Pts.map (mvP dx dy)⟩ : Shape) = moved s dx dy := rfl
  rw [em]
  cases km : shapeOk (moved s dx dy) with
  | false => rw [if_pos (by decide)]; rw [km, if_neg (by simp)] at hq; exact hq
  | true => rw [if_neg (by decide)]; rw [ks, km, if_pos (by simp; omega)] at hq; exact hq
theorem laws_FnFeatMove.gen (code : List UInt8) (Q : Bool → Prop) (hq : Q true) : laws_FnFeatMove.E code Q := by
 unfold laws_FnFeatMove.E
 by_cases c1 : (code.length : Int) > 1048576
 ·rw [if_pos (by simpa using c1)]; exact hq
 rw [if_neg (by simpa using c1)]
 refine F11.law _ _ fun o _ _ fo _ _ _ => F9.law _ _ fun s dx dy hs => ?_
 refine F28.law _ _ _ _ (by omega) (F29.law _ _ _ _ ?_)
 have ml := moveOf_len s dx dy (by omega)
 rw [if_neg (by simp)]
 refine F25.law _ _ _ (by omega) ?_
 rw [decide_eq_true rfl, if_neg (by decide)]
 have out : (if ((moveOf s dx dy).2 == (moveOf s dx dy).2) = true then F25.E (moveOf s dx dy).1 (moveOf s dx dy).1 (fun r => Q r) else Q false) := by
  rw [if_pos (by simp)]
  exact F25.law _ _ _ (by omega) (by rw [decide_eq_true rfl]; exact hq)
 cases km : (moveOf s dx dy).2 with
 | false => rw [if_pos (by decide)]; rw [km] at out; exact out
 | true =>
 rw [km] at out
 rw [if_neg (by decide)]
 refine F64.law _ _ ?_
 cases ko : featOk o with
 | false => rw [if_pos (by decide)]; exact out
 | true =>
 rw [if_neg (by decide)]
 by_cases c2 : (o.Tags.length : Int) ≥ 4
 ·rw [if_pos (by simpa using c2)]; exact out
 rw [if_neg (by simpa using c2)]
 clear out
 obtain ⟨k1, k2⟩ := moveOf_ok km
 generalize (moveOf s dx dy).1 = m at *
 have hw := feat_words ko
 have ho := feat_facts ko
 have f1 : featOk ⟨o.Id, s, o.Tags⟩ = true := feat_of hw.1 k1 (featOk_tags ko) (by omega) hw.2
 have f2 : featOk ⟨o.Id, m, o.Tags⟩ = true := feat_of hw.1 k2 (featOk_tags ko) (by omega) hw.2
 refine F54.law _ _ _ _ f1 (by decide) (by decide) (by dsimp only; omega) fun u hu f3 => ?_
 dsimp only at hu f3 ⊢
 have sm : ∀ {f : Feat}, featOk f = true → bulk f ≤ 1048576 := fun h => Nat.le_trans (feat_small h).1 (by decide)
 have f4 : featOk ⟨o.Id, m, u⟩ = true := by
  have := feat_facts f3
  exact feat_of hw.1 k2 hu.1 this.1 (feat_words f3).2
 have ks : ∀ (a b c : Feat) (x : List Tag), (x = a.Tags ∨ x = b.Tags ∨ x = c.Tags) → ∀ k ∈ keysT x, k ∈ allKeys a b c := fun a b c x hx k hk => by
  unfold allKeys
  rw [uniq_mem, keys_app, keys_app]
  rcases hx with rfl | rfl | rfl
  ·exact List.mem_append_left _ (List.mem_append_left _ hk)
  ·exact List.mem_append_left _ (List.mem_append_right _ hk)
  ·exact List.mem_append_right _ hk
 have j1 : joinOf ⟨o.Id, s, o.Tags⟩ ⟨o.Id, m, o.Tags⟩ ⟨o.Id, s, u⟩ = (⟨o.Id, m, u⟩, []) := by
  have e1 : joinF ⟨o.Id, s, o.Tags⟩ ⟨o.Id, m, o.Tags⟩ ⟨o.Id, s, u⟩ = ⟨o.Id, m, u⟩ := by
   unfold joinF
   dsimp only
   rw [shapeF_r, tagsL_l, tagsOf_all hu.1 (allKeys_ss _ _ _) (ks ⟨o.Id, s, o.Tags⟩ ⟨o.Id, m, o.Tags⟩ ⟨o.Id, s, u⟩ u (.inr (.inr rfl)))]
  have e2 : joinW ⟨o.Id, s, o.Tags⟩ ⟨o.Id, m, o.Tags⟩ ⟨o.Id, s, u⟩ = [] := by
   unfold joinW
   dsimp only
   rw [shapeF_r, clashL_l]; rfl
  unfold joinOf
  rw [e1, e2, f4, if_pos rfl]
 have j2 : joinOf ⟨o.Id, s, o.Tags⟩ ⟨o.Id, s, u⟩ ⟨o.Id, m, o.Tags⟩ = (⟨o.Id, m, u⟩, []) := by
  have e1 : joinF ⟨o.Id, s, o.Tags⟩ ⟨o.Id, s, u⟩ ⟨o.Id, m, o.Tags⟩ = ⟨o.Id, m, u⟩ := by
   unfold joinF
   dsimp only
   rw [shapeF_l, tagsL_r, tagsOf_all hu.1 (allKeys_ss _ _ _) (ks ⟨o.Id, s, o.Tags⟩ ⟨o.Id, s, u⟩ ⟨o.Id, m, o.Tags⟩ u (.inr (.inl rfl)))]
  have e2 : joinW ⟨o.Id, s, o.Tags⟩ ⟨o.Id, s, u⟩ ⟨o.Id, m, o.Tags⟩ = [] := by
   unfold joinW
   dsimp only
   rw [shapeF_l, clashL_r]; rfl
  unfold joinOf
  rw [e1, e2, f4, if_pos rfl]
 have jj : ∀ a b c : Feat, featOk a = true → featOk b = true → featOk c = true → a.Id = b.Id → a.Id = c.Id → featJoin a b c = joinOf a b c := fun a b c ha hb hc h1 h2 => by
  unfold featJoin; rw [ha, hb, hc, decide_eq_true h1, decide_eq_true h2, if_pos (by decide)]
 refine F37.law _ _ _ _ (sm f1) (sm f2) (sm f3) (F37.law _ _ _ _ (sm f1) (sm f3) (sm f2) ?_)
 rw [jj _ _ _ f1 f2 f3 rfl rfl, jj _ _ _ f1 f3 f2 rfl rfl, j1, j2]
 refine F53.law _ _ _ (sm f4) ?_
 have eg : getT ⟨o.Id, m, u⟩ [122, 122, 122] = ([110, 101, 119], true) := by
  unfold getT
  rw [f4, if_pos rfl]
  dsimp only
  rw [hu.at (featOk_tags ko), if_pos rfl]
 rw [eg, if_pos rfl, if_pos (by simp), if_pos (by simp)]
 have sl := shape_pts k2
 have f4f := feat_facts f4
 refine F40.law _ _ _ ⟨by dsimp only; omega, by have := f4f.1; dsimp only at this ⊢; omega⟩ ?_
 rw [decide_eq_true rfl, if_pos rfl]
 refine F25.law _ _ _ (by dsimp only; omega) ?_
 rw [decide_eq_true rfl, if_pos rfl, if_pos rfl]
 exact hq
theorem laws_FnFeatMove.law (code : List UInt8) (_ : ∀ x ∈ code, True) : laws_FnFeatMove.E code (fun r => r = true) := laws_FnFeatMove.gen code _ rfl
end Go.Proofs.Ytpdmnmpcjljeaaa
namespace Go.Proofs.Ytpdmnmpcjljeaaa.rFnFeatMove
open Go.ChangeShapes Go.WideShapes Go.ChangeAt Go.RowKit
open Go.ChangeMaps (open_string shut_string)
set_option linter.unusedVariables false
theorem own : ownKnob Try.prog.godebug = none := by kernel_rfl
theorem laidOut : laidOutB Try.prog = true := by kernel_rfl
set_option maxHeartbeats 4000000 in
set_option maxRecDepth 100000 in
theorem lifted (os : Os) (started : os.Started) (H : Type) (enc : TypeId × Value → H) :
    ReturnsInHanded {} Try.checked os 4 .any (Rows.fnFeatMoveSpec.pre6 enc Try.prog Try.f4 Rows.fnFeatMoveRow.domain false) (Rows.fnFeatMoveSpec.post enc Try.prog Try.f4 false true false false) := by
  refine returnsInHanded_of_change_sized (C := Try.checked) own started (by kernel_rfl) Try.func4
    (ChangeSpec.witness6 (enc := enc) (C := Try.checked) false ⟨#[], #[.slice none 0 0], []⟩ 8 (by kernel_rfl) (by kernel_rfl) (by kernel_rfl) (by kernel_rfl)) ?_
  intro W base args ds gs before hval0 hW hcnd hsz0 _
  have hval : ∀ (j : Nat) t v, Try.f4.params[j]? = some t → args[j]? = some v → Value.okWide Try.prog W .any base t v := hval0
  have hW' := hW
  obtain ⟨p, q, hA0, hV, rfl, hfz, hnd⟩ := hW
  have hA : DataW.TrodAll enc Try.prog W 0 (fun _ => true) true Try.f4.params.toList args.toList ds p := hA0
  rw [Try.params4] at hA hval
  obtain ⟨v0, vs0, d0, ds0, p0, q0, hargs, rfl, rfl, h0, r0⟩ := trodAll_cons hA
  obtain ⟨rfl, rfl, rfl⟩ := trodAll_nil r0
  obtain rfl : args = #[v0] := by cases args; simp_all
  obtain ⟨rfl, rfl⟩ := trodVars_none hV
  have k0 := h0
  have lt0 : ∀ x ∈ p0, x.block < W.heap.size := by obtain ⟨m, hm⟩ := k0; exact DataW.trod_lt m _ _ _ hm
  obtain ⟨x0, hv0, hx0⟩ : ∃ a : List UInt8, (∀ y0 ∈ a, True) ∧ (Kd.sl Kd.byte).R W (Fr []) a v0.cells.toList := by obtain ⟨fuel, hf⟩ := h0; exact (Tr.sl Try.underlying22 (by kernel_rfl) (Tr.byte Try.underlying5)) H enc W fuel _ _ hf
  obtain ⟨a0, n0, c0, rfl⟩ := okWide_slice Try.underlying22 (hval 0 22 v0 rfl rfl)
  have s0 : Sl Kd.byte W (Fr []) (.slice a0 n0 c0) x0 := by obtain ⟨_, e, h⟩ := hx0; simp [Value.cells] at e; subst e; exact h
  clear hA0 hval0 hsz0
  refine Calls.mono (laws_FnFeatMove.calls W (Ok.nil W) x0 a0 n0 c0 s0 (fun r => r = true) (laws_FnFeatMove.law x0 hv0)) fun e W' ⟨v, he, r, hr, hq, hg⟩ => ?_
  subst he; subst hr; subst hq
  have bel := Gr.below hg
  exact ⟨_, rfl, _, _, _, [], _, [], hW', trodAll_mk1 (shut_bool Try.underlying4 _), (trodAll_cons_mk (Below.trod laidOut (by kernel_rfl) (of_decide_eq_true (by kernel_rfl)) k0 bel lt0) trodAll_mk0), rfl, bel.frame _, fun h => by cases h⟩
theorem over : Rows.fnFeatMoveRow.holds Try.pinned (OpenSpec.ofChange Rows.fnFeatMoveSpec) :=
  OpenClaim.holds_of_wide 4 Try.f4 rfl rfl rfl rfl rfl rfl rfl ⟨rfl, rfl, rfl, rfl, rfl⟩ rfl rfl rfl rfl rfl (by kernel_rfl) Try.func4 (by kernel_rfl)
    (of_decide_eq_true (by kernel_rfl)) (by unfold Func.isWrapper; first | (rw [if_pos (by decide +kernel)]; kernel_rfl) | (rw [if_neg (by decide +kernel)]; exact ⟨rfl, rfl⟩))
    (fun os started H enc _ => lifted os started H enc)
theorem proved : Rows.FnFeatMoveSaid := over
#print axioms proved
end Go.Proofs.Ytpdmnmpcjljeaaa.rFnFeatMove
namespace Go.Proofs.Ytpdmnmpcjljeaaa
theorem fnFeatMove_holds : Rows.FnFeatMoveSaid := rFnFeatMove.proved
end Go.Proofs.Ytpdmnmpcjljeaaa