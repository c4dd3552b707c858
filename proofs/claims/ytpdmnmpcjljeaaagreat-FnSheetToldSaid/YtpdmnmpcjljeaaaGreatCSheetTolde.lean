/- It is proved here that the law FnSheetTold of the given program holds whatever it is handed: the walks through the code, the plain laws and the row, in this order.
   Conditions: none. -/
import Derived.Below
import Derived.ChangeArms
import Derived.ChangeOld
import Derived.ChangeSlices
import Derived.DataReads
import Derived.Deep.Quiet
import Derived.KernelRfl
import Derived.Laws.Build
import Derived.Laws.IdiomStrings
import Derived.Laws.OwnMore
import Derived.Laws.Slices
import Derived.Laws.Strings2
import Derived.Laws.StructEq
import Derived.OpenShut
import Derived.ProofKit
import Derived.Shelf.Slices.Cells
import Derived.Shelf.Slices.CompactS
import Derived.Shelf.Slices.In.SortNone
import Derived.Shelf.Small.Bits
import Derived.Shelf.Sort.Plain
import Derived.Shelf.Strconv.Itoa0
import Derived.ShutString
import Derived.SizedLaws
import Derived.StillTail
import Derived.Test.YtpdmnmpcjljeaaaGreatProg
import Derived.Test.YtpdmnmpcjljeaaaGreatRows
import Derived.WalkKit
import Derived.Test.YtpdmnmpcjljeaaaGreatCSheetTolda
import Derived.Test.YtpdmnmpcjljeaaaGreatCSheetToldb
import Derived.Test.YtpdmnmpcjljeaaaGreatCSheetToldc
import Derived.Test.YtpdmnmpcjljeaaaGreatCSheetToldd
namespace Go.Proofs.YtpdmnmpcjljeaaaGreat
set_option linter.unusedVariables false
set_option linter.unusedSimpArgs false
set_option linter.unusedSectionVars false
set_option maxHeartbeats 8000000
set_option maxRecDepth 100000
open Go.RowKit
variable {O : Ob} {w0 : World}
def laws_FnSheetTold.E (code : List UInt8) (Q : Bool → Prop) : Prop :=
 (if decide ((code.length : Int) > 1048576) then Q true else F11.E code (fun r r2 r3 => F41.E r r2 r3 (fun r4 r5 r6 => F42.E r r2 r3 (fun r7 r8 r9 => F12.E code (fun r10 r11 => F13.E code (fun r12 => (∃ (J109 : Bool → Prop), ((if r6 != r9 then J109 true else F45.E r5 (fun r13 => F46.E r8 (fun r14 => (if r13 != r14 then J109 true else F45.E r12 (fun r15 => F46.E r12 (fun r16 => (if r15 != r16 then J109 true else F43.E r10 r11 (fun r17 => F47.E r10 r11 (fun r18 => J109 (r17 != r18))))))))))) ∧ ∀ (v : Bool), J109 v → (if v then Q false else (∃ (I277 : Int → Prop) (mu278 : Int → Nat), I277 0 ∧ ∀ (i2 : Int), I277 i2 → (if decide (i2 < (r5.length : Int)) then ((0 : Int) ≤ i2 ∧ i2 < (r5.length : Int)) ∧ F58.E r ((nth r5 i2).Id) (fun r19 r20 => ((0 : Int) ≤ i2 ∧ i2 < (r5.length : Int)) ∧ F58.E r2 ((nth r5 i2).Id) (fun r21 r22 => ((0 : Int) ≤ i2 ∧ i2 < (r5.length : Int)) ∧ F58.E r3 ((nth r5 i2).Id) (fun r23 r24 => (∃ (J420 : Bool → Prop), ((if decide (i2 > 0) then ((0 : Int) ≤ i2 ∧ i2 < (r5.length : Int)) ∧ ((r5.length : Int) ≤ 9223372036854775807 → I64 (i2 - 1)) ∧ ((0 : Int) ≤ i2 - 1 ∧ i2 - 1 < (r5.length : Int)) ∧ (if Op.bytesLess ((nth r5 i2).Id) ((nth r5 (i2 - 1)).Id) then J420 true else (if r22 == r20 then (∃ q : Bool, F55.E r21 r19 (fun x => x = q) ∧ (if q then J420 true else (if r24 == r20 then (∃ q2 : Bool, F55.E r23 r19 (fun x => x = q2) ∧ (if q2 then J420 true else (if r22 == r24 then (∃ q3 : Bool, F55.E r21 r23 (fun x => x = q3) ∧ J420 q3) else J420 false))) else (if r22 == r24 then (∃ q4 : Bool, F55.E r21 r23 (fun x => x = q4) ∧ J420 q4) else J420 false)))) else (if r24 == r20 then (∃ q5 : Bool, F55.E r23 r19 (fun x => x = q5) ∧ (if q5 then J420 true else (if r22 == r24 then (∃ q6 : Bool, F55.E r21 r23 (fun x => x = q6) ∧ J420 q6) else J420 false))) else (if r22 == r24 then (∃ q7 : Bool, F55.E r21 r23 (fun x => x = q7) ∧ J420 q7) else J420 false)))) else (if r22 == r20 then (∃ q8 : Bool, F55.E r21 r19 (fun x => x = q8) ∧ (if q8 then J420 true else (if r24 == r20 then (∃ q9 : Bool, F55.E r23 r19 (fun x => x = q9) ∧ (if q9 then J420 true else (if r22 == r24 then (∃ q10 : Bool, F55.E r21 r23 (fun x => x = q10) ∧ J420 q10) else J420 false))) else (if r22 == r24 then (∃ q11 : Bool, F55.E r21 r23 (fun x => x = q11) ∧ J420 q11) else J420 false)))) else (if r24 == r20 then (∃ q12 : Bool, F55.E r23 r19 (fun x => x = q12) ∧ (if q12 then J420 true else (if r22 == r24 then (∃ q13 : Bool, F55.E r21 r23 (fun x => x = q13) ∧ J420 q13) else J420 false))) else (if r22 == r24 then (∃ q14 : Bool, F55.E r21 r23 (fun x => x = q14) ∧ J420 q14) else J420 false))))) ∧ ∀ (v2 : Bool), J420 v2 → (if v2 then Q false else (∃ (J1204 : Bool → Prop), (((0 : Int) ≤ i2 ∧ i2 < (r5.length : Int)) ∧ (if ((nth r5 i2).What) == ([103, 111, 110, 101] : Str) then (if r22 == r24 then J1204 true else ((0 : Int) ≤ i2 ∧ i2 < (r5.length : Int)) ∧ (if ((nth r5 i2).What) == ([98, 111, 116, 104] : Str) then (if r20 then J1204 true else (if !r22 then J1204 true else J1204 (!r24))) else J1204 false)) else ((0 : Int) ≤ i2 ∧ i2 < (r5.length : Int)) ∧ (if ((nth r5 i2).What) == ([98, 111, 116, 104] : Str) then (if r20 then J1204 true else (if !r22 then J1204 true else J1204 (!r24))) else J1204 false))) ∧ ∀ (v3 : Bool), J1204 v3 → (if v3 then Q false else (I64 (i2 + 1)) ∧ I277 (i2 + 1) ∧ mu278 (i2 + 1) < mu278 i2))))))) else Q true))))))))))
theorem laws_FnSheetTold.calls {O : Ob} (w0 : World) (hO : Ok w0 O) (code : List UInt8) (A1 : Option Addr) (n2 c3 : Nat) (hp4 : Sl Kd.byte w0 (Fr O) (G A1 n2 c3) code) (Q : Bool → Prop) (h : laws_FnSheetTold.E code Q) :
  Ret Tryz.prog 7 [G A1 n2 c3] w0 (fun v w' => ∃ (r0 : Bool), v = vb r0 ∧ Q r0 ∧ Gr w0 w' none) := by
 unfold laws_FnSheetTold.E at h;have H := h;clear h;have hc0 := Ct.init hO;refine X9 Tryz.func7 Z 192 Z [.tmp 2] Z Z ?_;refine Xc (Xe (Xf (vb false) Z (Xb (Xc (Xc (Xe (Xd (G A1 n2 c3) Z ?_)))))));have hl6 := hp4.le;refine Xa (X7 u22_ A1 n2 c3 hp4.len Z) (Xa (Xz (code.length : Int) 1048576 (decide ((code.length : Int) > 1048576)) Z Z Z) (Xb ?_));refine Xv (decide ((code.length : Int) > 1048576)) Z (fun hq7 => ?_) (fun hq7 => ?_)
 ·have H := Xi H hq7;exact Xc (Xe (Xf (vb true) Z (Xb (Xl ⟨[vb true], ⟨_, Z, Z⟩, true, Z, H, hc0.gr.g0⟩))))
 have H := Xj H hq7;refine Xy (Xc (Xe (Xd (G A1 n2 c3) Z ?_)));refine Xr go24 (F11.calls H hc0.ok hp4) Z ?_;rintro _ w8 ⟨r, r2, r3, bq, br, bs, bt, bu, bv, bw, bx, bz, rfl, H, g9, me, mf, mg⟩;have g4 := hc0.k0 g9;refine Xd (.tuple #[G bq br bs, G bt bu bv, G bw bx bz]) Z (Xa (Yh [G bq br bs, G bt bu bv, G bw bx bz] 0 (G bq br bs) Z Z) (Xa (Yh [G bq br bs, G bt bu bv, G bw bx bz] 1 (G bt bu bv) Z Z) (Xa (Yh [G bq br bs, G bt bu bv, G bw bx bz] 2 (G bw bx bz) Z Z) (Xf (G bq br bs) Z (Xf (G bt bu bv) Z (Xf (G bw bx bz) Z (Xb (Xc ?_))))))));refine Xe (Xd (G bq br bs) Z (Xd (G bt bu bv) Z (Xd (G bw bx bz) Z ?_)));refine Xr go20 (F41.calls H g4.ok me mf mg) Z ?_;rintro _ mh ⟨r4, r5, r6, b5, eh, ei, cz, abd, aa, a7, a8, rfl, H, mi, n4, mj, h34, abf, eu⟩;have ej := g4.owns mi n4 mj;have eb : (((bk b5 :: bk aa :: (cz ++ [])) ++ []) : Ob).Perm (bk b5 :: bk aa :: (cz ++ [])) := RP;have ek := ej.perm eb;refine Xd (.tuple #[G b5 eh ei, G aa a7 a8, vb r6]) Z (Xa (Yh [G b5 eh ei, G aa a7 a8, vb r6] 0 (G b5 eh ei) Z Z) (Xa (Yh [G b5 eh ei, G aa a7 a8, vb r6] 1 (G aa a7 a8) Z Z) (Xa (Yh [G b5 eh ei, G aa a7 a8, vb r6] 2 (vb r6) Z Z) (Xf (G b5 eh ei) Z (Xf (G aa a7 a8) Z (Xf (vb r6) Z (Xb (Xc ?_))))))));refine Xe (Xd (G bq br bs) Z (Xd (G bt bu bv) Z (Xd (G bw bx bz) Z ?_)));have g5 := g4.stos mi mj;have g6 := St.spa (w := mh) (A := (bk b5 :: bk aa :: (cz ++ []))) (L := []) (O := O) eb;have ev := ((me.st g5).st g6);have ew := ((mf.st g5).st g6);have ex := ((mg.st g5).st g6);refine Xr go21 (F42.calls H ek.ok ev ew ex) Z ?_;rintro _ n5 ⟨r7, r8, r9, cr, el, em, b6, dx, dy, rfl, H, dp, n6, dq, h60, n7⟩;have ec := ek.owns dp n6 dq;refine Xd (.tuple #[G cr el em, G b6 dx dy, vb r9]) Z (Xa (Yh [G cr el em, G b6 dx dy, vb r9] 0 (G cr el em) Z Z) (Xa (Yh [G cr el em, G b6 dx dy, vb r9] 1 (G b6 dx dy) Z Z) (Xa (Yh [G cr el em, G b6 dx dy, vb r9] 2 (vb r9) Z Z) (Xf (G cr el em) Z (Xf (G b6 dx dy) Z (Xf (vb r9) Z (Xb (Xc ?_))))))));refine Xe (Xd (G A1 n2 c3) Z ?_);refine Xr go28 (F12.calls H ec.ok (hp4.st ec.st)) Z ?_;rintro _ n8 ⟨r10, r11, b2, c0, c1, c2, c4, c5, rfl, H, c6, n9, c7, mk, ml⟩;have dz := ec.owns c6 n9 c7;refine Xd (.tuple #[G b2 c0 c1, G c2 c4 c5]) Z (Xa (Yh [G b2 c0 c1, G c2 c4 c5] 0 (G b2 c0 c1) Z Z) (Xa (Yh [G b2 c0 c1, G c2 c4 c5] 1 (G c2 c4 c5) Z Z) (Xf (G b2 c0 c1) Z (Xf (G c2 c4 c5) Z (Xb (Xc (Xe (Xd (G A1 n2 c3) Z ?_))))))));refine Xr go29 (F13.calls H dz.ok (hp4.st dz.st)) Z ?_;rintro _ oa ⟨r12, cf, ed, ee, rfl, H, cg, ob, ch, mm⟩;have dr := dz.owns cg ob ch;refine Xf (G cf ed ee) Z (Xb (Xc (Xc ?_)));obtain ⟨oc, H, od⟩ := H;refine Y4 (J := (fun t en => ∃ (v : Bool), oc v ∧ Has t [(3, G bq br bs), (4, G bt bu bv), (5, G bw bx bz), (7, G aa a7 a8), (79, vb v)] ∧ Cw [] w0 en [bk aa] O fun M => Sl kFeat en (Fr M) (G bq br bs) r ∧ Sl kFeat en (Fr M) (G bt bu bv) r2 ∧ Sl kFeat en (Fr M) (G bw bx bz) r3 ∧ Ow kClash 59 en M (G aa a7 a8) r5)) ?_ ?_
 ·refine Xe (Xd (vb r6) Z (Xd (vb r9) Z (Xa (Y2 u4_ r6 r9 (r6 != r9) Z Z Z) (Xd (vb (r6 != r9)) Z ?_))));rcases X8 (r6 != r9) with ci | ci
  ·have H := Xi H ci;refine Xo ci Z (Xo ci Z (Xo ci Z (Xo ci Z (Xo ci Z (Xa (Xn true (vb true) ci Z) (Xd (vb true) Z (Ya (dj := 64) Z Z (.inl Z) (Ya (dj := 64) Z Z (.inl Z) ?_))))))));refine Ya (dj := 64) Z Z (.inl Z) (Ya (dj := 64) Z Z (.inl Z) (Ya (dj := 64) Z Z (.inl Z) (Xa (Xn true (vb true) Z Z) (Xd (vb true) Z (Ya (dj := 71) Z Z (.inl Z) (Ya (dj := 71) Z Z (.inl Z) (Ya (dj := 71) Z Z (.inl Z) (Ya (dj := 71) Z Z (.inl Z) ?_))))))));refine Ya (dj := 71) Z Z (.inl Z) (Ya (dj := 71) Z Z (.inl Z) (Ya (dj := 71) Z Z (.inl Z) (Xa (Xn true (vb true) Z Z) (Xb ?_))));have ey : ((bk cf :: bk b2 :: bk cr :: bk b6 :: bk b5 :: bk aa :: (cz ++ [])) : Ob).Perm ((bk cf :: bk b2 :: bk cr :: bk b6 :: bk b5 :: (cz ++ [])) ++ [bk aa]) := RP;have oe := dr.drops ey;have g7 := ek.stos dp dq;have g8 := ec.stos c6 c7;have ha := dz.stos cg ch;have og := ((((ev.st g7).st g8).st ha).st (St.drops _ O ey));have oh := ((((ew.st g7).st g8).st ha).st (St.drops _ O ey));have oi := ((((ex.st g7).st g8).st ha).st (St.drops _ O ey));have oj := (dr.odr ((((ej.spa eu eb).sos dp dq).sos c6 c7).sos cg ch) ey 0 Z);exact ⟨true, H, (Xm Z), oe, og, oh, oi, oj⟩
  have H := Xj H ci;refine Xk ci Z (Xd (G aa a7 a8) Z (Xk ci Z ?_));have ol := ((((ej.spa eu eb).sos dp dq).sos c6 c7).sos cg ch);have om := dr.gv ol 5 Z;have on := dr.drop 5 Z;refine Xr go30 (F45.calls H on.ok om) Z ?_;rintro _ oo ⟨r13, rfl, H, cs, abh⟩;have d9 := dr.k0 cs;refine Xk ci Z (Xd (G b6 dx dy) Z (Xk ci Z ?_));have oq := (((n7.sos c6 c7).sos cg ch).sn cs);have os := d9.gv oq 3 Z;have ot := d9.drop 3 Z;refine Xr go31 (F46.calls H ot.ok os) Z ?_;rintro _ ou ⟨r14, rfl, H, cu, abi⟩;have d0 := d9.k0 cu;refine Xk ci Z (Xa (Yx r13 r14 (r13 != r14) Z Z Z) (Xa (Xn false (vb (r13 != r14)) ci Z) (Xd (vb (r13 != r14)) Z ?_)));rcases X8 (r13 != r14) with cj | cj
  ·have H := Xi H cj;refine Xo cj Z (Xo cj Z (Xo cj Z (Xo cj Z (Xo cj Z (Xa (Xn true (vb true) cj Z) (Xd (vb true) Z (Ya (dj := 71) Z Z (.inl Z) (Ya (dj := 71) Z Z (.inl Z) ?_))))))));refine Ya (dj := 71) Z Z (.inl Z) (Ya (dj := 71) Z Z (.inl Z) (Ya (dj := 71) Z Z (.inl Z) (Ya (dj := 71) Z Z (.inl Z) (Ya (dj := 71) Z Z (.inl Z) (Xa (Xn true (vb true) Z Z) (Xb ?_))))));have ez : ((bk cf :: bk b2 :: bk cr :: bk b6 :: bk b5 :: bk aa :: (cz ++ [])) : Ob).Perm ((bk cf :: bk b2 :: bk cr :: bk b6 :: bk b5 :: (cz ++ [])) ++ [bk aa]) := RP;have ov := d0.drops ez;have hb := ek.stos dp dq;have hc := ec.stos c6 c7;have hd := dz.stos cg ch;have he := dr.stn cs;have hf := d9.stn cu;have ow := ((((((ev.st hb).st hc).st hd).st he).st hf).st (St.drops _ O ez));have ox := ((((((ew.st hb).st hc).st hd).st he).st hf).st (St.drops _ O ez));have oy := ((((((ex.st hb).st hc).st hd).st he).st hf).st (St.drops _ O ez));have oz := (d0.odr ((((((ej.spa eu eb).sos dp dq).sos c6 c7).sos cg ch).sn cs).sn cu) ez 0 Z);exact ⟨true, H, (Xm Z), ov, ow, ox, oy, oz⟩
  have H := Xj H cj;refine Xk cj Z (Xd (G cf ed ee) Z (Xk cj Z ?_));have o0 := ((mm.sn cs).sn cu);have o1 := d0.gv o0 0 Z;have o2 := d0.drop 0 Z;refine Xr go30 (F45.calls H o2.ok o1) Z ?_;rintro _ o3 ⟨r15, rfl, H, ds, abj⟩;have ef := d0.k0 ds;refine Xk cj Z (Xd (G cf ed ee) Z (Xk cj Z ?_));have o4 := (((mm.sn cs).sn cu).sn ds);have o5 := ef.gv o4 0 Z;have o6 := ef.drop 0 Z;refine Xr go31 (F46.calls H o6.ok o5) Z ?_;rintro _ o7 ⟨r16, rfl, H, d1, abk⟩;have ea := ef.k0 d1;refine Xk cj Z (Xa (Yx r15 r16 (r15 != r16) Z Z Z) (Xa (Xn false (vb (r15 != r16)) cj Z) (Xd (vb (r15 != r16)) Z ?_)));rcases X8 (r15 != r16) with b3 | b3
  ·have H := Xi H b3;refine Xo b3 Z (Xo b3 Z (Xo b3 Z (Xo b3 Z (Xo b3 Z (Xo b3 Z (Xo b3 Z (Xa (Xn true (vb true) b3 Z) (Xb ?_))))))));have e0 : ((bk cf :: bk b2 :: bk cr :: bk b6 :: bk b5 :: bk aa :: (cz ++ [])) : Ob).Perm ((bk cf :: bk b2 :: bk cr :: bk b6 :: bk b5 :: (cz ++ [])) ++ [bk aa]) := RP;have o8 := ea.drops e0;have hg := ek.stos dp dq;have hh := ec.stos c6 c7;have hi := dz.stos cg ch;have hj := dr.stn cs;have hk := d9.stn cu;have hl := d0.stn ds;have hm := ef.stn d1;have o9 := ((((((((ev.st hg).st hh).st hi).st hj).st hk).st hl).st hm).st (St.drops _ O e0));have pa := ((((((((ew.st hg).st hh).st hi).st hj).st hk).st hl).st hm).st (St.drops _ O e0));have pb := ((((((((ex.st hg).st hh).st hi).st hj).st hk).st hl).st hm).st (St.drops _ O e0));have pd := (ea.odr ((((((((ej.spa eu eb).sos dp dq).sos c6 c7).sos cg ch).sn cs).sn cu).sn ds).sn d1) e0 0 Z);exact ⟨true, H, (Xm Z), o8, o9, pa, pb, pd⟩
  have H := Xj H b3;refine Xk b3 Z (Xd (G b2 c0 c1) Z (Xk b3 Z (Xd (G c2 c4 c5) Z (Xk b3 Z ?_))));have pe := (((((mk.sos cg ch).sn cs).sn cu).sn ds).sn d1);have pf := ea.gv pe 1 Z;have pg := ea.drop 1 Z;have ph := dz.stos cg ch;have pi := dr.stn cs;have pj := d9.stn cu;have pk := d0.stn ds;have pl := ef.stn d1;have pm := ea.std 1 Z;have pn := ((((((ml.st ph).st pi).st pj).st pk).st pl).st pm);refine Xr go22 (F43.calls H pg.ok pf pn) Z ?_;rintro _ po ⟨r17, rfl, H, e1⟩;have e2 := ea.k0 e1;refine Xk b3 Z (Xd (G b2 c0 c1) Z (Xk b3 Z (Xd (G c2 c4 c5) Z (Xk b3 Z ?_))));have pp := ((((((mk.sos cg ch).sn cs).sn cu).sn ds).sn d1).sn e1);have pq := e2.gv pp 1 Z;have pr := e2.drop 1 Z;have ps := dz.stos cg ch;have pt := dr.stn cs;have pu := d9.stn cu;have pv := d0.stn ds;have pw := ef.stn d1;have px := ea.stn e1;have py := e2.std 1 Z;have pz := (((((((ml.st ps).st pt).st pu).st pv).st pw).st px).st py);refine Xr go32 (F47.calls H pr.ok pq pz) Z ?_;rintro _ abl ⟨r18, rfl, H, hn⟩;have mn := e2.k0 hn;refine Xk b3 Z (Xa (Y2 u4_ r17 r18 (r17 != r18) Z Z Z) (Xa (Xn false (vb (r17 != r18)) b3 Z) (Xb ?_)));have e3 : ((bk cf :: bk b2 :: bk cr :: bk b6 :: bk b5 :: bk aa :: (cz ++ [])) : Ob).Perm ((bk cf :: bk b2 :: bk cr :: bk b6 :: bk b5 :: (cz ++ [])) ++ [bk aa]) := RP;have p0 := mn.drops e3;have ho := ek.stos dp dq;have hp := ec.stos c6 c7;have hq := dz.stos cg ch;have hr := dr.stn cs;have hs := d9.stn cu;have ht := d0.stn ds;have hu := ef.stn d1;have hv := ea.stn e1;have hw := e2.stn hn;have p1 := ((((((((((ev.st ho).st hp).st hq).st hr).st hs).st ht).st hu).st hv).st hw).st (St.drops _ O e3));have p2 := ((((((((((ew.st ho).st hp).st hq).st hr).st hs).st ht).st hu).st hv).st hw).st (St.drops _ O e3));have p3 := ((((((((((ex.st ho).st hp).st hq).st hr).st hs).st ht).st hu).st hv).st hw).st (St.drops _ O e3));have p4 := (mn.odr ((((((((((ej.spa eu eb).sos dp dq).sos c6 c7).sos cg ch).sn cs).sn cu).sn ds).sn d1).sn e1).sn hn) e3 0 Z);exact ⟨r17 != r18, H, (Xm Z), p0, p1, p2, p3, p4⟩
 rintro abm en ⟨v, p5, p6, mo, p7, p8, p9, qa⟩;obtain ⟨abn, rfl⟩ := Has.ins p6;have H := od v p5;refine Xv v Z (fun hx => ?_) (fun hx => ?_)
 ·have H := Xi H hx;refine Xc (Xe (Xf (vb false) Z (Xb (Xl ?_))));have qb := mo.drop 0 Z;exact ⟨[vb false], ⟨_, Z, Z⟩, false, Z, H, qb.gr.g0⟩
 have H := Xj H hx;refine Xy (Xc (Xc (Xe (Xf (vi 0) Z (Xb (X4 ?_))))));obtain ⟨qc, qd, hy, H⟩ := H;refine Yi (α := Int) (fun (sv__ : Int) t eg => match sv__ with | i2 => qc i2 ∧ Has t [(3, G bq br bs), (4, G bt bu bv), (5, G bw bx bz), (7, G aa a7 a8), (15, vi i2)] ∧ Cw [] w0 eg [bk aa] O fun M => Sl kFeat eg (Fr M) (G bq br bs) r ∧ Sl kFeat eg (Fr M) (G bt bu bv) r2 ∧ Sl kFeat eg (Fr M) (G bw bx bz) r3 ∧ Ow kClash 59 eg M (G aa a7 a8) r5) (fun (sv__ : Int) => match sv__ with | i2 => qd i2) 0 ⟨hy, (Xm Z), mo, p7, p8, p9, qa⟩ ?_;rintro i2 _ eg ⟨hy, qe, f7, bg, qf, qg, e4⟩;obtain ⟨abo, rfl⟩ := Has.ins qe;have H := H i2 hy;refine Xc (Xc (Xe (Xd (vi i2) Z (Xd (G aa a7 a8) Z ?_))));have qh := e4.le;refine Xa (X7 u44_ aa a7 a8 e4.len Z) (Xa (Xz i2 (r5.length : Int) (decide (i2 < (r5.length : Int))) Z Z Z) (Xb ?_));refine Xv (decide (i2 < (r5.length : Int))) Z (fun hz => ?_) (fun hz => ?_)
 ·have H := Xi H hz;refine Xy (Xc (X4 (Xc (Xe (Xd (G bq br bs) Z (Xd (G aa a7 a8) Z (Xd (vi i2) Z ?_)))))));obtain ⟨mp, H⟩ := H;obtain ⟨f8, abp, qi, qj, qk⟩ := e4.get default RD i2 mp;obtain ⟨rfl, ql, abq⟩ := kClash.op qj;refine Xa (X3 u44_ Zf aa f8 a7 a8 e4.len i2 Z qi Z mp) (Xa (Xs fa59_0 (f8.add (i2.toNat * 2)) ((f8.add (i2.toNat * 2)).add 0) Z Z) (Xa (Xw ag9 cL ((f8.add (i2.toNat * 2)).add 0) (vs ((nth r5 i2).Id)) Z (qk 0 _ Z)) ?_));refine Xr go23 (F58.calls H f7.ok bg ql) Z ?_;rintro _ abr ⟨r19, r20, al, bh, bi, ak, bj, bl, rfl, H, h0, qm, h1, eo, ep, eq⟩;have mq := f7.owns h0 qm h1;refine Xd (.tuple #[.agg #[vs r19.Id, vi r19.Shape.Kind, G al bh bi, G ak bj bl], vb r20]) Z (Xa (Yh [.agg #[vs r19.Id, vi r19.Shape.Kind, G al bh bi, G ak bj bl], vb r20] 0 (.agg #[vs r19.Id, vi r19.Shape.Kind, G al bh bi, G ak bj bl]) Z Z) (Xa (Yh [.agg #[vs r19.Id, vi r19.Shape.Kind, G al bh bi, G ak bj bl], vb r20] 1 (vb r20) Z Z) (Yd [vs [], .int .i64 0, G none 0 0, G none 0 0] ze28 fun abs ap ck hu315 cl qn => ?_)));have cm := mq.own cl (some ap) (Yb ck hu315);refine X1 [vs r19.Id, vi r19.Shape.Kind, G al bh bi, G ak bj bl] qn Z Z sz28 Z Z fun qo cn f9 => ?_;have h2 := cm.wr 0 Z cn;refine Xf (vb r20) Z (Xb (Xc (Xe (Xd (G bt bu bv) Z (Xd (G aa a7 a8) Z (Xd (vi i2) Z ?_))))));obtain ⟨mr, H⟩ := H;have h3 := (cm.sw ((e4.sos h0 h1).so _ cl (Xg ck)) 3 0 Z Z Z cn);obtain ⟨ga, abt, qp, qq, qr⟩ := h3.get default RD i2 mr;obtain ⟨rfl, qs, abu⟩ := kClash.op qq;refine Xa (X3 u44_ Zf aa ga a7 a8 h3.len i2 Z qp Z mr) (Xa (Xs fa59_0 (ga.add (i2.toNat * 2)) ((ga.add (i2.toNat * 2)).add 0) Z Z) (Xa (Xw ag9 cL ((ga.add (i2.toNat * 2)).add 0) (vs ((nth r5 i2).Id)) Z (qr 0 _ Z)) ?_));have bc := f7.stos h0 h1;have bd := mq.stown _ cl (Xg ck);have be := cm.stw 0 Z cn;have bn := (((qf.st bc).st bd).st be);refine Xr go23 (F58.calls H h2.ok bn qs) Z ?_;rintro _ abv ⟨r21, r22, ai, a3, a4, aj, a5, a6, rfl, H, b4, qt, co, dt, du, dv⟩;have ms := h2.owns b4 qt co;refine Xd (.tuple #[.agg #[vs r21.Id, vi r21.Shape.Kind, G ai a3 a4, G aj a5 a6], vb r22]) Z (Xa (Yh [.agg #[vs r21.Id, vi r21.Shape.Kind, G ai a3 a4, G aj a5 a6], vb r22] 0 (.agg #[vs r21.Id, vi r21.Shape.Kind, G ai a3 a4, G aj a5 a6]) Z Z) (Xa (Yh [.agg #[vs r21.Id, vi r21.Shape.Kind, G ai a3 a4, G aj a5 a6], vb r22] 1 (vb r22) Z Z) (Yd [vs [], .int .i64 0, G none 0 0, G none 0 0] ze28 fun abw ao a9 hu358 a0 qu => ?_)));have a1 := ms.own a0 (some ao) (Yb a9 hu358);refine X1 [vs r21.Id, vi r21.Shape.Kind, G ai a3 a4, G aj a5 a6] qu Z Z sz28 Z Z fun qv a2 er => ?_;have bf := a1.wr 0 Z a2;refine Xf (vb r22) Z (Xb (Xc (Xe (Xd (G bw bx bz) Z (Xd (G aa a7 a8) Z (Xd (vi i2) Z ?_))))));obtain ⟨mt, H⟩ := H;have ct := (a1.sw ((h3.sos b4 co).so _ a0 (Xg a9)) 6 0 Z Z Z a2);obtain ⟨gb, abx, qw, qx, qy⟩ := ct.get default RD i2 mt;obtain ⟨rfl, qz, aby⟩ := kClash.op qx;refine Xa (X3 u44_ Zf aa gb a7 a8 ct.len i2 Z qw Z mt) (Xa (Xs fa59_0 (gb.add (i2.toNat * 2)) ((gb.add (i2.toNat * 2)).add 0) Z Z) (Xa (Xw ag9 cL ((gb.add (i2.toNat * 2)).add 0) (vs ((nth r5 i2).Id)) Z (qy 0 _ Z)) ?_));have ar := h2.stos b4 co;have au := ms.stown _ a0 (Xg a9);have av := a1.stw 0 Z a2;have bo := ((((((qg.st bc).st bd).st be).st ar).st au).st av);refine Xr go23 (F58.calls H bf.ok bo qz) Z ?_;rintro _ abz ⟨r23, r24, ah, aw, ax, af, ay, az, rfl, H, am, q0, aq, cv, cw, cx⟩;have bp := bf.owns am q0 aq;refine Xd (.tuple #[.agg #[vs r23.Id, vi r23.Shape.Kind, G ah aw ax, G af ay az], vb r24]) Z (Xa (Yh [.agg #[vs r23.Id, vi r23.Shape.Kind, G ah aw ax, G af ay az], vb r24] 0 (.agg #[vs r23.Id, vi r23.Shape.Kind, G ah aw ax, G af ay az]) Z Z) (Xa (Yh [.agg #[vs r23.Id, vi r23.Shape.Kind, G ah aw ax, G af ay az], vb r24] 1 (vb r24) Z Z) (Yd [vs [], .int .i64 0, G none 0 0, G none 0 0] ze28 fun ab0 an ag hu401 ac q1 => ?_)));have ad := bp.own ac (some an) (Yb ag hu401);refine X1 [vs r23.Id, vi r23.Shape.Kind, G ah aw ax, G af ay az] q1 Z Z sz28 Z Z fun cp ae cy => ?_;have ab := ad.wr 0 Z ae;refine Xf (vb r24) Z (Xb (Xc (Xc ?_)));obtain ⟨ra, H, rb⟩ := H;refine Y4 (J := (fun t es => ∃ (v2 : Bool), ra v2 ∧ Has t [(3, G bq br bs), (4, G bt bu bv), (5, G bw bx bz), (7, G aa a7 a8), (15, vi i2), (17, vb r20), (19, vb r22), (21, vb r24), (161, vb v2)] ∧ Cw [] w0 es [bk aa] O fun M => Sl kFeat es (Fr M) (G bq br bs) r ∧ Sl kFeat es (Fr M) (G bt bu bv) r2 ∧ Sl kFeat es (Fr M) (G bw bx bz) r3 ∧ Ow kClash 59 es M (G aa a7 a8) r5)) ?_ ?_
  ·refine Y0 (fun x => Gr cp x none) RK RK (Gr.drew _) ?_;refine Xu (vi i2) Z (Xh (Xz i2 0 (decide (i2 > 0)) Z Z Z) (Xu (vb (decide (i2 > 0))) Z ?_));rcases X8 (decide (i2 > 0)) with ba | ba
   ·have H := Xi H ba;refine Xp ba Z (Xu (G aa a7 a8) Z (Xp ba Z (Xu (vi i2) Z (Xp ba Z ?_))));obtain ⟨mu, H⟩ := H;have ce := (ad.sw ((ct.sos am aq).so _ ac (Xg ag)) 9 0 Z Z Z ae);obtain ⟨gc, ab1, rc, rd, re⟩ := ce.get default RD i2 mu;obtain ⟨rfl, ab2, ab3⟩ := kClash.op rd;refine Xh (X3 u44_ Zf aa gc a7 a8 ce.len i2 Z rc Z mu) (Xp ba Z (Xh (Xs fa59_0 (gc.add (i2.toNat * 2)) ((gc.add (i2.toNat * 2)).add 0) Z Z) (Xp ba Z (Xh (Xw ag9 cQ ((gc.add (i2.toNat * 2)).add 0) (vs ((nth r5 i2).Id)) Z (re 0 _ Z)) (Xp ba Z (Xu (G aa a7 a8) Z (Xp ba Z (Xu (vi i2) Z ?_))))))));refine Xp ba Z ?_;obtain ⟨rf, H⟩ := H;have rg := rf (len_le qh);refine Xh (Yt i2 1 Z Z rg) (Xp ba Z ?_);obtain ⟨mv, H⟩ := H;obtain ⟨gd, ab4, rh, ri, rj⟩ := ce.get default RD (i2 - 1) mv;obtain ⟨rfl, ab5, ab6⟩ := kClash.op ri;refine Xh (X3 u44_ Zf aa gd a7 a8 ce.len (i2 - 1) Z rh Z mv) (Xp ba Z (Xh (Xs fa59_0 (gd.add ((i2 - 1).toNat * 2)) ((gd.add ((i2 - 1).toNat * 2)).add 0) Z Z) (Xp ba Z (Xh (Xw ag9 cQ ((gd.add ((i2 - 1).toNat * 2)).add 0) (vs ((nth r5 (i2 - 1)).Id)) Z (rj 0 _ Z)) (Xp ba Z (Xh (Yx ((nth r5 i2).Id) ((nth r5 (i2 - 1)).Id) (Op.bytesLess ((nth r5 i2).Id) ((nth r5 (i2 - 1)).Id)) Z Z Z) (Xh (Yv true (vb (Op.bytesLess ((nth r5 i2).Id) ((nth r5 (i2 - 1)).Id))) (by exact congrArg Value.bool ba) Z) (Xu (vb (Op.bytesLess ((nth r5 i2).Id) ((nth r5 (i2 - 1)).Id))) Z ?_))))))));rcases X8 (Op.bytesLess ((nth r5 i2).Id) ((nth r5 (i2 - 1)).Id)) with b7 | b7
    ·have H := Xi H b7;refine Xq b7 Z (Xq b7 Z (Xq b7 Z (Xq b7 Z (X2 Z (X2 Z (X2 Z (Xq b7 Z (Xh (Xn true (vb true) b7 Z) ?_))))))));refine Xu (vb true) Z (Yw (dj := 142) Z Z (.inl Z) (Yw (dj := 142) Z Z (.inl Z) (Yw (dj := 142) Z Z (.inl Z) (Yw (dj := 142) Z Z (.inl Z) (X2 Z (X2 Z (X2 Z (Yw (dj := 142) Z Z (.inl Z) ?_))))))));refine Xh (Xn true (vb true) Z Z) (Xu (vb true) Z (Yw (dj := 152) Z Z (.inl Z) (Yw (dj := 152) Z Z (.inl Z) (Yw (dj := 152) Z Z (.inl Z) (Yw (dj := 152) Z Z (.inl Z) (X2 Z (X2 Z (X2 Z ?_))))))));refine Yw (dj := 152) Z Z (.inl Z) (Xh (Xn true (vb true) Z Z) (Yf fun ab7 h4 => ?_));have mw := ab.k0 h4;have e5 : ([some an, bk ah, bk af, some ao, bk ai, bk aj, some ap, bk al, bk ak, bk aa] : Ob).Perm ((some an :: bk ah :: bk af :: some ao :: bk ai :: bk aj :: some ap :: bk al :: bk ak :: []) ++ [bk aa]) := RP;have rk := mw.drops e5;have h5 := bf.stos am aq;have h6 := bp.stown _ ac (Xg ag);have h7 := ad.stw 0 Z ae;have h8 := ab.stn h4;have rl := (((((((((((bg.st bc).st bd).st be).st ar).st au).st av).st h5).st h6).st h7).st h8).st (St.drops _ O e5));have rm := ((((((((bn.st ar).st au).st av).st h5).st h6).st h7).st h8).st (St.drops _ O e5));have rn := (((((bo.st h5).st h6).st h7).st h8).st (St.drops _ O e5));have ro := (mw.odr (ce.sn h4) e5 0 Z);exact ⟨true, H, (Xm Z), rk, rl, rm, rn, ro⟩
    have H := Xj H b7;refine Xp b7 Z (Xu (vb r22) Z (Xp b7 Z (Xu (vb r20) Z (Xp b7 Z (Xh (Y2 u4_ r22 r20 (r22 == r20) Z Z Z) (Xp b7 Z (Xu (vb (r22 == r20)) Z ?_)))))));rcases X8 (r22 == r20) with c8 | c8
    ·have H := Xi H c8;refine Xp c8 Z ?_;have h9 := (ad.bm ((er.k0 am).k0 ac) 3 0 Z Z Z ae);refine Xh (Xt ag28 sz28 cQ (Ad ao 0) [vs r21.Id, vi r21.Shape.Kind, G ai a3 a4, G aj a5 a6] Z Z (h9.cells (off := 00) Z)) (Xp c8 Z ?_);have mx := (ad.bm (((a1.bm ((f9.k0 b4).k0 a0) 3 0 Z Z Z a2).k0 am).k0 ac) 6 0 Z Z Z ae);refine Xh (Xt ag28 sz28 cQ (Ad ap 0) [vs r19.Id, vi r19.Shape.Kind, G al bh bi, G ak bj bl] Z Z (mx.cells (off := 00) Z)) (Xp c8 Z ?_);have rp := (ad.sw (((a1.sw (du.so _ a0 (Xg a9)) 1 0 Z Z Z a2).sos am aq).so _ ac (Xg ag)) 4 0 Z Z Z ae);have rq := ab.gv rp 4 Z;have e6 := ab.drop 4 Z;have rr := (ab.sd (ad.sw (((a1.sw (dv.so _ a0 (Xg a9)) 2 0 Z Z Z a2).sos am aq).so _ ac (Xg ag)) 5 0 Z Z Z ae) 5 4 Z Z Z);have rs := e6.gv rr 4 Z;have ge := e6.drop 4 Z;have rt := (e6.sd (ab.sd (ad.sw (((a1.sw (((cm.sw (ep.so _ cl (Xg ck)) 1 0 Z Z Z cn).sos b4 co).so _ a0 (Xg a9)) 4 0 Z Z Z a2).sos am aq).so _ ac (Xg ag)) 7 0 Z Z Z ae) 7 4 Z Z Z) 6 4 Z Z Z);have ru := ge.gv rt 5 Z;have ia : Ct [] w0 cp [some an, bk ah, bk af, some ao, some ap, bk ak, bk aa] O := ge.drop 5 Z;have rv := (ge.sd (e6.sd (ab.sd (ad.sw (((a1.sw (((cm.sw (eq.so _ cl (Xg ck)) 2 0 Z Z Z cn).sos b4 co).so _ a0 (Xg a9)) 5 0 Z Z Z a2).sos am aq).so _ ac (Xg ag)) 8 0 Z Z Z ae) 8 4 Z Z Z) 7 4 Z Z Z) 6 5 Z Z Z);have rw := ia.gv rv 5 Z;have rx := ia.drop 5 Z;have ry := e6.std 4 Z;have my := ge.std 5 Z;have ib := ia.std 5 Z;have rz := (((rq.st ry).st my).st ib);have r1 := ((rs.st my).st ib);obtain ⟨q, sa, H⟩ := H;refine Y3 go17 [.agg #[vs r21.Id, vi r21.Shape.Kind, G ai a3 a4, G aj a5 a6], .agg #[vs r19.Id, vi r19.Shape.Kind, G al bh bi, G ak bj bl]] Z (vb q) (fun w g => (F55.calls sa (rx.k0 g).ok dt (rz.st (.new _ g)) (r1.st (.new _ g)) eo ((ru.st ib).st (.new _ g)) (rw.st (.new _ g))).mono ?_) ?_
     ·rintro _ w ⟨r, rfl, rfl, g2⟩;exact ⟨Z, Gr.t0 g g2⟩
     refine Xp b7 Z (Xh (Xn true (vb q) c8 Z) (Xh (Xn false (vb q) b7 Z) (Xu (vb q) Z ?_)));rcases X8 q with b8 | b8
     ·have H := Xi H b8;refine Xq b8 Z (Xq b8 Z (Xq b8 Z (Xq b8 Z (X2 Z (X2 Z (X2 Z (Xq b8 Z (Xh (Xn true (vb true) b8 Z) ?_))))))));refine Xu (vb true) Z (Yw (dj := 152) Z Z (.inl Z) (Yw (dj := 152) Z Z (.inl Z) (Yw (dj := 152) Z Z (.inl Z) (Yw (dj := 152) Z Z (.inl Z) (X2 Z (X2 Z (X2 Z (Yw (dj := 152) Z Z (.inl Z) ?_))))))));refine Xh (Xn true (vb true) Z Z) (Yf fun ab8 ic => ?_);have mz := ab.k0 ic;have e7 : ([some an, bk ah, bk af, some ao, bk ai, bk aj, some ap, bk al, bk ak, bk aa] : Ob).Perm ((some an :: bk ah :: bk af :: some ao :: bk ai :: bk aj :: some ap :: bk al :: bk ak :: []) ++ [bk aa]) := RP;have sb := mz.drops e7;have id := bf.stos am aq;have ie := bp.stown _ ac (Xg ag);have ig := ad.stw 0 Z ae;have ih := ab.stn ic;have sc := (((((((((((bg.st bc).st bd).st be).st ar).st au).st av).st id).st ie).st ig).st ih).st (St.drops _ O e7));have se := ((((((((bn.st ar).st au).st av).st id).st ie).st ig).st ih).st (St.drops _ O e7));have sf := (((((bo.st id).st ie).st ig).st ih).st (St.drops _ O e7));have sg := (mz.odr (ce.sn ic) e7 0 Z);exact ⟨true, H, (Xm Z), sb, sc, se, sf, sg⟩
     have H := Xj H b8;refine Xp b8 Z (Xu (vb r24) Z (Xp b8 Z (Xu (vb r20) Z (Xp b8 Z (Xh (Y2 u4_ r24 r20 (r24 == r20) Z Z Z) (Xp b8 Z (Xu (vb (r24 == r20)) Z ?_)))))));rcases X8 (r24 == r20) with c9 | c9
     ·have H := Xi H c9;refine Xp c9 Z (Xh (Xt ag28 sz28 cQ (Ad an 0) [vs r23.Id, vi r23.Shape.Kind, G ah aw ax, G af ay az] Z Z (cy.cells (off := 00) Z)) (Xp c9 Z (Xh (Xt ag28 sz28 cQ (Ad ap 0) [vs r19.Id, vi r19.Shape.Kind, G al bh bi, G ak bj bl] Z Z (mx.cells (off := 00) Z)) (Xp c9 Z ?_))));have sh := (ad.sw (cw.so _ ac (Xg ag)) 1 0 Z Z Z ae);have si := ab.gv sh 1 Z;have e8 := ab.drop 1 Z;have sj := (ab.sd (ad.sw (cx.so _ ac (Xg ag)) 2 0 Z Z Z ae) 2 1 Z Z Z);have sk := e8.gv sj 1 Z;have gf := e8.drop 1 Z;have sl := (e8.sd (ab.sd (ad.sw (((a1.sw (((cm.sw (ep.so _ cl (Xg ck)) 1 0 Z Z Z cn).sos b4 co).so _ a0 (Xg a9)) 4 0 Z Z Z a2).sos am aq).so _ ac (Xg ag)) 7 0 Z Z Z ae) 7 1 Z Z Z) 6 1 Z Z Z);have sm := gf.gv sl 5 Z;have ii : Ct [] w0 cp [some an, some ao, bk ai, bk aj, some ap, bk ak, bk aa] O := gf.drop 5 Z;have sp := (gf.sd (e8.sd (ab.sd (ad.sw (((a1.sw (((cm.sw (eq.so _ cl (Xg ck)) 2 0 Z Z Z cn).sos b4 co).so _ a0 (Xg a9)) 5 0 Z Z Z a2).sos am aq).so _ ac (Xg ag)) 8 0 Z Z Z ae) 8 1 Z Z Z) 7 1 Z Z Z) 6 5 Z Z Z);have sq := ii.gv sp 5 Z;have sr := ii.drop 5 Z;have ss := e8.std 1 Z;have m0 := gf.std 5 Z;have ij := ii.std 5 Z;have su := (((si.st ss).st m0).st ij);have sv := ((sk.st m0).st ij);obtain ⟨q2, sx, H⟩ := H;refine Y3 go17 [.agg #[vs r23.Id, vi r23.Shape.Kind, G ah aw ax, G af ay az], .agg #[vs r19.Id, vi r19.Shape.Kind, G al bh bi, G ak bj bl]] Z (vb q2) (fun w g => (F55.calls sx (sr.k0 g).ok cv (su.st (.new _ g)) (sv.st (.new _ g)) eo ((sm.st ij).st (.new _ g)) (sq.st (.new _ g))).mono ?_) ?_
      ·rintro _ w ⟨r, rfl, rfl, g2⟩;exact ⟨Z, Gr.t0 g g2⟩
      refine Xp b8 Z (Xh (Xn true (vb q2) c9 Z) (Xh (Xn false (vb q2) b8 Z) (Xu (vb q2) Z ?_)));rcases X8 q2 with b9 | b9
      ·have H := Xi H b9;refine Xq b9 Z (Xq b9 Z (Xq b9 Z (Xq b9 Z (X2 Z (X2 Z (X2 Z (Xq b9 Z (Xh (Xn true (vb true) b9 Z) ?_))))))));refine Yf fun ab9 ik => ?_;have m1 := ab.k0 ik;have e9 : ([some an, bk ah, bk af, some ao, bk ai, bk aj, some ap, bk al, bk ak, bk aa] : Ob).Perm ((some an :: bk ah :: bk af :: some ao :: bk ai :: bk aj :: some ap :: bk al :: bk ak :: []) ++ [bk aa]) := RP;have sy := m1.drops e9;have il := bf.stos am aq;have im := bp.stown _ ac (Xg ag);have io := ad.stw 0 Z ae;have ip := ab.stn ik;have sz := (((((((((((bg.st bc).st bd).st be).st ar).st au).st av).st il).st im).st io).st ip).st (St.drops _ O e9));have s0 := ((((((((bn.st ar).st au).st av).st il).st im).st io).st ip).st (St.drops _ O e9));have s1 := (((((bo.st il).st im).st io).st ip).st (St.drops _ O e9));have s2 := (m1.odr (ce.sn ik) e9 0 Z);exact ⟨true, H, (Xm Z), sy, sz, s0, s1, s2⟩
      have H := Xj H b9;refine Xp b9 Z (Xu (vb r22) Z (Xp b9 Z (Xu (vb r24) Z (Xp b9 Z (Xh (Y2 u4_ r22 r24 (r22 == r24) Z Z Z) (Xp b9 Z (Xu (vb (r22 == r24)) Z ?_)))))));rcases X8 (r22 == r24) with da | da
      ·have H := Xi H da;refine Xp da Z (Xh (Xt ag28 sz28 cQ (Ad ao 0) [vs r21.Id, vi r21.Shape.Kind, G ai a3 a4, G aj a5 a6] Z Z (h9.cells (off := 00) Z)) (Xp da Z (Xh (Xt ag28 sz28 cQ (Ad an 0) [vs r23.Id, vi r23.Shape.Kind, G ah aw ax, G af ay az] Z Z (cy.cells (off := 00) Z)) (Xp da Z ?_))));have s3 := (ad.sw (((a1.sw (du.so _ a0 (Xg a9)) 1 0 Z Z Z a2).sos am aq).so _ ac (Xg ag)) 4 0 Z Z Z ae);have s4 := ab.gv s3 4 Z;have fa := ab.drop 4 Z;have s5 := (ab.sd (ad.sw (((a1.sw (dv.so _ a0 (Xg a9)) 2 0 Z Z Z a2).sos am aq).so _ ac (Xg ag)) 5 0 Z Z Z ae) 5 4 Z Z Z);have s6 := fa.gv s5 4 Z;have gg := fa.drop 4 Z;have s7 := (fa.sd (ab.sd (ad.sw (cw.so _ ac (Xg ag)) 1 0 Z Z Z ae) 1 4 Z Z Z) 1 4 Z Z Z);have s8 := gg.gv s7 1 Z;have iq : Ct [] w0 cp [some an, bk af, some ao, some ap, bk al, bk ak, bk aa] O := gg.drop 1 Z;have s9 := (gg.sd (fa.sd (ab.sd (ad.sw (cx.so _ ac (Xg ag)) 2 0 Z Z Z ae) 2 4 Z Z Z) 2 4 Z Z Z) 2 1 Z Z Z);have ta := iq.gv s9 1 Z;have tb := iq.drop 1 Z;have tc := fa.std 4 Z;have m2 := gg.std 1 Z;have ir := iq.std 1 Z;have td := (((s4.st tc).st m2).st ir);have te := ((s6.st m2).st ir);obtain ⟨q3, tf, H⟩ := H;refine Y3 go17 [.agg #[vs r21.Id, vi r21.Shape.Kind, G ai a3 a4, G aj a5 a6], .agg #[vs r23.Id, vi r23.Shape.Kind, G ah aw ax, G af ay az]] Z (vb q3) (fun w g => (F55.calls tf (tb.k0 g).ok dt (td.st (.new _ g)) (te.st (.new _ g)) cv ((s8.st ir).st (.new _ g)) (ta.st (.new _ g))).mono ?_) ?_
       ·rintro _ w ⟨r, rfl, rfl, g2⟩;exact ⟨Z, Gr.t0 g g2⟩
       refine Xp b9 Z (Xh (Xn true (vb q3) da Z) (Xh (Xn false (vb q3) b9 Z) (Yf fun aca it => ?_)));have m3 := ab.k0 it;have fb : ([some an, bk ah, bk af, some ao, bk ai, bk aj, some ap, bk al, bk ak, bk aa] : Ob).Perm ((some an :: bk ah :: bk af :: some ao :: bk ai :: bk aj :: some ap :: bk al :: bk ak :: []) ++ [bk aa]) := RP;have tg := m3.drops fb;have iu := bf.stos am aq;have iv := bp.stown _ ac (Xg ag);have iw := ad.stw 0 Z ae;have ix := ab.stn it;have th := (((((((((((bg.st bc).st bd).st be).st ar).st au).st av).st iu).st iv).st iw).st ix).st (St.drops _ O fb));have ti := ((((((((bn.st ar).st au).st av).st iu).st iv).st iw).st ix).st (St.drops _ O fb));have tj := (((((bo.st iu).st iv).st iw).st ix).st (St.drops _ O fb));have tk := (m3.odr (ce.sn it) fb 0 Z);exact ⟨q3, H, (Xm Z), tg, th, ti, tj, tk⟩
      have H := Xj H da;refine Xq da Z (Xq da Z (Xq da Z (Xp b9 Z (Xh (Xn false (vb false) da Z) (Xh (Xn false (vb false) b9 Z) (Yf fun acb iy => ?_))))));have m4 := ab.k0 iy;have fc : ([some an, bk ah, bk af, some ao, bk ai, bk aj, some ap, bk al, bk ak, bk aa] : Ob).Perm ((some an :: bk ah :: bk af :: some ao :: bk ai :: bk aj :: some ap :: bk al :: bk ak :: []) ++ [bk aa]) := RP;have tl := m4.drops fc;have iz := bf.stos am aq;have i0 := bp.stown _ ac (Xg ag);have i1 := ad.stw 0 Z ae;have i3 := ab.stn iy;have tm := (((((((((((bg.st bc).st bd).st be).st ar).st au).st av).st iz).st i0).st i1).st i3).st (St.drops _ O fc));have tn := ((((((((bn.st ar).st au).st av).st iz).st i0).st i1).st i3).st (St.drops _ O fc));have tp := (((((bo.st iz).st i0).st i1).st i3).st (St.drops _ O fc));have tq := (m4.odr (ce.sn iy) fc 0 Z);exact ⟨false, H, (Xm Z), tl, tm, tn, tp, tq⟩
     have H := Xj H c9;refine Xq c9 Z (Xq c9 Z (Xq c9 Z (Xp b8 Z (Xh (Xn false (vb false) c9 Z) (Xh (Xn false (vb false) b8 Z) (Xu (vb false) Z (Yq (dj := 152) Z Z Z (Xu (vb r22) Z ?_))))))));refine Yq (dj := 152) Z Z Z (Xu (vb r24) Z (Yq (dj := 152) Z Z Z (Xh (Y2 u4_ r22 r24 (r22 == r24) Z Z Z) (Yq (dj := 152) Z Z Z (Xu (vb (r22 == r24)) Z ?_)))));rcases X8 (r22 == r24) with db | db
     ·have H := Xi H db;refine Xp db Z (Xh (Xt ag28 sz28 cQ (Ad ao 0) [vs r21.Id, vi r21.Shape.Kind, G ai a3 a4, G aj a5 a6] Z Z (h9.cells (off := 00) Z)) (Xp db Z (Xh (Xt ag28 sz28 cQ (Ad an 0) [vs r23.Id, vi r23.Shape.Kind, G ah aw ax, G af ay az] Z Z (cy.cells (off := 00) Z)) (Xp db Z ?_))));have tr := (ad.sw (((a1.sw (du.so _ a0 (Xg a9)) 1 0 Z Z Z a2).sos am aq).so _ ac (Xg ag)) 4 0 Z Z Z ae);have ts := ab.gv tr 4 Z;have fd := ab.drop 4 Z;have tt := (ab.sd (ad.sw (((a1.sw (dv.so _ a0 (Xg a9)) 2 0 Z Z Z a2).sos am aq).so _ ac (Xg ag)) 5 0 Z Z Z ae) 5 4 Z Z Z);have tu := fd.gv tt 4 Z;have gh := fd.drop 4 Z;have tv := (fd.sd (ab.sd (ad.sw (cw.so _ ac (Xg ag)) 1 0 Z Z Z ae) 1 4 Z Z Z) 1 4 Z Z Z);have tw := gh.gv tv 1 Z;have i4 : Ct [] w0 cp [some an, bk af, some ao, some ap, bk al, bk ak, bk aa] O := gh.drop 1 Z;have tx := (gh.sd (fd.sd (ab.sd (ad.sw (cx.so _ ac (Xg ag)) 2 0 Z Z Z ae) 2 4 Z Z Z) 2 4 Z Z Z) 2 1 Z Z Z);have ty := i4.gv tx 1 Z;have tz := i4.drop 1 Z;have t1 := fd.std 4 Z;have m5 := gh.std 1 Z;have i5 := i4.std 1 Z;have t2 := (((ts.st t1).st m5).st i5);have t3 := ((tu.st m5).st i5);obtain ⟨q4, t4, H⟩ := H;refine Y3 go17 [.agg #[vs r21.Id, vi r21.Shape.Kind, G ai a3 a4, G aj a5 a6], .agg #[vs r23.Id, vi r23.Shape.Kind, G ah aw ax, G af ay az]] Z (vb q4) (fun w g => (F55.calls t4 (tz.k0 g).ok dt (t2.st (.new _ g)) (t3.st (.new _ g)) cv ((tw.st i5).st (.new _ g)) (ty.st (.new _ g))).mono ?_) ?_
      ·rintro _ w ⟨r, rfl, rfl, g2⟩;exact ⟨Z, Gr.t0 g g2⟩
      refine Yq (dj := 152) Z Z Z (Xh (Xn true (vb q4) db Z) (Xh (Xn false (vb q4) Z Z) (Yf fun acc i6 => ?_)));have m6 := ab.k0 i6;have fe : ([some an, bk ah, bk af, some ao, bk ai, bk aj, some ap, bk al, bk ak, bk aa] : Ob).Perm ((some an :: bk ah :: bk af :: some ao :: bk ai :: bk aj :: some ap :: bk al :: bk ak :: []) ++ [bk aa]) := RP;have t5 := m6.drops fe;have i7 := bf.stos am aq;have i8 := bp.stown _ ac (Xg ag);have i9 := ad.stw 0 Z ae;have ja := ab.stn i6;have t6 := (((((((((((bg.st bc).st bd).st be).st ar).st au).st av).st i7).st i8).st i9).st ja).st (St.drops _ O fe));have t7 := ((((((((bn.st ar).st au).st av).st i7).st i8).st i9).st ja).st (St.drops _ O fe));have t8 := (((((bo.st i7).st i8).st i9).st ja).st (St.drops _ O fe));have t9 := (m6.odr (ce.sn i6) fe 0 Z);exact ⟨q4, H, (Xm Z), t5, t6, t7, t8, t9⟩
     have H := Xj H db;refine Xq db Z (Xq db Z (Xq db Z (Yq (dj := 152) Z Z Z (Xh (Xn false (vb false) db Z) (Xh (Xn false (vb false) Z Z) (Yf fun acd jb => ?_))))));have m7 := ab.k0 jb;have ff : ([some an, bk ah, bk af, some ao, bk ai, bk aj, some ap, bk al, bk ak, bk aa] : Ob).Perm ((some an :: bk ah :: bk af :: some ao :: bk ai :: bk aj :: some ap :: bk al :: bk ak :: []) ++ [bk aa]) := RP;have ua := m7.drops ff;have jc := bf.stos am aq;have jd := bp.stown _ ac (Xg ag);have je := ad.stw 0 Z ae;have jf := ab.stn jb;have ub := (((((((((((bg.st bc).st bd).st be).st ar).st au).st av).st jc).st jd).st je).st jf).st (St.drops _ O ff));have uc := ((((((((bn.st ar).st au).st av).st jc).st jd).st je).st jf).st (St.drops _ O ff));have ud := (((((bo.st jc).st jd).st je).st jf).st (St.drops _ O ff));have ue := (m7.odr (ce.sn jb) ff 0 Z);exact ⟨false, H, (Xm Z), ua, ub, uc, ud, ue⟩
    have H := Xj H c8;refine Xq c8 Z (Xq c8 Z (Xq c8 Z (Xp b7 Z (Xh (Xn false (vb false) c8 Z) (Xh (Xn false (vb false) b7 Z) (Xu (vb false) Z (Yq (dj := 142) Z Z Z (Xu (vb r24) Z ?_))))))));refine Yq (dj := 142) Z Z Z (Xu (vb r20) Z (Yq (dj := 142) Z Z Z (Xh (Y2 u4_ r24 r20 (r24 == r20) Z Z Z) (Yq (dj := 142) Z Z Z (Xu (vb (r24 == r20)) Z ?_)))));rcases X8 (r24 == r20) with dc | dc
    ·have H := Xi H dc;refine Xp dc Z (Xh (Xt ag28 sz28 cQ (Ad an 0) [vs r23.Id, vi r23.Shape.Kind, G ah aw ax, G af ay az] Z Z (cy.cells (off := 00) Z)) (Xp dc Z ?_));have uf := (ad.bm (((a1.bm ((f9.k0 b4).k0 a0) 3 0 Z Z Z a2).k0 am).k0 ac) 6 0 Z Z Z ae);refine Xh (Xt ag28 sz28 cQ (Ad ap 0) [vs r19.Id, vi r19.Shape.Kind, G al bh bi, G ak bj bl] Z Z (uf.cells (off := 00) Z)) (Xp dc Z ?_);have ug := (ad.sw (cw.so _ ac (Xg ag)) 1 0 Z Z Z ae);have uh := ab.gv ug 1 Z;have fg := ab.drop 1 Z;have ui := (ab.sd (ad.sw (cx.so _ ac (Xg ag)) 2 0 Z Z Z ae) 2 1 Z Z Z);have uj := fg.gv ui 1 Z;have gi := fg.drop 1 Z;have uk := (fg.sd (ab.sd (ad.sw (((a1.sw (((cm.sw (ep.so _ cl (Xg ck)) 1 0 Z Z Z cn).sos b4 co).so _ a0 (Xg a9)) 4 0 Z Z Z a2).sos am aq).so _ ac (Xg ag)) 7 0 Z Z Z ae) 7 1 Z Z Z) 6 1 Z Z Z);have ul := gi.gv uk 5 Z;have jg : Ct [] w0 cp [some an, some ao, bk ai, bk aj, some ap, bk ak, bk aa] O := gi.drop 5 Z;have um := (gi.sd (fg.sd (ab.sd (ad.sw (((a1.sw (((cm.sw (eq.so _ cl (Xg ck)) 2 0 Z Z Z cn).sos b4 co).so _ a0 (Xg a9)) 5 0 Z Z Z a2).sos am aq).so _ ac (Xg ag)) 8 0 Z Z Z ae) 8 1 Z Z Z) 7 1 Z Z Z) 6 5 Z Z Z);have un := jg.gv um 5 Z;have uo := jg.drop 5 Z;have up := fg.std 1 Z;have m8 := gi.std 5 Z;have jh := jg.std 5 Z;have uq := (((uh.st up).st m8).st jh);have ur := ((uj.st m8).st jh);obtain ⟨q5, us, H⟩ := H;refine Y3 go17 [.agg #[vs r23.Id, vi r23.Shape.Kind, G ah aw ax, G af ay az], .agg #[vs r19.Id, vi r19.Shape.Kind, G al bh bi, G ak bj bl]] Z (vb q5) (fun w g => (F55.calls us (uo.k0 g).ok cv (uq.st (.new _ g)) (ur.st (.new _ g)) eo ((ul.st jh).st (.new _ g)) (un.st (.new _ g))).mono ?_) ?_
     ·rintro _ w ⟨r, rfl, rfl, g2⟩;exact ⟨Z, Gr.t0 g g2⟩
     refine Yq (dj := 142) Z Z Z (Xh (Xn true (vb q5) dc Z) (Xh (Xn false (vb q5) Z Z) (Xu (vb q5) Z ?_)));rcases X8 q5 with ca | ca
     ·have H := Xi H ca;refine Xq ca Z (Xq ca Z (Xq ca Z (Xq ca Z (X2 Z (X2 Z (X2 Z (Xq ca Z (Xh (Xn true (vb true) ca Z) ?_))))))));refine Yf fun ace ji => ?_;have m9 := ab.k0 ji;have fh : ([some an, bk ah, bk af, some ao, bk ai, bk aj, some ap, bk al, bk ak, bk aa] : Ob).Perm ((some an :: bk ah :: bk af :: some ao :: bk ai :: bk aj :: some ap :: bk al :: bk ak :: []) ++ [bk aa]) := RP;have ut := m9.drops fh;have jj := bf.stos am aq;have jk := bp.stown _ ac (Xg ag);have jl := ad.stw 0 Z ae;have jm := ab.stn ji;have uu := (((((((((((bg.st bc).st bd).st be).st ar).st au).st av).st jj).st jk).st jl).st jm).st (St.drops _ O fh));have uv := ((((((((bn.st ar).st au).st av).st jj).st jk).st jl).st jm).st (St.drops _ O fh));have uw := (((((bo.st jj).st jk).st jl).st jm).st (St.drops _ O fh));have ux := (m9.odr (ce.sn ji) fh 0 Z);exact ⟨true, H, (Xm Z), ut, uu, uv, uw, ux⟩
     have H := Xj H ca;refine Xp ca Z (Xu (vb r22) Z (Xp ca Z (Xu (vb r24) Z (Xp ca Z (Xh (Y2 u4_ r22 r24 (r22 == r24) Z Z Z) (Xp ca Z (Xu (vb (r22 == r24)) Z ?_)))))));rcases X8 (r22 == r24) with dd | dd
     ·have H := Xi H dd;refine Xp dd Z ?_;have uy := (ad.bm ((er.k0 am).k0 ac) 3 0 Z Z Z ae);refine Xh (Xt ag28 sz28 cQ (Ad ao 0) [vs r21.Id, vi r21.Shape.Kind, G ai a3 a4, G aj a5 a6] Z Z (uy.cells (off := 00) Z)) (Xp dd Z (Xh (Xt ag28 sz28 cQ (Ad an 0) [vs r23.Id, vi r23.Shape.Kind, G ah aw ax, G af ay az] Z Z (cy.cells (off := 00) Z)) (Xp dd Z ?_)));have uz := (ad.sw (((a1.sw (du.so _ a0 (Xg a9)) 1 0 Z Z Z a2).sos am aq).so _ ac (Xg ag)) 4 0 Z Z Z ae);have u0 := ab.gv uz 4 Z;have fi := ab.drop 4 Z;have u1 := (ab.sd (ad.sw (((a1.sw (dv.so _ a0 (Xg a9)) 2 0 Z Z Z a2).sos am aq).so _ ac (Xg ag)) 5 0 Z Z Z ae) 5 4 Z Z Z);have u2 := fi.gv u1 4 Z;have gj := fi.drop 4 Z;have u3 := (fi.sd (ab.sd (ad.sw (cw.so _ ac (Xg ag)) 1 0 Z Z Z ae) 1 4 Z Z Z) 1 4 Z Z Z);have u4 := gj.gv u3 1 Z;have jn : Ct [] w0 cp [some an, bk af, some ao, some ap, bk al, bk ak, bk aa] O := gj.drop 1 Z;have u5 := (gj.sd (fi.sd (ab.sd (ad.sw (cx.so _ ac (Xg ag)) 2 0 Z Z Z ae) 2 4 Z Z Z) 2 4 Z Z Z) 2 1 Z Z Z);have u6 := jn.gv u5 1 Z;have u7 := jn.drop 1 Z;have u8 := fi.std 4 Z;have na := gj.std 1 Z;have jo := jn.std 1 Z;have u9 := (((u0.st u8).st na).st jo);have va := ((u2.st na).st jo);obtain ⟨q6, vc, H⟩ := H;refine Y3 go17 [.agg #[vs r21.Id, vi r21.Shape.Kind, G ai a3 a4, G aj a5 a6], .agg #[vs r23.Id, vi r23.Shape.Kind, G ah aw ax, G af ay az]] Z (vb q6) (fun w g => (F55.calls vc (u7.k0 g).ok dt (u9.st (.new _ g)) (va.st (.new _ g)) cv ((u4.st jo).st (.new _ g)) (u6.st (.new _ g))).mono ?_) ?_
      ·rintro _ w ⟨r, rfl, rfl, g2⟩;exact ⟨Z, Gr.t0 g g2⟩
      refine Xp ca Z (Xh (Xn true (vb q6) dd Z) (Xh (Xn false (vb q6) ca Z) (Yf fun acf jp => ?_)));have nb := ab.k0 jp;have fj : ([some an, bk ah, bk af, some ao, bk ai, bk aj, some ap, bk al, bk ak, bk aa] : Ob).Perm ((some an :: bk ah :: bk af :: some ao :: bk ai :: bk aj :: some ap :: bk al :: bk ak :: []) ++ [bk aa]) := RP;have vd := nb.drops fj;have jq := bf.stos am aq;have jr := bp.stown _ ac (Xg ag);have js := ad.stw 0 Z ae;have jt := ab.stn jp;have ve := (((((((((((bg.st bc).st bd).st be).st ar).st au).st av).st jq).st jr).st js).st jt).st (St.drops _ O fj));have vf := ((((((((bn.st ar).st au).st av).st jq).st jr).st js).st jt).st (St.drops _ O fj));have vg := (((((bo.st jq).st jr).st js).st jt).st (St.drops _ O fj));have vh := (nb.odr (ce.sn jp) fj 0 Z);exact ⟨q6, H, (Xm Z), vd, ve, vf, vg, vh⟩
     have H := Xj H dd;refine Xq dd Z (Xq dd Z (Xq dd Z (Xp ca Z (Xh (Xn false (vb false) dd Z) (Xh (Xn false (vb false) ca Z) (Yf fun acg ju => ?_))))));have nc := ab.k0 ju;have fk : ([some an, bk ah, bk af, some ao, bk ai, bk aj, some ap, bk al, bk ak, bk aa] : Ob).Perm ((some an :: bk ah :: bk af :: some ao :: bk ai :: bk aj :: some ap :: bk al :: bk ak :: []) ++ [bk aa]) := RP;have vj := nc.drops fk;have jv := bf.stos am aq;have jw := bp.stown _ ac (Xg ag);have jx := ad.stw 0 Z ae;have jy := ab.stn ju;have vk := (((((((((((bg.st bc).st bd).st be).st ar).st au).st av).st jv).st jw).st jx).st jy).st (St.drops _ O fk));have vl := ((((((((bn.st ar).st au).st av).st jv).st jw).st jx).st jy).st (St.drops _ O fk));have vm := (((((bo.st jv).st jw).st jx).st jy).st (St.drops _ O fk));have vn := (nc.odr (ce.sn ju) fk 0 Z);exact ⟨false, H, (Xm Z), vj, vk, vl, vm, vn⟩
    have H := Xj H dc;refine Xq dc Z (Xq dc Z (Xq dc Z (Yq (dj := 142) Z Z Z (Xh (Xn false (vb false) dc Z) (Xh (Xn false (vb false) Z Z) (Xu (vb false) Z (Yq (dj := 152) Z Z Z (Xu (vb r22) Z ?_))))))));refine Yq (dj := 152) Z Z Z (Xu (vb r24) Z (Yq (dj := 152) Z Z Z (Xh (Y2 u4_ r22 r24 (r22 == r24) Z Z Z) (Yq (dj := 152) Z Z Z (Xu (vb (r22 == r24)) Z ?_)))));rcases X8 (r22 == r24) with de | de
    ·have H := Xi H de;refine Xp de Z ?_;have vo := (ad.bm ((er.k0 am).k0 ac) 3 0 Z Z Z ae);refine Xh (Xt ag28 sz28 cQ (Ad ao 0) [vs r21.Id, vi r21.Shape.Kind, G ai a3 a4, G aj a5 a6] Z Z (vo.cells (off := 00) Z)) (Xp de Z (Xh (Xt ag28 sz28 cQ (Ad an 0) [vs r23.Id, vi r23.Shape.Kind, G ah aw ax, G af ay az] Z Z (cy.cells (off := 00) Z)) (Xp de Z ?_)));have vp := (ad.sw (((a1.sw (du.so _ a0 (Xg a9)) 1 0 Z Z Z a2).sos am aq).so _ ac (Xg ag)) 4 0 Z Z Z ae);have vq := ab.gv vp 4 Z;have fl := ab.drop 4 Z;have vr := (ab.sd (ad.sw (((a1.sw (dv.so _ a0 (Xg a9)) 2 0 Z Z Z a2).sos am aq).so _ ac (Xg ag)) 5 0 Z Z Z ae) 5 4 Z Z Z);have vt := fl.gv vr 4 Z;have gk := fl.drop 4 Z;have vu := (fl.sd (ab.sd (ad.sw (cw.so _ ac (Xg ag)) 1 0 Z Z Z ae) 1 4 Z Z Z) 1 4 Z Z Z);have vv := gk.gv vu 1 Z;have jz : Ct [] w0 cp [some an, bk af, some ao, some ap, bk al, bk ak, bk aa] O := gk.drop 1 Z;have vw := (gk.sd (fl.sd (ab.sd (ad.sw (cx.so _ ac (Xg ag)) 2 0 Z Z Z ae) 2 4 Z Z Z) 2 4 Z Z Z) 2 1 Z Z Z);have vx := jz.gv vw 1 Z;have vy := jz.drop 1 Z;have vz := fl.std 4 Z;have nd := gk.std 1 Z;have j0 := jz.std 1 Z;have v0 := (((vq.st vz).st nd).st j0);have v1 := ((vt.st nd).st j0);obtain ⟨q7, v4, H⟩ := H;refine Y3 go17 [.agg #[vs r21.Id, vi r21.Shape.Kind, G ai a3 a4, G aj a5 a6], .agg #[vs r23.Id, vi r23.Shape.Kind, G ah aw ax, G af ay az]] Z (vb q7) (fun w g => (F55.calls v4 (vy.k0 g).ok dt (v0.st (.new _ g)) (v1.st (.new _ g)) cv ((vv.st j0).st (.new _ g)) (vx.st (.new _ g))).mono ?_) ?_
     ·rintro _ w ⟨r, rfl, rfl, g2⟩;exact ⟨Z, Gr.t0 g g2⟩
     refine Yq (dj := 152) Z Z Z (Xh (Xn true (vb q7) de Z) (Xh (Xn false (vb q7) Z Z) (Yf fun ach j1 => ?_)));have ne := ab.k0 j1;have fm : ([some an, bk ah, bk af, some ao, bk ai, bk aj, some ap, bk al, bk ak, bk aa] : Ob).Perm ((some an :: bk ah :: bk af :: some ao :: bk ai :: bk aj :: some ap :: bk al :: bk ak :: []) ++ [bk aa]) := RP;have v5 := ne.drops fm;have j2 := bf.stos am aq;have j3 := bp.stown _ ac (Xg ag);have j4 := ad.stw 0 Z ae;have j5 := ab.stn j1;have v6 := (((((((((((bg.st bc).st bd).st be).st ar).st au).st av).st j2).st j3).st j4).st j5).st (St.drops _ O fm));have v7 := ((((((((bn.st ar).st au).st av).st j2).st j3).st j4).st j5).st (St.drops _ O fm));have v9 := (((((bo.st j2).st j3).st j4).st j5).st (St.drops _ O fm));have wa := (ne.odr (ce.sn j1) fm 0 Z);exact ⟨q7, H, (Xm Z), v5, v6, v7, v9, wa⟩
    have H := Xj H de;refine Xq de Z (Xq de Z (Xq de Z (Yq (dj := 152) Z Z Z (Xh (Xn false (vb false) de Z) (Xh (Xn false (vb false) Z Z) (Yf fun aci j6 => ?_))))));have nf := ab.k0 j6;have fn : ([some an, bk ah, bk af, some ao, bk ai, bk aj, some ap, bk al, bk ak, bk aa] : Ob).Perm ((some an :: bk ah :: bk af :: some ao :: bk ai :: bk aj :: some ap :: bk al :: bk ak :: []) ++ [bk aa]) := RP;have wb := nf.drops fn;have j7 := bf.stos am aq;have j8 := bp.stown _ ac (Xg ag);have j9 := ad.stw 0 Z ae;have ka := ab.stn j6;have wc := (((((((((((bg.st bc).st bd).st be).st ar).st au).st av).st j7).st j8).st j9).st ka).st (St.drops _ O fn));have wd := ((((((((bn.st ar).st au).st av).st j7).st j8).st j9).st ka).st (St.drops _ O fn));have we := (((((bo.st j7).st j8).st j9).st ka).st (St.drops _ O fn));have wf := (nf.odr (ce.sn j6) fn 0 Z);exact ⟨false, H, (Xm Z), wb, wc, wd, we, wf⟩
   have H := Xj H ba;refine Xq ba Z (Xq ba Z (Xq ba Z (Xq ba Z (Xq ba Z (Xq ba Z (Xq ba Z (Xq ba Z (Xq ba Z ?_))))))));refine Xq ba Z (Xq ba Z (Xq ba Z (Xh (Xn false (vb false) ba Z) (Xu (vb false) Z (Yq (dj := 132) Z Z Z (Xu (vb r22) Z (Yq (dj := 132) Z Z Z (Xu (vb r20) Z ?_))))))));refine Yq (dj := 132) Z Z Z (Xh (Y2 u4_ r22 r20 (r22 == r20) Z Z Z) (Yq (dj := 132) Z Z Z (Xu (vb (r22 == r20)) Z ?_)));rcases X8 (r22 == r20) with df | df
   ·have H := Xi H df;refine Xp df Z ?_;have kb := (ad.bm ((er.k0 am).k0 ac) 3 0 Z Z Z ae);refine Xh (Xt ag28 sz28 cQ (Ad ao 0) [vs r21.Id, vi r21.Shape.Kind, G ai a3 a4, G aj a5 a6] Z Z (kb.cells (off := 00) Z)) (Xp df Z ?_);have ng := (ad.bm (((a1.bm ((f9.k0 b4).k0 a0) 3 0 Z Z Z a2).k0 am).k0 ac) 6 0 Z Z Z ae);refine Xh (Xt ag28 sz28 cQ (Ad ap 0) [vs r19.Id, vi r19.Shape.Kind, G al bh bi, G ak bj bl] Z Z (ng.cells (off := 00) Z)) (Xp df Z ?_);have wg := (ad.sw (((a1.sw (du.so _ a0 (Xg a9)) 1 0 Z Z Z a2).sos am aq).so _ ac (Xg ag)) 4 0 Z Z Z ae);have wh := ab.gv wg 4 Z;have fo := ab.drop 4 Z;have wi := (ab.sd (ad.sw (((a1.sw (dv.so _ a0 (Xg a9)) 2 0 Z Z Z a2).sos am aq).so _ ac (Xg ag)) 5 0 Z Z Z ae) 5 4 Z Z Z);have wj := fo.gv wi 4 Z;have gl := fo.drop 4 Z;have wk := (fo.sd (ab.sd (ad.sw (((a1.sw (((cm.sw (ep.so _ cl (Xg ck)) 1 0 Z Z Z cn).sos b4 co).so _ a0 (Xg a9)) 4 0 Z Z Z a2).sos am aq).so _ ac (Xg ag)) 7 0 Z Z Z ae) 7 4 Z Z Z) 6 4 Z Z Z);have wl := gl.gv wk 5 Z;have kc : Ct [] w0 cp [some an, bk ah, bk af, some ao, some ap, bk ak, bk aa] O := gl.drop 5 Z;have wm := (gl.sd (fo.sd (ab.sd (ad.sw (((a1.sw (((cm.sw (eq.so _ cl (Xg ck)) 2 0 Z Z Z cn).sos b4 co).so _ a0 (Xg a9)) 5 0 Z Z Z a2).sos am aq).so _ ac (Xg ag)) 8 0 Z Z Z ae) 8 4 Z Z Z) 7 4 Z Z Z) 6 5 Z Z Z);have wn := kc.gv wm 5 Z;have wo := kc.drop 5 Z;have wp := fo.std 4 Z;have nh := gl.std 5 Z;have kd := kc.std 5 Z;have wq := (((wh.st wp).st nh).st kd);have ws := ((wj.st nh).st kd);obtain ⟨q8, wt, H⟩ := H;refine Y3 go17 [.agg #[vs r21.Id, vi r21.Shape.Kind, G ai a3 a4, G aj a5 a6], .agg #[vs r19.Id, vi r19.Shape.Kind, G al bh bi, G ak bj bl]] Z (vb q8) (fun w g => (F55.calls wt (wo.k0 g).ok dt (wq.st (.new _ g)) (ws.st (.new _ g)) eo ((wl.st kd).st (.new _ g)) (wn.st (.new _ g))).mono ?_) ?_
    ·rintro _ w ⟨r, rfl, rfl, g2⟩;exact ⟨Z, Gr.t0 g g2⟩
    refine Yq (dj := 132) Z Z Z (Xh (Xn true (vb q8) df Z) (Xh (Xn false (vb q8) Z Z) (Xu (vb q8) Z ?_)));rcases X8 q8 with cb | cb
    ·have H := Xi H cb;refine Xq cb Z (Xq cb Z (Xq cb Z (Xq cb Z (X2 Z (X2 Z (X2 Z (Xq cb Z (Xh (Xn true (vb true) cb Z) ?_))))))));refine Xu (vb true) Z (Yw (dj := 152) Z Z (.inl Z) (Yw (dj := 152) Z Z (.inl Z) (Yw (dj := 152) Z Z (.inl Z) (Yw (dj := 152) Z Z (.inl Z) (X2 Z (X2 Z (X2 Z (Yw (dj := 152) Z Z (.inl Z) ?_))))))));refine Xh (Xn true (vb true) Z Z) (Yf fun acj ke => ?_);have ni := ab.k0 ke;have fp : ([some an, bk ah, bk af, some ao, bk ai, bk aj, some ap, bk al, bk ak, bk aa] : Ob).Perm ((some an :: bk ah :: bk af :: some ao :: bk ai :: bk aj :: some ap :: bk al :: bk ak :: []) ++ [bk aa]) := RP;have wu := ni.drops fp;have kf := bf.stos am aq;have kg := bp.stown _ ac (Xg ag);have kh := ad.stw 0 Z ae;have ki := ab.stn ke;have wv := (((((((((((bg.st bc).st bd).st be).st ar).st au).st av).st kf).st kg).st kh).st ki).st (St.drops _ O fp));have ww := ((((((((bn.st ar).st au).st av).st kf).st kg).st kh).st ki).st (St.drops _ O fp));have wx := (((((bo.st kf).st kg).st kh).st ki).st (St.drops _ O fp));have wy := (ni.odr ((ad.sw ((ct.sos am aq).so _ ac (Xg ag)) 9 0 Z Z Z ae).sn ke) fp 0 Z);exact ⟨true, H, (Xm Z), wu, wv, ww, wx, wy⟩
    have H := Xj H cb;refine Xp cb Z (Xu (vb r24) Z (Xp cb Z (Xu (vb r20) Z (Xp cb Z (Xh (Y2 u4_ r24 r20 (r24 == r20) Z Z Z) (Xp cb Z (Xu (vb (r24 == r20)) Z ?_)))))));rcases X8 (r24 == r20) with dg | dg
    ·have H := Xi H dg;refine Xp dg Z (Xh (Xt ag28 sz28 cQ (Ad an 0) [vs r23.Id, vi r23.Shape.Kind, G ah aw ax, G af ay az] Z Z (cy.cells (off := 00) Z)) (Xp dg Z (Xh (Xt ag28 sz28 cQ (Ad ap 0) [vs r19.Id, vi r19.Shape.Kind, G al bh bi, G ak bj bl] Z Z (ng.cells (off := 00) Z)) (Xp dg Z ?_))));have wz := (ad.sw (cw.so _ ac (Xg ag)) 1 0 Z Z Z ae);have w1 := ab.gv wz 1 Z;have fq := ab.drop 1 Z;have w2 := (ab.sd (ad.sw (cx.so _ ac (Xg ag)) 2 0 Z Z Z ae) 2 1 Z Z Z);have w3 := fq.gv w2 1 Z;have gm := fq.drop 1 Z;have w4 := (fq.sd (ab.sd (ad.sw (((a1.sw (((cm.sw (ep.so _ cl (Xg ck)) 1 0 Z Z Z cn).sos b4 co).so _ a0 (Xg a9)) 4 0 Z Z Z a2).sos am aq).so _ ac (Xg ag)) 7 0 Z Z Z ae) 7 1 Z Z Z) 6 1 Z Z Z);have w5 := gm.gv w4 5 Z;have kj : Ct [] w0 cp [some an, some ao, bk ai, bk aj, some ap, bk ak, bk aa] O := gm.drop 5 Z;have w6 := (gm.sd (fq.sd (ab.sd (ad.sw (((a1.sw (((cm.sw (eq.so _ cl (Xg ck)) 2 0 Z Z Z cn).sos b4 co).so _ a0 (Xg a9)) 5 0 Z Z Z a2).sos am aq).so _ ac (Xg ag)) 8 0 Z Z Z ae) 8 1 Z Z Z) 7 1 Z Z Z) 6 5 Z Z Z);have w7 := kj.gv w6 5 Z;have w9 := kj.drop 5 Z;have xa := fq.std 1 Z;have nj := gm.std 5 Z;have kk := kj.std 5 Z;have xb := (((w1.st xa).st nj).st kk);have xc := ((w3.st nj).st kk);obtain ⟨q9, xd, H⟩ := H;refine Y3 go17 [.agg #[vs r23.Id, vi r23.Shape.Kind, G ah aw ax, G af ay az], .agg #[vs r19.Id, vi r19.Shape.Kind, G al bh bi, G ak bj bl]] Z (vb q9) (fun w g => (F55.calls xd (w9.k0 g).ok cv (xb.st (.new _ g)) (xc.st (.new _ g)) eo ((w5.st kk).st (.new _ g)) (w7.st (.new _ g))).mono ?_) ?_
     ·rintro _ w ⟨r, rfl, rfl, g2⟩;exact ⟨Z, Gr.t0 g g2⟩
     refine Xp cb Z (Xh (Xn true (vb q9) dg Z) (Xh (Xn false (vb q9) cb Z) (Xu (vb q9) Z ?_)));rcases X8 q9 with cc | cc
     ·have H := Xi H cc;refine Xq cc Z (Xq cc Z (Xq cc Z (Xq cc Z (X2 Z (X2 Z (X2 Z (Xq cc Z (Xh (Xn true (vb true) cc Z) ?_))))))));refine Yf fun ack kl => ?_;have nk := ab.k0 kl;have fr : ([some an, bk ah, bk af, some ao, bk ai, bk aj, some ap, bk al, bk ak, bk aa] : Ob).Perm ((some an :: bk ah :: bk af :: some ao :: bk ai :: bk aj :: some ap :: bk al :: bk ak :: []) ++ [bk aa]) := RP;have xe := nk.drops fr;have km := bf.stos am aq;have kn := bp.stown _ ac (Xg ag);have ko := ad.stw 0 Z ae;have kp := ab.stn kl;have xf := (((((((((((bg.st bc).st bd).st be).st ar).st au).st av).st km).st kn).st ko).st kp).st (St.drops _ O fr));have xg := ((((((((bn.st ar).st au).st av).st km).st kn).st ko).st kp).st (St.drops _ O fr));have xh := (((((bo.st km).st kn).st ko).st kp).st (St.drops _ O fr));have xi := (nk.odr ((ad.sw ((ct.sos am aq).so _ ac (Xg ag)) 9 0 Z Z Z ae).sn kl) fr 0 Z);exact ⟨true, H, (Xm Z), xe, xf, xg, xh, xi⟩
     have H := Xj H cc;refine Xp cc Z (Xu (vb r22) Z (Xp cc Z (Xu (vb r24) Z (Xp cc Z (Xh (Y2 u4_ r22 r24 (r22 == r24) Z Z Z) (Xp cc Z (Xu (vb (r22 == r24)) Z ?_)))))));rcases X8 (r22 == r24) with dh | dh
     ·have H := Xi H dh;refine Xp dh Z (Xh (Xt ag28 sz28 cQ (Ad ao 0) [vs r21.Id, vi r21.Shape.Kind, G ai a3 a4, G aj a5 a6] Z Z (kb.cells (off := 00) Z)) (Xp dh Z (Xh (Xt ag28 sz28 cQ (Ad an 0) [vs r23.Id, vi r23.Shape.Kind, G ah aw ax, G af ay az] Z Z (cy.cells (off := 00) Z)) (Xp dh Z ?_))));have xj := (ad.sw (((a1.sw (du.so _ a0 (Xg a9)) 1 0 Z Z Z a2).sos am aq).so _ ac (Xg ag)) 4 0 Z Z Z ae);have xk := ab.gv xj 4 Z;have fs := ab.drop 4 Z;have xl := (ab.sd (ad.sw (((a1.sw (dv.so _ a0 (Xg a9)) 2 0 Z Z Z a2).sos am aq).so _ ac (Xg ag)) 5 0 Z Z Z ae) 5 4 Z Z Z);have xm := fs.gv xl 4 Z;have gn := fs.drop 4 Z;have xn := (fs.sd (ab.sd (ad.sw (cw.so _ ac (Xg ag)) 1 0 Z Z Z ae) 1 4 Z Z Z) 1 4 Z Z Z);have xo := gn.gv xn 1 Z;have kq : Ct [] w0 cp [some an, bk af, some ao, some ap, bk al, bk ak, bk aa] O := gn.drop 1 Z;have xp := (gn.sd (fs.sd (ab.sd (ad.sw (cx.so _ ac (Xg ag)) 2 0 Z Z Z ae) 2 4 Z Z Z) 2 4 Z Z Z) 2 1 Z Z Z);have xq := kq.gv xp 1 Z;have xr := kq.drop 1 Z;have xs := fs.std 4 Z;have nl := gn.std 1 Z;have kr := kq.std 1 Z;have xt := (((xk.st xs).st nl).st kr);have xu := ((xm.st nl).st kr);obtain ⟨gp, xv, H⟩ := H;refine Y3 go17 [.agg #[vs r21.Id, vi r21.Shape.Kind, G ai a3 a4, G aj a5 a6], .agg #[vs r23.Id, vi r23.Shape.Kind, G ah aw ax, G af ay az]] Z (vb gp) (fun w g => (F55.calls xv (xr.k0 g).ok dt (xt.st (.new _ g)) (xu.st (.new _ g)) cv ((xo.st kr).st (.new _ g)) (xq.st (.new _ g))).mono ?_) ?_
      ·rintro _ w ⟨r, rfl, rfl, g2⟩;exact ⟨Z, Gr.t0 g g2⟩
      refine Xp cc Z (Xh (Xn true (vb gp) dh Z) (Xh (Xn false (vb gp) cc Z) (Yf fun acl ks => ?_)));have nm := ab.k0 ks;have ft : ([some an, bk ah, bk af, some ao, bk ai, bk aj, some ap, bk al, bk ak, bk aa] : Ob).Perm ((some an :: bk ah :: bk af :: some ao :: bk ai :: bk aj :: some ap :: bk al :: bk ak :: []) ++ [bk aa]) := RP;have xw := nm.drops ft;have kt := bf.stos am aq;have ku := bp.stown _ ac (Xg ag);have kv := ad.stw 0 Z ae;have kx := ab.stn ks;have xx := (((((((((((bg.st bc).st bd).st be).st ar).st au).st av).st kt).st ku).st kv).st kx).st (St.drops _ O ft));have xy := ((((((((bn.st ar).st au).st av).st kt).st ku).st kv).st kx).st (St.drops _ O ft));have xz := (((((bo.st kt).st ku).st kv).st kx).st (St.drops _ O ft));have x0 := (nm.odr ((ad.sw ((ct.sos am aq).so _ ac (Xg ag)) 9 0 Z Z Z ae).sn ks) ft 0 Z);exact ⟨gp, H, (Xm Z), xw, xx, xy, xz, x0⟩
     have H := Xj H dh;refine Xq dh Z (Xq dh Z (Xq dh Z (Xp cc Z (Xh (Xn false (vb false) dh Z) (Xh (Xn false (vb false) cc Z) (Yf fun acm ky => ?_))))));have nn := ab.k0 ky;have fu : ([some an, bk ah, bk af, some ao, bk ai, bk aj, some ap, bk al, bk ak, bk aa] : Ob).Perm ((some an :: bk ah :: bk af :: some ao :: bk ai :: bk aj :: some ap :: bk al :: bk ak :: []) ++ [bk aa]) := RP;have x1 := nn.drops fu;have kz := bf.stos am aq;have k1 := bp.stown _ ac (Xg ag);have k2 := ad.stw 0 Z ae;have k3 := ab.stn ky;have x2 := (((((((((((bg.st bc).st bd).st be).st ar).st au).st av).st kz).st k1).st k2).st k3).st (St.drops _ O fu));have x3 := ((((((((bn.st ar).st au).st av).st kz).st k1).st k2).st k3).st (St.drops _ O fu));have x4 := (((((bo.st kz).st k1).st k2).st k3).st (St.drops _ O fu));have x5 := (nn.odr ((ad.sw ((ct.sos am aq).so _ ac (Xg ag)) 9 0 Z Z Z ae).sn ky) fu 0 Z);exact ⟨false, H, (Xm Z), x1, x2, x3, x4, x5⟩
    have H := Xj H dg;refine Xq dg Z (Xq dg Z (Xq dg Z (Xp cb Z (Xh (Xn false (vb false) dg Z) (Xh (Xn false (vb false) cb Z) (Xu (vb false) Z (Yq (dj := 152) Z Z Z (Xu (vb r22) Z ?_))))))));refine Yq (dj := 152) Z Z Z (Xu (vb r24) Z (Yq (dj := 152) Z Z Z (Xh (Y2 u4_ r22 r24 (r22 == r24) Z Z Z) (Yq (dj := 152) Z Z Z (Xu (vb (r22 == r24)) Z ?_)))));rcases X8 (r22 == r24) with di | di
    ·have H := Xi H di;refine Xp di Z (Xh (Xt ag28 sz28 cQ (Ad ao 0) [vs r21.Id, vi r21.Shape.Kind, G ai a3 a4, G aj a5 a6] Z Z (kb.cells (off := 00) Z)) (Xp di Z (Xh (Xt ag28 sz28 cQ (Ad an 0) [vs r23.Id, vi r23.Shape.Kind, G ah aw ax, G af ay az] Z Z (cy.cells (off := 00) Z)) (Xp di Z ?_))));have x6 := (ad.sw (((a1.sw (du.so _ a0 (Xg a9)) 1 0 Z Z Z a2).sos am aq).so _ ac (Xg ag)) 4 0 Z Z Z ae);have x7 := ab.gv x6 4 Z;have fv := ab.drop 4 Z;have x8 := (ab.sd (ad.sw (((a1.sw (dv.so _ a0 (Xg a9)) 2 0 Z Z Z a2).sos am aq).so _ ac (Xg ag)) 5 0 Z Z Z ae) 5 4 Z Z Z);have x9 := fv.gv x8 4 Z;have gq := fv.drop 4 Z;have ya := (fv.sd (ab.sd (ad.sw (cw.so _ ac (Xg ag)) 1 0 Z Z Z ae) 1 4 Z Z Z) 1 4 Z Z Z);have yb := gq.gv ya 1 Z;have k4 : Ct [] w0 cp [some an, bk af, some ao, some ap, bk al, bk ak, bk aa] O := gq.drop 1 Z;have yc := (gq.sd (fv.sd (ab.sd (ad.sw (cx.so _ ac (Xg ag)) 2 0 Z Z Z ae) 2 4 Z Z Z) 2 4 Z Z Z) 2 1 Z Z Z);have yd := k4.gv yc 1 Z;have ye := k4.drop 1 Z;have yf := fv.std 4 Z;have no := gq.std 1 Z;have k5 := k4.std 1 Z;have yg := (((x7.st yf).st no).st k5);have yh := ((x9.st no).st k5);obtain ⟨gs, yi, H⟩ := H;refine Y3 go17 [.agg #[vs r21.Id, vi r21.Shape.Kind, G ai a3 a4, G aj a5 a6], .agg #[vs r23.Id, vi r23.Shape.Kind, G ah aw ax, G af ay az]] Z (vb gs) (fun w g => (F55.calls yi (ye.k0 g).ok dt (yg.st (.new _ g)) (yh.st (.new _ g)) cv ((yb.st k5).st (.new _ g)) (yd.st (.new _ g))).mono ?_) ?_
     ·rintro _ w ⟨r, rfl, rfl, g2⟩;exact ⟨Z, Gr.t0 g g2⟩
     refine Yq (dj := 152) Z Z Z (Xh (Xn true (vb gs) di Z) (Xh (Xn false (vb gs) Z Z) (Yf fun acn k6 => ?_)));have np := ab.k0 k6;have fw : ([some an, bk ah, bk af, some ao, bk ai, bk aj, some ap, bk al, bk ak, bk aa] : Ob).Perm ((some an :: bk ah :: bk af :: some ao :: bk ai :: bk aj :: some ap :: bk al :: bk ak :: []) ++ [bk aa]) := RP;have yj := np.drops fw;have k7 := bf.stos am aq;have k8 := bp.stown _ ac (Xg ag);have k9 := ad.stw 0 Z ae;have la := ab.stn k6;have yk := (((((((((((bg.st bc).st bd).st be).st ar).st au).st av).st k7).st k8).st k9).st la).st (St.drops _ O fw));have yl := ((((((((bn.st ar).st au).st av).st k7).st k8).st k9).st la).st (St.drops _ O fw));have ym := (((((bo.st k7).st k8).st k9).st la).st (St.drops _ O fw));have yn := (np.odr ((ad.sw ((ct.sos am aq).so _ ac (Xg ag)) 9 0 Z Z Z ae).sn k6) fw 0 Z);exact ⟨gs, H, (Xm Z), yj, yk, yl, ym, yn⟩
    have H := Xj H di;refine Xq di Z (Xq di Z (Xq di Z (Yq (dj := 152) Z Z Z (Xh (Xn false (vb false) di Z) (Xh (Xn false (vb false) Z Z) (Yf fun aco lb => ?_))))));have nq := ab.k0 lb;have fx : ([some an, bk ah, bk af, some ao, bk ai, bk aj, some ap, bk al, bk ak, bk aa] : Ob).Perm ((some an :: bk ah :: bk af :: some ao :: bk ai :: bk aj :: some ap :: bk al :: bk ak :: []) ++ [bk aa]) := RP;have yo := nq.drops fx;have lc := bf.stos am aq;have ld := bp.stown _ ac (Xg ag);have lf := ad.stw 0 Z ae;have lg := ab.stn lb;have yp := (((((((((((bg.st bc).st bd).st be).st ar).st au).st av).st lc).st ld).st lf).st lg).st (St.drops _ O fx));have yq := ((((((((bn.st ar).st au).st av).st lc).st ld).st lf).st lg).st (St.drops _ O fx));have yr := (((((bo.st lc).st ld).st lf).st lg).st (St.drops _ O fx));have ys := (nq.odr ((ad.sw ((ct.sos am aq).so _ ac (Xg ag)) 9 0 Z Z Z ae).sn lb) fx 0 Z);exact ⟨false, H, (Xm Z), yo, yp, yq, yr, ys⟩
   have H := Xj H df;refine Xq df Z (Xq df Z (Xq df Z (Yq (dj := 132) Z Z Z (Xh (Xn false (vb false) df Z) (Xh (Xn false (vb false) Z Z) (Xu (vb false) Z (Yq (dj := 142) Z Z Z (Xu (vb r24) Z ?_))))))));refine Yq (dj := 142) Z Z Z (Xu (vb r20) Z (Yq (dj := 142) Z Z Z (Xh (Y2 u4_ r24 r20 (r24 == r20) Z Z Z) (Yq (dj := 142) Z Z Z (Xu (vb (r24 == r20)) Z ?_)))));rcases X8 (r24 == r20) with dk | dk
   ·have H := Xi H dk;refine Xp dk Z (Xh (Xt ag28 sz28 cQ (Ad an 0) [vs r23.Id, vi r23.Shape.Kind, G ah aw ax, G af ay az] Z Z (cy.cells (off := 00) Z)) (Xp dk Z ?_));have yt := (ad.bm (((a1.bm ((f9.k0 b4).k0 a0) 3 0 Z Z Z a2).k0 am).k0 ac) 6 0 Z Z Z ae);refine Xh (Xt ag28 sz28 cQ (Ad ap 0) [vs r19.Id, vi r19.Shape.Kind, G al bh bi, G ak bj bl] Z Z (yt.cells (off := 00) Z)) (Xp dk Z ?_);have yu := (ad.sw (cw.so _ ac (Xg ag)) 1 0 Z Z Z ae);have yv := ab.gv yu 1 Z;have fy := ab.drop 1 Z;have yw := (ab.sd (ad.sw (cx.so _ ac (Xg ag)) 2 0 Z Z Z ae) 2 1 Z Z Z);have yx := fy.gv yw 1 Z;have gt := fy.drop 1 Z;have yy := (fy.sd (ab.sd (ad.sw (((a1.sw (((cm.sw (ep.so _ cl (Xg ck)) 1 0 Z Z Z cn).sos b4 co).so _ a0 (Xg a9)) 4 0 Z Z Z a2).sos am aq).so _ ac (Xg ag)) 7 0 Z Z Z ae) 7 1 Z Z Z) 6 1 Z Z Z);have yz := gt.gv yy 5 Z;have lh : Ct [] w0 cp [some an, some ao, bk ai, bk aj, some ap, bk ak, bk aa] O := gt.drop 5 Z;have y0 := (gt.sd (fy.sd (ab.sd (ad.sw (((a1.sw (((cm.sw (eq.so _ cl (Xg ck)) 2 0 Z Z Z cn).sos b4 co).so _ a0 (Xg a9)) 5 0 Z Z Z a2).sos am aq).so _ ac (Xg ag)) 8 0 Z Z Z ae) 8 1 Z Z Z) 7 1 Z Z Z) 6 5 Z Z Z);have y1 := lh.gv y0 5 Z;have y2 := lh.drop 5 Z;have y3 := fy.std 1 Z;have nr := gt.std 5 Z;have li := lh.std 5 Z;have y4 := (((yv.st y3).st nr).st li);have y5 := ((yx.st nr).st li);obtain ⟨fz, y6, H⟩ := H;refine Y3 go17 [.agg #[vs r23.Id, vi r23.Shape.Kind, G ah aw ax, G af ay az], .agg #[vs r19.Id, vi r19.Shape.Kind, G al bh bi, G ak bj bl]] Z (vb fz) (fun w g => (F55.calls y6 (y2.k0 g).ok cv (y4.st (.new _ g)) (y5.st (.new _ g)) eo ((yz.st li).st (.new _ g)) (y1.st (.new _ g))).mono ?_) ?_
    ·rintro _ w ⟨r, rfl, rfl, g2⟩;exact ⟨Z, Gr.t0 g g2⟩
    refine Yq (dj := 142) Z Z Z (Xh (Xn true (vb fz) dk Z) (Xh (Xn false (vb fz) Z Z) (Xu (vb fz) Z ?_)));rcases X8 fz with cd | cd
    ·have H := Xi H cd;refine Xq cd Z (Xq cd Z (Xq cd Z (Xq cd Z (X2 Z (X2 Z (X2 Z (Xq cd Z (Xh (Xn true (vb true) cd Z) ?_))))))));refine Yf fun acp lj => ?_;have ns := ab.k0 lj;have f0 : ([some an, bk ah, bk af, some ao, bk ai, bk aj, some ap, bk al, bk ak, bk aa] : Ob).Perm ((some an :: bk ah :: bk af :: some ao :: bk ai :: bk aj :: some ap :: bk al :: bk ak :: []) ++ [bk aa]) := RP;have y7 := ns.drops f0;have lk := bf.stos am aq;have ll := bp.stown _ ac (Xg ag);have lm := ad.stw 0 Z ae;have ln := ab.stn lj;have y8 := (((((((((((bg.st bc).st bd).st be).st ar).st au).st av).st lk).st ll).st lm).st ln).st (St.drops _ O f0));have y9 := ((((((((bn.st ar).st au).st av).st lk).st ll).st lm).st ln).st (St.drops _ O f0));have za := (((((bo.st lk).st ll).st lm).st ln).st (St.drops _ O f0));have zb := (ns.odr ((ad.sw ((ct.sos am aq).so _ ac (Xg ag)) 9 0 Z Z Z ae).sn lj) f0 0 Z);exact ⟨true, H, (Xm Z), y7, y8, y9, za, zb⟩
    have H := Xj H cd;refine Xp cd Z (Xu (vb r22) Z (Xp cd Z (Xu (vb r24) Z (Xp cd Z (Xh (Y2 u4_ r22 r24 (r22 == r24) Z Z Z) (Xp cd Z (Xu (vb (r22 == r24)) Z ?_)))))));rcases X8 (r22 == r24) with dl | dl
    ·have H := Xi H dl;refine Xp dl Z ?_;have zc := (ad.bm ((er.k0 am).k0 ac) 3 0 Z Z Z ae);refine Xh (Xt ag28 sz28 cQ (Ad ao 0) [vs r21.Id, vi r21.Shape.Kind, G ai a3 a4, G aj a5 a6] Z Z (zc.cells (off := 00) Z)) (Xp dl Z (Xh (Xt ag28 sz28 cQ (Ad an 0) [vs r23.Id, vi r23.Shape.Kind, G ah aw ax, G af ay az] Z Z (cy.cells (off := 00) Z)) (Xp dl Z ?_)));have zd := (ad.sw (((a1.sw (du.so _ a0 (Xg a9)) 1 0 Z Z Z a2).sos am aq).so _ ac (Xg ag)) 4 0 Z Z Z ae);have ze := ab.gv zd 4 Z;have f1 := ab.drop 4 Z;have zf := (ab.sd (ad.sw (((a1.sw (dv.so _ a0 (Xg a9)) 2 0 Z Z Z a2).sos am aq).so _ ac (Xg ag)) 5 0 Z Z Z ae) 5 4 Z Z Z);have zg := f1.gv zf 4 Z;have gu := f1.drop 4 Z;have zh := (f1.sd (ab.sd (ad.sw (cw.so _ ac (Xg ag)) 1 0 Z Z Z ae) 1 4 Z Z Z) 1 4 Z Z Z);have zi := gu.gv zh 1 Z;have lo : Ct [] w0 cp [some an, bk af, some ao, some ap, bk al, bk ak, bk aa] O := gu.drop 1 Z;have zj := (gu.sd (f1.sd (ab.sd (ad.sw (cx.so _ ac (Xg ag)) 2 0 Z Z Z ae) 2 4 Z Z Z) 2 4 Z Z Z) 2 1 Z Z Z);have zk := lo.gv zj 1 Z;have zl := lo.drop 1 Z;have zm := f1.std 4 Z;have nt := gu.std 1 Z;have lp := lo.std 1 Z;have zn := (((ze.st zm).st nt).st lp);have zo := ((zg.st nt).st lp);obtain ⟨gw, zp, H⟩ := H;refine Y3 go17 [.agg #[vs r21.Id, vi r21.Shape.Kind, G ai a3 a4, G aj a5 a6], .agg #[vs r23.Id, vi r23.Shape.Kind, G ah aw ax, G af ay az]] Z (vb gw) (fun w g => (F55.calls zp (zl.k0 g).ok dt (zn.st (.new _ g)) (zo.st (.new _ g)) cv ((zi.st lp).st (.new _ g)) (zk.st (.new _ g))).mono ?_) ?_
     ·rintro _ w ⟨r, rfl, rfl, g2⟩;exact ⟨Z, Gr.t0 g g2⟩
     refine Xp cd Z (Xh (Xn true (vb gw) dl Z) (Xh (Xn false (vb gw) cd Z) (Yf fun acq lq => ?_)));have nu := ab.k0 lq;have f2 : ([some an, bk ah, bk af, some ao, bk ai, bk aj, some ap, bk al, bk ak, bk aa] : Ob).Perm ((some an :: bk ah :: bk af :: some ao :: bk ai :: bk aj :: some ap :: bk al :: bk ak :: []) ++ [bk aa]) := RP;have zq := nu.drops f2;have lr := bf.stos am aq;have ls := bp.stown _ ac (Xg ag);have lt := ad.stw 0 Z ae;have lu := ab.stn lq;have zr := (((((((((((bg.st bc).st bd).st be).st ar).st au).st av).st lr).st ls).st lt).st lu).st (St.drops _ O f2));have zs := ((((((((bn.st ar).st au).st av).st lr).st ls).st lt).st lu).st (St.drops _ O f2));have zt := (((((bo.st lr).st ls).st lt).st lu).st (St.drops _ O f2));have zu := (nu.odr ((ad.sw ((ct.sos am aq).so _ ac (Xg ag)) 9 0 Z Z Z ae).sn lq) f2 0 Z);exact ⟨gw, H, (Xm Z), zq, zr, zs, zt, zu⟩
    have H := Xj H dl;refine Xq dl Z (Xq dl Z (Xq dl Z (Xp cd Z (Xh (Xn false (vb false) dl Z) (Xh (Xn false (vb false) cd Z) (Yf fun acr lv => ?_))))));have nv := ab.k0 lv;have f3 : ([some an, bk ah, bk af, some ao, bk ai, bk aj, some ap, bk al, bk ak, bk aa] : Ob).Perm ((some an :: bk ah :: bk af :: some ao :: bk ai :: bk aj :: some ap :: bk al :: bk ak :: []) ++ [bk aa]) := RP;have zv := nv.drops f3;have lw := bf.stos am aq;have lx := bp.stown _ ac (Xg ag);have ly := ad.stw 0 Z ae;have lz := ab.stn lv;have zw := (((((((((((bg.st bc).st bd).st be).st ar).st au).st av).st lw).st lx).st ly).st lz).st (St.drops _ O f3));have zx := ((((((((bn.st ar).st au).st av).st lw).st lx).st ly).st lz).st (St.drops _ O f3));have zy := (((((bo.st lw).st lx).st ly).st lz).st (St.drops _ O f3));have zz := (nv.odr ((ad.sw ((ct.sos am aq).so _ ac (Xg ag)) 9 0 Z Z Z ae).sn lv) f3 0 Z);exact ⟨false, H, (Xm Z), zv, zw, zx, zy, zz⟩
   have H := Xj H dk;refine Xq dk Z (Xq dk Z (Xq dk Z (Yq (dj := 142) Z Z Z (Xh (Xn false (vb false) dk Z) (Xh (Xn false (vb false) Z Z) (Xu (vb false) Z (Yq (dj := 152) Z Z Z (Xu (vb r22) Z ?_))))))));refine Yq (dj := 152) Z Z Z (Xu (vb r24) Z (Yq (dj := 152) Z Z Z (Xh (Y2 u4_ r22 r24 (r22 == r24) Z Z Z) (Yq (dj := 152) Z Z Z (Xu (vb (r22 == r24)) Z ?_)))));rcases X8 (r22 == r24) with dm | dm
   ·have H := Xi H dm;refine Xp dm Z ?_;have z0 := (ad.bm ((er.k0 am).k0 ac) 3 0 Z Z Z ae);refine Xh (Xt ag28 sz28 cQ (Ad ao 0) [vs r21.Id, vi r21.Shape.Kind, G ai a3 a4, G aj a5 a6] Z Z (z0.cells (off := 00) Z)) (Xp dm Z (Xh (Xt ag28 sz28 cQ (Ad an 0) [vs r23.Id, vi r23.Shape.Kind, G ah aw ax, G af ay az] Z Z (cy.cells (off := 00) Z)) (Xp dm Z ?_)));have z1 := (ad.sw (((a1.sw (du.so _ a0 (Xg a9)) 1 0 Z Z Z a2).sos am aq).so _ ac (Xg ag)) 4 0 Z Z Z ae);have z2 := ab.gv z1 4 Z;have f4 := ab.drop 4 Z;have z3 := (ab.sd (ad.sw (((a1.sw (dv.so _ a0 (Xg a9)) 2 0 Z Z Z a2).sos am aq).so _ ac (Xg ag)) 5 0 Z Z Z ae) 5 4 Z Z Z);have z4 := f4.gv z3 4 Z;have gx := f4.drop 4 Z;have z5 := (f4.sd (ab.sd (ad.sw (cw.so _ ac (Xg ag)) 1 0 Z Z Z ae) 1 4 Z Z Z) 1 4 Z Z Z);have z6 := gx.gv z5 1 Z;have l0 : Ct [] w0 cp [some an, bk af, some ao, some ap, bk al, bk ak, bk aa] O := gx.drop 1 Z;have z7 := (gx.sd (f4.sd (ab.sd (ad.sw (cx.so _ ac (Xg ag)) 2 0 Z Z Z ae) 2 4 Z Z Z) 2 4 Z Z Z) 2 1 Z Z Z);have z8 := l0.gv z7 1 Z;have z9 := l0.drop 1 Z;have aaa := f4.std 4 Z;have nw := gx.std 1 Z;have l1 := l0.std 1 Z;have aab := (((z2.st aaa).st nw).st l1);have aac := ((z4.st nw).st l1);obtain ⟨gy, aad, H⟩ := H;refine Y3 go17 [.agg #[vs r21.Id, vi r21.Shape.Kind, G ai a3 a4, G aj a5 a6], .agg #[vs r23.Id, vi r23.Shape.Kind, G ah aw ax, G af ay az]] Z (vb gy) (fun w g => (F55.calls aad (z9.k0 g).ok dt (aab.st (.new _ g)) (aac.st (.new _ g)) cv ((z6.st l1).st (.new _ g)) (z8.st (.new _ g))).mono ?_) ?_
    ·rintro _ w ⟨r, rfl, rfl, g2⟩;exact ⟨Z, Gr.t0 g g2⟩
    refine Yq (dj := 152) Z Z Z (Xh (Xn true (vb gy) dm Z) (Xh (Xn false (vb gy) Z Z) (Yf fun acs l2 => ?_)));have nx := ab.k0 l2;have f5 : ([some an, bk ah, bk af, some ao, bk ai, bk aj, some ap, bk al, bk ak, bk aa] : Ob).Perm ((some an :: bk ah :: bk af :: some ao :: bk ai :: bk aj :: some ap :: bk al :: bk ak :: []) ++ [bk aa]) := RP;have aae := nx.drops f5;have l3 := bf.stos am aq;have l4 := bp.stown _ ac (Xg ag);have l5 := ad.stw 0 Z ae;have l6 := ab.stn l2;have aaf := (((((((((((bg.st bc).st bd).st be).st ar).st au).st av).st l3).st l4).st l5).st l6).st (St.drops _ O f5));have aag := ((((((((bn.st ar).st au).st av).st l3).st l4).st l5).st l6).st (St.drops _ O f5));have aah := (((((bo.st l3).st l4).st l5).st l6).st (St.drops _ O f5));have aai := (nx.odr ((ad.sw ((ct.sos am aq).so _ ac (Xg ag)) 9 0 Z Z Z ae).sn l2) f5 0 Z);exact ⟨gy, H, (Xm Z), aae, aaf, aag, aah, aai⟩
   have H := Xj H dm;refine Xq dm Z (Xq dm Z (Xq dm Z (Yq (dj := 152) Z Z Z (Xh (Xn false (vb false) dm Z) (Xh (Xn false (vb false) Z Z) (Yf fun act l7 => ?_))))));have ny := ab.k0 l7;have f6 : ([some an, bk ah, bk af, some ao, bk ai, bk aj, some ap, bk al, bk ak, bk aa] : Ob).Perm ((some an :: bk ah :: bk af :: some ao :: bk ai :: bk aj :: some ap :: bk al :: bk ak :: []) ++ [bk aa]) := RP;have aaj := ny.drops f6;have l8 := bf.stos am aq;have l9 := bp.stown _ ac (Xg ag);have ma := ad.stw 0 Z ae;have mb := ab.stn l7;have aak := (((((((((((bg.st bc).st bd).st be).st ar).st au).st av).st l8).st l9).st ma).st mb).st (St.drops _ O f6));have aal := ((((((((bn.st ar).st au).st av).st l8).st l9).st ma).st mb).st (St.drops _ O f6));have aam := (((((bo.st l8).st l9).st ma).st mb).st (St.drops _ O f6));have aan := (ny.odr ((ad.sw ((ct.sos am aq).so _ ac (Xg ag)) 9 0 Z Z Z ae).sn l7) f6 0 Z);exact ⟨false, H, (Xm Z), aaj, aak, aal, aam, aan⟩
  rintro acu es ⟨v2, aao, aap, dw, d2, d3, d4, cq⟩;obtain ⟨acv, rfl⟩ := Has.ins aap;have H := rb v2 aao;refine Xv v2 Z (fun mc => ?_) (fun mc => ?_)
  ·have H := Xi H mc;refine Xc (Xe (Xf (vb false) Z (Xb (Xl ?_))));have aaq := dw.drop 0 Z;exact ⟨[vb false], ⟨_, Z, Z⟩, false, Z, H, aaq.gr.g0⟩
  have H := Xj H mc;refine Xy (Xc ?_);obtain ⟨aar, H, aas⟩ := H;refine Y4 (J := (fun t et => ∃ (v3 : Bool), aar v3 ∧ Has t [(3, G bq br bs), (4, G bt bu bv), (5, G bw bx bz), (7, G aa a7 a8), (15, vi i2), (191, vb v3)] ∧ Cw [] w0 et [bk aa] O fun M => Sl kFeat et (Fr M) (G bq br bs) r ∧ Sl kFeat et (Fr M) (G bt bu bv) r2 ∧ Sl kFeat et (Fr M) (G bw bx bz) r3 ∧ Ow kClash 59 et M (G aa a7 a8) r5)) ?_ ?_
  ·refine Xe (Xd (G aa a7 a8) Z (Xd (vi i2) Z ?_));obtain ⟨nz, H⟩ := H;obtain ⟨gz, acw, aat, aau, aav⟩ := cq.get default RD i2 nz;obtain ⟨rfl, acx, acy⟩ := kClash.op aau;refine Xa (X3 u44_ Zf aa gz a7 a8 cq.len i2 Z aat Z nz) (Xa (Xs fa59_1 (gz.add (i2.toNat * 2)) ((gz.add (i2.toNat * 2)).add 1) Z Z) (Xa (Xw ag9 cL ((gz.add (i2.toNat * 2)).add 1) (vs ((nth r5 i2).What)) Z (aav 1 _ Z)) (Xa (Yx ((nth r5 i2).What) ([103, 111, 110, 101] : Str) (((nth r5 i2).What) == ([103, 111, 110, 101] : Str)) Z Z Z) (Xd (vb (((nth r5 i2).What) == ([103, 111, 110, 101] : Str))) Z ?_))));rcases X8 (((nth r5 i2).What) == ([103, 111, 110, 101] : Str)) with dn | dn
   ·have H := Xi H dn;refine Xk dn Z (Xd (vb r22) Z (Xk dn Z (Xd (vb r24) Z (Xk dn Z (Xa (Y2 u4_ r22 r24 (r22 == r24) Z Z Z) (Xa (Xn true (vb (r22 == r24)) dn Z) (Xd (vb (r22 == r24)) Z ?_)))))));rcases X8 (r22 == r24) with bb | bb
    ·have H := Xi H bb;refine Xo bb Z (Xo bb Z (Xo bb Z (Xo bb Z (Xo bb Z (Xo bb Z (Xo bb Z (Y6 Z (Y6 Z ?_))))))));refine Y6 Z (Y6 Z (Y6 Z (Y6 Z (Y6 Z (Y6 Z (Y6 Z (Xo bb Z (Xa (Xn true (vb true) bb Z) ?_))))))));exact Xb ⟨true, H, (Xm Z), dw, d2, d3, d4, cq⟩
    have H := Xj H bb;refine Xk bb Z (Xd (G aa a7 a8) Z (Xk bb Z (Xd (vi i2) Z (Xk bb Z ?_))));obtain ⟨n0, H⟩ := H;obtain ⟨g1, acz, aaw, aax, aay⟩ := cq.get default RD i2 n0;obtain ⟨rfl, ac0, ac1⟩ := kClash.op aax;refine Xa (X3 u44_ Zf aa g1 a7 a8 cq.len i2 Z aaw Z n0) (Xk bb Z (Xa (Xs fa59_1 (g1.add (i2.toNat * 2)) ((g1.add (i2.toNat * 2)).add 1) Z Z) (Xk bb Z (Xa (Xw ag9 cL ((g1.add (i2.toNat * 2)).add 1) (vs ((nth r5 i2).What)) Z (aay 1 _ Z)) (Xk bb Z (Xa (Yx ((nth r5 i2).What) ([98, 111, 116, 104] : Str) (((nth r5 i2).What) == ([98, 111, 116, 104] : Str)) Z Z Z) (Xk bb Z (Xd (vb (((nth r5 i2).What) == ([98, 111, 116, 104] : Str))) Z ?_))))))));rcases X8 (((nth r5 i2).What) == ([98, 111, 116, 104] : Str)) with b0 | b0
    ·have H := Xi H b0;refine Xk b0 Z (Xd (vb r20) Z (Xk b0 Z (Xd (vb r20) Z ?_)));rcases X8 r20 with d5 | d5
     ·have H := Xi H d5;refine Xo d5 Z (Xo d5 Z (Xk b0 Z (Xa (Xn true (vb true) d5 Z) (Xk b0 Z (Xd (vb true) Z (Ya (dj := 186) Z Z (.inl Z) (Ya (dj := 186) Z Z (.inl Z) (Xk b0 Z ?_))))))));exact Xa (Xn true (vb true) Z Z) (Xk bb Z (Xa (Xn true (vb true) b0 Z) (Xa (Xn false (vb true) bb Z) (Xb ⟨true, H, (Xm Z), dw, d2, d3, d4, cq⟩))))
     have H := Xj H d5;refine Xk d5 Z (Xd (vb r22) Z (Xk d5 Z (Xa (Yk r22 Z) (Xk b0 Z (Xa (Xn false (vb (!r22)) d5 Z) (Xk b0 Z (Xd (vb (!r22)) Z ?_)))))));rcases X8 (!r22) with d6 | d6
     ·have H := Xi H d6;exact Xo d6 Z (Xo d6 Z (Xk b0 Z (Xa (Xn true (vb true) d6 Z) (Xk bb Z (Xa (Xn true (vb true) b0 Z) (Xa (Xn false (vb true) bb Z) (Xb ⟨true, H, (Xm Z), dw, d2, d3, d4, cq⟩)))))))
     have H := Xj H d6;refine Xk d6 Z (Xd (vb r24) Z (Xk d6 Z (Xa (Yk r24 Z) (Xk b0 Z (Xa (Xn false (vb (!r24)) d6 Z) (Xk bb Z (Xa (Xn true (vb (!r24)) b0 Z) (Xa (Xn false (vb (!r24)) bb Z) ?_))))))));exact Xb ⟨!r24, H, (Xm Z), dw, d2, d3, d4, cq⟩
    have H := Xj H b0;refine Xo b0 Z (Xo b0 Z (Y6 Z (Y6 Z (Xo b0 Z (Xo b0 Z (Y6 Z (Y6 Z (Xo b0 Z ?_))))))));exact Xk bb Z (Xa (Xn false (vb false) b0 Z) (Xa (Xn false (vb false) bb Z) (Xb ⟨false, H, (Xm Z), dw, d2, d3, d4, cq⟩)))
   have H := Xj H dn;refine Xo dn Z (Xo dn Z (Xo dn Z (Xa (Xn false (vb false) dn Z) (Xd (vb false) Z (Y1 (dj := 173) Z Z Z (Xd (G aa a7 a8) Z (Y1 (dj := 173) Z Z Z (Xd (vi i2) Z ?_))))))));refine Y1 (dj := 173) Z Z Z ?_;obtain ⟨n1, H⟩ := H;obtain ⟨g3, ac2, aaz, aa0, aa1⟩ := cq.get default RD i2 n1;obtain ⟨rfl, ac3, ac4⟩ := kClash.op aa0;refine Xa (X3 u44_ Zf aa g3 a7 a8 cq.len i2 Z aaz Z n1) (Y1 (dj := 173) Z Z Z (Xa (Xs fa59_1 (g3.add (i2.toNat * 2)) ((g3.add (i2.toNat * 2)).add 1) Z Z) (Y1 (dj := 173) Z Z Z (Xa (Xw ag9 cL ((g3.add (i2.toNat * 2)).add 1) (vs ((nth r5 i2).What)) Z (aa1 1 _ Z)) (Y1 (dj := 173) Z Z Z (Xa (Yx ((nth r5 i2).What) ([98, 111, 116, 104] : Str) (((nth r5 i2).What) == ([98, 111, 116, 104] : Str)) Z Z Z) (Y1 (dj := 173) Z Z Z (Xd (vb (((nth r5 i2).What) == ([98, 111, 116, 104] : Str))) Z ?_))))))));rcases X8 (((nth r5 i2).What) == ([98, 111, 116, 104] : Str)) with b1 | b1
   ·have H := Xi H b1;refine Xk b1 Z (Xd (vb r20) Z (Xk b1 Z (Xd (vb r20) Z ?_)));rcases X8 r20 with d7 | d7
    ·have H := Xi H d7;refine Xo d7 Z (Xo d7 Z (Xk b1 Z (Xa (Xn true (vb true) d7 Z) (Xk b1 Z (Xd (vb true) Z (Ya (dj := 186) Z Z (.inl Z) (Ya (dj := 186) Z Z (.inl Z) (Xk b1 Z ?_))))))));exact Xa (Xn true (vb true) Z Z) (Y1 (dj := 173) Z Z Z (Xa (Xn true (vb true) b1 Z) (Xa (Xn false (vb true) Z Z) (Xb ⟨true, H, (Xm Z), dw, d2, d3, d4, cq⟩))))
    have H := Xj H d7;refine Xk d7 Z (Xd (vb r22) Z (Xk d7 Z (Xa (Yk r22 Z) (Xk b1 Z (Xa (Xn false (vb (!r22)) d7 Z) (Xk b1 Z (Xd (vb (!r22)) Z ?_)))))));rcases X8 (!r22) with d8 | d8
    ·have H := Xi H d8;exact Xo d8 Z (Xo d8 Z (Xk b1 Z (Xa (Xn true (vb true) d8 Z) (Y1 (dj := 173) Z Z Z (Xa (Xn true (vb true) b1 Z) (Xa (Xn false (vb true) Z Z) (Xb ⟨true, H, (Xm Z), dw, d2, d3, d4, cq⟩)))))))
    have H := Xj H d8;refine Xk d8 Z (Xd (vb r24) Z (Xk d8 Z (Xa (Yk r24 Z) (Xk b1 Z (Xa (Xn false (vb (!r24)) d8 Z) (Y1 (dj := 173) Z Z Z (Xa (Xn true (vb (!r24)) b1 Z) (Xa (Xn false (vb (!r24)) Z Z) ?_))))))));exact Xb ⟨!r24, H, (Xm Z), dw, d2, d3, d4, cq⟩
   have H := Xj H b1;refine Xo b1 Z (Xo b1 Z (Y6 Z (Y6 Z (Xo b1 Z (Xo b1 Z (Y6 Z (Y6 Z (Xo b1 Z ?_))))))));exact Y1 (dj := 173) Z Z Z (Xa (Xn false (vb false) b1 Z) (Xa (Xn false (vb false) Z Z) (Xb ⟨false, H, (Xm Z), dw, d2, d3, d4, cq⟩)))
  rintro ac5 et ⟨v3, aa2, aa3, n3, aa4, aa5, aa6, aa7⟩;obtain ⟨ac6, rfl⟩ := Has.ins aa3;have H := aas v3 aa2;refine Xv v3 Z (fun md => ?_) (fun md => ?_)
  ·have H := Xi H md;refine Xc (Xe (Xf (vb false) Z (Xb (Xl ?_))));have aa8 := n3.drop 0 Z;exact ⟨[vb false], ⟨_, Z, Z⟩, false, Z, H, aa8.gr.g0⟩
  have H := Xj H md;refine Xy (Xe (Xd (vi i2) Z ?_));obtain ⟨aa9, H⟩ := H;refine Xa (X6 i2 1 Z Z aa9) (Xf (vi (i2 + 1)) Z (Xb ?_));obtain ⟨aba, abb⟩ := H;exact ⟨i2 + 1, abb, aba, (Xm Z), n3, aa4, aa5, aa6, aa7⟩
 have H := Xj H hz;refine Yg (xin_hit ?_);refine Xc (Xe (Xf (vb true) Z (Xb (Xl ?_))));have abc := f7.drop 0 Z;exact ⟨[vb true], ⟨_, Z, Z⟩, true, Z, H, abc.gr.g0⟩
section
section
variable {α : Type} [DecidableEq α]
def lcsR (x : α) (p : List α → Nat) : List α → Nat
 | [] => 0
 | y :: b => if x = y then p b + 1 else max (p (y :: b)) (lcsR x p b)
def lcs : List α → List α → Nat
 | [] => fun _ => 0
 | x :: a => lcsR x (lcs a)
@[simp] theorem lcs_nil (b : List α) : lcs [] b = 0 := rfl
@[simp] theorem lcs_nil2 (a : List α) : lcs a [] = 0 := by cases a <;> rfl
theorem lcs_cons (x y : α) (a b : List α) : lcs (x :: a) (y :: b) = if x = y then lcs a b + 1 else max (lcs a (y :: b)) (lcs (x :: a) b) := rfl
theorem lcs_sub (a b : List α) : ∃ s : List α, s.Sublist a ∧ s.Sublist b ∧ s.length = lcs a b := by
 induction a generalizing b with
 | nil => exact ⟨[], List.nil_sublist _, List.nil_sublist _, rfl⟩
 | cons x a ih =>
  induction b with
  | nil => exact ⟨[], List.nil_sublist _, List.nil_sublist _, rfl⟩
  | cons y b ihb =>
   rw [lcs_cons]
   by_cases h : x = y
   ·subst h
    obtain ⟨s, h1, h2, h3⟩ := ih b
    exact ⟨x :: s, h1.cons_cons x, h2.cons_cons x, by rw [if_pos rfl, ← h3]; rfl⟩
   ·rw [if_neg h]
    by_cases hm : lcs (x :: a) b ≤ lcs a (y :: b)
    ·obtain ⟨s, h1, h2, h3⟩ := ih (y :: b)
     exact ⟨s, h1.cons x, h2, OM⟩
    ·obtain ⟨s, h1, h2, h3⟩ := ihb
     exact ⟨s, h1, h2.cons y, OM⟩
theorem lcs_le1 (a b : List α) : lcs a b ≤ a.length := by
 obtain ⟨s, h1, h2, h3⟩ := lcs_sub a b; rw [← h3]; exact h1.length_le
theorem lcs_le2 (a b : List α) : lcs a b ≤ b.length := by
 obtain ⟨s, h1, h2, h3⟩ := lcs_sub a b; rw [← h3]; exact h2.length_le
theorem pp {a b c d : Nat} (h : a = c) (k : b = d) : (a, b) = (c, d) := by rw [h, k]
def pairs (i j : Nat) : List α → List α → List (Nat × Nat)
 | x :: a, y :: b => if x = y then (i, j) :: pairs (i + 1) (j + 1) a b else if lcs (x :: a) b ≤ lcs a (y :: b) then pairs (i + 1) j a (y :: b) else pairs i (j + 1) (x :: a) b
 | [], _ => []
 | _ :: _, [] => []
 termination_by a b => a.length + b.length
theorem pairs_nil (i j : Nat) (b : List α) : pairs i j [] b = [] := by rw [pairs]
theorem pairs_nil2 (i j : Nat) (a : List α) : pairs i j a [] = [] := by cases a <;> rw [pairs]
theorem pairs_cons (i j : Nat) (x y : α) (a b : List α) : pairs i j (x :: a) (y :: b) = if x = y then (i, j) :: pairs (i + 1) (j + 1) a b else if lcs (x :: a) b ≤ lcs a (y :: b) then pairs (i + 1) j a (y :: b) else pairs i (j + 1) (x :: a) b := by rw [pairs]
theorem pairs_ind {C : Nat → Nat → List α → List α → Prop} (h0 : ∀ i j b, C i j [] b) (h1 : ∀ i j a, C i j a [])
  (he : ∀ i j x a b, C (i + 1) (j + 1) a b → C i j (x :: a) (x :: b))
  (ha : ∀ i j x y a b, x ≠ y → lcs (x :: a) b ≤ lcs a (y :: b) → C (i + 1) j a (y :: b) → C i j (x :: a) (y :: b))
  (hb : ∀ i j x y a b, x ≠ y → ¬ lcs (x :: a) b ≤ lcs a (y :: b) → C i (j + 1) (x :: a) b → C i j (x :: a) (y :: b)) : ∀ i j (a b : List α), C i j a b := by
 have : ∀ n i j (a b : List α), a.length + b.length ≤ n → C i j a b := by
  intro n
  induction n with
  | zero => intro i j a b h; cases a with
   | nil => exact h0 _ _ _
   | cons _ _ => simp at h
  | succ n ih =>
   intro i j a b h
   cases a with
   | nil => exact h0 _ _ _
   | cons x a => cases b with
    | nil => exact h1 _ _ _
    | cons y b =>
     simp only [List.length_cons] at h
     by_cases e : x = y
     ·subst e; exact he _ _ _ _ _ (ih _ _ _ _ OM)
     ·by_cases l : lcs (x :: a) b ≤ lcs a (y :: b)
      ·exact ha _ _ _ _ _ _ e l (ih _ _ _ _ (by simp only [List.length_cons]; omega))
      ·exact hb _ _ _ _ _ _ e l (ih _ _ _ _ (by simp only [List.length_cons]; omega))
 exact fun i j a b => this _ i j a b (Nat.le_refl _)
theorem pairs_len (i j : Nat) (a b : List α) : (pairs i j a b).length = lcs a b := by
 refine pairs_ind (C := fun i j a b => (pairs i j a b).length = lcs a b) ?_ ?_ ?_ ?_ ?_ i j a b
 ·intros; rw [pairs_nil]; rfl
 ·intros; rw [pairs_nil2, lcs_nil2]; rfl
 ·intro i j x a b h; rw [pairs_cons, if_pos rfl, lcs_cons, if_pos rfl, List.length_cons, h]
 ·intro i j x y a b e l h; rw [pairs_cons, if_neg e, if_pos l, lcs_cons, if_neg e, h]; exact (Nat.max_eq_left l).symm
 ·intro i j x y a b e l h; rw [pairs_cons, if_neg e, if_neg l, lcs_cons, if_neg e, h]; exact (Nat.max_eq_right OM).symm
theorem pairs_mem (i j : Nat) (a b : List α) : ∀ p ∈ pairs i j a b, ∃ k l, p = (i + k, j + l) ∧ ∃ x, a[k]? = some x ∧ b[l]? = some x := by
 refine pairs_ind (C := fun i j a b => ∀ p ∈ pairs i j a b, ∃ k l, p = (i + k, j + l) ∧ ∃ x, a[k]? = some x ∧ b[l]? = some x) ?_ ?_ ?_ ?_ ?_ i j a b
 ·intro i j b p h; rw [pairs_nil] at h; cases h
 ·intro i j a p h; rw [pairs_nil2] at h; cases h
 ·intro i j x a b ih p h
  rw [pairs_cons, if_pos rfl] at h
  rcases List.mem_cons.1 h with rfl | h
  ·exact ⟨0, 0, rfl, x, rfl, rfl⟩
  ·obtain ⟨k, l, rfl, z, h1, h2⟩ := ih p h
   exact ⟨k + 1, l + 1, pp OM OM, z, h1, h2⟩
 ·intro i j x y a b e l ih p h
  rw [pairs_cons, if_neg e, if_pos l] at h
  obtain ⟨k, l, rfl, z, h1, h2⟩ := ih p h
  exact ⟨k + 1, l, pp OM OM, z, h1, h2⟩
 ·intro i j x y a b e l ih p h
  rw [pairs_cons, if_neg e, if_neg l] at h
  obtain ⟨k, l, rfl, z, h1, h2⟩ := ih p h
  exact ⟨k, l + 1, pp OM OM, z, h1, h2⟩
theorem pairs_ord (i j : Nat) (a b : List α) : (pairs i j a b).Pairwise (fun p q => p.1 < q.1 ∧ p.2 < q.2) := by
 refine pairs_ind (C := fun i j a b => (pairs i j a b).Pairwise (fun p q => p.1 < q.1 ∧ p.2 < q.2)) ?_ ?_ ?_ ?_ ?_ i j a b
 ·intros; rw [pairs_nil]; exact List.Pairwise.nil
 ·intros; rw [pairs_nil2]; exact List.Pairwise.nil
 ·intro i j x a b h; rw [pairs_cons, if_pos rfl]
  refine List.Pairwise.cons (fun p hp => ?_) h
  obtain ⟨k, l, rfl, _⟩ := pairs_mem _ _ _ _ p hp
  exact ⟨by dsimp only; omega, by dsimp only; omega⟩
 ·intro i j x y a b e l h; rw [pairs_cons, if_neg e, if_pos l]; exact h
 ·intro i j x y a b e l h; rw [pairs_cons, if_neg e, if_neg l]; exact h
end
section
variable {α : Type} [Inhabited α]
theorem nth_set (l : List α) {k : Nat} (h : k < l.length) (m : Nat) (v : α) : nth (l.set k v) (m : Int) = if m = k then v else nth l (m : Int) := by
 unfold nth
 rw [Int.toNat_natCast, List.getD_eq_getElem?_getD, List.getD_eq_getElem?_getD, List.getElem?_set]
 by_cases e : m = k
 ·subst e; rw [if_pos rfl, if_pos rfl, if_pos h]; rfl
 ·rw [if_neg (fun x => e x.symm), if_neg e]
theorem nth_rep (n m : Nat) (v : α) (h : m < n) : nth (List.replicate n v) (m : Int) = v := by
 rw [nth_nat _ (by simpa using h)]; simp
theorem drop_nth (l : List α) {k : Nat} (h : k < l.length) : l.drop k = nth l (k : Int) :: l.drop (k + 1) := by
 rw [nth_nat l h]; exact List.drop_eq_getElem_cons h
def seg (l : List α) (i j : Nat) : List α := (l.drop i).take (j - i)
theorem seg_len (l : List α) (i j : Nat) (h : j ≤ l.length) : (seg l i j).length = j - i := by
 unfold seg; rw [List.length_take, List.length_drop]; omega
theorem seg_end (l : List α) (i : Nat) : seg l i l.length = l.drop i := List.take_of_length_le (by simp)
theorem seg_app (l : List α) {i j : Nat} (h : i ≤ j) : seg l i j ++ l.drop j = l.drop i := by
 unfold seg
 have : l.drop j = (l.drop i).drop (j - i) := by rw [List.drop_drop]; congr 1; omega
 rw [this, List.take_append_drop]
variable [DecidableEq α]
theorem lcs_drop (a b : List α) {i j : Nat} (hi : i < a.length) (hj : j < b.length) : lcs (a.drop i) (b.drop j) = if nth a (i : Int) = nth b (j : Int) then lcs (a.drop (i + 1)) (b.drop (j + 1)) + 1 else max (lcs (a.drop (i + 1)) (b.drop j)) (lcs (a.drop i) (b.drop (j + 1))) := by
 rw [drop_nth a hi, drop_nth b hj, lcs_cons, ← drop_nth a hi, ← drop_nth b hj]
theorem pairs_drop (a b : List α) {i j : Nat} (hi : i < a.length) (hj : j < b.length) : pairs i j (a.drop i) (b.drop j) = if nth a (i : Int) = nth b (j : Int) then (i, j) :: pairs (i + 1) (j + 1) (a.drop (i + 1)) (b.drop (j + 1)) else if lcs (a.drop i) (b.drop (j + 1)) ≤ lcs (a.drop (i + 1)) (b.drop j) then pairs (i + 1) j (a.drop (i + 1)) (b.drop j) else pairs i (j + 1) (a.drop i) (b.drop (j + 1)) := by
 rw [drop_nth a hi, drop_nth b hj, pairs_cons, ← drop_nth a hi, ← drop_nth b hj]

def pickL (o a b : List α) : Option (List α) := if a = o then some b else if b = o then some a else if a = b then some a else none
theorem pickL_mem {o a b r : List α} (h : pickL o a b = some r) : (∀ z ∈ r, z ∈ a ∨ z ∈ b) ∧ (∀ z ∈ a, z ∈ o ∨ z ∈ r) ∧ (∀ z ∈ b, z ∈ o ∨ z ∈ r) ∧ r.length ≤ a.length + b.length := by
 unfold pickL at h
 by_cases h1 : a = o
 ·rw [if_pos h1] at h; cases h; subst h1
  exact ⟨fun z hz => .inr hz, fun z hz => .inl hz, fun z hz => .inr hz, OM⟩
 ·rw [if_neg h1] at h
  by_cases h2 : b = o
  ·rw [if_pos h2] at h; cases h; subst h2
   exact ⟨fun z hz => .inl hz, fun z hz => .inr hz, fun z hz => .inl hz, OM⟩
  ·rw [if_neg h2] at h
   by_cases h3 : a = b
   ·rw [if_pos h3] at h; cases h; subst h3
    exact ⟨fun z hz => .inl hz, fun z hz => .inr hz, fun z hz => .inr hz, OM⟩
   ·rw [if_neg h3] at h; cases h
def mloop (o a b : List α) (f g : Nat → Option Nat) : Nat → Nat → Nat → Nat → Nat → Option (List α)
 | 0, _, i, j, k => pickL (o.drop i) (a.drop j) (b.drop k)
 | n + 1, at_, i, j, k => match f at_, g at_ with
  | some x, some y => (pickL (seg o i at_) (seg a j x) (seg b k y)).bind fun p => (mloop o a b f g n (at_ + 1) (at_ + 1) (x + 1) (y + 1)).map fun r => p ++ nth o (at_ : Int) :: r
  | _, _ => mloop o a b f g n (at_ + 1) i j k
theorem mloop_zero (o a b : List α) (f g : Nat → Option Nat) (t i j k : Nat) : mloop o a b f g 0 t i j k = pickL (o.drop i) (a.drop j) (b.drop k) := rfl
theorem mloop_some {o a b : List α} {f g : Nat → Option Nat} {n t i j k x y : Nat} (hf : f t = some x) (hg : g t = some y) : mloop o a b f g (n + 1) t i j k = (pickL (seg o i t) (seg a j x) (seg b k y)).bind fun p => (mloop o a b f g n (t + 1) (t + 1) (x + 1) (y + 1)).map fun r => p ++ nth o (t : Int) :: r := by
 rw [mloop, hf, hg]
theorem mloop_none {o a b : List α} {f g : Nat → Option Nat} {n t i j k : Nat} (h : f t = none ∨ g t = none) : mloop o a b f g (n + 1) t i j k = mloop o a b f g n (t + 1) i j k := by
 rw [mloop]
 rcases h with h | h
 ·rw [h]
 ·rw [h]; cases f t <;> rfl
structure Mates (o a : List α) (f : Nat → Option Nat) : Prop where
 lt : ∀ {t x}, f t = some x → t < o.length ∧ x < a.length
 eq : ∀ {t x}, f t = some x → nth o (t : Int) = nth a (x : Int)
 mono : ∀ {t x u y}, f t = some x → f u = some y → t < u → x < y
def From (f : Nat → Option Nat) (t j : Nat) : Prop := ∀ u x, t ≤ u → f u = some x → j ≤ x
theorem From.zero (f : Nat → Option Nat) (t : Nat) : From f t 0 := fun _ _ _ _ => Nat.zero_le _
theorem From.skip {f : Nat → Option Nat} {t j : Nat} (h : From f t j) : From f (t + 1) j := fun u x hu hx => h u x OM hx
theorem From.step {o a : List α} {f : Nat → Option Nat} (m : Mates o a f) {t x : Nat} (h : f t = some x) : From f (t + 1) (x + 1) := fun u y hu hy => m.mono h hy OM
theorem mem_seg {l : List α} {i j : Nat} {z : α} (h : z ∈ seg l i j) : z ∈ l := List.mem_of_mem_drop (List.mem_of_mem_take h)
theorem mem_split {l : List α} {i j : Nat} (hij : i ≤ j) (hj : j < l.length) {z : α} (h : z ∈ l.drop i) : z ∈ seg l i j ∨ z = nth l (j : Int) ∨ z ∈ l.drop (j + 1) := by
 rw [← seg_app l hij, drop_nth l hj] at h
 rcases List.mem_append.1 h with h | h
 ·exact .inl h
 ·rcases List.mem_cons.1 h with h | h
  ·exact .inr (.inl h)
  ·exact .inr (.inr h)
theorem mloop_keep {o a b : List α} {f g : Nat → Option Nat} (mf : Mates o a f) (mg : Mates o b g) (n t i j k : Nat) (hn : t + n = o.length) (hj : From f t j) (hk : From g t k) (r : List α) (h : mloop o a b f g n t i j k = some r) :
  (∀ z ∈ r, z ∈ a ∨ z ∈ b) ∧ (∀ z ∈ a.drop j, z ∈ o ∨ z ∈ r) ∧ (∀ z ∈ b.drop k, z ∈ o ∨ z ∈ r) ∧ r.length ≤ (a.drop j).length + (b.drop k).length := by
 induction n generalizing t i j k r with
 | zero =>
  rw [mloop_zero] at h
  obtain ⟨h1, h2, h3, h4⟩ := pickL_mem h
  exact ⟨fun z hz => (h1 z hz).imp List.mem_of_mem_drop List.mem_of_mem_drop, fun z hz => (h2 z hz).imp List.mem_of_mem_drop id, fun z hz => (h3 z hz).imp List.mem_of_mem_drop id, h4⟩
 | succ n ih =>
  cases hf : f t with
  | none => rw [mloop_none (.inl hf)] at h; exact ih _ _ _ _ OM hj.skip hk.skip _ h
  | some x => cases hg : g t with
   | none => rw [mloop_none (.inr hg)] at h; exact ih _ _ _ _ OM hj.skip hk.skip _ h
   | some y =>
    rw [mloop_some hf hg] at h
    cases hp : pickL (seg o i t) (seg a j x) (seg b k y) with
    | none => rw [hp] at h; cases h
    | some p =>
     rw [hp, Option.bind_some] at h
     cases hr : mloop o a b f g n (t + 1) (t + 1) (x + 1) (y + 1) with
     | none => rw [hr] at h; cases h
     | some q =>
      rw [hr, Option.map_some] at h; cases h
      obtain ⟨h1, h2, h3, h4⟩ := pickL_mem hp
      obtain ⟨g1, g2, g3, g4⟩ := ih _ _ _ _ OM (.step mf hf) (.step mg hg) _ hr
      have hjx := hj t x (Nat.le_refl _) hf
      have hky := hk t y (Nat.le_refl _) hg
      have hx := (mf.lt hf).2
      have hy := (mg.lt hg).2
      have ex := mf.eq hf
      have ey := mg.eq hg
      refine ⟨fun z hz => ?_, fun z hz => ?_, fun z hz => ?_, ?_⟩
      ·rcases List.mem_append.1 hz with hz | hz
       ·exact (h1 z hz).imp mem_seg mem_seg
       ·rcases List.mem_cons.1 hz with rfl | hz
        ·rw [ex]; exact .inl (nth_mem a hx)
        ·exact g1 z hz
      ·rcases mem_split hjx hx hz with hz | rfl | hz
       ·exact (h2 z hz).imp mem_seg (fun h => List.mem_append_left _ h)
       ·exact .inr (List.mem_append_right _ (by rw [ex]; exact List.mem_cons_self))
       ·exact (g2 z hz).imp id (fun h => List.mem_append_right _ (List.mem_cons_of_mem _ h))
      ·rcases mem_split hky hy hz with hz | rfl | hz
       ·exact (h3 z hz).imp mem_seg (fun h => List.mem_append_left _ h)
       ·exact .inr (List.mem_append_right _ (by rw [ey]; exact List.mem_cons_self))
       ·exact (g3 z hz).imp id (fun h => List.mem_append_right _ (List.mem_cons_of_mem _ h))
      ·rw [seg_len a _ _ OM, seg_len b _ _ OM] at h4
       simp only [List.length_append, List.length_cons, List.length_drop] at g4 ⊢
       omega
end
end
def few (a b : List Pt) : Bool := decide (a.length ≤ 12) && decide (b.length ≤ 12)
theorem few_iff {a b : List Pt} : few a b = true ↔ a.length ≤ 12 ∧ b.length ≤ 12 := by simp [few]
theorem few_not {a b : List Pt} : few a b = false ↔ ¬ (a.length ≤ 12 ∧ b.length ≤ 12) := by rw [← few_iff]; simp
def slen (a b : List Pt) : Int := if few a b then (lcs a b : Nat) else 0
def mkP (p : Nat × Nat) : Pair := ⟨p.1, p.2⟩
def spairs (a b : List Pt) : List Pair := if few a b then (pairs 0 0 a b).map mkP else []
theorem spairs_few {a b : List Pt} (h : few a b = true) : spairs a b = (pairs 0 0 a b).map mkP := by unfold spairs; rw [if_pos h]
theorem spairs_len (a b : List Pt) : ((spairs a b).length : Int) = slen a b := by
 unfold spairs slen
 by_cases h : few a b = true
 ·rw [if_pos h, if_pos h, List.length_map, pairs_len]
 ·rw [if_neg h, if_neg h]; rfl
theorem slen_le (a b : List Pt) : 0 ≤ slen a b ∧ slen a b ≤ a.length ∧ slen a b ≤ b.length ∧ slen a b ≤ 12 := by
 unfold slen
 by_cases h : few a b = true
 ·have := few_iff.1 h
  have h1 := lcs_le1 a b; have h2 := lcs_le2 a b
  rw [if_pos h]; omega
 ·rw [if_neg h]; omega
def RowOk (a b : List Pt) (i : Nat) (j : Nat) (xs : List Int) : Prop := xs.length = b.length + 1 ∧ ∀ m : Nat, j ≤ m → m ≤ b.length → nth xs (m : Int) = (lcs (a.drop i) (b.drop m) : Nat)
def Tab (a b : List Pt) (D : Nat → Nat → Prop) (t : List (List Int)) : Prop := t.length = a.length + 1 ∧ ∀ r : Nat, r ≤ a.length → (nth t (r : Int)).length = b.length + 1 ∧ ∀ m : Nat, m ≤ b.length → D r m → nth (nth t (r : Int)) (m : Int) = (lcs (a.drop r) (b.drop m) : Nat)
theorem Tab.set {a b : List Pt} {D : Nat → Nat → Prop} {t : List (List Int)} (h : Tab a b D t) {i j : Nat} (hi : i ≤ a.length) (hj : j ≤ b.length) {v : Int} (hv : v = (lcs (a.drop i) (b.drop j) : Nat)) {D' : Nat → Nat → Prop} (hD : ∀ r m, D' r m → D r m ∨ (r = i ∧ m = j)) :
  Tab a b D' (t.set i ((nth t (i : Int)).set j v)) := by
 obtain ⟨h1, h2⟩ := h
 refine ⟨by rw [List.length_set]; exact h1, fun r hr => ?_⟩
 rw [nth_set _ OM]
 by_cases e : r = i
 ·subst e
  rw [if_pos rfl]
  refine ⟨by rw [List.length_set]; exact (h2 r hr).1, fun m hm hd => ?_⟩
  rw [nth_set _ (by rw [(h2 r hr).1]; omega)]
  by_cases f : m = j
  ·subst f; rw [if_pos rfl, hv]
  ·rw [if_neg f]
   exact (h2 r hr).2 m hm ((hD r m hd).resolve_right fun x => f x.2)
 ·rw [if_neg e]
  exact ⟨(h2 r hr).1, fun m hm hd => (h2 r hr).2 m hm ((hD r m hd).resolve_right fun x => e x.1)⟩
def mateI (l : List Pair) (k : Int) : Int := match l with
 | [] => -1
 | p :: l => if p.A == k then p.B else mateI l k
theorem mateI_nil (k : Int) : mateI [] k = -1 := rfl
theorem mateI_cons (p : Pair) (l : List Pair) (k : Int) : mateI (p :: l) k = if p.A == k then p.B else mateI l k := rfl
def mateN (l : List (Nat × Nat)) (k : Nat) : Option Nat := match l with
 | [] => none
 | p :: l => if p.1 = k then some p.2 else mateN l k
theorem mateI_mk (l : List (Nat × Nat)) (k : Nat) : mateI (l.map mkP) (k : Int) = match mateN l k with | some x => (x : Int) | none => -1 := by
 induction l with
 | nil => rfl
 | cons p l ih =>
  rw [List.map_cons, mateI_cons, mateN]
  by_cases h : p.1 = k
  ·rw [if_pos (by simp [mkP, h]), if_pos h]; rfl
  ·rw [if_neg (by simp [mkP]; omega), if_neg h, ih]
theorem mateN_mem {l : List (Nat × Nat)} {k x : Nat} (h : mateN l k = some x) : (k, x) ∈ l := by
 induction l with
 | nil => cases h
 | cons p l ih =>
  rw [mateN] at h
  by_cases e : p.1 = k
  ·rw [if_pos e] at h; cases h; subst e; exact List.mem_cons_self
  ·rw [if_neg e] at h; exact List.mem_cons_of_mem _ (ih h)
def part (o a : List Pt) : Nat → Option Nat := mateN (pairs 0 0 o a)
theorem part_mates (o a : List Pt) : Mates o a (part o a) := by
 have hm : ∀ {t x}, part o a t = some x → ∃ z, o[t]? = some z ∧ a[x]? = some z := fun {t x} h => by
  obtain ⟨k, l, e, z, h1, h2⟩ := pairs_mem 0 0 o a _ (mateN_mem h)
  rw [Nat.zero_add, Nat.zero_add] at e; cases e
  exact ⟨z, h1, h2⟩
 refine ⟨fun {t x} h => ?_, fun {t x} h => ?_, fun {t x u y} h1 h2 hu => ?_⟩
 ·obtain ⟨z, h1, h2⟩ := hm h
  exact ⟨(List.getElem?_eq_some_iff.1 h1).1, (List.getElem?_eq_some_iff.1 h2).1⟩
 ·obtain ⟨z, h1, h2⟩ := hm h
  obtain ⟨e1, e2⟩ := List.getElem?_eq_some_iff.1 h1
  obtain ⟨e3, e4⟩ := List.getElem?_eq_some_iff.1 h2
  rw [nth_nat _ e1, nth_nat _ e3, e2, e4]
 ·have ho := pairs_ord 0 0 o a
  have m1 := mateN_mem h1; have m2 := mateN_mem h2
  generalize pairs 0 0 o a = l at ho m1 m2
  induction l with
  | nil => cases m1
  | cons p l ih =>
   obtain ⟨q1, q2⟩ := List.pairwise_cons.1 ho
   rcases List.mem_cons.1 m1 with e1 | n1
   ·rcases List.mem_cons.1 m2 with e2 | n2
    ·subst e1; cases e2; omega
    ·subst e1; exact (q1 _ n2).2
   ·rcases List.mem_cons.1 m2 with e2 | n2
    ·subst e2; have := (q1 _ n1).1; dsimp only at this; omega
    ·exact ih q2 n1 n2
def smerge (o a b : List Pt) : Option (List Pt) := if few o a && few o b then mloop o a b (part o a) (part o b) o.length 0 0 0 0 else none
theorem smerge_few {o a b : List Pt} (h1 : few o a = true) (h2 : few o b = true) : smerge o a b = mloop o a b (part o a) (part o b) o.length 0 0 0 0 := by unfold smerge; rw [h1, h2]; rfl
theorem smerge_not {o a b : List Pt} (h : few o a = false ∨ few o b = false) : smerge o a b = none := by
 unfold smerge; rcases h with h | h <;> rw [h] <;> simp
theorem smerge_keep {o a b r : List Pt} (h : smerge o a b = some r) : (∀ z ∈ r, z ∈ a ∨ z ∈ b) ∧ (∀ z ∈ a, z ∈ o ∨ z ∈ r) ∧ (∀ z ∈ b, z ∈ o ∨ z ∈ r) ∧ r.length ≤ a.length + b.length := by
 unfold smerge at h
 by_cases hf : (few o a && few o b) = true
 ·rw [if_pos hf] at h
  exact mloop_keep (part_mates o a) (part_mates o b) _ _ _ _ _ OM (From.zero _ _) (From.zero _ _) _ h
 ·rw [if_neg hf] at h; cases h
theorem smerge_len {o a b r : List Pt} (h : smerge o a b = some r) : r.length ≤ 24 := by
 have h1 := (smerge_keep h).2.2.2
 unfold smerge at h
 by_cases hf : (few o a && few o b) = true
 ·rw [Bool.and_eq_true, few_iff, few_iff] at hf; omega
 ·rw [if_neg hf] at h; cases h
def allN (n : Nat) (c : Nat → Bool) : Bool := (List.range n).all c
theorem allN_true {n : Nat} {c : Nat → Bool} (h : ∀ j, j < n → c j = true) : allN n c = true := by
 unfold allN; rw [List.all_eq_true]; intro j hj; exact h j (List.mem_range.1 hj)
theorem allN_false {n k : Nat} {c : Nat → Bool} (hk : k < n) (h : c k = false) : allN n c = false := by
 unfold allN
 rw [Bool.eq_false_iff]; intro ha
 rw [List.all_eq_true] at ha
 rw [ha k (List.mem_range.2 hk)] at h; cases h
theorem allN_iff {n : Nat} {c : Nat → Bool} : allN n c = true ↔ ∀ j, j < n → c j = true := by
 unfold allN; rw [List.all_eq_true]; exact ⟨fun h j hj => h j (List.mem_range.2 hj), fun h j hj => h j (List.mem_range.1 hj)⟩
theorem loop_all (n : Nat) (c : Nat → Bool) {B : (Int → Prop) → (Int → Nat) → Int → Prop} {F : Prop}
  (hs : ∀ (I : Int → Prop) (mu : Int → Nat) (k : Nat), k < n → (∀ j, j < k → c j = true) → (c k = true → I ((k : Int) + 1) ∧ mu ((k : Int) + 1) < mu (k : Int)) → B I mu (k : Int))
  (hF : (∀ j, j < n → c j = true) → F) :
  ∃ (I : Int → Prop) (mu : Int → Nat), I 0 ∧ ∀ (i : Int), I i → (if decide (i < (n : Int)) then B I mu i else F) := by
 refine ⟨fun i => ∃ k : Nat, i = k ∧ k ≤ n ∧ ∀ j, j < k → c j = true, fun i => ((n : Int) - i).toNat, ⟨0, rfl, Nat.zero_le _, fun j hj => absurd hj (Nat.not_lt_zero _)⟩, ?_⟩
 rintro _ ⟨k, rfl, hk, ha⟩
 by_cases h : (k : Int) < (n : Int)
 ·rw [if_pos (by simpa using h)]
  refine hs _ _ k OM ha fun hc => ⟨⟨k + 1, OM, OM, fun j hj => ?_⟩, OM⟩
  by_cases e : j = k
  ·subst e; exact hc
  ·exact ha j OM
 ·rw [if_neg (by simpa using h)]
  exact hF fun j hj => ha j OM
theorem less_irr : ∀ a : Str, Op.bytesLess a a = false
 | [] => rfl
 | x :: a => by rw [Op.bytesLess]; simp [less_irr a]
theorem less_tri : ∀ a b : Str, (!(Op.bytesLess a b)) = (Op.bytesLess b a || b == a)
 | [], [] => rfl
 | [], y :: b => rfl
 | x :: a, [] => rfl
 | x :: a, y :: b => by
  rw [Op.bytesLess, Op.bytesLess]
  have h := less_tri a b
  by_cases h1 : x < y
  ·have h2 : ¬ y < x := fun h => absurd (UInt8.lt_trans h1 h) (UInt8.lt_irrefl _)
   have h3 : ¬ y = x := fun e => by subst e; exact UInt8.lt_irrefl _ h1
   simp [h1, h2, h3]
  ·by_cases h2 : y < x
   ·have h3 : ¬ x = y := fun e => by subst e; exact UInt8.lt_irrefl _ h2
    simp [h1, h2, h3]
   ·have h3 : x = y := UInt8.le_antisymm (UInt8.not_lt.1 h2) (UInt8.not_lt.1 h1)
    subst h3
    simp only [h1, decide_false, Bool.false_or, beq_self_eq_true, Bool.true_and]
    rw [h]
    congr 1
    rw [Bool.eq_iff_iff, beq_iff_eq, beq_iff_eq]
    simp
def byteOk (b : UInt8) : Bool := !(decide ((b.toNat : Int) < 97)) && !(decide ((b.toNat : Int) > 122))
def wordOk (s : Str) : Bool := allN s.length (fun k => byteOk (nth s (k : Int))) && (decide (1 ≤ s.length) && decide (s.length ≤ 6))
def inR (x : Int) : Bool := decide (-1000 ≤ x) && decide (x ≤ 1000)
def ptOk (p : Pt) : Bool := inR p.X && inR p.Y
def ptsOk (p : List Pt) : Bool := allN p.length fun k => ptOk (nth p (k : Int)) && (decide (k = 0) || !(decide (nth p ((k : Int) - 1) = nth p (k : Int))))
def kindOk (kind : Int) (p : List Pt) : Bool :=
 if kind = 1 then decide (p.length = 1) else if kind = 2 then decide (2 ≤ p.length) && decide (p.length ≤ 6)
 else if kind = 3 then decide (3 ≤ p.length) && decide (p.length ≤ 6) && !(decide (nth p 0 = nth p ((p.length : Int) - 1))) else false
def shapeOk (s : Shape) : Bool := ptsOk s.Pts && kindOk s.Kind s.Pts
def tagsOk (t : List Tag) : Bool := allN t.length fun k => wordOk (nth t (k : Int)).Key && wordOk (nth t (k : Int)).Val && (decide (k = 0) || Op.bytesLess (nth t ((k : Int) - 1)).Key (nth t (k : Int)).Key)
def featOk (f : Feat) : Bool := tagsOk f.Tags && decide (f.Tags.length ≤ 4) && wordOk f.Id && shapeOk f.Shape
def noF (f : Feat) : Bool := decide (f = ⟨[], ⟨0, []⟩, []⟩)
def sideOk (id : Str) (has : Bool) (f : Feat) : Bool := if has then featOk f && decide (f.Id = id) else noF f
def sameC (c : Change) : Bool := decide (c.Had = c.Has) && decide (c.Was = c.Now)
def changeOk (c : Change) : Bool := wordOk c.Id && sideOk c.Id c.Had c.Was && sideOk c.Id c.Has c.Now && !(sameC c)
def sheetOk (s : List Feat) : Bool := allN s.length (fun k => featOk (nth s (k : Int)) && (decide (k = 0) || Op.bytesLess (nth s ((k : Int) - 1)).Id (nth s (k : Int)).Id)) && decide (s.length ≤ 8)
theorem Feat.ext_iff' (a b : Feat) : a = b ↔ a.Id = b.Id ∧ a.Shape = b.Shape ∧ a.Tags = b.Tags := by cases a; cases b; simp
theorem Shape.ext_iff' (a b : Shape) : a = b ↔ a.Kind = b.Kind ∧ a.Pts = b.Pts := by cases a; cases b; simp
section
def findN (n : Nat) (c : Nat → Bool) : Int := match (List.range n).find? c with | some k => (k : Int) | none => -1
theorem findN_hit {n k : Nat} {c : Nat → Bool} (hk : k < n) (h : c k = true) (hp : ∀ j, j < k → c j = false) : findN n c = (k : Int) := by
 unfold findN
 have : (List.range n).find? c = some k := by
  rw [List.find?_range_eq_some]
  exact ⟨h, List.mem_range.2 hk, fun j hj => by rw [hp j hj]; rfl⟩
 rw [this]
theorem findN_none {n : Nat} {c : Nat → Bool} (h : ∀ j, j < n → c j = false) : findN n c = -1 := by
 unfold findN
 have : (List.range n).find? c = none := by
  rw [List.find?_eq_none]; intro j hj; rw [h j (List.mem_range.1 hj)]; exact Bool.false_ne_true
 rw [this]
theorem findN_le (n : Nat) (c : Nat → Bool) : -1 ≤ findN n c ∧ findN n c < n := by
 unfold findN
 cases h : (List.range n).find? c with
 | none => exact ⟨Int.le_refl _, by dsimp only; omega⟩
 | some k => have := List.mem_range.1 (List.mem_of_find?_eq_some h); exact ⟨by dsimp only; omega, by dsimp only; omega⟩
theorem loop_find (n : Nat) (c : Nat → Bool) {B : (Int → Prop) → (Int → Nat) → Int → Prop} {Q : Int → Prop} (hq : Q (findN n c))
  (hs : ∀ (I : Int → Prop) (mu : Int → Nat) (k : Nat), k < n → (c k = true → Q (k : Int)) → (c k = false → I ((k : Int) + 1) ∧ mu ((k : Int) + 1) < mu (k : Int)) → B I mu (k : Int)) :
  ∃ (I : Int → Prop) (mu : Int → Nat), I 0 ∧ ∀ (i : Int), I i → (if decide (i < (n : Int)) then B I mu i else Q (-1)) := by
 refine loop_all n (fun k => !(c k)) (fun I mu k hk hp hn => hs I mu k hk (fun h => ?_) (fun h => hn (by rw [h]; rfl))) (fun ha => ?_)
 ·rw [findN_hit hk h (fun j hj => by have := hp j hj; rwa [Bool.not_eq_true'] at this)] at hq; exact hq
 ·rw [findN_none (fun j hj => by have := ha j hj; rwa [Bool.not_eq_true'] at this)] at hq; exact hq
section
variable {α : Type} [Inhabited α] [DecidableEq α]
end
end
section
theorem less_trans : ∀ {a b c : Str}, Op.bytesLess a b = true → Op.bytesLess b c = true → Op.bytesLess a c = true
 | _, _, [], _, h => by rename_i b _; cases b <;> simp [Op.bytesLess] at h
 | _, [], _ :: _, h, _ => by rename_i a _ _ _; cases a <;> simp [Op.bytesLess] at h
 | [], _ :: _, _ :: _, _, _ => by simp [Op.bytesLess]
 | x :: a, y :: b, z :: c, h1, h2 => by
  rw [Op.bytesLess] at h1 h2 ⊢
  simp only [Bool.or_eq_true, Bool.and_eq_true, decide_eq_true_eq, beq_iff_eq] at h1 h2 ⊢
  rcases h1 with h1 | ⟨rfl, h1⟩
  ·rcases h2 with h2 | ⟨rfl, h2⟩
   ·exact .inl (UInt8.lt_trans h1 h2)
   ·exact .inl h1
  ·rcases h2 with h2 | ⟨rfl, h2⟩
   ·exact .inl h2
   ·exact .inr ⟨rfl, less_trans h1 h2⟩
theorem less_asym {a b : Str} (h : Op.bytesLess a b = true) : Op.bytesLess b a = false := by
 cases e : Op.bytesLess b a with
 | false => rfl
 | true => have := less_trans h e; rw [less_irr] at this; cases this
theorem less_or {a b : Str} (h : Op.bytesLess a b = false) : Op.bytesLess b a = true ∨ b = a := by
 have := less_tri a b
 rw [h] at this
 simpa using this.symm
def SS (l : List Str) : Prop := l.Pairwise fun x y => Op.bytesLess x y = true
theorem SS.ext : ∀ {l m : List Str}, SS l → SS m → (∀ x, x ∈ l ↔ x ∈ m) → l = m
 | [], [], _, _, _ => rfl
 | [], y :: m, _, _, h => by have := (h y).2 List.mem_cons_self; cases this
 | x :: l, [], _, _, h => by have := (h x).1 List.mem_cons_self; cases this
 | x :: l, y :: m, hl, hm, h => by
  obtain ⟨l1, l2⟩ := List.pairwise_cons.1 hl
  obtain ⟨m1, m2⟩ := List.pairwise_cons.1 hm
  have e : x = y := by
   rcases List.mem_cons.1 ((h x).1 List.mem_cons_self) with e | e
   ·exact e
   ·rcases List.mem_cons.1 ((h y).2 List.mem_cons_self) with e' | e'
    ·exact e'.symm
    ·have := less_trans (m1 x e) (l1 y e'); rw [less_irr] at this; cases this
  subst e
  rw [SS.ext l2 m2 fun z => ⟨fun hz => ?_, fun hz => ?_⟩]
  ·rcases List.mem_cons.1 ((h z).1 (List.mem_cons_of_mem _ hz)) with e | e
   ·subst e; have := l1 z hz; rw [less_irr] at this; cases this
   ·exact e
  ·rcases List.mem_cons.1 ((h z).2 (List.mem_cons_of_mem _ hz)) with e | e
   ·subst e; have := m1 z hz; rw [less_irr] at this; cases this
   ·exact e
theorem le_less (x y : Str) : decide (x ≤ y) = !(Op.bytesLess y x) := by
 rw [bytesLess_eq]
 by_cases h : y < x
 ·rw [decide_eq_true h, decide_eq_false (by rw [List.not_le]; exact h)]; rfl
 ·rw [decide_eq_false h, decide_eq_true (List.not_lt.1 h)]; rfl
theorem sortS_le (l : List Str) : (sortS l).Pairwise fun x y => Op.bytesLess y x = false := by
 have h := List.pairwise_mergeSort (le := fun x y : Str => decide (x ≤ y)) (fun a b c h1 h2 => by
  rw [le_less, Bool.not_eq_true'] at h1 h2 ⊢
  cases e : Op.bytesLess c a with
  | false => rfl
  | true =>
   rcases less_or h1 with h3 | h3
   ·have := less_trans e h3; rw [h2] at this; cases this
   ·subst h3; rw [h2] at e; cases e) (fun a b => by
  rw [le_less, le_less]
  cases e : Op.bytesLess b a with
  | false => rfl
  | true => rw [less_asym e]; rfl) l
 exact h.imp fun {x y} h => by rw [le_less, Bool.not_eq_true'] at h; exact h
theorem sortS_mem {l : List Str} {x : Str} : x ∈ sortS l ↔ x ∈ l := List.mem_mergeSort
section
open Go.Lib
theorem compact_of (l : List Str) (h : l.Pairwise fun x y => Op.bytesLess y x = false) : SS (compact l) ∧ ∀ x, x ∈ compact l ↔ x ∈ l := by
 have hle : ∀ i j, i ≤ j → j < l.length → Op.bytesLess (l.toArray[j]!) (l.toArray[i]!) = false := fun i j hij hj => by
  have hi : i < l.length := by omega
  simp only [List.getElem!_toArray, getElem!_pos l i hi, getElem!_pos l j hj]
  rcases Nat.lt_or_eq_of_le hij with hlt | rfl
  ·exact List.pairwise_iff_getElem.1 h i j hi hj hlt
  ·exact less_irr _
 constructor
 ·unfold compact compactUpTo SS
  rw [List.pairwise_map, List.pairwise_filter]
  refine List.pairwise_iff_getElem.2 fun i j hi hj hij => ?_
  simp only [List.length_range] at hi hj
  simp only [List.getElem_range]
  intro _ hk
  have hj0 : 0 < j := by omega
  have hne : l.toArray[j]! ≠ l.toArray[j - 1]! := fun e => by rw [keeps_neg hj0 e] at hk; cases hk
  have h1 : Op.bytesLess (l.toArray[j - 1]!) (l.toArray[j]!) = true := by
   rcases less_or (hle (j - 1) j OM hj) with h2 | h2
   ·exact h2
   ·exact absurd h2.symm hne
  rcases less_or (hle i (j - 1) OM OM) with h3 | h3
  ·exact less_trans h3 h1
  ·rw [h3]; exact h1
 ·intro x
  constructor
  ·exact compact_mem
  ·intro hx
   obtain ⟨k, hk, rfl⟩ := List.getElem_of_mem hx
   have key : ∀ k, k < l.length → l.toArray[k]! ∈ compact l := by
    intro k
    induction k using Nat.strongRecOn with
    | _ k ih =>
     intro hk
     cases e : keeps l.toArray k with
     | true =>
      unfold compact compactUpTo
      exact List.mem_map.2 ⟨k, List.mem_filter.2 ⟨List.mem_range.2 hk, e⟩, rfl⟩
     | false =>
      have hk0 : 0 < k := by
       rcases Nat.eq_zero_or_pos k with h0 | h0
       ·subst h0; rw [keeps_lt_one _ 0 OM] at e; cases e
       ·exact h0
      have he : l.toArray[k]! = l.toArray[k - 1]! := Classical.byContradiction fun hne => by rw [keeps_pos hne] at e; cases e
      rw [he]; exact ih (k - 1) OM OM
   have := key k hk
   simpa [getElem!_pos l k hk] using this
end
def uniq (l : List Str) : List Str := Lib.compact (sortS l)
theorem uniq_ss (l : List Str) : SS (uniq l) := (compact_of _ (sortS_le l)).1
theorem uniq_mem {l : List Str} {x : Str} : x ∈ uniq l ↔ x ∈ l := ((compact_of _ (sortS_le l)).2 x).trans sortS_mem
def ids (s : List Feat) : List Str := s.map (·.Id)
theorem ids_app (s t : List Feat) : ids (s ++ t) = ids s ++ ids t := List.map_append
theorem sheet_ss {s : List Feat} (h : sheetOk s = true) : SS (ids s) ∧ s.length ≤ 8 ∧ ∀ f ∈ s, featOk f = true := by
 unfold sheetOk at h
 simp only [Bool.and_eq_true, decide_eq_true_eq] at h
 obtain ⟨h1, h2⟩ := h
 have h1 := allN_iff.1 h1
 have hadj : ∀ k, 0 < k → k < s.length → Op.bytesLess (nth s ((k : Int) - 1)).Id (nth s (k : Int)).Id = true := fun k h0 hk => by
  have := h1 k hk
  simp only [Bool.and_eq_true, Bool.or_eq_true, decide_eq_true_eq] at this
  rcases this.2 with h | h
  ·omega
  ·exact h
 refine ⟨?_, h2, fun f hf => ?_⟩
 ·unfold SS ids
  rw [List.pairwise_map]
  refine List.pairwise_iff_getElem.2 fun i j hi hj hij => ?_
  have key : ∀ d, i + d + 1 < s.length → Op.bytesLess s[i].Id (nth s ((i + d + 1 : Nat) : Int)).Id = true := by
   intro d
   induction d with
   | zero =>
    intro hd
    have := hadj (i + 0 + 1) OM hd
    rw [show (((i + 0 + 1 : Nat) : Int) - 1) = (i : Int) by omega, nth_nat s hi] at this
    exact this
   | succ d ih =>
    intro hd
    have := hadj (i + (d + 1) + 1) OM hd
    rw [show (((i + (d + 1) + 1 : Nat) : Int) - 1) = ((i + d + 1 : Nat) : Int) by omega] at this
    exact less_trans (ih OM) this
  have := key (j - i - 1) OM
  rw [show i + (j - i - 1) + 1 = j by omega, nth_nat s hj] at this
  exact this
 ·obtain ⟨k, hk, rfl⟩ := List.getElem_of_mem hf
  have := h1 k hk
  rw [nth_nat s hk] at this
  simp only [Bool.and_eq_true] at this
  exact this.1
theorem word_len {s : Str} (h : wordOk s = true) : s.length ≤ 6 := by
 unfold wordOk at h
 simp only [Bool.and_eq_true, decide_eq_true_eq] at h
 exact h.2.2
theorem bulk_small {α : Type} [Bulk α] (l : List α) (m : Nat) (h : ∀ x ∈ l, bulk x ≤ m) : bulk l ≤ l.length * (m + 1) := by
 induction l with
 | nil => exact Nat.zero_le _
 | cons x l ih =>
  have h1 := h x List.mem_cons_self
  have h2 := ih fun y hy => h y (List.mem_cons_of_mem _ hy)
  rw [bulk_cons, List.length_cons, Nat.add_mul]
  omega
theorem feat_small {f : Feat} (h : featOk f = true) : bulk f ≤ 100 ∧ f.Id.length ≤ 6 := by
 unfold featOk at h
 simp only [Bool.and_eq_true, decide_eq_true_eq] at h
 obtain ⟨⟨⟨h1, h2⟩, h3⟩, h4⟩ := h
 have hi := word_len h3
 have e1 : bulk f = bulk f.Id + (bulk f.Shape.Kind + bulk f.Shape.Pts) + bulk f.Tags := rfl
 have e2 : bulk f.Id = f.Id.length := bulk_str _
 have e3 : bulk f.Shape.Kind = 0 := rfl
 have e4 : bulk f.Shape.Pts = f.Shape.Pts.length := bulk_flat (fun _ => rfl) _
 have ht : bulk f.Tags ≤ f.Tags.length * (12 + 1) := bulk_small _ 12 fun t hm => by
  unfold tagsOk at h1
  obtain ⟨k, hk, rfl⟩ := List.getElem_of_mem hm
  have := allN_iff.1 h1 k hk
  rw [nth_nat _ hk] at this
  simp only [Bool.and_eq_true] at this
  have a1 := word_len this.1.1
  have a2 := word_len this.1.2
  have b0 : bulk f.Tags[k] = bulk f.Tags[k].Key + bulk f.Tags[k].Val := rfl
  have b1 : bulk f.Tags[k].Key = f.Tags[k].Key.length := bulk_str _
  have b2 : bulk f.Tags[k].Val = f.Tags[k].Val.length := bulk_str _
  omega
 have hp : f.Shape.Pts.length ≤ 6 := by
  unfold shapeOk kindOk at h4
  simp only [Bool.and_eq_true] at h4
  have := h4.2
  split at this
  ·simp only [decide_eq_true_eq] at this; omega
  ·split at this
   ·simp only [Bool.and_eq_true, decide_eq_true_eq] at this; omega
   ·split at this
    ·simp only [Bool.and_eq_true, decide_eq_true_eq] at this; omega
    ·cases this
 have : f.Tags.length * (12 + 1) ≤ 52 := by omega
 omega
def zeroF : Feat := ⟨[], ⟨0, []⟩, []⟩
def sideOf (s : List Feat) (id : Str) : Feat × Bool :=
 if findN s.length (fun j => (nth s (j : Int)).Id == id) < 0 then (zeroF, false) else (nth s (findN s.length fun j => (nth s (j : Int)).Id == id), true)
theorem uniq_len (l : List Str) : (uniq l).length ≤ l.length := by
 unfold uniq
 have := compact_le (sortS l)
 have h2 : (sortS l).length = l.length := List.length_mergeSort _
 omega
end
theorem mate_part {o a : List Pt} (h : few o a = true) (t : Nat) : mateI (spairs o a) (t : Int) = match part o a t with | some x => (x : Int) | none => -1 := by
 rw [spairs_few h, mateI_mk]; rfl
structure MInv (o a b : List Pt) (xs : List Pt) (i j k t : Nat) : Prop where
 hi : i ≤ t
 ht : t ≤ o.length
 hj : j ≤ a.length
 hk : k ≤ b.length
 fj : From (part o a) t j
 fk : From (part o b) t k
 len : xs.length ≤ j + k
 eq : (mloop o a b (part o a) (part o b) (o.length - t) t i j k).map (xs ++ ·) = smerge o a b
theorem MInv.zero {o a b : List Pt} (h1 : few o a = true) (h2 : few o b = true) : MInv o a b [] 0 0 0 0 :=
 ⟨Nat.le_refl _, Nat.zero_le _, Nat.zero_le _, Nat.zero_le _, From.zero _ _, From.zero _ _, Nat.le_refl _, by rw [smerge_few h1 h2, Nat.sub_zero]; cases mloop o a b (part o a) (part o b) o.length 0 0 0 0 <;> rfl⟩
theorem MInv.skip {o a b xs : List Pt} {i j k t : Nat} (h : MInv o a b xs i j k t) (ht : t < o.length) (hn : part o a t = none ∨ part o b t = none) : MInv o a b xs i j k (t + 1) :=
 ⟨by have := h.hi; omega, ht, h.hj, h.hk, h.fj.skip, h.fk.skip, h.len, by
  have := h.eq
  rw [show o.length - t = (o.length - (t + 1)) + 1 by omega, mloop_none hn] at this
  exact this⟩
theorem MInv.step {o a b xs : List Pt} {i j k t x y : Nat} (h : MInv o a b xs i j k t) (ht : t < o.length) (hx : part o a t = some x) (hy : part o b t = some y) {p : List Pt} (hp : pickL (seg o i t) (seg a j x) (seg b k y) = some p) : MInv o a b (xs ++ p ++ [nth o (t : Int)]) (t + 1) (x + 1) (y + 1) (t + 1) := by
 have h1 := (part_mates o a).lt hx
 have h2 := (part_mates o b).lt hy
 refine ⟨Nat.le_refl _, ht, h1.2, h2.2, .step (part_mates o a) hx, .step (part_mates o b) hy, ?_, ?_⟩
 ·have := (pickL_mem hp).2.2.2
  rw [seg_len a _ _ OM, seg_len b _ _ OM] at this
  have h3 := h.fj t x (Nat.le_refl _) hx
  have h4 := h.fk t y (Nat.le_refl _) hy
  have h5 := h.len
  simp only [List.length_append, List.length_singleton]; omega
 ·have := h.eq
  rw [show o.length - t = (o.length - (t + 1)) + 1 by omega, mloop_some hx hy, hp, Option.bind_some, Option.map_map] at this
  rw [← this]
  congr 1
  funext r
  simp
theorem MInv.stop {o a b xs : List Pt} {i j k t x y : Nat} (h : MInv o a b xs i j k t) (ht : t < o.length) (hx : part o a t = some x) (hy : part o b t = some y) (hp : pickL (seg o i t) (seg a j x) (seg b k y) = none) : smerge o a b = none := by
 have := h.eq
 rw [show o.length - t = (o.length - (t + 1)) + 1 by omega, mloop_some hx hy, hp] at this
 exact this.symm
theorem MInv.last {o a b xs : List Pt} {i j k : Nat} (h : MInv o a b xs i j k o.length) : (pickL (o.drop i) (a.drop j) (b.drop k)).map (xs ++ ·) = smerge o a b := by
 have := h.eq
 rw [Nat.sub_self, mloop_zero] at this
 exact this
theorem MInv.from {o a b xs : List Pt} {i j k t x y : Nat} (h : MInv o a b xs i j k t) (hx : part o a t = some x) (hy : part o b t = some y) : j ≤ x ∧ x < a.length ∧ k ≤ y ∧ y < b.length :=
 ⟨h.fj t x (Nat.le_refl _) hx, ((part_mates o a).lt hx).2, h.fk t y (Nat.le_refl _) hy, ((part_mates o b).lt hy).2⟩
def keysT (t : List Tag) : List Str := t.map (·.Key)
theorem keys_app (s t : List Tag) : keysT (s ++ t) = keysT s ++ keysT t := List.map_append
def valT (t : List Tag) (key : Str) : value :=
 if findN t.length (fun j => (nth t (j : Int)).Key == key) < 0 then ⟨false, []⟩ else ⟨true, (nth t (findN t.length fun j => (nth t (j : Int)).Key == key)).Val⟩
theorem valT_no (t : List Tag) (key : Str) (h : (valT t key).has = false) : valT t key = ⟨false, []⟩ := by
 unfold valT at h ⊢
 split
 ·rfl
 ·rename_i h1; rw [if_neg h1] at h; cases h
def three {α : Type} [DecidableEq α] (o a b : α) : α × Bool := if a = o then (b, true) else if b = o then (a, true) else if a = b then (a, true) else (a, false)
def tagF (o a b : value) : value × Bool := if (three o a b).2 then three o a b else (if a.has then a else b, false)
def tagS : Str := [116, 97, 103, 32]
def tagK (o a b : List Tag) (k : Str) : value × Bool := tagF (valT o k) (valT a k) (valT b k)
def clashL (o a b : List Tag) (ks : List Str) : List Str := (ks.filter fun k => !(tagK o a b k).2).map fun k => tagS ++ k
def tagsL (o a b : List Tag) (ks : List Str) : List Tag := (ks.filter fun k => (tagK o a b k).1.has).map fun k => ⟨k, (tagK o a b k).1.val⟩
theorem clashL_snoc (o a b : List Tag) (ks : List Str) (k : Str) : clashL o a b (ks ++ [k]) = clashL o a b ks ++ (if (tagK o a b k).2 then [] else [tagS ++ k]) := by
 unfold clashL
 rw [List.filter_append, List.map_append]
 congr 1
 cases h : (tagK o a b k).2 <;> simp [h]
theorem tagsL_snoc (o a b : List Tag) (ks : List Str) (k : Str) : tagsL o a b (ks ++ [k]) = tagsL o a b ks ++ (if (tagK o a b k).1.has then [⟨k, (tagK o a b k).1.val⟩] else []) := by
 unfold tagsL
 rw [List.filter_append, List.map_append]
 congr 1
 cases h : (tagK o a b k).1.has <;> simp [h]
theorem clashL_len (o a b : List Tag) (ks : List Str) : (clashL o a b ks).length ≤ ks.length := by
 unfold clashL; rw [List.length_map]; exact List.length_filter_le _ _
theorem tagsL_len (o a b : List Tag) (ks : List Str) : (tagsL o a b ks).length ≤ ks.length := by
 unfold tagsL; rw [List.length_map]; exact List.length_filter_le _ _
def shapeF (o a b : Shape) : Shape × Bool :=
 if (three o a b).2 then three o a b
 else if a.Kind = o.Kind ∧ b.Kind = o.Kind then
  match smerge o.Pts a.Pts b.Pts with
  | some p => if shapeOk ⟨a.Kind, p⟩ then (⟨a.Kind, p⟩, true) else (a, false)
  | none => (a, false)
 else (a, false)
def allKeys (o a b : Feat) : List Str := uniq (keysT (o.Tags ++ a.Tags ++ b.Tags))
def shapeS : Str := [115, 104, 97, 112, 101]
def joinF (o a b : Feat) : Feat := ⟨a.Id, (shapeF o.Shape a.Shape b.Shape).1, tagsL o.Tags a.Tags b.Tags (allKeys o a b)⟩
def joinW (o a b : Feat) : List Str := (if (shapeF o.Shape a.Shape b.Shape).2 then [] else [shapeS]) ++ clashL o.Tags a.Tags b.Tags (allKeys o a b)
def joinOf (o a b : Feat) : Feat × List Str := if featOk (joinF o a b) then (joinF o a b, joinW o a b) else (a, [[109, 117, 99, 104]])
def featJoin (o a b : Feat) : Feat × List Str := if featOk o && featOk a && featOk b && decide (o.Id = a.Id) && decide (o.Id = b.Id) then joinOf o a b else (zeroF, [])
theorem feat_facts {f : Feat} (h : featOk f = true) : f.Tags.length ≤ 4 ∧ shapeOk f.Shape = true ∧ f.Shape.Pts.length ≤ 6 ∧ f.Id.length ≤ 6 ∧ ∀ t ∈ f.Tags, t.Key.length ≤ 6 ∧ t.Val.length ≤ 6 := by
 have hb := (feat_small h).2
 unfold featOk at h
 simp only [Bool.and_eq_true, decide_eq_true_eq] at h
 obtain ⟨⟨⟨h1, h2⟩, h3⟩, h4⟩ := h
 refine ⟨h2, h4, ?_, hb, fun t hm => ?_⟩
 ·unfold shapeOk kindOk at h4
  simp only [Bool.and_eq_true] at h4
  have := h4.2
  split at this
  ·simp only [decide_eq_true_eq] at this; omega
  ·split at this
   ·simp only [Bool.and_eq_true, decide_eq_true_eq] at this; omega
   ·split at this
    ·simp only [Bool.and_eq_true, decide_eq_true_eq] at this; omega
    ·cases this
 ·unfold tagsOk at h1
  obtain ⟨k, hk, rfl⟩ := List.getElem_of_mem hm
  have := allN_iff.1 h1 k hk
  rw [nth_nat _ hk] at this
  simp only [Bool.and_eq_true] at this
  exact ⟨word_len this.1.1, word_len this.1.2⟩
theorem shape_pts {s : Shape} (h : shapeOk s = true) : s.Pts.length ≤ 6 := by
 unfold shapeOk kindOk at h
 simp only [Bool.and_eq_true] at h
 have := h.2
 split at this
 ·simp only [decide_eq_true_eq] at this; omega
 ·split at this
  ·simp only [Bool.and_eq_true, decide_eq_true_eq] at this; omega
  ·split at this
   ·simp only [Bool.and_eq_true, decide_eq_true_eq] at this; omega
   ·cases this
theorem three_in {α : Type} [DecidableEq α] (o a b : α) : (three o a b).1 = a ∨ (three o a b).1 = b := by
 unfold three
 split
 ·exact .inr rfl
 ·split
  ·exact .inl rfl
  ·split <;> exact .inl rfl
theorem shapeF_pts {o a b : Shape} (ha : a.Pts.length ≤ 6) (hb : b.Pts.length ≤ 6) : (shapeF o a b).1.Pts.length ≤ 6 := by
 unfold shapeF
 split
 ·rcases three_in o a b with h | h <;> rw [h] <;> assumption
 ·split
  ·split
   ·split
    ·rename_i h; exact shape_pts h
    ·exact ha
   ·exact ha
  ·exact ha
theorem valT_len {t : List Tag} (h : ∀ x ∈ t, x.Val.length ≤ 6) (k : Str) : (valT t k).val.length ≤ 6 := by
 unfold valT
 split
 ·exact Nat.zero_le _
 ·have h1 := findN_le t.length fun j => (nth t (j : Int)).Key == k
  exact h _ (nth_memi t OM h1.2)
theorem tagF_in (o a b : value) : (tagF o a b).1 = a ∨ (tagF o a b).1 = b := by
 unfold tagF
 split
 ·exact three_in o a b
 ·split
  ·exact .inl rfl
  ·exact .inr rfl
theorem allKeys_len (o a b : Feat) : (allKeys o a b).length ≤ o.Tags.length + a.Tags.length + b.Tags.length := by
 have h := uniq_len (keysT (o.Tags ++ a.Tags ++ b.Tags))
 have e : (keysT (o.Tags ++ a.Tags ++ b.Tags)).length = o.Tags.length + a.Tags.length + b.Tags.length := by unfold keysT; simp; omega
 unfold allKeys; omega
theorem allKeys_small {o a b : Feat} (ho : featOk o = true) (ha : featOk a = true) (hb : featOk b = true) : (allKeys o a b).length ≤ 12 ∧ ∀ k ∈ allKeys o a b, k.length ≤ 6 := by
 have h1 := feat_facts ho; have h2 := feat_facts ha; have h3 := feat_facts hb
 refine ⟨by have := allKeys_len o a b; omega, fun k hk => ?_⟩
 unfold allKeys at hk
 rw [uniq_mem] at hk
 obtain ⟨t, ht, rfl⟩ := List.mem_map.1 hk
 rcases List.mem_append.1 ht with ht | ht
 ·rcases List.mem_append.1 ht with ht | ht
  ·exact (h1.2.2.2.2 t ht).1
  ·exact (h2.2.2.2.2 t ht).1
 ·exact (h3.2.2.2.2 t ht).1
theorem tagsL_small {o a b : Feat} (ho : featOk o = true) (ha : featOk a = true) (hb : featOk b = true) : bulk (tagsL o.Tags a.Tags b.Tags (allKeys o a b)) ≤ 200 := by
 obtain ⟨k1, k2⟩ := allKeys_small ho ha hb
 have hl := tagsL_len o.Tags a.Tags b.Tags (allKeys o a b)
 have hs := bulk_small (tagsL o.Tags a.Tags b.Tags (allKeys o a b)) 12 fun t ht => by
  unfold tagsL at ht
  obtain ⟨k, hk, rfl⟩ := List.mem_map.1 ht
  have hk := k2 k (List.mem_filter.1 hk).1
  have hv : (tagK o.Tags a.Tags b.Tags k).1.val.length ≤ 6 := by
   rcases tagF_in (valT o.Tags k) (valT a.Tags k) (valT b.Tags k) with h | h
   ·unfold tagK; rw [h]; exact valT_len (fun x hx => ((feat_facts ha).2.2.2.2 x hx).2) k
   ·unfold tagK; rw [h]; exact valT_len (fun x hx => ((feat_facts hb).2.2.2.2 x hx).2) k
  have e : bulk (⟨k, (tagK o.Tags a.Tags b.Tags k).1.val⟩ : Tag) = bulk k + bulk (tagK o.Tags a.Tags b.Tags k).1.val := rfl
  rw [e, bulk_str, bulk_str]; omega
 have : (tagsL o.Tags a.Tags b.Tags (allKeys o a b)).length * (12 + 1) ≤ 12 * 13 := Nat.mul_le_mul OM (Nat.le_refl _)
 omega
theorem joinF_small {o a b : Feat} (ho : featOk o = true) (ha : featOk a = true) (hb : featOk b = true) : bulk (joinF o a b) ≤ 300 := by
 have h2 := feat_facts ha; have h3 := feat_facts hb
 have ht := tagsL_small ho ha hb
 have hp := shapeF_pts (o := o.Shape) h2.2.2.1 h3.2.2.1
 have e : bulk (joinF o a b) = bulk a.Id + (0 + bulk (shapeF o.Shape a.Shape b.Shape).1.Pts) + bulk (tagsL o.Tags a.Tags b.Tags (allKeys o a b)) := rfl
 have e2 : bulk a.Id = a.Id.length := bulk_str _
 have e3 : bulk (shapeF o.Shape a.Shape b.Shape).1.Pts = (shapeF o.Shape a.Shape b.Shape).1.Pts.length := bulk_flat (fun _ => rfl) _
 omega
section
def mkL {α : Type} (g : α → Int → α × Int) : List α → Int → List α × Int
 | [], k => ([], k)
 | x :: l, k => ((g x k).1 :: (mkL g l (g x k).2).1, (mkL g l (g x k).2).2)
section
variable {α : Type} {g : α → Int → α × Int}
theorem mkL_snoc (x : α) : ∀ (l : List α) (k : Int), mkL g (l ++ [x]) k = ((mkL g l k).1 ++ [(g x (mkL g l k).2).1], (g x (mkL g l k).2).2)
 | [], k => rfl
 | y :: l, k => by
  rw [List.cons_append, mkL, mkL_snoc x l]; rfl
theorem mkL_len : ∀ (l : List α) (k : Int), (mkL g l k).1.length = l.length
 | [], k => rfl
 | y :: l, k => by rw [mkL, List.length_cons, List.length_cons, mkL_len l]
theorem mkL_app : ∀ (l m : List α) (k : Int), mkL g (l ++ m) k = ((mkL g l k).1 ++ (mkL g m (mkL g l k).2).1, (mkL g m (mkL g l k).2).2)
 | [], m, k => rfl
 | y :: l, m, k => by rw [List.cons_append, mkL, mkL_app l]; rfl
variable [Inhabited α]
def Mk (g : α → Int → α × Int) (a : List α) (k : Int) (u : Nat) (xs : List α) (k' : Int) : Prop := u ≤ a.length ∧ xs = (mkL g (a.take u) k).1 ++ a.drop u ∧ k' = (mkL g (a.take u) k).2
variable {a xs : List α} {k k' : Int} {u : Nat}
theorem Mk.zero (a : List α) (k : Int) : Mk g a k 0 a k := ⟨Nat.zero_le _, by simp [mkL], by simp [mkL]⟩
theorem Mk.len (h : Mk g a k u xs k') : xs.length = a.length := by
 rw [h.2.1, List.length_append, mkL_len, List.length_take, List.length_drop]; have := h.1; omega
theorem Mk.nth (h : Mk g a k u xs k') (hu : u < a.length) : nth xs (u : Int) = Go.Proofs.YtpdmnmpcjljeaaaGreat.nth a (u : Int) := by
 rw [nth_nat xs (by rw [h.len]; exact hu), nth_nat a hu]
 have hl : (mkL g (a.take u) k).1.length = u := by rw [mkL_len, List.length_take]; omega
 have := h.2.1
 subst this
 rw [List.getElem_append_right OM]
 simp [hl]
def Hd (g : α → Int → α × Int) (a : List α) (k : Int) (u : Nat) (k' : Int) : Prop := u ≤ a.length ∧ k' = (mkL g (a.take u) k).2
theorem Hd.zero (a : List α) (k : Int) : Hd g a k 0 k := ⟨Nat.zero_le _, by simp [mkL]⟩
theorem Hd.nth (h : Hd g a k u k') (hu : u < a.length) : nth (mkL g a k).1 (u : Int) = (g (Go.Proofs.YtpdmnmpcjljeaaaGreat.nth a (u : Int)) k').1 := by
 have e : a = (a.take u ++ [Go.Proofs.YtpdmnmpcjljeaaaGreat.nth a (u : Int)]) ++ a.drop (u + 1) := by rw [← take_nth a hu, List.take_append_drop]
 have hl : (mkL g (a.take u) k).1.length = u := by rw [mkL_len, List.length_take]; omega
 rw [nth_nat _ (by rw [mkL_len]; exact hu)]
 have h1 : (mkL g a k).1[u]? = some (g (Go.Proofs.YtpdmnmpcjljeaaaGreat.nth a (u : Int)) k').1 := by
  conv => lhs; rw [e]
  rw [mkL_app, mkL_snoc]
  dsimp only
  rw [List.append_assoc, List.getElem?_append_right OM, hl, Nat.sub_self, h.2]; rfl
 rw [List.getElem?_eq_getElem (by rw [mkL_len]; exact hu)] at h1
 exact Option.some.inj h1
end
theorem bulk_feat (x : Feat) : bulk x = bulk x.Id + (bulk x.Shape.Kind + bulk x.Shape.Pts) + bulk x.Tags := rfl
end
theorem pw_ext {α : Type} {R : α → α → Prop} (irr : ∀ x, ¬ R x x) (tr : ∀ x y z, R x y → R y z → R x z) : ∀ {l m : List α}, l.Pairwise R → m.Pairwise R → (∀ x, x ∈ l ↔ x ∈ m) → l = m
 | [], [], _, _, _ => rfl
 | [], y :: m, _, _, h => by have := (h y).2 List.mem_cons_self; cases this
 | x :: l, [], _, _, h => by have := (h x).1 List.mem_cons_self; cases this
 | x :: l, y :: m, hl, hm, h => by
  obtain ⟨l1, l2⟩ := List.pairwise_cons.1 hl
  obtain ⟨m1, m2⟩ := List.pairwise_cons.1 hm
  have e : x = y := by
   rcases List.mem_cons.1 ((h x).1 List.mem_cons_self) with e | e
   ·exact e
   ·rcases List.mem_cons.1 ((h y).2 List.mem_cons_self) with e' | e'
    ·exact e'.symm
    ·exact absurd (tr _ _ _ (m1 x e) (l1 y e')) (irr _)
  subst e
  rw [pw_ext irr tr l2 m2 fun z => ⟨fun hz => ?_, fun hz => ?_⟩]
  ·rcases List.mem_cons.1 ((h z).1 (List.mem_cons_of_mem _ hz)) with e | e
   ·subst e; exact absurd (l1 z hz) (irr _)
   ·exact e
  ·rcases List.mem_cons.1 ((h z).2 (List.mem_cons_of_mem _ hz)) with e | e
   ·subst e; exact absurd (m1 z hz) (irr _)
   ·exact e
def idsC (d : List Change) : List Str := d.map (·.Id)
theorem idsC_app (s t : List Change) : idsC (s ++ t) = idsC s ++ idsC t := List.map_append
def CS (d : List Change) : Prop := d.Pairwise fun x y => Op.bytesLess x.Id y.Id = true
theorem CS.ext {l m : List Change} (hl : CS l) (hm : CS m) (h : ∀ x, x ∈ l ↔ x ∈ m) : l = m :=
 pw_ext (R := fun x y : Change => Op.bytesLess x.Id y.Id = true) (fun x e => by rw [less_irr] at e; cases e) (fun x y z h1 h2 => less_trans h1 h2) hl hm h
theorem CS.ids {d : List Change} (h : CS d) : SS (idsC d) := List.pairwise_map.2 h
theorem findN_true {n : Nat} {c : Nat → Bool} {k : Nat} (h : findN n c = (k : Int)) : k < n ∧ c k = true := by
 unfold findN at h
 cases e : (List.range n).find? c with
 | none => rw [e] at h; dsimp only at h; omega
 | some j =>
  rw [e] at h; dsimp only at h
  have : j = k := by omega
  subst this
  exact ⟨List.mem_range.1 (List.mem_of_find?_eq_some e), List.find?_some e⟩
theorem findN_neg {n : Nat} {c : Nat → Bool} (h : findN n c < 0) : ∀ j, j < n → c j = false := fun j hj => by
 unfold findN at h
 cases e : (List.range n).find? c with
 | some k => rw [e] at h; dsimp only at h; omega
 | none =>
  have := List.find?_eq_none.1 e j (List.mem_range.2 hj)
  simpa using this
theorem CS.inj {d : List Change} (h : CS d) {x y : Change} (hx : x ∈ d) (hy : y ∈ d) (e : x.Id = y.Id) : x = y := by
 obtain ⟨i, hi, rfl⟩ := List.getElem_of_mem hx
 obtain ⟨j, hj, rfl⟩ := List.getElem_of_mem hy
 rcases Nat.lt_trichotomy i j with g | g | g
 ·have := List.pairwise_iff_getElem.1 h i j hi hj g
  rw [e, less_irr] at this; cases this
 ·subst g; rfl
 ·have := List.pairwise_iff_getElem.1 h j i hj hi g
  rw [e, less_irr] at this; cases this
theorem sideOf_hit {s : List Feat} {id : Str} (h : (sideOf s id).2 = true) : (sideOf s id).1 ∈ s ∧ (sideOf s id).1.Id = id := by
 unfold sideOf at h ⊢
 split at h
 ·cases h
 ·rename_i g
  rw [if_neg g]
  have h1 := findN_le s.length fun j => (nth s (j : Int)).Id == id
  obtain ⟨k, hk⟩ : ∃ k : Nat, findN s.length (fun j => (nth s (j : Int)).Id == id) = (k : Int) := ⟨_, (Int.toNat_of_nonneg OM).symm⟩
  obtain ⟨h2, h3⟩ := findN_true hk
  rw [hk]
  exact ⟨nth_mem s h2, by simpa using h3⟩
theorem sideOf_no {s : List Feat} {id : Str} (h : (sideOf s id).2 = false) : (sideOf s id).1 = zeroF ∧ id ∉ ids s := by
 unfold sideOf at h ⊢
 split at h
 ·rename_i g
  rw [if_pos g]
  refine ⟨rfl, fun hm => ?_⟩
  obtain ⟨f, hf, rfl⟩ := List.mem_map.1 hm
  obtain ⟨k, hk, rfl⟩ := List.getElem_of_mem hf
  have := findN_neg g k hk
  rw [nth_nat s hk] at this
  simp at this
 ·cases h
def thOf (s : List Feat) (id : Str) : thing := ⟨(sideOf s id).2, (sideOf s id).1⟩
theorem thOf_no {s : List Feat} {id : Str} (h : (thOf s id).has = false) : thOf s id = ⟨false, zeroF⟩ := by
 have h1 := (sideOf_no h).1
 unfold thOf at h ⊢
 dsimp only at h
 rw [h, h1]
def goneS : Str := [103, 111, 110, 101]
def bothS : Str := [98, 111, 116, 104]
def oneOf (o a b : thing) : thing × List Str :=
 if (three o a b).2 then ((three o a b).1, [])
 else if a.has = false then (b, [goneS])
 else if b.has = false then (a, [goneS])
 else if o.has = false then (a, [bothS])
 else (⟨true, (joinOf o.f a.f b.f).1⟩, (joinOf o.f a.f b.f).2)
def oneAt (o a b : List Feat) (id : Str) : thing × List Str := oneOf (thOf o id) (thOf a id) (thOf b id)
def joinFs (o a b : List Feat) (l : List Str) : List Feat := (l.filter fun i => (oneAt o a b i).1.has).map fun i => (oneAt o a b i).1.f
def clashAtL (i : Str) (w : List Str) : List Clash := w.map fun x => ⟨i, x⟩
def joinCs (o a b : List Feat) (l : List Str) : List Clash := (l.map fun i => clashAtL i (oneAt o a b i).2).flatten
def ids3 (o a b : List Feat) : List Str := uniq (ids o ++ ids a ++ ids b)
def sheetJoin (o a b : List Feat) : List Feat × List Clash × Bool :=
 if sheetOk o && sheetOk a && sheetOk b then
  if sheetOk (joinFs o a b (ids3 o a b)) then (joinFs o a b (ids3 o a b), joinCs o a b (ids3 o a b), true) else ([], [], false)
 else ([], [], false)
theorem joinFs_snoc (o a b : List Feat) (l : List Str) (i : Str) : joinFs o a b (l ++ [i]) = joinFs o a b l ++ (if (oneAt o a b i).1.has then [(oneAt o a b i).1.f] else []) := by
 unfold joinFs
 rw [List.filter_append, List.map_append]
 congr 1
 cases h : (oneAt o a b i).1.has <;> simp [h]
theorem joinCs_snoc (o a b : List Feat) (l : List Str) (i : Str) : joinCs o a b (l ++ [i]) = joinCs o a b l ++ clashAtL i (oneAt o a b i).2 := by
 unfold joinCs
 rw [List.map_append, List.flatten_append]
 simp
theorem joinFs_len (o a b : List Feat) (l : List Str) : (joinFs o a b l).length ≤ l.length := by
 unfold joinFs; rw [List.length_map]; exact List.length_filter_le _ _
theorem ids3_len {o a b : List Feat} (ho : sheetOk o = true) (ha : sheetOk a = true) (hb : sheetOk b = true) : (ids3 o a b).length ≤ 24 := by
 have h1 := uniq_len (ids o ++ ids a ++ ids b)
 have h2 : (ids o ++ ids a ++ ids b).length = o.length + a.length + b.length := by unfold ids; simp; omega
 have := (sheet_ss ho).2.1; have := (sheet_ss ha).2.1; have := (sheet_ss hb).2.1
 unfold ids3; omega
theorem ids3_small {o a b : List Feat} (ho : sheetOk o = true) (ha : sheetOk a = true) (hb : sheetOk b = true) {i : Str} (hi : i ∈ ids3 o a b) : i.length ≤ 6 := by
 have key : ∀ {s : List Feat}, sheetOk s = true → i ∈ ids s → i.length ≤ 6 := fun hs hm => by
  obtain ⟨f, hf, rfl⟩ := List.mem_map.1 hm
  exact (feat_small ((sheet_ss hs).2.2 f hf)).2
 unfold ids3 at hi
 rcases List.mem_append.1 (uniq_mem.1 hi) with h | h
 ·rcases List.mem_append.1 h with h | h
  ·exact key ho h
  ·exact key ha h
 ·exact key hb h
theorem thOf_ok {s : List Feat} (hs : sheetOk s = true) (id : Str) : thOf s id = ⟨false, zeroF⟩ ∨ ((thOf s id).has = true ∧ featOk (thOf s id).f = true ∧ (thOf s id).f.Id = id) := by
 cases h : (sideOf s id).2 with
 | false => exact .inl (thOf_no h)
 | true =>
  obtain ⟨h1, h2⟩ := sideOf_hit h
  exact .inr ⟨h, (sheet_ss hs).2.2 _ h1, h2⟩
theorem three_case {α : Type} [DecidableEq α] (o a b : α) : (a = o ∧ three o a b = (b, true)) ∨ (¬ a = o ∧ b = o ∧ three o a b = (a, true)) ∨ (¬ a = o ∧ ¬ b = o ∧ a = b ∧ three o a b = (a, true)) ∨ (¬ a = o ∧ ¬ b = o ∧ ¬ a = b ∧ three o a b = (a, false)) := by
 unfold three
 by_cases h1 : a = o
 ·exact .inl ⟨h1, if_pos h1⟩
 ·rw [if_neg h1]
  by_cases h2 : b = o
  ·exact .inr (.inl ⟨h1, h2, if_pos h2⟩)
  ·rw [if_neg h2]
   by_cases h3 : a = b
   ·exact .inr (.inr (.inl ⟨h1, h2, h3, if_pos h3⟩))
   ·exact .inr (.inr (.inr ⟨h1, h2, h3, if_neg h3⟩))
theorem joinW_len {o a b : Feat} (ho : featOk o = true) (ha : featOk a = true) (hb : featOk b = true) : (joinOf o a b).2.length ≤ 13 ∧ (∀ x ∈ (joinOf o a b).2, x.length ≤ 20) ∧ bulk (joinOf o a b).1 ≤ 300 := by
 obtain ⟨ks1, ks2⟩ := allKeys_small ho ha hb
 have hcl := clashL_len o.Tags a.Tags b.Tags (allKeys o a b)
 unfold joinOf
 split
 ·refine ⟨?_, fun x hx => ?_, joinF_small ho ha hb⟩
  ·unfold joinW
   rw [List.length_append]
   split
   ·simp only [List.length_nil]; omega
   ·simp only [List.length_cons, List.length_nil]; omega
  ·unfold joinW at hx
   rcases List.mem_append.1 hx with hx | hx
   ·split at hx
    ·cases hx
    ·rw [List.mem_singleton.1 hx]; decide
   ·unfold clashL at hx
    obtain ⟨k, hk, rfl⟩ := List.mem_map.1 hx
    have := ks2 k (List.mem_filter.1 hk).1
    rw [List.length_append]
    have : tagS.length = 4 := rfl
    omega
 ·refine ⟨by simp, fun x hx => ?_, Nat.le_trans (feat_small ha).1 OM⟩
  rw [List.mem_singleton.1 hx]; decide
theorem oneAt_small {o a b : List Feat} (ho : sheetOk o = true) (ha : sheetOk a = true) (hb : sheetOk b = true) (i : Str) : (oneAt o a b i).2.length ≤ 13 ∧ (∀ x ∈ (oneAt o a b i).2, x.length ≤ 20) ∧ bulk (oneAt o a b i).1.f ≤ 300 := by
 have to_ := thOf_ok ho i; have ta := thOf_ok ha i; have tb := thOf_ok hb i
 have small : ∀ {t : thing}, (t = ⟨false, zeroF⟩ ∨ (t.has = true ∧ featOk t.f = true ∧ t.f.Id = i)) → bulk t.f ≤ 300 := fun h => by
  rcases h with rfl | h
  ·exact (by decide : bulk zeroF ≤ 300)
  ·exact Nat.le_trans (feat_small h.2.1).1 OM
 unfold oneAt oneOf
 split
 ·refine ⟨by simp, fun x hx => (by cases hx), ?_⟩
  rcases three_in (thOf o i) (thOf a i) (thOf b i) with h | h <;> rw [h]
  ·exact small ta
  ·exact small tb
 ·split
  ·exact ⟨by simp, fun x hx => by rw [List.mem_singleton.1 hx]; decide, small tb⟩
  ·rename_i h1
   split
   ·exact ⟨by simp, fun x hx => by rw [List.mem_singleton.1 hx]; decide, small ta⟩
   ·rename_i h2
    split
    ·exact ⟨by simp, fun x hx => by rw [List.mem_singleton.1 hx]; decide, small ta⟩
    ·rename_i h3
     have g : ∀ {t : thing}, (t = ⟨false, zeroF⟩ ∨ (t.has = true ∧ featOk t.f = true ∧ t.f.Id = i)) → ¬ t.has = false → featOk t.f = true := fun h hn => by
      rcases h with rfl | h
      ·exact absurd rfl hn
      ·exact h.2.1
     exact joinW_len (g to_ h3) (g ta h1) (g tb h2)
theorem joinCs_len {o a b : List Feat} (ho : sheetOk o = true) (ha : sheetOk a = true) (hb : sheetOk b = true) (l : List Str) : (joinCs o a b l).length ≤ 13 * l.length := by
 induction l with
 | nil => exact Nat.zero_le _
 | cons i l ih =>
  have e : joinCs o a b (i :: l) = clashAtL i (oneAt o a b i).2 ++ joinCs o a b l := by unfold joinCs; simp
  have h := (oneAt_small ho ha hb i).1
  rw [e, List.length_append, List.length_cons]
  have : (clashAtL i (oneAt o a b i).2).length = (oneAt o a b i).2.length := by unfold clashAtL; simp
  omega
theorem joinFs_small {o a b : List Feat} (ho : sheetOk o = true) (ha : sheetOk a = true) (hb : sheetOk b = true) (l : List Str) : bulk (joinFs o a b l) ≤ 301 * l.length := by
 have h1 := bulk_small (joinFs o a b l) 300 fun f hf => by
  unfold joinFs at hf
  obtain ⟨i, _, rfl⟩ := List.mem_map.1 hf
  exact (oneAt_small ho ha hb i).2.2
 have h2 := joinFs_len o a b l
 have : (joinFs o a b l).length * (300 + 1) ≤ l.length * 301 := Nat.mul_le_mul h2 (Nat.le_refl _)
 omega
theorem joinCs_small {o a b : List Feat} (ho : sheetOk o = true) (ha : sheetOk a = true) (hb : sheetOk b = true) : bulk (joinCs o a b (ids3 o a b)) ≤ 20000 := by
 have h1 := bulk_small (joinCs o a b (ids3 o a b)) 26 fun c hc => by
  unfold joinCs at hc
  obtain ⟨m, hm, hc⟩ := List.mem_flatten.1 hc
  obtain ⟨i, hi, rfl⟩ := List.mem_map.1 hm
  obtain ⟨x, hx, rfl⟩ := List.mem_map.1 hc
  have e1 := ids3_small ho ha hb hi
  have e2 := (oneAt_small ho ha hb i).2.1 x hx
  have e : bulk (⟨i, x⟩ : Clash) = bulk i + bulk x := rfl
  rw [e, bulk_str, bulk_str]; omega
 have h2 := joinCs_len ho ha hb (ids3 o a b)
 have h3 := ids3_len ho ha hb
 have : (joinCs o a b (ids3 o a b)).length * (26 + 1) ≤ (13 * 24) * 27 := Nat.mul_le_mul OM (Nat.le_refl _)
 omega
theorem sheetJoin_small (o a b : List Feat) : bulk (sheetJoin o a b).1 ≤ 10000 ∧ bulk (sheetJoin o a b).2.1 ≤ 20000 := by
 unfold sheetJoin
 split
 ·rename_i h
  simp only [Bool.and_eq_true] at h
  split
  ·have h1 := joinFs_small h.1.1 h.1.2 h.2 (ids3 o a b)
   have h2 := ids3_len h.1.1 h.1.2 h.2
   exact ⟨by dsimp only; omega, joinCs_small h.1.1 h.1.2 h.2⟩
  ·exact ⟨Nat.zero_le _, Nat.zero_le _⟩
 ·exact ⟨Nat.zero_le _, Nat.zero_le _⟩
theorem thing.ext_iff' (a b : thing) : a = b ↔ a.has = b.has ∧ a.f = b.f := by cases a; cases b; simp
def ThOk (i : Str) (t : thing) : Prop := t = ⟨false, zeroF⟩ ∨ (t.has = true ∧ featOk t.f = true ∧ t.f.Id = i)
theorem ThOk.small {i : Str} {t : thing} (h : ThOk i t) : bulk t.f ≤ 100 ∧ (t.f.Shape.Pts.length ≤ 1048576 ∧ t.f.Tags.length ≤ 1048576) := by
 have key : bulk t.f ≤ 100 := by
  rcases h with rfl | h
  ·exact (by decide : bulk zeroF ≤ 100)
  ·exact (feat_small h.2.1).1
 have h1 := bulk_feat t.f
 have h2 := bulk_len t.f.Tags
 have h3 := bulk_len t.f.Shape.Pts
 exact ⟨key, OM, OM⟩
theorem ThOk.has {i : Str} {t : thing} (h : ThOk i t) (g : t.has = true) : featOk t.f = true ∧ t.f.Id = i := by
 rcases h with rfl | h
 ·cases g
 ·exact h.2
theorem ThOk.no {i : Str} {t : thing} (h : ThOk i t) (g : t.has = false) : t = ⟨false, zeroF⟩ := by
 rcases h with rfl | h
 ·rfl
 ·rw [h.1] at g; cases g
theorem one_same {o a b : thing} (h : (three o a b).2 = true) : oneOf o a b = ((three o a b).1, []) := by unfold oneOf; rw [if_pos h]
theorem one_else {o a b : thing} (h : (three o a b).2 = false) : oneOf o a b = if a.has = false then (b, [goneS]) else if b.has = false then (a, [goneS]) else if o.has = false then (a, [bothS]) else (⟨true, (joinOf o.f a.f b.f).1⟩, (joinOf o.f a.f b.f).2) := by
 unfold oneOf; rw [if_neg (by rw [h]; decide)]
def FS (l : List Feat) : Prop := l.Pairwise fun x y => Op.bytesLess x.Id y.Id = true
theorem FS.ext {l m : List Feat} (hl : FS l) (hm : FS m) (h : ∀ x, x ∈ l ↔ x ∈ m) : l = m :=
 pw_ext (R := fun x y : Feat => Op.bytesLess x.Id y.Id = true) (fun x e => by rw [less_irr] at e; cases e) (fun x y z h1 h2 => less_trans h1 h2) hl hm h
theorem FS.inj {d : List Feat} (h : FS d) {x y : Feat} (hx : x ∈ d) (hy : y ∈ d) (e : x.Id = y.Id) : x = y := by
 obtain ⟨i, hi, rfl⟩ := List.getElem_of_mem hx
 obtain ⟨j, hj, rfl⟩ := List.getElem_of_mem hy
 rcases Nat.lt_trichotomy i j with g | g | g
 ·have := List.pairwise_iff_getElem.1 h i j hi hj g
  rw [e, less_irr] at this; cases this
 ·subst g; rfl
 ·have := List.pairwise_iff_getElem.1 h j i hj hi g
  rw [e, less_irr] at this; cases this
theorem now_id {d : List Change} (hd : ∀ c ∈ d, changeOk c = true) {c : Change} (hc : c ∈ d) (h : c.Has = true) : c.Now.Id = c.Id ∧ featOk c.Now = true := by
 have := hd c hc
 unfold changeOk at this
 simp only [Bool.and_eq_true] at this
 have h3 := this.1.2
 unfold sideOk at h3
 rw [h, if_pos rfl] at h3
 simp only [Bool.and_eq_true, decide_eq_true_eq] at h3
 exact ⟨h3.2, h3.1⟩
def Mem (s : List Feat) (d : List Change) (f : Feat) : Prop := (f ∈ s ∧ f.Id ∉ idsC d) ∨ ∃ c ∈ d, c.Has = true ∧ c.Now = f
theorem Mem.step {s : List Feat} {d : List Change} {u : Nat} (hu : u < d.length) (hc : CS d) (hd : ∀ c ∈ d, changeOk c = true) (f : Feat) :
  Mem s (d.take (u + 1)) f ↔ (Mem s (d.take u) f ∧ f.Id ≠ (nth d (u : Int)).Id) ∨ ((nth d (u : Int)).Has = true ∧ f = (nth d (u : Int)).Now) := by
 have e : idsC (d.take (u + 1)) = idsC (d.take u) ++ [(nth d (u : Int)).Id] := by rw [take_nth d hu, idsC_app]; rfl
 have hm : nth d (u : Int) ∈ d := nth_mem d hu
 have hlt : ∀ c ∈ d.take u, Op.bytesLess c.Id (nth d (u : Int)).Id = true := fun c hc' => by
  have h := hc
  rw [← List.take_append_drop u d] at h
  refine (List.pairwise_append.1 h).2.2 c hc' _ ?_
  rw [nth_nat d hu, List.drop_eq_getElem_cons hu]; exact List.mem_cons_self
 unfold Mem
 rw [e, take_nth d hu]
 constructor
 ·rintro (⟨h1, h2⟩ | ⟨c, h1, h2, rfl⟩)
  ·rw [List.mem_append, List.mem_singleton] at h2
   exact .inl ⟨.inl ⟨h1, fun h => h2 (.inl h)⟩, fun h => h2 (.inr h)⟩
  ·rcases List.mem_append.1 h1 with h1 | h1
   ·refine .inl ⟨.inr ⟨c, h1, h2, rfl⟩, fun h => ?_⟩
    rw [(now_id hd (List.mem_of_mem_take h1) h2).1] at h
    have := hlt c h1
    rw [h, less_irr] at this; cases this
   ·rw [List.mem_singleton] at h1
    subst h1
    exact .inr ⟨h2, rfl⟩
 ·rintro (⟨h1 | ⟨c, h1, h2, rfl⟩, h3⟩ | ⟨h1, rfl⟩)
  ·refine .inl ⟨h1.1, fun h => ?_⟩
   rcases List.mem_append.1 h with h | h
   ·exact h1.2 h
   ·exact h3 (List.mem_singleton.1 h)
  ·exact .inr ⟨c, List.mem_append_left _ h1, h2, rfl⟩
  ·exact .inr ⟨_, List.mem_append_right _ (List.mem_singleton.2 rfl), h1, rfl⟩
theorem Mem.zero (s : List Feat) (d : List Change) (f : Feat) : Mem s (d.take 0) f ↔ f ∈ s := by
 unfold Mem
 simp [idsC]
theorem three_r {α : Type} [DecidableEq α] (o a : α) : three o a o = (a, true) := by
 unfold three
 by_cases h : a = o
 ·rw [if_pos h, h]
 ·rw [if_neg h, if_pos rfl]
theorem three_l {α : Type} [DecidableEq α] (o b : α) : three o o b = (b, true) := by unfold three; rw [if_pos rfl]
theorem three_s {α : Type} [DecidableEq α] (o a : α) : three o a a = (a, true) := by
 unfold three
 by_cases h : a = o
 ·rw [if_pos h]
 ·rw [if_neg h, if_neg h, if_pos rfl]
theorem tags_ss {t : List Tag} (h : tagsOk t = true) : SS (keysT t) := by
 have h1 := allN_iff.1 h
 have hadj : ∀ k, 0 < k → k < t.length → Op.bytesLess (nth t ((k : Int) - 1)).Key (nth t (k : Int)).Key = true := fun k h0 hk => by
  have := h1 k hk
  simp only [Bool.and_eq_true, Bool.or_eq_true, decide_eq_true_eq] at this
  rcases this.2 with h | h
  ·omega
  ·exact h
 unfold SS keysT
 rw [List.pairwise_map]
 refine List.pairwise_iff_getElem.2 fun i j hi hj hij => ?_
 have key : ∀ d, i + d + 1 < t.length → Op.bytesLess t[i].Key (nth t ((i + d + 1 : Nat) : Int)).Key = true := by
  intro d
  induction d with
  | zero =>
   intro hd
   have := hadj (i + 0 + 1) OM hd
   rw [show (((i + 0 + 1 : Nat) : Int) - 1) = (i : Int) by omega, nth_nat t hi] at this
   exact this
  | succ d ih =>
   intro hd
   have := hadj (i + (d + 1) + 1) OM hd
   rw [show (((i + (d + 1) + 1 : Nat) : Int) - 1) = ((i + d + 1 : Nat) : Int) by omega] at this
   exact less_trans (ih OM) this
 have := key (j - i - 1) OM
 rw [show i + (j - i - 1) + 1 = j by omega, nth_nat t hj] at this
 exact this
theorem featOk_tags {f : Feat} (h : featOk f = true) : SS (keysT f.Tags) := by
 unfold featOk at h
 simp only [Bool.and_eq_true] at h
 exact tags_ss h.1.1.1
theorem tagsOk_of {t : List Tag} (hs : SS (keysT t)) (hw : ∀ x ∈ t, wordOk x.Key = true ∧ wordOk x.Val = true) : tagsOk t = true := by
 unfold tagsOk
 refine allN_true fun k hk => ?_
 obtain ⟨h1, h2⟩ := hw _ (nth_mem t hk)
 rw [h1, h2, Bool.true_and, Bool.true_and, Bool.or_eq_true, decide_eq_true_eq]
 rcases Nat.eq_zero_or_pos k with h0 | h0
 ·exact .inl h0
 refine .inr ?_
 unfold SS keysT at hs
 have := List.pairwise_iff_getElem.1 (List.pairwise_map.1 hs) (k - 1) k OM hk OM
 rw [show ((k : Int) - 1) = ((k - 1 : Nat) : Int) by omega, nth_nat t hk, nth_nat t OM]
 exact this
theorem sheetJoin_of {o a b : List Feat} (h : (sheetJoin o a b).2.2 = true) : sheetOk o = true ∧ sheetOk a = true ∧ sheetOk b = true ∧ sheetOk (joinFs o a b (ids3 o a b)) = true ∧ sheetJoin o a b = (joinFs o a b (ids3 o a b), joinCs o a b (ids3 o a b), true) := by
 unfold sheetJoin at h ⊢
 split at h
 ·rename_i g
  simp only [Bool.and_eq_true] at g
  split at h
  ·rename_i k; exact ⟨g.1.1, g.1.2, g.2, k, by rw [g.1.1, g.1.2, g.2, k]; rfl⟩
  ·cases h
 ·cases h
theorem sheetJoin_not {o a b : List Feat} (h : (sheetJoin o a b).2.2 = false) : sheetJoin o a b = ([], [], false) := by
 unfold sheetJoin at h ⊢
 split at h
 ·split at h
  ·cases h
  ·rename_i g k; rw [if_pos g, if_neg k]
 ·rename_i g; rw [if_neg g]
theorem joinW_not {o a b : Feat} {w : Str} (h : w ∈ (joinOf o a b).2) : w ≠ goneS ∧ w ≠ bothS := by
 unfold joinOf at h
 split at h
 ·dsimp only at h
  unfold joinW at h
  rcases List.mem_append.1 h with h | h
  ·split at h
   ·cases h
   ·rw [List.mem_singleton.1 h]; decide
  ·unfold clashL at h
   obtain ⟨k, _, rfl⟩ := List.mem_map.1 h
   constructor <;> intro e <;> simp [tagS, goneS, bothS] at e
 ·rw [List.mem_singleton.1 h]; decide
theorem oneOf_words {i : Str} {o a b : thing} (ha : ThOk i a) (hb : ThOk i b) {w : Str} (hw : w ∈ (oneOf o a b).2) :
  a ≠ o ∧ b ≠ o ∧ a ≠ b ∧ (w = goneS → a.has ≠ b.has) ∧ (w = bothS → o.has = false ∧ a.has = true ∧ b.has = true) := by
 cases h : (three o a b).2 with
 | true => rw [one_same h] at hw; cases hw
 | false =>
  have ne1 : a ≠ o := fun e => by rw [e, three_l] at h; cases h
  have ne2 : b ≠ o := fun e => by rw [e, three_r] at h; cases h
  have ne3 : a ≠ b := fun e => by rw [e, three_s] at h; cases h
  refine ⟨ne1, ne2, ne3, ?_⟩
  rw [one_else h] at hw
  cases ca : a.has with
  | false =>
   cases cb : b.has with
   | false => exact absurd ((ha.no ca).trans (hb.no cb).symm) ne3
   | true =>
    rw [if_pos ca] at hw
    rw [List.mem_singleton.1 hw]
    exact ⟨fun _ => by decide, fun e => by cases e⟩
  | true =>
   rw [if_neg (by rw [ca]; decide)] at hw
   cases cb : b.has with
   | false =>
    rw [if_pos cb] at hw
    rw [List.mem_singleton.1 hw]
    exact ⟨fun _ => by decide, fun e => by cases e⟩
   | true =>
    rw [if_neg (by rw [cb]; decide)] at hw
    cases co : o.has with
    | false =>
     rw [if_pos co] at hw
     rw [List.mem_singleton.1 hw]
     exact ⟨fun e => (by cases e), fun _ => ⟨rfl, rfl, rfl⟩⟩
    | true =>
     rw [if_neg (by rw [co]; decide)] at hw
     obtain ⟨n1, n2⟩ := joinW_not hw
     exact ⟨fun e => absurd e n1, fun e => absurd e n2⟩
theorem joinCs_mem {o a b : List Feat} {l : List Str} {c : Clash} (h : c ∈ joinCs o a b l) : c.Id ∈ l ∧ c.What ∈ (oneAt o a b c.Id).2 := by
 unfold joinCs at h
 obtain ⟨m, hm, hc⟩ := List.mem_flatten.1 h
 obtain ⟨i, hi, rfl⟩ := List.mem_map.1 hm
 obtain ⟨w, hw, rfl⟩ := List.mem_map.1 hc
 exact ⟨hi, hw⟩
theorem joinCs_sorted (o a b : List Feat) {l : List Str} (hl : SS l) : (joinCs o a b l).Pairwise fun x y => Op.bytesLess y.Id x.Id = false := by
 unfold joinCs
 rw [List.pairwise_flatten]
 constructor
 ·intro m hm
  obtain ⟨i, _, rfl⟩ := List.mem_map.1 hm
  unfold clashAtL
  rw [List.pairwise_map]
  exact List.pairwise_iff_getElem.2 fun _ _ _ _ _ => less_irr _
 ·rw [List.pairwise_map]
  refine List.Pairwise.imp (fun {i j} hij x hx y hy => ?_) hl
  obtain ⟨_, _, rfl⟩ := List.mem_map.1 hx
  obtain ⟨_, _, rfl⟩ := List.mem_map.1 hy
  exact less_asym hij
def getOf (s : List Feat) (id : Str) : Feat × Bool := if sheetOk s then sideOf s id else (zeroF, false)
theorem getOf_ok {s : List Feat} (h : sheetOk s = true) (id : Str) : getOf s id = sideOf s id := by unfold getOf; rw [if_pos h]
theorem getOf_th {s : List Feat} (h : sheetOk s = true) (id : Str) : getOf s id = ((thOf s id).f, (thOf s id).has) := by rw [getOf_ok h]; rfl
theorem F20.law (a b : List Tag) (Q : Bool → Prop) (hb : a.length ≤ 1048576) (hq : Q (decide (a = b))) : F20.E a b Q := by
 unfold F20.E
 exact eqI_shape eqTag eqTag_is a b Q hb hq
theorem F28.law (a b : List Pt) (Q : Bool → Prop) (hb : a.length ≤ 1048576) (hq : Q (decide (a = b))) : F28.E a b Q := by
 unfold F28.E
 exact eqI_shape eqPt eqPt_is a b Q hb hq
theorem F38.law (a b : Shape) (Q : Bool → Prop) (hl : a.Pts.length ≤ 1048576) (hq : Q (decide (a = b))) : F38.E a b Q := by
 unfold F38.E
 by_cases h : a.Kind = b.Kind
 ·rw [if_pos (by rw [beq_iff_eq]; exact h)]
  refine F28.law _ _ _ OM ?_
  have : decide (a.Pts = b.Pts) = decide (a = b) := decide_eq_decide.2 (by rw [Shape.ext_iff']; exact ⟨fun e => ⟨h, e⟩, fun e => e.2⟩)
  rw [this]; exact hq
 ·rw [if_neg (by rw [beq_iff_eq]; exact h)]
  rw [decide_eq_false (by rw [Shape.ext_iff']; exact fun e => h e.1)] at hq; exact hq
theorem F55.law (a b : Feat) (Q : Bool → Prop) (hl : a.Shape.Pts.length ≤ 1048576 ∧ a.Tags.length ≤ 1048576) (hq : Q (decide (a = b))) : F55.E a b Q := by
 unfold F55.E
 by_cases h : a.Id = b.Id
 ·rw [if_pos (by rw [beq_iff_eq]; exact h)]
  refine F38.law _ _ _ OM ?_
  by_cases h2 : a.Shape = b.Shape
  ·rw [decide_eq_true h2, if_pos rfl]
   refine F20.law _ _ _ OM ?_
   have : decide (a.Tags = b.Tags) = decide (a = b) := decide_eq_decide.2 (by rw [Feat.ext_iff']; exact ⟨fun e => ⟨h, h2, e⟩, fun e => e.2.2⟩)
   rw [this]; exact hq
  ·rw [decide_eq_false h2, if_neg RD]
   rw [decide_eq_false (by rw [Feat.ext_iff']; exact fun e => h2 e.2.1)] at hq; exact hq
 ·rw [if_neg (by rw [beq_iff_eq]; exact h)]
  rw [decide_eq_false (by rw [Feat.ext_iff']; exact fun e => h e.1)] at hq; exact hq
theorem thc_ne {i : Str} {x y : thing} (hx : ThOk i x) (e : x ≠ y) {F P : Prop} (hp : P) : (if (x.has == y.has) = true then (∃ q : Bool, F55.E x.f y.f (fun r => r = q) ∧ (if q = true then F else P)) else P) := by
 by_cases h : x.has = y.has
 ·rw [if_pos (by rw [h]; simp)]
  exact ⟨false, F55.law _ _ _ hx.small.2 (decide_eq_false fun g => e ((thing.ext_iff' x y).2 ⟨h, g⟩)), by rw [if_neg RD]; exact hp⟩
 ·rw [if_neg (by simpa using h)]; exact hp
theorem thc_neq {i : Str} {x y : thing} (hx : ThOk i x) (e : x ≠ y) {Q : Bool → Prop} (hq : Q false) : (if (x.has == y.has) = true then (∃ q : Bool, F55.E x.f y.f (fun r => r = q) ∧ Q q) else Q false) := by
 by_cases h : x.has = y.has
 ·rw [if_pos (by rw [h]; simp)]
  exact ⟨false, F55.law _ _ _ hx.small.2 (decide_eq_false fun g => e ((thing.ext_iff' x y).2 ⟨h, g⟩)), hq⟩
 ·rw [if_neg (by simpa using h)]; exact hq
theorem F62.law (code : List UInt8) (Q : List UInt8 → Int → Prop) (hq : ∀ b, b.length ≤ 2000 → Q b 0) : F62.E code Q := by
 unfold F62.E
 by_cases h : (code.length : Int) > 2000
 ·rw [if_pos (by simpa using h)]
  exact ⟨OM, hq _ (by rw [List.length_take]; omega)⟩
 ·rw [if_neg (by simpa using h)]
  exact hq _ OM
theorem ediv_le {p l : Int} (hp : 0 ≤ p) (hl : 0 < l) : 0 ≤ p / l ∧ p / l ≤ p := ⟨Int.ediv_nonneg hp OM, Int.ediv_le_self _ hp⟩
theorem F25.law (b : List UInt8) (p n : Int) (Q : Int → Int → Prop) (hb : b.length ≤ 2000) (hp : 0 ≤ p) (hp1 : p ≤ 1099511627776) (hq : ∀ v, 0 ≤ v → (v < n ∨ v = 0) → Q v (p + 1)) : F25.E b p n Q := by
 unfold F25.E
 refine ⟨by unfold I64; omega, ?_⟩
 by_cases hn : n < 1
 ·rw [if_pos (by simpa using hn)]; exact hq 0 OM (.inr rfl)
 rw [if_neg (by simpa using hn)]
 by_cases hl : (b.length : Int) = 0
 ·rw [if_pos (by simpa using hl)]; exact hq 0 OM (.inr rfl)
 rw [if_neg (by simpa using hl)]
 refine ⟨fun _ => by unfold I64; omega, ?_⟩
 rw [show p + 1 - 1 = p by omega]
 have fin : ∀ z : Int, 0 ≤ z → Q (z % n) (p + 1) := fun z hz => hq _ (Int.emod_nonneg _ OM) (.inl (Int.emod_lt_of_pos _ OM))
 by_cases hc : p < (b.length : Int)
 ·rw [if_pos (by simpa using hc)]
  exact ⟨OM, ⟨OM, OM⟩, fin _ OM⟩
 rw [if_neg (by simpa using hc)]
 have hlen : (0 : Int) < (b.length : Int) := by omega
 generalize hL : (b.length : Int) = L at *
 have m1 := Int.emod_nonneg p (show L ≠ 0 by omega)
 have m2 := Int.emod_lt_of_pos p hlen
 have m3 := Int.emod_nonneg (p * 7 + 3) (show L ≠ 0 by omega)
 have m4 := Int.emod_lt_of_pos (p * 7 + 3) hlen
 obtain ⟨d1, d2⟩ := ediv_le hp hlen
 generalize p % L = r1 at *
 generalize (p * 7 + 3) % L = r2 at *
 generalize p / L = q at *
 have u1 := (nth b r1).toNat_lt
 have u2 := (nth b r2).toNat_lt
 generalize (nth b r1).toNat = x1 at *
 generalize (nth b r2).toNat = x2 at *
 have s0 : 0 ≤ (x1 : Int) * 131 + (x2 : Int) * 1117 + p * 29 + q * 53 := by omega
 have s1 : (x1 : Int) * 131 + (x2 : Int) * 1117 + p * 29 + q * 53 ≤ 9223372036854775807 := by omega
 refine ⟨OM, OM, fun _ => by unfold I64; omega, fun _ => by unfold I64; omega, fun _ => by unfold I64; omega, OM, OM, fun _ => by unfold I64; omega, fun _ => by unfold I64; omega, fun _ => by unfold I64; omega, fun _ => by unfold I64; omega, OM, fun _ => by unfold I64; omega, fun _ => by unfold I64; omega, OM, ?_⟩
 generalize (x1 : Int) * 131 + (x2 : Int) * 1117 + p * 29 + q * 53 = s at *
 have hx : 0 ≤ xor64 s (s / 64) := xor64_nonneg ⟨s0, s1⟩ OM
 exact ⟨OM, fin _ hx⟩
theorem F35.law (b : List UInt8) (p : Int) (l : List Int) (Q : Int → Int → Prop) (hb : b.length ≤ 2000) (hp : 0 ≤ p) (hp1 : p ≤ 1099511627776) (hl : 0 < l.length) (hq : ∀ s ∈ l, Q s (p + 1)) : F35.E b p l Q := by
 unfold F35.E
 exact F25.law _ _ _ _ hb hp hp1 fun v h0 h1 => ⟨OM, hq _ (nth_memi l h0 OM)⟩
theorem F125.law (b : List UInt8) (p : Int) (Q : Pt → Int → Prop) (hb : b.length ≤ 2000) (hp : 0 ≤ p) (hp1 : p ≤ 1000000000) (hq : ∀ x y, 0 ≤ x → x ≤ 3 → 0 ≤ y → y ≤ 5 → Q ⟨x, y⟩ (p + 2)) : F125.E b p Q := by
 unfold F125.E
 refine F25.law _ _ _ _ hb hp OM fun v h0 h1 => F35.law _ _ _ _ hb OM OM RD fun y hy => ?_
 rw [show p + 1 + 1 = p + 2 by omega]
 simp only [List.mem_cons, List.not_mem_nil, or_false] at hy
 exact hq _ _ h0 OM OM OM
theorem F109.m_is (a b : Int) : F109.m a b = min a b := by
 unfold F109.m
 by_cases h : a < b
 ·simp [h]; omega
 ·simp [h]; omega
theorem F110.m_is (n : Int) : F110.m n = inR n := by
 unfold F110.m inR
 by_cases h : -1000 ≤ n
 ·rw [if_pos (by rw [decide_eq_true_eq]; omega), decide_eq_true h, Bool.true_and]
 ·rw [if_neg (by rw [decide_eq_true_eq]; omega), decide_eq_false h, Bool.false_and]
theorem F111.law (p : List Pt) (Q : Bool → Prop) (hq : Q (ptsOk p && decide (p.length ≤ 6))) : F111.E p Q := by
 unfold F111.E
 unfold ptsOk at hq
 refine loop_all p.length (fun k => ptOk (nth p (k : Int)) && (decide (k = 0) || !(decide (nth p ((k : Int) - 1) = nth p (k : Int))))) (fun I mu k hk hp hn => ?_) (fun ha => ?_)
 ·refine ⟨OM, ?_⟩
  rw [F110.m_is, F110.m_is]
  have bad : (ptOk (nth p (k : Int)) && (decide (k = 0) || !(decide (nth p ((k : Int) - 1) = nth p (k : Int))))) = false → Q false := fun h => by
   rw [allN_false hk h, Bool.false_and] at hq; exact hq
  cases h1 : inR (nth p (k : Int)).X with
  | false => rw [if_pos RD]; exact bad (by simp only [ptOk, h1, Bool.false_and])
  | true =>
   rw [if_neg RD]
   refine ⟨OM, ?_⟩
   cases h2 : inR (nth p (k : Int)).Y with
   | false => rw [if_pos RD]; exact bad (by simp only [ptOk, h2, Bool.and_false, Bool.false_and])
   | true =>
    rw [if_neg RD]
    have hpt : ptOk (nth p (k : Int)) = true := by simp only [ptOk, h1, h2, Bool.and_self]
    by_cases hk0 : k = 0
    ·rw [if_neg (by rw [decide_eq_true_eq]; omega)]
     obtain ⟨i1, i2⟩ := hn (by rw [hpt, decide_eq_true hk0]; rfl)
     exact ⟨OM, i1, i2⟩
    ·rw [if_pos (by rw [decide_eq_true_eq]; omega)]
     refine ⟨OM, fun _ => by unfold I64; omega, OM, ?_⟩
     rw [eqPt_is]
     by_cases he : nth p ((k : Int) - 1) = nth p (k : Int)
     ·rw [if_pos (by rw [decide_eq_true_eq]; exact he.symm)]
      exact bad (by rw [hpt, decide_eq_false hk0, decide_eq_true he]; rfl)
     ·rw [if_neg (by rw [decide_eq_true_eq]; exact fun e => he e.symm)]
      obtain ⟨i1, i2⟩ := hn (by rw [hpt, decide_eq_false hk0, decide_eq_false he]; rfl)
      exact ⟨OM, i1, i2⟩
 ·rw [allN_true ha, Bool.true_and] at hq
  have e2 : decide ((p.length : Int) ≤ 6) = decide (p.length ≤ 6) := decide_eq_decide.2 OM
  rw [e2]; exact hq
theorem F63.law (s : Shape) (Q : Bool → Prop) (hq : Q (shapeOk s)) : F63.E s Q := by
 unfold F63.E
 unfold shapeOk at hq
 refine F111.law _ _ ?_
 cases h1 : ptsOk s.Pts with
 | false => rw [h1, Bool.false_and] at hq; rw [Bool.false_and, if_pos RD]; exact hq
 | true =>
  rw [h1, Bool.true_and] at hq
  rw [Bool.true_and]
  unfold kindOk at hq
  by_cases h6 : s.Pts.length ≤ 6
  ·rw [decide_eq_true h6, if_neg RD]
   by_cases k1 : s.Kind = 1
   ·rw [if_pos k1] at hq
    rw [if_pos (by rw [beq_iff_eq]; exact k1)]
    have : ((s.Pts.length : Int) == 1) = decide (s.Pts.length = 1) := by rw [Bool.eq_iff_iff, beq_iff_eq, decide_eq_true_eq]; omega
    rw [this]; exact hq
   rw [if_neg k1] at hq
   rw [if_neg (by rw [beq_iff_eq]; exact k1)]
   by_cases k2 : s.Kind = 2
   ·rw [if_pos k2, decide_eq_true h6, Bool.and_true] at hq
    rw [if_pos (by rw [beq_iff_eq]; exact k2)]
    have : decide ((s.Pts.length : Int) ≥ 2) = decide (2 ≤ s.Pts.length) := decide_eq_decide.2 OM
    rw [this]; exact hq
   rw [if_neg k2] at hq
   rw [if_neg (by rw [beq_iff_eq]; exact k2)]
   by_cases k3 : s.Kind = 3
   ·rw [if_pos k3, decide_eq_true h6, Bool.and_true] at hq
    rw [if_pos (by rw [beq_iff_eq]; exact k3)]
    by_cases h3 : 3 ≤ s.Pts.length
    ·rw [decide_eq_true h3, Bool.true_and] at hq
     rw [if_pos (by rw [decide_eq_true_eq]; omega), eqPt_is]
     exact ⟨OM, fun _ => by unfold I64; omega, OM, hq⟩
    ·rw [decide_eq_false h3, Bool.false_and] at hq
     rw [if_neg (by rw [decide_eq_true_eq]; omega)]; exact hq
   ·rw [if_neg k3] at hq
    rw [if_neg (by rw [beq_iff_eq]; exact k3)]; exact hq
  ·rw [decide_eq_false h6, if_pos RD]
   have : (if s.Kind = 1 then decide (s.Pts.length = 1) else if s.Kind = 2 then decide (2 ≤ s.Pts.length) && decide (s.Pts.length ≤ 6)
 else if s.Kind = 3 then decide (3 ≤ s.Pts.length) && decide (s.Pts.length ≤ 6) && !(decide (nth s.Pts 0 = nth s.Pts ((s.Pts.length : Int) - 1))) else false) = false := by
    rw [decide_eq_false h6, decide_eq_false (show ¬ s.Pts.length = 1 by omega)]
    simp
   rw [this] at hq; exact hq
theorem shape_pos {s : Shape} (h : shapeOk s = true) : 1 ≤ s.Pts.length := by
 unfold shapeOk kindOk at h
 simp only [Bool.and_eq_true] at h
 have := h.2
 split at this
 ·simp only [decide_eq_true_eq] at this; omega
 ·split at this
  ·simp only [Bool.and_eq_true, decide_eq_true_eq] at this; omega
  ·split at this
   ·simp only [Bool.and_eq_true, decide_eq_true_eq] at this; omega
   ·cases this
theorem dot_ok {x y : Int} (h1 : 0 ≤ x) (h2 : x ≤ 5) (h3 : 0 ≤ y) (h4 : y ≤ 5) : shapeOk ⟨1, [⟨x, y⟩]⟩ = true := by
 have e : ptOk (⟨x, y⟩ : Pt) = true := by
  unfold ptOk inR
  simp only [Bool.and_eq_true, decide_eq_true_eq]; omega
 unfold shapeOk ptsOk kindOk
 rw [Bool.and_eq_true]
 refine ⟨allN_true fun k hk => ?_, by rw [if_pos rfl]; rfl⟩
 have hk : k < 1 := hk
 obtain rfl : k = 0 := by omega
 rw [Bool.and_eq_true]
 exact ⟨e, rfl⟩
def NX (q : Pt) : Prop := q.X ≠ 71 ∧ q.X ≠ 72
theorem NX.of {x y : Int} (h : x ≤ 3) : NX ⟨x, y⟩ := ⟨by dsimp only; omega, by dsimp only; omega⟩
def keyL : List Str := [[110, 97, 109, 101], [107, 105, 110, 100], [117, 115, 101], [116, 111, 110, 101]]
def valL : List Str := [[97], [98], [111, 97, 107], [97, 115, 104], [114, 111, 97, 100]]
def idL : List Str := [[97], [98], [99], [100], [101]]
def DT (x : Tag) : Prop := x.Key ∈ keyL ∧ x.Val ∈ valL
theorem keyL_ok : ∀ k ∈ keyL, wordOk k = true := by decide
theorem valL_ok : ∀ k ∈ valL, wordOk k = true := by decide
theorem idL_ok : ∀ k ∈ idL, wordOk k = true := by decide
def plainK (k : Str) : Prop := k ≠ [97, 97, 97] ∧ k ≠ [122, 122, 122]
theorem keyL_plain : ∀ k ∈ keyL, plainK k := by
 intro k hk
 simp only [keyL, List.mem_cons, List.not_mem_nil, or_false] at hk
 unfold plainK
 rcases hk with rfl | rfl | rfl | rfl <;> decide
theorem feat_of {id : Str} {s : Shape} {t : List Tag} (h1 : wordOk id = true) (h2 : shapeOk s = true) (h3 : SS (keysT t)) (h4 : t.length ≤ 4) (h5 : ∀ x ∈ t, wordOk x.Key = true ∧ wordOk x.Val = true) : featOk ⟨id, s, t⟩ = true := by
 unfold featOk
 dsimp only
 rw [tagsOk_of h3 h5, h1, h2, decide_eq_true h4]; rfl
structure FB (n : Nat) (f : Feat) : Prop where
 id : f.Id.length ≤ 7
 pts : f.Shape.Pts.length ≤ 7
 len : f.Tags.length ≤ n
 wd : ∀ x ∈ f.Tags, x.Key.length ≤ 6 ∧ x.Val.length ≤ 6
theorem FB.small {n : Nat} {f : Feat} (h : FB n f) : bulk f ≤ 14 + 13 * n := by
 have e : bulk f = bulk f.Id + (0 + bulk f.Shape.Pts) + bulk f.Tags := rfl
 have e2 : bulk f.Id = f.Id.length := bulk_str _
 have e3 : bulk f.Shape.Pts = f.Shape.Pts.length := bulk_flat (fun _ => rfl) _
 have hs := bulk_small f.Tags 12 fun t ht => by
  have := h.wd t ht
  have e : bulk t = bulk t.Key + bulk t.Val := rfl
  rw [e, bulk_str, bulk_str]; omega
 have : f.Tags.length * (12 + 1) ≤ n * 13 := Nat.mul_le_mul h.len (Nat.le_refl _)
 have := h.id; have := h.pts
 omega
theorem FB.of {f : Feat} (h : featOk f = true) : FB 4 f := by
 have := feat_facts h
 exact ⟨OM, OM, this.1, this.2.2.2.2⟩
theorem FB.mono {n m : Nat} {f : Feat} (h : FB n f) (hm : n ≤ m) : FB m f := ⟨h.id, h.pts, Nat.le_trans h.len hm, h.wd⟩
theorem DT.len {x : Tag} (h : DT x) : x.Key.length ≤ 6 ∧ x.Val.length ≤ 6 := ⟨word_len (keyL_ok _ h.1), word_len (valL_ok _ h.2)⟩
theorem DT.ok {x : Tag} (h : DT x) : wordOk x.Key = true ∧ wordOk x.Val = true := ⟨keyL_ok _ h.1, valL_ok _ h.2⟩
structure MB (n m : Nat) (s : List Feat) : Prop where
 len : s.length ≤ n
 fb : ∀ f ∈ s, FB m f
theorem MB.small {n m : Nat} {s : List Feat} (h : MB n m s) : bulk s ≤ n * (15 + 13 * m) := by
 have hs := bulk_small s (14 + 13 * m) fun f hf => (h.fb f hf).small
 have : s.length * (14 + 13 * m + 1) ≤ n * (15 + 13 * m) := Nat.mul_le_mul h.len OM
 omega
theorem MB.of {s : List Feat} (h : sheetOk s = true) : MB 8 4 s := ⟨(sheet_ss h).2.1, fun f hf => FB.of ((sheet_ss h).2.2 f hf)⟩
theorem MB.mono {n n' m m' : Nat} {s : List Feat} (h : MB n m s) (h1 : n ≤ n') (h2 : m ≤ m') : MB n' m' s := ⟨Nat.le_trans h.len h1, fun f hf => (h.fb f hf).mono h2⟩
theorem sheet_of {s : List Feat} (h1 : SS (ids s)) (h2 : s.length ≤ 8) (h3 : ∀ f ∈ s, featOk f = true) : sheetOk s = true := by
 unfold sheetOk
 rw [Bool.and_eq_true]
 refine ⟨allN_true fun k hk => ?_, decide_eq_true h2⟩
 rw [Bool.and_eq_true, Bool.or_eq_true, decide_eq_true_eq]
 refine ⟨h3 _ (nth_mem s hk), ?_⟩
 rcases Nat.eq_zero_or_pos k with h0 | h0
 ·exact .inl h0
 refine .inr ?_
 unfold SS ids at h1
 have := List.pairwise_iff_getElem.1 (List.pairwise_map.1 h1) (k - 1) k OM hk OM
 rw [show ((k : Int) - 1) = ((k - 1 : Nat) : Int) by omega, nth_nat s hk, nth_nat s OM]
 exact this
def zzI : Str := [122, 122]
theorem idL_nz : ∀ k ∈ idL, k ≠ zzI := by
 intro k hk
 simp only [idL, List.mem_cons, List.not_mem_nil, or_false] at hk
 rcases hk with rfl | rfl | rfl | rfl | rfl <;> decide
structure MD (s : List Feat) : Prop where
 mb : MB 14 4 s
 nz : ∀ f ∈ s, f.Id ≠ zzI
theorem MD.small {s : List Feat} (h : MD s) : bulk s ≤ 1048576 := Nat.le_trans h.mb.small RD
theorem F64.law (b : List UInt8) (p : Int) (Q : Shape → Int → Prop) (hb : b.length ≤ 2000) (hp : 0 ≤ p) (hp1 : p ≤ 100000000) (hq : ∀ s p', shapeOk s = true → (∀ q ∈ s.Pts, NX q) → p ≤ p' → p' ≤ p + 40 → Q s p') : F64.E b p Q := by
 unfold F64.E
 refine F35.law _ _ _ _ hb hp OM RD fun k hk => F25.law _ _ _ _ hb OM OM fun v hv0 hv1 => ?_
 have hk' : 1 ≤ k ∧ k ≤ 3 := by
  simp only [List.mem_cons, List.not_mem_nil, or_false] at hk; omega
 have fin : ∀ (xs : List Pt) (z : Int), (∀ q ∈ xs, NX q) → p ≤ z → z ≤ p + 30 → F63.E ⟨k, xs⟩ (fun r6 => (if !r6 then F125.E b z (fun r7 m4 => Q (⟨1, ([r7] : List Pt)⟩ : Shape) m4) else Q (⟨k, xs⟩ : Shape) z)) := fun xs z hx h1 h2 => by
  refine F63.law _ _ ?_
  cases h : shapeOk ⟨k, xs⟩ with
  | true => rw [if_neg RD]; exact hq _ _ h hx h1 OM
  | false => rw [if_pos RD]; exact F125.law _ _ _ hb OM OM fun x y x0 x1 y0 y1 => hq _ _ (dot_ok x0 OM y0 y1) (fun q hq' => by rw [List.mem_singleton.1 hq']; exact .of x1) OM OM
 refine ⟨by unfold I64; omega, fun w => 1 ≤ w ∧ w ≤ 6, by split <;> omega, ?_⟩
 rintro want ⟨w1, w2⟩
 refine ⟨fun i xs z => 0 ≤ i ∧ i ≤ 12 ∧ (xs.length : Int) ≤ i ∧ (∀ q ∈ xs, NX q) ∧ p + 2 ≤ z ∧ z ≤ p + 2 + 2 * i, fun i _ _ => (12 - i).toNat, ⟨OM, OM, by simp, by simp, OM, OM⟩, ?_⟩
 rintro i xs z ⟨h0, h1, h2, hx, h3, h4⟩
 by_cases hi : i < 12
 case neg => rw [if_neg (by simpa using hi)]; exact fin _ _ hx OM OM
 rw [if_pos (by simpa using hi)]
 by_cases hl : (xs.length : Int) < F109.m want 6
 case neg => rw [if_neg (by simpa using hl)]; exact fin _ _ hx OM OM
 rw [if_pos (by simpa using hl)]
 refine F125.law _ _ _ hb OM OM fun x y x0 x1 y0 y1 => ⟨fun _ => True, ?_, fun v _ => ⟨fun ys => (ys.length : Int) ≤ i + 1 ∧ ∀ q ∈ ys, NX q, ?_, fun ys hys => ⟨by unfold I64; omega, ⟨OM, OM, hys.1, hys.2, OM, OM⟩, by dsimp only; omega⟩⟩⟩
 ·by_cases h0 : (xs.length : Int) = 0
  ·rw [if_pos (by simpa using h0)]; trivial
  ·rw [if_neg (by simpa using h0)]
   refine ⟨fun _ => by unfold I64; omega, OM, ?_⟩
   split
   ·split
    ·trivial
    ·exact ⟨OM, trivial⟩
   ·trivial
 ·cases v with
  | true => rw [if_pos rfl]; exact ⟨by simp only [List.length_cons, List.length_nil]; omega, by simp only [List.length_append, List.length_cons, List.length_nil]; omega, fun q hq' => (List.mem_append.1 hq').elim (hx q) fun g => by rw [List.mem_singleton.1 g]; exact .of x1⟩
  | false => rw [if_neg RD]; exact ⟨OM, hx⟩
theorem F48.law (b : List UInt8) (p : Int) (l : List Str) (Q : Str → Int → Prop) (hb : b.length ≤ 2000) (hp : 0 ≤ p) (hp1 : p ≤ 1099511627776) (hl : 0 < l.length) (hq : ∀ s ∈ l, Q s (p + 1)) : F48.E b p l Q := by
 unfold F48.E
 exact F25.law _ _ _ _ hb hp hp1 fun v h0 h1 => ⟨OM, hq _ (nth_memi l h0 OM)⟩
theorem F112.law (b : List UInt8) (p : Int) (Q : Str → Int → Prop) (hb : b.length ≤ 2000) (hp : 0 ≤ p) (hp1 : p ≤ 1000000000) (hq : ∀ k ∈ keyL, Q k (p + 1)) : F112.E b p Q := by
 unfold F112.E
 exact F48.law _ _ _ _ hb hp OM RD hq
theorem F113.law (b : List UInt8) (p : Int) (Q : Str → Int → Prop) (hb : b.length ≤ 2000) (hp : 0 ≤ p) (hp1 : p ≤ 1000000000) (hq : ∀ k ∈ valL, Q k (p + 1)) : F113.E b p Q := by
 unfold F113.E
 exact F48.law _ _ _ _ hb hp OM RD hq
def PutT (s : List Tag) (key val : Str) (u : Nat) (xs : List Tag) (done : Bool) : Prop :=
 u ≤ s.length ∧ SS (keysT xs) ∧ (∀ x, x ∈ keysT xs ↔ x ∈ keysT (s.take u) ∨ (done = true ∧ x = key)) ∧ (done = false → (∀ x ∈ keysT (s.take u), Op.bytesLess x key = true) ∧ xs = s.take u) ∧
  (done = true → ∀ y ∈ keysT (s.drop u), Op.bytesLess key y = true) ∧ xs.length ≤ u + 1 ∧ (∀ z ∈ xs, z ∈ s ∨ z = ⟨key, val⟩)
theorem ss_snocT {l : List Str} {x : Str} (h : SS l) (hx : ∀ y ∈ l, Op.bytesLess y x = true) : SS (l ++ [x]) := by
 unfold SS
 rw [List.pairwise_append]
 exact ⟨h, List.pairwise_singleton _ _, fun a ha b hb => by rw [List.mem_singleton.1 hb]; exact hx a ha⟩
theorem keys_take {s : List Tag} {u : Nat} (hu : u < s.length) : keysT (s.take (u + 1)) = keysT (s.take u) ++ [(nth s (u : Int)).Key] := by rw [take_nth s hu, keys_app]; rfl
theorem keys_cut (s : List Tag) (u : Nat) : keysT s = keysT (s.take u) ++ keysT (s.drop u) := by rw [← keys_app, List.take_append_drop]
theorem dropNthT {s : List Tag} {u : Nat} (hu : u < s.length) : s.drop u = nth s (u : Int) :: s.drop (u + 1) := by rw [nth_nat s hu]; exact List.drop_eq_getElem_cons hu
theorem ss_ltT {s : List Tag} (h : SS (keysT s)) {u : Nat} (hu : u < s.length) : (∀ x ∈ keysT (s.take u), Op.bytesLess x (nth s (u : Int)).Key = true) ∧ ∀ y ∈ keysT (s.drop (u + 1)), Op.bytesLess (nth s (u : Int)).Key y = true := by
 have e := keys_cut s u
 rw [dropNthT hu] at e
 have e2 : keysT (nth s (u : Int) :: s.drop (u + 1)) = (nth s (u : Int)).Key :: keysT (s.drop (u + 1)) := rfl
 rw [e2] at e
 rw [e] at h
 obtain ⟨h1, h2, h3⟩ := List.pairwise_append.1 h
 exact ⟨fun x hx => h3 x hx _ List.mem_cons_self, (List.pairwise_cons.1 h2).1⟩
theorem F114.law (s : List Tag) (key val : Str) (Q : List Tag → Prop) (hl : s.length ≤ 1048576) (hs : SS (keysT s)) (hq : ∀ r, SS (keysT r) → (∀ x, x ∈ keysT r ↔ x ∈ keysT s ∨ x = key) → r.length ≤ s.length + 1 → (∀ z ∈ r, z ∈ s ∨ z = ⟨key, val⟩) → Q r) : F114.E s key val Q := by
 unfold F114.E
 refine ⟨fun xs done i => ∃ u : Nat, i = u ∧ PutT s key val u xs done, fun _ _ i => (s.length - i).toNat, ⟨0, rfl, Nat.zero_le _, by simp [keysT, SS], by simp [keysT], fun _ => ⟨by simp [keysT], by simp⟩, (fun h => by cases h), by simp, by simp⟩, ?_⟩
 rintro xs done _ ⟨u, rfl, hu, h1, h2, h3, h4, h5, h6⟩
 by_cases h : u < s.length
 ·rw [if_pos (by simpa using h)]
  obtain ⟨b1, b2⟩ := ss_ltT hs h
  have hin : nth s (u : Int) ∈ s := nth_mem s h
  have hdr : ∀ y ∈ keysT (s.drop u), y = (nth s (u : Int)).Key ∨ y ∈ keysT (s.drop (u + 1)) := fun y hy => by rw [dropNthT h] at hy; exact List.mem_cons.1 hy
  have hcur : (nth s (u : Int)).Key ∈ keysT (s.drop u) := by rw [dropNthT h]; exact List.mem_cons_self
  have hdr' : ∀ y ∈ keysT (s.drop (u + 1)), y ∈ keysT (s.drop u) := fun y hy => by rw [dropNthT h]; exact List.mem_cons_of_mem _ hy
  have stay : ∀ d, d = done → Op.bytesLess (nth s (u : Int)).Key key = true ∨ d = true → xs.length + 1 ≤ u + 1 + 1 → PutT s key val (u + 1) (xs ++ [nth s (u : Int)]) d := fun d hd hor hlen => by
   subst hd
   refine ⟨h, ?_, fun x => ?_, fun hdn => ⟨fun x hx => ?_, ?_⟩, fun hdn y hy => h4 hdn y (hdr' y hy), by simp only [List.length_append, List.length_singleton]; omega, fun z hz => ?_⟩
   ·rw [keys_app]
    refine ss_snocT h1 fun y hy => ?_
    rcases (h2 y).1 hy with hy | ⟨hd, rfl⟩
    ·exact b1 y hy
    ·exact h4 hd _ hcur
   ·rw [keys_app, List.mem_append, h2, keys_take h, List.mem_append]
    constructor
    ·rintro ((hx | hx) | hx)
     ·exact .inl (.inl hx)
     ·exact .inr hx
     ·exact .inl (.inr hx)
    ·rintro ((hx | hx) | hx)
     ·exact .inl (.inl hx)
     ·exact .inr hx
     ·exact .inl (.inr hx)
   ·rw [keys_take h] at hx
    rcases List.mem_append.1 hx with hx | hx
    ·exact (h3 hdn).1 x hx
    ·rw [List.mem_singleton.1 hx]
     rcases hor with hor | hor
     ·exact hor
     ·rw [hdn] at hor; cases hor
   ·rw [(h3 hdn).2, ← take_nth s h]
   ·rcases List.mem_append.1 hz with hz | hz
    ·exact h6 z hz
    ·rw [List.mem_singleton.1 hz]; exact .inl hin
  cases done with
  | true =>
   rw [if_neg RD]
   have hlt := h4 rfl _ hcur
   have hne : (nth s (u : Int)).Key ≠ key := fun e => by rw [e, less_irr] at hlt; cases hlt
   refine ⟨OM, ?_⟩
   rw [if_pos (by rw [bne_iff_ne]; exact hne)]
   exact ⟨OM, by simp only [List.length_cons, List.length_nil]; omega, OM, ⟨u + 1, OM, stay true rfl (.inr rfl) OM⟩, by dsimp only; omega⟩
  | false =>
   rw [if_pos RD]
   obtain ⟨c1, c2⟩ := h3 rfl
   have hxl : xs.length = u := by rw [c2, List.length_take]; omega
   refine ⟨OM, ?_⟩
   cases k : Op.bytesLess (nth s (u : Int)).Key key with
   | true =>
    rw [if_neg RD]
    have hne : (nth s (u : Int)).Key ≠ key := fun e => by rw [e, less_irr] at k; cases k
    refine ⟨OM, ?_⟩
    rw [if_pos (by rw [bne_iff_ne]; exact hne)]
    exact ⟨OM, by simp only [List.length_cons, List.length_nil]; omega, OM, ⟨u + 1, OM, stay false rfl (.inl k) OM⟩, by dsimp only; omega⟩
   | false =>
    rw [if_pos RD]
    have g1 : SS (keysT (xs ++ [(⟨key, val⟩ : Tag)])) := by
     rw [keys_app]
     refine ss_snocT h1 fun y hy => ?_
     rcases (h2 y).1 hy with hy | ⟨hd, _⟩
     ·exact c1 y hy
     ·cases hd
    refine ⟨by simp only [List.length_cons, List.length_nil]; omega, OM, ?_⟩
    by_cases hne : (nth s (u : Int)).Key = key
    ·rw [if_neg (by rw [hne]; simp)]
     refine ⟨OM, ⟨u + 1, OM, h, g1, fun x => ?_, (fun hd => by cases hd), fun _ y hy => by rw [← hne]; exact b2 y hy, by simp only [List.length_append, List.length_singleton]; omega, fun z hz => ?_⟩, by dsimp only; omega⟩
     ·rw [keys_app, List.mem_append, h2, keys_take h, List.mem_append, hne]
      show _ ∨ x ∈ [key] ↔ _
      rw [List.mem_singleton]
      constructor
      ·rintro ((hx | ⟨hd, _⟩) | hx)
       ·exact .inl (.inl hx)
       ·cases hd
       ·exact .inr ⟨rfl, hx⟩
      ·rintro ((hx | hx) | ⟨_, hx⟩)
       ·exact .inl (.inl hx)
       ·exact .inr hx
       ·exact .inr hx
     ·rcases List.mem_append.1 hz with hz | hz
      ·exact h6 z hz
      ·exact .inr (List.mem_singleton.1 hz)
    ·rw [if_pos (by rw [bne_iff_ne]; exact hne)]
     have hlt : Op.bytesLess key (nth s (u : Int)).Key = true := by
      rcases less_or k with g | g
      ·exact g
      ·exact absurd g.symm hne
     refine ⟨OM, by simp only [List.length_append, List.length_cons, List.length_nil]; omega, OM, ⟨u + 1, OM, h, ?_, fun x => ?_, (fun hd => by cases hd), fun _ y hy => less_trans hlt (b2 y hy), by simp only [List.length_append, List.length_singleton]; omega, fun z hz => ?_⟩, by dsimp only; omega⟩
     ·rw [keys_app]
      refine ss_snocT g1 fun y hy => ?_
      rw [keys_app] at hy
      rcases List.mem_append.1 hy with hy | hy
      ·rcases (h2 y).1 hy with hy | ⟨hd, _⟩
       ·exact b1 y hy
       ·cases hd
      ·have hy : y = key := List.mem_singleton.1 hy
       rw [hy]; exact hlt
     ·rw [keys_app, keys_app, List.mem_append, List.mem_append, h2, keys_take h, List.mem_append]
      show (_ ∨ x ∈ [key]) ∨ x ∈ [(nth s (u : Int)).Key] ↔ _
      rw [List.mem_singleton, List.mem_singleton]
      constructor
      ·rintro (((hx | ⟨hd, _⟩) | hx) | hx)
       ·exact .inl (.inl hx)
       ·cases hd
       ·exact .inr ⟨rfl, hx⟩
       ·exact .inl (.inr hx)
      ·rintro ((hx | hx) | ⟨_, hx⟩)
       ·exact .inl (.inl (.inl hx))
       ·exact .inr hx
       ·exact .inl (.inr hx)
     ·rcases List.mem_append.1 hz with hz | hz
      ·rcases List.mem_append.1 hz with hz | hz
       ·exact h6 z hz
       ·exact .inr (List.mem_singleton.1 hz)
      ·rw [List.mem_singleton.1 hz]; exact .inl hin
 ·rw [if_neg (by simpa using h)]
  have : u = s.length := by omega
  subst this
  rw [List.take_length] at h2 h3
  cases done with
  | true =>
   rw [if_neg RD]
   exact hq xs h1 (fun x => by rw [h2]; simp) h5 h6
  | false =>
   rw [if_pos RD]
   obtain ⟨c1, c2⟩ := h3 rfl
   refine ⟨by simp only [List.length_cons, List.length_nil]; omega, hq _ ?_ (fun x => ?_) (by rw [c2]; simp) fun z hz => ?_⟩
   ·rw [keys_app]
    refine ss_snocT h1 fun y hy => ?_
    rcases (h2 y).1 hy with hy | ⟨hd, _⟩
    ·exact c1 y hy
    ·cases hd
   ·rw [keys_app, List.mem_append, h2]
    show _ ∨ x ∈ [key] ↔ _
    rw [List.mem_singleton]; simp
   ·rcases List.mem_append.1 hz with hz | hz
    ·exact h6 z hz
    ·exact .inr (List.mem_singleton.1 hz)
theorem keys_drawn {s : List Tag} {k v : Str} (hk : k ∈ keyL) (hv : v ∈ valL) (h : ∀ x ∈ s, DT x) {r : List Tag} (hr : ∀ z ∈ r, z ∈ s ∨ z = ⟨k, v⟩) : ∀ x ∈ r, DT x := fun x hx => by
 rcases hr x hx with g | rfl
 ·exact h x g
 ·exact ⟨hk, hv⟩
theorem F78.law (b : List UInt8) (p : Int) (id : Str) (Q : Feat → Int → Prop) (hb : b.length ≤ 2000) (hp : 0 ≤ p) (hp1 : p ≤ 10000000) (hq : ∀ s t p', shapeOk s = true → SS (keysT t) → t.length ≤ 3 → (∀ x ∈ t, DT x) → (∀ q ∈ s.Pts, NX q) → p ≤ p' → p' ≤ p + 60 → Q ⟨id, s, t⟩ p') : F78.E b p id Q := by
 unfold F78.E
 refine F64.law _ _ _ hb hp OM fun s p1 hs hx p0 p2 => F25.law _ _ _ _ hb OM OM fun k hk0 hk1 => ?_
 refine ⟨fun i t z => 0 ≤ i ∧ i ≤ 3 ∧ SS (keysT t) ∧ (t.length : Int) + i ≤ 3 ∧ (∀ x ∈ t, DT x) ∧ p ≤ z ∧ z ≤ p + 41 + 2 * (3 - i), fun i _ _ => i.toNat, ⟨OM, OM, List.Pairwise.nil, by simp only [List.length_nil]; omega, by simp, OM, OM⟩, ?_⟩
 rintro i t z ⟨h0, h1, h2, h3, h4, h5, h6⟩
 by_cases hi : i > 0
 case neg => rw [if_neg (by simpa using hi)]; exact hq _ _ _ hs h2 OM h4 hx h5 OM
 rw [if_pos (by simpa using hi)]
 refine F112.law _ _ _ hb OM OM fun key hkey => F113.law _ _ _ hb OM OM fun val hval => F114.law _ _ _ _ OM h2 fun r r1 r2 r3 r4 => ⟨by unfold I64; omega, ⟨OM, OM, r1, OM, keys_drawn hkey hval h4 r4, OM, OM⟩, by dsimp only; omega⟩
theorem feat_drawn {id : Str} {s : Shape} {t : List Tag} (h1 : wordOk id = true) (h2 : shapeOk s = true) (h3 : SS (keysT t)) (h4 : t.length ≤ 3) (h5 : ∀ x ∈ t, DT x) : featOk ⟨id, s, t⟩ = true := feat_of h1 h2 h3 OM fun x hx => (h5 x hx).ok
theorem F126.law (b : List UInt8) (p : Int) (Q : Str → Int → Prop) (hb : b.length ≤ 2000) (hp : 0 ≤ p) (hp1 : p ≤ 1000000000) (hq : ∀ k ∈ idL, Q k (p + 1)) : F126.E b p Q := by
 unfold F126.E
 exact F48.law _ _ _ _ hb hp OM RD hq
def PutS (s : List Feat) (f : Feat) (u : Nat) (xs : List Feat) (done : Bool) : Prop :=
 u ≤ s.length ∧ SS (ids xs) ∧ (∀ x, x ∈ ids xs ↔ x ∈ ids (s.take u) ∨ (done = true ∧ x = f.Id)) ∧ (done = false → (∀ x ∈ ids (s.take u), Op.bytesLess x f.Id = true) ∧ xs = s.take u) ∧
  (done = true → ∀ y ∈ ids (s.drop u), Op.bytesLess f.Id y = true) ∧ xs.length ≤ u + 1 ∧ (∀ z ∈ xs, z ∈ s ∨ z = f)
theorem ss_snoc {l : List Str} {x : Str} (h : SS l) (hx : ∀ y ∈ l, Op.bytesLess y x = true) : SS (l ++ [x]) := by
 unfold SS
 rw [List.pairwise_append]
 exact ⟨h, List.pairwise_singleton _ _, fun a ha b hb => by rw [List.mem_singleton.1 hb]; exact hx a ha⟩
theorem ids_take {s : List Feat} {u : Nat} (hu : u < s.length) : ids (s.take (u + 1)) = ids (s.take u) ++ [(nth s (u : Int)).Id] := by rw [take_nth s hu, ids_app]; rfl
theorem ids_cut (s : List Feat) (u : Nat) : ids s = ids (s.take u) ++ ids (s.drop u) := by rw [← ids_app, List.take_append_drop]
theorem dropNth {s : List Feat} {u : Nat} (hu : u < s.length) : s.drop u = nth s (u : Int) :: s.drop (u + 1) := by rw [nth_nat s hu]; exact List.drop_eq_getElem_cons hu
theorem ss_lt {s : List Feat} (h : SS (ids s)) {u : Nat} (hu : u < s.length) : (∀ x ∈ ids (s.take u), Op.bytesLess x (nth s (u : Int)).Id = true) ∧ ∀ y ∈ ids (s.drop (u + 1)), Op.bytesLess (nth s (u : Int)).Id y = true := by
 have e := ids_cut s u
 rw [dropNth hu] at e
 have e2 : ids (nth s (u : Int) :: s.drop (u + 1)) = (nth s (u : Int)).Id :: ids (s.drop (u + 1)) := rfl
 rw [e2] at e
 rw [e] at h
 obtain ⟨h1, h2, h3⟩ := List.pairwise_append.1 h
 exact ⟨fun x hx => h3 x hx _ List.mem_cons_self, (List.pairwise_cons.1 h2).1⟩
theorem F119.law (s : List Feat) (f : Feat) (Q : List Feat → Prop) (hl : s.length ≤ 1048576) (hs : SS (ids s)) (hq : ∀ r, SS (ids r) → (∀ x, x ∈ ids r ↔ x ∈ ids s ∨ x = f.Id) → r.length ≤ s.length + 1 → (∀ z ∈ r, z ∈ s ∨ z = f) → Q r) : F119.E s f Q := by
 unfold F119.E
 refine ⟨fun xs done i => ∃ u : Nat, i = u ∧ PutS s f u xs done, fun _ _ i => (s.length - i).toNat, ⟨0, rfl, Nat.zero_le _, by simp [ids, SS], by simp [ids], fun _ => ⟨by simp [ids], by simp⟩, (fun h => by cases h), by simp, by simp⟩, ?_⟩
 rintro xs done _ ⟨u, rfl, hu, h1, h2, h3, h4, h5, h6⟩
 by_cases h : u < s.length
 ·rw [if_pos (by simpa using h)]
  obtain ⟨b1, b2⟩ := ss_lt hs h
  have hin : nth s (u : Int) ∈ s := nth_mem s h
  have hdr : ∀ y ∈ ids (s.drop u), y = (nth s (u : Int)).Id ∨ y ∈ ids (s.drop (u + 1)) := fun y hy => by rw [dropNth h] at hy; exact List.mem_cons.1 hy
  have hcur : (nth s (u : Int)).Id ∈ ids (s.drop u) := by rw [dropNth h]; exact List.mem_cons_self
  have hdr' : ∀ y ∈ ids (s.drop (u + 1)), y ∈ ids (s.drop u) := fun y hy => by rw [dropNth h]; exact List.mem_cons_of_mem _ hy
  have stay : ∀ d, d = done → Op.bytesLess (nth s (u : Int)).Id f.Id = true ∨ d = true → xs.length + 1 ≤ u + 1 + 1 → PutS s f (u + 1) (xs ++ [nth s (u : Int)]) d := fun d hd hor hlen => by
   subst hd
   refine ⟨h, ?_, fun x => ?_, fun hdn => ⟨fun x hx => ?_, ?_⟩, fun hdn y hy => h4 hdn y (hdr' y hy), by simp only [List.length_append, List.length_singleton]; omega, fun z hz => ?_⟩
   ·rw [ids_app]
    refine ss_snoc h1 fun y hy => ?_
    rcases (h2 y).1 hy with hy | ⟨hd, rfl⟩
    ·exact b1 y hy
    ·exact h4 hd _ hcur
   ·rw [ids_app, List.mem_append, h2, ids_take h, List.mem_append]
    constructor
    ·rintro ((hx | hx) | hx)
     ·exact .inl (.inl hx)
     ·exact .inr hx
     ·exact .inl (.inr hx)
    ·rintro ((hx | hx) | hx)
     ·exact .inl (.inl hx)
     ·exact .inr hx
     ·exact .inl (.inr hx)
   ·rw [ids_take h] at hx
    rcases List.mem_append.1 hx with hx | hx
    ·exact (h3 hdn).1 x hx
    ·rw [List.mem_singleton.1 hx]
     rcases hor with hor | hor
     ·exact hor
     ·rw [hdn] at hor; cases hor
   ·rw [(h3 hdn).2, ← take_nth s h]
   ·rcases List.mem_append.1 hz with hz | hz
    ·exact h6 z hz
    ·rw [List.mem_singleton.1 hz]; exact .inl hin
  cases done with
  | true =>
   rw [if_neg RD]
   have hlt := h4 rfl _ hcur
   have hne : (nth s (u : Int)).Id ≠ f.Id := fun e => by rw [e, less_irr] at hlt; cases hlt
   refine ⟨OM, ?_⟩
   rw [if_pos (by rw [bne_iff_ne]; exact hne)]
   exact ⟨OM, by simp only [List.length_cons, List.length_nil]; omega, OM, ⟨u + 1, OM, stay true rfl (.inr rfl) OM⟩, by dsimp only; omega⟩
  | false =>
   rw [if_pos RD]
   obtain ⟨c1, c2⟩ := h3 rfl
   have hxl : xs.length = u := by rw [c2, List.length_take]; omega
   refine ⟨OM, ?_⟩
   cases k : Op.bytesLess (nth s (u : Int)).Id f.Id with
   | true =>
    rw [if_neg RD]
    have hne : (nth s (u : Int)).Id ≠ f.Id := fun e => by rw [e, less_irr] at k; cases k
    refine ⟨OM, ?_⟩
    rw [if_pos (by rw [bne_iff_ne]; exact hne)]
    exact ⟨OM, by simp only [List.length_cons, List.length_nil]; omega, OM, ⟨u + 1, OM, stay false rfl (.inl k) OM⟩, by dsimp only; omega⟩
   | false =>
    rw [if_pos RD]
    have g1 : SS (ids (xs ++ [f])) := by
     rw [ids_app]
     refine ss_snoc h1 fun y hy => ?_
     rcases (h2 y).1 hy with hy | ⟨hd, _⟩
     ·exact c1 y hy
     ·cases hd
    refine ⟨by simp only [List.length_cons, List.length_nil]; omega, OM, ?_⟩
    by_cases hne : (nth s (u : Int)).Id = f.Id
    ·rw [if_neg (by rw [hne]; simp)]
     refine ⟨OM, ⟨u + 1, OM, h, g1, fun x => ?_, (fun hd => by cases hd), fun _ y hy => by rw [← hne]; exact b2 y hy, by simp only [List.length_append, List.length_singleton]; omega, fun z hz => ?_⟩, by dsimp only; omega⟩
     ·rw [ids_app, List.mem_append, h2, ids_take h, List.mem_append, hne]
      show _ ∨ x ∈ [f.Id] ↔ _
      rw [List.mem_singleton]
      constructor
      ·rintro ((hx | ⟨hd, _⟩) | hx)
       ·exact .inl (.inl hx)
       ·cases hd
       ·exact .inr ⟨rfl, hx⟩
      ·rintro ((hx | hx) | ⟨_, hx⟩)
       ·exact .inl (.inl hx)
       ·exact .inr hx
       ·exact .inr hx
     ·rcases List.mem_append.1 hz with hz | hz
      ·exact h6 z hz
      ·exact .inr (List.mem_singleton.1 hz)
    ·rw [if_pos (by rw [bne_iff_ne]; exact hne)]
     have hlt : Op.bytesLess f.Id (nth s (u : Int)).Id = true := by
      rcases less_or k with g | g
      ·exact g
      ·exact absurd g.symm hne
     refine ⟨OM, by simp only [List.length_append, List.length_cons, List.length_nil]; omega, OM, ⟨u + 1, OM, h, ?_, fun x => ?_, (fun hd => by cases hd), fun _ y hy => less_trans hlt (b2 y hy), by simp only [List.length_append, List.length_singleton]; omega, fun z hz => ?_⟩, by dsimp only; omega⟩
     ·rw [ids_app]
      refine ss_snoc g1 fun y hy => ?_
      rw [ids_app] at hy
      rcases List.mem_append.1 hy with hy | hy
      ·rcases (h2 y).1 hy with hy | ⟨hd, _⟩
       ·exact b1 y hy
       ·cases hd
      ·have hy : y = f.Id := List.mem_singleton.1 hy
       rw [hy]; exact hlt
     ·rw [ids_app, ids_app, List.mem_append, List.mem_append, h2, ids_take h, List.mem_append]
      show (_ ∨ x ∈ [f.Id]) ∨ x ∈ [(nth s (u : Int)).Id] ↔ _
      rw [List.mem_singleton, List.mem_singleton]
      constructor
      ·rintro (((hx | ⟨hd, _⟩) | hx) | hx)
       ·exact .inl (.inl hx)
       ·cases hd
       ·exact .inr ⟨rfl, hx⟩
       ·exact .inl (.inr hx)
      ·rintro ((hx | hx) | ⟨_, hx⟩)
       ·exact .inl (.inl (.inl hx))
       ·exact .inr hx
       ·exact .inl (.inr hx)
     ·rcases List.mem_append.1 hz with hz | hz
      ·rcases List.mem_append.1 hz with hz | hz
       ·exact h6 z hz
       ·exact .inr (List.mem_singleton.1 hz)
      ·rw [List.mem_singleton.1 hz]; exact .inl hin
 ·rw [if_neg (by simpa using h)]
  have : u = s.length := by omega
  subst this
  rw [List.take_length] at h2 h3
  cases done with
  | true =>
   rw [if_neg RD]
   exact hq xs h1 (fun x => by rw [h2]; simp) h5 h6
  | false =>
   rw [if_pos RD]
   obtain ⟨c1, c2⟩ := h3 rfl
   refine ⟨by simp only [List.length_cons, List.length_nil]; omega, hq _ ?_ (fun x => ?_) (by rw [c2]; simp) fun z hz => ?_⟩
   ·rw [ids_app]
    refine ss_snoc h1 fun y hy => ?_
    rcases (h2 y).1 hy with hy | ⟨hd, _⟩
    ·exact c1 y hy
    ·cases hd
   ·rw [ids_app, List.mem_append, h2]
    show _ ∨ x ∈ [f.Id] ↔ _
    rw [List.mem_singleton]; simp
   ·rcases List.mem_append.1 hz with hz | hz
    ·exact h6 z hz
    ·exact .inr (List.mem_singleton.1 hz)
theorem F73.law (b : List UInt8) (p : Int) (Q : List Feat → Int → Prop) (hb : b.length ≤ 2000) (hp : 0 ≤ p) (hp1 : p ≤ 1000000) (hq : ∀ s p', sheetOk s = true → s.length ≤ 4 → (∀ f ∈ s, f.Id ≠ zzI) → (∀ f ∈ s, ∀ q ∈ f.Shape.Pts, NX q) → p ≤ p' → p' ≤ p + 300 → Q s p') : F73.E b p Q := by
 unfold F73.E
 refine F25.law _ _ _ _ hb hp OM fun k hk0 hk1 => ?_
 refine ⟨fun s i z => 0 ≤ i ∧ i ≤ 4 ∧ SS (ids s) ∧ (s.length : Int) + i ≤ 4 ∧ (∀ f ∈ s, featOk f = true ∧ f.Id ≠ zzI ∧ ∀ q ∈ f.Shape.Pts, NX q) ∧ p ≤ z ∧ z ≤ p + 1 + 61 * (4 - i), fun _ i _ => i.toNat, ⟨OM, OM, List.Pairwise.nil, by simp only [List.length_nil]; omega, by simp, OM, OM⟩, ?_⟩
 rintro s i z ⟨h0, h1, h2, h3, h4, h5, h6⟩
 by_cases hi : i > 0
 case neg => rw [if_neg (by simpa using hi)]; exact hq _ _ (sheet_of h2 OM fun f hf => (h4 f hf).1) OM (fun f hf => (h4 f hf).2.1) (fun f hf => (h4 f hf).2.2) h5 OM
 rw [if_pos (by simpa using hi)]
 refine F126.law _ _ _ hb OM OM fun id hid => F78.law _ _ _ _ hb OM OM fun sh t p1 hs ht tl td hx p2 p3 => F119.law _ _ _ OM h2 fun r r1 r2 r3 r4 => ⟨by unfold I64; omega, ⟨OM, OM, r1, OM, fun f hf => ?_, OM, OM⟩, by dsimp only; omega⟩
 rcases r4 f hf with g | rfl
 ·exact h4 f g
 ·exact ⟨feat_drawn (idL_ok _ hid) hs ht tl td, idL_nz _ hid, hx⟩
theorem F86.law (b : List UInt8) (p : Int) (Q : Shape → Int → Prop) (hb : b.length ≤ 2000) (hp : 0 ≤ p) (hp1 : p ≤ 10000000) (hq : ∀ s p', s.Pts.length ≤ 7 → (∀ q ∈ s.Pts, NX q) → p ≤ p' → p' ≤ p + 50 → Q s p') : F86.E b p Q := by
 unfold F86.E
 refine F64.law _ _ _ hb hp OM fun s p1 hs hx p0 p2 => F25.law _ _ _ _ hb OM OM fun k hk0 hk1 => F25.law _ _ _ _ hb OM OM fun v hv0 hv1 => ?_
 have l1 := shape_pos hs
 have l2 := shape_pts hs
 split
 ·exact F35.law _ _ _ _ hb OM OM RD fun n hn => hq _ _ (by dsimp only; omega) hx OM OM
 split
 ·exact F35.law _ _ _ _ hb OM OM RD fun n hn => ⟨OM, hq _ _ (by simp only [List.length_set]; omega) (fun q hq' => by
   rcases List.mem_or_eq_of_mem_set hq' with g | rfl
   ·exact hx q g
   ·simp only [List.mem_cons, List.not_mem_nil, or_false] at hn
    exact ⟨by dsimp only; omega, by dsimp only; omega⟩) OM OM⟩
 split
 ·exact ⟨fun _ => by unfold I64; omega, OM, by simp only [List.length_cons, List.length_nil]; omega, hq _ _ (by simp only [List.length_append, List.length_cons, List.length_nil]; omega) (fun q hq' => (List.mem_append.1 hq').elim (hx q) fun g => by rw [List.mem_singleton.1 g]; exact hx _ (nth_memi _ OM OM)) OM OM⟩
 split
 ·exact ⟨OM, hq _ _ (by simp only [List.length_take, List.length_drop]; omega) (fun q hq' => hx q (List.mem_of_mem_drop (List.mem_of_mem_take hq'))) OM OM⟩
 exact hq _ _ OM hx OM OM
theorem F87.law (b : List UInt8) (p : Int) (Q : Feat → Int → Prop) (hb : b.length ≤ 2000) (hp : 0 ≤ p) (hp1 : p ≤ 1000000) (hq : ∀ f p', FB 4 f → (∀ x ∈ f.Tags, plainK x.Key) → f.Id ≠ zzI → (∀ q ∈ f.Shape.Pts, NX q) → p ≤ p' → p' ≤ p + 120 → Q f p') : F87.E b p Q := by
 unfold F87.E
 refine F126.law _ _ _ hb hp OM fun id hid => F78.law _ _ _ _ hb OM OM fun s t p1 hs ht tl td hx p2 p3 => F25.law _ _ _ _ hb OM OM fun v hv0 hv1 => ?_
 have li := word_len (idL_ok _ hid)
 have lp := shape_pts hs
 have tp : ∀ x ∈ t, plainK x.Key := fun x hx => keyL_plain _ (td x hx).1
 have tw : ∀ x ∈ t, x.Key.length ≤ 6 ∧ x.Val.length ≤ 6 := fun x hx => (td x hx).len
 have iz := idL_nz _ hid
 split
 ·refine F48.law _ _ _ _ hb OM OM RD fun w hw => hq _ _ ⟨?_, by dsimp only; omega, by dsimp only; omega, tw⟩ tp ?_ hx OM OM
  all_goals
   simp only [List.mem_cons, List.not_mem_nil, or_false] at hw
   dsimp only
   rcases hw with rfl | rfl | rfl <;> decide
 split
 ·exact F86.law _ _ _ hb OM OM fun s' p4 h4 hx' h5 h6 => hq _ _ ⟨by dsimp only; omega, h4, by dsimp only; omega, tw⟩ tp iz hx' OM OM
 split
 ·refine ⟨by simp only [List.length_cons, List.length_nil]; omega, hq _ _ ⟨by dsimp only; omega, by dsimp only; omega, by simp only [List.length_append, List.length_cons, List.length_nil]; omega, fun x hx2 => ?_⟩ (fun x hx2 => ?_) iz hx OM OM⟩
  ·rcases List.mem_append.1 hx2 with hx2 | hx2
   ·exact tw x hx2
   ·rw [List.mem_singleton.1 hx2]; decide
  ·rcases List.mem_append.1 hx2 with hx2 | hx2
   ·exact tp x hx2
   ·rw [List.mem_singleton.1 hx2]; unfold plainK; dsimp only; decide
 split
 ·refine F48.law _ _ _ _ hb OM OM RD fun w hw => ⟨by simp only [List.length_cons, List.length_nil]; omega, hq _ _ ⟨by dsimp only; omega, by dsimp only; omega, by simp only [List.length_append, List.length_cons, List.length_nil]; omega, fun x hx2 => ?_⟩ (fun x hx2 => ?_) iz hx OM OM⟩
  ·rcases List.mem_append.1 hx2 with hx2 | hx2
   ·exact tw x hx2
   ·rw [List.mem_singleton.1 hx2]
    simp only [List.mem_cons, List.not_mem_nil, or_false] at hw
    rcases hw with rfl | rfl <;> decide
  ·rcases List.mem_append.1 hx2 with hx2 | hx2
   ·exact tp x hx2
   ·rw [List.mem_singleton.1 hx2]; unfold plainK; dsimp only; decide
 exact hq _ _ ⟨by dsimp only; omega, by dsimp only; omega, by dsimp only; omega, tw⟩ tp iz hx OM OM
theorem F96.law (b : List UInt8) (p : Int) (Q : List Feat → Int → Prop) (hb : b.length ≤ 2000) (hp : 0 ≤ p) (hp1 : p ≤ 100000) (hq : ∀ s p', MD s → (∀ f ∈ s, ∀ q ∈ f.Shape.Pts, NX q) → p ≤ p' → p' ≤ p + 500 → Q s p') : F96.E b p Q := by
 unfold F96.E
 refine F73.law _ _ _ hb hp OM fun s p1 hs hl hz hn p2 p3 => F25.law _ _ _ _ hb OM OM fun v hv0 hv1 => ?_
 have mb := MB.of hs
 have hm : MD s := ⟨⟨OM, mb.fb⟩, hz⟩
 split
 ·refine F87.law _ _ _ hb OM OM fun f p4 h1 _ h2 hfx h3 h4 => ⟨by simp only [List.length_cons, List.length_nil]; omega, hq _ _ ⟨⟨by simp only [List.length_append, List.length_cons, List.length_nil]; omega, fun x hx => ?_⟩, fun x hx => ?_⟩ (fun x hx => ?_) OM OM⟩
  ·rcases List.mem_append.1 hx with hx | hx
   ·exact mb.fb x hx
   ·rw [List.mem_singleton.1 hx]; exact h1
  ·rcases List.mem_append.1 hx with hx | hx
   ·exact hz x hx
   ·rw [List.mem_singleton.1 hx]; exact h2
  ·rcases List.mem_append.1 hx with hx | hx
   ·exact hn x hx
   ·rw [List.mem_singleton.1 hx]; exact hfx
 split
 ·refine ⟨OM, hq _ _ ⟨⟨by simp only [List.length_append]; omega, fun x hx => ?_⟩, fun x hx => ?_⟩ (fun x hx => ?_) OM OM⟩
  ·rcases List.mem_append.1 hx with hx | hx <;> exact mb.fb x hx
  ·rcases List.mem_append.1 hx with hx | hx <;> exact hz x hx
  ·rcases List.mem_append.1 hx with hx | hx <;> exact hn x hx
 split
 ·refine ⟨fun s i => 0 ≤ i ∧ i ≤ 9 ∧ SS (ids s) ∧ (s.length : Int) ≤ 4 + i ∧ (∀ f ∈ s, FB 4 f ∧ f.Id ≠ zzI ∧ ∀ q ∈ f.Shape.Pts, NX q), fun _ i => (9 - i).toNat, ⟨OM, OM, (sheet_ss hs).1, OM, fun f hf => ⟨mb.fb f hf, hz f hf, hn f hf⟩⟩, ?_⟩
  rintro s i ⟨h0, h1, h2, h3, h4⟩
  by_cases hi : i ≤ 8
  case neg => rw [if_neg (by simpa using hi)]; exact hq _ _ ⟨⟨OM, fun f hf => (h4 f hf).1⟩, fun f hf => (h4 f hf).2.1⟩ (fun f hf => (h4 f hf).2.2) OM OM
  rw [if_pos (by simpa using hi)]
  have hl1 : ∀ l : Str, ((l.drop i.toNat).take ((i + 1).toNat - i.toNat)).length ≤ 1 := fun l => by rw [List.length_take]; omega
  refine ⟨by unfold I64; omega, by simp only [List.length_cons, List.length_nil]; omega, F119.law _ _ _ OM h2 fun r r1 r2 r3 r4 => ⟨by unfold I64; omega, ⟨OM, OM, r1, OM, fun f hf => ?_⟩, by dsimp only; omega⟩⟩
  rcases r4 f hf with g | rfl
  ·exact h4 f g
  ·refine ⟨⟨Nat.le_trans (hl1 _) RD, by dsimp only [List.length_cons, List.length_nil]; omega, by simp only [List.length_nil]; omega, by simp⟩, fun e => ?_, fun q hq' => by rw [List.mem_singleton.1 hq']; exact .of RD⟩
   have := hl1 [113, 114, 115, 116, 117, 118, 119, 120, 121, 122]
   dsimp only at e
   rw [e] at this
   exact absurd this RD
 exact hq _ _ hm hn OM OM
theorem F98.law (s : List Feat) (id : Str) (Q : Int → Prop) (hq : Q (findN s.length fun j => (nth s (j : Int)).Id == id)) : F98.E s id Q := by
 unfold F98.E
 refine loop_find s.length (fun j => (nth s (j : Int)).Id == id) hq (fun I mu k hk h1 h2 => ⟨OM, ?_⟩)
 cases h : (nth s (k : Int)).Id == id with
 | true => rw [if_pos rfl]; exact h1 h
 | false => rw [if_neg RD]; obtain ⟨i1, i2⟩ := h2 h; exact ⟨OM, i1, i2⟩
theorem F124.law (s : List Feat) (id : Str) (Q : List Feat → Prop) (hl : s.length ≤ 1048576) (hq : Q (s.filter fun f => decide (f.Id ≠ id))) : F124.E s id Q := by
 unfold F124.E
 refine ⟨fun xs i => ∃ u : Nat, i = u ∧ u ≤ s.length ∧ xs = (s.take u).filter fun f => decide (f.Id ≠ id), fun _ i => (s.length - i).toNat, ⟨0, rfl, Nat.zero_le _, rfl⟩, ?_⟩
 rintro _ _ ⟨u, rfl, hu, rfl⟩
 have hfl := List.length_filter_le (fun f : Feat => decide (f.Id ≠ id)) (s.take u)
 rw [List.length_take] at hfl
 by_cases h : u < s.length
 ·rw [if_pos (by simpa using h)]
  refine ⟨OM, ?_⟩
  by_cases e : (nth s (u : Int)).Id = id
  ·rw [if_neg (by rw [e]; simp)]
   refine ⟨OM, ⟨u + 1, OM, OM, ?_⟩, by dsimp only; omega⟩
   rw [take_nth s h, List.filter_append, List.filter_cons_of_neg (by rw [decide_eq_true_eq]; exact fun g => g e), List.filter_nil, List.append_nil]
  ·rw [if_pos (by rw [bne_iff_ne]; exact e)]
   refine ⟨OM, by simp only [List.length_cons, List.length_nil]; omega, OM, ⟨u + 1, OM, OM, ?_⟩, by dsimp only; omega⟩
   rw [take_nth s h, List.filter_append, List.filter_cons_of_pos (by rw [decide_eq_true_eq]; exact e), List.filter_nil]
 ·rw [if_neg (by simpa using h)]
  have : u = s.length := by omega
  subst this
  rw [List.take_length]; exact hq
theorem F81.law (b : List UInt8) (p : Int) (s : Shape) (Q : Shape → Int → Prop) (hb : b.length ≤ 2000) (hp : 0 ≤ p) (hp1 : p ≤ 10000000) (hs : s.Pts.length ≤ 1000) (hq : ∀ r p', (r = s ∨ shapeOk r = true) → p ≤ p' → p' ≤ p + 4 → Q r p') : F81.E b p s Q := by
 unfold F81.E
 by_cases h0 : (s.Pts.length : Int) = 0
 ·rw [if_pos (by simpa using h0)]; exact hq _ _ (.inl rfl) OM OM
 rw [if_neg (by simpa using h0)]
 refine F25.law _ _ _ _ hb hp OM fun k hk0 hk1 => ⟨OM, by simp only [List.length_take, List.length_drop, List.length_nil]; omega, F25.law _ _ _ _ hb OM OM fun v hv0 hv1 => ?_⟩
 have fin : ∀ (r : Shape) (z : Int), p ≤ z → z ≤ p + 4 → F63.E r (fun r5 => (if !r5 then Q s z else Q r z)) := fun r z h1 h2 => by
  refine F63.law _ _ ?_
  cases h : shapeOk r with
  | true => rw [if_neg RD]; exact hq _ _ (.inr h) h1 h2
  | false => rw [if_pos RD]; exact hq _ _ (.inl rfl) h1 h2
 refine ⟨fun _ z => p ≤ z ∧ z ≤ p + 4, ?_, fun xs z hz => fin _ _ hz.1 hz.2⟩
 split
 ·exact ⟨OM, F125.law _ _ _ hb OM OM fun x y _ _ _ _ => ⟨by simp only [List.length_append, List.length_take, List.length_drop, List.length_nil, List.length_cons]; omega, by simp only [List.length_append, List.length_take, List.length_drop, List.length_nil, List.length_cons]; omega, OM, OM⟩⟩
 split
 ·exact ⟨fun _ => by unfold I64; omega, OM, by simp only [List.length_append, List.length_take, List.length_drop, List.length_nil, List.length_cons]; omega, OM, OM⟩
 exact ⟨fun _ => by unfold I64; omega, OM, F125.law _ _ _ hb OM OM fun x y _ _ _ _ => ⟨by simp only [List.length_append, List.length_take, List.length_drop, List.length_nil, List.length_cons]; omega, by simp only [List.length_append, List.length_take, List.length_drop, List.length_nil, List.length_cons]; omega, OM, OM⟩⟩
theorem F80.law (f : Feat) (Q : Feat → Prop) (hb : bulk f ≤ 1048576) (hq : Q f) : F80.E f Q := by
 unfold F80.E F79.E
 have h := bulk_feat f
 have h1 := bulk_len f.Tags
 have h2 := bulk_len f.Shape.Pts
 exact ⟨by simp only [List.length_nil]; omega, by simp only [List.length_nil]; omega, hq⟩
theorem F82.law (s : Str) (Q : Bool → Prop) (hq : Q (wordOk s)) : F82.E s Q := by
 unfold F82.E
 unfold wordOk at hq
 refine loop_all s.length (fun k => byteOk (nth s (k : Int))) (fun I mu k hk hp hn => ?_) (fun ha => ?_)
 ·refine ⟨OM, ?_⟩
  cases h1 : decide (((nth s (k : Int)).toNat : Int) < 97) with
  | true => rw [if_pos rfl]; rw [allN_false hk (by simp only [byteOk, h1]; rfl), Bool.false_and] at hq; exact hq
  | false =>
   rw [if_neg RD]
   refine ⟨OM, ?_⟩
   cases h2 : decide (((nth s (k : Int)).toNat : Int) > 122) with
   | true => rw [if_pos rfl]; rw [allN_false hk (by simp only [byteOk, h1, h2]; rfl), Bool.false_and] at hq; exact hq
   | false =>
    rw [if_neg RD]
    obtain ⟨i1, i2⟩ := hn (by simp only [byteOk, h1, h2]; rfl)
    exact ⟨OM, i1, i2⟩
 ·rw [allN_true ha, Bool.true_and] at hq
  by_cases h : 1 ≤ s.length
  ·rw [decide_eq_true h, Bool.true_and] at hq
   rw [if_pos (by rw [decide_eq_true_eq]; omega)]
   have e2 : decide ((s.length : Int) ≤ 6) = decide (s.length ≤ 6) := decide_eq_decide.2 OM
   rw [e2]; exact hq
  ·rw [decide_eq_false h, Bool.false_and] at hq
   rw [if_neg (by rw [decide_eq_true_eq]; omega)]; exact hq
theorem F83.law (t : List Tag) (Q : Bool → Prop) (hq : Q (tagsOk t && decide (t.length ≤ 4))) : F83.E t Q := by
 unfold F83.E
 unfold tagsOk at hq
 refine loop_all t.length (fun k => wordOk (nth t (k : Int)).Key && wordOk (nth t (k : Int)).Val && (decide (k = 0) || Op.bytesLess (nth t ((k : Int) - 1)).Key (nth t (k : Int)).Key)) (fun I mu k hk hp hn => ?_) (fun ha => ?_)
 ·have bad : (wordOk (nth t (k : Int)).Key && wordOk (nth t (k : Int)).Val && (decide (k = 0) || Op.bytesLess (nth t ((k : Int) - 1)).Key (nth t (k : Int)).Key)) = false → Q false := fun h => by
   rw [allN_false hk h, Bool.false_and] at hq; exact hq
  refine ⟨OM, _, F82.law _ _ rfl, ?_⟩
  cases h1 : wordOk (nth t (k : Int)).Key with
  | false => rw [if_pos RD]; exact bad (by rw [h1]; rfl)
  | true =>
   rw [if_neg RD]
   refine ⟨OM, _, F82.law _ _ rfl, ?_⟩
   cases h2 : wordOk (nth t (k : Int)).Val with
   | false => rw [if_pos RD]; exact bad (by rw [h2, Bool.and_false]; rfl)
   | true =>
    rw [if_neg RD]
    by_cases hk0 : k = 0
    ·rw [if_neg (by rw [decide_eq_true_eq]; omega)]
     obtain ⟨i1, i2⟩ := hn (by rw [h1, h2, decide_eq_true hk0]; rfl)
     exact ⟨OM, i1, i2⟩
    ·rw [if_pos (by rw [decide_eq_true_eq]; omega)]
     refine ⟨OM, fun _ => by unfold I64; omega, OM, ?_⟩
     rw [← less_tri]
     cases h3 : Op.bytesLess (nth t ((k : Int) - 1)).Key (nth t (k : Int)).Key with
     | false => rw [if_pos RD]; exact bad (by rw [h3, h1, h2, decide_eq_false hk0]; rfl)
     | true =>
      rw [if_neg RD]
      obtain ⟨i1, i2⟩ := hn (by rw [h3, h1, h2, decide_eq_false hk0]; rfl)
      exact ⟨OM, i1, i2⟩
 ·rw [allN_true ha, Bool.true_and] at hq
  have e2 : decide ((t.length : Int) ≤ 4) = decide (t.length ≤ 4) := decide_eq_decide.2 OM
  rw [e2]; exact hq
theorem F84.law (f : Feat) (Q : Bool → Prop) (hq : Q (featOk f)) : F84.E f Q := by
 unfold F84.E
 unfold featOk at hq
 refine F82.law _ _ ?_
 cases h1 : wordOk f.Id with
 | false => rw [h1, Bool.and_false, Bool.false_and] at hq; rw [if_neg RD]; exact hq
 | true =>
  rw [h1, Bool.and_true] at hq
  rw [if_pos rfl]
  refine F63.law _ _ ?_
  cases h2 : shapeOk f.Shape with
  | false => rw [h2, Bool.and_false] at hq; rw [if_neg RD]; exact hq
  | true => rw [h2, Bool.and_true] at hq; rw [if_pos rfl]; exact F83.law _ _ hq
theorem F76.law (d : List Feat) (Q : Bool → Prop) (hq : Q (sheetOk d)) : F76.E d Q := by
 unfold F76.E
 unfold sheetOk at hq
 refine loop_all d.length (fun k => featOk (nth d (k : Int)) && (decide (k = 0) || Op.bytesLess (nth d ((k : Int) - 1)).Id (nth d (k : Int)).Id)) (fun I mu k hk hp hn => ?_) (fun ha => ?_)
 ·have bad : (featOk (nth d (k : Int)) && (decide (k = 0) || Op.bytesLess (nth d ((k : Int) - 1)).Id (nth d (k : Int)).Id)) = false → Q false := fun h => by
   rw [allN_false hk h, Bool.false_and] at hq; exact hq
  refine ⟨OM, _, F84.law _ _ rfl, ?_⟩
  cases h1 : featOk (nth d (k : Int)) with
  | false => rw [if_pos RD]; exact bad (by rw [h1]; rfl)
  | true =>
   rw [if_neg RD]
   by_cases hk0 : k = 0
   ·rw [if_neg (by rw [decide_eq_true_eq]; omega)]
    obtain ⟨i1, i2⟩ := hn (by rw [h1, decide_eq_true hk0]; rfl)
    exact ⟨OM, i1, i2⟩
   ·rw [if_pos (by rw [decide_eq_true_eq]; omega)]
    refine ⟨OM, fun _ => by unfold I64; omega, OM, ?_⟩
    rw [← less_tri]
    cases h3 : Op.bytesLess (nth d ((k : Int) - 1)).Id (nth d (k : Int)).Id with
    | false => rw [if_pos RD]; exact bad (by rw [h3, h1, decide_eq_false hk0]; rfl)
    | true =>
     rw [if_neg RD]
     obtain ⟨i1, i2⟩ := hn (by rw [h3, h1, decide_eq_false hk0]; rfl)
     exact ⟨OM, i1, i2⟩
 ·rw [allN_true ha, Bool.true_and] at hq
  have e2 : decide ((d.length : Int) ≤ 8) = decide (d.length ≤ 8) := decide_eq_decide.2 OM
  rw [e2]; exact hq
theorem FB.put {n : Nat} {f : Feat} (h : FB n f) {k v : Str} (hk : k ∈ keyL) (hv : v ∈ valL) {r : List Tag} (hl : r.length ≤ f.Tags.length + 1) (hr : ∀ z ∈ r, z ∈ f.Tags ∨ z = ⟨k, v⟩) : FB (n + 1) ⟨f.Id, f.Shape, r⟩ := ⟨h.id, h.pts, Nat.le_trans hl (Nat.succ_le_succ h.len), fun x hx => by
 rcases hr x hx with g | rfl
 ·exact h.wd x g
 ·exact DT.len ⟨hk, hv⟩⟩
theorem F103.law (b : List UInt8) (p : Int) (s : List Feat) (Q : List Feat → Int → Prop) (hb : b.length ≤ 2000) (hp : 0 ≤ p) (hp1 : p ≤ 1000000) (hs : sheetOk s = true) (hz : ∀ f ∈ s, f.Id ≠ zzI) (hq : ∀ r p', sheetOk r = true → (∀ f ∈ r, f.Id ≠ zzI) → p ≤ p' → p' ≤ p + 250 → Q r p') : F103.E b p s Q := by
 unfold F103.E
 have mb := MB.of hs
 refine F25.law _ _ _ _ hb hp OM fun k hk0 hk1 => ⟨by unfold I64; omega, ?_⟩
 refine ⟨fun s i z => 0 ≤ i ∧ i ≤ 3 ∧ SS (ids s) ∧ (s.length : Int) + i ≤ 11 ∧ (∀ f ∈ s, SS (keysT f.Tags) ∧ FB (7 - i.toNat) f ∧ f.Id ≠ zzI) ∧ p ≤ z ∧ z ≤ p + 1 + 65 * (3 - i), fun _ i _ => i.toNat, ⟨OM, OM, (sheet_ss hs).1, by have := mb.len; omega, fun f hf => ⟨featOk_tags ((sheet_ss hs).2.2 f hf), (mb.fb f hf).mono OM, hz f hf⟩, OM, OM⟩, ?_⟩
 rintro s2 i z ⟨h0, h1, h2, h3, h4, h5, h6⟩
 by_cases hi : i > 0
 case neg =>
  rw [if_neg (by simpa using hi)]
  refine F76.law _ _ ?_
  cases h : sheetOk s2 with
  | true => rw [if_neg RD]; exact hq _ _ h (fun f hf => (h4 f hf).2.2) h5 OM
  | false => rw [if_pos RD]; exact hq _ _ hs hz h5 OM
 rw [if_pos (by simpa using hi)]
 have em : 7 - (i - 1).toNat = 7 - i.toNat + 1 := by omega
 have step : ∀ (f : Feat), SS (keysT f.Tags) → FB (7 - i.toNat + 1) f → f.Id ≠ zzI → ∀ r : List Feat, (∀ z ∈ r, z ∈ s2 ∨ z = f) → ∀ x ∈ r, SS (keysT x.Tags) ∧ FB (7 - (i - 1).toNat) x ∧ x.Id ≠ zzI := fun f a1 a2 a3 r hr x hx => by
  rw [em]
  rcases hr x hx with g | rfl
  ·have := h4 x g
   exact ⟨this.1, this.2.1.mono OM, this.2.2⟩
  ·exact ⟨a1, a2, a3⟩
 refine F126.law _ _ _ hb OM OM fun id hid => F98.law _ _ _ ?_
 have hle := findN_le s2.length fun j => (nth s2 (j : Int)).Id == id
 generalize findN s2.length (fun j => (nth s2 (j : Int)).Id == id) = at_ at *
 by_cases ha : at_ < 0
 ·rw [if_pos (by simpa using ha)]
  refine F78.law _ _ _ _ hb OM OM fun sh t p1 hsh ht tl td _ p2 p3 => F119.law _ _ _ OM h2 fun r r1 r2 r3 r4 => ⟨by unfold I64; omega, ⟨OM, OM, r1, OM, step _ ht ?_ (idL_nz _ hid) r r4, OM, OM⟩, by dsimp only; omega⟩
  exact ((FB.of (feat_drawn (idL_ok _ hid) hsh ht tl td)).mono OM)
 rw [if_neg (by simpa using ha)]
 have hm : nth s2 at_ ∈ s2 := nth_memi s2 OM hle.2
 obtain ⟨f1, f2, f3⟩ := h4 _ hm
 have fb := f2.small
 refine F25.law _ _ _ _ hb OM OM fun v hv0 hv1 => ?_
 split
 ·refine F124.law _ _ _ OM ⟨by unfold I64; omega, ⟨OM, OM, ?_, ?_, fun x hx => ?_, OM, OM⟩, by dsimp only; omega⟩
  ·unfold SS ids at h2 ⊢
   exact List.Pairwise.sublist (List.filter_sublist.map _) h2
  ·have := List.length_filter_le (fun f : Feat => decide (f.Id ≠ id)) s2; omega
  ·have := h4 x (List.mem_filter.1 hx).1
   exact ⟨this.1, this.2.1.mono OM, this.2.2⟩
 refine F25.law _ _ _ _ hb OM OM fun w hw0 hw1 => ?_
 split
 ·refine ⟨OM, F80.law _ _ OM (F112.law _ _ _ hb OM OM fun key hkey => F113.law _ _ _ hb OM OM fun val hval => F114.law _ _ _ _ (by have := f2.len; omega) f1 fun t t1 t2 t3 t4 => F119.law _ _ _ OM h2 fun r r1 r2 r3 r4 => ⟨by unfold I64; omega, ⟨OM, OM, r1, OM, step _ t1 (f2.put hkey hval t3 t4) f3 r r4, OM, OM⟩, by dsimp only; omega⟩)⟩
 ·refine ⟨OM, F80.law _ _ OM (F81.law _ _ _ _ hb OM OM (by have := f2.pts; omega) fun sh p' hsh p1 p2 => F119.law _ _ _ OM h2 fun r r1 r2 r3 r4 => ⟨by unfold I64; omega, ⟨OM, OM, r1, OM, step ⟨(nth s2 at_).Id, sh, (nth s2 at_).Tags⟩ f1 ⟨f2.id, ?_, Nat.le_trans f2.len OM, f2.wd⟩ f3 r r4, OM, OM⟩, by dsimp only; omega⟩)⟩
  rcases hsh with rfl | hsh
  ·exact f2.pts
  ·exact Nat.le_trans (shape_pts hsh) RD
theorem F101.law (s : List Feat) (Q : List Feat → Prop) (hb : bulk s ≤ 1048576) (hq : Q s) : F101.E s Q := by
 unfold F101.E
 have hl := bulk_len s
 refine ⟨fun xs i => ∃ u : Nat, i = u ∧ u ≤ s.length ∧ xs = s.take u, fun _ i => (s.length - i).toNat, ⟨0, rfl, Nat.zero_le _, rfl⟩, ?_⟩
 rintro _ _ ⟨u, rfl, hu, rfl⟩
 by_cases h : u < s.length
 ·rw [if_pos (by simpa using h)]
  have hm := bulk_mem (nth_mem s h)
  refine ⟨OM, F80.law _ _ OM ⟨by simp only [List.length_take, List.length_cons, List.length_nil]; omega, OM, ⟨u + 1, OM, OM, ?_⟩, by dsimp only; omega⟩⟩
  rw [take_nth s h]
 ·rw [if_neg (by simpa using h)]
  have : u = s.length := by omega
  subst this
  rw [List.take_length]; exact hq
theorem MD.of {s : List Feat} (h : sheetOk s = true) (hz : ∀ f ∈ s, f.Id ≠ zzI) : MD s := ⟨(MB.of h).mono OM OM, hz⟩
theorem F11.law (code : List UInt8) (Q : List Feat → List Feat → List Feat → Prop) (hq : ∀ o a b, MD o → MD a → MD b → Q o a b) : F11.E code Q := by
 unfold F11.E
 refine F62.law _ _ fun b hb => F73.law _ _ _ hb OM OM fun s p hs _ hz _ p0 p1 => F25.law _ _ _ _ hb OM OM fun v hv0 hv1 => ?_
 have ms := MD.of hs hz
 split
 ·exact F96.law _ _ _ hb OM OM fun t p2 mt _ p3 p4 => F103.law _ _ _ _ hb OM OM hs hz fun r p5 hr rz _ _ => hq _ _ _ mt (.of hr rz) ms
 split
 ·exact F96.law _ _ _ hb OM OM fun t p2 mt _ p3 p4 => F103.law _ _ _ _ hb OM OM hs hz fun r p5 hr rz _ _ => hq _ _ _ ms mt (.of hr rz)
 split
 ·exact F103.law _ _ _ _ hb OM OM hs hz fun r p5 hr rz _ _ => F101.law _ _ (Nat.le_trans (MB.of hr).small RD) (hq _ _ _ ms (.of hr rz) (.of hr rz))
 exact F103.law _ _ _ _ hb OM OM hs hz fun r p5 hr rz _ _ => F103.law _ _ _ _ hb OM OM hr rz fun r2 p6 hr2 rz2 _ _ => F103.law _ _ _ _ hb OM OM hs hz fun r3 p7 hr3 rz3 _ _ => F103.law _ _ _ _ hb OM OM hr3 rz3 fun r4 p8 hr4 rz4 _ _ => hq _ _ _ ms (.of hr2 rz2) (.of hr4 rz4)
theorem F77.law (b : List UInt8) (p : Int) (Q : List Clash → Int → Prop) (hb : b.length ≤ 2000) (hp : 0 ≤ p) (hp1 : p ≤ 1000000) (hq : ∀ s p', s.length ≤ 3 → (∀ c ∈ s, c.Id.length ≤ 6 ∧ c.What.length ≤ 8) → Q s p') : F77.E b p Q := by
 unfold F77.E
 refine F25.law _ _ _ _ hb hp OM fun k hk0 hk1 => ?_
 refine ⟨fun s i z => 0 ≤ i ∧ i ≤ 3 ∧ (s.length : Int) + i ≤ 3 ∧ (∀ c ∈ s, c.Id.length ≤ 6 ∧ c.What.length ≤ 8) ∧ p ≤ z ∧ z ≤ p + 1 + 2 * (3 - i), fun _ i _ => i.toNat, ⟨OM, OM, by simp only [List.length_nil]; omega, by simp, OM, OM⟩, ?_⟩
 rintro s i z ⟨h0, h1, h2, h3, h4, h5⟩
 by_cases hi : i > 0
 case neg => rw [if_neg (by simpa using hi)]; exact hq _ _ OM h3
 rw [if_pos (by simpa using hi)]
 refine F126.law _ _ _ hb OM OM fun id hid => F48.law _ _ _ _ hb OM OM RD fun w hw => ⟨by simp only [List.length_cons, List.length_nil]; omega, by unfold I64; omega, ⟨OM, OM, by simp only [List.length_append, List.length_cons, List.length_nil]; omega, fun c hc => ?_, OM, OM⟩, by dsimp only; omega⟩
 rcases List.mem_append.1 hc with hc | hc
 ·exact h3 c hc
 ·rw [List.mem_singleton.1 hc]
  refine ⟨word_len (idL_ok _ hid), ?_⟩
  simp only [List.mem_cons, List.not_mem_nil, or_false] at hw
  dsimp only
  rcases hw with rfl | rfl | rfl | rfl <;> decide
theorem F12.law (code : List UInt8) (Q : List Clash → List Clash → Prop) (hq : ∀ s t, s.length ≤ 3 → t.length ≤ 3 → Q s t) : F12.E code Q := by
 unfold F12.E
 refine F62.law _ _ fun b hb => F77.law _ _ _ hb OM OM fun s _ h1 _ => F62.law _ _ fun b' hb' => F77.law _ _ _ hb' OM OM fun t _ h2 _ => ?_
 split
 ·rename_i g
  have g : (code.length : Int) > 0 := by simpa using g
  refine ⟨OM, OM, ?_⟩
  split
  ·split
   ·rename_i k
    have k : (t.length : Int) > 0 := by simpa using k
    exact ⟨OM, hq _ _ h1 (by simp only [List.length_take, List.length_drop]; omega)⟩
   ·exact hq _ _ h1 h2
  ·exact hq _ _ h1 h2
 ·exact hq _ _ h1 h2
theorem F13.law (code : List UInt8) (Q : List Clash → Prop) (hq : ∀ s, s.length ≤ 3 → (∀ c ∈ s, c.Id.length ≤ 6 ∧ c.What.length ≤ 8) → Q s) : F13.E code Q := by
 unfold F13.E
 exact F62.law _ _ fun b hb => F77.law _ _ _ hb OM OM fun s _ h1 h2 => hq _ h1 h2
theorem F88.law (n lo hi : Int) (Q : Bool → Prop) (hq : Q (decide (lo ≤ n) && decide (n ≤ hi))) : F88.E n lo hi Q := by
 unfold F88.E
 by_cases h : lo ≤ n
 ·rw [if_pos (by simpa using h)]; rw [decide_eq_true h, Bool.true_and] at hq; exact hq
 ·rw [if_neg (by simpa using h)]; rw [decide_eq_false h, Bool.false_and] at hq; exact hq
theorem F88.m_is (n lo hi : Int) : F88.m n lo hi = (decide (lo ≤ n) && decide (n ≤ hi)) := by
 unfold F88.m
 by_cases h : lo ≤ n
 ·rw [if_pos (by simpa using h), decide_eq_true h, Bool.true_and]
 ·rw [if_neg (by simpa using h), decide_eq_false h, Bool.false_and]
theorem F89.law (s : Str) (Q : Bool → Prop) (hl : s.length ≤ 1048576) (hq : Q (wordOk s)) : F89.E s Q := by
 unfold F89.E
 unfold wordOk at hq
 refine loop_all s.length (fun k => byteOk (nth s (k : Int))) (fun I mu k hk hp hn => ?_) (fun ha => ?_)
 ·refine ⟨OM, ?_⟩
  cases h1 : decide (((nth s (k : Int)).toNat : Int) < 97) with
  | true => rw [if_pos rfl]; rw [allN_false hk (by simp only [byteOk, h1]; rfl), Bool.false_and] at hq; exact hq
  | false =>
   rw [if_neg RD]
   refine ⟨OM, ?_⟩
   cases h2 : decide (((nth s (k : Int)).toNat : Int) > 122) with
   | true => rw [if_pos rfl]; rw [allN_false hk (by simp only [byteOk, h1, h2]; rfl), Bool.false_and] at hq; exact hq
   | false =>
    rw [if_neg RD]
    obtain ⟨i1, i2⟩ := hn (by simp only [byteOk, h1, h2]; rfl)
    exact ⟨by unfold I64; omega, i1, i2⟩
 ·rw [allN_true ha, Bool.true_and] at hq
  refine F88.law _ _ _ _ ?_
  have e1 : decide ((1 : Int) ≤ (s.length : Int)) = decide (1 ≤ s.length) := decide_eq_decide.2 OM
  have e2 : decide ((s.length : Int) ≤ 6) = decide (s.length ≤ 6) := decide_eq_decide.2 OM
  rw [e1, e2]; exact hq
theorem F127.law (p : Pt) (Q : Bool → Prop) (hq : Q (ptOk p)) : F127.E p Q := by
 unfold F127.E
 unfold ptOk at hq
 refine F88.law _ _ _ _ ?_
 change if inR p.X = true then _ else _
 cases h : inR p.X with
 | true => rw [if_pos rfl]; rw [h, Bool.true_and] at hq; exact F88.law _ _ _ _ hq
 | false => rw [if_neg RD]; rw [h, Bool.false_and] at hq; exact hq
theorem F65.law (s : Shape) (Q : Bool → Prop) (hl : s.Pts.length ≤ 1048576) (hq : Q (shapeOk s)) : F65.E s Q := by
 unfold F65.E
 unfold shapeOk ptsOk at hq
 refine loop_all s.Pts.length (fun k => ptOk (nth s.Pts (k : Int)) && (decide (k = 0) || !(decide (nth s.Pts ((k : Int) - 1) = nth s.Pts (k : Int))))) (fun I mu k hk hp hn => ?_) (fun ha => ?_)
 ·refine ⟨OM, _, F127.law _ _ rfl, ?_⟩
  have bad : (ptOk (nth s.Pts (k : Int)) && (decide (k = 0) || !(decide (nth s.Pts ((k : Int) - 1) = nth s.Pts (k : Int))))) = false → Q false := fun h => by
   rw [allN_false hk h, Bool.false_and] at hq; exact hq
  cases h1 : ptOk (nth s.Pts (k : Int)) with
  | false => rw [if_pos RD]; exact bad (by rw [h1]; rfl)
  | true =>
   rw [if_neg RD]
   by_cases hk0 : k = 0
   ·rw [if_neg (by rw [decide_eq_true_eq]; omega)]
    obtain ⟨i1, i2⟩ := hn (by rw [h1, decide_eq_true hk0]; rfl)
    exact ⟨by unfold I64; omega, i1, i2⟩
   ·rw [if_pos (by rw [decide_eq_true_eq]; omega)]
    refine ⟨by unfold I64; omega, OM, ?_⟩
    rw [eqPt_is]
    by_cases he : nth s.Pts ((k : Int) - 1) = nth s.Pts (k : Int)
    ·rw [if_pos (by rw [decide_eq_true_eq]; exact he)]
     exact bad (by rw [h1, decide_eq_false hk0, decide_eq_true he]; rfl)
    ·rw [if_neg (by rw [decide_eq_true_eq]; exact he)]
     obtain ⟨i1, i2⟩ := hn (by simp only [h1, decide_eq_false hk0, decide_eq_false he]; rfl)
     exact ⟨by unfold I64; omega, i1, i2⟩
 ·rw [allN_true ha, Bool.true_and] at hq
  unfold kindOk at hq
  by_cases k1 : s.Kind = 1
  ·rw [if_pos k1] at hq
   rw [if_pos (by rw [beq_iff_eq]; exact k1)]
   have : ((s.Pts.length : Int) == 1) = decide (s.Pts.length = 1) := by rw [Bool.eq_iff_iff, beq_iff_eq, decide_eq_true_eq]; omega
   rw [this]; exact hq
  rw [if_neg k1] at hq
  rw [if_neg (by rw [beq_iff_eq]; exact k1)]
  have e2 : decide ((2 : Int) ≤ (s.Pts.length : Int)) = decide (2 ≤ s.Pts.length) := decide_eq_decide.2 OM
  have e3 : decide ((3 : Int) ≤ (s.Pts.length : Int)) = decide (3 ≤ s.Pts.length) := decide_eq_decide.2 OM
  have e6 : decide ((s.Pts.length : Int) ≤ 6) = decide (s.Pts.length ≤ 6) := decide_eq_decide.2 OM
  by_cases k2 : s.Kind = 2
  ·rw [if_pos k2] at hq
   rw [if_pos (by rw [beq_iff_eq]; exact k2)]
   refine F88.law _ _ _ _ ?_
   rw [e2, e6]; exact hq
  rw [if_neg k2] at hq
  rw [if_neg (by rw [beq_iff_eq]; exact k2)]
  by_cases k3 : s.Kind = 3
  ·rw [if_pos k3] at hq
   rw [if_pos (by rw [beq_iff_eq]; exact k3), F88.m_is, e3, e6]
   cases hc : decide (3 ≤ s.Pts.length) && decide (s.Pts.length ≤ 6) with
   | true =>
    rw [hc, Bool.true_and] at hq
    rw [Bool.and_eq_true, decide_eq_true_eq, decide_eq_true_eq] at hc
    rw [if_pos rfl, eqPt_is]
    exact ⟨OM, fun _ => by unfold I64; omega, OM, hq⟩
   | false =>
    rw [hc, Bool.false_and] at hq
    rw [if_neg RD]; exact hq
  ·rw [if_neg k3] at hq
   rw [if_neg (by rw [beq_iff_eq]; exact k3)]; exact hq
theorem F90.law (f : Feat) (Q : Bool → Prop) (hb : bulk f ≤ 1048576) (hq : Q (featOk f)) : F90.E f Q := by
 unfold F90.E
 unfold featOk at hq
 have b1 : bulk f = bulk f.Id + bulk f.Shape + bulk f.Tags := rfl
 have b2 : bulk f.Shape = bulk f.Shape.Kind + bulk f.Shape.Pts := rfl
 have l1 := bulk_len f.Tags; have l2 := bulk_len f.Shape.Pts; have l3 := bulk_len f.Id
 have core : (tagsOk f.Tags = true → F89.E f.Id (fun r3 => (if r3 then F65.E f.Shape (fun r4 => (if r4 then Q (decide ((f.Tags.length : Int) ≤ 4)) else Q false)) else Q false))) := fun ha => by
  rw [ha, Bool.true_and] at hq
  refine F89.law _ _ OM ?_
  cases h1 : wordOk f.Id with
  | false => rw [h1, Bool.and_false, Bool.false_and] at hq; rw [if_neg RD]; exact hq
  | true =>
   rw [h1, Bool.and_true] at hq
   rw [if_pos rfl]
   refine F65.law _ _ OM ?_
   cases h2 : shapeOk f.Shape with
   | false => rw [h2, Bool.and_false] at hq; rw [if_neg RD]; exact hq
   | true =>
    rw [h2, Bool.and_true] at hq; rw [if_pos rfl]
    have e2 : decide ((f.Tags.length : Int) ≤ 4) = decide (f.Tags.length ≤ 4) := decide_eq_decide.2 OM
    rw [e2]; exact hq
 have bad : tagsOk f.Tags = false → Q false := fun h => by
  rw [h, Bool.false_and, Bool.false_and, Bool.false_and] at hq; exact hq
 unfold tagsOk at core bad
 refine loop_all f.Tags.length (fun k => wordOk (nth f.Tags (k : Int)).Key && wordOk (nth f.Tags (k : Int)).Val && (decide (k = 0) || Op.bytesLess (nth f.Tags ((k : Int) - 1)).Key (nth f.Tags (k : Int)).Key)) (fun I mu k hk hp hn => ?_) (fun ha => core (allN_true ha))
 have bad := fun h => bad (allN_false hk h)
 have m1 := bulk_mem (nth_mem f.Tags hk)
 have m2 : bulk (nth f.Tags (k : Int)) = bulk (nth f.Tags (k : Int)).Key + bulk (nth f.Tags (k : Int)).Val := rfl
 have m3 := bulk_len (nth f.Tags (k : Int)).Key; have m4 := bulk_len (nth f.Tags (k : Int)).Val
 refine ⟨OM, _, F89.law _ _ OM rfl, ?_⟩
 cases h1 : wordOk (nth f.Tags (k : Int)).Key with
 | false => rw [if_pos RD]; exact bad (by rw [h1]; rfl)
 | true =>
  rw [if_neg RD]
  refine ⟨_, F89.law _ _ OM rfl, ?_⟩
  cases h2 : wordOk (nth f.Tags (k : Int)).Val with
  | false => rw [if_pos RD]; exact bad (by rw [h2, Bool.and_false]; rfl)
  | true =>
   rw [if_neg RD]
   by_cases hk0 : k = 0
   ·rw [if_neg (by rw [decide_eq_true_eq]; omega)]
    obtain ⟨i1, i2⟩ := hn (by rw [h1, h2, decide_eq_true hk0]; rfl)
    exact ⟨by unfold I64; omega, i1, i2⟩
   ·rw [if_pos (by rw [decide_eq_true_eq]; omega)]
    refine ⟨by unfold I64; omega, OM, ?_⟩
    cases h3 : Op.bytesLess (nth f.Tags ((k : Int) - 1)).Key (nth f.Tags (k : Int)).Key with
    | false => rw [if_pos RD]; exact bad (by rw [h3, h1, h2, decide_eq_false hk0]; rfl)
    | true =>
     rw [if_neg RD]
     obtain ⟨i1, i2⟩ := hn (by rw [h3, h1, h2, decide_eq_false hk0]; rfl)
     exact ⟨by unfold I64; omega, i1, i2⟩
theorem F74.law (d : List Feat) (Q : Bool → Prop) (hb : bulk d ≤ 1048576) (hq : Q (sheetOk d)) : F74.E d Q := by
 unfold F74.E
 unfold sheetOk at hq
 have hl := bulk_len d
 refine loop_all d.length (fun k => featOk (nth d (k : Int)) && (decide (k = 0) || Op.bytesLess (nth d ((k : Int) - 1)).Id (nth d (k : Int)).Id)) (fun I mu k hk hp hn => ?_) (fun ha => ?_)
 ·have bad : (featOk (nth d (k : Int)) && (decide (k = 0) || Op.bytesLess (nth d ((k : Int) - 1)).Id (nth d (k : Int)).Id)) = false → Q false := fun h => by
   rw [allN_false hk h, Bool.false_and] at hq; exact hq
  have m1 := bulk_mem (nth_mem d hk)
  refine ⟨OM, _, F90.law _ _ OM rfl, ?_⟩
  cases h1 : featOk (nth d (k : Int)) with
  | false => rw [if_pos RD]; exact bad (by rw [h1]; rfl)
  | true =>
   rw [if_neg RD]
   by_cases hk0 : k = 0
   ·rw [if_neg (by rw [decide_eq_true_eq]; omega)]
    obtain ⟨i1, i2⟩ := hn (by rw [h1, decide_eq_true hk0]; rfl)
    exact ⟨by unfold I64; omega, i1, i2⟩
   ·rw [if_pos (by rw [decide_eq_true_eq]; omega)]
    refine ⟨by unfold I64; omega, OM, ?_⟩
    cases h3 : Op.bytesLess (nth d ((k : Int) - 1)).Id (nth d (k : Int)).Id with
    | false => rw [if_pos RD]; exact bad (by rw [h3, h1, decide_eq_false hk0]; rfl)
    | true =>
     rw [if_neg RD]
     obtain ⟨i1, i2⟩ := hn (by rw [h3, h1, decide_eq_false hk0]; rfl)
     exact ⟨by unfold I64; omega, i1, i2⟩
 ·rw [allN_true ha, Bool.true_and] at hq
  have e2 : decide ((d.length : Int) ≤ 8) = decide (d.length ≤ 8) := decide_eq_decide.2 OM
  rw [e2]; exact hq
def idsAll (maps : List (List Feat)) : List Str := (maps.map ids).flatten
theorem idsAll_snoc (m : List (List Feat)) (s : List Feat) : idsAll (m ++ [s]) = idsAll m ++ ids s := by unfold idsAll; simp
theorem idsAll_take (m : List (List Feat)) (k : Nat) : (idsAll (m.take k)).length ≤ (idsAll m).length := by
 have h : idsAll m = idsAll (m.take k) ++ idsAll (m.drop k) := by
  unfold idsAll; rw [← List.flatten_append, ← List.map_append, List.take_append_drop]
 rw [h, List.length_append]; omega
theorem F120.law (maps : List (List Feat)) (Q : List Str → Prop) (h1 : maps.length ≤ 1048576) (h2 : (idsAll maps).length ≤ 268435456) (h3 : ∀ s ∈ maps, s.length ≤ 1048576) (hq : Q (uniq (idsAll maps))) : F120.E maps Q := by
 unfold F120.E
 refine ⟨fun xs i => ∃ u : Nat, i = u ∧ u ≤ maps.length ∧ xs = idsAll (maps.take u), fun _ i => (maps.length - i).toNat, ⟨0, rfl, Nat.zero_le _, rfl⟩, ?_⟩
 rintro _ _ ⟨u, rfl, hu, rfl⟩
 by_cases h : u < maps.length
 ·rw [if_pos (by simpa using h)]
  have hs := h3 _ (nth_mem maps h)
  have ht := idsAll_take maps (u + 1)
  rw [take_nth maps h, idsAll_snoc, List.length_append] at ht
  have hil : (ids (nth maps (u : Int))).length = (nth maps (u : Int)).length := by unfold ids; simp
  refine ⟨OM, fun xs j => ∃ v : Nat, j = v ∧ v ≤ (nth maps (u : Int)).length ∧ xs = idsAll (maps.take u) ++ ids ((nth maps (u : Int)).take v), fun _ j => ((nth maps (u : Int)).length - j).toNat, ⟨0, rfl, Nat.zero_le _, by simp [ids]⟩, ?_⟩
  rintro _ _ ⟨v, rfl, hv, rfl⟩
  by_cases g : v < (nth maps (u : Int)).length
  ·rw [if_pos (by simpa using g)]
   have hiv : (ids ((nth maps (u : Int)).take v)).length ≤ v := by unfold ids; simp; omega
   refine ⟨OM, by simp only [List.length_append, List.length_cons, List.length_nil]; omega, by unfold I64; omega, ⟨v + 1, OM, OM, ?_⟩, by dsimp only; omega⟩
   rw [take_nth _ g, ids_app, List.append_assoc]; rfl
  ·rw [if_neg (by simpa using g)]
   have : v = (nth maps (u : Int)).length := by omega
   subst this
   refine ⟨by unfold I64; omega, ⟨u + 1, OM, OM, ?_⟩, by dsimp only; omega⟩
   rw [List.take_length, take_nth maps h, idsAll_snoc]
 ·rw [if_neg (by simpa using h)]
  have : u = maps.length := by omega
  subst this
  rw [List.take_length]
  unfold F7.E F0.E
  exact ⟨h2, by unfold sortS; rw [List.length_mergeSort]; exact h2, hq⟩
theorem F1.law (s : List Feat) (f : Feat → Bool) (ok : Feat → Prop) (Q : Int → Prop) (hl : s.length ≤ 1048576) (hok : ∀ x ∈ s, ok x) (hq : Q (findN s.length fun j => f (nth s (j : Int)))) : F1.E s f ok Q := by
 unfold F1.E
 refine loop_find s.length (fun j => f (nth s (j : Int))) hq (fun I mu k hk h1 h2 => ⟨OM, hok _ (nth_mem s hk), ?_⟩)
 cases h : f (nth s (k : Int)) with
 | true => rw [if_pos rfl]; exact h1 h
 | false => rw [if_neg RD]; obtain ⟨i1, i2⟩ := h2 h; exact ⟨by unfold I64; omega, i1, i2⟩
theorem F97.law (s : List Feat) (id : Str) (Q : Int → Prop) (hl : s.length ≤ 1048576) (hq : Q (findN s.length fun j => (nth s (j : Int)).Id == id)) : F97.E s id Q := by
 unfold F97.E
 refine ⟨fun x => x.Id == id, fun x => x ∈ s, fun x hx => ?_, F1.law _ _ _ _ hl (fun x hx => hx) hq⟩
 unfold F56.E
 rfl
theorem F36.law (f : Feat) (Q : Feat → Prop) (hb : bulk f ≤ 1048576) (hq : Q f) : F36.E f Q := by
 unfold F36.E F26.E
 have h := bulk_feat f
 have h1 := bulk_len f.Tags
 have h2 := bulk_len f.Shape.Pts
 exact ⟨by simp only [List.length_nil]; omega, by simp only [List.length_nil]; omega, hq⟩
theorem F129.law (s : List Feat) (id : Str) (Q : Feat → Bool → Prop) (hb : bulk s ≤ 1048576) (hq : Q (sideOf s id).1 (sideOf s id).2) : F129.E s id Q := by
 unfold F129.E
 have hl := bulk_len s
 refine F97.law _ _ _ OM ?_
 have h1 := findN_le s.length fun j => (nth s (j : Int)).Id == id
 unfold sideOf at hq
 by_cases h : findN s.length (fun j => (nth s (j : Int)).Id == id) < 0
 ·rw [if_pos h] at hq; rw [if_pos (by simpa using h)]; exact hq
 ·rw [if_neg h] at hq; rw [if_neg (by simpa using h)]
  exact ⟨OM, F36.law _ _ (by have := bulk_mem (nth_memi s OM h1.2); omega) hq⟩
theorem F75.law (s : List Feat) (id : Str) (Q : thing → Prop) (hb : bulk s ≤ 1048576) (hq : Q (thOf s id)) : F75.E s id Q := by
 unfold F75.E
 exact F129.law s id _ hb hq
theorem F40.law (a b : thing) (Q : Bool → Prop) (hb : a.f.Shape.Pts.length ≤ 1048576 ∧ a.f.Tags.length ≤ 1048576) (hq : Q (decide (a = b))) : F40.E a b Q := by
 unfold F40.E
 by_cases h : a.has = b.has
 ·rw [if_pos (by simpa using h)]
  refine F55.law _ _ _ hb ?_
  have e : decide (a.f = b.f) = decide (a = b) := decide_eq_decide.2 (by rw [thing.ext_iff']; exact ⟨fun g => ⟨h, g⟩, fun g => g.2⟩)
  rw [e]; exact hq
 ·rw [if_neg (by simpa using h)]
  rw [decide_eq_false fun e => h (by rw [e])] at hq; exact hq
theorem F9.law (o a b : thing) (ok : thing → thing → Prop) (Q : thing → Bool → Prop) (h1 : ok a o) (h2 : ok b o) (h3 : ok a b) (hq : Q (three o a b).1 (three o a b).2) : F9.E o a b (fun x y => decide (x = y)) ok Q := by
 unfold F9.E
 unfold three at hq
 refine ⟨h1, ?_⟩
 by_cases e1 : a = o
 ·rw [if_pos e1] at hq; rw [if_pos (decide_eq_true e1)]; exact hq
 ·rw [if_neg e1] at hq; rw [if_neg (by simpa using e1)]
  refine ⟨h2, ?_⟩
  by_cases e2 : b = o
  ·rw [if_pos e2] at hq; rw [if_pos (decide_eq_true e2)]; exact hq
  ·rw [if_neg e2] at hq; rw [if_neg (by simpa using e2)]
   refine ⟨h3, ?_⟩
   by_cases e3 : a = b
   ·rw [if_pos e3] at hq; rw [if_pos (decide_eq_true e3)]; exact hq
   ·rw [if_neg e3] at hq; rw [if_neg (by simpa using e3)]; exact hq
theorem F67.law (a b : List Pt) (Q : List (List Int) → Prop) (ha : a.length ≤ 1048576) (hb : b.length ≤ 1048576) (hq : ∀ t, Tab a b (fun _ _ => True) t → Q t) : F67.E a b Q := by
 unfold F67.E
 have hn : ((b.length : Int) + 1).toNat = b.length + 1 := by omega
 have hm : ((a.length : Int) + 1).toNat = a.length + 1 := by omega
 rw [hn, hm]
 refine ⟨fun _ => by unfold I64; omega, OM, fun xs v => ∃ k : Nat, v = k ∧ k ≤ a.length + 1 ∧ xs.length = a.length + 1 ∧ ∀ r : Nat, r < k → nth xs (r : Int) = List.replicate (b.length + 1) 0, fun _ v => (a.length + 1 - v).toNat,
  ⟨0, rfl, Nat.zero_le _, by simp, fun r hr => absurd hr (Nat.not_lt_zero _)⟩, ?_⟩
 rintro xs _ ⟨k, rfl, hk, hl, hx⟩
 rw [List.length_replicate]
 by_cases hk0 : (k : Int) < ((a.length + 1 : Nat) : Int)
 ·rw [if_pos (by simpa using hk0)]
  refine ⟨fun _ => by unfold I64; omega, OM, OM, fun _ => by unfold I64; omega, ⟨k + 1, OM, OM, by rw [List.length_set]; exact hl, fun r hr => ?_⟩, by dsimp only; omega⟩
  rw [Int.toNat_natCast, nth_set _ OM]
  by_cases e : r = k
  ·rw [if_pos e]
  ·rw [if_neg e]; exact hx r OM
 rw [if_neg (by simpa using hk0)]
 refine ⟨fun _ => by unfold I64; omega, fun xs i => ∃ k : Nat, i = (k : Int) - 1 ∧ k ≤ a.length ∧ Tab a b (fun r m => k ≤ r ∨ m = b.length) xs, fun _ i => (i + 1).toNat, ⟨a.length, rfl, Nat.le_refl _, hl, fun r hr => ?_⟩, ?_⟩
 ·rw [hx r OM]
  refine ⟨by simp, fun m hm hd => ?_⟩
  rw [nth_rep _ _ _ OM]
  rcases hd with hd | hd
  ·rw [List.drop_of_length_le (by omega : a.length ≤ r), lcs_nil]; rfl
  ·rw [hd, List.drop_length, lcs_nil2]; rfl
 clear hx hl hk0 hk xs k
 rintro xs _ ⟨k, rfl, hk, ht⟩
 by_cases hk0 : (k : Int) - 1 ≥ 0
 ·rw [if_pos (by simpa using hk0)]
  obtain ⟨i, rfl⟩ : ∃ i, k = i + 1 := ⟨k - 1, OM⟩
  have ei : ((i + 1 : Nat) : Int) - 1 = (i : Int) := by omega
  have ei1 : (i : Int) + 1 = ((i + 1 : Nat) : Int) := by omega
  rw [ei]
  refine ⟨fun _ => by unfold I64; omega, fun ys j => ∃ m : Nat, j = (m : Int) - 1 ∧ m ≤ b.length ∧ Tab a b (fun r u => i < r ∨ (r = i ∧ m ≤ u) ∨ u = b.length) ys, fun _ j => (j + 1).toNat, ⟨b.length, rfl, Nat.le_refl _, ht.1, fun r hr => ⟨(ht.2 r hr).1, fun m hm hd => (ht.2 r hr).2 m hm ?_⟩⟩, ?_⟩
  ·omega
  rintro ys _ ⟨m, rfl, hm, hs⟩
  by_cases hm0 : (m : Int) - 1 ≥ 0
  ·rw [if_pos (by simpa using hm0)]
   obtain ⟨j, rfl⟩ : ∃ j, m = j + 1 := ⟨m - 1, OM⟩
   have ej : ((j + 1 : Nat) : Int) - 1 = (j : Int) := by omega
   have ej1 : (j : Int) + 1 = ((j + 1 : Nat) : Int) := by omega
   rw [ej, ej1, ei1, eqPt_is]
   have hl := lcs_drop a b (i := i) (j := j) OM OM
   have s0 := hs.1
   have s1 := hs.2 i OM
   have s2 := hs.2 (i + 1) OM
   have n1 := s2.2 (j + 1) OM (.inl OM)
   have n2 := s2.2 j OM (.inl OM)
   have n3 := s1.2 (j + 1) OM (.inr (.inl ⟨rfl, OM⟩))
   have l1 := s1.1
   have l2 := s2.1
   have b1 := lcs_le2 (a.drop (i + 1)) (b.drop (j + 1))
   rw [List.length_drop] at b1
   have hset : ∀ v : Int, v = (lcs (a.drop i) (b.drop j) : Nat) → Tab a b (fun r u => i < r ∨ (r = i ∧ j ≤ u) ∨ u = b.length) (ys.set (i : Int).toNat ((nth ys (i : Int)).set (j : Int).toNat v)) := fun v hv => by
    rw [Int.toNat_natCast, Int.toNat_natCast]
    exact hs.set OM OM hv fun r u h => by omega
   refine ⟨OM, OM, ?_⟩
   by_cases he : nth a (i : Int) = nth b (j : Int)
   ·rw [if_pos (by simpa using he)]
    rw [if_pos he] at hl
    rw [n1]
    exact ⟨OM, by unfold I64; omega, OM, by unfold I64; omega, OM, by unfold I64; omega, OM, by unfold I64; omega, ⟨j, OM, OM, hset _ OM⟩, by dsimp only; omega⟩
   ·rw [if_neg (by simpa using he)]
    rw [if_neg he] at hl
    rw [n2, n3]
    exact ⟨OM, by unfold I64; omega, OM, OM, OM, by unfold I64; omega, OM, OM, by unfold I64; omega, ⟨j, OM, OM, hset _ OM⟩, by dsimp only; omega⟩
  ·rw [if_neg (by simpa using hm0)]
   have : m = 0 := by omega
   subst this
   refine ⟨by unfold I64; omega, ⟨i, OM, OM, hs.1, fun r hr => ⟨(hs.2 r hr).1, fun m hm hd => (hs.2 r hr).2 m hm ?_⟩⟩, by dsimp only; omega⟩
   omega
 ·rw [if_neg (by simpa using hk0)]
  have : k = 0 := by omega
  subst this
  exact hq _ ⟨ht.1, fun r hr => ⟨(ht.2 r hr).1, fun m hm _ => (ht.2 r hr).2 m hm (.inl (Nat.zero_le _))⟩⟩
theorem F50.law (a b : List Pt) (Q : List Pair → Prop) (hq : Q (spairs a b)) : F50.E a b Q := by
 unfold F50.E
 unfold spairs at hq
 by_cases h1 : (a.length : Int) > 12
 ·rw [if_pos (by simpa using h1)]
  rw [if_neg (by rw [few_iff]; omega)] at hq; exact hq
 rw [if_neg (by simpa using h1)]
 by_cases h2 : (b.length : Int) > 12
 ·rw [if_pos (by simpa using h2)]
  rw [if_neg (by rw [few_iff]; omega)] at hq; exact hq
 rw [if_neg (by simpa using h2)]
 rw [if_pos (by rw [few_iff]; omega)] at hq
 refine F67.law _ _ _ OM OM fun t ht => ?_
 refine ⟨fun xs i j => ∃ u v : Nat, i = u ∧ j = v ∧ u ≤ a.length ∧ v ≤ b.length ∧ xs ++ (pairs u v (a.drop u) (b.drop v)).map mkP = (pairs 0 0 a b).map mkP, fun _ i j => ((a.length - i) + (b.length - j)).toNat, ⟨0, 0, rfl, rfl, Nat.zero_le _, Nat.zero_le _, rfl⟩, ?_⟩
 rintro xs _ _ ⟨u, v, rfl, rfl, hu, hv, hx⟩
 by_cases hu0 : (u : Int) < (a.length : Int)
 ·rw [if_pos (by simpa using hu0)]
  by_cases hv0 : (v : Int) < (b.length : Int)
  ·rw [if_pos (by simpa using hv0)]
   have hu1 : u < a.length := by omega
   have hv1 : v < b.length := by omega
   rw [pairs_drop a b hu1 hv1] at hx
   have eu : (u : Int) + 1 = ((u + 1 : Nat) : Int) := by omega
   have ev : (v : Int) + 1 = ((v + 1 : Nat) : Int) := by omega
   rw [eqPt_is, eu, ev]
   refine ⟨OM, OM, ?_⟩
   by_cases he : nth a (u : Int) = nth b (v : Int)
   ·rw [if_pos (by simpa using he)]
    rw [if_pos he, List.map_cons] at hx
    have hl := congrArg List.length hx
    rw [List.length_map, pairs_len, List.length_append] at hl
    have := lcs_le1 a b
    exact ⟨by simp only [List.length_singleton]; omega, OM, OM, ⟨u + 1, v + 1, rfl, rfl, OM, OM, by rw [List.append_assoc]; exact hx⟩, by dsimp only; omega⟩
   ·rw [if_neg (by simpa using he)]
    rw [if_neg he] at hx
    have t0 := ht.1
    have t1 := ht.2 u OM
    have t2 := ht.2 (u + 1) OM
    have n1 := t2.2 v OM trivial
    have n2 := t1.2 (v + 1) OM trivial
    have l1 := t1.1
    have l2 := t2.1
    refine ⟨OM, OM, OM, OM, OM, OM, ?_⟩
    rw [n1, n2]
    by_cases hc : lcs (a.drop u) (b.drop (v + 1)) ≤ lcs (a.drop (u + 1)) (b.drop v)
    ·rw [if_pos (by simpa using hc)]
     rw [if_pos hc] at hx
     exact ⟨OM, ⟨u + 1, v, rfl, rfl, OM, OM, hx⟩, by dsimp only; omega⟩
    ·rw [if_neg (by simpa using hc)]
     rw [if_neg hc] at hx
     exact ⟨OM, ⟨u, v + 1, rfl, rfl, OM, OM, hx⟩, by dsimp only; omega⟩
  ·rw [if_neg (by simpa using hv0)]
   rw [List.drop_of_length_le (by omega : b.length ≤ v), pairs_nil2, List.map_nil, List.append_nil] at hx
   rw [hx]; exact hq
 ·rw [if_neg (by simpa using hu0)]
  rw [List.drop_of_length_le (by omega : a.length ≤ u), pairs_nil, List.map_nil, List.append_nil] at hx
  rw [hx]; exact hq
theorem F68.law (l : List Pair) (k : Int) (Q : Int → Prop) (hl : l.length ≤ 1048576) (hq : Q (mateI l k)) : F68.E l k Q := by
 unfold F68.E
 refine ⟨fun i => ∃ u : Nat, i = u ∧ u ≤ l.length ∧ mateI (l.drop u) k = mateI l k, fun i => (l.length - i).toNat, ⟨0, rfl, Nat.zero_le _, rfl⟩, ?_⟩
 rintro _ ⟨u, rfl, hu, he⟩
 by_cases h : (u : Int) < (l.length : Int)
 ·rw [if_pos (by simpa using h)]
  rw [drop_nth l OM, mateI_cons] at he
  refine ⟨OM, ?_⟩
  by_cases hc : ((nth l (u : Int)).A == k) = true
  ·rw [if_pos hc] at he ⊢
   rw [he]; exact hq
  ·rw [if_neg hc] at he ⊢
   exact ⟨by unfold I64; omega, ⟨u + 1, OM, OM, he⟩, by dsimp only; omega⟩
 ·rw [if_neg (by simpa using h)]
  rw [List.drop_of_length_le (by omega : l.length ≤ u), mateI_nil] at he
  rw [he]; exact hq
theorem F51.law (o a b : List Pt) (Q : List Pt → Bool → Prop) (hs : ∀ r, smerge o a b = some r → Q r true) (hn : smerge o a b = none → Q [] false) : F51.E o a b Q := by
 unfold F51.E
 by_cases c1 : (o.length : Int) > 12
 ·rw [if_pos (by simpa using c1)]
  exact hn (smerge_not (.inl (few_not.2 OM)))
 rw [if_neg (by simpa using c1)]
 by_cases c2 : (a.length : Int) > 12
 ·rw [if_pos (by simpa using c2)]
  exact hn (smerge_not (.inl (few_not.2 OM)))
 rw [if_neg (by simpa using c2)]
 by_cases c3 : (b.length : Int) > 12
 ·rw [if_pos (by simpa using c3)]
  exact hn (smerge_not (.inr (few_not.2 OM)))
 rw [if_neg (by simpa using c3)]
 have h1 : few o a = true := few_iff.2 OM
 have h2 : few o b = true := few_iff.2 OM
 refine F50.law _ _ _ (F50.law _ _ _ ?_)
 have lo := spairs_len o a; have lo2 := spairs_len o b
 have so := slen_le o a; have so2 := slen_le o b
 refine ⟨fun xs i j k t => (∃ i' j' k' t' : Nat, i = i' ∧ j = j' ∧ k = k' ∧ t = t' ∧ MInv o a b xs i' j' k' t') ∨ (t = (o.length : Int) + 1 ∧ smerge o a b = some xs), fun _ _ _ _ t => (o.length + 1 - t).toNat, .inl ⟨0, 0, 0, 0, rfl, rfl, rfl, rfl, MInv.zero h1 h2⟩, ?_⟩
 rintro xs _ _ _ _ (⟨i, j, k, t, rfl, rfl, rfl, rfl, h⟩ | ⟨rfl, h⟩)
 ·have ht := h.ht; have hi := h.hi; have hj := h.hj; have hk := h.hk; have hl := h.len
  rw [if_pos (by simp; omega)]
  simp only [Int.toNat_natCast]
  by_cases ht0 : (t : Int) < (o.length : Int)
  ·rw [if_pos (by simpa using ht0)]
   refine F68.law _ _ _ OM (F68.law _ _ _ OM ?_)
   rw [mate_part h1, mate_part h2]
   cases hx : part o a t with
   | none =>
    rw [if_pos RD]
    exact ⟨OM, .inl ⟨i, j, k, t + 1, rfl, rfl, rfl, rfl, h.skip OM (.inl hx)⟩, OM⟩
   | some x =>
    rw [if_neg (by simp)]
    cases hy : part o b t with
    | none =>
     rw [if_pos RD]
     exact ⟨OM, .inl ⟨i, j, k, t + 1, rfl, rfl, rfl, rfl, h.skip OM (.inr hy)⟩, OM⟩
    | some y =>
     rw [if_neg (by simp)]
     dsimp only
     obtain ⟨g1, g2, g3, g4⟩ := h.from hx hy
     refine ⟨OM, OM, OM, ?_⟩
     simp only [Int.toNat_natCast]
     have s1 := seg_len o i t OM; have s2 := seg_len a j x OM; have s3 := seg_len b k y OM
     have hs1 : ∀ p, pickL (seg o i t) (seg a j x) (seg b k y) = some p → p.length ≤ (x - j) + (y - k) ∧ MInv o a b (xs ++ p ++ [nth o (t : Int)]) (t + 1) (x + 1) (y + 1) (t + 1) := fun p hp =>
      ⟨by have := (pickL_mem hp).2.2.2; omega, h.step OM hx hy hp⟩
     have hn1 : pickL (seg o i t) (seg a j x) (seg b k y) = none → smerge o a b = none := h.stop OM hx hy
     change F28.E (seg a j x) (seg o i t) _
     simp only [← seg.eq_1]
     generalize seg o i t = so at *
     generalize seg a j x = sa at *
     generalize seg b k y = sb at *
     refine F28.law _ _ _ OM ⟨fun ys => ∃ p, p.length ≤ (x - j) + (y - k) ∧ MInv o a b (xs ++ p ++ [nth o (t : Int)]) (t + 1) (x + 1) (y + 1) (t + 1) ∧ ys = xs ++ p, ?_, ?_⟩
     ·by_cases q1 : sa = so
      ·rw [if_pos (by simpa using q1)]
       obtain ⟨hm, hi⟩ := hs1 sb (by unfold pickL; rw [if_pos q1])
       exact ⟨OM, sb, hm, hi, rfl⟩
      rw [if_neg (by simpa using q1)]
      refine F28.law _ _ _ OM ?_
      by_cases q2 : sb = so
      ·rw [if_pos (by simpa using q2)]
       obtain ⟨hm, hi⟩ := hs1 sa (by unfold pickL; rw [if_neg q1, if_pos q2])
       exact ⟨OM, sa, hm, hi, rfl⟩
      rw [if_neg (by simpa using q2)]
      refine F28.law _ _ _ OM ?_
      by_cases q3 : sa = sb
      ·rw [if_pos (by simpa using q3)]
       obtain ⟨hm, hi⟩ := hs1 sa (by unfold pickL; rw [if_neg q1, if_neg q2, if_pos q3])
       exact ⟨OM, sa, hm, hi, rfl⟩
      rw [if_neg (by simpa using q3)]
      exact hn (hn1 (by unfold pickL; rw [if_neg q1, if_neg q2, if_neg q3]))
     ·rintro _ ⟨p, hm, hi, rfl⟩
      exact ⟨OM, by simp only [List.length_append, List.length_singleton]; omega, OM, fun _ => by unfold I64; omega, fun _ => by unfold I64; omega, OM, .inl ⟨t + 1, x + 1, y + 1, t + 1, rfl, rfl, rfl, rfl, hi⟩, OM⟩
  ·rw [if_neg (by simpa using ht0)]
   have : t = o.length := by omega
   subst this
   refine ⟨OM, OM, OM, ?_⟩
   have hlast := h.last
   have e1 : (o.drop i).take (o.length - i) = o.drop i := seg_end o i
   have e2 : (a.drop j).take (a.length - j) = a.drop j := seg_end a j
   have e3 : (b.drop k).take (b.length - k) = b.drop k := seg_end b k
   rw [e1, e2, e3]
   have s2 : (a.drop j).length = a.length - j := List.length_drop; have s3 : (b.drop k).length = b.length - k := List.length_drop
   have hs1 : ∀ p, pickL (o.drop i) (a.drop j) (b.drop k) = some p → p.length ≤ (a.length - j) + (b.length - k) ∧ smerge o a b = some (xs ++ p) := fun p hp =>
    ⟨by have := (pickL_mem hp).2.2.2; omega, by rw [hp, Option.map_some] at hlast; exact hlast.symm⟩
   have hn1 : pickL (o.drop i) (a.drop j) (b.drop k) = none → smerge o a b = none := fun hp => by rw [hp] at hlast; exact hlast.symm
   generalize o.drop i = so at *
   generalize a.drop j = sa at *
   generalize b.drop k = sb at *
   refine F28.law _ _ _ OM ⟨fun ys => smerge o a b = some ys, ?_, ?_⟩
   ·by_cases q1 : sa = so
    ·rw [if_pos (by simpa using q1)]
     obtain ⟨hm, hi⟩ := hs1 sb (by unfold pickL; rw [if_pos q1])
     exact ⟨OM, hi⟩
    rw [if_neg (by simpa using q1)]
    refine F28.law _ _ _ OM ?_
    by_cases q2 : sb = so
    ·rw [if_pos (by simpa using q2)]
     obtain ⟨hm, hi⟩ := hs1 sa (by unfold pickL; rw [if_neg q1, if_pos q2])
     exact ⟨OM, hi⟩
    rw [if_neg (by simpa using q2)]
    refine F28.law _ _ _ OM ?_
    by_cases q3 : sa = sb
    ·rw [if_pos (by simpa using q3)]
     obtain ⟨hm, hi⟩ := hs1 sa (by unfold pickL; rw [if_neg q1, if_neg q2, if_pos q3])
     exact ⟨OM, hi⟩
    rw [if_neg (by simpa using q3)]
    exact hn (hn1 (by unfold pickL; rw [if_neg q1, if_neg q2, if_neg q3]))
   ·intro ys hi
    exact ⟨fun _ => by unfold I64; omega, fun _ => by unfold I64; omega, fun _ => by unfold I64; omega, fun _ => by unfold I64; omega, .inr ⟨rfl, hi⟩, OM⟩
 ·rw [if_neg (by simp; omega)]
  exact hs _ h
theorem F6.law (o a b : Shape) (ok : Shape → Shape → Prop) (Q : Shape → Bool → Prop) (h1 : ok a o) (h2 : ok b o) (h3 : ok a b) (hq : Q (three o a b).1 (three o a b).2) : F6.E o a b (fun x y => decide (x = y)) ok Q := by
 unfold F6.E
 unfold three at hq
 refine ⟨h1, ?_⟩
 by_cases e1 : a = o
 ·rw [if_pos e1] at hq; rw [if_pos (decide_eq_true e1)]; exact hq
 ·rw [if_neg e1] at hq; rw [if_neg (by simpa using e1)]
  refine ⟨h2, ?_⟩
  by_cases e2 : b = o
  ·rw [if_pos e2] at hq; rw [if_pos (decide_eq_true e2)]; exact hq
  ·rw [if_neg e2] at hq; rw [if_neg (by simpa using e2)]
   refine ⟨h3, ?_⟩
   by_cases e3 : a = b
   ·rw [if_pos e3] at hq; rw [if_pos (decide_eq_true e3)]; exact hq
   ·rw [if_neg e3] at hq; rw [if_neg (by simpa using e3)]; exact hq
theorem F8.law (o a b : value) (ok : value → value → Prop) (Q : value → Bool → Prop) (h1 : ok a o) (h2 : ok b o) (h3 : ok a b) (hq : Q (three o a b).1 (three o a b).2) : F8.E o a b (fun x y => decide (x = y)) ok Q := by
 unfold F8.E
 unfold three at hq
 refine ⟨h1, ?_⟩
 by_cases e1 : a = o
 ·rw [if_pos e1] at hq; rw [if_pos (decide_eq_true e1)]; exact hq
 ·rw [if_neg e1] at hq; rw [if_neg (by simpa using e1)]
  refine ⟨h2, ?_⟩
  by_cases e2 : b = o
  ·rw [if_pos e2] at hq; rw [if_pos (decide_eq_true e2)]; exact hq
  ·rw [if_neg e2] at hq; rw [if_neg (by simpa using e2)]
   refine ⟨h3, ?_⟩
   by_cases e3 : a = b
   ·rw [if_pos e3] at hq; rw [if_pos (decide_eq_true e3)]; exact hq
   ·rw [if_neg e3] at hq; rw [if_neg (by simpa using e3)]; exact hq
theorem F3.law (s : List Tag) (f : Tag → Bool) (ok : Tag → Prop) (Q : Int → Prop) (hl : s.length ≤ 1048576) (hok : ∀ x ∈ s, ok x) (hq : Q (findN s.length fun j => f (nth s (j : Int)))) : F3.E s f ok Q := by
 unfold F3.E
 refine loop_find s.length (fun j => f (nth s (j : Int))) hq (fun I mu k hk h1 h2 => ⟨OM, hok _ (nth_mem s hk), ?_⟩)
 cases h : f (nth s (k : Int)) with
 | true => rw [if_pos rfl]; exact h1 h
 | false => rw [if_neg RD]; obtain ⟨i1, i2⟩ := h2 h; exact ⟨by unfold I64; omega, i1, i2⟩
theorem F69.law (f : Feat) (key : Str) (Q : value → Prop) (hl : f.Tags.length ≤ 1048576) (hq : Q (valT f.Tags key)) : F69.E f key Q := by
 unfold F69.E F49.E
 have h1 := findN_le f.Tags.length fun j => (nth f.Tags (j : Int)).Key == key
 refine ⟨fun x => x.Key == key, fun x => x ∈ f.Tags, fun x hx => ?_, F3.law _ _ _ _ hl (fun x hx => hx) ?_⟩
 ·unfold F27.E; rfl
 ·unfold valT at hq
  by_cases h : findN f.Tags.length (fun j => (nth f.Tags (j : Int)).Key == key) < 0
  ·rw [if_pos h] at hq; rw [if_pos (by simpa using h)]; exact hq
  ·rw [if_neg h] at hq; rw [if_neg (by simpa using h)]; exact ⟨OM, hq⟩
theorem F16.law (l : List (List Tag)) (Q : List Tag → Prop) (h1 : l.length ≤ 1000) (h2 : l.flatten.length ≤ 1000000) (hq : Q l.flatten) : F16.E l Q := by
 have htk : ∀ u, (l.take u).flatten.length ≤ l.flatten.length := fun u => by
  have : l.flatten = (l.take u).flatten ++ (l.drop u).flatten := by rw [← List.flatten_append, List.take_append_drop]
  rw [this, List.length_append]; omega
 have hsn : ∀ u, u < l.length → (l.take (u + 1)).flatten = (l.take u).flatten ++ nth l (u : Int) := fun u hu => by rw [take_nth l hu, List.flatten_append]; simp
 unfold F16.E
 refine ⟨fun size i => ∃ u : Nat, i = u ∧ u ≤ l.length ∧ size = ((l.take u).flatten.length : Int), fun _ i => (l.length - i).toNat, ⟨0, rfl, Nat.zero_le _, by simp⟩, ?_⟩
 rintro _ _ ⟨u, rfl, hu, rfl⟩
 by_cases h : u < l.length
 ·rw [if_pos (by simpa using h)]
  have e := hsn u h
  have ht := htk (u + 1)
  rw [e, List.length_append] at ht
  refine ⟨OM, fun _ => by unfold I64; omega, ?_⟩
  rw [if_neg (by rw [decide_eq_true_eq]; omega)]
  exact ⟨fun _ => by unfold I64; omega, ⟨u + 1, OM, OM, by rw [e, List.length_append]; omega⟩, by dsimp only; omega⟩
 ·rw [if_neg (by simpa using h)]
  have : u = l.length := by omega
  subst this
  rw [List.take_length]
  have rest : ∃ (I82 : (List Tag) → Int → Prop) (mu83 : (List Tag) → Int → Nat), I82 [] 0 ∧ ∀ (xs2 : List Tag) (v4 : Int), I82 xs2 v4 → (if decide (v4 < (l.length : Int)) then ((0 : Int) ≤ v4 ∧ v4 < (l.length : Int)) ∧ (xs2.length + (nth l v4).length ≤ 268435456) ∧ (I64 (v4 + 1)) ∧ I82 (xs2 ++ (nth l v4)) (v4 + 1) ∧ mu83 (xs2 ++ (nth l v4)) (v4 + 1) < mu83 xs2 v4 else Q xs2) := by
   refine ⟨fun xs i => ∃ u : Nat, i = u ∧ u ≤ l.length ∧ xs = (l.take u).flatten, fun _ i => (l.length - i).toNat, ⟨0, rfl, Nat.zero_le _, by simp⟩, ?_⟩
   rintro _ _ ⟨u, rfl, hu, rfl⟩
   by_cases g : u < l.length
   ·rw [if_pos (by simpa using g)]
    have e := hsn u g
    have ht := htk (u + 1)
    rw [e, List.length_append] at ht
    exact ⟨OM, OM, by unfold I64; omega, ⟨u + 1, OM, OM, by rw [e]⟩, by dsimp only; omega⟩
   ·rw [if_neg (by simpa using g)]
    have : u = l.length := by omega
    subst this
    rw [List.take_length]; exact hq
  unfold F29.E
  rw [if_neg (by rw [decide_eq_true_eq]; omega)]
  refine ⟨by unfold I64; omega, by unfold I64; omega, ?_⟩
  by_cases hz : (l.flatten.length : Int) - (0 - 0) > 0
  ·rw [if_pos (by rw [decide_eq_true_eq]; exact hz)]
   exact ⟨OM, OM, rest⟩
  ·rw [if_neg (by rw [decide_eq_true_eq]; exact hz)]
   exact rest
theorem F52.law (o a b : Feat) (Q : Feat → List Str → Prop) (h1 : bulk o ≤ 1048576) (h2 : bulk a ≤ 1048576) (h3 : bulk b ≤ 1048576) (hq : Q (featJoin o a b).1 (featJoin o a b).2) : F52.E o a b Q := by
 unfold F52.E
 unfold featJoin at hq
 have zq : (featOk o && featOk a && featOk b && decide (o.Id = a.Id) && decide (o.Id = b.Id)) = false → Q ⟨[], ⟨0, []⟩, []⟩ [] := fun h => by rw [h, if_neg RD] at hq; exact hq
 refine F90.law _ _ h1 ?_
 cases ko : featOk o with
 | false => rw [if_pos RD]; exact zq (by rw [ko]; rfl)
 | true =>
 rw [if_neg RD]
 refine F90.law _ _ h2 ?_
 cases ka : featOk a with
 | false => rw [if_pos RD]; exact zq (by rw [ko, ka]; rfl)
 | true =>
 rw [if_neg RD]
 refine F90.law _ _ h3 ?_
 cases kb : featOk b with
 | false => rw [if_pos RD]; exact zq (by rw [ko, ka, kb]; rfl)
 | true =>
 rw [if_neg RD]
 by_cases e1 : o.Id = a.Id
 case neg => rw [if_pos (by rw [bne_iff_ne]; exact e1)]; exact zq (by rw [decide_eq_false e1]; simp)
 rw [if_neg (by rw [e1]; simp)]
 by_cases e2 : o.Id = b.Id
 case neg => rw [if_pos (by rw [bne_iff_ne]; exact e2)]; exact zq (by rw [decide_eq_false e2]; simp)
 rw [if_neg (by rw [e2]; simp)]
 rw [ko, ka, kb, decide_eq_true e1, decide_eq_true e2, if_pos RD] at hq
 clear zq
 have fo := feat_facts ko; have fa := feat_facts ka; have fb := feat_facts kb
 have so := fo.2.2.1; have sa := fa.2.2.1; have sb := fb.2.2.1
 refine ⟨fun x y => decide (x = y), fun x _ => x.Pts.length ≤ 1048576, fun x y hx => F38.law _ _ _ hx rfl, F6.law _ _ _ _ _ (by (try dsimp only); omega) (by (try dsimp only); omega) (by (try dsimp only); omega) ?_⟩
 refine ⟨fun xs z z2 => xs = (if (shapeF o.Shape a.Shape b.Shape).2 then [] else [shapeS]) ∧ (⟨z, z2⟩ : Shape) = (shapeF o.Shape a.Shape b.Shape).1, ?_, ?_⟩
 ·have hs : ([([115, 104, 97, 112, 101] : Str)] : List Str) = [shapeS] := rfl
  cases c0 : (three o.Shape a.Shape b.Shape).2 with
  | true =>
   rw [if_neg RD]
   have e : shapeF o.Shape a.Shape b.Shape = three o.Shape a.Shape b.Shape := by unfold shapeF; rw [if_pos c0]
   rw [e, c0]; exact ⟨rfl, rfl⟩
  | false =>
   rw [if_pos RD]
   have et : (three o.Shape a.Shape b.Shape).1 = a.Shape := by
    unfold three at c0 ⊢
    split
    ·rename_i h; rw [if_pos h] at c0; cases c0
    ·rename_i h
     rw [if_neg h] at c0
     split
     ·rename_i g; rw [if_pos g] at c0; try cases c0
     ·rename_i g
      rw [if_neg g] at c0
      split <;> rfl
   have bad : (shapeF o.Shape a.Shape b.Shape) = (a.Shape, false) → (if (!false) = true then (([] : List Str).length + ([([115, 104, 97, 112, 101] : Str)] : List Str).length ≤ 268435456) ∧ (([] : List Str) ++ ([([115, 104, 97, 112, 101] : Str)] : List Str) = (if (shapeF o.Shape a.Shape b.Shape).2 then [] else [shapeS]) ∧ (⟨(three o.Shape a.Shape b.Shape).1.Kind, (three o.Shape a.Shape b.Shape).1.Pts⟩ : Shape) = (shapeF o.Shape a.Shape b.Shape).1) else ([] : List Str) = (if (shapeF o.Shape a.Shape b.Shape).2 then [] else [shapeS]) ∧ (⟨(three o.Shape a.Shape b.Shape).1.Kind, (three o.Shape a.Shape b.Shape).1.Pts⟩ : Shape) = (shapeF o.Shape a.Shape b.Shape).1) := fun e => by
    rw [if_pos RD, e, et]; exact ⟨by decide, rfl, rfl⟩
   by_cases k1 : o.Shape.Kind = a.Shape.Kind
   case neg => rw [if_neg (by simpa using k1)]; exact bad (by unfold shapeF; rw [if_neg (by rw [c0]; decide), if_neg fun h => k1 h.1.symm])
   rw [if_pos (by simpa using k1)]
   have bad2 : shapeF o.Shape a.Shape b.Shape = (a.Shape, false) → ((⟨(three o.Shape a.Shape b.Shape).1.Kind, (three o.Shape a.Shape b.Shape).1.Pts⟩ : Shape) = (shapeF o.Shape a.Shape b.Shape).1 ∧ false = (shapeF o.Shape a.Shape b.Shape).2) := fun e => by rw [e, et]; exact ⟨rfl, rfl⟩
   refine ⟨fun fine z z2 => (⟨z, z2⟩ : Shape) = (shapeF o.Shape a.Shape b.Shape).1 ∧ fine = (shapeF o.Shape a.Shape b.Shape).2, ?_, ?_⟩
   ·by_cases k2 : o.Shape.Kind = b.Shape.Kind
    case neg => rw [if_neg (by simpa using k2)]; exact bad2 (by unfold shapeF; rw [if_neg (by rw [c0]; decide), if_neg fun h => k2 h.2.symm])
    rw [if_pos (by simpa using k2)]
    have hsh : shapeF o.Shape a.Shape b.Shape = match smerge o.Shape.Pts a.Shape.Pts b.Shape.Pts with
     | some p => if shapeOk ⟨a.Shape.Kind, p⟩ then (⟨a.Shape.Kind, p⟩, true) else (a.Shape, false)
     | none => (a.Shape, false) := by unfold shapeF; rw [if_neg (by rw [c0]; decide), if_pos ⟨k1.symm, k2.symm⟩]; try (cases smerge o.Shape.Pts a.Shape.Pts b.Shape.Pts <;> rfl)
    refine F51.law _ _ _ _ (fun r hr => ?_) (fun hr => ?_)
    ·rw [if_pos rfl]
     have hrl := smerge_len hr
     rw [hr] at hsh
     refine F65.law _ _ (by dsimp only; omega) ?_
     cases k3 : shapeOk ⟨a.Shape.Kind, r⟩ with
     | true =>
      rw [if_pos rfl]
      dsimp only at hsh
      rw [if_pos k3] at hsh
      rw [hsh]; exact ⟨rfl, rfl⟩
     | false =>
      rw [if_neg RD]
      dsimp only at hsh
      rw [if_neg (by rw [k3]; decide)] at hsh
      exact bad2 hsh
    ·rw [if_neg RD]
     rw [hr] at hsh
     exact bad2 hsh
   ·rintro _ z z2 ⟨hz, rfl⟩
    dsimp only
    rw [hz]
    cases (shapeF o.Shape a.Shape b.Shape).2 with
    | true => rw [if_neg RD]; exact ⟨rfl, rfl⟩
    | false => rw [if_pos RD]; exact ⟨by decide, rfl, rfl⟩
 rintro _ z z2 ⟨rfl, hz⟩
 rw [hz]
 unfold F26.E
 have hpts := shapeF_pts (o := o.Shape) sa sb
 refine ⟨by simp only [List.length_nil]; omega, ?_⟩
 rw [List.nil_append]
 have hfl : ([o.Tags, a.Tags, b.Tags] : List (List Tag)).flatten = o.Tags ++ a.Tags ++ b.Tags := by simp
 have hln : (o.Tags ++ a.Tags ++ b.Tags).length ≤ 12 := by simp only [List.length_append]; omega
 refine F16.law _ _ (by simp) (by rw [hfl]; omega) ?_
 rw [hfl]
 refine ⟨fun xs i => ∃ u : Nat, i = u ∧ u ≤ (o.Tags ++ a.Tags ++ b.Tags).length ∧ xs = keysT ((o.Tags ++ a.Tags ++ b.Tags).take u), fun _ i => ((o.Tags ++ a.Tags ++ b.Tags).length - i).toNat, ⟨0, rfl, Nat.zero_le _, rfl⟩, ?_⟩
 rintro _ _ ⟨u, rfl, hu, rfl⟩
 by_cases h : u < (o.Tags ++ a.Tags ++ b.Tags).length
 ·rw [if_pos (decide_eq_true OM)]
  have hil : (keysT ((o.Tags ++ a.Tags ++ b.Tags).take u)).length ≤ u := by unfold keysT; simp; omega
  refine ⟨OM, by simp only [List.length_cons, List.length_nil]; omega, by unfold I64; omega, ⟨u + 1, OM, OM, ?_⟩, by dsimp only; omega⟩
  rw [take_nth _ h, keys_app]; rfl
 rw [if_neg (by rw [decide_eq_true_eq]; omega)]
 have : u = (o.Tags ++ a.Tags ++ b.Tags).length := by omega
 subst this
 clear h hu
 rw [List.take_length]
 unfold F7.E F0.E
 have hkl : (keysT (o.Tags ++ a.Tags ++ b.Tags)).length ≤ 12 := by unfold keysT; rw [List.length_map]; exact hln
 refine ⟨OM, by unfold sortS; rw [List.length_mergeSort]; omega, ?_⟩
 obtain ⟨ks1, ks2⟩ := allKeys_small ko ka kb
 have ek : Lib.compact (sortS (keysT (o.Tags ++ a.Tags ++ b.Tags))) = allKeys o a b := rfl
 rw [ek]
 refine ⟨fun xs i ts => ∃ u : Nat, i = u ∧ u ≤ (allKeys o a b).length ∧ xs = (if (shapeF o.Shape a.Shape b.Shape).2 then [] else [shapeS]) ++ clashL o.Tags a.Tags b.Tags ((allKeys o a b).take u) ∧ ts = tagsL o.Tags a.Tags b.Tags ((allKeys o a b).take u), fun _ i _ => ((allKeys o a b).length - i).toNat, ⟨0, rfl, Nat.zero_le _, by simp [clashL], by simp [tagsL]⟩, ?_⟩
 rintro _ _ _ ⟨u, rfl, hu, rfl, rfl⟩
 have hpre : (if (shapeF o.Shape a.Shape b.Shape).2 then ([] : List Str) else [shapeS]).length ≤ 1 := by split <;> decide
 by_cases h : u < (allKeys o a b).length
 ·rw [if_pos (by simpa using h)]
  have hk6 := ks2 _ (nth_mem _ h)
  have hcl := clashL_len o.Tags a.Tags b.Tags ((allKeys o a b).take u)
  have htl := tagsL_len o.Tags a.Tags b.Tags ((allKeys o a b).take u)
  rw [List.length_take] at hcl htl
  refine ⟨OM, F69.law _ _ _ OM (F69.law _ _ _ OM (F69.law _ _ _ OM ?_))⟩
  refine ⟨fun x y => decide (x = y), fun _ _ => True, fun x y _ => by unfold F30.E; exact eqvalue_is x y, F8.law _ _ _ _ _ trivial trivial trivial ?_⟩
  have ec := clashL_snoc o.Tags a.Tags b.Tags ((allKeys o a b).take u) (nth (allKeys o a b) (u : Int))
  have et := tagsL_snoc o.Tags a.Tags b.Tags ((allKeys o a b).take u) (nth (allKeys o a b) (u : Int))
  rw [← take_nth _ h] at ec et
  refine ⟨fun xs z z2 => xs = (if (shapeF o.Shape a.Shape b.Shape).2 then [] else [shapeS]) ++ clashL o.Tags a.Tags b.Tags ((allKeys o a b).take (u + 1)) ∧ (⟨z, z2⟩ : value) = (tagK o.Tags a.Tags b.Tags (nth (allKeys o a b) (u : Int))).1, ?_, ?_⟩
  ·generalize nth (allKeys o a b) (u : Int) = k at *
   have ed : tagK o.Tags a.Tags b.Tags k = tagF (valT o.Tags k) (valT a.Tags k) (valT b.Tags k) := rfl
   rw [ec]
   cases c0 : (three (valT o.Tags k) (valT a.Tags k) (valT b.Tags k)).2 with
   | true =>
    have ek : tagK o.Tags a.Tags b.Tags k = three (valT o.Tags k) (valT a.Tags k) (valT b.Tags k) := by rw [ed]; unfold tagF; rw [if_pos c0]
    rw [if_neg RD, ek, c0, if_pos rfl, List.append_nil]
    exact ⟨rfl, rfl⟩
   | false =>
    have ek : tagK o.Tags a.Tags b.Tags k = (if (valT a.Tags k).has then valT a.Tags k else valT b.Tags k, false) := by rw [ed]; unfold tagF; rw [if_neg (by rw [c0]; decide)]
    rw [if_pos RD, ek]
    refine ⟨by simp only [List.length_cons, List.length_nil]; omega, by simp only [List.length_append, List.length_cons, List.length_nil]; omega, ?_⟩
    have e0 : (if ((if (valT a.Tags k).has then valT a.Tags k else valT b.Tags k, false) : value × Bool).2 then ([] : List Str) else [tagS ++ k]) = [tagS ++ k] := if_neg (by simp)
    rw [e0]
    cases c1 : (valT a.Tags k).has with
    | true => rw [if_neg (by simp)]; exact ⟨by rw [List.append_assoc]; rfl, by generalize valT a.Tags k = v at *; cases v; simp_all⟩
    | false => rw [if_pos (by simp)]; exact ⟨by rw [List.append_assoc]; rfl, by simp⟩
  ·rintro _ z3 z4 ⟨rfl, hz⟩
   have hz3 : z3 = (tagK o.Tags a.Tags b.Tags (nth (allKeys o a b) (u : Int))).1.has := by rw [← hz]
   have hz4 : z4 = (tagK o.Tags a.Tags b.Tags (nth (allKeys o a b) (u : Int))).1.val := by rw [← hz]
   refine ⟨fun ts => ts = tagsL o.Tags a.Tags b.Tags ((allKeys o a b).take (u + 1)), ?_, ?_⟩
   ·rw [et, hz3, hz4]
    split
    ·exact ⟨by simp only [List.length_cons, List.length_nil]; omega, rfl⟩
    ·rw [List.append_nil]
   ·rintro _ rfl
    exact ⟨by unfold I64; omega, ⟨u + 1, OM, OM, rfl, rfl⟩, by dsimp only; omega⟩
 rw [if_neg (by simpa using h)]
 have : u = (allKeys o a b).length := by omega
 subst this
 rw [List.take_length]
 have hjs := joinF_small ko ka kb
 unfold joinOf at hq
 show F90.E (joinF o a b) _
 refine F90.law _ _ OM ?_
 cases kj : featOk (joinF o a b) with
 | true =>
  rw [if_neg RD]
  rw [kj, if_pos rfl] at hq
  exact hq
 | false =>
  rw [if_pos RD]
  rw [kj, if_neg RD] at hq
  exact F36.law _ _ h2 hq
theorem F41.law (o a b : List Feat) (Q : List Feat → List Clash → Bool → Prop) (h1 : bulk o ≤ 1048576) (h2 : bulk a ≤ 1048576) (h3 : bulk b ≤ 1048576) (hq : Q (sheetJoin o a b).1 (sheetJoin o a b).2.1 (sheetJoin o a b).2.2) : F41.E o a b Q := by
 unfold F41.E
 unfold sheetJoin at hq
 have zq : (sheetOk o && sheetOk a && sheetOk b) = false → Q [] [] false := fun h => by rw [h, if_neg RD] at hq; exact hq
 refine F74.law _ _ h1 ?_
 cases ko : sheetOk o with
 | false => rw [if_pos RD]; exact zq (by rw [ko]; rfl)
 | true =>
 rw [if_neg RD]
 refine F74.law _ _ h2 ?_
 cases ka : sheetOk a with
 | false => rw [if_pos RD]; exact zq (by rw [ko, ka]; rfl)
 | true =>
 rw [if_neg RD]
 refine F74.law _ _ h3 ?_
 cases kb : sheetOk b with
 | false => rw [if_pos RD]; exact zq (by rw [ko, ka, kb]; rfl)
 | true =>
 rw [if_neg RD]
 rw [ko, ka, kb, if_pos RD] at hq
 clear zq
 have e : idsAll [o, a, b] = ids o ++ ids a ++ ids b := by unfold idsAll; simp
 have lo := (sheet_ss ko).2.1; have la := (sheet_ss ka).2.1; have lb := (sheet_ss kb).2.1
 have l3 : (ids o ++ ids a ++ ids b).length = o.length + a.length + b.length := by unfold ids; simp; omega
 refine F120.law _ _ (by simp) (by rw [e]; omega) (fun s hs => by
  simp only [List.mem_cons, List.not_mem_nil, or_false] at hs
  rcases hs with rfl | rfl | rfl <;> omega) ?_
 rw [e]
 have eids : uniq (ids o ++ ids a ++ ids b) = ids3 o a b := rfl
 rw [eids]
 have hlen := ids3_len ko ka kb
 refine ⟨fun cs fs l i => ∃ u : Nat, i = u ∧ u ≤ (ids3 o a b).length ∧ l = ids3 o a b ∧ cs = joinCs o a b ((ids3 o a b).take u) ∧ fs = joinFs o a b ((ids3 o a b).take u), fun _ _ _ i => ((ids3 o a b).length - i).toNat, ⟨0, rfl, Nat.zero_le _, rfl, rfl, rfl⟩, ?_⟩
 rintro _ _ _ _ ⟨u, rfl, hu, rfl, rfl, rfl⟩
 by_cases h : u < (ids3 o a b).length
 ·rw [if_pos (by simpa using h)]
  have ec := joinCs_snoc o a b ((ids3 o a b).take u) (nth (ids3 o a b) (u : Int))
  have ef := joinFs_snoc o a b ((ids3 o a b).take u) (nth (ids3 o a b) (u : Int))
  rw [← take_nth _ h] at ec ef
  have hcl := joinCs_len ko ka kb ((ids3 o a b).take u)
  have hfl := joinFs_len o a b ((ids3 o a b).take u)
  rw [List.length_take] at hcl hfl
  have hsm := (oneAt_small ko ka kb (nth (ids3 o a b) (u : Int))).2.2
  have to_ : ThOk _ _ := thOf_ok ko (nth (ids3 o a b) (u : Int))
  have ta_ : ThOk _ _ := thOf_ok ka (nth (ids3 o a b) (u : Int))
  have tb_ : ThOk _ _ := thOf_ok kb (nth (ids3 o a b) (u : Int))
  refine ⟨OM, F75.law _ _ _ h1 (F75.law _ _ _ h2 (F75.law _ _ _ h3 ?_))⟩
  have eo : oneAt o a b (nth (ids3 o a b) (u : Int)) = oneOf (thOf o (nth (ids3 o a b) (u : Int))) (thOf a (nth (ids3 o a b) (u : Int))) (thOf b (nth (ids3 o a b) (u : Int))) := rfl
  rw [eo] at ec ef hsm
  clear eo
  generalize thOf o (nth (ids3 o a b) (u : Int)) = x at *
  generalize thOf a (nth (ids3 o a b) (u : Int)) = y at *
  generalize thOf b (nth (ids3 o a b) (u : Int)) = z at *
  generalize nth (ids3 o a b) (u : Int) = i at *
  have sx := to_.small; have sy := ta_.small; have sz := tb_.small
  refine ⟨fun x y => decide (x = y), fun x _ => x.f.Shape.Pts.length ≤ 1048576 ∧ x.f.Tags.length ≤ 1048576, fun x y hx => F40.law _ _ _ hx rfl, F9.law _ _ _ _ _ sy.2 sz.2 sy.2 ?_⟩
  refine ⟨fun cs fs l c1 c2 c3 c4 c5 => cs = joinCs o a b ((ids3 o a b).take (u + 1)) ∧ fs = joinFs o a b ((ids3 o a b).take u) ∧ l = ids3 o a b ∧ (⟨c1, (⟨c2, (⟨c3, c4⟩ : Shape), c5⟩ : Feat)⟩ : thing) = (oneOf x y z).1, ?_, ?_⟩
  ·rcases Bool.eq_false_or_eq_true (three x y z).2 with c0 | c0
   ·rw [if_pos c0]
    exact ⟨by rw [ec, one_same c0]; simp [clashAtL], rfl, rfl, by rw [one_same c0]⟩
   rw [if_neg (by rw [c0]; decide)]
   have e1 := one_else c0
   rcases Bool.eq_false_or_eq_true y.has with ca | ca
   case inr =>
    rw [if_pos (by rw [ca]; rfl)]
    rw [if_pos ca] at e1
    exact ⟨by simp only [List.length_cons, List.length_nil]; omega, by rw [ec, e1]; rfl, rfl, rfl, by rw [e1]⟩
   rw [if_neg (by rw [ca]; decide)]
   rw [if_neg (by rw [ca]; decide)] at e1
   rcases Bool.eq_false_or_eq_true z.has with cb | cb
   case inr =>
    rw [if_pos (by rw [cb]; rfl)]
    rw [if_pos cb] at e1
    exact ⟨by simp only [List.length_cons, List.length_nil]; omega, by rw [ec, e1]; rfl, rfl, rfl, by rw [e1]⟩
   rw [if_neg (by rw [cb]; decide)]
   rw [if_neg (by rw [cb]; decide)] at e1
   rcases Bool.eq_false_or_eq_true x.has with co | co
   case inr =>
    rw [if_pos (by rw [co]; rfl)]
    rw [if_pos co] at e1
    exact ⟨by simp only [List.length_cons, List.length_nil]; omega, by rw [ec, e1]; rfl, rfl, rfl, by rw [e1]⟩
   rw [if_neg (by rw [co]; decide)]
   rw [if_neg (by rw [co]; decide)] at e1
   obtain ⟨fx, ix⟩ := to_.has co; obtain ⟨fy, iy⟩ := ta_.has ca; obtain ⟨fz, iz⟩ := tb_.has cb
   refine F52.law _ _ _ _ OM OM OM ?_
   have ej : featJoin x.f y.f z.f = joinOf x.f y.f z.f := by unfold featJoin; rw [if_pos (by rw [fx, fy, fz, ix, iy, iz]; simp)]
   rw [ej]
   obtain ⟨w1, w2, w3⟩ := joinW_len fx fy fz
   generalize (joinOf x.f y.f z.f).1 = rf at *
   generalize (joinOf x.f y.f z.f).2 = W at *
   refine ⟨fun xs k => ∃ v : Nat, k = v ∧ v ≤ W.length ∧ xs = joinCs o a b ((ids3 o a b).take u) ++ clashAtL i (W.take v), fun _ k => (W.length - k).toNat, ⟨0, rfl, Nat.zero_le _, by simp [clashAtL]⟩, ?_⟩
   rintro _ _ ⟨v, rfl, hv, rfl⟩
   have hwl : (clashAtL i (W.take v)).length ≤ v := by unfold clashAtL; simp; omega
   by_cases g : v < W.length
   ·rw [if_pos (by simpa using g)]
    refine ⟨OM, by simp only [List.length_append, List.length_cons, List.length_nil]; omega, by unfold I64; omega, ⟨v + 1, OM, OM, ?_⟩, by dsimp only; omega⟩
    rw [take_nth _ g]; unfold clashAtL; rw [List.map_append, List.append_assoc]; rfl
   ·rw [if_neg (by simpa using g)]
    have : v = W.length := by omega
    subst this
    rw [List.take_length]
    exact ⟨by rw [ec, e1], rfl, rfl, by rw [e1]⟩
  ·rintro _ _ _ c1 c2 c3 c4 c5 ⟨rfl, rfl, rfl, hc⟩
   rw [← hc] at ef hsm
   refine ⟨fun fs => fs = joinFs o a b ((ids3 o a b).take (u + 1)), ?_, ?_⟩
   ·rw [ef]
    cases c1 with
    | true => rw [if_pos rfl]; exact F36.law _ _ (Nat.le_trans hsm RD) ⟨by simp only [List.length_cons, List.length_nil]; omega, rfl⟩
    | false => rw [if_neg RD]; simp
   ·rintro _ rfl
    exact ⟨by unfold I64; omega, ⟨u + 1, OM, OM, rfl, rfl, rfl⟩, by dsimp only; omega⟩
 rw [if_neg (by simpa using h)]
 have : u = (ids3 o a b).length := by omega
 subst this
 rw [List.take_length]
 have hs := joinFs_small ko ka kb (ids3 o a b)
 refine F74.law _ _ OM ?_
 cases kj : sheetOk (joinFs o a b (ids3 o a b)) with
 | true => rw [if_neg RD]; rw [kj, if_pos rfl] at hq; exact hq
 | false => rw [if_pos RD]; rw [kj, if_neg RD] at hq; exact hq
theorem F121.law (a b : List Feat) (Q : List Str → Prop) (ha : a.length ≤ 1000) (hb : b.length ≤ 1000) (hs : SS (ids a)) (hq : Q (uniq (ids a ++ ids b))) : F121.E a b Q := by
 unfold F121.E
 refine ⟨fun s i => ∃ u : Nat, i = u ∧ u ≤ b.length ∧ SS (ids s) ∧ (∀ x, x ∈ ids s ↔ x ∈ ids a ∨ x ∈ ids (b.take u)) ∧ s.length ≤ a.length + u, fun _ i => (b.length - i).toNat, ⟨0, rfl, Nat.zero_le _, hs, by simp [ids], OM⟩, ?_⟩
 rintro s _ ⟨u, rfl, hu, h1, h2, h3⟩
 by_cases h : u < b.length
 ·rw [if_pos (by simpa using h)]
  refine ⟨OM, F119.law _ _ _ OM h1 fun r r1 r2 r3 _ => ⟨OM, ⟨u + 1, OM, OM, r1, fun x => ?_, OM⟩, by dsimp only; omega⟩⟩
  rw [r2, h2, ids_take h, List.mem_append, List.mem_singleton]
  constructor
  ·rintro ((hx | hx) | hx)
   ·exact .inl hx
   ·exact .inr (.inl hx)
   ·exact .inr (.inr hx)
  ·rintro (hx | hx | hx)
   ·exact .inl (.inl hx)
   ·exact .inl (.inr hx)
   ·exact .inr hx
 ·rw [if_neg (by simpa using h)]
  have : u = b.length := by omega
  subst this
  rw [List.take_length] at h2
  have e : ids s = uniq (ids a ++ ids b) := SS.ext h1 (uniq_ss _) fun x => by rw [h2, uniq_mem, List.mem_append]
  rw [← e] at hq
  refine ⟨fun xs i => ∃ v : Nat, i = v ∧ v ≤ s.length ∧ xs = ids (s.take v), fun _ i => (s.length - i).toNat, ⟨0, rfl, Nat.zero_le _, rfl⟩, ?_⟩
  rintro _ _ ⟨v, rfl, hv, rfl⟩
  have hil : (ids (s.take v)).length ≤ v := by unfold ids; simp; omega
  by_cases g : v < s.length
  ·rw [if_pos (by simpa using g)]
   refine ⟨OM, by simp only [List.length_cons, List.length_nil]; omega, OM, ⟨v + 1, OM, OM, ?_⟩, by dsimp only; omega⟩
   rw [ids_take g]
  ·rw [if_neg (by simpa using g)]
   have : v = s.length := by omega
   subst this
   rw [List.take_length]; exact hq
theorem F122.law (o a b : List Feat) (Q : List Str → Prop) (ho : o.length ≤ 100) (ha : a.length ≤ 100) (hb : b.length ≤ 100) (hs : SS (ids o)) (hq : Q (ids3 o a b)) : F122.E o a b Q := by
 unfold F122.E
 refine ⟨fun s i => ∃ u : Nat, i = u ∧ u ≤ a.length ∧ SS (ids s) ∧ (∀ x, x ∈ ids s ↔ x ∈ ids o ∨ x ∈ ids (a.take u)) ∧ s.length ≤ o.length + u, fun _ i => (a.length - i).toNat, ⟨0, rfl, Nat.zero_le _, hs, by simp [ids], OM⟩, ?_⟩
 rintro s _ ⟨u, rfl, hu, h1, h2, h3⟩
 by_cases h : u < a.length
 ·rw [if_pos (by simpa using h)]
  refine ⟨OM, F119.law _ _ _ OM h1 fun r r1 r2 r3 _ => ⟨OM, ⟨u + 1, OM, OM, r1, fun x => ?_, OM⟩, by dsimp only; omega⟩⟩
  rw [r2, h2, ids_take h, List.mem_append, List.mem_singleton]
  constructor
  ·rintro ((hx | hx) | hx)
   ·exact .inl hx
   ·exact .inr (.inl hx)
   ·exact .inr (.inr hx)
  ·rintro (hx | hx | hx)
   ·exact .inl (.inl hx)
   ·exact .inl (.inr hx)
   ·exact .inr hx
 ·rw [if_neg (by simpa using h)]
  have : u = a.length := by omega
  subst this
  rw [List.take_length] at h2
  refine F121.law _ _ _ OM OM h1 ?_
  have e : uniq (ids s ++ ids b) = ids3 o a b := SS.ext (uniq_ss _) (uniq_ss _) fun x => by unfold ids3; rw [uniq_mem, uniq_mem, List.mem_append, h2, List.mem_append, List.mem_append]
  rw [e]; exact hq
theorem F99.law (s : List Feat) (id : Str) (Q : Feat → Bool → Prop) (hb : bulk s ≤ 1048576) (hq : Q (sideOf s id).1 (sideOf s id).2) : F99.E s id Q := by
 unfold F99.E
 have hl := bulk_len s
 refine F98.law _ _ _ ?_
 have h1 := findN_le s.length fun j => (nth s (j : Int)).Id == id
 unfold sideOf at hq
 by_cases h : findN s.length (fun j => (nth s (j : Int)).Id == id) < 0
 ·rw [if_pos h] at hq; rw [if_pos (by simpa using h)]; exact hq
 ·rw [if_neg h] at hq; rw [if_neg (by simpa using h)]
  exact ⟨OM, F80.law _ _ (by have := bulk_mem (nth_memi s OM h1.2); omega) hq⟩
theorem F100.law (a b : List Tag) (Q : Bool → Prop) (hq : Q (decide (a = b))) : F100.E a b Q := by
 unfold F100.E
 exact eqS_shape eqTag eqTag_is a b Q hq
theorem F91.law (a b : List Pt) (Q : Bool → Prop) (hq : Q (decide (a = b))) : F91.E a b Q := by
 unfold F91.E
 exact eqS_shape eqPt eqPt_is a b Q hq
theorem F39.law (a b : Shape) (Q : Bool → Prop) (hq : Q (decide (a = b))) : F39.E a b Q := by
 unfold F39.E
 by_cases h : a.Kind = b.Kind
 ·rw [if_pos (by rw [beq_iff_eq]; exact h)]
  refine F91.law _ _ _ ?_
  have : decide (a.Pts = b.Pts) = decide (a = b) := decide_eq_decide.2 (by rw [Shape.ext_iff']; exact ⟨fun e => ⟨h, e⟩, fun e => e.2⟩)
  rw [this]; exact hq
 ·rw [if_neg (by rw [beq_iff_eq]; exact h)]
  rw [decide_eq_false (by rw [Shape.ext_iff']; exact fun e => h e.1)] at hq; exact hq
theorem F57.law (a b : Feat) (Q : Bool → Prop) (hq : Q (decide (a = b))) : F57.E a b Q := by
 unfold F57.E
 by_cases h : a.Id = b.Id
 ·rw [if_pos (by rw [beq_iff_eq]; exact h)]
  refine F39.law _ _ _ ?_
  by_cases h2 : a.Shape = b.Shape
  ·rw [decide_eq_true h2, if_pos rfl]
   refine F100.law _ _ _ ?_
   have : decide (a.Tags = b.Tags) = decide (a = b) := decide_eq_decide.2 (by rw [Feat.ext_iff']; exact ⟨fun e => ⟨h, h2, e⟩, fun e => e.2.2⟩)
   rw [this]; exact hq
  ·rw [decide_eq_false h2, if_neg RD]
   rw [decide_eq_false (by rw [Feat.ext_iff']; exact fun e => h2 e.2.1)] at hq; exact hq
 ·rw [if_neg (by rw [beq_iff_eq]; exact h)]
  rw [decide_eq_false (by rw [Feat.ext_iff']; exact fun e => h e.1)] at hq; exact hq
theorem F115.law (a b : List Pt) (Q : Bool → Prop) (hq : Q (few a b)) : F115.E a b Q := by
 unfold F115.E
 unfold few at hq
 by_cases h : a.length ≤ 12
 ·rw [if_pos (by simp; omega)]
  rw [decide_eq_true h, Bool.true_and] at hq
  have : decide ((b.length : Int) ≤ 12) = decide (b.length ≤ 12) := decide_eq_decide.2 OM
  rw [this]; exact hq
 ·rw [if_neg (by simp; omega)]
  rw [decide_eq_false h, Bool.false_and] at hq; exact hq
theorem F116.m_is (a b : Int) : F116.m a b = max a b := by
 unfold F116.m
 by_cases h : a > b
 ·simp [h]; omega
 ·simp [h]; omega
theorem F92.law (a b : List Pt) (Q : Int → Prop) (ha : a.length ≤ 1048576) (hb : b.length ≤ 1048576) (hq : Q (lcs a b : Nat)) : F92.E a b Q := by
 unfold F92.E
 have hn : ((b.length : Int) + 1).toNat = b.length + 1 := by omega
 rw [hn]
 refine ⟨fun _ => by unfold I64; omega, OM, fun _ _ => by unfold I64; omega,
  fun xs i => ∃ k : Nat, i = (k : Int) - 1 ∧ k ≤ a.length ∧ RowOk a b k 0 xs, fun _ i => (i + 1).toNat, ⟨a.length, rfl, Nat.le_refl _, by simp, fun m _ hm => ?_⟩, ?_⟩
 ·rw [nth_rep _ _ _ OM, List.drop_length, lcs_nil]; rfl
 rintro xs _ ⟨k, rfl, hk, hr⟩
 by_cases hk0 : (k : Int) - 1 ≥ 0
 ·rw [if_pos (by simpa using hk0)]
  obtain ⟨i, rfl⟩ : ∃ i, k = i + 1 := ⟨k - 1, OM⟩
  have ei : ((i + 1 : Nat) : Int) - 1 = (i : Int) := by omega
  rw [ei]
  refine ⟨fun _ => by unfold I64; omega, OM, fun _ => by unfold I64; omega,
   fun ys j => ∃ m : Nat, j = (m : Int) - 1 ∧ m ≤ b.length ∧ RowOk a b i m ys, fun _ j => (j + 1).toNat, ⟨b.length, rfl, Nat.le_refl _, by simp, fun m hm1 hm2 => ?_⟩, ?_⟩
  ·have : m = b.length := by omega
   subst this
   rw [nth_rep _ _ _ OM, List.drop_length, lcs_nil2]; rfl
  rintro ys _ ⟨m, rfl, hm, hs⟩
  by_cases hm0 : (m : Int) - 1 ≥ 0
  ·rw [if_pos (by simpa using hm0)]
   obtain ⟨j, rfl⟩ : ∃ j, m = j + 1 := ⟨m - 1, OM⟩
   have ej : ((j + 1 : Nat) : Int) - 1 = (j : Int) := by omega
   have ej1 : (j : Int) + 1 = ((j + 1 : Nat) : Int) := by omega
   rw [ej, ej1, eqPt_is]
   have hl := lcs_drop a b (i := i) (j := j) OM OM
   have n1 := hr.2 (j + 1) (Nat.zero_le _) OM
   have n2 := hr.2 j (Nat.zero_le _) OM
   have n3 := hs.2 (j + 1) (Nat.le_refl _) OM
   have b1 := lcs_le2 (a.drop (i + 1)) (b.drop (j + 1))
   rw [List.length_drop] at b1
   have hset : ∀ v : Int, v = (lcs (a.drop i) (b.drop j) : Nat) → RowOk a b i j (ys.set (j : Int).toNat v) := fun v hv => by
    refine ⟨by rw [List.length_set]; exact hs.1, fun u hu1 hu2 => ?_⟩
    rw [Int.toNat_natCast, nth_set _ (by have := hs.1; omega)]
    by_cases e : u = j
    ·subst e; rw [if_pos rfl, hv]
    ·rw [if_neg e]; exact hs.2 u OM hu2
   have l1 := hr.1
   have l2 := hs.1
   refine ⟨OM, OM, ?_⟩
   by_cases he : nth a (i : Int) = nth b (j : Int)
   ·rw [if_pos (by simpa using he)]
    rw [if_pos he] at hl
    rw [n1]
    exact ⟨by unfold I64; omega, OM, by unfold I64; omega, OM, by unfold I64; omega, ⟨j, OM, OM, hset _ OM⟩, by dsimp only; omega⟩
   ·rw [if_neg (by simpa using he)]
    rw [if_neg he] at hl
    rw [n2, n3, F116.m_is]
    exact ⟨OM, by unfold I64; omega, OM, OM, by unfold I64; omega, ⟨j, OM, OM, hset _ OM⟩, by dsimp only; omega⟩
  ·rw [if_neg (by simpa using hm0)]
   have : m = 0 := by omega
   subst this
   exact ⟨by unfold I64; omega, ⟨i, OM, OM, hs⟩, by dsimp only; omega⟩
 ·rw [if_neg (by simpa using hk0)]
  have : k = 0 := by omega
  subst this
  have h1 := hr.1
  have h2 := hr.2 0 (Nat.le_refl _) (Nat.zero_le _)
  refine ⟨OM, ?_⟩
  rw [show nth xs 0 = nth xs ((0 : Nat) : Int) from rfl, h2]
  exact hq
theorem cut_end (a : List Pt) (k : Nat) : (a.drop k).take (a.length - k) = a.drop k := List.take_of_length_le (by rw [List.length_drop]; omega)
theorem F53.law (a b : List Pt) (Q : List Pair → Prop) (hq : Q (spairs a b)) : F53.E a b Q := by
 unfold F53.E
 unfold spairs at hq
 refine ⟨fun xs i j => ∃ u v : Nat, i = u ∧ j = v ∧ u ≤ a.length ∧ v ≤ b.length ∧ (few a b = true → xs ++ (pairs u v (a.drop u) (b.drop v)).map mkP = (pairs 0 0 a b).map mkP) ∧ (few a b = false → xs = []), fun _ i j => ((a.length - i) + (b.length - j)).toNat, ⟨0, 0, rfl, rfl, Nat.zero_le _, Nat.zero_le _, fun _ => rfl, fun _ => rfl⟩, ?_⟩
 rintro xs _ _ ⟨u, v, rfl, rfl, hu, hv, hx, hy⟩
 have hend : (a.length ≤ u ∨ b.length ≤ v) → Q xs := fun h => by
  by_cases hf : few a b = true
  ·rw [if_pos hf] at hq
   have hx := hx hf
   rcases h with h | h
   ·rw [List.drop_of_length_le h, pairs_nil, List.map_nil, List.append_nil] at hx
    rw [hx]; exact hq
   ·rw [List.drop_of_length_le h, pairs_nil2, List.map_nil, List.append_nil] at hx
    rw [hx]; exact hq
  ·rw [if_neg hf] at hq
   rw [hy (by simpa using hf)]; exact hq
 by_cases hu0 : (u : Int) < (a.length : Int)
 ·rw [if_pos (by simpa using hu0)]
  by_cases hv0 : (v : Int) < (b.length : Int)
  ·rw [if_pos (by simpa using hv0)]
   refine F115.law _ _ _ ?_
   by_cases hf : few a b = true
   ·rw [if_pos hf]
    have hx := hx hf
    have hff := few_iff.1 hf
    have hu1 : u < a.length := by omega
    have hv1 : v < b.length := by omega
    rw [pairs_drop a b hu1 hv1] at hx
    have eu : (u : Int) + 1 = ((u + 1 : Nat) : Int) := by omega
    have ev : (v : Int) + 1 = ((v + 1 : Nat) : Int) := by omega
    rw [eqPt_is, eu, ev]
    refine ⟨OM, OM, ?_⟩
    by_cases he : nth a (u : Int) = nth b (v : Int)
    ·rw [if_pos (by simpa using he)]
     rw [if_pos he, List.map_cons] at hx
     have hl := congrArg List.length hx
     rw [List.length_map, pairs_len, List.length_append] at hl
     have := lcs_le1 a b
     exact ⟨by simp only [List.length_singleton]; omega, OM, OM, ⟨u + 1, v + 1, rfl, rfl, OM, OM, fun _ => by rw [List.append_assoc]; exact hx, fun e => absurd hf (by rw [e]; exact Bool.false_ne_true)⟩, by dsimp only; omega⟩
    ·rw [if_neg (by simpa using he)]
     rw [if_neg he] at hx
     simp only [Int.toNat_natCast, cut_end]
     refine ⟨OM, OM, OM, _, F92.law _ _ _ (by rw [List.length_drop]; omega) (by rw [List.length_drop]; omega) rfl, OM, OM, OM, _, F92.law _ _ _ (by rw [List.length_drop]; omega) (by rw [List.length_drop]; omega) rfl, ?_⟩
     by_cases hc : lcs (a.drop u) (b.drop (v + 1)) ≤ lcs (a.drop (u + 1)) (b.drop v)
     ·rw [if_pos (by simpa using hc)]
      rw [if_pos hc] at hx
      exact ⟨OM, ⟨u + 1, v, rfl, rfl, OM, OM, fun _ => hx, fun e => absurd hf (by rw [e]; exact Bool.false_ne_true)⟩, OM⟩
     ·rw [if_neg (by simpa using hc)]
      rw [if_neg hc] at hx
      exact ⟨OM, ⟨u, v + 1, rfl, rfl, OM, OM, fun _ => hx, fun e => absurd hf (by rw [e]; exact Bool.false_ne_true)⟩, OM⟩
   ·rw [if_neg hf]
    rw [if_neg hf] at hq
    rw [hy (by simpa using hf)]; exact hq
  ·rw [if_neg (by simpa using hv0)]; exact hend (.inr OM)
 ·rw [if_neg (by simpa using hu0)]; exact hend (.inl OM)
theorem F128.law (l : List Pair) (k : Int) (Q : Int → Prop) (hq : Q (mateI l k)) : F128.E l k Q := by
 unfold F128.E
 refine ⟨fun i => ∃ u : Nat, i = u ∧ u ≤ l.length ∧ mateI (l.drop u) k = mateI l k, fun i => (l.length - i).toNat, ⟨0, rfl, Nat.zero_le _, rfl⟩, ?_⟩
 rintro _ ⟨u, rfl, hu, he⟩
 by_cases h : (u : Int) < (l.length : Int)
 ·rw [if_pos (by simpa using h)]
  rw [drop_nth l OM, mateI_cons] at he
  refine ⟨OM, ?_⟩
  by_cases hc : ((nth l (u : Int)).A == k) = true
  ·rw [if_pos hc] at he ⊢
   refine ⟨OM, ?_⟩
   rw [he]; exact hq
  ·rw [if_neg hc] at he ⊢
   exact ⟨OM, ⟨u + 1, OM, OM, he⟩, by dsimp only; omega⟩
 ·rw [if_neg (by simpa using h)]
  rw [List.drop_of_length_le (by omega : l.length ≤ u), mateI_nil] at he
  rw [he]; exact hq
theorem F93.law (o a b : List Pt) (Q : List Pt → Bool → Prop) (hs : ∀ r, pickL o a b = some r → Q r true) (hn : pickL o a b = none → Q [] false) : F93.E o a b Q := by
 unfold F93.E
 unfold pickL at hs hn
 refine F91.law _ _ _ ?_
 by_cases h1 : a = o
 ·rw [if_pos (by simpa using h1)]
  rw [if_pos h1] at hs; exact hs _ rfl
 rw [if_neg (by simpa using h1)]
 rw [if_neg h1] at hs hn
 refine F91.law _ _ _ ?_
 by_cases h2 : b = o
 ·rw [if_pos (by simpa using h2)]
  rw [if_pos h2] at hs; exact hs _ rfl
 rw [if_neg (by simpa using h2)]
 rw [if_neg h2] at hs hn
 refine F91.law _ _ _ ?_
 by_cases h3 : a = b
 ·rw [if_pos (by simpa using h3)]
  rw [if_pos h3] at hs; exact hs _ rfl
 ·rw [if_neg (by simpa using h3)]
  rw [if_neg h3] at hn; exact hn rfl
theorem F70.law (o a b : List Pt) (Q : List Pt → Bool → Prop) (h1 : few o a = true) (h2 : few o b = true) (hs : ∀ r, smerge o a b = some r → Q r true) (hn : smerge o a b = none → Q [] false) : F70.E o a b Q := by
 unfold F70.E
 refine F53.law _ _ _ (F53.law _ _ _ ?_)
 have f1 := few_iff.1 h1; have f2 := few_iff.1 h2
 refine ⟨fun xs i j k t => (∃ i' j' k' t' : Nat, i = i' ∧ j = j' ∧ k = k' ∧ t = t' ∧ MInv o a b xs i' j' k' t') ∨ (t = (o.length : Int) + 1 ∧ smerge o a b = some xs), fun _ _ _ _ t => (o.length + 1 - t).toNat, .inl ⟨0, 0, 0, 0, rfl, rfl, rfl, rfl, MInv.zero h1 h2⟩, ?_⟩
 rintro xs _ _ _ _ (⟨i, j, k, t, rfl, rfl, rfl, rfl, h⟩ | ⟨rfl, h⟩)
 ·have ht := h.ht; have hi := h.hi; have hj := h.hj; have hk := h.hk; have hl := h.len
  rw [if_pos (by simp; omega)]
  simp only [Int.toNat_natCast]
  by_cases ht0 : (t : Int) < (o.length : Int)
  ·rw [if_pos (by simpa using ht0)]
   refine F128.law _ _ _ (F128.law _ _ _ ?_)
   rw [mate_part h1, mate_part h2]
   cases hx : part o a t with
   | none =>
    rw [if_pos RD]
    exact ⟨OM, .inl ⟨i, j, k, t + 1, rfl, rfl, rfl, rfl, h.skip OM (.inl hx)⟩, OM⟩
   | some x =>
    rw [if_neg (by simp)]
    cases hy : part o b t with
    | none =>
     rw [if_pos RD]
     exact ⟨OM, .inl ⟨i, j, k, t + 1, rfl, rfl, rfl, rfl, h.skip OM (.inr hy)⟩, OM⟩
    | some y =>
     rw [if_neg (by simp)]
     dsimp only
     obtain ⟨g1, g2, g3, g4⟩ := h.from hx hy
     refine ⟨OM, OM, OM, F93.law _ _ _ _ (fun p hp => ?_) (fun hp => ?_)⟩
     ·rw [if_neg (by simp)]
      have hm := (pickL_mem (o := seg o i t) (a := seg a j x) (b := seg b k y) hp).2.2.2
      rw [seg_len a _ _ OM, seg_len b _ _ OM] at hm
      exact ⟨OM, OM, by simp only [List.length_append, List.length_singleton]; omega, OM, fun _ _ _ => by unfold I64; omega, fun _ _ _ => by unfold I64; omega, OM, .inl ⟨t + 1, x + 1, y + 1, t + 1, rfl, rfl, rfl, rfl, h.step OM hx hy hp⟩, OM⟩
     ·rw [if_pos (by simp)]
      exact hn (h.stop OM hx hy hp)
  ·rw [if_neg (by simpa using ht0)]
   have : t = o.length := by omega
   subst this
   refine ⟨OM, OM, OM, ?_⟩
   have hlast := h.last
   have e1 : (o.drop i).take (o.length - i) = o.drop i := seg_end o i
   have e2 : (a.drop j).take (a.length - j) = a.drop j := seg_end a j
   have e3 : (b.drop k).take (b.length - k) = b.drop k := seg_end b k
   rw [e1, e2, e3]
   refine F93.law _ _ _ _ (fun p hp => ?_) (fun hp => ?_)
   ·rw [if_neg (by simp)]
    have hm := (pickL_mem hp).2.2.2
    rw [List.length_drop, List.length_drop] at hm
    rw [hp, Option.map_some] at hlast
    exact ⟨OM, fun _ _ _ => by unfold I64; omega, fun _ _ _ => by unfold I64; omega, fun _ _ _ => by unfold I64; omega, fun _ _ _ => by unfold I64; omega, .inr ⟨rfl, hlast.symm⟩, OM⟩
   ·rw [if_pos (by simp)]
    rw [hp] at hlast
    exact hn hlast.symm
 ·rw [if_neg (by simp; omega)]
  exact hs _ h
theorem F71.law (o a b : Shape) (Q : Shape → Bool → Prop) (h1 : o.Pts.length ≤ 6) (h2 : a.Pts.length ≤ 6) (h3 : b.Pts.length ≤ 6) (hq : Q (shapeF o a b).1 (shapeF o a b).2) : F71.E o a b Q := by
 unfold F71.E
 unfold shapeF three at hq
 refine F39.law _ _ _ ?_
 by_cases e1 : a = o
 ·rw [decide_eq_true e1, if_pos rfl]; rw [if_pos e1, if_pos rfl] at hq; exact hq
 rw [decide_eq_false e1, if_neg RD]; rw [if_neg e1] at hq
 refine F39.law _ _ _ ?_
 by_cases e2 : b = o
 ·rw [decide_eq_true e2, if_pos rfl]; rw [if_pos e2, if_pos rfl] at hq; exact hq
 rw [decide_eq_false e2, if_neg RD]; rw [if_neg e2] at hq
 refine F39.law _ _ _ ?_
 by_cases e3 : a = b
 ·rw [decide_eq_true e3, if_pos rfl]; rw [if_pos e3, if_pos rfl] at hq; exact hq
 rw [decide_eq_false e3, if_neg RD]; rw [if_neg e3, if_neg (by simp)] at hq
 by_cases k1 : a.Kind = b.Kind
 case neg => rw [if_pos (by rw [bne_iff_ne]; exact k1)]; rw [if_neg fun h => k1 (h.1.trans h.2.symm)] at hq; exact hq
 rw [if_neg (by rw [k1]; simp)]
 by_cases k2 : a.Kind = o.Kind
 case neg => rw [if_pos (by rw [bne_iff_ne]; exact k2)]; rw [if_neg fun h => k2 h.1] at hq; exact hq
 rw [if_neg (by rw [k2]; simp)]
 rw [if_pos ⟨k2, k1.symm.trans k2⟩] at hq
 refine F70.law _ _ _ _ (few_iff.2 OM) (few_iff.2 OM) (fun r hr => ?_) (fun hr => ?_)
 ·rw [if_neg RD]
  rw [hr] at hq
  dsimp only at hq
  refine F63.law _ _ ?_
  cases k3 : shapeOk ⟨a.Kind, r⟩ with
  | true => rw [if_neg RD]; rw [if_pos k3] at hq; exact hq
  | false => rw [if_pos RD]; rw [if_neg (by rw [k3]; decide)] at hq; exact hq
 ·rw [if_pos RD]; rw [hr] at hq; exact hq
theorem F117.law (t : List Tag) (key : Str) (Q : Str → Bool → Prop) (hq : Q (valT t key).val (valT t key).has) : F117.E t key Q := by
 unfold F117.E
 unfold valT at hq
 obtain ⟨I, mu, h1, h2⟩ := loop_find t.length (fun j => (nth t (j : Int)).Key == key) (Q := fun r => if r < 0 then Q [] false else Q (nth t r).Val true)
  (B := fun I mu i => ((0 : Int) ≤ i ∧ i < (t.length : Int)) ∧ (if ((nth t i).Key) == key then ((0 : Int) ≤ i ∧ i < (t.length : Int)) ∧ Q ((nth t i).Val) true else (-9223372036854775808 ≤ i) ∧ I (i + 1) ∧ mu (i + 1) < mu i))
  (by
   try dsimp only
   split
   ·rename_i h; rw [if_pos h] at hq; exact hq
   ·rename_i h; rw [if_neg h] at hq; exact hq)
  (fun I mu k hk h1 h2 => ⟨OM, by
   cases h : (nth t (k : Int)).Key == key with
   | true => rw [if_pos rfl]; have := h1 h; rw [if_neg OM] at this; exact ⟨OM, this⟩
   | false => rw [if_neg RD]; obtain ⟨i1, i2⟩ := h2 h; exact ⟨OM, i1, i2⟩⟩)
 refine ⟨I, mu, h1, fun i hi => ?_⟩
 have h3 := h2 i hi
 by_cases h : i < (t.length : Int)
 ·rw [if_pos (decide_eq_true h)] at h3 ⊢; exact h3
 ·rw [if_neg (by simpa using h)] at h3 ⊢
  rw [if_pos RD] at h3; exact h3
end Go.Proofs.YtpdmnmpcjljeaaaGreat