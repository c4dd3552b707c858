/- It is proved here that the law FnDiffOne of the given program holds whatever it is handed: the walks through the code, the plain laws and the row, in this order.
   Conditions: none. -/
import Derived.Below
import Derived.ChangeArms
import Derived.ChangeOld
import Derived.ChangeSlices
import Derived.ChangeVars
import Derived.DataReads
import Derived.Deep.Quiet
import Derived.KernelRfl
import Derived.LaidHandle
import Derived.LaidLaws
import Derived.LaidMore
import Derived.Laws.Build
import Derived.Laws.IdiomStrings
import Derived.Laws.OwnMore
import Derived.Laws.Slices
import Derived.Laws.Strings2
import Derived.Laws.StructEq
import Derived.Lib.ItoaNum
import Derived.Lib.LaidTab
import Derived.MakeChecks
import Derived.OpenShut
import Derived.OpenVars
import Derived.ProofKit
import Derived.SevenTiedAt
import Derived.Shelf.LaysM
import Derived.Shelf.SlSortCmp.NoneTotal
import Derived.Shelf.SlSortCmp.WholeK
import Derived.Shelf.Slices.Cells
import Derived.Shelf.Slices.CompactS
import Derived.Shelf.Slices.In.SortNone
import Derived.Shelf.Small.Bits
import Derived.Shelf.Sort.Plain
import Derived.Shelf.Strconv.Itoa0
import Derived.Shelf.Strconv.Itoa1
import Derived.Shelf.Strconv.Itoa2
import Derived.Shelf.Strconv.Itoa3
import Derived.ShutString
import Derived.SizedLaws
import Derived.StillTail
import Derived.Stop.Joined
import Derived.Test.YtlaaehjcooonfaaGreatDoorCards
import Derived.Test.YtlaaehjcooonfaaGreatDoorProg
import Derived.Test.YtlaaehjcooonfaaGreatDoorRows
import Derived.Test.YtlaaehjcooonfaaGreatDoorTie
import Derived.WalkKit
import Derived.Test.YtlaaehjcooonfaaGreatDoorCDiffOnea
import Derived.Test.YtlaaehjcooonfaaGreatDoorCDiffOneb
namespace Go.Proofs.YtlaaehjcooonfaaGreatDoor
set_option linter.unusedVariables false
set_option linter.unusedSimpArgs false
set_option linter.unusedSectionVars false
set_option maxHeartbeats 8000000
set_option maxRecDepth 100000
open Go.RowKit
variable {O : Ob} {w0 : World}
def F100.E (d : List Change) (Q : Bool → Prop) : Prop :=
 (∃ (I19 : Int → Prop) (mu20 : Int → Nat), I19 0 ∧ ∀ (v2 : Int), I19 v2 → (if decide (v2 < (d.length : Int)) then ((0 : Int) ≤ v2 ∧ v2 < (d.length : Int)) ∧ (∃ q : Bool, F96.E ((nth d v2).Id) (fun x => x = q) ∧ (if !q then Q false else (if decide (v2 > 0) then (I64 (v2 - 1)) ∧ ((0 : Int) ≤ v2 - 1 ∧ v2 - 1 < (d.length : Int)) ∧ (if !(Op.bytesLess ((nth d (v2 - 1)).Id) ((nth d v2).Id)) then Q false else (∃ q2 : Bool, F99.E ((nth d v2).Id) ((nth d v2).Had) ((nth d v2).Was) (fun x => x = q2) ∧ (if !q2 then Q false else (∃ q3 : Bool, F99.E ((nth d v2).Id) ((nth d v2).Has) ((nth d v2).Now) (fun x => x = q3) ∧ (if !q3 then Q false else (∃ q4 : Bool, F19.E (nth d v2) (fun x => x = q4) ∧ (if q4 then Q false else (I64 (v2 + 1)) ∧ I19 (v2 + 1) ∧ mu20 (v2 + 1) < mu20 v2))))))) else (∃ q5 : Bool, F99.E ((nth d v2).Id) ((nth d v2).Had) ((nth d v2).Was) (fun x => x = q5) ∧ (if !q5 then Q false else (∃ q6 : Bool, F99.E ((nth d v2).Id) ((nth d v2).Has) ((nth d v2).Now) (fun x => x = q6) ∧ (if !q6 then Q false else (∃ q7 : Bool, F19.E (nth d v2) (fun x => x = q7) ∧ (if q7 then Q false else (I64 (v2 + 1)) ∧ I19 (v2 + 1) ∧ mu20 (v2 + 1) < mu20 v2))))))))) else Q (decide ((d.length : Int) ≤ 16))))
theorem F100.calls {d : List Change} {A1 : Option Addr} {n2 c3 : Nat} {Q : Bool → Prop} (H : F100.E d Q) (hO : Ok w0 O) (hp4 : Sl kChange w0 (Fr O) (G A1 n2 c3) d) :
  Ret Tryz.prog 17 [G A1 n2 c3] w0 (fun v w' => ∃ (r0 : Bool), v = vb r0 ∧ Q r0 ∧ Gr w0 w' none) := by
 unfold F100.E at H;have hc0 := Ct.init hO;refine X9 Tryz.func17 Z 59 Z [.tmp 2] Z Z ?_;refine Xc (Xd (Xg (vb false) Z (Xb (Xc (Xc (Xd (Xe (G A1 n2 c3) Z ?_)))))));have hl6 := hp4.le;refine Xa (Yc u23_ A1 n2 c3 hp4.len Z) (Xe (vi 0) Z (Xb (X8 ?_)));obtain ⟨b3, b4, a8, H⟩ := H;refine Yj (α := Int) (fun (sv__ : Int) t a9 => match sv__ with | v2 => b3 v2 ∧ Has t [(0, G A1 n2 c3), (5, G A1 n2 c3), (6, vi (d.length : Int)), (7, vi v2)] ∧ Ct [] w0 a9 [] O ∧ Sl kChange a9 (Fr ([] ++ O)) (G A1 n2 c3) d) (fun (sv__ : Int) => match sv__ with | v2 => b4 v2) 0 ⟨a8, (X0 Z), hc0, hp4⟩ ?_;rintro v2 _ a9 ⟨a8, b5, a4, az⟩;obtain ⟨dm, rfl⟩ := Has.ins b5;have H := H v2 a8;refine Xc (Xd (Xa (X1 v2 (d.length : Int) (decide (v2 < (d.length : Int))) Z Z Z) (Xb (Xc ?_))));refine Xz (decide (v2 < (d.length : Int))) Z (fun ba => ?_) (fun ba => ?_)
 ·have H := Xp H ba;refine Xx (Xc (X8 (Xc (Xd (Xe (vi v2) Z ?_)))));obtain ⟨bl, H⟩ := H;obtain ⟨bm, dn, b6, dp, b7, b8⟩ := az.get default RD v2 bl;obtain ⟨ah, ai, aj, ak, al, am, an, ao, ap, aq, ar, au, rfl, ay, a5, bn, bo, a6, bp, bq⟩ := kChange.op b7;refine Xa (X3 u23_ Y4 A1 bm n2 c3 az.len v2 Z b6 Z bl) (Xa (Xv ag62 sz62 cL (bm.add (v2.toNat * 11)) [vs ((nth d v2).Id), vb ((nth d v2).Had), vs ((nth d v2).Was.Id), vi ((nth d v2).Was.Shape.Kind), G ah ai aj, G ak al am, vb ((nth d v2).Has), vs ((nth d v2).Now.Id), vi ((nth d v2).Now.Shape.Kind), G an ao ap, G aq ar au] Z Z b8) (Yp [vs [], vb false, vs [], .int .i64 0, G none 0 0, G none 0 0, vb false, vs [], .int .i64 0, G none 0 0, G none 0 0] ze62 fun dq aa bb hu60 bc b9 => ?_));have bd := a4.own bc (some aa) (Yn bb hu60);refine Xg (vi v2) Z (Ye [vs ((nth d v2).Id), vb ((nth d v2).Had), vs ((nth d v2).Was.Id), vi ((nth d v2).Was.Shape.Kind), G ah ai aj, G ak al am, vb ((nth d v2).Has), vs ((nth d v2).Now.Id), vi ((nth d v2).Now.Shape.Kind), G an ao ap, G aq ar au] b9 Z Z sz62 Z Z fun ca be ag => ?_);have af := bd.wr 0 Z be;refine Xb (Xc (Ys (fun x => Gr ca x none) RK RK (Gr.drew _) ?_));refine Xf (Xj fa62_0 (Ad aa 0) (Ad aa 0) Z Z) (Xf (Xo ag9 cQ (Ad aa 0) (vs ((nth d v2).Id)) Z (ag.cell Z)) ?_);obtain ⟨q, cb, H⟩ := H;refine Yq go51 [vs ((nth d v2).Id)] Z (vb q) (fun w g => (F96.calls cb (af.k0 g).ok ay).mono ?_) ?_
  ·rintro _ w ⟨r, rfl, rfl, g2⟩;exact ⟨Z, Gr.t0 g g2⟩
  refine Xf (X7 q Z) (Xs (vb (!q)) Z ?_);rcases X2 (!q) with av | av
  ·have H := Xp H av;refine Xm av Z (Xm av Z (Xm av Z (Xw Z (Xw Z (Xw Z (Xw Z (Xw Z (Xw Z ?_))))))));refine Xw Z (Xw Z (Xw Z (Xm av Z (Xf (Xk true (vb true) av Z) (Xs (vb true) Z (Xt (dj := 31) Z Z (.inl Z) (Xt (dj := 31) Z Z (.inl Z) (Xt (dj := 31) Z Z (.inl Z) ?_))))))));refine Xt (dj := 31) Z Z (.inl Z) (Xt (dj := 31) Z Z (.inl Z) (Xt (dj := 31) Z Z (.inl Z) (Xt (dj := 31) Z Z (.inl Z) (Xt (dj := 31) Z Z (.inl Z) (Xf (Xk true (vb true) Z Z) (Xs (vb true) Z (Xt (dj := 41) Z Z (.inl Z) (Xt (dj := 41) Z Z (.inl Z) ?_))))))));refine Xt (dj := 41) Z Z (.inl Z) (Xt (dj := 41) Z Z (.inl Z) (Xt (dj := 41) Z Z (.inl Z) (Xt (dj := 41) Z Z (.inl Z) (Xt (dj := 41) Z Z (.inl Z) (Xt (dj := 41) Z Z (.inl Z) (Xf (Xk true (vb true) Z Z) (Xs (vb true) Z (Xt (dj := 51) Z Z (.inl Z) ?_))))))));refine Xt (dj := 51) Z Z (.inl Z) (Xf (Xk true (vb true) Z Z) (Ya fun dr cc => ?_));have cd := af.k0 cc;refine Yr (b := true) Z Z ?_;refine Xc (Xd (Xg (vb false) Z (Xb (Xn ?_))));have ce := cd.drop 0 Z;exact ⟨[vb false], ⟨_, Z, Z⟩, false, Z, H, ce.gr.g0⟩
  have H := Xq H av;refine Xl av Z (Xs (vi v2) Z (Xl av Z (Xf (X1 v2 0 (decide (v2 > 0)) Z Z Z) (Xl av Z (Xs (vb (decide (v2 > 0))) Z ?_)))));rcases X2 (decide (v2 > 0)) with ab | ab
  ·have H := Xp H ab;refine Xl ab Z (Xs (G A1 n2 c3) Z (Xl ab Z (Xs (vi v2) Z (Xl ab Z ?_))));obtain ⟨cf, H⟩ := H;refine Xf (Y3 v2 1 Z Z cf) (Xl ab Z ?_);obtain ⟨br, H⟩ := H;have a0 := a4.stown _ bc (X4 bb);have a1 := bd.stw 0 Z be;have bf := ((az.st a0).st a1);obtain ⟨a7, ds, cg, dt, ch, ci⟩ := bf.get default RD (v2 - 1) br;obtain ⟨du, dv, dw, dx, dy, dz, d0, d1, d2, d3, d4, d5, rfl, d6, d7, d8, d9, ea, eb, ec⟩ := kChange.op ch;refine Xf (X3 u23_ Y4 A1 a7 n2 c3 bf.len (v2 - 1) Z cg Z br) (Xl ab Z (Xf (Xj fa62_0 (a7.add ((v2 - 1).toNat * 11)) ((a7.add ((v2 - 1).toNat * 11)).add 0) Z Z) (Xl ab Z (Xf (Xo ag9 cQ ((a7.add ((v2 - 1).toNat * 11)).add 0) (vs ((nth d (v2 - 1)).Id)) Z (ci 0 _ Z)) (Xl ab Z (Xf (Xj fa62_0 (Ad aa 0) (Ad aa 0) Z Z) (Xl ab Z (Xf (Xo ag9 cQ (Ad aa 0) (vs ((nth d v2).Id)) Z (ag.cell Z)) ?_))))))));refine Xl ab Z (Xf (Yi ((nth d (v2 - 1)).Id) ((nth d v2).Id) (!(Op.bytesLess ((nth d (v2 - 1)).Id) ((nth d v2).Id))) Z Z Z) (Xl av Z (Xf (Ym true (vb (!(Op.bytesLess ((nth d (v2 - 1)).Id) ((nth d v2).Id)))) (by exact congrArg Value.bool ab) Z) (Xf (Ym false (vb (!(Op.bytesLess ((nth d (v2 - 1)).Id) ((nth d v2).Id)))) (by exact congrArg Value.bool av) Z) (Xs (vb (!(Op.bytesLess ((nth d (v2 - 1)).Id) ((nth d v2).Id)))) Z ?_)))));rcases X2 (!(Op.bytesLess ((nth d (v2 - 1)).Id) ((nth d v2).Id))) with ac | ac
   ·have H := Xp H ac;refine Xm ac Z (Xm ac Z (Xm ac Z (Xm ac Z (Xm ac Z (Xm ac Z (Xm ac Z (Xm ac Z (Xf (Xk true (vb true) ac Z) ?_))))))));refine Xs (vb true) Z (Xt (dj := 41) Z Z (.inl Z) (Xt (dj := 41) Z Z (.inl Z) (Xt (dj := 41) Z Z (.inl Z) (Xt (dj := 41) Z Z (.inl Z) (Xt (dj := 41) Z Z (.inl Z) (Xt (dj := 41) Z Z (.inl Z) (Xt (dj := 41) Z Z (.inl Z) (Xt (dj := 41) Z Z (.inl Z) ?_))))))));refine Xf (Xk true (vb true) Z Z) (Xs (vb true) Z (Xt (dj := 51) Z Z (.inl Z) (Xt (dj := 51) Z Z (.inl Z) (Xf (Xk true (vb true) Z Z) (Ya fun ed cj => ?_)))));have ck := af.k0 cj;refine Yr (b := true) Z Z ?_;refine Xc (Xd (Xg (vb false) Z (Xb (Xn ?_))));have cl := ck.drop 0 Z;exact ⟨[vb false], ⟨_, Z, Z⟩, false, Z, H, cl.gr.g0⟩
   have H := Xq H ac;refine Xl ac Z (Xf (Xj fa62_0 (Ad aa 0) (Ad aa 0) Z Z) (Xl ac Z (Xf (Xo ag9 cQ (Ad aa 0) (vs ((nth d v2).Id)) Z (ag.cell Z)) (Xl ac Z (Xf (Xj fa62_1 (Ad aa 0) (Ad aa 1) Z Z) (Xl ac Z (Xf (Xo ag4 cQ (Ad aa 1) (vb ((nth d v2).Had)) Z (ag.cell Z)) (Xl ac Z ?_))))))));refine Xf (Xj fa62_2 (Ad aa 0) (Ad aa 2) Z Z) (Xl ac Z (Xf (Xv ag44 sz44 cQ (Ad aa 2) [vs ((nth d v2).Was.Id), vi ((nth d v2).Was.Shape.Kind), G ah ai aj, G ak al am] Z Z (ag.cells (off := 2) Z)) (Xl ac Z ?_)));have bs := ((bn.st a0).st a1);have bt := ((bo.st a0).st a1);obtain ⟨q2, cm, H⟩ := H;refine Yq go52 [vs ((nth d v2).Id), vb ((nth d v2).Had), .agg #[vs ((nth d v2).Was.Id), vi ((nth d v2).Was.Shape.Kind), G ah ai aj, G ak al am]] Z (vb q2) (fun w g => (F99.calls cm (af.k0 g).ok ay a5 (bs.st (.new _ g)) (bt.st (.new _ g))).mono ?_) ?_
   ·rintro _ w ⟨r, rfl, rfl, g2⟩;exact ⟨Z, Gr.t0 g g2⟩
   refine Xl ac Z (Xf (X7 q2 Z) (Xf (Xk false (vb (!q2)) ac Z) (Xs (vb (!q2)) Z ?_)));rcases X2 (!q2) with ad | ad
   ·have H := Xp H ad;refine Xm ad Z (Xm ad Z (Xm ad Z (Xm ad Z (Xm ad Z (Xm ad Z (Xm ad Z (Xm ad Z (Xf (Xk true (vb true) ad Z) ?_))))))));refine Xs (vb true) Z (Xt (dj := 51) Z Z (.inl Z) (Xt (dj := 51) Z Z (.inl Z) (Xf (Xk true (vb true) Z Z) (Ya fun ee cn => ?_))));have co := af.k0 cn;refine Yr (b := true) Z Z ?_;refine Xc (Xd (Xg (vb false) Z (Xb (Xn ?_))));have cp := co.drop 0 Z;exact ⟨[vb false], ⟨_, Z, Z⟩, false, Z, H, cp.gr.g0⟩
   have H := Xq H ad;refine Xl ad Z (Xf (Xj fa62_0 (Ad aa 0) (Ad aa 0) Z Z) (Xl ad Z (Xf (Xo ag9 cQ (Ad aa 0) (vs ((nth d v2).Id)) Z (ag.cell Z)) (Xl ad Z (Xf (Xj fa62_3 (Ad aa 0) (Ad aa 6) Z Z) (Xl ad Z (Xf (Xo ag4 cQ (Ad aa 6) (vb ((nth d v2).Has)) Z (ag.cell Z)) (Xl ad Z ?_))))))));refine Xf (Xj fa62_4 (Ad aa 0) (Ad aa 7) Z Z) (Xl ad Z (Xf (Xv ag44 sz44 cQ (Ad aa 7) [vs ((nth d v2).Now.Id), vi ((nth d v2).Now.Shape.Kind), G an ao ap, G aq ar au] Z Z (ag.cells (off := 7) Z)) (Xl ad Z ?_)));have bu := ((bp.st a0).st a1);have bv := ((bq.st a0).st a1);obtain ⟨q3, cq, H⟩ := H;refine Yq go52 [vs ((nth d v2).Id), vb ((nth d v2).Has), .agg #[vs ((nth d v2).Now.Id), vi ((nth d v2).Now.Shape.Kind), G an ao ap, G aq ar au]] Z (vb q3) (fun w g => (F99.calls cq (af.k0 g).ok ay a6 (bu.st (.new _ g)) (bv.st (.new _ g))).mono ?_) ?_
   ·rintro _ w ⟨r, rfl, rfl, g2⟩;exact ⟨Z, Gr.t0 g g2⟩
   refine Xl ad Z (Xf (X7 q3 Z) (Xf (Xk false (vb (!q3)) ad Z) (Xs (vb (!q3)) Z ?_)));rcases X2 (!q3) with aw | aw
   ·have H := Xp H aw;refine Xm aw Z (Xm aw Z (Xf (Xk true (vb true) aw Z) (Ya fun ef cr => ?_)));have cs := af.k0 cr;refine Yr (b := true) Z Z ?_;refine Xc (Xd (Xg (vb false) Z (Xb (Xn ?_))));have ct := cs.drop 0 Z;exact ⟨[vb false], ⟨_, Z, Z⟩, false, Z, H, ct.gr.g0⟩
   have H := Xq H aw;refine Xl aw Z (Xf (Xv ag62 sz62 cQ (Ad aa 0) [vs ((nth d v2).Id), vb ((nth d v2).Had), vs ((nth d v2).Was.Id), vi ((nth d v2).Was.Shape.Kind), G ah ai aj, G ak al am, vb ((nth d v2).Has), vs ((nth d v2).Now.Id), vi ((nth d v2).Now.Shape.Kind), G an ao ap, G aq ar au] Z Z (ag.cells (off := 00) Z)) (Xl aw Z ?_));obtain ⟨q4, cu, H⟩ := H;refine Yq go53 [.agg #[vs ((nth d v2).Id), vb ((nth d v2).Had), vs ((nth d v2).Was.Id), vi ((nth d v2).Was.Shape.Kind), G ah ai aj, G ak al am, vb ((nth d v2).Has), vs ((nth d v2).Now.Id), vi ((nth d v2).Now.Shape.Kind), G an ao ap, G aq ar au]] Z (vb q4) (fun w g => (F19.calls cu (af.k0 g).ok ay a5 (bs.st (.new _ g)) (bt.st (.new _ g)) a6 (bu.st (.new _ g)) (bv.st (.new _ g))).mono ?_) ?_
   ·rintro _ w ⟨r, rfl, rfl, g2⟩;exact ⟨Z, Gr.t0 g g2⟩
   refine Xf (Xk false (vb q4) aw Z) (Ya fun eg bw => ?_);have bg := af.k0 bw;refine Xz q4 Z (fun bh => ?_) (fun bh => ?_)
   ·have H := Xp H bh;refine Xc (Xd (Xg (vb false) Z (Xb (Xn ?_))));have cv := bg.drop 0 Z;exact ⟨[vb false], ⟨_, Z, Z⟩, false, Z, H, cv.gr.g0⟩
   have H := Xq H bh;refine Xx (Xd ?_);obtain ⟨cw, H⟩ := H;refine Xa (Yd v2 1 Z Z cw) (Xe (vi (v2 + 1)) Z (Xb ?_));have cx := bg.drop 0 Z;obtain ⟨cy, cz⟩ := H;have c0 := af.stn bw;have c1 := bg.std 0 Z;have c2 := ((bf.st c0).st c1);exact ⟨v2 + 1, cz, cy, (X0 Z), cx, c2⟩
  have H := Xq H ab;refine Xm ab Z (Xm ab Z (Xm ab Z (Xm ab Z (Xm ab Z (Xm ab Z (Xm ab Z (Xm ab Z (Xm ab Z ?_))))))));refine Xl av Z (Xf (Xk false (vb false) ab Z) (Xf (Xk false (vb false) av Z) (Xs (vb false) Z (Zd (dj := 31) Z Z Z (Xf (Xj fa62_0 (Ad aa 0) (Ad aa 0) Z Z) (Zd (dj := 31) Z Z Z (Xf (Xo ag9 cQ (Ad aa 0) (vs ((nth d v2).Id)) Z (ag.cell Z)) (Zd (dj := 31) Z Z Z ?_))))))));refine Xf (Xj fa62_1 (Ad aa 0) (Ad aa 1) Z Z) (Zd (dj := 31) Z Z Z (Xf (Xo ag4 cQ (Ad aa 1) (vb ((nth d v2).Had)) Z (ag.cell Z)) (Zd (dj := 31) Z Z Z (Xf (Xj fa62_2 (Ad aa 0) (Ad aa 2) Z Z) (Zd (dj := 31) Z Z Z (Xf (Xv ag44 sz44 cQ (Ad aa 2) [vs ((nth d v2).Was.Id), vi ((nth d v2).Was.Shape.Kind), G ah ai aj, G ak al am] Z Z (ag.cells (off := 2) Z)) (Zd (dj := 31) Z Z Z ?_)))))));have a2 := a4.stown _ bc (X4 bb);have a3 := bd.stw 0 Z be;have bx := ((bn.st a2).st a3);have bz := ((bo.st a2).st a3);obtain ⟨q5, c4, H⟩ := H;refine Yq go52 [vs ((nth d v2).Id), vb ((nth d v2).Had), .agg #[vs ((nth d v2).Was.Id), vi ((nth d v2).Was.Shape.Kind), G ah ai aj, G ak al am]] Z (vb q5) (fun w g => (F99.calls c4 (af.k0 g).ok ay a5 (bx.st (.new _ g)) (bz.st (.new _ g))).mono ?_) ?_
  ·rintro _ w ⟨r, rfl, rfl, g2⟩;exact ⟨Z, Gr.t0 g g2⟩
  refine Zd (dj := 31) Z Z Z (Xf (X7 q5 Z) (Xf (Xk false (vb (!q5)) Z Z) (Xs (vb (!q5)) Z ?_)));rcases X2 (!q5) with ae | ae
  ·have H := Xp H ae;refine Xm ae Z (Xm ae Z (Xm ae Z (Xm ae Z (Xm ae Z (Xm ae Z (Xm ae Z (Xm ae Z (Xf (Xk true (vb true) ae Z) ?_))))))));refine Xs (vb true) Z (Xt (dj := 51) Z Z (.inl Z) (Xt (dj := 51) Z Z (.inl Z) (Xf (Xk true (vb true) Z Z) (Ya fun eh c5 => ?_))));have c6 := af.k0 c5;refine Yr (b := true) Z Z ?_;refine Xc (Xd (Xg (vb false) Z (Xb (Xn ?_))));have c7 := c6.drop 0 Z;exact ⟨[vb false], ⟨_, Z, Z⟩, false, Z, H, c7.gr.g0⟩
  have H := Xq H ae;refine Xl ae Z (Xf (Xj fa62_0 (Ad aa 0) (Ad aa 0) Z Z) (Xl ae Z (Xf (Xo ag9 cQ (Ad aa 0) (vs ((nth d v2).Id)) Z (ag.cell Z)) (Xl ae Z (Xf (Xj fa62_3 (Ad aa 0) (Ad aa 6) Z Z) (Xl ae Z (Xf (Xo ag4 cQ (Ad aa 6) (vb ((nth d v2).Has)) Z (ag.cell Z)) (Xl ae Z ?_))))))));refine Xf (Xj fa62_4 (Ad aa 0) (Ad aa 7) Z Z) (Xl ae Z (Xf (Xv ag44 sz44 cQ (Ad aa 7) [vs ((nth d v2).Now.Id), vi ((nth d v2).Now.Shape.Kind), G an ao ap, G aq ar au] Z Z (ag.cells (off := 7) Z)) (Xl ae Z ?_)));have b0 := ((bp.st a2).st a3);have b1 := ((bq.st a2).st a3);obtain ⟨q6, c8, H⟩ := H;refine Yq go52 [vs ((nth d v2).Id), vb ((nth d v2).Has), .agg #[vs ((nth d v2).Now.Id), vi ((nth d v2).Now.Shape.Kind), G an ao ap, G aq ar au]] Z (vb q6) (fun w g => (F99.calls c8 (af.k0 g).ok ay a6 (b0.st (.new _ g)) (b1.st (.new _ g))).mono ?_) ?_
  ·rintro _ w ⟨r, rfl, rfl, g2⟩;exact ⟨Z, Gr.t0 g g2⟩
  refine Xl ae Z (Xf (X7 q6 Z) (Xf (Xk false (vb (!q6)) ae Z) (Xs (vb (!q6)) Z ?_)));rcases X2 (!q6) with ax | ax
  ·have H := Xp H ax;refine Xm ax Z (Xm ax Z (Xf (Xk true (vb true) ax Z) (Ya fun ei c9 => ?_)));have da := af.k0 c9;refine Yr (b := true) Z Z ?_;refine Xc (Xd (Xg (vb false) Z (Xb (Xn ?_))));have db := da.drop 0 Z;exact ⟨[vb false], ⟨_, Z, Z⟩, false, Z, H, db.gr.g0⟩
  have H := Xq H ax;refine Xl ax Z (Xf (Xv ag62 sz62 cQ (Ad aa 0) [vs ((nth d v2).Id), vb ((nth d v2).Had), vs ((nth d v2).Was.Id), vi ((nth d v2).Was.Shape.Kind), G ah ai aj, G ak al am, vb ((nth d v2).Has), vs ((nth d v2).Now.Id), vi ((nth d v2).Now.Shape.Kind), G an ao ap, G aq ar au] Z Z (ag.cells (off := 00) Z)) (Xl ax Z ?_));obtain ⟨q7, dc, H⟩ := H;refine Yq go53 [.agg #[vs ((nth d v2).Id), vb ((nth d v2).Had), vs ((nth d v2).Was.Id), vi ((nth d v2).Was.Shape.Kind), G ah ai aj, G ak al am, vb ((nth d v2).Has), vs ((nth d v2).Now.Id), vi ((nth d v2).Now.Shape.Kind), G an ao ap, G aq ar au]] Z (vb q7) (fun w g => (F19.calls dc (af.k0 g).ok ay a5 (bx.st (.new _ g)) (bz.st (.new _ g)) a6 (b0.st (.new _ g)) (b1.st (.new _ g))).mono ?_) ?_
  ·rintro _ w ⟨r, rfl, rfl, g2⟩;exact ⟨Z, Gr.t0 g g2⟩
  refine Xf (Xk false (vb q7) ax Z) (Ya fun ej b2 => ?_);have bi := af.k0 b2;refine Xz q7 Z (fun bj => ?_) (fun bj => ?_)
  ·have H := Xp H bj;refine Xc (Xd (Xg (vb false) Z (Xb (Xn ?_))));have dd := bi.drop 0 Z;exact ⟨[vb false], ⟨_, Z, Z⟩, false, Z, H, dd.gr.g0⟩
  have H := Xq H bj;refine Xx (Xd ?_);obtain ⟨de, H⟩ := H;refine Xa (Yd v2 1 Z Z de) (Xe (vi (v2 + 1)) Z (Xb ?_));have df := bi.drop 0 Z;obtain ⟨dg, dh⟩ := H;have di := af.stn b2;have dk := bi.std 0 Z;have dl := ((((az.st a2).st a3).st di).st dk);exact ⟨v2 + 1, dh, dg, (X0 Z), df, dl⟩
 have H := Xq H ba;refine Yh (xin_hit ?_);refine Xc (Xd (Xe (G A1 n2 c3) Z ?_));have ek := az.le;exact Xa (Yc u23_ A1 n2 c3 az.len Z) (Xa (X1 (d.length : Int) 16 (decide ((d.length : Int) ≤ 16)) Z Z Z) (Xg (vb (decide ((d.length : Int) ≤ 16))) Z (Xb (Xn ⟨[vb (decide ((d.length : Int) ≤ 16))], ⟨_, Z, Z⟩, decide ((d.length : Int) ≤ 16), Z, H, a4.gr.g0⟩))))
def shapeNamesL : List Str := [[], [100, 111, 116], [108, 105, 110, 101], [114, 105, 110, 103]]
structure Glob (w : World) (O : Ob) : Prop where
 shapeNames : ∃ A : Option Addr, Fb w O 0 [.slice A 4 4] ∧ Sl Kd.str w (Fr O) (.slice A 4 4) shapeNamesL
 pow10 : Fb w O 1 (Lib.pow10Tab.map (Value.int .u64))
theorem Glob.st {w w' : World} {O O' : Ob} (h : Glob w O) (s : St w O w' O') : Glob w' O' :=
 ⟨let ⟨A, a, b⟩ := h.shapeNames; ⟨A, a.st s, b.st s⟩, h.pow10.st s⟩
theorem Glob.tab {w : World} {O : Ob} (h : Glob w O) : Lib.TabIs Tryz.prog w "internal/strconv.uint64pow10" .u64 Lib.pow10Tab := by
 obtain ⟨⟨e, hb⟩, _⟩ := h.pow10
 unfold Lib.TabIs World.var?
 rw [show Tryz.prog.globalNamed "internal/strconv.uint64pow10" = some 1 by kernel_rfl]
 simp only [Option.bind_some, hb]
theorem decDigits_len (u : Nat) : ∀ k, u < 10 ^ (k + 1) → (Lib.decDigits u).length ≤ k + 1 := by
 intro k
 induction k generalizing u with
 | zero => intro h; rw [Lib.decDigits, dif_pos OM]; simp
 | succ k ih =>
  intro h
  rw [Lib.decDigits]
  split
  ·simp
  ·rw [List.length_append]
   have := ih (u / 10) (by rw [Nat.pow_succ] at h; omega)
   simp only [List.length_cons, List.length_nil]
   omega
theorem itoa_len (n : Int) (h0 : -9223372036854775808 ≤ n) (h1 : n ≤ 9223372036854775807) : (Lib.itoa n).length ≤ 21 := by
 unfold Lib.itoa
 split
 ·have := decDigits_len n.natAbs 19 OM
  simp only [List.length_cons]; omega
 ·have := decDigits_len n.toNat 19 OM
  omega
section
open Go.Shelf Go.Sort Go.Lib
def F73.E (n : Int) (Q : Str → Prop) : Prop := (-9223372036854775808 ≤ n ∧ n ≤ 9223372036854775807) ∧ Q (Lib.itoa n)
theorem F73.calls {O : Ob} (w0 : World) (hO : Ok w0 O) (hG : Glob w0 O) (n : Int) (Q : Str → Prop) (h : F73.E n Q) :
  Ret Tryz.prog 126 [vi n] w0 (fun v w' => ∃ (r0 : Str), v = vs r0 ∧ Q r0 ∧ Gr w0 w' none ∧ Lim r0) := by
 obtain ⟨⟨h0, h1⟩, hq⟩ := h
 refine Calls.mono (Tryz.strconv_Itoa n h0 h1 w0 hG.tab) fun e w' ⟨he, k, os, hw⟩ => ?_
 subst he; subst hw
 refine ⟨_, rfl, Lib.itoa n, rfl, hq, ⟨rfl, by simp [grow], rfl, by simp [grow], fun b hb _ => by show (w0.heap ++ os)[b]? = w0.heap[b]?; exact Array.getElem?_append_left hb⟩, ?_⟩
 have := itoa_len n h0 h1
 unfold Lim; omega
end
def F25.E (s : Shape) (Q : Str → Prop) : Prop :=
 ((0 : Int) ≤ s.Kind ∧ s.Kind < (shapeNamesL.length : Int)) ∧ (∃ (I39 : Str → Int → Prop) (mu40 : Str → Int → Nat), I39 (nth shapeNamesL s.Kind) 0 ∧ ∀ (out2 : Str) (v2 : Int), I39 out2 v2 → (if decide (v2 < (s.Pts.length : Int)) then ((0 : Int) ≤ v2 ∧ v2 < (s.Pts.length : Int)) ∧ (∃ q : Str, F73.E ((nth s.Pts v2).X) (fun x => x = q) ∧ (Lim q) ∧ (([32] : Str).length + q.length ≤ 9223372036854775807) ∧ ((([32] : Str) ++ q).length + ([44] : Str).length ≤ 9223372036854775807) ∧ (∃ q2 : Str, F73.E ((nth s.Pts v2).Y) (fun x => x = q2) ∧ (Lim q2) ∧ (((([32] : Str) ++ q) ++ ([44] : Str)).length + q2.length ≤ 9223372036854775807) ∧ (out2.length + (((([32] : Str) ++ q) ++ ([44] : Str)) ++ q2).length ≤ 9223372036854775807) ∧ (I64 (v2 + 1)) ∧ I39 (out2 ++ (((([32] : Str) ++ q) ++ ([44] : Str)) ++ q2)) (v2 + 1) ∧ mu40 (out2 ++ (((([32] : Str) ++ q) ++ ([44] : Str)) ++ q2)) (v2 + 1) < mu40 out2 v2)) else Q out2))
theorem F25.calls {s : Shape} {A1 : Option Addr} {n2 c3 : Nat} {Q : Str → Prop} (H : F25.E s Q) (hO : Ok w0 O) (hG : Glob w0 O) (hp4 : Sl kPt w0 (Fr O) (G A1 n2 c3) s.Pts) :
  Ret Tryz.prog 80 [.agg #[vi s.Kind, G A1 n2 c3]] w0 (fun v w' => ∃ (r0 : Str), v = vs r0 ∧ Q r0 ∧ Gr w0 w' none ∧ Lim r0) := by
 unfold F25.E at H;have hc0 := Ct.init hO;obtain ⟨aG0, hGb0, hGs0⟩ := hG.shapeNames;refine X9 Tryz.func80 Z 31 Z [.tmp 2] Z Z ?_;refine Xc (Xd (Yo [vi s.Kind, G A1 n2 c3] Z fun w6 b7 hl9 hu10 g8 ax => ?_));have ai := Fb.mk hc0.ok hl9 ax;have ab := hc0.k0 g8;refine Xg (vs []) Z (Xb (Xc (Xd ?_)));have ay := (hGb0.st ab.st);refine Xa (Xo ag50 cL (Ad 0 0) (G aG0 4 4) Z (ay.cell Z)) (Xa (Xj fa41_0 (Ad b7 0) (Ad b7 0) Z Z) (Xa (Xo ag3 cL (Ad b7 0) (vi s.Kind) Z (ai.cell Z)) ?_));obtain ⟨aj, H⟩ := H;obtain ⟨ak, br, az, bs, a0, a1⟩ := (hGs0.st ab.st).get default RD s.Kind aj;obtain ⟨rfl, a2⟩ := Kd.str.op a0;refine Xa (X3 u50_ Zg aG0 ak 4 4 (hGs0.st ab.st).len s.Kind Z az Z aj) (Xa (Xo ag9 cL (ak.add (s.Kind.toNat * 1)) (vs (nth shapeNamesL s.Kind)) Z (a1 0 _ Z)) (Xg (vs (nth shapeNamesL s.Kind)) Z (Xb (Xc (Xc (Xd (Xa (Xj fa41_1 (Ad b7 0) (Ad b7 1) Z Z) (Xa (Xo ag39 cL (Ad b7 1) (G A1 n2 c3) Z (ai.cell Z)) ?_))))))));have bt := (hp4.st ab.st).le;refine Xa (Yc u39_ A1 n2 c3 (hp4.st ab.st).len Z) (Xe (vi 0) Z (Xb (X8 ?_)));obtain ⟨a3, a4, ad, H⟩ := H;refine Yj (α := Str × Int) (fun (out2, v2) t ae => a3 out2 v2 ∧ Has t [(3, vs out2), (12, G A1 n2 c3), (13, vi (s.Pts.length : Int)), (14, vi v2)] ∧ Ct [] w0 ae [] O ∧ Lim out2 ∧ Sl kPt ae (Fr ([] ++ O)) (G A1 n2 c3) s.Pts) (fun (out2, v2) => a4 out2 v2) ((nth shapeNamesL s.Kind), 0) ⟨ad, (X0 Z), ab, a2, (hp4.st ab.st)⟩ ?_;rintro ⟨out2, v2⟩ _ ae ⟨ad, a5, af, a6, ag⟩;obtain ⟨bu, rfl⟩ := Has.ins a5;have H := H out2 v2 ad;refine Xc (Xd (Xa (X1 v2 (s.Pts.length : Int) (decide (v2 < (s.Pts.length : Int))) Z Z Z) (Xb (Xc ?_))));refine Xz (decide (v2 < (s.Pts.length : Int))) Z (fun ah => ?_) (fun ah => ?_)
 ·have H := Xp H ah;refine Xx (Xc (X8 (Xc (Xd ?_))));obtain ⟨al, H⟩ := H;obtain ⟨am, bv, a7, bw, a8, a9⟩ := ag.get default RD v2 al;obtain rfl := kPt.op a8;refine Xa (X3 u39_ Yx A1 am n2 c3 ag.len v2 Z a7 Z al) (Xa (Xv ag49 sz49 cL (am.add (v2.toNat * 2)) [vi ((nth s.Pts v2).X), vi ((nth s.Pts v2).Y)] Z Z a9) (Yp [.int .i64 0, .int .i64 0] ze49 fun bx aa an hu57 ao ba => ?_));have ap := af.own ao (some aa) (Yn an hu57);refine Ye [vi ((nth s.Pts v2).X), vi ((nth s.Pts v2).Y)] ba Z Z sz49 Z Z fun bb aq ar => ?_;have ac := ap.wr 0 Z aq;refine Xb (Ys (fun x => Gr bb x none) RK RK (Gr.drew _) ?_);refine Xs (vs out2) Z (Xf (Xj fa49_0 (Ad aa 0) (Ad aa 0) Z Z) (Xf (Xo ag3 cQ (Ad aa 0) (vi ((nth s.Pts v2).X)) Z (ar.cell Z)) ?_));obtain ⟨q, bc, bz, H⟩ := H;refine Yq go126 [vi ((nth s.Pts v2).X)] Z (vs q) (fun w g => (F73.calls w (ac.k0 g).ok (hG.st (ac.k0 g).st) ((nth s.Pts v2).X) _ bc).mono ?_) ?_
  ·rintro _ w ⟨r, rfl, rfl, g2, _⟩;exact ⟨Z, Gr.t0 g g2⟩
  obtain ⟨bd, H⟩ := H;refine Xf (Yk ([32] : Str) q Z Z bd) ?_;obtain ⟨be, H⟩ := H;refine Xf (Yk (([32] : Str) ++ q) ([44] : Str) Z Z be) (Xf (Xj fa49_1 (Ad aa 0) (Ad aa 1) Z Z) (Xf (Xo ag3 cQ (Ad aa 1) (vi ((nth s.Pts v2).Y)) Z (ar.cell Z)) ?_));obtain ⟨q2, bf, b0, H⟩ := H;refine Yq go126 [vi ((nth s.Pts v2).Y)] Z (vs q2) (fun w g => (F73.calls w (ac.k0 g).ok (hG.st (ac.k0 g).st) ((nth s.Pts v2).Y) _ bf).mono ?_) ?_
  ·rintro _ w ⟨r, rfl, rfl, g2, _⟩;exact ⟨Z, Gr.t0 g g2⟩
  obtain ⟨bg, H⟩ := H;refine Xf (Yk ((([32] : Str) ++ q) ++ ([44] : Str)) q2 Z Z bg) ?_;obtain ⟨au, H⟩ := H;refine Xf (Yk out2 (((([32] : Str) ++ q) ++ ([44] : Str)) ++ q2) Z Z au) (Yy (vs (out2 ++ (((([32] : Str) ++ q) ++ ([44] : Str)) ++ q2))) Z (Ya fun b1 av => ?_));have aw := ac.k0 av;refine Xd ?_;obtain ⟨bh, H⟩ := H;refine Xa (Yd v2 1 Z Z bh) (Xe (vi (v2 + 1)) Z (Xb ?_));have bi := aw.drop 0 Z;obtain ⟨bj, bl⟩ := H;have bm := af.stown _ ao (X4 an);have bn := ap.stw 0 Z aq;have bo := ac.stn av;have bp := aw.std 0 Z;have bq := ((((ag.st bm).st bn).st bo).st bp);exact ⟨((out2 ++ (((([32] : Str) ++ q) ++ ([44] : Str)) ++ q2)), v2 + 1), bl, bj, (X0 Z), bi, (lim_cat au), bq⟩
 have H := Xq H ah;refine Yh (xin_hit ?_);exact Xc (Xd (Xe (vs out2) Z (Xg (vs out2) Z (Xb (Xn ⟨[vs out2], ⟨_, Z, Z⟩, out2, Z, H, af.gr.g0, a6⟩)))))
def F48.E (f : Feat) (Q : Str → Prop) : Prop :=
 F98.E f (fun r => (if !r then Q [] else (f.Id.length + ([32] : Str).length ≤ 9223372036854775807) ∧ (∃ q : Str, F25.E f.Shape (fun x => x = q) ∧ (Lim q) ∧ ((f.Id ++ ([32] : Str)).length + q.length ≤ 9223372036854775807) ∧ (∃ (I61 : Str → Int → Prop) (mu62 : Str → Int → Nat), I61 ((f.Id ++ ([32] : Str)) ++ q) 0 ∧ ∀ (out2 : Str) (v2 : Int), I61 out2 v2 → (if decide (v2 < (f.Tags.length : Int)) then ((0 : Int) ≤ v2 ∧ v2 < (f.Tags.length : Int)) ∧ (([32] : Str).length + ((nth f.Tags v2).Key).length ≤ 9223372036854775807) ∧ ((([32] : Str) ++ ((nth f.Tags v2).Key)).length + ([61] : Str).length ≤ 9223372036854775807) ∧ (((([32] : Str) ++ ((nth f.Tags v2).Key)) ++ ([61] : Str)).length + ((nth f.Tags v2).Val).length ≤ 9223372036854775807) ∧ (out2.length + (((([32] : Str) ++ ((nth f.Tags v2).Key)) ++ ([61] : Str)) ++ ((nth f.Tags v2).Val)).length ≤ 9223372036854775807) ∧ (I64 (v2 + 1)) ∧ I61 (out2 ++ (((([32] : Str) ++ ((nth f.Tags v2).Key)) ++ ([61] : Str)) ++ ((nth f.Tags v2).Val))) (v2 + 1) ∧ mu62 (out2 ++ (((([32] : Str) ++ ((nth f.Tags v2).Key)) ++ ([61] : Str)) ++ ((nth f.Tags v2).Val))) (v2 + 1) < mu62 out2 v2 else Q out2)))))
theorem F48.calls {f : Feat} {A2 : Option Addr} {n3 c4 : Nat} {A7 : Option Addr} {n8 c9 : Nat} {Q : Str → Prop} (H : F48.E f Q) (hO : Ok w0 O) (hG : Glob w0 O) (hs1 : Lim f.Id) (hp5 : Sl kPt w0 (Fr O) (G A2 n3 c4) f.Shape.Pts) (ae : Sl kTag w0 (Fr O) (G A7 n8 c9) f.Tags) :
  Ret Tryz.prog 43 [.agg #[vs f.Id, vi f.Shape.Kind, G A2 n3 c4, G A7 n8 c9]] w0 (fun v w' => ∃ (r0 : Str), v = vs r0 ∧ Q r0 ∧ Gr w0 w' none ∧ Lim r0) := by
 unfold F48.E at H;have hc0 := Ct.init hO;refine X9 Tryz.func43 Z 34 Z [.tmp 2] Z Z ?_;refine Xc (Xd (Yo [vs f.Id, vi f.Shape.Kind, G A2 n3 c4, G A7 n8 c9] Z fun a2 aa a3 hu16 a4 a5 => ?_));have an := Fb.mk hc0.ok a3 a5;have ad := hc0.k0 a4;refine Xg (vs []) Z (Xb (Xc (Xc (Xd (Xa (Xv ag44 sz44 cL (Ad aa 0) [vs f.Id, vi f.Shape.Kind, G A2 n3 c4, G A7 n8 c9] Z Z (an.cells (off := 00) Z)) ?_)))));refine Xu go25 (F98.calls H ad.ok hs1 (hp5.st ad.st) (ae.st ad.st)) Z ?_;rintro _ a6 ⟨r, rfl, H, ao⟩;have ac := ad.k0 ao;refine Xa (X7 r Z) (Xb ?_);refine Xz (!r) Z (fun ag => ?_) (fun ag => ?_)
 ·have H := Xp H ag;exact Xc (Xd (Xg (vs []) Z (Xb (Xn ⟨[vs []], ⟨_, Z, Z⟩, ([] : Str), Z, H, ac.gr.g0, (by decide : Lim ([] : Str))⟩))))
 have H := Xq H ag;refine Xx (Xc (Ys (fun x => Gr a6 x none) RK RK (Gr.drew _) ?_));refine Xf (Xj fa44_0 (Ad aa 0) (Ad aa 0) Z Z) ?_;have a7 := ad.stn ao;have ah := (an.st a7);refine Xf (Xo ag9 cQ (Ad aa 0) (vs f.Id) Z (ah.cell Z)) ?_;obtain ⟨a8, H⟩ := H;refine Xf (Yk f.Id ([32] : Str) Z Z a8) (Xf (Xj fa44_1 (Ad aa 0) (Ad aa 1) Z Z) (Xf (Xv ag41 sz41 cQ (Ad aa 1) [vi f.Shape.Kind, G A2 n3 c4] Z Z (ah.cells (off := 1) Z)) ?_));obtain ⟨q, a9, bw, H⟩ := H;refine Yq go80 [.agg #[vi f.Shape.Kind, G A2 n3 c4]] Z (vs q) (fun w g => (F25.calls a9 (ac.k0 g).ok (hG.st (ac.k0 g).st) ((hp5.st ac.st).st (.new _ g))).mono ?_) ?_
 ·rintro _ w ⟨r, rfl, rfl, g2, _⟩;exact ⟨Z, Gr.t0 g g2⟩
 obtain ⟨ap, H⟩ := H;refine Xf (Yk (f.Id ++ ([32] : Str)) q Z Z ap) (Yy (vs ((f.Id ++ ([32] : Str)) ++ q)) Z (Ya fun bx aq => ?_));have af := ac.k0 aq;refine Xc (Xc (Xd (Xa (Xj fa44_2 (Ad aa 0) (Ad aa 3) Z Z) ?_)));have ba := ac.stn aq;have bb := (ah.st ba);refine Xa (Xo ag42 cL (Ad aa 3) (G A7 n8 c9) Z (bb.cell Z)) ?_;have bz := (ae.st af.st).le;refine Xa (Yc u42_ A7 n8 c9 (ae.st af.st).len Z) (Xe (vi 0) Z (Xb (X8 ?_)));obtain ⟨bc, bd, ai, H⟩ := H;refine Yj (α := Str × Int) (fun (out2, v2) t aj => bc out2 v2 ∧ Has t [(3, vs out2), (17, G A7 n8 c9), (18, vi (f.Tags.length : Int)), (19, vi v2)] ∧ Ct [] w0 aj [] O ∧ Lim out2 ∧ Sl kTag aj (Fr ([] ++ O)) (G A7 n8 c9) f.Tags) (fun (out2, v2) => bd out2 v2) (((f.Id ++ ([32] : Str)) ++ q), 0) ⟨ai, (X0 Z), af, (lim_cat ap), (ae.st af.st)⟩ ?_;rintro ⟨out2, v2⟩ _ aj ⟨ai, be, ak, bf, al⟩;obtain ⟨b0, rfl⟩ := Has.ins be;have H := H out2 v2 ai;refine Xc (Xd (Xa (X1 v2 (f.Tags.length : Int) (decide (v2 < (f.Tags.length : Int))) Z Z Z) (Xb (Xc ?_))));refine Xz (decide (v2 < (f.Tags.length : Int))) Z (fun am => ?_) (fun am => ?_)
 ·have H := Xp H am;refine Xx (Xc (X8 (Xc (Xd ?_))));obtain ⟨ar, H⟩ := H;obtain ⟨au, b1, bg, b2, bh, bi⟩ := al.get default RD v2 ar;obtain ⟨rfl, b3, b4⟩ := kTag.op bh;refine Xa (X3 u42_ Y5 A7 au n8 c9 al.len v2 Z bg Z ar) (Xa (Xv ag93 sz93 cL (au.add (v2.toNat * 2)) [vs ((nth f.Tags v2).Key), vs ((nth f.Tags v2).Val)] Z Z bi) (Yp [vs [], vs []] ze93 fun b5 ab av hu81 aw bj => ?_));have ax := ak.own aw (some ab) (Yn av hu81);refine Ye [vs ((nth f.Tags v2).Key), vs ((nth f.Tags v2).Val)] bj Z Z sz93 Z Z fun b6 ay az => ?_;have a0 := ax.wr 0 Z ay;refine Xb (Xd (Xe (vs out2) Z (Xa (Xj fa93_0 (Ad ab 0) (Ad ab 0) Z Z) (Xa (Xo ag9 cL (Ad ab 0) (vs ((nth f.Tags v2).Key)) Z (az.cell Z)) ?_))));obtain ⟨bl, H⟩ := H;refine Xa (Yk ([32] : Str) ((nth f.Tags v2).Key) Z Z bl) ?_;obtain ⟨bm, H⟩ := H;refine Xa (Yk (([32] : Str) ++ ((nth f.Tags v2).Key)) ([61] : Str) Z Z bm) (Xa (Xj fa93_1 (Ad ab 0) (Ad ab 1) Z Z) (Xa (Xo ag9 cL (Ad ab 1) (vs ((nth f.Tags v2).Val)) Z (az.cell Z)) ?_));obtain ⟨bn, H⟩ := H;refine Xa (Yk ((([32] : Str) ++ ((nth f.Tags v2).Key)) ++ ([61] : Str)) ((nth f.Tags v2).Val) Z Z bn) ?_;obtain ⟨a1, H⟩ := H;refine Xa (Yk out2 (((([32] : Str) ++ ((nth f.Tags v2).Key)) ++ ([61] : Str)) ++ ((nth f.Tags v2).Val)) Z Z a1) (Xg (vs (out2 ++ (((([32] : Str) ++ ((nth f.Tags v2).Key)) ++ ([61] : Str)) ++ ((nth f.Tags v2).Val)))) Z (Xb (Xd ?_)));obtain ⟨bo, H⟩ := H;refine Xa (Yd v2 1 Z Z bo) (Xe (vi (v2 + 1)) Z (Xb ?_));have bp := a0.drop 0 Z;obtain ⟨bq, br⟩ := H;have bs := ak.stown _ aw (X4 av);have bt := ax.stw 0 Z ay;have bu := a0.std 0 Z;have bv := (((al.st bs).st bt).st bu);exact ⟨((out2 ++ (((([32] : Str) ++ ((nth f.Tags v2).Key)) ++ ([61] : Str)) ++ ((nth f.Tags v2).Val))), v2 + 1), br, bq, (X0 Z), bp, (lim_cat a1), bv⟩
 have H := Xq H am;refine Yh (xin_hit ?_);exact Xc (Xd (Xe (vs out2) Z (Xg (vs out2) Z (Xb (Xn ⟨[vs out2], ⟨_, Z, Z⟩, out2, Z, H, ak.gr.g0, bf⟩)))))
def F26.E (has : Bool) (f : Feat) (Q : Str → Prop) : Prop :=
 (if !has then Q ([45] : Str) else F48.E f (fun r => Q r))
theorem F26.calls {has : Bool} {f : Feat} {A2 : Option Addr} {n3 c4 : Nat} {A7 : Option Addr} {n8 c9 : Nat} {Q : Str → Prop} (H : F26.E has f Q) (hO : Ok w0 O) (hG : Glob w0 O) (hs1 : Lim f.Id) (hp5 : Sl kPt w0 (Fr O) (G A2 n3 c4) f.Shape.Pts) (ac : Sl kTag w0 (Fr O) (G A7 n8 c9) f.Tags) :
  Ret Tryz.prog 42 [vb has, .agg #[vs f.Id, vi f.Shape.Kind, G A2 n3 c4, G A7 n8 c9]] w0 (fun v w' => ∃ (r0 : Str), v = vs r0 ∧ Q r0 ∧ Gr w0 w' none ∧ Lim r0) := by
 unfold F26.E at H;have hc0 := Ct.init hO;refine X9 Tryz.func42 Z 9 Z [.tmp 4] Z Z ?_;refine Xc (Xd (Yo [vs f.Id, vi f.Shape.Kind, G A2 n3 c4, G A7 n8 c9] Z fun ad ae af hu16 ag ah => ?_));have ai := Fb.mk hc0.ok af ah;have aa := hc0.k0 ag;refine Xg (vs []) Z (Xb (Xc (Xc (Xd (Xe (vb has) Z (Xa (X7 has Z) (Xb ?_)))))));refine Xz (!has) Z (fun ab => ?_) (fun ab => ?_)
 ·have H := Xp H ab;exact Xc (Xd (Xg (vs ([45] : Str)) Z (Xb (Xn ⟨[vs ([45] : Str)], ⟨_, Z, Z⟩, ([45] : Str), Z, H, aa.gr.g0, (by decide : Lim ([45] : Str))⟩))))
 have H := Xq H ab;refine Xx (Xc (Xd (Xa (Xv ag44 sz44 cL (Ad ae 0) [vs f.Id, vi f.Shape.Kind, G A2 n3 c4, G A7 n8 c9] Z Z (ai.cells (off := 00) Z)) ?_)));refine Xu go43 (F48.calls H aa.ok (hG.st aa.st) hs1 (hp5.st aa.st) (ac.st aa.st)) Z ?_;rintro _ am ⟨r, rfl, H, aj, ak⟩;have al := aa.k0 aj;exact Xg (vs r) Z (Xb (Xn ⟨[vs r], ⟨_, Z, Z⟩, r, Z, H, al.gr.g0, ak⟩))
def F49.E (d : List Change) (Q : Str → Prop) : Prop :=
 F100.E d (fun r => (if !r then Q [] else (∃ (I28 : Str → Int → Prop) (mu29 : Str → Int → Nat), I28 [] 0 ∧ ∀ (out2 : Str) (v2 : Int), I28 out2 v2 → (if decide (v2 < (d.length : Int)) then ((0 : Int) ≤ v2 ∧ v2 < (d.length : Int)) ∧ (((nth d v2).Id).length + ([58, 32] : Str).length ≤ 9223372036854775807) ∧ F26.E ((nth d v2).Had) ((nth d v2).Was) (fun r2 => ((((nth d v2).Id) ++ ([58, 32] : Str)).length + r2.length ≤ 9223372036854775807) ∧ (((((nth d v2).Id) ++ ([58, 32] : Str)) ++ r2).length + ([32, 62, 32] : Str).length ≤ 9223372036854775807) ∧ F26.E ((nth d v2).Has) ((nth d v2).Now) (fun r3 => ((((((nth d v2).Id) ++ ([58, 32] : Str)) ++ r2) ++ ([32, 62, 32] : Str)).length + r3.length ≤ 9223372036854775807) ∧ (((((((nth d v2).Id) ++ ([58, 32] : Str)) ++ r2) ++ ([32, 62, 32] : Str)) ++ r3).length + ([10] : Str).length ≤ 9223372036854775807) ∧ (out2.length + (((((((nth d v2).Id) ++ ([58, 32] : Str)) ++ r2) ++ ([32, 62, 32] : Str)) ++ r3) ++ ([10] : Str)).length ≤ 9223372036854775807) ∧ (I64 (v2 + 1)) ∧ I28 (out2 ++ (((((((nth d v2).Id) ++ ([58, 32] : Str)) ++ r2) ++ ([32, 62, 32] : Str)) ++ r3) ++ ([10] : Str))) (v2 + 1) ∧ mu29 (out2 ++ (((((((nth d v2).Id) ++ ([58, 32] : Str)) ++ r2) ++ ([32, 62, 32] : Str)) ++ r3) ++ ([10] : Str))) (v2 + 1) < mu29 out2 v2)) else Q out2))))
theorem F49.calls {d : List Change} {A1 : Option Addr} {n2 c3 : Nat} {Q : Str → Prop} (H : F49.E d Q) (hO : Ok w0 O) (hG : Glob w0 O) (hp4 : Sl kChange w0 (Fr O) (G A1 n2 c3) d) :
  Ret Tryz.prog 12 [G A1 n2 c3] w0 (fun v w' => ∃ (r0 : Str), v = vs r0 ∧ Q r0 ∧ Gr w0 w' none ∧ Lim r0) := by
 unfold F49.E at H;have hc0 := Ct.init hO;refine X9 Tryz.func12 Z 39 Z [.tmp 2] Z Z ?_;refine Xc (Xd (Xg (vs []) Z (Xb (Xc (Xc (Xd (Xe (G A1 n2 c3) Z ?_)))))));refine Xu go17 (F100.calls H hc0.ok hp4) Z ?_;rintro _ w6 ⟨r, rfl, H, g7⟩;have ao := hc0.k0 g7;refine Xa (X7 r Z) (Xb ?_);refine Xz (!r) Z (fun az => ?_) (fun az => ?_)
 ·have H := Xp H az;exact Xc (Xd (Xg (vs []) Z (Xb (Xn ⟨[vs []], ⟨_, Z, Z⟩, ([] : Str), Z, H, ao.gr.g0, (by decide : Lim ([] : Str))⟩))))
 have H := Xq H az;refine Xx (Xc (Xd (Xg (.func (.func 42) #[] #[]) Z (Xb (Xc (Xd (Xg (vs []) Z (Xb ?_))))))));refine Xc (Xc (Xd (Xe (G A1 n2 c3) Z ?_)));have ch := (hp4.st ao.st).le;refine Xa (Yc u23_ A1 n2 c3 (hp4.st ao.st).len Z) (Xe (vi 0) Z (Xb (X8 ?_)));obtain ⟨bi, bj, a0, H⟩ := H;refine Yj (α := Str × Int) (fun (out2, v2) t a1 => bi out2 v2 ∧ Has t [(3, .func (.func 42) #[] #[]), (4, vs out2), (10, G A1 n2 c3), (11, vi (d.length : Int)), (12, vi v2)] ∧ Ct [] w0 a1 [] O ∧ Lim out2 ∧ Sl kChange a1 (Fr ([] ++ O)) (G A1 n2 c3) d) (fun (out2, v2) => bj out2 v2) (([] : Str), 0) ⟨a0, (X0 Z), ao, (by decide : Lim ([] : Str)), (hp4.st ao.st)⟩ ?_;rintro ⟨out2, v2⟩ _ a1 ⟨a0, bl, a2, bm, a3⟩;obtain ⟨ci, rfl⟩ := Has.ins bl;have H := H out2 v2 a0;refine Xc (Xd (Xa (X1 v2 (d.length : Int) (decide (v2 < (d.length : Int))) Z Z Z) (Xb (Xc ?_))));refine Xz (decide (v2 < (d.length : Int))) Z (fun a4 => ?_) (fun a4 => ?_)
 ·have H := Xp H a4;refine Xx (Xc (X8 (Xc (Xd ?_))));obtain ⟨a9, H⟩ := H;obtain ⟨ba, cj, bn, ck, bo, bp⟩ := a3.get default RD v2 a9;obtain ⟨ac, ad, ae, af, ag, ah, ai, aj, ak, al, am, an, rfl, cl, bq, br, bs, bt, bu, bv⟩ := kChange.op bo;refine Xa (X3 u23_ Y4 A1 ba n2 c3 a3.len v2 Z bn Z a9) (Xa (Xv ag62 sz62 cL (ba.add (v2.toNat * 11)) [vs ((nth d v2).Id), vb ((nth d v2).Had), vs ((nth d v2).Was.Id), vi ((nth d v2).Was.Shape.Kind), G ac ad ae, G af ag ah, vb ((nth d v2).Has), vs ((nth d v2).Now.Id), vi ((nth d v2).Now.Shape.Kind), G ai aj ak, G al am an] Z Z bp) (Yp [vs [], vb false, vs [], .int .i64 0, G none 0 0, G none 0 0, vb false, vs [], .int .i64 0, G none 0 0, G none 0 0] ze62 fun cm aa bb hu69 bc bw => ?_));have bd := a2.own bc (some aa) (Yn bb hu69);refine Ye [vs ((nth d v2).Id), vb ((nth d v2).Had), vs ((nth d v2).Was.Id), vi ((nth d v2).Was.Shape.Kind), G ac ad ae, G af ag ah, vb ((nth d v2).Has), vs ((nth d v2).Now.Id), vi ((nth d v2).Now.Shape.Kind), G ai aj ak, G al am an] bw Z Z sz62 Z Z fun cn be bx => ?_;have bf := bd.wr 0 Z be;refine Xb (Za 22 [] RK Z fun bz a5 ab => ?_);have aw := bf.k0 a5;refine Xy 0 Z RK ab (Y2 (vs out2) Z) ?_;refine Xy 1 Z RK ab (Xj fa62_0 (Ad aa 0) (Ad aa 0) Z Z) ?_;have ap := (bx.k0 a5);refine Xy 2 Z RK ab (Y6 ag9 cR (Ad aa 0) (vs ((nth d v2).Id)) Z (ap.cell Z) nm_nil) ?_;obtain ⟨b0, H⟩ := H;refine Xy 3 Z RK ab (Yk ((nth d v2).Id) ([58, 32] : Str) Z Z b0) ?_;refine Xy 4 Z RK ab (Y2 (.func (.func 42) #[] #[]) Z) ?_;refine Xy 5 Z RK ab (Xj fa62_1 (Ad aa 0) (Ad aa 1) Z Z) ?_;refine Xy 6 Z RK ab (Y6 ag4 cR (Ad aa 1) (vb ((nth d v2).Had)) Z (ap.cell Z) nm_nil) ?_;refine Xy 7 Z RK ab (Xj fa62_2 (Ad aa 0) (Ad aa 2) Z Z) ?_;refine Xy 8 Z RK ab (Zf ag44 sz44 cR (Ad aa 2) [vs ((nth d v2).Was.Id), vi ((nth d v2).Was.Shape.Kind), G ac ad ae, G af ag ah] Z Z (ap.cells (off := 2) Z) nm_nil) ?_;refine Xy 12 Z RK ab (Y2 (.func (.func 42) #[] #[]) Z) ?_;refine Xy 13 Z RK ab (Xj fa62_3 (Ad aa 0) (Ad aa 6) Z Z) ?_;refine Xy 14 Z RK ab (Y6 ag4 cR (Ad aa 6) (vb ((nth d v2).Has)) Z (ap.cell Z) nm_nil) ?_;refine Xy 15 Z RK ab (Xj fa62_4 (Ad aa 0) (Ad aa 7) Z Z) ?_;refine Xy 16 Z RK ab (Zf ag44 sz44 cR (Ad aa 7) [vs ((nth d v2).Now.Id), vi ((nth d v2).Now.Shape.Kind), G ai aj ak, G al am an] Z Z (ap.cells (off := 7) Z) nm_nil) ?_;refine X5 9 RK Z ?_;have aq := a2.stown _ bc (X4 bb);have ar := bd.stw 0 Z be;have au := bf.stn a5;have b1 := (((br.st aq).st ar).st au);have b2 := (((bs.st aq).st ar).st au);refine Zv go42 [] Z [vb ((nth d v2).Had), .agg #[vs ((nth d v2).Was.Id), vi ((nth d v2).Was.Shape.Kind), G ac ad ae, G af ag ah]] Z ((F26.calls H aw.ok (hG.st aw.st) bq b1 b2).mono ?_);rintro _ b3 ⟨r2, rfl, H, a6, co⟩;have ax := aw.k0 a6;have ay := Gm.tm ab a6;refine Xb ⟨ay, ?_⟩;obtain ⟨b4, H⟩ := H;refine Xy 10 Z RK ay (Yk (((nth d v2).Id) ++ ([58, 32] : Str)) r2 Z Z b4) ?_;obtain ⟨b5, H⟩ := H;refine Xy 11 Z RK ay (Yk ((((nth d v2).Id) ++ ([58, 32] : Str)) ++ r2) ([32, 62, 32] : Str) Z Z b5) ?_;refine X5 17 RK Z ?_;have a7 := aw.stn a6;have b6 := ((((bu.st aq).st ar).st au).st a7);have b7 := ((((bv.st aq).st ar).st au).st a7);refine Zv go42 [] Z [vb ((nth d v2).Has), .agg #[vs ((nth d v2).Now.Id), vi ((nth d v2).Now.Shape.Kind), G ai aj ak, G al am an]] Z ((F26.calls H ax.ok (hG.st ax.st) bt b6 b7).mono ?_);rintro _ cp ⟨r3, rfl, H, a8, cq⟩;have bg := ax.k0 a8;have av := Gm.tm ay a8;refine Xb ⟨av, ?_⟩;obtain ⟨b8, H⟩ := H;refine Xy 18 Z RK av (Yk (((((nth d v2).Id) ++ ([58, 32] : Str)) ++ r2) ++ ([32, 62, 32] : Str)) r3 Z Z b8) ?_;obtain ⟨b9, H⟩ := H;refine Xy 19 Z RK av (Yk ((((((nth d v2).Id) ++ ([58, 32] : Str)) ++ r2) ++ ([32, 62, 32] : Str)) ++ r3) ([10] : Str) Z Z b9) ?_;obtain ⟨bh, H⟩ := H;refine Xy 20 Z RK av (Yk out2 (((((((nth d v2).Id) ++ ([58, 32] : Str)) ++ r2) ++ ([32, 62, 32] : Str)) ++ r3) ++ ([10] : Str)) Z Z bh) ?_;refine Xy 21 Z RK av (Zh (vs (out2 ++ (((((((nth d v2).Id) ++ ([58, 32] : Str)) ++ r2) ++ ([32, 62, 32] : Str)) ++ r3) ++ ([10] : Str)))) Z) ?_;refine Yv RK ?_;refine Xd ?_;obtain ⟨ca, H⟩ := H;refine Xa (Yd v2 1 Z Z ca) (Xe (vi (v2 + 1)) Z (Xb ?_));have cb := bg.drop 0 Z;obtain ⟨cc, cd⟩ := H;have ce := ax.stn a8;have cf := bg.std 0 Z;have cg := ((((((a3.st aq).st ar).st au).st a7).st ce).st cf);exact ⟨((out2 ++ (((((((nth d v2).Id) ++ ([58, 32] : Str)) ++ r2) ++ ([32, 62, 32] : Str)) ++ r3) ++ ([10] : Str))), v2 + 1), cd, cc, (X0 Z), cb, (lim_cat bh), cg⟩
 have H := Xq H a4;refine Yh (xin_hit ?_);exact Xc (Xd (Xe (vs out2) Z (Xg (vs out2) Z (Xb (Xn ⟨[vs out2], ⟨_, Z, Z⟩, out2, Z, H, a2.gr.g0, bm⟩)))))
def F85.E (s : Str) (Q : Bool → Prop) : Prop :=
 (∃ (I8 : Int → Prop) (mu9 : Int → Nat), I8 0 ∧ ∀ (i2 : Int), I8 i2 → (if decide (i2 < (s.length : Int)) then ((0 : Int) ≤ i2 ∧ i2 < (s.length : Int)) ∧ (if decide (((nth s i2).toNat : Int) < 97) then Q false else ((0 : Int) ≤ i2 ∧ i2 < (s.length : Int)) ∧ (if decide (((nth s i2).toNat : Int) > 122) then Q false else (-9223372036854775808 ≤ i2) ∧ I8 (i2 + 1) ∧ mu9 (i2 + 1) < mu9 i2)) else (if decide ((s.length : Int) ≥ 1) then Q (decide ((s.length : Int) ≤ 6)) else Q false)))
theorem F85.calls {s : Str} {Q : Bool → Prop} (H : F85.E s Q) (hO : Ok w0 O) (hs1 : Lim s) :
  Ret Tryz.prog 65 [vs s] w0 (fun v w' => ∃ (r0 : Bool), v = vb r0 ∧ Q r0 ∧ Gr w0 w' none) := by
 unfold F85.E at H;have hc0 := Ct.init hO;refine X9 Tryz.func65 Z 28 Z [.tmp 2] Z Z ?_;refine Xc (Xd (Xg (vb false) Z (Xb (Xc (Xc (Xd (Xg (vi 0) Z (Xb ?_))))))));refine X8 ?_;obtain ⟨I8, mu9, ad, H⟩ := H;refine Yj (α := Int) (fun (sv__ : Int) t w6 => match sv__ with | i2 => I8 i2 ∧ Has t [(0, vs s), (3, vi i2)] ∧ Ct [] w0 w6 [] O) (fun (sv__ : Int) => match sv__ with | i2 => mu9 i2) 0 ⟨ad, (X0 Z), hc0⟩ ?_;rintro i2 _ w6 ⟨ad, af, hc7⟩;obtain ⟨an, rfl⟩ := Has.ins af;have H := H i2 ad;refine Xc (Xc (Xd (Xe (vi i2) Z (Xe (vs s) Z ?_))));have ag := hs1;refine Xa (Zl u9_ s Z) (Xa (X1 i2 (s.length : Int) (decide (i2 < (s.length : Int))) Z Z Z) (Xb ?_));refine Xz (decide (i2 < (s.length : Int))) Z (fun ac => ?_) (fun ac => ?_)
 ·have H := Xp H ac;refine Xx (Xc (X8 (Xc (Xd (Xe (vs s) Z (Xe (vi i2) Z ?_))))));obtain ⟨ah, H⟩ := H;refine Xa (Zq u9_ s i2 Z Z ah) (Xa (X1 ((nth s i2).toNat : Int) 97 (decide (((nth s i2).toNat : Int) < 97)) Z Z Z) (Xe (vb (decide (((nth s i2).toNat : Int) < 97))) Z ?_));rcases X2 (decide (((nth s i2).toNat : Int) < 97)) with aa | aa
  ·have H := Xp H aa;refine Xi aa Z (Xi aa Z (Xi aa Z (Xi aa Z (Xa (Xk true (vb true) aa Z) (Xb (Yr (b := true) Z Z ?_))))));exact Xc (Xd (Xg (vb false) Z (Xb (Xn ⟨[vb false], ⟨_, Z, Z⟩, false, Z, H, hc7.gr.g0⟩))))
  have H := Xq H aa;refine Xh aa Z (Xe (vs s) Z (Xh aa Z (Xe (vi i2) Z (Xh aa Z ?_))));obtain ⟨ai, H⟩ := H;refine Xa (Zq u9_ s i2 Z Z ai) (Xh aa Z (Xa (X1 ((nth s i2).toNat : Int) 122 (decide (((nth s i2).toNat : Int) > 122)) Z Z Z) (Xa (Ym false (vb (decide (((nth s i2).toNat : Int) > 122))) (by exact congrArg Value.bool aa) Z) (Xb ?_))));refine Xz (decide (((nth s i2).toNat : Int) > 122)) Z (fun ae => ?_) (fun ae => ?_)
  ·have H := Xp H ae;exact Xc (Xd (Xg (vb false) Z (Xb (Xn ⟨[vb false], ⟨_, Z, Z⟩, false, Z, H, hc7.gr.g0⟩))))
  have H := Xq H ae;refine Xx (Xd (Xe (vi i2) Z ?_));obtain ⟨aj, H⟩ := H;have ak : I64 (i2 + 1) := i64_succ (of_decide_eq_true ac) ag aj;refine Xa (Yd i2 1 Z Z ak) (Xg (vi (i2 + 1)) Z (Xb ?_));obtain ⟨al, am⟩ := H;exact ⟨i2 + 1, am, al, (X0 Z), hc7⟩
 have H := Xq H ac;refine Yh (xin_hit ?_);refine Xc (Xd (Xe (vs s) Z (Xa (Zl u9_ s Z) (Xa (X1 (s.length : Int) 1 (decide ((s.length : Int) ≥ 1)) Z Z Z) (Xe (vb (decide ((s.length : Int) ≥ 1))) Z ?_)))));rcases X2 (decide ((s.length : Int) ≥ 1)) with ab | ab
 ·have H := Xp H ab;refine Xh ab Z (Xe (vs s) Z (Xh ab Z (Xa (Zl u9_ s Z) (Xh ab Z (Xa (X1 (s.length : Int) 6 (decide ((s.length : Int) ≤ 6)) Z Z Z) (Xa (Ym true (vb (decide ((s.length : Int) ≤ 6))) (by exact congrArg Value.bool ab) Z) (Xg (vb (decide ((s.length : Int) ≤ 6))) Z (Xb ?_))))))));exact Xn ⟨[vb (decide ((s.length : Int) ≤ 6))], ⟨_, Z, Z⟩, decide ((s.length : Int) ≤ 6), Z, H, hc7.gr.g0⟩
 have H := Xq H ab;exact Xi ab Z (Xi ab Z (Xi ab Z (Xa (Xk false (vb false) ab Z) (Xg (vb false) Z (Xb (Xn ⟨[vb false], ⟨_, Z, Z⟩, false, Z, H, hc7.gr.g0⟩))))))
def F86.E (t_ : List Tag) (Q : Bool → Prop) : Prop :=
 (∃ (I18 : Int → Prop) (mu19 : Int → Nat), I18 0 ∧ ∀ (i2 : Int), I18 i2 → (if decide (i2 < (t_.length : Int)) then ((0 : Int) ≤ i2 ∧ i2 < (t_.length : Int)) ∧ (∃ q : Bool, F85.E ((nth t_ i2).Key) (fun x => x = q) ∧ (if !q then Q false else ((0 : Int) ≤ i2 ∧ i2 < (t_.length : Int)) ∧ (∃ q2 : Bool, F85.E ((nth t_ i2).Val) (fun x => x = q2) ∧ (if !q2 then Q false else (if decide (i2 > 0) then ((0 : Int) ≤ i2 ∧ i2 < (t_.length : Int)) ∧ ((t_.length : Int) ≤ 9223372036854775807 → I64 (i2 - 1)) ∧ ((0 : Int) ≤ i2 - 1 ∧ i2 - 1 < (t_.length : Int)) ∧ (if Op.bytesLess ((nth t_ i2).Key) ((nth t_ (i2 - 1)).Key) || ((nth t_ i2).Key) == ((nth t_ (i2 - 1)).Key) then Q false else (-9223372036854775808 ≤ i2) ∧ I18 (i2 + 1) ∧ mu19 (i2 + 1) < mu19 i2) else (-9223372036854775808 ≤ i2) ∧ I18 (i2 + 1) ∧ mu19 (i2 + 1) < mu19 i2))))) else Q (decide ((t_.length : Int) ≤ 4))))
theorem F86.calls {t_ : List Tag} {A1 : Option Addr} {n2 c3 : Nat} {Q : Bool → Prop} (H : F86.E t_ Q) (hO : Ok w0 O) (hp4 : Sl kTag w0 (Fr O) (G A1 n2 c3) t_) :
  Ret Tryz.prog 67 [G A1 n2 c3] w0 (fun v w' => ∃ (r0 : Bool), v = vb r0 ∧ Q r0 ∧ Gr w0 w' none) := by
 unfold F86.E at H;have hc0 := Ct.init hO;refine X9 Tryz.func67 Z 47 Z [.tmp 2] Z Z ?_;refine Xc (Xd (Xg (vb false) Z (Xb (Xc (Xc (Xd (Xg (vi 0) Z (Xb ?_))))))));refine X8 ?_;obtain ⟨ax, ay, al, H⟩ := H;refine Yj (α := Int) (fun (sv__ : Int) t ag => match sv__ with | i2 => ax i2 ∧ Has t [(0, G A1 n2 c3), (3, vi i2)] ∧ Ct [] w0 ag [] O ∧ Sl kTag ag (Fr ([] ++ O)) (G A1 n2 c3) t_) (fun (sv__ : Int) => match sv__ with | i2 => ay i2) 0 ⟨al, (X0 Z), hc0, hp4⟩ ?_;rintro i2 _ ag ⟨al, az, ae, ad⟩;obtain ⟨bz, rfl⟩ := Has.ins az;have H := H i2 al;refine Xc (Xc (Xd (Xe (vi i2) Z (Xe (G A1 n2 c3) Z ?_))));have am := ad.le;refine Xa (Yc u42_ A1 n2 c3 ad.len Z) (Xa (X1 i2 (t_.length : Int) (decide (i2 < (t_.length : Int))) Z Z Z) (Xb ?_));refine Xz (decide (i2 < (t_.length : Int))) Z (fun af => ?_) (fun af => ?_)
 ·have H := Xp H af;refine Xx (Xc (X8 (Xc (Ys (fun x => Gr ag x none) RK RK (Gr.drew _) ?_))));refine Xs (G A1 n2 c3) Z (Xs (vi i2) Z ?_);obtain ⟨ao, H⟩ := H;obtain ⟨ah, b0, a0, b1, a1, a2⟩ := ad.get default RD i2 ao;obtain ⟨rfl, a3, b2⟩ := kTag.op a1;refine Xf (X3 u42_ Y5 A1 ah n2 c3 ad.len i2 Z a0 Z ao) (Xf (Xj fa93_0 (ah.add (i2.toNat * 2)) ((ah.add (i2.toNat * 2)).add 0) Z Z) (Xf (Xo ag9 cQ ((ah.add (i2.toNat * 2)).add 0) (vs ((nth t_ i2).Key)) Z (a2 0 _ Z)) ?_));obtain ⟨q, a4, H⟩ := H;refine Yq go65 [vs ((nth t_ i2).Key)] Z (vb q) (fun w g => (F85.calls a4 (ae.k0 g).ok a3).mono ?_) ?_
  ·rintro _ w ⟨r, rfl, rfl, g2⟩;exact ⟨Z, Gr.t0 g g2⟩
  refine Xf (X7 q Z) (Xs (vb (!q)) Z ?_);rcases X2 (!q) with ab | ab
  ·have H := Xp H ab;refine Xm ab Z (Xm ab Z (Xm ab Z (Xm ab Z (Xm ab Z (Xm ab Z (Xm ab Z (Xf (Xk true (vb true) ab Z) (Xs (vb true) Z ?_))))))));refine Xt (dj := 26) Z Z (.inl Z) (Xt (dj := 26) Z Z (.inl Z) (Xt (dj := 26) Z Z (.inl Z) (Xw Z (Xw Z (Xw Z (Xw Z (Xw Z (Xw Z ?_))))))));refine Xw Z (Xw Z (Xw Z (Xw Z (Xw Z (Xw Z (Xt (dj := 26) Z Z (.inl Z) (Xf (Xk true (vb true) Z Z) (Ya fun b3 a5 => ?_))))))));have a6 := ae.k0 a5;refine Yr (b := true) Z Z ?_;exact Xc (Xd (Xg (vb false) Z (Xb (Xn ⟨[vb false], ⟨_, Z, Z⟩, false, Z, H, a6.gr.g0⟩))))
  have H := Xq H ab;refine Xl ab Z (Xs (G A1 n2 c3) Z (Xl ab Z (Xs (vi i2) Z (Xl ab Z ?_))));obtain ⟨ap, H⟩ := H;obtain ⟨ai, b4, a7, b5, a8, a9⟩ := ad.get default RD i2 ap;obtain ⟨rfl, b6, ba⟩ := kTag.op a8;refine Xf (X3 u42_ Y5 A1 ai n2 c3 ad.len i2 Z a7 Z ap) (Xl ab Z (Xf (Xj fa93_1 (ai.add (i2.toNat * 2)) ((ai.add (i2.toNat * 2)).add 1) Z Z) (Xl ab Z (Xf (Xo ag9 cQ ((ai.add (i2.toNat * 2)).add 1) (vs ((nth t_ i2).Val)) Z (a9 1 _ Z)) (Xl ab Z ?_)))));obtain ⟨q2, bb, H⟩ := H;refine Yq go65 [vs ((nth t_ i2).Val)] Z (vb q2) (fun w g => (F85.calls bb (ae.k0 g).ok ba).mono ?_) ?_
  ·rintro _ w ⟨r, rfl, rfl, g2⟩;exact ⟨Z, Gr.t0 g g2⟩
  refine Xl ab Z (Xf (X7 q2 Z) (Xf (Xk false (vb (!q2)) ab Z) (Xs (vb (!q2)) Z ?_)));rcases X2 (!q2) with ac | ac
  ·have H := Xp H ac;refine Xm ac Z (Xm ac Z (Xm ac Z (Xw Z (Xw Z (Xw Z (Xw Z (Xw Z (Xw Z ?_))))))));refine Xw Z (Xw Z (Xw Z (Xw Z (Xw Z (Xw Z (Xm ac Z (Xf (Xk true (vb true) ac Z) (Ya fun b7 bc => ?_))))))));have bd := ae.k0 bc;refine Yr (b := true) Z Z ?_;exact Xc (Xd (Xg (vb false) Z (Xb (Xn ⟨[vb false], ⟨_, Z, Z⟩, false, Z, H, bd.gr.g0⟩))))
  have H := Xq H ac;refine Xl ac Z (Xs (vi i2) Z (Xl ac Z (Xf (X1 i2 0 (decide (i2 > 0)) Z Z Z) (Xl ac Z (Xs (vb (decide (i2 > 0))) Z ?_)))));rcases X2 (decide (i2 > 0)) with aa | aa
  ·have H := Xp H aa;refine Xl aa Z (Xs (G A1 n2 c3) Z (Xl aa Z (Xs (vi i2) Z (Xl aa Z ?_))));obtain ⟨aq, H⟩ := H;obtain ⟨aj, b8, be, b9, bf, bg⟩ := ad.get default RD i2 aq;obtain ⟨rfl, ca, cb⟩ := kTag.op bf;refine Xf (X3 u42_ Y5 A1 aj n2 c3 ad.len i2 Z be Z aq) (Xl aa Z (Xf (Xj fa93_0 (aj.add (i2.toNat * 2)) ((aj.add (i2.toNat * 2)).add 0) Z Z) (Xl aa Z (Xf (Xo ag9 cQ ((aj.add (i2.toNat * 2)).add 0) (vs ((nth t_ i2).Key)) Z (bg 0 _ Z)) (Xl aa Z (Xs (G A1 n2 c3) Z (Xl aa Z (Xs (vi i2) Z ?_))))))));refine Xl aa Z ?_;obtain ⟨bh, H⟩ := H;have bi := bh (len_le am);refine Xf (Y3 i2 1 Z Z bi) (Xl aa Z ?_);obtain ⟨ar, H⟩ := H;obtain ⟨ak, cc, bj, cd, bl, bm⟩ := ad.get default RD (i2 - 1) ar;obtain ⟨rfl, ce, cf⟩ := kTag.op bl;refine Xf (X3 u42_ Y5 A1 ak n2 c3 ad.len (i2 - 1) Z bj Z ar) (Xl aa Z (Xf (Xj fa93_0 (ak.add ((i2 - 1).toNat * 2)) ((ak.add ((i2 - 1).toNat * 2)).add 0) Z Z) (Xl aa Z (Xf (Xo ag9 cQ ((ak.add ((i2 - 1).toNat * 2)).add 0) (vs ((nth t_ (i2 - 1)).Key)) Z (bm 0 _ Z)) (Xl aa Z (Xf (Yi ((nth t_ i2).Key) ((nth t_ (i2 - 1)).Key) (Op.bytesLess ((nth t_ i2).Key) ((nth t_ (i2 - 1)).Key) || ((nth t_ i2).Key) == ((nth t_ (i2 - 1)).Key)) Z Z Z) (Xl ac Z (Xf (Ym true (vb (Op.bytesLess ((nth t_ i2).Key) ((nth t_ (i2 - 1)).Key) || ((nth t_ i2).Key) == ((nth t_ (i2 - 1)).Key))) (by exact congrArg Value.bool aa) Z) ?_))))))));refine Xf (Ym false (vb (Op.bytesLess ((nth t_ i2).Key) ((nth t_ (i2 - 1)).Key) || ((nth t_ i2).Key) == ((nth t_ (i2 - 1)).Key))) (by exact congrArg Value.bool ac) Z) (Ya fun cg au => ?_);have av := ae.k0 au;refine Xz (Op.bytesLess ((nth t_ i2).Key) ((nth t_ (i2 - 1)).Key) || ((nth t_ i2).Key) == ((nth t_ (i2 - 1)).Key)) Z (fun an => ?_) (fun an => ?_)
   ·have H := Xp H an;exact Xc (Xd (Xg (vb false) Z (Xb (Xn ⟨[vb false], ⟨_, Z, Z⟩, false, Z, H, av.gr.g0⟩))))
   have H := Xq H an;refine Xx (Xd (Xe (vi i2) Z ?_));obtain ⟨bn, H⟩ := H;have bo : I64 (i2 + 1) := i64_succ (of_decide_eq_true af) am bn;refine Xa (Yd i2 1 Z Z bo) (Xg (vi (i2 + 1)) Z (Xb ?_));obtain ⟨bp, bq⟩ := H;have br := ae.stn au;exact ⟨i2 + 1, bq, bp, (X0 Z), av, (ad.st br)⟩
  have H := Xq H aa;refine Xm aa Z (Xm aa Z (Xm aa Z (Xm aa Z (Xm aa Z (Xm aa Z (Xm aa Z (Xm aa Z (Xm aa Z ?_))))))));refine Xm aa Z (Xm aa Z (Xm aa Z (Xl ac Z (Xf (Xk false (vb false) aa Z) (Xf (Xk false (vb false) ac Z) (Ya fun ch aw => ?_))))));have bs := ae.k0 aw;refine Y0 (b := false) Z Z ?_;refine Xx (Xd (Xe (vi i2) Z ?_));obtain ⟨bt, H⟩ := H;have bu : I64 (i2 + 1) := i64_succ (of_decide_eq_true af) am bt;refine Xa (Yd i2 1 Z Z bu) (Xg (vi (i2 + 1)) Z (Xb ?_));obtain ⟨bv, bw⟩ := H;have bx := ae.stn aw;exact ⟨i2 + 1, bw, bv, (X0 Z), bs, (ad.st bx)⟩
 have H := Xq H af;refine Yh (xin_hit ?_);exact Xc (Xd (Xe (G A1 n2 c3) Z (Xa (Yc u42_ A1 n2 c3 ad.len Z) (Xa (X1 (t_.length : Int) 4 (decide ((t_.length : Int) ≤ 4)) Z Z Z) (Xg (vb (decide ((t_.length : Int) ≤ 4))) Z (Xb (Xn ⟨[vb (decide ((t_.length : Int) ≤ 4))], ⟨_, Z, Z⟩, decide ((t_.length : Int) ≤ 4), Z, H, ae.gr.g0⟩)))))))
def F87.E (f : Feat) (Q : Bool → Prop) : Prop :=
 F85.E f.Id (fun r => (if r then F68.E f.Shape (fun r2 => (if r2 then F86.E f.Tags (fun r3 => Q r3) else Q false)) else Q false))
theorem F87.calls {f : Feat} {A2 : Option Addr} {n3 c4 : Nat} {A7 : Option Addr} {n8 c9 : Nat} {Q : Bool → Prop} (H : F87.E f Q) (hO : Ok w0 O) (hs1 : Lim f.Id) (hp5 : Sl kPt w0 (Fr O) (G A2 n3 c4) f.Shape.Pts) (ak : Sl kTag w0 (Fr O) (G A7 n8 c9) f.Tags) :
  Ret Tryz.prog 24 [.agg #[vs f.Id, vi f.Shape.Kind, G A2 n3 c4, G A7 n8 c9]] w0 (fun v w' => ∃ (r0 : Bool), v = vb r0 ∧ Q r0 ∧ Gr w0 w' none) := by
 unfold F87.E at H;have hc0 := Ct.init hO;refine X9 Tryz.func24 Z 16 Z [.tmp 2] Z Z ?_;refine Xc (Xd (Yo [vs f.Id, vi f.Shape.Kind, G A2 n3 c4, G A7 n8 c9] Z fun al ac am hu16 an ao => ?_));have ag := Fb.mk hc0.ok am ao;have af := hc0.k0 an;refine Xg (vb false) Z (Xb (Xc (Xd (Xa (Xj fa44_0 (Ad ac 0) (Ad ac 0) Z Z) (Xa (Xo ag9 cL (Ad ac 0) (vs f.Id) Z (ag.cell Z)) ?_)))));refine Xu go65 (F85.calls H af.ok hs1) Z ?_;rintro _ ap ⟨r, rfl, H, ah⟩;have ad := af.k0 ah;refine Xe (vb r) Z ?_;rcases X2 r with aa | aa
 ·have H := Xp H aa;refine Xh aa Z (Xa (Xj fa44_1 (Ad ac 0) (Ad ac 1) Z Z) (Xh aa Z ?_));have aq := af.stn ah;have ai := (ag.st aq);refine Xa (Xv ag41 sz41 cL (Ad ac 1) [vi f.Shape.Kind, G A2 n3 c4] Z Z (ai.cells (off := 1) Z)) (Xh aa Z ?_);refine Xu go66 (F68.calls H ad.ok (hp5.st ad.st)) Z ?_;rintro _ ar ⟨r2, rfl, H, aj⟩;have ae := ad.k0 aj;refine Xa (Xk true (vb r2) aa Z) (Xe (vb r2) Z ?_);rcases X2 r2 with ab | ab
  ·have H := Xp H ab;refine Xh ab Z (Xa (Xj fa44_2 (Ad ac 0) (Ad ac 3) Z Z) (Xh ab Z ?_));have au := ad.stn aj;have av := (ai.st au);refine Xa (Xo ag42 cL (Ad ac 3) (G A7 n8 c9) Z (av.cell Z)) (Xh ab Z ?_);refine Xu go67 (F86.calls H ae.ok (ak.st ae.st)) Z ?_;rintro _ ay ⟨r3, rfl, H, aw⟩;have ax := ae.k0 aw;exact Xa (Xk true (vb r3) ab Z) (Xg (vb r3) Z (Xb (Xn ⟨[vb r3], ⟨_, Z, Z⟩, r3, Z, H, ax.gr.g0⟩)))
  have H := Xq H ab;exact Xi ab Z (Xi ab Z (Xi ab Z (Xa (Xk false (vb false) ab Z) (Xg (vb false) Z (Xb (Xn ⟨[vb false], ⟨_, Z, Z⟩, false, Z, H, ae.gr.g0⟩))))))
 have H := Xq H aa;refine Xi aa Z (Xi aa Z (Xi aa Z (Xa (Xk false (vb false) aa Z) (Xe (vb false) Z (X6 (dj := 11) Z Z (.inl Z) (X6 (dj := 11) Z Z (.inl Z) (X6 (dj := 11) Z Z (.inl Z) (Xa (Xk false (vb false) Z Z) ?_))))))));exact Xg (vb false) Z (Xb (Xn ⟨[vb false], ⟨_, Z, Z⟩, false, Z, H, ad.gr.g0⟩))
def F71.E (s : List Feat) (Q : Bool → Prop) : Prop :=
 (∃ (I18 : Int → Prop) (mu19 : Int → Nat), I18 0 ∧ ∀ (i2 : Int), I18 i2 → (if decide (i2 < (s.length : Int)) then ((0 : Int) ≤ i2 ∧ i2 < (s.length : Int)) ∧ (∃ q : Bool, F87.E (nth s i2) (fun x => x = q) ∧ (if !q then Q false else (if decide (i2 > 0) then ((0 : Int) ≤ i2 ∧ i2 < (s.length : Int)) ∧ ((s.length : Int) ≤ 9223372036854775807 → I64 (i2 - 1)) ∧ ((0 : Int) ≤ i2 - 1 ∧ i2 - 1 < (s.length : Int)) ∧ (if Op.bytesLess ((nth s i2).Id) ((nth s (i2 - 1)).Id) || ((nth s i2).Id) == ((nth s (i2 - 1)).Id) then Q false else (-9223372036854775808 ≤ i2) ∧ I18 (i2 + 1) ∧ mu19 (i2 + 1) < mu19 i2) else (-9223372036854775808 ≤ i2) ∧ I18 (i2 + 1) ∧ mu19 (i2 + 1) < mu19 i2))) else Q (decide ((s.length : Int) ≤ 8))))
theorem F71.calls {s : List Feat} {A1 : Option Addr} {n2 c3 : Nat} {Q : Bool → Prop} (H : F71.E s Q) (hO : Ok w0 O) (hp4 : Sl kFeat w0 (Fr O) (G A1 n2 c3) s) :
  Ret Tryz.prog 22 [G A1 n2 c3] w0 (fun v w' => ∃ (r0 : Bool), v = vb r0 ∧ Q r0 ∧ Gr w0 w' none) := by
 unfold F71.E at H;have hc0 := Ct.init hO;refine X9 Tryz.func22 Z 37 Z [.tmp 2] Z Z ?_;refine Xc (Xd (Xg (vb false) Z (Xb (Xc (Xc (Xd (Xg (vi 0) Z (Xb ?_))))))));refine X8 ?_;obtain ⟨a0, a1, ai, H⟩ := H;refine Yj (α := Int) (fun (sv__ : Int) t af => match sv__ with | i2 => a0 i2 ∧ Has t [(0, G A1 n2 c3), (3, vi i2)] ∧ Ct [] w0 af [] O ∧ Sl kFeat af (Fr ([] ++ O)) (G A1 n2 c3) s) (fun (sv__ : Int) => match sv__ with | i2 => a1 i2) 0 ⟨ai, (X0 Z), hc0, hp4⟩ ?_;rintro i2 _ af ⟨ai, a2, ad, ac⟩;obtain ⟨bw, rfl⟩ := Has.ins a2;have H := H i2 ai;refine Xc (Xc (Xd (Xe (vi i2) Z (Xe (G A1 n2 c3) Z ?_))));have aj := ac.le;refine Xa (Yc u33_ A1 n2 c3 ac.len Z) (Xa (X1 i2 (s.length : Int) (decide (i2 < (s.length : Int))) Z Z Z) (Xb ?_));refine Xz (decide (i2 < (s.length : Int))) Z (fun ae => ?_) (fun ae => ?_)
 ·have H := Xp H ae;refine Xx (Xc (X8 (Xc (Ys (fun x => Gr af x none) RK RK (Gr.drew _) ?_))));refine Xs (G A1 n2 c3) Z (Xs (vi i2) Z ?_);obtain ⟨ar, H⟩ := H;obtain ⟨au, bx, a3, bz, a4, a5⟩ := ac.get default RD i2 ar;obtain ⟨ak, al, am, an, ao, ap, rfl, a6, a7, a8⟩ := kFeat.op a4;refine Xf (X3 u33_ Y1 A1 au n2 c3 ac.len i2 Z a3 Z ar) (Xf (Xv ag44 sz44 cQ (au.add (i2.toNat * 4)) [vs ((nth s i2).Id), vi ((nth s i2).Shape.Kind), G ak al am, G an ao ap] Z Z a5) ?_);obtain ⟨q, a9, H⟩ := H;refine Yq go24 [.agg #[vs ((nth s i2).Id), vi ((nth s i2).Shape.Kind), G ak al am, G an ao ap]] Z (vb q) (fun w g => (F87.calls a9 (ad.k0 g).ok a6 (a7.st (.new _ g)) (a8.st (.new _ g))).mono ?_) ?_
  ·rintro _ w ⟨r, rfl, rfl, g2⟩;exact ⟨Z, Gr.t0 g g2⟩
  refine Xf (X7 q Z) (Xs (vb (!q)) Z ?_);rcases X2 (!q) with ab | ab
  ·have H := Xp H ab;refine Xm ab Z (Xm ab Z (Xm ab Z (Xw Z (Xw Z (Xw Z (Xw Z (Xw Z (Xw Z ?_))))))));refine Xw Z (Xw Z (Xw Z (Xw Z (Xw Z (Xw Z (Xm ab Z (Xf (Xk true (vb true) ab Z) (Ya fun b0 ba => ?_))))))));have bb := ad.k0 ba;refine Yr (b := true) Z Z ?_;exact Xc (Xd (Xg (vb false) Z (Xb (Xn ⟨[vb false], ⟨_, Z, Z⟩, false, Z, H, bb.gr.g0⟩))))
  have H := Xq H ab;refine Xl ab Z (Xs (vi i2) Z (Xl ab Z (Xf (X1 i2 0 (decide (i2 > 0)) Z Z Z) (Xl ab Z (Xs (vb (decide (i2 > 0))) Z ?_)))));rcases X2 (decide (i2 > 0)) with aa | aa
  ·have H := Xp H aa;refine Xl aa Z (Xs (G A1 n2 c3) Z (Xl aa Z (Xs (vi i2) Z (Xl aa Z ?_))));obtain ⟨av, H⟩ := H;obtain ⟨ag, b1, bc, b2, bd, be⟩ := ac.get default RD i2 av;obtain ⟨b3, b4, b5, b6, b7, b8, rfl, b9, ca, cb⟩ := kFeat.op bd;refine Xf (X3 u33_ Y1 A1 ag n2 c3 ac.len i2 Z bc Z av) (Xl aa Z (Xf (Xj fa44_0 (ag.add (i2.toNat * 4)) ((ag.add (i2.toNat * 4)).add 0) Z Z) (Xl aa Z (Xf (Xo ag9 cQ ((ag.add (i2.toNat * 4)).add 0) (vs ((nth s i2).Id)) Z (be 0 _ Z)) (Xl aa Z (Xs (G A1 n2 c3) Z (Xl aa Z (Xs (vi i2) Z ?_))))))));refine Xl aa Z ?_;obtain ⟨bf, H⟩ := H;have bg := bf (len_le aj);refine Xf (Y3 i2 1 Z Z bg) (Xl aa Z ?_);obtain ⟨aw, H⟩ := H;obtain ⟨ah, cc, bh, cd, bi, bj⟩ := ac.get default RD (i2 - 1) aw;obtain ⟨ce, cf, cg, ch, ci, cj, rfl, ck, cl, cm⟩ := kFeat.op bi;refine Xf (X3 u33_ Y1 A1 ah n2 c3 ac.len (i2 - 1) Z bh Z aw) (Xl aa Z (Xf (Xj fa44_0 (ah.add ((i2 - 1).toNat * 4)) ((ah.add ((i2 - 1).toNat * 4)).add 0) Z Z) (Xl aa Z (Xf (Xo ag9 cQ ((ah.add ((i2 - 1).toNat * 4)).add 0) (vs ((nth s (i2 - 1)).Id)) Z (bj 0 _ Z)) (Xl aa Z (Xf (Yi ((nth s i2).Id) ((nth s (i2 - 1)).Id) (Op.bytesLess ((nth s i2).Id) ((nth s (i2 - 1)).Id) || ((nth s i2).Id) == ((nth s (i2 - 1)).Id)) Z Z Z) (Xl ab Z (Xf (Ym true (vb (Op.bytesLess ((nth s i2).Id) ((nth s (i2 - 1)).Id) || ((nth s i2).Id) == ((nth s (i2 - 1)).Id))) (by exact congrArg Value.bool aa) Z) ?_))))))));refine Xf (Ym false (vb (Op.bytesLess ((nth s i2).Id) ((nth s (i2 - 1)).Id) || ((nth s i2).Id) == ((nth s (i2 - 1)).Id))) (by exact congrArg Value.bool ab) Z) (Ya fun cn ax => ?_);have ay := ad.k0 ax;refine Xz (Op.bytesLess ((nth s i2).Id) ((nth s (i2 - 1)).Id) || ((nth s i2).Id) == ((nth s (i2 - 1)).Id)) Z (fun aq => ?_) (fun aq => ?_)
   ·have H := Xp H aq;exact Xc (Xd (Xg (vb false) Z (Xb (Xn ⟨[vb false], ⟨_, Z, Z⟩, false, Z, H, ay.gr.g0⟩))))
   have H := Xq H aq;refine Xx (Xd (Xe (vi i2) Z ?_));obtain ⟨bl, H⟩ := H;have bm : I64 (i2 + 1) := i64_succ (of_decide_eq_true ae) aj bl;refine Xa (Yd i2 1 Z Z bm) (Xg (vi (i2 + 1)) Z (Xb ?_));obtain ⟨bn, bo⟩ := H;have bp := ad.stn ax;exact ⟨i2 + 1, bo, bn, (X0 Z), ay, (ac.st bp)⟩
  have H := Xq H aa;refine Xm aa Z (Xm aa Z (Xm aa Z (Xm aa Z (Xm aa Z (Xm aa Z (Xm aa Z (Xm aa Z (Xm aa Z ?_))))))));refine Xm aa Z (Xm aa Z (Xm aa Z (Xl ab Z (Xf (Xk false (vb false) aa Z) (Xf (Xk false (vb false) ab Z) (Ya fun co az => ?_))))));have bq := ad.k0 az;refine Y0 (b := false) Z Z ?_;refine Xx (Xd (Xe (vi i2) Z ?_));obtain ⟨br, H⟩ := H;have bs : I64 (i2 + 1) := i64_succ (of_decide_eq_true ae) aj br;refine Xa (Yd i2 1 Z Z bs) (Xg (vi (i2 + 1)) Z (Xb ?_));obtain ⟨bt, bu⟩ := H;have bv := ad.stn az;exact ⟨i2 + 1, bu, bt, (X0 Z), bq, (ac.st bv)⟩
 have H := Xq H ae;refine Yh (xin_hit ?_);exact Xc (Xd (Xe (G A1 n2 c3) Z (Xa (Yc u33_ A1 n2 c3 ac.len Z) (Xa (X1 (s.length : Int) 8 (decide ((s.length : Int) ≤ 8)) Z Z Z) (Xg (vb (decide ((s.length : Int) ≤ 8))) Z (Xb (Xn ⟨[vb (decide ((s.length : Int) ≤ 8))], ⟨_, Z, Z⟩, decide ((s.length : Int) ≤ 8), Z, H, ad.gr.g0⟩)))))))
def F129.E (a b : List Feat) (Q : List Str → Prop) : Prop :=
 (∃ (I35 : (List Feat) → Int → Prop) (mu36 : (List Feat) → Int → Nat), I35 a 0 ∧ ∀ (s2 : List Feat) (i2 : Int), I35 s2 i2 → (if decide (i2 < (b.length : Int)) then ((0 : Int) ≤ i2 ∧ i2 < (b.length : Int)) ∧ F127.E s2 (nth b i2) (fun r => (-9223372036854775808 ≤ i2) ∧ I35 r (i2 + 1) ∧ mu36 r (i2 + 1) < mu36 s2 i2) else (∃ (I115 : (List Str) → Int → Prop) (mu116 : (List Str) → Int → Nat), I115 [] 0 ∧ ∀ (xs2 : List Str) (i4 : Int), I115 xs2 i4 → (if decide (i4 < (s2.length : Int)) then ((0 : Int) ≤ i4 ∧ i4 < (s2.length : Int)) ∧ (xs2.length + ([(nth s2 i4).Id] : List Str).length ≤ 268435456) ∧ (-9223372036854775808 ≤ i4) ∧ I115 (xs2 ++ ([(nth s2 i4).Id] : List Str)) (i4 + 1) ∧ mu116 (xs2 ++ ([(nth s2 i4).Id] : List Str)) (i4 + 1) < mu116 xs2 i4 else Q xs2))))
theorem F129.calls {a : List Feat} {A1 : Option Addr} {n2 c3 : Nat} {b : List Feat} {A6 : Option Addr} {n7 c8 : Nat} {Q : List Str → Prop} (H : F129.E a b Q) (hO : Ok w0 O) (hp4 : Sl kFeat w0 (Fr O) (G A1 n2 c3) a) (hp9 : Sl kFeat w0 (Fr O) (G A6 n7 c8) b) :
  Ret Tryz.prog 104 [G A1 n2 c3, G A6 n7 c8] w0 (fun v w' => ∃ (r0 : List Str) (Aw0 : Option Addr) (nw0 cw0 : Nat), v = G Aw0 nw0 cw0 ∧ Q r0 ∧ Gk w0 w' [bk Aw0] O (Ow Kd.str 9 w' ([bk Aw0] ++ O) (G Aw0 nw0 cw0) r0)) := by
 unfold F129.E at H;have hc0 := Ct.init hO;refine X9 Tryz.func104 Z 38 Z [.tmp 4] Z Z ?_;refine Xc (Xd (Xg (G none 0 0) Z (Xb (Xc (Xd (Xe (G A1 n2 c3) Z (Xg (G A1 n2 c3) Z (Xb ?_))))))));refine Xc (Xc (Xd (Xg (vi 0) Z (Xb (X8 ?_)))));obtain ⟨bi, bj, ap, H⟩ := H;refine Yj (α := (List Feat) × (Option Addr) × Nat × Nat × Int) (fun (s2, aa, ab, ac, i2) t ag => bi s2 i2 ∧ Has t [(1, G A6 n7 c8), (5, G aa ab ac), (6, vi i2)] ∧ Cw [] w0 ag [] O fun M => Sl kFeat ag (Fr M) (G A6 n7 c8) b ∧ Sl kFeat ag (Fr M) (G aa ab ac) s2) (fun (s2, _, _, _, i2) => bj s2 i2) (a, A1, n2, c3, 0) ⟨ap, (X0 Z), hc0, hp9, hp4⟩ ?_;rintro ⟨s2, aa, ab, ac, i2⟩ _ ag ⟨ap, bl, ah, ai, a1⟩;obtain ⟨cz, rfl⟩ := Has.ins bl;have H := H s2 i2 ap;refine Xc (Xc (Xd (Xe (vi i2) Z (Xe (G A6 n7 c8) Z ?_))));have bm := ai.le;refine Xa (Yc u33_ A6 n7 c8 ai.len Z) (Xa (X1 i2 (b.length : Int) (decide (i2 < (b.length : Int))) Z Z Z) (Xb ?_));refine Xz (decide (i2 < (b.length : Int))) Z (fun al => ?_) (fun al => ?_)
 ·have H := Xp H al;refine Xx (Xc (X8 (Xd (Xe (G aa ab ac) Z (Xe (G A6 n7 c8) Z (Xe (vi i2) Z ?_))))));obtain ⟨a2, H⟩ := H;obtain ⟨a3, c0, bn, c1, bo, bp⟩ := ai.get default RD i2 a2;obtain ⟨aq, ar, au, av, aw, ax, rfl, bq, br, bs⟩ := kFeat.op bo;refine Xa (X3 u33_ Y1 A6 a3 n7 c8 ai.len i2 Z bn Z a2) (Xa (Xv ag44 sz44 cL (a3.add (i2.toNat * 4)) [vs ((nth b i2).Id), vi ((nth b i2).Shape.Kind), G aq ar au, G av aw ax] Z Z bp) ?_);refine Xu go89 (F127.calls H ah.ok a1 bq br bs) Z ?_;rintro _ c2 ⟨r, a4, a5, a6, rfl, H, a7, bt, a8, bu⟩;have ay := ah.owns a7 bt a8;refine Xg (G a4 a5 a6) Z (Xb (Xd (Xe (vi i2) Z ?_)));obtain ⟨bv, H⟩ := H;have bw : I64 (i2 + 1) := i64_succ (of_decide_eq_true al) bm bv;refine Xa (Yd i2 1 Z Z bw) (Xg (vi (i2 + 1)) Z (Xb ?_));have bx := ay.gv bu 0 Z;have bz := ay.drop 0 Z;obtain ⟨b0, b1⟩ := H;have b2 := ah.stos a7 a8;have b3 := ay.std 0 Z;have b4 := ((ai.st b2).st b3);exact ⟨(r, a4, a5, a6, i2 + 1), b1, b0, (X0 Z), bz, b4, bx⟩
 have H := Xq H al;refine Yh (xin_hit ?_);refine Xc (Xd (Yb (kd := Kd.str) Y9 ah ([] : List Str) (cells := []) Z RF fun c4 a9 ba bb b5 hr87 b6 b7 => ?_));refine Xg (G a9 ba bb) Z (Xb (Xc (Xc (Xd (Xg (vi 0) Z (Xb (X8 ?_)))))));obtain ⟨b8, b9, az, H⟩ := H;have ca := ah.stown _ b5 hr87;refine Yj (α := (List Str) × (Option Addr) × Nat × Nat × Int) (fun (xs2, ad, ae, af, i4) t am => b8 xs2 i4 ∧ Has t [(5, G aa ab ac), (7, G ad ae af), (8, vi i4)] ∧ Cw [] w0 am [bk ad] O fun M => Sl kFeat am (Fr M) (G aa ab ac) s2 ∧ Ow Kd.str 9 am M (G ad ae af) xs2) (fun (xs2, _, _, _, i4) => b9 xs2 i4) (([] : List Str), a9, ba, bb, 0) ⟨az, (X0 Z), b6, (a1.st ca), b7⟩ ?_;rintro ⟨xs2, ad, ae, af, i4⟩ _ am ⟨az, cb, aj, ak, bc⟩;obtain ⟨c5, rfl⟩ := Has.ins cb;have H := H xs2 i4 az;refine Xc (Xc (Xd (Xe (vi i4) Z (Xe (G aa ab ac) Z ?_))));have cc := ak.le;refine Xa (Yc u33_ aa ab ac ak.len Z) (Xa (X1 i4 (s2.length : Int) (decide (i4 < (s2.length : Int))) Z Z Z) (Xb ?_));refine Xz (decide (i4 < (s2.length : Int))) Z (fun an => ?_) (fun an => ?_)
 ·have H := Xp H an;refine Xx (Xc (X8 (Xd (Xe (G ad ae af) Z (Xe (G aa ab ac) Z (Xe (vi i4) Z ?_))))));obtain ⟨bd, H⟩ := H;obtain ⟨ao, c6, cd, c7, ce, cf⟩ := ak.get default RD i4 bd;obtain ⟨c9, da, db, dc, dd, de, rfl, cg, df, dg⟩ := kFeat.op ce;refine Xa (X3 u33_ Y1 aa ao ab ac ak.len i4 Z cd Z bd) (Xa (Xj fa44_0 (ao.add (i4.toNat * 4)) ((ao.add (i4.toNat * 4)).add 0) Z Z) (Xa (Xo ag9 cL ((ao.add (i4.toNat * 4)).add 0) (vs ((nth s2 i4).Id)) Z (cf 0 _ Z)) (Yb (kd := Kd.str) Y9 aj ([(nth s2 i4).Id] : List Str) (cells := [vs ((nth s2 i4).Id)]) ⟨[vs ((nth s2 i4).Id)], _, Z, ⟨Z, cg⟩, Z⟩ RF fun dh ch ci cj be hr147 ck cl => ?_)));obtain ⟨cm, H⟩ := H;have cn := (bc.so _ be hr147);refine Yg Y9 ck (G ad ae af) xs2 ([(nth s2 i4).Id] : List Str) Z cn (G ch ci cj) Z cl.sx 1 Z cm fun di bf bg bh dj co a0 cp => ?_;refine Xg (G bf bg bh) Z (Xb (Xd (Xe (vi i4) Z ?_)));obtain ⟨cq, H⟩ := H;have cr : I64 (i4 + 1) := i64_succ (of_decide_eq_true an) cc cq;refine Xa (Yd i4 1 Z Z cr) (Xg (vi (i4 + 1)) Z (Xb ?_));have cs := a0.drop 0 Z;obtain ⟨ct, cu⟩ := H;have cv := aj.stown _ be hr147;have cw := a0.std 0 Z;have cx := (((ak.st cv).st co).st cw);have cy := (a0.sd cp 1 0 Z Z Z);exact ⟨((xs2 ++ ([(nth s2 i4).Id] : List Str)), bf, bg, bh, i4 + 1), cu, ct, (X0 Z), cs, cx, cy⟩
 have H := Xq H an;refine Yh (xin_hit ?_);exact Xc (Xd (Xe (G ad ae af) Z (Xg (G ad ae af) Z (Xb (Xn ⟨[G ad ae af], ⟨_, Z, Z⟩, xs2, ad, ae, af, Z, H, aj.gr.g0, aj.ok, aj.ge, bc⟩)))))
def F81.E (s : List Feat) (id : Str) (Q : Int → Prop) : Prop :=
 (∃ (I19 : Int → Prop) (mu20 : Int → Nat), I19 0 ∧ ∀ (i2 : Int), I19 i2 → (if decide (i2 < (s.length : Int)) then ((0 : Int) ≤ i2 ∧ i2 < (s.length : Int)) ∧ (if ((nth s i2).Id) == id then Q i2 else (-9223372036854775808 ≤ i2) ∧ I19 (i2 + 1) ∧ mu20 (i2 + 1) < mu20 i2) else Q (-1)))
theorem F81.calls {s : List Feat} {A1 : Option Addr} {n2 c3 : Nat} {id : Str} {Q : Int → Prop} (H : F81.E s id Q) (hO : Ok w0 O) (hp4 : Sl kFeat w0 (Fr O) (G A1 n2 c3) s) (hs6 : Lim id) :
  Ret Tryz.prog 99 [G A1 n2 c3, vs id] w0 (fun v w' => ∃ (r0 : Int), v = vi r0 ∧ Q r0 ∧ Gr w0 w' none) := by
 unfold F81.E at H;have hc0 := Ct.init hO;refine X9 Tryz.func99 Z 20 Z [.tmp 4] Z Z ?_;refine Xc (Xd (Xg (vi 0) Z (Xb (Xc (Xc (Xd (Xg (vi 0) Z (Xb ?_))))))));refine X8 ?_;obtain ⟨ai, aj, ad, H⟩ := H;refine Yj (α := Int) (fun (sv__ : Int) t ae => match sv__ with | i2 => ai i2 ∧ Has t [(0, G A1 n2 c3), (1, vs id), (5, vi i2)] ∧ Ct [] w0 ae [] O ∧ Sl kFeat ae (Fr ([] ++ O)) (G A1 n2 c3) s) (fun (sv__ : Int) => match sv__ with | i2 => aj i2) 0 ⟨ad, (X0 Z), hc0, hp4⟩ ?_;rintro i2 _ ae ⟨ad, ak, af, aa⟩;obtain ⟨av, rfl⟩ := Has.ins ak;have H := H i2 ad;refine Xc (Xc (Xd (Xe (vi i2) Z (Xe (G A1 n2 c3) Z ?_))));have al := aa.le;refine Xa (Yc u33_ A1 n2 c3 aa.len Z) (Xa (X1 i2 (s.length : Int) (decide (i2 < (s.length : Int))) Z Z Z) (Xb ?_));refine Xz (decide (i2 < (s.length : Int))) Z (fun ab => ?_) (fun ab => ?_)
 ·have H := Xp H ab;refine Xx (Xc (X8 (Xc (Xd (Xe (G A1 n2 c3) Z (Xe (vi i2) Z ?_))))));obtain ⟨ah, H⟩ := H;obtain ⟨ac, aw, am, ax, an, ao⟩ := aa.get default RD i2 ah;obtain ⟨ay, az, a0, a1, a2, a3, rfl, a4, a5, a6⟩ := kFeat.op an;refine Xa (X3 u33_ Y1 A1 ac n2 c3 aa.len i2 Z am Z ah) (Xa (Xj fa44_0 (ac.add (i2.toNat * 4)) ((ac.add (i2.toNat * 4)).add 0) Z Z) (Xa (Xo ag9 cL ((ac.add (i2.toNat * 4)).add 0) (vs ((nth s i2).Id)) Z (ao 0 _ Z)) (Xe (vs id) Z (Xa (Yi ((nth s i2).Id) id (((nth s i2).Id) == id) Z Z Z) (Xb ?_)))));refine Xz (((nth s i2).Id) == id) Z (fun ag => ?_) (fun ag => ?_)
  ·have H := Xp H ag;exact Xc (Xd (Xe (vi i2) Z (Xg (vi i2) Z (Xb (Xn ⟨[vi i2], ⟨_, Z, Z⟩, i2, Z, H, af.gr.g0⟩)))))
  have H := Xq H ag;refine Xx (Xd (Xe (vi i2) Z ?_));obtain ⟨ap, H⟩ := H;have aq : I64 (i2 + 1) := i64_succ (of_decide_eq_true ab) al ap;refine Xa (Yd i2 1 Z Z aq) (Xg (vi (i2 + 1)) Z (Xb ?_));obtain ⟨ar, au⟩ := H;exact ⟨i2 + 1, au, ar, (X0 Z), af, aa⟩
 have H := Xq H ab;refine Yh (xin_hit ?_);exact Xc (Xd (Xg (vi (-1)) Z (Xb (Xn ⟨[vi (-1)], ⟨_, Z, Z⟩, (-1), Z, H, af.gr.g0⟩))))
def F82.E (s : Shape) (Q : Shape → Prop) : Prop :=
 (([] : List Pt).length + s.Pts.length ≤ 268435456) ∧ Q (⟨s.Kind, (([] : List Pt) ++ s.Pts)⟩ : Shape)
theorem F82.calls {s : Shape} {A1 : Option Addr} {n2 c3 : Nat} {Q : Shape → Prop} (H : F82.E s Q) (hO : Ok w0 O) (hp4 : Sl kPt w0 (Fr O) (G A1 n2 c3) s.Pts) :
  Ret Tryz.prog 115 [.agg #[vi s.Kind, G A1 n2 c3]] w0 (fun v w' => ∃ (r0 : Shape) (Aw0 : Option Addr) (nw0 cw0 : Nat), v = .agg #[vi r0.Kind, G Aw0 nw0 cw0] ∧ Q r0 ∧ Gk w0 w' [bk Aw0] O (Ow kPt 49 w' ([bk Aw0] ++ O) (G Aw0 nw0 cw0) r0.Pts)) := by
 unfold F82.E at H;have hc0 := Ct.init hO;refine X9 Tryz.func115 Z 10 Z [.cell 2 41] Z Z ?_;refine Xc (Xd (Yo [vi s.Kind, G A1 n2 c3] Z fun w6 b7 hl9 hu10 g8 ay => ?_));have az := Fb.mk hc0.ok hl9 ay;have ap := hc0.k0 g8;refine Yp [.int .i64 0, G none 0 0] ze41 fun be ae aq hu19 ar a0 => ?_;have au := ap.own ar (some ae) (Yn aq hu19);refine Xb (Xc (Za 8 [some ae] RK Z fun bf ag aa => ?_));have ah := au.k0 ag;refine Xy 0 Z RK aa (Xj fa41_0 (Ad b7 0) (Ad b7 0) Z Z) ?_;have a1 := ap.stown _ ar (X4 aq);have a2 := au.stn ag;have af := ((az.st a1).st a2);refine Xy 1 Z RK aa (Y6 ag3 cR (Ad b7 0) (vi s.Kind) Z (af.cell Z) (nm_cons (ah.fne 0 af.2 Z) nm_nil)) ?_;refine Xy 3 Z RK aa (Xj fa41_1 (Ad b7 0) (Ad b7 1) Z Z) ?_;refine Xy 4 Z RK aa (Y6 ag39 cR (Ad b7 1) (G A1 n2 c3) Z (af.cell Z) (nm_cons (ah.fne 0 af.2 Z) nm_nil)) ?_;refine X5 2 RK Z ?_;refine Yb (kd := kPt) Yt ah ([] : List Pt) (cells := []) Z RF fun bg av a3 a4 aw hr35 ai a5 => ?_;have aj := Gm.tm aa aw;refine Xb ⟨aj, ?_⟩;refine X5 5 RK Z ?_;obtain ⟨a6, H⟩ := H;refine Yg Yt ai (G av a3 a4) ([] : List Pt) s.Pts Z a5 (G A1 n2 c3) Z (hp4.st ai.st).sx 0 Z a6 fun bh ab ac ad ax a7 ak a8 => ?_;have al := Gm.tq aj ax (hv_new aa hr35);have bi := hv_app (L := [bk av, some ae]) (O := O) (i := 0) aj Z (hv_new aa hr35) a7 ak;refine Xb ⟨al, ?_⟩;refine Xy 6 Z RK al (Yl (.agg #[vi s.Kind, G ab ac ad]) RF) ?_;refine X5 7 RK Z ?_;have a9 := (ai.bm ((a0.k0 ag).k0 aw) 1 0 Z Z Z ax);refine Ye [vi s.Kind, G ab ac ad] a9 Z Z sz41 Z Z fun bj am ba => ?_;have an := ak.wr 1 Z am;have bb := Gm.tq al am (hv_mem 0 Z);refine Xb ⟨bb, ?_⟩;refine Yv RK ?_;refine Xn ?_;have bc := an.bgv ba 1 Z;have ao := an.drop 1 Z;have bd := (an.sd (ak.sw a8 0 1 Z Z Z am) 0 1 Z Z Z);exact ⟨[.agg #[vi s.Kind, G ab ac ad]], ⟨_, _, Z, bc.1.res Z ag41 sz41, Z⟩, (⟨s.Kind, (([] : List Pt) ++ s.Pts)⟩ : Shape), ab, ac, ad, Z, H, ao.gr.g0, ao.ok, ao.ge, bd⟩
def F83.E (f : Feat) (Q : Feat → Prop) : Prop :=
 (([] : List Tag).length + f.Tags.length ≤ 268435456) ∧ F82.E f.Shape (fun r => Q (⟨f.Id, r, (([] : List Tag) ++ f.Tags)⟩ : Feat))
theorem F83.calls {f : Feat} {A2 : Option Addr} {n3 c4 : Nat} {A7 : Option Addr} {n8 c9 : Nat} {Q : Feat → Prop} (H : F83.E f Q) (hO : Ok w0 O) (hs1 : Lim f.Id) (hp5 : Sl kPt w0 (Fr O) (G A2 n3 c4) f.Shape.Pts) (bn : Sl kTag w0 (Fr O) (G A7 n8 c9) f.Tags) :
  Ret Tryz.prog 64 [.agg #[vs f.Id, vi f.Shape.Kind, G A2 n3 c4, G A7 n8 c9]] w0 (fun v w' => ∃ (r0 : Feat) (Aw0 : Option Addr) (nw0 cw0 : Nat) (Aw2 : Option Addr) (nw2 cw2 : Nat), v = .agg #[vs r0.Id, vi r0.Shape.Kind, G Aw0 nw0 cw0, G Aw2 nw2 cw2] ∧ Q r0 ∧ Gk w0 w' [bk Aw0, bk Aw2] O (Lim r0.Id ∧ Ow kPt 49 w' ([bk Aw0, bk Aw2] ++ O) (G Aw0 nw0 cw0) r0.Shape.Pts ∧ Ow kTag 93 w' ([bk Aw0, bk Aw2] ++ O) (G Aw2 nw2 cw2) r0.Tags)) := by
 unfold F83.E at H;have hc0 := Ct.init hO;refine X9 Tryz.func64 Z 13 Z [.cell 2 44] Z Z ?_;refine Xc (Xd (Yo [vs f.Id, vi f.Shape.Kind, G A2 n3 c4, G A7 n8 c9] Z fun dd ac b3 hu16 b4 b5 => ?_));have b6 := Fb.mk hc0.ok b3 b5;have bo := hc0.k0 b4;refine Yp [vs [], .int .i64 0, G none 0 0, G none 0 0] ze44 fun de aa bp hu25 bq br => ?_;have bs := bo.own bq (some aa) (Yn bp hu25);refine Xb (Xc ?_);obtain ⟨bt, H⟩ := H;refine Zi (J := (fun t ai => ∃ (r : Shape) (ad : Option Addr) (aj ak : Nat) (ae : Option Addr) (al am : Nat), Has t [(2, Pz aa)] ∧ Cw [] w0 ai [bk ae, bk ad, some aa] O fun M => Ow kPt 49 ai M (G ad aj ak) r.Pts ∧ Ow kTag 93 ai M (G ae al am) (([] : List Tag) ++ f.Tags) ∧ Bx ai aa [vs f.Id, vi r.Kind, G ad aj ak, G ae al am] ∧ Q (⟨f.Id, r, (([] : List Tag) ++ f.Tags)⟩ : Feat))) ?_ ?_
 ·refine Za 11 [some aa] RK Z fun b7 ap ab => ?_;have af := bs.k0 ap;refine Xy 0 Z RK ab (Xj fa44_0 (Ad ac 0) (Ad ac 0) Z Z) ?_;have b8 := bo.stown _ bq (X4 bp);have b9 := bs.stn ap;have ah := ((b6.st b8).st b9);refine Xy 1 Z RK ab (Y6 ag9 cR (Ad ac 0) (vs f.Id) Z (ah.cell Z) (nm_cons (af.fne 0 ah.2 Z) nm_nil)) ?_;refine Xy 2 Z RK ab (Xj fa44_1 (Ad ac 0) (Ad ac 1) Z Z) ?_;refine Xy 3 Z RK ab (Zf ag41 sz41 cR (Ad ac 1) [vi f.Shape.Kind, G A2 n3 c4] Z Z (ah.cells (off := 1) Z) (nm_cons (af.fne 0 ah.2 Z) nm_nil)) ?_;refine Xy 6 Z RK ab (Xj fa44_2 (Ad ac 0) (Ad ac 3) Z Z) ?_;refine Xy 7 Z RK ab (Y6 ag42 cR (Ad ac 3) (G A7 n8 c9) Z (ah.cell Z) (nm_cons (af.fne 0 ah.2 Z) nm_nil)) ?_;refine Y8 4 5 RK Z Z ?_ ?_
  ·refine Xu go115 (F82.calls H af.ok (hp5.st af.st)) Z ?_;rintro _ bu ⟨r, an, aq, ar, rfl, H, bc, ca, cb, cc⟩;have cd := af.owns bc ca cb;have au := Gm.tm ab bc;refine Xb ⟨au, ?_⟩;refine X5 5 RK Z ?_;refine Yb (kd := kTag) Yu cd ([] : List Tag) (cells := []) Z RF fun df bv ce cf bd hr54 av cg => ?_;have ag := Gm.tm au bd;refine Xb ⟨ag, ?_⟩;refine X5 8 RK Z ?_;refine Yg Yu av (G bv ce cf) ([] : List Tag) f.Tags Z cg (G A7 n8 c9) Z (bn.st av.st).sx 0 Z bt fun dg aw ax ay be bw az ch => ?_;have bf := Gm.tq ag be (hv_new au hr54);have dh := hv_app (L := [bk bv, bk an, some aa]) (O := O) (i := 0) ag Z (hv_new au hr54) bw az;refine Xb ⟨bf, ?_⟩;refine Xy 9 Z RK bf (Yl (.agg #[vs f.Id, vi r.Kind, G an aq ar, G aw ax ay]) RF) ?_;refine X5 10 RK Z ?_;have ci := (av.bm (((br.k0 ap).k0 bc).k0 bd) 2 0 Z Z Z be);refine Ye [vs f.Id, vi r.Kind, G an aq ar, G aw ax ay] ci Z Z sz44 Z Z fun di a0 cj => ?_;have ck := az.wr 2 Z a0;have cl := Gm.tq bf a0 (hv_mem 0 Z);refine Xb ⟨cl, ?_⟩;refine Yv RK ?_;have cm := (az.sw (av.sm (cc.so _ bd hr54) 1 0 Z Z Z be bw) 1 2 Z Z Z a0);have cn := (az.sw ch 0 2 Z Z Z a0);exact ⟨r, an, aq, ar, aw, ax, ay, (X0 Z), ck, cm, cn, cj, H⟩
  refine Yb (kd := kTag) Yu af ([] : List Tag) (cells := []) Z RF fun bu bx co cp bz hr42 bg cq => ?_;have b0 := Gm.tm ab bz;refine Xb ⟨b0, ?_⟩;refine X5 4 RK Z ?_;refine Xu go115 (F82.calls H bg.ok (hp5.st bg.st)) Z ?_;rintro _ dj ⟨r, ao, a1, a2, rfl, H, a3, cr, b1, cs⟩;have a4 := bg.owns a3 cr b1;have ag := Gm.tm b0 a3;refine Xb ⟨ag, ?_⟩;refine X5 8 RK Z ?_;have ct := (cq.sos a3 b1);refine Yg Yu a4 (G bx co cp) ([] : List Tag) f.Tags Z ct (G A7 n8 c9) Z (bn.st a4.st).sx 1 Z bt fun dk a5 a6 a7 bh b2 a8 cu => ?_;have bi := Gm.tq ag bh (hv_new ab hr42);have dl := hv_app (L := [bk ao, bk bx, some aa]) (O := O) (i := 1) ag Z (hv_new ab hr42) b2 a8;refine Xb ⟨bi, ?_⟩;refine Xy 9 Z RK bi (Yl (.agg #[vs f.Id, vi r.Kind, G ao a1 a2, G a5 a6 a7]) RF) ?_;refine X5 10 RK Z ?_;have cv := (a4.bm (((br.k0 ap).k0 bz).k0 a3) 2 1 Z Z Z bh);refine Ye [vs f.Id, vi r.Kind, G ao a1 a2, G a5 a6 a7] cv Z Z sz44 Z Z fun dm a9 cw => ?_;have bj := a8.wr 2 Z a9;have cx := Gm.tq bi a9 (hv_mem 0 Z);refine Xb ⟨cx, ?_⟩;refine Yv RK ?_;have cy := bj.perm (.swap _ _ _);have cz := (bj.sp (a8.sw (a4.sm cs 0 1 Z Z Z bh b2) 0 2 Z Z Z a9) (.swap _ _ _));have c0 := (bj.sp (a8.sw cu 1 2 Z Z Z a9) (.swap _ _ _));have c1 := cw;exact ⟨r, ao, a1, a2, a5, a6, a7, (X0 Z), cy, cz, c0, c1, H⟩
 rintro dn ai ⟨r, ad, aj, ak, ae, al, am, c2, ba, c3, c5, c6, H⟩;obtain ⟨dp, rfl⟩ := Has.ins c2;refine Xn ?_;have c7 := ba.bgv c6 2 Z;have bb := ba.drop 2 Z;have bl := bb.perm (.swap _ _ _);have c8 := bb.stp (.swap _ _ _);have da := (c7.st c8);have db := (bb.sp (ba.sd c3 1 2 Z Z Z) (.swap _ _ _));have dc := (bb.sp (ba.sd c5 0 2 Z Z Z) (.swap _ _ _));exact ⟨[.agg #[vs f.Id, vi r.Kind, G ad aj ak, G ae al am]], ⟨_, _, Z, da.1.res Z ag44 sz44, Z⟩, (⟨f.Id, r, (([] : List Tag) ++ f.Tags)⟩ : Feat), ad, aj, ak, ae, al, am, Z, H, bl.gr.g0, bl.ok, bl.ge, hs1, db, dc⟩
def F89.E (s : List Feat) (id : Str) (Q : Feat → Bool → Prop) : Prop :=
 F81.E s id (fun r => (if decide (r < 0) then Q (⟨[], (⟨0, []⟩ : Shape), []⟩ : Feat) false else ((0 : Int) ≤ r ∧ r < (s.length : Int)) ∧ F83.E (nth s r) (fun r2 => Q r2 true)))
theorem F89.calls {s : List Feat} {A1 : Option Addr} {n2 c3 : Nat} {id : Str} {Q : Feat → Bool → Prop} (H : F89.E s id Q) (hO : Ok w0 O) (hp4 : Sl kFeat w0 (Fr O) (G A1 n2 c3) s) (hs6 : Lim id) :
  Ret Tryz.prog 105 [G A1 n2 c3, vs id] w0 (fun v w' => ∃ (r0 : Feat) (r1 : Bool) (Aw0 : Option Addr) (nw0 cw0 : Nat) (Aw2 : Option Addr) (nw2 cw2 : Nat), v = .tuple #[.agg #[vs r0.Id, vi r0.Shape.Kind, G Aw0 nw0 cw0, G Aw2 nw2 cw2], vb r1] ∧ Q r0 r1 ∧ Gk w0 w' [bk Aw0, bk Aw2] O (Lim r0.Id ∧ Ow kPt 49 w' ([bk Aw0, bk Aw2] ++ O) (G Aw0 nw0 cw0) r0.Shape.Pts ∧ Ow kTag 93 w' ([bk Aw0, bk Aw2] ++ O) (G Aw2 nw2 cw2) r0.Tags)) := by
 unfold F89.E at H;have hc0 := Ct.init hO;refine X9 Tryz.func105 Z 18 Z [.cell 4 44, .tmp 5] Z Z ?_;refine Xc (Xd (Yp [vs [], .int .i64 0, G none 0 0, G none 0 0] ze44 fun w7 b8 a4 hu11 g9 az => ?_));have ak := hc0.own g9 (some b8) (Yn a4 hu11);refine Xg (vb false) Z (Xb (Xc (Xd (Xe (G A1 n2 c3) Z (Xe (vs id) Z ?_)))));refine Xu go99 (F81.calls H ak.ok (hp4.st ak.st) hs6) Z ?_;rintro _ a5 ⟨r, rfl, H, al⟩;have aa := ak.k0 al;refine Xg (vi r) Z (Xb (Xc (Xc (Xd (Xe (vi r) Z (Xa (X1 r 0 (decide (r < 0)) Z Z Z) (Xb ?_)))))));refine Xz (decide (r < 0)) Z (fun am => ?_) (fun am => ?_)
 ·have H := Xp H am;refine Xc (Xd (Xa (Yl (.agg #[vs [], vi 0, G none 0 0, G none 0 0]) RF) ?_));have a6 := (az.k0 al);refine Ye [vs [], vi 0, G none 0 0, G none 0 0] a6 Z Z sz44 Z Z fun a0 a7 a8 => ?_;have a9 := aa.wr 0 Z a7;refine Xg (vb false) Z (Xb (Xn ?_));have ba := a9.own (Gr.refl _ none) none (by simp);have bb : Ow kPt 49 a0 ([bk none, some b8] ++ O) (G none 0 0) [] := Ow.nil _ _ _ _;have ab := ba.own (Gr.refl _ none) none (by simp);have bc : Ow kTag 93 a0 ([bk none, bk none, some b8] ++ O) (G none 0 0) [] := Ow.nil _ _ _ _;have bd := a8;have be := ab.bgv bd 2 Z;have ac := ab.drop 2 Z;have an := ac.perm (.swap _ _ _);have bf := ac.stp (.swap _ _ _);have bg := (be.st bf);have bh := (ac.sp (ab.sd (bb.so none (Gr.refl _ none) (by simp)) 1 2 Z Z Z) (.swap _ _ _));have bi := (ac.sp (ab.sd bc 0 2 Z Z Z) (.swap _ _ _));exact ⟨[.agg #[vs [], vi 0, G none 0 0, G none 0 0], vb false], ⟨_, _, Z, bg.1.res Z ag44 sz44, ⟨_, Z, Z⟩⟩, (⟨([] : Str), (⟨0, ([] : List Pt)⟩ : Shape), ([] : List Tag)⟩ : Feat), false, none, 0, 0, none, 0, 0, Z, H, an.gr.g0, an.ok, an.ge, RD, bh, bi⟩
 have H := Xq H am;refine Xx (Xc (Xd (Xe (G A1 n2 c3) Z (Xe (vi r) Z ?_))));obtain ⟨a1, H⟩ := H;obtain ⟨a2, b1, bj, b2, bl, bm⟩ := (hp4.st aa.st).get default RD r a1;obtain ⟨ao, ap, aq, ar, au, av, rfl, bn, bo, bp⟩ := kFeat.op bl;refine Xa (X3 u33_ Y1 A1 a2 n2 c3 (hp4.st aa.st).len r Z bj Z a1) (Xa (Xv ag44 sz44 cL (a2.add (r.toNat * 4)) [vs ((nth s r).Id), vi ((nth s r).Shape.Kind), G ao ap aq, G ar au av] Z Z bm) ?_);refine Xu go64 (F83.calls H aa.ok bn bo bp) Z ?_;rintro _ b3 ⟨r2, ad, ae, af, ag, ah, ai, rfl, H, a3, bq, br, bs, bt, bu⟩;have aw := aa.owns a3 bq br;have bv := ((az.k0 al).k0 a3);refine Ye [vs r2.Id, vi r2.Shape.Kind, G ad ae af, G ag ah ai] bv Z Z sz44 Z Z fun b4 ax bw => ?_;have aj := aw.wr 2 Z ax;refine Xg (vb true) Z (Xb (Xn ?_));have bx := aj.bgv bw 2 Z;have ay := aj.drop 2 Z;have bz := (aj.sd (aw.sw bt 0 2 Z Z Z ax) 0 2 Z Z Z);have b0 := (aj.sd (aw.sw bu 1 2 Z Z Z ax) 1 2 Z Z Z);exact ⟨[.agg #[vs r2.Id, vi r2.Shape.Kind, G ad ae af, G ag ah ai], vb true], ⟨_, _, Z, bx.1.res Z ag44 sz44, ⟨_, Z, Z⟩⟩, r2, true, ad, ae, af, ag, ah, ai, Z, H, ay.gr.g0, ay.ok, ay.ge, bs, bz, b0⟩
def F90.E (a b : List Pt) (Q : Bool → Prop) : Prop :=
 (if (a.length : Int) != (b.length : Int) then Q false else (∃ (I32 : Int → Prop) (mu33 : Int → Nat), I32 0 ∧ ∀ (i2 : Int), I32 i2 → (if decide (i2 < (a.length : Int)) then ((0 : Int) ≤ i2 ∧ i2 < (a.length : Int)) ∧ ((0 : Int) ≤ i2 ∧ i2 < (b.length : Int)) ∧ (if !(eqPt (nth a i2) (nth b i2)) then Q false else (-9223372036854775808 ≤ i2) ∧ I32 (i2 + 1) ∧ mu33 (i2 + 1) < mu33 i2) else Q true)))
theorem F90.calls {a : List Pt} {A1 : Option Addr} {n2 c3 : Nat} {b : List Pt} {A6 : Option Addr} {n7 c8 : Nat} {Q : Bool → Prop} (H : F90.E a b Q) (hO : Ok w0 O) (hp4 : Sl kPt w0 (Fr O) (G A1 n2 c3) a) (hp9 : Sl kPt w0 (Fr O) (G A6 n7 c8) b) :
  Ret Tryz.prog 163 [G A1 n2 c3, G A6 n7 c8] w0 (fun v w' => ∃ (r0 : Bool), v = vb r0 ∧ Q r0 ∧ Gr w0 w' none) := by
 unfold F90.E at H;have hc0 := Ct.init hO;refine X9 Tryz.func163 Z 26 Z [.tmp 4] Z Z ?_;refine Xc (Xd (Xg (vb false) Z (Xb (Xc (Xc (Xd (Xe (G A1 n2 c3) Z ?_)))))));have a5 := hp4.le;refine Xa (Yc u39_ A1 n2 c3 hp4.len Z) (Xe (G A6 n7 c8) Z ?_);have a6 := hp9.le;refine Xa (Yc u39_ A6 n7 c8 hp9.len Z) (Xa (X1 (a.length : Int) (b.length : Int) ((a.length : Int) != (b.length : Int)) Z Z Z) (Xb ?_));refine Xz ((a.length : Int) != (b.length : Int)) Z (fun ad => ?_) (fun ad => ?_)
 ·have H := Xp H ad;exact Xc (Xd (Xg (vb false) Z (Xb (Xn ⟨[vb false], ⟨_, Z, Z⟩, false, Z, H, hc0.gr.g0⟩))))
 have H := Xq H ad;refine Xx (Xc (Xc (Xd (Xg (vi 0) Z (Xb (X8 ?_))))));obtain ⟨ap, aq, ae, H⟩ := H;refine Yj (α := Int) (fun (sv__ : Int) t aa => match sv__ with | i2 => ap i2 ∧ Has t [(0, G A1 n2 c3), (1, G A6 n7 c8), (5, vi i2)] ∧ Cw [] w0 aa [] O fun M => Sl kPt aa (Fr M) (G A1 n2 c3) a ∧ Sl kPt aa (Fr M) (G A6 n7 c8) b) (fun (sv__ : Int) => match sv__ with | i2 => aq i2) 0 ⟨ae, (X0 Z), hc0, hp4, hp9⟩ ?_;rintro i2 _ aa ⟨ae, ar, af, ab, ag⟩;obtain ⟨a7, rfl⟩ := Has.ins ar;have H := H i2 ae;refine Xc (Xc (Xd (Xe (vi i2) Z (Xe (G A1 n2 c3) Z ?_))));have au := ab.le;refine Xa (Yc u39_ A1 n2 c3 ab.len Z) (Xa (X1 i2 (a.length : Int) (decide (i2 < (a.length : Int))) Z Z Z) (Xb ?_));refine Xz (decide (i2 < (a.length : Int))) Z (fun ac => ?_) (fun ac => ?_)
 ·have H := Xp H ac;refine Xx (Xc (X8 (Xc (Ys (fun x => Gr aa x none) RK RK (Gr.drew _) ?_))));refine Xs (G A1 n2 c3) Z (Xs (vi i2) Z ?_);obtain ⟨ai, H⟩ := H;obtain ⟨aj, a8, av, a9, aw, ax⟩ := ab.get default RD i2 ai;obtain rfl := kPt.op aw;refine Xf (X3 u39_ Yx A1 aj n2 c3 ab.len i2 Z av Z ai) (Xf (Xv ag49 sz49 cQ (aj.add (i2.toNat * 2)) [vi ((nth a i2).X), vi ((nth a i2).Y)] Z Z ax) (Xs (G A6 n7 c8) Z (Xs (vi i2) Z ?_)));obtain ⟨ak, H⟩ := H;obtain ⟨al, ba, ay, bb, az, a0⟩ := ag.get default RD i2 ak;obtain rfl := kPt.op az;refine Xf (X3 u39_ Yx A6 al n7 c8 ag.len i2 Z ay Z ak) (Xf (Xv ag49 sz49 cQ (al.add (i2.toNat * 2)) [vi ((nth b i2).X), vi ((nth b i2).Y)] Z Z a0) (Xf (Ze _ _ (eqPt (nth a i2) (nth b i2)) (qt49 (nth a i2) (nth b i2)) Z Z) (Ya fun bc am => ?_)));have an := af.k0 am;refine Xz (!(eqPt (nth a i2) (nth b i2))) Z (fun ah => ?_) (fun ah => ?_)
  ·have H := Xp H ah;exact Xc (Xd (Xg (vb false) Z (Xb (Xn ⟨[vb false], ⟨_, Z, Z⟩, false, Z, H, an.gr.g0⟩))))
  have H := Xq H ah;refine Xx (Xd (Xe (vi i2) Z ?_));obtain ⟨a1, H⟩ := H;have a2 : I64 (i2 + 1) := i64_succ (of_decide_eq_true ac) au a1;refine Xa (Yd i2 1 Z Z a2) (Xg (vi (i2 + 1)) Z (Xb ?_));obtain ⟨a3, a4⟩ := H;have ao := af.stn am;exact ⟨i2 + 1, a4, a3, (X0 Z), an, (ab.st ao), (ag.st ao)⟩
 have H := Xq H ac;refine Yh (xin_hit ?_);exact Xc (Xd (Xg (vb true) Z (Xb (Xn ⟨[vb true], ⟨_, Z, Z⟩, true, Z, H, af.gr.g0⟩))))
def F38.E (a b : Shape) (Q : Bool → Prop) : Prop :=
 (if a.Kind == b.Kind then F90.E a.Pts b.Pts (fun r => Q r) else Q false)
theorem F38.calls {a : Shape} {A1 : Option Addr} {n2 c3 : Nat} {b : Shape} {A6 : Option Addr} {n7 c8 : Nat} {Q : Bool → Prop} (H : F38.E a b Q) (hO : Ok w0 O) (hp4 : Sl kPt w0 (Fr O) (G A1 n2 c3) a.Pts) (hp9 : Sl kPt w0 (Fr O) (G A6 n7 c8) b.Pts) :
  Ret Tryz.prog 131 [.agg #[vi a.Kind, G A1 n2 c3], .agg #[vi b.Kind, G A6 n7 c8]] w0 (fun v w' => ∃ (r0 : Bool), v = vb r0 ∧ Q r0 ∧ Gr w0 w' none) := by
 unfold F38.E at H;have hc0 := Ct.init hO;refine X9 Tryz.func131 Z 17 Z [.tmp 4] Z Z ?_;refine Xc (Xd (Yo [vi a.Kind, G A1 n2 c3] Z fun au ab ai hu15 aj ak => ?_));have al := Fb.mk hc0.ok ai ak;have ae := hc0.k0 aj;refine Yo [vi b.Kind, G A6 n7 c8] Z fun am ac an hu24 af ao => ?_;have ag := Fb.mk ae.ok an ao;have ad := ae.k0 af;refine Xg (vb false) Z (Xb (Xc (Xd (Xa (Xj fa41_0 (Ad ab 0) (Ad ab 0) Z Z) ?_))));have ap := ae.stn af;have ah := (al.st ap);refine Xa (Xo ag3 cL (Ad ab 0) (vi a.Kind) Z (ah.cell Z)) (Xa (Xj fa41_0 (Ad ac 0) (Ad ac 0) Z Z) (Xa (Xo ag3 cL (Ad ac 0) (vi b.Kind) Z (ag.cell Z)) (Xa (X1 a.Kind b.Kind (a.Kind == b.Kind) Z Z Z) (Xe (vb (a.Kind == b.Kind)) Z ?_))));rcases X2 (a.Kind == b.Kind) with aa | aa
 ·have H := Xp H aa;refine Xh aa Z (Xa (Xj fa41_1 (Ad ab 0) (Ad ab 1) Z Z) (Xh aa Z (Xa (Xo ag39 cL (Ad ab 1) (G A1 n2 c3) Z (ah.cell Z)) (Xh aa Z (Xa (Xj fa41_1 (Ad ac 0) (Ad ac 1) Z Z) (Xh aa Z (Xa (Xo ag39 cL (Ad ac 1) (G A6 n7 c8) Z (ag.cell Z)) (Xh aa Z ?_))))))));refine Xu go163 (F90.calls H ad.ok (hp4.st ad.st) (hp9.st ad.st)) Z ?_;rintro _ av ⟨r, rfl, H, aq⟩;have ar := ad.k0 aq;exact Xa (Xk true (vb r) aa Z) (Xg (vb r) Z (Xb (Xn ⟨[vb r], ⟨_, Z, Z⟩, r, Z, H, ar.gr.g0⟩)))
 have H := Xq H aa;refine Xi aa Z (Xi aa Z (Xi aa Z (Xi aa Z (Xi aa Z (Xa (Xk false (vb false) aa Z) (Xg (vb false) Z (Xb (Xn ?_))))))));exact ⟨[vb false], ⟨_, Z, Z⟩, false, Z, H, ad.gr.g0⟩
def F91.E (a b : List Tag) (Q : Bool → Prop) : Prop :=
 (if (a.length : Int) != (b.length : Int) then Q false else (∃ (I32 : Int → Prop) (mu33 : Int → Nat), I32 0 ∧ ∀ (i2 : Int), I32 i2 → (if decide (i2 < (a.length : Int)) then ((0 : Int) ≤ i2 ∧ i2 < (a.length : Int)) ∧ ((0 : Int) ≤ i2 ∧ i2 < (b.length : Int)) ∧ (if !(eqTag (nth a i2) (nth b i2)) then Q false else (-9223372036854775808 ≤ i2) ∧ I32 (i2 + 1) ∧ mu33 (i2 + 1) < mu33 i2) else Q true)))
theorem F91.calls {a : List Tag} {A1 : Option Addr} {n2 c3 : Nat} {b : List Tag} {A6 : Option Addr} {n7 c8 : Nat} {Q : Bool → Prop} (H : F91.E a b Q) (hO : Ok w0 O) (hp4 : Sl kTag w0 (Fr O) (G A1 n2 c3) a) (hp9 : Sl kTag w0 (Fr O) (G A6 n7 c8) b) :
  Ret Tryz.prog 132 [G A1 n2 c3, G A6 n7 c8] w0 (fun v w' => ∃ (r0 : Bool), v = vb r0 ∧ Q r0 ∧ Gr w0 w' none) := by
 unfold F91.E at H;have hc0 := Ct.init hO;refine X9 Tryz.func132 Z 26 Z [.tmp 4] Z Z ?_;refine Xc (Xd (Xg (vb false) Z (Xb (Xc (Xc (Xd (Xe (G A1 n2 c3) Z ?_)))))));have a5 := hp4.le;refine Xa (Yc u42_ A1 n2 c3 hp4.len Z) (Xe (G A6 n7 c8) Z ?_);have a6 := hp9.le;refine Xa (Yc u42_ A6 n7 c8 hp9.len Z) (Xa (X1 (a.length : Int) (b.length : Int) ((a.length : Int) != (b.length : Int)) Z Z Z) (Xb ?_));refine Xz ((a.length : Int) != (b.length : Int)) Z (fun ad => ?_) (fun ad => ?_)
 ·have H := Xp H ad;exact Xc (Xd (Xg (vb false) Z (Xb (Xn ⟨[vb false], ⟨_, Z, Z⟩, false, Z, H, hc0.gr.g0⟩))))
 have H := Xq H ad;refine Xx (Xc (Xc (Xd (Xg (vi 0) Z (Xb (X8 ?_))))));obtain ⟨ap, aq, ae, H⟩ := H;refine Yj (α := Int) (fun (sv__ : Int) t aa => match sv__ with | i2 => ap i2 ∧ Has t [(0, G A1 n2 c3), (1, G A6 n7 c8), (5, vi i2)] ∧ Cw [] w0 aa [] O fun M => Sl kTag aa (Fr M) (G A1 n2 c3) a ∧ Sl kTag aa (Fr M) (G A6 n7 c8) b) (fun (sv__ : Int) => match sv__ with | i2 => aq i2) 0 ⟨ae, (X0 Z), hc0, hp4, hp9⟩ ?_;rintro i2 _ aa ⟨ae, ar, af, ab, ag⟩;obtain ⟨a7, rfl⟩ := Has.ins ar;have H := H i2 ae;refine Xc (Xc (Xd (Xe (vi i2) Z (Xe (G A1 n2 c3) Z ?_))));have au := ab.le;refine Xa (Yc u42_ A1 n2 c3 ab.len Z) (Xa (X1 i2 (a.length : Int) (decide (i2 < (a.length : Int))) Z Z Z) (Xb ?_));refine Xz (decide (i2 < (a.length : Int))) Z (fun ac => ?_) (fun ac => ?_)
 ·have H := Xp H ac;refine Xx (Xc (X8 (Xc (Ys (fun x => Gr aa x none) RK RK (Gr.drew _) ?_))));refine Xs (G A1 n2 c3) Z (Xs (vi i2) Z ?_);obtain ⟨ai, H⟩ := H;obtain ⟨aj, a8, av, a9, aw, ax⟩ := ab.get default RD i2 ai;obtain ⟨rfl, ba, bb⟩ := kTag.op aw;refine Xf (X3 u42_ Y5 A1 aj n2 c3 ab.len i2 Z av Z ai) (Xf (Xv ag93 sz93 cQ (aj.add (i2.toNat * 2)) [vs ((nth a i2).Key), vs ((nth a i2).Val)] Z Z ax) (Xs (G A6 n7 c8) Z (Xs (vi i2) Z ?_)));obtain ⟨ak, H⟩ := H;obtain ⟨al, bc, ay, bd, az, a0⟩ := ag.get default RD i2 ak;obtain ⟨rfl, be, bf⟩ := kTag.op az;refine Xf (X3 u42_ Y5 A6 al n7 c8 ag.len i2 Z ay Z ak) (Xf (Xv ag93 sz93 cQ (al.add (i2.toNat * 2)) [vs ((nth b i2).Key), vs ((nth b i2).Val)] Z Z a0) (Xf (Ze _ _ (eqTag (nth a i2) (nth b i2)) (qt93 (nth a i2) (nth b i2)) Z Z) (Ya fun bg am => ?_)));have an := af.k0 am;refine Xz (!(eqTag (nth a i2) (nth b i2))) Z (fun ah => ?_) (fun ah => ?_)
  ·have H := Xp H ah;exact Xc (Xd (Xg (vb false) Z (Xb (Xn ⟨[vb false], ⟨_, Z, Z⟩, false, Z, H, an.gr.g0⟩))))
  have H := Xq H ah;refine Xx (Xd (Xe (vi i2) Z ?_));obtain ⟨a1, H⟩ := H;have a2 : I64 (i2 + 1) := i64_succ (of_decide_eq_true ac) au a1;refine Xa (Yd i2 1 Z Z a2) (Xg (vi (i2 + 1)) Z (Xb ?_));obtain ⟨a3, a4⟩ := H;have ao := af.stn am;exact ⟨i2 + 1, a4, a3, (X0 Z), an, (ab.st ao), (ag.st ao)⟩
 have H := Xq H ac;refine Yh (xin_hit ?_);exact Xc (Xd (Xg (vb true) Z (Xb (Xn ⟨[vb true], ⟨_, Z, Z⟩, true, Z, H, af.gr.g0⟩))))
def F45.E (a b : Feat) (Q : Bool → Prop) : Prop :=
 (if a.Id == b.Id then F38.E a.Shape b.Shape (fun r => (if r then F91.E a.Tags b.Tags (fun r2 => Q r2) else Q false)) else Q false)
theorem F45.calls {a : Feat} {A2 : Option Addr} {n3 c4 : Nat} {A7 : Option Addr} {n8 c9 : Nat} {b : Feat} {ae : Option Addr} {af ag : Nat} {ah : Option Addr} {ai aj : Nat} {Q : Bool → Prop} (H : F45.E a b Q) (hO : Ok w0 O) (hs1 : Lim a.Id) (hp5 : Sl kPt w0 (Fr O) (G A2 n3 c4) a.Shape.Pts) (au : Sl kTag w0 (Fr O) (G A7 n8 c9) a.Tags) (ba : Lim b.Id) (av : Sl kPt w0 (Fr O) (G ae af ag) b.Shape.Pts) (aw : Sl kTag w0 (Fr O) (G ah ai aj) b.Tags) :
  Ret Tryz.prog 94 [.agg #[vs a.Id, vi a.Shape.Kind, G A2 n3 c4, G A7 n8 c9], .agg #[vs b.Id, vi b.Shape.Kind, G ae af ag, G ah ai aj]] w0 (fun v w' => ∃ (r0 : Bool), v = vb r0 ∧ Q r0 ∧ Gr w0 w' none) := by
 unfold F45.E at H;have hc0 := Ct.init hO;refine X9 Tryz.func94 Z 24 Z [.tmp 4] Z Z ?_;refine Xc (Xd (Yo [vs a.Id, vi a.Shape.Kind, G A2 n3 c4, G A7 n8 c9] Z fun bb ac ax hu27 ay az => ?_));have a0 := Fb.mk hc0.ok ax az;have am := hc0.k0 ay;refine Yo [vs b.Id, vi b.Shape.Kind, G ae af ag, G ah ai aj] Z fun a1 ad a2 hu36 ap a3 => ?_;have an := Fb.mk am.ok a2 a3;have ak := am.k0 ap;refine Xg (vb false) Z (Xb (Xc (Xd (Xa (Xj fa44_0 (Ad ac 0) (Ad ac 0) Z Z) ?_))));have a4 := am.stn ap;have ao := (a0.st a4);refine Xa (Xo ag9 cL (Ad ac 0) (vs a.Id) Z (ao.cell Z)) (Xa (Xj fa44_0 (Ad ad 0) (Ad ad 0) Z Z) (Xa (Xo ag9 cL (Ad ad 0) (vs b.Id) Z (an.cell Z)) (Xa (Yi a.Id b.Id (a.Id == b.Id) Z Z Z) (Xe (vb (a.Id == b.Id)) Z ?_))));rcases X2 (a.Id == b.Id) with aa | aa
 ·have H := Xp H aa;refine Xh aa Z (Xa (Xj fa44_1 (Ad ac 0) (Ad ac 1) Z Z) (Xh aa Z (Xa (Xv ag41 sz41 cL (Ad ac 1) [vi a.Shape.Kind, G A2 n3 c4] Z Z (ao.cells (off := 1) Z)) (Xh aa Z (Xa (Xj fa44_1 (Ad ad 0) (Ad ad 1) Z Z) (Xh aa Z (Xa (Xv ag41 sz41 cL (Ad ad 1) [vi b.Shape.Kind, G ae af ag] Z Z (an.cells (off := 1) Z)) (Xh aa Z ?_))))))));refine Xu go131 (F38.calls H ak.ok (hp5.st ak.st) (av.st ak.st)) Z ?_;rintro _ a5 ⟨r, rfl, H, aq⟩;have al := ak.k0 aq;refine Xa (Xk true (vb r) aa Z) (Xe (vb r) Z ?_);rcases X2 r with ab | ab
  ·have H := Xp H ab;refine Xh ab Z (Xa (Xj fa44_2 (Ad ac 0) (Ad ac 3) Z Z) (Xh ab Z ?_));have ar := ak.stn aq;have a6 := (ao.st ar);refine Xa (Xo ag42 cL (Ad ac 3) (G A7 n8 c9) Z (a6.cell Z)) (Xh ab Z (Xa (Xj fa44_2 (Ad ad 0) (Ad ad 3) Z Z) (Xh ab Z ?_)));have a7 := (an.st ar);refine Xa (Xo ag42 cL (Ad ad 3) (G ah ai aj) Z (a7.cell Z)) (Xh ab Z ?_);refine Xu go132 (F91.calls H al.ok (au.st al.st) (aw.st al.st)) Z ?_;rintro _ bc ⟨r2, rfl, H, a8⟩;have a9 := al.k0 a8;exact Xa (Xk true (vb r2) ab Z) (Xg (vb r2) Z (Xb (Xn ⟨[vb r2], ⟨_, Z, Z⟩, r2, Z, H, a9.gr.g0⟩)))
  have H := Xq H ab;refine Xi ab Z (Xi ab Z (Xi ab Z (Xi ab Z (Xi ab Z (Xa (Xk false (vb false) ab Z) (Xg (vb false) Z (Xb (Xn ?_))))))));exact ⟨[vb false], ⟨_, Z, Z⟩, false, Z, H, al.gr.g0⟩
 have H := Xq H aa;refine Xi aa Z (Xi aa Z (Xi aa Z (Xi aa Z (Xi aa Z (Xa (Xk false (vb false) aa Z) (Xe (vb false) Z (X6 (dj := 17) Z Z (.inl Z) (X6 (dj := 17) Z Z (.inl Z) ?_))))))));exact X6 (dj := 17) Z Z (.inl Z) (X6 (dj := 17) Z Z (.inl Z) (X6 (dj := 17) Z Z (.inl Z) (Xa (Xk false (vb false) Z Z) (Xg (vb false) Z (Xb (Xn ⟨[vb false], ⟨_, Z, Z⟩, false, Z, H, ak.gr.g0⟩))))))
def F139.E (a b : List Feat) (Q : List Change → Prop) : Prop :=
 F129.E a b (fun r => (∃ (I67 : (List Change) → Int → Prop) (mu68 : (List Change) → Int → Nat), I67 [] 0 ∧ ∀ (xs2 : List Change) (i2 : Int), I67 xs2 i2 → (if decide (i2 < (r.length : Int)) then ((0 : Int) ≤ i2 ∧ i2 < (r.length : Int)) ∧ F89.E a (nth r i2) (fun r2 r3 => ((0 : Int) ≤ i2 ∧ i2 < (r.length : Int)) ∧ F89.E b (nth r i2) (fun r4 r5 => (if r3 != r5 then ((0 : Int) ≤ i2 ∧ i2 < (r.length : Int)) ∧ (xs2.length + ([(⟨(nth r i2), r3, r2, r5, r4⟩ : Change)] : List Change).length ≤ 268435456) ∧ (-9223372036854775808 ≤ i2) ∧ I67 (xs2 ++ ([(⟨(nth r i2), r3, r2, r5, r4⟩ : Change)] : List Change)) (i2 + 1) ∧ mu68 (xs2 ++ ([(⟨(nth r i2), r3, r2, r5, r4⟩ : Change)] : List Change)) (i2 + 1) < mu68 xs2 i2 else F45.E r2 r4 (fun r6 => (if !r6 then ((0 : Int) ≤ i2 ∧ i2 < (r.length : Int)) ∧ (xs2.length + ([(⟨(nth r i2), r3, r2, r5, r4⟩ : Change)] : List Change).length ≤ 268435456) ∧ (-9223372036854775808 ≤ i2) ∧ I67 (xs2 ++ ([(⟨(nth r i2), r3, r2, r5, r4⟩ : Change)] : List Change)) (i2 + 1) ∧ mu68 (xs2 ++ ([(⟨(nth r i2), r3, r2, r5, r4⟩ : Change)] : List Change)) (i2 + 1) < mu68 xs2 i2 else (-9223372036854775808 ≤ i2) ∧ I67 xs2 (i2 + 1) ∧ mu68 xs2 (i2 + 1) < mu68 xs2 i2))))) else Q xs2)))
theorem F139.calls {a : List Feat} {A1 : Option Addr} {n2 c3 : Nat} {b : List Feat} {A6 : Option Addr} {n7 c8 : Nat} {Q : List Change → Prop} (H : F139.E a b Q) (hO : Ok w0 O) (hp4 : Sl kFeat w0 (Fr O) (G A1 n2 c3) a) (hp9 : Sl kFeat w0 (Fr O) (G A6 n7 c8) b) :
  Ret Tryz.prog 50 [G A1 n2 c3, G A6 n7 c8] w0 (fun v w' => ∃ (r0 : List Change) (Aw0 : Option Addr) (nw0 cw0 : Nat), v = G Aw0 nw0 cw0 ∧ Q r0 ∧ Gk w0 w' [bk Aw0] O (Ow kChange 62 w' ([bk Aw0] ++ O) (G Aw0 nw0 cw0) r0)) := by
 unfold F139.E at H;have hc0 := Ct.init hO;refine X9 Tryz.func50 Z 62 Z [.tmp 4] Z Z ?_;refine Xc (Xd (Xg (G none 0 0) Z (Xb (Xc (Xd (Yb (kd := kChange) Zc hc0 ([] : List Change) (cells := []) Z RF fun eo da db dc hr hr16 b3 ep => ?_))))));refine Xg (G da db dc) Z (Xb (Xc (Xd (Xe (G A1 n2 c3) Z (Xe (G A6 n7 c8) Z ?_)))));refine Xu go104 (F129.calls H b3.ok (hp4.st b3.st) (hp9.st b3.st)) Z ?_;rintro _ hs ⟨r, aa, ay, az, rfl, H, dd, eq, de, er⟩;have co := b3.owns dd eq de;refine Xg (G aa ay az) Z (Xb (Xc (Xc (Xd (Xg (vi 0) Z (Xb (X8 ?_)))))));obtain ⟨es, et, cp, H⟩ := H;have eu := (ep.sos dd de);refine Yj (α := (List Change) × (Option Addr) × Nat × Nat × Int) (fun (xs2, ab, a2, a3, i2) t bf => es xs2 i2 ∧ Has t [(0, G A1 n2 c3), (1, G A6 n7 c8), (5, G ab a2 a3), (6, G aa ay az), (7, vi i2)] ∧ Cw [] w0 bf [bk aa, bk ab] O fun M => Sl kFeat bf (Fr M) (G A1 n2 c3) a ∧ Sl kFeat bf (Fr M) (G A6 n7 c8) b ∧ Ow kChange 62 bf M (G ab a2 a3) xs2 ∧ Ow Kd.str 9 bf M (G aa ay az) r) (fun (xs2, _, _, _, i2) => et xs2 i2) (([] : List Change), da, db, dc, 0) ⟨cp, (X0 Z), co, (hp4.st co.st), (hp9.st co.st), eu, er⟩ ?_;rintro ⟨xs2, ab, a2, a3, i2⟩ _ bf ⟨cp, ev, bp, b4, ew, b5, bq⟩;obtain ⟨ht, rfl⟩ := Has.ins ev;have H := H xs2 i2 cp;refine Xc (Xc (Xd (Xe (vi i2) Z (Xe (G aa ay az) Z ?_))));have cq := bq.le;refine Xa (Yc u50_ aa ay az bq.len Z) (Xa (X1 i2 (r.length : Int) (decide (i2 < (r.length : Int))) Z Z Z) (Xb ?_));refine Xz (decide (i2 < (r.length : Int))) Z (fun bi => ?_) (fun bi => ?_)
 ·have H := Xp H bi;refine Xx (Xc (X8 (Xc (Xd (Xe (G A1 n2 c3) Z (Xe (G aa ay az) Z (Xe (vi i2) Z ?_)))))));obtain ⟨df, H⟩ := H;obtain ⟨dg, hu, ex, ey, ez⟩ := bq.get default RD i2 df;obtain ⟨rfl, e0⟩ := Kd.str.op ey;refine Xa (X3 u50_ Zg aa dg ay az bq.len i2 Z ex Z df) (Xa (Xo ag9 cL (dg.add (i2.toNat * 1)) (vs (nth r i2)) Z (ez 0 _ Z)) ?_);refine Xu go105 (F89.calls H bp.ok b4 e0) Z ?_;rintro _ hv ⟨r2, r3, ah, al, am, ai, an, ao, rfl, H, bj, e1, bl, cr, cs, ct⟩;have dh := bp.owns bj e1 bl;refine Xe (.tuple #[.agg #[vs r2.Id, vi r2.Shape.Kind, G ah al am, G ai an ao], vb r3]) Z (Xa (Y7 [.agg #[vs r2.Id, vi r2.Shape.Kind, G ah al am, G ai an ao], vb r3] 0 (.agg #[vs r2.Id, vi r2.Shape.Kind, G ah al am, G ai an ao]) Z Z) (Xa (Y7 [.agg #[vs r2.Id, vi r2.Shape.Kind, G ah al am, G ai an ao], vb r3] 1 (vb r3) Z Z) (Yp [vs [], .int .i64 0, G none 0 0, G none 0 0] ze44 fun hw av a4 hu105 a5 e2 => ?_)));have a6 := dh.own a5 (some av) (Yn a4 hu105);refine Ye [vs r2.Id, vi r2.Shape.Kind, G ah al am, G ai an ao] e2 Z Z sz44 Z Z fun e3 a7 di => ?_;have br := a6.wr 0 Z a7;refine Xg (vb r3) Z (Xb (Xc (Xd (Xe (G A6 n7 c8) Z (Xe (G aa ay az) Z (Xe (vi i2) Z ?_))))));obtain ⟨dj, H⟩ := H;have bs := (a6.sw ((bq.sos bj bl).so _ a5 (X4 a4)) 3 0 Z Z Z a7);obtain ⟨dk, hx, e4, e5, e6⟩ := bs.get default RD i2 dj;obtain ⟨rfl, e7⟩ := Kd.str.op e5;refine Xa (X3 u50_ Zg aa dk ay az bs.len i2 Z e4 Z dj) (Xa (Xo ag9 cL (dk.add (i2.toNat * 1)) (vs (nth r i2)) Z (e6 0 _ Z)) ?_);have b6 := bp.stos bj bl;have b7 := dh.stown _ a5 (X4 a4);have b8 := a6.stw 0 Z a7;have b9 := (((ew.st b6).st b7).st b8);refine Xu go105 (F89.calls H br.ok b9 e7) Z ?_;rintro _ hy ⟨r4, r5, aj, ap, aq, af, ar, au, rfl, H, ak, e8, aw, cu, cv, cw⟩;have ca := br.owns ak e8 aw;refine Xe (.tuple #[.agg #[vs r4.Id, vi r4.Shape.Kind, G aj ap aq, G af ar au], vb r5]) Z (Xa (Y7 [.agg #[vs r4.Id, vi r4.Shape.Kind, G aj ap aq, G af ar au], vb r5] 0 (.agg #[vs r4.Id, vi r4.Shape.Kind, G aj ap aq, G af ar au]) Z Z) (Xa (Y7 [.agg #[vs r4.Id, vi r4.Shape.Kind, G aj ap aq, G af ar au], vb r5] 1 (vb r5) Z Z) (Yp [vs [], .int .i64 0, G none 0 0, G none 0 0] ze44 fun hz ax ag hu147 ac e9 => ?_)));have ad := ca.own ac (some ax) (Yn ag hu147);refine Ye [vs r4.Id, vi r4.Shape.Kind, G aj ap aq, G af ar au] e9 Z Z sz44 Z Z fun dl ae cx => ?_;have bc := ad.wr 0 Z ae;refine Xg (vb r5) Z (Xb (Xc (Xd (Xe (vb r3) Z (Xe (vb r5) Z (Xa (Zp u4_ r3 r5 (r3 != r5) Z Z Z) (Xe (vb (r3 != r5)) Z ?_)))))));rcases X2 (r3 != r5) with a0 | a0
  ·have H := Xp H a0;refine Xi a0 Z (Xi a0 Z (Xi a0 Z (Xi a0 Z (Xa (Xk true (vb true) a0 Z) (Xb (Yr (b := true) Z Z ?_))))));refine Za 13 [bk ab] RK Z fun fa bd a8 => ?_;have a9 := bc.k0 bd;refine Xy 0 Z RK a8 (Y2 (G ab a2 a3) Z) ?_;refine Xy 1 Z RK a8 (Y2 (G aa ay az) Z) ?_;refine Xy 2 Z RK a8 (Y2 (vi i2) Z) ?_;obtain ⟨dm, H⟩ := H;have cy := ((ad.sw ((bs.sos ak aw).so _ ac (X4 ag)) 6 0 Z Z Z ae).sn bd);obtain ⟨dn, h0, dp, fb, fc⟩ := cy.get default RD i2 dm;obtain ⟨rfl, fd⟩ := Kd.str.op fb;refine Xy 3 Z RK a8 (X3 u50_ Zg aa dn ay az cy.len i2 Z dp Z dm) ?_;refine Xy 4 Z RK a8 (Y6 ag9 cR (dn.add (i2.toNat * 1)) (vs (nth r i2)) Z (fc 0 _ Z) (nm_cons (by simp only [add_block]; exact (ow_ne a9 (j := 6) (i := 7) Z dp Z RD)) nm_nil)) ?_;refine Xy 5 Z RK a8 (Y2 (vb r3) Z) ?_;have fe := ((ad.bm ((di.k0 ak).k0 ac) 3 0 Z Z Z ae).k0 bd);refine Xy 6 Z RK a8 (Zf ag44 sz44 cR (Ad av 0) [vs r2.Id, vi r2.Shape.Kind, G ah al am, G ai an ao] Z Z (fe.cells (off := 0) Z) (nm_cons (bx_ne a9 (j := 3) (i := 7) Z Z RD) nm_nil)) ?_;refine Xy 7 Z RK a8 (Y2 (vb r5) Z) ?_;have ff := (cx.k0 bd);refine Xy 8 Z RK a8 (Zf ag44 sz44 cR (Ad ax 0) [vs r4.Id, vi r4.Shape.Kind, G aj ap aq, G af ar au] Z Z (ff.cells (off := 0) Z) (nm_cons (bx_ne a9 (j := 0) (i := 7) Z Z RD) nm_nil)) ?_;refine Xy 9 Z RK a8 (Yl (.agg #[vs (nth r i2), vb r3, vs r2.Id, vi r2.Shape.Kind, G ah al am, G ai an ao, vb r5, vs r4.Id, vi r4.Shape.Kind, G aj ap aq, G af ar au]) RF) ?_;refine X5 10 RK Z ?_;have fg := ((ad.sw (((a6.sw (cs.so _ a5 (X4 a4)) 1 0 Z Z Z a7).sos ak aw).so _ ac (X4 ag)) 4 0 Z Z Z ae).sn bd);have fh := a9.gv fg 4 Z;have bg := a9.drop 4 Z;have fi := (a9.sd ((ad.sw (((a6.sw (ct.so _ a5 (X4 a4)) 2 0 Z Z Z a7).sos ak aw).so _ ac (X4 ag)) 5 0 Z Z Z ae).sn bd) 5 4 Z Z Z);have fj := bg.gv fi 4 Z;have bn := bg.drop 4 Z;have fk := (bg.sd (a9.sd ((ad.sw (cv.so _ ac (X4 ag)) 1 0 Z Z Z ae).sn bd) 1 4 Z Z Z) 1 4 Z Z Z);have fl := bn.gv fk 1 Z;have bt : Ct [] w0 fa [some ax, bk af, some av, bk aa, bk ab] O := bn.drop 1 Z;have fm := (bn.sd (bg.sd (a9.sd ((ad.sw (cw.so _ ac (X4 ag)) 2 0 Z Z Z ae).sn bd) 2 4 Z Z Z) 2 4 Z Z Z) 2 1 Z Z Z);have fn := bt.gv fm 1 Z;have dq := bt.drop 1 Z;have cz := bg.std 4 Z;have cb := bn.std 1 Z;have bu := bt.std 1 Z;have fo := (((fh.st cz).st cb).st bu);have fp := ((fj.st cb).st bu);refine Yb (kd := kChange) Zc dq ([(⟨(nth r i2), r3, r2, r5, r4⟩ : Change)] : List Change) (cells := [vs (nth r i2), vb r3, vs r2.Id, vi r2.Shape.Kind, G ah al am, G ai an ao, vb r5, vs r4.Id, vi r4.Shape.Kind, G aj ap aq, G af ar au]) ⟨[vs (nth r i2), vb r3, vs r2.Id, vi r2.Shape.Kind, G ah al am, G ai an ao, vb r5, vs r4.Id, vi r4.Shape.Kind, G aj ap aq, G af ar au], _, Z, (kChange.mk _ _ (⟨(nth r i2), r3, r2, r5, r4⟩ : Change) fd cr fo fp cu (fl.st bu) fn), Z⟩ RF fun h1 cc fq fr cd hr196 dr fs => ?_;have c0 := Gm.tm a8 cd;refine Xb ⟨c0, ?_⟩;refine X5 11 RK Z ?_;obtain ⟨ft, H⟩ := H;have fu := ((bt.sd (bn.sd (bg.sd (a9.sd ((ad.sw (((a6.sw ((b5.sos bj bl).so _ a5 (X4 a4)) 4 0 Z Z Z a7).sos ak aw).so _ ac (X4 ag)) 7 0 Z Z Z ae).sn bd) 7 4 Z Z Z) 6 4 Z Z Z) 5 1 Z Z Z) 4 1 Z Z Z).so _ cd hr196);refine Yg Zc dr (G ab a2 a3) xs2 ([(⟨(nth r i2), r3, r2, r5, r4⟩ : Change)] : List Change) Z fu (G cc fq fr) Z fs.sx 4 Z ft fun h2 ce ds dt du cf cg fv => ?_;have dv := Gm.tq c0 du (hv_mem 0 Z);have h3 := hv_app (L := [bk cc, some ax, some av, bk aa, bk ab]) (O := O) (i := 4) c0 Z (hv_mem 0 Z) cf cg;refine Xb ⟨dv, ?_⟩;refine Xy 12 Z RK dv (Zh (G ce ds dt) Z) ?_;refine Yv RK ?_;have bv : ([bk cc, some ax, some av, bk aa, bk ce] : Ob).Perm ((bk cc :: some ax :: some av :: []) ++ [bk aa, bk ce]) := RP;have fw := cg.drops bv;refine Xd (Xe (vi i2) Z ?_);obtain ⟨fx, H⟩ := H;have fy : I64 (i2 + 1) := i64_succ (of_decide_eq_true bi) cq fx;refine Xa (Yd i2 1 Z Z fy) (Xg (vi (i2 + 1)) Z (Xb ?_));obtain ⟨fz, f0⟩ := H;have dw := br.stos ak aw;have dx := ca.stown _ ac (X4 ag);have dy := ad.stw 0 Z ae;have dz := bc.stn bd;have d0 := a9.std 4 Z;have d1 := dq.stown _ cd hr196;have f1 := ((((((((((((((b4.st b6).st b7).st b8).st dw).st dx).st dy).st dz).st d0).st cz).st cb).st bu).st d1).st cf).st (St.drops _ O bv));have f2 := (((((((((((b9.st dw).st dx).st dy).st dz).st d0).st cz).st cb).st bu).st d1).st cf).st (St.drops _ O bv));have f3 := (cg.odr fv bv 1 Z);have f4 := (cg.odr (dr.sm ((bt.sd (bn.sd (bg.sd (a9.sd cy 6 4 Z Z Z) 5 4 Z Z Z) 4 1 Z Z Z) 3 1 Z Z Z).so _ cd hr196) 3 4 Z Z Z du cf) bv 0 Z);exact ⟨((xs2 ++ ([(⟨(nth r i2), r3, r2, r5, r4⟩ : Change)] : List Change)), ce, ds, dt, i2 + 1), f0, fz, (X0 Z), fw, f1, f2, f3, f4⟩
  have H := Xq H a0;refine Xh a0 Z ?_;have d2 := (ad.bm ((di.k0 ak).k0 ac) 3 0 Z Z Z ae);refine Xa (Xv ag44 sz44 cL (Ad av 0) [vs r2.Id, vi r2.Shape.Kind, G ah al am, G ai an ao] Z Z (d2.cells (off := 00) Z)) (Xh a0 Z (Xa (Xv ag44 sz44 cL (Ad ax 0) [vs r4.Id, vi r4.Shape.Kind, G aj ap aq, G af ar au] Z Z (cx.cells (off := 00) Z)) (Xh a0 Z ?_)));have f5 := (ad.sw (((a6.sw (cs.so _ a5 (X4 a4)) 1 0 Z Z Z a7).sos ak aw).so _ ac (X4 ag)) 4 0 Z Z Z ae);have f6 := bc.gv f5 4 Z;have bw := bc.drop 4 Z;have f7 := (bc.sd (ad.sw (((a6.sw (ct.so _ a5 (X4 a4)) 2 0 Z Z Z a7).sos ak aw).so _ ac (X4 ag)) 5 0 Z Z Z ae) 5 4 Z Z Z);have f8 := bw.gv f7 4 Z;have ch := bw.drop 4 Z;have f9 := (bw.sd (bc.sd (ad.sw (cv.so _ ac (X4 ag)) 1 0 Z Z Z ae) 1 4 Z Z Z) 1 4 Z Z Z);have ga := ch.gv f9 1 Z;have c1 : Ct [] w0 dl [some ax, bk af, some av, bk aa, bk ab] O := ch.drop 1 Z;have gb := (ch.sd (bw.sd (bc.sd (ad.sw (cw.so _ ac (X4 ag)) 2 0 Z Z Z ae) 2 4 Z Z Z) 2 4 Z Z Z) 2 1 Z Z Z);have gc := c1.gv gb 1 Z;have gd := c1.drop 1 Z;have gf := bw.std 4 Z;have d3 := ch.std 1 Z;have c2 := c1.std 1 Z;have gg := (((f6.st gf).st d3).st c2);have gh := ((f8.st d3).st c2);refine Xu go94 (F45.calls H gd.ok cr gg gh cu (ga.st c2) gc) Z ?_;rintro _ h4 ⟨r6, rfl, H, a1⟩;have bx := bc.k0 a1;refine Xh a0 Z (Xa (X7 r6 Z) (Xa (Xk false (vb (!r6)) a0 Z) (Xb ?_)));refine Xz (!r6) Z (fun c4 => ?_) (fun c4 => ?_)
  ·have H := Xp H c4;refine Za 13 [bk ab] RK Z fun gi be ba => ?_;have bb := bx.k0 be;refine Xy 0 Z RK ba (Y2 (G ab a2 a3) Z) ?_;refine Xy 1 Z RK ba (Y2 (G aa ay az) Z) ?_;refine Xy 2 Z RK ba (Y2 (vi i2) Z) ?_;obtain ⟨d4, H⟩ := H;have c5 := (((ad.sw ((bs.sos ak aw).so _ ac (X4 ag)) 6 0 Z Z Z ae).sn a1).sn be);obtain ⟨d5, h5, d6, gj, gk⟩ := c5.get default RD i2 d4;obtain ⟨rfl, gl⟩ := Kd.str.op gj;refine Xy 3 Z RK ba (X3 u50_ Zg aa d5 ay az c5.len i2 Z d6 Z d4) ?_;refine Xy 4 Z RK ba (Y6 ag9 cR (d5.add (i2.toNat * 1)) (vs (nth r i2)) Z (gk 0 _ Z) (nm_cons (by simp only [add_block]; exact (ow_ne bb (j := 6) (i := 7) Z d6 Z RD)) nm_nil)) ?_;refine Xy 5 Z RK ba (Y2 (vb r3) Z) ?_;have gm := ((d2.k0 a1).k0 be);refine Xy 6 Z RK ba (Zf ag44 sz44 cR (Ad av 0) [vs r2.Id, vi r2.Shape.Kind, G ah al am, G ai an ao] Z Z (gm.cells (off := 0) Z) (nm_cons (bx_ne bb (j := 3) (i := 7) Z Z RD) nm_nil)) ?_;refine Xy 7 Z RK ba (Y2 (vb r5) Z) ?_;have gn := ((cx.k0 a1).k0 be);refine Xy 8 Z RK ba (Zf ag44 sz44 cR (Ad ax 0) [vs r4.Id, vi r4.Shape.Kind, G aj ap aq, G af ar au] Z Z (gn.cells (off := 0) Z) (nm_cons (bx_ne bb (j := 0) (i := 7) Z Z RD) nm_nil)) ?_;refine Xy 9 Z RK ba (Yl (.agg #[vs (nth r i2), vb r3, vs r2.Id, vi r2.Shape.Kind, G ah al am, G ai an ao, vb r5, vs r4.Id, vi r4.Shape.Kind, G aj ap aq, G af ar au]) RF) ?_;refine X5 10 RK Z ?_;have gp := (((ad.sw (((a6.sw (cs.so _ a5 (X4 a4)) 1 0 Z Z Z a7).sos ak aw).so _ ac (X4 ag)) 4 0 Z Z Z ae).sn a1).sn be);have gq := bb.gv gp 4 Z;have bh := bb.drop 4 Z;have gs := (bb.sd (((ad.sw (((a6.sw (ct.so _ a5 (X4 a4)) 2 0 Z Z Z a7).sos ak aw).so _ ac (X4 ag)) 5 0 Z Z Z ae).sn a1).sn be) 5 4 Z Z Z);have gt := bh.gv gs 4 Z;have bo := bh.drop 4 Z;have gu := (bh.sd (bb.sd (((ad.sw (cv.so _ ac (X4 ag)) 1 0 Z Z Z ae).sn a1).sn be) 1 4 Z Z Z) 1 4 Z Z Z);have gw := bo.gv gu 1 Z;have bz : Ct [] w0 gi [some ax, bk af, some av, bk aa, bk ab] O := bo.drop 1 Z;have gx := (bo.sd (bh.sd (bb.sd (((ad.sw (cw.so _ ac (X4 ag)) 2 0 Z Z Z ae).sn a1).sn be) 2 4 Z Z Z) 2 4 Z Z Z) 2 1 Z Z Z);have gy := bz.gv gx 1 Z;have d7 := bz.drop 1 Z;have c6 := bh.std 4 Z;have ci := bo.std 1 Z;have b0 := bz.std 1 Z;have gz := (((gq.st c6).st ci).st b0);have g1 := ((gt.st ci).st b0);refine Yb (kd := kChange) Zc d7 ([(⟨(nth r i2), r3, r2, r5, r4⟩ : Change)] : List Change) (cells := [vs (nth r i2), vb r3, vs r2.Id, vi r2.Shape.Kind, G ah al am, G ai an ao, vb r5, vs r4.Id, vi r4.Shape.Kind, G aj ap aq, G af ar au]) ⟨[vs (nth r i2), vb r3, vs r2.Id, vi r2.Shape.Kind, G ah al am, G ai an ao, vb r5, vs r4.Id, vi r4.Shape.Kind, G aj ap aq, G af ar au], _, Z, (kChange.mk _ _ (⟨(nth r i2), r3, r2, r5, r4⟩ : Change) gl cr gz g1 cu (gw.st b0) gy), Z⟩ RF fun h6 cj g2 g3 ck hr304 d8 g4 => ?_;have c7 := Gm.tm ba ck;refine Xb ⟨c7, ?_⟩;refine X5 11 RK Z ?_;obtain ⟨g5, H⟩ := H;have g6 := ((bz.sd (bo.sd (bh.sd (bb.sd (((ad.sw (((a6.sw ((b5.sos bj bl).so _ a5 (X4 a4)) 4 0 Z Z Z a7).sos ak aw).so _ ac (X4 ag)) 7 0 Z Z Z ae).sn a1).sn be) 7 4 Z Z Z) 6 4 Z Z Z) 5 1 Z Z Z) 4 1 Z Z Z).so _ ck hr304);refine Yg Zc d8 (G ab a2 a3) xs2 ([(⟨(nth r i2), r3, r2, r5, r4⟩ : Change)] : List Change) Z g6 (G cj g2 g3) Z g4.sx 4 Z g5 fun h7 cl d9 ea eb cm cn g7 => ?_;have ec := Gm.tq c7 eb (hv_mem 0 Z);have h8 := hv_app (L := [bk cj, some ax, some av, bk aa, bk ab]) (O := O) (i := 4) c7 Z (hv_mem 0 Z) cm cn;refine Xb ⟨ec, ?_⟩;refine Xy 12 Z RK ec (Zh (G cl d9 ea) Z) ?_;refine Yv RK ?_;have b1 : ([bk cj, some ax, some av, bk aa, bk cl] : Ob).Perm ((bk cj :: some ax :: some av :: []) ++ [bk aa, bk cl]) := RP;have g8 := cn.drops b1;refine Xd (Xe (vi i2) Z ?_);obtain ⟨g9, H⟩ := H;have ha : I64 (i2 + 1) := i64_succ (of_decide_eq_true bi) cq g9;refine Xa (Yd i2 1 Z Z ha) (Xg (vi (i2 + 1)) Z (Xb ?_));obtain ⟨hb, hc⟩ := H;have ed := br.stos ak aw;have ee := ca.stown _ ac (X4 ag);have ef := ad.stw 0 Z ae;have eg := bc.stn a1;have eh := bx.stn be;have ei := bb.std 4 Z;have ej := d7.stown _ ck hr304;have hd := (((((((((((((((b4.st b6).st b7).st b8).st ed).st ee).st ef).st eg).st eh).st ei).st c6).st ci).st b0).st ej).st cm).st (St.drops _ O b1));have he := ((((((((((((b9.st ed).st ee).st ef).st eg).st eh).st ei).st c6).st ci).st b0).st ej).st cm).st (St.drops _ O b1));have hf := (cn.odr g7 b1 1 Z);have hg := (cn.odr (d8.sm ((bz.sd (bo.sd (bh.sd (bb.sd c5 6 4 Z Z Z) 5 4 Z Z Z) 4 1 Z Z Z) 3 1 Z Z Z).so _ ck hr304) 3 4 Z Z Z eb cm) b1 0 Z);exact ⟨((xs2 ++ ([(⟨(nth r i2), r3, r2, r5, r4⟩ : Change)] : List Change)), cl, d9, ea, i2 + 1), hc, hb, (X0 Z), g8, hd, he, hf, hg⟩
  have H := Xq H c4;refine Xx ?_;have b2 : ([some ax, bk aj, bk af, some av, bk ah, bk ai, bk aa, bk ab] : Ob).Perm ((some ax :: bk aj :: bk af :: some av :: bk ah :: bk ai :: []) ++ [bk aa, bk ab]) := RP;have hh := bx.drops b2;refine Xd (Xe (vi i2) Z ?_);obtain ⟨hi, H⟩ := H;have hj : I64 (i2 + 1) := i64_succ (of_decide_eq_true bi) cq hi;refine Xa (Yd i2 1 Z Z hj) (Xg (vi (i2 + 1)) Z (Xb ?_));obtain ⟨hk, hl⟩ := H;have ek := br.stos ak aw;have el := ca.stown _ ac (X4 ag);have em := ad.stw 0 Z ae;have en := bc.stn a1;have hm := ((((((((b4.st b6).st b7).st b8).st ek).st el).st em).st en).st (St.drops _ O b2));have hn := (((((b9.st ek).st el).st em).st en).st (St.drops _ O b2));have ho := (bx.odr ((ad.sw (((a6.sw ((b5.sos bj bl).so _ a5 (X4 a4)) 4 0 Z Z Z a7).sos ak aw).so _ ac (X4 ag)) 7 0 Z Z Z ae).sn a1) b2 1 Z);have hp := (bx.odr ((ad.sw ((bs.sos ak aw).so _ ac (X4 ag)) 6 0 Z Z Z ae).sn a1) b2 0 Z);exact ⟨(xs2, ab, a2, a3, i2 + 1), hl, hk, (X0 Z), hh, hm, hn, ho, hp⟩
 have H := Xq H bi;refine Yh (xin_hit ?_);refine Xc (Xd (Xe (G ab a2 a3) Z (Xg (G ab a2 a3) Z (Xb (Xn ?_)))));have c9 := bp.drop 0 Z;have hq := (bp.sd b5 1 0 Z Z Z);exact ⟨[G ab a2 a3], ⟨_, Z, Z⟩, xs2, ab, a2, a3, Z, H, c9.gr.g0, c9.ok, c9.ge, hq⟩
def F109.E (a b : List Feat) (Q : List Change → Prop) : Prop :=
 F71.E a (fun r => (if !r then Q [] else F71.E b (fun r2 => (if !r2 then Q [] else F139.E a b (fun r3 => Q r3)))))
theorem F109.calls {a : List Feat} {A1 : Option Addr} {n2 c3 : Nat} {b : List Feat} {A6 : Option Addr} {n7 c8 : Nat} {Q : List Change → Prop} (H : F109.E a b Q) (hO : Ok w0 O) (hp4 : Sl kFeat w0 (Fr O) (G A1 n2 c3) a) (hp9 : Sl kFeat w0 (Fr O) (G A6 n7 c8) b) :
  Ret Tryz.prog 21 [G A1 n2 c3, G A6 n7 c8] w0 (fun v w' => ∃ (r0 : List Change) (Aw0 : Option Addr) (nw0 cw0 : Nat), v = G Aw0 nw0 cw0 ∧ Q r0 ∧ Gk w0 w' [bk Aw0] O (Ow kChange 62 w' ([bk Aw0] ++ O) (G Aw0 nw0 cw0) r0)) := by
 unfold F109.E at H;have hc0 := Ct.init hO;refine X9 Tryz.func21 Z 17 Z [.tmp 4] Z Z ?_;refine Xc (Xd (Xg (G none 0 0) Z (Xb (Xc (Xc (Xd (Xe (G A1 n2 c3) Z ?_)))))));refine Xu go22 (F71.calls H hc0.ok hp4) Z ?_;rintro _ aq ⟨r, rfl, H, ar⟩;have ac := hc0.k0 ar;refine Xa (X7 r Z) (Xe (vb (!r)) Z ?_);rcases X2 (!r) with aa | aa
 ·have H := Xp H aa;refine Xi aa Z (Xi aa Z (Xi aa Z (Xa (Xk true (vb true) aa Z) (Xb (Yr (b := true) Z Z ?_)))));refine Xc (Xd (Yb (kd := kChange) Zc ac ([] : List Change) (cells := []) Z RF fun a2 ad ae af a3 hr23 ag au => ?_));exact Xg (G ad ae af) Z (Xb (Xn ⟨[G ad ae af], ⟨_, Z, Z⟩, ([] : List Change), ad, ae, af, Z, H, ag.gr.g0, ag.ok, ag.ge, au⟩))
 have H := Xq H aa;refine Xh aa Z (Xe (G A6 n7 c8) Z (Xh aa Z ?_));refine Xu go22 (F71.calls H ac.ok (hp9.st ac.st)) Z ?_;rintro _ av ⟨r2, rfl, H, aw⟩;have ab := ac.k0 aw;refine Xh aa Z (Xa (X7 r2 Z) (Xa (Xk false (vb (!r2)) aa Z) (Xb ?_)));refine Xz (!r2) Z (fun ah => ?_) (fun ah => ?_)
 ·have H := Xp H ah;refine Xc (Xd (Yb (kd := kChange) Zc ab ([] : List Change) (cells := []) Z RF fun a4 ai aj ak a5 hr39 al ax => ?_));exact Xg (G ai aj ak) Z (Xb (Xn ⟨[G ai aj ak], ⟨_, Z, Z⟩, ([] : List Change), ai, aj, ak, Z, H, al.gr.g0, al.ok, al.ge, ax⟩))
 have H := Xq H ah;refine Xx (Xc (Xd (Xe (G A1 n2 c3) Z (Xe (G A6 n7 c8) Z ?_))));refine Xu go50 (F139.calls H ab.ok (hp4.st ab.st) (hp9.st ab.st)) Z ?_;rintro _ a6 ⟨r3, am, an, ao, rfl, H, ay, az, a0, a1⟩;have ap := ab.owns ay az a0;exact Xg (G am an ao) Z (Xb (Xn ⟨[G am an ao], ⟨_, Z, Z⟩, r3, am, an, ao, Z, H, ap.gr.g0, ap.ok, ap.ge, a1⟩))
def F130.E (c_ : Change) (Q : Bool → Prop) : Prop :=
 F85.E c_.Id (fun r => (if !r then Q false else (if !c_.Had then (if !c_.Has then Q false else (if c_.Had then (if c_.Has then F45.E c_.Was c_.Now (fun r2 => (if r2 then Q false else F45.E c_.Was (⟨[], (⟨0, []⟩ : Shape), []⟩ : Feat) (fun r3 => (if !r3 then Q false else F87.E c_.Now (fun r4 => (if r4 then Q (c_.Now.Id == c_.Id) else Q false)))))) else F45.E c_.Was (⟨[], (⟨0, []⟩ : Shape), []⟩ : Feat) (fun r5 => (if !r5 then Q false else F87.E c_.Now (fun r6 => (if r6 then Q (c_.Now.Id == c_.Id) else Q false))))) else F45.E c_.Was (⟨[], (⟨0, []⟩ : Shape), []⟩ : Feat) (fun r7 => (if !r7 then Q false else F87.E c_.Now (fun r8 => (if r8 then Q (c_.Now.Id == c_.Id) else Q false)))))) else (if c_.Had then (if c_.Has then F45.E c_.Was c_.Now (fun r9 => (if r9 then Q false else (if !c_.Has then F45.E c_.Now (⟨[], (⟨0, []⟩ : Shape), []⟩ : Feat) (fun r10 => (if !r10 then Q false else F87.E c_.Was (fun r11 => (if r11 then (if c_.Was.Id == c_.Id then Q true else Q false) else Q false)))) else F87.E c_.Was (fun r12 => (if r12 then (if c_.Was.Id == c_.Id then F87.E c_.Now (fun r13 => (if r13 then Q (c_.Now.Id == c_.Id) else Q false)) else Q false) else Q false))))) else (if !c_.Has then F45.E c_.Now (⟨[], (⟨0, []⟩ : Shape), []⟩ : Feat) (fun r14 => (if !r14 then Q false else F87.E c_.Was (fun r15 => (if r15 then (if c_.Was.Id == c_.Id then Q true else Q false) else Q false)))) else F87.E c_.Was (fun r16 => (if r16 then (if c_.Was.Id == c_.Id then F87.E c_.Now (fun r17 => (if r17 then Q (c_.Now.Id == c_.Id) else Q false)) else Q false) else Q false)))) else (if !c_.Has then F45.E c_.Now (⟨[], (⟨0, []⟩ : Shape), []⟩ : Feat) (fun r18 => (if !r18 then Q false else F87.E c_.Was (fun r19 => (if r19 then (if c_.Was.Id == c_.Id then Q true else Q false) else Q false)))) else F87.E c_.Was (fun r20 => (if r20 then (if c_.Was.Id == c_.Id then F87.E c_.Now (fun r21 => (if r21 then Q (c_.Now.Id == c_.Id) else Q false)) else Q false) else Q false)))))))
theorem F130.calls {c_ : Change} {A3 : Option Addr} {n4 c5 : Nat} {A8 : Option Addr} {n9 ae : Nat} {af : Option Addr} {ag ah : Nat} {ai : Option Addr} {aj ak : Nat} {Q : Bool → Prop} (H : F130.E c_ Q) (hO : Ok w0 O) (hs1 : Lim c_.Id) (hs2 : Lim c_.Was.Id) (hp6 : Sl kPt w0 (Fr O) (G A3 n4 c5) c_.Was.Shape.Pts) (bf : Sl kTag w0 (Fr O) (G A8 n9 ae) c_.Was.Tags) (bg : Lim c_.Now.Id) (bh : Sl kPt w0 (Fr O) (G af ag ah) c_.Now.Shape.Pts) (bi : Sl kTag w0 (Fr O) (G ai aj ak) c_.Now.Tags) :
  Ret Tryz.prog 46 [.agg #[vs c_.Id, vb c_.Had, vs c_.Was.Id, vi c_.Was.Shape.Kind, G A3 n4 c5, G A8 n9 ae, vb c_.Has, vs c_.Now.Id, vi c_.Now.Shape.Kind, G af ag ah, G ai aj ak]] w0 (fun v w' => ∃ (r0 : Bool), v = vb r0 ∧ Q r0 ∧ Gr w0 w' none) := by
 unfold F130.E at H;have hc0 := Ct.init hO;refine X9 Tryz.func46 Z 88 Z [.tmp 2] Z Z ?_;refine Xc (Xd (Yo [vs c_.Id, vb c_.Had, vs c_.Was.Id, vi c_.Was.Shape.Kind, G A3 n4 c5, G A8 n9 ae, vb c_.Has, vs c_.Now.Id, vi c_.Now.Shape.Kind, G af ag ah, G ai aj ak] Z fun dn aa dp hu28 dq dr => ?_));have cm := Fb.mk hc0.ok dp dr;have b6 := hc0.k0 dq;refine Xg (vb false) Z (Xb (Xc (Xc (Xd (Xa (Xj fa62_0 (Ad aa 0) (Ad aa 0) Z Z) (Xa (Xo ag9 cL (Ad aa 0) (vs c_.Id) Z (cm.cell Z)) ?_))))));refine Xu go65 (F85.calls H b6.ok hs1) Z ?_;rintro _ bn ⟨r, rfl, H, cn⟩;have ad := b6.k0 cn;refine Xa (X7 r Z) (Xe (vb (!r)) Z ?_);rcases X2 (!r) with ap | ap
 ·have H := Xp H ap;refine Xi ap Z (Xi ap Z (Xi ap Z (Xi ap Z (Xr Z (Xr Z (Xr Z (Xi ap Z (Xa (Xk true (vb true) ap Z) ?_))))))));refine Xe (vb true) Z (X6 (dj := 17) Z Z (.inl Z) (X6 (dj := 17) Z Z (.inl Z) (X6 (dj := 17) Z Z (.inl Z) (Xr Z (Xr Z (X6 (dj := 17) Z Z (.inl Z) (X6 (dj := 17) Z Z (.inl Z) (Xr Z ?_))))))));refine Xr Z (Xr Z (Xr Z (Xr Z (X6 (dj := 17) Z Z (.inl Z) (Xa (Xk true (vb true) Z Z) (Xb (Yr (b := true) Z Z ?_)))))));exact Xc (Xd (Xg (vb false) Z (Xb (Xn ⟨[vb false], ⟨_, Z, Z⟩, false, Z, H, ad.gr.g0⟩))))
 have H := Xq H ap;refine Xh ap Z (Xa (Xj fa62_1 (Ad aa 0) (Ad aa 1) Z Z) (Xh ap Z ?_));have ds := b6.stn cn;have al := (cm.st ds);refine Xa (Xo ag4 cL (Ad aa 1) (vb c_.Had) Z (al.cell Z)) (Xh ap Z (Xa (X7 c_.Had Z) (Xh ap Z (Xe (vb (!c_.Had)) Z ?_))));rcases X2 (!c_.Had) with ab | ab
 ·have H := Xp H ab;refine Xh ab Z (Xa (Xj fa62_3 (Ad aa 0) (Ad aa 6) Z Z) (Xh ab Z (Xa (Xo ag4 cL (Ad aa 6) (vb c_.Has) Z (al.cell Z)) (Xh ab Z (Xa (X7 c_.Has Z) (Xh ap Z (Xa (Xk true (vb (!c_.Has)) ab Z) (Xa (Xk false (vb (!c_.Has)) ap Z) ?_))))))));refine Xe (vb (!c_.Has)) Z ?_;rcases X2 (!c_.Has) with ac | ac
  ·have H := Xp H ac;refine Xi ac Z (Xi ac Z (Xi ac Z (Xr Z (Xr Z (Xi ac Z (Xi ac Z (Xr Z (Xr Z ?_))))))));refine Xr Z (Xr Z (Xr Z (Xi ac Z (Xa (Xk true (vb true) ac Z) (Xb (Yr (b := true) Z Z ?_))))));exact Xc (Xd (Xg (vb false) Z (Xb (Xn ⟨[vb false], ⟨_, Z, Z⟩, false, Z, H, ad.gr.g0⟩))))
  have H := Xq H ac;refine Xh ac Z (Xa (Xj fa62_1 (Ad aa 0) (Ad aa 1) Z Z) (Xh ac Z (Xa (Xo ag4 cL (Ad aa 1) (vb c_.Had) Z (al.cell Z)) (Xh ac Z (Xe (vb c_.Had) Z ?_)))));rcases X2 c_.Had with bl | bl
  ·have H := Xp H bl;refine Xh bl Z (Xa (Xj fa62_3 (Ad aa 0) (Ad aa 6) Z Z) (Xh bl Z (Xa (Xo ag4 cL (Ad aa 6) (vb c_.Has) Z (al.cell Z)) (Xh ac Z (Xa (Xk true (vb c_.Has) bl Z) (Xh ac Z (Xe (vb c_.Has) Z ?_)))))));rcases X2 c_.Has with a7 | a7
   ·have H := Xp H a7;refine Xh a7 Z (Xa (Xj fa62_2 (Ad aa 0) (Ad aa 2) Z Z) (Xh a7 Z (Xa (Xv ag44 sz44 cL (Ad aa 2) [vs c_.Was.Id, vi c_.Was.Shape.Kind, G A3 n4 c5, G A8 n9 ae] Z Z (al.cells (off := 2) Z)) (Xh a7 Z (Xa (Xj fa62_4 (Ad aa 0) (Ad aa 7) Z Z) (Xh a7 Z (Xa (Xv ag44 sz44 cL (Ad aa 7) [vs c_.Now.Id, vi c_.Now.Shape.Kind, G af ag ah, G ai aj ak] Z Z (al.cells (off := 7) Z)) (Xh a7 Z ?_))))))));refine Xu go94 (F45.calls H ad.ok hs2 (hp6.st ad.st) (bf.st ad.st) bg (bh.st ad.st) (bi.st ad.st)) Z ?_;rintro _ dt ⟨r2, rfl, H, co⟩;have bs := ad.k0 co;refine Xh ac Z (Xa (Xk true (vb r2) a7 Z) (Xa (Xk false (vb r2) ac Z) (Xb ?_)));refine Xz r2 Z (fun b7 => ?_) (fun b7 => ?_)
    ·have H := Xp H b7;exact Xc (Xd (Xg (vb false) Z (Xb (Xn ⟨[vb false], ⟨_, Z, Z⟩, false, Z, H, bs.gr.g0⟩))))
    have H := Xq H b7;refine Xx (Xc (Xc (Xd (Xa (Xj fa62_1 (Ad aa 0) (Ad aa 1) Z Z) ?_))));have du := ad.stn co;have b8 := (al.st du);refine Xa (Xo ag4 cL (Ad aa 1) (vb c_.Had) Z (b8.cell Z)) (Xa (X7 c_.Had Z) (Xe (vb (!c_.Had)) Z (Xh ab Z (Xa (Xj fa62_2 (Ad aa 0) (Ad aa 2) Z Z) (Xh ab Z (Xa (Xv ag44 sz44 cL (Ad aa 2) [vs c_.Was.Id, vi c_.Was.Shape.Kind, G A3 n4 c5, G A8 n9 ae] Z Z (b8.cells (off := 2) Z)) (Xh ab Z (Xa (Yl (.agg #[vs [], vi 0, G none 0 0, G none 0 0]) RF) ?_))))))));refine Xh ab Z ?_;refine Xu go94 (F45.calls H bs.ok hs2 (hp6.st bs.st) (bf.st bs.st) RD (Sl.nil _ _ _ none 0 RD) (Sl.nil _ _ _ none 0 RD)) Z ?_;rintro _ dv ⟨r3, rfl, H, cp⟩;have bt := bs.k0 cp;refine Xh ab Z (Xa (X7 r3 Z) (Xa (Xk true (vb (!r3)) ab Z) (Xe (vb (!r3)) Z ?_)));rcases X2 (!r3) with a8 | a8
    ·have H := Xp H a8;refine Xi a8 Z (Xi a8 Z (Xi a8 Z (Xi a8 Z (Xr Z (Xr Z (Xr Z (Xr Z (Xr Z ?_))))))));refine Xi a8 Z (Xa (Xk true (vb true) a8 Z) (Xb (Yr (b := true) Z Z ?_)));exact Xc (Xd (Xg (vb false) Z (Xb (Xn ⟨[vb false], ⟨_, Z, Z⟩, false, Z, H, bt.gr.g0⟩))))
    have H := Xq H a8;refine Xh a8 Z (Xa (Xj fa62_3 (Ad aa 0) (Ad aa 6) Z Z) (Xh a8 Z ?_));have dw := bs.stn cp;have b0 := (b8.st dw);refine Xa (Xo ag4 cL (Ad aa 6) (vb c_.Has) Z (b0.cell Z)) (Xh a8 Z (Xa (X7 c_.Has Z) (Xh a8 Z (Xe (vb (!c_.Has)) Z (Xi ac Z (Xi ac Z (Xi ac Z (Xi ac Z ?_))))))));refine Xi ac Z (Xh a8 Z (Xa (Xk false (vb false) ac Z) (Xa (Xk false (vb false) a8 Z) (Xb (Y0 (b := false) Z Z ?_)))));refine Xx (Xc (Xd (Xa (Xj fa62_1 (Ad aa 0) (Ad aa 1) Z Z) (Xa (Xo ag4 cL (Ad aa 1) (vb c_.Had) Z (b0.cell Z)) (Xa (X7 c_.Had Z) (Xe (vb (!c_.Had)) Z (Xi ab Z (Xi ab Z ?_))))))));refine Xi ab Z (Xi ab Z (Xr Z (Xr Z (Xr Z (Xr Z (Xr Z (Xr Z (Xi ab Z ?_))))))));refine Xa (Xk true (vb true) ab Z) (Xe (vb true) Z (Yf (dj := 70) Z Z Z (Xa (Xj fa62_3 (Ad aa 0) (Ad aa 6) Z Z) (Yf (dj := 70) Z Z Z (Xa (Xo ag4 cL (Ad aa 6) (vb c_.Has) Z (b0.cell Z)) (Yf (dj := 70) Z Z Z (Xa (X7 c_.Has Z) (Yf (dj := 70) Z Z Z ?_))))))));refine Xe (vb (!c_.Has)) Z (Xh ac Z (Xa (Xj fa62_4 (Ad aa 0) (Ad aa 7) Z Z) (Xh ac Z (Xa (Xv ag44 sz44 cL (Ad aa 7) [vs c_.Now.Id, vi c_.Now.Shape.Kind, G af ag ah, G ai aj ak] Z Z (b0.cells (off := 7) Z)) (Xh ac Z ?_)))));refine Xu go24 (F87.calls H bt.ok bg (bh.st bt.st) (bi.st bt.st)) Z ?_;rintro _ en ⟨r4, rfl, H, cq⟩;have cr := bt.k0 cq;refine Xh ac Z (Xe (vb r4) Z ?_);rcases X2 r4 with aq | aq
    ·have H := Xp H aq;refine Xh aq Z (Xa (Xj fa62_4 (Ad aa 0) (Ad aa 7) Z Z) (Xh aq Z (Xa (Xj fa44_0 (Ad aa 7) (Ad aa 7) Z Z) (Xh aq Z ?_))));have dx := bt.stn cq;have cs := (b0.st dx);refine Xa (Xo ag9 cL (Ad aa 7) (vs c_.Now.Id) Z (cs.cell Z)) (Xh aq Z (Xa (Xj fa62_0 (Ad aa 0) (Ad aa 0) Z Z) (Xh aq Z (Xa (Xo ag9 cL (Ad aa 0) (vs c_.Id) Z (cs.cell Z)) (Xh aq Z (Xa (Yi c_.Now.Id c_.Id (c_.Now.Id == c_.Id) Z Z Z) (Xh ac Z (Xa (Xk true (vb (c_.Now.Id == c_.Id)) aq Z) ?_))))))));exact Yf (dj := 70) Z Z Z (Xa (Xk false (vb (c_.Now.Id == c_.Id)) ac Z) (Xa (Xk true (vb (c_.Now.Id == c_.Id)) Z Z) (Xg (vb (c_.Now.Id == c_.Id)) Z (Xb (Xn ⟨[vb (c_.Now.Id == c_.Id)], ⟨_, Z, Z⟩, c_.Now.Id == c_.Id, Z, H, cr.gr.g0⟩)))))
    have H := Xq H aq;refine Xi aq Z (Xi aq Z (Xi aq Z (Xi aq Z (Xi aq Z (Xi aq Z (Xh ac Z (Xa (Xk false (vb false) aq Z) (Yf (dj := 70) Z Z Z ?_))))))));exact Xa (Xk false (vb false) ac Z) (Xa (Xk true (vb false) Z Z) (Xg (vb false) Z (Xb (Xn ⟨[vb false], ⟨_, Z, Z⟩, false, Z, H, cr.gr.g0⟩))))
   have H := Xq H a7;refine Xi a7 Z (Xi a7 Z (Xi a7 Z (Xi a7 Z (Xi a7 Z (Xh ac Z (Xa (Xk false (vb false) a7 Z) (Xa (Xk false (vb false) ac Z) (Xb ?_))))))));refine Y0 (b := false) Z Z ?_;refine Xx (Xc (Xc (Xd (Xa (Xj fa62_1 (Ad aa 0) (Ad aa 1) Z Z) (Xa (Xo ag4 cL (Ad aa 1) (vb c_.Had) Z (al.cell Z)) (Xa (X7 c_.Had Z) (Xe (vb (!c_.Had)) Z (Xh ab Z ?_))))))));refine Xa (Xj fa62_2 (Ad aa 0) (Ad aa 2) Z Z) (Xh ab Z (Xa (Xv ag44 sz44 cL (Ad aa 2) [vs c_.Was.Id, vi c_.Was.Shape.Kind, G A3 n4 c5, G A8 n9 ae] Z Z (al.cells (off := 2) Z)) (Xh ab Z (Xa (Yl (.agg #[vs [], vi 0, G none 0 0, G none 0 0]) RF) (Xh ab Z ?_)))));refine Xu go94 (F45.calls H ad.ok hs2 (hp6.st ad.st) (bf.st ad.st) RD (Sl.nil _ _ _ none 0 RD) (Sl.nil _ _ _ none 0 RD)) Z ?_;rintro _ dy ⟨r5, rfl, H, ct⟩;have bu := ad.k0 ct;refine Xh ab Z (Xa (X7 r5 Z) (Xa (Xk true (vb (!r5)) ab Z) (Xe (vb (!r5)) Z ?_)));rcases X2 (!r5) with a9 | a9
   ·have H := Xp H a9;refine Xi a9 Z (Xi a9 Z (Xi a9 Z (Xi a9 Z (Xr Z (Xr Z (Xr Z (Xr Z (Xr Z ?_))))))));refine Xi a9 Z (Xa (Xk true (vb true) a9 Z) (Xb (Yr (b := true) Z Z ?_)));exact Xc (Xd (Xg (vb false) Z (Xb (Xn ⟨[vb false], ⟨_, Z, Z⟩, false, Z, H, bu.gr.g0⟩))))
   have H := Xq H a9;refine Xh a9 Z (Xa (Xj fa62_3 (Ad aa 0) (Ad aa 6) Z Z) (Xh a9 Z ?_));have dz := ad.stn ct;have b1 := (al.st dz);refine Xa (Xo ag4 cL (Ad aa 6) (vb c_.Has) Z (b1.cell Z)) (Xh a9 Z (Xa (X7 c_.Has Z) (Xh a9 Z (Xe (vb (!c_.Has)) Z (Xi ac Z (Xi ac Z (Xi ac Z (Xi ac Z ?_))))))));refine Xi ac Z (Xh a9 Z (Xa (Xk false (vb false) ac Z) (Xa (Xk false (vb false) a9 Z) (Xb (Y0 (b := false) Z Z ?_)))));refine Xx (Xc (Xd (Xa (Xj fa62_1 (Ad aa 0) (Ad aa 1) Z Z) (Xa (Xo ag4 cL (Ad aa 1) (vb c_.Had) Z (b1.cell Z)) (Xa (X7 c_.Had Z) (Xe (vb (!c_.Had)) Z (Xi ab Z (Xi ab Z ?_))))))));refine Xi ab Z (Xi ab Z (Xr Z (Xr Z (Xr Z (Xr Z (Xr Z (Xr Z (Xi ab Z ?_))))))));refine Xa (Xk true (vb true) ab Z) (Xe (vb true) Z (Yf (dj := 70) Z Z Z (Xa (Xj fa62_3 (Ad aa 0) (Ad aa 6) Z Z) (Yf (dj := 70) Z Z Z (Xa (Xo ag4 cL (Ad aa 6) (vb c_.Has) Z (b1.cell Z)) (Yf (dj := 70) Z Z Z (Xa (X7 c_.Has Z) (Yf (dj := 70) Z Z Z ?_))))))));refine Xe (vb (!c_.Has)) Z (Xh ac Z (Xa (Xj fa62_4 (Ad aa 0) (Ad aa 7) Z Z) (Xh ac Z (Xa (Xv ag44 sz44 cL (Ad aa 7) [vs c_.Now.Id, vi c_.Now.Shape.Kind, G af ag ah, G ai aj ak] Z Z (b1.cells (off := 7) Z)) (Xh ac Z ?_)))));refine Xu go24 (F87.calls H bu.ok bg (bh.st bu.st) (bi.st bu.st)) Z ?_;rintro _ eo ⟨r6, rfl, H, cu⟩;have cv := bu.k0 cu;refine Xh ac Z (Xe (vb r6) Z ?_);rcases X2 r6 with ar | ar
   ·have H := Xp H ar;refine Xh ar Z (Xa (Xj fa62_4 (Ad aa 0) (Ad aa 7) Z Z) (Xh ar Z (Xa (Xj fa44_0 (Ad aa 7) (Ad aa 7) Z Z) (Xh ar Z ?_))));have d0 := bu.stn cu;have cw := (b1.st d0);refine Xa (Xo ag9 cL (Ad aa 7) (vs c_.Now.Id) Z (cw.cell Z)) (Xh ar Z (Xa (Xj fa62_0 (Ad aa 0) (Ad aa 0) Z Z) (Xh ar Z (Xa (Xo ag9 cL (Ad aa 0) (vs c_.Id) Z (cw.cell Z)) (Xh ar Z (Xa (Yi c_.Now.Id c_.Id (c_.Now.Id == c_.Id) Z Z Z) (Xh ac Z (Xa (Xk true (vb (c_.Now.Id == c_.Id)) ar Z) ?_))))))));exact Yf (dj := 70) Z Z Z (Xa (Xk false (vb (c_.Now.Id == c_.Id)) ac Z) (Xa (Xk true (vb (c_.Now.Id == c_.Id)) Z Z) (Xg (vb (c_.Now.Id == c_.Id)) Z (Xb (Xn ⟨[vb (c_.Now.Id == c_.Id)], ⟨_, Z, Z⟩, c_.Now.Id == c_.Id, Z, H, cv.gr.g0⟩)))))
   have H := Xq H ar;refine Xi ar Z (Xi ar Z (Xi ar Z (Xi ar Z (Xi ar Z (Xi ar Z (Xh ac Z (Xa (Xk false (vb false) ar Z) (Yf (dj := 70) Z Z Z ?_))))))));exact Xa (Xk false (vb false) ac Z) (Xa (Xk true (vb false) Z Z) (Xg (vb false) Z (Xb (Xn ⟨[vb false], ⟨_, Z, Z⟩, false, Z, H, cv.gr.g0⟩))))
  have H := Xq H bl;refine Xi bl Z (Xi bl Z (Xh ac Z (Xa (Xk false (vb false) bl Z) (Xh ac Z (Xe (vb false) Z (X6 (dj := 24) Z Z (.inl Z) (X6 (dj := 24) Z Z (.inl Z) (X6 (dj := 24) Z Z (.inl Z) ?_))))))));refine X6 (dj := 24) Z Z (.inl Z) (X6 (dj := 24) Z Z (.inl Z) (Xh ac Z (Xa (Xk false (vb false) Z Z) (Xa (Xk false (vb false) ac Z) (Xb (Y0 (b := false) Z Z ?_))))));refine Xx (Xc (Xc (Xd (Xa (Xj fa62_1 (Ad aa 0) (Ad aa 1) Z Z) (Xa (Xo ag4 cL (Ad aa 1) (vb c_.Had) Z (al.cell Z)) (Xa (X7 c_.Had Z) (Xe (vb (!c_.Had)) Z (Xh ab Z ?_))))))));refine Xa (Xj fa62_2 (Ad aa 0) (Ad aa 2) Z Z) (Xh ab Z (Xa (Xv ag44 sz44 cL (Ad aa 2) [vs c_.Was.Id, vi c_.Was.Shape.Kind, G A3 n4 c5, G A8 n9 ae] Z Z (al.cells (off := 2) Z)) (Xh ab Z (Xa (Yl (.agg #[vs [], vi 0, G none 0 0, G none 0 0]) RF) (Xh ab Z ?_)))));refine Xu go94 (F45.calls H ad.ok hs2 (hp6.st ad.st) (bf.st ad.st) RD (Sl.nil _ _ _ none 0 RD) (Sl.nil _ _ _ none 0 RD)) Z ?_;rintro _ d1 ⟨r7, rfl, H, cx⟩;have bv := ad.k0 cx;refine Xh ab Z (Xa (X7 r7 Z) (Xa (Xk true (vb (!r7)) ab Z) (Xe (vb (!r7)) Z ?_)));rcases X2 (!r7) with ba | ba
  ·have H := Xp H ba;refine Xi ba Z (Xi ba Z (Xi ba Z (Xi ba Z (Xr Z (Xr Z (Xr Z (Xr Z (Xr Z ?_))))))));refine Xi ba Z (Xa (Xk true (vb true) ba Z) (Xb (Yr (b := true) Z Z ?_)));exact Xc (Xd (Xg (vb false) Z (Xb (Xn ⟨[vb false], ⟨_, Z, Z⟩, false, Z, H, bv.gr.g0⟩))))
  have H := Xq H ba;refine Xh ba Z (Xa (Xj fa62_3 (Ad aa 0) (Ad aa 6) Z Z) (Xh ba Z ?_));have d2 := ad.stn cx;have b2 := (al.st d2);refine Xa (Xo ag4 cL (Ad aa 6) (vb c_.Has) Z (b2.cell Z)) (Xh ba Z (Xa (X7 c_.Has Z) (Xh ba Z (Xe (vb (!c_.Has)) Z (Xi ac Z (Xi ac Z (Xi ac Z (Xi ac Z ?_))))))));refine Xi ac Z (Xh ba Z (Xa (Xk false (vb false) ac Z) (Xa (Xk false (vb false) ba Z) (Xb (Y0 (b := false) Z Z ?_)))));refine Xx (Xc (Xd (Xa (Xj fa62_1 (Ad aa 0) (Ad aa 1) Z Z) (Xa (Xo ag4 cL (Ad aa 1) (vb c_.Had) Z (b2.cell Z)) (Xa (X7 c_.Had Z) (Xe (vb (!c_.Had)) Z (Xi ab Z (Xi ab Z ?_))))))));refine Xi ab Z (Xi ab Z (Xr Z (Xr Z (Xr Z (Xr Z (Xr Z (Xr Z (Xi ab Z ?_))))))));refine Xa (Xk true (vb true) ab Z) (Xe (vb true) Z (Yf (dj := 70) Z Z Z (Xa (Xj fa62_3 (Ad aa 0) (Ad aa 6) Z Z) (Yf (dj := 70) Z Z Z (Xa (Xo ag4 cL (Ad aa 6) (vb c_.Has) Z (b2.cell Z)) (Yf (dj := 70) Z Z Z (Xa (X7 c_.Has Z) (Yf (dj := 70) Z Z Z ?_))))))));refine Xe (vb (!c_.Has)) Z (Xh ac Z (Xa (Xj fa62_4 (Ad aa 0) (Ad aa 7) Z Z) (Xh ac Z (Xa (Xv ag44 sz44 cL (Ad aa 7) [vs c_.Now.Id, vi c_.Now.Shape.Kind, G af ag ah, G ai aj ak] Z Z (b2.cells (off := 7) Z)) (Xh ac Z ?_)))));refine Xu go24 (F87.calls H bv.ok bg (bh.st bv.st) (bi.st bv.st)) Z ?_;rintro _ ep ⟨r8, rfl, H, cy⟩;have cz := bv.k0 cy;refine Xh ac Z (Xe (vb r8) Z ?_);rcases X2 r8 with au | au
  ·have H := Xp H au;refine Xh au Z (Xa (Xj fa62_4 (Ad aa 0) (Ad aa 7) Z Z) (Xh au Z (Xa (Xj fa44_0 (Ad aa 7) (Ad aa 7) Z Z) (Xh au Z ?_))));have d3 := bv.stn cy;have c0 := (b2.st d3);refine Xa (Xo ag9 cL (Ad aa 7) (vs c_.Now.Id) Z (c0.cell Z)) (Xh au Z (Xa (Xj fa62_0 (Ad aa 0) (Ad aa 0) Z Z) (Xh au Z (Xa (Xo ag9 cL (Ad aa 0) (vs c_.Id) Z (c0.cell Z)) (Xh au Z (Xa (Yi c_.Now.Id c_.Id (c_.Now.Id == c_.Id) Z Z Z) (Xh ac Z (Xa (Xk true (vb (c_.Now.Id == c_.Id)) au Z) ?_))))))));exact Yf (dj := 70) Z Z Z (Xa (Xk false (vb (c_.Now.Id == c_.Id)) ac Z) (Xa (Xk true (vb (c_.Now.Id == c_.Id)) Z Z) (Xg (vb (c_.Now.Id == c_.Id)) Z (Xb (Xn ⟨[vb (c_.Now.Id == c_.Id)], ⟨_, Z, Z⟩, c_.Now.Id == c_.Id, Z, H, cz.gr.g0⟩)))))
  have H := Xq H au;refine Xi au Z (Xi au Z (Xi au Z (Xi au Z (Xi au Z (Xi au Z (Xh ac Z (Xa (Xk false (vb false) au Z) (Yf (dj := 70) Z Z Z ?_))))))));exact Xa (Xk false (vb false) ac Z) (Xa (Xk true (vb false) Z Z) (Xg (vb false) Z (Xb (Xn ⟨[vb false], ⟨_, Z, Z⟩, false, Z, H, cz.gr.g0⟩))))
 have H := Xq H ab;refine Xi ab Z (Xi ab Z (Xi ab Z (Xh ap Z (Xa (Xk false (vb false) ab Z) (Xa (Xk false (vb false) ap Z) (Xe (vb false) Z (Yf (dj := 17) Z Z Z (Xa (Xj fa62_1 (Ad aa 0) (Ad aa 1) Z Z) ?_))))))));refine Yf (dj := 17) Z Z Z (Xa (Xo ag4 cL (Ad aa 1) (vb c_.Had) Z (al.cell Z)) (Yf (dj := 17) Z Z Z (Xe (vb c_.Had) Z ?_)));rcases X2 c_.Had with bm | bm
 ·have H := Xp H bm;refine Xh bm Z (Xa (Xj fa62_3 (Ad aa 0) (Ad aa 6) Z Z) (Xh bm Z (Xa (Xo ag4 cL (Ad aa 6) (vb c_.Has) Z (al.cell Z)) (Yf (dj := 17) Z Z Z (Xa (Xk true (vb c_.Has) bm Z) (Yf (dj := 17) Z Z Z (Xe (vb c_.Has) Z ?_)))))));rcases X2 c_.Has with bb | bb
  ·have H := Xp H bb;refine Xh bb Z (Xa (Xj fa62_2 (Ad aa 0) (Ad aa 2) Z Z) (Xh bb Z (Xa (Xv ag44 sz44 cL (Ad aa 2) [vs c_.Was.Id, vi c_.Was.Shape.Kind, G A3 n4 c5, G A8 n9 ae] Z Z (al.cells (off := 2) Z)) (Xh bb Z (Xa (Xj fa62_4 (Ad aa 0) (Ad aa 7) Z Z) (Xh bb Z (Xa (Xv ag44 sz44 cL (Ad aa 7) [vs c_.Now.Id, vi c_.Now.Shape.Kind, G af ag ah, G ai aj ak] Z Z (al.cells (off := 7) Z)) (Xh bb Z ?_))))))));refine Xu go94 (F45.calls H ad.ok hs2 (hp6.st ad.st) (bf.st ad.st) bg (bh.st ad.st) (bi.st ad.st)) Z ?_;rintro _ c1 ⟨r9, rfl, H, c2⟩;have bj := ad.k0 c2;refine Yf (dj := 17) Z Z Z (Xa (Xk true (vb r9) bb Z) (Xa (Xk false (vb r9) Z Z) (Xb ?_)));refine Xz r9 Z (fun b9 => ?_) (fun b9 => ?_)
   ·have H := Xp H b9;exact Xc (Xd (Xg (vb false) Z (Xb (Xn ⟨[vb false], ⟨_, Z, Z⟩, false, Z, H, bj.gr.g0⟩))))
   have H := Xq H b9;refine Xx (Xc (Xc (Xd (Xa (Xj fa62_1 (Ad aa 0) (Ad aa 1) Z Z) ?_))));have d4 := ad.stn c2;have bo := (al.st d4);refine Xa (Xo ag4 cL (Ad aa 1) (vb c_.Had) Z (bo.cell Z)) (Xa (X7 c_.Had Z) (Xe (vb (!c_.Had)) Z (Xi ab Z (Xi ab Z (Xi ab Z (Xi ab Z (Xi ab Z (Xa (Xk false (vb false) ab Z) ?_))))))));refine Xe (vb false) Z (Yf (dj := 42) Z Z Z (Xa (Xj fa62_3 (Ad aa 0) (Ad aa 6) Z Z) (Yf (dj := 42) Z Z Z (Xa (Xo ag4 cL (Ad aa 6) (vb c_.Has) Z (bo.cell Z)) (Yf (dj := 42) Z Z Z (Xa (X7 c_.Has Z) (Yf (dj := 42) Z Z Z (Xe (vb (!c_.Has)) Z ?_))))))));rcases X2 (!c_.Has) with am | am
   ·have H := Xp H am;refine Xh am Z (Xa (Xj fa62_4 (Ad aa 0) (Ad aa 7) Z Z) (Xh am Z (Xa (Xv ag44 sz44 cL (Ad aa 7) [vs c_.Now.Id, vi c_.Now.Shape.Kind, G af ag ah, G ai aj ak] Z Z (bo.cells (off := 7) Z)) (Xh am Z (Xa (Yl (.agg #[vs [], vi 0, G none 0 0, G none 0 0]) RF) (Xh am Z ?_))))));refine Xu go94 (F45.calls H bj.ok bg (bh.st bj.st) (bi.st bj.st) RD (Sl.nil _ _ _ none 0 RD) (Sl.nil _ _ _ none 0 RD)) Z ?_;rintro _ d5 ⟨r10, rfl, H, c3⟩;have bw := bj.k0 c3;refine Xh am Z (Xa (X7 r10 Z) (Yf (dj := 42) Z Z Z (Xa (Xk true (vb (!r10)) am Z) (Xa (Xk false (vb (!r10)) Z Z) (Xb ?_)))));refine Xz (!r10) Z (fun ca => ?_) (fun ca => ?_)
    ·have H := Xp H ca;exact Xc (Xd (Xg (vb false) Z (Xb (Xn ⟨[vb false], ⟨_, Z, Z⟩, false, Z, H, bw.gr.g0⟩))))
    have H := Xq H ca;refine Xx (Xc (Xd (Xa (Xj fa62_1 (Ad aa 0) (Ad aa 1) Z Z) ?_)));have d6 := bj.stn c3;have cb := (bo.st d6);refine Xa (Xo ag4 cL (Ad aa 1) (vb c_.Had) Z (cb.cell Z)) (Xa (X7 c_.Had Z) (Xe (vb (!c_.Had)) Z (Xh ab Z (Xa (Xj fa62_2 (Ad aa 0) (Ad aa 2) Z Z) (Xh ab Z (Xa (Xv ag44 sz44 cL (Ad aa 2) [vs c_.Was.Id, vi c_.Was.Shape.Kind, G A3 n4 c5, G A8 n9 ae] Z Z (cb.cells (off := 2) Z)) (Xh ab Z ?_)))))));refine Xu go24 (F87.calls H bw.ok hs2 (hp6.st bw.st) (bf.st bw.st)) Z ?_;rintro _ eq ⟨r11, rfl, H, c4⟩;have cc := bw.k0 c4;refine Xh ab Z (Xe (vb r11) Z ?_);rcases X2 r11 with av | av
    ·have H := Xp H av;refine Xh av Z (Xa (Xj fa62_2 (Ad aa 0) (Ad aa 2) Z Z) (Xh av Z (Xa (Xj fa44_0 (Ad aa 2) (Ad aa 2) Z Z) (Xh av Z ?_))));have d7 := bw.stn c4;have cd := (cb.st d7);refine Xa (Xo ag9 cL (Ad aa 2) (vs c_.Was.Id) Z (cd.cell Z)) (Xh av Z (Xa (Xj fa62_0 (Ad aa 0) (Ad aa 0) Z Z) (Xh av Z (Xa (Xo ag9 cL (Ad aa 0) (vs c_.Id) Z (cd.cell Z)) (Xh av Z (Xa (Yi c_.Was.Id c_.Id (c_.Was.Id == c_.Id) Z Z Z) (Xh ab Z (Xa (Xk true (vb (c_.Was.Id == c_.Id)) av Z) ?_))))))));refine Xa (Xk false (vb (c_.Was.Id == c_.Id)) ab Z) (Xe (vb (c_.Was.Id == c_.Id)) Z ?_);rcases X2 (c_.Was.Id == c_.Id) with bc | bc
     ·have H := Xp H bc;refine Xh bc Z (Xa (Xj fa62_3 (Ad aa 0) (Ad aa 6) Z Z) (Xh bc Z (Xa (Xo ag4 cL (Ad aa 6) (vb c_.Has) Z (cd.cell Z)) (Xh bc Z (Xa (X7 c_.Has Z) (Xh bc Z (Xe (vb (!c_.Has)) Z (Xi am Z ?_))))))));refine Xi am Z (Xi am Z (Xi am Z (Xr Z (Xr Z (Xr Z (Xr Z (Xr Z (Xr Z ?_))))))));exact Xi am Z (Xh bc Z (Xa (Xk true (vb true) am Z) (Xa (Xk true (vb true) bc Z) (Xg (vb true) Z (Xb (Xn ⟨[vb true], ⟨_, Z, Z⟩, true, Z, H, cc.gr.g0⟩))))))
     have H := Xq H bc;refine Xi bc Z (Xi bc Z (Xi bc Z (Xi bc Z (Xr Z (Xr Z (Xr Z (Xr Z (Xr Z ?_))))))));refine Xr Z (Xr Z (Xr Z (Xr Z (Xr Z (Xr Z (Xi bc Z (Xa (Xk false (vb false) bc Z) (Xg (vb false) Z ?_))))))));exact Xb (Xn ⟨[vb false], ⟨_, Z, Z⟩, false, Z, H, cc.gr.g0⟩)
    have H := Xq H av;refine Xi av Z (Xi av Z (Xi av Z (Xi av Z (Xi av Z (Xi av Z (Xh ab Z (Xa (Xk false (vb false) av Z) (Xa (Xk false (vb false) ab Z) ?_))))))));refine Xe (vb false) Z (X6 (dj := 70) Z Z (.inl Z) (X6 (dj := 70) Z Z (.inl Z) (X6 (dj := 70) Z Z (.inl Z) (X6 (dj := 70) Z Z (.inl Z) (Xr Z (Xr Z (Xr Z (Xr Z ?_))))))));refine Xr Z (Xr Z (Xr Z (Xr Z (Xr Z (Xr Z (Xr Z (X6 (dj := 70) Z Z (.inl Z) (Xa (Xk false (vb false) Z Z) ?_))))))));exact Xg (vb false) Z (Xb (Xn ⟨[vb false], ⟨_, Z, Z⟩, false, Z, H, cc.gr.g0⟩))
   have H := Xq H am;refine Xi am Z (Xi am Z (Xi am Z (Xi am Z (Xi am Z (Yf (dj := 42) Z Z Z (Xa (Xk false (vb false) am Z) (Xa (Xk false (vb false) Z Z) (Xb ?_))))))));refine Y0 (b := false) Z Z ?_;refine Xx (Xc (Xd (Xa (Xj fa62_1 (Ad aa 0) (Ad aa 1) Z Z) (Xa (Xo ag4 cL (Ad aa 1) (vb c_.Had) Z (bo.cell Z)) (Xa (X7 c_.Had Z) (Xe (vb (!c_.Had)) Z (Xh ab Z (Xa (Xj fa62_2 (Ad aa 0) (Ad aa 2) Z Z) ?_))))))));refine Xh ab Z (Xa (Xv ag44 sz44 cL (Ad aa 2) [vs c_.Was.Id, vi c_.Was.Shape.Kind, G A3 n4 c5, G A8 n9 ae] Z Z (bo.cells (off := 2) Z)) (Xh ab Z ?_));refine Xu go24 (F87.calls H bj.ok hs2 (hp6.st bj.st) (bf.st bj.st)) Z ?_;rintro _ d8 ⟨r12, rfl, H, c6⟩;have bp := bj.k0 c6;refine Xh ab Z (Xe (vb r12) Z ?_);rcases X2 r12 with aw | aw
   ·have H := Xp H aw;refine Xh aw Z (Xa (Xj fa62_2 (Ad aa 0) (Ad aa 2) Z Z) (Xh aw Z (Xa (Xj fa44_0 (Ad aa 2) (Ad aa 2) Z Z) (Xh aw Z ?_))));have d9 := bj.stn c6;have b3 := (bo.st d9);refine Xa (Xo ag9 cL (Ad aa 2) (vs c_.Was.Id) Z (b3.cell Z)) (Xh aw Z (Xa (Xj fa62_0 (Ad aa 0) (Ad aa 0) Z Z) (Xh aw Z (Xa (Xo ag9 cL (Ad aa 0) (vs c_.Id) Z (b3.cell Z)) (Xh aw Z (Xa (Yi c_.Was.Id c_.Id (c_.Was.Id == c_.Id) Z Z Z) (Xh ab Z (Xa (Xk true (vb (c_.Was.Id == c_.Id)) aw Z) ?_))))))));refine Xa (Xk false (vb (c_.Was.Id == c_.Id)) ab Z) (Xe (vb (c_.Was.Id == c_.Id)) Z ?_);rcases X2 (c_.Was.Id == c_.Id) with ax | ax
    ·have H := Xp H ax;refine Xh ax Z (Xa (Xj fa62_3 (Ad aa 0) (Ad aa 6) Z Z) (Xh ax Z (Xa (Xo ag4 cL (Ad aa 6) (vb c_.Has) Z (b3.cell Z)) (Xh ax Z (Xa (X7 c_.Has Z) (Xh ax Z (Xe (vb (!c_.Has)) Z (Xh am Z ?_))))))));refine Xa (Xj fa62_4 (Ad aa 0) (Ad aa 7) Z Z) (Xh am Z (Xa (Xv ag44 sz44 cL (Ad aa 7) [vs c_.Now.Id, vi c_.Now.Shape.Kind, G af ag ah, G ai aj ak] Z Z (b3.cells (off := 7) Z)) (Xh am Z ?_)));refine Xu go24 (F87.calls H bp.ok bg (bh.st bp.st) (bi.st bp.st)) Z ?_;rintro _ er ⟨r13, rfl, H, c7⟩;have c8 := bp.k0 c7;refine Xh am Z (Xe (vb r13) Z ?_);rcases X2 r13 with ay | ay
     ·have H := Xp H ay;refine Xh ay Z (Xa (Xj fa62_4 (Ad aa 0) (Ad aa 7) Z Z) (Xh ay Z (Xa (Xj fa44_0 (Ad aa 7) (Ad aa 7) Z Z) (Xh ay Z ?_))));have ea := bp.stn c7;have c9 := (b3.st ea);refine Xa (Xo ag9 cL (Ad aa 7) (vs c_.Now.Id) Z (c9.cell Z)) (Xh ay Z (Xa (Xj fa62_0 (Ad aa 0) (Ad aa 0) Z Z) (Xh ay Z (Xa (Xo ag9 cL (Ad aa 0) (vs c_.Id) Z (c9.cell Z)) (Xh ay Z (Xa (Yi c_.Now.Id c_.Id (c_.Now.Id == c_.Id) Z Z Z) (Xh am Z (Xa (Xk true (vb (c_.Now.Id == c_.Id)) ay Z) ?_))))))));exact Xh ax Z (Xa (Xk false (vb (c_.Now.Id == c_.Id)) am Z) (Xa (Xk true (vb (c_.Now.Id == c_.Id)) ax Z) (Xg (vb (c_.Now.Id == c_.Id)) Z (Xb (Xn ⟨[vb (c_.Now.Id == c_.Id)], ⟨_, Z, Z⟩, c_.Now.Id == c_.Id, Z, H, c8.gr.g0⟩)))))
     have H := Xq H ay;refine Xi ay Z (Xi ay Z (Xi ay Z (Xi ay Z (Xi ay Z (Xi ay Z (Xh am Z (Xa (Xk false (vb false) ay Z) (Xh ax Z ?_))))))));exact Xa (Xk false (vb false) am Z) (Xa (Xk true (vb false) ax Z) (Xg (vb false) Z (Xb (Xn ⟨[vb false], ⟨_, Z, Z⟩, false, Z, H, c8.gr.g0⟩))))
    have H := Xq H ax;refine Xi ax Z (Xi ax Z (Xi ax Z (Xi ax Z (Xr Z (Xr Z (Xr Z (Xr Z (Xr Z ?_))))))));refine Xr Z (Xr Z (Xr Z (Xr Z (Xr Z (Xr Z (Xi ax Z (Xa (Xk false (vb false) ax Z) (Xg (vb false) Z ?_))))))));exact Xb (Xn ⟨[vb false], ⟨_, Z, Z⟩, false, Z, H, bp.gr.g0⟩)
   have H := Xq H aw;refine Xi aw Z (Xi aw Z (Xi aw Z (Xi aw Z (Xi aw Z (Xi aw Z (Xh ab Z (Xa (Xk false (vb false) aw Z) (Xa (Xk false (vb false) ab Z) ?_))))))));refine Xe (vb false) Z (X6 (dj := 70) Z Z (.inl Z) (X6 (dj := 70) Z Z (.inl Z) (X6 (dj := 70) Z Z (.inl Z) (X6 (dj := 70) Z Z (.inl Z) (Xr Z (Xr Z (Xr Z (Xr Z ?_))))))));refine Xr Z (Xr Z (Xr Z (Xr Z (Xr Z (Xr Z (Xr Z (X6 (dj := 70) Z Z (.inl Z) (Xa (Xk false (vb false) Z Z) ?_))))))));exact Xg (vb false) Z (Xb (Xn ⟨[vb false], ⟨_, Z, Z⟩, false, Z, H, bp.gr.g0⟩))
  have H := Xq H bb;refine Xi bb Z (Xi bb Z (Xi bb Z (Xi bb Z (Xi bb Z (Yf (dj := 17) Z Z Z (Xa (Xk false (vb false) bb Z) (Xa (Xk false (vb false) Z Z) (Xb ?_))))))));refine Y0 (b := false) Z Z ?_;refine Xx (Xc (Xc (Xd (Xa (Xj fa62_1 (Ad aa 0) (Ad aa 1) Z Z) (Xa (Xo ag4 cL (Ad aa 1) (vb c_.Had) Z (al.cell Z)) (Xa (X7 c_.Had Z) (Xe (vb (!c_.Had)) Z (Xi ab Z ?_))))))));refine Xi ab Z (Xi ab Z (Xi ab Z (Xi ab Z (Xa (Xk false (vb false) ab Z) (Xe (vb false) Z (Yf (dj := 42) Z Z Z (Xa (Xj fa62_3 (Ad aa 0) (Ad aa 6) Z Z) (Yf (dj := 42) Z Z Z ?_))))))));refine Xa (Xo ag4 cL (Ad aa 6) (vb c_.Has) Z (al.cell Z)) (Yf (dj := 42) Z Z Z (Xa (X7 c_.Has Z) (Yf (dj := 42) Z Z Z (Xe (vb (!c_.Has)) Z ?_))));rcases X2 (!c_.Has) with an | an
  ·have H := Xp H an;refine Xh an Z (Xa (Xj fa62_4 (Ad aa 0) (Ad aa 7) Z Z) (Xh an Z (Xa (Xv ag44 sz44 cL (Ad aa 7) [vs c_.Now.Id, vi c_.Now.Shape.Kind, G af ag ah, G ai aj ak] Z Z (al.cells (off := 7) Z)) (Xh an Z (Xa (Yl (.agg #[vs [], vi 0, G none 0 0, G none 0 0]) RF) (Xh an Z ?_))))));refine Xu go94 (F45.calls H ad.ok bg (bh.st ad.st) (bi.st ad.st) RD (Sl.nil _ _ _ none 0 RD) (Sl.nil _ _ _ none 0 RD)) Z ?_;rintro _ eb ⟨r14, rfl, H, da⟩;have bx := ad.k0 da;refine Xh an Z (Xa (X7 r14 Z) (Yf (dj := 42) Z Z Z (Xa (Xk true (vb (!r14)) an Z) (Xa (Xk false (vb (!r14)) Z Z) (Xb ?_)))));refine Xz (!r14) Z (fun ce => ?_) (fun ce => ?_)
   ·have H := Xp H ce;exact Xc (Xd (Xg (vb false) Z (Xb (Xn ⟨[vb false], ⟨_, Z, Z⟩, false, Z, H, bx.gr.g0⟩))))
   have H := Xq H ce;refine Xx (Xc (Xd (Xa (Xj fa62_1 (Ad aa 0) (Ad aa 1) Z Z) ?_)));have ec := ad.stn da;have cf := (al.st ec);refine Xa (Xo ag4 cL (Ad aa 1) (vb c_.Had) Z (cf.cell Z)) (Xa (X7 c_.Had Z) (Xe (vb (!c_.Had)) Z (Xh ab Z (Xa (Xj fa62_2 (Ad aa 0) (Ad aa 2) Z Z) (Xh ab Z (Xa (Xv ag44 sz44 cL (Ad aa 2) [vs c_.Was.Id, vi c_.Was.Shape.Kind, G A3 n4 c5, G A8 n9 ae] Z Z (cf.cells (off := 2) Z)) (Xh ab Z ?_)))))));refine Xu go24 (F87.calls H bx.ok hs2 (hp6.st bx.st) (bf.st bx.st)) Z ?_;rintro _ es ⟨r15, rfl, H, db⟩;have cg := bx.k0 db;refine Xh ab Z (Xe (vb r15) Z ?_);rcases X2 r15 with az | az
   ·have H := Xp H az;refine Xh az Z (Xa (Xj fa62_2 (Ad aa 0) (Ad aa 2) Z Z) (Xh az Z (Xa (Xj fa44_0 (Ad aa 2) (Ad aa 2) Z Z) (Xh az Z ?_))));have ed := bx.stn db;have ch := (cf.st ed);refine Xa (Xo ag9 cL (Ad aa 2) (vs c_.Was.Id) Z (ch.cell Z)) (Xh az Z (Xa (Xj fa62_0 (Ad aa 0) (Ad aa 0) Z Z) (Xh az Z (Xa (Xo ag9 cL (Ad aa 0) (vs c_.Id) Z (ch.cell Z)) (Xh az Z (Xa (Yi c_.Was.Id c_.Id (c_.Was.Id == c_.Id) Z Z Z) (Xh ab Z (Xa (Xk true (vb (c_.Was.Id == c_.Id)) az Z) ?_))))))));refine Xa (Xk false (vb (c_.Was.Id == c_.Id)) ab Z) (Xe (vb (c_.Was.Id == c_.Id)) Z ?_);rcases X2 (c_.Was.Id == c_.Id) with bd | bd
    ·have H := Xp H bd;refine Xh bd Z (Xa (Xj fa62_3 (Ad aa 0) (Ad aa 6) Z Z) (Xh bd Z (Xa (Xo ag4 cL (Ad aa 6) (vb c_.Has) Z (ch.cell Z)) (Xh bd Z (Xa (X7 c_.Has Z) (Xh bd Z (Xe (vb (!c_.Has)) Z (Xi an Z ?_))))))));refine Xi an Z (Xi an Z (Xi an Z (Xr Z (Xr Z (Xr Z (Xr Z (Xr Z (Xr Z ?_))))))));exact Xi an Z (Xh bd Z (Xa (Xk true (vb true) an Z) (Xa (Xk true (vb true) bd Z) (Xg (vb true) Z (Xb (Xn ⟨[vb true], ⟨_, Z, Z⟩, true, Z, H, cg.gr.g0⟩))))))
    have H := Xq H bd;refine Xi bd Z (Xi bd Z (Xi bd Z (Xi bd Z (Xr Z (Xr Z (Xr Z (Xr Z (Xr Z ?_))))))));refine Xr Z (Xr Z (Xr Z (Xr Z (Xr Z (Xr Z (Xi bd Z (Xa (Xk false (vb false) bd Z) (Xg (vb false) Z ?_))))))));exact Xb (Xn ⟨[vb false], ⟨_, Z, Z⟩, false, Z, H, cg.gr.g0⟩)
   have H := Xq H az;refine Xi az Z (Xi az Z (Xi az Z (Xi az Z (Xi az Z (Xi az Z (Xh ab Z (Xa (Xk false (vb false) az Z) (Xa (Xk false (vb false) ab Z) ?_))))))));refine Xe (vb false) Z (X6 (dj := 70) Z Z (.inl Z) (X6 (dj := 70) Z Z (.inl Z) (X6 (dj := 70) Z Z (.inl Z) (X6 (dj := 70) Z Z (.inl Z) (Xr Z (Xr Z (Xr Z (Xr Z ?_))))))));refine Xr Z (Xr Z (Xr Z (Xr Z (Xr Z (Xr Z (Xr Z (X6 (dj := 70) Z Z (.inl Z) (Xa (Xk false (vb false) Z Z) ?_))))))));exact Xg (vb false) Z (Xb (Xn ⟨[vb false], ⟨_, Z, Z⟩, false, Z, H, cg.gr.g0⟩))
  have H := Xq H an;refine Xi an Z (Xi an Z (Xi an Z (Xi an Z (Xi an Z (Yf (dj := 42) Z Z Z (Xa (Xk false (vb false) an Z) (Xa (Xk false (vb false) Z Z) (Xb ?_))))))));refine Y0 (b := false) Z Z ?_;refine Xx (Xc (Xd (Xa (Xj fa62_1 (Ad aa 0) (Ad aa 1) Z Z) (Xa (Xo ag4 cL (Ad aa 1) (vb c_.Had) Z (al.cell Z)) (Xa (X7 c_.Had Z) (Xe (vb (!c_.Had)) Z (Xh ab Z (Xa (Xj fa62_2 (Ad aa 0) (Ad aa 2) Z Z) ?_))))))));refine Xh ab Z (Xa (Xv ag44 sz44 cL (Ad aa 2) [vs c_.Was.Id, vi c_.Was.Shape.Kind, G A3 n4 c5, G A8 n9 ae] Z Z (al.cells (off := 2) Z)) (Xh ab Z ?_));refine Xu go24 (F87.calls H ad.ok hs2 (hp6.st ad.st) (bf.st ad.st)) Z ?_;rintro _ ee ⟨r16, rfl, H, dc⟩;have bq := ad.k0 dc;refine Xh ab Z (Xe (vb r16) Z ?_);rcases X2 r16 with a0 | a0
  ·have H := Xp H a0;refine Xh a0 Z (Xa (Xj fa62_2 (Ad aa 0) (Ad aa 2) Z Z) (Xh a0 Z (Xa (Xj fa44_0 (Ad aa 2) (Ad aa 2) Z Z) (Xh a0 Z ?_))));have ef := ad.stn dc;have b4 := (al.st ef);refine Xa (Xo ag9 cL (Ad aa 2) (vs c_.Was.Id) Z (b4.cell Z)) (Xh a0 Z (Xa (Xj fa62_0 (Ad aa 0) (Ad aa 0) Z Z) (Xh a0 Z (Xa (Xo ag9 cL (Ad aa 0) (vs c_.Id) Z (b4.cell Z)) (Xh a0 Z (Xa (Yi c_.Was.Id c_.Id (c_.Was.Id == c_.Id) Z Z Z) (Xh ab Z (Xa (Xk true (vb (c_.Was.Id == c_.Id)) a0 Z) ?_))))))));refine Xa (Xk false (vb (c_.Was.Id == c_.Id)) ab Z) (Xe (vb (c_.Was.Id == c_.Id)) Z ?_);rcases X2 (c_.Was.Id == c_.Id) with a1 | a1
   ·have H := Xp H a1;refine Xh a1 Z (Xa (Xj fa62_3 (Ad aa 0) (Ad aa 6) Z Z) (Xh a1 Z (Xa (Xo ag4 cL (Ad aa 6) (vb c_.Has) Z (b4.cell Z)) (Xh a1 Z (Xa (X7 c_.Has Z) (Xh a1 Z (Xe (vb (!c_.Has)) Z (Xh an Z ?_))))))));refine Xa (Xj fa62_4 (Ad aa 0) (Ad aa 7) Z Z) (Xh an Z (Xa (Xv ag44 sz44 cL (Ad aa 7) [vs c_.Now.Id, vi c_.Now.Shape.Kind, G af ag ah, G ai aj ak] Z Z (b4.cells (off := 7) Z)) (Xh an Z ?_)));refine Xu go24 (F87.calls H bq.ok bg (bh.st bq.st) (bi.st bq.st)) Z ?_;rintro _ et ⟨r17, rfl, H, dd⟩;have de := bq.k0 dd;refine Xh an Z (Xe (vb r17) Z ?_);rcases X2 r17 with a2 | a2
    ·have H := Xp H a2;refine Xh a2 Z (Xa (Xj fa62_4 (Ad aa 0) (Ad aa 7) Z Z) (Xh a2 Z (Xa (Xj fa44_0 (Ad aa 7) (Ad aa 7) Z Z) (Xh a2 Z ?_))));have eg := bq.stn dd;have df := (b4.st eg);refine Xa (Xo ag9 cL (Ad aa 7) (vs c_.Now.Id) Z (df.cell Z)) (Xh a2 Z (Xa (Xj fa62_0 (Ad aa 0) (Ad aa 0) Z Z) (Xh a2 Z (Xa (Xo ag9 cL (Ad aa 0) (vs c_.Id) Z (df.cell Z)) (Xh a2 Z (Xa (Yi c_.Now.Id c_.Id (c_.Now.Id == c_.Id) Z Z Z) (Xh an Z (Xa (Xk true (vb (c_.Now.Id == c_.Id)) a2 Z) ?_))))))));exact Xh a1 Z (Xa (Xk false (vb (c_.Now.Id == c_.Id)) an Z) (Xa (Xk true (vb (c_.Now.Id == c_.Id)) a1 Z) (Xg (vb (c_.Now.Id == c_.Id)) Z (Xb (Xn ⟨[vb (c_.Now.Id == c_.Id)], ⟨_, Z, Z⟩, c_.Now.Id == c_.Id, Z, H, de.gr.g0⟩)))))
    have H := Xq H a2;refine Xi a2 Z (Xi a2 Z (Xi a2 Z (Xi a2 Z (Xi a2 Z (Xi a2 Z (Xh an Z (Xa (Xk false (vb false) a2 Z) (Xh a1 Z ?_))))))));exact Xa (Xk false (vb false) an Z) (Xa (Xk true (vb false) a1 Z) (Xg (vb false) Z (Xb (Xn ⟨[vb false], ⟨_, Z, Z⟩, false, Z, H, de.gr.g0⟩))))
   have H := Xq H a1;refine Xi a1 Z (Xi a1 Z (Xi a1 Z (Xi a1 Z (Xr Z (Xr Z (Xr Z (Xr Z (Xr Z ?_))))))));refine Xr Z (Xr Z (Xr Z (Xr Z (Xr Z (Xr Z (Xi a1 Z (Xa (Xk false (vb false) a1 Z) (Xg (vb false) Z ?_))))))));exact Xb (Xn ⟨[vb false], ⟨_, Z, Z⟩, false, Z, H, bq.gr.g0⟩)
  have H := Xq H a0;refine Xi a0 Z (Xi a0 Z (Xi a0 Z (Xi a0 Z (Xi a0 Z (Xi a0 Z (Xh ab Z (Xa (Xk false (vb false) a0 Z) (Xa (Xk false (vb false) ab Z) ?_))))))));refine Xe (vb false) Z (X6 (dj := 70) Z Z (.inl Z) (X6 (dj := 70) Z Z (.inl Z) (X6 (dj := 70) Z Z (.inl Z) (X6 (dj := 70) Z Z (.inl Z) (Xr Z (Xr Z (Xr Z (Xr Z ?_))))))));refine Xr Z (Xr Z (Xr Z (Xr Z (Xr Z (Xr Z (Xr Z (X6 (dj := 70) Z Z (.inl Z) (Xa (Xk false (vb false) Z Z) ?_))))))));exact Xg (vb false) Z (Xb (Xn ⟨[vb false], ⟨_, Z, Z⟩, false, Z, H, bq.gr.g0⟩))
 have H := Xq H bm;refine Xi bm Z (Xi bm Z (Yf (dj := 17) Z Z Z (Xa (Xk false (vb false) bm Z) (Yf (dj := 17) Z Z Z (Xe (vb false) Z (X6 (dj := 24) Z Z (.inl Z) (X6 (dj := 24) Z Z (.inl Z) (X6 (dj := 24) Z Z (.inl Z) ?_))))))));refine X6 (dj := 24) Z Z (.inl Z) (X6 (dj := 24) Z Z (.inl Z) (Yf (dj := 17) Z Z Z (Xa (Xk false (vb false) Z Z) (Xa (Xk false (vb false) Z Z) (Xb (Y0 (b := false) Z Z ?_))))));refine Xx (Xc (Xc (Xd (Xa (Xj fa62_1 (Ad aa 0) (Ad aa 1) Z Z) (Xa (Xo ag4 cL (Ad aa 1) (vb c_.Had) Z (al.cell Z)) (Xa (X7 c_.Had Z) (Xe (vb (!c_.Had)) Z (Xi ab Z ?_))))))));refine Xi ab Z (Xi ab Z (Xi ab Z (Xi ab Z (Xa (Xk false (vb false) ab Z) (Xe (vb false) Z (Yf (dj := 42) Z Z Z (Xa (Xj fa62_3 (Ad aa 0) (Ad aa 6) Z Z) (Yf (dj := 42) Z Z Z ?_))))))));refine Xa (Xo ag4 cL (Ad aa 6) (vb c_.Has) Z (al.cell Z)) (Yf (dj := 42) Z Z Z (Xa (X7 c_.Has Z) (Yf (dj := 42) Z Z Z (Xe (vb (!c_.Has)) Z ?_))));rcases X2 (!c_.Has) with ao | ao
 ·have H := Xp H ao;refine Xh ao Z (Xa (Xj fa62_4 (Ad aa 0) (Ad aa 7) Z Z) (Xh ao Z (Xa (Xv ag44 sz44 cL (Ad aa 7) [vs c_.Now.Id, vi c_.Now.Shape.Kind, G af ag ah, G ai aj ak] Z Z (al.cells (off := 7) Z)) (Xh ao Z (Xa (Yl (.agg #[vs [], vi 0, G none 0 0, G none 0 0]) RF) (Xh ao Z ?_))))));refine Xu go94 (F45.calls H ad.ok bg (bh.st ad.st) (bi.st ad.st) RD (Sl.nil _ _ _ none 0 RD) (Sl.nil _ _ _ none 0 RD)) Z ?_;rintro _ eh ⟨r18, rfl, H, dg⟩;have bz := ad.k0 dg;refine Xh ao Z (Xa (X7 r18 Z) (Yf (dj := 42) Z Z Z (Xa (Xk true (vb (!r18)) ao Z) (Xa (Xk false (vb (!r18)) Z Z) (Xb ?_)))));refine Xz (!r18) Z (fun ci => ?_) (fun ci => ?_)
  ·have H := Xp H ci;exact Xc (Xd (Xg (vb false) Z (Xb (Xn ⟨[vb false], ⟨_, Z, Z⟩, false, Z, H, bz.gr.g0⟩))))
  have H := Xq H ci;refine Xx (Xc (Xd (Xa (Xj fa62_1 (Ad aa 0) (Ad aa 1) Z Z) ?_)));have ei := ad.stn dg;have cj := (al.st ei);refine Xa (Xo ag4 cL (Ad aa 1) (vb c_.Had) Z (cj.cell Z)) (Xa (X7 c_.Had Z) (Xe (vb (!c_.Had)) Z (Xh ab Z (Xa (Xj fa62_2 (Ad aa 0) (Ad aa 2) Z Z) (Xh ab Z (Xa (Xv ag44 sz44 cL (Ad aa 2) [vs c_.Was.Id, vi c_.Was.Shape.Kind, G A3 n4 c5, G A8 n9 ae] Z Z (cj.cells (off := 2) Z)) (Xh ab Z ?_)))))));refine Xu go24 (F87.calls H bz.ok hs2 (hp6.st bz.st) (bf.st bz.st)) Z ?_;rintro _ eu ⟨r19, rfl, H, dh⟩;have ck := bz.k0 dh;refine Xh ab Z (Xe (vb r19) Z ?_);rcases X2 r19 with a3 | a3
  ·have H := Xp H a3;refine Xh a3 Z (Xa (Xj fa62_2 (Ad aa 0) (Ad aa 2) Z Z) (Xh a3 Z (Xa (Xj fa44_0 (Ad aa 2) (Ad aa 2) Z Z) (Xh a3 Z ?_))));have ej := bz.stn dh;have cl := (cj.st ej);refine Xa (Xo ag9 cL (Ad aa 2) (vs c_.Was.Id) Z (cl.cell Z)) (Xh a3 Z (Xa (Xj fa62_0 (Ad aa 0) (Ad aa 0) Z Z) (Xh a3 Z (Xa (Xo ag9 cL (Ad aa 0) (vs c_.Id) Z (cl.cell Z)) (Xh a3 Z (Xa (Yi c_.Was.Id c_.Id (c_.Was.Id == c_.Id) Z Z Z) (Xh ab Z (Xa (Xk true (vb (c_.Was.Id == c_.Id)) a3 Z) ?_))))))));refine Xa (Xk false (vb (c_.Was.Id == c_.Id)) ab Z) (Xe (vb (c_.Was.Id == c_.Id)) Z ?_);rcases X2 (c_.Was.Id == c_.Id) with be | be
   ·have H := Xp H be;refine Xh be Z (Xa (Xj fa62_3 (Ad aa 0) (Ad aa 6) Z Z) (Xh be Z (Xa (Xo ag4 cL (Ad aa 6) (vb c_.Has) Z (cl.cell Z)) (Xh be Z (Xa (X7 c_.Has Z) (Xh be Z (Xe (vb (!c_.Has)) Z (Xi ao Z ?_))))))));refine Xi ao Z (Xi ao Z (Xi ao Z (Xr Z (Xr Z (Xr Z (Xr Z (Xr Z (Xr Z ?_))))))));exact Xi ao Z (Xh be Z (Xa (Xk true (vb true) ao Z) (Xa (Xk true (vb true) be Z) (Xg (vb true) Z (Xb (Xn ⟨[vb true], ⟨_, Z, Z⟩, true, Z, H, ck.gr.g0⟩))))))
   have H := Xq H be;refine Xi be Z (Xi be Z (Xi be Z (Xi be Z (Xr Z (Xr Z (Xr Z (Xr Z (Xr Z ?_))))))));refine Xr Z (Xr Z (Xr Z (Xr Z (Xr Z (Xr Z (Xi be Z (Xa (Xk false (vb false) be Z) (Xg (vb false) Z ?_))))))));exact Xb (Xn ⟨[vb false], ⟨_, Z, Z⟩, false, Z, H, ck.gr.g0⟩)
  have H := Xq H a3;refine Xi a3 Z (Xi a3 Z (Xi a3 Z (Xi a3 Z (Xi a3 Z (Xi a3 Z (Xh ab Z (Xa (Xk false (vb false) a3 Z) (Xa (Xk false (vb false) ab Z) ?_))))))));refine Xe (vb false) Z (X6 (dj := 70) Z Z (.inl Z) (X6 (dj := 70) Z Z (.inl Z) (X6 (dj := 70) Z Z (.inl Z) (X6 (dj := 70) Z Z (.inl Z) (Xr Z (Xr Z (Xr Z (Xr Z ?_))))))));refine Xr Z (Xr Z (Xr Z (Xr Z (Xr Z (Xr Z (Xr Z (X6 (dj := 70) Z Z (.inl Z) (Xa (Xk false (vb false) Z Z) ?_))))))));exact Xg (vb false) Z (Xb (Xn ⟨[vb false], ⟨_, Z, Z⟩, false, Z, H, ck.gr.g0⟩))
 have H := Xq H ao;refine Xi ao Z (Xi ao Z (Xi ao Z (Xi ao Z (Xi ao Z (Yf (dj := 42) Z Z Z (Xa (Xk false (vb false) ao Z) (Xa (Xk false (vb false) Z Z) (Xb ?_))))))));refine Y0 (b := false) Z Z ?_;refine Xx (Xc (Xd (Xa (Xj fa62_1 (Ad aa 0) (Ad aa 1) Z Z) (Xa (Xo ag4 cL (Ad aa 1) (vb c_.Had) Z (al.cell Z)) (Xa (X7 c_.Had Z) (Xe (vb (!c_.Had)) Z (Xh ab Z (Xa (Xj fa62_2 (Ad aa 0) (Ad aa 2) Z Z) ?_))))))));refine Xh ab Z (Xa (Xv ag44 sz44 cL (Ad aa 2) [vs c_.Was.Id, vi c_.Was.Shape.Kind, G A3 n4 c5, G A8 n9 ae] Z Z (al.cells (off := 2) Z)) (Xh ab Z ?_));refine Xu go24 (F87.calls H ad.ok hs2 (hp6.st ad.st) (bf.st ad.st)) Z ?_;rintro _ ek ⟨r20, rfl, H, di⟩;have br := ad.k0 di;refine Xh ab Z (Xe (vb r20) Z ?_);rcases X2 r20 with a4 | a4
 ·have H := Xp H a4;refine Xh a4 Z (Xa (Xj fa62_2 (Ad aa 0) (Ad aa 2) Z Z) (Xh a4 Z (Xa (Xj fa44_0 (Ad aa 2) (Ad aa 2) Z Z) (Xh a4 Z ?_))));have el := ad.stn di;have b5 := (al.st el);refine Xa (Xo ag9 cL (Ad aa 2) (vs c_.Was.Id) Z (b5.cell Z)) (Xh a4 Z (Xa (Xj fa62_0 (Ad aa 0) (Ad aa 0) Z Z) (Xh a4 Z (Xa (Xo ag9 cL (Ad aa 0) (vs c_.Id) Z (b5.cell Z)) (Xh a4 Z (Xa (Yi c_.Was.Id c_.Id (c_.Was.Id == c_.Id) Z Z Z) (Xh ab Z (Xa (Xk true (vb (c_.Was.Id == c_.Id)) a4 Z) ?_))))))));refine Xa (Xk false (vb (c_.Was.Id == c_.Id)) ab Z) (Xe (vb (c_.Was.Id == c_.Id)) Z ?_);rcases X2 (c_.Was.Id == c_.Id) with a5 | a5
  ·have H := Xp H a5;refine Xh a5 Z (Xa (Xj fa62_3 (Ad aa 0) (Ad aa 6) Z Z) (Xh a5 Z (Xa (Xo ag4 cL (Ad aa 6) (vb c_.Has) Z (b5.cell Z)) (Xh a5 Z (Xa (X7 c_.Has Z) (Xh a5 Z (Xe (vb (!c_.Has)) Z (Xh ao Z ?_))))))));refine Xa (Xj fa62_4 (Ad aa 0) (Ad aa 7) Z Z) (Xh ao Z (Xa (Xv ag44 sz44 cL (Ad aa 7) [vs c_.Now.Id, vi c_.Now.Shape.Kind, G af ag ah, G ai aj ak] Z Z (b5.cells (off := 7) Z)) (Xh ao Z ?_)));refine Xu go24 (F87.calls H br.ok bg (bh.st br.st) (bi.st br.st)) Z ?_;rintro _ ev ⟨r21, rfl, H, dk⟩;have dl := br.k0 dk;refine Xh ao Z (Xe (vb r21) Z ?_);rcases X2 r21 with a6 | a6
   ·have H := Xp H a6;refine Xh a6 Z (Xa (Xj fa62_4 (Ad aa 0) (Ad aa 7) Z Z) (Xh a6 Z (Xa (Xj fa44_0 (Ad aa 7) (Ad aa 7) Z Z) (Xh a6 Z ?_))));have em := br.stn dk;have dm := (b5.st em);refine Xa (Xo ag9 cL (Ad aa 7) (vs c_.Now.Id) Z (dm.cell Z)) (Xh a6 Z (Xa (Xj fa62_0 (Ad aa 0) (Ad aa 0) Z Z) (Xh a6 Z (Xa (Xo ag9 cL (Ad aa 0) (vs c_.Id) Z (dm.cell Z)) (Xh a6 Z (Xa (Yi c_.Now.Id c_.Id (c_.Now.Id == c_.Id) Z Z Z) (Xh ao Z (Xa (Xk true (vb (c_.Now.Id == c_.Id)) a6 Z) ?_))))))));exact Xh a5 Z (Xa (Xk false (vb (c_.Now.Id == c_.Id)) ao Z) (Xa (Xk true (vb (c_.Now.Id == c_.Id)) a5 Z) (Xg (vb (c_.Now.Id == c_.Id)) Z (Xb (Xn ⟨[vb (c_.Now.Id == c_.Id)], ⟨_, Z, Z⟩, c_.Now.Id == c_.Id, Z, H, dl.gr.g0⟩)))))
   have H := Xq H a6;refine Xi a6 Z (Xi a6 Z (Xi a6 Z (Xi a6 Z (Xi a6 Z (Xi a6 Z (Xh ao Z (Xa (Xk false (vb false) a6 Z) (Xh a5 Z ?_))))))));exact Xa (Xk false (vb false) ao Z) (Xa (Xk true (vb false) a5 Z) (Xg (vb false) Z (Xb (Xn ⟨[vb false], ⟨_, Z, Z⟩, false, Z, H, dl.gr.g0⟩))))
  have H := Xq H a5;refine Xi a5 Z (Xi a5 Z (Xi a5 Z (Xi a5 Z (Xr Z (Xr Z (Xr Z (Xr Z (Xr Z ?_))))))));refine Xr Z (Xr Z (Xr Z (Xr Z (Xr Z (Xr Z (Xi a5 Z (Xa (Xk false (vb false) a5 Z) (Xg (vb false) Z ?_))))))));exact Xb (Xn ⟨[vb false], ⟨_, Z, Z⟩, false, Z, H, br.gr.g0⟩)
 have H := Xq H a4;refine Xi a4 Z (Xi a4 Z (Xi a4 Z (Xi a4 Z (Xi a4 Z (Xi a4 Z (Xh ab Z (Xa (Xk false (vb false) a4 Z) (Xa (Xk false (vb false) ab Z) ?_))))))));refine Xe (vb false) Z (X6 (dj := 70) Z Z (.inl Z) (X6 (dj := 70) Z Z (.inl Z) (X6 (dj := 70) Z Z (.inl Z) (X6 (dj := 70) Z Z (.inl Z) (Xr Z (Xr Z (Xr Z (Xr Z ?_))))))));refine Xr Z (Xr Z (Xr Z (Xr Z (Xr Z (Xr Z (Xr Z (X6 (dj := 70) Z Z (.inl Z) (Xa (Xk false (vb false) Z Z) ?_))))))));exact Xg (vb false) Z (Xb (Xn ⟨[vb false], ⟨_, Z, Z⟩, false, Z, H, br.gr.g0⟩))
def F101.E (d : List Change) (Q : Bool → Prop) : Prop :=
 (∃ (I18 : Int → Prop) (mu19 : Int → Nat), I18 0 ∧ ∀ (i2 : Int), I18 i2 → (if decide (i2 < (d.length : Int)) then ((0 : Int) ≤ i2 ∧ i2 < (d.length : Int)) ∧ (∃ q : Bool, F130.E (nth d i2) (fun x => x = q) ∧ (if !q then Q false else (if decide (i2 > 0) then ((0 : Int) ≤ i2 ∧ i2 < (d.length : Int)) ∧ ((d.length : Int) ≤ 9223372036854775807 → I64 (i2 - 1)) ∧ ((0 : Int) ≤ i2 - 1 ∧ i2 - 1 < (d.length : Int)) ∧ (if Op.bytesLess ((nth d i2).Id) ((nth d (i2 - 1)).Id) || ((nth d i2).Id) == ((nth d (i2 - 1)).Id) then Q false else (-9223372036854775808 ≤ i2) ∧ I18 (i2 + 1) ∧ mu19 (i2 + 1) < mu19 i2) else (-9223372036854775808 ≤ i2) ∧ I18 (i2 + 1) ∧ mu19 (i2 + 1) < mu19 i2))) else Q (decide ((d.length : Int) ≤ 16))))
theorem F101.calls {d : List Change} {A1 : Option Addr} {n2 c3 : Nat} {Q : Bool → Prop} (H : F101.E d Q) (hO : Ok w0 O) (hp4 : Sl kChange w0 (Fr O) (G A1 n2 c3) d) :
  Ret Tryz.prog 15 [G A1 n2 c3] w0 (fun v w' => ∃ (r0 : Bool), v = vb r0 ∧ Q r0 ∧ Gr w0 w' none) := by
 unfold F101.E at H;have hc0 := Ct.init hO;refine X9 Tryz.func15 Z 37 Z [.tmp 2] Z Z ?_;refine Xc (Xd (Xg (vb false) Z (Xb (Xc (Xc (Xd (Xg (vi 0) Z (Xb ?_))))))));refine X8 ?_;obtain ⟨a6, a7, ai, H⟩ := H;refine Yj (α := Int) (fun (sv__ : Int) t af => match sv__ with | i2 => a6 i2 ∧ Has t [(0, G A1 n2 c3), (3, vi i2)] ∧ Ct [] w0 af [] O ∧ Sl kChange af (Fr ([] ++ O)) (G A1 n2 c3) d) (fun (sv__ : Int) => match sv__ with | i2 => a7 i2) 0 ⟨ai, (X0 Z), hc0, hp4⟩ ?_;rintro i2 _ af ⟨ai, a8, ad, ac⟩;obtain ⟨b7, rfl⟩ := Has.ins a8;have H := H i2 ai;refine Xc (Xc (Xd (Xe (vi i2) Z (Xe (G A1 n2 c3) Z ?_))));have aj := ac.le;refine Xa (Yc u23_ A1 n2 c3 ac.len Z) (Xa (X1 i2 (d.length : Int) (decide (i2 < (d.length : Int))) Z Z Z) (Xb ?_));refine Xz (decide (i2 < (d.length : Int))) Z (fun ae => ?_) (fun ae => ?_)
 ·have H := Xp H ae;refine Xx (Xc (X8 (Xc (Ys (fun x => Gr af x none) RK RK (Gr.drew _) ?_))));refine Xs (G A1 n2 c3) Z (Xs (vi i2) Z ?_);obtain ⟨az, H⟩ := H;obtain ⟨a0, b8, a9, b9, ba, bb⟩ := ac.get default RD i2 az;obtain ⟨ak, al, am, an, ao, ap, aq, ar, au, av, aw, ax, rfl, bc, bd, be, bf, bg, bh, bi⟩ := kChange.op ba;refine Xf (X3 u23_ Y4 A1 a0 n2 c3 ac.len i2 Z a9 Z az) (Xf (Xv ag62 sz62 cQ (a0.add (i2.toNat * 11)) [vs ((nth d i2).Id), vb ((nth d i2).Had), vs ((nth d i2).Was.Id), vi ((nth d i2).Was.Shape.Kind), G ak al am, G an ao ap, vb ((nth d i2).Has), vs ((nth d i2).Now.Id), vi ((nth d i2).Now.Shape.Kind), G aq ar au, G av aw ax] Z Z bb) ?_);obtain ⟨q, bj, H⟩ := H;refine Yq go46 [.agg #[vs ((nth d i2).Id), vb ((nth d i2).Had), vs ((nth d i2).Was.Id), vi ((nth d i2).Was.Shape.Kind), G ak al am, G an ao ap, vb ((nth d i2).Has), vs ((nth d i2).Now.Id), vi ((nth d i2).Now.Shape.Kind), G aq ar au, G av aw ax]] Z (vb q) (fun w g => (F130.calls bj (ad.k0 g).ok bc bd (be.st (.new _ g)) (bf.st (.new _ g)) bg (bh.st (.new _ g)) (bi.st (.new _ g))).mono ?_) ?_
  ·rintro _ w ⟨r, rfl, rfl, g2⟩;exact ⟨Z, Gr.t0 g g2⟩
  refine Xf (X7 q Z) (Xs (vb (!q)) Z ?_);rcases X2 (!q) with ab | ab
  ·have H := Xp H ab;refine Xm ab Z (Xm ab Z (Xm ab Z (Xw Z (Xw Z (Xw Z (Xw Z (Xw Z (Xw Z ?_))))))));refine Xw Z (Xw Z (Xw Z (Xw Z (Xw Z (Xw Z (Xm ab Z (Xf (Xk true (vb true) ab Z) (Ya fun ca bl => ?_))))))));have bm := ad.k0 bl;refine Yr (b := true) Z Z ?_;exact Xc (Xd (Xg (vb false) Z (Xb (Xn ⟨[vb false], ⟨_, Z, Z⟩, false, Z, H, bm.gr.g0⟩))))
  have H := Xq H ab;refine Xl ab Z (Xs (vi i2) Z (Xl ab Z (Xf (X1 i2 0 (decide (i2 > 0)) Z Z Z) (Xl ab Z (Xs (vb (decide (i2 > 0))) Z ?_)))));rcases X2 (decide (i2 > 0)) with aa | aa
  ·have H := Xp H aa;refine Xl aa Z (Xs (G A1 n2 c3) Z (Xl aa Z (Xs (vi i2) Z (Xl aa Z ?_))));obtain ⟨a1, H⟩ := H;obtain ⟨ag, cb, bn, cc, bo, bp⟩ := ac.get default RD i2 a1;obtain ⟨cd, ce, cf, cg, ch, ci, cj, ck, cl, cm, cn, co, rfl, cp, cq, cr, cs, ct, cu, cv⟩ := kChange.op bo;refine Xf (X3 u23_ Y4 A1 ag n2 c3 ac.len i2 Z bn Z a1) (Xl aa Z (Xf (Xj fa62_0 (ag.add (i2.toNat * 11)) ((ag.add (i2.toNat * 11)).add 0) Z Z) (Xl aa Z (Xf (Xo ag9 cQ ((ag.add (i2.toNat * 11)).add 0) (vs ((nth d i2).Id)) Z (bp 0 _ Z)) (Xl aa Z (Xs (G A1 n2 c3) Z (Xl aa Z (Xs (vi i2) Z ?_))))))));refine Xl aa Z ?_;obtain ⟨bq, H⟩ := H;have br := bq (len_le aj);refine Xf (Y3 i2 1 Z Z br) (Xl aa Z ?_);obtain ⟨a2, H⟩ := H;obtain ⟨ah, cw, bs, cx, bt, bu⟩ := ac.get default RD (i2 - 1) a2;obtain ⟨cy, cz, c0, c1, c2, c4, c5, c6, c7, c8, c9, da, rfl, db, dc, dd, de, df, dg, dh⟩ := kChange.op bt;refine Xf (X3 u23_ Y4 A1 ah n2 c3 ac.len (i2 - 1) Z bs Z a2) (Xl aa Z (Xf (Xj fa62_0 (ah.add ((i2 - 1).toNat * 11)) ((ah.add ((i2 - 1).toNat * 11)).add 0) Z Z) (Xl aa Z (Xf (Xo ag9 cQ ((ah.add ((i2 - 1).toNat * 11)).add 0) (vs ((nth d (i2 - 1)).Id)) Z (bu 0 _ Z)) (Xl aa Z (Xf (Yi ((nth d i2).Id) ((nth d (i2 - 1)).Id) (Op.bytesLess ((nth d i2).Id) ((nth d (i2 - 1)).Id) || ((nth d i2).Id) == ((nth d (i2 - 1)).Id)) Z Z Z) (Xl ab Z (Xf (Ym true (vb (Op.bytesLess ((nth d i2).Id) ((nth d (i2 - 1)).Id) || ((nth d i2).Id) == ((nth d (i2 - 1)).Id))) (by exact congrArg Value.bool aa) Z) ?_))))))));refine Xf (Ym false (vb (Op.bytesLess ((nth d i2).Id) ((nth d (i2 - 1)).Id) || ((nth d i2).Id) == ((nth d (i2 - 1)).Id))) (by exact congrArg Value.bool ab) Z) (Ya fun di a3 => ?_);have a4 := ad.k0 a3;refine Xz (Op.bytesLess ((nth d i2).Id) ((nth d (i2 - 1)).Id) || ((nth d i2).Id) == ((nth d (i2 - 1)).Id)) Z (fun ay => ?_) (fun ay => ?_)
   ·have H := Xp H ay;exact Xc (Xd (Xg (vb false) Z (Xb (Xn ⟨[vb false], ⟨_, Z, Z⟩, false, Z, H, a4.gr.g0⟩))))
   have H := Xq H ay;refine Xx (Xd (Xe (vi i2) Z ?_));obtain ⟨bv, H⟩ := H;have bw : I64 (i2 + 1) := i64_succ (of_decide_eq_true ae) aj bv;refine Xa (Yd i2 1 Z Z bw) (Xg (vi (i2 + 1)) Z (Xb ?_));obtain ⟨bx, bz⟩ := H;have b0 := ad.stn a3;exact ⟨i2 + 1, bz, bx, (X0 Z), a4, (ac.st b0)⟩
  have H := Xq H aa;refine Xm aa Z (Xm aa Z (Xm aa Z (Xm aa Z (Xm aa Z (Xm aa Z (Xm aa Z (Xm aa Z (Xm aa Z ?_))))))));refine Xm aa Z (Xm aa Z (Xm aa Z (Xl ab Z (Xf (Xk false (vb false) aa Z) (Xf (Xk false (vb false) ab Z) (Ya fun dj a5 => ?_))))));have b1 := ad.k0 a5;refine Y0 (b := false) Z Z ?_;refine Xx (Xd (Xe (vi i2) Z ?_));obtain ⟨b2, H⟩ := H;have b3 : I64 (i2 + 1) := i64_succ (of_decide_eq_true ae) aj b2;refine Xa (Yd i2 1 Z Z b3) (Xg (vi (i2 + 1)) Z (Xb ?_));obtain ⟨b4, b5⟩ := H;have b6 := ad.stn a5;exact ⟨i2 + 1, b5, b4, (X0 Z), b1, (ac.st b6)⟩
 have H := Xq H ae;refine Yh (xin_hit ?_);exact Xc (Xd (Xe (G A1 n2 c3) Z (Xa (Yc u23_ A1 n2 c3 ac.len Z) (Xa (X1 (d.length : Int) 16 (decide ((d.length : Int) ≤ 16)) Z Z Z) (Xg (vb (decide ((d.length : Int) ≤ 16))) Z (Xb (Xn ⟨[vb (decide ((d.length : Int) ≤ 16))], ⟨_, Z, Z⟩, decide ((d.length : Int) ≤ 16), Z, H, ad.gr.g0⟩)))))))
def F103.E (kind : Int) (Q : Str → Prop) : Prop :=
 ((0 : Int) ≤ kind ∧ kind < (([([] : Str), ([100, 111, 116] : Str), ([108, 105, 110, 101] : Str), ([114, 105, 110, 103] : Str)] : List Str).length : Int)) ∧ Q (nth ([([] : Str), ([100, 111, 116] : Str), ([108, 105, 110, 101] : Str), ([114, 105, 110, 103] : Str)] : List Str) kind)
theorem F103.calls {kind : Int} {Q : Str → Prop} (H : F103.E kind Q) (hO : Ok w0 O) :
  Ret Tryz.prog 164 [vi kind] w0 (fun v w' => ∃ (r0 : Str), v = vs r0 ∧ Q r0 ∧ Gr w0 w' none ∧ Lim r0) := by
 unfold F103.E at H;have hc0 := Ct.init hO;refine X9 Tryz.func164 Z 7 Z [.tmp 2] Z Z ?_;refine Xc (Xd (Xg (vs []) Z (Xb (Xc (Xd (Yb (kd := Kd.str) Y9 hc0 ([([] : Str), ([100, 111, 116] : Str), ([108, 105, 110, 101] : Str), ([114, 105, 110, 103] : Str)] : List Str) (cells := [vs [], vs ([100, 111, 116] : Str), vs ([108, 105, 110, 101] : Str), vs ([114, 105, 110, 103] : Str)]) ⟨[vs []], _, Z, ⟨Z, (by decide : Lim ([] : Str))⟩, ⟨[vs ([100, 111, 116] : Str)], _, Z, ⟨Z, (by decide : Lim ([100, 111, 116] : Str))⟩, ⟨[vs ([108, 105, 110, 101] : Str)], _, Z, ⟨Z, (by decide : Lim ([108, 105, 110, 101] : Str))⟩, ⟨[vs ([114, 105, 110, 103] : Str)], _, Z, ⟨Z, (by decide : Lim ([114, 105, 110, 103] : Str))⟩, Z⟩⟩⟩⟩ RF fun w1 A2 n3 c4 g5 hr6 hc7 h8 => ?_))))));refine Xe (vi kind) Z ?_;obtain ⟨aa, H⟩ := H;obtain ⟨ab, ah, ac, ad, ae⟩ := h8.get default RD kind aa;obtain ⟨rfl, af⟩ := Kd.str.op ad;refine Xa (X3 u50_ Zg A2 ab n3 c4 h8.len kind Z ac Z aa) (Xa (Xo ag9 cL (ab.add (kind.toNat * 1)) (vs (nth ([([] : Str), ([100, 111, 116] : Str), ([108, 105, 110, 101] : Str), ([114, 105, 110, 103] : Str)] : List Str) kind)) Z (ae 0 _ Z)) (Xg (vs (nth ([([] : Str), ([100, 111, 116] : Str), ([108, 105, 110, 101] : Str), ([114, 105, 110, 103] : Str)] : List Str) kind)) Z (Xb (Xn ?_))));have ag := hc7.drop 0 Z;exact ⟨[vs (nth ([([] : Str), ([100, 111, 116] : Str), ([108, 105, 110, 101] : Str), ([114, 105, 110, 103] : Str)] : List Str) kind)], ⟨_, Z, Z⟩, (nth ([([] : Str), ([100, 111, 116] : Str), ([108, 105, 110, 101] : Str), ([114, 105, 110, 103] : Str)] : List Str) kind), Z, H, ag.gr.g0, af⟩
def F104.Er (R : Int → (Str → Prop) → Prop) (n : Int) (Q : Str → Prop) : Prop :=
 (if decide (n < (-9223372036854775807)) then Q ([45, 57, 50, 50, 51, 51, 55, 50, 48, 51, 54, 56, 53, 52, 55, 55, 53, 56, 48, 56] : Str) else (if decide (n < 0) then (I64 (-n)) ∧ R (-n) (fun r => (([45] : Str).length + r.length ≤ 9223372036854775807) ∧ Q (([45] : Str) ++ r)) else (∃ (I20 : Int → Str → Prop) (mu21 : Int → Str → Nat), I20 n ([] : Str) ∧ ∀ (n3 : Int) (out2 : Str), I20 n3 out2 → (if decide (n3 > 9) then ((0 : Int) ≤ n3 ∧ (0 : Int) < 10) ∧ (I64 (48 + (n3 % 10))) ∧ ((0 : Int) ≤ 48 + (n3 % 10) ∧ 48 + (n3 % 10) ≤ (255 : Int)) ∧ (([(UInt8.ofNat (48 + (n3 % 10)).toNat)] : List UInt8).length + out2.length ≤ 9223372036854775807) ∧ (((0 : Int) ≤ n3 ∧ n3 ≤ (9223372036854775807 : Int)) ∧ (0 : Int) < 10) ∧ I20 (n3 / 10) (([(UInt8.ofNat (48 + (n3 % 10)).toNat)] : List UInt8) ++ out2) ∧ mu21 (n3 / 10) (([(UInt8.ofNat (48 + (n3 % 10)).toNat)] : List UInt8) ++ out2) < mu21 n3 out2 else (I64 (48 + n3)) ∧ ((0 : Int) ≤ 48 + n3 ∧ 48 + n3 ≤ (255 : Int)) ∧ (([(UInt8.ofNat (48 + n3).toNat)] : List UInt8).length + out2.length ≤ 9223372036854775807) ∧ Q (([(UInt8.ofNat (48 + n3).toNat)] : List UInt8) ++ out2)))))
theorem F104.callsr (R : Int → (Str → Prop) → Prop) (hR : ∀ {O : Ob} (w0 : World) (hO : Ok w0 O) (n : Int) (Q : Str → Prop) (h : R n Q), Ret Tryz.prog 165 [vi n] w0 (fun v w' => ∃ (r0 : Str), v = vs r0 ∧ Q r0 ∧ Gr w0 w' none ∧ Lim r0)) {O : Ob} (w0 : World) (hO : Ok w0 O) (n : Int) (Q : Str → Prop) (h : F104.Er R n Q) :
  Ret Tryz.prog 165 [vi n] w0 (fun v w' => ∃ (r0 : Str), v = vs r0 ∧ Q r0 ∧ Gr w0 w' none ∧ Lim r0) := by
 unfold F104.Er at h;have H := h;clear h;have hc0 := Ct.init hO;refine X9 Tryz.func165 Z 31 Z [.tmp 2] Z Z ?_;refine Xc (Xd (Xg (vs []) Z (Xb (Xc (Xc (Xd (Xe (vi n) Z (Xa (X1 n (-9223372036854775807) (decide (n < (-9223372036854775807))) Z Z Z) ?_))))))));refine Xb ?_;refine Xz (decide (n < (-9223372036854775807))) Z (fun hq1 => ?_) (fun hq1 => ?_)
 ·have H := Xp H hq1;exact Xc (Xd (Xg (vs ([45, 57, 50, 50, 51, 51, 55, 50, 48, 51, 54, 56, 53, 52, 55, 55, 53, 56, 48, 56] : Str)) Z (Xb (Xn ⟨[vs ([45, 57, 50, 50, 51, 51, 55, 50, 48, 51, 54, 56, 53, 52, 55, 55, 53, 56, 48, 56] : Str)], ⟨_, Z, Z⟩, ([45, 57, 50, 50, 51, 51, 55, 50, 48, 51, 54, 56, 53, 52, 55, 55, 53, 56, 48, 56] : Str), Z, H, hc0.gr.g0, (by decide : Lim ([45, 57, 50, 50, 51, 51, 55, 50, 48, 51, 54, 56, 53, 52, 55, 55, 53, 56, 48, 56] : Str))⟩))))
 have H := Xq H hq1;refine Xx (Xc (Xc (Xd (Xe (vi n) Z (Xa (X1 n 0 (decide (n < 0)) Z Z Z) (Xb ?_))))));refine Xz (decide (n < 0)) Z (fun hq2 => ?_) (fun hq2 => ?_)
 ·have H := Xp H hq2;refine Xc (Xd (Xe (vi n) Z ?_));obtain ⟨hb3, H⟩ := H;refine Xa (Z5 n Z hb3) ?_;refine Zo go165 [vi (-n)] Z ((hR w0 hc0.ok (-n) _ H).mono ?_);rintro _ w4 ⟨r, rfl, H, g5, hs6⟩;have aj := hc0.k0 g5;obtain ⟨ac, H⟩ := H;exact Xa (Yk ([45] : Str) r Z Z ac) (Xg (vs (([45] : Str) ++ r)) Z (Xb (Xn ⟨[vs (([45] : Str) ++ r)], ⟨_, Z, Z⟩, (([45] : Str) ++ r), Z, H, aj.gr.g0, (lim_cat ac)⟩)))
 have H := Xq H hq2;refine Xx (Xc (Xd (Xg (vs []) Z (Xb (Xc (X8 ?_))))));obtain ⟨ak, al, aa, H⟩ := H;refine Yj (α := Int × Str) (fun (n3, out2) t ad => ak n3 out2 ∧ Has t [(0, vi n3), (3, vs out2)] ∧ Ct [] w0 ad [] O ∧ Lim out2) (fun (n3, out2) => al n3 out2) (n, ([] : Str)) ⟨aa, (X0 Z), hc0, (by decide : Lim ([] : Str))⟩ ?_;rintro ⟨n3, out2⟩ _ ad ⟨aa, am, ae, a7⟩;obtain ⟨a8, rfl⟩ := Has.ins am;have H := H n3 out2 aa;refine Xc (Xc (Xd (Xe (vi n3) Z (Xa (X1 n3 9 (decide (n3 > 9)) Z Z Z) (Xb ?_)))));refine Xz (decide (n3 > 9)) Z (fun ab => ?_) (fun ab => ?_)
 ·have H := Xp H ab;refine Xx (X8 (Xc (Xd (Xe (vi n3) Z ?_))));obtain ⟨an, H⟩ := H;refine Xa (Zn n3 10 Z Z an) ?_;obtain ⟨ao, H⟩ := H;refine Xa (Yd 48 (n3 % 10) Z Z ao) ?_;obtain ⟨ap, H⟩ := H;refine Xa (Z2 u3_ u5_ (48 + (n3 % 10)) Z ap) (Yb (kd := Kd.byte) Z3 ae ([(UInt8.ofNat (48 + (n3 % 10)).toNat)] : List UInt8) (cells := [v8 (UInt8.ofNat (48 + (n3 % 10)).toNat)]) ⟨[v8 (UInt8.ofNat (48 + (n3 % 10)).toNat)], _, Z, Z, Z⟩ RF fun a9 aq ar au ba hr35 av af => ?_);refine Xa (Z1 u22_ u5_ u9_ aq ar au ([(UInt8.ofNat (48 + (n3 % 10)).toNat)] : List UInt8) Z (fun _ e => e ▸ ⟨_, af.sx⟩)) ?_;have bb : Lim ([(UInt8.ofNat (48 + (n3 % 10)).toNat)] : List UInt8) := af.le;refine Xe (vs out2) Z ?_;obtain ⟨ag, H⟩ := H;refine Xa (Yk ([(UInt8.ofNat (48 + (n3 % 10)).toNat)] : List UInt8) out2 Z Z ag) (Xg (vs (([(UInt8.ofNat (48 + (n3 % 10)).toNat)] : List UInt8) ++ out2)) Z (Xb (Xd (Xe (vi n3) Z ?_))));obtain ⟨aw, H⟩ := H;refine Xa (Zt n3 10 Z Z aw) (Xg (vi (n3 / 10)) Z (Xb ?_));have ax := av.drop 0 Z;obtain ⟨ay, az⟩ := H;exact ⟨(n3 / 10, (([(UInt8.ofNat (48 + (n3 % 10)).toNat)] : List UInt8) ++ out2)), az, ay, (X0 Z), ax, (lim_cat ag)⟩
 have H := Xq H ab;refine Yh (xin_hit ?_);refine Xc (Xd (Xe (vi n3) Z ?_));obtain ⟨a0, H⟩ := H;refine Xa (Yd 48 n3 Z Z a0) ?_;obtain ⟨a1, H⟩ := H;refine Xa (Z2 u3_ u5_ (48 + n3) Z a1) (Yb (kd := Kd.byte) Z3 ae ([(UInt8.ofNat (48 + n3).toNat)] : List UInt8) (cells := [v8 (UInt8.ofNat (48 + n3).toNat)]) ⟨[v8 (UInt8.ofNat (48 + n3).toNat)], _, Z, Z, Z⟩ RF fun bc a2 a3 a4 bd hr52 a5 ah => ?_);refine Xa (Z1 u22_ u5_ u9_ a2 a3 a4 ([(UInt8.ofNat (48 + n3).toNat)] : List UInt8) Z (fun _ e => e ▸ ⟨_, ah.sx⟩)) ?_;have be : Lim ([(UInt8.ofNat (48 + n3).toNat)] : List UInt8) := ah.le;refine Xe (vs out2) Z ?_;obtain ⟨ai, H⟩ := H;refine Xa (Yk ([(UInt8.ofNat (48 + n3).toNat)] : List UInt8) out2 Z Z ai) (Xg (vs (([(UInt8.ofNat (48 + n3).toNat)] : List UInt8) ++ out2)) Z (Xb (Xn ?_)));have a6 := a5.drop 0 Z;exact ⟨[vs (([(UInt8.ofNat (48 + n3).toNat)] : List UInt8) ++ out2)], ⟨_, Z, Z⟩, (([(UInt8.ofNat (48 + n3).toNat)] : List UInt8) ++ out2), Z, H, a6.gr.g0, (lim_cat ai)⟩
def F104.E0 (n : Int) (Q : Str → Prop) : Prop := F104.Er (fun _ _ => False) n Q
def F104.E (n : Int) (Q : Str → Prop) : Prop := F104.Er F104.E0 n Q
theorem F104.calls0 {O : Ob} (w0 : World) (hO : Ok w0 O) (n : Int) (Q : Str → Prop) (h : F104.E0 n Q) :
  Ret Tryz.prog 165 [vi n] w0 (fun v w' => ∃ (r0 : Str), v = vs r0 ∧ Q r0 ∧ Gr w0 w' none ∧ Lim r0) :=
 F104.callsr (fun _ _ => False) (fun w0 hO => by intros; contradiction) w0 hO n Q h
theorem F104.calls {n : Int} {Q : Str → Prop} (H : F104.E n Q) (hO : Ok w0 O) :
  Ret Tryz.prog 165 [vi n] w0 (fun v w' => ∃ (r0 : Str), v = vs r0 ∧ Q r0 ∧ Gr w0 w' none ∧ Lim r0) := by
 unfold F104.E at H;exact F104.callsr F104.E0 F104.calls0 w0 hO n Q H
def F41.E (s : Shape) (Q : Str → Prop) : Prop :=
 F68.E s (fun r => (if !r then Q [] else F103.E s.Kind (fun r2 => (∃ (I48 : Str → Int → Prop) (mu49 : Str → Int → Nat), I48 r2 0 ∧ ∀ (out2 : Str) (i2 : Int), I48 out2 i2 → (if decide (i2 < (s.Pts.length : Int)) then (out2.length + ([32] : Str).length ≤ 9223372036854775807) ∧ ((0 : Int) ≤ i2 ∧ i2 < (s.Pts.length : Int)) ∧ (∃ q : Str, F104.E ((nth s.Pts i2).X) (fun x => x = q) ∧ (Lim q) ∧ ((out2 ++ ([32] : Str)).length + q.length ≤ 9223372036854775807) ∧ (((out2 ++ ([32] : Str)) ++ q).length + ([44] : Str).length ≤ 9223372036854775807) ∧ ((0 : Int) ≤ i2 ∧ i2 < (s.Pts.length : Int)) ∧ (∃ q2 : Str, F104.E ((nth s.Pts i2).Y) (fun x => x = q2) ∧ (Lim q2) ∧ ((((out2 ++ ([32] : Str)) ++ q) ++ ([44] : Str)).length + q2.length ≤ 9223372036854775807) ∧ (-9223372036854775808 ≤ i2) ∧ I48 ((((out2 ++ ([32] : Str)) ++ q) ++ ([44] : Str)) ++ q2) (i2 + 1) ∧ mu49 ((((out2 ++ ([32] : Str)) ++ q) ++ ([44] : Str)) ++ q2) (i2 + 1) < mu49 out2 i2)) else Q out2)))))
theorem F41.calls {s : Shape} {A1 : Option Addr} {n2 c3 : Nat} {Q : Str → Prop} (H : F41.E s Q) (hO : Ok w0 O) (hp4 : Sl kPt w0 (Fr O) (G A1 n2 c3) s.Pts) :
  Ret Tryz.prog 133 [.agg #[vi s.Kind, G A1 n2 c3]] w0 (fun v w' => ∃ (r0 : Str), v = vs r0 ∧ Q r0 ∧ Gr w0 w' none ∧ Lim r0) := by
 unfold F41.E at H;have hc0 := Ct.init hO;refine X9 Tryz.func133 Z 38 Z [.tmp 2] Z Z ?_;refine Xc (Xd (Yo [vi s.Kind, G A1 n2 c3] Z fun w6 b7 hl9 hu10 g8 ax => ?_));have al := Fb.mk hc0.ok hl9 ax;have ad := hc0.k0 g8;refine Xg (vs []) Z (Xb (Xc (Xc (Xd (Xa (Xv ag41 sz41 cL (Ad b7 0) [vi s.Kind, G A1 n2 c3] Z Z (al.cells (off := 00) Z)) ?_)))));refine Xu go66 (F68.calls H ad.ok (hp4.st ad.st)) Z ?_;rintro _ ay ⟨r, rfl, H, am⟩;have ae := ad.k0 am;refine Xa (X7 r Z) (Xb ?_);refine Xz (!r) Z (fun aj => ?_) (fun aj => ?_)
 ·have H := Xp H aj;exact Xc (Xd (Xg (vs []) Z (Xb (Xn ⟨[vs []], ⟨_, Z, Z⟩, ([] : Str), Z, H, ae.gr.g0, (by decide : Lim ([] : Str))⟩))))
 have H := Xq H aj;refine Xx (Xc (Xd (Xa (Xj fa41_0 (Ad b7 0) (Ad b7 0) Z Z) ?_)));have az := ad.stn am;have an := (al.st az);refine Xa (Xo ag3 cL (Ad b7 0) (vi s.Kind) Z (an.cell Z)) ?_;refine Xu go164 (F103.calls H ae.ok) Z ?_;rintro _ bq ⟨r2, rfl, H, ao, a0⟩;have ap := ae.k0 ao;refine Xg (vs r2) Z (Xb (Xc (Xc (Xd (Xg (vi 0) Z (Xb (X8 ?_)))))));obtain ⟨a1, a2, ak, H⟩ := H;have a3 := ae.stn ao;have a4 := (an.st a3);refine Yj (α := Str × Int) (fun (out2, i2) t ab => a1 out2 i2 ∧ Has t [(1, Pz b7), (3, vs out2), (4, vi i2)] ∧ Cw [] w0 ab [] O fun M => Lim out2 ∧ Sl kPt ab (Fr M) (G A1 n2 c3) s.Pts ∧ Fb ab M b7 [vi s.Kind, G A1 n2 c3]) (fun (out2, i2) => a2 out2 i2) (r2, 0) ⟨ak, (X0 Z), ap, a0, (hp4.st ap.st), a4⟩ ?_;rintro ⟨out2, i2⟩ _ ab ⟨ak, a5, ac, a6, aa, af⟩;obtain ⟨br, rfl⟩ := Has.ins a5;have H := H out2 i2 ak;refine Xc (Xc (Xd (Xe (vi i2) Z (Xa (Xj fa41_1 (Ad b7 0) (Ad b7 1) Z Z) (Xa (Xo ag39 cL (Ad b7 1) (G A1 n2 c3) Z (af.cell Z)) ?_)))));have a7 := aa.le;refine Xa (Yc u39_ A1 n2 c3 aa.len Z) (Xa (X1 i2 (s.Pts.length : Int) (decide (i2 < (s.Pts.length : Int))) Z Z Z) (Xb ?_));refine Xz (decide (i2 < (s.Pts.length : Int))) Z (fun ag => ?_) (fun ag => ?_)
 ·have H := Xp H ag;refine Xx (Xc (X8 (Ys (fun x => Gr ab x none) RK RK (Gr.drew _) ?_)));refine Xs (vs out2) Z ?_;obtain ⟨a8, H⟩ := H;refine Xf (Yk out2 ([32] : Str) Z Z a8) (Xf (Xj fa41_1 (Ad b7 0) (Ad b7 1) Z Z) (Xf (Xo ag39 cQ (Ad b7 1) (G A1 n2 c3) Z (af.cell Z)) (Xs (vi i2) Z ?_)));obtain ⟨aq, H⟩ := H;obtain ⟨ah, bs, a9, bt, ba, bb⟩ := aa.get default RD i2 aq;obtain rfl := kPt.op ba;refine Xf (X3 u39_ Yx A1 ah n2 c3 aa.len i2 Z a9 Z aq) (Xf (Xj fa49_0 (ah.add (i2.toNat * 2)) ((ah.add (i2.toNat * 2)).add 0) Z Z) (Xf (Xo ag3 cQ ((ah.add (i2.toNat * 2)).add 0) (vi ((nth s.Pts i2).X)) Z (bb 0 _ Z)) ?_));obtain ⟨q, bc, bu, H⟩ := H;refine Yq go165 [vi ((nth s.Pts i2).X)] Z (vs q) (fun w g => (F104.calls bc (ac.k0 g).ok).mono ?_) ?_
  ·rintro _ w ⟨r, rfl, rfl, g2, _⟩;exact ⟨Z, Gr.t0 g g2⟩
  obtain ⟨bd, H⟩ := H;refine Xf (Yk (out2 ++ ([32] : Str)) q Z Z bd) ?_;obtain ⟨be, H⟩ := H;refine Xf (Yk ((out2 ++ ([32] : Str)) ++ q) ([44] : Str) Z Z be) (Xf (Xj fa41_1 (Ad b7 0) (Ad b7 1) Z Z) (Xf (Xo ag39 cQ (Ad b7 1) (G A1 n2 c3) Z (af.cell Z)) (Xs (vi i2) Z ?_)));obtain ⟨ar, H⟩ := H;obtain ⟨ai, bv, bf, bw, bg, bh⟩ := aa.get default RD i2 ar;obtain rfl := kPt.op bg;refine Xf (X3 u39_ Yx A1 ai n2 c3 aa.len i2 Z bf Z ar) (Xf (Xj fa49_1 (ai.add (i2.toNat * 2)) ((ai.add (i2.toNat * 2)).add 1) Z Z) (Xf (Xo ag3 cQ ((ai.add (i2.toNat * 2)).add 1) (vi ((nth s.Pts i2).Y)) Z (bh 1 _ Z)) ?_));obtain ⟨q2, bi, bx, H⟩ := H;refine Yq go165 [vi ((nth s.Pts i2).Y)] Z (vs q2) (fun w g => (F104.calls bi (ac.k0 g).ok).mono ?_) ?_
  ·rintro _ w ⟨r, rfl, rfl, g2, _⟩;exact ⟨Z, Gr.t0 g g2⟩
  obtain ⟨au, H⟩ := H;refine Xf (Yk (((out2 ++ ([32] : Str)) ++ q) ++ ([44] : Str)) q2 Z Z au) (Yy (vs ((((out2 ++ ([32] : Str)) ++ q) ++ ([44] : Str)) ++ q2)) Z (Ya fun bz av => ?_));have bj := ac.k0 av;refine Xd (Xe (vi i2) Z ?_);obtain ⟨bl, H⟩ := H;have bm : I64 (i2 + 1) := i64_succ (of_decide_eq_true ag) a7 bl;refine Xa (Yd i2 1 Z Z bm) (Xg (vi (i2 + 1)) Z (Xb ?_));obtain ⟨bn, bo⟩ := H;have aw := ac.stn av;have bp := (af.st aw);exact ⟨(((((out2 ++ ([32] : Str)) ++ q) ++ ([44] : Str)) ++ q2), i2 + 1), bo, bn, (X0 Z), bj, (lim_cat au), (aa.st aw), bp⟩
 have H := Xq H ag;refine Yh (xin_hit ?_);exact Xc (Xd (Xe (vs out2) Z (Xg (vs out2) Z (Xb (Xn ⟨[vs out2], ⟨_, Z, Z⟩, out2, Z, H, ac.gr.g0, a6⟩)))))
def F51.E (f : Feat) (Q : Str → Prop) : Prop :=
 F87.E f (fun r => (if !r then Q [] else (f.Id.length + ([32] : Str).length ≤ 9223372036854775807) ∧ (∃ q : Str, F41.E f.Shape (fun x => x = q) ∧ (Lim q) ∧ ((f.Id ++ ([32] : Str)).length + q.length ≤ 9223372036854775807) ∧ (∃ (I67 : Str → Int → Prop) (mu68 : Str → Int → Nat), I67 ((f.Id ++ ([32] : Str)) ++ q) 0 ∧ ∀ (out2 : Str) (i2 : Int), I67 out2 i2 → (if decide (i2 < (f.Tags.length : Int)) then (out2.length + ([32] : Str).length ≤ 9223372036854775807) ∧ ((0 : Int) ≤ i2 ∧ i2 < (f.Tags.length : Int)) ∧ ((out2 ++ ([32] : Str)).length + ((nth f.Tags i2).Key).length ≤ 9223372036854775807) ∧ (((out2 ++ ([32] : Str)) ++ ((nth f.Tags i2).Key)).length + ([61] : Str).length ≤ 9223372036854775807) ∧ ((0 : Int) ≤ i2 ∧ i2 < (f.Tags.length : Int)) ∧ ((((out2 ++ ([32] : Str)) ++ ((nth f.Tags i2).Key)) ++ ([61] : Str)).length + ((nth f.Tags i2).Val).length ≤ 9223372036854775807) ∧ (-9223372036854775808 ≤ i2) ∧ I67 ((((out2 ++ ([32] : Str)) ++ ((nth f.Tags i2).Key)) ++ ([61] : Str)) ++ ((nth f.Tags i2).Val)) (i2 + 1) ∧ mu68 ((((out2 ++ ([32] : Str)) ++ ((nth f.Tags i2).Key)) ++ ([61] : Str)) ++ ((nth f.Tags i2).Val)) (i2 + 1) < mu68 out2 i2 else Q out2)))))
theorem F51.calls {f : Feat} {A2 : Option Addr} {n3 c4 : Nat} {A7 : Option Addr} {n8 c9 : Nat} {Q : Str → Prop} (H : F51.E f Q) (hO : Ok w0 O) (hs1 : Lim f.Id) (hp5 : Sl kPt w0 (Fr O) (G A2 n3 c4) f.Shape.Pts) (ap : Sl kTag w0 (Fr O) (G A7 n8 c9) f.Tags) :
  Ret Tryz.prog 97 [.agg #[vs f.Id, vi f.Shape.Kind, G A2 n3 c4, G A7 n8 c9]] w0 (fun v w' => ∃ (r0 : Str), v = vs r0 ∧ Q r0 ∧ Gr w0 w' none ∧ Lim r0) := by
 unfold F51.E at H;have hc0 := Ct.init hO;refine X9 Tryz.func97 Z 40 Z [.tmp 2] Z Z ?_;refine Xc (Xd (Yo [vs f.Id, vi f.Shape.Kind, G A2 n3 c4, G A7 n8 c9] Z fun a0 aa a1 hu16 a2 a3 => ?_));have aq := Fb.mk hc0.ok a1 a3;have ad := hc0.k0 a2;refine Xg (vs []) Z (Xb (Xc (Xc (Xd (Xa (Xv ag44 sz44 cL (Ad aa 0) [vs f.Id, vi f.Shape.Kind, G A2 n3 c4, G A7 n8 c9] Z Z (aq.cells (off := 00) Z)) ?_)))));refine Xu go24 (F87.calls H ad.ok hs1 (hp5.st ad.st) (ap.st ad.st)) Z ?_;rintro _ a4 ⟨r, rfl, H, ar⟩;have ae := ad.k0 ar;refine Xa (X7 r Z) (Xb ?_);refine Xz (!r) Z (fun aj => ?_) (fun aj => ?_)
 ·have H := Xp H aj;exact Xc (Xd (Xg (vs []) Z (Xb (Xn ⟨[vs []], ⟨_, Z, Z⟩, ([] : Str), Z, H, ae.gr.g0, (by decide : Lim ([] : Str))⟩))))
 have H := Xq H aj;refine Xx (Xc (Ys (fun x => Gr a4 x none) RK RK (Gr.drew _) ?_));refine Xf (Xj fa44_0 (Ad aa 0) (Ad aa 0) Z Z) ?_;have a5 := ad.stn ar;have ak := (aq.st a5);refine Xf (Xo ag9 cQ (Ad aa 0) (vs f.Id) Z (ak.cell Z)) ?_;obtain ⟨a6, H⟩ := H;refine Xf (Yk f.Id ([32] : Str) Z Z a6) (Xf (Xj fa44_1 (Ad aa 0) (Ad aa 1) Z Z) (Xf (Xv ag41 sz41 cQ (Ad aa 1) [vi f.Shape.Kind, G A2 n3 c4] Z Z (ak.cells (off := 1) Z)) ?_));obtain ⟨q, a7, bw, H⟩ := H;refine Yq go133 [.agg #[vi f.Shape.Kind, G A2 n3 c4]] Z (vs q) (fun w g => (F41.calls a7 (ae.k0 g).ok ((hp5.st ae.st).st (.new _ g))).mono ?_) ?_
 ·rintro _ w ⟨r, rfl, rfl, g2, _⟩;exact ⟨Z, Gr.t0 g g2⟩
 obtain ⟨au, H⟩ := H;refine Xf (Yk (f.Id ++ ([32] : Str)) q Z Z au) (Yy (vs ((f.Id ++ ([32] : Str)) ++ q)) Z (Ya fun bx av => ?_));have al := ae.k0 av;refine Xc (Xc (Xd (Xg (vi 0) Z (Xb (X8 ?_)))));obtain ⟨a8, a9, am, H⟩ := H;have ba := ae.stn av;have bb := (ak.st ba);refine Yj (α := Str × Int) (fun (out2, i2) t ac => a8 out2 i2 ∧ Has t [(1, Pz aa), (3, vs out2), (4, vi i2)] ∧ Cw [] w0 ac [] O fun M => Lim out2 ∧ Sl kPt ac (Fr M) (G A2 n3 c4) f.Shape.Pts ∧ Sl kTag ac (Fr M) (G A7 n8 c9) f.Tags ∧ Fb ac M aa [vs f.Id, vi f.Shape.Kind, G A2 n3 c4, G A7 n8 c9]) (fun (out2, i2) => a9 out2 i2) (((f.Id ++ ([32] : Str)) ++ q), 0) ⟨am, (X0 Z), al, (lim_cat au), (hp5.st al.st), (ap.st al.st), bb⟩ ?_;rintro ⟨out2, i2⟩ _ ac ⟨am, bc, an, bd, be, ab, af⟩;obtain ⟨bz, rfl⟩ := Has.ins bc;have H := H out2 i2 am;refine Xc (Xc (Xd (Xe (vi i2) Z (Xa (Xj fa44_2 (Ad aa 0) (Ad aa 3) Z Z) (Xa (Xo ag42 cL (Ad aa 3) (G A7 n8 c9) Z (af.cell Z)) ?_)))));have bf := ab.le;refine Xa (Yc u42_ A7 n8 c9 ab.len Z) (Xa (X1 i2 (f.Tags.length : Int) (decide (i2 < (f.Tags.length : Int))) Z Z Z) (Xb ?_));refine Xz (decide (i2 < (f.Tags.length : Int))) Z (fun ag => ?_) (fun ag => ?_)
 ·have H := Xp H ag;refine Xx (Xc (X8 (Ys (fun x => Gr ac x none) RK RK (Gr.drew _) ?_)));refine Xs (vs out2) Z ?_;obtain ⟨bg, H⟩ := H;refine Xf (Yk out2 ([32] : Str) Z Z bg) (Xf (Xj fa44_2 (Ad aa 0) (Ad aa 3) Z Z) (Xf (Xo ag42 cQ (Ad aa 3) (G A7 n8 c9) Z (af.cell Z)) (Xs (vi i2) Z ?_)));obtain ⟨aw, H⟩ := H;obtain ⟨ah, b0, bh, b1, bi, bj⟩ := ab.get default RD i2 aw;obtain ⟨rfl, b2, b3⟩ := kTag.op bi;refine Xf (X3 u42_ Y5 A7 ah n8 c9 ab.len i2 Z bh Z aw) (Xf (Xj fa93_0 (ah.add (i2.toNat * 2)) ((ah.add (i2.toNat * 2)).add 0) Z Z) (Xf (Xo ag9 cQ ((ah.add (i2.toNat * 2)).add 0) (vs ((nth f.Tags i2).Key)) Z (bj 0 _ Z)) ?_));obtain ⟨bl, H⟩ := H;refine Xf (Yk (out2 ++ ([32] : Str)) ((nth f.Tags i2).Key) Z Z bl) ?_;obtain ⟨bm, H⟩ := H;refine Xf (Yk ((out2 ++ ([32] : Str)) ++ ((nth f.Tags i2).Key)) ([61] : Str) Z Z bm) (Xf (Xj fa44_2 (Ad aa 0) (Ad aa 3) Z Z) (Xf (Xo ag42 cQ (Ad aa 3) (G A7 n8 c9) Z (af.cell Z)) (Xs (vi i2) Z ?_)));obtain ⟨ax, H⟩ := H;obtain ⟨ai, b4, bn, b5, bo, bp⟩ := ab.get default RD i2 ax;obtain ⟨rfl, b6, b7⟩ := kTag.op bo;refine Xf (X3 u42_ Y5 A7 ai n8 c9 ab.len i2 Z bn Z ax) (Xf (Xj fa93_1 (ai.add (i2.toNat * 2)) ((ai.add (i2.toNat * 2)).add 1) Z Z) (Xf (Xo ag9 cQ ((ai.add (i2.toNat * 2)).add 1) (vs ((nth f.Tags i2).Val)) Z (bp 1 _ Z)) ?_));obtain ⟨ay, H⟩ := H;refine Xf (Yk (((out2 ++ ([32] : Str)) ++ ((nth f.Tags i2).Key)) ++ ([61] : Str)) ((nth f.Tags i2).Val) Z Z ay) (Yy (vs ((((out2 ++ ([32] : Str)) ++ ((nth f.Tags i2).Key)) ++ ([61] : Str)) ++ ((nth f.Tags i2).Val))) Z (Ya fun b8 az => ?_));have bq := an.k0 az;refine Xd (Xe (vi i2) Z ?_);obtain ⟨br, H⟩ := H;have bs : I64 (i2 + 1) := i64_succ (of_decide_eq_true ag) bf br;refine Xa (Yd i2 1 Z Z bs) (Xg (vi (i2 + 1)) Z (Xb ?_));obtain ⟨bt, bu⟩ := H;have ao := an.stn az;have bv := (af.st ao);exact ⟨(((((out2 ++ ([32] : Str)) ++ ((nth f.Tags i2).Key)) ++ ([61] : Str)) ++ ((nth f.Tags i2).Val)), i2 + 1), bu, bt, (X0 Z), bq, (lim_cat ay), (be.st ao), (ab.st ao), bv⟩
 have H := Xq H ag;refine Yh (xin_hit ?_);exact Xc (Xd (Xe (vs out2) Z (Xg (vs out2) Z (Xb (Xn ⟨[vs out2], ⟨_, Z, Z⟩, out2, Z, H, an.gr.g0, bd⟩)))))
def F105.E (f : Feat) (is : Bool) (Q : Str → Prop) : Prop :=
 (if !is then Q ([45] : Str) else F51.E f (fun r => Q r))
theorem F105.calls {f : Feat} {A2 : Option Addr} {n3 c4 : Nat} {A7 : Option Addr} {n8 c9 : Nat} {is : Bool} {Q : Str → Prop} (H : F105.E f is Q) (hO : Ok w0 O) (hs1 : Lim f.Id) (hp5 : Sl kPt w0 (Fr O) (G A2 n3 c4) f.Shape.Pts) (ac : Sl kTag w0 (Fr O) (G A7 n8 c9) f.Tags) :
  Ret Tryz.prog 44 [.agg #[vs f.Id, vi f.Shape.Kind, G A2 n3 c4, G A7 n8 c9], vb is] w0 (fun v w' => ∃ (r0 : Str), v = vs r0 ∧ Q r0 ∧ Gr w0 w' none ∧ Lim r0) := by
 unfold F105.E at H;have hc0 := Ct.init hO;refine X9 Tryz.func44 Z 9 Z [.tmp 4] Z Z ?_;refine Xc (Xd (Yo [vs f.Id, vi f.Shape.Kind, G A2 n3 c4, G A7 n8 c9] Z fun ad ae af hu16 ag ah => ?_));have ai := Fb.mk hc0.ok af ah;have aa := hc0.k0 ag;refine Xg (vs []) Z (Xb (Xc (Xc (Xd (Xe (vb is) Z (Xa (X7 is Z) (Xb ?_)))))));refine Xz (!is) Z (fun ab => ?_) (fun ab => ?_)
 ·have H := Xp H ab;exact Xc (Xd (Xg (vs ([45] : Str)) Z (Xb (Xn ⟨[vs ([45] : Str)], ⟨_, Z, Z⟩, ([45] : Str), Z, H, aa.gr.g0, (by decide : Lim ([45] : Str))⟩))))
 have H := Xq H ab;refine Xx (Xc (Xd (Xa (Xv ag44 sz44 cL (Ad ae 0) [vs f.Id, vi f.Shape.Kind, G A2 n3 c4, G A7 n8 c9] Z Z (ai.cells (off := 00) Z)) ?_)));refine Xu go97 (F51.calls H aa.ok hs1 (hp5.st aa.st) (ac.st aa.st)) Z ?_;rintro _ am ⟨r, rfl, H, aj, ak⟩;have al := aa.k0 aj;exact Xg (vs r) Z (Xb (Xn ⟨[vs r], ⟨_, Z, Z⟩, r, Z, H, al.gr.g0, ak⟩))
def F52.E (d : List Change) (Q : Str → Prop) : Prop :=
 (∃ (I20 : Str → Int → Prop) (mu21 : Str → Int → Nat), I20 [] 0 ∧ ∀ (out2 : Str) (i2 : Int), I20 out2 i2 → (if decide (i2 < (d.length : Int)) then F101.E d (fun r => (if r then ((0 : Int) ≤ i2 ∧ i2 < (d.length : Int)) ∧ (out2.length + ((nth d i2).Id).length ≤ 9223372036854775807) ∧ ((out2 ++ ((nth d i2).Id)).length + ([58, 32] : Str).length ≤ 9223372036854775807) ∧ ((0 : Int) ≤ i2 ∧ i2 < (d.length : Int)) ∧ ((0 : Int) ≤ i2 ∧ i2 < (d.length : Int)) ∧ (∃ q : Str, F105.E ((nth d i2).Was) ((nth d i2).Had) (fun x => x = q) ∧ (Lim q) ∧ (((out2 ++ ((nth d i2).Id)) ++ ([58, 32] : Str)).length + q.length ≤ 9223372036854775807) ∧ ((((out2 ++ ((nth d i2).Id)) ++ ([58, 32] : Str)) ++ q).length + ([32, 62, 32] : Str).length ≤ 9223372036854775807) ∧ ((0 : Int) ≤ i2 ∧ i2 < (d.length : Int)) ∧ ((0 : Int) ≤ i2 ∧ i2 < (d.length : Int)) ∧ (∃ q2 : Str, F105.E ((nth d i2).Now) ((nth d i2).Has) (fun x => x = q2) ∧ (Lim q2) ∧ (((((out2 ++ ((nth d i2).Id)) ++ ([58, 32] : Str)) ++ q) ++ ([32, 62, 32] : Str)).length + q2.length ≤ 9223372036854775807) ∧ ((((((out2 ++ ((nth d i2).Id)) ++ ([58, 32] : Str)) ++ q) ++ ([32, 62, 32] : Str)) ++ q2).length + ([10] : Str).length ≤ 9223372036854775807) ∧ (-9223372036854775808 ≤ i2) ∧ I20 ((((((out2 ++ ((nth d i2).Id)) ++ ([58, 32] : Str)) ++ q) ++ ([32, 62, 32] : Str)) ++ q2) ++ ([10] : Str)) (i2 + 1) ∧ mu21 ((((((out2 ++ ((nth d i2).Id)) ++ ([58, 32] : Str)) ++ q) ++ ([32, 62, 32] : Str)) ++ q2) ++ ([10] : Str)) (i2 + 1) < mu21 out2 i2)) else Q out2)) else Q out2))
theorem F52.calls {d : List Change} {A1 : Option Addr} {n2 c3 : Nat} {Q : Str → Prop} (H : F52.E d Q) (hO : Ok w0 O) (hp4 : Sl kChange w0 (Fr O) (G A1 n2 c3) d) :
  Ret Tryz.prog 13 [G A1 n2 c3] w0 (fun v w' => ∃ (r0 : Str), v = vs r0 ∧ Q r0 ∧ Gr w0 w' none ∧ Lim r0) := by
 unfold F52.E at H;have hc0 := Ct.init hO;refine X9 Tryz.func13 Z 50 Z [.tmp 2] Z Z ?_;refine Xc (Xd (Xg (vs []) Z (Xb (Xc (Xd (Xg (vs []) Z (Xb (Xc ?_))))))));refine Xc (Xd (Xg (vi 0) Z (Xb (X8 ?_))));obtain ⟨ba, bb, al, H⟩ := H;refine Yj (α := Str × Int) (fun (out2, i2) t ae => ba out2 i2 ∧ Has t [(0, G A1 n2 c3), (3, vs out2), (4, vi i2)] ∧ Ct [] w0 ae [] O ∧ Lim out2 ∧ Sl kChange ae (Fr ([] ++ O)) (G A1 n2 c3) d) (fun (out2, i2) => bb out2 i2) (([] : Str), 0) ⟨al, (X0 Z), hc0, (by decide : Lim ([] : Str)), hp4⟩ ?_;rintro ⟨out2, i2⟩ _ ae ⟨al, bc, af, a1, aa⟩;obtain ⟨cg, rfl⟩ := Has.ins bc;have H := H out2 i2 al;refine Xc (Xc (Xd (Xe (vi i2) Z (Xe (G A1 n2 c3) Z ?_))));have bd := aa.le;refine Xa (Yc u23_ A1 n2 c3 aa.len Z) (Xa (X1 i2 (d.length : Int) (decide (i2 < (d.length : Int))) Z Z Z) (Xe (vb (decide (i2 < (d.length : Int)))) Z ?_));rcases X2 (decide (i2 < (d.length : Int))) with ac | ac
 ·have H := Xp H ac;refine Xh ac Z (Xe (G A1 n2 c3) Z (Xh ac Z ?_));refine Xu go15 (F101.calls H af.ok aa) Z ?_;rintro _ be ⟨r, rfl, H, a2⟩;have ad := af.k0 a2;refine Xa (Xk true (vb r) ac Z) (Xb ?_);refine Xz r Z (fun am => ?_) (fun am => ?_)
  ·have H := Xp H am;refine Xx (Xc (X8 (Ys (fun x => Gr be x none) RK RK (Gr.drew _) ?_)));refine Xs (vs out2) Z (Xs (G A1 n2 c3) Z (Xs (vi i2) Z ?_));obtain ⟨a3, H⟩ := H;have ab := af.stn a2;obtain ⟨ag, ch, bf, ci, bg, bh⟩ := (aa.st ab).get default RD i2 a3;obtain ⟨cj, ck, cl, cm, cn, co, cp, cq, cr, cs, ct, cu, rfl, cv, cw, cx, cy, cz, c0, c1⟩ := kChange.op bg;refine Xf (X3 u23_ Y4 A1 ag n2 c3 (aa.st ab).len i2 Z bf Z a3) (Xf (Xj fa62_0 (ag.add (i2.toNat * 11)) ((ag.add (i2.toNat * 11)).add 0) Z Z) (Xf (Xo ag9 cQ ((ag.add (i2.toNat * 11)).add 0) (vs ((nth d i2).Id)) Z (bh 0 _ Z)) ?_));obtain ⟨bi, H⟩ := H;refine Xf (Yk out2 ((nth d i2).Id) Z Z bi) ?_;obtain ⟨bj, H⟩ := H;refine Xf (Yk (out2 ++ ((nth d i2).Id)) ([58, 32] : Str) Z Z bj) (Xs (G A1 n2 c3) Z (Xs (vi i2) Z ?_));obtain ⟨a4, H⟩ := H;obtain ⟨ah, c2, bl, c4, bm, bn⟩ := (aa.st ab).get default RD i2 a4;obtain ⟨an, ao, ap, aq, ar, au, c5, c6, c7, c8, c9, da, rfl, db, bo, bp, bq, dc, dd, de⟩ := kChange.op bm;refine Xf (X3 u23_ Y4 A1 ah n2 c3 (aa.st ab).len i2 Z bl Z a4) (Xf (Xj fa62_2 (ah.add (i2.toNat * 11)) ((ah.add (i2.toNat * 11)).add 2) Z Z) (Xf (Xv ag44 sz44 cQ ((ah.add (i2.toNat * 11)).add 2) [vs ((nth d i2).Was.Id), vi ((nth d i2).Was.Shape.Kind), G an ao ap, G aq ar au] Z Z (sub_cells (off := 2) bn Z)) (Xs (G A1 n2 c3) Z (Xs (vi i2) Z ?_))));obtain ⟨a5, H⟩ := H;obtain ⟨ai, df, br, dg, bs, bt⟩ := (aa.st ab).get default RD i2 a5;obtain ⟨dh, di, dj, dk, dl, dm, dn, dp, dq, dr, ds, dt, rfl, du, dv, dw, dx, dy, dz, d0⟩ := kChange.op bs;refine Xf (X3 u23_ Y4 A1 ai n2 c3 (aa.st ab).len i2 Z br Z a5) (Xf (Xj fa62_1 (ai.add (i2.toNat * 11)) ((ai.add (i2.toNat * 11)).add 1) Z Z) (Xf (Xo ag4 cQ ((ai.add (i2.toNat * 11)).add 1) (vb ((nth d i2).Had)) Z (bt 1 _ Z)) ?_));obtain ⟨q, bu, d1, H⟩ := H;refine Yq go44 [.agg #[vs ((nth d i2).Was.Id), vi ((nth d i2).Was.Shape.Kind), G an ao ap, G aq ar au], vb ((nth d i2).Had)] Z (vs q) (fun w g => (F105.calls bu (ad.k0 g).ok bo (bp.st (.new _ g)) (bq.st (.new _ g))).mono ?_) ?_
   ·rintro _ w ⟨r, rfl, rfl, g2, _⟩;exact ⟨Z, Gr.t0 g g2⟩
   obtain ⟨bv, H⟩ := H;refine Xf (Yk ((out2 ++ ((nth d i2).Id)) ++ ([58, 32] : Str)) q Z Z bv) ?_;obtain ⟨bw, H⟩ := H;refine Xf (Yk (((out2 ++ ((nth d i2).Id)) ++ ([58, 32] : Str)) ++ q) ([32, 62, 32] : Str) Z Z bw) (Xs (G A1 n2 c3) Z (Xs (vi i2) Z ?_));obtain ⟨a6, H⟩ := H;obtain ⟨aj, d2, bx, d3, bz, b0⟩ := (aa.st ab).get default RD i2 a6;obtain ⟨d4, d5, d6, d7, d8, d9, av, aw, ax, ay, az, a0, rfl, ea, eb, ec, ed, b1, b2, b3⟩ := kChange.op bz;refine Xf (X3 u23_ Y4 A1 aj n2 c3 (aa.st ab).len i2 Z bx Z a6) (Xf (Xj fa62_4 (aj.add (i2.toNat * 11)) ((aj.add (i2.toNat * 11)).add 7) Z Z) (Xf (Xv ag44 sz44 cQ ((aj.add (i2.toNat * 11)).add 7) [vs ((nth d i2).Now.Id), vi ((nth d i2).Now.Shape.Kind), G av aw ax, G ay az a0] Z Z (sub_cells (off := 7) b0 Z)) (Xs (G A1 n2 c3) Z (Xs (vi i2) Z ?_))));obtain ⟨a7, H⟩ := H;obtain ⟨ak, ee, b4, ef, b5, b6⟩ := (aa.st ab).get default RD i2 a7;obtain ⟨eg, eh, ei, ej, ek, el, em, en, eo, ep, eq, er, rfl, es, et, eu, ev, ew, ex, ey⟩ := kChange.op b5;refine Xf (X3 u23_ Y4 A1 ak n2 c3 (aa.st ab).len i2 Z b4 Z a7) (Xf (Xj fa62_3 (ak.add (i2.toNat * 11)) ((ak.add (i2.toNat * 11)).add 6) Z Z) (Xf (Xo ag4 cQ ((ak.add (i2.toNat * 11)).add 6) (vb ((nth d i2).Has)) Z (b6 6 _ Z)) ?_));obtain ⟨q2, b7, ez, H⟩ := H;refine Yq go44 [.agg #[vs ((nth d i2).Now.Id), vi ((nth d i2).Now.Shape.Kind), G av aw ax, G ay az a0], vb ((nth d i2).Has)] Z (vs q2) (fun w g => (F105.calls b7 (ad.k0 g).ok b1 (b2.st (.new _ g)) (b3.st (.new _ g))).mono ?_) ?_
   ·rintro _ w ⟨r, rfl, rfl, g2, _⟩;exact ⟨Z, Gr.t0 g g2⟩
   obtain ⟨b8, H⟩ := H;refine Xf (Yk ((((out2 ++ ((nth d i2).Id)) ++ ([58, 32] : Str)) ++ q) ++ ([32, 62, 32] : Str)) q2 Z Z b8) ?_;obtain ⟨a8, H⟩ := H;refine Xf (Yk (((((out2 ++ ((nth d i2).Id)) ++ ([58, 32] : Str)) ++ q) ++ ([32, 62, 32] : Str)) ++ q2) ([10] : Str) Z Z a8) (Yy (vs ((((((out2 ++ ((nth d i2).Id)) ++ ([58, 32] : Str)) ++ q) ++ ([32, 62, 32] : Str)) ++ q2) ++ ([10] : Str))) Z (Ya fun e0 a9 => ?_));have b9 := ad.k0 a9;refine Xd (Xe (vi i2) Z ?_);obtain ⟨ca, H⟩ := H;have cb : I64 (i2 + 1) := i64_succ (of_decide_eq_true ac) bd ca;refine Xa (Yd i2 1 Z Z cb) (Xg (vi (i2 + 1)) Z (Xb ?_));obtain ⟨cc, cd⟩ := H;have ce := ad.stn a9;have cf := ((aa.st ab).st ce);exact ⟨(((((((out2 ++ ((nth d i2).Id)) ++ ([58, 32] : Str)) ++ q) ++ ([32, 62, 32] : Str)) ++ q2) ++ ([10] : Str)), i2 + 1), cd, cc, (X0 Z), b9, (lim_cat a8), cf⟩
  have H := Xq H am;refine Yh (xin_hit ?_);exact Xc (Xd (Xe (vs out2) Z (Xg (vs out2) Z (Xb (Xn ⟨[vs out2], ⟨_, Z, Z⟩, out2, Z, H, ad.gr.g0, a1⟩)))))
 have H := Xq H ac;refine Xi ac Z (Xi ac Z (Xa (Xk false (vb false) ac Z) (Xb (Y0 (b := false) Z Z ?_))));refine Yh (xin_hit ?_);exact Xc (Xd (Xe (vs out2) Z (Xg (vs out2) Z (Xb (Xn ⟨[vs out2], ⟨_, Z, Z⟩, out2, Z, H, af.gr.g0, a1⟩)))))
def F63.E (s : List Feat) (id : Str) (Q : Feat → Bool → Prop) : Prop :=
 F107.E s id (fun r => F74.E s (fun r2 => (if !r2 then Q (⟨[], (⟨0, []⟩ : Shape), []⟩ : Feat) false else (if decide (r < 0) then Q (⟨[], (⟨0, []⟩ : Shape), []⟩ : Feat) false else ((0 : Int) ≤ r ∧ r < (s.length : Int)) ∧ F40.E (nth s r) (fun r3 => Q r3 true)))))
theorem F63.calls {s : List Feat} {A1 : Option Addr} {n2 c3 : Nat} {id : Str} {Q : Feat → Bool → Prop} (H : F63.E s id Q) (hO : Ok w0 O) (hp4 : Sl kFeat w0 (Fr O) (G A1 n2 c3) s) (hs6 : Lim id) :
  Ret Tryz.prog 32 [G A1 n2 c3, vs id] w0 (fun v w' => ∃ (r0 : Feat) (r1 : Bool) (Aw0 : Option Addr) (nw0 cw0 : Nat) (Aw2 : Option Addr) (nw2 cw2 : Nat), v = .tuple #[.agg #[vs r0.Id, vi r0.Shape.Kind, G Aw0 nw0 cw0, G Aw2 nw2 cw2], vb r1] ∧ Q r0 r1 ∧ Gk w0 w' [bk Aw0, bk Aw2] O (Lim r0.Id ∧ Ow kPt 49 w' ([bk Aw0, bk Aw2] ++ O) (G Aw0 nw0 cw0) r0.Shape.Pts ∧ Ow kTag 93 w' ([bk Aw0, bk Aw2] ++ O) (G Aw2 nw2 cw2) r0.Tags)) := by
 unfold F63.E at H;have hc0 := Ct.init hO;refine X9 Tryz.func32 Z 23 Z [.cell 4 44, .tmp 5] Z Z ?_;refine Xc (Xd (Yp [vs [], .int .i64 0, G none 0 0, G none 0 0] ze44 fun w7 b8 bb hu11 g9 ap => ?_));have aq := hc0.own g9 (some b8) (Yn bb hu11);refine Xg (vb false) Z (Xb (Xc (Xd (Xe (G A1 n2 c3) Z (Xe (vs id) Z ?_)))));refine Xu go82 (F107.calls H aq.ok (hp4.st aq.st) hs6) Z ?_;rintro _ bc ⟨r, rfl, H, ac⟩;have ar := aq.k0 ac;refine Xg (vi r) Z (Xb (Xc (Xc (Xd (Xe (G A1 n2 c3) Z ?_)))));refine Xu go37 (F74.calls H ar.ok (hp4.st ar.st)) Z ?_;rintro _ bd ⟨r2, rfl, H, ad⟩;have ab := ar.k0 ad;refine Xa (X7 r2 Z) (Xe (vb (!r2)) Z ?_);rcases X2 (!r2) with aa | aa
 ·have H := Xp H aa;refine Xi aa Z (Xi aa Z (Xa (Xk true (vb true) aa Z) (Xb (Yr (b := true) Z Z ?_))));refine Xc (Xd (Xa (Yl (.agg #[vs [], vi 0, G none 0 0, G none 0 0]) RF) ?_));have be := ((ap.k0 ac).k0 ad);refine Ye [vs [], vi 0, G none 0 0, G none 0 0] be Z Z sz44 Z Z fun a6 bf bg => ?_;have bh := ab.wr 0 Z bf;refine Xg (vb false) Z (Xb (Xn ?_));have bi := bh.own (Gr.refl _ none) none (by simp);have bj : Ow kPt 49 a6 ([bk none, some b8] ++ O) (G none 0 0) [] := Ow.nil _ _ _ _;have ae := bi.own (Gr.refl _ none) none (by simp);have bl : Ow kTag 93 a6 ([bk none, bk none, some b8] ++ O) (G none 0 0) [] := Ow.nil _ _ _ _;have bm := bg;have bn := ae.bgv bm 2 Z;have af := ae.drop 2 Z;have au := af.perm (.swap _ _ _);have bo := af.stp (.swap _ _ _);have bp := (bn.st bo);have bq := (af.sp (ae.sd (bj.so none (Gr.refl _ none) (by simp)) 1 2 Z Z Z) (.swap _ _ _));have br := (af.sp (ae.sd bl 0 2 Z Z Z) (.swap _ _ _));exact ⟨[.agg #[vs [], vi 0, G none 0 0, G none 0 0], vb false], ⟨_, _, Z, bp.1.res Z ag44 sz44, ⟨_, Z, Z⟩⟩, (⟨([] : Str), (⟨0, ([] : List Pt)⟩ : Shape), ([] : List Tag)⟩ : Feat), false, none, 0, 0, none, 0, 0, Z, H, au.gr.g0, au.ok, au.ge, RD, bq, br⟩
 have H := Xq H aa;refine Xh aa Z (Xe (vi r) Z (Xh aa Z (Xa (X1 r 0 (decide (r < 0)) Z Z Z) (Xa (Xk false (vb (decide (r < 0))) aa Z) (Xb ?_)))));refine Xz (decide (r < 0)) Z (fun av => ?_) (fun av => ?_)
 ·have H := Xp H av;refine Xc (Xd (Xa (Yl (.agg #[vs [], vi 0, G none 0 0, G none 0 0]) RF) ?_));have bs := ((ap.k0 ac).k0 ad);refine Ye [vs [], vi 0, G none 0 0, G none 0 0] bs Z Z sz44 Z Z fun a7 bt bu => ?_;have bv := ab.wr 0 Z bt;refine Xg (vb false) Z (Xb (Xn ?_));have bw := bv.own (Gr.refl _ none) none (by simp);have bx : Ow kPt 49 a7 ([bk none, some b8] ++ O) (G none 0 0) [] := Ow.nil _ _ _ _;have ag := bw.own (Gr.refl _ none) none (by simp);have bz : Ow kTag 93 a7 ([bk none, bk none, some b8] ++ O) (G none 0 0) [] := Ow.nil _ _ _ _;have b0 := bu;have b1 := ag.bgv b0 2 Z;have ah := ag.drop 2 Z;have aw := ah.perm (.swap _ _ _);have b2 := ah.stp (.swap _ _ _);have b3 := (b1.st b2);have b4 := (ah.sp (ag.sd (bx.so none (Gr.refl _ none) (by simp)) 1 2 Z Z Z) (.swap _ _ _));have b5 := (ah.sp (ag.sd bz 0 2 Z Z Z) (.swap _ _ _));exact ⟨[.agg #[vs [], vi 0, G none 0 0, G none 0 0], vb false], ⟨_, _, Z, b3.1.res Z ag44 sz44, ⟨_, Z, Z⟩⟩, (⟨([] : Str), (⟨0, ([] : List Pt)⟩ : Shape), ([] : List Tag)⟩ : Feat), false, none, 0, 0, none, 0, 0, Z, H, aw.gr.g0, aw.ok, aw.ge, RD, b4, b5⟩
 have H := Xq H av;refine Xx (Xc (Xd (Xe (G A1 n2 c3) Z (Xe (vi r) Z ?_))));obtain ⟨a8, H⟩ := H;obtain ⟨a9, cn, b6, co, b7, b9⟩ := (hp4.st ab.st).get default RD r a8;obtain ⟨ax, ay, az, a0, a1, a2, rfl, ca, cb, cc⟩ := kFeat.op b7;refine Xa (X3 u33_ Y1 A1 a9 n2 c3 (hp4.st ab.st).len r Z b6 Z a8) (Xa (Xv ag44 sz44 cL (a9.add (r.toNat * 4)) [vs ((nth s r).Id), vi ((nth s r).Shape.Kind), G ax ay az, G a0 a1 a2] Z Z b9) ?_);refine Xu go77 (F40.calls H ab.ok ca cb cc) Z ?_;rintro _ cp ⟨r3, ai, aj, ak, al, am, an, rfl, H, ba, cd, ce, cf, cg, ch⟩;have a3 := ab.owns ba cd ce;have ci := (((ap.k0 ac).k0 ad).k0 ba);refine Ye [vs r3.Id, vi r3.Shape.Kind, G ai aj ak, G al am an] ci Z Z sz44 Z Z fun cq a4 cj => ?_;have ao := a3.wr 2 Z a4;refine Xg (vb true) Z (Xb (Xn ?_));have ck := ao.bgv cj 2 Z;have a5 := ao.drop 2 Z;have cl := (ao.sd (a3.sw cg 0 2 Z Z Z a4) 0 2 Z Z Z);have cm := (ao.sd (a3.sw ch 1 2 Z Z Z a4) 1 2 Z Z Z);exact ⟨[.agg #[vs r3.Id, vi r3.Shape.Kind, G ai aj ak, G al am an], vb true], ⟨_, _, Z, ck.1.res Z ag44 sz44, ⟨_, Z, Z⟩⟩, r3, true, ai, aj, ak, al, am, an, Z, H, a5.gr.g0, a5.ok, a5.ge, cf, cl, cm⟩
def laws_FnDiffOne.E (code : List UInt8) (Q : Bool → Prop) : Prop :=
 (if decide ((code.length : Int) > 1048576) then Q true else F17.E code (fun r r2 => F62.E r r2 (fun r3 r4 => F108.E r r3 (fun r5 => F49.E r5 (fun r6 => F109.E r r3 (fun r7 => F52.E r7 (fun r8 => (if r6 != r8 then F49.E r5 (fun r9 => F109.E r r3 (fun r10 => F52.E r10 (fun r11 => Q (r9 == r11)))) else (if !r4 then F49.E r5 (fun r12 => F109.E r r3 (fun r13 => F52.E r13 (fun r14 => Q (r12 == r14)))) else F63.E r r2.Id (fun r15 r16 => (if r16 then F46.E r15 r2 (fun r17 => (if r17 then Q ((r5.length : Int) == 0) else (if (r5.length : Int) == 1 then ((0 : Int) ≤ 0 ∧ 0 < (r5.length : Int)) ∧ (if ((nth r5 0).Id) == r2.Id then ((0 : Int) ≤ 0 ∧ 0 < (r5.length : Int)) ∧ (if ((nth r5 0).Had) == r16 then ((0 : Int) ≤ 0 ∧ 0 < (r5.length : Int)) ∧ (∃ q : Bool, F46.E ((nth r5 0).Was) r15 (fun x => x = q) ∧ (if q then ((0 : Int) ≤ 0 ∧ 0 < (r5.length : Int)) ∧ (if (nth r5 0).Has then ((0 : Int) ≤ 0 ∧ 0 < (r5.length : Int)) ∧ (∃ q2 : Bool, F46.E ((nth r5 0).Now) r2 (fun x => x = q2) ∧ Q q2) else Q false) else Q false)) else Q false) else Q false) else Q false))) else (if (r5.length : Int) == 1 then ((0 : Int) ≤ 0 ∧ 0 < (r5.length : Int)) ∧ (if ((nth r5 0).Id) == r2.Id then ((0 : Int) ≤ 0 ∧ 0 < (r5.length : Int)) ∧ (if ((nth r5 0).Had) == r16 then ((0 : Int) ≤ 0 ∧ 0 < (r5.length : Int)) ∧ (∃ q3 : Bool, F46.E ((nth r5 0).Was) r15 (fun x => x = q3) ∧ (if q3 then ((0 : Int) ≤ 0 ∧ 0 < (r5.length : Int)) ∧ (if (nth r5 0).Has then ((0 : Int) ≤ 0 ∧ 0 < (r5.length : Int)) ∧ (∃ q4 : Bool, F46.E ((nth r5 0).Now) r2 (fun x => x = q4) ∧ Q q4) else Q false) else Q false)) else Q false) else Q false) else Q false))))))))))))
theorem laws_FnDiffOne.calls {O : Ob} (w0 : World) (hO : Ok w0 O) (hG : Glob w0 O) (code : List UInt8) (A1 : Option Addr) (n2 c3 : Nat) (hp4 : Sl Kd.byte w0 (Fr O) (G A1 n2 c3) code) (Q : Bool → Prop) (h : laws_FnDiffOne.E code Q) :
  Ret Tryz.prog 6 [G A1 n2 c3] w0 (fun v w' => ∃ (r0 : Bool), v = vb r0 ∧ Q r0 ∧ Gr w0 w' none) := by
 unfold laws_FnDiffOne.E at h;have H := h;clear h;have hc0 := Ct.init hO;refine X9 Tryz.func6 Z 103 Z [.tmp 2] Z Z ?_;refine Xc (Xd (Xg (vb false) Z (Xb (Xc (Xc (Xd (Xe (G A1 n2 c3) Z ?_)))))));have hl6 := hp4.le;refine Xa (Yc u22_ A1 n2 c3 hp4.len Z) (Xa (X1 (code.length : Int) 1048576 (decide ((code.length : Int) > 1048576)) Z Z Z) (Xb ?_));refine Xz (decide ((code.length : Int) > 1048576)) Z (fun hq7 => ?_) (fun hq7 => ?_)
 ·have H := Xp H hq7;exact Xc (Xd (Xg (vb true) Z (Xb (Xn ⟨[vb true], ⟨_, Z, Z⟩, true, Z, H, hc0.gr.g0⟩))))
 have H := Xq H hq7;refine Xx (Xc (Xd (Xe (G A1 n2 c3) Z ?_)));refine Xu go30 (F17.calls H hc0.ok hp4) Z ?_;rintro _ w8 ⟨r, r2, ai, aj, ak, ap, aq, ar, au, av, aw, rfl, H, g9, f6, f7, f8, cc, f9, ga⟩;have ej := hc0.owns g9 f6 f7;refine Xe (.tuple #[G ai aj ak, .agg #[vs r2.Id, vi r2.Shape.Kind, G ap aq ar, G au av aw]]) Z (Xa (Y7 [G ai aj ak, .agg #[vs r2.Id, vi r2.Shape.Kind, G ap aq ar, G au av aw]] 0 (G ai aj ak) Z Z) (Xa (Y7 [G ai aj ak, .agg #[vs r2.Id, vi r2.Shape.Kind, G ap aq ar, G au av aw]] 1 (.agg #[vs r2.Id, vi r2.Shape.Kind, G ap aq ar, G au av aw]) Z Z) (Yp [vs [], .int .i64 0, G none 0 0, G none 0 0] ze44 fun lg ab cz hu34 c0 gb => ?_)));have c1 := ej.own c0 (some ab) (Yn cz hu34);refine Xg (G ai aj ak) Z (Ye [vs r2.Id, vi r2.Shape.Kind, G ap aq ar, G au av aw] gb Z Z sz44 Z Z fun gc c2 ek => ?_);have c4 := c1.wr 0 Z c2;refine Xb (Xc (Xd (Xe (G ai aj ak) Z (Xa (Xv ag44 sz44 cL (Ad ab 0) [vs r2.Id, vi r2.Shape.Kind, G ap aq ar, G au av aw] Z Z (ek.cells (off := 00) Z)) ?_))));have gd := (c1.sw (f8.so _ c0 (X4 cz)) 1 0 Z Z Z c2);have c5 := c4.gv gd 1 Z;have ch := c4.drop 1 Z;have el := ej.stown _ c0 (X4 cz);have em := c1.stw 0 Z c2;have en := c4.std 1 Z;have ci := (((f9.st el).st em).st en);have cj := (((ga.st el).st em).st en);refine Xu go31 (F62.calls H ch.ok c5 cc ci cj) Z ?_;rintro _ eo ⟨r3, r4, ae, a0, a1, rfl, H, ck, ge, c6, ep⟩;have b7 : Ct [] w0 eo [bk ae, some ab] O := ch.owns ck ge c6;refine Xe (.tuple #[G ae a0 a1, vb r4]) Z (Xa (Y7 [G ae a0 a1, vb r4] 0 (G ae a0 a1) Z Z) (Xa (Y7 [G ae a0 a1, vb r4] 1 (vb r4) Z Z) (Xg (G ae a0 a1) Z (Xg (vb r4) Z (Xb (Xc (Xd (Xe (G ai aj ak) Z ?_))))))));refine Xe (G ae a0 a1) Z ?_;have gf := b7.gv ep 0 Z;have gg := b7.drop 0 Z;have gh := ch.stos ck c6;have gi := b7.std 0 Z;have gj := ((c5.st gh).st gi);refine Xu go20 (F108.calls H gg.ok gj gf) Z ?_;rintro _ eq ⟨r5, aa, ac, ad, af, lh, rfl, H, cd, gk, cl, gl, b8⟩;have gm := Ok.unl (L := [bk ae, some ab]) (L' := [some ab]) (O := O) b7 cd gk cl;have b9 := Ow.unl (L := [bk ae, some ab]) (L' := [some ab]) (O := O) (fun _ _ _ _ _ _ h => h) (.cons _ (.cons_cons _ (.slnil))) gl;have bw := b7.owns cd gm cl;have bt : (((bk aa :: (af ++ [])) ++ [bk ae, some ab]) : Ob).Perm (bk aa :: bk ae :: some ab :: (af ++ [])) := RP;have c7 := bw.perm bt;refine Xg (G aa ac ad) Z (Xb (Xc (Xc (Xd (Xe (G aa ac ad) Z ?_)))));have gn := (bw.spa b9 bt);have gp := b8;have gq : ((bk aa :: bk ae :: some ab :: (af ++ [])) : Ob).Perm (bk aa :: (af ++ [bk ae, some ab])) := RP;obtain ⟨gs, er, li⟩ := Dp.gv (L := (bk aa :: bk ae :: some ab :: (af ++ []))) (O := O) (v := G aa ac ad) gn gp c7 gq;refine Xu go12 (F49.calls H er.ok (hG.st er.st) gs) Z ?_;rintro _ gt ⟨r6, rfl, H, be, lj⟩;have bx := c7.k0 be;refine Xe (G ai aj ak) Z (Xe (G ae a0 a1) Z ?_);have gu := ((bw.spa (ep.sos cd cl) bt).sn be);have c8 := bx.gv gu 1 Z;have ce := bx.drop 1 Z;have bz := ch.stos ck c6;have b0 := b7.stos cd cl;have b1 := St.spa (w := eq) (A := (bk aa :: (af ++ []))) (L := [bk ae, some ab]) (O := O) bt;have b2 := c7.stn be;have b3 := bx.std 1 Z;have cm := (((((c5.st bz).st b0).st b1).st b2).st b3);refine Xu go21 (F109.calls H ce.ok cm c8) Z ?_;rintro _ gw ⟨r7, al, es, et, rfl, H, a8, gx, bu, gy⟩;have ca := ce.owns a8 gx bu;have gz := ca.gv gy 0 Z;have g1 := ca.drop 0 Z;refine Xu go13 (F52.calls H g1.ok gz) Z ?_;rintro _ c9 ⟨r8, rfl, H, a9, lk⟩;have bj := ca.k0 a9;refine Xa (Yi r6 r8 (r6 != r8) Z Z Z) (Xe (vb (r6 != r8)) Z ?_);rcases X2 (r6 != r8) with bv | bv
 ·have H := Xp H bv;refine Xi bv Z (Xi bv Z (Xa (Xk true (vb true) bv Z) (Xb (Yr (b := true) Z Z ?_))));refine Xc (Xd (Xe (G aa ac ad) Z ?_));have g3 := (((bx.sd ((bw.spa b9 bt).sn be) 0 1 Z Z Z).sos a8 bu).sn a9);have g4 := (((b8.k0 be).k0 a8).k0 a9);have g5 : ((bk al :: bk aa :: some ab :: (af ++ [])) : Ob).Perm (bk aa :: (af ++ [bk al, some ab])) := RP;obtain ⟨g6, eu, ll⟩ := Dp.gv (L := (bk al :: bk aa :: some ab :: (af ++ []))) (O := O) (v := G aa ac ad) g3 g4 bj g5;refine Xu go12 (F49.calls H eu.ok (hG.st eu.st) g6) Z ?_;rintro _ g7 ⟨r9, rfl, H, ev, lm⟩;have ew := bj.k0 ev;refine Xe (G ai aj ak) Z (Xe (G ae a0 a1) Z ?_);have ex := ce.stos a8 bu;have ey := ca.stn a9;have ez := bj.stn ev;have g8 := (((cm.st ex).st ey).st ez);have ha := (((c8.st ex).st ey).st ez);refine Xu go21 (F109.calls H ew.ok g8 ha) Z ?_;rintro _ hc ⟨r10, e0, e1, e2, rfl, H, hd, he, hf, hg⟩;have da := ew.owns hd he hf;have hh := da.gv hg 0 Z;have hi := da.drop 0 Z;refine Xu go13 (F52.calls H hi.ok hh) Z ?_;rintro _ ln ⟨r11, rfl, H, hj, lo⟩;have hk := da.k0 hj;refine Xa (Yi r9 r11 (r9 == r11) Z Z Z) (Xg (vb (r9 == r11)) Z (Xb (Xn ?_)));have hl := hk.clear;exact ⟨[vb (r9 == r11)], ⟨_, Z, Z⟩, r9 == r11, Z, H, hl.gr.g0⟩
 have H := Xq H bv;refine Xh bv Z (Xe (vb r4) Z (Xh bv Z (Xa (X7 r4 Z) (Xa (Xk false (vb (!r4)) bv Z) (Xb ?_)))));refine Xz (!r4) Z (fun db => ?_) (fun db => ?_)
 ·have H := Xp H db;refine Xc (Xd (Xe (G aa ac ad) Z ?_));have hm := (((bx.sd ((bw.spa b9 bt).sn be) 0 1 Z Z Z).sos a8 bu).sn a9);have hn := (((b8.k0 be).k0 a8).k0 a9);have ho : ((bk al :: bk aa :: some ab :: (af ++ [])) : Ob).Perm (bk aa :: (af ++ [bk al, some ab])) := RP;obtain ⟨hp, e3, lp⟩ := Dp.gv (L := (bk al :: bk aa :: some ab :: (af ++ []))) (O := O) (v := G aa ac ad) hm hn bj ho;refine Xu go12 (F49.calls H e3.ok (hG.st e3.st) hp) Z ?_;rintro _ hq ⟨r12, rfl, H, e4, lq⟩;have e5 := bj.k0 e4;refine Xe (G ai aj ak) Z (Xe (G ae a0 a1) Z ?_);have e6 := ce.stos a8 bu;have e7 := ca.stn a9;have e8 := bj.stn e4;have hr := (((cm.st e6).st e7).st e8);have hs := (((c8.st e6).st e7).st e8);refine Xu go21 (F109.calls H e5.ok hr hs) Z ?_;rintro _ ht ⟨r13, e9, fa, fb, rfl, H, hu, hv, hw, hx⟩;have dc := e5.owns hu hv hw;have hy := dc.gv hx 0 Z;have hz := dc.drop 0 Z;refine Xu go13 (F52.calls H hz.ok hy) Z ?_;rintro _ lr ⟨r14, rfl, H, h0, ls⟩;have h1 := dc.k0 h0;refine Xa (Yi r12 r14 (r12 == r14) Z Z Z) (Xg (vb (r12 == r14)) Z (Xb (Xn ?_)));have h2 := h1.clear;exact ⟨[vb (r12 == r14)], ⟨_, Z, Z⟩, r12 == r14, Z, H, h2.gr.g0⟩
 have H := Xq H db;refine Xx (Xc (Xd (Xe (G ai aj ak) Z (Xa (Xj fa44_0 (Ad ab 0) (Ad ab 0) Z Z) ?_))));have dd := (((((ek.k0 ck).k0 cd).k0 be).k0 a8).k0 a9);refine Xa (Xo ag9 cL (Ad ab 0) (vs r2.Id) Z (dd.cell Z)) ?_;have b4 := ce.stos a8 bu;have b5 := ca.stn a9;have h3 := ((cm.st b4).st b5);refine Xu go32 (F63.calls H bj.ok h3 cc) Z ?_;rintro _ lt ⟨r15, r16, ag, ba, bb, ah, bc, bd, rfl, H, bi, h4, b6, de, df, dg⟩;have cn := bj.owns bi h4 b6;refine Xe (.tuple #[.agg #[vs r15.Id, vi r15.Shape.Kind, G ag ba bb, G ah bc bd], vb r16]) Z (Xa (Y7 [.agg #[vs r15.Id, vi r15.Shape.Kind, G ag ba bb, G ah bc bd], vb r16] 0 (.agg #[vs r15.Id, vi r15.Shape.Kind, G ag ba bb, G ah bc bd]) Z Z) (Xa (Y7 [.agg #[vs r15.Id, vi r15.Shape.Kind, G ag ba bb, G ah bc bd], vb r16] 1 (vb r16) Z Z) (Yp [vs [], .int .i64 0, G none 0 0, G none 0 0] ze44 fun lu am bf hu243 ax h5 => ?_)));have ay := cn.own ax (some am) (Yn bf hu243);refine Ye [vs r15.Id, vi r15.Shape.Kind, G ag ba bb, G ah bc bd] h5 Z Z sz44 Z Z fun co az dh => ?_;have bn := ay.wr 0 Z az;refine Xg (vb r16) Z (Xb (Xc (Xc (Xd (Xe (vb r16) Z (Xe (vb r16) Z ?_))))));rcases X2 r16 with bl | bl
 ·have H := Xp H bl;refine Xh bl Z (Xa (Xv ag44 sz44 cL (Ad am 0) [vs r15.Id, vi r15.Shape.Kind, G ag ba bb, G ah bc bd] Z Z (dh.cells (off := 00) Z)) (Xh bl Z ?_));have fc := (ay.bm ((dd.k0 bi).k0 ax) 5 0 Z Z Z az);refine Xa (Xv ag44 sz44 cL (Ad ab 0) [vs r2.Id, vi r2.Shape.Kind, G ap aq ar, G au av aw] Z Z (fc.cells (off := 00) Z)) (Xh bl Z ?_);have h6 := (ay.sw (df.so _ ax (X4 bf)) 1 0 Z Z Z az);have h7 := bn.gv h6 1 Z;have di := bn.drop 1 Z;have h8 := (bn.sd (ay.sw (dg.so _ ax (X4 bf)) 2 0 Z Z Z az) 2 1 Z Z Z);have h9 := di.gv h8 1 Z;have ia : Ct [] w0 co (some am :: bk al :: bk aa :: some ab :: (af ++ [])) O := di.drop 1 Z;have dk := di.std 1 Z;have fd := bj.stos bi b6;have fe := cn.stown _ ax (X4 bf);have ff := ay.stw 0 Z az;have fg := bn.std 1 Z;have ib := ((((((((((((ci.st bz).st b0).st b1).st b2).st b3).st b4).st b5).st fd).st fe).st ff).st fg).st dk);have ic := ((((((((((((cj.st bz).st b0).st b1).st b2).st b3).st b4).st b5).st fd).st fe).st ff).st fg).st dk);refine Xu go28 (F46.calls H ia.ok de (h7.st dk) h9 cc ib ic) Z ?_;rintro _ fh ⟨r17, rfl, H, bo⟩;have cb := bn.k0 bo;refine Xa (Xk true (vb r17) bl Z) (Xb ?_);refine Xz r17 Z (fun dl => ?_) (fun dl => ?_)
  ·have H := Xp H dl;refine Xc ?_;have fi : ((some am :: bk ag :: bk ah :: bk al :: bk aa :: some ab :: (af ++ [])) : Ob).Perm ((some am :: bk ag :: bk ah :: bk al :: some ab :: []) ++ (bk aa :: (af ++ []))) := RP;have id := cb.drops fi;refine Xd (Xe (G aa ac ad) Z ?_);have fj := (cb.odr ((ay.sw (((((bx.sd ((bw.spa b9 bt).sn be) 0 1 Z Z Z).sos a8 bu).sn a9).sos bi b6).so _ ax (X4 bf)) 4 0 Z Z Z az).sn bo) fi 0 Z);have fk := ((DArr.sm (L := (some am :: bk ag :: bk ah :: bk al :: bk aa :: some ab :: (af ++ []))) (O := O) (i := 0) (((((b8.k0 be).k0 a8).k0 a9).k0 bi).k0 ax) ay Z (fun b hb => (mcm (mcm (mcm (mcm (mcm (List.mem_append_left _ hb))))))) az).k0 bo);have lv := (Dp.le fj fk);refine Xa (Yc u23_ aa ac ad (Dp.len fj fk) Z) (Xa (X1 (r5.length : Int) 0 ((r5.length : Int) == 0) Z Z Z) (Xg (vb ((r5.length : Int) == 0)) Z (Xb (Xn ?_))));have ie : ((bk aa :: (af ++ [])) : Ob).Perm ((bk aa :: (af ++ [])) ++ []) := RP;have ig := id.drops ie;exact ⟨[vb ((r5.length : Int) == 0)], ⟨_, Z, Z⟩, (r5.length : Int) == 0, Z, H, ig.gr.g0⟩
  have H := Xq H dl;refine Xx (Xc (Ys (fun x => Gr fh x none) RK RK (Gr.drew _) ?_));refine Xs (G aa ac ad) Z ?_;have dm := ((ay.sw (((((bx.sd ((bw.spa b9 bt).sn be) 0 1 Z Z Z).sos a8 bu).sn a9).sos bi b6).so _ ax (X4 bf)) 4 0 Z Z Z az).sn bo);have dn := ((DArr.sm (L := (some am :: bk ag :: bk ah :: bk al :: bk aa :: some ab :: (af ++ []))) (O := O) (i := 0) (((((b8.k0 be).k0 a8).k0 a9).k0 bi).k0 ax) ay Z (fun b hb => (mcm (mcm (mcm (mcm (mcm (List.mem_append_left _ hb))))))) az).k0 bo);have lw := (Dp.le dm dn);refine Xf (Yc u23_ aa ac ad (Dp.len dm dn) Z) (Xf (X1 (r5.length : Int) 1 ((r5.length : Int) == 1) Z Z Z) (Xs (vb ((r5.length : Int) == 1)) Z ?_));rcases X2 ((r5.length : Int) == 1) with an | an
  ·have H := Xp H an;refine Xl an Z (Xs (G aa ac ad) Z (Xl an Z ?_));obtain ⟨fl, H⟩ := H;have cf : ((some am :: bk ag :: bk ah :: bk al :: bk aa :: some ab :: (af ++ [])) : Ob).Perm (af ++ [some am, bk ag, bk ah, bk al, bk aa, some ab]) := RP;obtain ⟨bp, bq, lx⟩ := Dp.own (L := (some am :: bk ag :: bk ah :: bk al :: bk aa :: some ab :: (af ++ []))) (O := O) dm dn cb cf (memi 4 Z);obtain ⟨cp, ly, ih, ii, ij⟩ := bp.get default RD 0 fl;obtain ⟨lz, l0, l1, l2, l3, l4, l5, l6, l7, l8, l9, ma, rfl, mb, mc, md, me, mf, mg, mh⟩ := kChange.op ii;refine Xf (X3 u23_ Y4 aa cp ac ad bp.len 0 Z ih Z fl) (Xl an Z (Xf (Xj fa62_0 (cp.add ((0 : Int).toNat * 11)) ((cp.add ((0 : Int).toNat * 11)).add 0) Z Z) (Xl an Z (Xf (Xo ag9 cQ ((cp.add ((0 : Int).toNat * 11)).add 0) (vs ((nth r5 0).Id)) Z (ij 0 _ Z)) (Xl an Z (Xf (Xj fa44_0 (Ad ab 0) (Ad ab 0) Z Z) (Xl an Z ?_)))))));have fm := (fc.k0 bo);refine Xf (Xo ag9 cQ (Ad ab 0) (vs r2.Id) Z (fm.cell Z)) (Xl an Z (Xf (Yi ((nth r5 0).Id) r2.Id (((nth r5 0).Id) == r2.Id) Z Z Z) (Xf (Ym true (vb (((nth r5 0).Id) == r2.Id)) (by exact congrArg Value.bool an) Z) (Xs (vb (((nth r5 0).Id) == r2.Id)) Z ?_))));rcases X2 (((nth r5 0).Id) == r2.Id) with a2 | a2
   ·have H := Xp H a2;refine Xl a2 Z (Xs (G aa ac ad) Z (Xl a2 Z ?_));obtain ⟨fn, H⟩ := H;obtain ⟨cq, mi, ik, il, im⟩ := bp.get default RD 0 fn;obtain ⟨mj, mk, ml, mm, mn, mo, mp, mq, mr, ms, mt, mu, rfl, mv, mw, mx, my, mz, m0, m1⟩ := kChange.op il;refine Xf (X3 u23_ Y4 aa cq ac ad bp.len 0 Z ik Z fn) (Xl a2 Z (Xf (Xj fa62_1 (cq.add ((0 : Int).toNat * 11)) ((cq.add ((0 : Int).toNat * 11)).add 1) Z Z) (Xl a2 Z (Xf (Xo ag4 cQ ((cq.add ((0 : Int).toNat * 11)).add 1) (vb ((nth r5 0).Had)) Z (im 1 _ Z)) (Xl a2 Z (Xs (vb r16) Z (Xl a2 Z (Xf (Zp u4_ ((nth r5 0).Had) r16 (((nth r5 0).Had) == r16) Z Z Z) ?_))))))));refine Xf (Ym true (vb (((nth r5 0).Had) == r16)) (by exact congrArg Value.bool a2) Z) (Xs (vb (((nth r5 0).Had) == r16)) Z ?_);rcases X2 (((nth r5 0).Had) == r16) with a3 | a3
    ·have H := Xp H a3;refine Xl a3 Z (Xs (G aa ac ad) Z (Xl a3 Z ?_));obtain ⟨fo, H⟩ := H;obtain ⟨cr, m2, io, ip, iq⟩ := bp.get default RD 0 fo;obtain ⟨dp, dq, dr, ds, dt, du, m3, m4, m5, m6, m7, m8, rfl, m9, ir, it, iu, na, nb, nc⟩ := kChange.op ip;refine Xf (X3 u23_ Y4 aa cr ac ad bp.len 0 Z io Z fo) (Xl a3 Z (Xf (Xj fa62_2 (cr.add ((0 : Int).toNat * 11)) ((cr.add ((0 : Int).toNat * 11)).add 2) Z Z) (Xl a3 Z (Xf (Xv ag44 sz44 cQ ((cr.add ((0 : Int).toNat * 11)).add 2) [vs ((nth r5 0).Was.Id), vi ((nth r5 0).Was.Shape.Kind), G dp dq dr, G ds dt du] Z Z (sub_cells (off := 2) iq Z)) (Xl a3 Z ?_)))));have iv := (dh.k0 bo);refine Xf (Xv ag44 sz44 cQ (Ad am 0) [vs r15.Id, vi r15.Shape.Kind, G ag ba bb, G ah bc bd] Z Z (iv.cells (off := 00) Z)) (Xl a3 Z ?_);have iw := (cb.odr ((ay.sw (df.so _ ax (X4 bf)) 1 0 Z Z Z az).sn bo) cf 1 Z);have ix := bq.gv iw 1 Z;have dv := bq.drop 1 Z;have iy := (bq.sd (cb.odr ((ay.sw (dg.so _ ax (X4 bf)) 2 0 Z Z Z az).sn bo) cf 2 Z) 2 1 Z Z Z);have iz := dv.gv iy 1 Z;have i0 : Ct [] w0 fh [some am, bk al, bk aa, some ab] O := dv.drop 1 Z;have fp := bq.std 1 Z;have dw := dv.std 1 Z;have i1 := ((it.st fp).st dw);have i2 := ((iu.st fp).st dw);obtain ⟨q, i3, H⟩ := H;refine Yq go28 [.agg #[vs ((nth r5 0).Was.Id), vi ((nth r5 0).Was.Shape.Kind), G dp dq dr, G ds dt du], .agg #[vs r15.Id, vi r15.Shape.Kind, G ag ba bb, G ah bc bd]] Z (vb q) (fun w g => (F46.calls i3 (i0.k0 g).ok ir (i1.st (.new _ g)) (i2.st (.new _ g)) de ((ix.st dw).st (.new _ g)) (iz.st (.new _ g))).mono ?_) ?_
     ·rintro _ w ⟨r, rfl, rfl, g2⟩;exact ⟨Z, Gr.t0 g g2⟩
     refine Xf (Xk true (vb q) a3 Z) (Xs (vb q) Z ?_);rcases X2 q with bg | bg
     ·have H := Xp H bg;refine Xl bg Z (Xs (G aa ac ad) Z (Xl bg Z ?_));obtain ⟨fq, H⟩ := H;obtain ⟨cs, nd, i4, i5, i6⟩ := bp.get default RD 0 fq;obtain ⟨ne, nf, ng, nh, ni, nj, nk, nl, nm, nn, no, np, rfl, nq, nr, ns, nt, nu, nv, nw⟩ := kChange.op i5;refine Xf (X3 u23_ Y4 aa cs ac ad bp.len 0 Z i4 Z fq) (Xl bg Z (Xf (Xj fa62_3 (cs.add ((0 : Int).toNat * 11)) ((cs.add ((0 : Int).toNat * 11)).add 6) Z Z) (Xl bg Z (Xf (Xo ag4 cQ ((cs.add ((0 : Int).toNat * 11)).add 6) (vb ((nth r5 0).Has)) Z (i6 6 _ Z)) (Xf (Xk true (vb ((nth r5 0).Has)) bg Z) (Xs (vb ((nth r5 0).Has)) Z ?_))))));rcases X2 ((nth r5 0).Has) with a4 | a4
      ·have H := Xp H a4;refine Xl a4 Z (Xs (G aa ac ad) Z (Xl a4 Z ?_));obtain ⟨fr, H⟩ := H;obtain ⟨ct, nx, i7, i8, i9⟩ := bp.get default RD 0 fr;obtain ⟨ny, nz, n0, n1, n3, n4, dx, dy, dz, d0, d1, d2, rfl, n5, n6, n7, n8, ja, jb, jc⟩ := kChange.op i8;refine Xf (X3 u23_ Y4 aa ct ac ad bp.len 0 Z i7 Z fr) (Xl a4 Z (Xf (Xj fa62_4 (ct.add ((0 : Int).toNat * 11)) ((ct.add ((0 : Int).toNat * 11)).add 7) Z Z) (Xl a4 Z (Xf (Xv ag44 sz44 cQ ((ct.add ((0 : Int).toNat * 11)).add 7) [vs ((nth r5 0).Now.Id), vi ((nth r5 0).Now.Shape.Kind), G dx dy dz, G d0 d1 d2] Z Z (sub_cells (off := 7) i9 Z)) (Xl a4 Z (Xf (Xv ag44 sz44 cQ (Ad ab 0) [vs r2.Id, vi r2.Shape.Kind, G ap aq ar, G au av aw] Z Z (fm.cells (off := 00) Z)) (Xl a4 Z ?_)))))));have fs := bj.stos bi b6;have ft := cn.stown _ ax (X4 bf);have fu := ay.stw 0 Z az;have fv := bn.stn bo;have jd := ((((((((((((ci.st bz).st b0).st b1).st b2).st b3).st b4).st b5).st fs).st ft).st fu).st fv).st (St.drops _ O cf));have je := ((((((((((((cj.st bz).st b0).st b1).st b2).st b3).st b4).st b5).st fs).st ft).st fu).st fv).st (St.drops _ O cf));obtain ⟨q2, jf, H⟩ := H;refine Yq go28 [.agg #[vs ((nth r5 0).Now.Id), vi ((nth r5 0).Now.Shape.Kind), G dx dy dz, G d0 d1 d2], .agg #[vs r2.Id, vi r2.Shape.Kind, G ap aq ar, G au av aw]] Z (vb q2) (fun w g => (F46.calls jf (bq.k0 g).ok ja (jb.st (.new _ g)) (jc.st (.new _ g)) cc (jd.st (.new _ g)) (je.st (.new _ g))).mono ?_) ?_
       ·rintro _ w ⟨r, rfl, rfl, g2⟩;exact ⟨Z, Gr.t0 g g2⟩
       refine Xf (Xk true (vb q2) a4 Z) (Yy (vb q2) Z (Ya fun n9 jg => ?_));have jh := bq.k0 jg;refine Xn ?_;have ji := jh.clear;exact ⟨[vb q2], ⟨_, Z, Z⟩, q2, Z, H, ji.gr.g0⟩
      have H := Xq H a4;refine Xm a4 Z (Xm a4 Z (Xm a4 Z (Xm a4 Z (Xm a4 Z (Xm a4 Z (Xf (Xk false (vb false) a4 Z) (Yy (vb false) Z (Ya fun oa jj => ?_))))))));have jk := bq.k0 jj;refine Xn ?_;have jl := jk.clear;exact ⟨[vb false], ⟨_, Z, Z⟩, false, Z, H, jl.gr.g0⟩
     have H := Xq H bg;refine Xm bg Z (Xm bg Z (Xm bg Z (Xm bg Z (Xf (Xk false (vb false) bg Z) (Xs (vb false) Z (Xt (dj := 95) Z Z (.inl Z) (Xt (dj := 95) Z Z (.inl Z) (Xt (dj := 95) Z Z (.inl Z) ?_))))))));refine Xt (dj := 95) Z Z (.inl Z) (Xt (dj := 95) Z Z (.inl Z) (Xt (dj := 95) Z Z (.inl Z) (Xf (Xk false (vb false) Z Z) (Yy (vb false) Z (Ya fun ob jm => ?_)))));have jn := bq.k0 jm;refine Xn ?_;have jo := jn.clear;exact ⟨[vb false], ⟨_, Z, Z⟩, false, Z, H, jo.gr.g0⟩
    have H := Xq H a3;refine Xm a3 Z (Xm a3 Z (Xm a3 Z (Xm a3 Z (Xm a3 Z (Xm a3 Z (Xf (Xk false (vb false) a3 Z) (Xs (vb false) Z (Xt (dj := 89) Z Z (.inl Z) ?_))))))));refine Xt (dj := 89) Z Z (.inl Z) (Xt (dj := 89) Z Z (.inl Z) (Xt (dj := 89) Z Z (.inl Z) (Xf (Xk false (vb false) Z Z) (Xs (vb false) Z (Xt (dj := 95) Z Z (.inl Z) (Xt (dj := 95) Z Z (.inl Z) (Xt (dj := 95) Z Z (.inl Z) (Xt (dj := 95) Z Z (.inl Z) ?_))))))));refine Xt (dj := 95) Z Z (.inl Z) (Xt (dj := 95) Z Z (.inl Z) (Xf (Xk false (vb false) Z Z) (Yy (vb false) Z (Ya fun oc jp => ?_))));have jq := bq.k0 jp;refine Xn ?_;have jr := jq.clear;exact ⟨[vb false], ⟨_, Z, Z⟩, false, Z, H, jr.gr.g0⟩
   have H := Xq H a2;refine Xm a2 Z (Xm a2 Z (Xm a2 Z (Xm a2 Z (Xm a2 Z (Xm a2 Z (Xf (Xk false (vb false) a2 Z) (Xs (vb false) Z (Xt (dj := 81) Z Z (.inl Z) ?_))))))));refine Xt (dj := 81) Z Z (.inl Z) (Xt (dj := 81) Z Z (.inl Z) (Xt (dj := 81) Z Z (.inl Z) (Xt (dj := 81) Z Z (.inl Z) (Xt (dj := 81) Z Z (.inl Z) (Xf (Xk false (vb false) Z Z) (Xs (vb false) Z (Xt (dj := 89) Z Z (.inl Z) (Xt (dj := 89) Z Z (.inl Z) ?_))))))));refine Xt (dj := 89) Z Z (.inl Z) (Xt (dj := 89) Z Z (.inl Z) (Xf (Xk false (vb false) Z Z) (Xs (vb false) Z (Xt (dj := 95) Z Z (.inl Z) (Xt (dj := 95) Z Z (.inl Z) (Xt (dj := 95) Z Z (.inl Z) (Xt (dj := 95) Z Z (.inl Z) (Xt (dj := 95) Z Z (.inl Z) ?_))))))));refine Xt (dj := 95) Z Z (.inl Z) (Xf (Xk false (vb false) Z Z) (Yy (vb false) Z (Ya fun od js => ?_)));have jt := bq.k0 js;refine Xn ?_;have ju := jt.clear;exact ⟨[vb false], ⟨_, Z, Z⟩, false, Z, H, ju.gr.g0⟩
  have H := Xq H an;refine Xm an Z (Xm an Z (Xm an Z (Xm an Z (Xm an Z (Xm an Z (Xm an Z (Xf (Xk false (vb false) an Z) (Xs (vb false) Z ?_))))))));refine Xt (dj := 73) Z Z (.inl Z) (Xt (dj := 73) Z Z (.inl Z) (Xt (dj := 73) Z Z (.inl Z) (Xt (dj := 73) Z Z (.inl Z) (Xt (dj := 73) Z Z (.inl Z) (Xt (dj := 73) Z Z (.inl Z) (Xf (Xk false (vb false) Z Z) (Xs (vb false) Z (Xt (dj := 81) Z Z (.inl Z) ?_))))))));refine Xt (dj := 81) Z Z (.inl Z) (Xt (dj := 81) Z Z (.inl Z) (Xt (dj := 81) Z Z (.inl Z) (Xt (dj := 81) Z Z (.inl Z) (Xt (dj := 81) Z Z (.inl Z) (Xf (Xk false (vb false) Z Z) (Xs (vb false) Z (Xt (dj := 89) Z Z (.inl Z) (Xt (dj := 89) Z Z (.inl Z) ?_))))))));refine Xt (dj := 89) Z Z (.inl Z) (Xt (dj := 89) Z Z (.inl Z) (Xf (Xk false (vb false) Z Z) (Xs (vb false) Z (Xt (dj := 95) Z Z (.inl Z) (Xt (dj := 95) Z Z (.inl Z) (Xt (dj := 95) Z Z (.inl Z) (Xt (dj := 95) Z Z (.inl Z) (Xt (dj := 95) Z Z (.inl Z) ?_))))))));refine Xt (dj := 95) Z Z (.inl Z) (Xf (Xk false (vb false) Z Z) (Yy (vb false) Z (Ya fun oe jv => ?_)));have jw := cb.k0 jv;refine Xn ?_;have jx := jw.clear;exact ⟨[vb false], ⟨_, Z, Z⟩, false, Z, H, jx.gr.g0⟩
 have H := Xq H bl;refine Xi bl Z (Xi bl Z (Xi bl Z (Xa (Xk false (vb false) bl Z) (Xb (Y0 (b := false) Z Z ?_)))));refine Xx (Xc (Ys (fun x => Gr co x none) RK RK (Gr.drew _) ?_));refine Xs (G aa ac ad) Z ?_;have d3 := (ay.sw (((((bx.sd ((bw.spa b9 bt).sn be) 0 1 Z Z Z).sos a8 bu).sn a9).sos bi b6).so _ ax (X4 bf)) 4 0 Z Z Z az);have d4 := (DArr.sm (L := (some am :: bk ag :: bk ah :: bk al :: bk aa :: some ab :: (af ++ []))) (O := O) (i := 0) (((((b8.k0 be).k0 a8).k0 a9).k0 bi).k0 ax) ay Z (fun b hb => (mcm (mcm (mcm (mcm (mcm (List.mem_append_left _ hb))))))) az);have og := (Dp.le d3 d4);refine Xf (Yc u23_ aa ac ad (Dp.len d3 d4) Z) (Xf (X1 (r5.length : Int) 1 ((r5.length : Int) == 1) Z Z Z) (Xs (vb ((r5.length : Int) == 1)) Z ?_));rcases X2 ((r5.length : Int) == 1) with ao | ao
 ·have H := Xp H ao;refine Xl ao Z (Xs (G aa ac ad) Z (Xl ao Z ?_));obtain ⟨fw, H⟩ := H;have cg : ((some am :: bk ag :: bk ah :: bk al :: bk aa :: some ab :: (af ++ [])) : Ob).Perm (af ++ [some am, bk ag, bk ah, bk al, bk aa, some ab]) := RP;obtain ⟨br, bs, oh⟩ := Dp.own (L := (some am :: bk ag :: bk ah :: bk al :: bk aa :: some ab :: (af ++ []))) (O := O) d3 d4 bn cg (memi 4 Z);obtain ⟨cu, oi, jy, jz, j0⟩ := br.get default RD 0 fw;obtain ⟨oj, ol, om, on, oo, oq, os, ot, ou, ov, ow, ox, rfl, oy, oz, o0, o1, o2, o3, o4⟩ := kChange.op jz;refine Xf (X3 u23_ Y4 aa cu ac ad br.len 0 Z jy Z fw) (Xl ao Z (Xf (Xj fa62_0 (cu.add ((0 : Int).toNat * 11)) ((cu.add ((0 : Int).toNat * 11)).add 0) Z Z) (Xl ao Z (Xf (Xo ag9 cQ ((cu.add ((0 : Int).toNat * 11)).add 0) (vs ((nth r5 0).Id)) Z (j0 0 _ Z)) (Xl ao Z (Xf (Xj fa44_0 (Ad ab 0) (Ad ab 0) Z Z) (Xl ao Z ?_)))))));have fx := (ay.bm ((dd.k0 bi).k0 ax) 5 0 Z Z Z az);refine Xf (Xo ag9 cQ (Ad ab 0) (vs r2.Id) Z (fx.cell Z)) (Xl ao Z (Xf (Yi ((nth r5 0).Id) r2.Id (((nth r5 0).Id) == r2.Id) Z Z Z) (Xf (Ym true (vb (((nth r5 0).Id) == r2.Id)) (by exact congrArg Value.bool ao) Z) (Xs (vb (((nth r5 0).Id) == r2.Id)) Z ?_))));rcases X2 (((nth r5 0).Id) == r2.Id) with a5 | a5
  ·have H := Xp H a5;refine Xl a5 Z (Xs (G aa ac ad) Z (Xl a5 Z ?_));obtain ⟨fy, H⟩ := H;obtain ⟨cv, o5, j1, j2, j3⟩ := br.get default RD 0 fy;obtain ⟨o6, o7, o8, o9, pa, pb, pd, pe, pf, pg, ph, pi, rfl, pj, pk, pl, pm, pn, po, pp⟩ := kChange.op j2;refine Xf (X3 u23_ Y4 aa cv ac ad br.len 0 Z j1 Z fy) (Xl a5 Z (Xf (Xj fa62_1 (cv.add ((0 : Int).toNat * 11)) ((cv.add ((0 : Int).toNat * 11)).add 1) Z Z) (Xl a5 Z (Xf (Xo ag4 cQ ((cv.add ((0 : Int).toNat * 11)).add 1) (vb ((nth r5 0).Had)) Z (j3 1 _ Z)) (Xl a5 Z (Xs (vb r16) Z (Xl a5 Z (Xf (Zp u4_ ((nth r5 0).Had) r16 (((nth r5 0).Had) == r16) Z Z Z) ?_))))))));refine Xf (Ym true (vb (((nth r5 0).Had) == r16)) (by exact congrArg Value.bool a5) Z) (Xs (vb (((nth r5 0).Had) == r16)) Z ?_);rcases X2 (((nth r5 0).Had) == r16) with a6 | a6
   ·have H := Xp H a6;refine Xl a6 Z (Xs (G aa ac ad) Z (Xl a6 Z ?_));obtain ⟨fz, H⟩ := H;obtain ⟨cw, pq, j4, j5, j6⟩ := br.get default RD 0 fz;obtain ⟨d5, d6, d7, d8, d9, ea, pr, ps, pt, pu, pv, pw, rfl, px, j7, j8, j9, py, pz, p0⟩ := kChange.op j5;refine Xf (X3 u23_ Y4 aa cw ac ad br.len 0 Z j4 Z fz) (Xl a6 Z (Xf (Xj fa62_2 (cw.add ((0 : Int).toNat * 11)) ((cw.add ((0 : Int).toNat * 11)).add 2) Z Z) (Xl a6 Z (Xf (Xv ag44 sz44 cQ ((cw.add ((0 : Int).toNat * 11)).add 2) [vs ((nth r5 0).Was.Id), vi ((nth r5 0).Was.Shape.Kind), G d5 d6 d7, G d8 d9 ea] Z Z (sub_cells (off := 2) j6 Z)) (Xl a6 Z ?_)))));have ka := dh;refine Xf (Xv ag44 sz44 cQ (Ad am 0) [vs r15.Id, vi r15.Shape.Kind, G ag ba bb, G ah bc bd] Z Z (ka.cells (off := 00) Z)) (Xl a6 Z ?_);have kb := (bn.odr (ay.sw (df.so _ ax (X4 bf)) 1 0 Z Z Z az) cg 1 Z);have kc := bs.gv kb 1 Z;have eb := bs.drop 1 Z;have kd := (bs.sd (bn.odr (ay.sw (dg.so _ ax (X4 bf)) 2 0 Z Z Z az) cg 2 Z) 2 1 Z Z Z);have ke := eb.gv kd 1 Z;have kf : Ct [] w0 co [some am, bk al, bk aa, some ab] O := eb.drop 1 Z;have f0 := bs.std 1 Z;have ec := eb.std 1 Z;have kg := ((j8.st f0).st ec);have kh := ((j9.st f0).st ec);obtain ⟨q3, ki, H⟩ := H;refine Yq go28 [.agg #[vs ((nth r5 0).Was.Id), vi ((nth r5 0).Was.Shape.Kind), G d5 d6 d7, G d8 d9 ea], .agg #[vs r15.Id, vi r15.Shape.Kind, G ag ba bb, G ah bc bd]] Z (vb q3) (fun w g => (F46.calls ki (kf.k0 g).ok j7 (kg.st (.new _ g)) (kh.st (.new _ g)) de ((kc.st ec).st (.new _ g)) (ke.st (.new _ g))).mono ?_) ?_
    ·rintro _ w ⟨r, rfl, rfl, g2⟩;exact ⟨Z, Gr.t0 g g2⟩
    refine Xf (Xk true (vb q3) a6 Z) (Xs (vb q3) Z ?_);rcases X2 q3 with bh | bh
    ·have H := Xp H bh;refine Xl bh Z (Xs (G aa ac ad) Z (Xl bh Z ?_));obtain ⟨f1, H⟩ := H;obtain ⟨cx, p1, kj, kk, kl⟩ := br.get default RD 0 f1;obtain ⟨p2, p3, p4, p5, p6, p7, p8, p9, qa, qb, qc, qd, rfl, qe, qf, qg, qh, qi, qj, qk⟩ := kChange.op kk;refine Xf (X3 u23_ Y4 aa cx ac ad br.len 0 Z kj Z f1) (Xl bh Z (Xf (Xj fa62_3 (cx.add ((0 : Int).toNat * 11)) ((cx.add ((0 : Int).toNat * 11)).add 6) Z Z) (Xl bh Z (Xf (Xo ag4 cQ ((cx.add ((0 : Int).toNat * 11)).add 6) (vb ((nth r5 0).Has)) Z (kl 6 _ Z)) (Xf (Xk true (vb ((nth r5 0).Has)) bh Z) (Xs (vb ((nth r5 0).Has)) Z ?_))))));rcases X2 ((nth r5 0).Has) with a7 | a7
     ·have H := Xp H a7;refine Xl a7 Z (Xs (G aa ac ad) Z (Xl a7 Z ?_));obtain ⟨f2, H⟩ := H;obtain ⟨cy, ql, km, kn, ko⟩ := br.get default RD 0 f2;obtain ⟨qm, qn, qo, qp, qq, qr, ed, ee, ef, eg, eh, ei, rfl, qs, qt, qu, qv, kp, kq, kr⟩ := kChange.op kn;refine Xf (X3 u23_ Y4 aa cy ac ad br.len 0 Z km Z f2) (Xl a7 Z (Xf (Xj fa62_4 (cy.add ((0 : Int).toNat * 11)) ((cy.add ((0 : Int).toNat * 11)).add 7) Z Z) (Xl a7 Z (Xf (Xv ag44 sz44 cQ ((cy.add ((0 : Int).toNat * 11)).add 7) [vs ((nth r5 0).Now.Id), vi ((nth r5 0).Now.Shape.Kind), G ed ee ef, G eg eh ei] Z Z (sub_cells (off := 7) ko Z)) (Xl a7 Z (Xf (Xv ag44 sz44 cQ (Ad ab 0) [vs r2.Id, vi r2.Shape.Kind, G ap aq ar, G au av aw] Z Z (fx.cells (off := 00) Z)) (Xl a7 Z ?_)))))));have f3 := bj.stos bi b6;have f4 := cn.stown _ ax (X4 bf);have f5 := ay.stw 0 Z az;have ks := (((((((((((ci.st bz).st b0).st b1).st b2).st b3).st b4).st b5).st f3).st f4).st f5).st (St.drops _ O cg));have kt := (((((((((((cj.st bz).st b0).st b1).st b2).st b3).st b4).st b5).st f3).st f4).st f5).st (St.drops _ O cg));obtain ⟨q4, ku, H⟩ := H;refine Yq go28 [.agg #[vs ((nth r5 0).Now.Id), vi ((nth r5 0).Now.Shape.Kind), G ed ee ef, G eg eh ei], .agg #[vs r2.Id, vi r2.Shape.Kind, G ap aq ar, G au av aw]] Z (vb q4) (fun w g => (F46.calls ku (bs.k0 g).ok kp (kq.st (.new _ g)) (kr.st (.new _ g)) cc (ks.st (.new _ g)) (kt.st (.new _ g))).mono ?_) ?_
      ·rintro _ w ⟨r, rfl, rfl, g2⟩;exact ⟨Z, Gr.t0 g g2⟩
      refine Xf (Xk true (vb q4) a7 Z) (Yy (vb q4) Z (Ya fun qw kv => ?_));have kx := bs.k0 kv;refine Xn ?_;have ky := kx.clear;exact ⟨[vb q4], ⟨_, Z, Z⟩, q4, Z, H, ky.gr.g0⟩
     have H := Xq H a7;refine Xm a7 Z (Xm a7 Z (Xm a7 Z (Xm a7 Z (Xm a7 Z (Xm a7 Z (Xf (Xk false (vb false) a7 Z) (Yy (vb false) Z (Ya fun qx kz => ?_))))))));have k1 := bs.k0 kz;refine Xn ?_;have k2 := k1.clear;exact ⟨[vb false], ⟨_, Z, Z⟩, false, Z, H, k2.gr.g0⟩
    have H := Xq H bh;refine Xm bh Z (Xm bh Z (Xm bh Z (Xm bh Z (Xf (Xk false (vb false) bh Z) (Xs (vb false) Z (Xt (dj := 95) Z Z (.inl Z) (Xt (dj := 95) Z Z (.inl Z) (Xt (dj := 95) Z Z (.inl Z) ?_))))))));refine Xt (dj := 95) Z Z (.inl Z) (Xt (dj := 95) Z Z (.inl Z) (Xt (dj := 95) Z Z (.inl Z) (Xf (Xk false (vb false) Z Z) (Yy (vb false) Z (Ya fun qy k3 => ?_)))));have k4 := bs.k0 k3;refine Xn ?_;have k5 := k4.clear;exact ⟨[vb false], ⟨_, Z, Z⟩, false, Z, H, k5.gr.g0⟩
   have H := Xq H a6;refine Xm a6 Z (Xm a6 Z (Xm a6 Z (Xm a6 Z (Xm a6 Z (Xm a6 Z (Xf (Xk false (vb false) a6 Z) (Xs (vb false) Z (Xt (dj := 89) Z Z (.inl Z) ?_))))))));refine Xt (dj := 89) Z Z (.inl Z) (Xt (dj := 89) Z Z (.inl Z) (Xt (dj := 89) Z Z (.inl Z) (Xf (Xk false (vb false) Z Z) (Xs (vb false) Z (Xt (dj := 95) Z Z (.inl Z) (Xt (dj := 95) Z Z (.inl Z) (Xt (dj := 95) Z Z (.inl Z) (Xt (dj := 95) Z Z (.inl Z) ?_))))))));refine Xt (dj := 95) Z Z (.inl Z) (Xt (dj := 95) Z Z (.inl Z) (Xf (Xk false (vb false) Z Z) (Yy (vb false) Z (Ya fun qz k6 => ?_))));have k7 := bs.k0 k6;refine Xn ?_;have k8 := k7.clear;exact ⟨[vb false], ⟨_, Z, Z⟩, false, Z, H, k8.gr.g0⟩
  have H := Xq H a5;refine Xm a5 Z (Xm a5 Z (Xm a5 Z (Xm a5 Z (Xm a5 Z (Xm a5 Z (Xf (Xk false (vb false) a5 Z) (Xs (vb false) Z (Xt (dj := 81) Z Z (.inl Z) ?_))))))));refine Xt (dj := 81) Z Z (.inl Z) (Xt (dj := 81) Z Z (.inl Z) (Xt (dj := 81) Z Z (.inl Z) (Xt (dj := 81) Z Z (.inl Z) (Xt (dj := 81) Z Z (.inl Z) (Xf (Xk false (vb false) Z Z) (Xs (vb false) Z (Xt (dj := 89) Z Z (.inl Z) (Xt (dj := 89) Z Z (.inl Z) ?_))))))));refine Xt (dj := 89) Z Z (.inl Z) (Xt (dj := 89) Z Z (.inl Z) (Xf (Xk false (vb false) Z Z) (Xs (vb false) Z (Xt (dj := 95) Z Z (.inl Z) (Xt (dj := 95) Z Z (.inl Z) (Xt (dj := 95) Z Z (.inl Z) (Xt (dj := 95) Z Z (.inl Z) (Xt (dj := 95) Z Z (.inl Z) ?_))))))));refine Xt (dj := 95) Z Z (.inl Z) (Xf (Xk false (vb false) Z Z) (Yy (vb false) Z (Ya fun q0 k9 => ?_)));have la := bs.k0 k9;refine Xn ?_;have lb := la.clear;exact ⟨[vb false], ⟨_, Z, Z⟩, false, Z, H, lb.gr.g0⟩
 have H := Xq H ao;refine Xm ao Z (Xm ao Z (Xm ao Z (Xm ao Z (Xm ao Z (Xm ao Z (Xm ao Z (Xf (Xk false (vb false) ao Z) (Xs (vb false) Z ?_))))))));refine Xt (dj := 73) Z Z (.inl Z) (Xt (dj := 73) Z Z (.inl Z) (Xt (dj := 73) Z Z (.inl Z) (Xt (dj := 73) Z Z (.inl Z) (Xt (dj := 73) Z Z (.inl Z) (Xt (dj := 73) Z Z (.inl Z) (Xf (Xk false (vb false) Z Z) (Xs (vb false) Z (Xt (dj := 81) Z Z (.inl Z) ?_))))))));refine Xt (dj := 81) Z Z (.inl Z) (Xt (dj := 81) Z Z (.inl Z) (Xt (dj := 81) Z Z (.inl Z) (Xt (dj := 81) Z Z (.inl Z) (Xt (dj := 81) Z Z (.inl Z) (Xf (Xk false (vb false) Z Z) (Xs (vb false) Z (Xt (dj := 89) Z Z (.inl Z) (Xt (dj := 89) Z Z (.inl Z) ?_))))))));refine Xt (dj := 89) Z Z (.inl Z) (Xt (dj := 89) Z Z (.inl Z) (Xf (Xk false (vb false) Z Z) (Xs (vb false) Z (Xt (dj := 95) Z Z (.inl Z) (Xt (dj := 95) Z Z (.inl Z) (Xt (dj := 95) Z Z (.inl Z) (Xt (dj := 95) Z Z (.inl Z) (Xt (dj := 95) Z Z (.inl Z) ?_))))))));refine Xt (dj := 95) Z Z (.inl Z) (Xf (Xk false (vb false) Z Z) (Yy (vb false) Z (Ya fun q1 lc => ?_)));have ld := bn.k0 lc;refine Xn ?_;have lf := ld.clear;exact ⟨[vb false], ⟨_, Z, Z⟩, false, Z, H, lf.gr.g0⟩
section
section
variable {α : Type} [DecidableEq α]
def lcsR (x : α) (p : List α → Nat) : List α → Nat
 | [] => 0
 | y :: b => if x = y then p b + 1 else max (p (y :: b)) (lcsR x p b)
def lcs : List α → List α → Nat
 | [] => fun _ => 0
 | x :: a => lcsR x (lcs a)
@[simp] theorem lcs_nil (b : List α) : lcs [] b = 0 := rfl
@[simp] theorem lcs_nil2 (a : List α) : lcs a [] = 0 := by cases a <;> rfl
theorem pp {a b c d : Nat} (h : a = c) (k : b = d) : (a, b) = (c, d) := by rw [h, k]
def pairs (i j : Nat) : List α → List α → List (Nat × Nat)
 | x :: a, y :: b => if x = y then (i, j) :: pairs (i + 1) (j + 1) a b else if lcs (x :: a) b ≤ lcs a (y :: b) then pairs (i + 1) j a (y :: b) else pairs i (j + 1) (x :: a) b
 | [], _ => []
 | _ :: _, [] => []
 termination_by a b => a.length + b.length
theorem pairs_nil (i j : Nat) (b : List α) : pairs i j [] b = [] := by rw [pairs]
theorem pairs_nil2 (i j : Nat) (a : List α) : pairs i j a [] = [] := by cases a <;> rw [pairs]
theorem pairs_cons (i j : Nat) (x y : α) (a b : List α) : pairs i j (x :: a) (y :: b) = if x = y then (i, j) :: pairs (i + 1) (j + 1) a b else if lcs (x :: a) b ≤ lcs a (y :: b) then pairs (i + 1) j a (y :: b) else pairs i (j + 1) (x :: a) b := by rw [pairs]
theorem pairs_ind {C : Nat → Nat → List α → List α → Prop} (h0 : ∀ i j b, C i j [] b) (h1 : ∀ i j a, C i j a [])
  (he : ∀ i j x a b, C (i + 1) (j + 1) a b → C i j (x :: a) (x :: b))
  (ha : ∀ i j x y a b, x ≠ y → lcs (x :: a) b ≤ lcs a (y :: b) → C (i + 1) j a (y :: b) → C i j (x :: a) (y :: b))
  (hb : ∀ i j x y a b, x ≠ y → ¬ lcs (x :: a) b ≤ lcs a (y :: b) → C i (j + 1) (x :: a) b → C i j (x :: a) (y :: b)) : ∀ i j (a b : List α), C i j a b := by
 have : ∀ n i j (a b : List α), a.length + b.length ≤ n → C i j a b := by
  intro n
  induction n with
  | zero => intro i j a b h; cases a with
   | nil => exact h0 _ _ _
   | cons _ _ => simp at h
  | succ n ih =>
   intro i j a b h
   cases a with
   | nil => exact h0 _ _ _
   | cons x a => cases b with
    | nil => exact h1 _ _ _
    | cons y b =>
     simp only [List.length_cons] at h
     by_cases e : x = y
     ·subst e; exact he _ _ _ _ _ (ih _ _ _ _ OM)
     ·by_cases l : lcs (x :: a) b ≤ lcs a (y :: b)
      ·exact ha _ _ _ _ _ _ e l (ih _ _ _ _ (by simp only [List.length_cons]; omega))
      ·exact hb _ _ _ _ _ _ e l (ih _ _ _ _ (by simp only [List.length_cons]; omega))
 exact fun i j a b => this _ i j a b (Nat.le_refl _)
theorem pairs_mem (i j : Nat) (a b : List α) : ∀ p ∈ pairs i j a b, ∃ k l, p = (i + k, j + l) ∧ ∃ x, a[k]? = some x ∧ b[l]? = some x := by
 refine pairs_ind (C := fun i j a b => ∀ p ∈ pairs i j a b, ∃ k l, p = (i + k, j + l) ∧ ∃ x, a[k]? = some x ∧ b[l]? = some x) ?_ ?_ ?_ ?_ ?_ i j a b
 ·intro i j b p h; rw [pairs_nil] at h; cases h
 ·intro i j a p h; rw [pairs_nil2] at h; cases h
 ·intro i j x a b ih p h
  rw [pairs_cons, if_pos rfl] at h
  rcases List.mem_cons.1 h with rfl | h
  ·exact ⟨0, 0, rfl, x, rfl, rfl⟩
  ·obtain ⟨k, l, rfl, z, h1, h2⟩ := ih p h
   exact ⟨k + 1, l + 1, pp OM OM, z, h1, h2⟩
 ·intro i j x y a b e l ih p h
  rw [pairs_cons, if_neg e, if_pos l] at h
  obtain ⟨k, l, rfl, z, h1, h2⟩ := ih p h
  exact ⟨k + 1, l, pp OM OM, z, h1, h2⟩
 ·intro i j x y a b e l ih p h
  rw [pairs_cons, if_neg e, if_neg l] at h
  obtain ⟨k, l, rfl, z, h1, h2⟩ := ih p h
  exact ⟨k, l + 1, pp OM OM, z, h1, h2⟩
theorem pairs_ord (i j : Nat) (a b : List α) : (pairs i j a b).Pairwise (fun p q => p.1 < q.1 ∧ p.2 < q.2) := by
 refine pairs_ind (C := fun i j a b => (pairs i j a b).Pairwise (fun p q => p.1 < q.1 ∧ p.2 < q.2)) ?_ ?_ ?_ ?_ ?_ i j a b
 ·intros; rw [pairs_nil]; exact List.Pairwise.nil
 ·intros; rw [pairs_nil2]; exact List.Pairwise.nil
 ·intro i j x a b h; rw [pairs_cons, if_pos rfl]
  refine List.Pairwise.cons (fun p hp => ?_) h
  obtain ⟨k, l, rfl, _⟩ := pairs_mem _ _ _ _ p hp
  exact ⟨by dsimp only; omega, by dsimp only; omega⟩
 ·intro i j x y a b e l h; rw [pairs_cons, if_neg e, if_pos l]; exact h
 ·intro i j x y a b e l h; rw [pairs_cons, if_neg e, if_neg l]; exact h
end
section
variable {α : Type} [Inhabited α]
theorem nth_set (l : List α) {k : Nat} (h : k < l.length) (m : Nat) (v : α) : nth (l.set k v) (m : Int) = if m = k then v else nth l (m : Int) := by
 unfold nth
 rw [Int.toNat_natCast, List.getD_eq_getElem?_getD, List.getD_eq_getElem?_getD, List.getElem?_set]
 by_cases e : m = k
 ·subst e; rw [if_pos rfl, if_pos rfl, if_pos h]; rfl
 ·rw [if_neg (fun x => e x.symm), if_neg e]
def seg (l : List α) (i j : Nat) : List α := (l.drop i).take (j - i)
variable [DecidableEq α]
def pickL (o a b : List α) : Option (List α) := if a = o then some b else if b = o then some a else if a = b then some a else none
def mloop (o a b : List α) (f g : Nat → Option Nat) : Nat → Nat → Nat → Nat → Nat → Option (List α)
 | 0, _, i, j, k => pickL (o.drop i) (a.drop j) (b.drop k)
 | n + 1, at_, i, j, k => match f at_, g at_ with
  | some x, some y => (pickL (seg o i at_) (seg a j x) (seg b k y)).bind fun p => (mloop o a b f g n (at_ + 1) (at_ + 1) (x + 1) (y + 1)).map fun r => p ++ nth o (at_ : Int) :: r
  | _, _ => mloop o a b f g n (at_ + 1) i j k
theorem mloop_none {o a b : List α} {f g : Nat → Option Nat} {n t i j k : Nat} (h : f t = none ∨ g t = none) : mloop o a b f g (n + 1) t i j k = mloop o a b f g n (t + 1) i j k := by
 rw [mloop]
 rcases h with h | h
 ·rw [h]
 ·rw [h]; cases f t <;> rfl
structure Mates (o a : List α) (f : Nat → Option Nat) : Prop where
 lt : ∀ {t x}, f t = some x → t < o.length ∧ x < a.length
 eq : ∀ {t x}, f t = some x → nth o (t : Int) = nth a (x : Int)
 mono : ∀ {t x u y}, f t = some x → f u = some y → t < u → x < y
def From (f : Nat → Option Nat) (t j : Nat) : Prop := ∀ u x, t ≤ u → f u = some x → j ≤ x
theorem From.zero (f : Nat → Option Nat) (t : Nat) : From f t 0 := fun _ _ _ _ => Nat.zero_le _
theorem From.skip {f : Nat → Option Nat} {t j : Nat} (h : From f t j) : From f (t + 1) j := fun u x hu hx => h u x OM hx
end
end
def few (a b : List Pt) : Bool := decide (a.length ≤ 12) && decide (b.length ≤ 12)
def Tab (a b : List Pt) (D : Nat → Nat → Prop) (t : List (List Int)) : Prop := t.length = a.length + 1 ∧ ∀ r : Nat, r ≤ a.length → (nth t (r : Int)).length = b.length + 1 ∧ ∀ m : Nat, m ≤ b.length → D r m → nth (nth t (r : Int)) (m : Int) = (lcs (a.drop r) (b.drop m) : Nat)
theorem Tab.set {a b : List Pt} {D : Nat → Nat → Prop} {t : List (List Int)} (h : Tab a b D t) {i j : Nat} (hi : i ≤ a.length) (hj : j ≤ b.length) {v : Int} (hv : v = (lcs (a.drop i) (b.drop j) : Nat)) {D' : Nat → Nat → Prop} (hD : ∀ r m, D' r m → D r m ∨ (r = i ∧ m = j)) :
  Tab a b D' (t.set i ((nth t (i : Int)).set j v)) := by
 obtain ⟨h1, h2⟩ := h
 refine ⟨by rw [List.length_set]; exact h1, fun r hr => ?_⟩
 rw [nth_set _ OM]
 by_cases e : r = i
 ·subst e
  rw [if_pos rfl]
  refine ⟨by rw [List.length_set]; exact (h2 r hr).1, fun m hm hd => ?_⟩
  rw [nth_set _ (by rw [(h2 r hr).1]; omega)]
  by_cases f : m = j
  ·subst f; rw [if_pos rfl, hv]
  ·rw [if_neg f]
   exact (h2 r hr).2 m hm ((hD r m hd).resolve_right fun x => f x.2)
 ·rw [if_neg e]
  exact ⟨(h2 r hr).1, fun m hm hd => (h2 r hr).2 m hm ((hD r m hd).resolve_right fun x => e x.1)⟩
def mateN (l : List (Nat × Nat)) (k : Nat) : Option Nat := match l with
 | [] => none
 | p :: l => if p.1 = k then some p.2 else mateN l k
theorem mateN_mem {l : List (Nat × Nat)} {k x : Nat} (h : mateN l k = some x) : (k, x) ∈ l := by
 induction l with
 | nil => cases h
 | cons p l ih =>
  rw [mateN] at h
  by_cases e : p.1 = k
  ·rw [if_pos e] at h; cases h; subst e; exact List.mem_cons_self
  ·rw [if_neg e] at h; exact List.mem_cons_of_mem _ (ih h)
def part (o a : List Pt) : Nat → Option Nat := mateN (pairs 0 0 o a)
theorem part_mates (o a : List Pt) : Mates o a (part o a) := by
 have hm : ∀ {t x}, part o a t = some x → ∃ z, o[t]? = some z ∧ a[x]? = some z := fun {t x} h => by
  obtain ⟨k, l, e, z, h1, h2⟩ := pairs_mem 0 0 o a _ (mateN_mem h)
  rw [Nat.zero_add, Nat.zero_add] at e; cases e
  exact ⟨z, h1, h2⟩
 refine ⟨fun {t x} h => ?_, fun {t x} h => ?_, fun {t x u y} h1 h2 hu => ?_⟩
 ·obtain ⟨z, h1, h2⟩ := hm h
  exact ⟨(List.getElem?_eq_some_iff.1 h1).1, (List.getElem?_eq_some_iff.1 h2).1⟩
 ·obtain ⟨z, h1, h2⟩ := hm h
  obtain ⟨e1, e2⟩ := List.getElem?_eq_some_iff.1 h1
  obtain ⟨e3, e4⟩ := List.getElem?_eq_some_iff.1 h2
  rw [nth_nat _ e1, nth_nat _ e3, e2, e4]
 ·have ho := pairs_ord 0 0 o a
  have m1 := mateN_mem h1; have m2 := mateN_mem h2
  generalize pairs 0 0 o a = l at ho m1 m2
  induction l with
  | nil => cases m1
  | cons p l ih =>
   obtain ⟨q1, q2⟩ := List.pairwise_cons.1 ho
   rcases List.mem_cons.1 m1 with e1 | n1
   ·rcases List.mem_cons.1 m2 with e2 | n2
    ·subst e1; cases e2; omega
    ·subst e1; exact (q1 _ n2).2
   ·rcases List.mem_cons.1 m2 with e2 | n2
    ·subst e2; have := (q1 _ n1).1; dsimp only at this; omega
    ·exact ih q2 n1 n2
def smerge (o a b : List Pt) : Option (List Pt) := if few o a && few o b then mloop o a b (part o a) (part o b) o.length 0 0 0 0 else none
theorem smerge_few {o a b : List Pt} (h1 : few o a = true) (h2 : few o b = true) : smerge o a b = mloop o a b (part o a) (part o b) o.length 0 0 0 0 := by unfold smerge; rw [h1, h2]; rfl
def allN (n : Nat) (c : Nat → Bool) : Bool := (List.range n).all c
theorem allN_true {n : Nat} {c : Nat → Bool} (h : ∀ j, j < n → c j = true) : allN n c = true := by
 unfold allN; rw [List.all_eq_true]; intro j hj; exact h j (List.mem_range.1 hj)
theorem allN_false {n k : Nat} {c : Nat → Bool} (hk : k < n) (h : c k = false) : allN n c = false := by
 unfold allN
 rw [Bool.eq_false_iff]; intro ha
 rw [List.all_eq_true] at ha
 rw [ha k (List.mem_range.2 hk)] at h; cases h
theorem allN_iff {n : Nat} {c : Nat → Bool} : allN n c = true ↔ ∀ j, j < n → c j = true := by
 unfold allN; rw [List.all_eq_true]; exact ⟨fun h j hj => h j (List.mem_range.2 hj), fun h j hj => h j (List.mem_range.1 hj)⟩
theorem loop_all (n : Nat) (c : Nat → Bool) {B : (Int → Prop) → (Int → Nat) → Int → Prop} {F : Prop}
  (hs : ∀ (I : Int → Prop) (mu : Int → Nat) (k : Nat), k < n → (∀ j, j < k → c j = true) → (c k = true → I ((k : Int) + 1) ∧ mu ((k : Int) + 1) < mu (k : Int)) → B I mu (k : Int))
  (hF : (∀ j, j < n → c j = true) → F) :
  ∃ (I : Int → Prop) (mu : Int → Nat), I 0 ∧ ∀ (i : Int), I i → (if decide (i < (n : Int)) then B I mu i else F) := by
 refine ⟨fun i => ∃ k : Nat, i = k ∧ k ≤ n ∧ ∀ j, j < k → c j = true, fun i => ((n : Int) - i).toNat, ⟨0, rfl, Nat.zero_le _, fun j hj => absurd hj (Nat.not_lt_zero _)⟩, ?_⟩
 rintro _ ⟨k, rfl, hk, ha⟩
 by_cases h : (k : Int) < (n : Int)
 ·rw [if_pos (by simpa using h)]
  refine hs _ _ k OM ha fun hc => ⟨⟨k + 1, OM, OM, fun j hj => ?_⟩, OM⟩
  by_cases e : j = k
  ·subst e; exact hc
  ·exact ha j OM
 ·rw [if_neg (by simpa using h)]
  exact hF fun j hj => ha j OM
theorem less_irr : ∀ a : Str, Op.bytesLess a a = false
 | [] => rfl
 | x :: a => by rw [Op.bytesLess]; simp [less_irr a]
theorem less_tri : ∀ a b : Str, (!(Op.bytesLess a b)) = (Op.bytesLess b a || b == a)
 | [], [] => rfl
 | [], y :: b => rfl
 | x :: a, [] => rfl
 | x :: a, y :: b => by
  rw [Op.bytesLess, Op.bytesLess]
  have h := less_tri a b
  by_cases h1 : x < y
  ·have h2 : ¬ y < x := fun h => absurd (UInt8.lt_trans h1 h) (UInt8.lt_irrefl _)
   have h3 : ¬ y = x := fun e => by subst e; exact UInt8.lt_irrefl _ h1
   simp [h1, h2, h3]
  ·by_cases h2 : y < x
   ·have h3 : ¬ x = y := fun e => by subst e; exact UInt8.lt_irrefl _ h2
    simp [h1, h2, h3]
   ·have h3 : x = y := UInt8.le_antisymm (UInt8.not_lt.1 h2) (UInt8.not_lt.1 h1)
    subst h3
    simp only [h1, decide_false, Bool.false_or, beq_self_eq_true, Bool.true_and]
    rw [h]
    congr 1
    rw [Bool.eq_iff_iff, beq_iff_eq, beq_iff_eq]
    simp
def byteOk (b : UInt8) : Bool := !(decide ((b.toNat : Int) < 97)) && !(decide ((b.toNat : Int) > 122))
def wordOk (s : Str) : Bool := allN s.length (fun k => byteOk (nth s (k : Int))) && (decide (1 ≤ s.length) && decide (s.length ≤ 6))
def inR (x : Int) : Bool := decide (-1000 ≤ x) && decide (x ≤ 1000)
def ptOk (p : Pt) : Bool := inR p.X && inR p.Y
def ptsOk (p : List Pt) : Bool := allN p.length fun k => ptOk (nth p (k : Int)) && (decide (k = 0) || !(decide (nth p ((k : Int) - 1) = nth p (k : Int))))
def kindOk (kind : Int) (p : List Pt) : Bool :=
 if kind = 1 then decide (p.length = 1) else if kind = 2 then decide (2 ≤ p.length) && decide (p.length ≤ 6)
 else if kind = 3 then decide (3 ≤ p.length) && decide (p.length ≤ 6) && !(decide (nth p 0 = nth p ((p.length : Int) - 1))) else false
def shapeOk (s : Shape) : Bool := ptsOk s.Pts && kindOk s.Kind s.Pts
def tagsOk (t : List Tag) : Bool := allN t.length fun k => wordOk (nth t (k : Int)).Key && wordOk (nth t (k : Int)).Val && (decide (k = 0) || Op.bytesLess (nth t ((k : Int) - 1)).Key (nth t (k : Int)).Key)
def featOk (f : Feat) : Bool := tagsOk f.Tags && decide (f.Tags.length ≤ 4) && wordOk f.Id && shapeOk f.Shape
def noF (f : Feat) : Bool := decide (f = ⟨[], ⟨0, []⟩, []⟩)
def sideOk (id : Str) (has : Bool) (f : Feat) : Bool := if has then featOk f && decide (f.Id = id) else noF f
def sameC (c : Change) : Bool := decide (c.Had = c.Has) && decide (c.Was = c.Now)
def changeOk (c : Change) : Bool := wordOk c.Id && sideOk c.Id c.Had c.Was && sideOk c.Id c.Has c.Now && !(sameC c)
def diffOk (d : List Change) : Bool := allN d.length (fun k => changeOk (nth d (k : Int)) && (decide (k = 0) || Op.bytesLess (nth d ((k : Int) - 1)).Id (nth d (k : Int)).Id)) && decide (d.length ≤ 16)
def sheetOk (s : List Feat) : Bool := allN s.length (fun k => featOk (nth s (k : Int)) && (decide (k = 0) || Op.bytesLess (nth s ((k : Int) - 1)).Id (nth s (k : Int)).Id)) && decide (s.length ≤ 8)
theorem Feat.ext_iff' (a b : Feat) : a = b ↔ a.Id = b.Id ∧ a.Shape = b.Shape ∧ a.Tags = b.Tags := by cases a; cases b; simp
theorem Shape.ext_iff' (a b : Shape) : a = b ↔ a.Kind = b.Kind ∧ a.Pts = b.Pts := by cases a; cases b; simp
section
def findN (n : Nat) (c : Nat → Bool) : Int := match (List.range n).find? c with | some k => (k : Int) | none => -1
theorem findN_hit {n k : Nat} {c : Nat → Bool} (hk : k < n) (h : c k = true) (hp : ∀ j, j < k → c j = false) : findN n c = (k : Int) := by
 unfold findN
 have : (List.range n).find? c = some k := by
  rw [List.find?_range_eq_some]
  exact ⟨h, List.mem_range.2 hk, fun j hj => by rw [hp j hj]; rfl⟩
 rw [this]
theorem findN_none {n : Nat} {c : Nat → Bool} (h : ∀ j, j < n → c j = false) : findN n c = -1 := by
 unfold findN
 have : (List.range n).find? c = none := by
  rw [List.find?_eq_none]; intro j hj; rw [h j (List.mem_range.1 hj)]; exact Bool.false_ne_true
 rw [this]
theorem findN_le (n : Nat) (c : Nat → Bool) : -1 ≤ findN n c ∧ findN n c < n := by
 unfold findN
 cases h : (List.range n).find? c with
 | none => exact ⟨Int.le_refl _, by dsimp only; omega⟩
 | some k => have := List.mem_range.1 (List.mem_of_find?_eq_some h); exact ⟨by dsimp only; omega, by dsimp only; omega⟩
theorem loop_find (n : Nat) (c : Nat → Bool) {B : (Int → Prop) → (Int → Nat) → Int → Prop} {Q : Int → Prop} (hq : Q (findN n c))
  (hs : ∀ (I : Int → Prop) (mu : Int → Nat) (k : Nat), k < n → (c k = true → Q (k : Int)) → (c k = false → I ((k : Int) + 1) ∧ mu ((k : Int) + 1) < mu (k : Int)) → B I mu (k : Int)) :
  ∃ (I : Int → Prop) (mu : Int → Nat), I 0 ∧ ∀ (i : Int), I i → (if decide (i < (n : Int)) then B I mu i else Q (-1)) := by
 refine loop_all n (fun k => !(c k)) (fun I mu k hk hp hn => hs I mu k hk (fun h => ?_) (fun h => hn (by rw [h]; rfl))) (fun ha => ?_)
 ·rw [findN_hit hk h (fun j hj => by have := hp j hj; rwa [Bool.not_eq_true'] at this)] at hq; exact hq
 ·rw [findN_none (fun j hj => by have := ha j hj; rwa [Bool.not_eq_true'] at this)] at hq; exact hq
section
variable {α : Type} [Inhabited α] [DecidableEq α]
end
end
section
theorem less_trans : ∀ {a b c : Str}, Op.bytesLess a b = true → Op.bytesLess b c = true → Op.bytesLess a c = true
 | _, _, [], _, h => by rename_i b _; cases b <;> simp [Op.bytesLess] at h
 | _, [], _ :: _, h, _ => by rename_i a _ _ _; cases a <;> simp [Op.bytesLess] at h
 | [], _ :: _, _ :: _, _, _ => by simp [Op.bytesLess]
 | x :: a, y :: b, z :: c, h1, h2 => by
  rw [Op.bytesLess] at h1 h2 ⊢
  simp only [Bool.or_eq_true, Bool.and_eq_true, decide_eq_true_eq, beq_iff_eq] at h1 h2 ⊢
  rcases h1 with h1 | ⟨rfl, h1⟩
  ·rcases h2 with h2 | ⟨rfl, h2⟩
   ·exact .inl (UInt8.lt_trans h1 h2)
   ·exact .inl h1
  ·rcases h2 with h2 | ⟨rfl, h2⟩
   ·exact .inl h2
   ·exact .inr ⟨rfl, less_trans h1 h2⟩
theorem less_asym {a b : Str} (h : Op.bytesLess a b = true) : Op.bytesLess b a = false := by
 cases e : Op.bytesLess b a with
 | false => rfl
 | true => have := less_trans h e; rw [less_irr] at this; cases this
theorem less_or {a b : Str} (h : Op.bytesLess a b = false) : Op.bytesLess b a = true ∨ b = a := by
 have := less_tri a b
 rw [h] at this
 simpa using this.symm
def SS (l : List Str) : Prop := l.Pairwise fun x y => Op.bytesLess x y = true
theorem SS.ext : ∀ {l m : List Str}, SS l → SS m → (∀ x, x ∈ l ↔ x ∈ m) → l = m
 | [], [], _, _, _ => rfl
 | [], y :: m, _, _, h => by have := (h y).2 List.mem_cons_self; cases this
 | x :: l, [], _, _, h => by have := (h x).1 List.mem_cons_self; cases this
 | x :: l, y :: m, hl, hm, h => by
  obtain ⟨l1, l2⟩ := List.pairwise_cons.1 hl
  obtain ⟨m1, m2⟩ := List.pairwise_cons.1 hm
  have e : x = y := by
   rcases List.mem_cons.1 ((h x).1 List.mem_cons_self) with e | e
   ·exact e
   ·rcases List.mem_cons.1 ((h y).2 List.mem_cons_self) with e' | e'
    ·exact e'.symm
    ·have := less_trans (m1 x e) (l1 y e'); rw [less_irr] at this; cases this
  subst e
  rw [SS.ext l2 m2 fun z => ⟨fun hz => ?_, fun hz => ?_⟩]
  ·rcases List.mem_cons.1 ((h z).1 (List.mem_cons_of_mem _ hz)) with e | e
   ·subst e; have := l1 z hz; rw [less_irr] at this; cases this
   ·exact e
  ·rcases List.mem_cons.1 ((h z).2 (List.mem_cons_of_mem _ hz)) with e | e
   ·subst e; have := m1 z hz; rw [less_irr] at this; cases this
   ·exact e
theorem le_less (x y : Str) : decide (x ≤ y) = !(Op.bytesLess y x) := by
 rw [bytesLess_eq]
 by_cases h : y < x
 ·rw [decide_eq_true h, decide_eq_false (by rw [List.not_le]; exact h)]; rfl
 ·rw [decide_eq_false h, decide_eq_true (List.not_lt.1 h)]; rfl
theorem sortS_le (l : List Str) : (sortS l).Pairwise fun x y => Op.bytesLess y x = false := by
 have h := List.pairwise_mergeSort (le := fun x y : Str => decide (x ≤ y)) (fun a b c h1 h2 => by
  rw [le_less, Bool.not_eq_true'] at h1 h2 ⊢
  cases e : Op.bytesLess c a with
  | false => rfl
  | true =>
   rcases less_or h1 with h3 | h3
   ·have := less_trans e h3; rw [h2] at this; cases this
   ·subst h3; rw [h2] at e; cases e) (fun a b => by
  rw [le_less, le_less]
  cases e : Op.bytesLess b a with
  | false => rfl
  | true => rw [less_asym e]; rfl) l
 exact h.imp fun {x y} h => by rw [le_less, Bool.not_eq_true'] at h; exact h
theorem sortS_mem {l : List Str} {x : Str} : x ∈ sortS l ↔ x ∈ l := List.mem_mergeSort
section
open Go.Lib
theorem compact_of (l : List Str) (h : l.Pairwise fun x y => Op.bytesLess y x = false) : SS (compact l) ∧ ∀ x, x ∈ compact l ↔ x ∈ l := by
 have hle : ∀ i j, i ≤ j → j < l.length → Op.bytesLess (l.toArray[j]!) (l.toArray[i]!) = false := fun i j hij hj => by
  have hi : i < l.length := by omega
  simp only [List.getElem!_toArray, getElem!_pos l i hi, getElem!_pos l j hj]
  rcases Nat.lt_or_eq_of_le hij with hlt | rfl
  ·exact List.pairwise_iff_getElem.1 h i j hi hj hlt
  ·exact less_irr _
 constructor
 ·unfold compact compactUpTo SS
  rw [List.pairwise_map, List.pairwise_filter]
  refine List.pairwise_iff_getElem.2 fun i j hi hj hij => ?_
  simp only [List.length_range] at hi hj
  simp only [List.getElem_range]
  intro _ hk
  have hj0 : 0 < j := by omega
  have hne : l.toArray[j]! ≠ l.toArray[j - 1]! := fun e => by rw [keeps_neg hj0 e] at hk; cases hk
  have h1 : Op.bytesLess (l.toArray[j - 1]!) (l.toArray[j]!) = true := by
   rcases less_or (hle (j - 1) j OM hj) with h2 | h2
   ·exact h2
   ·exact absurd h2.symm hne
  rcases less_or (hle i (j - 1) OM OM) with h3 | h3
  ·exact less_trans h3 h1
  ·rw [h3]; exact h1
 ·intro x
  constructor
  ·exact compact_mem
  ·intro hx
   obtain ⟨k, hk, rfl⟩ := List.getElem_of_mem hx
   have key : ∀ k, k < l.length → l.toArray[k]! ∈ compact l := by
    intro k
    induction k using Nat.strongRecOn with
    | _ k ih =>
     intro hk
     cases e : keeps l.toArray k with
     | true =>
      unfold compact compactUpTo
      exact List.mem_map.2 ⟨k, List.mem_filter.2 ⟨List.mem_range.2 hk, e⟩, rfl⟩
     | false =>
      have hk0 : 0 < k := by
       rcases Nat.eq_zero_or_pos k with h0 | h0
       ·subst h0; rw [keeps_lt_one _ 0 OM] at e; cases e
       ·exact h0
      have he : l.toArray[k]! = l.toArray[k - 1]! := Classical.byContradiction fun hne => by rw [keeps_pos hne] at e; cases e
      rw [he]; exact ih (k - 1) OM OM
   have := key k hk
   simpa [getElem!_pos l k hk] using this
end
def uniq (l : List Str) : List Str := Lib.compact (sortS l)
theorem uniq_ss (l : List Str) : SS (uniq l) := (compact_of _ (sortS_le l)).1
theorem uniq_mem {l : List Str} {x : Str} : x ∈ uniq l ↔ x ∈ l := ((compact_of _ (sortS_le l)).2 x).trans sortS_mem
def ids (s : List Feat) : List Str := s.map (·.Id)
theorem ids_app (s t : List Feat) : ids (s ++ t) = ids s ++ ids t := List.map_append
theorem sheet_ss {s : List Feat} (h : sheetOk s = true) : SS (ids s) ∧ s.length ≤ 8 ∧ ∀ f ∈ s, featOk f = true := by
 unfold sheetOk at h
 simp only [Bool.and_eq_true, decide_eq_true_eq] at h
 obtain ⟨h1, h2⟩ := h
 have h1 := allN_iff.1 h1
 have hadj : ∀ k, 0 < k → k < s.length → Op.bytesLess (nth s ((k : Int) - 1)).Id (nth s (k : Int)).Id = true := fun k h0 hk => by
  have := h1 k hk
  simp only [Bool.and_eq_true, Bool.or_eq_true, decide_eq_true_eq] at this
  rcases this.2 with h | h
  ·omega
  ·exact h
 refine ⟨?_, h2, fun f hf => ?_⟩
 ·unfold SS ids
  rw [List.pairwise_map]
  refine List.pairwise_iff_getElem.2 fun i j hi hj hij => ?_
  have key : ∀ d, i + d + 1 < s.length → Op.bytesLess s[i].Id (nth s ((i + d + 1 : Nat) : Int)).Id = true := by
   intro d
   induction d with
   | zero =>
    intro hd
    have := hadj (i + 0 + 1) OM hd
    rw [show (((i + 0 + 1 : Nat) : Int) - 1) = (i : Int) by omega, nth_nat s hi] at this
    exact this
   | succ d ih =>
    intro hd
    have := hadj (i + (d + 1) + 1) OM hd
    rw [show (((i + (d + 1) + 1 : Nat) : Int) - 1) = ((i + d + 1 : Nat) : Int) by omega] at this
    exact less_trans (ih OM) this
  have := key (j - i - 1) OM
  rw [show i + (j - i - 1) + 1 = j by omega, nth_nat s hj] at this
  exact this
 ·obtain ⟨k, hk, rfl⟩ := List.getElem_of_mem hf
  have := h1 k hk
  rw [nth_nat s hk] at this
  simp only [Bool.and_eq_true] at this
  exact this.1
theorem word_len {s : Str} (h : wordOk s = true) : s.length ≤ 6 := by
 unfold wordOk at h
 simp only [Bool.and_eq_true, decide_eq_true_eq] at h
 exact h.2.2
theorem bulk_small {α : Type} [Bulk α] (l : List α) (m : Nat) (h : ∀ x ∈ l, bulk x ≤ m) : bulk l ≤ l.length * (m + 1) := by
 induction l with
 | nil => exact Nat.zero_le _
 | cons x l ih =>
  have h1 := h x List.mem_cons_self
  have h2 := ih fun y hy => h y (List.mem_cons_of_mem _ hy)
  rw [bulk_cons, List.length_cons, Nat.add_mul]
  omega
theorem feat_small {f : Feat} (h : featOk f = true) : bulk f ≤ 100 ∧ f.Id.length ≤ 6 := by
 unfold featOk at h
 simp only [Bool.and_eq_true, decide_eq_true_eq] at h
 obtain ⟨⟨⟨h1, h2⟩, h3⟩, h4⟩ := h
 have hi := word_len h3
 have e1 : bulk f = bulk f.Id + (bulk f.Shape.Kind + bulk f.Shape.Pts) + bulk f.Tags := rfl
 have e2 : bulk f.Id = f.Id.length := bulk_str _
 have e3 : bulk f.Shape.Kind = 0 := rfl
 have e4 : bulk f.Shape.Pts = f.Shape.Pts.length := bulk_flat (fun _ => rfl) _
 have ht : bulk f.Tags ≤ f.Tags.length * (12 + 1) := bulk_small _ 12 fun t hm => by
  unfold tagsOk at h1
  obtain ⟨k, hk, rfl⟩ := List.getElem_of_mem hm
  have := allN_iff.1 h1 k hk
  rw [nth_nat _ hk] at this
  simp only [Bool.and_eq_true] at this
  have a1 := word_len this.1.1
  have a2 := word_len this.1.2
  have b0 : bulk f.Tags[k] = bulk f.Tags[k].Key + bulk f.Tags[k].Val := rfl
  have b1 : bulk f.Tags[k].Key = f.Tags[k].Key.length := bulk_str _
  have b2 : bulk f.Tags[k].Val = f.Tags[k].Val.length := bulk_str _
  omega
 have hp : f.Shape.Pts.length ≤ 6 := by
  unfold shapeOk kindOk at h4
  simp only [Bool.and_eq_true] at h4
  have := h4.2
  split at this
  ·simp only [decide_eq_true_eq] at this; omega
  ·split at this
   ·simp only [Bool.and_eq_true, decide_eq_true_eq] at this; omega
   ·split at this
    ·simp only [Bool.and_eq_true, decide_eq_true_eq] at this; omega
    ·cases this
 have : f.Tags.length * (12 + 1) ≤ 52 := by omega
 omega
def zeroF : Feat := ⟨[], ⟨0, []⟩, []⟩
def sideOf (s : List Feat) (id : Str) : Feat × Bool :=
 if findN s.length (fun j => (nth s (j : Int)).Id == id) < 0 then (zeroF, false) else (nth s (findN s.length fun j => (nth s (j : Int)).Id == id), true)
theorem sideOf_small {s : List Feat} (h : sheetOk s = true) (id : Str) : bulk (sideOf s id).1 ≤ 100 := by
 unfold sideOf
 split
 ·exact (by decide : bulk zeroF ≤ 100)
 ·have h1 := findN_le s.length fun j => (nth s (j : Int)).Id == id
  exact (feat_small ((sheet_ss h).2.2 _ (nth_memi s OM h1.2))).1
def diffC (a b : List Feat) (id : Str) : Change := ⟨id, (sideOf a id).2, (sideOf a id).1, (sideOf b id).2, (sideOf b id).1⟩
def diffL (a b : List Feat) (l : List Str) : List Change := (l.map (diffC a b)).filter fun c => !(sameC c)
def diffOf (a b : List Feat) : List Change := if sheetOk a && sheetOk b then diffL a b (uniq (ids a ++ ids b)) else []
theorem diffL_snoc (a b : List Feat) (l : List Str) (x : Str) : diffL a b (l ++ [x]) = diffL a b l ++ (if sameC (diffC a b x) then [] else [diffC a b x]) := by
 unfold diffL
 rw [List.map_append, List.filter_append]
 congr 1
 cases h : sameC (diffC a b x) <;> simp [h]
theorem uniq_len (l : List Str) : (uniq l).length ≤ l.length := by
 unfold uniq
 have := compact_le (sortS l)
 have h2 : (sortS l).length = l.length := List.length_mergeSort _
 omega
theorem diffL_len (a b : List Feat) (l : List Str) : (diffL a b l).length ≤ l.length := by
 unfold diffL
 exact Nat.le_trans (List.length_filter_le _ _) (by rw [List.length_map]; exact Nat.le_refl _)
theorem diffC_small {a b : List Feat} (ha : sheetOk a = true) (hb : sheetOk b = true) {x : Str} (hx : x ∈ ids a ∨ x ∈ ids b) : bulk (diffC a b x) ≤ 206 := by
 have h1 := sideOf_small ha x
 have h2 := sideOf_small hb x
 have h3 : x.length ≤ 6 := by
  rcases hx with hx | hx
  all_goals
   obtain ⟨f, hf, rfl⟩ := List.mem_map.1 hx
  ·exact (feat_small ((sheet_ss ha).2.2 f hf)).2
  ·exact (feat_small ((sheet_ss hb).2.2 f hf)).2
 have e : bulk (diffC a b x) = bulk x + 0 + bulk (sideOf a x).1 + 0 + bulk (sideOf b x).1 := rfl
 have e2 : bulk x = x.length := bulk_str _
 omega
theorem diffOf_small (a b : List Feat) : bulk (diffOf a b) ≤ 10000 := by
 unfold diffOf
 cases h : sheetOk a && sheetOk b with
 | false => rw [if_neg RD]; exact Nat.zero_le _
 | true =>
  rw [if_pos rfl]
  simp only [Bool.and_eq_true] at h
  have la := (sheet_ss h.1).2.1
  have lb := (sheet_ss h.2).2.1
  have l1 := diffL_len a b (uniq (ids a ++ ids b))
  have l2 := uniq_len (ids a ++ ids b)
  have l3 : (ids a ++ ids b).length = a.length + b.length := by unfold ids; simp
  have hs := bulk_small (diffL a b (uniq (ids a ++ ids b))) 206 fun c hc => by
   unfold diffL at hc
   obtain ⟨hc, _⟩ := List.mem_filter.1 hc
   obtain ⟨x, hx, rfl⟩ := List.mem_map.1 hc
   exact diffC_small h.1 h.2 (List.mem_append.1 (uniq_mem.1 hx))
  have : (diffL a b (uniq (ids a ++ ids b))).length * (206 + 1) ≤ 16 * 207 := Nat.mul_le_mul OM (Nat.le_refl _)
  omega
end
section
def mkL {α : Type} (g : α → Int → α × Int) : List α → Int → List α × Int
 | [], k => ([], k)
 | x :: l, k => ((g x k).1 :: (mkL g l (g x k).2).1, (mkL g l (g x k).2).2)
section
variable {α : Type} {g : α → Int → α × Int}
theorem mkL_snoc (x : α) : ∀ (l : List α) (k : Int), mkL g (l ++ [x]) k = ((mkL g l k).1 ++ [(g x (mkL g l k).2).1], (g x (mkL g l k).2).2)
 | [], k => rfl
 | y :: l, k => by
  rw [List.cons_append, mkL, mkL_snoc x l]; rfl
theorem mkL_len : ∀ (l : List α) (k : Int), (mkL g l k).1.length = l.length
 | [], k => rfl
 | y :: l, k => by rw [mkL, List.length_cons, List.length_cons, mkL_len l]
theorem mkL_bd [Bulk α] (hb : ∀ x k, k ≤ (g x k).2 ∧ (g x k).2 ≤ k + 8 * (1 + (bulk x : Nat))) : ∀ (l : List α) (k : Int), k ≤ (mkL g l k).2 ∧ (mkL g l k).2 ≤ k + 8 * (bulk l : Nat)
 | [], k => ⟨Int.le_refl _, by simp [mkL, bulk_nil]⟩
 | y :: l, k => by
  have h1 := hb y k
  have h2 := mkL_bd hb l (g y k).2
  rw [bulk_cons, mkL]
  exact ⟨by dsimp only; omega, by dsimp only; omega⟩
theorem mkL_app : ∀ (l m : List α) (k : Int), mkL g (l ++ m) k = ((mkL g l k).1 ++ (mkL g m (mkL g l k).2).1, (mkL g m (mkL g l k).2).2)
 | [], m, k => rfl
 | y :: l, m, k => by rw [List.cons_append, mkL, mkL_app l]; rfl
variable [Inhabited α]
def Mk (g : α → Int → α × Int) (a : List α) (k : Int) (u : Nat) (xs : List α) (k' : Int) : Prop := u ≤ a.length ∧ xs = (mkL g (a.take u) k).1 ++ a.drop u ∧ k' = (mkL g (a.take u) k).2
variable {a xs : List α} {k k' : Int} {u : Nat}
theorem Mk.zero (a : List α) (k : Int) : Mk g a k 0 a k := ⟨Nat.zero_le _, by simp [mkL], by simp [mkL]⟩
theorem Mk.len (h : Mk g a k u xs k') : xs.length = a.length := by
 rw [h.2.1, List.length_append, mkL_len, List.length_take, List.length_drop]; have := h.1; omega
theorem Mk.nth (h : Mk g a k u xs k') (hu : u < a.length) : nth xs (u : Int) = Go.Proofs.YtlaaehjcooonfaaGreatDoor.nth a (u : Int) := by
 rw [nth_nat xs (by rw [h.len]; exact hu), nth_nat a hu]
 have hl : (mkL g (a.take u) k).1.length = u := by rw [mkL_len, List.length_take]; omega
 have := h.2.1
 subst this
 rw [List.getElem_append_right OM]
 simp [hl]
theorem Mk.bd [Bulk α] (h : Mk g a k u xs k') (hb : ∀ x k, k ≤ (g x k).2 ∧ (g x k).2 ≤ k + 8 * (1 + (bulk x : Nat))) : k ≤ k' ∧ k' ≤ k + 8 * (bulk a : Nat) := by
 have h1 := mkL_bd hb (a.take u) k
 have h2 := bulk_take a u
 rw [h.2.2]
 exact ⟨h1.1, OM⟩
def Hd (g : α → Int → α × Int) (a : List α) (k : Int) (u : Nat) (k' : Int) : Prop := u ≤ a.length ∧ k' = (mkL g (a.take u) k).2
theorem Hd.zero (a : List α) (k : Int) : Hd g a k 0 k := ⟨Nat.zero_le _, by simp [mkL]⟩
theorem Hd.nth (h : Hd g a k u k') (hu : u < a.length) : nth (mkL g a k).1 (u : Int) = (g (Go.Proofs.YtlaaehjcooonfaaGreatDoor.nth a (u : Int)) k').1 := by
 have e : a = (a.take u ++ [Go.Proofs.YtlaaehjcooonfaaGreatDoor.nth a (u : Int)]) ++ a.drop (u + 1) := by rw [← take_nth a hu, List.take_append_drop]
 have hl : (mkL g (a.take u) k).1.length = u := by rw [mkL_len, List.length_take]; omega
 rw [nth_nat _ (by rw [mkL_len]; exact hu)]
 have h1 : (mkL g a k).1[u]? = some (g (Go.Proofs.YtlaaehjcooonfaaGreatDoor.nth a (u : Int)) k').1 := by
  conv => lhs; rw [e]
  rw [mkL_app, mkL_snoc]
  dsimp only
  rw [List.append_assoc, List.getElem?_append_right OM, hl, Nat.sub_self, h.2]; rfl
 rw [List.getElem?_eq_getElem (by rw [mkL_len]; exact hu)] at h1
 exact Option.some.inj h1
theorem Hd.bd [Bulk α] (h : Hd g a k u k') (hb : ∀ x k, k ≤ (g x k).2 ∧ (g x k).2 ≤ k + 8 * (1 + (bulk x : Nat))) : k ≤ k' ∧ k' ≤ k + 8 * (bulk a : Nat) := by
 have h1 := mkL_bd hb (a.take u) k
 have h2 := bulk_take a u
 rw [h.2]
 exact ⟨h1.1, OM⟩
end
theorem bulk_feat (x : Feat) : bulk x = bulk x.Id + (bulk x.Shape.Kind + bulk x.Shape.Pts) + bulk x.Tags := rfl
end
theorem pw_ext {α : Type} {R : α → α → Prop} (irr : ∀ x, ¬ R x x) (tr : ∀ x y z, R x y → R y z → R x z) : ∀ {l m : List α}, l.Pairwise R → m.Pairwise R → (∀ x, x ∈ l ↔ x ∈ m) → l = m
 | [], [], _, _, _ => rfl
 | [], y :: m, _, _, h => by have := (h y).2 List.mem_cons_self; cases this
 | x :: l, [], _, _, h => by have := (h x).1 List.mem_cons_self; cases this
 | x :: l, y :: m, hl, hm, h => by
  obtain ⟨l1, l2⟩ := List.pairwise_cons.1 hl
  obtain ⟨m1, m2⟩ := List.pairwise_cons.1 hm
  have e : x = y := by
   rcases List.mem_cons.1 ((h x).1 List.mem_cons_self) with e | e
   ·exact e
   ·rcases List.mem_cons.1 ((h y).2 List.mem_cons_self) with e' | e'
    ·exact e'.symm
    ·exact absurd (tr _ _ _ (m1 x e) (l1 y e')) (irr _)
  subst e
  rw [pw_ext irr tr l2 m2 fun z => ⟨fun hz => ?_, fun hz => ?_⟩]
  ·rcases List.mem_cons.1 ((h z).1 (List.mem_cons_of_mem _ hz)) with e | e
   ·subst e; exact absurd (l1 z hz) (irr _)
   ·exact e
  ·rcases List.mem_cons.1 ((h z).2 (List.mem_cons_of_mem _ hz)) with e | e
   ·subst e; exact absurd (m1 z hz) (irr _)
   ·exact e
def idsC (d : List Change) : List Str := d.map (·.Id)
def CS (d : List Change) : Prop := d.Pairwise fun x y => Op.bytesLess x.Id y.Id = true
theorem CS.ext {l m : List Change} (hl : CS l) (hm : CS m) (h : ∀ x, x ∈ l ↔ x ∈ m) : l = m :=
 pw_ext (R := fun x y : Change => Op.bytesLess x.Id y.Id = true) (fun x e => by rw [less_irr] at e; cases e) (fun x y z h1 h2 => less_trans h1 h2) hl hm h
theorem CS.ids {d : List Change} (h : CS d) : SS (idsC d) := List.pairwise_map.2 h
theorem diff_cs {d : List Change} (h : diffOk d = true) : CS d ∧ d.length ≤ 16 ∧ ∀ c ∈ d, changeOk c = true := by
 unfold diffOk at h
 simp only [Bool.and_eq_true, decide_eq_true_eq] at h
 obtain ⟨h1, h2⟩ := h
 have h1 := allN_iff.1 h1
 have hadj : ∀ k, 0 < k → k < d.length → Op.bytesLess (nth d ((k : Int) - 1)).Id (nth d (k : Int)).Id = true := fun k h0 hk => by
  have := h1 k hk
  simp only [Bool.and_eq_true, Bool.or_eq_true, decide_eq_true_eq] at this
  rcases this.2 with h | h
  ·omega
  ·exact h
 refine ⟨?_, h2, fun f hf => ?_⟩
 ·refine List.pairwise_iff_getElem.2 fun i j hi hj hij => ?_
  have key : ∀ q, i + q + 1 < d.length → Op.bytesLess d[i].Id (nth d ((i + q + 1 : Nat) : Int)).Id = true := by
   intro q
   induction q with
   | zero =>
    intro hd
    have := hadj (i + 0 + 1) OM hd
    rw [show (((i + 0 + 1 : Nat) : Int) - 1) = (i : Int) by omega, nth_nat d hi] at this
    exact this
   | succ q ih =>
    intro hd
    have := hadj (i + (q + 1) + 1) OM hd
    rw [show (((i + (q + 1) + 1 : Nat) : Int) - 1) = ((i + q + 1 : Nat) : Int) by omega] at this
    exact less_trans (ih OM) this
  have := key (j - i - 1) OM
  rw [show i + (j - i - 1) + 1 = j by omega, nth_nat d hj] at this
  exact this
 ·obtain ⟨k, hk, rfl⟩ := List.getElem_of_mem hf
  have := h1 k hk
  rw [nth_nat d hk] at this
  simp only [Bool.and_eq_true] at this
  exact this.1
theorem findN_true {n : Nat} {c : Nat → Bool} {k : Nat} (h : findN n c = (k : Int)) : k < n ∧ c k = true := by
 unfold findN at h
 cases e : (List.range n).find? c with
 | none => rw [e] at h; dsimp only at h; omega
 | some j =>
  rw [e] at h; dsimp only at h
  have : j = k := by omega
  subst this
  exact ⟨List.mem_range.1 (List.mem_of_find?_eq_some e), List.find?_some e⟩
theorem findN_neg {n : Nat} {c : Nat → Bool} (h : findN n c < 0) : ∀ j, j < n → c j = false := fun j hj => by
 unfold findN at h
 cases e : (List.range n).find? c with
 | some k => rw [e] at h; dsimp only at h; omega
 | none =>
  have := List.find?_eq_none.1 e j (List.mem_range.2 hj)
  simpa using this
theorem CS.inj {d : List Change} (h : CS d) {x y : Change} (hx : x ∈ d) (hy : y ∈ d) (e : x.Id = y.Id) : x = y := by
 obtain ⟨i, hi, rfl⟩ := List.getElem_of_mem hx
 obtain ⟨j, hj, rfl⟩ := List.getElem_of_mem hy
 rcases Nat.lt_trichotomy i j with g | g | g
 ·have := List.pairwise_iff_getElem.1 h i j hi hj g
  rw [e, less_irr] at this; cases this
 ·subst g; rfl
 ·have := List.pairwise_iff_getElem.1 h j i hj hi g
  rw [e, less_irr] at this; cases this
structure MInv (o a b : List Pt) (xs : List Pt) (i j k t : Nat) : Prop where
 hi : i ≤ t
 ht : t ≤ o.length
 hj : j ≤ a.length
 hk : k ≤ b.length
 fj : From (part o a) t j
 fk : From (part o b) t k
 len : xs.length ≤ j + k
 eq : (mloop o a b (part o a) (part o b) (o.length - t) t i j k).map (xs ++ ·) = smerge o a b
theorem MInv.zero {o a b : List Pt} (h1 : few o a = true) (h2 : few o b = true) : MInv o a b [] 0 0 0 0 :=
 ⟨Nat.le_refl _, Nat.zero_le _, Nat.zero_le _, Nat.zero_le _, From.zero _ _, From.zero _ _, Nat.le_refl _, by rw [smerge_few h1 h2, Nat.sub_zero]; cases mloop o a b (part o a) (part o b) o.length 0 0 0 0 <;> rfl⟩
theorem MInv.skip {o a b xs : List Pt} {i j k t : Nat} (h : MInv o a b xs i j k t) (ht : t < o.length) (hn : part o a t = none ∨ part o b t = none) : MInv o a b xs i j k (t + 1) :=
 ⟨by have := h.hi; omega, ht, h.hj, h.hk, h.fj.skip, h.fk.skip, h.len, by
  have := h.eq
  rw [show o.length - t = (o.length - (t + 1)) + 1 by omega, mloop_none hn] at this
  exact this⟩
theorem MInv.from {o a b xs : List Pt} {i j k t x y : Nat} (h : MInv o a b xs i j k t) (hx : part o a t = some x) (hy : part o b t = some y) : j ≤ x ∧ x < a.length ∧ k ≤ y ∧ y < b.length :=
 ⟨h.fj t x (Nat.le_refl _) hx, ((part_mates o a).lt hx).2, h.fk t y (Nat.le_refl _) hy, ((part_mates o b).lt hy).2⟩
def keysT (t : List Tag) : List Str := t.map (·.Key)
theorem keys_app (s t : List Tag) : keysT (s ++ t) = keysT s ++ keysT t := List.map_append
theorem feat_facts {f : Feat} (h : featOk f = true) : f.Tags.length ≤ 4 ∧ shapeOk f.Shape = true ∧ f.Shape.Pts.length ≤ 6 ∧ f.Id.length ≤ 6 ∧ ∀ t ∈ f.Tags, t.Key.length ≤ 6 ∧ t.Val.length ≤ 6 := by
 have hb := (feat_small h).2
 unfold featOk at h
 simp only [Bool.and_eq_true, decide_eq_true_eq] at h
 obtain ⟨⟨⟨h1, h2⟩, h3⟩, h4⟩ := h
 refine ⟨h2, h4, ?_, hb, fun t hm => ?_⟩
 ·unfold shapeOk kindOk at h4
  simp only [Bool.and_eq_true] at h4
  have := h4.2
  split at this
  ·simp only [decide_eq_true_eq] at this; omega
  ·split at this
   ·simp only [Bool.and_eq_true, decide_eq_true_eq] at this; omega
   ·split at this
    ·simp only [Bool.and_eq_true, decide_eq_true_eq] at this; omega
    ·cases this
 ·unfold tagsOk at h1
  obtain ⟨k, hk, rfl⟩ := List.getElem_of_mem hm
  have := allN_iff.1 h1 k hk
  rw [nth_nat _ hk] at this
  simp only [Bool.and_eq_true] at this
  exact ⟨word_len this.1.1, word_len this.1.2⟩
theorem shape_pts {s : Shape} (h : shapeOk s = true) : s.Pts.length ≤ 6 := by
 unfold shapeOk kindOk at h
 simp only [Bool.and_eq_true] at h
 have := h.2
 split at this
 ·simp only [decide_eq_true_eq] at this; omega
 ·split at this
  ·simp only [Bool.and_eq_true, decide_eq_true_eq] at this; omega
  ·split at this
   ·simp only [Bool.and_eq_true, decide_eq_true_eq] at this; omega
   ·cases this
theorem sideOf_hit {s : List Feat} {id : Str} (h : (sideOf s id).2 = true) : (sideOf s id).1 ∈ s ∧ (sideOf s id).1.Id = id := by
 unfold sideOf at h ⊢
 split at h
 ·cases h
 ·rename_i g
  rw [if_neg g]
  have h1 := findN_le s.length fun j => (nth s (j : Int)).Id == id
  obtain ⟨k, hk⟩ : ∃ k : Nat, findN s.length (fun j => (nth s (j : Int)).Id == id) = (k : Int) := ⟨_, (Int.toNat_of_nonneg OM).symm⟩
  obtain ⟨h2, h3⟩ := findN_true hk
  rw [hk]
  exact ⟨nth_mem s h2, by simpa using h3⟩
theorem sideOf_no {s : List Feat} {id : Str} (h : (sideOf s id).2 = false) : (sideOf s id).1 = zeroF ∧ id ∉ ids s := by
 unfold sideOf at h ⊢
 split at h
 ·rename_i g
  rw [if_pos g]
  refine ⟨rfl, fun hm => ?_⟩
  obtain ⟨f, hf, rfl⟩ := List.mem_map.1 hm
  obtain ⟨k, hk, rfl⟩ := List.getElem_of_mem hf
  have := findN_neg g k hk
  rw [nth_nat s hk] at this
  simp at this
 ·cases h
theorem sideOf_iff {s : List Feat} {id : Str} : (sideOf s id).2 = true ↔ id ∈ ids s := by
 constructor
 ·intro h
  obtain ⟨h1, h2⟩ := sideOf_hit h
  exact List.mem_map.2 ⟨_, h1, h2⟩
 ·intro h
  cases g : (sideOf s id).2 with
  | true => rfl
  | false => exact absurd h (sideOf_no g).2
def FS (l : List Feat) : Prop := l.Pairwise fun x y => Op.bytesLess x.Id y.Id = true
theorem FS.ext {l m : List Feat} (hl : FS l) (hm : FS m) (h : ∀ x, x ∈ l ↔ x ∈ m) : l = m :=
 pw_ext (R := fun x y : Feat => Op.bytesLess x.Id y.Id = true) (fun x e => by rw [less_irr] at e; cases e) (fun x y z h1 h2 => less_trans h1 h2) hl hm h
theorem FS.toIds {l : List Feat} (h : FS l) : SS (ids l) := List.pairwise_map.2 h
theorem FS.of_ids {l : List Feat} (h : SS (ids l)) : FS l := List.pairwise_map.1 h
theorem FS.inj {d : List Feat} (h : FS d) {x y : Feat} (hx : x ∈ d) (hy : y ∈ d) (e : x.Id = y.Id) : x = y := by
 obtain ⟨i, hi, rfl⟩ := List.getElem_of_mem hx
 obtain ⟨j, hj, rfl⟩ := List.getElem_of_mem hy
 rcases Nat.lt_trichotomy i j with g | g | g
 ·have := List.pairwise_iff_getElem.1 h i j hi hj g
  rw [e, less_irr] at this; cases this
 ·subst g; rfl
 ·have := List.pairwise_iff_getElem.1 h j i hj hi g
  rw [e, less_irr] at this; cases this
theorem sheet_fs {s : List Feat} (h : sheetOk s = true) : FS s := FS.of_ids (sheet_ss h).1
theorem sideOf_of {s : List Feat} (h : FS s) {f : Feat} (hf : f ∈ s) : sideOf s f.Id = (f, true) := by
 have h1 : (sideOf s f.Id).2 = true := sideOf_iff.2 (List.mem_map.2 ⟨f, hf, rfl⟩)
 obtain ⟨h2, h3⟩ := sideOf_hit h1
 have := h.inj h2 hf h3
 exact Prod.ext this h1
def Mem (s : List Feat) (d : List Change) (f : Feat) : Prop := (f ∈ s ∧ f.Id ∉ idsC d) ∨ ∃ c ∈ d, c.Has = true ∧ c.Now = f
theorem Mem.zero (s : List Feat) (d : List Change) (f : Feat) : Mem s (d.take 0) f ↔ f ∈ s := by
 unfold Mem
 simp [idsC]
theorem tagsOk_of {t : List Tag} (hs : SS (keysT t)) (hw : ∀ x ∈ t, wordOk x.Key = true ∧ wordOk x.Val = true) : tagsOk t = true := by
 unfold tagsOk
 refine allN_true fun k hk => ?_
 obtain ⟨h1, h2⟩ := hw _ (nth_mem t hk)
 rw [h1, h2, Bool.true_and, Bool.true_and, Bool.or_eq_true, decide_eq_true_eq]
 rcases Nat.eq_zero_or_pos k with h0 | h0
 ·exact .inl h0
 refine .inr ?_
 unfold SS keysT at hs
 have := List.pairwise_iff_getElem.1 (List.pairwise_map.1 hs) (k - 1) k OM hk OM
 rw [show ((k : Int) - 1) = ((k - 1 : Nat) : Int) by omega, nth_nat t hk, nth_nat t OM]
 exact this
theorem feat_words {f : Feat} (h : featOk f = true) : wordOk f.Id = true ∧ ∀ x ∈ f.Tags, wordOk x.Key = true ∧ wordOk x.Val = true := by
 unfold featOk at h
 simp only [Bool.and_eq_true] at h
 refine ⟨h.1.2, fun x hx => ?_⟩
 have ht := h.1.1.1
 unfold tagsOk at ht
 obtain ⟨k, hk, rfl⟩ := List.getElem_of_mem hx
 have := allN_iff.1 ht k hk
 rw [nth_nat _ hk] at this
 simp only [Bool.and_eq_true] at this
 exact this.1
def getOf (s : List Feat) (id : Str) : Feat × Bool := if sheetOk s then sideOf s id else (zeroF, false)
theorem getOf_ok {s : List Feat} (h : sheetOk s = true) (id : Str) : getOf s id = sideOf s id := by unfold getOf; rw [if_pos h]
theorem shape_pos {s : Shape} (h : shapeOk s = true) : 1 ≤ s.Pts.length := by
 unfold shapeOk kindOk at h
 simp only [Bool.and_eq_true] at h
 have := h.2
 split at this
 ·simp only [decide_eq_true_eq] at this; omega
 ·split at this
  ·simp only [Bool.and_eq_true, decide_eq_true_eq] at this; omega
  ·split at this
   ·simp only [Bool.and_eq_true, decide_eq_true_eq] at this; omega
   ·cases this
theorem dot_ok {x y : Int} (h1 : 0 ≤ x) (h2 : x ≤ 5) (h3 : 0 ≤ y) (h4 : y ≤ 5) : shapeOk ⟨1, [⟨x, y⟩]⟩ = true := by
 have e : ptOk (⟨x, y⟩ : Pt) = true := by
  unfold ptOk inR
  simp only [Bool.and_eq_true, decide_eq_true_eq]; omega
 unfold shapeOk ptsOk kindOk
 rw [Bool.and_eq_true]
 refine ⟨allN_true fun k hk => ?_, by rw [if_pos rfl]; rfl⟩
 have hk : k < 1 := hk
 obtain rfl : k = 0 := by omega
 rw [Bool.and_eq_true]
 exact ⟨e, rfl⟩
def NX (q : Pt) : Prop := q.X ≠ 71 ∧ q.X ≠ 72
theorem NX.of {x y : Int} (h : x ≤ 3) : NX ⟨x, y⟩ := ⟨by dsimp only; omega, by dsimp only; omega⟩
def keyL : List Str := [[110, 97, 109, 101], [107, 105, 110, 100], [117, 115, 101], [116, 111, 110, 101]]
def valL : List Str := [[97], [98], [111, 97, 107], [97, 115, 104], [114, 111, 97, 100]]
def idL : List Str := [[97], [98], [99], [100], [101]]
def DT (x : Tag) : Prop := x.Key ∈ keyL ∧ x.Val ∈ valL
theorem keyL_ok : ∀ k ∈ keyL, wordOk k = true := by decide
theorem valL_ok : ∀ k ∈ valL, wordOk k = true := by decide
theorem idL_ok : ∀ k ∈ idL, wordOk k = true := by decide
def plainK (k : Str) : Prop := k ≠ [97, 97, 97] ∧ k ≠ [122, 122, 122]
theorem keyL_plain : ∀ k ∈ keyL, plainK k := by
 intro k hk
 simp only [keyL, List.mem_cons, List.not_mem_nil, or_false] at hk
 unfold plainK
 rcases hk with rfl | rfl | rfl | rfl <;> decide
theorem feat_of {id : Str} {s : Shape} {t : List Tag} (h1 : wordOk id = true) (h2 : shapeOk s = true) (h3 : SS (keysT t)) (h4 : t.length ≤ 4) (h5 : ∀ x ∈ t, wordOk x.Key = true ∧ wordOk x.Val = true) : featOk ⟨id, s, t⟩ = true := by
 unfold featOk
 dsimp only
 rw [tagsOk_of h3 h5, h1, h2, decide_eq_true h4]; rfl
structure FB (n : Nat) (f : Feat) : Prop where
 id : f.Id.length ≤ 7
 pts : f.Shape.Pts.length ≤ 7
 len : f.Tags.length ≤ n
 wd : ∀ x ∈ f.Tags, x.Key.length ≤ 6 ∧ x.Val.length ≤ 6
theorem FB.small {n : Nat} {f : Feat} (h : FB n f) : bulk f ≤ 14 + 13 * n := by
 have e : bulk f = bulk f.Id + (0 + bulk f.Shape.Pts) + bulk f.Tags := rfl
 have e2 : bulk f.Id = f.Id.length := bulk_str _
 have e3 : bulk f.Shape.Pts = f.Shape.Pts.length := bulk_flat (fun _ => rfl) _
 have hs := bulk_small f.Tags 12 fun t ht => by
  have := h.wd t ht
  have e : bulk t = bulk t.Key + bulk t.Val := rfl
  rw [e, bulk_str, bulk_str]; omega
 have : f.Tags.length * (12 + 1) ≤ n * 13 := Nat.mul_le_mul h.len (Nat.le_refl _)
 have := h.id; have := h.pts
 omega
theorem FB.of {f : Feat} (h : featOk f = true) : FB 4 f := by
 have := feat_facts h
 exact ⟨OM, OM, this.1, this.2.2.2.2⟩
theorem FB.mono {n m : Nat} {f : Feat} (h : FB n f) (hm : n ≤ m) : FB m f := ⟨h.id, h.pts, Nat.le_trans h.len hm, h.wd⟩
theorem FB.lens {n : Nat} {f : Feat} (h : FB n f) (hn : n ≤ 1000) : f.Shape.Pts.length ≤ 1048576 ∧ f.Tags.length ≤ 1048576 := ⟨Nat.le_trans h.pts RD, Nat.le_trans h.len OM⟩
theorem DT.len {x : Tag} (h : DT x) : x.Key.length ≤ 6 ∧ x.Val.length ≤ 6 := ⟨word_len (keyL_ok _ h.1), word_len (valL_ok _ h.2)⟩
theorem DT.ok {x : Tag} (h : DT x) : wordOk x.Key = true ∧ wordOk x.Val = true := ⟨keyL_ok _ h.1, valL_ok _ h.2⟩
structure MB (n m : Nat) (s : List Feat) : Prop where
 len : s.length ≤ n
 fb : ∀ f ∈ s, FB m f
theorem MB.small {n m : Nat} {s : List Feat} (h : MB n m s) : bulk s ≤ n * (15 + 13 * m) := by
 have hs := bulk_small s (14 + 13 * m) fun f hf => (h.fb f hf).small
 have : s.length * (14 + 13 * m + 1) ≤ n * (15 + 13 * m) := Nat.mul_le_mul h.len OM
 omega
theorem MB.of {s : List Feat} (h : sheetOk s = true) : MB 8 4 s := ⟨(sheet_ss h).2.1, fun f hf => FB.of ((sheet_ss h).2.2 f hf)⟩
theorem MB.mono {n n' m m' : Nat} {s : List Feat} (h : MB n m s) (h1 : n ≤ n') (h2 : m ≤ m') : MB n' m' s := ⟨Nat.le_trans h.len h1, fun f hf => (h.fb f hf).mono h2⟩
theorem sheet_of {s : List Feat} (h1 : SS (ids s)) (h2 : s.length ≤ 8) (h3 : ∀ f ∈ s, featOk f = true) : sheetOk s = true := by
 unfold sheetOk
 rw [Bool.and_eq_true]
 refine ⟨allN_true fun k hk => ?_, decide_eq_true h2⟩
 rw [Bool.and_eq_true, Bool.or_eq_true, decide_eq_true_eq]
 refine ⟨h3 _ (nth_mem s hk), ?_⟩
 rcases Nat.eq_zero_or_pos k with h0 | h0
 ·exact .inl h0
 refine .inr ?_
 unfold SS ids at h1
 have := List.pairwise_iff_getElem.1 (List.pairwise_map.1 h1) (k - 1) k OM hk OM
 rw [show ((k : Int) - 1) = ((k - 1 : Nat) : Int) by omega, nth_nat s hk, nth_nat s OM]
 exact this
def zzI : Str := [122, 122]
theorem idL_nz : ∀ k ∈ idL, k ≠ zzI := by
 intro k hk
 simp only [idL, List.mem_cons, List.not_mem_nil, or_false] at hk
 rcases hk with rfl | rfl | rfl | rfl | rfl <;> decide
structure MD (s : List Feat) : Prop where
 mb : MB 14 4 s
 nz : ∀ f ∈ s, f.Id ≠ zzI
theorem MD.small {s : List Feat} (h : MD s) : bulk s ≤ 1048576 := Nat.le_trans h.mb.small RD
theorem diff_of {d : List Change} (h1 : CS d) (h2 : d.length ≤ 16) (h3 : ∀ c ∈ d, changeOk c = true) : diffOk d = true := by
 unfold diffOk
 rw [Bool.and_eq_true]
 refine ⟨allN_true fun k hk => ?_, decide_eq_true h2⟩
 rw [Bool.and_eq_true, Bool.or_eq_true, decide_eq_true_eq]
 refine ⟨h3 _ (nth_mem d hk), ?_⟩
 rcases Nat.eq_zero_or_pos k with h0 | h0
 ·exact .inl h0
 refine .inr ?_
 have := List.pairwise_iff_getElem.1 h1 (k - 1) k OM hk OM
 rw [show ((k : Int) - 1) = ((k - 1 : Nat) : Int) by omega, nth_nat d hk, nth_nat d OM]
 exact this
theorem sideOf_eq {l m : List Feat} (hl : FS l) (hm : FS m) {i : Str} (h : ∀ f, f.Id = i → (f ∈ l ↔ f ∈ m)) : sideOf l i = sideOf m i := by
 cases g : (sideOf l i).2 with
 | true =>
  obtain ⟨h1, h2⟩ := sideOf_hit g
  have h3 := sideOf_of hm ((h _ h2).1 h1)
  rw [h2] at h3
  rw [h3]; exact Prod.ext rfl g
 | false =>
  obtain ⟨h1, h2⟩ := sideOf_no g
  have h3 : (sideOf m i).2 = false := by
   cases k : (sideOf m i).2 with
   | false => rfl
   | true =>
    obtain ⟨k1, k2⟩ := sideOf_hit k
    exact absurd (List.mem_map.2 ⟨_, (h _ k2).2 k1, k2⟩) h2
  exact Prod.ext (h1.trans (sideOf_no h3).1.symm) (g.trans h3.symm)
theorem idsC_mem {d : List Change} {i : Str} : i ∈ idsC d ↔ ∃ c ∈ d, c.Id = i := List.mem_map
end Go.Proofs.YtlaaehjcooonfaaGreatDoor