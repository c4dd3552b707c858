/- It is proved here that the law FnDiffThen of the given program holds whatever it is handed: the walks through the code, the plain laws and the row, in this order.
   Conditions: none. -/
import Derived.Below
import Derived.ChangeArms
import Derived.ChangeOld
import Derived.ChangeSlices
import Derived.ChangeVars
import Derived.DataReads
import Derived.Deep.MidRow
import Derived.Deep.Quiet
import Derived.Deep.RegionLaw
import Derived.Deep.Upon
import Derived.KernelRfl
import Derived.LaidHandle
import Derived.LaidLaws
import Derived.LaidMore
import Derived.Laws.Build
import Derived.Laws.IdiomStrings
import Derived.Laws.OwnMore
import Derived.Laws.Slices
import Derived.Laws.Strings2
import Derived.Laws.StructEq
import Derived.Lib.ItoaNum
import Derived.Lib.LaidTab
import Derived.Lib.SliceRun
import Derived.MakeChecks
import Derived.OpenShut
import Derived.OpenVars
import Derived.ProofKit
import Derived.SevenTiedAt
import Derived.Shelf.LaysM
import Derived.Shelf.SlSortCmp.NoneTotal
import Derived.Shelf.SlSortCmp.WholeK
import Derived.Shelf.Slices.Cells
import Derived.Shelf.Slices.CompactS
import Derived.Shelf.Slices.In.SortNone
import Derived.Shelf.Small.Bits
import Derived.Shelf.Sort.Plain
import Derived.Shelf.Strconv.Itoa0
import Derived.Shelf.Strconv.Itoa1
import Derived.Shelf.Strconv.Itoa2
import Derived.Shelf.Strconv.Itoa3
import Derived.ShutString
import Derived.SizedLaws
import Derived.StillTail
import Derived.Stop.Joined
import Derived.Test.YtlaaehjcooonfaaGreatDoorCards
import Derived.Test.YtlaaehjcooonfaaGreatDoorProg
import Derived.Test.YtlaaehjcooonfaaGreatDoorRows
import Derived.Test.YtlaaehjcooonfaaGreatDoorTie
import Derived.WalkKit
import Derived.Test.YtlaaehjcooonfaaGreatDoorCDiffThena
import Derived.Test.YtlaaehjcooonfaaGreatDoorCDiffThenb
namespace Go.Proofs.YtlaaehjcooonfaaGreatDoor
set_option linter.unusedVariables false
set_option linter.unusedSimpArgs false
set_option linter.unusedSectionVars false
set_option maxHeartbeats 8000000
set_option maxRecDepth 100000
open Go.RowKit
variable {O : Ob} {w0 : World}
def F100.E (d : List Change) (Q : Bool → Prop) : Prop :=
 (∃ (I19 : Int → Prop) (mu20 : Int → Nat), I19 0 ∧ ∀ (v2 : Int), I19 v2 → (if decide (v2 < (d.length : Int)) then ((0 : Int) ≤ v2 ∧ v2 < (d.length : Int)) ∧ (∃ q : Bool, F96.E ((nth d v2).Id) (fun x => x = q) ∧ (if !q then Q false else (if decide (v2 > 0) then (I64 (v2 - 1)) ∧ ((0 : Int) ≤ v2 - 1 ∧ v2 - 1 < (d.length : Int)) ∧ (if !(Op.bytesLess ((nth d (v2 - 1)).Id) ((nth d v2).Id)) then Q false else (∃ q2 : Bool, F99.E ((nth d v2).Id) ((nth d v2).Had) ((nth d v2).Was) (fun x => x = q2) ∧ (if !q2 then Q false else (∃ q3 : Bool, F99.E ((nth d v2).Id) ((nth d v2).Has) ((nth d v2).Now) (fun x => x = q3) ∧ (if !q3 then Q false else (∃ q4 : Bool, F19.E (nth d v2) (fun x => x = q4) ∧ (if q4 then Q false else (I64 (v2 + 1)) ∧ I19 (v2 + 1) ∧ mu20 (v2 + 1) < mu20 v2))))))) else (∃ q5 : Bool, F99.E ((nth d v2).Id) ((nth d v2).Had) ((nth d v2).Was) (fun x => x = q5) ∧ (if !q5 then Q false else (∃ q6 : Bool, F99.E ((nth d v2).Id) ((nth d v2).Has) ((nth d v2).Now) (fun x => x = q6) ∧ (if !q6 then Q false else (∃ q7 : Bool, F19.E (nth d v2) (fun x => x = q7) ∧ (if q7 then Q false else (I64 (v2 + 1)) ∧ I19 (v2 + 1) ∧ mu20 (v2 + 1) < mu20 v2))))))))) else Q (decide ((d.length : Int) ≤ 16))))
theorem F100.calls {d : List Change} {A1 : Option Addr} {n2 c3 : Nat} {Q : Bool → Prop} (H : F100.E d Q) (hO : Ok w0 O) (hp4 : Sl kChange w0 (Fr O) (G A1 n2 c3) d) :
  Ret Tryz.prog 17 [G A1 n2 c3] w0 (fun v w' => ∃ (r0 : Bool), v = vb r0 ∧ Q r0 ∧ Gr w0 w' none) := by
 unfold F100.E at H;have hc0 := Ct.init hO;refine Yb Tryz.func17 Z 59 Z [.tmp 2] Z Z ?_;refine Xc (Xe (Xf (vb false) Z (Xb (Xc (Xc (Xe (Xd (G A1 n2 c3) Z ?_)))))));have hl6 := hp4.le;refine Xa (X9 u23_ A1 n2 c3 hp4.len Z) (Xd (vi 0) Z (Xb (X6 ?_)));obtain ⟨b3, b4, a8, H⟩ := H;refine Yj (α := Int) (fun (sv__ : Int) t a9 => match sv__ with | v2 => b3 v2 ∧ Has t [(0, G A1 n2 c3), (5, G A1 n2 c3), (6, vi (d.length : Int)), (7, vi v2)] ∧ Ct [] w0 a9 [] O ∧ Sl kChange a9 (Fr ([] ++ O)) (G A1 n2 c3) d) (fun (sv__ : Int) => match sv__ with | v2 => b4 v2) 0 ⟨a8, (Xx Z), hc0, hp4⟩ ?_;rintro v2 _ a9 ⟨a8, b5, a4, az⟩;obtain ⟨dm, rfl⟩ := Has.ins b5;have H := H v2 a8;refine Xc (Xe (Xa (X0 v2 (d.length : Int) (decide (v2 < (d.length : Int))) Z Z Z) (Xb (Xc ?_))));refine Xu (decide (v2 < (d.length : Int))) Z (fun ba => ?_) (fun ba => ?_)
 ·have H := Xl H ba;refine Xw (Xc (X6 (Xc (Xe (Xd (vi v2) Z ?_)))));obtain ⟨bl, H⟩ := H;obtain ⟨bm, dn, b6, dp, b7, b8⟩ := az.get default RD v2 bl;obtain ⟨ah, ai, aj, ak, al, am, an, ao, ap, aq, ar, au, rfl, ay, a5, bn, bo, a6, bp, bq⟩ := kChange.op b7;refine Xa (X3 u23_ Yi A1 bm n2 c3 az.len v2 Z b6 Z bl) (Xa (Xv ag62 sz62 cL (bm.add (v2.toNat * 11)) [vs ((nth d v2).Id), vb ((nth d v2).Had), vs ((nth d v2).Was.Id), vi ((nth d v2).Was.Shape.Kind), G ah ai aj, G ak al am, vb ((nth d v2).Has), vs ((nth d v2).Now.Id), vi ((nth d v2).Now.Shape.Kind), G an ao ap, G aq ar au] Z Z b8) (Yo [vs [], vb false, vs [], .int .i64 0, G none 0 0, G none 0 0, vb false, vs [], .int .i64 0, G none 0 0, G none 0 0] ze62 fun dq aa bb hu60 bc b9 => ?_));have bd := a4.own bc (some aa) (Ym bb hu60);refine Xf (vi v2) Z (Yf [vs ((nth d v2).Id), vb ((nth d v2).Had), vs ((nth d v2).Was.Id), vi ((nth d v2).Was.Shape.Kind), G ah ai aj, G ak al am, vb ((nth d v2).Has), vs ((nth d v2).Now.Id), vi ((nth d v2).Now.Shape.Kind), G an ao ap, G aq ar au] b9 Z Z sz62 Z Z fun ca be ag => ?_);have af := bd.wr 0 Z be;refine Xb (Xc (Yy (fun x => Gr ca x none) RK RK (Gr.drew _) ?_));refine Xg (Xj fa62_0 (Ad aa 0) (Ad aa 0) Z Z) (Xg (Xo ag9 cQ (Ad aa 0) (vs ((nth d v2).Id)) Z (ag.cell Z)) ?_);obtain ⟨q, cb, H⟩ := H;refine Y2 go51 [vs ((nth d v2).Id)] Z (vb q) (fun w g => (F96.calls cb (af.k0 g).ok ay).mono ?_) ?_
  ·rintro _ w ⟨r, rfl, rfl, g2⟩;exact ⟨Z, Gr.t0 g g2⟩
  refine Xg (X8 q Z) (Xy (vb (!q)) Z ?_);rcases X4 (!q) with av | av
  ·have H := Xl H av;refine Xq av Z (Xq av Z (Xq av Z (X2 Z (X2 Z (X2 Z (X2 Z (X2 Z (X2 Z ?_))))))));refine X2 Z (X2 Z (X2 Z (Xq av Z (Xg (Xk true (vb true) av Z) (Xy (vb true) Z (Yk (dj := 31) Z Z (.inl Z) (Yk (dj := 31) Z Z (.inl Z) (Yk (dj := 31) Z Z (.inl Z) ?_))))))));refine Yk (dj := 31) Z Z (.inl Z) (Yk (dj := 31) Z Z (.inl Z) (Yk (dj := 31) Z Z (.inl Z) (Yk (dj := 31) Z Z (.inl Z) (Yk (dj := 31) Z Z (.inl Z) (Xg (Xk true (vb true) Z Z) (Xy (vb true) Z (Yk (dj := 41) Z Z (.inl Z) (Yk (dj := 41) Z Z (.inl Z) ?_))))))));refine Yk (dj := 41) Z Z (.inl Z) (Yk (dj := 41) Z Z (.inl Z) (Yk (dj := 41) Z Z (.inl Z) (Yk (dj := 41) Z Z (.inl Z) (Yk (dj := 41) Z Z (.inl Z) (Yk (dj := 41) Z Z (.inl Z) (Xg (Xk true (vb true) Z Z) (Xy (vb true) Z (Yk (dj := 51) Z Z (.inl Z) ?_))))))));refine Yk (dj := 51) Z Z (.inl Z) (Xg (Xk true (vb true) Z Z) (Ye fun dr cc => ?_));have cd := af.k0 cc;refine Yu (b := true) Z Z ?_;refine Xc (Xe (Xf (vb false) Z (Xb (Xn ?_))));have ce := cd.drop 0 Z;exact ⟨[vb false], ⟨_, Z, Z⟩, false, Z, H, ce.gr.g0⟩
  have H := Xm H av;refine Xp av Z (Xy (vi v2) Z (Xp av Z (Xg (X0 v2 0 (decide (v2 > 0)) Z Z Z) (Xp av Z (Xy (vb (decide (v2 > 0))) Z ?_)))));rcases X4 (decide (v2 > 0)) with ab | ab
  ·have H := Xl H ab;refine Xp ab Z (Xy (G A1 n2 c3) Z (Xp ab Z (Xy (vi v2) Z (Xp ab Z ?_))));obtain ⟨cf, H⟩ := H;refine Xg (Y1 v2 1 Z Z cf) (Xp ab Z ?_);obtain ⟨br, H⟩ := H;have a0 := a4.stown _ bc (Xz bb);have a1 := bd.stw 0 Z be;have bf := ((az.st a0).st a1);obtain ⟨a7, ds, cg, dt, ch, ci⟩ := bf.get default RD (v2 - 1) br;obtain ⟨du, dv, dw, dx, dy, dz, d0, d1, d2, d3, d4, d5, rfl, d6, d7, d8, d9, ea, eb, ec⟩ := kChange.op ch;refine Xg (X3 u23_ Yi A1 a7 n2 c3 bf.len (v2 - 1) Z cg Z br) (Xp ab Z (Xg (Xj fa62_0 (a7.add ((v2 - 1).toNat * 11)) ((a7.add ((v2 - 1).toNat * 11)).add 0) Z Z) (Xp ab Z (Xg (Xo ag9 cQ ((a7.add ((v2 - 1).toNat * 11)).add 0) (vs ((nth d (v2 - 1)).Id)) Z (ci 0 _ Z)) (Xp ab Z (Xg (Xj fa62_0 (Ad aa 0) (Ad aa 0) Z Z) (Xp ab Z (Xg (Xo ag9 cQ (Ad aa 0) (vs ((nth d v2).Id)) Z (ag.cell Z)) ?_))))))));refine Xp ab Z (Xg (Yt ((nth d (v2 - 1)).Id) ((nth d v2).Id) (!(Op.bytesLess ((nth d (v2 - 1)).Id) ((nth d v2).Id))) Z Z Z) (Xp av Z (Xg (Yp true (vb (!(Op.bytesLess ((nth d (v2 - 1)).Id) ((nth d v2).Id)))) (by exact congrArg Value.bool ab) Z) (Xg (Yp false (vb (!(Op.bytesLess ((nth d (v2 - 1)).Id) ((nth d v2).Id)))) (by exact congrArg Value.bool av) Z) (Xy (vb (!(Op.bytesLess ((nth d (v2 - 1)).Id) ((nth d v2).Id)))) Z ?_)))));rcases X4 (!(Op.bytesLess ((nth d (v2 - 1)).Id) ((nth d v2).Id))) with ac | ac
   ·have H := Xl H ac;refine Xq ac Z (Xq ac Z (Xq ac Z (Xq ac Z (Xq ac Z (Xq ac Z (Xq ac Z (Xq ac Z (Xg (Xk true (vb true) ac Z) ?_))))))));refine Xy (vb true) Z (Yk (dj := 41) Z Z (.inl Z) (Yk (dj := 41) Z Z (.inl Z) (Yk (dj := 41) Z Z (.inl Z) (Yk (dj := 41) Z Z (.inl Z) (Yk (dj := 41) Z Z (.inl Z) (Yk (dj := 41) Z Z (.inl Z) (Yk (dj := 41) Z Z (.inl Z) (Yk (dj := 41) Z Z (.inl Z) ?_))))))));refine Xg (Xk true (vb true) Z Z) (Xy (vb true) Z (Yk (dj := 51) Z Z (.inl Z) (Yk (dj := 51) Z Z (.inl Z) (Xg (Xk true (vb true) Z Z) (Ye fun ed cj => ?_)))));have ck := af.k0 cj;refine Yu (b := true) Z Z ?_;refine Xc (Xe (Xf (vb false) Z (Xb (Xn ?_))));have cl := ck.drop 0 Z;exact ⟨[vb false], ⟨_, Z, Z⟩, false, Z, H, cl.gr.g0⟩
   have H := Xm H ac;refine Xp ac Z (Xg (Xj fa62_0 (Ad aa 0) (Ad aa 0) Z Z) (Xp ac Z (Xg (Xo ag9 cQ (Ad aa 0) (vs ((nth d v2).Id)) Z (ag.cell Z)) (Xp ac Z (Xg (Xj fa62_1 (Ad aa 0) (Ad aa 1) Z Z) (Xp ac Z (Xg (Xo ag4 cQ (Ad aa 1) (vb ((nth d v2).Had)) Z (ag.cell Z)) (Xp ac Z ?_))))))));refine Xg (Xj fa62_2 (Ad aa 0) (Ad aa 2) Z Z) (Xp ac Z (Xg (Xv ag44 sz44 cQ (Ad aa 2) [vs ((nth d v2).Was.Id), vi ((nth d v2).Was.Shape.Kind), G ah ai aj, G ak al am] Z Z (ag.cells (off := 2) Z)) (Xp ac Z ?_)));have bs := ((bn.st a0).st a1);have bt := ((bo.st a0).st a1);obtain ⟨q2, cm, H⟩ := H;refine Y2 go52 [vs ((nth d v2).Id), vb ((nth d v2).Had), .agg #[vs ((nth d v2).Was.Id), vi ((nth d v2).Was.Shape.Kind), G ah ai aj, G ak al am]] Z (vb q2) (fun w g => (F99.calls cm (af.k0 g).ok ay a5 (bs.st (.new _ g)) (bt.st (.new _ g))).mono ?_) ?_
   ·rintro _ w ⟨r, rfl, rfl, g2⟩;exact ⟨Z, Gr.t0 g g2⟩
   refine Xp ac Z (Xg (X8 q2 Z) (Xg (Xk false (vb (!q2)) ac Z) (Xy (vb (!q2)) Z ?_)));rcases X4 (!q2) with ad | ad
   ·have H := Xl H ad;refine Xq ad Z (Xq ad Z (Xq ad Z (Xq ad Z (Xq ad Z (Xq ad Z (Xq ad Z (Xq ad Z (Xg (Xk true (vb true) ad Z) ?_))))))));refine Xy (vb true) Z (Yk (dj := 51) Z Z (.inl Z) (Yk (dj := 51) Z Z (.inl Z) (Xg (Xk true (vb true) Z Z) (Ye fun ee cn => ?_))));have co := af.k0 cn;refine Yu (b := true) Z Z ?_;refine Xc (Xe (Xf (vb false) Z (Xb (Xn ?_))));have cp := co.drop 0 Z;exact ⟨[vb false], ⟨_, Z, Z⟩, false, Z, H, cp.gr.g0⟩
   have H := Xm H ad;refine Xp ad Z (Xg (Xj fa62_0 (Ad aa 0) (Ad aa 0) Z Z) (Xp ad Z (Xg (Xo ag9 cQ (Ad aa 0) (vs ((nth d v2).Id)) Z (ag.cell Z)) (Xp ad Z (Xg (Xj fa62_3 (Ad aa 0) (Ad aa 6) Z Z) (Xp ad Z (Xg (Xo ag4 cQ (Ad aa 6) (vb ((nth d v2).Has)) Z (ag.cell Z)) (Xp ad Z ?_))))))));refine Xg (Xj fa62_4 (Ad aa 0) (Ad aa 7) Z Z) (Xp ad Z (Xg (Xv ag44 sz44 cQ (Ad aa 7) [vs ((nth d v2).Now.Id), vi ((nth d v2).Now.Shape.Kind), G an ao ap, G aq ar au] Z Z (ag.cells (off := 7) Z)) (Xp ad Z ?_)));have bu := ((bp.st a0).st a1);have bv := ((bq.st a0).st a1);obtain ⟨q3, cq, H⟩ := H;refine Y2 go52 [vs ((nth d v2).Id), vb ((nth d v2).Has), .agg #[vs ((nth d v2).Now.Id), vi ((nth d v2).Now.Shape.Kind), G an ao ap, G aq ar au]] Z (vb q3) (fun w g => (F99.calls cq (af.k0 g).ok ay a6 (bu.st (.new _ g)) (bv.st (.new _ g))).mono ?_) ?_
   ·rintro _ w ⟨r, rfl, rfl, g2⟩;exact ⟨Z, Gr.t0 g g2⟩
   refine Xp ad Z (Xg (X8 q3 Z) (Xg (Xk false (vb (!q3)) ad Z) (Xy (vb (!q3)) Z ?_)));rcases X4 (!q3) with aw | aw
   ·have H := Xl H aw;refine Xq aw Z (Xq aw Z (Xg (Xk true (vb true) aw Z) (Ye fun ef cr => ?_)));have cs := af.k0 cr;refine Yu (b := true) Z Z ?_;refine Xc (Xe (Xf (vb false) Z (Xb (Xn ?_))));have ct := cs.drop 0 Z;exact ⟨[vb false], ⟨_, Z, Z⟩, false, Z, H, ct.gr.g0⟩
   have H := Xm H aw;refine Xp aw Z (Xg (Xv ag62 sz62 cQ (Ad aa 0) [vs ((nth d v2).Id), vb ((nth d v2).Had), vs ((nth d v2).Was.Id), vi ((nth d v2).Was.Shape.Kind), G ah ai aj, G ak al am, vb ((nth d v2).Has), vs ((nth d v2).Now.Id), vi ((nth d v2).Now.Shape.Kind), G an ao ap, G aq ar au] Z Z (ag.cells (off := 00) Z)) (Xp aw Z ?_));obtain ⟨q4, cu, H⟩ := H;refine Y2 go53 [.agg #[vs ((nth d v2).Id), vb ((nth d v2).Had), vs ((nth d v2).Was.Id), vi ((nth d v2).Was.Shape.Kind), G ah ai aj, G ak al am, vb ((nth d v2).Has), vs ((nth d v2).Now.Id), vi ((nth d v2).Now.Shape.Kind), G an ao ap, G aq ar au]] Z (vb q4) (fun w g => (F19.calls cu (af.k0 g).ok ay a5 (bs.st (.new _ g)) (bt.st (.new _ g)) a6 (bu.st (.new _ g)) (bv.st (.new _ g))).mono ?_) ?_
   ·rintro _ w ⟨r, rfl, rfl, g2⟩;exact ⟨Z, Gr.t0 g g2⟩
   refine Xg (Xk false (vb q4) aw Z) (Ye fun eg bw => ?_);have bg := af.k0 bw;refine Xu q4 Z (fun bh => ?_) (fun bh => ?_)
   ·have H := Xl H bh;refine Xc (Xe (Xf (vb false) Z (Xb (Xn ?_))));have cv := bg.drop 0 Z;exact ⟨[vb false], ⟨_, Z, Z⟩, false, Z, H, cv.gr.g0⟩
   have H := Xm H bh;refine Xw (Xe ?_);obtain ⟨cw, H⟩ := H;refine Xa (Ya v2 1 Z Z cw) (Xd (vi (v2 + 1)) Z (Xb ?_));have cx := bg.drop 0 Z;obtain ⟨cy, cz⟩ := H;have c0 := af.stn bw;have c1 := bg.std 0 Z;have c2 := ((bf.st c0).st c1);exact ⟨v2 + 1, cz, cy, (Xx Z), cx, c2⟩
  have H := Xm H ab;refine Xq ab Z (Xq ab Z (Xq ab Z (Xq ab Z (Xq ab Z (Xq ab Z (Xq ab Z (Xq ab Z (Xq ab Z ?_))))))));refine Xp av Z (Xg (Xk false (vb false) ab Z) (Xg (Xk false (vb false) av Z) (Xy (vb false) Z (Zg (dj := 31) Z Z Z (Xg (Xj fa62_0 (Ad aa 0) (Ad aa 0) Z Z) (Zg (dj := 31) Z Z Z (Xg (Xo ag9 cQ (Ad aa 0) (vs ((nth d v2).Id)) Z (ag.cell Z)) (Zg (dj := 31) Z Z Z ?_))))))));refine Xg (Xj fa62_1 (Ad aa 0) (Ad aa 1) Z Z) (Zg (dj := 31) Z Z Z (Xg (Xo ag4 cQ (Ad aa 1) (vb ((nth d v2).Had)) Z (ag.cell Z)) (Zg (dj := 31) Z Z Z (Xg (Xj fa62_2 (Ad aa 0) (Ad aa 2) Z Z) (Zg (dj := 31) Z Z Z (Xg (Xv ag44 sz44 cQ (Ad aa 2) [vs ((nth d v2).Was.Id), vi ((nth d v2).Was.Shape.Kind), G ah ai aj, G ak al am] Z Z (ag.cells (off := 2) Z)) (Zg (dj := 31) Z Z Z ?_)))))));have a2 := a4.stown _ bc (Xz bb);have a3 := bd.stw 0 Z be;have bx := ((bn.st a2).st a3);have bz := ((bo.st a2).st a3);obtain ⟨q5, c4, H⟩ := H;refine Y2 go52 [vs ((nth d v2).Id), vb ((nth d v2).Had), .agg #[vs ((nth d v2).Was.Id), vi ((nth d v2).Was.Shape.Kind), G ah ai aj, G ak al am]] Z (vb q5) (fun w g => (F99.calls c4 (af.k0 g).ok ay a5 (bx.st (.new _ g)) (bz.st (.new _ g))).mono ?_) ?_
  ·rintro _ w ⟨r, rfl, rfl, g2⟩;exact ⟨Z, Gr.t0 g g2⟩
  refine Zg (dj := 31) Z Z Z (Xg (X8 q5 Z) (Xg (Xk false (vb (!q5)) Z Z) (Xy (vb (!q5)) Z ?_)));rcases X4 (!q5) with ae | ae
  ·have H := Xl H ae;refine Xq ae Z (Xq ae Z (Xq ae Z (Xq ae Z (Xq ae Z (Xq ae Z (Xq ae Z (Xq ae Z (Xg (Xk true (vb true) ae Z) ?_))))))));refine Xy (vb true) Z (Yk (dj := 51) Z Z (.inl Z) (Yk (dj := 51) Z Z (.inl Z) (Xg (Xk true (vb true) Z Z) (Ye fun eh c5 => ?_))));have c6 := af.k0 c5;refine Yu (b := true) Z Z ?_;refine Xc (Xe (Xf (vb false) Z (Xb (Xn ?_))));have c7 := c6.drop 0 Z;exact ⟨[vb false], ⟨_, Z, Z⟩, false, Z, H, c7.gr.g0⟩
  have H := Xm H ae;refine Xp ae Z (Xg (Xj fa62_0 (Ad aa 0) (Ad aa 0) Z Z) (Xp ae Z (Xg (Xo ag9 cQ (Ad aa 0) (vs ((nth d v2).Id)) Z (ag.cell Z)) (Xp ae Z (Xg (Xj fa62_3 (Ad aa 0) (Ad aa 6) Z Z) (Xp ae Z (Xg (Xo ag4 cQ (Ad aa 6) (vb ((nth d v2).Has)) Z (ag.cell Z)) (Xp ae Z ?_))))))));refine Xg (Xj fa62_4 (Ad aa 0) (Ad aa 7) Z Z) (Xp ae Z (Xg (Xv ag44 sz44 cQ (Ad aa 7) [vs ((nth d v2).Now.Id), vi ((nth d v2).Now.Shape.Kind), G an ao ap, G aq ar au] Z Z (ag.cells (off := 7) Z)) (Xp ae Z ?_)));have b0 := ((bp.st a2).st a3);have b1 := ((bq.st a2).st a3);obtain ⟨q6, c8, H⟩ := H;refine Y2 go52 [vs ((nth d v2).Id), vb ((nth d v2).Has), .agg #[vs ((nth d v2).Now.Id), vi ((nth d v2).Now.Shape.Kind), G an ao ap, G aq ar au]] Z (vb q6) (fun w g => (F99.calls c8 (af.k0 g).ok ay a6 (b0.st (.new _ g)) (b1.st (.new _ g))).mono ?_) ?_
  ·rintro _ w ⟨r, rfl, rfl, g2⟩;exact ⟨Z, Gr.t0 g g2⟩
  refine Xp ae Z (Xg (X8 q6 Z) (Xg (Xk false (vb (!q6)) ae Z) (Xy (vb (!q6)) Z ?_)));rcases X4 (!q6) with ax | ax
  ·have H := Xl H ax;refine Xq ax Z (Xq ax Z (Xg (Xk true (vb true) ax Z) (Ye fun ei c9 => ?_)));have da := af.k0 c9;refine Yu (b := true) Z Z ?_;refine Xc (Xe (Xf (vb false) Z (Xb (Xn ?_))));have db := da.drop 0 Z;exact ⟨[vb false], ⟨_, Z, Z⟩, false, Z, H, db.gr.g0⟩
  have H := Xm H ax;refine Xp ax Z (Xg (Xv ag62 sz62 cQ (Ad aa 0) [vs ((nth d v2).Id), vb ((nth d v2).Had), vs ((nth d v2).Was.Id), vi ((nth d v2).Was.Shape.Kind), G ah ai aj, G ak al am, vb ((nth d v2).Has), vs ((nth d v2).Now.Id), vi ((nth d v2).Now.Shape.Kind), G an ao ap, G aq ar au] Z Z (ag.cells (off := 00) Z)) (Xp ax Z ?_));obtain ⟨q7, dc, H⟩ := H;refine Y2 go53 [.agg #[vs ((nth d v2).Id), vb ((nth d v2).Had), vs ((nth d v2).Was.Id), vi ((nth d v2).Was.Shape.Kind), G ah ai aj, G ak al am, vb ((nth d v2).Has), vs ((nth d v2).Now.Id), vi ((nth d v2).Now.Shape.Kind), G an ao ap, G aq ar au]] Z (vb q7) (fun w g => (F19.calls dc (af.k0 g).ok ay a5 (bx.st (.new _ g)) (bz.st (.new _ g)) a6 (b0.st (.new _ g)) (b1.st (.new _ g))).mono ?_) ?_
  ·rintro _ w ⟨r, rfl, rfl, g2⟩;exact ⟨Z, Gr.t0 g g2⟩
  refine Xg (Xk false (vb q7) ax Z) (Ye fun ej b2 => ?_);have bi := af.k0 b2;refine Xu q7 Z (fun bj => ?_) (fun bj => ?_)
  ·have H := Xl H bj;refine Xc (Xe (Xf (vb false) Z (Xb (Xn ?_))));have dd := bi.drop 0 Z;exact ⟨[vb false], ⟨_, Z, Z⟩, false, Z, H, dd.gr.g0⟩
  have H := Xm H bj;refine Xw (Xe ?_);obtain ⟨de, H⟩ := H;refine Xa (Ya v2 1 Z Z de) (Xd (vi (v2 + 1)) Z (Xb ?_));have df := bi.drop 0 Z;obtain ⟨dg, dh⟩ := H;have di := af.stn b2;have dk := bi.std 0 Z;have dl := ((((az.st a2).st a3).st di).st dk);exact ⟨v2 + 1, dh, dg, (Xx Z), df, dl⟩
 have H := Xm H ba;refine Yh (xin_hit ?_);refine Xc (Xe (Xd (G A1 n2 c3) Z ?_));have ek := az.le;exact Xa (X9 u23_ A1 n2 c3 az.len Z) (Xa (X0 (d.length : Int) 16 (decide ((d.length : Int) ≤ 16)) Z Z Z) (Xf (vb (decide ((d.length : Int) ≤ 16))) Z (Xb (Xn ⟨[vb (decide ((d.length : Int) ≤ 16))], ⟨_, Z, Z⟩, decide ((d.length : Int) ≤ 16), Z, H, a4.gr.g0⟩))))
section
section
variable {P : Program} {n : Nat} {N R : Ps} {X : Nat → Ps} {t : Tm} {w : World} {ops : Array Oper} {rest : List Oper} {ty : TypeId} {pos : String} {aft : Array Edge} {x y : Operand} {d : Nat} {C : World → Prop}
theorem Z9 {T e : TypeId} (hu : P.underlying T = some (.slice e)) (hx : evt n t x = .slice none 0 0) : Pu P n t C ⟨some d, .call ⟨.builtin .cap, #[x], #[T]⟩, ty, pos, aft, none⟩ (vi 0) := fun w hw => by
 simp [execOp, resolve, hx, invoke, builtin, Builtin.cap_, run_underlying hu]; rfl
theorem Kn {T e : TypeId} {s : Nat} (hu : P.underlying T = some (.slice e)) (hs : SizeOf P e s) {lo hi : Option Operand} (hx : evt n t x = .slice none 0 0) (hlo : bound n t lo 0 0) (hhi : bound n t hi ((0 : Nat) : Int) 0) :
  Pu P n t C ⟨some d, .slice T x lo hi none, ty, pos, aft, none⟩ (.slice none 0 0) := by
 have h := Zv (C := C) (d := d) (ty := ty) (pos := pos) (aft := aft) hu hs none 0 0 hx 0 0 hlo hhi ⟨Int.le_refl _, Int.le_refl _, Int.le_refl _⟩
 rw [show (0 : Int).toNat = 0 from rfl, sliced0] at h
 exact h
theorem run_append_zeros (T U e : TypeId) (i : TypeInfo) (z : Value) (k : IntKind) (ht : P.underlying T = some (.slice e)) (hu : P.underlying U = some (.int k)) (hi : P.info? e = some i) (hz : i.zero = some z) (m : Nat) (h0 : 0 < m) (hm : (m : Int) ≤ 268435456) (hb : i.bytes ≤ 524288) (hsz : 0 < i.size) :
  (Builtin.append_ #[T, U] ty #[.slice none 0 0, vi (m : Int)]).run P w = .ok (.slice (some ⟨w.heap.size, 0, none⟩) m (grownCap w m 0 e)) (w.drew.alloc (.cells (Builtin.zeroCells z.cells m ++ Builtin.zeroCells z.cells (grownCap w m 0 e - m)) e)) := by
 have hw : I64 (m : Int) := by unfold I64; omega
 have hn : m ≠ 0 := by omega
 have h1 : ¬ ((m : Int) < 0) := by omega
 have hmul : m * i.bytes ≤ 140737488355328 := Nat.le_trans (Nat.mul_le_mul (show m ≤ 268435456 by omega) hb) OM
 have h2 : ¬ ((281474976710656 : Int) < (m : Int) * (i.bytes : Int)) := by
  have : ((m * i.bytes : Nat) : Int) ≤ 140737488355328 := by omega
  rw [Int.natCast_mul] at this; omega
 have h63' : ¬ (9223372036854775807 < (m : Int)) := by omega
 have h48' : ¬ (281474976710656 < Builtin.nextslicecap m 0 * i.bytes) := by rw [nextslicecap_zero h0]; omega
 have hms : ¬ (m * i.size = 0) := by have := Nat.mul_pos h0 hsz; omega
 have hms2 : ¬ i.size = 0 := by omega
 simp [Builtin.append_, run_underlying ht, run_underlying hu, sizeOf, typeInfo, zeroValue, hi, hz, hn, h1, h2, h63', h48', hms2, Question.forced, run_firstCells_none, newRow, grownCap, hw.wrap, asInt, asIntOf]
 intro h; exact absurd h hms
theorem zero_list (zc : List Value) (hpos : 0 < zc.length) (m : Nat) : (Builtin.zeroCells zc.toArray m).toList = (List.replicate m zc).flatten := by
 have := made_list zc hpos m
 rw [← this]
 simp only [Builtin.zeroCells, madeCells, List.size_toArray]
theorem Ko {T U e : TypeId} {k0 : IntKind} {bytes : Nat} {zc : List Value} {α : Type} {kd : Kd α} (E : EI P T e kd.sz bytes zc) (hU : P.underlying U = some (.int k0)) {O M : Ob} {w0 : World} {mr : Ob} (hC : Ct mr w0 w M O) (z : α) (hz : kd.R w (Fr (M ++ O)) z zc) (m : Int) (hx : evt n t x = .slice none 0 0) (hy : evt n t y = vi m) (hm : 0 < m ∧ m ≤ 268435456)
  (k : ∀ w' A l c, Gr w w' none → (∀ b, bk A = some b → w.heap.size ≤ b) → Ct mr w0 w' (bk A :: M) O →
   Ow kd e w' (bk A :: M ++ O) (.slice A l c) (List.replicate m.toNat z) → L P n ops N R X rest (upd d (.slice A l c) t) w') :
  L P n ops N R X (⟨some d, .call ⟨.builtin .append, #[x, y], #[T, U]⟩, ty, pos, aft, none⟩ :: rest) t w := by
 obtain ⟨ti, zv, hti, hzv, hsz, hb, hzc⟩ := E.inf
 have hbb := E.byt
 have hmn : ((m.toNat : Nat) : Int) = m := by omega
 have hr := run_append_zeros (P := P) (w := w) (ty := ty) T U e ti zv k0 E.un hU hti hzv m.toNat OM OM OM (by rw [hsz]; exact E.pos)
 rw [hmn] at hr
 have hzl : zv.cells = zc.toArray := by rw [← hzc]
 have hpos : 0 < zc.length := by rw [E.len]; exact E.pos
 have harr := Arr.rep (w := w) z zc hz m.toNat
 have hal := harr.len
 rw [List.length_replicate] at hal
 have g : Gr w (w.drew.alloc (.cells (Builtin.zeroCells zv.cells m.toNat ++ Builtin.zeroCells zv.cells (grownCap w m.toNat 0 e - m.toNat)) e)) none := (Gr.drew w).t0 (Gr.alloc _ _)
 have hge := grownCap_ge w m.toNat 0 e
 have hle := grownCap_le_maxLen w m.toNat 0 e (by unfold maxLen; omega)
 have e1 : (Builtin.zeroCells zv.cells m.toNat).toList = (List.replicate m.toNat zc).flatten := by rw [hzl]; exact zero_list zc hpos _
 have e2 : (Builtin.zeroCells zv.cells (grownCap w m.toNat 0 e - m.toNat)).size = (grownCap w m.toNat 0 e - m.toNat) * kd.sz := by simp only [Builtin.zeroCells, Array.size_map, Array.size_range]; rw [hzl, List.size_toArray, E.len]
 have e3 : (Builtin.zeroCells zv.cells m.toNat).size = m.toNat * kd.sz := by simp only [Builtin.zeroCells, Array.size_map, Array.size_range]; rw [hzl, List.size_toArray, E.len]
 refine Zl rfl (.slice (some ⟨w.heap.size, 0, none⟩) (List.replicate m.toNat z).length (grownCap w m.toNat 0 e)) _ (by rw [List.length_replicate]; simp [execOp, resolve, hx, hy, invoke, builtin, hr]) (k _ (some ⟨w.heap.size, 0, none⟩) _ _ g (fun b e => by cases e; exact Nat.le_refl _)
  (hC.own g _ fun b e => by cases e; simp) ⟨(List.replicate m.toNat zc).flatten, ?_, ?_, fun b e => by rw [← e]; exact List.mem_cons_self⟩)
 ·rw [List.length_replicate]
  refine ⟨by rw [hal], .inr ⟨w.heap.size, grownCap w m.toNat 0 e, _, rfl, Nat.zero_le _, heap_alloc_new w.drew _, hge, hle, ?_, ?_⟩⟩
  ·rw [Array.size_append, e2, e3, ← Nat.add_mul]; congr 1; omega
  ·rw [Array.toList_append, e1, List.take_left']
   rw [hal]
 ·exact (harr.mono fun b hS hb => (⟨hS, hb⟩ : some b ∉ M ++ O ∧ b < w.heap.size)).keep (fun b hS hb => g.block b hb (by simp)) |>.mono fun b hS _ hm => by
   rcases List.mem_cons.1 hm with e' | hm
   ·cases e'; exact absurd hS.2 (Nat.lt_irrefl _)
   ·exact hS.1 hm
end
end
def F7.E (n : Int) (Q : List Change → Prop) : Prop :=
 (if decide (n < 0) then False else (I64 (0 - 0)) ∧ (I64 (n - (0 - 0))) ∧ (if decide (n - (0 - 0) > 0) then ((0 : Int) < n - (0 - 0) ∧ n - (0 - 0) ≤ (268435456 : Int)) ∧ ((0 : Int) ≤ 0 ∧ 0 ≤ ((List.replicate (n - (0 - 0)).toNat ((⟨[], false, (⟨[], (⟨0, []⟩ : Shape), []⟩ : Feat), false, (⟨[], (⟨0, []⟩ : Shape), []⟩ : Feat)⟩ : Change) : Change)).length : Int)) ∧ Q ((List.replicate (n - (0 - 0)).toNat ((⟨[], false, (⟨[], (⟨0, []⟩ : Shape), []⟩ : Feat), false, (⟨[], (⟨0, []⟩ : Shape), []⟩ : Feat)⟩ : Change) : Change)).take (0 : Int).toNat) else Q []))
theorem F7.calls {n : Int} {Q : List Change → Prop} (H : F7.E n Q) (hO : Ok w0 O) :
  Ret Tryz.prog 108 [G none 0 0, vi n] w0 (fun v w' => ∃ (r0 : List Change) (Aw0 : Option Addr) (nw0 cw0 : Nat), v = G Aw0 nw0 cw0 ∧ Q r0 ∧ Gk w0 w' [bk Aw0] O (Ow kChange 62 w' ([bk Aw0] ++ O) (G Aw0 nw0 cw0) r0)) := by
 unfold F7.E at H;have hc0 := Ct.init hO;refine Yb Tryz.func108 Z 27 Z [.tmp 4] Z Z ?_;refine Xc (Xe (Xf (G none 0 0) Z (Xb (Xc (Xc (Xe (Xd (vi n) Z (Xa (X0 n 0 (decide (n < 0)) Z Z Z) ?_))))))));refine Xb ?_;refine Xu (decide (n < 0)) Z (fun hq1 => ?_) (fun hq1 => ?_)
 ·have H := Xl H hq1;exact False.elim H
 have H := Xm H hq1;refine Xw (Xc (Xc (Xe (Xd (vi n) Z (Xd (G none 0 0) Z (Xa (Z9 u23_ Z) (Xd (G none 0 0) Z (Xa (X9 u23_ none 0 0 Z Z) ?_))))))));obtain ⟨hb2, H⟩ := H;refine Xa (Y1 0 0 Z Z hb2) ?_;obtain ⟨hb3, H⟩ := H;refine Xa (Y1 n (0 - 0) Z Z hb3) (Xf (vi (n - (0 - 0))) Z (Xb (Xc (Xe (Xd (vi (n - (0 - 0))) Z (Xa (X0 (n - (0 - 0)) 0 (decide (n - (0 - 0) > 0)) Z Z Z) (Xb ?_)))))));refine Xu (decide (n - (0 - 0) > 0)) Z (fun hq4 => ?_) (fun hq4 => ?_)
 ·have H := Xl H hq4;refine Xe (Xd (G none 0 0) Z (Xd (G none 0 0) Z (Xa (Z9 u23_ Z) (Xa (Kn u23_ Yi Z Z Z) (Xd (vi (n - (0 - 0))) Z ?_)))));obtain ⟨hb5, H⟩ := H;refine Ko (kd := kChange) Yd u3_ hc0 ((⟨([] : Str), false, (⟨([] : Str), (⟨0, []⟩ : Shape), []⟩ : Feat), false, (⟨([] : Str), (⟨0, []⟩ : Shape), []⟩ : Feat)⟩ : Change) : Change) ((kChange.mk _ _ (⟨([] : Str), false, (⟨([] : Str), (⟨0, []⟩ : Shape), []⟩ : Feat), false, (⟨([] : Str), (⟨0, []⟩ : Shape), []⟩ : Feat)⟩ : Change) RD RD (Sl.nil _ _ _ none 0 RD) (Sl.nil _ _ _ none 0 RD) RD (Sl.nil _ _ _ none 0 RD) (Sl.nil _ _ _ none 0 RD))) (n - (0 - 0)) Z Z hb5 fun w6 A7 n8 c9 ah hr11 ab ad => ?_;refine Xd (G none 0 0) Z (Xa (X9 u23_ none 0 0 Z Z) ?_);obtain ⟨ae, H⟩ := H;refine Kh u23_ Yi A7 n8 c9 (List.replicate (n - (0 - 0)).toNat ((⟨([] : Str), false, (⟨([] : Str), (⟨0, []⟩ : Shape), []⟩ : Feat), false, (⟨([] : Str), (⟨0, []⟩ : Shape), []⟩ : Feat)⟩ : Change) : Change)) Z ad 0 Z Z ae fun aa af => ?_;exact Xf (G A7 aa c9) Z (Xb (Xc (Xe (Xd (G A7 aa c9) Z (Xf (G A7 aa c9) Z (Xb (Xn ⟨[G A7 aa c9], ⟨_, Z, Z⟩, ((List.replicate (n - (0 - 0)).toNat ((⟨([] : Str), false, (⟨([] : Str), (⟨0, []⟩ : Shape), []⟩ : Feat), false, (⟨([] : Str), (⟨0, []⟩ : Shape), []⟩ : Feat)⟩ : Change) : Change)).take (0 : Int).toNat), A7, aa, c9, Z, H, ab.gr.g0, ab.ok, ab.ge, af⟩)))))))
 have H := Xm H hq4;refine Xw (Xc (Xe (Xd (G none 0 0) Z (Xf (G none 0 0) Z (Xb (Xn ?_))))));have ac := hc0.own (Gr.refl _ none) none (by simp);have ag : Ow kChange 62 w0 ([bk none] ++ O) (G none 0 0) [] := Ow.nil _ _ _ _;exact ⟨[G none 0 0], ⟨_, Z, Z⟩, ([] : List Change), none, 0, 0, Z, H, ac.gr.g0, ac.ok, ac.ge, ag⟩
def F4.E (slices : List (List Change)) (Q : List Change → Prop) : Prop :=
 (∃ (I19 : Int → Int → Prop) (mu20 : Int → Int → Nat), I19 0 0 ∧ ∀ (size2 v2 : Int), I19 size2 v2 → (if decide (v2 < (slices.length : Int)) then ((0 : Int) ≤ v2 ∧ v2 < (slices.length : Int)) ∧ (((nth slices v2).length : Int) ≤ 9223372036854775807 → I64 (size2 + ((nth slices v2).length : Int))) ∧ (if decide (size2 + ((nth slices v2).length : Int) < 0) then False else (((nth slices v2).length : Int) ≤ 9223372036854775807 → I64 (v2 + 1)) ∧ I19 (size2 + ((nth slices v2).length : Int)) (v2 + 1) ∧ mu20 (size2 + ((nth slices v2).length : Int)) (v2 + 1) < mu20 size2 v2) else F7.E size2 (fun r => (∃ (I83 : (List Change) → Int → Prop) (mu84 : (List Change) → Int → Nat), I83 r 0 ∧ ∀ (xs2 : List Change) (v4 : Int), I83 xs2 v4 → (if decide (v4 < (slices.length : Int)) then ((0 : Int) ≤ v4 ∧ v4 < (slices.length : Int)) ∧ (xs2.length + (nth slices v4).length ≤ 268435456) ∧ (I64 (v4 + 1)) ∧ I83 (xs2 ++ (nth slices v4)) (v4 + 1) ∧ mu84 (xs2 ++ (nth slices v4)) (v4 + 1) < mu84 xs2 v4 else Q xs2)))))
theorem F4.calls {slices : List (List Change)} {A1 : Option Addr} {n2 c3 : Nat} {Q : List Change → Prop} (H : F4.E slices Q) (hO : Ok w0 O) (hp4 : Sl (Kd.sl kChange) w0 (Fr O) (G A1 n2 c3) slices) :
  Ret Tryz.prog 54 [G A1 n2 c3] w0 (fun v w' => ∃ (r0 : List Change) (Aw0 : Option Addr) (nw0 cw0 : Nat), v = G Aw0 nw0 cw0 ∧ Q r0 ∧ Gk w0 w' [bk Aw0] O (Ow kChange 62 w' ([bk Aw0] ++ O) (G Aw0 nw0 cw0) r0)) := by
 unfold F4.E at H;have hc0 := Ct.init hO;refine Yb Tryz.func54 Z 36 Z [.tmp 2] Z Z ?_;refine Xc (Xe (Xf (G none 0 0) Z (Xb (Xc (Xe (Xf (vi 0) Z (Xb (Xc ?_))))))));refine Xc (Xe (Xd (G A1 n2 c3) Z ?_));have hl6 := hp4.le;refine Xa (X9 u128_ A1 n2 c3 hp4.len Z) (Xd (vi 0) Z (Xb (X6 ?_)));obtain ⟨bc, bd, ao, H⟩ := H;refine Yj (α := Int × Int) (fun (size2, v2) t ae => bc size2 v2 ∧ Has t [(0, G A1 n2 c3), (3, vi size2), (9, G A1 n2 c3), (10, vi (slices.length : Int)), (11, vi v2)] ∧ Ct [] w0 ae [] O ∧ Sl (Kd.sl kChange) ae (Fr ([] ++ O)) (G A1 n2 c3) slices) (fun (size2, v2) => bd size2 v2) (0, 0) ⟨ao, (Xx Z), hc0, hp4⟩ ?_;rintro ⟨size2, v2⟩ _ ae ⟨ao, be, af, ad⟩;obtain ⟨b7, rfl⟩ := Has.ins be;have H := H size2 v2 ao;refine Xc (Xe (Xa (X0 v2 (slices.length : Int) (decide (v2 < (slices.length : Int))) Z Z Z) (Xb (Xc ?_))));refine Xu (decide (v2 < (slices.length : Int))) Z (fun ap => ?_) (fun ap => ?_)
 ·have H := Xl H ap;refine Xw (Xc (X6 (Xc (Xe ?_))));obtain ⟨ax, H⟩ := H;obtain ⟨ay, b8, bf, b9, bg, bh⟩ := ad.get default RD v2 ax;obtain ⟨ag, ah, ai, rfl, az⟩ := Kd.sl.op bg;refine Xa (X3 u128_ Z8 A1 ay n2 c3 ad.len v2 Z bf Z ax) (Xa (Xo ag23 cL (ay.add (v2.toNat * 1)) (G ag ah ai) Z (bh 0 _ Z)) (Xf (G ag ah ai) Z (Xb (Xc (Xe (Xd (vi size2) Z (Xd (G ag ah ai) Z ?_)))))));have a0 := az.le;refine Xa (X9 u23_ ag ah ai az.len Z) ?_;obtain ⟨bi, H⟩ := H;have bj := bi (len_le a0);refine Xa (Ya size2 ((nth slices v2).length : Int) Z Z bj) (Xf (vi (size2 + ((nth slices v2).length : Int))) Z (Xb (Xc (Xe (Xd (vi (size2 + ((nth slices v2).length : Int))) Z (Xa (X0 (size2 + ((nth slices v2).length : Int)) 0 (decide (size2 + ((nth slices v2).length : Int) < 0)) Z Z Z) (Xb ?_)))))));refine Xu (decide (size2 + ((nth slices v2).length : Int) < 0)) Z (fun aq => ?_) (fun aq => ?_)
  ·have H := Xl H aq;exact False.elim H
  have H := Xm H aq;refine Xw (Xe ?_);obtain ⟨bl, H⟩ := H;have bm := bl (len_le a0);refine Xa (Ya v2 1 Z Z bm) (Xd (vi (v2 + 1)) Z (Xb ?_));obtain ⟨bn, bo⟩ := H;exact ⟨(size2 + ((nth slices v2).length : Int), v2 + 1), bo, bn, (Xx Z), af, ad⟩
 have H := Xm H ap;refine Yh (xin_hit ?_);refine Xc (Xe (Xd (vi size2) Z ?_));refine Xs go108 (F7.calls H af.ok) Z ?_;rintro _ ca ⟨r, a1, a2, a3, rfl, H, a4, bp, a5, bq⟩;have br := af.owns a4 bp a5;refine Xf (G a1 a2 a3) Z (Xb (Xc (Xc (Xe (Xd (G A1 n2 c3) Z ?_)))));have ar := af.stos a4 a5;have cb := (ad.st ar).le;refine Xa (X9 u128_ A1 n2 c3 (ad.st ar).len Z) (Xd (vi 0) Z (Xb (X6 ?_)));obtain ⟨bs, bt, au, H⟩ := H;refine Yj (α := (List Change) × (Option Addr) × Nat × Nat × Int) (fun (xs2, aa, ab, ac, v4) t aj => bs xs2 v4 ∧ Has t [(6, G aa ab ac), (25, G A1 n2 c3), (26, vi (slices.length : Int)), (27, vi v4)] ∧ Cw [] w0 aj [bk aa] O fun M => Sl (Kd.sl kChange) aj (Fr M) (G A1 n2 c3) slices ∧ Ow kChange 62 aj M (G aa ab ac) xs2) (fun (xs2, _, _, _, v4) => bt xs2 v4) (r, a1, a2, a3, 0) ⟨au, (Xx Z), br, (ad.st ar), bq⟩ ?_;rintro ⟨xs2, aa, ab, ac, v4⟩ _ aj ⟨au, bu, ak, av, a6⟩;obtain ⟨cc, rfl⟩ := Has.ins bu;have H := H xs2 v4 au;refine Xc (Xe (Xa (X0 v4 (slices.length : Int) (decide (v4 < (slices.length : Int))) Z Z Z) (Xb (Xc ?_))));refine Xu (decide (v4 < (slices.length : Int))) Z (fun aw => ?_) (fun aw => ?_)
 ·have H := Xl H aw;refine Xw (Xc (X6 (Xc (Xe ?_))));obtain ⟨a7, H⟩ := H;obtain ⟨a8, cd, bv, ce, bw, bx⟩ := av.get default RD v4 a7;obtain ⟨al, am, an, rfl, bz⟩ := Kd.sl.op bw;refine Xa (X3 u128_ Z8 A1 a8 n2 c3 av.len v4 Z bv Z a7) (Xa (Xo ag23 cL (a8.add (v4.toNat * 1)) (G al am an) Z (bx 0 _ Z)) (Xf (G al am an) Z (Xb (Xe (Xd (G aa ab ac) Z (Xd (G al am an) Z ?_))))));obtain ⟨b0, H⟩ := H;refine Yc Yd ak (G aa ab ac) xs2 (nth slices v4) Z a6 (G al am an) Z bz.sx 0 Z b0 fun cf a9 ba bb cg b1 b2 b3 => ?_;refine Xf (G a9 ba bb) Z (Xb (Xe ?_));obtain ⟨b4, H⟩ := H;refine Xa (Ya v4 1 Z Z b4) (Xd (vi (v4 + 1)) Z (Xb ?_));obtain ⟨b5, b6⟩ := H;exact ⟨((xs2 ++ (nth slices v4)), a9, ba, bb, v4 + 1), b6, b5, (Xx Z), b2, (av.st b1), b3⟩
 have H := Xm H aw;refine Yh (xin_hit ?_);exact Xc (Xe (Xd (G aa ab ac) Z (Xf (G aa ab ac) Z (Xb (Xn ⟨[G aa ab ac], ⟨_, Z, Z⟩, xs2, aa, ab, ac, Z, H, ak.gr.g0, ak.ok, ak.ge, a6⟩)))))
end Go.Proofs.YtlaaehjcooonfaaGreatDoor
namespace Go.Proofs
open Go.Shelf
def Tryz.lays317_ren : Go.Shelf.Ren := ⟨fun | 317 => 187 | n => n, fun | 3 => 3 | 46 => 132 | n => n, fun | n => n⟩
theorem Tryz.lays317 : Go.Proofs.Lays.n317 Tryz.prog Tryz.lays317_ren := {
  mixed := by kernel_rfl
  f317 := Tryz.func187.trans (congrArg some (by kernel_rfl))
  t3 := Tryz.underlying3
  a3 := Tryz.isAgg3
  z3 := Tryz.sizeOf3
  v3 := Tryz.zeroValue3
  t46 := Tryz.underlying132
  a46 := Tryz.isAgg132
  z46 := Tryz.sizeOf132
  v46 := Tryz.zeroValue132 }
open Go.Lib in
theorem Tryz.internal_strconv_log10Pow2 (x : Nat) (h : x ≤ 64) (w : World) :
    Calls Tryz.prog 187 #[.int .i64 x] w fun e w' => e = .returned (.int .i64 (Lib.l10 x)) ∧ w' = w := Any.internal_strconv_log10Pow2 Tryz.lays317 x h w
def Tryz.lays318_ren : Go.Shelf.Ren := ⟨fun | 318 => 188 | n => n, fun | 3 => 3 | 4 => 4 | n => n, fun | n => n⟩
theorem Tryz.lays318 : Go.Proofs.Lays.n318 Tryz.prog Tryz.lays318_ren := {
  mixed := by kernel_rfl
  f318 := Tryz.func188.trans (congrArg some (by kernel_rfl))
  t3 := Tryz.underlying3
  a3 := Tryz.isAgg3
  z3 := Tryz.sizeOf3
  v3 := Tryz.zeroValue3
  t4 := Tryz.underlying4
  a4 := Tryz.isAgg4
  z4 := Tryz.sizeOf4
  v4 := Tryz.zeroValue4 }
open Go.Lib in
theorem Tryz.internal_strconv_bool2_int (b : Bool) (w : World) :
    Calls Tryz.prog 188 #[.bool b] w fun e w' => e = .returned (.int .i64 (if b then 1 else 0)) ∧ w' = w := Any.internal_strconv_bool2_int Tryz.lays318 b w
def Tryz.lays283_ren : Go.Shelf.Ren := ⟨fun | 283 => 181 | n => n, fun | 3 => 3 | 9 => 9 | 4 => 4 | n => n, fun | n => n⟩
theorem Tryz.lays283 : Go.Proofs.Lays.n283 Tryz.prog Tryz.lays283_ren := {
  mixed := by kernel_rfl
  f283 := Tryz.func181.trans (congrArg some (by kernel_rfl))
  t3 := Tryz.underlying3
  a3 := Tryz.isAgg3
  z3 := Tryz.sizeOf3
  v3 := Tryz.zeroValue3
  t4 := Tryz.underlying4
  a4 := Tryz.isAgg4
  z4 := Tryz.sizeOf4
  v4 := Tryz.zeroValue4
  t9 := Tryz.underlying9
  a9 := Tryz.isAgg9
  z9 := Tryz.sizeOf9
  v9 := Tryz.zeroValue9 }
open Go.Lib in
theorem Tryz.internal_strconv_small (i : Nat) (h : i < 100) (w : World) :
    Calls Tryz.prog 181 #[.int .i64 i] w fun e w' => e = .returned (.string ⟨(Lib.decDigits i).toArray⟩) ∧ w' = w := Any.internal_strconv_small Tryz.lays283 i h w
def Tryz.laysM284_ren : Go.Shelf.Ren := ⟨fun | 284 => 182 | 129 => 145 | 317 => 187 | 318 => 188 | n => n, fun | 53 => 165 | 3 => 3 | 212 => 202 | 0 => 0 | 4 => 4 | 46 => 132 | 5 => 5 | 9 => 9 | n => n, fun | 17 => 1 | n => n⟩
theorem Tryz.laysM284 : Go.Proofs.LaysM.n284 Tryz.prog Tryz.laysM284_ren := {
  mixed := by kernel_rfl
  f129 := Tryz.func145.trans (congrArg some (by kernel_rfl))
  f284 := Tryz.func182.trans (congrArg some (by kernel_rfl))
  f317 := Tryz.func187.trans (congrArg some (by kernel_rfl))
  f318 := Tryz.func188.trans (congrArg some (by kernel_rfl))
  t0 := Tryz.underlying0
  a0 := Tryz.isAgg0
  z0 := Tryz.sizeOf0
  v0 := Tryz.zeroValue0
  t3 := Tryz.underlying3
  a3 := Tryz.isAgg3
  z3 := Tryz.sizeOf3
  v3 := Tryz.zeroValue3
  t4 := Tryz.underlying4
  a4 := Tryz.isAgg4
  z4 := Tryz.sizeOf4
  v4 := Tryz.zeroValue4
  t5 := Tryz.underlying5
  a5 := Tryz.isAgg5
  z5 := Tryz.sizeOf5
  v5 := Tryz.zeroValue5
  t9 := Tryz.underlying9
  a9 := Tryz.isAgg9
  z9 := Tryz.sizeOf9
  v9 := Tryz.zeroValue9
  t46 := Tryz.underlying132
  a46 := Tryz.isAgg132
  z46 := Tryz.sizeOf132
  v46 := Tryz.zeroValue132
  t53 := Tryz.underlying165
  a53 := Tryz.isAgg165
  z53 := Tryz.sizeOf165
  v53 := Tryz.zeroValue165
  t212 := Tryz.underlying202
  a212 := Tryz.isAgg202
  z212 := Tryz.sizeOf202
  v212 := Tryz.zeroValue202
  g17 := by kernel_rfl
  i0 := by kernel_rfl
  i3 := by kernel_rfl
  i4 := by kernel_rfl
  i5 := by kernel_rfl
  i9 := by kernel_rfl
  i46 := by kernel_rfl
  i53 := by kernel_rfl
  i212 := by kernel_rfl
  m17 := by kernel_rfl }
open Go.Lib in
theorem Tryz.internal_strconv_numDigits (u : Nat) (h1 : 1 ≤ u) (h2 : u < 18446744073709551616) (w : World) (htab : Lib.TabIs Tryz.prog w "internal/strconv.uint64pow10" .u64 Lib.pow10Tab) :
    Calls Tryz.prog 182 #[.int .u64 u] w fun e w' => e = .returned (.int .i64 (Lib.nDigits u)) ∧ w' = w := Any.internal_strconv_numDigits Tryz.laysM284 u h1 h2 w htab
def Tryz.lays285_ren : Go.Shelf.Ren := ⟨fun | 285 => 183 | n => n, fun | 37 => 22 | 53 => 165 | 3 => 3 | 4 => 4 | 51 => 163 | 9 => 9 | 5 => 5 | 0 => 0 | n => n, fun | n => n⟩
theorem Tryz.lays285 : Go.Proofs.Lays.n285 Tryz.prog Tryz.lays285_ren := {
  mixed := by kernel_rfl
  f285 := Tryz.func183.trans (congrArg some (by kernel_rfl))
  t0 := Tryz.underlying0
  a0 := Tryz.isAgg0
  z0 := Tryz.sizeOf0
  v0 := Tryz.zeroValue0
  t3 := Tryz.underlying3
  a3 := Tryz.isAgg3
  z3 := Tryz.sizeOf3
  v3 := Tryz.zeroValue3
  t4 := Tryz.underlying4
  a4 := Tryz.isAgg4
  z4 := Tryz.sizeOf4
  v4 := Tryz.zeroValue4
  t5 := Tryz.underlying5
  a5 := Tryz.isAgg5
  z5 := Tryz.sizeOf5
  v5 := Tryz.zeroValue5
  t9 := Tryz.underlying9
  a9 := Tryz.isAgg9
  z9 := Tryz.sizeOf9
  v9 := Tryz.zeroValue9
  t37 := Tryz.underlying22
  a37 := Tryz.isAgg22
  z37 := Tryz.sizeOf22
  v37 := Tryz.zeroValue22
  t51 := Tryz.underlying163
  a51 := Tryz.isAgg163
  z51 := Tryz.sizeOf163
  v51 := Tryz.zeroValue163
  t53 := Tryz.underlying165
  a53 := Tryz.isAgg165
  z53 := Tryz.sizeOf165
  v53 := Tryz.zeroValue165 }
open Go.RowKit Go.Sort Go.Lib in
theorem Tryz.internal_strconv_formatBase10 (blk off cap : Nat) (u : Nat) (d : Array UInt8) (w : World) (hH : Holds (fun (b : UInt8) => Value.int .u8 (b.toNat : Int)) w blk off d) (hu : u < 10 ^ d.size) (hu64 : u < 18446744073709551616) (hsz : d.size < 4611686018427387904) :
    Calls Tryz.prog 183 #[.slice (some ⟨blk, off, none⟩) d.size cap, .int .u64 u] w fun e w' =>
      e = .returned (.tuple #[]) ∧ ∃ (n v' : Nat) (dk : Array UInt8), w' = (putRow (fun (b : UInt8) => Value.int .u8 (b.toNat : Int)) w blk off dk).drewN n ∧ FmtInv d.size u 0 v' dk := Any.internal_strconv_formatBase10 Tryz.lays285 blk off cap u d w hH hu hu64 hsz
def Tryz.laysM246_ren : Go.Shelf.Ren := ⟨fun | 246 => 174 | 283 => 181 | 284 => 182 | 285 => 183 | 286 => 184 | 129 => 145 | 317 => 187 | 318 => 188 | 319 => 189 | 320 => 190 | 337 => 191 | 338 => 192 | n => n, fun | 2 => 2 | 3 => 3 | 9 => 9 | 4 => 4 | 171 => 196 | 0 => 0 | 53 => 165 | 37 => 22 | 5 => 5 | 173 => 198 | 212 => 202 | 51 => 163 | 20 => 20 | 213 => 203 | 46 => 132 | 232 => 204 | 233 => 205 | n => n, fun | 17 => 1 | 18 => 2 | 19 => 3 | n => n⟩
theorem Tryz.laysM246 : Go.Proofs.LaysM.n246 Tryz.prog Tryz.laysM246_ren := {
  mixed := by kernel_rfl
  f129 := Tryz.func145.trans (congrArg some (by kernel_rfl))
  f246 := Tryz.func174.trans (congrArg some (by kernel_rfl))
  f283 := Tryz.func181.trans (congrArg some (by kernel_rfl))
  f284 := Tryz.func182.trans (congrArg some (by kernel_rfl))
  f285 := Tryz.func183.trans (congrArg some (by kernel_rfl))
  f286 := Tryz.func184.trans (congrArg some (by kernel_rfl))
  f317 := Tryz.func187.trans (congrArg some (by kernel_rfl))
  f318 := Tryz.func188.trans (congrArg some (by kernel_rfl))
  f319 := Tryz.func189.trans (congrArg some (by kernel_rfl))
  f320 := Tryz.func190.trans (congrArg some (by kernel_rfl))
  f337 := Tryz.func191.trans (congrArg some (by kernel_rfl))
  f338 := Tryz.func192.trans (congrArg some (by kernel_rfl))
  t0 := Tryz.underlying0
  a0 := Tryz.isAgg0
  z0 := Tryz.sizeOf0
  v0 := Tryz.zeroValue0
  t2 := Tryz.underlying2
  a2 := Tryz.isAgg2
  z2 := Tryz.sizeOf2
  v2 := Tryz.zeroValue2
  t3 := Tryz.underlying3
  a3 := Tryz.isAgg3
  z3 := Tryz.sizeOf3
  v3 := Tryz.zeroValue3
  t4 := Tryz.underlying4
  a4 := Tryz.isAgg4
  z4 := Tryz.sizeOf4
  v4 := Tryz.zeroValue4
  t5 := Tryz.underlying5
  a5 := Tryz.isAgg5
  z5 := Tryz.sizeOf5
  v5 := Tryz.zeroValue5
  t9 := Tryz.underlying9
  a9 := Tryz.isAgg9
  z9 := Tryz.sizeOf9
  v9 := Tryz.zeroValue9
  t20 := Tryz.underlying20
  a20 := Tryz.isAgg20
  z20 := Tryz.sizeOf20
  v20 := Tryz.zeroValue20
  t37 := Tryz.underlying22
  a37 := Tryz.isAgg22
  z37 := Tryz.sizeOf22
  v37 := Tryz.zeroValue22
  t46 := Tryz.underlying132
  a46 := Tryz.isAgg132
  z46 := Tryz.sizeOf132
  v46 := Tryz.zeroValue132
  t51 := Tryz.underlying163
  a51 := Tryz.isAgg163
  z51 := Tryz.sizeOf163
  v51 := Tryz.zeroValue163
  t53 := Tryz.underlying165
  a53 := Tryz.isAgg165
  z53 := Tryz.sizeOf165
  v53 := Tryz.zeroValue165
  t171 := Tryz.underlying196
  a171 := Tryz.isAgg196
  z171 := Tryz.sizeOf196
  v171 := Tryz.zeroValue196
  t173 := Tryz.underlying198
  a173 := Tryz.isAgg198
  z173 := Tryz.sizeOf198
  v173 := Tryz.zeroValue198
  t212 := Tryz.underlying202
  a212 := Tryz.isAgg202
  z212 := Tryz.sizeOf202
  v212 := Tryz.zeroValue202
  t213 := Tryz.underlying203
  a213 := Tryz.isAgg203
  z213 := Tryz.sizeOf203
  t232 := Tryz.underlying204
  a232 := Tryz.isAgg204
  z232 := Tryz.sizeOf204
  v232 := Tryz.zeroValue204
  t233 := Tryz.underlying205
  a233 := Tryz.isAgg205
  z233 := Tryz.sizeOf205
  v233 := Tryz.zeroValue205
  g17 := by kernel_rfl
  g18 := by kernel_rfl
  g19 := by kernel_rfl
  i0 := by kernel_rfl
  i2 := by kernel_rfl
  i3 := by kernel_rfl
  i4 := by kernel_rfl
  i5 := by kernel_rfl
  i9 := by kernel_rfl
  i20 := by kernel_rfl
  i37 := by kernel_rfl
  i46 := by kernel_rfl
  i51 := by kernel_rfl
  i53 := by kernel_rfl
  i171 := by kernel_rfl
  i173 := by kernel_rfl
  i212 := by kernel_rfl
  i232 := by kernel_rfl
  i233 := by kernel_rfl
  m17 := by kernel_rfl
  m18 := by kernel_rfl
  m19 := by kernel_rfl }
open Go.RowKit Go.Sort Go.Lib in
theorem Tryz.internal_strconv_FormatInt_10 (n : Int) (h0 : -9223372036854775808 ≤ n) (h1 : n ≤ 9223372036854775807) (w : World) (htab : Lib.TabIs Tryz.prog w "internal/strconv.uint64pow10" .u64 Lib.pow10Tab) :
    Calls Tryz.prog 174 #[.int .i64 n, .int .i64 10] w fun e w' => e = .returned (.string ⟨(Lib.itoa n).toArray⟩) ∧ ∃ k os, w' = grow (w.drewN k) os := Any.internal_strconv_FormatInt_10 Tryz.laysM246 n h0 h1 w htab
def Tryz.lays246_ren : Go.Shelf.Ren := ⟨fun | 246 => 174 | 283 => 181 | 284 => 182 | 285 => 183 | 286 => 184 | 129 => 145 | 317 => 187 | 318 => 188 | 319 => 189 | 320 => 190 | 337 => 191 | 338 => 192 | n => n, fun | 2 => 2 | 3 => 3 | 9 => 9 | 4 => 4 | 171 => 196 | 0 => 0 | 53 => 165 | 37 => 22 | 5 => 5 | 173 => 198 | 212 => 202 | 51 => 163 | 20 => 20 | 213 => 203 | 46 => 132 | 232 => 204 | 233 => 205 | n => n, fun | 17 => 1 | 18 => 2 | 19 => 3 | n => n⟩
theorem Tryz.lays246 : Go.Proofs.Lays.n246 Tryz.prog Tryz.lays246_ren := {
  mixed := by kernel_rfl
  f129 := Tryz.func145.trans (congrArg some (by kernel_rfl))
  f246 := Tryz.func174.trans (congrArg some (by kernel_rfl))
  f283 := Tryz.func181.trans (congrArg some (by kernel_rfl))
  f284 := Tryz.func182.trans (congrArg some (by kernel_rfl))
  f285 := Tryz.func183.trans (congrArg some (by kernel_rfl))
  f286 := Tryz.func184.trans (congrArg some (by kernel_rfl))
  f317 := Tryz.func187.trans (congrArg some (by kernel_rfl))
  f318 := Tryz.func188.trans (congrArg some (by kernel_rfl))
  f319 := Tryz.func189.trans (congrArg some (by kernel_rfl))
  f320 := Tryz.func190.trans (congrArg some (by kernel_rfl))
  f337 := Tryz.func191.trans (congrArg some (by kernel_rfl))
  f338 := Tryz.func192.trans (congrArg some (by kernel_rfl))
  t0 := Tryz.underlying0
  a0 := Tryz.isAgg0
  z0 := Tryz.sizeOf0
  v0 := Tryz.zeroValue0
  t2 := Tryz.underlying2
  a2 := Tryz.isAgg2
  z2 := Tryz.sizeOf2
  v2 := Tryz.zeroValue2
  t3 := Tryz.underlying3
  a3 := Tryz.isAgg3
  z3 := Tryz.sizeOf3
  v3 := Tryz.zeroValue3
  t4 := Tryz.underlying4
  a4 := Tryz.isAgg4
  z4 := Tryz.sizeOf4
  v4 := Tryz.zeroValue4
  t5 := Tryz.underlying5
  a5 := Tryz.isAgg5
  z5 := Tryz.sizeOf5
  v5 := Tryz.zeroValue5
  t9 := Tryz.underlying9
  a9 := Tryz.isAgg9
  z9 := Tryz.sizeOf9
  v9 := Tryz.zeroValue9
  t20 := Tryz.underlying20
  a20 := Tryz.isAgg20
  z20 := Tryz.sizeOf20
  v20 := Tryz.zeroValue20
  t37 := Tryz.underlying22
  a37 := Tryz.isAgg22
  z37 := Tryz.sizeOf22
  v37 := Tryz.zeroValue22
  t46 := Tryz.underlying132
  a46 := Tryz.isAgg132
  z46 := Tryz.sizeOf132
  v46 := Tryz.zeroValue132
  t51 := Tryz.underlying163
  a51 := Tryz.isAgg163
  z51 := Tryz.sizeOf163
  v51 := Tryz.zeroValue163
  t53 := Tryz.underlying165
  a53 := Tryz.isAgg165
  z53 := Tryz.sizeOf165
  v53 := Tryz.zeroValue165
  t171 := Tryz.underlying196
  a171 := Tryz.isAgg196
  z171 := Tryz.sizeOf196
  v171 := Tryz.zeroValue196
  t173 := Tryz.underlying198
  a173 := Tryz.isAgg198
  z173 := Tryz.sizeOf198
  v173 := Tryz.zeroValue198
  t212 := Tryz.underlying202
  a212 := Tryz.isAgg202
  z212 := Tryz.sizeOf202
  v212 := Tryz.zeroValue202
  t213 := Tryz.underlying203
  a213 := Tryz.isAgg203
  z213 := Tryz.sizeOf203
  t232 := Tryz.underlying204
  a232 := Tryz.isAgg204
  z232 := Tryz.sizeOf204
  v232 := Tryz.zeroValue204
  t233 := Tryz.underlying205
  a233 := Tryz.isAgg205
  z233 := Tryz.sizeOf205
  v233 := Tryz.zeroValue205
  g17 := by kernel_rfl
  g18 := by kernel_rfl
  g19 := by kernel_rfl }
open Go.RowKit Go.Sort Go.Lib in
theorem Tryz.internal_strconv_FormatInt_10_small (i : Nat) (hi : i < 100) (w : World) :
    Calls Tryz.prog 174 #[.int .i64 i, .int .i64 10] w fun e w' => e = .returned (.string ⟨(Lib.decDigits i).toArray⟩) ∧ w' = w := Any.internal_strconv_FormatInt_10_small Tryz.lays246 i hi w
def Tryz.laysM243_ren : Go.Shelf.Ren := ⟨fun | 243 => 154 | 246 => 174 | 283 => 181 | 284 => 182 | 285 => 183 | 286 => 184 | 129 => 145 | 317 => 187 | 318 => 188 | 319 => 189 | 320 => 190 | 337 => 191 | 338 => 192 | n => n, fun | 3 => 3 | 9 => 9 | 2 => 2 | 4 => 4 | 171 => 196 | 0 => 0 | 53 => 165 | 37 => 22 | 5 => 5 | 173 => 198 | 212 => 202 | 51 => 163 | 20 => 20 | 213 => 203 | 46 => 132 | 232 => 204 | 233 => 205 | n => n, fun | 17 => 1 | 18 => 2 | 19 => 3 | n => n⟩
theorem Tryz.laysM243 : Go.Proofs.LaysM.n243 Tryz.prog Tryz.laysM243_ren := {
  mixed := by kernel_rfl
  f129 := Tryz.func145.trans (congrArg some (by kernel_rfl))
  f243 := Tryz.func154.trans (congrArg some (by kernel_rfl))
  f246 := Tryz.func174.trans (congrArg some (by kernel_rfl))
  f283 := Tryz.func181.trans (congrArg some (by kernel_rfl))
  f284 := Tryz.func182.trans (congrArg some (by kernel_rfl))
  f285 := Tryz.func183.trans (congrArg some (by kernel_rfl))
  f286 := Tryz.func184.trans (congrArg some (by kernel_rfl))
  f317 := Tryz.func187.trans (congrArg some (by kernel_rfl))
  f318 := Tryz.func188.trans (congrArg some (by kernel_rfl))
  f319 := Tryz.func189.trans (congrArg some (by kernel_rfl))
  f320 := Tryz.func190.trans (congrArg some (by kernel_rfl))
  f337 := Tryz.func191.trans (congrArg some (by kernel_rfl))
  f338 := Tryz.func192.trans (congrArg some (by kernel_rfl))
  t0 := Tryz.underlying0
  a0 := Tryz.isAgg0
  z0 := Tryz.sizeOf0
  v0 := Tryz.zeroValue0
  t2 := Tryz.underlying2
  a2 := Tryz.isAgg2
  z2 := Tryz.sizeOf2
  v2 := Tryz.zeroValue2
  t3 := Tryz.underlying3
  a3 := Tryz.isAgg3
  z3 := Tryz.sizeOf3
  v3 := Tryz.zeroValue3
  t4 := Tryz.underlying4
  a4 := Tryz.isAgg4
  z4 := Tryz.sizeOf4
  v4 := Tryz.zeroValue4
  t5 := Tryz.underlying5
  a5 := Tryz.isAgg5
  z5 := Tryz.sizeOf5
  v5 := Tryz.zeroValue5
  t9 := Tryz.underlying9
  a9 := Tryz.isAgg9
  z9 := Tryz.sizeOf9
  v9 := Tryz.zeroValue9
  t20 := Tryz.underlying20
  a20 := Tryz.isAgg20
  z20 := Tryz.sizeOf20
  v20 := Tryz.zeroValue20
  t37 := Tryz.underlying22
  a37 := Tryz.isAgg22
  z37 := Tryz.sizeOf22
  v37 := Tryz.zeroValue22
  t46 := Tryz.underlying132
  a46 := Tryz.isAgg132
  z46 := Tryz.sizeOf132
  v46 := Tryz.zeroValue132
  t51 := Tryz.underlying163
  a51 := Tryz.isAgg163
  z51 := Tryz.sizeOf163
  v51 := Tryz.zeroValue163
  t53 := Tryz.underlying165
  a53 := Tryz.isAgg165
  z53 := Tryz.sizeOf165
  v53 := Tryz.zeroValue165
  t171 := Tryz.underlying196
  a171 := Tryz.isAgg196
  z171 := Tryz.sizeOf196
  v171 := Tryz.zeroValue196
  t173 := Tryz.underlying198
  a173 := Tryz.isAgg198
  z173 := Tryz.sizeOf198
  v173 := Tryz.zeroValue198
  t212 := Tryz.underlying202
  a212 := Tryz.isAgg202
  z212 := Tryz.sizeOf202
  v212 := Tryz.zeroValue202
  t213 := Tryz.underlying203
  a213 := Tryz.isAgg203
  z213 := Tryz.sizeOf203
  t232 := Tryz.underlying204
  a232 := Tryz.isAgg204
  z232 := Tryz.sizeOf204
  v232 := Tryz.zeroValue204
  t233 := Tryz.underlying205
  a233 := Tryz.isAgg205
  z233 := Tryz.sizeOf205
  v233 := Tryz.zeroValue205
  g17 := by kernel_rfl
  g18 := by kernel_rfl
  g19 := by kernel_rfl
  i0 := by kernel_rfl
  i2 := by kernel_rfl
  i3 := by kernel_rfl
  i4 := by kernel_rfl
  i5 := by kernel_rfl
  i9 := by kernel_rfl
  i20 := by kernel_rfl
  i37 := by kernel_rfl
  i46 := by kernel_rfl
  i51 := by kernel_rfl
  i53 := by kernel_rfl
  i171 := by kernel_rfl
  i173 := by kernel_rfl
  i212 := by kernel_rfl
  i232 := by kernel_rfl
  i233 := by kernel_rfl
  m17 := by kernel_rfl
  m18 := by kernel_rfl
  m19 := by kernel_rfl }
open Go.RowKit Go.Sort Go.Lib in
theorem Tryz.internal_strconv_Itoa (n : Int) (h0 : -9223372036854775808 ≤ n) (h1 : n ≤ 9223372036854775807) (w : World) (htab : Lib.TabIs Tryz.prog w "internal/strconv.uint64pow10" .u64 Lib.pow10Tab) :
    Calls Tryz.prog 154 #[.int .i64 n] w fun e w' => e = .returned (.string ⟨(Lib.itoa n).toArray⟩) ∧ ∃ k os, w' = grow (w.drewN k) os := Any.internal_strconv_Itoa Tryz.laysM243 n h0 h1 w htab
def Tryz.lays243_ren : Go.Shelf.Ren := ⟨fun | 243 => 154 | 246 => 174 | 283 => 181 | 284 => 182 | 285 => 183 | 286 => 184 | 129 => 145 | 317 => 187 | 318 => 188 | 319 => 189 | 320 => 190 | 337 => 191 | 338 => 192 | n => n, fun | 3 => 3 | 9 => 9 | 2 => 2 | 4 => 4 | 171 => 196 | 0 => 0 | 53 => 165 | 37 => 22 | 5 => 5 | 173 => 198 | 212 => 202 | 51 => 163 | 20 => 20 | 213 => 203 | 46 => 132 | 232 => 204 | 233 => 205 | n => n, fun | 17 => 1 | 18 => 2 | 19 => 3 | n => n⟩
theorem Tryz.lays243 : Go.Proofs.Lays.n243 Tryz.prog Tryz.lays243_ren := {
  mixed := by kernel_rfl
  f129 := Tryz.func145.trans (congrArg some (by kernel_rfl))
  f243 := Tryz.func154.trans (congrArg some (by kernel_rfl))
  f246 := Tryz.func174.trans (congrArg some (by kernel_rfl))
  f283 := Tryz.func181.trans (congrArg some (by kernel_rfl))
  f284 := Tryz.func182.trans (congrArg some (by kernel_rfl))
  f285 := Tryz.func183.trans (congrArg some (by kernel_rfl))
  f286 := Tryz.func184.trans (congrArg some (by kernel_rfl))
  f317 := Tryz.func187.trans (congrArg some (by kernel_rfl))
  f318 := Tryz.func188.trans (congrArg some (by kernel_rfl))
  f319 := Tryz.func189.trans (congrArg some (by kernel_rfl))
  f320 := Tryz.func190.trans (congrArg some (by kernel_rfl))
  f337 := Tryz.func191.trans (congrArg some (by kernel_rfl))
  f338 := Tryz.func192.trans (congrArg some (by kernel_rfl))
  t0 := Tryz.underlying0
  a0 := Tryz.isAgg0
  z0 := Tryz.sizeOf0
  v0 := Tryz.zeroValue0
  t2 := Tryz.underlying2
  a2 := Tryz.isAgg2
  z2 := Tryz.sizeOf2
  v2 := Tryz.zeroValue2
  t3 := Tryz.underlying3
  a3 := Tryz.isAgg3
  z3 := Tryz.sizeOf3
  v3 := Tryz.zeroValue3
  t4 := Tryz.underlying4
  a4 := Tryz.isAgg4
  z4 := Tryz.sizeOf4
  v4 := Tryz.zeroValue4
  t5 := Tryz.underlying5
  a5 := Tryz.isAgg5
  z5 := Tryz.sizeOf5
  v5 := Tryz.zeroValue5
  t9 := Tryz.underlying9
  a9 := Tryz.isAgg9
  z9 := Tryz.sizeOf9
  v9 := Tryz.zeroValue9
  t20 := Tryz.underlying20
  a20 := Tryz.isAgg20
  z20 := Tryz.sizeOf20
  v20 := Tryz.zeroValue20
  t37 := Tryz.underlying22
  a37 := Tryz.isAgg22
  z37 := Tryz.sizeOf22
  v37 := Tryz.zeroValue22
  t46 := Tryz.underlying132
  a46 := Tryz.isAgg132
  z46 := Tryz.sizeOf132
  v46 := Tryz.zeroValue132
  t51 := Tryz.underlying163
  a51 := Tryz.isAgg163
  z51 := Tryz.sizeOf163
  v51 := Tryz.zeroValue163
  t53 := Tryz.underlying165
  a53 := Tryz.isAgg165
  z53 := Tryz.sizeOf165
  v53 := Tryz.zeroValue165
  t171 := Tryz.underlying196
  a171 := Tryz.isAgg196
  z171 := Tryz.sizeOf196
  v171 := Tryz.zeroValue196
  t173 := Tryz.underlying198
  a173 := Tryz.isAgg198
  z173 := Tryz.sizeOf198
  v173 := Tryz.zeroValue198
  t212 := Tryz.underlying202
  a212 := Tryz.isAgg202
  z212 := Tryz.sizeOf202
  v212 := Tryz.zeroValue202
  t213 := Tryz.underlying203
  a213 := Tryz.isAgg203
  z213 := Tryz.sizeOf203
  t232 := Tryz.underlying204
  a232 := Tryz.isAgg204
  z232 := Tryz.sizeOf204
  v232 := Tryz.zeroValue204
  t233 := Tryz.underlying205
  a233 := Tryz.isAgg205
  z233 := Tryz.sizeOf205
  v233 := Tryz.zeroValue205
  g17 := by kernel_rfl
  g18 := by kernel_rfl
  g19 := by kernel_rfl }
open Go.RowKit Go.Sort Go.Lib in
theorem Tryz.internal_strconv_Itoa_small (i : Nat) (hi : i < 100) (w : World) :
    Calls Tryz.prog 154 #[.int .i64 i] w fun e w' => e = .returned (.string ⟨(Lib.decDigits i).toArray⟩) ∧ w' = w := Any.internal_strconv_Itoa_small Tryz.lays243 i hi w
def Tryz.laysM171_ren : Go.Shelf.Ren := ⟨fun | 171 => 126 | 243 => 154 | 246 => 174 | 283 => 181 | 284 => 182 | 285 => 183 | 286 => 184 | 129 => 145 | 317 => 187 | 318 => 188 | 319 => 189 | 320 => 190 | 337 => 191 | 338 => 192 | n => n, fun | 3 => 3 | 9 => 9 | 2 => 2 | 4 => 4 | 171 => 196 | 0 => 0 | 53 => 165 | 37 => 22 | 5 => 5 | 173 => 198 | 212 => 202 | 51 => 163 | 20 => 20 | 213 => 203 | 46 => 132 | 232 => 204 | 233 => 205 | n => n, fun | 17 => 1 | 18 => 2 | 19 => 3 | n => n⟩
theorem Tryz.laysM171 : Go.Proofs.LaysM.n171 Tryz.prog Tryz.laysM171_ren := {
  mixed := by kernel_rfl
  f129 := Tryz.func145.trans (congrArg some (by kernel_rfl))
  f171 := Tryz.func126.trans (congrArg some (by kernel_rfl))
  f243 := Tryz.func154.trans (congrArg some (by kernel_rfl))
  f246 := Tryz.func174.trans (congrArg some (by kernel_rfl))
  f283 := Tryz.func181.trans (congrArg some (by kernel_rfl))
  f284 := Tryz.func182.trans (congrArg some (by kernel_rfl))
  f285 := Tryz.func183.trans (congrArg some (by kernel_rfl))
  f286 := Tryz.func184.trans (congrArg some (by kernel_rfl))
  f317 := Tryz.func187.trans (congrArg some (by kernel_rfl))
  f318 := Tryz.func188.trans (congrArg some (by kernel_rfl))
  f319 := Tryz.func189.trans (congrArg some (by kernel_rfl))
  f320 := Tryz.func190.trans (congrArg some (by kernel_rfl))
  f337 := Tryz.func191.trans (congrArg some (by kernel_rfl))
  f338 := Tryz.func192.trans (congrArg some (by kernel_rfl))
  t0 := Tryz.underlying0
  a0 := Tryz.isAgg0
  z0 := Tryz.sizeOf0
  v0 := Tryz.zeroValue0
  t2 := Tryz.underlying2
  a2 := Tryz.isAgg2
  z2 := Tryz.sizeOf2
  v2 := Tryz.zeroValue2
  t3 := Tryz.underlying3
  a3 := Tryz.isAgg3
  z3 := Tryz.sizeOf3
  v3 := Tryz.zeroValue3
  t4 := Tryz.underlying4
  a4 := Tryz.isAgg4
  z4 := Tryz.sizeOf4
  v4 := Tryz.zeroValue4
  t5 := Tryz.underlying5
  a5 := Tryz.isAgg5
  z5 := Tryz.sizeOf5
  v5 := Tryz.zeroValue5
  t9 := Tryz.underlying9
  a9 := Tryz.isAgg9
  z9 := Tryz.sizeOf9
  v9 := Tryz.zeroValue9
  t20 := Tryz.underlying20
  a20 := Tryz.isAgg20
  z20 := Tryz.sizeOf20
  v20 := Tryz.zeroValue20
  t37 := Tryz.underlying22
  a37 := Tryz.isAgg22
  z37 := Tryz.sizeOf22
  v37 := Tryz.zeroValue22
  t46 := Tryz.underlying132
  a46 := Tryz.isAgg132
  z46 := Tryz.sizeOf132
  v46 := Tryz.zeroValue132
  t51 := Tryz.underlying163
  a51 := Tryz.isAgg163
  z51 := Tryz.sizeOf163
  v51 := Tryz.zeroValue163
  t53 := Tryz.underlying165
  a53 := Tryz.isAgg165
  z53 := Tryz.sizeOf165
  v53 := Tryz.zeroValue165
  t171 := Tryz.underlying196
  a171 := Tryz.isAgg196
  z171 := Tryz.sizeOf196
  v171 := Tryz.zeroValue196
  t173 := Tryz.underlying198
  a173 := Tryz.isAgg198
  z173 := Tryz.sizeOf198
  v173 := Tryz.zeroValue198
  t212 := Tryz.underlying202
  a212 := Tryz.isAgg202
  z212 := Tryz.sizeOf202
  v212 := Tryz.zeroValue202
  t213 := Tryz.underlying203
  a213 := Tryz.isAgg203
  z213 := Tryz.sizeOf203
  t232 := Tryz.underlying204
  a232 := Tryz.isAgg204
  z232 := Tryz.sizeOf204
  v232 := Tryz.zeroValue204
  t233 := Tryz.underlying205
  a233 := Tryz.isAgg205
  z233 := Tryz.sizeOf205
  v233 := Tryz.zeroValue205
  g17 := by kernel_rfl
  g18 := by kernel_rfl
  g19 := by kernel_rfl
  i0 := by kernel_rfl
  i2 := by kernel_rfl
  i3 := by kernel_rfl
  i4 := by kernel_rfl
  i5 := by kernel_rfl
  i9 := by kernel_rfl
  i20 := by kernel_rfl
  i37 := by kernel_rfl
  i46 := by kernel_rfl
  i51 := by kernel_rfl
  i53 := by kernel_rfl
  i171 := by kernel_rfl
  i173 := by kernel_rfl
  i212 := by kernel_rfl
  i232 := by kernel_rfl
  i233 := by kernel_rfl
  m17 := by kernel_rfl
  m18 := by kernel_rfl
  m19 := by kernel_rfl }
open Go.RowKit Go.Sort Go.Lib in
theorem Tryz.strconv_Itoa (n : Int) (h0 : -9223372036854775808 ≤ n) (h1 : n ≤ 9223372036854775807) (w : World) (htab : Lib.TabIs Tryz.prog w "internal/strconv.uint64pow10" .u64 Lib.pow10Tab) :
    Calls Tryz.prog 126 #[.int .i64 n] w fun e w' => e = .returned (.string ⟨(Lib.itoa n).toArray⟩) ∧ ∃ k os, w' = grow (w.drewN k) os := Any.strconv_Itoa Tryz.laysM171 n h0 h1 w htab
def Tryz.lays171_ren : Go.Shelf.Ren := ⟨fun | 171 => 126 | 243 => 154 | 246 => 174 | 283 => 181 | 284 => 182 | 285 => 183 | 286 => 184 | 129 => 145 | 317 => 187 | 318 => 188 | 319 => 189 | 320 => 190 | 337 => 191 | 338 => 192 | n => n, fun | 3 => 3 | 9 => 9 | 2 => 2 | 4 => 4 | 171 => 196 | 0 => 0 | 53 => 165 | 37 => 22 | 5 => 5 | 173 => 198 | 212 => 202 | 51 => 163 | 20 => 20 | 213 => 203 | 46 => 132 | 232 => 204 | 233 => 205 | n => n, fun | 17 => 1 | 18 => 2 | 19 => 3 | n => n⟩
theorem Tryz.lays171 : Go.Proofs.Lays.n171 Tryz.prog Tryz.lays171_ren := {
  mixed := by kernel_rfl
  f129 := Tryz.func145.trans (congrArg some (by kernel_rfl))
  f171 := Tryz.func126.trans (congrArg some (by kernel_rfl))
  f243 := Tryz.func154.trans (congrArg some (by kernel_rfl))
  f246 := Tryz.func174.trans (congrArg some (by kernel_rfl))
  f283 := Tryz.func181.trans (congrArg some (by kernel_rfl))
  f284 := Tryz.func182.trans (congrArg some (by kernel_rfl))
  f285 := Tryz.func183.trans (congrArg some (by kernel_rfl))
  f286 := Tryz.func184.trans (congrArg some (by kernel_rfl))
  f317 := Tryz.func187.trans (congrArg some (by kernel_rfl))
  f318 := Tryz.func188.trans (congrArg some (by kernel_rfl))
  f319 := Tryz.func189.trans (congrArg some (by kernel_rfl))
  f320 := Tryz.func190.trans (congrArg some (by kernel_rfl))
  f337 := Tryz.func191.trans (congrArg some (by kernel_rfl))
  f338 := Tryz.func192.trans (congrArg some (by kernel_rfl))
  t0 := Tryz.underlying0
  a0 := Tryz.isAgg0
  z0 := Tryz.sizeOf0
  v0 := Tryz.zeroValue0
  t2 := Tryz.underlying2
  a2 := Tryz.isAgg2
  z2 := Tryz.sizeOf2
  v2 := Tryz.zeroValue2
  t3 := Tryz.underlying3
  a3 := Tryz.isAgg3
  z3 := Tryz.sizeOf3
  v3 := Tryz.zeroValue3
  t4 := Tryz.underlying4
  a4 := Tryz.isAgg4
  z4 := Tryz.sizeOf4
  v4 := Tryz.zeroValue4
  t5 := Tryz.underlying5
  a5 := Tryz.isAgg5
  z5 := Tryz.sizeOf5
  v5 := Tryz.zeroValue5
  t9 := Tryz.underlying9
  a9 := Tryz.isAgg9
  z9 := Tryz.sizeOf9
  v9 := Tryz.zeroValue9
  t20 := Tryz.underlying20
  a20 := Tryz.isAgg20
  z20 := Tryz.sizeOf20
  v20 := Tryz.zeroValue20
  t37 := Tryz.underlying22
  a37 := Tryz.isAgg22
  z37 := Tryz.sizeOf22
  v37 := Tryz.zeroValue22
  t46 := Tryz.underlying132
  a46 := Tryz.isAgg132
  z46 := Tryz.sizeOf132
  v46 := Tryz.zeroValue132
  t51 := Tryz.underlying163
  a51 := Tryz.isAgg163
  z51 := Tryz.sizeOf163
  v51 := Tryz.zeroValue163
  t53 := Tryz.underlying165
  a53 := Tryz.isAgg165
  z53 := Tryz.sizeOf165
  v53 := Tryz.zeroValue165
  t171 := Tryz.underlying196
  a171 := Tryz.isAgg196
  z171 := Tryz.sizeOf196
  v171 := Tryz.zeroValue196
  t173 := Tryz.underlying198
  a173 := Tryz.isAgg198
  z173 := Tryz.sizeOf198
  v173 := Tryz.zeroValue198
  t212 := Tryz.underlying202
  a212 := Tryz.isAgg202
  z212 := Tryz.sizeOf202
  v212 := Tryz.zeroValue202
  t213 := Tryz.underlying203
  a213 := Tryz.isAgg203
  z213 := Tryz.sizeOf203
  t232 := Tryz.underlying204
  a232 := Tryz.isAgg204
  z232 := Tryz.sizeOf204
  v232 := Tryz.zeroValue204
  t233 := Tryz.underlying205
  a233 := Tryz.isAgg205
  z233 := Tryz.sizeOf205
  v233 := Tryz.zeroValue205
  g17 := by kernel_rfl
  g18 := by kernel_rfl
  g19 := by kernel_rfl }
open Go.RowKit Go.Sort Go.Lib in
theorem Tryz.strconv_Itoa_small (i : Nat) (hi : i < 100) (w : World) :
    Calls Tryz.prog 126 #[.int .i64 i] w fun e w' => e = .returned (.string ⟨(Lib.decDigits i).toArray⟩) ∧ w' = w := Any.strconv_Itoa_small Tryz.lays171 i hi w
def Tryz.lays190_ren : Go.Shelf.Ren := ⟨fun | 190 => 55 | 125 => 110 | 258 => 109 | 128 => 144 | 129 => 145 | 302 => 135 | 303 => 136 | 304 => 137 | 305 => 138 | 306 => 139 | 307 => 140 | 308 => 141 | 309 => 142 | 310 => 143 | 333 => 166 | 329 => 167 | 330 => 168 | 334 => 169 | 335 => 170 | 336 => 130 | 344 => 178 | n => n, fun | 31 => 50 | 9 => 9 | 3 => 3 | 46 => 132 | 0 => 0 | 51 => 163 | 53 => 165 | 4 => 4 | 183 => 155 | 182 => 154 | 131 => 160 | 5 => 5 | 218 => 183 | 222 => 187 | 228 => 192 | 229 => 193 | n => n, fun | n => n⟩
theorem Tryz.lays190 : Go.Proofs.Lays.n190 Tryz.prog Tryz.lays190_ren := {
  mixed := by kernel_rfl
  f125 := Tryz.func110.trans (congrArg some (by kernel_rfl))
  f128 := Tryz.func144.trans (congrArg some (by kernel_rfl))
  f129 := Tryz.func145.trans (congrArg some (by kernel_rfl))
  f190 := Tryz.func55.trans (congrArg some (by kernel_rfl))
  f258 := Tryz.func109.trans (congrArg some (by kernel_rfl))
  f302 := Tryz.func135.trans (congrArg some (by kernel_rfl))
  f303 := Tryz.func136.trans (congrArg some (by kernel_rfl))
  f304 := Tryz.func137.trans (congrArg some (by kernel_rfl))
  f305 := Tryz.func138.trans (congrArg some (by kernel_rfl))
  f306 := Tryz.func139.trans (congrArg some (by kernel_rfl))
  f307 := Tryz.func140.trans (congrArg some (by kernel_rfl))
  f308 := Tryz.func141.trans (congrArg some (by kernel_rfl))
  f309 := Tryz.func142.trans (congrArg some (by kernel_rfl))
  f310 := Tryz.func143.trans (congrArg some (by kernel_rfl))
  f329 := Tryz.func167.trans (congrArg some (by kernel_rfl))
  f330 := Tryz.func168.trans (congrArg some (by kernel_rfl))
  f333 := Tryz.func166.trans (congrArg some (by kernel_rfl))
  f334 := Tryz.func169.trans (congrArg some (by kernel_rfl))
  f335 := Tryz.func170.trans (congrArg some (by kernel_rfl))
  f336 := Tryz.func130.trans (congrArg some (by kernel_rfl))
  f344 := Tryz.func178.trans (congrArg some (by kernel_rfl))
  t0 := Tryz.underlying0
  a0 := Tryz.isAgg0
  z0 := Tryz.sizeOf0
  v0 := Tryz.zeroValue0
  t3 := Tryz.underlying3
  a3 := Tryz.isAgg3
  z3 := Tryz.sizeOf3
  v3 := Tryz.zeroValue3
  t4 := Tryz.underlying4
  a4 := Tryz.isAgg4
  z4 := Tryz.sizeOf4
  v4 := Tryz.zeroValue4
  t5 := Tryz.underlying5
  a5 := Tryz.isAgg5
  z5 := Tryz.sizeOf5
  v5 := Tryz.zeroValue5
  t9 := Tryz.underlying9
  a9 := Tryz.isAgg9
  z9 := Tryz.sizeOf9
  v9 := Tryz.zeroValue9
  t31 := Tryz.underlying50
  a31 := Tryz.isAgg50
  z31 := Tryz.sizeOf50
  v31 := Tryz.zeroValue50
  t46 := Tryz.underlying132
  a46 := Tryz.isAgg132
  z46 := Tryz.sizeOf132
  v46 := Tryz.zeroValue132
  t51 := Tryz.underlying163
  a51 := Tryz.isAgg163
  z51 := Tryz.sizeOf163
  v51 := Tryz.zeroValue163
  t53 := Tryz.underlying165
  a53 := Tryz.isAgg165
  z53 := Tryz.sizeOf165
  v53 := Tryz.zeroValue165
  t131 := Tryz.underlying160
  a131 := Tryz.isAgg160
  z131 := Tryz.sizeOf160
  v131 := Tryz.zeroValue160
  t182 := Tryz.underlying154
  a182 := Tryz.isAgg154
  z182 := Tryz.sizeOf154
  v182 := Tryz.zeroValue154
  t183 := Tryz.underlying155
  a183 := Tryz.isAgg155
  z183 := Tryz.sizeOf155
  v183 := Tryz.zeroValue155
  t218 := Tryz.underlying183
  a218 := Tryz.isAgg183
  z218 := Tryz.sizeOf183
  v218 := Tryz.zeroValue183
  t222 := Tryz.underlying187
  a222 := Tryz.isAgg187
  z222 := Tryz.sizeOf187
  v222 := Tryz.zeroValue187
  t228 := Tryz.underlying192
  a228 := Tryz.isAgg192
  z228 := Tryz.sizeOf192
  v228 := Tryz.zeroValue192
  t229 := Tryz.underlying193
  a229 := Tryz.isAgg193
  z229 := Tryz.sizeOf193
  v229 := Tryz.zeroValue193 }
open Go.Sort Go.RowKit in
theorem Tryz.slices_Sort_string (blk off cap : Nat) (ss : List (List UInt8)) (w : World) (hH : Holds encStr w blk off ss.toArray) (hblk : blk < w.heap.size) (hsz : ss.length < 4611686018427387904) :
    Calls Tryz.prog 55 #[.slice (some ⟨blk, off, none⟩) ss.length cap] w fun e w' =>
      e = .returned (.tuple #[]) ∧ ∃ n os, w' = grow (putRow encStr (Sort.ahead w n) blk off (ss.mergeSort fun x y => decide (x ≤ y)).toArray) os := Any.slices_Sort_string Tryz.lays190 blk off cap ss w hH hblk hsz
def Tryz.lays194_ren : Go.Shelf.Ren := ⟨fun | 194 => 56 | n => n, fun | 31 => 50 | 9 => 9 | 3 => 3 | 4 => 4 | 0 => 0 | n => n, fun | n => n⟩
theorem Tryz.lays194 : Go.Proofs.Lays.n194 Tryz.prog Tryz.lays194_ren := {
  mixed := by kernel_rfl
  f194 := Tryz.func56.trans (congrArg some (by kernel_rfl))
  t0 := Tryz.underlying0
  a0 := Tryz.isAgg0
  z0 := Tryz.sizeOf0
  v0 := Tryz.zeroValue0
  t3 := Tryz.underlying3
  a3 := Tryz.isAgg3
  z3 := Tryz.sizeOf3
  v3 := Tryz.zeroValue3
  t4 := Tryz.underlying4
  a4 := Tryz.isAgg4
  z4 := Tryz.sizeOf4
  v4 := Tryz.zeroValue4
  t9 := Tryz.underlying9
  a9 := Tryz.isAgg9
  z9 := Tryz.sizeOf9
  v9 := Tryz.zeroValue9
  t31 := Tryz.underlying50
  a31 := Tryz.isAgg50
  z31 := Tryz.sizeOf50
  v31 := Tryz.zeroValue50 }
open Go.RowKit Go.Lib Go.Sort in
theorem Tryz.slices_Compact_string_arr (blk off cap : Nat) (d : Array (List UInt8)) (w : World) (hH : Holds encStr w blk off d) (hsz : d.size ≤ 9223372036854775807) (hcap : d.size ≤ cap) :
    Calls Tryz.prog 56 #[.slice (some ⟨blk, off, none⟩) d.size cap] w fun e w' => e = .returned (.slice (some ⟨blk, off, none⟩) (compactUpTo d d.size).length cap) ∧ ∃ q, w' = putRow encStr (Sort.ahead w q) blk off (compactUpTo d d.size ++ List.replicate (d.size - (compactUpTo d d.size).length) []).toArray := Any.slices_Compact_string_arr Tryz.lays194 blk off cap d w hH hsz hcap
open Go.RowKit Go.Lib Go.Sort in
theorem Tryz.slices_Compact_string (blk off cap : Nat) (zs : List (List UInt8)) (w : World) (hH : Holds encStr w blk off zs.toArray) (hsz : zs.length ≤ 9223372036854775807) (hcap : zs.length ≤ cap) :
    Calls Tryz.prog 56 #[.slice (some ⟨blk, off, none⟩) zs.length cap] w fun e w' => e = .returned (.slice (some ⟨blk, off, none⟩) (Lib.compact zs).length cap) ∧ ∃ q, w' = putRow encStr (Sort.ahead w q) blk off (Lib.compact zs ++ List.replicate (zs.length - (Lib.compact zs).length) []).toArray := Any.slices_Compact_string Tryz.lays194 blk off cap zs w hH hsz hcap
open Go.RowKit Go.Lib Go.Sort in
theorem Tryz.slices_Compact_string_empty (a : Option Addr) (cap : Nat) (w : World) :
    Calls Tryz.prog 56 #[.slice a 0 cap] w fun e w' => e = .returned (.slice a 0 cap) ∧ w' = w := Any.slices_Compact_string_empty Tryz.lays194 a cap w
open Go.RowKit Go.Lib Go.Sort in
theorem Tryz.slices_Compact_string_cells (b off n c : Nat) (Sx : Nat → ByteArray) (w : World) (hbig : n ≤ 9223372036854775807) (hcap : n ≤ c) (hc : ∀ i, i < n → w.cell? ⟨b, off + i, none⟩ = some (.string (Sx i))) (hf : ∀ j, j < n → w.frozen? ⟨b, off + j, none⟩ = false) :
    Calls Tryz.prog 56 #[.slice (some ⟨b, off, none⟩) n c] w fun e w' => e = .returned (.slice (some ⟨b, off, none⟩) (Lib.compact (Lib.strsOf Sx n)).length c) ∧ ∃ q, w' = (w.drewN q).setCells b off ((Lib.compact (Lib.strsOf Sx n) ++ List.replicate (n - (Lib.compact (Lib.strsOf Sx n)).length) []).map encStr) := Any.slices_Compact_string_cells Tryz.lays194 b off n c Sx w hbig hcap hc hf
open Go.RowKit Go.Sort in
theorem Tryz.slices_Sort_string_none (p : Option Addr) (cap : Nat) (w : World) :
    Calls Tryz.prog 55 #[.slice p 0 cap] w fun e w' => e = .returned (.tuple #[]) ∧ w' = w := Any.slices_Sort_string_none Tryz.lays190 p cap w
end Go.Proofs
namespace Go.Proofs.YtlaaehjcooonfaaGreatDoor
set_option linter.unusedVariables false
set_option linter.unusedSimpArgs false
set_option linter.unusedSectionVars false
set_option maxHeartbeats 8000000
set_option maxRecDepth 100000
open Go.RowKit
variable {O : Ob} {w0 : World}
section
open Go.RowKit Go.Shelf Go.Sort Go.Lib
theorem strs_arr {w : World} {S : Sp} : ∀ {xs : List Str} {cs : List Value}, Arr Kd.str w S xs cs → cs = xs.map vs ∧ ∀ x ∈ xs, Lim x
 | [], _, h => ⟨h, fun x hx => by cases hx⟩
 | x :: xs, _, ⟨c1, c2, e, h1, h2⟩ => by
  obtain ⟨e2, h3⟩ := strs_arr h2
  refine ⟨by rw [e, h1.1, e2]; rfl, fun y hy => ?_⟩
  rcases List.mem_cons.1 hy with rfl | hy
  ·exact h1.2
  ·exact h3 y hy
theorem arr_strs {w : World} {S : Sp} : ∀ {xs : List Str}, (∀ x ∈ xs, Lim x) → Arr Kd.str w S xs (xs.map vs)
 | [], _ => rfl
 | x :: xs, h => ⟨[vs x], xs.map vs, rfl, ⟨rfl, h x List.mem_cons_self⟩, arr_strs fun y hy => h y (List.mem_cons_of_mem _ hy)⟩
theorem heap_put (w : World) (q g : Nat) (ys : List Str) (os : Array Obj) (b : Nat) (hb : b < w.heap.size) (hne : b ≠ g) : (grow (putRow encStr (Sort.ahead w q) g 0 ys.toArray) os).heap[b]? = w.heap[b]? := by
 have h1 : (w.heap.modify g (onCells (putCells encStr 0 ys.toArray))).size = w.heap.size := Array.size_modify
 simp only [grow, putRow, mapBlock, Sort.ahead]
 rw [Array.getElem?_append_left (by rw [h1]; exact hb), Array.getElem?_modify, if_neg (fun e => hne e.symm)]
theorem Ow.putS {e : TypeId} {w : World} {O : Ob} {g n c : Nat} {xs : List Str} (h : Ow Kd.str e w O (.slice (some ⟨g, 0, none⟩) n c) xs) (ys : List Str) (hl : ys.length = xs.length) (hy : ∀ y ∈ ys, Lim y) (q : Nat) (os : Array Obj) (hx : 0 < xs.length) :
  Gr w (grow (putRow encStr (Sort.ahead w q) g 0 ys.toArray) os) (some g) ∧ Ow Kd.str e (grow (putRow encStr (Sort.ahead w q) g 0 ys.toArray) os) O (.slice (some ⟨g, 0, none⟩) n c) ys := by
 have hgl := h.ltb g rfl
 have h1 : (w.heap.modify g (onCells (putCells encStr 0 ys.toArray))).size = w.heap.size := Array.size_modify
 refine ⟨⟨rfl, rfl, rfl, ?_, fun b hb hn => heap_put w q g ys os b hb fun e => hn (by rw [e])⟩, ?_⟩
 ·simp only [grow, putRow, mapBlock, Sort.ahead, Array.size_append, h1]; omega
 obtain ⟨cells, o1, o2, o3⟩ := h
 rcases o1.2 with ⟨_, e'⟩ | ⟨g', cap, cur, ev, h0, hg, hle, hmx, hcur, htake⟩
 ·omega
 ·cases ev
  have hk : Kd.str.sz = 1 := rfl
  refine ⟨ys.map vs, ⟨by rw [List.length_map, hk, Nat.mul_one], .inr ⟨g, c, putCells encStr 0 ys.toArray cur, by rw [hl], h0, ?_, by rw [hl]; exact hle, hmx, ?_, ?_⟩⟩, arr_strs hy, o3⟩
  ·simp only [grow, putRow, mapBlock, Sort.ahead]
   rw [Array.getElem?_append_left (by rw [h1]; exact hgl), Array.getElem?_modify, if_pos rfl, hg]; rfl
  ·rw [putCells, Array.size_mapIdx]; exact hcur
  ·rw [hk, Nat.mul_one]
   have hc1 : xs.length ≤ cur.size := by rw [hcur, hk, Nat.mul_one]; exact hle
   apply List.ext_getElem?
   intro j
   rw [List.getElem?_take, List.getElem?_map]
   by_cases hj : j < ys.length
   ·rw [if_pos hj, putCells, Array.getElem?_toList, Array.getElem?_mapIdx, Array.getElem?_eq_getElem OM, List.getElem?_eq_getElem hj]
    simp only [Option.map_some, Nat.zero_le, true_and, Nat.zero_add, List.size_toArray, hj, if_true, Nat.sub_zero]
    simp [hj]
   ·rw [if_neg hj, List.getElem?_eq_none OM]; rfl
theorem Ow.holds {e : TypeId} {w : World} {O : Ob} {g n c : Nat} {xs : List Str} (h : Ow Kd.str e w O (.slice (some ⟨g, 0, none⟩) n c) xs) : Holds encStr w g 0 xs.toArray := by
 obtain ⟨cells, o1, o2, o3⟩ := h
 obtain ⟨e2, _⟩ := strs_arr o2
 intro j hj
 simp only [List.size_toArray] at hj
 rcases o1.2 with ⟨_, e'⟩ | ⟨g', cap, cur, ev, h0, hg, hle, hmx, hcur, htake⟩
 ·omega
 ·cases ev
  have hc := World.ownsRow.cells o1 (g := g) rfl j (vs xs[j]) (by rw [e2]; simp [hj])
  have ha : (⟨g, 0, none⟩ : Addr).add j = ⟨g, 0 + j, none⟩ := by unfold Addr.add; split <;> simp_all
  rw [ha] at hc
  refine ⟨by rw [hc]; simp [hj], ?_⟩
  simp [World.frozen?, hg]
def sortS (xs : List Str) : List Str := xs.mergeSort fun x y => decide (x ≤ y)
theorem Ow.form {e : TypeId} {w : World} {O : Ob} {A : Option Addr} {n c : Nat} {xs : List Str} (h : Ow Kd.str e w O (.slice A n c) xs) (hx : 0 < xs.length) : ∃ g, A = some ⟨g, 0, none⟩ ∧ n = xs.length ∧ xs.length ≤ c ∧ g < w.heap.size := by
 obtain ⟨cells, o1, o2, o3⟩ := h
 rcases o1.2 with ⟨_, e'⟩ | ⟨g', cap, cur, ev, h0, hg, hle, hmx, hcur, htake⟩
 ·omega
 ·cases ev; exact ⟨g', rfl, rfl, hle, (Array.getElem?_eq_some_iff.1 hg).1⟩
theorem Ow.lims {e : TypeId} {w : World} {O : Ob} {v : Value} {xs : List Str} (h : Ow Kd.str e w O v xs) : ∀ x ∈ xs, Lim x := by
 obtain ⟨cells, o1, o2, o3⟩ := h
 exact (strs_arr o2).2
theorem compact_le (x : List Str) : (Lib.compact x).length ≤ x.length := by
 unfold Lib.compact Lib.compactUpTo
 rw [List.length_map]
 exact Nat.le_trans (List.length_filter_le _ _) (by rw [List.length_range]; exact Nat.le_refl _)
theorem compact_mem {x : List Str} {y : Str} (h : y ∈ Lib.compact x) : y ∈ x := by
 unfold Lib.compact Lib.compactUpTo at h
 obtain ⟨j, hj, rfl⟩ := List.mem_map.1 h
 have hl : j < x.length := List.mem_range.1 (List.mem_filter.1 hj).1
 simp [hl]
end
section
open Go.Shelf Go.Sort Go.Lib
def F8.E (x : List Str) (Q : List Str → Prop) : Prop := x.length ≤ 268435456 ∧ Q (sortS x)
theorem F8.calls {O : Ob} (w0 : World) (hO : Ok w0 O) (A : Option Addr) (n c : Nat) (x : List Str) (hp : Ow Kd.str 9 w0 O (.slice A n c) x) (Q : List Str → Prop) (h : F8.E x Q) :
  Ret Tryz.prog 55 [.slice A n c] w0 (fun v w' => ∃ (m0 : List Str), v = .tuple #[] ∧ Q m0 ∧ Gr w0 w' (blk (.slice A n c)) ∧ Ow Kd.str 9 w' O (.slice A n c) m0) := by
 obtain ⟨hl, hq⟩ := h
 by_cases hx : 0 < x.length
 ·obtain ⟨g, rfl, rfl, hc, hg⟩ := hp.form hx
  refine Calls.mono (Tryz.slices_Sort_string g 0 c x w0 hp.holds hg OM) fun e w' ⟨he, q, os, hw⟩ => ?_
  subst he; subst hw
  have hs : (sortS x).length = x.length := List.length_mergeSort _
  obtain ⟨h1, h2⟩ := hp.putS (sortS x) hs (fun y hy => hp.lims y (List.mem_mergeSort.1 hy)) q os hx
  exact ⟨_, rfl, sortS x, rfl, hq, h1, h2⟩
 ·have e0 : x = [] := List.length_eq_zero_iff.1 OM
  subst e0
  obtain rfl : n = 0 := hp.len
  refine Calls.mono (Tryz.slices_Sort_string_none A c w0) fun e w' ⟨he, hw⟩ => ?_
  subst he; subst hw
  exact ⟨_, rfl, [], rfl, (by simpa [sortS] using hq), Gr.refl _ _, hp⟩
end
section
open Go.Shelf Go.Sort Go.Lib
def F1.E (x : List Str) (Q : List Str → Prop) : Prop := x.length ≤ 268435456 ∧ Q (Lib.compact x)
theorem F1.calls {O : Ob} (w0 : World) (hO : Ok w0 O) (A : Option Addr) (n c : Nat) (x : List Str) (hp : Ow Kd.str 9 w0 O (.slice A n c) x) (Q : List Str → Prop) (h : F1.E x Q) :
  Ret Tryz.prog 56 [.slice A n c] w0 (fun v w' => ∃ (m0 : List Str) (l : Nat), v = .slice A l c ∧ Q m0 ∧ Gr w0 w' (blk (.slice A n c)) ∧ Ow Kd.str 9 w' O (.slice A l c) m0) := by
 obtain ⟨hl, hq⟩ := h
 by_cases hx : 0 < x.length
 ·obtain ⟨g, rfl, rfl, hc, hg⟩ := hp.form hx
  refine Calls.mono (Tryz.slices_Compact_string g 0 c x w0 hp.holds OM hc) fun e w' ⟨he, q, hw⟩ => ?_
  have hcl := compact_le x
  rw [← grow_empty (putRow encStr (Sort.ahead w0 q) g 0 _)] at hw
  subst he; subst hw
  obtain ⟨h1, h2⟩ := hp.putS (Lib.compact x ++ List.replicate (x.length - (Lib.compact x).length) []) (by rw [List.length_append, List.length_replicate]; omega) (fun y hy => by
   rcases List.mem_append.1 hy with hy | hy
   ·exact hp.lims y (compact_mem hy)
   ·rw [List.eq_of_mem_replicate hy]; decide) q #[] hx
  have h3 := h2.cut (Lib.compact x).length (by rw [List.length_append]; omega)
  rw [List.take_left'] at h3
  ·exact ⟨_, rfl, Lib.compact x, _, rfl, hq, h1, h3⟩
  ·rfl
 ·have e0 : x = [] := List.length_eq_zero_iff.1 OM
  subst e0
  obtain rfl : n = 0 := hp.len
  refine Calls.mono (Tryz.slices_Compact_string_empty A c w0) fun e w' ⟨he, hw⟩ => ?_
  subst he; subst hw
  exact ⟨_, rfl, [], _, rfl, hq, Gr.refl _ _, hp⟩
end
def F27.E (c_ : Change) (fv2 : Str) (Q : Bool → Prop) : Prop :=
 Q (c_.Id == fv2)
theorem F27.calls {c_ : Change} {A3 : Option Addr} {n4 c5 : Nat} {A8 : Option Addr} {n9 aa : Nat} {ab : Option Addr} {ac ad : Nat} {ae : Option Addr} {af ag : Nat} {b : Nat} {fv2 : Str} {Q : Bool → Prop} (H : F27.E c_ fv2 Q) (hO : Ok w0 O) (hs1 : Lim c_.Id) (hs2 : Lim c_.Was.Id) (hp6 : Sl kPt w0 (Fr O) (G A3 n4 c5) c_.Was.Shape.Pts) (ao : Sl kTag w0 (Fr O) (G A8 n9 aa) c_.Was.Tags) (ap : Lim c_.Now.Id) (aq : Sl kPt w0 (Fr O) (G ab ac ad) c_.Now.Shape.Pts) (ar : Sl kTag w0 (Fr O) (G ae af ag) c_.Now.Tags) (au : Lim fv2) (hp1 : Fb w0 O b [vs fv2]) :
  Ret Tryz.prog 112 [.agg #[vs c_.Id, vb c_.Had, vs c_.Was.Id, vi c_.Was.Shape.Kind, G A3 n4 c5, G A8 n9 aa, vb c_.Has, vs c_.Now.Id, vi c_.Now.Shape.Kind, G ab ac ad, G ae af ag], Pz b] w0 (fun v w' => ∃ (r0 : Bool), v = vb r0 ∧ Q r0 ∧ Gr w0 w' none) := by
 unfold F27.E at H;have hc0 := Ct.init hO;refine Yb Tryz.func112 Z 8 Z [.tmp 3] Z Z ?_;refine Xc (Xe (Yq [vs c_.Id, vb c_.Had, vs c_.Was.Id, vi c_.Was.Shape.Kind, G A3 n4 c5, G A8 n9 aa, vb c_.Has, vs c_.Now.Id, vi c_.Now.Shape.Kind, G ab ac ad, G ae af ag] Z fun av ah aj hu30 ak al => ?_));have am := Fb.mk hc0.ok aj al;have ai := hc0.k0 ak;refine Xf (vb false) Z (Xb (Xc (Xe (Xa (Xj fa62_0 (Ad ah 0) (Ad ah 0) Z Z) (Xa (Xo ag9 cL (Ad ah 0) (vs c_.Id) Z (am.cell Z)) ?_)))));have an := (hp1.st ai.st);exact Xa (Xo ag9 cL (Ad b 0) (vs fv2) Z (an.cell Z)) (Xa (Yt c_.Id fv2 (c_.Id == fv2) Z Z Z) (Xf (vb (c_.Id == fv2)) Z (Xb (Xn ⟨[vb (c_.Id == fv2)], ⟨_, Z, Z⟩, c_.Id == fv2, Z, H, ai.gr.g0⟩))))
def F0.E (s : List Change) (f : Change → Bool) (f_ok : Change → Prop) (Q : Int → Prop) : Prop :=
 (∃ (I23 : Int → Prop) (mu24 : Int → Nat), I23 0 ∧ ∀ (v2 : Int), I23 v2 → (if decide (v2 < (s.length : Int)) then ((0 : Int) ≤ v2 ∧ v2 < (s.length : Int)) ∧ (f_ok (nth s v2)) ∧ (if (f (nth s v2)) then Q v2 else (I64 (v2 + 1)) ∧ I23 (v2 + 1) ∧ mu24 (v2 + 1) < mu24 v2) else Q (-1)))
theorem F0.calls {s : List Change} {A1 : Option Addr} {n2 c3 : Nat} {fg6 : FuncId} {fc7 : List Value} {f : Change → Bool} {f_ok : Change → Prop} {Q : Int → Prop} (H : F0.E s f f_ok Q) (hO : Ok w0 O) (hp4 : Sl kChange w0 (Fr O) (G A1 n2 c3) s) (hgo8 : Goes Tryz.prog fg6) (hf9 : ∀ (w : World) (L : Ob), Ct [] w0 w L O → ∀ (x0_ : Change) (au : Option Addr) (av aw : Nat) (ax : Option Addr) (ay az : Nat) (a0 : Option Addr) (a1 a2 : Nat) (a3 : Option Addr) (a4 a5 : Nat) (bt : Lim x0_.Id) (bu : Lim x0_.Was.Id) (bv : Sl kPt w (Fr (L ++ O)) (G au av aw) x0_.Was.Shape.Pts) (bw : Sl kTag w (Fr (L ++ O)) (G ax ay az) x0_.Was.Tags) (bx : Lim x0_.Now.Id) (bz : Sl kPt w (Fr (L ++ O)) (G a0 a1 a2) x0_.Now.Shape.Pts) (b0 : Sl kTag w (Fr (L ++ O)) (G a3 a4 a5) x0_.Now.Tags), f_ok x0_ → Ret Tryz.prog fg6 ([.agg #[vs x0_.Id, vb x0_.Had, vs x0_.Was.Id, vi x0_.Was.Shape.Kind, G au av aw, G ax ay az, vb x0_.Has, vs x0_.Now.Id, vi x0_.Now.Shape.Kind, G a0 a1 a2, G a3 a4 a5]] ++ fc7) w (fun v w' => v = vb (f x0_) ∧ Gr w w' none)) :
  Ret Tryz.prog 111 [G A1 n2 c3, .func (.func fg6) #[] fc7.toArray] w0 (fun v w' => ∃ (r0 : Int), v = vi r0 ∧ Q r0 ∧ Gr w0 w' none) := by
 unfold F0.E at H;have hc0 := Ct.init hO;refine Yb Tryz.func111 Z 19 Z [.tmp 4] Z Z ?_;refine Xc (Xe (Xf (vi 0) Z (Xb (Xc (Xc (Xe (Xd (G A1 n2 c3) Z ?_)))))));have b1 := hp4.le;refine Xa (X9 u23_ A1 n2 c3 hp4.len Z) (Xd (vi 0) Z (Xb (X6 ?_)));obtain ⟨ba, bb, ac, H⟩ := H;refine Yj (α := Int) (fun (sv__ : Int) t aa => match sv__ with | v2 => ba v2 ∧ Has t [(0, G A1 n2 c3), (1, .func (.func fg6) #[] fc7.toArray), (7, vi (s.length : Int)), (8, vi v2)] ∧ Ct [] w0 aa [] O ∧ Sl kChange aa (Fr ([] ++ O)) (G A1 n2 c3) s) (fun (sv__ : Int) => match sv__ with | v2 => bb v2) 0 ⟨ac, (Xx Z), hc0, hp4⟩ ?_;rintro v2 _ aa ⟨ac, bc, ab, ad⟩;obtain ⟨b2, rfl⟩ := Has.ins bc;have H := H v2 ac;refine Xc (Xe (Xa (X0 v2 (s.length : Int) (decide (v2 < (s.length : Int))) Z Z Z) (Xb (Xc ?_))));refine Xu (decide (v2 < (s.length : Int))) Z (fun ae => ?_) (fun ae => ?_)
 ·have H := Xl H ae;refine Xw (Xc (X6 (Xc (Xe (Xd (vi v2) Z (Xf (vi v2) Z (Xb (Xc ?_))))))));refine Xe (Xd (.func (.func fg6) #[] fc7.toArray) Z (Xd (G A1 n2 c3) Z (Xd (vi v2) Z ?_)));obtain ⟨a6, H⟩ := H;obtain ⟨a7, b3, bd, b4, be, bf⟩ := ad.get default RD v2 a6;obtain ⟨af, ag, ah, ai, aj, ak, al, am, an, ao, ap, aq, rfl, bg, bh, bi, bj, bl, bm, bn⟩ := kChange.op be;refine Xa (X3 u23_ Yi A1 a7 n2 c3 ad.len v2 Z bd Z a6) (Xa (Xv ag62 sz62 cL (a7.add (v2.toNat * 11)) [vs ((nth s v2).Id), vb ((nth s v2).Had), vs ((nth s v2).Was.Id), vi ((nth s v2).Was.Shape.Kind), G af ag ah, G ai aj ak, vb ((nth s v2).Has), vs ((nth s v2).Now.Id), vi ((nth s v2).Now.Shape.Kind), G al am an, G ao ap aq] Z Z bf) ?_);obtain ⟨bo, H⟩ := H;refine Zs hgo8 fc7 Z [.agg #[vs ((nth s v2).Id), vb ((nth s v2).Had), vs ((nth s v2).Was.Id), vi ((nth s v2).Was.Shape.Kind), G af ag ah, G ai aj ak, vb ((nth s v2).Has), vs ((nth s v2).Now.Id), vi ((nth s v2).Now.Shape.Kind), G al am an, G ao ap aq]] Z ((hf9 aa [] ab (nth s v2) af ag ah ai aj ak al am an ao ap aq bg bh bi bj bl bm bn bo).mono ?_);rintro _ b5 ⟨rfl, a8⟩;have a9 := ab.k0 a8;refine Xb ?_;refine Xu (f (nth s v2)) Z (fun ar => ?_) (fun ar => ?_)
  ·have H := Xl H ar;exact Xc (Xe (Xd (vi v2) Z (Xf (vi v2) Z (Xb (Xn ⟨[vi v2], ⟨_, Z, Z⟩, v2, Z, H, a9.gr.g0⟩)))))
  have H := Xm H ar;refine Xw (Xe ?_);obtain ⟨bp, H⟩ := H;refine Xa (Ya v2 1 Z Z bp) (Xd (vi (v2 + 1)) Z (Xb ?_));obtain ⟨bq, br⟩ := H;have bs := ab.stn a8;exact ⟨v2 + 1, br, bq, (Xx Z), a9, (ad.st bs)⟩
 have H := Xm H ae;refine Yh (xin_hit ?_);exact Xc (Xe (Xf (vi (-1)) Z (Xb (Xn ⟨[vi (-1)], ⟨_, Z, Z⟩, (-1), Z, H, ab.gr.g0⟩))))
def F53.E (d : List Change) (id : Str) (Q : Int → Prop) : Prop :=
 (∃ (f : Change → Bool) (f_ok : Change → Prop), (∀ x0_, f_ok x0_ → F27.E x0_ id (fun r => r = f x0_)) ∧ F0.E d f f_ok (fun r => Q r))
theorem F53.calls {d : List Change} {A1 : Option Addr} {n2 c3 : Nat} {id : Str} {Q : Int → Prop} (H : F53.E d id Q) (hO : Ok w0 O) (hp4 : Sl kChange w0 (Fr O) (G A1 n2 c3) d) (hs6 : Lim id) :
  Ret Tryz.prog 57 [G A1 n2 c3, vs id] w0 (fun v w' => ∃ (r0 : Int), v = vi r0 ∧ Q r0 ∧ Gr w0 w' none) := by
 unfold F53.E at H;have hc0 := Ct.init hO;refine Yb Tryz.func57 Z 8 Z [.tmp 4] Z Z ?_;refine Xc (Xe (Yq [vs id] Z fun w7 b8 aw hu11 g9 ax => ?_));have ay := Fb.mk hc0.ok aw ax;have am := hc0.k0 g9;refine Xf (vi 0) Z (Xb (Xc (Xe (Xd (G A1 n2 c3) Z (Xa (Z2 [Pz b8] Z) ?_)))));obtain ⟨f, f_ok, az, H⟩ := H;have a0 : ∀ (w : World) (L : Ob), Ct [] w7 w L ([] ++ O) → ∀ (x0_ : Change) (aa : Option Addr) (ab ac : Nat) (ad : Option Addr) (ae af : Nat) (ag : Option Addr) (ah ai : Nat) (aj : Option Addr) (ak al : Nat) (an : Lim x0_.Id) (ao : Lim x0_.Was.Id) (ap : Sl kPt w (Fr (L ++ ([] ++ O))) (G aa ab ac) x0_.Was.Shape.Pts) (aq : Sl kTag w (Fr (L ++ ([] ++ O))) (G ad ae af) x0_.Was.Tags) (ar : Lim x0_.Now.Id) (au : Sl kPt w (Fr (L ++ ([] ++ O))) (G ag ah ai) x0_.Now.Shape.Pts) (av : Sl kTag w (Fr (L ++ ([] ++ O))) (G aj ak al) x0_.Now.Tags), f_ok x0_ → Ret Tryz.prog 112 ([.agg #[vs x0_.Id, vb x0_.Had, vs x0_.Was.Id, vi x0_.Was.Shape.Kind, G aa ab ac, G ad ae af, vb x0_.Has, vs x0_.Now.Id, vi x0_.Now.Shape.Kind, G ag ah ai, G aj ak al]] ++ [Pz b8]) w (fun v w' => v = vb (f x0_) ∧ Gr w w' none) := by
  intro w L c x0_ aa ab ac ad ae af ag ah ai aj ak al an ao ap aq ar au av hok;refine (F27.calls (az x0_ hok) c.ok an ao ap aq ar au av hs6 (ay.st c.st)).mono ?_;rintro _ w2 ⟨r, rfl, rfl, g2⟩;exact ⟨Z, g2⟩
 refine Xs go111 (F0.calls H am.ok (hp4.st am.st) go112 a0) Z ?_;rintro _ a3 ⟨r, rfl, H, a1⟩;have a2 := am.k0 a1;exact Xf (vi r) Z (Xb (Xn ⟨[vi r], ⟨_, Z, Z⟩, r, Z, H, a2.gr.g0⟩))
def F24.E (s : Shape) (Q : Shape → Prop) : Prop :=
 (([] : List Pt).length + s.Pts.length ≤ 268435456) ∧ Q (⟨s.Kind, (([] : List Pt) ++ s.Pts)⟩ : Shape)
theorem F24.calls {s : Shape} {A1 : Option Addr} {n2 c3 : Nat} {Q : Shape → Prop} (H : F24.E s Q) (hO : Ok w0 O) (hp4 : Sl kPt w0 (Fr O) (G A1 n2 c3) s.Pts) :
  Ret Tryz.prog 72 [.agg #[vi s.Kind, G A1 n2 c3]] w0 (fun v w' => ∃ (r0 : Shape) (Aw0 : Option Addr) (nw0 cw0 : Nat), v = .agg #[vi r0.Kind, G Aw0 nw0 cw0] ∧ Q r0 ∧ Gk w0 w' [bk Aw0] O (Ow kPt 49 w' ([bk Aw0] ++ O) (G Aw0 nw0 cw0) r0.Pts)) := by
 unfold F24.E at H;have hc0 := Ct.init hO;refine Yb Tryz.func72 Z 10 Z [.cell 2 41] Z Z ?_;refine Xc (Xe (Yq [vi s.Kind, G A1 n2 c3] Z fun w6 b7 hl9 hu10 g8 ay => ?_));have az := Fb.mk hc0.ok hl9 ay;have ap := hc0.k0 g8;refine Yo [.int .i64 0, G none 0 0] ze41 fun be ae aq hu19 ar a0 => ?_;have au := ap.own ar (some ae) (Ym aq hu19);refine Xb (Xc (Za 8 [some ae] RK Z fun bf ag aa => ?_));have ah := au.k0 ag;refine Xt 0 Z RK aa (Xj fa41_0 (Ad b7 0) (Ad b7 0) Z Z) ?_;have a1 := ap.stown _ ar (Xz aq);have a2 := au.stn ag;have af := ((az.st a1).st a2);refine Xt 1 Z RK aa (Y5 ag3 cR (Ad b7 0) (vi s.Kind) Z (af.cell Z) (nm_cons (ah.fne 0 af.2 Z) nm_nil)) ?_;refine Xt 3 Z RK aa (Xj fa41_1 (Ad b7 0) (Ad b7 1) Z Z) ?_;refine Xt 4 Z RK aa (Y5 ag39 cR (Ad b7 1) (G A1 n2 c3) Z (af.cell Z) (nm_cons (ah.fne 0 af.2 Z) nm_nil)) ?_;refine X1 2 RK Z ?_;refine X5 (kd := kPt) Ys ah ([] : List Pt) (cells := []) Z RF fun bg av a3 a4 aw hr35 ai a5 => ?_;have aj := Gm.tm aa aw;refine Xb ⟨aj, ?_⟩;refine X1 5 RK Z ?_;obtain ⟨a6, H⟩ := H;refine Yc Ys ai (G av a3 a4) ([] : List Pt) s.Pts Z a5 (G A1 n2 c3) Z (hp4.st ai.st).sx 0 Z a6 fun bh ab ac ad ax a7 ak a8 => ?_;have al := Gm.tq aj ax (hv_new aa hr35);have bi := hv_app (L := [bk av, some ae]) (O := O) (i := 0) aj Z (hv_new aa hr35) a7 ak;refine Xb ⟨al, ?_⟩;refine Xt 6 Z RK al (Yr (.agg #[vi s.Kind, G ab ac ad]) RF) ?_;refine X1 7 RK Z ?_;have a9 := (ai.bm ((a0.k0 ag).k0 aw) 1 0 Z Z Z ax);refine Yf [vi s.Kind, G ab ac ad] a9 Z Z sz41 Z Z fun bj am ba => ?_;have an := ak.wr 1 Z am;have bb := Gm.tq al am (hv_mem 0 Z);refine Xb ⟨bb, ?_⟩;refine Yn RK ?_;refine Xn ?_;have bc := an.bgv ba 1 Z;have ao := an.drop 1 Z;have bd := (an.sd (ak.sw a8 0 1 Z Z Z am) 0 1 Z Z Z);exact ⟨[.agg #[vi s.Kind, G ab ac ad]], ⟨_, _, Z, bc.1.res Z ag41 sz41, Z⟩, (⟨s.Kind, (([] : List Pt) ++ s.Pts)⟩ : Shape), ab, ac, ad, Z, H, ao.gr.g0, ao.ok, ao.ge, bd⟩
def F39.E (f : Feat) (Q : Feat → Prop) : Prop :=
 (([] : List Tag).length + f.Tags.length ≤ 268435456) ∧ F24.E f.Shape (fun r => Q (⟨f.Id, r, (([] : List Tag) ++ f.Tags)⟩ : Feat))
theorem F39.calls {f : Feat} {A2 : Option Addr} {n3 c4 : Nat} {A7 : Option Addr} {n8 c9 : Nat} {Q : Feat → Prop} (H : F39.E f Q) (hO : Ok w0 O) (hs1 : Lim f.Id) (hp5 : Sl kPt w0 (Fr O) (G A2 n3 c4) f.Shape.Pts) (bn : Sl kTag w0 (Fr O) (G A7 n8 c9) f.Tags) :
  Ret Tryz.prog 77 [.agg #[vs f.Id, vi f.Shape.Kind, G A2 n3 c4, G A7 n8 c9]] w0 (fun v w' => ∃ (r0 : Feat) (Aw0 : Option Addr) (nw0 cw0 : Nat) (Aw2 : Option Addr) (nw2 cw2 : Nat), v = .agg #[vs r0.Id, vi r0.Shape.Kind, G Aw0 nw0 cw0, G Aw2 nw2 cw2] ∧ Q r0 ∧ Gk w0 w' [bk Aw0, bk Aw2] O (Lim r0.Id ∧ Ow kPt 49 w' ([bk Aw0, bk Aw2] ++ O) (G Aw0 nw0 cw0) r0.Shape.Pts ∧ Ow kTag 93 w' ([bk Aw0, bk Aw2] ++ O) (G Aw2 nw2 cw2) r0.Tags)) := by
 unfold F39.E at H;have hc0 := Ct.init hO;refine Yb Tryz.func77 Z 13 Z [.cell 2 44] Z Z ?_;refine Xc (Xe (Yq [vs f.Id, vi f.Shape.Kind, G A2 n3 c4, G A7 n8 c9] Z fun dd ac b3 hu16 b4 b5 => ?_));have b6 := Fb.mk hc0.ok b3 b5;have bo := hc0.k0 b4;refine Yo [vs [], .int .i64 0, G none 0 0, G none 0 0] ze44 fun de aa bp hu25 bq br => ?_;have bs := bo.own bq (some aa) (Ym bp hu25);refine Xb (Xc ?_);obtain ⟨bt, H⟩ := H;refine Zh (J := (fun t ai => ∃ (r : Shape) (ad : Option Addr) (aj ak : Nat) (ae : Option Addr) (al am : Nat), Has t [(2, Pz aa)] ∧ Cw [] w0 ai [bk ae, bk ad, some aa] O fun M => Ow kPt 49 ai M (G ad aj ak) r.Pts ∧ Ow kTag 93 ai M (G ae al am) (([] : List Tag) ++ f.Tags) ∧ Bx ai aa [vs f.Id, vi r.Kind, G ad aj ak, G ae al am] ∧ Q (⟨f.Id, r, (([] : List Tag) ++ f.Tags)⟩ : Feat))) ?_ ?_
 ·refine Za 11 [some aa] RK Z fun b7 ap ab => ?_;have af := bs.k0 ap;refine Xt 0 Z RK ab (Xj fa44_0 (Ad ac 0) (Ad ac 0) Z Z) ?_;have b8 := bo.stown _ bq (Xz bp);have b9 := bs.stn ap;have ah := ((b6.st b8).st b9);refine Xt 1 Z RK ab (Y5 ag9 cR (Ad ac 0) (vs f.Id) Z (ah.cell Z) (nm_cons (af.fne 0 ah.2 Z) nm_nil)) ?_;refine Xt 2 Z RK ab (Xj fa44_1 (Ad ac 0) (Ad ac 1) Z Z) ?_;refine Xt 3 Z RK ab (Zc ag41 sz41 cR (Ad ac 1) [vi f.Shape.Kind, G A2 n3 c4] Z Z (ah.cells (off := 1) Z) (nm_cons (af.fne 0 ah.2 Z) nm_nil)) ?_;refine Xt 6 Z RK ab (Xj fa44_2 (Ad ac 0) (Ad ac 3) Z Z) ?_;refine Xt 7 Z RK ab (Y5 ag42 cR (Ad ac 3) (G A7 n8 c9) Z (ah.cell Z) (nm_cons (af.fne 0 ah.2 Z) nm_nil)) ?_;refine Y8 4 5 RK Z Z ?_ ?_
  ·refine Xs go72 (F24.calls H af.ok (hp5.st af.st)) Z ?_;rintro _ bu ⟨r, an, aq, ar, rfl, H, bc, ca, cb, cc⟩;have cd := af.owns bc ca cb;have au := Gm.tm ab bc;refine Xb ⟨au, ?_⟩;refine X1 5 RK Z ?_;refine X5 (kd := kTag) Y3 cd ([] : List Tag) (cells := []) Z RF fun df bv ce cf bd hr54 av cg => ?_;have ag := Gm.tm au bd;refine Xb ⟨ag, ?_⟩;refine X1 8 RK Z ?_;refine Yc Y3 av (G bv ce cf) ([] : List Tag) f.Tags Z cg (G A7 n8 c9) Z (bn.st av.st).sx 0 Z bt fun dg aw ax ay be bw az ch => ?_;have bf := Gm.tq ag be (hv_new au hr54);have dh := hv_app (L := [bk bv, bk an, some aa]) (O := O) (i := 0) ag Z (hv_new au hr54) bw az;refine Xb ⟨bf, ?_⟩;refine Xt 9 Z RK bf (Yr (.agg #[vs f.Id, vi r.Kind, G an aq ar, G aw ax ay]) RF) ?_;refine X1 10 RK Z ?_;have ci := (av.bm (((br.k0 ap).k0 bc).k0 bd) 2 0 Z Z Z be);refine Yf [vs f.Id, vi r.Kind, G an aq ar, G aw ax ay] ci Z Z sz44 Z Z fun di a0 cj => ?_;have ck := az.wr 2 Z a0;have cl := Gm.tq bf a0 (hv_mem 0 Z);refine Xb ⟨cl, ?_⟩;refine Yn RK ?_;have cm := (az.sw (av.sm (cc.so _ bd hr54) 1 0 Z Z Z be bw) 1 2 Z Z Z a0);have cn := (az.sw ch 0 2 Z Z Z a0);exact ⟨r, an, aq, ar, aw, ax, ay, (Xx Z), ck, cm, cn, cj, H⟩
  refine X5 (kd := kTag) Y3 af ([] : List Tag) (cells := []) Z RF fun bu bx co cp bz hr42 bg cq => ?_;have b0 := Gm.tm ab bz;refine Xb ⟨b0, ?_⟩;refine X1 4 RK Z ?_;refine Xs go72 (F24.calls H bg.ok (hp5.st bg.st)) Z ?_;rintro _ dj ⟨r, ao, a1, a2, rfl, H, a3, cr, b1, cs⟩;have a4 := bg.owns a3 cr b1;have ag := Gm.tm b0 a3;refine Xb ⟨ag, ?_⟩;refine X1 8 RK Z ?_;have ct := (cq.sos a3 b1);refine Yc Y3 a4 (G bx co cp) ([] : List Tag) f.Tags Z ct (G A7 n8 c9) Z (bn.st a4.st).sx 1 Z bt fun dk a5 a6 a7 bh b2 a8 cu => ?_;have bi := Gm.tq ag bh (hv_new ab hr42);have dl := hv_app (L := [bk ao, bk bx, some aa]) (O := O) (i := 1) ag Z (hv_new ab hr42) b2 a8;refine Xb ⟨bi, ?_⟩;refine Xt 9 Z RK bi (Yr (.agg #[vs f.Id, vi r.Kind, G ao a1 a2, G a5 a6 a7]) RF) ?_;refine X1 10 RK Z ?_;have cv := (a4.bm (((br.k0 ap).k0 bz).k0 a3) 2 1 Z Z Z bh);refine Yf [vs f.Id, vi r.Kind, G ao a1 a2, G a5 a6 a7] cv Z Z sz44 Z Z fun dm a9 cw => ?_;have bj := a8.wr 2 Z a9;have cx := Gm.tq bi a9 (hv_mem 0 Z);refine Xb ⟨cx, ?_⟩;refine Yn RK ?_;have cy := bj.perm (.swap _ _ _);have cz := (bj.sp (a8.sw (a4.sm cs 0 1 Z Z Z bh b2) 0 2 Z Z Z a9) (.swap _ _ _));have c0 := (bj.sp (a8.sw cu 1 2 Z Z Z a9) (.swap _ _ _));have c1 := cw;exact ⟨r, ao, a1, a2, a5, a6, a7, (Xx Z), cy, cz, c0, c1, H⟩
 rintro dn ai ⟨r, ad, aj, ak, ae, al, am, c2, ba, c3, c5, c6, H⟩;obtain ⟨dp, rfl⟩ := Has.ins c2;refine Xn ?_;have c7 := ba.bgv c6 2 Z;have bb := ba.drop 2 Z;have bl := bb.perm (.swap _ _ _);have c8 := bb.stp (.swap _ _ _);have da := (c7.st c8);have db := (bb.sp (ba.sd c3 1 2 Z Z Z) (.swap _ _ _));have dc := (bb.sp (ba.sd c5 0 2 Z Z Z) (.swap _ _ _));exact ⟨[.agg #[vs f.Id, vi r.Kind, G ad aj ak, G ae al am]], ⟨_, _, Z, da.1.res Z ag44 sz44, Z⟩, (⟨f.Id, r, (([] : List Tag) ++ f.Tags)⟩ : Feat), ad, aj, ak, ae, al, am, Z, H, bl.gr.g0, bl.ok, bl.ge, hs1, db, dc⟩
def F20.E (c_ : Change) (Q : Change → Prop) : Prop :=
 F39.E c_.Was (fun r => F39.E c_.Now (fun r2 => Q (⟨c_.Id, c_.Had, r, c_.Has, r2⟩ : Change)))
theorem F20.calls {c_ : Change} {A3 : Option Addr} {n4 c5 : Nat} {A8 : Option Addr} {n9 ai : Nat} {aj : Option Addr} {ak al : Nat} {am : Option Addr} {an ao : Nat} {Q : Change → Prop} (H : F20.E c_ Q) (hO : Ok w0 O) (hs1 : Lim c_.Id) (hs2 : Lim c_.Was.Id) (hp6 : Sl kPt w0 (Fr O) (G A3 n4 c5) c_.Was.Shape.Pts) (bh : Sl kTag w0 (Fr O) (G A8 n9 ai) c_.Was.Tags) (bi : Lim c_.Now.Id) (bj : Sl kPt w0 (Fr O) (G aj ak al) c_.Now.Shape.Pts) (bl : Sl kTag w0 (Fr O) (G am an ao) c_.Now.Tags) :
  Ret Tryz.prog 41 [.agg #[vs c_.Id, vb c_.Had, vs c_.Was.Id, vi c_.Was.Shape.Kind, G A3 n4 c5, G A8 n9 ai, vb c_.Has, vs c_.Now.Id, vi c_.Now.Shape.Kind, G aj ak al, G am an ao]] w0 (fun v w' => ∃ (r0 : Change) (Aw0 : Option Addr) (nw0 cw0 : Nat) (Aw2 : Option Addr) (nw2 cw2 : Nat) (Aw4 : Option Addr) (nw4 cw4 : Nat) (Aw6 : Option Addr) (nw6 cw6 : Nat), v = .agg #[vs r0.Id, vb r0.Had, vs r0.Was.Id, vi r0.Was.Shape.Kind, G Aw0 nw0 cw0, G Aw2 nw2 cw2, vb r0.Has, vs r0.Now.Id, vi r0.Now.Shape.Kind, G Aw4 nw4 cw4, G Aw6 nw6 cw6] ∧ Q r0 ∧ Gk w0 w' [bk Aw0, bk Aw2, bk Aw4, bk Aw6] O (Lim r0.Id ∧ Lim r0.Was.Id ∧ Ow kPt 49 w' ([bk Aw0, bk Aw2, bk Aw4, bk Aw6] ++ O) (G Aw0 nw0 cw0) r0.Was.Shape.Pts ∧ Ow kTag 93 w' ([bk Aw0, bk Aw2, bk Aw4, bk Aw6] ++ O) (G Aw2 nw2 cw2) r0.Was.Tags ∧ Lim r0.Now.Id ∧ Ow kPt 49 w' ([bk Aw0, bk Aw2, bk Aw4, bk Aw6] ++ O) (G Aw4 nw4 cw4) r0.Now.Shape.Pts ∧ Ow kTag 93 w' ([bk Aw0, bk Aw2, bk Aw4, bk Aw6] ++ O) (G Aw6 nw6 cw6) r0.Now.Tags)) := by
 unfold F20.E at H;have hc0 := Ct.init hO;refine Yb Tryz.func41 Z 16 Z [.cell 2 62] Z Z ?_;refine Xc (Xe (Yq [vs c_.Id, vb c_.Had, vs c_.Was.Id, vi c_.Was.Shape.Kind, G A3 n4 c5, G A8 n9 ai, vb c_.Has, vs c_.Now.Id, vi c_.Now.Shape.Kind, G aj ak al, G am an ao] Z fun cf aa bm hu28 bn bo => ?_));have bp := Fb.mk hc0.ok bm bo;have bc := hc0.k0 bn;refine Yo [vs [], vb false, vs [], .int .i64 0, G none 0 0, G none 0 0, vb false, vs [], .int .i64 0, G none 0 0, G none 0 0] ze62 fun cg a6 bd hu37 be bq => ?_;have bf := bc.own be (some a6) (Ym bd hu37);refine Xb (Xc (Za 14 [some a6] RK Z fun br a7 ab => ?_));have ad := bf.k0 a7;refine Xt 0 Z RK ab (Xj fa62_0 (Ad aa 0) (Ad aa 0) Z Z) ?_;have bs := bc.stown _ be (Xz bd);have bt := bf.stn a7;have ac := ((bp.st bs).st bt);refine Xt 1 Z RK ab (Y5 ag9 cR (Ad aa 0) (vs c_.Id) Z (ac.cell Z) (nm_cons (ad.fne 0 ac.2 Z) nm_nil)) ?_;refine Xt 2 Z RK ab (Xj fa62_1 (Ad aa 0) (Ad aa 1) Z Z) ?_;refine Xt 3 Z RK ab (Y5 ag4 cR (Ad aa 1) (vb c_.Had) Z (ac.cell Z) (nm_cons (ad.fne 0 ac.2 Z) nm_nil)) ?_;refine Xt 4 Z RK ab (Xj fa62_2 (Ad aa 0) (Ad aa 2) Z Z) ?_;refine Xt 5 Z RK ab (Zc ag44 sz44 cR (Ad aa 2) [vs c_.Was.Id, vi c_.Was.Shape.Kind, G A3 n4 c5, G A8 n9 ai] Z Z (ac.cells (off := 2) Z) (nm_cons (ad.fne 0 ac.2 Z) nm_nil)) ?_;refine Xt 7 Z RK ab (Xj fa62_3 (Ad aa 0) (Ad aa 6) Z Z) ?_;refine Xt 8 Z RK ab (Y5 ag4 cR (Ad aa 6) (vb c_.Has) Z (ac.cell Z) (nm_cons (ad.fne 0 ac.2 Z) nm_nil)) ?_;refine Xt 9 Z RK ab (Xj fa62_4 (Ad aa 0) (Ad aa 7) Z Z) ?_;refine Xt 10 Z RK ab (Zc ag44 sz44 cR (Ad aa 7) [vs c_.Now.Id, vi c_.Now.Shape.Kind, G aj ak al, G am an ao] Z Z (ac.cells (off := 7) Z) (nm_cons (ad.fne 0 ac.2 Z) nm_nil)) ?_;refine X1 6 RK Z ?_;refine Xs go77 (F39.calls H ad.ok hs2 (hp6.st ad.st) (bh.st ad.st)) Z ?_;rintro _ bu ⟨r, ae, av, aw, af, ax, ay, rfl, H, a8, bv, bw, bx, bz, b0⟩;have a5 := ad.owns a8 bv bw;have bg := Gm.tm ab a8;refine Xb ⟨bg, ?_⟩;refine X1 11 RK Z ?_;refine Xs go77 (F39.calls H a5.ok bi (bj.st a5.st) (bl.st a5.st)) Z ?_;rintro _ ch ⟨r2, ag, az, a0, ah, a1, a2, rfl, H, a3, b1, a9, b2, b3, b4⟩;have a4 := a5.owns a3 b1 a9;have ba := Gm.tm bg a3;refine Xb ⟨ba, ?_⟩;refine Xt 12 Z RK ba (Yr (.agg #[vs c_.Id, vb c_.Had, vs r.Id, vi r.Shape.Kind, G ae av aw, G af ax ay, vb c_.Has, vs r2.Id, vi r2.Shape.Kind, G ag az a0, G ah a1 a2]) RF) ?_;refine X1 13 RK Z ?_;have b5 := (((bq.k0 a7).k0 a8).k0 a3);refine Yf [vs c_.Id, vb c_.Had, vs r.Id, vi r.Shape.Kind, G ae av aw, G af ax ay, vb c_.Has, vs r2.Id, vi r2.Shape.Kind, G ag az a0, G ah a1 a2] b5 Z Z sz62 Z Z fun ci ap b6 => ?_;have aq := a4.wr 4 Z ap;have b7 := Gm.tq ba ap (hv_mem 0 Z);refine Xb ⟨b7, ?_⟩;refine Yn RK ?_;refine Xn ?_;have b8 := aq.bgv b6 4 Z;have ar := aq.drop 4 Z;have au : ([bk ag, bk ah, bk ae, bk af] : Ob).Perm [bk ae, bk af, bk ag, bk ah] := RP;have bb := ar.perm au;have b9 := ar.stp au;have ca := (b8.st b9);have cb := (ar.sp (aq.sd (a4.sw (bz.sos a3 a9) 2 4 Z Z Z ap) 2 4 Z Z Z) au);have cc := (ar.sp (aq.sd (a4.sw (b0.sos a3 a9) 3 4 Z Z Z ap) 3 4 Z Z Z) au);have cd := (ar.sp (aq.sd (a4.sw b3 0 4 Z Z Z ap) 0 4 Z Z Z) au);have ce := (ar.sp (aq.sd (a4.sw b4 1 4 Z Z Z ap) 1 4 Z Z Z) au);exact ⟨[.agg #[vs c_.Id, vb c_.Had, vs r.Id, vi r.Shape.Kind, G ae av aw, G af ax ay, vb c_.Has, vs r2.Id, vi r2.Shape.Kind, G ag az a0, G ah a1 a2]], ⟨_, _, Z, ca.1.res Z ag62 sz62, Z⟩, (⟨c_.Id, c_.Had, r, c_.Has, r2⟩ : Change), ae, av, aw, af, ax, ay, ag, az, a0, ah, a1, a2, Z, H, bb.gr.g0, bb.ok, bb.ge, hs1, bx, cb, cc, b2, cd, ce⟩
def F54.E (a b : List Change) (Q : List Change → Bool → Prop) : Prop :=
 F100.E a (fun r => (if !r then Q [] false else F100.E b (fun r2 => (if !r2 then Q [] false else F4.E ([a, b] : List (List Change)) (fun r3 => (∃ (I122 : (List Str) → Int → Prop) (mu123 : (List Str) → Int → Nat), I122 [] 0 ∧ ∀ (xs2 : List Str) (v2 : Int), I122 xs2 v2 → (if decide (v2 < (r3.length : Int)) then ((0 : Int) ≤ v2 ∧ v2 < (r3.length : Int)) ∧ (xs2.length + ([(nth r3 v2).Id] : List Str).length ≤ 268435456) ∧ (I64 (v2 + 1)) ∧ I122 (xs2 ++ ([(nth r3 v2).Id] : List Str)) (v2 + 1) ∧ mu123 (xs2 ++ ([(nth r3 v2).Id] : List Str)) (v2 + 1) < mu123 xs2 v2 else F8.E xs2 (fun m => F1.E m (fun r4 => (∃ (I276 : (List Change) → Int → Prop) (mu277 : (List Change) → Int → Nat), I276 [] 0 ∧ ∀ (xs4 : List Change) (v4 : Int), I276 xs4 v4 → (if decide (v4 < (r4.length : Int)) then ((0 : Int) ≤ v4 ∧ v4 < (r4.length : Int)) ∧ F53.E a (nth r4 v4) (fun r5 => F53.E b (nth r4 v4) (fun r6 => (if decide (r6 < 0) then ((0 : Int) ≤ r5 ∧ r5 < (a.length : Int)) ∧ F19.E (nth a r5) (fun r7 => (if !r7 then F20.E (nth a r5) (fun r8 => (xs4.length + ([r8] : List Change).length ≤ 268435456) ∧ (I64 (v4 + 1)) ∧ I276 (xs4 ++ ([r8] : List Change)) (v4 + 1) ∧ mu277 (xs4 ++ ([r8] : List Change)) (v4 + 1) < mu277 xs4 v4) else (I64 (v4 + 1)) ∧ I276 xs4 (v4 + 1) ∧ mu277 xs4 (v4 + 1) < mu277 xs4 v4)) else (if decide (r5 < 0) then ((0 : Int) ≤ r6 ∧ r6 < (b.length : Int)) ∧ F19.E (nth b r6) (fun r9 => (if !r9 then F20.E (nth b r6) (fun r10 => (xs4.length + ([r10] : List Change).length ≤ 268435456) ∧ (I64 (v4 + 1)) ∧ I276 (xs4 ++ ([r10] : List Change)) (v4 + 1) ∧ mu277 (xs4 ++ ([r10] : List Change)) (v4 + 1) < mu277 xs4 v4) else (I64 (v4 + 1)) ∧ I276 xs4 (v4 + 1) ∧ mu277 xs4 (v4 + 1) < mu277 xs4 v4)) else ((0 : Int) ≤ r5 ∧ r5 < (a.length : Int)) ∧ ((0 : Int) ≤ r6 ∧ r6 < (b.length : Int)) ∧ (if ((nth a r5).Has) != ((nth b r6).Had) then Q [] false else ((0 : Int) ≤ r5 ∧ r5 < (a.length : Int)) ∧ ((0 : Int) ≤ r6 ∧ r6 < (b.length : Int)) ∧ (∃ q : Bool, F46.E ((nth a r5).Now) ((nth b r6).Was) (fun x => x = q) ∧ (if !q then Q [] false else ((0 : Int) ≤ r5 ∧ r5 < (a.length : Int)) ∧ ((0 : Int) ≤ r5 ∧ r5 < (a.length : Int)) ∧ ((0 : Int) ≤ r6 ∧ r6 < (b.length : Int)) ∧ ((0 : Int) ≤ r6 ∧ r6 < (b.length : Int)) ∧ F19.E (⟨(nth r4 v4), (nth a r5).Had, (nth a r5).Was, (nth b r6).Has, (nth b r6).Now⟩ : Change) (fun r12 => (if !r12 then F20.E (⟨(nth r4 v4), (nth a r5).Had, (nth a r5).Was, (nth b r6).Has, (nth b r6).Now⟩ : Change) (fun r13 => (xs4.length + ([r13] : List Change).length ≤ 268435456) ∧ (I64 (v4 + 1)) ∧ I276 (xs4 ++ ([r13] : List Change)) (v4 + 1) ∧ mu277 (xs4 ++ ([r13] : List Change)) (v4 + 1) < mu277 xs4 v4) else (I64 (v4 + 1)) ∧ I276 xs4 (v4 + 1) ∧ mu277 xs4 (v4 + 1) < mu277 xs4 v4))))))))) else F100.E xs4 (fun r14 => (if !r14 then Q [] false else Q xs4 true)))))))))))))
theorem F54.calls {a : List Change} {A1 : Option Addr} {n2 c3 : Nat} {b : List Change} {A6 : Option Addr} {n7 c8 : Nat} {Q : List Change → Bool → Prop} (H : F54.E a b Q) (hO : Ok w0 O) (hp4 : Sl kChange w0 (Fr O) (G A1 n2 c3) a) (hp9 : Sl kChange w0 (Fr O) (G A6 n7 c8) b) :
  Ret Tryz.prog 18 [G A1 n2 c3, G A6 n7 c8] w0 (fun v w' => ∃ (r0 : List Change) (r1 : Bool) (Aw0 : Option Addr) (nw0 cw0 : Nat) (q0 : Ob) (ra0 : List (List Value)), v = .tuple #[G Aw0 nw0 cw0, vb r1] ∧ Q r0 r1 ∧ Gr w0 w' none ∧ Ok w' ((bk Aw0 :: (q0 ++ [])) ++ O) ∧ (∀ b, some b ∈ (bk Aw0 :: (q0 ++ [])) → w0.heap.size ≤ b) ∧ Ow (Kd.cells 11) 62 w' ((bk Aw0 :: (q0 ++ [])) ++ O) (G Aw0 nw0 cw0) ra0 ∧ DArr dChange_62 w' q0 r0 ra0) := by
 unfold F54.E at H;have hc0 := Ct.init hO;refine Yb Tryz.func18 Z 133 Z [.tmp 4, .tmp 5] Z Z ?_;refine Xc (Xe (Xf (G none 0 0) Z (Xf (vb false) Z (Xb (Xc (Xc (Xe (Xd (G A1 n2 c3) Z ?_))))))));refine Xs go17 (F100.calls H hc0.ok hp4) Z ?_;rintro _ ie ⟨r, rfl, H, l8⟩;have eq := hc0.k0 l8;refine Xa (X8 r Z) (Xd (vb (!r)) Z ?_);rcases X4 (!r) with a8 | a8
 ·have H := Xl H a8;refine Xi a8 Z (Xi a8 Z (Xi a8 Z (Xa (Xk true (vb true) a8 Z) (Xb (Yu (b := true) Z Z ?_)))));refine Xc (Xe ?_);have l9 : DArr dChange_62 ie ([] : Ob) ([] : List Change) ([] : List (List Value)) := Z;refine X5 (kd := Kd.cells 11) Yd eq ([] : List (List Value)) (cells := []) Z RF fun uk dx fy fz ma hr23 ig mb => ?_;have ih : ([bk dx] : Ob).Perm (bk dx :: (([] : Ob) ++ [])) := RP;have f0 := ig.perm ih;refine Xf (G dx fy fz) Z (Xf (vb false) Z (Xb (Xn ?_)));have mc := (ig.sp mb ih);have md := (l9.k0 ma);exact ⟨[G dx fy fz, vb false], ⟨_, Z, ⟨_, Z, Z⟩⟩, ([] : List Change), false, dx, fy, fz, ([] : Ob), ([] : List (List Value)), Z, H, f0.gr.g0, f0.ok, f0.ge, mc, md⟩
 have H := Xm H a8;refine Xh a8 Z (Xd (G A6 n7 c8) Z (Xh a8 Z ?_));refine Xs go17 (F100.calls H eq.ok (hp9.st eq.st)) Z ?_;rintro _ me ⟨r2, rfl, H, mf⟩;have ii := eq.k0 mf;refine Xh a8 Z (Xa (X8 r2 Z) (Xa (Xk false (vb (!r2)) a8 Z) (Xb ?_)));refine Xu (!r2) Z (fun f1 => ?_) (fun f1 => ?_)
 ·have H := Xl H f1;refine Xc (Xe ?_);have mg : DArr dChange_62 me ([] : Ob) ([] : List Change) ([] : List (List Value)) := Z;refine X5 (kd := Kd.cells 11) Yd ii ([] : List (List Value)) (cells := []) Z RF fun ul dy f2 f3 mh hr44 ij mi => ?_;have ik : ([bk dy] : Ob).Perm (bk dy :: (([] : Ob) ++ [])) := RP;have f4 := ij.perm ik;refine Xf (G dy f2 f3) Z (Xf (vb false) Z (Xb (Xn ?_)));have mj := (ij.sp mi ik);have ml := (mg.k0 mh);exact ⟨[G dy f2 f3, vb false], ⟨_, Z, ⟨_, Z, Z⟩⟩, ([] : List Change), false, dy, f2, f3, ([] : Ob), ([] : List (List Value)), Z, H, f4.gr.g0, f4.ok, f4.ge, mj, ml⟩
 have H := Xm H f1;refine Xw (Xc (Xe (X5 (kd := Kd.str) Zd ii ([] : List Str) (cells := []) Z RF fun um f5 il im un hr58 f6 mm => ?_)));refine Xf (G f5 il im) Z (Xb (Xc (Xc (Xe (Xd (G A1 n2 c3) Z (Xd (G A6 n7 c8) Z (X5 (kd := (Kd.sl kChange)) Kk f6 ([a, b] : List (List Change)) (cells := [G A1 n2 c3, G A6 n7 c8]) ⟨[G A1 n2 c3], _, Z, ⟨_, Z, (hp4.st f6.st)⟩, ⟨[G A6 n7 c8], _, Z, ⟨_, Z, (hp9.st f6.st)⟩, Z⟩⟩ RF fun mn io ip iq mo hr67 f7 mp => ?_)))))));have mq := f7.gv mp 0 Z;have ir := f7.drop 0 Z;refine Xs go54 (F4.calls H ir.ok mq) Z ?_;rintro _ mr ⟨r3, a4, er, es, rfl, H, it, ms, iu, f8⟩;have f9 : Ct [] w0 mr [bk a4, bk f5] O := ir.owns it ms iu;have uo := f8.le;refine Xa (X9 u23_ a4 er es f8.len Z) (Xd (vi 0) Z (Xb (X6 ?_)));obtain ⟨mt, mu, ga, H⟩ := H;have mv := ((f7.sd (mm.so _ mo hr67) 1 0 Z Z Z).sos it iu);refine Yj (α := (List Str) × (Option Addr) × Nat × Nat × Int) (fun (xs2, aa, a9, a3, v2) t dg => mt xs2 v2 ∧ Has t [(0, G A1 n2 c3), (1, G A6 n7 c8), (6, G aa a9 a3), (28, G a4 er es), (29, vi (r3.length : Int)), (30, vi v2)] ∧ Cw [] w0 dg [bk a4, bk aa] O fun M => Sl kChange dg (Fr M) (G A1 n2 c3) a ∧ Sl kChange dg (Fr M) (G A6 n7 c8) b ∧ Ow Kd.str 9 dg M (G aa a9 a3) xs2 ∧ Ow kChange 62 dg M (G a4 er es) r3) (fun (xs2, _, _, _, v2) => mu xs2 v2) (([] : List Str), f5, il, im, 0) ⟨ga, (Xx Z), f9, (hp4.st f9.st), (hp9.st f9.st), mv, f8⟩ ?_;rintro ⟨xs2, aa, a9, a3, v2⟩ _ dg ⟨ga, mw, dz, iv, iw, ix, gb⟩;obtain ⟨up, rfl⟩ := Has.ins mw;have H := H xs2 v2 ga;refine Xc (Xe (Xa (X0 v2 (r3.length : Int) (decide (v2 < (r3.length : Int))) Z Z Z) (Xb (Xc ?_))));refine Xu (decide (v2 < (r3.length : Int))) Z (fun gc => ?_) (fun gc => ?_)
 ·have H := Xl H gc;refine Xw (Xc (X6 (Xc (Xe ?_))));obtain ⟨iy, H⟩ := H;obtain ⟨iz, uq, mx, my, mz⟩ := gb.get default RD v2 iy;obtain ⟨gd, gf, gg, gh, gi, gj, gk, gl, gm, gn, gp, gq, rfl, m0, ur, us, ut, uu, uv, uw⟩ := kChange.op my;refine Xa (X3 u23_ Yi a4 iz er es gb.len v2 Z mx Z iy) (Xa (Xv ag62 sz62 cL (iz.add (v2.toNat * 11)) [vs ((nth r3 v2).Id), vb ((nth r3 v2).Had), vs ((nth r3 v2).Was.Id), vi ((nth r3 v2).Was.Shape.Kind), G gd gf gg, G gh gi gj, vb ((nth r3 v2).Has), vs ((nth r3 v2).Now.Id), vi ((nth r3 v2).Now.Shape.Kind), G gk gl gm, G gn gp gq] Z Z mz) (Yo [vs [], vb false, vs [], .int .i64 0, G none 0 0, G none 0 0, vb false, vs [], .int .i64 0, G none 0 0, G none 0 0] ze62 fun ux d0 et hu164 eu m1 => ?_));have ev := dz.own eu (some d0) (Ym et hu164);refine Yf [vs ((nth r3 v2).Id), vb ((nth r3 v2).Had), vs ((nth r3 v2).Was.Id), vi ((nth r3 v2).Was.Shape.Kind), G gd gf gg, G gh gi gj, vb ((nth r3 v2).Has), vs ((nth r3 v2).Now.Id), vi ((nth r3 v2).Now.Shape.Kind), G gk gl gm, G gn gp gq] m1 Z Z sz62 Z Z fun uy ew m2 => ?_;have i0 := ev.wr 0 Z ew;refine Xb (Xe (Xd (G aa a9 a3) Z (Xa (Xj fa62_0 (Ad d0 0) (Ad d0 0) Z Z) (Xa (Xo ag9 cL (Ad d0 0) (vs ((nth r3 v2).Id)) Z (m2.cell Z)) (X5 (kd := Kd.str) Zd i0 ([(nth r3 v2).Id] : List Str) (cells := [vs ((nth r3 v2).Id)]) ⟨[vs ((nth r3 v2).Id)], _, Z, ⟨Z, m0⟩, Z⟩ RF fun uz m3 m4 m5 gs hr177 i1 m6 => ?_)))));obtain ⟨m7, H⟩ := H;have m8 := ((ev.sw (ix.so _ eu (Xz et)) 2 0 Z Z Z ew).so _ gs hr177);refine Yc Zd i1 (G aa a9 a3) xs2 ([(nth r3 v2).Id] : List Str) Z m8 (G m3 m4 m5) Z m6.sx 3 Z m7 fun u0 i2 i3 i4 m9 gt ex na => ?_;refine Xf (G i2 i3 i4) Z (Xb (Xe ?_));obtain ⟨nb, H⟩ := H;refine Xa (Ya v2 1 Z Z nb) (Xd (vi (v2 + 1)) Z (Xb ?_));have ey := ex.drop 0 Z;have nc := ey.drop 0 Z;obtain ⟨nd, ne⟩ := H;have i5 := dz.stown _ eu (Xz et);have i6 := ev.stw 0 Z ew;have i7 := i0.stown _ gs hr177;have i8 := ex.std 0 Z;have i9 := ey.std 0 Z;have nf := ((((((iv.st i5).st i6).st i7).st gt).st i8).st i9);have ng := ((((((iw.st i5).st i6).st i7).st gt).st i8).st i9);have nh := (ey.sd (ex.sd na 3 0 Z Z Z) 2 0 Z Z Z);have ni := (ey.sd (ex.sd (i1.sm ((ev.sw (gb.so _ eu (Xz et)) 1 0 Z Z Z ew).so _ gs hr177) 2 3 Z Z Z m9 gt) 2 0 Z Z Z) 1 0 Z Z Z);exact ⟨((xs2 ++ ([(nth r3 v2).Id] : List Str)), i2, i3, i4, v2 + 1), ne, nd, (Xx Z), nc, nf, ng, nh, ni⟩
 have H := Xm H gc;refine Yh (xin_hit ?_);refine Xc (Xe (Xd (G aa a9 a3) Z ?_));refine Zn go55 [G aa a9 a3] Z ((F8.calls dg dz.ok aa a9 a3 xs2 ix _ H).mono ?_);rintro _ nj ⟨m, rfl, H, ja, nk⟩;have jb := dz.wr 1 Z ja;refine Xb (Xc (Xe ?_));have nl : DArr dChange_62 nj ([] : Ob) ([] : List Change) ([] : List (List Value)) := Z;refine X5 (kd := Kd.cells 11) Yd jb ([] : List (List Value)) (cells := []) Z RF fun nm d1 jc jd gu hr217 ez nn => ?_;have e0 : ([bk d1, bk a4, bk aa] : Ob).Perm (bk d1 :: bk a4 :: bk aa :: (([] : Ob) ++ [])) := RP;have d2 := ez.perm e0;refine Xf (G d1 jc jd) Z (Xb (Xc (Xc (Xe (Xd (G aa a9 a3) Z ?_)))));have no := (ez.sp (nk.so _ gu hr217) e0);refine Zn go56 [G aa a9 a3] Z ((F1.calls nm d2.ok aa a9 a3 m no _ H).mono ?_);rintro _ u1 ⟨r4, e1, rfl, H, e2, gw⟩;have e3 := d2.wr 2 Z e2;have u2 := gw.le;refine Xa (X9 u50_ aa e1 a3 gw.len Z) (Xd (vi 0) Z (Xb (X6 ?_)));have np := e3.drop 1 Z;obtain ⟨nq, nr, gx, H⟩ := H;have je := dz.stw 1 Z ja;have jf := jb.stown _ gu hr217;have jg := ez.stp e0;have jh := d2.stw 2 Z e2;have ji := e3.std 1 Z;have ns := (((((iv.st je).st jf).st jg).st jh).st ji);have nt := (((((iw.st je).st jf).st jg).st jh).st ji);have nu := (e3.sd (d2.sw (ez.sp nn e0) 0 2 Z Z Z e2) 0 1 Z Z Z);have nv := (DArr.sm (L := (bk d1 :: bk a4 :: bk aa :: (([] : Ob) ++ []))) (O := O) (i := 2) (nl.k0 gu) d2 Z (fun b hb => (List.mem_append_left _ hb)) e2);have nw := (e3.sd gw 2 1 Z Z Z);refine Yj (α := (List Change) × (List (List Value)) × Ob × (Option Addr) × Nat × Nat × Int) (fun (xs4, a1, ab, ac, aj, ak, v4) t bq => nq xs4 v4 ∧ Has t [(0, G A1 n2 c3), (1, G A6 n7 c8), (9, G ac aj ak), (44, G aa e1 a3), (45, vi (r4.length : Int)), (46, vi v4)] ∧ Cw [] w0 bq (bk ac :: bk aa :: (ab ++ [])) O fun M => Sl kChange bq (Fr M) (G A1 n2 c3) a ∧ Sl kChange bq (Fr M) (G A6 n7 c8) b ∧ Ow (Kd.cells 11) 62 bq M (G ac aj ak) a1 ∧ DArr dChange_62 bq ab xs4 a1 ∧ Ow Kd.str 9 bq M (G aa e1 a3) r4) (fun (xs4, _, _, _, _, _, v4) => nr xs4 v4) (([] : List Change), ([] : List (List Value)), ([] : Ob), d1, jc, jd, 0) ⟨gx, (Xx Z), np, ns, nt, nu, nv, nw⟩ ?_;rintro ⟨xs4, a1, ab, ac, aj, ak, v4⟩ _ bq ⟨gx, nx, d3, d4, d5, cj, ck, cl⟩;obtain ⟨u3, rfl⟩ := Has.ins nx;have H := H xs4 v4 gx;refine Xc (Xe (Xa (X0 v4 (r4.length : Int) (decide (v4 < (r4.length : Int))) Z Z Z) (Xb (Xc ?_))));refine Xu (decide (v4 < (r4.length : Int))) Z (fun gy => ?_) (fun gy => ?_)
 ·have H := Xl H gy;refine Xw (Xc (X6 (Xc (Xe ?_))));obtain ⟨jj, H⟩ := H;obtain ⟨jk, u4, ny, nz, n0⟩ := cl.get default RD v4 jj;obtain ⟨rfl, e4⟩ := Kd.str.op nz;refine Xa (X3 u50_ Zk aa jk e1 a3 cl.len v4 Z ny Z jj) (Xa (Xo ag9 cL (jk.add (v4.toNat * 1)) (vs (nth r4 v4)) Z (n0 0 _ Z)) (Xf (vs (nth r4 v4)) Z (Xb (Xc (Xe (Xd (G A1 n2 c3) Z (Xd (vs (nth r4 v4)) Z ?_)))))));refine Xs go57 (F53.calls H d3.ok d4 e4) Z ?_;rintro _ n1 ⟨r5, rfl, H, al⟩;have d6 := d3.k0 al;refine Xd (G A6 n7 c8) Z (Xd (vs (nth r4 v4)) Z ?_);have br := d3.stn al;refine Xs go57 (F53.calls H d6.ok (d5.st br) e4) Z ?_;rintro _ u5 ⟨r6, rfl, H, af⟩;have e5 := d6.k0 af;refine Xf (vi r5) Z (Xf (vi r6) Z (Xb (Xc (Xe (Xa (Yr (.agg #[vs [], vb false, vs [], vi 0, G none 0 0, G none 0 0, vb false, vs [], vi 0, G none 0 0, G none 0 0]) RF) (Yo [vs [], vb false, vs [], .int .i64 0, G none 0 0, G none 0 0, vb false, vs [], .int .i64 0, G none 0 0, G none 0 0] ze62 fun u6 ad a2 hu318 ag n3 => ?_))))));have ah := e5.own ag (some ad) (Ym a2 hu318);refine Yf [vs [], vb false, vs [], vi 0, G none 0 0, G none 0 0, vb false, vs [], vi 0, G none 0 0, G none 0 0] n3 Z Z sz62 Z Z fun n4 ai gz => ?_;have am := ah.wr 0 Z ai;refine Xb (Xc (X6 (Xc (Xe (Xd (vi r6) Z (Xa (X0 r6 0 (decide (r6 < 0)) Z Z Z) (Xf (vb (decide (r6 < 0))) Z (Xb ?_))))))));refine Xu (decide (r6 < 0)) Z (fun g1 => ?_) (fun g1 => ?_)
  ·have H := Xl H g1;refine Xe (Xd (G A1 n2 c3) Z (Xd (vi r5) Z ?_));obtain ⟨jl, H⟩ := H;have g3 := d6.stn af;have g4 := e5.stown _ ag (Xz a2);have g5 := ah.stw 0 Z ai;have e6 := ((((d4.st br).st g3).st g4).st g5);obtain ⟨jm, u7, n5, u8, n6, n8⟩ := e6.get default RD r5 jl;obtain ⟨bs, bt, bu, bv, bw, bx, bz, b0, b1, b2, b3, b4, rfl, jn, jo, jp, jq, jr, js, jt⟩ := kChange.op n6;refine Xa (X3 u23_ Yi A1 jm n2 c3 e6.len r5 Z n5 Z jl) (Xa (Xv ag62 sz62 cL (jm.add (r5.toNat * 11)) [vs ((nth a r5).Id), vb ((nth a r5).Had), vs ((nth a r5).Was.Id), vi ((nth a r5).Was.Shape.Kind), G bs bt bu, G bv bw bx, vb ((nth a r5).Has), vs ((nth a r5).Now.Id), vi ((nth a r5).Now.Shape.Kind), G bz b0 b1, G b2 b3 b4] Z Z n8) (Yf [vs ((nth a r5).Id), vb ((nth a r5).Had), vs ((nth a r5).Was.Id), vi ((nth a r5).Was.Shape.Kind), G bs bt bu, G bv bw bx, vb ((nth a r5).Has), vs ((nth a r5).Now.Id), vi ((nth a r5).Now.Shape.Kind), G bz b0 b1, G b2 b3 b4] gz Z Z sz62 Z Z fun n9 cm ju => ?_));have e7 := am.wr 0 Z cm;refine Xb (Xc (Xe (Xa (Xv ag62 sz62 cL (Ad ad 0) [vs ((nth a r5).Id), vb ((nth a r5).Had), vs ((nth a r5).Was.Id), vi ((nth a r5).Was.Shape.Kind), G bs bt bu, G bv bw bx, vb ((nth a r5).Has), vs ((nth a r5).Now.Id), vi ((nth a r5).Now.Shape.Kind), G bz b0 b1, G b2 b3 b4] Z Z (ju.cells (off := 00) Z)) ?_)));have a5 := am.stw 0 Z cm;refine Xs go53 (F19.calls H e7.ok jn jo (jp.st a5) (jq.st a5) jr (js.st a5) (jt.st a5)) Z ?_;rintro _ oa ⟨r7, rfl, H, ba⟩;have dh := e7.k0 ba;refine Xa (X8 r7 Z) (Xb ?_);refine Xu (!r7) Z (fun g6 => ?_) (fun g6 => ?_)
   ·have H := Xl H g6;refine Xe (Xd (G ac aj ak) Z ?_);have ob := (ju.k0 ba);refine Xa (Xv ag62 sz62 cL (Ad ad 0) [vs ((nth a r5).Id), vb ((nth a r5).Had), vs ((nth a r5).Was.Id), vi ((nth a r5).Was.Shape.Kind), G bs bt bu, G bv bw bx, vb ((nth a r5).Has), vs ((nth a r5).Now.Id), vi ((nth a r5).Now.Shape.Kind), G bz b0 b1, G b2 b3 b4] Z Z (ob.cells (off := 00) Z)) ?_;have dp := e7.stn ba;have oc := ((jp.st a5).st dp);have od := ((jq.st a5).st dp);have oe := ((js.st a5).st dp);have og := ((jt.st a5).st dp);refine Xs go41 (F20.calls H dh.ok jn jo oc od jr oe og) Z ?_;rintro _ jv ⟨r8, an, cn, co, ao, cp, cq, ap, cr, cs, aq, ct, cu, rfl, H, d7, oh, e8, oi, oj, ol, om, on, oo, oq⟩;have jw := dh.owns d7 oh e8;have jx : (dChange_62).D jv ([] ++ ([] ++ (([] ++ (([] ++ [bk an]) ++ [bk ao])) ++ ([] ++ ([] ++ (([] ++ [bk ap]) ++ [bk aq])))))) r8 [vs r8.Id, vb r8.Had, vs r8.Was.Id, vi r8.Was.Shape.Kind, G an cn co, G ao cp cq, vb r8.Has, vs r8.Now.Id, vi r8.Now.Shape.Kind, G ap cr cs, G aq ct cu] := (dChange_62.mk _ r8 oi oj (Ds.ofOw kPt_flat ol) (Ds.ofOw kTag_flat om) on (Ds.ofOw kPt_flat oo) (Ds.ofOw kTag_flat oq));have os : DArr dChange_62 jv (([] ++ ([] ++ (([] ++ (([] ++ [bk an]) ++ [bk ao])) ++ ([] ++ ([] ++ (([] ++ [bk ap]) ++ [bk aq])))))) ++ []) ([r8] : List Change) ([[vs r8.Id, vb r8.Had, vs r8.Was.Id, vi r8.Was.Shape.Kind, G an cn co, G ao cp cq, vb r8.Has, vs r8.Now.Id, vi r8.Now.Shape.Kind, G ap cr cs, G aq ct cu]] : List (List Value)) := ⟨_, _, Z, jx, Z⟩;refine X5 (kd := Kd.cells 11) Yd jw ([[vs r8.Id, vb r8.Had, vs r8.Was.Id, vi r8.Was.Shape.Kind, G an cn co, G ao cp cq, vb r8.Has, vs r8.Now.Id, vi r8.Now.Shape.Kind, G ap cr cs, G aq ct cu]] : List (List Value)) (cells := [vs r8.Id, vb r8.Had, vs r8.Was.Id, vi r8.Was.Shape.Kind, G an cn co, G ao cp cq, vb r8.Has, vs r8.Now.Id, vi r8.Now.Shape.Kind, G ap cr cs, G aq ct cu]) ⟨[vs r8.Id, vb r8.Had, vs r8.Was.Id, vi r8.Was.Shape.Kind, G an cn co, G ao cp cq, vb r8.Has, vs r8.Now.Id, vi r8.Now.Shape.Kind, G ap cr cs, G aq ct cu], _, Z, Dd.raw _ jx, Z⟩ RF fun u9 di ot ou d8 hr414 d9 ov => ?_;have ea : ((bk di :: bk an :: bk ao :: bk ap :: bk aq :: some ad :: bk ac :: bk aa :: (ab ++ [])) : Ob).Perm (bk di :: some ad :: bk ac :: bk aa :: (ab ++ ((([] ++ ([] ++ (([] ++ (([] ++ [bk an]) ++ [bk ao])) ++ ([] ++ ([] ++ (([] ++ [bk ap]) ++ [bk aq])))))) ++ []) ++ []))) := RP;have e9 := d9.perm ea;obtain ⟨ow, H⟩ := H;have ox := (d9.sp ((((am.sw (ah.sw (((cj.sn al).sn af).so _ ag (Xz a2)) 1 0 Z Z Z ai) 1 0 Z Z Z cm).sn ba).sos d7 e8).so _ d8 hr414) ea);have oy := (d9.sp ov ea);have jy := ((((DArr.sm (L := (some ad :: bk ac :: bk aa :: (ab ++ []))) (O := O) (i := 0) (DArr.sm (L := (some ad :: bk ac :: bk aa :: (ab ++ []))) (O := O) (i := 0) (((ck.k0 al).k0 af).k0 ag) ah Z (fun b hb => (mcm (mcm (List.mem_append_left _ hb)))) ai) am Z (fun b hb => (mcm (mcm (List.mem_append_left _ hb)))) cm).k0 ba).k0 d7).k0 d8);have jz := (os.k0 d8);have oz : a1.length + ([[vs r8.Id, vb r8.Had, vs r8.Was.Id, vi r8.Was.Shape.Kind, G an cn co, G ao cp cq, vb r8.Has, vs r8.Now.Id, vi r8.Now.Shape.Kind, G ap cr cs, G aq ct cu]] : List (List Value)).length ≤ 268435456 := by rw [jy.len, jz.len]; exact ow
    refine Yc (kd := Kd.cells 11) Yd e9 (G ac aj ak) a1 ([[vs r8.Id, vb r8.Had, vs r8.Was.Id, vi r8.Was.Shape.Kind, G an cn co, G ao cp cq, vb r8.Has, vs r8.Now.Id, vi r8.Now.Shape.Kind, G ap cr cs, G aq ct cu]] : List (List Value)) Z ox (G di ot ou) Z oy.sx 2 Z oz fun va dq j0 j1 g7 g8 g9 o0 => ?_;have o1 := (DArr.sm (L := (bk di :: some ad :: bk ac :: bk aa :: (ab ++ ((([] ++ ([] ++ (([] ++ (([] ++ [bk an]) ++ [bk ao])) ++ ([] ++ ([] ++ (([] ++ [bk ap]) ++ [bk aq])))))) ++ []) ++ [])))) (O := O) (i := 2) jy e9 Z (fun b hb => (mcm (List.mem_append_left _ hb))) g7);have o2 := (DArr.sm (L := (bk di :: some ad :: bk ac :: bk aa :: (ab ++ ((([] ++ ([] ++ (([] ++ (([] ++ [bk an]) ++ [bk ao])) ++ ([] ++ ([] ++ (([] ++ [bk ap]) ++ [bk aq])))))) ++ []) ++ [])))) (O := O) (i := 2) jz e9 Z (fun b hb => (mcm (List.mem_append_right _ (List.mem_append_left _ hb)))) g7);have o3 := DArr.app o1 o2;have eb : ((bk di :: some ad :: bk dq :: bk aa :: (ab ++ ((([] ++ ([] ++ (([] ++ (([] ++ [bk an]) ++ [bk ao])) ++ ([] ++ ([] ++ (([] ++ [bk ap]) ++ [bk aq])))))) ++ []) ++ []))) : Ob).Perm ((bk di :: []) ++ (some ad :: bk dq :: bk aa :: (ab ++ ((([] ++ ([] ++ (([] ++ (([] ++ [bk an]) ++ [bk ao])) ++ ([] ++ ([] ++ (([] ++ [bk ap]) ++ [bk aq])))))) ++ []) ++ [])))) := RP;have fa := g9.drops eb;have fb : ((some ad :: bk dq :: bk aa :: (ab ++ ((([] ++ ([] ++ (([] ++ (([] ++ [bk an]) ++ [bk ao])) ++ ([] ++ ([] ++ (([] ++ [bk ap]) ++ [bk aq])))))) ++ []) ++ []))) : Ob).Perm (some ad :: bk dq :: bk aa :: ((ab ++ (([] ++ ([] ++ (([] ++ (([] ++ [bk an]) ++ [bk ao])) ++ ([] ++ ([] ++ (([] ++ [bk ap]) ++ [bk aq])))))) ++ [])) ++ [])) := RP;have fc := fa.perm fb;refine Xf (G dq j0 j1) Z (Xb (Xe ?_));obtain ⟨o4, H⟩ := H;refine Xa (Ya v4 1 Z Z o4) (Xd (vi (v4 + 1)) Z (Xb ?_));have o5 := fc.drop 0 Z;obtain ⟨o6, o7⟩ := H;have j2 := dh.stos d7 e8;have j3 := jw.stown _ d8 hr414;have j4 := d9.stp ea;have j5 := fa.stp fb;have j6 := fc.std 0 Z;have o8 := (((((((((e6.st a5).st dp).st j2).st j3).st j4).st g8).st (St.drops _ O eb)).st j5).st j6);have o9 := (((((((((((((d5.st br).st g3).st g4).st g5).st a5).st dp).st j2).st j3).st j4).st g8).st (St.drops _ O eb)).st j5).st j6);have pa := (fc.sd (fa.sp (g9.odr o0 eb 1 Z) fb) 1 0 Z Z Z);have pb := o3;have pd := (fc.sd (fa.sp (g9.odr (e9.sm (d9.sp ((((am.sw (ah.sw (((cl.sn al).sn af).so _ ag (Xz a2)) 2 0 Z Z Z ai) 2 0 Z Z Z cm).sn ba).sos d7 e8).so _ d8 hr414) ea) 3 2 Z Z Z g7 g8) eb 2 Z) fb) 2 0 Z Z Z);exact ⟨((xs4 ++ ([r8] : List Change)), (a1 ++ ([[vs r8.Id, vb r8.Had, vs r8.Was.Id, vi r8.Was.Shape.Kind, G an cn co, G ao cp cq, vb r8.Has, vs r8.Now.Id, vi r8.Now.Shape.Kind, G ap cr cs, G aq ct cu]] : List (List Value))), (ab ++ (([] ++ ([] ++ (([] ++ (([] ++ [bk an]) ++ [bk ao])) ++ ([] ++ ([] ++ (([] ++ [bk ap]) ++ [bk aq])))))) ++ [])), dq, j0, j1, v4 + 1), o7, o6, (Xx Z), o5, o8, o9, pa, pb, pd⟩
   have H := Xm H g6;refine Xw (Xe ?_);obtain ⟨pe, H⟩ := H;refine Xa (Ya v4 1 Z Z pe) (Xd (vi (v4 + 1)) Z (Xb ?_));have pf := dh.drop 0 Z;obtain ⟨pg, ph⟩ := H;have j7 := e7.stn ba;have j8 := dh.std 0 Z;have pi := (((e6.st a5).st j7).st j8);have pj := (((((((d5.st br).st g3).st g4).st g5).st a5).st j7).st j8);have pk := (dh.sd ((am.sw (ah.sw (((cj.sn al).sn af).so _ ag (Xz a2)) 1 0 Z Z Z ai) 1 0 Z Z Z cm).sn ba) 1 0 Z Z Z);have pl := ((DArr.sm (L := (some ad :: bk ac :: bk aa :: (ab ++ []))) (O := O) (i := 0) (DArr.sm (L := (some ad :: bk ac :: bk aa :: (ab ++ []))) (O := O) (i := 0) (((ck.k0 al).k0 af).k0 ag) ah Z (fun b hb => (mcm (mcm (List.mem_append_left _ hb)))) ai) am Z (fun b hb => (mcm (mcm (List.mem_append_left _ hb)))) cm).k0 ba);have pm := (dh.sd ((am.sw (ah.sw (((cl.sn al).sn af).so _ ag (Xz a2)) 2 0 Z Z Z ai) 2 0 Z Z Z cm).sn ba) 2 0 Z Z Z);exact ⟨(xs4, a1, ab, ac, aj, ak, v4 + 1), ph, pg, (Xx Z), pf, pi, pj, pk, pl, pm⟩
  have H := Xm H g1;refine Xc (Xe (Xd (vi r5) Z (Xa (X0 r5 0 (decide (r5 < 0)) Z Z Z) (Xf (vb (decide (r5 < 0))) Z (Xb ?_)))));refine Xu (decide (r5 < 0)) Z (fun ha => ?_) (fun ha => ?_)
  ·have H := Xl H ha;refine Xe (Xd (G A6 n7 c8) Z (Xd (vi r6) Z ?_));obtain ⟨j9, H⟩ := H;have hc := d6.stn af;have hd := e5.stown _ ag (Xz a2);have he := ah.stw 0 Z ai;have fd := ((((d5.st br).st hc).st hd).st he);obtain ⟨ka, vc, pn, vd, po, pp⟩ := fd.get default RD r6 j9;obtain ⟨b5, b6, b7, b8, b9, ca, cb, cc, cd, ce, cf, cg, rfl, kb, kc, ke, kf, kg, kh, ki⟩ := kChange.op po;refine Xa (X3 u23_ Yi A6 ka n7 c8 fd.len r6 Z pn Z j9) (Xa (Xv ag62 sz62 cL (ka.add (r6.toNat * 11)) [vs ((nth b r6).Id), vb ((nth b r6).Had), vs ((nth b r6).Was.Id), vi ((nth b r6).Was.Shape.Kind), G b5 b6 b7, G b8 b9 ca, vb ((nth b r6).Has), vs ((nth b r6).Now.Id), vi ((nth b r6).Now.Shape.Kind), G cb cc cd, G ce cf cg] Z Z pp) (Yf [vs ((nth b r6).Id), vb ((nth b r6).Had), vs ((nth b r6).Was.Id), vi ((nth b r6).Was.Shape.Kind), G b5 b6 b7, G b8 b9 ca, vb ((nth b r6).Has), vs ((nth b r6).Now.Id), vi ((nth b r6).Now.Shape.Kind), G cb cc cd, G ce cf cg] gz Z Z sz62 Z Z fun pq cv kj => ?_));have fe := am.wr 0 Z cv;refine Xb (Xc (Xe (Xa (Xv ag62 sz62 cL (Ad ad 0) [vs ((nth b r6).Id), vb ((nth b r6).Had), vs ((nth b r6).Was.Id), vi ((nth b r6).Was.Shape.Kind), G b5 b6 b7, G b8 b9 ca, vb ((nth b r6).Has), vs ((nth b r6).Now.Id), vi ((nth b r6).Now.Shape.Kind), G cb cc cd, G ce cf cg] Z Z (kj.cells (off := 00) Z)) ?_)));have a6 := am.stw 0 Z cv;refine Xs go53 (F19.calls H fe.ok kb kc (ke.st a6) (kf.st a6) kg (kh.st a6) (ki.st a6)) Z ?_;rintro _ pr ⟨r9, rfl, H, bb⟩;have dj := fe.k0 bb;refine Xa (X8 r9 Z) (Xb ?_);refine Xu (!r9) Z (fun hf => ?_) (fun hf => ?_)
   ·have H := Xl H hf;refine Xe (Xd (G ac aj ak) Z ?_);have ps := (kj.k0 bb);refine Xa (Xv ag62 sz62 cL (Ad ad 0) [vs ((nth b r6).Id), vb ((nth b r6).Had), vs ((nth b r6).Was.Id), vi ((nth b r6).Was.Shape.Kind), G b5 b6 b7, G b8 b9 ca, vb ((nth b r6).Has), vs ((nth b r6).Now.Id), vi ((nth b r6).Now.Shape.Kind), G cb cc cd, G ce cf cg] Z Z (ps.cells (off := 00) Z)) ?_;have dr := fe.stn bb;have pt := ((ke.st a6).st dr);have pu := ((kf.st a6).st dr);have pv := ((kh.st a6).st dr);have pw := ((ki.st a6).st dr);refine Xs go41 (F20.calls H dj.ok kb kc pt pu kg pv pw) Z ?_;rintro _ kk ⟨r10, ar, cw, cx, au, cy, cz, av, c0, c1, aw, c2, c4, rfl, H, ec, px, ff, py, pz, p0, p1, p2, p3, p4⟩;have kl := dj.owns ec px ff;have km : (dChange_62).D kk ([] ++ ([] ++ (([] ++ (([] ++ [bk ar]) ++ [bk au])) ++ ([] ++ ([] ++ (([] ++ [bk av]) ++ [bk aw])))))) r10 [vs r10.Id, vb r10.Had, vs r10.Was.Id, vi r10.Was.Shape.Kind, G ar cw cx, G au cy cz, vb r10.Has, vs r10.Now.Id, vi r10.Now.Shape.Kind, G av c0 c1, G aw c2 c4] := (dChange_62.mk _ r10 py pz (Ds.ofOw kPt_flat p0) (Ds.ofOw kTag_flat p1) p2 (Ds.ofOw kPt_flat p3) (Ds.ofOw kTag_flat p4));have p5 : DArr dChange_62 kk (([] ++ ([] ++ (([] ++ (([] ++ [bk ar]) ++ [bk au])) ++ ([] ++ ([] ++ (([] ++ [bk av]) ++ [bk aw])))))) ++ []) ([r10] : List Change) ([[vs r10.Id, vb r10.Had, vs r10.Was.Id, vi r10.Was.Shape.Kind, G ar cw cx, G au cy cz, vb r10.Has, vs r10.Now.Id, vi r10.Now.Shape.Kind, G av c0 c1, G aw c2 c4]] : List (List Value)) := ⟨_, _, Z, km, Z⟩;refine X5 (kd := Kd.cells 11) Yd kl ([[vs r10.Id, vb r10.Had, vs r10.Was.Id, vi r10.Was.Shape.Kind, G ar cw cx, G au cy cz, vb r10.Has, vs r10.Now.Id, vi r10.Now.Shape.Kind, G av c0 c1, G aw c2 c4]] : List (List Value)) (cells := [vs r10.Id, vb r10.Had, vs r10.Was.Id, vi r10.Was.Shape.Kind, G ar cw cx, G au cy cz, vb r10.Has, vs r10.Now.Id, vi r10.Now.Shape.Kind, G av c0 c1, G aw c2 c4]) ⟨[vs r10.Id, vb r10.Had, vs r10.Was.Id, vi r10.Was.Shape.Kind, G ar cw cx, G au cy cz, vb r10.Has, vs r10.Now.Id, vi r10.Now.Shape.Kind, G av c0 c1, G aw c2 c4], _, Z, Dd.raw _ km, Z⟩ RF fun ve dk p6 p7 ed hr556 ee p8 => ?_;have ef : ((bk dk :: bk ar :: bk au :: bk av :: bk aw :: some ad :: bk ac :: bk aa :: (ab ++ [])) : Ob).Perm (bk dk :: some ad :: bk ac :: bk aa :: (ab ++ ((([] ++ ([] ++ (([] ++ (([] ++ [bk ar]) ++ [bk au])) ++ ([] ++ ([] ++ (([] ++ [bk av]) ++ [bk aw])))))) ++ []) ++ []))) := RP;have fg := ee.perm ef;obtain ⟨p9, H⟩ := H;have qa := (ee.sp ((((am.sw (ah.sw (((cj.sn al).sn af).so _ ag (Xz a2)) 1 0 Z Z Z ai) 1 0 Z Z Z cv).sn bb).sos ec ff).so _ ed hr556) ef);have qb := (ee.sp p8 ef);have kn := ((((DArr.sm (L := (some ad :: bk ac :: bk aa :: (ab ++ []))) (O := O) (i := 0) (DArr.sm (L := (some ad :: bk ac :: bk aa :: (ab ++ []))) (O := O) (i := 0) (((ck.k0 al).k0 af).k0 ag) ah Z (fun b hb => (mcm (mcm (List.mem_append_left _ hb)))) ai) am Z (fun b hb => (mcm (mcm (List.mem_append_left _ hb)))) cv).k0 bb).k0 ec).k0 ed);have ko := (p5.k0 ed);have qc : a1.length + ([[vs r10.Id, vb r10.Had, vs r10.Was.Id, vi r10.Was.Shape.Kind, G ar cw cx, G au cy cz, vb r10.Has, vs r10.Now.Id, vi r10.Now.Shape.Kind, G av c0 c1, G aw c2 c4]] : List (List Value)).length ≤ 268435456 := by rw [kn.len, ko.len]; exact p9
    refine Yc (kd := Kd.cells 11) Yd fg (G ac aj ak) a1 ([[vs r10.Id, vb r10.Had, vs r10.Was.Id, vi r10.Was.Shape.Kind, G ar cw cx, G au cy cz, vb r10.Has, vs r10.Now.Id, vi r10.Now.Shape.Kind, G av c0 c1, G aw c2 c4]] : List (List Value)) Z qa (G dk p6 p7) Z qb.sx 2 Z qc fun vf ds kp kq hg hh hi qd => ?_;have qe := (DArr.sm (L := (bk dk :: some ad :: bk ac :: bk aa :: (ab ++ ((([] ++ ([] ++ (([] ++ (([] ++ [bk ar]) ++ [bk au])) ++ ([] ++ ([] ++ (([] ++ [bk av]) ++ [bk aw])))))) ++ []) ++ [])))) (O := O) (i := 2) kn fg Z (fun b hb => (mcm (List.mem_append_left _ hb))) hg);have qf := (DArr.sm (L := (bk dk :: some ad :: bk ac :: bk aa :: (ab ++ ((([] ++ ([] ++ (([] ++ (([] ++ [bk ar]) ++ [bk au])) ++ ([] ++ ([] ++ (([] ++ [bk av]) ++ [bk aw])))))) ++ []) ++ [])))) (O := O) (i := 2) ko fg Z (fun b hb => (mcm (List.mem_append_right _ (List.mem_append_left _ hb)))) hg);have qg := DArr.app qe qf;have eg : ((bk dk :: some ad :: bk ds :: bk aa :: (ab ++ ((([] ++ ([] ++ (([] ++ (([] ++ [bk ar]) ++ [bk au])) ++ ([] ++ ([] ++ (([] ++ [bk av]) ++ [bk aw])))))) ++ []) ++ []))) : Ob).Perm ((bk dk :: []) ++ (some ad :: bk ds :: bk aa :: (ab ++ ((([] ++ ([] ++ (([] ++ (([] ++ [bk ar]) ++ [bk au])) ++ ([] ++ ([] ++ (([] ++ [bk av]) ++ [bk aw])))))) ++ []) ++ [])))) := RP;have fh := hi.drops eg;have fi : ((some ad :: bk ds :: bk aa :: (ab ++ ((([] ++ ([] ++ (([] ++ (([] ++ [bk ar]) ++ [bk au])) ++ ([] ++ ([] ++ (([] ++ [bk av]) ++ [bk aw])))))) ++ []) ++ []))) : Ob).Perm (some ad :: bk ds :: bk aa :: ((ab ++ (([] ++ ([] ++ (([] ++ (([] ++ [bk ar]) ++ [bk au])) ++ ([] ++ ([] ++ (([] ++ [bk av]) ++ [bk aw])))))) ++ [])) ++ [])) := RP;have fj := fh.perm fi;refine Xf (G ds kp kq) Z (Xb (Xe ?_));obtain ⟨qh, H⟩ := H;refine Xa (Ya v4 1 Z Z qh) (Xd (vi (v4 + 1)) Z (Xb ?_));have qi := fj.drop 0 Z;obtain ⟨qj, qk⟩ := H;have kr := dj.stos ec ff;have ks := kl.stown _ ed hr556;have kt := ee.stp ef;have ku := fh.stp fi;have kv := fj.std 0 Z;have ql := (((((((((((((d4.st br).st hc).st hd).st he).st a6).st dr).st kr).st ks).st kt).st hh).st (St.drops _ O eg)).st ku).st kv);have qm := (((((((((fd.st a6).st dr).st kr).st ks).st kt).st hh).st (St.drops _ O eg)).st ku).st kv);have qn := (fj.sd (fh.sp (hi.odr qd eg 1 Z) fi) 1 0 Z Z Z);have qo := qg;have qp := (fj.sd (fh.sp (hi.odr (fg.sm (ee.sp ((((am.sw (ah.sw (((cl.sn al).sn af).so _ ag (Xz a2)) 2 0 Z Z Z ai) 2 0 Z Z Z cv).sn bb).sos ec ff).so _ ed hr556) ef) 3 2 Z Z Z hg hh) eg 2 Z) fi) 2 0 Z Z Z);exact ⟨((xs4 ++ ([r10] : List Change)), (a1 ++ ([[vs r10.Id, vb r10.Had, vs r10.Was.Id, vi r10.Was.Shape.Kind, G ar cw cx, G au cy cz, vb r10.Has, vs r10.Now.Id, vi r10.Now.Shape.Kind, G av c0 c1, G aw c2 c4]] : List (List Value))), (ab ++ (([] ++ ([] ++ (([] ++ (([] ++ [bk ar]) ++ [bk au])) ++ ([] ++ ([] ++ (([] ++ [bk av]) ++ [bk aw])))))) ++ [])), ds, kp, kq, v4 + 1), qk, qj, (Xx Z), qi, ql, qm, qn, qo, qp⟩
   have H := Xm H hf;refine Xw (Xe ?_);obtain ⟨qq, H⟩ := H;refine Xa (Ya v4 1 Z Z qq) (Xd (vi (v4 + 1)) Z (Xb ?_));have qr := dj.drop 0 Z;obtain ⟨qs, qt⟩ := H;have kx := fe.stn bb;have ky := dj.std 0 Z;have qu := (((((((d4.st br).st hc).st hd).st he).st a6).st kx).st ky);have qv := (((fd.st a6).st kx).st ky);have qw := (dj.sd ((am.sw (ah.sw (((cj.sn al).sn af).so _ ag (Xz a2)) 1 0 Z Z Z ai) 1 0 Z Z Z cv).sn bb) 1 0 Z Z Z);have qx := ((DArr.sm (L := (some ad :: bk ac :: bk aa :: (ab ++ []))) (O := O) (i := 0) (DArr.sm (L := (some ad :: bk ac :: bk aa :: (ab ++ []))) (O := O) (i := 0) (((ck.k0 al).k0 af).k0 ag) ah Z (fun b hb => (mcm (mcm (List.mem_append_left _ hb)))) ai) am Z (fun b hb => (mcm (mcm (List.mem_append_left _ hb)))) cv).k0 bb);have qy := (dj.sd ((am.sw (ah.sw (((cl.sn al).sn af).so _ ag (Xz a2)) 2 0 Z Z Z ai) 2 0 Z Z Z cv).sn bb) 2 0 Z Z Z);exact ⟨(xs4, a1, ab, ac, aj, ak, v4 + 1), qt, qs, (Xx Z), qr, qu, qv, qw, qx, qy⟩
  have H := Xm H ha;refine Xc (Xc (Yy (fun x => Gr n4 x none) RK RK (Gr.drew _) ?_));refine Xy (G A1 n2 c3) Z (Xy (vi r5) Z ?_);obtain ⟨kz, H⟩ := H;have k1 := d6.stn af;have k2 := e5.stown _ ag (Xz a2);have k3 := ah.stw 0 Z ai;have eh := ((((d4.st br).st k1).st k2).st k3);obtain ⟨fk, vg, qz, vh, q1, q2⟩ := eh.get default RD r5 kz;obtain ⟨vj, vk, vl, vm, vn, vo, vp, vq, vr, vt, vu, vv, rfl, vw, vx, vy, vz, v0, v1, v3⟩ := kChange.op q1;refine Xg (X3 u23_ Yi A1 fk n2 c3 eh.len r5 Z qz Z kz) (Xg (Xj fa62_3 (fk.add (r5.toNat * 11)) ((fk.add (r5.toNat * 11)).add 6) Z Z) (Xg (Xo ag4 cQ ((fk.add (r5.toNat * 11)).add 6) (vb ((nth a r5).Has)) Z (q2 6 _ Z)) (Xy (G A6 n7 c8) Z (Xy (vi r6) Z ?_))));obtain ⟨k4, H⟩ := H;have ei := ((((d5.st br).st k1).st k2).st k3);obtain ⟨fl, v5, q3, v6, q4, q5⟩ := ei.get default RD r6 k4;obtain ⟨v7, v9, wa, wb, wc, wd, we, wf, wg, wh, wi, wj, rfl, wk, wl, wm, wn, wo, wp, wq⟩ := kChange.op q4;refine Xg (X3 u23_ Yi A6 fl n7 c8 ei.len r6 Z q3 Z k4) (Xg (Xj fa62_1 (fl.add (r6.toNat * 11)) ((fl.add (r6.toNat * 11)).add 1) Z Z) (Xg (Xo ag4 cQ ((fl.add (r6.toNat * 11)).add 1) (vb ((nth b r6).Had)) Z (q5 1 _ Z)) (Xg (Zi u4_ ((nth a r5).Has) ((nth b r6).Had) (((nth a r5).Has) != ((nth b r6).Had)) Z Z Z) (Xy (vb (((nth a r5).Has) != ((nth b r6).Had))) Z ?_))));rcases X4 (((nth a r5).Has) != ((nth b r6).Had)) with ae | ae
  ·have H := Xl H ae;refine Xq ae Z (Xq ae Z (Xq ae Z (Xq ae Z (Xq ae Z (Xq ae Z (Xq ae Z (Xq ae Z (Xq ae Z ?_))))))));refine Xq ae Z (Xq ae Z (Xq ae Z (Xg (Xk true (vb true) ae Z) (Ye fun q6 q7 => ?_))));have q8 := am.k0 q7;refine Yu (b := true) Z Z ?_;refine Xc ?_;have q9 : ((some ad :: bk ac :: bk aa :: (ab ++ [])) : Ob).Perm ((some ad :: bk ac :: bk aa :: (ab ++ [])) ++ []) := RP;have ra := q8.drops q9;refine Xe ?_;have rb : DArr dChange_62 q6 ([] : Ob) ([] : List Change) ([] : List (List Value)) := Z;refine X5 (kd := Kd.cells 11) Yd ra ([] : List (List Value)) (cells := []) Z RF fun ws ej hj hk rc hr687 k5 rd => ?_;have k6 : ([bk ej] : Ob).Perm (bk ej :: (([] : Ob) ++ [])) := RP;have hl := k5.perm k6;refine Xf (G ej hj hk) Z (Xf (vb false) Z (Xb (Xn ?_)));have re := (k5.sp rd k6);have rf := (rb.k0 rc);exact ⟨[G ej hj hk, vb false], ⟨_, Z, ⟨_, Z, Z⟩⟩, ([] : List Change), false, ej, hj, hk, ([] : Ob), ([] : List (List Value)), Z, H, hl.gr.g0, hl.ok, hl.ge, re, rf⟩
  have H := Xm H ae;refine Xp ae Z (Xy (G A1 n2 c3) Z (Xp ae Z (Xy (vi r5) Z (Xp ae Z ?_))));obtain ⟨k7, H⟩ := H;obtain ⟨fm, wt, rg, wu, rh, ri⟩ := eh.get default RD r5 k7;obtain ⟨wv, ww, wx, wy, wz, w1, hm, hn, ho, hp, hq, hr, rfl, w2, w3, w4, w5, rj, rk, rl⟩ := kChange.op rh;refine Xg (X3 u23_ Yi A1 fm n2 c3 eh.len r5 Z rg Z k7) (Xp ae Z (Xg (Xj fa62_4 (fm.add (r5.toNat * 11)) ((fm.add (r5.toNat * 11)).add 7) Z Z) (Xp ae Z (Xg (Xv ag44 sz44 cQ ((fm.add (r5.toNat * 11)).add 7) [vs ((nth a r5).Now.Id), vi ((nth a r5).Now.Shape.Kind), G hm hn ho, G hp hq hr] Z Z (sub_cells (off := 7) ri Z)) (Xp ae Z (Xy (G A6 n7 c8) Z (Xp ae Z (Xy (vi r6) Z ?_))))))));refine Xp ae Z ?_;obtain ⟨k8, H⟩ := H;obtain ⟨fn, w6, rm, w7, rn, ro⟩ := ei.get default RD r6 k8;obtain ⟨hs, ht, hu, hv, hw, hx, w8, w9, xa, xb, xc, xd, rfl, xe, rp, rq, rr, xf, xg, xh⟩ := kChange.op rn;refine Xg (X3 u23_ Yi A6 fn n7 c8 ei.len r6 Z rm Z k8) (Xp ae Z (Xg (Xj fa62_2 (fn.add (r6.toNat * 11)) ((fn.add (r6.toNat * 11)).add 2) Z Z) (Xp ae Z (Xg (Xv ag44 sz44 cQ ((fn.add (r6.toNat * 11)).add 2) [vs ((nth b r6).Was.Id), vi ((nth b r6).Was.Shape.Kind), G hs ht hu, G hv hw hx] Z Z (sub_cells (off := 2) ro Z)) (Xp ae Z ?_)))));obtain ⟨q, rs, H⟩ := H;refine Y2 go28 [.agg #[vs ((nth a r5).Now.Id), vi ((nth a r5).Now.Shape.Kind), G hm hn ho, G hp hq hr], .agg #[vs ((nth b r6).Was.Id), vi ((nth b r6).Was.Shape.Kind), G hs ht hu, G hv hw hx]] Z (vb q) (fun w g => (F46.calls rs (am.k0 g).ok rj (rk.st (.new _ g)) (rl.st (.new _ g)) rp (rq.st (.new _ g)) (rr.st (.new _ g))).mono ?_) ?_
  ·rintro _ w ⟨r, rfl, rfl, g2⟩;exact ⟨Z, Gr.t0 g g2⟩
  refine Xp ae Z (Xg (X8 q Z) (Xg (Xk false (vb (!q)) ae Z) (Ye fun rt ch => ?_)));have hy := am.k0 ch;refine Xu (!q) Z (fun hz => ?_) (fun hz => ?_)
  ·have H := Xl H hz;refine Xc ?_;have ru : ((some ad :: bk ac :: bk aa :: (ab ++ [])) : Ob).Perm ((some ad :: bk ac :: bk aa :: (ab ++ [])) ++ []) := RP;have rv := hy.drops ru;refine Xe ?_;have rx : DArr dChange_62 rt ([] : Ob) ([] : List Change) ([] : List (List Value)) := Z;refine X5 (kd := Kd.cells 11) Yd rv ([] : List (List Value)) (cells := []) Z RF fun xi ek h0 h1 ry hr775 k9 rz => ?_;have la : ([bk ek] : Ob).Perm (bk ek :: (([] : Ob) ++ [])) := RP;have h2 := k9.perm la;refine Xf (G ek h0 h1) Z (Xf (vb false) Z (Xb (Xn ?_)));have sa := (k9.sp rz la);have sb := (rx.k0 ry);exact ⟨[G ek h0 h1, vb false], ⟨_, Z, ⟨_, Z, Z⟩⟩, ([] : List Change), false, ek, h0, h1, ([] : Ob), ([] : List (List Value)), Z, H, h2.gr.g0, h2.ok, h2.ge, sa, sb⟩
  have H := Xm H hz;refine Xw (Ki 22 RK RK fun xj ci => ?_);have c5 := hy.k0 ci;refine Y7 (Yl (vs (nth r4 v4)) Z) ?_;refine Y7 (Yl (G A1 n2 c3) Z) ?_;refine Y7 (Yl (vi r5) Z) ?_;obtain ⟨lb, H⟩ := H;have lc := am.stn ch;have ld := hy.stn ci;have dt := ((eh.st lc).st ld);obtain ⟨fo, xk, sc, xl, se, sf⟩ := dt.get default RD r5 lb;obtain ⟨xm, xn, xo, xp, xq, xr, xs, xt, xu, xv, xw, xx, rfl, xy, xz, x0, x1, x2, x3, x4⟩ := kChange.op se;refine Y7 (X3 u23_ Yi A1 fo n2 c3 dt.len r5 Z sc Z lb) ?_;refine Y7 (Xj fa62_1 (fo.add (r5.toNat * 11)) ((fo.add (r5.toNat * 11)).add 1) Z Z) ?_;refine Y7 (Xo ag4 cL ((fo.add (r5.toNat * 11)).add 1) (vb ((nth a r5).Had)) Z (sf 1 _ Z)) ?_;refine Y7 (Yl (G A1 n2 c3) Z) ?_;refine Y7 (Yl (vi r5) Z) ?_;obtain ⟨lf, H⟩ := H;obtain ⟨fp, x5, sg, x6, sh, si⟩ := dt.get default RD r5 lf;obtain ⟨bc, bd, be, bf, bg, bh, x7, x8, x9, ya, yb, yc, rfl, yd, lg, lh, li, ye, yf, yg⟩ := kChange.op sh;refine Y7 (X3 u23_ Yi A1 fp n2 c3 dt.len r5 Z sg Z lf) ?_;refine Y7 (Xj fa62_2 (fp.add (r5.toNat * 11)) ((fp.add (r5.toNat * 11)).add 2) Z Z) ?_;refine Y7 (Xv ag44 sz44 cL ((fp.add (r5.toNat * 11)).add 2) [vs ((nth a r5).Was.Id), vi ((nth a r5).Was.Shape.Kind), G bc bd be, G bf bg bh] Z Z (sub_cells (off := 2) si Z)) ?_;refine Y7 (Yl (G A6 n7 c8) Z) ?_;refine Y7 (Yl (vi r6) Z) ?_;obtain ⟨lj, H⟩ := H;have du := ((ei.st lc).st ld);obtain ⟨fq, yh, sj, yi, sk, sq⟩ := du.get default RD r6 lj;obtain ⟨yj, yk, yl, ym, yn, yo, yp, yq, yr, ys, yt, yu, rfl, yv, yw, yx, yy, yz, y0, y1⟩ := kChange.op sk;refine Y7 (X3 u23_ Yi A6 fq n7 c8 du.len r6 Z sj Z lj) ?_;refine Y7 (Xj fa62_3 (fq.add (r6.toNat * 11)) ((fq.add (r6.toNat * 11)).add 6) Z Z) ?_;refine Y7 (Xo ag4 cL ((fq.add (r6.toNat * 11)).add 6) (vb ((nth b r6).Has)) Z (sq 6 _ Z)) ?_;refine Y7 (Yl (G A6 n7 c8) Z) ?_;refine Y7 (Yl (vi r6) Z) ?_;obtain ⟨lk, H⟩ := H;obtain ⟨fr, y2, sr, y3, ss, su⟩ := du.get default RD r6 lk;obtain ⟨y4, y5, y6, y7, y8, y9, bi, bj, bl, bm, bn, bo, rfl, za, zb, zc, zd, ll, lm, ln⟩ := kChange.op ss;refine Y7 (X3 u23_ Yi A6 fr n7 c8 du.len r6 Z sr Z lk) ?_;refine Y7 (Xj fa62_4 (fr.add (r6.toNat * 11)) ((fr.add (r6.toNat * 11)).add 7) Z Z) ?_;refine Y7 (Xv ag44 sz44 cL ((fr.add (r6.toNat * 11)).add 7) [vs ((nth b r6).Now.Id), vi ((nth b r6).Now.Shape.Kind), G bi bj bl, G bm bn bo] Z Z (sub_cells (off := 7) su Z)) ?_;refine Y7 (Yr (.agg #[vs (nth r4 v4), vb ((nth a r5).Had), vs ((nth a r5).Was.Id), vi ((nth a r5).Was.Shape.Kind), G bc bd be, G bf bg bh, vb ((nth b r6).Has), vs ((nth b r6).Now.Id), vi ((nth b r6).Now.Shape.Kind), G bi bj bl, G bm bn bo]) RF) ?_;refine Kj ?_;have sv := ((gz.k0 ch).k0 ci);refine Yf [vs (nth r4 v4), vb ((nth a r5).Had), vs ((nth a r5).Was.Id), vi ((nth a r5).Was.Shape.Kind), G bc bd be, G bf bg bh, vb ((nth b r6).Has), vs ((nth b r6).Now.Id), vi ((nth b r6).Now.Shape.Kind), G bi bj bl, G bm bn bo] sv Z Z sz62 Z Z fun sy c6 lo => ?_;have fs := c5.wr 0 Z c6;refine Xb (Xc (Xe (Xa (Xv ag62 sz62 cL (Ad ad 0) [vs (nth r4 v4), vb ((nth a r5).Had), vs ((nth a r5).Was.Id), vi ((nth a r5).Was.Shape.Kind), G bc bd be, G bf bg bh, vb ((nth b r6).Has), vs ((nth b r6).Now.Id), vi ((nth b r6).Now.Shape.Kind), G bi bj bl, G bm bn bo] Z Z (lo.cells (off := 00) Z)) ?_)));have a7 := c5.stw 0 Z c6;refine Xs go53 (F19.calls H fs.ok e4 lg (lh.st a7) (li.st a7) ll (lm.st a7) (ln.st a7)) Z ?_;rintro _ sz ⟨r12, rfl, H, bp⟩;have dl := fs.k0 bp;refine Xa (X8 r12 Z) (Xb ?_);refine Xu (!r12) Z (fun h3 => ?_) (fun h3 => ?_)
  ·have H := Xl H h3;refine Xe (Xd (G ac aj ak) Z ?_);have s0 := (lo.k0 bp);refine Xa (Xv ag62 sz62 cL (Ad ad 0) [vs (nth r4 v4), vb ((nth a r5).Had), vs ((nth a r5).Was.Id), vi ((nth a r5).Was.Shape.Kind), G bc bd be, G bf bg bh, vb ((nth b r6).Has), vs ((nth b r6).Now.Id), vi ((nth b r6).Now.Shape.Kind), G bi bj bl, G bm bn bo] Z Z (s0.cells (off := 00) Z)) ?_;have dv := fs.stn bp;have s1 := ((lh.st a7).st dv);have s2 := ((li.st a7).st dv);have s3 := ((lm.st a7).st dv);have s4 := ((ln.st a7).st dv);refine Xs go41 (F20.calls H dl.ok e4 lg s1 s2 ll s3 s4) Z ?_;rintro _ lp ⟨r13, ax, c7, c9, ay, da, db, az, dc, dd, a0, de, df, rfl, H, el, s5, ft, s6, s7, s8, s9, ta, tb, tc⟩;have lq := dl.owns el s5 ft;have lr : (dChange_62).D lp ([] ++ ([] ++ (([] ++ (([] ++ [bk ax]) ++ [bk ay])) ++ ([] ++ ([] ++ (([] ++ [bk az]) ++ [bk a0])))))) r13 [vs r13.Id, vb r13.Had, vs r13.Was.Id, vi r13.Was.Shape.Kind, G ax c7 c9, G ay da db, vb r13.Has, vs r13.Now.Id, vi r13.Now.Shape.Kind, G az dc dd, G a0 de df] := (dChange_62.mk _ r13 s6 s7 (Ds.ofOw kPt_flat s8) (Ds.ofOw kTag_flat s9) ta (Ds.ofOw kPt_flat tb) (Ds.ofOw kTag_flat tc));have td : DArr dChange_62 lp (([] ++ ([] ++ (([] ++ (([] ++ [bk ax]) ++ [bk ay])) ++ ([] ++ ([] ++ (([] ++ [bk az]) ++ [bk a0])))))) ++ []) ([r13] : List Change) ([[vs r13.Id, vb r13.Had, vs r13.Was.Id, vi r13.Was.Shape.Kind, G ax c7 c9, G ay da db, vb r13.Has, vs r13.Now.Id, vi r13.Now.Shape.Kind, G az dc dd, G a0 de df]] : List (List Value)) := ⟨_, _, Z, lr, Z⟩;refine X5 (kd := Kd.cells 11) Yd lq ([[vs r13.Id, vb r13.Had, vs r13.Was.Id, vi r13.Was.Shape.Kind, G ax c7 c9, G ay da db, vb r13.Has, vs r13.Now.Id, vi r13.Now.Shape.Kind, G az dc dd, G a0 de df]] : List (List Value)) (cells := [vs r13.Id, vb r13.Had, vs r13.Was.Id, vi r13.Was.Shape.Kind, G ax c7 c9, G ay da db, vb r13.Has, vs r13.Now.Id, vi r13.Now.Shape.Kind, G az dc dd, G a0 de df]) ⟨[vs r13.Id, vb r13.Had, vs r13.Was.Id, vi r13.Was.Shape.Kind, G ax c7 c9, G ay da db, vb r13.Has, vs r13.Now.Id, vi r13.Now.Shape.Kind, G az dc dd, G a0 de df], _, Z, Dd.raw _ lr, Z⟩ RF fun ze dm te tf em hr965 en tg => ?_;have eo : ((bk dm :: bk ax :: bk ay :: bk az :: bk a0 :: some ad :: bk ac :: bk aa :: (ab ++ [])) : Ob).Perm (bk dm :: some ad :: bk ac :: bk aa :: (ab ++ ((([] ++ ([] ++ (([] ++ (([] ++ [bk ax]) ++ [bk ay])) ++ ([] ++ ([] ++ (([] ++ [bk az]) ++ [bk a0])))))) ++ []) ++ []))) := RP;have fu := en.perm eo;obtain ⟨th, H⟩ := H;have ti := (en.sp ((((c5.sw (((ah.sw (((cj.sn al).sn af).so _ ag (Xz a2)) 1 0 Z Z Z ai).sn ch).sn ci) 1 0 Z Z Z c6).sn bp).sos el ft).so _ em hr965) eo);have tj := (en.sp tg eo);have ls := ((((DArr.sm (L := (some ad :: bk ac :: bk aa :: (ab ++ []))) (O := O) (i := 0) (((DArr.sm (L := (some ad :: bk ac :: bk aa :: (ab ++ []))) (O := O) (i := 0) (((ck.k0 al).k0 af).k0 ag) ah Z (fun b hb => (mcm (mcm (List.mem_append_left _ hb)))) ai).k0 ch).k0 ci) c5 Z (fun b hb => (mcm (mcm (List.mem_append_left _ hb)))) c6).k0 bp).k0 el).k0 em);have lt := (td.k0 em);have tk : a1.length + ([[vs r13.Id, vb r13.Had, vs r13.Was.Id, vi r13.Was.Shape.Kind, G ax c7 c9, G ay da db, vb r13.Has, vs r13.Now.Id, vi r13.Now.Shape.Kind, G az dc dd, G a0 de df]] : List (List Value)).length ≤ 268435456 := by rw [ls.len, lt.len]; exact th
   refine Yc (kd := Kd.cells 11) Yd fu (G ac aj ak) a1 ([[vs r13.Id, vb r13.Had, vs r13.Was.Id, vi r13.Was.Shape.Kind, G ax c7 c9, G ay da db, vb r13.Has, vs r13.Now.Id, vi r13.Now.Shape.Kind, G az dc dd, G a0 de df]] : List (List Value)) Z ti (G dm te tf) Z tj.sx 2 Z tk fun zf dw lu lv h4 h5 h6 tl => ?_;have tm := (DArr.sm (L := (bk dm :: some ad :: bk ac :: bk aa :: (ab ++ ((([] ++ ([] ++ (([] ++ (([] ++ [bk ax]) ++ [bk ay])) ++ ([] ++ ([] ++ (([] ++ [bk az]) ++ [bk a0])))))) ++ []) ++ [])))) (O := O) (i := 2) ls fu Z (fun b hb => (mcm (List.mem_append_left _ hb))) h4);have tn := (DArr.sm (L := (bk dm :: some ad :: bk ac :: bk aa :: (ab ++ ((([] ++ ([] ++ (([] ++ (([] ++ [bk ax]) ++ [bk ay])) ++ ([] ++ ([] ++ (([] ++ [bk az]) ++ [bk a0])))))) ++ []) ++ [])))) (O := O) (i := 2) lt fu Z (fun b hb => (mcm (List.mem_append_right _ (List.mem_append_left _ hb)))) h4);have tp := DArr.app tm tn;have ep : ((bk dm :: some ad :: bk dw :: bk aa :: (ab ++ ((([] ++ ([] ++ (([] ++ (([] ++ [bk ax]) ++ [bk ay])) ++ ([] ++ ([] ++ (([] ++ [bk az]) ++ [bk a0])))))) ++ []) ++ []))) : Ob).Perm ((bk dm :: []) ++ (some ad :: bk dw :: bk aa :: (ab ++ ((([] ++ ([] ++ (([] ++ (([] ++ [bk ax]) ++ [bk ay])) ++ ([] ++ ([] ++ (([] ++ [bk az]) ++ [bk a0])))))) ++ []) ++ [])))) := RP;have fv := h6.drops ep;have fw : ((some ad :: bk dw :: bk aa :: (ab ++ ((([] ++ ([] ++ (([] ++ (([] ++ [bk ax]) ++ [bk ay])) ++ ([] ++ ([] ++ (([] ++ [bk az]) ++ [bk a0])))))) ++ []) ++ []))) : Ob).Perm (some ad :: bk dw :: bk aa :: ((ab ++ (([] ++ ([] ++ (([] ++ (([] ++ [bk ax]) ++ [bk ay])) ++ ([] ++ ([] ++ (([] ++ [bk az]) ++ [bk a0])))))) ++ [])) ++ [])) := RP;have fx := fv.perm fw;refine Xf (G dw lu lv) Z (Xb (Xe ?_));obtain ⟨tq, H⟩ := H;refine Xa (Ya v4 1 Z Z tq) (Xd (vi (v4 + 1)) Z (Xb ?_));have tr := fx.drop 0 Z;obtain ⟨ts, tt⟩ := H;have lw := dl.stos el ft;have lx := lq.stown _ em hr965;have ly := en.stp eo;have lz := fv.stp fw;have l0 := fx.std 0 Z;have tu := (((((((((dt.st a7).st dv).st lw).st lx).st ly).st h5).st (St.drops _ O ep)).st lz).st l0);have tv := (((((((((du.st a7).st dv).st lw).st lx).st ly).st h5).st (St.drops _ O ep)).st lz).st l0);have tw := (fx.sd (fv.sp (h6.odr tl ep 1 Z) fw) 1 0 Z Z Z);have tx := tp;have ty := (fx.sd (fv.sp (h6.odr (fu.sm (en.sp ((((c5.sw (((ah.sw (((cl.sn al).sn af).so _ ag (Xz a2)) 2 0 Z Z Z ai).sn ch).sn ci) 2 0 Z Z Z c6).sn bp).sos el ft).so _ em hr965) eo) 3 2 Z Z Z h4 h5) ep 2 Z) fw) 2 0 Z Z Z);exact ⟨((xs4 ++ ([r13] : List Change)), (a1 ++ ([[vs r13.Id, vb r13.Had, vs r13.Was.Id, vi r13.Was.Shape.Kind, G ax c7 c9, G ay da db, vb r13.Has, vs r13.Now.Id, vi r13.Now.Shape.Kind, G az dc dd, G a0 de df]] : List (List Value))), (ab ++ (([] ++ ([] ++ (([] ++ (([] ++ [bk ax]) ++ [bk ay])) ++ ([] ++ ([] ++ (([] ++ [bk az]) ++ [bk a0])))))) ++ [])), dw, lu, lv, v4 + 1), tt, ts, (Xx Z), tr, tu, tv, tw, tx, ty⟩
  have H := Xm H h3;refine Xw (Xe ?_);obtain ⟨tz, H⟩ := H;refine Xa (Ya v4 1 Z Z tz) (Xd (vi (v4 + 1)) Z (Xb ?_));have t1 := dl.drop 0 Z;obtain ⟨t2, t3⟩ := H;have l1 := fs.stn bp;have l2 := dl.std 0 Z;have t4 := (((dt.st a7).st l1).st l2);have t5 := (((du.st a7).st l1).st l2);have t6 := (dl.sd ((c5.sw (((ah.sw (((cj.sn al).sn af).so _ ag (Xz a2)) 1 0 Z Z Z ai).sn ch).sn ci) 1 0 Z Z Z c6).sn bp) 1 0 Z Z Z);have t7 := ((DArr.sm (L := (some ad :: bk ac :: bk aa :: (ab ++ []))) (O := O) (i := 0) (((DArr.sm (L := (some ad :: bk ac :: bk aa :: (ab ++ []))) (O := O) (i := 0) (((ck.k0 al).k0 af).k0 ag) ah Z (fun b hb => (mcm (mcm (List.mem_append_left _ hb)))) ai).k0 ch).k0 ci) c5 Z (fun b hb => (mcm (mcm (List.mem_append_left _ hb)))) c6).k0 bp);have t8 := (dl.sd ((c5.sw (((ah.sw (((cl.sn al).sn af).so _ ag (Xz a2)) 2 0 Z Z Z ai).sn ch).sn ci) 2 0 Z Z Z c6).sn bp) 2 0 Z Z Z);exact ⟨(xs4, a1, ab, ac, aj, ak, v4 + 1), t3, t2, (Xx Z), t1, t4, t5, t6, t7, t8⟩
 have H := Xm H gy;refine Yh (xin_hit ?_);refine Xc (Xc (Xe (Xd (G ac aj ak) Z ?_)));have t9 : ((bk ac :: bk aa :: (ab ++ [])) : Ob).Perm (bk ac :: (ab ++ [bk aa])) := RP;obtain ⟨ua, ub, zg⟩ := Dp.gv (L := (bk ac :: bk aa :: (ab ++ []))) (O := O) (v := G ac aj ak) cj ck d3 t9;refine Xs go17 (F100.calls H ub.ok ua) Z ?_;rintro _ uc ⟨r14, rfl, H, h7⟩;have h8 := d3.k0 h7;refine Xa (X8 r14 Z) (Xb ?_);refine Xu (!r14) Z (fun h9 => ?_) (fun h9 => ?_)
 ·have H := Xl H h9;refine Xc (Xe ?_);have ud : DArr dChange_62 uc ([] : Ob) ([] : List Change) ([] : List (List Value)) := Z;refine X5 (kd := Kd.cells 11) Yd h8 ([] : List (List Value)) (cells := []) Z RF fun zh dn ia ib ue hr1037 l3 uf => ?_;have l4 : ((bk dn :: bk ac :: bk aa :: (ab ++ [])) : Ob).Perm (bk dn :: bk ac :: bk aa :: (ab ++ (([] : Ob) ++ []))) := RP;have l5 := l3.perm l4;refine Xf (G dn ia ib) Z (Xf (vb false) Z (Xb (Xn ?_)));have l6 : ((bk dn :: bk ac :: bk aa :: (ab ++ (([] : Ob) ++ []))) : Ob).Perm ((bk ac :: (ab ++ [])) ++ (bk dn :: bk aa :: (([] : Ob) ++ []))) := RP;have l7 := l5.drops l6;have ic := l7.drop 1 Z;have ug := (l7.sd (l5.odr (l3.sp uf l4) l6 0 Z) 0 1 Z Z Z);have uh := (ud.k0 ue);exact ⟨[G dn ia ib, vb false], ⟨_, Z, ⟨_, Z, Z⟩⟩, ([] : List Change), false, dn, ia, ib, ([] : Ob), ([] : List (List Value)), Z, H, ic.gr.g0, ic.ok, ic.ge, ug, uh⟩
 have H := Xm H h9;refine Xw (Xc (Xe (Xd (G ac aj ak) Z (Xf (G ac aj ak) Z (Xf (vb true) Z (Xb (Xn ?_)))))));have id := h8.drop 1 Z;have ui := (h8.sd (cj.sn h7) 0 1 Z Z Z);have uj := (ck.k0 h7);exact ⟨[G ac aj ak, vb true], ⟨_, Z, ⟨_, Z, Z⟩⟩, xs4, true, ac, aj, ak, ab, a1, Z, H, id.gr.g0, id.ok, id.ge, ui, uj⟩
def F130.E (c_ : Change) (Q : Bool → Prop) : Prop :=
 F85.E c_.Id (fun r => (if !r then Q false else (if !c_.Had then (if !c_.Has then Q false else (if c_.Had then (if c_.Has then F45.E c_.Was c_.Now (fun r2 => (if r2 then Q false else F45.E c_.Was (⟨[], (⟨0, []⟩ : Shape), []⟩ : Feat) (fun r3 => (if !r3 then Q false else F87.E c_.Now (fun r4 => (if r4 then Q (c_.Now.Id == c_.Id) else Q false)))))) else F45.E c_.Was (⟨[], (⟨0, []⟩ : Shape), []⟩ : Feat) (fun r5 => (if !r5 then Q false else F87.E c_.Now (fun r6 => (if r6 then Q (c_.Now.Id == c_.Id) else Q false))))) else F45.E c_.Was (⟨[], (⟨0, []⟩ : Shape), []⟩ : Feat) (fun r7 => (if !r7 then Q false else F87.E c_.Now (fun r8 => (if r8 then Q (c_.Now.Id == c_.Id) else Q false)))))) else (if c_.Had then (if c_.Has then F45.E c_.Was c_.Now (fun r9 => (if r9 then Q false else (if !c_.Has then F45.E c_.Now (⟨[], (⟨0, []⟩ : Shape), []⟩ : Feat) (fun r10 => (if !r10 then Q false else F87.E c_.Was (fun r11 => (if r11 then (if c_.Was.Id == c_.Id then Q true else Q false) else Q false)))) else F87.E c_.Was (fun r12 => (if r12 then (if c_.Was.Id == c_.Id then F87.E c_.Now (fun r13 => (if r13 then Q (c_.Now.Id == c_.Id) else Q false)) else Q false) else Q false))))) else (if !c_.Has then F45.E c_.Now (⟨[], (⟨0, []⟩ : Shape), []⟩ : Feat) (fun r14 => (if !r14 then Q false else F87.E c_.Was (fun r15 => (if r15 then (if c_.Was.Id == c_.Id then Q true else Q false) else Q false)))) else F87.E c_.Was (fun r16 => (if r16 then (if c_.Was.Id == c_.Id then F87.E c_.Now (fun r17 => (if r17 then Q (c_.Now.Id == c_.Id) else Q false)) else Q false) else Q false)))) else (if !c_.Has then F45.E c_.Now (⟨[], (⟨0, []⟩ : Shape), []⟩ : Feat) (fun r18 => (if !r18 then Q false else F87.E c_.Was (fun r19 => (if r19 then (if c_.Was.Id == c_.Id then Q true else Q false) else Q false)))) else F87.E c_.Was (fun r20 => (if r20 then (if c_.Was.Id == c_.Id then F87.E c_.Now (fun r21 => (if r21 then Q (c_.Now.Id == c_.Id) else Q false)) else Q false) else Q false)))))))
theorem F130.calls {c_ : Change} {A3 : Option Addr} {n4 c5 : Nat} {A8 : Option Addr} {n9 ae : Nat} {af : Option Addr} {ag ah : Nat} {ai : Option Addr} {aj ak : Nat} {Q : Bool → Prop} (H : F130.E c_ Q) (hO : Ok w0 O) (hs1 : Lim c_.Id) (hs2 : Lim c_.Was.Id) (hp6 : Sl kPt w0 (Fr O) (G A3 n4 c5) c_.Was.Shape.Pts) (bf : Sl kTag w0 (Fr O) (G A8 n9 ae) c_.Was.Tags) (bg : Lim c_.Now.Id) (bh : Sl kPt w0 (Fr O) (G af ag ah) c_.Now.Shape.Pts) (bi : Sl kTag w0 (Fr O) (G ai aj ak) c_.Now.Tags) :
  Ret Tryz.prog 46 [.agg #[vs c_.Id, vb c_.Had, vs c_.Was.Id, vi c_.Was.Shape.Kind, G A3 n4 c5, G A8 n9 ae, vb c_.Has, vs c_.Now.Id, vi c_.Now.Shape.Kind, G af ag ah, G ai aj ak]] w0 (fun v w' => ∃ (r0 : Bool), v = vb r0 ∧ Q r0 ∧ Gr w0 w' none) := by
 unfold F130.E at H;have hc0 := Ct.init hO;refine Yb Tryz.func46 Z 88 Z [.tmp 2] Z Z ?_;refine Xc (Xe (Yq [vs c_.Id, vb c_.Had, vs c_.Was.Id, vi c_.Was.Shape.Kind, G A3 n4 c5, G A8 n9 ae, vb c_.Has, vs c_.Now.Id, vi c_.Now.Shape.Kind, G af ag ah, G ai aj ak] Z fun dn aa dp hu28 dq dr => ?_));have cm := Fb.mk hc0.ok dp dr;have b6 := hc0.k0 dq;refine Xf (vb false) Z (Xb (Xc (Xc (Xe (Xa (Xj fa62_0 (Ad aa 0) (Ad aa 0) Z Z) (Xa (Xo ag9 cL (Ad aa 0) (vs c_.Id) Z (cm.cell Z)) ?_))))));refine Xs go65 (F85.calls H b6.ok hs1) Z ?_;rintro _ bn ⟨r, rfl, H, cn⟩;have ad := b6.k0 cn;refine Xa (X8 r Z) (Xd (vb (!r)) Z ?_);rcases X4 (!r) with ap | ap
 ·have H := Xl H ap;refine Xi ap Z (Xi ap Z (Xi ap Z (Xi ap Z (Xr Z (Xr Z (Xr Z (Xi ap Z (Xa (Xk true (vb true) ap Z) ?_))))))));refine Xd (vb true) Z (X7 (dj := 17) Z Z (.inl Z) (X7 (dj := 17) Z Z (.inl Z) (X7 (dj := 17) Z Z (.inl Z) (Xr Z (Xr Z (X7 (dj := 17) Z Z (.inl Z) (X7 (dj := 17) Z Z (.inl Z) (Xr Z ?_))))))));refine Xr Z (Xr Z (Xr Z (Xr Z (X7 (dj := 17) Z Z (.inl Z) (Xa (Xk true (vb true) Z Z) (Xb (Yu (b := true) Z Z ?_)))))));exact Xc (Xe (Xf (vb false) Z (Xb (Xn ⟨[vb false], ⟨_, Z, Z⟩, false, Z, H, ad.gr.g0⟩))))
 have H := Xm H ap;refine Xh ap Z (Xa (Xj fa62_1 (Ad aa 0) (Ad aa 1) Z Z) (Xh ap Z ?_));have ds := b6.stn cn;have al := (cm.st ds);refine Xa (Xo ag4 cL (Ad aa 1) (vb c_.Had) Z (al.cell Z)) (Xh ap Z (Xa (X8 c_.Had Z) (Xh ap Z (Xd (vb (!c_.Had)) Z ?_))));rcases X4 (!c_.Had) with ab | ab
 ·have H := Xl H ab;refine Xh ab Z (Xa (Xj fa62_3 (Ad aa 0) (Ad aa 6) Z Z) (Xh ab Z (Xa (Xo ag4 cL (Ad aa 6) (vb c_.Has) Z (al.cell Z)) (Xh ab Z (Xa (X8 c_.Has Z) (Xh ap Z (Xa (Xk true (vb (!c_.Has)) ab Z) (Xa (Xk false (vb (!c_.Has)) ap Z) ?_))))))));refine Xd (vb (!c_.Has)) Z ?_;rcases X4 (!c_.Has) with ac | ac
  ·have H := Xl H ac;refine Xi ac Z (Xi ac Z (Xi ac Z (Xr Z (Xr Z (Xi ac Z (Xi ac Z (Xr Z (Xr Z ?_))))))));refine Xr Z (Xr Z (Xr Z (Xi ac Z (Xa (Xk true (vb true) ac Z) (Xb (Yu (b := true) Z Z ?_))))));exact Xc (Xe (Xf (vb false) Z (Xb (Xn ⟨[vb false], ⟨_, Z, Z⟩, false, Z, H, ad.gr.g0⟩))))
  have H := Xm H ac;refine Xh ac Z (Xa (Xj fa62_1 (Ad aa 0) (Ad aa 1) Z Z) (Xh ac Z (Xa (Xo ag4 cL (Ad aa 1) (vb c_.Had) Z (al.cell Z)) (Xh ac Z (Xd (vb c_.Had) Z ?_)))));rcases X4 c_.Had with bl | bl
  ·have H := Xl H bl;refine Xh bl Z (Xa (Xj fa62_3 (Ad aa 0) (Ad aa 6) Z Z) (Xh bl Z (Xa (Xo ag4 cL (Ad aa 6) (vb c_.Has) Z (al.cell Z)) (Xh ac Z (Xa (Xk true (vb c_.Has) bl Z) (Xh ac Z (Xd (vb c_.Has) Z ?_)))))));rcases X4 c_.Has with a7 | a7
   ·have H := Xl H a7;refine Xh a7 Z (Xa (Xj fa62_2 (Ad aa 0) (Ad aa 2) Z Z) (Xh a7 Z (Xa (Xv ag44 sz44 cL (Ad aa 2) [vs c_.Was.Id, vi c_.Was.Shape.Kind, G A3 n4 c5, G A8 n9 ae] Z Z (al.cells (off := 2) Z)) (Xh a7 Z (Xa (Xj fa62_4 (Ad aa 0) (Ad aa 7) Z Z) (Xh a7 Z (Xa (Xv ag44 sz44 cL (Ad aa 7) [vs c_.Now.Id, vi c_.Now.Shape.Kind, G af ag ah, G ai aj ak] Z Z (al.cells (off := 7) Z)) (Xh a7 Z ?_))))))));refine Xs go94 (F45.calls H ad.ok hs2 (hp6.st ad.st) (bf.st ad.st) bg (bh.st ad.st) (bi.st ad.st)) Z ?_;rintro _ dt ⟨r2, rfl, H, co⟩;have bs := ad.k0 co;refine Xh ac Z (Xa (Xk true (vb r2) a7 Z) (Xa (Xk false (vb r2) ac Z) (Xb ?_)));refine Xu r2 Z (fun b7 => ?_) (fun b7 => ?_)
    ·have H := Xl H b7;exact Xc (Xe (Xf (vb false) Z (Xb (Xn ⟨[vb false], ⟨_, Z, Z⟩, false, Z, H, bs.gr.g0⟩))))
    have H := Xm H b7;refine Xw (Xc (Xc (Xe (Xa (Xj fa62_1 (Ad aa 0) (Ad aa 1) Z Z) ?_))));have du := ad.stn co;have b8 := (al.st du);refine Xa (Xo ag4 cL (Ad aa 1) (vb c_.Had) Z (b8.cell Z)) (Xa (X8 c_.Had Z) (Xd (vb (!c_.Had)) Z (Xh ab Z (Xa (Xj fa62_2 (Ad aa 0) (Ad aa 2) Z Z) (Xh ab Z (Xa (Xv ag44 sz44 cL (Ad aa 2) [vs c_.Was.Id, vi c_.Was.Shape.Kind, G A3 n4 c5, G A8 n9 ae] Z Z (b8.cells (off := 2) Z)) (Xh ab Z (Xa (Yr (.agg #[vs [], vi 0, G none 0 0, G none 0 0]) RF) ?_))))))));refine Xh ab Z ?_;refine Xs go94 (F45.calls H bs.ok hs2 (hp6.st bs.st) (bf.st bs.st) RD (Sl.nil _ _ _ none 0 RD) (Sl.nil _ _ _ none 0 RD)) Z ?_;rintro _ dv ⟨r3, rfl, H, cp⟩;have bt := bs.k0 cp;refine Xh ab Z (Xa (X8 r3 Z) (Xa (Xk true (vb (!r3)) ab Z) (Xd (vb (!r3)) Z ?_)));rcases X4 (!r3) with a8 | a8
    ·have H := Xl H a8;refine Xi a8 Z (Xi a8 Z (Xi a8 Z (Xi a8 Z (Xr Z (Xr Z (Xr Z (Xr Z (Xr Z ?_))))))));refine Xi a8 Z (Xa (Xk true (vb true) a8 Z) (Xb (Yu (b := true) Z Z ?_)));exact Xc (Xe (Xf (vb false) Z (Xb (Xn ⟨[vb false], ⟨_, Z, Z⟩, false, Z, H, bt.gr.g0⟩))))
    have H := Xm H a8;refine Xh a8 Z (Xa (Xj fa62_3 (Ad aa 0) (Ad aa 6) Z Z) (Xh a8 Z ?_));have dw := bs.stn cp;have b0 := (b8.st dw);refine Xa (Xo ag4 cL (Ad aa 6) (vb c_.Has) Z (b0.cell Z)) (Xh a8 Z (Xa (X8 c_.Has Z) (Xh a8 Z (Xd (vb (!c_.Has)) Z (Xi ac Z (Xi ac Z (Xi ac Z (Xi ac Z ?_))))))));refine Xi ac Z (Xh a8 Z (Xa (Xk false (vb false) ac Z) (Xa (Xk false (vb false) a8 Z) (Xb (Y6 (b := false) Z Z ?_)))));refine Xw (Xc (Xe (Xa (Xj fa62_1 (Ad aa 0) (Ad aa 1) Z Z) (Xa (Xo ag4 cL (Ad aa 1) (vb c_.Had) Z (b0.cell Z)) (Xa (X8 c_.Had Z) (Xd (vb (!c_.Had)) Z (Xi ab Z (Xi ab Z ?_))))))));refine Xi ab Z (Xi ab Z (Xr Z (Xr Z (Xr Z (Xr Z (Xr Z (Xr Z (Xi ab Z ?_))))))));refine Xa (Xk true (vb true) ab Z) (Xd (vb true) Z (Yg (dj := 70) Z Z Z (Xa (Xj fa62_3 (Ad aa 0) (Ad aa 6) Z Z) (Yg (dj := 70) Z Z Z (Xa (Xo ag4 cL (Ad aa 6) (vb c_.Has) Z (b0.cell Z)) (Yg (dj := 70) Z Z Z (Xa (X8 c_.Has Z) (Yg (dj := 70) Z Z Z ?_))))))));refine Xd (vb (!c_.Has)) Z (Xh ac Z (Xa (Xj fa62_4 (Ad aa 0) (Ad aa 7) Z Z) (Xh ac Z (Xa (Xv ag44 sz44 cL (Ad aa 7) [vs c_.Now.Id, vi c_.Now.Shape.Kind, G af ag ah, G ai aj ak] Z Z (b0.cells (off := 7) Z)) (Xh ac Z ?_)))));refine Xs go24 (F87.calls H bt.ok bg (bh.st bt.st) (bi.st bt.st)) Z ?_;rintro _ en ⟨r4, rfl, H, cq⟩;have cr := bt.k0 cq;refine Xh ac Z (Xd (vb r4) Z ?_);rcases X4 r4 with aq | aq
    ·have H := Xl H aq;refine Xh aq Z (Xa (Xj fa62_4 (Ad aa 0) (Ad aa 7) Z Z) (Xh aq Z (Xa (Xj fa44_0 (Ad aa 7) (Ad aa 7) Z Z) (Xh aq Z ?_))));have dx := bt.stn cq;have cs := (b0.st dx);refine Xa (Xo ag9 cL (Ad aa 7) (vs c_.Now.Id) Z (cs.cell Z)) (Xh aq Z (Xa (Xj fa62_0 (Ad aa 0) (Ad aa 0) Z Z) (Xh aq Z (Xa (Xo ag9 cL (Ad aa 0) (vs c_.Id) Z (cs.cell Z)) (Xh aq Z (Xa (Yt c_.Now.Id c_.Id (c_.Now.Id == c_.Id) Z Z Z) (Xh ac Z (Xa (Xk true (vb (c_.Now.Id == c_.Id)) aq Z) ?_))))))));exact Yg (dj := 70) Z Z Z (Xa (Xk false (vb (c_.Now.Id == c_.Id)) ac Z) (Xa (Xk true (vb (c_.Now.Id == c_.Id)) Z Z) (Xf (vb (c_.Now.Id == c_.Id)) Z (Xb (Xn ⟨[vb (c_.Now.Id == c_.Id)], ⟨_, Z, Z⟩, c_.Now.Id == c_.Id, Z, H, cr.gr.g0⟩)))))
    have H := Xm H aq;refine Xi aq Z (Xi aq Z (Xi aq Z (Xi aq Z (Xi aq Z (Xi aq Z (Xh ac Z (Xa (Xk false (vb false) aq Z) (Yg (dj := 70) Z Z Z ?_))))))));exact Xa (Xk false (vb false) ac Z) (Xa (Xk true (vb false) Z Z) (Xf (vb false) Z (Xb (Xn ⟨[vb false], ⟨_, Z, Z⟩, false, Z, H, cr.gr.g0⟩))))
   have H := Xm H a7;refine Xi a7 Z (Xi a7 Z (Xi a7 Z (Xi a7 Z (Xi a7 Z (Xh ac Z (Xa (Xk false (vb false) a7 Z) (Xa (Xk false (vb false) ac Z) (Xb ?_))))))));refine Y6 (b := false) Z Z ?_;refine Xw (Xc (Xc (Xe (Xa (Xj fa62_1 (Ad aa 0) (Ad aa 1) Z Z) (Xa (Xo ag4 cL (Ad aa 1) (vb c_.Had) Z (al.cell Z)) (Xa (X8 c_.Had Z) (Xd (vb (!c_.Had)) Z (Xh ab Z ?_))))))));refine Xa (Xj fa62_2 (Ad aa 0) (Ad aa 2) Z Z) (Xh ab Z (Xa (Xv ag44 sz44 cL (Ad aa 2) [vs c_.Was.Id, vi c_.Was.Shape.Kind, G A3 n4 c5, G A8 n9 ae] Z Z (al.cells (off := 2) Z)) (Xh ab Z (Xa (Yr (.agg #[vs [], vi 0, G none 0 0, G none 0 0]) RF) (Xh ab Z ?_)))));refine Xs go94 (F45.calls H ad.ok hs2 (hp6.st ad.st) (bf.st ad.st) RD (Sl.nil _ _ _ none 0 RD) (Sl.nil _ _ _ none 0 RD)) Z ?_;rintro _ dy ⟨r5, rfl, H, ct⟩;have bu := ad.k0 ct;refine Xh ab Z (Xa (X8 r5 Z) (Xa (Xk true (vb (!r5)) ab Z) (Xd (vb (!r5)) Z ?_)));rcases X4 (!r5) with a9 | a9
   ·have H := Xl H a9;refine Xi a9 Z (Xi a9 Z (Xi a9 Z (Xi a9 Z (Xr Z (Xr Z (Xr Z (Xr Z (Xr Z ?_))))))));refine Xi a9 Z (Xa (Xk true (vb true) a9 Z) (Xb (Yu (b := true) Z Z ?_)));exact Xc (Xe (Xf (vb false) Z (Xb (Xn ⟨[vb false], ⟨_, Z, Z⟩, false, Z, H, bu.gr.g0⟩))))
   have H := Xm H a9;refine Xh a9 Z (Xa (Xj fa62_3 (Ad aa 0) (Ad aa 6) Z Z) (Xh a9 Z ?_));have dz := ad.stn ct;have b1 := (al.st dz);refine Xa (Xo ag4 cL (Ad aa 6) (vb c_.Has) Z (b1.cell Z)) (Xh a9 Z (Xa (X8 c_.Has Z) (Xh a9 Z (Xd (vb (!c_.Has)) Z (Xi ac Z (Xi ac Z (Xi ac Z (Xi ac Z ?_))))))));refine Xi ac Z (Xh a9 Z (Xa (Xk false (vb false) ac Z) (Xa (Xk false (vb false) a9 Z) (Xb (Y6 (b := false) Z Z ?_)))));refine Xw (Xc (Xe (Xa (Xj fa62_1 (Ad aa 0) (Ad aa 1) Z Z) (Xa (Xo ag4 cL (Ad aa 1) (vb c_.Had) Z (b1.cell Z)) (Xa (X8 c_.Had Z) (Xd (vb (!c_.Had)) Z (Xi ab Z (Xi ab Z ?_))))))));refine Xi ab Z (Xi ab Z (Xr Z (Xr Z (Xr Z (Xr Z (Xr Z (Xr Z (Xi ab Z ?_))))))));refine Xa (Xk true (vb true) ab Z) (Xd (vb true) Z (Yg (dj := 70) Z Z Z (Xa (Xj fa62_3 (Ad aa 0) (Ad aa 6) Z Z) (Yg (dj := 70) Z Z Z (Xa (Xo ag4 cL (Ad aa 6) (vb c_.Has) Z (b1.cell Z)) (Yg (dj := 70) Z Z Z (Xa (X8 c_.Has Z) (Yg (dj := 70) Z Z Z ?_))))))));refine Xd (vb (!c_.Has)) Z (Xh ac Z (Xa (Xj fa62_4 (Ad aa 0) (Ad aa 7) Z Z) (Xh ac Z (Xa (Xv ag44 sz44 cL (Ad aa 7) [vs c_.Now.Id, vi c_.Now.Shape.Kind, G af ag ah, G ai aj ak] Z Z (b1.cells (off := 7) Z)) (Xh ac Z ?_)))));refine Xs go24 (F87.calls H bu.ok bg (bh.st bu.st) (bi.st bu.st)) Z ?_;rintro _ eo ⟨r6, rfl, H, cu⟩;have cv := bu.k0 cu;refine Xh ac Z (Xd (vb r6) Z ?_);rcases X4 r6 with ar | ar
   ·have H := Xl H ar;refine Xh ar Z (Xa (Xj fa62_4 (Ad aa 0) (Ad aa 7) Z Z) (Xh ar Z (Xa (Xj fa44_0 (Ad aa 7) (Ad aa 7) Z Z) (Xh ar Z ?_))));have d0 := bu.stn cu;have cw := (b1.st d0);refine Xa (Xo ag9 cL (Ad aa 7) (vs c_.Now.Id) Z (cw.cell Z)) (Xh ar Z (Xa (Xj fa62_0 (Ad aa 0) (Ad aa 0) Z Z) (Xh ar Z (Xa (Xo ag9 cL (Ad aa 0) (vs c_.Id) Z (cw.cell Z)) (Xh ar Z (Xa (Yt c_.Now.Id c_.Id (c_.Now.Id == c_.Id) Z Z Z) (Xh ac Z (Xa (Xk true (vb (c_.Now.Id == c_.Id)) ar Z) ?_))))))));exact Yg (dj := 70) Z Z Z (Xa (Xk false (vb (c_.Now.Id == c_.Id)) ac Z) (Xa (Xk true (vb (c_.Now.Id == c_.Id)) Z Z) (Xf (vb (c_.Now.Id == c_.Id)) Z (Xb (Xn ⟨[vb (c_.Now.Id == c_.Id)], ⟨_, Z, Z⟩, c_.Now.Id == c_.Id, Z, H, cv.gr.g0⟩)))))
   have H := Xm H ar;refine Xi ar Z (Xi ar Z (Xi ar Z (Xi ar Z (Xi ar Z (Xi ar Z (Xh ac Z (Xa (Xk false (vb false) ar Z) (Yg (dj := 70) Z Z Z ?_))))))));exact Xa (Xk false (vb false) ac Z) (Xa (Xk true (vb false) Z Z) (Xf (vb false) Z (Xb (Xn ⟨[vb false], ⟨_, Z, Z⟩, false, Z, H, cv.gr.g0⟩))))
  have H := Xm H bl;refine Xi bl Z (Xi bl Z (Xh ac Z (Xa (Xk false (vb false) bl Z) (Xh ac Z (Xd (vb false) Z (X7 (dj := 24) Z Z (.inl Z) (X7 (dj := 24) Z Z (.inl Z) (X7 (dj := 24) Z Z (.inl Z) ?_))))))));refine X7 (dj := 24) Z Z (.inl Z) (X7 (dj := 24) Z Z (.inl Z) (Xh ac Z (Xa (Xk false (vb false) Z Z) (Xa (Xk false (vb false) ac Z) (Xb (Y6 (b := false) Z Z ?_))))));refine Xw (Xc (Xc (Xe (Xa (Xj fa62_1 (Ad aa 0) (Ad aa 1) Z Z) (Xa (Xo ag4 cL (Ad aa 1) (vb c_.Had) Z (al.cell Z)) (Xa (X8 c_.Had Z) (Xd (vb (!c_.Had)) Z (Xh ab Z ?_))))))));refine Xa (Xj fa62_2 (Ad aa 0) (Ad aa 2) Z Z) (Xh ab Z (Xa (Xv ag44 sz44 cL (Ad aa 2) [vs c_.Was.Id, vi c_.Was.Shape.Kind, G A3 n4 c5, G A8 n9 ae] Z Z (al.cells (off := 2) Z)) (Xh ab Z (Xa (Yr (.agg #[vs [], vi 0, G none 0 0, G none 0 0]) RF) (Xh ab Z ?_)))));refine Xs go94 (F45.calls H ad.ok hs2 (hp6.st ad.st) (bf.st ad.st) RD (Sl.nil _ _ _ none 0 RD) (Sl.nil _ _ _ none 0 RD)) Z ?_;rintro _ d1 ⟨r7, rfl, H, cx⟩;have bv := ad.k0 cx;refine Xh ab Z (Xa (X8 r7 Z) (Xa (Xk true (vb (!r7)) ab Z) (Xd (vb (!r7)) Z ?_)));rcases X4 (!r7) with ba | ba
  ·have H := Xl H ba;refine Xi ba Z (Xi ba Z (Xi ba Z (Xi ba Z (Xr Z (Xr Z (Xr Z (Xr Z (Xr Z ?_))))))));refine Xi ba Z (Xa (Xk true (vb true) ba Z) (Xb (Yu (b := true) Z Z ?_)));exact Xc (Xe (Xf (vb false) Z (Xb (Xn ⟨[vb false], ⟨_, Z, Z⟩, false, Z, H, bv.gr.g0⟩))))
  have H := Xm H ba;refine Xh ba Z (Xa (Xj fa62_3 (Ad aa 0) (Ad aa 6) Z Z) (Xh ba Z ?_));have d2 := ad.stn cx;have b2 := (al.st d2);refine Xa (Xo ag4 cL (Ad aa 6) (vb c_.Has) Z (b2.cell Z)) (Xh ba Z (Xa (X8 c_.Has Z) (Xh ba Z (Xd (vb (!c_.Has)) Z (Xi ac Z (Xi ac Z (Xi ac Z (Xi ac Z ?_))))))));refine Xi ac Z (Xh ba Z (Xa (Xk false (vb false) ac Z) (Xa (Xk false (vb false) ba Z) (Xb (Y6 (b := false) Z Z ?_)))));refine Xw (Xc (Xe (Xa (Xj fa62_1 (Ad aa 0) (Ad aa 1) Z Z) (Xa (Xo ag4 cL (Ad aa 1) (vb c_.Had) Z (b2.cell Z)) (Xa (X8 c_.Had Z) (Xd (vb (!c_.Had)) Z (Xi ab Z (Xi ab Z ?_))))))));refine Xi ab Z (Xi ab Z (Xr Z (Xr Z (Xr Z (Xr Z (Xr Z (Xr Z (Xi ab Z ?_))))))));refine Xa (Xk true (vb true) ab Z) (Xd (vb true) Z (Yg (dj := 70) Z Z Z (Xa (Xj fa62_3 (Ad aa 0) (Ad aa 6) Z Z) (Yg (dj := 70) Z Z Z (Xa (Xo ag4 cL (Ad aa 6) (vb c_.Has) Z (b2.cell Z)) (Yg (dj := 70) Z Z Z (Xa (X8 c_.Has Z) (Yg (dj := 70) Z Z Z ?_))))))));refine Xd (vb (!c_.Has)) Z (Xh ac Z (Xa (Xj fa62_4 (Ad aa 0) (Ad aa 7) Z Z) (Xh ac Z (Xa (Xv ag44 sz44 cL (Ad aa 7) [vs c_.Now.Id, vi c_.Now.Shape.Kind, G af ag ah, G ai aj ak] Z Z (b2.cells (off := 7) Z)) (Xh ac Z ?_)))));refine Xs go24 (F87.calls H bv.ok bg (bh.st bv.st) (bi.st bv.st)) Z ?_;rintro _ ep ⟨r8, rfl, H, cy⟩;have cz := bv.k0 cy;refine Xh ac Z (Xd (vb r8) Z ?_);rcases X4 r8 with au | au
  ·have H := Xl H au;refine Xh au Z (Xa (Xj fa62_4 (Ad aa 0) (Ad aa 7) Z Z) (Xh au Z (Xa (Xj fa44_0 (Ad aa 7) (Ad aa 7) Z Z) (Xh au Z ?_))));have d3 := bv.stn cy;have c0 := (b2.st d3);refine Xa (Xo ag9 cL (Ad aa 7) (vs c_.Now.Id) Z (c0.cell Z)) (Xh au Z (Xa (Xj fa62_0 (Ad aa 0) (Ad aa 0) Z Z) (Xh au Z (Xa (Xo ag9 cL (Ad aa 0) (vs c_.Id) Z (c0.cell Z)) (Xh au Z (Xa (Yt c_.Now.Id c_.Id (c_.Now.Id == c_.Id) Z Z Z) (Xh ac Z (Xa (Xk true (vb (c_.Now.Id == c_.Id)) au Z) ?_))))))));exact Yg (dj := 70) Z Z Z (Xa (Xk false (vb (c_.Now.Id == c_.Id)) ac Z) (Xa (Xk true (vb (c_.Now.Id == c_.Id)) Z Z) (Xf (vb (c_.Now.Id == c_.Id)) Z (Xb (Xn ⟨[vb (c_.Now.Id == c_.Id)], ⟨_, Z, Z⟩, c_.Now.Id == c_.Id, Z, H, cz.gr.g0⟩)))))
  have H := Xm H au;refine Xi au Z (Xi au Z (Xi au Z (Xi au Z (Xi au Z (Xi au Z (Xh ac Z (Xa (Xk false (vb false) au Z) (Yg (dj := 70) Z Z Z ?_))))))));exact Xa (Xk false (vb false) ac Z) (Xa (Xk true (vb false) Z Z) (Xf (vb false) Z (Xb (Xn ⟨[vb false], ⟨_, Z, Z⟩, false, Z, H, cz.gr.g0⟩))))
 have H := Xm H ab;refine Xi ab Z (Xi ab Z (Xi ab Z (Xh ap Z (Xa (Xk false (vb false) ab Z) (Xa (Xk false (vb false) ap Z) (Xd (vb false) Z (Yg (dj := 17) Z Z Z (Xa (Xj fa62_1 (Ad aa 0) (Ad aa 1) Z Z) ?_))))))));refine Yg (dj := 17) Z Z Z (Xa (Xo ag4 cL (Ad aa 1) (vb c_.Had) Z (al.cell Z)) (Yg (dj := 17) Z Z Z (Xd (vb c_.Had) Z ?_)));rcases X4 c_.Had with bm | bm
 ·have H := Xl H bm;refine Xh bm Z (Xa (Xj fa62_3 (Ad aa 0) (Ad aa 6) Z Z) (Xh bm Z (Xa (Xo ag4 cL (Ad aa 6) (vb c_.Has) Z (al.cell Z)) (Yg (dj := 17) Z Z Z (Xa (Xk true (vb c_.Has) bm Z) (Yg (dj := 17) Z Z Z (Xd (vb c_.Has) Z ?_)))))));rcases X4 c_.Has with bb | bb
  ·have H := Xl H bb;refine Xh bb Z (Xa (Xj fa62_2 (Ad aa 0) (Ad aa 2) Z Z) (Xh bb Z (Xa (Xv ag44 sz44 cL (Ad aa 2) [vs c_.Was.Id, vi c_.Was.Shape.Kind, G A3 n4 c5, G A8 n9 ae] Z Z (al.cells (off := 2) Z)) (Xh bb Z (Xa (Xj fa62_4 (Ad aa 0) (Ad aa 7) Z Z) (Xh bb Z (Xa (Xv ag44 sz44 cL (Ad aa 7) [vs c_.Now.Id, vi c_.Now.Shape.Kind, G af ag ah, G ai aj ak] Z Z (al.cells (off := 7) Z)) (Xh bb Z ?_))))))));refine Xs go94 (F45.calls H ad.ok hs2 (hp6.st ad.st) (bf.st ad.st) bg (bh.st ad.st) (bi.st ad.st)) Z ?_;rintro _ c1 ⟨r9, rfl, H, c2⟩;have bj := ad.k0 c2;refine Yg (dj := 17) Z Z Z (Xa (Xk true (vb r9) bb Z) (Xa (Xk false (vb r9) Z Z) (Xb ?_)));refine Xu r9 Z (fun b9 => ?_) (fun b9 => ?_)
   ·have H := Xl H b9;exact Xc (Xe (Xf (vb false) Z (Xb (Xn ⟨[vb false], ⟨_, Z, Z⟩, false, Z, H, bj.gr.g0⟩))))
   have H := Xm H b9;refine Xw (Xc (Xc (Xe (Xa (Xj fa62_1 (Ad aa 0) (Ad aa 1) Z Z) ?_))));have d4 := ad.stn c2;have bo := (al.st d4);refine Xa (Xo ag4 cL (Ad aa 1) (vb c_.Had) Z (bo.cell Z)) (Xa (X8 c_.Had Z) (Xd (vb (!c_.Had)) Z (Xi ab Z (Xi ab Z (Xi ab Z (Xi ab Z (Xi ab Z (Xa (Xk false (vb false) ab Z) ?_))))))));refine Xd (vb false) Z (Yg (dj := 42) Z Z Z (Xa (Xj fa62_3 (Ad aa 0) (Ad aa 6) Z Z) (Yg (dj := 42) Z Z Z (Xa (Xo ag4 cL (Ad aa 6) (vb c_.Has) Z (bo.cell Z)) (Yg (dj := 42) Z Z Z (Xa (X8 c_.Has Z) (Yg (dj := 42) Z Z Z (Xd (vb (!c_.Has)) Z ?_))))))));rcases X4 (!c_.Has) with am | am
   ·have H := Xl H am;refine Xh am Z (Xa (Xj fa62_4 (Ad aa 0) (Ad aa 7) Z Z) (Xh am Z (Xa (Xv ag44 sz44 cL (Ad aa 7) [vs c_.Now.Id, vi c_.Now.Shape.Kind, G af ag ah, G ai aj ak] Z Z (bo.cells (off := 7) Z)) (Xh am Z (Xa (Yr (.agg #[vs [], vi 0, G none 0 0, G none 0 0]) RF) (Xh am Z ?_))))));refine Xs go94 (F45.calls H bj.ok bg (bh.st bj.st) (bi.st bj.st) RD (Sl.nil _ _ _ none 0 RD) (Sl.nil _ _ _ none 0 RD)) Z ?_;rintro _ d5 ⟨r10, rfl, H, c3⟩;have bw := bj.k0 c3;refine Xh am Z (Xa (X8 r10 Z) (Yg (dj := 42) Z Z Z (Xa (Xk true (vb (!r10)) am Z) (Xa (Xk false (vb (!r10)) Z Z) (Xb ?_)))));refine Xu (!r10) Z (fun ca => ?_) (fun ca => ?_)
    ·have H := Xl H ca;exact Xc (Xe (Xf (vb false) Z (Xb (Xn ⟨[vb false], ⟨_, Z, Z⟩, false, Z, H, bw.gr.g0⟩))))
    have H := Xm H ca;refine Xw (Xc (Xe (Xa (Xj fa62_1 (Ad aa 0) (Ad aa 1) Z Z) ?_)));have d6 := bj.stn c3;have cb := (bo.st d6);refine Xa (Xo ag4 cL (Ad aa 1) (vb c_.Had) Z (cb.cell Z)) (Xa (X8 c_.Had Z) (Xd (vb (!c_.Had)) Z (Xh ab Z (Xa (Xj fa62_2 (Ad aa 0) (Ad aa 2) Z Z) (Xh ab Z (Xa (Xv ag44 sz44 cL (Ad aa 2) [vs c_.Was.Id, vi c_.Was.Shape.Kind, G A3 n4 c5, G A8 n9 ae] Z Z (cb.cells (off := 2) Z)) (Xh ab Z ?_)))))));refine Xs go24 (F87.calls H bw.ok hs2 (hp6.st bw.st) (bf.st bw.st)) Z ?_;rintro _ eq ⟨r11, rfl, H, c4⟩;have cc := bw.k0 c4;refine Xh ab Z (Xd (vb r11) Z ?_);rcases X4 r11 with av | av
    ·have H := Xl H av;refine Xh av Z (Xa (Xj fa62_2 (Ad aa 0) (Ad aa 2) Z Z) (Xh av Z (Xa (Xj fa44_0 (Ad aa 2) (Ad aa 2) Z Z) (Xh av Z ?_))));have d7 := bw.stn c4;have cd := (cb.st d7);refine Xa (Xo ag9 cL (Ad aa 2) (vs c_.Was.Id) Z (cd.cell Z)) (Xh av Z (Xa (Xj fa62_0 (Ad aa 0) (Ad aa 0) Z Z) (Xh av Z (Xa (Xo ag9 cL (Ad aa 0) (vs c_.Id) Z (cd.cell Z)) (Xh av Z (Xa (Yt c_.Was.Id c_.Id (c_.Was.Id == c_.Id) Z Z Z) (Xh ab Z (Xa (Xk true (vb (c_.Was.Id == c_.Id)) av Z) ?_))))))));refine Xa (Xk false (vb (c_.Was.Id == c_.Id)) ab Z) (Xd (vb (c_.Was.Id == c_.Id)) Z ?_);rcases X4 (c_.Was.Id == c_.Id) with bc | bc
     ·have H := Xl H bc;refine Xh bc Z (Xa (Xj fa62_3 (Ad aa 0) (Ad aa 6) Z Z) (Xh bc Z (Xa (Xo ag4 cL (Ad aa 6) (vb c_.Has) Z (cd.cell Z)) (Xh bc Z (Xa (X8 c_.Has Z) (Xh bc Z (Xd (vb (!c_.Has)) Z (Xi am Z ?_))))))));refine Xi am Z (Xi am Z (Xi am Z (Xr Z (Xr Z (Xr Z (Xr Z (Xr Z (Xr Z ?_))))))));exact Xi am Z (Xh bc Z (Xa (Xk true (vb true) am Z) (Xa (Xk true (vb true) bc Z) (Xf (vb true) Z (Xb (Xn ⟨[vb true], ⟨_, Z, Z⟩, true, Z, H, cc.gr.g0⟩))))))
     have H := Xm H bc;refine Xi bc Z (Xi bc Z (Xi bc Z (Xi bc Z (Xr Z (Xr Z (Xr Z (Xr Z (Xr Z ?_))))))));refine Xr Z (Xr Z (Xr Z (Xr Z (Xr Z (Xr Z (Xi bc Z (Xa (Xk false (vb false) bc Z) (Xf (vb false) Z ?_))))))));exact Xb (Xn ⟨[vb false], ⟨_, Z, Z⟩, false, Z, H, cc.gr.g0⟩)
    have H := Xm H av;refine Xi av Z (Xi av Z (Xi av Z (Xi av Z (Xi av Z (Xi av Z (Xh ab Z (Xa (Xk false (vb false) av Z) (Xa (Xk false (vb false) ab Z) ?_))))))));refine Xd (vb false) Z (X7 (dj := 70) Z Z (.inl Z) (X7 (dj := 70) Z Z (.inl Z) (X7 (dj := 70) Z Z (.inl Z) (X7 (dj := 70) Z Z (.inl Z) (Xr Z (Xr Z (Xr Z (Xr Z ?_))))))));refine Xr Z (Xr Z (Xr Z (Xr Z (Xr Z (Xr Z (Xr Z (X7 (dj := 70) Z Z (.inl Z) (Xa (Xk false (vb false) Z Z) ?_))))))));exact Xf (vb false) Z (Xb (Xn ⟨[vb false], ⟨_, Z, Z⟩, false, Z, H, cc.gr.g0⟩))
   have H := Xm H am;refine Xi am Z (Xi am Z (Xi am Z (Xi am Z (Xi am Z (Yg (dj := 42) Z Z Z (Xa (Xk false (vb false) am Z) (Xa (Xk false (vb false) Z Z) (Xb ?_))))))));refine Y6 (b := false) Z Z ?_;refine Xw (Xc (Xe (Xa (Xj fa62_1 (Ad aa 0) (Ad aa 1) Z Z) (Xa (Xo ag4 cL (Ad aa 1) (vb c_.Had) Z (bo.cell Z)) (Xa (X8 c_.Had Z) (Xd (vb (!c_.Had)) Z (Xh ab Z (Xa (Xj fa62_2 (Ad aa 0) (Ad aa 2) Z Z) ?_))))))));refine Xh ab Z (Xa (Xv ag44 sz44 cL (Ad aa 2) [vs c_.Was.Id, vi c_.Was.Shape.Kind, G A3 n4 c5, G A8 n9 ae] Z Z (bo.cells (off := 2) Z)) (Xh ab Z ?_));refine Xs go24 (F87.calls H bj.ok hs2 (hp6.st bj.st) (bf.st bj.st)) Z ?_;rintro _ d8 ⟨r12, rfl, H, c6⟩;have bp := bj.k0 c6;refine Xh ab Z (Xd (vb r12) Z ?_);rcases X4 r12 with aw | aw
   ·have H := Xl H aw;refine Xh aw Z (Xa (Xj fa62_2 (Ad aa 0) (Ad aa 2) Z Z) (Xh aw Z (Xa (Xj fa44_0 (Ad aa 2) (Ad aa 2) Z Z) (Xh aw Z ?_))));have d9 := bj.stn c6;have b3 := (bo.st d9);refine Xa (Xo ag9 cL (Ad aa 2) (vs c_.Was.Id) Z (b3.cell Z)) (Xh aw Z (Xa (Xj fa62_0 (Ad aa 0) (Ad aa 0) Z Z) (Xh aw Z (Xa (Xo ag9 cL (Ad aa 0) (vs c_.Id) Z (b3.cell Z)) (Xh aw Z (Xa (Yt c_.Was.Id c_.Id (c_.Was.Id == c_.Id) Z Z Z) (Xh ab Z (Xa (Xk true (vb (c_.Was.Id == c_.Id)) aw Z) ?_))))))));refine Xa (Xk false (vb (c_.Was.Id == c_.Id)) ab Z) (Xd (vb (c_.Was.Id == c_.Id)) Z ?_);rcases X4 (c_.Was.Id == c_.Id) with ax | ax
    ·have H := Xl H ax;refine Xh ax Z (Xa (Xj fa62_3 (Ad aa 0) (Ad aa 6) Z Z) (Xh ax Z (Xa (Xo ag4 cL (Ad aa 6) (vb c_.Has) Z (b3.cell Z)) (Xh ax Z (Xa (X8 c_.Has Z) (Xh ax Z (Xd (vb (!c_.Has)) Z (Xh am Z ?_))))))));refine Xa (Xj fa62_4 (Ad aa 0) (Ad aa 7) Z Z) (Xh am Z (Xa (Xv ag44 sz44 cL (Ad aa 7) [vs c_.Now.Id, vi c_.Now.Shape.Kind, G af ag ah, G ai aj ak] Z Z (b3.cells (off := 7) Z)) (Xh am Z ?_)));refine Xs go24 (F87.calls H bp.ok bg (bh.st bp.st) (bi.st bp.st)) Z ?_;rintro _ er ⟨r13, rfl, H, c7⟩;have c8 := bp.k0 c7;refine Xh am Z (Xd (vb r13) Z ?_);rcases X4 r13 with ay | ay
     ·have H := Xl H ay;refine Xh ay Z (Xa (Xj fa62_4 (Ad aa 0) (Ad aa 7) Z Z) (Xh ay Z (Xa (Xj fa44_0 (Ad aa 7) (Ad aa 7) Z Z) (Xh ay Z ?_))));have ea := bp.stn c7;have c9 := (b3.st ea);refine Xa (Xo ag9 cL (Ad aa 7) (vs c_.Now.Id) Z (c9.cell Z)) (Xh ay Z (Xa (Xj fa62_0 (Ad aa 0) (Ad aa 0) Z Z) (Xh ay Z (Xa (Xo ag9 cL (Ad aa 0) (vs c_.Id) Z (c9.cell Z)) (Xh ay Z (Xa (Yt c_.Now.Id c_.Id (c_.Now.Id == c_.Id) Z Z Z) (Xh am Z (Xa (Xk true (vb (c_.Now.Id == c_.Id)) ay Z) ?_))))))));exact Xh ax Z (Xa (Xk false (vb (c_.Now.Id == c_.Id)) am Z) (Xa (Xk true (vb (c_.Now.Id == c_.Id)) ax Z) (Xf (vb (c_.Now.Id == c_.Id)) Z (Xb (Xn ⟨[vb (c_.Now.Id == c_.Id)], ⟨_, Z, Z⟩, c_.Now.Id == c_.Id, Z, H, c8.gr.g0⟩)))))
     have H := Xm H ay;refine Xi ay Z (Xi ay Z (Xi ay Z (Xi ay Z (Xi ay Z (Xi ay Z (Xh am Z (Xa (Xk false (vb false) ay Z) (Xh ax Z ?_))))))));exact Xa (Xk false (vb false) am Z) (Xa (Xk true (vb false) ax Z) (Xf (vb false) Z (Xb (Xn ⟨[vb false], ⟨_, Z, Z⟩, false, Z, H, c8.gr.g0⟩))))
    have H := Xm H ax;refine Xi ax Z (Xi ax Z (Xi ax Z (Xi ax Z (Xr Z (Xr Z (Xr Z (Xr Z (Xr Z ?_))))))));refine Xr Z (Xr Z (Xr Z (Xr Z (Xr Z (Xr Z (Xi ax Z (Xa (Xk false (vb false) ax Z) (Xf (vb false) Z ?_))))))));exact Xb (Xn ⟨[vb false], ⟨_, Z, Z⟩, false, Z, H, bp.gr.g0⟩)
   have H := Xm H aw;refine Xi aw Z (Xi aw Z (Xi aw Z (Xi aw Z (Xi aw Z (Xi aw Z (Xh ab Z (Xa (Xk false (vb false) aw Z) (Xa (Xk false (vb false) ab Z) ?_))))))));refine Xd (vb false) Z (X7 (dj := 70) Z Z (.inl Z) (X7 (dj := 70) Z Z (.inl Z) (X7 (dj := 70) Z Z (.inl Z) (X7 (dj := 70) Z Z (.inl Z) (Xr Z (Xr Z (Xr Z (Xr Z ?_))))))));refine Xr Z (Xr Z (Xr Z (Xr Z (Xr Z (Xr Z (Xr Z (X7 (dj := 70) Z Z (.inl Z) (Xa (Xk false (vb false) Z Z) ?_))))))));exact Xf (vb false) Z (Xb (Xn ⟨[vb false], ⟨_, Z, Z⟩, false, Z, H, bp.gr.g0⟩))
  have H := Xm H bb;refine Xi bb Z (Xi bb Z (Xi bb Z (Xi bb Z (Xi bb Z (Yg (dj := 17) Z Z Z (Xa (Xk false (vb false) bb Z) (Xa (Xk false (vb false) Z Z) (Xb ?_))))))));refine Y6 (b := false) Z Z ?_;refine Xw (Xc (Xc (Xe (Xa (Xj fa62_1 (Ad aa 0) (Ad aa 1) Z Z) (Xa (Xo ag4 cL (Ad aa 1) (vb c_.Had) Z (al.cell Z)) (Xa (X8 c_.Had Z) (Xd (vb (!c_.Had)) Z (Xi ab Z ?_))))))));refine Xi ab Z (Xi ab Z (Xi ab Z (Xi ab Z (Xa (Xk false (vb false) ab Z) (Xd (vb false) Z (Yg (dj := 42) Z Z Z (Xa (Xj fa62_3 (Ad aa 0) (Ad aa 6) Z Z) (Yg (dj := 42) Z Z Z ?_))))))));refine Xa (Xo ag4 cL (Ad aa 6) (vb c_.Has) Z (al.cell Z)) (Yg (dj := 42) Z Z Z (Xa (X8 c_.Has Z) (Yg (dj := 42) Z Z Z (Xd (vb (!c_.Has)) Z ?_))));rcases X4 (!c_.Has) with an | an
  ·have H := Xl H an;refine Xh an Z (Xa (Xj fa62_4 (Ad aa 0) (Ad aa 7) Z Z) (Xh an Z (Xa (Xv ag44 sz44 cL (Ad aa 7) [vs c_.Now.Id, vi c_.Now.Shape.Kind, G af ag ah, G ai aj ak] Z Z (al.cells (off := 7) Z)) (Xh an Z (Xa (Yr (.agg #[vs [], vi 0, G none 0 0, G none 0 0]) RF) (Xh an Z ?_))))));refine Xs go94 (F45.calls H ad.ok bg (bh.st ad.st) (bi.st ad.st) RD (Sl.nil _ _ _ none 0 RD) (Sl.nil _ _ _ none 0 RD)) Z ?_;rintro _ eb ⟨r14, rfl, H, da⟩;have bx := ad.k0 da;refine Xh an Z (Xa (X8 r14 Z) (Yg (dj := 42) Z Z Z (Xa (Xk true (vb (!r14)) an Z) (Xa (Xk false (vb (!r14)) Z Z) (Xb ?_)))));refine Xu (!r14) Z (fun ce => ?_) (fun ce => ?_)
   ·have H := Xl H ce;exact Xc (Xe (Xf (vb false) Z (Xb (Xn ⟨[vb false], ⟨_, Z, Z⟩, false, Z, H, bx.gr.g0⟩))))
   have H := Xm H ce;refine Xw (Xc (Xe (Xa (Xj fa62_1 (Ad aa 0) (Ad aa 1) Z Z) ?_)));have ec := ad.stn da;have cf := (al.st ec);refine Xa (Xo ag4 cL (Ad aa 1) (vb c_.Had) Z (cf.cell Z)) (Xa (X8 c_.Had Z) (Xd (vb (!c_.Had)) Z (Xh ab Z (Xa (Xj fa62_2 (Ad aa 0) (Ad aa 2) Z Z) (Xh ab Z (Xa (Xv ag44 sz44 cL (Ad aa 2) [vs c_.Was.Id, vi c_.Was.Shape.Kind, G A3 n4 c5, G A8 n9 ae] Z Z (cf.cells (off := 2) Z)) (Xh ab Z ?_)))))));refine Xs go24 (F87.calls H bx.ok hs2 (hp6.st bx.st) (bf.st bx.st)) Z ?_;rintro _ es ⟨r15, rfl, H, db⟩;have cg := bx.k0 db;refine Xh ab Z (Xd (vb r15) Z ?_);rcases X4 r15 with az | az
   ·have H := Xl H az;refine Xh az Z (Xa (Xj fa62_2 (Ad aa 0) (Ad aa 2) Z Z) (Xh az Z (Xa (Xj fa44_0 (Ad aa 2) (Ad aa 2) Z Z) (Xh az Z ?_))));have ed := bx.stn db;have ch := (cf.st ed);refine Xa (Xo ag9 cL (Ad aa 2) (vs c_.Was.Id) Z (ch.cell Z)) (Xh az Z (Xa (Xj fa62_0 (Ad aa 0) (Ad aa 0) Z Z) (Xh az Z (Xa (Xo ag9 cL (Ad aa 0) (vs c_.Id) Z (ch.cell Z)) (Xh az Z (Xa (Yt c_.Was.Id c_.Id (c_.Was.Id == c_.Id) Z Z Z) (Xh ab Z (Xa (Xk true (vb (c_.Was.Id == c_.Id)) az Z) ?_))))))));refine Xa (Xk false (vb (c_.Was.Id == c_.Id)) ab Z) (Xd (vb (c_.Was.Id == c_.Id)) Z ?_);rcases X4 (c_.Was.Id == c_.Id) with bd | bd
    ·have H := Xl H bd;refine Xh bd Z (Xa (Xj fa62_3 (Ad aa 0) (Ad aa 6) Z Z) (Xh bd Z (Xa (Xo ag4 cL (Ad aa 6) (vb c_.Has) Z (ch.cell Z)) (Xh bd Z (Xa (X8 c_.Has Z) (Xh bd Z (Xd (vb (!c_.Has)) Z (Xi an Z ?_))))))));refine Xi an Z (Xi an Z (Xi an Z (Xr Z (Xr Z (Xr Z (Xr Z (Xr Z (Xr Z ?_))))))));exact Xi an Z (Xh bd Z (Xa (Xk true (vb true) an Z) (Xa (Xk true (vb true) bd Z) (Xf (vb true) Z (Xb (Xn ⟨[vb true], ⟨_, Z, Z⟩, true, Z, H, cg.gr.g0⟩))))))
    have H := Xm H bd;refine Xi bd Z (Xi bd Z (Xi bd Z (Xi bd Z (Xr Z (Xr Z (Xr Z (Xr Z (Xr Z ?_))))))));refine Xr Z (Xr Z (Xr Z (Xr Z (Xr Z (Xr Z (Xi bd Z (Xa (Xk false (vb false) bd Z) (Xf (vb false) Z ?_))))))));exact Xb (Xn ⟨[vb false], ⟨_, Z, Z⟩, false, Z, H, cg.gr.g0⟩)
   have H := Xm H az;refine Xi az Z (Xi az Z (Xi az Z (Xi az Z (Xi az Z (Xi az Z (Xh ab Z (Xa (Xk false (vb false) az Z) (Xa (Xk false (vb false) ab Z) ?_))))))));refine Xd (vb false) Z (X7 (dj := 70) Z Z (.inl Z) (X7 (dj := 70) Z Z (.inl Z) (X7 (dj := 70) Z Z (.inl Z) (X7 (dj := 70) Z Z (.inl Z) (Xr Z (Xr Z (Xr Z (Xr Z ?_))))))));refine Xr Z (Xr Z (Xr Z (Xr Z (Xr Z (Xr Z (Xr Z (X7 (dj := 70) Z Z (.inl Z) (Xa (Xk false (vb false) Z Z) ?_))))))));exact Xf (vb false) Z (Xb (Xn ⟨[vb false], ⟨_, Z, Z⟩, false, Z, H, cg.gr.g0⟩))
  have H := Xm H an;refine Xi an Z (Xi an Z (Xi an Z (Xi an Z (Xi an Z (Yg (dj := 42) Z Z Z (Xa (Xk false (vb false) an Z) (Xa (Xk false (vb false) Z Z) (Xb ?_))))))));refine Y6 (b := false) Z Z ?_;refine Xw (Xc (Xe (Xa (Xj fa62_1 (Ad aa 0) (Ad aa 1) Z Z) (Xa (Xo ag4 cL (Ad aa 1) (vb c_.Had) Z (al.cell Z)) (Xa (X8 c_.Had Z) (Xd (vb (!c_.Had)) Z (Xh ab Z (Xa (Xj fa62_2 (Ad aa 0) (Ad aa 2) Z Z) ?_))))))));refine Xh ab Z (Xa (Xv ag44 sz44 cL (Ad aa 2) [vs c_.Was.Id, vi c_.Was.Shape.Kind, G A3 n4 c5, G A8 n9 ae] Z Z (al.cells (off := 2) Z)) (Xh ab Z ?_));refine Xs go24 (F87.calls H ad.ok hs2 (hp6.st ad.st) (bf.st ad.st)) Z ?_;rintro _ ee ⟨r16, rfl, H, dc⟩;have bq := ad.k0 dc;refine Xh ab Z (Xd (vb r16) Z ?_);rcases X4 r16 with a0 | a0
  ·have H := Xl H a0;refine Xh a0 Z (Xa (Xj fa62_2 (Ad aa 0) (Ad aa 2) Z Z) (Xh a0 Z (Xa (Xj fa44_0 (Ad aa 2) (Ad aa 2) Z Z) (Xh a0 Z ?_))));have ef := ad.stn dc;have b4 := (al.st ef);refine Xa (Xo ag9 cL (Ad aa 2) (vs c_.Was.Id) Z (b4.cell Z)) (Xh a0 Z (Xa (Xj fa62_0 (Ad aa 0) (Ad aa 0) Z Z) (Xh a0 Z (Xa (Xo ag9 cL (Ad aa 0) (vs c_.Id) Z (b4.cell Z)) (Xh a0 Z (Xa (Yt c_.Was.Id c_.Id (c_.Was.Id == c_.Id) Z Z Z) (Xh ab Z (Xa (Xk true (vb (c_.Was.Id == c_.Id)) a0 Z) ?_))))))));refine Xa (Xk false (vb (c_.Was.Id == c_.Id)) ab Z) (Xd (vb (c_.Was.Id == c_.Id)) Z ?_);rcases X4 (c_.Was.Id == c_.Id) with a1 | a1
   ·have H := Xl H a1;refine Xh a1 Z (Xa (Xj fa62_3 (Ad aa 0) (Ad aa 6) Z Z) (Xh a1 Z (Xa (Xo ag4 cL (Ad aa 6) (vb c_.Has) Z (b4.cell Z)) (Xh a1 Z (Xa (X8 c_.Has Z) (Xh a1 Z (Xd (vb (!c_.Has)) Z (Xh an Z ?_))))))));refine Xa (Xj fa62_4 (Ad aa 0) (Ad aa 7) Z Z) (Xh an Z (Xa (Xv ag44 sz44 cL (Ad aa 7) [vs c_.Now.Id, vi c_.Now.Shape.Kind, G af ag ah, G ai aj ak] Z Z (b4.cells (off := 7) Z)) (Xh an Z ?_)));refine Xs go24 (F87.calls H bq.ok bg (bh.st bq.st) (bi.st bq.st)) Z ?_;rintro _ et ⟨r17, rfl, H, dd⟩;have de := bq.k0 dd;refine Xh an Z (Xd (vb r17) Z ?_);rcases X4 r17 with a2 | a2
    ·have H := Xl H a2;refine Xh a2 Z (Xa (Xj fa62_4 (Ad aa 0) (Ad aa 7) Z Z) (Xh a2 Z (Xa (Xj fa44_0 (Ad aa 7) (Ad aa 7) Z Z) (Xh a2 Z ?_))));have eg := bq.stn dd;have df := (b4.st eg);refine Xa (Xo ag9 cL (Ad aa 7) (vs c_.Now.Id) Z (df.cell Z)) (Xh a2 Z (Xa (Xj fa62_0 (Ad aa 0) (Ad aa 0) Z Z) (Xh a2 Z (Xa (Xo ag9 cL (Ad aa 0) (vs c_.Id) Z (df.cell Z)) (Xh a2 Z (Xa (Yt c_.Now.Id c_.Id (c_.Now.Id == c_.Id) Z Z Z) (Xh an Z (Xa (Xk true (vb (c_.Now.Id == c_.Id)) a2 Z) ?_))))))));exact Xh a1 Z (Xa (Xk false (vb (c_.Now.Id == c_.Id)) an Z) (Xa (Xk true (vb (c_.Now.Id == c_.Id)) a1 Z) (Xf (vb (c_.Now.Id == c_.Id)) Z (Xb (Xn ⟨[vb (c_.Now.Id == c_.Id)], ⟨_, Z, Z⟩, c_.Now.Id == c_.Id, Z, H, de.gr.g0⟩)))))
    have H := Xm H a2;refine Xi a2 Z (Xi a2 Z (Xi a2 Z (Xi a2 Z (Xi a2 Z (Xi a2 Z (Xh an Z (Xa (Xk false (vb false) a2 Z) (Xh a1 Z ?_))))))));exact Xa (Xk false (vb false) an Z) (Xa (Xk true (vb false) a1 Z) (Xf (vb false) Z (Xb (Xn ⟨[vb false], ⟨_, Z, Z⟩, false, Z, H, de.gr.g0⟩))))
   have H := Xm H a1;refine Xi a1 Z (Xi a1 Z (Xi a1 Z (Xi a1 Z (Xr Z (Xr Z (Xr Z (Xr Z (Xr Z ?_))))))));refine Xr Z (Xr Z (Xr Z (Xr Z (Xr Z (Xr Z (Xi a1 Z (Xa (Xk false (vb false) a1 Z) (Xf (vb false) Z ?_))))))));exact Xb (Xn ⟨[vb false], ⟨_, Z, Z⟩, false, Z, H, bq.gr.g0⟩)
  have H := Xm H a0;refine Xi a0 Z (Xi a0 Z (Xi a0 Z (Xi a0 Z (Xi a0 Z (Xi a0 Z (Xh ab Z (Xa (Xk false (vb false) a0 Z) (Xa (Xk false (vb false) ab Z) ?_))))))));refine Xd (vb false) Z (X7 (dj := 70) Z Z (.inl Z) (X7 (dj := 70) Z Z (.inl Z) (X7 (dj := 70) Z Z (.inl Z) (X7 (dj := 70) Z Z (.inl Z) (Xr Z (Xr Z (Xr Z (Xr Z ?_))))))));refine Xr Z (Xr Z (Xr Z (Xr Z (Xr Z (Xr Z (Xr Z (X7 (dj := 70) Z Z (.inl Z) (Xa (Xk false (vb false) Z Z) ?_))))))));exact Xf (vb false) Z (Xb (Xn ⟨[vb false], ⟨_, Z, Z⟩, false, Z, H, bq.gr.g0⟩))
 have H := Xm H bm;refine Xi bm Z (Xi bm Z (Yg (dj := 17) Z Z Z (Xa (Xk false (vb false) bm Z) (Yg (dj := 17) Z Z Z (Xd (vb false) Z (X7 (dj := 24) Z Z (.inl Z) (X7 (dj := 24) Z Z (.inl Z) (X7 (dj := 24) Z Z (.inl Z) ?_))))))));refine X7 (dj := 24) Z Z (.inl Z) (X7 (dj := 24) Z Z (.inl Z) (Yg (dj := 17) Z Z Z (Xa (Xk false (vb false) Z Z) (Xa (Xk false (vb false) Z Z) (Xb (Y6 (b := false) Z Z ?_))))));refine Xw (Xc (Xc (Xe (Xa (Xj fa62_1 (Ad aa 0) (Ad aa 1) Z Z) (Xa (Xo ag4 cL (Ad aa 1) (vb c_.Had) Z (al.cell Z)) (Xa (X8 c_.Had Z) (Xd (vb (!c_.Had)) Z (Xi ab Z ?_))))))));refine Xi ab Z (Xi ab Z (Xi ab Z (Xi ab Z (Xa (Xk false (vb false) ab Z) (Xd (vb false) Z (Yg (dj := 42) Z Z Z (Xa (Xj fa62_3 (Ad aa 0) (Ad aa 6) Z Z) (Yg (dj := 42) Z Z Z ?_))))))));refine Xa (Xo ag4 cL (Ad aa 6) (vb c_.Has) Z (al.cell Z)) (Yg (dj := 42) Z Z Z (Xa (X8 c_.Has Z) (Yg (dj := 42) Z Z Z (Xd (vb (!c_.Has)) Z ?_))));rcases X4 (!c_.Has) with ao | ao
 ·have H := Xl H ao;refine Xh ao Z (Xa (Xj fa62_4 (Ad aa 0) (Ad aa 7) Z Z) (Xh ao Z (Xa (Xv ag44 sz44 cL (Ad aa 7) [vs c_.Now.Id, vi c_.Now.Shape.Kind, G af ag ah, G ai aj ak] Z Z (al.cells (off := 7) Z)) (Xh ao Z (Xa (Yr (.agg #[vs [], vi 0, G none 0 0, G none 0 0]) RF) (Xh ao Z ?_))))));refine Xs go94 (F45.calls H ad.ok bg (bh.st ad.st) (bi.st ad.st) RD (Sl.nil _ _ _ none 0 RD) (Sl.nil _ _ _ none 0 RD)) Z ?_;rintro _ eh ⟨r18, rfl, H, dg⟩;have bz := ad.k0 dg;refine Xh ao Z (Xa (X8 r18 Z) (Yg (dj := 42) Z Z Z (Xa (Xk true (vb (!r18)) ao Z) (Xa (Xk false (vb (!r18)) Z Z) (Xb ?_)))));refine Xu (!r18) Z (fun ci => ?_) (fun ci => ?_)
  ·have H := Xl H ci;exact Xc (Xe (Xf (vb false) Z (Xb (Xn ⟨[vb false], ⟨_, Z, Z⟩, false, Z, H, bz.gr.g0⟩))))
  have H := Xm H ci;refine Xw (Xc (Xe (Xa (Xj fa62_1 (Ad aa 0) (Ad aa 1) Z Z) ?_)));have ei := ad.stn dg;have cj := (al.st ei);refine Xa (Xo ag4 cL (Ad aa 1) (vb c_.Had) Z (cj.cell Z)) (Xa (X8 c_.Had Z) (Xd (vb (!c_.Had)) Z (Xh ab Z (Xa (Xj fa62_2 (Ad aa 0) (Ad aa 2) Z Z) (Xh ab Z (Xa (Xv ag44 sz44 cL (Ad aa 2) [vs c_.Was.Id, vi c_.Was.Shape.Kind, G A3 n4 c5, G A8 n9 ae] Z Z (cj.cells (off := 2) Z)) (Xh ab Z ?_)))))));refine Xs go24 (F87.calls H bz.ok hs2 (hp6.st bz.st) (bf.st bz.st)) Z ?_;rintro _ eu ⟨r19, rfl, H, dh⟩;have ck := bz.k0 dh;refine Xh ab Z (Xd (vb r19) Z ?_);rcases X4 r19 with a3 | a3
  ·have H := Xl H a3;refine Xh a3 Z (Xa (Xj fa62_2 (Ad aa 0) (Ad aa 2) Z Z) (Xh a3 Z (Xa (Xj fa44_0 (Ad aa 2) (Ad aa 2) Z Z) (Xh a3 Z ?_))));have ej := bz.stn dh;have cl := (cj.st ej);refine Xa (Xo ag9 cL (Ad aa 2) (vs c_.Was.Id) Z (cl.cell Z)) (Xh a3 Z (Xa (Xj fa62_0 (Ad aa 0) (Ad aa 0) Z Z) (Xh a3 Z (Xa (Xo ag9 cL (Ad aa 0) (vs c_.Id) Z (cl.cell Z)) (Xh a3 Z (Xa (Yt c_.Was.Id c_.Id (c_.Was.Id == c_.Id) Z Z Z) (Xh ab Z (Xa (Xk true (vb (c_.Was.Id == c_.Id)) a3 Z) ?_))))))));refine Xa (Xk false (vb (c_.Was.Id == c_.Id)) ab Z) (Xd (vb (c_.Was.Id == c_.Id)) Z ?_);rcases X4 (c_.Was.Id == c_.Id) with be | be
   ·have H := Xl H be;refine Xh be Z (Xa (Xj fa62_3 (Ad aa 0) (Ad aa 6) Z Z) (Xh be Z (Xa (Xo ag4 cL (Ad aa 6) (vb c_.Has) Z (cl.cell Z)) (Xh be Z (Xa (X8 c_.Has Z) (Xh be Z (Xd (vb (!c_.Has)) Z (Xi ao Z ?_))))))));refine Xi ao Z (Xi ao Z (Xi ao Z (Xr Z (Xr Z (Xr Z (Xr Z (Xr Z (Xr Z ?_))))))));exact Xi ao Z (Xh be Z (Xa (Xk true (vb true) ao Z) (Xa (Xk true (vb true) be Z) (Xf (vb true) Z (Xb (Xn ⟨[vb true], ⟨_, Z, Z⟩, true, Z, H, ck.gr.g0⟩))))))
   have H := Xm H be;refine Xi be Z (Xi be Z (Xi be Z (Xi be Z (Xr Z (Xr Z (Xr Z (Xr Z (Xr Z ?_))))))));refine Xr Z (Xr Z (Xr Z (Xr Z (Xr Z (Xr Z (Xi be Z (Xa (Xk false (vb false) be Z) (Xf (vb false) Z ?_))))))));exact Xb (Xn ⟨[vb false], ⟨_, Z, Z⟩, false, Z, H, ck.gr.g0⟩)
  have H := Xm H a3;refine Xi a3 Z (Xi a3 Z (Xi a3 Z (Xi a3 Z (Xi a3 Z (Xi a3 Z (Xh ab Z (Xa (Xk false (vb false) a3 Z) (Xa (Xk false (vb false) ab Z) ?_))))))));refine Xd (vb false) Z (X7 (dj := 70) Z Z (.inl Z) (X7 (dj := 70) Z Z (.inl Z) (X7 (dj := 70) Z Z (.inl Z) (X7 (dj := 70) Z Z (.inl Z) (Xr Z (Xr Z (Xr Z (Xr Z ?_))))))));refine Xr Z (Xr Z (Xr Z (Xr Z (Xr Z (Xr Z (Xr Z (X7 (dj := 70) Z Z (.inl Z) (Xa (Xk false (vb false) Z Z) ?_))))))));exact Xf (vb false) Z (Xb (Xn ⟨[vb false], ⟨_, Z, Z⟩, false, Z, H, ck.gr.g0⟩))
 have H := Xm H ao;refine Xi ao Z (Xi ao Z (Xi ao Z (Xi ao Z (Xi ao Z (Yg (dj := 42) Z Z Z (Xa (Xk false (vb false) ao Z) (Xa (Xk false (vb false) Z Z) (Xb ?_))))))));refine Y6 (b := false) Z Z ?_;refine Xw (Xc (Xe (Xa (Xj fa62_1 (Ad aa 0) (Ad aa 1) Z Z) (Xa (Xo ag4 cL (Ad aa 1) (vb c_.Had) Z (al.cell Z)) (Xa (X8 c_.Had Z) (Xd (vb (!c_.Had)) Z (Xh ab Z (Xa (Xj fa62_2 (Ad aa 0) (Ad aa 2) Z Z) ?_))))))));refine Xh ab Z (Xa (Xv ag44 sz44 cL (Ad aa 2) [vs c_.Was.Id, vi c_.Was.Shape.Kind, G A3 n4 c5, G A8 n9 ae] Z Z (al.cells (off := 2) Z)) (Xh ab Z ?_));refine Xs go24 (F87.calls H ad.ok hs2 (hp6.st ad.st) (bf.st ad.st)) Z ?_;rintro _ ek ⟨r20, rfl, H, di⟩;have br := ad.k0 di;refine Xh ab Z (Xd (vb r20) Z ?_);rcases X4 r20 with a4 | a4
 ·have H := Xl H a4;refine Xh a4 Z (Xa (Xj fa62_2 (Ad aa 0) (Ad aa 2) Z Z) (Xh a4 Z (Xa (Xj fa44_0 (Ad aa 2) (Ad aa 2) Z Z) (Xh a4 Z ?_))));have el := ad.stn di;have b5 := (al.st el);refine Xa (Xo ag9 cL (Ad aa 2) (vs c_.Was.Id) Z (b5.cell Z)) (Xh a4 Z (Xa (Xj fa62_0 (Ad aa 0) (Ad aa 0) Z Z) (Xh a4 Z (Xa (Xo ag9 cL (Ad aa 0) (vs c_.Id) Z (b5.cell Z)) (Xh a4 Z (Xa (Yt c_.Was.Id c_.Id (c_.Was.Id == c_.Id) Z Z Z) (Xh ab Z (Xa (Xk true (vb (c_.Was.Id == c_.Id)) a4 Z) ?_))))))));refine Xa (Xk false (vb (c_.Was.Id == c_.Id)) ab Z) (Xd (vb (c_.Was.Id == c_.Id)) Z ?_);rcases X4 (c_.Was.Id == c_.Id) with a5 | a5
  ·have H := Xl H a5;refine Xh a5 Z (Xa (Xj fa62_3 (Ad aa 0) (Ad aa 6) Z Z) (Xh a5 Z (Xa (Xo ag4 cL (Ad aa 6) (vb c_.Has) Z (b5.cell Z)) (Xh a5 Z (Xa (X8 c_.Has Z) (Xh a5 Z (Xd (vb (!c_.Has)) Z (Xh ao Z ?_))))))));refine Xa (Xj fa62_4 (Ad aa 0) (Ad aa 7) Z Z) (Xh ao Z (Xa (Xv ag44 sz44 cL (Ad aa 7) [vs c_.Now.Id, vi c_.Now.Shape.Kind, G af ag ah, G ai aj ak] Z Z (b5.cells (off := 7) Z)) (Xh ao Z ?_)));refine Xs go24 (F87.calls H br.ok bg (bh.st br.st) (bi.st br.st)) Z ?_;rintro _ ev ⟨r21, rfl, H, dk⟩;have dl := br.k0 dk;refine Xh ao Z (Xd (vb r21) Z ?_);rcases X4 r21 with a6 | a6
   ·have H := Xl H a6;refine Xh a6 Z (Xa (Xj fa62_4 (Ad aa 0) (Ad aa 7) Z Z) (Xh a6 Z (Xa (Xj fa44_0 (Ad aa 7) (Ad aa 7) Z Z) (Xh a6 Z ?_))));have em := br.stn dk;have dm := (b5.st em);refine Xa (Xo ag9 cL (Ad aa 7) (vs c_.Now.Id) Z (dm.cell Z)) (Xh a6 Z (Xa (Xj fa62_0 (Ad aa 0) (Ad aa 0) Z Z) (Xh a6 Z (Xa (Xo ag9 cL (Ad aa 0) (vs c_.Id) Z (dm.cell Z)) (Xh a6 Z (Xa (Yt c_.Now.Id c_.Id (c_.Now.Id == c_.Id) Z Z Z) (Xh ao Z (Xa (Xk true (vb (c_.Now.Id == c_.Id)) a6 Z) ?_))))))));exact Xh a5 Z (Xa (Xk false (vb (c_.Now.Id == c_.Id)) ao Z) (Xa (Xk true (vb (c_.Now.Id == c_.Id)) a5 Z) (Xf (vb (c_.Now.Id == c_.Id)) Z (Xb (Xn ⟨[vb (c_.Now.Id == c_.Id)], ⟨_, Z, Z⟩, c_.Now.Id == c_.Id, Z, H, dl.gr.g0⟩)))))
   have H := Xm H a6;refine Xi a6 Z (Xi a6 Z (Xi a6 Z (Xi a6 Z (Xi a6 Z (Xi a6 Z (Xh ao Z (Xa (Xk false (vb false) a6 Z) (Xh a5 Z ?_))))))));exact Xa (Xk false (vb false) ao Z) (Xa (Xk true (vb false) a5 Z) (Xf (vb false) Z (Xb (Xn ⟨[vb false], ⟨_, Z, Z⟩, false, Z, H, dl.gr.g0⟩))))
  have H := Xm H a5;refine Xi a5 Z (Xi a5 Z (Xi a5 Z (Xi a5 Z (Xr Z (Xr Z (Xr Z (Xr Z (Xr Z ?_))))))));refine Xr Z (Xr Z (Xr Z (Xr Z (Xr Z (Xr Z (Xi a5 Z (Xa (Xk false (vb false) a5 Z) (Xf (vb false) Z ?_))))))));exact Xb (Xn ⟨[vb false], ⟨_, Z, Z⟩, false, Z, H, br.gr.g0⟩)
 have H := Xm H a4;refine Xi a4 Z (Xi a4 Z (Xi a4 Z (Xi a4 Z (Xi a4 Z (Xi a4 Z (Xh ab Z (Xa (Xk false (vb false) a4 Z) (Xa (Xk false (vb false) ab Z) ?_))))))));refine Xd (vb false) Z (X7 (dj := 70) Z Z (.inl Z) (X7 (dj := 70) Z Z (.inl Z) (X7 (dj := 70) Z Z (.inl Z) (X7 (dj := 70) Z Z (.inl Z) (Xr Z (Xr Z (Xr Z (Xr Z ?_))))))));refine Xr Z (Xr Z (Xr Z (Xr Z (Xr Z (Xr Z (Xr Z (X7 (dj := 70) Z Z (.inl Z) (Xa (Xk false (vb false) Z Z) ?_))))))));exact Xf (vb false) Z (Xb (Xn ⟨[vb false], ⟨_, Z, Z⟩, false, Z, H, br.gr.g0⟩))
def F101.E (d : List Change) (Q : Bool → Prop) : Prop :=
 (∃ (I18 : Int → Prop) (mu19 : Int → Nat), I18 0 ∧ ∀ (i2 : Int), I18 i2 → (if decide (i2 < (d.length : Int)) then ((0 : Int) ≤ i2 ∧ i2 < (d.length : Int)) ∧ (∃ q : Bool, F130.E (nth d i2) (fun x => x = q) ∧ (if !q then Q false else (if decide (i2 > 0) then ((0 : Int) ≤ i2 ∧ i2 < (d.length : Int)) ∧ ((d.length : Int) ≤ 9223372036854775807 → I64 (i2 - 1)) ∧ ((0 : Int) ≤ i2 - 1 ∧ i2 - 1 < (d.length : Int)) ∧ (if Op.bytesLess ((nth d i2).Id) ((nth d (i2 - 1)).Id) || ((nth d i2).Id) == ((nth d (i2 - 1)).Id) then Q false else (-9223372036854775808 ≤ i2) ∧ I18 (i2 + 1) ∧ mu19 (i2 + 1) < mu19 i2) else (-9223372036854775808 ≤ i2) ∧ I18 (i2 + 1) ∧ mu19 (i2 + 1) < mu19 i2))) else Q (decide ((d.length : Int) ≤ 16))))
theorem F101.calls {d : List Change} {A1 : Option Addr} {n2 c3 : Nat} {Q : Bool → Prop} (H : F101.E d Q) (hO : Ok w0 O) (hp4 : Sl kChange w0 (Fr O) (G A1 n2 c3) d) :
  Ret Tryz.prog 15 [G A1 n2 c3] w0 (fun v w' => ∃ (r0 : Bool), v = vb r0 ∧ Q r0 ∧ Gr w0 w' none) := by
 unfold F101.E at H;have hc0 := Ct.init hO;refine Yb Tryz.func15 Z 37 Z [.tmp 2] Z Z ?_;refine Xc (Xe (Xf (vb false) Z (Xb (Xc (Xc (Xe (Xf (vi 0) Z (Xb ?_))))))));refine X6 ?_;obtain ⟨a6, a7, ai, H⟩ := H;refine Yj (α := Int) (fun (sv__ : Int) t af => match sv__ with | i2 => a6 i2 ∧ Has t [(0, G A1 n2 c3), (3, vi i2)] ∧ Ct [] w0 af [] O ∧ Sl kChange af (Fr ([] ++ O)) (G A1 n2 c3) d) (fun (sv__ : Int) => match sv__ with | i2 => a7 i2) 0 ⟨ai, (Xx Z), hc0, hp4⟩ ?_;rintro i2 _ af ⟨ai, a8, ad, ac⟩;obtain ⟨b7, rfl⟩ := Has.ins a8;have H := H i2 ai;refine Xc (Xc (Xe (Xd (vi i2) Z (Xd (G A1 n2 c3) Z ?_))));have aj := ac.le;refine Xa (X9 u23_ A1 n2 c3 ac.len Z) (Xa (X0 i2 (d.length : Int) (decide (i2 < (d.length : Int))) Z Z Z) (Xb ?_));refine Xu (decide (i2 < (d.length : Int))) Z (fun ae => ?_) (fun ae => ?_)
 ·have H := Xl H ae;refine Xw (Xc (X6 (Xc (Yy (fun x => Gr af x none) RK RK (Gr.drew _) ?_))));refine Xy (G A1 n2 c3) Z (Xy (vi i2) Z ?_);obtain ⟨az, H⟩ := H;obtain ⟨a0, b8, a9, b9, ba, bb⟩ := ac.get default RD i2 az;obtain ⟨ak, al, am, an, ao, ap, aq, ar, au, av, aw, ax, rfl, bc, bd, be, bf, bg, bh, bi⟩ := kChange.op ba;refine Xg (X3 u23_ Yi A1 a0 n2 c3 ac.len i2 Z a9 Z az) (Xg (Xv ag62 sz62 cQ (a0.add (i2.toNat * 11)) [vs ((nth d i2).Id), vb ((nth d i2).Had), vs ((nth d i2).Was.Id), vi ((nth d i2).Was.Shape.Kind), G ak al am, G an ao ap, vb ((nth d i2).Has), vs ((nth d i2).Now.Id), vi ((nth d i2).Now.Shape.Kind), G aq ar au, G av aw ax] Z Z bb) ?_);obtain ⟨q, bj, H⟩ := H;refine Y2 go46 [.agg #[vs ((nth d i2).Id), vb ((nth d i2).Had), vs ((nth d i2).Was.Id), vi ((nth d i2).Was.Shape.Kind), G ak al am, G an ao ap, vb ((nth d i2).Has), vs ((nth d i2).Now.Id), vi ((nth d i2).Now.Shape.Kind), G aq ar au, G av aw ax]] Z (vb q) (fun w g => (F130.calls bj (ad.k0 g).ok bc bd (be.st (.new _ g)) (bf.st (.new _ g)) bg (bh.st (.new _ g)) (bi.st (.new _ g))).mono ?_) ?_
  ·rintro _ w ⟨r, rfl, rfl, g2⟩;exact ⟨Z, Gr.t0 g g2⟩
  refine Xg (X8 q Z) (Xy (vb (!q)) Z ?_);rcases X4 (!q) with ab | ab
  ·have H := Xl H ab;refine Xq ab Z (Xq ab Z (Xq ab Z (X2 Z (X2 Z (X2 Z (X2 Z (X2 Z (X2 Z ?_))))))));refine X2 Z (X2 Z (X2 Z (X2 Z (X2 Z (X2 Z (Xq ab Z (Xg (Xk true (vb true) ab Z) (Ye fun ca bl => ?_))))))));have bm := ad.k0 bl;refine Yu (b := true) Z Z ?_;exact Xc (Xe (Xf (vb false) Z (Xb (Xn ⟨[vb false], ⟨_, Z, Z⟩, false, Z, H, bm.gr.g0⟩))))
  have H := Xm H ab;refine Xp ab Z (Xy (vi i2) Z (Xp ab Z (Xg (X0 i2 0 (decide (i2 > 0)) Z Z Z) (Xp ab Z (Xy (vb (decide (i2 > 0))) Z ?_)))));rcases X4 (decide (i2 > 0)) with aa | aa
  ·have H := Xl H aa;refine Xp aa Z (Xy (G A1 n2 c3) Z (Xp aa Z (Xy (vi i2) Z (Xp aa Z ?_))));obtain ⟨a1, H⟩ := H;obtain ⟨ag, cb, bn, cc, bo, bp⟩ := ac.get default RD i2 a1;obtain ⟨cd, ce, cf, cg, ch, ci, cj, ck, cl, cm, cn, co, rfl, cp, cq, cr, cs, ct, cu, cv⟩ := kChange.op bo;refine Xg (X3 u23_ Yi A1 ag n2 c3 ac.len i2 Z bn Z a1) (Xp aa Z (Xg (Xj fa62_0 (ag.add (i2.toNat * 11)) ((ag.add (i2.toNat * 11)).add 0) Z Z) (Xp aa Z (Xg (Xo ag9 cQ ((ag.add (i2.toNat * 11)).add 0) (vs ((nth d i2).Id)) Z (bp 0 _ Z)) (Xp aa Z (Xy (G A1 n2 c3) Z (Xp aa Z (Xy (vi i2) Z ?_))))))));refine Xp aa Z ?_;obtain ⟨bq, H⟩ := H;have br := bq (len_le aj);refine Xg (Y1 i2 1 Z Z br) (Xp aa Z ?_);obtain ⟨a2, H⟩ := H;obtain ⟨ah, cw, bs, cx, bt, bu⟩ := ac.get default RD (i2 - 1) a2;obtain ⟨cy, cz, c0, c1, c2, c4, c5, c6, c7, c8, c9, da, rfl, db, dc, dd, de, df, dg, dh⟩ := kChange.op bt;refine Xg (X3 u23_ Yi A1 ah n2 c3 ac.len (i2 - 1) Z bs Z a2) (Xp aa Z (Xg (Xj fa62_0 (ah.add ((i2 - 1).toNat * 11)) ((ah.add ((i2 - 1).toNat * 11)).add 0) Z Z) (Xp aa Z (Xg (Xo ag9 cQ ((ah.add ((i2 - 1).toNat * 11)).add 0) (vs ((nth d (i2 - 1)).Id)) Z (bu 0 _ Z)) (Xp aa Z (Xg (Yt ((nth d i2).Id) ((nth d (i2 - 1)).Id) (Op.bytesLess ((nth d i2).Id) ((nth d (i2 - 1)).Id) || ((nth d i2).Id) == ((nth d (i2 - 1)).Id)) Z Z Z) (Xp ab Z (Xg (Yp true (vb (Op.bytesLess ((nth d i2).Id) ((nth d (i2 - 1)).Id) || ((nth d i2).Id) == ((nth d (i2 - 1)).Id))) (by exact congrArg Value.bool aa) Z) ?_))))))));refine Xg (Yp false (vb (Op.bytesLess ((nth d i2).Id) ((nth d (i2 - 1)).Id) || ((nth d i2).Id) == ((nth d (i2 - 1)).Id))) (by exact congrArg Value.bool ab) Z) (Ye fun di a3 => ?_);have a4 := ad.k0 a3;refine Xu (Op.bytesLess ((nth d i2).Id) ((nth d (i2 - 1)).Id) || ((nth d i2).Id) == ((nth d (i2 - 1)).Id)) Z (fun ay => ?_) (fun ay => ?_)
   ·have H := Xl H ay;exact Xc (Xe (Xf (vb false) Z (Xb (Xn ⟨[vb false], ⟨_, Z, Z⟩, false, Z, H, a4.gr.g0⟩))))
   have H := Xm H ay;refine Xw (Xe (Xd (vi i2) Z ?_));obtain ⟨bv, H⟩ := H;have bw : I64 (i2 + 1) := i64_succ (of_decide_eq_true ae) aj bv;refine Xa (Ya i2 1 Z Z bw) (Xf (vi (i2 + 1)) Z (Xb ?_));obtain ⟨bx, bz⟩ := H;have b0 := ad.stn a3;exact ⟨i2 + 1, bz, bx, (Xx Z), a4, (ac.st b0)⟩
  have H := Xm H aa;refine Xq aa Z (Xq aa Z (Xq aa Z (Xq aa Z (Xq aa Z (Xq aa Z (Xq aa Z (Xq aa Z (Xq aa Z ?_))))))));refine Xq aa Z (Xq aa Z (Xq aa Z (Xp ab Z (Xg (Xk false (vb false) aa Z) (Xg (Xk false (vb false) ab Z) (Ye fun dj a5 => ?_))))));have b1 := ad.k0 a5;refine Y6 (b := false) Z Z ?_;refine Xw (Xe (Xd (vi i2) Z ?_));obtain ⟨b2, H⟩ := H;have b3 : I64 (i2 + 1) := i64_succ (of_decide_eq_true ae) aj b2;refine Xa (Ya i2 1 Z Z b3) (Xf (vi (i2 + 1)) Z (Xb ?_));obtain ⟨b4, b5⟩ := H;have b6 := ad.stn a5;exact ⟨i2 + 1, b5, b4, (Xx Z), b1, (ac.st b6)⟩
 have H := Xm H ae;refine Yh (xin_hit ?_);exact Xc (Xe (Xd (G A1 n2 c3) Z (Xa (X9 u23_ A1 n2 c3 ac.len Z) (Xa (X0 (d.length : Int) 16 (decide ((d.length : Int) ≤ 16)) Z Z Z) (Xf (vb (decide ((d.length : Int) ≤ 16))) Z (Xb (Xn ⟨[vb (decide ((d.length : Int) ≤ 16))], ⟨_, Z, Z⟩, decide ((d.length : Int) ≤ 16), Z, H, ad.gr.g0⟩)))))))
def F120.E (d : List Change) (id : Str) (Q : Int → Prop) : Prop :=
 (∃ (I19 : Int → Prop) (mu20 : Int → Nat), I19 0 ∧ ∀ (i2 : Int), I19 i2 → (if decide (i2 < (d.length : Int)) then ((0 : Int) ≤ i2 ∧ i2 < (d.length : Int)) ∧ (if ((nth d i2).Id) == id then Q i2 else (-9223372036854775808 ≤ i2) ∧ I19 (i2 + 1) ∧ mu20 (i2 + 1) < mu20 i2) else Q (-1)))
theorem F120.calls {d : List Change} {A1 : Option Addr} {n2 c3 : Nat} {id : Str} {Q : Int → Prop} (H : F120.E d id Q) (hO : Ok w0 O) (hp4 : Sl kChange w0 (Fr O) (G A1 n2 c3) d) (hs6 : Lim id) :
  Ret Tryz.prog 93 [G A1 n2 c3, vs id] w0 (fun v w' => ∃ (r0 : Int), v = vi r0 ∧ Q r0 ∧ Gr w0 w' none) := by
 unfold F120.E at H;have hc0 := Ct.init hO;refine Yb Tryz.func93 Z 20 Z [.tmp 4] Z Z ?_;refine Xc (Xe (Xf (vi 0) Z (Xb (Xc (Xc (Xe (Xf (vi 0) Z (Xb ?_))))))));refine X6 ?_;obtain ⟨ai, aj, ad, H⟩ := H;refine Yj (α := Int) (fun (sv__ : Int) t ae => match sv__ with | i2 => ai i2 ∧ Has t [(0, G A1 n2 c3), (1, vs id), (5, vi i2)] ∧ Ct [] w0 ae [] O ∧ Sl kChange ae (Fr ([] ++ O)) (G A1 n2 c3) d) (fun (sv__ : Int) => match sv__ with | i2 => aj i2) 0 ⟨ad, (Xx Z), hc0, hp4⟩ ?_;rintro i2 _ ae ⟨ad, ak, af, aa⟩;obtain ⟨av, rfl⟩ := Has.ins ak;have H := H i2 ad;refine Xc (Xc (Xe (Xd (vi i2) Z (Xd (G A1 n2 c3) Z ?_))));have al := aa.le;refine Xa (X9 u23_ A1 n2 c3 aa.len Z) (Xa (X0 i2 (d.length : Int) (decide (i2 < (d.length : Int))) Z Z Z) (Xb ?_));refine Xu (decide (i2 < (d.length : Int))) Z (fun ab => ?_) (fun ab => ?_)
 ·have H := Xl H ab;refine Xw (Xc (X6 (Xc (Xe (Xd (G A1 n2 c3) Z (Xd (vi i2) Z ?_))))));obtain ⟨ah, H⟩ := H;obtain ⟨ac, aw, am, ax, an, ao⟩ := aa.get default RD i2 ah;obtain ⟨ay, az, a0, a1, a2, a3, a4, a5, a6, a7, a8, a9, rfl, ba, bb, bc, bd, be, bf, bg⟩ := kChange.op an;refine Xa (X3 u23_ Yi A1 ac n2 c3 aa.len i2 Z am Z ah) (Xa (Xj fa62_0 (ac.add (i2.toNat * 11)) ((ac.add (i2.toNat * 11)).add 0) Z Z) (Xa (Xo ag9 cL ((ac.add (i2.toNat * 11)).add 0) (vs ((nth d i2).Id)) Z (ao 0 _ Z)) (Xd (vs id) Z (Xa (Yt ((nth d i2).Id) id (((nth d i2).Id) == id) Z Z Z) (Xb ?_)))));refine Xu (((nth d i2).Id) == id) Z (fun ag => ?_) (fun ag => ?_)
  ·have H := Xl H ag;exact Xc (Xe (Xd (vi i2) Z (Xf (vi i2) Z (Xb (Xn ⟨[vi i2], ⟨_, Z, Z⟩, i2, Z, H, af.gr.g0⟩)))))
  have H := Xm H ag;refine Xw (Xe (Xd (vi i2) Z ?_));obtain ⟨ap, H⟩ := H;have aq : I64 (i2 + 1) := i64_succ (of_decide_eq_true ab) al ap;refine Xa (Ya i2 1 Z Z aq) (Xf (vi (i2 + 1)) Z (Xb ?_));obtain ⟨ar, au⟩ := H;exact ⟨i2 + 1, au, ar, (Xx Z), af, aa⟩
 have H := Xm H ab;refine Yh (xin_hit ?_);exact Xc (Xe (Xf (vi (-1)) Z (Xb (Xn ⟨[vi (-1)], ⟨_, Z, Z⟩, (-1), Z, H, af.gr.g0⟩))))
def F102.E (c_ : Change) (Q : Change → Prop) : Prop :=
 F83.E c_.Was (fun r => F83.E c_.Now (fun r2 => Q (⟨c_.Id, c_.Had, r, c_.Has, r2⟩ : Change)))
theorem F102.calls {c_ : Change} {A3 : Option Addr} {n4 c5 : Nat} {A8 : Option Addr} {n9 ai : Nat} {aj : Option Addr} {ak al : Nat} {am : Option Addr} {an ao : Nat} {Q : Change → Prop} (H : F102.E c_ Q) (hO : Ok w0 O) (hs1 : Lim c_.Id) (hs2 : Lim c_.Was.Id) (hp6 : Sl kPt w0 (Fr O) (G A3 n4 c5) c_.Was.Shape.Pts) (bh : Sl kTag w0 (Fr O) (G A8 n9 ai) c_.Was.Tags) (bi : Lim c_.Now.Id) (bj : Sl kPt w0 (Fr O) (G aj ak al) c_.Now.Shape.Pts) (bl : Sl kTag w0 (Fr O) (G am an ao) c_.Now.Tags) :
  Ret Tryz.prog 45 [.agg #[vs c_.Id, vb c_.Had, vs c_.Was.Id, vi c_.Was.Shape.Kind, G A3 n4 c5, G A8 n9 ai, vb c_.Has, vs c_.Now.Id, vi c_.Now.Shape.Kind, G aj ak al, G am an ao]] w0 (fun v w' => ∃ (r0 : Change) (Aw0 : Option Addr) (nw0 cw0 : Nat) (Aw2 : Option Addr) (nw2 cw2 : Nat) (Aw4 : Option Addr) (nw4 cw4 : Nat) (Aw6 : Option Addr) (nw6 cw6 : Nat), v = .agg #[vs r0.Id, vb r0.Had, vs r0.Was.Id, vi r0.Was.Shape.Kind, G Aw0 nw0 cw0, G Aw2 nw2 cw2, vb r0.Has, vs r0.Now.Id, vi r0.Now.Shape.Kind, G Aw4 nw4 cw4, G Aw6 nw6 cw6] ∧ Q r0 ∧ Gk w0 w' [bk Aw0, bk Aw2, bk Aw4, bk Aw6] O (Lim r0.Id ∧ Lim r0.Was.Id ∧ Ow kPt 49 w' ([bk Aw0, bk Aw2, bk Aw4, bk Aw6] ++ O) (G Aw0 nw0 cw0) r0.Was.Shape.Pts ∧ Ow kTag 93 w' ([bk Aw0, bk Aw2, bk Aw4, bk Aw6] ++ O) (G Aw2 nw2 cw2) r0.Was.Tags ∧ Lim r0.Now.Id ∧ Ow kPt 49 w' ([bk Aw0, bk Aw2, bk Aw4, bk Aw6] ++ O) (G Aw4 nw4 cw4) r0.Now.Shape.Pts ∧ Ow kTag 93 w' ([bk Aw0, bk Aw2, bk Aw4, bk Aw6] ++ O) (G Aw6 nw6 cw6) r0.Now.Tags)) := by
 unfold F102.E at H;have hc0 := Ct.init hO;refine Yb Tryz.func45 Z 16 Z [.cell 2 62] Z Z ?_;refine Xc (Xe (Yq [vs c_.Id, vb c_.Had, vs c_.Was.Id, vi c_.Was.Shape.Kind, G A3 n4 c5, G A8 n9 ai, vb c_.Has, vs c_.Now.Id, vi c_.Now.Shape.Kind, G aj ak al, G am an ao] Z fun cf aa bm hu28 bn bo => ?_));have bp := Fb.mk hc0.ok bm bo;have bc := hc0.k0 bn;refine Yo [vs [], vb false, vs [], .int .i64 0, G none 0 0, G none 0 0, vb false, vs [], .int .i64 0, G none 0 0, G none 0 0] ze62 fun cg a6 bd hu37 be bq => ?_;have bf := bc.own be (some a6) (Ym bd hu37);refine Xb (Xc (Za 14 [some a6] RK Z fun br a7 ab => ?_));have ad := bf.k0 a7;refine Xt 0 Z RK ab (Xj fa62_0 (Ad aa 0) (Ad aa 0) Z Z) ?_;have bs := bc.stown _ be (Xz bd);have bt := bf.stn a7;have ac := ((bp.st bs).st bt);refine Xt 1 Z RK ab (Y5 ag9 cR (Ad aa 0) (vs c_.Id) Z (ac.cell Z) (nm_cons (ad.fne 0 ac.2 Z) nm_nil)) ?_;refine Xt 2 Z RK ab (Xj fa62_1 (Ad aa 0) (Ad aa 1) Z Z) ?_;refine Xt 3 Z RK ab (Y5 ag4 cR (Ad aa 1) (vb c_.Had) Z (ac.cell Z) (nm_cons (ad.fne 0 ac.2 Z) nm_nil)) ?_;refine Xt 4 Z RK ab (Xj fa62_2 (Ad aa 0) (Ad aa 2) Z Z) ?_;refine Xt 5 Z RK ab (Zc ag44 sz44 cR (Ad aa 2) [vs c_.Was.Id, vi c_.Was.Shape.Kind, G A3 n4 c5, G A8 n9 ai] Z Z (ac.cells (off := 2) Z) (nm_cons (ad.fne 0 ac.2 Z) nm_nil)) ?_;refine Xt 7 Z RK ab (Xj fa62_3 (Ad aa 0) (Ad aa 6) Z Z) ?_;refine Xt 8 Z RK ab (Y5 ag4 cR (Ad aa 6) (vb c_.Has) Z (ac.cell Z) (nm_cons (ad.fne 0 ac.2 Z) nm_nil)) ?_;refine Xt 9 Z RK ab (Xj fa62_4 (Ad aa 0) (Ad aa 7) Z Z) ?_;refine Xt 10 Z RK ab (Zc ag44 sz44 cR (Ad aa 7) [vs c_.Now.Id, vi c_.Now.Shape.Kind, G aj ak al, G am an ao] Z Z (ac.cells (off := 7) Z) (nm_cons (ad.fne 0 ac.2 Z) nm_nil)) ?_;refine X1 6 RK Z ?_;refine Xs go64 (F83.calls H ad.ok hs2 (hp6.st ad.st) (bh.st ad.st)) Z ?_;rintro _ bu ⟨r, ae, av, aw, af, ax, ay, rfl, H, a8, bv, bw, bx, bz, b0⟩;have a5 := ad.owns a8 bv bw;have bg := Gm.tm ab a8;refine Xb ⟨bg, ?_⟩;refine X1 11 RK Z ?_;refine Xs go64 (F83.calls H a5.ok bi (bj.st a5.st) (bl.st a5.st)) Z ?_;rintro _ ch ⟨r2, ag, az, a0, ah, a1, a2, rfl, H, a3, b1, a9, b2, b3, b4⟩;have a4 := a5.owns a3 b1 a9;have ba := Gm.tm bg a3;refine Xb ⟨ba, ?_⟩;refine Xt 12 Z RK ba (Yr (.agg #[vs c_.Id, vb c_.Had, vs r.Id, vi r.Shape.Kind, G ae av aw, G af ax ay, vb c_.Has, vs r2.Id, vi r2.Shape.Kind, G ag az a0, G ah a1 a2]) RF) ?_;refine X1 13 RK Z ?_;have b5 := (((bq.k0 a7).k0 a8).k0 a3);refine Yf [vs c_.Id, vb c_.Had, vs r.Id, vi r.Shape.Kind, G ae av aw, G af ax ay, vb c_.Has, vs r2.Id, vi r2.Shape.Kind, G ag az a0, G ah a1 a2] b5 Z Z sz62 Z Z fun ci ap b6 => ?_;have aq := a4.wr 4 Z ap;have b7 := Gm.tq ba ap (hv_mem 0 Z);refine Xb ⟨b7, ?_⟩;refine Yn RK ?_;refine Xn ?_;have b8 := aq.bgv b6 4 Z;have ar := aq.drop 4 Z;have au : ([bk ag, bk ah, bk ae, bk af] : Ob).Perm [bk ae, bk af, bk ag, bk ah] := RP;have bb := ar.perm au;have b9 := ar.stp au;have ca := (b8.st b9);have cb := (ar.sp (aq.sd (a4.sw (bz.sos a3 a9) 2 4 Z Z Z ap) 2 4 Z Z Z) au);have cc := (ar.sp (aq.sd (a4.sw (b0.sos a3 a9) 3 4 Z Z Z ap) 3 4 Z Z Z) au);have cd := (ar.sp (aq.sd (a4.sw b3 0 4 Z Z Z ap) 0 4 Z Z Z) au);have ce := (ar.sp (aq.sd (a4.sw b4 1 4 Z Z Z ap) 1 4 Z Z Z) au);exact ⟨[.agg #[vs c_.Id, vb c_.Had, vs r.Id, vi r.Shape.Kind, G ae av aw, G af ax ay, vb c_.Has, vs r2.Id, vi r2.Shape.Kind, G ag az a0, G ah a1 a2]], ⟨_, _, Z, ca.1.res Z ag62 sz62, Z⟩, (⟨c_.Id, c_.Had, r, c_.Has, r2⟩ : Change), ae, av, aw, af, ax, ay, ag, az, a0, ah, a1, a2, Z, H, bb.gr.g0, bb.ok, bb.ge, hs1, bx, cb, cc, b2, cd, ce⟩
def F136.E (d : List Change) (c_ : Change) (Q : List Change → Prop) : Prop :=
 (∃ (I77 : Int → Prop) (mu78 : Int → Nat), I77 0 ∧ ∀ (k2 : Int), I77 k2 → (if decide (k2 < (d.length : Int)) then ((0 : Int) ≤ k2 ∧ k2 < (d.length : Int)) ∧ (if Op.bytesLess ((nth d k2).Id) c_.Id then (-9223372036854775808 ≤ k2) ∧ I77 (k2 + 1) ∧ mu78 (k2 + 1) < mu78 k2 else ((0 : Int) ≤ k2 ∧ (k2 : Int) ≤ (d.length : Int) ∧ (d.length : Int) ≤ (d.length : Int)) ∧ (([] : List Change).length + ((d.drop k2.toNat).take ((d.length : Int).toNat - k2.toNat)).length ≤ 268435456) ∧ ((0 : Int) ≤ 0 ∧ (0 : Int) ≤ k2 ∧ k2 ≤ (d.length : Int)) ∧ (([] : List Change).length + ((d.drop (0 : Int).toNat).take (k2.toNat - (0 : Int).toNat)).length ≤ 268435456) ∧ ((([] : List Change) ++ ((d.drop (0 : Int).toNat).take (k2.toNat - (0 : Int).toNat))).length + ([c_] : List Change).length ≤ 268435456) ∧ (((([] : List Change) ++ ((d.drop (0 : Int).toNat).take (k2.toNat - (0 : Int).toNat))) ++ ([c_] : List Change)).length + (([] : List Change) ++ ((d.drop k2.toNat).take ((d.length : Int).toNat - k2.toNat))).length ≤ 268435456) ∧ Q (((([] : List Change) ++ ((d.drop (0 : Int).toNat).take (k2.toNat - (0 : Int).toNat))) ++ ([c_] : List Change)) ++ (([] : List Change) ++ ((d.drop k2.toNat).take ((d.length : Int).toNat - k2.toNat))))) else ((0 : Int) ≤ k2 ∧ (k2 : Int) ≤ (d.length : Int) ∧ (d.length : Int) ≤ (d.length : Int)) ∧ (([] : List Change).length + ((d.drop k2.toNat).take ((d.length : Int).toNat - k2.toNat)).length ≤ 268435456) ∧ ((0 : Int) ≤ 0 ∧ (0 : Int) ≤ k2 ∧ k2 ≤ (d.length : Int)) ∧ (([] : List Change).length + ((d.drop (0 : Int).toNat).take (k2.toNat - (0 : Int).toNat)).length ≤ 268435456) ∧ ((([] : List Change) ++ ((d.drop (0 : Int).toNat).take (k2.toNat - (0 : Int).toNat))).length + ([c_] : List Change).length ≤ 268435456) ∧ (((([] : List Change) ++ ((d.drop (0 : Int).toNat).take (k2.toNat - (0 : Int).toNat))) ++ ([c_] : List Change)).length + (([] : List Change) ++ ((d.drop k2.toNat).take ((d.length : Int).toNat - k2.toNat))).length ≤ 268435456) ∧ Q (((([] : List Change) ++ ((d.drop (0 : Int).toNat).take (k2.toNat - (0 : Int).toNat))) ++ ([c_] : List Change)) ++ (([] : List Change) ++ ((d.drop k2.toNat).take ((d.length : Int).toNat - k2.toNat))))))
theorem F136.calls {d : List Change} {A1 : Option Addr} {n2 c3 : Nat} {c_ : Change} {A8 : Option Addr} {n9 ab : Nat} {ac : Option Addr} {ad ae : Nat} {af : Option Addr} {ag ah : Nat} {ai : Option Addr} {aj ak : Nat} {Q : List Change → Prop} (H : F136.E d c_ Q) (hO : Ok w0 O) (hp4 : Sl kChange w0 (Fr O) (G A1 n2 c3) d) (hs6 : Lim c_.Id) (hs7 : Lim c_.Was.Id) (g3 : Sl kPt w0 (Fr O) (G A8 n9 ab) c_.Was.Shape.Pts) (g4 : Sl kTag w0 (Fr O) (G ac ad ae) c_.Was.Tags) (bi : Lim c_.Now.Id) (g5 : Sl kPt w0 (Fr O) (G af ag ah) c_.Now.Shape.Pts) (g6 : Sl kTag w0 (Fr O) (G ai aj ak) c_.Now.Tags) :
  Ret Tryz.prog 95 [G A1 n2 c3, .agg #[vs c_.Id, vb c_.Had, vs c_.Was.Id, vi c_.Was.Shape.Kind, G A8 n9 ab, G ac ad ae, vb c_.Has, vs c_.Now.Id, vi c_.Now.Shape.Kind, G af ag ah, G ai aj ak]] w0 (fun v w' => ∃ (r0 : List Change) (Aw0 : Option Addr) (nw0 cw0 : Nat), v = G Aw0 nw0 cw0 ∧ Q r0 ∧ Gk w0 w' [bk Aw0] O (Ow kChange 62 w' ([bk Aw0] ++ O) (G Aw0 nw0 cw0) r0)) := by
 unfold F136.E at H;have hc0 := Ct.init hO;refine Yb Tryz.func95 Z 38 Z [.tmp 4] Z Z ?_;refine Xc (Xe (Yq [vs c_.Id, vb c_.Had, vs c_.Was.Id, vi c_.Was.Shape.Kind, G A8 n9 ab, G ac ad ae, vb c_.Has, vs c_.Now.Id, vi c_.Now.Shape.Kind, G af ag ah, G ai aj ak] Z fun mf a8 g7 hu33 g8 g9 => ?_));have ha := Fb.mk hc0.ok g7 g9;have bj := hc0.k0 g8;refine Xf (G none 0 0) Z (Xb (Xc (Xe (Xf (vi 0) Z (Xb (Xc (X6 ?_)))))));obtain ⟨hb, hc, co, H⟩ := H;refine Yj (α := Int) (fun (sv__ : Int) t a1 => match sv__ with | k2 => hb k2 ∧ Has t [(0, G A1 n2 c3), (3, Pz a8), (5, vi k2)] ∧ Cw [] w0 a1 [] O fun M => Sl kChange a1 (Fr M) (G A1 n2 c3) d ∧ Sl kPt a1 (Fr M) (G A8 n9 ab) c_.Was.Shape.Pts ∧ Sl kTag a1 (Fr M) (G ac ad ae) c_.Was.Tags ∧ Sl kPt a1 (Fr M) (G af ag ah) c_.Now.Shape.Pts ∧ Sl kTag a1 (Fr M) (G ai aj ak) c_.Now.Tags ∧ Fb a1 M a8 [vs c_.Id, vb c_.Had, vs c_.Was.Id, vi c_.Was.Shape.Kind, G A8 n9 ab, G ac ad ae, vb c_.Has, vs c_.Now.Id, vi c_.Now.Shape.Kind, G af ag ah, G ai aj ak]) (fun (sv__ : Int) => match sv__ with | k2 => hc k2) 0 ⟨co, (Xx Z), bj, (hp4.st bj.st), (g3.st bj.st), (g4.st bj.st), (g5.st bj.st), (g6.st bj.st), ha⟩ ?_;rintro k2 _ a1 ⟨co, hd, bo, a9, ba, bb, bc, bd, b6⟩;obtain ⟨mg, rfl⟩ := Has.ins hd;have H := H k2 co;refine Xc (Xc (Yy (fun x => Gr a1 x none) RK RK (Gr.drew _) ?_));refine Xy (vi k2) Z (Xy (G A1 n2 c3) Z ?_);have he := a9.le;refine Xg (X9 u23_ A1 n2 c3 a9.len Z) (Xg (X0 k2 (d.length : Int) (decide (k2 < (d.length : Int))) Z Z Z) (Xy (vb (decide (k2 < (d.length : Int)))) Z ?_));rcases X4 (decide (k2 < (d.length : Int))) with aa | aa
 ·have H := Xl H aa;refine Xp aa Z (Xy (G A1 n2 c3) Z (Xp aa Z (Xy (vi k2) Z (Xp aa Z ?_))));obtain ⟨es, H⟩ := H;obtain ⟨b7, mh, hf, mi, hg, hh⟩ := a9.get default RD k2 es;obtain ⟨mj, ml, mm, mn, mo, mp, mq, mr, ms, mt, mu, mv, rfl, mw, mx, my, mz, m0, m1, m2⟩ := kChange.op hg;refine Xg (X3 u23_ Yi A1 b7 n2 c3 a9.len k2 Z hf Z es) (Xp aa Z (Xg (Xj fa62_0 (b7.add (k2.toNat * 11)) ((b7.add (k2.toNat * 11)).add 0) Z Z) (Xp aa Z (Xg (Xo ag9 cQ ((b7.add (k2.toNat * 11)).add 0) (vs ((nth d k2).Id)) Z (hh 0 _ Z)) (Xp aa Z (Xg (Xj fa62_0 (Ad a8 0) (Ad a8 0) Z Z) (Xp aa Z (Xg (Xo ag9 cQ (Ad a8 0) (vs c_.Id) Z (b6.cell Z)) ?_))))))));refine Xp aa Z (Xg (Yt ((nth d k2).Id) c_.Id (Op.bytesLess ((nth d k2).Id) c_.Id) Z Z Z) (Xg (Yp true (vb (Op.bytesLess ((nth d k2).Id) c_.Id)) (by exact congrArg Value.bool aa) Z) (Ye fun m3 cp => ?_)));have cq := bo.k0 cp;refine Xu (Op.bytesLess ((nth d k2).Id) c_.Id) Z (fun cr => ?_) (fun cr => ?_)
  ·have H := Xl H cr;refine Xw (X6 (Xe (Xd (vi k2) Z ?_)));obtain ⟨hi, H⟩ := H;have hj : I64 (k2 + 1) := i64_succ (of_decide_eq_true aa) he hi;refine Xa (Ya k2 1 Z Z hj) (Xf (vi (k2 + 1)) Z (Xb ?_));obtain ⟨hk, hl⟩ := H;have bl := bo.stn cp;have hm := (b6.st bl);exact ⟨k2 + 1, hl, hk, (Xx Z), cq, (a9.st bl), (ba.st bl), (bb.st bl), (bc.st bl), (bd.st bl), hm⟩
  have H := Xm H cr;refine Yh (xin_hit ?_);refine Xc (Xe (X5 (kd := kChange) Yd cq ([] : List Change) (cells := []) Z RF fun m4 hn ho hp hq hr131 hr hs => ?_));refine Xd (G A1 n2 c3) Z (Xd (vi k2) Z ?_);obtain ⟨ht, H⟩ := H;have an := bo.stn cp;have ao := cq.stown _ hq hr131;have cs := ((a9.st an).st ao);refine Zm u23_ Yi A1 n2 c3 d Z cs k2 (d.length : Int) Z (bd_none cs.len) ht fun hu hv hw hx => ?_;obtain ⟨hy, H⟩ := H;refine Yc Yd hr (G hn ho hp) ([] : List Change) ((d.drop k2.toNat).take ((d.length : Int).toNat - k2.toNat)) Z hs (G hu hv hw) Z hx.sx 0 Z hy fun et al bp bq m5 ap eu ct => ?_;refine Xf (G al bp bq) Z (Xb (Xc ?_));obtain ⟨hz, H⟩ := H;obtain ⟨cu, H⟩ := H;obtain ⟨cv, H⟩ := H;obtain ⟨cw, H⟩ := H;refine Zh (J := (fun t br => ∃ (a2 : Option Addr) (bs bt : Nat), Has t [(4, G a2 bs bt)] ∧ Gr et br none ∧ Ct [] w0 br [bk a2, bk al] O ∧ (∀ b, some b ∈ ([bk a2] : Ob) → et.heap.size ≤ b) ∧ Ow kChange 62 br ([bk a2, bk al] ++ O) (G a2 bs bt) (((([] : List Change) ++ ((d.drop (0 : Int).toNat).take (k2.toNat - (0 : Int).toNat))) ++ ([c_] : List Change)) ++ (([] : List Change) ++ ((d.drop k2.toNat).take ((d.length : Int).toNat - k2.toNat)))))) ?_ ?_
  ·refine Za 11 [] RK Z fun m6 ax ay => ?_;have bu := eu.k0 ax;refine Xt 1 Z RK ay (Yl (G A1 n2 c3) Z) ?_;refine Xt 2 Z RK ay (Yl (vi k2) Z) ?_;have aq := eu.stn ax;have h0 := ((cs.st ap).st aq);refine Zw 3 Z RK ay u23_ Yi A1 n2 c3 d Z h0 0 k2 Z Z hz fun cx cy cz c0 => ?_;have h1 := ((((b6.st an).st ao).st ap).st aq);refine Xt 5 Z RK ay (Zc ag62 sz62 cR (Ad a8 0) [vs c_.Id, vb c_.Had, vs c_.Was.Id, vi c_.Was.Shape.Kind, G A8 n9 ab, G ac ad ae, vb c_.Has, vs c_.Now.Id, vi c_.Now.Shape.Kind, G af ag ah, G ai aj ak] Z Z (h1.cells (off := 0) Z) nm_nil) ?_;refine Xt 8 Z RK ay (Yl (G al bp bq) Z) ?_;refine Y8 0 6 RK Z Z ?_ ?_
   ·refine X5 (kd := kChange) Yd bu ([] : List Change) (cells := []) Z RF fun h2 a3 b8 b9 a4 hr175 be ca => ?_;have cb := Gm.tm ay a4;refine Xb ⟨cb, ?_⟩;refine Y8 4 6 RK Z Z ?_ ?_
    ·have bv := bu.stown _ a4 hr175;refine Yc Yd be (G a3 b8 b9) ([] : List Change) ((d.drop (0 : Int).toNat).take (k2.toNat - (0 : Int).toNat)) Z ca (G cx cy cz) Z (c0.st bv).sx 0 Z cu fun m7 ev h3 h4 ew bm ex h5 => ?_;have ey := Gm.tq cb ew (hv_new ay hr175);have ez := hv_app (L := [bk a3, bk al]) (O := O) (i := 0) cb Z (hv_new ay hr175) bm ex;refine Xb ⟨ey, ?_⟩;refine X1 6 RK Z ?_;have h6 := ((((((ba.st an).st ao).st ap).st aq).st bv).st bm);have h7 := ((((((bb.st an).st ao).st ap).st aq).st bv).st bm);have h8 := ((((((bc.st an).st ao).st ap).st aq).st bv).st bm);have h9 := ((((((bd.st an).st ao).st ap).st aq).st bv).st bm);refine X5 (kd := kChange) Yd ex ([c_] : List Change) (cells := [vs c_.Id, vb c_.Had, vs c_.Was.Id, vi c_.Was.Shape.Kind, G A8 n9 ab, G ac ad ae, vb c_.Has, vs c_.Now.Id, vi c_.Now.Shape.Kind, G af ag ah, G ai aj ak]) ⟨[vs c_.Id, vb c_.Had, vs c_.Was.Id, vi c_.Was.Shape.Kind, G A8 n9 ab, G ac ad ae, vb c_.Has, vs c_.Now.Id, vi c_.Now.Shape.Kind, G af ag ah, G ai aj ak], _, Z, (kChange.mk _ _ c_ hs6 hs7 h6 h7 bi h8 h9), Z⟩ RF fun m8 c1 ia ib c2 hr197 e0 ic => ?_;have bf := Gm.tm ey c2;refine Xb ⟨bf, ?_⟩;refine X1 7 RK Z ?_;have id := (h5.so _ c2 hr197);refine Yc Yd e0 (G ev h3 h4) (([] : List Change) ++ ((d.drop (0 : Int).toNat).take (k2.toNat - (0 : Int).toNat))) ([c_] : List Change) Z id (G c1 ia ib) Z ic.sx 1 Z cv fun m9 e1 ie ig e2 e3 e4 ih => ?_;have c4 := Gm.tq bf e2 ez;have e5 := hv_app (L := [bk c1, bk ev, bk al]) (O := O) (i := 1) bf Z ez e3 e4;refine Xb ⟨c4, ?_⟩;refine X1 9 RK Z ?_;have ii := (e0.sm ((be.sm ((ct.sn ax).so _ a4 hr175) 1 0 Z Z Z ew bm).so _ c2 hr197) 2 1 Z Z Z e2 e3);refine Yc Yd e4 (G e1 ie ig) ((([] : List Change) ++ ((d.drop (0 : Int).toNat).take (k2.toNat - (0 : Int).toNat))) ++ ([c_] : List Change)) (([] : List Change) ++ ((d.drop k2.toNat).take ((d.length : Int).toNat - k2.toNat))) Z ih (G al bp bq) Z ii.sx 1 Z cw fun na e6 e7 e8 ij ik c5 il => ?_;have c6 := Gm.tq c4 ij e5;have im := hv_app (L := [bk c1, bk e1, bk al]) (O := O) (i := 1) c4 Z e5 ik c5;refine Xb ⟨c6, ?_⟩;refine Xt 10 Z RK c6 (Zb (G e6 e7 e8) Z) ?_;refine Yn RK ?_;have io := c5.drop 0 Z;have ip := (c5.sd il 1 0 Z Z Z);exact ⟨e6, e7, e8, (Xx Z), (Gr.t0 ax c6.g0), io, (jg_cons ax.size im jg_nil), ip⟩
    have bw := bu.stown _ a4 hr175;have iq := (((((ba.st an).st ao).st ap).st aq).st bw);have ir := (((((bb.st an).st ao).st ap).st aq).st bw);have c7 := (((((bc.st an).st ao).st ap).st aq).st bw);have it := (((((bd.st an).st ao).st ap).st aq).st bw);refine X5 (kd := kChange) Yd be ([c_] : List Change) (cells := [vs c_.Id, vb c_.Had, vs c_.Was.Id, vi c_.Was.Shape.Kind, G A8 n9 ab, G ac ad ae, vb c_.Has, vs c_.Now.Id, vi c_.Now.Shape.Kind, G af ag ah, G ai aj ak]) ⟨[vs c_.Id, vb c_.Had, vs c_.Was.Id, vi c_.Was.Shape.Kind, G A8 n9 ab, G ac ad ae, vb c_.Has, vs c_.Now.Id, vi c_.Now.Shape.Kind, G af ag ah, G ai aj ak], _, Z, (kChange.mk _ _ c_ hs6 hs7 iq ir bi c7 it), Z⟩ RF fun nb cc iu iv cd hr185 c8 iw => ?_;have c9 := Gm.tm cb cd;refine Xb ⟨c9, ?_⟩;refine X1 4 RK Z ?_;have da := be.stown _ cd hr185;have db := ((c0.st bw).st da);have ix := (ca.so _ cd hr185);refine Yc Yd c8 (G a3 b8 b9) ([] : List Change) ((d.drop (0 : Int).toNat).take (k2.toNat - (0 : Int).toNat)) Z ix (G cx cy cz) Z db.sx 1 Z cu fun nc e9 iy iz dc dd de i0 => ?_;have df := Gm.tq c9 dc (hv_new ay hr175);have fa := hv_app (L := [bk cc, bk a3, bk al]) (O := O) (i := 1) c9 Z (hv_new ay hr175) dd de;refine Xb ⟨df, ?_⟩;refine X1 7 RK Z ?_;have i1 := (c8.sm iw 0 1 Z Z Z dc dd);refine Yc Yd de (G e9 iy iz) (([] : List Change) ++ ((d.drop (0 : Int).toNat).take (k2.toNat - (0 : Int).toNat))) ([c_] : List Change) Z i0 (G cc iu iv) Z i1.sx 1 Z cv fun nd fb i2 i3 fc fd fe i4 => ?_;have dg := Gm.tq df fc fa;have ff := hv_app (L := [bk cc, bk e9, bk al]) (O := O) (i := 1) df Z fa fd fe;refine Xb ⟨dg, ?_⟩;refine X1 9 RK Z ?_;have i5 := (de.sm (c8.sm (((ct.sn ax).so _ a4 hr175).so _ cd hr185) 2 1 Z Z Z dc dd) 2 1 Z Z Z fc fd);refine Yc Yd fe (G fb i2 i3) ((([] : List Change) ++ ((d.drop (0 : Int).toNat).take (k2.toNat - (0 : Int).toNat))) ++ ([c_] : List Change)) (([] : List Change) ++ ((d.drop k2.toNat).take ((d.length : Int).toNat - k2.toNat))) Z i4 (G al bp bq) Z i5.sx 1 Z cw fun ne fg fh fi i6 i7 dh i8 => ?_;have di := Gm.tq dg i6 ff;have i9 := hv_app (L := [bk cc, bk fb, bk al]) (O := O) (i := 1) dg Z ff i7 dh;refine Xb ⟨di, ?_⟩;refine Xt 10 Z RK di (Zb (G fg fh fi) Z) ?_;refine Yn RK ?_;have ja := dh.drop 0 Z;have jb := (dh.sd i8 1 0 Z Z Z);exact ⟨fg, fh, fi, (Xx Z), (Gr.t0 ax di.g0), ja, (jg_cons ax.size i9 jg_nil), jb⟩
   have jc := ((((ba.st an).st ao).st ap).st aq);have jd := ((((bb.st an).st ao).st ap).st aq);have je := ((((bc.st an).st ao).st ap).st aq);have jf := ((((bd.st an).st ao).st ap).st aq);refine X5 (kd := kChange) Yd bu ([c_] : List Change) (cells := [vs c_.Id, vb c_.Had, vs c_.Was.Id, vi c_.Was.Shape.Kind, G A8 n9 ab, G ac ad ae, vb c_.Has, vs c_.Now.Id, vi c_.Now.Shape.Kind, G af ag ah, G ai aj ak]) ⟨[vs c_.Id, vb c_.Had, vs c_.Was.Id, vi c_.Was.Shape.Kind, G A8 n9 ab, G ac ad ae, vb c_.Has, vs c_.Now.Id, vi c_.Now.Shape.Kind, G af ag ah, G ai aj ak], _, Z, (kChange.mk _ _ c_ hs6 hs7 jc jd bi je jf), Z⟩ RF fun h2 a3 b8 b9 a4 hr175 be ca => ?_;have ce := Gm.tm ay a4;refine Xb ⟨ce, ?_⟩;refine X1 0 RK Z ?_;refine X5 (kd := kChange) Yd be ([] : List Change) (cells := []) Z RF fun nf fj jg jh cf hr189 dj c7 => ?_;have dk := Gm.tm ce cf;refine Xb ⟨dk, ?_⟩;refine X1 4 RK Z ?_;have ji := bu.stown _ a4 hr175;have da := be.stown _ cf hr189;have db := ((c0.st ji).st da);refine Yc Yd dj (G fj jg jh) ([] : List Change) ((d.drop (0 : Int).toNat).take (k2.toNat - (0 : Int).toNat)) Z c7 (G cx cy cz) Z db.sx 0 Z cu fun ng fk jj jk dl dm dn jl => ?_;have bf := Gm.tq dk dl (hv_new ce hr189);have fl := hv_app (L := [bk fj, bk a3, bk al]) (O := O) (i := 0) dk Z (hv_new ce hr189) dm dn;refine Xb ⟨bf, ?_⟩;refine X1 7 RK Z ?_;have jm := (dj.sm (ca.so _ cf hr189) 1 0 Z Z Z dl dm);refine Yc Yd dn (G fk jj jk) (([] : List Change) ++ ((d.drop (0 : Int).toNat).take (k2.toNat - (0 : Int).toNat))) ([c_] : List Change) Z jl (G a3 b8 b9) Z jm.sx 0 Z cv fun nh fm jn jo fn fo fp jp => ?_;have dp := Gm.tq bf fn fl;have fq := hv_app (L := [bk fk, bk a3, bk al]) (O := O) (i := 0) bf Z fl fo fp;refine Xb ⟨dp, ?_⟩;refine X1 9 RK Z ?_;have jq := (dn.sm (dj.sm (((ct.sn ax).so _ a4 hr175).so _ cf hr189) 2 0 Z Z Z dl dm) 2 0 Z Z Z fn fo);refine Yc Yd fp (G fm jn jo) ((([] : List Change) ++ ((d.drop (0 : Int).toNat).take (k2.toNat - (0 : Int).toNat))) ++ ([c_] : List Change)) (([] : List Change) ++ ((d.drop k2.toNat).take ((d.length : Int).toNat - k2.toNat))) Z jp (G al bp bq) Z jq.sx 0 Z cw fun ni fr fs ft jr js dq jt => ?_;have dr := Gm.tq dp jr fq;have ju := hv_app (L := [bk fm, bk a3, bk al]) (O := O) (i := 0) dp Z fq js dq;refine Xb ⟨dr, ?_⟩;refine Xt 10 Z RK dr (Zb (G fr fs ft) Z) ?_;refine Yn RK ?_;have jv := dq.drop 1 Z;have jw := (dq.sd jt 0 1 Z Z Z);exact ⟨fr, fs, ft, (Xx Z), (Gr.t0 ax dr.g0), jv, (jg_cons ax.size ju jg_nil), jw⟩
  rintro nj br ⟨a2, bs, bt, jx, nk, fu, nl, jy⟩;obtain ⟨nm, rfl⟩ := Has.ins jx;refine Xn ?_;have ds : Ct [] w0 br [bk a2] O := fu.drop 1 Z;have jz := (fu.sd jy 0 1 Z Z Z);exact ⟨[G a2 bs bt], ⟨_, Z, Z⟩, (((([] : List Change) ++ ((d.drop (0 : Int).toNat).take (k2.toNat - (0 : Int).toNat))) ++ ([c_] : List Change)) ++ (([] : List Change) ++ ((d.drop k2.toNat).take ((d.length : Int).toNat - k2.toNat)))), a2, bs, bt, Z, H, ds.gr.g0, ds.ok, ds.ge, jz⟩
 have H := Xm H aa;refine Xq aa Z (Xq aa Z (Xq aa Z (Xq aa Z (Xq aa Z (Xq aa Z (Xq aa Z (Xq aa Z (Xg (Xk false (vb false) aa Z) ?_))))))));refine Ye fun nn fv => ?_;have fw := bo.k0 fv;refine Y6 (b := false) Z Z ?_;refine Yh (xin_hit ?_);refine Xc (Xe (X5 (kd := kChange) Yd fw ([] : List Change) (cells := []) Z RF fun no j0 j1 j2 j3 hr2184 j4 j5 => ?_));refine Xd (G A1 n2 c3) Z (Xd (vi k2) Z ?_);obtain ⟨j6, H⟩ := H;have ar := bo.stn fv;have au := fw.stown _ j3 hr2184;have dt := ((a9.st ar).st au);refine Zm u23_ Yi A1 n2 c3 d Z dt k2 (d.length : Int) Z (bd_none dt.len) j6 fun j7 j8 j9 ka => ?_;obtain ⟨kb, H⟩ := H;refine Yc Yd j4 (G j0 j1 j2) ([] : List Change) ((d.drop k2.toNat).take ((d.length : Int).toNat - k2.toNat)) Z j5 (G j7 j8 j9) Z ka.sx 0 Z kb fun fx am bx bz np av fy du => ?_;refine Xf (G am bx bz) Z (Xb (Xc ?_));obtain ⟨kc, H⟩ := H;obtain ⟨dv, H⟩ := H;obtain ⟨dw, H⟩ := H;obtain ⟨dx, H⟩ := H;refine Zh (J := (fun t b0 => ∃ (a5 : Option Addr) (b1 b2 : Nat), Has t [(4, G a5 b1 b2)] ∧ Gr fx b0 none ∧ Ct [] w0 b0 [bk a5, bk am] O ∧ (∀ b, some b ∈ ([bk a5] : Ob) → fx.heap.size ≤ b) ∧ Ow kChange 62 b0 ([bk a5, bk am] ++ O) (G a5 b1 b2) (((([] : List Change) ++ ((d.drop (0 : Int).toNat).take (k2.toNat - (0 : Int).toNat))) ++ ([c_] : List Change)) ++ (([] : List Change) ++ ((d.drop k2.toNat).take ((d.length : Int).toNat - k2.toNat)))))) ?_ ?_
 ·refine Za 11 [] RK Z fun nq az a0 => ?_;have b3 := fy.k0 az;refine Xt 1 Z RK a0 (Yl (G A1 n2 c3) Z) ?_;refine Xt 2 Z RK a0 (Yl (vi k2) Z) ?_;have aw := fy.stn az;have ke := ((dt.st av).st aw);refine Zw 3 Z RK a0 u23_ Yi A1 n2 c3 d Z ke 0 k2 Z Z kc fun dy dz d0 d1 => ?_;have kf := ((((b6.st ar).st au).st av).st aw);refine Xt 5 Z RK a0 (Zc ag62 sz62 cR (Ad a8 0) [vs c_.Id, vb c_.Had, vs c_.Was.Id, vi c_.Was.Shape.Kind, G A8 n9 ab, G ac ad ae, vb c_.Has, vs c_.Now.Id, vi c_.Now.Shape.Kind, G af ag ah, G ai aj ak] Z Z (kf.cells (off := 0) Z) nm_nil) ?_;refine Xt 8 Z RK a0 (Yl (G am bx bz) Z) ?_;refine Y8 0 6 RK Z Z ?_ ?_
  ·refine X5 (kd := kChange) Yd b3 ([] : List Change) (cells := []) Z RF fun kg a6 cg ch a7 hr2228 bg ci => ?_;have cj := Gm.tm a0 a7;refine Xb ⟨cj, ?_⟩;refine Y8 4 6 RK Z Z ?_ ?_
   ·have b4 := b3.stown _ a7 hr2228;refine Yc Yd bg (G a6 cg ch) ([] : List Change) ((d.drop (0 : Int).toNat).take (k2.toNat - (0 : Int).toNat)) Z ci (G dy dz d0) Z (d1.st b4).sx 0 Z dv fun nr fz kh ki f0 bn f1 kj => ?_;have f2 := Gm.tq cj f0 (hv_new a0 hr2228);have f3 := hv_app (L := [bk a6, bk am]) (O := O) (i := 0) cj Z (hv_new a0 hr2228) bn f1;refine Xb ⟨f2, ?_⟩;refine X1 6 RK Z ?_;have kk := ((((((ba.st ar).st au).st av).st aw).st b4).st bn);have kl := ((((((bb.st ar).st au).st av).st aw).st b4).st bn);have km := ((((((bc.st ar).st au).st av).st aw).st b4).st bn);have kn := ((((((bd.st ar).st au).st av).st aw).st b4).st bn);refine X5 (kd := kChange) Yd f1 ([c_] : List Change) (cells := [vs c_.Id, vb c_.Had, vs c_.Was.Id, vi c_.Was.Shape.Kind, G A8 n9 ab, G ac ad ae, vb c_.Has, vs c_.Now.Id, vi c_.Now.Shape.Kind, G af ag ah, G ai aj ak]) ⟨[vs c_.Id, vb c_.Had, vs c_.Was.Id, vi c_.Was.Shape.Kind, G A8 n9 ab, G ac ad ae, vb c_.Has, vs c_.Now.Id, vi c_.Now.Shape.Kind, G af ag ah, G ai aj ak], _, Z, (kChange.mk _ _ c_ hs6 hs7 kk kl bi km kn), Z⟩ RF fun ns d2 ko kp d3 hr2250 f4 kq => ?_;have bh := Gm.tm f2 d3;refine Xb ⟨bh, ?_⟩;refine X1 7 RK Z ?_;have kr := (kj.so _ d3 hr2250);refine Yc Yd f4 (G fz kh ki) (([] : List Change) ++ ((d.drop (0 : Int).toNat).take (k2.toNat - (0 : Int).toNat))) ([c_] : List Change) Z kr (G d2 ko kp) Z kq.sx 1 Z dw fun nt f5 ks kt f6 f7 f8 ku => ?_;have d4 := Gm.tq bh f6 f3;have f9 := hv_app (L := [bk d2, bk fz, bk am]) (O := O) (i := 1) bh Z f3 f7 f8;refine Xb ⟨d4, ?_⟩;refine X1 9 RK Z ?_;have kv := (f4.sm ((bg.sm ((du.sn az).so _ a7 hr2228) 1 0 Z Z Z f0 bn).so _ d3 hr2250) 2 1 Z Z Z f6 f7);refine Yc Yd f8 (G f5 ks kt) ((([] : List Change) ++ ((d.drop (0 : Int).toNat).take (k2.toNat - (0 : Int).toNat))) ++ ([c_] : List Change)) (([] : List Change) ++ ((d.drop k2.toNat).take ((d.length : Int).toNat - k2.toNat))) Z ku (G am bx bz) Z kv.sx 1 Z dx fun nu ga gb gc kx ky d5 kz => ?_;have d6 := Gm.tq d4 kx f9;have k1 := hv_app (L := [bk d2, bk f5, bk am]) (O := O) (i := 1) d4 Z f9 ky d5;refine Xb ⟨d6, ?_⟩;refine Xt 10 Z RK d6 (Zb (G ga gb gc) Z) ?_;refine Yn RK ?_;have k3 := d5.drop 0 Z;have k4 := (d5.sd kz 1 0 Z Z Z);exact ⟨ga, gb, gc, (Xx Z), (Gr.t0 az d6.g0), k3, (jg_cons az.size k1 jg_nil), k4⟩
   have b5 := b3.stown _ a7 hr2228;have k5 := (((((ba.st ar).st au).st av).st aw).st b5);have k6 := (((((bb.st ar).st au).st av).st aw).st b5);have d7 := (((((bc.st ar).st au).st av).st aw).st b5);have k7 := (((((bd.st ar).st au).st av).st aw).st b5);refine X5 (kd := kChange) Yd bg ([c_] : List Change) (cells := [vs c_.Id, vb c_.Had, vs c_.Was.Id, vi c_.Was.Shape.Kind, G A8 n9 ab, G ac ad ae, vb c_.Has, vs c_.Now.Id, vi c_.Now.Shape.Kind, G af ag ah, G ai aj ak]) ⟨[vs c_.Id, vb c_.Had, vs c_.Was.Id, vi c_.Was.Shape.Kind, G A8 n9 ab, G ac ad ae, vb c_.Has, vs c_.Now.Id, vi c_.Now.Shape.Kind, G af ag ah, G ai aj ak], _, Z, (kChange.mk _ _ c_ hs6 hs7 k5 k6 bi d7 k7), Z⟩ RF fun nv ck k8 k9 cl hr2238 d8 la => ?_;have d9 := Gm.tm cj cl;refine Xb ⟨d9, ?_⟩;refine X1 4 RK Z ?_;have ea := bg.stown _ cl hr2238;have eb := ((d1.st b5).st ea);have lb := (ci.so _ cl hr2238);refine Yc Yd d8 (G a6 cg ch) ([] : List Change) ((d.drop (0 : Int).toNat).take (k2.toNat - (0 : Int).toNat)) Z lb (G dy dz d0) Z eb.sx 1 Z dv fun nw gd lc ld ec ed ee lf => ?_;have ef := Gm.tq d9 ec (hv_new a0 hr2228);have gf := hv_app (L := [bk ck, bk a6, bk am]) (O := O) (i := 1) d9 Z (hv_new a0 hr2228) ed ee;refine Xb ⟨ef, ?_⟩;refine X1 7 RK Z ?_;have lg := (d8.sm la 0 1 Z Z Z ec ed);refine Yc Yd ee (G gd lc ld) (([] : List Change) ++ ((d.drop (0 : Int).toNat).take (k2.toNat - (0 : Int).toNat))) ([c_] : List Change) Z lf (G ck k8 k9) Z lg.sx 1 Z dw fun nx gg lh li gh gi gj lj => ?_;have eg := Gm.tq ef gh gf;have gk := hv_app (L := [bk ck, bk gd, bk am]) (O := O) (i := 1) ef Z gf gi gj;refine Xb ⟨eg, ?_⟩;refine X1 9 RK Z ?_;have lk := (ee.sm (d8.sm (((du.sn az).so _ a7 hr2228).so _ cl hr2238) 2 1 Z Z Z ec ed) 2 1 Z Z Z gh gi);refine Yc Yd gj (G gg lh li) ((([] : List Change) ++ ((d.drop (0 : Int).toNat).take (k2.toNat - (0 : Int).toNat))) ++ ([c_] : List Change)) (([] : List Change) ++ ((d.drop k2.toNat).take ((d.length : Int).toNat - k2.toNat))) Z lj (G am bx bz) Z lk.sx 1 Z dx fun ny gl gm gn ll lm eh ln => ?_;have ei := Gm.tq eg ll gk;have lo := hv_app (L := [bk ck, bk gg, bk am]) (O := O) (i := 1) eg Z gk lm eh;refine Xb ⟨ei, ?_⟩;refine Xt 10 Z RK ei (Zb (G gl gm gn) Z) ?_;refine Yn RK ?_;have lp := eh.drop 0 Z;have lq := (eh.sd ln 1 0 Z Z Z);exact ⟨gl, gm, gn, (Xx Z), (Gr.t0 az ei.g0), lp, (jg_cons az.size lo jg_nil), lq⟩
  have lr := ((((ba.st ar).st au).st av).st aw);have ls := ((((bb.st ar).st au).st av).st aw);have lt := ((((bc.st ar).st au).st av).st aw);have lu := ((((bd.st ar).st au).st av).st aw);refine X5 (kd := kChange) Yd b3 ([c_] : List Change) (cells := [vs c_.Id, vb c_.Had, vs c_.Was.Id, vi c_.Was.Shape.Kind, G A8 n9 ab, G ac ad ae, vb c_.Has, vs c_.Now.Id, vi c_.Now.Shape.Kind, G af ag ah, G ai aj ak]) ⟨[vs c_.Id, vb c_.Had, vs c_.Was.Id, vi c_.Was.Shape.Kind, G A8 n9 ab, G ac ad ae, vb c_.Has, vs c_.Now.Id, vi c_.Now.Shape.Kind, G af ag ah, G ai aj ak], _, Z, (kChange.mk _ _ c_ hs6 hs7 lr ls bi lt lu), Z⟩ RF fun kg a6 cg ch a7 hr2228 bg ci => ?_;have cm := Gm.tm a0 a7;refine Xb ⟨cm, ?_⟩;refine X1 0 RK Z ?_;refine X5 (kd := kChange) Yd bg ([] : List Change) (cells := []) Z RF fun nz gp lv lw cn hr2242 ej d7 => ?_;have ek := Gm.tm cm cn;refine Xb ⟨ek, ?_⟩;refine X1 4 RK Z ?_;have lx := b3.stown _ a7 hr2228;have ea := bg.stown _ cn hr2242;have eb := ((d1.st lx).st ea);refine Yc Yd ej (G gp lv lw) ([] : List Change) ((d.drop (0 : Int).toNat).take (k2.toNat - (0 : Int).toNat)) Z d7 (G dy dz d0) Z eb.sx 0 Z dv fun n0 gq ly lz el em en l0 => ?_;have bh := Gm.tq ek el (hv_new cm hr2242);have gs := hv_app (L := [bk gp, bk a6, bk am]) (O := O) (i := 0) ek Z (hv_new cm hr2242) em en;refine Xb ⟨bh, ?_⟩;refine X1 7 RK Z ?_;have l1 := (ej.sm (ci.so _ cn hr2242) 1 0 Z Z Z el em);refine Yc Yd en (G gq ly lz) (([] : List Change) ++ ((d.drop (0 : Int).toNat).take (k2.toNat - (0 : Int).toNat))) ([c_] : List Change) Z l0 (G a6 cg ch) Z l1.sx 0 Z dw fun n1 gt l2 l3 gu gv gw l4 => ?_;have eo := Gm.tq bh gu gs;have gx := hv_app (L := [bk gq, bk a6, bk am]) (O := O) (i := 0) bh Z gs gv gw;refine Xb ⟨eo, ?_⟩;refine X1 9 RK Z ?_;have l5 := (en.sm (ej.sm (((du.sn az).so _ a7 hr2228).so _ cn hr2242) 2 0 Z Z Z el em) 2 0 Z Z Z gu gv);refine Yc Yd gw (G gt l2 l3) ((([] : List Change) ++ ((d.drop (0 : Int).toNat).take (k2.toNat - (0 : Int).toNat))) ++ ([c_] : List Change)) (([] : List Change) ++ ((d.drop k2.toNat).take ((d.length : Int).toNat - k2.toNat))) Z l4 (G am bx bz) Z l5.sx 0 Z dx fun n3 gy gz g1 l6 l7 ep l8 => ?_;have eq := Gm.tq eo l6 gx;have l9 := hv_app (L := [bk gt, bk a6, bk am]) (O := O) (i := 0) eo Z gx l7 ep;refine Xb ⟨eq, ?_⟩;refine Xt 10 Z RK eq (Zb (G gy gz g1) Z) ?_;refine Yn RK ?_;have ma := ep.drop 1 Z;have mb := (ep.sd l8 0 1 Z Z Z);exact ⟨gy, gz, g1, (Xx Z), (Gr.t0 az eq.g0), ma, (jg_cons az.size l9 jg_nil), mb⟩
 rintro n4 b0 ⟨a5, b1, b2, mc, n5, g2, n6, md⟩;obtain ⟨n7, rfl⟩ := Has.ins mc;refine Xn ?_;have er : Ct [] w0 b0 [bk a5] O := g2.drop 1 Z;have me := (g2.sd md 0 1 Z Z Z);exact ⟨[G a5 b1 b2], ⟨_, Z, Z⟩, (((([] : List Change) ++ ((d.drop (0 : Int).toNat).take (k2.toNat - (0 : Int).toNat))) ++ ([c_] : List Change)) ++ (([] : List Change) ++ ((d.drop k2.toNat).take ((d.length : Int).toNat - k2.toNat)))), a5, b1, b2, Z, H, er.gr.g0, er.ok, er.ge, me⟩
def F66.E (a b : List Change) (Q : List Change → Bool → Prop) : Prop :=
 F101.E a (fun r => (if !r then Q [] false else F101.E b (fun r2 => (if !r2 then Q [] false else (∃ (I82 : (List Change) → Int → Prop) (mu83 : (List Change) → Int → Nat), I82 [] 0 ∧ ∀ (xs2 : List Change) (i2 : Int), I82 xs2 i2 → (if decide (i2 < (a.length : Int)) then ((0 : Int) ≤ i2 ∧ i2 < (a.length : Int)) ∧ F120.E b ((nth a i2).Id) (fun r3 => ((0 : Int) ≤ i2 ∧ i2 < (a.length : Int)) ∧ F102.E (nth a i2) (fun r4 => (if decide (r3 ≥ 0) then ((0 : Int) ≤ i2 ∧ i2 < (a.length : Int)) ∧ ((0 : Int) ≤ r3 ∧ r3 < (b.length : Int)) ∧ (if ((nth a i2).Has) != ((nth b r3).Had) then Q [] false else ((0 : Int) ≤ i2 ∧ i2 < (a.length : Int)) ∧ ((0 : Int) ≤ r3 ∧ r3 < (b.length : Int)) ∧ (∃ q : Bool, F45.E ((nth a i2).Now) ((nth b r3).Was) (fun x => x = q) ∧ (if !q then Q [] false else ((0 : Int) ≤ r3 ∧ r3 < (b.length : Int)) ∧ ((0 : Int) ≤ r3 ∧ r3 < (b.length : Int)) ∧ F83.E ((nth b r3).Now) (fun r6 => (if r4.Had != ((nth b r3).Has) then (xs2.length + ([(⟨r4.Id, r4.Had, r4.Was, (nth b r3).Has, r6⟩ : Change)] : List Change).length ≤ 268435456) ∧ (-9223372036854775808 ≤ i2) ∧ I82 (xs2 ++ ([(⟨r4.Id, r4.Had, r4.Was, (nth b r3).Has, r6⟩ : Change)] : List Change)) (i2 + 1) ∧ mu83 (xs2 ++ ([(⟨r4.Id, r4.Had, r4.Was, (nth b r3).Has, r6⟩ : Change)] : List Change)) (i2 + 1) < mu83 xs2 i2 else F45.E r4.Was r6 (fun r7 => (if !r7 then (xs2.length + ([(⟨r4.Id, r4.Had, r4.Was, (nth b r3).Has, r6⟩ : Change)] : List Change).length ≤ 268435456) ∧ (-9223372036854775808 ≤ i2) ∧ I82 (xs2 ++ ([(⟨r4.Id, r4.Had, r4.Was, (nth b r3).Has, r6⟩ : Change)] : List Change)) (i2 + 1) ∧ mu83 (xs2 ++ ([(⟨r4.Id, r4.Had, r4.Was, (nth b r3).Has, r6⟩ : Change)] : List Change)) (i2 + 1) < mu83 xs2 i2 else (-9223372036854775808 ≤ i2) ∧ I82 xs2 (i2 + 1) ∧ mu83 xs2 (i2 + 1) < mu83 xs2 i2))))))) else (if r4.Had != r4.Has then (xs2.length + ([r4] : List Change).length ≤ 268435456) ∧ (-9223372036854775808 ≤ i2) ∧ I82 (xs2 ++ ([r4] : List Change)) (i2 + 1) ∧ mu83 (xs2 ++ ([r4] : List Change)) (i2 + 1) < mu83 xs2 i2 else F45.E r4.Was r4.Now (fun r8 => (if !r8 then (xs2.length + ([r4] : List Change).length ≤ 268435456) ∧ (-9223372036854775808 ≤ i2) ∧ I82 (xs2 ++ ([r4] : List Change)) (i2 + 1) ∧ mu83 (xs2 ++ ([r4] : List Change)) (i2 + 1) < mu83 xs2 i2 else (-9223372036854775808 ≤ i2) ∧ I82 xs2 (i2 + 1) ∧ mu83 xs2 (i2 + 1) < mu83 xs2 i2)))))) else (∃ (I792 : (List Change) → Int → Prop) (mu793 : (List Change) → Int → Nat), I792 xs2 0 ∧ ∀ (xs4 : List Change) (i4 : Int), I792 xs4 i4 → (if decide (i4 < (b.length : Int)) then ((0 : Int) ≤ i4 ∧ i4 < (b.length : Int)) ∧ F120.E a ((nth b i4).Id) (fun r9 => (if decide (r9 < 0) then ((0 : Int) ≤ i4 ∧ i4 < (b.length : Int)) ∧ F102.E (nth b i4) (fun r10 => F136.E xs4 r10 (fun r11 => (-9223372036854775808 ≤ i4) ∧ I792 r11 (i4 + 1) ∧ mu793 r11 (i4 + 1) < mu793 xs4 i4)) else (-9223372036854775808 ≤ i4) ∧ I792 xs4 (i4 + 1) ∧ mu793 xs4 (i4 + 1) < mu793 xs4 i4)) else F101.E xs4 (fun r12 => (if !r12 then Q [] false else Q xs4 true))))))))))
theorem F66.calls {a : List Change} {A1 : Option Addr} {n2 c3 : Nat} {b : List Change} {A6 : Option Addr} {n7 c8 : Nat} {Q : List Change → Bool → Prop} (H : F66.E a b Q) (hO : Ok w0 O) (hp4 : Sl kChange w0 (Fr O) (G A1 n2 c3) a) (hp9 : Sl kChange w0 (Fr O) (G A6 n7 c8) b) :
  Ret Tryz.prog 38 [G A1 n2 c3, G A6 n7 c8] w0 (fun v w' => ∃ (r0 : List Change) (r1 : Bool) (Aw0 : Option Addr) (nw0 cw0 : Nat), v = .tuple #[G Aw0 nw0 cw0, vb r1] ∧ Q r0 r1 ∧ Gk w0 w' [bk Aw0] O (Ow kChange 62 w' ([bk Aw0] ++ O) (G Aw0 nw0 cw0) r0)) := by
 unfold F66.E at H;have hc0 := Ct.init hO;refine Yb Tryz.func38 Z 123 Z [.tmp 4, .tmp 5] Z Z ?_;refine Xc (Xe (Xf (G none 0 0) Z (Xf (vb false) Z (Xb (Xc (Xc (Xe (Xd (G A1 n2 c3) Z ?_))))))));refine Xs go15 (F101.calls H hc0.ok hp4) Z ?_;rintro _ jv ⟨r, rfl, H, jw⟩;have cy := hc0.k0 jw;refine Xa (X8 r Z) (Xd (vb (!r)) Z ?_);rcases X4 (!r) with bc | bc
 ·have H := Xl H bc;refine Xi bc Z (Xi bc Z (Xi bc Z (Xa (Xk true (vb true) bc Z) (Xb (Yu (b := true) Z Z ?_)))));refine Xc (Xe (X5 (kd := kChange) Yd cy ([] : List Change) (cells := []) Z RF fun rt d0 d1 d2 ru hr23 d3 jx => ?_));exact Xf (G d0 d1 d2) Z (Xf (vb false) Z (Xb (Xn ⟨[G d0 d1 d2, vb false], ⟨_, Z, ⟨_, Z, Z⟩⟩, ([] : List Change), false, d0, d1, d2, Z, H, d3.gr.g0, d3.ok, d3.ge, jx⟩)))
 have H := Xm H bc;refine Xh bc Z (Xd (G A6 n7 c8) Z (Xh bc Z ?_));refine Xs go15 (F101.calls H cy.ok (hp9.st cy.st)) Z ?_;rintro _ rv ⟨r2, rfl, H, jy⟩;have g1 := cy.k0 jy;refine Xh bc Z (Xa (X8 r2 Z) (Xa (Xk false (vb (!r2)) bc Z) (Xb ?_)));refine Xu (!r2) Z (fun d4 => ?_) (fun d4 => ?_)
 ·have H := Xl H d4;refine Xc (Xe (X5 (kd := kChange) Yd g1 ([] : List Change) (cells := []) Z RF fun rw d5 d6 d7 rx hr39 d8 jz => ?_));exact Xf (G d5 d6 d7) Z (Xf (vb false) Z (Xb (Xn ⟨[G d5 d6 d7, vb false], ⟨_, Z, ⟨_, Z, Z⟩⟩, ([] : List Change), false, d5, d6, d7, Z, H, d8.gr.g0, d8.ok, d8.ge, jz⟩)))
 have H := Xm H d4;refine Xw (Xc (Xe (X5 (kd := kChange) Yd g1 ([] : List Change) (cells := []) Z RF fun ry g3 g4 g5 rz hr48 d9 j0 => ?_)));refine Xf (G g3 g4 g5) Z (Xb (Xc (Xc (Xe (Xf (vi 0) Z (Xb (X6 ?_)))))));obtain ⟨j1, j2, ea, H⟩ := H;refine Yj (α := (List Change) × (Option Addr) × Nat × Nat × Int) (fun (xs2, ab, az, a0, i2) t b2 => j1 xs2 i2 ∧ Has t [(0, G A1 n2 c3), (1, G A6 n7 c8), (6, G ab az a0), (7, vi i2)] ∧ Cw [] w0 b2 [bk ab] O fun M => Sl kChange b2 (Fr M) (G A1 n2 c3) a ∧ Sl kChange b2 (Fr M) (G A6 n7 c8) b ∧ Ow kChange 62 b2 M (G ab az a0) xs2) (fun (xs2, _, _, _, i2) => j2 xs2 i2) (([] : List Change), g3, g4, g5, 0) ⟨ea, (Xx Z), d9, (hp4.st d9.st), (hp9.st d9.st), j0⟩ ?_;rintro ⟨xs2, ab, az, a0, i2⟩ _ b2 ⟨ea, j3, cz, bd, b3, bu⟩;obtain ⟨r5, rfl⟩ := Has.ins j3;have H := H xs2 i2 ea;refine Xc (Xc (Xe (Xd (vi i2) Z (Xd (G A1 n2 c3) Z ?_))));have b4 := bd.le;refine Xa (X9 u23_ A1 n2 c3 bd.len Z) (Xa (X0 i2 (a.length : Int) (decide (i2 < (a.length : Int))) Z Z Z) (Xb ?_));refine Xu (decide (i2 < (a.length : Int))) Z (fun bp => ?_) (fun bp => ?_)
 ·have H := Xl H bp;refine Xw (Xc (X6 (Xc (Xe (Xd (G A6 n7 c8) Z (Xd (G A1 n2 c3) Z (Xd (vi i2) Z ?_)))))));obtain ⟨g6, H⟩ := H;obtain ⟨c0, sa, j4, sb, j5, j6⟩ := bd.get default RD i2 g6;obtain ⟨sc, se, sf, sg, sh, si, sj, sk, sl, sm, sp, sq, rfl, j7, sr, ss, su, sv, sy, sz⟩ := kChange.op j5;refine Xa (X3 u23_ Yi A1 c0 n2 c3 bd.len i2 Z j4 Z g6) (Xa (Xj fa62_0 (c0.add (i2.toNat * 11)) ((c0.add (i2.toNat * 11)).add 0) Z Z) (Xa (Xo ag9 cL ((c0.add (i2.toNat * 11)).add 0) (vs ((nth a i2).Id)) Z (j6 0 _ Z)) ?_));refine Xs go93 (F120.calls H cz.ok b3 j7) Z ?_;rintro _ j8 ⟨r3, rfl, H, bs⟩;have b5 := cz.k0 bs;refine Xf (vi r3) Z (Xb (Xc (Xe (Xd (G A1 n2 c3) Z (Xd (vi i2) Z ?_)))));obtain ⟨g7, H⟩ := H;have bm := cz.stn bs;obtain ⟨g8, s0, j9, s1, ka, kb⟩ := (bd.st bm).get default RD i2 g7;obtain ⟨eb, ec, ed, ee, ef, eg, eh, ei, ej, ek, el, em, rfl, kc, ke, kf, kg, kh, ki, kj⟩ := kChange.op ka;refine Xa (X3 u23_ Yi A1 g8 n2 c3 (bd.st bm).len i2 Z j9 Z g7) (Xa (Xv ag62 sz62 cL (g8.add (i2.toNat * 11)) [vs ((nth a i2).Id), vb ((nth a i2).Had), vs ((nth a i2).Was.Id), vi ((nth a i2).Was.Shape.Kind), G eb ec ed, G ee ef eg, vb ((nth a i2).Has), vs ((nth a i2).Now.Id), vi ((nth a i2).Now.Shape.Kind), G eh ei ej, G ek el em] Z Z kb) ?_);refine Xs go45 (F102.calls H b5.ok kc ke kf kg kh ki kj) Z ?_;rintro _ s2 ⟨r4, ac, al, am, ad, an, ao, af, a1, a2, ae, a3, a4, rfl, H, be, kk, bf, c1, b6, b7, b8, en, eo, ep⟩;have ch := b5.owns be kk bf;refine Yo [vs [], vb false, vs [], .int .i64 0, G none 0 0, G none 0 0, vb false, vs [], .int .i64 0, G none 0 0, G none 0 0] ze62 fun s3 aa ag hu190 ah kl => ?_;have ai := ch.own ah (some aa) (Ym ag hu190);refine Yf [vs r4.Id, vb r4.Had, vs r4.Was.Id, vi r4.Was.Shape.Kind, G ac al am, G ad an ao, vb r4.Has, vs r4.Now.Id, vi r4.Now.Shape.Kind, G af a1 a2, G ae a3 a4] kl Z Z sz62 Z Z fun c2 aj bv => ?_;have ap := ai.wr 0 Z aj;refine Xb (Xc (Xc (Xe (Xd (vi r3) Z (Xa (X0 r3 0 (decide (r3 ≥ 0)) Z Z Z) (Xb ?_))))));refine Xu (decide (r3 ≥ 0)) Z (fun eq => ?_) (fun eq => ?_)
  ·have H := Xl H eq;refine Xc (Xc (Yy (fun x => Gr c2 x none) RK RK (Gr.drew _) ?_));refine Xy (G A1 n2 c3) Z (Xy (vi i2) Z ?_);obtain ⟨g9, H⟩ := H;have ha := b5.stos be bf;have hb := ch.stown _ ah (Xz ag);have hc := ai.stw 0 Z aj;have bw := ((((bd.st bm).st ha).st hb).st hc);obtain ⟨c4, s4, km, s5, kn, ko⟩ := bw.get default RD i2 g9;obtain ⟨s6, s7, s8, s9, ta, tb, tc, td, te, tf, tg, th, rfl, ti, tj, tk, tl, tm, tn, tp⟩ := kChange.op kn;refine Xg (X3 u23_ Yi A1 c4 n2 c3 bw.len i2 Z km Z g9) (Xg (Xj fa62_3 (c4.add (i2.toNat * 11)) ((c4.add (i2.toNat * 11)).add 6) Z Z) (Xg (Xo ag4 cQ ((c4.add (i2.toNat * 11)).add 6) (vb ((nth a i2).Has)) Z (ko 6 _ Z)) (Xy (G A6 n7 c8) Z (Xy (vi r3) Z ?_))));obtain ⟨hd, H⟩ := H;have bx := ((((b3.st bm).st ha).st hb).st hc);obtain ⟨c5, tq, kp, tr, kq, kr⟩ := bx.get default RD r3 hd;obtain ⟨ts, tt, tu, tv, tw, tx, ty, tz, t1, t2, t3, t4, rfl, t5, t6, t7, t8, t9, ua, ub⟩ := kChange.op kq;refine Xg (X3 u23_ Yi A6 c5 n7 c8 bx.len r3 Z kp Z hd) (Xg (Xj fa62_1 (c5.add (r3.toNat * 11)) ((c5.add (r3.toNat * 11)).add 1) Z Z) (Xg (Xo ag4 cQ ((c5.add (r3.toNat * 11)).add 1) (vb ((nth b r3).Had)) Z (kr 1 _ Z)) (Xg (Zi u4_ ((nth a i2).Has) ((nth b r3).Had) (((nth a i2).Has) != ((nth b r3).Had)) Z Z Z) (Xy (vb (((nth a i2).Has) != ((nth b r3).Had))) Z ?_))));rcases X4 (((nth a i2).Has) != ((nth b r3).Had)) with ak | ak
   ·have H := Xl H ak;refine Xq ak Z (Xq ak Z (Xq ak Z (Xq ak Z (Xq ak Z (Xq ak Z (Xq ak Z (Xq ak Z (Xq ak Z ?_))))))));refine Xq ak Z (Xq ak Z (Xq ak Z (Xg (Xk true (vb true) ak Z) (Ye fun uc ks => ?_))));have kt := ap.k0 ks;refine Yu (b := true) Z Z ?_;refine Xc ?_;have ku : ([some aa, bk ac, bk ad, bk af, bk ae, bk ab] : Ob).Perm ((some aa :: bk ac :: bk ad :: bk af :: bk ae :: bk ab :: []) ++ []) := RP;have kv := kt.drops ku;refine Xe (X5 (kd := kChange) Yd kv ([] : List Change) (cells := []) Z RF fun ud er es et ue hr276 eu kx => ?_);exact Xf (G er es et) Z (Xf (vb false) Z (Xb (Xn ⟨[G er es et, vb false], ⟨_, Z, ⟨_, Z, Z⟩⟩, ([] : List Change), false, er, es, et, Z, H, eu.gr.g0, eu.ok, eu.ge, kx⟩)))
   have H := Xm H ak;refine Xp ak Z (Xy (G A1 n2 c3) Z (Xp ak Z (Xy (vi i2) Z (Xp ak Z ?_))));obtain ⟨he, H⟩ := H;obtain ⟨c6, uf, ky, ug, kz, k1⟩ := bw.get default RD i2 he;obtain ⟨uh, ui, uj, uk, ul, um, ev, ew, ex, ey, ez, e0, rfl, un, uo, up, uq, k2, k3, k4⟩ := kChange.op kz;refine Xg (X3 u23_ Yi A1 c6 n2 c3 bw.len i2 Z ky Z he) (Xp ak Z (Xg (Xj fa62_4 (c6.add (i2.toNat * 11)) ((c6.add (i2.toNat * 11)).add 7) Z Z) (Xp ak Z (Xg (Xv ag44 sz44 cQ ((c6.add (i2.toNat * 11)).add 7) [vs ((nth a i2).Now.Id), vi ((nth a i2).Now.Shape.Kind), G ev ew ex, G ey ez e0] Z Z (sub_cells (off := 7) k1 Z)) (Xp ak Z (Xy (G A6 n7 c8) Z (Xp ak Z (Xy (vi r3) Z ?_))))))));refine Xp ak Z ?_;obtain ⟨hf, H⟩ := H;obtain ⟨c7, ur, k5, us, k6, k7⟩ := bx.get default RD r3 hf;obtain ⟨e1, e2, e3, e4, e5, e6, ut, uu, uv, uw, ux, uy, rfl, uz, k8, k9, la, u0, u1, u2⟩ := kChange.op k6;refine Xg (X3 u23_ Yi A6 c7 n7 c8 bx.len r3 Z k5 Z hf) (Xp ak Z (Xg (Xj fa62_2 (c7.add (r3.toNat * 11)) ((c7.add (r3.toNat * 11)).add 2) Z Z) (Xp ak Z (Xg (Xv ag44 sz44 cQ ((c7.add (r3.toNat * 11)).add 2) [vs ((nth b r3).Was.Id), vi ((nth b r3).Was.Shape.Kind), G e1 e2 e3, G e4 e5 e6] Z Z (sub_cells (off := 2) k7 Z)) (Xp ak Z ?_)))));obtain ⟨q, lb, H⟩ := H;refine Y2 go94 [.agg #[vs ((nth a i2).Now.Id), vi ((nth a i2).Now.Shape.Kind), G ev ew ex, G ey ez e0], .agg #[vs ((nth b r3).Was.Id), vi ((nth b r3).Was.Shape.Kind), G e1 e2 e3, G e4 e5 e6]] Z (vb q) (fun w g => (F45.calls lb (ap.k0 g).ok k2 (k3.st (.new _ g)) (k4.st (.new _ g)) k8 (k9.st (.new _ g)) (la.st (.new _ g))).mono ?_) ?_
   ·rintro _ w ⟨r, rfl, rfl, g2⟩;exact ⟨Z, Gr.t0 g g2⟩
   refine Xp ak Z (Xg (X8 q Z) (Xg (Xk false (vb (!q)) ak Z) (Ye fun u3 ba => ?_)));have bb := ap.k0 ba;refine Xu (!q) Z (fun e7 => ?_) (fun e7 => ?_)
   ·have H := Xl H e7;refine Xc ?_;have lc : ([some aa, bk ac, bk ad, bk af, bk ae, bk ab] : Ob).Perm ((some aa :: bk ac :: bk ad :: bk af :: bk ae :: bk ab :: []) ++ []) := RP;have ld := bb.drops lc;refine Xe (X5 (kd := kChange) Yd ld ([] : List Change) (cells := []) Z RF fun u4 e8 e9 fa u5 hr359 fb lf => ?_);exact Xf (G e8 e9 fa) Z (Xf (vb false) Z (Xb (Xn ⟨[G e8 e9 fa, vb false], ⟨_, Z, ⟨_, Z, Z⟩⟩, ([] : List Change), false, e8, e9, fa, Z, H, fb.gr.g0, fb.ok, fb.ge, lf⟩)))
   have H := Xm H e7;refine Xw (Xc (Xe (Xd (G A6 n7 c8) Z (Xd (vi r3) Z ?_))));obtain ⟨hg, H⟩ := H;have b9 := ap.stn ba;obtain ⟨c9, u6, lg, u7, lh, li⟩ := (bx.st b9).get default RD r3 hg;obtain ⟨u8, u9, va, vc, vd, ve, vf, vg, vh, vj, vk, vl, rfl, vm, vn, vo, vp, vq, vr, vt⟩ := kChange.op lh;refine Xa (X3 u23_ Yi A6 c9 n7 c8 (bx.st b9).len r3 Z lg Z hg) (Xa (Xj fa62_3 (c9.add (r3.toNat * 11)) ((c9.add (r3.toNat * 11)).add 6) Z Z) (Xa (Xo ag4 cL ((c9.add (r3.toNat * 11)).add 6) (vb ((nth b r3).Has)) Z (li 6 _ Z)) (Xa (Xj fa62_3 (Ad aa 0) (Ad aa 6) Z Z) ?_)));have lj := (bv.k0 ba);refine Y0 6 [vb ((nth b r3).Has)] [vs r4.Id, vb r4.Had, vs r4.Was.Id, vi r4.Was.Shape.Kind, G ac al am, G ad an ao, vb ((nth b r3).Has), vs r4.Now.Id, vi r4.Now.Shape.Kind, G af a1 a2, G ae a3 a4] lj Z Z sz4 Z Z Z fun lk bg ll => ?_;have ci := bb.wr 0 Z bg;refine Xb (Xe (Xd (G A6 n7 c8) Z (Xd (vi r3) Z ?_)));obtain ⟨hh, H⟩ := H;have da := bb.stw 0 Z bg;have cj := ((bx.st b9).st da);obtain ⟨db, vu, lm, vv, ln, lo⟩ := cj.get default RD r3 hh;obtain ⟨vw, vx, vy, vz, v0, v1, fc, fd, fe, ff, fg, fh, rfl, v2, v3, v4, v5, lp, lq, lr⟩ := kChange.op ln;refine Xa (X3 u23_ Yi A6 db n7 c8 cj.len r3 Z lm Z hh) (Xa (Xj fa62_4 (db.add (r3.toNat * 11)) ((db.add (r3.toNat * 11)).add 7) Z Z) (Xa (Xv ag44 sz44 cL ((db.add (r3.toNat * 11)).add 7) [vs ((nth b r3).Now.Id), vi ((nth b r3).Now.Shape.Kind), G fc fd fe, G ff fg fh] Z Z (sub_cells (off := 7) lo Z)) ?_));refine Xs go64 (F83.calls H ci.ok lp lq lr) Z ?_;rintro _ v6 ⟨r6, a8, bh, bi, ax, bj, bl, rfl, H, a5, ls, a9, fi, fj, fk⟩;have aq := ci.owns a5 ls a9;refine Xa (Xj fa62_4 (Ad aa 0) (Ad aa 7) Z Z) ?_;have lt := (ll.k0 a5);refine Y0 7 [vs r6.Id, vi r6.Shape.Kind, G a8 bh bi, G ax bj bl] [vs r4.Id, vb r4.Had, vs r4.Was.Id, vi r4.Was.Shape.Kind, G ac al am, G ad an ao, vb ((nth b r3).Has), vs r6.Id, vi r6.Shape.Kind, G a8 bh bi, G ax bj bl] lt Z Z sz44 Z Z Z fun fl ar ca => ?_;have ay := aq.wr 2 Z ar;refine Xb (Xc (Xe (Xa (Xj fa62_1 (Ad aa 0) (Ad aa 1) Z Z) (Xa (Xo ag4 cL (Ad aa 1) (vb r4.Had) Z (ca.cell Z)) (Xa (Xj fa62_3 (Ad aa 0) (Ad aa 6) Z Z) (Xa (Xo ag4 cL (Ad aa 6) (vb ((nth b r3).Has)) Z (ca.cell Z)) (Xa (Zi u4_ r4.Had ((nth b r3).Has) (r4.Had != ((nth b r3).Has)) Z Z Z) (Xd (vb (r4.Had != ((nth b r3).Has))) Z ?_))))))));rcases X4 (r4.Had != ((nth b r3).Has)) with av | av
   ·have H := Xl H av;refine Xi av Z (Xi av Z (Xi av Z (Xi av Z (Xi av Z (Xi av Z (Xa (Xk true (vb true) av Z) (Xb (Yu (b := true) Z Z ?_))))))));refine Xe (Xd (G ab az a0) Z (Xa (Xv ag62 sz62 cL (Ad aa 0) [vs r4.Id, vb r4.Had, vs r4.Was.Id, vi r4.Was.Shape.Kind, G ac al am, G ad an ao, vb ((nth b r3).Has), vs r6.Id, vi r6.Shape.Kind, G a8 bh bi, G ax bj bl] Z Z (ca.cells (off := 00) Z)) ?_));have lu := (aq.sw ((bb.sw ((ai.sw (b7.so _ ah (Xz ag)) 1 0 Z Z Z aj).sn ba) 1 0 Z Z Z bg).sos a5 a9) 3 2 Z Z Z ar);have lv := ay.gv lu 3 Z;have cb := ay.drop 3 Z;have lw := (ay.sd (aq.sw ((bb.sw ((ai.sw (b8.so _ ah (Xz ag)) 2 0 Z Z Z aj).sn ba) 2 0 Z Z Z bg).sos a5 a9) 4 2 Z Z Z ar) 4 3 Z Z Z);have lx := cb.gv lw 3 Z;have ck := cb.drop 3 Z;have ly := (cb.sd (ay.sd (aq.sw fj 0 2 Z Z Z ar) 0 3 Z Z Z) 0 3 Z Z Z);have lz := ck.gv ly 0 Z;have dc : Ct [] w0 fl [bk ax, some aa, bk af, bk ae, bk ab] O := ck.drop 0 Z;have l0 := (ck.sd (cb.sd (ay.sd (aq.sw fk 1 2 Z Z Z ar) 1 3 Z Z Z) 1 3 Z Z Z) 1 0 Z Z Z);have l1 := dc.gv l0 0 Z;have hi := dc.drop 0 Z;have fm := cb.std 3 Z;have dd := ck.std 0 Z;have cl := dc.std 0 Z;have l2 := (((lv.st fm).st dd).st cl);have l3 := ((lx.st dd).st cl);refine X5 (kd := kChange) Yd hi ([(⟨r4.Id, r4.Had, r4.Was, (nth b r3).Has, r6⟩ : Change)] : List Change) (cells := [vs r4.Id, vb r4.Had, vs r4.Was.Id, vi r4.Was.Shape.Kind, G ac al am, G ad an ao, vb ((nth b r3).Has), vs r6.Id, vi r6.Shape.Kind, G a8 bh bi, G ax bj bl]) ⟨[vs r4.Id, vb r4.Had, vs r4.Was.Id, vi r4.Was.Shape.Kind, G ac al am, G ad an ao, vb ((nth b r3).Has), vs r6.Id, vi r6.Shape.Kind, G a8 bh bi, G ax bj bl], _, Z, (kChange.mk _ _ (⟨r4.Id, r4.Had, r4.Was, (nth b r3).Has, r6⟩ : Change) c1 b6 l2 l3 fi (lz.st cl) l1), Z⟩ RF fun v7 fn l4 l5 hj hr475 l6 l7 => ?_;obtain ⟨l8, H⟩ := H;have l9 := ((dc.sd (ck.sd (cb.sd (ay.sd (aq.sw ((bb.sw ((ai.sw (((bu.sn bs).sos be bf).so _ ah (Xz ag)) 5 0 Z Z Z aj).sn ba) 5 0 Z Z Z bg).sos a5 a9) 7 2 Z Z Z ar) 7 3 Z Z Z) 6 3 Z Z Z) 5 0 Z Z Z) 4 0 Z Z Z).so _ hj hr475);refine Yc Yd l6 (G ab az a0) xs2 ([(⟨r4.Id, r4.Had, r4.Was, (nth b r3).Has, r6⟩ : Change)] : List Change) Z l9 (G fn l4 l5) Z l7.sx 4 Z l8 fun v9 de hk hl wa hm hn ma => ?_;refine Xf (G de hk hl) Z (Xb ?_);have df : ([bk fn, some aa, bk af, bk ae, bk de] : Ob).Perm ((bk fn :: some aa :: bk af :: bk ae :: []) ++ [bk de]) := RP;have mb := hn.drops df;refine Xe (Xd (vi i2) Z ?_);obtain ⟨mc, H⟩ := H;have md : I64 (i2 + 1) := i64_succ (of_decide_eq_true bp) b4 mc;refine Xa (Ya i2 1 Z Z md) (Xf (vi (i2 + 1)) Z (Xb ?_));obtain ⟨me, mf⟩ := H;have ho := ci.stos a5 a9;have hp := aq.stw 2 Z ar;have hq := ay.std 3 Z;have hr := hi.stown _ hj hr475;have mg := (((((((((((bw.st b9).st da).st ho).st hp).st hq).st fm).st dd).st cl).st hr).st hm).st (St.drops _ O df));have mh := (((((((((cj.st ho).st hp).st hq).st fm).st dd).st cl).st hr).st hm).st (St.drops _ O df));have mi := (hn.odr ma df 0 Z);exact ⟨((xs2 ++ ([(⟨r4.Id, r4.Had, r4.Was, (nth b r3).Has, r6⟩ : Change)] : List Change)), de, hk, hl, i2 + 1), mf, me, (Xx Z), mb, mg, mh, mi⟩
   have H := Xm H av;refine Xh av Z (Xa (Xj fa62_2 (Ad aa 0) (Ad aa 2) Z Z) (Xh av Z (Xa (Xv ag44 sz44 cL (Ad aa 2) [vs r4.Was.Id, vi r4.Was.Shape.Kind, G ac al am, G ad an ao] Z Z (ca.cells (off := 2) Z)) (Xh av Z (Xa (Xj fa62_4 (Ad aa 0) (Ad aa 7) Z Z) (Xh av Z (Xa (Xv ag44 sz44 cL (Ad aa 7) [vs r6.Id, vi r6.Shape.Kind, G a8 bh bi, G ax bj bl] Z Z (ca.cells (off := 7) Z)) (Xh av Z ?_))))))));have mj := (aq.sw ((bb.sw ((ai.sw (b7.so _ ah (Xz ag)) 1 0 Z Z Z aj).sn ba) 1 0 Z Z Z bg).sos a5 a9) 3 2 Z Z Z ar);have ml := ay.gv mj 3 Z;have cm := ay.drop 3 Z;have mm := (ay.sd (aq.sw ((bb.sw ((ai.sw (b8.so _ ah (Xz ag)) 2 0 Z Z Z aj).sn ba) 2 0 Z Z Z bg).sos a5 a9) 4 2 Z Z Z ar) 4 3 Z Z Z);have mn := cm.gv mm 3 Z;have dg := cm.drop 3 Z;have mo := (cm.sd (ay.sd (aq.sw fj 0 2 Z Z Z ar) 0 3 Z Z Z) 0 3 Z Z Z);have mp := dg.gv mo 0 Z;have fo : Ct [] w0 fl [bk ax, some aa, bk af, bk ae, bk ab] O := dg.drop 0 Z;have mq := (dg.sd (cm.sd (ay.sd (aq.sw fk 1 2 Z Z Z ar) 1 3 Z Z Z) 1 3 Z Z Z) 1 0 Z Z Z);have mr := fo.gv mq 0 Z;have ms := fo.drop 0 Z;have mt := cm.std 3 Z;have hs := dg.std 0 Z;have fp := fo.std 0 Z;have mu := (((ml.st mt).st hs).st fp);have mv := ((mn.st hs).st fp);refine Xs go94 (F45.calls H ms.ok b6 mu mv fi (mp.st fp) mr) Z ?_;rintro _ mw ⟨r7, rfl, H, bn⟩;have bq := ay.k0 bn;refine Xh av Z (Xa (X8 r7 Z) (Xa (Xk false (vb (!r7)) av Z) (Xb ?_)));refine Xu (!r7) Z (fun fq => ?_) (fun fq => ?_)
   ·have H := Xl H fq;refine Xe (Xd (G ab az a0) Z ?_);have mx := (ca.k0 bn);refine Xa (Xv ag62 sz62 cL (Ad aa 0) [vs r4.Id, vb r4.Had, vs r4.Was.Id, vi r4.Was.Shape.Kind, G ac al am, G ad an ao, vb ((nth b r3).Has), vs r6.Id, vi r6.Shape.Kind, G a8 bh bi, G ax bj bl] Z Z (mx.cells (off := 00) Z)) ?_;have my := ((aq.sw ((bb.sw ((ai.sw (b7.so _ ah (Xz ag)) 1 0 Z Z Z aj).sn ba) 1 0 Z Z Z bg).sos a5 a9) 3 2 Z Z Z ar).sn bn);have mz := bq.gv my 3 Z;have cc := bq.drop 3 Z;have m0 := (bq.sd ((aq.sw ((bb.sw ((ai.sw (b8.so _ ah (Xz ag)) 2 0 Z Z Z aj).sn ba) 2 0 Z Z Z bg).sos a5 a9) 4 2 Z Z Z ar).sn bn) 4 3 Z Z Z);have m1 := cc.gv m0 3 Z;have cn := cc.drop 3 Z;have m2 := (cc.sd (bq.sd ((aq.sw fj 0 2 Z Z Z ar).sn bn) 0 3 Z Z Z) 0 3 Z Z Z);have m3 := cn.gv m2 0 Z;have dh : Ct [] w0 mw [bk ax, some aa, bk af, bk ae, bk ab] O := cn.drop 0 Z;have m4 := (cn.sd (cc.sd (bq.sd ((aq.sw fk 1 2 Z Z Z ar).sn bn) 1 3 Z Z Z) 1 3 Z Z Z) 1 0 Z Z Z);have m5 := dh.gv m4 0 Z;have ht := dh.drop 0 Z;have fr := cc.std 3 Z;have di := cn.std 0 Z;have co := dh.std 0 Z;have m6 := (((mz.st fr).st di).st co);have m7 := ((m1.st di).st co);refine X5 (kd := kChange) Yd ht ([(⟨r4.Id, r4.Had, r4.Was, (nth b r3).Has, r6⟩ : Change)] : List Change) (cells := [vs r4.Id, vb r4.Had, vs r4.Was.Id, vi r4.Was.Shape.Kind, G ac al am, G ad an ao, vb ((nth b r3).Has), vs r6.Id, vi r6.Shape.Kind, G a8 bh bi, G ax bj bl]) ⟨[vs r4.Id, vb r4.Had, vs r4.Was.Id, vi r4.Was.Shape.Kind, G ac al am, G ad an ao, vb ((nth b r3).Has), vs r6.Id, vi r6.Shape.Kind, G a8 bh bi, G ax bj bl], _, Z, (kChange.mk _ _ (⟨r4.Id, r4.Had, r4.Was, (nth b r3).Has, r6⟩ : Change) c1 b6 m6 m7 fi (m3.st co) m5), Z⟩ RF fun wb fs m8 m9 hu hr558 na nb => ?_;obtain ⟨nc, H⟩ := H;have nd := ((dh.sd (cn.sd (cc.sd (bq.sd ((aq.sw ((bb.sw ((ai.sw (((bu.sn bs).sos be bf).so _ ah (Xz ag)) 5 0 Z Z Z aj).sn ba) 5 0 Z Z Z bg).sos a5 a9) 7 2 Z Z Z ar).sn bn) 7 3 Z Z Z) 6 3 Z Z Z) 5 0 Z Z Z) 4 0 Z Z Z).so _ hu hr558);refine Yc Yd na (G ab az a0) xs2 ([(⟨r4.Id, r4.Had, r4.Was, (nth b r3).Has, r6⟩ : Change)] : List Change) Z nd (G fs m8 m9) Z nb.sx 4 Z nc fun wc dj hv hw wd hx hy ne => ?_;refine Xf (G dj hv hw) Z (Xb ?_);have dk : ([bk fs, some aa, bk af, bk ae, bk dj] : Ob).Perm ((bk fs :: some aa :: bk af :: bk ae :: []) ++ [bk dj]) := RP;have nf := hy.drops dk;refine Xe (Xd (vi i2) Z ?_);obtain ⟨ng, H⟩ := H;have nh : I64 (i2 + 1) := i64_succ (of_decide_eq_true bp) b4 ng;refine Xa (Ya i2 1 Z Z nh) (Xf (vi (i2 + 1)) Z (Xb ?_));obtain ⟨ni, nj⟩ := H;have hz := ci.stos a5 a9;have h0 := aq.stw 2 Z ar;have h1 := ay.stn bn;have h2 := bq.std 3 Z;have h3 := ht.stown _ hu hr558;have nk := ((((((((((((bw.st b9).st da).st hz).st h0).st h1).st h2).st fr).st di).st co).st h3).st hx).st (St.drops _ O dk));have nl := ((((((((((cj.st hz).st h0).st h1).st h2).st fr).st di).st co).st h3).st hx).st (St.drops _ O dk));have nm := (hy.odr ne dk 0 Z);exact ⟨((xs2 ++ ([(⟨r4.Id, r4.Had, r4.Was, (nth b r3).Has, r6⟩ : Change)] : List Change)), dj, hv, hw, i2 + 1), nj, ni, (Xx Z), nf, nk, nl, nm⟩
   have H := Xm H fq;refine Xw ?_;have dl : ([bk a8, bk ax, some aa, bk ac, bk ad, bk af, bk ae, bk ab] : Ob).Perm ((bk a8 :: bk ax :: some aa :: bk ac :: bk ad :: bk af :: bk ae :: []) ++ [bk ab]) := RP;have nn := bq.drops dl;refine Xe (Xd (vi i2) Z ?_);obtain ⟨no, H⟩ := H;have np : I64 (i2 + 1) := i64_succ (of_decide_eq_true bp) b4 no;refine Xa (Ya i2 1 Z Z np) (Xf (vi (i2 + 1)) Z (Xb ?_));obtain ⟨nq, nr⟩ := H;have h4 := ci.stos a5 a9;have h5 := aq.stw 2 Z ar;have h6 := ay.stn bn;have ns := ((((((bw.st b9).st da).st h4).st h5).st h6).st (St.drops _ O dl));have nt := ((((cj.st h4).st h5).st h6).st (St.drops _ O dl));have nu := (bq.odr ((aq.sw ((bb.sw ((ai.sw (((bu.sn bs).sos be bf).so _ ah (Xz ag)) 5 0 Z Z Z aj).sn ba) 5 0 Z Z Z bg).sos a5 a9) 7 2 Z Z Z ar).sn bn) dl 0 Z);exact ⟨(xs2, ab, az, a0, i2 + 1), nr, nq, (Xx Z), nn, ns, nt, nu⟩
  have H := Xm H eq;refine Xw (Xc (Xe (Xa (Xj fa62_1 (Ad aa 0) (Ad aa 1) Z Z) (Xa (Xo ag4 cL (Ad aa 1) (vb r4.Had) Z (bv.cell Z)) (Xa (Xj fa62_3 (Ad aa 0) (Ad aa 6) Z Z) (Xa (Xo ag4 cL (Ad aa 6) (vb r4.Has) Z (bv.cell Z)) (Xa (Zi u4_ r4.Had r4.Has (r4.Had != r4.Has) Z Z Z) (Xd (vb (r4.Had != r4.Has)) Z ?_))))))));rcases X4 (r4.Had != r4.Has) with aw | aw
  ·have H := Xl H aw;refine Xi aw Z (Xi aw Z (Xi aw Z (Xi aw Z (Xi aw Z (Xi aw Z (Xa (Xk true (vb true) aw Z) (Xb (Yu (b := true) Z Z ?_))))))));refine Xe (Xd (G ab az a0) Z (Xa (Xv ag62 sz62 cL (Ad aa 0) [vs r4.Id, vb r4.Had, vs r4.Was.Id, vi r4.Was.Shape.Kind, G ac al am, G ad an ao, vb r4.Has, vs r4.Now.Id, vi r4.Now.Shape.Kind, G af a1 a2, G ae a3 a4] Z Z (bv.cells (off := 00) Z)) ?_));have nv := (ai.sw (b7.so _ ah (Xz ag)) 1 0 Z Z Z aj);have nw := ap.gv nv 1 Z;have cd := ap.drop 1 Z;have nx := (ap.sd (ai.sw (b8.so _ ah (Xz ag)) 2 0 Z Z Z aj) 2 1 Z Z Z);have ny := cd.gv nx 1 Z;have cp := cd.drop 1 Z;have nz := (cd.sd (ap.sd (ai.sw (eo.so _ ah (Xz ag)) 3 0 Z Z Z aj) 3 1 Z Z Z) 2 1 Z Z Z);have n0 := cp.gv nz 1 Z;have dm : Ct [] w0 c2 [some aa, bk ae, bk ab] O := cp.drop 1 Z;have n1 := (cp.sd (cd.sd (ap.sd (ai.sw (ep.so _ ah (Xz ag)) 4 0 Z Z Z aj) 4 1 Z Z Z) 3 1 Z Z Z) 2 1 Z Z Z);have n3 := dm.gv n1 1 Z;have h7 := dm.drop 1 Z;have ft := cd.std 1 Z;have dn := cp.std 1 Z;have cq := dm.std 1 Z;have n4 := (((nw.st ft).st dn).st cq);have n5 := ((ny.st dn).st cq);refine X5 (kd := kChange) Yd h7 ([r4] : List Change) (cells := [vs r4.Id, vb r4.Had, vs r4.Was.Id, vi r4.Was.Shape.Kind, G ac al am, G ad an ao, vb r4.Has, vs r4.Now.Id, vi r4.Now.Shape.Kind, G af a1 a2, G ae a3 a4]) ⟨[vs r4.Id, vb r4.Had, vs r4.Was.Id, vi r4.Was.Shape.Kind, G ac al am, G ad an ao, vb r4.Has, vs r4.Now.Id, vi r4.Now.Shape.Kind, G af a1 a2, G ae a3 a4], _, Z, (kChange.mk _ _ r4 c1 b6 n4 n5 en (n0.st cq) n3), Z⟩ RF fun we n6 n8 n9 h8 hr626 oa ob => ?_;obtain ⟨oc, H⟩ := H;have od := ((dm.sd (cp.sd (cd.sd (ap.sd (ai.sw (((bu.sn bs).sos be bf).so _ ah (Xz ag)) 5 0 Z Z Z aj) 5 1 Z Z Z) 4 1 Z Z Z) 3 1 Z Z Z) 2 1 Z Z Z).so _ h8 hr626);refine Yc Yd oa (G ab az a0) xs2 ([r4] : List Change) Z od (G n6 n8 n9) Z ob.sx 2 Z oc fun oe fu h9 ia wf ib fv og => ?_;refine Xf (G fu h9 ia) Z (Xb (Xe (Xd (vi i2) Z ?_)));obtain ⟨oh, H⟩ := H;have oi : I64 (i2 + 1) := i64_succ (of_decide_eq_true bp) b4 oh;refine Xa (Ya i2 1 Z Z oi) (Xf (vi (i2 + 1)) Z (Xb ?_));have fw := fv.drop 0 Z;have oj : Ct [] w0 oe [bk fu] O := fw.drop 0 Z;obtain ⟨ol, om⟩ := H;have ic := b5.stos be bf;have id := ch.stown _ ah (Xz ag);have ie := ai.stw 0 Z aj;have ig := ap.std 1 Z;have ih := h7.stown _ h8 hr626;have ii := fv.std 0 Z;have ij := fw.std 0 Z;have on := ((((((((((((bd.st bm).st ic).st id).st ie).st ig).st ft).st dn).st cq).st ih).st ib).st ii).st ij);have oo := ((((((((((((b3.st bm).st ic).st id).st ie).st ig).st ft).st dn).st cq).st ih).st ib).st ii).st ij);have oq := (fw.sd (fv.sd og 2 0 Z Z Z) 1 0 Z Z Z);exact ⟨((xs2 ++ ([r4] : List Change)), fu, h9, ia, i2 + 1), om, ol, (Xx Z), oj, on, oo, oq⟩
  have H := Xm H aw;refine Xh aw Z (Xa (Xj fa62_2 (Ad aa 0) (Ad aa 2) Z Z) (Xh aw Z (Xa (Xv ag44 sz44 cL (Ad aa 2) [vs r4.Was.Id, vi r4.Was.Shape.Kind, G ac al am, G ad an ao] Z Z (bv.cells (off := 2) Z)) (Xh aw Z (Xa (Xj fa62_4 (Ad aa 0) (Ad aa 7) Z Z) (Xh aw Z (Xa (Xv ag44 sz44 cL (Ad aa 7) [vs r4.Now.Id, vi r4.Now.Shape.Kind, G af a1 a2, G ae a3 a4] Z Z (bv.cells (off := 7) Z)) (Xh aw Z ?_))))))));have os := (ai.sw (b7.so _ ah (Xz ag)) 1 0 Z Z Z aj);have ot := ap.gv os 1 Z;have cr := ap.drop 1 Z;have ou := (ap.sd (ai.sw (b8.so _ ah (Xz ag)) 2 0 Z Z Z aj) 2 1 Z Z Z);have ov := cr.gv ou 1 Z;have dp := cr.drop 1 Z;have ow := (cr.sd (ap.sd (ai.sw (eo.so _ ah (Xz ag)) 3 0 Z Z Z aj) 3 1 Z Z Z) 2 1 Z Z Z);have ox := dp.gv ow 1 Z;have fx : Ct [] w0 c2 [some aa, bk ae, bk ab] O := dp.drop 1 Z;have oy := (dp.sd (cr.sd (ap.sd (ai.sw (ep.so _ ah (Xz ag)) 4 0 Z Z Z aj) 4 1 Z Z Z) 3 1 Z Z Z) 2 1 Z Z Z);have oz := fx.gv oy 1 Z;have o0 := fx.drop 1 Z;have o1 := cr.std 1 Z;have ik := dp.std 1 Z;have fy := fx.std 1 Z;have o2 := (((ot.st o1).st ik).st fy);have o3 := ((ov.st ik).st fy);refine Xs go94 (F45.calls H o0.ok b6 o2 o3 en (ox.st fy) oz) Z ?_;rintro _ o4 ⟨r8, rfl, H, bo⟩;have br := ap.k0 bo;refine Xh aw Z (Xa (X8 r8 Z) (Xa (Xk false (vb (!r8)) aw Z) (Xb ?_)));refine Xu (!r8) Z (fun fz => ?_) (fun fz => ?_)
  ·have H := Xl H fz;refine Xe (Xd (G ab az a0) Z ?_);have o5 := (bv.k0 bo);refine Xa (Xv ag62 sz62 cL (Ad aa 0) [vs r4.Id, vb r4.Had, vs r4.Was.Id, vi r4.Was.Shape.Kind, G ac al am, G ad an ao, vb r4.Has, vs r4.Now.Id, vi r4.Now.Shape.Kind, G af a1 a2, G ae a3 a4] Z Z (o5.cells (off := 00) Z)) ?_;have o6 := ((ai.sw (b7.so _ ah (Xz ag)) 1 0 Z Z Z aj).sn bo);have o7 := br.gv o6 1 Z;have ce := br.drop 1 Z;have o8 := (br.sd ((ai.sw (b8.so _ ah (Xz ag)) 2 0 Z Z Z aj).sn bo) 2 1 Z Z Z);have o9 := ce.gv o8 1 Z;have cs := ce.drop 1 Z;have pa := (ce.sd (br.sd ((ai.sw (eo.so _ ah (Xz ag)) 3 0 Z Z Z aj).sn bo) 3 1 Z Z Z) 2 1 Z Z Z);have pb := cs.gv pa 1 Z;have dq : Ct [] w0 o4 [some aa, bk ae, bk ab] O := cs.drop 1 Z;have pd := (cs.sd (ce.sd (br.sd ((ai.sw (ep.so _ ah (Xz ag)) 4 0 Z Z Z aj).sn bo) 4 1 Z Z Z) 3 1 Z Z Z) 2 1 Z Z Z);have pe := dq.gv pd 1 Z;have il := dq.drop 1 Z;have f0 := ce.std 1 Z;have dr := cs.std 1 Z;have ct := dq.std 1 Z;have pf := (((o7.st f0).st dr).st ct);have pg := ((o9.st dr).st ct);refine X5 (kd := kChange) Yd il ([r4] : List Change) (cells := [vs r4.Id, vb r4.Had, vs r4.Was.Id, vi r4.Was.Shape.Kind, G ac al am, G ad an ao, vb r4.Has, vs r4.Now.Id, vi r4.Now.Shape.Kind, G af a1 a2, G ae a3 a4]) ⟨[vs r4.Id, vb r4.Had, vs r4.Was.Id, vi r4.Was.Shape.Kind, G ac al am, G ad an ao, vb r4.Has, vs r4.Now.Id, vi r4.Now.Shape.Kind, G af a1 a2, G ae a3 a4], _, Z, (kChange.mk _ _ r4 c1 b6 pf pg en (pb.st ct) pe), Z⟩ RF fun wg ph pi pj im hr712 pk pl => ?_;obtain ⟨pm, H⟩ := H;have pn := ((dq.sd (cs.sd (ce.sd (br.sd ((ai.sw (((bu.sn bs).sos be bf).so _ ah (Xz ag)) 5 0 Z Z Z aj).sn bo) 5 1 Z Z Z) 4 1 Z Z Z) 3 1 Z Z Z) 2 1 Z Z Z).so _ im hr712);refine Yc Yd pk (G ab az a0) xs2 ([r4] : List Change) Z pn (G ph pi pj) Z pl.sx 2 Z pm fun po f1 io ip wh iq f2 pp => ?_;refine Xf (G f1 io ip) Z (Xb (Xe (Xd (vi i2) Z ?_)));obtain ⟨pq, H⟩ := H;have pr : I64 (i2 + 1) := i64_succ (of_decide_eq_true bp) b4 pq;refine Xa (Ya i2 1 Z Z pr) (Xf (vi (i2 + 1)) Z (Xb ?_));have f3 := f2.drop 0 Z;have ps : Ct [] w0 po [bk f1] O := f3.drop 0 Z;obtain ⟨pt, pu⟩ := H;have ir := b5.stos be bf;have it := ch.stown _ ah (Xz ag);have iu := ai.stw 0 Z aj;have iv := ap.stn bo;have iw := br.std 1 Z;have ix := il.stown _ im hr712;have iy := f2.std 0 Z;have iz := f3.std 0 Z;have pv := (((((((((((((bd.st bm).st ir).st it).st iu).st iv).st iw).st f0).st dr).st ct).st ix).st iq).st iy).st iz);have pw := (((((((((((((b3.st bm).st ir).st it).st iu).st iv).st iw).st f0).st dr).st ct).st ix).st iq).st iy).st iz);have px := (f3.sd (f2.sd pp 2 0 Z Z Z) 1 0 Z Z Z);exact ⟨((xs2 ++ ([r4] : List Change)), f1, io, ip, i2 + 1), pu, pt, (Xx Z), ps, pv, pw, px⟩
  have H := Xm H fz;refine Xw ?_;have ds : ([some aa, bk ac, bk ad, bk af, bk ae, bk ab] : Ob).Perm ((some aa :: bk ac :: bk ad :: bk af :: bk ae :: []) ++ [bk ab]) := RP;have py := br.drops ds;refine Xe (Xd (vi i2) Z ?_);obtain ⟨pz, H⟩ := H;have p0 : I64 (i2 + 1) := i64_succ (of_decide_eq_true bp) b4 pz;refine Xa (Ya i2 1 Z Z p0) (Xf (vi (i2 + 1)) Z (Xb ?_));obtain ⟨p1, p2⟩ := H;have i0 := b5.stos be bf;have i1 := ch.stown _ ah (Xz ag);have i3 := ai.stw 0 Z aj;have i5 := ap.stn bo;have p3 := ((((((bd.st bm).st i0).st i1).st i3).st i5).st (St.drops _ O ds));have p4 := ((((((b3.st bm).st i0).st i1).st i3).st i5).st (St.drops _ O ds));have p5 := (br.odr ((ai.sw (((bu.sn bs).sos be bf).so _ ah (Xz ag)) 5 0 Z Z Z aj).sn bo) ds 0 Z);exact ⟨(xs2, ab, az, a0, i2 + 1), p2, p1, (Xx Z), py, p3, p4, p5⟩
 have H := Xm H bp;refine Yh (xin_hit ?_);refine Xc (Xc (Xe (Xf (vi 0) Z (Xb (X6 ?_)))));obtain ⟨p6, p7, f4, H⟩ := H;refine Yj (α := (List Change) × (Option Addr) × Nat × Nat × Int) (fun (xs4, au, a6, a7, i4) t bz => p6 xs4 i4 ∧ Has t [(0, G A1 n2 c3), (1, G A6 n7 c8), (6, G au a6 a7), (10, vi i4)] ∧ Cw [] w0 bz [bk au] O fun M => Sl kChange bz (Fr M) (G A1 n2 c3) a ∧ Sl kChange bz (Fr M) (G A6 n7 c8) b ∧ Ow kChange 62 bz M (G au a6 a7) xs4) (fun (xs4, _, _, _, i4) => p7 xs4 i4) (xs2, ab, az, a0, 0) ⟨f4, (Xx Z), cz, bd, b3, bu⟩ ?_;rintro ⟨xs4, au, a6, a7, i4⟩ _ bz ⟨f4, p8, b0, f5, bt, dt⟩;obtain ⟨wi, rfl⟩ := Has.ins p8;have H := H xs4 i4 f4;refine Xc (Xc (Xe (Xd (vi i4) Z (Xd (G A6 n7 c8) Z ?_))));have i6 := bt.le;refine Xa (X9 u23_ A6 n7 c8 bt.len Z) (Xa (X0 i4 (b.length : Int) (decide (i4 < (b.length : Int))) Z Z Z) (Xb ?_));refine Xu (decide (i4 < (b.length : Int))) Z (fun cu => ?_) (fun cu => ?_)
 ·have H := Xl H cu;refine Xw (Xc (X6 (Xc (Xe (Xd (G A1 n2 c3) Z (Xd (G A6 n7 c8) Z (Xd (vi i4) Z ?_)))))));obtain ⟨i7, H⟩ := H;obtain ⟨du, wj, p9, wk, qa, qb⟩ := bt.get default RD i4 i7;obtain ⟨wl, wm, wn, wo, wp, wq, ws, wt, wu, wv, ww, wx, rfl, qc, wy, wz, w1, w2, w3, w4⟩ := kChange.op qa;refine Xa (X3 u23_ Yi A6 du n7 c8 bt.len i4 Z p9 Z i7) (Xa (Xj fa62_0 (du.add (i4.toNat * 11)) ((du.add (i4.toNat * 11)).add 0) Z Z) (Xa (Xo ag9 cL ((du.add (i4.toNat * 11)).add 0) (vs ((nth b i4).Id)) Z (qb 0 _ Z)) ?_));refine Xs go93 (F120.calls H b0.ok f5 qc) Z ?_;rintro _ qd ⟨r9, rfl, H, cv⟩;have dv := b0.k0 cv;refine Xa (X0 r9 0 (decide (r9 < 0)) Z Z Z) (Xb ?_);refine Xu (decide (r9 < 0)) Z (fun f6 => ?_) (fun f6 => ?_)
  ·have H := Xl H f6;refine Xe (Xd (G au a6 a7) Z (Xd (G A6 n7 c8) Z (Xd (vi i4) Z ?_)));obtain ⟨i8, H⟩ := H;have dw := b0.stn cv;obtain ⟨i9, w5, qe, w6, qf, qg⟩ := (bt.st dw).get default RD i4 i8;obtain ⟨f7, f8, f9, ga, gb, gc, gd, gf, gg, gh, gi, gj, rfl, qh, qi, qj, qk, ql, qm, qn⟩ := kChange.op qf;refine Xa (X3 u23_ Yi A6 i9 n7 c8 (bt.st dw).len i4 Z qe Z i8) (Xa (Xv ag62 sz62 cL (i9.add (i4.toNat * 11)) [vs ((nth b i4).Id), vb ((nth b i4).Had), vs ((nth b i4).Was.Id), vi ((nth b i4).Was.Shape.Kind), G f7 f8 f9, G ga gb gc, vb ((nth b i4).Has), vs ((nth b i4).Now.Id), vi ((nth b i4).Now.Shape.Kind), G gd gf gg, G gh gi gj] Z Z qg) ?_);refine Xs go45 (F102.calls H dv.ok qh qi qj qk ql qm qn) Z ?_;rintro _ ja ⟨r10, jb, jc, jd, je, jf, jg, gk, jh, ji, gl, jj, jk, rfl, H, gm, qo, gn, qp, qq, qr, qs, qt, qu, qv⟩;have b1 := dv.owns gm qo gn;have qw := ((dt.sn cv).sos gm gn);have qx := b1.gv qw 4 Z;have cf := b1.drop 4 Z;have qy := (b1.sd qr 0 4 Z Z Z);have qz := cf.gv qy 0 Z;have cw := cf.drop 0 Z;have q0 := (cf.sd (b1.sd qs 1 4 Z Z Z) 1 0 Z Z Z);have q1 := cw.gv q0 0 Z;have dx : Ct [] w0 ja [bk gk, bk gl] O := cw.drop 0 Z;have q2 := (cw.sd (cf.sd (b1.sd qu 2 4 Z Z Z) 2 0 Z Z Z) 1 0 Z Z Z);have q3 := dx.gv q2 0 Z;have gp := dx.drop 0 Z;have q4 := (dx.sd (cw.sd (cf.sd (b1.sd qv 3 4 Z Z Z) 3 0 Z Z Z) 2 0 Z Z Z) 1 0 Z Z Z);have q5 := gp.gv q4 0 Z;have gq := gp.drop 0 Z;have gs := cf.std 0 Z;have dy := cw.std 0 Z;have cx := dx.std 0 Z;have cg := gp.std 0 Z;have q6 := ((((qx.st gs).st dy).st cx).st cg);have q7 := (((qz.st dy).st cx).st cg);have q8 := ((q1.st cx).st cg);refine Xs go95 (F136.calls H gq.ok q6 qp qq q7 q8 qt (q3.st cg) q5) Z ?_;rintro _ q9 ⟨r11, gt, jl, jm, rfl, H, jn, ra, jo, rb⟩;have rc : Ct [] w0 q9 [bk gt] O := gq.owns jn ra jo;refine Xf (G gt jl jm) Z (Xb (Xe (Xd (vi i4) Z ?_)));obtain ⟨rd, H⟩ := H;have re : I64 (i4 + 1) := i64_succ (of_decide_eq_true cu) i6 rd;refine Xa (Ya i4 1 Z Z re) (Xf (vi (i4 + 1)) Z (Xb ?_));obtain ⟨rf, rg⟩ := H;have jp := dv.stos gm gn;have jq := b1.std 4 Z;have jr := gq.stos jn jo;have rh := ((((((((f5.st dw).st jp).st jq).st gs).st dy).st cx).st cg).st jr);have ri := ((((((((bt.st dw).st jp).st jq).st gs).st dy).st cx).st cg).st jr);exact ⟨(r11, gt, jl, jm, i4 + 1), rg, rf, (Xx Z), rc, rh, ri, rb⟩
  have H := Xm H f6;refine Xw (Xe (Xd (vi i4) Z ?_));obtain ⟨rj, H⟩ := H;have rk : I64 (i4 + 1) := i64_succ (of_decide_eq_true cu) i6 rj;refine Xa (Ya i4 1 Z Z rk) (Xf (vi (i4 + 1)) Z (Xb ?_));obtain ⟨rl, rm⟩ := H;have js := b0.stn cv;have rn := (dt.sn cv);exact ⟨(xs4, au, a6, a7, i4 + 1), rm, rl, (Xx Z), dv, (f5.st js), (bt.st js), rn⟩
 have H := Xm H cu;refine Yh (xin_hit ?_);refine Xc (Xc (Xe (Xd (G au a6 a7) Z ?_)));have ro := b0.gv dt 0 Z;have rp := b0.drop 0 Z;refine Xs go15 (F101.calls H rp.ok ro) Z ?_;rintro _ w7 ⟨r12, rfl, H, jt⟩;have dz := b0.k0 jt;refine Xa (X8 r12 Z) (Xb ?_);refine Xu (!r12) Z (fun gu => ?_) (fun gu => ?_)
 ·have H := Xl H gu;refine Xc (Xe (X5 (kd := kChange) Yd dz ([] : List Change) (cells := []) Z RF fun w8 gw gx gy w9 hr965 ju rq => ?_));refine Xf (G gw gx gy) Z (Xf (vb false) Z (Xb (Xn ?_)));have gz := ju.drop 1 Z;have rr := (ju.sd rq 0 1 Z Z Z);exact ⟨[G gw gx gy, vb false], ⟨_, Z, ⟨_, Z, Z⟩⟩, ([] : List Change), false, gw, gx, gy, Z, H, gz.gr.g0, gz.ok, gz.ge, rr⟩
 have H := Xm H gu;refine Xw (Xc (Xe (Xd (G au a6 a7) Z (Xf (G au a6 a7) Z (Xf (vb true) Z (Xb (Xn ?_)))))));have rs := (dt.sn jt);exact ⟨[G au a6 a7, vb true], ⟨_, Z, ⟨_, Z, Z⟩⟩, xs4, true, au, a6, a7, Z, H, dz.gr.g0, dz.ok, dz.ge, rs⟩
def shapeNamesL : List Str := [[], [100, 111, 116], [108, 105, 110, 101], [114, 105, 110, 103]]
structure Glob (w : World) (O : Ob) : Prop where
 shapeNames : ∃ A : Option Addr, Fb w O 0 [.slice A 4 4] ∧ Sl Kd.str w (Fr O) (.slice A 4 4) shapeNamesL
 pow10 : Fb w O 1 (Lib.pow10Tab.map (Value.int .u64))
theorem Glob.st {w w' : World} {O O' : Ob} (h : Glob w O) (s : St w O w' O') : Glob w' O' :=
 ⟨let ⟨A, a, b⟩ := h.shapeNames; ⟨A, a.st s, b.st s⟩, h.pow10.st s⟩
theorem Glob.tab {w : World} {O : Ob} (h : Glob w O) : Lib.TabIs Tryz.prog w "internal/strconv.uint64pow10" .u64 Lib.pow10Tab := by
 obtain ⟨⟨e, hb⟩, _⟩ := h.pow10
 unfold Lib.TabIs World.var?
 rw [show Tryz.prog.globalNamed "internal/strconv.uint64pow10" = some 1 by kernel_rfl]
 simp only [Option.bind_some, hb]
theorem decDigits_len (u : Nat) : ∀ k, u < 10 ^ (k + 1) → (Lib.decDigits u).length ≤ k + 1 := by
 intro k
 induction k generalizing u with
 | zero => intro h; rw [Lib.decDigits, dif_pos OM]; simp
 | succ k ih =>
  intro h
  rw [Lib.decDigits]
  split
  ·simp
  ·rw [List.length_append]
   have := ih (u / 10) (by rw [Nat.pow_succ] at h; omega)
   simp only [List.length_cons, List.length_nil]
   omega
theorem itoa_len (n : Int) (h0 : -9223372036854775808 ≤ n) (h1 : n ≤ 9223372036854775807) : (Lib.itoa n).length ≤ 21 := by
 unfold Lib.itoa
 split
 ·have := decDigits_len n.natAbs 19 OM
  simp only [List.length_cons]; omega
 ·have := decDigits_len n.toNat 19 OM
  omega
section
open Go.Shelf Go.Sort Go.Lib
def F73.E (n : Int) (Q : Str → Prop) : Prop := (-9223372036854775808 ≤ n ∧ n ≤ 9223372036854775807) ∧ Q (Lib.itoa n)
theorem F73.calls {O : Ob} (w0 : World) (hO : Ok w0 O) (hG : Glob w0 O) (n : Int) (Q : Str → Prop) (h : F73.E n Q) :
  Ret Tryz.prog 126 [vi n] w0 (fun v w' => ∃ (r0 : Str), v = vs r0 ∧ Q r0 ∧ Gr w0 w' none ∧ Lim r0) := by
 obtain ⟨⟨h0, h1⟩, hq⟩ := h
 refine Calls.mono (Tryz.strconv_Itoa n h0 h1 w0 hG.tab) fun e w' ⟨he, k, os, hw⟩ => ?_
 subst he; subst hw
 refine ⟨_, rfl, Lib.itoa n, rfl, hq, ⟨rfl, by simp [grow], rfl, by simp [grow], fun b hb _ => by show (w0.heap ++ os)[b]? = w0.heap[b]?; exact Array.getElem?_append_left hb⟩, ?_⟩
 have := itoa_len n h0 h1
 unfold Lim; omega
end
def F25.E (s : Shape) (Q : Str → Prop) : Prop :=
 ((0 : Int) ≤ s.Kind ∧ s.Kind < (shapeNamesL.length : Int)) ∧ (∃ (I39 : Str → Int → Prop) (mu40 : Str → Int → Nat), I39 (nth shapeNamesL s.Kind) 0 ∧ ∀ (out2 : Str) (v2 : Int), I39 out2 v2 → (if decide (v2 < (s.Pts.length : Int)) then ((0 : Int) ≤ v2 ∧ v2 < (s.Pts.length : Int)) ∧ (∃ q : Str, F73.E ((nth s.Pts v2).X) (fun x => x = q) ∧ (Lim q) ∧ (([32] : Str).length + q.length ≤ 9223372036854775807) ∧ ((([32] : Str) ++ q).length + ([44] : Str).length ≤ 9223372036854775807) ∧ (∃ q2 : Str, F73.E ((nth s.Pts v2).Y) (fun x => x = q2) ∧ (Lim q2) ∧ (((([32] : Str) ++ q) ++ ([44] : Str)).length + q2.length ≤ 9223372036854775807) ∧ (out2.length + (((([32] : Str) ++ q) ++ ([44] : Str)) ++ q2).length ≤ 9223372036854775807) ∧ (I64 (v2 + 1)) ∧ I39 (out2 ++ (((([32] : Str) ++ q) ++ ([44] : Str)) ++ q2)) (v2 + 1) ∧ mu40 (out2 ++ (((([32] : Str) ++ q) ++ ([44] : Str)) ++ q2)) (v2 + 1) < mu40 out2 v2)) else Q out2))
theorem F25.calls {s : Shape} {A1 : Option Addr} {n2 c3 : Nat} {Q : Str → Prop} (H : F25.E s Q) (hO : Ok w0 O) (hG : Glob w0 O) (hp4 : Sl kPt w0 (Fr O) (G A1 n2 c3) s.Pts) :
  Ret Tryz.prog 80 [.agg #[vi s.Kind, G A1 n2 c3]] w0 (fun v w' => ∃ (r0 : Str), v = vs r0 ∧ Q r0 ∧ Gr w0 w' none ∧ Lim r0) := by
 unfold F25.E at H;have hc0 := Ct.init hO;obtain ⟨aG0, hGb0, hGs0⟩ := hG.shapeNames;refine Yb Tryz.func80 Z 31 Z [.tmp 2] Z Z ?_;refine Xc (Xe (Yq [vi s.Kind, G A1 n2 c3] Z fun w6 b7 hl9 hu10 g8 ax => ?_));have ai := Fb.mk hc0.ok hl9 ax;have ab := hc0.k0 g8;refine Xf (vs []) Z (Xb (Xc (Xe ?_)));have ay := (hGb0.st ab.st);refine Xa (Xo ag50 cL (Ad 0 0) (G aG0 4 4) Z (ay.cell Z)) (Xa (Xj fa41_0 (Ad b7 0) (Ad b7 0) Z Z) (Xa (Xo ag3 cL (Ad b7 0) (vi s.Kind) Z (ai.cell Z)) ?_));obtain ⟨aj, H⟩ := H;obtain ⟨ak, br, az, bs, a0, a1⟩ := (hGs0.st ab.st).get default RD s.Kind aj;obtain ⟨rfl, a2⟩ := Kd.str.op a0;refine Xa (X3 u50_ Zk aG0 ak 4 4 (hGs0.st ab.st).len s.Kind Z az Z aj) (Xa (Xo ag9 cL (ak.add (s.Kind.toNat * 1)) (vs (nth shapeNamesL s.Kind)) Z (a1 0 _ Z)) (Xf (vs (nth shapeNamesL s.Kind)) Z (Xb (Xc (Xc (Xe (Xa (Xj fa41_1 (Ad b7 0) (Ad b7 1) Z Z) (Xa (Xo ag39 cL (Ad b7 1) (G A1 n2 c3) Z (ai.cell Z)) ?_))))))));have bt := (hp4.st ab.st).le;refine Xa (X9 u39_ A1 n2 c3 (hp4.st ab.st).len Z) (Xd (vi 0) Z (Xb (X6 ?_)));obtain ⟨a3, a4, ad, H⟩ := H;refine Yj (α := Str × Int) (fun (out2, v2) t ae => a3 out2 v2 ∧ Has t [(3, vs out2), (12, G A1 n2 c3), (13, vi (s.Pts.length : Int)), (14, vi v2)] ∧ Ct [] w0 ae [] O ∧ Lim out2 ∧ Sl kPt ae (Fr ([] ++ O)) (G A1 n2 c3) s.Pts) (fun (out2, v2) => a4 out2 v2) ((nth shapeNamesL s.Kind), 0) ⟨ad, (Xx Z), ab, a2, (hp4.st ab.st)⟩ ?_;rintro ⟨out2, v2⟩ _ ae ⟨ad, a5, af, a6, ag⟩;obtain ⟨bu, rfl⟩ := Has.ins a5;have H := H out2 v2 ad;refine Xc (Xe (Xa (X0 v2 (s.Pts.length : Int) (decide (v2 < (s.Pts.length : Int))) Z Z Z) (Xb (Xc ?_))));refine Xu (decide (v2 < (s.Pts.length : Int))) Z (fun ah => ?_) (fun ah => ?_)
 ·have H := Xl H ah;refine Xw (Xc (X6 (Xc (Xe ?_))));obtain ⟨al, H⟩ := H;obtain ⟨am, bv, a7, bw, a8, a9⟩ := ag.get default RD v2 al;obtain rfl := kPt.op a8;refine Xa (X3 u39_ Yx A1 am n2 c3 ag.len v2 Z a7 Z al) (Xa (Xv ag49 sz49 cL (am.add (v2.toNat * 2)) [vi ((nth s.Pts v2).X), vi ((nth s.Pts v2).Y)] Z Z a9) (Yo [.int .i64 0, .int .i64 0] ze49 fun bx aa an hu57 ao ba => ?_));have ap := af.own ao (some aa) (Ym an hu57);refine Yf [vi ((nth s.Pts v2).X), vi ((nth s.Pts v2).Y)] ba Z Z sz49 Z Z fun bb aq ar => ?_;have ac := ap.wr 0 Z aq;refine Xb (Yy (fun x => Gr bb x none) RK RK (Gr.drew _) ?_);refine Xy (vs out2) Z (Xg (Xj fa49_0 (Ad aa 0) (Ad aa 0) Z Z) (Xg (Xo ag3 cQ (Ad aa 0) (vi ((nth s.Pts v2).X)) Z (ar.cell Z)) ?_));obtain ⟨q, bc, bz, H⟩ := H;refine Y2 go126 [vi ((nth s.Pts v2).X)] Z (vs q) (fun w g => (F73.calls w (ac.k0 g).ok (hG.st (ac.k0 g).st) ((nth s.Pts v2).X) _ bc).mono ?_) ?_
  ·rintro _ w ⟨r, rfl, rfl, g2, _⟩;exact ⟨Z, Gr.t0 g g2⟩
  obtain ⟨bd, H⟩ := H;refine Xg (Yv ([32] : Str) q Z Z bd) ?_;obtain ⟨be, H⟩ := H;refine Xg (Yv (([32] : Str) ++ q) ([44] : Str) Z Z be) (Xg (Xj fa49_1 (Ad aa 0) (Ad aa 1) Z Z) (Xg (Xo ag3 cQ (Ad aa 1) (vi ((nth s.Pts v2).Y)) Z (ar.cell Z)) ?_));obtain ⟨q2, bf, b0, H⟩ := H;refine Y2 go126 [vi ((nth s.Pts v2).Y)] Z (vs q2) (fun w g => (F73.calls w (ac.k0 g).ok (hG.st (ac.k0 g).st) ((nth s.Pts v2).Y) _ bf).mono ?_) ?_
  ·rintro _ w ⟨r, rfl, rfl, g2, _⟩;exact ⟨Z, Gr.t0 g g2⟩
  obtain ⟨bg, H⟩ := H;refine Xg (Yv ((([32] : Str) ++ q) ++ ([44] : Str)) q2 Z Z bg) ?_;obtain ⟨au, H⟩ := H;refine Xg (Yv out2 (((([32] : Str) ++ q) ++ ([44] : Str)) ++ q2) Z Z au) (Ze (vs (out2 ++ (((([32] : Str) ++ q) ++ ([44] : Str)) ++ q2))) Z (Ye fun b1 av => ?_));have aw := ac.k0 av;refine Xe ?_;obtain ⟨bh, H⟩ := H;refine Xa (Ya v2 1 Z Z bh) (Xd (vi (v2 + 1)) Z (Xb ?_));have bi := aw.drop 0 Z;obtain ⟨bj, bl⟩ := H;have bm := af.stown _ ao (Xz an);have bn := ap.stw 0 Z aq;have bo := ac.stn av;have bp := aw.std 0 Z;have bq := ((((ag.st bm).st bn).st bo).st bp);exact ⟨((out2 ++ (((([32] : Str) ++ q) ++ ([44] : Str)) ++ q2)), v2 + 1), bl, bj, (Xx Z), bi, (lim_cat au), bq⟩
 have H := Xm H ah;refine Yh (xin_hit ?_);exact Xc (Xe (Xd (vs out2) Z (Xf (vs out2) Z (Xb (Xn ⟨[vs out2], ⟨_, Z, Z⟩, out2, Z, H, af.gr.g0, a6⟩)))))
def F48.E (f : Feat) (Q : Str → Prop) : Prop :=
 F98.E f (fun r => (if !r then Q [] else (f.Id.length + ([32] : Str).length ≤ 9223372036854775807) ∧ (∃ q : Str, F25.E f.Shape (fun x => x = q) ∧ (Lim q) ∧ ((f.Id ++ ([32] : Str)).length + q.length ≤ 9223372036854775807) ∧ (∃ (I61 : Str → Int → Prop) (mu62 : Str → Int → Nat), I61 ((f.Id ++ ([32] : Str)) ++ q) 0 ∧ ∀ (out2 : Str) (v2 : Int), I61 out2 v2 → (if decide (v2 < (f.Tags.length : Int)) then ((0 : Int) ≤ v2 ∧ v2 < (f.Tags.length : Int)) ∧ (([32] : Str).length + ((nth f.Tags v2).Key).length ≤ 9223372036854775807) ∧ ((([32] : Str) ++ ((nth f.Tags v2).Key)).length + ([61] : Str).length ≤ 9223372036854775807) ∧ (((([32] : Str) ++ ((nth f.Tags v2).Key)) ++ ([61] : Str)).length + ((nth f.Tags v2).Val).length ≤ 9223372036854775807) ∧ (out2.length + (((([32] : Str) ++ ((nth f.Tags v2).Key)) ++ ([61] : Str)) ++ ((nth f.Tags v2).Val)).length ≤ 9223372036854775807) ∧ (I64 (v2 + 1)) ∧ I61 (out2 ++ (((([32] : Str) ++ ((nth f.Tags v2).Key)) ++ ([61] : Str)) ++ ((nth f.Tags v2).Val))) (v2 + 1) ∧ mu62 (out2 ++ (((([32] : Str) ++ ((nth f.Tags v2).Key)) ++ ([61] : Str)) ++ ((nth f.Tags v2).Val))) (v2 + 1) < mu62 out2 v2 else Q out2)))))
theorem F48.calls {f : Feat} {A2 : Option Addr} {n3 c4 : Nat} {A7 : Option Addr} {n8 c9 : Nat} {Q : Str → Prop} (H : F48.E f Q) (hO : Ok w0 O) (hG : Glob w0 O) (hs1 : Lim f.Id) (hp5 : Sl kPt w0 (Fr O) (G A2 n3 c4) f.Shape.Pts) (ae : Sl kTag w0 (Fr O) (G A7 n8 c9) f.Tags) :
  Ret Tryz.prog 43 [.agg #[vs f.Id, vi f.Shape.Kind, G A2 n3 c4, G A7 n8 c9]] w0 (fun v w' => ∃ (r0 : Str), v = vs r0 ∧ Q r0 ∧ Gr w0 w' none ∧ Lim r0) := by
 unfold F48.E at H;have hc0 := Ct.init hO;refine Yb Tryz.func43 Z 34 Z [.tmp 2] Z Z ?_;refine Xc (Xe (Yq [vs f.Id, vi f.Shape.Kind, G A2 n3 c4, G A7 n8 c9] Z fun a2 aa a3 hu16 a4 a5 => ?_));have an := Fb.mk hc0.ok a3 a5;have ad := hc0.k0 a4;refine Xf (vs []) Z (Xb (Xc (Xc (Xe (Xa (Xv ag44 sz44 cL (Ad aa 0) [vs f.Id, vi f.Shape.Kind, G A2 n3 c4, G A7 n8 c9] Z Z (an.cells (off := 00) Z)) ?_)))));refine Xs go25 (F98.calls H ad.ok hs1 (hp5.st ad.st) (ae.st ad.st)) Z ?_;rintro _ a6 ⟨r, rfl, H, ao⟩;have ac := ad.k0 ao;refine Xa (X8 r Z) (Xb ?_);refine Xu (!r) Z (fun ag => ?_) (fun ag => ?_)
 ·have H := Xl H ag;exact Xc (Xe (Xf (vs []) Z (Xb (Xn ⟨[vs []], ⟨_, Z, Z⟩, ([] : Str), Z, H, ac.gr.g0, (by decide : Lim ([] : Str))⟩))))
 have H := Xm H ag;refine Xw (Xc (Yy (fun x => Gr a6 x none) RK RK (Gr.drew _) ?_));refine Xg (Xj fa44_0 (Ad aa 0) (Ad aa 0) Z Z) ?_;have a7 := ad.stn ao;have ah := (an.st a7);refine Xg (Xo ag9 cQ (Ad aa 0) (vs f.Id) Z (ah.cell Z)) ?_;obtain ⟨a8, H⟩ := H;refine Xg (Yv f.Id ([32] : Str) Z Z a8) (Xg (Xj fa44_1 (Ad aa 0) (Ad aa 1) Z Z) (Xg (Xv ag41 sz41 cQ (Ad aa 1) [vi f.Shape.Kind, G A2 n3 c4] Z Z (ah.cells (off := 1) Z)) ?_));obtain ⟨q, a9, bw, H⟩ := H;refine Y2 go80 [.agg #[vi f.Shape.Kind, G A2 n3 c4]] Z (vs q) (fun w g => (F25.calls a9 (ac.k0 g).ok (hG.st (ac.k0 g).st) ((hp5.st ac.st).st (.new _ g))).mono ?_) ?_
 ·rintro _ w ⟨r, rfl, rfl, g2, _⟩;exact ⟨Z, Gr.t0 g g2⟩
 obtain ⟨ap, H⟩ := H;refine Xg (Yv (f.Id ++ ([32] : Str)) q Z Z ap) (Ze (vs ((f.Id ++ ([32] : Str)) ++ q)) Z (Ye fun bx aq => ?_));have af := ac.k0 aq;refine Xc (Xc (Xe (Xa (Xj fa44_2 (Ad aa 0) (Ad aa 3) Z Z) ?_)));have ba := ac.stn aq;have bb := (ah.st ba);refine Xa (Xo ag42 cL (Ad aa 3) (G A7 n8 c9) Z (bb.cell Z)) ?_;have bz := (ae.st af.st).le;refine Xa (X9 u42_ A7 n8 c9 (ae.st af.st).len Z) (Xd (vi 0) Z (Xb (X6 ?_)));obtain ⟨bc, bd, ai, H⟩ := H;refine Yj (α := Str × Int) (fun (out2, v2) t aj => bc out2 v2 ∧ Has t [(3, vs out2), (17, G A7 n8 c9), (18, vi (f.Tags.length : Int)), (19, vi v2)] ∧ Ct [] w0 aj [] O ∧ Lim out2 ∧ Sl kTag aj (Fr ([] ++ O)) (G A7 n8 c9) f.Tags) (fun (out2, v2) => bd out2 v2) (((f.Id ++ ([32] : Str)) ++ q), 0) ⟨ai, (Xx Z), af, (lim_cat ap), (ae.st af.st)⟩ ?_;rintro ⟨out2, v2⟩ _ aj ⟨ai, be, ak, bf, al⟩;obtain ⟨b0, rfl⟩ := Has.ins be;have H := H out2 v2 ai;refine Xc (Xe (Xa (X0 v2 (f.Tags.length : Int) (decide (v2 < (f.Tags.length : Int))) Z Z Z) (Xb (Xc ?_))));refine Xu (decide (v2 < (f.Tags.length : Int))) Z (fun am => ?_) (fun am => ?_)
 ·have H := Xl H am;refine Xw (Xc (X6 (Xc (Xe ?_))));obtain ⟨ar, H⟩ := H;obtain ⟨au, b1, bg, b2, bh, bi⟩ := al.get default RD v2 ar;obtain ⟨rfl, b3, b4⟩ := kTag.op bh;refine Xa (X3 u42_ Y9 A7 au n8 c9 al.len v2 Z bg Z ar) (Xa (Xv ag93 sz93 cL (au.add (v2.toNat * 2)) [vs ((nth f.Tags v2).Key), vs ((nth f.Tags v2).Val)] Z Z bi) (Yo [vs [], vs []] ze93 fun b5 ab av hu81 aw bj => ?_));have ax := ak.own aw (some ab) (Ym av hu81);refine Yf [vs ((nth f.Tags v2).Key), vs ((nth f.Tags v2).Val)] bj Z Z sz93 Z Z fun b6 ay az => ?_;have a0 := ax.wr 0 Z ay;refine Xb (Xe (Xd (vs out2) Z (Xa (Xj fa93_0 (Ad ab 0) (Ad ab 0) Z Z) (Xa (Xo ag9 cL (Ad ab 0) (vs ((nth f.Tags v2).Key)) Z (az.cell Z)) ?_))));obtain ⟨bl, H⟩ := H;refine Xa (Yv ([32] : Str) ((nth f.Tags v2).Key) Z Z bl) ?_;obtain ⟨bm, H⟩ := H;refine Xa (Yv (([32] : Str) ++ ((nth f.Tags v2).Key)) ([61] : Str) Z Z bm) (Xa (Xj fa93_1 (Ad ab 0) (Ad ab 1) Z Z) (Xa (Xo ag9 cL (Ad ab 1) (vs ((nth f.Tags v2).Val)) Z (az.cell Z)) ?_));obtain ⟨bn, H⟩ := H;refine Xa (Yv ((([32] : Str) ++ ((nth f.Tags v2).Key)) ++ ([61] : Str)) ((nth f.Tags v2).Val) Z Z bn) ?_;obtain ⟨a1, H⟩ := H;refine Xa (Yv out2 (((([32] : Str) ++ ((nth f.Tags v2).Key)) ++ ([61] : Str)) ++ ((nth f.Tags v2).Val)) Z Z a1) (Xf (vs (out2 ++ (((([32] : Str) ++ ((nth f.Tags v2).Key)) ++ ([61] : Str)) ++ ((nth f.Tags v2).Val)))) Z (Xb (Xe ?_)));obtain ⟨bo, H⟩ := H;refine Xa (Ya v2 1 Z Z bo) (Xd (vi (v2 + 1)) Z (Xb ?_));have bp := a0.drop 0 Z;obtain ⟨bq, br⟩ := H;have bs := ak.stown _ aw (Xz av);have bt := ax.stw 0 Z ay;have bu := a0.std 0 Z;have bv := (((al.st bs).st bt).st bu);exact ⟨((out2 ++ (((([32] : Str) ++ ((nth f.Tags v2).Key)) ++ ([61] : Str)) ++ ((nth f.Tags v2).Val))), v2 + 1), br, bq, (Xx Z), bp, (lim_cat a1), bv⟩
 have H := Xm H am;refine Yh (xin_hit ?_);exact Xc (Xe (Xd (vs out2) Z (Xf (vs out2) Z (Xb (Xn ⟨[vs out2], ⟨_, Z, Z⟩, out2, Z, H, ak.gr.g0, bf⟩)))))
def F26.E (has : Bool) (f : Feat) (Q : Str → Prop) : Prop :=
 (if !has then Q ([45] : Str) else F48.E f (fun r => Q r))
theorem F26.calls {has : Bool} {f : Feat} {A2 : Option Addr} {n3 c4 : Nat} {A7 : Option Addr} {n8 c9 : Nat} {Q : Str → Prop} (H : F26.E has f Q) (hO : Ok w0 O) (hG : Glob w0 O) (hs1 : Lim f.Id) (hp5 : Sl kPt w0 (Fr O) (G A2 n3 c4) f.Shape.Pts) (ac : Sl kTag w0 (Fr O) (G A7 n8 c9) f.Tags) :
  Ret Tryz.prog 42 [vb has, .agg #[vs f.Id, vi f.Shape.Kind, G A2 n3 c4, G A7 n8 c9]] w0 (fun v w' => ∃ (r0 : Str), v = vs r0 ∧ Q r0 ∧ Gr w0 w' none ∧ Lim r0) := by
 unfold F26.E at H;have hc0 := Ct.init hO;refine Yb Tryz.func42 Z 9 Z [.tmp 4] Z Z ?_;refine Xc (Xe (Yq [vs f.Id, vi f.Shape.Kind, G A2 n3 c4, G A7 n8 c9] Z fun ad ae af hu16 ag ah => ?_));have ai := Fb.mk hc0.ok af ah;have aa := hc0.k0 ag;refine Xf (vs []) Z (Xb (Xc (Xc (Xe (Xd (vb has) Z (Xa (X8 has Z) (Xb ?_)))))));refine Xu (!has) Z (fun ab => ?_) (fun ab => ?_)
 ·have H := Xl H ab;exact Xc (Xe (Xf (vs ([45] : Str)) Z (Xb (Xn ⟨[vs ([45] : Str)], ⟨_, Z, Z⟩, ([45] : Str), Z, H, aa.gr.g0, (by decide : Lim ([45] : Str))⟩))))
 have H := Xm H ab;refine Xw (Xc (Xe (Xa (Xv ag44 sz44 cL (Ad ae 0) [vs f.Id, vi f.Shape.Kind, G A2 n3 c4, G A7 n8 c9] Z Z (ai.cells (off := 00) Z)) ?_)));refine Xs go43 (F48.calls H aa.ok (hG.st aa.st) hs1 (hp5.st aa.st) (ac.st aa.st)) Z ?_;rintro _ am ⟨r, rfl, H, aj, ak⟩;have al := aa.k0 aj;exact Xf (vs r) Z (Xb (Xn ⟨[vs r], ⟨_, Z, Z⟩, r, Z, H, al.gr.g0, ak⟩))
end Go.Proofs.YtlaaehjcooonfaaGreatDoor