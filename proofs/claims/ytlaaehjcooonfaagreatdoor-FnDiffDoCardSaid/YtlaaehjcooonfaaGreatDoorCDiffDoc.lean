/- It is proved here that the law FnDiffDo of the given program holds whatever it is handed: the walks through the code, the plain laws and the row, in this order.
   Conditions: none. -/
import Derived.Below
import Derived.ChangeArms
import Derived.ChangeOld
import Derived.ChangeSlices
import Derived.ChangeVars
import Derived.DataReads
import Derived.Deep.MidRow
import Derived.Deep.Quiet
import Derived.Deep.RegionLaw
import Derived.Deep.Upon
import Derived.KernelRfl
import Derived.LaidHandle
import Derived.LaidLaws
import Derived.LaidMore
import Derived.Laws.Build
import Derived.Laws.IdiomStrings
import Derived.Laws.OwnMore
import Derived.Laws.Slices
import Derived.Laws.Strings2
import Derived.Laws.StructEq
import Derived.Lib.ItoaNum
import Derived.Lib.LaidTab
import Derived.Lib.SliceRun
import Derived.MakeChecks
import Derived.OpenShut
import Derived.OpenVars
import Derived.ProofKit
import Derived.SevenTiedAt
import Derived.Shelf.LaysM
import Derived.Shelf.SlSortCmp.NoneTotal
import Derived.Shelf.SlSortCmp.WholeK
import Derived.Shelf.Slices.Cells
import Derived.Shelf.Slices.CompactS
import Derived.Shelf.Slices.In.SortNone
import Derived.Shelf.Small.Bits
import Derived.Shelf.Sort.Plain
import Derived.Shelf.Strconv.Itoa0
import Derived.Shelf.Strconv.Itoa1
import Derived.Shelf.Strconv.Itoa2
import Derived.Shelf.Strconv.Itoa3
import Derived.ShutString
import Derived.SizedLaws
import Derived.StillTail
import Derived.Stop.Joined
import Derived.Test.YtlaaehjcooonfaaGreatDoorCards
import Derived.Test.YtlaaehjcooonfaaGreatDoorProg
import Derived.Test.YtlaaehjcooonfaaGreatDoorRows
import Derived.Test.YtlaaehjcooonfaaGreatDoorTie
import Derived.WalkKit
import Derived.Test.YtlaaehjcooonfaaGreatDoorCDiffDoa
import Derived.Test.YtlaaehjcooonfaaGreatDoorCDiffDob
namespace Go.Proofs.YtlaaehjcooonfaaGreatDoor
set_option linter.unusedVariables false
set_option linter.unusedSimpArgs false
set_option linter.unusedSectionVars false
set_option maxHeartbeats 8000000
set_option maxRecDepth 100000
open Go.RowKit
variable {O : Ob} {w0 : World}
def F19.E (c_ : Change) (Q : Bool → Prop) : Prop :=
 (if c_.Had == c_.Has then F47.E c_.Was c_.Now (fun r => Q r) else Q false)
theorem F19.calls {c_ : Change} {A3 : Option Addr} {n4 c5 : Nat} {A8 : Option Addr} {n9 ad : Nat} {ae : Option Addr} {af ag : Nat} {ah : Option Addr} {ai aj : Nat} {Q : Bool → Prop} (H : F19.E c_ Q) (hO : Ok w0 O) (hs1 : Lim c_.Id) (hs2 : Lim c_.Was.Id) (hp6 : Sl kPt w0 (Fr O) (G A3 n4 c5) c_.Was.Shape.Pts) (al : Sl kTag w0 (Fr O) (G A8 n9 ad) c_.Was.Tags) (am : Lim c_.Now.Id) (an : Sl kPt w0 (Fr O) (G ae af ag) c_.Now.Shape.Pts) (ao : Sl kTag w0 (Fr O) (G ah ai aj) c_.Now.Tags) :
  Ret Tryz.prog 53 [.agg #[vs c_.Id, vb c_.Had, vs c_.Was.Id, vi c_.Was.Shape.Kind, G A3 n4 c5, G A8 n9 ad, vb c_.Has, vs c_.Now.Id, vi c_.Now.Shape.Kind, G ae af ag, G ah ai aj]] w0 (fun v w' => ∃ (r0 : Bool), v = vb r0 ∧ Q r0 ∧ Gr w0 w' none) := by
 unfold F19.E at H;have hc0 := Ct.init hO;refine X9 Tryz.func53 Z 15 Z [.tmp 2] Z Z ?_;refine Xc (Xd (Yt [vs c_.Id, vb c_.Had, vs c_.Was.Id, vi c_.Was.Shape.Kind, G A3 n4 c5, G A8 n9 ad, vb c_.Has, vs c_.Now.Id, vi c_.Now.Shape.Kind, G ae af ag, G ah ai aj] Z fun ap ab aq hu28 ar au => ?_));have ak := Fb.mk hc0.ok aq au;have ac := hc0.k0 ar;refine Xf (vb false) Z (Xb (Xc (Xd (Xa (Xj fa62_1 (Ad ab 0) (Ad ab 1) Z Z) (Xa (Xq ag4 cL (Ad ab 1) (vb c_.Had) Z (ak.cell Z)) (Xa (Xj fa62_3 (Ad ab 0) (Ad ab 6) Z Z) (Xa (Xq ag4 cL (Ad ab 6) (vb c_.Has) Z (ak.cell Z)) (Xa (Ze u4_ c_.Had c_.Has (c_.Had == c_.Has) Z Z Z) ?_))))))));refine Xe (vb (c_.Had == c_.Has)) Z ?_;rcases X4 (c_.Had == c_.Has) with aa | aa
 ·have H := Xn H aa;refine Xg aa Z (Xa (Xj fa62_2 (Ad ab 0) (Ad ab 2) Z Z) (Xg aa Z (Xa (Xt ag44 sz44 cL (Ad ab 2) [vs c_.Was.Id, vi c_.Was.Shape.Kind, G A3 n4 c5, G A8 n9 ad] Z Z (ak.cells (off := 2) Z)) (Xg aa Z (Xa (Xj fa62_4 (Ad ab 0) (Ad ab 7) Z Z) (Xg aa Z (Xa (Xt ag44 sz44 cL (Ad ab 7) [vs c_.Now.Id, vi c_.Now.Shape.Kind, G ae af ag, G ah ai aj] Z Z (ak.cells (off := 7) Z)) (Xg aa Z ?_))))))));refine Xs go28 (F47.calls H ac.ok hs2 (hp6.st ac.st) (al.st ac.st) am (an.st ac.st) (ao.st ac.st)) Z ?_;rintro _ ax ⟨r, rfl, H, av⟩;have aw := ac.k0 av;exact Xa (Xk true (vb r) aa Z) (Xf (vb r) Z (Xb (Xm ⟨[vb r], ⟨_, Z, Z⟩, r, Z, H, aw.gr.g0⟩)))
 have H := Xo H aa;refine Xi aa Z (Xi aa Z (Xi aa Z (Xi aa Z (Xi aa Z (Xa (Xk false (vb false) aa Z) (Xf (vb false) Z (Xb (Xm ?_))))))));exact ⟨[vb false], ⟨_, Z, Z⟩, false, Z, H, ac.gr.g0⟩
def F100.E (d : List Change) (Q : Bool → Prop) : Prop :=
 (∃ (I19 : Int → Prop) (mu20 : Int → Nat), I19 0 ∧ ∀ (v2 : Int), I19 v2 → (if decide (v2 < (d.length : Int)) then ((0 : Int) ≤ v2 ∧ v2 < (d.length : Int)) ∧ (∃ q : Bool, F96.E ((nth d v2).Id) (fun x => x = q) ∧ (if !q then Q false else (if decide (v2 > 0) then (I64 (v2 - 1)) ∧ ((0 : Int) ≤ v2 - 1 ∧ v2 - 1 < (d.length : Int)) ∧ (if !(Op.bytesLess ((nth d (v2 - 1)).Id) ((nth d v2).Id)) then Q false else (∃ q2 : Bool, F99.E ((nth d v2).Id) ((nth d v2).Had) ((nth d v2).Was) (fun x => x = q2) ∧ (if !q2 then Q false else (∃ q3 : Bool, F99.E ((nth d v2).Id) ((nth d v2).Has) ((nth d v2).Now) (fun x => x = q3) ∧ (if !q3 then Q false else (∃ q4 : Bool, F19.E (nth d v2) (fun x => x = q4) ∧ (if q4 then Q false else (I64 (v2 + 1)) ∧ I19 (v2 + 1) ∧ mu20 (v2 + 1) < mu20 v2))))))) else (∃ q5 : Bool, F99.E ((nth d v2).Id) ((nth d v2).Had) ((nth d v2).Was) (fun x => x = q5) ∧ (if !q5 then Q false else (∃ q6 : Bool, F99.E ((nth d v2).Id) ((nth d v2).Has) ((nth d v2).Now) (fun x => x = q6) ∧ (if !q6 then Q false else (∃ q7 : Bool, F19.E (nth d v2) (fun x => x = q7) ∧ (if q7 then Q false else (I64 (v2 + 1)) ∧ I19 (v2 + 1) ∧ mu20 (v2 + 1) < mu20 v2))))))))) else Q (decide ((d.length : Int) ≤ 16))))
theorem F100.calls {d : List Change} {A1 : Option Addr} {n2 c3 : Nat} {Q : Bool → Prop} (H : F100.E d Q) (hO : Ok w0 O) (hp4 : Sl kChange w0 (Fr O) (G A1 n2 c3) d) :
  Ret Tryz.prog 17 [G A1 n2 c3] w0 (fun v w' => ∃ (r0 : Bool), v = vb r0 ∧ Q r0 ∧ Gr w0 w' none) := by
 unfold F100.E at H;have hc0 := Ct.init hO;refine X9 Tryz.func17 Z 59 Z [.tmp 2] Z Z ?_;refine Xc (Xd (Xf (vb false) Z (Xb (Xc (Xc (Xd (Xe (G A1 n2 c3) Z ?_)))))));have hl6 := hp4.le;refine Xa (Ya u23_ A1 n2 c3 hp4.len Z) (Xe (vi 0) Z (Xb (X6 ?_)));obtain ⟨b3, b4, a8, H⟩ := H;refine Yk (α := Int) (fun (sv__ : Int) t a9 => match sv__ with | v2 => b3 v2 ∧ Has t [(0, G A1 n2 c3), (5, G A1 n2 c3), (6, vi (d.length : Int)), (7, vi v2)] ∧ Ct [] w0 a9 [] O ∧ Sl kChange a9 (Fr ([] ++ O)) (G A1 n2 c3) d) (fun (sv__ : Int) => match sv__ with | v2 => b4 v2) 0 ⟨a8, (Xy Z), hc0, hp4⟩ ?_;rintro v2 _ a9 ⟨a8, b5, a4, az⟩;obtain ⟨dm, rfl⟩ := Has.ins b5;have H := H v2 a8;refine Xc (Xd (Xa (X1 v2 (d.length : Int) (decide (v2 < (d.length : Int))) Z Z Z) (Xb (Xc ?_))));refine Xu (decide (v2 < (d.length : Int))) Z (fun ba => ?_) (fun ba => ?_)
 ·have H := Xn H ba;refine Xx (Xc (X6 (Xc (Xd (Xe (vi v2) Z ?_)))));obtain ⟨bl, H⟩ := H;obtain ⟨bm, dn, b6, dp, b7, b8⟩ := az.get default RD v2 bl;obtain ⟨ah, ai, aj, ak, al, am, an, ao, ap, aq, ar, au, rfl, ay, a5, bn, bo, a6, bp, bq⟩ := kChange.op b7;refine Xa (X3 u23_ Y2 A1 bm n2 c3 az.len v2 Z b6 Z bl) (Xa (Xt ag62 sz62 cL (bm.add (v2.toNat * 11)) [vs ((nth d v2).Id), vb ((nth d v2).Had), vs ((nth d v2).Was.Id), vi ((nth d v2).Was.Shape.Kind), G ah ai aj, G ak al am, vb ((nth d v2).Has), vs ((nth d v2).Now.Id), vi ((nth d v2).Now.Shape.Kind), G an ao ap, G aq ar au] Z Z b8) (Yj [vs [], vb false, vs [], .int .i64 0, G none 0 0, G none 0 0, vb false, vs [], .int .i64 0, G none 0 0, G none 0 0] ze62 fun dq aa bb hu60 bc b9 => ?_));have bd := a4.own bc (some aa) (Yh bb hu60);refine Xf (vi v2) Z (Yd [vs ((nth d v2).Id), vb ((nth d v2).Had), vs ((nth d v2).Was.Id), vi ((nth d v2).Was.Shape.Kind), G ah ai aj, G ak al am, vb ((nth d v2).Has), vs ((nth d v2).Now.Id), vi ((nth d v2).Now.Shape.Kind), G an ao ap, G aq ar au] b9 Z Z sz62 Z Z fun ca be ag => ?_);have af := bd.wr 0 Z be;refine Xb (Xc (Yz (fun x => Gr ca x none) RK RK (Gr.drew _) ?_));refine Xh (Xj fa62_0 (Ad aa 0) (Ad aa 0) Z Z) (Xh (Xq ag9 cQ (Ad aa 0) (vs ((nth d v2).Id)) Z (ag.cell Z)) ?_);obtain ⟨q, cb, H⟩ := H;refine Y0 go51 [vs ((nth d v2).Id)] Z (vb q) (fun w g => (F96.calls cb (af.k0 g).ok ay).mono ?_) ?_
  ·rintro _ w ⟨r, rfl, rfl, g2⟩;exact ⟨Z, Gr.t0 g g2⟩
  refine Xh (X5 q Z) (Xv (vb (!q)) Z ?_);rcases X4 (!q) with av | av
  ·have H := Xn H av;refine Xp av Z (Xp av Z (Xp av Z (Xz Z (Xz Z (Xz Z (Xz Z (Xz Z (Xz Z ?_))))))));refine Xz Z (Xz Z (Xz Z (Xp av Z (Xh (Xk true (vb true) av Z) (Xv (vb true) Z (Yc (dj := 31) Z Z (.inl Z) (Yc (dj := 31) Z Z (.inl Z) (Yc (dj := 31) Z Z (.inl Z) ?_))))))));refine Yc (dj := 31) Z Z (.inl Z) (Yc (dj := 31) Z Z (.inl Z) (Yc (dj := 31) Z Z (.inl Z) (Yc (dj := 31) Z Z (.inl Z) (Yc (dj := 31) Z Z (.inl Z) (Xh (Xk true (vb true) Z Z) (Xv (vb true) Z (Yc (dj := 41) Z Z (.inl Z) (Yc (dj := 41) Z Z (.inl Z) ?_))))))));refine Yc (dj := 41) Z Z (.inl Z) (Yc (dj := 41) Z Z (.inl Z) (Yc (dj := 41) Z Z (.inl Z) (Yc (dj := 41) Z Z (.inl Z) (Yc (dj := 41) Z Z (.inl Z) (Yc (dj := 41) Z Z (.inl Z) (Xh (Xk true (vb true) Z Z) (Xv (vb true) Z (Yc (dj := 51) Z Z (.inl Z) ?_))))))));refine Yc (dj := 51) Z Z (.inl Z) (Xh (Xk true (vb true) Z Z) (Ye fun dr cc => ?_));have cd := af.k0 cc;refine Yo (b := true) Z Z ?_;refine Xc (Xd (Xf (vb false) Z (Xb (Xm ?_))));have ce := cd.drop 0 Z;exact ⟨[vb false], ⟨_, Z, Z⟩, false, Z, H, ce.gr.g0⟩
  have H := Xo H av;refine Xl av Z (Xv (vi v2) Z (Xl av Z (Xh (X1 v2 0 (decide (v2 > 0)) Z Z Z) (Xl av Z (Xv (vb (decide (v2 > 0))) Z ?_)))));rcases X4 (decide (v2 > 0)) with ab | ab
  ·have H := Xn H ab;refine Xl ab Z (Xv (G A1 n2 c3) Z (Xl ab Z (Xv (vi v2) Z (Xl ab Z ?_))));obtain ⟨cf, H⟩ := H;refine Xh (Yy v2 1 Z Z cf) (Xl ab Z ?_);obtain ⟨br, H⟩ := H;have a0 := a4.stown _ bc (X0 bb);have a1 := bd.stw 0 Z be;have bf := ((az.st a0).st a1);obtain ⟨a7, ds, cg, dt, ch, ci⟩ := bf.get default RD (v2 - 1) br;obtain ⟨du, dv, dw, dx, dy, dz, d0, d1, d2, d3, d4, d5, rfl, d6, d7, d8, d9, ea, eb, ec⟩ := kChange.op ch;refine Xh (X3 u23_ Y2 A1 a7 n2 c3 bf.len (v2 - 1) Z cg Z br) (Xl ab Z (Xh (Xj fa62_0 (a7.add ((v2 - 1).toNat * 11)) ((a7.add ((v2 - 1).toNat * 11)).add 0) Z Z) (Xl ab Z (Xh (Xq ag9 cQ ((a7.add ((v2 - 1).toNat * 11)).add 0) (vs ((nth d (v2 - 1)).Id)) Z (ci 0 _ Z)) (Xl ab Z (Xh (Xj fa62_0 (Ad aa 0) (Ad aa 0) Z Z) (Xl ab Z (Xh (Xq ag9 cQ (Ad aa 0) (vs ((nth d v2).Id)) Z (ag.cell Z)) ?_))))))));refine Xl ab Z (Xh (Yp ((nth d (v2 - 1)).Id) ((nth d v2).Id) (!(Op.bytesLess ((nth d (v2 - 1)).Id) ((nth d v2).Id))) Z Z Z) (Xl av Z (Xh (Ys true (vb (!(Op.bytesLess ((nth d (v2 - 1)).Id) ((nth d v2).Id)))) (by exact congrArg Value.bool ab) Z) (Xh (Ys false (vb (!(Op.bytesLess ((nth d (v2 - 1)).Id) ((nth d v2).Id)))) (by exact congrArg Value.bool av) Z) (Xv (vb (!(Op.bytesLess ((nth d (v2 - 1)).Id) ((nth d v2).Id)))) Z ?_)))));rcases X4 (!(Op.bytesLess ((nth d (v2 - 1)).Id) ((nth d v2).Id))) with ac | ac
   ·have H := Xn H ac;refine Xp ac Z (Xp ac Z (Xp ac Z (Xp ac Z (Xp ac Z (Xp ac Z (Xp ac Z (Xp ac Z (Xh (Xk true (vb true) ac Z) ?_))))))));refine Xv (vb true) Z (Yc (dj := 41) Z Z (.inl Z) (Yc (dj := 41) Z Z (.inl Z) (Yc (dj := 41) Z Z (.inl Z) (Yc (dj := 41) Z Z (.inl Z) (Yc (dj := 41) Z Z (.inl Z) (Yc (dj := 41) Z Z (.inl Z) (Yc (dj := 41) Z Z (.inl Z) (Yc (dj := 41) Z Z (.inl Z) ?_))))))));refine Xh (Xk true (vb true) Z Z) (Xv (vb true) Z (Yc (dj := 51) Z Z (.inl Z) (Yc (dj := 51) Z Z (.inl Z) (Xh (Xk true (vb true) Z Z) (Ye fun ed cj => ?_)))));have ck := af.k0 cj;refine Yo (b := true) Z Z ?_;refine Xc (Xd (Xf (vb false) Z (Xb (Xm ?_))));have cl := ck.drop 0 Z;exact ⟨[vb false], ⟨_, Z, Z⟩, false, Z, H, cl.gr.g0⟩
   have H := Xo H ac;refine Xl ac Z (Xh (Xj fa62_0 (Ad aa 0) (Ad aa 0) Z Z) (Xl ac Z (Xh (Xq ag9 cQ (Ad aa 0) (vs ((nth d v2).Id)) Z (ag.cell Z)) (Xl ac Z (Xh (Xj fa62_1 (Ad aa 0) (Ad aa 1) Z Z) (Xl ac Z (Xh (Xq ag4 cQ (Ad aa 1) (vb ((nth d v2).Had)) Z (ag.cell Z)) (Xl ac Z ?_))))))));refine Xh (Xj fa62_2 (Ad aa 0) (Ad aa 2) Z Z) (Xl ac Z (Xh (Xt ag44 sz44 cQ (Ad aa 2) [vs ((nth d v2).Was.Id), vi ((nth d v2).Was.Shape.Kind), G ah ai aj, G ak al am] Z Z (ag.cells (off := 2) Z)) (Xl ac Z ?_)));have bs := ((bn.st a0).st a1);have bt := ((bo.st a0).st a1);obtain ⟨q2, cm, H⟩ := H;refine Y0 go52 [vs ((nth d v2).Id), vb ((nth d v2).Had), .agg #[vs ((nth d v2).Was.Id), vi ((nth d v2).Was.Shape.Kind), G ah ai aj, G ak al am]] Z (vb q2) (fun w g => (F99.calls cm (af.k0 g).ok ay a5 (bs.st (.new _ g)) (bt.st (.new _ g))).mono ?_) ?_
   ·rintro _ w ⟨r, rfl, rfl, g2⟩;exact ⟨Z, Gr.t0 g g2⟩
   refine Xl ac Z (Xh (X5 q2 Z) (Xh (Xk false (vb (!q2)) ac Z) (Xv (vb (!q2)) Z ?_)));rcases X4 (!q2) with ad | ad
   ·have H := Xn H ad;refine Xp ad Z (Xp ad Z (Xp ad Z (Xp ad Z (Xp ad Z (Xp ad Z (Xp ad Z (Xp ad Z (Xh (Xk true (vb true) ad Z) ?_))))))));refine Xv (vb true) Z (Yc (dj := 51) Z Z (.inl Z) (Yc (dj := 51) Z Z (.inl Z) (Xh (Xk true (vb true) Z Z) (Ye fun ee cn => ?_))));have co := af.k0 cn;refine Yo (b := true) Z Z ?_;refine Xc (Xd (Xf (vb false) Z (Xb (Xm ?_))));have cp := co.drop 0 Z;exact ⟨[vb false], ⟨_, Z, Z⟩, false, Z, H, cp.gr.g0⟩
   have H := Xo H ad;refine Xl ad Z (Xh (Xj fa62_0 (Ad aa 0) (Ad aa 0) Z Z) (Xl ad Z (Xh (Xq ag9 cQ (Ad aa 0) (vs ((nth d v2).Id)) Z (ag.cell Z)) (Xl ad Z (Xh (Xj fa62_3 (Ad aa 0) (Ad aa 6) Z Z) (Xl ad Z (Xh (Xq ag4 cQ (Ad aa 6) (vb ((nth d v2).Has)) Z (ag.cell Z)) (Xl ad Z ?_))))))));refine Xh (Xj fa62_4 (Ad aa 0) (Ad aa 7) Z Z) (Xl ad Z (Xh (Xt ag44 sz44 cQ (Ad aa 7) [vs ((nth d v2).Now.Id), vi ((nth d v2).Now.Shape.Kind), G an ao ap, G aq ar au] Z Z (ag.cells (off := 7) Z)) (Xl ad Z ?_)));have bu := ((bp.st a0).st a1);have bv := ((bq.st a0).st a1);obtain ⟨q3, cq, H⟩ := H;refine Y0 go52 [vs ((nth d v2).Id), vb ((nth d v2).Has), .agg #[vs ((nth d v2).Now.Id), vi ((nth d v2).Now.Shape.Kind), G an ao ap, G aq ar au]] Z (vb q3) (fun w g => (F99.calls cq (af.k0 g).ok ay a6 (bu.st (.new _ g)) (bv.st (.new _ g))).mono ?_) ?_
   ·rintro _ w ⟨r, rfl, rfl, g2⟩;exact ⟨Z, Gr.t0 g g2⟩
   refine Xl ad Z (Xh (X5 q3 Z) (Xh (Xk false (vb (!q3)) ad Z) (Xv (vb (!q3)) Z ?_)));rcases X4 (!q3) with aw | aw
   ·have H := Xn H aw;refine Xp aw Z (Xp aw Z (Xh (Xk true (vb true) aw Z) (Ye fun ef cr => ?_)));have cs := af.k0 cr;refine Yo (b := true) Z Z ?_;refine Xc (Xd (Xf (vb false) Z (Xb (Xm ?_))));have ct := cs.drop 0 Z;exact ⟨[vb false], ⟨_, Z, Z⟩, false, Z, H, ct.gr.g0⟩
   have H := Xo H aw;refine Xl aw Z (Xh (Xt ag62 sz62 cQ (Ad aa 0) [vs ((nth d v2).Id), vb ((nth d v2).Had), vs ((nth d v2).Was.Id), vi ((nth d v2).Was.Shape.Kind), G ah ai aj, G ak al am, vb ((nth d v2).Has), vs ((nth d v2).Now.Id), vi ((nth d v2).Now.Shape.Kind), G an ao ap, G aq ar au] Z Z (ag.cells (off := 00) Z)) (Xl aw Z ?_));obtain ⟨q4, cu, H⟩ := H;refine Y0 go53 [.agg #[vs ((nth d v2).Id), vb ((nth d v2).Had), vs ((nth d v2).Was.Id), vi ((nth d v2).Was.Shape.Kind), G ah ai aj, G ak al am, vb ((nth d v2).Has), vs ((nth d v2).Now.Id), vi ((nth d v2).Now.Shape.Kind), G an ao ap, G aq ar au]] Z (vb q4) (fun w g => (F19.calls cu (af.k0 g).ok ay a5 (bs.st (.new _ g)) (bt.st (.new _ g)) a6 (bu.st (.new _ g)) (bv.st (.new _ g))).mono ?_) ?_
   ·rintro _ w ⟨r, rfl, rfl, g2⟩;exact ⟨Z, Gr.t0 g g2⟩
   refine Xh (Xk false (vb q4) aw Z) (Ye fun eg bw => ?_);have bg := af.k0 bw;refine Xu q4 Z (fun bh => ?_) (fun bh => ?_)
   ·have H := Xn H bh;refine Xc (Xd (Xf (vb false) Z (Xb (Xm ?_))));have cv := bg.drop 0 Z;exact ⟨[vb false], ⟨_, Z, Z⟩, false, Z, H, cv.gr.g0⟩
   have H := Xo H bh;refine Xx (Xd ?_);obtain ⟨cw, H⟩ := H;refine Xa (Yb v2 1 Z Z cw) (Xe (vi (v2 + 1)) Z (Xb ?_));have cx := bg.drop 0 Z;obtain ⟨cy, cz⟩ := H;have c0 := af.stn bw;have c1 := bg.std 0 Z;have c2 := ((bf.st c0).st c1);exact ⟨v2 + 1, cz, cy, (Xy Z), cx, c2⟩
  have H := Xo H ab;refine Xp ab Z (Xp ab Z (Xp ab Z (Xp ab Z (Xp ab Z (Xp ab Z (Xp ab Z (Xp ab Z (Xp ab Z ?_))))))));refine Xl av Z (Xh (Xk false (vb false) ab Z) (Xh (Xk false (vb false) av Z) (Xv (vb false) Z (Zc (dj := 31) Z Z Z (Xh (Xj fa62_0 (Ad aa 0) (Ad aa 0) Z Z) (Zc (dj := 31) Z Z Z (Xh (Xq ag9 cQ (Ad aa 0) (vs ((nth d v2).Id)) Z (ag.cell Z)) (Zc (dj := 31) Z Z Z ?_))))))));refine Xh (Xj fa62_1 (Ad aa 0) (Ad aa 1) Z Z) (Zc (dj := 31) Z Z Z (Xh (Xq ag4 cQ (Ad aa 1) (vb ((nth d v2).Had)) Z (ag.cell Z)) (Zc (dj := 31) Z Z Z (Xh (Xj fa62_2 (Ad aa 0) (Ad aa 2) Z Z) (Zc (dj := 31) Z Z Z (Xh (Xt ag44 sz44 cQ (Ad aa 2) [vs ((nth d v2).Was.Id), vi ((nth d v2).Was.Shape.Kind), G ah ai aj, G ak al am] Z Z (ag.cells (off := 2) Z)) (Zc (dj := 31) Z Z Z ?_)))))));have a2 := a4.stown _ bc (X0 bb);have a3 := bd.stw 0 Z be;have bx := ((bn.st a2).st a3);have bz := ((bo.st a2).st a3);obtain ⟨q5, c4, H⟩ := H;refine Y0 go52 [vs ((nth d v2).Id), vb ((nth d v2).Had), .agg #[vs ((nth d v2).Was.Id), vi ((nth d v2).Was.Shape.Kind), G ah ai aj, G ak al am]] Z (vb q5) (fun w g => (F99.calls c4 (af.k0 g).ok ay a5 (bx.st (.new _ g)) (bz.st (.new _ g))).mono ?_) ?_
  ·rintro _ w ⟨r, rfl, rfl, g2⟩;exact ⟨Z, Gr.t0 g g2⟩
  refine Zc (dj := 31) Z Z Z (Xh (X5 q5 Z) (Xh (Xk false (vb (!q5)) Z Z) (Xv (vb (!q5)) Z ?_)));rcases X4 (!q5) with ae | ae
  ·have H := Xn H ae;refine Xp ae Z (Xp ae Z (Xp ae Z (Xp ae Z (Xp ae Z (Xp ae Z (Xp ae Z (Xp ae Z (Xh (Xk true (vb true) ae Z) ?_))))))));refine Xv (vb true) Z (Yc (dj := 51) Z Z (.inl Z) (Yc (dj := 51) Z Z (.inl Z) (Xh (Xk true (vb true) Z Z) (Ye fun eh c5 => ?_))));have c6 := af.k0 c5;refine Yo (b := true) Z Z ?_;refine Xc (Xd (Xf (vb false) Z (Xb (Xm ?_))));have c7 := c6.drop 0 Z;exact ⟨[vb false], ⟨_, Z, Z⟩, false, Z, H, c7.gr.g0⟩
  have H := Xo H ae;refine Xl ae Z (Xh (Xj fa62_0 (Ad aa 0) (Ad aa 0) Z Z) (Xl ae Z (Xh (Xq ag9 cQ (Ad aa 0) (vs ((nth d v2).Id)) Z (ag.cell Z)) (Xl ae Z (Xh (Xj fa62_3 (Ad aa 0) (Ad aa 6) Z Z) (Xl ae Z (Xh (Xq ag4 cQ (Ad aa 6) (vb ((nth d v2).Has)) Z (ag.cell Z)) (Xl ae Z ?_))))))));refine Xh (Xj fa62_4 (Ad aa 0) (Ad aa 7) Z Z) (Xl ae Z (Xh (Xt ag44 sz44 cQ (Ad aa 7) [vs ((nth d v2).Now.Id), vi ((nth d v2).Now.Shape.Kind), G an ao ap, G aq ar au] Z Z (ag.cells (off := 7) Z)) (Xl ae Z ?_)));have b0 := ((bp.st a2).st a3);have b1 := ((bq.st a2).st a3);obtain ⟨q6, c8, H⟩ := H;refine Y0 go52 [vs ((nth d v2).Id), vb ((nth d v2).Has), .agg #[vs ((nth d v2).Now.Id), vi ((nth d v2).Now.Shape.Kind), G an ao ap, G aq ar au]] Z (vb q6) (fun w g => (F99.calls c8 (af.k0 g).ok ay a6 (b0.st (.new _ g)) (b1.st (.new _ g))).mono ?_) ?_
  ·rintro _ w ⟨r, rfl, rfl, g2⟩;exact ⟨Z, Gr.t0 g g2⟩
  refine Xl ae Z (Xh (X5 q6 Z) (Xh (Xk false (vb (!q6)) ae Z) (Xv (vb (!q6)) Z ?_)));rcases X4 (!q6) with ax | ax
  ·have H := Xn H ax;refine Xp ax Z (Xp ax Z (Xh (Xk true (vb true) ax Z) (Ye fun ei c9 => ?_)));have da := af.k0 c9;refine Yo (b := true) Z Z ?_;refine Xc (Xd (Xf (vb false) Z (Xb (Xm ?_))));have db := da.drop 0 Z;exact ⟨[vb false], ⟨_, Z, Z⟩, false, Z, H, db.gr.g0⟩
  have H := Xo H ax;refine Xl ax Z (Xh (Xt ag62 sz62 cQ (Ad aa 0) [vs ((nth d v2).Id), vb ((nth d v2).Had), vs ((nth d v2).Was.Id), vi ((nth d v2).Was.Shape.Kind), G ah ai aj, G ak al am, vb ((nth d v2).Has), vs ((nth d v2).Now.Id), vi ((nth d v2).Now.Shape.Kind), G an ao ap, G aq ar au] Z Z (ag.cells (off := 00) Z)) (Xl ax Z ?_));obtain ⟨q7, dc, H⟩ := H;refine Y0 go53 [.agg #[vs ((nth d v2).Id), vb ((nth d v2).Had), vs ((nth d v2).Was.Id), vi ((nth d v2).Was.Shape.Kind), G ah ai aj, G ak al am, vb ((nth d v2).Has), vs ((nth d v2).Now.Id), vi ((nth d v2).Now.Shape.Kind), G an ao ap, G aq ar au]] Z (vb q7) (fun w g => (F19.calls dc (af.k0 g).ok ay a5 (bx.st (.new _ g)) (bz.st (.new _ g)) a6 (b0.st (.new _ g)) (b1.st (.new _ g))).mono ?_) ?_
  ·rintro _ w ⟨r, rfl, rfl, g2⟩;exact ⟨Z, Gr.t0 g g2⟩
  refine Xh (Xk false (vb q7) ax Z) (Ye fun ej b2 => ?_);have bi := af.k0 b2;refine Xu q7 Z (fun bj => ?_) (fun bj => ?_)
  ·have H := Xn H bj;refine Xc (Xd (Xf (vb false) Z (Xb (Xm ?_))));have dd := bi.drop 0 Z;exact ⟨[vb false], ⟨_, Z, Z⟩, false, Z, H, dd.gr.g0⟩
  have H := Xo H bj;refine Xx (Xd ?_);obtain ⟨de, H⟩ := H;refine Xa (Yb v2 1 Z Z de) (Xe (vi (v2 + 1)) Z (Xb ?_));have df := bi.drop 0 Z;obtain ⟨dg, dh⟩ := H;have di := af.stn b2;have dk := bi.std 0 Z;have dl := ((((az.st a2).st a3).st di).st dk);exact ⟨v2 + 1, dh, dg, (Xy Z), df, dl⟩
 have H := Xo H ba;refine Yi (xin_hit ?_);refine Xc (Xd (Xe (G A1 n2 c3) Z ?_));have ek := az.le;exact Xa (Ya u23_ A1 n2 c3 az.len Z) (Xa (X1 (d.length : Int) 16 (decide ((d.length : Int) ≤ 16)) Z Z Z) (Xf (vb (decide ((d.length : Int) ≤ 16))) Z (Xb (Xm ⟨[vb (decide ((d.length : Int) ≤ 16))], ⟨_, Z, Z⟩, decide ((d.length : Int) ≤ 16), Z, H, a4.gr.g0⟩))))
def F24.E (s : Shape) (Q : Shape → Prop) : Prop :=
 (([] : List Pt).length + s.Pts.length ≤ 268435456) ∧ Q (⟨s.Kind, (([] : List Pt) ++ s.Pts)⟩ : Shape)
theorem F24.calls {s : Shape} {A1 : Option Addr} {n2 c3 : Nat} {Q : Shape → Prop} (H : F24.E s Q) (hO : Ok w0 O) (hp4 : Sl kPt w0 (Fr O) (G A1 n2 c3) s.Pts) :
  Ret Tryz.prog 72 [.agg #[vi s.Kind, G A1 n2 c3]] w0 (fun v w' => ∃ (r0 : Shape) (Aw0 : Option Addr) (nw0 cw0 : Nat), v = .agg #[vi r0.Kind, G Aw0 nw0 cw0] ∧ Q r0 ∧ Gk w0 w' [bk Aw0] O (Ow kPt 49 w' ([bk Aw0] ++ O) (G Aw0 nw0 cw0) r0.Pts)) := by
 unfold F24.E at H;have hc0 := Ct.init hO;refine X9 Tryz.func72 Z 10 Z [.cell 2 41] Z Z ?_;refine Xc (Xd (Yt [vi s.Kind, G A1 n2 c3] Z fun w6 b7 hl9 hu10 g8 ay => ?_));have az := Fb.mk hc0.ok hl9 ay;have ap := hc0.k0 g8;refine Yj [.int .i64 0, G none 0 0] ze41 fun be ae aq hu19 ar a0 => ?_;have au := ap.own ar (some ae) (Yh aq hu19);refine Xb (Xc (Y8 8 [some ae] RK Z fun bf ag aa => ?_));have ah := au.k0 ag;refine Xw 0 Z RK aa (Xj fa41_0 (Ad b7 0) (Ad b7 0) Z Z) ?_;have a1 := ap.stown _ ar (X0 aq);have a2 := au.stn ag;have af := ((az.st a1).st a2);refine Xw 1 Z RK aa (Y5 ag3 cR (Ad b7 0) (vi s.Kind) Z (af.cell Z) (nm_cons (ah.fne 0 af.2 Z) nm_nil)) ?_;refine Xw 3 Z RK aa (Xj fa41_1 (Ad b7 0) (Ad b7 1) Z Z) ?_;refine Xw 4 Z RK aa (Y5 ag39 cR (Ad b7 1) (G A1 n2 c3) Z (af.cell Z) (nm_cons (ah.fne 0 af.2 Z) nm_nil)) ?_;refine X2 2 RK Z ?_;refine X8 (kd := kPt) Ym ah ([] : List Pt) (cells := []) Z RF fun bg av a3 a4 aw hr35 ai a5 => ?_;have aj := Gm.tm aa aw;refine Xb ⟨aj, ?_⟩;refine X2 5 RK Z ?_;obtain ⟨a6, H⟩ := H;refine Yf Ym ai (G av a3 a4) ([] : List Pt) s.Pts Z a5 (G A1 n2 c3) Z (hp4.st ai.st).sx 0 Z a6 fun bh ab ac ad ax a7 ak a8 => ?_;have al := Gm.tq aj ax (hv_new aa hr35);have bi := hv_app (L := [bk av, some ae]) (O := O) (i := 0) aj Z (hv_new aa hr35) a7 ak;refine Xb ⟨al, ?_⟩;refine Xw 6 Z RK al (Yn (.agg #[vi s.Kind, G ab ac ad]) RF) ?_;refine X2 7 RK Z ?_;have a9 := (ai.bm ((a0.k0 ag).k0 aw) 1 0 Z Z Z ax);refine Yd [vi s.Kind, G ab ac ad] a9 Z Z sz41 Z Z fun bj am ba => ?_;have an := ak.wr 1 Z am;have bb := Gm.tq al am (hv_mem 0 Z);refine Xb ⟨bb, ?_⟩;refine Yq RK ?_;refine Xm ?_;have bc := an.bgv ba 1 Z;have ao := an.drop 1 Z;have bd := (an.sd (ak.sw a8 0 1 Z Z Z am) 0 1 Z Z Z);exact ⟨[.agg #[vi s.Kind, G ab ac ad]], ⟨_, _, Z, bc.1.res Z ag41 sz41, Z⟩, (⟨s.Kind, (([] : List Pt) ++ s.Pts)⟩ : Shape), ab, ac, ad, Z, H, ao.gr.g0, ao.ok, ao.ge, bd⟩
def F40.E (f : Feat) (Q : Feat → Prop) : Prop :=
 (([] : List Tag).length + f.Tags.length ≤ 268435456) ∧ F24.E f.Shape (fun r => Q (⟨f.Id, r, (([] : List Tag) ++ f.Tags)⟩ : Feat))
theorem F40.calls {f : Feat} {A2 : Option Addr} {n3 c4 : Nat} {A7 : Option Addr} {n8 c9 : Nat} {Q : Feat → Prop} (H : F40.E f Q) (hO : Ok w0 O) (hs1 : Lim f.Id) (hp5 : Sl kPt w0 (Fr O) (G A2 n3 c4) f.Shape.Pts) (bn : Sl kTag w0 (Fr O) (G A7 n8 c9) f.Tags) :
  Ret Tryz.prog 77 [.agg #[vs f.Id, vi f.Shape.Kind, G A2 n3 c4, G A7 n8 c9]] w0 (fun v w' => ∃ (r0 : Feat) (Aw0 : Option Addr) (nw0 cw0 : Nat) (Aw2 : Option Addr) (nw2 cw2 : Nat), v = .agg #[vs r0.Id, vi r0.Shape.Kind, G Aw0 nw0 cw0, G Aw2 nw2 cw2] ∧ Q r0 ∧ Gk w0 w' [bk Aw0, bk Aw2] O (Lim r0.Id ∧ Ow kPt 49 w' ([bk Aw0, bk Aw2] ++ O) (G Aw0 nw0 cw0) r0.Shape.Pts ∧ Ow kTag 93 w' ([bk Aw0, bk Aw2] ++ O) (G Aw2 nw2 cw2) r0.Tags)) := by
 unfold F40.E at H;have hc0 := Ct.init hO;refine X9 Tryz.func77 Z 13 Z [.cell 2 44] Z Z ?_;refine Xc (Xd (Yt [vs f.Id, vi f.Shape.Kind, G A2 n3 c4, G A7 n8 c9] Z fun dd ac b3 hu16 b4 b5 => ?_));have b6 := Fb.mk hc0.ok b3 b5;have bo := hc0.k0 b4;refine Yj [vs [], .int .i64 0, G none 0 0, G none 0 0] ze44 fun de aa bp hu25 bq br => ?_;have bs := bo.own bq (some aa) (Yh bp hu25);refine Xb (Xc ?_);obtain ⟨bt, H⟩ := H;refine Zi (J := (fun t ai => ∃ (r : Shape) (ad : Option Addr) (aj ak : Nat) (ae : Option Addr) (al am : Nat), Has t [(2, Pz aa)] ∧ Cw [] w0 ai [bk ae, bk ad, some aa] O fun M => Ow kPt 49 ai M (G ad aj ak) r.Pts ∧ Ow kTag 93 ai M (G ae al am) (([] : List Tag) ++ f.Tags) ∧ Bx ai aa [vs f.Id, vi r.Kind, G ad aj ak, G ae al am] ∧ Q (⟨f.Id, r, (([] : List Tag) ++ f.Tags)⟩ : Feat))) ?_ ?_
 ·refine Y8 11 [some aa] RK Z fun b7 ap ab => ?_;have af := bs.k0 ap;refine Xw 0 Z RK ab (Xj fa44_0 (Ad ac 0) (Ad ac 0) Z Z) ?_;have b8 := bo.stown _ bq (X0 bp);have b9 := bs.stn ap;have ah := ((b6.st b8).st b9);refine Xw 1 Z RK ab (Y5 ag9 cR (Ad ac 0) (vs f.Id) Z (ah.cell Z) (nm_cons (af.fne 0 ah.2 Z) nm_nil)) ?_;refine Xw 2 Z RK ab (Xj fa44_1 (Ad ac 0) (Ad ac 1) Z Z) ?_;refine Xw 3 Z RK ab (Zg ag41 sz41 cR (Ad ac 1) [vi f.Shape.Kind, G A2 n3 c4] Z Z (ah.cells (off := 1) Z) (nm_cons (af.fne 0 ah.2 Z) nm_nil)) ?_;refine Xw 6 Z RK ab (Xj fa44_2 (Ad ac 0) (Ad ac 3) Z Z) ?_;refine Xw 7 Z RK ab (Y5 ag42 cR (Ad ac 3) (G A7 n8 c9) Z (ah.cell Z) (nm_cons (af.fne 0 ah.2 Z) nm_nil)) ?_;refine Y7 4 5 RK Z Z ?_ ?_
  ·refine Xs go72 (F24.calls H af.ok (hp5.st af.st)) Z ?_;rintro _ bu ⟨r, an, aq, ar, rfl, H, bc, ca, cb, cc⟩;have cd := af.owns bc ca cb;have au := Gm.tm ab bc;refine Xb ⟨au, ?_⟩;refine X2 5 RK Z ?_;refine X8 (kd := kTag) Yv cd ([] : List Tag) (cells := []) Z RF fun df bv ce cf bd hr54 av cg => ?_;have ag := Gm.tm au bd;refine Xb ⟨ag, ?_⟩;refine X2 8 RK Z ?_;refine Yf Yv av (G bv ce cf) ([] : List Tag) f.Tags Z cg (G A7 n8 c9) Z (bn.st av.st).sx 0 Z bt fun dg aw ax ay be bw az ch => ?_;have bf := Gm.tq ag be (hv_new au hr54);have dh := hv_app (L := [bk bv, bk an, some aa]) (O := O) (i := 0) ag Z (hv_new au hr54) bw az;refine Xb ⟨bf, ?_⟩;refine Xw 9 Z RK bf (Yn (.agg #[vs f.Id, vi r.Kind, G an aq ar, G aw ax ay]) RF) ?_;refine X2 10 RK Z ?_;have ci := (av.bm (((br.k0 ap).k0 bc).k0 bd) 2 0 Z Z Z be);refine Yd [vs f.Id, vi r.Kind, G an aq ar, G aw ax ay] ci Z Z sz44 Z Z fun di a0 cj => ?_;have ck := az.wr 2 Z a0;have cl := Gm.tq bf a0 (hv_mem 0 Z);refine Xb ⟨cl, ?_⟩;refine Yq RK ?_;have cm := (az.sw (av.sm (cc.so _ bd hr54) 1 0 Z Z Z be bw) 1 2 Z Z Z a0);have cn := (az.sw ch 0 2 Z Z Z a0);exact ⟨r, an, aq, ar, aw, ax, ay, (Xy Z), ck, cm, cn, cj, H⟩
  refine X8 (kd := kTag) Yv af ([] : List Tag) (cells := []) Z RF fun bu bx co cp bz hr42 bg cq => ?_;have b0 := Gm.tm ab bz;refine Xb ⟨b0, ?_⟩;refine X2 4 RK Z ?_;refine Xs go72 (F24.calls H bg.ok (hp5.st bg.st)) Z ?_;rintro _ dj ⟨r, ao, a1, a2, rfl, H, a3, cr, b1, cs⟩;have a4 := bg.owns a3 cr b1;have ag := Gm.tm b0 a3;refine Xb ⟨ag, ?_⟩;refine X2 8 RK Z ?_;have ct := (cq.sos a3 b1);refine Yf Yv a4 (G bx co cp) ([] : List Tag) f.Tags Z ct (G A7 n8 c9) Z (bn.st a4.st).sx 1 Z bt fun dk a5 a6 a7 bh b2 a8 cu => ?_;have bi := Gm.tq ag bh (hv_new ab hr42);have dl := hv_app (L := [bk ao, bk bx, some aa]) (O := O) (i := 1) ag Z (hv_new ab hr42) b2 a8;refine Xb ⟨bi, ?_⟩;refine Xw 9 Z RK bi (Yn (.agg #[vs f.Id, vi r.Kind, G ao a1 a2, G a5 a6 a7]) RF) ?_;refine X2 10 RK Z ?_;have cv := (a4.bm (((br.k0 ap).k0 bz).k0 a3) 2 1 Z Z Z bh);refine Yd [vs f.Id, vi r.Kind, G ao a1 a2, G a5 a6 a7] cv Z Z sz44 Z Z fun dm a9 cw => ?_;have bj := a8.wr 2 Z a9;have cx := Gm.tq bi a9 (hv_mem 0 Z);refine Xb ⟨cx, ?_⟩;refine Yq RK ?_;have cy := bj.perm (.swap _ _ _);have cz := (bj.sp (a8.sw (a4.sm cs 0 1 Z Z Z bh b2) 0 2 Z Z Z a9) (.swap _ _ _));have c0 := (bj.sp (a8.sw cu 1 2 Z Z Z a9) (.swap _ _ _));have c1 := cw;exact ⟨r, ao, a1, a2, a5, a6, a7, (Xy Z), cy, cz, c0, c1, H⟩
 rintro dn ai ⟨r, ad, aj, ak, ae, al, am, c2, ba, c3, c5, c6, H⟩;obtain ⟨dp, rfl⟩ := Has.ins c2;refine Xm ?_;have c7 := ba.bgv c6 2 Z;have bb := ba.drop 2 Z;have bl := bb.perm (.swap _ _ _);have c8 := bb.stp (.swap _ _ _);have da := (c7.st c8);have db := (bb.sp (ba.sd c3 1 2 Z Z Z) (.swap _ _ _));have dc := (bb.sp (ba.sd c5 0 2 Z Z Z) (.swap _ _ _));exact ⟨[.agg #[vs f.Id, vi r.Kind, G ad aj ak, G ae al am]], ⟨_, _, Z, da.1.res Z ag44 sz44, Z⟩, (⟨f.Id, r, (([] : List Tag) ++ f.Tags)⟩ : Feat), ad, aj, ak, ae, al, am, Z, H, bl.gr.g0, bl.ok, bl.ge, hs1, db, dc⟩
def F33.E (s : List Feat) (Q : List Feat → Prop) : Prop :=
 (∃ (I50 : (List Feat) → Int → Prop) (mu51 : (List Feat) → Int → Nat), I50 [] 0 ∧ ∀ (xs2 : List Feat) (v2 : Int), I50 xs2 v2 → (if decide (v2 < (s.length : Int)) then ((0 : Int) ≤ v2 ∧ v2 < (s.length : Int)) ∧ F40.E (nth s v2) (fun r => (xs2.length + ([r] : List Feat).length ≤ 268435456) ∧ (I64 (v2 + 1)) ∧ I50 (xs2 ++ ([r] : List Feat)) (v2 + 1) ∧ mu51 (xs2 ++ ([r] : List Feat)) (v2 + 1) < mu51 xs2 v2) else Q xs2))
theorem F33.calls {s : List Feat} {A1 : Option Addr} {n2 c3 : Nat} {Q : List Feat → Prop} (H : F33.E s Q) (hO : Ok w0 O) (hp4 : Sl kFeat w0 (Fr O) (G A1 n2 c3) s) :
  Ret Tryz.prog 81 [G A1 n2 c3] w0 (fun v w' => ∃ (r0 : List Feat) (Aw0 : Option Addr) (nw0 cw0 : Nat) (q0 : Ob) (ra0 : List (List Value)), v = G Aw0 nw0 cw0 ∧ Q r0 ∧ Gr w0 w' none ∧ Ok w' ((bk Aw0 :: (q0 ++ [])) ++ O) ∧ (∀ b, some b ∈ (bk Aw0 :: (q0 ++ [])) → w0.heap.size ≤ b) ∧ Ow (Kd.cells 4) 44 w' ((bk Aw0 :: (q0 ++ [])) ++ O) (G Aw0 nw0 cw0) ra0 ∧ DArr dFeat_44 w' q0 r0 ra0) := by
 unfold F33.E at H;have hc0 := Ct.init hO;refine X9 Tryz.func81 Z 20 Z [.tmp 2] Z Z ?_;refine Xc (Xd (Xf (G none 0 0) Z (Xb (Xc (Xd ?_)))));have b0 : DArr dFeat_44 w0 ([] : Ob) ([] : List Feat) ([] : List (List Value)) := Z;refine X8 (kd := Kd.cells 4) Yl hc0 ([] : List (List Value)) (cells := []) Z RF fun w6 A7 n8 c9 b1 hr11 bj b2 => ?_;have bl : ([bk A7] : Ob).Perm (bk A7 :: (([] : Ob) ++ [])) := RP;have ay := bj.perm bl;refine Xf (G A7 n8 c9) Z (Xb (Xc (Xc (Xd (Xe (G A1 n2 c3) Z ?_)))));have de := (hp4.st ay.st).le;refine Xa (Ya u33_ A1 n2 c3 (hp4.st ay.st).len Z) (Xe (vi 0) Z (Xb (X6 ?_)));obtain ⟨b3, b4, a6, H⟩ := H;have b5 := (bj.sp b2 bl);have b6 := (b0.k0 b1);refine Yk (α := (List Feat) × (List (List Value)) × Ob × (Option Addr) × Nat × Nat × Int) (fun (xs2, al, ad, ac, af, ag, v2) t aw => b3 xs2 v2 ∧ Has t [(3, G ac af ag), (7, G A1 n2 c3), (8, vi (s.length : Int)), (9, vi v2)] ∧ Cw [] w0 aw (bk ac :: (ad ++ [])) O fun M => Sl kFeat aw (Fr M) (G A1 n2 c3) s ∧ Ow (Kd.cells 4) 44 aw M (G ac af ag) al ∧ DArr dFeat_44 aw ad xs2 al) (fun (xs2, _, _, _, _, _, v2) => b4 xs2 v2) (([] : List Feat), ([] : List (List Value)), ([] : Ob), A7, n8, c9, 0) ⟨a6, (Xy Z), ay, (hp4.st ay.st), b5, b6⟩ ?_;rintro ⟨xs2, al, ad, ac, af, ag, v2⟩ _ aw ⟨a6, b7, ax, a7, bm, bn⟩;obtain ⟨df, rfl⟩ := Has.ins b7;have H := H xs2 v2 a6;refine Xc (Xd (Xa (X1 v2 (s.length : Int) (decide (v2 < (s.length : Int))) Z Z Z) (Xb (Xc ?_))));refine Xu (decide (v2 < (s.length : Int))) Z (fun a8 => ?_) (fun a8 => ?_)
 ·have H := Xn H a8;refine Xx (Xc (X6 (Xc (Xd ?_))));obtain ⟨bo, H⟩ := H;obtain ⟨bp, dg, b8, dh, b9, ca⟩ := a7.get default RD v2 bo;obtain ⟨an, ao, ap, aq, ar, au, rfl, cb, cc, cd⟩ := kFeat.op b9;refine Xa (X3 u33_ Yx A1 bp n2 c3 a7.len v2 Z b8 Z bo) (Xa (Xt ag44 sz44 cL (bp.add (v2.toNat * 4)) [vs ((nth s v2).Id), vi ((nth s v2).Shape.Kind), G an ao ap, G aq ar au] Z Z ca) (Yj [vs [], .int .i64 0, G none 0 0, G none 0 0] ze44 fun di ae a9 hu81 az ce => ?_));have a0 := ax.own az (some ae) (Yh a9 hu81);refine Yd [vs ((nth s v2).Id), vi ((nth s v2).Shape.Kind), G an ao ap, G aq ar au] ce Z Z sz44 Z Z fun cf a1 cg => ?_;have ba := a0.wr 0 Z a1;refine Xb (Xd (Xe (G ac af ag) Z (Xa (Xt ag44 sz44 cL (Ad ae 0) [vs ((nth s v2).Id), vi ((nth s v2).Shape.Kind), G an ao ap, G aq ar au] Z Z (cg.cells (off := 00) Z)) ?_)));have bb := ax.stown _ az (X0 a9);have bc := a0.stw 0 Z a1;have ch := ((cc.st bb).st bc);have ci := ((cd.st bb).st bc);refine Xs go77 (F40.calls H ba.ok cb ch ci) Z ?_;rintro _ bq ⟨r, aa, ah, ai, ab, aj, ak, rfl, H, a2, cj, bd, ck, cl, cm⟩;have br := ba.owns a2 cj bd;have bs : (dFeat_44).D bq ([] ++ (([] ++ [bk aa]) ++ [bk ab])) r [vs r.Id, vi r.Shape.Kind, G aa ah ai, G ab aj ak] := (dFeat_44.mk _ r ck (Ds.ofOw kPt_flat cl) (Ds.ofOw kTag_flat cm));have cn : DArr dFeat_44 bq (([] ++ (([] ++ [bk aa]) ++ [bk ab])) ++ []) ([r] : List Feat) ([[vs r.Id, vi r.Shape.Kind, G aa ah ai, G ab aj ak]] : List (List Value)) := ⟨_, _, Z, bs, Z⟩;refine X8 (kd := Kd.cells 4) Yl br ([[vs r.Id, vi r.Shape.Kind, G aa ah ai, G ab aj ak]] : List (List Value)) (cells := [vs r.Id, vi r.Shape.Kind, G aa ah ai, G ab aj ak]) ⟨[vs r.Id, vi r.Shape.Kind, G aa ah ai, G ab aj ak], _, Z, Dd.raw _ bs, Z⟩ RF fun dj am co cp a3 hr116 a4 cq => ?_;have a5 : ((bk am :: bk aa :: bk ab :: some ae :: bk ac :: (ad ++ [])) : Ob).Perm (bk am :: some ae :: bk ac :: (ad ++ ((([] ++ (([] ++ [bk aa]) ++ [bk ab])) ++ []) ++ []))) := RP;have be := a4.perm a5;obtain ⟨cr, H⟩ := H;have cs := (a4.sp (((a0.sw (bm.so _ az (X0 a9)) 1 0 Z Z Z a1).sos a2 bd).so _ a3 hr116) a5);have ct := (a4.sp cq a5);have bt := (((DArr.sm (L := (some ae :: bk ac :: (ad ++ []))) (O := O) (i := 0) (bn.k0 az) a0 Z (fun b hb => (mcm (List.mem_append_left _ hb))) a1).k0 a2).k0 a3);have bu := (cn.k0 a3);have cu : al.length + ([[vs r.Id, vi r.Shape.Kind, G aa ah ai, G ab aj ak]] : List (List Value)).length ≤ 268435456 := by rw [bt.len, bu.len]; exact cr
  refine Yf (kd := Kd.cells 4) Yl be (G ac af ag) al ([[vs r.Id, vi r.Shape.Kind, G aa ah ai, G ab aj ak]] : List (List Value)) Z cs (G am co cp) Z ct.sx 2 Z cu fun dk av bv bw bx cv bz cw => ?_;have cx := (DArr.sm (L := (bk am :: some ae :: bk ac :: (ad ++ ((([] ++ (([] ++ [bk aa]) ++ [bk ab])) ++ []) ++ [])))) (O := O) (i := 2) bt be Z (fun b hb => (List.mem_append_left _ hb)) bx);have cy := (DArr.sm (L := (bk am :: some ae :: bk ac :: (ad ++ ((([] ++ (([] ++ [bk aa]) ++ [bk ab])) ++ []) ++ [])))) (O := O) (i := 2) bu be Z (fun b hb => (List.mem_append_right _ (List.mem_append_left _ hb))) bx);have cz := DArr.app cx cy;have bf : ((bk am :: some ae :: bk av :: (ad ++ ((([] ++ (([] ++ [bk aa]) ++ [bk ab])) ++ []) ++ []))) : Ob).Perm ((bk am :: []) ++ (some ae :: bk av :: (ad ++ ((([] ++ (([] ++ [bk aa]) ++ [bk ab])) ++ []) ++ [])))) := RP;have bg := bz.drops bf;have bh : ((some ae :: bk av :: (ad ++ ((([] ++ (([] ++ [bk aa]) ++ [bk ab])) ++ []) ++ []))) : Ob).Perm (some ae :: bk av :: ((ad ++ (([] ++ (([] ++ [bk aa]) ++ [bk ab])) ++ [])) ++ [])) := RP;have bi := bg.perm bh;refine Xf (G av bv bw) Z (Xb (Xd ?_));obtain ⟨c0, H⟩ := H;refine Xa (Yb v2 1 Z Z c0) (Xe (vi (v2 + 1)) Z (Xb ?_));have c1 := bi.drop 0 Z;obtain ⟨c2, c4⟩ := H;have c5 := ba.stos a2 bd;have c6 := br.stown _ a3 hr116;have c7 := a4.stp a5;have c8 := bg.stp bh;have da := bi.std 0 Z;have db := (((((((((a7.st bb).st bc).st c5).st c6).st c7).st cv).st (St.drops _ O bf)).st c8).st da);have dc := (bi.sd (bg.sp (bz.odr cw bf 1 Z) bh) 1 0 Z Z Z);have dd := cz;exact ⟨((xs2 ++ ([r] : List Feat)), (al ++ ([[vs r.Id, vi r.Shape.Kind, G aa ah ai, G ab aj ak]] : List (List Value))), (ad ++ (([] ++ (([] ++ [bk aa]) ++ [bk ab])) ++ [])), av, bv, bw, v2 + 1), c4, c2, (Xy Z), c1, db, dc, dd⟩
 have H := Xo H a8;refine Yi (xin_hit ?_);exact Xc (Xd (Xe (G ac af ag) Z (Xf (G ac af ag) Z (Xb (Xm ⟨[G ac af ag], ⟨_, Z, Z⟩, xs2, ac, af, ag, ad, al, Z, H, ax.gr.g0, ax.ok, ax.ge, bm, bn⟩)))))
def F56.E (f : Feat) (fv2 : Str) (Q : Bool → Prop) : Prop :=
 Q (f.Id == fv2)
theorem F56.calls {f : Feat} {A2 : Option Addr} {n3 c4 : Nat} {A7 : Option Addr} {n8 c9 : Nat} {b : Nat} {fv2 : Str} {Q : Bool → Prop} (H : F56.E f fv2 Q) (hO : Ok w0 O) (hs1 : Lim f.Id) (hp5 : Sl kPt w0 (Fr O) (G A2 n3 c4) f.Shape.Pts) (ah : Sl kTag w0 (Fr O) (G A7 n8 c9) f.Tags) (ai : Lim fv2) (hp1 : Fb w0 O b [vs fv2]) :
  Ret Tryz.prog 128 [.agg #[vs f.Id, vi f.Shape.Kind, G A2 n3 c4, G A7 n8 c9], Pz b] w0 (fun v w' => ∃ (r0 : Bool), v = vb r0 ∧ Q r0 ∧ Gr w0 w' none) := by
 unfold F56.E at H;have hc0 := Ct.init hO;refine X9 Tryz.func128 Z 8 Z [.tmp 3] Z Z ?_;refine Xc (Xd (Yt [vs f.Id, vi f.Shape.Kind, G A2 n3 c4, G A7 n8 c9] Z fun aj aa ac hu18 ad ae => ?_));have af := Fb.mk hc0.ok ac ae;have ab := hc0.k0 ad;refine Xf (vb false) Z (Xb (Xc (Xd (Xa (Xj fa44_0 (Ad aa 0) (Ad aa 0) Z Z) (Xa (Xq ag9 cL (Ad aa 0) (vs f.Id) Z (af.cell Z)) ?_)))));have ag := (hp1.st ab.st);exact Xa (Xq ag9 cL (Ad b 0) (vs fv2) Z (ag.cell Z)) (Xa (Yp f.Id fv2 (f.Id == fv2) Z Z Z) (Xf (vb (f.Id == fv2)) Z (Xb (Xm ⟨[vb (f.Id == fv2)], ⟨_, Z, Z⟩, f.Id == fv2, Z, H, ab.gr.g0⟩))))
def F2.E (s : List Feat) (f : Feat → Bool) (f_ok : Feat → Prop) (Q : Int → Prop) : Prop :=
 (∃ (I23 : Int → Prop) (mu24 : Int → Nat), I23 0 ∧ ∀ (v2 : Int), I23 v2 → (if decide (v2 < (s.length : Int)) then ((0 : Int) ≤ v2 ∧ v2 < (s.length : Int)) ∧ (f_ok (nth s v2)) ∧ (if (f (nth s v2)) then Q v2 else (I64 (v2 + 1)) ∧ I23 (v2 + 1) ∧ mu24 (v2 + 1) < mu24 v2) else Q (-1)))
theorem F2.calls {s : List Feat} {A1 : Option Addr} {n2 c3 : Nat} {fg6 : FuncId} {fc7 : List Value} {f : Feat → Bool} {f_ok : Feat → Prop} {Q : Int → Prop} (H : F2.E s f f_ok Q) (hO : Ok w0 O) (hp4 : Sl kFeat w0 (Fr O) (G A1 n2 c3) s) (hgo8 : Goes Tryz.prog fg6) (hf9 : ∀ (w : World) (L : Ob), Ct [] w0 w L O → ∀ (x0_ : Feat) (am : Option Addr) (an ao : Nat) (ap : Option Addr) (aq ar : Nat) (bc : Lim x0_.Id) (bd : Sl kPt w (Fr (L ++ O)) (G am an ao) x0_.Shape.Pts) (be : Sl kTag w (Fr (L ++ O)) (G ap aq ar) x0_.Tags), f_ok x0_ → Ret Tryz.prog fg6 ([.agg #[vs x0_.Id, vi x0_.Shape.Kind, G am an ao, G ap aq ar]] ++ fc7) w (fun v w' => v = vb (f x0_) ∧ Gr w w' none)) :
  Ret Tryz.prog 127 [G A1 n2 c3, .func (.func fg6) #[] fc7.toArray] w0 (fun v w' => ∃ (r0 : Int), v = vi r0 ∧ Q r0 ∧ Gr w0 w' none) := by
 unfold F2.E at H;have hc0 := Ct.init hO;refine X9 Tryz.func127 Z 19 Z [.tmp 4] Z Z ?_;refine Xc (Xd (Xf (vi 0) Z (Xb (Xc (Xc (Xd (Xe (G A1 n2 c3) Z ?_)))))));have bf := hp4.le;refine Xa (Ya u33_ A1 n2 c3 hp4.len Z) (Xe (vi 0) Z (Xb (X6 ?_)));obtain ⟨ay, az, ac, H⟩ := H;refine Yk (α := Int) (fun (sv__ : Int) t aa => match sv__ with | v2 => ay v2 ∧ Has t [(0, G A1 n2 c3), (1, .func (.func fg6) #[] fc7.toArray), (7, vi (s.length : Int)), (8, vi v2)] ∧ Ct [] w0 aa [] O ∧ Sl kFeat aa (Fr ([] ++ O)) (G A1 n2 c3) s) (fun (sv__ : Int) => match sv__ with | v2 => az v2) 0 ⟨ac, (Xy Z), hc0, hp4⟩ ?_;rintro v2 _ aa ⟨ac, a0, ab, ad⟩;obtain ⟨bg, rfl⟩ := Has.ins a0;have H := H v2 ac;refine Xc (Xd (Xa (X1 v2 (s.length : Int) (decide (v2 < (s.length : Int))) Z Z Z) (Xb (Xc ?_))));refine Xu (decide (v2 < (s.length : Int))) Z (fun ae => ?_) (fun ae => ?_)
 ·have H := Xn H ae;refine Xx (Xc (X6 (Xc (Xd (Xe (vi v2) Z (Xf (vi v2) Z (Xb (Xc ?_))))))));refine Xd (Xe (.func (.func fg6) #[] fc7.toArray) Z (Xe (G A1 n2 c3) Z (Xe (vi v2) Z ?_)));obtain ⟨au, H⟩ := H;obtain ⟨av, bh, a1, bi, a2, a3⟩ := ad.get default RD v2 au;obtain ⟨af, ag, ah, ai, aj, ak, rfl, a4, a5, a6⟩ := kFeat.op a2;refine Xa (X3 u33_ Yx A1 av n2 c3 ad.len v2 Z a1 Z au) (Xa (Xt ag44 sz44 cL (av.add (v2.toNat * 4)) [vs ((nth s v2).Id), vi ((nth s v2).Shape.Kind), G af ag ah, G ai aj ak] Z Z a3) ?_);obtain ⟨a7, H⟩ := H;refine Zt hgo8 fc7 Z [.agg #[vs ((nth s v2).Id), vi ((nth s v2).Shape.Kind), G af ag ah, G ai aj ak]] Z ((hf9 aa [] ab (nth s v2) af ag ah ai aj ak a4 a5 a6 a7).mono ?_);rintro _ bj ⟨rfl, aw⟩;have ax := ab.k0 aw;refine Xb ?_;refine Xu (f (nth s v2)) Z (fun al => ?_) (fun al => ?_)
  ·have H := Xn H al;exact Xc (Xd (Xe (vi v2) Z (Xf (vi v2) Z (Xb (Xm ⟨[vi v2], ⟨_, Z, Z⟩, v2, Z, H, ax.gr.g0⟩)))))
  have H := Xo H al;refine Xx (Xd ?_);obtain ⟨a8, H⟩ := H;refine Xa (Yb v2 1 Z Z a8) (Xe (vi (v2 + 1)) Z (Xb ?_));obtain ⟨a9, ba⟩ := H;have bb := ab.stn aw;exact ⟨v2 + 1, ba, a9, (Xy Z), ax, (ad.st bb)⟩
 have H := Xo H ae;refine Yi (xin_hit ?_);exact Xc (Xd (Xf (vi (-1)) Z (Xb (Xm ⟨[vi (-1)], ⟨_, Z, Z⟩, (-1), Z, H, ab.gr.g0⟩))))
def F107.E (s : List Feat) (id : Str) (Q : Int → Prop) : Prop :=
 (∃ (f : Feat → Bool) (f_ok : Feat → Prop), (∀ x0_, f_ok x0_ → F56.E x0_ id (fun r => r = f x0_)) ∧ F2.E s f f_ok (fun r => Q r))
theorem F107.calls {s : List Feat} {A1 : Option Addr} {n2 c3 : Nat} {id : Str} {Q : Int → Prop} (H : F107.E s id Q) (hO : Ok w0 O) (hp4 : Sl kFeat w0 (Fr O) (G A1 n2 c3) s) (hs6 : Lim id) :
  Ret Tryz.prog 82 [G A1 n2 c3, vs id] w0 (fun v w' => ∃ (r0 : Int), v = vi r0 ∧ Q r0 ∧ Gr w0 w' none) := by
 unfold F107.E at H;have hc0 := Ct.init hO;refine X9 Tryz.func82 Z 8 Z [.tmp 4] Z Z ?_;refine Xc (Xd (Yt [vs id] Z fun w7 b8 ak hu11 g9 al => ?_));have am := Fb.mk hc0.ok ak al;have ag := hc0.k0 g9;refine Xf (vi 0) Z (Xb (Xc (Xd (Xe (G A1 n2 c3) Z (Xa (Z4 [Pz b8] Z) ?_)))));obtain ⟨f, f_ok, an, H⟩ := H;have ao : ∀ (w : World) (L : Ob), Ct [] w7 w L ([] ++ O) → ∀ (x0_ : Feat) (aa : Option Addr) (ab ac : Nat) (ad : Option Addr) (ae af : Nat) (ah : Lim x0_.Id) (ai : Sl kPt w (Fr (L ++ ([] ++ O))) (G aa ab ac) x0_.Shape.Pts) (aj : Sl kTag w (Fr (L ++ ([] ++ O))) (G ad ae af) x0_.Tags), f_ok x0_ → Ret Tryz.prog 128 ([.agg #[vs x0_.Id, vi x0_.Shape.Kind, G aa ab ac, G ad ae af]] ++ [Pz b8]) w (fun v w' => v = vb (f x0_) ∧ Gr w w' none) := by
  intro w L c x0_ aa ab ac ad ae af ah ai aj hok;refine (F56.calls (an x0_ hok) c.ok ah ai aj hs6 (am.st c.st)).mono ?_;rintro _ w2 ⟨r, rfl, rfl, g2⟩;exact ⟨Z, g2⟩
 refine Xs go127 (F2.calls H ag.ok (hp4.st ag.st) go128 ao) Z ?_;rintro _ ar ⟨r, rfl, H, ap⟩;have aq := ag.k0 ap;exact Xf (vi r) Z (Xb (Xm ⟨[vi r], ⟨_, Z, Z⟩, r, Z, H, aq.gr.g0⟩))
def F141.E (s : List Feat) (id : Str) (Q : Feat → Bool → Prop) : Prop :=
 F107.E s id (fun r => (if decide (r < 0) then Q (⟨[], (⟨0, []⟩ : Shape), []⟩ : Feat) false else ((0 : Int) ≤ r ∧ r < (s.length : Int)) ∧ F40.E (nth s r) (fun r2 => Q r2 true)))
theorem F141.calls {s : List Feat} {A1 : Option Addr} {n2 c3 : Nat} {id : Str} {Q : Feat → Bool → Prop} (H : F141.E s id Q) (hO : Ok w0 O) (hp4 : Sl kFeat w0 (Fr O) (G A1 n2 c3) s) (hs6 : Lim id) :
  Ret Tryz.prog 60 [G A1 n2 c3, vs id] w0 (fun v w' => ∃ (r0 : Feat) (r1 : Bool) (Aw0 : Option Addr) (nw0 cw0 : Nat) (Aw2 : Option Addr) (nw2 cw2 : Nat), v = .tuple #[.agg #[vs r0.Id, vi r0.Shape.Kind, G Aw0 nw0 cw0, G Aw2 nw2 cw2], vb r1] ∧ Q r0 r1 ∧ Gk w0 w' [bk Aw0, bk Aw2] O (Lim r0.Id ∧ Ow kPt 49 w' ([bk Aw0, bk Aw2] ++ O) (G Aw0 nw0 cw0) r0.Shape.Pts ∧ Ow kTag 93 w' ([bk Aw0, bk Aw2] ++ O) (G Aw2 nw2 cw2) r0.Tags)) := by
 unfold F141.E at H;have hc0 := Ct.init hO;refine X9 Tryz.func60 Z 18 Z [.cell 4 44, .tmp 5] Z Z ?_;refine Xc (Xd (Yj [vs [], .int .i64 0, G none 0 0, G none 0 0] ze44 fun w7 b8 a4 hu11 g9 az => ?_));have ak := hc0.own g9 (some b8) (Yh a4 hu11);refine Xf (vb false) Z (Xb (Xc (Xd (Xe (G A1 n2 c3) Z (Xe (vs id) Z ?_)))));refine Xs go82 (F107.calls H ak.ok (hp4.st ak.st) hs6) Z ?_;rintro _ a5 ⟨r, rfl, H, al⟩;have aa := ak.k0 al;refine Xf (vi r) Z (Xb (Xc (Xc (Xd (Xe (vi r) Z (Xa (X1 r 0 (decide (r < 0)) Z Z Z) (Xb ?_)))))));refine Xu (decide (r < 0)) Z (fun am => ?_) (fun am => ?_)
 ·have H := Xn H am;refine Xc (Xd (Xa (Yn (.agg #[vs [], vi 0, G none 0 0, G none 0 0]) RF) ?_));have a6 := (az.k0 al);refine Yd [vs [], vi 0, G none 0 0, G none 0 0] a6 Z Z sz44 Z Z fun a0 a7 a8 => ?_;have a9 := aa.wr 0 Z a7;refine Xf (vb false) Z (Xb (Xm ?_));have ba := a9.own (Gr.refl _ none) none (by simp);have bb : Ow kPt 49 a0 ([bk none, some b8] ++ O) (G none 0 0) [] := Ow.nil _ _ _ _;have ab := ba.own (Gr.refl _ none) none (by simp);have bc : Ow kTag 93 a0 ([bk none, bk none, some b8] ++ O) (G none 0 0) [] := Ow.nil _ _ _ _;have bd := a8;have be := ab.bgv bd 2 Z;have ac := ab.drop 2 Z;have an := ac.perm (.swap _ _ _);have bf := ac.stp (.swap _ _ _);have bg := (be.st bf);have bh := (ac.sp (ab.sd (bb.so none (Gr.refl _ none) (by simp)) 1 2 Z Z Z) (.swap _ _ _));have bi := (ac.sp (ab.sd bc 0 2 Z Z Z) (.swap _ _ _));exact ⟨[.agg #[vs [], vi 0, G none 0 0, G none 0 0], vb false], ⟨_, _, Z, bg.1.res Z ag44 sz44, ⟨_, Z, Z⟩⟩, (⟨([] : Str), (⟨0, ([] : List Pt)⟩ : Shape), ([] : List Tag)⟩ : Feat), false, none, 0, 0, none, 0, 0, Z, H, an.gr.g0, an.ok, an.ge, RD, bh, bi⟩
 have H := Xo H am;refine Xx (Xc (Xd (Xe (G A1 n2 c3) Z (Xe (vi r) Z ?_))));obtain ⟨a1, H⟩ := H;obtain ⟨a2, b1, bj, b2, bl, bm⟩ := (hp4.st aa.st).get default RD r a1;obtain ⟨ao, ap, aq, ar, au, av, rfl, bn, bo, bp⟩ := kFeat.op bl;refine Xa (X3 u33_ Yx A1 a2 n2 c3 (hp4.st aa.st).len r Z bj Z a1) (Xa (Xt ag44 sz44 cL (a2.add (r.toNat * 4)) [vs ((nth s r).Id), vi ((nth s r).Shape.Kind), G ao ap aq, G ar au av] Z Z bm) ?_);refine Xs go77 (F40.calls H aa.ok bn bo bp) Z ?_;rintro _ b3 ⟨r2, ad, ae, af, ag, ah, ai, rfl, H, a3, bq, br, bs, bt, bu⟩;have aw := aa.owns a3 bq br;have bv := ((az.k0 al).k0 a3);refine Yd [vs r2.Id, vi r2.Shape.Kind, G ad ae af, G ag ah ai] bv Z Z sz44 Z Z fun b4 ax bw => ?_;have aj := aw.wr 2 Z ax;refine Xf (vb true) Z (Xb (Xm ?_));have bx := aj.bgv bw 2 Z;have ay := aj.drop 2 Z;have bz := (aj.sd (aw.sw bt 0 2 Z Z Z ax) 0 2 Z Z Z);have b0 := (aj.sd (aw.sw bu 1 2 Z Z Z ax) 1 2 Z Z Z);exact ⟨[.agg #[vs r2.Id, vi r2.Shape.Kind, G ad ae af, G ag ah ai], vb true], ⟨_, _, Z, bx.1.res Z ag44 sz44, ⟨_, Z, Z⟩⟩, r2, true, ad, ae, af, ag, ah, ai, Z, H, ay.gr.g0, ay.ok, ay.ge, bs, bz, b0⟩
end Go.Proofs.YtlaaehjcooonfaaGreatDoor
namespace Go.Proofs
open Go.Shelf
def Tryz.lays317_ren : Go.Shelf.Ren := ⟨fun | 317 => 187 | n => n, fun | 3 => 3 | 46 => 132 | n => n, fun | n => n⟩
theorem Tryz.lays317 : Go.Proofs.Lays.n317 Tryz.prog Tryz.lays317_ren := {
  mixed := by kernel_rfl
  f317 := Tryz.func187.trans (congrArg some (by kernel_rfl))
  t3 := Tryz.underlying3
  a3 := Tryz.isAgg3
  z3 := Tryz.sizeOf3
  v3 := Tryz.zeroValue3
  t46 := Tryz.underlying132
  a46 := Tryz.isAgg132
  z46 := Tryz.sizeOf132
  v46 := Tryz.zeroValue132 }
open Go.Lib in
theorem Tryz.internal_strconv_log10Pow2 (x : Nat) (h : x ≤ 64) (w : World) :
    Calls Tryz.prog 187 #[.int .i64 x] w fun e w' => e = .returned (.int .i64 (Lib.l10 x)) ∧ w' = w := Any.internal_strconv_log10Pow2 Tryz.lays317 x h w
def Tryz.lays318_ren : Go.Shelf.Ren := ⟨fun | 318 => 188 | n => n, fun | 3 => 3 | 4 => 4 | n => n, fun | n => n⟩
theorem Tryz.lays318 : Go.Proofs.Lays.n318 Tryz.prog Tryz.lays318_ren := {
  mixed := by kernel_rfl
  f318 := Tryz.func188.trans (congrArg some (by kernel_rfl))
  t3 := Tryz.underlying3
  a3 := Tryz.isAgg3
  z3 := Tryz.sizeOf3
  v3 := Tryz.zeroValue3
  t4 := Tryz.underlying4
  a4 := Tryz.isAgg4
  z4 := Tryz.sizeOf4
  v4 := Tryz.zeroValue4 }
open Go.Lib in
theorem Tryz.internal_strconv_bool2_int (b : Bool) (w : World) :
    Calls Tryz.prog 188 #[.bool b] w fun e w' => e = .returned (.int .i64 (if b then 1 else 0)) ∧ w' = w := Any.internal_strconv_bool2_int Tryz.lays318 b w
def Tryz.lays283_ren : Go.Shelf.Ren := ⟨fun | 283 => 181 | n => n, fun | 3 => 3 | 9 => 9 | 4 => 4 | n => n, fun | n => n⟩
theorem Tryz.lays283 : Go.Proofs.Lays.n283 Tryz.prog Tryz.lays283_ren := {
  mixed := by kernel_rfl
  f283 := Tryz.func181.trans (congrArg some (by kernel_rfl))
  t3 := Tryz.underlying3
  a3 := Tryz.isAgg3
  z3 := Tryz.sizeOf3
  v3 := Tryz.zeroValue3
  t4 := Tryz.underlying4
  a4 := Tryz.isAgg4
  z4 := Tryz.sizeOf4
  v4 := Tryz.zeroValue4
  t9 := Tryz.underlying9
  a9 := Tryz.isAgg9
  z9 := Tryz.sizeOf9
  v9 := Tryz.zeroValue9 }
open Go.Lib in
theorem Tryz.internal_strconv_small (i : Nat) (h : i < 100) (w : World) :
    Calls Tryz.prog 181 #[.int .i64 i] w fun e w' => e = .returned (.string ⟨(Lib.decDigits i).toArray⟩) ∧ w' = w := Any.internal_strconv_small Tryz.lays283 i h w
def Tryz.laysM284_ren : Go.Shelf.Ren := ⟨fun | 284 => 182 | 129 => 145 | 317 => 187 | 318 => 188 | n => n, fun | 53 => 165 | 3 => 3 | 212 => 202 | 0 => 0 | 4 => 4 | 46 => 132 | 5 => 5 | 9 => 9 | n => n, fun | 17 => 1 | n => n⟩
theorem Tryz.laysM284 : Go.Proofs.LaysM.n284 Tryz.prog Tryz.laysM284_ren := {
  mixed := by kernel_rfl
  f129 := Tryz.func145.trans (congrArg some (by kernel_rfl))
  f284 := Tryz.func182.trans (congrArg some (by kernel_rfl))
  f317 := Tryz.func187.trans (congrArg some (by kernel_rfl))
  f318 := Tryz.func188.trans (congrArg some (by kernel_rfl))
  t0 := Tryz.underlying0
  a0 := Tryz.isAgg0
  z0 := Tryz.sizeOf0
  v0 := Tryz.zeroValue0
  t3 := Tryz.underlying3
  a3 := Tryz.isAgg3
  z3 := Tryz.sizeOf3
  v3 := Tryz.zeroValue3
  t4 := Tryz.underlying4
  a4 := Tryz.isAgg4
  z4 := Tryz.sizeOf4
  v4 := Tryz.zeroValue4
  t5 := Tryz.underlying5
  a5 := Tryz.isAgg5
  z5 := Tryz.sizeOf5
  v5 := Tryz.zeroValue5
  t9 := Tryz.underlying9
  a9 := Tryz.isAgg9
  z9 := Tryz.sizeOf9
  v9 := Tryz.zeroValue9
  t46 := Tryz.underlying132
  a46 := Tryz.isAgg132
  z46 := Tryz.sizeOf132
  v46 := Tryz.zeroValue132
  t53 := Tryz.underlying165
  a53 := Tryz.isAgg165
  z53 := Tryz.sizeOf165
  v53 := Tryz.zeroValue165
  t212 := Tryz.underlying202
  a212 := Tryz.isAgg202
  z212 := Tryz.sizeOf202
  v212 := Tryz.zeroValue202
  g17 := by kernel_rfl
  i0 := by kernel_rfl
  i3 := by kernel_rfl
  i4 := by kernel_rfl
  i5 := by kernel_rfl
  i9 := by kernel_rfl
  i46 := by kernel_rfl
  i53 := by kernel_rfl
  i212 := by kernel_rfl
  m17 := by kernel_rfl }
open Go.Lib in
theorem Tryz.internal_strconv_numDigits (u : Nat) (h1 : 1 ≤ u) (h2 : u < 18446744073709551616) (w : World) (htab : Lib.TabIs Tryz.prog w "internal/strconv.uint64pow10" .u64 Lib.pow10Tab) :
    Calls Tryz.prog 182 #[.int .u64 u] w fun e w' => e = .returned (.int .i64 (Lib.nDigits u)) ∧ w' = w := Any.internal_strconv_numDigits Tryz.laysM284 u h1 h2 w htab
def Tryz.lays285_ren : Go.Shelf.Ren := ⟨fun | 285 => 183 | n => n, fun | 37 => 22 | 53 => 165 | 3 => 3 | 4 => 4 | 51 => 163 | 9 => 9 | 5 => 5 | 0 => 0 | n => n, fun | n => n⟩
theorem Tryz.lays285 : Go.Proofs.Lays.n285 Tryz.prog Tryz.lays285_ren := {
  mixed := by kernel_rfl
  f285 := Tryz.func183.trans (congrArg some (by kernel_rfl))
  t0 := Tryz.underlying0
  a0 := Tryz.isAgg0
  z0 := Tryz.sizeOf0
  v0 := Tryz.zeroValue0
  t3 := Tryz.underlying3
  a3 := Tryz.isAgg3
  z3 := Tryz.sizeOf3
  v3 := Tryz.zeroValue3
  t4 := Tryz.underlying4
  a4 := Tryz.isAgg4
  z4 := Tryz.sizeOf4
  v4 := Tryz.zeroValue4
  t5 := Tryz.underlying5
  a5 := Tryz.isAgg5
  z5 := Tryz.sizeOf5
  v5 := Tryz.zeroValue5
  t9 := Tryz.underlying9
  a9 := Tryz.isAgg9
  z9 := Tryz.sizeOf9
  v9 := Tryz.zeroValue9
  t37 := Tryz.underlying22
  a37 := Tryz.isAgg22
  z37 := Tryz.sizeOf22
  v37 := Tryz.zeroValue22
  t51 := Tryz.underlying163
  a51 := Tryz.isAgg163
  z51 := Tryz.sizeOf163
  v51 := Tryz.zeroValue163
  t53 := Tryz.underlying165
  a53 := Tryz.isAgg165
  z53 := Tryz.sizeOf165
  v53 := Tryz.zeroValue165 }
open Go.RowKit Go.Sort Go.Lib in
theorem Tryz.internal_strconv_formatBase10 (blk off cap : Nat) (u : Nat) (d : Array UInt8) (w : World) (hH : Holds (fun (b : UInt8) => Value.int .u8 (b.toNat : Int)) w blk off d) (hu : u < 10 ^ d.size) (hu64 : u < 18446744073709551616) (hsz : d.size < 4611686018427387904) :
    Calls Tryz.prog 183 #[.slice (some ⟨blk, off, none⟩) d.size cap, .int .u64 u] w fun e w' =>
      e = .returned (.tuple #[]) ∧ ∃ (n v' : Nat) (dk : Array UInt8), w' = (putRow (fun (b : UInt8) => Value.int .u8 (b.toNat : Int)) w blk off dk).drewN n ∧ FmtInv d.size u 0 v' dk := Any.internal_strconv_formatBase10 Tryz.lays285 blk off cap u d w hH hu hu64 hsz
def Tryz.laysM246_ren : Go.Shelf.Ren := ⟨fun | 246 => 174 | 283 => 181 | 284 => 182 | 285 => 183 | 286 => 184 | 129 => 145 | 317 => 187 | 318 => 188 | 319 => 189 | 320 => 190 | 337 => 191 | 338 => 192 | n => n, fun | 2 => 2 | 3 => 3 | 9 => 9 | 4 => 4 | 171 => 196 | 0 => 0 | 53 => 165 | 37 => 22 | 5 => 5 | 173 => 198 | 212 => 202 | 51 => 163 | 20 => 20 | 213 => 203 | 46 => 132 | 232 => 204 | 233 => 205 | n => n, fun | 17 => 1 | 18 => 2 | 19 => 3 | n => n⟩
theorem Tryz.laysM246 : Go.Proofs.LaysM.n246 Tryz.prog Tryz.laysM246_ren := {
  mixed := by kernel_rfl
  f129 := Tryz.func145.trans (congrArg some (by kernel_rfl))
  f246 := Tryz.func174.trans (congrArg some (by kernel_rfl))
  f283 := Tryz.func181.trans (congrArg some (by kernel_rfl))
  f284 := Tryz.func182.trans (congrArg some (by kernel_rfl))
  f285 := Tryz.func183.trans (congrArg some (by kernel_rfl))
  f286 := Tryz.func184.trans (congrArg some (by kernel_rfl))
  f317 := Tryz.func187.trans (congrArg some (by kernel_rfl))
  f318 := Tryz.func188.trans (congrArg some (by kernel_rfl))
  f319 := Tryz.func189.trans (congrArg some (by kernel_rfl))
  f320 := Tryz.func190.trans (congrArg some (by kernel_rfl))
  f337 := Tryz.func191.trans (congrArg some (by kernel_rfl))
  f338 := Tryz.func192.trans (congrArg some (by kernel_rfl))
  t0 := Tryz.underlying0
  a0 := Tryz.isAgg0
  z0 := Tryz.sizeOf0
  v0 := Tryz.zeroValue0
  t2 := Tryz.underlying2
  a2 := Tryz.isAgg2
  z2 := Tryz.sizeOf2
  v2 := Tryz.zeroValue2
  t3 := Tryz.underlying3
  a3 := Tryz.isAgg3
  z3 := Tryz.sizeOf3
  v3 := Tryz.zeroValue3
  t4 := Tryz.underlying4
  a4 := Tryz.isAgg4
  z4 := Tryz.sizeOf4
  v4 := Tryz.zeroValue4
  t5 := Tryz.underlying5
  a5 := Tryz.isAgg5
  z5 := Tryz.sizeOf5
  v5 := Tryz.zeroValue5
  t9 := Tryz.underlying9
  a9 := Tryz.isAgg9
  z9 := Tryz.sizeOf9
  v9 := Tryz.zeroValue9
  t20 := Tryz.underlying20
  a20 := Tryz.isAgg20
  z20 := Tryz.sizeOf20
  v20 := Tryz.zeroValue20
  t37 := Tryz.underlying22
  a37 := Tryz.isAgg22
  z37 := Tryz.sizeOf22
  v37 := Tryz.zeroValue22
  t46 := Tryz.underlying132
  a46 := Tryz.isAgg132
  z46 := Tryz.sizeOf132
  v46 := Tryz.zeroValue132
  t51 := Tryz.underlying163
  a51 := Tryz.isAgg163
  z51 := Tryz.sizeOf163
  v51 := Tryz.zeroValue163
  t53 := Tryz.underlying165
  a53 := Tryz.isAgg165
  z53 := Tryz.sizeOf165
  v53 := Tryz.zeroValue165
  t171 := Tryz.underlying196
  a171 := Tryz.isAgg196
  z171 := Tryz.sizeOf196
  v171 := Tryz.zeroValue196
  t173 := Tryz.underlying198
  a173 := Tryz.isAgg198
  z173 := Tryz.sizeOf198
  v173 := Tryz.zeroValue198
  t212 := Tryz.underlying202
  a212 := Tryz.isAgg202
  z212 := Tryz.sizeOf202
  v212 := Tryz.zeroValue202
  t213 := Tryz.underlying203
  a213 := Tryz.isAgg203
  z213 := Tryz.sizeOf203
  t232 := Tryz.underlying204
  a232 := Tryz.isAgg204
  z232 := Tryz.sizeOf204
  v232 := Tryz.zeroValue204
  t233 := Tryz.underlying205
  a233 := Tryz.isAgg205
  z233 := Tryz.sizeOf205
  v233 := Tryz.zeroValue205
  g17 := by kernel_rfl
  g18 := by kernel_rfl
  g19 := by kernel_rfl
  i0 := by kernel_rfl
  i2 := by kernel_rfl
  i3 := by kernel_rfl
  i4 := by kernel_rfl
  i5 := by kernel_rfl
  i9 := by kernel_rfl
  i20 := by kernel_rfl
  i37 := by kernel_rfl
  i46 := by kernel_rfl
  i51 := by kernel_rfl
  i53 := by kernel_rfl
  i171 := by kernel_rfl
  i173 := by kernel_rfl
  i212 := by kernel_rfl
  i232 := by kernel_rfl
  i233 := by kernel_rfl
  m17 := by kernel_rfl
  m18 := by kernel_rfl
  m19 := by kernel_rfl }
open Go.RowKit Go.Sort Go.Lib in
theorem Tryz.internal_strconv_FormatInt_10 (n : Int) (h0 : -9223372036854775808 ≤ n) (h1 : n ≤ 9223372036854775807) (w : World) (htab : Lib.TabIs Tryz.prog w "internal/strconv.uint64pow10" .u64 Lib.pow10Tab) :
    Calls Tryz.prog 174 #[.int .i64 n, .int .i64 10] w fun e w' => e = .returned (.string ⟨(Lib.itoa n).toArray⟩) ∧ ∃ k os, w' = grow (w.drewN k) os := Any.internal_strconv_FormatInt_10 Tryz.laysM246 n h0 h1 w htab
def Tryz.lays246_ren : Go.Shelf.Ren := ⟨fun | 246 => 174 | 283 => 181 | 284 => 182 | 285 => 183 | 286 => 184 | 129 => 145 | 317 => 187 | 318 => 188 | 319 => 189 | 320 => 190 | 337 => 191 | 338 => 192 | n => n, fun | 2 => 2 | 3 => 3 | 9 => 9 | 4 => 4 | 171 => 196 | 0 => 0 | 53 => 165 | 37 => 22 | 5 => 5 | 173 => 198 | 212 => 202 | 51 => 163 | 20 => 20 | 213 => 203 | 46 => 132 | 232 => 204 | 233 => 205 | n => n, fun | 17 => 1 | 18 => 2 | 19 => 3 | n => n⟩
theorem Tryz.lays246 : Go.Proofs.Lays.n246 Tryz.prog Tryz.lays246_ren := {
  mixed := by kernel_rfl
  f129 := Tryz.func145.trans (congrArg some (by kernel_rfl))
  f246 := Tryz.func174.trans (congrArg some (by kernel_rfl))
  f283 := Tryz.func181.trans (congrArg some (by kernel_rfl))
  f284 := Tryz.func182.trans (congrArg some (by kernel_rfl))
  f285 := Tryz.func183.trans (congrArg some (by kernel_rfl))
  f286 := Tryz.func184.trans (congrArg some (by kernel_rfl))
  f317 := Tryz.func187.trans (congrArg some (by kernel_rfl))
  f318 := Tryz.func188.trans (congrArg some (by kernel_rfl))
  f319 := Tryz.func189.trans (congrArg some (by kernel_rfl))
  f320 := Tryz.func190.trans (congrArg some (by kernel_rfl))
  f337 := Tryz.func191.trans (congrArg some (by kernel_rfl))
  f338 := Tryz.func192.trans (congrArg some (by kernel_rfl))
  t0 := Tryz.underlying0
  a0 := Tryz.isAgg0
  z0 := Tryz.sizeOf0
  v0 := Tryz.zeroValue0
  t2 := Tryz.underlying2
  a2 := Tryz.isAgg2
  z2 := Tryz.sizeOf2
  v2 := Tryz.zeroValue2
  t3 := Tryz.underlying3
  a3 := Tryz.isAgg3
  z3 := Tryz.sizeOf3
  v3 := Tryz.zeroValue3
  t4 := Tryz.underlying4
  a4 := Tryz.isAgg4
  z4 := Tryz.sizeOf4
  v4 := Tryz.zeroValue4
  t5 := Tryz.underlying5
  a5 := Tryz.isAgg5
  z5 := Tryz.sizeOf5
  v5 := Tryz.zeroValue5
  t9 := Tryz.underlying9
  a9 := Tryz.isAgg9
  z9 := Tryz.sizeOf9
  v9 := Tryz.zeroValue9
  t20 := Tryz.underlying20
  a20 := Tryz.isAgg20
  z20 := Tryz.sizeOf20
  v20 := Tryz.zeroValue20
  t37 := Tryz.underlying22
  a37 := Tryz.isAgg22
  z37 := Tryz.sizeOf22
  v37 := Tryz.zeroValue22
  t46 := Tryz.underlying132
  a46 := Tryz.isAgg132
  z46 := Tryz.sizeOf132
  v46 := Tryz.zeroValue132
  t51 := Tryz.underlying163
  a51 := Tryz.isAgg163
  z51 := Tryz.sizeOf163
  v51 := Tryz.zeroValue163
  t53 := Tryz.underlying165
  a53 := Tryz.isAgg165
  z53 := Tryz.sizeOf165
  v53 := Tryz.zeroValue165
  t171 := Tryz.underlying196
  a171 := Tryz.isAgg196
  z171 := Tryz.sizeOf196
  v171 := Tryz.zeroValue196
  t173 := Tryz.underlying198
  a173 := Tryz.isAgg198
  z173 := Tryz.sizeOf198
  v173 := Tryz.zeroValue198
  t212 := Tryz.underlying202
  a212 := Tryz.isAgg202
  z212 := Tryz.sizeOf202
  v212 := Tryz.zeroValue202
  t213 := Tryz.underlying203
  a213 := Tryz.isAgg203
  z213 := Tryz.sizeOf203
  t232 := Tryz.underlying204
  a232 := Tryz.isAgg204
  z232 := Tryz.sizeOf204
  v232 := Tryz.zeroValue204
  t233 := Tryz.underlying205
  a233 := Tryz.isAgg205
  z233 := Tryz.sizeOf205
  v233 := Tryz.zeroValue205
  g17 := by kernel_rfl
  g18 := by kernel_rfl
  g19 := by kernel_rfl }
open Go.RowKit Go.Sort Go.Lib in
theorem Tryz.internal_strconv_FormatInt_10_small (i : Nat) (hi : i < 100) (w : World) :
    Calls Tryz.prog 174 #[.int .i64 i, .int .i64 10] w fun e w' => e = .returned (.string ⟨(Lib.decDigits i).toArray⟩) ∧ w' = w := Any.internal_strconv_FormatInt_10_small Tryz.lays246 i hi w
def Tryz.laysM243_ren : Go.Shelf.Ren := ⟨fun | 243 => 154 | 246 => 174 | 283 => 181 | 284 => 182 | 285 => 183 | 286 => 184 | 129 => 145 | 317 => 187 | 318 => 188 | 319 => 189 | 320 => 190 | 337 => 191 | 338 => 192 | n => n, fun | 3 => 3 | 9 => 9 | 2 => 2 | 4 => 4 | 171 => 196 | 0 => 0 | 53 => 165 | 37 => 22 | 5 => 5 | 173 => 198 | 212 => 202 | 51 => 163 | 20 => 20 | 213 => 203 | 46 => 132 | 232 => 204 | 233 => 205 | n => n, fun | 17 => 1 | 18 => 2 | 19 => 3 | n => n⟩
theorem Tryz.laysM243 : Go.Proofs.LaysM.n243 Tryz.prog Tryz.laysM243_ren := {
  mixed := by kernel_rfl
  f129 := Tryz.func145.trans (congrArg some (by kernel_rfl))
  f243 := Tryz.func154.trans (congrArg some (by kernel_rfl))
  f246 := Tryz.func174.trans (congrArg some (by kernel_rfl))
  f283 := Tryz.func181.trans (congrArg some (by kernel_rfl))
  f284 := Tryz.func182.trans (congrArg some (by kernel_rfl))
  f285 := Tryz.func183.trans (congrArg some (by kernel_rfl))
  f286 := Tryz.func184.trans (congrArg some (by kernel_rfl))
  f317 := Tryz.func187.trans (congrArg some (by kernel_rfl))
  f318 := Tryz.func188.trans (congrArg some (by kernel_rfl))
  f319 := Tryz.func189.trans (congrArg some (by kernel_rfl))
  f320 := Tryz.func190.trans (congrArg some (by kernel_rfl))
  f337 := Tryz.func191.trans (congrArg some (by kernel_rfl))
  f338 := Tryz.func192.trans (congrArg some (by kernel_rfl))
  t0 := Tryz.underlying0
  a0 := Tryz.isAgg0
  z0 := Tryz.sizeOf0
  v0 := Tryz.zeroValue0
  t2 := Tryz.underlying2
  a2 := Tryz.isAgg2
  z2 := Tryz.sizeOf2
  v2 := Tryz.zeroValue2
  t3 := Tryz.underlying3
  a3 := Tryz.isAgg3
  z3 := Tryz.sizeOf3
  v3 := Tryz.zeroValue3
  t4 := Tryz.underlying4
  a4 := Tryz.isAgg4
  z4 := Tryz.sizeOf4
  v4 := Tryz.zeroValue4
  t5 := Tryz.underlying5
  a5 := Tryz.isAgg5
  z5 := Tryz.sizeOf5
  v5 := Tryz.zeroValue5
  t9 := Tryz.underlying9
  a9 := Tryz.isAgg9
  z9 := Tryz.sizeOf9
  v9 := Tryz.zeroValue9
  t20 := Tryz.underlying20
  a20 := Tryz.isAgg20
  z20 := Tryz.sizeOf20
  v20 := Tryz.zeroValue20
  t37 := Tryz.underlying22
  a37 := Tryz.isAgg22
  z37 := Tryz.sizeOf22
  v37 := Tryz.zeroValue22
  t46 := Tryz.underlying132
  a46 := Tryz.isAgg132
  z46 := Tryz.sizeOf132
  v46 := Tryz.zeroValue132
  t51 := Tryz.underlying163
  a51 := Tryz.isAgg163
  z51 := Tryz.sizeOf163
  v51 := Tryz.zeroValue163
  t53 := Tryz.underlying165
  a53 := Tryz.isAgg165
  z53 := Tryz.sizeOf165
  v53 := Tryz.zeroValue165
  t171 := Tryz.underlying196
  a171 := Tryz.isAgg196
  z171 := Tryz.sizeOf196
  v171 := Tryz.zeroValue196
  t173 := Tryz.underlying198
  a173 := Tryz.isAgg198
  z173 := Tryz.sizeOf198
  v173 := Tryz.zeroValue198
  t212 := Tryz.underlying202
  a212 := Tryz.isAgg202
  z212 := Tryz.sizeOf202
  v212 := Tryz.zeroValue202
  t213 := Tryz.underlying203
  a213 := Tryz.isAgg203
  z213 := Tryz.sizeOf203
  t232 := Tryz.underlying204
  a232 := Tryz.isAgg204
  z232 := Tryz.sizeOf204
  v232 := Tryz.zeroValue204
  t233 := Tryz.underlying205
  a233 := Tryz.isAgg205
  z233 := Tryz.sizeOf205
  v233 := Tryz.zeroValue205
  g17 := by kernel_rfl
  g18 := by kernel_rfl
  g19 := by kernel_rfl
  i0 := by kernel_rfl
  i2 := by kernel_rfl
  i3 := by kernel_rfl
  i4 := by kernel_rfl
  i5 := by kernel_rfl
  i9 := by kernel_rfl
  i20 := by kernel_rfl
  i37 := by kernel_rfl
  i46 := by kernel_rfl
  i51 := by kernel_rfl
  i53 := by kernel_rfl
  i171 := by kernel_rfl
  i173 := by kernel_rfl
  i212 := by kernel_rfl
  i232 := by kernel_rfl
  i233 := by kernel_rfl
  m17 := by kernel_rfl
  m18 := by kernel_rfl
  m19 := by kernel_rfl }
open Go.RowKit Go.Sort Go.Lib in
theorem Tryz.internal_strconv_Itoa (n : Int) (h0 : -9223372036854775808 ≤ n) (h1 : n ≤ 9223372036854775807) (w : World) (htab : Lib.TabIs Tryz.prog w "internal/strconv.uint64pow10" .u64 Lib.pow10Tab) :
    Calls Tryz.prog 154 #[.int .i64 n] w fun e w' => e = .returned (.string ⟨(Lib.itoa n).toArray⟩) ∧ ∃ k os, w' = grow (w.drewN k) os := Any.internal_strconv_Itoa Tryz.laysM243 n h0 h1 w htab
def Tryz.lays243_ren : Go.Shelf.Ren := ⟨fun | 243 => 154 | 246 => 174 | 283 => 181 | 284 => 182 | 285 => 183 | 286 => 184 | 129 => 145 | 317 => 187 | 318 => 188 | 319 => 189 | 320 => 190 | 337 => 191 | 338 => 192 | n => n, fun | 3 => 3 | 9 => 9 | 2 => 2 | 4 => 4 | 171 => 196 | 0 => 0 | 53 => 165 | 37 => 22 | 5 => 5 | 173 => 198 | 212 => 202 | 51 => 163 | 20 => 20 | 213 => 203 | 46 => 132 | 232 => 204 | 233 => 205 | n => n, fun | 17 => 1 | 18 => 2 | 19 => 3 | n => n⟩
theorem Tryz.lays243 : Go.Proofs.Lays.n243 Tryz.prog Tryz.lays243_ren := {
  mixed := by kernel_rfl
  f129 := Tryz.func145.trans (congrArg some (by kernel_rfl))
  f243 := Tryz.func154.trans (congrArg some (by kernel_rfl))
  f246 := Tryz.func174.trans (congrArg some (by kernel_rfl))
  f283 := Tryz.func181.trans (congrArg some (by kernel_rfl))
  f284 := Tryz.func182.trans (congrArg some (by kernel_rfl))
  f285 := Tryz.func183.trans (congrArg some (by kernel_rfl))
  f286 := Tryz.func184.trans (congrArg some (by kernel_rfl))
  f317 := Tryz.func187.trans (congrArg some (by kernel_rfl))
  f318 := Tryz.func188.trans (congrArg some (by kernel_rfl))
  f319 := Tryz.func189.trans (congrArg some (by kernel_rfl))
  f320 := Tryz.func190.trans (congrArg some (by kernel_rfl))
  f337 := Tryz.func191.trans (congrArg some (by kernel_rfl))
  f338 := Tryz.func192.trans (congrArg some (by kernel_rfl))
  t0 := Tryz.underlying0
  a0 := Tryz.isAgg0
  z0 := Tryz.sizeOf0
  v0 := Tryz.zeroValue0
  t2 := Tryz.underlying2
  a2 := Tryz.isAgg2
  z2 := Tryz.sizeOf2
  v2 := Tryz.zeroValue2
  t3 := Tryz.underlying3
  a3 := Tryz.isAgg3
  z3 := Tryz.sizeOf3
  v3 := Tryz.zeroValue3
  t4 := Tryz.underlying4
  a4 := Tryz.isAgg4
  z4 := Tryz.sizeOf4
  v4 := Tryz.zeroValue4
  t5 := Tryz.underlying5
  a5 := Tryz.isAgg5
  z5 := Tryz.sizeOf5
  v5 := Tryz.zeroValue5
  t9 := Tryz.underlying9
  a9 := Tryz.isAgg9
  z9 := Tryz.sizeOf9
  v9 := Tryz.zeroValue9
  t20 := Tryz.underlying20
  a20 := Tryz.isAgg20
  z20 := Tryz.sizeOf20
  v20 := Tryz.zeroValue20
  t37 := Tryz.underlying22
  a37 := Tryz.isAgg22
  z37 := Tryz.sizeOf22
  v37 := Tryz.zeroValue22
  t46 := Tryz.underlying132
  a46 := Tryz.isAgg132
  z46 := Tryz.sizeOf132
  v46 := Tryz.zeroValue132
  t51 := Tryz.underlying163
  a51 := Tryz.isAgg163
  z51 := Tryz.sizeOf163
  v51 := Tryz.zeroValue163
  t53 := Tryz.underlying165
  a53 := Tryz.isAgg165
  z53 := Tryz.sizeOf165
  v53 := Tryz.zeroValue165
  t171 := Tryz.underlying196
  a171 := Tryz.isAgg196
  z171 := Tryz.sizeOf196
  v171 := Tryz.zeroValue196
  t173 := Tryz.underlying198
  a173 := Tryz.isAgg198
  z173 := Tryz.sizeOf198
  v173 := Tryz.zeroValue198
  t212 := Tryz.underlying202
  a212 := Tryz.isAgg202
  z212 := Tryz.sizeOf202
  v212 := Tryz.zeroValue202
  t213 := Tryz.underlying203
  a213 := Tryz.isAgg203
  z213 := Tryz.sizeOf203
  t232 := Tryz.underlying204
  a232 := Tryz.isAgg204
  z232 := Tryz.sizeOf204
  v232 := Tryz.zeroValue204
  t233 := Tryz.underlying205
  a233 := Tryz.isAgg205
  z233 := Tryz.sizeOf205
  v233 := Tryz.zeroValue205
  g17 := by kernel_rfl
  g18 := by kernel_rfl
  g19 := by kernel_rfl }
open Go.RowKit Go.Sort Go.Lib in
theorem Tryz.internal_strconv_Itoa_small (i : Nat) (hi : i < 100) (w : World) :
    Calls Tryz.prog 154 #[.int .i64 i] w fun e w' => e = .returned (.string ⟨(Lib.decDigits i).toArray⟩) ∧ w' = w := Any.internal_strconv_Itoa_small Tryz.lays243 i hi w
def Tryz.laysM171_ren : Go.Shelf.Ren := ⟨fun | 171 => 126 | 243 => 154 | 246 => 174 | 283 => 181 | 284 => 182 | 285 => 183 | 286 => 184 | 129 => 145 | 317 => 187 | 318 => 188 | 319 => 189 | 320 => 190 | 337 => 191 | 338 => 192 | n => n, fun | 3 => 3 | 9 => 9 | 2 => 2 | 4 => 4 | 171 => 196 | 0 => 0 | 53 => 165 | 37 => 22 | 5 => 5 | 173 => 198 | 212 => 202 | 51 => 163 | 20 => 20 | 213 => 203 | 46 => 132 | 232 => 204 | 233 => 205 | n => n, fun | 17 => 1 | 18 => 2 | 19 => 3 | n => n⟩
theorem Tryz.laysM171 : Go.Proofs.LaysM.n171 Tryz.prog Tryz.laysM171_ren := {
  mixed := by kernel_rfl
  f129 := Tryz.func145.trans (congrArg some (by kernel_rfl))
  f171 := Tryz.func126.trans (congrArg some (by kernel_rfl))
  f243 := Tryz.func154.trans (congrArg some (by kernel_rfl))
  f246 := Tryz.func174.trans (congrArg some (by kernel_rfl))
  f283 := Tryz.func181.trans (congrArg some (by kernel_rfl))
  f284 := Tryz.func182.trans (congrArg some (by kernel_rfl))
  f285 := Tryz.func183.trans (congrArg some (by kernel_rfl))
  f286 := Tryz.func184.trans (congrArg some (by kernel_rfl))
  f317 := Tryz.func187.trans (congrArg some (by kernel_rfl))
  f318 := Tryz.func188.trans (congrArg some (by kernel_rfl))
  f319 := Tryz.func189.trans (congrArg some (by kernel_rfl))
  f320 := Tryz.func190.trans (congrArg some (by kernel_rfl))
  f337 := Tryz.func191.trans (congrArg some (by kernel_rfl))
  f338 := Tryz.func192.trans (congrArg some (by kernel_rfl))
  t0 := Tryz.underlying0
  a0 := Tryz.isAgg0
  z0 := Tryz.sizeOf0
  v0 := Tryz.zeroValue0
  t2 := Tryz.underlying2
  a2 := Tryz.isAgg2
  z2 := Tryz.sizeOf2
  v2 := Tryz.zeroValue2
  t3 := Tryz.underlying3
  a3 := Tryz.isAgg3
  z3 := Tryz.sizeOf3
  v3 := Tryz.zeroValue3
  t4 := Tryz.underlying4
  a4 := Tryz.isAgg4
  z4 := Tryz.sizeOf4
  v4 := Tryz.zeroValue4
  t5 := Tryz.underlying5
  a5 := Tryz.isAgg5
  z5 := Tryz.sizeOf5
  v5 := Tryz.zeroValue5
  t9 := Tryz.underlying9
  a9 := Tryz.isAgg9
  z9 := Tryz.sizeOf9
  v9 := Tryz.zeroValue9
  t20 := Tryz.underlying20
  a20 := Tryz.isAgg20
  z20 := Tryz.sizeOf20
  v20 := Tryz.zeroValue20
  t37 := Tryz.underlying22
  a37 := Tryz.isAgg22
  z37 := Tryz.sizeOf22
  v37 := Tryz.zeroValue22
  t46 := Tryz.underlying132
  a46 := Tryz.isAgg132
  z46 := Tryz.sizeOf132
  v46 := Tryz.zeroValue132
  t51 := Tryz.underlying163
  a51 := Tryz.isAgg163
  z51 := Tryz.sizeOf163
  v51 := Tryz.zeroValue163
  t53 := Tryz.underlying165
  a53 := Tryz.isAgg165
  z53 := Tryz.sizeOf165
  v53 := Tryz.zeroValue165
  t171 := Tryz.underlying196
  a171 := Tryz.isAgg196
  z171 := Tryz.sizeOf196
  v171 := Tryz.zeroValue196
  t173 := Tryz.underlying198
  a173 := Tryz.isAgg198
  z173 := Tryz.sizeOf198
  v173 := Tryz.zeroValue198
  t212 := Tryz.underlying202
  a212 := Tryz.isAgg202
  z212 := Tryz.sizeOf202
  v212 := Tryz.zeroValue202
  t213 := Tryz.underlying203
  a213 := Tryz.isAgg203
  z213 := Tryz.sizeOf203
  t232 := Tryz.underlying204
  a232 := Tryz.isAgg204
  z232 := Tryz.sizeOf204
  v232 := Tryz.zeroValue204
  t233 := Tryz.underlying205
  a233 := Tryz.isAgg205
  z233 := Tryz.sizeOf205
  v233 := Tryz.zeroValue205
  g17 := by kernel_rfl
  g18 := by kernel_rfl
  g19 := by kernel_rfl
  i0 := by kernel_rfl
  i2 := by kernel_rfl
  i3 := by kernel_rfl
  i4 := by kernel_rfl
  i5 := by kernel_rfl
  i9 := by kernel_rfl
  i20 := by kernel_rfl
  i37 := by kernel_rfl
  i46 := by kernel_rfl
  i51 := by kernel_rfl
  i53 := by kernel_rfl
  i171 := by kernel_rfl
  i173 := by kernel_rfl
  i212 := by kernel_rfl
  i232 := by kernel_rfl
  i233 := by kernel_rfl
  m17 := by kernel_rfl
  m18 := by kernel_rfl
  m19 := by kernel_rfl }
open Go.RowKit Go.Sort Go.Lib in
theorem Tryz.strconv_Itoa (n : Int) (h0 : -9223372036854775808 ≤ n) (h1 : n ≤ 9223372036854775807) (w : World) (htab : Lib.TabIs Tryz.prog w "internal/strconv.uint64pow10" .u64 Lib.pow10Tab) :
    Calls Tryz.prog 126 #[.int .i64 n] w fun e w' => e = .returned (.string ⟨(Lib.itoa n).toArray⟩) ∧ ∃ k os, w' = grow (w.drewN k) os := Any.strconv_Itoa Tryz.laysM171 n h0 h1 w htab
def Tryz.lays171_ren : Go.Shelf.Ren := ⟨fun | 171 => 126 | 243 => 154 | 246 => 174 | 283 => 181 | 284 => 182 | 285 => 183 | 286 => 184 | 129 => 145 | 317 => 187 | 318 => 188 | 319 => 189 | 320 => 190 | 337 => 191 | 338 => 192 | n => n, fun | 3 => 3 | 9 => 9 | 2 => 2 | 4 => 4 | 171 => 196 | 0 => 0 | 53 => 165 | 37 => 22 | 5 => 5 | 173 => 198 | 212 => 202 | 51 => 163 | 20 => 20 | 213 => 203 | 46 => 132 | 232 => 204 | 233 => 205 | n => n, fun | 17 => 1 | 18 => 2 | 19 => 3 | n => n⟩
theorem Tryz.lays171 : Go.Proofs.Lays.n171 Tryz.prog Tryz.lays171_ren := {
  mixed := by kernel_rfl
  f129 := Tryz.func145.trans (congrArg some (by kernel_rfl))
  f171 := Tryz.func126.trans (congrArg some (by kernel_rfl))
  f243 := Tryz.func154.trans (congrArg some (by kernel_rfl))
  f246 := Tryz.func174.trans (congrArg some (by kernel_rfl))
  f283 := Tryz.func181.trans (congrArg some (by kernel_rfl))
  f284 := Tryz.func182.trans (congrArg some (by kernel_rfl))
  f285 := Tryz.func183.trans (congrArg some (by kernel_rfl))
  f286 := Tryz.func184.trans (congrArg some (by kernel_rfl))
  f317 := Tryz.func187.trans (congrArg some (by kernel_rfl))
  f318 := Tryz.func188.trans (congrArg some (by kernel_rfl))
  f319 := Tryz.func189.trans (congrArg some (by kernel_rfl))
  f320 := Tryz.func190.trans (congrArg some (by kernel_rfl))
  f337 := Tryz.func191.trans (congrArg some (by kernel_rfl))
  f338 := Tryz.func192.trans (congrArg some (by kernel_rfl))
  t0 := Tryz.underlying0
  a0 := Tryz.isAgg0
  z0 := Tryz.sizeOf0
  v0 := Tryz.zeroValue0
  t2 := Tryz.underlying2
  a2 := Tryz.isAgg2
  z2 := Tryz.sizeOf2
  v2 := Tryz.zeroValue2
  t3 := Tryz.underlying3
  a3 := Tryz.isAgg3
  z3 := Tryz.sizeOf3
  v3 := Tryz.zeroValue3
  t4 := Tryz.underlying4
  a4 := Tryz.isAgg4
  z4 := Tryz.sizeOf4
  v4 := Tryz.zeroValue4
  t5 := Tryz.underlying5
  a5 := Tryz.isAgg5
  z5 := Tryz.sizeOf5
  v5 := Tryz.zeroValue5
  t9 := Tryz.underlying9
  a9 := Tryz.isAgg9
  z9 := Tryz.sizeOf9
  v9 := Tryz.zeroValue9
  t20 := Tryz.underlying20
  a20 := Tryz.isAgg20
  z20 := Tryz.sizeOf20
  v20 := Tryz.zeroValue20
  t37 := Tryz.underlying22
  a37 := Tryz.isAgg22
  z37 := Tryz.sizeOf22
  v37 := Tryz.zeroValue22
  t46 := Tryz.underlying132
  a46 := Tryz.isAgg132
  z46 := Tryz.sizeOf132
  v46 := Tryz.zeroValue132
  t51 := Tryz.underlying163
  a51 := Tryz.isAgg163
  z51 := Tryz.sizeOf163
  v51 := Tryz.zeroValue163
  t53 := Tryz.underlying165
  a53 := Tryz.isAgg165
  z53 := Tryz.sizeOf165
  v53 := Tryz.zeroValue165
  t171 := Tryz.underlying196
  a171 := Tryz.isAgg196
  z171 := Tryz.sizeOf196
  v171 := Tryz.zeroValue196
  t173 := Tryz.underlying198
  a173 := Tryz.isAgg198
  z173 := Tryz.sizeOf198
  v173 := Tryz.zeroValue198
  t212 := Tryz.underlying202
  a212 := Tryz.isAgg202
  z212 := Tryz.sizeOf202
  v212 := Tryz.zeroValue202
  t213 := Tryz.underlying203
  a213 := Tryz.isAgg203
  z213 := Tryz.sizeOf203
  t232 := Tryz.underlying204
  a232 := Tryz.isAgg204
  z232 := Tryz.sizeOf204
  v232 := Tryz.zeroValue204
  t233 := Tryz.underlying205
  a233 := Tryz.isAgg205
  z233 := Tryz.sizeOf205
  v233 := Tryz.zeroValue205
  g17 := by kernel_rfl
  g18 := by kernel_rfl
  g19 := by kernel_rfl }
open Go.RowKit Go.Sort Go.Lib in
theorem Tryz.strconv_Itoa_small (i : Nat) (hi : i < 100) (w : World) :
    Calls Tryz.prog 126 #[.int .i64 i] w fun e w' => e = .returned (.string ⟨(Lib.decDigits i).toArray⟩) ∧ w' = w := Any.strconv_Itoa_small Tryz.lays171 i hi w
def Tryz.lays190_ren : Go.Shelf.Ren := ⟨fun | 190 => 55 | 125 => 110 | 258 => 109 | 128 => 144 | 129 => 145 | 302 => 135 | 303 => 136 | 304 => 137 | 305 => 138 | 306 => 139 | 307 => 140 | 308 => 141 | 309 => 142 | 310 => 143 | 333 => 166 | 329 => 167 | 330 => 168 | 334 => 169 | 335 => 170 | 336 => 130 | 344 => 178 | n => n, fun | 31 => 50 | 9 => 9 | 3 => 3 | 46 => 132 | 0 => 0 | 51 => 163 | 53 => 165 | 4 => 4 | 183 => 155 | 182 => 154 | 131 => 160 | 5 => 5 | 218 => 183 | 222 => 187 | 228 => 192 | 229 => 193 | n => n, fun | n => n⟩
theorem Tryz.lays190 : Go.Proofs.Lays.n190 Tryz.prog Tryz.lays190_ren := {
  mixed := by kernel_rfl
  f125 := Tryz.func110.trans (congrArg some (by kernel_rfl))
  f128 := Tryz.func144.trans (congrArg some (by kernel_rfl))
  f129 := Tryz.func145.trans (congrArg some (by kernel_rfl))
  f190 := Tryz.func55.trans (congrArg some (by kernel_rfl))
  f258 := Tryz.func109.trans (congrArg some (by kernel_rfl))
  f302 := Tryz.func135.trans (congrArg some (by kernel_rfl))
  f303 := Tryz.func136.trans (congrArg some (by kernel_rfl))
  f304 := Tryz.func137.trans (congrArg some (by kernel_rfl))
  f305 := Tryz.func138.trans (congrArg some (by kernel_rfl))
  f306 := Tryz.func139.trans (congrArg some (by kernel_rfl))
  f307 := Tryz.func140.trans (congrArg some (by kernel_rfl))
  f308 := Tryz.func141.trans (congrArg some (by kernel_rfl))
  f309 := Tryz.func142.trans (congrArg some (by kernel_rfl))
  f310 := Tryz.func143.trans (congrArg some (by kernel_rfl))
  f329 := Tryz.func167.trans (congrArg some (by kernel_rfl))
  f330 := Tryz.func168.trans (congrArg some (by kernel_rfl))
  f333 := Tryz.func166.trans (congrArg some (by kernel_rfl))
  f334 := Tryz.func169.trans (congrArg some (by kernel_rfl))
  f335 := Tryz.func170.trans (congrArg some (by kernel_rfl))
  f336 := Tryz.func130.trans (congrArg some (by kernel_rfl))
  f344 := Tryz.func178.trans (congrArg some (by kernel_rfl))
  t0 := Tryz.underlying0
  a0 := Tryz.isAgg0
  z0 := Tryz.sizeOf0
  v0 := Tryz.zeroValue0
  t3 := Tryz.underlying3
  a3 := Tryz.isAgg3
  z3 := Tryz.sizeOf3
  v3 := Tryz.zeroValue3
  t4 := Tryz.underlying4
  a4 := Tryz.isAgg4
  z4 := Tryz.sizeOf4
  v4 := Tryz.zeroValue4
  t5 := Tryz.underlying5
  a5 := Tryz.isAgg5
  z5 := Tryz.sizeOf5
  v5 := Tryz.zeroValue5
  t9 := Tryz.underlying9
  a9 := Tryz.isAgg9
  z9 := Tryz.sizeOf9
  v9 := Tryz.zeroValue9
  t31 := Tryz.underlying50
  a31 := Tryz.isAgg50
  z31 := Tryz.sizeOf50
  v31 := Tryz.zeroValue50
  t46 := Tryz.underlying132
  a46 := Tryz.isAgg132
  z46 := Tryz.sizeOf132
  v46 := Tryz.zeroValue132
  t51 := Tryz.underlying163
  a51 := Tryz.isAgg163
  z51 := Tryz.sizeOf163
  v51 := Tryz.zeroValue163
  t53 := Tryz.underlying165
  a53 := Tryz.isAgg165
  z53 := Tryz.sizeOf165
  v53 := Tryz.zeroValue165
  t131 := Tryz.underlying160
  a131 := Tryz.isAgg160
  z131 := Tryz.sizeOf160
  v131 := Tryz.zeroValue160
  t182 := Tryz.underlying154
  a182 := Tryz.isAgg154
  z182 := Tryz.sizeOf154
  v182 := Tryz.zeroValue154
  t183 := Tryz.underlying155
  a183 := Tryz.isAgg155
  z183 := Tryz.sizeOf155
  v183 := Tryz.zeroValue155
  t218 := Tryz.underlying183
  a218 := Tryz.isAgg183
  z218 := Tryz.sizeOf183
  v218 := Tryz.zeroValue183
  t222 := Tryz.underlying187
  a222 := Tryz.isAgg187
  z222 := Tryz.sizeOf187
  v222 := Tryz.zeroValue187
  t228 := Tryz.underlying192
  a228 := Tryz.isAgg192
  z228 := Tryz.sizeOf192
  v228 := Tryz.zeroValue192
  t229 := Tryz.underlying193
  a229 := Tryz.isAgg193
  z229 := Tryz.sizeOf193
  v229 := Tryz.zeroValue193 }
open Go.Sort Go.RowKit in
theorem Tryz.slices_Sort_string (blk off cap : Nat) (ss : List (List UInt8)) (w : World) (hH : Holds encStr w blk off ss.toArray) (hblk : blk < w.heap.size) (hsz : ss.length < 4611686018427387904) :
    Calls Tryz.prog 55 #[.slice (some ⟨blk, off, none⟩) ss.length cap] w fun e w' =>
      e = .returned (.tuple #[]) ∧ ∃ n os, w' = grow (putRow encStr (Sort.ahead w n) blk off (ss.mergeSort fun x y => decide (x ≤ y)).toArray) os := Any.slices_Sort_string Tryz.lays190 blk off cap ss w hH hblk hsz
def Tryz.lays194_ren : Go.Shelf.Ren := ⟨fun | 194 => 56 | n => n, fun | 31 => 50 | 9 => 9 | 3 => 3 | 4 => 4 | 0 => 0 | n => n, fun | n => n⟩
theorem Tryz.lays194 : Go.Proofs.Lays.n194 Tryz.prog Tryz.lays194_ren := {
  mixed := by kernel_rfl
  f194 := Tryz.func56.trans (congrArg some (by kernel_rfl))
  t0 := Tryz.underlying0
  a0 := Tryz.isAgg0
  z0 := Tryz.sizeOf0
  v0 := Tryz.zeroValue0
  t3 := Tryz.underlying3
  a3 := Tryz.isAgg3
  z3 := Tryz.sizeOf3
  v3 := Tryz.zeroValue3
  t4 := Tryz.underlying4
  a4 := Tryz.isAgg4
  z4 := Tryz.sizeOf4
  v4 := Tryz.zeroValue4
  t9 := Tryz.underlying9
  a9 := Tryz.isAgg9
  z9 := Tryz.sizeOf9
  v9 := Tryz.zeroValue9
  t31 := Tryz.underlying50
  a31 := Tryz.isAgg50
  z31 := Tryz.sizeOf50
  v31 := Tryz.zeroValue50 }
open Go.RowKit Go.Lib Go.Sort in
theorem Tryz.slices_Compact_string_arr (blk off cap : Nat) (d : Array (List UInt8)) (w : World) (hH : Holds encStr w blk off d) (hsz : d.size ≤ 9223372036854775807) (hcap : d.size ≤ cap) :
    Calls Tryz.prog 56 #[.slice (some ⟨blk, off, none⟩) d.size cap] w fun e w' => e = .returned (.slice (some ⟨blk, off, none⟩) (compactUpTo d d.size).length cap) ∧ ∃ q, w' = putRow encStr (Sort.ahead w q) blk off (compactUpTo d d.size ++ List.replicate (d.size - (compactUpTo d d.size).length) []).toArray := Any.slices_Compact_string_arr Tryz.lays194 blk off cap d w hH hsz hcap
open Go.RowKit Go.Lib Go.Sort in
theorem Tryz.slices_Compact_string (blk off cap : Nat) (zs : List (List UInt8)) (w : World) (hH : Holds encStr w blk off zs.toArray) (hsz : zs.length ≤ 9223372036854775807) (hcap : zs.length ≤ cap) :
    Calls Tryz.prog 56 #[.slice (some ⟨blk, off, none⟩) zs.length cap] w fun e w' => e = .returned (.slice (some ⟨blk, off, none⟩) (Lib.compact zs).length cap) ∧ ∃ q, w' = putRow encStr (Sort.ahead w q) blk off (Lib.compact zs ++ List.replicate (zs.length - (Lib.compact zs).length) []).toArray := Any.slices_Compact_string Tryz.lays194 blk off cap zs w hH hsz hcap
open Go.RowKit Go.Lib Go.Sort in
theorem Tryz.slices_Compact_string_empty (a : Option Addr) (cap : Nat) (w : World) :
    Calls Tryz.prog 56 #[.slice a 0 cap] w fun e w' => e = .returned (.slice a 0 cap) ∧ w' = w := Any.slices_Compact_string_empty Tryz.lays194 a cap w
open Go.RowKit Go.Lib Go.Sort in
theorem Tryz.slices_Compact_string_cells (b off n c : Nat) (Sx : Nat → ByteArray) (w : World) (hbig : n ≤ 9223372036854775807) (hcap : n ≤ c) (hc : ∀ i, i < n → w.cell? ⟨b, off + i, none⟩ = some (.string (Sx i))) (hf : ∀ j, j < n → w.frozen? ⟨b, off + j, none⟩ = false) :
    Calls Tryz.prog 56 #[.slice (some ⟨b, off, none⟩) n c] w fun e w' => e = .returned (.slice (some ⟨b, off, none⟩) (Lib.compact (Lib.strsOf Sx n)).length c) ∧ ∃ q, w' = (w.drewN q).setCells b off ((Lib.compact (Lib.strsOf Sx n) ++ List.replicate (n - (Lib.compact (Lib.strsOf Sx n)).length) []).map encStr) := Any.slices_Compact_string_cells Tryz.lays194 b off n c Sx w hbig hcap hc hf
open Go.RowKit Go.Sort in
theorem Tryz.slices_Sort_string_none (p : Option Addr) (cap : Nat) (w : World) :
    Calls Tryz.prog 55 #[.slice p 0 cap] w fun e w' => e = .returned (.tuple #[]) ∧ w' = w := Any.slices_Sort_string_none Tryz.lays190 p cap w
end Go.Proofs
namespace Go.Proofs.YtlaaehjcooonfaaGreatDoor
set_option linter.unusedVariables false
set_option linter.unusedSimpArgs false
set_option linter.unusedSectionVars false
set_option maxHeartbeats 8000000
set_option maxRecDepth 100000
open Go.RowKit
variable {O : Ob} {w0 : World}
section
open Go.RowKit Go.Shelf Go.Sort Go.Lib
theorem strs_arr {w : World} {S : Sp} : ∀ {xs : List Str} {cs : List Value}, Arr Kd.str w S xs cs → cs = xs.map vs ∧ ∀ x ∈ xs, Lim x
 | [], _, h => ⟨h, fun x hx => by cases hx⟩
 | x :: xs, _, ⟨c1, c2, e, h1, h2⟩ => by
  obtain ⟨e2, h3⟩ := strs_arr h2
  refine ⟨by rw [e, h1.1, e2]; rfl, fun y hy => ?_⟩
  rcases List.mem_cons.1 hy with rfl | hy
  ·exact h1.2
  ·exact h3 y hy
theorem arr_strs {w : World} {S : Sp} : ∀ {xs : List Str}, (∀ x ∈ xs, Lim x) → Arr Kd.str w S xs (xs.map vs)
 | [], _ => rfl
 | x :: xs, h => ⟨[vs x], xs.map vs, rfl, ⟨rfl, h x List.mem_cons_self⟩, arr_strs fun y hy => h y (List.mem_cons_of_mem _ hy)⟩
theorem heap_put (w : World) (q g : Nat) (ys : List Str) (os : Array Obj) (b : Nat) (hb : b < w.heap.size) (hne : b ≠ g) : (grow (putRow encStr (Sort.ahead w q) g 0 ys.toArray) os).heap[b]? = w.heap[b]? := by
 have h1 : (w.heap.modify g (onCells (putCells encStr 0 ys.toArray))).size = w.heap.size := Array.size_modify
 simp only [grow, putRow, mapBlock, Sort.ahead]
 rw [Array.getElem?_append_left (by rw [h1]; exact hb), Array.getElem?_modify, if_neg (fun e => hne e.symm)]
theorem Ow.putS {e : TypeId} {w : World} {O : Ob} {g n c : Nat} {xs : List Str} (h : Ow Kd.str e w O (.slice (some ⟨g, 0, none⟩) n c) xs) (ys : List Str) (hl : ys.length = xs.length) (hy : ∀ y ∈ ys, Lim y) (q : Nat) (os : Array Obj) (hx : 0 < xs.length) :
  Gr w (grow (putRow encStr (Sort.ahead w q) g 0 ys.toArray) os) (some g) ∧ Ow Kd.str e (grow (putRow encStr (Sort.ahead w q) g 0 ys.toArray) os) O (.slice (some ⟨g, 0, none⟩) n c) ys := by
 have hgl := h.ltb g rfl
 have h1 : (w.heap.modify g (onCells (putCells encStr 0 ys.toArray))).size = w.heap.size := Array.size_modify
 refine ⟨⟨rfl, rfl, rfl, ?_, fun b hb hn => heap_put w q g ys os b hb fun e => hn (by rw [e])⟩, ?_⟩
 ·simp only [grow, putRow, mapBlock, Sort.ahead, Array.size_append, h1]; omega
 obtain ⟨cells, o1, o2, o3⟩ := h
 rcases o1.2 with ⟨_, e'⟩ | ⟨g', cap, cur, ev, h0, hg, hle, hmx, hcur, htake⟩
 ·omega
 ·cases ev
  have hk : Kd.str.sz = 1 := rfl
  refine ⟨ys.map vs, ⟨by rw [List.length_map, hk, Nat.mul_one], .inr ⟨g, c, putCells encStr 0 ys.toArray cur, by rw [hl], h0, ?_, by rw [hl]; exact hle, hmx, ?_, ?_⟩⟩, arr_strs hy, o3⟩
  ·simp only [grow, putRow, mapBlock, Sort.ahead]
   rw [Array.getElem?_append_left (by rw [h1]; exact hgl), Array.getElem?_modify, if_pos rfl, hg]; rfl
  ·rw [putCells, Array.size_mapIdx]; exact hcur
  ·rw [hk, Nat.mul_one]
   have hc1 : xs.length ≤ cur.size := by rw [hcur, hk, Nat.mul_one]; exact hle
   apply List.ext_getElem?
   intro j
   rw [List.getElem?_take, List.getElem?_map]
   by_cases hj : j < ys.length
   ·rw [if_pos hj, putCells, Array.getElem?_toList, Array.getElem?_mapIdx, Array.getElem?_eq_getElem OM, List.getElem?_eq_getElem hj]
    simp only [Option.map_some, Nat.zero_le, true_and, Nat.zero_add, List.size_toArray, hj, if_true, Nat.sub_zero]
    simp [hj]
   ·rw [if_neg hj, List.getElem?_eq_none OM]; rfl
theorem Ow.holds {e : TypeId} {w : World} {O : Ob} {g n c : Nat} {xs : List Str} (h : Ow Kd.str e w O (.slice (some ⟨g, 0, none⟩) n c) xs) : Holds encStr w g 0 xs.toArray := by
 obtain ⟨cells, o1, o2, o3⟩ := h
 obtain ⟨e2, _⟩ := strs_arr o2
 intro j hj
 simp only [List.size_toArray] at hj
 rcases o1.2 with ⟨_, e'⟩ | ⟨g', cap, cur, ev, h0, hg, hle, hmx, hcur, htake⟩
 ·omega
 ·cases ev
  have hc := World.ownsRow.cells o1 (g := g) rfl j (vs xs[j]) (by rw [e2]; simp [hj])
  have ha : (⟨g, 0, none⟩ : Addr).add j = ⟨g, 0 + j, none⟩ := by unfold Addr.add; split <;> simp_all
  rw [ha] at hc
  refine ⟨by rw [hc]; simp [hj], ?_⟩
  simp [World.frozen?, hg]
def sortS (xs : List Str) : List Str := xs.mergeSort fun x y => decide (x ≤ y)
theorem Ow.form {e : TypeId} {w : World} {O : Ob} {A : Option Addr} {n c : Nat} {xs : List Str} (h : Ow Kd.str e w O (.slice A n c) xs) (hx : 0 < xs.length) : ∃ g, A = some ⟨g, 0, none⟩ ∧ n = xs.length ∧ xs.length ≤ c ∧ g < w.heap.size := by
 obtain ⟨cells, o1, o2, o3⟩ := h
 rcases o1.2 with ⟨_, e'⟩ | ⟨g', cap, cur, ev, h0, hg, hle, hmx, hcur, htake⟩
 ·omega
 ·cases ev; exact ⟨g', rfl, rfl, hle, (Array.getElem?_eq_some_iff.1 hg).1⟩
theorem Ow.lims {e : TypeId} {w : World} {O : Ob} {v : Value} {xs : List Str} (h : Ow Kd.str e w O v xs) : ∀ x ∈ xs, Lim x := by
 obtain ⟨cells, o1, o2, o3⟩ := h
 exact (strs_arr o2).2
theorem compact_le (x : List Str) : (Lib.compact x).length ≤ x.length := by
 unfold Lib.compact Lib.compactUpTo
 rw [List.length_map]
 exact Nat.le_trans (List.length_filter_le _ _) (by rw [List.length_range]; exact Nat.le_refl _)
theorem compact_mem {x : List Str} {y : Str} (h : y ∈ Lib.compact x) : y ∈ x := by
 unfold Lib.compact Lib.compactUpTo at h
 obtain ⟨j, hj, rfl⟩ := List.mem_map.1 h
 have hl : j < x.length := List.mem_range.1 (List.mem_filter.1 hj).1
 simp [hl]
end
section
open Go.RowKit Go.Shelf Go.Sort Go.Lib
section
variable {β : Type} {kd : Kd β} {w : World} {S : Sp} {e : TypeId} {O : Ob}
theorem Arr.pairs : ∀ {xs : List β} {cells : List Value}, Arr kd w S xs cells → ∃ ps : List (β × List Value), ps.map (·.1) = xs ∧ cells = (ps.map (·.2)).flatten ∧ ∀ p ∈ ps, kd.R w S p.1 p.2
 | [], _, h => ⟨[], rfl, h, fun p hp => by cases hp⟩
 | x :: xs, _, ⟨c1, c2, e, h1, h2⟩ => by
  obtain ⟨ps, e1, e2, h3⟩ := Arr.pairs h2
  refine ⟨(x, c1) :: ps, by simp [e1], by simp [e, e2], fun p hp => ?_⟩
  rcases List.mem_cons.1 hp with rfl | hp
  ·exact h1
  ·exact h3 p hp
theorem Arr.ofPairs : ∀ {ps : List (β × List Value)}, (∀ p ∈ ps, kd.R w S p.1 p.2) → Arr kd w S (ps.map (·.1)) (ps.map (·.2)).flatten
 | [], _ => rfl
 | p :: ps, h => ⟨p.2, _, by simp, h p List.mem_cons_self, Arr.ofPairs fun q hq => h q (List.mem_cons_of_mem _ hq)⟩
abbrev KE (kd : Kd β) (key : β → Str) : Type := { p : β × List Value // p.2.length = kd.sz ∧ (∀ v ∈ p.2, v.oneCell' = true) ∧ p.2[0]? = some (vs (key p.1)) }
def KE.cs {key : β → Str} (x : KE kd key) : List Value := x.1.2
theorem flat_len {key : β → Str} : ∀ l : List (KE kd key), ((l.map KE.cs).flatten).length = l.length * kd.sz
 | [] => by simp
 | x :: l => by simp only [List.map_cons, List.flatten_cons, List.length_append, List.length_cons]; rw [flat_len l, Nat.add_mul, Nat.one_mul, KE.cs, x.2.1]; omega
theorem flat_get {key : β → Str} (hk : 0 < kd.sz) : ∀ (l : List (KE kd key)) (t : Nat), t < l.length * kd.sz → ((l.map KE.cs).flatten)[t]? = (l[t / kd.sz]?).bind fun x => x.cs[t % kd.sz]?
 | [], t, h => by simp at h
 | x :: l, t, h => by
  rw [List.map_cons, List.flatten_cons]
  have hx : x.cs.length = kd.sz := x.2.1
  by_cases ht : t < kd.sz
  ·rw [List.getElem?_append_left OM, Nat.div_eq_of_lt ht, Nat.mod_eq_of_lt ht]; rfl
  ·rw [List.getElem?_append_right OM, hx, flat_get hk l (t - kd.sz) (by rw [List.length_cons, Nat.add_mul, Nat.one_mul] at h; omega)]
   have e1 : t / kd.sz = (t - kd.sz) / kd.sz + 1 := by rw [← Nat.add_div_right _ hk, Nat.sub_add_cancel OM]
   have e2 : t % kd.sz = (t - kd.sz) % kd.sz := by conv => lhs; rw [← Nat.sub_add_cancel (Nat.le_of_not_lt ht), Nat.add_mod_right]
   rw [e1, e2, List.getElem?_cons_succ]
theorem flatK_list {key : β → Str} [Inhabited (KE kd key)] (hk : 0 < kd.sz) (d : Array (KE kd key)) : (flatK KE.cs kd.sz d).toList = (d.toList.map KE.cs).flatten := by
 apply List.ext_getElem?
 intro t
 by_cases ht : t < d.size * kd.sz
 ·have h1 : t / kd.sz < d.size := Nat.div_lt_of_lt_mul (by rw [Nat.mul_comm]; exact ht)
  rw [flat_get hk _ _ (by simpa using ht)]
  have h2 : (flatK KE.cs kd.sz d).toList[t]? = some ((flatK KE.cs kd.sz d)[t]!) := by
   rw [Array.getElem?_toList, getElem!_pos (flatK KE.cs kd.sz d) t (by rw [size_flatK]; exact ht)]; exact Array.getElem?_eq_getElem _
  rw [h2, get_flatK _ _ _ _ ht]
  have h3 : d.toList[t / kd.sz]? = some d[t / kd.sz]! := by rw [Array.getElem?_toList, getElem!_pos d (t / kd.sz) h1]; exact Array.getElem?_eq_getElem _
  rw [h3, Option.bind_some]
  have h4 : (d[t / kd.sz]!).cs.length = kd.sz := (d[t / kd.sz]!).2.1
  have h5 : t % kd.sz < (d[t / kd.sz]!).cs.length := by rw [h4]; exact Nat.mod_lt _ hk
  rw [List.getElem?_eq_getElem h5, getElem!_pos ((d[t / kd.sz]!).cs) (t % kd.sz) h5]
 ·rw [List.getElem?_eq_none (by rw [Array.length_toList, size_flatK]; omega), List.getElem?_eq_none (by rw [flat_len, Array.length_toList]; omega)]
theorem add0 (g t : Nat) : (⟨g, 0, none⟩ : Addr).add t = ⟨g, 0 + t, none⟩ := by unfold Addr.add; split <;> simp_all
theorem Ow.sortK (hk : 0 < kd.sz) (key : β → Str) [Inhabited (KE kd key)] (hkey : ∀ x cs, kd.R w (Fr O) x cs → cs[0]? = some (vs (key x))) {A : Option Addr} {n c : Nat} {xs : List β} (h : Ow kd e w O (.slice A n c) xs) (hx : 0 < xs.length) :
  ∃ (g : Nat) (d : Array (KE kd key)), A = some ⟨g, 0, none⟩ ∧ n = d.size ∧ d.toList.map (·.1.1) = xs ∧ HoldsK KE.cs kd.sz w g 0 d ∧ g < w.heap.size ∧
   ∀ (d' : Array (KE kd key)) (q : Nat) (os : Array Obj), d'.toList.Perm d.toList →
    Gr w (sortWorldK KE.cs kd.sz w g 0 q d' os) (some g) ∧ Ow kd e (sortWorldK KE.cs kd.sz w g 0 q d' os) O (.slice A n c) (d'.toList.map (·.1.1)) := by
 obtain ⟨cells, o1, o2, o3⟩ := h
 obtain ⟨ps, e1, e2, e3⟩ := Arr.pairs o2
 obtain ⟨l, hl⟩ : ∃ l : List (KE kd key), l.map (·.1) = ps := by
  have : ∀ ps : List (β × List Value), (∀ p ∈ ps, kd.R w (Fr O) p.1 p.2) → ∃ l : List (KE kd key), l.map (·.1) = ps := fun ps => by
   induction ps with
   | nil => exact fun _ => ⟨[], rfl⟩
   | cons p ps ih =>
    intro hp
    obtain ⟨l, hl⟩ := ih fun q hq => hp q (List.mem_cons_of_mem _ hq)
    have h := hp p List.mem_cons_self
    exact ⟨⟨p, kd.len h, kd.one h, hkey _ _ h⟩ :: l, by rw [List.map_cons, hl]⟩
  exact this ps e3
 subst hl
 have hcs : cells = (l.map KE.cs).flatten := by rw [e2, List.map_map]; rfl
 have hxs : xs = l.map (·.1.1) := by rw [← e1, List.map_map]; rfl
 have hll : l.length = xs.length := by rw [hxs, List.length_map]
 rcases o1.2 with ⟨_, e'⟩ | ⟨g, cap, cur, ev, h0, hg, hle, hmx, hcur, htake⟩
 ·exfalso
  have := (show n = xs.length from by
   have := o1.1; omega)
  omega
 cases ev
 have hgl : g < w.heap.size := (Array.getElem?_eq_some_iff.1 hg).1
 refine ⟨g, l.toArray, rfl, by simp [hll], by simp [hxs], ?_, hgl, fun d' q os hp => ?_⟩
 ·intro t ht
  have ht' : t < l.length * kd.sz := by simpa using ht
  have hc := World.ownsRow.cells o1 (g := g) rfl t ((flatK KE.cs kd.sz l.toArray)[t]!) (by
   rw [hcs]; have hf := flatK_list hk l.toArray; rw [List.toList_toArray] at hf; rw [← hf, Array.getElem?_toList, getElem!_pos (flatK KE.cs kd.sz l.toArray) t ht]; exact Array.getElem?_eq_getElem _)
  rw [add0] at hc
  exact ⟨hc, by simp [World.frozen?, hg]⟩
 ·have hsz : d'.size = l.length := by have := hp.length_eq; simpa using this
  have h1 : (w.heap.modify g (onCells (putCells id 0 (flatK KE.cs kd.sz d')))).size = w.heap.size := Array.size_modify
  have hne : ∀ b, b < w.heap.size → b ≠ g → (sortWorldK KE.cs kd.sz w g 0 q d' os).heap[b]? = w.heap[b]? := fun b hb hn => by
   simp only [sortWorldK, grow, putRowK, putRow, mapBlock, Sort.ahead]
   rw [Array.getElem?_append_left (by rw [h1]; exact hb), Array.getElem?_modify, if_neg (fun e => hn e.symm)]
  have hGr : Gr w (sortWorldK KE.cs kd.sz w g 0 q d' os) (some g) := ⟨rfl, rfl, rfl, by
   simp only [sortWorldK, grow, putRowK, putRow, mapBlock, Sort.ahead, Array.size_append, h1]; omega, fun b hb hn => hne b hb fun e => hn (by rw [e])⟩
  have hn : (d'.toList.map (·.1.1)).length = xs.length := by rw [List.length_map, Array.length_toList, hsz, hll]
  have hn2 : d'.toList.length = xs.length := by rw [Array.length_toList, hsz, hll]
  refine ⟨hGr, (d'.toList.map KE.cs).flatten, ⟨by rw [flat_len, hn, hn2], .inr ⟨g, c, putCells id 0 (flatK KE.cs kd.sz d') cur, ?_, h0, ?_, ?_, hmx, ?_, ?_⟩⟩, ?_, o3⟩
  ·rw [hn]
  ·simp only [sortWorldK, grow, putRowK, putRow, mapBlock, Sort.ahead]
   rw [Array.getElem?_append_left (by rw [h1]; exact hgl), Array.getElem?_modify, if_pos rfl, hg]; rfl
  ·rw [hn]; exact hle
  ·rw [putCells, Array.size_mapIdx]; exact hcur
  ·have hc1 : xs.length * kd.sz ≤ cur.size := by rw [hcur]; exact Nat.mul_le_mul_right _ hle
   rw [← flatK_list hk]
   apply List.ext_getElem?
   intro j
   rw [List.getElem?_take, hn]
   by_cases hj : j < xs.length * kd.sz
   ·have hj2 : j < (flatK KE.cs kd.sz d').size := by rw [size_flatK, hsz, hll]; exact hj
    rw [if_pos hj, putCells, Array.getElem?_toList, Array.getElem?_mapIdx, Array.getElem?_eq_getElem OM, Array.getElem?_toList, Array.getElem?_eq_getElem hj2]
    simp only [Option.map_some, Nat.zero_le, true_and, Nat.zero_add, hj2, if_true, Nat.sub_zero, id]
    try rw [getElem!_pos (flatK KE.cs kd.sz d') j hj2]
   ·rw [if_neg hj, List.getElem?_eq_none (by rw [Array.length_toList, size_flatK, hsz, hll]; omega)]
  ·have hR : ∀ p ∈ d'.toList.map (·.1), kd.R (sortWorldK KE.cs kd.sz w g 0 q d' os) (Fr O) p.1 p.2 := fun p hp' => by
    obtain ⟨x, hx', rfl⟩ := List.mem_map.1 hp'
    have hm : x ∈ l := by have := hp.mem_iff.1 hx'; simpa using this
    exact kd.keep (e3 _ (List.mem_map.2 ⟨x, hm, rfl⟩)) fun b hS hb => hne b hb fun e => hS (by rw [e]; exact o3 g rfl)
   have := Arr.ofPairs hR
   rw [List.map_map, List.map_map] at this
   exact this
theorem ltK_swo {key : β → Str} : SWO fun x y : KE kd key => Op.bytesLess (key x.1.1) (key y.1.1) := by
 have irr : ∀ a : Str, Op.bytesLess a a = false := fun a => by
  induction a with
  | nil => rfl
  | cons x a ih => simp [Op.bytesLess, ih]
 have tr : ∀ {a b c : Str}, Op.bytesLess a b = true → Op.bytesLess b c = true → Op.bytesLess a c = true := by
  intro a
  induction a with
  | nil =>
   intro b c h1 h2
   cases c with
   | nil => cases b <;> simp [Op.bytesLess] at h2
   | cons z c => rfl
  | cons x a ih =>
   intro b c h1 h2
   cases b with
   | nil => simp [Op.bytesLess] at h1
   | cons y b =>
    cases c with
    | nil => simp [Op.bytesLess] at h2
    | cons z c =>
     rw [Op.bytesLess] at h1 h2 ⊢
     simp only [Bool.or_eq_true, Bool.and_eq_true, decide_eq_true_eq, beq_iff_eq] at h1 h2 ⊢
     rcases h1 with h1 | ⟨rfl, h1⟩
     ·rcases h2 with h2 | ⟨rfl, h2⟩
      ·exact .inl (UInt8.lt_trans h1 h2)
      ·exact .inl h1
     ·rcases h2 with h2 | ⟨rfl, h2⟩
      ·exact .inl h2
      ·exact .inr ⟨rfl, ih h1 h2⟩
 have tri : ∀ {a b : Str}, Op.bytesLess a b = false → Op.bytesLess b a = true ∨ a = b := by
  intro a
  induction a with
  | nil => intro b h; cases b with
   | nil => exact .inr rfl
   | cons y b => simp [Op.bytesLess] at h
  | cons x a ih =>
   intro b h
   cases b with
   | nil => exact .inl rfl
   | cons y b =>
    rw [Op.bytesLess] at h ⊢
    simp only [Bool.or_eq_false_iff, decide_eq_false_iff_not, Bool.and_eq_false_iff, beq_eq_false_iff_ne, Bool.or_eq_true, decide_eq_true_eq, Bool.and_eq_true, beq_iff_eq] at h ⊢
    obtain ⟨h1, h2⟩ := h
    by_cases e : x = y
    ·subst e
     rcases h2 with h2 | h2
     ·exact absurd rfl h2
     ·rcases ih h2 with g | g
      ·exact .inl (.inr ⟨rfl, g⟩)
      ·exact .inr (by rw [g])
    ·refine .inl (.inl ?_)
     rcases UInt8.lt_or_lt_of_ne e with g | g
     ·exact absurd g h1
     ·exact g
 exact ⟨fun x => irr _, fun x y z h1 h2 => tr h1 h2, fun x y z h1 h2 => by
  cases h : Op.bytesLess (key x.1.1) (key z.1.1) with
  | false => rfl
  | true =>
   rcases tri h2 with g | g
   ·have := tr h g; rw [this] at h1; cases h1
   ·rw [g, h] at h1; cases h1⟩
end
end
section
open Go.RowKit Go.Shelf Go.Sort Go.Lib
theorem take_mid (A : List Value) (v : Value) (B : List Value) : (A ++ v :: B).take (A.length + 1) = A ++ [v] := by
 rw [List.take_append, List.take_of_length_le (Nat.le_succ _), Nat.add_sub_cancel_left]; rfl
theorem drop_mid (A : List Value) (v : Value) (B : List Value) (m : Nat) : (A ++ v :: B).drop (A.length + 1 + m) = B.drop m := by
 rw [List.drop_append, List.drop_eq_nil_of_le OM, Nat.add_assoc, Nat.add_sub_cancel_left, Nat.add_comm 1 m]; rfl
theorem setCells_row {b : Nat} {e : TypeId} {fz : Nat × Nat} : ∀ (us : List Value) (o : Nat) (w : World) (cur : Array Value), w.heap[b]? = some (.cells cur e fz) → o + us.length ≤ cur.size →
  ∃ cur' : Array Value, (w.setCells b o us).heap[b]? = some (.cells cur' e fz) ∧ cur'.toList = cur.toList.take o ++ us ++ cur.toList.drop (o + us.length)
 | [], o, w, cur, h, _ => ⟨cur, h, by simp⟩
 | v :: us, o, w, cur, h, hl => by
  rw [List.length_cons] at hl
  have h1 : (w.setCell ⟨b, o, none⟩ v).heap[b]? = some (.cells (cur.setIfInBounds o v) e fz) := by
   simp [World.setCell, Array.getElem?_modify, h]
  obtain ⟨c, h2, h3⟩ := setCells_row us (o + 1) _ _ h1 (by rw [Array.size_setIfInBounds]; omega)
  refine ⟨c, h2, ?_⟩
  have hlo : (cur.toList.take o).length = o := by rw [List.length_take, Array.length_toList]; omega
  have e0 : (cur.setIfInBounds o v).toList = cur.toList.take o ++ v :: cur.toList.drop (o + 1) := by
   rw [Array.toList_setIfInBounds, List.set_eq_take_append_cons_drop, if_pos (by rw [Array.length_toList]; omega)]
  have e1 := take_mid (cur.toList.take o) v (cur.toList.drop (o + 1))
  have e2 := drop_mid (cur.toList.take o) v (cur.toList.drop (o + 1)) us.length
  rw [hlo] at e1 e2
  rw [h3, e0, e1, e2, List.drop_drop, List.length_cons, List.append_assoc, List.append_assoc, List.append_assoc, show o + 1 + us.length = o + (us.length + 1) by omega]
  rfl
theorem setCells_tape (b : Nat) : ∀ (us : List Value) (o : Nat) (w : World), (w.setCells b o us).tape = w.tape
 | [], _, _ => rfl
 | v :: us, o, w => by rw [World.setCells, setCells_tape b us]; rfl
theorem setCells_Gr (w : World) (b o : Nat) (us : List Value) : Gr w (w.setCells b o us) (some b) :=
 ⟨World.os_setCells w b o us, setCells_tape b us o w, World.output_setCells w b o us, Nat.le_of_eq (size_setCells b us o w).symm, fun k hk hn => World.heap_setCells_other w b o us hk fun e => hn (by rw [e])⟩
theorem flat_take (k : Nat) : ∀ (l : List (List Value)) (I : Nat), (∀ c ∈ l, c.length = k) → l.flatten.take (I * k) = (l.take I).flatten
 | l, 0, _ => by simp
 | [], I + 1, _ => by simp
 | c :: l, I + 1, h => by
  have hc : c.length = k := h c List.mem_cons_self
  rw [List.flatten_cons, List.take_succ_cons, List.flatten_cons, ← flat_take k l I (fun d hd => h d (List.mem_cons_of_mem _ hd)), Nat.succ_mul, Nat.add_comm (I * k) k, List.take_append, hc, Nat.add_sub_cancel_left, List.take_of_length_le OM]
theorem flat_drop (k : Nat) : ∀ (l : List (List Value)) (I : Nat), (∀ c ∈ l, c.length = k) → l.flatten.drop (I * k) = (l.drop I).flatten
 | l, 0, _ => by simp
 | [], I + 1, _ => by simp
 | c :: l, I + 1, h => by
  have hc : c.length = k := h c List.mem_cons_self
  rw [List.flatten_cons, List.drop_succ_cons, ← flat_drop k l I (fun d hd => h d (List.mem_cons_of_mem _ hd)), Nat.succ_mul, Nat.add_comm (I * k) k, List.drop_append, hc, Nat.add_sub_cancel_left, List.drop_eq_nil_of_le OM, List.nil_append]
section
variable {β : Type} {kd : Kd β} {w : World} {e : TypeId} {O : Ob}
theorem Ow.del {A : Option Addr} {n c : Nat} {xs : List β} (h : Ow kd e w O (.slice A n c) xs) (I J : Nat) (hI : I < J) (hJ : J ≤ xs.length) :
  ∃ (g : Nat) (news : List Value), A = some ⟨g, 0, none⟩ ∧ n = xs.length ∧ xs.length ≤ c ∧ c ≤ 9223372036854775807 ∧ news.length = (xs.length - J) * kd.sz ∧ (∀ u ∈ news, u.oneCell' = true) ∧
   (∀ t u, news[t]? = some u → w.cell? ⟨g, J * kd.sz + t, none⟩ = some u) ∧ (∀ t, t < xs.length * kd.sz → (w.cell? ⟨g, t, none⟩).isSome = true ∧ w.frozen? ⟨g, t, none⟩ = false) ∧
   ∀ zs : List Value, zs.length = (J - I) * kd.sz →
    Gr w ((w.drew.setCells g (I * kd.sz) news).setCells g ((I + (xs.length - J)) * kd.sz) zs) (some g) ∧ Ow kd e ((w.drew.setCells g (I * kd.sz) news).setCells g ((I + (xs.length - J)) * kd.sz) zs) O (.slice A (I + (xs.length - J)) c) (xs.take I ++ xs.drop J) := by
 obtain ⟨cells, o1, o2, o3⟩ := h
 obtain ⟨ps, e1, e2, e3⟩ := Arr.pairs o2
 have hps : ∀ d ∈ ps.map (·.2), d.length = kd.sz := fun d hd => by
  obtain ⟨p, hp, rfl⟩ := List.mem_map.1 hd
  exact kd.len (e3 p hp)
 have hlen : cells.length = xs.length * kd.sz := o1.1
 rcases o1.2 with ⟨_, e'⟩ | ⟨g, cap, cur, ev, h0, hg, hle, hmx, hcur, htake⟩
 ·omega
 cases ev
 have hgl : g < w.heap.size := (Array.getElem?_eq_some_iff.1 hg).1
 have hN : (xs.length - J) * kd.sz + J * kd.sz = xs.length * kd.sz := by rw [← Nat.add_mul, Nat.sub_add_cancel hJ]
 have hnl : (cells.drop (J * kd.sz)).length = (xs.length - J) * kd.sz := by rw [List.length_drop, hlen, Nat.sub_mul]
 have hcap : xs.length * kd.sz ≤ cur.size := by rw [hcur]; exact Nat.mul_le_mul_right _ hle
 have hcell : ∀ t, t < xs.length * kd.sz → (w.cell? ⟨g, t, none⟩) = cells[t]? := fun t ht => by
  obtain ⟨u, hu⟩ : ∃ u, cells[t]? = some u := ⟨_, List.getElem?_eq_getElem (by rw [hlen]; exact ht)⟩
  have := World.ownsRow.cells o1 (g := g) rfl t u hu
  rw [add0, Nat.zero_add] at this
  rw [this, hu]
 refine ⟨g, cells.drop (J * kd.sz), rfl, rfl, hle, hmx, hnl, ?_, ?_, ?_, ?_⟩
 ·intro u hu
  have := List.mem_of_mem_drop hu
  rw [e2] at this
  obtain ⟨l, hl, hul⟩ := List.mem_flatten.1 this
  obtain ⟨p, hp, rfl⟩ := List.mem_map.1 hl
  exact kd.one (e3 p hp) u hul
 ·intro t u hu
  rw [List.getElem?_drop] at hu
  have := (List.getElem?_eq_some_iff.1 hu).1
  rw [hcell _ (by rw [← hlen]; exact this), hu]
 ·intro t ht
  refine ⟨?_, by simp [World.frozen?, hg]⟩
  rw [hcell t ht, List.getElem?_eq_getElem (by rw [hlen]; exact ht)]; rfl
 ·intro zs hz
  have hIJ : (J - I) * kd.sz + I * kd.sz = J * kd.sz := by rw [← Nat.add_mul, Nat.sub_add_cancel (Nat.le_of_lt hI)]
  have hM : (I + (xs.length - J)) * kd.sz = I * kd.sz + (xs.length - J) * kd.sz := Nat.add_mul _ _ _
  obtain ⟨c1, g1, t1⟩ := setCells_row (b := g) (cells.drop (J * kd.sz)) (I * kd.sz) w.drew cur hg (by rw [hnl]; omega)
  have hs1 : c1.size = cur.size := by
   have := congrArg List.length t1
   simp only [Array.length_toList, List.length_append, List.length_take, List.length_drop] at this
   rw [hlen] at this
   omega
  obtain ⟨c2, g2, t2⟩ := setCells_row (b := g) zs ((I + (xs.length - J)) * kd.sz) _ c1 g1 (by rw [hz, hs1, hM]; omega)
  have hs2 : c2.size = cur.size := by
   have := congrArg List.length t2
   simp only [Array.length_toList, List.length_append, List.length_take, List.length_drop] at this
   omega
  have hGr : Gr w ((w.drew.setCells g (I * kd.sz) (cells.drop (J * kd.sz))).setCells g ((I + (xs.length - J)) * kd.sz) zs) (some g) := by
   have a1 := setCells_Gr w.drew g (I * kd.sz) (cells.drop (J * kd.sz))
   have a2 := setCells_Gr (w.drew.setCells g (I * kd.sz) (cells.drop (J * kd.sz))) g ((I + (xs.length - J)) * kd.sz) zs
   have a3 := a1.trans a2
   exact ⟨a3.os, a3.tape, a3.output, a3.size, a3.block⟩
  refine ⟨hGr, ((ps.take I ++ ps.drop J).map (·.2)).flatten, ⟨?_, .inr ⟨g, c, c2, ?_, h0, g2, ?_, hmx, by rw [hs2, hcur], ?_⟩⟩, ?_, o3⟩
  ·rw [List.map_append, List.flatten_append, List.length_append, List.map_take, List.map_drop, ← flat_take kd.sz _ _ hps, ← flat_drop kd.sz _ _ hps, ← e2, List.length_take, hnl, hlen, List.length_append, List.length_take, List.length_drop, Nat.add_mul, Nat.min_eq_left OM, Nat.min_eq_left OM]
  ·rw [List.length_append, List.length_take, List.length_drop, Nat.min_eq_left OM]
  ·rw [List.length_append, List.length_take, List.length_drop, Nat.min_eq_left OM]; omega
  ·have hM2 : (xs.take I ++ xs.drop J).length = I + (xs.length - J) := by rw [List.length_append, List.length_take, List.length_drop, Nat.min_eq_left OM]
   have hc1l : c1.toList.length = cur.size := by rw [Array.length_toList]; exact hs1
   have l1 : (c1.toList.take ((I + (xs.length - J)) * kd.sz)).length = (I + (xs.length - J)) * kd.sz := by rw [List.length_take, hc1l]; omega
   have l2 : (cur.toList.take (I * kd.sz)).length = I * kd.sz := by rw [List.length_take, Array.length_toList]; omega
   rw [hM2, t2, List.append_assoc, List.take_append_of_le_length (by rw [l1]; exact Nat.le_refl _), List.take_take, Nat.min_self, t1, List.take_append_of_le_length (by rw [List.length_append, l2, hnl, hM]; exact Nat.le_refl _), List.take_of_length_le (by rw [List.length_append, l2, hnl, hM]; exact Nat.le_refl _)]
   rw [List.map_append, List.flatten_append, List.map_take, List.map_drop, ← flat_take kd.sz _ _ hps, ← flat_drop kd.sz _ _ hps, ← e2, ← htake, List.take_take, Nat.min_eq_left OM]
  ·have hR : ∀ p ∈ ps.take I ++ ps.drop J, kd.R ((w.drew.setCells g (I * kd.sz) (cells.drop (J * kd.sz))).setCells g ((I + (xs.length - J)) * kd.sz) zs) (Fr O) p.1 p.2 := fun p hp => by
    have hm : p ∈ ps := by
     rcases List.mem_append.1 hp with hp | hp
     ·exact List.mem_of_mem_take hp
     ·exact List.mem_of_mem_drop hp
    exact kd.keep (e3 p hm) fun b hS hb => hGr.block b hb fun e => hS (by rw [e]; exact o3 g rfl)
   have := Arr.ofPairs hR
   rwa [List.map_append, List.map_take, List.map_drop, e1] at this
end
section
variable {P : Program}
theorem zeroCells_len (a : Array Value) (n : Nat) : (Builtin.zeroCells a n).toList.length = n * a.size := by simp [Builtin.zeroCells]
theorem zeroCells_one (a : Array Value) (n : Nat) (h : ∀ u ∈ a, u.oneCell' = true) : ∀ u ∈ (Builtin.zeroCells a n).toList, u.oneCell' = true := by
 intro u hu
 simp only [Builtin.zeroCells, Array.toList_map, List.mem_map, Array.mem_toList_iff, Array.mem_range] at hu
 obtain ⟨i, hi, rfl⟩ := hu
 have hp : 0 < a.size := by
  rcases Nat.eq_zero_or_pos a.size with h0 | h0
  ·rw [h0, Nat.mul_zero] at hi; omega
  ·exact h0
 have hm := Nat.mod_lt i hp
 rw [getElem!_pos a (i % a.size) hm]
 exact h _ (Array.getElem_mem hm)
theorem run_clear_sliceK (w : World) (t e ty : TypeId) (z : Value) (ht : P.underlying t = some (.slice e)) (hv : ∀ w, (zeroValue e).run P w = .ok z w) (h1 : ∀ u ∈ z.cells, u.oneCell' = true) (b o n c : Nat) (hn : 0 < n)
  (hc : ∀ j, j < n * z.cells.size → (w.cell? ⟨b, o + j, none⟩).isSome = true) (hf : ∀ j, j < n * z.cells.size → w.frozen? ⟨b, o + j, none⟩ = false) :
  (Builtin.clear_ #[t] ty #[.slice (some ⟨b, o, none⟩) n c]).run P w = .ok (.tuple #[]) (w.setCells b o (Builtin.zeroCells z.cells n).toList) := by
 have hst := run_storeCells_cells (P := P) b o (Builtin.zeroCells z.cells n).toList 0 w (by rw [zeroCells_len]; simpa using hc) (by rw [zeroCells_len]; simpa using hf) (zeroCells_one _ _ h1)
 simp only [Nat.add_zero] at hst
 obtain ⟨m, rfl⟩ : ∃ m, n = m + 1 := ⟨n - 1, OM⟩
 simp [Builtin.clear_, run_underlying ht, hv, hst]
end
end
section
open Go.Shelf Go.Sort Go.Lib
def F11.E (x : List Feat) (i j : Int) (Q : List Feat → Prop) : Prop := ((0 : Int) ≤ i ∧ i < j ∧ j ≤ (x.length : Int)) ∧ x.length ≤ 268435456 ∧ Q (x.take i.toNat ++ x.drop j.toNat)
set_option maxHeartbeats 4000000 in
set_option maxRecDepth 1000000 in
theorem F11.calls {O : Ob} (w0 : World) (hO : Ok w0 O) (A : Option Addr) (n c : Nat) (x : List Feat) (hp : Ow kFeat 44 w0 O (.slice A n c) x) (i j : Int) (Q : List Feat → Prop) (h : F11.E x i j Q) :
  Ret Tryz.prog 86 [.slice A n c, vi i, vi j] w0 (fun v w' => ∃ (m0 : List Feat) (l : Nat), v = .slice A l c ∧ Q m0 ∧ Gr w0 w' (blk (.slice A n c)) ∧ Ow kFeat 44 w' O (.slice A l c) m0) := by
 obtain ⟨⟨hi0, hij, hj⟩, hl, hq⟩ := h
 obtain ⟨I, rfl⟩ := Int.eq_ofNat_of_zero_le hi0
 obtain ⟨J, rfl⟩ := Int.eq_ofNat_of_zero_le (show (0 : Int) ≤ j by omega)
 rw [Int.toNat_natCast, Int.toNat_natCast] at hq
 have hIJ : I < J := by omega
 have hJ : J ≤ x.length := by omega
 obtain ⟨g, news, rfl, rfl, hcap, hm, hnl, s2', hnews, hrow, hend⟩ := hp.del I J hIJ hJ
 rw [show kFeat.sz = 4 from rfl] at hnl hnews hrow hend
 obtain ⟨ht, ⟨i0, z, hi, hz, hz1, hz2, hz3⟩, _, _, _⟩ := Yl
 have hzv : ∀ w, (zeroValue 44).run Tryz.prog w = .ok z w := fun w => by simp [zeroValue, typeInfo, hi, hz]
 have hzs : z.cells.size = 4 := by rw [← Array.length_toList, hz3]; rfl
 obtain ⟨zc, rfl⟩ : ∃ zc, z = .agg zc := by
  cases z <;> first | exact ⟨_, rfl⟩ | (exfalso; simp [Value.cells] at hzs)
 change zc.toList = _ at hz3
 change zc.size = 4 at hzs
 have hz1c : ∀ u ∈ zc, u.oneCell' = true := fun u hu => by
  have := Array.mem_toList_iff.2 hu
  rw [hz3] at this
  simp only [List.mem_cons, List.not_mem_nil, or_false] at this
  rcases this with rfl | rfl | rfl | rfl <;> rfl
 generalize hN : x.length = N at *
 obtain ⟨A, hA, hsrc⟩ : ∃ A : Addr, (if c = J then some (⟨g, 0, none⟩ : Addr) else some ⟨g, J * 4, none⟩) = some A ∧ Hid (∀ t u, news[t]? = some u → w0.drew.cell? (A.add t) = some u) := by
  by_cases h : c = J
  ·refine ⟨⟨g, 0, none⟩, by simp [h], fun t u hu => ?_⟩
   have h0 : news.length = 0 := by rw [hnl]; omega
   rw [List.length_eq_zero_iff.1 h0] at hu
   simp at hu
  ·refine ⟨⟨g, J * 4, none⟩, by simp [h], fun t u hu => ?_⟩
   rw [Addr.add_lit]
   exact hnews t u hu
 have s1 : Hid (news.length = (N - J) * 4) := hnl
 have s2 : Hid (∀ u ∈ news, u.oneCell' = true) := s2'
 have s3 : Hid (∀ t, t < news.length → (w0.drew.cell? ⟨g, 0 + I * 4 + t, none⟩).isSome = true ∧ w0.drew.frozen? ⟨g, 0 + I * 4 + t, none⟩ = false) := by
  intro t ht'
  rw [hnl] at ht'
  rw [Nat.zero_add]
  exact hrow _ OM
 obtain ⟨W1, hW1⟩ : ∃ W1, W1 = w0.drew.setCells g (0 + I * 4) news := ⟨_, rfl⟩
 have hcl : ∀ ty, (Builtin.clear_ #[33] ty #[.slice (some ⟨g, (I + (N - J)) * 4, none⟩) (N - (I + (N - J))) (c - (I + (N - J)))]).run Tryz.prog W1 = .ok (.tuple #[]) (W1.setCells g ((I + (N - J)) * 4) (Builtin.zeroCells zc (N - (I + (N - J)))).toList) :=
  fun ty => run_clear_sliceK W1 _ _ ty (.agg zc) ht hzv hz1c g _ _ _ OM (fun t ht' => by
   rw [show (Value.agg zc).cells.size = 4 from hzs] at ht'
   rw [hW1]
   exact World.isSome_setCells g _ _ _ _ (hrow _ OM).1) (fun t ht' => by
   rw [show (Value.agg zc).cells.size = 4 from hzs] at ht'
   rw [hW1, World.frozen?_setCells]
   exact (hrow _ OM).2)
 have hend' := hend (Builtin.zeroCells zc (N - (I + (N - J)))).toList (by rw [zeroCells_len, hzs]; congr 1; omega)
 rw [show w0.drew.setCells g (I * 4) news = W1 by rw [hW1, Nat.zero_add]] at hend'
 have X : Aside (Q (x.take I ++ x.drop J) ∧ Gr w0 (W1.setCells g ((I + (N - J)) * 4) (Builtin.zeroCells zc (N - (I + (N - J)))).toList) (some g) ∧ Ow kFeat 44 (W1.setCells g ((I + (N - J)) * 4) (Builtin.zeroCells zc (N - (I + (N - J)))).toList) O (.slice (some ⟨g, 0, none⟩) (I + (N - J)) c) (x.take I ++ x.drop J)) := ⟨hq, hend'.1, hend'.2⟩
 have hW : Hid (W1 = w0.drew.setCells g (0 + I * 4) news) := hW1
 have hic : I ≤ c := by omega
 have hjc : J ≤ c := by omega
 have hne : (I == J) = false := by simp; omega
 have hsz := Yl.size
 clear hW1 hend hend' hnews hrow hnl hq s2' hp hO hz3 hz1c hzv
 unfold Ret
 go_enter Tryz.func86, Tryz.ntmps86
 go_wp2_with fail
 go_region_law (refine step_append_room rfl (.tmp 22) (.tmp 25) 33 rfl 44 i0 4 ht hi hz1 g 0 I c (by simp [Act.eval, Act.put]) A (N - J) (c - J) news (by simp [Act.eval, Act.put]) s1.out hsrc.out s2.out OM s3.out ?_; rw [← hW.out])
 go_wp2
 go_ret
 exact ⟨_, rfl, _, _, rfl, X.out⟩
end
end Go.Proofs.YtlaaehjcooonfaaGreatDoor
namespace Go.Proofs
open Go.Shelf
def Tryz.srt83_ren : Go.Shelf.Ren := ⟨fun | 6 => 83 | 15 => 110 | 14 => 129 | 28 => 144 | 29 => 145 | 20 => 155 | 21 => 156 | 22 => 157 | 23 => 158 | 24 => 159 | 25 => 160 | 26 => 161 | 27 => 162 | 46 => 175 | 47 => 167 | 48 => 168 | 49 => 176 | 50 => 177 | 57 => 185 | n => n, fun | 22 => 33 | 24 => 44 | 25 => 113 | 3 => 3 | 39 => 132 | 0 => 0 | 53 => 163 | 55 => 165 | 4 => 4 | 46 => 155 | 45 => 154 | 50 => 160 | 5 => 5 | 9 => 9 | 66 => 183 | 70 => 187 | 76 => 192 | 77 => 193 | n => n, fun | n => n⟩
theorem Tryz.srt83 : Go.Proofs.SlLaysF0.n6 Tryz.prog Tryz.srt83_ren := {
  mixed := by kernel_rfl
  f6 := ⟨ "slices.SortFunc[[]loop.example/townland/impl.Feat,loop.example/townland/impl.Feat]", by decide, Tryz.func83.trans (congrArg some (by kernel_rfl))⟩
  f14 := ⟨ "slices.pdqsortCmpFunc[loop.example/townland/impl.Feat]", by decide, Tryz.func129.trans (congrArg some (by kernel_rfl))⟩
  f15 := Tryz.func110.trans (congrArg some (by kernel_rfl))
  f20 := ⟨ "slices.insertionSortCmpFunc[loop.example/townland/impl.Feat]", by decide, Tryz.func155.trans (congrArg some (by kernel_rfl))⟩
  f21 := ⟨ "slices.heapSortCmpFunc[loop.example/townland/impl.Feat]", by decide, Tryz.func156.trans (congrArg some (by kernel_rfl))⟩
  f22 := ⟨ "slices.breakPatternsCmpFunc[loop.example/townland/impl.Feat]", by decide, Tryz.func157.trans (congrArg some (by kernel_rfl))⟩
  f23 := ⟨ "slices.choosePivotCmpFunc[loop.example/townland/impl.Feat]", by decide, Tryz.func158.trans (congrArg some (by kernel_rfl))⟩
  f24 := ⟨ "slices.reverseRangeCmpFunc[loop.example/townland/impl.Feat]", by decide, Tryz.func159.trans (congrArg some (by kernel_rfl))⟩
  f25 := ⟨ "slices.partialInsertionSortCmpFunc[loop.example/townland/impl.Feat]", by decide, Tryz.func160.trans (congrArg some (by kernel_rfl))⟩
  f26 := ⟨ "slices.partitionEqualCmpFunc[loop.example/townland/impl.Feat]", by decide, Tryz.func161.trans (congrArg some (by kernel_rfl))⟩
  f27 := ⟨ "slices.partitionCmpFunc[loop.example/townland/impl.Feat]", by decide, Tryz.func162.trans (congrArg some (by kernel_rfl))⟩
  f28 := Tryz.func144.trans (congrArg some (by kernel_rfl))
  f29 := Tryz.func145.trans (congrArg some (by kernel_rfl))
  f46 := ⟨ "slices.siftDownCmpFunc[loop.example/townland/impl.Feat]", by decide, Tryz.func175.trans (congrArg some (by kernel_rfl))⟩
  f47 := Tryz.func167.trans (congrArg some (by kernel_rfl))
  f48 := Tryz.func168.trans (congrArg some (by kernel_rfl))
  f49 := ⟨ "slices.medianAdjacentCmpFunc[loop.example/townland/impl.Feat]", by decide, Tryz.func176.trans (congrArg some (by kernel_rfl))⟩
  f50 := ⟨ "slices.medianCmpFunc[loop.example/townland/impl.Feat]", by decide, Tryz.func177.trans (congrArg some (by kernel_rfl))⟩
  f57 := ⟨ "slices.order2CmpFunc[loop.example/townland/impl.Feat]", by decide, Tryz.func185.trans (congrArg some (by kernel_rfl))⟩
  t0 := Tryz.underlying0
  a0 := Tryz.isAgg0
  z0 := Tryz.sizeOf0
  v0 := Tryz.zeroValue0
  t3 := Tryz.underlying3
  a3 := Tryz.isAgg3
  z3 := Tryz.sizeOf3
  v3 := Tryz.zeroValue3
  t4 := Tryz.underlying4
  a4 := Tryz.isAgg4
  z4 := Tryz.sizeOf4
  v4 := Tryz.zeroValue4
  t5 := Tryz.underlying5
  a5 := Tryz.isAgg5
  z5 := Tryz.sizeOf5
  v5 := Tryz.zeroValue5
  t9 := Tryz.underlying9
  a9 := Tryz.isAgg9
  z9 := Tryz.sizeOf9
  v9 := Tryz.zeroValue9
  t22 := Tryz.underlying33
  a22 := Tryz.isAgg33
  z22 := Tryz.sizeOf33
  v22 := Tryz.zeroValue33
  t25 := Tryz.underlying113
  a25 := Tryz.isAgg113
  z25 := Tryz.sizeOf113
  v25 := Tryz.zeroValue113
  t39 := Tryz.underlying132
  a39 := Tryz.isAgg132
  z39 := Tryz.sizeOf132
  v39 := Tryz.zeroValue132
  t45 := Tryz.underlying154
  a45 := Tryz.isAgg154
  z45 := Tryz.sizeOf154
  v45 := Tryz.zeroValue154
  t46 := Tryz.underlying155
  a46 := Tryz.isAgg155
  z46 := Tryz.sizeOf155
  v46 := Tryz.zeroValue155
  t50 := Tryz.underlying160
  a50 := Tryz.isAgg160
  z50 := Tryz.sizeOf160
  v50 := Tryz.zeroValue160
  t53 := Tryz.underlying163
  a53 := Tryz.isAgg163
  z53 := Tryz.sizeOf163
  v53 := Tryz.zeroValue163
  t55 := Tryz.underlying165
  a55 := Tryz.isAgg165
  z55 := Tryz.sizeOf165
  v55 := Tryz.zeroValue165
  t66 := Tryz.underlying183
  a66 := Tryz.isAgg183
  z66 := Tryz.sizeOf183
  v66 := Tryz.zeroValue183
  t70 := Tryz.underlying187
  a70 := Tryz.isAgg187
  z70 := Tryz.sizeOf187
  v70 := Tryz.zeroValue187
  t76 := Tryz.underlying192
  a76 := Tryz.isAgg192
  z76 := Tryz.sizeOf192
  v76 := Tryz.zeroValue192
  t77 := Tryz.underlying193
  a77 := Tryz.isAgg193
  z77 := Tryz.sizeOf193
  v77 := Tryz.zeroValue193 }
end Go.Proofs
namespace Go.Proofs.YtlaaehjcooonfaaGreatDoor
set_option linter.unusedVariables false
set_option linter.unusedSimpArgs false
set_option linter.unusedSectionVars false
set_option maxHeartbeats 8000000
set_option maxRecDepth 100000
open Go.RowKit
variable {O : Ob} {w0 : World}
section
open Go.Shelf Go.Sort Go.Lib
def F6.E (x : List Feat) (Q : List Feat → Prop) : Prop := x.length ≤ 268435456 ∧ ∀ r : List Feat, r.Perm x → (r.Pairwise fun a b => Op.bytesLess b.Id a.Id = false) → Q r
instance : Inhabited (KE kFeat Feat.Id) := ⟨⟨(⟨[], ⟨0, []⟩, []⟩, [vs [], vi 0, .slice none 0 0, .slice none 0 0]), rfl, by decide, rfl⟩⟩
theorem kFeat_key {w : World} {S : Sp} (x : Feat) (cs : List Value) (h : kFeat.R w S x cs) : cs[0]? = some (vs x.Id) := by
 obtain ⟨A1, n1, c1, A2, n2, c2, rfl, _⟩ := kFeat.op h
 rfl
def CmpFeat (g : FuncId) (cf : Str → Str → Int) : Prop := ∀ (s t : Str) (a1 a2 a3 b1 b2 b3 : Value) (W : World),
 Calls Tryz.prog g #[.agg #[vs s, a1, a2, a3], .agg #[vs t, b1, b2, b3]] W fun e w' => e = .returned (vi (cf s t)) ∧ ∃ q os, w' = Sort.grow (W.drewN q) os
theorem F6.calls {O : Ob} (w0 : World) (hO : Ok w0 O) (A : Option Addr) (n c : Nat) (x : List Feat) (hp : Ow kFeat 44 w0 O (.slice A n c) x) (g : FuncId) (hg : Goes Tryz.prog g) (cf : Str → Str → Int) (hlt : ∀ s t, decide (cf s t < 0) = Op.bytesLess s t) (hcf : CmpFeat g cf)
  (Q : List Feat → Prop) (h : F6.E x Q) :
  Ret Tryz.prog 83 [.slice A n c, .func (.func g) #[] #[]] w0 (fun v w' => ∃ (m0 : List Feat), v = .tuple #[] ∧ Q m0 ∧ Gr w0 w' (blk (.slice A n c)) ∧ Ow kFeat 44 w' O (.slice A n c) m0) := by
 obtain ⟨hl, hq⟩ := h
 by_cases hx : 0 < x.length
 ·obtain ⟨b, d, rfl, rfl, e1, h1, h2, h3⟩ := Ow.sortK RD Feat.Id (fun x cs h => kFeat_key x cs h) hp hx
  have hsz : d.size = x.length := by rw [← e1]; simp
  have e2 : (ltOf fun x y : KE kFeat Feat.Id => cf x.1.1.Id y.1.1.Id) = fun x y => Op.bytesLess x.1.1.Id y.1.1.Id := by funext x y; exact hlt _ _
  have hcmp : CmpLays Tryz.prog g #[] (KE.cs (kd := kFeat) (key := Feat.Id)) 4 (fun x y => cf x.1.1.Id y.1.1.Id) b 0 d.size w0 := fun m os dk _ x y => by
   obtain ⟨⟨px, cx⟩, l1, _, k1⟩ := x
   obtain ⟨⟨py, cy⟩, l2, _, k2⟩ := y
   match cx, l1, k1, cy, l2, k2 with
   | [u0, u1, u2, u3], _, k1, [v0, v1, v2, v3], _, k2 =>
    simp only [List.getElem?_cons_zero, Option.some.injEq] at k1 k2
    subst k1; subst k2
    exact hcf _ _ _ _ _ _ _ _ _
  refine Calls.mono (AnyQ.slices_SortFunc Tryz.srt83 4 Tryz.isAgg44 Tryz.sizeOf44 (KE.cs (kd := kFeat) (key := Feat.Id)) (fun x => x.2.1) (fun x => x.2.2.1) (fun x y => cf x.1.1.Id y.1.1.Id) (by rw [e2]; exact ltK_swo) g #[] b 0 c d w0 (fun a w => hg.run a w) hcmp h1 h2 (by rw [hsz]; omega)) fun e w' ⟨he, d', q, os, hperm, hsort, hw⟩ => ?_
  subst he; subst hw
  have hd : d'.toList.Perm d.toList := by
   have := hperm.2.2
   have s1 := hperm.1
   rw [show d'.extract 0 d.size = d' by rw [← s1]; exact Array.extract_size, show d.extract 0 d.size = d from Array.extract_size] at this
   exact this
  obtain ⟨g1, g2⟩ := h3 d' q os hd
  refine ⟨_, rfl, d'.toList.map (fun y : KE kFeat Feat.Id => y.1.1), rfl, hq _ (by rw [← e1]; exact hd.map _) ?_, g1, g2⟩
  rw [e2] at hsort
  rw [List.pairwise_map]
  refine List.pairwise_iff_getElem.2 fun i j hi hj hij => ?_
  rw [Array.length_toList] at hi hj
  have := hsort i j (Nat.zero_le _) hij (by rw [← hperm.1]; exact hj)
  rw [getElem!_pos d' i hi, getElem!_pos d' j hj] at this
  simpa using this
 ·have e0 : x = [] := List.length_eq_zero_iff.1 OM
  subst e0
  obtain rfl : n = 0 := hp.len
  refine Calls.mono (AnyF.slices_SortFunc_none Tryz.srt83 A c _ w0) fun e w' ⟨he, hw⟩ => ?_
  subst he; subst hw
  exact ⟨_, rfl, [], rfl, hq [] (.refl _) .nil, Gr.refl _ _, hp⟩
end
section
open Go.Shelf Go.Sort Go.Lib
def F65.cf (s t : Str) : Int := if Op.bytesLess s t then -1 else 1
theorem F65.hlt (s t : Str) : decide (F65.cf s t < 0) = Op.bytesLess s t := by unfold F65.cf; cases Op.bytesLess s t <;> rfl
set_option maxHeartbeats 1000000 in
theorem F65.cmp : CmpFeat 87 F65.cf := by
 intro s t a1 a2 a3 b1 b2 b3 W
 go_enter Tryz.func87, Tryz.ntmps87
 go_wp2
 all_goals
  go_ret
  refine ⟨?_, 0, _, by rw [alloc_eq_grow, alloc_eq_grow, grow_grow]; rfl⟩
  simp_all [F65.cf]
end
def F115.E (s : List Feat) (d : List Change) (Q : List Feat → Bool → Prop) : Prop :=
 F74.E s (fun r => (if !r then Q [] false else F100.E d (fun r2 => (if !r2 then Q [] false else F33.E s (fun r3 => (∃ (I106 : (List Feat) → Int → Prop) (mu107 : (List Feat) → Int → Nat), I106 r3 0 ∧ ∀ (xs2 : List Feat) (v2 : Int), I106 xs2 v2 → (if decide (v2 < (d.length : Int)) then ((0 : Int) ≤ v2 ∧ v2 < (d.length : Int)) ∧ F141.E s ((nth d v2).Id) (fun r4 r5 => (if r5 != ((nth d v2).Had) then Q [] false else F47.E r4 ((nth d v2).Was) (fun r6 => (if !r6 then Q [] false else F107.E xs2 ((nth d v2).Id) (fun r7 => (if decide (r7 ≥ 0) then (I64 (r7 + 1)) ∧ F11.E xs2 r7 (r7 + 1) (fun r8 => (if (nth d v2).Has then F40.E ((nth d v2).Now) (fun r9 => (r8.length + ([r9] : List Feat).length ≤ 268435456) ∧ (I64 (v2 + 1)) ∧ I106 (r8 ++ ([r9] : List Feat)) (v2 + 1) ∧ mu107 (r8 ++ ([r9] : List Feat)) (v2 + 1) < mu107 xs2 v2) else (I64 (v2 + 1)) ∧ I106 r8 (v2 + 1) ∧ mu107 r8 (v2 + 1) < mu107 xs2 v2)) else (if (nth d v2).Has then F40.E ((nth d v2).Now) (fun r10 => (xs2.length + ([r10] : List Feat).length ≤ 268435456) ∧ (I64 (v2 + 1)) ∧ I106 (xs2 ++ ([r10] : List Feat)) (v2 + 1) ∧ mu107 (xs2 ++ ([r10] : List Feat)) (v2 + 1) < mu107 xs2 v2) else (I64 (v2 + 1)) ∧ I106 xs2 (v2 + 1) ∧ mu107 xs2 (v2 + 1) < mu107 xs2 v2))))))) else F6.E xs2 (fun m => F74.E m (fun r11 => (if !r11 then Q [] false else F33.E m (fun r12 => Q r12 true)))))))))))
theorem F115.calls {s : List Feat} {A1 : Option Addr} {n2 c3 : Nat} {d : List Change} {A6 : Option Addr} {n7 c8 : Nat} {Q : List Feat → Bool → Prop} (H : F115.E s d Q) (hO : Ok w0 O) (hp4 : Sl kFeat w0 (Fr O) (G A1 n2 c3) s) (hp9 : Sl kChange w0 (Fr O) (G A6 n7 c8) d) :
  Ret Tryz.prog 34 [G A1 n2 c3, G A6 n7 c8] w0 (fun v w' => ∃ (r0 : List Feat) (r1 : Bool) (Aw0 : Option Addr) (nw0 cw0 : Nat) (q0 : Ob) (ra0 : List (List Value)), v = .tuple #[G Aw0 nw0 cw0, vb r1] ∧ Q r0 r1 ∧ Gr w0 w' none ∧ Ok w' ((bk Aw0 :: (q0 ++ [])) ++ O) ∧ (∀ b, some b ∈ (bk Aw0 :: (q0 ++ [])) → w0.heap.size ≤ b) ∧ Ow (Kd.cells 4) 44 w' ((bk Aw0 :: (q0 ++ [])) ++ O) (G Aw0 nw0 cw0) ra0 ∧ DArr dFeat_44 w' q0 r0 ra0) := by
 unfold F115.E at H;have hc0 := Ct.init hO;refine X9 Tryz.func34 Z 76 Z [.tmp 4, .tmp 5] Z Z ?_;refine Xc (Xd (Xf (G none 0 0) Z (Xf (vb false) Z (Xb (Xc (Xc (Xd (Xe (G A1 n2 c3) Z ?_))))))));refine Xs go37 (F74.calls H hc0.ok hp4) Z ?_;rintro _ ef ⟨r, rfl, H, gq⟩;have ci := hc0.k0 gq;refine Xa (X5 r Z) (Xe (vb (!r)) Z ?_);rcases X4 (!r) with aq | aq
 ·have H := Xn H aq;refine Xi aq Z (Xi aq Z (Xi aq Z (Xa (Xk true (vb true) aq Z) (Xb (Yo (b := true) Z Z ?_)))));refine Xc (Xd ?_);have gs : DArr dFeat_44 ef ([] : Ob) ([] : List Feat) ([] : List (List Value)) := Z;refine X8 (kd := Kd.cells 4) Yl ci ([] : List (List Value)) (cells := []) Z RF fun k3 bz c5 c6 gt hr23 eg gu => ?_;have eh : ([bk bz] : Ob).Perm (bk bz :: (([] : Ob) ++ [])) := RP;have c7 := eg.perm eh;refine Xf (G bz c5 c6) Z (Xf (vb false) Z (Xb (Xm ?_)));have gw := (eg.sp gu eh);have gx := (gs.k0 gt);exact ⟨[G bz c5 c6, vb false], ⟨_, Z, ⟨_, Z, Z⟩⟩, ([] : List Feat), false, bz, c5, c6, ([] : Ob), ([] : List (List Value)), Z, H, c7.gr.g0, c7.ok, c7.ge, gw, gx⟩
 have H := Xo H aq;refine Xg aq Z (Xe (G A6 n7 c8) Z (Xg aq Z ?_));refine Xs go17 (F100.calls H ci.ok (hp9.st ci.st)) Z ?_;rintro _ ei ⟨r2, rfl, H, gy⟩;have cj := ci.k0 gy;refine Xg aq Z (Xa (X5 r2 Z) (Xa (Xk false (vb (!r2)) aq Z) (Xb ?_)));refine Xu (!r2) Z (fun c9 => ?_) (fun c9 => ?_)
 ·have H := Xn H c9;refine Xc (Xd ?_);have gz : DArr dFeat_44 ei ([] : Ob) ([] : List Feat) ([] : List (List Value)) := Z;refine X8 (kd := Kd.cells 4) Yl cj ([] : List (List Value)) (cells := []) Z RF fun k4 b0 da db g1 hr44 ej g2 => ?_;have ek : ([bk b0] : Ob).Perm (bk b0 :: (([] : Ob) ++ [])) := RP;have dc := ej.perm ek;refine Xf (G b0 da db) Z (Xf (vb false) Z (Xb (Xm ?_)));have g3 := (ej.sp g2 ek);have g4 := (gz.k0 g1);exact ⟨[G b0 da db, vb false], ⟨_, Z, ⟨_, Z, Z⟩⟩, ([] : List Feat), false, b0, da, db, ([] : Ob), ([] : List (List Value)), Z, H, dc.gr.g0, dc.ok, dc.ge, g3, g4⟩
 have H := Xo H c9;refine Xx (Xc (Xd (Xe (G A1 n2 c3) Z ?_)));refine Xs go81 (F33.calls H cj.ok (hp4.st cj.st)) Z ?_;rintro _ k5 ⟨r3, bc, el, em, b1, k6, rfl, H, g5, g6, g7, g8, g9⟩;have en := cj.owns g5 g6 g7;have eo : (((bk bc :: (b1 ++ [])) ++ []) : Ob).Perm (bk bc :: (b1 ++ [])) := RP;have dd := en.perm eo;refine Xf (G bc el em) Z (Xb (Xc (Xc (Xd (Xe (G A6 n7 c8) Z ?_)))));have k7 := (hp9.st dd.st).le;refine Xa (Ya u23_ A6 n7 c8 (hp9.st dd.st).len Z) (Xe (vi 0) Z (Xb (X6 ?_)));have ha := (en.spa g8 eo);have hb := g9;have hc : ((bk bc :: (b1 ++ [])) : Ob).Perm (b1 ++ [bk bc]) := RP;obtain ⟨hd, de, k8⟩ := Dp.own (L := (bk bc :: (b1 ++ []))) (O := O) ha hb dd hc (memi 0 Z);obtain ⟨he, hf, df, H⟩ := H;refine Yk (α := (List Feat) × (Option Addr) × Nat × Nat × Int) (fun (xs2, aa, ad, ac, v2) t bf => he xs2 v2 ∧ Has t [(0, G A1 n2 c3), (6, G aa ad ac), (23, G A6 n7 c8), (24, vi (d.length : Int)), (25, vi v2)] ∧ Cw [] w0 bf [bk aa] O fun M => Sl kFeat bf (Fr M) (G A1 n2 c3) s ∧ Sl kChange bf (Fr M) (G A6 n7 c8) d ∧ Ow kFeat 44 bf M (G aa ad ac) xs2) (fun (xs2, _, _, _, v2) => hf xs2 v2) (r3, bc, el, em, 0) ⟨df, (Xy Z), de, (hp4.st de.st), (hp9.st de.st), hd⟩ ?_;rintro ⟨xs2, aa, ad, ac, v2⟩ _ bf ⟨df, hg, ck, hh, bg, b2⟩;obtain ⟨k9, rfl⟩ := Has.ins hg;have H := H xs2 v2 df;refine Xc (Xd (Xa (X1 v2 (d.length : Int) (decide (v2 < (d.length : Int))) Z Z Z) (Xb (Xc ?_))));refine Xu (decide (v2 < (d.length : Int))) Z (fun dg => ?_) (fun dg => ?_)
 ·have H := Xn H dg;refine Xx (Xc (X6 (Xc (Xd ?_))));obtain ⟨ep, H⟩ := H;obtain ⟨eq, la, hi, lb, hj, hk⟩ := bg.get default RD v2 ep;obtain ⟨bh, bi, bj, bl, bn, bo, a1, a2, a3, a4, a5, a6, rfl, er, hl, hm, hn, es, et, eu⟩ := kChange.op hj;refine Xa (X3 u23_ Y2 A6 eq n7 c8 bg.len v2 Z hi Z ep) (Xa (Xt ag62 sz62 cL (eq.add (v2.toNat * 11)) [vs ((nth d v2).Id), vb ((nth d v2).Had), vs ((nth d v2).Was.Id), vi ((nth d v2).Was.Shape.Kind), G bh bi bj, G bl bn bo, vb ((nth d v2).Has), vs ((nth d v2).Now.Id), vi ((nth d v2).Now.Shape.Kind), G a1 a2 a3, G a4 a5 a6] Z Z hk) (Yj [vs [], vb false, vs [], .int .i64 0, G none 0 0, G none 0 0, vb false, vs [], .int .i64 0, G none 0 0, G none 0 0] ze62 fun lc ab bp hu147 bq ho => ?_));have br := ck.own bq (some ab) (Yh bp hu147);refine Yd [vs ((nth d v2).Id), vb ((nth d v2).Had), vs ((nth d v2).Was.Id), vi ((nth d v2).Was.Shape.Kind), G bh bi bj, G bl bn bo, vb ((nth d v2).Has), vs ((nth d v2).Now.Id), vi ((nth d v2).Now.Shape.Kind), G a1 a2 a3, G a4 a5 a6] ho Z Z sz62 Z Z fun hp bs ev => ?_;have bd := br.wr 0 Z bs;refine Xb (Xc (Xd (Xe (G A1 n2 c3) Z (Xa (Xj fa62_0 (Ad ab 0) (Ad ab 0) Z Z) (Xa (Xq ag9 cL (Ad ab 0) (vs ((nth d v2).Id)) Z (ev.cell Z)) ?_)))));have ar := ck.stown _ bq (X0 bp);have au := br.stw 0 Z bs;have b3 := ((hh.st ar).st au);refine Xs go60 (F141.calls H bd.ok b3 er) Z ?_;rintro _ ld ⟨r4, r5, af, a7, a8, ag, a9, ba, rfl, H, av, hq, ax, hr, hs, ht⟩;have bt := bd.owns av hq ax;refine Xe (.tuple #[.agg #[vs r4.Id, vi r4.Shape.Kind, G af a7 a8, G ag a9 ba], vb r5]) Z (Xa (Y1 [.agg #[vs r4.Id, vi r4.Shape.Kind, G af a7 a8, G ag a9 ba], vb r5] 0 (.agg #[vs r4.Id, vi r4.Shape.Kind, G af a7 a8, G ag a9 ba]) Z Z) (Xa (Y1 [.agg #[vs r4.Id, vi r4.Shape.Kind, G af a7 a8, G ag a9 ba], vb r5] 1 (vb r5) Z Z) (Yj [vs [], .int .i64 0, G none 0 0, G none 0 0] ze44 fun lf bb al hu179 ai hu => ?_)));have aj := bt.own ai (some bb) (Yh al hu179);refine Yd [vs r4.Id, vi r4.Shape.Kind, G af a7 a8, G ag a9 ba] hu Z Z sz44 Z Z fun ew ak hv => ?_;have ay := aj.wr 0 Z ak;refine Xf (vb r5) Z (Xb (Xc (Xc (Xd (Xe (vb r5) Z (Xa (Xj fa62_1 (Ad ab 0) (Ad ab 1) Z Z) ?_))))));have dh := (aj.bm ((ev.k0 av).k0 ai) 3 0 Z Z Z ak);refine Xa (Xq ag4 cL (Ad ab 1) (vb ((nth d v2).Had)) Z (dh.cell Z)) (Xa (Ze u4_ r5 ((nth d v2).Had) (r5 != ((nth d v2).Had)) Z Z Z) (Xe (vb (r5 != ((nth d v2).Had))) Z ?_));rcases X4 (r5 != ((nth d v2).Had)) with ah | ah
  ·have H := Xn H ah;refine Xi ah Z (Xi ah Z (Xi ah Z (Xi ah Z (Xi ah Z (Xa (Xk true (vb true) ah Z) (Xb (Yo (b := true) Z Z ?_)))))));refine Xc ?_;have hw : ([some bb, bk af, bk ag, some ab, bk aa] : Ob).Perm ((some bb :: bk af :: bk ag :: some ab :: bk aa :: []) ++ []) := RP;have hx := ay.drops hw;refine Xd ?_;have hy : DArr dFeat_44 ew ([] : Ob) ([] : List Feat) ([] : List (List Value)) := Z;refine X8 (kd := Kd.cells 4) Yl hx ([] : List (List Value)) (cells := []) Z RF fun lg b4 di dj hz hr196 ex h0 => ?_;have ey : ([bk b4] : Ob).Perm (bk b4 :: (([] : Ob) ++ [])) := RP;have dk := ex.perm ey;refine Xf (G b4 di dj) Z (Xf (vb false) Z (Xb (Xm ?_)));have h1 := (ex.sp h0 ey);have h2 := (hy.k0 hz);exact ⟨[G b4 di dj, vb false], ⟨_, Z, ⟨_, Z, Z⟩⟩, ([] : List Feat), false, b4, di, dj, ([] : Ob), ([] : List (List Value)), Z, H, dk.gr.g0, dk.ok, dk.ge, h1, h2⟩
  have H := Xo H ah;refine Xg ah Z (Xa (Xt ag44 sz44 cL (Ad bb 0) [vs r4.Id, vi r4.Shape.Kind, G af a7 a8, G ag a9 ba] Z Z (hv.cells (off := 00) Z)) (Xg ah Z (Xa (Xj fa62_2 (Ad ab 0) (Ad ab 2) Z Z) (Xg ah Z (Xa (Xt ag44 sz44 cL (Ad ab 2) [vs ((nth d v2).Was.Id), vi ((nth d v2).Was.Shape.Kind), G bh bi bj, G bl bn bo] Z Z (dh.cells (off := 2) Z)) (Xg ah Z ?_))))));have h3 := (aj.sw (hs.so _ ai (X0 al)) 1 0 Z Z Z ak);have h4 := ay.gv h3 1 Z;have dl := ay.drop 1 Z;have h5 := (ay.sd (aj.sw (ht.so _ ai (X0 al)) 2 0 Z Z Z ak) 2 1 Z Z Z);have h6 := dl.gv h5 1 Z;have h7 := dl.drop 1 Z;have dm := dl.std 1 Z;have ez := bd.stos av ax;have e0 := bt.stown _ ai (X0 al);have e1 := aj.stw 0 Z ak;have e2 := ay.std 1 Z;have h8 := (((((((hm.st ar).st au).st ez).st e0).st e1).st e2).st dm);have h9 := (((((((hn.st ar).st au).st ez).st e0).st e1).st e2).st dm);refine Xs go28 (F47.calls H h7.ok hr (h4.st dm) h6 hl h8 h9) Z ?_;rintro _ e3 ⟨r6, rfl, H, az⟩;have bu := ay.k0 az;refine Xg ah Z (Xa (X5 r6 Z) (Xa (Xk false (vb (!r6)) ah Z) (Xb ?_)));refine Xu (!r6) Z (fun dn => ?_) (fun dn => ?_)
  ·have H := Xn H dn;refine Xc ?_;have ia : ([some bb, bk af, bk ag, some ab, bk aa] : Ob).Perm ((some bb :: bk af :: bk ag :: some ab :: bk aa :: []) ++ []) := RP;have ib := bu.drops ia;refine Xd ?_;have ic : DArr dFeat_44 e3 ([] : Ob) ([] : List Feat) ([] : List (List Value)) := Z;refine X8 (kd := Kd.cells 4) Yl ib ([] : List (List Value)) (cells := []) Z RF fun lh b5 dp dq id hr234 e4 ie => ?_;have e5 : ([bk b5] : Ob).Perm (bk b5 :: (([] : Ob) ++ [])) := RP;have dr := e4.perm e5;refine Xf (G b5 dp dq) Z (Xf (vb false) Z (Xb (Xm ?_)));have ig := (e4.sp ie e5);have ih := (ic.k0 id);exact ⟨[G b5 dp dq, vb false], ⟨_, Z, ⟨_, Z, Z⟩⟩, ([] : List Feat), false, b5, dp, dq, ([] : Ob), ([] : List (List Value)), Z, H, dr.gr.g0, dr.ok, dr.ge, ig, ih⟩
  have H := Xo H dn;refine Xx (Xc (Xc ?_));have ae : ([some bb, bk af, bk ag, some ab, bk aa] : Ob).Perm ((some bb :: bk af :: bk ag :: []) ++ [some ab, bk aa]) := RP;have be := bu.drops ae;refine Xd (Xe (G aa ad ac) Z (Xa (Xj fa62_0 (Ad ab 0) (Ad ab 0) Z Z) ?_));have ds := (dh.k0 az);refine Xa (Xq ag9 cL (Ad ab 0) (vs ((nth d v2).Id)) Z (ds.cell Z)) ?_;have ii := (bu.odr ((aj.sw (((br.sw (b2.so _ bq (X0 bp)) 1 0 Z Z Z bs).sos av ax).so _ ai (X0 al)) 4 0 Z Z Z ak).sn az) ae 1 Z);have ij := be.gv ii 1 Z;have ik := be.drop 1 Z;refine Xs go82 (F107.calls H ik.ok ij er) Z ?_;rintro _ e6 ⟨r7, rfl, H, a0⟩;have aw := be.k0 a0;refine Xf (vi r7) Z (Xb (Xc (Xd (Xe (vi r7) Z (Xa (X1 r7 0 (decide (r7 ≥ 0)) Z Z Z) (Xb ?_))))));refine Xu (decide (r7 ≥ 0)) Z (fun dt => ?_) (fun dt => ?_)
  ·have H := Xn H dt;refine Xd (Xe (G aa ad ac) Z (Xe (vi r7) Z (Xe (vi r7) Z ?_)));obtain ⟨il, H⟩ := H;refine Xa (Yb r7 1 Z Z il) ?_;have im := ((bu.odr ((aj.sw (((br.sw (b2.so _ bq (X0 bp)) 1 0 Z Z Z bs).sos av ax).so _ ai (X0 al)) 4 0 Z Z Z ak).sn az) ae 1 Z).sn a0);refine Zo go86 [G aa ad ac, vi r7, vi (r7 + 1)] Z ((F11.calls e6 aw.ok aa ad ac xs2 im r7 (r7 + 1) _ H).mono ?_);rintro _ io ⟨r8, cl, rfl, H, cm, e7⟩;have bv := aw.wr 1 Z cm;refine Xf (G aa cl ac) Z (Xb (Xc (Xd (Xa (Xj fa62_3 (Ad ab 0) (Ad ab 6) Z Z) ?_))));have e8 := (aw.bm (ds.k0 a0) 0 1 Z Z Z cm);refine Xa (Xq ag4 cL (Ad ab 6) (vb ((nth d v2).Has)) Z (e8.cell Z)) (Xb ?_);refine Xu ((nth d v2).Has) Z (fun du => ?_) (fun du => ?_)
   ·have H := Xn H du;refine Xd (Xe (G aa cl ac) Z (Xa (Xj fa62_4 (Ad ab 0) (Ad ab 7) Z Z) (Xa (Xt ag44 sz44 cL (Ad ab 7) [vs ((nth d v2).Now.Id), vi ((nth d v2).Now.Shape.Kind), G a1 a2 a3, G a4 a5 a6] Z Z (e8.cells (off := 7) Z)) ?_)));have cn := bd.stos av ax;have co := bt.stown _ ai (X0 al);have cp := aj.stw 0 Z ak;have cq := ay.stn az;have cr := be.stn a0;have cs := aw.stw 1 Z cm;have ip := (((((((((et.st ar).st au).st cn).st co).st cp).st cq).st (St.drops _ O ae)).st cr).st cs);have iq := (((((((((eu.st ar).st au).st cn).st co).st cp).st cq).st (St.drops _ O ae)).st cr).st cs);refine Xs go77 (F40.calls H bv.ok es ip iq) Z ?_;rintro _ e9 ⟨r9, am, b6, b7, an, b8, b9, rfl, H, dv, ir, dw, it, iu, iv⟩;have fa := bv.owns dv ir dw;have fb : (dFeat_44).D e9 ([] ++ (([] ++ [bk am]) ++ [bk an])) r9 [vs r9.Id, vi r9.Shape.Kind, G am b6 b7, G an b8 b9] := (dFeat_44.mk _ r9 it (Ds.ofOw kPt_flat iu) (Ds.ofOw kTag_flat iv));have iw : DArr dFeat_44 e9 (([] ++ (([] ++ [bk am]) ++ [bk an])) ++ []) ([r9] : List Feat) ([[vs r9.Id, vi r9.Shape.Kind, G am b6 b7, G an b8 b9]] : List (List Value)) := ⟨_, _, Z, fb, Z⟩;refine X8 (kd := Kd.cells 4) Yl fa ([[vs r9.Id, vi r9.Shape.Kind, G am b6 b7, G an b8 b9]] : List (List Value)) (cells := [vs r9.Id, vi r9.Shape.Kind, G am b6 b7, G an b8 b9]) ⟨[vs r9.Id, vi r9.Shape.Kind, G am b6 b7, G an b8 b9], _, Z, Dd.raw _ fb, Z⟩ RF fun li bw ix iy dx hr298 ct iz => ?_;have cu : ([bk bw, bk am, bk an, some ab, bk aa] : Ob).Perm (bk bw :: some ab :: bk aa :: ((([] ++ (([] ++ [bk am]) ++ [bk an])) ++ []) ++ [])) := RP;have fc := ct.perm cu;have i0 := (ct.sp iz cu);have i1 := (iw.k0 dx);have cv : ((bk bw :: some ab :: bk aa :: ((([] ++ (([] ++ [bk am]) ++ [bk an])) ++ []) ++ [])) : Ob).Perm ((([] ++ (([] ++ [bk am]) ++ [bk an])) ++ []) ++ [bk bw, some ab, bk aa]) := RP;obtain ⟨i2, i3, lj⟩ := Dp.own (L := (bk bw :: some ab :: bk aa :: ((([] ++ (([] ++ [bk am]) ++ [bk an])) ++ []) ++ []))) (O := O) i0 i1 fc cv (memi 0 Z);obtain ⟨i4, H⟩ := H;have i5 := (fc.odr (ct.sp ((e7.sos dv dw).so _ dx hr298) cu) cv 2 Z);refine Yf Yl i3 (G aa cl ac) r8 ([r9] : List Feat) Z i5 (G bw ix iy) Z i2.sx 2 Z i4 fun lk fd fe ff ll fg dy i6 => ?_;refine Xf (G fd fe ff) Z (Xb (Xd ?_));obtain ⟨i7, H⟩ := H;refine Xa (Yb v2 1 Z Z i7) (Xe (vi (v2 + 1)) Z (Xb ?_));have dz := dy.drop 0 Z;have i8 := dz.drop 0 Z;obtain ⟨i9, ja⟩ := H;have fh := bv.stos dv dw;have fi := fa.stown _ dx hr298;have fj := ct.stp cu;have fk := dy.std 0 Z;have fl := dz.std 0 Z;have jb := ((((((((((((((b3.st cn).st co).st cp).st cq).st (St.drops _ O ae)).st cr).st cs).st fh).st fi).st fj).st (St.drops _ O cv)).st fg).st fk).st fl);have jc := ((((((((((((((((bg.st ar).st au).st cn).st co).st cp).st cq).st (St.drops _ O ae)).st cr).st cs).st fh).st fi).st fj).st (St.drops _ O cv)).st fg).st fk).st fl);have jd := (dz.sd (dy.sd i6 2 0 Z Z Z) 1 0 Z Z Z);exact ⟨((r8 ++ ([r9] : List Feat)), fd, fe, ff, v2 + 1), ja, i9, (Xy Z), i8, jb, jc, jd⟩
   have H := Xo H du;refine Xx (Xd ?_);obtain ⟨je, H⟩ := H;refine Xa (Yb v2 1 Z Z je) (Xe (vi (v2 + 1)) Z (Xb ?_));have jf := bv.drop 0 Z;obtain ⟨jg, jh⟩ := H;have fm := bd.stos av ax;have fn := bt.stown _ ai (X0 al);have fo := aj.stw 0 Z ak;have fp := ay.stn az;have fq := be.stn a0;have fr := aw.stw 1 Z cm;have fs := bv.std 0 Z;have ji := ((((((((b3.st fm).st fn).st fo).st fp).st (St.drops _ O ae)).st fq).st fr).st fs);have jj := ((((((((((bg.st ar).st au).st fm).st fn).st fo).st fp).st (St.drops _ O ae)).st fq).st fr).st fs);have jk := (bv.sd e7 1 0 Z Z Z);exact ⟨(r8, aa, cl, ac, v2 + 1), jh, jg, (Xy Z), jf, ji, jj, jk⟩
  have H := Xo H dt;refine Xx (Xc (Xd (Xa (Xj fa62_3 (Ad ab 0) (Ad ab 6) Z Z) ?_)));have ft := (ds.k0 a0);refine Xa (Xq ag4 cL (Ad ab 6) (vb ((nth d v2).Has)) Z (ft.cell Z)) (Xb ?_);refine Xu ((nth d v2).Has) Z (fun d0 => ?_) (fun d0 => ?_)
  ·have H := Xn H d0;refine Xd (Xe (G aa ad ac) Z (Xa (Xj fa62_4 (Ad ab 0) (Ad ab 7) Z Z) (Xa (Xt ag44 sz44 cL (Ad ab 7) [vs ((nth d v2).Now.Id), vi ((nth d v2).Now.Shape.Kind), G a1 a2 a3, G a4 a5 a6] Z Z (ft.cells (off := 7) Z)) ?_)));have cw := bd.stos av ax;have cx := bt.stown _ ai (X0 al);have cy := aj.stw 0 Z ak;have cz := ay.stn az;have c0 := be.stn a0;have jl := ((((((((et.st ar).st au).st cw).st cx).st cy).st cz).st (St.drops _ O ae)).st c0);have jm := ((((((((eu.st ar).st au).st cw).st cx).st cy).st cz).st (St.drops _ O ae)).st c0);refine Xs go77 (F40.calls H aw.ok es jl jm) Z ?_;rintro _ fu ⟨r10, ao, ca, cb, ap, cc, cd, rfl, H, d1, jn, d2, jo, jp, jq⟩;have fv := aw.owns d1 jn d2;have fw : (dFeat_44).D fu ([] ++ (([] ++ [bk ao]) ++ [bk ap])) r10 [vs r10.Id, vi r10.Shape.Kind, G ao ca cb, G ap cc cd] := (dFeat_44.mk _ r10 jo (Ds.ofOw kPt_flat jp) (Ds.ofOw kTag_flat jq));have jr : DArr dFeat_44 fu (([] ++ (([] ++ [bk ao]) ++ [bk ap])) ++ []) ([r10] : List Feat) ([[vs r10.Id, vi r10.Shape.Kind, G ao ca cb, G ap cc cd]] : List (List Value)) := ⟨_, _, Z, fw, Z⟩;refine X8 (kd := Kd.cells 4) Yl fv ([[vs r10.Id, vi r10.Shape.Kind, G ao ca cb, G ap cc cd]] : List (List Value)) (cells := [vs r10.Id, vi r10.Shape.Kind, G ao ca cb, G ap cc cd]) ⟨[vs r10.Id, vi r10.Shape.Kind, G ao ca cb, G ap cc cd], _, Z, Dd.raw _ fw, Z⟩ RF fun lm bx js jt d3 hr381 c1 ju => ?_;have c2 : ([bk bx, bk ao, bk ap, some ab, bk aa] : Ob).Perm (bk bx :: some ab :: bk aa :: ((([] ++ (([] ++ [bk ao]) ++ [bk ap])) ++ []) ++ [])) := RP;have fx := c1.perm c2;have jv := (c1.sp ju c2);have jw := (jr.k0 d3);have c4 : ((bk bx :: some ab :: bk aa :: ((([] ++ (([] ++ [bk ao]) ++ [bk ap])) ++ []) ++ [])) : Ob).Perm ((([] ++ (([] ++ [bk ao]) ++ [bk ap])) ++ []) ++ [bk bx, some ab, bk aa]) := RP;obtain ⟨jx, jy, ln⟩ := Dp.own (L := (bk bx :: some ab :: bk aa :: ((([] ++ (([] ++ [bk ao]) ++ [bk ap])) ++ []) ++ []))) (O := O) jv jw fx c4 (memi 0 Z);obtain ⟨jz, H⟩ := H;have j0 := (fx.odr (c1.sp ((((bu.odr ((aj.sw (((br.sw (b2.so _ bq (X0 bp)) 1 0 Z Z Z bs).sos av ax).so _ ai (X0 al)) 4 0 Z Z Z ak).sn az) ae 1 Z).sn a0).sos d1 d2).so _ d3 hr381) c2) c4 2 Z);refine Yf Yl jy (G aa ad ac) xs2 ([r10] : List Feat) Z j0 (G bx js jt) Z jx.sx 2 Z jz fun lo fy fz f0 lp f1 d4 j1 => ?_;refine Xf (G fy fz f0) Z (Xb (Xd ?_));obtain ⟨j2, H⟩ := H;refine Xa (Yb v2 1 Z Z j2) (Xe (vi (v2 + 1)) Z (Xb ?_));have d5 := d4.drop 0 Z;have j3 := d5.drop 0 Z;obtain ⟨j4, j5⟩ := H;have f2 := aw.stos d1 d2;have f3 := fv.stown _ d3 hr381;have f4 := c1.stp c2;have f5 := d4.std 0 Z;have f6 := d5.std 0 Z;have j6 := (((((((((((((b3.st cw).st cx).st cy).st cz).st (St.drops _ O ae)).st c0).st f2).st f3).st f4).st (St.drops _ O c4)).st f1).st f5).st f6);have j7 := (((((((((((((((bg.st ar).st au).st cw).st cx).st cy).st cz).st (St.drops _ O ae)).st c0).st f2).st f3).st f4).st (St.drops _ O c4)).st f1).st f5).st f6);have j8 := (d5.sd (d4.sd j1 2 0 Z Z Z) 1 0 Z Z Z);exact ⟨((xs2 ++ ([r10] : List Feat)), fy, fz, f0, v2 + 1), j5, j4, (Xy Z), j3, j6, j7, j8⟩
  have H := Xo H d0;refine Xx (Xd ?_);obtain ⟨j9, H⟩ := H;refine Xa (Yb v2 1 Z Z j9) (Xe (vi (v2 + 1)) Z (Xb ?_));have ka := aw.drop 0 Z;obtain ⟨kb, kc⟩ := H;have f7 := bd.stos av ax;have f8 := bt.stown _ ai (X0 al);have f9 := aj.stw 0 Z ak;have ga := ay.stn az;have gb := be.stn a0;have gc := aw.std 0 Z;have ke := (((((((b3.st f7).st f8).st f9).st ga).st (St.drops _ O ae)).st gb).st gc);have kf := (((((((((bg.st ar).st au).st f7).st f8).st f9).st ga).st (St.drops _ O ae)).st gb).st gc);have kg := (aw.sd ((bu.odr ((aj.sw (((br.sw (b2.so _ bq (X0 bp)) 1 0 Z Z Z bs).sos av ax).so _ ai (X0 al)) 4 0 Z Z Z ak).sn az) ae 1 Z).sn a0) 1 0 Z Z Z);exact ⟨(xs2, aa, ad, ac, v2 + 1), kc, kb, (Xy Z), ka, ke, kf, kg⟩
 have H := Xo H dg;refine Yi (xin_hit ?_);refine Xc (Xd (Xe (G aa ad ac) Z ?_));refine Zo go83 [G aa ad ac, .func (.func 87) #[] #[]] Z ((F6.calls bf ck.ok aa ad ac xs2 b2 87 go87 F65.cf F65.hlt F65.cmp _ H).mono ?_);rintro _ kh ⟨m, rfl, H, ki, gd⟩;have d6 := ck.wr 0 Z ki;refine Xb (Xc (Xc (Xd (Xe (G aa ad ac) Z ?_))));have kj := d6.gv gd 0 Z;have kk := d6.drop 0 Z;refine Xs go37 (F74.calls H kk.ok kj) Z ?_;rintro _ gf ⟨r11, rfl, H, gg⟩;have ce := d6.k0 gg;refine Xa (X5 r11 Z) (Xb ?_);refine Xu (!r11) Z (fun d7 => ?_) (fun d7 => ?_)
 ·have H := Xn H d7;refine Xc (Xd ?_);have kl : DArr dFeat_44 gf ([] : Ob) ([] : List Feat) ([] : List (List Value)) := Z;refine X8 (kd := Kd.cells 4) Yl ce ([] : List (List Value)) (cells := []) Z RF fun lq cg d8 d9 km hr452 gh kn => ?_;have gi : ([bk cg, bk aa] : Ob).Perm (bk cg :: bk aa :: (([] : Ob) ++ [])) := RP;have gj := gh.perm gi;refine Xf (G cg d8 d9) Z (Xf (vb false) Z (Xb (Xm ?_)));have ea := gj.drop 1 Z;have ko := (gj.sd (gh.sp kn gi) 0 1 Z Z Z);have kp := (kl.k0 km);exact ⟨[G cg d8 d9, vb false], ⟨_, Z, ⟨_, Z, Z⟩⟩, ([] : List Feat), false, cg, d8, d9, ([] : Ob), ([] : List (List Value)), Z, H, ea.gr.g0, ea.ok, ea.ge, ko, kp⟩
 have H := Xo H d7;refine Xx (Xc (Xd (Xe (G aa ad ac) Z ?_)));have kq := (gd.sn gg);have kr := ce.gv kq 0 Z;have ks := ce.drop 0 Z;refine Xs go81 (F33.calls H ks.ok kr) Z ?_;rintro _ lr ⟨r12, ch, eb, ec, ed, kt, rfl, H, gk, ku, gl, kv, kx⟩;have ky := Ok.unl (L := [bk aa]) (L' := []) (O := O) ce gk ku gl;have kz := Ow.unl (L := [bk aa]) (L' := []) (O := O) (fun _ _ _ _ _ _ h => h) (.cons _ (.slnil)) kv;have gm := ce.owns gk ky gl;have gn : (((bk ch :: (ed ++ [])) ++ [bk aa]) : Ob).Perm (bk ch :: bk aa :: (ed ++ [])) := RP;have gp := gm.perm gn;refine Xf (G ch eb ec) Z (Xf (vb true) Z (Xb (Xm ?_)));have ee := gp.drop 1 Z;have k1 := (gp.sd (gm.spa kz gn) 0 1 Z Z Z);have k2 := kx;exact ⟨[G ch eb ec, vb true], ⟨_, Z, ⟨_, Z, Z⟩⟩, r12, true, ch, eb, ec, ed, kt, Z, H, ee.gr.g0, ee.ok, ee.ge, k1, k2⟩
def F130.E (c_ : Change) (Q : Bool → Prop) : Prop :=
 F85.E c_.Id (fun r => (if !r then Q false else (if !c_.Had then (if !c_.Has then Q false else (if c_.Had then (if c_.Has then F46.E c_.Was c_.Now (fun r2 => (if r2 then Q false else F46.E c_.Was (⟨[], (⟨0, []⟩ : Shape), []⟩ : Feat) (fun r3 => (if !r3 then Q false else F87.E c_.Now (fun r4 => (if r4 then Q (c_.Now.Id == c_.Id) else Q false)))))) else F46.E c_.Was (⟨[], (⟨0, []⟩ : Shape), []⟩ : Feat) (fun r5 => (if !r5 then Q false else F87.E c_.Now (fun r6 => (if r6 then Q (c_.Now.Id == c_.Id) else Q false))))) else F46.E c_.Was (⟨[], (⟨0, []⟩ : Shape), []⟩ : Feat) (fun r7 => (if !r7 then Q false else F87.E c_.Now (fun r8 => (if r8 then Q (c_.Now.Id == c_.Id) else Q false)))))) else (if c_.Had then (if c_.Has then F46.E c_.Was c_.Now (fun r9 => (if r9 then Q false else (if !c_.Has then F46.E c_.Now (⟨[], (⟨0, []⟩ : Shape), []⟩ : Feat) (fun r10 => (if !r10 then Q false else F87.E c_.Was (fun r11 => (if r11 then (if c_.Was.Id == c_.Id then Q true else Q false) else Q false)))) else F87.E c_.Was (fun r12 => (if r12 then (if c_.Was.Id == c_.Id then F87.E c_.Now (fun r13 => (if r13 then Q (c_.Now.Id == c_.Id) else Q false)) else Q false) else Q false))))) else (if !c_.Has then F46.E c_.Now (⟨[], (⟨0, []⟩ : Shape), []⟩ : Feat) (fun r14 => (if !r14 then Q false else F87.E c_.Was (fun r15 => (if r15 then (if c_.Was.Id == c_.Id then Q true else Q false) else Q false)))) else F87.E c_.Was (fun r16 => (if r16 then (if c_.Was.Id == c_.Id then F87.E c_.Now (fun r17 => (if r17 then Q (c_.Now.Id == c_.Id) else Q false)) else Q false) else Q false)))) else (if !c_.Has then F46.E c_.Now (⟨[], (⟨0, []⟩ : Shape), []⟩ : Feat) (fun r18 => (if !r18 then Q false else F87.E c_.Was (fun r19 => (if r19 then (if c_.Was.Id == c_.Id then Q true else Q false) else Q false)))) else F87.E c_.Was (fun r20 => (if r20 then (if c_.Was.Id == c_.Id then F87.E c_.Now (fun r21 => (if r21 then Q (c_.Now.Id == c_.Id) else Q false)) else Q false) else Q false)))))))
theorem F130.calls {c_ : Change} {A3 : Option Addr} {n4 c5 : Nat} {A8 : Option Addr} {n9 ae : Nat} {af : Option Addr} {ag ah : Nat} {ai : Option Addr} {aj ak : Nat} {Q : Bool → Prop} (H : F130.E c_ Q) (hO : Ok w0 O) (hs1 : Lim c_.Id) (hs2 : Lim c_.Was.Id) (hp6 : Sl kPt w0 (Fr O) (G A3 n4 c5) c_.Was.Shape.Pts) (bf : Sl kTag w0 (Fr O) (G A8 n9 ae) c_.Was.Tags) (bg : Lim c_.Now.Id) (bh : Sl kPt w0 (Fr O) (G af ag ah) c_.Now.Shape.Pts) (bi : Sl kTag w0 (Fr O) (G ai aj ak) c_.Now.Tags) :
  Ret Tryz.prog 46 [.agg #[vs c_.Id, vb c_.Had, vs c_.Was.Id, vi c_.Was.Shape.Kind, G A3 n4 c5, G A8 n9 ae, vb c_.Has, vs c_.Now.Id, vi c_.Now.Shape.Kind, G af ag ah, G ai aj ak]] w0 (fun v w' => ∃ (r0 : Bool), v = vb r0 ∧ Q r0 ∧ Gr w0 w' none) := by
 unfold F130.E at H;have hc0 := Ct.init hO;refine X9 Tryz.func46 Z 88 Z [.tmp 2] Z Z ?_;refine Xc (Xd (Yt [vs c_.Id, vb c_.Had, vs c_.Was.Id, vi c_.Was.Shape.Kind, G A3 n4 c5, G A8 n9 ae, vb c_.Has, vs c_.Now.Id, vi c_.Now.Shape.Kind, G af ag ah, G ai aj ak] Z fun dn aa dp hu28 dq dr => ?_));have cm := Fb.mk hc0.ok dp dr;have b6 := hc0.k0 dq;refine Xf (vb false) Z (Xb (Xc (Xc (Xd (Xa (Xj fa62_0 (Ad aa 0) (Ad aa 0) Z Z) (Xa (Xq ag9 cL (Ad aa 0) (vs c_.Id) Z (cm.cell Z)) ?_))))));refine Xs go65 (F85.calls H b6.ok hs1) Z ?_;rintro _ bn ⟨r, rfl, H, cn⟩;have ad := b6.k0 cn;refine Xa (X5 r Z) (Xe (vb (!r)) Z ?_);rcases X4 (!r) with ap | ap
 ·have H := Xn H ap;refine Xi ap Z (Xi ap Z (Xi ap Z (Xi ap Z (Xr Z (Xr Z (Xr Z (Xi ap Z (Xa (Xk true (vb true) ap Z) ?_))))))));refine Xe (vb true) Z (X7 (dj := 17) Z Z (.inl Z) (X7 (dj := 17) Z Z (.inl Z) (X7 (dj := 17) Z Z (.inl Z) (Xr Z (Xr Z (X7 (dj := 17) Z Z (.inl Z) (X7 (dj := 17) Z Z (.inl Z) (Xr Z ?_))))))));refine Xr Z (Xr Z (Xr Z (Xr Z (X7 (dj := 17) Z Z (.inl Z) (Xa (Xk true (vb true) Z Z) (Xb (Yo (b := true) Z Z ?_)))))));exact Xc (Xd (Xf (vb false) Z (Xb (Xm ⟨[vb false], ⟨_, Z, Z⟩, false, Z, H, ad.gr.g0⟩))))
 have H := Xo H ap;refine Xg ap Z (Xa (Xj fa62_1 (Ad aa 0) (Ad aa 1) Z Z) (Xg ap Z ?_));have ds := b6.stn cn;have al := (cm.st ds);refine Xa (Xq ag4 cL (Ad aa 1) (vb c_.Had) Z (al.cell Z)) (Xg ap Z (Xa (X5 c_.Had Z) (Xg ap Z (Xe (vb (!c_.Had)) Z ?_))));rcases X4 (!c_.Had) with ab | ab
 ·have H := Xn H ab;refine Xg ab Z (Xa (Xj fa62_3 (Ad aa 0) (Ad aa 6) Z Z) (Xg ab Z (Xa (Xq ag4 cL (Ad aa 6) (vb c_.Has) Z (al.cell Z)) (Xg ab Z (Xa (X5 c_.Has Z) (Xg ap Z (Xa (Xk true (vb (!c_.Has)) ab Z) (Xa (Xk false (vb (!c_.Has)) ap Z) ?_))))))));refine Xe (vb (!c_.Has)) Z ?_;rcases X4 (!c_.Has) with ac | ac
  ·have H := Xn H ac;refine Xi ac Z (Xi ac Z (Xi ac Z (Xr Z (Xr Z (Xi ac Z (Xi ac Z (Xr Z (Xr Z ?_))))))));refine Xr Z (Xr Z (Xr Z (Xi ac Z (Xa (Xk true (vb true) ac Z) (Xb (Yo (b := true) Z Z ?_))))));exact Xc (Xd (Xf (vb false) Z (Xb (Xm ⟨[vb false], ⟨_, Z, Z⟩, false, Z, H, ad.gr.g0⟩))))
  have H := Xo H ac;refine Xg ac Z (Xa (Xj fa62_1 (Ad aa 0) (Ad aa 1) Z Z) (Xg ac Z (Xa (Xq ag4 cL (Ad aa 1) (vb c_.Had) Z (al.cell Z)) (Xg ac Z (Xe (vb c_.Had) Z ?_)))));rcases X4 c_.Had with bl | bl
  ·have H := Xn H bl;refine Xg bl Z (Xa (Xj fa62_3 (Ad aa 0) (Ad aa 6) Z Z) (Xg bl Z (Xa (Xq ag4 cL (Ad aa 6) (vb c_.Has) Z (al.cell Z)) (Xg ac Z (Xa (Xk true (vb c_.Has) bl Z) (Xg ac Z (Xe (vb c_.Has) Z ?_)))))));rcases X4 c_.Has with a7 | a7
   ·have H := Xn H a7;refine Xg a7 Z (Xa (Xj fa62_2 (Ad aa 0) (Ad aa 2) Z Z) (Xg a7 Z (Xa (Xt ag44 sz44 cL (Ad aa 2) [vs c_.Was.Id, vi c_.Was.Shape.Kind, G A3 n4 c5, G A8 n9 ae] Z Z (al.cells (off := 2) Z)) (Xg a7 Z (Xa (Xj fa62_4 (Ad aa 0) (Ad aa 7) Z Z) (Xg a7 Z (Xa (Xt ag44 sz44 cL (Ad aa 7) [vs c_.Now.Id, vi c_.Now.Shape.Kind, G af ag ah, G ai aj ak] Z Z (al.cells (off := 7) Z)) (Xg a7 Z ?_))))))));refine Xs go94 (F46.calls H ad.ok hs2 (hp6.st ad.st) (bf.st ad.st) bg (bh.st ad.st) (bi.st ad.st)) Z ?_;rintro _ dt ⟨r2, rfl, H, co⟩;have bs := ad.k0 co;refine Xg ac Z (Xa (Xk true (vb r2) a7 Z) (Xa (Xk false (vb r2) ac Z) (Xb ?_)));refine Xu r2 Z (fun b7 => ?_) (fun b7 => ?_)
    ·have H := Xn H b7;exact Xc (Xd (Xf (vb false) Z (Xb (Xm ⟨[vb false], ⟨_, Z, Z⟩, false, Z, H, bs.gr.g0⟩))))
    have H := Xo H b7;refine Xx (Xc (Xc (Xd (Xa (Xj fa62_1 (Ad aa 0) (Ad aa 1) Z Z) ?_))));have du := ad.stn co;have b8 := (al.st du);refine Xa (Xq ag4 cL (Ad aa 1) (vb c_.Had) Z (b8.cell Z)) (Xa (X5 c_.Had Z) (Xe (vb (!c_.Had)) Z (Xg ab Z (Xa (Xj fa62_2 (Ad aa 0) (Ad aa 2) Z Z) (Xg ab Z (Xa (Xt ag44 sz44 cL (Ad aa 2) [vs c_.Was.Id, vi c_.Was.Shape.Kind, G A3 n4 c5, G A8 n9 ae] Z Z (b8.cells (off := 2) Z)) (Xg ab Z (Xa (Yn (.agg #[vs [], vi 0, G none 0 0, G none 0 0]) RF) ?_))))))));refine Xg ab Z ?_;refine Xs go94 (F46.calls H bs.ok hs2 (hp6.st bs.st) (bf.st bs.st) RD (Sl.nil _ _ _ none 0 RD) (Sl.nil _ _ _ none 0 RD)) Z ?_;rintro _ dv ⟨r3, rfl, H, cp⟩;have bt := bs.k0 cp;refine Xg ab Z (Xa (X5 r3 Z) (Xa (Xk true (vb (!r3)) ab Z) (Xe (vb (!r3)) Z ?_)));rcases X4 (!r3) with a8 | a8
    ·have H := Xn H a8;refine Xi a8 Z (Xi a8 Z (Xi a8 Z (Xi a8 Z (Xr Z (Xr Z (Xr Z (Xr Z (Xr Z ?_))))))));refine Xi a8 Z (Xa (Xk true (vb true) a8 Z) (Xb (Yo (b := true) Z Z ?_)));exact Xc (Xd (Xf (vb false) Z (Xb (Xm ⟨[vb false], ⟨_, Z, Z⟩, false, Z, H, bt.gr.g0⟩))))
    have H := Xo H a8;refine Xg a8 Z (Xa (Xj fa62_3 (Ad aa 0) (Ad aa 6) Z Z) (Xg a8 Z ?_));have dw := bs.stn cp;have b0 := (b8.st dw);refine Xa (Xq ag4 cL (Ad aa 6) (vb c_.Has) Z (b0.cell Z)) (Xg a8 Z (Xa (X5 c_.Has Z) (Xg a8 Z (Xe (vb (!c_.Has)) Z (Xi ac Z (Xi ac Z (Xi ac Z (Xi ac Z ?_))))))));refine Xi ac Z (Xg a8 Z (Xa (Xk false (vb false) ac Z) (Xa (Xk false (vb false) a8 Z) (Xb (Y3 (b := false) Z Z ?_)))));refine Xx (Xc (Xd (Xa (Xj fa62_1 (Ad aa 0) (Ad aa 1) Z Z) (Xa (Xq ag4 cL (Ad aa 1) (vb c_.Had) Z (b0.cell Z)) (Xa (X5 c_.Had Z) (Xe (vb (!c_.Had)) Z (Xi ab Z (Xi ab Z ?_))))))));refine Xi ab Z (Xi ab Z (Xr Z (Xr Z (Xr Z (Xr Z (Xr Z (Xr Z (Xi ab Z ?_))))))));refine Xa (Xk true (vb true) ab Z) (Xe (vb true) Z (Yg (dj := 70) Z Z Z (Xa (Xj fa62_3 (Ad aa 0) (Ad aa 6) Z Z) (Yg (dj := 70) Z Z Z (Xa (Xq ag4 cL (Ad aa 6) (vb c_.Has) Z (b0.cell Z)) (Yg (dj := 70) Z Z Z (Xa (X5 c_.Has Z) (Yg (dj := 70) Z Z Z ?_))))))));refine Xe (vb (!c_.Has)) Z (Xg ac Z (Xa (Xj fa62_4 (Ad aa 0) (Ad aa 7) Z Z) (Xg ac Z (Xa (Xt ag44 sz44 cL (Ad aa 7) [vs c_.Now.Id, vi c_.Now.Shape.Kind, G af ag ah, G ai aj ak] Z Z (b0.cells (off := 7) Z)) (Xg ac Z ?_)))));refine Xs go24 (F87.calls H bt.ok bg (bh.st bt.st) (bi.st bt.st)) Z ?_;rintro _ en ⟨r4, rfl, H, cq⟩;have cr := bt.k0 cq;refine Xg ac Z (Xe (vb r4) Z ?_);rcases X4 r4 with aq | aq
    ·have H := Xn H aq;refine Xg aq Z (Xa (Xj fa62_4 (Ad aa 0) (Ad aa 7) Z Z) (Xg aq Z (Xa (Xj fa44_0 (Ad aa 7) (Ad aa 7) Z Z) (Xg aq Z ?_))));have dx := bt.stn cq;have cs := (b0.st dx);refine Xa (Xq ag9 cL (Ad aa 7) (vs c_.Now.Id) Z (cs.cell Z)) (Xg aq Z (Xa (Xj fa62_0 (Ad aa 0) (Ad aa 0) Z Z) (Xg aq Z (Xa (Xq ag9 cL (Ad aa 0) (vs c_.Id) Z (cs.cell Z)) (Xg aq Z (Xa (Yp c_.Now.Id c_.Id (c_.Now.Id == c_.Id) Z Z Z) (Xg ac Z (Xa (Xk true (vb (c_.Now.Id == c_.Id)) aq Z) ?_))))))));exact Yg (dj := 70) Z Z Z (Xa (Xk false (vb (c_.Now.Id == c_.Id)) ac Z) (Xa (Xk true (vb (c_.Now.Id == c_.Id)) Z Z) (Xf (vb (c_.Now.Id == c_.Id)) Z (Xb (Xm ⟨[vb (c_.Now.Id == c_.Id)], ⟨_, Z, Z⟩, c_.Now.Id == c_.Id, Z, H, cr.gr.g0⟩)))))
    have H := Xo H aq;refine Xi aq Z (Xi aq Z (Xi aq Z (Xi aq Z (Xi aq Z (Xi aq Z (Xg ac Z (Xa (Xk false (vb false) aq Z) (Yg (dj := 70) Z Z Z ?_))))))));exact Xa (Xk false (vb false) ac Z) (Xa (Xk true (vb false) Z Z) (Xf (vb false) Z (Xb (Xm ⟨[vb false], ⟨_, Z, Z⟩, false, Z, H, cr.gr.g0⟩))))
   have H := Xo H a7;refine Xi a7 Z (Xi a7 Z (Xi a7 Z (Xi a7 Z (Xi a7 Z (Xg ac Z (Xa (Xk false (vb false) a7 Z) (Xa (Xk false (vb false) ac Z) (Xb ?_))))))));refine Y3 (b := false) Z Z ?_;refine Xx (Xc (Xc (Xd (Xa (Xj fa62_1 (Ad aa 0) (Ad aa 1) Z Z) (Xa (Xq ag4 cL (Ad aa 1) (vb c_.Had) Z (al.cell Z)) (Xa (X5 c_.Had Z) (Xe (vb (!c_.Had)) Z (Xg ab Z ?_))))))));refine Xa (Xj fa62_2 (Ad aa 0) (Ad aa 2) Z Z) (Xg ab Z (Xa (Xt ag44 sz44 cL (Ad aa 2) [vs c_.Was.Id, vi c_.Was.Shape.Kind, G A3 n4 c5, G A8 n9 ae] Z Z (al.cells (off := 2) Z)) (Xg ab Z (Xa (Yn (.agg #[vs [], vi 0, G none 0 0, G none 0 0]) RF) (Xg ab Z ?_)))));refine Xs go94 (F46.calls H ad.ok hs2 (hp6.st ad.st) (bf.st ad.st) RD (Sl.nil _ _ _ none 0 RD) (Sl.nil _ _ _ none 0 RD)) Z ?_;rintro _ dy ⟨r5, rfl, H, ct⟩;have bu := ad.k0 ct;refine Xg ab Z (Xa (X5 r5 Z) (Xa (Xk true (vb (!r5)) ab Z) (Xe (vb (!r5)) Z ?_)));rcases X4 (!r5) with a9 | a9
   ·have H := Xn H a9;refine Xi a9 Z (Xi a9 Z (Xi a9 Z (Xi a9 Z (Xr Z (Xr Z (Xr Z (Xr Z (Xr Z ?_))))))));refine Xi a9 Z (Xa (Xk true (vb true) a9 Z) (Xb (Yo (b := true) Z Z ?_)));exact Xc (Xd (Xf (vb false) Z (Xb (Xm ⟨[vb false], ⟨_, Z, Z⟩, false, Z, H, bu.gr.g0⟩))))
   have H := Xo H a9;refine Xg a9 Z (Xa (Xj fa62_3 (Ad aa 0) (Ad aa 6) Z Z) (Xg a9 Z ?_));have dz := ad.stn ct;have b1 := (al.st dz);refine Xa (Xq ag4 cL (Ad aa 6) (vb c_.Has) Z (b1.cell Z)) (Xg a9 Z (Xa (X5 c_.Has Z) (Xg a9 Z (Xe (vb (!c_.Has)) Z (Xi ac Z (Xi ac Z (Xi ac Z (Xi ac Z ?_))))))));refine Xi ac Z (Xg a9 Z (Xa (Xk false (vb false) ac Z) (Xa (Xk false (vb false) a9 Z) (Xb (Y3 (b := false) Z Z ?_)))));refine Xx (Xc (Xd (Xa (Xj fa62_1 (Ad aa 0) (Ad aa 1) Z Z) (Xa (Xq ag4 cL (Ad aa 1) (vb c_.Had) Z (b1.cell Z)) (Xa (X5 c_.Had Z) (Xe (vb (!c_.Had)) Z (Xi ab Z (Xi ab Z ?_))))))));refine Xi ab Z (Xi ab Z (Xr Z (Xr Z (Xr Z (Xr Z (Xr Z (Xr Z (Xi ab Z ?_))))))));refine Xa (Xk true (vb true) ab Z) (Xe (vb true) Z (Yg (dj := 70) Z Z Z (Xa (Xj fa62_3 (Ad aa 0) (Ad aa 6) Z Z) (Yg (dj := 70) Z Z Z (Xa (Xq ag4 cL (Ad aa 6) (vb c_.Has) Z (b1.cell Z)) (Yg (dj := 70) Z Z Z (Xa (X5 c_.Has Z) (Yg (dj := 70) Z Z Z ?_))))))));refine Xe (vb (!c_.Has)) Z (Xg ac Z (Xa (Xj fa62_4 (Ad aa 0) (Ad aa 7) Z Z) (Xg ac Z (Xa (Xt ag44 sz44 cL (Ad aa 7) [vs c_.Now.Id, vi c_.Now.Shape.Kind, G af ag ah, G ai aj ak] Z Z (b1.cells (off := 7) Z)) (Xg ac Z ?_)))));refine Xs go24 (F87.calls H bu.ok bg (bh.st bu.st) (bi.st bu.st)) Z ?_;rintro _ eo ⟨r6, rfl, H, cu⟩;have cv := bu.k0 cu;refine Xg ac Z (Xe (vb r6) Z ?_);rcases X4 r6 with ar | ar
   ·have H := Xn H ar;refine Xg ar Z (Xa (Xj fa62_4 (Ad aa 0) (Ad aa 7) Z Z) (Xg ar Z (Xa (Xj fa44_0 (Ad aa 7) (Ad aa 7) Z Z) (Xg ar Z ?_))));have d0 := bu.stn cu;have cw := (b1.st d0);refine Xa (Xq ag9 cL (Ad aa 7) (vs c_.Now.Id) Z (cw.cell Z)) (Xg ar Z (Xa (Xj fa62_0 (Ad aa 0) (Ad aa 0) Z Z) (Xg ar Z (Xa (Xq ag9 cL (Ad aa 0) (vs c_.Id) Z (cw.cell Z)) (Xg ar Z (Xa (Yp c_.Now.Id c_.Id (c_.Now.Id == c_.Id) Z Z Z) (Xg ac Z (Xa (Xk true (vb (c_.Now.Id == c_.Id)) ar Z) ?_))))))));exact Yg (dj := 70) Z Z Z (Xa (Xk false (vb (c_.Now.Id == c_.Id)) ac Z) (Xa (Xk true (vb (c_.Now.Id == c_.Id)) Z Z) (Xf (vb (c_.Now.Id == c_.Id)) Z (Xb (Xm ⟨[vb (c_.Now.Id == c_.Id)], ⟨_, Z, Z⟩, c_.Now.Id == c_.Id, Z, H, cv.gr.g0⟩)))))
   have H := Xo H ar;refine Xi ar Z (Xi ar Z (Xi ar Z (Xi ar Z (Xi ar Z (Xi ar Z (Xg ac Z (Xa (Xk false (vb false) ar Z) (Yg (dj := 70) Z Z Z ?_))))))));exact Xa (Xk false (vb false) ac Z) (Xa (Xk true (vb false) Z Z) (Xf (vb false) Z (Xb (Xm ⟨[vb false], ⟨_, Z, Z⟩, false, Z, H, cv.gr.g0⟩))))
  have H := Xo H bl;refine Xi bl Z (Xi bl Z (Xg ac Z (Xa (Xk false (vb false) bl Z) (Xg ac Z (Xe (vb false) Z (X7 (dj := 24) Z Z (.inl Z) (X7 (dj := 24) Z Z (.inl Z) (X7 (dj := 24) Z Z (.inl Z) ?_))))))));refine X7 (dj := 24) Z Z (.inl Z) (X7 (dj := 24) Z Z (.inl Z) (Xg ac Z (Xa (Xk false (vb false) Z Z) (Xa (Xk false (vb false) ac Z) (Xb (Y3 (b := false) Z Z ?_))))));refine Xx (Xc (Xc (Xd (Xa (Xj fa62_1 (Ad aa 0) (Ad aa 1) Z Z) (Xa (Xq ag4 cL (Ad aa 1) (vb c_.Had) Z (al.cell Z)) (Xa (X5 c_.Had Z) (Xe (vb (!c_.Had)) Z (Xg ab Z ?_))))))));refine Xa (Xj fa62_2 (Ad aa 0) (Ad aa 2) Z Z) (Xg ab Z (Xa (Xt ag44 sz44 cL (Ad aa 2) [vs c_.Was.Id, vi c_.Was.Shape.Kind, G A3 n4 c5, G A8 n9 ae] Z Z (al.cells (off := 2) Z)) (Xg ab Z (Xa (Yn (.agg #[vs [], vi 0, G none 0 0, G none 0 0]) RF) (Xg ab Z ?_)))));refine Xs go94 (F46.calls H ad.ok hs2 (hp6.st ad.st) (bf.st ad.st) RD (Sl.nil _ _ _ none 0 RD) (Sl.nil _ _ _ none 0 RD)) Z ?_;rintro _ d1 ⟨r7, rfl, H, cx⟩;have bv := ad.k0 cx;refine Xg ab Z (Xa (X5 r7 Z) (Xa (Xk true (vb (!r7)) ab Z) (Xe (vb (!r7)) Z ?_)));rcases X4 (!r7) with ba | ba
  ·have H := Xn H ba;refine Xi ba Z (Xi ba Z (Xi ba Z (Xi ba Z (Xr Z (Xr Z (Xr Z (Xr Z (Xr Z ?_))))))));refine Xi ba Z (Xa (Xk true (vb true) ba Z) (Xb (Yo (b := true) Z Z ?_)));exact Xc (Xd (Xf (vb false) Z (Xb (Xm ⟨[vb false], ⟨_, Z, Z⟩, false, Z, H, bv.gr.g0⟩))))
  have H := Xo H ba;refine Xg ba Z (Xa (Xj fa62_3 (Ad aa 0) (Ad aa 6) Z Z) (Xg ba Z ?_));have d2 := ad.stn cx;have b2 := (al.st d2);refine Xa (Xq ag4 cL (Ad aa 6) (vb c_.Has) Z (b2.cell Z)) (Xg ba Z (Xa (X5 c_.Has Z) (Xg ba Z (Xe (vb (!c_.Has)) Z (Xi ac Z (Xi ac Z (Xi ac Z (Xi ac Z ?_))))))));refine Xi ac Z (Xg ba Z (Xa (Xk false (vb false) ac Z) (Xa (Xk false (vb false) ba Z) (Xb (Y3 (b := false) Z Z ?_)))));refine Xx (Xc (Xd (Xa (Xj fa62_1 (Ad aa 0) (Ad aa 1) Z Z) (Xa (Xq ag4 cL (Ad aa 1) (vb c_.Had) Z (b2.cell Z)) (Xa (X5 c_.Had Z) (Xe (vb (!c_.Had)) Z (Xi ab Z (Xi ab Z ?_))))))));refine Xi ab Z (Xi ab Z (Xr Z (Xr Z (Xr Z (Xr Z (Xr Z (Xr Z (Xi ab Z ?_))))))));refine Xa (Xk true (vb true) ab Z) (Xe (vb true) Z (Yg (dj := 70) Z Z Z (Xa (Xj fa62_3 (Ad aa 0) (Ad aa 6) Z Z) (Yg (dj := 70) Z Z Z (Xa (Xq ag4 cL (Ad aa 6) (vb c_.Has) Z (b2.cell Z)) (Yg (dj := 70) Z Z Z (Xa (X5 c_.Has Z) (Yg (dj := 70) Z Z Z ?_))))))));refine Xe (vb (!c_.Has)) Z (Xg ac Z (Xa (Xj fa62_4 (Ad aa 0) (Ad aa 7) Z Z) (Xg ac Z (Xa (Xt ag44 sz44 cL (Ad aa 7) [vs c_.Now.Id, vi c_.Now.Shape.Kind, G af ag ah, G ai aj ak] Z Z (b2.cells (off := 7) Z)) (Xg ac Z ?_)))));refine Xs go24 (F87.calls H bv.ok bg (bh.st bv.st) (bi.st bv.st)) Z ?_;rintro _ ep ⟨r8, rfl, H, cy⟩;have cz := bv.k0 cy;refine Xg ac Z (Xe (vb r8) Z ?_);rcases X4 r8 with au | au
  ·have H := Xn H au;refine Xg au Z (Xa (Xj fa62_4 (Ad aa 0) (Ad aa 7) Z Z) (Xg au Z (Xa (Xj fa44_0 (Ad aa 7) (Ad aa 7) Z Z) (Xg au Z ?_))));have d3 := bv.stn cy;have c0 := (b2.st d3);refine Xa (Xq ag9 cL (Ad aa 7) (vs c_.Now.Id) Z (c0.cell Z)) (Xg au Z (Xa (Xj fa62_0 (Ad aa 0) (Ad aa 0) Z Z) (Xg au Z (Xa (Xq ag9 cL (Ad aa 0) (vs c_.Id) Z (c0.cell Z)) (Xg au Z (Xa (Yp c_.Now.Id c_.Id (c_.Now.Id == c_.Id) Z Z Z) (Xg ac Z (Xa (Xk true (vb (c_.Now.Id == c_.Id)) au Z) ?_))))))));exact Yg (dj := 70) Z Z Z (Xa (Xk false (vb (c_.Now.Id == c_.Id)) ac Z) (Xa (Xk true (vb (c_.Now.Id == c_.Id)) Z Z) (Xf (vb (c_.Now.Id == c_.Id)) Z (Xb (Xm ⟨[vb (c_.Now.Id == c_.Id)], ⟨_, Z, Z⟩, c_.Now.Id == c_.Id, Z, H, cz.gr.g0⟩)))))
  have H := Xo H au;refine Xi au Z (Xi au Z (Xi au Z (Xi au Z (Xi au Z (Xi au Z (Xg ac Z (Xa (Xk false (vb false) au Z) (Yg (dj := 70) Z Z Z ?_))))))));exact Xa (Xk false (vb false) ac Z) (Xa (Xk true (vb false) Z Z) (Xf (vb false) Z (Xb (Xm ⟨[vb false], ⟨_, Z, Z⟩, false, Z, H, cz.gr.g0⟩))))
 have H := Xo H ab;refine Xi ab Z (Xi ab Z (Xi ab Z (Xg ap Z (Xa (Xk false (vb false) ab Z) (Xa (Xk false (vb false) ap Z) (Xe (vb false) Z (Yg (dj := 17) Z Z Z (Xa (Xj fa62_1 (Ad aa 0) (Ad aa 1) Z Z) ?_))))))));refine Yg (dj := 17) Z Z Z (Xa (Xq ag4 cL (Ad aa 1) (vb c_.Had) Z (al.cell Z)) (Yg (dj := 17) Z Z Z (Xe (vb c_.Had) Z ?_)));rcases X4 c_.Had with bm | bm
 ·have H := Xn H bm;refine Xg bm Z (Xa (Xj fa62_3 (Ad aa 0) (Ad aa 6) Z Z) (Xg bm Z (Xa (Xq ag4 cL (Ad aa 6) (vb c_.Has) Z (al.cell Z)) (Yg (dj := 17) Z Z Z (Xa (Xk true (vb c_.Has) bm Z) (Yg (dj := 17) Z Z Z (Xe (vb c_.Has) Z ?_)))))));rcases X4 c_.Has with bb | bb
  ·have H := Xn H bb;refine Xg bb Z (Xa (Xj fa62_2 (Ad aa 0) (Ad aa 2) Z Z) (Xg bb Z (Xa (Xt ag44 sz44 cL (Ad aa 2) [vs c_.Was.Id, vi c_.Was.Shape.Kind, G A3 n4 c5, G A8 n9 ae] Z Z (al.cells (off := 2) Z)) (Xg bb Z (Xa (Xj fa62_4 (Ad aa 0) (Ad aa 7) Z Z) (Xg bb Z (Xa (Xt ag44 sz44 cL (Ad aa 7) [vs c_.Now.Id, vi c_.Now.Shape.Kind, G af ag ah, G ai aj ak] Z Z (al.cells (off := 7) Z)) (Xg bb Z ?_))))))));refine Xs go94 (F46.calls H ad.ok hs2 (hp6.st ad.st) (bf.st ad.st) bg (bh.st ad.st) (bi.st ad.st)) Z ?_;rintro _ c1 ⟨r9, rfl, H, c2⟩;have bj := ad.k0 c2;refine Yg (dj := 17) Z Z Z (Xa (Xk true (vb r9) bb Z) (Xa (Xk false (vb r9) Z Z) (Xb ?_)));refine Xu r9 Z (fun b9 => ?_) (fun b9 => ?_)
   ·have H := Xn H b9;exact Xc (Xd (Xf (vb false) Z (Xb (Xm ⟨[vb false], ⟨_, Z, Z⟩, false, Z, H, bj.gr.g0⟩))))
   have H := Xo H b9;refine Xx (Xc (Xc (Xd (Xa (Xj fa62_1 (Ad aa 0) (Ad aa 1) Z Z) ?_))));have d4 := ad.stn c2;have bo := (al.st d4);refine Xa (Xq ag4 cL (Ad aa 1) (vb c_.Had) Z (bo.cell Z)) (Xa (X5 c_.Had Z) (Xe (vb (!c_.Had)) Z (Xi ab Z (Xi ab Z (Xi ab Z (Xi ab Z (Xi ab Z (Xa (Xk false (vb false) ab Z) ?_))))))));refine Xe (vb false) Z (Yg (dj := 42) Z Z Z (Xa (Xj fa62_3 (Ad aa 0) (Ad aa 6) Z Z) (Yg (dj := 42) Z Z Z (Xa (Xq ag4 cL (Ad aa 6) (vb c_.Has) Z (bo.cell Z)) (Yg (dj := 42) Z Z Z (Xa (X5 c_.Has Z) (Yg (dj := 42) Z Z Z (Xe (vb (!c_.Has)) Z ?_))))))));rcases X4 (!c_.Has) with am | am
   ·have H := Xn H am;refine Xg am Z (Xa (Xj fa62_4 (Ad aa 0) (Ad aa 7) Z Z) (Xg am Z (Xa (Xt ag44 sz44 cL (Ad aa 7) [vs c_.Now.Id, vi c_.Now.Shape.Kind, G af ag ah, G ai aj ak] Z Z (bo.cells (off := 7) Z)) (Xg am Z (Xa (Yn (.agg #[vs [], vi 0, G none 0 0, G none 0 0]) RF) (Xg am Z ?_))))));refine Xs go94 (F46.calls H bj.ok bg (bh.st bj.st) (bi.st bj.st) RD (Sl.nil _ _ _ none 0 RD) (Sl.nil _ _ _ none 0 RD)) Z ?_;rintro _ d5 ⟨r10, rfl, H, c3⟩;have bw := bj.k0 c3;refine Xg am Z (Xa (X5 r10 Z) (Yg (dj := 42) Z Z Z (Xa (Xk true (vb (!r10)) am Z) (Xa (Xk false (vb (!r10)) Z Z) (Xb ?_)))));refine Xu (!r10) Z (fun ca => ?_) (fun ca => ?_)
    ·have H := Xn H ca;exact Xc (Xd (Xf (vb false) Z (Xb (Xm ⟨[vb false], ⟨_, Z, Z⟩, false, Z, H, bw.gr.g0⟩))))
    have H := Xo H ca;refine Xx (Xc (Xd (Xa (Xj fa62_1 (Ad aa 0) (Ad aa 1) Z Z) ?_)));have d6 := bj.stn c3;have cb := (bo.st d6);refine Xa (Xq ag4 cL (Ad aa 1) (vb c_.Had) Z (cb.cell Z)) (Xa (X5 c_.Had Z) (Xe (vb (!c_.Had)) Z (Xg ab Z (Xa (Xj fa62_2 (Ad aa 0) (Ad aa 2) Z Z) (Xg ab Z (Xa (Xt ag44 sz44 cL (Ad aa 2) [vs c_.Was.Id, vi c_.Was.Shape.Kind, G A3 n4 c5, G A8 n9 ae] Z Z (cb.cells (off := 2) Z)) (Xg ab Z ?_)))))));refine Xs go24 (F87.calls H bw.ok hs2 (hp6.st bw.st) (bf.st bw.st)) Z ?_;rintro _ eq ⟨r11, rfl, H, c4⟩;have cc := bw.k0 c4;refine Xg ab Z (Xe (vb r11) Z ?_);rcases X4 r11 with av | av
    ·have H := Xn H av;refine Xg av Z (Xa (Xj fa62_2 (Ad aa 0) (Ad aa 2) Z Z) (Xg av Z (Xa (Xj fa44_0 (Ad aa 2) (Ad aa 2) Z Z) (Xg av Z ?_))));have d7 := bw.stn c4;have cd := (cb.st d7);refine Xa (Xq ag9 cL (Ad aa 2) (vs c_.Was.Id) Z (cd.cell Z)) (Xg av Z (Xa (Xj fa62_0 (Ad aa 0) (Ad aa 0) Z Z) (Xg av Z (Xa (Xq ag9 cL (Ad aa 0) (vs c_.Id) Z (cd.cell Z)) (Xg av Z (Xa (Yp c_.Was.Id c_.Id (c_.Was.Id == c_.Id) Z Z Z) (Xg ab Z (Xa (Xk true (vb (c_.Was.Id == c_.Id)) av Z) ?_))))))));refine Xa (Xk false (vb (c_.Was.Id == c_.Id)) ab Z) (Xe (vb (c_.Was.Id == c_.Id)) Z ?_);rcases X4 (c_.Was.Id == c_.Id) with bc | bc
     ·have H := Xn H bc;refine Xg bc Z (Xa (Xj fa62_3 (Ad aa 0) (Ad aa 6) Z Z) (Xg bc Z (Xa (Xq ag4 cL (Ad aa 6) (vb c_.Has) Z (cd.cell Z)) (Xg bc Z (Xa (X5 c_.Has Z) (Xg bc Z (Xe (vb (!c_.Has)) Z (Xi am Z ?_))))))));refine Xi am Z (Xi am Z (Xi am Z (Xr Z (Xr Z (Xr Z (Xr Z (Xr Z (Xr Z ?_))))))));exact Xi am Z (Xg bc Z (Xa (Xk true (vb true) am Z) (Xa (Xk true (vb true) bc Z) (Xf (vb true) Z (Xb (Xm ⟨[vb true], ⟨_, Z, Z⟩, true, Z, H, cc.gr.g0⟩))))))
     have H := Xo H bc;refine Xi bc Z (Xi bc Z (Xi bc Z (Xi bc Z (Xr Z (Xr Z (Xr Z (Xr Z (Xr Z ?_))))))));refine Xr Z (Xr Z (Xr Z (Xr Z (Xr Z (Xr Z (Xi bc Z (Xa (Xk false (vb false) bc Z) (Xf (vb false) Z ?_))))))));exact Xb (Xm ⟨[vb false], ⟨_, Z, Z⟩, false, Z, H, cc.gr.g0⟩)
    have H := Xo H av;refine Xi av Z (Xi av Z (Xi av Z (Xi av Z (Xi av Z (Xi av Z (Xg ab Z (Xa (Xk false (vb false) av Z) (Xa (Xk false (vb false) ab Z) ?_))))))));refine Xe (vb false) Z (X7 (dj := 70) Z Z (.inl Z) (X7 (dj := 70) Z Z (.inl Z) (X7 (dj := 70) Z Z (.inl Z) (X7 (dj := 70) Z Z (.inl Z) (Xr Z (Xr Z (Xr Z (Xr Z ?_))))))));refine Xr Z (Xr Z (Xr Z (Xr Z (Xr Z (Xr Z (Xr Z (X7 (dj := 70) Z Z (.inl Z) (Xa (Xk false (vb false) Z Z) ?_))))))));exact Xf (vb false) Z (Xb (Xm ⟨[vb false], ⟨_, Z, Z⟩, false, Z, H, cc.gr.g0⟩))
   have H := Xo H am;refine Xi am Z (Xi am Z (Xi am Z (Xi am Z (Xi am Z (Yg (dj := 42) Z Z Z (Xa (Xk false (vb false) am Z) (Xa (Xk false (vb false) Z Z) (Xb ?_))))))));refine Y3 (b := false) Z Z ?_;refine Xx (Xc (Xd (Xa (Xj fa62_1 (Ad aa 0) (Ad aa 1) Z Z) (Xa (Xq ag4 cL (Ad aa 1) (vb c_.Had) Z (bo.cell Z)) (Xa (X5 c_.Had Z) (Xe (vb (!c_.Had)) Z (Xg ab Z (Xa (Xj fa62_2 (Ad aa 0) (Ad aa 2) Z Z) ?_))))))));refine Xg ab Z (Xa (Xt ag44 sz44 cL (Ad aa 2) [vs c_.Was.Id, vi c_.Was.Shape.Kind, G A3 n4 c5, G A8 n9 ae] Z Z (bo.cells (off := 2) Z)) (Xg ab Z ?_));refine Xs go24 (F87.calls H bj.ok hs2 (hp6.st bj.st) (bf.st bj.st)) Z ?_;rintro _ d8 ⟨r12, rfl, H, c6⟩;have bp := bj.k0 c6;refine Xg ab Z (Xe (vb r12) Z ?_);rcases X4 r12 with aw | aw
   ·have H := Xn H aw;refine Xg aw Z (Xa (Xj fa62_2 (Ad aa 0) (Ad aa 2) Z Z) (Xg aw Z (Xa (Xj fa44_0 (Ad aa 2) (Ad aa 2) Z Z) (Xg aw Z ?_))));have d9 := bj.stn c6;have b3 := (bo.st d9);refine Xa (Xq ag9 cL (Ad aa 2) (vs c_.Was.Id) Z (b3.cell Z)) (Xg aw Z (Xa (Xj fa62_0 (Ad aa 0) (Ad aa 0) Z Z) (Xg aw Z (Xa (Xq ag9 cL (Ad aa 0) (vs c_.Id) Z (b3.cell Z)) (Xg aw Z (Xa (Yp c_.Was.Id c_.Id (c_.Was.Id == c_.Id) Z Z Z) (Xg ab Z (Xa (Xk true (vb (c_.Was.Id == c_.Id)) aw Z) ?_))))))));refine Xa (Xk false (vb (c_.Was.Id == c_.Id)) ab Z) (Xe (vb (c_.Was.Id == c_.Id)) Z ?_);rcases X4 (c_.Was.Id == c_.Id) with ax | ax
    ·have H := Xn H ax;refine Xg ax Z (Xa (Xj fa62_3 (Ad aa 0) (Ad aa 6) Z Z) (Xg ax Z (Xa (Xq ag4 cL (Ad aa 6) (vb c_.Has) Z (b3.cell Z)) (Xg ax Z (Xa (X5 c_.Has Z) (Xg ax Z (Xe (vb (!c_.Has)) Z (Xg am Z ?_))))))));refine Xa (Xj fa62_4 (Ad aa 0) (Ad aa 7) Z Z) (Xg am Z (Xa (Xt ag44 sz44 cL (Ad aa 7) [vs c_.Now.Id, vi c_.Now.Shape.Kind, G af ag ah, G ai aj ak] Z Z (b3.cells (off := 7) Z)) (Xg am Z ?_)));refine Xs go24 (F87.calls H bp.ok bg (bh.st bp.st) (bi.st bp.st)) Z ?_;rintro _ er ⟨r13, rfl, H, c7⟩;have c8 := bp.k0 c7;refine Xg am Z (Xe (vb r13) Z ?_);rcases X4 r13 with ay | ay
     ·have H := Xn H ay;refine Xg ay Z (Xa (Xj fa62_4 (Ad aa 0) (Ad aa 7) Z Z) (Xg ay Z (Xa (Xj fa44_0 (Ad aa 7) (Ad aa 7) Z Z) (Xg ay Z ?_))));have ea := bp.stn c7;have c9 := (b3.st ea);refine Xa (Xq ag9 cL (Ad aa 7) (vs c_.Now.Id) Z (c9.cell Z)) (Xg ay Z (Xa (Xj fa62_0 (Ad aa 0) (Ad aa 0) Z Z) (Xg ay Z (Xa (Xq ag9 cL (Ad aa 0) (vs c_.Id) Z (c9.cell Z)) (Xg ay Z (Xa (Yp c_.Now.Id c_.Id (c_.Now.Id == c_.Id) Z Z Z) (Xg am Z (Xa (Xk true (vb (c_.Now.Id == c_.Id)) ay Z) ?_))))))));exact Xg ax Z (Xa (Xk false (vb (c_.Now.Id == c_.Id)) am Z) (Xa (Xk true (vb (c_.Now.Id == c_.Id)) ax Z) (Xf (vb (c_.Now.Id == c_.Id)) Z (Xb (Xm ⟨[vb (c_.Now.Id == c_.Id)], ⟨_, Z, Z⟩, c_.Now.Id == c_.Id, Z, H, c8.gr.g0⟩)))))
     have H := Xo H ay;refine Xi ay Z (Xi ay Z (Xi ay Z (Xi ay Z (Xi ay Z (Xi ay Z (Xg am Z (Xa (Xk false (vb false) ay Z) (Xg ax Z ?_))))))));exact Xa (Xk false (vb false) am Z) (Xa (Xk true (vb false) ax Z) (Xf (vb false) Z (Xb (Xm ⟨[vb false], ⟨_, Z, Z⟩, false, Z, H, c8.gr.g0⟩))))
    have H := Xo H ax;refine Xi ax Z (Xi ax Z (Xi ax Z (Xi ax Z (Xr Z (Xr Z (Xr Z (Xr Z (Xr Z ?_))))))));refine Xr Z (Xr Z (Xr Z (Xr Z (Xr Z (Xr Z (Xi ax Z (Xa (Xk false (vb false) ax Z) (Xf (vb false) Z ?_))))))));exact Xb (Xm ⟨[vb false], ⟨_, Z, Z⟩, false, Z, H, bp.gr.g0⟩)
   have H := Xo H aw;refine Xi aw Z (Xi aw Z (Xi aw Z (Xi aw Z (Xi aw Z (Xi aw Z (Xg ab Z (Xa (Xk false (vb false) aw Z) (Xa (Xk false (vb false) ab Z) ?_))))))));refine Xe (vb false) Z (X7 (dj := 70) Z Z (.inl Z) (X7 (dj := 70) Z Z (.inl Z) (X7 (dj := 70) Z Z (.inl Z) (X7 (dj := 70) Z Z (.inl Z) (Xr Z (Xr Z (Xr Z (Xr Z ?_))))))));refine Xr Z (Xr Z (Xr Z (Xr Z (Xr Z (Xr Z (Xr Z (X7 (dj := 70) Z Z (.inl Z) (Xa (Xk false (vb false) Z Z) ?_))))))));exact Xf (vb false) Z (Xb (Xm ⟨[vb false], ⟨_, Z, Z⟩, false, Z, H, bp.gr.g0⟩))
  have H := Xo H bb;refine Xi bb Z (Xi bb Z (Xi bb Z (Xi bb Z (Xi bb Z (Yg (dj := 17) Z Z Z (Xa (Xk false (vb false) bb Z) (Xa (Xk false (vb false) Z Z) (Xb ?_))))))));refine Y3 (b := false) Z Z ?_;refine Xx (Xc (Xc (Xd (Xa (Xj fa62_1 (Ad aa 0) (Ad aa 1) Z Z) (Xa (Xq ag4 cL (Ad aa 1) (vb c_.Had) Z (al.cell Z)) (Xa (X5 c_.Had Z) (Xe (vb (!c_.Had)) Z (Xi ab Z ?_))))))));refine Xi ab Z (Xi ab Z (Xi ab Z (Xi ab Z (Xa (Xk false (vb false) ab Z) (Xe (vb false) Z (Yg (dj := 42) Z Z Z (Xa (Xj fa62_3 (Ad aa 0) (Ad aa 6) Z Z) (Yg (dj := 42) Z Z Z ?_))))))));refine Xa (Xq ag4 cL (Ad aa 6) (vb c_.Has) Z (al.cell Z)) (Yg (dj := 42) Z Z Z (Xa (X5 c_.Has Z) (Yg (dj := 42) Z Z Z (Xe (vb (!c_.Has)) Z ?_))));rcases X4 (!c_.Has) with an | an
  ·have H := Xn H an;refine Xg an Z (Xa (Xj fa62_4 (Ad aa 0) (Ad aa 7) Z Z) (Xg an Z (Xa (Xt ag44 sz44 cL (Ad aa 7) [vs c_.Now.Id, vi c_.Now.Shape.Kind, G af ag ah, G ai aj ak] Z Z (al.cells (off := 7) Z)) (Xg an Z (Xa (Yn (.agg #[vs [], vi 0, G none 0 0, G none 0 0]) RF) (Xg an Z ?_))))));refine Xs go94 (F46.calls H ad.ok bg (bh.st ad.st) (bi.st ad.st) RD (Sl.nil _ _ _ none 0 RD) (Sl.nil _ _ _ none 0 RD)) Z ?_;rintro _ eb ⟨r14, rfl, H, da⟩;have bx := ad.k0 da;refine Xg an Z (Xa (X5 r14 Z) (Yg (dj := 42) Z Z Z (Xa (Xk true (vb (!r14)) an Z) (Xa (Xk false (vb (!r14)) Z Z) (Xb ?_)))));refine Xu (!r14) Z (fun ce => ?_) (fun ce => ?_)
   ·have H := Xn H ce;exact Xc (Xd (Xf (vb false) Z (Xb (Xm ⟨[vb false], ⟨_, Z, Z⟩, false, Z, H, bx.gr.g0⟩))))
   have H := Xo H ce;refine Xx (Xc (Xd (Xa (Xj fa62_1 (Ad aa 0) (Ad aa 1) Z Z) ?_)));have ec := ad.stn da;have cf := (al.st ec);refine Xa (Xq ag4 cL (Ad aa 1) (vb c_.Had) Z (cf.cell Z)) (Xa (X5 c_.Had Z) (Xe (vb (!c_.Had)) Z (Xg ab Z (Xa (Xj fa62_2 (Ad aa 0) (Ad aa 2) Z Z) (Xg ab Z (Xa (Xt ag44 sz44 cL (Ad aa 2) [vs c_.Was.Id, vi c_.Was.Shape.Kind, G A3 n4 c5, G A8 n9 ae] Z Z (cf.cells (off := 2) Z)) (Xg ab Z ?_)))))));refine Xs go24 (F87.calls H bx.ok hs2 (hp6.st bx.st) (bf.st bx.st)) Z ?_;rintro _ es ⟨r15, rfl, H, db⟩;have cg := bx.k0 db;refine Xg ab Z (Xe (vb r15) Z ?_);rcases X4 r15 with az | az
   ·have H := Xn H az;refine Xg az Z (Xa (Xj fa62_2 (Ad aa 0) (Ad aa 2) Z Z) (Xg az Z (Xa (Xj fa44_0 (Ad aa 2) (Ad aa 2) Z Z) (Xg az Z ?_))));have ed := bx.stn db;have ch := (cf.st ed);refine Xa (Xq ag9 cL (Ad aa 2) (vs c_.Was.Id) Z (ch.cell Z)) (Xg az Z (Xa (Xj fa62_0 (Ad aa 0) (Ad aa 0) Z Z) (Xg az Z (Xa (Xq ag9 cL (Ad aa 0) (vs c_.Id) Z (ch.cell Z)) (Xg az Z (Xa (Yp c_.Was.Id c_.Id (c_.Was.Id == c_.Id) Z Z Z) (Xg ab Z (Xa (Xk true (vb (c_.Was.Id == c_.Id)) az Z) ?_))))))));refine Xa (Xk false (vb (c_.Was.Id == c_.Id)) ab Z) (Xe (vb (c_.Was.Id == c_.Id)) Z ?_);rcases X4 (c_.Was.Id == c_.Id) with bd | bd
    ·have H := Xn H bd;refine Xg bd Z (Xa (Xj fa62_3 (Ad aa 0) (Ad aa 6) Z Z) (Xg bd Z (Xa (Xq ag4 cL (Ad aa 6) (vb c_.Has) Z (ch.cell Z)) (Xg bd Z (Xa (X5 c_.Has Z) (Xg bd Z (Xe (vb (!c_.Has)) Z (Xi an Z ?_))))))));refine Xi an Z (Xi an Z (Xi an Z (Xr Z (Xr Z (Xr Z (Xr Z (Xr Z (Xr Z ?_))))))));exact Xi an Z (Xg bd Z (Xa (Xk true (vb true) an Z) (Xa (Xk true (vb true) bd Z) (Xf (vb true) Z (Xb (Xm ⟨[vb true], ⟨_, Z, Z⟩, true, Z, H, cg.gr.g0⟩))))))
    have H := Xo H bd;refine Xi bd Z (Xi bd Z (Xi bd Z (Xi bd Z (Xr Z (Xr Z (Xr Z (Xr Z (Xr Z ?_))))))));refine Xr Z (Xr Z (Xr Z (Xr Z (Xr Z (Xr Z (Xi bd Z (Xa (Xk false (vb false) bd Z) (Xf (vb false) Z ?_))))))));exact Xb (Xm ⟨[vb false], ⟨_, Z, Z⟩, false, Z, H, cg.gr.g0⟩)
   have H := Xo H az;refine Xi az Z (Xi az Z (Xi az Z (Xi az Z (Xi az Z (Xi az Z (Xg ab Z (Xa (Xk false (vb false) az Z) (Xa (Xk false (vb false) ab Z) ?_))))))));refine Xe (vb false) Z (X7 (dj := 70) Z Z (.inl Z) (X7 (dj := 70) Z Z (.inl Z) (X7 (dj := 70) Z Z (.inl Z) (X7 (dj := 70) Z Z (.inl Z) (Xr Z (Xr Z (Xr Z (Xr Z ?_))))))));refine Xr Z (Xr Z (Xr Z (Xr Z (Xr Z (Xr Z (Xr Z (X7 (dj := 70) Z Z (.inl Z) (Xa (Xk false (vb false) Z Z) ?_))))))));exact Xf (vb false) Z (Xb (Xm ⟨[vb false], ⟨_, Z, Z⟩, false, Z, H, cg.gr.g0⟩))
  have H := Xo H an;refine Xi an Z (Xi an Z (Xi an Z (Xi an Z (Xi an Z (Yg (dj := 42) Z Z Z (Xa (Xk false (vb false) an Z) (Xa (Xk false (vb false) Z Z) (Xb ?_))))))));refine Y3 (b := false) Z Z ?_;refine Xx (Xc (Xd (Xa (Xj fa62_1 (Ad aa 0) (Ad aa 1) Z Z) (Xa (Xq ag4 cL (Ad aa 1) (vb c_.Had) Z (al.cell Z)) (Xa (X5 c_.Had Z) (Xe (vb (!c_.Had)) Z (Xg ab Z (Xa (Xj fa62_2 (Ad aa 0) (Ad aa 2) Z Z) ?_))))))));refine Xg ab Z (Xa (Xt ag44 sz44 cL (Ad aa 2) [vs c_.Was.Id, vi c_.Was.Shape.Kind, G A3 n4 c5, G A8 n9 ae] Z Z (al.cells (off := 2) Z)) (Xg ab Z ?_));refine Xs go24 (F87.calls H ad.ok hs2 (hp6.st ad.st) (bf.st ad.st)) Z ?_;rintro _ ee ⟨r16, rfl, H, dc⟩;have bq := ad.k0 dc;refine Xg ab Z (Xe (vb r16) Z ?_);rcases X4 r16 with a0 | a0
  ·have H := Xn H a0;refine Xg a0 Z (Xa (Xj fa62_2 (Ad aa 0) (Ad aa 2) Z Z) (Xg a0 Z (Xa (Xj fa44_0 (Ad aa 2) (Ad aa 2) Z Z) (Xg a0 Z ?_))));have ef := ad.stn dc;have b4 := (al.st ef);refine Xa (Xq ag9 cL (Ad aa 2) (vs c_.Was.Id) Z (b4.cell Z)) (Xg a0 Z (Xa (Xj fa62_0 (Ad aa 0) (Ad aa 0) Z Z) (Xg a0 Z (Xa (Xq ag9 cL (Ad aa 0) (vs c_.Id) Z (b4.cell Z)) (Xg a0 Z (Xa (Yp c_.Was.Id c_.Id (c_.Was.Id == c_.Id) Z Z Z) (Xg ab Z (Xa (Xk true (vb (c_.Was.Id == c_.Id)) a0 Z) ?_))))))));refine Xa (Xk false (vb (c_.Was.Id == c_.Id)) ab Z) (Xe (vb (c_.Was.Id == c_.Id)) Z ?_);rcases X4 (c_.Was.Id == c_.Id) with a1 | a1
   ·have H := Xn H a1;refine Xg a1 Z (Xa (Xj fa62_3 (Ad aa 0) (Ad aa 6) Z Z) (Xg a1 Z (Xa (Xq ag4 cL (Ad aa 6) (vb c_.Has) Z (b4.cell Z)) (Xg a1 Z (Xa (X5 c_.Has Z) (Xg a1 Z (Xe (vb (!c_.Has)) Z (Xg an Z ?_))))))));refine Xa (Xj fa62_4 (Ad aa 0) (Ad aa 7) Z Z) (Xg an Z (Xa (Xt ag44 sz44 cL (Ad aa 7) [vs c_.Now.Id, vi c_.Now.Shape.Kind, G af ag ah, G ai aj ak] Z Z (b4.cells (off := 7) Z)) (Xg an Z ?_)));refine Xs go24 (F87.calls H bq.ok bg (bh.st bq.st) (bi.st bq.st)) Z ?_;rintro _ et ⟨r17, rfl, H, dd⟩;have de := bq.k0 dd;refine Xg an Z (Xe (vb r17) Z ?_);rcases X4 r17 with a2 | a2
    ·have H := Xn H a2;refine Xg a2 Z (Xa (Xj fa62_4 (Ad aa 0) (Ad aa 7) Z Z) (Xg a2 Z (Xa (Xj fa44_0 (Ad aa 7) (Ad aa 7) Z Z) (Xg a2 Z ?_))));have eg := bq.stn dd;have df := (b4.st eg);refine Xa (Xq ag9 cL (Ad aa 7) (vs c_.Now.Id) Z (df.cell Z)) (Xg a2 Z (Xa (Xj fa62_0 (Ad aa 0) (Ad aa 0) Z Z) (Xg a2 Z (Xa (Xq ag9 cL (Ad aa 0) (vs c_.Id) Z (df.cell Z)) (Xg a2 Z (Xa (Yp c_.Now.Id c_.Id (c_.Now.Id == c_.Id) Z Z Z) (Xg an Z (Xa (Xk true (vb (c_.Now.Id == c_.Id)) a2 Z) ?_))))))));exact Xg a1 Z (Xa (Xk false (vb (c_.Now.Id == c_.Id)) an Z) (Xa (Xk true (vb (c_.Now.Id == c_.Id)) a1 Z) (Xf (vb (c_.Now.Id == c_.Id)) Z (Xb (Xm ⟨[vb (c_.Now.Id == c_.Id)], ⟨_, Z, Z⟩, c_.Now.Id == c_.Id, Z, H, de.gr.g0⟩)))))
    have H := Xo H a2;refine Xi a2 Z (Xi a2 Z (Xi a2 Z (Xi a2 Z (Xi a2 Z (Xi a2 Z (Xg an Z (Xa (Xk false (vb false) a2 Z) (Xg a1 Z ?_))))))));exact Xa (Xk false (vb false) an Z) (Xa (Xk true (vb false) a1 Z) (Xf (vb false) Z (Xb (Xm ⟨[vb false], ⟨_, Z, Z⟩, false, Z, H, de.gr.g0⟩))))
   have H := Xo H a1;refine Xi a1 Z (Xi a1 Z (Xi a1 Z (Xi a1 Z (Xr Z (Xr Z (Xr Z (Xr Z (Xr Z ?_))))))));refine Xr Z (Xr Z (Xr Z (Xr Z (Xr Z (Xr Z (Xi a1 Z (Xa (Xk false (vb false) a1 Z) (Xf (vb false) Z ?_))))))));exact Xb (Xm ⟨[vb false], ⟨_, Z, Z⟩, false, Z, H, bq.gr.g0⟩)
  have H := Xo H a0;refine Xi a0 Z (Xi a0 Z (Xi a0 Z (Xi a0 Z (Xi a0 Z (Xi a0 Z (Xg ab Z (Xa (Xk false (vb false) a0 Z) (Xa (Xk false (vb false) ab Z) ?_))))))));refine Xe (vb false) Z (X7 (dj := 70) Z Z (.inl Z) (X7 (dj := 70) Z Z (.inl Z) (X7 (dj := 70) Z Z (.inl Z) (X7 (dj := 70) Z Z (.inl Z) (Xr Z (Xr Z (Xr Z (Xr Z ?_))))))));refine Xr Z (Xr Z (Xr Z (Xr Z (Xr Z (Xr Z (Xr Z (X7 (dj := 70) Z Z (.inl Z) (Xa (Xk false (vb false) Z Z) ?_))))))));exact Xf (vb false) Z (Xb (Xm ⟨[vb false], ⟨_, Z, Z⟩, false, Z, H, bq.gr.g0⟩))
 have H := Xo H bm;refine Xi bm Z (Xi bm Z (Yg (dj := 17) Z Z Z (Xa (Xk false (vb false) bm Z) (Yg (dj := 17) Z Z Z (Xe (vb false) Z (X7 (dj := 24) Z Z (.inl Z) (X7 (dj := 24) Z Z (.inl Z) (X7 (dj := 24) Z Z (.inl Z) ?_))))))));refine X7 (dj := 24) Z Z (.inl Z) (X7 (dj := 24) Z Z (.inl Z) (Yg (dj := 17) Z Z Z (Xa (Xk false (vb false) Z Z) (Xa (Xk false (vb false) Z Z) (Xb (Y3 (b := false) Z Z ?_))))));refine Xx (Xc (Xc (Xd (Xa (Xj fa62_1 (Ad aa 0) (Ad aa 1) Z Z) (Xa (Xq ag4 cL (Ad aa 1) (vb c_.Had) Z (al.cell Z)) (Xa (X5 c_.Had Z) (Xe (vb (!c_.Had)) Z (Xi ab Z ?_))))))));refine Xi ab Z (Xi ab Z (Xi ab Z (Xi ab Z (Xa (Xk false (vb false) ab Z) (Xe (vb false) Z (Yg (dj := 42) Z Z Z (Xa (Xj fa62_3 (Ad aa 0) (Ad aa 6) Z Z) (Yg (dj := 42) Z Z Z ?_))))))));refine Xa (Xq ag4 cL (Ad aa 6) (vb c_.Has) Z (al.cell Z)) (Yg (dj := 42) Z Z Z (Xa (X5 c_.Has Z) (Yg (dj := 42) Z Z Z (Xe (vb (!c_.Has)) Z ?_))));rcases X4 (!c_.Has) with ao | ao
 ·have H := Xn H ao;refine Xg ao Z (Xa (Xj fa62_4 (Ad aa 0) (Ad aa 7) Z Z) (Xg ao Z (Xa (Xt ag44 sz44 cL (Ad aa 7) [vs c_.Now.Id, vi c_.Now.Shape.Kind, G af ag ah, G ai aj ak] Z Z (al.cells (off := 7) Z)) (Xg ao Z (Xa (Yn (.agg #[vs [], vi 0, G none 0 0, G none 0 0]) RF) (Xg ao Z ?_))))));refine Xs go94 (F46.calls H ad.ok bg (bh.st ad.st) (bi.st ad.st) RD (Sl.nil _ _ _ none 0 RD) (Sl.nil _ _ _ none 0 RD)) Z ?_;rintro _ eh ⟨r18, rfl, H, dg⟩;have bz := ad.k0 dg;refine Xg ao Z (Xa (X5 r18 Z) (Yg (dj := 42) Z Z Z (Xa (Xk true (vb (!r18)) ao Z) (Xa (Xk false (vb (!r18)) Z Z) (Xb ?_)))));refine Xu (!r18) Z (fun ci => ?_) (fun ci => ?_)
  ·have H := Xn H ci;exact Xc (Xd (Xf (vb false) Z (Xb (Xm ⟨[vb false], ⟨_, Z, Z⟩, false, Z, H, bz.gr.g0⟩))))
  have H := Xo H ci;refine Xx (Xc (Xd (Xa (Xj fa62_1 (Ad aa 0) (Ad aa 1) Z Z) ?_)));have ei := ad.stn dg;have cj := (al.st ei);refine Xa (Xq ag4 cL (Ad aa 1) (vb c_.Had) Z (cj.cell Z)) (Xa (X5 c_.Had Z) (Xe (vb (!c_.Had)) Z (Xg ab Z (Xa (Xj fa62_2 (Ad aa 0) (Ad aa 2) Z Z) (Xg ab Z (Xa (Xt ag44 sz44 cL (Ad aa 2) [vs c_.Was.Id, vi c_.Was.Shape.Kind, G A3 n4 c5, G A8 n9 ae] Z Z (cj.cells (off := 2) Z)) (Xg ab Z ?_)))))));refine Xs go24 (F87.calls H bz.ok hs2 (hp6.st bz.st) (bf.st bz.st)) Z ?_;rintro _ eu ⟨r19, rfl, H, dh⟩;have ck := bz.k0 dh;refine Xg ab Z (Xe (vb r19) Z ?_);rcases X4 r19 with a3 | a3
  ·have H := Xn H a3;refine Xg a3 Z (Xa (Xj fa62_2 (Ad aa 0) (Ad aa 2) Z Z) (Xg a3 Z (Xa (Xj fa44_0 (Ad aa 2) (Ad aa 2) Z Z) (Xg a3 Z ?_))));have ej := bz.stn dh;have cl := (cj.st ej);refine Xa (Xq ag9 cL (Ad aa 2) (vs c_.Was.Id) Z (cl.cell Z)) (Xg a3 Z (Xa (Xj fa62_0 (Ad aa 0) (Ad aa 0) Z Z) (Xg a3 Z (Xa (Xq ag9 cL (Ad aa 0) (vs c_.Id) Z (cl.cell Z)) (Xg a3 Z (Xa (Yp c_.Was.Id c_.Id (c_.Was.Id == c_.Id) Z Z Z) (Xg ab Z (Xa (Xk true (vb (c_.Was.Id == c_.Id)) a3 Z) ?_))))))));refine Xa (Xk false (vb (c_.Was.Id == c_.Id)) ab Z) (Xe (vb (c_.Was.Id == c_.Id)) Z ?_);rcases X4 (c_.Was.Id == c_.Id) with be | be
   ·have H := Xn H be;refine Xg be Z (Xa (Xj fa62_3 (Ad aa 0) (Ad aa 6) Z Z) (Xg be Z (Xa (Xq ag4 cL (Ad aa 6) (vb c_.Has) Z (cl.cell Z)) (Xg be Z (Xa (X5 c_.Has Z) (Xg be Z (Xe (vb (!c_.Has)) Z (Xi ao Z ?_))))))));refine Xi ao Z (Xi ao Z (Xi ao Z (Xr Z (Xr Z (Xr Z (Xr Z (Xr Z (Xr Z ?_))))))));exact Xi ao Z (Xg be Z (Xa (Xk true (vb true) ao Z) (Xa (Xk true (vb true) be Z) (Xf (vb true) Z (Xb (Xm ⟨[vb true], ⟨_, Z, Z⟩, true, Z, H, ck.gr.g0⟩))))))
   have H := Xo H be;refine Xi be Z (Xi be Z (Xi be Z (Xi be Z (Xr Z (Xr Z (Xr Z (Xr Z (Xr Z ?_))))))));refine Xr Z (Xr Z (Xr Z (Xr Z (Xr Z (Xr Z (Xi be Z (Xa (Xk false (vb false) be Z) (Xf (vb false) Z ?_))))))));exact Xb (Xm ⟨[vb false], ⟨_, Z, Z⟩, false, Z, H, ck.gr.g0⟩)
  have H := Xo H a3;refine Xi a3 Z (Xi a3 Z (Xi a3 Z (Xi a3 Z (Xi a3 Z (Xi a3 Z (Xg ab Z (Xa (Xk false (vb false) a3 Z) (Xa (Xk false (vb false) ab Z) ?_))))))));refine Xe (vb false) Z (X7 (dj := 70) Z Z (.inl Z) (X7 (dj := 70) Z Z (.inl Z) (X7 (dj := 70) Z Z (.inl Z) (X7 (dj := 70) Z Z (.inl Z) (Xr Z (Xr Z (Xr Z (Xr Z ?_))))))));refine Xr Z (Xr Z (Xr Z (Xr Z (Xr Z (Xr Z (Xr Z (X7 (dj := 70) Z Z (.inl Z) (Xa (Xk false (vb false) Z Z) ?_))))))));exact Xf (vb false) Z (Xb (Xm ⟨[vb false], ⟨_, Z, Z⟩, false, Z, H, ck.gr.g0⟩))
 have H := Xo H ao;refine Xi ao Z (Xi ao Z (Xi ao Z (Xi ao Z (Xi ao Z (Yg (dj := 42) Z Z Z (Xa (Xk false (vb false) ao Z) (Xa (Xk false (vb false) Z Z) (Xb ?_))))))));refine Y3 (b := false) Z Z ?_;refine Xx (Xc (Xd (Xa (Xj fa62_1 (Ad aa 0) (Ad aa 1) Z Z) (Xa (Xq ag4 cL (Ad aa 1) (vb c_.Had) Z (al.cell Z)) (Xa (X5 c_.Had Z) (Xe (vb (!c_.Had)) Z (Xg ab Z (Xa (Xj fa62_2 (Ad aa 0) (Ad aa 2) Z Z) ?_))))))));refine Xg ab Z (Xa (Xt ag44 sz44 cL (Ad aa 2) [vs c_.Was.Id, vi c_.Was.Shape.Kind, G A3 n4 c5, G A8 n9 ae] Z Z (al.cells (off := 2) Z)) (Xg ab Z ?_));refine Xs go24 (F87.calls H ad.ok hs2 (hp6.st ad.st) (bf.st ad.st)) Z ?_;rintro _ ek ⟨r20, rfl, H, di⟩;have br := ad.k0 di;refine Xg ab Z (Xe (vb r20) Z ?_);rcases X4 r20 with a4 | a4
 ·have H := Xn H a4;refine Xg a4 Z (Xa (Xj fa62_2 (Ad aa 0) (Ad aa 2) Z Z) (Xg a4 Z (Xa (Xj fa44_0 (Ad aa 2) (Ad aa 2) Z Z) (Xg a4 Z ?_))));have el := ad.stn di;have b5 := (al.st el);refine Xa (Xq ag9 cL (Ad aa 2) (vs c_.Was.Id) Z (b5.cell Z)) (Xg a4 Z (Xa (Xj fa62_0 (Ad aa 0) (Ad aa 0) Z Z) (Xg a4 Z (Xa (Xq ag9 cL (Ad aa 0) (vs c_.Id) Z (b5.cell Z)) (Xg a4 Z (Xa (Yp c_.Was.Id c_.Id (c_.Was.Id == c_.Id) Z Z Z) (Xg ab Z (Xa (Xk true (vb (c_.Was.Id == c_.Id)) a4 Z) ?_))))))));refine Xa (Xk false (vb (c_.Was.Id == c_.Id)) ab Z) (Xe (vb (c_.Was.Id == c_.Id)) Z ?_);rcases X4 (c_.Was.Id == c_.Id) with a5 | a5
  ·have H := Xn H a5;refine Xg a5 Z (Xa (Xj fa62_3 (Ad aa 0) (Ad aa 6) Z Z) (Xg a5 Z (Xa (Xq ag4 cL (Ad aa 6) (vb c_.Has) Z (b5.cell Z)) (Xg a5 Z (Xa (X5 c_.Has Z) (Xg a5 Z (Xe (vb (!c_.Has)) Z (Xg ao Z ?_))))))));refine Xa (Xj fa62_4 (Ad aa 0) (Ad aa 7) Z Z) (Xg ao Z (Xa (Xt ag44 sz44 cL (Ad aa 7) [vs c_.Now.Id, vi c_.Now.Shape.Kind, G af ag ah, G ai aj ak] Z Z (b5.cells (off := 7) Z)) (Xg ao Z ?_)));refine Xs go24 (F87.calls H br.ok bg (bh.st br.st) (bi.st br.st)) Z ?_;rintro _ ev ⟨r21, rfl, H, dk⟩;have dl := br.k0 dk;refine Xg ao Z (Xe (vb r21) Z ?_);rcases X4 r21 with a6 | a6
   ·have H := Xn H a6;refine Xg a6 Z (Xa (Xj fa62_4 (Ad aa 0) (Ad aa 7) Z Z) (Xg a6 Z (Xa (Xj fa44_0 (Ad aa 7) (Ad aa 7) Z Z) (Xg a6 Z ?_))));have em := br.stn dk;have dm := (b5.st em);refine Xa (Xq ag9 cL (Ad aa 7) (vs c_.Now.Id) Z (dm.cell Z)) (Xg a6 Z (Xa (Xj fa62_0 (Ad aa 0) (Ad aa 0) Z Z) (Xg a6 Z (Xa (Xq ag9 cL (Ad aa 0) (vs c_.Id) Z (dm.cell Z)) (Xg a6 Z (Xa (Yp c_.Now.Id c_.Id (c_.Now.Id == c_.Id) Z Z Z) (Xg ao Z (Xa (Xk true (vb (c_.Now.Id == c_.Id)) a6 Z) ?_))))))));exact Xg a5 Z (Xa (Xk false (vb (c_.Now.Id == c_.Id)) ao Z) (Xa (Xk true (vb (c_.Now.Id == c_.Id)) a5 Z) (Xf (vb (c_.Now.Id == c_.Id)) Z (Xb (Xm ⟨[vb (c_.Now.Id == c_.Id)], ⟨_, Z, Z⟩, c_.Now.Id == c_.Id, Z, H, dl.gr.g0⟩)))))
   have H := Xo H a6;refine Xi a6 Z (Xi a6 Z (Xi a6 Z (Xi a6 Z (Xi a6 Z (Xi a6 Z (Xg ao Z (Xa (Xk false (vb false) a6 Z) (Xg a5 Z ?_))))))));exact Xa (Xk false (vb false) ao Z) (Xa (Xk true (vb false) a5 Z) (Xf (vb false) Z (Xb (Xm ⟨[vb false], ⟨_, Z, Z⟩, false, Z, H, dl.gr.g0⟩))))
  have H := Xo H a5;refine Xi a5 Z (Xi a5 Z (Xi a5 Z (Xi a5 Z (Xr Z (Xr Z (Xr Z (Xr Z (Xr Z ?_))))))));refine Xr Z (Xr Z (Xr Z (Xr Z (Xr Z (Xr Z (Xi a5 Z (Xa (Xk false (vb false) a5 Z) (Xf (vb false) Z ?_))))))));exact Xb (Xm ⟨[vb false], ⟨_, Z, Z⟩, false, Z, H, br.gr.g0⟩)
 have H := Xo H a4;refine Xi a4 Z (Xi a4 Z (Xi a4 Z (Xi a4 Z (Xi a4 Z (Xi a4 Z (Xg ab Z (Xa (Xk false (vb false) a4 Z) (Xa (Xk false (vb false) ab Z) ?_))))))));refine Xe (vb false) Z (X7 (dj := 70) Z Z (.inl Z) (X7 (dj := 70) Z Z (.inl Z) (X7 (dj := 70) Z Z (.inl Z) (X7 (dj := 70) Z Z (.inl Z) (Xr Z (Xr Z (Xr Z (Xr Z ?_))))))));refine Xr Z (Xr Z (Xr Z (Xr Z (Xr Z (Xr Z (Xr Z (X7 (dj := 70) Z Z (.inl Z) (Xa (Xk false (vb false) Z Z) ?_))))))));exact Xf (vb false) Z (Xb (Xm ⟨[vb false], ⟨_, Z, Z⟩, false, Z, H, br.gr.g0⟩))
def F101.E (d : List Change) (Q : Bool → Prop) : Prop :=
 (∃ (I18 : Int → Prop) (mu19 : Int → Nat), I18 0 ∧ ∀ (i2 : Int), I18 i2 → (if decide (i2 < (d.length : Int)) then ((0 : Int) ≤ i2 ∧ i2 < (d.length : Int)) ∧ (∃ q : Bool, F130.E (nth d i2) (fun x => x = q) ∧ (if !q then Q false else (if decide (i2 > 0) then ((0 : Int) ≤ i2 ∧ i2 < (d.length : Int)) ∧ ((d.length : Int) ≤ 9223372036854775807 → I64 (i2 - 1)) ∧ ((0 : Int) ≤ i2 - 1 ∧ i2 - 1 < (d.length : Int)) ∧ (if Op.bytesLess ((nth d i2).Id) ((nth d (i2 - 1)).Id) || ((nth d i2).Id) == ((nth d (i2 - 1)).Id) then Q false else (-9223372036854775808 ≤ i2) ∧ I18 (i2 + 1) ∧ mu19 (i2 + 1) < mu19 i2) else (-9223372036854775808 ≤ i2) ∧ I18 (i2 + 1) ∧ mu19 (i2 + 1) < mu19 i2))) else Q (decide ((d.length : Int) ≤ 16))))
theorem F101.calls {d : List Change} {A1 : Option Addr} {n2 c3 : Nat} {Q : Bool → Prop} (H : F101.E d Q) (hO : Ok w0 O) (hp4 : Sl kChange w0 (Fr O) (G A1 n2 c3) d) :
  Ret Tryz.prog 15 [G A1 n2 c3] w0 (fun v w' => ∃ (r0 : Bool), v = vb r0 ∧ Q r0 ∧ Gr w0 w' none) := by
 unfold F101.E at H;have hc0 := Ct.init hO;refine X9 Tryz.func15 Z 37 Z [.tmp 2] Z Z ?_;refine Xc (Xd (Xf (vb false) Z (Xb (Xc (Xc (Xd (Xf (vi 0) Z (Xb ?_))))))));refine X6 ?_;obtain ⟨a6, a7, ai, H⟩ := H;refine Yk (α := Int) (fun (sv__ : Int) t af => match sv__ with | i2 => a6 i2 ∧ Has t [(0, G A1 n2 c3), (3, vi i2)] ∧ Ct [] w0 af [] O ∧ Sl kChange af (Fr ([] ++ O)) (G A1 n2 c3) d) (fun (sv__ : Int) => match sv__ with | i2 => a7 i2) 0 ⟨ai, (Xy Z), hc0, hp4⟩ ?_;rintro i2 _ af ⟨ai, a8, ad, ac⟩;obtain ⟨b7, rfl⟩ := Has.ins a8;have H := H i2 ai;refine Xc (Xc (Xd (Xe (vi i2) Z (Xe (G A1 n2 c3) Z ?_))));have aj := ac.le;refine Xa (Ya u23_ A1 n2 c3 ac.len Z) (Xa (X1 i2 (d.length : Int) (decide (i2 < (d.length : Int))) Z Z Z) (Xb ?_));refine Xu (decide (i2 < (d.length : Int))) Z (fun ae => ?_) (fun ae => ?_)
 ·have H := Xn H ae;refine Xx (Xc (X6 (Xc (Yz (fun x => Gr af x none) RK RK (Gr.drew _) ?_))));refine Xv (G A1 n2 c3) Z (Xv (vi i2) Z ?_);obtain ⟨az, H⟩ := H;obtain ⟨a0, b8, a9, b9, ba, bb⟩ := ac.get default RD i2 az;obtain ⟨ak, al, am, an, ao, ap, aq, ar, au, av, aw, ax, rfl, bc, bd, be, bf, bg, bh, bi⟩ := kChange.op ba;refine Xh (X3 u23_ Y2 A1 a0 n2 c3 ac.len i2 Z a9 Z az) (Xh (Xt ag62 sz62 cQ (a0.add (i2.toNat * 11)) [vs ((nth d i2).Id), vb ((nth d i2).Had), vs ((nth d i2).Was.Id), vi ((nth d i2).Was.Shape.Kind), G ak al am, G an ao ap, vb ((nth d i2).Has), vs ((nth d i2).Now.Id), vi ((nth d i2).Now.Shape.Kind), G aq ar au, G av aw ax] Z Z bb) ?_);obtain ⟨q, bj, H⟩ := H;refine Y0 go46 [.agg #[vs ((nth d i2).Id), vb ((nth d i2).Had), vs ((nth d i2).Was.Id), vi ((nth d i2).Was.Shape.Kind), G ak al am, G an ao ap, vb ((nth d i2).Has), vs ((nth d i2).Now.Id), vi ((nth d i2).Now.Shape.Kind), G aq ar au, G av aw ax]] Z (vb q) (fun w g => (F130.calls bj (ad.k0 g).ok bc bd (be.st (.new _ g)) (bf.st (.new _ g)) bg (bh.st (.new _ g)) (bi.st (.new _ g))).mono ?_) ?_
  ·rintro _ w ⟨r, rfl, rfl, g2⟩;exact ⟨Z, Gr.t0 g g2⟩
  refine Xh (X5 q Z) (Xv (vb (!q)) Z ?_);rcases X4 (!q) with ab | ab
  ·have H := Xn H ab;refine Xp ab Z (Xp ab Z (Xp ab Z (Xz Z (Xz Z (Xz Z (Xz Z (Xz Z (Xz Z ?_))))))));refine Xz Z (Xz Z (Xz Z (Xz Z (Xz Z (Xz Z (Xp ab Z (Xh (Xk true (vb true) ab Z) (Ye fun ca bl => ?_))))))));have bm := ad.k0 bl;refine Yo (b := true) Z Z ?_;exact Xc (Xd (Xf (vb false) Z (Xb (Xm ⟨[vb false], ⟨_, Z, Z⟩, false, Z, H, bm.gr.g0⟩))))
  have H := Xo H ab;refine Xl ab Z (Xv (vi i2) Z (Xl ab Z (Xh (X1 i2 0 (decide (i2 > 0)) Z Z Z) (Xl ab Z (Xv (vb (decide (i2 > 0))) Z ?_)))));rcases X4 (decide (i2 > 0)) with aa | aa
  ·have H := Xn H aa;refine Xl aa Z (Xv (G A1 n2 c3) Z (Xl aa Z (Xv (vi i2) Z (Xl aa Z ?_))));obtain ⟨a1, H⟩ := H;obtain ⟨ag, cb, bn, cc, bo, bp⟩ := ac.get default RD i2 a1;obtain ⟨cd, ce, cf, cg, ch, ci, cj, ck, cl, cm, cn, co, rfl, cp, cq, cr, cs, ct, cu, cv⟩ := kChange.op bo;refine Xh (X3 u23_ Y2 A1 ag n2 c3 ac.len i2 Z bn Z a1) (Xl aa Z (Xh (Xj fa62_0 (ag.add (i2.toNat * 11)) ((ag.add (i2.toNat * 11)).add 0) Z Z) (Xl aa Z (Xh (Xq ag9 cQ ((ag.add (i2.toNat * 11)).add 0) (vs ((nth d i2).Id)) Z (bp 0 _ Z)) (Xl aa Z (Xv (G A1 n2 c3) Z (Xl aa Z (Xv (vi i2) Z ?_))))))));refine Xl aa Z ?_;obtain ⟨bq, H⟩ := H;have br := bq (len_le aj);refine Xh (Yy i2 1 Z Z br) (Xl aa Z ?_);obtain ⟨a2, H⟩ := H;obtain ⟨ah, cw, bs, cx, bt, bu⟩ := ac.get default RD (i2 - 1) a2;obtain ⟨cy, cz, c0, c1, c2, c4, c5, c6, c7, c8, c9, da, rfl, db, dc, dd, de, df, dg, dh⟩ := kChange.op bt;refine Xh (X3 u23_ Y2 A1 ah n2 c3 ac.len (i2 - 1) Z bs Z a2) (Xl aa Z (Xh (Xj fa62_0 (ah.add ((i2 - 1).toNat * 11)) ((ah.add ((i2 - 1).toNat * 11)).add 0) Z Z) (Xl aa Z (Xh (Xq ag9 cQ ((ah.add ((i2 - 1).toNat * 11)).add 0) (vs ((nth d (i2 - 1)).Id)) Z (bu 0 _ Z)) (Xl aa Z (Xh (Yp ((nth d i2).Id) ((nth d (i2 - 1)).Id) (Op.bytesLess ((nth d i2).Id) ((nth d (i2 - 1)).Id) || ((nth d i2).Id) == ((nth d (i2 - 1)).Id)) Z Z Z) (Xl ab Z (Xh (Ys true (vb (Op.bytesLess ((nth d i2).Id) ((nth d (i2 - 1)).Id) || ((nth d i2).Id) == ((nth d (i2 - 1)).Id))) (by exact congrArg Value.bool aa) Z) ?_))))))));refine Xh (Ys false (vb (Op.bytesLess ((nth d i2).Id) ((nth d (i2 - 1)).Id) || ((nth d i2).Id) == ((nth d (i2 - 1)).Id))) (by exact congrArg Value.bool ab) Z) (Ye fun di a3 => ?_);have a4 := ad.k0 a3;refine Xu (Op.bytesLess ((nth d i2).Id) ((nth d (i2 - 1)).Id) || ((nth d i2).Id) == ((nth d (i2 - 1)).Id)) Z (fun ay => ?_) (fun ay => ?_)
   ·have H := Xn H ay;exact Xc (Xd (Xf (vb false) Z (Xb (Xm ⟨[vb false], ⟨_, Z, Z⟩, false, Z, H, a4.gr.g0⟩))))
   have H := Xo H ay;refine Xx (Xd (Xe (vi i2) Z ?_));obtain ⟨bv, H⟩ := H;have bw : I64 (i2 + 1) := i64_succ (of_decide_eq_true ae) aj bv;refine Xa (Yb i2 1 Z Z bw) (Xf (vi (i2 + 1)) Z (Xb ?_));obtain ⟨bx, bz⟩ := H;have b0 := ad.stn a3;exact ⟨i2 + 1, bz, bx, (Xy Z), a4, (ac.st b0)⟩
  have H := Xo H aa;refine Xp aa Z (Xp aa Z (Xp aa Z (Xp aa Z (Xp aa Z (Xp aa Z (Xp aa Z (Xp aa Z (Xp aa Z ?_))))))));refine Xp aa Z (Xp aa Z (Xp aa Z (Xl ab Z (Xh (Xk false (vb false) aa Z) (Xh (Xk false (vb false) ab Z) (Ye fun dj a5 => ?_))))));have b1 := ad.k0 a5;refine Y3 (b := false) Z Z ?_;refine Xx (Xd (Xe (vi i2) Z ?_));obtain ⟨b2, H⟩ := H;have b3 : I64 (i2 + 1) := i64_succ (of_decide_eq_true ae) aj b2;refine Xa (Yb i2 1 Z Z b3) (Xf (vi (i2 + 1)) Z (Xb ?_));obtain ⟨b4, b5⟩ := H;have b6 := ad.stn a5;exact ⟨i2 + 1, b5, b4, (Xy Z), b1, (ac.st b6)⟩
 have H := Xo H ae;refine Yi (xin_hit ?_);exact Xc (Xd (Xe (G A1 n2 c3) Z (Xa (Ya u23_ A1 n2 c3 ac.len Z) (Xa (X1 (d.length : Int) 16 (decide ((d.length : Int) ≤ 16)) Z Z Z) (Xf (vb (decide ((d.length : Int) ≤ 16))) Z (Xb (Xm ⟨[vb (decide ((d.length : Int) ≤ 16))], ⟨_, Z, Z⟩, decide ((d.length : Int) ≤ 16), Z, H, ad.gr.g0⟩)))))))
def F116.E (s : List Feat) (c_ : Change) (Q : Bool → Prop) : Prop :=
 F89.E s c_.Id (fun r r2 => (if r2 == c_.Had then F46.E r c_.Was (fun r3 => Q r3) else Q false))
theorem F116.calls {s : List Feat} {A1 : Option Addr} {n2 c3 : Nat} {c_ : Change} {A8 : Option Addr} {n9 ai : Nat} {aj : Option Addr} {ak al : Nat} {au : Option Addr} {av aw : Nat} {ax : Option Addr} {ay az : Nat} {Q : Bool → Prop} (H : F116.E s c_ Q) (hO : Ok w0 O) (hp4 : Sl kFeat w0 (Fr O) (G A1 n2 c3) s) (hs6 : Lim c_.Id) (hs7 : Lim c_.Was.Id) (a8 : Sl kPt w0 (Fr O) (G A8 n9 ai) c_.Was.Shape.Pts) (a9 : Sl kTag w0 (Fr O) (G aj ak al) c_.Was.Tags) (bz : Lim c_.Now.Id) (b0 : Sl kPt w0 (Fr O) (G au av aw) c_.Now.Shape.Pts) (b1 : Sl kTag w0 (Fr O) (G ax ay az) c_.Now.Tags) :
  Ret Tryz.prog 88 [G A1 n2 c3, .agg #[vs c_.Id, vb c_.Had, vs c_.Was.Id, vi c_.Was.Shape.Kind, G A8 n9 ai, G aj ak al, vb c_.Has, vs c_.Now.Id, vi c_.Now.Shape.Kind, G au av aw, G ax ay az]] w0 (fun v w' => ∃ (r0 : Bool), v = vb r0 ∧ Q r0 ∧ Gr w0 w' none) := by
 unfold F116.E at H;have hc0 := Ct.init hO;refine X9 Tryz.func88 Z 24 Z [.tmp 4] Z Z ?_;refine Xc (Xd (Yt [vs c_.Id, vb c_.Had, vs c_.Was.Id, vi c_.Was.Shape.Kind, G A8 n9 ai, G aj ak al, vb c_.Has, vs c_.Now.Id, vi c_.Now.Shape.Kind, G au av aw, G ax ay az] Z fun ba ab bb hu33 bc bd => ?_));have a3 := Fb.mk hc0.ok bb bd;have an := hc0.k0 bc;refine Xf (vb false) Z (Xb (Xc (Xd (Xe (G A1 n2 c3) Z (Xa (Xj fa62_0 (Ad ab 0) (Ad ab 0) Z Z) (Xa (Xq ag9 cL (Ad ab 0) (vs c_.Id) Z (a3.cell Z)) ?_))))));refine Xs go105 (F89.calls H an.ok (hp4.st an.st) hs6) Z ?_;rintro _ b2 ⟨r, r2, ac, ad, ae, af, ag, ah, rfl, H, a4, be, a5, bf, bg, bh⟩;have a6 := an.owns a4 be a5;refine Xe (.tuple #[.agg #[vs r.Id, vi r.Shape.Kind, G ac ad ae, G af ag ah], vb r2]) Z (Xa (Y1 [.agg #[vs r.Id, vi r.Shape.Kind, G ac ad ae, G af ag ah], vb r2] 0 (.agg #[vs r.Id, vi r.Shape.Kind, G ac ad ae, G af ag ah]) Z Z) (Xa (Y1 [.agg #[vs r.Id, vi r.Shape.Kind, G ac ad ae, G af ag ah], vb r2] 1 (vb r2) Z Z) (Yj [vs [], .int .i64 0, G none 0 0, G none 0 0] ze44 fun b3 a0 ao hu59 ap bi => ?_)));have aq := a6.own ap (some a0) (Yh ao hu59);refine Yd [vs r.Id, vi r.Shape.Kind, G ac ad ae, G af ag ah] bi Z Z sz44 Z Z fun bj ar bl => ?_;have am := aq.wr 0 Z ar;refine Xf (vb r2) Z (Xb (Xc (Xd (Xe (vb r2) Z (Xa (Xj fa62_1 (Ad ab 0) (Ad ab 1) Z Z) ?_)))));have bm := an.stos a4 a5;have bn := a6.stown _ ap (X0 ao);have bo := aq.stw 0 Z ar;have a7 := (((a3.st bm).st bn).st bo);refine Xa (Xq ag4 cL (Ad ab 1) (vb c_.Had) Z (a7.cell Z)) (Xa (Ze u4_ r2 c_.Had (r2 == c_.Had) Z Z Z) (Xe (vb (r2 == c_.Had)) Z ?_));rcases X4 (r2 == c_.Had) with aa | aa
 ·have H := Xn H aa;refine Xg aa Z (Xa (Xt ag44 sz44 cL (Ad a0 0) [vs r.Id, vi r.Shape.Kind, G ac ad ae, G af ag ah] Z Z (bl.cells (off := 00) Z)) (Xg aa Z (Xa (Xj fa62_2 (Ad ab 0) (Ad ab 2) Z Z) (Xg aa Z (Xa (Xt ag44 sz44 cL (Ad ab 2) [vs c_.Was.Id, vi c_.Was.Shape.Kind, G A8 n9 ai, G aj ak al] Z Z (a7.cells (off := 2) Z)) (Xg aa Z ?_))))));have bp := (aq.sw (bg.so _ ap (X0 ao)) 1 0 Z Z Z ar);have bq := am.gv bp 1 Z;have a1 := am.drop 1 Z;have br := (am.sd (aq.sw (bh.so _ ap (X0 ao)) 2 0 Z Z Z ar) 2 1 Z Z Z);have bs := a1.gv br 1 Z;have a2 := a1.drop 1 Z;have bt := a1.std 1 Z;refine Xs go94 (F46.calls H a2.ok bf (bq.st bt) bs hs7 (a8.st a2.st) (a9.st a2.st)) Z ?_;rintro _ b4 ⟨r3, rfl, H, bu⟩;have bv := am.k0 bu;refine Xa (Xk true (vb r3) aa Z) (Xf (vb r3) Z (Xb (Xm ?_)));have bw := bv.clear;exact ⟨[vb r3], ⟨_, Z, Z⟩, r3, Z, H, bw.gr.g0⟩
 have H := Xo H aa;refine Xi aa Z (Xi aa Z (Xi aa Z (Xi aa Z (Xa (Xk false (vb false) aa Z) (Xf (vb false) Z (Xb (Xm ?_)))))));have bx := am.clear;exact ⟨[vb false], ⟨_, Z, Z⟩, false, Z, H, bx.gr.g0⟩
def F117.E (s : List Feat) (Q : List Feat → Prop) : Prop :=
 (∃ (I39 : (List Feat) → Int → Prop) (mu40 : (List Feat) → Int → Nat), I39 [] 0 ∧ ∀ (xs2 : List Feat) (i2 : Int), I39 xs2 i2 → (if decide (i2 < (s.length : Int)) then ((0 : Int) ≤ i2 ∧ i2 < (s.length : Int)) ∧ F83.E (nth s i2) (fun r => (xs2.length + ([r] : List Feat).length ≤ 268435456) ∧ (-9223372036854775808 ≤ i2) ∧ I39 (xs2 ++ ([r] : List Feat)) (i2 + 1) ∧ mu40 (xs2 ++ ([r] : List Feat)) (i2 + 1) < mu40 xs2 i2) else Q xs2))
theorem F117.calls {s : List Feat} {A1 : Option Addr} {n2 c3 : Nat} {Q : List Feat → Prop} (H : F117.E s Q) (hO : Ok w0 O) (hp4 : Sl kFeat w0 (Fr O) (G A1 n2 c3) s) :
  Ret Tryz.prog 91 [G A1 n2 c3] w0 (fun v w' => ∃ (r0 : List Feat) (Aw0 : Option Addr) (nw0 cw0 : Nat), v = G Aw0 nw0 cw0 ∧ Q r0 ∧ Gk w0 w' [bk Aw0] O (Ow kFeat 44 w' ([bk Aw0] ++ O) (G Aw0 nw0 cw0) r0)) := by
 unfold F117.E at H;have hc0 := Ct.init hO;refine X9 Tryz.func91 Z 21 Z [.tmp 2] Z Z ?_;refine Xc (Xd (Xf (G none 0 0) Z (Xb (Xc (Xd (X8 (kd := kFeat) Yl hc0 ([] : List Feat) (cells := []) Z RF fun w6 A7 n8 c9 cg hr11 aw bb => ?_))))));refine Xf (G A7 n8 c9) Z (Xb (Xc (Xc (Xd (Xf (vi 0) Z (Xb (X6 ?_)))))));obtain ⟨bc, bd, aj, H⟩ := H;refine Yk (α := (List Feat) × (Option Addr) × Nat × Nat × Int) (fun (xs2, aa, ab, ac, i2) t ae => bc xs2 i2 ∧ Has t [(0, G A1 n2 c3), (3, G aa ab ac), (4, vi i2)] ∧ Cw [] w0 ae [bk aa] O fun M => Sl kFeat ae (Fr M) (G A1 n2 c3) s ∧ Ow kFeat 44 ae M (G aa ab ac) xs2) (fun (xs2, _, _, _, i2) => bd xs2 i2) (([] : List Feat), A7, n8, c9, 0) ⟨aj, (Xy Z), aw, (hp4.st aw.st), bb⟩ ?_;rintro ⟨xs2, aa, ab, ac, i2⟩ _ ae ⟨aj, be, ad, af, ax⟩;obtain ⟨ch, rfl⟩ := Has.ins be;have H := H xs2 i2 aj;refine Xc (Xc (Xd (Xe (vi i2) Z (Xe (G A1 n2 c3) Z ?_))));have bf := af.le;refine Xa (Ya u33_ A1 n2 c3 af.len Z) (Xa (X1 i2 (s.length : Int) (decide (i2 < (s.length : Int))) Z Z Z) (Xb ?_));refine Xu (decide (i2 < (s.length : Int))) Z (fun ah => ?_) (fun ah => ?_)
 ·have H := Xn H ah;refine Xx (Xc (X6 (Xd (Xe (G aa ab ac) Z (Xe (G A1 n2 c3) Z (Xe (vi i2) Z ?_))))));obtain ⟨ay, H⟩ := H;obtain ⟨az, ci, bg, cj, bh, bi⟩ := af.get default RD i2 ay;obtain ⟨ak, al, am, an, ao, ap, rfl, bj, bl, bm⟩ := kFeat.op bh;refine Xa (X3 u33_ Yx A1 az n2 c3 af.len i2 Z bg Z ay) (Xa (Xt ag44 sz44 cL (az.add (i2.toNat * 4)) [vs ((nth s i2).Id), vi ((nth s i2).Shape.Kind), G ak al am, G an ao ap] Z Z bi) ?_);refine Xs go64 (F83.calls H ad.ok bj bl bm) Z ?_;rintro _ ck ⟨r, a0, a1, a2, a3, a4, a5, rfl, H, aq, bn, ar, bo, bp, bq⟩;have ag := ad.owns aq bn ar;have br := ag.gv bp 0 Z;have ai := ag.drop 0 Z;have bs := (ag.sd bq 1 0 Z Z Z);have bt := ai.gv bs 0 Z;have a6 := ai.drop 0 Z;have a7 := ai.std 0 Z;refine X8 (kd := kFeat) Yl a6 ([r] : List Feat) (cells := [vs r.Id, vi r.Shape.Kind, G a0 a1 a2, G a3 a4 a5]) ⟨[vs r.Id, vi r.Shape.Kind, G a0 a1 a2, G a3 a4 a5], _, Z, (kFeat.mk _ _ r bo (br.st a7) bt), Z⟩ RF fun cl bu bv bw a8 hr94 bx bz => ?_;obtain ⟨b0, H⟩ := H;have b1 := ((ai.sd (ag.sd (ax.sos aq ar) 2 0 Z Z Z) 1 0 Z Z Z).so _ a8 hr94);refine Yf Yl bx (G aa ab ac) xs2 ([r] : List Feat) Z b1 (G bu bv bw) Z bz.sx 1 Z b0 fun b2 au a9 ba cm b3 av b4 => ?_;refine Xf (G au a9 ba) Z (Xb (Xd (Xe (vi i2) Z ?_)));obtain ⟨b5, H⟩ := H;have b6 : I64 (i2 + 1) := i64_succ (of_decide_eq_true ah) bf b5;refine Xa (Yb i2 1 Z Z b6) (Xf (vi (i2 + 1)) Z (Xb ?_));have b7 : Ct [] w0 b2 [bk au] O := av.drop 0 Z;obtain ⟨b8, b9⟩ := H;have ca := ad.stos aq ar;have cb := ag.std 0 Z;have cc := a6.stown _ a8 hr94;have cd := av.std 0 Z;have ce := ((((((af.st ca).st cb).st a7).st cc).st b3).st cd);have cf := (av.sd b4 1 0 Z Z Z);exact ⟨((xs2 ++ ([r] : List Feat)), au, a9, ba, i2 + 1), b9, b8, (Xy Z), b7, ce, cf⟩
 have H := Xo H ah;refine Yi (xin_hit ?_);exact Xc (Xd (Xe (G aa ab ac) Z (Xf (G aa ab ac) Z (Xb (Xm ⟨[G aa ab ac], ⟨_, Z, Z⟩, xs2, aa, ab, ac, Z, H, ad.gr.g0, ad.ok, ad.ge, ax⟩)))))
def F118.E (s : List Feat) (d : List Change) (Q : List Feat → Bool → Prop) : Prop :=
 F71.E s (fun r => (if !r then Q [] false else F101.E d (fun r2 => (if !r2 then Q [] false else (∃ (I71 : (List Feat) → Int → Prop) (mu72 : (List Feat) → Int → Nat), I71 s 0 ∧ ∀ (out2 : List Feat) (i2 : Int), I71 out2 i2 → (if decide (i2 < (d.length : Int)) then ((0 : Int) ≤ i2 ∧ i2 < (d.length : Int)) ∧ F116.E s (nth d i2) (fun r3 => (if !r3 then Q [] false else ((0 : Int) ≤ i2 ∧ i2 < (d.length : Int)) ∧ (if (nth d i2).Has then ((0 : Int) ≤ i2 ∧ i2 < (d.length : Int)) ∧ F127.E out2 ((nth d i2).Now) (fun r4 => (-9223372036854775808 ≤ i2) ∧ I71 r4 (i2 + 1) ∧ mu72 r4 (i2 + 1) < mu72 out2 i2) else ((0 : Int) ≤ i2 ∧ i2 < (d.length : Int)) ∧ F128.E out2 ((nth d i2).Id) (fun r5 => (-9223372036854775808 ≤ i2) ∧ I71 r5 (i2 + 1) ∧ mu72 r5 (i2 + 1) < mu72 out2 i2)))) else F71.E out2 (fun r6 => (if !r6 then Q [] false else F117.E out2 (fun r7 => Q r7 true)))))))))
theorem F118.calls {s : List Feat} {A1 : Option Addr} {n2 c3 : Nat} {d : List Change} {A6 : Option Addr} {n7 c8 : Nat} {Q : List Feat → Bool → Prop} (H : F118.E s d Q) (hO : Ok w0 O) (hp4 : Sl kFeat w0 (Fr O) (G A1 n2 c3) s) (hp9 : Sl kChange w0 (Fr O) (G A6 n7 c8) d) :
  Ret Tryz.prog 35 [G A1 n2 c3, G A6 n7 c8] w0 (fun v w' => ∃ (r0 : List Feat) (r1 : Bool) (Aw0 : Option Addr) (nw0 cw0 : Nat), v = .tuple #[G Aw0 nw0 cw0, vb r1] ∧ Q r0 r1 ∧ Gk w0 w' [bk Aw0] O (Ow kFeat 44 w' ([bk Aw0] ++ O) (G Aw0 nw0 cw0) r0)) := by
 unfold F118.E at H;have hc0 := Ct.init hO;refine X9 Tryz.func35 Z 57 Z [.tmp 4, .tmp 5] Z Z ?_;refine Xc (Xd (Xf (G none 0 0) Z (Xf (vb false) Z (Xb (Xc (Xc (Xd (Xe (G A1 n2 c3) Z ?_))))))));refine Xs go22 (F71.calls H hc0.ok hp4) Z ?_;rintro _ cs ⟨r, rfl, H, ct⟩;have al := hc0.k0 ct;refine Xa (X5 r Z) (Xe (vb (!r)) Z ?_);rcases X4 (!r) with af | af
 ·have H := Xn H af;refine Xi af Z (Xi af Z (Xi af Z (Xa (Xk true (vb true) af Z) (Xb (Yo (b := true) Z Z ?_)))));refine Xc (Xd (X8 (kd := kFeat) Yl al ([] : List Feat) (cells := []) Z RF fun ei aq ar au ej hr23 av cu => ?_));exact Xf (G aq ar au) Z (Xf (vb false) Z (Xb (Xm ⟨[G aq ar au, vb false], ⟨_, Z, ⟨_, Z, Z⟩⟩, ([] : List Feat), false, aq, ar, au, Z, H, av.gr.g0, av.ok, av.ge, cu⟩)))
 have H := Xo H af;refine Xg af Z (Xe (G A6 n7 c8) Z (Xg af Z ?_));refine Xs go15 (F101.calls H al.ok (hp9.st al.st)) Z ?_;rintro _ ek ⟨r2, rfl, H, cv⟩;have aj := al.k0 cv;refine Xg af Z (Xa (X5 r2 Z) (Xa (Xk false (vb (!r2)) af Z) (Xb ?_)));refine Xu (!r2) Z (fun aw => ?_) (fun aw => ?_)
 ·have H := Xn H aw;refine Xc (Xd (X8 (kd := kFeat) Yl aj ([] : List Feat) (cells := []) Z RF fun el ax ay az em hr39 a0 cw => ?_));exact Xf (G ax ay az) Z (Xf (vb false) Z (Xb (Xm ⟨[G ax ay az, vb false], ⟨_, Z, ⟨_, Z, Z⟩⟩, ([] : List Feat), false, ax, ay, az, Z, H, a0.gr.g0, a0.ok, a0.ge, cw⟩)))
 have H := Xo H aw;refine Xx (Xc (Xd (Xe (G A1 n2 c3) Z (Xf (G A1 n2 c3) Z (Xb (Xc (Xc (Xd ?_))))))));refine Xf (vi 0) Z (Xb (X6 ?_));obtain ⟨cx, cy, a1, H⟩ := H;refine Yk (α := (List Feat) × (Option Addr) × Nat × Nat × Int) (fun (out2, aa, ab, ac, i2) t ag => cx out2 i2 ∧ Has t [(0, G A1 n2 c3), (1, G A6 n7 c8), (6, G aa ab ac), (7, vi i2)] ∧ Cw [] w0 ag [] O fun M => Sl kFeat ag (Fr M) (G A1 n2 c3) s ∧ Sl kChange ag (Fr M) (G A6 n7 c8) d ∧ Sl kFeat ag (Fr M) (G aa ab ac) out2) (fun (out2, _, _, _, i2) => cy out2 i2) (s, A1, n2, c3, 0) ⟨a1, (Xy Z), aj, (hp4.st aj.st), (hp9.st aj.st), (hp4.st aj.st)⟩ ?_;rintro ⟨out2, aa, ab, ac, i2⟩ _ ag ⟨a1, cz, ai, a2, ad, am⟩;obtain ⟨en, rfl⟩ := Has.ins cz;have H := H out2 i2 a1;refine Xc (Xc (Xd (Xe (vi i2) Z (Xe (G A6 n7 c8) Z ?_))));have b5 := ad.le;refine Xa (Ya u23_ A6 n7 c8 ad.len Z) (Xa (X1 i2 (d.length : Int) (decide (i2 < (d.length : Int))) Z Z Z) (Xb ?_));refine Xu (decide (i2 < (d.length : Int))) Z (fun ak => ?_) (fun ak => ?_)
 ·have H := Xn H ak;refine Xx (Xc (X6 (Xc (Xc (Xd (Xe (G A1 n2 c3) Z (Xe (G A6 n7 c8) Z (Xe (vi i2) Z ?_))))))));obtain ⟨b6, H⟩ := H;obtain ⟨b7, eo, c0, ep, c1, c2⟩ := ad.get default RD i2 b6;obtain ⟨a3, a4, a5, a6, a7, a8, a9, ba, bb, bc, bd, be, rfl, c4, c5, c6, c7, c9, da, db⟩ := kChange.op c1;refine Xa (X3 u23_ Y2 A6 b7 n7 c8 ad.len i2 Z c0 Z b6) (Xa (Xt ag62 sz62 cL (b7.add (i2.toNat * 11)) [vs ((nth d i2).Id), vb ((nth d i2).Had), vs ((nth d i2).Was.Id), vi ((nth d i2).Was.Shape.Kind), G a3 a4 a5, G a6 a7 a8, vb ((nth d i2).Has), vs ((nth d i2).Now.Id), vi ((nth d i2).Now.Shape.Kind), G a9 ba bb, G bc bd be] Z Z c2) ?_);refine Xs go88 (F116.calls H ai.ok a2 c4 c5 c6 c7 c9 da db) Z ?_;rintro _ b8 ⟨r3, rfl, H, b9⟩;have ah := ai.k0 b9;refine Xa (X5 r3 Z) (Xb ?_);refine Xu (!r3) Z (fun bf => ?_) (fun bf => ?_)
  ·have H := Xn H bf;refine Xc (Xd (X8 (kd := kFeat) Yl ah ([] : List Feat) (cells := []) Z RF fun eq bg bh bi er hr121 bj dc => ?_));exact Xf (G bg bh bi) Z (Xf (vb false) Z (Xb (Xm ⟨[G bg bh bi, vb false], ⟨_, Z, ⟨_, Z, Z⟩⟩, ([] : List Feat), false, bg, bh, bi, Z, H, bj.gr.g0, bj.ok, bj.ge, dc⟩)))
  have H := Xo H bf;refine Xx (Xc (Xd (Xe (G A6 n7 c8) Z (Xe (vi i2) Z ?_))));obtain ⟨ca, H⟩ := H;have ae := ai.stn b9;obtain ⟨an, es, dd, et, de, df⟩ := (ad.st ae).get default RD i2 ca;obtain ⟨eu, ev, ew, ex, ey, ez, e0, e1, e2, e3, e4, e5, rfl, e6, e7, e8, e9, fa, fb, fc⟩ := kChange.op de;refine Xa (X3 u23_ Y2 A6 an n7 c8 (ad.st ae).len i2 Z dd Z ca) (Xa (Xj fa62_3 (an.add (i2.toNat * 11)) ((an.add (i2.toNat * 11)).add 6) Z Z) (Xa (Xq ag4 cL ((an.add (i2.toNat * 11)).add 6) (vb ((nth d i2).Has)) Z (df 6 _ Z)) (Xb ?_)));refine Xu ((nth d i2).Has) Z (fun bl => ?_) (fun bl => ?_)
  ·have H := Xn H bl;refine Xd (Xe (G aa ab ac) Z (Xe (G A6 n7 c8) Z (Xe (vi i2) Z ?_)));obtain ⟨cb, H⟩ := H;obtain ⟨ao, fd, dg, fe, dh, di⟩ := (ad.st ae).get default RD i2 cb;obtain ⟨ff, fg, fh, fi, fj, fk, bm, bn, bo, bp, bq, br, rfl, fl, fm, fn, fo, dj, dk, dl⟩ := kChange.op dh;refine Xa (X3 u23_ Y2 A6 ao n7 c8 (ad.st ae).len i2 Z dg Z cb) (Xa (Xj fa62_4 (ao.add (i2.toNat * 11)) ((ao.add (i2.toNat * 11)).add 7) Z Z) (Xa (Xt ag44 sz44 cL ((ao.add (i2.toNat * 11)).add 7) [vs ((nth d i2).Now.Id), vi ((nth d i2).Now.Shape.Kind), G bm bn bo, G bp bq br] Z Z (sub_cells (off := 7) di Z)) ?_));refine Xs go89 (F127.calls H ah.ok (am.st ae) dj dk dl) Z ?_;rintro _ fp ⟨r4, cc, cd, ce, rfl, H, cf, dm, cg, dn⟩;have bs := ah.owns cf dm cg;refine Xf (G cc cd ce) Z (Xb (Xd (Xe (vi i2) Z ?_)));obtain ⟨dp, H⟩ := H;have dq : I64 (i2 + 1) := i64_succ (of_decide_eq_true ak) b5 dp;refine Xa (Yb i2 1 Z Z dq) (Xf (vi (i2 + 1)) Z (Xb ?_));have dr := bs.gv dn 0 Z;have ds := bs.drop 0 Z;obtain ⟨dt, du⟩ := H;have ch := ah.stos cf cg;have ci := bs.std 0 Z;have dv := (((a2.st ae).st ch).st ci);have dw := (((ad.st ae).st ch).st ci);exact ⟨(r4, cc, cd, ce, i2 + 1), du, dt, (Xy Z), ds, dv, dw, dr⟩
  have H := Xo H bl;refine Xd (Xe (G aa ab ac) Z (Xe (G A6 n7 c8) Z (Xe (vi i2) Z ?_)));obtain ⟨cj, H⟩ := H;obtain ⟨ap, fq, dx, fr, dy, dz⟩ := (ad.st ae).get default RD i2 cj;obtain ⟨fs, ft, fu, fv, fw, fx, fy, fz, f0, f1, f2, f3, rfl, d0, f4, f5, f6, f7, f8, f9⟩ := kChange.op dy;refine Xa (X3 u23_ Y2 A6 ap n7 c8 (ad.st ae).len i2 Z dx Z cj) (Xa (Xj fa62_0 (ap.add (i2.toNat * 11)) ((ap.add (i2.toNat * 11)).add 0) Z Z) (Xa (Xq ag9 cL ((ap.add (i2.toNat * 11)).add 0) (vs ((nth d i2).Id)) Z (dz 0 _ Z)) ?_));refine Xs go90 (F128.calls H ah.ok (am.st ae) d0) Z ?_;rintro _ ga ⟨r5, ck, cl, cm, rfl, H, cn, d1, co, d2⟩;have bt := ah.owns cn d1 co;refine Xf (G ck cl cm) Z (Xb (Xd (Xe (vi i2) Z ?_)));obtain ⟨d3, H⟩ := H;have d4 : I64 (i2 + 1) := i64_succ (of_decide_eq_true ak) b5 d3;refine Xa (Yb i2 1 Z Z d4) (Xf (vi (i2 + 1)) Z (Xb ?_));have d5 := bt.gv d2 0 Z;have d6 := bt.drop 0 Z;obtain ⟨d7, d8⟩ := H;have cp := ah.stos cn co;have cq := bt.std 0 Z;have d9 := (((a2.st ae).st cp).st cq);have ea := (((ad.st ae).st cp).st cq);exact ⟨(r5, ck, cl, cm, i2 + 1), d8, d7, (Xy Z), d6, d9, ea, d5⟩
 have H := Xo H ak;refine Yi (xin_hit ?_);refine Xc (Xc (Xd (Xe (G aa ab ac) Z ?_)));refine Xs go22 (F71.calls H ai.ok am) Z ?_;rintro _ eb ⟨r6, rfl, H, cr⟩;have bu := ai.k0 cr;refine Xa (X5 r6 Z) (Xb ?_);refine Xu (!r6) Z (fun bv => ?_) (fun bv => ?_)
 ·have H := Xn H bv;refine Xc (Xd (X8 (kd := kFeat) Yl bu ([] : List Feat) (cells := []) Z RF fun gb bw bx bz gc hr273 b0 ec => ?_));exact Xf (G bw bx bz) Z (Xf (vb false) Z (Xb (Xm ⟨[G bw bx bz, vb false], ⟨_, Z, ⟨_, Z, Z⟩⟩, ([] : List Feat), false, bw, bx, bz, Z, H, b0.gr.g0, b0.ok, b0.ge, ec⟩)))
 have H := Xo H bv;refine Xx (Xc (Xd (Xe (G aa ab ac) Z ?_)));have ed := ai.stn cr;refine Xs go91 (F117.calls H bu.ok (am.st ed)) Z ?_;rintro _ gd ⟨r7, b1, b2, b3, rfl, H, ee, ef, eg, eh⟩;have b4 := bu.owns ee ef eg;exact Xf (G b1 b2 b3) Z (Xf (vb true) Z (Xb (Xm ⟨[G b1 b2 b3, vb true], ⟨_, Z, ⟨_, Z, Z⟩⟩, r7, true, b1, b2, b3, Z, H, b4.gr.g0, b4.ok, b4.ge, eh⟩)))
def F3.E (s1 s2 : List Feat) (eq : Feat → Feat → Bool) (eq_ok : Feat → Feat → Prop) (Q : Bool → Prop) : Prop :=
 (if (s1.length : Int) != (s2.length : Int) then Q false else (∃ (I36 : Int → Prop) (mu37 : Int → Nat), I36 0 ∧ ∀ (v2 : Int), I36 v2 → (if decide (v2 < (s1.length : Int)) then ((0 : Int) ≤ v2 ∧ v2 < (s1.length : Int)) ∧ ((0 : Int) ≤ v2 ∧ v2 < (s2.length : Int)) ∧ (eq_ok (nth s1 v2) (nth s2 v2)) ∧ (if !(eq (nth s1 v2) (nth s2 v2)) then Q false else (I64 (v2 + 1)) ∧ I36 (v2 + 1) ∧ mu37 (v2 + 1) < mu37 v2) else Q true)))
theorem F3.calls {s1 : List Feat} {A1 : Option Addr} {n2 c3 : Nat} {s2 : List Feat} {A6 : Option Addr} {n7 c8 : Nat} {ao : FuncId} {ap : List Value} {eq : Feat → Feat → Bool} {eq_ok : Feat → Feat → Prop} {Q : Bool → Prop} (H : F3.E s1 s2 eq eq_ok Q) (hO : Ok w0 O) (hp4 : Sl kFeat w0 (Fr O) (G A1 n2 c3) s1) (hp9 : Sl kFeat w0 (Fr O) (G A6 n7 c8) s2) (b3 : Goes Tryz.prog ao) (b4 : ∀ (w : World) (L : Ob), Ct [] w0 w L O → ∀ (x0_ : Feat) (a9 : Option Addr) (ba bb : Nat) (bc : Option Addr) (bd be : Nat) (c4 : Lim x0_.Id) (c5 : Sl kPt w (Fr (L ++ O)) (G a9 ba bb) x0_.Shape.Pts) (c6 : Sl kTag w (Fr (L ++ O)) (G bc bd be) x0_.Tags) (x1_ : Feat) (bf : Option Addr) (bg bh : Nat) (bi : Option Addr) (bj bl : Nat) (c7 : Lim x1_.Id) (c9 : Sl kPt w (Fr (L ++ O)) (G bf bg bh) x1_.Shape.Pts) (da : Sl kTag w (Fr (L ++ O)) (G bi bj bl) x1_.Tags), eq_ok x0_ x1_ → Ret Tryz.prog ao ([.agg #[vs x0_.Id, vi x0_.Shape.Kind, G a9 ba bb, G bc bd be], .agg #[vs x1_.Id, vi x1_.Shape.Kind, G bf bg bh, G bi bj bl]] ++ ap) w (fun v w' => v = vb (eq x0_ x1_) ∧ Gr w w' none)) :
  Ret Tryz.prog 92 [G A1 n2 c3, G A6 n7 c8, .func (.func ao) #[] ap.toArray] w0 (fun v w' => ∃ (r0 : Bool), v = vb r0 ∧ Q r0 ∧ Gr w0 w' none) := by
 unfold F3.E at H;have hc0 := Ct.init hO;refine X9 Tryz.func92 Z 32 Z [.tmp 6] Z Z ?_;refine Xc (Xd (Xf (vb false) Z (Xb (Xc (Xc (Xd (Xe (G A1 n2 c3) Z ?_)))))));have db := hp4.le;refine Xa (Ya u33_ A1 n2 c3 hp4.len Z) (Xe (G A6 n7 c8) Z ?_);have dc := hp9.le;refine Xa (Ya u33_ A6 n7 c8 hp9.len Z) (Xa (X1 (s1.length : Int) (s2.length : Int) ((s1.length : Int) != (s2.length : Int)) Z Z Z) (Xb ?_));refine Xu ((s1.length : Int) != (s2.length : Int)) Z (fun ax => ?_) (fun ax => ?_)
 ·have H := Xn H ax;exact Xc (Xd (Xf (vb false) Z (Xb (Xm ⟨[vb false], ⟨_, Z, Z⟩, false, Z, H, hc0.gr.g0⟩))))
 have H := Xo H ax;refine Xx (Xc (Xc (Xd (Xe (G A1 n2 c3) Z (Xa (Ya u33_ A1 n2 c3 hp4.len Z) (Xe (vi 0) Z (Xb (X6 ?_))))))));obtain ⟨b5, b6, ay, H⟩ := H;refine Yk (α := Int) (fun (sv__ : Int) t aq => match sv__ with | v2 => b5 v2 ∧ Has t [(1, G A6 n7 c8), (2, .func (.func ao) #[] ap.toArray), (15, G A1 n2 c3), (16, vi (s1.length : Int)), (17, vi v2)] ∧ Cw [] w0 aq [] O fun M => Sl kFeat aq (Fr M) (G A6 n7 c8) s2 ∧ Sl kFeat aq (Fr M) (G A1 n2 c3) s1) (fun (sv__ : Int) => match sv__ with | v2 => b6 v2) 0 ⟨ay, (Xy Z), hc0, hp9, hp4⟩ ?_;rintro v2 _ aq ⟨ay, b7, az, b8, a0⟩;obtain ⟨dd, rfl⟩ := Has.ins b7;have H := H v2 ay;refine Xc (Xd (Xa (X1 v2 (s1.length : Int) (decide (v2 < (s1.length : Int))) Z Z Z) (Xb (Xc ?_))));refine Xu (decide (v2 < (s1.length : Int))) Z (fun a1 => ?_) (fun a1 => ?_)
 ·have H := Xn H a1;refine Xx (Xc (X6 (Xc (Xd (Xe (vi v2) Z ?_)))));obtain ⟨bn, H⟩ := H;obtain ⟨bo, de, b9, df, ca, cb⟩ := a0.get default RD v2 bn;obtain ⟨aa, ab, ac, ad, ae, af, rfl, cc, cd, ce⟩ := kFeat.op ca;refine Xa (X3 u33_ Yx A1 bo n2 c3 a0.len v2 Z b9 Z bn) (Xa (Xt ag44 sz44 cL (bo.add (v2.toNat * 4)) [vs ((nth s1 v2).Id), vi ((nth s1 v2).Shape.Kind), G aa ab ac, G ad ae af] Z Z cb) (Yj [vs [], .int .i64 0, G none 0 0, G none 0 0] ze44 fun dg ar bp hu65 bq cf => ?_));have br := az.own bq (some ar) (Yh bp hu65);refine Xf (vi v2) Z (Yd [vs ((nth s1 v2).Id), vi ((nth s1 v2).Shape.Kind), G aa ab ac, G ad ae af] cf Z Z sz44 Z Z fun dh bs cg => ?_);have bt := br.wr 0 Z bs;refine Xb (Xc (Xd (Xe (G A6 n7 c8) Z (Xe (vi v2) Z ?_))));obtain ⟨bu, H⟩ := H;have au := az.stown _ bq (X0 bp);have av := br.stw 0 Z bs;have a2 := ((b8.st au).st av);obtain ⟨bv, di, ch, dj, ci, cj⟩ := a2.get default RD v2 bu;obtain ⟨ag, ah, ai, aj, ak, al, rfl, ck, cl, cm⟩ := kFeat.op ci;refine Xa (X3 u33_ Yx A6 bv n7 c8 a2.len v2 Z ch Z bu) (Xa (Xt ag44 sz44 cL (bv.add (v2.toNat * 4)) [vs ((nth s2 v2).Id), vi ((nth s2 v2).Shape.Kind), G ag ah ai, G aj ak al] Z Z cj) (Yj [vs [], .int .i64 0, G none 0 0, G none 0 0] ze44 fun dk aw bw hu98 a3 cn => ?_));have a4 := bt.own a3 (some aw) (Yh bw hu98);refine Yd [vs ((nth s2 v2).Id), vi ((nth s2 v2).Shape.Kind), G ag ah ai, G aj ak al] cn Z Z sz44 Z Z fun co a5 cp => ?_;have a6 := a4.wr 0 Z a5;refine Xb (Xc (Xd (Xe (.func (.func ao) #[] ap.toArray) Z ?_)));have cq := (a4.bm (cg.k0 a3) 1 0 Z Z Z a5);refine Xa (Xt ag44 sz44 cL (Ad ar 0) [vs ((nth s1 v2).Id), vi ((nth s1 v2).Shape.Kind), G aa ab ac, G ad ae af] Z Z (cq.cells (off := 00) Z)) (Xa (Xt ag44 sz44 cL (Ad aw 0) [vs ((nth s2 v2).Id), vi ((nth s2 v2).Shape.Kind), G ag ah ai, G aj ak al] Z Z (cp.cells (off := 00) Z)) ?_);obtain ⟨cr, H⟩ := H;have am := bt.stown _ a3 (X0 bw);have an := a4.stw 0 Z a5;have cs := ((((cd.st au).st av).st am).st an);have ct := ((((ce.st au).st av).st am).st an);have cu := ((cl.st am).st an);have cv := ((cm.st am).st an);refine Zt b3 ap Z [.agg #[vs ((nth s1 v2).Id), vi ((nth s1 v2).Shape.Kind), G aa ab ac, G ad ae af], .agg #[vs ((nth s2 v2).Id), vi ((nth s2 v2).Shape.Kind), G ag ah ai, G aj ak al]] Z ((b4 co [some aw, some ar] a6 (nth s1 v2) aa ab ac ad ae af cc cs ct (nth s2 v2) ag ah ai aj ak al ck cu cv cr).mono ?_);rintro _ dl ⟨rfl, bx⟩;have a7 := a6.k0 bx;refine Xa (X5 (eq (nth s1 v2) (nth s2 v2)) Z) (Xb ?_);refine Xu (!(eq (nth s1 v2) (nth s2 v2))) Z (fun a8 => ?_) (fun a8 => ?_)
  ·have H := Xn H a8;refine Xc (Xd (Xf (vb false) Z (Xb (Xm ?_))));have cw := a7.clear;exact ⟨[vb false], ⟨_, Z, Z⟩, false, Z, H, cw.gr.g0⟩
  have H := Xo H a8;refine Xx (Xd ?_);obtain ⟨cx, H⟩ := H;refine Xa (Yb v2 1 Z Z cx) (Xe (vi (v2 + 1)) Z (Xb ?_));have bz := a7.drop 0 Z;have cy := bz.drop 0 Z;obtain ⟨cz, c0⟩ := H;have b0 := a6.stn bx;have b1 := a7.std 0 Z;have b2 := bz.std 0 Z;have c1 := (((((a2.st am).st an).st b0).st b1).st b2);have c2 := (((((((a0.st au).st av).st am).st an).st b0).st b1).st b2);exact ⟨v2 + 1, c0, cz, (Xy Z), cy, c1, c2⟩
 have H := Xo H a1;refine Yi (xin_hit ?_);exact Xc (Xd (Xf (vb true) Z (Xb (Xm ⟨[vb true], ⟨_, Z, Z⟩, true, Z, H, az.gr.g0⟩))))
def F44.E (a b : List Feat) (Q : Bool → Prop) : Prop :=
 (∃ (f : Feat → Feat → Bool) (f_ok : Feat → Feat → Prop), (∀ x0_ x1_, f_ok x0_ x1_ → F47.E x0_ x1_  (fun r => r = f x0_ x1_)) ∧ F3.E a b f f_ok (fun r => Q r))
theorem F44.calls {a : List Feat} {A1 : Option Addr} {n2 c3 : Nat} {b : List Feat} {A6 : Option Addr} {n7 c8 : Nat} {Q : Bool → Prop} (H : F44.E a b Q) (hO : Ok w0 O) (hp4 : Sl kFeat w0 (Fr O) (G A1 n2 c3) a) (hp9 : Sl kFeat w0 (Fr O) (G A6 n7 c8) b) :
  Ret Tryz.prog 36 [G A1 n2 c3, G A6 n7 c8] w0 (fun v w' => ∃ (r0 : Bool), v = vb r0 ∧ Q r0 ∧ Gr w0 w' none) := by
 unfold F44.E at H;have hc0 := Ct.init hO;refine X9 Tryz.func36 Z 8 Z [.tmp 4] Z Z ?_;refine Xc (Xd (Xf (vb false) Z (Xb (Xc (Xd (Xe (G A1 n2 c3) Z (Xe (G A6 n7 c8) Z ?_)))))));obtain ⟨f, f_ok, au, H⟩ := H;have av : ∀ (w : World) (L : Ob), Ct [] w0 w L ([] ++ O) → ∀ (x0_ : Feat) (aa : Option Addr) (ab ac : Nat) (ad : Option Addr) (ae af : Nat) (am : Lim x0_.Id) (an : Sl kPt w (Fr (L ++ ([] ++ O))) (G aa ab ac) x0_.Shape.Pts) (ao : Sl kTag w (Fr (L ++ ([] ++ O))) (G ad ae af) x0_.Tags) (x1_ : Feat) (ag : Option Addr) (ah ai : Nat) (aj : Option Addr) (ak al : Nat) (ap : Lim x1_.Id) (aq : Sl kPt w (Fr (L ++ ([] ++ O))) (G ag ah ai) x1_.Shape.Pts) (ar : Sl kTag w (Fr (L ++ ([] ++ O))) (G aj ak al) x1_.Tags), f_ok x0_ x1_ → Ret Tryz.prog 28 ([.agg #[vs x0_.Id, vi x0_.Shape.Kind, G aa ab ac, G ad ae af], .agg #[vs x1_.Id, vi x1_.Shape.Kind, G ag ah ai, G aj ak al]] ++ []) w (fun v w' => v = vb (f x0_ x1_) ∧ Gr w w' none) := by
  intro w L c x0_ aa ab ac ad ae af am an ao x1_ ag ah ai aj ak al ap aq ar hok;refine (F47.calls (au x0_ x1_ hok) c.ok am an ao ap aq ar).mono ?_;rintro _ w2 ⟨r, rfl, rfl, g2⟩;exact ⟨Z, g2⟩
 refine Xs go92 (F3.calls H hc0.ok hp4 hp9 go28 av) Z ?_;rintro _ ay ⟨r, rfl, H, aw⟩;have ax := hc0.k0 aw;exact Xf (vb r) Z (Xb (Xm ⟨[vb r], ⟨_, Z, Z⟩, r, Z, H, ax.gr.g0⟩))
def F64.E (s : List Feat) (id : Str) (Q : Feat → Bool → Prop) : Prop :=
 F107.E s id (fun r => F74.E s (fun r2 => (if !r2 then Q (⟨[], (⟨0, []⟩ : Shape), []⟩ : Feat) false else (if decide (r < 0) then Q (⟨[], (⟨0, []⟩ : Shape), []⟩ : Feat) false else ((0 : Int) ≤ r ∧ r < (s.length : Int)) ∧ F40.E (nth s r) (fun r3 => Q r3 true)))))
theorem F64.calls {s : List Feat} {A1 : Option Addr} {n2 c3 : Nat} {id : Str} {Q : Feat → Bool → Prop} (H : F64.E s id Q) (hO : Ok w0 O) (hp4 : Sl kFeat w0 (Fr O) (G A1 n2 c3) s) (hs6 : Lim id) :
  Ret Tryz.prog 32 [G A1 n2 c3, vs id] w0 (fun v w' => ∃ (r0 : Feat) (r1 : Bool) (Aw0 : Option Addr) (nw0 cw0 : Nat) (Aw2 : Option Addr) (nw2 cw2 : Nat), v = .tuple #[.agg #[vs r0.Id, vi r0.Shape.Kind, G Aw0 nw0 cw0, G Aw2 nw2 cw2], vb r1] ∧ Q r0 r1 ∧ Gk w0 w' [bk Aw0, bk Aw2] O (Lim r0.Id ∧ Ow kPt 49 w' ([bk Aw0, bk Aw2] ++ O) (G Aw0 nw0 cw0) r0.Shape.Pts ∧ Ow kTag 93 w' ([bk Aw0, bk Aw2] ++ O) (G Aw2 nw2 cw2) r0.Tags)) := by
 unfold F64.E at H;have hc0 := Ct.init hO;refine X9 Tryz.func32 Z 23 Z [.cell 4 44, .tmp 5] Z Z ?_;refine Xc (Xd (Yj [vs [], .int .i64 0, G none 0 0, G none 0 0] ze44 fun w7 b8 bb hu11 g9 ap => ?_));have aq := hc0.own g9 (some b8) (Yh bb hu11);refine Xf (vb false) Z (Xb (Xc (Xd (Xe (G A1 n2 c3) Z (Xe (vs id) Z ?_)))));refine Xs go82 (F107.calls H aq.ok (hp4.st aq.st) hs6) Z ?_;rintro _ bc ⟨r, rfl, H, ac⟩;have ar := aq.k0 ac;refine Xf (vi r) Z (Xb (Xc (Xc (Xd (Xe (G A1 n2 c3) Z ?_)))));refine Xs go37 (F74.calls H ar.ok (hp4.st ar.st)) Z ?_;rintro _ bd ⟨r2, rfl, H, ad⟩;have ab := ar.k0 ad;refine Xa (X5 r2 Z) (Xe (vb (!r2)) Z ?_);rcases X4 (!r2) with aa | aa
 ·have H := Xn H aa;refine Xi aa Z (Xi aa Z (Xa (Xk true (vb true) aa Z) (Xb (Yo (b := true) Z Z ?_))));refine Xc (Xd (Xa (Yn (.agg #[vs [], vi 0, G none 0 0, G none 0 0]) RF) ?_));have be := ((ap.k0 ac).k0 ad);refine Yd [vs [], vi 0, G none 0 0, G none 0 0] be Z Z sz44 Z Z fun a6 bf bg => ?_;have bh := ab.wr 0 Z bf;refine Xf (vb false) Z (Xb (Xm ?_));have bi := bh.own (Gr.refl _ none) none (by simp);have bj : Ow kPt 49 a6 ([bk none, some b8] ++ O) (G none 0 0) [] := Ow.nil _ _ _ _;have ae := bi.own (Gr.refl _ none) none (by simp);have bl : Ow kTag 93 a6 ([bk none, bk none, some b8] ++ O) (G none 0 0) [] := Ow.nil _ _ _ _;have bm := bg;have bn := ae.bgv bm 2 Z;have af := ae.drop 2 Z;have au := af.perm (.swap _ _ _);have bo := af.stp (.swap _ _ _);have bp := (bn.st bo);have bq := (af.sp (ae.sd (bj.so none (Gr.refl _ none) (by simp)) 1 2 Z Z Z) (.swap _ _ _));have br := (af.sp (ae.sd bl 0 2 Z Z Z) (.swap _ _ _));exact ⟨[.agg #[vs [], vi 0, G none 0 0, G none 0 0], vb false], ⟨_, _, Z, bp.1.res Z ag44 sz44, ⟨_, Z, Z⟩⟩, (⟨([] : Str), (⟨0, ([] : List Pt)⟩ : Shape), ([] : List Tag)⟩ : Feat), false, none, 0, 0, none, 0, 0, Z, H, au.gr.g0, au.ok, au.ge, RD, bq, br⟩
 have H := Xo H aa;refine Xg aa Z (Xe (vi r) Z (Xg aa Z (Xa (X1 r 0 (decide (r < 0)) Z Z Z) (Xa (Xk false (vb (decide (r < 0))) aa Z) (Xb ?_)))));refine Xu (decide (r < 0)) Z (fun av => ?_) (fun av => ?_)
 ·have H := Xn H av;refine Xc (Xd (Xa (Yn (.agg #[vs [], vi 0, G none 0 0, G none 0 0]) RF) ?_));have bs := ((ap.k0 ac).k0 ad);refine Yd [vs [], vi 0, G none 0 0, G none 0 0] bs Z Z sz44 Z Z fun a7 bt bu => ?_;have bv := ab.wr 0 Z bt;refine Xf (vb false) Z (Xb (Xm ?_));have bw := bv.own (Gr.refl _ none) none (by simp);have bx : Ow kPt 49 a7 ([bk none, some b8] ++ O) (G none 0 0) [] := Ow.nil _ _ _ _;have ag := bw.own (Gr.refl _ none) none (by simp);have bz : Ow kTag 93 a7 ([bk none, bk none, some b8] ++ O) (G none 0 0) [] := Ow.nil _ _ _ _;have b0 := bu;have b1 := ag.bgv b0 2 Z;have ah := ag.drop 2 Z;have aw := ah.perm (.swap _ _ _);have b2 := ah.stp (.swap _ _ _);have b3 := (b1.st b2);have b4 := (ah.sp (ag.sd (bx.so none (Gr.refl _ none) (by simp)) 1 2 Z Z Z) (.swap _ _ _));have b5 := (ah.sp (ag.sd bz 0 2 Z Z Z) (.swap _ _ _));exact ⟨[.agg #[vs [], vi 0, G none 0 0, G none 0 0], vb false], ⟨_, _, Z, b3.1.res Z ag44 sz44, ⟨_, Z, Z⟩⟩, (⟨([] : Str), (⟨0, ([] : List Pt)⟩ : Shape), ([] : List Tag)⟩ : Feat), false, none, 0, 0, none, 0, 0, Z, H, aw.gr.g0, aw.ok, aw.ge, RD, b4, b5⟩
 have H := Xo H av;refine Xx (Xc (Xd (Xe (G A1 n2 c3) Z (Xe (vi r) Z ?_))));obtain ⟨a8, H⟩ := H;obtain ⟨a9, cn, b6, co, b7, b9⟩ := (hp4.st ab.st).get default RD r a8;obtain ⟨ax, ay, az, a0, a1, a2, rfl, ca, cb, cc⟩ := kFeat.op b7;refine Xa (X3 u33_ Yx A1 a9 n2 c3 (hp4.st ab.st).len r Z b6 Z a8) (Xa (Xt ag44 sz44 cL (a9.add (r.toNat * 4)) [vs ((nth s r).Id), vi ((nth s r).Shape.Kind), G ax ay az, G a0 a1 a2] Z Z b9) ?_);refine Xs go77 (F40.calls H ab.ok ca cb cc) Z ?_;rintro _ cp ⟨r3, ai, aj, ak, al, am, an, rfl, H, ba, cd, ce, cf, cg, ch⟩;have a3 := ab.owns ba cd ce;have ci := (((ap.k0 ac).k0 ad).k0 ba);refine Yd [vs r3.Id, vi r3.Shape.Kind, G ai aj ak, G al am an] ci Z Z sz44 Z Z fun cq a4 cj => ?_;have ao := a3.wr 2 Z a4;refine Xf (vb true) Z (Xb (Xm ?_));have ck := ao.bgv cj 2 Z;have a5 := ao.drop 2 Z;have cl := (ao.sd (a3.sw cg 0 2 Z Z Z a4) 0 2 Z Z Z);have cm := (ao.sd (a3.sw ch 1 2 Z Z Z a4) 1 2 Z Z Z);exact ⟨[.agg #[vs r3.Id, vi r3.Shape.Kind, G ai aj ak, G al am an], vb true], ⟨_, _, Z, ck.1.res Z ag44 sz44, ⟨_, Z, Z⟩⟩, r3, true, ai, aj, ak, al, am, an, Z, H, a5.gr.g0, a5.ok, a5.ge, cf, cl, cm⟩
section
open Go.Shelf Go.Sort Go.Lib
def F8.E (x : List Str) (Q : List Str → Prop) : Prop := x.length ≤ 268435456 ∧ Q (sortS x)
theorem F8.calls {O : Ob} (w0 : World) (hO : Ok w0 O) (A : Option Addr) (n c : Nat) (x : List Str) (hp : Ow Kd.str 9 w0 O (.slice A n c) x) (Q : List Str → Prop) (h : F8.E x Q) :
  Ret Tryz.prog 55 [.slice A n c] w0 (fun v w' => ∃ (m0 : List Str), v = .tuple #[] ∧ Q m0 ∧ Gr w0 w' (blk (.slice A n c)) ∧ Ow Kd.str 9 w' O (.slice A n c) m0) := by
 obtain ⟨hl, hq⟩ := h
 by_cases hx : 0 < x.length
 ·obtain ⟨g, rfl, rfl, hc, hg⟩ := hp.form hx
  refine Calls.mono (Tryz.slices_Sort_string g 0 c x w0 hp.holds hg OM) fun e w' ⟨he, q, os, hw⟩ => ?_
  subst he; subst hw
  have hs : (sortS x).length = x.length := List.length_mergeSort _
  obtain ⟨h1, h2⟩ := hp.putS (sortS x) hs (fun y hy => hp.lims y (List.mem_mergeSort.1 hy)) q os hx
  exact ⟨_, rfl, sortS x, rfl, hq, h1, h2⟩
 ·have e0 : x = [] := List.length_eq_zero_iff.1 OM
  subst e0
  obtain rfl : n = 0 := hp.len
  refine Calls.mono (Tryz.slices_Sort_string_none A c w0) fun e w' ⟨he, hw⟩ => ?_
  subst he; subst hw
  exact ⟨_, rfl, [], rfl, (by simpa [sortS] using hq), Gr.refl _ _, hp⟩
end
section
open Go.Shelf Go.Sort Go.Lib
def F1.E (x : List Str) (Q : List Str → Prop) : Prop := x.length ≤ 268435456 ∧ Q (Lib.compact x)
theorem F1.calls {O : Ob} (w0 : World) (hO : Ok w0 O) (A : Option Addr) (n c : Nat) (x : List Str) (hp : Ow Kd.str 9 w0 O (.slice A n c) x) (Q : List Str → Prop) (h : F1.E x Q) :
  Ret Tryz.prog 56 [.slice A n c] w0 (fun v w' => ∃ (m0 : List Str) (l : Nat), v = .slice A l c ∧ Q m0 ∧ Gr w0 w' (blk (.slice A n c)) ∧ Ow Kd.str 9 w' O (.slice A l c) m0) := by
 obtain ⟨hl, hq⟩ := h
 by_cases hx : 0 < x.length
 ·obtain ⟨g, rfl, rfl, hc, hg⟩ := hp.form hx
  refine Calls.mono (Tryz.slices_Compact_string g 0 c x w0 hp.holds OM hc) fun e w' ⟨he, q, hw⟩ => ?_
  have hcl := compact_le x
  rw [← grow_empty (putRow encStr (Sort.ahead w0 q) g 0 _)] at hw
  subst he; subst hw
  obtain ⟨h1, h2⟩ := hp.putS (Lib.compact x ++ List.replicate (x.length - (Lib.compact x).length) []) (by rw [List.length_append, List.length_replicate]; omega) (fun y hy => by
   rcases List.mem_append.1 hy with hy | hy
   ·exact hp.lims y (compact_mem hy)
   ·rw [List.eq_of_mem_replicate hy]; decide) q #[] hx
  have h3 := h2.cut (Lib.compact x).length (by rw [List.length_append]; omega)
  rw [List.take_left'] at h3
  ·exact ⟨_, rfl, Lib.compact x, _, rfl, hq, h1, h3⟩
  ·rfl
 ·have e0 : x = [] := List.length_eq_zero_iff.1 OM
  subst e0
  obtain rfl : n = 0 := hp.len
  refine Calls.mono (Tryz.slices_Compact_string_empty A c w0) fun e w' ⟨he, hw⟩ => ?_
  subst he; subst hw
  exact ⟨_, rfl, [], _, rfl, hq, Gr.refl _ _, hp⟩
end
def F131.E (maps : List (List Feat)) (Q : List Str → Prop) : Prop :=
 (∃ (I40 : (List Str) → Int → Prop) (mu41 : (List Str) → Int → Nat), I40 [] 0 ∧ ∀ (xs2 : List Str) (v2 : Int), I40 xs2 v2 → (if decide (v2 < (maps.length : Int)) then ((0 : Int) ≤ v2 ∧ v2 < (maps.length : Int)) ∧ (∃ (I90 : (List Str) → Int → Prop) (mu91 : (List Str) → Int → Nat), I90 xs2 0 ∧ ∀ (xs4 : List Str) (v4 : Int), I90 xs4 v4 → (if decide (v4 < ((nth maps v2).length : Int)) then ((0 : Int) ≤ v4 ∧ v4 < ((nth maps v2).length : Int)) ∧ (xs4.length + ([(nth (nth maps v2) v4).Id] : List Str).length ≤ 268435456) ∧ (I64 (v4 + 1)) ∧ I90 (xs4 ++ ([(nth (nth maps v2) v4).Id] : List Str)) (v4 + 1) ∧ mu91 (xs4 ++ ([(nth (nth maps v2) v4).Id] : List Str)) (v4 + 1) < mu91 xs4 v4 else (I64 (v2 + 1)) ∧ I40 xs4 (v2 + 1) ∧ mu41 xs4 (v2 + 1) < mu41 xs2 v2)) else F8.E xs2 (fun m => F1.E m (fun r => Q r))))
theorem F131.calls {maps : List (List Feat)} {A1 : Option Addr} {n2 c3 : Nat} {Q : List Str → Prop} (H : F131.E maps Q) (hO : Ok w0 O) (hp4 : Sl (Kd.sl kFeat) w0 (Fr O) (G A1 n2 c3) maps) :
  Ret Tryz.prog 59 [G A1 n2 c3] w0 (fun v w' => ∃ (r0 : List Str) (Aw0 : Option Addr) (nw0 cw0 : Nat), v = G Aw0 nw0 cw0 ∧ Q r0 ∧ Gk w0 w' [bk Aw0] O (Ow Kd.str 9 w' ([bk Aw0] ++ O) (G Aw0 nw0 cw0) r0)) := by
 unfold F131.E at H;have hc0 := Ct.init hO;refine X9 Tryz.func59 Z 32 Z [.tmp 2] Z Z ?_;refine Xc (Xd (Xf (G none 0 0) Z (Xb (Xc (Xd (X8 (kd := Kd.str) Y9 hc0 ([] : List Str) (cells := []) Z RF fun w6 A7 n8 c9 c0 hr11 am bw => ?_))))));refine Xf (G A7 n8 c9) Z (Xb (Xc (Xc (Xd (Xe (G A1 n2 c3) Z ?_)))));have c1 := (hp4.st am.st).le;refine Xa (Ya Tryz.underlying134 A1 n2 c3 (hp4.st am.st).len Z) (Xe (vi 0) Z (Xb (X6 ?_)));obtain ⟨bx, bz, an, H⟩ := H;refine Yk (α := (List Str) × (Option Addr) × Nat × Nat × Int) (fun (xs2, aa, ac, ab, v2) t aj => bx xs2 v2 ∧ Has t [(3, G aa ac ab), (9, G A1 n2 c3), (10, vi (maps.length : Int)), (11, vi v2)] ∧ Cw [] w0 aj [bk aa] O fun M => Sl (Kd.sl kFeat) aj (Fr M) (G A1 n2 c3) maps ∧ Ow Kd.str 9 aj M (G aa ac ab) xs2) (fun (xs2, _, _, _, v2) => bz xs2 v2) (([] : List Str), A7, n8, c9, 0) ⟨an, (Xy Z), am, (hp4.st am.st), bw⟩ ?_;rintro ⟨xs2, aa, ac, ab, v2⟩ _ aj ⟨an, b0, ao, ap, bc⟩;obtain ⟨c2, rfl⟩ := Has.ins b0;have H := H xs2 v2 an;refine Xc (Xd (Xa (X1 v2 (maps.length : Int) (decide (v2 < (maps.length : Int))) Z Z Z) (Xb (Xc ?_))));refine Xu (decide (v2 < (maps.length : Int))) Z (fun aq => ?_) (fun aq => ?_)
 ·have H := Xn H aq;refine Xx (Xc (X6 (Xc (Xd ?_))));obtain ⟨bd, H⟩ := H;obtain ⟨be, c4, b1, c5, b2, b3⟩ := ap.get default RD v2 bd;obtain ⟨ae, af, ag, rfl, ar⟩ := Kd.sl.op b2;refine Xa (X3 Tryz.underlying134 Z9 A1 be n2 c3 ap.len v2 Z b1 Z bd) (Xa (Xq ag33 cL (be.add (v2.toNat * 1)) (G ae af ag) Z (b3 0 _ Z)) (Xf (G ae af ag) Z (Xb (Xc (Xd (Xe (G ae af ag) Z ?_))))));have c6 := ar.le;refine Xa (Ya u33_ ae af ag ar.len Z) (Xe (vi 0) Z (Xb (X6 ?_)));obtain ⟨b4, b5, au, H⟩ := H;refine Yk (α := (List Str) × (Option Addr) × Nat × Nat × Int) (fun (xs4, ad, ah, ai, v4) t ak => b4 xs4 v4 ∧ Has t [(3, G ad ah ai), (9, G A1 n2 c3), (10, vi (maps.length : Int)), (11, vi v2), (15, G ae af ag), (16, vi ((nth maps v2).length : Int)), (17, vi v4)] ∧ Cw [] w0 ak [bk ad] O fun M => Sl (Kd.sl kFeat) ak (Fr M) (G A1 n2 c3) maps ∧ Sl kFeat ak (Fr M) (G ae af ag) (nth maps v2) ∧ Ow Kd.str 9 ak M (G ad ah ai) xs4) (fun (xs4, _, _, _, v4) => b5 xs4 v4) (xs2, aa, ac, ab, 0) ⟨au, (Xy Z), ao, ap, ar, bc⟩ ?_;rintro ⟨xs4, ad, ah, ai, v4⟩ _ ak ⟨au, b6, av, bf, aw, bg⟩;obtain ⟨c7, rfl⟩ := Has.ins b6;have H := H xs4 v4 au;refine Xc (Xd (Xa (X1 v4 ((nth maps v2).length : Int) (decide (v4 < ((nth maps v2).length : Int))) Z Z Z) (Xb (Xc ?_))));refine Xu (decide (v4 < ((nth maps v2).length : Int))) Z (fun ax => ?_) (fun ax => ?_)
  ·have H := Xn H ax;refine Xx (Xc (X6 (Xc (Xd ?_))));obtain ⟨bh, H⟩ := H;obtain ⟨bi, c8, b7, da, b8, b9⟩ := aw.get default RD v4 bh;obtain ⟨ay, az, a0, a1, a2, a3, rfl, ca, db, dc⟩ := kFeat.op b8;refine Xa (X3 u33_ Yx ae bi af ag aw.len v4 Z b7 Z bh) (Xa (Xt ag44 sz44 cL (bi.add (v4.toNat * 4)) [vs ((nth (nth maps v2) v4).Id), vi ((nth (nth maps v2) v4).Shape.Kind), G ay az a0, G a1 a2 a3] Z Z b9) (Yj [vs [], .int .i64 0, G none 0 0, G none 0 0] ze44 fun dd al a4 hu119 a5 cb => ?_));have a6 := av.own a5 (some al) (Yh a4 hu119);refine Yd [vs ((nth (nth maps v2) v4).Id), vi ((nth (nth maps v2) v4).Shape.Kind), G ay az a0, G a1 a2 a3] cb Z Z sz44 Z Z fun de a7 cc => ?_;have bj := a6.wr 0 Z a7;refine Xb (Xd (Xe (G ad ah ai) Z (Xa (Xj fa44_0 (Ad al 0) (Ad al 0) Z Z) (Xa (Xq ag9 cL (Ad al 0) (vs ((nth (nth maps v2) v4).Id)) Z (cc.cell Z)) (X8 (kd := Kd.str) Y9 bj ([(nth (nth maps v2) v4).Id] : List Str) (cells := [vs ((nth (nth maps v2) v4).Id)]) ⟨[vs ((nth (nth maps v2) v4).Id)], _, Z, ⟨Z, ca⟩, Z⟩ RF fun df cd ce cf bl hr132 cg ch => ?_)))));obtain ⟨ci, H⟩ := H;have cj := ((a6.sw (bg.so _ a5 (X0 a4)) 1 0 Z Z Z a7).so _ bl hr132);refine Yf Y9 cg (G ad ah ai) xs4 ([(nth (nth maps v2) v4).Id] : List Str) Z cj (G cd ce cf) Z ch.sx 2 Z ci fun dg bm bn bo dh bp a8 ck => ?_;refine Xf (G bm bn bo) Z (Xb (Xd ?_));obtain ⟨cl, H⟩ := H;refine Xa (Yb v4 1 Z Z cl) (Xe (vi (v4 + 1)) Z (Xb ?_));have a9 := a8.drop 0 Z;have cm := a9.drop 0 Z;obtain ⟨cn, co⟩ := H;have bq := av.stown _ a5 (X0 a4);have br := a6.stw 0 Z a7;have bs := bj.stown _ bl hr132;have bt := a8.std 0 Z;have bu := a9.std 0 Z;have cp := ((((((bf.st bq).st br).st bs).st bp).st bt).st bu);have cq := ((((((aw.st bq).st br).st bs).st bp).st bt).st bu);have cr := (a9.sd (a8.sd ck 2 0 Z Z Z) 1 0 Z Z Z);exact ⟨((xs4 ++ ([(nth (nth maps v2) v4).Id] : List Str)), bm, bn, bo, v4 + 1), co, cn, (Xy Z), cm, cp, cq, cr⟩
  have H := Xo H ax;refine Yi (xin_hit ?_);refine Xd ?_;obtain ⟨cs, H⟩ := H;refine Xa (Yb v2 1 Z Z cs) (Xe (vi (v2 + 1)) Z (Xb ?_));obtain ⟨ct, cu⟩ := H;exact ⟨(xs4, ad, ah, ai, v2 + 1), cu, ct, (Xy Z), av, bf, bg⟩
 have H := Xo H aq;refine Yi (xin_hit ?_);refine Xc (Xd (Xe (G aa ac ab) Z ?_));refine Zo go55 [G aa ac ab] Z ((F8.calls aj ao.ok aa ac ab xs2 bc _ H).mono ?_);rintro _ cv ⟨m, rfl, H, cw, cx⟩;have bv := ao.wr 0 Z cw;refine Xb (Xc (Xd (Xe (G aa ac ab) Z ?_)));refine Zo go56 [G aa ac ab] Z ((F1.calls cv bv.ok aa ac ab m cx _ H).mono ?_);rintro _ di ⟨r, ba, rfl, H, cy, cz⟩;have bb := bv.wr 0 Z cy;exact Xf (G aa ba ab) Z (Xb (Xm ⟨[G aa ba ab], ⟨_, Z, Z⟩, r, aa, ba, ab, Z, H, bb.gr.g0, bb.ok, bb.ge, cz⟩))
def F108.E (a b : List Feat) (Q : List Change → Prop) : Prop :=
 F74.E a (fun r => (if !r then Q [] else F74.E b (fun r2 => (if !r2 then Q [] else F131.E ([a, b] : List (List Feat)) (fun r3 => (∃ (I111 : (List Change) → Int → Prop) (mu112 : (List Change) → Int → Nat), I111 [] 0 ∧ ∀ (xs2 : List Change) (v2 : Int), I111 xs2 v2 → (if decide (v2 < (r3.length : Int)) then ((0 : Int) ≤ v2 ∧ v2 < (r3.length : Int)) ∧ F141.E a (nth r3 v2) (fun r4 r5 => F141.E b (nth r3 v2) (fun r6 r7 => F19.E (⟨(nth r3 v2), r5, r4, r7, r6⟩ : Change) (fun r8 => (if !r8 then (xs2.length + ([(⟨(nth r3 v2), r5, r4, r7, r6⟩ : Change)] : List Change).length ≤ 268435456) ∧ (I64 (v2 + 1)) ∧ I111 (xs2 ++ ([(⟨(nth r3 v2), r5, r4, r7, r6⟩ : Change)] : List Change)) (v2 + 1) ∧ mu112 (xs2 ++ ([(⟨(nth r3 v2), r5, r4, r7, r6⟩ : Change)] : List Change)) (v2 + 1) < mu112 xs2 v2 else (I64 (v2 + 1)) ∧ I111 xs2 (v2 + 1) ∧ mu112 xs2 (v2 + 1) < mu112 xs2 v2)))) else Q xs2)))))))
theorem F108.calls {a : List Feat} {A1 : Option Addr} {n2 c3 : Nat} {b : List Feat} {A6 : Option Addr} {n7 c8 : Nat} {Q : List Change → Prop} (H : F108.E a b Q) (hO : Ok w0 O) (hp4 : Sl kFeat w0 (Fr O) (G A1 n2 c3) a) (hp9 : Sl kFeat w0 (Fr O) (G A6 n7 c8) b) :
  Ret Tryz.prog 20 [G A1 n2 c3, G A6 n7 c8] w0 (fun v w' => ∃ (r0 : List Change) (Aw0 : Option Addr) (nw0 cw0 : Nat) (q0 : Ob) (ra0 : List (List Value)), v = G Aw0 nw0 cw0 ∧ Q r0 ∧ Gr w0 w' none ∧ Ok w' ((bk Aw0 :: (q0 ++ [])) ++ O) ∧ (∀ b, some b ∈ (bk Aw0 :: (q0 ++ [])) → w0.heap.size ≤ b) ∧ Ow (Kd.cells 11) 62 w' ((bk Aw0 :: (q0 ++ [])) ++ O) (G Aw0 nw0 cw0) ra0 ∧ DArr dChange_62 w' q0 r0 ra0) := by
 unfold F108.E at H;have hc0 := Ct.init hO;refine X9 Tryz.func20 Z 55 Z [.tmp 4] Z Z ?_;refine Xc (Xd (Xf (G none 0 0) Z (Xb (Xc (Xd ?_)))));have cd : DArr dChange_62 w0 ([] : Ob) ([] : List Change) ([] : List (List Value)) := Z;refine X8 (kd := Kd.cells 11) Zb hc0 ([] : List (List Value)) (cells := []) Z RF fun d4 aw a5 a6 ce hr16 bw cf => ?_;have bx : ([bk aw] : Ob).Perm (bk aw :: (([] : Ob) ++ [])) := RP;have cg := bw.perm bx;refine Xf (G aw a5 a6) Z (Xb (Xc (Xc (Xd (Xe (G A1 n2 c3) Z ?_)))));refine Xs go37 (F74.calls H cg.ok (hp4.st cg.st)) Z ?_;rintro _ d5 ⟨r, rfl, H, bf⟩;have bi := cg.k0 bf;refine Xa (X5 r Z) (Xe (vb (!r)) Z ?_);rcases X4 (!r) with a3 | a3
 ·have H := Xn H a3;refine Xi a3 Z (Xi a3 Z (Xi a3 Z (Xa (Xk true (vb true) a3 Z) (Xb (Yo (b := true) Z Z ?_)))));refine Xc (Xd (Xe (G aw a5 a6) Z (Xf (G aw a5 a6) Z (Xb (Xm ?_)))));have d6 := ((bw.sp cf bx).sn bf);have d7 := ((cd.k0 ce).k0 bf);exact ⟨[G aw a5 a6], ⟨_, Z, Z⟩, ([] : List Change), aw, a5, a6, ([] : Ob), ([] : List (List Value)), Z, H, bi.gr.g0, bi.ok, bi.ge, d6, d7⟩
 have H := Xo H a3;refine Xg a3 Z (Xe (G A6 n7 c8) Z (Xg a3 Z ?_));refine Xs go37 (F74.calls H bi.ok (hp9.st bi.st)) Z ?_;rintro _ gh ⟨r2, rfl, H, bo⟩;have bj := bi.k0 bo;refine Xg a3 Z (Xa (X5 r2 Z) (Xa (Xk false (vb (!r2)) a3 Z) (Xb ?_)));refine Xu (!r2) Z (fun ch => ?_) (fun ch => ?_)
 ·have H := Xn H ch;refine Xc (Xd (Xe (G aw a5 a6) Z (Xf (G aw a5 a6) Z (Xb (Xm ?_)))));have d8 := (((bw.sp cf bx).sn bf).sn bo);have d9 := (((cd.k0 ce).k0 bf).k0 bo);exact ⟨[G aw a5 a6], ⟨_, Z, Z⟩, ([] : List Change), aw, a5, a6, ([] : Ob), ([] : List (List Value)), Z, H, bj.gr.g0, bj.ok, bj.ge, d8, d9⟩
 have H := Xo H ch;refine Xx (Xc (Xc (Xd (Xe (G A1 n2 c3) Z (Xe (G A6 n7 c8) Z (X8 (kd := (Kd.sl kFeat)) Z8 bj ([a, b] : List (List Feat)) (cells := [G A1 n2 c3, G A6 n7 c8]) ⟨[G A1 n2 c3], _, Z, ⟨_, Z, (hp4.st bj.st)⟩, ⟨[G A6 n7 c8], _, Z, ⟨_, Z, (hp9.st bj.st)⟩, Z⟩⟩ RF fun ea bz c4 c5 c6 hr46 b0 eb => ?_))))));have ec := b0.gv eb 0 Z;have ed := b0.drop 0 Z;refine Xs go59 (F131.calls H ed.ok ec) Z ?_;rintro _ gi ⟨r3, ah, b1, b2, rfl, H, b3, ee, ci, ef⟩;have eg := Ok.unl (L := (bk bz :: bk aw :: (([] : Ob) ++ []))) (L' := (bk aw :: (([] : Ob) ++ []))) (O := O) b0 b3 ee ci;have cj := Ow.unl (L := (bk bz :: bk aw :: (([] : Ob) ++ []))) (L' := (bk aw :: (([] : Ob) ++ []))) (O := O) (fun _ _ _ _ _ _ h => h) (.cons _ (.cons_cons _ (.append (.refl _) (.refl _)))) ef;have ck := b0.owns b3 eg ci;have gj := cj.le;refine Xa (Ya u50_ ah b1 b2 cj.len Z) (Xe (vi 0) Z (Xb (X6 ?_)));have cl := ck.drop 1 Z;obtain ⟨eh, ei, cm, H⟩ := H;have ej := (ck.sd (((((bw.sp cf bx).sn bf).sn bo).so _ c6 hr46).sos b3 ci) 2 1 Z Z Z);have ek := (((((cd.k0 ce).k0 bf).k0 bo).k0 c6).k0 b3);have el := (ck.sd cj 0 1 Z Z Z);refine Yk (α := (List Change) × (List (List Value)) × Ob × (Option Addr) × Nat × Nat × Int) (fun (xs2, ba, ag, af, a7, a8, v2) t bg => eh xs2 v2 ∧ Has t [(0, G A1 n2 c3), (1, G A6 n7 c8), (5, G af a7 a8), (22, G ah b1 b2), (23, vi (r3.length : Int)), (24, vi v2)] ∧ Cw [] w0 bg (bk ah :: bk af :: (ag ++ [])) O fun M => Sl kFeat bg (Fr M) (G A1 n2 c3) a ∧ Sl kFeat bg (Fr M) (G A6 n7 c8) b ∧ Ow (Kd.cells 11) 62 bg M (G af a7 a8) ba ∧ DArr dChange_62 bg ag xs2 ba ∧ Ow Kd.str 9 bg M (G ah b1 b2) r3) (fun (xs2, _, _, _, _, _, v2) => ei xs2 v2) (([] : List Change), ([] : List (List Value)), ([] : Ob), aw, a5, a6, 0) ⟨cm, (Xy Z), cl, (hp4.st cl.st), (hp9.st cl.st), ej, ek, el⟩ ?_;rintro ⟨xs2, ba, ag, af, a7, a8, v2⟩ _ bg ⟨cm, em, b4, en, eo, cn, co, b5⟩;obtain ⟨gk, rfl⟩ := Has.ins em;have H := H xs2 v2 cm;refine Xc (Xd (Xa (X1 v2 (r3.length : Int) (decide (v2 < (r3.length : Int))) Z Z Z) (Xb (Xc ?_))));refine Xu (decide (v2 < (r3.length : Int))) Z (fun cp => ?_) (fun cp => ?_)
 ·have H := Xn H cp;refine Xx (Xc (X6 (Xc (Xd ?_))));obtain ⟨c7, H⟩ := H;obtain ⟨c9, gl, ep, eq, er⟩ := b5.get default RD v2 c7;obtain ⟨rfl, b6⟩ := Kd.str.op eq;refine Xa (X3 u50_ Zj ah c9 b1 b2 b5.len v2 Z ep Z c7) (Xa (Xq ag9 cL (c9.add (v2.toNat * 1)) (vs (nth r3 v2)) Z (er 0 _ Z)) (Xf (vs (nth r3 v2)) Z (Xb (Xc (Xd (Xe (vs (nth r3 v2)) Z (Xa (Yn (.agg #[vs (nth r3 v2), vb false, vs [], vi 0, G none 0 0, G none 0 0, vb false, vs [], vi 0, G none 0 0, G none 0 0]) RF) (Yj [vs [], vb false, vs [], .int .i64 0, G none 0 0, G none 0 0, vb false, vs [], .int .i64 0, G none 0 0, G none 0 0] ze62 fun gm ae bl hu133 bb es => ?_))))))));have bc := b4.own bb (some ae) (Yh bl hu133);refine Yd [vs (nth r3 v2), vb false, vs [], vi 0, G none 0 0, G none 0 0, vb false, vs [], vi 0, G none 0 0, G none 0 0] es Z Z sz62 Z Z fun et bd eu => ?_;have cq := bc.wr 0 Z bd;refine Xb (Xc (Xd (Xe (G A1 n2 c3) Z (Xe (vs (nth r3 v2)) Z ?_))));have da := b4.stown _ bb (X0 bl);have db := bc.stw 0 Z bd;have cr := ((en.st da).st db);refine Xs go60 (F141.calls H cq.ok cr b6) Z ?_;rintro _ gn ⟨r4, r5, aa, ai, aj, ab, ak, al, rfl, H, a9, ev, bm, dc, dd, de⟩;have az := cq.owns a9 ev bm;refine Xe (.tuple #[.agg #[vs r4.Id, vi r4.Shape.Kind, G aa ai aj, G ab ak al], vb r5]) Z (Xa (Y1 [.agg #[vs r4.Id, vi r4.Shape.Kind, G aa ai aj, G ab ak al], vb r5] 0 (.agg #[vs r4.Id, vi r4.Shape.Kind, G aa ai aj, G ab ak al]) Z Z) (Xa (Y1 [.agg #[vs r4.Id, vi r4.Shape.Kind, G aa ai aj, G ab ak al], vb r5] 1 (vb r5) Z Z) (Xa (Xj fa62_2 (Ad ae 0) (Ad ae 2) Z Z) ?_)));have ew := (eu.k0 a9);refine Yr 2 [vs r4.Id, vi r4.Shape.Kind, G aa ai aj, G ab ak al] [vs (nth r3 v2), vb false, vs r4.Id, vi r4.Shape.Kind, G aa ai aj, G ab ak al, vb false, vs [], vi 0, G none 0 0, G none 0 0] ew Z Z sz44 Z Z Z fun gp a0 ex => ?_;have a1 := az.wr 2 Z a0;refine Xa (Xj fa62_1 (Ad ae 0) (Ad ae 1) Z Z) (Yr 1 [vb r5] [vs (nth r3 v2), vb r5, vs r4.Id, vi r4.Shape.Kind, G aa ai aj, G ab ak al, vb false, vs [], vi 0, G none 0 0, G none 0 0] ex Z Z sz4 Z Z Z fun ey a2 ez => ?_);have b7 := a1.wr 2 Z a2;refine Xb (Xc (Xd (Xe (G A6 n7 c8) Z (Xe (vs (nth r3 v2)) Z ?_))));have cs := cq.stos a9 bm;have ct := az.stw 2 Z a0;have cu := a1.stw 2 Z a2;have cv := (((((eo.st da).st db).st cs).st ct).st cu);refine Xs go60 (F141.calls H b7.ok cv b6) Z ?_;rintro _ gq ⟨r6, r7, ac, am, an, ad, ao, ap, rfl, H, ax, e0, a4, df, dg, dh⟩;have aq := b7.owns ax e0 a4;refine Xe (.tuple #[.agg #[vs r6.Id, vi r6.Shape.Kind, G ac am an, G ad ao ap], vb r7]) Z (Xa (Y1 [.agg #[vs r6.Id, vi r6.Shape.Kind, G ac am an, G ad ao ap], vb r7] 0 (.agg #[vs r6.Id, vi r6.Shape.Kind, G ac am an, G ad ao ap]) Z Z) (Xa (Y1 [.agg #[vs r6.Id, vi r6.Shape.Kind, G ac am an, G ad ao ap], vb r7] 1 (vb r7) Z Z) (Xa (Xj fa62_4 (Ad ae 0) (Ad ae 7) Z Z) ?_)));have e1 := (ez.k0 ax);refine Yr 7 [vs r6.Id, vi r6.Shape.Kind, G ac am an, G ad ao ap] [vs (nth r3 v2), vb r5, vs r4.Id, vi r4.Shape.Kind, G aa ai aj, G ab ak al, vb false, vs r6.Id, vi r6.Shape.Kind, G ac am an, G ad ao ap] e1 Z Z sz44 Z Z Z fun gs ar e2 => ?_;have au := aq.wr 4 Z ar;refine Xa (Xj fa62_3 (Ad ae 0) (Ad ae 6) Z Z) (Yr 6 [vb r7] [vs (nth r3 v2), vb r5, vs r4.Id, vi r4.Shape.Kind, G aa ai aj, G ab ak al, vb r7, vs r6.Id, vi r6.Shape.Kind, G ac am an, G ad ao ap] e2 Z Z sz4 Z Z Z fun di av dj => ?_);have be := au.wr 4 Z av;refine Xb (Xc (Xd (Xa (Xt ag62 sz62 cL (Ad ae 0) [vs (nth r3 v2), vb r5, vs r4.Id, vi r4.Shape.Kind, G aa ai aj, G ab ak al, vb r7, vs r6.Id, vi r6.Shape.Kind, G ac am an, G ad ao ap] Z Z (dj.cells (off := 00) Z)) ?_)));have e3 := (au.sw (aq.sw ((a1.sw (az.sw dd 0 2 Z Z Z a0) 0 2 Z Z Z a2).sos ax a4) 2 4 Z Z Z ar) 2 4 Z Z Z av);have e4 := be.gv e3 2 Z;have bp := be.drop 2 Z;have e5 := (be.sd (au.sw (aq.sw ((a1.sw (az.sw de 1 2 Z Z Z a0) 1 2 Z Z Z a2).sos ax a4) 3 4 Z Z Z ar) 3 4 Z Z Z av) 3 2 Z Z Z);have e6 := bp.gv e5 2 Z;have b8 : Ct [] w0 di (bk ac :: bk ad :: some ae :: bk ah :: bk af :: (ag ++ [])) O := bp.drop 2 Z;have e7 := (bp.sd (be.sd (au.sw (aq.sw dg 0 4 Z Z Z ar) 0 4 Z Z Z av) 0 2 Z Z Z) 0 2 Z Z Z);have e8 := b8.gv e7 0 Z;have cw := b8.drop 0 Z;have e9 := (b8.sd (bp.sd (be.sd (au.sw (aq.sw dh 1 4 Z Z Z ar) 1 4 Z Z Z av) 1 2 Z Z Z) 1 2 Z Z Z) 1 0 Z Z Z);have fa := cw.gv e9 0 Z;have fb := cw.drop 0 Z;have fc := bp.std 2 Z;have dk := b8.std 0 Z;have cx := cw.std 0 Z;have fd := (((e4.st fc).st dk).st cx);have fe := ((e6.st dk).st cx);refine Xs go53 (F19.calls H fb.ok b6 dc fd fe df (e8.st cx) fa) Z ?_;rintro _ dl ⟨r8, rfl, H, ay⟩;have bq := be.k0 ay;refine Xa (X5 r8 Z) (Xb ?_);refine Xu (!r8) Z (fun cy => ?_) (fun cy => ?_)
  ·have H := Xn H cy;refine Xd (Xe (G af a7 a8) Z ?_);have ff := (dj.k0 ay);refine Xa (Xt ag62 sz62 cL (Ad ae 0) [vs (nth r3 v2), vb r5, vs r4.Id, vi r4.Shape.Kind, G aa ai aj, G ab ak al, vb r7, vs r6.Id, vi r6.Shape.Kind, G ac am an, G ad ao ap] Z Z (ff.cells (off := 00) Z)) ?_;have fg := ((au.sw (aq.sw ((a1.sw (az.sw dd 0 2 Z Z Z a0) 0 2 Z Z Z a2).sos ax a4) 2 4 Z Z Z ar) 2 4 Z Z Z av).sn ay);have fh := ((au.sw (aq.sw ((a1.sw (az.sw de 1 2 Z Z Z a0) 1 2 Z Z Z a2).sos ax a4) 3 4 Z Z Z ar) 3 4 Z Z Z av).sn ay);have fi := ((au.sw (aq.sw dg 0 4 Z Z Z ar) 0 4 Z Z Z av).sn ay);have fj := ((au.sw (aq.sw dh 1 4 Z Z Z ar) 1 4 Z Z Z av).sn ay);have dm : (dChange_62).D dl ([] ++ ([] ++ (([] ++ (([] ++ [bk aa]) ++ [bk ab])) ++ ([] ++ ([] ++ (([] ++ [bk ac]) ++ [bk ad])))))) (⟨(nth r3 v2), r5, r4, r7, r6⟩ : Change) [vs (nth r3 v2), vb r5, vs r4.Id, vi r4.Shape.Kind, G aa ai aj, G ab ak al, vb r7, vs r6.Id, vi r6.Shape.Kind, G ac am an, G ad ao ap] := (dChange_62.mk _ (⟨(nth r3 v2), r5, r4, r7, r6⟩ : Change) b6 dc (Ds.ofOw kPt_flat fg) (Ds.ofOw kTag_flat fh) df (Ds.ofOw kPt_flat fi) (Ds.ofOw kTag_flat fj));have fk : DArr dChange_62 dl (([] ++ ([] ++ (([] ++ (([] ++ [bk aa]) ++ [bk ab])) ++ ([] ++ ([] ++ (([] ++ [bk ac]) ++ [bk ad])))))) ++ []) ([(⟨(nth r3 v2), r5, r4, r7, r6⟩ : Change)] : List Change) ([[vs (nth r3 v2), vb r5, vs r4.Id, vi r4.Shape.Kind, G aa ai aj, G ab ak al, vb r7, vs r6.Id, vi r6.Shape.Kind, G ac am an, G ad ao ap]] : List (List Value)) := ⟨_, _, Z, dm, Z⟩;refine X8 (kd := Kd.cells 11) Zb bq ([[vs (nth r3 v2), vb r5, vs r4.Id, vi r4.Shape.Kind, G aa ai aj, G ab ak al, vb r7, vs r6.Id, vi r6.Shape.Kind, G ac am an, G ad ao ap]] : List (List Value)) (cells := [vs (nth r3 v2), vb r5, vs r4.Id, vi r4.Shape.Kind, G aa ai aj, G ab ak al, vb r7, vs r6.Id, vi r6.Shape.Kind, G ac am an, G ad ao ap]) ⟨[vs (nth r3 v2), vb r5, vs r4.Id, vi r4.Shape.Kind, G aa ai aj, G ab ak al, vb r7, vs r6.Id, vi r6.Shape.Kind, G ac am an, G ad ao ap], _, Z, Dd.raw _ dm, Z⟩ RF fun gt bh fl fm br hr239 bs fn => ?_;have bt : ((bk bh :: bk ac :: bk ad :: bk aa :: bk ab :: some ae :: bk ah :: bk af :: (ag ++ [])) : Ob).Perm (bk bh :: some ae :: bk ah :: bk af :: (ag ++ ((([] ++ ([] ++ (([] ++ (([] ++ [bk aa]) ++ [bk ab])) ++ ([] ++ ([] ++ (([] ++ [bk ac]) ++ [bk ad])))))) ++ []) ++ []))) := RP;have b9 := bs.perm bt;obtain ⟨fo, H⟩ := H;have fp := (bs.sp (((au.sw (aq.sw ((a1.sw (az.sw ((bc.sw (cn.so _ bb (X0 bl)) 2 0 Z Z Z bd).sos a9 bm) 4 2 Z Z Z a0) 4 2 Z Z Z a2).sos ax a4) 6 4 Z Z Z ar) 6 4 Z Z Z av).sn ay).so _ br hr239) bt);have fq := (bs.sp fn bt);have dn := (((DArr.sm (L := (bk ac :: bk ad :: bk aa :: bk ab :: some ae :: bk ah :: bk af :: (ag ++ []))) (O := O) (i := 4) (DArr.sm (L := (bk ac :: bk ad :: bk aa :: bk ab :: some ae :: bk ah :: bk af :: (ag ++ []))) (O := O) (i := 4) ((DArr.sm (L := (bk aa :: bk ab :: some ae :: bk ah :: bk af :: (ag ++ []))) (O := O) (i := 2) (DArr.sm (L := (bk aa :: bk ab :: some ae :: bk ah :: bk af :: (ag ++ []))) (O := O) (i := 2) ((DArr.sm (L := (some ae :: bk ah :: bk af :: (ag ++ []))) (O := O) (i := 0) (co.k0 bb) bc Z (fun b hb => (mcm (mcm (List.mem_append_left _ hb)))) bd).k0 a9) az Z (fun b hb => (mcm (mcm (List.mem_append_left _ hb)))) a0) a1 Z (fun b hb => (mcm (mcm (List.mem_append_left _ hb)))) a2).k0 ax) aq Z (fun b hb => (mcm (mcm (List.mem_append_left _ hb)))) ar) au Z (fun b hb => (mcm (mcm (List.mem_append_left _ hb)))) av).k0 ay).k0 br);have dp := (fk.k0 br);have fr : ba.length + ([[vs (nth r3 v2), vb r5, vs r4.Id, vi r4.Shape.Kind, G aa ai aj, G ab ak al, vb r7, vs r6.Id, vi r6.Shape.Kind, G ac am an, G ad ao ap]] : List (List Value)).length ≤ 268435456 := by rw [dn.len, dp.len]; exact fo
   refine Yf (kd := Kd.cells 11) Zb b9 (G af a7 a8) ba ([[vs (nth r3 v2), vb r5, vs r4.Id, vi r4.Shape.Kind, G aa ai aj, G ab ak al, vb r7, vs r6.Id, vi r6.Shape.Kind, G ac am an, G ad ao ap]] : List (List Value)) Z fp (G bh fl fm) Z fq.sx 3 Z fr fun gu bn dq dr cz c0 c1 fs => ?_;have ft := (DArr.sm (L := (bk bh :: some ae :: bk ah :: bk af :: (ag ++ ((([] ++ ([] ++ (([] ++ (([] ++ [bk aa]) ++ [bk ab])) ++ ([] ++ ([] ++ (([] ++ [bk ac]) ++ [bk ad])))))) ++ []) ++ [])))) (O := O) (i := 3) dn b9 Z (fun b hb => (List.mem_append_left _ hb)) cz);have fu := (DArr.sm (L := (bk bh :: some ae :: bk ah :: bk af :: (ag ++ ((([] ++ ([] ++ (([] ++ (([] ++ [bk aa]) ++ [bk ab])) ++ ([] ++ ([] ++ (([] ++ [bk ac]) ++ [bk ad])))))) ++ []) ++ [])))) (O := O) (i := 3) dp b9 Z (fun b hb => (List.mem_append_right _ (List.mem_append_left _ hb))) cz);have fv := DArr.app ft fu;have bu : ((bk bh :: some ae :: bk ah :: bk bn :: (ag ++ ((([] ++ ([] ++ (([] ++ (([] ++ [bk aa]) ++ [bk ab])) ++ ([] ++ ([] ++ (([] ++ [bk ac]) ++ [bk ad])))))) ++ []) ++ []))) : Ob).Perm ((bk bh :: []) ++ (some ae :: bk ah :: bk bn :: (ag ++ ((([] ++ ([] ++ (([] ++ (([] ++ [bk aa]) ++ [bk ab])) ++ ([] ++ ([] ++ (([] ++ [bk ac]) ++ [bk ad])))))) ++ []) ++ [])))) := RP;have ca := c1.drops bu;have cb : ((some ae :: bk ah :: bk bn :: (ag ++ ((([] ++ ([] ++ (([] ++ (([] ++ [bk aa]) ++ [bk ab])) ++ ([] ++ ([] ++ (([] ++ [bk ac]) ++ [bk ad])))))) ++ []) ++ []))) : Ob).Perm (some ae :: bk ah :: bk bn :: ((ag ++ (([] ++ ([] ++ (([] ++ (([] ++ [bk aa]) ++ [bk ab])) ++ ([] ++ ([] ++ (([] ++ [bk ac]) ++ [bk ad])))))) ++ [])) ++ [])) := RP;have cc := ca.perm cb;refine Xf (G bn dq dr) Z (Xb (Xd ?_));obtain ⟨fw, H⟩ := H;refine Xa (Yb v2 1 Z Z fw) (Xe (vi (v2 + 1)) Z (Xb ?_));have fx := cc.drop 0 Z;obtain ⟨fy, fz⟩ := H;have ds := b7.stos ax a4;have dt := aq.stw 4 Z ar;have du := au.stw 4 Z av;have dv := be.stn ay;have dw := bq.stown _ br hr239;have dx := bs.stp bt;have dy := ca.stp cb;have dz := cc.std 0 Z;have f0 := (((((((((((((cr.st cs).st ct).st cu).st ds).st dt).st du).st dv).st dw).st dx).st c0).st (St.drops _ O bu)).st dy).st dz);have f1 := ((((((((((cv.st ds).st dt).st du).st dv).st dw).st dx).st c0).st (St.drops _ O bu)).st dy).st dz);have f2 := (cc.sd (ca.sp (c1.odr fs bu 2 Z) cb) 2 0 Z Z Z);have f3 := fv;have f4 := (cc.sd (ca.sp (c1.odr (b9.sm (bs.sp (((au.sw (aq.sw ((a1.sw (az.sw ((bc.sw (b5.so _ bb (X0 bl)) 1 0 Z Z Z bd).sos a9 bm) 3 2 Z Z Z a0) 3 2 Z Z Z a2).sos ax a4) 5 4 Z Z Z ar) 5 4 Z Z Z av).sn ay).so _ br hr239) bt) 2 3 Z Z Z cz c0) bu 1 Z) cb) 1 0 Z Z Z);exact ⟨((xs2 ++ ([(⟨(nth r3 v2), r5, r4, r7, r6⟩ : Change)] : List Change)), (ba ++ ([[vs (nth r3 v2), vb r5, vs r4.Id, vi r4.Shape.Kind, G aa ai aj, G ab ak al, vb r7, vs r6.Id, vi r6.Shape.Kind, G ac am an, G ad ao ap]] : List (List Value))), (ag ++ (([] ++ ([] ++ (([] ++ (([] ++ [bk aa]) ++ [bk ab])) ++ ([] ++ ([] ++ (([] ++ [bk ac]) ++ [bk ad])))))) ++ [])), bn, dq, dr, v2 + 1), fz, fy, (Xy Z), fx, f0, f1, f2, f3, f4⟩
  have H := Xo H cy;refine Xx ?_;have bv : ((bk ac :: bk ad :: bk aa :: bk ab :: some ae :: bk ah :: bk af :: (ag ++ [])) : Ob).Perm ((bk ac :: bk ad :: bk aa :: bk ab :: some ae :: []) ++ (bk ah :: bk af :: (ag ++ []))) := RP;have f5 := bq.drops bv;refine Xd ?_;obtain ⟨f6, H⟩ := H;refine Xa (Yb v2 1 Z Z f6) (Xe (vi (v2 + 1)) Z (Xb ?_));obtain ⟨f7, f8⟩ := H;have d0 := b7.stos ax a4;have d1 := aq.stw 4 Z ar;have d2 := au.stw 4 Z av;have d3 := be.stn ay;have f9 := ((((((((cr.st cs).st ct).st cu).st d0).st d1).st d2).st d3).st (St.drops _ O bv));have ga := (((((cv.st d0).st d1).st d2).st d3).st (St.drops _ O bv));have gb := (bq.odr ((au.sw (aq.sw ((a1.sw (az.sw ((bc.sw (cn.so _ bb (X0 bl)) 2 0 Z Z Z bd).sos a9 bm) 4 2 Z Z Z a0) 4 2 Z Z Z a2).sos ax a4) 6 4 Z Z Z ar) 6 4 Z Z Z av).sn ay) bv 1 Z);have gc := ((DArr.sm (L := (bk ac :: bk ad :: bk aa :: bk ab :: some ae :: bk ah :: bk af :: (ag ++ []))) (O := O) (i := 4) (DArr.sm (L := (bk ac :: bk ad :: bk aa :: bk ab :: some ae :: bk ah :: bk af :: (ag ++ []))) (O := O) (i := 4) ((DArr.sm (L := (bk aa :: bk ab :: some ae :: bk ah :: bk af :: (ag ++ []))) (O := O) (i := 2) (DArr.sm (L := (bk aa :: bk ab :: some ae :: bk ah :: bk af :: (ag ++ []))) (O := O) (i := 2) ((DArr.sm (L := (some ae :: bk ah :: bk af :: (ag ++ []))) (O := O) (i := 0) (co.k0 bb) bc Z (fun b hb => (mcm (mcm (List.mem_append_left _ hb)))) bd).k0 a9) az Z (fun b hb => (mcm (mcm (List.mem_append_left _ hb)))) a0) a1 Z (fun b hb => (mcm (mcm (List.mem_append_left _ hb)))) a2).k0 ax) aq Z (fun b hb => (mcm (mcm (List.mem_append_left _ hb)))) ar) au Z (fun b hb => (mcm (mcm (List.mem_append_left _ hb)))) av).k0 ay);have gd := (bq.odr ((au.sw (aq.sw ((a1.sw (az.sw ((bc.sw (b5.so _ bb (X0 bl)) 1 0 Z Z Z bd).sos a9 bm) 3 2 Z Z Z a0) 3 2 Z Z Z a2).sos ax a4) 5 4 Z Z Z ar) 5 4 Z Z Z av).sn ay) bv 0 Z);exact ⟨(xs2, ba, ag, af, a7, a8, v2 + 1), f8, f7, (Xy Z), f5, f9, ga, gb, gc, gd⟩
 have H := Xo H cp;refine Yi (xin_hit ?_);refine Xc (Xd (Xe (G af a7 a8) Z (Xf (G af a7 a8) Z (Xb (Xm ?_)))));have c2 := b4.drop 0 Z;have gf := (b4.sd cn 1 0 Z Z Z);have gg := co;exact ⟨[G af a7 a8], ⟨_, Z, Z⟩, xs2, af, a7, a8, ag, ba, Z, H, c2.gr.g0, c2.ok, c2.ge, gf, gg⟩
def shapeNamesL : List Str := [[], [100, 111, 116], [108, 105, 110, 101], [114, 105, 110, 103]]
structure Glob (w : World) (O : Ob) : Prop where
 shapeNames : ∃ A : Option Addr, Fb w O 0 [.slice A 4 4] ∧ Sl Kd.str w (Fr O) (.slice A 4 4) shapeNamesL
 pow10 : Fb w O 1 (Lib.pow10Tab.map (Value.int .u64))
theorem Glob.st {w w' : World} {O O' : Ob} (h : Glob w O) (s : St w O w' O') : Glob w' O' :=
 ⟨let ⟨A, a, b⟩ := h.shapeNames; ⟨A, a.st s, b.st s⟩, h.pow10.st s⟩
theorem Glob.tab {w : World} {O : Ob} (h : Glob w O) : Lib.TabIs Tryz.prog w "internal/strconv.uint64pow10" .u64 Lib.pow10Tab := by
 obtain ⟨⟨e, hb⟩, _⟩ := h.pow10
 unfold Lib.TabIs World.var?
 rw [show Tryz.prog.globalNamed "internal/strconv.uint64pow10" = some 1 by kernel_rfl]
 simp only [Option.bind_some, hb]
theorem decDigits_len (u : Nat) : ∀ k, u < 10 ^ (k + 1) → (Lib.decDigits u).length ≤ k + 1 := by
 intro k
 induction k generalizing u with
 | zero => intro h; rw [Lib.decDigits, dif_pos OM]; simp
 | succ k ih =>
  intro h
  rw [Lib.decDigits]
  split
  ·simp
  ·rw [List.length_append]
   have := ih (u / 10) (by rw [Nat.pow_succ] at h; omega)
   simp only [List.length_cons, List.length_nil]
   omega
theorem itoa_len (n : Int) (h0 : -9223372036854775808 ≤ n) (h1 : n ≤ 9223372036854775807) : (Lib.itoa n).length ≤ 21 := by
 unfold Lib.itoa
 split
 ·have := decDigits_len n.natAbs 19 OM
  simp only [List.length_cons]; omega
 ·have := decDigits_len n.toNat 19 OM
  omega
section
open Go.Shelf Go.Sort Go.Lib
def F73.E (n : Int) (Q : Str → Prop) : Prop := (-9223372036854775808 ≤ n ∧ n ≤ 9223372036854775807) ∧ Q (Lib.itoa n)
theorem F73.calls {O : Ob} (w0 : World) (hO : Ok w0 O) (hG : Glob w0 O) (n : Int) (Q : Str → Prop) (h : F73.E n Q) :
  Ret Tryz.prog 126 [vi n] w0 (fun v w' => ∃ (r0 : Str), v = vs r0 ∧ Q r0 ∧ Gr w0 w' none ∧ Lim r0) := by
 obtain ⟨⟨h0, h1⟩, hq⟩ := h
 refine Calls.mono (Tryz.strconv_Itoa n h0 h1 w0 hG.tab) fun e w' ⟨he, k, os, hw⟩ => ?_
 subst he; subst hw
 refine ⟨_, rfl, Lib.itoa n, rfl, hq, ⟨rfl, by simp [grow], rfl, by simp [grow], fun b hb _ => by show (w0.heap ++ os)[b]? = w0.heap[b]?; exact Array.getElem?_append_left hb⟩, ?_⟩
 have := itoa_len n h0 h1
 unfold Lim; omega
end
def F25.E (s : Shape) (Q : Str → Prop) : Prop :=
 ((0 : Int) ≤ s.Kind ∧ s.Kind < (shapeNamesL.length : Int)) ∧ (∃ (I39 : Str → Int → Prop) (mu40 : Str → Int → Nat), I39 (nth shapeNamesL s.Kind) 0 ∧ ∀ (out2 : Str) (v2 : Int), I39 out2 v2 → (if decide (v2 < (s.Pts.length : Int)) then ((0 : Int) ≤ v2 ∧ v2 < (s.Pts.length : Int)) ∧ (∃ q : Str, F73.E ((nth s.Pts v2).X) (fun x => x = q) ∧ (Lim q) ∧ (([32] : Str).length + q.length ≤ 9223372036854775807) ∧ ((([32] : Str) ++ q).length + ([44] : Str).length ≤ 9223372036854775807) ∧ (∃ q2 : Str, F73.E ((nth s.Pts v2).Y) (fun x => x = q2) ∧ (Lim q2) ∧ (((([32] : Str) ++ q) ++ ([44] : Str)).length + q2.length ≤ 9223372036854775807) ∧ (out2.length + (((([32] : Str) ++ q) ++ ([44] : Str)) ++ q2).length ≤ 9223372036854775807) ∧ (I64 (v2 + 1)) ∧ I39 (out2 ++ (((([32] : Str) ++ q) ++ ([44] : Str)) ++ q2)) (v2 + 1) ∧ mu40 (out2 ++ (((([32] : Str) ++ q) ++ ([44] : Str)) ++ q2)) (v2 + 1) < mu40 out2 v2)) else Q out2))
theorem F25.calls {s : Shape} {A1 : Option Addr} {n2 c3 : Nat} {Q : Str → Prop} (H : F25.E s Q) (hO : Ok w0 O) (hG : Glob w0 O) (hp4 : Sl kPt w0 (Fr O) (G A1 n2 c3) s.Pts) :
  Ret Tryz.prog 80 [.agg #[vi s.Kind, G A1 n2 c3]] w0 (fun v w' => ∃ (r0 : Str), v = vs r0 ∧ Q r0 ∧ Gr w0 w' none ∧ Lim r0) := by
 unfold F25.E at H;have hc0 := Ct.init hO;obtain ⟨aG0, hGb0, hGs0⟩ := hG.shapeNames;refine X9 Tryz.func80 Z 31 Z [.tmp 2] Z Z ?_;refine Xc (Xd (Yt [vi s.Kind, G A1 n2 c3] Z fun w6 b7 hl9 hu10 g8 ax => ?_));have ai := Fb.mk hc0.ok hl9 ax;have ab := hc0.k0 g8;refine Xf (vs []) Z (Xb (Xc (Xd ?_)));have ay := (hGb0.st ab.st);refine Xa (Xq ag50 cL (Ad 0 0) (G aG0 4 4) Z (ay.cell Z)) (Xa (Xj fa41_0 (Ad b7 0) (Ad b7 0) Z Z) (Xa (Xq ag3 cL (Ad b7 0) (vi s.Kind) Z (ai.cell Z)) ?_));obtain ⟨aj, H⟩ := H;obtain ⟨ak, br, az, bs, a0, a1⟩ := (hGs0.st ab.st).get default RD s.Kind aj;obtain ⟨rfl, a2⟩ := Kd.str.op a0;refine Xa (X3 u50_ Zj aG0 ak 4 4 (hGs0.st ab.st).len s.Kind Z az Z aj) (Xa (Xq ag9 cL (ak.add (s.Kind.toNat * 1)) (vs (nth shapeNamesL s.Kind)) Z (a1 0 _ Z)) (Xf (vs (nth shapeNamesL s.Kind)) Z (Xb (Xc (Xc (Xd (Xa (Xj fa41_1 (Ad b7 0) (Ad b7 1) Z Z) (Xa (Xq ag39 cL (Ad b7 1) (G A1 n2 c3) Z (ai.cell Z)) ?_))))))));have bt := (hp4.st ab.st).le;refine Xa (Ya u39_ A1 n2 c3 (hp4.st ab.st).len Z) (Xe (vi 0) Z (Xb (X6 ?_)));obtain ⟨a3, a4, ad, H⟩ := H;refine Yk (α := Str × Int) (fun (out2, v2) t ae => a3 out2 v2 ∧ Has t [(3, vs out2), (12, G A1 n2 c3), (13, vi (s.Pts.length : Int)), (14, vi v2)] ∧ Ct [] w0 ae [] O ∧ Lim out2 ∧ Sl kPt ae (Fr ([] ++ O)) (G A1 n2 c3) s.Pts) (fun (out2, v2) => a4 out2 v2) ((nth shapeNamesL s.Kind), 0) ⟨ad, (Xy Z), ab, a2, (hp4.st ab.st)⟩ ?_;rintro ⟨out2, v2⟩ _ ae ⟨ad, a5, af, a6, ag⟩;obtain ⟨bu, rfl⟩ := Has.ins a5;have H := H out2 v2 ad;refine Xc (Xd (Xa (X1 v2 (s.Pts.length : Int) (decide (v2 < (s.Pts.length : Int))) Z Z Z) (Xb (Xc ?_))));refine Xu (decide (v2 < (s.Pts.length : Int))) Z (fun ah => ?_) (fun ah => ?_)
 ·have H := Xn H ah;refine Xx (Xc (X6 (Xc (Xd ?_))));obtain ⟨al, H⟩ := H;obtain ⟨am, bv, a7, bw, a8, a9⟩ := ag.get default RD v2 al;obtain rfl := kPt.op a8;refine Xa (X3 u39_ Yw A1 am n2 c3 ag.len v2 Z a7 Z al) (Xa (Xt ag49 sz49 cL (am.add (v2.toNat * 2)) [vi ((nth s.Pts v2).X), vi ((nth s.Pts v2).Y)] Z Z a9) (Yj [.int .i64 0, .int .i64 0] ze49 fun bx aa an hu57 ao ba => ?_));have ap := af.own ao (some aa) (Yh an hu57);refine Yd [vi ((nth s.Pts v2).X), vi ((nth s.Pts v2).Y)] ba Z Z sz49 Z Z fun bb aq ar => ?_;have ac := ap.wr 0 Z aq;refine Xb (Yz (fun x => Gr bb x none) RK RK (Gr.drew _) ?_);refine Xv (vs out2) Z (Xh (Xj fa49_0 (Ad aa 0) (Ad aa 0) Z Z) (Xh (Xq ag3 cQ (Ad aa 0) (vi ((nth s.Pts v2).X)) Z (ar.cell Z)) ?_));obtain ⟨q, bc, bz, H⟩ := H;refine Y0 go126 [vi ((nth s.Pts v2).X)] Z (vs q) (fun w g => (F73.calls w (ac.k0 g).ok (hG.st (ac.k0 g).st) ((nth s.Pts v2).X) _ bc).mono ?_) ?_
  ·rintro _ w ⟨r, rfl, rfl, g2, _⟩;exact ⟨Z, Gr.t0 g g2⟩
  obtain ⟨bd, H⟩ := H;refine Xh (Y6 ([32] : Str) q Z Z bd) ?_;obtain ⟨be, H⟩ := H;refine Xh (Y6 (([32] : Str) ++ q) ([44] : Str) Z Z be) (Xh (Xj fa49_1 (Ad aa 0) (Ad aa 1) Z Z) (Xh (Xq ag3 cQ (Ad aa 1) (vi ((nth s.Pts v2).Y)) Z (ar.cell Z)) ?_));obtain ⟨q2, bf, b0, H⟩ := H;refine Y0 go126 [vi ((nth s.Pts v2).Y)] Z (vs q2) (fun w g => (F73.calls w (ac.k0 g).ok (hG.st (ac.k0 g).st) ((nth s.Pts v2).Y) _ bf).mono ?_) ?_
  ·rintro _ w ⟨r, rfl, rfl, g2, _⟩;exact ⟨Z, Gr.t0 g g2⟩
  obtain ⟨bg, H⟩ := H;refine Xh (Y6 ((([32] : Str) ++ q) ++ ([44] : Str)) q2 Z Z bg) ?_;obtain ⟨au, H⟩ := H;refine Xh (Y6 out2 (((([32] : Str) ++ q) ++ ([44] : Str)) ++ q2) Z Z au) (Zh (vs (out2 ++ (((([32] : Str) ++ q) ++ ([44] : Str)) ++ q2))) Z (Ye fun b1 av => ?_));have aw := ac.k0 av;refine Xd ?_;obtain ⟨bh, H⟩ := H;refine Xa (Yb v2 1 Z Z bh) (Xe (vi (v2 + 1)) Z (Xb ?_));have bi := aw.drop 0 Z;obtain ⟨bj, bl⟩ := H;have bm := af.stown _ ao (X0 an);have bn := ap.stw 0 Z aq;have bo := ac.stn av;have bp := aw.std 0 Z;have bq := ((((ag.st bm).st bn).st bo).st bp);exact ⟨((out2 ++ (((([32] : Str) ++ q) ++ ([44] : Str)) ++ q2)), v2 + 1), bl, bj, (Xy Z), bi, (lim_cat au), bq⟩
 have H := Xo H ah;refine Yi (xin_hit ?_);exact Xc (Xd (Xe (vs out2) Z (Xf (vs out2) Z (Xb (Xm ⟨[vs out2], ⟨_, Z, Z⟩, out2, Z, H, af.gr.g0, a6⟩)))))
def F49.E (f : Feat) (Q : Str → Prop) : Prop :=
 F98.E f (fun r => (if !r then Q [] else (f.Id.length + ([32] : Str).length ≤ 9223372036854775807) ∧ (∃ q : Str, F25.E f.Shape (fun x => x = q) ∧ (Lim q) ∧ ((f.Id ++ ([32] : Str)).length + q.length ≤ 9223372036854775807) ∧ (∃ (I61 : Str → Int → Prop) (mu62 : Str → Int → Nat), I61 ((f.Id ++ ([32] : Str)) ++ q) 0 ∧ ∀ (out2 : Str) (v2 : Int), I61 out2 v2 → (if decide (v2 < (f.Tags.length : Int)) then ((0 : Int) ≤ v2 ∧ v2 < (f.Tags.length : Int)) ∧ (([32] : Str).length + ((nth f.Tags v2).Key).length ≤ 9223372036854775807) ∧ ((([32] : Str) ++ ((nth f.Tags v2).Key)).length + ([61] : Str).length ≤ 9223372036854775807) ∧ (((([32] : Str) ++ ((nth f.Tags v2).Key)) ++ ([61] : Str)).length + ((nth f.Tags v2).Val).length ≤ 9223372036854775807) ∧ (out2.length + (((([32] : Str) ++ ((nth f.Tags v2).Key)) ++ ([61] : Str)) ++ ((nth f.Tags v2).Val)).length ≤ 9223372036854775807) ∧ (I64 (v2 + 1)) ∧ I61 (out2 ++ (((([32] : Str) ++ ((nth f.Tags v2).Key)) ++ ([61] : Str)) ++ ((nth f.Tags v2).Val))) (v2 + 1) ∧ mu62 (out2 ++ (((([32] : Str) ++ ((nth f.Tags v2).Key)) ++ ([61] : Str)) ++ ((nth f.Tags v2).Val))) (v2 + 1) < mu62 out2 v2 else Q out2)))))
theorem F49.calls {f : Feat} {A2 : Option Addr} {n3 c4 : Nat} {A7 : Option Addr} {n8 c9 : Nat} {Q : Str → Prop} (H : F49.E f Q) (hO : Ok w0 O) (hG : Glob w0 O) (hs1 : Lim f.Id) (hp5 : Sl kPt w0 (Fr O) (G A2 n3 c4) f.Shape.Pts) (ae : Sl kTag w0 (Fr O) (G A7 n8 c9) f.Tags) :
  Ret Tryz.prog 43 [.agg #[vs f.Id, vi f.Shape.Kind, G A2 n3 c4, G A7 n8 c9]] w0 (fun v w' => ∃ (r0 : Str), v = vs r0 ∧ Q r0 ∧ Gr w0 w' none ∧ Lim r0) := by
 unfold F49.E at H;have hc0 := Ct.init hO;refine X9 Tryz.func43 Z 34 Z [.tmp 2] Z Z ?_;refine Xc (Xd (Yt [vs f.Id, vi f.Shape.Kind, G A2 n3 c4, G A7 n8 c9] Z fun a2 aa a3 hu16 a4 a5 => ?_));have an := Fb.mk hc0.ok a3 a5;have ad := hc0.k0 a4;refine Xf (vs []) Z (Xb (Xc (Xc (Xd (Xa (Xt ag44 sz44 cL (Ad aa 0) [vs f.Id, vi f.Shape.Kind, G A2 n3 c4, G A7 n8 c9] Z Z (an.cells (off := 00) Z)) ?_)))));refine Xs go25 (F98.calls H ad.ok hs1 (hp5.st ad.st) (ae.st ad.st)) Z ?_;rintro _ a6 ⟨r, rfl, H, ao⟩;have ac := ad.k0 ao;refine Xa (X5 r Z) (Xb ?_);refine Xu (!r) Z (fun ag => ?_) (fun ag => ?_)
 ·have H := Xn H ag;exact Xc (Xd (Xf (vs []) Z (Xb (Xm ⟨[vs []], ⟨_, Z, Z⟩, ([] : Str), Z, H, ac.gr.g0, (by decide : Lim ([] : Str))⟩))))
 have H := Xo H ag;refine Xx (Xc (Yz (fun x => Gr a6 x none) RK RK (Gr.drew _) ?_));refine Xh (Xj fa44_0 (Ad aa 0) (Ad aa 0) Z Z) ?_;have a7 := ad.stn ao;have ah := (an.st a7);refine Xh (Xq ag9 cQ (Ad aa 0) (vs f.Id) Z (ah.cell Z)) ?_;obtain ⟨a8, H⟩ := H;refine Xh (Y6 f.Id ([32] : Str) Z Z a8) (Xh (Xj fa44_1 (Ad aa 0) (Ad aa 1) Z Z) (Xh (Xt ag41 sz41 cQ (Ad aa 1) [vi f.Shape.Kind, G A2 n3 c4] Z Z (ah.cells (off := 1) Z)) ?_));obtain ⟨q, a9, bw, H⟩ := H;refine Y0 go80 [.agg #[vi f.Shape.Kind, G A2 n3 c4]] Z (vs q) (fun w g => (F25.calls a9 (ac.k0 g).ok (hG.st (ac.k0 g).st) ((hp5.st ac.st).st (.new _ g))).mono ?_) ?_
 ·rintro _ w ⟨r, rfl, rfl, g2, _⟩;exact ⟨Z, Gr.t0 g g2⟩
 obtain ⟨ap, H⟩ := H;refine Xh (Y6 (f.Id ++ ([32] : Str)) q Z Z ap) (Zh (vs ((f.Id ++ ([32] : Str)) ++ q)) Z (Ye fun bx aq => ?_));have af := ac.k0 aq;refine Xc (Xc (Xd (Xa (Xj fa44_2 (Ad aa 0) (Ad aa 3) Z Z) ?_)));have ba := ac.stn aq;have bb := (ah.st ba);refine Xa (Xq ag42 cL (Ad aa 3) (G A7 n8 c9) Z (bb.cell Z)) ?_;have bz := (ae.st af.st).le;refine Xa (Ya u42_ A7 n8 c9 (ae.st af.st).len Z) (Xe (vi 0) Z (Xb (X6 ?_)));obtain ⟨bc, bd, ai, H⟩ := H;refine Yk (α := Str × Int) (fun (out2, v2) t aj => bc out2 v2 ∧ Has t [(3, vs out2), (17, G A7 n8 c9), (18, vi (f.Tags.length : Int)), (19, vi v2)] ∧ Ct [] w0 aj [] O ∧ Lim out2 ∧ Sl kTag aj (Fr ([] ++ O)) (G A7 n8 c9) f.Tags) (fun (out2, v2) => bd out2 v2) (((f.Id ++ ([32] : Str)) ++ q), 0) ⟨ai, (Xy Z), af, (lim_cat ap), (ae.st af.st)⟩ ?_;rintro ⟨out2, v2⟩ _ aj ⟨ai, be, ak, bf, al⟩;obtain ⟨b0, rfl⟩ := Has.ins be;have H := H out2 v2 ai;refine Xc (Xd (Xa (X1 v2 (f.Tags.length : Int) (decide (v2 < (f.Tags.length : Int))) Z Z Z) (Xb (Xc ?_))));refine Xu (decide (v2 < (f.Tags.length : Int))) Z (fun am => ?_) (fun am => ?_)
 ·have H := Xn H am;refine Xx (Xc (X6 (Xc (Xd ?_))));obtain ⟨ar, H⟩ := H;obtain ⟨au, b1, bg, b2, bh, bi⟩ := al.get default RD v2 ar;obtain ⟨rfl, b3, b4⟩ := kTag.op bh;refine Xa (X3 u42_ Y4 A7 au n8 c9 al.len v2 Z bg Z ar) (Xa (Xt ag93 sz93 cL (au.add (v2.toNat * 2)) [vs ((nth f.Tags v2).Key), vs ((nth f.Tags v2).Val)] Z Z bi) (Yj [vs [], vs []] ze93 fun b5 ab av hu81 aw bj => ?_));have ax := ak.own aw (some ab) (Yh av hu81);refine Yd [vs ((nth f.Tags v2).Key), vs ((nth f.Tags v2).Val)] bj Z Z sz93 Z Z fun b6 ay az => ?_;have a0 := ax.wr 0 Z ay;refine Xb (Xd (Xe (vs out2) Z (Xa (Xj fa93_0 (Ad ab 0) (Ad ab 0) Z Z) (Xa (Xq ag9 cL (Ad ab 0) (vs ((nth f.Tags v2).Key)) Z (az.cell Z)) ?_))));obtain ⟨bl, H⟩ := H;refine Xa (Y6 ([32] : Str) ((nth f.Tags v2).Key) Z Z bl) ?_;obtain ⟨bm, H⟩ := H;refine Xa (Y6 (([32] : Str) ++ ((nth f.Tags v2).Key)) ([61] : Str) Z Z bm) (Xa (Xj fa93_1 (Ad ab 0) (Ad ab 1) Z Z) (Xa (Xq ag9 cL (Ad ab 1) (vs ((nth f.Tags v2).Val)) Z (az.cell Z)) ?_));obtain ⟨bn, H⟩ := H;refine Xa (Y6 ((([32] : Str) ++ ((nth f.Tags v2).Key)) ++ ([61] : Str)) ((nth f.Tags v2).Val) Z Z bn) ?_;obtain ⟨a1, H⟩ := H;refine Xa (Y6 out2 (((([32] : Str) ++ ((nth f.Tags v2).Key)) ++ ([61] : Str)) ++ ((nth f.Tags v2).Val)) Z Z a1) (Xf (vs (out2 ++ (((([32] : Str) ++ ((nth f.Tags v2).Key)) ++ ([61] : Str)) ++ ((nth f.Tags v2).Val)))) Z (Xb (Xd ?_)));obtain ⟨bo, H⟩ := H;refine Xa (Yb v2 1 Z Z bo) (Xe (vi (v2 + 1)) Z (Xb ?_));have bp := a0.drop 0 Z;obtain ⟨bq, br⟩ := H;have bs := ak.stown _ aw (X0 av);have bt := ax.stw 0 Z ay;have bu := a0.std 0 Z;have bv := (((al.st bs).st bt).st bu);exact ⟨((out2 ++ (((([32] : Str) ++ ((nth f.Tags v2).Key)) ++ ([61] : Str)) ++ ((nth f.Tags v2).Val))), v2 + 1), br, bq, (Xy Z), bp, (lim_cat a1), bv⟩
 have H := Xo H am;refine Yi (xin_hit ?_);exact Xc (Xd (Xe (vs out2) Z (Xf (vs out2) Z (Xb (Xm ⟨[vs out2], ⟨_, Z, Z⟩, out2, Z, H, ak.gr.g0, bf⟩)))))
def F26.E (has : Bool) (f : Feat) (Q : Str → Prop) : Prop :=
 (if !has then Q ([45] : Str) else F49.E f (fun r => Q r))
theorem F26.calls {has : Bool} {f : Feat} {A2 : Option Addr} {n3 c4 : Nat} {A7 : Option Addr} {n8 c9 : Nat} {Q : Str → Prop} (H : F26.E has f Q) (hO : Ok w0 O) (hG : Glob w0 O) (hs1 : Lim f.Id) (hp5 : Sl kPt w0 (Fr O) (G A2 n3 c4) f.Shape.Pts) (ac : Sl kTag w0 (Fr O) (G A7 n8 c9) f.Tags) :
  Ret Tryz.prog 42 [vb has, .agg #[vs f.Id, vi f.Shape.Kind, G A2 n3 c4, G A7 n8 c9]] w0 (fun v w' => ∃ (r0 : Str), v = vs r0 ∧ Q r0 ∧ Gr w0 w' none ∧ Lim r0) := by
 unfold F26.E at H;have hc0 := Ct.init hO;refine X9 Tryz.func42 Z 9 Z [.tmp 4] Z Z ?_;refine Xc (Xd (Yt [vs f.Id, vi f.Shape.Kind, G A2 n3 c4, G A7 n8 c9] Z fun ad ae af hu16 ag ah => ?_));have ai := Fb.mk hc0.ok af ah;have aa := hc0.k0 ag;refine Xf (vs []) Z (Xb (Xc (Xc (Xd (Xe (vb has) Z (Xa (X5 has Z) (Xb ?_)))))));refine Xu (!has) Z (fun ab => ?_) (fun ab => ?_)
 ·have H := Xn H ab;exact Xc (Xd (Xf (vs ([45] : Str)) Z (Xb (Xm ⟨[vs ([45] : Str)], ⟨_, Z, Z⟩, ([45] : Str), Z, H, aa.gr.g0, (by decide : Lim ([45] : Str))⟩))))
 have H := Xo H ab;refine Xx (Xc (Xd (Xa (Xt ag44 sz44 cL (Ad ae 0) [vs f.Id, vi f.Shape.Kind, G A2 n3 c4, G A7 n8 c9] Z Z (ai.cells (off := 00) Z)) ?_)));refine Xs go43 (F49.calls H aa.ok (hG.st aa.st) hs1 (hp5.st aa.st) (ac.st aa.st)) Z ?_;rintro _ am ⟨r, rfl, H, aj, ak⟩;have al := aa.k0 aj;exact Xf (vs r) Z (Xb (Xm ⟨[vs r], ⟨_, Z, Z⟩, r, Z, H, al.gr.g0, ak⟩))
def F50.E (d : List Change) (Q : Str → Prop) : Prop :=
 F100.E d (fun r => (if !r then Q [] else (∃ (I28 : Str → Int → Prop) (mu29 : Str → Int → Nat), I28 [] 0 ∧ ∀ (out2 : Str) (v2 : Int), I28 out2 v2 → (if decide (v2 < (d.length : Int)) then ((0 : Int) ≤ v2 ∧ v2 < (d.length : Int)) ∧ (((nth d v2).Id).length + ([58, 32] : Str).length ≤ 9223372036854775807) ∧ F26.E ((nth d v2).Had) ((nth d v2).Was) (fun r2 => ((((nth d v2).Id) ++ ([58, 32] : Str)).length + r2.length ≤ 9223372036854775807) ∧ (((((nth d v2).Id) ++ ([58, 32] : Str)) ++ r2).length + ([32, 62, 32] : Str).length ≤ 9223372036854775807) ∧ F26.E ((nth d v2).Has) ((nth d v2).Now) (fun r3 => ((((((nth d v2).Id) ++ ([58, 32] : Str)) ++ r2) ++ ([32, 62, 32] : Str)).length + r3.length ≤ 9223372036854775807) ∧ (((((((nth d v2).Id) ++ ([58, 32] : Str)) ++ r2) ++ ([32, 62, 32] : Str)) ++ r3).length + ([10] : Str).length ≤ 9223372036854775807) ∧ (out2.length + (((((((nth d v2).Id) ++ ([58, 32] : Str)) ++ r2) ++ ([32, 62, 32] : Str)) ++ r3) ++ ([10] : Str)).length ≤ 9223372036854775807) ∧ (I64 (v2 + 1)) ∧ I28 (out2 ++ (((((((nth d v2).Id) ++ ([58, 32] : Str)) ++ r2) ++ ([32, 62, 32] : Str)) ++ r3) ++ ([10] : Str))) (v2 + 1) ∧ mu29 (out2 ++ (((((((nth d v2).Id) ++ ([58, 32] : Str)) ++ r2) ++ ([32, 62, 32] : Str)) ++ r3) ++ ([10] : Str))) (v2 + 1) < mu29 out2 v2)) else Q out2))))
theorem F50.calls {d : List Change} {A1 : Option Addr} {n2 c3 : Nat} {Q : Str → Prop} (H : F50.E d Q) (hO : Ok w0 O) (hG : Glob w0 O) (hp4 : Sl kChange w0 (Fr O) (G A1 n2 c3) d) :
  Ret Tryz.prog 12 [G A1 n2 c3] w0 (fun v w' => ∃ (r0 : Str), v = vs r0 ∧ Q r0 ∧ Gr w0 w' none ∧ Lim r0) := by
 unfold F50.E at H;have hc0 := Ct.init hO;refine X9 Tryz.func12 Z 39 Z [.tmp 2] Z Z ?_;refine Xc (Xd (Xf (vs []) Z (Xb (Xc (Xc (Xd (Xe (G A1 n2 c3) Z ?_)))))));refine Xs go17 (F100.calls H hc0.ok hp4) Z ?_;rintro _ w6 ⟨r, rfl, H, g7⟩;have ao := hc0.k0 g7;refine Xa (X5 r Z) (Xb ?_);refine Xu (!r) Z (fun az => ?_) (fun az => ?_)
 ·have H := Xn H az;exact Xc (Xd (Xf (vs []) Z (Xb (Xm ⟨[vs []], ⟨_, Z, Z⟩, ([] : Str), Z, H, ao.gr.g0, (by decide : Lim ([] : Str))⟩))))
 have H := Xo H az;refine Xx (Xc (Xd (Xf (.func (.func 42) #[] #[]) Z (Xb (Xc (Xd (Xf (vs []) Z (Xb ?_))))))));refine Xc (Xc (Xd (Xe (G A1 n2 c3) Z ?_)));have ch := (hp4.st ao.st).le;refine Xa (Ya u23_ A1 n2 c3 (hp4.st ao.st).len Z) (Xe (vi 0) Z (Xb (X6 ?_)));obtain ⟨bi, bj, a0, H⟩ := H;refine Yk (α := Str × Int) (fun (out2, v2) t a1 => bi out2 v2 ∧ Has t [(3, .func (.func 42) #[] #[]), (4, vs out2), (10, G A1 n2 c3), (11, vi (d.length : Int)), (12, vi v2)] ∧ Ct [] w0 a1 [] O ∧ Lim out2 ∧ Sl kChange a1 (Fr ([] ++ O)) (G A1 n2 c3) d) (fun (out2, v2) => bj out2 v2) (([] : Str), 0) ⟨a0, (Xy Z), ao, (by decide : Lim ([] : Str)), (hp4.st ao.st)⟩ ?_;rintro ⟨out2, v2⟩ _ a1 ⟨a0, bl, a2, bm, a3⟩;obtain ⟨ci, rfl⟩ := Has.ins bl;have H := H out2 v2 a0;refine Xc (Xd (Xa (X1 v2 (d.length : Int) (decide (v2 < (d.length : Int))) Z Z Z) (Xb (Xc ?_))));refine Xu (decide (v2 < (d.length : Int))) Z (fun a4 => ?_) (fun a4 => ?_)
 ·have H := Xn H a4;refine Xx (Xc (X6 (Xc (Xd ?_))));obtain ⟨a9, H⟩ := H;obtain ⟨ba, cj, bn, ck, bo, bp⟩ := a3.get default RD v2 a9;obtain ⟨ac, ad, ae, af, ag, ah, ai, aj, ak, al, am, an, rfl, cl, bq, br, bs, bt, bu, bv⟩ := kChange.op bo;refine Xa (X3 u23_ Y2 A1 ba n2 c3 a3.len v2 Z bn Z a9) (Xa (Xt ag62 sz62 cL (ba.add (v2.toNat * 11)) [vs ((nth d v2).Id), vb ((nth d v2).Had), vs ((nth d v2).Was.Id), vi ((nth d v2).Was.Shape.Kind), G ac ad ae, G af ag ah, vb ((nth d v2).Has), vs ((nth d v2).Now.Id), vi ((nth d v2).Now.Shape.Kind), G ai aj ak, G al am an] Z Z bp) (Yj [vs [], vb false, vs [], .int .i64 0, G none 0 0, G none 0 0, vb false, vs [], .int .i64 0, G none 0 0, G none 0 0] ze62 fun cm aa bb hu69 bc bw => ?_));have bd := a2.own bc (some aa) (Yh bb hu69);refine Yd [vs ((nth d v2).Id), vb ((nth d v2).Had), vs ((nth d v2).Was.Id), vi ((nth d v2).Was.Shape.Kind), G ac ad ae, G af ag ah, vb ((nth d v2).Has), vs ((nth d v2).Now.Id), vi ((nth d v2).Now.Shape.Kind), G ai aj ak, G al am an] bw Z Z sz62 Z Z fun cn be bx => ?_;have bf := bd.wr 0 Z be;refine Xb (Y8 22 [] RK Z fun bz a5 ab => ?_);have aw := bf.k0 a5;refine Xw 0 Z RK ab (Yu (vs out2) Z) ?_;refine Xw 1 Z RK ab (Xj fa62_0 (Ad aa 0) (Ad aa 0) Z Z) ?_;have ap := (bx.k0 a5);refine Xw 2 Z RK ab (Y5 ag9 cR (Ad aa 0) (vs ((nth d v2).Id)) Z (ap.cell Z) nm_nil) ?_;obtain ⟨b0, H⟩ := H;refine Xw 3 Z RK ab (Y6 ((nth d v2).Id) ([58, 32] : Str) Z Z b0) ?_;refine Xw 4 Z RK ab (Yu (.func (.func 42) #[] #[]) Z) ?_;refine Xw 5 Z RK ab (Xj fa62_1 (Ad aa 0) (Ad aa 1) Z Z) ?_;refine Xw 6 Z RK ab (Y5 ag4 cR (Ad aa 1) (vb ((nth d v2).Had)) Z (ap.cell Z) nm_nil) ?_;refine Xw 7 Z RK ab (Xj fa62_2 (Ad aa 0) (Ad aa 2) Z Z) ?_;refine Xw 8 Z RK ab (Zg ag44 sz44 cR (Ad aa 2) [vs ((nth d v2).Was.Id), vi ((nth d v2).Was.Shape.Kind), G ac ad ae, G af ag ah] Z Z (ap.cells (off := 2) Z) nm_nil) ?_;refine Xw 12 Z RK ab (Yu (.func (.func 42) #[] #[]) Z) ?_;refine Xw 13 Z RK ab (Xj fa62_3 (Ad aa 0) (Ad aa 6) Z Z) ?_;refine Xw 14 Z RK ab (Y5 ag4 cR (Ad aa 6) (vb ((nth d v2).Has)) Z (ap.cell Z) nm_nil) ?_;refine Xw 15 Z RK ab (Xj fa62_4 (Ad aa 0) (Ad aa 7) Z Z) ?_;refine Xw 16 Z RK ab (Zg ag44 sz44 cR (Ad aa 7) [vs ((nth d v2).Now.Id), vi ((nth d v2).Now.Shape.Kind), G ai aj ak, G al am an] Z Z (ap.cells (off := 7) Z) nm_nil) ?_;refine X2 9 RK Z ?_;have aq := a2.stown _ bc (X0 bb);have ar := bd.stw 0 Z be;have au := bf.stn a5;have b1 := (((br.st aq).st ar).st au);have b2 := (((bs.st aq).st ar).st au);refine Zt go42 [] Z [vb ((nth d v2).Had), .agg #[vs ((nth d v2).Was.Id), vi ((nth d v2).Was.Shape.Kind), G ac ad ae, G af ag ah]] Z ((F26.calls H aw.ok (hG.st aw.st) bq b1 b2).mono ?_);rintro _ b3 ⟨r2, rfl, H, a6, co⟩;have ax := aw.k0 a6;have ay := Gm.tm ab a6;refine Xb ⟨ay, ?_⟩;obtain ⟨b4, H⟩ := H;refine Xw 10 Z RK ay (Y6 (((nth d v2).Id) ++ ([58, 32] : Str)) r2 Z Z b4) ?_;obtain ⟨b5, H⟩ := H;refine Xw 11 Z RK ay (Y6 ((((nth d v2).Id) ++ ([58, 32] : Str)) ++ r2) ([32, 62, 32] : Str) Z Z b5) ?_;refine X2 17 RK Z ?_;have a7 := aw.stn a6;have b6 := ((((bu.st aq).st ar).st au).st a7);have b7 := ((((bv.st aq).st ar).st au).st a7);refine Zt go42 [] Z [vb ((nth d v2).Has), .agg #[vs ((nth d v2).Now.Id), vi ((nth d v2).Now.Shape.Kind), G ai aj ak, G al am an]] Z ((F26.calls H ax.ok (hG.st ax.st) bt b6 b7).mono ?_);rintro _ cp ⟨r3, rfl, H, a8, cq⟩;have bg := ax.k0 a8;have av := Gm.tm ay a8;refine Xb ⟨av, ?_⟩;obtain ⟨b8, H⟩ := H;refine Xw 18 Z RK av (Y6 (((((nth d v2).Id) ++ ([58, 32] : Str)) ++ r2) ++ ([32, 62, 32] : Str)) r3 Z Z b8) ?_;obtain ⟨b9, H⟩ := H;refine Xw 19 Z RK av (Y6 ((((((nth d v2).Id) ++ ([58, 32] : Str)) ++ r2) ++ ([32, 62, 32] : Str)) ++ r3) ([10] : Str) Z Z b9) ?_;obtain ⟨bh, H⟩ := H;refine Xw 20 Z RK av (Y6 out2 (((((((nth d v2).Id) ++ ([58, 32] : Str)) ++ r2) ++ ([32, 62, 32] : Str)) ++ r3) ++ ([10] : Str)) Z Z bh) ?_;refine Xw 21 Z RK av (Zd (vs (out2 ++ (((((((nth d v2).Id) ++ ([58, 32] : Str)) ++ r2) ++ ([32, 62, 32] : Str)) ++ r3) ++ ([10] : Str)))) Z) ?_;refine Yq RK ?_;refine Xd ?_;obtain ⟨ca, H⟩ := H;refine Xa (Yb v2 1 Z Z ca) (Xe (vi (v2 + 1)) Z (Xb ?_));have cb := bg.drop 0 Z;obtain ⟨cc, cd⟩ := H;have ce := ax.stn a8;have cf := bg.std 0 Z;have cg := ((((((a3.st aq).st ar).st au).st a7).st ce).st cf);exact ⟨((out2 ++ (((((((nth d v2).Id) ++ ([58, 32] : Str)) ++ r2) ++ ([32, 62, 32] : Str)) ++ r3) ++ ([10] : Str))), v2 + 1), cd, cc, (Xy Z), cb, (lim_cat bh), cg⟩
 have H := Xo H a4;refine Yi (xin_hit ?_);exact Xc (Xd (Xe (vs out2) Z (Xf (vs out2) Z (Xb (Xm ⟨[vs out2], ⟨_, Z, Z⟩, out2, Z, H, a2.gr.g0, bm⟩)))))
end Go.Proofs.YtlaaehjcooonfaaGreatDoor