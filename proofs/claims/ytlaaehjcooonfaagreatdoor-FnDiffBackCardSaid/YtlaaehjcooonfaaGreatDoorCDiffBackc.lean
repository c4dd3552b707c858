/- It is proved here that the law FnDiffBack of the given program holds whatever it is handed: the walks through the code, the plain laws and the row, in this order.
   Conditions: none. -/
import Derived.Below
import Derived.ChangeArms
import Derived.ChangeOld
import Derived.ChangeSlices
import Derived.ChangeVars
import Derived.DataReads
import Derived.Deep.Quiet
import Derived.KernelRfl
import Derived.LaidHandle
import Derived.LaidLaws
import Derived.LaidMore
import Derived.Laws.Build
import Derived.Laws.IdiomStrings
import Derived.Laws.OwnMore
import Derived.Laws.Slices
import Derived.Laws.StructEq
import Derived.Lib.ItoaNum
import Derived.Lib.LaidTab
import Derived.MakeChecks
import Derived.OpenShut
import Derived.OpenVars
import Derived.ProofKit
import Derived.SevenTiedAt
import Derived.Shelf.LaysM
import Derived.Shelf.Slices.Cells
import Derived.Shelf.Slices.CompactS
import Derived.Shelf.Slices.In.SortNone
import Derived.Shelf.Small.Bits
import Derived.Shelf.Sort.Plain
import Derived.Shelf.Strconv.Itoa0
import Derived.Shelf.Strconv.Itoa1
import Derived.Shelf.Strconv.Itoa2
import Derived.Shelf.Strconv.Itoa3
import Derived.ShutString
import Derived.SizedLaws
import Derived.StillTail
import Derived.Stop.Joined
import Derived.Test.YtlaaehjcooonfaaGreatDoorCards
import Derived.Test.YtlaaehjcooonfaaGreatDoorProg
import Derived.Test.YtlaaehjcooonfaaGreatDoorRows
import Derived.Test.YtlaaehjcooonfaaGreatDoorTie
import Derived.WalkKit
import Derived.Test.YtlaaehjcooonfaaGreatDoorCDiffBacka
import Derived.Test.YtlaaehjcooonfaaGreatDoorCDiffBackb
namespace Go.Proofs.YtlaaehjcooonfaaGreatDoor
set_option linter.unusedVariables false
set_option linter.unusedSimpArgs false
set_option linter.unusedSectionVars false
set_option maxHeartbeats 8000000
set_option maxRecDepth 100000
open Go.RowKit
variable {O : Ob} {w0 : World}
def F39.E (f : Feat) (Q : Feat → Prop) : Prop :=
 (([] : List Tag).length + f.Tags.length ≤ 268435456) ∧ F24.E f.Shape (fun r => Q (⟨f.Id, r, (([] : List Tag) ++ f.Tags)⟩ : Feat))
theorem F39.calls {f : Feat} {A2 : Option Addr} {n3 c4 : Nat} {A7 : Option Addr} {n8 c9 : Nat} {Q : Feat → Prop} (H : F39.E f Q) (hO : Ok w0 O) (hs1 : Lim f.Id) (hp5 : Sl kPt w0 (Fr O) (G A2 n3 c4) f.Shape.Pts) (bn : Sl kTag w0 (Fr O) (G A7 n8 c9) f.Tags) :
  Ret Tryz.prog 77 [.agg #[vs f.Id, vi f.Shape.Kind, G A2 n3 c4, G A7 n8 c9]] w0 (fun v w' => ∃ (r0 : Feat) (Aw0 : Option Addr) (nw0 cw0 : Nat) (Aw2 : Option Addr) (nw2 cw2 : Nat), v = .agg #[vs r0.Id, vi r0.Shape.Kind, G Aw0 nw0 cw0, G Aw2 nw2 cw2] ∧ Q r0 ∧ Gk w0 w' [bk Aw0, bk Aw2] O (Lim r0.Id ∧ Ow kPt 49 w' ([bk Aw0, bk Aw2] ++ O) (G Aw0 nw0 cw0) r0.Shape.Pts ∧ Ow kTag 93 w' ([bk Aw0, bk Aw2] ++ O) (G Aw2 nw2 cw2) r0.Tags)) := by
 unfold F39.E at H;have hc0 := Ct.init hO;refine X9 Tryz.func77 Z 13 Z [.cell 2 44] Z Z ?_;refine Xc (Xd (Yn [vs f.Id, vi f.Shape.Kind, G A2 n3 c4, G A7 n8 c9] Z fun dd ac b3 hu16 b4 b5 => ?_));have b6 := Fb.mk hc0.ok b3 b5;have bo := hc0.k0 b4;refine Yr [vs [], .int .i64 0, G none 0 0, G none 0 0] ze44 fun de aa bp hu25 bq br => ?_;have bs := bo.own bq (some aa) (Yp bp hu25);refine Xb (Xc ?_);obtain ⟨bt, H⟩ := H;refine Zj (J := (fun t ai => ∃ (r : Shape) (ad : Option Addr) (aj ak : Nat) (ae : Option Addr) (al am : Nat), Has t [(2, Pz aa)] ∧ Cw [] w0 ai [bk ae, bk ad, some aa] O fun M => Ow kPt 49 ai M (G ad aj ak) r.Pts ∧ Ow kTag 93 ai M (G ae al am) (([] : List Tag) ++ f.Tags) ∧ Bx ai aa [vs f.Id, vi r.Kind, G ad aj ak, G ae al am] ∧ Q (⟨f.Id, r, (([] : List Tag) ++ f.Tags)⟩ : Feat))) ?_ ?_
 ·refine Y7 11 [some aa] RK Z fun b7 ap ab => ?_;have af := bs.k0 ap;refine Xt 0 Z RK ab (Xj fa44_0 (Ad ac 0) (Ad ac 0) Z Z) ?_;have b8 := bo.stown _ bq (X2 bp);have b9 := bs.stn ap;have ah := ((b6.st b8).st b9);refine Xt 1 Z RK ab (Y2 ag9 cR (Ad ac 0) (vs f.Id) Z (ah.cell Z) (nm_cons (af.fne 0 ah.2 Z) nm_nil)) ?_;refine Xt 2 Z RK ab (Xj fa44_1 (Ad ac 0) (Ad ac 1) Z Z) ?_;refine Xt 3 Z RK ab (Zb ag41 sz41 cR (Ad ac 1) [vi f.Shape.Kind, G A2 n3 c4] Z Z (ah.cells (off := 1) Z) (nm_cons (af.fne 0 ah.2 Z) nm_nil)) ?_;refine Xt 6 Z RK ab (Xj fa44_2 (Ad ac 0) (Ad ac 3) Z Z) ?_;refine Xt 7 Z RK ab (Y2 ag42 cR (Ad ac 3) (G A7 n8 c9) Z (ah.cell Z) (nm_cons (af.fne 0 ah.2 Z) nm_nil)) ?_;refine Y8 4 5 RK Z Z ?_ ?_
  ·refine Xs go72 (F24.calls H af.ok (hp5.st af.st)) Z ?_;rintro _ bu ⟨r, an, aq, ar, rfl, H, bc, ca, cb, cc⟩;have cd := af.owns bc ca cb;have au := Gm.tm ab bc;refine Xb ⟨au, ?_⟩;refine X1 5 RK Z ?_;refine X8 (kd := kTag) Yv cd ([] : List Tag) (cells := []) Z RF fun df bv ce cf bd hr54 av cg => ?_;have ag := Gm.tm au bd;refine Xb ⟨ag, ?_⟩;refine X1 8 RK Z ?_;refine Ye Yv av (G bv ce cf) ([] : List Tag) f.Tags Z cg (G A7 n8 c9) Z (bn.st av.st).sx 0 Z bt fun dg aw ax ay be bw az ch => ?_;have bf := Gm.tq ag be (hv_new au hr54);have dh := hv_app (L := [bk bv, bk an, some aa]) (O := O) (i := 0) ag Z (hv_new au hr54) bw az;refine Xb ⟨bf, ?_⟩;refine Xt 9 Z RK bf (Yo (.agg #[vs f.Id, vi r.Kind, G an aq ar, G aw ax ay]) RF) ?_;refine X1 10 RK Z ?_;have ci := (av.bm (((br.k0 ap).k0 bc).k0 bd) 2 0 Z Z Z be);refine Yd [vs f.Id, vi r.Kind, G an aq ar, G aw ax ay] ci Z Z sz44 Z Z fun di a0 cj => ?_;have ck := az.wr 2 Z a0;have cl := Gm.tq bf a0 (hv_mem 0 Z);refine Xb ⟨cl, ?_⟩;refine Yq RK ?_;have cm := (az.sw (av.sm (cc.so _ bd hr54) 1 0 Z Z Z be bw) 1 2 Z Z Z a0);have cn := (az.sw ch 0 2 Z Z Z a0);exact ⟨r, an, aq, ar, aw, ax, ay, (Xy Z), ck, cm, cn, cj, H⟩
  refine X8 (kd := kTag) Yv af ([] : List Tag) (cells := []) Z RF fun bu bx co cp bz hr42 bg cq => ?_;have b0 := Gm.tm ab bz;refine Xb ⟨b0, ?_⟩;refine X1 4 RK Z ?_;refine Xs go72 (F24.calls H bg.ok (hp5.st bg.st)) Z ?_;rintro _ dj ⟨r, ao, a1, a2, rfl, H, a3, cr, b1, cs⟩;have a4 := bg.owns a3 cr b1;have ag := Gm.tm b0 a3;refine Xb ⟨ag, ?_⟩;refine X1 8 RK Z ?_;have ct := (cq.sos a3 b1);refine Ye Yv a4 (G bx co cp) ([] : List Tag) f.Tags Z ct (G A7 n8 c9) Z (bn.st a4.st).sx 1 Z bt fun dk a5 a6 a7 bh b2 a8 cu => ?_;have bi := Gm.tq ag bh (hv_new ab hr42);have dl := hv_app (L := [bk ao, bk bx, some aa]) (O := O) (i := 1) ag Z (hv_new ab hr42) b2 a8;refine Xb ⟨bi, ?_⟩;refine Xt 9 Z RK bi (Yo (.agg #[vs f.Id, vi r.Kind, G ao a1 a2, G a5 a6 a7]) RF) ?_;refine X1 10 RK Z ?_;have cv := (a4.bm (((br.k0 ap).k0 bz).k0 a3) 2 1 Z Z Z bh);refine Yd [vs f.Id, vi r.Kind, G ao a1 a2, G a5 a6 a7] cv Z Z sz44 Z Z fun dm a9 cw => ?_;have bj := a8.wr 2 Z a9;have cx := Gm.tq bi a9 (hv_mem 0 Z);refine Xb ⟨cx, ?_⟩;refine Yq RK ?_;have cy := bj.perm (.swap _ _ _);have cz := (bj.sp (a8.sw (a4.sm cs 0 1 Z Z Z bh b2) 0 2 Z Z Z a9) (.swap _ _ _));have c0 := (bj.sp (a8.sw cu 1 2 Z Z Z a9) (.swap _ _ _));have c1 := cw;exact ⟨r, ao, a1, a2, a5, a6, a7, (Xy Z), cy, cz, c0, c1, H⟩
 rintro dn ai ⟨r, ad, aj, ak, ae, al, am, c2, ba, c3, c5, c6, H⟩;obtain ⟨dp, rfl⟩ := Has.ins c2;refine Xm ?_;have c7 := ba.bgv c6 2 Z;have bb := ba.drop 2 Z;have bl := bb.perm (.swap _ _ _);have c8 := bb.stp (.swap _ _ _);have da := (c7.st c8);have db := (bb.sp (ba.sd c3 1 2 Z Z Z) (.swap _ _ _));have dc := (bb.sp (ba.sd c5 0 2 Z Z Z) (.swap _ _ _));exact ⟨[.agg #[vs f.Id, vi r.Kind, G ad aj ak, G ae al am]], ⟨_, _, Z, da.1.res Z ag44 sz44, Z⟩, (⟨f.Id, r, (([] : List Tag) ++ f.Tags)⟩ : Feat), ad, aj, ak, ae, al, am, Z, H, bl.gr.g0, bl.ok, bl.ge, hs1, db, dc⟩
def F20.E (c_ : Change) (Q : Change → Prop) : Prop :=
 F39.E c_.Was (fun r => F39.E c_.Now (fun r2 => Q (⟨c_.Id, c_.Had, r, c_.Has, r2⟩ : Change)))
theorem F20.calls {c_ : Change} {A3 : Option Addr} {n4 c5 : Nat} {A8 : Option Addr} {n9 ai : Nat} {aj : Option Addr} {ak al : Nat} {am : Option Addr} {an ao : Nat} {Q : Change → Prop} (H : F20.E c_ Q) (hO : Ok w0 O) (hs1 : Lim c_.Id) (hs2 : Lim c_.Was.Id) (hp6 : Sl kPt w0 (Fr O) (G A3 n4 c5) c_.Was.Shape.Pts) (bh : Sl kTag w0 (Fr O) (G A8 n9 ai) c_.Was.Tags) (bi : Lim c_.Now.Id) (bj : Sl kPt w0 (Fr O) (G aj ak al) c_.Now.Shape.Pts) (bl : Sl kTag w0 (Fr O) (G am an ao) c_.Now.Tags) :
  Ret Tryz.prog 41 [.agg #[vs c_.Id, vb c_.Had, vs c_.Was.Id, vi c_.Was.Shape.Kind, G A3 n4 c5, G A8 n9 ai, vb c_.Has, vs c_.Now.Id, vi c_.Now.Shape.Kind, G aj ak al, G am an ao]] w0 (fun v w' => ∃ (r0 : Change) (Aw0 : Option Addr) (nw0 cw0 : Nat) (Aw2 : Option Addr) (nw2 cw2 : Nat) (Aw4 : Option Addr) (nw4 cw4 : Nat) (Aw6 : Option Addr) (nw6 cw6 : Nat), v = .agg #[vs r0.Id, vb r0.Had, vs r0.Was.Id, vi r0.Was.Shape.Kind, G Aw0 nw0 cw0, G Aw2 nw2 cw2, vb r0.Has, vs r0.Now.Id, vi r0.Now.Shape.Kind, G Aw4 nw4 cw4, G Aw6 nw6 cw6] ∧ Q r0 ∧ Gk w0 w' [bk Aw0, bk Aw2, bk Aw4, bk Aw6] O (Lim r0.Id ∧ Lim r0.Was.Id ∧ Ow kPt 49 w' ([bk Aw0, bk Aw2, bk Aw4, bk Aw6] ++ O) (G Aw0 nw0 cw0) r0.Was.Shape.Pts ∧ Ow kTag 93 w' ([bk Aw0, bk Aw2, bk Aw4, bk Aw6] ++ O) (G Aw2 nw2 cw2) r0.Was.Tags ∧ Lim r0.Now.Id ∧ Ow kPt 49 w' ([bk Aw0, bk Aw2, bk Aw4, bk Aw6] ++ O) (G Aw4 nw4 cw4) r0.Now.Shape.Pts ∧ Ow kTag 93 w' ([bk Aw0, bk Aw2, bk Aw4, bk Aw6] ++ O) (G Aw6 nw6 cw6) r0.Now.Tags)) := by
 unfold F20.E at H;have hc0 := Ct.init hO;refine X9 Tryz.func41 Z 16 Z [.cell 2 62] Z Z ?_;refine Xc (Xd (Yn [vs c_.Id, vb c_.Had, vs c_.Was.Id, vi c_.Was.Shape.Kind, G A3 n4 c5, G A8 n9 ai, vb c_.Has, vs c_.Now.Id, vi c_.Now.Shape.Kind, G aj ak al, G am an ao] Z fun cf aa bm hu28 bn bo => ?_));have bp := Fb.mk hc0.ok bm bo;have bc := hc0.k0 bn;refine Yr [vs [], vb false, vs [], .int .i64 0, G none 0 0, G none 0 0, vb false, vs [], .int .i64 0, G none 0 0, G none 0 0] ze62 fun cg a6 bd hu37 be bq => ?_;have bf := bc.own be (some a6) (Yp bd hu37);refine Xb (Xc (Y7 14 [some a6] RK Z fun br a7 ab => ?_));have ad := bf.k0 a7;refine Xt 0 Z RK ab (Xj fa62_0 (Ad aa 0) (Ad aa 0) Z Z) ?_;have bs := bc.stown _ be (X2 bd);have bt := bf.stn a7;have ac := ((bp.st bs).st bt);refine Xt 1 Z RK ab (Y2 ag9 cR (Ad aa 0) (vs c_.Id) Z (ac.cell Z) (nm_cons (ad.fne 0 ac.2 Z) nm_nil)) ?_;refine Xt 2 Z RK ab (Xj fa62_1 (Ad aa 0) (Ad aa 1) Z Z) ?_;refine Xt 3 Z RK ab (Y2 ag4 cR (Ad aa 1) (vb c_.Had) Z (ac.cell Z) (nm_cons (ad.fne 0 ac.2 Z) nm_nil)) ?_;refine Xt 4 Z RK ab (Xj fa62_2 (Ad aa 0) (Ad aa 2) Z Z) ?_;refine Xt 5 Z RK ab (Zb ag44 sz44 cR (Ad aa 2) [vs c_.Was.Id, vi c_.Was.Shape.Kind, G A3 n4 c5, G A8 n9 ai] Z Z (ac.cells (off := 2) Z) (nm_cons (ad.fne 0 ac.2 Z) nm_nil)) ?_;refine Xt 7 Z RK ab (Xj fa62_3 (Ad aa 0) (Ad aa 6) Z Z) ?_;refine Xt 8 Z RK ab (Y2 ag4 cR (Ad aa 6) (vb c_.Has) Z (ac.cell Z) (nm_cons (ad.fne 0 ac.2 Z) nm_nil)) ?_;refine Xt 9 Z RK ab (Xj fa62_4 (Ad aa 0) (Ad aa 7) Z Z) ?_;refine Xt 10 Z RK ab (Zb ag44 sz44 cR (Ad aa 7) [vs c_.Now.Id, vi c_.Now.Shape.Kind, G aj ak al, G am an ao] Z Z (ac.cells (off := 7) Z) (nm_cons (ad.fne 0 ac.2 Z) nm_nil)) ?_;refine X1 6 RK Z ?_;refine Xs go77 (F39.calls H ad.ok hs2 (hp6.st ad.st) (bh.st ad.st)) Z ?_;rintro _ bu ⟨r, ae, av, aw, af, ax, ay, rfl, H, a8, bv, bw, bx, bz, b0⟩;have a5 := ad.owns a8 bv bw;have bg := Gm.tm ab a8;refine Xb ⟨bg, ?_⟩;refine X1 11 RK Z ?_;refine Xs go77 (F39.calls H a5.ok bi (bj.st a5.st) (bl.st a5.st)) Z ?_;rintro _ ch ⟨r2, ag, az, a0, ah, a1, a2, rfl, H, a3, b1, a9, b2, b3, b4⟩;have a4 := a5.owns a3 b1 a9;have ba := Gm.tm bg a3;refine Xb ⟨ba, ?_⟩;refine Xt 12 Z RK ba (Yo (.agg #[vs c_.Id, vb c_.Had, vs r.Id, vi r.Shape.Kind, G ae av aw, G af ax ay, vb c_.Has, vs r2.Id, vi r2.Shape.Kind, G ag az a0, G ah a1 a2]) RF) ?_;refine X1 13 RK Z ?_;have b5 := (((bq.k0 a7).k0 a8).k0 a3);refine Yd [vs c_.Id, vb c_.Had, vs r.Id, vi r.Shape.Kind, G ae av aw, G af ax ay, vb c_.Has, vs r2.Id, vi r2.Shape.Kind, G ag az a0, G ah a1 a2] b5 Z Z sz62 Z Z fun ci ap b6 => ?_;have aq := a4.wr 4 Z ap;have b7 := Gm.tq ba ap (hv_mem 0 Z);refine Xb ⟨b7, ?_⟩;refine Yq RK ?_;refine Xm ?_;have b8 := aq.bgv b6 4 Z;have ar := aq.drop 4 Z;have au : ([bk ag, bk ah, bk ae, bk af] : Ob).Perm [bk ae, bk af, bk ag, bk ah] := RP;have bb := ar.perm au;have b9 := ar.stp au;have ca := (b8.st b9);have cb := (ar.sp (aq.sd (a4.sw (bz.sos a3 a9) 2 4 Z Z Z ap) 2 4 Z Z Z) au);have cc := (ar.sp (aq.sd (a4.sw (b0.sos a3 a9) 3 4 Z Z Z ap) 3 4 Z Z Z) au);have cd := (ar.sp (aq.sd (a4.sw b3 0 4 Z Z Z ap) 0 4 Z Z Z) au);have ce := (ar.sp (aq.sd (a4.sw b4 1 4 Z Z Z ap) 1 4 Z Z Z) au);exact ⟨[.agg #[vs c_.Id, vb c_.Had, vs r.Id, vi r.Shape.Kind, G ae av aw, G af ax ay, vb c_.Has, vs r2.Id, vi r2.Shape.Kind, G ag az a0, G ah a1 a2]], ⟨_, _, Z, ca.1.res Z ag62 sz62, Z⟩, (⟨c_.Id, c_.Had, r, c_.Has, r2⟩ : Change), ae, av, aw, af, ax, ay, ag, az, a0, ah, a1, a2, Z, H, bb.gr.g0, bb.ok, bb.ge, hs1, bx, cb, cc, b2, cd, ce⟩
def F47.E (d : List Change) (Q : List Change → Prop) : Prop :=
 F100.E d (fun r => (if !r then Q [] else (∃ (I59 : (List Change) → Int → Prop) (mu60 : (List Change) → Int → Nat), I59 [] 0 ∧ ∀ (xs2 : List Change) (v2 : Int), I59 xs2 v2 → (if decide (v2 < (d.length : Int)) then ((0 : Int) ≤ v2 ∧ v2 < (d.length : Int)) ∧ F20.E (⟨(nth d v2).Id, (nth d v2).Has, (nth d v2).Now, (nth d v2).Had, (nth d v2).Was⟩ : Change) (fun r2 => (xs2.length + ([r2] : List Change).length ≤ 268435456) ∧ (I64 (v2 + 1)) ∧ I59 (xs2 ++ ([r2] : List Change)) (v2 + 1) ∧ mu60 (xs2 ++ ([r2] : List Change)) (v2 + 1) < mu60 xs2 v2) else Q xs2))))
theorem F47.calls {d : List Change} {A1 : Option Addr} {n2 c3 : Nat} {Q : List Change → Prop} (H : F47.E d Q) (hO : Ok w0 O) (hp4 : Sl kChange w0 (Fr O) (G A1 n2 c3) d) :
  Ret Tryz.prog 11 [G A1 n2 c3] w0 (fun v w' => ∃ (r0 : List Change) (Aw0 : Option Addr) (nw0 cw0 : Nat) (q0 : Ob) (ra0 : List (List Value)), v = G Aw0 nw0 cw0 ∧ Q r0 ∧ Gr w0 w' none ∧ Ok w' ((bk Aw0 :: (q0 ++ [])) ++ O) ∧ (∀ b, some b ∈ (bk Aw0 :: (q0 ++ [])) → w0.heap.size ≤ b) ∧ Ow (Kd.cells 11) 62 w' ((bk Aw0 :: (q0 ++ [])) ++ O) (G Aw0 nw0 cw0) ra0 ∧ DArr dChange_62 w' q0 r0 ra0) := by
 unfold F47.E at H;have hc0 := Ct.init hO;refine X9 Tryz.func11 Z 34 Z [.tmp 2] Z Z ?_;refine Xc (Xd (Xf (G none 0 0) Z (Xb (Xc (Xd ?_)))));have b3 : DArr dChange_62 w0 ([] : Ob) ([] : List Change) ([] : List (List Value)) := Z;refine X8 (kd := Kd.cells 11) Y1 hc0 ([] : List (List Value)) (cells := []) Z RF fun w6 A7 n8 c9 b4 hr11 bn b5 => ?_;have bo : ([bk A7] : Ob).Perm (bk A7 :: (([] : Ob) ++ [])) := RP;have bp := bn.perm bo;refine Xf (G A7 n8 c9) Z (Xb (Xc (Xc (Xd (Xe (G A1 n2 c3) Z ?_)))));refine Xs go17 (F100.calls H bp.ok (hp4.st bp.st)) Z ?_;rintro _ d6 ⟨r, rfl, H, a9⟩;have ar := bp.k0 a9;refine Xa (X7 r Z) (Xb ?_);refine Xw (!r) Z (fun bq => ?_) (fun bq => ?_)
 ·have H := Xn H bq;refine Xc (Xd (Xe (G A7 n8 c9) Z (Xf (G A7 n8 c9) Z (Xb (Xm ?_)))));have cj := ((bn.sp b5 bo).sn a9);have ck := ((b3.k0 b4).k0 a9);exact ⟨[G A7 n8 c9], ⟨_, Z, Z⟩, ([] : List Change), A7, n8, c9, ([] : Ob), ([] : List (List Value)), Z, H, ar.gr.g0, ar.ok, ar.ge, cj, ck⟩
 have H := Xo H bq;refine Xx (Xc (Xc (Xd (Xe (G A1 n2 c3) Z ?_))));have d7 := (hp4.st ar.st).le;refine Xa (Ya u23_ A1 n2 c3 (hp4.st ar.st).len Z) (Xe (vi 0) Z (Xb (X6 ?_)));obtain ⟨cl, cm, br, H⟩ := H;have cn := ((bn.sp b5 bo).sn a9);have co := ((b3.k0 b4).k0 a9);refine Yi (α := (List Change) × (List (List Value)) × Ob × (Option Addr) × Nat × Nat × Int) (fun (xs2, au, ag, af, ah, ai, v2) t ba => cl xs2 v2 ∧ Has t [(3, G af ah ai), (11, G A1 n2 c3), (12, vi (d.length : Int)), (13, vi v2)] ∧ Cw [] w0 ba (bk af :: (ag ++ [])) O fun M => Sl kChange ba (Fr M) (G A1 n2 c3) d ∧ Ow (Kd.cells 11) 62 ba M (G af ah ai) au ∧ DArr dChange_62 ba ag xs2 au) (fun (xs2, _, _, _, _, _, v2) => cm xs2 v2) (([] : List Change), ([] : List (List Value)), ([] : Ob), A7, n8, c9, 0) ⟨br, (Xy Z), ar, (hp4.st ar.st), cn, co⟩ ?_;rintro ⟨xs2, au, ag, af, ah, ai, v2⟩ _ ba ⟨br, cp, bb, bs, b6, b7⟩;obtain ⟨d8, rfl⟩ := Has.ins cp;have H := H xs2 v2 br;refine Xc (Xd (Xa (X0 v2 (d.length : Int) (decide (v2 < (d.length : Int))) Z Z Z) (Xb (Xc ?_))));refine Xw (decide (v2 < (d.length : Int))) Z (fun bt => ?_) (fun bt => ?_)
 ·have H := Xn H bt;refine Xx (Xc (X6 (Xc (Xd ?_))));obtain ⟨b8, H⟩ := H;obtain ⟨b9, d9, cq, ea, cr, cs⟩ := bs.get default RD v2 b8;obtain ⟨av, aw, ax, ay, az, a0, a1, a2, a3, a4, a5, a6, rfl, ct, cu, cv, cw, cx, cy, cz⟩ := kChange.op cr;refine Xa (X3 u23_ Ys A1 b9 n2 c3 bs.len v2 Z cq Z b8) (Xa (Xu ag62 sz62 cL (b9.add (v2.toNat * 11)) [vs ((nth d v2).Id), vb ((nth d v2).Had), vs ((nth d v2).Was.Id), vi ((nth d v2).Was.Shape.Kind), G av aw ax, G ay az a0, vb ((nth d v2).Has), vs ((nth d v2).Now.Id), vi ((nth d v2).Now.Shape.Kind), G a1 a2 a3, G a4 a5 a6] Z Z cs) (Yr [vs [], vb false, vs [], .int .i64 0, G none 0 0, G none 0 0, vb false, vs [], .int .i64 0, G none 0 0, G none 0 0] ze62 fun eb aa bu hu102 bf c0 => ?_));have bg := bb.own bf (some aa) (Yp bu hu102);refine Yd [vs ((nth d v2).Id), vb ((nth d v2).Had), vs ((nth d v2).Was.Id), vi ((nth d v2).Was.Shape.Kind), G av aw ax, G ay az a0, vb ((nth d v2).Has), vs ((nth d v2).Now.Id), vi ((nth d v2).Now.Shape.Kind), G a1 a2 a3, G a4 a5 a6] c0 Z Z sz62 Z Z fun c1 bh bc => ?_;have bv := bg.wr 0 Z bh;refine Xb (Xd (Xe (G af ah ai) Z (Xa (Xj fa62_0 (Ad aa 0) (Ad aa 0) Z Z) (Xa (Xl ag9 cL (Ad aa 0) (vs ((nth d v2).Id)) Z (bc.cell Z)) (Xa (Xj fa62_3 (Ad aa 0) (Ad aa 6) Z Z) (Xa (Xl ag4 cL (Ad aa 6) (vb ((nth d v2).Has)) Z (bc.cell Z)) (Xa (Xj fa62_4 (Ad aa 0) (Ad aa 7) Z Z) (Xa (Xu ag44 sz44 cL (Ad aa 7) [vs ((nth d v2).Now.Id), vi ((nth d v2).Now.Shape.Kind), G a1 a2 a3, G a4 a5 a6] Z Z (bc.cells (off := 7) Z)) ?_))))))));refine Xa (Xj fa62_1 (Ad aa 0) (Ad aa 1) Z Z) (Xa (Xl ag4 cL (Ad aa 1) (vb ((nth d v2).Had)) Z (bc.cell Z)) (Xa (Xj fa62_2 (Ad aa 0) (Ad aa 2) Z Z) (Xa (Xu ag44 sz44 cL (Ad aa 2) [vs ((nth d v2).Was.Id), vi ((nth d v2).Was.Shape.Kind), G av aw ax, G ay az a0] Z Z (bc.cells (off := 2) Z)) (Xa (Yo (.agg #[vs ((nth d v2).Id), vb ((nth d v2).Has), vs ((nth d v2).Now.Id), vi ((nth d v2).Now.Shape.Kind), G a1 a2 a3, G a4 a5 a6, vb ((nth d v2).Had), vs ((nth d v2).Was.Id), vi ((nth d v2).Was.Shape.Kind), G av aw ax, G ay az a0]) RF) ?_))));have bd := bb.stown _ bf (X2 bu);have be := bg.stw 0 Z bh;have c2 := ((cy.st bd).st be);have c4 := ((cz.st bd).st be);have c5 := ((cv.st bd).st be);have c6 := ((cw.st bd).st be);refine Xs go41 (F20.calls H bv.ok ct cx c2 c4 cu c5 c6) Z ?_;rintro _ ca ⟨r2, ab, aj, ak, ac, al, am, ad, an, ao, ae, ap, aq, rfl, H, bi, c7, bw, c8, da, db, dc, dd, de, df⟩;have cb := bv.owns bi c7 bw;have cc : (dChange_62).D ca ([] ++ ([] ++ (([] ++ (([] ++ [bk ab]) ++ [bk ac])) ++ ([] ++ ([] ++ (([] ++ [bk ad]) ++ [bk ae])))))) r2 [vs r2.Id, vb r2.Had, vs r2.Was.Id, vi r2.Was.Shape.Kind, G ab aj ak, G ac al am, vb r2.Has, vs r2.Now.Id, vi r2.Now.Shape.Kind, G ad an ao, G ae ap aq] := (dChange_62.mk _ r2 c8 da (Ds.ofOw kPt_flat db) (Ds.ofOw kTag_flat dc) dd (Ds.ofOw kPt_flat de) (Ds.ofOw kTag_flat df));have dg : DArr dChange_62 ca (([] ++ ([] ++ (([] ++ (([] ++ [bk ab]) ++ [bk ac])) ++ ([] ++ ([] ++ (([] ++ [bk ad]) ++ [bk ae])))))) ++ []) ([r2] : List Change) ([[vs r2.Id, vb r2.Had, vs r2.Was.Id, vi r2.Was.Shape.Kind, G ab aj ak, G ac al am, vb r2.Has, vs r2.Now.Id, vi r2.Now.Shape.Kind, G ad an ao, G ae ap aq]] : List (List Value)) := ⟨_, _, Z, cc, Z⟩;refine X8 (kd := Kd.cells 11) Y1 cb ([[vs r2.Id, vb r2.Had, vs r2.Was.Id, vi r2.Was.Shape.Kind, G ab aj ak, G ac al am, vb r2.Has, vs r2.Now.Id, vi r2.Now.Shape.Kind, G ad an ao, G ae ap aq]] : List (List Value)) (cells := [vs r2.Id, vb r2.Had, vs r2.Was.Id, vi r2.Was.Shape.Kind, G ab aj ak, G ac al am, vb r2.Has, vs r2.Now.Id, vi r2.Now.Shape.Kind, G ad an ao, G ae ap aq]) ⟨[vs r2.Id, vb r2.Had, vs r2.Was.Id, vi r2.Was.Shape.Kind, G ab aj ak, G ac al am, vb r2.Has, vs r2.Now.Id, vi r2.Now.Shape.Kind, G ad an ao, G ae ap aq], _, Z, Dd.raw _ cc, Z⟩ RF fun ec a7 dh di bj hr151 bl dj => ?_;have bm : ((bk a7 :: bk ab :: bk ac :: bk ad :: bk ae :: some aa :: bk af :: (ag ++ [])) : Ob).Perm (bk a7 :: some aa :: bk af :: (ag ++ ((([] ++ ([] ++ (([] ++ (([] ++ [bk ab]) ++ [bk ac])) ++ ([] ++ ([] ++ (([] ++ [bk ad]) ++ [bk ae])))))) ++ []) ++ []))) := RP;have bx := bl.perm bm;obtain ⟨dk, H⟩ := H;have dl := (bl.sp (((bg.sw (b6.so _ bf (X2 bu)) 1 0 Z Z Z bh).sos bi bw).so _ bj hr151) bm);have dm := (bl.sp dj bm);have cd := (((DArr.sm (L := (some aa :: bk af :: (ag ++ []))) (O := O) (i := 0) (b7.k0 bf) bg Z (fun b hb => (mcm (List.mem_append_left _ hb))) bh).k0 bi).k0 bj);have ce := (dg.k0 bj);have dn : au.length + ([[vs r2.Id, vb r2.Had, vs r2.Was.Id, vi r2.Was.Shape.Kind, G ab aj ak, G ac al am, vb r2.Has, vs r2.Now.Id, vi r2.Now.Shape.Kind, G ad an ao, G ae ap aq]] : List (List Value)).length ≤ 268435456 := by rw [cd.len, ce.len]; exact dk
  refine Ye (kd := Kd.cells 11) Y1 bx (G af ah ai) au ([[vs r2.Id, vb r2.Had, vs r2.Was.Id, vi r2.Was.Shape.Kind, G ab aj ak, G ac al am, vb r2.Has, vs r2.Now.Id, vi r2.Now.Shape.Kind, G ad an ao, G ae ap aq]] : List (List Value)) Z dl (G a7 dh di) Z dm.sx 2 Z dn fun ed a8 cf cg ch dp ci dq => ?_;have dr := (DArr.sm (L := (bk a7 :: some aa :: bk af :: (ag ++ ((([] ++ ([] ++ (([] ++ (([] ++ [bk ab]) ++ [bk ac])) ++ ([] ++ ([] ++ (([] ++ [bk ad]) ++ [bk ae])))))) ++ []) ++ [])))) (O := O) (i := 2) cd bx Z (fun b hb => (List.mem_append_left _ hb)) ch);have ds := (DArr.sm (L := (bk a7 :: some aa :: bk af :: (ag ++ ((([] ++ ([] ++ (([] ++ (([] ++ [bk ab]) ++ [bk ac])) ++ ([] ++ ([] ++ (([] ++ [bk ad]) ++ [bk ae])))))) ++ []) ++ [])))) (O := O) (i := 2) ce bx Z (fun b hb => (List.mem_append_right _ (List.mem_append_left _ hb))) ch);have dt := DArr.app dr ds;have bz : ((bk a7 :: some aa :: bk a8 :: (ag ++ ((([] ++ ([] ++ (([] ++ (([] ++ [bk ab]) ++ [bk ac])) ++ ([] ++ ([] ++ (([] ++ [bk ad]) ++ [bk ae])))))) ++ []) ++ []))) : Ob).Perm ((bk a7 :: []) ++ (some aa :: bk a8 :: (ag ++ ((([] ++ ([] ++ (([] ++ (([] ++ [bk ab]) ++ [bk ac])) ++ ([] ++ ([] ++ (([] ++ [bk ad]) ++ [bk ae])))))) ++ []) ++ [])))) := RP;have b0 := ci.drops bz;have b1 : ((some aa :: bk a8 :: (ag ++ ((([] ++ ([] ++ (([] ++ (([] ++ [bk ab]) ++ [bk ac])) ++ ([] ++ ([] ++ (([] ++ [bk ad]) ++ [bk ae])))))) ++ []) ++ []))) : Ob).Perm (some aa :: bk a8 :: ((ag ++ (([] ++ ([] ++ (([] ++ (([] ++ [bk ab]) ++ [bk ac])) ++ ([] ++ ([] ++ (([] ++ [bk ad]) ++ [bk ae])))))) ++ [])) ++ [])) := RP;have b2 := b0.perm b1;refine Xf (G a8 cf cg) Z (Xb (Xd ?_));obtain ⟨du, H⟩ := H;refine Xa (Yb v2 1 Z Z du) (Xe (vi (v2 + 1)) Z (Xb ?_));have dv := b2.drop 0 Z;obtain ⟨dw, dx⟩ := H;have dy := bv.stos bi bw;have dz := cb.stown _ bj hr151;have d0 := bl.stp bm;have d1 := b0.stp b1;have d2 := b2.std 0 Z;have d3 := (((((((((bs.st bd).st be).st dy).st dz).st d0).st dp).st (St.drops _ O bz)).st d1).st d2);have d4 := (b2.sd (b0.sp (ci.odr dq bz 1 Z) b1) 1 0 Z Z Z);have d5 := dt;exact ⟨((xs2 ++ ([r2] : List Change)), (au ++ ([[vs r2.Id, vb r2.Had, vs r2.Was.Id, vi r2.Was.Shape.Kind, G ab aj ak, G ac al am, vb r2.Has, vs r2.Now.Id, vi r2.Now.Shape.Kind, G ad an ao, G ae ap aq]] : List (List Value))), (ag ++ (([] ++ ([] ++ (([] ++ (([] ++ [bk ab]) ++ [bk ac])) ++ ([] ++ ([] ++ (([] ++ [bk ad]) ++ [bk ae])))))) ++ [])), a8, cf, cg, v2 + 1), dx, dw, (Xy Z), dv, d3, d4, d5⟩
 have H := Xo H bt;refine Yh (xin_hit ?_);exact Xc (Xd (Xe (G af ah ai) Z (Xf (G af ah ai) Z (Xb (Xm ⟨[G af ah ai], ⟨_, Z, Z⟩, xs2, af, ah, ai, ag, au, Z, H, bb.gr.g0, bb.ok, bb.ge, b6, b7⟩)))))
end Go.Proofs.YtlaaehjcooonfaaGreatDoor
namespace Go.Proofs
open Go.Shelf
def Tryz.lays317_ren : Go.Shelf.Ren := ⟨fun | 317 => 187 | n => n, fun | 3 => 3 | 46 => 132 | n => n, fun | n => n⟩
theorem Tryz.lays317 : Go.Proofs.Lays.n317 Tryz.prog Tryz.lays317_ren := {
  mixed := by kernel_rfl
  f317 := Tryz.func187.trans (congrArg some (by kernel_rfl))
  t3 := Tryz.underlying3
  a3 := Tryz.isAgg3
  z3 := Tryz.sizeOf3
  v3 := Tryz.zeroValue3
  t46 := Tryz.underlying132
  a46 := Tryz.isAgg132
  z46 := Tryz.sizeOf132
  v46 := Tryz.zeroValue132 }
open Go.Lib in
theorem Tryz.internal_strconv_log10Pow2 (x : Nat) (h : x ≤ 64) (w : World) :
    Calls Tryz.prog 187 #[.int .i64 x] w fun e w' => e = .returned (.int .i64 (Lib.l10 x)) ∧ w' = w := Any.internal_strconv_log10Pow2 Tryz.lays317 x h w
def Tryz.lays318_ren : Go.Shelf.Ren := ⟨fun | 318 => 188 | n => n, fun | 3 => 3 | 4 => 4 | n => n, fun | n => n⟩
theorem Tryz.lays318 : Go.Proofs.Lays.n318 Tryz.prog Tryz.lays318_ren := {
  mixed := by kernel_rfl
  f318 := Tryz.func188.trans (congrArg some (by kernel_rfl))
  t3 := Tryz.underlying3
  a3 := Tryz.isAgg3
  z3 := Tryz.sizeOf3
  v3 := Tryz.zeroValue3
  t4 := Tryz.underlying4
  a4 := Tryz.isAgg4
  z4 := Tryz.sizeOf4
  v4 := Tryz.zeroValue4 }
open Go.Lib in
theorem Tryz.internal_strconv_bool2_int (b : Bool) (w : World) :
    Calls Tryz.prog 188 #[.bool b] w fun e w' => e = .returned (.int .i64 (if b then 1 else 0)) ∧ w' = w := Any.internal_strconv_bool2_int Tryz.lays318 b w
def Tryz.lays283_ren : Go.Shelf.Ren := ⟨fun | 283 => 181 | n => n, fun | 3 => 3 | 9 => 9 | 4 => 4 | n => n, fun | n => n⟩
theorem Tryz.lays283 : Go.Proofs.Lays.n283 Tryz.prog Tryz.lays283_ren := {
  mixed := by kernel_rfl
  f283 := Tryz.func181.trans (congrArg some (by kernel_rfl))
  t3 := Tryz.underlying3
  a3 := Tryz.isAgg3
  z3 := Tryz.sizeOf3
  v3 := Tryz.zeroValue3
  t4 := Tryz.underlying4
  a4 := Tryz.isAgg4
  z4 := Tryz.sizeOf4
  v4 := Tryz.zeroValue4
  t9 := Tryz.underlying9
  a9 := Tryz.isAgg9
  z9 := Tryz.sizeOf9
  v9 := Tryz.zeroValue9 }
open Go.Lib in
theorem Tryz.internal_strconv_small (i : Nat) (h : i < 100) (w : World) :
    Calls Tryz.prog 181 #[.int .i64 i] w fun e w' => e = .returned (.string ⟨(Lib.decDigits i).toArray⟩) ∧ w' = w := Any.internal_strconv_small Tryz.lays283 i h w
def Tryz.laysM284_ren : Go.Shelf.Ren := ⟨fun | 284 => 182 | 129 => 145 | 317 => 187 | 318 => 188 | n => n, fun | 53 => 165 | 3 => 3 | 212 => 202 | 0 => 0 | 4 => 4 | 46 => 132 | 5 => 5 | 9 => 9 | n => n, fun | 17 => 1 | n => n⟩
theorem Tryz.laysM284 : Go.Proofs.LaysM.n284 Tryz.prog Tryz.laysM284_ren := {
  mixed := by kernel_rfl
  f129 := Tryz.func145.trans (congrArg some (by kernel_rfl))
  f284 := Tryz.func182.trans (congrArg some (by kernel_rfl))
  f317 := Tryz.func187.trans (congrArg some (by kernel_rfl))
  f318 := Tryz.func188.trans (congrArg some (by kernel_rfl))
  t0 := Tryz.underlying0
  a0 := Tryz.isAgg0
  z0 := Tryz.sizeOf0
  v0 := Tryz.zeroValue0
  t3 := Tryz.underlying3
  a3 := Tryz.isAgg3
  z3 := Tryz.sizeOf3
  v3 := Tryz.zeroValue3
  t4 := Tryz.underlying4
  a4 := Tryz.isAgg4
  z4 := Tryz.sizeOf4
  v4 := Tryz.zeroValue4
  t5 := Tryz.underlying5
  a5 := Tryz.isAgg5
  z5 := Tryz.sizeOf5
  v5 := Tryz.zeroValue5
  t9 := Tryz.underlying9
  a9 := Tryz.isAgg9
  z9 := Tryz.sizeOf9
  v9 := Tryz.zeroValue9
  t46 := Tryz.underlying132
  a46 := Tryz.isAgg132
  z46 := Tryz.sizeOf132
  v46 := Tryz.zeroValue132
  t53 := Tryz.underlying165
  a53 := Tryz.isAgg165
  z53 := Tryz.sizeOf165
  v53 := Tryz.zeroValue165
  t212 := Tryz.underlying202
  a212 := Tryz.isAgg202
  z212 := Tryz.sizeOf202
  v212 := Tryz.zeroValue202
  g17 := by kernel_rfl
  i0 := by kernel_rfl
  i3 := by kernel_rfl
  i4 := by kernel_rfl
  i5 := by kernel_rfl
  i9 := by kernel_rfl
  i46 := by kernel_rfl
  i53 := by kernel_rfl
  i212 := by kernel_rfl
  m17 := by kernel_rfl }
open Go.Lib in
theorem Tryz.internal_strconv_numDigits (u : Nat) (h1 : 1 ≤ u) (h2 : u < 18446744073709551616) (w : World) (htab : Lib.TabIs Tryz.prog w "internal/strconv.uint64pow10" .u64 Lib.pow10Tab) :
    Calls Tryz.prog 182 #[.int .u64 u] w fun e w' => e = .returned (.int .i64 (Lib.nDigits u)) ∧ w' = w := Any.internal_strconv_numDigits Tryz.laysM284 u h1 h2 w htab
def Tryz.lays285_ren : Go.Shelf.Ren := ⟨fun | 285 => 183 | n => n, fun | 37 => 22 | 53 => 165 | 3 => 3 | 4 => 4 | 51 => 163 | 9 => 9 | 5 => 5 | 0 => 0 | n => n, fun | n => n⟩
theorem Tryz.lays285 : Go.Proofs.Lays.n285 Tryz.prog Tryz.lays285_ren := {
  mixed := by kernel_rfl
  f285 := Tryz.func183.trans (congrArg some (by kernel_rfl))
  t0 := Tryz.underlying0
  a0 := Tryz.isAgg0
  z0 := Tryz.sizeOf0
  v0 := Tryz.zeroValue0
  t3 := Tryz.underlying3
  a3 := Tryz.isAgg3
  z3 := Tryz.sizeOf3
  v3 := Tryz.zeroValue3
  t4 := Tryz.underlying4
  a4 := Tryz.isAgg4
  z4 := Tryz.sizeOf4
  v4 := Tryz.zeroValue4
  t5 := Tryz.underlying5
  a5 := Tryz.isAgg5
  z5 := Tryz.sizeOf5
  v5 := Tryz.zeroValue5
  t9 := Tryz.underlying9
  a9 := Tryz.isAgg9
  z9 := Tryz.sizeOf9
  v9 := Tryz.zeroValue9
  t37 := Tryz.underlying22
  a37 := Tryz.isAgg22
  z37 := Tryz.sizeOf22
  v37 := Tryz.zeroValue22
  t51 := Tryz.underlying163
  a51 := Tryz.isAgg163
  z51 := Tryz.sizeOf163
  v51 := Tryz.zeroValue163
  t53 := Tryz.underlying165
  a53 := Tryz.isAgg165
  z53 := Tryz.sizeOf165
  v53 := Tryz.zeroValue165 }
open Go.RowKit Go.Sort Go.Lib in
theorem Tryz.internal_strconv_formatBase10 (blk off cap : Nat) (u : Nat) (d : Array UInt8) (w : World) (hH : Holds (fun (b : UInt8) => Value.int .u8 (b.toNat : Int)) w blk off d) (hu : u < 10 ^ d.size) (hu64 : u < 18446744073709551616) (hsz : d.size < 4611686018427387904) :
    Calls Tryz.prog 183 #[.slice (some ⟨blk, off, none⟩) d.size cap, .int .u64 u] w fun e w' =>
      e = .returned (.tuple #[]) ∧ ∃ (n v' : Nat) (dk : Array UInt8), w' = (putRow (fun (b : UInt8) => Value.int .u8 (b.toNat : Int)) w blk off dk).drewN n ∧ FmtInv d.size u 0 v' dk := Any.internal_strconv_formatBase10 Tryz.lays285 blk off cap u d w hH hu hu64 hsz
def Tryz.laysM246_ren : Go.Shelf.Ren := ⟨fun | 246 => 174 | 283 => 181 | 284 => 182 | 285 => 183 | 286 => 184 | 129 => 145 | 317 => 187 | 318 => 188 | 319 => 189 | 320 => 190 | 337 => 191 | 338 => 192 | n => n, fun | 2 => 2 | 3 => 3 | 9 => 9 | 4 => 4 | 171 => 196 | 0 => 0 | 53 => 165 | 37 => 22 | 5 => 5 | 173 => 198 | 212 => 202 | 51 => 163 | 20 => 20 | 213 => 203 | 46 => 132 | 232 => 204 | 233 => 205 | n => n, fun | 17 => 1 | 18 => 2 | 19 => 3 | n => n⟩
theorem Tryz.laysM246 : Go.Proofs.LaysM.n246 Tryz.prog Tryz.laysM246_ren := {
  mixed := by kernel_rfl
  f129 := Tryz.func145.trans (congrArg some (by kernel_rfl))
  f246 := Tryz.func174.trans (congrArg some (by kernel_rfl))
  f283 := Tryz.func181.trans (congrArg some (by kernel_rfl))
  f284 := Tryz.func182.trans (congrArg some (by kernel_rfl))
  f285 := Tryz.func183.trans (congrArg some (by kernel_rfl))
  f286 := Tryz.func184.trans (congrArg some (by kernel_rfl))
  f317 := Tryz.func187.trans (congrArg some (by kernel_rfl))
  f318 := Tryz.func188.trans (congrArg some (by kernel_rfl))
  f319 := Tryz.func189.trans (congrArg some (by kernel_rfl))
  f320 := Tryz.func190.trans (congrArg some (by kernel_rfl))
  f337 := Tryz.func191.trans (congrArg some (by kernel_rfl))
  f338 := Tryz.func192.trans (congrArg some (by kernel_rfl))
  t0 := Tryz.underlying0
  a0 := Tryz.isAgg0
  z0 := Tryz.sizeOf0
  v0 := Tryz.zeroValue0
  t2 := Tryz.underlying2
  a2 := Tryz.isAgg2
  z2 := Tryz.sizeOf2
  v2 := Tryz.zeroValue2
  t3 := Tryz.underlying3
  a3 := Tryz.isAgg3
  z3 := Tryz.sizeOf3
  v3 := Tryz.zeroValue3
  t4 := Tryz.underlying4
  a4 := Tryz.isAgg4
  z4 := Tryz.sizeOf4
  v4 := Tryz.zeroValue4
  t5 := Tryz.underlying5
  a5 := Tryz.isAgg5
  z5 := Tryz.sizeOf5
  v5 := Tryz.zeroValue5
  t9 := Tryz.underlying9
  a9 := Tryz.isAgg9
  z9 := Tryz.sizeOf9
  v9 := Tryz.zeroValue9
  t20 := Tryz.underlying20
  a20 := Tryz.isAgg20
  z20 := Tryz.sizeOf20
  v20 := Tryz.zeroValue20
  t37 := Tryz.underlying22
  a37 := Tryz.isAgg22
  z37 := Tryz.sizeOf22
  v37 := Tryz.zeroValue22
  t46 := Tryz.underlying132
  a46 := Tryz.isAgg132
  z46 := Tryz.sizeOf132
  v46 := Tryz.zeroValue132
  t51 := Tryz.underlying163
  a51 := Tryz.isAgg163
  z51 := Tryz.sizeOf163
  v51 := Tryz.zeroValue163
  t53 := Tryz.underlying165
  a53 := Tryz.isAgg165
  z53 := Tryz.sizeOf165
  v53 := Tryz.zeroValue165
  t171 := Tryz.underlying196
  a171 := Tryz.isAgg196
  z171 := Tryz.sizeOf196
  v171 := Tryz.zeroValue196
  t173 := Tryz.underlying198
  a173 := Tryz.isAgg198
  z173 := Tryz.sizeOf198
  v173 := Tryz.zeroValue198
  t212 := Tryz.underlying202
  a212 := Tryz.isAgg202
  z212 := Tryz.sizeOf202
  v212 := Tryz.zeroValue202
  t213 := Tryz.underlying203
  a213 := Tryz.isAgg203
  z213 := Tryz.sizeOf203
  t232 := Tryz.underlying204
  a232 := Tryz.isAgg204
  z232 := Tryz.sizeOf204
  v232 := Tryz.zeroValue204
  t233 := Tryz.underlying205
  a233 := Tryz.isAgg205
  z233 := Tryz.sizeOf205
  v233 := Tryz.zeroValue205
  g17 := by kernel_rfl
  g18 := by kernel_rfl
  g19 := by kernel_rfl
  i0 := by kernel_rfl
  i2 := by kernel_rfl
  i3 := by kernel_rfl
  i4 := by kernel_rfl
  i5 := by kernel_rfl
  i9 := by kernel_rfl
  i20 := by kernel_rfl
  i37 := by kernel_rfl
  i46 := by kernel_rfl
  i51 := by kernel_rfl
  i53 := by kernel_rfl
  i171 := by kernel_rfl
  i173 := by kernel_rfl
  i212 := by kernel_rfl
  i232 := by kernel_rfl
  i233 := by kernel_rfl
  m17 := by kernel_rfl
  m18 := by kernel_rfl
  m19 := by kernel_rfl }
open Go.RowKit Go.Sort Go.Lib in
theorem Tryz.internal_strconv_FormatInt_10 (n : Int) (h0 : -9223372036854775808 ≤ n) (h1 : n ≤ 9223372036854775807) (w : World) (htab : Lib.TabIs Tryz.prog w "internal/strconv.uint64pow10" .u64 Lib.pow10Tab) :
    Calls Tryz.prog 174 #[.int .i64 n, .int .i64 10] w fun e w' => e = .returned (.string ⟨(Lib.itoa n).toArray⟩) ∧ ∃ k os, w' = grow (w.drewN k) os := Any.internal_strconv_FormatInt_10 Tryz.laysM246 n h0 h1 w htab
def Tryz.lays246_ren : Go.Shelf.Ren := ⟨fun | 246 => 174 | 283 => 181 | 284 => 182 | 285 => 183 | 286 => 184 | 129 => 145 | 317 => 187 | 318 => 188 | 319 => 189 | 320 => 190 | 337 => 191 | 338 => 192 | n => n, fun | 2 => 2 | 3 => 3 | 9 => 9 | 4 => 4 | 171 => 196 | 0 => 0 | 53 => 165 | 37 => 22 | 5 => 5 | 173 => 198 | 212 => 202 | 51 => 163 | 20 => 20 | 213 => 203 | 46 => 132 | 232 => 204 | 233 => 205 | n => n, fun | 17 => 1 | 18 => 2 | 19 => 3 | n => n⟩
theorem Tryz.lays246 : Go.Proofs.Lays.n246 Tryz.prog Tryz.lays246_ren := {
  mixed := by kernel_rfl
  f129 := Tryz.func145.trans (congrArg some (by kernel_rfl))
  f246 := Tryz.func174.trans (congrArg some (by kernel_rfl))
  f283 := Tryz.func181.trans (congrArg some (by kernel_rfl))
  f284 := Tryz.func182.trans (congrArg some (by kernel_rfl))
  f285 := Tryz.func183.trans (congrArg some (by kernel_rfl))
  f286 := Tryz.func184.trans (congrArg some (by kernel_rfl))
  f317 := Tryz.func187.trans (congrArg some (by kernel_rfl))
  f318 := Tryz.func188.trans (congrArg some (by kernel_rfl))
  f319 := Tryz.func189.trans (congrArg some (by kernel_rfl))
  f320 := Tryz.func190.trans (congrArg some (by kernel_rfl))
  f337 := Tryz.func191.trans (congrArg some (by kernel_rfl))
  f338 := Tryz.func192.trans (congrArg some (by kernel_rfl))
  t0 := Tryz.underlying0
  a0 := Tryz.isAgg0
  z0 := Tryz.sizeOf0
  v0 := Tryz.zeroValue0
  t2 := Tryz.underlying2
  a2 := Tryz.isAgg2
  z2 := Tryz.sizeOf2
  v2 := Tryz.zeroValue2
  t3 := Tryz.underlying3
  a3 := Tryz.isAgg3
  z3 := Tryz.sizeOf3
  v3 := Tryz.zeroValue3
  t4 := Tryz.underlying4
  a4 := Tryz.isAgg4
  z4 := Tryz.sizeOf4
  v4 := Tryz.zeroValue4
  t5 := Tryz.underlying5
  a5 := Tryz.isAgg5
  z5 := Tryz.sizeOf5
  v5 := Tryz.zeroValue5
  t9 := Tryz.underlying9
  a9 := Tryz.isAgg9
  z9 := Tryz.sizeOf9
  v9 := Tryz.zeroValue9
  t20 := Tryz.underlying20
  a20 := Tryz.isAgg20
  z20 := Tryz.sizeOf20
  v20 := Tryz.zeroValue20
  t37 := Tryz.underlying22
  a37 := Tryz.isAgg22
  z37 := Tryz.sizeOf22
  v37 := Tryz.zeroValue22
  t46 := Tryz.underlying132
  a46 := Tryz.isAgg132
  z46 := Tryz.sizeOf132
  v46 := Tryz.zeroValue132
  t51 := Tryz.underlying163
  a51 := Tryz.isAgg163
  z51 := Tryz.sizeOf163
  v51 := Tryz.zeroValue163
  t53 := Tryz.underlying165
  a53 := Tryz.isAgg165
  z53 := Tryz.sizeOf165
  v53 := Tryz.zeroValue165
  t171 := Tryz.underlying196
  a171 := Tryz.isAgg196
  z171 := Tryz.sizeOf196
  v171 := Tryz.zeroValue196
  t173 := Tryz.underlying198
  a173 := Tryz.isAgg198
  z173 := Tryz.sizeOf198
  v173 := Tryz.zeroValue198
  t212 := Tryz.underlying202
  a212 := Tryz.isAgg202
  z212 := Tryz.sizeOf202
  v212 := Tryz.zeroValue202
  t213 := Tryz.underlying203
  a213 := Tryz.isAgg203
  z213 := Tryz.sizeOf203
  t232 := Tryz.underlying204
  a232 := Tryz.isAgg204
  z232 := Tryz.sizeOf204
  v232 := Tryz.zeroValue204
  t233 := Tryz.underlying205
  a233 := Tryz.isAgg205
  z233 := Tryz.sizeOf205
  v233 := Tryz.zeroValue205
  g17 := by kernel_rfl
  g18 := by kernel_rfl
  g19 := by kernel_rfl }
open Go.RowKit Go.Sort Go.Lib in
theorem Tryz.internal_strconv_FormatInt_10_small (i : Nat) (hi : i < 100) (w : World) :
    Calls Tryz.prog 174 #[.int .i64 i, .int .i64 10] w fun e w' => e = .returned (.string ⟨(Lib.decDigits i).toArray⟩) ∧ w' = w := Any.internal_strconv_FormatInt_10_small Tryz.lays246 i hi w
def Tryz.laysM243_ren : Go.Shelf.Ren := ⟨fun | 243 => 154 | 246 => 174 | 283 => 181 | 284 => 182 | 285 => 183 | 286 => 184 | 129 => 145 | 317 => 187 | 318 => 188 | 319 => 189 | 320 => 190 | 337 => 191 | 338 => 192 | n => n, fun | 3 => 3 | 9 => 9 | 2 => 2 | 4 => 4 | 171 => 196 | 0 => 0 | 53 => 165 | 37 => 22 | 5 => 5 | 173 => 198 | 212 => 202 | 51 => 163 | 20 => 20 | 213 => 203 | 46 => 132 | 232 => 204 | 233 => 205 | n => n, fun | 17 => 1 | 18 => 2 | 19 => 3 | n => n⟩
theorem Tryz.laysM243 : Go.Proofs.LaysM.n243 Tryz.prog Tryz.laysM243_ren := {
  mixed := by kernel_rfl
  f129 := Tryz.func145.trans (congrArg some (by kernel_rfl))
  f243 := Tryz.func154.trans (congrArg some (by kernel_rfl))
  f246 := Tryz.func174.trans (congrArg some (by kernel_rfl))
  f283 := Tryz.func181.trans (congrArg some (by kernel_rfl))
  f284 := Tryz.func182.trans (congrArg some (by kernel_rfl))
  f285 := Tryz.func183.trans (congrArg some (by kernel_rfl))
  f286 := Tryz.func184.trans (congrArg some (by kernel_rfl))
  f317 := Tryz.func187.trans (congrArg some (by kernel_rfl))
  f318 := Tryz.func188.trans (congrArg some (by kernel_rfl))
  f319 := Tryz.func189.trans (congrArg some (by kernel_rfl))
  f320 := Tryz.func190.trans (congrArg some (by kernel_rfl))
  f337 := Tryz.func191.trans (congrArg some (by kernel_rfl))
  f338 := Tryz.func192.trans (congrArg some (by kernel_rfl))
  t0 := Tryz.underlying0
  a0 := Tryz.isAgg0
  z0 := Tryz.sizeOf0
  v0 := Tryz.zeroValue0
  t2 := Tryz.underlying2
  a2 := Tryz.isAgg2
  z2 := Tryz.sizeOf2
  v2 := Tryz.zeroValue2
  t3 := Tryz.underlying3
  a3 := Tryz.isAgg3
  z3 := Tryz.sizeOf3
  v3 := Tryz.zeroValue3
  t4 := Tryz.underlying4
  a4 := Tryz.isAgg4
  z4 := Tryz.sizeOf4
  v4 := Tryz.zeroValue4
  t5 := Tryz.underlying5
  a5 := Tryz.isAgg5
  z5 := Tryz.sizeOf5
  v5 := Tryz.zeroValue5
  t9 := Tryz.underlying9
  a9 := Tryz.isAgg9
  z9 := Tryz.sizeOf9
  v9 := Tryz.zeroValue9
  t20 := Tryz.underlying20
  a20 := Tryz.isAgg20
  z20 := Tryz.sizeOf20
  v20 := Tryz.zeroValue20
  t37 := Tryz.underlying22
  a37 := Tryz.isAgg22
  z37 := Tryz.sizeOf22
  v37 := Tryz.zeroValue22
  t46 := Tryz.underlying132
  a46 := Tryz.isAgg132
  z46 := Tryz.sizeOf132
  v46 := Tryz.zeroValue132
  t51 := Tryz.underlying163
  a51 := Tryz.isAgg163
  z51 := Tryz.sizeOf163
  v51 := Tryz.zeroValue163
  t53 := Tryz.underlying165
  a53 := Tryz.isAgg165
  z53 := Tryz.sizeOf165
  v53 := Tryz.zeroValue165
  t171 := Tryz.underlying196
  a171 := Tryz.isAgg196
  z171 := Tryz.sizeOf196
  v171 := Tryz.zeroValue196
  t173 := Tryz.underlying198
  a173 := Tryz.isAgg198
  z173 := Tryz.sizeOf198
  v173 := Tryz.zeroValue198
  t212 := Tryz.underlying202
  a212 := Tryz.isAgg202
  z212 := Tryz.sizeOf202
  v212 := Tryz.zeroValue202
  t213 := Tryz.underlying203
  a213 := Tryz.isAgg203
  z213 := Tryz.sizeOf203
  t232 := Tryz.underlying204
  a232 := Tryz.isAgg204
  z232 := Tryz.sizeOf204
  v232 := Tryz.zeroValue204
  t233 := Tryz.underlying205
  a233 := Tryz.isAgg205
  z233 := Tryz.sizeOf205
  v233 := Tryz.zeroValue205
  g17 := by kernel_rfl
  g18 := by kernel_rfl
  g19 := by kernel_rfl
  i0 := by kernel_rfl
  i2 := by kernel_rfl
  i3 := by kernel_rfl
  i4 := by kernel_rfl
  i5 := by kernel_rfl
  i9 := by kernel_rfl
  i20 := by kernel_rfl
  i37 := by kernel_rfl
  i46 := by kernel_rfl
  i51 := by kernel_rfl
  i53 := by kernel_rfl
  i171 := by kernel_rfl
  i173 := by kernel_rfl
  i212 := by kernel_rfl
  i232 := by kernel_rfl
  i233 := by kernel_rfl
  m17 := by kernel_rfl
  m18 := by kernel_rfl
  m19 := by kernel_rfl }
open Go.RowKit Go.Sort Go.Lib in
theorem Tryz.internal_strconv_Itoa (n : Int) (h0 : -9223372036854775808 ≤ n) (h1 : n ≤ 9223372036854775807) (w : World) (htab : Lib.TabIs Tryz.prog w "internal/strconv.uint64pow10" .u64 Lib.pow10Tab) :
    Calls Tryz.prog 154 #[.int .i64 n] w fun e w' => e = .returned (.string ⟨(Lib.itoa n).toArray⟩) ∧ ∃ k os, w' = grow (w.drewN k) os := Any.internal_strconv_Itoa Tryz.laysM243 n h0 h1 w htab
def Tryz.lays243_ren : Go.Shelf.Ren := ⟨fun | 243 => 154 | 246 => 174 | 283 => 181 | 284 => 182 | 285 => 183 | 286 => 184 | 129 => 145 | 317 => 187 | 318 => 188 | 319 => 189 | 320 => 190 | 337 => 191 | 338 => 192 | n => n, fun | 3 => 3 | 9 => 9 | 2 => 2 | 4 => 4 | 171 => 196 | 0 => 0 | 53 => 165 | 37 => 22 | 5 => 5 | 173 => 198 | 212 => 202 | 51 => 163 | 20 => 20 | 213 => 203 | 46 => 132 | 232 => 204 | 233 => 205 | n => n, fun | 17 => 1 | 18 => 2 | 19 => 3 | n => n⟩
theorem Tryz.lays243 : Go.Proofs.Lays.n243 Tryz.prog Tryz.lays243_ren := {
  mixed := by kernel_rfl
  f129 := Tryz.func145.trans (congrArg some (by kernel_rfl))
  f243 := Tryz.func154.trans (congrArg some (by kernel_rfl))
  f246 := Tryz.func174.trans (congrArg some (by kernel_rfl))
  f283 := Tryz.func181.trans (congrArg some (by kernel_rfl))
  f284 := Tryz.func182.trans (congrArg some (by kernel_rfl))
  f285 := Tryz.func183.trans (congrArg some (by kernel_rfl))
  f286 := Tryz.func184.trans (congrArg some (by kernel_rfl))
  f317 := Tryz.func187.trans (congrArg some (by kernel_rfl))
  f318 := Tryz.func188.trans (congrArg some (by kernel_rfl))
  f319 := Tryz.func189.trans (congrArg some (by kernel_rfl))
  f320 := Tryz.func190.trans (congrArg some (by kernel_rfl))
  f337 := Tryz.func191.trans (congrArg some (by kernel_rfl))
  f338 := Tryz.func192.trans (congrArg some (by kernel_rfl))
  t0 := Tryz.underlying0
  a0 := Tryz.isAgg0
  z0 := Tryz.sizeOf0
  v0 := Tryz.zeroValue0
  t2 := Tryz.underlying2
  a2 := Tryz.isAgg2
  z2 := Tryz.sizeOf2
  v2 := Tryz.zeroValue2
  t3 := Tryz.underlying3
  a3 := Tryz.isAgg3
  z3 := Tryz.sizeOf3
  v3 := Tryz.zeroValue3
  t4 := Tryz.underlying4
  a4 := Tryz.isAgg4
  z4 := Tryz.sizeOf4
  v4 := Tryz.zeroValue4
  t5 := Tryz.underlying5
  a5 := Tryz.isAgg5
  z5 := Tryz.sizeOf5
  v5 := Tryz.zeroValue5
  t9 := Tryz.underlying9
  a9 := Tryz.isAgg9
  z9 := Tryz.sizeOf9
  v9 := Tryz.zeroValue9
  t20 := Tryz.underlying20
  a20 := Tryz.isAgg20
  z20 := Tryz.sizeOf20
  v20 := Tryz.zeroValue20
  t37 := Tryz.underlying22
  a37 := Tryz.isAgg22
  z37 := Tryz.sizeOf22
  v37 := Tryz.zeroValue22
  t46 := Tryz.underlying132
  a46 := Tryz.isAgg132
  z46 := Tryz.sizeOf132
  v46 := Tryz.zeroValue132
  t51 := Tryz.underlying163
  a51 := Tryz.isAgg163
  z51 := Tryz.sizeOf163
  v51 := Tryz.zeroValue163
  t53 := Tryz.underlying165
  a53 := Tryz.isAgg165
  z53 := Tryz.sizeOf165
  v53 := Tryz.zeroValue165
  t171 := Tryz.underlying196
  a171 := Tryz.isAgg196
  z171 := Tryz.sizeOf196
  v171 := Tryz.zeroValue196
  t173 := Tryz.underlying198
  a173 := Tryz.isAgg198
  z173 := Tryz.sizeOf198
  v173 := Tryz.zeroValue198
  t212 := Tryz.underlying202
  a212 := Tryz.isAgg202
  z212 := Tryz.sizeOf202
  v212 := Tryz.zeroValue202
  t213 := Tryz.underlying203
  a213 := Tryz.isAgg203
  z213 := Tryz.sizeOf203
  t232 := Tryz.underlying204
  a232 := Tryz.isAgg204
  z232 := Tryz.sizeOf204
  v232 := Tryz.zeroValue204
  t233 := Tryz.underlying205
  a233 := Tryz.isAgg205
  z233 := Tryz.sizeOf205
  v233 := Tryz.zeroValue205
  g17 := by kernel_rfl
  g18 := by kernel_rfl
  g19 := by kernel_rfl }
open Go.RowKit Go.Sort Go.Lib in
theorem Tryz.internal_strconv_Itoa_small (i : Nat) (hi : i < 100) (w : World) :
    Calls Tryz.prog 154 #[.int .i64 i] w fun e w' => e = .returned (.string ⟨(Lib.decDigits i).toArray⟩) ∧ w' = w := Any.internal_strconv_Itoa_small Tryz.lays243 i hi w
def Tryz.laysM171_ren : Go.Shelf.Ren := ⟨fun | 171 => 126 | 243 => 154 | 246 => 174 | 283 => 181 | 284 => 182 | 285 => 183 | 286 => 184 | 129 => 145 | 317 => 187 | 318 => 188 | 319 => 189 | 320 => 190 | 337 => 191 | 338 => 192 | n => n, fun | 3 => 3 | 9 => 9 | 2 => 2 | 4 => 4 | 171 => 196 | 0 => 0 | 53 => 165 | 37 => 22 | 5 => 5 | 173 => 198 | 212 => 202 | 51 => 163 | 20 => 20 | 213 => 203 | 46 => 132 | 232 => 204 | 233 => 205 | n => n, fun | 17 => 1 | 18 => 2 | 19 => 3 | n => n⟩
theorem Tryz.laysM171 : Go.Proofs.LaysM.n171 Tryz.prog Tryz.laysM171_ren := {
  mixed := by kernel_rfl
  f129 := Tryz.func145.trans (congrArg some (by kernel_rfl))
  f171 := Tryz.func126.trans (congrArg some (by kernel_rfl))
  f243 := Tryz.func154.trans (congrArg some (by kernel_rfl))
  f246 := Tryz.func174.trans (congrArg some (by kernel_rfl))
  f283 := Tryz.func181.trans (congrArg some (by kernel_rfl))
  f284 := Tryz.func182.trans (congrArg some (by kernel_rfl))
  f285 := Tryz.func183.trans (congrArg some (by kernel_rfl))
  f286 := Tryz.func184.trans (congrArg some (by kernel_rfl))
  f317 := Tryz.func187.trans (congrArg some (by kernel_rfl))
  f318 := Tryz.func188.trans (congrArg some (by kernel_rfl))
  f319 := Tryz.func189.trans (congrArg some (by kernel_rfl))
  f320 := Tryz.func190.trans (congrArg some (by kernel_rfl))
  f337 := Tryz.func191.trans (congrArg some (by kernel_rfl))
  f338 := Tryz.func192.trans (congrArg some (by kernel_rfl))
  t0 := Tryz.underlying0
  a0 := Tryz.isAgg0
  z0 := Tryz.sizeOf0
  v0 := Tryz.zeroValue0
  t2 := Tryz.underlying2
  a2 := Tryz.isAgg2
  z2 := Tryz.sizeOf2
  v2 := Tryz.zeroValue2
  t3 := Tryz.underlying3
  a3 := Tryz.isAgg3
  z3 := Tryz.sizeOf3
  v3 := Tryz.zeroValue3
  t4 := Tryz.underlying4
  a4 := Tryz.isAgg4
  z4 := Tryz.sizeOf4
  v4 := Tryz.zeroValue4
  t5 := Tryz.underlying5
  a5 := Tryz.isAgg5
  z5 := Tryz.sizeOf5
  v5 := Tryz.zeroValue5
  t9 := Tryz.underlying9
  a9 := Tryz.isAgg9
  z9 := Tryz.sizeOf9
  v9 := Tryz.zeroValue9
  t20 := Tryz.underlying20
  a20 := Tryz.isAgg20
  z20 := Tryz.sizeOf20
  v20 := Tryz.zeroValue20
  t37 := Tryz.underlying22
  a37 := Tryz.isAgg22
  z37 := Tryz.sizeOf22
  v37 := Tryz.zeroValue22
  t46 := Tryz.underlying132
  a46 := Tryz.isAgg132
  z46 := Tryz.sizeOf132
  v46 := Tryz.zeroValue132
  t51 := Tryz.underlying163
  a51 := Tryz.isAgg163
  z51 := Tryz.sizeOf163
  v51 := Tryz.zeroValue163
  t53 := Tryz.underlying165
  a53 := Tryz.isAgg165
  z53 := Tryz.sizeOf165
  v53 := Tryz.zeroValue165
  t171 := Tryz.underlying196
  a171 := Tryz.isAgg196
  z171 := Tryz.sizeOf196
  v171 := Tryz.zeroValue196
  t173 := Tryz.underlying198
  a173 := Tryz.isAgg198
  z173 := Tryz.sizeOf198
  v173 := Tryz.zeroValue198
  t212 := Tryz.underlying202
  a212 := Tryz.isAgg202
  z212 := Tryz.sizeOf202
  v212 := Tryz.zeroValue202
  t213 := Tryz.underlying203
  a213 := Tryz.isAgg203
  z213 := Tryz.sizeOf203
  t232 := Tryz.underlying204
  a232 := Tryz.isAgg204
  z232 := Tryz.sizeOf204
  v232 := Tryz.zeroValue204
  t233 := Tryz.underlying205
  a233 := Tryz.isAgg205
  z233 := Tryz.sizeOf205
  v233 := Tryz.zeroValue205
  g17 := by kernel_rfl
  g18 := by kernel_rfl
  g19 := by kernel_rfl
  i0 := by kernel_rfl
  i2 := by kernel_rfl
  i3 := by kernel_rfl
  i4 := by kernel_rfl
  i5 := by kernel_rfl
  i9 := by kernel_rfl
  i20 := by kernel_rfl
  i37 := by kernel_rfl
  i46 := by kernel_rfl
  i51 := by kernel_rfl
  i53 := by kernel_rfl
  i171 := by kernel_rfl
  i173 := by kernel_rfl
  i212 := by kernel_rfl
  i232 := by kernel_rfl
  i233 := by kernel_rfl
  m17 := by kernel_rfl
  m18 := by kernel_rfl
  m19 := by kernel_rfl }
open Go.RowKit Go.Sort Go.Lib in
theorem Tryz.strconv_Itoa (n : Int) (h0 : -9223372036854775808 ≤ n) (h1 : n ≤ 9223372036854775807) (w : World) (htab : Lib.TabIs Tryz.prog w "internal/strconv.uint64pow10" .u64 Lib.pow10Tab) :
    Calls Tryz.prog 126 #[.int .i64 n] w fun e w' => e = .returned (.string ⟨(Lib.itoa n).toArray⟩) ∧ ∃ k os, w' = grow (w.drewN k) os := Any.strconv_Itoa Tryz.laysM171 n h0 h1 w htab
def Tryz.lays171_ren : Go.Shelf.Ren := ⟨fun | 171 => 126 | 243 => 154 | 246 => 174 | 283 => 181 | 284 => 182 | 285 => 183 | 286 => 184 | 129 => 145 | 317 => 187 | 318 => 188 | 319 => 189 | 320 => 190 | 337 => 191 | 338 => 192 | n => n, fun | 3 => 3 | 9 => 9 | 2 => 2 | 4 => 4 | 171 => 196 | 0 => 0 | 53 => 165 | 37 => 22 | 5 => 5 | 173 => 198 | 212 => 202 | 51 => 163 | 20 => 20 | 213 => 203 | 46 => 132 | 232 => 204 | 233 => 205 | n => n, fun | 17 => 1 | 18 => 2 | 19 => 3 | n => n⟩
theorem Tryz.lays171 : Go.Proofs.Lays.n171 Tryz.prog Tryz.lays171_ren := {
  mixed := by kernel_rfl
  f129 := Tryz.func145.trans (congrArg some (by kernel_rfl))
  f171 := Tryz.func126.trans (congrArg some (by kernel_rfl))
  f243 := Tryz.func154.trans (congrArg some (by kernel_rfl))
  f246 := Tryz.func174.trans (congrArg some (by kernel_rfl))
  f283 := Tryz.func181.trans (congrArg some (by kernel_rfl))
  f284 := Tryz.func182.trans (congrArg some (by kernel_rfl))
  f285 := Tryz.func183.trans (congrArg some (by kernel_rfl))
  f286 := Tryz.func184.trans (congrArg some (by kernel_rfl))
  f317 := Tryz.func187.trans (congrArg some (by kernel_rfl))
  f318 := Tryz.func188.trans (congrArg some (by kernel_rfl))
  f319 := Tryz.func189.trans (congrArg some (by kernel_rfl))
  f320 := Tryz.func190.trans (congrArg some (by kernel_rfl))
  f337 := Tryz.func191.trans (congrArg some (by kernel_rfl))
  f338 := Tryz.func192.trans (congrArg some (by kernel_rfl))
  t0 := Tryz.underlying0
  a0 := Tryz.isAgg0
  z0 := Tryz.sizeOf0
  v0 := Tryz.zeroValue0
  t2 := Tryz.underlying2
  a2 := Tryz.isAgg2
  z2 := Tryz.sizeOf2
  v2 := Tryz.zeroValue2
  t3 := Tryz.underlying3
  a3 := Tryz.isAgg3
  z3 := Tryz.sizeOf3
  v3 := Tryz.zeroValue3
  t4 := Tryz.underlying4
  a4 := Tryz.isAgg4
  z4 := Tryz.sizeOf4
  v4 := Tryz.zeroValue4
  t5 := Tryz.underlying5
  a5 := Tryz.isAgg5
  z5 := Tryz.sizeOf5
  v5 := Tryz.zeroValue5
  t9 := Tryz.underlying9
  a9 := Tryz.isAgg9
  z9 := Tryz.sizeOf9
  v9 := Tryz.zeroValue9
  t20 := Tryz.underlying20
  a20 := Tryz.isAgg20
  z20 := Tryz.sizeOf20
  v20 := Tryz.zeroValue20
  t37 := Tryz.underlying22
  a37 := Tryz.isAgg22
  z37 := Tryz.sizeOf22
  v37 := Tryz.zeroValue22
  t46 := Tryz.underlying132
  a46 := Tryz.isAgg132
  z46 := Tryz.sizeOf132
  v46 := Tryz.zeroValue132
  t51 := Tryz.underlying163
  a51 := Tryz.isAgg163
  z51 := Tryz.sizeOf163
  v51 := Tryz.zeroValue163
  t53 := Tryz.underlying165
  a53 := Tryz.isAgg165
  z53 := Tryz.sizeOf165
  v53 := Tryz.zeroValue165
  t171 := Tryz.underlying196
  a171 := Tryz.isAgg196
  z171 := Tryz.sizeOf196
  v171 := Tryz.zeroValue196
  t173 := Tryz.underlying198
  a173 := Tryz.isAgg198
  z173 := Tryz.sizeOf198
  v173 := Tryz.zeroValue198
  t212 := Tryz.underlying202
  a212 := Tryz.isAgg202
  z212 := Tryz.sizeOf202
  v212 := Tryz.zeroValue202
  t213 := Tryz.underlying203
  a213 := Tryz.isAgg203
  z213 := Tryz.sizeOf203
  t232 := Tryz.underlying204
  a232 := Tryz.isAgg204
  z232 := Tryz.sizeOf204
  v232 := Tryz.zeroValue204
  t233 := Tryz.underlying205
  a233 := Tryz.isAgg205
  z233 := Tryz.sizeOf205
  v233 := Tryz.zeroValue205
  g17 := by kernel_rfl
  g18 := by kernel_rfl
  g19 := by kernel_rfl }
open Go.RowKit Go.Sort Go.Lib in
theorem Tryz.strconv_Itoa_small (i : Nat) (hi : i < 100) (w : World) :
    Calls Tryz.prog 126 #[.int .i64 i] w fun e w' => e = .returned (.string ⟨(Lib.decDigits i).toArray⟩) ∧ w' = w := Any.strconv_Itoa_small Tryz.lays171 i hi w
def Tryz.lays190_ren : Go.Shelf.Ren := ⟨fun | 190 => 55 | 125 => 110 | 258 => 109 | 128 => 144 | 129 => 145 | 302 => 135 | 303 => 136 | 304 => 137 | 305 => 138 | 306 => 139 | 307 => 140 | 308 => 141 | 309 => 142 | 310 => 143 | 333 => 166 | 329 => 167 | 330 => 168 | 334 => 169 | 335 => 170 | 336 => 130 | 344 => 178 | n => n, fun | 31 => 50 | 9 => 9 | 3 => 3 | 46 => 132 | 0 => 0 | 51 => 163 | 53 => 165 | 4 => 4 | 183 => 155 | 182 => 154 | 131 => 160 | 5 => 5 | 218 => 183 | 222 => 187 | 228 => 192 | 229 => 193 | n => n, fun | n => n⟩
theorem Tryz.lays190 : Go.Proofs.Lays.n190 Tryz.prog Tryz.lays190_ren := {
  mixed := by kernel_rfl
  f125 := Tryz.func110.trans (congrArg some (by kernel_rfl))
  f128 := Tryz.func144.trans (congrArg some (by kernel_rfl))
  f129 := Tryz.func145.trans (congrArg some (by kernel_rfl))
  f190 := Tryz.func55.trans (congrArg some (by kernel_rfl))
  f258 := Tryz.func109.trans (congrArg some (by kernel_rfl))
  f302 := Tryz.func135.trans (congrArg some (by kernel_rfl))
  f303 := Tryz.func136.trans (congrArg some (by kernel_rfl))
  f304 := Tryz.func137.trans (congrArg some (by kernel_rfl))
  f305 := Tryz.func138.trans (congrArg some (by kernel_rfl))
  f306 := Tryz.func139.trans (congrArg some (by kernel_rfl))
  f307 := Tryz.func140.trans (congrArg some (by kernel_rfl))
  f308 := Tryz.func141.trans (congrArg some (by kernel_rfl))
  f309 := Tryz.func142.trans (congrArg some (by kernel_rfl))
  f310 := Tryz.func143.trans (congrArg some (by kernel_rfl))
  f329 := Tryz.func167.trans (congrArg some (by kernel_rfl))
  f330 := Tryz.func168.trans (congrArg some (by kernel_rfl))
  f333 := Tryz.func166.trans (congrArg some (by kernel_rfl))
  f334 := Tryz.func169.trans (congrArg some (by kernel_rfl))
  f335 := Tryz.func170.trans (congrArg some (by kernel_rfl))
  f336 := Tryz.func130.trans (congrArg some (by kernel_rfl))
  f344 := Tryz.func178.trans (congrArg some (by kernel_rfl))
  t0 := Tryz.underlying0
  a0 := Tryz.isAgg0
  z0 := Tryz.sizeOf0
  v0 := Tryz.zeroValue0
  t3 := Tryz.underlying3
  a3 := Tryz.isAgg3
  z3 := Tryz.sizeOf3
  v3 := Tryz.zeroValue3
  t4 := Tryz.underlying4
  a4 := Tryz.isAgg4
  z4 := Tryz.sizeOf4
  v4 := Tryz.zeroValue4
  t5 := Tryz.underlying5
  a5 := Tryz.isAgg5
  z5 := Tryz.sizeOf5
  v5 := Tryz.zeroValue5
  t9 := Tryz.underlying9
  a9 := Tryz.isAgg9
  z9 := Tryz.sizeOf9
  v9 := Tryz.zeroValue9
  t31 := Tryz.underlying50
  a31 := Tryz.isAgg50
  z31 := Tryz.sizeOf50
  v31 := Tryz.zeroValue50
  t46 := Tryz.underlying132
  a46 := Tryz.isAgg132
  z46 := Tryz.sizeOf132
  v46 := Tryz.zeroValue132
  t51 := Tryz.underlying163
  a51 := Tryz.isAgg163
  z51 := Tryz.sizeOf163
  v51 := Tryz.zeroValue163
  t53 := Tryz.underlying165
  a53 := Tryz.isAgg165
  z53 := Tryz.sizeOf165
  v53 := Tryz.zeroValue165
  t131 := Tryz.underlying160
  a131 := Tryz.isAgg160
  z131 := Tryz.sizeOf160
  v131 := Tryz.zeroValue160
  t182 := Tryz.underlying154
  a182 := Tryz.isAgg154
  z182 := Tryz.sizeOf154
  v182 := Tryz.zeroValue154
  t183 := Tryz.underlying155
  a183 := Tryz.isAgg155
  z183 := Tryz.sizeOf155
  v183 := Tryz.zeroValue155
  t218 := Tryz.underlying183
  a218 := Tryz.isAgg183
  z218 := Tryz.sizeOf183
  v218 := Tryz.zeroValue183
  t222 := Tryz.underlying187
  a222 := Tryz.isAgg187
  z222 := Tryz.sizeOf187
  v222 := Tryz.zeroValue187
  t228 := Tryz.underlying192
  a228 := Tryz.isAgg192
  z228 := Tryz.sizeOf192
  v228 := Tryz.zeroValue192
  t229 := Tryz.underlying193
  a229 := Tryz.isAgg193
  z229 := Tryz.sizeOf193
  v229 := Tryz.zeroValue193 }
open Go.Sort Go.RowKit in
theorem Tryz.slices_Sort_string (blk off cap : Nat) (ss : List (List UInt8)) (w : World) (hH : Holds encStr w blk off ss.toArray) (hblk : blk < w.heap.size) (hsz : ss.length < 4611686018427387904) :
    Calls Tryz.prog 55 #[.slice (some ⟨blk, off, none⟩) ss.length cap] w fun e w' =>
      e = .returned (.tuple #[]) ∧ ∃ n os, w' = grow (putRow encStr (Sort.ahead w n) blk off (ss.mergeSort fun x y => decide (x ≤ y)).toArray) os := Any.slices_Sort_string Tryz.lays190 blk off cap ss w hH hblk hsz
def Tryz.lays194_ren : Go.Shelf.Ren := ⟨fun | 194 => 56 | n => n, fun | 31 => 50 | 9 => 9 | 3 => 3 | 4 => 4 | 0 => 0 | n => n, fun | n => n⟩
theorem Tryz.lays194 : Go.Proofs.Lays.n194 Tryz.prog Tryz.lays194_ren := {
  mixed := by kernel_rfl
  f194 := Tryz.func56.trans (congrArg some (by kernel_rfl))
  t0 := Tryz.underlying0
  a0 := Tryz.isAgg0
  z0 := Tryz.sizeOf0
  v0 := Tryz.zeroValue0
  t3 := Tryz.underlying3
  a3 := Tryz.isAgg3
  z3 := Tryz.sizeOf3
  v3 := Tryz.zeroValue3
  t4 := Tryz.underlying4
  a4 := Tryz.isAgg4
  z4 := Tryz.sizeOf4
  v4 := Tryz.zeroValue4
  t9 := Tryz.underlying9
  a9 := Tryz.isAgg9
  z9 := Tryz.sizeOf9
  v9 := Tryz.zeroValue9
  t31 := Tryz.underlying50
  a31 := Tryz.isAgg50
  z31 := Tryz.sizeOf50
  v31 := Tryz.zeroValue50 }
open Go.RowKit Go.Lib Go.Sort in
theorem Tryz.slices_Compact_string_arr (blk off cap : Nat) (d : Array (List UInt8)) (w : World) (hH : Holds encStr w blk off d) (hsz : d.size ≤ 9223372036854775807) (hcap : d.size ≤ cap) :
    Calls Tryz.prog 56 #[.slice (some ⟨blk, off, none⟩) d.size cap] w fun e w' => e = .returned (.slice (some ⟨blk, off, none⟩) (compactUpTo d d.size).length cap) ∧ ∃ q, w' = putRow encStr (Sort.ahead w q) blk off (compactUpTo d d.size ++ List.replicate (d.size - (compactUpTo d d.size).length) []).toArray := Any.slices_Compact_string_arr Tryz.lays194 blk off cap d w hH hsz hcap
open Go.RowKit Go.Lib Go.Sort in
theorem Tryz.slices_Compact_string (blk off cap : Nat) (zs : List (List UInt8)) (w : World) (hH : Holds encStr w blk off zs.toArray) (hsz : zs.length ≤ 9223372036854775807) (hcap : zs.length ≤ cap) :
    Calls Tryz.prog 56 #[.slice (some ⟨blk, off, none⟩) zs.length cap] w fun e w' => e = .returned (.slice (some ⟨blk, off, none⟩) (Lib.compact zs).length cap) ∧ ∃ q, w' = putRow encStr (Sort.ahead w q) blk off (Lib.compact zs ++ List.replicate (zs.length - (Lib.compact zs).length) []).toArray := Any.slices_Compact_string Tryz.lays194 blk off cap zs w hH hsz hcap
open Go.RowKit Go.Lib Go.Sort in
theorem Tryz.slices_Compact_string_empty (a : Option Addr) (cap : Nat) (w : World) :
    Calls Tryz.prog 56 #[.slice a 0 cap] w fun e w' => e = .returned (.slice a 0 cap) ∧ w' = w := Any.slices_Compact_string_empty Tryz.lays194 a cap w
open Go.RowKit Go.Lib Go.Sort in
theorem Tryz.slices_Compact_string_cells (b off n c : Nat) (Sx : Nat → ByteArray) (w : World) (hbig : n ≤ 9223372036854775807) (hcap : n ≤ c) (hc : ∀ i, i < n → w.cell? ⟨b, off + i, none⟩ = some (.string (Sx i))) (hf : ∀ j, j < n → w.frozen? ⟨b, off + j, none⟩ = false) :
    Calls Tryz.prog 56 #[.slice (some ⟨b, off, none⟩) n c] w fun e w' => e = .returned (.slice (some ⟨b, off, none⟩) (Lib.compact (Lib.strsOf Sx n)).length c) ∧ ∃ q, w' = (w.drewN q).setCells b off ((Lib.compact (Lib.strsOf Sx n) ++ List.replicate (n - (Lib.compact (Lib.strsOf Sx n)).length) []).map encStr) := Any.slices_Compact_string_cells Tryz.lays194 b off n c Sx w hbig hcap hc hf
open Go.RowKit Go.Sort in
theorem Tryz.slices_Sort_string_none (p : Option Addr) (cap : Nat) (w : World) :
    Calls Tryz.prog 55 #[.slice p 0 cap] w fun e w' => e = .returned (.tuple #[]) ∧ w' = w := Any.slices_Sort_string_none Tryz.lays190 p cap w
end Go.Proofs
namespace Go.Proofs.YtlaaehjcooonfaaGreatDoor
set_option linter.unusedVariables false
set_option linter.unusedSimpArgs false
set_option linter.unusedSectionVars false
set_option maxHeartbeats 8000000
set_option maxRecDepth 100000
open Go.RowKit
variable {O : Ob} {w0 : World}
section
open Go.RowKit Go.Shelf Go.Sort Go.Lib
theorem strs_arr {w : World} {S : Sp} : ∀ {xs : List Str} {cs : List Value}, Arr Kd.str w S xs cs → cs = xs.map vs ∧ ∀ x ∈ xs, Lim x
 | [], _, h => ⟨h, fun x hx => by cases hx⟩
 | x :: xs, _, ⟨c1, c2, e, h1, h2⟩ => by
  obtain ⟨e2, h3⟩ := strs_arr h2
  refine ⟨by rw [e, h1.1, e2]; rfl, fun y hy => ?_⟩
  rcases List.mem_cons.1 hy with rfl | hy
  ·exact h1.2
  ·exact h3 y hy
theorem arr_strs {w : World} {S : Sp} : ∀ {xs : List Str}, (∀ x ∈ xs, Lim x) → Arr Kd.str w S xs (xs.map vs)
 | [], _ => rfl
 | x :: xs, h => ⟨[vs x], xs.map vs, rfl, ⟨rfl, h x List.mem_cons_self⟩, arr_strs fun y hy => h y (List.mem_cons_of_mem _ hy)⟩
theorem heap_put (w : World) (q g : Nat) (ys : List Str) (os : Array Obj) (b : Nat) (hb : b < w.heap.size) (hne : b ≠ g) : (grow (putRow encStr (Sort.ahead w q) g 0 ys.toArray) os).heap[b]? = w.heap[b]? := by
 have h1 : (w.heap.modify g (onCells (putCells encStr 0 ys.toArray))).size = w.heap.size := Array.size_modify
 simp only [grow, putRow, mapBlock, Sort.ahead]
 rw [Array.getElem?_append_left (by rw [h1]; exact hb), Array.getElem?_modify, if_neg (fun e => hne e.symm)]
theorem Ow.putS {e : TypeId} {w : World} {O : Ob} {g n c : Nat} {xs : List Str} (h : Ow Kd.str e w O (.slice (some ⟨g, 0, none⟩) n c) xs) (ys : List Str) (hl : ys.length = xs.length) (hy : ∀ y ∈ ys, Lim y) (q : Nat) (os : Array Obj) (hx : 0 < xs.length) :
  Gr w (grow (putRow encStr (Sort.ahead w q) g 0 ys.toArray) os) (some g) ∧ Ow Kd.str e (grow (putRow encStr (Sort.ahead w q) g 0 ys.toArray) os) O (.slice (some ⟨g, 0, none⟩) n c) ys := by
 have hgl := h.ltb g rfl
 have h1 : (w.heap.modify g (onCells (putCells encStr 0 ys.toArray))).size = w.heap.size := Array.size_modify
 refine ⟨⟨rfl, rfl, rfl, ?_, fun b hb hn => heap_put w q g ys os b hb fun e => hn (by rw [e])⟩, ?_⟩
 ·simp only [grow, putRow, mapBlock, Sort.ahead, Array.size_append, h1]; omega
 obtain ⟨cells, o1, o2, o3⟩ := h
 rcases o1.2 with ⟨_, e'⟩ | ⟨g', cap, cur, ev, h0, hg, hle, hmx, hcur, htake⟩
 ·omega
 ·cases ev
  have hk : Kd.str.sz = 1 := rfl
  refine ⟨ys.map vs, ⟨by rw [List.length_map, hk, Nat.mul_one], .inr ⟨g, c, putCells encStr 0 ys.toArray cur, by rw [hl], h0, ?_, by rw [hl]; exact hle, hmx, ?_, ?_⟩⟩, arr_strs hy, o3⟩
  ·simp only [grow, putRow, mapBlock, Sort.ahead]
   rw [Array.getElem?_append_left (by rw [h1]; exact hgl), Array.getElem?_modify, if_pos rfl, hg]; rfl
  ·rw [putCells, Array.size_mapIdx]; exact hcur
  ·rw [hk, Nat.mul_one]
   have hc1 : xs.length ≤ cur.size := by rw [hcur, hk, Nat.mul_one]; exact hle
   apply List.ext_getElem?
   intro j
   rw [List.getElem?_take, List.getElem?_map]
   by_cases hj : j < ys.length
   ·rw [if_pos hj, putCells, Array.getElem?_toList, Array.getElem?_mapIdx, Array.getElem?_eq_getElem OM, List.getElem?_eq_getElem hj]
    simp only [Option.map_some, Nat.zero_le, true_and, Nat.zero_add, List.size_toArray, hj, if_true, Nat.sub_zero]
    simp [hj]
   ·rw [if_neg hj, List.getElem?_eq_none OM]; rfl
theorem Ow.holds {e : TypeId} {w : World} {O : Ob} {g n c : Nat} {xs : List Str} (h : Ow Kd.str e w O (.slice (some ⟨g, 0, none⟩) n c) xs) : Holds encStr w g 0 xs.toArray := by
 obtain ⟨cells, o1, o2, o3⟩ := h
 obtain ⟨e2, _⟩ := strs_arr o2
 intro j hj
 simp only [List.size_toArray] at hj
 rcases o1.2 with ⟨_, e'⟩ | ⟨g', cap, cur, ev, h0, hg, hle, hmx, hcur, htake⟩
 ·omega
 ·cases ev
  have hc := World.ownsRow.cells o1 (g := g) rfl j (vs xs[j]) (by rw [e2]; simp [hj])
  have ha : (⟨g, 0, none⟩ : Addr).add j = ⟨g, 0 + j, none⟩ := by unfold Addr.add; split <;> simp_all
  rw [ha] at hc
  refine ⟨by rw [hc]; simp [hj], ?_⟩
  simp [World.frozen?, hg]
def sortS (xs : List Str) : List Str := xs.mergeSort fun x y => decide (x ≤ y)
theorem Ow.form {e : TypeId} {w : World} {O : Ob} {A : Option Addr} {n c : Nat} {xs : List Str} (h : Ow Kd.str e w O (.slice A n c) xs) (hx : 0 < xs.length) : ∃ g, A = some ⟨g, 0, none⟩ ∧ n = xs.length ∧ xs.length ≤ c ∧ g < w.heap.size := by
 obtain ⟨cells, o1, o2, o3⟩ := h
 rcases o1.2 with ⟨_, e'⟩ | ⟨g', cap, cur, ev, h0, hg, hle, hmx, hcur, htake⟩
 ·omega
 ·cases ev; exact ⟨g', rfl, rfl, hle, (Array.getElem?_eq_some_iff.1 hg).1⟩
theorem Ow.lims {e : TypeId} {w : World} {O : Ob} {v : Value} {xs : List Str} (h : Ow Kd.str e w O v xs) : ∀ x ∈ xs, Lim x := by
 obtain ⟨cells, o1, o2, o3⟩ := h
 exact (strs_arr o2).2
theorem compact_le (x : List Str) : (Lib.compact x).length ≤ x.length := by
 unfold Lib.compact Lib.compactUpTo
 rw [List.length_map]
 exact Nat.le_trans (List.length_filter_le _ _) (by rw [List.length_range]; exact Nat.le_refl _)
theorem compact_mem {x : List Str} {y : Str} (h : y ∈ Lib.compact x) : y ∈ x := by
 unfold Lib.compact Lib.compactUpTo at h
 obtain ⟨j, hj, rfl⟩ := List.mem_map.1 h
 have hl : j < x.length := List.mem_range.1 (List.mem_filter.1 hj).1
 simp [hl]
end
def shapeNamesL : List Str := [[], [100, 111, 116], [108, 105, 110, 101], [114, 105, 110, 103]]
structure Glob (w : World) (O : Ob) : Prop where
 shapeNames : ∃ A : Option Addr, Fb w O 0 [.slice A 4 4] ∧ Sl Kd.str w (Fr O) (.slice A 4 4) shapeNamesL
 pow10 : Fb w O 1 (Lib.pow10Tab.map (Value.int .u64))
theorem Glob.st {w w' : World} {O O' : Ob} (h : Glob w O) (s : St w O w' O') : Glob w' O' :=
 ⟨let ⟨A, a, b⟩ := h.shapeNames; ⟨A, a.st s, b.st s⟩, h.pow10.st s⟩
theorem Glob.tab {w : World} {O : Ob} (h : Glob w O) : Lib.TabIs Tryz.prog w "internal/strconv.uint64pow10" .u64 Lib.pow10Tab := by
 obtain ⟨⟨e, hb⟩, _⟩ := h.pow10
 unfold Lib.TabIs World.var?
 rw [show Tryz.prog.globalNamed "internal/strconv.uint64pow10" = some 1 by kernel_rfl]
 simp only [Option.bind_some, hb]
theorem decDigits_len (u : Nat) : ∀ k, u < 10 ^ (k + 1) → (Lib.decDigits u).length ≤ k + 1 := by
 intro k
 induction k generalizing u with
 | zero => intro h; rw [Lib.decDigits, dif_pos OM]; simp
 | succ k ih =>
  intro h
  rw [Lib.decDigits]
  split
  ·simp
  ·rw [List.length_append]
   have := ih (u / 10) (by rw [Nat.pow_succ] at h; omega)
   simp only [List.length_cons, List.length_nil]
   omega
theorem itoa_len (n : Int) (h0 : -9223372036854775808 ≤ n) (h1 : n ≤ 9223372036854775807) : (Lib.itoa n).length ≤ 21 := by
 unfold Lib.itoa
 split
 ·have := decDigits_len n.natAbs 19 OM
  simp only [List.length_cons]; omega
 ·have := decDigits_len n.toNat 19 OM
  omega
section
open Go.Shelf Go.Sort Go.Lib
def F73.E (n : Int) (Q : Str → Prop) : Prop := (-9223372036854775808 ≤ n ∧ n ≤ 9223372036854775807) ∧ Q (Lib.itoa n)
theorem F73.calls {O : Ob} (w0 : World) (hO : Ok w0 O) (hG : Glob w0 O) (n : Int) (Q : Str → Prop) (h : F73.E n Q) :
  Ret Tryz.prog 126 [vi n] w0 (fun v w' => ∃ (r0 : Str), v = vs r0 ∧ Q r0 ∧ Gr w0 w' none ∧ Lim r0) := by
 obtain ⟨⟨h0, h1⟩, hq⟩ := h
 refine Calls.mono (Tryz.strconv_Itoa n h0 h1 w0 hG.tab) fun e w' ⟨he, k, os, hw⟩ => ?_
 subst he; subst hw
 refine ⟨_, rfl, Lib.itoa n, rfl, hq, ⟨rfl, by simp [grow], rfl, by simp [grow], fun b hb _ => by show (w0.heap ++ os)[b]? = w0.heap[b]?; exact Array.getElem?_append_left hb⟩, ?_⟩
 have := itoa_len n h0 h1
 unfold Lim; omega
end
def F25.E (s : Shape) (Q : Str → Prop) : Prop :=
 ((0 : Int) ≤ s.Kind ∧ s.Kind < (shapeNamesL.length : Int)) ∧ (∃ (I39 : Str → Int → Prop) (mu40 : Str → Int → Nat), I39 (nth shapeNamesL s.Kind) 0 ∧ ∀ (out2 : Str) (v2 : Int), I39 out2 v2 → (if decide (v2 < (s.Pts.length : Int)) then ((0 : Int) ≤ v2 ∧ v2 < (s.Pts.length : Int)) ∧ (∃ q : Str, F73.E ((nth s.Pts v2).X) (fun x => x = q) ∧ (Lim q) ∧ (([32] : Str).length + q.length ≤ 9223372036854775807) ∧ ((([32] : Str) ++ q).length + ([44] : Str).length ≤ 9223372036854775807) ∧ (∃ q2 : Str, F73.E ((nth s.Pts v2).Y) (fun x => x = q2) ∧ (Lim q2) ∧ (((([32] : Str) ++ q) ++ ([44] : Str)).length + q2.length ≤ 9223372036854775807) ∧ (out2.length + (((([32] : Str) ++ q) ++ ([44] : Str)) ++ q2).length ≤ 9223372036854775807) ∧ (I64 (v2 + 1)) ∧ I39 (out2 ++ (((([32] : Str) ++ q) ++ ([44] : Str)) ++ q2)) (v2 + 1) ∧ mu40 (out2 ++ (((([32] : Str) ++ q) ++ ([44] : Str)) ++ q2)) (v2 + 1) < mu40 out2 v2)) else Q out2))
theorem F25.calls {s : Shape} {A1 : Option Addr} {n2 c3 : Nat} {Q : Str → Prop} (H : F25.E s Q) (hO : Ok w0 O) (hG : Glob w0 O) (hp4 : Sl kPt w0 (Fr O) (G A1 n2 c3) s.Pts) :
  Ret Tryz.prog 80 [.agg #[vi s.Kind, G A1 n2 c3]] w0 (fun v w' => ∃ (r0 : Str), v = vs r0 ∧ Q r0 ∧ Gr w0 w' none ∧ Lim r0) := by
 unfold F25.E at H;have hc0 := Ct.init hO;obtain ⟨aG0, hGb0, hGs0⟩ := hG.shapeNames;refine X9 Tryz.func80 Z 31 Z [.tmp 2] Z Z ?_;refine Xc (Xd (Yn [vi s.Kind, G A1 n2 c3] Z fun w6 b7 hl9 hu10 g8 ax => ?_));have ai := Fb.mk hc0.ok hl9 ax;have ab := hc0.k0 g8;refine Xf (vs []) Z (Xb (Xc (Xd ?_)));have ay := (hGb0.st ab.st);refine Xa (Xl ag50 cL (Ad 0 0) (G aG0 4 4) Z (ay.cell Z)) (Xa (Xj fa41_0 (Ad b7 0) (Ad b7 0) Z Z) (Xa (Xl ag3 cL (Ad b7 0) (vi s.Kind) Z (ai.cell Z)) ?_));obtain ⟨aj, H⟩ := H;obtain ⟨ak, br, az, bs, a0, a1⟩ := (hGs0.st ab.st).get default RD s.Kind aj;obtain ⟨rfl, a2⟩ := Kd.str.op a0;refine Xa (X3 u50_ Zi aG0 ak 4 4 (hGs0.st ab.st).len s.Kind Z az Z aj) (Xa (Xl ag9 cL (ak.add (s.Kind.toNat * 1)) (vs (nth shapeNamesL s.Kind)) Z (a1 0 _ Z)) (Xf (vs (nth shapeNamesL s.Kind)) Z (Xb (Xc (Xc (Xd (Xa (Xj fa41_1 (Ad b7 0) (Ad b7 1) Z Z) (Xa (Xl ag39 cL (Ad b7 1) (G A1 n2 c3) Z (ai.cell Z)) ?_))))))));have bt := (hp4.st ab.st).le;refine Xa (Ya u39_ A1 n2 c3 (hp4.st ab.st).len Z) (Xe (vi 0) Z (Xb (X6 ?_)));obtain ⟨a3, a4, ad, H⟩ := H;refine Yi (α := Str × Int) (fun (out2, v2) t ae => a3 out2 v2 ∧ Has t [(3, vs out2), (12, G A1 n2 c3), (13, vi (s.Pts.length : Int)), (14, vi v2)] ∧ Ct [] w0 ae [] O ∧ Lim out2 ∧ Sl kPt ae (Fr ([] ++ O)) (G A1 n2 c3) s.Pts) (fun (out2, v2) => a4 out2 v2) ((nth shapeNamesL s.Kind), 0) ⟨ad, (Xy Z), ab, a2, (hp4.st ab.st)⟩ ?_;rintro ⟨out2, v2⟩ _ ae ⟨ad, a5, af, a6, ag⟩;obtain ⟨bu, rfl⟩ := Has.ins a5;have H := H out2 v2 ad;refine Xc (Xd (Xa (X0 v2 (s.Pts.length : Int) (decide (v2 < (s.Pts.length : Int))) Z Z Z) (Xb (Xc ?_))));refine Xw (decide (v2 < (s.Pts.length : Int))) Z (fun ah => ?_) (fun ah => ?_)
 ·have H := Xn H ah;refine Xx (Xc (X6 (Xc (Xd ?_))));obtain ⟨al, H⟩ := H;obtain ⟨am, bv, a7, bw, a8, a9⟩ := ag.get default RD v2 al;obtain rfl := kPt.op a8;refine Xa (X3 u39_ Yt A1 am n2 c3 ag.len v2 Z a7 Z al) (Xa (Xu ag49 sz49 cL (am.add (v2.toNat * 2)) [vi ((nth s.Pts v2).X), vi ((nth s.Pts v2).Y)] Z Z a9) (Yr [.int .i64 0, .int .i64 0] ze49 fun bx aa an hu57 ao ba => ?_));have ap := af.own ao (some aa) (Yp an hu57);refine Yd [vi ((nth s.Pts v2).X), vi ((nth s.Pts v2).Y)] ba Z Z sz49 Z Z fun bb aq ar => ?_;have ac := ap.wr 0 Z aq;refine Xb (Yz (fun x => Gr bb x none) RK RK (Gr.drew _) ?_);refine Xv (vs out2) Z (Xg (Xj fa49_0 (Ad aa 0) (Ad aa 0) Z Z) (Xg (Xl ag3 cQ (Ad aa 0) (vi ((nth s.Pts v2).X)) Z (ar.cell Z)) ?_));obtain ⟨q, bc, bz, H⟩ := H;refine Y0 go126 [vi ((nth s.Pts v2).X)] Z (vs q) (fun w g => (F73.calls w (ac.k0 g).ok (hG.st (ac.k0 g).st) ((nth s.Pts v2).X) _ bc).mono ?_) ?_
  ·rintro _ w ⟨r, rfl, rfl, g2, _⟩;exact ⟨Z, Gr.t0 g g2⟩
  obtain ⟨bd, H⟩ := H;refine Xg (Ym ([32] : Str) q Z Z bd) ?_;obtain ⟨be, H⟩ := H;refine Xg (Ym (([32] : Str) ++ q) ([44] : Str) Z Z be) (Xg (Xj fa49_1 (Ad aa 0) (Ad aa 1) Z Z) (Xg (Xl ag3 cQ (Ad aa 1) (vi ((nth s.Pts v2).Y)) Z (ar.cell Z)) ?_));obtain ⟨q2, bf, b0, H⟩ := H;refine Y0 go126 [vi ((nth s.Pts v2).Y)] Z (vs q2) (fun w g => (F73.calls w (ac.k0 g).ok (hG.st (ac.k0 g).st) ((nth s.Pts v2).Y) _ bf).mono ?_) ?_
  ·rintro _ w ⟨r, rfl, rfl, g2, _⟩;exact ⟨Z, Gr.t0 g g2⟩
  obtain ⟨bg, H⟩ := H;refine Xg (Ym ((([32] : Str) ++ q) ++ ([44] : Str)) q2 Z Z bg) ?_;obtain ⟨au, H⟩ := H;refine Xg (Ym out2 (((([32] : Str) ++ q) ++ ([44] : Str)) ++ q2) Z Z au) (Zc (vs (out2 ++ (((([32] : Str) ++ q) ++ ([44] : Str)) ++ q2))) Z (Yc fun b1 av => ?_));have aw := ac.k0 av;refine Xd ?_;obtain ⟨bh, H⟩ := H;refine Xa (Yb v2 1 Z Z bh) (Xe (vi (v2 + 1)) Z (Xb ?_));have bi := aw.drop 0 Z;obtain ⟨bj, bl⟩ := H;have bm := af.stown _ ao (X2 an);have bn := ap.stw 0 Z aq;have bo := ac.stn av;have bp := aw.std 0 Z;have bq := ((((ag.st bm).st bn).st bo).st bp);exact ⟨((out2 ++ (((([32] : Str) ++ q) ++ ([44] : Str)) ++ q2)), v2 + 1), bl, bj, (Xy Z), bi, (lim_cat au), bq⟩
 have H := Xo H ah;refine Yh (xin_hit ?_);exact Xc (Xd (Xe (vs out2) Z (Xf (vs out2) Z (Xb (Xm ⟨[vs out2], ⟨_, Z, Z⟩, out2, Z, H, af.gr.g0, a6⟩)))))
def F48.E (f : Feat) (Q : Str → Prop) : Prop :=
 F98.E f (fun r => (if !r then Q [] else (f.Id.length + ([32] : Str).length ≤ 9223372036854775807) ∧ (∃ q : Str, F25.E f.Shape (fun x => x = q) ∧ (Lim q) ∧ ((f.Id ++ ([32] : Str)).length + q.length ≤ 9223372036854775807) ∧ (∃ (I61 : Str → Int → Prop) (mu62 : Str → Int → Nat), I61 ((f.Id ++ ([32] : Str)) ++ q) 0 ∧ ∀ (out2 : Str) (v2 : Int), I61 out2 v2 → (if decide (v2 < (f.Tags.length : Int)) then ((0 : Int) ≤ v2 ∧ v2 < (f.Tags.length : Int)) ∧ (([32] : Str).length + ((nth f.Tags v2).Key).length ≤ 9223372036854775807) ∧ ((([32] : Str) ++ ((nth f.Tags v2).Key)).length + ([61] : Str).length ≤ 9223372036854775807) ∧ (((([32] : Str) ++ ((nth f.Tags v2).Key)) ++ ([61] : Str)).length + ((nth f.Tags v2).Val).length ≤ 9223372036854775807) ∧ (out2.length + (((([32] : Str) ++ ((nth f.Tags v2).Key)) ++ ([61] : Str)) ++ ((nth f.Tags v2).Val)).length ≤ 9223372036854775807) ∧ (I64 (v2 + 1)) ∧ I61 (out2 ++ (((([32] : Str) ++ ((nth f.Tags v2).Key)) ++ ([61] : Str)) ++ ((nth f.Tags v2).Val))) (v2 + 1) ∧ mu62 (out2 ++ (((([32] : Str) ++ ((nth f.Tags v2).Key)) ++ ([61] : Str)) ++ ((nth f.Tags v2).Val))) (v2 + 1) < mu62 out2 v2 else Q out2)))))
theorem F48.calls {f : Feat} {A2 : Option Addr} {n3 c4 : Nat} {A7 : Option Addr} {n8 c9 : Nat} {Q : Str → Prop} (H : F48.E f Q) (hO : Ok w0 O) (hG : Glob w0 O) (hs1 : Lim f.Id) (hp5 : Sl kPt w0 (Fr O) (G A2 n3 c4) f.Shape.Pts) (ae : Sl kTag w0 (Fr O) (G A7 n8 c9) f.Tags) :
  Ret Tryz.prog 43 [.agg #[vs f.Id, vi f.Shape.Kind, G A2 n3 c4, G A7 n8 c9]] w0 (fun v w' => ∃ (r0 : Str), v = vs r0 ∧ Q r0 ∧ Gr w0 w' none ∧ Lim r0) := by
 unfold F48.E at H;have hc0 := Ct.init hO;refine X9 Tryz.func43 Z 34 Z [.tmp 2] Z Z ?_;refine Xc (Xd (Yn [vs f.Id, vi f.Shape.Kind, G A2 n3 c4, G A7 n8 c9] Z fun a2 aa a3 hu16 a4 a5 => ?_));have an := Fb.mk hc0.ok a3 a5;have ad := hc0.k0 a4;refine Xf (vs []) Z (Xb (Xc (Xc (Xd (Xa (Xu ag44 sz44 cL (Ad aa 0) [vs f.Id, vi f.Shape.Kind, G A2 n3 c4, G A7 n8 c9] Z Z (an.cells (off := 00) Z)) ?_)))));refine Xs go25 (F98.calls H ad.ok hs1 (hp5.st ad.st) (ae.st ad.st)) Z ?_;rintro _ a6 ⟨r, rfl, H, ao⟩;have ac := ad.k0 ao;refine Xa (X7 r Z) (Xb ?_);refine Xw (!r) Z (fun ag => ?_) (fun ag => ?_)
 ·have H := Xn H ag;exact Xc (Xd (Xf (vs []) Z (Xb (Xm ⟨[vs []], ⟨_, Z, Z⟩, ([] : Str), Z, H, ac.gr.g0, (by decide : Lim ([] : Str))⟩))))
 have H := Xo H ag;refine Xx (Xc (Yz (fun x => Gr a6 x none) RK RK (Gr.drew _) ?_));refine Xg (Xj fa44_0 (Ad aa 0) (Ad aa 0) Z Z) ?_;have a7 := ad.stn ao;have ah := (an.st a7);refine Xg (Xl ag9 cQ (Ad aa 0) (vs f.Id) Z (ah.cell Z)) ?_;obtain ⟨a8, H⟩ := H;refine Xg (Ym f.Id ([32] : Str) Z Z a8) (Xg (Xj fa44_1 (Ad aa 0) (Ad aa 1) Z Z) (Xg (Xu ag41 sz41 cQ (Ad aa 1) [vi f.Shape.Kind, G A2 n3 c4] Z Z (ah.cells (off := 1) Z)) ?_));obtain ⟨q, a9, bw, H⟩ := H;refine Y0 go80 [.agg #[vi f.Shape.Kind, G A2 n3 c4]] Z (vs q) (fun w g => (F25.calls a9 (ac.k0 g).ok (hG.st (ac.k0 g).st) ((hp5.st ac.st).st (.new _ g))).mono ?_) ?_
 ·rintro _ w ⟨r, rfl, rfl, g2, _⟩;exact ⟨Z, Gr.t0 g g2⟩
 obtain ⟨ap, H⟩ := H;refine Xg (Ym (f.Id ++ ([32] : Str)) q Z Z ap) (Zc (vs ((f.Id ++ ([32] : Str)) ++ q)) Z (Yc fun bx aq => ?_));have af := ac.k0 aq;refine Xc (Xc (Xd (Xa (Xj fa44_2 (Ad aa 0) (Ad aa 3) Z Z) ?_)));have ba := ac.stn aq;have bb := (ah.st ba);refine Xa (Xl ag42 cL (Ad aa 3) (G A7 n8 c9) Z (bb.cell Z)) ?_;have bz := (ae.st af.st).le;refine Xa (Ya u42_ A7 n8 c9 (ae.st af.st).len Z) (Xe (vi 0) Z (Xb (X6 ?_)));obtain ⟨bc, bd, ai, H⟩ := H;refine Yi (α := Str × Int) (fun (out2, v2) t aj => bc out2 v2 ∧ Has t [(3, vs out2), (17, G A7 n8 c9), (18, vi (f.Tags.length : Int)), (19, vi v2)] ∧ Ct [] w0 aj [] O ∧ Lim out2 ∧ Sl kTag aj (Fr ([] ++ O)) (G A7 n8 c9) f.Tags) (fun (out2, v2) => bd out2 v2) (((f.Id ++ ([32] : Str)) ++ q), 0) ⟨ai, (Xy Z), af, (lim_cat ap), (ae.st af.st)⟩ ?_;rintro ⟨out2, v2⟩ _ aj ⟨ai, be, ak, bf, al⟩;obtain ⟨b0, rfl⟩ := Has.ins be;have H := H out2 v2 ai;refine Xc (Xd (Xa (X0 v2 (f.Tags.length : Int) (decide (v2 < (f.Tags.length : Int))) Z Z Z) (Xb (Xc ?_))));refine Xw (decide (v2 < (f.Tags.length : Int))) Z (fun am => ?_) (fun am => ?_)
 ·have H := Xn H am;refine Xx (Xc (X6 (Xc (Xd ?_))));obtain ⟨ar, H⟩ := H;obtain ⟨au, b1, bg, b2, bh, bi⟩ := al.get default RD v2 ar;obtain ⟨rfl, b3, b4⟩ := kTag.op bh;refine Xa (X3 u42_ Y5 A7 au n8 c9 al.len v2 Z bg Z ar) (Xa (Xu ag93 sz93 cL (au.add (v2.toNat * 2)) [vs ((nth f.Tags v2).Key), vs ((nth f.Tags v2).Val)] Z Z bi) (Yr [vs [], vs []] ze93 fun b5 ab av hu81 aw bj => ?_));have ax := ak.own aw (some ab) (Yp av hu81);refine Yd [vs ((nth f.Tags v2).Key), vs ((nth f.Tags v2).Val)] bj Z Z sz93 Z Z fun b6 ay az => ?_;have a0 := ax.wr 0 Z ay;refine Xb (Xd (Xe (vs out2) Z (Xa (Xj fa93_0 (Ad ab 0) (Ad ab 0) Z Z) (Xa (Xl ag9 cL (Ad ab 0) (vs ((nth f.Tags v2).Key)) Z (az.cell Z)) ?_))));obtain ⟨bl, H⟩ := H;refine Xa (Ym ([32] : Str) ((nth f.Tags v2).Key) Z Z bl) ?_;obtain ⟨bm, H⟩ := H;refine Xa (Ym (([32] : Str) ++ ((nth f.Tags v2).Key)) ([61] : Str) Z Z bm) (Xa (Xj fa93_1 (Ad ab 0) (Ad ab 1) Z Z) (Xa (Xl ag9 cL (Ad ab 1) (vs ((nth f.Tags v2).Val)) Z (az.cell Z)) ?_));obtain ⟨bn, H⟩ := H;refine Xa (Ym ((([32] : Str) ++ ((nth f.Tags v2).Key)) ++ ([61] : Str)) ((nth f.Tags v2).Val) Z Z bn) ?_;obtain ⟨a1, H⟩ := H;refine Xa (Ym out2 (((([32] : Str) ++ ((nth f.Tags v2).Key)) ++ ([61] : Str)) ++ ((nth f.Tags v2).Val)) Z Z a1) (Xf (vs (out2 ++ (((([32] : Str) ++ ((nth f.Tags v2).Key)) ++ ([61] : Str)) ++ ((nth f.Tags v2).Val)))) Z (Xb (Xd ?_)));obtain ⟨bo, H⟩ := H;refine Xa (Yb v2 1 Z Z bo) (Xe (vi (v2 + 1)) Z (Xb ?_));have bp := a0.drop 0 Z;obtain ⟨bq, br⟩ := H;have bs := ak.stown _ aw (X2 av);have bt := ax.stw 0 Z ay;have bu := a0.std 0 Z;have bv := (((al.st bs).st bt).st bu);exact ⟨((out2 ++ (((([32] : Str) ++ ((nth f.Tags v2).Key)) ++ ([61] : Str)) ++ ((nth f.Tags v2).Val))), v2 + 1), br, bq, (Xy Z), bp, (lim_cat a1), bv⟩
 have H := Xo H am;refine Yh (xin_hit ?_);exact Xc (Xd (Xe (vs out2) Z (Xf (vs out2) Z (Xb (Xm ⟨[vs out2], ⟨_, Z, Z⟩, out2, Z, H, ak.gr.g0, bf⟩)))))
def F26.E (has : Bool) (f : Feat) (Q : Str → Prop) : Prop :=
 (if !has then Q ([45] : Str) else F48.E f (fun r => Q r))
theorem F26.calls {has : Bool} {f : Feat} {A2 : Option Addr} {n3 c4 : Nat} {A7 : Option Addr} {n8 c9 : Nat} {Q : Str → Prop} (H : F26.E has f Q) (hO : Ok w0 O) (hG : Glob w0 O) (hs1 : Lim f.Id) (hp5 : Sl kPt w0 (Fr O) (G A2 n3 c4) f.Shape.Pts) (ac : Sl kTag w0 (Fr O) (G A7 n8 c9) f.Tags) :
  Ret Tryz.prog 42 [vb has, .agg #[vs f.Id, vi f.Shape.Kind, G A2 n3 c4, G A7 n8 c9]] w0 (fun v w' => ∃ (r0 : Str), v = vs r0 ∧ Q r0 ∧ Gr w0 w' none ∧ Lim r0) := by
 unfold F26.E at H;have hc0 := Ct.init hO;refine X9 Tryz.func42 Z 9 Z [.tmp 4] Z Z ?_;refine Xc (Xd (Yn [vs f.Id, vi f.Shape.Kind, G A2 n3 c4, G A7 n8 c9] Z fun ad ae af hu16 ag ah => ?_));have ai := Fb.mk hc0.ok af ah;have aa := hc0.k0 ag;refine Xf (vs []) Z (Xb (Xc (Xc (Xd (Xe (vb has) Z (Xa (X7 has Z) (Xb ?_)))))));refine Xw (!has) Z (fun ab => ?_) (fun ab => ?_)
 ·have H := Xn H ab;exact Xc (Xd (Xf (vs ([45] : Str)) Z (Xb (Xm ⟨[vs ([45] : Str)], ⟨_, Z, Z⟩, ([45] : Str), Z, H, aa.gr.g0, (by decide : Lim ([45] : Str))⟩))))
 have H := Xo H ab;refine Xx (Xc (Xd (Xa (Xu ag44 sz44 cL (Ad ae 0) [vs f.Id, vi f.Shape.Kind, G A2 n3 c4, G A7 n8 c9] Z Z (ai.cells (off := 00) Z)) ?_)));refine Xs go43 (F48.calls H aa.ok (hG.st aa.st) hs1 (hp5.st aa.st) (ac.st aa.st)) Z ?_;rintro _ am ⟨r, rfl, H, aj, ak⟩;have al := aa.k0 aj;exact Xf (vs r) Z (Xb (Xm ⟨[vs r], ⟨_, Z, Z⟩, r, Z, H, al.gr.g0, ak⟩))
def F49.E (d : List Change) (Q : Str → Prop) : Prop :=
 F100.E d (fun r => (if !r then Q [] else (∃ (I28 : Str → Int → Prop) (mu29 : Str → Int → Nat), I28 [] 0 ∧ ∀ (out2 : Str) (v2 : Int), I28 out2 v2 → (if decide (v2 < (d.length : Int)) then ((0 : Int) ≤ v2 ∧ v2 < (d.length : Int)) ∧ (((nth d v2).Id).length + ([58, 32] : Str).length ≤ 9223372036854775807) ∧ F26.E ((nth d v2).Had) ((nth d v2).Was) (fun r2 => ((((nth d v2).Id) ++ ([58, 32] : Str)).length + r2.length ≤ 9223372036854775807) ∧ (((((nth d v2).Id) ++ ([58, 32] : Str)) ++ r2).length + ([32, 62, 32] : Str).length ≤ 9223372036854775807) ∧ F26.E ((nth d v2).Has) ((nth d v2).Now) (fun r3 => ((((((nth d v2).Id) ++ ([58, 32] : Str)) ++ r2) ++ ([32, 62, 32] : Str)).length + r3.length ≤ 9223372036854775807) ∧ (((((((nth d v2).Id) ++ ([58, 32] : Str)) ++ r2) ++ ([32, 62, 32] : Str)) ++ r3).length + ([10] : Str).length ≤ 9223372036854775807) ∧ (out2.length + (((((((nth d v2).Id) ++ ([58, 32] : Str)) ++ r2) ++ ([32, 62, 32] : Str)) ++ r3) ++ ([10] : Str)).length ≤ 9223372036854775807) ∧ (I64 (v2 + 1)) ∧ I28 (out2 ++ (((((((nth d v2).Id) ++ ([58, 32] : Str)) ++ r2) ++ ([32, 62, 32] : Str)) ++ r3) ++ ([10] : Str))) (v2 + 1) ∧ mu29 (out2 ++ (((((((nth d v2).Id) ++ ([58, 32] : Str)) ++ r2) ++ ([32, 62, 32] : Str)) ++ r3) ++ ([10] : Str))) (v2 + 1) < mu29 out2 v2)) else Q out2))))
theorem F49.calls {d : List Change} {A1 : Option Addr} {n2 c3 : Nat} {Q : Str → Prop} (H : F49.E d Q) (hO : Ok w0 O) (hG : Glob w0 O) (hp4 : Sl kChange w0 (Fr O) (G A1 n2 c3) d) :
  Ret Tryz.prog 12 [G A1 n2 c3] w0 (fun v w' => ∃ (r0 : Str), v = vs r0 ∧ Q r0 ∧ Gr w0 w' none ∧ Lim r0) := by
 unfold F49.E at H;have hc0 := Ct.init hO;refine X9 Tryz.func12 Z 39 Z [.tmp 2] Z Z ?_;refine Xc (Xd (Xf (vs []) Z (Xb (Xc (Xc (Xd (Xe (G A1 n2 c3) Z ?_)))))));refine Xs go17 (F100.calls H hc0.ok hp4) Z ?_;rintro _ w6 ⟨r, rfl, H, g7⟩;have ao := hc0.k0 g7;refine Xa (X7 r Z) (Xb ?_);refine Xw (!r) Z (fun az => ?_) (fun az => ?_)
 ·have H := Xn H az;exact Xc (Xd (Xf (vs []) Z (Xb (Xm ⟨[vs []], ⟨_, Z, Z⟩, ([] : Str), Z, H, ao.gr.g0, (by decide : Lim ([] : Str))⟩))))
 have H := Xo H az;refine Xx (Xc (Xd (Xf (.func (.func 42) #[] #[]) Z (Xb (Xc (Xd (Xf (vs []) Z (Xb ?_))))))));refine Xc (Xc (Xd (Xe (G A1 n2 c3) Z ?_)));have ch := (hp4.st ao.st).le;refine Xa (Ya u23_ A1 n2 c3 (hp4.st ao.st).len Z) (Xe (vi 0) Z (Xb (X6 ?_)));obtain ⟨bi, bj, a0, H⟩ := H;refine Yi (α := Str × Int) (fun (out2, v2) t a1 => bi out2 v2 ∧ Has t [(3, .func (.func 42) #[] #[]), (4, vs out2), (10, G A1 n2 c3), (11, vi (d.length : Int)), (12, vi v2)] ∧ Ct [] w0 a1 [] O ∧ Lim out2 ∧ Sl kChange a1 (Fr ([] ++ O)) (G A1 n2 c3) d) (fun (out2, v2) => bj out2 v2) (([] : Str), 0) ⟨a0, (Xy Z), ao, (by decide : Lim ([] : Str)), (hp4.st ao.st)⟩ ?_;rintro ⟨out2, v2⟩ _ a1 ⟨a0, bl, a2, bm, a3⟩;obtain ⟨ci, rfl⟩ := Has.ins bl;have H := H out2 v2 a0;refine Xc (Xd (Xa (X0 v2 (d.length : Int) (decide (v2 < (d.length : Int))) Z Z Z) (Xb (Xc ?_))));refine Xw (decide (v2 < (d.length : Int))) Z (fun a4 => ?_) (fun a4 => ?_)
 ·have H := Xn H a4;refine Xx (Xc (X6 (Xc (Xd ?_))));obtain ⟨a9, H⟩ := H;obtain ⟨ba, cj, bn, ck, bo, bp⟩ := a3.get default RD v2 a9;obtain ⟨ac, ad, ae, af, ag, ah, ai, aj, ak, al, am, an, rfl, cl, bq, br, bs, bt, bu, bv⟩ := kChange.op bo;refine Xa (X3 u23_ Ys A1 ba n2 c3 a3.len v2 Z bn Z a9) (Xa (Xu ag62 sz62 cL (ba.add (v2.toNat * 11)) [vs ((nth d v2).Id), vb ((nth d v2).Had), vs ((nth d v2).Was.Id), vi ((nth d v2).Was.Shape.Kind), G ac ad ae, G af ag ah, vb ((nth d v2).Has), vs ((nth d v2).Now.Id), vi ((nth d v2).Now.Shape.Kind), G ai aj ak, G al am an] Z Z bp) (Yr [vs [], vb false, vs [], .int .i64 0, G none 0 0, G none 0 0, vb false, vs [], .int .i64 0, G none 0 0, G none 0 0] ze62 fun cm aa bb hu69 bc bw => ?_));have bd := a2.own bc (some aa) (Yp bb hu69);refine Yd [vs ((nth d v2).Id), vb ((nth d v2).Had), vs ((nth d v2).Was.Id), vi ((nth d v2).Was.Shape.Kind), G ac ad ae, G af ag ah, vb ((nth d v2).Has), vs ((nth d v2).Now.Id), vi ((nth d v2).Now.Shape.Kind), G ai aj ak, G al am an] bw Z Z sz62 Z Z fun cn be bx => ?_;have bf := bd.wr 0 Z be;refine Xb (Y7 22 [] RK Z fun bz a5 ab => ?_);have aw := bf.k0 a5;refine Xt 0 Z RK ab (Yj (vs out2) Z) ?_;refine Xt 1 Z RK ab (Xj fa62_0 (Ad aa 0) (Ad aa 0) Z Z) ?_;have ap := (bx.k0 a5);refine Xt 2 Z RK ab (Y2 ag9 cR (Ad aa 0) (vs ((nth d v2).Id)) Z (ap.cell Z) nm_nil) ?_;obtain ⟨b0, H⟩ := H;refine Xt 3 Z RK ab (Ym ((nth d v2).Id) ([58, 32] : Str) Z Z b0) ?_;refine Xt 4 Z RK ab (Yj (.func (.func 42) #[] #[]) Z) ?_;refine Xt 5 Z RK ab (Xj fa62_1 (Ad aa 0) (Ad aa 1) Z Z) ?_;refine Xt 6 Z RK ab (Y2 ag4 cR (Ad aa 1) (vb ((nth d v2).Had)) Z (ap.cell Z) nm_nil) ?_;refine Xt 7 Z RK ab (Xj fa62_2 (Ad aa 0) (Ad aa 2) Z Z) ?_;refine Xt 8 Z RK ab (Zb ag44 sz44 cR (Ad aa 2) [vs ((nth d v2).Was.Id), vi ((nth d v2).Was.Shape.Kind), G ac ad ae, G af ag ah] Z Z (ap.cells (off := 2) Z) nm_nil) ?_;refine Xt 12 Z RK ab (Yj (.func (.func 42) #[] #[]) Z) ?_;refine Xt 13 Z RK ab (Xj fa62_3 (Ad aa 0) (Ad aa 6) Z Z) ?_;refine Xt 14 Z RK ab (Y2 ag4 cR (Ad aa 6) (vb ((nth d v2).Has)) Z (ap.cell Z) nm_nil) ?_;refine Xt 15 Z RK ab (Xj fa62_4 (Ad aa 0) (Ad aa 7) Z Z) ?_;refine Xt 16 Z RK ab (Zb ag44 sz44 cR (Ad aa 7) [vs ((nth d v2).Now.Id), vi ((nth d v2).Now.Shape.Kind), G ai aj ak, G al am an] Z Z (ap.cells (off := 7) Z) nm_nil) ?_;refine X1 9 RK Z ?_;have aq := a2.stown _ bc (X2 bb);have ar := bd.stw 0 Z be;have au := bf.stn a5;have b1 := (((br.st aq).st ar).st au);have b2 := (((bs.st aq).st ar).st au);refine Zz go42 [] Z [vb ((nth d v2).Had), .agg #[vs ((nth d v2).Was.Id), vi ((nth d v2).Was.Shape.Kind), G ac ad ae, G af ag ah]] Z ((F26.calls H aw.ok (hG.st aw.st) bq b1 b2).mono ?_);rintro _ b3 ⟨r2, rfl, H, a6, co⟩;have ax := aw.k0 a6;have ay := Gm.tm ab a6;refine Xb ⟨ay, ?_⟩;obtain ⟨b4, H⟩ := H;refine Xt 10 Z RK ay (Ym (((nth d v2).Id) ++ ([58, 32] : Str)) r2 Z Z b4) ?_;obtain ⟨b5, H⟩ := H;refine Xt 11 Z RK ay (Ym ((((nth d v2).Id) ++ ([58, 32] : Str)) ++ r2) ([32, 62, 32] : Str) Z Z b5) ?_;refine X1 17 RK Z ?_;have a7 := aw.stn a6;have b6 := ((((bu.st aq).st ar).st au).st a7);have b7 := ((((bv.st aq).st ar).st au).st a7);refine Zz go42 [] Z [vb ((nth d v2).Has), .agg #[vs ((nth d v2).Now.Id), vi ((nth d v2).Now.Shape.Kind), G ai aj ak, G al am an]] Z ((F26.calls H ax.ok (hG.st ax.st) bt b6 b7).mono ?_);rintro _ cp ⟨r3, rfl, H, a8, cq⟩;have bg := ax.k0 a8;have av := Gm.tm ay a8;refine Xb ⟨av, ?_⟩;obtain ⟨b8, H⟩ := H;refine Xt 18 Z RK av (Ym (((((nth d v2).Id) ++ ([58, 32] : Str)) ++ r2) ++ ([32, 62, 32] : Str)) r3 Z Z b8) ?_;obtain ⟨b9, H⟩ := H;refine Xt 19 Z RK av (Ym ((((((nth d v2).Id) ++ ([58, 32] : Str)) ++ r2) ++ ([32, 62, 32] : Str)) ++ r3) ([10] : Str) Z Z b9) ?_;obtain ⟨bh, H⟩ := H;refine Xt 20 Z RK av (Ym out2 (((((((nth d v2).Id) ++ ([58, 32] : Str)) ++ r2) ++ ([32, 62, 32] : Str)) ++ r3) ++ ([10] : Str)) Z Z bh) ?_;refine Xt 21 Z RK av (Zg (vs (out2 ++ (((((((nth d v2).Id) ++ ([58, 32] : Str)) ++ r2) ++ ([32, 62, 32] : Str)) ++ r3) ++ ([10] : Str)))) Z) ?_;refine Yq RK ?_;refine Xd ?_;obtain ⟨ca, H⟩ := H;refine Xa (Yb v2 1 Z Z ca) (Xe (vi (v2 + 1)) Z (Xb ?_));have cb := bg.drop 0 Z;obtain ⟨cc, cd⟩ := H;have ce := ax.stn a8;have cf := bg.std 0 Z;have cg := ((((((a3.st aq).st ar).st au).st a7).st ce).st cf);exact ⟨((out2 ++ (((((((nth d v2).Id) ++ ([58, 32] : Str)) ++ r2) ++ ([32, 62, 32] : Str)) ++ r3) ++ ([10] : Str))), v2 + 1), cd, cc, (Xy Z), cb, (lim_cat bh), cg⟩
 have H := Xo H a4;refine Yh (xin_hit ?_);exact Xc (Xd (Xe (vs out2) Z (Xf (vs out2) Z (Xb (Xm ⟨[vs out2], ⟨_, Z, Z⟩, out2, Z, H, a2.gr.g0, bm⟩)))))
def F130.E (c_ : Change) (Q : Bool → Prop) : Prop :=
 F85.E c_.Id (fun r => (if !r then Q false else (if !c_.Had then (if !c_.Has then Q false else (if c_.Had then (if c_.Has then F45.E c_.Was c_.Now (fun r2 => (if r2 then Q false else F45.E c_.Was (⟨[], (⟨0, []⟩ : Shape), []⟩ : Feat) (fun r3 => (if !r3 then Q false else F87.E c_.Now (fun r4 => (if r4 then Q (c_.Now.Id == c_.Id) else Q false)))))) else F45.E c_.Was (⟨[], (⟨0, []⟩ : Shape), []⟩ : Feat) (fun r5 => (if !r5 then Q false else F87.E c_.Now (fun r6 => (if r6 then Q (c_.Now.Id == c_.Id) else Q false))))) else F45.E c_.Was (⟨[], (⟨0, []⟩ : Shape), []⟩ : Feat) (fun r7 => (if !r7 then Q false else F87.E c_.Now (fun r8 => (if r8 then Q (c_.Now.Id == c_.Id) else Q false)))))) else (if c_.Had then (if c_.Has then F45.E c_.Was c_.Now (fun r9 => (if r9 then Q false else (if !c_.Has then F45.E c_.Now (⟨[], (⟨0, []⟩ : Shape), []⟩ : Feat) (fun r10 => (if !r10 then Q false else F87.E c_.Was (fun r11 => (if r11 then (if c_.Was.Id == c_.Id then Q true else Q false) else Q false)))) else F87.E c_.Was (fun r12 => (if r12 then (if c_.Was.Id == c_.Id then F87.E c_.Now (fun r13 => (if r13 then Q (c_.Now.Id == c_.Id) else Q false)) else Q false) else Q false))))) else (if !c_.Has then F45.E c_.Now (⟨[], (⟨0, []⟩ : Shape), []⟩ : Feat) (fun r14 => (if !r14 then Q false else F87.E c_.Was (fun r15 => (if r15 then (if c_.Was.Id == c_.Id then Q true else Q false) else Q false)))) else F87.E c_.Was (fun r16 => (if r16 then (if c_.Was.Id == c_.Id then F87.E c_.Now (fun r17 => (if r17 then Q (c_.Now.Id == c_.Id) else Q false)) else Q false) else Q false)))) else (if !c_.Has then F45.E c_.Now (⟨[], (⟨0, []⟩ : Shape), []⟩ : Feat) (fun r18 => (if !r18 then Q false else F87.E c_.Was (fun r19 => (if r19 then (if c_.Was.Id == c_.Id then Q true else Q false) else Q false)))) else F87.E c_.Was (fun r20 => (if r20 then (if c_.Was.Id == c_.Id then F87.E c_.Now (fun r21 => (if r21 then Q (c_.Now.Id == c_.Id) else Q false)) else Q false) else Q false)))))))
theorem F130.calls {c_ : Change} {A3 : Option Addr} {n4 c5 : Nat} {A8 : Option Addr} {n9 ae : Nat} {af : Option Addr} {ag ah : Nat} {ai : Option Addr} {aj ak : Nat} {Q : Bool → Prop} (H : F130.E c_ Q) (hO : Ok w0 O) (hs1 : Lim c_.Id) (hs2 : Lim c_.Was.Id) (hp6 : Sl kPt w0 (Fr O) (G A3 n4 c5) c_.Was.Shape.Pts) (bf : Sl kTag w0 (Fr O) (G A8 n9 ae) c_.Was.Tags) (bg : Lim c_.Now.Id) (bh : Sl kPt w0 (Fr O) (G af ag ah) c_.Now.Shape.Pts) (bi : Sl kTag w0 (Fr O) (G ai aj ak) c_.Now.Tags) :
  Ret Tryz.prog 46 [.agg #[vs c_.Id, vb c_.Had, vs c_.Was.Id, vi c_.Was.Shape.Kind, G A3 n4 c5, G A8 n9 ae, vb c_.Has, vs c_.Now.Id, vi c_.Now.Shape.Kind, G af ag ah, G ai aj ak]] w0 (fun v w' => ∃ (r0 : Bool), v = vb r0 ∧ Q r0 ∧ Gr w0 w' none) := by
 unfold F130.E at H;have hc0 := Ct.init hO;refine X9 Tryz.func46 Z 88 Z [.tmp 2] Z Z ?_;refine Xc (Xd (Yn [vs c_.Id, vb c_.Had, vs c_.Was.Id, vi c_.Was.Shape.Kind, G A3 n4 c5, G A8 n9 ae, vb c_.Has, vs c_.Now.Id, vi c_.Now.Shape.Kind, G af ag ah, G ai aj ak] Z fun dn aa dp hu28 dq dr => ?_));have cm := Fb.mk hc0.ok dp dr;have b6 := hc0.k0 dq;refine Xf (vb false) Z (Xb (Xc (Xc (Xd (Xa (Xj fa62_0 (Ad aa 0) (Ad aa 0) Z Z) (Xa (Xl ag9 cL (Ad aa 0) (vs c_.Id) Z (cm.cell Z)) ?_))))));refine Xs go65 (F85.calls H b6.ok hs1) Z ?_;rintro _ bn ⟨r, rfl, H, cn⟩;have ad := b6.k0 cn;refine Xa (X7 r Z) (Xe (vb (!r)) Z ?_);rcases X4 (!r) with ap | ap
 ·have H := Xn H ap;refine Xi ap Z (Xi ap Z (Xi ap Z (Xi ap Z (Xq Z (Xq Z (Xq Z (Xi ap Z (Xa (Xk true (vb true) ap Z) ?_))))))));refine Xe (vb true) Z (X5 (dj := 17) Z Z (.inl Z) (X5 (dj := 17) Z Z (.inl Z) (X5 (dj := 17) Z Z (.inl Z) (Xq Z (Xq Z (X5 (dj := 17) Z Z (.inl Z) (X5 (dj := 17) Z Z (.inl Z) (Xq Z ?_))))))));refine Xq Z (Xq Z (Xq Z (Xq Z (X5 (dj := 17) Z Z (.inl Z) (Xa (Xk true (vb true) Z Z) (Xb (Yu (b := true) Z Z ?_)))))));exact Xc (Xd (Xf (vb false) Z (Xb (Xm ⟨[vb false], ⟨_, Z, Z⟩, false, Z, H, ad.gr.g0⟩))))
 have H := Xo H ap;refine Xh ap Z (Xa (Xj fa62_1 (Ad aa 0) (Ad aa 1) Z Z) (Xh ap Z ?_));have ds := b6.stn cn;have al := (cm.st ds);refine Xa (Xl ag4 cL (Ad aa 1) (vb c_.Had) Z (al.cell Z)) (Xh ap Z (Xa (X7 c_.Had Z) (Xh ap Z (Xe (vb (!c_.Had)) Z ?_))));rcases X4 (!c_.Had) with ab | ab
 ·have H := Xn H ab;refine Xh ab Z (Xa (Xj fa62_3 (Ad aa 0) (Ad aa 6) Z Z) (Xh ab Z (Xa (Xl ag4 cL (Ad aa 6) (vb c_.Has) Z (al.cell Z)) (Xh ab Z (Xa (X7 c_.Has Z) (Xh ap Z (Xa (Xk true (vb (!c_.Has)) ab Z) (Xa (Xk false (vb (!c_.Has)) ap Z) ?_))))))));refine Xe (vb (!c_.Has)) Z ?_;rcases X4 (!c_.Has) with ac | ac
  ·have H := Xn H ac;refine Xi ac Z (Xi ac Z (Xi ac Z (Xq Z (Xq Z (Xi ac Z (Xi ac Z (Xq Z (Xq Z ?_))))))));refine Xq Z (Xq Z (Xq Z (Xi ac Z (Xa (Xk true (vb true) ac Z) (Xb (Yu (b := true) Z Z ?_))))));exact Xc (Xd (Xf (vb false) Z (Xb (Xm ⟨[vb false], ⟨_, Z, Z⟩, false, Z, H, ad.gr.g0⟩))))
  have H := Xo H ac;refine Xh ac Z (Xa (Xj fa62_1 (Ad aa 0) (Ad aa 1) Z Z) (Xh ac Z (Xa (Xl ag4 cL (Ad aa 1) (vb c_.Had) Z (al.cell Z)) (Xh ac Z (Xe (vb c_.Had) Z ?_)))));rcases X4 c_.Had with bl | bl
  ·have H := Xn H bl;refine Xh bl Z (Xa (Xj fa62_3 (Ad aa 0) (Ad aa 6) Z Z) (Xh bl Z (Xa (Xl ag4 cL (Ad aa 6) (vb c_.Has) Z (al.cell Z)) (Xh ac Z (Xa (Xk true (vb c_.Has) bl Z) (Xh ac Z (Xe (vb c_.Has) Z ?_)))))));rcases X4 c_.Has with a7 | a7
   ·have H := Xn H a7;refine Xh a7 Z (Xa (Xj fa62_2 (Ad aa 0) (Ad aa 2) Z Z) (Xh a7 Z (Xa (Xu ag44 sz44 cL (Ad aa 2) [vs c_.Was.Id, vi c_.Was.Shape.Kind, G A3 n4 c5, G A8 n9 ae] Z Z (al.cells (off := 2) Z)) (Xh a7 Z (Xa (Xj fa62_4 (Ad aa 0) (Ad aa 7) Z Z) (Xh a7 Z (Xa (Xu ag44 sz44 cL (Ad aa 7) [vs c_.Now.Id, vi c_.Now.Shape.Kind, G af ag ah, G ai aj ak] Z Z (al.cells (off := 7) Z)) (Xh a7 Z ?_))))))));refine Xs go94 (F45.calls H ad.ok hs2 (hp6.st ad.st) (bf.st ad.st) bg (bh.st ad.st) (bi.st ad.st)) Z ?_;rintro _ dt ⟨r2, rfl, H, co⟩;have bs := ad.k0 co;refine Xh ac Z (Xa (Xk true (vb r2) a7 Z) (Xa (Xk false (vb r2) ac Z) (Xb ?_)));refine Xw r2 Z (fun b7 => ?_) (fun b7 => ?_)
    ·have H := Xn H b7;exact Xc (Xd (Xf (vb false) Z (Xb (Xm ⟨[vb false], ⟨_, Z, Z⟩, false, Z, H, bs.gr.g0⟩))))
    have H := Xo H b7;refine Xx (Xc (Xc (Xd (Xa (Xj fa62_1 (Ad aa 0) (Ad aa 1) Z Z) ?_))));have du := ad.stn co;have b8 := (al.st du);refine Xa (Xl ag4 cL (Ad aa 1) (vb c_.Had) Z (b8.cell Z)) (Xa (X7 c_.Had Z) (Xe (vb (!c_.Had)) Z (Xh ab Z (Xa (Xj fa62_2 (Ad aa 0) (Ad aa 2) Z Z) (Xh ab Z (Xa (Xu ag44 sz44 cL (Ad aa 2) [vs c_.Was.Id, vi c_.Was.Shape.Kind, G A3 n4 c5, G A8 n9 ae] Z Z (b8.cells (off := 2) Z)) (Xh ab Z (Xa (Yo (.agg #[vs [], vi 0, G none 0 0, G none 0 0]) RF) ?_))))))));refine Xh ab Z ?_;refine Xs go94 (F45.calls H bs.ok hs2 (hp6.st bs.st) (bf.st bs.st) RD (Sl.nil _ _ _ none 0 RD) (Sl.nil _ _ _ none 0 RD)) Z ?_;rintro _ dv ⟨r3, rfl, H, cp⟩;have bt := bs.k0 cp;refine Xh ab Z (Xa (X7 r3 Z) (Xa (Xk true (vb (!r3)) ab Z) (Xe (vb (!r3)) Z ?_)));rcases X4 (!r3) with a8 | a8
    ·have H := Xn H a8;refine Xi a8 Z (Xi a8 Z (Xi a8 Z (Xi a8 Z (Xq Z (Xq Z (Xq Z (Xq Z (Xq Z ?_))))))));refine Xi a8 Z (Xa (Xk true (vb true) a8 Z) (Xb (Yu (b := true) Z Z ?_)));exact Xc (Xd (Xf (vb false) Z (Xb (Xm ⟨[vb false], ⟨_, Z, Z⟩, false, Z, H, bt.gr.g0⟩))))
    have H := Xo H a8;refine Xh a8 Z (Xa (Xj fa62_3 (Ad aa 0) (Ad aa 6) Z Z) (Xh a8 Z ?_));have dw := bs.stn cp;have b0 := (b8.st dw);refine Xa (Xl ag4 cL (Ad aa 6) (vb c_.Has) Z (b0.cell Z)) (Xh a8 Z (Xa (X7 c_.Has Z) (Xh a8 Z (Xe (vb (!c_.Has)) Z (Xi ac Z (Xi ac Z (Xi ac Z (Xi ac Z ?_))))))));refine Xi ac Z (Xh a8 Z (Xa (Xk false (vb false) ac Z) (Xa (Xk false (vb false) a8 Z) (Xb (Y4 (b := false) Z Z ?_)))));refine Xx (Xc (Xd (Xa (Xj fa62_1 (Ad aa 0) (Ad aa 1) Z Z) (Xa (Xl ag4 cL (Ad aa 1) (vb c_.Had) Z (b0.cell Z)) (Xa (X7 c_.Had Z) (Xe (vb (!c_.Had)) Z (Xi ab Z (Xi ab Z ?_))))))));refine Xi ab Z (Xi ab Z (Xq Z (Xq Z (Xq Z (Xq Z (Xq Z (Xq Z (Xi ab Z ?_))))))));refine Xa (Xk true (vb true) ab Z) (Xe (vb true) Z (Yf (dj := 70) Z Z Z (Xa (Xj fa62_3 (Ad aa 0) (Ad aa 6) Z Z) (Yf (dj := 70) Z Z Z (Xa (Xl ag4 cL (Ad aa 6) (vb c_.Has) Z (b0.cell Z)) (Yf (dj := 70) Z Z Z (Xa (X7 c_.Has Z) (Yf (dj := 70) Z Z Z ?_))))))));refine Xe (vb (!c_.Has)) Z (Xh ac Z (Xa (Xj fa62_4 (Ad aa 0) (Ad aa 7) Z Z) (Xh ac Z (Xa (Xu ag44 sz44 cL (Ad aa 7) [vs c_.Now.Id, vi c_.Now.Shape.Kind, G af ag ah, G ai aj ak] Z Z (b0.cells (off := 7) Z)) (Xh ac Z ?_)))));refine Xs go24 (F87.calls H bt.ok bg (bh.st bt.st) (bi.st bt.st)) Z ?_;rintro _ en ⟨r4, rfl, H, cq⟩;have cr := bt.k0 cq;refine Xh ac Z (Xe (vb r4) Z ?_);rcases X4 r4 with aq | aq
    ·have H := Xn H aq;refine Xh aq Z (Xa (Xj fa62_4 (Ad aa 0) (Ad aa 7) Z Z) (Xh aq Z (Xa (Xj fa44_0 (Ad aa 7) (Ad aa 7) Z Z) (Xh aq Z ?_))));have dx := bt.stn cq;have cs := (b0.st dx);refine Xa (Xl ag9 cL (Ad aa 7) (vs c_.Now.Id) Z (cs.cell Z)) (Xh aq Z (Xa (Xj fa62_0 (Ad aa 0) (Ad aa 0) Z Z) (Xh aq Z (Xa (Xl ag9 cL (Ad aa 0) (vs c_.Id) Z (cs.cell Z)) (Xh aq Z (Xa (Yl c_.Now.Id c_.Id (c_.Now.Id == c_.Id) Z Z Z) (Xh ac Z (Xa (Xk true (vb (c_.Now.Id == c_.Id)) aq Z) ?_))))))));exact Yf (dj := 70) Z Z Z (Xa (Xk false (vb (c_.Now.Id == c_.Id)) ac Z) (Xa (Xk true (vb (c_.Now.Id == c_.Id)) Z Z) (Xf (vb (c_.Now.Id == c_.Id)) Z (Xb (Xm ⟨[vb (c_.Now.Id == c_.Id)], ⟨_, Z, Z⟩, c_.Now.Id == c_.Id, Z, H, cr.gr.g0⟩)))))
    have H := Xo H aq;refine Xi aq Z (Xi aq Z (Xi aq Z (Xi aq Z (Xi aq Z (Xi aq Z (Xh ac Z (Xa (Xk false (vb false) aq Z) (Yf (dj := 70) Z Z Z ?_))))))));exact Xa (Xk false (vb false) ac Z) (Xa (Xk true (vb false) Z Z) (Xf (vb false) Z (Xb (Xm ⟨[vb false], ⟨_, Z, Z⟩, false, Z, H, cr.gr.g0⟩))))
   have H := Xo H a7;refine Xi a7 Z (Xi a7 Z (Xi a7 Z (Xi a7 Z (Xi a7 Z (Xh ac Z (Xa (Xk false (vb false) a7 Z) (Xa (Xk false (vb false) ac Z) (Xb ?_))))))));refine Y4 (b := false) Z Z ?_;refine Xx (Xc (Xc (Xd (Xa (Xj fa62_1 (Ad aa 0) (Ad aa 1) Z Z) (Xa (Xl ag4 cL (Ad aa 1) (vb c_.Had) Z (al.cell Z)) (Xa (X7 c_.Had Z) (Xe (vb (!c_.Had)) Z (Xh ab Z ?_))))))));refine Xa (Xj fa62_2 (Ad aa 0) (Ad aa 2) Z Z) (Xh ab Z (Xa (Xu ag44 sz44 cL (Ad aa 2) [vs c_.Was.Id, vi c_.Was.Shape.Kind, G A3 n4 c5, G A8 n9 ae] Z Z (al.cells (off := 2) Z)) (Xh ab Z (Xa (Yo (.agg #[vs [], vi 0, G none 0 0, G none 0 0]) RF) (Xh ab Z ?_)))));refine Xs go94 (F45.calls H ad.ok hs2 (hp6.st ad.st) (bf.st ad.st) RD (Sl.nil _ _ _ none 0 RD) (Sl.nil _ _ _ none 0 RD)) Z ?_;rintro _ dy ⟨r5, rfl, H, ct⟩;have bu := ad.k0 ct;refine Xh ab Z (Xa (X7 r5 Z) (Xa (Xk true (vb (!r5)) ab Z) (Xe (vb (!r5)) Z ?_)));rcases X4 (!r5) with a9 | a9
   ·have H := Xn H a9;refine Xi a9 Z (Xi a9 Z (Xi a9 Z (Xi a9 Z (Xq Z (Xq Z (Xq Z (Xq Z (Xq Z ?_))))))));refine Xi a9 Z (Xa (Xk true (vb true) a9 Z) (Xb (Yu (b := true) Z Z ?_)));exact Xc (Xd (Xf (vb false) Z (Xb (Xm ⟨[vb false], ⟨_, Z, Z⟩, false, Z, H, bu.gr.g0⟩))))
   have H := Xo H a9;refine Xh a9 Z (Xa (Xj fa62_3 (Ad aa 0) (Ad aa 6) Z Z) (Xh a9 Z ?_));have dz := ad.stn ct;have b1 := (al.st dz);refine Xa (Xl ag4 cL (Ad aa 6) (vb c_.Has) Z (b1.cell Z)) (Xh a9 Z (Xa (X7 c_.Has Z) (Xh a9 Z (Xe (vb (!c_.Has)) Z (Xi ac Z (Xi ac Z (Xi ac Z (Xi ac Z ?_))))))));refine Xi ac Z (Xh a9 Z (Xa (Xk false (vb false) ac Z) (Xa (Xk false (vb false) a9 Z) (Xb (Y4 (b := false) Z Z ?_)))));refine Xx (Xc (Xd (Xa (Xj fa62_1 (Ad aa 0) (Ad aa 1) Z Z) (Xa (Xl ag4 cL (Ad aa 1) (vb c_.Had) Z (b1.cell Z)) (Xa (X7 c_.Had Z) (Xe (vb (!c_.Had)) Z (Xi ab Z (Xi ab Z ?_))))))));refine Xi ab Z (Xi ab Z (Xq Z (Xq Z (Xq Z (Xq Z (Xq Z (Xq Z (Xi ab Z ?_))))))));refine Xa (Xk true (vb true) ab Z) (Xe (vb true) Z (Yf (dj := 70) Z Z Z (Xa (Xj fa62_3 (Ad aa 0) (Ad aa 6) Z Z) (Yf (dj := 70) Z Z Z (Xa (Xl ag4 cL (Ad aa 6) (vb c_.Has) Z (b1.cell Z)) (Yf (dj := 70) Z Z Z (Xa (X7 c_.Has Z) (Yf (dj := 70) Z Z Z ?_))))))));refine Xe (vb (!c_.Has)) Z (Xh ac Z (Xa (Xj fa62_4 (Ad aa 0) (Ad aa 7) Z Z) (Xh ac Z (Xa (Xu ag44 sz44 cL (Ad aa 7) [vs c_.Now.Id, vi c_.Now.Shape.Kind, G af ag ah, G ai aj ak] Z Z (b1.cells (off := 7) Z)) (Xh ac Z ?_)))));refine Xs go24 (F87.calls H bu.ok bg (bh.st bu.st) (bi.st bu.st)) Z ?_;rintro _ eo ⟨r6, rfl, H, cu⟩;have cv := bu.k0 cu;refine Xh ac Z (Xe (vb r6) Z ?_);rcases X4 r6 with ar | ar
   ·have H := Xn H ar;refine Xh ar Z (Xa (Xj fa62_4 (Ad aa 0) (Ad aa 7) Z Z) (Xh ar Z (Xa (Xj fa44_0 (Ad aa 7) (Ad aa 7) Z Z) (Xh ar Z ?_))));have d0 := bu.stn cu;have cw := (b1.st d0);refine Xa (Xl ag9 cL (Ad aa 7) (vs c_.Now.Id) Z (cw.cell Z)) (Xh ar Z (Xa (Xj fa62_0 (Ad aa 0) (Ad aa 0) Z Z) (Xh ar Z (Xa (Xl ag9 cL (Ad aa 0) (vs c_.Id) Z (cw.cell Z)) (Xh ar Z (Xa (Yl c_.Now.Id c_.Id (c_.Now.Id == c_.Id) Z Z Z) (Xh ac Z (Xa (Xk true (vb (c_.Now.Id == c_.Id)) ar Z) ?_))))))));exact Yf (dj := 70) Z Z Z (Xa (Xk false (vb (c_.Now.Id == c_.Id)) ac Z) (Xa (Xk true (vb (c_.Now.Id == c_.Id)) Z Z) (Xf (vb (c_.Now.Id == c_.Id)) Z (Xb (Xm ⟨[vb (c_.Now.Id == c_.Id)], ⟨_, Z, Z⟩, c_.Now.Id == c_.Id, Z, H, cv.gr.g0⟩)))))
   have H := Xo H ar;refine Xi ar Z (Xi ar Z (Xi ar Z (Xi ar Z (Xi ar Z (Xi ar Z (Xh ac Z (Xa (Xk false (vb false) ar Z) (Yf (dj := 70) Z Z Z ?_))))))));exact Xa (Xk false (vb false) ac Z) (Xa (Xk true (vb false) Z Z) (Xf (vb false) Z (Xb (Xm ⟨[vb false], ⟨_, Z, Z⟩, false, Z, H, cv.gr.g0⟩))))
  have H := Xo H bl;refine Xi bl Z (Xi bl Z (Xh ac Z (Xa (Xk false (vb false) bl Z) (Xh ac Z (Xe (vb false) Z (X5 (dj := 24) Z Z (.inl Z) (X5 (dj := 24) Z Z (.inl Z) (X5 (dj := 24) Z Z (.inl Z) ?_))))))));refine X5 (dj := 24) Z Z (.inl Z) (X5 (dj := 24) Z Z (.inl Z) (Xh ac Z (Xa (Xk false (vb false) Z Z) (Xa (Xk false (vb false) ac Z) (Xb (Y4 (b := false) Z Z ?_))))));refine Xx (Xc (Xc (Xd (Xa (Xj fa62_1 (Ad aa 0) (Ad aa 1) Z Z) (Xa (Xl ag4 cL (Ad aa 1) (vb c_.Had) Z (al.cell Z)) (Xa (X7 c_.Had Z) (Xe (vb (!c_.Had)) Z (Xh ab Z ?_))))))));refine Xa (Xj fa62_2 (Ad aa 0) (Ad aa 2) Z Z) (Xh ab Z (Xa (Xu ag44 sz44 cL (Ad aa 2) [vs c_.Was.Id, vi c_.Was.Shape.Kind, G A3 n4 c5, G A8 n9 ae] Z Z (al.cells (off := 2) Z)) (Xh ab Z (Xa (Yo (.agg #[vs [], vi 0, G none 0 0, G none 0 0]) RF) (Xh ab Z ?_)))));refine Xs go94 (F45.calls H ad.ok hs2 (hp6.st ad.st) (bf.st ad.st) RD (Sl.nil _ _ _ none 0 RD) (Sl.nil _ _ _ none 0 RD)) Z ?_;rintro _ d1 ⟨r7, rfl, H, cx⟩;have bv := ad.k0 cx;refine Xh ab Z (Xa (X7 r7 Z) (Xa (Xk true (vb (!r7)) ab Z) (Xe (vb (!r7)) Z ?_)));rcases X4 (!r7) with ba | ba
  ·have H := Xn H ba;refine Xi ba Z (Xi ba Z (Xi ba Z (Xi ba Z (Xq Z (Xq Z (Xq Z (Xq Z (Xq Z ?_))))))));refine Xi ba Z (Xa (Xk true (vb true) ba Z) (Xb (Yu (b := true) Z Z ?_)));exact Xc (Xd (Xf (vb false) Z (Xb (Xm ⟨[vb false], ⟨_, Z, Z⟩, false, Z, H, bv.gr.g0⟩))))
  have H := Xo H ba;refine Xh ba Z (Xa (Xj fa62_3 (Ad aa 0) (Ad aa 6) Z Z) (Xh ba Z ?_));have d2 := ad.stn cx;have b2 := (al.st d2);refine Xa (Xl ag4 cL (Ad aa 6) (vb c_.Has) Z (b2.cell Z)) (Xh ba Z (Xa (X7 c_.Has Z) (Xh ba Z (Xe (vb (!c_.Has)) Z (Xi ac Z (Xi ac Z (Xi ac Z (Xi ac Z ?_))))))));refine Xi ac Z (Xh ba Z (Xa (Xk false (vb false) ac Z) (Xa (Xk false (vb false) ba Z) (Xb (Y4 (b := false) Z Z ?_)))));refine Xx (Xc (Xd (Xa (Xj fa62_1 (Ad aa 0) (Ad aa 1) Z Z) (Xa (Xl ag4 cL (Ad aa 1) (vb c_.Had) Z (b2.cell Z)) (Xa (X7 c_.Had Z) (Xe (vb (!c_.Had)) Z (Xi ab Z (Xi ab Z ?_))))))));refine Xi ab Z (Xi ab Z (Xq Z (Xq Z (Xq Z (Xq Z (Xq Z (Xq Z (Xi ab Z ?_))))))));refine Xa (Xk true (vb true) ab Z) (Xe (vb true) Z (Yf (dj := 70) Z Z Z (Xa (Xj fa62_3 (Ad aa 0) (Ad aa 6) Z Z) (Yf (dj := 70) Z Z Z (Xa (Xl ag4 cL (Ad aa 6) (vb c_.Has) Z (b2.cell Z)) (Yf (dj := 70) Z Z Z (Xa (X7 c_.Has Z) (Yf (dj := 70) Z Z Z ?_))))))));refine Xe (vb (!c_.Has)) Z (Xh ac Z (Xa (Xj fa62_4 (Ad aa 0) (Ad aa 7) Z Z) (Xh ac Z (Xa (Xu ag44 sz44 cL (Ad aa 7) [vs c_.Now.Id, vi c_.Now.Shape.Kind, G af ag ah, G ai aj ak] Z Z (b2.cells (off := 7) Z)) (Xh ac Z ?_)))));refine Xs go24 (F87.calls H bv.ok bg (bh.st bv.st) (bi.st bv.st)) Z ?_;rintro _ ep ⟨r8, rfl, H, cy⟩;have cz := bv.k0 cy;refine Xh ac Z (Xe (vb r8) Z ?_);rcases X4 r8 with au | au
  ·have H := Xn H au;refine Xh au Z (Xa (Xj fa62_4 (Ad aa 0) (Ad aa 7) Z Z) (Xh au Z (Xa (Xj fa44_0 (Ad aa 7) (Ad aa 7) Z Z) (Xh au Z ?_))));have d3 := bv.stn cy;have c0 := (b2.st d3);refine Xa (Xl ag9 cL (Ad aa 7) (vs c_.Now.Id) Z (c0.cell Z)) (Xh au Z (Xa (Xj fa62_0 (Ad aa 0) (Ad aa 0) Z Z) (Xh au Z (Xa (Xl ag9 cL (Ad aa 0) (vs c_.Id) Z (c0.cell Z)) (Xh au Z (Xa (Yl c_.Now.Id c_.Id (c_.Now.Id == c_.Id) Z Z Z) (Xh ac Z (Xa (Xk true (vb (c_.Now.Id == c_.Id)) au Z) ?_))))))));exact Yf (dj := 70) Z Z Z (Xa (Xk false (vb (c_.Now.Id == c_.Id)) ac Z) (Xa (Xk true (vb (c_.Now.Id == c_.Id)) Z Z) (Xf (vb (c_.Now.Id == c_.Id)) Z (Xb (Xm ⟨[vb (c_.Now.Id == c_.Id)], ⟨_, Z, Z⟩, c_.Now.Id == c_.Id, Z, H, cz.gr.g0⟩)))))
  have H := Xo H au;refine Xi au Z (Xi au Z (Xi au Z (Xi au Z (Xi au Z (Xi au Z (Xh ac Z (Xa (Xk false (vb false) au Z) (Yf (dj := 70) Z Z Z ?_))))))));exact Xa (Xk false (vb false) ac Z) (Xa (Xk true (vb false) Z Z) (Xf (vb false) Z (Xb (Xm ⟨[vb false], ⟨_, Z, Z⟩, false, Z, H, cz.gr.g0⟩))))
 have H := Xo H ab;refine Xi ab Z (Xi ab Z (Xi ab Z (Xh ap Z (Xa (Xk false (vb false) ab Z) (Xa (Xk false (vb false) ap Z) (Xe (vb false) Z (Yf (dj := 17) Z Z Z (Xa (Xj fa62_1 (Ad aa 0) (Ad aa 1) Z Z) ?_))))))));refine Yf (dj := 17) Z Z Z (Xa (Xl ag4 cL (Ad aa 1) (vb c_.Had) Z (al.cell Z)) (Yf (dj := 17) Z Z Z (Xe (vb c_.Had) Z ?_)));rcases X4 c_.Had with bm | bm
 ·have H := Xn H bm;refine Xh bm Z (Xa (Xj fa62_3 (Ad aa 0) (Ad aa 6) Z Z) (Xh bm Z (Xa (Xl ag4 cL (Ad aa 6) (vb c_.Has) Z (al.cell Z)) (Yf (dj := 17) Z Z Z (Xa (Xk true (vb c_.Has) bm Z) (Yf (dj := 17) Z Z Z (Xe (vb c_.Has) Z ?_)))))));rcases X4 c_.Has with bb | bb
  ·have H := Xn H bb;refine Xh bb Z (Xa (Xj fa62_2 (Ad aa 0) (Ad aa 2) Z Z) (Xh bb Z (Xa (Xu ag44 sz44 cL (Ad aa 2) [vs c_.Was.Id, vi c_.Was.Shape.Kind, G A3 n4 c5, G A8 n9 ae] Z Z (al.cells (off := 2) Z)) (Xh bb Z (Xa (Xj fa62_4 (Ad aa 0) (Ad aa 7) Z Z) (Xh bb Z (Xa (Xu ag44 sz44 cL (Ad aa 7) [vs c_.Now.Id, vi c_.Now.Shape.Kind, G af ag ah, G ai aj ak] Z Z (al.cells (off := 7) Z)) (Xh bb Z ?_))))))));refine Xs go94 (F45.calls H ad.ok hs2 (hp6.st ad.st) (bf.st ad.st) bg (bh.st ad.st) (bi.st ad.st)) Z ?_;rintro _ c1 ⟨r9, rfl, H, c2⟩;have bj := ad.k0 c2;refine Yf (dj := 17) Z Z Z (Xa (Xk true (vb r9) bb Z) (Xa (Xk false (vb r9) Z Z) (Xb ?_)));refine Xw r9 Z (fun b9 => ?_) (fun b9 => ?_)
   ·have H := Xn H b9;exact Xc (Xd (Xf (vb false) Z (Xb (Xm ⟨[vb false], ⟨_, Z, Z⟩, false, Z, H, bj.gr.g0⟩))))
   have H := Xo H b9;refine Xx (Xc (Xc (Xd (Xa (Xj fa62_1 (Ad aa 0) (Ad aa 1) Z Z) ?_))));have d4 := ad.stn c2;have bo := (al.st d4);refine Xa (Xl ag4 cL (Ad aa 1) (vb c_.Had) Z (bo.cell Z)) (Xa (X7 c_.Had Z) (Xe (vb (!c_.Had)) Z (Xi ab Z (Xi ab Z (Xi ab Z (Xi ab Z (Xi ab Z (Xa (Xk false (vb false) ab Z) ?_))))))));refine Xe (vb false) Z (Yf (dj := 42) Z Z Z (Xa (Xj fa62_3 (Ad aa 0) (Ad aa 6) Z Z) (Yf (dj := 42) Z Z Z (Xa (Xl ag4 cL (Ad aa 6) (vb c_.Has) Z (bo.cell Z)) (Yf (dj := 42) Z Z Z (Xa (X7 c_.Has Z) (Yf (dj := 42) Z Z Z (Xe (vb (!c_.Has)) Z ?_))))))));rcases X4 (!c_.Has) with am | am
   ·have H := Xn H am;refine Xh am Z (Xa (Xj fa62_4 (Ad aa 0) (Ad aa 7) Z Z) (Xh am Z (Xa (Xu ag44 sz44 cL (Ad aa 7) [vs c_.Now.Id, vi c_.Now.Shape.Kind, G af ag ah, G ai aj ak] Z Z (bo.cells (off := 7) Z)) (Xh am Z (Xa (Yo (.agg #[vs [], vi 0, G none 0 0, G none 0 0]) RF) (Xh am Z ?_))))));refine Xs go94 (F45.calls H bj.ok bg (bh.st bj.st) (bi.st bj.st) RD (Sl.nil _ _ _ none 0 RD) (Sl.nil _ _ _ none 0 RD)) Z ?_;rintro _ d5 ⟨r10, rfl, H, c3⟩;have bw := bj.k0 c3;refine Xh am Z (Xa (X7 r10 Z) (Yf (dj := 42) Z Z Z (Xa (Xk true (vb (!r10)) am Z) (Xa (Xk false (vb (!r10)) Z Z) (Xb ?_)))));refine Xw (!r10) Z (fun ca => ?_) (fun ca => ?_)
    ·have H := Xn H ca;exact Xc (Xd (Xf (vb false) Z (Xb (Xm ⟨[vb false], ⟨_, Z, Z⟩, false, Z, H, bw.gr.g0⟩))))
    have H := Xo H ca;refine Xx (Xc (Xd (Xa (Xj fa62_1 (Ad aa 0) (Ad aa 1) Z Z) ?_)));have d6 := bj.stn c3;have cb := (bo.st d6);refine Xa (Xl ag4 cL (Ad aa 1) (vb c_.Had) Z (cb.cell Z)) (Xa (X7 c_.Had Z) (Xe (vb (!c_.Had)) Z (Xh ab Z (Xa (Xj fa62_2 (Ad aa 0) (Ad aa 2) Z Z) (Xh ab Z (Xa (Xu ag44 sz44 cL (Ad aa 2) [vs c_.Was.Id, vi c_.Was.Shape.Kind, G A3 n4 c5, G A8 n9 ae] Z Z (cb.cells (off := 2) Z)) (Xh ab Z ?_)))))));refine Xs go24 (F87.calls H bw.ok hs2 (hp6.st bw.st) (bf.st bw.st)) Z ?_;rintro _ eq ⟨r11, rfl, H, c4⟩;have cc := bw.k0 c4;refine Xh ab Z (Xe (vb r11) Z ?_);rcases X4 r11 with av | av
    ·have H := Xn H av;refine Xh av Z (Xa (Xj fa62_2 (Ad aa 0) (Ad aa 2) Z Z) (Xh av Z (Xa (Xj fa44_0 (Ad aa 2) (Ad aa 2) Z Z) (Xh av Z ?_))));have d7 := bw.stn c4;have cd := (cb.st d7);refine Xa (Xl ag9 cL (Ad aa 2) (vs c_.Was.Id) Z (cd.cell Z)) (Xh av Z (Xa (Xj fa62_0 (Ad aa 0) (Ad aa 0) Z Z) (Xh av Z (Xa (Xl ag9 cL (Ad aa 0) (vs c_.Id) Z (cd.cell Z)) (Xh av Z (Xa (Yl c_.Was.Id c_.Id (c_.Was.Id == c_.Id) Z Z Z) (Xh ab Z (Xa (Xk true (vb (c_.Was.Id == c_.Id)) av Z) ?_))))))));refine Xa (Xk false (vb (c_.Was.Id == c_.Id)) ab Z) (Xe (vb (c_.Was.Id == c_.Id)) Z ?_);rcases X4 (c_.Was.Id == c_.Id) with bc | bc
     ·have H := Xn H bc;refine Xh bc Z (Xa (Xj fa62_3 (Ad aa 0) (Ad aa 6) Z Z) (Xh bc Z (Xa (Xl ag4 cL (Ad aa 6) (vb c_.Has) Z (cd.cell Z)) (Xh bc Z (Xa (X7 c_.Has Z) (Xh bc Z (Xe (vb (!c_.Has)) Z (Xi am Z ?_))))))));refine Xi am Z (Xi am Z (Xi am Z (Xq Z (Xq Z (Xq Z (Xq Z (Xq Z (Xq Z ?_))))))));exact Xi am Z (Xh bc Z (Xa (Xk true (vb true) am Z) (Xa (Xk true (vb true) bc Z) (Xf (vb true) Z (Xb (Xm ⟨[vb true], ⟨_, Z, Z⟩, true, Z, H, cc.gr.g0⟩))))))
     have H := Xo H bc;refine Xi bc Z (Xi bc Z (Xi bc Z (Xi bc Z (Xq Z (Xq Z (Xq Z (Xq Z (Xq Z ?_))))))));refine Xq Z (Xq Z (Xq Z (Xq Z (Xq Z (Xq Z (Xi bc Z (Xa (Xk false (vb false) bc Z) (Xf (vb false) Z ?_))))))));exact Xb (Xm ⟨[vb false], ⟨_, Z, Z⟩, false, Z, H, cc.gr.g0⟩)
    have H := Xo H av;refine Xi av Z (Xi av Z (Xi av Z (Xi av Z (Xi av Z (Xi av Z (Xh ab Z (Xa (Xk false (vb false) av Z) (Xa (Xk false (vb false) ab Z) ?_))))))));refine Xe (vb false) Z (X5 (dj := 70) Z Z (.inl Z) (X5 (dj := 70) Z Z (.inl Z) (X5 (dj := 70) Z Z (.inl Z) (X5 (dj := 70) Z Z (.inl Z) (Xq Z (Xq Z (Xq Z (Xq Z ?_))))))));refine Xq Z (Xq Z (Xq Z (Xq Z (Xq Z (Xq Z (Xq Z (X5 (dj := 70) Z Z (.inl Z) (Xa (Xk false (vb false) Z Z) ?_))))))));exact Xf (vb false) Z (Xb (Xm ⟨[vb false], ⟨_, Z, Z⟩, false, Z, H, cc.gr.g0⟩))
   have H := Xo H am;refine Xi am Z (Xi am Z (Xi am Z (Xi am Z (Xi am Z (Yf (dj := 42) Z Z Z (Xa (Xk false (vb false) am Z) (Xa (Xk false (vb false) Z Z) (Xb ?_))))))));refine Y4 (b := false) Z Z ?_;refine Xx (Xc (Xd (Xa (Xj fa62_1 (Ad aa 0) (Ad aa 1) Z Z) (Xa (Xl ag4 cL (Ad aa 1) (vb c_.Had) Z (bo.cell Z)) (Xa (X7 c_.Had Z) (Xe (vb (!c_.Had)) Z (Xh ab Z (Xa (Xj fa62_2 (Ad aa 0) (Ad aa 2) Z Z) ?_))))))));refine Xh ab Z (Xa (Xu ag44 sz44 cL (Ad aa 2) [vs c_.Was.Id, vi c_.Was.Shape.Kind, G A3 n4 c5, G A8 n9 ae] Z Z (bo.cells (off := 2) Z)) (Xh ab Z ?_));refine Xs go24 (F87.calls H bj.ok hs2 (hp6.st bj.st) (bf.st bj.st)) Z ?_;rintro _ d8 ⟨r12, rfl, H, c6⟩;have bp := bj.k0 c6;refine Xh ab Z (Xe (vb r12) Z ?_);rcases X4 r12 with aw | aw
   ·have H := Xn H aw;refine Xh aw Z (Xa (Xj fa62_2 (Ad aa 0) (Ad aa 2) Z Z) (Xh aw Z (Xa (Xj fa44_0 (Ad aa 2) (Ad aa 2) Z Z) (Xh aw Z ?_))));have d9 := bj.stn c6;have b3 := (bo.st d9);refine Xa (Xl ag9 cL (Ad aa 2) (vs c_.Was.Id) Z (b3.cell Z)) (Xh aw Z (Xa (Xj fa62_0 (Ad aa 0) (Ad aa 0) Z Z) (Xh aw Z (Xa (Xl ag9 cL (Ad aa 0) (vs c_.Id) Z (b3.cell Z)) (Xh aw Z (Xa (Yl c_.Was.Id c_.Id (c_.Was.Id == c_.Id) Z Z Z) (Xh ab Z (Xa (Xk true (vb (c_.Was.Id == c_.Id)) aw Z) ?_))))))));refine Xa (Xk false (vb (c_.Was.Id == c_.Id)) ab Z) (Xe (vb (c_.Was.Id == c_.Id)) Z ?_);rcases X4 (c_.Was.Id == c_.Id) with ax | ax
    ·have H := Xn H ax;refine Xh ax Z (Xa (Xj fa62_3 (Ad aa 0) (Ad aa 6) Z Z) (Xh ax Z (Xa (Xl ag4 cL (Ad aa 6) (vb c_.Has) Z (b3.cell Z)) (Xh ax Z (Xa (X7 c_.Has Z) (Xh ax Z (Xe (vb (!c_.Has)) Z (Xh am Z ?_))))))));refine Xa (Xj fa62_4 (Ad aa 0) (Ad aa 7) Z Z) (Xh am Z (Xa (Xu ag44 sz44 cL (Ad aa 7) [vs c_.Now.Id, vi c_.Now.Shape.Kind, G af ag ah, G ai aj ak] Z Z (b3.cells (off := 7) Z)) (Xh am Z ?_)));refine Xs go24 (F87.calls H bp.ok bg (bh.st bp.st) (bi.st bp.st)) Z ?_;rintro _ er ⟨r13, rfl, H, c7⟩;have c8 := bp.k0 c7;refine Xh am Z (Xe (vb r13) Z ?_);rcases X4 r13 with ay | ay
     ·have H := Xn H ay;refine Xh ay Z (Xa (Xj fa62_4 (Ad aa 0) (Ad aa 7) Z Z) (Xh ay Z (Xa (Xj fa44_0 (Ad aa 7) (Ad aa 7) Z Z) (Xh ay Z ?_))));have ea := bp.stn c7;have c9 := (b3.st ea);refine Xa (Xl ag9 cL (Ad aa 7) (vs c_.Now.Id) Z (c9.cell Z)) (Xh ay Z (Xa (Xj fa62_0 (Ad aa 0) (Ad aa 0) Z Z) (Xh ay Z (Xa (Xl ag9 cL (Ad aa 0) (vs c_.Id) Z (c9.cell Z)) (Xh ay Z (Xa (Yl c_.Now.Id c_.Id (c_.Now.Id == c_.Id) Z Z Z) (Xh am Z (Xa (Xk true (vb (c_.Now.Id == c_.Id)) ay Z) ?_))))))));exact Xh ax Z (Xa (Xk false (vb (c_.Now.Id == c_.Id)) am Z) (Xa (Xk true (vb (c_.Now.Id == c_.Id)) ax Z) (Xf (vb (c_.Now.Id == c_.Id)) Z (Xb (Xm ⟨[vb (c_.Now.Id == c_.Id)], ⟨_, Z, Z⟩, c_.Now.Id == c_.Id, Z, H, c8.gr.g0⟩)))))
     have H := Xo H ay;refine Xi ay Z (Xi ay Z (Xi ay Z (Xi ay Z (Xi ay Z (Xi ay Z (Xh am Z (Xa (Xk false (vb false) ay Z) (Xh ax Z ?_))))))));exact Xa (Xk false (vb false) am Z) (Xa (Xk true (vb false) ax Z) (Xf (vb false) Z (Xb (Xm ⟨[vb false], ⟨_, Z, Z⟩, false, Z, H, c8.gr.g0⟩))))
    have H := Xo H ax;refine Xi ax Z (Xi ax Z (Xi ax Z (Xi ax Z (Xq Z (Xq Z (Xq Z (Xq Z (Xq Z ?_))))))));refine Xq Z (Xq Z (Xq Z (Xq Z (Xq Z (Xq Z (Xi ax Z (Xa (Xk false (vb false) ax Z) (Xf (vb false) Z ?_))))))));exact Xb (Xm ⟨[vb false], ⟨_, Z, Z⟩, false, Z, H, bp.gr.g0⟩)
   have H := Xo H aw;refine Xi aw Z (Xi aw Z (Xi aw Z (Xi aw Z (Xi aw Z (Xi aw Z (Xh ab Z (Xa (Xk false (vb false) aw Z) (Xa (Xk false (vb false) ab Z) ?_))))))));refine Xe (vb false) Z (X5 (dj := 70) Z Z (.inl Z) (X5 (dj := 70) Z Z (.inl Z) (X5 (dj := 70) Z Z (.inl Z) (X5 (dj := 70) Z Z (.inl Z) (Xq Z (Xq Z (Xq Z (Xq Z ?_))))))));refine Xq Z (Xq Z (Xq Z (Xq Z (Xq Z (Xq Z (Xq Z (X5 (dj := 70) Z Z (.inl Z) (Xa (Xk false (vb false) Z Z) ?_))))))));exact Xf (vb false) Z (Xb (Xm ⟨[vb false], ⟨_, Z, Z⟩, false, Z, H, bp.gr.g0⟩))
  have H := Xo H bb;refine Xi bb Z (Xi bb Z (Xi bb Z (Xi bb Z (Xi bb Z (Yf (dj := 17) Z Z Z (Xa (Xk false (vb false) bb Z) (Xa (Xk false (vb false) Z Z) (Xb ?_))))))));refine Y4 (b := false) Z Z ?_;refine Xx (Xc (Xc (Xd (Xa (Xj fa62_1 (Ad aa 0) (Ad aa 1) Z Z) (Xa (Xl ag4 cL (Ad aa 1) (vb c_.Had) Z (al.cell Z)) (Xa (X7 c_.Had Z) (Xe (vb (!c_.Had)) Z (Xi ab Z ?_))))))));refine Xi ab Z (Xi ab Z (Xi ab Z (Xi ab Z (Xa (Xk false (vb false) ab Z) (Xe (vb false) Z (Yf (dj := 42) Z Z Z (Xa (Xj fa62_3 (Ad aa 0) (Ad aa 6) Z Z) (Yf (dj := 42) Z Z Z ?_))))))));refine Xa (Xl ag4 cL (Ad aa 6) (vb c_.Has) Z (al.cell Z)) (Yf (dj := 42) Z Z Z (Xa (X7 c_.Has Z) (Yf (dj := 42) Z Z Z (Xe (vb (!c_.Has)) Z ?_))));rcases X4 (!c_.Has) with an | an
  ·have H := Xn H an;refine Xh an Z (Xa (Xj fa62_4 (Ad aa 0) (Ad aa 7) Z Z) (Xh an Z (Xa (Xu ag44 sz44 cL (Ad aa 7) [vs c_.Now.Id, vi c_.Now.Shape.Kind, G af ag ah, G ai aj ak] Z Z (al.cells (off := 7) Z)) (Xh an Z (Xa (Yo (.agg #[vs [], vi 0, G none 0 0, G none 0 0]) RF) (Xh an Z ?_))))));refine Xs go94 (F45.calls H ad.ok bg (bh.st ad.st) (bi.st ad.st) RD (Sl.nil _ _ _ none 0 RD) (Sl.nil _ _ _ none 0 RD)) Z ?_;rintro _ eb ⟨r14, rfl, H, da⟩;have bx := ad.k0 da;refine Xh an Z (Xa (X7 r14 Z) (Yf (dj := 42) Z Z Z (Xa (Xk true (vb (!r14)) an Z) (Xa (Xk false (vb (!r14)) Z Z) (Xb ?_)))));refine Xw (!r14) Z (fun ce => ?_) (fun ce => ?_)
   ·have H := Xn H ce;exact Xc (Xd (Xf (vb false) Z (Xb (Xm ⟨[vb false], ⟨_, Z, Z⟩, false, Z, H, bx.gr.g0⟩))))
   have H := Xo H ce;refine Xx (Xc (Xd (Xa (Xj fa62_1 (Ad aa 0) (Ad aa 1) Z Z) ?_)));have ec := ad.stn da;have cf := (al.st ec);refine Xa (Xl ag4 cL (Ad aa 1) (vb c_.Had) Z (cf.cell Z)) (Xa (X7 c_.Had Z) (Xe (vb (!c_.Had)) Z (Xh ab Z (Xa (Xj fa62_2 (Ad aa 0) (Ad aa 2) Z Z) (Xh ab Z (Xa (Xu ag44 sz44 cL (Ad aa 2) [vs c_.Was.Id, vi c_.Was.Shape.Kind, G A3 n4 c5, G A8 n9 ae] Z Z (cf.cells (off := 2) Z)) (Xh ab Z ?_)))))));refine Xs go24 (F87.calls H bx.ok hs2 (hp6.st bx.st) (bf.st bx.st)) Z ?_;rintro _ es ⟨r15, rfl, H, db⟩;have cg := bx.k0 db;refine Xh ab Z (Xe (vb r15) Z ?_);rcases X4 r15 with az | az
   ·have H := Xn H az;refine Xh az Z (Xa (Xj fa62_2 (Ad aa 0) (Ad aa 2) Z Z) (Xh az Z (Xa (Xj fa44_0 (Ad aa 2) (Ad aa 2) Z Z) (Xh az Z ?_))));have ed := bx.stn db;have ch := (cf.st ed);refine Xa (Xl ag9 cL (Ad aa 2) (vs c_.Was.Id) Z (ch.cell Z)) (Xh az Z (Xa (Xj fa62_0 (Ad aa 0) (Ad aa 0) Z Z) (Xh az Z (Xa (Xl ag9 cL (Ad aa 0) (vs c_.Id) Z (ch.cell Z)) (Xh az Z (Xa (Yl c_.Was.Id c_.Id (c_.Was.Id == c_.Id) Z Z Z) (Xh ab Z (Xa (Xk true (vb (c_.Was.Id == c_.Id)) az Z) ?_))))))));refine Xa (Xk false (vb (c_.Was.Id == c_.Id)) ab Z) (Xe (vb (c_.Was.Id == c_.Id)) Z ?_);rcases X4 (c_.Was.Id == c_.Id) with bd | bd
    ·have H := Xn H bd;refine Xh bd Z (Xa (Xj fa62_3 (Ad aa 0) (Ad aa 6) Z Z) (Xh bd Z (Xa (Xl ag4 cL (Ad aa 6) (vb c_.Has) Z (ch.cell Z)) (Xh bd Z (Xa (X7 c_.Has Z) (Xh bd Z (Xe (vb (!c_.Has)) Z (Xi an Z ?_))))))));refine Xi an Z (Xi an Z (Xi an Z (Xq Z (Xq Z (Xq Z (Xq Z (Xq Z (Xq Z ?_))))))));exact Xi an Z (Xh bd Z (Xa (Xk true (vb true) an Z) (Xa (Xk true (vb true) bd Z) (Xf (vb true) Z (Xb (Xm ⟨[vb true], ⟨_, Z, Z⟩, true, Z, H, cg.gr.g0⟩))))))
    have H := Xo H bd;refine Xi bd Z (Xi bd Z (Xi bd Z (Xi bd Z (Xq Z (Xq Z (Xq Z (Xq Z (Xq Z ?_))))))));refine Xq Z (Xq Z (Xq Z (Xq Z (Xq Z (Xq Z (Xi bd Z (Xa (Xk false (vb false) bd Z) (Xf (vb false) Z ?_))))))));exact Xb (Xm ⟨[vb false], ⟨_, Z, Z⟩, false, Z, H, cg.gr.g0⟩)
   have H := Xo H az;refine Xi az Z (Xi az Z (Xi az Z (Xi az Z (Xi az Z (Xi az Z (Xh ab Z (Xa (Xk false (vb false) az Z) (Xa (Xk false (vb false) ab Z) ?_))))))));refine Xe (vb false) Z (X5 (dj := 70) Z Z (.inl Z) (X5 (dj := 70) Z Z (.inl Z) (X5 (dj := 70) Z Z (.inl Z) (X5 (dj := 70) Z Z (.inl Z) (Xq Z (Xq Z (Xq Z (Xq Z ?_))))))));refine Xq Z (Xq Z (Xq Z (Xq Z (Xq Z (Xq Z (Xq Z (X5 (dj := 70) Z Z (.inl Z) (Xa (Xk false (vb false) Z Z) ?_))))))));exact Xf (vb false) Z (Xb (Xm ⟨[vb false], ⟨_, Z, Z⟩, false, Z, H, cg.gr.g0⟩))
  have H := Xo H an;refine Xi an Z (Xi an Z (Xi an Z (Xi an Z (Xi an Z (Yf (dj := 42) Z Z Z (Xa (Xk false (vb false) an Z) (Xa (Xk false (vb false) Z Z) (Xb ?_))))))));refine Y4 (b := false) Z Z ?_;refine Xx (Xc (Xd (Xa (Xj fa62_1 (Ad aa 0) (Ad aa 1) Z Z) (Xa (Xl ag4 cL (Ad aa 1) (vb c_.Had) Z (al.cell Z)) (Xa (X7 c_.Had Z) (Xe (vb (!c_.Had)) Z (Xh ab Z (Xa (Xj fa62_2 (Ad aa 0) (Ad aa 2) Z Z) ?_))))))));refine Xh ab Z (Xa (Xu ag44 sz44 cL (Ad aa 2) [vs c_.Was.Id, vi c_.Was.Shape.Kind, G A3 n4 c5, G A8 n9 ae] Z Z (al.cells (off := 2) Z)) (Xh ab Z ?_));refine Xs go24 (F87.calls H ad.ok hs2 (hp6.st ad.st) (bf.st ad.st)) Z ?_;rintro _ ee ⟨r16, rfl, H, dc⟩;have bq := ad.k0 dc;refine Xh ab Z (Xe (vb r16) Z ?_);rcases X4 r16 with a0 | a0
  ·have H := Xn H a0;refine Xh a0 Z (Xa (Xj fa62_2 (Ad aa 0) (Ad aa 2) Z Z) (Xh a0 Z (Xa (Xj fa44_0 (Ad aa 2) (Ad aa 2) Z Z) (Xh a0 Z ?_))));have ef := ad.stn dc;have b4 := (al.st ef);refine Xa (Xl ag9 cL (Ad aa 2) (vs c_.Was.Id) Z (b4.cell Z)) (Xh a0 Z (Xa (Xj fa62_0 (Ad aa 0) (Ad aa 0) Z Z) (Xh a0 Z (Xa (Xl ag9 cL (Ad aa 0) (vs c_.Id) Z (b4.cell Z)) (Xh a0 Z (Xa (Yl c_.Was.Id c_.Id (c_.Was.Id == c_.Id) Z Z Z) (Xh ab Z (Xa (Xk true (vb (c_.Was.Id == c_.Id)) a0 Z) ?_))))))));refine Xa (Xk false (vb (c_.Was.Id == c_.Id)) ab Z) (Xe (vb (c_.Was.Id == c_.Id)) Z ?_);rcases X4 (c_.Was.Id == c_.Id) with a1 | a1
   ·have H := Xn H a1;refine Xh a1 Z (Xa (Xj fa62_3 (Ad aa 0) (Ad aa 6) Z Z) (Xh a1 Z (Xa (Xl ag4 cL (Ad aa 6) (vb c_.Has) Z (b4.cell Z)) (Xh a1 Z (Xa (X7 c_.Has Z) (Xh a1 Z (Xe (vb (!c_.Has)) Z (Xh an Z ?_))))))));refine Xa (Xj fa62_4 (Ad aa 0) (Ad aa 7) Z Z) (Xh an Z (Xa (Xu ag44 sz44 cL (Ad aa 7) [vs c_.Now.Id, vi c_.Now.Shape.Kind, G af ag ah, G ai aj ak] Z Z (b4.cells (off := 7) Z)) (Xh an Z ?_)));refine Xs go24 (F87.calls H bq.ok bg (bh.st bq.st) (bi.st bq.st)) Z ?_;rintro _ et ⟨r17, rfl, H, dd⟩;have de := bq.k0 dd;refine Xh an Z (Xe (vb r17) Z ?_);rcases X4 r17 with a2 | a2
    ·have H := Xn H a2;refine Xh a2 Z (Xa (Xj fa62_4 (Ad aa 0) (Ad aa 7) Z Z) (Xh a2 Z (Xa (Xj fa44_0 (Ad aa 7) (Ad aa 7) Z Z) (Xh a2 Z ?_))));have eg := bq.stn dd;have df := (b4.st eg);refine Xa (Xl ag9 cL (Ad aa 7) (vs c_.Now.Id) Z (df.cell Z)) (Xh a2 Z (Xa (Xj fa62_0 (Ad aa 0) (Ad aa 0) Z Z) (Xh a2 Z (Xa (Xl ag9 cL (Ad aa 0) (vs c_.Id) Z (df.cell Z)) (Xh a2 Z (Xa (Yl c_.Now.Id c_.Id (c_.Now.Id == c_.Id) Z Z Z) (Xh an Z (Xa (Xk true (vb (c_.Now.Id == c_.Id)) a2 Z) ?_))))))));exact Xh a1 Z (Xa (Xk false (vb (c_.Now.Id == c_.Id)) an Z) (Xa (Xk true (vb (c_.Now.Id == c_.Id)) a1 Z) (Xf (vb (c_.Now.Id == c_.Id)) Z (Xb (Xm ⟨[vb (c_.Now.Id == c_.Id)], ⟨_, Z, Z⟩, c_.Now.Id == c_.Id, Z, H, de.gr.g0⟩)))))
    have H := Xo H a2;refine Xi a2 Z (Xi a2 Z (Xi a2 Z (Xi a2 Z (Xi a2 Z (Xi a2 Z (Xh an Z (Xa (Xk false (vb false) a2 Z) (Xh a1 Z ?_))))))));exact Xa (Xk false (vb false) an Z) (Xa (Xk true (vb false) a1 Z) (Xf (vb false) Z (Xb (Xm ⟨[vb false], ⟨_, Z, Z⟩, false, Z, H, de.gr.g0⟩))))
   have H := Xo H a1;refine Xi a1 Z (Xi a1 Z (Xi a1 Z (Xi a1 Z (Xq Z (Xq Z (Xq Z (Xq Z (Xq Z ?_))))))));refine Xq Z (Xq Z (Xq Z (Xq Z (Xq Z (Xq Z (Xi a1 Z (Xa (Xk false (vb false) a1 Z) (Xf (vb false) Z ?_))))))));exact Xb (Xm ⟨[vb false], ⟨_, Z, Z⟩, false, Z, H, bq.gr.g0⟩)
  have H := Xo H a0;refine Xi a0 Z (Xi a0 Z (Xi a0 Z (Xi a0 Z (Xi a0 Z (Xi a0 Z (Xh ab Z (Xa (Xk false (vb false) a0 Z) (Xa (Xk false (vb false) ab Z) ?_))))))));refine Xe (vb false) Z (X5 (dj := 70) Z Z (.inl Z) (X5 (dj := 70) Z Z (.inl Z) (X5 (dj := 70) Z Z (.inl Z) (X5 (dj := 70) Z Z (.inl Z) (Xq Z (Xq Z (Xq Z (Xq Z ?_))))))));refine Xq Z (Xq Z (Xq Z (Xq Z (Xq Z (Xq Z (Xq Z (X5 (dj := 70) Z Z (.inl Z) (Xa (Xk false (vb false) Z Z) ?_))))))));exact Xf (vb false) Z (Xb (Xm ⟨[vb false], ⟨_, Z, Z⟩, false, Z, H, bq.gr.g0⟩))
 have H := Xo H bm;refine Xi bm Z (Xi bm Z (Yf (dj := 17) Z Z Z (Xa (Xk false (vb false) bm Z) (Yf (dj := 17) Z Z Z (Xe (vb false) Z (X5 (dj := 24) Z Z (.inl Z) (X5 (dj := 24) Z Z (.inl Z) (X5 (dj := 24) Z Z (.inl Z) ?_))))))));refine X5 (dj := 24) Z Z (.inl Z) (X5 (dj := 24) Z Z (.inl Z) (Yf (dj := 17) Z Z Z (Xa (Xk false (vb false) Z Z) (Xa (Xk false (vb false) Z Z) (Xb (Y4 (b := false) Z Z ?_))))));refine Xx (Xc (Xc (Xd (Xa (Xj fa62_1 (Ad aa 0) (Ad aa 1) Z Z) (Xa (Xl ag4 cL (Ad aa 1) (vb c_.Had) Z (al.cell Z)) (Xa (X7 c_.Had Z) (Xe (vb (!c_.Had)) Z (Xi ab Z ?_))))))));refine Xi ab Z (Xi ab Z (Xi ab Z (Xi ab Z (Xa (Xk false (vb false) ab Z) (Xe (vb false) Z (Yf (dj := 42) Z Z Z (Xa (Xj fa62_3 (Ad aa 0) (Ad aa 6) Z Z) (Yf (dj := 42) Z Z Z ?_))))))));refine Xa (Xl ag4 cL (Ad aa 6) (vb c_.Has) Z (al.cell Z)) (Yf (dj := 42) Z Z Z (Xa (X7 c_.Has Z) (Yf (dj := 42) Z Z Z (Xe (vb (!c_.Has)) Z ?_))));rcases X4 (!c_.Has) with ao | ao
 ·have H := Xn H ao;refine Xh ao Z (Xa (Xj fa62_4 (Ad aa 0) (Ad aa 7) Z Z) (Xh ao Z (Xa (Xu ag44 sz44 cL (Ad aa 7) [vs c_.Now.Id, vi c_.Now.Shape.Kind, G af ag ah, G ai aj ak] Z Z (al.cells (off := 7) Z)) (Xh ao Z (Xa (Yo (.agg #[vs [], vi 0, G none 0 0, G none 0 0]) RF) (Xh ao Z ?_))))));refine Xs go94 (F45.calls H ad.ok bg (bh.st ad.st) (bi.st ad.st) RD (Sl.nil _ _ _ none 0 RD) (Sl.nil _ _ _ none 0 RD)) Z ?_;rintro _ eh ⟨r18, rfl, H, dg⟩;have bz := ad.k0 dg;refine Xh ao Z (Xa (X7 r18 Z) (Yf (dj := 42) Z Z Z (Xa (Xk true (vb (!r18)) ao Z) (Xa (Xk false (vb (!r18)) Z Z) (Xb ?_)))));refine Xw (!r18) Z (fun ci => ?_) (fun ci => ?_)
  ·have H := Xn H ci;exact Xc (Xd (Xf (vb false) Z (Xb (Xm ⟨[vb false], ⟨_, Z, Z⟩, false, Z, H, bz.gr.g0⟩))))
  have H := Xo H ci;refine Xx (Xc (Xd (Xa (Xj fa62_1 (Ad aa 0) (Ad aa 1) Z Z) ?_)));have ei := ad.stn dg;have cj := (al.st ei);refine Xa (Xl ag4 cL (Ad aa 1) (vb c_.Had) Z (cj.cell Z)) (Xa (X7 c_.Had Z) (Xe (vb (!c_.Had)) Z (Xh ab Z (Xa (Xj fa62_2 (Ad aa 0) (Ad aa 2) Z Z) (Xh ab Z (Xa (Xu ag44 sz44 cL (Ad aa 2) [vs c_.Was.Id, vi c_.Was.Shape.Kind, G A3 n4 c5, G A8 n9 ae] Z Z (cj.cells (off := 2) Z)) (Xh ab Z ?_)))))));refine Xs go24 (F87.calls H bz.ok hs2 (hp6.st bz.st) (bf.st bz.st)) Z ?_;rintro _ eu ⟨r19, rfl, H, dh⟩;have ck := bz.k0 dh;refine Xh ab Z (Xe (vb r19) Z ?_);rcases X4 r19 with a3 | a3
  ·have H := Xn H a3;refine Xh a3 Z (Xa (Xj fa62_2 (Ad aa 0) (Ad aa 2) Z Z) (Xh a3 Z (Xa (Xj fa44_0 (Ad aa 2) (Ad aa 2) Z Z) (Xh a3 Z ?_))));have ej := bz.stn dh;have cl := (cj.st ej);refine Xa (Xl ag9 cL (Ad aa 2) (vs c_.Was.Id) Z (cl.cell Z)) (Xh a3 Z (Xa (Xj fa62_0 (Ad aa 0) (Ad aa 0) Z Z) (Xh a3 Z (Xa (Xl ag9 cL (Ad aa 0) (vs c_.Id) Z (cl.cell Z)) (Xh a3 Z (Xa (Yl c_.Was.Id c_.Id (c_.Was.Id == c_.Id) Z Z Z) (Xh ab Z (Xa (Xk true (vb (c_.Was.Id == c_.Id)) a3 Z) ?_))))))));refine Xa (Xk false (vb (c_.Was.Id == c_.Id)) ab Z) (Xe (vb (c_.Was.Id == c_.Id)) Z ?_);rcases X4 (c_.Was.Id == c_.Id) with be | be
   ·have H := Xn H be;refine Xh be Z (Xa (Xj fa62_3 (Ad aa 0) (Ad aa 6) Z Z) (Xh be Z (Xa (Xl ag4 cL (Ad aa 6) (vb c_.Has) Z (cl.cell Z)) (Xh be Z (Xa (X7 c_.Has Z) (Xh be Z (Xe (vb (!c_.Has)) Z (Xi ao Z ?_))))))));refine Xi ao Z (Xi ao Z (Xi ao Z (Xq Z (Xq Z (Xq Z (Xq Z (Xq Z (Xq Z ?_))))))));exact Xi ao Z (Xh be Z (Xa (Xk true (vb true) ao Z) (Xa (Xk true (vb true) be Z) (Xf (vb true) Z (Xb (Xm ⟨[vb true], ⟨_, Z, Z⟩, true, Z, H, ck.gr.g0⟩))))))
   have H := Xo H be;refine Xi be Z (Xi be Z (Xi be Z (Xi be Z (Xq Z (Xq Z (Xq Z (Xq Z (Xq Z ?_))))))));refine Xq Z (Xq Z (Xq Z (Xq Z (Xq Z (Xq Z (Xi be Z (Xa (Xk false (vb false) be Z) (Xf (vb false) Z ?_))))))));exact Xb (Xm ⟨[vb false], ⟨_, Z, Z⟩, false, Z, H, ck.gr.g0⟩)
  have H := Xo H a3;refine Xi a3 Z (Xi a3 Z (Xi a3 Z (Xi a3 Z (Xi a3 Z (Xi a3 Z (Xh ab Z (Xa (Xk false (vb false) a3 Z) (Xa (Xk false (vb false) ab Z) ?_))))))));refine Xe (vb false) Z (X5 (dj := 70) Z Z (.inl Z) (X5 (dj := 70) Z Z (.inl Z) (X5 (dj := 70) Z Z (.inl Z) (X5 (dj := 70) Z Z (.inl Z) (Xq Z (Xq Z (Xq Z (Xq Z ?_))))))));refine Xq Z (Xq Z (Xq Z (Xq Z (Xq Z (Xq Z (Xq Z (X5 (dj := 70) Z Z (.inl Z) (Xa (Xk false (vb false) Z Z) ?_))))))));exact Xf (vb false) Z (Xb (Xm ⟨[vb false], ⟨_, Z, Z⟩, false, Z, H, ck.gr.g0⟩))
 have H := Xo H ao;refine Xi ao Z (Xi ao Z (Xi ao Z (Xi ao Z (Xi ao Z (Yf (dj := 42) Z Z Z (Xa (Xk false (vb false) ao Z) (Xa (Xk false (vb false) Z Z) (Xb ?_))))))));refine Y4 (b := false) Z Z ?_;refine Xx (Xc (Xd (Xa (Xj fa62_1 (Ad aa 0) (Ad aa 1) Z Z) (Xa (Xl ag4 cL (Ad aa 1) (vb c_.Had) Z (al.cell Z)) (Xa (X7 c_.Had Z) (Xe (vb (!c_.Had)) Z (Xh ab Z (Xa (Xj fa62_2 (Ad aa 0) (Ad aa 2) Z Z) ?_))))))));refine Xh ab Z (Xa (Xu ag44 sz44 cL (Ad aa 2) [vs c_.Was.Id, vi c_.Was.Shape.Kind, G A3 n4 c5, G A8 n9 ae] Z Z (al.cells (off := 2) Z)) (Xh ab Z ?_));refine Xs go24 (F87.calls H ad.ok hs2 (hp6.st ad.st) (bf.st ad.st)) Z ?_;rintro _ ek ⟨r20, rfl, H, di⟩;have br := ad.k0 di;refine Xh ab Z (Xe (vb r20) Z ?_);rcases X4 r20 with a4 | a4
 ·have H := Xn H a4;refine Xh a4 Z (Xa (Xj fa62_2 (Ad aa 0) (Ad aa 2) Z Z) (Xh a4 Z (Xa (Xj fa44_0 (Ad aa 2) (Ad aa 2) Z Z) (Xh a4 Z ?_))));have el := ad.stn di;have b5 := (al.st el);refine Xa (Xl ag9 cL (Ad aa 2) (vs c_.Was.Id) Z (b5.cell Z)) (Xh a4 Z (Xa (Xj fa62_0 (Ad aa 0) (Ad aa 0) Z Z) (Xh a4 Z (Xa (Xl ag9 cL (Ad aa 0) (vs c_.Id) Z (b5.cell Z)) (Xh a4 Z (Xa (Yl c_.Was.Id c_.Id (c_.Was.Id == c_.Id) Z Z Z) (Xh ab Z (Xa (Xk true (vb (c_.Was.Id == c_.Id)) a4 Z) ?_))))))));refine Xa (Xk false (vb (c_.Was.Id == c_.Id)) ab Z) (Xe (vb (c_.Was.Id == c_.Id)) Z ?_);rcases X4 (c_.Was.Id == c_.Id) with a5 | a5
  ·have H := Xn H a5;refine Xh a5 Z (Xa (Xj fa62_3 (Ad aa 0) (Ad aa 6) Z Z) (Xh a5 Z (Xa (Xl ag4 cL (Ad aa 6) (vb c_.Has) Z (b5.cell Z)) (Xh a5 Z (Xa (X7 c_.Has Z) (Xh a5 Z (Xe (vb (!c_.Has)) Z (Xh ao Z ?_))))))));refine Xa (Xj fa62_4 (Ad aa 0) (Ad aa 7) Z Z) (Xh ao Z (Xa (Xu ag44 sz44 cL (Ad aa 7) [vs c_.Now.Id, vi c_.Now.Shape.Kind, G af ag ah, G ai aj ak] Z Z (b5.cells (off := 7) Z)) (Xh ao Z ?_)));refine Xs go24 (F87.calls H br.ok bg (bh.st br.st) (bi.st br.st)) Z ?_;rintro _ ev ⟨r21, rfl, H, dk⟩;have dl := br.k0 dk;refine Xh ao Z (Xe (vb r21) Z ?_);rcases X4 r21 with a6 | a6
   ·have H := Xn H a6;refine Xh a6 Z (Xa (Xj fa62_4 (Ad aa 0) (Ad aa 7) Z Z) (Xh a6 Z (Xa (Xj fa44_0 (Ad aa 7) (Ad aa 7) Z Z) (Xh a6 Z ?_))));have em := br.stn dk;have dm := (b5.st em);refine Xa (Xl ag9 cL (Ad aa 7) (vs c_.Now.Id) Z (dm.cell Z)) (Xh a6 Z (Xa (Xj fa62_0 (Ad aa 0) (Ad aa 0) Z Z) (Xh a6 Z (Xa (Xl ag9 cL (Ad aa 0) (vs c_.Id) Z (dm.cell Z)) (Xh a6 Z (Xa (Yl c_.Now.Id c_.Id (c_.Now.Id == c_.Id) Z Z Z) (Xh ao Z (Xa (Xk true (vb (c_.Now.Id == c_.Id)) a6 Z) ?_))))))));exact Xh a5 Z (Xa (Xk false (vb (c_.Now.Id == c_.Id)) ao Z) (Xa (Xk true (vb (c_.Now.Id == c_.Id)) a5 Z) (Xf (vb (c_.Now.Id == c_.Id)) Z (Xb (Xm ⟨[vb (c_.Now.Id == c_.Id)], ⟨_, Z, Z⟩, c_.Now.Id == c_.Id, Z, H, dl.gr.g0⟩)))))
   have H := Xo H a6;refine Xi a6 Z (Xi a6 Z (Xi a6 Z (Xi a6 Z (Xi a6 Z (Xi a6 Z (Xh ao Z (Xa (Xk false (vb false) a6 Z) (Xh a5 Z ?_))))))));exact Xa (Xk false (vb false) ao Z) (Xa (Xk true (vb false) a5 Z) (Xf (vb false) Z (Xb (Xm ⟨[vb false], ⟨_, Z, Z⟩, false, Z, H, dl.gr.g0⟩))))
  have H := Xo H a5;refine Xi a5 Z (Xi a5 Z (Xi a5 Z (Xi a5 Z (Xq Z (Xq Z (Xq Z (Xq Z (Xq Z ?_))))))));refine Xq Z (Xq Z (Xq Z (Xq Z (Xq Z (Xq Z (Xi a5 Z (Xa (Xk false (vb false) a5 Z) (Xf (vb false) Z ?_))))))));exact Xb (Xm ⟨[vb false], ⟨_, Z, Z⟩, false, Z, H, br.gr.g0⟩)
 have H := Xo H a4;refine Xi a4 Z (Xi a4 Z (Xi a4 Z (Xi a4 Z (Xi a4 Z (Xi a4 Z (Xh ab Z (Xa (Xk false (vb false) a4 Z) (Xa (Xk false (vb false) ab Z) ?_))))))));refine Xe (vb false) Z (X5 (dj := 70) Z Z (.inl Z) (X5 (dj := 70) Z Z (.inl Z) (X5 (dj := 70) Z Z (.inl Z) (X5 (dj := 70) Z Z (.inl Z) (Xq Z (Xq Z (Xq Z (Xq Z ?_))))))));refine Xq Z (Xq Z (Xq Z (Xq Z (Xq Z (Xq Z (Xq Z (X5 (dj := 70) Z Z (.inl Z) (Xa (Xk false (vb false) Z Z) ?_))))))));exact Xf (vb false) Z (Xb (Xm ⟨[vb false], ⟨_, Z, Z⟩, false, Z, H, br.gr.g0⟩))
def F101.E (d : List Change) (Q : Bool → Prop) : Prop :=
 (∃ (I18 : Int → Prop) (mu19 : Int → Nat), I18 0 ∧ ∀ (i2 : Int), I18 i2 → (if decide (i2 < (d.length : Int)) then ((0 : Int) ≤ i2 ∧ i2 < (d.length : Int)) ∧ (∃ q : Bool, F130.E (nth d i2) (fun x => x = q) ∧ (if !q then Q false else (if decide (i2 > 0) then ((0 : Int) ≤ i2 ∧ i2 < (d.length : Int)) ∧ ((d.length : Int) ≤ 9223372036854775807 → I64 (i2 - 1)) ∧ ((0 : Int) ≤ i2 - 1 ∧ i2 - 1 < (d.length : Int)) ∧ (if Op.bytesLess ((nth d i2).Id) ((nth d (i2 - 1)).Id) || ((nth d i2).Id) == ((nth d (i2 - 1)).Id) then Q false else (-9223372036854775808 ≤ i2) ∧ I18 (i2 + 1) ∧ mu19 (i2 + 1) < mu19 i2) else (-9223372036854775808 ≤ i2) ∧ I18 (i2 + 1) ∧ mu19 (i2 + 1) < mu19 i2))) else Q (decide ((d.length : Int) ≤ 16))))
theorem F101.calls {d : List Change} {A1 : Option Addr} {n2 c3 : Nat} {Q : Bool → Prop} (H : F101.E d Q) (hO : Ok w0 O) (hp4 : Sl kChange w0 (Fr O) (G A1 n2 c3) d) :
  Ret Tryz.prog 15 [G A1 n2 c3] w0 (fun v w' => ∃ (r0 : Bool), v = vb r0 ∧ Q r0 ∧ Gr w0 w' none) := by
 unfold F101.E at H;have hc0 := Ct.init hO;refine X9 Tryz.func15 Z 37 Z [.tmp 2] Z Z ?_;refine Xc (Xd (Xf (vb false) Z (Xb (Xc (Xc (Xd (Xf (vi 0) Z (Xb ?_))))))));refine X6 ?_;obtain ⟨a6, a7, ai, H⟩ := H;refine Yi (α := Int) (fun (sv__ : Int) t af => match sv__ with | i2 => a6 i2 ∧ Has t [(0, G A1 n2 c3), (3, vi i2)] ∧ Ct [] w0 af [] O ∧ Sl kChange af (Fr ([] ++ O)) (G A1 n2 c3) d) (fun (sv__ : Int) => match sv__ with | i2 => a7 i2) 0 ⟨ai, (Xy Z), hc0, hp4⟩ ?_;rintro i2 _ af ⟨ai, a8, ad, ac⟩;obtain ⟨b7, rfl⟩ := Has.ins a8;have H := H i2 ai;refine Xc (Xc (Xd (Xe (vi i2) Z (Xe (G A1 n2 c3) Z ?_))));have aj := ac.le;refine Xa (Ya u23_ A1 n2 c3 ac.len Z) (Xa (X0 i2 (d.length : Int) (decide (i2 < (d.length : Int))) Z Z Z) (Xb ?_));refine Xw (decide (i2 < (d.length : Int))) Z (fun ae => ?_) (fun ae => ?_)
 ·have H := Xn H ae;refine Xx (Xc (X6 (Xc (Yz (fun x => Gr af x none) RK RK (Gr.drew _) ?_))));refine Xv (G A1 n2 c3) Z (Xv (vi i2) Z ?_);obtain ⟨az, H⟩ := H;obtain ⟨a0, b8, a9, b9, ba, bb⟩ := ac.get default RD i2 az;obtain ⟨ak, al, am, an, ao, ap, aq, ar, au, av, aw, ax, rfl, bc, bd, be, bf, bg, bh, bi⟩ := kChange.op ba;refine Xg (X3 u23_ Ys A1 a0 n2 c3 ac.len i2 Z a9 Z az) (Xg (Xu ag62 sz62 cQ (a0.add (i2.toNat * 11)) [vs ((nth d i2).Id), vb ((nth d i2).Had), vs ((nth d i2).Was.Id), vi ((nth d i2).Was.Shape.Kind), G ak al am, G an ao ap, vb ((nth d i2).Has), vs ((nth d i2).Now.Id), vi ((nth d i2).Now.Shape.Kind), G aq ar au, G av aw ax] Z Z bb) ?_);obtain ⟨q, bj, H⟩ := H;refine Y0 go46 [.agg #[vs ((nth d i2).Id), vb ((nth d i2).Had), vs ((nth d i2).Was.Id), vi ((nth d i2).Was.Shape.Kind), G ak al am, G an ao ap, vb ((nth d i2).Has), vs ((nth d i2).Now.Id), vi ((nth d i2).Now.Shape.Kind), G aq ar au, G av aw ax]] Z (vb q) (fun w g => (F130.calls bj (ad.k0 g).ok bc bd (be.st (.new _ g)) (bf.st (.new _ g)) bg (bh.st (.new _ g)) (bi.st (.new _ g))).mono ?_) ?_
  ·rintro _ w ⟨r, rfl, rfl, g2⟩;exact ⟨Z, Gr.t0 g g2⟩
  refine Xg (X7 q Z) (Xv (vb (!q)) Z ?_);rcases X4 (!q) with ab | ab
  ·have H := Xn H ab;refine Xr ab Z (Xr ab Z (Xr ab Z (Xz Z (Xz Z (Xz Z (Xz Z (Xz Z (Xz Z ?_))))))));refine Xz Z (Xz Z (Xz Z (Xz Z (Xz Z (Xz Z (Xr ab Z (Xg (Xk true (vb true) ab Z) (Yc fun ca bl => ?_))))))));have bm := ad.k0 bl;refine Yu (b := true) Z Z ?_;exact Xc (Xd (Xf (vb false) Z (Xb (Xm ⟨[vb false], ⟨_, Z, Z⟩, false, Z, H, bm.gr.g0⟩))))
  have H := Xo H ab;refine Xp ab Z (Xv (vi i2) Z (Xp ab Z (Xg (X0 i2 0 (decide (i2 > 0)) Z Z Z) (Xp ab Z (Xv (vb (decide (i2 > 0))) Z ?_)))));rcases X4 (decide (i2 > 0)) with aa | aa
  ·have H := Xn H aa;refine Xp aa Z (Xv (G A1 n2 c3) Z (Xp aa Z (Xv (vi i2) Z (Xp aa Z ?_))));obtain ⟨a1, H⟩ := H;obtain ⟨ag, cb, bn, cc, bo, bp⟩ := ac.get default RD i2 a1;obtain ⟨cd, ce, cf, cg, ch, ci, cj, ck, cl, cm, cn, co, rfl, cp, cq, cr, cs, ct, cu, cv⟩ := kChange.op bo;refine Xg (X3 u23_ Ys A1 ag n2 c3 ac.len i2 Z bn Z a1) (Xp aa Z (Xg (Xj fa62_0 (ag.add (i2.toNat * 11)) ((ag.add (i2.toNat * 11)).add 0) Z Z) (Xp aa Z (Xg (Xl ag9 cQ ((ag.add (i2.toNat * 11)).add 0) (vs ((nth d i2).Id)) Z (bp 0 _ Z)) (Xp aa Z (Xv (G A1 n2 c3) Z (Xp aa Z (Xv (vi i2) Z ?_))))))));refine Xp aa Z ?_;obtain ⟨bq, H⟩ := H;have br := bq (len_le aj);refine Xg (Yx i2 1 Z Z br) (Xp aa Z ?_);obtain ⟨a2, H⟩ := H;obtain ⟨ah, cw, bs, cx, bt, bu⟩ := ac.get default RD (i2 - 1) a2;obtain ⟨cy, cz, c0, c1, c2, c4, c5, c6, c7, c8, c9, da, rfl, db, dc, dd, de, df, dg, dh⟩ := kChange.op bt;refine Xg (X3 u23_ Ys A1 ah n2 c3 ac.len (i2 - 1) Z bs Z a2) (Xp aa Z (Xg (Xj fa62_0 (ah.add ((i2 - 1).toNat * 11)) ((ah.add ((i2 - 1).toNat * 11)).add 0) Z Z) (Xp aa Z (Xg (Xl ag9 cQ ((ah.add ((i2 - 1).toNat * 11)).add 0) (vs ((nth d (i2 - 1)).Id)) Z (bu 0 _ Z)) (Xp aa Z (Xg (Yl ((nth d i2).Id) ((nth d (i2 - 1)).Id) (Op.bytesLess ((nth d i2).Id) ((nth d (i2 - 1)).Id) || ((nth d i2).Id) == ((nth d (i2 - 1)).Id)) Z Z Z) (Xp ab Z (Xg (Yw true (vb (Op.bytesLess ((nth d i2).Id) ((nth d (i2 - 1)).Id) || ((nth d i2).Id) == ((nth d (i2 - 1)).Id))) (by exact congrArg Value.bool aa) Z) ?_))))))));refine Xg (Yw false (vb (Op.bytesLess ((nth d i2).Id) ((nth d (i2 - 1)).Id) || ((nth d i2).Id) == ((nth d (i2 - 1)).Id))) (by exact congrArg Value.bool ab) Z) (Yc fun di a3 => ?_);have a4 := ad.k0 a3;refine Xw (Op.bytesLess ((nth d i2).Id) ((nth d (i2 - 1)).Id) || ((nth d i2).Id) == ((nth d (i2 - 1)).Id)) Z (fun ay => ?_) (fun ay => ?_)
   ·have H := Xn H ay;exact Xc (Xd (Xf (vb false) Z (Xb (Xm ⟨[vb false], ⟨_, Z, Z⟩, false, Z, H, a4.gr.g0⟩))))
   have H := Xo H ay;refine Xx (Xd (Xe (vi i2) Z ?_));obtain ⟨bv, H⟩ := H;have bw : I64 (i2 + 1) := i64_succ (of_decide_eq_true ae) aj bv;refine Xa (Yb i2 1 Z Z bw) (Xf (vi (i2 + 1)) Z (Xb ?_));obtain ⟨bx, bz⟩ := H;have b0 := ad.stn a3;exact ⟨i2 + 1, bz, bx, (Xy Z), a4, (ac.st b0)⟩
  have H := Xo H aa;refine Xr aa Z (Xr aa Z (Xr aa Z (Xr aa Z (Xr aa Z (Xr aa Z (Xr aa Z (Xr aa Z (Xr aa Z ?_))))))));refine Xr aa Z (Xr aa Z (Xr aa Z (Xp ab Z (Xg (Xk false (vb false) aa Z) (Xg (Xk false (vb false) ab Z) (Yc fun dj a5 => ?_))))));have b1 := ad.k0 a5;refine Y4 (b := false) Z Z ?_;refine Xx (Xd (Xe (vi i2) Z ?_));obtain ⟨b2, H⟩ := H;have b3 : I64 (i2 + 1) := i64_succ (of_decide_eq_true ae) aj b2;refine Xa (Yb i2 1 Z Z b3) (Xf (vi (i2 + 1)) Z (Xb ?_));obtain ⟨b4, b5⟩ := H;have b6 := ad.stn a5;exact ⟨i2 + 1, b5, b4, (Xy Z), b1, (ac.st b6)⟩
 have H := Xo H ae;refine Yh (xin_hit ?_);exact Xc (Xd (Xe (G A1 n2 c3) Z (Xa (Ya u23_ A1 n2 c3 ac.len Z) (Xa (X0 (d.length : Int) 16 (decide ((d.length : Int) ≤ 16)) Z Z Z) (Xf (vb (decide ((d.length : Int) ≤ 16))) Z (Xb (Xm ⟨[vb (decide ((d.length : Int) ≤ 16))], ⟨_, Z, Z⟩, decide ((d.length : Int) ≤ 16), Z, H, ad.gr.g0⟩)))))))
def F102.E (c_ : Change) (Q : Change → Prop) : Prop :=
 F83.E c_.Was (fun r => F83.E c_.Now (fun r2 => Q (⟨c_.Id, c_.Had, r, c_.Has, r2⟩ : Change)))
theorem F102.calls {c_ : Change} {A3 : Option Addr} {n4 c5 : Nat} {A8 : Option Addr} {n9 ai : Nat} {aj : Option Addr} {ak al : Nat} {am : Option Addr} {an ao : Nat} {Q : Change → Prop} (H : F102.E c_ Q) (hO : Ok w0 O) (hs1 : Lim c_.Id) (hs2 : Lim c_.Was.Id) (hp6 : Sl kPt w0 (Fr O) (G A3 n4 c5) c_.Was.Shape.Pts) (bh : Sl kTag w0 (Fr O) (G A8 n9 ai) c_.Was.Tags) (bi : Lim c_.Now.Id) (bj : Sl kPt w0 (Fr O) (G aj ak al) c_.Now.Shape.Pts) (bl : Sl kTag w0 (Fr O) (G am an ao) c_.Now.Tags) :
  Ret Tryz.prog 45 [.agg #[vs c_.Id, vb c_.Had, vs c_.Was.Id, vi c_.Was.Shape.Kind, G A3 n4 c5, G A8 n9 ai, vb c_.Has, vs c_.Now.Id, vi c_.Now.Shape.Kind, G aj ak al, G am an ao]] w0 (fun v w' => ∃ (r0 : Change) (Aw0 : Option Addr) (nw0 cw0 : Nat) (Aw2 : Option Addr) (nw2 cw2 : Nat) (Aw4 : Option Addr) (nw4 cw4 : Nat) (Aw6 : Option Addr) (nw6 cw6 : Nat), v = .agg #[vs r0.Id, vb r0.Had, vs r0.Was.Id, vi r0.Was.Shape.Kind, G Aw0 nw0 cw0, G Aw2 nw2 cw2, vb r0.Has, vs r0.Now.Id, vi r0.Now.Shape.Kind, G Aw4 nw4 cw4, G Aw6 nw6 cw6] ∧ Q r0 ∧ Gk w0 w' [bk Aw0, bk Aw2, bk Aw4, bk Aw6] O (Lim r0.Id ∧ Lim r0.Was.Id ∧ Ow kPt 49 w' ([bk Aw0, bk Aw2, bk Aw4, bk Aw6] ++ O) (G Aw0 nw0 cw0) r0.Was.Shape.Pts ∧ Ow kTag 93 w' ([bk Aw0, bk Aw2, bk Aw4, bk Aw6] ++ O) (G Aw2 nw2 cw2) r0.Was.Tags ∧ Lim r0.Now.Id ∧ Ow kPt 49 w' ([bk Aw0, bk Aw2, bk Aw4, bk Aw6] ++ O) (G Aw4 nw4 cw4) r0.Now.Shape.Pts ∧ Ow kTag 93 w' ([bk Aw0, bk Aw2, bk Aw4, bk Aw6] ++ O) (G Aw6 nw6 cw6) r0.Now.Tags)) := by
 unfold F102.E at H;have hc0 := Ct.init hO;refine X9 Tryz.func45 Z 16 Z [.cell 2 62] Z Z ?_;refine Xc (Xd (Yn [vs c_.Id, vb c_.Had, vs c_.Was.Id, vi c_.Was.Shape.Kind, G A3 n4 c5, G A8 n9 ai, vb c_.Has, vs c_.Now.Id, vi c_.Now.Shape.Kind, G aj ak al, G am an ao] Z fun cf aa bm hu28 bn bo => ?_));have bp := Fb.mk hc0.ok bm bo;have bc := hc0.k0 bn;refine Yr [vs [], vb false, vs [], .int .i64 0, G none 0 0, G none 0 0, vb false, vs [], .int .i64 0, G none 0 0, G none 0 0] ze62 fun cg a6 bd hu37 be bq => ?_;have bf := bc.own be (some a6) (Yp bd hu37);refine Xb (Xc (Y7 14 [some a6] RK Z fun br a7 ab => ?_));have ad := bf.k0 a7;refine Xt 0 Z RK ab (Xj fa62_0 (Ad aa 0) (Ad aa 0) Z Z) ?_;have bs := bc.stown _ be (X2 bd);have bt := bf.stn a7;have ac := ((bp.st bs).st bt);refine Xt 1 Z RK ab (Y2 ag9 cR (Ad aa 0) (vs c_.Id) Z (ac.cell Z) (nm_cons (ad.fne 0 ac.2 Z) nm_nil)) ?_;refine Xt 2 Z RK ab (Xj fa62_1 (Ad aa 0) (Ad aa 1) Z Z) ?_;refine Xt 3 Z RK ab (Y2 ag4 cR (Ad aa 1) (vb c_.Had) Z (ac.cell Z) (nm_cons (ad.fne 0 ac.2 Z) nm_nil)) ?_;refine Xt 4 Z RK ab (Xj fa62_2 (Ad aa 0) (Ad aa 2) Z Z) ?_;refine Xt 5 Z RK ab (Zb ag44 sz44 cR (Ad aa 2) [vs c_.Was.Id, vi c_.Was.Shape.Kind, G A3 n4 c5, G A8 n9 ai] Z Z (ac.cells (off := 2) Z) (nm_cons (ad.fne 0 ac.2 Z) nm_nil)) ?_;refine Xt 7 Z RK ab (Xj fa62_3 (Ad aa 0) (Ad aa 6) Z Z) ?_;refine Xt 8 Z RK ab (Y2 ag4 cR (Ad aa 6) (vb c_.Has) Z (ac.cell Z) (nm_cons (ad.fne 0 ac.2 Z) nm_nil)) ?_;refine Xt 9 Z RK ab (Xj fa62_4 (Ad aa 0) (Ad aa 7) Z Z) ?_;refine Xt 10 Z RK ab (Zb ag44 sz44 cR (Ad aa 7) [vs c_.Now.Id, vi c_.Now.Shape.Kind, G aj ak al, G am an ao] Z Z (ac.cells (off := 7) Z) (nm_cons (ad.fne 0 ac.2 Z) nm_nil)) ?_;refine X1 6 RK Z ?_;refine Xs go64 (F83.calls H ad.ok hs2 (hp6.st ad.st) (bh.st ad.st)) Z ?_;rintro _ bu ⟨r, ae, av, aw, af, ax, ay, rfl, H, a8, bv, bw, bx, bz, b0⟩;have a5 := ad.owns a8 bv bw;have bg := Gm.tm ab a8;refine Xb ⟨bg, ?_⟩;refine X1 11 RK Z ?_;refine Xs go64 (F83.calls H a5.ok bi (bj.st a5.st) (bl.st a5.st)) Z ?_;rintro _ ch ⟨r2, ag, az, a0, ah, a1, a2, rfl, H, a3, b1, a9, b2, b3, b4⟩;have a4 := a5.owns a3 b1 a9;have ba := Gm.tm bg a3;refine Xb ⟨ba, ?_⟩;refine Xt 12 Z RK ba (Yo (.agg #[vs c_.Id, vb c_.Had, vs r.Id, vi r.Shape.Kind, G ae av aw, G af ax ay, vb c_.Has, vs r2.Id, vi r2.Shape.Kind, G ag az a0, G ah a1 a2]) RF) ?_;refine X1 13 RK Z ?_;have b5 := (((bq.k0 a7).k0 a8).k0 a3);refine Yd [vs c_.Id, vb c_.Had, vs r.Id, vi r.Shape.Kind, G ae av aw, G af ax ay, vb c_.Has, vs r2.Id, vi r2.Shape.Kind, G ag az a0, G ah a1 a2] b5 Z Z sz62 Z Z fun ci ap b6 => ?_;have aq := a4.wr 4 Z ap;have b7 := Gm.tq ba ap (hv_mem 0 Z);refine Xb ⟨b7, ?_⟩;refine Yq RK ?_;refine Xm ?_;have b8 := aq.bgv b6 4 Z;have ar := aq.drop 4 Z;have au : ([bk ag, bk ah, bk ae, bk af] : Ob).Perm [bk ae, bk af, bk ag, bk ah] := RP;have bb := ar.perm au;have b9 := ar.stp au;have ca := (b8.st b9);have cb := (ar.sp (aq.sd (a4.sw (bz.sos a3 a9) 2 4 Z Z Z ap) 2 4 Z Z Z) au);have cc := (ar.sp (aq.sd (a4.sw (b0.sos a3 a9) 3 4 Z Z Z ap) 3 4 Z Z Z) au);have cd := (ar.sp (aq.sd (a4.sw b3 0 4 Z Z Z ap) 0 4 Z Z Z) au);have ce := (ar.sp (aq.sd (a4.sw b4 1 4 Z Z Z ap) 1 4 Z Z Z) au);exact ⟨[.agg #[vs c_.Id, vb c_.Had, vs r.Id, vi r.Shape.Kind, G ae av aw, G af ax ay, vb c_.Has, vs r2.Id, vi r2.Shape.Kind, G ag az a0, G ah a1 a2]], ⟨_, _, Z, ca.1.res Z ag62 sz62, Z⟩, (⟨c_.Id, c_.Had, r, c_.Has, r2⟩ : Change), ae, av, aw, af, ax, ay, ag, az, a0, ah, a1, a2, Z, H, bb.gr.g0, bb.ok, bb.ge, hs1, bx, cb, cc, b2, cd, ce⟩
def F50.E (d : List Change) (Q : List Change → Prop) : Prop :=
 (∃ (I39 : (List Change) → Int → Prop) (mu40 : (List Change) → Int → Nat), I39 [] 0 ∧ ∀ (xs2 : List Change) (i2 : Int), I39 xs2 i2 → (if decide (i2 < (d.length : Int)) then F101.E d (fun r => (if r then ((0 : Int) ≤ i2 ∧ i2 < (d.length : Int)) ∧ F102.E (nth d i2) (fun r2 => (xs2.length + ([(⟨r2.Id, r2.Has, r2.Now, r2.Had, r2.Was⟩ : Change)] : List Change).length ≤ 268435456) ∧ (-9223372036854775808 ≤ i2) ∧ I39 (xs2 ++ ([(⟨r2.Id, r2.Has, r2.Now, r2.Had, r2.Was⟩ : Change)] : List Change)) (i2 + 1) ∧ mu40 (xs2 ++ ([(⟨r2.Id, r2.Has, r2.Now, r2.Had, r2.Was⟩ : Change)] : List Change)) (i2 + 1) < mu40 xs2 i2) else Q xs2)) else Q xs2))
theorem F50.calls {d : List Change} {A1 : Option Addr} {n2 c3 : Nat} {Q : List Change → Prop} (H : F50.E d Q) (hO : Ok w0 O) (hp4 : Sl kChange w0 (Fr O) (G A1 n2 c3) d) :
  Ret Tryz.prog 14 [G A1 n2 c3] w0 (fun v w' => ∃ (r0 : List Change) (Aw0 : Option Addr) (nw0 cw0 : Nat), v = G Aw0 nw0 cw0 ∧ Q r0 ∧ Gk w0 w' [bk Aw0] O (Ow kChange 62 w' ([bk Aw0] ++ O) (G Aw0 nw0 cw0) r0)) := by
 unfold F50.E at H;have hc0 := Ct.init hO;refine X9 Tryz.func14 Z 37 Z [.tmp 2] Z Z ?_;refine Xc (Xd (Xf (G none 0 0) Z (Xb (Xc (Xd (X8 (kd := kChange) Y1 hc0 ([] : List Change) (cells := []) Z RF fun w6 A7 n8 c9 dx hr11 bv b5 => ?_))))));refine Xf (G A7 n8 c9) Z (Xb (Xc (Xc (Xd (Xf (vi 0) Z (Xb (X6 ?_)))))));obtain ⟨b6, b7, a8, H⟩ := H;refine Yi (α := (List Change) × (Option Addr) × Nat × Nat × Int) (fun (xs2, ab, ac, ad, i2) t a2 => b6 xs2 i2 ∧ Has t [(0, G A1 n2 c3), (3, G ab ac ad), (4, vi i2)] ∧ Cw [] w0 a2 [bk ab] O fun M => Sl kChange a2 (Fr M) (G A1 n2 c3) d ∧ Ow kChange 62 a2 M (G ab ac ad) xs2) (fun (xs2, _, _, _, i2) => b7 xs2 i2) (([] : List Change), A7, n8, c9, 0) ⟨a8, (Xy Z), bv, (hp4.st bv.st), b5⟩ ?_;rintro ⟨xs2, ab, ac, ad, i2⟩ _ a2 ⟨a8, b8, al, am, a9⟩;obtain ⟨dy, rfl⟩ := Has.ins b8;have H := H xs2 i2 a8;refine Xc (Xc (Xd (Xe (vi i2) Z (Xe (G A1 n2 c3) Z ?_))));have b9 := am.le;refine Xa (Ya u23_ A1 n2 c3 am.len Z) (Xa (X0 i2 (d.length : Int) (decide (i2 < (d.length : Int))) Z Z Z) (Xe (vb (decide (i2 < (d.length : Int)))) Z ?_));rcases X4 (decide (i2 < (d.length : Int))) with ae | ae
 ·have H := Xn H ae;refine Xh ae Z (Xe (G A1 n2 c3) Z (Xh ae Z ?_));refine Xs go15 (F101.calls H al.ok am) Z ?_;rintro _ ca ⟨r, rfl, H, a5⟩;have an := al.k0 a5;refine Xa (Xk true (vb r) ae Z) (Xb ?_);refine Xw r Z (fun ba => ?_) (fun ba => ?_)
  ·have H := Xn H ba;refine Xx (Xc (X6 (Xc (Xd (Xe (G A1 n2 c3) Z (Xe (vi i2) Z ?_))))));obtain ⟨bw, H⟩ := H;have bb := al.stn a5;obtain ⟨bx, dz, cb, d0, cc, cd⟩ := (am.st bb).get default RD i2 bw;obtain ⟨bc, bd, be, bf, bg, bh, bi, bj, bl, bm, bn, bo, rfl, ce, cf, cg, ch, ci, cj, ck⟩ := kChange.op cc;refine Xa (X3 u23_ Ys A1 bx n2 c3 (am.st bb).len i2 Z cb Z bw) (Xa (Xu ag62 sz62 cL (bx.add (i2.toNat * 11)) [vs ((nth d i2).Id), vb ((nth d i2).Had), vs ((nth d i2).Was.Id), vi ((nth d i2).Was.Shape.Kind), G bc bd be, G bf bg bh, vb ((nth d i2).Has), vs ((nth d i2).Now.Id), vi ((nth d i2).Now.Shape.Kind), G bi bj bl, G bm bn bo] Z Z cd) ?_);refine Xs go45 (F102.calls H an.ok ce cf cg ch ci cj ck) Z ?_;rintro _ d1 ⟨r2, ao, ap, aq, af, ar, au, av, aw, ax, ay, az, a0, rfl, H, bp, cl, bq, cm, cn, co, cp, cq, cr, cs⟩;have bz := an.owns bp cl bq;refine Yr [vs [], vb false, vs [], .int .i64 0, G none 0 0, G none 0 0, vb false, vs [], .int .i64 0, G none 0 0, G none 0 0] ze62 fun d2 aa ag hu118 ah ct => ?_;have ai := bz.own ah (some aa) (Yp ag hu118);refine Yd [vs r2.Id, vb r2.Had, vs r2.Was.Id, vi r2.Was.Shape.Kind, G ao ap aq, G af ar au, vb r2.Has, vs r2.Now.Id, vi r2.Now.Shape.Kind, G av aw ax, G ay az a0] ct Z Z sz62 Z Z fun cu aj a3 => ?_;have ak := ai.wr 0 Z aj;refine Xb (Xd (Xe (G ab ac ad) Z (Xa (Xj fa62_0 (Ad aa 0) (Ad aa 0) Z Z) (Xa (Xl ag9 cL (Ad aa 0) (vs r2.Id) Z (a3.cell Z)) (Xa (Xj fa62_3 (Ad aa 0) (Ad aa 6) Z Z) (Xa (Xl ag4 cL (Ad aa 6) (vb r2.Has) Z (a3.cell Z)) (Xa (Xj fa62_4 (Ad aa 0) (Ad aa 7) Z Z) (Xa (Xu ag44 sz44 cL (Ad aa 7) [vs r2.Now.Id, vi r2.Now.Shape.Kind, G av aw ax, G ay az a0] Z Z (a3.cells (off := 7) Z)) ?_))))))));refine Xa (Xj fa62_1 (Ad aa 0) (Ad aa 1) Z Z) (Xa (Xl ag4 cL (Ad aa 1) (vb r2.Had) Z (a3.cell Z)) (Xa (Xj fa62_2 (Ad aa 0) (Ad aa 2) Z Z) (Xa (Xu ag44 sz44 cL (Ad aa 2) [vs r2.Was.Id, vi r2.Was.Shape.Kind, G ao ap aq, G af ar au] Z Z (a3.cells (off := 2) Z)) (Xa (Yo (.agg #[vs r2.Id, vb r2.Has, vs r2.Now.Id, vi r2.Now.Shape.Kind, G av aw ax, G ay az a0, vb r2.Had, vs r2.Was.Id, vi r2.Was.Shape.Kind, G ao ap aq, G af ar au]) RF) ?_))));have cv := (ai.sw (cr.so _ ah (X2 ag)) 3 0 Z Z Z aj);have cw := ak.gv cv 3 Z;have a1 := ak.drop 3 Z;have cx := (ak.sd (ai.sw (cs.so _ ah (X2 ag)) 4 0 Z Z Z aj) 4 3 Z Z Z);have cy := a1.gv cx 3 Z;have a4 := a1.drop 3 Z;have cz := (a1.sd (ak.sd (ai.sw (co.so _ ah (X2 ag)) 1 0 Z Z Z aj) 1 3 Z Z Z) 1 3 Z Z Z);have c0 := a4.gv cz 1 Z;have a6 : Ct [] w0 cu [some aa, bk af, bk ab] O := a4.drop 1 Z;have c1 := (a4.sd (a1.sd (ak.sd (ai.sw (cp.so _ ah (X2 ag)) 2 0 Z Z Z aj) 2 3 Z Z Z) 2 3 Z Z Z) 2 1 Z Z Z);have c2 := a6.gv c1 1 Z;have b0 := a6.drop 1 Z;have b1 := a1.std 3 Z;have br := a4.std 1 Z;have a7 := a6.std 1 Z;have c4 := (((cw.st b1).st br).st a7);have c5 := ((cy.st br).st a7);refine X8 (kd := kChange) Y1 b0 ([(⟨r2.Id, r2.Has, r2.Now, r2.Had, r2.Was⟩ : Change)] : List Change) (cells := [vs r2.Id, vb r2.Has, vs r2.Now.Id, vi r2.Now.Shape.Kind, G av aw ax, G ay az a0, vb r2.Had, vs r2.Was.Id, vi r2.Was.Shape.Kind, G ao ap aq, G af ar au]) ⟨[vs r2.Id, vb r2.Has, vs r2.Now.Id, vi r2.Now.Shape.Kind, G av aw ax, G ay az a0, vb r2.Had, vs r2.Was.Id, vi r2.Was.Shape.Kind, G ao ap aq, G af ar au], _, Z, (kChange.mk _ _ (⟨r2.Id, r2.Has, r2.Now, r2.Had, r2.Was⟩ : Change) cm cq c4 c5 cn (c0.st a7) c2), Z⟩ RF fun d3 c6 c7 c8 b2 hr147 da db => ?_;obtain ⟨dc, H⟩ := H;have dd := ((a6.sd (a4.sd (a1.sd (ak.sd (ai.sw (((a9.sn a5).sos bp bq).so _ ah (X2 ag)) 5 0 Z Z Z aj) 5 3 Z Z Z) 4 3 Z Z Z) 3 1 Z Z Z) 2 1 Z Z Z).so _ b2 hr147);refine Ye Y1 da (G ab ac ad) xs2 ([(⟨r2.Id, r2.Has, r2.Now, r2.Had, r2.Was⟩ : Change)] : List Change) Z dd (G c6 c7 c8) Z db.sx 2 Z dc fun de bs b3 b4 d4 df bt dg => ?_;refine Xf (G bs b3 b4) Z (Xb (Xd (Xe (vi i2) Z ?_)));obtain ⟨dh, H⟩ := H;have di : I64 (i2 + 1) := i64_succ (of_decide_eq_true ae) b9 dh;refine Xa (Yb i2 1 Z Z di) (Xf (vi (i2 + 1)) Z (Xb ?_));have bu := bt.drop 0 Z;have dj : Ct [] w0 de [bk bs] O := bu.drop 0 Z;obtain ⟨dk, dl⟩ := H;have dm := an.stos bp bq;have dn := bz.stown _ ah (X2 ag);have dp := ai.stw 0 Z aj;have dq := ak.std 3 Z;have dr := b0.stown _ b2 hr147;have ds := bt.std 0 Z;have dt := bu.std 0 Z;have du := ((((((((((((am.st bb).st dm).st dn).st dp).st dq).st b1).st br).st a7).st dr).st df).st ds).st dt);have dv := (bu.sd (bt.sd dg 2 0 Z Z Z) 1 0 Z Z Z);exact ⟨((xs2 ++ ([(⟨r2.Id, r2.Has, r2.Now, r2.Had, r2.Was⟩ : Change)] : List Change)), bs, b3, b4, i2 + 1), dl, dk, (Xy Z), dj, du, dv⟩
  have H := Xo H ba;refine Yh (xin_hit ?_);refine Xc (Xd (Xe (G ab ac ad) Z (Xf (G ab ac ad) Z (Xb (Xm ?_)))));have dw := (a9.sn a5);exact ⟨[G ab ac ad], ⟨_, Z, Z⟩, xs2, ab, ac, ad, Z, H, an.gr.g0, an.ok, an.ge, dw⟩
 have H := Xo H ae;refine Xi ae Z (Xi ae Z (Xa (Xk false (vb false) ae Z) (Xb (Y4 (b := false) Z Z ?_))));refine Yh (xin_hit ?_);exact Xc (Xd (Xe (G ab ac ad) Z (Xf (G ab ac ad) Z (Xb (Xm ⟨[G ab ac ad], ⟨_, Z, Z⟩, xs2, ab, ac, ad, Z, H, al.gr.g0, al.ok, al.ge, a9⟩)))))
def F103.E (kind : Int) (Q : Str → Prop) : Prop :=
 ((0 : Int) ≤ kind ∧ kind < (([([] : Str), ([100, 111, 116] : Str), ([108, 105, 110, 101] : Str), ([114, 105, 110, 103] : Str)] : List Str).length : Int)) ∧ Q (nth ([([] : Str), ([100, 111, 116] : Str), ([108, 105, 110, 101] : Str), ([114, 105, 110, 103] : Str)] : List Str) kind)
theorem F103.calls {kind : Int} {Q : Str → Prop} (H : F103.E kind Q) (hO : Ok w0 O) :
  Ret Tryz.prog 164 [vi kind] w0 (fun v w' => ∃ (r0 : Str), v = vs r0 ∧ Q r0 ∧ Gr w0 w' none ∧ Lim r0) := by
 unfold F103.E at H;have hc0 := Ct.init hO;refine X9 Tryz.func164 Z 7 Z [.tmp 2] Z Z ?_;refine Xc (Xd (Xf (vs []) Z (Xb (Xc (Xd (X8 (kd := Kd.str) Za hc0 ([([] : Str), ([100, 111, 116] : Str), ([108, 105, 110, 101] : Str), ([114, 105, 110, 103] : Str)] : List Str) (cells := [vs [], vs ([100, 111, 116] : Str), vs ([108, 105, 110, 101] : Str), vs ([114, 105, 110, 103] : Str)]) ⟨[vs []], _, Z, ⟨Z, (by decide : Lim ([] : Str))⟩, ⟨[vs ([100, 111, 116] : Str)], _, Z, ⟨Z, (by decide : Lim ([100, 111, 116] : Str))⟩, ⟨[vs ([108, 105, 110, 101] : Str)], _, Z, ⟨Z, (by decide : Lim ([108, 105, 110, 101] : Str))⟩, ⟨[vs ([114, 105, 110, 103] : Str)], _, Z, ⟨Z, (by decide : Lim ([114, 105, 110, 103] : Str))⟩, Z⟩⟩⟩⟩ RF fun w1 A2 n3 c4 g5 hr6 hc7 h8 => ?_))))));refine Xe (vi kind) Z ?_;obtain ⟨aa, H⟩ := H;obtain ⟨ab, ah, ac, ad, ae⟩ := h8.get default RD kind aa;obtain ⟨rfl, af⟩ := Kd.str.op ad;refine Xa (X3 u50_ Zi A2 ab n3 c4 h8.len kind Z ac Z aa) (Xa (Xl ag9 cL (ab.add (kind.toNat * 1)) (vs (nth ([([] : Str), ([100, 111, 116] : Str), ([108, 105, 110, 101] : Str), ([114, 105, 110, 103] : Str)] : List Str) kind)) Z (ae 0 _ Z)) (Xf (vs (nth ([([] : Str), ([100, 111, 116] : Str), ([108, 105, 110, 101] : Str), ([114, 105, 110, 103] : Str)] : List Str) kind)) Z (Xb (Xm ?_))));have ag := hc7.drop 0 Z;exact ⟨[vs (nth ([([] : Str), ([100, 111, 116] : Str), ([108, 105, 110, 101] : Str), ([114, 105, 110, 103] : Str)] : List Str) kind)], ⟨_, Z, Z⟩, (nth ([([] : Str), ([100, 111, 116] : Str), ([108, 105, 110, 101] : Str), ([114, 105, 110, 103] : Str)] : List Str) kind), Z, H, ag.gr.g0, af⟩
def F104.Er (R : Int → (Str → Prop) → Prop) (n : Int) (Q : Str → Prop) : Prop :=
 (if decide (n < (-9223372036854775807)) then Q ([45, 57, 50, 50, 51, 51, 55, 50, 48, 51, 54, 56, 53, 52, 55, 55, 53, 56, 48, 56] : Str) else (if decide (n < 0) then (I64 (-n)) ∧ R (-n) (fun r => (([45] : Str).length + r.length ≤ 9223372036854775807) ∧ Q (([45] : Str) ++ r)) else (∃ (I20 : Int → Str → Prop) (mu21 : Int → Str → Nat), I20 n ([] : Str) ∧ ∀ (n3 : Int) (out2 : Str), I20 n3 out2 → (if decide (n3 > 9) then ((0 : Int) ≤ n3 ∧ (0 : Int) < 10) ∧ (I64 (48 + (n3 % 10))) ∧ ((0 : Int) ≤ 48 + (n3 % 10) ∧ 48 + (n3 % 10) ≤ (255 : Int)) ∧ (([(UInt8.ofNat (48 + (n3 % 10)).toNat)] : List UInt8).length + out2.length ≤ 9223372036854775807) ∧ (((0 : Int) ≤ n3 ∧ n3 ≤ (9223372036854775807 : Int)) ∧ (0 : Int) < 10) ∧ I20 (n3 / 10) (([(UInt8.ofNat (48 + (n3 % 10)).toNat)] : List UInt8) ++ out2) ∧ mu21 (n3 / 10) (([(UInt8.ofNat (48 + (n3 % 10)).toNat)] : List UInt8) ++ out2) < mu21 n3 out2 else (I64 (48 + n3)) ∧ ((0 : Int) ≤ 48 + n3 ∧ 48 + n3 ≤ (255 : Int)) ∧ (([(UInt8.ofNat (48 + n3).toNat)] : List UInt8).length + out2.length ≤ 9223372036854775807) ∧ Q (([(UInt8.ofNat (48 + n3).toNat)] : List UInt8) ++ out2)))))
theorem F104.callsr (R : Int → (Str → Prop) → Prop) (hR : ∀ {O : Ob} (w0 : World) (hO : Ok w0 O) (n : Int) (Q : Str → Prop) (h : R n Q), Ret Tryz.prog 165 [vi n] w0 (fun v w' => ∃ (r0 : Str), v = vs r0 ∧ Q r0 ∧ Gr w0 w' none ∧ Lim r0)) {O : Ob} (w0 : World) (hO : Ok w0 O) (n : Int) (Q : Str → Prop) (h : F104.Er R n Q) :
  Ret Tryz.prog 165 [vi n] w0 (fun v w' => ∃ (r0 : Str), v = vs r0 ∧ Q r0 ∧ Gr w0 w' none ∧ Lim r0) := by
 unfold F104.Er at h;have H := h;clear h;have hc0 := Ct.init hO;refine X9 Tryz.func165 Z 31 Z [.tmp 2] Z Z ?_;refine Xc (Xd (Xf (vs []) Z (Xb (Xc (Xc (Xd (Xe (vi n) Z (Xa (X0 n (-9223372036854775807) (decide (n < (-9223372036854775807))) Z Z Z) ?_))))))));refine Xb ?_;refine Xw (decide (n < (-9223372036854775807))) Z (fun hq1 => ?_) (fun hq1 => ?_)
 ·have H := Xn H hq1;exact Xc (Xd (Xf (vs ([45, 57, 50, 50, 51, 51, 55, 50, 48, 51, 54, 56, 53, 52, 55, 55, 53, 56, 48, 56] : Str)) Z (Xb (Xm ⟨[vs ([45, 57, 50, 50, 51, 51, 55, 50, 48, 51, 54, 56, 53, 52, 55, 55, 53, 56, 48, 56] : Str)], ⟨_, Z, Z⟩, ([45, 57, 50, 50, 51, 51, 55, 50, 48, 51, 54, 56, 53, 52, 55, 55, 53, 56, 48, 56] : Str), Z, H, hc0.gr.g0, (by decide : Lim ([45, 57, 50, 50, 51, 51, 55, 50, 48, 51, 54, 56, 53, 52, 55, 55, 53, 56, 48, 56] : Str))⟩))))
 have H := Xo H hq1;refine Xx (Xc (Xc (Xd (Xe (vi n) Z (Xa (X0 n 0 (decide (n < 0)) Z Z Z) (Xb ?_))))));refine Xw (decide (n < 0)) Z (fun hq2 => ?_) (fun hq2 => ?_)
 ·have H := Xn H hq2;refine Xc (Xd (Xe (vi n) Z ?_));obtain ⟨hb3, H⟩ := H;refine Xa (Ka n Z hb3) ?_;refine Zu go165 [vi (-n)] Z ((hR w0 hc0.ok (-n) _ H).mono ?_);rintro _ w4 ⟨r, rfl, H, g5, hs6⟩;have aj := hc0.k0 g5;obtain ⟨ac, H⟩ := H;exact Xa (Ym ([45] : Str) r Z Z ac) (Xf (vs (([45] : Str) ++ r)) Z (Xb (Xm ⟨[vs (([45] : Str) ++ r)], ⟨_, Z, Z⟩, (([45] : Str) ++ r), Z, H, aj.gr.g0, (lim_cat ac)⟩)))
 have H := Xo H hq2;refine Xx (Xc (Xd (Xf (vs []) Z (Xb (Xc (X6 ?_))))));obtain ⟨ak, al, aa, H⟩ := H;refine Yi (α := Int × Str) (fun (n3, out2) t ad => ak n3 out2 ∧ Has t [(0, vi n3), (3, vs out2)] ∧ Ct [] w0 ad [] O ∧ Lim out2) (fun (n3, out2) => al n3 out2) (n, ([] : Str)) ⟨aa, (Xy Z), hc0, (by decide : Lim ([] : Str))⟩ ?_;rintro ⟨n3, out2⟩ _ ad ⟨aa, am, ae, a7⟩;obtain ⟨a8, rfl⟩ := Has.ins am;have H := H n3 out2 aa;refine Xc (Xc (Xd (Xe (vi n3) Z (Xa (X0 n3 9 (decide (n3 > 9)) Z Z Z) (Xb ?_)))));refine Xw (decide (n3 > 9)) Z (fun ab => ?_) (fun ab => ?_)
 ·have H := Xn H ab;refine Xx (X6 (Xc (Xd (Xe (vi n3) Z ?_))));obtain ⟨an, H⟩ := H;refine Xa (Zo n3 10 Z Z an) ?_;obtain ⟨ao, H⟩ := H;refine Xa (Yb 48 (n3 % 10) Z Z ao) ?_;obtain ⟨ap, H⟩ := H;refine Xa (Z5 u3_ u5_ (48 + (n3 % 10)) Z ap) (X8 (kd := Kd.byte) Z6 ae ([(UInt8.ofNat (48 + (n3 % 10)).toNat)] : List UInt8) (cells := [v8 (UInt8.ofNat (48 + (n3 % 10)).toNat)]) ⟨[v8 (UInt8.ofNat (48 + (n3 % 10)).toNat)], _, Z, Z, Z⟩ RF fun a9 aq ar au ba hr35 av af => ?_);refine Xa (Z4 u22_ u5_ u9_ aq ar au ([(UInt8.ofNat (48 + (n3 % 10)).toNat)] : List UInt8) Z (fun _ e => e ▸ ⟨_, af.sx⟩)) ?_;have bb : Lim ([(UInt8.ofNat (48 + (n3 % 10)).toNat)] : List UInt8) := af.le;refine Xe (vs out2) Z ?_;obtain ⟨ag, H⟩ := H;refine Xa (Ym ([(UInt8.ofNat (48 + (n3 % 10)).toNat)] : List UInt8) out2 Z Z ag) (Xf (vs (([(UInt8.ofNat (48 + (n3 % 10)).toNat)] : List UInt8) ++ out2)) Z (Xb (Xd (Xe (vi n3) Z ?_))));obtain ⟨aw, H⟩ := H;refine Xa (Zx n3 10 Z Z aw) (Xf (vi (n3 / 10)) Z (Xb ?_));have ax := av.drop 0 Z;obtain ⟨ay, az⟩ := H;exact ⟨(n3 / 10, (([(UInt8.ofNat (48 + (n3 % 10)).toNat)] : List UInt8) ++ out2)), az, ay, (Xy Z), ax, (lim_cat ag)⟩
 have H := Xo H ab;refine Yh (xin_hit ?_);refine Xc (Xd (Xe (vi n3) Z ?_));obtain ⟨a0, H⟩ := H;refine Xa (Yb 48 n3 Z Z a0) ?_;obtain ⟨a1, H⟩ := H;refine Xa (Z5 u3_ u5_ (48 + n3) Z a1) (X8 (kd := Kd.byte) Z6 ae ([(UInt8.ofNat (48 + n3).toNat)] : List UInt8) (cells := [v8 (UInt8.ofNat (48 + n3).toNat)]) ⟨[v8 (UInt8.ofNat (48 + n3).toNat)], _, Z, Z, Z⟩ RF fun bc a2 a3 a4 bd hr52 a5 ah => ?_);refine Xa (Z4 u22_ u5_ u9_ a2 a3 a4 ([(UInt8.ofNat (48 + n3).toNat)] : List UInt8) Z (fun _ e => e ▸ ⟨_, ah.sx⟩)) ?_;have be : Lim ([(UInt8.ofNat (48 + n3).toNat)] : List UInt8) := ah.le;refine Xe (vs out2) Z ?_;obtain ⟨ai, H⟩ := H;refine Xa (Ym ([(UInt8.ofNat (48 + n3).toNat)] : List UInt8) out2 Z Z ai) (Xf (vs (([(UInt8.ofNat (48 + n3).toNat)] : List UInt8) ++ out2)) Z (Xb (Xm ?_)));have a6 := a5.drop 0 Z;exact ⟨[vs (([(UInt8.ofNat (48 + n3).toNat)] : List UInt8) ++ out2)], ⟨_, Z, Z⟩, (([(UInt8.ofNat (48 + n3).toNat)] : List UInt8) ++ out2), Z, H, a6.gr.g0, (lim_cat ai)⟩
def F104.E0 (n : Int) (Q : Str → Prop) : Prop := F104.Er (fun _ _ => False) n Q
def F104.E (n : Int) (Q : Str → Prop) : Prop := F104.Er F104.E0 n Q
theorem F104.calls0 {O : Ob} (w0 : World) (hO : Ok w0 O) (n : Int) (Q : Str → Prop) (h : F104.E0 n Q) :
  Ret Tryz.prog 165 [vi n] w0 (fun v w' => ∃ (r0 : Str), v = vs r0 ∧ Q r0 ∧ Gr w0 w' none ∧ Lim r0) :=
 F104.callsr (fun _ _ => False) (fun w0 hO => by intros; contradiction) w0 hO n Q h
theorem F104.calls {n : Int} {Q : Str → Prop} (H : F104.E n Q) (hO : Ok w0 O) :
  Ret Tryz.prog 165 [vi n] w0 (fun v w' => ∃ (r0 : Str), v = vs r0 ∧ Q r0 ∧ Gr w0 w' none ∧ Lim r0) := by
 unfold F104.E at H;exact F104.callsr F104.E0 F104.calls0 w0 hO n Q H
def F40.E (s : Shape) (Q : Str → Prop) : Prop :=
 F68.E s (fun r => (if !r then Q [] else F103.E s.Kind (fun r2 => (∃ (I48 : Str → Int → Prop) (mu49 : Str → Int → Nat), I48 r2 0 ∧ ∀ (out2 : Str) (i2 : Int), I48 out2 i2 → (if decide (i2 < (s.Pts.length : Int)) then (out2.length + ([32] : Str).length ≤ 9223372036854775807) ∧ ((0 : Int) ≤ i2 ∧ i2 < (s.Pts.length : Int)) ∧ (∃ q : Str, F104.E ((nth s.Pts i2).X) (fun x => x = q) ∧ (Lim q) ∧ ((out2 ++ ([32] : Str)).length + q.length ≤ 9223372036854775807) ∧ (((out2 ++ ([32] : Str)) ++ q).length + ([44] : Str).length ≤ 9223372036854775807) ∧ ((0 : Int) ≤ i2 ∧ i2 < (s.Pts.length : Int)) ∧ (∃ q2 : Str, F104.E ((nth s.Pts i2).Y) (fun x => x = q2) ∧ (Lim q2) ∧ ((((out2 ++ ([32] : Str)) ++ q) ++ ([44] : Str)).length + q2.length ≤ 9223372036854775807) ∧ (-9223372036854775808 ≤ i2) ∧ I48 ((((out2 ++ ([32] : Str)) ++ q) ++ ([44] : Str)) ++ q2) (i2 + 1) ∧ mu49 ((((out2 ++ ([32] : Str)) ++ q) ++ ([44] : Str)) ++ q2) (i2 + 1) < mu49 out2 i2)) else Q out2)))))
theorem F40.calls {s : Shape} {A1 : Option Addr} {n2 c3 : Nat} {Q : Str → Prop} (H : F40.E s Q) (hO : Ok w0 O) (hp4 : Sl kPt w0 (Fr O) (G A1 n2 c3) s.Pts) :
  Ret Tryz.prog 133 [.agg #[vi s.Kind, G A1 n2 c3]] w0 (fun v w' => ∃ (r0 : Str), v = vs r0 ∧ Q r0 ∧ Gr w0 w' none ∧ Lim r0) := by
 unfold F40.E at H;have hc0 := Ct.init hO;refine X9 Tryz.func133 Z 38 Z [.tmp 2] Z Z ?_;refine Xc (Xd (Yn [vi s.Kind, G A1 n2 c3] Z fun w6 b7 hl9 hu10 g8 ax => ?_));have al := Fb.mk hc0.ok hl9 ax;have ad := hc0.k0 g8;refine Xf (vs []) Z (Xb (Xc (Xc (Xd (Xa (Xu ag41 sz41 cL (Ad b7 0) [vi s.Kind, G A1 n2 c3] Z Z (al.cells (off := 00) Z)) ?_)))));refine Xs go66 (F68.calls H ad.ok (hp4.st ad.st)) Z ?_;rintro _ ay ⟨r, rfl, H, am⟩;have ae := ad.k0 am;refine Xa (X7 r Z) (Xb ?_);refine Xw (!r) Z (fun aj => ?_) (fun aj => ?_)
 ·have H := Xn H aj;exact Xc (Xd (Xf (vs []) Z (Xb (Xm ⟨[vs []], ⟨_, Z, Z⟩, ([] : Str), Z, H, ae.gr.g0, (by decide : Lim ([] : Str))⟩))))
 have H := Xo H aj;refine Xx (Xc (Xd (Xa (Xj fa41_0 (Ad b7 0) (Ad b7 0) Z Z) ?_)));have az := ad.stn am;have an := (al.st az);refine Xa (Xl ag3 cL (Ad b7 0) (vi s.Kind) Z (an.cell Z)) ?_;refine Xs go164 (F103.calls H ae.ok) Z ?_;rintro _ bq ⟨r2, rfl, H, ao, a0⟩;have ap := ae.k0 ao;refine Xf (vs r2) Z (Xb (Xc (Xc (Xd (Xf (vi 0) Z (Xb (X6 ?_)))))));obtain ⟨a1, a2, ak, H⟩ := H;have a3 := ae.stn ao;have a4 := (an.st a3);refine Yi (α := Str × Int) (fun (out2, i2) t ab => a1 out2 i2 ∧ Has t [(1, Pz b7), (3, vs out2), (4, vi i2)] ∧ Cw [] w0 ab [] O fun M => Lim out2 ∧ Sl kPt ab (Fr M) (G A1 n2 c3) s.Pts ∧ Fb ab M b7 [vi s.Kind, G A1 n2 c3]) (fun (out2, i2) => a2 out2 i2) (r2, 0) ⟨ak, (Xy Z), ap, a0, (hp4.st ap.st), a4⟩ ?_;rintro ⟨out2, i2⟩ _ ab ⟨ak, a5, ac, a6, aa, af⟩;obtain ⟨br, rfl⟩ := Has.ins a5;have H := H out2 i2 ak;refine Xc (Xc (Xd (Xe (vi i2) Z (Xa (Xj fa41_1 (Ad b7 0) (Ad b7 1) Z Z) (Xa (Xl ag39 cL (Ad b7 1) (G A1 n2 c3) Z (af.cell Z)) ?_)))));have a7 := aa.le;refine Xa (Ya u39_ A1 n2 c3 aa.len Z) (Xa (X0 i2 (s.Pts.length : Int) (decide (i2 < (s.Pts.length : Int))) Z Z Z) (Xb ?_));refine Xw (decide (i2 < (s.Pts.length : Int))) Z (fun ag => ?_) (fun ag => ?_)
 ·have H := Xn H ag;refine Xx (Xc (X6 (Yz (fun x => Gr ab x none) RK RK (Gr.drew _) ?_)));refine Xv (vs out2) Z ?_;obtain ⟨a8, H⟩ := H;refine Xg (Ym out2 ([32] : Str) Z Z a8) (Xg (Xj fa41_1 (Ad b7 0) (Ad b7 1) Z Z) (Xg (Xl ag39 cQ (Ad b7 1) (G A1 n2 c3) Z (af.cell Z)) (Xv (vi i2) Z ?_)));obtain ⟨aq, H⟩ := H;obtain ⟨ah, bs, a9, bt, ba, bb⟩ := aa.get default RD i2 aq;obtain rfl := kPt.op ba;refine Xg (X3 u39_ Yt A1 ah n2 c3 aa.len i2 Z a9 Z aq) (Xg (Xj fa49_0 (ah.add (i2.toNat * 2)) ((ah.add (i2.toNat * 2)).add 0) Z Z) (Xg (Xl ag3 cQ ((ah.add (i2.toNat * 2)).add 0) (vi ((nth s.Pts i2).X)) Z (bb 0 _ Z)) ?_));obtain ⟨q, bc, bu, H⟩ := H;refine Y0 go165 [vi ((nth s.Pts i2).X)] Z (vs q) (fun w g => (F104.calls bc (ac.k0 g).ok).mono ?_) ?_
  ·rintro _ w ⟨r, rfl, rfl, g2, _⟩;exact ⟨Z, Gr.t0 g g2⟩
  obtain ⟨bd, H⟩ := H;refine Xg (Ym (out2 ++ ([32] : Str)) q Z Z bd) ?_;obtain ⟨be, H⟩ := H;refine Xg (Ym ((out2 ++ ([32] : Str)) ++ q) ([44] : Str) Z Z be) (Xg (Xj fa41_1 (Ad b7 0) (Ad b7 1) Z Z) (Xg (Xl ag39 cQ (Ad b7 1) (G A1 n2 c3) Z (af.cell Z)) (Xv (vi i2) Z ?_)));obtain ⟨ar, H⟩ := H;obtain ⟨ai, bv, bf, bw, bg, bh⟩ := aa.get default RD i2 ar;obtain rfl := kPt.op bg;refine Xg (X3 u39_ Yt A1 ai n2 c3 aa.len i2 Z bf Z ar) (Xg (Xj fa49_1 (ai.add (i2.toNat * 2)) ((ai.add (i2.toNat * 2)).add 1) Z Z) (Xg (Xl ag3 cQ ((ai.add (i2.toNat * 2)).add 1) (vi ((nth s.Pts i2).Y)) Z (bh 1 _ Z)) ?_));obtain ⟨q2, bi, bx, H⟩ := H;refine Y0 go165 [vi ((nth s.Pts i2).Y)] Z (vs q2) (fun w g => (F104.calls bi (ac.k0 g).ok).mono ?_) ?_
  ·rintro _ w ⟨r, rfl, rfl, g2, _⟩;exact ⟨Z, Gr.t0 g g2⟩
  obtain ⟨au, H⟩ := H;refine Xg (Ym (((out2 ++ ([32] : Str)) ++ q) ++ ([44] : Str)) q2 Z Z au) (Zc (vs ((((out2 ++ ([32] : Str)) ++ q) ++ ([44] : Str)) ++ q2)) Z (Yc fun bz av => ?_));have bj := ac.k0 av;refine Xd (Xe (vi i2) Z ?_);obtain ⟨bl, H⟩ := H;have bm : I64 (i2 + 1) := i64_succ (of_decide_eq_true ag) a7 bl;refine Xa (Yb i2 1 Z Z bm) (Xf (vi (i2 + 1)) Z (Xb ?_));obtain ⟨bn, bo⟩ := H;have aw := ac.stn av;have bp := (af.st aw);exact ⟨(((((out2 ++ ([32] : Str)) ++ q) ++ ([44] : Str)) ++ q2), i2 + 1), bo, bn, (Xy Z), bj, (lim_cat au), (aa.st aw), bp⟩
 have H := Xo H ag;refine Yh (xin_hit ?_);exact Xc (Xd (Xe (vs out2) Z (Xf (vs out2) Z (Xb (Xm ⟨[vs out2], ⟨_, Z, Z⟩, out2, Z, H, ac.gr.g0, a6⟩)))))
def F51.E (f : Feat) (Q : Str → Prop) : Prop :=
 F87.E f (fun r => (if !r then Q [] else (f.Id.length + ([32] : Str).length ≤ 9223372036854775807) ∧ (∃ q : Str, F40.E f.Shape (fun x => x = q) ∧ (Lim q) ∧ ((f.Id ++ ([32] : Str)).length + q.length ≤ 9223372036854775807) ∧ (∃ (I67 : Str → Int → Prop) (mu68 : Str → Int → Nat), I67 ((f.Id ++ ([32] : Str)) ++ q) 0 ∧ ∀ (out2 : Str) (i2 : Int), I67 out2 i2 → (if decide (i2 < (f.Tags.length : Int)) then (out2.length + ([32] : Str).length ≤ 9223372036854775807) ∧ ((0 : Int) ≤ i2 ∧ i2 < (f.Tags.length : Int)) ∧ ((out2 ++ ([32] : Str)).length + ((nth f.Tags i2).Key).length ≤ 9223372036854775807) ∧ (((out2 ++ ([32] : Str)) ++ ((nth f.Tags i2).Key)).length + ([61] : Str).length ≤ 9223372036854775807) ∧ ((0 : Int) ≤ i2 ∧ i2 < (f.Tags.length : Int)) ∧ ((((out2 ++ ([32] : Str)) ++ ((nth f.Tags i2).Key)) ++ ([61] : Str)).length + ((nth f.Tags i2).Val).length ≤ 9223372036854775807) ∧ (-9223372036854775808 ≤ i2) ∧ I67 ((((out2 ++ ([32] : Str)) ++ ((nth f.Tags i2).Key)) ++ ([61] : Str)) ++ ((nth f.Tags i2).Val)) (i2 + 1) ∧ mu68 ((((out2 ++ ([32] : Str)) ++ ((nth f.Tags i2).Key)) ++ ([61] : Str)) ++ ((nth f.Tags i2).Val)) (i2 + 1) < mu68 out2 i2 else Q out2)))))
theorem F51.calls {f : Feat} {A2 : Option Addr} {n3 c4 : Nat} {A7 : Option Addr} {n8 c9 : Nat} {Q : Str → Prop} (H : F51.E f Q) (hO : Ok w0 O) (hs1 : Lim f.Id) (hp5 : Sl kPt w0 (Fr O) (G A2 n3 c4) f.Shape.Pts) (ap : Sl kTag w0 (Fr O) (G A7 n8 c9) f.Tags) :
  Ret Tryz.prog 97 [.agg #[vs f.Id, vi f.Shape.Kind, G A2 n3 c4, G A7 n8 c9]] w0 (fun v w' => ∃ (r0 : Str), v = vs r0 ∧ Q r0 ∧ Gr w0 w' none ∧ Lim r0) := by
 unfold F51.E at H;have hc0 := Ct.init hO;refine X9 Tryz.func97 Z 40 Z [.tmp 2] Z Z ?_;refine Xc (Xd (Yn [vs f.Id, vi f.Shape.Kind, G A2 n3 c4, G A7 n8 c9] Z fun a0 aa a1 hu16 a2 a3 => ?_));have aq := Fb.mk hc0.ok a1 a3;have ad := hc0.k0 a2;refine Xf (vs []) Z (Xb (Xc (Xc (Xd (Xa (Xu ag44 sz44 cL (Ad aa 0) [vs f.Id, vi f.Shape.Kind, G A2 n3 c4, G A7 n8 c9] Z Z (aq.cells (off := 00) Z)) ?_)))));refine Xs go24 (F87.calls H ad.ok hs1 (hp5.st ad.st) (ap.st ad.st)) Z ?_;rintro _ a4 ⟨r, rfl, H, ar⟩;have ae := ad.k0 ar;refine Xa (X7 r Z) (Xb ?_);refine Xw (!r) Z (fun aj => ?_) (fun aj => ?_)
 ·have H := Xn H aj;exact Xc (Xd (Xf (vs []) Z (Xb (Xm ⟨[vs []], ⟨_, Z, Z⟩, ([] : Str), Z, H, ae.gr.g0, (by decide : Lim ([] : Str))⟩))))
 have H := Xo H aj;refine Xx (Xc (Yz (fun x => Gr a4 x none) RK RK (Gr.drew _) ?_));refine Xg (Xj fa44_0 (Ad aa 0) (Ad aa 0) Z Z) ?_;have a5 := ad.stn ar;have ak := (aq.st a5);refine Xg (Xl ag9 cQ (Ad aa 0) (vs f.Id) Z (ak.cell Z)) ?_;obtain ⟨a6, H⟩ := H;refine Xg (Ym f.Id ([32] : Str) Z Z a6) (Xg (Xj fa44_1 (Ad aa 0) (Ad aa 1) Z Z) (Xg (Xu ag41 sz41 cQ (Ad aa 1) [vi f.Shape.Kind, G A2 n3 c4] Z Z (ak.cells (off := 1) Z)) ?_));obtain ⟨q, a7, bw, H⟩ := H;refine Y0 go133 [.agg #[vi f.Shape.Kind, G A2 n3 c4]] Z (vs q) (fun w g => (F40.calls a7 (ae.k0 g).ok ((hp5.st ae.st).st (.new _ g))).mono ?_) ?_
 ·rintro _ w ⟨r, rfl, rfl, g2, _⟩;exact ⟨Z, Gr.t0 g g2⟩
 obtain ⟨au, H⟩ := H;refine Xg (Ym (f.Id ++ ([32] : Str)) q Z Z au) (Zc (vs ((f.Id ++ ([32] : Str)) ++ q)) Z (Yc fun bx av => ?_));have al := ae.k0 av;refine Xc (Xc (Xd (Xf (vi 0) Z (Xb (X6 ?_)))));obtain ⟨a8, a9, am, H⟩ := H;have ba := ae.stn av;have bb := (ak.st ba);refine Yi (α := Str × Int) (fun (out2, i2) t ac => a8 out2 i2 ∧ Has t [(1, Pz aa), (3, vs out2), (4, vi i2)] ∧ Cw [] w0 ac [] O fun M => Lim out2 ∧ Sl kPt ac (Fr M) (G A2 n3 c4) f.Shape.Pts ∧ Sl kTag ac (Fr M) (G A7 n8 c9) f.Tags ∧ Fb ac M aa [vs f.Id, vi f.Shape.Kind, G A2 n3 c4, G A7 n8 c9]) (fun (out2, i2) => a9 out2 i2) (((f.Id ++ ([32] : Str)) ++ q), 0) ⟨am, (Xy Z), al, (lim_cat au), (hp5.st al.st), (ap.st al.st), bb⟩ ?_;rintro ⟨out2, i2⟩ _ ac ⟨am, bc, an, bd, be, ab, af⟩;obtain ⟨bz, rfl⟩ := Has.ins bc;have H := H out2 i2 am;refine Xc (Xc (Xd (Xe (vi i2) Z (Xa (Xj fa44_2 (Ad aa 0) (Ad aa 3) Z Z) (Xa (Xl ag42 cL (Ad aa 3) (G A7 n8 c9) Z (af.cell Z)) ?_)))));have bf := ab.le;refine Xa (Ya u42_ A7 n8 c9 ab.len Z) (Xa (X0 i2 (f.Tags.length : Int) (decide (i2 < (f.Tags.length : Int))) Z Z Z) (Xb ?_));refine Xw (decide (i2 < (f.Tags.length : Int))) Z (fun ag => ?_) (fun ag => ?_)
 ·have H := Xn H ag;refine Xx (Xc (X6 (Yz (fun x => Gr ac x none) RK RK (Gr.drew _) ?_)));refine Xv (vs out2) Z ?_;obtain ⟨bg, H⟩ := H;refine Xg (Ym out2 ([32] : Str) Z Z bg) (Xg (Xj fa44_2 (Ad aa 0) (Ad aa 3) Z Z) (Xg (Xl ag42 cQ (Ad aa 3) (G A7 n8 c9) Z (af.cell Z)) (Xv (vi i2) Z ?_)));obtain ⟨aw, H⟩ := H;obtain ⟨ah, b0, bh, b1, bi, bj⟩ := ab.get default RD i2 aw;obtain ⟨rfl, b2, b3⟩ := kTag.op bi;refine Xg (X3 u42_ Y5 A7 ah n8 c9 ab.len i2 Z bh Z aw) (Xg (Xj fa93_0 (ah.add (i2.toNat * 2)) ((ah.add (i2.toNat * 2)).add 0) Z Z) (Xg (Xl ag9 cQ ((ah.add (i2.toNat * 2)).add 0) (vs ((nth f.Tags i2).Key)) Z (bj 0 _ Z)) ?_));obtain ⟨bl, H⟩ := H;refine Xg (Ym (out2 ++ ([32] : Str)) ((nth f.Tags i2).Key) Z Z bl) ?_;obtain ⟨bm, H⟩ := H;refine Xg (Ym ((out2 ++ ([32] : Str)) ++ ((nth f.Tags i2).Key)) ([61] : Str) Z Z bm) (Xg (Xj fa44_2 (Ad aa 0) (Ad aa 3) Z Z) (Xg (Xl ag42 cQ (Ad aa 3) (G A7 n8 c9) Z (af.cell Z)) (Xv (vi i2) Z ?_)));obtain ⟨ax, H⟩ := H;obtain ⟨ai, b4, bn, b5, bo, bp⟩ := ab.get default RD i2 ax;obtain ⟨rfl, b6, b7⟩ := kTag.op bo;refine Xg (X3 u42_ Y5 A7 ai n8 c9 ab.len i2 Z bn Z ax) (Xg (Xj fa93_1 (ai.add (i2.toNat * 2)) ((ai.add (i2.toNat * 2)).add 1) Z Z) (Xg (Xl ag9 cQ ((ai.add (i2.toNat * 2)).add 1) (vs ((nth f.Tags i2).Val)) Z (bp 1 _ Z)) ?_));obtain ⟨ay, H⟩ := H;refine Xg (Ym (((out2 ++ ([32] : Str)) ++ ((nth f.Tags i2).Key)) ++ ([61] : Str)) ((nth f.Tags i2).Val) Z Z ay) (Zc (vs ((((out2 ++ ([32] : Str)) ++ ((nth f.Tags i2).Key)) ++ ([61] : Str)) ++ ((nth f.Tags i2).Val))) Z (Yc fun b8 az => ?_));have bq := an.k0 az;refine Xd (Xe (vi i2) Z ?_);obtain ⟨br, H⟩ := H;have bs : I64 (i2 + 1) := i64_succ (of_decide_eq_true ag) bf br;refine Xa (Yb i2 1 Z Z bs) (Xf (vi (i2 + 1)) Z (Xb ?_));obtain ⟨bt, bu⟩ := H;have ao := an.stn az;have bv := (af.st ao);exact ⟨(((((out2 ++ ([32] : Str)) ++ ((nth f.Tags i2).Key)) ++ ([61] : Str)) ++ ((nth f.Tags i2).Val)), i2 + 1), bu, bt, (Xy Z), bq, (lim_cat ay), (be.st ao), (ab.st ao), bv⟩
 have H := Xo H ag;refine Yh (xin_hit ?_);exact Xc (Xd (Xe (vs out2) Z (Xf (vs out2) Z (Xb (Xm ⟨[vs out2], ⟨_, Z, Z⟩, out2, Z, H, an.gr.g0, bd⟩)))))
def F105.E (f : Feat) (is : Bool) (Q : Str → Prop) : Prop :=
 (if !is then Q ([45] : Str) else F51.E f (fun r => Q r))
theorem F105.calls {f : Feat} {A2 : Option Addr} {n3 c4 : Nat} {A7 : Option Addr} {n8 c9 : Nat} {is : Bool} {Q : Str → Prop} (H : F105.E f is Q) (hO : Ok w0 O) (hs1 : Lim f.Id) (hp5 : Sl kPt w0 (Fr O) (G A2 n3 c4) f.Shape.Pts) (ac : Sl kTag w0 (Fr O) (G A7 n8 c9) f.Tags) :
  Ret Tryz.prog 44 [.agg #[vs f.Id, vi f.Shape.Kind, G A2 n3 c4, G A7 n8 c9], vb is] w0 (fun v w' => ∃ (r0 : Str), v = vs r0 ∧ Q r0 ∧ Gr w0 w' none ∧ Lim r0) := by
 unfold F105.E at H;have hc0 := Ct.init hO;refine X9 Tryz.func44 Z 9 Z [.tmp 4] Z Z ?_;refine Xc (Xd (Yn [vs f.Id, vi f.Shape.Kind, G A2 n3 c4, G A7 n8 c9] Z fun ad ae af hu16 ag ah => ?_));have ai := Fb.mk hc0.ok af ah;have aa := hc0.k0 ag;refine Xf (vs []) Z (Xb (Xc (Xc (Xd (Xe (vb is) Z (Xa (X7 is Z) (Xb ?_)))))));refine Xw (!is) Z (fun ab => ?_) (fun ab => ?_)
 ·have H := Xn H ab;exact Xc (Xd (Xf (vs ([45] : Str)) Z (Xb (Xm ⟨[vs ([45] : Str)], ⟨_, Z, Z⟩, ([45] : Str), Z, H, aa.gr.g0, (by decide : Lim ([45] : Str))⟩))))
 have H := Xo H ab;refine Xx (Xc (Xd (Xa (Xu ag44 sz44 cL (Ad ae 0) [vs f.Id, vi f.Shape.Kind, G A2 n3 c4, G A7 n8 c9] Z Z (ai.cells (off := 00) Z)) ?_)));refine Xs go97 (F51.calls H aa.ok hs1 (hp5.st aa.st) (ac.st aa.st)) Z ?_;rintro _ am ⟨r, rfl, H, aj, ak⟩;have al := aa.k0 aj;exact Xf (vs r) Z (Xb (Xm ⟨[vs r], ⟨_, Z, Z⟩, r, Z, H, al.gr.g0, ak⟩))
def F52.E (d : List Change) (Q : Str → Prop) : Prop :=
 (∃ (I20 : Str → Int → Prop) (mu21 : Str → Int → Nat), I20 [] 0 ∧ ∀ (out2 : Str) (i2 : Int), I20 out2 i2 → (if decide (i2 < (d.length : Int)) then F101.E d (fun r => (if r then ((0 : Int) ≤ i2 ∧ i2 < (d.length : Int)) ∧ (out2.length + ((nth d i2).Id).length ≤ 9223372036854775807) ∧ ((out2 ++ ((nth d i2).Id)).length + ([58, 32] : Str).length ≤ 9223372036854775807) ∧ ((0 : Int) ≤ i2 ∧ i2 < (d.length : Int)) ∧ ((0 : Int) ≤ i2 ∧ i2 < (d.length : Int)) ∧ (∃ q : Str, F105.E ((nth d i2).Was) ((nth d i2).Had) (fun x => x = q) ∧ (Lim q) ∧ (((out2 ++ ((nth d i2).Id)) ++ ([58, 32] : Str)).length + q.length ≤ 9223372036854775807) ∧ ((((out2 ++ ((nth d i2).Id)) ++ ([58, 32] : Str)) ++ q).length + ([32, 62, 32] : Str).length ≤ 9223372036854775807) ∧ ((0 : Int) ≤ i2 ∧ i2 < (d.length : Int)) ∧ ((0 : Int) ≤ i2 ∧ i2 < (d.length : Int)) ∧ (∃ q2 : Str, F105.E ((nth d i2).Now) ((nth d i2).Has) (fun x => x = q2) ∧ (Lim q2) ∧ (((((out2 ++ ((nth d i2).Id)) ++ ([58, 32] : Str)) ++ q) ++ ([32, 62, 32] : Str)).length + q2.length ≤ 9223372036854775807) ∧ ((((((out2 ++ ((nth d i2).Id)) ++ ([58, 32] : Str)) ++ q) ++ ([32, 62, 32] : Str)) ++ q2).length + ([10] : Str).length ≤ 9223372036854775807) ∧ (-9223372036854775808 ≤ i2) ∧ I20 ((((((out2 ++ ((nth d i2).Id)) ++ ([58, 32] : Str)) ++ q) ++ ([32, 62, 32] : Str)) ++ q2) ++ ([10] : Str)) (i2 + 1) ∧ mu21 ((((((out2 ++ ((nth d i2).Id)) ++ ([58, 32] : Str)) ++ q) ++ ([32, 62, 32] : Str)) ++ q2) ++ ([10] : Str)) (i2 + 1) < mu21 out2 i2)) else Q out2)) else Q out2))
theorem F52.calls {d : List Change} {A1 : Option Addr} {n2 c3 : Nat} {Q : Str → Prop} (H : F52.E d Q) (hO : Ok w0 O) (hp4 : Sl kChange w0 (Fr O) (G A1 n2 c3) d) :
  Ret Tryz.prog 13 [G A1 n2 c3] w0 (fun v w' => ∃ (r0 : Str), v = vs r0 ∧ Q r0 ∧ Gr w0 w' none ∧ Lim r0) := by
 unfold F52.E at H;have hc0 := Ct.init hO;refine X9 Tryz.func13 Z 50 Z [.tmp 2] Z Z ?_;refine Xc (Xd (Xf (vs []) Z (Xb (Xc (Xd (Xf (vs []) Z (Xb (Xc ?_))))))));refine Xc (Xd (Xf (vi 0) Z (Xb (X6 ?_))));obtain ⟨ba, bb, al, H⟩ := H;refine Yi (α := Str × Int) (fun (out2, i2) t ae => ba out2 i2 ∧ Has t [(0, G A1 n2 c3), (3, vs out2), (4, vi i2)] ∧ Ct [] w0 ae [] O ∧ Lim out2 ∧ Sl kChange ae (Fr ([] ++ O)) (G A1 n2 c3) d) (fun (out2, i2) => bb out2 i2) (([] : Str), 0) ⟨al, (Xy Z), hc0, (by decide : Lim ([] : Str)), hp4⟩ ?_;rintro ⟨out2, i2⟩ _ ae ⟨al, bc, af, a1, aa⟩;obtain ⟨cg, rfl⟩ := Has.ins bc;have H := H out2 i2 al;refine Xc (Xc (Xd (Xe (vi i2) Z (Xe (G A1 n2 c3) Z ?_))));have bd := aa.le;refine Xa (Ya u23_ A1 n2 c3 aa.len Z) (Xa (X0 i2 (d.length : Int) (decide (i2 < (d.length : Int))) Z Z Z) (Xe (vb (decide (i2 < (d.length : Int)))) Z ?_));rcases X4 (decide (i2 < (d.length : Int))) with ac | ac
 ·have H := Xn H ac;refine Xh ac Z (Xe (G A1 n2 c3) Z (Xh ac Z ?_));refine Xs go15 (F101.calls H af.ok aa) Z ?_;rintro _ be ⟨r, rfl, H, a2⟩;have ad := af.k0 a2;refine Xa (Xk true (vb r) ac Z) (Xb ?_);refine Xw r Z (fun am => ?_) (fun am => ?_)
  ·have H := Xn H am;refine Xx (Xc (X6 (Yz (fun x => Gr be x none) RK RK (Gr.drew _) ?_)));refine Xv (vs out2) Z (Xv (G A1 n2 c3) Z (Xv (vi i2) Z ?_));obtain ⟨a3, H⟩ := H;have ab := af.stn a2;obtain ⟨ag, ch, bf, ci, bg, bh⟩ := (aa.st ab).get default RD i2 a3;obtain ⟨cj, ck, cl, cm, cn, co, cp, cq, cr, cs, ct, cu, rfl, cv, cw, cx, cy, cz, c0, c1⟩ := kChange.op bg;refine Xg (X3 u23_ Ys A1 ag n2 c3 (aa.st ab).len i2 Z bf Z a3) (Xg (Xj fa62_0 (ag.add (i2.toNat * 11)) ((ag.add (i2.toNat * 11)).add 0) Z Z) (Xg (Xl ag9 cQ ((ag.add (i2.toNat * 11)).add 0) (vs ((nth d i2).Id)) Z (bh 0 _ Z)) ?_));obtain ⟨bi, H⟩ := H;refine Xg (Ym out2 ((nth d i2).Id) Z Z bi) ?_;obtain ⟨bj, H⟩ := H;refine Xg (Ym (out2 ++ ((nth d i2).Id)) ([58, 32] : Str) Z Z bj) (Xv (G A1 n2 c3) Z (Xv (vi i2) Z ?_));obtain ⟨a4, H⟩ := H;obtain ⟨ah, c2, bl, c4, bm, bn⟩ := (aa.st ab).get default RD i2 a4;obtain ⟨an, ao, ap, aq, ar, au, c5, c6, c7, c8, c9, da, rfl, db, bo, bp, bq, dc, dd, de⟩ := kChange.op bm;refine Xg (X3 u23_ Ys A1 ah n2 c3 (aa.st ab).len i2 Z bl Z a4) (Xg (Xj fa62_2 (ah.add (i2.toNat * 11)) ((ah.add (i2.toNat * 11)).add 2) Z Z) (Xg (Xu ag44 sz44 cQ ((ah.add (i2.toNat * 11)).add 2) [vs ((nth d i2).Was.Id), vi ((nth d i2).Was.Shape.Kind), G an ao ap, G aq ar au] Z Z (sub_cells (off := 2) bn Z)) (Xv (G A1 n2 c3) Z (Xv (vi i2) Z ?_))));obtain ⟨a5, H⟩ := H;obtain ⟨ai, df, br, dg, bs, bt⟩ := (aa.st ab).get default RD i2 a5;obtain ⟨dh, di, dj, dk, dl, dm, dn, dp, dq, dr, ds, dt, rfl, du, dv, dw, dx, dy, dz, d0⟩ := kChange.op bs;refine Xg (X3 u23_ Ys A1 ai n2 c3 (aa.st ab).len i2 Z br Z a5) (Xg (Xj fa62_1 (ai.add (i2.toNat * 11)) ((ai.add (i2.toNat * 11)).add 1) Z Z) (Xg (Xl ag4 cQ ((ai.add (i2.toNat * 11)).add 1) (vb ((nth d i2).Had)) Z (bt 1 _ Z)) ?_));obtain ⟨q, bu, d1, H⟩ := H;refine Y0 go44 [.agg #[vs ((nth d i2).Was.Id), vi ((nth d i2).Was.Shape.Kind), G an ao ap, G aq ar au], vb ((nth d i2).Had)] Z (vs q) (fun w g => (F105.calls bu (ad.k0 g).ok bo (bp.st (.new _ g)) (bq.st (.new _ g))).mono ?_) ?_
   ·rintro _ w ⟨r, rfl, rfl, g2, _⟩;exact ⟨Z, Gr.t0 g g2⟩
   obtain ⟨bv, H⟩ := H;refine Xg (Ym ((out2 ++ ((nth d i2).Id)) ++ ([58, 32] : Str)) q Z Z bv) ?_;obtain ⟨bw, H⟩ := H;refine Xg (Ym (((out2 ++ ((nth d i2).Id)) ++ ([58, 32] : Str)) ++ q) ([32, 62, 32] : Str) Z Z bw) (Xv (G A1 n2 c3) Z (Xv (vi i2) Z ?_));obtain ⟨a6, H⟩ := H;obtain ⟨aj, d2, bx, d3, bz, b0⟩ := (aa.st ab).get default RD i2 a6;obtain ⟨d4, d5, d6, d7, d8, d9, av, aw, ax, ay, az, a0, rfl, ea, eb, ec, ed, b1, b2, b3⟩ := kChange.op bz;refine Xg (X3 u23_ Ys A1 aj n2 c3 (aa.st ab).len i2 Z bx Z a6) (Xg (Xj fa62_4 (aj.add (i2.toNat * 11)) ((aj.add (i2.toNat * 11)).add 7) Z Z) (Xg (Xu ag44 sz44 cQ ((aj.add (i2.toNat * 11)).add 7) [vs ((nth d i2).Now.Id), vi ((nth d i2).Now.Shape.Kind), G av aw ax, G ay az a0] Z Z (sub_cells (off := 7) b0 Z)) (Xv (G A1 n2 c3) Z (Xv (vi i2) Z ?_))));obtain ⟨a7, H⟩ := H;obtain ⟨ak, ee, b4, ef, b5, b6⟩ := (aa.st ab).get default RD i2 a7;obtain ⟨eg, eh, ei, ej, ek, el, em, en, eo, ep, eq, er, rfl, es, et, eu, ev, ew, ex, ey⟩ := kChange.op b5;refine Xg (X3 u23_ Ys A1 ak n2 c3 (aa.st ab).len i2 Z b4 Z a7) (Xg (Xj fa62_3 (ak.add (i2.toNat * 11)) ((ak.add (i2.toNat * 11)).add 6) Z Z) (Xg (Xl ag4 cQ ((ak.add (i2.toNat * 11)).add 6) (vb ((nth d i2).Has)) Z (b6 6 _ Z)) ?_));obtain ⟨q2, b7, ez, H⟩ := H;refine Y0 go44 [.agg #[vs ((nth d i2).Now.Id), vi ((nth d i2).Now.Shape.Kind), G av aw ax, G ay az a0], vb ((nth d i2).Has)] Z (vs q2) (fun w g => (F105.calls b7 (ad.k0 g).ok b1 (b2.st (.new _ g)) (b3.st (.new _ g))).mono ?_) ?_
   ·rintro _ w ⟨r, rfl, rfl, g2, _⟩;exact ⟨Z, Gr.t0 g g2⟩
   obtain ⟨b8, H⟩ := H;refine Xg (Ym ((((out2 ++ ((nth d i2).Id)) ++ ([58, 32] : Str)) ++ q) ++ ([32, 62, 32] : Str)) q2 Z Z b8) ?_;obtain ⟨a8, H⟩ := H;refine Xg (Ym (((((out2 ++ ((nth d i2).Id)) ++ ([58, 32] : Str)) ++ q) ++ ([32, 62, 32] : Str)) ++ q2) ([10] : Str) Z Z a8) (Zc (vs ((((((out2 ++ ((nth d i2).Id)) ++ ([58, 32] : Str)) ++ q) ++ ([32, 62, 32] : Str)) ++ q2) ++ ([10] : Str))) Z (Yc fun e0 a9 => ?_));have b9 := ad.k0 a9;refine Xd (Xe (vi i2) Z ?_);obtain ⟨ca, H⟩ := H;have cb : I64 (i2 + 1) := i64_succ (of_decide_eq_true ac) bd ca;refine Xa (Yb i2 1 Z Z cb) (Xf (vi (i2 + 1)) Z (Xb ?_));obtain ⟨cc, cd⟩ := H;have ce := ad.stn a9;have cf := ((aa.st ab).st ce);exact ⟨(((((((out2 ++ ((nth d i2).Id)) ++ ([58, 32] : Str)) ++ q) ++ ([32, 62, 32] : Str)) ++ q2) ++ ([10] : Str)), i2 + 1), cd, cc, (Xy Z), b9, (lim_cat a8), cf⟩
  have H := Xo H am;refine Yh (xin_hit ?_);exact Xc (Xd (Xe (vs out2) Z (Xf (vs out2) Z (Xb (Xm ⟨[vs out2], ⟨_, Z, Z⟩, out2, Z, H, ad.gr.g0, a1⟩)))))
 have H := Xo H ac;refine Xi ac Z (Xi ac Z (Xa (Xk false (vb false) ac Z) (Xb (Y4 (b := false) Z Z ?_))));refine Yh (xin_hit ?_);exact Xc (Xd (Xe (vs out2) Z (Xf (vs out2) Z (Xb (Xm ⟨[vs out2], ⟨_, Z, Z⟩, out2, Z, H, af.gr.g0, a1⟩)))))
def F13.E (code : List UInt8) (Q : List Change → List Change → Prop) : Prop :=
 F67.E code (fun r_b r_p => F22.E r_b r_p 5 (fun r m => (if r == 0 then F94.E r_b m (fun r2 m2 => F94.E r_b m2 (fun r3 m3 => Q r2 r3)) else F70.E r_b m (fun r4 m4 => F88.E r_b m4 r4 (fun r5 m5 => F88.E r_b m5 r5 (fun r6 m6 => F22.E r_b m6 6 (fun r7 m7 => (if r7 == 0 then F139.E r4 r5 (fun r8 => F139.E r5 r4 (fun r9 => Q r8 r9)) else F139.E r4 r5 (fun r10 => F139.E r5 r6 (fun r11 => Q r10 r11))))))))))
theorem F13.calls {code : List UInt8} {A1 : Option Addr} {n2 c3 : Nat} {Q : List Change → List Change → Prop} (H : F13.E code Q) (hO : Ok w0 O) (hp4 : Sl Kd.byte w0 (Fr O) (G A1 n2 c3) code) :
  Ret Tryz.prog 16 [G A1 n2 c3] w0 (fun v w' => ∃ (r0 r1 : List Change) (Aw0 : Option Addr) (nw0 cw0 : Nat) (Aw2 : Option Addr) (nw2 cw2 : Nat), v = .tuple #[G Aw0 nw0 cw0, G Aw2 nw2 cw2] ∧ Q r0 r1 ∧ Gk w0 w' [bk Aw0, bk Aw2] O (Ow kChange 62 w' ([bk Aw0, bk Aw2] ++ O) (G Aw0 nw0 cw0) r0 ∧ Ow kChange 62 w' ([bk Aw0, bk Aw2] ++ O) (G Aw2 nw2 cw2) r1)) := by
 unfold F13.E at H;have hc0 := Ct.init hO;refine X9 Tryz.func16 Z 35 Z [.tmp 2, .tmp 3] Z Z ?_;refine Xc (Xd (Xf (G none 0 0) Z (Xf (G none 0 0) Z (Xb (Xc (Xd (Xe (G A1 n2 c3) Z ?_)))))));refine Xs go40 (F67.calls H hc0.ok hp4) Z ?_;rintro _ w6 ⟨r_b, r_p, b8, ag, ah, ai, rfl, H, g7, cw, cx, hx9, al⟩;have an := hc0.owns g7 cw cx;refine Xf (Pz b8) Z (Xb (Xc (Xc (Xd (Xe (Pz b8) Z ?_)))));refine Xs go47 (F22.calls H an.ok al hx9 (mem_app 0 Z)) Z ?_;rintro _ b0 ⟨r, m, rfl, H, ax, b1⟩;have aj := an.wr 0 Z ax;refine Xa (X0 r 0 (r == 0) Z Z Z) (Xb ?_);refine Xw (r == 0) Z (fun ay => ?_) (fun ay => ?_)
 ·have H := Xn H ay;refine Xc (Xd (Xe (Pz b8) Z ?_));have b2 := an.stw 0 Z ax;refine Xs go39 (F94.calls H aj.ok (al.st b2) b1 (mem_app 0 Z)) Z ?_;rintro _ cy ⟨r2, m2, az, a0, a1, rfl, H, b3, cz, c0, b4, c1⟩;have a2 := aj.ownw (j := 0) Z b3 c0 b4;refine Xe (Pz b8) Z ?_;have c2 := aj.stow 0 Z b3 b4;have c4 := ((al.st b2).st c2);refine Xs go39 (F94.calls H a2.ok c4 cz (mem_app 1 Z)) Z ?_;rintro _ d1 ⟨r3, m3, a3, a4, a5, rfl, H, b5, d2, c5, b6, c6⟩;have a6 := a2.ownw (j := 1) Z b5 c5 b6;refine Xf (G az a0 a1) Z (Xf (G a3 a4 a5) Z (Xb (Xm ?_)));have a7 := a6.drop 2 Z;have a8 := a7.perm (.swap _ _ _);have c7 := (a7.sp (a6.sd (a2.sow c1 0 1 Z Z Z b5 b6) 1 2 Z Z Z) (.swap _ _ _));have c8 := (a7.sp (a6.sd c6 0 2 Z Z Z) (.swap _ _ _));exact ⟨[G az a0 a1, G a3 a4 a5], ⟨_, Z, ⟨_, Z, Z⟩⟩, r2, r3, az, a0, a1, a3, a4, a5, Z, H, a8.gr.g0, a8.ok, a8.ge, c7, c8⟩
 have H := Xo H ay;refine Xx (Xc (Xd (Xe (Pz b8) Z ?_)));have b7 := an.stw 0 Z ax;refine Xs go48 (F70.calls H aj.ok (al.st b7) b1 (mem_app 0 Z)) Z ?_;rintro _ c9 ⟨r4, m4, ad, ae, af, rfl, H, b9, da, db, ca, dc⟩;have a9 := aj.ownw (j := 0) Z b9 db ca;refine Xf (G ad ae af) Z (Xb (Xc (Xd (Xe (Pz b8) Z (Xe (G ad ae af) Z ?_)))));have ba := a9.gv dc 0 Z;have bb := a9.drop 0 Z;have dd := aj.stow 0 Z b9 ca;have de := a9.std 0 Z;have bc := (((al.st b7).st dd).st de);have df := da;refine Xs go49 (F88.calls H bb.ok bc df (mem_app 0 Z) ba) Z ?_;rintro _ dg ⟨r5, m5, aa, ab, ac, rfl, H, cb, dh, bd⟩;have be := bb.wr 0 Z cb;refine Xf (G aa ab ac) Z (Xb (Xc (Xd (Xe (Pz b8) Z (Xe (G aa ab ac) Z ?_)))));have ao := bb.stw 0 Z cb;refine Xs go49 (F88.calls H be.ok (bc.st ao) dh (mem_app 0 Z) bd) Z ?_;rintro _ di ⟨r6, m6, ap, aq, ar, rfl, H, cc, dj, dk⟩;have au := be.wr 0 Z cc;refine Xf (G ap aq ar) Z (Xb (Xc (Xc (Xd (Xe (Pz b8) Z ?_)))));have am := be.stw 0 Z cc;have dl := ((bc.st ao).st am);refine Xs go47 (F22.calls H au.ok dl dj (mem_app 0 Z)) Z ?_;rintro _ cd ⟨r7, m7, rfl, H, bf, d3⟩;have ak := au.wr 0 Z bf;refine Xa (X0 r7 0 (r7 == 0) Z Z Z) (Xb ?_);refine Xw (r7 == 0) Z (fun bg => ?_) (fun bg => ?_)
 ·have H := Xn H bg;refine Xd (Xe (G ad ae af) Z (Xf (G ad ae af) Z (Xb (Xc (Xd (Xe (G ad ae af) Z (Xe (G aa ab ac) Z ?_)))))));have ce := au.stw 0 Z bf;have cf := (((ba.st ao).st am).st ce);have cg := ((bd.st am).st ce);refine Xs go50 (F139.calls H ak.ok cf cg) Z ?_;rintro _ ch ⟨r8, av, bh, bi, rfl, H, ci, dm, cj, dn⟩;have ck : Ct [] w0 ch [bk av, some b8] O := ak.owns ci dm cj;refine Xe (G aa ab ac) Z (Xe (G ad ae af) Z ?_);have cl := ak.stos ci cj;refine Xs go50 (F139.calls H ck.ok (cg.st cl) (cf.st cl)) Z ?_;rintro _ d4 ⟨r9, bj, bl, bm, rfl, H, cm, dp, cn, dq⟩;have bn := ck.owns cm dp cn;refine Xf (G av bh bi) Z (Xf (G bj bl bm) Z (Xb (Xm ?_)));have bo := bn.drop 2 Z;have bp := bo.perm (.swap _ _ _);have dr := (bo.sp (bn.sd (dn.sos cm cn) 1 2 Z Z Z) (.swap _ _ _));have ds := (bo.sp (bn.sd dq 0 2 Z Z Z) (.swap _ _ _));exact ⟨[G av bh bi, G bj bl bm], ⟨_, Z, ⟨_, Z, Z⟩⟩, r8, r9, av, bh, bi, bj, bl, bm, Z, H, bp.gr.g0, bp.ok, bp.ge, dr, ds⟩
 have H := Xo H bg;refine Xx (Xc (Xd (Xe (G ad ae af) Z (Xe (G aa ab ac) Z ?_))));have bq := au.stw 0 Z bf;have dt := (((ba.st ao).st am).st bq);have co := ((bd.st am).st bq);refine Xs go50 (F139.calls H ak.ok dt co) Z ?_;rintro _ cp ⟨r10, aw, br, bs, rfl, H, cq, du, cr, dv⟩;have cs : Ct [] w0 cp [bk aw, some b8] O := ak.owns cq du cr;refine Xe (G aa ab ac) Z (Xe (G ap aq ar) Z ?_);have ct := ak.stos cq cr;have dw := ((dk.st bq).st ct);refine Xs go50 (F139.calls H cs.ok (co.st ct) dw) Z ?_;rintro _ d5 ⟨r11, bt, bu, bv, rfl, H, cu, dx, cv, dy⟩;have bw := cs.owns cu dx cv;refine Xf (G aw br bs) Z (Xf (G bt bu bv) Z (Xb (Xm ?_)));have bx := bw.drop 2 Z;have bz := bx.perm (.swap _ _ _);have dz := (bx.sp (bw.sd (dv.sos cu cv) 1 2 Z Z Z) (.swap _ _ _));have d0 := (bx.sp (bw.sd dy 0 2 Z Z Z) (.swap _ _ _));exact ⟨[G aw br bs, G bt bu bv], ⟨_, Z, ⟨_, Z, Z⟩⟩, r10, r11, aw, br, bs, bt, bu, bv, Z, H, bz.gr.g0, bz.ok, bz.ge, dz, d0⟩
section
section
variable {P : Program} {n : Nat} {N R : Ps} {X : Nat → Ps} {t : Tm} {w : World} {ops : Array Oper} {rest : List Oper} {ty : TypeId} {pos : String} {aft : Array Edge} {x y : Operand} {d : Nat} {C : World → Prop}
theorem Z8 {T e : TypeId} (hu : P.underlying T = some (.slice e)) (hx : evt n t x = .slice none 0 0) : Pu P n t C ⟨some d, .call ⟨.builtin .cap, #[x], #[T]⟩, ty, pos, aft, none⟩ (vi 0) := fun w hw => by
 simp [execOp, resolve, hx, invoke, builtin, Builtin.cap_, run_underlying hu]; rfl
theorem Kn {T e : TypeId} {s : Nat} (hu : P.underlying T = some (.slice e)) (hs : SizeOf P e s) {lo hi : Option Operand} (hx : evt n t x = .slice none 0 0) (hlo : bound n t lo 0 0) (hhi : bound n t hi ((0 : Nat) : Int) 0) :
  Pu P n t C ⟨some d, .slice T x lo hi none, ty, pos, aft, none⟩ (.slice none 0 0) := by
 have h := Zs (C := C) (d := d) (ty := ty) (pos := pos) (aft := aft) hu hs none 0 0 hx 0 0 hlo hhi ⟨Int.le_refl _, Int.le_refl _, Int.le_refl _⟩
 rw [show (0 : Int).toNat = 0 from rfl, sliced0] at h
 exact h
theorem run_append_zeros (T U e : TypeId) (i : TypeInfo) (z : Value) (k : IntKind) (ht : P.underlying T = some (.slice e)) (hu : P.underlying U = some (.int k)) (hi : P.info? e = some i) (hz : i.zero = some z) (m : Nat) (h0 : 0 < m) (hm : (m : Int) ≤ 268435456) (hb : i.bytes ≤ 524288) (hsz : 0 < i.size) :
  (Builtin.append_ #[T, U] ty #[.slice none 0 0, vi (m : Int)]).run P w = .ok (.slice (some ⟨w.heap.size, 0, none⟩) m (grownCap w m 0 e)) (w.drew.alloc (.cells (Builtin.zeroCells z.cells m ++ Builtin.zeroCells z.cells (grownCap w m 0 e - m)) e)) := by
 have hw : I64 (m : Int) := by unfold I64; omega
 have hn : m ≠ 0 := by omega
 have h1 : ¬ ((m : Int) < 0) := by omega
 have hmul : m * i.bytes ≤ 140737488355328 := Nat.le_trans (Nat.mul_le_mul (show m ≤ 268435456 by omega) hb) OM
 have h2 : ¬ ((281474976710656 : Int) < (m : Int) * (i.bytes : Int)) := by
  have : ((m * i.bytes : Nat) : Int) ≤ 140737488355328 := by omega
  rw [Int.natCast_mul] at this; omega
 have h63' : ¬ (9223372036854775807 < (m : Int)) := by omega
 have h48' : ¬ (281474976710656 < Builtin.nextslicecap m 0 * i.bytes) := by rw [nextslicecap_zero h0]; omega
 have hms : ¬ (m * i.size = 0) := by have := Nat.mul_pos h0 hsz; omega
 have hms2 : ¬ i.size = 0 := by omega
 simp [Builtin.append_, run_underlying ht, run_underlying hu, sizeOf, typeInfo, zeroValue, hi, hz, hn, h1, h2, h63', h48', hms2, Question.forced, run_firstCells_none, newRow, grownCap, hw.wrap, asInt, asIntOf]
 intro h; exact absurd h hms
theorem zero_list (zc : List Value) (hpos : 0 < zc.length) (m : Nat) : (Builtin.zeroCells zc.toArray m).toList = (List.replicate m zc).flatten := by
 have := made_list zc hpos m
 rw [← this]
 simp only [Builtin.zeroCells, madeCells, List.size_toArray]
theorem Ko {T U e : TypeId} {k0 : IntKind} {bytes : Nat} {zc : List Value} {α : Type} {kd : Kd α} (E : EI P T e kd.sz bytes zc) (hU : P.underlying U = some (.int k0)) {O M : Ob} {w0 : World} {mr : Ob} (hC : Ct mr w0 w M O) (z : α) (hz : kd.R w (Fr (M ++ O)) z zc) (m : Int) (hx : evt n t x = .slice none 0 0) (hy : evt n t y = vi m) (hm : 0 < m ∧ m ≤ 268435456)
  (k : ∀ w' A l c, Gr w w' none → (∀ b, bk A = some b → w.heap.size ≤ b) → Ct mr w0 w' (bk A :: M) O →
   Ow kd e w' (bk A :: M ++ O) (.slice A l c) (List.replicate m.toNat z) → L P n ops N R X rest (upd d (.slice A l c) t) w') :
  L P n ops N R X (⟨some d, .call ⟨.builtin .append, #[x, y], #[T, U]⟩, ty, pos, aft, none⟩ :: rest) t w := by
 obtain ⟨ti, zv, hti, hzv, hsz, hb, hzc⟩ := E.inf
 have hbb := E.byt
 have hmn : ((m.toNat : Nat) : Int) = m := by omega
 have hr := run_append_zeros (P := P) (w := w) (ty := ty) T U e ti zv k0 E.un hU hti hzv m.toNat OM OM OM (by rw [hsz]; exact E.pos)
 rw [hmn] at hr
 have hzl : zv.cells = zc.toArray := by rw [← hzc]
 have hpos : 0 < zc.length := by rw [E.len]; exact E.pos
 have harr := Arr.rep (w := w) z zc hz m.toNat
 have hal := harr.len
 rw [List.length_replicate] at hal
 have g : Gr w (w.drew.alloc (.cells (Builtin.zeroCells zv.cells m.toNat ++ Builtin.zeroCells zv.cells (grownCap w m.toNat 0 e - m.toNat)) e)) none := (Gr.drew w).t0 (Gr.alloc _ _)
 have hge := grownCap_ge w m.toNat 0 e
 have hle := grownCap_le_maxLen w m.toNat 0 e (by unfold maxLen; omega)
 have e1 : (Builtin.zeroCells zv.cells m.toNat).toList = (List.replicate m.toNat zc).flatten := by rw [hzl]; exact zero_list zc hpos _
 have e2 : (Builtin.zeroCells zv.cells (grownCap w m.toNat 0 e - m.toNat)).size = (grownCap w m.toNat 0 e - m.toNat) * kd.sz := by simp only [Builtin.zeroCells, Array.size_map, Array.size_range]; rw [hzl, List.size_toArray, E.len]
 have e3 : (Builtin.zeroCells zv.cells m.toNat).size = m.toNat * kd.sz := by simp only [Builtin.zeroCells, Array.size_map, Array.size_range]; rw [hzl, List.size_toArray, E.len]
 refine Zk rfl (.slice (some ⟨w.heap.size, 0, none⟩) (List.replicate m.toNat z).length (grownCap w m.toNat 0 e)) _ (by rw [List.length_replicate]; simp [execOp, resolve, hx, hy, invoke, builtin, hr]) (k _ (some ⟨w.heap.size, 0, none⟩) _ _ g (fun b e => by cases e; exact Nat.le_refl _)
  (hC.own g _ fun b e => by cases e; simp) ⟨(List.replicate m.toNat zc).flatten, ?_, ?_, fun b e => by rw [← e]; exact List.mem_cons_self⟩)
 ·rw [List.length_replicate]
  refine ⟨by rw [hal], .inr ⟨w.heap.size, grownCap w m.toNat 0 e, _, rfl, Nat.zero_le _, heap_alloc_new w.drew _, hge, hle, ?_, ?_⟩⟩
  ·rw [Array.size_append, e2, e3, ← Nat.add_mul]; congr 1; omega
  ·rw [Array.toList_append, e1, List.take_left']
   rw [hal]
 ·exact (harr.mono fun b hS hb => (⟨hS, hb⟩ : some b ∉ M ++ O ∧ b < w.heap.size)).keep (fun b hS hb => g.block b hb (by simp)) |>.mono fun b hS _ hm => by
   rcases List.mem_cons.1 hm with e' | hm
   ·cases e'; exact absurd hS.2 (Nat.lt_irrefl _)
   ·exact hS.1 hm
end
end
def F7.E (n : Int) (Q : List Change → Prop) : Prop :=
 (if decide (n < 0) then False else (I64 (0 - 0)) ∧ (I64 (n - (0 - 0))) ∧ (if decide (n - (0 - 0) > 0) then ((0 : Int) < n - (0 - 0) ∧ n - (0 - 0) ≤ (268435456 : Int)) ∧ ((0 : Int) ≤ 0 ∧ 0 ≤ ((List.replicate (n - (0 - 0)).toNat ((⟨[], false, (⟨[], (⟨0, []⟩ : Shape), []⟩ : Feat), false, (⟨[], (⟨0, []⟩ : Shape), []⟩ : Feat)⟩ : Change) : Change)).length : Int)) ∧ Q ((List.replicate (n - (0 - 0)).toNat ((⟨[], false, (⟨[], (⟨0, []⟩ : Shape), []⟩ : Feat), false, (⟨[], (⟨0, []⟩ : Shape), []⟩ : Feat)⟩ : Change) : Change)).take (0 : Int).toNat) else Q []))
theorem F7.calls {n : Int} {Q : List Change → Prop} (H : F7.E n Q) (hO : Ok w0 O) :
  Ret Tryz.prog 108 [G none 0 0, vi n] w0 (fun v w' => ∃ (r0 : List Change) (Aw0 : Option Addr) (nw0 cw0 : Nat), v = G Aw0 nw0 cw0 ∧ Q r0 ∧ Gk w0 w' [bk Aw0] O (Ow kChange 62 w' ([bk Aw0] ++ O) (G Aw0 nw0 cw0) r0)) := by
 unfold F7.E at H;have hc0 := Ct.init hO;refine X9 Tryz.func108 Z 27 Z [.tmp 4] Z Z ?_;refine Xc (Xd (Xf (G none 0 0) Z (Xb (Xc (Xc (Xd (Xe (vi n) Z (Xa (X0 n 0 (decide (n < 0)) Z Z Z) ?_))))))));refine Xb ?_;refine Xw (decide (n < 0)) Z (fun hq1 => ?_) (fun hq1 => ?_)
 ·have H := Xn H hq1;exact False.elim H
 have H := Xo H hq1;refine Xx (Xc (Xc (Xd (Xe (vi n) Z (Xe (G none 0 0) Z (Xa (Z8 u23_ Z) (Xe (G none 0 0) Z (Xa (Ya u23_ none 0 0 Z Z) ?_))))))));obtain ⟨hb2, H⟩ := H;refine Xa (Yx 0 0 Z Z hb2) ?_;obtain ⟨hb3, H⟩ := H;refine Xa (Yx n (0 - 0) Z Z hb3) (Xf (vi (n - (0 - 0))) Z (Xb (Xc (Xd (Xe (vi (n - (0 - 0))) Z (Xa (X0 (n - (0 - 0)) 0 (decide (n - (0 - 0) > 0)) Z Z Z) (Xb ?_)))))));refine Xw (decide (n - (0 - 0) > 0)) Z (fun hq4 => ?_) (fun hq4 => ?_)
 ·have H := Xn H hq4;refine Xd (Xe (G none 0 0) Z (Xe (G none 0 0) Z (Xa (Z8 u23_ Z) (Xa (Kn u23_ Ys Z Z Z) (Xe (vi (n - (0 - 0))) Z ?_)))));obtain ⟨hb5, H⟩ := H;refine Ko (kd := kChange) Y1 u3_ hc0 ((⟨([] : Str), false, (⟨([] : Str), (⟨0, []⟩ : Shape), []⟩ : Feat), false, (⟨([] : Str), (⟨0, []⟩ : Shape), []⟩ : Feat)⟩ : Change) : Change) ((kChange.mk _ _ (⟨([] : Str), false, (⟨([] : Str), (⟨0, []⟩ : Shape), []⟩ : Feat), false, (⟨([] : Str), (⟨0, []⟩ : Shape), []⟩ : Feat)⟩ : Change) RD RD (Sl.nil _ _ _ none 0 RD) (Sl.nil _ _ _ none 0 RD) RD (Sl.nil _ _ _ none 0 RD) (Sl.nil _ _ _ none 0 RD))) (n - (0 - 0)) Z Z hb5 fun w6 A7 n8 c9 ah hr11 ab ad => ?_;refine Xe (G none 0 0) Z (Xa (Ya u23_ none 0 0 Z Z) ?_);obtain ⟨ae, H⟩ := H;refine Kh u23_ Ys A7 n8 c9 (List.replicate (n - (0 - 0)).toNat ((⟨([] : Str), false, (⟨([] : Str), (⟨0, []⟩ : Shape), []⟩ : Feat), false, (⟨([] : Str), (⟨0, []⟩ : Shape), []⟩ : Feat)⟩ : Change) : Change)) Z ad 0 Z Z ae fun aa af => ?_;exact Xf (G A7 aa c9) Z (Xb (Xc (Xd (Xe (G A7 aa c9) Z (Xf (G A7 aa c9) Z (Xb (Xm ⟨[G A7 aa c9], ⟨_, Z, Z⟩, ((List.replicate (n - (0 - 0)).toNat ((⟨([] : Str), false, (⟨([] : Str), (⟨0, []⟩ : Shape), []⟩ : Feat), false, (⟨([] : Str), (⟨0, []⟩ : Shape), []⟩ : Feat)⟩ : Change) : Change)).take (0 : Int).toNat), A7, aa, c9, Z, H, ab.gr.g0, ab.ok, ab.ge, af⟩)))))))
 have H := Xo H hq4;refine Xx (Xc (Xd (Xe (G none 0 0) Z (Xf (G none 0 0) Z (Xb (Xm ?_))))));have ac := hc0.own (Gr.refl _ none) none (by simp);have ag : Ow kChange 62 w0 ([bk none] ++ O) (G none 0 0) [] := Ow.nil _ _ _ _;exact ⟨[G none 0 0], ⟨_, Z, Z⟩, ([] : List Change), none, 0, 0, Z, H, ac.gr.g0, ac.ok, ac.ge, ag⟩
def F4.E (slices : List (List Change)) (Q : List Change → Prop) : Prop :=
 (∃ (I19 : Int → Int → Prop) (mu20 : Int → Int → Nat), I19 0 0 ∧ ∀ (size2 v2 : Int), I19 size2 v2 → (if decide (v2 < (slices.length : Int)) then ((0 : Int) ≤ v2 ∧ v2 < (slices.length : Int)) ∧ (((nth slices v2).length : Int) ≤ 9223372036854775807 → I64 (size2 + ((nth slices v2).length : Int))) ∧ (if decide (size2 + ((nth slices v2).length : Int) < 0) then False else (((nth slices v2).length : Int) ≤ 9223372036854775807 → I64 (v2 + 1)) ∧ I19 (size2 + ((nth slices v2).length : Int)) (v2 + 1) ∧ mu20 (size2 + ((nth slices v2).length : Int)) (v2 + 1) < mu20 size2 v2) else F7.E size2 (fun r => (∃ (I83 : (List Change) → Int → Prop) (mu84 : (List Change) → Int → Nat), I83 r 0 ∧ ∀ (xs2 : List Change) (v4 : Int), I83 xs2 v4 → (if decide (v4 < (slices.length : Int)) then ((0 : Int) ≤ v4 ∧ v4 < (slices.length : Int)) ∧ (xs2.length + (nth slices v4).length ≤ 268435456) ∧ (I64 (v4 + 1)) ∧ I83 (xs2 ++ (nth slices v4)) (v4 + 1) ∧ mu84 (xs2 ++ (nth slices v4)) (v4 + 1) < mu84 xs2 v4 else Q xs2)))))
theorem F4.calls {slices : List (List Change)} {A1 : Option Addr} {n2 c3 : Nat} {Q : List Change → Prop} (H : F4.E slices Q) (hO : Ok w0 O) (hp4 : Sl (Kd.sl kChange) w0 (Fr O) (G A1 n2 c3) slices) :
  Ret Tryz.prog 54 [G A1 n2 c3] w0 (fun v w' => ∃ (r0 : List Change) (Aw0 : Option Addr) (nw0 cw0 : Nat), v = G Aw0 nw0 cw0 ∧ Q r0 ∧ Gk w0 w' [bk Aw0] O (Ow kChange 62 w' ([bk Aw0] ++ O) (G Aw0 nw0 cw0) r0)) := by
 unfold F4.E at H;have hc0 := Ct.init hO;refine X9 Tryz.func54 Z 36 Z [.tmp 2] Z Z ?_;refine Xc (Xd (Xf (G none 0 0) Z (Xb (Xc (Xd (Xf (vi 0) Z (Xb (Xc ?_))))))));refine Xc (Xd (Xe (G A1 n2 c3) Z ?_));have hl6 := hp4.le;refine Xa (Ya u128_ A1 n2 c3 hp4.len Z) (Xe (vi 0) Z (Xb (X6 ?_)));obtain ⟨bc, bd, ao, H⟩ := H;refine Yi (α := Int × Int) (fun (size2, v2) t ae => bc size2 v2 ∧ Has t [(0, G A1 n2 c3), (3, vi size2), (9, G A1 n2 c3), (10, vi (slices.length : Int)), (11, vi v2)] ∧ Ct [] w0 ae [] O ∧ Sl (Kd.sl kChange) ae (Fr ([] ++ O)) (G A1 n2 c3) slices) (fun (size2, v2) => bd size2 v2) (0, 0) ⟨ao, (Xy Z), hc0, hp4⟩ ?_;rintro ⟨size2, v2⟩ _ ae ⟨ao, be, af, ad⟩;obtain ⟨b7, rfl⟩ := Has.ins be;have H := H size2 v2 ao;refine Xc (Xd (Xa (X0 v2 (slices.length : Int) (decide (v2 < (slices.length : Int))) Z Z Z) (Xb (Xc ?_))));refine Xw (decide (v2 < (slices.length : Int))) Z (fun ap => ?_) (fun ap => ?_)
 ·have H := Xn H ap;refine Xx (Xc (X6 (Xc (Xd ?_))));obtain ⟨ax, H⟩ := H;obtain ⟨ay, b8, bf, b9, bg, bh⟩ := ad.get default RD v2 ax;obtain ⟨ag, ah, ai, rfl, az⟩ := Kd.sl.op bg;refine Xa (X3 u128_ Z7 A1 ay n2 c3 ad.len v2 Z bf Z ax) (Xa (Xl ag23 cL (ay.add (v2.toNat * 1)) (G ag ah ai) Z (bh 0 _ Z)) (Xf (G ag ah ai) Z (Xb (Xc (Xd (Xe (vi size2) Z (Xe (G ag ah ai) Z ?_)))))));have a0 := az.le;refine Xa (Ya u23_ ag ah ai az.len Z) ?_;obtain ⟨bi, H⟩ := H;have bj := bi (len_le a0);refine Xa (Yb size2 ((nth slices v2).length : Int) Z Z bj) (Xf (vi (size2 + ((nth slices v2).length : Int))) Z (Xb (Xc (Xd (Xe (vi (size2 + ((nth slices v2).length : Int))) Z (Xa (X0 (size2 + ((nth slices v2).length : Int)) 0 (decide (size2 + ((nth slices v2).length : Int) < 0)) Z Z Z) (Xb ?_)))))));refine Xw (decide (size2 + ((nth slices v2).length : Int) < 0)) Z (fun aq => ?_) (fun aq => ?_)
  ·have H := Xn H aq;exact False.elim H
  have H := Xo H aq;refine Xx (Xd ?_);obtain ⟨bl, H⟩ := H;have bm := bl (len_le a0);refine Xa (Yb v2 1 Z Z bm) (Xe (vi (v2 + 1)) Z (Xb ?_));obtain ⟨bn, bo⟩ := H;exact ⟨(size2 + ((nth slices v2).length : Int), v2 + 1), bo, bn, (Xy Z), af, ad⟩
 have H := Xo H ap;refine Yh (xin_hit ?_);refine Xc (Xd (Xe (vi size2) Z ?_));refine Xs go108 (F7.calls H af.ok) Z ?_;rintro _ ca ⟨r, a1, a2, a3, rfl, H, a4, bp, a5, bq⟩;have br := af.owns a4 bp a5;refine Xf (G a1 a2 a3) Z (Xb (Xc (Xc (Xd (Xe (G A1 n2 c3) Z ?_)))));have ar := af.stos a4 a5;have cb := (ad.st ar).le;refine Xa (Ya u128_ A1 n2 c3 (ad.st ar).len Z) (Xe (vi 0) Z (Xb (X6 ?_)));obtain ⟨bs, bt, au, H⟩ := H;refine Yi (α := (List Change) × (Option Addr) × Nat × Nat × Int) (fun (xs2, aa, ab, ac, v4) t aj => bs xs2 v4 ∧ Has t [(6, G aa ab ac), (25, G A1 n2 c3), (26, vi (slices.length : Int)), (27, vi v4)] ∧ Cw [] w0 aj [bk aa] O fun M => Sl (Kd.sl kChange) aj (Fr M) (G A1 n2 c3) slices ∧ Ow kChange 62 aj M (G aa ab ac) xs2) (fun (xs2, _, _, _, v4) => bt xs2 v4) (r, a1, a2, a3, 0) ⟨au, (Xy Z), br, (ad.st ar), bq⟩ ?_;rintro ⟨xs2, aa, ab, ac, v4⟩ _ aj ⟨au, bu, ak, av, a6⟩;obtain ⟨cc, rfl⟩ := Has.ins bu;have H := H xs2 v4 au;refine Xc (Xd (Xa (X0 v4 (slices.length : Int) (decide (v4 < (slices.length : Int))) Z Z Z) (Xb (Xc ?_))));refine Xw (decide (v4 < (slices.length : Int))) Z (fun aw => ?_) (fun aw => ?_)
 ·have H := Xn H aw;refine Xx (Xc (X6 (Xc (Xd ?_))));obtain ⟨a7, H⟩ := H;obtain ⟨a8, cd, bv, ce, bw, bx⟩ := av.get default RD v4 a7;obtain ⟨al, am, an, rfl, bz⟩ := Kd.sl.op bw;refine Xa (X3 u128_ Z7 A1 a8 n2 c3 av.len v4 Z bv Z a7) (Xa (Xl ag23 cL (a8.add (v4.toNat * 1)) (G al am an) Z (bx 0 _ Z)) (Xf (G al am an) Z (Xb (Xd (Xe (G aa ab ac) Z (Xe (G al am an) Z ?_))))));obtain ⟨b0, H⟩ := H;refine Ye Y1 ak (G aa ab ac) xs2 (nth slices v4) Z a6 (G al am an) Z bz.sx 0 Z b0 fun cf a9 ba bb cg b1 b2 b3 => ?_;refine Xf (G a9 ba bb) Z (Xb (Xd ?_));obtain ⟨b4, H⟩ := H;refine Xa (Yb v4 1 Z Z b4) (Xe (vi (v4 + 1)) Z (Xb ?_));obtain ⟨b5, b6⟩ := H;exact ⟨((xs2 ++ (nth slices v4)), a9, ba, bb, v4 + 1), b6, b5, (Xy Z), b2, (av.st b1), b3⟩
 have H := Xo H aw;refine Yh (xin_hit ?_);exact Xc (Xd (Xe (G aa ab ac) Z (Xf (G aa ab ac) Z (Xb (Xm ⟨[G aa ab ac], ⟨_, Z, Z⟩, xs2, aa, ab, ac, Z, H, ak.gr.g0, ak.ok, ak.ge, a6⟩)))))
section
open Go.Shelf Go.Sort Go.Lib
def F8.E (x : List Str) (Q : List Str → Prop) : Prop := x.length ≤ 268435456 ∧ Q (sortS x)
theorem F8.calls {O : Ob} (w0 : World) (hO : Ok w0 O) (A : Option Addr) (n c : Nat) (x : List Str) (hp : Ow Kd.str 9 w0 O (.slice A n c) x) (Q : List Str → Prop) (h : F8.E x Q) :
  Ret Tryz.prog 55 [.slice A n c] w0 (fun v w' => ∃ (m0 : List Str), v = .tuple #[] ∧ Q m0 ∧ Gr w0 w' (blk (.slice A n c)) ∧ Ow Kd.str 9 w' O (.slice A n c) m0) := by
 obtain ⟨hl, hq⟩ := h
 by_cases hx : 0 < x.length
 ·obtain ⟨g, rfl, rfl, hc, hg⟩ := hp.form hx
  refine Calls.mono (Tryz.slices_Sort_string g 0 c x w0 hp.holds hg OM) fun e w' ⟨he, q, os, hw⟩ => ?_
  subst he; subst hw
  have hs : (sortS x).length = x.length := List.length_mergeSort _
  obtain ⟨h1, h2⟩ := hp.putS (sortS x) hs (fun y hy => hp.lims y (List.mem_mergeSort.1 hy)) q os hx
  exact ⟨_, rfl, sortS x, rfl, hq, h1, h2⟩
 ·have e0 : x = [] := List.length_eq_zero_iff.1 OM
  subst e0
  obtain rfl : n = 0 := hp.len
  refine Calls.mono (Tryz.slices_Sort_string_none A c w0) fun e w' ⟨he, hw⟩ => ?_
  subst he; subst hw
  exact ⟨_, rfl, [], rfl, (by simpa [sortS] using hq), Gr.refl _ _, hp⟩
end
section
open Go.Shelf Go.Sort Go.Lib
def F1.E (x : List Str) (Q : List Str → Prop) : Prop := x.length ≤ 268435456 ∧ Q (Lib.compact x)
theorem F1.calls {O : Ob} (w0 : World) (hO : Ok w0 O) (A : Option Addr) (n c : Nat) (x : List Str) (hp : Ow Kd.str 9 w0 O (.slice A n c) x) (Q : List Str → Prop) (h : F1.E x Q) :
  Ret Tryz.prog 56 [.slice A n c] w0 (fun v w' => ∃ (m0 : List Str) (l : Nat), v = .slice A l c ∧ Q m0 ∧ Gr w0 w' (blk (.slice A n c)) ∧ Ow Kd.str 9 w' O (.slice A l c) m0) := by
 obtain ⟨hl, hq⟩ := h
 by_cases hx : 0 < x.length
 ·obtain ⟨g, rfl, rfl, hc, hg⟩ := hp.form hx
  refine Calls.mono (Tryz.slices_Compact_string g 0 c x w0 hp.holds OM hc) fun e w' ⟨he, q, hw⟩ => ?_
  have hcl := compact_le x
  rw [← grow_empty (putRow encStr (Sort.ahead w0 q) g 0 _)] at hw
  subst he; subst hw
  obtain ⟨h1, h2⟩ := hp.putS (Lib.compact x ++ List.replicate (x.length - (Lib.compact x).length) []) (by rw [List.length_append, List.length_replicate]; omega) (fun y hy => by
   rcases List.mem_append.1 hy with hy | hy
   ·exact hp.lims y (compact_mem hy)
   ·rw [List.eq_of_mem_replicate hy]; decide) q #[] hx
  have h3 := h2.cut (Lib.compact x).length (by rw [List.length_append]; omega)
  rw [List.take_left'] at h3
  ·exact ⟨_, rfl, Lib.compact x, _, rfl, hq, h1, h3⟩
  ·rfl
 ·have e0 : x = [] := List.length_eq_zero_iff.1 OM
  subst e0
  obtain rfl : n = 0 := hp.len
  refine Calls.mono (Tryz.slices_Compact_string_empty A c w0) fun e w' ⟨he, hw⟩ => ?_
  subst he; subst hw
  exact ⟨_, rfl, [], _, rfl, hq, Gr.refl _ _, hp⟩
end
def F27.E (c_ : Change) (fv2 : Str) (Q : Bool → Prop) : Prop :=
 Q (c_.Id == fv2)
theorem F27.calls {c_ : Change} {A3 : Option Addr} {n4 c5 : Nat} {A8 : Option Addr} {n9 aa : Nat} {ab : Option Addr} {ac ad : Nat} {ae : Option Addr} {af ag : Nat} {b : Nat} {fv2 : Str} {Q : Bool → Prop} (H : F27.E c_ fv2 Q) (hO : Ok w0 O) (hs1 : Lim c_.Id) (hs2 : Lim c_.Was.Id) (hp6 : Sl kPt w0 (Fr O) (G A3 n4 c5) c_.Was.Shape.Pts) (ao : Sl kTag w0 (Fr O) (G A8 n9 aa) c_.Was.Tags) (ap : Lim c_.Now.Id) (aq : Sl kPt w0 (Fr O) (G ab ac ad) c_.Now.Shape.Pts) (ar : Sl kTag w0 (Fr O) (G ae af ag) c_.Now.Tags) (au : Lim fv2) (hp1 : Fb w0 O b [vs fv2]) :
  Ret Tryz.prog 112 [.agg #[vs c_.Id, vb c_.Had, vs c_.Was.Id, vi c_.Was.Shape.Kind, G A3 n4 c5, G A8 n9 aa, vb c_.Has, vs c_.Now.Id, vi c_.Now.Shape.Kind, G ab ac ad, G ae af ag], Pz b] w0 (fun v w' => ∃ (r0 : Bool), v = vb r0 ∧ Q r0 ∧ Gr w0 w' none) := by
 unfold F27.E at H;have hc0 := Ct.init hO;refine X9 Tryz.func112 Z 8 Z [.tmp 3] Z Z ?_;refine Xc (Xd (Yn [vs c_.Id, vb c_.Had, vs c_.Was.Id, vi c_.Was.Shape.Kind, G A3 n4 c5, G A8 n9 aa, vb c_.Has, vs c_.Now.Id, vi c_.Now.Shape.Kind, G ab ac ad, G ae af ag] Z fun av ah aj hu30 ak al => ?_));have am := Fb.mk hc0.ok aj al;have ai := hc0.k0 ak;refine Xf (vb false) Z (Xb (Xc (Xd (Xa (Xj fa62_0 (Ad ah 0) (Ad ah 0) Z Z) (Xa (Xl ag9 cL (Ad ah 0) (vs c_.Id) Z (am.cell Z)) ?_)))));have an := (hp1.st ai.st);exact Xa (Xl ag9 cL (Ad b 0) (vs fv2) Z (an.cell Z)) (Xa (Yl c_.Id fv2 (c_.Id == fv2) Z Z Z) (Xf (vb (c_.Id == fv2)) Z (Xb (Xm ⟨[vb (c_.Id == fv2)], ⟨_, Z, Z⟩, c_.Id == fv2, Z, H, ai.gr.g0⟩))))
def F0.E (s : List Change) (f : Change → Bool) (f_ok : Change → Prop) (Q : Int → Prop) : Prop :=
 (∃ (I23 : Int → Prop) (mu24 : Int → Nat), I23 0 ∧ ∀ (v2 : Int), I23 v2 → (if decide (v2 < (s.length : Int)) then ((0 : Int) ≤ v2 ∧ v2 < (s.length : Int)) ∧ (f_ok (nth s v2)) ∧ (if (f (nth s v2)) then Q v2 else (I64 (v2 + 1)) ∧ I23 (v2 + 1) ∧ mu24 (v2 + 1) < mu24 v2) else Q (-1)))
theorem F0.calls {s : List Change} {A1 : Option Addr} {n2 c3 : Nat} {fg6 : FuncId} {fc7 : List Value} {f : Change → Bool} {f_ok : Change → Prop} {Q : Int → Prop} (H : F0.E s f f_ok Q) (hO : Ok w0 O) (hp4 : Sl kChange w0 (Fr O) (G A1 n2 c3) s) (hgo8 : Goes Tryz.prog fg6) (hf9 : ∀ (w : World) (L : Ob), Ct [] w0 w L O → ∀ (x0_ : Change) (au : Option Addr) (av aw : Nat) (ax : Option Addr) (ay az : Nat) (a0 : Option Addr) (a1 a2 : Nat) (a3 : Option Addr) (a4 a5 : Nat) (bt : Lim x0_.Id) (bu : Lim x0_.Was.Id) (bv : Sl kPt w (Fr (L ++ O)) (G au av aw) x0_.Was.Shape.Pts) (bw : Sl kTag w (Fr (L ++ O)) (G ax ay az) x0_.Was.Tags) (bx : Lim x0_.Now.Id) (bz : Sl kPt w (Fr (L ++ O)) (G a0 a1 a2) x0_.Now.Shape.Pts) (b0 : Sl kTag w (Fr (L ++ O)) (G a3 a4 a5) x0_.Now.Tags), f_ok x0_ → Ret Tryz.prog fg6 ([.agg #[vs x0_.Id, vb x0_.Had, vs x0_.Was.Id, vi x0_.Was.Shape.Kind, G au av aw, G ax ay az, vb x0_.Has, vs x0_.Now.Id, vi x0_.Now.Shape.Kind, G a0 a1 a2, G a3 a4 a5]] ++ fc7) w (fun v w' => v = vb (f x0_) ∧ Gr w w' none)) :
  Ret Tryz.prog 111 [G A1 n2 c3, .func (.func fg6) #[] fc7.toArray] w0 (fun v w' => ∃ (r0 : Int), v = vi r0 ∧ Q r0 ∧ Gr w0 w' none) := by
 unfold F0.E at H;have hc0 := Ct.init hO;refine X9 Tryz.func111 Z 19 Z [.tmp 4] Z Z ?_;refine Xc (Xd (Xf (vi 0) Z (Xb (Xc (Xc (Xd (Xe (G A1 n2 c3) Z ?_)))))));have b1 := hp4.le;refine Xa (Ya u23_ A1 n2 c3 hp4.len Z) (Xe (vi 0) Z (Xb (X6 ?_)));obtain ⟨ba, bb, ac, H⟩ := H;refine Yi (α := Int) (fun (sv__ : Int) t aa => match sv__ with | v2 => ba v2 ∧ Has t [(0, G A1 n2 c3), (1, .func (.func fg6) #[] fc7.toArray), (7, vi (s.length : Int)), (8, vi v2)] ∧ Ct [] w0 aa [] O ∧ Sl kChange aa (Fr ([] ++ O)) (G A1 n2 c3) s) (fun (sv__ : Int) => match sv__ with | v2 => bb v2) 0 ⟨ac, (Xy Z), hc0, hp4⟩ ?_;rintro v2 _ aa ⟨ac, bc, ab, ad⟩;obtain ⟨b2, rfl⟩ := Has.ins bc;have H := H v2 ac;refine Xc (Xd (Xa (X0 v2 (s.length : Int) (decide (v2 < (s.length : Int))) Z Z Z) (Xb (Xc ?_))));refine Xw (decide (v2 < (s.length : Int))) Z (fun ae => ?_) (fun ae => ?_)
 ·have H := Xn H ae;refine Xx (Xc (X6 (Xc (Xd (Xe (vi v2) Z (Xf (vi v2) Z (Xb (Xc ?_))))))));refine Xd (Xe (.func (.func fg6) #[] fc7.toArray) Z (Xe (G A1 n2 c3) Z (Xe (vi v2) Z ?_)));obtain ⟨a6, H⟩ := H;obtain ⟨a7, b3, bd, b4, be, bf⟩ := ad.get default RD v2 a6;obtain ⟨af, ag, ah, ai, aj, ak, al, am, an, ao, ap, aq, rfl, bg, bh, bi, bj, bl, bm, bn⟩ := kChange.op be;refine Xa (X3 u23_ Ys A1 a7 n2 c3 ad.len v2 Z bd Z a6) (Xa (Xu ag62 sz62 cL (a7.add (v2.toNat * 11)) [vs ((nth s v2).Id), vb ((nth s v2).Had), vs ((nth s v2).Was.Id), vi ((nth s v2).Was.Shape.Kind), G af ag ah, G ai aj ak, vb ((nth s v2).Has), vs ((nth s v2).Now.Id), vi ((nth s v2).Now.Shape.Kind), G al am an, G ao ap aq] Z Z bf) ?_);obtain ⟨bo, H⟩ := H;refine Zz hgo8 fc7 Z [.agg #[vs ((nth s v2).Id), vb ((nth s v2).Had), vs ((nth s v2).Was.Id), vi ((nth s v2).Was.Shape.Kind), G af ag ah, G ai aj ak, vb ((nth s v2).Has), vs ((nth s v2).Now.Id), vi ((nth s v2).Now.Shape.Kind), G al am an, G ao ap aq]] Z ((hf9 aa [] ab (nth s v2) af ag ah ai aj ak al am an ao ap aq bg bh bi bj bl bm bn bo).mono ?_);rintro _ b5 ⟨rfl, a8⟩;have a9 := ab.k0 a8;refine Xb ?_;refine Xw (f (nth s v2)) Z (fun ar => ?_) (fun ar => ?_)
  ·have H := Xn H ar;exact Xc (Xd (Xe (vi v2) Z (Xf (vi v2) Z (Xb (Xm ⟨[vi v2], ⟨_, Z, Z⟩, v2, Z, H, a9.gr.g0⟩)))))
  have H := Xo H ar;refine Xx (Xd ?_);obtain ⟨bp, H⟩ := H;refine Xa (Yb v2 1 Z Z bp) (Xe (vi (v2 + 1)) Z (Xb ?_));obtain ⟨bq, br⟩ := H;have bs := ab.stn a8;exact ⟨v2 + 1, br, bq, (Xy Z), a9, (ad.st bs)⟩
 have H := Xo H ae;refine Yh (xin_hit ?_);exact Xc (Xd (Xf (vi (-1)) Z (Xb (Xm ⟨[vi (-1)], ⟨_, Z, Z⟩, (-1), Z, H, ab.gr.g0⟩))))
def F53.E (d : List Change) (id : Str) (Q : Int → Prop) : Prop :=
 (∃ (f : Change → Bool) (f_ok : Change → Prop), (∀ x0_, f_ok x0_ → F27.E x0_ id (fun r => r = f x0_)) ∧ F0.E d f f_ok (fun r => Q r))
theorem F53.calls {d : List Change} {A1 : Option Addr} {n2 c3 : Nat} {id : Str} {Q : Int → Prop} (H : F53.E d id Q) (hO : Ok w0 O) (hp4 : Sl kChange w0 (Fr O) (G A1 n2 c3) d) (hs6 : Lim id) :
  Ret Tryz.prog 57 [G A1 n2 c3, vs id] w0 (fun v w' => ∃ (r0 : Int), v = vi r0 ∧ Q r0 ∧ Gr w0 w' none) := by
 unfold F53.E at H;have hc0 := Ct.init hO;refine X9 Tryz.func57 Z 8 Z [.tmp 4] Z Z ?_;refine Xc (Xd (Yn [vs id] Z fun w7 b8 aw hu11 g9 ax => ?_));have ay := Fb.mk hc0.ok aw ax;have am := hc0.k0 g9;refine Xf (vi 0) Z (Xb (Xc (Xd (Xe (G A1 n2 c3) Z (Xa (Kb [Pz b8] Z) ?_)))));obtain ⟨f, f_ok, az, H⟩ := H;have a0 : ∀ (w : World) (L : Ob), Ct [] w7 w L ([] ++ O) → ∀ (x0_ : Change) (aa : Option Addr) (ab ac : Nat) (ad : Option Addr) (ae af : Nat) (ag : Option Addr) (ah ai : Nat) (aj : Option Addr) (ak al : Nat) (an : Lim x0_.Id) (ao : Lim x0_.Was.Id) (ap : Sl kPt w (Fr (L ++ ([] ++ O))) (G aa ab ac) x0_.Was.Shape.Pts) (aq : Sl kTag w (Fr (L ++ ([] ++ O))) (G ad ae af) x0_.Was.Tags) (ar : Lim x0_.Now.Id) (au : Sl kPt w (Fr (L ++ ([] ++ O))) (G ag ah ai) x0_.Now.Shape.Pts) (av : Sl kTag w (Fr (L ++ ([] ++ O))) (G aj ak al) x0_.Now.Tags), f_ok x0_ → Ret Tryz.prog 112 ([.agg #[vs x0_.Id, vb x0_.Had, vs x0_.Was.Id, vi x0_.Was.Shape.Kind, G aa ab ac, G ad ae af, vb x0_.Has, vs x0_.Now.Id, vi x0_.Now.Shape.Kind, G ag ah ai, G aj ak al]] ++ [Pz b8]) w (fun v w' => v = vb (f x0_) ∧ Gr w w' none) := by
  intro w L c x0_ aa ab ac ad ae af ag ah ai aj ak al an ao ap aq ar au av hok;refine (F27.calls (az x0_ hok) c.ok an ao ap aq ar au av hs6 (ay.st c.st)).mono ?_;rintro _ w2 ⟨r, rfl, rfl, g2⟩;exact ⟨Z, g2⟩
 refine Xs go111 (F0.calls H am.ok (hp4.st am.st) go112 a0) Z ?_;rintro _ a3 ⟨r, rfl, H, a1⟩;have a2 := am.k0 a1;exact Xf (vi r) Z (Xb (Xm ⟨[vi r], ⟨_, Z, Z⟩, r, Z, H, a2.gr.g0⟩))
def F54.E (a b : List Change) (Q : List Change → Bool → Prop) : Prop :=
 F100.E a (fun r => (if !r then Q [] false else F100.E b (fun r2 => (if !r2 then Q [] false else F4.E ([a, b] : List (List Change)) (fun r3 => (∃ (I122 : (List Str) → Int → Prop) (mu123 : (List Str) → Int → Nat), I122 [] 0 ∧ ∀ (xs2 : List Str) (v2 : Int), I122 xs2 v2 → (if decide (v2 < (r3.length : Int)) then ((0 : Int) ≤ v2 ∧ v2 < (r3.length : Int)) ∧ (xs2.length + ([(nth r3 v2).Id] : List Str).length ≤ 268435456) ∧ (I64 (v2 + 1)) ∧ I122 (xs2 ++ ([(nth r3 v2).Id] : List Str)) (v2 + 1) ∧ mu123 (xs2 ++ ([(nth r3 v2).Id] : List Str)) (v2 + 1) < mu123 xs2 v2 else F8.E xs2 (fun m => F1.E m (fun r4 => (∃ (I276 : (List Change) → Int → Prop) (mu277 : (List Change) → Int → Nat), I276 [] 0 ∧ ∀ (xs4 : List Change) (v4 : Int), I276 xs4 v4 → (if decide (v4 < (r4.length : Int)) then ((0 : Int) ≤ v4 ∧ v4 < (r4.length : Int)) ∧ F53.E a (nth r4 v4) (fun r5 => F53.E b (nth r4 v4) (fun r6 => (if decide (r6 < 0) then ((0 : Int) ≤ r5 ∧ r5 < (a.length : Int)) ∧ F19.E (nth a r5) (fun r7 => (if !r7 then F20.E (nth a r5) (fun r8 => (xs4.length + ([r8] : List Change).length ≤ 268435456) ∧ (I64 (v4 + 1)) ∧ I276 (xs4 ++ ([r8] : List Change)) (v4 + 1) ∧ mu277 (xs4 ++ ([r8] : List Change)) (v4 + 1) < mu277 xs4 v4) else (I64 (v4 + 1)) ∧ I276 xs4 (v4 + 1) ∧ mu277 xs4 (v4 + 1) < mu277 xs4 v4)) else (if decide (r5 < 0) then ((0 : Int) ≤ r6 ∧ r6 < (b.length : Int)) ∧ F19.E (nth b r6) (fun r9 => (if !r9 then F20.E (nth b r6) (fun r10 => (xs4.length + ([r10] : List Change).length ≤ 268435456) ∧ (I64 (v4 + 1)) ∧ I276 (xs4 ++ ([r10] : List Change)) (v4 + 1) ∧ mu277 (xs4 ++ ([r10] : List Change)) (v4 + 1) < mu277 xs4 v4) else (I64 (v4 + 1)) ∧ I276 xs4 (v4 + 1) ∧ mu277 xs4 (v4 + 1) < mu277 xs4 v4)) else ((0 : Int) ≤ r5 ∧ r5 < (a.length : Int)) ∧ ((0 : Int) ≤ r6 ∧ r6 < (b.length : Int)) ∧ (if ((nth a r5).Has) != ((nth b r6).Had) then Q [] false else ((0 : Int) ≤ r5 ∧ r5 < (a.length : Int)) ∧ ((0 : Int) ≤ r6 ∧ r6 < (b.length : Int)) ∧ (∃ q : Bool, F46.E ((nth a r5).Now) ((nth b r6).Was) (fun x => x = q) ∧ (if !q then Q [] false else ((0 : Int) ≤ r5 ∧ r5 < (a.length : Int)) ∧ ((0 : Int) ≤ r5 ∧ r5 < (a.length : Int)) ∧ ((0 : Int) ≤ r6 ∧ r6 < (b.length : Int)) ∧ ((0 : Int) ≤ r6 ∧ r6 < (b.length : Int)) ∧ F19.E (⟨(nth r4 v4), (nth a r5).Had, (nth a r5).Was, (nth b r6).Has, (nth b r6).Now⟩ : Change) (fun r12 => (if !r12 then F20.E (⟨(nth r4 v4), (nth a r5).Had, (nth a r5).Was, (nth b r6).Has, (nth b r6).Now⟩ : Change) (fun r13 => (xs4.length + ([r13] : List Change).length ≤ 268435456) ∧ (I64 (v4 + 1)) ∧ I276 (xs4 ++ ([r13] : List Change)) (v4 + 1) ∧ mu277 (xs4 ++ ([r13] : List Change)) (v4 + 1) < mu277 xs4 v4) else (I64 (v4 + 1)) ∧ I276 xs4 (v4 + 1) ∧ mu277 xs4 (v4 + 1) < mu277 xs4 v4))))))))) else F100.E xs4 (fun r14 => (if !r14 then Q [] false else Q xs4 true)))))))))))))
theorem F54.calls {a : List Change} {A1 : Option Addr} {n2 c3 : Nat} {b : List Change} {A6 : Option Addr} {n7 c8 : Nat} {Q : List Change → Bool → Prop} (H : F54.E a b Q) (hO : Ok w0 O) (hp4 : Sl kChange w0 (Fr O) (G A1 n2 c3) a) (hp9 : Sl kChange w0 (Fr O) (G A6 n7 c8) b) :
  Ret Tryz.prog 18 [G A1 n2 c3, G A6 n7 c8] w0 (fun v w' => ∃ (r0 : List Change) (r1 : Bool) (Aw0 : Option Addr) (nw0 cw0 : Nat) (q0 : Ob) (ra0 : List (List Value)), v = .tuple #[G Aw0 nw0 cw0, vb r1] ∧ Q r0 r1 ∧ Gr w0 w' none ∧ Ok w' ((bk Aw0 :: (q0 ++ [])) ++ O) ∧ (∀ b, some b ∈ (bk Aw0 :: (q0 ++ [])) → w0.heap.size ≤ b) ∧ Ow (Kd.cells 11) 62 w' ((bk Aw0 :: (q0 ++ [])) ++ O) (G Aw0 nw0 cw0) ra0 ∧ DArr dChange_62 w' q0 r0 ra0) := by
 unfold F54.E at H;have hc0 := Ct.init hO;refine X9 Tryz.func18 Z 133 Z [.tmp 4, .tmp 5] Z Z ?_;refine Xc (Xd (Xf (G none 0 0) Z (Xf (vb false) Z (Xb (Xc (Xc (Xd (Xe (G A1 n2 c3) Z ?_))))))));refine Xs go17 (F100.calls H hc0.ok hp4) Z ?_;rintro _ ie ⟨r, rfl, H, l8⟩;have eq := hc0.k0 l8;refine Xa (X7 r Z) (Xe (vb (!r)) Z ?_);rcases X4 (!r) with a8 | a8
 ·have H := Xn H a8;refine Xi a8 Z (Xi a8 Z (Xi a8 Z (Xa (Xk true (vb true) a8 Z) (Xb (Yu (b := true) Z Z ?_)))));refine Xc (Xd ?_);have l9 : DArr dChange_62 ie ([] : Ob) ([] : List Change) ([] : List (List Value)) := Z;refine X8 (kd := Kd.cells 11) Y1 eq ([] : List (List Value)) (cells := []) Z RF fun uk dx fy fz ma hr23 ig mb => ?_;have ih : ([bk dx] : Ob).Perm (bk dx :: (([] : Ob) ++ [])) := RP;have f0 := ig.perm ih;refine Xf (G dx fy fz) Z (Xf (vb false) Z (Xb (Xm ?_)));have mc := (ig.sp mb ih);have md := (l9.k0 ma);exact ⟨[G dx fy fz, vb false], ⟨_, Z, ⟨_, Z, Z⟩⟩, ([] : List Change), false, dx, fy, fz, ([] : Ob), ([] : List (List Value)), Z, H, f0.gr.g0, f0.ok, f0.ge, mc, md⟩
 have H := Xo H a8;refine Xh a8 Z (Xe (G A6 n7 c8) Z (Xh a8 Z ?_));refine Xs go17 (F100.calls H eq.ok (hp9.st eq.st)) Z ?_;rintro _ me ⟨r2, rfl, H, mf⟩;have ii := eq.k0 mf;refine Xh a8 Z (Xa (X7 r2 Z) (Xa (Xk false (vb (!r2)) a8 Z) (Xb ?_)));refine Xw (!r2) Z (fun f1 => ?_) (fun f1 => ?_)
 ·have H := Xn H f1;refine Xc (Xd ?_);have mg : DArr dChange_62 me ([] : Ob) ([] : List Change) ([] : List (List Value)) := Z;refine X8 (kd := Kd.cells 11) Y1 ii ([] : List (List Value)) (cells := []) Z RF fun ul dy f2 f3 mh hr44 ij mi => ?_;have ik : ([bk dy] : Ob).Perm (bk dy :: (([] : Ob) ++ [])) := RP;have f4 := ij.perm ik;refine Xf (G dy f2 f3) Z (Xf (vb false) Z (Xb (Xm ?_)));have mj := (ij.sp mi ik);have ml := (mg.k0 mh);exact ⟨[G dy f2 f3, vb false], ⟨_, Z, ⟨_, Z, Z⟩⟩, ([] : List Change), false, dy, f2, f3, ([] : Ob), ([] : List (List Value)), Z, H, f4.gr.g0, f4.ok, f4.ge, mj, ml⟩
 have H := Xo H f1;refine Xx (Xc (Xd (X8 (kd := Kd.str) Za ii ([] : List Str) (cells := []) Z RF fun um f5 il im un hr58 f6 mm => ?_)));refine Xf (G f5 il im) Z (Xb (Xc (Xc (Xd (Xe (G A1 n2 c3) Z (Xe (G A6 n7 c8) Z (X8 (kd := (Kd.sl kChange)) Kk f6 ([a, b] : List (List Change)) (cells := [G A1 n2 c3, G A6 n7 c8]) ⟨[G A1 n2 c3], _, Z, ⟨_, Z, (hp4.st f6.st)⟩, ⟨[G A6 n7 c8], _, Z, ⟨_, Z, (hp9.st f6.st)⟩, Z⟩⟩ RF fun mn io ip iq mo hr67 f7 mp => ?_)))))));have mq := f7.gv mp 0 Z;have ir := f7.drop 0 Z;refine Xs go54 (F4.calls H ir.ok mq) Z ?_;rintro _ mr ⟨r3, a4, er, es, rfl, H, it, ms, iu, f8⟩;have f9 : Ct [] w0 mr [bk a4, bk f5] O := ir.owns it ms iu;have uo := f8.le;refine Xa (Ya u23_ a4 er es f8.len Z) (Xe (vi 0) Z (Xb (X6 ?_)));obtain ⟨mt, mu, ga, H⟩ := H;have mv := ((f7.sd (mm.so _ mo hr67) 1 0 Z Z Z).sos it iu);refine Yi (α := (List Str) × (Option Addr) × Nat × Nat × Int) (fun (xs2, aa, a9, a3, v2) t dg => mt xs2 v2 ∧ Has t [(0, G A1 n2 c3), (1, G A6 n7 c8), (6, G aa a9 a3), (28, G a4 er es), (29, vi (r3.length : Int)), (30, vi v2)] ∧ Cw [] w0 dg [bk a4, bk aa] O fun M => Sl kChange dg (Fr M) (G A1 n2 c3) a ∧ Sl kChange dg (Fr M) (G A6 n7 c8) b ∧ Ow Kd.str 9 dg M (G aa a9 a3) xs2 ∧ Ow kChange 62 dg M (G a4 er es) r3) (fun (xs2, _, _, _, v2) => mu xs2 v2) (([] : List Str), f5, il, im, 0) ⟨ga, (Xy Z), f9, (hp4.st f9.st), (hp9.st f9.st), mv, f8⟩ ?_;rintro ⟨xs2, aa, a9, a3, v2⟩ _ dg ⟨ga, mw, dz, iv, iw, ix, gb⟩;obtain ⟨up, rfl⟩ := Has.ins mw;have H := H xs2 v2 ga;refine Xc (Xd (Xa (X0 v2 (r3.length : Int) (decide (v2 < (r3.length : Int))) Z Z Z) (Xb (Xc ?_))));refine Xw (decide (v2 < (r3.length : Int))) Z (fun gc => ?_) (fun gc => ?_)
 ·have H := Xn H gc;refine Xx (Xc (X6 (Xc (Xd ?_))));obtain ⟨iy, H⟩ := H;obtain ⟨iz, uq, mx, my, mz⟩ := gb.get default RD v2 iy;obtain ⟨gd, gf, gg, gh, gi, gj, gk, gl, gm, gn, gp, gq, rfl, m0, ur, us, ut, uu, uv, uw⟩ := kChange.op my;refine Xa (X3 u23_ Ys a4 iz er es gb.len v2 Z mx Z iy) (Xa (Xu ag62 sz62 cL (iz.add (v2.toNat * 11)) [vs ((nth r3 v2).Id), vb ((nth r3 v2).Had), vs ((nth r3 v2).Was.Id), vi ((nth r3 v2).Was.Shape.Kind), G gd gf gg, G gh gi gj, vb ((nth r3 v2).Has), vs ((nth r3 v2).Now.Id), vi ((nth r3 v2).Now.Shape.Kind), G gk gl gm, G gn gp gq] Z Z mz) (Yr [vs [], vb false, vs [], .int .i64 0, G none 0 0, G none 0 0, vb false, vs [], .int .i64 0, G none 0 0, G none 0 0] ze62 fun ux d0 et hu164 eu m1 => ?_));have ev := dz.own eu (some d0) (Yp et hu164);refine Yd [vs ((nth r3 v2).Id), vb ((nth r3 v2).Had), vs ((nth r3 v2).Was.Id), vi ((nth r3 v2).Was.Shape.Kind), G gd gf gg, G gh gi gj, vb ((nth r3 v2).Has), vs ((nth r3 v2).Now.Id), vi ((nth r3 v2).Now.Shape.Kind), G gk gl gm, G gn gp gq] m1 Z Z sz62 Z Z fun uy ew m2 => ?_;have i0 := ev.wr 0 Z ew;refine Xb (Xd (Xe (G aa a9 a3) Z (Xa (Xj fa62_0 (Ad d0 0) (Ad d0 0) Z Z) (Xa (Xl ag9 cL (Ad d0 0) (vs ((nth r3 v2).Id)) Z (m2.cell Z)) (X8 (kd := Kd.str) Za i0 ([(nth r3 v2).Id] : List Str) (cells := [vs ((nth r3 v2).Id)]) ⟨[vs ((nth r3 v2).Id)], _, Z, ⟨Z, m0⟩, Z⟩ RF fun uz m3 m4 m5 gs hr177 i1 m6 => ?_)))));obtain ⟨m7, H⟩ := H;have m8 := ((ev.sw (ix.so _ eu (X2 et)) 2 0 Z Z Z ew).so _ gs hr177);refine Ye Za i1 (G aa a9 a3) xs2 ([(nth r3 v2).Id] : List Str) Z m8 (G m3 m4 m5) Z m6.sx 3 Z m7 fun u0 i2 i3 i4 m9 gt ex na => ?_;refine Xf (G i2 i3 i4) Z (Xb (Xd ?_));obtain ⟨nb, H⟩ := H;refine Xa (Yb v2 1 Z Z nb) (Xe (vi (v2 + 1)) Z (Xb ?_));have ey := ex.drop 0 Z;have nc := ey.drop 0 Z;obtain ⟨nd, ne⟩ := H;have i5 := dz.stown _ eu (X2 et);have i6 := ev.stw 0 Z ew;have i7 := i0.stown _ gs hr177;have i8 := ex.std 0 Z;have i9 := ey.std 0 Z;have nf := ((((((iv.st i5).st i6).st i7).st gt).st i8).st i9);have ng := ((((((iw.st i5).st i6).st i7).st gt).st i8).st i9);have nh := (ey.sd (ex.sd na 3 0 Z Z Z) 2 0 Z Z Z);have ni := (ey.sd (ex.sd (i1.sm ((ev.sw (gb.so _ eu (X2 et)) 1 0 Z Z Z ew).so _ gs hr177) 2 3 Z Z Z m9 gt) 2 0 Z Z Z) 1 0 Z Z Z);exact ⟨((xs2 ++ ([(nth r3 v2).Id] : List Str)), i2, i3, i4, v2 + 1), ne, nd, (Xy Z), nc, nf, ng, nh, ni⟩
 have H := Xo H gc;refine Yh (xin_hit ?_);refine Xc (Xd (Xe (G aa a9 a3) Z ?_));refine Zu go55 [G aa a9 a3] Z ((F8.calls dg dz.ok aa a9 a3 xs2 ix _ H).mono ?_);rintro _ nj ⟨m, rfl, H, ja, nk⟩;have jb := dz.wr 1 Z ja;refine Xb (Xc (Xd ?_));have nl : DArr dChange_62 nj ([] : Ob) ([] : List Change) ([] : List (List Value)) := Z;refine X8 (kd := Kd.cells 11) Y1 jb ([] : List (List Value)) (cells := []) Z RF fun nm d1 jc jd gu hr217 ez nn => ?_;have e0 : ([bk d1, bk a4, bk aa] : Ob).Perm (bk d1 :: bk a4 :: bk aa :: (([] : Ob) ++ [])) := RP;have d2 := ez.perm e0;refine Xf (G d1 jc jd) Z (Xb (Xc (Xc (Xd (Xe (G aa a9 a3) Z ?_)))));have no := (ez.sp (nk.so _ gu hr217) e0);refine Zu go56 [G aa a9 a3] Z ((F1.calls nm d2.ok aa a9 a3 m no _ H).mono ?_);rintro _ u1 ⟨r4, e1, rfl, H, e2, gw⟩;have e3 := d2.wr 2 Z e2;have u2 := gw.le;refine Xa (Ya u50_ aa e1 a3 gw.len Z) (Xe (vi 0) Z (Xb (X6 ?_)));have np := e3.drop 1 Z;obtain ⟨nq, nr, gx, H⟩ := H;have je := dz.stw 1 Z ja;have jf := jb.stown _ gu hr217;have jg := ez.stp e0;have jh := d2.stw 2 Z e2;have ji := e3.std 1 Z;have ns := (((((iv.st je).st jf).st jg).st jh).st ji);have nt := (((((iw.st je).st jf).st jg).st jh).st ji);have nu := (e3.sd (d2.sw (ez.sp nn e0) 0 2 Z Z Z e2) 0 1 Z Z Z);have nv := (DArr.sm (L := (bk d1 :: bk a4 :: bk aa :: (([] : Ob) ++ []))) (O := O) (i := 2) (nl.k0 gu) d2 Z (fun b hb => (List.mem_append_left _ hb)) e2);have nw := (e3.sd gw 2 1 Z Z Z);refine Yi (α := (List Change) × (List (List Value)) × Ob × (Option Addr) × Nat × Nat × Int) (fun (xs4, a1, ab, ac, aj, ak, v4) t bq => nq xs4 v4 ∧ Has t [(0, G A1 n2 c3), (1, G A6 n7 c8), (9, G ac aj ak), (44, G aa e1 a3), (45, vi (r4.length : Int)), (46, vi v4)] ∧ Cw [] w0 bq (bk ac :: bk aa :: (ab ++ [])) O fun M => Sl kChange bq (Fr M) (G A1 n2 c3) a ∧ Sl kChange bq (Fr M) (G A6 n7 c8) b ∧ Ow (Kd.cells 11) 62 bq M (G ac aj ak) a1 ∧ DArr dChange_62 bq ab xs4 a1 ∧ Ow Kd.str 9 bq M (G aa e1 a3) r4) (fun (xs4, _, _, _, _, _, v4) => nr xs4 v4) (([] : List Change), ([] : List (List Value)), ([] : Ob), d1, jc, jd, 0) ⟨gx, (Xy Z), np, ns, nt, nu, nv, nw⟩ ?_;rintro ⟨xs4, a1, ab, ac, aj, ak, v4⟩ _ bq ⟨gx, nx, d3, d4, d5, cj, ck, cl⟩;obtain ⟨u3, rfl⟩ := Has.ins nx;have H := H xs4 v4 gx;refine Xc (Xd (Xa (X0 v4 (r4.length : Int) (decide (v4 < (r4.length : Int))) Z Z Z) (Xb (Xc ?_))));refine Xw (decide (v4 < (r4.length : Int))) Z (fun gy => ?_) (fun gy => ?_)
 ·have H := Xn H gy;refine Xx (Xc (X6 (Xc (Xd ?_))));obtain ⟨jj, H⟩ := H;obtain ⟨jk, u4, ny, nz, n0⟩ := cl.get default RD v4 jj;obtain ⟨rfl, e4⟩ := Kd.str.op nz;refine Xa (X3 u50_ Zi aa jk e1 a3 cl.len v4 Z ny Z jj) (Xa (Xl ag9 cL (jk.add (v4.toNat * 1)) (vs (nth r4 v4)) Z (n0 0 _ Z)) (Xf (vs (nth r4 v4)) Z (Xb (Xc (Xd (Xe (G A1 n2 c3) Z (Xe (vs (nth r4 v4)) Z ?_)))))));refine Xs go57 (F53.calls H d3.ok d4 e4) Z ?_;rintro _ n1 ⟨r5, rfl, H, al⟩;have d6 := d3.k0 al;refine Xe (G A6 n7 c8) Z (Xe (vs (nth r4 v4)) Z ?_);have br := d3.stn al;refine Xs go57 (F53.calls H d6.ok (d5.st br) e4) Z ?_;rintro _ u5 ⟨r6, rfl, H, af⟩;have e5 := d6.k0 af;refine Xf (vi r5) Z (Xf (vi r6) Z (Xb (Xc (Xd (Xa (Yo (.agg #[vs [], vb false, vs [], vi 0, G none 0 0, G none 0 0, vb false, vs [], vi 0, G none 0 0, G none 0 0]) RF) (Yr [vs [], vb false, vs [], .int .i64 0, G none 0 0, G none 0 0, vb false, vs [], .int .i64 0, G none 0 0, G none 0 0] ze62 fun u6 ad a2 hu318 ag n3 => ?_))))));have ah := e5.own ag (some ad) (Yp a2 hu318);refine Yd [vs [], vb false, vs [], vi 0, G none 0 0, G none 0 0, vb false, vs [], vi 0, G none 0 0, G none 0 0] n3 Z Z sz62 Z Z fun n4 ai gz => ?_;have am := ah.wr 0 Z ai;refine Xb (Xc (X6 (Xc (Xd (Xe (vi r6) Z (Xa (X0 r6 0 (decide (r6 < 0)) Z Z Z) (Xf (vb (decide (r6 < 0))) Z (Xb ?_))))))));refine Xw (decide (r6 < 0)) Z (fun g1 => ?_) (fun g1 => ?_)
  ·have H := Xn H g1;refine Xd (Xe (G A1 n2 c3) Z (Xe (vi r5) Z ?_));obtain ⟨jl, H⟩ := H;have g3 := d6.stn af;have g4 := e5.stown _ ag (X2 a2);have g5 := ah.stw 0 Z ai;have e6 := ((((d4.st br).st g3).st g4).st g5);obtain ⟨jm, u7, n5, u8, n6, n8⟩ := e6.get default RD r5 jl;obtain ⟨bs, bt, bu, bv, bw, bx, bz, b0, b1, b2, b3, b4, rfl, jn, jo, jp, jq, jr, js, jt⟩ := kChange.op n6;refine Xa (X3 u23_ Ys A1 jm n2 c3 e6.len r5 Z n5 Z jl) (Xa (Xu ag62 sz62 cL (jm.add (r5.toNat * 11)) [vs ((nth a r5).Id), vb ((nth a r5).Had), vs ((nth a r5).Was.Id), vi ((nth a r5).Was.Shape.Kind), G bs bt bu, G bv bw bx, vb ((nth a r5).Has), vs ((nth a r5).Now.Id), vi ((nth a r5).Now.Shape.Kind), G bz b0 b1, G b2 b3 b4] Z Z n8) (Yd [vs ((nth a r5).Id), vb ((nth a r5).Had), vs ((nth a r5).Was.Id), vi ((nth a r5).Was.Shape.Kind), G bs bt bu, G bv bw bx, vb ((nth a r5).Has), vs ((nth a r5).Now.Id), vi ((nth a r5).Now.Shape.Kind), G bz b0 b1, G b2 b3 b4] gz Z Z sz62 Z Z fun n9 cm ju => ?_));have e7 := am.wr 0 Z cm;refine Xb (Xc (Xd (Xa (Xu ag62 sz62 cL (Ad ad 0) [vs ((nth a r5).Id), vb ((nth a r5).Had), vs ((nth a r5).Was.Id), vi ((nth a r5).Was.Shape.Kind), G bs bt bu, G bv bw bx, vb ((nth a r5).Has), vs ((nth a r5).Now.Id), vi ((nth a r5).Now.Shape.Kind), G bz b0 b1, G b2 b3 b4] Z Z (ju.cells (off := 00) Z)) ?_)));have a5 := am.stw 0 Z cm;refine Xs go53 (F19.calls H e7.ok jn jo (jp.st a5) (jq.st a5) jr (js.st a5) (jt.st a5)) Z ?_;rintro _ oa ⟨r7, rfl, H, ba⟩;have dh := e7.k0 ba;refine Xa (X7 r7 Z) (Xb ?_);refine Xw (!r7) Z (fun g6 => ?_) (fun g6 => ?_)
   ·have H := Xn H g6;refine Xd (Xe (G ac aj ak) Z ?_);have ob := (ju.k0 ba);refine Xa (Xu ag62 sz62 cL (Ad ad 0) [vs ((nth a r5).Id), vb ((nth a r5).Had), vs ((nth a r5).Was.Id), vi ((nth a r5).Was.Shape.Kind), G bs bt bu, G bv bw bx, vb ((nth a r5).Has), vs ((nth a r5).Now.Id), vi ((nth a r5).Now.Shape.Kind), G bz b0 b1, G b2 b3 b4] Z Z (ob.cells (off := 00) Z)) ?_;have dp := e7.stn ba;have oc := ((jp.st a5).st dp);have od := ((jq.st a5).st dp);have oe := ((js.st a5).st dp);have og := ((jt.st a5).st dp);refine Xs go41 (F20.calls H dh.ok jn jo oc od jr oe og) Z ?_;rintro _ jv ⟨r8, an, cn, co, ao, cp, cq, ap, cr, cs, aq, ct, cu, rfl, H, d7, oh, e8, oi, oj, ol, om, on, oo, oq⟩;have jw := dh.owns d7 oh e8;have jx : (dChange_62).D jv ([] ++ ([] ++ (([] ++ (([] ++ [bk an]) ++ [bk ao])) ++ ([] ++ ([] ++ (([] ++ [bk ap]) ++ [bk aq])))))) r8 [vs r8.Id, vb r8.Had, vs r8.Was.Id, vi r8.Was.Shape.Kind, G an cn co, G ao cp cq, vb r8.Has, vs r8.Now.Id, vi r8.Now.Shape.Kind, G ap cr cs, G aq ct cu] := (dChange_62.mk _ r8 oi oj (Ds.ofOw kPt_flat ol) (Ds.ofOw kTag_flat om) on (Ds.ofOw kPt_flat oo) (Ds.ofOw kTag_flat oq));have os : DArr dChange_62 jv (([] ++ ([] ++ (([] ++ (([] ++ [bk an]) ++ [bk ao])) ++ ([] ++ ([] ++ (([] ++ [bk ap]) ++ [bk aq])))))) ++ []) ([r8] : List Change) ([[vs r8.Id, vb r8.Had, vs r8.Was.Id, vi r8.Was.Shape.Kind, G an cn co, G ao cp cq, vb r8.Has, vs r8.Now.Id, vi r8.Now.Shape.Kind, G ap cr cs, G aq ct cu]] : List (List Value)) := ⟨_, _, Z, jx, Z⟩;refine X8 (kd := Kd.cells 11) Y1 jw ([[vs r8.Id, vb r8.Had, vs r8.Was.Id, vi r8.Was.Shape.Kind, G an cn co, G ao cp cq, vb r8.Has, vs r8.Now.Id, vi r8.Now.Shape.Kind, G ap cr cs, G aq ct cu]] : List (List Value)) (cells := [vs r8.Id, vb r8.Had, vs r8.Was.Id, vi r8.Was.Shape.Kind, G an cn co, G ao cp cq, vb r8.Has, vs r8.Now.Id, vi r8.Now.Shape.Kind, G ap cr cs, G aq ct cu]) ⟨[vs r8.Id, vb r8.Had, vs r8.Was.Id, vi r8.Was.Shape.Kind, G an cn co, G ao cp cq, vb r8.Has, vs r8.Now.Id, vi r8.Now.Shape.Kind, G ap cr cs, G aq ct cu], _, Z, Dd.raw _ jx, Z⟩ RF fun u9 di ot ou d8 hr414 d9 ov => ?_;have ea : ((bk di :: bk an :: bk ao :: bk ap :: bk aq :: some ad :: bk ac :: bk aa :: (ab ++ [])) : Ob).Perm (bk di :: some ad :: bk ac :: bk aa :: (ab ++ ((([] ++ ([] ++ (([] ++ (([] ++ [bk an]) ++ [bk ao])) ++ ([] ++ ([] ++ (([] ++ [bk ap]) ++ [bk aq])))))) ++ []) ++ []))) := RP;have e9 := d9.perm ea;obtain ⟨ow, H⟩ := H;have ox := (d9.sp ((((am.sw (ah.sw (((cj.sn al).sn af).so _ ag (X2 a2)) 1 0 Z Z Z ai) 1 0 Z Z Z cm).sn ba).sos d7 e8).so _ d8 hr414) ea);have oy := (d9.sp ov ea);have jy := ((((DArr.sm (L := (some ad :: bk ac :: bk aa :: (ab ++ []))) (O := O) (i := 0) (DArr.sm (L := (some ad :: bk ac :: bk aa :: (ab ++ []))) (O := O) (i := 0) (((ck.k0 al).k0 af).k0 ag) ah Z (fun b hb => (mcm (mcm (List.mem_append_left _ hb)))) ai) am Z (fun b hb => (mcm (mcm (List.mem_append_left _ hb)))) cm).k0 ba).k0 d7).k0 d8);have jz := (os.k0 d8);have oz : a1.length + ([[vs r8.Id, vb r8.Had, vs r8.Was.Id, vi r8.Was.Shape.Kind, G an cn co, G ao cp cq, vb r8.Has, vs r8.Now.Id, vi r8.Now.Shape.Kind, G ap cr cs, G aq ct cu]] : List (List Value)).length ≤ 268435456 := by rw [jy.len, jz.len]; exact ow
    refine Ye (kd := Kd.cells 11) Y1 e9 (G ac aj ak) a1 ([[vs r8.Id, vb r8.Had, vs r8.Was.Id, vi r8.Was.Shape.Kind, G an cn co, G ao cp cq, vb r8.Has, vs r8.Now.Id, vi r8.Now.Shape.Kind, G ap cr cs, G aq ct cu]] : List (List Value)) Z ox (G di ot ou) Z oy.sx 2 Z oz fun va dq j0 j1 g7 g8 g9 o0 => ?_;have o1 := (DArr.sm (L := (bk di :: some ad :: bk ac :: bk aa :: (ab ++ ((([] ++ ([] ++ (([] ++ (([] ++ [bk an]) ++ [bk ao])) ++ ([] ++ ([] ++ (([] ++ [bk ap]) ++ [bk aq])))))) ++ []) ++ [])))) (O := O) (i := 2) jy e9 Z (fun b hb => (mcm (List.mem_append_left _ hb))) g7);have o2 := (DArr.sm (L := (bk di :: some ad :: bk ac :: bk aa :: (ab ++ ((([] ++ ([] ++ (([] ++ (([] ++ [bk an]) ++ [bk ao])) ++ ([] ++ ([] ++ (([] ++ [bk ap]) ++ [bk aq])))))) ++ []) ++ [])))) (O := O) (i := 2) jz e9 Z (fun b hb => (mcm (List.mem_append_right _ (List.mem_append_left _ hb)))) g7);have o3 := DArr.app o1 o2;have eb : ((bk di :: some ad :: bk dq :: bk aa :: (ab ++ ((([] ++ ([] ++ (([] ++ (([] ++ [bk an]) ++ [bk ao])) ++ ([] ++ ([] ++ (([] ++ [bk ap]) ++ [bk aq])))))) ++ []) ++ []))) : Ob).Perm ((bk di :: []) ++ (some ad :: bk dq :: bk aa :: (ab ++ ((([] ++ ([] ++ (([] ++ (([] ++ [bk an]) ++ [bk ao])) ++ ([] ++ ([] ++ (([] ++ [bk ap]) ++ [bk aq])))))) ++ []) ++ [])))) := RP;have fa := g9.drops eb;have fb : ((some ad :: bk dq :: bk aa :: (ab ++ ((([] ++ ([] ++ (([] ++ (([] ++ [bk an]) ++ [bk ao])) ++ ([] ++ ([] ++ (([] ++ [bk ap]) ++ [bk aq])))))) ++ []) ++ []))) : Ob).Perm (some ad :: bk dq :: bk aa :: ((ab ++ (([] ++ ([] ++ (([] ++ (([] ++ [bk an]) ++ [bk ao])) ++ ([] ++ ([] ++ (([] ++ [bk ap]) ++ [bk aq])))))) ++ [])) ++ [])) := RP;have fc := fa.perm fb;refine Xf (G dq j0 j1) Z (Xb (Xd ?_));obtain ⟨o4, H⟩ := H;refine Xa (Yb v4 1 Z Z o4) (Xe (vi (v4 + 1)) Z (Xb ?_));have o5 := fc.drop 0 Z;obtain ⟨o6, o7⟩ := H;have j2 := dh.stos d7 e8;have j3 := jw.stown _ d8 hr414;have j4 := d9.stp ea;have j5 := fa.stp fb;have j6 := fc.std 0 Z;have o8 := (((((((((e6.st a5).st dp).st j2).st j3).st j4).st g8).st (St.drops _ O eb)).st j5).st j6);have o9 := (((((((((((((d5.st br).st g3).st g4).st g5).st a5).st dp).st j2).st j3).st j4).st g8).st (St.drops _ O eb)).st j5).st j6);have pa := (fc.sd (fa.sp (g9.odr o0 eb 1 Z) fb) 1 0 Z Z Z);have pb := o3;have pd := (fc.sd (fa.sp (g9.odr (e9.sm (d9.sp ((((am.sw (ah.sw (((cl.sn al).sn af).so _ ag (X2 a2)) 2 0 Z Z Z ai) 2 0 Z Z Z cm).sn ba).sos d7 e8).so _ d8 hr414) ea) 3 2 Z Z Z g7 g8) eb 2 Z) fb) 2 0 Z Z Z);exact ⟨((xs4 ++ ([r8] : List Change)), (a1 ++ ([[vs r8.Id, vb r8.Had, vs r8.Was.Id, vi r8.Was.Shape.Kind, G an cn co, G ao cp cq, vb r8.Has, vs r8.Now.Id, vi r8.Now.Shape.Kind, G ap cr cs, G aq ct cu]] : List (List Value))), (ab ++ (([] ++ ([] ++ (([] ++ (([] ++ [bk an]) ++ [bk ao])) ++ ([] ++ ([] ++ (([] ++ [bk ap]) ++ [bk aq])))))) ++ [])), dq, j0, j1, v4 + 1), o7, o6, (Xy Z), o5, o8, o9, pa, pb, pd⟩
   have H := Xo H g6;refine Xx (Xd ?_);obtain ⟨pe, H⟩ := H;refine Xa (Yb v4 1 Z Z pe) (Xe (vi (v4 + 1)) Z (Xb ?_));have pf := dh.drop 0 Z;obtain ⟨pg, ph⟩ := H;have j7 := e7.stn ba;have j8 := dh.std 0 Z;have pi := (((e6.st a5).st j7).st j8);have pj := (((((((d5.st br).st g3).st g4).st g5).st a5).st j7).st j8);have pk := (dh.sd ((am.sw (ah.sw (((cj.sn al).sn af).so _ ag (X2 a2)) 1 0 Z Z Z ai) 1 0 Z Z Z cm).sn ba) 1 0 Z Z Z);have pl := ((DArr.sm (L := (some ad :: bk ac :: bk aa :: (ab ++ []))) (O := O) (i := 0) (DArr.sm (L := (some ad :: bk ac :: bk aa :: (ab ++ []))) (O := O) (i := 0) (((ck.k0 al).k0 af).k0 ag) ah Z (fun b hb => (mcm (mcm (List.mem_append_left _ hb)))) ai) am Z (fun b hb => (mcm (mcm (List.mem_append_left _ hb)))) cm).k0 ba);have pm := (dh.sd ((am.sw (ah.sw (((cl.sn al).sn af).so _ ag (X2 a2)) 2 0 Z Z Z ai) 2 0 Z Z Z cm).sn ba) 2 0 Z Z Z);exact ⟨(xs4, a1, ab, ac, aj, ak, v4 + 1), ph, pg, (Xy Z), pf, pi, pj, pk, pl, pm⟩
  have H := Xo H g1;refine Xc (Xd (Xe (vi r5) Z (Xa (X0 r5 0 (decide (r5 < 0)) Z Z Z) (Xf (vb (decide (r5 < 0))) Z (Xb ?_)))));refine Xw (decide (r5 < 0)) Z (fun ha => ?_) (fun ha => ?_)
  ·have H := Xn H ha;refine Xd (Xe (G A6 n7 c8) Z (Xe (vi r6) Z ?_));obtain ⟨j9, H⟩ := H;have hc := d6.stn af;have hd := e5.stown _ ag (X2 a2);have he := ah.stw 0 Z ai;have fd := ((((d5.st br).st hc).st hd).st he);obtain ⟨ka, vc, pn, vd, po, pp⟩ := fd.get default RD r6 j9;obtain ⟨b5, b6, b7, b8, b9, ca, cb, cc, cd, ce, cf, cg, rfl, kb, kc, ke, kf, kg, kh, ki⟩ := kChange.op po;refine Xa (X3 u23_ Ys A6 ka n7 c8 fd.len r6 Z pn Z j9) (Xa (Xu ag62 sz62 cL (ka.add (r6.toNat * 11)) [vs ((nth b r6).Id), vb ((nth b r6).Had), vs ((nth b r6).Was.Id), vi ((nth b r6).Was.Shape.Kind), G b5 b6 b7, G b8 b9 ca, vb ((nth b r6).Has), vs ((nth b r6).Now.Id), vi ((nth b r6).Now.Shape.Kind), G cb cc cd, G ce cf cg] Z Z pp) (Yd [vs ((nth b r6).Id), vb ((nth b r6).Had), vs ((nth b r6).Was.Id), vi ((nth b r6).Was.Shape.Kind), G b5 b6 b7, G b8 b9 ca, vb ((nth b r6).Has), vs ((nth b r6).Now.Id), vi ((nth b r6).Now.Shape.Kind), G cb cc cd, G ce cf cg] gz Z Z sz62 Z Z fun pq cv kj => ?_));have fe := am.wr 0 Z cv;refine Xb (Xc (Xd (Xa (Xu ag62 sz62 cL (Ad ad 0) [vs ((nth b r6).Id), vb ((nth b r6).Had), vs ((nth b r6).Was.Id), vi ((nth b r6).Was.Shape.Kind), G b5 b6 b7, G b8 b9 ca, vb ((nth b r6).Has), vs ((nth b r6).Now.Id), vi ((nth b r6).Now.Shape.Kind), G cb cc cd, G ce cf cg] Z Z (kj.cells (off := 00) Z)) ?_)));have a6 := am.stw 0 Z cv;refine Xs go53 (F19.calls H fe.ok kb kc (ke.st a6) (kf.st a6) kg (kh.st a6) (ki.st a6)) Z ?_;rintro _ pr ⟨r9, rfl, H, bb⟩;have dj := fe.k0 bb;refine Xa (X7 r9 Z) (Xb ?_);refine Xw (!r9) Z (fun hf => ?_) (fun hf => ?_)
   ·have H := Xn H hf;refine Xd (Xe (G ac aj ak) Z ?_);have ps := (kj.k0 bb);refine Xa (Xu ag62 sz62 cL (Ad ad 0) [vs ((nth b r6).Id), vb ((nth b r6).Had), vs ((nth b r6).Was.Id), vi ((nth b r6).Was.Shape.Kind), G b5 b6 b7, G b8 b9 ca, vb ((nth b r6).Has), vs ((nth b r6).Now.Id), vi ((nth b r6).Now.Shape.Kind), G cb cc cd, G ce cf cg] Z Z (ps.cells (off := 00) Z)) ?_;have dr := fe.stn bb;have pt := ((ke.st a6).st dr);have pu := ((kf.st a6).st dr);have pv := ((kh.st a6).st dr);have pw := ((ki.st a6).st dr);refine Xs go41 (F20.calls H dj.ok kb kc pt pu kg pv pw) Z ?_;rintro _ kk ⟨r10, ar, cw, cx, au, cy, cz, av, c0, c1, aw, c2, c4, rfl, H, ec, px, ff, py, pz, p0, p1, p2, p3, p4⟩;have kl := dj.owns ec px ff;have km : (dChange_62).D kk ([] ++ ([] ++ (([] ++ (([] ++ [bk ar]) ++ [bk au])) ++ ([] ++ ([] ++ (([] ++ [bk av]) ++ [bk aw])))))) r10 [vs r10.Id, vb r10.Had, vs r10.Was.Id, vi r10.Was.Shape.Kind, G ar cw cx, G au cy cz, vb r10.Has, vs r10.Now.Id, vi r10.Now.Shape.Kind, G av c0 c1, G aw c2 c4] := (dChange_62.mk _ r10 py pz (Ds.ofOw kPt_flat p0) (Ds.ofOw kTag_flat p1) p2 (Ds.ofOw kPt_flat p3) (Ds.ofOw kTag_flat p4));have p5 : DArr dChange_62 kk (([] ++ ([] ++ (([] ++ (([] ++ [bk ar]) ++ [bk au])) ++ ([] ++ ([] ++ (([] ++ [bk av]) ++ [bk aw])))))) ++ []) ([r10] : List Change) ([[vs r10.Id, vb r10.Had, vs r10.Was.Id, vi r10.Was.Shape.Kind, G ar cw cx, G au cy cz, vb r10.Has, vs r10.Now.Id, vi r10.Now.Shape.Kind, G av c0 c1, G aw c2 c4]] : List (List Value)) := ⟨_, _, Z, km, Z⟩;refine X8 (kd := Kd.cells 11) Y1 kl ([[vs r10.Id, vb r10.Had, vs r10.Was.Id, vi r10.Was.Shape.Kind, G ar cw cx, G au cy cz, vb r10.Has, vs r10.Now.Id, vi r10.Now.Shape.Kind, G av c0 c1, G aw c2 c4]] : List (List Value)) (cells := [vs r10.Id, vb r10.Had, vs r10.Was.Id, vi r10.Was.Shape.Kind, G ar cw cx, G au cy cz, vb r10.Has, vs r10.Now.Id, vi r10.Now.Shape.Kind, G av c0 c1, G aw c2 c4]) ⟨[vs r10.Id, vb r10.Had, vs r10.Was.Id, vi r10.Was.Shape.Kind, G ar cw cx, G au cy cz, vb r10.Has, vs r10.Now.Id, vi r10.Now.Shape.Kind, G av c0 c1, G aw c2 c4], _, Z, Dd.raw _ km, Z⟩ RF fun ve dk p6 p7 ed hr556 ee p8 => ?_;have ef : ((bk dk :: bk ar :: bk au :: bk av :: bk aw :: some ad :: bk ac :: bk aa :: (ab ++ [])) : Ob).Perm (bk dk :: some ad :: bk ac :: bk aa :: (ab ++ ((([] ++ ([] ++ (([] ++ (([] ++ [bk ar]) ++ [bk au])) ++ ([] ++ ([] ++ (([] ++ [bk av]) ++ [bk aw])))))) ++ []) ++ []))) := RP;have fg := ee.perm ef;obtain ⟨p9, H⟩ := H;have qa := (ee.sp ((((am.sw (ah.sw (((cj.sn al).sn af).so _ ag (X2 a2)) 1 0 Z Z Z ai) 1 0 Z Z Z cv).sn bb).sos ec ff).so _ ed hr556) ef);have qb := (ee.sp p8 ef);have kn := ((((DArr.sm (L := (some ad :: bk ac :: bk aa :: (ab ++ []))) (O := O) (i := 0) (DArr.sm (L := (some ad :: bk ac :: bk aa :: (ab ++ []))) (O := O) (i := 0) (((ck.k0 al).k0 af).k0 ag) ah Z (fun b hb => (mcm (mcm (List.mem_append_left _ hb)))) ai) am Z (fun b hb => (mcm (mcm (List.mem_append_left _ hb)))) cv).k0 bb).k0 ec).k0 ed);have ko := (p5.k0 ed);have qc : a1.length + ([[vs r10.Id, vb r10.Had, vs r10.Was.Id, vi r10.Was.Shape.Kind, G ar cw cx, G au cy cz, vb r10.Has, vs r10.Now.Id, vi r10.Now.Shape.Kind, G av c0 c1, G aw c2 c4]] : List (List Value)).length ≤ 268435456 := by rw [kn.len, ko.len]; exact p9
    refine Ye (kd := Kd.cells 11) Y1 fg (G ac aj ak) a1 ([[vs r10.Id, vb r10.Had, vs r10.Was.Id, vi r10.Was.Shape.Kind, G ar cw cx, G au cy cz, vb r10.Has, vs r10.Now.Id, vi r10.Now.Shape.Kind, G av c0 c1, G aw c2 c4]] : List (List Value)) Z qa (G dk p6 p7) Z qb.sx 2 Z qc fun vf ds kp kq hg hh hi qd => ?_;have qe := (DArr.sm (L := (bk dk :: some ad :: bk ac :: bk aa :: (ab ++ ((([] ++ ([] ++ (([] ++ (([] ++ [bk ar]) ++ [bk au])) ++ ([] ++ ([] ++ (([] ++ [bk av]) ++ [bk aw])))))) ++ []) ++ [])))) (O := O) (i := 2) kn fg Z (fun b hb => (mcm (List.mem_append_left _ hb))) hg);have qf := (DArr.sm (L := (bk dk :: some ad :: bk ac :: bk aa :: (ab ++ ((([] ++ ([] ++ (([] ++ (([] ++ [bk ar]) ++ [bk au])) ++ ([] ++ ([] ++ (([] ++ [bk av]) ++ [bk aw])))))) ++ []) ++ [])))) (O := O) (i := 2) ko fg Z (fun b hb => (mcm (List.mem_append_right _ (List.mem_append_left _ hb)))) hg);have qg := DArr.app qe qf;have eg : ((bk dk :: some ad :: bk ds :: bk aa :: (ab ++ ((([] ++ ([] ++ (([] ++ (([] ++ [bk ar]) ++ [bk au])) ++ ([] ++ ([] ++ (([] ++ [bk av]) ++ [bk aw])))))) ++ []) ++ []))) : Ob).Perm ((bk dk :: []) ++ (some ad :: bk ds :: bk aa :: (ab ++ ((([] ++ ([] ++ (([] ++ (([] ++ [bk ar]) ++ [bk au])) ++ ([] ++ ([] ++ (([] ++ [bk av]) ++ [bk aw])))))) ++ []) ++ [])))) := RP;have fh := hi.drops eg;have fi : ((some ad :: bk ds :: bk aa :: (ab ++ ((([] ++ ([] ++ (([] ++ (([] ++ [bk ar]) ++ [bk au])) ++ ([] ++ ([] ++ (([] ++ [bk av]) ++ [bk aw])))))) ++ []) ++ []))) : Ob).Perm (some ad :: bk ds :: bk aa :: ((ab ++ (([] ++ ([] ++ (([] ++ (([] ++ [bk ar]) ++ [bk au])) ++ ([] ++ ([] ++ (([] ++ [bk av]) ++ [bk aw])))))) ++ [])) ++ [])) := RP;have fj := fh.perm fi;refine Xf (G ds kp kq) Z (Xb (Xd ?_));obtain ⟨qh, H⟩ := H;refine Xa (Yb v4 1 Z Z qh) (Xe (vi (v4 + 1)) Z (Xb ?_));have qi := fj.drop 0 Z;obtain ⟨qj, qk⟩ := H;have kr := dj.stos ec ff;have ks := kl.stown _ ed hr556;have kt := ee.stp ef;have ku := fh.stp fi;have kv := fj.std 0 Z;have ql := (((((((((((((d4.st br).st hc).st hd).st he).st a6).st dr).st kr).st ks).st kt).st hh).st (St.drops _ O eg)).st ku).st kv);have qm := (((((((((fd.st a6).st dr).st kr).st ks).st kt).st hh).st (St.drops _ O eg)).st ku).st kv);have qn := (fj.sd (fh.sp (hi.odr qd eg 1 Z) fi) 1 0 Z Z Z);have qo := qg;have qp := (fj.sd (fh.sp (hi.odr (fg.sm (ee.sp ((((am.sw (ah.sw (((cl.sn al).sn af).so _ ag (X2 a2)) 2 0 Z Z Z ai) 2 0 Z Z Z cv).sn bb).sos ec ff).so _ ed hr556) ef) 3 2 Z Z Z hg hh) eg 2 Z) fi) 2 0 Z Z Z);exact ⟨((xs4 ++ ([r10] : List Change)), (a1 ++ ([[vs r10.Id, vb r10.Had, vs r10.Was.Id, vi r10.Was.Shape.Kind, G ar cw cx, G au cy cz, vb r10.Has, vs r10.Now.Id, vi r10.Now.Shape.Kind, G av c0 c1, G aw c2 c4]] : List (List Value))), (ab ++ (([] ++ ([] ++ (([] ++ (([] ++ [bk ar]) ++ [bk au])) ++ ([] ++ ([] ++ (([] ++ [bk av]) ++ [bk aw])))))) ++ [])), ds, kp, kq, v4 + 1), qk, qj, (Xy Z), qi, ql, qm, qn, qo, qp⟩
   have H := Xo H hf;refine Xx (Xd ?_);obtain ⟨qq, H⟩ := H;refine Xa (Yb v4 1 Z Z qq) (Xe (vi (v4 + 1)) Z (Xb ?_));have qr := dj.drop 0 Z;obtain ⟨qs, qt⟩ := H;have kx := fe.stn bb;have ky := dj.std 0 Z;have qu := (((((((d4.st br).st hc).st hd).st he).st a6).st kx).st ky);have qv := (((fd.st a6).st kx).st ky);have qw := (dj.sd ((am.sw (ah.sw (((cj.sn al).sn af).so _ ag (X2 a2)) 1 0 Z Z Z ai) 1 0 Z Z Z cv).sn bb) 1 0 Z Z Z);have qx := ((DArr.sm (L := (some ad :: bk ac :: bk aa :: (ab ++ []))) (O := O) (i := 0) (DArr.sm (L := (some ad :: bk ac :: bk aa :: (ab ++ []))) (O := O) (i := 0) (((ck.k0 al).k0 af).k0 ag) ah Z (fun b hb => (mcm (mcm (List.mem_append_left _ hb)))) ai) am Z (fun b hb => (mcm (mcm (List.mem_append_left _ hb)))) cv).k0 bb);have qy := (dj.sd ((am.sw (ah.sw (((cl.sn al).sn af).so _ ag (X2 a2)) 2 0 Z Z Z ai) 2 0 Z Z Z cv).sn bb) 2 0 Z Z Z);exact ⟨(xs4, a1, ab, ac, aj, ak, v4 + 1), qt, qs, (Xy Z), qr, qu, qv, qw, qx, qy⟩
  have H := Xo H ha;refine Xc (Xc (Yz (fun x => Gr n4 x none) RK RK (Gr.drew _) ?_));refine Xv (G A1 n2 c3) Z (Xv (vi r5) Z ?_);obtain ⟨kz, H⟩ := H;have k1 := d6.stn af;have k2 := e5.stown _ ag (X2 a2);have k3 := ah.stw 0 Z ai;have eh := ((((d4.st br).st k1).st k2).st k3);obtain ⟨fk, vg, qz, vh, q1, q2⟩ := eh.get default RD r5 kz;obtain ⟨vj, vk, vl, vm, vn, vo, vp, vq, vr, vt, vu, vv, rfl, vw, vx, vy, vz, v0, v1, v3⟩ := kChange.op q1;refine Xg (X3 u23_ Ys A1 fk n2 c3 eh.len r5 Z qz Z kz) (Xg (Xj fa62_3 (fk.add (r5.toNat * 11)) ((fk.add (r5.toNat * 11)).add 6) Z Z) (Xg (Xl ag4 cQ ((fk.add (r5.toNat * 11)).add 6) (vb ((nth a r5).Has)) Z (q2 6 _ Z)) (Xv (G A6 n7 c8) Z (Xv (vi r6) Z ?_))));obtain ⟨k4, H⟩ := H;have ei := ((((d5.st br).st k1).st k2).st k3);obtain ⟨fl, v5, q3, v6, q4, q5⟩ := ei.get default RD r6 k4;obtain ⟨v7, v9, wa, wb, wc, wd, we, wf, wg, wh, wi, wj, rfl, wk, wl, wm, wn, wo, wp, wq⟩ := kChange.op q4;refine Xg (X3 u23_ Ys A6 fl n7 c8 ei.len r6 Z q3 Z k4) (Xg (Xj fa62_1 (fl.add (r6.toNat * 11)) ((fl.add (r6.toNat * 11)).add 1) Z Z) (Xg (Xl ag4 cQ ((fl.add (r6.toNat * 11)).add 1) (vb ((nth b r6).Had)) Z (q5 1 _ Z)) (Xg (Zp u4_ ((nth a r5).Has) ((nth b r6).Had) (((nth a r5).Has) != ((nth b r6).Had)) Z Z Z) (Xv (vb (((nth a r5).Has) != ((nth b r6).Had))) Z ?_))));rcases X4 (((nth a r5).Has) != ((nth b r6).Had)) with ae | ae
  ·have H := Xn H ae;refine Xr ae Z (Xr ae Z (Xr ae Z (Xr ae Z (Xr ae Z (Xr ae Z (Xr ae Z (Xr ae Z (Xr ae Z ?_))))))));refine Xr ae Z (Xr ae Z (Xr ae Z (Xg (Xk true (vb true) ae Z) (Yc fun q6 q7 => ?_))));have q8 := am.k0 q7;refine Yu (b := true) Z Z ?_;refine Xc ?_;have q9 : ((some ad :: bk ac :: bk aa :: (ab ++ [])) : Ob).Perm ((some ad :: bk ac :: bk aa :: (ab ++ [])) ++ []) := RP;have ra := q8.drops q9;refine Xd ?_;have rb : DArr dChange_62 q6 ([] : Ob) ([] : List Change) ([] : List (List Value)) := Z;refine X8 (kd := Kd.cells 11) Y1 ra ([] : List (List Value)) (cells := []) Z RF fun ws ej hj hk rc hr687 k5 rd => ?_;have k6 : ([bk ej] : Ob).Perm (bk ej :: (([] : Ob) ++ [])) := RP;have hl := k5.perm k6;refine Xf (G ej hj hk) Z (Xf (vb false) Z (Xb (Xm ?_)));have re := (k5.sp rd k6);have rf := (rb.k0 rc);exact ⟨[G ej hj hk, vb false], ⟨_, Z, ⟨_, Z, Z⟩⟩, ([] : List Change), false, ej, hj, hk, ([] : Ob), ([] : List (List Value)), Z, H, hl.gr.g0, hl.ok, hl.ge, re, rf⟩
  have H := Xo H ae;refine Xp ae Z (Xv (G A1 n2 c3) Z (Xp ae Z (Xv (vi r5) Z (Xp ae Z ?_))));obtain ⟨k7, H⟩ := H;obtain ⟨fm, wt, rg, wu, rh, ri⟩ := eh.get default RD r5 k7;obtain ⟨wv, ww, wx, wy, wz, w1, hm, hn, ho, hp, hq, hr, rfl, w2, w3, w4, w5, rj, rk, rl⟩ := kChange.op rh;refine Xg (X3 u23_ Ys A1 fm n2 c3 eh.len r5 Z rg Z k7) (Xp ae Z (Xg (Xj fa62_4 (fm.add (r5.toNat * 11)) ((fm.add (r5.toNat * 11)).add 7) Z Z) (Xp ae Z (Xg (Xu ag44 sz44 cQ ((fm.add (r5.toNat * 11)).add 7) [vs ((nth a r5).Now.Id), vi ((nth a r5).Now.Shape.Kind), G hm hn ho, G hp hq hr] Z Z (sub_cells (off := 7) ri Z)) (Xp ae Z (Xv (G A6 n7 c8) Z (Xp ae Z (Xv (vi r6) Z ?_))))))));refine Xp ae Z ?_;obtain ⟨k8, H⟩ := H;obtain ⟨fn, w6, rm, w7, rn, ro⟩ := ei.get default RD r6 k8;obtain ⟨hs, ht, hu, hv, hw, hx, w8, w9, xa, xb, xc, xd, rfl, xe, rp, rq, rr, xf, xg, xh⟩ := kChange.op rn;refine Xg (X3 u23_ Ys A6 fn n7 c8 ei.len r6 Z rm Z k8) (Xp ae Z (Xg (Xj fa62_2 (fn.add (r6.toNat * 11)) ((fn.add (r6.toNat * 11)).add 2) Z Z) (Xp ae Z (Xg (Xu ag44 sz44 cQ ((fn.add (r6.toNat * 11)).add 2) [vs ((nth b r6).Was.Id), vi ((nth b r6).Was.Shape.Kind), G hs ht hu, G hv hw hx] Z Z (sub_cells (off := 2) ro Z)) (Xp ae Z ?_)))));obtain ⟨q, rs, H⟩ := H;refine Y0 go28 [.agg #[vs ((nth a r5).Now.Id), vi ((nth a r5).Now.Shape.Kind), G hm hn ho, G hp hq hr], .agg #[vs ((nth b r6).Was.Id), vi ((nth b r6).Was.Shape.Kind), G hs ht hu, G hv hw hx]] Z (vb q) (fun w g => (F46.calls rs (am.k0 g).ok rj (rk.st (.new _ g)) (rl.st (.new _ g)) rp (rq.st (.new _ g)) (rr.st (.new _ g))).mono ?_) ?_
  ·rintro _ w ⟨r, rfl, rfl, g2⟩;exact ⟨Z, Gr.t0 g g2⟩
  refine Xp ae Z (Xg (X7 q Z) (Xg (Xk false (vb (!q)) ae Z) (Yc fun rt ch => ?_)));have hy := am.k0 ch;refine Xw (!q) Z (fun hz => ?_) (fun hz => ?_)
  ·have H := Xn H hz;refine Xc ?_;have ru : ((some ad :: bk ac :: bk aa :: (ab ++ [])) : Ob).Perm ((some ad :: bk ac :: bk aa :: (ab ++ [])) ++ []) := RP;have rv := hy.drops ru;refine Xd ?_;have rx : DArr dChange_62 rt ([] : Ob) ([] : List Change) ([] : List (List Value)) := Z;refine X8 (kd := Kd.cells 11) Y1 rv ([] : List (List Value)) (cells := []) Z RF fun xi ek h0 h1 ry hr775 k9 rz => ?_;have la : ([bk ek] : Ob).Perm (bk ek :: (([] : Ob) ++ [])) := RP;have h2 := k9.perm la;refine Xf (G ek h0 h1) Z (Xf (vb false) Z (Xb (Xm ?_)));have sa := (k9.sp rz la);have sb := (rx.k0 ry);exact ⟨[G ek h0 h1, vb false], ⟨_, Z, ⟨_, Z, Z⟩⟩, ([] : List Change), false, ek, h0, h1, ([] : Ob), ([] : List (List Value)), Z, H, h2.gr.g0, h2.ok, h2.ge, sa, sb⟩
  have H := Xo H hz;refine Xx (Ki 22 RK RK fun xj ci => ?_);have c5 := hy.k0 ci;refine Y3 (Yj (vs (nth r4 v4)) Z) ?_;refine Y3 (Yj (G A1 n2 c3) Z) ?_;refine Y3 (Yj (vi r5) Z) ?_;obtain ⟨lb, H⟩ := H;have lc := am.stn ch;have ld := hy.stn ci;have dt := ((eh.st lc).st ld);obtain ⟨fo, xk, sc, xl, se, sf⟩ := dt.get default RD r5 lb;obtain ⟨xm, xn, xo, xp, xq, xr, xs, xt, xu, xv, xw, xx, rfl, xy, xz, x0, x1, x2, x3, x4⟩ := kChange.op se;refine Y3 (X3 u23_ Ys A1 fo n2 c3 dt.len r5 Z sc Z lb) ?_;refine Y3 (Xj fa62_1 (fo.add (r5.toNat * 11)) ((fo.add (r5.toNat * 11)).add 1) Z Z) ?_;refine Y3 (Xl ag4 cL ((fo.add (r5.toNat * 11)).add 1) (vb ((nth a r5).Had)) Z (sf 1 _ Z)) ?_;refine Y3 (Yj (G A1 n2 c3) Z) ?_;refine Y3 (Yj (vi r5) Z) ?_;obtain ⟨lf, H⟩ := H;obtain ⟨fp, x5, sg, x6, sh, si⟩ := dt.get default RD r5 lf;obtain ⟨bc, bd, be, bf, bg, bh, x7, x8, x9, ya, yb, yc, rfl, yd, lg, lh, li, ye, yf, yg⟩ := kChange.op sh;refine Y3 (X3 u23_ Ys A1 fp n2 c3 dt.len r5 Z sg Z lf) ?_;refine Y3 (Xj fa62_2 (fp.add (r5.toNat * 11)) ((fp.add (r5.toNat * 11)).add 2) Z Z) ?_;refine Y3 (Xu ag44 sz44 cL ((fp.add (r5.toNat * 11)).add 2) [vs ((nth a r5).Was.Id), vi ((nth a r5).Was.Shape.Kind), G bc bd be, G bf bg bh] Z Z (sub_cells (off := 2) si Z)) ?_;refine Y3 (Yj (G A6 n7 c8) Z) ?_;refine Y3 (Yj (vi r6) Z) ?_;obtain ⟨lj, H⟩ := H;have du := ((ei.st lc).st ld);obtain ⟨fq, yh, sj, yi, sk, sq⟩ := du.get default RD r6 lj;obtain ⟨yj, yk, yl, ym, yn, yo, yp, yq, yr, ys, yt, yu, rfl, yv, yw, yx, yy, yz, y0, y1⟩ := kChange.op sk;refine Y3 (X3 u23_ Ys A6 fq n7 c8 du.len r6 Z sj Z lj) ?_;refine Y3 (Xj fa62_3 (fq.add (r6.toNat * 11)) ((fq.add (r6.toNat * 11)).add 6) Z Z) ?_;refine Y3 (Xl ag4 cL ((fq.add (r6.toNat * 11)).add 6) (vb ((nth b r6).Has)) Z (sq 6 _ Z)) ?_;refine Y3 (Yj (G A6 n7 c8) Z) ?_;refine Y3 (Yj (vi r6) Z) ?_;obtain ⟨lk, H⟩ := H;obtain ⟨fr, y2, sr, y3, ss, su⟩ := du.get default RD r6 lk;obtain ⟨y4, y5, y6, y7, y8, y9, bi, bj, bl, bm, bn, bo, rfl, za, zb, zc, zd, ll, lm, ln⟩ := kChange.op ss;refine Y3 (X3 u23_ Ys A6 fr n7 c8 du.len r6 Z sr Z lk) ?_;refine Y3 (Xj fa62_4 (fr.add (r6.toNat * 11)) ((fr.add (r6.toNat * 11)).add 7) Z Z) ?_;refine Y3 (Xu ag44 sz44 cL ((fr.add (r6.toNat * 11)).add 7) [vs ((nth b r6).Now.Id), vi ((nth b r6).Now.Shape.Kind), G bi bj bl, G bm bn bo] Z Z (sub_cells (off := 7) su Z)) ?_;refine Y3 (Yo (.agg #[vs (nth r4 v4), vb ((nth a r5).Had), vs ((nth a r5).Was.Id), vi ((nth a r5).Was.Shape.Kind), G bc bd be, G bf bg bh, vb ((nth b r6).Has), vs ((nth b r6).Now.Id), vi ((nth b r6).Now.Shape.Kind), G bi bj bl, G bm bn bo]) RF) ?_;refine Kj ?_;have sv := ((gz.k0 ch).k0 ci);refine Yd [vs (nth r4 v4), vb ((nth a r5).Had), vs ((nth a r5).Was.Id), vi ((nth a r5).Was.Shape.Kind), G bc bd be, G bf bg bh, vb ((nth b r6).Has), vs ((nth b r6).Now.Id), vi ((nth b r6).Now.Shape.Kind), G bi bj bl, G bm bn bo] sv Z Z sz62 Z Z fun sy c6 lo => ?_;have fs := c5.wr 0 Z c6;refine Xb (Xc (Xd (Xa (Xu ag62 sz62 cL (Ad ad 0) [vs (nth r4 v4), vb ((nth a r5).Had), vs ((nth a r5).Was.Id), vi ((nth a r5).Was.Shape.Kind), G bc bd be, G bf bg bh, vb ((nth b r6).Has), vs ((nth b r6).Now.Id), vi ((nth b r6).Now.Shape.Kind), G bi bj bl, G bm bn bo] Z Z (lo.cells (off := 00) Z)) ?_)));have a7 := c5.stw 0 Z c6;refine Xs go53 (F19.calls H fs.ok e4 lg (lh.st a7) (li.st a7) ll (lm.st a7) (ln.st a7)) Z ?_;rintro _ sz ⟨r12, rfl, H, bp⟩;have dl := fs.k0 bp;refine Xa (X7 r12 Z) (Xb ?_);refine Xw (!r12) Z (fun h3 => ?_) (fun h3 => ?_)
  ·have H := Xn H h3;refine Xd (Xe (G ac aj ak) Z ?_);have s0 := (lo.k0 bp);refine Xa (Xu ag62 sz62 cL (Ad ad 0) [vs (nth r4 v4), vb ((nth a r5).Had), vs ((nth a r5).Was.Id), vi ((nth a r5).Was.Shape.Kind), G bc bd be, G bf bg bh, vb ((nth b r6).Has), vs ((nth b r6).Now.Id), vi ((nth b r6).Now.Shape.Kind), G bi bj bl, G bm bn bo] Z Z (s0.cells (off := 00) Z)) ?_;have dv := fs.stn bp;have s1 := ((lh.st a7).st dv);have s2 := ((li.st a7).st dv);have s3 := ((lm.st a7).st dv);have s4 := ((ln.st a7).st dv);refine Xs go41 (F20.calls H dl.ok e4 lg s1 s2 ll s3 s4) Z ?_;rintro _ lp ⟨r13, ax, c7, c9, ay, da, db, az, dc, dd, a0, de, df, rfl, H, el, s5, ft, s6, s7, s8, s9, ta, tb, tc⟩;have lq := dl.owns el s5 ft;have lr : (dChange_62).D lp ([] ++ ([] ++ (([] ++ (([] ++ [bk ax]) ++ [bk ay])) ++ ([] ++ ([] ++ (([] ++ [bk az]) ++ [bk a0])))))) r13 [vs r13.Id, vb r13.Had, vs r13.Was.Id, vi r13.Was.Shape.Kind, G ax c7 c9, G ay da db, vb r13.Has, vs r13.Now.Id, vi r13.Now.Shape.Kind, G az dc dd, G a0 de df] := (dChange_62.mk _ r13 s6 s7 (Ds.ofOw kPt_flat s8) (Ds.ofOw kTag_flat s9) ta (Ds.ofOw kPt_flat tb) (Ds.ofOw kTag_flat tc));have td : DArr dChange_62 lp (([] ++ ([] ++ (([] ++ (([] ++ [bk ax]) ++ [bk ay])) ++ ([] ++ ([] ++ (([] ++ [bk az]) ++ [bk a0])))))) ++ []) ([r13] : List Change) ([[vs r13.Id, vb r13.Had, vs r13.Was.Id, vi r13.Was.Shape.Kind, G ax c7 c9, G ay da db, vb r13.Has, vs r13.Now.Id, vi r13.Now.Shape.Kind, G az dc dd, G a0 de df]] : List (List Value)) := ⟨_, _, Z, lr, Z⟩;refine X8 (kd := Kd.cells 11) Y1 lq ([[vs r13.Id, vb r13.Had, vs r13.Was.Id, vi r13.Was.Shape.Kind, G ax c7 c9, G ay da db, vb r13.Has, vs r13.Now.Id, vi r13.Now.Shape.Kind, G az dc dd, G a0 de df]] : List (List Value)) (cells := [vs r13.Id, vb r13.Had, vs r13.Was.Id, vi r13.Was.Shape.Kind, G ax c7 c9, G ay da db, vb r13.Has, vs r13.Now.Id, vi r13.Now.Shape.Kind, G az dc dd, G a0 de df]) ⟨[vs r13.Id, vb r13.Had, vs r13.Was.Id, vi r13.Was.Shape.Kind, G ax c7 c9, G ay da db, vb r13.Has, vs r13.Now.Id, vi r13.Now.Shape.Kind, G az dc dd, G a0 de df], _, Z, Dd.raw _ lr, Z⟩ RF fun ze dm te tf em hr965 en tg => ?_;have eo : ((bk dm :: bk ax :: bk ay :: bk az :: bk a0 :: some ad :: bk ac :: bk aa :: (ab ++ [])) : Ob).Perm (bk dm :: some ad :: bk ac :: bk aa :: (ab ++ ((([] ++ ([] ++ (([] ++ (([] ++ [bk ax]) ++ [bk ay])) ++ ([] ++ ([] ++ (([] ++ [bk az]) ++ [bk a0])))))) ++ []) ++ []))) := RP;have fu := en.perm eo;obtain ⟨th, H⟩ := H;have ti := (en.sp ((((c5.sw (((ah.sw (((cj.sn al).sn af).so _ ag (X2 a2)) 1 0 Z Z Z ai).sn ch).sn ci) 1 0 Z Z Z c6).sn bp).sos el ft).so _ em hr965) eo);have tj := (en.sp tg eo);have ls := ((((DArr.sm (L := (some ad :: bk ac :: bk aa :: (ab ++ []))) (O := O) (i := 0) (((DArr.sm (L := (some ad :: bk ac :: bk aa :: (ab ++ []))) (O := O) (i := 0) (((ck.k0 al).k0 af).k0 ag) ah Z (fun b hb => (mcm (mcm (List.mem_append_left _ hb)))) ai).k0 ch).k0 ci) c5 Z (fun b hb => (mcm (mcm (List.mem_append_left _ hb)))) c6).k0 bp).k0 el).k0 em);have lt := (td.k0 em);have tk : a1.length + ([[vs r13.Id, vb r13.Had, vs r13.Was.Id, vi r13.Was.Shape.Kind, G ax c7 c9, G ay da db, vb r13.Has, vs r13.Now.Id, vi r13.Now.Shape.Kind, G az dc dd, G a0 de df]] : List (List Value)).length ≤ 268435456 := by rw [ls.len, lt.len]; exact th
   refine Ye (kd := Kd.cells 11) Y1 fu (G ac aj ak) a1 ([[vs r13.Id, vb r13.Had, vs r13.Was.Id, vi r13.Was.Shape.Kind, G ax c7 c9, G ay da db, vb r13.Has, vs r13.Now.Id, vi r13.Now.Shape.Kind, G az dc dd, G a0 de df]] : List (List Value)) Z ti (G dm te tf) Z tj.sx 2 Z tk fun zf dw lu lv h4 h5 h6 tl => ?_;have tm := (DArr.sm (L := (bk dm :: some ad :: bk ac :: bk aa :: (ab ++ ((([] ++ ([] ++ (([] ++ (([] ++ [bk ax]) ++ [bk ay])) ++ ([] ++ ([] ++ (([] ++ [bk az]) ++ [bk a0])))))) ++ []) ++ [])))) (O := O) (i := 2) ls fu Z (fun b hb => (mcm (List.mem_append_left _ hb))) h4);have tn := (DArr.sm (L := (bk dm :: some ad :: bk ac :: bk aa :: (ab ++ ((([] ++ ([] ++ (([] ++ (([] ++ [bk ax]) ++ [bk ay])) ++ ([] ++ ([] ++ (([] ++ [bk az]) ++ [bk a0])))))) ++ []) ++ [])))) (O := O) (i := 2) lt fu Z (fun b hb => (mcm (List.mem_append_right _ (List.mem_append_left _ hb)))) h4);have tp := DArr.app tm tn;have ep : ((bk dm :: some ad :: bk dw :: bk aa :: (ab ++ ((([] ++ ([] ++ (([] ++ (([] ++ [bk ax]) ++ [bk ay])) ++ ([] ++ ([] ++ (([] ++ [bk az]) ++ [bk a0])))))) ++ []) ++ []))) : Ob).Perm ((bk dm :: []) ++ (some ad :: bk dw :: bk aa :: (ab ++ ((([] ++ ([] ++ (([] ++ (([] ++ [bk ax]) ++ [bk ay])) ++ ([] ++ ([] ++ (([] ++ [bk az]) ++ [bk a0])))))) ++ []) ++ [])))) := RP;have fv := h6.drops ep;have fw : ((some ad :: bk dw :: bk aa :: (ab ++ ((([] ++ ([] ++ (([] ++ (([] ++ [bk ax]) ++ [bk ay])) ++ ([] ++ ([] ++ (([] ++ [bk az]) ++ [bk a0])))))) ++ []) ++ []))) : Ob).Perm (some ad :: bk dw :: bk aa :: ((ab ++ (([] ++ ([] ++ (([] ++ (([] ++ [bk ax]) ++ [bk ay])) ++ ([] ++ ([] ++ (([] ++ [bk az]) ++ [bk a0])))))) ++ [])) ++ [])) := RP;have fx := fv.perm fw;refine Xf (G dw lu lv) Z (Xb (Xd ?_));obtain ⟨tq, H⟩ := H;refine Xa (Yb v4 1 Z Z tq) (Xe (vi (v4 + 1)) Z (Xb ?_));have tr := fx.drop 0 Z;obtain ⟨ts, tt⟩ := H;have lw := dl.stos el ft;have lx := lq.stown _ em hr965;have ly := en.stp eo;have lz := fv.stp fw;have l0 := fx.std 0 Z;have tu := (((((((((dt.st a7).st dv).st lw).st lx).st ly).st h5).st (St.drops _ O ep)).st lz).st l0);have tv := (((((((((du.st a7).st dv).st lw).st lx).st ly).st h5).st (St.drops _ O ep)).st lz).st l0);have tw := (fx.sd (fv.sp (h6.odr tl ep 1 Z) fw) 1 0 Z Z Z);have tx := tp;have ty := (fx.sd (fv.sp (h6.odr (fu.sm (en.sp ((((c5.sw (((ah.sw (((cl.sn al).sn af).so _ ag (X2 a2)) 2 0 Z Z Z ai).sn ch).sn ci) 2 0 Z Z Z c6).sn bp).sos el ft).so _ em hr965) eo) 3 2 Z Z Z h4 h5) ep 2 Z) fw) 2 0 Z Z Z);exact ⟨((xs4 ++ ([r13] : List Change)), (a1 ++ ([[vs r13.Id, vb r13.Had, vs r13.Was.Id, vi r13.Was.Shape.Kind, G ax c7 c9, G ay da db, vb r13.Has, vs r13.Now.Id, vi r13.Now.Shape.Kind, G az dc dd, G a0 de df]] : List (List Value))), (ab ++ (([] ++ ([] ++ (([] ++ (([] ++ [bk ax]) ++ [bk ay])) ++ ([] ++ ([] ++ (([] ++ [bk az]) ++ [bk a0])))))) ++ [])), dw, lu, lv, v4 + 1), tt, ts, (Xy Z), tr, tu, tv, tw, tx, ty⟩
  have H := Xo H h3;refine Xx (Xd ?_);obtain ⟨tz, H⟩ := H;refine Xa (Yb v4 1 Z Z tz) (Xe (vi (v4 + 1)) Z (Xb ?_));have t1 := dl.drop 0 Z;obtain ⟨t2, t3⟩ := H;have l1 := fs.stn bp;have l2 := dl.std 0 Z;have t4 := (((dt.st a7).st l1).st l2);have t5 := (((du.st a7).st l1).st l2);have t6 := (dl.sd ((c5.sw (((ah.sw (((cj.sn al).sn af).so _ ag (X2 a2)) 1 0 Z Z Z ai).sn ch).sn ci) 1 0 Z Z Z c6).sn bp) 1 0 Z Z Z);have t7 := ((DArr.sm (L := (some ad :: bk ac :: bk aa :: (ab ++ []))) (O := O) (i := 0) (((DArr.sm (L := (some ad :: bk ac :: bk aa :: (ab ++ []))) (O := O) (i := 0) (((ck.k0 al).k0 af).k0 ag) ah Z (fun b hb => (mcm (mcm (List.mem_append_left _ hb)))) ai).k0 ch).k0 ci) c5 Z (fun b hb => (mcm (mcm (List.mem_append_left _ hb)))) c6).k0 bp);have t8 := (dl.sd ((c5.sw (((ah.sw (((cl.sn al).sn af).so _ ag (X2 a2)) 2 0 Z Z Z ai).sn ch).sn ci) 2 0 Z Z Z c6).sn bp) 2 0 Z Z Z);exact ⟨(xs4, a1, ab, ac, aj, ak, v4 + 1), t3, t2, (Xy Z), t1, t4, t5, t6, t7, t8⟩
 have H := Xo H gy;refine Yh (xin_hit ?_);refine Xc (Xc (Xd (Xe (G ac aj ak) Z ?_)));have t9 : ((bk ac :: bk aa :: (ab ++ [])) : Ob).Perm (bk ac :: (ab ++ [bk aa])) := RP;obtain ⟨ua, ub, zg⟩ := Dp.gv (L := (bk ac :: bk aa :: (ab ++ []))) (O := O) (v := G ac aj ak) cj ck d3 t9;refine Xs go17 (F100.calls H ub.ok ua) Z ?_;rintro _ uc ⟨r14, rfl, H, h7⟩;have h8 := d3.k0 h7;refine Xa (X7 r14 Z) (Xb ?_);refine Xw (!r14) Z (fun h9 => ?_) (fun h9 => ?_)
 ·have H := Xn H h9;refine Xc (Xd ?_);have ud : DArr dChange_62 uc ([] : Ob) ([] : List Change) ([] : List (List Value)) := Z;refine X8 (kd := Kd.cells 11) Y1 h8 ([] : List (List Value)) (cells := []) Z RF fun zh dn ia ib ue hr1037 l3 uf => ?_;have l4 : ((bk dn :: bk ac :: bk aa :: (ab ++ [])) : Ob).Perm (bk dn :: bk ac :: bk aa :: (ab ++ (([] : Ob) ++ []))) := RP;have l5 := l3.perm l4;refine Xf (G dn ia ib) Z (Xf (vb false) Z (Xb (Xm ?_)));have l6 : ((bk dn :: bk ac :: bk aa :: (ab ++ (([] : Ob) ++ []))) : Ob).Perm ((bk ac :: (ab ++ [])) ++ (bk dn :: bk aa :: (([] : Ob) ++ []))) := RP;have l7 := l5.drops l6;have ic := l7.drop 1 Z;have ug := (l7.sd (l5.odr (l3.sp uf l4) l6 0 Z) 0 1 Z Z Z);have uh := (ud.k0 ue);exact ⟨[G dn ia ib, vb false], ⟨_, Z, ⟨_, Z, Z⟩⟩, ([] : List Change), false, dn, ia, ib, ([] : Ob), ([] : List (List Value)), Z, H, ic.gr.g0, ic.ok, ic.ge, ug, uh⟩
 have H := Xo H h9;refine Xx (Xc (Xd (Xe (G ac aj ak) Z (Xf (G ac aj ak) Z (Xf (vb true) Z (Xb (Xm ?_)))))));have id := h8.drop 1 Z;have ui := (h8.sd (cj.sn h7) 0 1 Z Z Z);have uj := (ck.k0 h7);exact ⟨[G ac aj ak, vb true], ⟨_, Z, ⟨_, Z, Z⟩⟩, xs4, true, ac, aj, ak, ab, a1, Z, H, id.gr.g0, id.ok, id.ge, ui, uj⟩
def laws_FnDiffBack.E (code : List UInt8) (Q : Bool → Prop) : Prop :=
 (if decide ((code.length : Int) > 1048576) then Q true else F12.E code (fun r => F47.E r (fun r2 => F49.E r2 (fun r3 => F50.E r (fun r4 => F52.E r4 (fun r5 => (if r3 != r5 then Q false else F50.E r (fun r6 => (if (r2.length : Int) != (r6.length : Int) then Q false else F101.E r (fun r7 => (if !r7 then Q ((r2.length : Int) == 0) else F13.E code (fun r8 r9 => F100.E r2 (fun r10 => (if !r10 then F100.E r2 (fun r11 => Q r11) else F101.E r8 (fun r12 => (if !r12 then F100.E r2 (fun r13 => Q r13) else F101.E r9 (fun r14 => (if !r14 then F100.E r2 (fun r15 => Q r15) else F54.E r8 r9 (fun r16 r17 => F47.E r9 (fun r18 => F47.E r8 (fun r19 => F54.E r18 r19 (fun r20 r21 => F100.E r2 (fun r22 => (if r22 then F47.E r2 (fun r23 => F49.E r23 (fun r24 => F49.E r (fun r25 => (if r24 == r25 then (if r17 == r21 then (if !r17 then Q true else F47.E r16 (fun r26 => F49.E r26 (fun r27 => F49.E r20 (fun r28 => Q (r27 == r28))))) else Q false) else Q false)))) else Q false))))))))))))))))))))))))
theorem laws_FnDiffBack.calls {O : Ob} (w0 : World) (hO : Ok w0 O) (hG : Glob w0 O) (code : List UInt8) (A1 : Option Addr) (n2 c3 : Nat) (hp4 : Sl Kd.byte w0 (Fr O) (G A1 n2 c3) code) (Q : Bool → Prop) (h : laws_FnDiffBack.E code Q) :
  Ret Tryz.prog 3 [G A1 n2 c3] w0 (fun v w' => ∃ (r0 : Bool), v = vb r0 ∧ Q r0 ∧ Gr w0 w' none) := by
 unfold laws_FnDiffBack.E at h;have H := h;clear h;have hc0 := Ct.init hO;refine X9 Tryz.func3 Z 99 Z [.tmp 2] Z Z ?_;refine Xc (Xd (Xf (vb false) Z (Xb (Xc (Xc (Xd (Xe (G A1 n2 c3) Z ?_)))))));have hl6 := hp4.le;refine Xa (Ya u22_ A1 n2 c3 hp4.len Z) (Xa (X0 (code.length : Int) 1048576 (decide ((code.length : Int) > 1048576)) Z Z Z) (Xb ?_));refine Xw (decide ((code.length : Int) > 1048576)) Z (fun hq7 => ?_) (fun hq7 => ?_)
 ·have H := Xn H hq7;exact Xc (Xd (Xf (vb true) Z (Xb (Xm ⟨[vb true], ⟨_, Z, Z⟩, true, Z, H, hc0.gr.g0⟩))))
 have H := Xo H hq7;refine Xx (Xc (Xd (Xe (G A1 n2 c3) Z ?_)));refine Xs go10 (F12.calls H hc0.ok hp4) Z ?_;rintro _ w8 ⟨r, ao, ay, az, rfl, H, g9, en, eo, du⟩;have cn := hc0.owns g9 en eo;refine Xf (G ao ay az) Z (Xb (Xc (Xd (Xe (G ao ay az) Z ?_))));have ep := cn.gv du 0 Z;have eq := cn.drop 0 Z;refine Xs go11 (F47.calls H eq.ok ep) Z ?_;rintro _ er ⟨r2, aa, ak, al, ab, jx, rfl, H, cy, es, cz, et, dv⟩;have eu := Ok.unl (L := [bk ao]) (L' := []) (O := O) cn cy es cz;have dw := Ow.unl (L := [bk ao]) (L' := []) (O := O) (fun _ _ _ _ _ _ h => h) (.cons _ (.slnil)) et;have co := cn.owns cy eu cz;have cp : (((bk aa :: (ab ++ [])) ++ [bk ao]) : Ob).Perm (bk aa :: bk ao :: (ab ++ [])) := RP;have dx := co.perm cp;refine Xf (G aa ak al) Z (Xb (Xc (Xc (Xd (Xe (G aa ak al) Z ?_)))));have ev := (co.spa dw cp);have ew := dv;have ex : ((bk aa :: bk ao :: (ab ++ [])) : Ob).Perm (bk aa :: (ab ++ [bk ao])) := RP;obtain ⟨ey, dy, jy⟩ := Dp.gv (L := (bk aa :: bk ao :: (ab ++ []))) (O := O) (v := G aa ak al) ev ew dx ex;refine Xs go12 (F49.calls H dy.ok (hG.st dy.st) ey) Z ?_;rintro _ ez ⟨r3, rfl, H, cq, jz⟩;have c0 := dx.k0 cq;refine Xe (G ao ay az) Z ?_;have e0 := ((co.spa (du.sos cy cz) cp).sn cq);have dz := c0.gv e0 1 Z;have c1 := c0.drop 1 Z;refine Xs go14 (F50.calls H c1.ok dz) Z ?_;rintro _ e1 ⟨r4, ag, d0, d1, rfl, H, cr, e2, c2, e3⟩;have cs := c1.owns cr e2 c2;have e4 := cs.gv e3 0 Z;have e5 := cs.drop 0 Z;refine Xs go13 (F52.calls H e5.ok e4) Z ?_;rintro _ e6 ⟨r5, rfl, H, ct, j0⟩;have cu := cs.k0 ct;refine Xa (Yl r3 r5 (r3 != r5) Z Z Z) (Xe (vb (r3 != r5)) Z ?_);rcases X4 (r3 != r5) with av | av
 ·have H := Xn H av;refine Xi av Z (Xi av Z (Xi av Z (Xi av Z (Xi av Z (Xi av Z (Xa (Xk true (vb true) av Z) (Xb (Yu (b := true) Z Z ?_))))))));refine Xc (Xd (Xf (vb false) Z (Xb (Xm ?_))));have e7 := cu.clear;exact ⟨[vb false], ⟨_, Z, Z⟩, false, Z, H, e7.gr.g0⟩
 have H := Xo H av;refine Xh av Z (Xe (G aa ak al) Z (Xh av Z ?_));have bh := (((c0.sd ((co.spa dw cp).sn cq) 0 1 Z Z Z).sos cr c2).sn ct);have bi := (((dv.k0 cq).k0 cr).k0 ct);have j1 := (Dp.le bh bi);refine Xa (Ya u23_ aa ak al (Dp.len bh bi) Z) (Xh av Z (Xe (G ao ay az) Z (Xh av Z ?_)));have e8 := c1.stos cr c2;have e9 := cs.stn ct;have c4 := ((dz.st e8).st e9);refine Xs go14 (F50.calls H cu.ok c4) Z ?_;rintro _ fa ⟨r6, ah, fb, fc, rfl, H, a0, fd, bj, d2⟩;have cv := cu.owns a0 fd bj;refine Xh av Z ?_;have j2 := d2.le;refine Xa (Ya u23_ ah fb fc d2.len Z) (Xh av Z (Xa (X0 (r2.length : Int) (r6.length : Int) ((r2.length : Int) != (r6.length : Int)) Z Z Z) (Xa (Xk false (vb ((r2.length : Int) != (r6.length : Int))) av Z) (Xb ?_))));refine Xw ((r2.length : Int) != (r6.length : Int)) Z (fun c5 => ?_) (fun c5 => ?_)
 ·have H := Xn H c5;refine Xc ?_;have fe : ((bk ah :: bk ag :: bk aa :: (ab ++ [])) : Ob).Perm ((bk ah :: bk ag :: bk aa :: (ab ++ [])) ++ []) := RP;have ff := cv.drops fe;exact Xd (Xf (vb false) Z (Xb (Xm ⟨[vb false], ⟨_, Z, Z⟩, false, Z, H, ff.gr.g0⟩)))
 have H := Xo H c5;refine Xx (Xc (Xc (Xd (Xe (G ao ay az) Z ?_))));have d3 := cu.stos a0 bj;refine Xs go15 (F101.calls H cv.ok (c4.st d3)) Z ?_;rintro _ fg ⟨r7, rfl, H, a1⟩;have cd := cv.k0 a1;refine Xa (X7 r7 Z) (Xb ?_);refine Xw (!r7) Z (fun c6 => ?_) (fun c6 => ?_)
 ·have H := Xn H c6;refine Xc (Xd (Xe (G aa ak al) Z ?_));have fh := ((bh.sos a0 bj).sn a1);have fi := ((bi.k0 a0).k0 a1);refine Xa (Ya u23_ aa ak al (Dp.len fh fi) Z) (Xa (X0 (r2.length : Int) 0 ((r2.length : Int) == 0) Z Z Z) (Xf (vb ((r2.length : Int) == 0)) Z (Xb (Xm ?_))));have fj := cd.clear;exact ⟨[vb ((r2.length : Int) == 0)], ⟨_, Z, Z⟩, (r2.length : Int) == 0, Z, H, fj.gr.g0⟩
 have H := Xo H c6;refine Xx (Xc (Xd (Xe (G A1 n2 c3) Z ?_)));refine Xs go16 (F13.calls H cd.ok (hp4.st cd.st)) Z ?_;rintro _ fk ⟨r8, r9, ae, a5, a6, af, a7, a8, rfl, H, a9, fl, br, c7, c8⟩;have c9 := cd.owns a9 fl br;refine Xe (.tuple #[G ae a5 a6, G af a7 a8]) Z (Xa (Ze [G ae a5 a6, G af a7 a8] 0 (G ae a5 a6) Z Z) (Xa (Ze [G ae a5 a6, G af a7 a8] 1 (G af a7 a8) Z Z) (Xf (G ae a5 a6) Z (Xf (G af a7 a8) Z (Xb (Xc (Xc (Xd ?_))))))));refine Xe (G aa ak al) Z ?_;have fm := (((bh.sos a0 bj).sn a1).sos a9 br);have fn := (((bi.k0 a0).k0 a1).k0 a9);have fo : ((bk ae :: bk af :: bk ah :: bk ag :: bk aa :: (ab ++ [])) : Ob).Perm (bk aa :: (ab ++ [bk ae, bk af, bk ah, bk ag])) := RP;obtain ⟨fp, fq, j3⟩ := Dp.gv (L := (bk ae :: bk af :: bk ah :: bk ag :: bk aa :: (ab ++ []))) (O := O) (v := G aa ak al) fm fn c9 fo;refine Xs go17 (F100.calls H fq.ok fp) Z ?_;rintro _ d4 ⟨r10, rfl, H, au⟩;have b3 := c9.k0 au;refine Xa (X7 r10 Z) (Xe (vb (!r10)) Z ?_);rcases X4 (!r10) with bb | bb
 ·have H := Xn H bb;refine Xi bb Z (Xi bb Z (Xi bb Z (Xa (Xk true (vb true) bb Z) (Xe (vb true) Z (X5 (dj := 51) Z Z (.inl Z) (X5 (dj := 51) Z Z (.inl Z) (X5 (dj := 51) Z Z (.inl Z) (Xa (Xk true (vb true) Z Z) ?_))))))));refine Xb (Yu (b := true) Z Z ?_);refine Xc ?_;have d5 : ((bk ae :: bk af :: bk ah :: bk ag :: bk aa :: (ab ++ [])) : Ob).Perm ((bk ae :: bk af :: bk ah :: bk ag :: []) ++ (bk aa :: (ab ++ []))) := RP;have d6 := b3.drops d5;refine Xd (Xe (G aa ak al) Z ?_);have fr := (b3.odr ((((bh.sos a0 bj).sn a1).sos a9 br).sn au) d5 0 Z);have fs := ((((bi.k0 a0).k0 a1).k0 a9).k0 au);have ft : ((bk aa :: (ab ++ [])) : Ob).Perm (bk aa :: (ab ++ [])) := RP;obtain ⟨fu, fv, j4⟩ := Dp.gv (L := (bk aa :: (ab ++ []))) (O := O) (v := G aa ak al) fr fs d6 ft;refine Xs go17 (F100.calls H fv.ok fu) Z ?_;rintro _ j5 ⟨r11, rfl, H, fw⟩;have fx := d6.k0 fw;refine Xf (vb r11) Z (Xb (Xm ?_));have fy : ((bk aa :: (ab ++ [])) : Ob).Perm ((bk aa :: (ab ++ [])) ++ []) := RP;have fz := fx.drops fy;exact ⟨[vb r11], ⟨_, Z, Z⟩, r11, Z, H, fz.gr.g0⟩
 have H := Xo H bb;refine Xh bb Z (Xe (G ae a5 a6) Z (Xh bb Z ?_));have f0 := (c7.sn au);have f1 := b3.gv f0 0 Z;have f2 := b3.drop 0 Z;refine Xs go15 (F101.calls H f2.ok f1) Z ?_;rintro _ d7 ⟨r12, rfl, H, a3⟩;have b4 := b3.k0 a3;refine Xh bb Z (Xa (X7 r12 Z) (Xa (Xk false (vb (!r12)) bb Z) (Xe (vb (!r12)) Z ?_)));rcases X4 (!r12) with bc | bc
 ·have H := Xn H bc;refine Xi bc Z (Xi bc Z (Xi bc Z (Xa (Xk true (vb true) bc Z) (Xb (Yu (b := true) Z Z ?_)))));refine Xc ?_;have d8 : ((bk ae :: bk af :: bk ah :: bk ag :: bk aa :: (ab ++ [])) : Ob).Perm ((bk ae :: bk af :: bk ah :: bk ag :: []) ++ (bk aa :: (ab ++ []))) := RP;have d9 := b4.drops d8;refine Xd (Xe (G aa ak al) Z ?_);have f3 := (b4.odr (((((bh.sos a0 bj).sn a1).sos a9 br).sn au).sn a3) d8 0 Z);have f4 := (((((bi.k0 a0).k0 a1).k0 a9).k0 au).k0 a3);have f5 : ((bk aa :: (ab ++ [])) : Ob).Perm (bk aa :: (ab ++ [])) := RP;obtain ⟨f6, f7, j6⟩ := Dp.gv (L := (bk aa :: (ab ++ []))) (O := O) (v := G aa ak al) f3 f4 d9 f5;refine Xs go17 (F100.calls H f7.ok f6) Z ?_;rintro _ j7 ⟨r13, rfl, H, f8⟩;have f9 := d9.k0 f8;refine Xf (vb r13) Z (Xb (Xm ?_));have ga : ((bk aa :: (ab ++ [])) : Ob).Perm ((bk aa :: (ab ++ [])) ++ []) := RP;have gb := f9.drops ga;exact ⟨[vb r13], ⟨_, Z, Z⟩, r13, Z, H, gb.gr.g0⟩
 have H := Xo H bc;refine Xh bc Z (Xe (G af a7 a8) Z (Xh bc Z ?_));have gc := ((c8.sn au).sn a3);have gd := b4.gv gc 1 Z;have ge := b4.drop 1 Z;refine Xs go15 (F101.calls H ge.ok gd) Z ?_;rintro _ da ⟨r14, rfl, H, ba⟩;have bs := b4.k0 ba;refine Xh bc Z (Xa (X7 r14 Z) (Xa (Xk false (vb (!r14)) bc Z) (Xb ?_)));refine Xw (!r14) Z (fun db => ?_) (fun db => ?_)
 ·have H := Xn H db;refine Xc ?_;have ea : ((bk ae :: bk af :: bk ah :: bk ag :: bk aa :: (ab ++ [])) : Ob).Perm ((bk ae :: bk af :: bk ah :: bk ag :: []) ++ (bk aa :: (ab ++ []))) := RP;have eb := bs.drops ea;refine Xd (Xe (G aa ak al) Z ?_);have gf := (bs.odr ((((((bh.sos a0 bj).sn a1).sos a9 br).sn au).sn a3).sn ba) ea 0 Z);have gg := ((((((bi.k0 a0).k0 a1).k0 a9).k0 au).k0 a3).k0 ba);have gh : ((bk aa :: (ab ++ [])) : Ob).Perm (bk aa :: (ab ++ [])) := RP;obtain ⟨gi, gj, j8⟩ := Dp.gv (L := (bk aa :: (ab ++ []))) (O := O) (v := G aa ak al) gf gg eb gh;refine Xs go17 (F100.calls H gj.ok gi) Z ?_;rintro _ j9 ⟨r15, rfl, H, gk⟩;have gl := eb.k0 gk;refine Xf (vb r15) Z (Xb (Xm ?_));have gm : ((bk aa :: (ab ++ [])) : Ob).Perm ((bk aa :: (ab ++ [])) ++ []) := RP;have gn := gl.drops gm;exact ⟨[vb r15], ⟨_, Z, Z⟩, r15, Z, H, gn.gr.g0⟩
 have H := Xo H db;refine Xx (Xc (Xd (Xe (G ae a5 a6) Z (Xe (G af a7 a8) Z ?_))));have gp := (((c7.sn au).sn a3).sn ba);have gq := bs.gv gp 0 Z;have dc := bs.drop 0 Z;have gs := (bs.sd (((c8.sn au).sn a3).sn ba) 1 0 Z Z Z);have gt := dc.gv gs 0 Z;have gu : Ct [] w0 da (bk ah :: bk ag :: bk aa :: (ab ++ [])) O := dc.drop 0 Z;have gw := dc.std 0 Z;refine Xs go18 (F54.calls H gu.ok (gq.st gw) gt) Z ?_;rintro _ ec ⟨r16, r17, ac, bl, bm, ad, ka, rfl, H, bn, gx, bv, gy, gz⟩;have g1 := Ok.unl (L := (bk ae :: bk af :: bk ah :: bk ag :: bk aa :: (ab ++ []))) (L' := (bk ah :: bk ag :: bk aa :: (ab ++ []))) (O := O) bs bn gx bv;have g2 := Ow.unl (L := (bk ae :: bk af :: bk ah :: bk ag :: bk aa :: (ab ++ []))) (L' := (bk ah :: bk ag :: bk aa :: (ab ++ []))) (O := O) (fun _ _ _ _ _ _ h => h) (.cons _ (.cons _ (.cons_cons _ (.cons_cons _ (.cons_cons _ (.append (.refl _) (.refl _))))))) gy;have b5 := bs.owns bn g1 bv;have bw : (((bk ac :: (ad ++ [])) ++ (bk ae :: bk af :: bk ah :: bk ag :: bk aa :: (ab ++ []))) : Ob).Perm (bk ac :: bk ae :: bk af :: bk ah :: bk ag :: bk aa :: (ad ++ (ab ++ []))) := RP;have ce := b5.perm bw;refine Xe (.tuple #[G ac bl bm, vb r17]) Z (Xa (Ze [G ac bl bm, vb r17] 0 (G ac bl bm) Z Z) (Xa (Ze [G ac bl bm, vb r17] 1 (vb r17) Z Z) (Xf (G ac bl bm) Z (Xf (vb r17) Z (Xb (Xc (Xd (Xe (G af a7 a8) Z ?_))))))));have g3 := (b5.spa ((((c8.sn au).sn a3).sn ba).sos bn bv) bw);have g4 := ce.gv g3 2 Z;have g5 := ce.drop 2 Z;refine Xs go11 (F47.calls H g5.ok g4) Z ?_;rintro _ ed ⟨r18, am, dd, de, ap, kb, rfl, H, bg, g6, bx, g7, g8⟩;have ha := Ok.unl (L := (bk ac :: bk ae :: bk af :: bk ah :: bk ag :: bk aa :: (ad ++ (ab ++ [])))) (L' := (bk ac :: bk ae :: bk ah :: bk ag :: bk aa :: (ad ++ (ab ++ [])))) (O := O) ce bg g6 bx;have hb := Ow.unl (L := (bk ac :: bk ae :: bk af :: bk ah :: bk ag :: bk aa :: (ad ++ (ab ++ [])))) (L' := (bk ac :: bk ae :: bk ah :: bk ag :: bk aa :: (ad ++ (ab ++ [])))) (O := O) (fun _ _ _ _ _ _ h => h) (.cons_cons _ (.cons_cons _ (.cons _ (.cons_cons _ (.cons_cons _ (.cons_cons _ (.append (.refl _) (.append (.refl _) (.refl _))))))))) g7;have b6 := ce.owns bg ha bx;have bz : (((bk am :: (ap ++ [])) ++ (bk ac :: bk ae :: bk af :: bk ah :: bk ag :: bk aa :: (ad ++ (ab ++ [])))) : Ob).Perm (bk am :: bk ac :: bk ae :: bk af :: bk ah :: bk ag :: bk aa :: (ap ++ (ad ++ (ab ++ [])))) := RP;have cf := b6.perm bz;refine Xe (G ae a5 a6) Z ?_;have hc := (b6.spa ((b5.spa ((((c7.sn au).sn a3).sn ba).sos bn bv) bw).sos bg bx) bz);have hd := cf.gv hc 2 Z;have he := cf.drop 2 Z;refine Xs go11 (F47.calls H he.ok hd) Z ?_;rintro _ ee ⟨r19, ar, df, dg, a2, kc, rfl, H, bd, hf, b0, hg, hh⟩;have hi := Ok.unl (L := (bk am :: bk ac :: bk ae :: bk af :: bk ah :: bk ag :: bk aa :: (ap ++ (ad ++ (ab ++ []))))) (L' := (bk am :: bk ac :: bk af :: bk ah :: bk ag :: bk aa :: (ap ++ (ad ++ (ab ++ []))))) (O := O) cf bd hf b0;have hj := Ow.unl (L := (bk am :: bk ac :: bk ae :: bk af :: bk ah :: bk ag :: bk aa :: (ap ++ (ad ++ (ab ++ []))))) (L' := (bk am :: bk ac :: bk af :: bk ah :: bk ag :: bk aa :: (ap ++ (ad ++ (ab ++ []))))) (O := O) (fun _ _ _ _ _ _ h => h) (.cons_cons _ (.cons_cons _ (.cons _ (.cons_cons _ (.cons_cons _ (.cons_cons _ (.cons_cons _ (.append (.refl _) (.append (.refl _) (.append (.refl _) (.refl _))))))))))) hg;have b7 := cf.owns bd hi b0;have b1 : (((bk ar :: (a2 ++ [])) ++ (bk am :: bk ac :: bk ae :: bk af :: bk ah :: bk ag :: bk aa :: (ap ++ (ad ++ (ab ++ []))))) : Ob).Perm (bk ar :: bk am :: bk ac :: bk ae :: bk af :: bk ah :: bk ag :: bk aa :: (a2 ++ (ap ++ (ad ++ (ab ++ []))))) := RP;have cg := b7.perm b1;have hk := (b7.spa ((b6.spa hb bz).sos bd b0) b1);have hl := (g8.k0 bd);have ef : ((bk ar :: bk am :: bk ac :: bk ae :: bk af :: bk ah :: bk ag :: bk aa :: (a2 ++ (ap ++ (ad ++ (ab ++ []))))) : Ob).Perm (bk am :: (ap ++ (bk ar :: bk ac :: bk ae :: bk af :: bk ah :: bk ag :: bk aa :: (a2 ++ (ad ++ (ab ++ [])))))) := RP;obtain ⟨hm, hn, kd⟩ := Dp.gv (L := (bk ar :: bk am :: bk ac :: bk ae :: bk af :: bk ah :: bk ag :: bk aa :: (a2 ++ (ap ++ (ad ++ (ab ++ [])))))) (O := O) (v := G am dd de) hk hl cg ef;have ho := (cg.odr (rs := bk am :: ap) (b7.spa hj b1) ef 0 Z);have hp := hh;have hq : ((bk ar :: bk ac :: bk ae :: bk af :: bk ah :: bk ag :: bk aa :: (a2 ++ (ad ++ (ab ++ [])))) : Ob).Perm (bk ar :: (a2 ++ (bk ac :: bk ae :: bk af :: bk ah :: bk ag :: bk aa :: (ad ++ (ab ++ []))))) := RP;obtain ⟨hr, hs, ht⟩ := Dp.gv (L := (bk ar :: bk ac :: bk ae :: bk af :: bk ah :: bk ag :: bk aa :: (a2 ++ (ad ++ (ab ++ []))))) (O := O) (v := G ar df dg) ho hp hn hq;refine Xs go18 (F54.calls H hs.ok (hm.st ht) hr) Z ?_;rintro _ eg ⟨r20, r21, ai, bo, bp, aj, ke, rfl, H, bq, hu, b8, hv, hw⟩;have hx := Ok.unl (L := (bk ar :: bk am :: bk ac :: bk ae :: bk af :: bk ah :: bk ag :: bk aa :: (a2 ++ (ap ++ (ad ++ (ab ++ [])))))) (L' := (bk ac :: bk ae :: bk af :: bk ah :: bk ag :: bk aa :: (ad ++ (ab ++ [])))) (O := O) cg bq hu b8;have hy := Ow.unl (L := (bk ar :: bk am :: bk ac :: bk ae :: bk af :: bk ah :: bk ag :: bk aa :: (a2 ++ (ap ++ (ad ++ (ab ++ [])))))) (L' := (bk ac :: bk ae :: bk af :: bk ah :: bk ag :: bk aa :: (ad ++ (ab ++ [])))) (O := O) (fun _ _ _ _ _ _ h => h) (.cons _ (.cons _ (.cons_cons _ (.cons_cons _ (.cons_cons _ (.cons_cons _ (.cons_cons _ (.cons_cons _ (List.sublist_append_of_sublist_right (List.sublist_append_of_sublist_right (.append (.refl _) (.append (.refl _) (.refl _))))))))))))) hv;have ch := cg.owns bq hx b8;have b9 : (((bk ai :: (aj ++ [])) ++ (bk ar :: bk am :: bk ac :: bk ae :: bk af :: bk ah :: bk ag :: bk aa :: (a2 ++ (ap ++ (ad ++ (ab ++ [])))))) : Ob).Perm (bk ai :: bk ar :: bk am :: bk ac :: bk ae :: bk af :: bk ah :: bk ag :: bk aa :: (aj ++ (a2 ++ (ap ++ (ad ++ (ab ++ [])))))) := RP;have ci := ch.perm b9;refine Xe (.tuple #[G ai bo bp, vb r21]) Z (Xa (Ze [G ai bo bp, vb r21] 0 (G ai bo bp) Z Z) (Xa (Ze [G ai bo bp, vb r21] 1 (vb r21) Z Z) (Xf (G ai bo bp) Z (Xf (vb r21) Z (Xb (Xc ?_))))));have ca : ((bk ai :: bk ar :: bk am :: bk ac :: bk ae :: bk af :: bk ah :: bk ag :: bk aa :: (aj ++ (a2 ++ (ap ++ (ad ++ (ab ++ [])))))) : Ob).Perm ((bk ar :: bk am :: bk ae :: bk af :: bk ah :: bk ag :: (a2 ++ (ap ++ []))) ++ (bk ai :: bk ac :: bk aa :: (aj ++ (ad ++ (ab ++ []))))) := RP;have dh := ci.drops ca;refine Xd (Xe (G aa ak al) Z ?_);have hz := (ci.odr (ch.spa ((b7.spa ((b6.spa ((b5.spa (((((((bh.sos a0 bj).sn a1).sos a9 br).sn au).sn a3).sn ba).sos bn bv) bw).sos bg bx) bz).sos bd b0) b1).sos bq b8) b9) ca 2 Z);have h0 := ((((((((((bi.k0 a0).k0 a1).k0 a9).k0 au).k0 a3).k0 ba).k0 bn).k0 bg).k0 bd).k0 bq);have h1 : ((bk ai :: bk ac :: bk aa :: (aj ++ (ad ++ (ab ++ [])))) : Ob).Perm (bk aa :: (ab ++ (bk ai :: bk ac :: (aj ++ (ad ++ []))))) := RP;obtain ⟨h2, h3, kf⟩ := Dp.gv (L := (bk ai :: bk ac :: bk aa :: (aj ++ (ad ++ (ab ++ []))))) (O := O) (v := G aa ak al) hz h0 dh h1;refine Xs go17 (F100.calls H h3.ok h2) Z ?_;rintro _ h4 ⟨r22, rfl, H, bt⟩;have cj := dh.k0 bt;refine Xe (vb r22) Z ?_;rcases X4 r22 with aw | aw
 ·have H := Xn H aw;refine Xh aw Z (Xe (G aa ak al) Z (Xh aw Z ?_));have h5 := ((ci.odr (ch.spa ((b7.spa ((b6.spa ((b5.spa (((((((bh.sos a0 bj).sn a1).sos a9 br).sn au).sn a3).sn ba).sos bn bv) bw).sos bg bx) bz).sos bd b0) b1).sos bq b8) b9) ca 2 Z).sn bt);have h6 := (((((((((((bi.k0 a0).k0 a1).k0 a9).k0 au).k0 a3).k0 ba).k0 bn).k0 bg).k0 bd).k0 bq).k0 bt);have h7 : ((bk ai :: bk ac :: bk aa :: (aj ++ (ad ++ (ab ++ [])))) : Ob).Perm (bk aa :: (ab ++ (bk ai :: bk ac :: (aj ++ (ad ++ []))))) := RP;obtain ⟨h8, h9, kg⟩ := Dp.gv (L := (bk ai :: bk ac :: bk aa :: (aj ++ (ad ++ (ab ++ []))))) (O := O) (v := G aa ak al) h5 h6 cj h7;refine Xs go11 (F47.calls H h9.ok h8) Z ?_;rintro _ eh ⟨r23, an, di, dk, aq, kh, rfl, H, b2, ia, ck, ib, ic⟩;have id := Ok.unl (L := (bk ai :: bk ac :: bk aa :: (aj ++ (ad ++ (ab ++ []))))) (L' := (bk ai :: bk ac :: (aj ++ (ad ++ [])))) (O := O) cj b2 ia ck;have ie := Ow.unl (L := (bk ai :: bk ac :: bk aa :: (aj ++ (ad ++ (ab ++ []))))) (L' := (bk ai :: bk ac :: (aj ++ (ad ++ [])))) (O := O) (fun _ _ _ _ _ _ h => h) (.cons_cons _ (.cons_cons _ (.cons _ (.append (.refl _) (.append (.refl _) (List.sublist_append_of_sublist_right (.refl _))))))) ib;have cw := cj.owns b2 id ck;have cl : (((bk an :: (aq ++ [])) ++ (bk ai :: bk ac :: bk aa :: (aj ++ (ad ++ (ab ++ []))))) : Ob).Perm (bk an :: bk ai :: bk ac :: bk aa :: (aq ++ (aj ++ (ad ++ (ab ++ []))))) := RP;have dl := cw.perm cl;refine Xh aw Z ?_;have ig := (cw.spa ie cl);have ih := ic;have ii : ((bk an :: bk ai :: bk ac :: bk aa :: (aq ++ (aj ++ (ad ++ (ab ++ []))))) : Ob).Perm (bk an :: (aq ++ (bk ai :: bk ac :: bk aa :: (aj ++ (ad ++ (ab ++ [])))))) := RP;obtain ⟨ij, ei, ki⟩ := Dp.gv (L := (bk an :: bk ai :: bk ac :: bk aa :: (aq ++ (aj ++ (ad ++ (ab ++ [])))))) (O := O) (v := G an di dk) ig ih dl ii;refine Xs go12 (F49.calls H ei.ok (hG.st ei.st) ij) Z ?_;rintro _ ik ⟨r24, rfl, H, cb, kj⟩;have dm := dl.k0 cb;refine Xh aw Z (Xe (G ao ay az) Z (Xh aw Z ?_));have il := cv.stn a1;have im := cd.stos a9 br;have io := c9.stn au;have ip := b3.stn a3;have iq := b4.stn ba;have ir := bs.stos bn bv;have it := St.spa (w := ec) (A := (bk ac :: (ad ++ []))) (L := (bk ae :: bk af :: bk ah :: bk ag :: bk aa :: (ab ++ []))) (O := O) bw;have iu := ce.stos bg bx;have iv := St.spa (w := ed) (A := (bk am :: (ap ++ []))) (L := (bk ac :: bk ae :: bk af :: bk ah :: bk ag :: bk aa :: (ad ++ (ab ++ [])))) (O := O) bz;have iw := cf.stos bd b0;have ix := St.spa (w := ee) (A := (bk ar :: (a2 ++ []))) (L := (bk am :: bk ac :: bk ae :: bk af :: bk ah :: bk ag :: bk aa :: (ap ++ (ad ++ (ab ++ []))))) (O := O) b1;have iy := cg.stos bq b8;have iz := St.spa (w := eg) (A := (bk ai :: (aj ++ []))) (L := (bk ar :: bk am :: bk ac :: bk ae :: bk af :: bk ah :: bk ag :: bk aa :: (a2 ++ (ap ++ (ad ++ (ab ++ [])))))) (O := O) b9;have i0 := dh.stn bt;have i1 := cj.stos b2 ck;have i2 := St.spa (w := eh) (A := (bk an :: (aq ++ []))) (L := (bk ai :: bk ac :: bk aa :: (aj ++ (ad ++ (ab ++ []))))) (O := O) cl;have i3 := dl.stn cb;have i4 := (((((((((((((((((((c4.st d3).st il).st im).st io).st ip).st iq).st ir).st it).st iu).st iv).st iw).st ix).st iy).st iz).st (St.drops _ O ca)).st i0).st i1).st i2).st i3);refine Xs go12 (F49.calls H dm.ok (hG.st dm.st) i4) Z ?_;rintro _ i5 ⟨r25, rfl, H, cm, kk⟩;have cc := dm.k0 cm;refine Xh aw Z (Xa (Yl r24 r25 (r24 == r25) Z Z Z) (Xa (Xk true (vb (r24 == r25)) aw Z) (Xe (vb (r24 == r25)) Z ?_)));rcases X4 (r24 == r25) with be | be
  ·have H := Xn H be;refine Xh be Z (Xe (vb r17) Z (Xh be Z (Xe (vb r21) Z (Xh be Z (Xa (Zp u4_ r17 r21 (r17 == r21) Z Z Z) (Xa (Xk true (vb (r17 == r21)) be Z) (Xe (vb (r17 == r21)) Z ?_)))))));rcases X4 (r17 == r21) with a4 | a4
   ·have H := Xn H a4;refine Xh a4 Z (Xe (vb r17) Z (Xh a4 Z (Xa (X7 r17 Z) (Xh a4 Z (Xe (vb (!r17)) Z ?_)))));rcases X4 (!r17) with ax | ax
    ·have H := Xn H ax;refine Xi ax Z (Xi ax Z (Xi ax Z (Xi ax Z (Xi ax Z (Xi ax Z (Xh a4 Z (Xa (Xk true (vb true) ax Z) (Xa (Xk true (vb true) a4 Z) ?_))))))));refine Xf (vb true) Z (Xb (Xm ?_));have i6 := cc.clear;exact ⟨[vb true], ⟨_, Z, Z⟩, true, Z, H, i6.gr.g0⟩
    have H := Xo H ax;refine Xh ax Z (Xe (G ac bl bm) Z (Xh ax Z ?_));have i7 := (((cw.spa (((ci.odr (ch.spa ((b7.spa ((b6.spa ((b5.spa g2 bw).sos bg bx) bz).sos bd b0) b1).sos bq b8) b9) ca 1 Z).sn bt).sos b2 ck) cl).sn cb).sn cm);have i8 := (((((((gz.k0 bg).k0 bd).k0 bq).k0 bt).k0 b2).k0 cb).k0 cm);have i9 : ((bk an :: bk ai :: bk ac :: bk aa :: (aq ++ (aj ++ (ad ++ (ab ++ []))))) : Ob).Perm (bk ac :: (ad ++ (bk an :: bk ai :: bk aa :: (aq ++ (aj ++ (ab ++ [])))))) := RP;obtain ⟨ja, jb, kl⟩ := Dp.gv (L := (bk an :: bk ai :: bk ac :: bk aa :: (aq ++ (aj ++ (ad ++ (ab ++ [])))))) (O := O) (v := G ac bl bm) i7 i8 cc i9;refine Xs go11 (F47.calls H jb.ok ja) Z ?_;rintro _ jc ⟨r26, bf, dn, dp, bu, km, rfl, H, cx, jd, dq, je, jf⟩;have jg := Ok.unl (L := (bk an :: bk ai :: bk ac :: bk aa :: (aq ++ (aj ++ (ad ++ (ab ++ [])))))) (L' := (bk an :: bk ai :: bk aa :: (aq ++ (aj ++ (ab ++ []))))) (O := O) cc cx jd dq;have jh := Ow.unl (L := (bk an :: bk ai :: bk ac :: bk aa :: (aq ++ (aj ++ (ad ++ (ab ++ [])))))) (L' := (bk an :: bk ai :: bk aa :: (aq ++ (aj ++ (ab ++ []))))) (O := O) (fun _ _ _ _ _ _ h => h) (.cons_cons _ (.cons_cons _ (.cons _ (.cons_cons _ (.append (.refl _) (.append (.refl _) (List.sublist_append_of_sublist_right (.append (.refl _) (.refl _))))))))) je;have dr := cc.owns cx jg dq;have ds : (((bk bf :: (bu ++ [])) ++ (bk an :: bk ai :: bk ac :: bk aa :: (aq ++ (aj ++ (ad ++ (ab ++ [])))))) : Ob).Perm (bk bf :: bk an :: bk ai :: bk ac :: bk aa :: (bu ++ (aq ++ (aj ++ (ad ++ (ab ++ [])))))) := RP;have ej := dr.perm ds;refine Xh ax Z ?_;have ji := (dr.spa jh ds);have jj := jf;have jk : ((bk bf :: bk an :: bk ai :: bk ac :: bk aa :: (bu ++ (aq ++ (aj ++ (ad ++ (ab ++ [])))))) : Ob).Perm (bk bf :: (bu ++ (bk an :: bk ai :: bk ac :: bk aa :: (aq ++ (aj ++ (ad ++ (ab ++ []))))))) := RP;obtain ⟨jl, ek, kn⟩ := Dp.gv (L := (bk bf :: bk an :: bk ai :: bk ac :: bk aa :: (bu ++ (aq ++ (aj ++ (ad ++ (ab ++ []))))))) (O := O) (v := G bf dn dp) ji jj ej jk;refine Xs go12 (F49.calls H ek.ok (hG.st ek.st) jl) Z ?_;rintro _ jm ⟨r27, rfl, H, dt, ko⟩;have el := ej.k0 dt;refine Xh ax Z (Xe (G ai bo bp) Z (Xh ax Z ?_));have jn := ((dr.spa ((((cw.spa (((ci.odr (ch.spa hy b9) ca 0 Z).sn bt).sos b2 ck) cl).sn cb).sn cm).sos cx dq) ds).sn dt);have jo := ((((((hw.k0 bt).k0 b2).k0 cb).k0 cm).k0 cx).k0 dt);have jp : ((bk bf :: bk an :: bk ai :: bk ac :: bk aa :: (bu ++ (aq ++ (aj ++ (ad ++ (ab ++ [])))))) : Ob).Perm (bk ai :: (aj ++ (bk bf :: bk an :: bk ac :: bk aa :: (bu ++ (aq ++ (ad ++ (ab ++ []))))))) := RP;obtain ⟨jq, em, kp⟩ := Dp.gv (L := (bk bf :: bk an :: bk ai :: bk ac :: bk aa :: (bu ++ (aq ++ (aj ++ (ad ++ (ab ++ []))))))) (O := O) (v := G ai bo bp) jn jo el jp;refine Xs go12 (F49.calls H em.ok (hG.st em.st) jq) Z ?_;rintro _ kq ⟨r28, rfl, H, jr, kr⟩;have js := el.k0 jr;refine Xh ax Z (Xa (Yl r27 r28 (r27 == r28) Z Z Z) (Xh a4 Z (Xa (Xk false (vb (r27 == r28)) ax Z) (Xa (Xk true (vb (r27 == r28)) a4 Z) (Xf (vb (r27 == r28)) Z (Xb (Xm ?_)))))));have jt := js.clear;exact ⟨[vb (r27 == r28)], ⟨_, Z, Z⟩, r27 == r28, Z, H, jt.gr.g0⟩
   have H := Xo H a4;refine Xi a4 Z (Xi a4 Z (Xi a4 Z (Xq Z (Xq Z (Xq Z (Xq Z (Xq Z (Xq Z ?_))))))));refine Xi a4 Z (Xa (Xk false (vb false) a4 Z) (Xf (vb false) Z (Xb (Xm ?_))));have ju := cc.clear;exact ⟨[vb false], ⟨_, Z, Z⟩, false, Z, H, ju.gr.g0⟩
  have H := Xo H be;refine Xi be Z (Xi be Z (Xi be Z (Xa (Xk false (vb false) be Z) (Xe (vb false) Z (X5 (dj := 87) Z Z (.inl Z) (X5 (dj := 87) Z Z (.inl Z) (X5 (dj := 87) Z Z (.inl Z) (Xq Z ?_))))))));refine Xq Z (Xq Z (Xq Z (Xq Z (Xq Z (X5 (dj := 87) Z Z (.inl Z) (Xa (Xk false (vb false) Z Z) (Xf (vb false) Z (Xb ?_))))))));refine Xm ?_;have jv := cc.clear;exact ⟨[vb false], ⟨_, Z, Z⟩, false, Z, H, jv.gr.g0⟩
 have H := Xo H aw;refine Xi aw Z (Xi aw Z (Xi aw Z (Xi aw Z (Xi aw Z (Xi aw Z (Xa (Xk false (vb false) aw Z) (Xe (vb false) Z (X5 (dj := 82) Z Z (.inl Z) ?_))))))));refine X5 (dj := 82) Z Z (.inl Z) (X5 (dj := 82) Z Z (.inl Z) (Xa (Xk false (vb false) Z Z) (Xe (vb false) Z (X5 (dj := 87) Z Z (.inl Z) (X5 (dj := 87) Z Z (.inl Z) (X5 (dj := 87) Z Z (.inl Z) (Xq Z (Xq Z ?_))))))));refine Xq Z (Xq Z (Xq Z (Xq Z (X5 (dj := 87) Z Z (.inl Z) (Xa (Xk false (vb false) Z Z) (Xf (vb false) Z (Xb (Xm ?_))))))));have jw := cj.clear;exact ⟨[vb false], ⟨_, Z, Z⟩, false, Z, H, jw.gr.g0⟩
end Go.Proofs.YtlaaehjcooonfaaGreatDoor