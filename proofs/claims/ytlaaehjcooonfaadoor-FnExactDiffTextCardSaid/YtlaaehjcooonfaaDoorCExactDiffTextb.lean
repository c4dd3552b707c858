/- It is proved here that the law FnExactDiffText of the given program holds whatever it is handed: the walks through the code, the plain laws and the row, in this order.
   Conditions: none. -/
import Derived.Below
import Derived.ChangeArms
import Derived.ChangeOld
import Derived.ChangeSlices
import Derived.ChangeVars
import Derived.DataReads
import Derived.Deep.Quiet
import Derived.KernelRfl
import Derived.LaidHandle
import Derived.LaidLaws
import Derived.LaidMore
import Derived.Laws.Build
import Derived.Laws.IdiomStrings
import Derived.Laws.OwnMore
import Derived.Laws.Slices
import Derived.Laws.StructEq
import Derived.Lib.ItoaNum
import Derived.Lib.LaidTab
import Derived.MakeChecks
import Derived.OpenShut
import Derived.OpenVars
import Derived.ProofKit
import Derived.SevenTiedAt
import Derived.Shelf.LaysM
import Derived.Shelf.Slices.CompactS
import Derived.Shelf.Sort.Plain
import Derived.Shelf.Strconv.Itoa0
import Derived.Shelf.Strconv.Itoa1
import Derived.Shelf.Strconv.Itoa2
import Derived.Shelf.Strconv.Itoa3
import Derived.ShutString
import Derived.SizedLaws
import Derived.StillTail
import Derived.Stop.Joined
import Derived.Test.YtlaaehjcooonfaaDoorCards
import Derived.Test.YtlaaehjcooonfaaDoorProg
import Derived.Test.YtlaaehjcooonfaaDoorRows
import Derived.Test.YtlaaehjcooonfaaDoorTie
import Derived.WalkKit
import Derived.Test.YtlaaehjcooonfaaDoorCExactDiffTexta
namespace Go.Proofs.YtlaaehjcooonfaaDoor
set_option linter.unusedVariables false
set_option linter.unusedSimpArgs false
set_option linter.unusedSectionVars false
set_option maxHeartbeats 8000000
set_option maxRecDepth 100000
open Go.RowKit
variable {O : Ob} {w0 : World}
def F74.E (c_ : Change) (Q : Bool → Prop) : Prop :=
 F41.E c_.Id (fun r => (if !r then Q false else (if !c_.Had then (if !c_.Has then Q false else (if c_.Had then (if c_.Has then F19.E c_.Was c_.Now (fun r2 => (if r2 then Q false else F19.E c_.Was (⟨[], (⟨0, []⟩ : Shape), []⟩ : Feat) (fun r3 => (if !r3 then Q false else F45.E c_.Now (fun r4 => (if r4 then Q (c_.Now.Id == c_.Id) else Q false)))))) else F19.E c_.Was (⟨[], (⟨0, []⟩ : Shape), []⟩ : Feat) (fun r5 => (if !r5 then Q false else F45.E c_.Now (fun r6 => (if r6 then Q (c_.Now.Id == c_.Id) else Q false))))) else F19.E c_.Was (⟨[], (⟨0, []⟩ : Shape), []⟩ : Feat) (fun r7 => (if !r7 then Q false else F45.E c_.Now (fun r8 => (if r8 then Q (c_.Now.Id == c_.Id) else Q false)))))) else (if c_.Had then (if c_.Has then F19.E c_.Was c_.Now (fun r9 => (if r9 then Q false else (if !c_.Has then F19.E c_.Now (⟨[], (⟨0, []⟩ : Shape), []⟩ : Feat) (fun r10 => (if !r10 then Q false else F45.E c_.Was (fun r11 => (if r11 then (if c_.Was.Id == c_.Id then Q true else Q false) else Q false)))) else F45.E c_.Was (fun r12 => (if r12 then (if c_.Was.Id == c_.Id then F45.E c_.Now (fun r13 => (if r13 then Q (c_.Now.Id == c_.Id) else Q false)) else Q false) else Q false))))) else (if !c_.Has then F19.E c_.Now (⟨[], (⟨0, []⟩ : Shape), []⟩ : Feat) (fun r14 => (if !r14 then Q false else F45.E c_.Was (fun r15 => (if r15 then (if c_.Was.Id == c_.Id then Q true else Q false) else Q false)))) else F45.E c_.Was (fun r16 => (if r16 then (if c_.Was.Id == c_.Id then F45.E c_.Now (fun r17 => (if r17 then Q (c_.Now.Id == c_.Id) else Q false)) else Q false) else Q false)))) else (if !c_.Has then F19.E c_.Now (⟨[], (⟨0, []⟩ : Shape), []⟩ : Feat) (fun r18 => (if !r18 then Q false else F45.E c_.Was (fun r19 => (if r19 then (if c_.Was.Id == c_.Id then Q true else Q false) else Q false)))) else F45.E c_.Was (fun r20 => (if r20 then (if c_.Was.Id == c_.Id then F45.E c_.Now (fun r21 => (if r21 then Q (c_.Now.Id == c_.Id) else Q false)) else Q false) else Q false)))))))
theorem F74.calls {c_ : Change} {A3 : Option Addr} {n4 c5 : Nat} {A8 : Option Addr} {n9 ae : Nat} {af : Option Addr} {ag ah : Nat} {ai : Option Addr} {aj ak : Nat} {Q : Bool → Prop} (H : F74.E c_ Q) (hO : Ok w0 O) (hs1 : Lim c_.Id) (hs2 : Lim c_.Was.Id) (hp6 : Sl kPt w0 (Fr O) (G A3 n4 c5) c_.Was.Shape.Pts) (bf : Sl kTag w0 (Fr O) (G A8 n9 ae) c_.Was.Tags) (bg : Lim c_.Now.Id) (bh : Sl kPt w0 (Fr O) (G af ag ah) c_.Now.Shape.Pts) (bi : Sl kTag w0 (Fr O) (G ai aj ak) c_.Now.Tags) :
  Ret Tryd.prog 23 [.agg #[vs c_.Id, vb c_.Had, vs c_.Was.Id, vi c_.Was.Shape.Kind, G A3 n4 c5, G A8 n9 ae, vb c_.Has, vs c_.Now.Id, vi c_.Now.Shape.Kind, G af ag ah, G ai aj ak]] w0 (fun v w' => ∃ (r0 : Bool), v = vb r0 ∧ Q r0 ∧ Gr w0 w' none) := by
 unfold F74.E at H;have hc0 := Ct.init hO;refine X3 Tryd.func23 Z 88 Z [.tmp 2] Z Z ?_;refine Xb (Xd (Ya [vs c_.Id, vb c_.Had, vs c_.Was.Id, vi c_.Was.Shape.Kind, G A3 n4 c5, G A8 n9 ae, vb c_.Has, vs c_.Now.Id, vi c_.Now.Shape.Kind, G af ag ah, G ai aj ak] Z fun dn aa dp hu28 dq dr => ?_));have cm := Fb.mk hc0.ok dp dr;have b6 := hc0.k0 dq;refine Xf (vb false) Z (Xc (Xb (Xb (Xd (Xa (Xj fa39_0 (Ad aa 0) (Ad aa 0) Z Z) (Xa (Xn ag9 cL (Ad aa 0) (vs c_.Id) Z (cm.cell Z)) ?_))))));refine X0 go39 (F41.calls H b6.ok hs1) Z ?_;rintro _ bn ⟨r, rfl, H, cn⟩;have ad := b6.k0 cn;refine Xa (X1 r Z) (Xg (vb (!r)) Z ?_);rcases Xz (!r) with ap | ap
 ·have H := Xo H ap;refine Xh ap Z (Xh ap Z (Xh ap Z (Xh ap Z (Xm Z (Xm Z (Xm Z (Xh ap Z (Xa (Xk true (vb true) ap Z) ?_))))))));refine Xg (vb true) Z (Xy (dj := 17) Z Z (.inl Z) (Xy (dj := 17) Z Z (.inl Z) (Xy (dj := 17) Z Z (.inl Z) (Xm Z (Xm Z (Xy (dj := 17) Z Z (.inl Z) (Xy (dj := 17) Z Z (.inl Z) (Xm Z ?_))))))));refine Xm Z (Xm Z (Xm Z (Xm Z (Xy (dj := 17) Z Z (.inl Z) (Xa (Xk true (vb true) Z Z) (Xc (Yi (b := true) Z Z ?_)))))));exact Xb (Xd (Xf (vb false) Z (Xc (Xl ⟨[vb false], ⟨_, Z, Z⟩, false, Z, H, ad.gr.g0⟩))))
 have H := Xp H ap;refine Xe ap Z (Xa (Xj fa39_1 (Ad aa 0) (Ad aa 1) Z Z) (Xe ap Z ?_));have ds := b6.stn cn;have al := (cm.st ds);refine Xa (Xn ag4 cL (Ad aa 1) (vb c_.Had) Z (al.cell Z)) (Xe ap Z (Xa (X1 c_.Had Z) (Xe ap Z (Xg (vb (!c_.Had)) Z ?_))));rcases Xz (!c_.Had) with ab | ab
 ·have H := Xo H ab;refine Xe ab Z (Xa (Xj fa39_3 (Ad aa 0) (Ad aa 6) Z Z) (Xe ab Z (Xa (Xn ag4 cL (Ad aa 6) (vb c_.Has) Z (al.cell Z)) (Xe ab Z (Xa (X1 c_.Has Z) (Xe ap Z (Xa (Xk true (vb (!c_.Has)) ab Z) (Xa (Xk false (vb (!c_.Has)) ap Z) ?_))))))));refine Xg (vb (!c_.Has)) Z ?_;rcases Xz (!c_.Has) with ac | ac
  ·have H := Xo H ac;refine Xh ac Z (Xh ac Z (Xh ac Z (Xm Z (Xm Z (Xh ac Z (Xh ac Z (Xm Z (Xm Z ?_))))))));refine Xm Z (Xm Z (Xm Z (Xh ac Z (Xa (Xk true (vb true) ac Z) (Xc (Yi (b := true) Z Z ?_))))));exact Xb (Xd (Xf (vb false) Z (Xc (Xl ⟨[vb false], ⟨_, Z, Z⟩, false, Z, H, ad.gr.g0⟩))))
  have H := Xp H ac;refine Xe ac Z (Xa (Xj fa39_1 (Ad aa 0) (Ad aa 1) Z Z) (Xe ac Z (Xa (Xn ag4 cL (Ad aa 1) (vb c_.Had) Z (al.cell Z)) (Xe ac Z (Xg (vb c_.Had) Z ?_)))));rcases Xz c_.Had with bl | bl
  ·have H := Xo H bl;refine Xe bl Z (Xa (Xj fa39_3 (Ad aa 0) (Ad aa 6) Z Z) (Xe bl Z (Xa (Xn ag4 cL (Ad aa 6) (vb c_.Has) Z (al.cell Z)) (Xe ac Z (Xa (Xk true (vb c_.Has) bl Z) (Xe ac Z (Xg (vb c_.Has) Z ?_)))))));rcases Xz c_.Has with a7 | a7
   ·have H := Xo H a7;refine Xe a7 Z (Xa (Xj fa39_2 (Ad aa 0) (Ad aa 2) Z Z) (Xe a7 Z (Xa (Xv ag37 sz37 cL (Ad aa 2) [vs c_.Was.Id, vi c_.Was.Shape.Kind, G A3 n4 c5, G A8 n9 ae] Z Z (al.cells (off := 2) Z)) (Xe a7 Z (Xa (Xj fa39_4 (Ad aa 0) (Ad aa 7) Z Z) (Xe a7 Z (Xa (Xv ag37 sz37 cL (Ad aa 7) [vs c_.Now.Id, vi c_.Now.Shape.Kind, G af ag ah, G ai aj ak] Z Z (al.cells (off := 7) Z)) (Xe a7 Z ?_))))))));refine X0 go40 (F19.calls H ad.ok hs2 (hp6.st ad.st) (bf.st ad.st) bg (bh.st ad.st) (bi.st ad.st)) Z ?_;rintro _ dt ⟨r2, rfl, H, co⟩;have bs := ad.k0 co;refine Xe ac Z (Xa (Xk true (vb r2) a7 Z) (Xa (Xk false (vb r2) ac Z) (Xc ?_)));refine Xu r2 Z (fun b7 => ?_) (fun b7 => ?_)
    ·have H := Xo H b7;exact Xb (Xd (Xf (vb false) Z (Xc (Xl ⟨[vb false], ⟨_, Z, Z⟩, false, Z, H, bs.gr.g0⟩))))
    have H := Xp H b7;refine Xt (Xb (Xb (Xd (Xa (Xj fa39_1 (Ad aa 0) (Ad aa 1) Z Z) ?_))));have du := ad.stn co;have b8 := (al.st du);refine Xa (Xn ag4 cL (Ad aa 1) (vb c_.Had) Z (b8.cell Z)) (Xa (X1 c_.Had Z) (Xg (vb (!c_.Had)) Z (Xe ab Z (Xa (Xj fa39_2 (Ad aa 0) (Ad aa 2) Z Z) (Xe ab Z (Xa (Xv ag37 sz37 cL (Ad aa 2) [vs c_.Was.Id, vi c_.Was.Shape.Kind, G A3 n4 c5, G A8 n9 ae] Z Z (b8.cells (off := 2) Z)) (Xe ab Z (Xa (Yy (.agg #[vs [], vi 0, G none 0 0, G none 0 0]) RF) ?_))))))));refine Xe ab Z ?_;refine X0 go40 (F19.calls H bs.ok hs2 (hp6.st bs.st) (bf.st bs.st) RD (Sl.nil _ _ _ none 0 RD) (Sl.nil _ _ _ none 0 RD)) Z ?_;rintro _ dv ⟨r3, rfl, H, cp⟩;have bt := bs.k0 cp;refine Xe ab Z (Xa (X1 r3 Z) (Xa (Xk true (vb (!r3)) ab Z) (Xg (vb (!r3)) Z ?_)));rcases Xz (!r3) with a8 | a8
    ·have H := Xo H a8;refine Xh a8 Z (Xh a8 Z (Xh a8 Z (Xh a8 Z (Xm Z (Xm Z (Xm Z (Xm Z (Xm Z ?_))))))));refine Xh a8 Z (Xa (Xk true (vb true) a8 Z) (Xc (Yi (b := true) Z Z ?_)));exact Xb (Xd (Xf (vb false) Z (Xc (Xl ⟨[vb false], ⟨_, Z, Z⟩, false, Z, H, bt.gr.g0⟩))))
    have H := Xp H a8;refine Xe a8 Z (Xa (Xj fa39_3 (Ad aa 0) (Ad aa 6) Z Z) (Xe a8 Z ?_));have dw := bs.stn cp;have b0 := (b8.st dw);refine Xa (Xn ag4 cL (Ad aa 6) (vb c_.Has) Z (b0.cell Z)) (Xe a8 Z (Xa (X1 c_.Has Z) (Xe a8 Z (Xg (vb (!c_.Has)) Z (Xh ac Z (Xh ac Z (Xh ac Z (Xh ac Z ?_))))))));refine Xh ac Z (Xe a8 Z (Xa (Xk false (vb false) ac Z) (Xa (Xk false (vb false) a8 Z) (Xc (Yo (b := false) Z Z ?_)))));refine Xt (Xb (Xd (Xa (Xj fa39_1 (Ad aa 0) (Ad aa 1) Z Z) (Xa (Xn ag4 cL (Ad aa 1) (vb c_.Had) Z (b0.cell Z)) (Xa (X1 c_.Had Z) (Xg (vb (!c_.Had)) Z (Xh ab Z (Xh ab Z ?_))))))));refine Xh ab Z (Xh ab Z (Xm Z (Xm Z (Xm Z (Xm Z (Xm Z (Xm Z (Xh ab Z ?_))))))));refine Xa (Xk true (vb true) ab Z) (Xg (vb true) Z (X7 (dj := 70) Z Z Z (Xa (Xj fa39_3 (Ad aa 0) (Ad aa 6) Z Z) (X7 (dj := 70) Z Z Z (Xa (Xn ag4 cL (Ad aa 6) (vb c_.Has) Z (b0.cell Z)) (X7 (dj := 70) Z Z Z (Xa (X1 c_.Has Z) (X7 (dj := 70) Z Z Z ?_))))))));refine Xg (vb (!c_.Has)) Z (Xe ac Z (Xa (Xj fa39_4 (Ad aa 0) (Ad aa 7) Z Z) (Xe ac Z (Xa (Xv ag37 sz37 cL (Ad aa 7) [vs c_.Now.Id, vi c_.Now.Shape.Kind, G af ag ah, G ai aj ak] Z Z (b0.cells (off := 7) Z)) (Xe ac Z ?_)))));refine X0 go41 (F45.calls H bt.ok bg (bh.st bt.st) (bi.st bt.st)) Z ?_;rintro _ en ⟨r4, rfl, H, cq⟩;have cr := bt.k0 cq;refine Xe ac Z (Xg (vb r4) Z ?_);rcases Xz r4 with aq | aq
    ·have H := Xo H aq;refine Xe aq Z (Xa (Xj fa39_4 (Ad aa 0) (Ad aa 7) Z Z) (Xe aq Z (Xa (Xj fa37_0 (Ad aa 7) (Ad aa 7) Z Z) (Xe aq Z ?_))));have dx := bt.stn cq;have cs := (b0.st dx);refine Xa (Xn ag9 cL (Ad aa 7) (vs c_.Now.Id) Z (cs.cell Z)) (Xe aq Z (Xa (Xj fa39_0 (Ad aa 0) (Ad aa 0) Z Z) (Xe aq Z (Xa (Xn ag9 cL (Ad aa 0) (vs c_.Id) Z (cs.cell Z)) (Xe aq Z (Xa (Yg c_.Now.Id c_.Id (c_.Now.Id == c_.Id) Z Z Z) (Xe ac Z (Xa (Xk true (vb (c_.Now.Id == c_.Id)) aq Z) ?_))))))));exact X7 (dj := 70) Z Z Z (Xa (Xk false (vb (c_.Now.Id == c_.Id)) ac Z) (Xa (Xk true (vb (c_.Now.Id == c_.Id)) Z Z) (Xf (vb (c_.Now.Id == c_.Id)) Z (Xc (Xl ⟨[vb (c_.Now.Id == c_.Id)], ⟨_, Z, Z⟩, c_.Now.Id == c_.Id, Z, H, cr.gr.g0⟩)))))
    have H := Xp H aq;refine Xh aq Z (Xh aq Z (Xh aq Z (Xh aq Z (Xh aq Z (Xh aq Z (Xe ac Z (Xa (Xk false (vb false) aq Z) (X7 (dj := 70) Z Z Z ?_))))))));exact Xa (Xk false (vb false) ac Z) (Xa (Xk true (vb false) Z Z) (Xf (vb false) Z (Xc (Xl ⟨[vb false], ⟨_, Z, Z⟩, false, Z, H, cr.gr.g0⟩))))
   have H := Xp H a7;refine Xh a7 Z (Xh a7 Z (Xh a7 Z (Xh a7 Z (Xh a7 Z (Xe ac Z (Xa (Xk false (vb false) a7 Z) (Xa (Xk false (vb false) ac Z) (Xc ?_))))))));refine Yo (b := false) Z Z ?_;refine Xt (Xb (Xb (Xd (Xa (Xj fa39_1 (Ad aa 0) (Ad aa 1) Z Z) (Xa (Xn ag4 cL (Ad aa 1) (vb c_.Had) Z (al.cell Z)) (Xa (X1 c_.Had Z) (Xg (vb (!c_.Had)) Z (Xe ab Z ?_))))))));refine Xa (Xj fa39_2 (Ad aa 0) (Ad aa 2) Z Z) (Xe ab Z (Xa (Xv ag37 sz37 cL (Ad aa 2) [vs c_.Was.Id, vi c_.Was.Shape.Kind, G A3 n4 c5, G A8 n9 ae] Z Z (al.cells (off := 2) Z)) (Xe ab Z (Xa (Yy (.agg #[vs [], vi 0, G none 0 0, G none 0 0]) RF) (Xe ab Z ?_)))));refine X0 go40 (F19.calls H ad.ok hs2 (hp6.st ad.st) (bf.st ad.st) RD (Sl.nil _ _ _ none 0 RD) (Sl.nil _ _ _ none 0 RD)) Z ?_;rintro _ dy ⟨r5, rfl, H, ct⟩;have bu := ad.k0 ct;refine Xe ab Z (Xa (X1 r5 Z) (Xa (Xk true (vb (!r5)) ab Z) (Xg (vb (!r5)) Z ?_)));rcases Xz (!r5) with a9 | a9
   ·have H := Xo H a9;refine Xh a9 Z (Xh a9 Z (Xh a9 Z (Xh a9 Z (Xm Z (Xm Z (Xm Z (Xm Z (Xm Z ?_))))))));refine Xh a9 Z (Xa (Xk true (vb true) a9 Z) (Xc (Yi (b := true) Z Z ?_)));exact Xb (Xd (Xf (vb false) Z (Xc (Xl ⟨[vb false], ⟨_, Z, Z⟩, false, Z, H, bu.gr.g0⟩))))
   have H := Xp H a9;refine Xe a9 Z (Xa (Xj fa39_3 (Ad aa 0) (Ad aa 6) Z Z) (Xe a9 Z ?_));have dz := ad.stn ct;have b1 := (al.st dz);refine Xa (Xn ag4 cL (Ad aa 6) (vb c_.Has) Z (b1.cell Z)) (Xe a9 Z (Xa (X1 c_.Has Z) (Xe a9 Z (Xg (vb (!c_.Has)) Z (Xh ac Z (Xh ac Z (Xh ac Z (Xh ac Z ?_))))))));refine Xh ac Z (Xe a9 Z (Xa (Xk false (vb false) ac Z) (Xa (Xk false (vb false) a9 Z) (Xc (Yo (b := false) Z Z ?_)))));refine Xt (Xb (Xd (Xa (Xj fa39_1 (Ad aa 0) (Ad aa 1) Z Z) (Xa (Xn ag4 cL (Ad aa 1) (vb c_.Had) Z (b1.cell Z)) (Xa (X1 c_.Had Z) (Xg (vb (!c_.Had)) Z (Xh ab Z (Xh ab Z ?_))))))));refine Xh ab Z (Xh ab Z (Xm Z (Xm Z (Xm Z (Xm Z (Xm Z (Xm Z (Xh ab Z ?_))))))));refine Xa (Xk true (vb true) ab Z) (Xg (vb true) Z (X7 (dj := 70) Z Z Z (Xa (Xj fa39_3 (Ad aa 0) (Ad aa 6) Z Z) (X7 (dj := 70) Z Z Z (Xa (Xn ag4 cL (Ad aa 6) (vb c_.Has) Z (b1.cell Z)) (X7 (dj := 70) Z Z Z (Xa (X1 c_.Has Z) (X7 (dj := 70) Z Z Z ?_))))))));refine Xg (vb (!c_.Has)) Z (Xe ac Z (Xa (Xj fa39_4 (Ad aa 0) (Ad aa 7) Z Z) (Xe ac Z (Xa (Xv ag37 sz37 cL (Ad aa 7) [vs c_.Now.Id, vi c_.Now.Shape.Kind, G af ag ah, G ai aj ak] Z Z (b1.cells (off := 7) Z)) (Xe ac Z ?_)))));refine X0 go41 (F45.calls H bu.ok bg (bh.st bu.st) (bi.st bu.st)) Z ?_;rintro _ eo ⟨r6, rfl, H, cu⟩;have cv := bu.k0 cu;refine Xe ac Z (Xg (vb r6) Z ?_);rcases Xz r6 with ar | ar
   ·have H := Xo H ar;refine Xe ar Z (Xa (Xj fa39_4 (Ad aa 0) (Ad aa 7) Z Z) (Xe ar Z (Xa (Xj fa37_0 (Ad aa 7) (Ad aa 7) Z Z) (Xe ar Z ?_))));have d0 := bu.stn cu;have cw := (b1.st d0);refine Xa (Xn ag9 cL (Ad aa 7) (vs c_.Now.Id) Z (cw.cell Z)) (Xe ar Z (Xa (Xj fa39_0 (Ad aa 0) (Ad aa 0) Z Z) (Xe ar Z (Xa (Xn ag9 cL (Ad aa 0) (vs c_.Id) Z (cw.cell Z)) (Xe ar Z (Xa (Yg c_.Now.Id c_.Id (c_.Now.Id == c_.Id) Z Z Z) (Xe ac Z (Xa (Xk true (vb (c_.Now.Id == c_.Id)) ar Z) ?_))))))));exact X7 (dj := 70) Z Z Z (Xa (Xk false (vb (c_.Now.Id == c_.Id)) ac Z) (Xa (Xk true (vb (c_.Now.Id == c_.Id)) Z Z) (Xf (vb (c_.Now.Id == c_.Id)) Z (Xc (Xl ⟨[vb (c_.Now.Id == c_.Id)], ⟨_, Z, Z⟩, c_.Now.Id == c_.Id, Z, H, cv.gr.g0⟩)))))
   have H := Xp H ar;refine Xh ar Z (Xh ar Z (Xh ar Z (Xh ar Z (Xh ar Z (Xh ar Z (Xe ac Z (Xa (Xk false (vb false) ar Z) (X7 (dj := 70) Z Z Z ?_))))))));exact Xa (Xk false (vb false) ac Z) (Xa (Xk true (vb false) Z Z) (Xf (vb false) Z (Xc (Xl ⟨[vb false], ⟨_, Z, Z⟩, false, Z, H, cv.gr.g0⟩))))
  have H := Xp H bl;refine Xh bl Z (Xh bl Z (Xe ac Z (Xa (Xk false (vb false) bl Z) (Xe ac Z (Xg (vb false) Z (Xy (dj := 24) Z Z (.inl Z) (Xy (dj := 24) Z Z (.inl Z) (Xy (dj := 24) Z Z (.inl Z) ?_))))))));refine Xy (dj := 24) Z Z (.inl Z) (Xy (dj := 24) Z Z (.inl Z) (Xe ac Z (Xa (Xk false (vb false) Z Z) (Xa (Xk false (vb false) ac Z) (Xc (Yo (b := false) Z Z ?_))))));refine Xt (Xb (Xb (Xd (Xa (Xj fa39_1 (Ad aa 0) (Ad aa 1) Z Z) (Xa (Xn ag4 cL (Ad aa 1) (vb c_.Had) Z (al.cell Z)) (Xa (X1 c_.Had Z) (Xg (vb (!c_.Had)) Z (Xe ab Z ?_))))))));refine Xa (Xj fa39_2 (Ad aa 0) (Ad aa 2) Z Z) (Xe ab Z (Xa (Xv ag37 sz37 cL (Ad aa 2) [vs c_.Was.Id, vi c_.Was.Shape.Kind, G A3 n4 c5, G A8 n9 ae] Z Z (al.cells (off := 2) Z)) (Xe ab Z (Xa (Yy (.agg #[vs [], vi 0, G none 0 0, G none 0 0]) RF) (Xe ab Z ?_)))));refine X0 go40 (F19.calls H ad.ok hs2 (hp6.st ad.st) (bf.st ad.st) RD (Sl.nil _ _ _ none 0 RD) (Sl.nil _ _ _ none 0 RD)) Z ?_;rintro _ d1 ⟨r7, rfl, H, cx⟩;have bv := ad.k0 cx;refine Xe ab Z (Xa (X1 r7 Z) (Xa (Xk true (vb (!r7)) ab Z) (Xg (vb (!r7)) Z ?_)));rcases Xz (!r7) with ba | ba
  ·have H := Xo H ba;refine Xh ba Z (Xh ba Z (Xh ba Z (Xh ba Z (Xm Z (Xm Z (Xm Z (Xm Z (Xm Z ?_))))))));refine Xh ba Z (Xa (Xk true (vb true) ba Z) (Xc (Yi (b := true) Z Z ?_)));exact Xb (Xd (Xf (vb false) Z (Xc (Xl ⟨[vb false], ⟨_, Z, Z⟩, false, Z, H, bv.gr.g0⟩))))
  have H := Xp H ba;refine Xe ba Z (Xa (Xj fa39_3 (Ad aa 0) (Ad aa 6) Z Z) (Xe ba Z ?_));have d2 := ad.stn cx;have b2 := (al.st d2);refine Xa (Xn ag4 cL (Ad aa 6) (vb c_.Has) Z (b2.cell Z)) (Xe ba Z (Xa (X1 c_.Has Z) (Xe ba Z (Xg (vb (!c_.Has)) Z (Xh ac Z (Xh ac Z (Xh ac Z (Xh ac Z ?_))))))));refine Xh ac Z (Xe ba Z (Xa (Xk false (vb false) ac Z) (Xa (Xk false (vb false) ba Z) (Xc (Yo (b := false) Z Z ?_)))));refine Xt (Xb (Xd (Xa (Xj fa39_1 (Ad aa 0) (Ad aa 1) Z Z) (Xa (Xn ag4 cL (Ad aa 1) (vb c_.Had) Z (b2.cell Z)) (Xa (X1 c_.Had Z) (Xg (vb (!c_.Had)) Z (Xh ab Z (Xh ab Z ?_))))))));refine Xh ab Z (Xh ab Z (Xm Z (Xm Z (Xm Z (Xm Z (Xm Z (Xm Z (Xh ab Z ?_))))))));refine Xa (Xk true (vb true) ab Z) (Xg (vb true) Z (X7 (dj := 70) Z Z Z (Xa (Xj fa39_3 (Ad aa 0) (Ad aa 6) Z Z) (X7 (dj := 70) Z Z Z (Xa (Xn ag4 cL (Ad aa 6) (vb c_.Has) Z (b2.cell Z)) (X7 (dj := 70) Z Z Z (Xa (X1 c_.Has Z) (X7 (dj := 70) Z Z Z ?_))))))));refine Xg (vb (!c_.Has)) Z (Xe ac Z (Xa (Xj fa39_4 (Ad aa 0) (Ad aa 7) Z Z) (Xe ac Z (Xa (Xv ag37 sz37 cL (Ad aa 7) [vs c_.Now.Id, vi c_.Now.Shape.Kind, G af ag ah, G ai aj ak] Z Z (b2.cells (off := 7) Z)) (Xe ac Z ?_)))));refine X0 go41 (F45.calls H bv.ok bg (bh.st bv.st) (bi.st bv.st)) Z ?_;rintro _ ep ⟨r8, rfl, H, cy⟩;have cz := bv.k0 cy;refine Xe ac Z (Xg (vb r8) Z ?_);rcases Xz r8 with au | au
  ·have H := Xo H au;refine Xe au Z (Xa (Xj fa39_4 (Ad aa 0) (Ad aa 7) Z Z) (Xe au Z (Xa (Xj fa37_0 (Ad aa 7) (Ad aa 7) Z Z) (Xe au Z ?_))));have d3 := bv.stn cy;have c0 := (b2.st d3);refine Xa (Xn ag9 cL (Ad aa 7) (vs c_.Now.Id) Z (c0.cell Z)) (Xe au Z (Xa (Xj fa39_0 (Ad aa 0) (Ad aa 0) Z Z) (Xe au Z (Xa (Xn ag9 cL (Ad aa 0) (vs c_.Id) Z (c0.cell Z)) (Xe au Z (Xa (Yg c_.Now.Id c_.Id (c_.Now.Id == c_.Id) Z Z Z) (Xe ac Z (Xa (Xk true (vb (c_.Now.Id == c_.Id)) au Z) ?_))))))));exact X7 (dj := 70) Z Z Z (Xa (Xk false (vb (c_.Now.Id == c_.Id)) ac Z) (Xa (Xk true (vb (c_.Now.Id == c_.Id)) Z Z) (Xf (vb (c_.Now.Id == c_.Id)) Z (Xc (Xl ⟨[vb (c_.Now.Id == c_.Id)], ⟨_, Z, Z⟩, c_.Now.Id == c_.Id, Z, H, cz.gr.g0⟩)))))
  have H := Xp H au;refine Xh au Z (Xh au Z (Xh au Z (Xh au Z (Xh au Z (Xh au Z (Xe ac Z (Xa (Xk false (vb false) au Z) (X7 (dj := 70) Z Z Z ?_))))))));exact Xa (Xk false (vb false) ac Z) (Xa (Xk true (vb false) Z Z) (Xf (vb false) Z (Xc (Xl ⟨[vb false], ⟨_, Z, Z⟩, false, Z, H, cz.gr.g0⟩))))
 have H := Xp H ab;refine Xh ab Z (Xh ab Z (Xh ab Z (Xe ap Z (Xa (Xk false (vb false) ab Z) (Xa (Xk false (vb false) ap Z) (Xg (vb false) Z (X7 (dj := 17) Z Z Z (Xa (Xj fa39_1 (Ad aa 0) (Ad aa 1) Z Z) ?_))))))));refine X7 (dj := 17) Z Z Z (Xa (Xn ag4 cL (Ad aa 1) (vb c_.Had) Z (al.cell Z)) (X7 (dj := 17) Z Z Z (Xg (vb c_.Had) Z ?_)));rcases Xz c_.Had with bm | bm
 ·have H := Xo H bm;refine Xe bm Z (Xa (Xj fa39_3 (Ad aa 0) (Ad aa 6) Z Z) (Xe bm Z (Xa (Xn ag4 cL (Ad aa 6) (vb c_.Has) Z (al.cell Z)) (X7 (dj := 17) Z Z Z (Xa (Xk true (vb c_.Has) bm Z) (X7 (dj := 17) Z Z Z (Xg (vb c_.Has) Z ?_)))))));rcases Xz c_.Has with bb | bb
  ·have H := Xo H bb;refine Xe bb Z (Xa (Xj fa39_2 (Ad aa 0) (Ad aa 2) Z Z) (Xe bb Z (Xa (Xv ag37 sz37 cL (Ad aa 2) [vs c_.Was.Id, vi c_.Was.Shape.Kind, G A3 n4 c5, G A8 n9 ae] Z Z (al.cells (off := 2) Z)) (Xe bb Z (Xa (Xj fa39_4 (Ad aa 0) (Ad aa 7) Z Z) (Xe bb Z (Xa (Xv ag37 sz37 cL (Ad aa 7) [vs c_.Now.Id, vi c_.Now.Shape.Kind, G af ag ah, G ai aj ak] Z Z (al.cells (off := 7) Z)) (Xe bb Z ?_))))))));refine X0 go40 (F19.calls H ad.ok hs2 (hp6.st ad.st) (bf.st ad.st) bg (bh.st ad.st) (bi.st ad.st)) Z ?_;rintro _ c1 ⟨r9, rfl, H, c2⟩;have bj := ad.k0 c2;refine X7 (dj := 17) Z Z Z (Xa (Xk true (vb r9) bb Z) (Xa (Xk false (vb r9) Z Z) (Xc ?_)));refine Xu r9 Z (fun b9 => ?_) (fun b9 => ?_)
   ·have H := Xo H b9;exact Xb (Xd (Xf (vb false) Z (Xc (Xl ⟨[vb false], ⟨_, Z, Z⟩, false, Z, H, bj.gr.g0⟩))))
   have H := Xp H b9;refine Xt (Xb (Xb (Xd (Xa (Xj fa39_1 (Ad aa 0) (Ad aa 1) Z Z) ?_))));have d4 := ad.stn c2;have bo := (al.st d4);refine Xa (Xn ag4 cL (Ad aa 1) (vb c_.Had) Z (bo.cell Z)) (Xa (X1 c_.Had Z) (Xg (vb (!c_.Had)) Z (Xh ab Z (Xh ab Z (Xh ab Z (Xh ab Z (Xh ab Z (Xa (Xk false (vb false) ab Z) ?_))))))));refine Xg (vb false) Z (X7 (dj := 42) Z Z Z (Xa (Xj fa39_3 (Ad aa 0) (Ad aa 6) Z Z) (X7 (dj := 42) Z Z Z (Xa (Xn ag4 cL (Ad aa 6) (vb c_.Has) Z (bo.cell Z)) (X7 (dj := 42) Z Z Z (Xa (X1 c_.Has Z) (X7 (dj := 42) Z Z Z (Xg (vb (!c_.Has)) Z ?_))))))));rcases Xz (!c_.Has) with am | am
   ·have H := Xo H am;refine Xe am Z (Xa (Xj fa39_4 (Ad aa 0) (Ad aa 7) Z Z) (Xe am Z (Xa (Xv ag37 sz37 cL (Ad aa 7) [vs c_.Now.Id, vi c_.Now.Shape.Kind, G af ag ah, G ai aj ak] Z Z (bo.cells (off := 7) Z)) (Xe am Z (Xa (Yy (.agg #[vs [], vi 0, G none 0 0, G none 0 0]) RF) (Xe am Z ?_))))));refine X0 go40 (F19.calls H bj.ok bg (bh.st bj.st) (bi.st bj.st) RD (Sl.nil _ _ _ none 0 RD) (Sl.nil _ _ _ none 0 RD)) Z ?_;rintro _ d5 ⟨r10, rfl, H, c3⟩;have bw := bj.k0 c3;refine Xe am Z (Xa (X1 r10 Z) (X7 (dj := 42) Z Z Z (Xa (Xk true (vb (!r10)) am Z) (Xa (Xk false (vb (!r10)) Z Z) (Xc ?_)))));refine Xu (!r10) Z (fun ca => ?_) (fun ca => ?_)
    ·have H := Xo H ca;exact Xb (Xd (Xf (vb false) Z (Xc (Xl ⟨[vb false], ⟨_, Z, Z⟩, false, Z, H, bw.gr.g0⟩))))
    have H := Xp H ca;refine Xt (Xb (Xd (Xa (Xj fa39_1 (Ad aa 0) (Ad aa 1) Z Z) ?_)));have d6 := bj.stn c3;have cb := (bo.st d6);refine Xa (Xn ag4 cL (Ad aa 1) (vb c_.Had) Z (cb.cell Z)) (Xa (X1 c_.Had Z) (Xg (vb (!c_.Had)) Z (Xe ab Z (Xa (Xj fa39_2 (Ad aa 0) (Ad aa 2) Z Z) (Xe ab Z (Xa (Xv ag37 sz37 cL (Ad aa 2) [vs c_.Was.Id, vi c_.Was.Shape.Kind, G A3 n4 c5, G A8 n9 ae] Z Z (cb.cells (off := 2) Z)) (Xe ab Z ?_)))))));refine X0 go41 (F45.calls H bw.ok hs2 (hp6.st bw.st) (bf.st bw.st)) Z ?_;rintro _ eq ⟨r11, rfl, H, c4⟩;have cc := bw.k0 c4;refine Xe ab Z (Xg (vb r11) Z ?_);rcases Xz r11 with av | av
    ·have H := Xo H av;refine Xe av Z (Xa (Xj fa39_2 (Ad aa 0) (Ad aa 2) Z Z) (Xe av Z (Xa (Xj fa37_0 (Ad aa 2) (Ad aa 2) Z Z) (Xe av Z ?_))));have d7 := bw.stn c4;have cd := (cb.st d7);refine Xa (Xn ag9 cL (Ad aa 2) (vs c_.Was.Id) Z (cd.cell Z)) (Xe av Z (Xa (Xj fa39_0 (Ad aa 0) (Ad aa 0) Z Z) (Xe av Z (Xa (Xn ag9 cL (Ad aa 0) (vs c_.Id) Z (cd.cell Z)) (Xe av Z (Xa (Yg c_.Was.Id c_.Id (c_.Was.Id == c_.Id) Z Z Z) (Xe ab Z (Xa (Xk true (vb (c_.Was.Id == c_.Id)) av Z) ?_))))))));refine Xa (Xk false (vb (c_.Was.Id == c_.Id)) ab Z) (Xg (vb (c_.Was.Id == c_.Id)) Z ?_);rcases Xz (c_.Was.Id == c_.Id) with bc | bc
     ·have H := Xo H bc;refine Xe bc Z (Xa (Xj fa39_3 (Ad aa 0) (Ad aa 6) Z Z) (Xe bc Z (Xa (Xn ag4 cL (Ad aa 6) (vb c_.Has) Z (cd.cell Z)) (Xe bc Z (Xa (X1 c_.Has Z) (Xe bc Z (Xg (vb (!c_.Has)) Z (Xh am Z ?_))))))));refine Xh am Z (Xh am Z (Xh am Z (Xm Z (Xm Z (Xm Z (Xm Z (Xm Z (Xm Z ?_))))))));exact Xh am Z (Xe bc Z (Xa (Xk true (vb true) am Z) (Xa (Xk true (vb true) bc Z) (Xf (vb true) Z (Xc (Xl ⟨[vb true], ⟨_, Z, Z⟩, true, Z, H, cc.gr.g0⟩))))))
     have H := Xp H bc;refine Xh bc Z (Xh bc Z (Xh bc Z (Xh bc Z (Xm Z (Xm Z (Xm Z (Xm Z (Xm Z ?_))))))));refine Xm Z (Xm Z (Xm Z (Xm Z (Xm Z (Xm Z (Xh bc Z (Xa (Xk false (vb false) bc Z) (Xf (vb false) Z ?_))))))));exact Xc (Xl ⟨[vb false], ⟨_, Z, Z⟩, false, Z, H, cc.gr.g0⟩)
    have H := Xp H av;refine Xh av Z (Xh av Z (Xh av Z (Xh av Z (Xh av Z (Xh av Z (Xe ab Z (Xa (Xk false (vb false) av Z) (Xa (Xk false (vb false) ab Z) ?_))))))));refine Xg (vb false) Z (Xy (dj := 70) Z Z (.inl Z) (Xy (dj := 70) Z Z (.inl Z) (Xy (dj := 70) Z Z (.inl Z) (Xy (dj := 70) Z Z (.inl Z) (Xm Z (Xm Z (Xm Z (Xm Z ?_))))))));refine Xm Z (Xm Z (Xm Z (Xm Z (Xm Z (Xm Z (Xm Z (Xy (dj := 70) Z Z (.inl Z) (Xa (Xk false (vb false) Z Z) ?_))))))));exact Xf (vb false) Z (Xc (Xl ⟨[vb false], ⟨_, Z, Z⟩, false, Z, H, cc.gr.g0⟩))
   have H := Xp H am;refine Xh am Z (Xh am Z (Xh am Z (Xh am Z (Xh am Z (X7 (dj := 42) Z Z Z (Xa (Xk false (vb false) am Z) (Xa (Xk false (vb false) Z Z) (Xc ?_))))))));refine Yo (b := false) Z Z ?_;refine Xt (Xb (Xd (Xa (Xj fa39_1 (Ad aa 0) (Ad aa 1) Z Z) (Xa (Xn ag4 cL (Ad aa 1) (vb c_.Had) Z (bo.cell Z)) (Xa (X1 c_.Had Z) (Xg (vb (!c_.Had)) Z (Xe ab Z (Xa (Xj fa39_2 (Ad aa 0) (Ad aa 2) Z Z) ?_))))))));refine Xe ab Z (Xa (Xv ag37 sz37 cL (Ad aa 2) [vs c_.Was.Id, vi c_.Was.Shape.Kind, G A3 n4 c5, G A8 n9 ae] Z Z (bo.cells (off := 2) Z)) (Xe ab Z ?_));refine X0 go41 (F45.calls H bj.ok hs2 (hp6.st bj.st) (bf.st bj.st)) Z ?_;rintro _ d8 ⟨r12, rfl, H, c6⟩;have bp := bj.k0 c6;refine Xe ab Z (Xg (vb r12) Z ?_);rcases Xz r12 with aw | aw
   ·have H := Xo H aw;refine Xe aw Z (Xa (Xj fa39_2 (Ad aa 0) (Ad aa 2) Z Z) (Xe aw Z (Xa (Xj fa37_0 (Ad aa 2) (Ad aa 2) Z Z) (Xe aw Z ?_))));have d9 := bj.stn c6;have b3 := (bo.st d9);refine Xa (Xn ag9 cL (Ad aa 2) (vs c_.Was.Id) Z (b3.cell Z)) (Xe aw Z (Xa (Xj fa39_0 (Ad aa 0) (Ad aa 0) Z Z) (Xe aw Z (Xa (Xn ag9 cL (Ad aa 0) (vs c_.Id) Z (b3.cell Z)) (Xe aw Z (Xa (Yg c_.Was.Id c_.Id (c_.Was.Id == c_.Id) Z Z Z) (Xe ab Z (Xa (Xk true (vb (c_.Was.Id == c_.Id)) aw Z) ?_))))))));refine Xa (Xk false (vb (c_.Was.Id == c_.Id)) ab Z) (Xg (vb (c_.Was.Id == c_.Id)) Z ?_);rcases Xz (c_.Was.Id == c_.Id) with ax | ax
    ·have H := Xo H ax;refine Xe ax Z (Xa (Xj fa39_3 (Ad aa 0) (Ad aa 6) Z Z) (Xe ax Z (Xa (Xn ag4 cL (Ad aa 6) (vb c_.Has) Z (b3.cell Z)) (Xe ax Z (Xa (X1 c_.Has Z) (Xe ax Z (Xg (vb (!c_.Has)) Z (Xe am Z ?_))))))));refine Xa (Xj fa39_4 (Ad aa 0) (Ad aa 7) Z Z) (Xe am Z (Xa (Xv ag37 sz37 cL (Ad aa 7) [vs c_.Now.Id, vi c_.Now.Shape.Kind, G af ag ah, G ai aj ak] Z Z (b3.cells (off := 7) Z)) (Xe am Z ?_)));refine X0 go41 (F45.calls H bp.ok bg (bh.st bp.st) (bi.st bp.st)) Z ?_;rintro _ er ⟨r13, rfl, H, c7⟩;have c8 := bp.k0 c7;refine Xe am Z (Xg (vb r13) Z ?_);rcases Xz r13 with ay | ay
     ·have H := Xo H ay;refine Xe ay Z (Xa (Xj fa39_4 (Ad aa 0) (Ad aa 7) Z Z) (Xe ay Z (Xa (Xj fa37_0 (Ad aa 7) (Ad aa 7) Z Z) (Xe ay Z ?_))));have ea := bp.stn c7;have c9 := (b3.st ea);refine Xa (Xn ag9 cL (Ad aa 7) (vs c_.Now.Id) Z (c9.cell Z)) (Xe ay Z (Xa (Xj fa39_0 (Ad aa 0) (Ad aa 0) Z Z) (Xe ay Z (Xa (Xn ag9 cL (Ad aa 0) (vs c_.Id) Z (c9.cell Z)) (Xe ay Z (Xa (Yg c_.Now.Id c_.Id (c_.Now.Id == c_.Id) Z Z Z) (Xe am Z (Xa (Xk true (vb (c_.Now.Id == c_.Id)) ay Z) ?_))))))));exact Xe ax Z (Xa (Xk false (vb (c_.Now.Id == c_.Id)) am Z) (Xa (Xk true (vb (c_.Now.Id == c_.Id)) ax Z) (Xf (vb (c_.Now.Id == c_.Id)) Z (Xc (Xl ⟨[vb (c_.Now.Id == c_.Id)], ⟨_, Z, Z⟩, c_.Now.Id == c_.Id, Z, H, c8.gr.g0⟩)))))
     have H := Xp H ay;refine Xh ay Z (Xh ay Z (Xh ay Z (Xh ay Z (Xh ay Z (Xh ay Z (Xe am Z (Xa (Xk false (vb false) ay Z) (Xe ax Z ?_))))))));exact Xa (Xk false (vb false) am Z) (Xa (Xk true (vb false) ax Z) (Xf (vb false) Z (Xc (Xl ⟨[vb false], ⟨_, Z, Z⟩, false, Z, H, c8.gr.g0⟩))))
    have H := Xp H ax;refine Xh ax Z (Xh ax Z (Xh ax Z (Xh ax Z (Xm Z (Xm Z (Xm Z (Xm Z (Xm Z ?_))))))));refine Xm Z (Xm Z (Xm Z (Xm Z (Xm Z (Xm Z (Xh ax Z (Xa (Xk false (vb false) ax Z) (Xf (vb false) Z ?_))))))));exact Xc (Xl ⟨[vb false], ⟨_, Z, Z⟩, false, Z, H, bp.gr.g0⟩)
   have H := Xp H aw;refine Xh aw Z (Xh aw Z (Xh aw Z (Xh aw Z (Xh aw Z (Xh aw Z (Xe ab Z (Xa (Xk false (vb false) aw Z) (Xa (Xk false (vb false) ab Z) ?_))))))));refine Xg (vb false) Z (Xy (dj := 70) Z Z (.inl Z) (Xy (dj := 70) Z Z (.inl Z) (Xy (dj := 70) Z Z (.inl Z) (Xy (dj := 70) Z Z (.inl Z) (Xm Z (Xm Z (Xm Z (Xm Z ?_))))))));refine Xm Z (Xm Z (Xm Z (Xm Z (Xm Z (Xm Z (Xm Z (Xy (dj := 70) Z Z (.inl Z) (Xa (Xk false (vb false) Z Z) ?_))))))));exact Xf (vb false) Z (Xc (Xl ⟨[vb false], ⟨_, Z, Z⟩, false, Z, H, bp.gr.g0⟩))
  have H := Xp H bb;refine Xh bb Z (Xh bb Z (Xh bb Z (Xh bb Z (Xh bb Z (X7 (dj := 17) Z Z Z (Xa (Xk false (vb false) bb Z) (Xa (Xk false (vb false) Z Z) (Xc ?_))))))));refine Yo (b := false) Z Z ?_;refine Xt (Xb (Xb (Xd (Xa (Xj fa39_1 (Ad aa 0) (Ad aa 1) Z Z) (Xa (Xn ag4 cL (Ad aa 1) (vb c_.Had) Z (al.cell Z)) (Xa (X1 c_.Had Z) (Xg (vb (!c_.Had)) Z (Xh ab Z ?_))))))));refine Xh ab Z (Xh ab Z (Xh ab Z (Xh ab Z (Xa (Xk false (vb false) ab Z) (Xg (vb false) Z (X7 (dj := 42) Z Z Z (Xa (Xj fa39_3 (Ad aa 0) (Ad aa 6) Z Z) (X7 (dj := 42) Z Z Z ?_))))))));refine Xa (Xn ag4 cL (Ad aa 6) (vb c_.Has) Z (al.cell Z)) (X7 (dj := 42) Z Z Z (Xa (X1 c_.Has Z) (X7 (dj := 42) Z Z Z (Xg (vb (!c_.Has)) Z ?_))));rcases Xz (!c_.Has) with an | an
  ·have H := Xo H an;refine Xe an Z (Xa (Xj fa39_4 (Ad aa 0) (Ad aa 7) Z Z) (Xe an Z (Xa (Xv ag37 sz37 cL (Ad aa 7) [vs c_.Now.Id, vi c_.Now.Shape.Kind, G af ag ah, G ai aj ak] Z Z (al.cells (off := 7) Z)) (Xe an Z (Xa (Yy (.agg #[vs [], vi 0, G none 0 0, G none 0 0]) RF) (Xe an Z ?_))))));refine X0 go40 (F19.calls H ad.ok bg (bh.st ad.st) (bi.st ad.st) RD (Sl.nil _ _ _ none 0 RD) (Sl.nil _ _ _ none 0 RD)) Z ?_;rintro _ eb ⟨r14, rfl, H, da⟩;have bx := ad.k0 da;refine Xe an Z (Xa (X1 r14 Z) (X7 (dj := 42) Z Z Z (Xa (Xk true (vb (!r14)) an Z) (Xa (Xk false (vb (!r14)) Z Z) (Xc ?_)))));refine Xu (!r14) Z (fun ce => ?_) (fun ce => ?_)
   ·have H := Xo H ce;exact Xb (Xd (Xf (vb false) Z (Xc (Xl ⟨[vb false], ⟨_, Z, Z⟩, false, Z, H, bx.gr.g0⟩))))
   have H := Xp H ce;refine Xt (Xb (Xd (Xa (Xj fa39_1 (Ad aa 0) (Ad aa 1) Z Z) ?_)));have ec := ad.stn da;have cf := (al.st ec);refine Xa (Xn ag4 cL (Ad aa 1) (vb c_.Had) Z (cf.cell Z)) (Xa (X1 c_.Had Z) (Xg (vb (!c_.Had)) Z (Xe ab Z (Xa (Xj fa39_2 (Ad aa 0) (Ad aa 2) Z Z) (Xe ab Z (Xa (Xv ag37 sz37 cL (Ad aa 2) [vs c_.Was.Id, vi c_.Was.Shape.Kind, G A3 n4 c5, G A8 n9 ae] Z Z (cf.cells (off := 2) Z)) (Xe ab Z ?_)))))));refine X0 go41 (F45.calls H bx.ok hs2 (hp6.st bx.st) (bf.st bx.st)) Z ?_;rintro _ es ⟨r15, rfl, H, db⟩;have cg := bx.k0 db;refine Xe ab Z (Xg (vb r15) Z ?_);rcases Xz r15 with az | az
   ·have H := Xo H az;refine Xe az Z (Xa (Xj fa39_2 (Ad aa 0) (Ad aa 2) Z Z) (Xe az Z (Xa (Xj fa37_0 (Ad aa 2) (Ad aa 2) Z Z) (Xe az Z ?_))));have ed := bx.stn db;have ch := (cf.st ed);refine Xa (Xn ag9 cL (Ad aa 2) (vs c_.Was.Id) Z (ch.cell Z)) (Xe az Z (Xa (Xj fa39_0 (Ad aa 0) (Ad aa 0) Z Z) (Xe az Z (Xa (Xn ag9 cL (Ad aa 0) (vs c_.Id) Z (ch.cell Z)) (Xe az Z (Xa (Yg c_.Was.Id c_.Id (c_.Was.Id == c_.Id) Z Z Z) (Xe ab Z (Xa (Xk true (vb (c_.Was.Id == c_.Id)) az Z) ?_))))))));refine Xa (Xk false (vb (c_.Was.Id == c_.Id)) ab Z) (Xg (vb (c_.Was.Id == c_.Id)) Z ?_);rcases Xz (c_.Was.Id == c_.Id) with bd | bd
    ·have H := Xo H bd;refine Xe bd Z (Xa (Xj fa39_3 (Ad aa 0) (Ad aa 6) Z Z) (Xe bd Z (Xa (Xn ag4 cL (Ad aa 6) (vb c_.Has) Z (ch.cell Z)) (Xe bd Z (Xa (X1 c_.Has Z) (Xe bd Z (Xg (vb (!c_.Has)) Z (Xh an Z ?_))))))));refine Xh an Z (Xh an Z (Xh an Z (Xm Z (Xm Z (Xm Z (Xm Z (Xm Z (Xm Z ?_))))))));exact Xh an Z (Xe bd Z (Xa (Xk true (vb true) an Z) (Xa (Xk true (vb true) bd Z) (Xf (vb true) Z (Xc (Xl ⟨[vb true], ⟨_, Z, Z⟩, true, Z, H, cg.gr.g0⟩))))))
    have H := Xp H bd;refine Xh bd Z (Xh bd Z (Xh bd Z (Xh bd Z (Xm Z (Xm Z (Xm Z (Xm Z (Xm Z ?_))))))));refine Xm Z (Xm Z (Xm Z (Xm Z (Xm Z (Xm Z (Xh bd Z (Xa (Xk false (vb false) bd Z) (Xf (vb false) Z ?_))))))));exact Xc (Xl ⟨[vb false], ⟨_, Z, Z⟩, false, Z, H, cg.gr.g0⟩)
   have H := Xp H az;refine Xh az Z (Xh az Z (Xh az Z (Xh az Z (Xh az Z (Xh az Z (Xe ab Z (Xa (Xk false (vb false) az Z) (Xa (Xk false (vb false) ab Z) ?_))))))));refine Xg (vb false) Z (Xy (dj := 70) Z Z (.inl Z) (Xy (dj := 70) Z Z (.inl Z) (Xy (dj := 70) Z Z (.inl Z) (Xy (dj := 70) Z Z (.inl Z) (Xm Z (Xm Z (Xm Z (Xm Z ?_))))))));refine Xm Z (Xm Z (Xm Z (Xm Z (Xm Z (Xm Z (Xm Z (Xy (dj := 70) Z Z (.inl Z) (Xa (Xk false (vb false) Z Z) ?_))))))));exact Xf (vb false) Z (Xc (Xl ⟨[vb false], ⟨_, Z, Z⟩, false, Z, H, cg.gr.g0⟩))
  have H := Xp H an;refine Xh an Z (Xh an Z (Xh an Z (Xh an Z (Xh an Z (X7 (dj := 42) Z Z Z (Xa (Xk false (vb false) an Z) (Xa (Xk false (vb false) Z Z) (Xc ?_))))))));refine Yo (b := false) Z Z ?_;refine Xt (Xb (Xd (Xa (Xj fa39_1 (Ad aa 0) (Ad aa 1) Z Z) (Xa (Xn ag4 cL (Ad aa 1) (vb c_.Had) Z (al.cell Z)) (Xa (X1 c_.Had Z) (Xg (vb (!c_.Had)) Z (Xe ab Z (Xa (Xj fa39_2 (Ad aa 0) (Ad aa 2) Z Z) ?_))))))));refine Xe ab Z (Xa (Xv ag37 sz37 cL (Ad aa 2) [vs c_.Was.Id, vi c_.Was.Shape.Kind, G A3 n4 c5, G A8 n9 ae] Z Z (al.cells (off := 2) Z)) (Xe ab Z ?_));refine X0 go41 (F45.calls H ad.ok hs2 (hp6.st ad.st) (bf.st ad.st)) Z ?_;rintro _ ee ⟨r16, rfl, H, dc⟩;have bq := ad.k0 dc;refine Xe ab Z (Xg (vb r16) Z ?_);rcases Xz r16 with a0 | a0
  ·have H := Xo H a0;refine Xe a0 Z (Xa (Xj fa39_2 (Ad aa 0) (Ad aa 2) Z Z) (Xe a0 Z (Xa (Xj fa37_0 (Ad aa 2) (Ad aa 2) Z Z) (Xe a0 Z ?_))));have ef := ad.stn dc;have b4 := (al.st ef);refine Xa (Xn ag9 cL (Ad aa 2) (vs c_.Was.Id) Z (b4.cell Z)) (Xe a0 Z (Xa (Xj fa39_0 (Ad aa 0) (Ad aa 0) Z Z) (Xe a0 Z (Xa (Xn ag9 cL (Ad aa 0) (vs c_.Id) Z (b4.cell Z)) (Xe a0 Z (Xa (Yg c_.Was.Id c_.Id (c_.Was.Id == c_.Id) Z Z Z) (Xe ab Z (Xa (Xk true (vb (c_.Was.Id == c_.Id)) a0 Z) ?_))))))));refine Xa (Xk false (vb (c_.Was.Id == c_.Id)) ab Z) (Xg (vb (c_.Was.Id == c_.Id)) Z ?_);rcases Xz (c_.Was.Id == c_.Id) with a1 | a1
   ·have H := Xo H a1;refine Xe a1 Z (Xa (Xj fa39_3 (Ad aa 0) (Ad aa 6) Z Z) (Xe a1 Z (Xa (Xn ag4 cL (Ad aa 6) (vb c_.Has) Z (b4.cell Z)) (Xe a1 Z (Xa (X1 c_.Has Z) (Xe a1 Z (Xg (vb (!c_.Has)) Z (Xe an Z ?_))))))));refine Xa (Xj fa39_4 (Ad aa 0) (Ad aa 7) Z Z) (Xe an Z (Xa (Xv ag37 sz37 cL (Ad aa 7) [vs c_.Now.Id, vi c_.Now.Shape.Kind, G af ag ah, G ai aj ak] Z Z (b4.cells (off := 7) Z)) (Xe an Z ?_)));refine X0 go41 (F45.calls H bq.ok bg (bh.st bq.st) (bi.st bq.st)) Z ?_;rintro _ et ⟨r17, rfl, H, dd⟩;have de := bq.k0 dd;refine Xe an Z (Xg (vb r17) Z ?_);rcases Xz r17 with a2 | a2
    ·have H := Xo H a2;refine Xe a2 Z (Xa (Xj fa39_4 (Ad aa 0) (Ad aa 7) Z Z) (Xe a2 Z (Xa (Xj fa37_0 (Ad aa 7) (Ad aa 7) Z Z) (Xe a2 Z ?_))));have eg := bq.stn dd;have df := (b4.st eg);refine Xa (Xn ag9 cL (Ad aa 7) (vs c_.Now.Id) Z (df.cell Z)) (Xe a2 Z (Xa (Xj fa39_0 (Ad aa 0) (Ad aa 0) Z Z) (Xe a2 Z (Xa (Xn ag9 cL (Ad aa 0) (vs c_.Id) Z (df.cell Z)) (Xe a2 Z (Xa (Yg c_.Now.Id c_.Id (c_.Now.Id == c_.Id) Z Z Z) (Xe an Z (Xa (Xk true (vb (c_.Now.Id == c_.Id)) a2 Z) ?_))))))));exact Xe a1 Z (Xa (Xk false (vb (c_.Now.Id == c_.Id)) an Z) (Xa (Xk true (vb (c_.Now.Id == c_.Id)) a1 Z) (Xf (vb (c_.Now.Id == c_.Id)) Z (Xc (Xl ⟨[vb (c_.Now.Id == c_.Id)], ⟨_, Z, Z⟩, c_.Now.Id == c_.Id, Z, H, de.gr.g0⟩)))))
    have H := Xp H a2;refine Xh a2 Z (Xh a2 Z (Xh a2 Z (Xh a2 Z (Xh a2 Z (Xh a2 Z (Xe an Z (Xa (Xk false (vb false) a2 Z) (Xe a1 Z ?_))))))));exact Xa (Xk false (vb false) an Z) (Xa (Xk true (vb false) a1 Z) (Xf (vb false) Z (Xc (Xl ⟨[vb false], ⟨_, Z, Z⟩, false, Z, H, de.gr.g0⟩))))
   have H := Xp H a1;refine Xh a1 Z (Xh a1 Z (Xh a1 Z (Xh a1 Z (Xm Z (Xm Z (Xm Z (Xm Z (Xm Z ?_))))))));refine Xm Z (Xm Z (Xm Z (Xm Z (Xm Z (Xm Z (Xh a1 Z (Xa (Xk false (vb false) a1 Z) (Xf (vb false) Z ?_))))))));exact Xc (Xl ⟨[vb false], ⟨_, Z, Z⟩, false, Z, H, bq.gr.g0⟩)
  have H := Xp H a0;refine Xh a0 Z (Xh a0 Z (Xh a0 Z (Xh a0 Z (Xh a0 Z (Xh a0 Z (Xe ab Z (Xa (Xk false (vb false) a0 Z) (Xa (Xk false (vb false) ab Z) ?_))))))));refine Xg (vb false) Z (Xy (dj := 70) Z Z (.inl Z) (Xy (dj := 70) Z Z (.inl Z) (Xy (dj := 70) Z Z (.inl Z) (Xy (dj := 70) Z Z (.inl Z) (Xm Z (Xm Z (Xm Z (Xm Z ?_))))))));refine Xm Z (Xm Z (Xm Z (Xm Z (Xm Z (Xm Z (Xm Z (Xy (dj := 70) Z Z (.inl Z) (Xa (Xk false (vb false) Z Z) ?_))))))));exact Xf (vb false) Z (Xc (Xl ⟨[vb false], ⟨_, Z, Z⟩, false, Z, H, bq.gr.g0⟩))
 have H := Xp H bm;refine Xh bm Z (Xh bm Z (X7 (dj := 17) Z Z Z (Xa (Xk false (vb false) bm Z) (X7 (dj := 17) Z Z Z (Xg (vb false) Z (Xy (dj := 24) Z Z (.inl Z) (Xy (dj := 24) Z Z (.inl Z) (Xy (dj := 24) Z Z (.inl Z) ?_))))))));refine Xy (dj := 24) Z Z (.inl Z) (Xy (dj := 24) Z Z (.inl Z) (X7 (dj := 17) Z Z Z (Xa (Xk false (vb false) Z Z) (Xa (Xk false (vb false) Z Z) (Xc (Yo (b := false) Z Z ?_))))));refine Xt (Xb (Xb (Xd (Xa (Xj fa39_1 (Ad aa 0) (Ad aa 1) Z Z) (Xa (Xn ag4 cL (Ad aa 1) (vb c_.Had) Z (al.cell Z)) (Xa (X1 c_.Had Z) (Xg (vb (!c_.Had)) Z (Xh ab Z ?_))))))));refine Xh ab Z (Xh ab Z (Xh ab Z (Xh ab Z (Xa (Xk false (vb false) ab Z) (Xg (vb false) Z (X7 (dj := 42) Z Z Z (Xa (Xj fa39_3 (Ad aa 0) (Ad aa 6) Z Z) (X7 (dj := 42) Z Z Z ?_))))))));refine Xa (Xn ag4 cL (Ad aa 6) (vb c_.Has) Z (al.cell Z)) (X7 (dj := 42) Z Z Z (Xa (X1 c_.Has Z) (X7 (dj := 42) Z Z Z (Xg (vb (!c_.Has)) Z ?_))));rcases Xz (!c_.Has) with ao | ao
 ·have H := Xo H ao;refine Xe ao Z (Xa (Xj fa39_4 (Ad aa 0) (Ad aa 7) Z Z) (Xe ao Z (Xa (Xv ag37 sz37 cL (Ad aa 7) [vs c_.Now.Id, vi c_.Now.Shape.Kind, G af ag ah, G ai aj ak] Z Z (al.cells (off := 7) Z)) (Xe ao Z (Xa (Yy (.agg #[vs [], vi 0, G none 0 0, G none 0 0]) RF) (Xe ao Z ?_))))));refine X0 go40 (F19.calls H ad.ok bg (bh.st ad.st) (bi.st ad.st) RD (Sl.nil _ _ _ none 0 RD) (Sl.nil _ _ _ none 0 RD)) Z ?_;rintro _ eh ⟨r18, rfl, H, dg⟩;have bz := ad.k0 dg;refine Xe ao Z (Xa (X1 r18 Z) (X7 (dj := 42) Z Z Z (Xa (Xk true (vb (!r18)) ao Z) (Xa (Xk false (vb (!r18)) Z Z) (Xc ?_)))));refine Xu (!r18) Z (fun ci => ?_) (fun ci => ?_)
  ·have H := Xo H ci;exact Xb (Xd (Xf (vb false) Z (Xc (Xl ⟨[vb false], ⟨_, Z, Z⟩, false, Z, H, bz.gr.g0⟩))))
  have H := Xp H ci;refine Xt (Xb (Xd (Xa (Xj fa39_1 (Ad aa 0) (Ad aa 1) Z Z) ?_)));have ei := ad.stn dg;have cj := (al.st ei);refine Xa (Xn ag4 cL (Ad aa 1) (vb c_.Had) Z (cj.cell Z)) (Xa (X1 c_.Had Z) (Xg (vb (!c_.Had)) Z (Xe ab Z (Xa (Xj fa39_2 (Ad aa 0) (Ad aa 2) Z Z) (Xe ab Z (Xa (Xv ag37 sz37 cL (Ad aa 2) [vs c_.Was.Id, vi c_.Was.Shape.Kind, G A3 n4 c5, G A8 n9 ae] Z Z (cj.cells (off := 2) Z)) (Xe ab Z ?_)))))));refine X0 go41 (F45.calls H bz.ok hs2 (hp6.st bz.st) (bf.st bz.st)) Z ?_;rintro _ eu ⟨r19, rfl, H, dh⟩;have ck := bz.k0 dh;refine Xe ab Z (Xg (vb r19) Z ?_);rcases Xz r19 with a3 | a3
  ·have H := Xo H a3;refine Xe a3 Z (Xa (Xj fa39_2 (Ad aa 0) (Ad aa 2) Z Z) (Xe a3 Z (Xa (Xj fa37_0 (Ad aa 2) (Ad aa 2) Z Z) (Xe a3 Z ?_))));have ej := bz.stn dh;have cl := (cj.st ej);refine Xa (Xn ag9 cL (Ad aa 2) (vs c_.Was.Id) Z (cl.cell Z)) (Xe a3 Z (Xa (Xj fa39_0 (Ad aa 0) (Ad aa 0) Z Z) (Xe a3 Z (Xa (Xn ag9 cL (Ad aa 0) (vs c_.Id) Z (cl.cell Z)) (Xe a3 Z (Xa (Yg c_.Was.Id c_.Id (c_.Was.Id == c_.Id) Z Z Z) (Xe ab Z (Xa (Xk true (vb (c_.Was.Id == c_.Id)) a3 Z) ?_))))))));refine Xa (Xk false (vb (c_.Was.Id == c_.Id)) ab Z) (Xg (vb (c_.Was.Id == c_.Id)) Z ?_);rcases Xz (c_.Was.Id == c_.Id) with be | be
   ·have H := Xo H be;refine Xe be Z (Xa (Xj fa39_3 (Ad aa 0) (Ad aa 6) Z Z) (Xe be Z (Xa (Xn ag4 cL (Ad aa 6) (vb c_.Has) Z (cl.cell Z)) (Xe be Z (Xa (X1 c_.Has Z) (Xe be Z (Xg (vb (!c_.Has)) Z (Xh ao Z ?_))))))));refine Xh ao Z (Xh ao Z (Xh ao Z (Xm Z (Xm Z (Xm Z (Xm Z (Xm Z (Xm Z ?_))))))));exact Xh ao Z (Xe be Z (Xa (Xk true (vb true) ao Z) (Xa (Xk true (vb true) be Z) (Xf (vb true) Z (Xc (Xl ⟨[vb true], ⟨_, Z, Z⟩, true, Z, H, ck.gr.g0⟩))))))
   have H := Xp H be;refine Xh be Z (Xh be Z (Xh be Z (Xh be Z (Xm Z (Xm Z (Xm Z (Xm Z (Xm Z ?_))))))));refine Xm Z (Xm Z (Xm Z (Xm Z (Xm Z (Xm Z (Xh be Z (Xa (Xk false (vb false) be Z) (Xf (vb false) Z ?_))))))));exact Xc (Xl ⟨[vb false], ⟨_, Z, Z⟩, false, Z, H, ck.gr.g0⟩)
  have H := Xp H a3;refine Xh a3 Z (Xh a3 Z (Xh a3 Z (Xh a3 Z (Xh a3 Z (Xh a3 Z (Xe ab Z (Xa (Xk false (vb false) a3 Z) (Xa (Xk false (vb false) ab Z) ?_))))))));refine Xg (vb false) Z (Xy (dj := 70) Z Z (.inl Z) (Xy (dj := 70) Z Z (.inl Z) (Xy (dj := 70) Z Z (.inl Z) (Xy (dj := 70) Z Z (.inl Z) (Xm Z (Xm Z (Xm Z (Xm Z ?_))))))));refine Xm Z (Xm Z (Xm Z (Xm Z (Xm Z (Xm Z (Xm Z (Xy (dj := 70) Z Z (.inl Z) (Xa (Xk false (vb false) Z Z) ?_))))))));exact Xf (vb false) Z (Xc (Xl ⟨[vb false], ⟨_, Z, Z⟩, false, Z, H, ck.gr.g0⟩))
 have H := Xp H ao;refine Xh ao Z (Xh ao Z (Xh ao Z (Xh ao Z (Xh ao Z (X7 (dj := 42) Z Z Z (Xa (Xk false (vb false) ao Z) (Xa (Xk false (vb false) Z Z) (Xc ?_))))))));refine Yo (b := false) Z Z ?_;refine Xt (Xb (Xd (Xa (Xj fa39_1 (Ad aa 0) (Ad aa 1) Z Z) (Xa (Xn ag4 cL (Ad aa 1) (vb c_.Had) Z (al.cell Z)) (Xa (X1 c_.Had Z) (Xg (vb (!c_.Had)) Z (Xe ab Z (Xa (Xj fa39_2 (Ad aa 0) (Ad aa 2) Z Z) ?_))))))));refine Xe ab Z (Xa (Xv ag37 sz37 cL (Ad aa 2) [vs c_.Was.Id, vi c_.Was.Shape.Kind, G A3 n4 c5, G A8 n9 ae] Z Z (al.cells (off := 2) Z)) (Xe ab Z ?_));refine X0 go41 (F45.calls H ad.ok hs2 (hp6.st ad.st) (bf.st ad.st)) Z ?_;rintro _ ek ⟨r20, rfl, H, di⟩;have br := ad.k0 di;refine Xe ab Z (Xg (vb r20) Z ?_);rcases Xz r20 with a4 | a4
 ·have H := Xo H a4;refine Xe a4 Z (Xa (Xj fa39_2 (Ad aa 0) (Ad aa 2) Z Z) (Xe a4 Z (Xa (Xj fa37_0 (Ad aa 2) (Ad aa 2) Z Z) (Xe a4 Z ?_))));have el := ad.stn di;have b5 := (al.st el);refine Xa (Xn ag9 cL (Ad aa 2) (vs c_.Was.Id) Z (b5.cell Z)) (Xe a4 Z (Xa (Xj fa39_0 (Ad aa 0) (Ad aa 0) Z Z) (Xe a4 Z (Xa (Xn ag9 cL (Ad aa 0) (vs c_.Id) Z (b5.cell Z)) (Xe a4 Z (Xa (Yg c_.Was.Id c_.Id (c_.Was.Id == c_.Id) Z Z Z) (Xe ab Z (Xa (Xk true (vb (c_.Was.Id == c_.Id)) a4 Z) ?_))))))));refine Xa (Xk false (vb (c_.Was.Id == c_.Id)) ab Z) (Xg (vb (c_.Was.Id == c_.Id)) Z ?_);rcases Xz (c_.Was.Id == c_.Id) with a5 | a5
  ·have H := Xo H a5;refine Xe a5 Z (Xa (Xj fa39_3 (Ad aa 0) (Ad aa 6) Z Z) (Xe a5 Z (Xa (Xn ag4 cL (Ad aa 6) (vb c_.Has) Z (b5.cell Z)) (Xe a5 Z (Xa (X1 c_.Has Z) (Xe a5 Z (Xg (vb (!c_.Has)) Z (Xe ao Z ?_))))))));refine Xa (Xj fa39_4 (Ad aa 0) (Ad aa 7) Z Z) (Xe ao Z (Xa (Xv ag37 sz37 cL (Ad aa 7) [vs c_.Now.Id, vi c_.Now.Shape.Kind, G af ag ah, G ai aj ak] Z Z (b5.cells (off := 7) Z)) (Xe ao Z ?_)));refine X0 go41 (F45.calls H br.ok bg (bh.st br.st) (bi.st br.st)) Z ?_;rintro _ ev ⟨r21, rfl, H, dk⟩;have dl := br.k0 dk;refine Xe ao Z (Xg (vb r21) Z ?_);rcases Xz r21 with a6 | a6
   ·have H := Xo H a6;refine Xe a6 Z (Xa (Xj fa39_4 (Ad aa 0) (Ad aa 7) Z Z) (Xe a6 Z (Xa (Xj fa37_0 (Ad aa 7) (Ad aa 7) Z Z) (Xe a6 Z ?_))));have em := br.stn dk;have dm := (b5.st em);refine Xa (Xn ag9 cL (Ad aa 7) (vs c_.Now.Id) Z (dm.cell Z)) (Xe a6 Z (Xa (Xj fa39_0 (Ad aa 0) (Ad aa 0) Z Z) (Xe a6 Z (Xa (Xn ag9 cL (Ad aa 0) (vs c_.Id) Z (dm.cell Z)) (Xe a6 Z (Xa (Yg c_.Now.Id c_.Id (c_.Now.Id == c_.Id) Z Z Z) (Xe ao Z (Xa (Xk true (vb (c_.Now.Id == c_.Id)) a6 Z) ?_))))))));exact Xe a5 Z (Xa (Xk false (vb (c_.Now.Id == c_.Id)) ao Z) (Xa (Xk true (vb (c_.Now.Id == c_.Id)) a5 Z) (Xf (vb (c_.Now.Id == c_.Id)) Z (Xc (Xl ⟨[vb (c_.Now.Id == c_.Id)], ⟨_, Z, Z⟩, c_.Now.Id == c_.Id, Z, H, dl.gr.g0⟩)))))
   have H := Xp H a6;refine Xh a6 Z (Xh a6 Z (Xh a6 Z (Xh a6 Z (Xh a6 Z (Xh a6 Z (Xe ao Z (Xa (Xk false (vb false) a6 Z) (Xe a5 Z ?_))))))));exact Xa (Xk false (vb false) ao Z) (Xa (Xk true (vb false) a5 Z) (Xf (vb false) Z (Xc (Xl ⟨[vb false], ⟨_, Z, Z⟩, false, Z, H, dl.gr.g0⟩))))
  have H := Xp H a5;refine Xh a5 Z (Xh a5 Z (Xh a5 Z (Xh a5 Z (Xm Z (Xm Z (Xm Z (Xm Z (Xm Z ?_))))))));refine Xm Z (Xm Z (Xm Z (Xm Z (Xm Z (Xm Z (Xh a5 Z (Xa (Xk false (vb false) a5 Z) (Xf (vb false) Z ?_))))))));exact Xc (Xl ⟨[vb false], ⟨_, Z, Z⟩, false, Z, H, br.gr.g0⟩)
 have H := Xp H a4;refine Xh a4 Z (Xh a4 Z (Xh a4 Z (Xh a4 Z (Xh a4 Z (Xh a4 Z (Xe ab Z (Xa (Xk false (vb false) a4 Z) (Xa (Xk false (vb false) ab Z) ?_))))))));refine Xg (vb false) Z (Xy (dj := 70) Z Z (.inl Z) (Xy (dj := 70) Z Z (.inl Z) (Xy (dj := 70) Z Z (.inl Z) (Xy (dj := 70) Z Z (.inl Z) (Xm Z (Xm Z (Xm Z (Xm Z ?_))))))));refine Xm Z (Xm Z (Xm Z (Xm Z (Xm Z (Xm Z (Xm Z (Xy (dj := 70) Z Z (.inl Z) (Xa (Xk false (vb false) Z Z) ?_))))))));exact Xf (vb false) Z (Xc (Xl ⟨[vb false], ⟨_, Z, Z⟩, false, Z, H, br.gr.g0⟩))
def F46.E (d : List Change) (Q : Bool → Prop) : Prop :=
 (∃ (I18 : Int → Prop) (mu19 : Int → Nat), I18 0 ∧ ∀ (i2 : Int), I18 i2 → (if decide (i2 < (d.length : Int)) then ((0 : Int) ≤ i2 ∧ i2 < (d.length : Int)) ∧ (∃ q : Bool, F74.E (nth d i2) (fun x => x = q) ∧ (if !q then Q false else (if decide (i2 > 0) then ((0 : Int) ≤ i2 ∧ i2 < (d.length : Int)) ∧ ((d.length : Int) ≤ 9223372036854775807 → I64 (i2 - 1)) ∧ ((0 : Int) ≤ i2 - 1 ∧ i2 - 1 < (d.length : Int)) ∧ (if Op.bytesLess ((nth d i2).Id) ((nth d (i2 - 1)).Id) || ((nth d i2).Id) == ((nth d (i2 - 1)).Id) then Q false else (-9223372036854775808 ≤ i2) ∧ I18 (i2 + 1) ∧ mu19 (i2 + 1) < mu19 i2) else (-9223372036854775808 ≤ i2) ∧ I18 (i2 + 1) ∧ mu19 (i2 + 1) < mu19 i2))) else Q (decide ((d.length : Int) ≤ 16))))
theorem F46.calls {d : List Change} {A1 : Option Addr} {n2 c3 : Nat} {Q : Bool → Prop} (H : F46.E d Q) (hO : Ok w0 O) (hp4 : Sl kChange w0 (Fr O) (G A1 n2 c3) d) :
  Ret Tryd.prog 12 [G A1 n2 c3] w0 (fun v w' => ∃ (r0 : Bool), v = vb r0 ∧ Q r0 ∧ Gr w0 w' none) := by
 unfold F46.E at H;have hc0 := Ct.init hO;refine X3 Tryd.func12 Z 37 Z [.tmp 2] Z Z ?_;refine Xb (Xd (Xf (vb false) Z (Xc (Xb (Xb (Xd (Xf (vi 0) Z (Xc ?_))))))));refine X5 ?_;obtain ⟨a6, a7, ai, H⟩ := H;refine Ye (α := Int) (fun (sv__ : Int) t af => match sv__ with | i2 => a6 i2 ∧ Has t [(0, G A1 n2 c3), (3, vi i2)] ∧ Ct [] w0 af [] O ∧ Sl kChange af (Fr ([] ++ O)) (G A1 n2 c3) d) (fun (sv__ : Int) => match sv__ with | i2 => a7 i2) 0 ⟨ai, (X2 Z), hc0, hp4⟩ ?_;rintro i2 _ af ⟨ai, a8, ad, ac⟩;obtain ⟨b7, rfl⟩ := Has.ins a8;have H := H i2 ai;refine Xb (Xb (Xd (Xg (vi i2) Z (Xg (G A1 n2 c3) Z ?_))));have aj := ac.le;refine Xa (X6 u25_ A1 n2 c3 ac.len Z) (Xa (Xx i2 (d.length : Int) (decide (i2 < (d.length : Int))) Z Z Z) (Xc ?_));refine Xu (decide (i2 < (d.length : Int))) Z (fun ae => ?_) (fun ae => ?_)
 ·have H := Xo H ae;refine Xt (Xb (X5 (Xb (Yh (fun x => Gr af x none) RK RK (Gr.drew _) ?_))));refine Xs (G A1 n2 c3) Z (Xs (vi i2) Z ?_);obtain ⟨az, H⟩ := H;obtain ⟨a0, b8, a9, b9, ba, bb⟩ := ac.get default RD i2 az;obtain ⟨ak, al, am, an, ao, ap, aq, ar, au, av, aw, ax, rfl, bc, bd, be, bf, bg, bh, bi⟩ := kChange.op ba;refine Xi (X4 u25_ Ys A1 a0 n2 c3 ac.len i2 Z a9 Z az) (Xi (Xv ag39 sz39 cQ (a0.add (i2.toNat * 11)) [vs ((nth d i2).Id), vb ((nth d i2).Had), vs ((nth d i2).Was.Id), vi ((nth d i2).Was.Shape.Kind), G ak al am, G an ao ap, vb ((nth d i2).Has), vs ((nth d i2).Now.Id), vi ((nth d i2).Now.Shape.Kind), G aq ar au, G av aw ax] Z Z bb) ?_);obtain ⟨q, bj, H⟩ := H;refine Yf go23 [.agg #[vs ((nth d i2).Id), vb ((nth d i2).Had), vs ((nth d i2).Was.Id), vi ((nth d i2).Was.Shape.Kind), G ak al am, G an ao ap, vb ((nth d i2).Has), vs ((nth d i2).Now.Id), vi ((nth d i2).Now.Shape.Kind), G aq ar au, G av aw ax]] Z (vb q) (fun w g => (F74.calls bj (ad.k0 g).ok bc bd (be.st (.new _ g)) (bf.st (.new _ g)) bg (bh.st (.new _ g)) (bi.st (.new _ g))).mono ?_) ?_
  ·rintro _ w ⟨r, rfl, rfl, g2⟩;exact ⟨Z, Gr.t0 g g2⟩
  refine Xi (X1 q Z) (Xs (vb (!q)) Z ?_);rcases Xz (!q) with ab | ab
  ·have H := Xo H ab;refine Xr ab Z (Xr ab Z (Xr ab Z (Xw Z (Xw Z (Xw Z (Xw Z (Xw Z (Xw Z ?_))))))));refine Xw Z (Xw Z (Xw Z (Xw Z (Xw Z (Xw Z (Xr ab Z (Xi (Xk true (vb true) ab Z) (X9 fun ca bl => ?_))))))));have bm := ad.k0 bl;refine Yi (b := true) Z Z ?_;exact Xb (Xd (Xf (vb false) Z (Xc (Xl ⟨[vb false], ⟨_, Z, Z⟩, false, Z, H, bm.gr.g0⟩))))
  have H := Xp H ab;refine Xq ab Z (Xs (vi i2) Z (Xq ab Z (Xi (Xx i2 0 (decide (i2 > 0)) Z Z Z) (Xq ab Z (Xs (vb (decide (i2 > 0))) Z ?_)))));rcases Xz (decide (i2 > 0)) with aa | aa
  ·have H := Xo H aa;refine Xq aa Z (Xs (G A1 n2 c3) Z (Xq aa Z (Xs (vi i2) Z (Xq aa Z ?_))));obtain ⟨a1, H⟩ := H;obtain ⟨ag, cb, bn, cc, bo, bp⟩ := ac.get default RD i2 a1;obtain ⟨cd, ce, cf, cg, ch, ci, cj, ck, cl, cm, cn, co, rfl, cp, cq, cr, cs, ct, cu, cv⟩ := kChange.op bo;refine Xi (X4 u25_ Ys A1 ag n2 c3 ac.len i2 Z bn Z a1) (Xq aa Z (Xi (Xj fa39_0 (ag.add (i2.toNat * 11)) ((ag.add (i2.toNat * 11)).add 0) Z Z) (Xq aa Z (Xi (Xn ag9 cQ ((ag.add (i2.toNat * 11)).add 0) (vs ((nth d i2).Id)) Z (bp 0 _ Z)) (Xq aa Z (Xs (G A1 n2 c3) Z (Xq aa Z (Xs (vi i2) Z ?_))))))));refine Xq aa Z ?_;obtain ⟨bq, H⟩ := H;have br := bq (len_le aj);refine Xi (Yr i2 1 Z Z br) (Xq aa Z ?_);obtain ⟨a2, H⟩ := H;obtain ⟨ah, cw, bs, cx, bt, bu⟩ := ac.get default RD (i2 - 1) a2;obtain ⟨cy, cz, c0, c1, c2, c4, c5, c6, c7, c8, c9, da, rfl, db, dc, dd, de, df, dg, dh⟩ := kChange.op bt;refine Xi (X4 u25_ Ys A1 ah n2 c3 ac.len (i2 - 1) Z bs Z a2) (Xq aa Z (Xi (Xj fa39_0 (ah.add ((i2 - 1).toNat * 11)) ((ah.add ((i2 - 1).toNat * 11)).add 0) Z Z) (Xq aa Z (Xi (Xn ag9 cQ ((ah.add ((i2 - 1).toNat * 11)).add 0) (vs ((nth d (i2 - 1)).Id)) Z (bu 0 _ Z)) (Xq aa Z (Xi (Yg ((nth d i2).Id) ((nth d (i2 - 1)).Id) (Op.bytesLess ((nth d i2).Id) ((nth d (i2 - 1)).Id) || ((nth d i2).Id) == ((nth d (i2 - 1)).Id)) Z Z Z) (Xq ab Z (Xi (Yj true (vb (Op.bytesLess ((nth d i2).Id) ((nth d (i2 - 1)).Id) || ((nth d i2).Id) == ((nth d (i2 - 1)).Id))) (by exact congrArg Value.bool aa) Z) ?_))))))));refine Xi (Yj false (vb (Op.bytesLess ((nth d i2).Id) ((nth d (i2 - 1)).Id) || ((nth d i2).Id) == ((nth d (i2 - 1)).Id))) (by exact congrArg Value.bool ab) Z) (X9 fun di a3 => ?_);have a4 := ad.k0 a3;refine Xu (Op.bytesLess ((nth d i2).Id) ((nth d (i2 - 1)).Id) || ((nth d i2).Id) == ((nth d (i2 - 1)).Id)) Z (fun ay => ?_) (fun ay => ?_)
   ·have H := Xo H ay;exact Xb (Xd (Xf (vb false) Z (Xc (Xl ⟨[vb false], ⟨_, Z, Z⟩, false, Z, H, a4.gr.g0⟩))))
   have H := Xp H ay;refine Xt (Xd (Xg (vi i2) Z ?_));obtain ⟨bv, H⟩ := H;have bw : I64 (i2 + 1) := i64_succ (of_decide_eq_true ae) aj bv;refine Xa (Yc i2 1 Z Z bw) (Xf (vi (i2 + 1)) Z (Xc ?_));obtain ⟨bx, bz⟩ := H;have b0 := ad.stn a3;exact ⟨i2 + 1, bz, bx, (X2 Z), a4, (ac.st b0)⟩
  have H := Xp H aa;refine Xr aa Z (Xr aa Z (Xr aa Z (Xr aa Z (Xr aa Z (Xr aa Z (Xr aa Z (Xr aa Z (Xr aa Z ?_))))))));refine Xr aa Z (Xr aa Z (Xr aa Z (Xq ab Z (Xi (Xk false (vb false) aa Z) (Xi (Xk false (vb false) ab Z) (X9 fun dj a5 => ?_))))));have b1 := ad.k0 a5;refine Yo (b := false) Z Z ?_;refine Xt (Xd (Xg (vi i2) Z ?_));obtain ⟨b2, H⟩ := H;have b3 : I64 (i2 + 1) := i64_succ (of_decide_eq_true ae) aj b2;refine Xa (Yc i2 1 Z Z b3) (Xf (vi (i2 + 1)) Z (Xc ?_));obtain ⟨b4, b5⟩ := H;have b6 := ad.stn a5;exact ⟨i2 + 1, b5, b4, (X2 Z), b1, (ac.st b6)⟩
 have H := Xp H ae;refine Yd (xin_hit ?_);exact Xb (Xd (Xg (G A1 n2 c3) Z (Xa (X6 u25_ A1 n2 c3 ac.len Z) (Xa (Xx (d.length : Int) 16 (decide ((d.length : Int) ≤ 16)) Z Z Z) (Xf (vb (decide ((d.length : Int) ≤ 16))) Z (Xc (Xl ⟨[vb (decide ((d.length : Int) ≤ 16))], ⟨_, Z, Z⟩, decide ((d.length : Int) ≤ 16), Z, H, ad.gr.g0⟩)))))))
def F47.E (kind : Int) (Q : Str → Prop) : Prop :=
 ((0 : Int) ≤ kind ∧ kind < (([([] : Str), ([100, 111, 116] : Str), ([108, 105, 110, 101] : Str), ([114, 105, 110, 103] : Str)] : List Str).length : Int)) ∧ Q (nth ([([] : Str), ([100, 111, 116] : Str), ([108, 105, 110, 101] : Str), ([114, 105, 110, 103] : Str)] : List Str) kind)
theorem F47.calls {kind : Int} {Q : Str → Prop} (H : F47.E kind Q) (hO : Ok w0 O) :
  Ret Tryd.prog 76 [vi kind] w0 (fun v w' => ∃ (r0 : Str), v = vs r0 ∧ Q r0 ∧ Gr w0 w' none ∧ Lim r0) := by
 unfold F47.E at H;have hc0 := Ct.init hO;refine X3 Tryd.func76 Z 7 Z [.tmp 2] Z Z ?_;refine Xb (Xd (Xf (vs []) Z (Xc (Xb (Xd (Y7 (kd := Kd.str) Zz hc0 ([([] : Str), ([100, 111, 116] : Str), ([108, 105, 110, 101] : Str), ([114, 105, 110, 103] : Str)] : List Str) (cells := [vs [], vs ([100, 111, 116] : Str), vs ([108, 105, 110, 101] : Str), vs ([114, 105, 110, 103] : Str)]) ⟨[vs []], _, Z, ⟨Z, (by decide : Lim ([] : Str))⟩, ⟨[vs ([100, 111, 116] : Str)], _, Z, ⟨Z, (by decide : Lim ([100, 111, 116] : Str))⟩, ⟨[vs ([108, 105, 110, 101] : Str)], _, Z, ⟨Z, (by decide : Lim ([108, 105, 110, 101] : Str))⟩, ⟨[vs ([114, 105, 110, 103] : Str)], _, Z, ⟨Z, (by decide : Lim ([114, 105, 110, 103] : Str))⟩, Z⟩⟩⟩⟩ RF fun w1 A2 n3 c4 g5 hr6 hc7 h8 => ?_))))));refine Xg (vi kind) Z ?_;obtain ⟨aa, H⟩ := H;obtain ⟨ab, ah, ac, ad, ae⟩ := h8.get default RD kind aa;obtain ⟨rfl, af⟩ := Kd.str.op ad;refine Xa (X4 Tryd.underlying76 Zl A2 ab n3 c4 h8.len kind Z ac Z aa) (Xa (Xn ag9 cL (ab.add (kind.toNat * 1)) (vs (nth ([([] : Str), ([100, 111, 116] : Str), ([108, 105, 110, 101] : Str), ([114, 105, 110, 103] : Str)] : List Str) kind)) Z (ae 0 _ Z)) (Xf (vs (nth ([([] : Str), ([100, 111, 116] : Str), ([108, 105, 110, 101] : Str), ([114, 105, 110, 103] : Str)] : List Str) kind)) Z (Xc (Xl ?_))));have ag := hc7.drop 0 Z;exact ⟨[vs (nth ([([] : Str), ([100, 111, 116] : Str), ([108, 105, 110, 101] : Str), ([114, 105, 110, 103] : Str)] : List Str) kind)], ⟨_, Z, Z⟩, (nth ([([] : Str), ([100, 111, 116] : Str), ([108, 105, 110, 101] : Str), ([114, 105, 110, 103] : Str)] : List Str) kind), Z, H, ag.gr.g0, af⟩
def F48.Er (R : Int → (Str → Prop) → Prop) (n : Int) (Q : Str → Prop) : Prop :=
 (if decide (n < (-9223372036854775807)) then Q ([45, 57, 50, 50, 51, 51, 55, 50, 48, 51, 54, 56, 53, 52, 55, 55, 53, 56, 48, 56] : Str) else (if decide (n < 0) then (I64 (-n)) ∧ R (-n) (fun r => (([45] : Str).length + r.length ≤ 9223372036854775807) ∧ Q (([45] : Str) ++ r)) else (∃ (I20 : Int → Str → Prop) (mu21 : Int → Str → Nat), I20 n ([] : Str) ∧ ∀ (n3 : Int) (out2 : Str), I20 n3 out2 → (if decide (n3 > 9) then ((0 : Int) ≤ n3 ∧ (0 : Int) < 10) ∧ (I64 (48 + (n3 % 10))) ∧ ((0 : Int) ≤ 48 + (n3 % 10) ∧ 48 + (n3 % 10) ≤ (255 : Int)) ∧ (([(UInt8.ofNat (48 + (n3 % 10)).toNat)] : List UInt8).length + out2.length ≤ 9223372036854775807) ∧ (((0 : Int) ≤ n3 ∧ n3 ≤ (9223372036854775807 : Int)) ∧ (0 : Int) < 10) ∧ I20 (n3 / 10) (([(UInt8.ofNat (48 + (n3 % 10)).toNat)] : List UInt8) ++ out2) ∧ mu21 (n3 / 10) (([(UInt8.ofNat (48 + (n3 % 10)).toNat)] : List UInt8) ++ out2) < mu21 n3 out2 else (I64 (48 + n3)) ∧ ((0 : Int) ≤ 48 + n3 ∧ 48 + n3 ≤ (255 : Int)) ∧ (([(UInt8.ofNat (48 + n3).toNat)] : List UInt8).length + out2.length ≤ 9223372036854775807) ∧ Q (([(UInt8.ofNat (48 + n3).toNat)] : List UInt8) ++ out2)))))
theorem F48.callsr (R : Int → (Str → Prop) → Prop) (hR : ∀ {O : Ob} (w0 : World) (hO : Ok w0 O) (n : Int) (Q : Str → Prop) (h : R n Q), Ret Tryd.prog 77 [vi n] w0 (fun v w' => ∃ (r0 : Str), v = vs r0 ∧ Q r0 ∧ Gr w0 w' none ∧ Lim r0)) {O : Ob} (w0 : World) (hO : Ok w0 O) (n : Int) (Q : Str → Prop) (h : F48.Er R n Q) :
  Ret Tryd.prog 77 [vi n] w0 (fun v w' => ∃ (r0 : Str), v = vs r0 ∧ Q r0 ∧ Gr w0 w' none ∧ Lim r0) := by
 unfold F48.Er at h;have H := h;clear h;have hc0 := Ct.init hO;refine X3 Tryd.func77 Z 31 Z [.tmp 2] Z Z ?_;refine Xb (Xd (Xf (vs []) Z (Xc (Xb (Xb (Xd (Xg (vi n) Z (Xa (Xx n (-9223372036854775807) (decide (n < (-9223372036854775807))) Z Z Z) ?_))))))));refine Xc ?_;refine Xu (decide (n < (-9223372036854775807))) Z (fun hq1 => ?_) (fun hq1 => ?_)
 ·have H := Xo H hq1;exact Xb (Xd (Xf (vs ([45, 57, 50, 50, 51, 51, 55, 50, 48, 51, 54, 56, 53, 52, 55, 55, 53, 56, 48, 56] : Str)) Z (Xc (Xl ⟨[vs ([45, 57, 50, 50, 51, 51, 55, 50, 48, 51, 54, 56, 53, 52, 55, 55, 53, 56, 48, 56] : Str)], ⟨_, Z, Z⟩, ([45, 57, 50, 50, 51, 51, 55, 50, 48, 51, 54, 56, 53, 52, 55, 55, 53, 56, 48, 56] : Str), Z, H, hc0.gr.g0, (by decide : Lim ([45, 57, 50, 50, 51, 51, 55, 50, 48, 51, 54, 56, 53, 52, 55, 55, 53, 56, 48, 56] : Str))⟩))))
 have H := Xp H hq1;refine Xt (Xb (Xb (Xd (Xg (vi n) Z (Xa (Xx n 0 (decide (n < 0)) Z Z Z) (Xc ?_))))));refine Xu (decide (n < 0)) Z (fun hq2 => ?_) (fun hq2 => ?_)
 ·have H := Xo H hq2;refine Xb (Xd (Xg (vi n) Z ?_));obtain ⟨hb3, H⟩ := H;refine Xa (Zo n Z hb3) ?_;refine Zb go77 [vi (-n)] Z ((hR w0 hc0.ok (-n) _ H).mono ?_);rintro _ w4 ⟨r, rfl, H, g5, hs6⟩;have aj := hc0.k0 g5;obtain ⟨ac, H⟩ := H;exact Xa (Yb ([45] : Str) r Z Z ac) (Xf (vs (([45] : Str) ++ r)) Z (Xc (Xl ⟨[vs (([45] : Str) ++ r)], ⟨_, Z, Z⟩, (([45] : Str) ++ r), Z, H, aj.gr.g0, (lim_cat ac)⟩)))
 have H := Xp H hq2;refine Xt (Xb (Xd (Xf (vs []) Z (Xc (Xb (X5 ?_))))));obtain ⟨ak, al, aa, H⟩ := H;refine Ye (α := Int × Str) (fun (n3, out2) t ad => ak n3 out2 ∧ Has t [(0, vi n3), (3, vs out2)] ∧ Ct [] w0 ad [] O ∧ Lim out2) (fun (n3, out2) => al n3 out2) (n, ([] : Str)) ⟨aa, (X2 Z), hc0, (by decide : Lim ([] : Str))⟩ ?_;rintro ⟨n3, out2⟩ _ ad ⟨aa, am, ae, a7⟩;obtain ⟨a8, rfl⟩ := Has.ins am;have H := H n3 out2 aa;refine Xb (Xb (Xd (Xg (vi n3) Z (Xa (Xx n3 9 (decide (n3 > 9)) Z Z Z) (Xc ?_)))));refine Xu (decide (n3 > 9)) Z (fun ab => ?_) (fun ab => ?_)
 ·have H := Xo H ab;refine Xt (X5 (Xb (Xd (Xg (vi n3) Z ?_))));obtain ⟨an, H⟩ := H;refine Xa (Zn n3 10 Z Z an) ?_;obtain ⟨ao, H⟩ := H;refine Xa (Yc 48 (n3 % 10) Z Z ao) ?_;obtain ⟨ap, H⟩ := H;refine Xa (Zh Tryd.underlying3 u5_ (48 + (n3 % 10)) Z ap) (Y7 (kd := Kd.byte) Zi ae ([(UInt8.ofNat (48 + (n3 % 10)).toNat)] : List UInt8) (cells := [v8 (UInt8.ofNat (48 + (n3 % 10)).toNat)]) ⟨[v8 (UInt8.ofNat (48 + (n3 % 10)).toNat)], _, Z, Z, Z⟩ RF fun a9 aq ar au ba hr35 av af => ?_);refine Xa (Zg Tryd.underlying29 u5_ u9_ aq ar au ([(UInt8.ofNat (48 + (n3 % 10)).toNat)] : List UInt8) Z (fun _ e => e ▸ ⟨_, af.sx⟩)) ?_;have bb : Lim ([(UInt8.ofNat (48 + (n3 % 10)).toNat)] : List UInt8) := af.le;refine Xg (vs out2) Z ?_;obtain ⟨ag, H⟩ := H;refine Xa (Yb ([(UInt8.ofNat (48 + (n3 % 10)).toNat)] : List UInt8) out2 Z Z ag) (Xf (vs (([(UInt8.ofNat (48 + (n3 % 10)).toNat)] : List UInt8) ++ out2)) Z (Xc (Xd (Xg (vi n3) Z ?_))));obtain ⟨aw, H⟩ := H;refine Xa (Zm n3 10 Z Z aw) (Xf (vi (n3 / 10)) Z (Xc ?_));have ax := av.drop 0 Z;obtain ⟨ay, az⟩ := H;exact ⟨(n3 / 10, (([(UInt8.ofNat (48 + (n3 % 10)).toNat)] : List UInt8) ++ out2)), az, ay, (X2 Z), ax, (lim_cat ag)⟩
 have H := Xp H ab;refine Yd (xin_hit ?_);refine Xb (Xd (Xg (vi n3) Z ?_));obtain ⟨a0, H⟩ := H;refine Xa (Yc 48 n3 Z Z a0) ?_;obtain ⟨a1, H⟩ := H;refine Xa (Zh Tryd.underlying3 u5_ (48 + n3) Z a1) (Y7 (kd := Kd.byte) Zi ae ([(UInt8.ofNat (48 + n3).toNat)] : List UInt8) (cells := [v8 (UInt8.ofNat (48 + n3).toNat)]) ⟨[v8 (UInt8.ofNat (48 + n3).toNat)], _, Z, Z, Z⟩ RF fun bc a2 a3 a4 bd hr52 a5 ah => ?_);refine Xa (Zg Tryd.underlying29 u5_ u9_ a2 a3 a4 ([(UInt8.ofNat (48 + n3).toNat)] : List UInt8) Z (fun _ e => e ▸ ⟨_, ah.sx⟩)) ?_;have be : Lim ([(UInt8.ofNat (48 + n3).toNat)] : List UInt8) := ah.le;refine Xg (vs out2) Z ?_;obtain ⟨ai, H⟩ := H;refine Xa (Yb ([(UInt8.ofNat (48 + n3).toNat)] : List UInt8) out2 Z Z ai) (Xf (vs (([(UInt8.ofNat (48 + n3).toNat)] : List UInt8) ++ out2)) Z (Xc (Xl ?_)));have a6 := a5.drop 0 Z;exact ⟨[vs (([(UInt8.ofNat (48 + n3).toNat)] : List UInt8) ++ out2)], ⟨_, Z, Z⟩, (([(UInt8.ofNat (48 + n3).toNat)] : List UInt8) ++ out2), Z, H, a6.gr.g0, (lim_cat ai)⟩
def F48.E0 (n : Int) (Q : Str → Prop) : Prop := F48.Er (fun _ _ => False) n Q
def F48.E (n : Int) (Q : Str → Prop) : Prop := F48.Er F48.E0 n Q
theorem F48.calls0 {O : Ob} (w0 : World) (hO : Ok w0 O) (n : Int) (Q : Str → Prop) (h : F48.E0 n Q) :
  Ret Tryd.prog 77 [vi n] w0 (fun v w' => ∃ (r0 : Str), v = vs r0 ∧ Q r0 ∧ Gr w0 w' none ∧ Lim r0) :=
 F48.callsr (fun _ _ => False) (fun w0 hO => by intros; contradiction) w0 hO n Q h
theorem F48.calls {n : Int} {Q : Str → Prop} (H : F48.E n Q) (hO : Ok w0 O) :
  Ret Tryd.prog 77 [vi n] w0 (fun v w' => ∃ (r0 : Str), v = vs r0 ∧ Q r0 ∧ Gr w0 w' none ∧ Lim r0) := by
 unfold F48.E at H;exact F48.callsr F48.E0 F48.calls0 w0 hO n Q H
def F13.E (s : Shape) (Q : Str → Prop) : Prop :=
 F29.E s (fun r => (if !r then Q [] else F47.E s.Kind (fun r2 => (∃ (I48 : Str → Int → Prop) (mu49 : Str → Int → Nat), I48 r2 0 ∧ ∀ (out2 : Str) (i2 : Int), I48 out2 i2 → (if decide (i2 < (s.Pts.length : Int)) then (out2.length + ([32] : Str).length ≤ 9223372036854775807) ∧ ((0 : Int) ≤ i2 ∧ i2 < (s.Pts.length : Int)) ∧ (∃ q : Str, F48.E ((nth s.Pts i2).X) (fun x => x = q) ∧ (Lim q) ∧ ((out2 ++ ([32] : Str)).length + q.length ≤ 9223372036854775807) ∧ (((out2 ++ ([32] : Str)) ++ q).length + ([44] : Str).length ≤ 9223372036854775807) ∧ ((0 : Int) ≤ i2 ∧ i2 < (s.Pts.length : Int)) ∧ (∃ q2 : Str, F48.E ((nth s.Pts i2).Y) (fun x => x = q2) ∧ (Lim q2) ∧ ((((out2 ++ ([32] : Str)) ++ q) ++ ([44] : Str)).length + q2.length ≤ 9223372036854775807) ∧ (-9223372036854775808 ≤ i2) ∧ I48 ((((out2 ++ ([32] : Str)) ++ q) ++ ([44] : Str)) ++ q2) (i2 + 1) ∧ mu49 ((((out2 ++ ([32] : Str)) ++ q) ++ ([44] : Str)) ++ q2) (i2 + 1) < mu49 out2 i2)) else Q out2)))))
theorem F13.calls {s : Shape} {A1 : Option Addr} {n2 c3 : Nat} {Q : Str → Prop} (H : F13.E s Q) (hO : Ok w0 O) (hp4 : Sl kPt w0 (Fr O) (G A1 n2 c3) s.Pts) :
  Ret Tryd.prog 47 [.agg #[vi s.Kind, G A1 n2 c3]] w0 (fun v w' => ∃ (r0 : Str), v = vs r0 ∧ Q r0 ∧ Gr w0 w' none ∧ Lim r0) := by
 unfold F13.E at H;have hc0 := Ct.init hO;refine X3 Tryd.func47 Z 38 Z [.tmp 2] Z Z ?_;refine Xb (Xd (Ya [vi s.Kind, G A1 n2 c3] Z fun w6 b7 hl9 hu10 g8 ax => ?_));have al := Fb.mk hc0.ok hl9 ax;have ad := hc0.k0 g8;refine Xf (vs []) Z (Xc (Xb (Xb (Xd (Xa (Xv ag34 sz34 cL (Ad b7 0) [vi s.Kind, G A1 n2 c3] Z Z (al.cells (off := 00) Z)) ?_)))));refine X0 go70 (F29.calls H ad.ok (hp4.st ad.st)) Z ?_;rintro _ ay ⟨r, rfl, H, am⟩;have ae := ad.k0 am;refine Xa (X1 r Z) (Xc ?_);refine Xu (!r) Z (fun aj => ?_) (fun aj => ?_)
 ·have H := Xo H aj;exact Xb (Xd (Xf (vs []) Z (Xc (Xl ⟨[vs []], ⟨_, Z, Z⟩, ([] : Str), Z, H, ae.gr.g0, (by decide : Lim ([] : Str))⟩))))
 have H := Xp H aj;refine Xt (Xb (Xd (Xa (Xj fa34_0 (Ad b7 0) (Ad b7 0) Z Z) ?_)));have az := ad.stn am;have an := (al.st az);refine Xa (Xn ag3 cL (Ad b7 0) (vi s.Kind) Z (an.cell Z)) ?_;refine X0 go76 (F47.calls H ae.ok) Z ?_;rintro _ bq ⟨r2, rfl, H, ao, a0⟩;have ap := ae.k0 ao;refine Xf (vs r2) Z (Xc (Xb (Xb (Xd (Xf (vi 0) Z (Xc (X5 ?_)))))));obtain ⟨a1, a2, ak, H⟩ := H;have a3 := ae.stn ao;have a4 := (an.st a3);refine Ye (α := Str × Int) (fun (out2, i2) t ab => a1 out2 i2 ∧ Has t [(1, Pz b7), (3, vs out2), (4, vi i2)] ∧ Cw [] w0 ab [] O fun M => Lim out2 ∧ Sl kPt ab (Fr M) (G A1 n2 c3) s.Pts ∧ Fb ab M b7 [vi s.Kind, G A1 n2 c3]) (fun (out2, i2) => a2 out2 i2) (r2, 0) ⟨ak, (X2 Z), ap, a0, (hp4.st ap.st), a4⟩ ?_;rintro ⟨out2, i2⟩ _ ab ⟨ak, a5, ac, a6, aa, af⟩;obtain ⟨br, rfl⟩ := Has.ins a5;have H := H out2 i2 ak;refine Xb (Xb (Xd (Xg (vi i2) Z (Xa (Xj fa34_1 (Ad b7 0) (Ad b7 1) Z Z) (Xa (Xn ag32 cL (Ad b7 1) (G A1 n2 c3) Z (af.cell Z)) ?_)))));have a7 := aa.le;refine Xa (X6 u32_ A1 n2 c3 aa.len Z) (Xa (Xx i2 (s.Pts.length : Int) (decide (i2 < (s.Pts.length : Int))) Z Z Z) (Xc ?_));refine Xu (decide (i2 < (s.Pts.length : Int))) Z (fun ag => ?_) (fun ag => ?_)
 ·have H := Xo H ag;refine Xt (Xb (X5 (Yh (fun x => Gr ab x none) RK RK (Gr.drew _) ?_)));refine Xs (vs out2) Z ?_;obtain ⟨a8, H⟩ := H;refine Xi (Yb out2 ([32] : Str) Z Z a8) (Xi (Xj fa34_1 (Ad b7 0) (Ad b7 1) Z Z) (Xi (Xn ag32 cQ (Ad b7 1) (G A1 n2 c3) Z (af.cell Z)) (Xs (vi i2) Z ?_)));obtain ⟨aq, H⟩ := H;obtain ⟨ah, bs, a9, bt, ba, bb⟩ := aa.get default RD i2 aq;obtain rfl := kPt.op ba;refine Xi (X4 u32_ Yl A1 ah n2 c3 aa.len i2 Z a9 Z aq) (Xi (Xj fa87_0 (ah.add (i2.toNat * 2)) ((ah.add (i2.toNat * 2)).add 0) Z Z) (Xi (Xn ag3 cQ ((ah.add (i2.toNat * 2)).add 0) (vi ((nth s.Pts i2).X)) Z (bb 0 _ Z)) ?_));obtain ⟨q, bc, bu, H⟩ := H;refine Yf go77 [vi ((nth s.Pts i2).X)] Z (vs q) (fun w g => (F48.calls bc (ac.k0 g).ok).mono ?_) ?_
  ·rintro _ w ⟨r, rfl, rfl, g2, _⟩;exact ⟨Z, Gr.t0 g g2⟩
  obtain ⟨bd, H⟩ := H;refine Xi (Yb (out2 ++ ([32] : Str)) q Z Z bd) ?_;obtain ⟨be, H⟩ := H;refine Xi (Yb ((out2 ++ ([32] : Str)) ++ q) ([44] : Str) Z Z be) (Xi (Xj fa34_1 (Ad b7 0) (Ad b7 1) Z Z) (Xi (Xn ag32 cQ (Ad b7 1) (G A1 n2 c3) Z (af.cell Z)) (Xs (vi i2) Z ?_)));obtain ⟨ar, H⟩ := H;obtain ⟨ai, bv, bf, bw, bg, bh⟩ := aa.get default RD i2 ar;obtain rfl := kPt.op bg;refine Xi (X4 u32_ Yl A1 ai n2 c3 aa.len i2 Z bf Z ar) (Xi (Xj fa87_1 (ai.add (i2.toNat * 2)) ((ai.add (i2.toNat * 2)).add 1) Z Z) (Xi (Xn ag3 cQ ((ai.add (i2.toNat * 2)).add 1) (vi ((nth s.Pts i2).Y)) Z (bh 1 _ Z)) ?_));obtain ⟨q2, bi, bx, H⟩ := H;refine Yf go77 [vi ((nth s.Pts i2).Y)] Z (vs q2) (fun w g => (F48.calls bi (ac.k0 g).ok).mono ?_) ?_
  ·rintro _ w ⟨r, rfl, rfl, g2, _⟩;exact ⟨Z, Gr.t0 g g2⟩
  obtain ⟨au, H⟩ := H;refine Xi (Yb (((out2 ++ ([32] : Str)) ++ q) ++ ([44] : Str)) q2 Z Z au) (Yv (vs ((((out2 ++ ([32] : Str)) ++ q) ++ ([44] : Str)) ++ q2)) Z (X9 fun bz av => ?_));have bj := ac.k0 av;refine Xd (Xg (vi i2) Z ?_);obtain ⟨bl, H⟩ := H;have bm : I64 (i2 + 1) := i64_succ (of_decide_eq_true ag) a7 bl;refine Xa (Yc i2 1 Z Z bm) (Xf (vi (i2 + 1)) Z (Xc ?_));obtain ⟨bn, bo⟩ := H;have aw := ac.stn av;have bp := (af.st aw);exact ⟨(((((out2 ++ ([32] : Str)) ++ q) ++ ([44] : Str)) ++ q2), i2 + 1), bo, bn, (X2 Z), bj, (lim_cat au), (aa.st aw), bp⟩
 have H := Xp H ag;refine Yd (xin_hit ?_);exact Xb (Xd (Xg (vs out2) Z (Xf (vs out2) Z (Xc (Xl ⟨[vs out2], ⟨_, Z, Z⟩, out2, Z, H, ac.gr.g0, a6⟩)))))
def F20.E (f : Feat) (Q : Str → Prop) : Prop :=
 F45.E f (fun r => (if !r then Q [] else (f.Id.length + ([32] : Str).length ≤ 9223372036854775807) ∧ (∃ q : Str, F13.E f.Shape (fun x => x = q) ∧ (Lim q) ∧ ((f.Id ++ ([32] : Str)).length + q.length ≤ 9223372036854775807) ∧ (∃ (I67 : Str → Int → Prop) (mu68 : Str → Int → Nat), I67 ((f.Id ++ ([32] : Str)) ++ q) 0 ∧ ∀ (out2 : Str) (i2 : Int), I67 out2 i2 → (if decide (i2 < (f.Tags.length : Int)) then (out2.length + ([32] : Str).length ≤ 9223372036854775807) ∧ ((0 : Int) ≤ i2 ∧ i2 < (f.Tags.length : Int)) ∧ ((out2 ++ ([32] : Str)).length + ((nth f.Tags i2).Key).length ≤ 9223372036854775807) ∧ (((out2 ++ ([32] : Str)) ++ ((nth f.Tags i2).Key)).length + ([61] : Str).length ≤ 9223372036854775807) ∧ ((0 : Int) ≤ i2 ∧ i2 < (f.Tags.length : Int)) ∧ ((((out2 ++ ([32] : Str)) ++ ((nth f.Tags i2).Key)) ++ ([61] : Str)).length + ((nth f.Tags i2).Val).length ≤ 9223372036854775807) ∧ (-9223372036854775808 ≤ i2) ∧ I67 ((((out2 ++ ([32] : Str)) ++ ((nth f.Tags i2).Key)) ++ ([61] : Str)) ++ ((nth f.Tags i2).Val)) (i2 + 1) ∧ mu68 ((((out2 ++ ([32] : Str)) ++ ((nth f.Tags i2).Key)) ++ ([61] : Str)) ++ ((nth f.Tags i2).Val)) (i2 + 1) < mu68 out2 i2 else Q out2)))))
theorem F20.calls {f : Feat} {A2 : Option Addr} {n3 c4 : Nat} {A7 : Option Addr} {n8 c9 : Nat} {Q : Str → Prop} (H : F20.E f Q) (hO : Ok w0 O) (hs1 : Lim f.Id) (hp5 : Sl kPt w0 (Fr O) (G A2 n3 c4) f.Shape.Pts) (ap : Sl kTag w0 (Fr O) (G A7 n8 c9) f.Tags) :
  Ret Tryd.prog 28 [.agg #[vs f.Id, vi f.Shape.Kind, G A2 n3 c4, G A7 n8 c9]] w0 (fun v w' => ∃ (r0 : Str), v = vs r0 ∧ Q r0 ∧ Gr w0 w' none ∧ Lim r0) := by
 unfold F20.E at H;have hc0 := Ct.init hO;refine X3 Tryd.func28 Z 40 Z [.tmp 2] Z Z ?_;refine Xb (Xd (Ya [vs f.Id, vi f.Shape.Kind, G A2 n3 c4, G A7 n8 c9] Z fun a0 aa a1 hu16 a2 a3 => ?_));have aq := Fb.mk hc0.ok a1 a3;have ad := hc0.k0 a2;refine Xf (vs []) Z (Xc (Xb (Xb (Xd (Xa (Xv ag37 sz37 cL (Ad aa 0) [vs f.Id, vi f.Shape.Kind, G A2 n3 c4, G A7 n8 c9] Z Z (aq.cells (off := 00) Z)) ?_)))));refine X0 go41 (F45.calls H ad.ok hs1 (hp5.st ad.st) (ap.st ad.st)) Z ?_;rintro _ a4 ⟨r, rfl, H, ar⟩;have ae := ad.k0 ar;refine Xa (X1 r Z) (Xc ?_);refine Xu (!r) Z (fun aj => ?_) (fun aj => ?_)
 ·have H := Xo H aj;exact Xb (Xd (Xf (vs []) Z (Xc (Xl ⟨[vs []], ⟨_, Z, Z⟩, ([] : Str), Z, H, ae.gr.g0, (by decide : Lim ([] : Str))⟩))))
 have H := Xp H aj;refine Xt (Xb (Yh (fun x => Gr a4 x none) RK RK (Gr.drew _) ?_));refine Xi (Xj fa37_0 (Ad aa 0) (Ad aa 0) Z Z) ?_;have a5 := ad.stn ar;have ak := (aq.st a5);refine Xi (Xn ag9 cQ (Ad aa 0) (vs f.Id) Z (ak.cell Z)) ?_;obtain ⟨a6, H⟩ := H;refine Xi (Yb f.Id ([32] : Str) Z Z a6) (Xi (Xj fa37_1 (Ad aa 0) (Ad aa 1) Z Z) (Xi (Xv ag34 sz34 cQ (Ad aa 1) [vi f.Shape.Kind, G A2 n3 c4] Z Z (ak.cells (off := 1) Z)) ?_));obtain ⟨q, a7, bw, H⟩ := H;refine Yf go47 [.agg #[vi f.Shape.Kind, G A2 n3 c4]] Z (vs q) (fun w g => (F13.calls a7 (ae.k0 g).ok ((hp5.st ae.st).st (.new _ g))).mono ?_) ?_
 ·rintro _ w ⟨r, rfl, rfl, g2, _⟩;exact ⟨Z, Gr.t0 g g2⟩
 obtain ⟨au, H⟩ := H;refine Xi (Yb (f.Id ++ ([32] : Str)) q Z Z au) (Yv (vs ((f.Id ++ ([32] : Str)) ++ q)) Z (X9 fun bx av => ?_));have al := ae.k0 av;refine Xb (Xb (Xd (Xf (vi 0) Z (Xc (X5 ?_)))));obtain ⟨a8, a9, am, H⟩ := H;have ba := ae.stn av;have bb := (ak.st ba);refine Ye (α := Str × Int) (fun (out2, i2) t ac => a8 out2 i2 ∧ Has t [(1, Pz aa), (3, vs out2), (4, vi i2)] ∧ Cw [] w0 ac [] O fun M => Lim out2 ∧ Sl kPt ac (Fr M) (G A2 n3 c4) f.Shape.Pts ∧ Sl kTag ac (Fr M) (G A7 n8 c9) f.Tags ∧ Fb ac M aa [vs f.Id, vi f.Shape.Kind, G A2 n3 c4, G A7 n8 c9]) (fun (out2, i2) => a9 out2 i2) (((f.Id ++ ([32] : Str)) ++ q), 0) ⟨am, (X2 Z), al, (lim_cat au), (hp5.st al.st), (ap.st al.st), bb⟩ ?_;rintro ⟨out2, i2⟩ _ ac ⟨am, bc, an, bd, be, ab, af⟩;obtain ⟨bz, rfl⟩ := Has.ins bc;have H := H out2 i2 am;refine Xb (Xb (Xd (Xg (vi i2) Z (Xa (Xj fa37_2 (Ad aa 0) (Ad aa 3) Z Z) (Xa (Xn ag35 cL (Ad aa 3) (G A7 n8 c9) Z (af.cell Z)) ?_)))));have bf := ab.le;refine Xa (X6 u35_ A7 n8 c9 ab.len Z) (Xa (Xx i2 (f.Tags.length : Int) (decide (i2 < (f.Tags.length : Int))) Z Z Z) (Xc ?_));refine Xu (decide (i2 < (f.Tags.length : Int))) Z (fun ag => ?_) (fun ag => ?_)
 ·have H := Xo H ag;refine Xt (Xb (X5 (Yh (fun x => Gr ac x none) RK RK (Gr.drew _) ?_)));refine Xs (vs out2) Z ?_;obtain ⟨bg, H⟩ := H;refine Xi (Yb out2 ([32] : Str) Z Z bg) (Xi (Xj fa37_2 (Ad aa 0) (Ad aa 3) Z Z) (Xi (Xn ag35 cQ (Ad aa 3) (G A7 n8 c9) Z (af.cell Z)) (Xs (vi i2) Z ?_)));obtain ⟨aw, H⟩ := H;obtain ⟨ah, b0, bh, b1, bi, bj⟩ := ab.get default RD i2 aw;obtain ⟨rfl, b2, b3⟩ := kTag.op bi;refine Xi (X4 u35_ Yq A7 ah n8 c9 ab.len i2 Z bh Z aw) (Xi (Xj fa67_0 (ah.add (i2.toNat * 2)) ((ah.add (i2.toNat * 2)).add 0) Z Z) (Xi (Xn ag9 cQ ((ah.add (i2.toNat * 2)).add 0) (vs ((nth f.Tags i2).Key)) Z (bj 0 _ Z)) ?_));obtain ⟨bl, H⟩ := H;refine Xi (Yb (out2 ++ ([32] : Str)) ((nth f.Tags i2).Key) Z Z bl) ?_;obtain ⟨bm, H⟩ := H;refine Xi (Yb ((out2 ++ ([32] : Str)) ++ ((nth f.Tags i2).Key)) ([61] : Str) Z Z bm) (Xi (Xj fa37_2 (Ad aa 0) (Ad aa 3) Z Z) (Xi (Xn ag35 cQ (Ad aa 3) (G A7 n8 c9) Z (af.cell Z)) (Xs (vi i2) Z ?_)));obtain ⟨ax, H⟩ := H;obtain ⟨ai, b4, bn, b5, bo, bp⟩ := ab.get default RD i2 ax;obtain ⟨rfl, b6, b7⟩ := kTag.op bo;refine Xi (X4 u35_ Yq A7 ai n8 c9 ab.len i2 Z bn Z ax) (Xi (Xj fa67_1 (ai.add (i2.toNat * 2)) ((ai.add (i2.toNat * 2)).add 1) Z Z) (Xi (Xn ag9 cQ ((ai.add (i2.toNat * 2)).add 1) (vs ((nth f.Tags i2).Val)) Z (bp 1 _ Z)) ?_));obtain ⟨ay, H⟩ := H;refine Xi (Yb (((out2 ++ ([32] : Str)) ++ ((nth f.Tags i2).Key)) ++ ([61] : Str)) ((nth f.Tags i2).Val) Z Z ay) (Yv (vs ((((out2 ++ ([32] : Str)) ++ ((nth f.Tags i2).Key)) ++ ([61] : Str)) ++ ((nth f.Tags i2).Val))) Z (X9 fun b8 az => ?_));have bq := an.k0 az;refine Xd (Xg (vi i2) Z ?_);obtain ⟨br, H⟩ := H;have bs : I64 (i2 + 1) := i64_succ (of_decide_eq_true ag) bf br;refine Xa (Yc i2 1 Z Z bs) (Xf (vi (i2 + 1)) Z (Xc ?_));obtain ⟨bt, bu⟩ := H;have ao := an.stn az;have bv := (af.st ao);exact ⟨(((((out2 ++ ([32] : Str)) ++ ((nth f.Tags i2).Key)) ++ ([61] : Str)) ++ ((nth f.Tags i2).Val)), i2 + 1), bu, bt, (X2 Z), bq, (lim_cat ay), (be.st ao), (ab.st ao), bv⟩
 have H := Xp H ag;refine Yd (xin_hit ?_);exact Xb (Xd (Xg (vs out2) Z (Xf (vs out2) Z (Xc (Xl ⟨[vs out2], ⟨_, Z, Z⟩, out2, Z, H, an.gr.g0, bd⟩)))))
def F49.E (f : Feat) (is : Bool) (Q : Str → Prop) : Prop :=
 (if !is then Q ([45] : Str) else F20.E f (fun r => Q r))
theorem F49.calls {f : Feat} {A2 : Option Addr} {n3 c4 : Nat} {A7 : Option Addr} {n8 c9 : Nat} {is : Bool} {Q : Str → Prop} (H : F49.E f is Q) (hO : Ok w0 O) (hs1 : Lim f.Id) (hp5 : Sl kPt w0 (Fr O) (G A2 n3 c4) f.Shape.Pts) (ac : Sl kTag w0 (Fr O) (G A7 n8 c9) f.Tags) :
  Ret Tryd.prog 16 [.agg #[vs f.Id, vi f.Shape.Kind, G A2 n3 c4, G A7 n8 c9], vb is] w0 (fun v w' => ∃ (r0 : Str), v = vs r0 ∧ Q r0 ∧ Gr w0 w' none ∧ Lim r0) := by
 unfold F49.E at H;have hc0 := Ct.init hO;refine X3 Tryd.func16 Z 9 Z [.tmp 4] Z Z ?_;refine Xb (Xd (Ya [vs f.Id, vi f.Shape.Kind, G A2 n3 c4, G A7 n8 c9] Z fun ad ae af hu16 ag ah => ?_));have ai := Fb.mk hc0.ok af ah;have aa := hc0.k0 ag;refine Xf (vs []) Z (Xc (Xb (Xb (Xd (Xg (vb is) Z (Xa (X1 is Z) (Xc ?_)))))));refine Xu (!is) Z (fun ab => ?_) (fun ab => ?_)
 ·have H := Xo H ab;exact Xb (Xd (Xf (vs ([45] : Str)) Z (Xc (Xl ⟨[vs ([45] : Str)], ⟨_, Z, Z⟩, ([45] : Str), Z, H, aa.gr.g0, (by decide : Lim ([45] : Str))⟩))))
 have H := Xp H ab;refine Xt (Xb (Xd (Xa (Xv ag37 sz37 cL (Ad ae 0) [vs f.Id, vi f.Shape.Kind, G A2 n3 c4, G A7 n8 c9] Z Z (ai.cells (off := 00) Z)) ?_)));refine X0 go28 (F20.calls H aa.ok hs1 (hp5.st aa.st) (ac.st aa.st)) Z ?_;rintro _ am ⟨r, rfl, H, aj, ak⟩;have al := aa.k0 aj;exact Xf (vs r) Z (Xc (Xl ⟨[vs r], ⟨_, Z, Z⟩, r, Z, H, al.gr.g0, ak⟩))
def F21.E (d : List Change) (Q : Str → Prop) : Prop :=
 (∃ (I20 : Str → Int → Prop) (mu21 : Str → Int → Nat), I20 [] 0 ∧ ∀ (out2 : Str) (i2 : Int), I20 out2 i2 → (if decide (i2 < (d.length : Int)) then F46.E d (fun r => (if r then ((0 : Int) ≤ i2 ∧ i2 < (d.length : Int)) ∧ (out2.length + ((nth d i2).Id).length ≤ 9223372036854775807) ∧ ((out2 ++ ((nth d i2).Id)).length + ([58, 32] : Str).length ≤ 9223372036854775807) ∧ ((0 : Int) ≤ i2 ∧ i2 < (d.length : Int)) ∧ ((0 : Int) ≤ i2 ∧ i2 < (d.length : Int)) ∧ (∃ q : Str, F49.E ((nth d i2).Was) ((nth d i2).Had) (fun x => x = q) ∧ (Lim q) ∧ (((out2 ++ ((nth d i2).Id)) ++ ([58, 32] : Str)).length + q.length ≤ 9223372036854775807) ∧ ((((out2 ++ ((nth d i2).Id)) ++ ([58, 32] : Str)) ++ q).length + ([32, 62, 32] : Str).length ≤ 9223372036854775807) ∧ ((0 : Int) ≤ i2 ∧ i2 < (d.length : Int)) ∧ ((0 : Int) ≤ i2 ∧ i2 < (d.length : Int)) ∧ (∃ q2 : Str, F49.E ((nth d i2).Now) ((nth d i2).Has) (fun x => x = q2) ∧ (Lim q2) ∧ (((((out2 ++ ((nth d i2).Id)) ++ ([58, 32] : Str)) ++ q) ++ ([32, 62, 32] : Str)).length + q2.length ≤ 9223372036854775807) ∧ ((((((out2 ++ ((nth d i2).Id)) ++ ([58, 32] : Str)) ++ q) ++ ([32, 62, 32] : Str)) ++ q2).length + ([10] : Str).length ≤ 9223372036854775807) ∧ (-9223372036854775808 ≤ i2) ∧ I20 ((((((out2 ++ ((nth d i2).Id)) ++ ([58, 32] : Str)) ++ q) ++ ([32, 62, 32] : Str)) ++ q2) ++ ([10] : Str)) (i2 + 1) ∧ mu21 ((((((out2 ++ ((nth d i2).Id)) ++ ([58, 32] : Str)) ++ q) ++ ([32, 62, 32] : Str)) ++ q2) ++ ([10] : Str)) (i2 + 1) < mu21 out2 i2)) else Q out2)) else Q out2))
theorem F21.calls {d : List Change} {A1 : Option Addr} {n2 c3 : Nat} {Q : Str → Prop} (H : F21.E d Q) (hO : Ok w0 O) (hp4 : Sl kChange w0 (Fr O) (G A1 n2 c3) d) :
  Ret Tryd.prog 7 [G A1 n2 c3] w0 (fun v w' => ∃ (r0 : Str), v = vs r0 ∧ Q r0 ∧ Gr w0 w' none ∧ Lim r0) := by
 unfold F21.E at H;have hc0 := Ct.init hO;refine X3 Tryd.func7 Z 50 Z [.tmp 2] Z Z ?_;refine Xb (Xd (Xf (vs []) Z (Xc (Xb (Xd (Xf (vs []) Z (Xc (Xb ?_))))))));refine Xb (Xd (Xf (vi 0) Z (Xc (X5 ?_))));obtain ⟨ba, bb, al, H⟩ := H;refine Ye (α := Str × Int) (fun (out2, i2) t ae => ba out2 i2 ∧ Has t [(0, G A1 n2 c3), (3, vs out2), (4, vi i2)] ∧ Ct [] w0 ae [] O ∧ Lim out2 ∧ Sl kChange ae (Fr ([] ++ O)) (G A1 n2 c3) d) (fun (out2, i2) => bb out2 i2) (([] : Str), 0) ⟨al, (X2 Z), hc0, (by decide : Lim ([] : Str)), hp4⟩ ?_;rintro ⟨out2, i2⟩ _ ae ⟨al, bc, af, a1, aa⟩;obtain ⟨cg, rfl⟩ := Has.ins bc;have H := H out2 i2 al;refine Xb (Xb (Xd (Xg (vi i2) Z (Xg (G A1 n2 c3) Z ?_))));have bd := aa.le;refine Xa (X6 u25_ A1 n2 c3 aa.len Z) (Xa (Xx i2 (d.length : Int) (decide (i2 < (d.length : Int))) Z Z Z) (Xg (vb (decide (i2 < (d.length : Int)))) Z ?_));rcases Xz (decide (i2 < (d.length : Int))) with ac | ac
 ·have H := Xo H ac;refine Xe ac Z (Xg (G A1 n2 c3) Z (Xe ac Z ?_));refine X0 go12 (F46.calls H af.ok aa) Z ?_;rintro _ be ⟨r, rfl, H, a2⟩;have ad := af.k0 a2;refine Xa (Xk true (vb r) ac Z) (Xc ?_);refine Xu r Z (fun am => ?_) (fun am => ?_)
  ·have H := Xo H am;refine Xt (Xb (X5 (Yh (fun x => Gr be x none) RK RK (Gr.drew _) ?_)));refine Xs (vs out2) Z (Xs (G A1 n2 c3) Z (Xs (vi i2) Z ?_));obtain ⟨a3, H⟩ := H;have ab := af.stn a2;obtain ⟨ag, ch, bf, ci, bg, bh⟩ := (aa.st ab).get default RD i2 a3;obtain ⟨cj, ck, cl, cm, cn, co, cp, cq, cr, cs, ct, cu, rfl, cv, cw, cx, cy, cz, c0, c1⟩ := kChange.op bg;refine Xi (X4 u25_ Ys A1 ag n2 c3 (aa.st ab).len i2 Z bf Z a3) (Xi (Xj fa39_0 (ag.add (i2.toNat * 11)) ((ag.add (i2.toNat * 11)).add 0) Z Z) (Xi (Xn ag9 cQ ((ag.add (i2.toNat * 11)).add 0) (vs ((nth d i2).Id)) Z (bh 0 _ Z)) ?_));obtain ⟨bi, H⟩ := H;refine Xi (Yb out2 ((nth d i2).Id) Z Z bi) ?_;obtain ⟨bj, H⟩ := H;refine Xi (Yb (out2 ++ ((nth d i2).Id)) ([58, 32] : Str) Z Z bj) (Xs (G A1 n2 c3) Z (Xs (vi i2) Z ?_));obtain ⟨a4, H⟩ := H;obtain ⟨ah, c2, bl, c4, bm, bn⟩ := (aa.st ab).get default RD i2 a4;obtain ⟨an, ao, ap, aq, ar, au, c5, c6, c7, c8, c9, da, rfl, db, bo, bp, bq, dc, dd, de⟩ := kChange.op bm;refine Xi (X4 u25_ Ys A1 ah n2 c3 (aa.st ab).len i2 Z bl Z a4) (Xi (Xj fa39_2 (ah.add (i2.toNat * 11)) ((ah.add (i2.toNat * 11)).add 2) Z Z) (Xi (Xv ag37 sz37 cQ ((ah.add (i2.toNat * 11)).add 2) [vs ((nth d i2).Was.Id), vi ((nth d i2).Was.Shape.Kind), G an ao ap, G aq ar au] Z Z (sub_cells (off := 2) bn Z)) (Xs (G A1 n2 c3) Z (Xs (vi i2) Z ?_))));obtain ⟨a5, H⟩ := H;obtain ⟨ai, df, br, dg, bs, bt⟩ := (aa.st ab).get default RD i2 a5;obtain ⟨dh, di, dj, dk, dl, dm, dn, dp, dq, dr, ds, dt, rfl, du, dv, dw, dx, dy, dz, d0⟩ := kChange.op bs;refine Xi (X4 u25_ Ys A1 ai n2 c3 (aa.st ab).len i2 Z br Z a5) (Xi (Xj fa39_1 (ai.add (i2.toNat * 11)) ((ai.add (i2.toNat * 11)).add 1) Z Z) (Xi (Xn ag4 cQ ((ai.add (i2.toNat * 11)).add 1) (vb ((nth d i2).Had)) Z (bt 1 _ Z)) ?_));obtain ⟨q, bu, d1, H⟩ := H;refine Yf go16 [.agg #[vs ((nth d i2).Was.Id), vi ((nth d i2).Was.Shape.Kind), G an ao ap, G aq ar au], vb ((nth d i2).Had)] Z (vs q) (fun w g => (F49.calls bu (ad.k0 g).ok bo (bp.st (.new _ g)) (bq.st (.new _ g))).mono ?_) ?_
   ·rintro _ w ⟨r, rfl, rfl, g2, _⟩;exact ⟨Z, Gr.t0 g g2⟩
   obtain ⟨bv, H⟩ := H;refine Xi (Yb ((out2 ++ ((nth d i2).Id)) ++ ([58, 32] : Str)) q Z Z bv) ?_;obtain ⟨bw, H⟩ := H;refine Xi (Yb (((out2 ++ ((nth d i2).Id)) ++ ([58, 32] : Str)) ++ q) ([32, 62, 32] : Str) Z Z bw) (Xs (G A1 n2 c3) Z (Xs (vi i2) Z ?_));obtain ⟨a6, H⟩ := H;obtain ⟨aj, d2, bx, d3, bz, b0⟩ := (aa.st ab).get default RD i2 a6;obtain ⟨d4, d5, d6, d7, d8, d9, av, aw, ax, ay, az, a0, rfl, ea, eb, ec, ed, b1, b2, b3⟩ := kChange.op bz;refine Xi (X4 u25_ Ys A1 aj n2 c3 (aa.st ab).len i2 Z bx Z a6) (Xi (Xj fa39_4 (aj.add (i2.toNat * 11)) ((aj.add (i2.toNat * 11)).add 7) Z Z) (Xi (Xv ag37 sz37 cQ ((aj.add (i2.toNat * 11)).add 7) [vs ((nth d i2).Now.Id), vi ((nth d i2).Now.Shape.Kind), G av aw ax, G ay az a0] Z Z (sub_cells (off := 7) b0 Z)) (Xs (G A1 n2 c3) Z (Xs (vi i2) Z ?_))));obtain ⟨a7, H⟩ := H;obtain ⟨ak, ee, b4, ef, b5, b6⟩ := (aa.st ab).get default RD i2 a7;obtain ⟨eg, eh, ei, ej, ek, el, em, en, eo, ep, eq, er, rfl, es, et, eu, ev, ew, ex, ey⟩ := kChange.op b5;refine Xi (X4 u25_ Ys A1 ak n2 c3 (aa.st ab).len i2 Z b4 Z a7) (Xi (Xj fa39_3 (ak.add (i2.toNat * 11)) ((ak.add (i2.toNat * 11)).add 6) Z Z) (Xi (Xn ag4 cQ ((ak.add (i2.toNat * 11)).add 6) (vb ((nth d i2).Has)) Z (b6 6 _ Z)) ?_));obtain ⟨q2, b7, ez, H⟩ := H;refine Yf go16 [.agg #[vs ((nth d i2).Now.Id), vi ((nth d i2).Now.Shape.Kind), G av aw ax, G ay az a0], vb ((nth d i2).Has)] Z (vs q2) (fun w g => (F49.calls b7 (ad.k0 g).ok b1 (b2.st (.new _ g)) (b3.st (.new _ g))).mono ?_) ?_
   ·rintro _ w ⟨r, rfl, rfl, g2, _⟩;exact ⟨Z, Gr.t0 g g2⟩
   obtain ⟨b8, H⟩ := H;refine Xi (Yb ((((out2 ++ ((nth d i2).Id)) ++ ([58, 32] : Str)) ++ q) ++ ([32, 62, 32] : Str)) q2 Z Z b8) ?_;obtain ⟨a8, H⟩ := H;refine Xi (Yb (((((out2 ++ ((nth d i2).Id)) ++ ([58, 32] : Str)) ++ q) ++ ([32, 62, 32] : Str)) ++ q2) ([10] : Str) Z Z a8) (Yv (vs ((((((out2 ++ ((nth d i2).Id)) ++ ([58, 32] : Str)) ++ q) ++ ([32, 62, 32] : Str)) ++ q2) ++ ([10] : Str))) Z (X9 fun e0 a9 => ?_));have b9 := ad.k0 a9;refine Xd (Xg (vi i2) Z ?_);obtain ⟨ca, H⟩ := H;have cb : I64 (i2 + 1) := i64_succ (of_decide_eq_true ac) bd ca;refine Xa (Yc i2 1 Z Z cb) (Xf (vi (i2 + 1)) Z (Xc ?_));obtain ⟨cc, cd⟩ := H;have ce := ad.stn a9;have cf := ((aa.st ab).st ce);exact ⟨(((((((out2 ++ ((nth d i2).Id)) ++ ([58, 32] : Str)) ++ q) ++ ([32, 62, 32] : Str)) ++ q2) ++ ([10] : Str)), i2 + 1), cd, cc, (X2 Z), b9, (lim_cat a8), cf⟩
  have H := Xp H am;refine Yd (xin_hit ?_);exact Xb (Xd (Xg (vs out2) Z (Xf (vs out2) Z (Xc (Xl ⟨[vs out2], ⟨_, Z, Z⟩, out2, Z, H, ad.gr.g0, a1⟩)))))
 have H := Xp H ac;refine Xh ac Z (Xh ac Z (Xa (Xk false (vb false) ac Z) (Xc (Yo (b := false) Z Z ?_))));refine Yd (xin_hit ?_);exact Xb (Xd (Xg (vs out2) Z (Xf (vs out2) Z (Xc (Xl ⟨[vs out2], ⟨_, Z, Z⟩, out2, Z, H, af.gr.g0, a1⟩)))))
def F50.E (n low high : Int) (Q : Bool → Prop) : Prop :=
 (if decide (n ≥ low) then Q (decide (n ≤ high)) else Q false)
theorem F50.calls {n : Int} {low : Int} {high : Int} {Q : Bool → Prop} (H : F50.E n low high Q) (hO : Ok w0 O) :
  Ret Tryd.prog 42 [vi n, vi low, vi high] w0 (fun v w' => ∃ (r0 : Bool), v = vb r0 ∧ Q r0 ∧ Gr w0 w' none ∧ w' = w0) := by
 unfold F50.E at H;have hc0 := Ct.init hO;refine X3 Tryd.func42 Z 15 Z [.tmp 6] Z Z ?_;refine Xb (Xd (Xf (vb false) Z (Xc (Xb (Xd (Xg (vi n) Z (Xg (vi low) Z (Xa (Xx n low (decide (n ≥ low)) Z Z Z) ?_))))))));refine Xg (vb (decide (n ≥ low))) Z ?_;rcases Xz (decide (n ≥ low)) with hq1 | hq1
 ·have H := Xo H hq1;refine Xe hq1 Z (Xg (vi n) Z (Xe hq1 Z (Xg (vi high) Z (Xe hq1 Z (Xa (Xx n high (decide (n ≤ high)) Z Z Z) (Xa (Xk true (vb (decide (n ≤ high))) hq1 Z) (Xf (vb (decide (n ≤ high))) Z (Xc ?_))))))));exact Xl ⟨[vb (decide (n ≤ high))], ⟨_, Z, Z⟩, decide (n ≤ high), Z, H, hc0.gr.g0, Z⟩
 have H := Xp H hq1;exact Xh hq1 Z (Xh hq1 Z (Xh hq1 Z (Xa (Xk false (vb false) hq1 Z) (Xf (vb false) Z (Xc (Xl ⟨[vb false], ⟨_, Z, Z⟩, false, Z, H, hc0.gr.g0, Z⟩))))))
def F50.m (n low high : Int) : Bool := (if decide (n ≥ low) then (decide (n ≤ high)) else false)
theorem F50.fn (n low high : Int) : F50.E n low high (fun r => r = F50.m n low high) := by
 unfold F50.E F50.m;(repeat' split) <;> simp_all
def F51.E (s : Str) (Q : Bool → Prop) : Prop :=
 (∃ (I9 : Int → Prop) (mu10 : Int → Nat), I9 0 ∧ ∀ (v2 : Int), I9 v2 → (if decide (v2 < (s.length : Int)) then ((0 : Int) ≤ v2 ∧ v2 < (s.length : Int)) ∧ (if decide (((nth s v2).toNat : Int) < 97) then Q false else ((0 : Int) ≤ v2 ∧ v2 < (s.length : Int)) ∧ (if decide (((nth s v2).toNat : Int) > 122) then Q false else (I64 (v2 + 1)) ∧ I9 (v2 + 1) ∧ mu10 (v2 + 1) < mu10 v2)) else F50.E (s.length : Int) 1 6 (fun r => Q r)))
theorem F51.calls {s : Str} {Q : Bool → Prop} (H : F51.E s Q) (hO : Ok w0 O) (hs1 : Lim s) :
  Ret Tryd.prog 24 [vs s] w0 (fun v w' => ∃ (r0 : Bool), v = vb r0 ∧ Q r0 ∧ Gr w0 w' none) := by
 unfold F51.E at H;have hc0 := Ct.init hO;refine X3 Tryd.func24 Z 23 Z [.tmp 2] Z Z ?_;refine Xb (Xd (Xf (vb false) Z (Xc (Xb (Xb (Xd (Xg (vs s) Z ?_)))))));have hl2 := hs1;refine Xa (Yx u9_ s Z) (Xg (vi 0) Z (Xc (X5 ?_)));obtain ⟨I9, ae, ab, H⟩ := H;refine Ye (α := Int) (fun (sv__ : Int) t w7 => match sv__ with | v2 => I9 v2 ∧ Has t [(0, vs s), (5, vi (s.length : Int)), (6, vi v2)] ∧ Ct [] w0 w7 [] O) (fun (sv__ : Int) => match sv__ with | v2 => ae v2) 0 ⟨ab, (X2 Z), hc0⟩ ?_;rintro v2 _ w7 ⟨ab, af, hc8⟩;obtain ⟨an, rfl⟩ := Has.ins af;have H := H v2 ab;refine Xb (Xd (Xa (Xx v2 (s.length : Int) (decide (v2 < (s.length : Int))) Z Z Z) (Xc (Xb ?_))));refine Xu (decide (v2 < (s.length : Int))) Z (fun ac => ?_) (fun ac => ?_)
 ·have H := Xo H ac;refine Xt (Xb (X5 (Xb (Xd (Xg (vi v2) Z (Xf (vi v2) Z (Xc (Xb ?_))))))));refine Xd (Xg (vs s) Z (Xg (vi v2) Z ?_));obtain ⟨ag, H⟩ := H;refine Xa (Y2 u9_ s v2 Z Z ag) (Xa (Xx ((nth s v2).toNat : Int) 97 (decide (((nth s v2).toNat : Int) < 97)) Z Z Z) (Xg (vb (decide (((nth s v2).toNat : Int) < 97))) Z ?_));rcases Xz (decide (((nth s v2).toNat : Int) < 97)) with aa | aa
  ·have H := Xo H aa;refine Xh aa Z (Xh aa Z (Xh aa Z (Xh aa Z (Xa (Xk true (vb true) aa Z) (Xc (Yi (b := true) Z Z ?_))))));exact Xb (Xd (Xf (vb false) Z (Xc (Xl ⟨[vb false], ⟨_, Z, Z⟩, false, Z, H, hc8.gr.g0⟩))))
  have H := Xp H aa;refine Xe aa Z (Xg (vs s) Z (Xe aa Z (Xg (vi v2) Z (Xe aa Z ?_))));obtain ⟨ah, H⟩ := H;refine Xa (Y2 u9_ s v2 Z Z ah) (Xe aa Z (Xa (Xx ((nth s v2).toNat : Int) 122 (decide (((nth s v2).toNat : Int) > 122)) Z Z Z) (Xa (Yj false (vb (decide (((nth s v2).toNat : Int) > 122))) (by exact congrArg Value.bool aa) Z) (Xc ?_))));refine Xu (decide (((nth s v2).toNat : Int) > 122)) Z (fun ad => ?_) (fun ad => ?_)
  ·have H := Xo H ad;exact Xb (Xd (Xf (vb false) Z (Xc (Xl ⟨[vb false], ⟨_, Z, Z⟩, false, Z, H, hc8.gr.g0⟩))))
  have H := Xp H ad;refine Xt (Xd ?_);obtain ⟨ai, H⟩ := H;refine Xa (Yc v2 1 Z Z ai) (Xg (vi (v2 + 1)) Z (Xc ?_));obtain ⟨aj, ak⟩ := H;exact ⟨v2 + 1, ak, aj, (X2 Z), hc8⟩
 have H := Xp H ac;refine Yd (xin_hit ?_);refine Xb (Xd (Xg (vs s) Z ?_));have ao := hs1;refine Xa (Yx u9_ s Z) ?_;refine X0 go42 (F50.calls H hc8.ok) Z ?_;rintro _ ap ⟨r, rfl, H, al, _⟩;have am := hc8.k0 al;exact Xf (vb r) Z (Xc (Xl ⟨[vb r], ⟨_, Z, Z⟩, r, Z, H, am.gr.g0⟩))
def F52.E (f : Feat) (Q : Bool → Prop) : Prop :=
 (if f.Id == ([] : Str) then (if f.Shape.Kind == 0 then (if (f.Shape.Pts.length : Int) == 0 then Q ((f.Tags.length : Int) == 0) else Q false) else Q false) else Q false)
theorem F52.calls {f : Feat} {A2 : Option Addr} {n3 c4 : Nat} {A7 : Option Addr} {n8 c9 : Nat} {Q : Bool → Prop} (H : F52.E f Q) (hO : Ok w0 O) (hs1 : Lim f.Id) (hp5 : Sl kPt w0 (Fr O) (G A2 n3 c4) f.Shape.Pts) (ag : Sl kTag w0 (Fr O) (G A7 n8 c9) f.Tags) :
  Ret Tryd.prog 43 [.agg #[vs f.Id, vi f.Shape.Kind, G A2 n3 c4, G A7 n8 c9]] w0 (fun v w' => ∃ (r0 : Bool), v = vb r0 ∧ Q r0 ∧ Gr w0 w' none) := by
 unfold F52.E at H;have hc0 := Ct.init hO;refine X3 Tryd.func43 Z 25 Z [.tmp 2] Z Z ?_;refine Xb (Xd (Ya [vs f.Id, vi f.Shape.Kind, G A2 n3 c4, G A7 n8 c9] Z fun ak aa ah hu16 ai aj => ?_));have af := Fb.mk hc0.ok ah aj;have ae := hc0.k0 ai;refine Xf (vb false) Z (Xc (Xb (Xd (Xa (Xj fa37_0 (Ad aa 0) (Ad aa 0) Z Z) (Xa (Xn ag9 cL (Ad aa 0) (vs f.Id) Z (af.cell Z)) (Xa (Yg f.Id ([] : Str) (f.Id == ([] : Str)) Z Z Z) (Xg (vb (f.Id == ([] : Str))) Z ?_)))))));rcases Xz (f.Id == ([] : Str)) with ac | ac
 ·have H := Xo H ac;refine Xe ac Z (Xa (Xj fa37_1 (Ad aa 0) (Ad aa 1) Z Z) (Xe ac Z (Xa (Xj fa34_0 (Ad aa 1) (Ad aa 1) Z Z) (Xe ac Z (Xa (Xn ag3 cL (Ad aa 1) (vi f.Shape.Kind) Z (af.cell Z)) (Xe ac Z (Xa (Xx f.Shape.Kind 0 (f.Shape.Kind == 0) Z Z Z) (Xa (Xk true (vb (f.Shape.Kind == 0)) ac Z) ?_))))))));refine Xg (vb (f.Shape.Kind == 0)) Z ?_;rcases Xz (f.Shape.Kind == 0) with ab | ab
  ·have H := Xo H ab;refine Xe ab Z (Xa (Xj fa37_1 (Ad aa 0) (Ad aa 1) Z Z) (Xe ab Z (Xa (Xj fa34_1 (Ad aa 1) (Ad aa 2) Z Z) (Xe ab Z (Xa (Xn ag32 cL (Ad aa 2) (G A2 n3 c4) Z (af.cell Z)) (Xe ab Z ?_))))));have al := (hp5.st ae.st).le;refine Xa (X6 u32_ A2 n3 c4 (hp5.st ae.st).len Z) (Xe ab Z (Xa (Xx (f.Shape.Pts.length : Int) 0 ((f.Shape.Pts.length : Int) == 0) Z Z Z) (Xa (Xk true (vb ((f.Shape.Pts.length : Int) == 0)) ab Z) (Xg (vb ((f.Shape.Pts.length : Int) == 0)) Z ?_))));rcases Xz ((f.Shape.Pts.length : Int) == 0) with ad | ad
   ·have H := Xo H ad;refine Xe ad Z (Xa (Xj fa37_2 (Ad aa 0) (Ad aa 3) Z Z) (Xe ad Z (Xa (Xn ag35 cL (Ad aa 3) (G A7 n8 c9) Z (af.cell Z)) (Xe ad Z ?_))));have am := (ag.st ae.st).le;exact Xa (X6 u35_ A7 n8 c9 (ag.st ae.st).len Z) (Xe ad Z (Xa (Xx (f.Tags.length : Int) 0 ((f.Tags.length : Int) == 0) Z Z Z) (Xa (Xk true (vb ((f.Tags.length : Int) == 0)) ad Z) (Xf (vb ((f.Tags.length : Int) == 0)) Z (Xc (Xl ⟨[vb ((f.Tags.length : Int) == 0)], ⟨_, Z, Z⟩, (f.Tags.length : Int) == 0, Z, H, ae.gr.g0⟩))))))
   have H := Xp H ad;exact Xh ad Z (Xh ad Z (Xh ad Z (Xh ad Z (Xa (Xk false (vb false) ad Z) (Xf (vb false) Z (Xc (Xl ⟨[vb false], ⟨_, Z, Z⟩, false, Z, H, ae.gr.g0⟩)))))))
  have H := Xp H ab;refine Xh ab Z (Xh ab Z (Xh ab Z (Xh ab Z (Xh ab Z (Xa (Xk false (vb false) ab Z) (Xg (vb false) Z (Xy (dj := 19) Z Z (.inl Z) (Xy (dj := 19) Z Z (.inl Z) ?_))))))));exact Xy (dj := 19) Z Z (.inl Z) (Xy (dj := 19) Z Z (.inl Z) (Xa (Xk false (vb false) Z Z) (Xf (vb false) Z (Xc (Xl ⟨[vb false], ⟨_, Z, Z⟩, false, Z, H, ae.gr.g0⟩)))))
 have H := Xp H ac;refine Xh ac Z (Xh ac Z (Xh ac Z (Xh ac Z (Xa (Xk false (vb false) ac Z) (Xg (vb false) Z (Xy (dj := 12) Z Z (.inl Z) (Xy (dj := 12) Z Z (.inl Z) (Xy (dj := 12) Z Z (.inl Z) ?_))))))));refine Xy (dj := 12) Z Z (.inl Z) (Xy (dj := 12) Z Z (.inl Z) (Xa (Xk false (vb false) Z Z) (Xg (vb false) Z (Xy (dj := 19) Z Z (.inl Z) (Xy (dj := 19) Z Z (.inl Z) (Xy (dj := 19) Z Z (.inl Z) (Xy (dj := 19) Z Z (.inl Z) (Xa (Xk false (vb false) Z Z) ?_))))))));exact Xf (vb false) Z (Xc (Xl ⟨[vb false], ⟨_, Z, Z⟩, false, Z, H, ae.gr.g0⟩))
def F85.E (p : Pt) (Q : Bool → Prop) : Prop :=
 F50.E p.X (-1000) 1000 (fun r => (if r then F50.E p.Y (-1000) 1000 (fun r2 => Q r2) else Q false))
theorem F85.calls {p : Pt} {Q : Bool → Prop} (H : F85.E p Q) (hO : Ok w0 O) :
  Ret Tryd.prog 80 [.agg #[vi p.X, vi p.Y]] w0 (fun v w' => ∃ (r0 : Bool), v = vb r0 ∧ Q r0 ∧ Gr w0 w' none) := by
 unfold F85.E at H;have hc0 := Ct.init hO;refine X3 Tryd.func80 Z 11 Z [.tmp 2] Z Z ?_;refine Xb (Xd (Ya [vi p.X, vi p.Y] Z fun w1 b2 hl4 hu5 g3 hx6 => ?_));have h8 := Fb.mk hc0.ok hl4 hx6;have hc9 := hc0.k0 g3;refine Xf (vb false) Z (Xc (Xb (Xd (Xa (Xj fa87_0 (Ad b2 0) (Ad b2 0) Z Z) (Xa (Xn ag3 cL (Ad b2 0) (vi p.X) Z (h8.cell Z)) ?_)))));refine X0 go42 (F50.calls H hc9.ok) Z ?_;rintro _ ad ⟨r, rfl, H, ac, _⟩;have ab := hc9.k0 ac;refine Xg (vb r) Z ?_;rcases Xz r with aa | aa
 ·have H := Xo H aa;refine Xe aa Z (Xa (Xj fa87_1 (Ad b2 0) (Ad b2 1) Z Z) (Xe aa Z ?_));have ae := hc9.stn ac;have af := (h8.st ae);refine Xa (Xn ag3 cL (Ad b2 1) (vi p.Y) Z (af.cell Z)) (Xe aa Z ?_);refine X0 go42 (F50.calls H ab.ok) Z ?_;rintro _ ai ⟨r2, rfl, H, ag, _⟩;have ah := ab.k0 ag;exact Xa (Xk true (vb r2) aa Z) (Xf (vb r2) Z (Xc (Xl ⟨[vb r2], ⟨_, Z, Z⟩, r2, Z, H, ah.gr.g0⟩)))
 have H := Xp H aa;exact Xh aa Z (Xh aa Z (Xh aa Z (Xa (Xk false (vb false) aa Z) (Xf (vb false) Z (Xc (Xl ⟨[vb false], ⟨_, Z, Z⟩, false, Z, H, ab.gr.g0⟩))))))
def F30.E (s : Shape) (Q : Bool → Prop) : Prop :=
 (∃ (I31 : Int → Prop) (mu32 : Int → Nat), I31 0 ∧ ∀ (v2 : Int), I31 v2 → (if decide (v2 < (s.Pts.length : Int)) then ((0 : Int) ≤ v2 ∧ v2 < (s.Pts.length : Int)) ∧ (∃ q : Bool, F85.E (nth s.Pts v2) (fun x => x = q) ∧ (if !q then Q false else (if decide (v2 > 0) then (I64 (v2 - 1)) ∧ ((0 : Int) ≤ v2 - 1 ∧ v2 - 1 < (s.Pts.length : Int)) ∧ (if eqPt (nth s.Pts (v2 - 1)) (nth s.Pts v2) then Q false else (I64 (v2 + 1)) ∧ I31 (v2 + 1) ∧ mu32 (v2 + 1) < mu32 v2) else (I64 (v2 + 1)) ∧ I31 (v2 + 1) ∧ mu32 (v2 + 1) < mu32 v2))) else (if s.Kind == 1 then Q ((s.Pts.length : Int) == 1) else (if s.Kind == 2 then F50.E (s.Pts.length : Int) 2 6 (fun r2 => Q r2) else (if s.Kind == 3 then (if (F50.m (s.Pts.length : Int) 3 6) then ((0 : Int) ≤ 0 ∧ 0 < (s.Pts.length : Int)) ∧ ((s.Pts.length : Int) ≤ 9223372036854775807 → I64 ((s.Pts.length : Int) - 1)) ∧ ((0 : Int) ≤ (s.Pts.length : Int) - 1 ∧ (s.Pts.length : Int) - 1 < (s.Pts.length : Int)) ∧ Q (!(eqPt (nth s.Pts 0) (nth s.Pts ((s.Pts.length : Int) - 1)))) else Q false) else Q false)))))
theorem F30.calls {s : Shape} {A1 : Option Addr} {n2 c3 : Nat} {Q : Bool → Prop} (H : F30.E s Q) (hO : Ok w0 O) (hp4 : Sl kPt w0 (Fr O) (G A1 n2 c3) s.Pts) :
  Ret Tryd.prog 50 [.agg #[vi s.Kind, G A1 n2 c3]] w0 (fun v w' => ∃ (r0 : Bool), v = vb r0 ∧ Q r0 ∧ Gr w0 w' none) := by
 unfold F30.E at H;have hc0 := Ct.init hO;refine X3 Tryd.func50 Z 62 Z [.tmp 2] Z Z ?_;refine Xb (Xd (Ya [vi s.Kind, G A1 n2 c3] Z fun w6 b7 hl9 hu10 g8 bl => ?_));have ay := Fb.mk hc0.ok hl9 bl;have ai := hc0.k0 g8;refine Xf (vb false) Z (Xc (Xb (Xb (Xd (Xa (Xj fa34_1 (Ad b7 0) (Ad b7 1) Z Z) (Xa (Xn ag32 cL (Ad b7 1) (G A1 n2 c3) Z (ay.cell Z)) ?_))))));have cw := (hp4.st ai.st).le;refine Xa (X6 u32_ A1 n2 c3 (hp4.st ai.st).len Z) (Xg (vi 0) Z (Xc (X5 ?_)));obtain ⟨bm, bn, ak, H⟩ := H;refine Ye (α := Int) (fun (sv__ : Int) t af => match sv__ with | v2 => bm v2 ∧ Has t [(1, Pz b7), (7, G A1 n2 c3), (8, vi (s.Pts.length : Int)), (9, vi v2)] ∧ Cw [] w0 af [] O fun M => Sl kPt af (Fr M) (G A1 n2 c3) s.Pts ∧ Fb af M b7 [vi s.Kind, G A1 n2 c3]) (fun (sv__ : Int) => match sv__ with | v2 => bn v2) 0 ⟨ak, (X2 Z), ai, (hp4.st ai.st), ay⟩ ?_;rintro v2 _ af ⟨ak, bo, ad, ae, ag⟩;obtain ⟨cx, rfl⟩ := Has.ins bo;have H := H v2 ak;refine Xb (Xd (Xa (Xx v2 (s.Pts.length : Int) (decide (v2 < (s.Pts.length : Int))) Z Z Z) (Xc (Xb ?_))));refine Xu (decide (v2 < (s.Pts.length : Int))) Z (fun al => ?_) (fun al => ?_)
 ·have H := Xo H al;refine Xt (Xb (X5 (Xb (Xd (Xg (vi v2) Z ?_)))));obtain ⟨az, H⟩ := H;obtain ⟨a0, cy, bp, cz, bq, br⟩ := ae.get default RD v2 az;obtain rfl := kPt.op bq;refine Xa (X4 u32_ Yl A1 a0 n2 c3 ae.len v2 Z bp Z az) (Xa (Xv ag87 sz87 cL (a0.add (v2.toNat * 2)) [vi ((nth s.Pts v2).X), vi ((nth s.Pts v2).Y)] Z Z br) (Yn [.int .i64 0, .int .i64 0] ze87 fun c0 aj am hu49 an bs => ?_));have ao := ad.own an (some aj) (Yp am hu49);refine Xf (vi v2) Z (Yu [vi ((nth s.Pts v2).X), vi ((nth s.Pts v2).Y)] bs Z Z sz87 Z Z fun bt ap a1 => ?_);have ah := ao.wr 0 Z ap;refine Xc (Xb (Yh (fun x => Gr bt x none) RK RK (Gr.drew _) ?_));refine Xi (Xv ag87 sz87 cQ (Ad aj 0) [vi ((nth s.Pts v2).X), vi ((nth s.Pts v2).Y)] Z Z (a1.cells (off := 00) Z)) ?_;obtain ⟨q, bu, H⟩ := H;refine Yf go80 [.agg #[vi ((nth s.Pts v2).X), vi ((nth s.Pts v2).Y)]] Z (vb q) (fun w g => (F85.calls bu (ah.k0 g).ok).mono ?_) ?_
  ·rintro _ w ⟨r, rfl, rfl, g2⟩;exact ⟨Z, Gr.t0 g g2⟩
  refine Xi (X1 q Z) (Xs (vb (!q)) Z ?_);rcases Xz (!q) with ac | ac
  ·have H := Xo H ac;refine Xr ac Z (Xr ac Z (Xr ac Z (Xw Z (Xw Z (Xw Z (Xw Z (Xw Z (Xw Z ?_))))))));refine Xw Z (Xw Z (Xr ac Z (Xi (Xk true (vb true) ac Z) (X9 fun c1 bv => ?_))));have bw := ah.k0 bv;refine Yi (b := true) Z Z ?_;refine Xb (Xd (Xf (vb false) Z (Xc (Xl ?_))));have bx := bw.drop 0 Z;exact ⟨[vb false], ⟨_, Z, Z⟩, false, Z, H, bx.gr.g0⟩
  have H := Xp H ac;refine Xq ac Z (Xs (vi v2) Z (Xq ac Z (Xi (Xx v2 0 (decide (v2 > 0)) Z Z Z) (Xq ac Z (Xs (vb (decide (v2 > 0))) Z ?_)))));rcases Xz (decide (v2 > 0)) with ab | ab
  ·have H := Xo H ab;refine Xq ab Z (Xi (Xj fa34_1 (Ad b7 0) (Ad b7 1) Z Z) (Xq ab Z ?_));have a2 := ad.stown _ an (Ym am);have a3 := ao.stw 0 Z ap;have a4 := ((ag.st a2).st a3);refine Xi (Xn ag32 cQ (Ad b7 1) (G A1 n2 c3) Z (a4.cell Z)) (Xq ab Z (Xs (vi v2) Z (Xq ab Z ?_)));obtain ⟨bz, H⟩ := H;refine Xi (Yr v2 1 Z Z bz) (Xq ab Z ?_);obtain ⟨a5, H⟩ := H;have aq := ((ae.st a2).st a3);obtain ⟨a6, c2, b0, c4, b1, b2⟩ := aq.get default RD (v2 - 1) a5;obtain rfl := kPt.op b1;refine Xi (X4 u32_ Yl A1 a6 n2 c3 aq.len (v2 - 1) Z b0 Z a5) (Xq ab Z (Xi (Xv ag87 sz87 cQ (a6.add ((v2 - 1).toNat * 2)) [vi ((nth s.Pts (v2 - 1)).X), vi ((nth s.Pts (v2 - 1)).Y)] Z Z b2) (Xq ab Z (Xi (Xv ag87 sz87 cQ (Ad aj 0) [vi ((nth s.Pts v2).X), vi ((nth s.Pts v2).Y)] Z Z (a1.cells (off := 00) Z)) (Xq ab Z (Xi (Zd _ _ (eqPt (nth s.Pts (v2 - 1)) (nth s.Pts v2)) (qt87 (nth s.Pts (v2 - 1)) (nth s.Pts v2)) Z Z) (Xq ac Z (Xi (Yj true (vb (eqPt (nth s.Pts (v2 - 1)) (nth s.Pts v2))) (by exact congrArg Value.bool ab) Z) ?_))))))));refine Xi (Yj false (vb (eqPt (nth s.Pts (v2 - 1)) (nth s.Pts v2))) (by exact congrArg Value.bool ac) Z) (X9 fun c5 a7 => ?_);have ar := ah.k0 a7;refine Xu (eqPt (nth s.Pts (v2 - 1)) (nth s.Pts v2)) Z (fun au => ?_) (fun au => ?_)
   ·have H := Xo H au;refine Xb (Xd (Xf (vb false) Z (Xc (Xl ?_))));have b3 := ar.drop 0 Z;exact ⟨[vb false], ⟨_, Z, Z⟩, false, Z, H, b3.gr.g0⟩
   have H := Xp H au;refine Xt (Xd ?_);obtain ⟨b4, H⟩ := H;refine Xa (Yc v2 1 Z Z b4) (Xg (vi (v2 + 1)) Z (Xc ?_));have b5 := ar.drop 0 Z;obtain ⟨b6, b8⟩ := H;have a8 := ah.stn a7;have a9 := ar.std 0 Z;have b9 := ((aq.st a8).st a9);have ca := ((a4.st a8).st a9);exact ⟨v2 + 1, b8, b6, (X2 Z), b5, b9, ca⟩
  have H := Xp H ab;refine Xr ab Z (Xr ab Z (Xr ab Z (Xr ab Z (Xr ab Z (Xr ab Z (Xr ab Z (Xr ab Z (Xq ac Z ?_))))))));refine Xi (Xk false (vb false) ab Z) (Xi (Xk false (vb false) ac Z) (X9 fun c6 ba => ?_));have bb := ah.k0 ba;refine Yo (b := false) Z Z ?_;refine Xt (Xd ?_);obtain ⟨cb, H⟩ := H;refine Xa (Yc v2 1 Z Z cb) (Xg (vi (v2 + 1)) Z (Xc ?_));have cc := bb.drop 0 Z;obtain ⟨cd, ce⟩ := H;have bc := ad.stown _ an (Ym am);have bd := ao.stw 0 Z ap;have be := ah.stn ba;have bf := bb.std 0 Z;have cf := ((((ae.st bc).st bd).st be).st bf);have cg := ((((ag.st bc).st bd).st be).st bf);exact ⟨v2 + 1, ce, cd, (X2 Z), cc, cf, cg⟩
 have H := Xp H al;refine Yd (xin_hit ?_);refine Xb (Xd (Xa (Xj fa34_1 (Ad b7 0) (Ad b7 1) Z Z) (Xa (Xn ag32 cL (Ad b7 1) (G A1 n2 c3) Z (ag.cell Z)) ?_)));have ch := ae.le;refine Xa (X6 u32_ A1 n2 c3 ae.len Z) (Xf (vi (s.Pts.length : Int)) Z (Xc (Xb (Xb (Xd (Xa (Xj fa34_0 (Ad b7 0) (Ad b7 0) Z Z) (Xa (Xn ag3 cL (Ad b7 0) (vi s.Kind) Z (ag.cell Z)) (Xc ?_))))))));refine X5 (Xb (Xd (Xa (Xx s.Kind 1 (s.Kind == 1) Z Z Z) (Xf (vb (s.Kind == 1)) Z (Xc ?_)))));refine Xu (s.Kind == 1) Z (fun av => ?_) (fun av => ?_)
 ·have H := Xo H av;exact Xb (Xd (Xg (vi (s.Pts.length : Int)) Z (Xa (Xx (s.Pts.length : Int) 1 ((s.Pts.length : Int) == 1) Z Z Z) (Xf (vb ((s.Pts.length : Int) == 1)) Z (Xc (Xl ⟨[vb ((s.Pts.length : Int) == 1)], ⟨_, Z, Z⟩, (s.Pts.length : Int) == 1, Z, H, ad.gr.g0⟩))))))
 have H := Xp H av;refine Xb (Xd (Xa (Xx s.Kind 2 (s.Kind == 2) Z Z Z) (Xf (vb (s.Kind == 2)) Z (Xc ?_))));refine Xu (s.Kind == 2) Z (fun aw => ?_) (fun aw => ?_)
 ·have H := Xo H aw;refine Xb (Xd (Xg (vi (s.Pts.length : Int)) Z ?_));refine X0 go42 (F50.calls H ad.ok) Z ?_;rintro _ c7 ⟨r2, rfl, H, ci, _⟩;have cj := ad.k0 ci;exact Xf (vb r2) Z (Xc (Xl ⟨[vb r2], ⟨_, Z, Z⟩, r2, Z, H, cj.gr.g0⟩))
 have H := Xp H aw;refine Xb (Xd (Xa (Xx s.Kind 3 (s.Kind == 3) Z Z Z) (Xf (vb (s.Kind == 3)) Z (Xc ?_))));refine Xu (s.Kind == 3) Z (fun ax => ?_) (fun ax => ?_)
 ·have H := Xo H ax;refine Xb (Yh (fun x => Gr af x none) RK RK (Gr.drew _) ?_);refine Xs (vi (s.Pts.length : Int)) Z ?_;refine Yf go42 [vi (s.Pts.length : Int), vi 3, vi 6] Z (vb (F50.m (s.Pts.length : Int) 3 6)) (fun w g => (F50.calls (F50.fn (s.Pts.length : Int) 3 6) (ad.k0 g).ok).mono ?_) ?_
  ·rintro _ w ⟨r, rfl, rfl, g2, _⟩;exact ⟨Z, Gr.t0 g g2⟩
  refine Xs (vb (F50.m (s.Pts.length : Int) 3 6)) Z ?_;rcases Xz (F50.m (s.Pts.length : Int) 3 6) with aa | aa
  ·have H := Xo H aa;refine Xq aa Z (Xi (Xj fa34_1 (Ad b7 0) (Ad b7 1) Z Z) (Xq aa Z (Xi (Xn ag32 cQ (Ad b7 1) (G A1 n2 c3) Z (ag.cell Z)) (Xq aa Z ?_))));obtain ⟨bg, H⟩ := H;obtain ⟨bh, c8, ck, c9, cl, cm⟩ := ae.get default RD 0 bg;obtain rfl := kPt.op cl;refine Xi (X4 u32_ Yl A1 bh n2 c3 ae.len 0 Z ck Z bg) (Xq aa Z (Xi (Xv ag87 sz87 cQ (bh.add ((0 : Int).toNat * 2)) [vi ((nth s.Pts 0).X), vi ((nth s.Pts 0).Y)] Z Z cm) (Xq aa Z (Xi (Xj fa34_1 (Ad b7 0) (Ad b7 1) Z Z) (Xq aa Z (Xi (Xn ag32 cQ (Ad b7 1) (G A1 n2 c3) Z (ag.cell Z)) (Xq aa Z (Xs (vi (s.Pts.length : Int)) Z ?_))))))));refine Xq aa Z ?_;obtain ⟨cn, H⟩ := H;have co := cn (len_le ch);refine Xi (Yr (s.Pts.length : Int) 1 Z Z co) (Xq aa Z ?_);obtain ⟨bi, H⟩ := H;obtain ⟨bj, da, cp, db, cq, cr⟩ := ae.get default RD ((s.Pts.length : Int) - 1) bi;obtain rfl := kPt.op cq;refine Xi (X4 u32_ Yl A1 bj n2 c3 ae.len ((s.Pts.length : Int) - 1) Z cp Z bi) (Xq aa Z (Xi (Xv ag87 sz87 cQ (bj.add (((s.Pts.length : Int) - 1).toNat * 2)) [vi ((nth s.Pts ((s.Pts.length : Int) - 1)).X), vi ((nth s.Pts ((s.Pts.length : Int) - 1)).Y)] Z Z cr) (Xq aa Z (Xi (Yz _ _ (eqPt (nth s.Pts 0) (nth s.Pts ((s.Pts.length : Int) - 1))) (qt87 (nth s.Pts 0) (nth s.Pts ((s.Pts.length : Int) - 1))) Z Z) (Xi (Yj true (vb (!(eqPt (nth s.Pts 0) (nth s.Pts ((s.Pts.length : Int) - 1))))) (by exact congrArg Value.bool aa) Z) (Yv (vb (!(eqPt (nth s.Pts 0) (nth s.Pts ((s.Pts.length : Int) - 1))))) Z (X9 fun dc cs => ?_)))))));have ct := ad.k0 cs;exact Xl ⟨[vb (!(eqPt (nth s.Pts 0) (nth s.Pts ((s.Pts.length : Int) - 1))))], ⟨_, Z, Z⟩, !(eqPt (nth s.Pts 0) (nth s.Pts ((s.Pts.length : Int) - 1))), Z, H, ct.gr.g0⟩
  have H := Xp H aa;refine Xr aa Z (Xr aa Z (Xr aa Z (Xr aa Z (Xr aa Z (Xr aa Z (Xr aa Z (Xr aa Z (Xr aa Z ?_))))))));refine Xr aa Z (Xr aa Z (Xi (Xk false (vb false) aa Z) (Yv (vb false) Z (X9 fun dd cu => ?_))));have cv := ad.k0 cu;exact Xl ⟨[vb false], ⟨_, Z, Z⟩, false, Z, H, cv.gr.g0⟩
 have H := Xp H ax;exact Xt (Xb (Xd (Xf (vb false) Z (Xc (Xl ⟨[vb false], ⟨_, Z, Z⟩, false, Z, H, ad.gr.g0⟩)))))
def F53.E (f : Feat) (Q : Bool → Prop) : Prop :=
 (∃ (I43 : Int → Prop) (mu44 : Int → Nat), I43 0 ∧ ∀ (v2 : Int), I43 v2 → (if decide (v2 < (f.Tags.length : Int)) then ((0 : Int) ≤ v2 ∧ v2 < (f.Tags.length : Int)) ∧ (∃ q : Bool, F51.E ((nth f.Tags v2).Key) (fun x => x = q) ∧ (if !q then Q false else (∃ q2 : Bool, F51.E ((nth f.Tags v2).Val) (fun x => x = q2) ∧ (if !q2 then Q false else (if decide (v2 > 0) then (I64 (v2 - 1)) ∧ ((0 : Int) ≤ v2 - 1 ∧ v2 - 1 < (f.Tags.length : Int)) ∧ (if !(Op.bytesLess ((nth f.Tags (v2 - 1)).Key) ((nth f.Tags v2).Key)) then Q false else (I64 (v2 + 1)) ∧ I43 (v2 + 1) ∧ mu44 (v2 + 1) < mu44 v2) else (I64 (v2 + 1)) ∧ I43 (v2 + 1) ∧ mu44 (v2 + 1) < mu44 v2))))) else F51.E f.Id (fun r3 => (if r3 then F30.E f.Shape (fun r4 => (if r4 then Q (decide ((f.Tags.length : Int) ≤ 4)) else Q false)) else Q false))))
theorem F53.calls {f : Feat} {A2 : Option Addr} {n3 c4 : Nat} {A7 : Option Addr} {n8 c9 : Nat} {Q : Bool → Prop} (H : F53.E f Q) (hO : Ok w0 O) (hs1 : Lim f.Id) (hp5 : Sl kPt w0 (Fr O) (G A2 n3 c4) f.Shape.Pts) (ap : Sl kTag w0 (Fr O) (G A7 n8 c9) f.Tags) :
  Ret Tryd.prog 30 [.agg #[vs f.Id, vi f.Shape.Kind, G A2 n3 c4, G A7 n8 c9]] w0 (fun v w' => ∃ (r0 : Bool), v = vb r0 ∧ Q r0 ∧ Gr w0 w' none) := by
 unfold F53.E at H;have hc0 := Ct.init hO;refine X3 Tryd.func30 Z 54 Z [.tmp 2] Z Z ?_;refine Xb (Xd (Ya [vs f.Id, vi f.Shape.Kind, G A2 n3 c4, G A7 n8 c9] Z fun cy ab br hu16 bs bt => ?_));have bc := Fb.mk hc0.ok br bt;have ak := hc0.k0 bs;refine Xf (vb false) Z (Xc (Xb (Xb (Xd (Xa (Xj fa37_2 (Ad ab 0) (Ad ab 3) Z Z) (Xa (Xn ag35 cL (Ad ab 3) (G A7 n8 c9) Z (bc.cell Z)) ?_))))));have cz := (ap.st ak.st).le;refine Xa (X6 u35_ A7 n8 c9 (ap.st ak.st).len Z) (Xg (vi 0) Z (Xc (X5 ?_)));obtain ⟨bu, bv, aq, H⟩ := H;refine Ye (α := Int) (fun (sv__ : Int) t ai => match sv__ with | v2 => bu v2 ∧ Has t [(1, Pz ab), (6, G A7 n8 c9), (7, vi (f.Tags.length : Int)), (8, vi v2)] ∧ Cw [] w0 ai [] O fun M => Sl kTag ai (Fr M) (G A7 n8 c9) f.Tags ∧ Sl kPt ai (Fr M) (G A2 n3 c4) f.Shape.Pts ∧ Fb ai M ab [vs f.Id, vi f.Shape.Kind, G A2 n3 c4, G A7 n8 c9]) (fun (sv__ : Int) => match sv__ with | v2 => bv v2) 0 ⟨aq, (X2 Z), ak, (ap.st ak.st), (hp5.st ak.st), bc⟩ ?_;rintro v2 _ ai ⟨aq, bw, aj, al, ar, am⟩;obtain ⟨c0, rfl⟩ := Has.ins bw;have H := H v2 aq;refine Xb (Xd (Xa (Xx v2 (f.Tags.length : Int) (decide (v2 < (f.Tags.length : Int))) Z Z Z) (Xc (Xb ?_))));refine Xu (decide (v2 < (f.Tags.length : Int))) Z (fun au => ?_) (fun au => ?_)
 ·have H := Xo H au;refine Xt (Xb (X5 (Xb (Xd (Xg (vi v2) Z ?_)))));obtain ⟨bd, H⟩ := H;obtain ⟨be, c1, bx, c2, bz, b0⟩ := al.get default RD v2 bd;obtain ⟨rfl, b1, b2⟩ := kTag.op bz;refine Xa (X4 u35_ Yq A7 be n8 c9 al.len v2 Z bx Z bd) (Xa (Xv ag67 sz67 cL (be.add (v2.toNat * 2)) [vs ((nth f.Tags v2).Key), vs ((nth f.Tags v2).Val)] Z Z b0) (Yn [vs [], vs []] ze67 fun c3 af av hu63 aw b3 => ?_));have ax := aj.own aw (some af) (Yp av hu63);refine Xf (vi v2) Z (Yu [vs ((nth f.Tags v2).Key), vs ((nth f.Tags v2).Val)] b3 Z Z sz67 Z Z fun b4 ay az => ?_);have ah := ax.wr 0 Z ay;refine Xc (Xb (Yh (fun x => Gr b4 x none) RK RK (Gr.drew _) ?_));refine Xi (Xj fa67_0 (Ad af 0) (Ad af 0) Z Z) (Xi (Xn ag9 cQ (Ad af 0) (vs ((nth f.Tags v2).Key)) Z (az.cell Z)) ?_);obtain ⟨q, b5, H⟩ := H;refine Yf go24 [vs ((nth f.Tags v2).Key)] Z (vb q) (fun w g => (F51.calls b5 (ah.k0 g).ok b1).mono ?_) ?_
  ·rintro _ w ⟨r, rfl, rfl, g2⟩;exact ⟨Z, Gr.t0 g g2⟩
  refine Xi (X1 q Z) (Xs (vb (!q)) Z ?_);rcases Xz (!q) with ad | ad
  ·have H := Xo H ad;refine Xr ad Z (Xr ad Z (Xr ad Z (Xr ad Z (Xi (Xk true (vb true) ad Z) (Xs (vb true) Z (X8 (dj := 23) Z Z (.inl Z) (X8 (dj := 23) Z Z (.inl Z) (X8 (dj := 23) Z Z (.inl Z) ?_))))))));refine Xw Z (Xw Z (Xw Z (Xw Z (Xw Z (Xw Z (Xw Z (Xw Z (Xw Z ?_))))))));refine Xw Z (X8 (dj := 23) Z Z (.inl Z) (Xi (Xk true (vb true) Z Z) (X9 fun c5 b6 => ?_)));have b7 := ah.k0 b6;refine Yi (b := true) Z Z ?_;refine Xb (Xd (Xf (vb false) Z (Xc (Xl ?_))));have b8 := b7.drop 0 Z;exact ⟨[vb false], ⟨_, Z, Z⟩, false, Z, H, b8.gr.g0⟩
  have H := Xp H ad;refine Xq ad Z (Xi (Xj fa67_1 (Ad af 0) (Ad af 1) Z Z) (Xq ad Z (Xi (Xn ag9 cQ (Ad af 1) (vs ((nth f.Tags v2).Val)) Z (az.cell Z)) (Xq ad Z ?_))));obtain ⟨q2, b9, H⟩ := H;refine Yf go24 [vs ((nth f.Tags v2).Val)] Z (vb q2) (fun w g => (F51.calls b9 (ah.k0 g).ok b2).mono ?_) ?_
  ·rintro _ w ⟨r, rfl, rfl, g2⟩;exact ⟨Z, Gr.t0 g g2⟩
  refine Xq ad Z (Xi (X1 q2 Z) (Xi (Xk false (vb (!q2)) ad Z) (Xs (vb (!q2)) Z ?_)));rcases Xz (!q2) with ac | ac
  ·have H := Xo H ac;refine Xr ac Z (Xr ac Z (Xr ac Z (Xw Z (Xw Z (Xw Z (Xw Z (Xw Z (Xw Z ?_))))))));refine Xw Z (Xw Z (Xw Z (Xw Z (Xr ac Z (Xi (Xk true (vb true) ac Z) (X9 fun c6 ca => ?_))))));have cb := ah.k0 ca;refine Yi (b := true) Z Z ?_;refine Xb (Xd (Xf (vb false) Z (Xc (Xl ?_))));have cc := cb.drop 0 Z;exact ⟨[vb false], ⟨_, Z, Z⟩, false, Z, H, cc.gr.g0⟩
  have H := Xp H ac;refine Xq ac Z (Xs (vi v2) Z (Xq ac Z (Xi (Xx v2 0 (decide (v2 > 0)) Z Z Z) (Xq ac Z (Xs (vb (decide (v2 > 0))) Z ?_)))));rcases Xz (decide (v2 > 0)) with aa | aa
  ·have H := Xo H aa;refine Xq aa Z (Xi (Xj fa37_2 (Ad ab 0) (Ad ab 3) Z Z) (Xq aa Z ?_));have a0 := aj.stown _ aw (Ym av);have a1 := ax.stw 0 Z ay;have bf := ((am.st a0).st a1);refine Xi (Xn ag35 cQ (Ad ab 3) (G A7 n8 c9) Z (bf.cell Z)) (Xq aa Z (Xs (vi v2) Z (Xq aa Z ?_)));obtain ⟨cd, H⟩ := H;refine Xi (Yr v2 1 Z Z cd) (Xq aa Z ?_);obtain ⟨bg, H⟩ := H;have a2 := ((al.st a0).st a1);obtain ⟨an, c7, ce, c8, cf, cg⟩ := a2.get default RD (v2 - 1) bg;obtain ⟨rfl, da, db⟩ := kTag.op cf;refine Xi (X4 u35_ Yq A7 an n8 c9 a2.len (v2 - 1) Z ce Z bg) (Xq aa Z (Xi (Xj fa67_0 (an.add ((v2 - 1).toNat * 2)) ((an.add ((v2 - 1).toNat * 2)).add 0) Z Z) (Xq aa Z (Xi (Xn ag9 cQ ((an.add ((v2 - 1).toNat * 2)).add 0) (vs ((nth f.Tags (v2 - 1)).Key)) Z (cg 0 _ Z)) (Xq aa Z (Xi (Xj fa67_0 (Ad af 0) (Ad af 0) Z Z) (Xq aa Z (Xi (Xn ag9 cQ (Ad af 0) (vs ((nth f.Tags v2).Key)) Z (az.cell Z)) ?_))))))));refine Xq aa Z (Xi (Yg ((nth f.Tags (v2 - 1)).Key) ((nth f.Tags v2).Key) (!(Op.bytesLess ((nth f.Tags (v2 - 1)).Key) ((nth f.Tags v2).Key))) Z Z Z) (Xq ac Z (Xi (Yj true (vb (!(Op.bytesLess ((nth f.Tags (v2 - 1)).Key) ((nth f.Tags v2).Key)))) (by exact congrArg Value.bool aa) Z) (Xi (Yj false (vb (!(Op.bytesLess ((nth f.Tags (v2 - 1)).Key) ((nth f.Tags v2).Key)))) (by exact congrArg Value.bool ac) Z) (X9 fun dc bh => ?_)))));have a3 := ah.k0 bh;refine Xu (!(Op.bytesLess ((nth f.Tags (v2 - 1)).Key) ((nth f.Tags v2).Key))) Z (fun a4 => ?_) (fun a4 => ?_)
   ·have H := Xo H a4;refine Xb (Xd (Xf (vb false) Z (Xc (Xl ?_))));have ch := a3.drop 0 Z;exact ⟨[vb false], ⟨_, Z, Z⟩, false, Z, H, ch.gr.g0⟩
   have H := Xp H a4;refine Xt (Xd ?_);obtain ⟨ci, H⟩ := H;refine Xa (Yc v2 1 Z Z ci) (Xg (vi (v2 + 1)) Z (Xc ?_));have cj := a3.drop 0 Z;obtain ⟨ck, cl⟩ := H;have a5 := ah.stn bh;have a6 := a3.std 0 Z;have cm := ((a2.st a5).st a6);have cn := ((((ar.st a0).st a1).st a5).st a6);have co := ((bf.st a5).st a6);exact ⟨v2 + 1, cl, ck, (X2 Z), cj, cm, cn, co⟩
  have H := Xp H aa;refine Xr aa Z (Xr aa Z (Xr aa Z (Xr aa Z (Xr aa Z (Xr aa Z (Xr aa Z (Xr aa Z (Xr aa Z ?_))))))));refine Xr aa Z (Xq ac Z (Xi (Xk false (vb false) aa Z) (Xi (Xk false (vb false) ac Z) (X9 fun dd bi => ?_))));have bj := ah.k0 bi;refine Yo (b := false) Z Z ?_;refine Xt (Xd ?_);obtain ⟨cp, H⟩ := H;refine Xa (Yc v2 1 Z Z cp) (Xg (vi (v2 + 1)) Z (Xc ?_));have cq := bj.drop 0 Z;obtain ⟨cr, cs⟩ := H;have a7 := aj.stown _ aw (Ym av);have a8 := ax.stw 0 Z ay;have a9 := ah.stn bi;have ba := bj.std 0 Z;have ct := ((((al.st a7).st a8).st a9).st ba);have cu := ((((ar.st a7).st a8).st a9).st ba);have cv := ((((am.st a7).st a8).st a9).st ba);exact ⟨v2 + 1, cs, cr, (X2 Z), cq, ct, cu, cv⟩
 have H := Xp H au;refine Yd (xin_hit ?_);refine Xb (Xd (Xa (Xj fa37_0 (Ad ab 0) (Ad ab 0) Z Z) (Xa (Xn ag9 cL (Ad ab 0) (vs f.Id) Z (am.cell Z)) ?_)));refine X0 go24 (F51.calls H aj.ok hs1) Z ?_;rintro _ cw ⟨r3, rfl, H, bl⟩;have ao := aj.k0 bl;refine Xg (vb r3) Z ?_;rcases Xz r3 with ag | ag
 ·have H := Xo H ag;refine Xe ag Z (Xa (Xj fa37_1 (Ad ab 0) (Ad ab 1) Z Z) (Xe ag Z ?_));have bb := aj.stn bl;have bm := (am.st bb);refine Xa (Xv ag34 sz34 cL (Ad ab 1) [vi f.Shape.Kind, G A2 n3 c4] Z Z (bm.cells (off := 1) Z)) (Xe ag Z ?_);refine X0 go50 (F30.calls H ao.ok (ar.st bb)) Z ?_;rintro _ de ⟨r4, rfl, H, bn⟩;have bo := ao.k0 bn;refine Xa (Xk true (vb r4) ag Z) (Xg (vb r4) Z ?_);rcases Xz r4 with ae | ae
  ·have H := Xo H ae;refine Xe ae Z (Xa (Xj fa37_2 (Ad ab 0) (Ad ab 3) Z Z) (Xe ae Z ?_));have bp := ao.stn bn;have cx := (bm.st bp);refine Xa (Xn ag35 cL (Ad ab 3) (G A7 n8 c9) Z (cx.cell Z)) (Xe ae Z ?_);have bq := ((al.st bb).st bp);have df := bq.le;exact Xa (X6 u35_ A7 n8 c9 bq.len Z) (Xe ae Z (Xa (Xx (f.Tags.length : Int) 4 (decide ((f.Tags.length : Int) ≤ 4)) Z Z Z) (Xa (Yj true (vb (decide ((f.Tags.length : Int) ≤ 4))) (by exact congrArg Value.bool ae) Z) (Xf (vb (decide ((f.Tags.length : Int) ≤ 4))) Z (Xc (Xl ⟨[vb (decide ((f.Tags.length : Int) ≤ 4))], ⟨_, Z, Z⟩, decide ((f.Tags.length : Int) ≤ 4), Z, H, bo.gr.g0⟩))))))
  have H := Xp H ae;exact Xh ae Z (Xh ae Z (Xh ae Z (Xh ae Z (Xa (Xk false (vb false) ae Z) (Xf (vb false) Z (Xc (Xl ⟨[vb false], ⟨_, Z, Z⟩, false, Z, H, bo.gr.g0⟩)))))))
 have H := Xp H ag;refine Xh ag Z (Xh ag Z (Xh ag Z (Xa (Xk false (vb false) ag Z) (Xg (vb false) Z (Xy (dj := 48) Z Z (.inl Z) (Xy (dj := 48) Z Z (.inl Z) (Xy (dj := 48) Z Z (.inl Z) (Xy (dj := 48) Z Z (.inl Z) ?_))))))));exact Xa (Xk false (vb false) Z Z) (Xf (vb false) Z (Xc (Xl ⟨[vb false], ⟨_, Z, Z⟩, false, Z, H, ao.gr.g0⟩)))
def F54.E (id : Str) (has : Bool) (f : Feat) (Q : Bool → Prop) : Prop :=
 (if !has then F52.E f (fun r => Q r) else F53.E f (fun r2 => (if r2 then Q (f.Id == id) else Q false)))
theorem F54.calls {id : Str} {has : Bool} {f : Feat} {A3 : Option Addr} {n4 c5 : Nat} {A8 : Option Addr} {n9 ab : Nat} {Q : Bool → Prop} (H : F54.E id has f Q) (hO : Ok w0 O) (hs1 : Lim id) (hs2 : Lim f.Id) (hp6 : Sl kPt w0 (Fr O) (G A3 n4 c5) f.Shape.Pts) (ag : Sl kTag w0 (Fr O) (G A8 n9 ab) f.Tags) :
  Ret Tryd.prog 25 [vs id, vb has, .agg #[vs f.Id, vi f.Shape.Kind, G A3 n4 c5, G A8 n9 ab]] w0 (fun v w' => ∃ (r0 : Bool), v = vb r0 ∧ Q r0 ∧ Gr w0 w' none) := by
 unfold F54.E at H;have hc0 := Ct.init hO;refine X3 Tryd.func25 Z 19 Z [.tmp 6] Z Z ?_;refine Xb (Xd (Ya [vs f.Id, vi f.Shape.Kind, G A3 n4 c5, G A8 n9 ab] Z fun ah ad ak hu17 al am => ?_));have ae := Fb.mk hc0.ok ak am;have ac := hc0.k0 al;refine Xf (vb false) Z (Xc (Xb (Xb (Xd (Xg (vb has) Z (Xa (X1 has Z) (Xc ?_)))))));refine Xu (!has) Z (fun af => ?_) (fun af => ?_)
 ·have H := Xo H af;refine Xb (Xd (Xa (Xv ag37 sz37 cL (Ad ad 0) [vs f.Id, vi f.Shape.Kind, G A3 n4 c5, G A8 n9 ab] Z Z (ae.cells (off := 00) Z)) ?_));refine X0 go43 (F52.calls H ac.ok hs2 (hp6.st ac.st) (ag.st ac.st)) Z ?_;rintro _ ar ⟨r, rfl, H, an⟩;have ao := ac.k0 an;exact Xf (vb r) Z (Xc (Xl ⟨[vb r], ⟨_, Z, Z⟩, r, Z, H, ao.gr.g0⟩))
 have H := Xp H af;refine Xt (Xb (Xd (Xa (Xv ag37 sz37 cL (Ad ad 0) [vs f.Id, vi f.Shape.Kind, G A3 n4 c5, G A8 n9 ab] Z Z (ae.cells (off := 00) Z)) ?_)));refine X0 go30 (F53.calls H ac.ok hs2 (hp6.st ac.st) (ag.st ac.st)) Z ?_;rintro _ au ⟨r2, rfl, H, ai⟩;have aj := ac.k0 ai;refine Xg (vb r2) Z ?_;rcases Xz r2 with aa | aa
 ·have H := Xo H aa;refine Xe aa Z (Xa (Xj fa37_0 (Ad ad 0) (Ad ad 0) Z Z) (Xe aa Z ?_));have ap := ac.stn ai;have aq := (ae.st ap);refine Xa (Xn ag9 cL (Ad ad 0) (vs f.Id) Z (aq.cell Z)) (Xe aa Z (Xg (vs id) Z (Xe aa Z (Xa (Yg f.Id id (f.Id == id) Z Z Z) (Xa (Xk true (vb (f.Id == id)) aa Z) (Xf (vb (f.Id == id)) Z (Xc (Xl ?_))))))));exact ⟨[vb (f.Id == id)], ⟨_, Z, Z⟩, f.Id == id, Z, H, aj.gr.g0⟩
 have H := Xp H aa;exact Xh aa Z (Xh aa Z (Xh aa Z (Xh aa Z (Xa (Xk false (vb false) aa Z) (Xf (vb false) Z (Xc (Xl ⟨[vb false], ⟨_, Z, Z⟩, false, Z, H, aj.gr.g0⟩)))))))
def F4.E (s1 s2 : List Pt) (Q : Bool → Prop) : Prop :=
 (if (s1.length : Int) != (s2.length : Int) then Q false else (∃ (I32 : Int → Prop) (mu33 : Int → Nat), I32 0 ∧ ∀ (v2 : Int), I32 v2 → (if decide (v2 < (s1.length : Int)) then ((0 : Int) ≤ v2 ∧ v2 < (s1.length : Int)) ∧ ((0 : Int) ≤ v2 ∧ v2 < (s2.length : Int)) ∧ (if !(eqPt (nth s1 v2) (nth s2 v2)) then Q false else (I64 (v2 + 1)) ∧ I32 (v2 + 1) ∧ mu33 (v2 + 1) < mu33 v2) else Q true)))
theorem F4.calls {s1 : List Pt} {A1 : Option Addr} {n2 c3 : Nat} {s2 : List Pt} {A6 : Option Addr} {n7 c8 : Nat} {Q : Bool → Prop} (H : F4.E s1 s2 Q) (hO : Ok w0 O) (hp4 : Sl kPt w0 (Fr O) (G A1 n2 c3) s1) (hp9 : Sl kPt w0 (Fr O) (G A6 n7 c8) s2) :
  Ret Tryd.prog 90 [G A1 n2 c3, G A6 n7 c8] w0 (fun v w' => ∃ (r0 : Bool), v = vb r0 ∧ Q r0 ∧ Gr w0 w' none) := by
 unfold F4.E at H;have hc0 := Ct.init hO;refine X3 Tryd.func90 Z 26 Z [.tmp 4] Z Z ?_;refine Xb (Xd (Xf (vb false) Z (Xc (Xb (Xb (Xd (Xg (G A1 n2 c3) Z ?_)))))));have a3 := hp4.le;refine Xa (X6 u32_ A1 n2 c3 hp4.len Z) (Xg (G A6 n7 c8) Z ?_);have a4 := hp9.le;refine Xa (X6 u32_ A6 n7 c8 hp9.len Z) (Xa (Xx (s1.length : Int) (s2.length : Int) ((s1.length : Int) != (s2.length : Int)) Z Z Z) (Xc ?_));refine Xu ((s1.length : Int) != (s2.length : Int)) Z (fun ab => ?_) (fun ab => ?_)
 ·have H := Xo H ab;exact Xb (Xd (Xf (vb false) Z (Xc (Xl ⟨[vb false], ⟨_, Z, Z⟩, false, Z, H, hc0.gr.g0⟩))))
 have H := Xp H ab;refine Xt (Xb (Xb (Xd (Xg (G A1 n2 c3) Z (Xa (X6 u32_ A1 n2 c3 hp4.len Z) (Xg (vi 0) Z (Xc (X5 ?_))))))));obtain ⟨ap, aq, ac, H⟩ := H;refine Ye (α := Int) (fun (sv__ : Int) t aa => match sv__ with | v2 => ap v2 ∧ Has t [(0, G A1 n2 c3), (1, G A6 n7 c8), (12, vi (s1.length : Int)), (13, vi v2)] ∧ Cw [] w0 aa [] O fun M => Sl kPt aa (Fr M) (G A1 n2 c3) s1 ∧ Sl kPt aa (Fr M) (G A6 n7 c8) s2) (fun (sv__ : Int) => match sv__ with | v2 => aq v2) 0 ⟨ac, (X2 Z), hc0, hp4, hp9⟩ ?_;rintro v2 _ aa ⟨ac, ar, ad, ae, af⟩;obtain ⟨a5, rfl⟩ := Has.ins ar;have H := H v2 ac;refine Xb (Xd (Xa (Xx v2 (s1.length : Int) (decide (v2 < (s1.length : Int))) Z Z Z) (Xc (Xb ?_))));refine Xu (decide (v2 < (s1.length : Int))) Z (fun ag => ?_) (fun ag => ?_)
 ·have H := Xo H ag;refine Xt (Xb (X5 (Xb (Xd (Xg (vi v2) Z (Xf (vi v2) Z (Xc (Xb ?_))))))));refine Yh (fun x => Gr aa x none) RK RK (Gr.drew _) ?_;refine Xs (G A1 n2 c3) Z (Xs (vi v2) Z ?_);obtain ⟨ai, H⟩ := H;obtain ⟨aj, a6, au, a7, av, aw⟩ := ae.get default RD v2 ai;obtain rfl := kPt.op av;refine Xi (X4 u32_ Yl A1 aj n2 c3 ae.len v2 Z au Z ai) (Xi (Xv ag87 sz87 cQ (aj.add (v2.toNat * 2)) [vi ((nth s1 v2).X), vi ((nth s1 v2).Y)] Z Z aw) (Xs (G A6 n7 c8) Z (Xs (vi v2) Z ?_)));obtain ⟨ak, H⟩ := H;obtain ⟨al, a8, ax, a9, ay, az⟩ := af.get default RD v2 ak;obtain rfl := kPt.op ay;refine Xi (X4 u32_ Yl A6 al n7 c8 af.len v2 Z ax Z ak) (Xi (Xv ag87 sz87 cQ (al.add (v2.toNat * 2)) [vi ((nth s2 v2).X), vi ((nth s2 v2).Y)] Z Z az) (Xi (Yz _ _ (eqPt (nth s1 v2) (nth s2 v2)) (qt87 (nth s1 v2) (nth s2 v2)) Z Z) (X9 fun ba am => ?_)));have an := ad.k0 am;refine Xu (!(eqPt (nth s1 v2) (nth s2 v2))) Z (fun ah => ?_) (fun ah => ?_)
  ·have H := Xo H ah;exact Xb (Xd (Xf (vb false) Z (Xc (Xl ⟨[vb false], ⟨_, Z, Z⟩, false, Z, H, an.gr.g0⟩))))
  have H := Xp H ah;refine Xt (Xd ?_);obtain ⟨a0, H⟩ := H;refine Xa (Yc v2 1 Z Z a0) (Xg (vi (v2 + 1)) Z (Xc ?_));obtain ⟨a1, a2⟩ := H;have ao := ad.stn am;exact ⟨v2 + 1, a2, a1, (X2 Z), an, (ae.st ao), (af.st ao)⟩
 have H := Xp H ag;refine Yd (xin_hit ?_);exact Xb (Xd (Xf (vb true) Z (Xc (Xl ⟨[vb true], ⟨_, Z, Z⟩, true, Z, H, ad.gr.g0⟩))))
def F14.E (a b : Shape) (Q : Bool → Prop) : Prop :=
 (if a.Kind == b.Kind then F4.E a.Pts b.Pts (fun r => Q r) else Q false)
theorem F14.calls {a : Shape} {A1 : Option Addr} {n2 c3 : Nat} {b : Shape} {A6 : Option Addr} {n7 c8 : Nat} {Q : Bool → Prop} (H : F14.E a b Q) (hO : Ok w0 O) (hp4 : Sl kPt w0 (Fr O) (G A1 n2 c3) a.Pts) (hp9 : Sl kPt w0 (Fr O) (G A6 n7 c8) b.Pts) :
  Ret Tryd.prog 72 [.agg #[vi a.Kind, G A1 n2 c3], .agg #[vi b.Kind, G A6 n7 c8]] w0 (fun v w' => ∃ (r0 : Bool), v = vb r0 ∧ Q r0 ∧ Gr w0 w' none) := by
 unfold F14.E at H;have hc0 := Ct.init hO;refine X3 Tryd.func72 Z 17 Z [.tmp 4] Z Z ?_;refine Xb (Xd (Ya [vi a.Kind, G A1 n2 c3] Z fun au ab ai hu15 aj ak => ?_));have al := Fb.mk hc0.ok ai ak;have ae := hc0.k0 aj;refine Ya [vi b.Kind, G A6 n7 c8] Z fun am ac an hu24 af ao => ?_;have ag := Fb.mk ae.ok an ao;have ad := ae.k0 af;refine Xf (vb false) Z (Xc (Xb (Xd (Xa (Xj fa34_0 (Ad ab 0) (Ad ab 0) Z Z) ?_))));have ap := ae.stn af;have ah := (al.st ap);refine Xa (Xn ag3 cL (Ad ab 0) (vi a.Kind) Z (ah.cell Z)) (Xa (Xj fa34_0 (Ad ac 0) (Ad ac 0) Z Z) (Xa (Xn ag3 cL (Ad ac 0) (vi b.Kind) Z (ag.cell Z)) (Xa (Xx a.Kind b.Kind (a.Kind == b.Kind) Z Z Z) (Xg (vb (a.Kind == b.Kind)) Z ?_))));rcases Xz (a.Kind == b.Kind) with aa | aa
 ·have H := Xo H aa;refine Xe aa Z (Xa (Xj fa34_1 (Ad ab 0) (Ad ab 1) Z Z) (Xe aa Z (Xa (Xn ag32 cL (Ad ab 1) (G A1 n2 c3) Z (ah.cell Z)) (Xe aa Z (Xa (Xj fa34_1 (Ad ac 0) (Ad ac 1) Z Z) (Xe aa Z (Xa (Xn ag32 cL (Ad ac 1) (G A6 n7 c8) Z (ag.cell Z)) (Xe aa Z ?_))))))));refine X0 go90 (F4.calls H ad.ok (hp4.st ad.st) (hp9.st ad.st)) Z ?_;rintro _ av ⟨r, rfl, H, aq⟩;have ar := ad.k0 aq;exact Xa (Xk true (vb r) aa Z) (Xf (vb r) Z (Xc (Xl ⟨[vb r], ⟨_, Z, Z⟩, r, Z, H, ar.gr.g0⟩)))
 have H := Xp H aa;refine Xh aa Z (Xh aa Z (Xh aa Z (Xh aa Z (Xh aa Z (Xa (Xk false (vb false) aa Z) (Xf (vb false) Z (Xc (Xl ?_))))))));exact ⟨[vb false], ⟨_, Z, Z⟩, false, Z, H, ad.gr.g0⟩
def F1.E (s1 s2 : List Tag) (Q : Bool → Prop) : Prop :=
 (if (s1.length : Int) != (s2.length : Int) then Q false else (∃ (I32 : Int → Prop) (mu33 : Int → Nat), I32 0 ∧ ∀ (v2 : Int), I32 v2 → (if decide (v2 < (s1.length : Int)) then ((0 : Int) ≤ v2 ∧ v2 < (s1.length : Int)) ∧ ((0 : Int) ≤ v2 ∧ v2 < (s2.length : Int)) ∧ (if !(eqTag (nth s1 v2) (nth s2 v2)) then Q false else (I64 (v2 + 1)) ∧ I32 (v2 + 1) ∧ mu33 (v2 + 1) < mu33 v2) else Q true)))
theorem F1.calls {s1 : List Tag} {A1 : Option Addr} {n2 c3 : Nat} {s2 : List Tag} {A6 : Option Addr} {n7 c8 : Nat} {Q : Bool → Prop} (H : F1.E s1 s2 Q) (hO : Ok w0 O) (hp4 : Sl kTag w0 (Fr O) (G A1 n2 c3) s1) (hp9 : Sl kTag w0 (Fr O) (G A6 n7 c8) s2) :
  Ret Tryd.prog 73 [G A1 n2 c3, G A6 n7 c8] w0 (fun v w' => ∃ (r0 : Bool), v = vb r0 ∧ Q r0 ∧ Gr w0 w' none) := by
 unfold F1.E at H;have hc0 := Ct.init hO;refine X3 Tryd.func73 Z 26 Z [.tmp 4] Z Z ?_;refine Xb (Xd (Xf (vb false) Z (Xc (Xb (Xb (Xd (Xg (G A1 n2 c3) Z ?_)))))));have a3 := hp4.le;refine Xa (X6 u35_ A1 n2 c3 hp4.len Z) (Xg (G A6 n7 c8) Z ?_);have a4 := hp9.le;refine Xa (X6 u35_ A6 n7 c8 hp9.len Z) (Xa (Xx (s1.length : Int) (s2.length : Int) ((s1.length : Int) != (s2.length : Int)) Z Z Z) (Xc ?_));refine Xu ((s1.length : Int) != (s2.length : Int)) Z (fun ab => ?_) (fun ab => ?_)
 ·have H := Xo H ab;exact Xb (Xd (Xf (vb false) Z (Xc (Xl ⟨[vb false], ⟨_, Z, Z⟩, false, Z, H, hc0.gr.g0⟩))))
 have H := Xp H ab;refine Xt (Xb (Xb (Xd (Xg (G A1 n2 c3) Z (Xa (X6 u35_ A1 n2 c3 hp4.len Z) (Xg (vi 0) Z (Xc (X5 ?_))))))));obtain ⟨ap, aq, ac, H⟩ := H;refine Ye (α := Int) (fun (sv__ : Int) t aa => match sv__ with | v2 => ap v2 ∧ Has t [(0, G A1 n2 c3), (1, G A6 n7 c8), (12, vi (s1.length : Int)), (13, vi v2)] ∧ Cw [] w0 aa [] O fun M => Sl kTag aa (Fr M) (G A1 n2 c3) s1 ∧ Sl kTag aa (Fr M) (G A6 n7 c8) s2) (fun (sv__ : Int) => match sv__ with | v2 => aq v2) 0 ⟨ac, (X2 Z), hc0, hp4, hp9⟩ ?_;rintro v2 _ aa ⟨ac, ar, ad, ae, af⟩;obtain ⟨a5, rfl⟩ := Has.ins ar;have H := H v2 ac;refine Xb (Xd (Xa (Xx v2 (s1.length : Int) (decide (v2 < (s1.length : Int))) Z Z Z) (Xc (Xb ?_))));refine Xu (decide (v2 < (s1.length : Int))) Z (fun ag => ?_) (fun ag => ?_)
 ·have H := Xo H ag;refine Xt (Xb (X5 (Xb (Xd (Xg (vi v2) Z (Xf (vi v2) Z (Xc (Xb ?_))))))));refine Yh (fun x => Gr aa x none) RK RK (Gr.drew _) ?_;refine Xs (G A1 n2 c3) Z (Xs (vi v2) Z ?_);obtain ⟨ai, H⟩ := H;obtain ⟨aj, a6, au, a7, av, aw⟩ := ae.get default RD v2 ai;obtain ⟨rfl, a8, a9⟩ := kTag.op av;refine Xi (X4 u35_ Yq A1 aj n2 c3 ae.len v2 Z au Z ai) (Xi (Xv ag67 sz67 cQ (aj.add (v2.toNat * 2)) [vs ((nth s1 v2).Key), vs ((nth s1 v2).Val)] Z Z aw) (Xs (G A6 n7 c8) Z (Xs (vi v2) Z ?_)));obtain ⟨ak, H⟩ := H;obtain ⟨al, ba, ax, bb, ay, az⟩ := af.get default RD v2 ak;obtain ⟨rfl, bc, bd⟩ := kTag.op ay;refine Xi (X4 u35_ Yq A6 al n7 c8 af.len v2 Z ax Z ak) (Xi (Xv ag67 sz67 cQ (al.add (v2.toNat * 2)) [vs ((nth s2 v2).Key), vs ((nth s2 v2).Val)] Z Z az) (Xi (Yz _ _ (eqTag (nth s1 v2) (nth s2 v2)) (qt67 (nth s1 v2) (nth s2 v2)) Z Z) (X9 fun be am => ?_)));have an := ad.k0 am;refine Xu (!(eqTag (nth s1 v2) (nth s2 v2))) Z (fun ah => ?_) (fun ah => ?_)
  ·have H := Xo H ah;exact Xb (Xd (Xf (vb false) Z (Xc (Xl ⟨[vb false], ⟨_, Z, Z⟩, false, Z, H, an.gr.g0⟩))))
  have H := Xp H ah;refine Xt (Xd ?_);obtain ⟨a0, H⟩ := H;refine Xa (Yc v2 1 Z Z a0) (Xg (vi (v2 + 1)) Z (Xc ?_));obtain ⟨a1, a2⟩ := H;have ao := ad.stn am;exact ⟨v2 + 1, a2, a1, (X2 Z), an, (ae.st ao), (af.st ao)⟩
 have H := Xp H ag;refine Yd (xin_hit ?_);exact Xb (Xd (Xf (vb true) Z (Xc (Xl ⟨[vb true], ⟨_, Z, Z⟩, true, Z, H, ad.gr.g0⟩))))
def F22.E (a b : Feat) (Q : Bool → Prop) : Prop :=
 (if a.Id == b.Id then F14.E a.Shape b.Shape (fun r => (if r then F1.E a.Tags b.Tags (fun r2 => Q r2) else Q false)) else Q false)
theorem F22.calls {a : Feat} {A2 : Option Addr} {n3 c4 : Nat} {A7 : Option Addr} {n8 c9 : Nat} {b : Feat} {ae : Option Addr} {af ag : Nat} {ah : Option Addr} {ai aj : Nat} {Q : Bool → Prop} (H : F22.E a b Q) (hO : Ok w0 O) (hs1 : Lim a.Id) (hp5 : Sl kPt w0 (Fr O) (G A2 n3 c4) a.Shape.Pts) (au : Sl kTag w0 (Fr O) (G A7 n8 c9) a.Tags) (ba : Lim b.Id) (av : Sl kPt w0 (Fr O) (G ae af ag) b.Shape.Pts) (aw : Sl kTag w0 (Fr O) (G ah ai aj) b.Tags) :
  Ret Tryd.prog 44 [.agg #[vs a.Id, vi a.Shape.Kind, G A2 n3 c4, G A7 n8 c9], .agg #[vs b.Id, vi b.Shape.Kind, G ae af ag, G ah ai aj]] w0 (fun v w' => ∃ (r0 : Bool), v = vb r0 ∧ Q r0 ∧ Gr w0 w' none) := by
 unfold F22.E at H;have hc0 := Ct.init hO;refine X3 Tryd.func44 Z 24 Z [.tmp 4] Z Z ?_;refine Xb (Xd (Ya [vs a.Id, vi a.Shape.Kind, G A2 n3 c4, G A7 n8 c9] Z fun bb ac ax hu27 ay az => ?_));have a0 := Fb.mk hc0.ok ax az;have am := hc0.k0 ay;refine Ya [vs b.Id, vi b.Shape.Kind, G ae af ag, G ah ai aj] Z fun a1 ad a2 hu36 ap a3 => ?_;have an := Fb.mk am.ok a2 a3;have ak := am.k0 ap;refine Xf (vb false) Z (Xc (Xb (Xd (Xa (Xj fa37_0 (Ad ac 0) (Ad ac 0) Z Z) ?_))));have a4 := am.stn ap;have ao := (a0.st a4);refine Xa (Xn ag9 cL (Ad ac 0) (vs a.Id) Z (ao.cell Z)) (Xa (Xj fa37_0 (Ad ad 0) (Ad ad 0) Z Z) (Xa (Xn ag9 cL (Ad ad 0) (vs b.Id) Z (an.cell Z)) (Xa (Yg a.Id b.Id (a.Id == b.Id) Z Z Z) (Xg (vb (a.Id == b.Id)) Z ?_))));rcases Xz (a.Id == b.Id) with aa | aa
 ·have H := Xo H aa;refine Xe aa Z (Xa (Xj fa37_1 (Ad ac 0) (Ad ac 1) Z Z) (Xe aa Z (Xa (Xv ag34 sz34 cL (Ad ac 1) [vi a.Shape.Kind, G A2 n3 c4] Z Z (ao.cells (off := 1) Z)) (Xe aa Z (Xa (Xj fa37_1 (Ad ad 0) (Ad ad 1) Z Z) (Xe aa Z (Xa (Xv ag34 sz34 cL (Ad ad 1) [vi b.Shape.Kind, G ae af ag] Z Z (an.cells (off := 1) Z)) (Xe aa Z ?_))))))));refine X0 go72 (F14.calls H ak.ok (hp5.st ak.st) (av.st ak.st)) Z ?_;rintro _ a5 ⟨r, rfl, H, aq⟩;have al := ak.k0 aq;refine Xa (Xk true (vb r) aa Z) (Xg (vb r) Z ?_);rcases Xz r with ab | ab
  ·have H := Xo H ab;refine Xe ab Z (Xa (Xj fa37_2 (Ad ac 0) (Ad ac 3) Z Z) (Xe ab Z ?_));have ar := ak.stn aq;have a6 := (ao.st ar);refine Xa (Xn ag35 cL (Ad ac 3) (G A7 n8 c9) Z (a6.cell Z)) (Xe ab Z (Xa (Xj fa37_2 (Ad ad 0) (Ad ad 3) Z Z) (Xe ab Z ?_)));have a7 := (an.st ar);refine Xa (Xn ag35 cL (Ad ad 3) (G ah ai aj) Z (a7.cell Z)) (Xe ab Z ?_);refine X0 go73 (F1.calls H al.ok (au.st al.st) (aw.st al.st)) Z ?_;rintro _ bc ⟨r2, rfl, H, a8⟩;have a9 := al.k0 a8;exact Xa (Xk true (vb r2) ab Z) (Xf (vb r2) Z (Xc (Xl ⟨[vb r2], ⟨_, Z, Z⟩, r2, Z, H, a9.gr.g0⟩)))
  have H := Xp H ab;refine Xh ab Z (Xh ab Z (Xh ab Z (Xh ab Z (Xh ab Z (Xa (Xk false (vb false) ab Z) (Xf (vb false) Z (Xc (Xl ?_))))))));exact ⟨[vb false], ⟨_, Z, Z⟩, false, Z, H, al.gr.g0⟩
 have H := Xp H aa;refine Xh aa Z (Xh aa Z (Xh aa Z (Xh aa Z (Xh aa Z (Xa (Xk false (vb false) aa Z) (Xg (vb false) Z (Xy (dj := 17) Z Z (.inl Z) (Xy (dj := 17) Z Z (.inl Z) ?_))))))));exact Xy (dj := 17) Z Z (.inl Z) (Xy (dj := 17) Z Z (.inl Z) (Xy (dj := 17) Z Z (.inl Z) (Xa (Xk false (vb false) Z Z) (Xf (vb false) Z (Xc (Xl ⟨[vb false], ⟨_, Z, Z⟩, false, Z, H, ak.gr.g0⟩))))))
def F2.E (c_ : Change) (Q : Bool → Prop) : Prop :=
 (if c_.Had == c_.Has then F22.E c_.Was c_.Now (fun r => Q r) else Q false)
theorem F2.calls {c_ : Change} {A3 : Option Addr} {n4 c5 : Nat} {A8 : Option Addr} {n9 ad : Nat} {ae : Option Addr} {af ag : Nat} {ah : Option Addr} {ai aj : Nat} {Q : Bool → Prop} (H : F2.E c_ Q) (hO : Ok w0 O) (hs1 : Lim c_.Id) (hs2 : Lim c_.Was.Id) (hp6 : Sl kPt w0 (Fr O) (G A3 n4 c5) c_.Was.Shape.Pts) (al : Sl kTag w0 (Fr O) (G A8 n9 ad) c_.Was.Tags) (am : Lim c_.Now.Id) (an : Sl kPt w0 (Fr O) (G ae af ag) c_.Now.Shape.Pts) (ao : Sl kTag w0 (Fr O) (G ah ai aj) c_.Now.Tags) :
  Ret Tryd.prog 26 [.agg #[vs c_.Id, vb c_.Had, vs c_.Was.Id, vi c_.Was.Shape.Kind, G A3 n4 c5, G A8 n9 ad, vb c_.Has, vs c_.Now.Id, vi c_.Now.Shape.Kind, G ae af ag, G ah ai aj]] w0 (fun v w' => ∃ (r0 : Bool), v = vb r0 ∧ Q r0 ∧ Gr w0 w' none) := by
 unfold F2.E at H;have hc0 := Ct.init hO;refine X3 Tryd.func26 Z 15 Z [.tmp 2] Z Z ?_;refine Xb (Xd (Ya [vs c_.Id, vb c_.Had, vs c_.Was.Id, vi c_.Was.Shape.Kind, G A3 n4 c5, G A8 n9 ad, vb c_.Has, vs c_.Now.Id, vi c_.Now.Shape.Kind, G ae af ag, G ah ai aj] Z fun ap ab aq hu28 ar au => ?_));have ak := Fb.mk hc0.ok aq au;have ac := hc0.k0 ar;refine Xf (vb false) Z (Xc (Xb (Xd (Xa (Xj fa39_1 (Ad ab 0) (Ad ab 1) Z Z) (Xa (Xn ag4 cL (Ad ab 1) (vb c_.Had) Z (ak.cell Z)) (Xa (Xj fa39_3 (Ad ab 0) (Ad ab 6) Z Z) (Xa (Xn ag4 cL (Ad ab 6) (vb c_.Has) Z (ak.cell Z)) (Xa (Y4 Tryd.underlying4 c_.Had c_.Has (c_.Had == c_.Has) Z Z Z) ?_))))))));refine Xg (vb (c_.Had == c_.Has)) Z ?_;rcases Xz (c_.Had == c_.Has) with aa | aa
 ·have H := Xo H aa;refine Xe aa Z (Xa (Xj fa39_2 (Ad ab 0) (Ad ab 2) Z Z) (Xe aa Z (Xa (Xv ag37 sz37 cL (Ad ab 2) [vs c_.Was.Id, vi c_.Was.Shape.Kind, G A3 n4 c5, G A8 n9 ad] Z Z (ak.cells (off := 2) Z)) (Xe aa Z (Xa (Xj fa39_4 (Ad ab 0) (Ad ab 7) Z Z) (Xe aa Z (Xa (Xv ag37 sz37 cL (Ad ab 7) [vs c_.Now.Id, vi c_.Now.Shape.Kind, G ae af ag, G ah ai aj] Z Z (ak.cells (off := 7) Z)) (Xe aa Z ?_))))))));refine X0 go44 (F22.calls H ac.ok hs2 (hp6.st ac.st) (al.st ac.st) am (an.st ac.st) (ao.st ac.st)) Z ?_;rintro _ ax ⟨r, rfl, H, av⟩;have aw := ac.k0 av;exact Xa (Xk true (vb r) aa Z) (Xf (vb r) Z (Xc (Xl ⟨[vb r], ⟨_, Z, Z⟩, r, Z, H, aw.gr.g0⟩)))
 have H := Xp H aa;refine Xh aa Z (Xh aa Z (Xh aa Z (Xh aa Z (Xh aa Z (Xa (Xk false (vb false) aa Z) (Xf (vb false) Z (Xc (Xl ?_))))))));exact ⟨[vb false], ⟨_, Z, Z⟩, false, Z, H, ac.gr.g0⟩
def F55.E (d : List Change) (Q : Bool → Prop) : Prop :=
 (∃ (I19 : Int → Prop) (mu20 : Int → Nat), I19 0 ∧ ∀ (v2 : Int), I19 v2 → (if decide (v2 < (d.length : Int)) then ((0 : Int) ≤ v2 ∧ v2 < (d.length : Int)) ∧ (∃ q : Bool, F51.E ((nth d v2).Id) (fun x => x = q) ∧ (if !q then Q false else (if decide (v2 > 0) then (I64 (v2 - 1)) ∧ ((0 : Int) ≤ v2 - 1 ∧ v2 - 1 < (d.length : Int)) ∧ (if !(Op.bytesLess ((nth d (v2 - 1)).Id) ((nth d v2).Id)) then Q false else (∃ q2 : Bool, F54.E ((nth d v2).Id) ((nth d v2).Had) ((nth d v2).Was) (fun x => x = q2) ∧ (if !q2 then Q false else (∃ q3 : Bool, F54.E ((nth d v2).Id) ((nth d v2).Has) ((nth d v2).Now) (fun x => x = q3) ∧ (if !q3 then Q false else (∃ q4 : Bool, F2.E (nth d v2) (fun x => x = q4) ∧ (if q4 then Q false else (I64 (v2 + 1)) ∧ I19 (v2 + 1) ∧ mu20 (v2 + 1) < mu20 v2))))))) else (∃ q5 : Bool, F54.E ((nth d v2).Id) ((nth d v2).Had) ((nth d v2).Was) (fun x => x = q5) ∧ (if !q5 then Q false else (∃ q6 : Bool, F54.E ((nth d v2).Id) ((nth d v2).Has) ((nth d v2).Now) (fun x => x = q6) ∧ (if !q6 then Q false else (∃ q7 : Bool, F2.E (nth d v2) (fun x => x = q7) ∧ (if q7 then Q false else (I64 (v2 + 1)) ∧ I19 (v2 + 1) ∧ mu20 (v2 + 1) < mu20 v2))))))))) else Q (decide ((d.length : Int) ≤ 16))))
theorem F55.calls {d : List Change} {A1 : Option Addr} {n2 c3 : Nat} {Q : Bool → Prop} (H : F55.E d Q) (hO : Ok w0 O) (hp4 : Sl kChange w0 (Fr O) (G A1 n2 c3) d) :
  Ret Tryd.prog 14 [G A1 n2 c3] w0 (fun v w' => ∃ (r0 : Bool), v = vb r0 ∧ Q r0 ∧ Gr w0 w' none) := by
 unfold F55.E at H;have hc0 := Ct.init hO;refine X3 Tryd.func14 Z 59 Z [.tmp 2] Z Z ?_;refine Xb (Xd (Xf (vb false) Z (Xc (Xb (Xb (Xd (Xg (G A1 n2 c3) Z ?_)))))));have hl6 := hp4.le;refine Xa (X6 u25_ A1 n2 c3 hp4.len Z) (Xg (vi 0) Z (Xc (X5 ?_)));obtain ⟨b3, b4, a8, H⟩ := H;refine Ye (α := Int) (fun (sv__ : Int) t a9 => match sv__ with | v2 => b3 v2 ∧ Has t [(0, G A1 n2 c3), (5, G A1 n2 c3), (6, vi (d.length : Int)), (7, vi v2)] ∧ Ct [] w0 a9 [] O ∧ Sl kChange a9 (Fr ([] ++ O)) (G A1 n2 c3) d) (fun (sv__ : Int) => match sv__ with | v2 => b4 v2) 0 ⟨a8, (X2 Z), hc0, hp4⟩ ?_;rintro v2 _ a9 ⟨a8, b5, a4, az⟩;obtain ⟨dm, rfl⟩ := Has.ins b5;have H := H v2 a8;refine Xb (Xd (Xa (Xx v2 (d.length : Int) (decide (v2 < (d.length : Int))) Z Z Z) (Xc (Xb ?_))));refine Xu (decide (v2 < (d.length : Int))) Z (fun ba => ?_) (fun ba => ?_)
 ·have H := Xo H ba;refine Xt (Xb (X5 (Xb (Xd (Xg (vi v2) Z ?_)))));obtain ⟨bl, H⟩ := H;obtain ⟨bm, dn, b6, dp, b7, b8⟩ := az.get default RD v2 bl;obtain ⟨ah, ai, aj, ak, al, am, an, ao, ap, aq, ar, au, rfl, ay, a5, bn, bo, a6, bp, bq⟩ := kChange.op b7;refine Xa (X4 u25_ Ys A1 bm n2 c3 az.len v2 Z b6 Z bl) (Xa (Xv ag39 sz39 cL (bm.add (v2.toNat * 11)) [vs ((nth d v2).Id), vb ((nth d v2).Had), vs ((nth d v2).Was.Id), vi ((nth d v2).Was.Shape.Kind), G ah ai aj, G ak al am, vb ((nth d v2).Has), vs ((nth d v2).Now.Id), vi ((nth d v2).Now.Shape.Kind), G an ao ap, G aq ar au] Z Z b8) (Yn [vs [], vb false, vs [], .int .i64 0, G none 0 0, G none 0 0, vb false, vs [], .int .i64 0, G none 0 0, G none 0 0] ze39 fun dq aa bb hu60 bc b9 => ?_));have bd := a4.own bc (some aa) (Yp bb hu60);refine Xf (vi v2) Z (Yu [vs ((nth d v2).Id), vb ((nth d v2).Had), vs ((nth d v2).Was.Id), vi ((nth d v2).Was.Shape.Kind), G ah ai aj, G ak al am, vb ((nth d v2).Has), vs ((nth d v2).Now.Id), vi ((nth d v2).Now.Shape.Kind), G an ao ap, G aq ar au] b9 Z Z sz39 Z Z fun ca be ag => ?_);have af := bd.wr 0 Z be;refine Xc (Xb (Yh (fun x => Gr ca x none) RK RK (Gr.drew _) ?_));refine Xi (Xj fa39_0 (Ad aa 0) (Ad aa 0) Z Z) (Xi (Xn ag9 cQ (Ad aa 0) (vs ((nth d v2).Id)) Z (ag.cell Z)) ?_);obtain ⟨q, cb, H⟩ := H;refine Yf go24 [vs ((nth d v2).Id)] Z (vb q) (fun w g => (F51.calls cb (af.k0 g).ok ay).mono ?_) ?_
  ·rintro _ w ⟨r, rfl, rfl, g2⟩;exact ⟨Z, Gr.t0 g g2⟩
  refine Xi (X1 q Z) (Xs (vb (!q)) Z ?_);rcases Xz (!q) with av | av
  ·have H := Xo H av;refine Xr av Z (Xr av Z (Xr av Z (Xw Z (Xw Z (Xw Z (Xw Z (Xw Z (Xw Z ?_))))))));refine Xw Z (Xw Z (Xw Z (Xr av Z (Xi (Xk true (vb true) av Z) (Xs (vb true) Z (X8 (dj := 31) Z Z (.inl Z) (X8 (dj := 31) Z Z (.inl Z) (X8 (dj := 31) Z Z (.inl Z) ?_))))))));refine X8 (dj := 31) Z Z (.inl Z) (X8 (dj := 31) Z Z (.inl Z) (X8 (dj := 31) Z Z (.inl Z) (X8 (dj := 31) Z Z (.inl Z) (X8 (dj := 31) Z Z (.inl Z) (Xi (Xk true (vb true) Z Z) (Xs (vb true) Z (X8 (dj := 41) Z Z (.inl Z) (X8 (dj := 41) Z Z (.inl Z) ?_))))))));refine X8 (dj := 41) Z Z (.inl Z) (X8 (dj := 41) Z Z (.inl Z) (X8 (dj := 41) Z Z (.inl Z) (X8 (dj := 41) Z Z (.inl Z) (X8 (dj := 41) Z Z (.inl Z) (X8 (dj := 41) Z Z (.inl Z) (Xi (Xk true (vb true) Z Z) (Xs (vb true) Z (X8 (dj := 51) Z Z (.inl Z) ?_))))))));refine X8 (dj := 51) Z Z (.inl Z) (Xi (Xk true (vb true) Z Z) (X9 fun dr cc => ?_));have cd := af.k0 cc;refine Yi (b := true) Z Z ?_;refine Xb (Xd (Xf (vb false) Z (Xc (Xl ?_))));have ce := cd.drop 0 Z;exact ⟨[vb false], ⟨_, Z, Z⟩, false, Z, H, ce.gr.g0⟩
  have H := Xp H av;refine Xq av Z (Xs (vi v2) Z (Xq av Z (Xi (Xx v2 0 (decide (v2 > 0)) Z Z Z) (Xq av Z (Xs (vb (decide (v2 > 0))) Z ?_)))));rcases Xz (decide (v2 > 0)) with ab | ab
  ·have H := Xo H ab;refine Xq ab Z (Xs (G A1 n2 c3) Z (Xq ab Z (Xs (vi v2) Z (Xq ab Z ?_))));obtain ⟨cf, H⟩ := H;refine Xi (Yr v2 1 Z Z cf) (Xq ab Z ?_);obtain ⟨br, H⟩ := H;have a0 := a4.stown _ bc (Ym bb);have a1 := bd.stw 0 Z be;have bf := ((az.st a0).st a1);obtain ⟨a7, ds, cg, dt, ch, ci⟩ := bf.get default RD (v2 - 1) br;obtain ⟨du, dv, dw, dx, dy, dz, d0, d1, d2, d3, d4, d5, rfl, d6, d7, d8, d9, ea, eb, ec⟩ := kChange.op ch;refine Xi (X4 u25_ Ys A1 a7 n2 c3 bf.len (v2 - 1) Z cg Z br) (Xq ab Z (Xi (Xj fa39_0 (a7.add ((v2 - 1).toNat * 11)) ((a7.add ((v2 - 1).toNat * 11)).add 0) Z Z) (Xq ab Z (Xi (Xn ag9 cQ ((a7.add ((v2 - 1).toNat * 11)).add 0) (vs ((nth d (v2 - 1)).Id)) Z (ci 0 _ Z)) (Xq ab Z (Xi (Xj fa39_0 (Ad aa 0) (Ad aa 0) Z Z) (Xq ab Z (Xi (Xn ag9 cQ (Ad aa 0) (vs ((nth d v2).Id)) Z (ag.cell Z)) ?_))))))));refine Xq ab Z (Xi (Yg ((nth d (v2 - 1)).Id) ((nth d v2).Id) (!(Op.bytesLess ((nth d (v2 - 1)).Id) ((nth d v2).Id))) Z Z Z) (Xq av Z (Xi (Yj true (vb (!(Op.bytesLess ((nth d (v2 - 1)).Id) ((nth d v2).Id)))) (by exact congrArg Value.bool ab) Z) (Xi (Yj false (vb (!(Op.bytesLess ((nth d (v2 - 1)).Id) ((nth d v2).Id)))) (by exact congrArg Value.bool av) Z) (Xs (vb (!(Op.bytesLess ((nth d (v2 - 1)).Id) ((nth d v2).Id)))) Z ?_)))));rcases Xz (!(Op.bytesLess ((nth d (v2 - 1)).Id) ((nth d v2).Id))) with ac | ac
   ·have H := Xo H ac;refine Xr ac Z (Xr ac Z (Xr ac Z (Xr ac Z (Xr ac Z (Xr ac Z (Xr ac Z (Xr ac Z (Xi (Xk true (vb true) ac Z) ?_))))))));refine Xs (vb true) Z (X8 (dj := 41) Z Z (.inl Z) (X8 (dj := 41) Z Z (.inl Z) (X8 (dj := 41) Z Z (.inl Z) (X8 (dj := 41) Z Z (.inl Z) (X8 (dj := 41) Z Z (.inl Z) (X8 (dj := 41) Z Z (.inl Z) (X8 (dj := 41) Z Z (.inl Z) (X8 (dj := 41) Z Z (.inl Z) ?_))))))));refine Xi (Xk true (vb true) Z Z) (Xs (vb true) Z (X8 (dj := 51) Z Z (.inl Z) (X8 (dj := 51) Z Z (.inl Z) (Xi (Xk true (vb true) Z Z) (X9 fun ed cj => ?_)))));have ck := af.k0 cj;refine Yi (b := true) Z Z ?_;refine Xb (Xd (Xf (vb false) Z (Xc (Xl ?_))));have cl := ck.drop 0 Z;exact ⟨[vb false], ⟨_, Z, Z⟩, false, Z, H, cl.gr.g0⟩
   have H := Xp H ac;refine Xq ac Z (Xi (Xj fa39_0 (Ad aa 0) (Ad aa 0) Z Z) (Xq ac Z (Xi (Xn ag9 cQ (Ad aa 0) (vs ((nth d v2).Id)) Z (ag.cell Z)) (Xq ac Z (Xi (Xj fa39_1 (Ad aa 0) (Ad aa 1) Z Z) (Xq ac Z (Xi (Xn ag4 cQ (Ad aa 1) (vb ((nth d v2).Had)) Z (ag.cell Z)) (Xq ac Z ?_))))))));refine Xi (Xj fa39_2 (Ad aa 0) (Ad aa 2) Z Z) (Xq ac Z (Xi (Xv ag37 sz37 cQ (Ad aa 2) [vs ((nth d v2).Was.Id), vi ((nth d v2).Was.Shape.Kind), G ah ai aj, G ak al am] Z Z (ag.cells (off := 2) Z)) (Xq ac Z ?_)));have bs := ((bn.st a0).st a1);have bt := ((bo.st a0).st a1);obtain ⟨q2, cm, H⟩ := H;refine Yf go25 [vs ((nth d v2).Id), vb ((nth d v2).Had), .agg #[vs ((nth d v2).Was.Id), vi ((nth d v2).Was.Shape.Kind), G ah ai aj, G ak al am]] Z (vb q2) (fun w g => (F54.calls cm (af.k0 g).ok ay a5 (bs.st (.new _ g)) (bt.st (.new _ g))).mono ?_) ?_
   ·rintro _ w ⟨r, rfl, rfl, g2⟩;exact ⟨Z, Gr.t0 g g2⟩
   refine Xq ac Z (Xi (X1 q2 Z) (Xi (Xk false (vb (!q2)) ac Z) (Xs (vb (!q2)) Z ?_)));rcases Xz (!q2) with ad | ad
   ·have H := Xo H ad;refine Xr ad Z (Xr ad Z (Xr ad Z (Xr ad Z (Xr ad Z (Xr ad Z (Xr ad Z (Xr ad Z (Xi (Xk true (vb true) ad Z) ?_))))))));refine Xs (vb true) Z (X8 (dj := 51) Z Z (.inl Z) (X8 (dj := 51) Z Z (.inl Z) (Xi (Xk true (vb true) Z Z) (X9 fun ee cn => ?_))));have co := af.k0 cn;refine Yi (b := true) Z Z ?_;refine Xb (Xd (Xf (vb false) Z (Xc (Xl ?_))));have cp := co.drop 0 Z;exact ⟨[vb false], ⟨_, Z, Z⟩, false, Z, H, cp.gr.g0⟩
   have H := Xp H ad;refine Xq ad Z (Xi (Xj fa39_0 (Ad aa 0) (Ad aa 0) Z Z) (Xq ad Z (Xi (Xn ag9 cQ (Ad aa 0) (vs ((nth d v2).Id)) Z (ag.cell Z)) (Xq ad Z (Xi (Xj fa39_3 (Ad aa 0) (Ad aa 6) Z Z) (Xq ad Z (Xi (Xn ag4 cQ (Ad aa 6) (vb ((nth d v2).Has)) Z (ag.cell Z)) (Xq ad Z ?_))))))));refine Xi (Xj fa39_4 (Ad aa 0) (Ad aa 7) Z Z) (Xq ad Z (Xi (Xv ag37 sz37 cQ (Ad aa 7) [vs ((nth d v2).Now.Id), vi ((nth d v2).Now.Shape.Kind), G an ao ap, G aq ar au] Z Z (ag.cells (off := 7) Z)) (Xq ad Z ?_)));have bu := ((bp.st a0).st a1);have bv := ((bq.st a0).st a1);obtain ⟨q3, cq, H⟩ := H;refine Yf go25 [vs ((nth d v2).Id), vb ((nth d v2).Has), .agg #[vs ((nth d v2).Now.Id), vi ((nth d v2).Now.Shape.Kind), G an ao ap, G aq ar au]] Z (vb q3) (fun w g => (F54.calls cq (af.k0 g).ok ay a6 (bu.st (.new _ g)) (bv.st (.new _ g))).mono ?_) ?_
   ·rintro _ w ⟨r, rfl, rfl, g2⟩;exact ⟨Z, Gr.t0 g g2⟩
   refine Xq ad Z (Xi (X1 q3 Z) (Xi (Xk false (vb (!q3)) ad Z) (Xs (vb (!q3)) Z ?_)));rcases Xz (!q3) with aw | aw
   ·have H := Xo H aw;refine Xr aw Z (Xr aw Z (Xi (Xk true (vb true) aw Z) (X9 fun ef cr => ?_)));have cs := af.k0 cr;refine Yi (b := true) Z Z ?_;refine Xb (Xd (Xf (vb false) Z (Xc (Xl ?_))));have ct := cs.drop 0 Z;exact ⟨[vb false], ⟨_, Z, Z⟩, false, Z, H, ct.gr.g0⟩
   have H := Xp H aw;refine Xq aw Z (Xi (Xv ag39 sz39 cQ (Ad aa 0) [vs ((nth d v2).Id), vb ((nth d v2).Had), vs ((nth d v2).Was.Id), vi ((nth d v2).Was.Shape.Kind), G ah ai aj, G ak al am, vb ((nth d v2).Has), vs ((nth d v2).Now.Id), vi ((nth d v2).Now.Shape.Kind), G an ao ap, G aq ar au] Z Z (ag.cells (off := 00) Z)) (Xq aw Z ?_));obtain ⟨q4, cu, H⟩ := H;refine Yf go26 [.agg #[vs ((nth d v2).Id), vb ((nth d v2).Had), vs ((nth d v2).Was.Id), vi ((nth d v2).Was.Shape.Kind), G ah ai aj, G ak al am, vb ((nth d v2).Has), vs ((nth d v2).Now.Id), vi ((nth d v2).Now.Shape.Kind), G an ao ap, G aq ar au]] Z (vb q4) (fun w g => (F2.calls cu (af.k0 g).ok ay a5 (bs.st (.new _ g)) (bt.st (.new _ g)) a6 (bu.st (.new _ g)) (bv.st (.new _ g))).mono ?_) ?_
   ·rintro _ w ⟨r, rfl, rfl, g2⟩;exact ⟨Z, Gr.t0 g g2⟩
   refine Xi (Xk false (vb q4) aw Z) (X9 fun eg bw => ?_);have bg := af.k0 bw;refine Xu q4 Z (fun bh => ?_) (fun bh => ?_)
   ·have H := Xo H bh;refine Xb (Xd (Xf (vb false) Z (Xc (Xl ?_))));have cv := bg.drop 0 Z;exact ⟨[vb false], ⟨_, Z, Z⟩, false, Z, H, cv.gr.g0⟩
   have H := Xp H bh;refine Xt (Xd ?_);obtain ⟨cw, H⟩ := H;refine Xa (Yc v2 1 Z Z cw) (Xg (vi (v2 + 1)) Z (Xc ?_));have cx := bg.drop 0 Z;obtain ⟨cy, cz⟩ := H;have c0 := af.stn bw;have c1 := bg.std 0 Z;have c2 := ((bf.st c0).st c1);exact ⟨v2 + 1, cz, cy, (X2 Z), cx, c2⟩
  have H := Xp H ab;refine Xr ab Z (Xr ab Z (Xr ab Z (Xr ab Z (Xr ab Z (Xr ab Z (Xr ab Z (Xr ab Z (Xr ab Z ?_))))))));refine Xq av Z (Xi (Xk false (vb false) ab Z) (Xi (Xk false (vb false) av Z) (Xs (vb false) Z (Yw (dj := 31) Z Z Z (Xi (Xj fa39_0 (Ad aa 0) (Ad aa 0) Z Z) (Yw (dj := 31) Z Z Z (Xi (Xn ag9 cQ (Ad aa 0) (vs ((nth d v2).Id)) Z (ag.cell Z)) (Yw (dj := 31) Z Z Z ?_))))))));refine Xi (Xj fa39_1 (Ad aa 0) (Ad aa 1) Z Z) (Yw (dj := 31) Z Z Z (Xi (Xn ag4 cQ (Ad aa 1) (vb ((nth d v2).Had)) Z (ag.cell Z)) (Yw (dj := 31) Z Z Z (Xi (Xj fa39_2 (Ad aa 0) (Ad aa 2) Z Z) (Yw (dj := 31) Z Z Z (Xi (Xv ag37 sz37 cQ (Ad aa 2) [vs ((nth d v2).Was.Id), vi ((nth d v2).Was.Shape.Kind), G ah ai aj, G ak al am] Z Z (ag.cells (off := 2) Z)) (Yw (dj := 31) Z Z Z ?_)))))));have a2 := a4.stown _ bc (Ym bb);have a3 := bd.stw 0 Z be;have bx := ((bn.st a2).st a3);have bz := ((bo.st a2).st a3);obtain ⟨q5, c4, H⟩ := H;refine Yf go25 [vs ((nth d v2).Id), vb ((nth d v2).Had), .agg #[vs ((nth d v2).Was.Id), vi ((nth d v2).Was.Shape.Kind), G ah ai aj, G ak al am]] Z (vb q5) (fun w g => (F54.calls c4 (af.k0 g).ok ay a5 (bx.st (.new _ g)) (bz.st (.new _ g))).mono ?_) ?_
  ·rintro _ w ⟨r, rfl, rfl, g2⟩;exact ⟨Z, Gr.t0 g g2⟩
  refine Yw (dj := 31) Z Z Z (Xi (X1 q5 Z) (Xi (Xk false (vb (!q5)) Z Z) (Xs (vb (!q5)) Z ?_)));rcases Xz (!q5) with ae | ae
  ·have H := Xo H ae;refine Xr ae Z (Xr ae Z (Xr ae Z (Xr ae Z (Xr ae Z (Xr ae Z (Xr ae Z (Xr ae Z (Xi (Xk true (vb true) ae Z) ?_))))))));refine Xs (vb true) Z (X8 (dj := 51) Z Z (.inl Z) (X8 (dj := 51) Z Z (.inl Z) (Xi (Xk true (vb true) Z Z) (X9 fun eh c5 => ?_))));have c6 := af.k0 c5;refine Yi (b := true) Z Z ?_;refine Xb (Xd (Xf (vb false) Z (Xc (Xl ?_))));have c7 := c6.drop 0 Z;exact ⟨[vb false], ⟨_, Z, Z⟩, false, Z, H, c7.gr.g0⟩
  have H := Xp H ae;refine Xq ae Z (Xi (Xj fa39_0 (Ad aa 0) (Ad aa 0) Z Z) (Xq ae Z (Xi (Xn ag9 cQ (Ad aa 0) (vs ((nth d v2).Id)) Z (ag.cell Z)) (Xq ae Z (Xi (Xj fa39_3 (Ad aa 0) (Ad aa 6) Z Z) (Xq ae Z (Xi (Xn ag4 cQ (Ad aa 6) (vb ((nth d v2).Has)) Z (ag.cell Z)) (Xq ae Z ?_))))))));refine Xi (Xj fa39_4 (Ad aa 0) (Ad aa 7) Z Z) (Xq ae Z (Xi (Xv ag37 sz37 cQ (Ad aa 7) [vs ((nth d v2).Now.Id), vi ((nth d v2).Now.Shape.Kind), G an ao ap, G aq ar au] Z Z (ag.cells (off := 7) Z)) (Xq ae Z ?_)));have b0 := ((bp.st a2).st a3);have b1 := ((bq.st a2).st a3);obtain ⟨q6, c8, H⟩ := H;refine Yf go25 [vs ((nth d v2).Id), vb ((nth d v2).Has), .agg #[vs ((nth d v2).Now.Id), vi ((nth d v2).Now.Shape.Kind), G an ao ap, G aq ar au]] Z (vb q6) (fun w g => (F54.calls c8 (af.k0 g).ok ay a6 (b0.st (.new _ g)) (b1.st (.new _ g))).mono ?_) ?_
  ·rintro _ w ⟨r, rfl, rfl, g2⟩;exact ⟨Z, Gr.t0 g g2⟩
  refine Xq ae Z (Xi (X1 q6 Z) (Xi (Xk false (vb (!q6)) ae Z) (Xs (vb (!q6)) Z ?_)));rcases Xz (!q6) with ax | ax
  ·have H := Xo H ax;refine Xr ax Z (Xr ax Z (Xi (Xk true (vb true) ax Z) (X9 fun ei c9 => ?_)));have da := af.k0 c9;refine Yi (b := true) Z Z ?_;refine Xb (Xd (Xf (vb false) Z (Xc (Xl ?_))));have db := da.drop 0 Z;exact ⟨[vb false], ⟨_, Z, Z⟩, false, Z, H, db.gr.g0⟩
  have H := Xp H ax;refine Xq ax Z (Xi (Xv ag39 sz39 cQ (Ad aa 0) [vs ((nth d v2).Id), vb ((nth d v2).Had), vs ((nth d v2).Was.Id), vi ((nth d v2).Was.Shape.Kind), G ah ai aj, G ak al am, vb ((nth d v2).Has), vs ((nth d v2).Now.Id), vi ((nth d v2).Now.Shape.Kind), G an ao ap, G aq ar au] Z Z (ag.cells (off := 00) Z)) (Xq ax Z ?_));obtain ⟨q7, dc, H⟩ := H;refine Yf go26 [.agg #[vs ((nth d v2).Id), vb ((nth d v2).Had), vs ((nth d v2).Was.Id), vi ((nth d v2).Was.Shape.Kind), G ah ai aj, G ak al am, vb ((nth d v2).Has), vs ((nth d v2).Now.Id), vi ((nth d v2).Now.Shape.Kind), G an ao ap, G aq ar au]] Z (vb q7) (fun w g => (F2.calls dc (af.k0 g).ok ay a5 (bx.st (.new _ g)) (bz.st (.new _ g)) a6 (b0.st (.new _ g)) (b1.st (.new _ g))).mono ?_) ?_
  ·rintro _ w ⟨r, rfl, rfl, g2⟩;exact ⟨Z, Gr.t0 g g2⟩
  refine Xi (Xk false (vb q7) ax Z) (X9 fun ej b2 => ?_);have bi := af.k0 b2;refine Xu q7 Z (fun bj => ?_) (fun bj => ?_)
  ·have H := Xo H bj;refine Xb (Xd (Xf (vb false) Z (Xc (Xl ?_))));have dd := bi.drop 0 Z;exact ⟨[vb false], ⟨_, Z, Z⟩, false, Z, H, dd.gr.g0⟩
  have H := Xp H bj;refine Xt (Xd ?_);obtain ⟨de, H⟩ := H;refine Xa (Yc v2 1 Z Z de) (Xg (vi (v2 + 1)) Z (Xc ?_));have df := bi.drop 0 Z;obtain ⟨dg, dh⟩ := H;have di := af.stn b2;have dk := bi.std 0 Z;have dl := ((((az.st a2).st a3).st di).st dk);exact ⟨v2 + 1, dh, dg, (X2 Z), df, dl⟩
 have H := Xp H ba;refine Yd (xin_hit ?_);refine Xb (Xd (Xg (G A1 n2 c3) Z ?_));have ek := az.le;exact Xa (X6 u25_ A1 n2 c3 az.len Z) (Xa (Xx (d.length : Int) 16 (decide ((d.length : Int) ≤ 16)) Z Z Z) (Xf (vb (decide ((d.length : Int) ≤ 16))) Z (Xc (Xl ⟨[vb (decide ((d.length : Int) ≤ 16))], ⟨_, Z, Z⟩, decide ((d.length : Int) ≤ 16), Z, H, a4.gr.g0⟩))))
end Go.Proofs.YtlaaehjcooonfaaDoor
namespace Go.Proofs
open Go.Shelf
def Tryd.lays317_ren : Go.Shelf.Ren := ⟨fun | 317 => 100 | n => n, fun | 3 => 3 | 46 => 134 | n => n, fun | n => n⟩
theorem Tryd.lays317 : Go.Proofs.Lays.n317 Tryd.prog Tryd.lays317_ren := {
  mixed := by kernel_rfl
  f317 := Tryd.func100.trans (congrArg some (by kernel_rfl))
  t3 := Tryd.underlying3
  a3 := Tryd.isAgg3
  z3 := Tryd.sizeOf3
  v3 := Tryd.zeroValue3
  t46 := Tryd.underlying134
  a46 := Tryd.isAgg134
  z46 := Tryd.sizeOf134
  v46 := Tryd.zeroValue134 }
open Go.Lib in
theorem Tryd.internal_strconv_log10Pow2 (x : Nat) (h : x ≤ 64) (w : World) :
    Calls Tryd.prog 100 #[.int .i64 x] w fun e w' => e = .returned (.int .i64 (Lib.l10 x)) ∧ w' = w := Any.internal_strconv_log10Pow2 Tryd.lays317 x h w
def Tryd.lays318_ren : Go.Shelf.Ren := ⟨fun | 318 => 102 | n => n, fun | 3 => 3 | 4 => 4 | n => n, fun | n => n⟩
theorem Tryd.lays318 : Go.Proofs.Lays.n318 Tryd.prog Tryd.lays318_ren := {
  mixed := by kernel_rfl
  f318 := Tryd.func102.trans (congrArg some (by kernel_rfl))
  t3 := Tryd.underlying3
  a3 := Tryd.isAgg3
  z3 := Tryd.sizeOf3
  v3 := Tryd.zeroValue3
  t4 := Tryd.underlying4
  a4 := Tryd.isAgg4
  z4 := Tryd.sizeOf4
  v4 := Tryd.zeroValue4 }
open Go.Lib in
theorem Tryd.internal_strconv_bool2_int (b : Bool) (w : World) :
    Calls Tryd.prog 102 #[.bool b] w fun e w' => e = .returned (.int .i64 (if b then 1 else 0)) ∧ w' = w := Any.internal_strconv_bool2_int Tryd.lays318 b w
def Tryd.lays283_ren : Go.Shelf.Ren := ⟨fun | 283 => 96 | n => n, fun | 3 => 3 | 9 => 9 | 4 => 4 | n => n, fun | n => n⟩
theorem Tryd.lays283 : Go.Proofs.Lays.n283 Tryd.prog Tryd.lays283_ren := {
  mixed := by kernel_rfl
  f283 := Tryd.func96.trans (congrArg some (by kernel_rfl))
  t3 := Tryd.underlying3
  a3 := Tryd.isAgg3
  z3 := Tryd.sizeOf3
  v3 := Tryd.zeroValue3
  t4 := Tryd.underlying4
  a4 := Tryd.isAgg4
  z4 := Tryd.sizeOf4
  v4 := Tryd.zeroValue4
  t9 := Tryd.underlying9
  a9 := Tryd.isAgg9
  z9 := Tryd.sizeOf9
  v9 := Tryd.zeroValue9 }
open Go.Lib in
theorem Tryd.internal_strconv_small (i : Nat) (h : i < 100) (w : World) :
    Calls Tryd.prog 96 #[.int .i64 i] w fun e w' => e = .returned (.string ⟨(Lib.decDigits i).toArray⟩) ∧ w' = w := Any.internal_strconv_small Tryd.lays283 i h w
def Tryd.laysM284_ren : Go.Shelf.Ren := ⟨fun | 284 => 97 | 129 => 101 | 317 => 100 | 318 => 102 | n => n, fun | 53 => 125 | 3 => 3 | 212 => 131 | 0 => 0 | 4 => 4 | 46 => 134 | 5 => 5 | 9 => 9 | n => n, fun | 17 => 1 | n => n⟩
theorem Tryd.laysM284 : Go.Proofs.LaysM.n284 Tryd.prog Tryd.laysM284_ren := {
  mixed := by kernel_rfl
  f129 := Tryd.func101.trans (congrArg some (by kernel_rfl))
  f284 := Tryd.func97.trans (congrArg some (by kernel_rfl))
  f317 := Tryd.func100.trans (congrArg some (by kernel_rfl))
  f318 := Tryd.func102.trans (congrArg some (by kernel_rfl))
  t0 := Tryd.underlying0
  a0 := Tryd.isAgg0
  z0 := Tryd.sizeOf0
  v0 := Tryd.zeroValue0
  t3 := Tryd.underlying3
  a3 := Tryd.isAgg3
  z3 := Tryd.sizeOf3
  v3 := Tryd.zeroValue3
  t4 := Tryd.underlying4
  a4 := Tryd.isAgg4
  z4 := Tryd.sizeOf4
  v4 := Tryd.zeroValue4
  t5 := Tryd.underlying5
  a5 := Tryd.isAgg5
  z5 := Tryd.sizeOf5
  v5 := Tryd.zeroValue5
  t9 := Tryd.underlying9
  a9 := Tryd.isAgg9
  z9 := Tryd.sizeOf9
  v9 := Tryd.zeroValue9
  t46 := Tryd.underlying134
  a46 := Tryd.isAgg134
  z46 := Tryd.sizeOf134
  v46 := Tryd.zeroValue134
  t53 := Tryd.underlying125
  a53 := Tryd.isAgg125
  z53 := Tryd.sizeOf125
  v53 := Tryd.zeroValue125
  t212 := Tryd.underlying131
  a212 := Tryd.isAgg131
  z212 := Tryd.sizeOf131
  v212 := Tryd.zeroValue131
  g17 := by kernel_rfl
  i0 := by kernel_rfl
  i3 := by kernel_rfl
  i4 := by kernel_rfl
  i5 := by kernel_rfl
  i9 := by kernel_rfl
  i46 := by kernel_rfl
  i53 := by kernel_rfl
  i212 := by kernel_rfl
  m17 := by kernel_rfl }
open Go.Lib in
theorem Tryd.internal_strconv_numDigits (u : Nat) (h1 : 1 ≤ u) (h2 : u < 18446744073709551616) (w : World) (htab : Lib.TabIs Tryd.prog w "internal/strconv.uint64pow10" .u64 Lib.pow10Tab) :
    Calls Tryd.prog 97 #[.int .u64 u] w fun e w' => e = .returned (.int .i64 (Lib.nDigits u)) ∧ w' = w := Any.internal_strconv_numDigits Tryd.laysM284 u h1 h2 w htab
def Tryd.lays285_ren : Go.Shelf.Ren := ⟨fun | 285 => 98 | n => n, fun | 37 => 29 | 53 => 125 | 3 => 3 | 4 => 4 | 51 => 132 | 9 => 9 | 5 => 5 | 0 => 0 | n => n, fun | n => n⟩
theorem Tryd.lays285 : Go.Proofs.Lays.n285 Tryd.prog Tryd.lays285_ren := {
  mixed := by kernel_rfl
  f285 := Tryd.func98.trans (congrArg some (by kernel_rfl))
  t0 := Tryd.underlying0
  a0 := Tryd.isAgg0
  z0 := Tryd.sizeOf0
  v0 := Tryd.zeroValue0
  t3 := Tryd.underlying3
  a3 := Tryd.isAgg3
  z3 := Tryd.sizeOf3
  v3 := Tryd.zeroValue3
  t4 := Tryd.underlying4
  a4 := Tryd.isAgg4
  z4 := Tryd.sizeOf4
  v4 := Tryd.zeroValue4
  t5 := Tryd.underlying5
  a5 := Tryd.isAgg5
  z5 := Tryd.sizeOf5
  v5 := Tryd.zeroValue5
  t9 := Tryd.underlying9
  a9 := Tryd.isAgg9
  z9 := Tryd.sizeOf9
  v9 := Tryd.zeroValue9
  t37 := Tryd.underlying29
  a37 := Tryd.isAgg29
  z37 := Tryd.sizeOf29
  v37 := Tryd.zeroValue29
  t51 := Tryd.underlying132
  a51 := Tryd.isAgg132
  z51 := Tryd.sizeOf132
  v51 := Tryd.zeroValue132
  t53 := Tryd.underlying125
  a53 := Tryd.isAgg125
  z53 := Tryd.sizeOf125
  v53 := Tryd.zeroValue125 }
open Go.RowKit Go.Sort Go.Lib in
theorem Tryd.internal_strconv_formatBase10 (blk off cap : Nat) (u : Nat) (d : Array UInt8) (w : World) (hH : Holds (fun (b : UInt8) => Value.int .u8 (b.toNat : Int)) w blk off d) (hu : u < 10 ^ d.size) (hu64 : u < 18446744073709551616) (hsz : d.size < 4611686018427387904) :
    Calls Tryd.prog 98 #[.slice (some ⟨blk, off, none⟩) d.size cap, .int .u64 u] w fun e w' =>
      e = .returned (.tuple #[]) ∧ ∃ (n v' : Nat) (dk : Array UInt8), w' = (putRow (fun (b : UInt8) => Value.int .u8 (b.toNat : Int)) w blk off dk).drewN n ∧ FmtInv d.size u 0 v' dk := Any.internal_strconv_formatBase10 Tryd.lays285 blk off cap u d w hH hu hu64 hsz
def Tryd.laysM246_ren : Go.Shelf.Ren := ⟨fun | 246 => 92 | 283 => 96 | 284 => 97 | 285 => 98 | 286 => 99 | 129 => 101 | 317 => 100 | 318 => 102 | 319 => 103 | 320 => 104 | 337 => 105 | 338 => 106 | n => n, fun | 2 => 2 | 3 => 3 | 9 => 9 | 4 => 4 | 171 => 124 | 0 => 0 | 53 => 125 | 37 => 29 | 5 => 5 | 173 => 128 | 212 => 131 | 51 => 132 | 20 => 20 | 213 => 133 | 46 => 134 | 232 => 137 | 233 => 138 | n => n, fun | 17 => 1 | 18 => 2 | 19 => 3 | n => n⟩
theorem Tryd.laysM246 : Go.Proofs.LaysM.n246 Tryd.prog Tryd.laysM246_ren := {
  mixed := by kernel_rfl
  f129 := Tryd.func101.trans (congrArg some (by kernel_rfl))
  f246 := Tryd.func92.trans (congrArg some (by kernel_rfl))
  f283 := Tryd.func96.trans (congrArg some (by kernel_rfl))
  f284 := Tryd.func97.trans (congrArg some (by kernel_rfl))
  f285 := Tryd.func98.trans (congrArg some (by kernel_rfl))
  f286 := Tryd.func99.trans (congrArg some (by kernel_rfl))
  f317 := Tryd.func100.trans (congrArg some (by kernel_rfl))
  f318 := Tryd.func102.trans (congrArg some (by kernel_rfl))
  f319 := Tryd.func103.trans (congrArg some (by kernel_rfl))
  f320 := Tryd.func104.trans (congrArg some (by kernel_rfl))
  f337 := Tryd.func105.trans (congrArg some (by kernel_rfl))
  f338 := Tryd.func106.trans (congrArg some (by kernel_rfl))
  t0 := Tryd.underlying0
  a0 := Tryd.isAgg0
  z0 := Tryd.sizeOf0
  v0 := Tryd.zeroValue0
  t2 := Tryd.underlying2
  a2 := Tryd.isAgg2
  z2 := Tryd.sizeOf2
  v2 := Tryd.zeroValue2
  t3 := Tryd.underlying3
  a3 := Tryd.isAgg3
  z3 := Tryd.sizeOf3
  v3 := Tryd.zeroValue3
  t4 := Tryd.underlying4
  a4 := Tryd.isAgg4
  z4 := Tryd.sizeOf4
  v4 := Tryd.zeroValue4
  t5 := Tryd.underlying5
  a5 := Tryd.isAgg5
  z5 := Tryd.sizeOf5
  v5 := Tryd.zeroValue5
  t9 := Tryd.underlying9
  a9 := Tryd.isAgg9
  z9 := Tryd.sizeOf9
  v9 := Tryd.zeroValue9
  t20 := Tryd.underlying20
  a20 := Tryd.isAgg20
  z20 := Tryd.sizeOf20
  v20 := Tryd.zeroValue20
  t37 := Tryd.underlying29
  a37 := Tryd.isAgg29
  z37 := Tryd.sizeOf29
  v37 := Tryd.zeroValue29
  t46 := Tryd.underlying134
  a46 := Tryd.isAgg134
  z46 := Tryd.sizeOf134
  v46 := Tryd.zeroValue134
  t51 := Tryd.underlying132
  a51 := Tryd.isAgg132
  z51 := Tryd.sizeOf132
  v51 := Tryd.zeroValue132
  t53 := Tryd.underlying125
  a53 := Tryd.isAgg125
  z53 := Tryd.sizeOf125
  v53 := Tryd.zeroValue125
  t171 := Tryd.underlying124
  a171 := Tryd.isAgg124
  z171 := Tryd.sizeOf124
  v171 := Tryd.zeroValue124
  t173 := Tryd.underlying128
  a173 := Tryd.isAgg128
  z173 := Tryd.sizeOf128
  v173 := Tryd.zeroValue128
  t212 := Tryd.underlying131
  a212 := Tryd.isAgg131
  z212 := Tryd.sizeOf131
  v212 := Tryd.zeroValue131
  t213 := Tryd.underlying133
  a213 := Tryd.isAgg133
  z213 := Tryd.sizeOf133
  t232 := Tryd.underlying137
  a232 := Tryd.isAgg137
  z232 := Tryd.sizeOf137
  v232 := Tryd.zeroValue137
  t233 := Tryd.underlying138
  a233 := Tryd.isAgg138
  z233 := Tryd.sizeOf138
  v233 := Tryd.zeroValue138
  g17 := by kernel_rfl
  g18 := by kernel_rfl
  g19 := by kernel_rfl
  i0 := by kernel_rfl
  i2 := by kernel_rfl
  i3 := by kernel_rfl
  i4 := by kernel_rfl
  i5 := by kernel_rfl
  i9 := by kernel_rfl
  i20 := by kernel_rfl
  i37 := by kernel_rfl
  i46 := by kernel_rfl
  i51 := by kernel_rfl
  i53 := by kernel_rfl
  i171 := by kernel_rfl
  i173 := by kernel_rfl
  i212 := by kernel_rfl
  i232 := by kernel_rfl
  i233 := by kernel_rfl
  m17 := by kernel_rfl
  m18 := by kernel_rfl
  m19 := by kernel_rfl }
open Go.RowKit Go.Sort Go.Lib in
theorem Tryd.internal_strconv_FormatInt_10 (n : Int) (h0 : -9223372036854775808 ≤ n) (h1 : n ≤ 9223372036854775807) (w : World) (htab : Lib.TabIs Tryd.prog w "internal/strconv.uint64pow10" .u64 Lib.pow10Tab) :
    Calls Tryd.prog 92 #[.int .i64 n, .int .i64 10] w fun e w' => e = .returned (.string ⟨(Lib.itoa n).toArray⟩) ∧ ∃ k os, w' = grow (w.drewN k) os := Any.internal_strconv_FormatInt_10 Tryd.laysM246 n h0 h1 w htab
def Tryd.lays246_ren : Go.Shelf.Ren := ⟨fun | 246 => 92 | 283 => 96 | 284 => 97 | 285 => 98 | 286 => 99 | 129 => 101 | 317 => 100 | 318 => 102 | 319 => 103 | 320 => 104 | 337 => 105 | 338 => 106 | n => n, fun | 2 => 2 | 3 => 3 | 9 => 9 | 4 => 4 | 171 => 124 | 0 => 0 | 53 => 125 | 37 => 29 | 5 => 5 | 173 => 128 | 212 => 131 | 51 => 132 | 20 => 20 | 213 => 133 | 46 => 134 | 232 => 137 | 233 => 138 | n => n, fun | 17 => 1 | 18 => 2 | 19 => 3 | n => n⟩
theorem Tryd.lays246 : Go.Proofs.Lays.n246 Tryd.prog Tryd.lays246_ren := {
  mixed := by kernel_rfl
  f129 := Tryd.func101.trans (congrArg some (by kernel_rfl))
  f246 := Tryd.func92.trans (congrArg some (by kernel_rfl))
  f283 := Tryd.func96.trans (congrArg some (by kernel_rfl))
  f284 := Tryd.func97.trans (congrArg some (by kernel_rfl))
  f285 := Tryd.func98.trans (congrArg some (by kernel_rfl))
  f286 := Tryd.func99.trans (congrArg some (by kernel_rfl))
  f317 := Tryd.func100.trans (congrArg some (by kernel_rfl))
  f318 := Tryd.func102.trans (congrArg some (by kernel_rfl))
  f319 := Tryd.func103.trans (congrArg some (by kernel_rfl))
  f320 := Tryd.func104.trans (congrArg some (by kernel_rfl))
  f337 := Tryd.func105.trans (congrArg some (by kernel_rfl))
  f338 := Tryd.func106.trans (congrArg some (by kernel_rfl))
  t0 := Tryd.underlying0
  a0 := Tryd.isAgg0
  z0 := Tryd.sizeOf0
  v0 := Tryd.zeroValue0
  t2 := Tryd.underlying2
  a2 := Tryd.isAgg2
  z2 := Tryd.sizeOf2
  v2 := Tryd.zeroValue2
  t3 := Tryd.underlying3
  a3 := Tryd.isAgg3
  z3 := Tryd.sizeOf3
  v3 := Tryd.zeroValue3
  t4 := Tryd.underlying4
  a4 := Tryd.isAgg4
  z4 := Tryd.sizeOf4
  v4 := Tryd.zeroValue4
  t5 := Tryd.underlying5
  a5 := Tryd.isAgg5
  z5 := Tryd.sizeOf5
  v5 := Tryd.zeroValue5
  t9 := Tryd.underlying9
  a9 := Tryd.isAgg9
  z9 := Tryd.sizeOf9
  v9 := Tryd.zeroValue9
  t20 := Tryd.underlying20
  a20 := Tryd.isAgg20
  z20 := Tryd.sizeOf20
  v20 := Tryd.zeroValue20
  t37 := Tryd.underlying29
  a37 := Tryd.isAgg29
  z37 := Tryd.sizeOf29
  v37 := Tryd.zeroValue29
  t46 := Tryd.underlying134
  a46 := Tryd.isAgg134
  z46 := Tryd.sizeOf134
  v46 := Tryd.zeroValue134
  t51 := Tryd.underlying132
  a51 := Tryd.isAgg132
  z51 := Tryd.sizeOf132
  v51 := Tryd.zeroValue132
  t53 := Tryd.underlying125
  a53 := Tryd.isAgg125
  z53 := Tryd.sizeOf125
  v53 := Tryd.zeroValue125
  t171 := Tryd.underlying124
  a171 := Tryd.isAgg124
  z171 := Tryd.sizeOf124
  v171 := Tryd.zeroValue124
  t173 := Tryd.underlying128
  a173 := Tryd.isAgg128
  z173 := Tryd.sizeOf128
  v173 := Tryd.zeroValue128
  t212 := Tryd.underlying131
  a212 := Tryd.isAgg131
  z212 := Tryd.sizeOf131
  v212 := Tryd.zeroValue131
  t213 := Tryd.underlying133
  a213 := Tryd.isAgg133
  z213 := Tryd.sizeOf133
  t232 := Tryd.underlying137
  a232 := Tryd.isAgg137
  z232 := Tryd.sizeOf137
  v232 := Tryd.zeroValue137
  t233 := Tryd.underlying138
  a233 := Tryd.isAgg138
  z233 := Tryd.sizeOf138
  v233 := Tryd.zeroValue138
  g17 := by kernel_rfl
  g18 := by kernel_rfl
  g19 := by kernel_rfl }
open Go.RowKit Go.Sort Go.Lib in
theorem Tryd.internal_strconv_FormatInt_10_small (i : Nat) (hi : i < 100) (w : World) :
    Calls Tryd.prog 92 #[.int .i64 i, .int .i64 10] w fun e w' => e = .returned (.string ⟨(Lib.decDigits i).toArray⟩) ∧ w' = w := Any.internal_strconv_FormatInt_10_small Tryd.lays246 i hi w
def Tryd.laysM243_ren : Go.Shelf.Ren := ⟨fun | 243 => 81 | 246 => 92 | 283 => 96 | 284 => 97 | 285 => 98 | 286 => 99 | 129 => 101 | 317 => 100 | 318 => 102 | 319 => 103 | 320 => 104 | 337 => 105 | 338 => 106 | n => n, fun | 3 => 3 | 9 => 9 | 2 => 2 | 4 => 4 | 171 => 124 | 0 => 0 | 53 => 125 | 37 => 29 | 5 => 5 | 173 => 128 | 212 => 131 | 51 => 132 | 20 => 20 | 213 => 133 | 46 => 134 | 232 => 137 | 233 => 138 | n => n, fun | 17 => 1 | 18 => 2 | 19 => 3 | n => n⟩
theorem Tryd.laysM243 : Go.Proofs.LaysM.n243 Tryd.prog Tryd.laysM243_ren := {
  mixed := by kernel_rfl
  f129 := Tryd.func101.trans (congrArg some (by kernel_rfl))
  f243 := Tryd.func81.trans (congrArg some (by kernel_rfl))
  f246 := Tryd.func92.trans (congrArg some (by kernel_rfl))
  f283 := Tryd.func96.trans (congrArg some (by kernel_rfl))
  f284 := Tryd.func97.trans (congrArg some (by kernel_rfl))
  f285 := Tryd.func98.trans (congrArg some (by kernel_rfl))
  f286 := Tryd.func99.trans (congrArg some (by kernel_rfl))
  f317 := Tryd.func100.trans (congrArg some (by kernel_rfl))
  f318 := Tryd.func102.trans (congrArg some (by kernel_rfl))
  f319 := Tryd.func103.trans (congrArg some (by kernel_rfl))
  f320 := Tryd.func104.trans (congrArg some (by kernel_rfl))
  f337 := Tryd.func105.trans (congrArg some (by kernel_rfl))
  f338 := Tryd.func106.trans (congrArg some (by kernel_rfl))
  t0 := Tryd.underlying0
  a0 := Tryd.isAgg0
  z0 := Tryd.sizeOf0
  v0 := Tryd.zeroValue0
  t2 := Tryd.underlying2
  a2 := Tryd.isAgg2
  z2 := Tryd.sizeOf2
  v2 := Tryd.zeroValue2
  t3 := Tryd.underlying3
  a3 := Tryd.isAgg3
  z3 := Tryd.sizeOf3
  v3 := Tryd.zeroValue3
  t4 := Tryd.underlying4
  a4 := Tryd.isAgg4
  z4 := Tryd.sizeOf4
  v4 := Tryd.zeroValue4
  t5 := Tryd.underlying5
  a5 := Tryd.isAgg5
  z5 := Tryd.sizeOf5
  v5 := Tryd.zeroValue5
  t9 := Tryd.underlying9
  a9 := Tryd.isAgg9
  z9 := Tryd.sizeOf9
  v9 := Tryd.zeroValue9
  t20 := Tryd.underlying20
  a20 := Tryd.isAgg20
  z20 := Tryd.sizeOf20
  v20 := Tryd.zeroValue20
  t37 := Tryd.underlying29
  a37 := Tryd.isAgg29
  z37 := Tryd.sizeOf29
  v37 := Tryd.zeroValue29
  t46 := Tryd.underlying134
  a46 := Tryd.isAgg134
  z46 := Tryd.sizeOf134
  v46 := Tryd.zeroValue134
  t51 := Tryd.underlying132
  a51 := Tryd.isAgg132
  z51 := Tryd.sizeOf132
  v51 := Tryd.zeroValue132
  t53 := Tryd.underlying125
  a53 := Tryd.isAgg125
  z53 := Tryd.sizeOf125
  v53 := Tryd.zeroValue125
  t171 := Tryd.underlying124
  a171 := Tryd.isAgg124
  z171 := Tryd.sizeOf124
  v171 := Tryd.zeroValue124
  t173 := Tryd.underlying128
  a173 := Tryd.isAgg128
  z173 := Tryd.sizeOf128
  v173 := Tryd.zeroValue128
  t212 := Tryd.underlying131
  a212 := Tryd.isAgg131
  z212 := Tryd.sizeOf131
  v212 := Tryd.zeroValue131
  t213 := Tryd.underlying133
  a213 := Tryd.isAgg133
  z213 := Tryd.sizeOf133
  t232 := Tryd.underlying137
  a232 := Tryd.isAgg137
  z232 := Tryd.sizeOf137
  v232 := Tryd.zeroValue137
  t233 := Tryd.underlying138
  a233 := Tryd.isAgg138
  z233 := Tryd.sizeOf138
  v233 := Tryd.zeroValue138
  g17 := by kernel_rfl
  g18 := by kernel_rfl
  g19 := by kernel_rfl
  i0 := by kernel_rfl
  i2 := by kernel_rfl
  i3 := by kernel_rfl
  i4 := by kernel_rfl
  i5 := by kernel_rfl
  i9 := by kernel_rfl
  i20 := by kernel_rfl
  i37 := by kernel_rfl
  i46 := by kernel_rfl
  i51 := by kernel_rfl
  i53 := by kernel_rfl
  i171 := by kernel_rfl
  i173 := by kernel_rfl
  i212 := by kernel_rfl
  i232 := by kernel_rfl
  i233 := by kernel_rfl
  m17 := by kernel_rfl
  m18 := by kernel_rfl
  m19 := by kernel_rfl }
open Go.RowKit Go.Sort Go.Lib in
theorem Tryd.internal_strconv_Itoa (n : Int) (h0 : -9223372036854775808 ≤ n) (h1 : n ≤ 9223372036854775807) (w : World) (htab : Lib.TabIs Tryd.prog w "internal/strconv.uint64pow10" .u64 Lib.pow10Tab) :
    Calls Tryd.prog 81 #[.int .i64 n] w fun e w' => e = .returned (.string ⟨(Lib.itoa n).toArray⟩) ∧ ∃ k os, w' = grow (w.drewN k) os := Any.internal_strconv_Itoa Tryd.laysM243 n h0 h1 w htab
def Tryd.lays243_ren : Go.Shelf.Ren := ⟨fun | 243 => 81 | 246 => 92 | 283 => 96 | 284 => 97 | 285 => 98 | 286 => 99 | 129 => 101 | 317 => 100 | 318 => 102 | 319 => 103 | 320 => 104 | 337 => 105 | 338 => 106 | n => n, fun | 3 => 3 | 9 => 9 | 2 => 2 | 4 => 4 | 171 => 124 | 0 => 0 | 53 => 125 | 37 => 29 | 5 => 5 | 173 => 128 | 212 => 131 | 51 => 132 | 20 => 20 | 213 => 133 | 46 => 134 | 232 => 137 | 233 => 138 | n => n, fun | 17 => 1 | 18 => 2 | 19 => 3 | n => n⟩
theorem Tryd.lays243 : Go.Proofs.Lays.n243 Tryd.prog Tryd.lays243_ren := {
  mixed := by kernel_rfl
  f129 := Tryd.func101.trans (congrArg some (by kernel_rfl))
  f243 := Tryd.func81.trans (congrArg some (by kernel_rfl))
  f246 := Tryd.func92.trans (congrArg some (by kernel_rfl))
  f283 := Tryd.func96.trans (congrArg some (by kernel_rfl))
  f284 := Tryd.func97.trans (congrArg some (by kernel_rfl))
  f285 := Tryd.func98.trans (congrArg some (by kernel_rfl))
  f286 := Tryd.func99.trans (congrArg some (by kernel_rfl))
  f317 := Tryd.func100.trans (congrArg some (by kernel_rfl))
  f318 := Tryd.func102.trans (congrArg some (by kernel_rfl))
  f319 := Tryd.func103.trans (congrArg some (by kernel_rfl))
  f320 := Tryd.func104.trans (congrArg some (by kernel_rfl))
  f337 := Tryd.func105.trans (congrArg some (by kernel_rfl))
  f338 := Tryd.func106.trans (congrArg some (by kernel_rfl))
  t0 := Tryd.underlying0
  a0 := Tryd.isAgg0
  z0 := Tryd.sizeOf0
  v0 := Tryd.zeroValue0
  t2 := Tryd.underlying2
  a2 := Tryd.isAgg2
  z2 := Tryd.sizeOf2
  v2 := Tryd.zeroValue2
  t3 := Tryd.underlying3
  a3 := Tryd.isAgg3
  z3 := Tryd.sizeOf3
  v3 := Tryd.zeroValue3
  t4 := Tryd.underlying4
  a4 := Tryd.isAgg4
  z4 := Tryd.sizeOf4
  v4 := Tryd.zeroValue4
  t5 := Tryd.underlying5
  a5 := Tryd.isAgg5
  z5 := Tryd.sizeOf5
  v5 := Tryd.zeroValue5
  t9 := Tryd.underlying9
  a9 := Tryd.isAgg9
  z9 := Tryd.sizeOf9
  v9 := Tryd.zeroValue9
  t20 := Tryd.underlying20
  a20 := Tryd.isAgg20
  z20 := Tryd.sizeOf20
  v20 := Tryd.zeroValue20
  t37 := Tryd.underlying29
  a37 := Tryd.isAgg29
  z37 := Tryd.sizeOf29
  v37 := Tryd.zeroValue29
  t46 := Tryd.underlying134
  a46 := Tryd.isAgg134
  z46 := Tryd.sizeOf134
  v46 := Tryd.zeroValue134
  t51 := Tryd.underlying132
  a51 := Tryd.isAgg132
  z51 := Tryd.sizeOf132
  v51 := Tryd.zeroValue132
  t53 := Tryd.underlying125
  a53 := Tryd.isAgg125
  z53 := Tryd.sizeOf125
  v53 := Tryd.zeroValue125
  t171 := Tryd.underlying124
  a171 := Tryd.isAgg124
  z171 := Tryd.sizeOf124
  v171 := Tryd.zeroValue124
  t173 := Tryd.underlying128
  a173 := Tryd.isAgg128
  z173 := Tryd.sizeOf128
  v173 := Tryd.zeroValue128
  t212 := Tryd.underlying131
  a212 := Tryd.isAgg131
  z212 := Tryd.sizeOf131
  v212 := Tryd.zeroValue131
  t213 := Tryd.underlying133
  a213 := Tryd.isAgg133
  z213 := Tryd.sizeOf133
  t232 := Tryd.underlying137
  a232 := Tryd.isAgg137
  z232 := Tryd.sizeOf137
  v232 := Tryd.zeroValue137
  t233 := Tryd.underlying138
  a233 := Tryd.isAgg138
  z233 := Tryd.sizeOf138
  v233 := Tryd.zeroValue138
  g17 := by kernel_rfl
  g18 := by kernel_rfl
  g19 := by kernel_rfl }
open Go.RowKit Go.Sort Go.Lib in
theorem Tryd.internal_strconv_Itoa_small (i : Nat) (hi : i < 100) (w : World) :
    Calls Tryd.prog 81 #[.int .i64 i] w fun e w' => e = .returned (.string ⟨(Lib.decDigits i).toArray⟩) ∧ w' = w := Any.internal_strconv_Itoa_small Tryd.lays243 i hi w
def Tryd.laysM171_ren : Go.Shelf.Ren := ⟨fun | 171 => 51 | 243 => 81 | 246 => 92 | 283 => 96 | 284 => 97 | 285 => 98 | 286 => 99 | 129 => 101 | 317 => 100 | 318 => 102 | 319 => 103 | 320 => 104 | 337 => 105 | 338 => 106 | n => n, fun | 3 => 3 | 9 => 9 | 2 => 2 | 4 => 4 | 171 => 124 | 0 => 0 | 53 => 125 | 37 => 29 | 5 => 5 | 173 => 128 | 212 => 131 | 51 => 132 | 20 => 20 | 213 => 133 | 46 => 134 | 232 => 137 | 233 => 138 | n => n, fun | 17 => 1 | 18 => 2 | 19 => 3 | n => n⟩
theorem Tryd.laysM171 : Go.Proofs.LaysM.n171 Tryd.prog Tryd.laysM171_ren := {
  mixed := by kernel_rfl
  f129 := Tryd.func101.trans (congrArg some (by kernel_rfl))
  f171 := Tryd.func51.trans (congrArg some (by kernel_rfl))
  f243 := Tryd.func81.trans (congrArg some (by kernel_rfl))
  f246 := Tryd.func92.trans (congrArg some (by kernel_rfl))
  f283 := Tryd.func96.trans (congrArg some (by kernel_rfl))
  f284 := Tryd.func97.trans (congrArg some (by kernel_rfl))
  f285 := Tryd.func98.trans (congrArg some (by kernel_rfl))
  f286 := Tryd.func99.trans (congrArg some (by kernel_rfl))
  f317 := Tryd.func100.trans (congrArg some (by kernel_rfl))
  f318 := Tryd.func102.trans (congrArg some (by kernel_rfl))
  f319 := Tryd.func103.trans (congrArg some (by kernel_rfl))
  f320 := Tryd.func104.trans (congrArg some (by kernel_rfl))
  f337 := Tryd.func105.trans (congrArg some (by kernel_rfl))
  f338 := Tryd.func106.trans (congrArg some (by kernel_rfl))
  t0 := Tryd.underlying0
  a0 := Tryd.isAgg0
  z0 := Tryd.sizeOf0
  v0 := Tryd.zeroValue0
  t2 := Tryd.underlying2
  a2 := Tryd.isAgg2
  z2 := Tryd.sizeOf2
  v2 := Tryd.zeroValue2
  t3 := Tryd.underlying3
  a3 := Tryd.isAgg3
  z3 := Tryd.sizeOf3
  v3 := Tryd.zeroValue3
  t4 := Tryd.underlying4
  a4 := Tryd.isAgg4
  z4 := Tryd.sizeOf4
  v4 := Tryd.zeroValue4
  t5 := Tryd.underlying5
  a5 := Tryd.isAgg5
  z5 := Tryd.sizeOf5
  v5 := Tryd.zeroValue5
  t9 := Tryd.underlying9
  a9 := Tryd.isAgg9
  z9 := Tryd.sizeOf9
  v9 := Tryd.zeroValue9
  t20 := Tryd.underlying20
  a20 := Tryd.isAgg20
  z20 := Tryd.sizeOf20
  v20 := Tryd.zeroValue20
  t37 := Tryd.underlying29
  a37 := Tryd.isAgg29
  z37 := Tryd.sizeOf29
  v37 := Tryd.zeroValue29
  t46 := Tryd.underlying134
  a46 := Tryd.isAgg134
  z46 := Tryd.sizeOf134
  v46 := Tryd.zeroValue134
  t51 := Tryd.underlying132
  a51 := Tryd.isAgg132
  z51 := Tryd.sizeOf132
  v51 := Tryd.zeroValue132
  t53 := Tryd.underlying125
  a53 := Tryd.isAgg125
  z53 := Tryd.sizeOf125
  v53 := Tryd.zeroValue125
  t171 := Tryd.underlying124
  a171 := Tryd.isAgg124
  z171 := Tryd.sizeOf124
  v171 := Tryd.zeroValue124
  t173 := Tryd.underlying128
  a173 := Tryd.isAgg128
  z173 := Tryd.sizeOf128
  v173 := Tryd.zeroValue128
  t212 := Tryd.underlying131
  a212 := Tryd.isAgg131
  z212 := Tryd.sizeOf131
  v212 := Tryd.zeroValue131
  t213 := Tryd.underlying133
  a213 := Tryd.isAgg133
  z213 := Tryd.sizeOf133
  t232 := Tryd.underlying137
  a232 := Tryd.isAgg137
  z232 := Tryd.sizeOf137
  v232 := Tryd.zeroValue137
  t233 := Tryd.underlying138
  a233 := Tryd.isAgg138
  z233 := Tryd.sizeOf138
  v233 := Tryd.zeroValue138
  g17 := by kernel_rfl
  g18 := by kernel_rfl
  g19 := by kernel_rfl
  i0 := by kernel_rfl
  i2 := by kernel_rfl
  i3 := by kernel_rfl
  i4 := by kernel_rfl
  i5 := by kernel_rfl
  i9 := by kernel_rfl
  i20 := by kernel_rfl
  i37 := by kernel_rfl
  i46 := by kernel_rfl
  i51 := by kernel_rfl
  i53 := by kernel_rfl
  i171 := by kernel_rfl
  i173 := by kernel_rfl
  i212 := by kernel_rfl
  i232 := by kernel_rfl
  i233 := by kernel_rfl
  m17 := by kernel_rfl
  m18 := by kernel_rfl
  m19 := by kernel_rfl }
open Go.RowKit Go.Sort Go.Lib in
theorem Tryd.strconv_Itoa (n : Int) (h0 : -9223372036854775808 ≤ n) (h1 : n ≤ 9223372036854775807) (w : World) (htab : Lib.TabIs Tryd.prog w "internal/strconv.uint64pow10" .u64 Lib.pow10Tab) :
    Calls Tryd.prog 51 #[.int .i64 n] w fun e w' => e = .returned (.string ⟨(Lib.itoa n).toArray⟩) ∧ ∃ k os, w' = grow (w.drewN k) os := Any.strconv_Itoa Tryd.laysM171 n h0 h1 w htab
def Tryd.lays171_ren : Go.Shelf.Ren := ⟨fun | 171 => 51 | 243 => 81 | 246 => 92 | 283 => 96 | 284 => 97 | 285 => 98 | 286 => 99 | 129 => 101 | 317 => 100 | 318 => 102 | 319 => 103 | 320 => 104 | 337 => 105 | 338 => 106 | n => n, fun | 3 => 3 | 9 => 9 | 2 => 2 | 4 => 4 | 171 => 124 | 0 => 0 | 53 => 125 | 37 => 29 | 5 => 5 | 173 => 128 | 212 => 131 | 51 => 132 | 20 => 20 | 213 => 133 | 46 => 134 | 232 => 137 | 233 => 138 | n => n, fun | 17 => 1 | 18 => 2 | 19 => 3 | n => n⟩
theorem Tryd.lays171 : Go.Proofs.Lays.n171 Tryd.prog Tryd.lays171_ren := {
  mixed := by kernel_rfl
  f129 := Tryd.func101.trans (congrArg some (by kernel_rfl))
  f171 := Tryd.func51.trans (congrArg some (by kernel_rfl))
  f243 := Tryd.func81.trans (congrArg some (by kernel_rfl))
  f246 := Tryd.func92.trans (congrArg some (by kernel_rfl))
  f283 := Tryd.func96.trans (congrArg some (by kernel_rfl))
  f284 := Tryd.func97.trans (congrArg some (by kernel_rfl))
  f285 := Tryd.func98.trans (congrArg some (by kernel_rfl))
  f286 := Tryd.func99.trans (congrArg some (by kernel_rfl))
  f317 := Tryd.func100.trans (congrArg some (by kernel_rfl))
  f318 := Tryd.func102.trans (congrArg some (by kernel_rfl))
  f319 := Tryd.func103.trans (congrArg some (by kernel_rfl))
  f320 := Tryd.func104.trans (congrArg some (by kernel_rfl))
  f337 := Tryd.func105.trans (congrArg some (by kernel_rfl))
  f338 := Tryd.func106.trans (congrArg some (by kernel_rfl))
  t0 := Tryd.underlying0
  a0 := Tryd.isAgg0
  z0 := Tryd.sizeOf0
  v0 := Tryd.zeroValue0
  t2 := Tryd.underlying2
  a2 := Tryd.isAgg2
  z2 := Tryd.sizeOf2
  v2 := Tryd.zeroValue2
  t3 := Tryd.underlying3
  a3 := Tryd.isAgg3
  z3 := Tryd.sizeOf3
  v3 := Tryd.zeroValue3
  t4 := Tryd.underlying4
  a4 := Tryd.isAgg4
  z4 := Tryd.sizeOf4
  v4 := Tryd.zeroValue4
  t5 := Tryd.underlying5
  a5 := Tryd.isAgg5
  z5 := Tryd.sizeOf5
  v5 := Tryd.zeroValue5
  t9 := Tryd.underlying9
  a9 := Tryd.isAgg9
  z9 := Tryd.sizeOf9
  v9 := Tryd.zeroValue9
  t20 := Tryd.underlying20
  a20 := Tryd.isAgg20
  z20 := Tryd.sizeOf20
  v20 := Tryd.zeroValue20
  t37 := Tryd.underlying29
  a37 := Tryd.isAgg29
  z37 := Tryd.sizeOf29
  v37 := Tryd.zeroValue29
  t46 := Tryd.underlying134
  a46 := Tryd.isAgg134
  z46 := Tryd.sizeOf134
  v46 := Tryd.zeroValue134
  t51 := Tryd.underlying132
  a51 := Tryd.isAgg132
  z51 := Tryd.sizeOf132
  v51 := Tryd.zeroValue132
  t53 := Tryd.underlying125
  a53 := Tryd.isAgg125
  z53 := Tryd.sizeOf125
  v53 := Tryd.zeroValue125
  t171 := Tryd.underlying124
  a171 := Tryd.isAgg124
  z171 := Tryd.sizeOf124
  v171 := Tryd.zeroValue124
  t173 := Tryd.underlying128
  a173 := Tryd.isAgg128
  z173 := Tryd.sizeOf128
  v173 := Tryd.zeroValue128
  t212 := Tryd.underlying131
  a212 := Tryd.isAgg131
  z212 := Tryd.sizeOf131
  v212 := Tryd.zeroValue131
  t213 := Tryd.underlying133
  a213 := Tryd.isAgg133
  z213 := Tryd.sizeOf133
  t232 := Tryd.underlying137
  a232 := Tryd.isAgg137
  z232 := Tryd.sizeOf137
  v232 := Tryd.zeroValue137
  t233 := Tryd.underlying138
  a233 := Tryd.isAgg138
  z233 := Tryd.sizeOf138
  v233 := Tryd.zeroValue138
  g17 := by kernel_rfl
  g18 := by kernel_rfl
  g19 := by kernel_rfl }
open Go.RowKit Go.Sort Go.Lib in
theorem Tryd.strconv_Itoa_small (i : Nat) (hi : i < 100) (w : World) :
    Calls Tryd.prog 51 #[.int .i64 i] w fun e w' => e = .returned (.string ⟨(Lib.decDigits i).toArray⟩) ∧ w' = w := Any.strconv_Itoa_small Tryd.lays171 i hi w
end Go.Proofs
namespace Go.Proofs.YtlaaehjcooonfaaDoor
set_option linter.unusedVariables false
set_option linter.unusedSimpArgs false
set_option linter.unusedSectionVars false
set_option maxHeartbeats 8000000
set_option maxRecDepth 100000
open Go.RowKit
variable {O : Ob} {w0 : World}
section
open Go.RowKit Go.Shelf Go.Sort Go.Lib
theorem strs_arr {w : World} {S : Sp} : ∀ {xs : List Str} {cs : List Value}, Arr Kd.str w S xs cs → cs = xs.map vs ∧ ∀ x ∈ xs, Lim x
 | [], _, h => ⟨h, fun x hx => by cases hx⟩
 | x :: xs, _, ⟨c1, c2, e, h1, h2⟩ => by
  obtain ⟨e2, h3⟩ := strs_arr h2
  refine ⟨by rw [e, h1.1, e2]; rfl, fun y hy => ?_⟩
  rcases List.mem_cons.1 hy with rfl | hy
  ·exact h1.2
  ·exact h3 y hy
theorem Ow.holds {e : TypeId} {w : World} {O : Ob} {g n c : Nat} {xs : List Str} (h : Ow Kd.str e w O (.slice (some ⟨g, 0, none⟩) n c) xs) : Holds encStr w g 0 xs.toArray := by
 obtain ⟨cells, o1, o2, o3⟩ := h
 obtain ⟨e2, _⟩ := strs_arr o2
 intro j hj
 simp only [List.size_toArray] at hj
 rcases o1.2 with ⟨_, e'⟩ | ⟨g', cap, cur, ev, h0, hg, hle, hmx, hcur, htake⟩
 ·omega
 ·cases ev
  have hc := World.ownsRow.cells o1 (g := g) rfl j (vs xs[j]) (by rw [e2]; simp [hj])
  have ha : (⟨g, 0, none⟩ : Addr).add j = ⟨g, 0 + j, none⟩ := by unfold Addr.add; split <;> simp_all
  rw [ha] at hc
  refine ⟨by rw [hc]; simp [hj], ?_⟩
  simp [World.frozen?, hg]
end
def shapeNamesL : List Str := [[], [100, 111, 116], [108, 105, 110, 101], [114, 105, 110, 103]]
structure Glob (w : World) (O : Ob) : Prop where
 shapeNames : ∃ A : Option Addr, Fb w O 0 [.slice A 4 4] ∧ Sl Kd.str w (Fr O) (.slice A 4 4) shapeNamesL
 pow10 : Fb w O 1 (Lib.pow10Tab.map (Value.int .u64))
theorem Glob.st {w w' : World} {O O' : Ob} (h : Glob w O) (s : St w O w' O') : Glob w' O' :=
 ⟨let ⟨A, a, b⟩ := h.shapeNames; ⟨A, a.st s, b.st s⟩, h.pow10.st s⟩
theorem Glob.tab {w : World} {O : Ob} (h : Glob w O) : Lib.TabIs Tryd.prog w "internal/strconv.uint64pow10" .u64 Lib.pow10Tab := by
 obtain ⟨⟨e, hb⟩, _⟩ := h.pow10
 unfold Lib.TabIs World.var?
 rw [show Tryd.prog.globalNamed "internal/strconv.uint64pow10" = some 1 by kernel_rfl]
 simp only [Option.bind_some, hb]
theorem decDigits_len (u : Nat) : ∀ k, u < 10 ^ (k + 1) → (Lib.decDigits u).length ≤ k + 1 := by
 intro k
 induction k generalizing u with
 | zero => intro h; rw [Lib.decDigits, dif_pos OM]; simp
 | succ k ih =>
  intro h
  rw [Lib.decDigits]
  split
  ·simp
  ·rw [List.length_append]
   have := ih (u / 10) (by rw [Nat.pow_succ] at h; omega)
   simp only [List.length_cons, List.length_nil]
   omega
theorem itoa_len (n : Int) (h0 : -9223372036854775808 ≤ n) (h1 : n ≤ 9223372036854775807) : (Lib.itoa n).length ≤ 21 := by
 unfold Lib.itoa
 split
 ·have := decDigits_len n.natAbs 19 OM
  simp only [List.length_cons]; omega
 ·have := decDigits_len n.toNat 19 OM
  omega
section
open Go.Shelf Go.Sort Go.Lib
def F31.E (n : Int) (Q : Str → Prop) : Prop := (-9223372036854775808 ≤ n ∧ n ≤ 9223372036854775807) ∧ Q (Lib.itoa n)
theorem F31.calls {O : Ob} (w0 : World) (hO : Ok w0 O) (hG : Glob w0 O) (n : Int) (Q : Str → Prop) (h : F31.E n Q) :
  Ret Tryd.prog 51 [vi n] w0 (fun v w' => ∃ (r0 : Str), v = vs r0 ∧ Q r0 ∧ Gr w0 w' none ∧ Lim r0) := by
 obtain ⟨⟨h0, h1⟩, hq⟩ := h
 refine Calls.mono (Tryd.strconv_Itoa n h0 h1 w0 hG.tab) fun e w' ⟨he, k, os, hw⟩ => ?_
 subst he; subst hw
 refine ⟨_, rfl, Lib.itoa n, rfl, hq, ⟨rfl, by simp [grow], rfl, by simp [grow], fun b hb _ => by show (w0.heap ++ os)[b]? = w0.heap[b]?; exact Array.getElem?_append_left hb⟩, ?_⟩
 have := itoa_len n h0 h1
 unfold Lim; omega
end
def F5.E (s : Shape) (Q : Str → Prop) : Prop :=
 ((0 : Int) ≤ s.Kind ∧ s.Kind < (shapeNamesL.length : Int)) ∧ (∃ (I39 : Str → Int → Prop) (mu40 : Str → Int → Nat), I39 (nth shapeNamesL s.Kind) 0 ∧ ∀ (out2 : Str) (v2 : Int), I39 out2 v2 → (if decide (v2 < (s.Pts.length : Int)) then ((0 : Int) ≤ v2 ∧ v2 < (s.Pts.length : Int)) ∧ (∃ q : Str, F31.E ((nth s.Pts v2).X) (fun x => x = q) ∧ (Lim q) ∧ (([32] : Str).length + q.length ≤ 9223372036854775807) ∧ ((([32] : Str) ++ q).length + ([44] : Str).length ≤ 9223372036854775807) ∧ (∃ q2 : Str, F31.E ((nth s.Pts v2).Y) (fun x => x = q2) ∧ (Lim q2) ∧ (((([32] : Str) ++ q) ++ ([44] : Str)).length + q2.length ≤ 9223372036854775807) ∧ (out2.length + (((([32] : Str) ++ q) ++ ([44] : Str)) ++ q2).length ≤ 9223372036854775807) ∧ (I64 (v2 + 1)) ∧ I39 (out2 ++ (((([32] : Str) ++ q) ++ ([44] : Str)) ++ q2)) (v2 + 1) ∧ mu40 (out2 ++ (((([32] : Str) ++ q) ++ ([44] : Str)) ++ q2)) (v2 + 1) < mu40 out2 v2)) else Q out2))
theorem F5.calls {s : Shape} {A1 : Option Addr} {n2 c3 : Nat} {Q : Str → Prop} (H : F5.E s Q) (hO : Ok w0 O) (hG : Glob w0 O) (hp4 : Sl kPt w0 (Fr O) (G A1 n2 c3) s.Pts) :
  Ret Tryd.prog 31 [.agg #[vi s.Kind, G A1 n2 c3]] w0 (fun v w' => ∃ (r0 : Str), v = vs r0 ∧ Q r0 ∧ Gr w0 w' none ∧ Lim r0) := by
 unfold F5.E at H;have hc0 := Ct.init hO;obtain ⟨aG0, hGb0, hGs0⟩ := hG.shapeNames;refine X3 Tryd.func31 Z 31 Z [.tmp 2] Z Z ?_;refine Xb (Xd (Ya [vi s.Kind, G A1 n2 c3] Z fun w6 b7 hl9 hu10 g8 ax => ?_));have ai := Fb.mk hc0.ok hl9 ax;have ab := hc0.k0 g8;refine Xf (vs []) Z (Xc (Xb (Xd ?_)));have ay := (hGb0.st ab.st);refine Xa (Xn ag76 cL (Ad 0 0) (G aG0 4 4) Z (ay.cell Z)) (Xa (Xj fa34_0 (Ad b7 0) (Ad b7 0) Z Z) (Xa (Xn ag3 cL (Ad b7 0) (vi s.Kind) Z (ai.cell Z)) ?_));obtain ⟨aj, H⟩ := H;obtain ⟨ak, br, az, bs, a0, a1⟩ := (hGs0.st ab.st).get default RD s.Kind aj;obtain ⟨rfl, a2⟩ := Kd.str.op a0;refine Xa (X4 Tryd.underlying76 Zl aG0 ak 4 4 (hGs0.st ab.st).len s.Kind Z az Z aj) (Xa (Xn ag9 cL (ak.add (s.Kind.toNat * 1)) (vs (nth shapeNamesL s.Kind)) Z (a1 0 _ Z)) (Xf (vs (nth shapeNamesL s.Kind)) Z (Xc (Xb (Xb (Xd (Xa (Xj fa34_1 (Ad b7 0) (Ad b7 1) Z Z) (Xa (Xn ag32 cL (Ad b7 1) (G A1 n2 c3) Z (ai.cell Z)) ?_))))))));have bt := (hp4.st ab.st).le;refine Xa (X6 u32_ A1 n2 c3 (hp4.st ab.st).len Z) (Xg (vi 0) Z (Xc (X5 ?_)));obtain ⟨a3, a4, ad, H⟩ := H;refine Ye (α := Str × Int) (fun (out2, v2) t ae => a3 out2 v2 ∧ Has t [(3, vs out2), (12, G A1 n2 c3), (13, vi (s.Pts.length : Int)), (14, vi v2)] ∧ Ct [] w0 ae [] O ∧ Lim out2 ∧ Sl kPt ae (Fr ([] ++ O)) (G A1 n2 c3) s.Pts) (fun (out2, v2) => a4 out2 v2) ((nth shapeNamesL s.Kind), 0) ⟨ad, (X2 Z), ab, a2, (hp4.st ab.st)⟩ ?_;rintro ⟨out2, v2⟩ _ ae ⟨ad, a5, af, a6, ag⟩;obtain ⟨bu, rfl⟩ := Has.ins a5;have H := H out2 v2 ad;refine Xb (Xd (Xa (Xx v2 (s.Pts.length : Int) (decide (v2 < (s.Pts.length : Int))) Z Z Z) (Xc (Xb ?_))));refine Xu (decide (v2 < (s.Pts.length : Int))) Z (fun ah => ?_) (fun ah => ?_)
 ·have H := Xo H ah;refine Xt (Xb (X5 (Xb (Xd ?_))));obtain ⟨al, H⟩ := H;obtain ⟨am, bv, a7, bw, a8, a9⟩ := ag.get default RD v2 al;obtain rfl := kPt.op a8;refine Xa (X4 u32_ Yl A1 am n2 c3 ag.len v2 Z a7 Z al) (Xa (Xv ag87 sz87 cL (am.add (v2.toNat * 2)) [vi ((nth s.Pts v2).X), vi ((nth s.Pts v2).Y)] Z Z a9) (Yn [.int .i64 0, .int .i64 0] ze87 fun bx aa an hu57 ao ba => ?_));have ap := af.own ao (some aa) (Yp an hu57);refine Yu [vi ((nth s.Pts v2).X), vi ((nth s.Pts v2).Y)] ba Z Z sz87 Z Z fun bb aq ar => ?_;have ac := ap.wr 0 Z aq;refine Xc (Yh (fun x => Gr bb x none) RK RK (Gr.drew _) ?_);refine Xs (vs out2) Z (Xi (Xj fa87_0 (Ad aa 0) (Ad aa 0) Z Z) (Xi (Xn ag3 cQ (Ad aa 0) (vi ((nth s.Pts v2).X)) Z (ar.cell Z)) ?_));obtain ⟨q, bc, bz, H⟩ := H;refine Yf go51 [vi ((nth s.Pts v2).X)] Z (vs q) (fun w g => (F31.calls w (ac.k0 g).ok (hG.st (ac.k0 g).st) ((nth s.Pts v2).X) _ bc).mono ?_) ?_
  ·rintro _ w ⟨r, rfl, rfl, g2, _⟩;exact ⟨Z, Gr.t0 g g2⟩
  obtain ⟨bd, H⟩ := H;refine Xi (Yb ([32] : Str) q Z Z bd) ?_;obtain ⟨be, H⟩ := H;refine Xi (Yb (([32] : Str) ++ q) ([44] : Str) Z Z be) (Xi (Xj fa87_1 (Ad aa 0) (Ad aa 1) Z Z) (Xi (Xn ag3 cQ (Ad aa 1) (vi ((nth s.Pts v2).Y)) Z (ar.cell Z)) ?_));obtain ⟨q2, bf, b0, H⟩ := H;refine Yf go51 [vi ((nth s.Pts v2).Y)] Z (vs q2) (fun w g => (F31.calls w (ac.k0 g).ok (hG.st (ac.k0 g).st) ((nth s.Pts v2).Y) _ bf).mono ?_) ?_
  ·rintro _ w ⟨r, rfl, rfl, g2, _⟩;exact ⟨Z, Gr.t0 g g2⟩
  obtain ⟨bg, H⟩ := H;refine Xi (Yb ((([32] : Str) ++ q) ++ ([44] : Str)) q2 Z Z bg) ?_;obtain ⟨au, H⟩ := H;refine Xi (Yb out2 (((([32] : Str) ++ q) ++ ([44] : Str)) ++ q2) Z Z au) (Yv (vs (out2 ++ (((([32] : Str) ++ q) ++ ([44] : Str)) ++ q2))) Z (X9 fun b1 av => ?_));have aw := ac.k0 av;refine Xd ?_;obtain ⟨bh, H⟩ := H;refine Xa (Yc v2 1 Z Z bh) (Xg (vi (v2 + 1)) Z (Xc ?_));have bi := aw.drop 0 Z;obtain ⟨bj, bl⟩ := H;have bm := af.stown _ ao (Ym an);have bn := ap.stw 0 Z aq;have bo := ac.stn av;have bp := aw.std 0 Z;have bq := ((((ag.st bm).st bn).st bo).st bp);exact ⟨((out2 ++ (((([32] : Str) ++ q) ++ ([44] : Str)) ++ q2)), v2 + 1), bl, bj, (X2 Z), bi, (lim_cat au), bq⟩
 have H := Xp H ah;refine Yd (xin_hit ?_);exact Xb (Xd (Xg (vs out2) Z (Xf (vs out2) Z (Xc (Xl ⟨[vs out2], ⟨_, Z, Z⟩, out2, Z, H, af.gr.g0, a6⟩)))))
def F23.E (f : Feat) (Q : Str → Prop) : Prop :=
 F53.E f (fun r => (if !r then Q [] else (f.Id.length + ([32] : Str).length ≤ 9223372036854775807) ∧ (∃ q : Str, F5.E f.Shape (fun x => x = q) ∧ (Lim q) ∧ ((f.Id ++ ([32] : Str)).length + q.length ≤ 9223372036854775807) ∧ (∃ (I61 : Str → Int → Prop) (mu62 : Str → Int → Nat), I61 ((f.Id ++ ([32] : Str)) ++ q) 0 ∧ ∀ (out2 : Str) (v2 : Int), I61 out2 v2 → (if decide (v2 < (f.Tags.length : Int)) then ((0 : Int) ≤ v2 ∧ v2 < (f.Tags.length : Int)) ∧ (([32] : Str).length + ((nth f.Tags v2).Key).length ≤ 9223372036854775807) ∧ ((([32] : Str) ++ ((nth f.Tags v2).Key)).length + ([61] : Str).length ≤ 9223372036854775807) ∧ (((([32] : Str) ++ ((nth f.Tags v2).Key)) ++ ([61] : Str)).length + ((nth f.Tags v2).Val).length ≤ 9223372036854775807) ∧ (out2.length + (((([32] : Str) ++ ((nth f.Tags v2).Key)) ++ ([61] : Str)) ++ ((nth f.Tags v2).Val)).length ≤ 9223372036854775807) ∧ (I64 (v2 + 1)) ∧ I61 (out2 ++ (((([32] : Str) ++ ((nth f.Tags v2).Key)) ++ ([61] : Str)) ++ ((nth f.Tags v2).Val))) (v2 + 1) ∧ mu62 (out2 ++ (((([32] : Str) ++ ((nth f.Tags v2).Key)) ++ ([61] : Str)) ++ ((nth f.Tags v2).Val))) (v2 + 1) < mu62 out2 v2 else Q out2)))))
theorem F23.calls {f : Feat} {A2 : Option Addr} {n3 c4 : Nat} {A7 : Option Addr} {n8 c9 : Nat} {Q : Str → Prop} (H : F23.E f Q) (hO : Ok w0 O) (hG : Glob w0 O) (hs1 : Lim f.Id) (hp5 : Sl kPt w0 (Fr O) (G A2 n3 c4) f.Shape.Pts) (ae : Sl kTag w0 (Fr O) (G A7 n8 c9) f.Tags) :
  Ret Tryd.prog 19 [.agg #[vs f.Id, vi f.Shape.Kind, G A2 n3 c4, G A7 n8 c9]] w0 (fun v w' => ∃ (r0 : Str), v = vs r0 ∧ Q r0 ∧ Gr w0 w' none ∧ Lim r0) := by
 unfold F23.E at H;have hc0 := Ct.init hO;refine X3 Tryd.func19 Z 34 Z [.tmp 2] Z Z ?_;refine Xb (Xd (Ya [vs f.Id, vi f.Shape.Kind, G A2 n3 c4, G A7 n8 c9] Z fun a2 aa a3 hu16 a4 a5 => ?_));have an := Fb.mk hc0.ok a3 a5;have ad := hc0.k0 a4;refine Xf (vs []) Z (Xc (Xb (Xb (Xd (Xa (Xv ag37 sz37 cL (Ad aa 0) [vs f.Id, vi f.Shape.Kind, G A2 n3 c4, G A7 n8 c9] Z Z (an.cells (off := 00) Z)) ?_)))));refine X0 go30 (F53.calls H ad.ok hs1 (hp5.st ad.st) (ae.st ad.st)) Z ?_;rintro _ a6 ⟨r, rfl, H, ao⟩;have ac := ad.k0 ao;refine Xa (X1 r Z) (Xc ?_);refine Xu (!r) Z (fun ag => ?_) (fun ag => ?_)
 ·have H := Xo H ag;exact Xb (Xd (Xf (vs []) Z (Xc (Xl ⟨[vs []], ⟨_, Z, Z⟩, ([] : Str), Z, H, ac.gr.g0, (by decide : Lim ([] : Str))⟩))))
 have H := Xp H ag;refine Xt (Xb (Yh (fun x => Gr a6 x none) RK RK (Gr.drew _) ?_));refine Xi (Xj fa37_0 (Ad aa 0) (Ad aa 0) Z Z) ?_;have a7 := ad.stn ao;have ah := (an.st a7);refine Xi (Xn ag9 cQ (Ad aa 0) (vs f.Id) Z (ah.cell Z)) ?_;obtain ⟨a8, H⟩ := H;refine Xi (Yb f.Id ([32] : Str) Z Z a8) (Xi (Xj fa37_1 (Ad aa 0) (Ad aa 1) Z Z) (Xi (Xv ag34 sz34 cQ (Ad aa 1) [vi f.Shape.Kind, G A2 n3 c4] Z Z (ah.cells (off := 1) Z)) ?_));obtain ⟨q, a9, bw, H⟩ := H;refine Yf go31 [.agg #[vi f.Shape.Kind, G A2 n3 c4]] Z (vs q) (fun w g => (F5.calls a9 (ac.k0 g).ok (hG.st (ac.k0 g).st) ((hp5.st ac.st).st (.new _ g))).mono ?_) ?_
 ·rintro _ w ⟨r, rfl, rfl, g2, _⟩;exact ⟨Z, Gr.t0 g g2⟩
 obtain ⟨ap, H⟩ := H;refine Xi (Yb (f.Id ++ ([32] : Str)) q Z Z ap) (Yv (vs ((f.Id ++ ([32] : Str)) ++ q)) Z (X9 fun bx aq => ?_));have af := ac.k0 aq;refine Xb (Xb (Xd (Xa (Xj fa37_2 (Ad aa 0) (Ad aa 3) Z Z) ?_)));have ba := ac.stn aq;have bb := (ah.st ba);refine Xa (Xn ag35 cL (Ad aa 3) (G A7 n8 c9) Z (bb.cell Z)) ?_;have bz := (ae.st af.st).le;refine Xa (X6 u35_ A7 n8 c9 (ae.st af.st).len Z) (Xg (vi 0) Z (Xc (X5 ?_)));obtain ⟨bc, bd, ai, H⟩ := H;refine Ye (α := Str × Int) (fun (out2, v2) t aj => bc out2 v2 ∧ Has t [(3, vs out2), (17, G A7 n8 c9), (18, vi (f.Tags.length : Int)), (19, vi v2)] ∧ Ct [] w0 aj [] O ∧ Lim out2 ∧ Sl kTag aj (Fr ([] ++ O)) (G A7 n8 c9) f.Tags) (fun (out2, v2) => bd out2 v2) (((f.Id ++ ([32] : Str)) ++ q), 0) ⟨ai, (X2 Z), af, (lim_cat ap), (ae.st af.st)⟩ ?_;rintro ⟨out2, v2⟩ _ aj ⟨ai, be, ak, bf, al⟩;obtain ⟨b0, rfl⟩ := Has.ins be;have H := H out2 v2 ai;refine Xb (Xd (Xa (Xx v2 (f.Tags.length : Int) (decide (v2 < (f.Tags.length : Int))) Z Z Z) (Xc (Xb ?_))));refine Xu (decide (v2 < (f.Tags.length : Int))) Z (fun am => ?_) (fun am => ?_)
 ·have H := Xo H am;refine Xt (Xb (X5 (Xb (Xd ?_))));obtain ⟨ar, H⟩ := H;obtain ⟨au, b1, bg, b2, bh, bi⟩ := al.get default RD v2 ar;obtain ⟨rfl, b3, b4⟩ := kTag.op bh;refine Xa (X4 u35_ Yq A7 au n8 c9 al.len v2 Z bg Z ar) (Xa (Xv ag67 sz67 cL (au.add (v2.toNat * 2)) [vs ((nth f.Tags v2).Key), vs ((nth f.Tags v2).Val)] Z Z bi) (Yn [vs [], vs []] ze67 fun b5 ab av hu81 aw bj => ?_));have ax := ak.own aw (some ab) (Yp av hu81);refine Yu [vs ((nth f.Tags v2).Key), vs ((nth f.Tags v2).Val)] bj Z Z sz67 Z Z fun b6 ay az => ?_;have a0 := ax.wr 0 Z ay;refine Xc (Xd (Xg (vs out2) Z (Xa (Xj fa67_0 (Ad ab 0) (Ad ab 0) Z Z) (Xa (Xn ag9 cL (Ad ab 0) (vs ((nth f.Tags v2).Key)) Z (az.cell Z)) ?_))));obtain ⟨bl, H⟩ := H;refine Xa (Yb ([32] : Str) ((nth f.Tags v2).Key) Z Z bl) ?_;obtain ⟨bm, H⟩ := H;refine Xa (Yb (([32] : Str) ++ ((nth f.Tags v2).Key)) ([61] : Str) Z Z bm) (Xa (Xj fa67_1 (Ad ab 0) (Ad ab 1) Z Z) (Xa (Xn ag9 cL (Ad ab 1) (vs ((nth f.Tags v2).Val)) Z (az.cell Z)) ?_));obtain ⟨bn, H⟩ := H;refine Xa (Yb ((([32] : Str) ++ ((nth f.Tags v2).Key)) ++ ([61] : Str)) ((nth f.Tags v2).Val) Z Z bn) ?_;obtain ⟨a1, H⟩ := H;refine Xa (Yb out2 (((([32] : Str) ++ ((nth f.Tags v2).Key)) ++ ([61] : Str)) ++ ((nth f.Tags v2).Val)) Z Z a1) (Xf (vs (out2 ++ (((([32] : Str) ++ ((nth f.Tags v2).Key)) ++ ([61] : Str)) ++ ((nth f.Tags v2).Val)))) Z (Xc (Xd ?_)));obtain ⟨bo, H⟩ := H;refine Xa (Yc v2 1 Z Z bo) (Xg (vi (v2 + 1)) Z (Xc ?_));have bp := a0.drop 0 Z;obtain ⟨bq, br⟩ := H;have bs := ak.stown _ aw (Ym av);have bt := ax.stw 0 Z ay;have bu := a0.std 0 Z;have bv := (((al.st bs).st bt).st bu);exact ⟨((out2 ++ (((([32] : Str) ++ ((nth f.Tags v2).Key)) ++ ([61] : Str)) ++ ((nth f.Tags v2).Val))), v2 + 1), br, bq, (X2 Z), bp, (lim_cat a1), bv⟩
 have H := Xp H am;refine Yd (xin_hit ?_);exact Xb (Xd (Xg (vs out2) Z (Xf (vs out2) Z (Xc (Xl ⟨[vs out2], ⟨_, Z, Z⟩, out2, Z, H, ak.gr.g0, bf⟩)))))
def F6.E (has : Bool) (f : Feat) (Q : Str → Prop) : Prop :=
 (if !has then Q ([45] : Str) else F23.E f (fun r => Q r))
theorem F6.calls {has : Bool} {f : Feat} {A2 : Option Addr} {n3 c4 : Nat} {A7 : Option Addr} {n8 c9 : Nat} {Q : Str → Prop} (H : F6.E has f Q) (hO : Ok w0 O) (hG : Glob w0 O) (hs1 : Lim f.Id) (hp5 : Sl kPt w0 (Fr O) (G A2 n3 c4) f.Shape.Pts) (ac : Sl kTag w0 (Fr O) (G A7 n8 c9) f.Tags) :
  Ret Tryd.prog 18 [vb has, .agg #[vs f.Id, vi f.Shape.Kind, G A2 n3 c4, G A7 n8 c9]] w0 (fun v w' => ∃ (r0 : Str), v = vs r0 ∧ Q r0 ∧ Gr w0 w' none ∧ Lim r0) := by
 unfold F6.E at H;have hc0 := Ct.init hO;refine X3 Tryd.func18 Z 9 Z [.tmp 4] Z Z ?_;refine Xb (Xd (Ya [vs f.Id, vi f.Shape.Kind, G A2 n3 c4, G A7 n8 c9] Z fun ad ae af hu16 ag ah => ?_));have ai := Fb.mk hc0.ok af ah;have aa := hc0.k0 ag;refine Xf (vs []) Z (Xc (Xb (Xb (Xd (Xg (vb has) Z (Xa (X1 has Z) (Xc ?_)))))));refine Xu (!has) Z (fun ab => ?_) (fun ab => ?_)
 ·have H := Xo H ab;exact Xb (Xd (Xf (vs ([45] : Str)) Z (Xc (Xl ⟨[vs ([45] : Str)], ⟨_, Z, Z⟩, ([45] : Str), Z, H, aa.gr.g0, (by decide : Lim ([45] : Str))⟩))))
 have H := Xp H ab;refine Xt (Xb (Xd (Xa (Xv ag37 sz37 cL (Ad ae 0) [vs f.Id, vi f.Shape.Kind, G A2 n3 c4, G A7 n8 c9] Z Z (ai.cells (off := 00) Z)) ?_)));refine X0 go19 (F23.calls H aa.ok (hG.st aa.st) hs1 (hp5.st aa.st) (ac.st aa.st)) Z ?_;rintro _ am ⟨r, rfl, H, aj, ak⟩;have al := aa.k0 aj;exact Xf (vs r) Z (Xc (Xl ⟨[vs r], ⟨_, Z, Z⟩, r, Z, H, al.gr.g0, ak⟩))
def F24.E (d : List Change) (Q : Str → Prop) : Prop :=
 F55.E d (fun r => (if !r then Q [] else (∃ (I28 : Str → Int → Prop) (mu29 : Str → Int → Nat), I28 [] 0 ∧ ∀ (out2 : Str) (v2 : Int), I28 out2 v2 → (if decide (v2 < (d.length : Int)) then ((0 : Int) ≤ v2 ∧ v2 < (d.length : Int)) ∧ (((nth d v2).Id).length + ([58, 32] : Str).length ≤ 9223372036854775807) ∧ F6.E ((nth d v2).Had) ((nth d v2).Was) (fun r2 => ((((nth d v2).Id) ++ ([58, 32] : Str)).length + r2.length ≤ 9223372036854775807) ∧ (((((nth d v2).Id) ++ ([58, 32] : Str)) ++ r2).length + ([32, 62, 32] : Str).length ≤ 9223372036854775807) ∧ F6.E ((nth d v2).Has) ((nth d v2).Now) (fun r3 => ((((((nth d v2).Id) ++ ([58, 32] : Str)) ++ r2) ++ ([32, 62, 32] : Str)).length + r3.length ≤ 9223372036854775807) ∧ (((((((nth d v2).Id) ++ ([58, 32] : Str)) ++ r2) ++ ([32, 62, 32] : Str)) ++ r3).length + ([10] : Str).length ≤ 9223372036854775807) ∧ (out2.length + (((((((nth d v2).Id) ++ ([58, 32] : Str)) ++ r2) ++ ([32, 62, 32] : Str)) ++ r3) ++ ([10] : Str)).length ≤ 9223372036854775807) ∧ (I64 (v2 + 1)) ∧ I28 (out2 ++ (((((((nth d v2).Id) ++ ([58, 32] : Str)) ++ r2) ++ ([32, 62, 32] : Str)) ++ r3) ++ ([10] : Str))) (v2 + 1) ∧ mu29 (out2 ++ (((((((nth d v2).Id) ++ ([58, 32] : Str)) ++ r2) ++ ([32, 62, 32] : Str)) ++ r3) ++ ([10] : Str))) (v2 + 1) < mu29 out2 v2)) else Q out2))))
theorem F24.calls {d : List Change} {A1 : Option Addr} {n2 c3 : Nat} {Q : Str → Prop} (H : F24.E d Q) (hO : Ok w0 O) (hG : Glob w0 O) (hp4 : Sl kChange w0 (Fr O) (G A1 n2 c3) d) :
  Ret Tryd.prog 9 [G A1 n2 c3] w0 (fun v w' => ∃ (r0 : Str), v = vs r0 ∧ Q r0 ∧ Gr w0 w' none ∧ Lim r0) := by
 unfold F24.E at H;have hc0 := Ct.init hO;refine X3 Tryd.func9 Z 39 Z [.tmp 2] Z Z ?_;refine Xb (Xd (Xf (vs []) Z (Xc (Xb (Xb (Xd (Xg (G A1 n2 c3) Z ?_)))))));refine X0 go14 (F55.calls H hc0.ok hp4) Z ?_;rintro _ w6 ⟨r, rfl, H, g7⟩;have ao := hc0.k0 g7;refine Xa (X1 r Z) (Xc ?_);refine Xu (!r) Z (fun az => ?_) (fun az => ?_)
 ·have H := Xo H az;exact Xb (Xd (Xf (vs []) Z (Xc (Xl ⟨[vs []], ⟨_, Z, Z⟩, ([] : Str), Z, H, ao.gr.g0, (by decide : Lim ([] : Str))⟩))))
 have H := Xp H az;refine Xt (Xb (Xd (Xf (.func (.func 18) #[] #[]) Z (Xc (Xb (Xd (Xf (vs []) Z (Xc ?_))))))));refine Xb (Xb (Xd (Xg (G A1 n2 c3) Z ?_)));have ch := (hp4.st ao.st).le;refine Xa (X6 u25_ A1 n2 c3 (hp4.st ao.st).len Z) (Xg (vi 0) Z (Xc (X5 ?_)));obtain ⟨bi, bj, a0, H⟩ := H;refine Ye (α := Str × Int) (fun (out2, v2) t a1 => bi out2 v2 ∧ Has t [(3, .func (.func 18) #[] #[]), (4, vs out2), (10, G A1 n2 c3), (11, vi (d.length : Int)), (12, vi v2)] ∧ Ct [] w0 a1 [] O ∧ Lim out2 ∧ Sl kChange a1 (Fr ([] ++ O)) (G A1 n2 c3) d) (fun (out2, v2) => bj out2 v2) (([] : Str), 0) ⟨a0, (X2 Z), ao, (by decide : Lim ([] : Str)), (hp4.st ao.st)⟩ ?_;rintro ⟨out2, v2⟩ _ a1 ⟨a0, bl, a2, bm, a3⟩;obtain ⟨ci, rfl⟩ := Has.ins bl;have H := H out2 v2 a0;refine Xb (Xd (Xa (Xx v2 (d.length : Int) (decide (v2 < (d.length : Int))) Z Z Z) (Xc (Xb ?_))));refine Xu (decide (v2 < (d.length : Int))) Z (fun a4 => ?_) (fun a4 => ?_)
 ·have H := Xo H a4;refine Xt (Xb (X5 (Xb (Xd ?_))));obtain ⟨a9, H⟩ := H;obtain ⟨ba, cj, bn, ck, bo, bp⟩ := a3.get default RD v2 a9;obtain ⟨ac, ad, ae, af, ag, ah, ai, aj, ak, al, am, an, rfl, cl, bq, br, bs, bt, bu, bv⟩ := kChange.op bo;refine Xa (X4 u25_ Ys A1 ba n2 c3 a3.len v2 Z bn Z a9) (Xa (Xv ag39 sz39 cL (ba.add (v2.toNat * 11)) [vs ((nth d v2).Id), vb ((nth d v2).Had), vs ((nth d v2).Was.Id), vi ((nth d v2).Was.Shape.Kind), G ac ad ae, G af ag ah, vb ((nth d v2).Has), vs ((nth d v2).Now.Id), vi ((nth d v2).Now.Shape.Kind), G ai aj ak, G al am an] Z Z bp) (Yn [vs [], vb false, vs [], .int .i64 0, G none 0 0, G none 0 0, vb false, vs [], .int .i64 0, G none 0 0, G none 0 0] ze39 fun cm aa bb hu69 bc bw => ?_));have bd := a2.own bc (some aa) (Yp bb hu69);refine Yu [vs ((nth d v2).Id), vb ((nth d v2).Had), vs ((nth d v2).Was.Id), vi ((nth d v2).Was.Shape.Kind), G ac ad ae, G af ag ah, vb ((nth d v2).Has), vs ((nth d v2).Now.Id), vi ((nth d v2).Now.Shape.Kind), G ai aj ak, G al am an] bw Z Z sz39 Z Z fun cn be bx => ?_;have bf := bd.wr 0 Z be;refine Xc (Zv 22 [] RK Z fun bz a5 ab => ?_);have aw := bf.k0 a5;refine Yk 0 Z RK ab (Y1 (vs out2) Z) ?_;refine Yk 1 Z RK ab (Xj fa39_0 (Ad aa 0) (Ad aa 0) Z Z) ?_;have ap := (bx.k0 a5);refine Yk 2 Z RK ab (Y8 ag9 cR (Ad aa 0) (vs ((nth d v2).Id)) Z (ap.cell Z) nm_nil) ?_;obtain ⟨b0, H⟩ := H;refine Yk 3 Z RK ab (Yb ((nth d v2).Id) ([58, 32] : Str) Z Z b0) ?_;refine Yk 4 Z RK ab (Y1 (.func (.func 18) #[] #[]) Z) ?_;refine Yk 5 Z RK ab (Xj fa39_1 (Ad aa 0) (Ad aa 1) Z Z) ?_;refine Yk 6 Z RK ab (Y8 ag4 cR (Ad aa 1) (vb ((nth d v2).Had)) Z (ap.cell Z) nm_nil) ?_;refine Yk 7 Z RK ab (Xj fa39_2 (Ad aa 0) (Ad aa 2) Z Z) ?_;refine Yk 8 Z RK ab (Zf ag37 sz37 cR (Ad aa 2) [vs ((nth d v2).Was.Id), vi ((nth d v2).Was.Shape.Kind), G ac ad ae, G af ag ah] Z Z (ap.cells (off := 2) Z) nm_nil) ?_;refine Yk 12 Z RK ab (Y1 (.func (.func 18) #[] #[]) Z) ?_;refine Yk 13 Z RK ab (Xj fa39_3 (Ad aa 0) (Ad aa 6) Z Z) ?_;refine Yk 14 Z RK ab (Y8 ag4 cR (Ad aa 6) (vb ((nth d v2).Has)) Z (ap.cell Z) nm_nil) ?_;refine Yk 15 Z RK ab (Xj fa39_4 (Ad aa 0) (Ad aa 7) Z Z) ?_;refine Yk 16 Z RK ab (Zf ag37 sz37 cR (Ad aa 7) [vs ((nth d v2).Now.Id), vi ((nth d v2).Now.Shape.Kind), G ai aj ak, G al am an] Z Z (ap.cells (off := 7) Z) nm_nil) ?_;refine Ze 9 RK Z ?_;have aq := a2.stown _ bc (Ym bb);have ar := bd.stw 0 Z be;have au := bf.stn a5;have b1 := (((br.st aq).st ar).st au);have b2 := (((bs.st aq).st ar).st au);refine Zc go18 [] Z [vb ((nth d v2).Had), .agg #[vs ((nth d v2).Was.Id), vi ((nth d v2).Was.Shape.Kind), G ac ad ae, G af ag ah]] Z ((F6.calls H aw.ok (hG.st aw.st) bq b1 b2).mono ?_);rintro _ b3 ⟨r2, rfl, H, a6, co⟩;have ax := aw.k0 a6;have ay := Gm.tm ab a6;refine Xc ⟨ay, ?_⟩;obtain ⟨b4, H⟩ := H;refine Yk 10 Z RK ay (Yb (((nth d v2).Id) ++ ([58, 32] : Str)) r2 Z Z b4) ?_;obtain ⟨b5, H⟩ := H;refine Yk 11 Z RK ay (Yb ((((nth d v2).Id) ++ ([58, 32] : Str)) ++ r2) ([32, 62, 32] : Str) Z Z b5) ?_;refine Ze 17 RK Z ?_;have a7 := aw.stn a6;have b6 := ((((bu.st aq).st ar).st au).st a7);have b7 := ((((bv.st aq).st ar).st au).st a7);refine Zc go18 [] Z [vb ((nth d v2).Has), .agg #[vs ((nth d v2).Now.Id), vi ((nth d v2).Now.Shape.Kind), G ai aj ak, G al am an]] Z ((F6.calls H ax.ok (hG.st ax.st) bt b6 b7).mono ?_);rintro _ cp ⟨r3, rfl, H, a8, cq⟩;have bg := ax.k0 a8;have av := Gm.tm ay a8;refine Xc ⟨av, ?_⟩;obtain ⟨b8, H⟩ := H;refine Yk 18 Z RK av (Yb (((((nth d v2).Id) ++ ([58, 32] : Str)) ++ r2) ++ ([32, 62, 32] : Str)) r3 Z Z b8) ?_;obtain ⟨b9, H⟩ := H;refine Yk 19 Z RK av (Yb ((((((nth d v2).Id) ++ ([58, 32] : Str)) ++ r2) ++ ([32, 62, 32] : Str)) ++ r3) ([10] : Str) Z Z b9) ?_;obtain ⟨bh, H⟩ := H;refine Yk 20 Z RK av (Yb out2 (((((((nth d v2).Id) ++ ([58, 32] : Str)) ++ r2) ++ ([32, 62, 32] : Str)) ++ r3) ++ ([10] : Str)) Z Z bh) ?_;refine Yk 21 Z RK av (Y3 (vs (out2 ++ (((((((nth d v2).Id) ++ ([58, 32] : Str)) ++ r2) ++ ([32, 62, 32] : Str)) ++ r3) ++ ([10] : Str)))) Z) ?_;refine Zs RK ?_;refine Xd ?_;obtain ⟨ca, H⟩ := H;refine Xa (Yc v2 1 Z Z ca) (Xg (vi (v2 + 1)) Z (Xc ?_));have cb := bg.drop 0 Z;obtain ⟨cc, cd⟩ := H;have ce := ax.stn a8;have cf := bg.std 0 Z;have cg := ((((((a3.st aq).st ar).st au).st a7).st ce).st cf);exact ⟨((out2 ++ (((((((nth d v2).Id) ++ ([58, 32] : Str)) ++ r2) ++ ([32, 62, 32] : Str)) ++ r3) ++ ([10] : Str))), v2 + 1), cd, cc, (X2 Z), cb, (lim_cat bh), cg⟩
 have H := Xp H a4;refine Yd (xin_hit ?_);exact Xb (Xd (Xg (vs out2) Z (Xf (vs out2) Z (Xc (Xl ⟨[vs out2], ⟨_, Z, Z⟩, out2, Z, H, a2.gr.g0, bm⟩)))))
def F86.E (a b : Pt) (Q : Bool → Prop) : Prop :=
 (if a.X != b.X then Q false else (if a.Y != b.Y then Q false else Q true))
theorem F86.calls {a : Pt} {b : Pt} {Q : Bool → Prop} (H : F86.E a b Q) (hO : Ok w0 O) :
  Ret Tryd.prog 93 [.agg #[vi a.X, vi a.Y], .agg #[vi b.X, vi b.Y]] w0 (fun v w' => ∃ (r0 : Bool), v = vb r0 ∧ Q r0 ∧ Gr w0 w' none) := by
 unfold F86.E at H;have hc0 := Ct.init hO;refine X3 Tryd.func93 Z 15 Z [.tmp 4] Z Z ?_;refine Xb (Xd (Ya [vi a.X, vi a.Y] Z fun w1 b2 hl4 hu5 g3 hx6 => ?_));have h8 := Fb.mk hc0.ok hl4 hx6;have hc9 := hc0.k0 g3;refine Ya [vi b.X, vi b.Y] Z fun ak aa ah hu14 ae ai => ?_;have af := Fb.mk hc9.ok ah ai;have ab := hc9.k0 ae;refine Xf (vb false) Z (Xc (Xb (Xb (Xd (Xa (Xj fa87_0 (Ad b2 0) (Ad b2 0) Z Z) ?_)))));have aj := hc9.stn ae;have ag := (h8.st aj);refine Xa (Xn ag3 cL (Ad b2 0) (vi a.X) Z (ag.cell Z)) (Xa (Xj fa87_0 (Ad aa 0) (Ad aa 0) Z Z) (Xa (Xn ag3 cL (Ad aa 0) (vi b.X) Z (af.cell Z)) (Xa (Xx a.X b.X (a.X != b.X) Z Z Z) (Xc ?_))));refine Xu (a.X != b.X) Z (fun ac => ?_) (fun ac => ?_)
 ·have H := Xo H ac;exact Xb (Xd (Xf (vb false) Z (Xc (Xl ⟨[vb false], ⟨_, Z, Z⟩, false, Z, H, ab.gr.g0⟩))))
 have H := Xp H ac;refine Xt (Xb (Xb (Xd (Xa (Xj fa87_1 (Ad b2 0) (Ad b2 1) Z Z) (Xa (Xn ag3 cL (Ad b2 1) (vi a.Y) Z (ag.cell Z)) (Xa (Xj fa87_1 (Ad aa 0) (Ad aa 1) Z Z) (Xa (Xn ag3 cL (Ad aa 1) (vi b.Y) Z (af.cell Z)) (Xa (Xx a.Y b.Y (a.Y != b.Y) Z Z Z) ?_))))))));refine Xc ?_;refine Xu (a.Y != b.Y) Z (fun ad => ?_) (fun ad => ?_)
 ·have H := Xo H ad;exact Xb (Xd (Xf (vb false) Z (Xc (Xl ⟨[vb false], ⟨_, Z, Z⟩, false, Z, H, ab.gr.g0⟩))))
 have H := Xp H ad;exact Xt (Xb (Xd (Xf (vb true) Z (Xc (Xl ⟨[vb true], ⟨_, Z, Z⟩, true, Z, H, ab.gr.g0⟩)))))
theorem F86.law (a b : Pt) (Q : Bool → Prop) (hq : Q (decide (a = b))) : F86.E a b Q := by
 obtain ⟨x0, x1⟩ := a; obtain ⟨y0, y1⟩ := b
 rw [show (decide ((⟨x0, x1⟩ : Pt) = ⟨y0, y1⟩)) = ((decide (x0 = y0)) && (decide (x1 = y1))) by simp only [Pt.mk.injEq, Bool.decide_and]] at hq
 unfold F86.E
 by_cases h0 : x0 = y0
 case neg => simpa [h0] using hq
 simp only [h0, decide_true, Bool.true_and, bne_self_eq_false, Bool.not_true, Bool.false_eq_true, if_false] at hq ⊢
 by_cases h1 : x1 = y1
 case neg => simpa [h1] using hq
 simp only [h1, decide_true, Bool.true_and, bne_self_eq_false, Bool.not_true, Bool.false_eq_true, if_false] at hq ⊢
 all_goals (try exact hq)
theorem F86.is (a b : Pt) : F86.E a b (fun r => r = decide (a = b)) := F86.law a b _ rfl
def F75.E (a b : List Pt) (Q : Bool → Prop) : Prop :=
 (if (a.length : Int) != (b.length : Int) then Q false else (∃ (I32 : Int → Prop) (mu33 : Int → Nat), I32 0 ∧ ∀ (i2 : Int), I32 i2 → (if decide (i2 < (a.length : Int)) then ((0 : Int) ≤ i2 ∧ i2 < (a.length : Int)) ∧ ((0 : Int) ≤ i2 ∧ i2 < (b.length : Int)) ∧ (if !(decide ((nth a i2) = (nth b i2))) then Q false else (-9223372036854775808 ≤ i2) ∧ I32 (i2 + 1) ∧ mu33 (i2 + 1) < mu33 i2) else Q true)))
theorem F75.calls {a : List Pt} {A1 : Option Addr} {n2 c3 : Nat} {b : List Pt} {A6 : Option Addr} {n7 c8 : Nat} {Q : Bool → Prop} (H : F75.E a b Q) (hO : Ok w0 O) (hp4 : Sl kPt w0 (Fr O) (G A1 n2 c3) a) (hp9 : Sl kPt w0 (Fr O) (G A6 n7 c8) b) :
  Ret Tryd.prog 82 [G A1 n2 c3, G A6 n7 c8] w0 (fun v w' => ∃ (r0 : Bool), v = vb r0 ∧ Q r0 ∧ Gr w0 w' none) := by
 unfold F75.E at H;have hc0 := Ct.init hO;refine X3 Tryd.func82 Z 27 Z [.tmp 4] Z Z ?_;refine Xb (Xd (Xf (vb false) Z (Xc (Xb (Xb (Xd (Xg (G A1 n2 c3) Z ?_)))))));have a5 := hp4.le;refine Xa (X6 u32_ A1 n2 c3 hp4.len Z) (Xg (G A6 n7 c8) Z ?_);have a6 := hp9.le;refine Xa (X6 u32_ A6 n7 c8 hp9.len Z) (Xa (Xx (a.length : Int) (b.length : Int) ((a.length : Int) != (b.length : Int)) Z Z Z) (Xc ?_));refine Xu ((a.length : Int) != (b.length : Int)) Z (fun ae => ?_) (fun ae => ?_)
 ·have H := Xo H ae;exact Xb (Xd (Xf (vb false) Z (Xc (Xl ⟨[vb false], ⟨_, Z, Z⟩, false, Z, H, hc0.gr.g0⟩))))
 have H := Xp H ae;refine Xt (Xb (Xb (Xd (Xf (vi 0) Z (Xc (X5 ?_))))));obtain ⟨ap, aq, af, H⟩ := H;refine Ye (α := Int) (fun (sv__ : Int) t aa => match sv__ with | i2 => ap i2 ∧ Has t [(0, G A1 n2 c3), (1, G A6 n7 c8), (5, vi i2)] ∧ Cw [] w0 aa [] O fun M => Sl kPt aa (Fr M) (G A1 n2 c3) a ∧ Sl kPt aa (Fr M) (G A6 n7 c8) b) (fun (sv__ : Int) => match sv__ with | i2 => aq i2) 0 ⟨af, (X2 Z), hc0, hp4, hp9⟩ ?_;rintro i2 _ aa ⟨af, ar, ac, ab, ag⟩;obtain ⟨a7, rfl⟩ := Has.ins ar;have H := H i2 af;refine Xb (Xb (Xd (Xg (vi i2) Z (Xg (G A1 n2 c3) Z ?_))));have au := ab.le;refine Xa (X6 u32_ A1 n2 c3 ab.len Z) (Xa (Xx i2 (a.length : Int) (decide (i2 < (a.length : Int))) Z Z Z) (Xc ?_));refine Xu (decide (i2 < (a.length : Int))) Z (fun ad => ?_) (fun ad => ?_)
 ·have H := Xo H ad;refine Xt (Xb (X5 (Xb (Yh (fun x => Gr aa x none) RK RK (Gr.drew _) ?_))));refine Xs (G A1 n2 c3) Z (Xs (vi i2) Z ?_);obtain ⟨ai, H⟩ := H;obtain ⟨aj, a8, av, a9, aw, ax⟩ := ab.get default RD i2 ai;obtain rfl := kPt.op aw;refine Xi (X4 u32_ Yl A1 aj n2 c3 ab.len i2 Z av Z ai) (Xi (Xv ag87 sz87 cQ (aj.add (i2.toNat * 2)) [vi ((nth a i2).X), vi ((nth a i2).Y)] Z Z ax) (Xs (G A6 n7 c8) Z (Xs (vi i2) Z ?_)));obtain ⟨ak, H⟩ := H;obtain ⟨al, ba, ay, bb, az, a0⟩ := ag.get default RD i2 ak;obtain rfl := kPt.op az;refine Xi (X4 u32_ Yl A6 al n7 c8 ag.len i2 Z ay Z ak) (Xi (Xv ag87 sz87 cQ (al.add (i2.toNat * 2)) [vi ((nth b i2).X), vi ((nth b i2).Y)] Z Z a0) ?_);refine Yf go93 [.agg #[vi ((nth a i2).X), vi ((nth a i2).Y)], .agg #[vi ((nth b i2).X), vi ((nth b i2).Y)]] Z (vb (decide ((nth a i2) = (nth b i2)))) (fun w g => (F86.calls (F86.is (nth a i2) (nth b i2)) (ac.k0 g).ok).mono ?_) ?_
  ·rintro _ w ⟨r, rfl, rfl, g2⟩;exact ⟨Z, Gr.t0 g g2⟩
  refine Xi (X1 (decide ((nth a i2) = (nth b i2))) Z) (X9 fun bc am => ?_);have an := ac.k0 am;refine Xu (!(decide ((nth a i2) = (nth b i2)))) Z (fun ah => ?_) (fun ah => ?_)
  ·have H := Xo H ah;exact Xb (Xd (Xf (vb false) Z (Xc (Xl ⟨[vb false], ⟨_, Z, Z⟩, false, Z, H, an.gr.g0⟩))))
  have H := Xp H ah;refine Xt (Xd (Xg (vi i2) Z ?_));obtain ⟨a1, H⟩ := H;have a2 : I64 (i2 + 1) := i64_succ (of_decide_eq_true ad) au a1;refine Xa (Yc i2 1 Z Z a2) (Xf (vi (i2 + 1)) Z (Xc ?_));obtain ⟨a3, a4⟩ := H;have ao := ac.stn am;exact ⟨i2 + 1, a4, a3, (X2 Z), an, (ab.st ao), (ag.st ao)⟩
 have H := Xp H ad;refine Yd (xin_hit ?_);exact Xb (Xd (Xf (vb true) Z (Xc (Xl ⟨[vb true], ⟨_, Z, Z⟩, true, Z, H, ac.gr.g0⟩))))
def F32.E (a b : Shape) (Q : Bool → Prop) : Prop :=
 (if a.Kind != b.Kind then Q false else F75.E a.Pts b.Pts (fun r => (if !r then Q false else Q true)))
theorem F32.calls {a : Shape} {A1 : Option Addr} {n2 c3 : Nat} {b : Shape} {A6 : Option Addr} {n7 c8 : Nat} {Q : Bool → Prop} (H : F32.E a b Q) (hO : Ok w0 O) (hp4 : Sl kPt w0 (Fr O) (G A1 n2 c3) a.Pts) (hp9 : Sl kPt w0 (Fr O) (G A6 n7 c8) b.Pts) :
  Ret Tryd.prog 52 [.agg #[vi a.Kind, G A1 n2 c3], .agg #[vi b.Kind, G A6 n7 c8]] w0 (fun v w' => ∃ (r0 : Bool), v = vb r0 ∧ Q r0 ∧ Gr w0 w' none) := by
 unfold F32.E at H;have hc0 := Ct.init hO;refine X3 Tryd.func52 Z 16 Z [.tmp 4] Z Z ?_;refine Xb (Xd (Ya [vi a.Kind, G A1 n2 c3] Z fun av aa ak hu15 al am => ?_));have an := Fb.mk hc0.ok ak am;have ad := hc0.k0 al;refine Ya [vi b.Kind, G A6 n7 c8] Z fun ao ab ap hu24 ag aq => ?_;have ah := Fb.mk ad.ok ap aq;have ac := ad.k0 ag;refine Xf (vb false) Z (Xc (Xb (Xb (Xd (Xa (Xj fa34_0 (Ad aa 0) (Ad aa 0) Z Z) ?_)))));have ar := ad.stn ag;have ai := (an.st ar);refine Xa (Xn ag3 cL (Ad aa 0) (vi a.Kind) Z (ai.cell Z)) (Xa (Xj fa34_0 (Ad ab 0) (Ad ab 0) Z Z) (Xa (Xn ag3 cL (Ad ab 0) (vi b.Kind) Z (ah.cell Z)) (Xa (Xx a.Kind b.Kind (a.Kind != b.Kind) Z Z Z) (Xc ?_))));refine Xu (a.Kind != b.Kind) Z (fun ae => ?_) (fun ae => ?_)
 ·have H := Xo H ae;exact Xb (Xd (Xf (vb false) Z (Xc (Xl ⟨[vb false], ⟨_, Z, Z⟩, false, Z, H, ac.gr.g0⟩))))
 have H := Xp H ae;refine Xt (Xb (Xb (Xd (Xa (Xj fa34_1 (Ad aa 0) (Ad aa 1) Z Z) (Xa (Xn ag32 cL (Ad aa 1) (G A1 n2 c3) Z (ai.cell Z)) (Xa (Xj fa34_1 (Ad ab 0) (Ad ab 1) Z Z) (Xa (Xn ag32 cL (Ad ab 1) (G A6 n7 c8) Z (ah.cell Z)) ?_)))))));refine X0 go82 (F75.calls H ac.ok (hp4.st ac.st) (hp9.st ac.st)) Z ?_;rintro _ aw ⟨r, rfl, H, au⟩;have aj := ac.k0 au;refine Xa (X1 r Z) (Xc ?_);refine Xu (!r) Z (fun af => ?_) (fun af => ?_)
 ·have H := Xo H af;exact Xb (Xd (Xf (vb false) Z (Xc (Xl ⟨[vb false], ⟨_, Z, Z⟩, false, Z, H, aj.gr.g0⟩))))
 have H := Xp H af;exact Xt (Xb (Xd (Xf (vb true) Z (Xc (Xl ⟨[vb true], ⟨_, Z, Z⟩, true, Z, H, aj.gr.g0⟩)))))
def F76.E (a b : Tag) (Q : Bool → Prop) : Prop :=
 (if a.Key != b.Key then Q false else (if a.Val != b.Val then Q false else Q true))
theorem F76.calls {a : Tag} {b : Tag} {Q : Bool → Prop} (H : F76.E a b Q) (hO : Ok w0 O) (hs1 : Lim a.Key) (hs2 : Lim a.Val) (hs3 : Lim b.Key) (hs4 : Lim b.Val) :
  Ret Tryd.prog 83 [.agg #[vs a.Key, vs a.Val], .agg #[vs b.Key, vs b.Val]] w0 (fun v w' => ∃ (r0 : Bool), v = vb r0 ∧ Q r0 ∧ Gr w0 w' none) := by
 unfold F76.E at H;have hc0 := Ct.init hO;refine X3 Tryd.func83 Z 15 Z [.tmp 4] Z Z ?_;refine Xb (Xd (Ya [vs a.Key, vs a.Val] Z fun w5 b6 hl8 hu9 g7 ai => ?_));have aj := Fb.mk hc0.ok hl8 ai;have ab := hc0.k0 g7;refine Ya [vs b.Key, vs b.Val] Z fun an aa ak hu18 af al => ?_;have ag := Fb.mk ab.ok ak al;have ac := ab.k0 af;refine Xf (vb false) Z (Xc (Xb (Xb (Xd (Xa (Xj fa67_0 (Ad b6 0) (Ad b6 0) Z Z) ?_)))));have am := ab.stn af;have ah := (aj.st am);refine Xa (Xn ag9 cL (Ad b6 0) (vs a.Key) Z (ah.cell Z)) (Xa (Xj fa67_0 (Ad aa 0) (Ad aa 0) Z Z) (Xa (Xn ag9 cL (Ad aa 0) (vs b.Key) Z (ag.cell Z)) (Xa (Yg a.Key b.Key (a.Key != b.Key) Z Z Z) (Xc ?_))));refine Xu (a.Key != b.Key) Z (fun ad => ?_) (fun ad => ?_)
 ·have H := Xo H ad;exact Xb (Xd (Xf (vb false) Z (Xc (Xl ⟨[vb false], ⟨_, Z, Z⟩, false, Z, H, ac.gr.g0⟩))))
 have H := Xp H ad;refine Xt (Xb (Xb (Xd (Xa (Xj fa67_1 (Ad b6 0) (Ad b6 1) Z Z) (Xa (Xn ag9 cL (Ad b6 1) (vs a.Val) Z (ah.cell Z)) (Xa (Xj fa67_1 (Ad aa 0) (Ad aa 1) Z Z) (Xa (Xn ag9 cL (Ad aa 1) (vs b.Val) Z (ag.cell Z)) (Xa (Yg a.Val b.Val (a.Val != b.Val) Z Z Z) ?_))))))));refine Xc ?_;refine Xu (a.Val != b.Val) Z (fun ae => ?_) (fun ae => ?_)
 ·have H := Xo H ae;exact Xb (Xd (Xf (vb false) Z (Xc (Xl ⟨[vb false], ⟨_, Z, Z⟩, false, Z, H, ac.gr.g0⟩))))
 have H := Xp H ae;exact Xt (Xb (Xd (Xf (vb true) Z (Xc (Xl ⟨[vb true], ⟨_, Z, Z⟩, true, Z, H, ac.gr.g0⟩)))))
theorem F76.law (a b : Tag) (Q : Bool → Prop) (hq : Q (decide (a = b))) : F76.E a b Q := by
 obtain ⟨x0, x1⟩ := a; obtain ⟨y0, y1⟩ := b
 rw [show (decide ((⟨x0, x1⟩ : Tag) = ⟨y0, y1⟩)) = ((decide (x0 = y0)) && (decide (x1 = y1))) by simp only [Tag.mk.injEq, Bool.decide_and]] at hq
 unfold F76.E
 by_cases h0 : x0 = y0
 case neg => simpa [h0] using hq
 simp only [h0, decide_true, Bool.true_and, bne_self_eq_false, Bool.not_true, Bool.false_eq_true, if_false] at hq ⊢
 by_cases h1 : x1 = y1
 case neg => simpa [h1] using hq
 simp only [h1, decide_true, Bool.true_and, bne_self_eq_false, Bool.not_true, Bool.false_eq_true, if_false] at hq ⊢
 all_goals (try exact hq)
theorem F76.is (a b : Tag) : F76.E a b (fun r => r = decide (a = b)) := F76.law a b _ rfl
def F56.E (a b : List Tag) (Q : Bool → Prop) : Prop :=
 (if (a.length : Int) != (b.length : Int) then Q false else (∃ (I32 : Int → Prop) (mu33 : Int → Nat), I32 0 ∧ ∀ (i2 : Int), I32 i2 → (if decide (i2 < (a.length : Int)) then ((0 : Int) ≤ i2 ∧ i2 < (a.length : Int)) ∧ ((0 : Int) ≤ i2 ∧ i2 < (b.length : Int)) ∧ (if !(decide ((nth a i2) = (nth b i2))) then Q false else (-9223372036854775808 ≤ i2) ∧ I32 (i2 + 1) ∧ mu33 (i2 + 1) < mu33 i2) else Q true)))
theorem F56.calls {a : List Tag} {A1 : Option Addr} {n2 c3 : Nat} {b : List Tag} {A6 : Option Addr} {n7 c8 : Nat} {Q : Bool → Prop} (H : F56.E a b Q) (hO : Ok w0 O) (hp4 : Sl kTag w0 (Fr O) (G A1 n2 c3) a) (hp9 : Sl kTag w0 (Fr O) (G A6 n7 c8) b) :
  Ret Tryd.prog 53 [G A1 n2 c3, G A6 n7 c8] w0 (fun v w' => ∃ (r0 : Bool), v = vb r0 ∧ Q r0 ∧ Gr w0 w' none) := by
 unfold F56.E at H;have hc0 := Ct.init hO;refine X3 Tryd.func53 Z 27 Z [.tmp 4] Z Z ?_;refine Xb (Xd (Xf (vb false) Z (Xc (Xb (Xb (Xd (Xg (G A1 n2 c3) Z ?_)))))));have a9 := hp4.le;refine Xa (X6 u35_ A1 n2 c3 hp4.len Z) (Xg (G A6 n7 c8) Z ?_);have ba := hp9.le;refine Xa (X6 u35_ A6 n7 c8 hp9.len Z) (Xa (Xx (a.length : Int) (b.length : Int) ((a.length : Int) != (b.length : Int)) Z Z Z) (Xc ?_));refine Xu ((a.length : Int) != (b.length : Int)) Z (fun ae => ?_) (fun ae => ?_)
 ·have H := Xo H ae;exact Xb (Xd (Xf (vb false) Z (Xc (Xl ⟨[vb false], ⟨_, Z, Z⟩, false, Z, H, hc0.gr.g0⟩))))
 have H := Xp H ae;refine Xt (Xb (Xb (Xd (Xf (vi 0) Z (Xc (X5 ?_))))));obtain ⟨ap, aq, af, H⟩ := H;refine Ye (α := Int) (fun (sv__ : Int) t aa => match sv__ with | i2 => ap i2 ∧ Has t [(0, G A1 n2 c3), (1, G A6 n7 c8), (5, vi i2)] ∧ Cw [] w0 aa [] O fun M => Sl kTag aa (Fr M) (G A1 n2 c3) a ∧ Sl kTag aa (Fr M) (G A6 n7 c8) b) (fun (sv__ : Int) => match sv__ with | i2 => aq i2) 0 ⟨af, (X2 Z), hc0, hp4, hp9⟩ ?_;rintro i2 _ aa ⟨af, ar, ac, ab, ag⟩;obtain ⟨bb, rfl⟩ := Has.ins ar;have H := H i2 af;refine Xb (Xb (Xd (Xg (vi i2) Z (Xg (G A1 n2 c3) Z ?_))));have au := ab.le;refine Xa (X6 u35_ A1 n2 c3 ab.len Z) (Xa (Xx i2 (a.length : Int) (decide (i2 < (a.length : Int))) Z Z Z) (Xc ?_));refine Xu (decide (i2 < (a.length : Int))) Z (fun ad => ?_) (fun ad => ?_)
 ·have H := Xo H ad;refine Xt (Xb (X5 (Xb (Yh (fun x => Gr aa x none) RK RK (Gr.drew _) ?_))));refine Xs (G A1 n2 c3) Z (Xs (vi i2) Z ?_);obtain ⟨ai, H⟩ := H;obtain ⟨aj, bc, av, bd, aw, ax⟩ := ab.get default RD i2 ai;obtain ⟨rfl, ay, az⟩ := kTag.op aw;refine Xi (X4 u35_ Yq A1 aj n2 c3 ab.len i2 Z av Z ai) (Xi (Xv ag67 sz67 cQ (aj.add (i2.toNat * 2)) [vs ((nth a i2).Key), vs ((nth a i2).Val)] Z Z ax) (Xs (G A6 n7 c8) Z (Xs (vi i2) Z ?_)));obtain ⟨ak, H⟩ := H;obtain ⟨al, be, a0, bf, a1, a2⟩ := ag.get default RD i2 ak;obtain ⟨rfl, a3, a4⟩ := kTag.op a1;refine Xi (X4 u35_ Yq A6 al n7 c8 ag.len i2 Z a0 Z ak) (Xi (Xv ag67 sz67 cQ (al.add (i2.toNat * 2)) [vs ((nth b i2).Key), vs ((nth b i2).Val)] Z Z a2) ?_);refine Yf go83 [.agg #[vs ((nth a i2).Key), vs ((nth a i2).Val)], .agg #[vs ((nth b i2).Key), vs ((nth b i2).Val)]] Z (vb (decide ((nth a i2) = (nth b i2)))) (fun w g => (F76.calls (F76.is (nth a i2) (nth b i2)) (ac.k0 g).ok ay az a3 a4).mono ?_) ?_
  ·rintro _ w ⟨r, rfl, rfl, g2⟩;exact ⟨Z, Gr.t0 g g2⟩
  refine Xi (X1 (decide ((nth a i2) = (nth b i2))) Z) (X9 fun bg am => ?_);have an := ac.k0 am;refine Xu (!(decide ((nth a i2) = (nth b i2)))) Z (fun ah => ?_) (fun ah => ?_)
  ·have H := Xo H ah;exact Xb (Xd (Xf (vb false) Z (Xc (Xl ⟨[vb false], ⟨_, Z, Z⟩, false, Z, H, an.gr.g0⟩))))
  have H := Xp H ah;refine Xt (Xd (Xg (vi i2) Z ?_));obtain ⟨a5, H⟩ := H;have a6 : I64 (i2 + 1) := i64_succ (of_decide_eq_true ad) au a5;refine Xa (Yc i2 1 Z Z a6) (Xf (vi (i2 + 1)) Z (Xc ?_));obtain ⟨a7, a8⟩ := H;have ao := ac.stn am;exact ⟨i2 + 1, a8, a7, (X2 Z), an, (ab.st ao), (ag.st ao)⟩
 have H := Xp H ad;refine Yd (xin_hit ?_);exact Xb (Xd (Xf (vb true) Z (Xc (Xl ⟨[vb true], ⟨_, Z, Z⟩, true, Z, H, ac.gr.g0⟩))))
def F57.E (a b : Feat) (Q : Bool → Prop) : Prop :=
 (if a.Id != b.Id then Q false else F32.E a.Shape b.Shape (fun r => (if !r then Q false else F56.E a.Tags b.Tags (fun r2 => (if !r2 then Q false else Q true)))))
theorem F57.calls {a : Feat} {A2 : Option Addr} {n3 c4 : Nat} {A7 : Option Addr} {n8 c9 : Nat} {b : Feat} {ac : Option Addr} {ad ae : Nat} {af : Option Addr} {ag ah : Nat} {Q : Bool → Prop} (H : F57.E a b Q) (hO : Ok w0 O) (hs1 : Lim a.Id) (hp5 : Sl kPt w0 (Fr O) (G A2 n3 c4) a.Shape.Pts) (aw : Sl kTag w0 (Fr O) (G A7 n8 c9) a.Tags) (bb : Lim b.Id) (ax : Sl kPt w0 (Fr O) (G ac ad ae) b.Shape.Pts) (ay : Sl kTag w0 (Fr O) (G af ag ah) b.Tags) :
  Ret Tryd.prog 32 [.agg #[vs a.Id, vi a.Shape.Kind, G A2 n3 c4, G A7 n8 c9], .agg #[vs b.Id, vi b.Shape.Kind, G ac ad ae, G af ag ah]] w0 (fun v w' => ∃ (r0 : Bool), v = vb r0 ∧ Q r0 ∧ Gr w0 w' none) := by
 unfold F57.E at H;have hc0 := Ct.init hO;refine X3 Tryd.func32 Z 22 Z [.tmp 4] Z Z ?_;refine Xb (Xd (Ya [vs a.Id, vi a.Shape.Kind, G A2 n3 c4, G A7 n8 c9] Z fun bc aa az hu27 a0 a1 => ?_));have a2 := Fb.mk hc0.ok az a1;have ak := hc0.k0 a0;refine Ya [vs b.Id, vi b.Shape.Kind, G ac ad ae, G af ag ah] Z fun a3 ab a4 hu36 aq a5 => ?_;have al := Fb.mk ak.ok a4 a5;have ai := ak.k0 aq;refine Xf (vb false) Z (Xc (Xb (Xb (Xd (Xa (Xj fa37_0 (Ad aa 0) (Ad aa 0) Z Z) ?_)))));have a6 := ak.stn aq;have am := (a2.st a6);refine Xa (Xn ag9 cL (Ad aa 0) (vs a.Id) Z (am.cell Z)) (Xa (Xj fa37_0 (Ad ab 0) (Ad ab 0) Z Z) (Xa (Xn ag9 cL (Ad ab 0) (vs b.Id) Z (al.cell Z)) (Xa (Yg a.Id b.Id (a.Id != b.Id) Z Z Z) (Xc ?_))));refine Xu (a.Id != b.Id) Z (fun an => ?_) (fun an => ?_)
 ·have H := Xo H an;exact Xb (Xd (Xf (vb false) Z (Xc (Xl ⟨[vb false], ⟨_, Z, Z⟩, false, Z, H, ai.gr.g0⟩))))
 have H := Xp H an;refine Xt (Xb (Xb (Xd (Xa (Xj fa37_1 (Ad aa 0) (Ad aa 1) Z Z) (Xa (Xv ag34 sz34 cL (Ad aa 1) [vi a.Shape.Kind, G A2 n3 c4] Z Z (am.cells (off := 1) Z)) (Xa (Xj fa37_1 (Ad ab 0) (Ad ab 1) Z Z) (Xa (Xv ag34 sz34 cL (Ad ab 1) [vi b.Shape.Kind, G ac ad ae] Z Z (al.cells (off := 1) Z)) ?_)))))));refine X0 go52 (F32.calls H ai.ok (hp5.st ai.st) (ax.st ai.st)) Z ?_;rintro _ a7 ⟨r, rfl, H, ar⟩;have aj := ai.k0 ar;refine Xa (X1 r Z) (Xc ?_);refine Xu (!r) Z (fun ao => ?_) (fun ao => ?_)
 ·have H := Xo H ao;exact Xb (Xd (Xf (vb false) Z (Xc (Xl ⟨[vb false], ⟨_, Z, Z⟩, false, Z, H, aj.gr.g0⟩))))
 have H := Xp H ao;refine Xt (Xb (Xb (Xd (Xa (Xj fa37_2 (Ad aa 0) (Ad aa 3) Z Z) ?_))));have au := ai.stn ar;have a8 := (am.st au);refine Xa (Xn ag35 cL (Ad aa 3) (G A7 n8 c9) Z (a8.cell Z)) (Xa (Xj fa37_2 (Ad ab 0) (Ad ab 3) Z Z) ?_);have a9 := (al.st au);refine Xa (Xn ag35 cL (Ad ab 3) (G af ag ah) Z (a9.cell Z)) ?_;refine X0 go53 (F56.calls H aj.ok (aw.st aj.st) (ay.st aj.st)) Z ?_;rintro _ bd ⟨r2, rfl, H, ba⟩;have av := aj.k0 ba;refine Xa (X1 r2 Z) (Xc ?_);refine Xu (!r2) Z (fun ap => ?_) (fun ap => ?_)
 ·have H := Xo H ap;exact Xb (Xd (Xf (vb false) Z (Xc (Xl ⟨[vb false], ⟨_, Z, Z⟩, false, Z, H, av.gr.g0⟩))))
 have H := Xp H ap;exact Xt (Xb (Xd (Xf (vb true) Z (Xc (Xl ⟨[vb true], ⟨_, Z, Z⟩, true, Z, H, av.gr.g0⟩)))))
def F25.E (a b : Change) (Q : Bool → Prop) : Prop :=
 (if a.Id != b.Id then Q false else (if a.Had != b.Had then Q false else F57.E a.Was b.Was (fun r => (if !r then Q false else (if a.Has != b.Has then Q false else F57.E a.Now b.Now (fun r2 => (if !r2 then Q false else Q true)))))))
theorem F25.calls {a : Change} {A3 : Option Addr} {n4 c5 : Nat} {A8 : Option Addr} {n9 ae : Nat} {af : Option Addr} {ag ah : Nat} {ai : Option Addr} {aj ak : Nat} {b : Change} {al : Option Addr} {am an : Nat} {ao : Option Addr} {ap aq : Nat} {ar : Option Addr} {au av : Nat} {aw : Option Addr} {ax ay : Nat} {Q : Bool → Prop} (H : F25.E a b Q) (hO : Ok w0 O) (hs1 : Lim a.Id) (hs2 : Lim a.Was.Id) (hp6 : Sl kPt w0 (Fr O) (G A3 n4 c5) a.Was.Shape.Pts) (bd : Sl kTag w0 (Fr O) (G A8 n9 ae) a.Was.Tags) (be : Lim a.Now.Id) (bf : Sl kPt w0 (Fr O) (G af ag ah) a.Now.Shape.Pts) (bg : Sl kTag w0 (Fr O) (G ai aj ak) a.Now.Tags) (bz : Lim b.Id) (bh : Lim b.Was.Id) (bi : Sl kPt w0 (Fr O) (G al am an) b.Was.Shape.Pts) (bj : Sl kTag w0 (Fr O) (G ao ap aq) b.Was.Tags) (bl : Lim b.Now.Id) (bm : Sl kPt w0 (Fr O) (G ar au av) b.Now.Shape.Pts) (bn : Sl kTag w0 (Fr O) (G aw ax ay) b.Now.Tags) :
  Ret Tryd.prog 20 [.agg #[vs a.Id, vb a.Had, vs a.Was.Id, vi a.Was.Shape.Kind, G A3 n4 c5, G A8 n9 ae, vb a.Has, vs a.Now.Id, vi a.Now.Shape.Kind, G af ag ah, G ai aj ak], .agg #[vs b.Id, vb b.Had, vs b.Was.Id, vi b.Was.Shape.Kind, G al am an, G ao ap aq, vb b.Has, vs b.Now.Id, vi b.Now.Shape.Kind, G ar au av, G aw ax ay]] w0 (fun v w' => ∃ (r0 : Bool), v = vb r0 ∧ Q r0 ∧ Gr w0 w' none) := by
 unfold F25.E at H;have hc0 := Ct.init hO;refine X3 Tryd.func20 Z 32 Z [.tmp 4] Z Z ?_;refine Xb (Xd (Ya [vs a.Id, vb a.Had, vs a.Was.Id, vi a.Was.Shape.Kind, G A3 n4 c5, G A8 n9 ae, vb a.Has, vs a.Now.Id, vi a.Now.Shape.Kind, G af ag ah, G ai aj ak] Z fun b0 aa bo hu51 bp bq => ?_));have br := Fb.mk hc0.ok bo bq;have a1 := hc0.k0 bp;refine Ya [vs b.Id, vb b.Had, vs b.Was.Id, vi b.Was.Shape.Kind, G al am an, G ao ap aq, vb b.Has, vs b.Now.Id, vi b.Now.Shape.Kind, G ar au av, G aw ax ay] Z fun bs ab bt hu60 a7 bu => ?_;have az := Fb.mk a1.ok bt bu;have ac := a1.k0 a7;refine Xf (vb false) Z (Xc (Xb (Xb (Xd (Xa (Xj fa39_0 (Ad aa 0) (Ad aa 0) Z Z) ?_)))));have bv := a1.stn a7;have a0 := (br.st bv);refine Xa (Xn ag9 cL (Ad aa 0) (vs a.Id) Z (a0.cell Z)) (Xa (Xj fa39_0 (Ad ab 0) (Ad ab 0) Z Z) (Xa (Xn ag9 cL (Ad ab 0) (vs b.Id) Z (az.cell Z)) (Xa (Yg a.Id b.Id (a.Id != b.Id) Z Z Z) (Xc ?_))));refine Xu (a.Id != b.Id) Z (fun a2 => ?_) (fun a2 => ?_)
 ·have H := Xo H a2;exact Xb (Xd (Xf (vb false) Z (Xc (Xl ⟨[vb false], ⟨_, Z, Z⟩, false, Z, H, ac.gr.g0⟩))))
 have H := Xp H a2;refine Xt (Xb (Xb (Xd (Xa (Xj fa39_1 (Ad aa 0) (Ad aa 1) Z Z) (Xa (Xn ag4 cL (Ad aa 1) (vb a.Had) Z (a0.cell Z)) (Xa (Xj fa39_1 (Ad ab 0) (Ad ab 1) Z Z) (Xa (Xn ag4 cL (Ad ab 1) (vb b.Had) Z (az.cell Z)) (Xa (Y4 Tryd.underlying4 a.Had b.Had (a.Had != b.Had) Z Z Z) ?_))))))));refine Xc ?_;refine Xu (a.Had != b.Had) Z (fun a3 => ?_) (fun a3 => ?_)
 ·have H := Xo H a3;exact Xb (Xd (Xf (vb false) Z (Xc (Xl ⟨[vb false], ⟨_, Z, Z⟩, false, Z, H, ac.gr.g0⟩))))
 have H := Xp H a3;refine Xt (Xb (Xb (Xd (Xa (Xj fa39_2 (Ad aa 0) (Ad aa 2) Z Z) (Xa (Xv ag37 sz37 cL (Ad aa 2) [vs a.Was.Id, vi a.Was.Shape.Kind, G A3 n4 c5, G A8 n9 ae] Z Z (a0.cells (off := 2) Z)) (Xa (Xj fa39_2 (Ad ab 0) (Ad ab 2) Z Z) (Xa (Xv ag37 sz37 cL (Ad ab 2) [vs b.Was.Id, vi b.Was.Shape.Kind, G al am an, G ao ap aq] Z Z (az.cells (off := 2) Z)) ?_)))))));refine X0 go32 (F57.calls H ac.ok hs2 (hp6.st ac.st) (bd.st ac.st) bh (bi.st ac.st) (bj.st ac.st)) Z ?_;rintro _ bw ⟨r, rfl, H, a8⟩;have ad := ac.k0 a8;refine Xa (X1 r Z) (Xc ?_);refine Xu (!r) Z (fun a4 => ?_) (fun a4 => ?_)
 ·have H := Xo H a4;exact Xb (Xd (Xf (vb false) Z (Xc (Xl ⟨[vb false], ⟨_, Z, Z⟩, false, Z, H, ad.gr.g0⟩))))
 have H := Xp H a4;refine Xt (Xb (Xb (Xd (Xa (Xj fa39_3 (Ad aa 0) (Ad aa 6) Z Z) ?_))));have a9 := ac.stn a8;have ba := (a0.st a9);refine Xa (Xn ag4 cL (Ad aa 6) (vb a.Has) Z (ba.cell Z)) (Xa (Xj fa39_3 (Ad ab 0) (Ad ab 6) Z Z) ?_);have bb := (az.st a9);refine Xa (Xn ag4 cL (Ad ab 6) (vb b.Has) Z (bb.cell Z)) (Xa (Y4 Tryd.underlying4 a.Has b.Has (a.Has != b.Has) Z Z Z) (Xc ?_));refine Xu (a.Has != b.Has) Z (fun a5 => ?_) (fun a5 => ?_)
 ·have H := Xo H a5;exact Xb (Xd (Xf (vb false) Z (Xc (Xl ⟨[vb false], ⟨_, Z, Z⟩, false, Z, H, ad.gr.g0⟩))))
 have H := Xp H a5;refine Xt (Xb (Xb (Xd (Xa (Xj fa39_4 (Ad aa 0) (Ad aa 7) Z Z) (Xa (Xv ag37 sz37 cL (Ad aa 7) [vs a.Now.Id, vi a.Now.Shape.Kind, G af ag ah, G ai aj ak] Z Z (ba.cells (off := 7) Z)) (Xa (Xj fa39_4 (Ad ab 0) (Ad ab 7) Z Z) (Xa (Xv ag37 sz37 cL (Ad ab 7) [vs b.Now.Id, vi b.Now.Shape.Kind, G ar au av, G aw ax ay] Z Z (bb.cells (off := 7) Z)) ?_)))))));refine X0 go32 (F57.calls H ad.ok be (bf.st ad.st) (bg.st ad.st) bl (bm.st ad.st) (bn.st ad.st)) Z ?_;rintro _ b1 ⟨r2, rfl, H, bx⟩;have bc := ad.k0 bx;refine Xa (X1 r2 Z) (Xc ?_);refine Xu (!r2) Z (fun a6 => ?_) (fun a6 => ?_)
 ·have H := Xo H a6;exact Xb (Xd (Xf (vb false) Z (Xc (Xl ⟨[vb false], ⟨_, Z, Z⟩, false, Z, H, bc.gr.g0⟩))))
 have H := Xp H a6;exact Xt (Xb (Xd (Xf (vb true) Z (Xc (Xl ⟨[vb true], ⟨_, Z, Z⟩, true, Z, H, bc.gr.g0⟩)))))
theorem F75.law (a b : List Pt) (Q : Bool → Prop) (hq : Q (decide (a = b))) : F75.E a b Q := by
 unfold F75.E
 exact eqS_shape (fun x y => decide (x = y)) (fun _ _ => rfl) a b Q hq
theorem F75.is (a b : List Pt) : F75.E a b (fun r => r = decide (a = b)) := F75.law a b _ rfl
theorem F32.law (a b : Shape) (Q : Bool → Prop) (hq : Q (decide (a = b))) : F32.E a b Q := by
 obtain ⟨x0, x1⟩ := a; obtain ⟨y0, y1⟩ := b
 rw [show (decide ((⟨x0, x1⟩ : Shape) = ⟨y0, y1⟩)) = ((decide (x0 = y0)) && (decide (x1 = y1))) by simp only [Shape.mk.injEq, Bool.decide_and]] at hq
 unfold F32.E
 by_cases h0 : x0 = y0
 case neg => simpa [h0] using hq
 simp only [h0, decide_true, Bool.true_and, bne_self_eq_false, Bool.not_true, Bool.false_eq_true, if_false] at hq ⊢
 try refine F75.law _ _ _ ?_
 by_cases h1 : x1 = y1
 case neg => simpa [h1] using hq
 simp only [h1, decide_true, Bool.true_and, bne_self_eq_false, Bool.not_true, Bool.false_eq_true, if_false] at hq ⊢
 all_goals (try exact hq)
theorem F32.is (a b : Shape) : F32.E a b (fun r => r = decide (a = b)) := F32.law a b _ rfl
theorem F56.law (a b : List Tag) (Q : Bool → Prop) (hq : Q (decide (a = b))) : F56.E a b Q := by
 unfold F56.E
 exact eqS_shape (fun x y => decide (x = y)) (fun _ _ => rfl) a b Q hq
theorem F56.is (a b : List Tag) : F56.E a b (fun r => r = decide (a = b)) := F56.law a b _ rfl
theorem F57.law (a b : Feat) (Q : Bool → Prop) (hq : Q (decide (a = b))) : F57.E a b Q := by
 obtain ⟨x0, x1, x2⟩ := a; obtain ⟨y0, y1, y2⟩ := b
 rw [show (decide ((⟨x0, x1, x2⟩ : Feat) = ⟨y0, y1, y2⟩)) = ((decide (x0 = y0)) && ((decide (x1 = y1)) && (decide (x2 = y2)))) by simp only [Feat.mk.injEq, Bool.decide_and]] at hq
 unfold F57.E
 by_cases h0 : x0 = y0
 case neg => simpa [h0] using hq
 simp only [h0, decide_true, Bool.true_and, bne_self_eq_false, Bool.not_true, Bool.false_eq_true, if_false] at hq ⊢
 try refine F32.law _ _ _ ?_
 by_cases h1 : x1 = y1
 case neg => simpa [h1] using hq
 simp only [h1, decide_true, Bool.true_and, bne_self_eq_false, Bool.not_true, Bool.false_eq_true, if_false] at hq ⊢
 try refine F56.law _ _ _ ?_
 by_cases h2 : x2 = y2
 case neg => simpa [h2] using hq
 simp only [h2, decide_true, Bool.true_and, bne_self_eq_false, Bool.not_true, Bool.false_eq_true, if_false] at hq ⊢
 all_goals (try exact hq)
theorem F57.is (a b : Feat) : F57.E a b (fun r => r = decide (a = b)) := F57.law a b _ rfl
theorem F25.law (a b : Change) (Q : Bool → Prop) (hq : Q (decide (a = b))) : F25.E a b Q := by
 obtain ⟨x0, x1, x2, x3, x4⟩ := a; obtain ⟨y0, y1, y2, y3, y4⟩ := b
 rw [show (decide ((⟨x0, x1, x2, x3, x4⟩ : Change) = ⟨y0, y1, y2, y3, y4⟩)) = ((decide (x0 = y0)) && ((decide (x1 = y1)) && ((decide (x2 = y2)) && ((decide (x3 = y3)) && (decide (x4 = y4)))))) by simp only [Change.mk.injEq, Bool.decide_and]] at hq
 unfold F25.E
 by_cases h0 : x0 = y0
 case neg => simpa [h0] using hq
 simp only [h0, decide_true, Bool.true_and, bne_self_eq_false, Bool.not_true, Bool.false_eq_true, if_false] at hq ⊢
 by_cases h1 : x1 = y1
 case neg => simpa [h1] using hq
 simp only [h1, decide_true, Bool.true_and, bne_self_eq_false, Bool.not_true, Bool.false_eq_true, if_false] at hq ⊢
 try refine F57.law _ _ _ ?_
 by_cases h2 : x2 = y2
 case neg => simpa [h2] using hq
 simp only [h2, decide_true, Bool.true_and, bne_self_eq_false, Bool.not_true, Bool.false_eq_true, if_false] at hq ⊢
 by_cases h3 : x3 = y3
 case neg => simpa [h3] using hq
 simp only [h3, decide_true, Bool.true_and, bne_self_eq_false, Bool.not_true, Bool.false_eq_true, if_false] at hq ⊢
 try refine F57.law _ _ _ ?_
 by_cases h4 : x4 = y4
 case neg => simpa [h4] using hq
 simp only [h4, decide_true, Bool.true_and, bne_self_eq_false, Bool.not_true, Bool.false_eq_true, if_false] at hq ⊢
 all_goals (try exact hq)
theorem F25.is (a b : Change) : F25.E a b (fun r => r = decide (a = b)) := F25.law a b _ rfl
def F15.E (a b : List Change) (Q : Bool → Prop) : Prop :=
 (if (a.length : Int) != (b.length : Int) then Q false else (∃ (I32 : Int → Prop) (mu33 : Int → Nat), I32 0 ∧ ∀ (i2 : Int), I32 i2 → (if decide (i2 < (a.length : Int)) then ((0 : Int) ≤ i2 ∧ i2 < (a.length : Int)) ∧ ((0 : Int) ≤ i2 ∧ i2 < (b.length : Int)) ∧ (if !(decide ((nth a i2) = (nth b i2))) then Q false else (-9223372036854775808 ≤ i2) ∧ I32 (i2 + 1) ∧ mu33 (i2 + 1) < mu33 i2) else Q true)))
theorem F15.calls {a : List Change} {A1 : Option Addr} {n2 c3 : Nat} {b : List Change} {A6 : Option Addr} {n7 c8 : Nat} {Q : Bool → Prop} (H : F15.E a b Q) (hO : Ok w0 O) (hp4 : Sl kChange w0 (Fr O) (G A1 n2 c3) a) (hp9 : Sl kChange w0 (Fr O) (G A6 n7 c8) b) :
  Ret Tryd.prog 10 [G A1 n2 c3, G A6 n7 c8] w0 (fun v w' => ∃ (r0 : Bool), v = vb r0 ∧ Q r0 ∧ Gr w0 w' none) := by
 unfold F15.E at H;have hc0 := Ct.init hO;refine X3 Tryd.func10 Z 27 Z [.tmp 4] Z Z ?_;refine Xb (Xd (Xf (vb false) Z (Xc (Xb (Xb (Xd (Xg (G A1 n2 c3) Z ?_)))))));have b9 := hp4.le;refine Xa (X6 u25_ A1 n2 c3 hp4.len Z) (Xg (G A6 n7 c8) Z ?_);have ca := hp9.le;refine Xa (X6 u25_ A6 n7 c8 hp9.len Z) (Xa (Xx (a.length : Int) (b.length : Int) ((a.length : Int) != (b.length : Int)) Z Z Z) (Xc ?_));refine Xu ((a.length : Int) != (b.length : Int)) Z (fun ae => ?_) (fun ae => ?_)
 ·have H := Xo H ae;exact Xb (Xd (Xf (vb false) Z (Xc (Xl ⟨[vb false], ⟨_, Z, Z⟩, false, Z, H, hc0.gr.g0⟩))))
 have H := Xp H ae;refine Xt (Xb (Xb (Xd (Xf (vi 0) Z (Xc (X5 ?_))))));obtain ⟨bf, bg, af, H⟩ := H;refine Ye (α := Int) (fun (sv__ : Int) t aa => match sv__ with | i2 => bf i2 ∧ Has t [(0, G A1 n2 c3), (1, G A6 n7 c8), (5, vi i2)] ∧ Cw [] w0 aa [] O fun M => Sl kChange aa (Fr M) (G A1 n2 c3) a ∧ Sl kChange aa (Fr M) (G A6 n7 c8) b) (fun (sv__ : Int) => match sv__ with | i2 => bg i2) 0 ⟨af, (X2 Z), hc0, hp4, hp9⟩ ?_;rintro i2 _ aa ⟨af, bh, ac, ab, ag⟩;obtain ⟨cb, rfl⟩ := Has.ins bh;have H := H i2 af;refine Xb (Xb (Xd (Xg (vi i2) Z (Xg (G A1 n2 c3) Z ?_))));have bi := ab.le;refine Xa (X6 u25_ A1 n2 c3 ab.len Z) (Xa (Xx i2 (a.length : Int) (decide (i2 < (a.length : Int))) Z Z Z) (Xc ?_));refine Xu (decide (i2 < (a.length : Int))) Z (fun ad => ?_) (fun ad => ?_)
 ·have H := Xo H ad;refine Xt (Xb (X5 (Xb (Yh (fun x => Gr aa x none) RK RK (Gr.drew _) ?_))));refine Xs (G A1 n2 c3) Z (Xs (vi i2) Z ?_);obtain ⟨a8, H⟩ := H;obtain ⟨a9, cc, bj, cd, bl, bm⟩ := ab.get default RD i2 a8;obtain ⟨ah, ai, aj, ak, al, am, an, ao, ap, aq, ar, au, rfl, bn, bo, bp, bq, br, bs, bt⟩ := kChange.op bl;refine Xi (X4 u25_ Ys A1 a9 n2 c3 ab.len i2 Z bj Z a8) (Xi (Xv ag39 sz39 cQ (a9.add (i2.toNat * 11)) [vs ((nth a i2).Id), vb ((nth a i2).Had), vs ((nth a i2).Was.Id), vi ((nth a i2).Was.Shape.Kind), G ah ai aj, G ak al am, vb ((nth a i2).Has), vs ((nth a i2).Now.Id), vi ((nth a i2).Now.Shape.Kind), G an ao ap, G aq ar au] Z Z bm) (Xs (G A6 n7 c8) Z (Xs (vi i2) Z ?_)));obtain ⟨ba, H⟩ := H;obtain ⟨bb, ce, bu, cf, bv, bw⟩ := ag.get default RD i2 ba;obtain ⟨av, aw, ax, ay, az, a0, a1, a2, a3, a4, a5, a6, rfl, bx, bz, b0, b1, b2, b3, b4⟩ := kChange.op bv;refine Xi (X4 u25_ Ys A6 bb n7 c8 ag.len i2 Z bu Z ba) (Xi (Xv ag39 sz39 cQ (bb.add (i2.toNat * 11)) [vs ((nth b i2).Id), vb ((nth b i2).Had), vs ((nth b i2).Was.Id), vi ((nth b i2).Was.Shape.Kind), G av aw ax, G ay az a0, vb ((nth b i2).Has), vs ((nth b i2).Now.Id), vi ((nth b i2).Now.Shape.Kind), G a1 a2 a3, G a4 a5 a6] Z Z bw) ?_);refine Yf go20 [.agg #[vs ((nth a i2).Id), vb ((nth a i2).Had), vs ((nth a i2).Was.Id), vi ((nth a i2).Was.Shape.Kind), G ah ai aj, G ak al am, vb ((nth a i2).Has), vs ((nth a i2).Now.Id), vi ((nth a i2).Now.Shape.Kind), G an ao ap, G aq ar au], .agg #[vs ((nth b i2).Id), vb ((nth b i2).Had), vs ((nth b i2).Was.Id), vi ((nth b i2).Was.Shape.Kind), G av aw ax, G ay az a0, vb ((nth b i2).Has), vs ((nth b i2).Now.Id), vi ((nth b i2).Now.Shape.Kind), G a1 a2 a3, G a4 a5 a6]] Z (vb (decide ((nth a i2) = (nth b i2)))) (fun w g => (F25.calls (F25.is (nth a i2) (nth b i2)) (ac.k0 g).ok bn bo (bp.st (.new _ g)) (bq.st (.new _ g)) br (bs.st (.new _ g)) (bt.st (.new _ g)) bx bz (b0.st (.new _ g)) (b1.st (.new _ g)) b2 (b3.st (.new _ g)) (b4.st (.new _ g))).mono ?_) ?_
  ·rintro _ w ⟨r, rfl, rfl, g2⟩;exact ⟨Z, Gr.t0 g g2⟩
  refine Xi (X1 (decide ((nth a i2) = (nth b i2))) Z) (X9 fun cg bc => ?_);have bd := ac.k0 bc;refine Xu (!(decide ((nth a i2) = (nth b i2)))) Z (fun a7 => ?_) (fun a7 => ?_)
  ·have H := Xo H a7;exact Xb (Xd (Xf (vb false) Z (Xc (Xl ⟨[vb false], ⟨_, Z, Z⟩, false, Z, H, bd.gr.g0⟩))))
  have H := Xp H a7;refine Xt (Xd (Xg (vi i2) Z ?_));obtain ⟨b5, H⟩ := H;have b6 : I64 (i2 + 1) := i64_succ (of_decide_eq_true ad) bi b5;refine Xa (Yc i2 1 Z Z b6) (Xf (vi (i2 + 1)) Z (Xc ?_));obtain ⟨b7, b8⟩ := H;have be := ac.stn bc;exact ⟨i2 + 1, b8, b7, (X2 Z), bd, (ab.st be), (ag.st be)⟩
 have H := Xp H ad;refine Yd (xin_hit ?_);exact Xb (Xd (Xf (vb true) Z (Xc (Xl ⟨[vb true], ⟨_, Z, Z⟩, true, Z, H, ac.gr.g0⟩))))
def laws_FnExactDiffText.E (aD : List Change) (Q : Bool → Prop) : Prop :=
 F10.E aD 1048576 (fun r => (if decide (r < 0) then Q true else F11.E aD (fun r2 => F21.E r2 (fun r3 => F11.E aD (fun r4 => F24.E r4 (fun r5 => (if r5 != r3 then Q false else F11.E aD (fun r6 => F15.E r4 r6 (fun r7 => (if !r7 then Q false else Q true))))))))))
theorem laws_FnExactDiffText.calls {O : Ob} (w0 : World) (hO : Ok w0 O) (hG : Glob w0 O) (aD : List Change) (A1 : Option Addr) (n2 c3 : Nat) (hp4 : Sl kChange w0 (Fr O) (G A1 n2 c3) aD) (Q : Bool → Prop) (h : laws_FnExactDiffText.E aD Q) :
  Ret Tryd.prog 3 [G A1 n2 c3] w0 (fun v w' => ∃ (r0 : Bool), v = vb r0 ∧ Q r0 ∧ Gr w0 w' none) := by
 unfold laws_FnExactDiffText.E at h;have H := h;clear h;have hc0 := Ct.init hO;refine X3 Tryd.func3 Z 27 Z [.tmp 2] Z Z ?_;refine Xb (Xd (Xf (vb false) Z (Xc (Xb (Xd (Xf (vi 1048576) Z (Xc (Xb ?_))))))));refine Xd (Xg (G A1 n2 c3) Z (Xg (vi 1048576) Z ?_));refine X0 go6 (F10.calls H hc0.ok hp4) Z ?_;rintro _ w6 ⟨r, rfl, H, g7⟩;have ai := hc0.k0 g7;refine Xf (vi r) Z (Xc (Xb (Xb (Xd (Xg (vi r) Z (Xa (Xx r 0 (decide (r < 0)) Z Z Z) (Xc ?_)))))));refine Xu (decide (r < 0)) Z (fun ak => ?_) (fun ak => ?_)
 ·have H := Xo H ak;exact Xb (Xd (Xf (vb true) Z (Xc (Xl ⟨[vb true], ⟨_, Z, Z⟩, true, Z, H, ai.gr.g0⟩))))
 have H := Xp H ak;refine Xt (Xb (Xd (Xg (G A1 n2 c3) Z ?_)));refine X0 go8 (F11.calls H ai.ok (hp4.st ai.st)) Z ?_;rintro _ bb ⟨r2, aa, al, am, ac, cj, rfl, H, bc, bd, be, bf, bg⟩;have a1 := ai.owns bc bd be;have a2 : (((bk aa :: (ac ++ [])) ++ []) : Ob).Perm (bk aa :: (ac ++ [])) := RP;have a3 := a1.perm a2;have bh := (a1.spa bf a2);have bi := bg;have bj : ((bk aa :: (ac ++ [])) : Ob).Perm (bk aa :: (ac ++ [])) := RP;obtain ⟨bl, bm, ck⟩ := Dp.gv (L := (bk aa :: (ac ++ []))) (O := O) (v := G aa al am) bh bi a3 bj;refine X0 go7 (F21.calls H bm.ok bl) Z ?_;rintro _ bn ⟨r3, rfl, H, bo, cl⟩;have an := a3.k0 bo;refine Xf (vs r3) Z (Xc (Xb (Xd (Xg (G A1 n2 c3) Z ?_))));refine X0 go8 (F11.calls H an.ok (hp4.st an.st)) Z ?_;rintro _ bp ⟨r4, ab, ag, ah, ad, cm, rfl, H, bq, br, bs, a4, a5⟩;have ao := an.owns bq br bs;have ap : (((bk ab :: (ad ++ [])) ++ (bk aa :: (ac ++ []))) : Ob).Perm (bk ab :: bk aa :: (ad ++ (ac ++ []))) := RP;have a6 := ao.perm ap;refine Xf (G ab ag ah) Z (Xc (Xb (Xd (Xg (G ab ag ah) Z ?_))));have bt := (ao.spa a4 ap);have bu := a5;have bv : ((bk ab :: bk aa :: (ad ++ (ac ++ []))) : Ob).Perm (bk ab :: (ad ++ (bk aa :: (ac ++ [])))) := RP;obtain ⟨bw, a7, cn⟩ := Dp.gv (L := (bk ab :: bk aa :: (ad ++ (ac ++ [])))) (O := O) (v := G ab ag ah) bt bu a6 bv;refine X0 go9 (F24.calls H a7.ok (hG.st a7.st) bw) Z ?_;rintro _ bx ⟨r5, rfl, H, aq, co⟩;have aj := a6.k0 aq;refine Xf (vs r5) Z (Xc (Xb (Xb (Xd (Xg (vs r5) Z (Xg (vs r3) Z (Xa (Yg r5 r3 (r5 != r3) Z Z Z) (Xc ?_))))))));refine Xu (r5 != r3) Z (fun ar => ?_) (fun ar => ?_)
 ·have H := Xo H ar;refine Xb (Xd (Xf (vb false) Z (Xc (Xl ?_))));have bz := aj.clear;exact ⟨[vb false], ⟨_, Z, Z⟩, false, Z, H, bz.gr.g0⟩
 have H := Xp H ar;refine Xt (Xb (Xb (Xd (Xg (G ab ag ah) Z (Xg (G A1 n2 c3) Z ?_)))));refine X0 go8 (F11.calls H aj.ok (hp4.st aj.st)) Z ?_;rintro _ b0 ⟨r6, ae, au, av, af, cp, rfl, H, aw, b1, a8, b2, b3⟩;have ax := aj.owns aw b1 a8;have ay : (((bk ae :: (af ++ [])) ++ (bk ab :: bk aa :: (ad ++ (ac ++ [])))) : Ob).Perm (bk ae :: bk ab :: bk aa :: (af ++ (ad ++ (ac ++ [])))) := RP;have az := ax.perm ay;have b4 := (ax.spa (((ao.spa a4 ap).sn aq).sos aw a8) ay);have b5 := ((a5.k0 aq).k0 aw);have a9 : ((bk ae :: bk ab :: bk aa :: (af ++ (ad ++ (ac ++ [])))) : Ob).Perm (bk ab :: (ad ++ (bk ae :: bk aa :: (af ++ (ac ++ []))))) := RP;obtain ⟨b6, b7, cq⟩ := Dp.gv (L := (bk ae :: bk ab :: bk aa :: (af ++ (ad ++ (ac ++ []))))) (O := O) (v := G ab ag ah) b4 b5 az a9;have b8 := (az.odr (rs := bk ab :: ad) (ax.spa b2 ay) a9 0 Z);have b9 := b3;have ca : ((bk ae :: bk aa :: (af ++ (ac ++ []))) : Ob).Perm (bk ae :: (af ++ (bk aa :: (ac ++ [])))) := RP;obtain ⟨cb, cc, cd⟩ := Dp.gv (L := (bk ae :: bk aa :: (af ++ (ac ++ [])))) (O := O) (v := G ae au av) b8 b9 b7 ca;refine X0 go10 (F15.calls H cc.ok (b6.st cd) cb) Z ?_;rintro _ cr ⟨r7, rfl, H, ce⟩;have ba := az.k0 ce;refine Xa (X1 r7 Z) (Xc ?_);refine Xu (!r7) Z (fun a0 => ?_) (fun a0 => ?_)
 ·have H := Xo H a0;refine Xb ?_;have cf : ((bk ae :: bk ab :: bk aa :: (af ++ (ad ++ (ac ++ [])))) : Ob).Perm ((bk ae :: bk ab :: bk aa :: (af ++ (ad ++ (ac ++ [])))) ++ []) := RP;have cg := ba.drops cf;exact Xd (Xf (vb false) Z (Xc (Xl ⟨[vb false], ⟨_, Z, Z⟩, false, Z, H, cg.gr.g0⟩)))
 have H := Xp H a0;refine Xt (Xb ?_);have ch : ((bk ae :: bk ab :: bk aa :: (af ++ (ad ++ (ac ++ [])))) : Ob).Perm ((bk ae :: bk ab :: bk aa :: (af ++ (ad ++ (ac ++ [])))) ++ []) := RP;have ci := ba.drops ch;exact Xd (Xf (vb true) Z (Xc (Xl ⟨[vb true], ⟨_, Z, Z⟩, true, Z, H, ci.gr.g0⟩)))
theorem F68.law (a : List Pt) (left : Int) (Q : Int → Prop) (h0 : 0 ≤ left) (h1 : left ≤ 1048576) (hn : left - (bulk a : Nat) < 0 → Q (-1)) (hp : 0 ≤ left - (bulk a : Nat) → Q (left - (bulk a : Nat))) : F68.E a left Q := by
 unfold F68.E
 exact szL_shape (fun _ => rfl) a left Q h0 h1 hn hp
theorem F27.law (a : Shape) (left : Int) (Q : Int → Prop) (h0 : 0 ≤ left) (h1 : left ≤ 1048576) (hn : left - (bulk a : Nat) < 0 → Q (-1)) (hp : 0 ≤ left - (bulk a : Nat) → Q (left - (bulk a : Nat))) : F27.E a left Q := by
 have hb : bulk a = bulk a.Kind + bulk a.Pts := rfl
 have hzKind : bulk a.Kind = 0 := rfl
 unfold F27.E
 refine F68.law _ _ _ OM OM (fun h => ?_) (fun h1 => ?_)
 ·rw [if_pos RD]; exact hn OM
 rw [if_neg (by rw [decide_eq_false OM]; exact Bool.false_ne_true)]
 exact cast (congrArg Q OM) (hp OM)
theorem F69.law (a : Tag) (left : Int) (Q : Int → Prop) (h0 : 0 ≤ left) (h1 : left ≤ 1048576) (hn : left - (bulk a : Nat) < 0 → Q (-1)) (hp : 0 ≤ left - (bulk a : Nat) → Q (left - (bulk a : Nat))) : F69.E a left Q := by
 have hb : bulk a = bulk a.Key + bulk a.Val := rfl
 have hzKey : bulk a.Key = a.Key.length := bulk_str _
 have hzVal : bulk a.Val = a.Val.length := bulk_str _
 unfold F69.E
 refine ⟨by intros; unfold I64; omega, ?_⟩
 split
 ·rename_i hc; simp only [decide_eq_true_eq] at hc; exact hn OM
 rename_i hc0; simp only [decide_eq_true_eq] at hc0
 refine ⟨by intros; unfold I64; omega, ?_⟩
 split
 ·rename_i hc; simp only [decide_eq_true_eq] at hc; exact hn OM
 rename_i hc1; simp only [decide_eq_true_eq] at hc1
 exact cast (congrArg Q OM) (hp OM)
theorem F37.law (a : List Tag) (left : Int) (Q : Int → Prop) (h0 : 0 ≤ left) (h1 : left ≤ 1048576) (hn : left - (bulk a : Nat) < 0 → Q (-1)) (hp : 0 ≤ left - (bulk a : Nat) → Q (left - (bulk a : Nat))) : F37.E a left Q := by
 unfold F37.E
 exact szS_shape F69.E (fun x l Q => F69.law x l Q) a left Q h0 h1 hn hp
theorem F38.law (a : Feat) (left : Int) (Q : Int → Prop) (h0 : 0 ≤ left) (h1 : left ≤ 1048576) (hn : left - (bulk a : Nat) < 0 → Q (-1)) (hp : 0 ≤ left - (bulk a : Nat) → Q (left - (bulk a : Nat))) : F38.E a left Q := by
 have hb : bulk a = bulk a.Id + bulk a.Shape + bulk a.Tags := rfl
 have hzId : bulk a.Id = a.Id.length := bulk_str _
 unfold F38.E
 refine ⟨by intros; unfold I64; omega, ?_⟩
 split
 ·rename_i hc; simp only [decide_eq_true_eq] at hc; exact hn OM
 rename_i hc0; simp only [decide_eq_true_eq] at hc0
 refine F27.law _ _ _ OM OM (fun h => ?_) (fun h1 => ?_)
 ·rw [if_pos RD]; exact hn OM
 rw [if_neg (by rw [decide_eq_false OM]; exact Bool.false_ne_true)]
 refine F37.law _ _ _ OM OM (fun h => ?_) (fun h2 => ?_)
 ·rw [if_pos RD]; exact hn OM
 rw [if_neg (by rw [decide_eq_false OM]; exact Bool.false_ne_true)]
 exact cast (congrArg Q OM) (hp OM)
theorem F17.law (a : Change) (left : Int) (Q : Int → Prop) (h0 : 0 ≤ left) (h1 : left ≤ 1048576) (hn : left - (bulk a : Nat) < 0 → Q (-1)) (hp : 0 ≤ left - (bulk a : Nat) → Q (left - (bulk a : Nat))) : F17.E a left Q := by
 have hb : bulk a = bulk a.Id + bulk a.Had + bulk a.Was + bulk a.Has + bulk a.Now := rfl
 have hzId : bulk a.Id = a.Id.length := bulk_str _
 have hzHad : bulk a.Had = 0 := rfl
 have hzHas : bulk a.Has = 0 := rfl
 unfold F17.E
 refine ⟨by intros; unfold I64; omega, ?_⟩
 split
 ·rename_i hc; simp only [decide_eq_true_eq] at hc; exact hn OM
 rename_i hc0; simp only [decide_eq_true_eq] at hc0
 refine F38.law _ _ _ OM OM (fun h => ?_) (fun h2 => ?_)
 ·rw [if_pos RD]; exact hn OM
 rw [if_neg (by rw [decide_eq_false OM]; exact Bool.false_ne_true)]
 refine F38.law _ _ _ OM OM (fun h => ?_) (fun h4 => ?_)
 ·rw [if_pos RD]; exact hn OM
 rw [if_neg (by rw [decide_eq_false OM]; exact Bool.false_ne_true)]
 exact cast (congrArg Q OM) (hp OM)
theorem F10.law (a : List Change) (left : Int) (Q : Int → Prop) (h0 : 0 ≤ left) (h1 : left ≤ 1048576) (hn : left - (bulk a : Nat) < 0 → Q (-1)) (hp : 0 ≤ left - (bulk a : Nat) → Q (left - (bulk a : Nat))) : F10.E a left Q := by
 unfold F10.E
 exact szS_shape F17.E (fun x l Q => F17.law x l Q) a left Q h0 h1 hn hp
theorem F84.law (a : Pt) (Q : Pt → Prop) (ha : bulk a ≤ 1048576) (hq : Q a) : F84.E a Q := by
 unfold F84.E
 have hb : bulk a = bulk a.X + bulk a.Y := rfl
 exact hq
theorem F70.law (a : List Pt) (Q : List Pt → Prop) (ha : bulk a ≤ 1048576) (hq : Q a) : F70.E a Q := by
 unfold F70.E
 exact toS_shape _ F84.E (fun x Q => F84.law x Q) a Q ha hq
theorem F28.law (a : Shape) (Q : Shape → Prop) (ha : bulk a ≤ 1048576) (hq : Q a) : F28.E a Q := by
 unfold F28.E
 have hb : bulk a = bulk a.Kind + bulk a.Pts := rfl
 refine F70.law _ _ OM ?_
 exact hq
theorem F71.law (a : Tag) (Q : Tag → Prop) (ha : bulk a ≤ 1048576) (hq : Q a) : F71.E a Q := by
 unfold F71.E
 have hb : bulk a = bulk a.Key + bulk a.Val := rfl
 exact hq
theorem F39.law (a : List Tag) (Q : List Tag → Prop) (ha : bulk a ≤ 1048576) (hq : Q a) : F39.E a Q := by
 unfold F39.E
 exact toS_shape _ F71.E (fun x Q => F71.law x Q) a Q ha hq
theorem F40.law (a : Feat) (Q : Feat → Prop) (ha : bulk a ≤ 1048576) (hq : Q a) : F40.E a Q := by
 unfold F40.E
 have hb : bulk a = bulk a.Id + bulk a.Shape + bulk a.Tags := rfl
 refine F28.law _ _ OM ?_
 refine F39.law _ _ OM ?_
 exact hq
theorem F18.law (a : Change) (Q : Change → Prop) (ha : bulk a ≤ 1048576) (hq : Q a) : F18.E a Q := by
 unfold F18.E
 have hb : bulk a = bulk a.Id + bulk a.Had + bulk a.Was + bulk a.Has + bulk a.Now := rfl
 refine F40.law _ _ OM ?_
 refine F40.law _ _ OM ?_
 exact hq
theorem F11.law (a : List Change) (Q : List Change → Prop) (ha : bulk a ≤ 1048576) (hq : Q a) : F11.E a Q := by
 unfold F11.E
 exact toS_shape _ F18.E (fun x Q => F18.law x Q) a Q ha hq
theorem F15.law (a b : List Change) (Q : Bool → Prop) (hq : Q (decide (a = b))) : F15.E a b Q := by
 unfold F15.E
 exact eqS_shape (fun x y => decide (x = y)) (fun _ _ => rfl) a b Q hq
theorem F15.is (a b : List Change) : F15.E a b (fun r => r = decide (a = b)) := F15.law a b _ rfl
section
section
variable {α : Type} [DecidableEq α]
def lcsR (x : α) (p : List α → Nat) : List α → Nat
 | [] => 0
 | y :: b => if x = y then p b + 1 else max (p (y :: b)) (lcsR x p b)
def lcs : List α → List α → Nat
 | [] => fun _ => 0
 | x :: a => lcsR x (lcs a)
@[simp] theorem lcs_nil (b : List α) : lcs [] b = 0 := rfl
@[simp] theorem lcs_nil2 (a : List α) : lcs a [] = 0 := by cases a <;> rfl
theorem pp {a b c d : Nat} (h : a = c) (k : b = d) : (a, b) = (c, d) := by rw [h, k]
def pairs (i j : Nat) : List α → List α → List (Nat × Nat)
 | x :: a, y :: b => if x = y then (i, j) :: pairs (i + 1) (j + 1) a b else if lcs (x :: a) b ≤ lcs a (y :: b) then pairs (i + 1) j a (y :: b) else pairs i (j + 1) (x :: a) b
 | [], _ => []
 | _ :: _, [] => []
 termination_by a b => a.length + b.length
theorem pairs_nil (i j : Nat) (b : List α) : pairs i j [] b = [] := by rw [pairs]
theorem pairs_nil2 (i j : Nat) (a : List α) : pairs i j a [] = [] := by cases a <;> rw [pairs]
theorem pairs_cons (i j : Nat) (x y : α) (a b : List α) : pairs i j (x :: a) (y :: b) = if x = y then (i, j) :: pairs (i + 1) (j + 1) a b else if lcs (x :: a) b ≤ lcs a (y :: b) then pairs (i + 1) j a (y :: b) else pairs i (j + 1) (x :: a) b := by rw [pairs]
theorem pairs_ind {C : Nat → Nat → List α → List α → Prop} (h0 : ∀ i j b, C i j [] b) (h1 : ∀ i j a, C i j a [])
  (he : ∀ i j x a b, C (i + 1) (j + 1) a b → C i j (x :: a) (x :: b))
  (ha : ∀ i j x y a b, x ≠ y → lcs (x :: a) b ≤ lcs a (y :: b) → C (i + 1) j a (y :: b) → C i j (x :: a) (y :: b))
  (hb : ∀ i j x y a b, x ≠ y → ¬ lcs (x :: a) b ≤ lcs a (y :: b) → C i (j + 1) (x :: a) b → C i j (x :: a) (y :: b)) : ∀ i j (a b : List α), C i j a b := by
 have : ∀ n i j (a b : List α), a.length + b.length ≤ n → C i j a b := by
  intro n
  induction n with
  | zero => intro i j a b h; cases a with
   | nil => exact h0 _ _ _
   | cons _ _ => simp at h
  | succ n ih =>
   intro i j a b h
   cases a with
   | nil => exact h0 _ _ _
   | cons x a => cases b with
    | nil => exact h1 _ _ _
    | cons y b =>
     simp only [List.length_cons] at h
     by_cases e : x = y
     ·subst e; exact he _ _ _ _ _ (ih _ _ _ _ OM)
     ·by_cases l : lcs (x :: a) b ≤ lcs a (y :: b)
      ·exact ha _ _ _ _ _ _ e l (ih _ _ _ _ (by simp only [List.length_cons]; omega))
      ·exact hb _ _ _ _ _ _ e l (ih _ _ _ _ (by simp only [List.length_cons]; omega))
 exact fun i j a b => this _ i j a b (Nat.le_refl _)
theorem pairs_mem (i j : Nat) (a b : List α) : ∀ p ∈ pairs i j a b, ∃ k l, p = (i + k, j + l) ∧ ∃ x, a[k]? = some x ∧ b[l]? = some x := by
 refine pairs_ind (C := fun i j a b => ∀ p ∈ pairs i j a b, ∃ k l, p = (i + k, j + l) ∧ ∃ x, a[k]? = some x ∧ b[l]? = some x) ?_ ?_ ?_ ?_ ?_ i j a b
 ·intro i j b p h; rw [pairs_nil] at h; cases h
 ·intro i j a p h; rw [pairs_nil2] at h; cases h
 ·intro i j x a b ih p h
  rw [pairs_cons, if_pos rfl] at h
  rcases List.mem_cons.1 h with rfl | h
  ·exact ⟨0, 0, rfl, x, rfl, rfl⟩
  ·obtain ⟨k, l, rfl, z, h1, h2⟩ := ih p h
   exact ⟨k + 1, l + 1, pp OM OM, z, h1, h2⟩
 ·intro i j x y a b e l ih p h
  rw [pairs_cons, if_neg e, if_pos l] at h
  obtain ⟨k, l, rfl, z, h1, h2⟩ := ih p h
  exact ⟨k + 1, l, pp OM OM, z, h1, h2⟩
 ·intro i j x y a b e l ih p h
  rw [pairs_cons, if_neg e, if_neg l] at h
  obtain ⟨k, l, rfl, z, h1, h2⟩ := ih p h
  exact ⟨k, l + 1, pp OM OM, z, h1, h2⟩
theorem pairs_ord (i j : Nat) (a b : List α) : (pairs i j a b).Pairwise (fun p q => p.1 < q.1 ∧ p.2 < q.2) := by
 refine pairs_ind (C := fun i j a b => (pairs i j a b).Pairwise (fun p q => p.1 < q.1 ∧ p.2 < q.2)) ?_ ?_ ?_ ?_ ?_ i j a b
 ·intros; rw [pairs_nil]; exact List.Pairwise.nil
 ·intros; rw [pairs_nil2]; exact List.Pairwise.nil
 ·intro i j x a b h; rw [pairs_cons, if_pos rfl]
  refine List.Pairwise.cons (fun p hp => ?_) h
  obtain ⟨k, l, rfl, _⟩ := pairs_mem _ _ _ _ p hp
  exact ⟨by dsimp only; omega, by dsimp only; omega⟩
 ·intro i j x y a b e l h; rw [pairs_cons, if_neg e, if_pos l]; exact h
 ·intro i j x y a b e l h; rw [pairs_cons, if_neg e, if_neg l]; exact h
end
section
variable {α : Type} [Inhabited α]
theorem nth_set (l : List α) {k : Nat} (h : k < l.length) (m : Nat) (v : α) : nth (l.set k v) (m : Int) = if m = k then v else nth l (m : Int) := by
 unfold nth
 rw [Int.toNat_natCast, List.getD_eq_getElem?_getD, List.getD_eq_getElem?_getD, List.getElem?_set]
 by_cases e : m = k
 ·subst e; rw [if_pos rfl, if_pos rfl, if_pos h]; rfl
 ·rw [if_neg (fun x => e x.symm), if_neg e]
def seg (l : List α) (i j : Nat) : List α := (l.drop i).take (j - i)
variable [DecidableEq α]
def pickL (o a b : List α) : Option (List α) := if a = o then some b else if b = o then some a else if a = b then some a else none
def mloop (o a b : List α) (f g : Nat → Option Nat) : Nat → Nat → Nat → Nat → Nat → Option (List α)
 | 0, _, i, j, k => pickL (o.drop i) (a.drop j) (b.drop k)
 | n + 1, at_, i, j, k => match f at_, g at_ with
  | some x, some y => (pickL (seg o i at_) (seg a j x) (seg b k y)).bind fun p => (mloop o a b f g n (at_ + 1) (at_ + 1) (x + 1) (y + 1)).map fun r => p ++ nth o (at_ : Int) :: r
  | _, _ => mloop o a b f g n (at_ + 1) i j k
theorem mloop_none {o a b : List α} {f g : Nat → Option Nat} {n t i j k : Nat} (h : f t = none ∨ g t = none) : mloop o a b f g (n + 1) t i j k = mloop o a b f g n (t + 1) i j k := by
 rw [mloop]
 rcases h with h | h
 ·rw [h]
 ·rw [h]; cases f t <;> rfl
structure Mates (o a : List α) (f : Nat → Option Nat) : Prop where
 lt : ∀ {t x}, f t = some x → t < o.length ∧ x < a.length
 eq : ∀ {t x}, f t = some x → nth o (t : Int) = nth a (x : Int)
 mono : ∀ {t x u y}, f t = some x → f u = some y → t < u → x < y
def From (f : Nat → Option Nat) (t j : Nat) : Prop := ∀ u x, t ≤ u → f u = some x → j ≤ x
theorem From.zero (f : Nat → Option Nat) (t : Nat) : From f t 0 := fun _ _ _ _ => Nat.zero_le _
theorem From.skip {f : Nat → Option Nat} {t j : Nat} (h : From f t j) : From f (t + 1) j := fun u x hu hx => h u x OM hx
end
end
def few (a b : List Pt) : Bool := decide (a.length ≤ 12) && decide (b.length ≤ 12)
def Tab (a b : List Pt) (D : Nat → Nat → Prop) (t : List (List Int)) : Prop := t.length = a.length + 1 ∧ ∀ r : Nat, r ≤ a.length → (nth t (r : Int)).length = b.length + 1 ∧ ∀ m : Nat, m ≤ b.length → D r m → nth (nth t (r : Int)) (m : Int) = (lcs (a.drop r) (b.drop m) : Nat)
theorem Tab.set {a b : List Pt} {D : Nat → Nat → Prop} {t : List (List Int)} (h : Tab a b D t) {i j : Nat} (hi : i ≤ a.length) (hj : j ≤ b.length) {v : Int} (hv : v = (lcs (a.drop i) (b.drop j) : Nat)) {D' : Nat → Nat → Prop} (hD : ∀ r m, D' r m → D r m ∨ (r = i ∧ m = j)) :
  Tab a b D' (t.set i ((nth t (i : Int)).set j v)) := by
 obtain ⟨h1, h2⟩ := h
 refine ⟨by rw [List.length_set]; exact h1, fun r hr => ?_⟩
 rw [nth_set _ OM]
 by_cases e : r = i
 ·subst e
  rw [if_pos rfl]
  refine ⟨by rw [List.length_set]; exact (h2 r hr).1, fun m hm hd => ?_⟩
  rw [nth_set _ (by rw [(h2 r hr).1]; omega)]
  by_cases f : m = j
  ·subst f; rw [if_pos rfl, hv]
  ·rw [if_neg f]
   exact (h2 r hr).2 m hm ((hD r m hd).resolve_right fun x => f x.2)
 ·rw [if_neg e]
  exact ⟨(h2 r hr).1, fun m hm hd => (h2 r hr).2 m hm ((hD r m hd).resolve_right fun x => e x.1)⟩
def mateN (l : List (Nat × Nat)) (k : Nat) : Option Nat := match l with
 | [] => none
 | p :: l => if p.1 = k then some p.2 else mateN l k
theorem mateN_mem {l : List (Nat × Nat)} {k x : Nat} (h : mateN l k = some x) : (k, x) ∈ l := by
 induction l with
 | nil => cases h
 | cons p l ih =>
  rw [mateN] at h
  by_cases e : p.1 = k
  ·rw [if_pos e] at h; cases h; subst e; exact List.mem_cons_self
  ·rw [if_neg e] at h; exact List.mem_cons_of_mem _ (ih h)
def part (o a : List Pt) : Nat → Option Nat := mateN (pairs 0 0 o a)
theorem part_mates (o a : List Pt) : Mates o a (part o a) := by
 have hm : ∀ {t x}, part o a t = some x → ∃ z, o[t]? = some z ∧ a[x]? = some z := fun {t x} h => by
  obtain ⟨k, l, e, z, h1, h2⟩ := pairs_mem 0 0 o a _ (mateN_mem h)
  rw [Nat.zero_add, Nat.zero_add] at e; cases e
  exact ⟨z, h1, h2⟩
 refine ⟨fun {t x} h => ?_, fun {t x} h => ?_, fun {t x u y} h1 h2 hu => ?_⟩
 ·obtain ⟨z, h1, h2⟩ := hm h
  exact ⟨(List.getElem?_eq_some_iff.1 h1).1, (List.getElem?_eq_some_iff.1 h2).1⟩
 ·obtain ⟨z, h1, h2⟩ := hm h
  obtain ⟨e1, e2⟩ := List.getElem?_eq_some_iff.1 h1
  obtain ⟨e3, e4⟩ := List.getElem?_eq_some_iff.1 h2
  rw [nth_nat _ e1, nth_nat _ e3, e2, e4]
 ·have ho := pairs_ord 0 0 o a
  have m1 := mateN_mem h1; have m2 := mateN_mem h2
  generalize pairs 0 0 o a = l at ho m1 m2
  induction l with
  | nil => cases m1
  | cons p l ih =>
   obtain ⟨q1, q2⟩ := List.pairwise_cons.1 ho
   rcases List.mem_cons.1 m1 with e1 | n1
   ·rcases List.mem_cons.1 m2 with e2 | n2
    ·subst e1; cases e2; omega
    ·subst e1; exact (q1 _ n2).2
   ·rcases List.mem_cons.1 m2 with e2 | n2
    ·subst e2; have := (q1 _ n1).1; dsimp only at this; omega
    ·exact ih q2 n1 n2
def smerge (o a b : List Pt) : Option (List Pt) := if few o a && few o b then mloop o a b (part o a) (part o b) o.length 0 0 0 0 else none
theorem smerge_few {o a b : List Pt} (h1 : few o a = true) (h2 : few o b = true) : smerge o a b = mloop o a b (part o a) (part o b) o.length 0 0 0 0 := by unfold smerge; rw [h1, h2]; rfl
def allN (n : Nat) (c : Nat → Bool) : Bool := (List.range n).all c
theorem allN_true {n : Nat} {c : Nat → Bool} (h : ∀ j, j < n → c j = true) : allN n c = true := by
 unfold allN; rw [List.all_eq_true]; intro j hj; exact h j (List.mem_range.1 hj)
theorem allN_false {n k : Nat} {c : Nat → Bool} (hk : k < n) (h : c k = false) : allN n c = false := by
 unfold allN
 rw [Bool.eq_false_iff]; intro ha
 rw [List.all_eq_true] at ha
 rw [ha k (List.mem_range.2 hk)] at h; cases h
theorem allN_iff {n : Nat} {c : Nat → Bool} : allN n c = true ↔ ∀ j, j < n → c j = true := by
 unfold allN; rw [List.all_eq_true]; exact ⟨fun h j hj => h j (List.mem_range.2 hj), fun h j hj => h j (List.mem_range.1 hj)⟩
theorem loop_all (n : Nat) (c : Nat → Bool) {B : (Int → Prop) → (Int → Nat) → Int → Prop} {F : Prop}
  (hs : ∀ (I : Int → Prop) (mu : Int → Nat) (k : Nat), k < n → (∀ j, j < k → c j = true) → (c k = true → I ((k : Int) + 1) ∧ mu ((k : Int) + 1) < mu (k : Int)) → B I mu (k : Int))
  (hF : (∀ j, j < n → c j = true) → F) :
  ∃ (I : Int → Prop) (mu : Int → Nat), I 0 ∧ ∀ (i : Int), I i → (if decide (i < (n : Int)) then B I mu i else F) := by
 refine ⟨fun i => ∃ k : Nat, i = k ∧ k ≤ n ∧ ∀ j, j < k → c j = true, fun i => ((n : Int) - i).toNat, ⟨0, rfl, Nat.zero_le _, fun j hj => absurd hj (Nat.not_lt_zero _)⟩, ?_⟩
 rintro _ ⟨k, rfl, hk, ha⟩
 by_cases h : (k : Int) < (n : Int)
 ·rw [if_pos (by simpa using h)]
  refine hs _ _ k OM ha fun hc => ⟨⟨k + 1, OM, OM, fun j hj => ?_⟩, OM⟩
  by_cases e : j = k
  ·subst e; exact hc
  ·exact ha j OM
 ·rw [if_neg (by simpa using h)]
  exact hF fun j hj => ha j OM
theorem less_irr : ∀ a : Str, Op.bytesLess a a = false
 | [] => rfl
 | x :: a => by rw [Op.bytesLess]; simp [less_irr a]
theorem less_tri : ∀ a b : Str, (!(Op.bytesLess a b)) = (Op.bytesLess b a || b == a)
 | [], [] => rfl
 | [], y :: b => rfl
 | x :: a, [] => rfl
 | x :: a, y :: b => by
  rw [Op.bytesLess, Op.bytesLess]
  have h := less_tri a b
  by_cases h1 : x < y
  ·have h2 : ¬ y < x := fun h => absurd (UInt8.lt_trans h1 h) (UInt8.lt_irrefl _)
   have h3 : ¬ y = x := fun e => by subst e; exact UInt8.lt_irrefl _ h1
   simp [h1, h2, h3]
  ·by_cases h2 : y < x
   ·have h3 : ¬ x = y := fun e => by subst e; exact UInt8.lt_irrefl _ h2
    simp [h1, h2, h3]
   ·have h3 : x = y := UInt8.le_antisymm (UInt8.not_lt.1 h2) (UInt8.not_lt.1 h1)
    subst h3
    simp only [h1, decide_false, Bool.false_or, beq_self_eq_true, Bool.true_and]
    rw [h]
    congr 1
    rw [Bool.eq_iff_iff, beq_iff_eq, beq_iff_eq]
    simp
def byteOk (b : UInt8) : Bool := !(decide ((b.toNat : Int) < 97)) && !(decide ((b.toNat : Int) > 122))
def wordOk (s : Str) : Bool := allN s.length (fun k => byteOk (nth s (k : Int))) && (decide (1 ≤ s.length) && decide (s.length ≤ 6))
def inR (x : Int) : Bool := decide (-1000 ≤ x) && decide (x ≤ 1000)
def ptOk (p : Pt) : Bool := inR p.X && inR p.Y
def ptsOk (p : List Pt) : Bool := allN p.length fun k => ptOk (nth p (k : Int)) && (decide (k = 0) || !(decide (nth p ((k : Int) - 1) = nth p (k : Int))))
def kindOk (kind : Int) (p : List Pt) : Bool :=
 if kind = 1 then decide (p.length = 1) else if kind = 2 then decide (2 ≤ p.length) && decide (p.length ≤ 6)
 else if kind = 3 then decide (3 ≤ p.length) && decide (p.length ≤ 6) && !(decide (nth p 0 = nth p ((p.length : Int) - 1))) else false
def shapeOk (s : Shape) : Bool := ptsOk s.Pts && kindOk s.Kind s.Pts
def tagsOk (t : List Tag) : Bool := allN t.length fun k => wordOk (nth t (k : Int)).Key && wordOk (nth t (k : Int)).Val && (decide (k = 0) || Op.bytesLess (nth t ((k : Int) - 1)).Key (nth t (k : Int)).Key)
def featOk (f : Feat) : Bool := tagsOk f.Tags && decide (f.Tags.length ≤ 4) && wordOk f.Id && shapeOk f.Shape
def noF (f : Feat) : Bool := decide (f = ⟨[], ⟨0, []⟩, []⟩)
def sideOk (id : Str) (has : Bool) (f : Feat) : Bool := if has then featOk f && decide (f.Id = id) else noF f
def sameC (c : Change) : Bool := decide (c.Had = c.Has) && decide (c.Was = c.Now)
def changeOk (c : Change) : Bool := wordOk c.Id && sideOk c.Id c.Had c.Was && sideOk c.Id c.Has c.Now && !(sameC c)
def diffOk (d : List Change) : Bool := allN d.length (fun k => changeOk (nth d (k : Int)) && (decide (k = 0) || Op.bytesLess (nth d ((k : Int) - 1)).Id (nth d (k : Int)).Id)) && decide (d.length ≤ 16)
theorem Feat.ext_iff' (a b : Feat) : a = b ↔ a.Id = b.Id ∧ a.Shape = b.Shape ∧ a.Tags = b.Tags := by cases a; cases b; simp
theorem Shape.ext_iff' (a b : Shape) : a = b ↔ a.Kind = b.Kind ∧ a.Pts = b.Pts := by cases a; cases b; simp
section
theorem less_trans : ∀ {a b c : Str}, Op.bytesLess a b = true → Op.bytesLess b c = true → Op.bytesLess a c = true
 | _, _, [], _, h => by rename_i b _; cases b <;> simp [Op.bytesLess] at h
 | _, [], _ :: _, h, _ => by rename_i a _ _ _; cases a <;> simp [Op.bytesLess] at h
 | [], _ :: _, _ :: _, _, _ => by simp [Op.bytesLess]
 | x :: a, y :: b, z :: c, h1, h2 => by
  rw [Op.bytesLess] at h1 h2 ⊢
  simp only [Bool.or_eq_true, Bool.and_eq_true, decide_eq_true_eq, beq_iff_eq] at h1 h2 ⊢
  rcases h1 with h1 | ⟨rfl, h1⟩
  ·rcases h2 with h2 | ⟨rfl, h2⟩
   ·exact .inl (UInt8.lt_trans h1 h2)
   ·exact .inl h1
  ·rcases h2 with h2 | ⟨rfl, h2⟩
   ·exact .inl h2
   ·exact .inr ⟨rfl, less_trans h1 h2⟩
section
open Go.Lib
end
theorem word_len {s : Str} (h : wordOk s = true) : s.length ≤ 6 := by
 unfold wordOk at h
 simp only [Bool.and_eq_true, decide_eq_true_eq] at h
 exact h.2.2
theorem bulk_small {α : Type} [Bulk α] (l : List α) (m : Nat) (h : ∀ x ∈ l, bulk x ≤ m) : bulk l ≤ l.length * (m + 1) := by
 induction l with
 | nil => exact Nat.zero_le _
 | cons x l ih =>
  have h1 := h x List.mem_cons_self
  have h2 := ih fun y hy => h y (List.mem_cons_of_mem _ hy)
  rw [bulk_cons, List.length_cons, Nat.add_mul]
  omega
theorem feat_small {f : Feat} (h : featOk f = true) : bulk f ≤ 100 ∧ f.Id.length ≤ 6 := by
 unfold featOk at h
 simp only [Bool.and_eq_true, decide_eq_true_eq] at h
 obtain ⟨⟨⟨h1, h2⟩, h3⟩, h4⟩ := h
 have hi := word_len h3
 have e1 : bulk f = bulk f.Id + (bulk f.Shape.Kind + bulk f.Shape.Pts) + bulk f.Tags := rfl
 have e2 : bulk f.Id = f.Id.length := bulk_str _
 have e3 : bulk f.Shape.Kind = 0 := rfl
 have e4 : bulk f.Shape.Pts = f.Shape.Pts.length := bulk_flat (fun _ => rfl) _
 have ht : bulk f.Tags ≤ f.Tags.length * (12 + 1) := bulk_small _ 12 fun t hm => by
  unfold tagsOk at h1
  obtain ⟨k, hk, rfl⟩ := List.getElem_of_mem hm
  have := allN_iff.1 h1 k hk
  rw [nth_nat _ hk] at this
  simp only [Bool.and_eq_true] at this
  have a1 := word_len this.1.1
  have a2 := word_len this.1.2
  have b0 : bulk f.Tags[k] = bulk f.Tags[k].Key + bulk f.Tags[k].Val := rfl
  have b1 : bulk f.Tags[k].Key = f.Tags[k].Key.length := bulk_str _
  have b2 : bulk f.Tags[k].Val = f.Tags[k].Val.length := bulk_str _
  omega
 have hp : f.Shape.Pts.length ≤ 6 := by
  unfold shapeOk kindOk at h4
  simp only [Bool.and_eq_true] at h4
  have := h4.2
  split at this
  ·simp only [decide_eq_true_eq] at this; omega
  ·split at this
   ·simp only [Bool.and_eq_true, decide_eq_true_eq] at this; omega
   ·split at this
    ·simp only [Bool.and_eq_true, decide_eq_true_eq] at this; omega
    ·cases this
 have : f.Tags.length * (12 + 1) ≤ 52 := by omega
 omega
end
structure MInv (o a b : List Pt) (xs : List Pt) (i j k t : Nat) : Prop where
 hi : i ≤ t
 ht : t ≤ o.length
 hj : j ≤ a.length
 hk : k ≤ b.length
 fj : From (part o a) t j
 fk : From (part o b) t k
 len : xs.length ≤ j + k
 eq : (mloop o a b (part o a) (part o b) (o.length - t) t i j k).map (xs ++ ·) = smerge o a b
theorem MInv.zero {o a b : List Pt} (h1 : few o a = true) (h2 : few o b = true) : MInv o a b [] 0 0 0 0 :=
 ⟨Nat.le_refl _, Nat.zero_le _, Nat.zero_le _, Nat.zero_le _, From.zero _ _, From.zero _ _, Nat.le_refl _, by rw [smerge_few h1 h2, Nat.sub_zero]; cases mloop o a b (part o a) (part o b) o.length 0 0 0 0 <;> rfl⟩
theorem MInv.skip {o a b xs : List Pt} {i j k t : Nat} (h : MInv o a b xs i j k t) (ht : t < o.length) (hn : part o a t = none ∨ part o b t = none) : MInv o a b xs i j k (t + 1) :=
 ⟨by have := h.hi; omega, ht, h.hj, h.hk, h.fj.skip, h.fk.skip, h.len, by
  have := h.eq
  rw [show o.length - t = (o.length - (t + 1)) + 1 by omega, mloop_none hn] at this
  exact this⟩
theorem MInv.from {o a b xs : List Pt} {i j k t x y : Nat} (h : MInv o a b xs i j k t) (hx : part o a t = some x) (hy : part o b t = some y) : j ≤ x ∧ x < a.length ∧ k ≤ y ∧ y < b.length :=
 ⟨h.fj t x (Nat.le_refl _) hx, ((part_mates o a).lt hx).2, h.fk t y (Nat.le_refl _) hy, ((part_mates o b).lt hy).2⟩
theorem feat_facts {f : Feat} (h : featOk f = true) : f.Tags.length ≤ 4 ∧ shapeOk f.Shape = true ∧ f.Shape.Pts.length ≤ 6 ∧ f.Id.length ≤ 6 ∧ ∀ t ∈ f.Tags, t.Key.length ≤ 6 ∧ t.Val.length ≤ 6 := by
 have hb := (feat_small h).2
 unfold featOk at h
 simp only [Bool.and_eq_true, decide_eq_true_eq] at h
 obtain ⟨⟨⟨h1, h2⟩, h3⟩, h4⟩ := h
 refine ⟨h2, h4, ?_, hb, fun t hm => ?_⟩
 ·unfold shapeOk kindOk at h4
  simp only [Bool.and_eq_true] at h4
  have := h4.2
  split at this
  ·simp only [decide_eq_true_eq] at this; omega
  ·split at this
   ·simp only [Bool.and_eq_true, decide_eq_true_eq] at this; omega
   ·split at this
    ·simp only [Bool.and_eq_true, decide_eq_true_eq] at this; omega
    ·cases this
 ·unfold tagsOk at h1
  obtain ⟨k, hk, rfl⟩ := List.getElem_of_mem hm
  have := allN_iff.1 h1 k hk
  rw [nth_nat _ hk] at this
  simp only [Bool.and_eq_true] at this
  exact ⟨word_len this.1.1, word_len this.1.2⟩
theorem shape_pts {s : Shape} (h : shapeOk s = true) : s.Pts.length ≤ 6 := by
 unfold shapeOk kindOk at h
 simp only [Bool.and_eq_true] at h
 have := h.2
 split at this
 ·simp only [decide_eq_true_eq] at this; omega
 ·split at this
  ·simp only [Bool.and_eq_true, decide_eq_true_eq] at this; omega
  ·split at this
   ·simp only [Bool.and_eq_true, decide_eq_true_eq] at this; omega
   ·cases this
def ptT (p : Pt) : Str := [32] ++ Lib.itoa p.X ++ [44] ++ Lib.itoa p.Y
def shT (s : Shape) : Str := nth shapeNamesL s.Kind ++ s.Pts.flatMap ptT
def tagT (t : Tag) : Str := [32] ++ t.Key ++ [61] ++ t.Val
def featT (f : Feat) : Str := if featOk f then f.Id ++ [32] ++ shT f.Shape ++ f.Tags.flatMap tagT else []
def sideT (has : Bool) (f : Feat) : Str := if has then featT f else [45]
def lineT (c : Change) : Str := c.Id ++ [58, 32] ++ sideT c.Had c.Was ++ [32, 62, 32] ++ sideT c.Has c.Now ++ [10]
def diffT (d : List Change) : Str := if diffOk d then d.flatMap lineT else []
theorem loop_text {α : Type} [Inhabited α] (l : List α) (g : α → Str) (t0 : Str) (m M : Nat) (hm : ∀ x ∈ l, (g x).length ≤ m) (hM : t0.length + l.length * m ≤ M)
  {B : (Str → Int → Prop) → (Str → Int → Nat) → Str → Int → Prop} {F : Str → Prop}
  (hs : ∀ (I : Str → Int → Prop) (mu : Str → Int → Nat) (k : Nat) (out : Str), k < l.length → nth l (k : Int) ∈ l → out.length ≤ M →
   (∀ X, X = out ++ g (nth l (k : Int)) → I X ((k : Int) + 1) ∧ mu X ((k : Int) + 1) < mu out (k : Int)) → B I mu out (k : Int))
  (hF : F (t0 ++ l.flatMap g)) :
  ∃ (I : Str → Int → Prop) (mu : Str → Int → Nat), I t0 0 ∧ ∀ (out : Str) (i : Int), I out i → (if decide (i < (l.length : Int)) then B I mu out i else F out) := by
 have len : ∀ k, k ≤ l.length → (t0 ++ (l.take k).flatMap g).length ≤ M := fun k hk => by
  have : ∀ n : List α, (∀ x ∈ n, (g x).length ≤ m) → (n.flatMap g).length ≤ n.length * m := fun n => by
   induction n with
   | nil => intro _; simp
   | cons a n ih =>
    intro h
    rw [List.flatMap_cons, List.length_append, List.length_cons, Nat.add_mul]
    have h1 := h a (List.mem_cons_self ..)
    have h2 := ih fun x hx => h x (List.mem_cons_of_mem _ hx)
    omega
  have h1 := this (l.take k) fun x hx => hm x (List.mem_of_mem_take hx)
  have h2 : (l.take k).length * m ≤ l.length * m := Nat.mul_le_mul_right _ (by rw [List.length_take]; omega)
  rw [List.length_append]; omega
 refine ⟨fun out i => ∃ k : Nat, i = k ∧ k ≤ l.length ∧ out = t0 ++ (l.take k).flatMap g, fun _ i => ((l.length : Int) - i).toNat, ⟨0, rfl, Nat.zero_le _, by simp⟩, ?_⟩
 rintro _ _ ⟨k, rfl, hk, rfl⟩
 by_cases h : (k : Int) < (l.length : Int)
 ·rw [if_pos (by simpa using h)]
  refine hs _ _ k _ OM (nth_mem l OM) (len k hk) fun X hX => ⟨⟨k + 1, OM, OM, ?_⟩, OM⟩
  rw [hX, take_nth l OM, List.flatMap_append, List.flatMap_cons, List.flatMap_nil, List.append_nil, List.append_assoc]
 ·rw [if_neg (by simpa using h)]
  have : k = l.length := by omega
  subst this
  rw [List.take_length]; exact hF
theorem flat_len {α : Type} (l : List α) (g : α → Str) (m : Nat) (hm : ∀ x ∈ l, (g x).length ≤ m) : (l.flatMap g).length ≤ l.length * m := by
 induction l with
 | nil => simp
 | cons a n ih =>
  rw [List.flatMap_cons, List.length_append, List.length_cons, Nat.add_mul]
  have h1 := hm a (List.mem_cons_self ..)
  have h2 := ih fun x hx => hm x (List.mem_cons_of_mem _ hx)
  omega
theorem shape_in {s : Shape} (h : shapeOk s = true) : (1 ≤ s.Kind ∧ s.Kind ≤ 3) ∧ s.Pts.length ≤ 6 ∧ ∀ p ∈ s.Pts, (-1000 ≤ p.X ∧ p.X ≤ 1000) ∧ -1000 ≤ p.Y ∧ p.Y ≤ 1000 := by
 have hp := shape_pts h
 unfold shapeOk at h
 rw [Bool.and_eq_true] at h
 refine ⟨?_, hp, fun p hm => ?_⟩
 ·have h2 := h.2
  unfold kindOk at h2
  by_cases k1 : s.Kind = 1
  ·omega
  ·rw [if_neg k1] at h2
   by_cases k2 : s.Kind = 2
   ·omega
   ·rw [if_neg k2] at h2
    by_cases k3 : s.Kind = 3
    ·omega
    ·rw [if_neg k3] at h2; cases h2
 ·obtain ⟨i, hi, rfl⟩ := List.mem_iff_getElem.1 hm
  have h1 := allN_iff.1 h.1 i hi
  rw [Bool.and_eq_true] at h1
  have h3 := h1.1
  have e : nth s.Pts (i : Int) = s.Pts[i] := by unfold nth; simp [hi]
  rw [e] at h3
  unfold ptOk inR at h3
  simp only [Bool.and_eq_true, decide_eq_true_eq] at h3
  omega
theorem ptT_len {p : Pt} (h : (-1000 ≤ p.X ∧ p.X ≤ 1000) ∧ -1000 ≤ p.Y ∧ p.Y ≤ 1000) : (ptT p).length ≤ 44 := by
 have h1 := itoa_len p.X OM OM
 have h2 := itoa_len p.Y OM OM
 unfold ptT
 simp only [List.length_append, List.length_cons, List.length_nil]; omega
theorem names_len : ∀ k : Int, (nth shapeNamesL k).length ≤ 4 := fun k => by
 by_cases h : 0 ≤ k ∧ k < 4
 ·have : k = 0 ∨ k = 1 ∨ k = 2 ∨ k = 3 := by omega
  rcases this with rfl | rfl | rfl | rfl <;> decide
 ·unfold nth
  by_cases h0 : k < 0
  ·have : k.toNat = 0 := by omega
   rw [this]; decide
  ·rw [show shapeNamesL.getD k.toNat default = default from by rw [List.getD_eq_getElem?_getD, List.getElem?_eq_none (by show 4 ≤ k.toNat; omega)]; rfl]; decide
theorem shT_len {s : Shape} (h : shapeOk s = true) : (shT s).length ≤ 268 := by
 obtain ⟨_, h2, h3⟩ := shape_in h
 have h4 := flat_len s.Pts ptT 44 fun p hp => ptT_len (h3 p hp)
 have h5 := names_len s.Kind
 unfold shT
 rw [List.length_append]; omega
theorem featT_len (f : Feat) : (featT f).length ≤ 400 := by
 unfold featT
 by_cases h : featOk f = true
 ·rw [if_pos h]
  obtain ⟨h1, h2, _, h4, h5⟩ := feat_facts h
  have h6 := shT_len h2
  have h7 := flat_len f.Tags tagT 14 fun t ht => by
   have := h5 t ht
   unfold tagT
   simp only [List.length_append, List.length_cons, List.length_nil]; omega
  simp only [List.length_append, List.length_cons, List.length_nil]; omega
 ·rw [if_neg h]; exact Nat.zero_le _
theorem sideT_len (b : Bool) (f : Feat) : (sideT b f).length ≤ 400 := by
 unfold sideT
 cases b
 ·exact (by decide : ([45] : Str).length ≤ 400)
 ·exact featT_len f
theorem lineT_len {c : Change} (h : c.Id.length ≤ 6) : (lineT c).length ≤ 812 := by
 have h1 := sideT_len c.Had c.Was
 have h2 := sideT_len c.Has c.Now
 unfold lineT
 simp only [List.length_append, List.length_cons, List.length_nil]; omega
section
def mkL {α : Type} (g : α → Int → α × Int) : List α → Int → List α × Int
 | [], k => ([], k)
 | x :: l, k => ((g x k).1 :: (mkL g l (g x k).2).1, (mkL g l (g x k).2).2)
section
variable {α : Type} {g : α → Int → α × Int}
theorem mkL_snoc (x : α) : ∀ (l : List α) (k : Int), mkL g (l ++ [x]) k = ((mkL g l k).1 ++ [(g x (mkL g l k).2).1], (g x (mkL g l k).2).2)
 | [], k => rfl
 | y :: l, k => by
  rw [List.cons_append, mkL, mkL_snoc x l]; rfl
theorem mkL_len : ∀ (l : List α) (k : Int), (mkL g l k).1.length = l.length
 | [], k => rfl
 | y :: l, k => by rw [mkL, List.length_cons, List.length_cons, mkL_len l]
theorem mkL_app : ∀ (l m : List α) (k : Int), mkL g (l ++ m) k = ((mkL g l k).1 ++ (mkL g m (mkL g l k).2).1, (mkL g m (mkL g l k).2).2)
 | [], m, k => rfl
 | y :: l, m, k => by rw [List.cons_append, mkL, mkL_app l]; rfl
variable [Inhabited α]
def Mk (g : α → Int → α × Int) (a : List α) (k : Int) (u : Nat) (xs : List α) (k' : Int) : Prop := u ≤ a.length ∧ xs = (mkL g (a.take u) k).1 ++ a.drop u ∧ k' = (mkL g (a.take u) k).2
variable {a xs : List α} {k k' : Int} {u : Nat}
theorem Mk.zero (a : List α) (k : Int) : Mk g a k 0 a k := ⟨Nat.zero_le _, by simp [mkL], by simp [mkL]⟩
theorem Mk.len (h : Mk g a k u xs k') : xs.length = a.length := by
 rw [h.2.1, List.length_append, mkL_len, List.length_take, List.length_drop]; have := h.1; omega
theorem Mk.nth (h : Mk g a k u xs k') (hu : u < a.length) : nth xs (u : Int) = Go.Proofs.YtlaaehjcooonfaaDoor.nth a (u : Int) := by
 rw [nth_nat xs (by rw [h.len]; exact hu), nth_nat a hu]
 have hl : (mkL g (a.take u) k).1.length = u := by rw [mkL_len, List.length_take]; omega
 have := h.2.1
 subst this
 rw [List.getElem_append_right OM]
 simp [hl]
def Hd (g : α → Int → α × Int) (a : List α) (k : Int) (u : Nat) (k' : Int) : Prop := u ≤ a.length ∧ k' = (mkL g (a.take u) k).2
theorem Hd.zero (a : List α) (k : Int) : Hd g a k 0 k := ⟨Nat.zero_le _, by simp [mkL]⟩
theorem Hd.nth (h : Hd g a k u k') (hu : u < a.length) : nth (mkL g a k).1 (u : Int) = (g (Go.Proofs.YtlaaehjcooonfaaDoor.nth a (u : Int)) k').1 := by
 have e : a = (a.take u ++ [Go.Proofs.YtlaaehjcooonfaaDoor.nth a (u : Int)]) ++ a.drop (u + 1) := by rw [← take_nth a hu, List.take_append_drop]
 have hl : (mkL g (a.take u) k).1.length = u := by rw [mkL_len, List.length_take]; omega
 rw [nth_nat _ (by rw [mkL_len]; exact hu)]
 have h1 : (mkL g a k).1[u]? = some (g (Go.Proofs.YtlaaehjcooonfaaDoor.nth a (u : Int)) k').1 := by
  conv => lhs; rw [e]
  rw [mkL_app, mkL_snoc]
  dsimp only
  rw [List.append_assoc, List.getElem?_append_right OM, hl, Nat.sub_self, h.2]; rfl
 rw [List.getElem?_eq_getElem (by rw [mkL_len]; exact hu)] at h1
 exact Option.some.inj h1
end
end
def CS (d : List Change) : Prop := d.Pairwise fun x y => Op.bytesLess x.Id y.Id = true
theorem diff_cs {d : List Change} (h : diffOk d = true) : CS d ∧ d.length ≤ 16 ∧ ∀ c ∈ d, changeOk c = true := by
 unfold diffOk at h
 simp only [Bool.and_eq_true, decide_eq_true_eq] at h
 obtain ⟨h1, h2⟩ := h
 have h1 := allN_iff.1 h1
 have hadj : ∀ k, 0 < k → k < d.length → Op.bytesLess (nth d ((k : Int) - 1)).Id (nth d (k : Int)).Id = true := fun k h0 hk => by
  have := h1 k hk
  simp only [Bool.and_eq_true, Bool.or_eq_true, decide_eq_true_eq] at this
  rcases this.2 with h | h
  ·omega
  ·exact h
 refine ⟨?_, h2, fun f hf => ?_⟩
 ·refine List.pairwise_iff_getElem.2 fun i j hi hj hij => ?_
  have key : ∀ q, i + q + 1 < d.length → Op.bytesLess d[i].Id (nth d ((i + q + 1 : Nat) : Int)).Id = true := by
   intro q
   induction q with
   | zero =>
    intro hd
    have := hadj (i + 0 + 1) OM hd
    rw [show (((i + 0 + 1 : Nat) : Int) - 1) = (i : Int) by omega, nth_nat d hi] at this
    exact this
   | succ q ih =>
    intro hd
    have := hadj (i + (q + 1) + 1) OM hd
    rw [show (((i + (q + 1) + 1 : Nat) : Int) - 1) = ((i + q + 1 : Nat) : Int) by omega] at this
    exact less_trans (ih OM) this
  have := key (j - i - 1) OM
  rw [show i + (j - i - 1) + 1 = j by omega, nth_nat d hj] at this
  exact this
 ·obtain ⟨k, hk, rfl⟩ := List.getElem_of_mem hf
  have := h1 k hk
  rw [nth_nat d hk] at this
  simp only [Bool.and_eq_true] at this
  exact this.1
theorem CS.inj {d : List Change} (h : CS d) {x y : Change} (hx : x ∈ d) (hy : y ∈ d) (e : x.Id = y.Id) : x = y := by
 obtain ⟨i, hi, rfl⟩ := List.getElem_of_mem hx
 obtain ⟨j, hj, rfl⟩ := List.getElem_of_mem hy
 rcases Nat.lt_trichotomy i j with g | g | g
 ·have := List.pairwise_iff_getElem.1 h i j hi hj g
  rw [e, less_irr] at this; cases this
 ·subst g; rfl
 ·have := List.pairwise_iff_getElem.1 h j i hj hi g
  rw [e, less_irr] at this; cases this
theorem F52.law (f : Feat) (Q : Bool → Prop) (hq : Q (noF f)) : F52.E f Q := by
 unfold F52.E
 obtain ⟨i, ⟨k, p⟩, t⟩ := f
 unfold noF at hq
 dsimp only
 have e : decide ((⟨i, ⟨k, p⟩, t⟩ : Feat) = ⟨[], ⟨0, []⟩, []⟩) = (decide (i = []) && decide (k = 0) && decide (p = []) && decide (t = [])) := by
  rw [Bool.eq_iff_iff]; simp [and_assoc]
 rw [e] at hq
 cases h1 : decide (i = []) with
 | false => rw [h1] at hq; rw [if_neg (by rw [beq_iff_eq]; exact of_decide_eq_false h1)]; exact hq
 | true =>
  rw [if_pos (by rw [beq_iff_eq]; exact of_decide_eq_true h1)]
  cases h2 : decide (k = 0) with
  | false => rw [h1, h2] at hq; rw [if_neg (by rw [beq_iff_eq]; exact of_decide_eq_false h2)]; exact hq
  | true =>
   rw [if_pos (by rw [beq_iff_eq]; exact of_decide_eq_true h2)]
   cases h3 : decide (p = []) with
   | false => rw [h1, h2, h3] at hq; rw [if_neg (by rw [beq_iff_eq]; have := of_decide_eq_false h3; intro e; exact this (List.length_eq_zero_iff.1 OM))]; exact hq
   | true =>
    rw [if_pos (by rw [beq_iff_eq, of_decide_eq_true h3]; rfl)]
    rw [h1, h2, h3] at hq
    have : ((t.length : Int) == 0) = decide (t = []) := by
     rw [Bool.eq_iff_iff, beq_iff_eq, decide_eq_true_eq]
     exact ⟨fun e => List.length_eq_zero_iff.1 OM, fun e => by rw [e]; rfl⟩
    rw [this]; exact hq
theorem F50.law (n lo hi : Int) (Q : Bool → Prop) (hq : Q (decide (lo ≤ n) && decide (n ≤ hi))) : F50.E n lo hi Q := by
 unfold F50.E
 by_cases h : lo ≤ n
 ·rw [if_pos (by simpa using h)]; rw [decide_eq_true h, Bool.true_and] at hq; exact hq
 ·rw [if_neg (by simpa using h)]; rw [decide_eq_false h, Bool.false_and] at hq; exact hq
theorem F50.m_is (n lo hi : Int) : F50.m n lo hi = (decide (lo ≤ n) && decide (n ≤ hi)) := by
 unfold F50.m
 by_cases h : lo ≤ n
 ·rw [if_pos (by simpa using h), decide_eq_true h, Bool.true_and]
 ·rw [if_neg (by simpa using h), decide_eq_false h, Bool.false_and]
theorem F51.law (s : Str) (Q : Bool → Prop) (hl : s.length ≤ 1048576) (hq : Q (wordOk s)) : F51.E s Q := by
 unfold F51.E
 unfold wordOk at hq
 refine loop_all s.length (fun k => byteOk (nth s (k : Int))) (fun I mu k hk hp hn => ?_) (fun ha => ?_)
 ·refine ⟨OM, ?_⟩
  cases h1 : decide (((nth s (k : Int)).toNat : Int) < 97) with
  | true => rw [if_pos rfl]; rw [allN_false hk (by simp only [byteOk, h1]; rfl), Bool.false_and] at hq; exact hq
  | false =>
   rw [if_neg RD]
   refine ⟨OM, ?_⟩
   cases h2 : decide (((nth s (k : Int)).toNat : Int) > 122) with
   | true => rw [if_pos rfl]; rw [allN_false hk (by simp only [byteOk, h1, h2]; rfl), Bool.false_and] at hq; exact hq
   | false =>
    rw [if_neg RD]
    obtain ⟨i1, i2⟩ := hn (by simp only [byteOk, h1, h2]; rfl)
    exact ⟨by unfold I64; omega, i1, i2⟩
 ·rw [allN_true ha, Bool.true_and] at hq
  refine F50.law _ _ _ _ ?_
  have e1 : decide ((1 : Int) ≤ (s.length : Int)) = decide (1 ≤ s.length) := decide_eq_decide.2 OM
  have e2 : decide ((s.length : Int) ≤ 6) = decide (s.length ≤ 6) := decide_eq_decide.2 OM
  rw [e1, e2]; exact hq
theorem F85.law (p : Pt) (Q : Bool → Prop) (hq : Q (ptOk p)) : F85.E p Q := by
 unfold F85.E
 unfold ptOk at hq
 refine F50.law _ _ _ _ ?_
 change if inR p.X = true then _ else _
 cases h : inR p.X with
 | true => rw [if_pos rfl]; rw [h, Bool.true_and] at hq; exact F50.law _ _ _ _ hq
 | false => rw [if_neg RD]; rw [h, Bool.false_and] at hq; exact hq
theorem F30.law (s : Shape) (Q : Bool → Prop) (hl : s.Pts.length ≤ 1048576) (hq : Q (shapeOk s)) : F30.E s Q := by
 unfold F30.E
 unfold shapeOk ptsOk at hq
 refine loop_all s.Pts.length (fun k => ptOk (nth s.Pts (k : Int)) && (decide (k = 0) || !(decide (nth s.Pts ((k : Int) - 1) = nth s.Pts (k : Int))))) (fun I mu k hk hp hn => ?_) (fun ha => ?_)
 ·refine ⟨OM, _, F85.law _ _ rfl, ?_⟩
  have bad : (ptOk (nth s.Pts (k : Int)) && (decide (k = 0) || !(decide (nth s.Pts ((k : Int) - 1) = nth s.Pts (k : Int))))) = false → Q false := fun h => by
   rw [allN_false hk h, Bool.false_and] at hq; exact hq
  cases h1 : ptOk (nth s.Pts (k : Int)) with
  | false => rw [if_pos RD]; exact bad (by rw [h1]; rfl)
  | true =>
   rw [if_neg RD]
   by_cases hk0 : k = 0
   ·rw [if_neg (by rw [decide_eq_true_eq]; omega)]
    obtain ⟨i1, i2⟩ := hn (by rw [h1, decide_eq_true hk0]; rfl)
    exact ⟨by unfold I64; omega, i1, i2⟩
   ·rw [if_pos (by rw [decide_eq_true_eq]; omega)]
    refine ⟨by unfold I64; omega, OM, ?_⟩
    rw [eqPt_is]
    by_cases he : nth s.Pts ((k : Int) - 1) = nth s.Pts (k : Int)
    ·rw [if_pos (by rw [decide_eq_true_eq]; exact he)]
     exact bad (by rw [h1, decide_eq_false hk0, decide_eq_true he]; rfl)
    ·rw [if_neg (by rw [decide_eq_true_eq]; exact he)]
     obtain ⟨i1, i2⟩ := hn (by simp only [h1, decide_eq_false hk0, decide_eq_false he]; rfl)
     exact ⟨by unfold I64; omega, i1, i2⟩
 ·rw [allN_true ha, Bool.true_and] at hq
  unfold kindOk at hq
  by_cases k1 : s.Kind = 1
  ·rw [if_pos k1] at hq
   rw [if_pos (by rw [beq_iff_eq]; exact k1)]
   have : ((s.Pts.length : Int) == 1) = decide (s.Pts.length = 1) := by rw [Bool.eq_iff_iff, beq_iff_eq, decide_eq_true_eq]; omega
   rw [this]; exact hq
  rw [if_neg k1] at hq
  rw [if_neg (by rw [beq_iff_eq]; exact k1)]
  have e2 : decide ((2 : Int) ≤ (s.Pts.length : Int)) = decide (2 ≤ s.Pts.length) := decide_eq_decide.2 OM
  have e3 : decide ((3 : Int) ≤ (s.Pts.length : Int)) = decide (3 ≤ s.Pts.length) := decide_eq_decide.2 OM
  have e6 : decide ((s.Pts.length : Int) ≤ 6) = decide (s.Pts.length ≤ 6) := decide_eq_decide.2 OM
  by_cases k2 : s.Kind = 2
  ·rw [if_pos k2] at hq
   rw [if_pos (by rw [beq_iff_eq]; exact k2)]
   refine F50.law _ _ _ _ ?_
   rw [e2, e6]; exact hq
  rw [if_neg k2] at hq
  rw [if_neg (by rw [beq_iff_eq]; exact k2)]
  by_cases k3 : s.Kind = 3
  ·rw [if_pos k3] at hq
   rw [if_pos (by rw [beq_iff_eq]; exact k3), F50.m_is, e3, e6]
   cases hc : decide (3 ≤ s.Pts.length) && decide (s.Pts.length ≤ 6) with
   | true =>
    rw [hc, Bool.true_and] at hq
    rw [Bool.and_eq_true, decide_eq_true_eq, decide_eq_true_eq] at hc
    rw [if_pos rfl, eqPt_is]
    exact ⟨OM, fun _ => by unfold I64; omega, OM, hq⟩
   | false =>
    rw [hc, Bool.false_and] at hq
    rw [if_neg RD]; exact hq
  ·rw [if_neg k3] at hq
   rw [if_neg (by rw [beq_iff_eq]; exact k3)]; exact hq
theorem F53.law (f : Feat) (Q : Bool → Prop) (hb : bulk f ≤ 1048576) (hq : Q (featOk f)) : F53.E f Q := by
 unfold F53.E
 unfold featOk at hq
 have b1 : bulk f = bulk f.Id + bulk f.Shape + bulk f.Tags := rfl
 have b2 : bulk f.Shape = bulk f.Shape.Kind + bulk f.Shape.Pts := rfl
 have l1 := bulk_len f.Tags; have l2 := bulk_len f.Shape.Pts; have l3 := bulk_len f.Id
 have core : (tagsOk f.Tags = true → F51.E f.Id (fun r3 => (if r3 then F30.E f.Shape (fun r4 => (if r4 then Q (decide ((f.Tags.length : Int) ≤ 4)) else Q false)) else Q false))) := fun ha => by
  rw [ha, Bool.true_and] at hq
  refine F51.law _ _ OM ?_
  cases h1 : wordOk f.Id with
  | false => rw [h1, Bool.and_false, Bool.false_and] at hq; rw [if_neg RD]; exact hq
  | true =>
   rw [h1, Bool.and_true] at hq
   rw [if_pos rfl]
   refine F30.law _ _ OM ?_
   cases h2 : shapeOk f.Shape with
   | false => rw [h2, Bool.and_false] at hq; rw [if_neg RD]; exact hq
   | true =>
    rw [h2, Bool.and_true] at hq; rw [if_pos rfl]
    have e2 : decide ((f.Tags.length : Int) ≤ 4) = decide (f.Tags.length ≤ 4) := decide_eq_decide.2 OM
    rw [e2]; exact hq
 have bad : tagsOk f.Tags = false → Q false := fun h => by
  rw [h, Bool.false_and, Bool.false_and, Bool.false_and] at hq; exact hq
 unfold tagsOk at core bad
 refine loop_all f.Tags.length (fun k => wordOk (nth f.Tags (k : Int)).Key && wordOk (nth f.Tags (k : Int)).Val && (decide (k = 0) || Op.bytesLess (nth f.Tags ((k : Int) - 1)).Key (nth f.Tags (k : Int)).Key)) (fun I mu k hk hp hn => ?_) (fun ha => core (allN_true ha))
 have bad := fun h => bad (allN_false hk h)
 have m1 := bulk_mem (nth_mem f.Tags hk)
 have m2 : bulk (nth f.Tags (k : Int)) = bulk (nth f.Tags (k : Int)).Key + bulk (nth f.Tags (k : Int)).Val := rfl
 have m3 := bulk_len (nth f.Tags (k : Int)).Key; have m4 := bulk_len (nth f.Tags (k : Int)).Val
 refine ⟨OM, _, F51.law _ _ OM rfl, ?_⟩
 cases h1 : wordOk (nth f.Tags (k : Int)).Key with
 | false => rw [if_pos RD]; exact bad (by rw [h1]; rfl)
 | true =>
  rw [if_neg RD]
  refine ⟨_, F51.law _ _ OM rfl, ?_⟩
  cases h2 : wordOk (nth f.Tags (k : Int)).Val with
  | false => rw [if_pos RD]; exact bad (by rw [h2, Bool.and_false]; rfl)
  | true =>
   rw [if_neg RD]
   by_cases hk0 : k = 0
   ·rw [if_neg (by rw [decide_eq_true_eq]; omega)]
    obtain ⟨i1, i2⟩ := hn (by rw [h1, h2, decide_eq_true hk0]; rfl)
    exact ⟨by unfold I64; omega, i1, i2⟩
   ·rw [if_pos (by rw [decide_eq_true_eq]; omega)]
    refine ⟨by unfold I64; omega, OM, ?_⟩
    cases h3 : Op.bytesLess (nth f.Tags ((k : Int) - 1)).Key (nth f.Tags (k : Int)).Key with
    | false => rw [if_pos RD]; exact bad (by rw [h3, h1, h2, decide_eq_false hk0]; rfl)
    | true =>
     rw [if_neg RD]
     obtain ⟨i1, i2⟩ := hn (by rw [h3, h1, h2, decide_eq_false hk0]; rfl)
     exact ⟨by unfold I64; omega, i1, i2⟩
theorem F54.law (id : Str) (has : Bool) (f : Feat) (Q : Bool → Prop) (hb : bulk f ≤ 1048576) (hq : Q (sideOk id has f)) : F54.E id has f Q := by
 unfold F54.E
 unfold sideOk at hq
 cases has with
 | false => rw [if_pos RD]; rw [if_neg RD] at hq; exact F52.law _ _ hq
 | true =>
  rw [if_neg RD]; rw [if_pos rfl] at hq
  refine F53.law _ _ hb ?_
  cases h : featOk f with
  | false => rw [h] at hq; rw [if_neg RD]; exact hq
  | true =>
   rw [h, Bool.true_and] at hq; rw [if_pos rfl]
   have : (f.Id == id) = decide (f.Id = id) := by rw [Bool.eq_iff_iff, beq_iff_eq, decide_eq_true_eq]
   rw [this]; exact hq
theorem F1.law (a b : List Tag) (Q : Bool → Prop) (hb : a.length ≤ 1048576) (hq : Q (decide (a = b))) : F1.E a b Q := by
 unfold F1.E
 exact eqI_shape eqTag eqTag_is a b Q hb hq
theorem F4.law (a b : List Pt) (Q : Bool → Prop) (hb : a.length ≤ 1048576) (hq : Q (decide (a = b))) : F4.E a b Q := by
 unfold F4.E
 exact eqI_shape eqPt eqPt_is a b Q hb hq
theorem F14.law (a b : Shape) (Q : Bool → Prop) (hl : a.Pts.length ≤ 1048576) (hq : Q (decide (a = b))) : F14.E a b Q := by
 unfold F14.E
 by_cases h : a.Kind = b.Kind
 ·rw [if_pos (by rw [beq_iff_eq]; exact h)]
  refine F4.law _ _ _ OM ?_
  have : decide (a.Pts = b.Pts) = decide (a = b) := decide_eq_decide.2 (by rw [Shape.ext_iff']; exact ⟨fun e => ⟨h, e⟩, fun e => e.2⟩)
  rw [this]; exact hq
 ·rw [if_neg (by rw [beq_iff_eq]; exact h)]
  rw [decide_eq_false (by rw [Shape.ext_iff']; exact fun e => h e.1)] at hq; exact hq
theorem F22.law (a b : Feat) (Q : Bool → Prop) (hl : a.Shape.Pts.length ≤ 1048576 ∧ a.Tags.length ≤ 1048576) (hq : Q (decide (a = b))) : F22.E a b Q := by
 unfold F22.E
 by_cases h : a.Id = b.Id
 ·rw [if_pos (by rw [beq_iff_eq]; exact h)]
  refine F14.law _ _ _ OM ?_
  by_cases h2 : a.Shape = b.Shape
  ·rw [decide_eq_true h2, if_pos rfl]
   refine F1.law _ _ _ OM ?_
   have : decide (a.Tags = b.Tags) = decide (a = b) := decide_eq_decide.2 (by rw [Feat.ext_iff']; exact ⟨fun e => ⟨h, h2, e⟩, fun e => e.2.2⟩)
   rw [this]; exact hq
  ·rw [decide_eq_false h2, if_neg RD]
   rw [decide_eq_false (by rw [Feat.ext_iff']; exact fun e => h2 e.2.1)] at hq; exact hq
 ·rw [if_neg (by rw [beq_iff_eq]; exact h)]
  rw [decide_eq_false (by rw [Feat.ext_iff']; exact fun e => h e.1)] at hq; exact hq
theorem F2.law (c : Change) (Q : Bool → Prop) (hb : bulk c ≤ 1048576) (hq : Q (sameC c)) : F2.E c Q := by
 unfold F2.E
 unfold sameC at hq
 have b1 : bulk c = bulk c.Id + bulk c.Had + bulk c.Was + bulk c.Has + bulk c.Now := rfl
 have b2 : bulk c.Was = bulk c.Was.Id + bulk c.Was.Shape + bulk c.Was.Tags := rfl
 have b3 : bulk c.Was.Shape = bulk c.Was.Shape.Kind + bulk c.Was.Shape.Pts := rfl
 have l1 := bulk_len c.Was.Tags; have l2 := bulk_len c.Was.Shape.Pts
 by_cases h : c.Had = c.Has
 ·rw [if_pos (by rw [beq_iff_eq]; exact h)]
  rw [decide_eq_true h, Bool.true_and] at hq
  exact F22.law _ _ _ OM hq
 ·rw [if_neg (by rw [beq_iff_eq]; exact h)]
  rw [decide_eq_false h] at hq; exact hq
theorem F55.law (d : List Change) (Q : Bool → Prop) (hb : bulk d ≤ 1048576) (hq : Q (diffOk d)) : F55.E d Q := by
 unfold F55.E
 unfold diffOk at hq
 have hl := bulk_len d
 refine loop_all d.length (fun k => changeOk (nth d (k : Int)) && (decide (k = 0) || Op.bytesLess (nth d ((k : Int) - 1)).Id (nth d (k : Int)).Id)) (fun I mu k hk hp hn => ?_) (fun ha => ?_)
 ·have bad : (changeOk (nth d (k : Int)) && (decide (k = 0) || Op.bytesLess (nth d ((k : Int) - 1)).Id (nth d (k : Int)).Id)) = false → Q false := fun h => by
   rw [allN_false hk h, Bool.false_and] at hq; exact hq
  have m1 := bulk_mem (nth_mem d hk)
  have b1 : bulk (nth d (k : Int)) = bulk (nth d (k : Int)).Id + bulk (nth d (k : Int)).Had + bulk (nth d (k : Int)).Was + bulk (nth d (k : Int)).Has + bulk (nth d (k : Int)).Now := rfl
  have l1 := bulk_len (nth d (k : Int)).Id
  generalize hc : nth d (k : Int) = c at *
  refine ⟨OM, _, F51.law _ _ OM rfl, ?_⟩
  have co : ∀ a b e g : Bool, wordOk c.Id = a → sideOk c.Id c.Had c.Was = b → sideOk c.Id c.Has c.Now = e → sameC c = g → changeOk c = (a && b && e && !g) := fun a b e g h1 h2 h3 h4 => by unfold changeOk; rw [h1, h2, h3, h4]
  have rest : wordOk c.Id = true → (decide (k = 0) || Op.bytesLess (nth d ((k : Int) - 1)).Id c.Id) = true →
    (∃ q : Bool, F54.E c.Id c.Had c.Was (fun x => x = q) ∧ (if !q then Q false else (∃ q2 : Bool, F54.E c.Id c.Has c.Now (fun x => x = q2) ∧ (if !q2 then Q false else (∃ q3 : Bool, F2.E c (fun x => x = q3) ∧ (if q3 then Q false else (I64 ((k : Int) + 1)) ∧ I ((k : Int) + 1) ∧ mu ((k : Int) + 1) < mu (k : Int))))))) := fun h1 ho => by
   refine ⟨_, F54.law _ _ _ _ OM rfl, ?_⟩
   cases h2 : sideOk c.Id c.Had c.Was with
   | false => rw [if_pos RD]; exact bad (by rw [co _ _ _ _ h1 h2 rfl rfl]; rfl)
   | true =>
    rw [if_neg RD]
    refine ⟨_, F54.law _ _ _ _ OM rfl, ?_⟩
    cases h3 : sideOk c.Id c.Has c.Now with
    | false => rw [if_pos RD]; exact bad (by rw [co _ _ _ _ h1 h2 h3 rfl]; rfl)
    | true =>
     rw [if_neg RD]
     refine ⟨_, F2.law _ _ OM rfl, ?_⟩
     cases h4 : sameC c with
     | true => rw [if_pos rfl]; exact bad (by rw [co _ _ _ _ h1 h2 h3 h4]; rfl)
     | false =>
      rw [if_neg RD]
      obtain ⟨i1, i2⟩ := hn (by rw [co _ _ _ _ h1 h2 h3 h4, ho]; rfl)
      exact ⟨by unfold I64; omega, i1, i2⟩
  cases h1 : wordOk c.Id with
  | false => rw [if_pos RD]; exact bad (by rw [co _ _ _ _ h1 rfl rfl rfl]; rfl)
  | true =>
   rw [if_neg RD]
   by_cases hk0 : k = 0
   ·rw [if_neg (by rw [decide_eq_true_eq]; omega)]
    exact rest h1 (by rw [decide_eq_true hk0]; rfl)
   ·rw [if_pos (by rw [decide_eq_true_eq]; omega)]
    refine ⟨by unfold I64; omega, OM, ?_⟩
    cases h3 : Op.bytesLess (nth d ((k : Int) - 1)).Id c.Id with
    | false => rw [if_pos RD]; exact bad (by rw [h3, decide_eq_false hk0]; simp)
    | true => rw [if_neg RD]; exact rest h1 (by rw [h3, Bool.or_true])
 ·rw [allN_true ha, Bool.true_and] at hq
  have e2 : decide ((d.length : Int) ≤ 16) = decide (d.length ≤ 16) := decide_eq_decide.2 OM
  rw [e2]; exact hq
theorem F5.law (s : Shape) (h : shapeOk s = true) (Q : Str → Prop) (hq : Q (shT s)) : F5.E s Q := by
 obtain ⟨h1, h2, h3⟩ := shape_in h
 have h0 := names_len s.Kind
 unfold F5.E
 refine ⟨⟨OM, by show s.Kind < 4; omega⟩, loop_text s.Pts ptT _ 44 300 (fun p hp => ptT_len (h3 p hp)) OM (fun I mu k out hk hm ho hn => ?_) hq⟩
 have hp := h3 _ hm
 have l1 := itoa_len (nth s.Pts (k : Int)).X OM OM
 have l2 := itoa_len (nth s.Pts (k : Int)).Y OM OM
 obtain ⟨i1, i2⟩ := hn (out ++ (((([32] : Str) ++ Lib.itoa (nth s.Pts (k : Int)).X) ++ ([44] : Str)) ++ Lib.itoa (nth s.Pts (k : Int)).Y)) rfl
 refine ⟨OM, _, ⟨⟨OM, OM⟩, rfl⟩, by unfold Lim; omega, ?_, ?_, _, ⟨⟨OM, OM⟩, rfl⟩, by unfold Lim; omega, ?_, ?_, by unfold I64; omega, i1, i2⟩
 all_goals (simp only [List.length_append, List.length_cons, List.length_nil]; omega)
end Go.Proofs.YtlaaehjcooonfaaDoor