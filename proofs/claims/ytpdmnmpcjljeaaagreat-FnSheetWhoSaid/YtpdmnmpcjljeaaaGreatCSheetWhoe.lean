/- It is proved here that the law FnSheetWho of the given program holds whatever it is handed: the walks through the code, the plain laws and the row, in this order.
   Conditions: none. -/
import Derived.Below
import Derived.ChangeArms
import Derived.ChangeOld
import Derived.ChangeSlices
import Derived.DataReads
import Derived.Deep.Quiet
import Derived.KernelRfl
import Derived.Laws.Build
import Derived.Laws.IdiomStrings
import Derived.Laws.OwnMore
import Derived.Laws.Slices
import Derived.Laws.Strings2
import Derived.Laws.StructEq
import Derived.OpenShut
import Derived.ProofKit
import Derived.Shelf.Slices.Cells
import Derived.Shelf.Slices.CompactS
import Derived.Shelf.Slices.In.SortNone
import Derived.Shelf.Small.Bits
import Derived.Shelf.Sort.Plain
import Derived.Shelf.Strconv.Itoa0
import Derived.ShutString
import Derived.SizedLaws
import Derived.StillTail
import Derived.Test.YtpdmnmpcjljeaaaGreatProg
import Derived.Test.YtpdmnmpcjljeaaaGreatRows
import Derived.WalkKit
import Derived.Test.YtpdmnmpcjljeaaaGreatCSheetWhoa
import Derived.Test.YtpdmnmpcjljeaaaGreatCSheetWhob
import Derived.Test.YtpdmnmpcjljeaaaGreatCSheetWhoc
import Derived.Test.YtpdmnmpcjljeaaaGreatCSheetWhod
namespace Go.Proofs.YtpdmnmpcjljeaaaGreat
set_option linter.unusedVariables false
set_option linter.unusedSimpArgs false
set_option linter.unusedSectionVars false
set_option maxHeartbeats 8000000
set_option maxRecDepth 100000
section
open Go.RowKit
def F118.E (o : List Tag) (a : List Tag) (b : List Tag) (key : Str) (Q : Str → Bool → Bool → Prop) : Prop :=
 F117.E o key (fun r r2 => F117.E a key (fun r3 r4 => F117.E b key (fun r5 r6 => (if r3 == r then (if r4 == r2 then Q r5 r6 true else (if r5 == r then (if r6 == r2 then Q r3 r4 true else (if r3 == r5 then (if r4 == r6 then Q r3 r4 true else (if r4 then Q r3 true false else Q r5 true false)) else (if r4 then Q r3 true false else Q r5 true false))) else (if r3 == r5 then (if r4 == r6 then Q r3 r4 true else (if r4 then Q r3 true false else Q r5 true false)) else (if r4 then Q r3 true false else Q r5 true false)))) else (if r5 == r then (if r6 == r2 then Q r3 r4 true else (if r3 == r5 then (if r4 == r6 then Q r3 r4 true else (if r4 then Q r3 true false else Q r5 true false)) else (if r4 then Q r3 true false else Q r5 true false))) else (if r3 == r5 then (if r4 == r6 then Q r3 r4 true else (if r4 then Q r3 true false else Q r5 true false)) else (if r4 then Q r3 true false else Q r5 true false)))))))
theorem F118.calls {O : Ob} (w0 : World) (hO : Ok w0 O) (o : List Tag) (A1 : Option Addr) (n2 c3 : Nat) (hp4 : Sl kTag w0 (Fr O) (G A1 n2 c3) o) (a : List Tag) (A6 : Option Addr) (n7 c8 : Nat) (hp9 : Sl kTag w0 (Fr O) (G A6 n7 c8) a) (b : List Tag) (am : Option Addr) (an ao : Nat) (a7 : Sl kTag w0 (Fr O) (G am an ao) b) (key : Str) (ap : Lim key) (Q : Str → Bool → Bool → Prop) (h : F118.E o a b key Q) :
  Ret Tryz.prog 110 [G A1 n2 c3, G A6 n7 c8, G am an ao, vs key] w0 (fun v w' => ∃ (r0 : Str) (r1 : Bool) (r2 : Bool), v = .tuple #[vs r0, vb r1, vb r2] ∧ Q r0 r1 r2 ∧ Gr w0 w' none ∧ Lim r0) := by
 unfold F118.E at h;have H := h;clear h;have hc0 := Ct.init hO;refine X9 Tryz.func110 Z 71 Z [.tmp 8, .tmp 9, .tmp 10] Z Z ?_;refine Xd (Xe (Xf (vs ([] : Str)) Z (Xf (vb false) Z (Xf (vb false) Z (Xb (Xd (Xe (Xc (G A1 n2 c3) Z ?_))))))));refine Xc (vs key) Z ?_;refine Xo go146 [G A1 n2 c3, vs key] Z ((F117.calls w0 hc0.ok o A1 n2 c3 hp4 key ap _ H).mono ?_);rintro _ a8 ⟨r, r2, rfl, H, a9, bd⟩;have aq := hc0.k0 a9;refine Xc (.tuple #[vs r, vb r2]) Z (Xa (Yg [vs r, vb r2] 0 (vs r) Z Z) (Xa (Yg [vs r, vb r2] 1 (vb r2) Z Z) (Xf (vs r) Z (Xf (vb r2) Z (Xb (Xd (Xe (Xc (G A6 n7 c8) Z ?_))))))));refine Xc (vs key) Z ?_;refine Xo go146 [G A6 n7 c8, vs key] Z ((F117.calls a8 aq.ok a A6 n7 c8 (hp9.st aq.st) key ap _ H).mono ?_);rintro _ ba ⟨r3, r4, rfl, H, bb, ad⟩;have ar := aq.k0 bb;refine Xc (.tuple #[vs r3, vb r4]) Z (Xa (Yg [vs r3, vb r4] 0 (vs r3) Z Z) (Xa (Yg [vs r3, vb r4] 1 (vb r4) Z Z) (Xf (vs r3) Z (Xf (vb r4) Z (Xb (Xd (Xe (Xc (G am an ao) Z ?_))))))));refine Xc (vs key) Z ?_;refine Xo go146 [G am an ao, vs key] Z ((F117.calls ba ar.ok b am an ao (a7.st ar.st) key ap _ H).mono ?_);rintro _ be ⟨r5, r6, rfl, H, bc, al⟩;have aa := ar.k0 bc;refine Xc (.tuple #[vs r5, vb r6]) Z (Xa (Yg [vs r5, vb r6] 0 (vs r5) Z Z) (Xa (Yg [vs r5, vb r6] 1 (vb r6) Z Z) (Xf (vs r5) Z (Xf (vb r6) Z (Xb (Xd (X4 (Xd ?_))))))));refine Xe (Xc (vs r3) Z (Xc (vs r) Z (Xa (Yz r3 r (r3 == r) Z Z Z) (Xc (vb (r3 == r)) Z ?_))));rcases X8 (r3 == r) with ae | ae
 ·have H := Xh H ae;refine Xk ae Z (Xc (vb r4) Z (Xk ae Z (Xc (vb r2) Z (Xk ae Z (Xa (Y7 u4_ r4 r2 (r4 == r2) Z Z Z) (Xa (Xq true (vb (r4 == r2)) ae Z) (Xf (vb (r4 == r2)) Z (Xb ?_))))))));refine Xr (r4 == r2) Z (fun au => ?_) (fun au => ?_)
  ·have H := Xh H au;refine Xd (Xe (Xc (vs r5) Z (Xc (vb r6) Z (Xf (vs r5) Z (Xf (vb r6) Z (Xf (vb true) Z (Xb (Xm ?_))))))));exact ⟨[vs r5, vb r6, vb true], ⟨_, Z, ⟨_, Z, ⟨_, Z, Z⟩⟩⟩, r5, r6, true, Z, H, aa.gr.g0, al⟩
  have H := Xi H au;refine Xd (Xe (Xc (vs r5) Z (Xc (vs r) Z (Xa (Yz r5 r (r5 == r) Z Z Z) (Xc (vb (r5 == r)) Z ?_)))));rcases X8 (r5 == r) with af | af
  ·have H := Xh H af;refine Xk af Z (Xc (vb r6) Z (Xk af Z (Xc (vb r2) Z (Xk af Z (Xa (Y7 u4_ r6 r2 (r6 == r2) Z Z Z) (Xa (Xq true (vb (r6 == r2)) af Z) (Xc (vb (r6 == r2)) Z ?_)))))));rcases X8 (r6 == r2) with ab | ab
   ·have H := Xh H ab;refine Xl ab Z (Xl ab Z (Xl ab Z (Xl ab Z (Yu Z (Yu Z (Yu Z (Xl ab Z (Xa (Xq true (vb true) ab Z) ?_))))))));refine Xf (vb true) Z (Xb (Yt (b := true) Z Z ?_));refine Xd (Xe (Xc (vs r3) Z (Xc (vb r4) Z (Xf (vs r3) Z (Xf (vb r4) Z (Xf (vb true) Z (Xb (Xm ?_))))))));exact ⟨[vs r3, vb r4, vb true], ⟨_, Z, ⟨_, Z, ⟨_, Z, Z⟩⟩⟩, r3, r4, true, Z, H, aa.gr.g0, ad⟩
   have H := Xi H ab;refine Xk ab Z (Xc (vs r3) Z (Xk ab Z (Xc (vs r5) Z (Xk ab Z (Xa (Yz r3 r5 (r3 == r5) Z Z Z) (Xk ab Z (Xc (vb (r3 == r5)) Z ?_)))))));rcases X8 (r3 == r5) with ag | ag
   ·have H := Xh H ag;refine Xk ag Z (Xc (vb r4) Z (Xk ag Z (Xc (vb r6) Z (Xk ag Z (Xa (Y7 u4_ r4 r6 (r4 == r6) Z Z Z) (Xk ab Z (Xa (Xq true (vb (r4 == r6)) ag Z) (Xa (Xq false (vb (r4 == r6)) ab Z) ?_))))))));refine Xf (vb (r4 == r6)) Z (Xb ?_);refine Xr (r4 == r6) Z (fun av => ?_) (fun av => ?_)
    ·have H := Xh H av;refine Xd (Xe (Xc (vs r3) Z (Xc (vb r4) Z (Xf (vs r3) Z (Xf (vb r4) Z (Xf (vb true) Z (Xb (Xm ?_))))))));exact ⟨[vs r3, vb r4, vb true], ⟨_, Z, ⟨_, Z, ⟨_, Z, Z⟩⟩⟩, r3, r4, true, Z, H, aa.gr.g0, ad⟩
    have H := Xi H av;refine Xd (Xe (Xc (vb r4) Z (Xf (vb r4) Z (Xb ?_))));refine Xr r4 Z (fun aw => ?_) (fun aw => ?_)
    ·have H := Xh H aw;exact Xd (Xe (Xc (vs r3) Z (Xf (vs r3) Z (Xf (vb true) Z (Xf (vb false) Z (Xb (Xm ⟨[vs r3, vb true, vb false], ⟨_, Z, ⟨_, Z, ⟨_, Z, Z⟩⟩⟩, r3, true, false, Z, H, aa.gr.g0, ad⟩)))))))
    have H := Xi H aw;refine Xv (Xd (Xe (Xc (vs r5) Z (Xf (vs r5) Z (Xf (vb true) Z (Xf (vb false) Z (Xb (Xm ?_))))))));exact ⟨[vs r5, vb true, vb false], ⟨_, Z, ⟨_, Z, ⟨_, Z, Z⟩⟩⟩, r5, true, false, Z, H, aa.gr.g0, al⟩
   have H := Xi H ag;refine Xl ag Z (Xl ag Z (Xl ag Z (Xk ab Z (Xa (Xq false (vb false) ag Z) (Xa (Xq false (vb false) ab Z) (Xf (vb false) Z (Xb (Y4 (b := false) Z Z ?_))))))));refine Xd (Xe (Xc (vb r4) Z (Xf (vb r4) Z (Xb ?_))));refine Xr r4 Z (fun ax => ?_) (fun ax => ?_)
   ·have H := Xh H ax;exact Xd (Xe (Xc (vs r3) Z (Xf (vs r3) Z (Xf (vb true) Z (Xf (vb false) Z (Xb (Xm ⟨[vs r3, vb true, vb false], ⟨_, Z, ⟨_, Z, ⟨_, Z, Z⟩⟩⟩, r3, true, false, Z, H, aa.gr.g0, ad⟩)))))))
   have H := Xi H ax;refine Xv (Xd (Xe (Xc (vs r5) Z (Xf (vs r5) Z (Xf (vb true) Z (Xf (vb false) Z (Xb (Xm ?_))))))));exact ⟨[vs r5, vb true, vb false], ⟨_, Z, ⟨_, Z, ⟨_, Z, Z⟩⟩⟩, r5, true, false, Z, H, aa.gr.g0, al⟩
  have H := Xi H af;refine Xl af Z (Xl af Z (Xl af Z (Xa (Xq false (vb false) af Z) (Xc (vb false) Z (Yq (dj := 55) Z Z Z (Xc (vs r3) Z (Yq (dj := 55) Z Z Z (Xc (vs r5) Z ?_))))))));refine Yq (dj := 55) Z Z Z (Xa (Yz r3 r5 (r3 == r5) Z Z Z) (Yq (dj := 55) Z Z Z (Xc (vb (r3 == r5)) Z ?_)));rcases X8 (r3 == r5) with ah | ah
  ·have H := Xh H ah;refine Xk ah Z (Xc (vb r4) Z (Xk ah Z (Xc (vb r6) Z (Xk ah Z (Xa (Y7 u4_ r4 r6 (r4 == r6) Z Z Z) (Yq (dj := 55) Z Z Z (Xa (Xq true (vb (r4 == r6)) ah Z) (Xa (Xq false (vb (r4 == r6)) Z Z) ?_))))))));refine Xf (vb (r4 == r6)) Z (Xb ?_);refine Xr (r4 == r6) Z (fun ay => ?_) (fun ay => ?_)
   ·have H := Xh H ay;refine Xd (Xe (Xc (vs r3) Z (Xc (vb r4) Z (Xf (vs r3) Z (Xf (vb r4) Z (Xf (vb true) Z (Xb (Xm ?_))))))));exact ⟨[vs r3, vb r4, vb true], ⟨_, Z, ⟨_, Z, ⟨_, Z, Z⟩⟩⟩, r3, r4, true, Z, H, aa.gr.g0, ad⟩
   have H := Xi H ay;refine Xd (Xe (Xc (vb r4) Z (Xf (vb r4) Z (Xb ?_))));refine Xr r4 Z (fun az => ?_) (fun az => ?_)
   ·have H := Xh H az;exact Xd (Xe (Xc (vs r3) Z (Xf (vs r3) Z (Xf (vb true) Z (Xf (vb false) Z (Xb (Xm ⟨[vs r3, vb true, vb false], ⟨_, Z, ⟨_, Z, ⟨_, Z, Z⟩⟩⟩, r3, true, false, Z, H, aa.gr.g0, ad⟩)))))))
   have H := Xi H az;refine Xv (Xd (Xe (Xc (vs r5) Z (Xf (vs r5) Z (Xf (vb true) Z (Xf (vb false) Z (Xb (Xm ?_))))))));exact ⟨[vs r5, vb true, vb false], ⟨_, Z, ⟨_, Z, ⟨_, Z, Z⟩⟩⟩, r5, true, false, Z, H, aa.gr.g0, al⟩
  have H := Xi H ah;refine Xl ah Z (Xl ah Z (Xl ah Z (Yq (dj := 55) Z Z Z (Xa (Xq false (vb false) ah Z) (Xa (Xq false (vb false) Z Z) (Xf (vb false) Z (Xb (Y4 (b := false) Z Z ?_))))))));refine Xd (Xe (Xc (vb r4) Z (Xf (vb r4) Z (Xb ?_))));refine Xr r4 Z (fun a0 => ?_) (fun a0 => ?_)
  ·have H := Xh H a0;exact Xd (Xe (Xc (vs r3) Z (Xf (vs r3) Z (Xf (vb true) Z (Xf (vb false) Z (Xb (Xm ⟨[vs r3, vb true, vb false], ⟨_, Z, ⟨_, Z, ⟨_, Z, Z⟩⟩⟩, r3, true, false, Z, H, aa.gr.g0, ad⟩)))))))
  have H := Xi H a0;refine Xv (Xd (Xe (Xc (vs r5) Z (Xf (vs r5) Z (Xf (vb true) Z (Xf (vb false) Z (Xb (Xm ?_))))))));exact ⟨[vs r5, vb true, vb false], ⟨_, Z, ⟨_, Z, ⟨_, Z, Z⟩⟩⟩, r5, true, false, Z, H, aa.gr.g0, al⟩
 have H := Xi H ae;refine Xl ae Z (Xl ae Z (Xl ae Z (Xa (Xq false (vb false) ae Z) (Xf (vb false) Z (Xb (Y4 (b := false) Z Z ?_))))));refine Xd (Xe (Xc (vs r5) Z (Xc (vs r) Z (Xa (Yz r5 r (r5 == r) Z Z Z) (Xc (vb (r5 == r)) Z ?_)))));rcases X8 (r5 == r) with ai | ai
 ·have H := Xh H ai;refine Xk ai Z (Xc (vb r6) Z (Xk ai Z (Xc (vb r2) Z (Xk ai Z (Xa (Y7 u4_ r6 r2 (r6 == r2) Z Z Z) (Xa (Xq true (vb (r6 == r2)) ai Z) (Xc (vb (r6 == r2)) Z ?_)))))));rcases X8 (r6 == r2) with ac | ac
  ·have H := Xh H ac;refine Xl ac Z (Xl ac Z (Xl ac Z (Xl ac Z (Yu Z (Yu Z (Yu Z (Xl ac Z (Xa (Xq true (vb true) ac Z) ?_))))))));refine Xf (vb true) Z (Xb (Yt (b := true) Z Z ?_));refine Xd (Xe (Xc (vs r3) Z (Xc (vb r4) Z (Xf (vs r3) Z (Xf (vb r4) Z (Xf (vb true) Z (Xb (Xm ?_))))))));exact ⟨[vs r3, vb r4, vb true], ⟨_, Z, ⟨_, Z, ⟨_, Z, Z⟩⟩⟩, r3, r4, true, Z, H, aa.gr.g0, ad⟩
  have H := Xi H ac;refine Xk ac Z (Xc (vs r3) Z (Xk ac Z (Xc (vs r5) Z (Xk ac Z (Xa (Yz r3 r5 (r3 == r5) Z Z Z) (Xk ac Z (Xc (vb (r3 == r5)) Z ?_)))))));rcases X8 (r3 == r5) with aj | aj
  ·have H := Xh H aj;refine Xk aj Z (Xc (vb r4) Z (Xk aj Z (Xc (vb r6) Z (Xk aj Z (Xa (Y7 u4_ r4 r6 (r4 == r6) Z Z Z) (Xk ac Z (Xa (Xq true (vb (r4 == r6)) aj Z) (Xa (Xq false (vb (r4 == r6)) ac Z) ?_))))))));refine Xf (vb (r4 == r6)) Z (Xb ?_);refine Xr (r4 == r6) Z (fun a1 => ?_) (fun a1 => ?_)
   ·have H := Xh H a1;refine Xd (Xe (Xc (vs r3) Z (Xc (vb r4) Z (Xf (vs r3) Z (Xf (vb r4) Z (Xf (vb true) Z (Xb (Xm ?_))))))));exact ⟨[vs r3, vb r4, vb true], ⟨_, Z, ⟨_, Z, ⟨_, Z, Z⟩⟩⟩, r3, r4, true, Z, H, aa.gr.g0, ad⟩
   have H := Xi H a1;refine Xd (Xe (Xc (vb r4) Z (Xf (vb r4) Z (Xb ?_))));refine Xr r4 Z (fun a2 => ?_) (fun a2 => ?_)
   ·have H := Xh H a2;exact Xd (Xe (Xc (vs r3) Z (Xf (vs r3) Z (Xf (vb true) Z (Xf (vb false) Z (Xb (Xm ⟨[vs r3, vb true, vb false], ⟨_, Z, ⟨_, Z, ⟨_, Z, Z⟩⟩⟩, r3, true, false, Z, H, aa.gr.g0, ad⟩)))))))
   have H := Xi H a2;refine Xv (Xd (Xe (Xc (vs r5) Z (Xf (vs r5) Z (Xf (vb true) Z (Xf (vb false) Z (Xb (Xm ?_))))))));exact ⟨[vs r5, vb true, vb false], ⟨_, Z, ⟨_, Z, ⟨_, Z, Z⟩⟩⟩, r5, true, false, Z, H, aa.gr.g0, al⟩
  have H := Xi H aj;refine Xl aj Z (Xl aj Z (Xl aj Z (Xk ac Z (Xa (Xq false (vb false) aj Z) (Xa (Xq false (vb false) ac Z) (Xf (vb false) Z (Xb (Y4 (b := false) Z Z ?_))))))));refine Xd (Xe (Xc (vb r4) Z (Xf (vb r4) Z (Xb ?_))));refine Xr r4 Z (fun a3 => ?_) (fun a3 => ?_)
  ·have H := Xh H a3;exact Xd (Xe (Xc (vs r3) Z (Xf (vs r3) Z (Xf (vb true) Z (Xf (vb false) Z (Xb (Xm ⟨[vs r3, vb true, vb false], ⟨_, Z, ⟨_, Z, ⟨_, Z, Z⟩⟩⟩, r3, true, false, Z, H, aa.gr.g0, ad⟩)))))))
  have H := Xi H a3;refine Xv (Xd (Xe (Xc (vs r5) Z (Xf (vs r5) Z (Xf (vb true) Z (Xf (vb false) Z (Xb (Xm ?_))))))));exact ⟨[vs r5, vb true, vb false], ⟨_, Z, ⟨_, Z, ⟨_, Z, Z⟩⟩⟩, r5, true, false, Z, H, aa.gr.g0, al⟩
 have H := Xi H ai;refine Xl ai Z (Xl ai Z (Xl ai Z (Xa (Xq false (vb false) ai Z) (Xc (vb false) Z (Yq (dj := 55) Z Z Z (Xc (vs r3) Z (Yq (dj := 55) Z Z Z (Xc (vs r5) Z ?_))))))));refine Yq (dj := 55) Z Z Z (Xa (Yz r3 r5 (r3 == r5) Z Z Z) (Yq (dj := 55) Z Z Z (Xc (vb (r3 == r5)) Z ?_)));rcases X8 (r3 == r5) with ak | ak
 ·have H := Xh H ak;refine Xk ak Z (Xc (vb r4) Z (Xk ak Z (Xc (vb r6) Z (Xk ak Z (Xa (Y7 u4_ r4 r6 (r4 == r6) Z Z Z) (Yq (dj := 55) Z Z Z (Xa (Xq true (vb (r4 == r6)) ak Z) (Xa (Xq false (vb (r4 == r6)) Z Z) ?_))))))));refine Xf (vb (r4 == r6)) Z (Xb ?_);refine Xr (r4 == r6) Z (fun a4 => ?_) (fun a4 => ?_)
  ·have H := Xh H a4;refine Xd (Xe (Xc (vs r3) Z (Xc (vb r4) Z (Xf (vs r3) Z (Xf (vb r4) Z (Xf (vb true) Z (Xb (Xm ?_))))))));exact ⟨[vs r3, vb r4, vb true], ⟨_, Z, ⟨_, Z, ⟨_, Z, Z⟩⟩⟩, r3, r4, true, Z, H, aa.gr.g0, ad⟩
  have H := Xi H a4;refine Xd (Xe (Xc (vb r4) Z (Xf (vb r4) Z (Xb ?_))));refine Xr r4 Z (fun a5 => ?_) (fun a5 => ?_)
  ·have H := Xh H a5;exact Xd (Xe (Xc (vs r3) Z (Xf (vs r3) Z (Xf (vb true) Z (Xf (vb false) Z (Xb (Xm ⟨[vs r3, vb true, vb false], ⟨_, Z, ⟨_, Z, ⟨_, Z, Z⟩⟩⟩, r3, true, false, Z, H, aa.gr.g0, ad⟩)))))))
  have H := Xi H a5;refine Xv (Xd (Xe (Xc (vs r5) Z (Xf (vs r5) Z (Xf (vb true) Z (Xf (vb false) Z (Xb (Xm ?_))))))));exact ⟨[vs r5, vb true, vb false], ⟨_, Z, ⟨_, Z, ⟨_, Z, Z⟩⟩⟩, r5, true, false, Z, H, aa.gr.g0, al⟩
 have H := Xi H ak;refine Xl ak Z (Xl ak Z (Xl ak Z (Yq (dj := 55) Z Z Z (Xa (Xq false (vb false) ak Z) (Xa (Xq false (vb false) Z Z) (Xf (vb false) Z (Xb (Y4 (b := false) Z Z ?_))))))));refine Xd (Xe (Xc (vb r4) Z (Xf (vb r4) Z (Xb ?_))));refine Xr r4 Z (fun a6 => ?_) (fun a6 => ?_)
 ·have H := Xh H a6;exact Xd (Xe (Xc (vs r3) Z (Xf (vs r3) Z (Xf (vb true) Z (Xf (vb false) Z (Xb (Xm ⟨[vs r3, vb true, vb false], ⟨_, Z, ⟨_, Z, ⟨_, Z, Z⟩⟩⟩, r3, true, false, Z, H, aa.gr.g0, ad⟩)))))))
 have H := Xi H a6;refine Xv (Xd (Xe (Xc (vs r5) Z (Xf (vs r5) Z (Xf (vb true) Z (Xf (vb false) Z (Xb (Xm ?_))))))));exact ⟨[vs r5, vb true, vb false], ⟨_, Z, ⟨_, Z, ⟨_, Z, Z⟩⟩⟩, r5, true, false, Z, H, aa.gr.g0, al⟩
end
section
open Go.RowKit
def F95.E (o : Feat) (a : Feat) (b : Feat) (Q : Feat → List Str → Prop) : Prop :=
 F71.E o.Shape a.Shape b.Shape (fun r r2 => (∃ (J134 : (List Str) → Prop), ((if !r2 then (([] : List Str).length + ([([115, 104, 97, 112, 101] : Str)] : List Str).length ≤ 268435456) ∧ J134 (([] : List Str) ++ ([([115, 104, 97, 112, 101] : Str)] : List Str)) else J134 ([] : List Str))) ∧ ∀ (xs : List Str), J134 xs → F79.E r (fun r3 => F94.E o.Tags a.Tags b.Tags (fun r4 => (∃ (I2328 : (List Str) → Int → (List Tag) → Prop) (mu2329 : (List Str) → Int → (List Tag) → Nat), I2328 xs 0 ([] : List Tag) ∧ ∀ (xs4 : List Str) (i2 : Int) (xs5 : List Tag), I2328 xs4 i2 xs5 → (if decide (i2 < (r4.length : Int)) then ((0 : Int) ≤ i2 ∧ i2 < (r4.length : Int)) ∧ F118.E o.Tags a.Tags b.Tags (nth r4 i2) (fun r5 r6 r7 => (∃ (J2411 : (List Str) → Prop), ((if !r7 then ((0 : Int) ≤ i2 ∧ i2 < (r4.length : Int)) ∧ (([116, 97, 103, 32] : Str).length + (nth r4 i2).length ≤ 9223372036854775807) ∧ (xs4.length + ([(([116, 97, 103, 32] : Str) ++ (nth r4 i2))] : List Str).length ≤ 268435456) ∧ J2411 (xs4 ++ ([(([116, 97, 103, 32] : Str) ++ (nth r4 i2))] : List Str)) else J2411 xs4)) ∧ ∀ (xs6 : List Str), J2411 xs6 → (∃ (J2516 : (List Tag) → Prop), ((if r6 then ((0 : Int) ≤ i2 ∧ i2 < (r4.length : Int)) ∧ (xs5.length + ([(⟨(nth r4 i2), r5⟩ : Tag)] : List Tag).length ≤ 268435456) ∧ J2516 (xs5 ++ ([(⟨(nth r4 i2), r5⟩ : Tag)] : List Tag)) else J2516 xs5)) ∧ ∀ (xs7 : List Tag), J2516 xs7 → (I64 (i2 + 1)) ∧ I2328 xs6 (i2 + 1) xs7 ∧ mu2329 xs6 (i2 + 1) xs7 < mu2329 xs4 i2 xs5))) else F84.E (⟨a.Id, r3, xs5⟩ : Feat) (fun r8 => (if !r8 then F80.E a (fun r9 => Q r9 ([([109, 117, 99, 104] : Str)] : List Str)) else Q (⟨a.Id, r3, xs5⟩ : Feat) xs4))))))))
theorem F95.calls {O : Ob} (w0 : World) (hO : Ok w0 O) (o : Feat) (A2 : Option Addr) (n3 c4 : Nat) (A7 : Option Addr) (n8 c9 : Nat) (hs1 : Lim o.Id) (hp5 : Sl kPt w0 (Fr O) (G A2 n3 c4) o.Shape.Pts) (hu : Sl kTag w0 (Fr O) (G A7 n8 c9) o.Tags) (a : Feat) (a2 : Option Addr) (a3 a4 : Nat) (am : Option Addr) (an ao : Nat) (e3 : Lim a.Id) (e4 : Sl kPt w0 (Fr O) (G a2 a3 a4) a.Shape.Pts) (hv : Sl kTag w0 (Fr O) (G am an ao) a.Tags) (b : Feat) (bp : Option Addr) (bq br : Nat) (a5 : Option Addr) (a6 a7 : Nat) (qt : Lim b.Id) (e5 : Sl kPt w0 (Fr O) (G bp bq br) b.Shape.Pts) (hw : Sl kTag w0 (Fr O) (G a5 a6 a7) b.Tags) (Q : Feat → List Str → Prop) (h : F95.E o a b Q) :
  Ret Tryz.prog 63 [.agg #[vs o.Id, vi o.Shape.Kind, G A2 n3 c4, G A7 n8 c9], .agg #[vs a.Id, vi a.Shape.Kind, G a2 a3 a4, G am an ao], .agg #[vs b.Id, vi b.Shape.Kind, G bp bq br, G a5 a6 a7]] w0 (fun v w' => ∃ (r0 : Feat) (r1 : List Str) (Aw0 : Option Addr) (nw0 cw0 : Nat) (Aw2 : Option Addr) (nw2 cw2 : Nat) (Aw4 : Option Addr) (nw4 cw4 : Nat), v = .tuple #[.agg #[vs r0.Id, vi r0.Shape.Kind, G Aw0 nw0 cw0, G Aw2 nw2 cw2], G Aw4 nw4 cw4] ∧ Q r0 r1 ∧ Gr w0 w' none ∧ Ok w' ([bk Aw0, bk Aw2, bk Aw4] ++ O) ∧ (∀ b, some b ∈ [bk Aw0, bk Aw2, bk Aw4] → w0.heap.size ≤ b) ∧ Lim r0.Id ∧ Ow kPt 61 w' ([bk Aw0, bk Aw2, bk Aw4] ++ O) (G Aw0 nw0 cw0) r0.Shape.Pts ∧ Ow kTag 78 w' ([bk Aw0, bk Aw2, bk Aw4] ++ O) (G Aw2 nw2 cw2) r0.Tags ∧ Ow Kd.str 9 w' ([bk Aw0, bk Aw2, bk Aw4] ++ O) (G Aw4 nw4 cw4) r1) := by
 unfold F95.E at h;have H := h;clear h;have hc0 := Ct.init hO;refine X9 Tryz.func63 Z 96 Z [.cell 6 28, .tmp 7] Z Z ?_;refine Xd (Xe (Yp [vs o.Id, vi o.Shape.Kind, G A2 n3 c4, G A7 n8 c9] Z fun qu au jt hu38 ju jv => ?_));have jw := Fb.mk hc0.ok jt jv;have e6 := hc0.k0 ju;refine Yp [vs a.Id, vi a.Shape.Kind, G a2 a3 a4, G am an ao] Z fun qv ai jx hu47 hx jy => ?_;have jz := Fb.mk e6.ok jx jy;have e7 := e6.k0 hx;refine Yp [vs b.Id, vi b.Shape.Kind, G bp bq br, G a5 a6 a7] Z fun qw av j0 hu56 hy j1 => ?_;have j2 := Fb.mk e7.ok j0 j1;have hz := e7.k0 hy;refine Yc [vs [], .int .i64 0, G none 0 0, G none 0 0] ze28 fun qx aa h0 hu65 h1 h2 => ?_;have h3 := hz.own h1 (some aa) (Yb h0 hu65);refine Xf (G none 0 0) Z (Xb (Xd (Xe (X5 (kd := Kd.str) Ys h3 ([] : List Str) (cells := []) Z (fun _ => by kernel_rfl) fun j3 dt du dv e8 hr74 cp h4 => ?_))));refine Xf (G dt du dv) Z (Xb (Xd (Xe (Xa (Xp fa28_1 ⟨au, 0, none⟩ ⟨au, 1, none⟩ Z Z) ?_))));have j4 := e6.stn hx;have h5 := e7.stn hy;have e9 := hz.stown _ h1 (Xg h0);have fa := h3.stown _ e8 hr74;have fb := ((((jw.st j4).st h5).st e9).st fa);refine Xa (Xs ag25 sz25 cL ⟨au, 1, none⟩ [vi o.Shape.Kind, G A2 n3 c4] Z Z (fb.cells (off := 1) Z)) (Xa (Xp fa28_1 ⟨ai, 0, none⟩ ⟨ai, 1, none⟩ Z Z) ?_);have fc := (((jz.st h5).st e9).st fa);refine Xa (Xs ag25 sz25 cL ⟨ai, 1, none⟩ [vi a.Shape.Kind, G a2 a3 a4] Z Z (fc.cells (off := 1) Z)) (Xa (Xp fa28_1 ⟨av, 0, none⟩ ⟨av, 1, none⟩ Z Z) ?_);have fd := ((j2.st e9).st fa);refine Xa (Xs ag25 sz25 cL ⟨av, 1, none⟩ [vi b.Shape.Kind, G bp bq br] Z Z (fd.cells (off := 1) Z)) ?_;refine Xo go108 [.agg #[vi o.Shape.Kind, G A2 n3 c4], .agg #[vi a.Shape.Kind, G a2 a3 a4], .agg #[vi b.Shape.Kind, G bp bq br]] Z ((F71.calls j3 cp.ok o.Shape A2 n3 c4 (hp5.st cp.st) a.Shape a2 a3 a4 (e4.st cp.st) b.Shape bp bq br (e5.st cp.st) _ H).mono ?_);rintro _ qy ⟨r, r2, bt, bu, bv, rfl, H, cq, h6⟩;have fe := cp.k0 cq;refine Xc (.tuple #[.agg #[vi r.Kind, G bt bu bv], vb r2]) Z (Xa (Yg [.agg #[vi r.Kind, G bt bu bv], vb r2] 0 (.agg #[vi r.Kind, G bt bu bv]) Z Z) (Xa (Yg [.agg #[vi r.Kind, G bt bu bv], vb r2] 1 (vb r2) Z Z) (Yc [.int .i64 0, G none 0 0] ze25 fun qz aw c7 hu100 cr j5 => ?_)));have cs := fe.own cr (some aw) (Yb c7 hu100);refine Xw aw 0 [vi 0, G none 0 0] [vi r.Kind, G bt bu bv] [vi r.Kind, G bt bu bv] Z j5 Z sz25 Z Z Z fun q0 ct h7 => ?_;have b4 := cs.wr 0 Z ct;refine Xf (vb r2) Z (Xb (Xd (Xd (Xe (Xc (vb r2) Z (Xa (Yf r2 Z) (Xb ?_)))))));obtain ⟨j6, H, j7⟩ := H;refine Y3 (J := (fun t bh => ∃ (xs : List Str) (aj : Option Addr) (c8 : Nat) (da : Nat), j6 xs ∧ Has t [(3, .pointer (some ⟨au, 0, none⟩)), (4, .pointer (some ⟨ai, 0, none⟩)), (5, .pointer (some ⟨av, 0, none⟩)), (6, .pointer (some ⟨aa, 0, none⟩)), (8, G aj c8 da), (9, .pointer (some ⟨aw, 0, none⟩))] ∧ Ct [] w0 bh [some aw, bk aj, some aa] O ∧ Sl kPt bh (Fr ([some aw, bk aj, some aa] ++ O)) (G a2 a3 a4) a.Shape.Pts ∧ Sl kTag bh (Fr ([some aw, bk aj, some aa] ++ O)) (G am an ao) a.Tags ∧ Sl kPt bh (Fr ([some aw, bk aj, some aa] ++ O)) (G bt bu bv) r.Pts ∧ Sl kPt bh (Fr ([some aw, bk aj, some aa] ++ O)) (G bp bq br) b.Shape.Pts ∧ Sl kTag bh (Fr ([some aw, bk aj, some aa] ++ O)) (G a5 a6 a7) b.Tags ∧ Sl kPt bh (Fr ([some aw, bk aj, some aa] ++ O)) (G A2 n3 c4) o.Shape.Pts ∧ Sl kTag bh (Fr ([some aw, bk aj, some aa] ++ O)) (G A7 n8 c9) o.Tags ∧ Ow Kd.str 9 bh ([some aw, bk aj, some aa] ++ O) (G aj c8 da) xs ∧ Fb bh ([some aw, bk aj, some aa] ++ O) au [vs o.Id, vi o.Shape.Kind, G A2 n3 c4, G A7 n8 c9] ∧ Fb bh ([some aw, bk aj, some aa] ++ O) ai [vs a.Id, vi a.Shape.Kind, G a2 a3 a4, G am an ao] ∧ Fb bh ([some aw, bk aj, some aa] ++ O) av [vs b.Id, vi b.Shape.Kind, G bp bq br, G a5 a6 a7] ∧ Bx bh aa [vs ([] : Str), vi 0, G none 0 0, G none 0 0] ∧ Bx bh aw [vi r.Kind, G bt bu bv])) ?_ ?_
 ·refine Xr (!r2) Z (fun ff => ?_) (fun ff => ?_)
  ·have H := Xh H ff;refine Xe (Xc (G dt du dv) Z (X5 (kd := Kd.str) Ys b4 ([([115, 104, 97, 112, 101] : Str)] : List Str) (cells := [vs ([115, 104, 97, 112, 101] : Str)]) ⟨[vs ([115, 104, 97, 112, 101] : Str)], _, Z, ⟨Z, (by decide : Lim ([115, 104, 97, 112, 101] : Str))⟩, Z⟩ (fun _ => by kernel_rfl) fun q1 j8 j9 ka dw hr143 fg kb => ?_));obtain ⟨kc, H⟩ := H;have ke := ((cs.sw ((h4.sn cq).so _ cr (Xg c7)) 1 0 Z Z Z ct).so _ dw hr143);refine Ya Ys fg (G dt du dv) ([] : List Str) ([([115, 104, 97, 112, 101] : Str)] : List Str) Z ke (G j8 j9 ka) Z kb.sx 2 Z kc fun q2 h8 h9 ia ib dx fh kf => ?_;refine Xf (G h8 h9 ia) Z (Xb ?_);have cu := fh.drop 0 Z;have dy := fe.stown _ cr (Xg c7);have dz := cs.stw 0 Z ct;have d0 := b4.stown _ dw hr143;have d1 := fh.std 0 Z;have kg := (((((h6.st dy).st dz).st d0).st dx).st d1);have kh := (fh.sd kf 2 0 Z Z Z);have fi := cp.stn cq;have ki := ((((((fb.st fi).st dy).st dz).st d0).st dx).st d1);have kj := ((((((fc.st fi).st dy).st dz).st d0).st dx).st d1);have kk := ((((((fd.st fi).st dy).st dz).st d0).st dx).st d1);have kl := (fg.bm ((cs.bm (((h2.k0 e8).k0 cq).k0 cr) 2 0 Z Z Z ct).k0 dw) 3 2 Z Z Z ib);have km := (fg.bm (h7.k0 dw) 1 2 Z Z Z ib);exact ⟨(([] : List Str) ++ ([([115, 104, 97, 112, 101] : Str)] : List Str)), h8, h9, ia, H, (Xn Z), cu, (e4.st cu.st), (hv.st cu.st), kg, (e5.st cu.st), (hw.st cu.st), (hp5.st cu.st), (hu.st cu.st), kh, ki, kj, kk, kl, km⟩
  have H := Xi H ff;refine Xv ?_;have d2 := fe.stown _ cr (Xg c7);have d3 := cs.stw 0 Z ct;have kn := ((h6.st d2).st d3);have ko := (cs.sw ((h4.sn cq).so _ cr (Xg c7)) 1 0 Z Z Z ct);have fj := cp.stn cq;have kp := (((fb.st fj).st d2).st d3);have kq := (((fc.st fj).st d2).st d3);have kr := (((fd.st fj).st d2).st d3);have ks := (cs.bm (((h2.k0 e8).k0 cq).k0 cr) 2 0 Z Z Z ct);exact ⟨([] : List Str), dt, du, dv, H, (Xn Z), b4, (e4.st b4.st), (hv.st b4.st), kn, (e5.st b4.st), (hw.st b4.st), (hp5.st b4.st), (hu.st b4.st), ko, kp, kq, kr, ks, h7⟩
 rintro q3 bh ⟨xs, aj, c8, da, kt, ku, fk, kv, ic, id, kx, ie, ky, ig, kz, k1, ih, k2, k3, k4⟩;obtain ⟨q4, rfl⟩ := Has.ins ku;have H := j7 xs kt;refine Xd ?_;refine Y3 (J := (fun t c1 => ∃ (r3 : Shape) (ab : Nat) (ac : Option Addr) (ak : Nat) (al : Nat), Has t [(3, .pointer (some ⟨au, 0, none⟩)), (4, .pointer (some ⟨ai, 0, none⟩)), (5, .pointer (some ⟨av, 0, none⟩)), (6, .pointer (some ⟨aa, 0, none⟩)), (8, G aj c8 da), (11, .pointer (some ⟨ab, 0, none⟩))] ∧ Gr bh c1 none ∧ Ct [] w0 c1 [some ab, bk ac, some aw, bk aj, some aa] O ∧ (∀ b, some b ∈ ([some ab, bk ac] : Ob) → bh.heap.size ≤ b) ∧ Ow kPt 61 c1 ([some ab, bk ac, some aw, bk aj, some aa] ++ O) (G ac ak al) r3.Pts ∧ Bx c1 ab [vs a.Id, vi r3.Kind, G ac ak al, G none 0 0] ∧ F94.E o.Tags a.Tags b.Tags (fun r4 => (∃ (db : (List Str) → Int → (List Tag) → Prop) (d4 : (List Str) → Int → (List Tag) → Nat), db xs 0 ([] : List Tag) ∧ ∀ (xs4 : List Str) (i2 : Int) (xs5 : List Tag), db xs4 i2 xs5 → (if decide (i2 < (r4.length : Int)) then ((0 : Int) ≤ i2 ∧ i2 < (r4.length : Int)) ∧ F118.E o.Tags a.Tags b.Tags (nth r4 i2) (fun r5 r6 r7 => (∃ (dc : (List Str) → Prop), ((if !r7 then ((0 : Int) ≤ i2 ∧ i2 < (r4.length : Int)) ∧ (([116, 97, 103, 32] : Str).length + (nth r4 i2).length ≤ 9223372036854775807) ∧ (xs4.length + ([(([116, 97, 103, 32] : Str) ++ (nth r4 i2))] : List Str).length ≤ 268435456) ∧ dc (xs4 ++ ([(([116, 97, 103, 32] : Str) ++ (nth r4 i2))] : List Str)) else dc xs4)) ∧ ∀ (xs6 : List Str), dc xs6 → (∃ (dd : (List Tag) → Prop), ((if r6 then ((0 : Int) ≤ i2 ∧ i2 < (r4.length : Int)) ∧ (xs5.length + ([(⟨(nth r4 i2), r5⟩ : Tag)] : List Tag).length ≤ 268435456) ∧ dd (xs5 ++ ([(⟨(nth r4 i2), r5⟩ : Tag)] : List Tag)) else dd xs5)) ∧ ∀ (xs7 : List Tag), dd xs7 → (I64 (i2 + 1)) ∧ db xs6 (i2 + 1) xs7 ∧ d4 xs6 (i2 + 1) xs7 < d4 xs4 i2 xs5))) else F84.E (⟨a.Id, r3, xs5⟩ : Feat) (fun r8 => (if !r8 then F80.E a (fun r9 => Q r9 ([([109, 117, 99, 104] : Str)] : List Str)) else Q (⟨a.Id, r3, xs5⟩ : Feat) xs4))))))) ?_ ?_
 ·refine Y6 7 [] (by kernel_rfl) Z fun k5 b5 cg => ?_;have d5 := fk.k0 b5;refine Xu 0 Z (by kernel_rfl) cg (Xp fa28_0 ⟨ai, 0, none⟩ ⟨ai, 0, none⟩ Z Z) ?_;have fl := fk.stn b5;have k6 := (ih.st fl);refine Xu 1 Z (by kernel_rfl) cg (Y5 ag9 cR ⟨ai, 0, none⟩ (vs a.Id) Z (k6.cell Z) nm_nil) ?_;have k7 := (k4.k0 b5);refine Xu 2 Z (by kernel_rfl) cg (Zj ag25 sz25 cR ⟨aw, 0, none⟩ [vi r.Kind, G bt bu bv] Z Z (k7.cells (off := 0) Z) nm_nil) ?_;refine Y0 3 5 (by kernel_rfl) Z Z ?_ ?_
  ·refine Xo go94 [.agg #[vi r.Kind, G bt bu bv]] Z ((F79.calls k5 d5.ok r bt bu bv (id.st fl) _ H).mono ?_);rintro _ ii ⟨r3, d6, d7, d8, rfl, H, ij, k8, ik, k9⟩;have la := d5.owns ij k8 ik;have de := Gm.tm cg ij;refine Xb ⟨de, ?_⟩;refine Xu 4 Z (by kernel_rfl) de (Ym (.agg #[vs a.Id, vi r3.Kind, G d6 d7 d8, G none 0 0]) (fun _ => by kernel_rfl)) ?_;refine Xy 5 (by kernel_rfl) Z ?_;refine Yc [vs [], .int .i64 0, G none 0 0, G none 0 0] ze28 fun q5 fm d9 hu206 fn lb => ?_;have il := la.own fn (some fm) (Yb d9 hu206);have im := Gm.tm de fn;refine Xb ⟨im, ?_⟩;refine Xy 6 (by kernel_rfl) Z ?_;refine Xw fm 0 [vs ([] : Str), vi 0, G none 0 0, G none 0 0] [vs a.Id, vi r3.Kind, G d6 d7 d8, G none 0 0] [vs a.Id, vi r3.Kind, G d6 d7 d8, G none 0 0] Z lb Z sz28 Z Z Z fun q6 fo lc => ?_;have ld := il.wr 0 Z fo;have io := Gm.tq im fo (hv_new de (Xg d9));refine Xb ⟨io, ?_⟩;refine Yl (by kernel_rfl) ?_;have fp := (il.sw (k9.so _ fn (Xg d9)) 1 0 Z Z Z fo);exact ⟨r3, fm, d6, d7, d8, (Xn Z), (Gr.t0 b5 io.g0), ld, (jg_cons b5.size (hv_new de (Xg d9)) (jg_cons b5.size (hv_hge cg ik (q := 0) Z) jg_nil)), fp, lc, H⟩
  refine Yc [vs [], .int .i64 0, G none 0 0, G none 0 0] ze28 fun ii fq ea hu194 fr lf => ?_;have ip := d5.own fr (some fq) (Yb ea hu194);have fs := Gm.tm cg fr;refine Xb ⟨fs, ?_⟩;refine Xy 3 (by kernel_rfl) Z ?_;have lg := d5.stown _ fr (Xg ea);have lh := ((id.st fl).st lg);refine Xo go94 [.agg #[vi r.Kind, G bt bu bv]] Z ((F79.calls ii ip.ok r bt bu bv lh _ H).mono ?_);rintro _ q7 ⟨r3, eb, ec, ed, rfl, H, ft, li, iq, lj⟩;have ir := ip.owns ft li iq;have fu := Gm.tm fs ft;refine Xb ⟨fu, ?_⟩;refine Xu 4 Z (by kernel_rfl) fu (Ym (.agg #[vs a.Id, vi r3.Kind, G eb ec ed, G none 0 0]) (fun _ => by kernel_rfl)) ?_;refine Xy 6 (by kernel_rfl) Z ?_;have fp := (lf.k0 ft);refine Xw fq 0 [vs ([] : Str), vi 0, G none 0 0, G none 0 0] [vs a.Id, vi r3.Kind, G eb ec ed, G none 0 0] [vs a.Id, vi r3.Kind, G eb ec ed, G none 0 0] Z fp Z sz28 Z Z Z fun q8 fv lk => ?_;have it := ir.wr 1 Z fv;have iu := Gm.tq fu fv (hv_new cg (Xg ea));refine Xb ⟨iu, ?_⟩;refine Yl (by kernel_rfl) ?_;have ll := it.perm (.swap _ _ _);have lm := (it.sp (ir.sw lj 0 1 Z Z Z fv) (.swap _ _ _));have ln := lk;exact ⟨r3, fq, eb, ec, ed, (Xn Z), (Gr.t0 b5 iu.g0), ll, (jg_cons b5.size (hv_new cg (Xg ea)) (jg_cons b5.size (hv_hge fs iq (q := 0) Z) jg_nil)), lm, ln, H⟩
 rintro q9 c1 ⟨r3, ab, ac, ak, al, lo, fw, fx, iv, lp, lq, H⟩;obtain ⟨ra, rfl⟩ := Has.ins lo;refine Xd (Xe (Xa (Xp fa28_2 ⟨au, 0, none⟩ ⟨au, 3, none⟩ Z Z) ?_));have bw := fk.stos fw iv;have iw := (k1.st bw);refine Xa (Xt ag26 cL ⟨au, 3, none⟩ (G A7 n8 c9) Z (iw.cell Z)) (Xa (Xp fa28_2 ⟨ai, 0, none⟩ ⟨ai, 3, none⟩ Z Z) ?_);have ix := (ih.st bw);refine Xa (Xt ag26 cL ⟨ai, 3, none⟩ (G am an ao) Z (ix.cell Z)) (Xa (Xp fa28_2 ⟨av, 0, none⟩ ⟨av, 3, none⟩ Z Z) ?_);have iy := (k2.st bw);refine Xa (Xt ag26 cL ⟨av, 3, none⟩ (G a5 a6 a7) Z (iy.cell Z)) ?_;refine Xo go109 [G A7 n8 c9, G am an ao, G a5 a6 a7] Z ((F94.calls c1 fx.ok o.Tags A7 n8 c9 (ig.st bw) a.Tags am an ao (ic.st bw) b.Tags a5 a6 a7 (ie.st bw) _ H).mono ?_);rintro _ ee ⟨r4, ad, bi, bj, rfl, H, c2, lr, ef, ls⟩;have df : Ct [] w0 ee [bk ad, some ab, bk ac, some aw, bk aj, some aa] O := fx.owns c2 lr ef;refine Xf (G ad bi bj) Z (Xb (Xd (Xd (Xe (Xf (vi 0) Z (Xb (X4 ?_)))))));have iz := df.drop 3 Z;have i0 := iz.own (Gr.refl _ none) none (by simp);have lt : Ow kTag 78 ee ([bk none, bk ad, some ab, bk ac, bk aj, some aa] ++ O) (G none 0 0) [] := Ow.nil _ _ _ _;have i1 := i0.own (Gr.refl _ none) none (by simp);have lu : Ow kPt 61 ee ([bk none, bk none, bk ad, some ab, bk ac, bk aj, some aa] ++ O) (G none 0 0) [] := Ow.nil _ _ _ _;have lv := i1.own (Gr.refl _ none) none (by simp);have lw : Ow kTag 78 ee ([bk none, bk none, bk none, bk ad, some ab, bk ac, bk aj, some aa] ++ O) (G none 0 0) [] := Ow.nil _ _ _ _;obtain ⟨db, d4, fy, H⟩ := H;have b6 := fx.stos c2 ef;have b7 := df.std 3 Z;have b8 := iz.st0n;have b9 := i0.st0n;have ca := i1.st0n;have lx := ((((((kv.st bw).st b6).st b7).st b8).st b9).st ca);have ly := ((((((ic.st bw).st b6).st b7).st b8).st b9).st ca);have lz := ((((((kx.st bw).st b6).st b7).st b8).st b9).st ca);have l0 := ((((((ie.st bw).st b6).st b7).st b8).st b9).st ca);have l1 := ((((((ky.st bw).st b6).st b7).st b8).st b9).st ca);have l2 := ((((((ig.st bw).st b6).st b7).st b8).st b9).st ca);have l3 := ((((df.sd ((kz.sos fw iv).sos c2 ef) 4 3 Z Z Z).so none (Gr.refl _ none) (by simp)).so none (Gr.refl _ none) (by simp)).so none (Gr.refl _ none) (by simp));have l4 := ((((df.sd ls 0 3 Z Z Z).so none (Gr.refl _ none) (by simp)).so none (Gr.refl _ none) (by simp)).so none (Gr.refl _ none) (by simp));have l5 := ((((df.sd (lp.sos c2 ef) 2 3 Z Z Z).so none (Gr.refl _ none) (by simp)).so none (Gr.refl _ none) (by simp)).so none (Gr.refl _ none) (by simp));have l6 := ((lt.so none (Gr.refl _ none) (by simp)).so none (Gr.refl _ none) (by simp));have l7 := (lu.so none (Gr.refl _ none) (by simp));have l8 := (((((iw.st b6).st b7).st b8).st b9).st ca);have l9 := (((((ix.st b6).st b7).st b8).st b9).st ca);have ma := (((((iy.st b6).st b7).st b8).st b9).st ca);have mb := ((k3.k0 fw).k0 c2);have mc := (lq.k0 c2);refine Yk (α := (List Str) × (Option Addr) × Nat × Nat × Int × (List Tag) × (Option Addr) × Nat × Nat) (fun (sv__ : (List Str) × (Option Addr) × Nat × Nat × Int × (List Tag) × (Option Addr) × Nat × Nat) t ap => match sv__ with | (xs4, ag, bz, b0, i2, xs5, ae, ax, ay) => db xs4 i2 xs5 ∧ Has t [(3, .pointer (some ⟨au, 0, none⟩)), (4, .pointer (some ⟨ai, 0, none⟩)), (5, .pointer (some ⟨av, 0, none⟩)), (6, .pointer (some ⟨aa, 0, none⟩)), (8, G ag bz b0), (11, .pointer (some ⟨ab, 0, none⟩)), (12, G ad bi bj), (13, vi i2)] ∧ Ct [] w0 ap [bk none, bk none, bk ae, bk ad, some ab, bk ac, bk ag, some aa] O ∧ Sl kPt ap (Fr ([bk none, bk none, bk ae, bk ad, some ab, bk ac, bk ag, some aa] ++ O)) (G a2 a3 a4) a.Shape.Pts ∧ Sl kTag ap (Fr ([bk none, bk none, bk ae, bk ad, some ab, bk ac, bk ag, some aa] ++ O)) (G am an ao) a.Tags ∧ Sl kPt ap (Fr ([bk none, bk none, bk ae, bk ad, some ab, bk ac, bk ag, some aa] ++ O)) (G bp bq br) b.Shape.Pts ∧ Sl kTag ap (Fr ([bk none, bk none, bk ae, bk ad, some ab, bk ac, bk ag, some aa] ++ O)) (G a5 a6 a7) b.Tags ∧ Sl kPt ap (Fr ([bk none, bk none, bk ae, bk ad, some ab, bk ac, bk ag, some aa] ++ O)) (G A2 n3 c4) o.Shape.Pts ∧ Sl kTag ap (Fr ([bk none, bk none, bk ae, bk ad, some ab, bk ac, bk ag, some aa] ++ O)) (G A7 n8 c9) o.Tags ∧ Ow Kd.str 9 ap ([bk none, bk none, bk ae, bk ad, some ab, bk ac, bk ag, some aa] ++ O) (G ag bz b0) xs4 ∧ Ow Kd.str 9 ap ([bk none, bk none, bk ae, bk ad, some ab, bk ac, bk ag, some aa] ++ O) (G ad bi bj) r4 ∧ Ow kPt 61 ap ([bk none, bk none, bk ae, bk ad, some ab, bk ac, bk ag, some aa] ++ O) (G ac ak al) r3.Pts ∧ Ow kTag 78 ap ([bk none, bk none, bk ae, bk ad, some ab, bk ac, bk ag, some aa] ++ O) (G ae ax ay) xs5 ∧ Ow kPt 61 ap ([bk none, bk none, bk ae, bk ad, some ab, bk ac, bk ag, some aa] ++ O) (G none 0 0) ([] : List Pt) ∧ Ow kTag 78 ap ([bk none, bk none, bk ae, bk ad, some ab, bk ac, bk ag, some aa] ++ O) (G none 0 0) ([] : List Tag) ∧ Fb ap ([bk none, bk none, bk ae, bk ad, some ab, bk ac, bk ag, some aa] ++ O) au [vs o.Id, vi o.Shape.Kind, G A2 n3 c4, G A7 n8 c9] ∧ Fb ap ([bk none, bk none, bk ae, bk ad, some ab, bk ac, bk ag, some aa] ++ O) ai [vs a.Id, vi a.Shape.Kind, G a2 a3 a4, G am an ao] ∧ Fb ap ([bk none, bk none, bk ae, bk ad, some ab, bk ac, bk ag, some aa] ++ O) av [vs b.Id, vi b.Shape.Kind, G bp bq br, G a5 a6 a7] ∧ Bx ap aa [vs ([] : Str), vi 0, G none 0 0, G none 0 0] ∧ Bx ap ab [vs a.Id, vi r3.Kind, G ac ak al, G ae ax ay]) (fun (sv__ : (List Str) × (Option Addr) × Nat × Nat × Int × (List Tag) × (Option Addr) × Nat × Nat) => match sv__ with | (xs4, _, _, _, i2, xs5, _, _, _) => d4 xs4 i2 xs5) (xs, aj, c8, da, 0, ([] : List Tag), none, 0, 0) ⟨fy, (Xn Z), lv, lx, ly, lz, l0, l1, l2, l3, l4, l5, l6, l7, lw, l8, l9, ma, mb, mc⟩ ?_;rintro ⟨xs4, ag, bz, b0, i2, xs5, ae, ax, ay⟩ _ ap ⟨fy, md, cv, fz, eg, i3, f0, i4, f1, f2, f3, eh, ei, i5, i6, me, i7, mf, ej, ek⟩;obtain ⟨rb, rfl⟩ := Has.ins md;have H := H xs4 i2 xs5 fy;refine Xd (Xd (Xe (Xc (vi i2) Z (Xc (G ad bi bj) Z ?_))));have rc := f3.le;refine Xa (X6 u34_ ad bi bj f3.len Z) (Xa (Xz i2 (r4.length : Int) (decide (i2 < (r4.length : Int))) Z Z Z) (Xb ?_));refine Xr (decide (i2 < (r4.length : Int))) Z (fun f4 => ?_) (fun f4 => ?_)
 ·have H := Xh H f4;refine Xv (Xd (X4 (Xd (Y6 18 [] (by kernel_rfl) Z fun mg bl bx => ?_))));have el := cv.k0 bl;refine Xu 0 Z (by kernel_rfl) bx (Xp fa28_2 ⟨au, 0, none⟩ ⟨au, 3, none⟩ Z Z) ?_;have bf := cv.stn bl;have f5 := (me.st bf);refine Xu 1 Z (by kernel_rfl) bx (Y5 ag26 cR ⟨au, 3, none⟩ (G A7 n8 c9) Z (f5.cell Z) nm_nil) ?_;refine Xu 2 Z (by kernel_rfl) bx (Xp fa28_2 ⟨ai, 0, none⟩ ⟨ai, 3, none⟩ Z Z) ?_;have f6 := (i7.st bf);refine Xu 3 Z (by kernel_rfl) bx (Y5 ag26 cR ⟨ai, 3, none⟩ (G am an ao) Z (f6.cell Z) nm_nil) ?_;refine Xu 4 Z (by kernel_rfl) bx (Xp fa28_2 ⟨av, 0, none⟩ ⟨av, 3, none⟩ Z Z) ?_;have f7 := (mf.st bf);refine Xu 5 Z (by kernel_rfl) bx (Y5 ag26 cR ⟨av, 3, none⟩ (G a5 a6 a7) Z (f7.cell Z) nm_nil) ?_;refine Xu 6 Z (by kernel_rfl) bx (Yd (G ad bi bj) Z) ?_;refine Xu 7 Z (by kernel_rfl) bx (Yd (vi i2) Z) ?_;obtain ⟨i8, H⟩ := H;have em := (f3.sn bl);obtain ⟨i9, rd, mh, mi, mj⟩ := em.get default (by decide) i2 i8;obtain ⟨rfl, ml⟩ := Kd.str.op mi;refine Xu 8 Z (by kernel_rfl) bx (X3 u34_ Ze ad i9 bi bj em.len i2 Z mh Z i8) ?_;refine Xu 9 Z (by kernel_rfl) bx (Y5 ag9 cR (i9.add (i2.toNat * 1)) (vs (nth r4 i2)) Z (mj 0 _ Z) nm_nil) ?_;refine Xy 10 (by kernel_rfl) Z ?_;refine Xo go110 [G A7 n8 c9, G am an ao, G a5 a6 a7, vs (nth r4 i2)] Z ((F118.calls mg el.ok o.Tags A7 n8 c9 (f1.st bf) a.Tags am an ao (eg.st bf) b.Tags a5 a6 a7 (f0.st bf) (nth r4 i2) ml _ H).mono ?_);rintro _ re ⟨r5, r6, r7, rfl, H, az, ja⟩;have f8 := el.k0 az;have ch := Gm.tm bx az;refine Xb ⟨ch, ?_⟩;refine Xu 11 Z (by kernel_rfl) ch (Yd (.tuple #[vs r5, vb r6, vb r7]) Z) ?_;refine Xu 12 Z (by kernel_rfl) ch (Yg [vs r5, vb r6, vb r7] 0 (vs r5) Z Z) ?_;refine Xu 13 Z (by kernel_rfl) ch (Yg [vs r5, vb r6, vb r7] 1 (vb r6) Z Z) ?_;refine Xu 14 Z (by kernel_rfl) ch (Yg [vs r5, vb r6, vb r7] 2 (vb r7) Z Z) ?_;refine Xu 15 Z (by kernel_rfl) ch (Y9 (vs r5) Z) ?_;refine Xu 16 Z (by kernel_rfl) ch (Y9 (vb r6) Z) ?_;refine Xu 17 Z (by kernel_rfl) ch (Y9 (vb r7) Z) ?_;refine Yl (by kernel_rfl) ?_;refine Xd (Xd (Xe (Xc (vb r7) Z (Xa (Yf r7 Z) (Xb ?_)))));obtain ⟨dc, H, mm⟩ := H;refine Y3 (J := (fun t a8 => ∃ (xs6 : List Str) (af : Option Addr) (ci : Nat) (cj : Nat), dc xs6 ∧ Has t [(3, .pointer (some ⟨au, 0, none⟩)), (4, .pointer (some ⟨ai, 0, none⟩)), (5, .pointer (some ⟨av, 0, none⟩)), (6, .pointer (some ⟨aa, 0, none⟩)), (8, G af ci cj), (11, .pointer (some ⟨ab, 0, none⟩)), (12, G ad bi bj), (13, vi i2), (14, vs r5), (15, vb r6)] ∧ Ct [] w0 a8 [bk none, bk none, bk ae, bk ad, some ab, bk ac, bk af, some aa] O ∧ Sl kPt a8 (Fr ([bk none, bk none, bk ae, bk ad, some ab, bk ac, bk af, some aa] ++ O)) (G a2 a3 a4) a.Shape.Pts ∧ Sl kTag a8 (Fr ([bk none, bk none, bk ae, bk ad, some ab, bk ac, bk af, some aa] ++ O)) (G am an ao) a.Tags ∧ Sl kPt a8 (Fr ([bk none, bk none, bk ae, bk ad, some ab, bk ac, bk af, some aa] ++ O)) (G bp bq br) b.Shape.Pts ∧ Sl kTag a8 (Fr ([bk none, bk none, bk ae, bk ad, some ab, bk ac, bk af, some aa] ++ O)) (G a5 a6 a7) b.Tags ∧ Sl kPt a8 (Fr ([bk none, bk none, bk ae, bk ad, some ab, bk ac, bk af, some aa] ++ O)) (G A2 n3 c4) o.Shape.Pts ∧ Sl kTag a8 (Fr ([bk none, bk none, bk ae, bk ad, some ab, bk ac, bk af, some aa] ++ O)) (G A7 n8 c9) o.Tags ∧ Ow Kd.str 9 a8 ([bk none, bk none, bk ae, bk ad, some ab, bk ac, bk af, some aa] ++ O) (G af ci cj) xs6 ∧ Ow Kd.str 9 a8 ([bk none, bk none, bk ae, bk ad, some ab, bk ac, bk af, some aa] ++ O) (G ad bi bj) r4 ∧ Ow kPt 61 a8 ([bk none, bk none, bk ae, bk ad, some ab, bk ac, bk af, some aa] ++ O) (G ac ak al) r3.Pts ∧ Ow kTag 78 a8 ([bk none, bk none, bk ae, bk ad, some ab, bk ac, bk af, some aa] ++ O) (G ae ax ay) xs5 ∧ Ow kPt 61 a8 ([bk none, bk none, bk ae, bk ad, some ab, bk ac, bk af, some aa] ++ O) (G none 0 0) ([] : List Pt) ∧ Ow kTag 78 a8 ([bk none, bk none, bk ae, bk ad, some ab, bk ac, bk af, some aa] ++ O) (G none 0 0) ([] : List Tag) ∧ Fb a8 ([bk none, bk none, bk ae, bk ad, some ab, bk ac, bk af, some aa] ++ O) au [vs o.Id, vi o.Shape.Kind, G A2 n3 c4, G A7 n8 c9] ∧ Fb a8 ([bk none, bk none, bk ae, bk ad, some ab, bk ac, bk af, some aa] ++ O) ai [vs a.Id, vi a.Shape.Kind, G a2 a3 a4, G am an ao] ∧ Fb a8 ([bk none, bk none, bk ae, bk ad, some ab, bk ac, bk af, some aa] ++ O) av [vs b.Id, vi b.Shape.Kind, G bp bq br, G a5 a6 a7] ∧ Bx a8 aa [vs ([] : Str), vi 0, G none 0 0, G none 0 0] ∧ Bx a8 ab [vs a.Id, vi r3.Kind, G ac ak al, G ae ax ay])) ?_ ?_
  ·refine Xr (!r7) Z (fun f9 => ?_) (fun f9 => ?_)
   ·have H := Xh H f9;refine Xe (Xc (G ag bz b0) Z (Xc (G ad bi bj) Z (Xc (vi i2) Z ?_)));obtain ⟨jb, H⟩ := H;have ga := (em.sn az);obtain ⟨jc, rf, mn, mo, mp⟩ := ga.get default (by decide) i2 jb;obtain ⟨rfl, rg⟩ := Kd.str.op mo;refine Xa (X3 u34_ Ze ad jc bi bj ga.len i2 Z mn Z jb) (Xa (Xt ag9 cL (jc.add (i2.toNat * 1)) (vs (nth r4 i2)) Z (mp 0 _ Z)) ?_);obtain ⟨jd, H⟩ := H;refine Xa (Z7 ([116, 97, 103, 32] : Str) (nth r4 i2) Z Z jd) (X5 (kd := Kd.str) Ys f8 ([(([116, 97, 103, 32] : Str) ++ (nth r4 i2))] : List Str) (cells := [vs (([116, 97, 103, 32] : Str) ++ (nth r4 i2))]) ⟨[vs (([116, 97, 103, 32] : Str) ++ (nth r4 i2))], _, Z, ⟨Z, (lim_cat jd)⟩, Z⟩ (fun _ => by kernel_rfl) fun rh mq mr ms cb hr2430 ck mt => ?_);obtain ⟨mu, H⟩ := H;have mv := (((f2.sn bl).sn az).so _ cb hr2430);refine Ya Ys ck (G ag bz b0) xs4 ([(([116, 97, 103, 32] : Str) ++ (nth r4 i2))] : List Str) Z mv (G mq mr ms) Z mt.sx 7 Z mu fun ri je jf jg cw bs cl mw => ?_;refine Xf (G je jf jg) Z (Xb ?_);have mx := cl.drop 0 Z;have cc := el.stn az;have cd := f8.stown _ cb hr2430;have ce := cl.std 0 Z;have my := (((((fz.st bf).st cc).st cd).st bs).st ce);have mz := (((((eg.st bf).st cc).st cd).st bs).st ce);have m0 := (((((i3.st bf).st cc).st cd).st bs).st ce);have m1 := (((((f0.st bf).st cc).st cd).st bs).st ce);have m2 := (((((i4.st bf).st cc).st cd).st bs).st ce);have m3 := (((((f1.st bf).st cc).st cd).st bs).st ce);have m4 := (cl.sd mw 7 0 Z Z Z);have m5 := (cl.sd (ck.sm (ga.so _ cb hr2430) 4 7 Z Z Z cw bs) 4 0 Z Z Z);have m6 := (cl.sd (ck.sm (((eh.sn bl).sn az).so _ cb hr2430) 6 7 Z Z Z cw bs) 6 0 Z Z Z);have m7 := (cl.sd (ck.sm (((ei.sn bl).sn az).so _ cb hr2430) 3 7 Z Z Z cw bs) 3 0 Z Z Z);have m8 := (cl.sd (ck.sm (((i5.sn bl).sn az).so _ cb hr2430) 2 7 Z Z Z cw bs) 2 0 Z Z Z);have m9 := (cl.sd (ck.sm (((i6.sn bl).sn az).so _ cb hr2430) 1 7 Z Z Z cw bs) 1 0 Z Z Z);have na := ((((f5.st cc).st cd).st bs).st ce);have nb := ((((f6.st cc).st cd).st bs).st ce);have nc := ((((f7.st cc).st cd).st bs).st ce);have nd := (ck.bm (((ej.k0 bl).k0 az).k0 cb) 8 7 Z Z Z cw);have ne := (ck.bm (((ek.k0 bl).k0 az).k0 cb) 5 7 Z Z Z cw);exact ⟨(xs4 ++ ([(([116, 97, 103, 32] : Str) ++ (nth r4 i2))] : List Str)), je, jf, jg, H, (Xn Z), mx, my, mz, m0, m1, m2, m3, m4, m5, m6, m7, m8, m9, na, nb, nc, nd, ne⟩
   have H := Xi H f9;refine Xv ?_;have cf := el.stn az;have nf := ((fz.st bf).st cf);have ng := ((eg.st bf).st cf);have nh := ((i3.st bf).st cf);have ni := ((f0.st bf).st cf);have nj := ((i4.st bf).st cf);have nk := ((f1.st bf).st cf);have nl := ((f2.sn bl).sn az);have nm := (em.sn az);have nn := ((eh.sn bl).sn az);have no := ((ei.sn bl).sn az);have np := ((i5.sn bl).sn az);have nq := ((i6.sn bl).sn az);have nr := (f5.st cf);have ns := (f6.st cf);have nt := (f7.st cf);have nu := ((ej.k0 bl).k0 az);have nv := ((ek.k0 bl).k0 az);exact ⟨xs4, ag, bz, b0, H, (Xn Z), f8, nf, ng, nh, ni, nj, nk, nl, nm, nn, no, np, nq, nr, ns, nt, nu, nv⟩
  rintro rj a8 ⟨xs6, af, ci, cj, nw, nx, en, gb, gc, gd, gf, gg, gh, gi, jh, gj, gk, gl, gm, gn, gp, gq, gs, gt⟩;obtain ⟨rk, rfl⟩ := Has.ins nx;have H := mm xs6 nw;refine Xd (Xe (Xc (vb r6) Z (Xb ?_)));obtain ⟨dd, H, ny⟩ := H;refine Y3 (J := (fun t a9 => ∃ (xs7 : List Tag) (a0 : Option Addr) (eo : Nat) (ep : Nat), dd xs7 ∧ Has t [(3, .pointer (some ⟨au, 0, none⟩)), (4, .pointer (some ⟨ai, 0, none⟩)), (5, .pointer (some ⟨av, 0, none⟩)), (6, .pointer (some ⟨aa, 0, none⟩)), (8, G af ci cj), (11, .pointer (some ⟨ab, 0, none⟩)), (12, G ad bi bj), (13, vi i2)] ∧ Ct [] w0 a9 [bk none, bk none, bk a0, bk ad, some ab, bk ac, bk af, some aa] O ∧ Sl kPt a9 (Fr ([bk none, bk none, bk a0, bk ad, some ab, bk ac, bk af, some aa] ++ O)) (G a2 a3 a4) a.Shape.Pts ∧ Sl kTag a9 (Fr ([bk none, bk none, bk a0, bk ad, some ab, bk ac, bk af, some aa] ++ O)) (G am an ao) a.Tags ∧ Sl kPt a9 (Fr ([bk none, bk none, bk a0, bk ad, some ab, bk ac, bk af, some aa] ++ O)) (G bp bq br) b.Shape.Pts ∧ Sl kTag a9 (Fr ([bk none, bk none, bk a0, bk ad, some ab, bk ac, bk af, some aa] ++ O)) (G a5 a6 a7) b.Tags ∧ Sl kPt a9 (Fr ([bk none, bk none, bk a0, bk ad, some ab, bk ac, bk af, some aa] ++ O)) (G A2 n3 c4) o.Shape.Pts ∧ Sl kTag a9 (Fr ([bk none, bk none, bk a0, bk ad, some ab, bk ac, bk af, some aa] ++ O)) (G A7 n8 c9) o.Tags ∧ Ow Kd.str 9 a9 ([bk none, bk none, bk a0, bk ad, some ab, bk ac, bk af, some aa] ++ O) (G af ci cj) xs6 ∧ Ow Kd.str 9 a9 ([bk none, bk none, bk a0, bk ad, some ab, bk ac, bk af, some aa] ++ O) (G ad bi bj) r4 ∧ Ow kPt 61 a9 ([bk none, bk none, bk a0, bk ad, some ab, bk ac, bk af, some aa] ++ O) (G ac ak al) r3.Pts ∧ Ow kTag 78 a9 ([bk none, bk none, bk a0, bk ad, some ab, bk ac, bk af, some aa] ++ O) (G a0 eo ep) xs7 ∧ Ow kPt 61 a9 ([bk none, bk none, bk a0, bk ad, some ab, bk ac, bk af, some aa] ++ O) (G none 0 0) ([] : List Pt) ∧ Ow kTag 78 a9 ([bk none, bk none, bk a0, bk ad, some ab, bk ac, bk af, some aa] ++ O) (G none 0 0) ([] : List Tag) ∧ Fb a9 ([bk none, bk none, bk a0, bk ad, some ab, bk ac, bk af, some aa] ++ O) au [vs o.Id, vi o.Shape.Kind, G A2 n3 c4, G A7 n8 c9] ∧ Fb a9 ([bk none, bk none, bk a0, bk ad, some ab, bk ac, bk af, some aa] ++ O) ai [vs a.Id, vi a.Shape.Kind, G a2 a3 a4, G am an ao] ∧ Fb a9 ([bk none, bk none, bk a0, bk ad, some ab, bk ac, bk af, some aa] ++ O) av [vs b.Id, vi b.Shape.Kind, G bp bq br, G a5 a6 a7] ∧ Bx a9 aa [vs ([] : Str), vi 0, G none 0 0, G none 0 0] ∧ Bx a9 ab [vs a.Id, vi r3.Kind, G ac ak al, G a0 eo ep])) ?_ ?_
  ·refine Xr r6 Z (fun gu => ?_) (fun gu => ?_)
   ·have H := Xh H gu;obtain ⟨ji, H⟩ := H;obtain ⟨jj, H⟩ := H;refine Y3 (J := (fun t ba => ∃ (a1 : Option Addr) (eq : Nat) (er : Nat), Has t [(3, .pointer (some ⟨au, 0, none⟩)), (4, .pointer (some ⟨ai, 0, none⟩)), (5, .pointer (some ⟨av, 0, none⟩)), (6, .pointer (some ⟨aa, 0, none⟩)), (8, G af ci cj), (11, .pointer (some ⟨ab, 0, none⟩)), (12, G ad bi bj), (13, vi i2)] ∧ Ct [] w0 ba [bk none, bk none, bk a1, bk ad, some ab, bk ac, bk af, some aa] O ∧ Sl kPt ba (Fr ([bk none, bk none, bk a1, bk ad, some ab, bk ac, bk af, some aa] ++ O)) (G a2 a3 a4) a.Shape.Pts ∧ Sl kTag ba (Fr ([bk none, bk none, bk a1, bk ad, some ab, bk ac, bk af, some aa] ++ O)) (G am an ao) a.Tags ∧ Sl kPt ba (Fr ([bk none, bk none, bk a1, bk ad, some ab, bk ac, bk af, some aa] ++ O)) (G bp bq br) b.Shape.Pts ∧ Sl kTag ba (Fr ([bk none, bk none, bk a1, bk ad, some ab, bk ac, bk af, some aa] ++ O)) (G a5 a6 a7) b.Tags ∧ Sl kPt ba (Fr ([bk none, bk none, bk a1, bk ad, some ab, bk ac, bk af, some aa] ++ O)) (G A2 n3 c4) o.Shape.Pts ∧ Sl kTag ba (Fr ([bk none, bk none, bk a1, bk ad, some ab, bk ac, bk af, some aa] ++ O)) (G A7 n8 c9) o.Tags ∧ Ow Kd.str 9 ba ([bk none, bk none, bk a1, bk ad, some ab, bk ac, bk af, some aa] ++ O) (G af ci cj) xs6 ∧ Ow Kd.str 9 ba ([bk none, bk none, bk a1, bk ad, some ab, bk ac, bk af, some aa] ++ O) (G ad bi bj) r4 ∧ Ow kPt 61 ba ([bk none, bk none, bk a1, bk ad, some ab, bk ac, bk af, some aa] ++ O) (G ac ak al) r3.Pts ∧ Ow kTag 78 ba ([bk none, bk none, bk a1, bk ad, some ab, bk ac, bk af, some aa] ++ O) (G a1 eq er) (xs5 ++ ([(⟨(nth r4 i2), r5⟩ : Tag)] : List Tag)) ∧ Ow kPt 61 ba ([bk none, bk none, bk a1, bk ad, some ab, bk ac, bk af, some aa] ++ O) (G none 0 0) ([] : List Pt) ∧ Ow kTag 78 ba ([bk none, bk none, bk a1, bk ad, some ab, bk ac, bk af, some aa] ++ O) (G none 0 0) ([] : List Tag) ∧ Fb ba ([bk none, bk none, bk a1, bk ad, some ab, bk ac, bk af, some aa] ++ O) au [vs o.Id, vi o.Shape.Kind, G A2 n3 c4, G A7 n8 c9] ∧ Fb ba ([bk none, bk none, bk a1, bk ad, some ab, bk ac, bk af, some aa] ++ O) ai [vs a.Id, vi a.Shape.Kind, G a2 a3 a4, G am an ao] ∧ Fb ba ([bk none, bk none, bk a1, bk ad, some ab, bk ac, bk af, some aa] ++ O) av [vs b.Id, vi b.Shape.Kind, G bp bq br, G a5 a6 a7] ∧ Bx ba aa [vs ([] : Str), vi 0, G none 0 0, G none 0 0] ∧ Bx ba ab [vs a.Id, vi r3.Kind, G ac ak al, G a1 eq er])) ?_ ?_
    ·refine Y6 12 [bk ae, some ab] (by kernel_rfl) Z fun rl bg b1 => ?_;have c3 := en.k0 bg;refine Xu 0 Z (by kernel_rfl) b1 (Xp fa28_2 ⟨ab, 0, none⟩ ⟨ab, 3, none⟩ Z Z) ?_;refine Xu 2 Z (by kernel_rfl) b1 (Yd (G ad bi bj) Z) ?_;refine Xu 3 Z (by kernel_rfl) b1 (Yd (vi i2) Z) ?_;have es := (jh.sn bg);obtain ⟨jk, rm, gw, nz, n0⟩ := es.get default (by decide) i2 ji;obtain ⟨rfl, jl⟩ := Kd.str.op nz;refine Xu 4 Z (by kernel_rfl) b1 (X3 u34_ Ze ad jk bi bj es.len i2 Z gw Z ji) ?_;refine Xu 5 Z (by kernel_rfl) b1 (Y5 ag9 cR (jk.add (i2.toNat * 1)) (vs (nth r4 i2)) Z (n0 0 _ Z) (nm_cons (by simp only [add_block]; exact (ow_ne c3 (j := 3) (i := 2) Z gw Z (by decide))) (nm_cons (by simp only [add_block]; exact (ow_ne c3 (j := 3) (i := 4) Z gw Z (by decide))) nm_nil))) ?_;refine Xu 6 Z (by kernel_rfl) b1 (Yd (vs r5) Z) ?_;refine Xu 7 Z (by kernel_rfl) b1 (Ym (.agg #[vs (nth r4 i2), vs r5]) (fun _ => by kernel_rfl)) ?_;refine Y0 1 8 (by kernel_rfl) Z Z ?_ ?_
     ·have jm := (gt.k0 bg);refine Xa (Xt ag26 cL ⟨ab, 3, none⟩ (G ae ax ay) Z (jm.cell Z)) ?_;refine Xb ⟨b1, ?_⟩;refine Xy 8 (by kernel_rfl) Z ?_;refine X5 (kd := kTag) Yr c3 ([(⟨(nth r4 i2), r5⟩ : Tag)] : List Tag) (cells := [vs (nth r4 i2), vs r5]) ⟨[vs (nth r4 i2), vs r5], _, Z, (kTag.mk _ _ (⟨(nth r4 i2), r5⟩ : Tag) jl ja), Z⟩ (fun _ => by kernel_rfl) fun rn jn n1 n2 b2 hr2540 cm n4 => ?_;have gx := Gm.tm b1 b2;refine Xb ⟨gx, ?_⟩;refine Xy 9 (by kernel_rfl) Z ?_;have gy := ((gk.sn bg).so _ b2 hr2540);refine Ya Yr cm (G ae ax ay) xs5 ([(⟨(nth r4 i2), r5⟩ : Tag)] : List Tag) Z gy (G jn n1 n2) Z n4.sx 3 Z jj fun n5 cx cy cz bn ah aq gz => ?_;have c0 := Gm.tq gx bn (hv_mem 0 Z);have n6 := hv_app (L := [bk jn, bk none, bk none, bk ae, bk ad, some ab, bk ac, bk af, some aa]) (O := O) (i := 3) gx Z (hv_mem 0 Z) ah aq;refine Xb ⟨c0, ?_⟩;refine Xu 10 Z (by kernel_rfl) c0 (Xp fa28_2 ⟨ab, 0, none⟩ ⟨ab, 3, none⟩ Z Z) ?_;refine Xy 11 (by kernel_rfl) Z ?_;have g1 := (cm.bm (jm.k0 b2) 5 3 Z Z Z bn);refine Xw ab 3 [vs a.Id, vi r3.Kind, G ac ak al, G ae ax ay] [G cx cy cz] [vs a.Id, vi r3.Kind, G ac ak al, G cx cy cz] Z g1 Z sz26 Z Z Z fun n7 ar g2 => ?_;have bo := aq.wr 5 Z ar;have g3 := Gm.tq c0 ar (hv_mem 1 Z);refine Xb ⟨g3, ?_⟩;refine Yl (by kernel_rfl) ?_;have g4 := bo.drop 0 Z;have bb := en.stn bg;have bc := c3.stown _ b2 hr2540;have bd := aq.stw 5 Z ar;have be := bo.std 0 Z;have g5 := (((((gb.st bb).st bc).st ah).st bd).st be);have g6 := (((((gc.st bb).st bc).st ah).st bd).st be);have g7 := (((((gd.st bb).st bc).st ah).st bd).st be);have g8 := (((((gf.st bb).st bc).st ah).st bd).st be);have g9 := (((((gg.st bb).st bc).st ah).st bd).st be);have ha := (((((gh.st bb).st bc).st ah).st bd).st be);have hb := (bo.sd (aq.sw (cm.sm ((gi.sn bg).so _ b2 hr2540) 7 3 Z Z Z bn ah) 7 5 Z Z Z ar) 7 0 Z Z Z);have hc := (bo.sd (aq.sw (cm.sm (es.so _ b2 hr2540) 4 3 Z Z Z bn ah) 4 5 Z Z Z ar) 4 0 Z Z Z);have hd := (bo.sd (aq.sw (cm.sm ((gj.sn bg).so _ b2 hr2540) 6 3 Z Z Z bn ah) 6 5 Z Z Z ar) 6 0 Z Z Z);have he := (bo.sd (aq.sw gz 3 5 Z Z Z ar) 3 0 Z Z Z);have hf := (bo.sd (aq.sw (cm.sm ((gl.sn bg).so _ b2 hr2540) 2 3 Z Z Z bn ah) 2 5 Z Z Z ar) 2 0 Z Z Z);have hg := (bo.sd (aq.sw (cm.sm ((gm.sn bg).so _ b2 hr2540) 1 3 Z Z Z bn ah) 1 5 Z Z Z ar) 1 0 Z Z Z);have hh := (((((gn.st bb).st bc).st ah).st bd).st be);have hi := (((((gp.st bb).st bc).st ah).st bd).st be);have hj := (((((gq.st bb).st bc).st ah).st bd).st be);have hk := (aq.bm (cm.bm ((gs.k0 bg).k0 b2) 8 3 Z Z Z bn) 8 5 Z Z Z ar);have hl := g2;exact ⟨cx, cy, cz, (Xn Z), g4, g5, g6, g7, g8, g9, ha, hb, hc, hd, he, hf, hg, hh, hi, hj, hk, hl⟩
     refine X5 (kd := kTag) Yr c3 ([(⟨(nth r4 i2), r5⟩ : Tag)] : List Tag) (cells := [vs (nth r4 i2), vs r5]) ⟨[vs (nth r4 i2), vs r5], _, Z, (kTag.mk _ _ (⟨(nth r4 i2), r5⟩ : Tag) jl ja), Z⟩ (fun _ => by kernel_rfl) fun ro jo n9 oa b3 hr2539 cn ob => ?_;have et := Gm.tm b1 b3;refine Xb ⟨et, ?_⟩;refine Xy 1 (by kernel_rfl) Z ?_;have jp := ((gt.k0 bg).k0 b3);refine Xa (Xt ag26 cL ⟨ab, 3, none⟩ (G ae ax ay) Z (jp.cell Z)) ?_;refine Xb ⟨et, ?_⟩;refine Xy 9 (by kernel_rfl) Z ?_;have gy := ((gk.sn bg).so _ b3 hr2539);refine Ya Yr cn (G ae ax ay) xs5 ([(⟨(nth r4 i2), r5⟩ : Tag)] : List Tag) Z gy (G jo n9 oa) Z ob.sx 3 Z jj fun n5 cx cy cz bn ah aq gz => ?_;have c0 := Gm.tq et bn (hv_mem 0 Z);have n6 := hv_app (L := [bk jo, bk none, bk none, bk ae, bk ad, some ab, bk ac, bk af, some aa]) (O := O) (i := 3) et Z (hv_mem 0 Z) ah aq;refine Xb ⟨c0, ?_⟩;refine Xu 10 Z (by kernel_rfl) c0 (Xp fa28_2 ⟨ab, 0, none⟩ ⟨ab, 3, none⟩ Z Z) ?_;refine Xy 11 (by kernel_rfl) Z ?_;have g1 := (cn.bm jp 5 3 Z Z Z bn);refine Xw ab 3 [vs a.Id, vi r3.Kind, G ac ak al, G ae ax ay] [G cx cy cz] [vs a.Id, vi r3.Kind, G ac ak al, G cx cy cz] Z g1 Z sz26 Z Z Z fun n7 ar g2 => ?_;have bo := aq.wr 5 Z ar;have g3 := Gm.tq c0 ar (hv_mem 1 Z);refine Xb ⟨g3, ?_⟩;refine Yl (by kernel_rfl) ?_;have g4 := bo.drop 0 Z;have bb := en.stn bg;have bc := c3.stown _ b3 hr2539;have bd := aq.stw 5 Z ar;have be := bo.std 0 Z;have g5 := (((((gb.st bb).st bc).st ah).st bd).st be);have g6 := (((((gc.st bb).st bc).st ah).st bd).st be);have g7 := (((((gd.st bb).st bc).st ah).st bd).st be);have g8 := (((((gf.st bb).st bc).st ah).st bd).st be);have g9 := (((((gg.st bb).st bc).st ah).st bd).st be);have ha := (((((gh.st bb).st bc).st ah).st bd).st be);have hb := (bo.sd (aq.sw (cn.sm ((gi.sn bg).so _ b3 hr2539) 7 3 Z Z Z bn ah) 7 5 Z Z Z ar) 7 0 Z Z Z);have hc := (bo.sd (aq.sw (cn.sm (es.so _ b3 hr2539) 4 3 Z Z Z bn ah) 4 5 Z Z Z ar) 4 0 Z Z Z);have hd := (bo.sd (aq.sw (cn.sm ((gj.sn bg).so _ b3 hr2539) 6 3 Z Z Z bn ah) 6 5 Z Z Z ar) 6 0 Z Z Z);have he := (bo.sd (aq.sw gz 3 5 Z Z Z ar) 3 0 Z Z Z);have hf := (bo.sd (aq.sw (cn.sm ((gl.sn bg).so _ b3 hr2539) 2 3 Z Z Z bn ah) 2 5 Z Z Z ar) 2 0 Z Z Z);have hg := (bo.sd (aq.sw (cn.sm ((gm.sn bg).so _ b3 hr2539) 1 3 Z Z Z bn ah) 1 5 Z Z Z ar) 1 0 Z Z Z);have hh := (((((gn.st bb).st bc).st ah).st bd).st be);have hi := (((((gp.st bb).st bc).st ah).st bd).st be);have hj := (((((gq.st bb).st bc).st ah).st bd).st be);have hk := (aq.bm (cn.bm ((gs.k0 bg).k0 b3) 8 3 Z Z Z bn) 8 5 Z Z Z ar);have hl := g2;exact ⟨cx, cy, cz, (Xn Z), g4, g5, g6, g7, g8, g9, ha, hb, hc, hd, he, hf, hg, hh, hi, hj, hk, hl⟩
    rintro rp ba ⟨a1, eq, er, oc, od, oe, og, oh, oi, oj, ol, om, on, oo, oq, os, ot, ou, ov, ow, ox, oy⟩;obtain ⟨rq, rfl⟩ := Has.ins oc;exact ⟨(xs5 ++ ([(⟨(nth r4 i2), r5⟩ : Tag)] : List Tag)), a1, eq, er, H, (Xn Z), od, oe, og, oh, oi, oj, ol, om, on, oo, oq, os, ot, ou, ov, ow, ox, oy⟩
   have H := Xi H gu;exact Xv ⟨xs5, ae, ax, ay, H, (Xn Z), en, gb, gc, gd, gf, gg, gh, gi, jh, gj, gk, gl, gm, gn, gp, gq, gs, gt⟩
  rintro rr a9 ⟨xs7, a0, eo, ep, oz, o0, o1, o2, o3, o4, o5, o6, o7, o8, o9, pa, pb, pd, pe, pf, pg, ph, pi, pj⟩;obtain ⟨rs, rfl⟩ := Has.ins o0;have H := ny xs7 oz;refine Xe (Xc (vi i2) Z ?_);obtain ⟨pk, H⟩ := H;refine Xa (X2 i2 1 Z Z pk) (Xf (vi (i2 + 1)) Z (Xb ?_));obtain ⟨pl, pm⟩ := H;exact ⟨(xs6, af, ci, cj, i2 + 1, xs7, a0, eo, ep), pm, pl, (Xn Z), o1, o2, o3, o4, o5, o6, o7, o8, o9, pa, pb, pd, pe, pf, pg, ph, pi, pj⟩
 have H := Xi H f4;refine Yh (xin_hit ?_);refine Xd (Xd (Xe (Xa (Xs ag28 sz28 cL ⟨ab, 0, none⟩ [vs a.Id, vi r3.Kind, G ac ak al, G ae ax ay] Z Z (ek.cells (off := 0) Z)) ?_)));have pn := cv.gv eh 5 Z;have hm := cv.drop 5 Z;have po := (cv.sd ei 2 5 Z Z Z);have pp := hm.gv po 2 Z;have pq : Ct [] w0 ap [bk none, bk none, bk ad, some ab, bk ag, some aa] O := hm.drop 2 Z;have pr := hm.std 2 Z;refine Xo go13 [.agg #[vs a.Id, vi r3.Kind, G ac ak al, G ae ax ay]] Z ((F84.calls ap pq.ok (⟨a.Id, r3, xs5⟩ : Feat) ac ak al ae ax ay e3 (pn.st pr) pp _ H).mono ?_);rintro _ ps ⟨r8, rfl, H, co⟩;have dg := cv.k0 co;refine Xa (Yf r8 Z) (Xb ?_);refine Xr (!r8) Z (fun hn => ?_) (fun hn => ?_)
 ·have H := Xh H hn;refine Xd ?_;have eu : ([bk none, bk none, bk ae, bk ad, some ab, bk ac, bk ag, some aa] : Ob).Perm ((bk ae :: bk ad :: some ab :: bk ac :: bk ag :: []) ++ [bk none, bk none, some aa]) := (pc fun a => by (try simp only [pca, pcc, pcn, Nat.add_zero, Nat.zero_add]); first | done | ac_rfl);have jq := dg.drops eu;refine Xe ?_;have ho := cv.stn co;have pt := ((i7.st ho).st (St.drops _ O eu));refine Xa (Xs ag28 sz28 cL ⟨ai, 0, none⟩ [vs a.Id, vi a.Shape.Kind, G a2 a3 a4, G am an ao] Z Z (pt.cells (off := 0) Z)) ?_;have pu := ((fz.st ho).st (St.drops _ O eu));have pv := ((eg.st ho).st (St.drops _ O eu));refine Xo go42 [.agg #[vs a.Id, vi a.Shape.Kind, G a2 a3 a4, G am an ao]] Z ((F80.calls ps jq.ok a a2 a3 a4 am an ao e3 pu pv _ H).mono ?_);rintro _ pw ⟨r9, c5, ev, ew, c6, ex, ey, rfl, H, jr, px, py, pz, p0, p1⟩;have p2 : Ct [] w0 pw [bk c5, bk c6, bk none, bk none, some aa] O := jq.owns jr px py;refine X5 (kd := Kd.str) Ys p2 ([([109, 117, 99, 104] : Str)] : List Str) (cells := [vs ([109, 117, 99, 104] : Str)]) ⟨[vs ([109, 117, 99, 104] : Str)], _, Z, ⟨Z, (by decide : Lim ([109, 117, 99, 104] : Str))⟩, Z⟩ (fun _ => by kernel_rfl) fun rt ez hp hq hr hr4606 e0 p3 => ?_;have p4 := (((ej.k0 co).k0 jr).k0 hr);refine Xw aa 0 [vs ([] : Str), vi 0, G none 0 0, G none 0 0] [vs r9.Id, vi r9.Shape.Kind, G c5 ev ew, G c6 ex ey] [vs r9.Id, vi r9.Shape.Kind, G c5 ev ew, G c6 ex ey] Z p4 Z sz28 Z Z Z fun p5 e1 p6 => ?_;have dh := e0.wr 5 Z e1;refine Xf (G ez hp hq) Z (Xb (Xm ?_));have p7 := dh.bgv p6 5 Z;have di := dh.drop 5 Z;have dj := di.drop 3 Z;have dk : Ct [] w0 p5 [bk ez, bk c5, bk c6] O := dj.drop 3 Z;have dl := dk.perm (.swap _ _ _);have hs := dl.perm (.cons _ (.swap _ _ _));have p8 := di.std 3 Z;have p9 := dj.std 3 Z;have qa := dk.stp (.swap _ _ _);have qb := dl.stp (.cons _ (.swap _ _ _));have qc := ((((p7.st p8).st p9).st qa).st qb);have qd := (dl.sp (dk.sp (dj.sd (di.sd (dh.sd (e0.sw (p0.so _ hr hr4606) 1 5 Z Z Z e1) 1 5 Z Z Z) 1 3 Z Z Z) 1 3 Z Z Z) (.swap _ _ _)) (.cons _ (.swap _ _ _)));have qe := (dl.sp (dk.sp (dj.sd (di.sd (dh.sd (e0.sw (p1.so _ hr hr4606) 2 5 Z Z Z e1) 2 5 Z Z Z) 2 3 Z Z Z) 2 3 Z Z Z) (.swap _ _ _)) (.cons _ (.swap _ _ _)));have qf := (dl.sp (dk.sp (dj.sd (di.sd (dh.sd (e0.sw p3 0 5 Z Z Z e1) 0 5 Z Z Z) 0 3 Z Z Z) 0 3 Z Z Z) (.swap _ _ _)) (.cons _ (.swap _ _ _)));exact ⟨[.agg #[vs r9.Id, vi r9.Shape.Kind, G c5 ev ew, G c6 ex ey], G ez hp hq], ⟨_, _, Z, qc.1.res Z ag28 sz28, ⟨_, Z, Z⟩⟩, r9, ([([109, 117, 99, 104] : Str)] : List Str), c5, ev, ew, c6, ex, ey, ez, hp, hq, Z, H, hs.gr.g0, hs.ok, hs.ge, pz, qd, qe, qf⟩
 have H := Xi H hn;refine Xv (Xd (Xe ?_));have qg := (ek.k0 co);refine Xa (Xs ag28 sz28 cL ⟨ab, 0, none⟩ [vs a.Id, vi r3.Kind, G ac ak al, G ae ax ay] Z Z (qg.cells (off := 0) Z)) (Xc (G ag bz b0) Z ?_);have qh := (ej.k0 co);refine Xw aa 0 [vs ([] : Str), vi 0, G none 0 0, G none 0 0] [vs a.Id, vi r3.Kind, G ac ak al, G ae ax ay] [vs a.Id, vi r3.Kind, G ac ak al, G ae ax ay] Z qh Z sz28 Z Z Z fun js e2 qi => ?_;have dm := dg.wr 7 Z e2;refine Xf (G ag bz b0) Z (Xb (Xm ?_));have qj := dm.bgv qi 7 Z;have dn := dm.drop 7 Z;have dp : Ct [] w0 js [bk none, bk ae, bk ad, some ab, bk ac, bk ag] O := dn.drop 0 Z;have dq := dp.drop 0 Z;have dr := dq.drop 1 Z;have ds : Ct [] w0 js [bk ae, bk ac, bk ag] O := dr.drop 1 Z;have ht := ds.perm (.swap _ _ _);have qk := dn.std 0 Z;have ql := dp.std 0 Z;have qm := dq.std 1 Z;have qn := dr.std 1 Z;have qo := ds.stp (.swap _ _ _);have qp := (((((qj.st qk).st ql).st qm).st qn).st qo);have qq := (ds.sp (dr.sd (dq.sd (dp.sd (dn.sd (dm.sd (dg.sw (eh.sn co) 5 7 Z Z Z e2) 5 7 Z Z Z) 5 0 Z Z Z) 4 0 Z Z Z) 3 1 Z Z Z) 2 1 Z Z Z) (.swap _ _ _));have qr := (ds.sp (dr.sd (dq.sd (dp.sd (dn.sd (dm.sd (dg.sw (ei.sn co) 2 7 Z Z Z e2) 2 7 Z Z Z) 2 0 Z Z Z) 1 0 Z Z Z) 0 1 Z Z Z) 0 1 Z Z Z) (.swap _ _ _));have qs := (ds.sp (dr.sd (dq.sd (dp.sd (dn.sd (dm.sd (dg.sw (f2.sn co) 6 7 Z Z Z e2) 6 7 Z Z Z) 6 0 Z Z Z) 5 0 Z Z Z) 4 1 Z Z Z) 3 1 Z Z Z) (.swap _ _ _));exact ⟨[.agg #[vs a.Id, vi r3.Kind, G ac ak al, G ae ax ay], G ag bz b0], ⟨_, _, Z, qp.1.res Z ag28 sz28, ⟨_, Z, Z⟩⟩, (⟨a.Id, r3, xs5⟩ : Feat), xs4, ac, ak, al, ae, ax, ay, ag, bz, b0, Z, H, ht.gr.g0, ht.ok, ht.ge, e3, qq, qr, qs⟩
end
section
open Go.RowKit
def F123.E (o : List Feat) (a : List Feat) (b : List Feat) (id : Str) (Q : Feat → Bool → List Str → Prop) : Prop :=
 F99.E o id (fun r r2 => F99.E a id (fun r3 r4 => F99.E b id (fun r5 r6 => (∃ (J134 : Bool → Prop), ((if r4 == r2 then F57.E r3 r (fun r7 => J134 r7) else J134 false)) ∧ ∀ (v : Bool), J134 v → (if v then Q r5 r6 ([] : List Str) else (∃ (J225 : Bool → Prop), ((if r6 == r2 then F57.E r5 r (fun r8 => (if r8 then J225 true else (if r4 == r6 then F57.E r3 r5 (fun r9 => J225 r9) else J225 false))) else (if r4 == r6 then F57.E r3 r5 (fun r10 => J225 r10) else J225 false))) ∧ ∀ (v2 : Bool), J225 v2 → (if v2 then Q r3 r4 ([] : List Str) else (if !r4 then Q r5 true ([([103, 111, 110, 101] : Str)] : List Str) else (if !r6 then Q r3 true ([([103, 111, 110, 101] : Str)] : List Str) else (if !r2 then Q r3 true ([([98, 111, 116, 104] : Str)] : List Str) else F95.E r r3 r5 (fun r11 r12 => Q r11 true r12)))))))))))
theorem F123.calls {O : Ob} (w0 : World) (hO : Ok w0 O) (o : List Feat) (A1 : Option Addr) (n2 c3 : Nat) (hp4 : Sl kFeat w0 (Fr O) (G A1 n2 c3) o) (a : List Feat) (A6 : Option Addr) (n7 c8 : Nat) (hp9 : Sl kFeat w0 (Fr O) (G A6 n7 c8) a) (b : List Feat) (co : Option Addr) (cp cq : Nat) (gg : Sl kFeat w0 (Fr O) (G co cp cq) b) (id : Str) (ei : Lim id) (Q : Feat → Bool → List Str → Prop) (h : F123.E o a b id Q) :
  Ret Tryz.prog 113 [G A1 n2 c3, G A6 n7 c8, G co cp cq, vs id] w0 (fun v w' => ∃ (r0 : Feat) (r1 : Bool) (r2 : List Str) (Aw0 : Option Addr) (nw0 cw0 : Nat) (Aw2 : Option Addr) (nw2 cw2 : Nat) (Aw4 : Option Addr) (nw4 cw4 : Nat), v = .tuple #[.agg #[vs r0.Id, vi r0.Shape.Kind, G Aw0 nw0 cw0, G Aw2 nw2 cw2], vb r1, G Aw4 nw4 cw4] ∧ Q r0 r1 r2 ∧ Gr w0 w' none ∧ Ok w' ([bk Aw0, bk Aw2, bk Aw4] ++ O) ∧ (∀ b, some b ∈ [bk Aw0, bk Aw2, bk Aw4] → w0.heap.size ≤ b) ∧ Lim r0.Id ∧ Ow kPt 61 w' ([bk Aw0, bk Aw2, bk Aw4] ++ O) (G Aw0 nw0 cw0) r0.Shape.Pts ∧ Ow kTag 78 w' ([bk Aw0, bk Aw2, bk Aw4] ++ O) (G Aw2 nw2 cw2) r0.Tags ∧ Ow Kd.str 9 w' ([bk Aw0, bk Aw2, bk Aw4] ++ O) (G Aw4 nw4 cw4) r2) := by
 unfold F123.E at h;have H := h;clear h;have hc0 := Ct.init hO;refine X9 Tryz.func113 Z 97 Z [.cell 8 28, .tmp 9, .tmp 10] Z Z ?_;refine Xd (Xe (Yc [vs [], .int .i64 0, G none 0 0, G none 0 0] ze28 fun gh ai gi hu21 gj ft => ?_));have ej := hc0.own gj (some ai) (Yb gi hu21);refine Xf (vb false) Z (Xf (G none 0 0) Z (Xb (Xd (Xe (Xc (G A1 n2 c3) Z (Xc (vs id) Z ?_))))));refine Xo go148 [G A1 n2 c3, vs id] Z ((F99.calls gh ej.ok o A1 n2 c3 (hp4.st ej.st) id ei _ H).mono ?_);rintro _ nh ⟨r, r2, aj, a1, a2, ae, a3, a4, rfl, H, ek, gk, gl, el, em, en⟩;have gm := ej.owns ek gk gl;refine Xc (.tuple #[.agg #[vs r.Id, vi r.Shape.Kind, G aj a1 a2, G ae a3 a4], vb r2]) Z (Xa (Yg [.agg #[vs r.Id, vi r.Shape.Kind, G aj a1 a2, G ae a3 a4], vb r2] 0 (.agg #[vs r.Id, vi r.Shape.Kind, G aj a1 a2, G ae a3 a4]) Z Z) (Xa (Yg [.agg #[vs r.Id, vi r.Shape.Kind, G aj a1 a2, G ae a3 a4], vb r2] 1 (vb r2) Z Z) (Yc [vs [], .int .i64 0, G none 0 0, G none 0 0] ze28 fun ni ak b9 hu46 b0 gn => ?_)));have b1 := gm.own b0 (some ak) (Yb b9 hu46);refine Xw ak 0 [vs ([] : Str), vi 0, G none 0 0, G none 0 0] [vs r.Id, vi r.Shape.Kind, G aj a1 a2, G ae a3 a4] [vs r.Id, vi r.Shape.Kind, G aj a1 a2, G ae a3 a4] Z gn Z sz28 Z Z Z fun gp b2 fu => ?_;have eo := b1.wr 0 Z b2;refine Xf (vb r2) Z (Xb (Xd (Xe (Xc (G A6 n7 c8) Z (Xc (vs id) Z ?_)))));refine Xo go148 [G A6 n7 c8, vs id] Z ((F99.calls gp eo.ok a A6 n7 c8 (hp9.st eo.st) id ei _ H).mono ?_);rintro _ nj ⟨r3, r4, ab, am, an, aa, ao, ap, rfl, H, bp, gq, ca, cb, ep, eq⟩;have gs := eo.owns bp gq ca;refine Xc (.tuple #[.agg #[vs r3.Id, vi r3.Shape.Kind, G ab am an, G aa ao ap], vb r4]) Z (Xa (Yg [.agg #[vs r3.Id, vi r3.Shape.Kind, G ab am an, G aa ao ap], vb r4] 0 (.agg #[vs r3.Id, vi r3.Shape.Kind, G ab am an, G aa ao ap]) Z Z) (Xa (Yg [.agg #[vs r3.Id, vi r3.Shape.Kind, G ab am an, G aa ao ap], vb r4] 1 (vb r4) Z Z) (Yc [vs [], .int .i64 0, G none 0 0, G none 0 0] ze28 fun nk af be hu75 a6 gt => ?_)));have a7 := gs.own a6 (some af) (Yb be hu75);refine Xw af 0 [vs ([] : Str), vi 0, G none 0 0, G none 0 0] [vs r3.Id, vi r3.Shape.Kind, G ab am an, G aa ao ap] [vs r3.Id, vi r3.Shape.Kind, G ab am an, G aa ao ap] Z gt Z sz28 Z Z Z fun gu a8 fv => ?_;have er := a7.wr 0 Z a8;refine Xf (vb r4) Z (Xb (Xd (Xe (Xc (G co cp cq) Z (Xc (vs id) Z ?_)))));refine Xo go148 [G co cp cq, vs id] Z ((F99.calls gu er.ok b co cp cq (gg.st er.st) id ei _ H).mono ?_);rintro _ nl ⟨r5, r6, ad, aq, ar, ac, au, av, rfl, H, a5, gw, bf, cg, fw, fx⟩;have gx := er.owns a5 gw bf;refine Xc (.tuple #[.agg #[vs r5.Id, vi r5.Shape.Kind, G ad aq ar, G ac au av], vb r6]) Z (Xa (Yg [.agg #[vs r5.Id, vi r5.Shape.Kind, G ad aq ar, G ac au av], vb r6] 0 (.agg #[vs r5.Id, vi r5.Shape.Kind, G ad aq ar, G ac au av]) Z Z) (Xa (Yg [.agg #[vs r5.Id, vi r5.Shape.Kind, G ad aq ar, G ac au av], vb r6] 1 (vb r6) Z Z) (Yc [vs [], .int .i64 0, G none 0 0, G none 0 0] ze28 fun nm ah a9 hu104 ax gy => ?_)));have ay := gx.own ax (some ah) (Yb a9 hu104);refine Xw ah 0 [vs ([] : Str), vi 0, G none 0 0, G none 0 0] [vs r5.Id, vi r5.Shape.Kind, G ad aq ar, G ac au av] [vs r5.Id, vi r5.Shape.Kind, G ad aq ar, G ac au av] Z gy Z sz28 Z Z Z fun nn az fy => ?_;have gz := ay.wr 0 Z az;refine Xf (vb r6) Z (Xb (Xd (Xe (X5 (kd := Kd.str) Ys gz ([] : List Str) (cells := []) Z (fun _ => by kernel_rfl) fun fz ag bg bh aw hr117 cc f0 => ?_))));refine Xf (G ag bg bh) Z (Xb (Xd (X4 (Xd ?_))));obtain ⟨g1, H, g2⟩ := H;refine Y3 (J := (fun t ba => ∃ (v : Bool), g1 v ∧ Has t [(8, .pointer (some ⟨ai, 0, none⟩)), (11, .pointer (some ⟨ak, 0, none⟩)), (12, vb r2), (13, .pointer (some ⟨af, 0, none⟩)), (14, vb r4), (15, .pointer (some ⟨ah, 0, none⟩)), (16, vb r6), (17, G ag bg bh), (39, vb v)] ∧ Ct [] w0 ba [bk ag, some ah, bk ad, bk ac, some af, bk ab, bk aa, some ak, bk aj, bk ae, some ai] O ∧ Ow Kd.str 9 ba ([bk ag, some ah, bk ad, bk ac, some af, bk ab, bk aa, some ak, bk aj, bk ae, some ai] ++ O) (G ag bg bh) ([] : List Str) ∧ Ow kPt 61 ba ([bk ag, some ah, bk ad, bk ac, some af, bk ab, bk aa, some ak, bk aj, bk ae, some ai] ++ O) (G aj a1 a2) r.Shape.Pts ∧ Ow kTag 78 ba ([bk ag, some ah, bk ad, bk ac, some af, bk ab, bk aa, some ak, bk aj, bk ae, some ai] ++ O) (G ae a3 a4) r.Tags ∧ Ow kPt 61 ba ([bk ag, some ah, bk ad, bk ac, some af, bk ab, bk aa, some ak, bk aj, bk ae, some ai] ++ O) (G ad aq ar) r5.Shape.Pts ∧ Ow kTag 78 ba ([bk ag, some ah, bk ad, bk ac, some af, bk ab, bk aa, some ak, bk aj, bk ae, some ai] ++ O) (G ac au av) r5.Tags ∧ Ow kPt 61 ba ([bk ag, some ah, bk ad, bk ac, some af, bk ab, bk aa, some ak, bk aj, bk ae, some ai] ++ O) (G ab am an) r3.Shape.Pts ∧ Ow kTag 78 ba ([bk ag, some ah, bk ad, bk ac, some af, bk ab, bk aa, some ak, bk aj, bk ae, some ai] ++ O) (G aa ao ap) r3.Tags ∧ Bx ba ai [vs ([] : Str), vi 0, G none 0 0, G none 0 0] ∧ Bx ba ak [vs r.Id, vi r.Shape.Kind, G aj a1 a2, G ae a3 a4] ∧ Bx ba af [vs r3.Id, vi r3.Shape.Kind, G ab am an, G aa ao ap] ∧ Bx ba ah [vs r5.Id, vi r5.Shape.Kind, G ad aq ar, G ac au av])) ?_ ?_
 ·refine Xe (Xc (vb r4) Z (Xc (vb r2) Z (Xa (Y7 u4_ r4 r2 (r4 == r2) Z Z Z) (Xc (vb (r4 == r2)) Z ?_))));rcases X8 (r4 == r2) with bq | bq
  ·have H := Xh H bq;refine Xk bq Z ?_;have f1 := ((ay.bm ((fv.k0 a5).k0 ax) 3 0 Z Z Z az).k0 aw);refine Xa (Xs ag28 sz28 cL ⟨af, 0, none⟩ [vs r3.Id, vi r3.Shape.Kind, G ab am an, G aa ao ap] Z Z (f1.cells (off := 0) Z)) (Xk bq Z ?_);have f2 := ((ay.bm (((a7.bm ((fu.k0 bp).k0 a6) 3 0 Z Z Z a8).k0 a5).k0 ax) 6 0 Z Z Z az).k0 aw);refine Xa (Xs ag28 sz28 cL ⟨ak, 0, none⟩ [vs r.Id, vi r.Shape.Kind, G aj a1 a2, G ae a3 a4] Z Z (f2.cells (off := 0) Z)) (Xk bq Z ?_);have g3 := ((ay.sw (((a7.sw (ep.so _ a6 (Xg be)) 1 0 Z Z Z a8).sos a5 bf).so _ ax (Xg a9)) 4 0 Z Z Z az).so _ aw hr117);have g4 := cc.gv g3 5 Z;have cr := cc.drop 5 Z;have g5 := (cc.sd ((ay.sw (((a7.sw (eq.so _ a6 (Xg be)) 2 0 Z Z Z a8).sos a5 bf).so _ ax (Xg a9)) 5 0 Z Z Z az).so _ aw hr117) 6 5 Z Z Z);have g6 := cr.gv g5 5 Z;have ds := cr.drop 5 Z;have g7 := (cr.sd (cc.sd ((ay.sw (((a7.sw (((b1.sw (em.so _ b0 (Xg b9)) 1 0 Z Z Z b2).sos bp ca).so _ a6 (Xg be)) 4 0 Z Z Z a8).sos a5 bf).so _ ax (Xg a9)) 7 0 Z Z Z az).so _ aw hr117) 8 5 Z Z Z) 7 5 Z Z Z);have g8 := ds.gv g7 6 Z;have es : Ct [] w0 fz [bk ag, some ah, bk ad, bk ac, some af, some ak, bk ae, some ai] O := ds.drop 6 Z;have g9 := (ds.sd (cr.sd (cc.sd ((ay.sw (((a7.sw (((b1.sw (en.so _ b0 (Xg b9)) 2 0 Z Z Z b2).sos bp ca).so _ a6 (Xg be)) 5 0 Z Z Z a8).sos a5 bf).so _ ax (Xg a9)) 8 0 Z Z Z az).so _ aw hr117) 9 5 Z Z Z) 8 5 Z Z Z) 7 6 Z Z Z);have ha := es.gv g9 6 Z;have hb := es.drop 6 Z;have hc := cr.std 5 Z;have f3 := ds.std 6 Z;have et := es.std 6 Z;have hd := (((g4.st hc).st f3).st et);have he := ((g6.st f3).st et);refine Xo go149 [.agg #[vs r3.Id, vi r3.Shape.Kind, G ab am an, G aa ao ap], .agg #[vs r.Id, vi r.Shape.Kind, G aj a1 a2, G ae a3 a4]] Z ((F57.calls fz hb.ok r3 ab am an aa ao ap cb hd he r aj a1 a2 ae a3 a4 el (g8.st et) ha _ H).mono ?_);rintro _ no ⟨r7, rfl, H, bl⟩;have hf := cc.k0 bl;refine Xa (Xq true (vb r7) bq Z) (Xf (vb r7) Z (Xb ?_));have hg := (f0.sn bl);have hh := (((ay.sw (((a7.sw (((b1.sw (em.so _ b0 (Xg b9)) 1 0 Z Z Z b2).sos bp ca).so _ a6 (Xg be)) 4 0 Z Z Z a8).sos a5 bf).so _ ax (Xg a9)) 7 0 Z Z Z az).so _ aw hr117).sn bl);have hi := (((ay.sw (((a7.sw (((b1.sw (en.so _ b0 (Xg b9)) 2 0 Z Z Z b2).sos bp ca).so _ a6 (Xg be)) 5 0 Z Z Z a8).sos a5 bf).so _ ax (Xg a9)) 8 0 Z Z Z az).so _ aw hr117).sn bl);have hj := (((ay.sw (fw.so _ ax (Xg a9)) 1 0 Z Z Z az).so _ aw hr117).sn bl);have hk := (((ay.sw (fx.so _ ax (Xg a9)) 2 0 Z Z Z az).so _ aw hr117).sn bl);have hl := (((ay.sw (((a7.sw (ep.so _ a6 (Xg be)) 1 0 Z Z Z a8).sos a5 bf).so _ ax (Xg a9)) 4 0 Z Z Z az).so _ aw hr117).sn bl);have hm := (((ay.sw (((a7.sw (eq.so _ a6 (Xg be)) 2 0 Z Z Z a8).sos a5 bf).so _ ax (Xg a9)) 5 0 Z Z Z az).so _ aw hr117).sn bl);have hn := (((ay.bm (((a7.bm (((b1.bm ((ft.k0 ek).k0 b0) 3 0 Z Z Z b2).k0 bp).k0 a6) 6 0 Z Z Z a8).k0 a5).k0 ax) 9 0 Z Z Z az).k0 aw).k0 bl);have ho := (f2.k0 bl);have hp := (f1.k0 bl);have hq := ((fy.k0 aw).k0 bl);exact ⟨r7, H, (Xn Z), hf, hg, hh, hi, hj, hk, hl, hm, hn, ho, hp, hq⟩
  have H := Xi H bq;refine Xl bq Z (Xl bq Z (Xl bq Z (Xa (Xq false (vb false) bq Z) (Xf (vb false) Z (Xb ?_)))));have hr := ((ay.sw (((a7.sw (((b1.sw (em.so _ b0 (Xg b9)) 1 0 Z Z Z b2).sos bp ca).so _ a6 (Xg be)) 4 0 Z Z Z a8).sos a5 bf).so _ ax (Xg a9)) 7 0 Z Z Z az).so _ aw hr117);have hs := ((ay.sw (((a7.sw (((b1.sw (en.so _ b0 (Xg b9)) 2 0 Z Z Z b2).sos bp ca).so _ a6 (Xg be)) 5 0 Z Z Z a8).sos a5 bf).so _ ax (Xg a9)) 8 0 Z Z Z az).so _ aw hr117);have ht := ((ay.sw (fw.so _ ax (Xg a9)) 1 0 Z Z Z az).so _ aw hr117);have hu := ((ay.sw (fx.so _ ax (Xg a9)) 2 0 Z Z Z az).so _ aw hr117);have hv := ((ay.sw (((a7.sw (ep.so _ a6 (Xg be)) 1 0 Z Z Z a8).sos a5 bf).so _ ax (Xg a9)) 4 0 Z Z Z az).so _ aw hr117);have hw := ((ay.sw (((a7.sw (eq.so _ a6 (Xg be)) 2 0 Z Z Z a8).sos a5 bf).so _ ax (Xg a9)) 5 0 Z Z Z az).so _ aw hr117);have hx := ((ay.bm (((a7.bm (((b1.bm ((ft.k0 ek).k0 b0) 3 0 Z Z Z b2).k0 bp).k0 a6) 6 0 Z Z Z a8).k0 a5).k0 ax) 9 0 Z Z Z az).k0 aw);have hy := ((ay.bm (((a7.bm ((fu.k0 bp).k0 a6) 3 0 Z Z Z a8).k0 a5).k0 ax) 6 0 Z Z Z az).k0 aw);have hz := ((ay.bm ((fv.k0 a5).k0 ax) 3 0 Z Z Z az).k0 aw);have h0 := (fy.k0 aw);exact ⟨false, H, (Xn Z), cc, f0, hr, hs, ht, hu, hv, hw, hx, hy, hz, h0⟩
 rintro np ba ⟨v, h1, h2, bb, ch, ci, cj, b3, b4, cd, ce, ck, cl, cm, b7⟩;obtain ⟨nq, rfl⟩ := Has.ins h2;have H := g2 v h1;refine Xr v Z (fun eu => ?_) (fun eu => ?_)
 ·have H := Xh H eu;refine Xd ?_;have dt : ([bk ag, some ah, bk ad, bk ac, some af, bk ab, bk aa, some ak, bk aj, bk ae, some ai] : Ob).Perm ((some af :: bk ab :: bk aa :: some ak :: bk aj :: bk ae :: []) ++ [bk ag, some ah, bk ad, bk ac, some ai]) := (pc fun a => by (try simp only [pca, pcc, pcn, Nat.add_zero, Nat.zero_add]); first | done | ac_rfl);have du := bb.drops dt;refine Xe ?_;have h3 := b7;refine Xa (Xs ag28 sz28 cL ⟨ah, 0, none⟩ [vs r5.Id, vi r5.Shape.Kind, G ad aq ar, G ac au av] Z Z (h3.cells (off := 0) Z)) (Xc (vb r6) Z (Xc (G ag bg bh) Z ?_));have h4 := ck;refine Xw ai 0 [vs ([] : Str), vi 0, G none 0 0, G none 0 0] [vs r5.Id, vi r5.Shape.Kind, G ad aq ar, G ac au av] [vs r5.Id, vi r5.Shape.Kind, G ad aq ar, G ac au av] Z h4 Z sz28 Z Z Z fun nr dv h5 => ?_;have cs := du.wr 4 Z dv;refine Xf (vb r6) Z (Xf (G ag bg bh) Z (Xb (Xm ?_)));have h6 := cs.bgv h5 4 Z;have ct := cs.drop 4 Z;have cu := ct.drop 1 Z;have cv := cu.perm (.swap _ _ _);have ev := cv.perm (.cons _ (.swap _ _ _));have h7 := ct.std 1 Z;have h8 := cu.stp (.swap _ _ _);have h9 := cv.stp (.cons _ (.swap _ _ _));have ia := (((h6.st h7).st h8).st h9);have ib := (cv.sp (cu.sp (ct.sd (cs.sd (du.sw (bb.odr b3 dt 2 Z) 2 4 Z Z Z dv) 2 4 Z Z Z) 2 1 Z Z Z) (.swap _ _ _)) (.cons _ (.swap _ _ _)));have ic := (cv.sp (cu.sp (ct.sd (cs.sd (du.sw (bb.odr b4 dt 3 Z) 3 4 Z Z Z dv) 3 4 Z Z Z) 3 1 Z Z Z) (.swap _ _ _)) (.cons _ (.swap _ _ _)));have ie := (cv.sp (cu.sp (ct.sd (cs.sd (du.sw (bb.odr ch dt 0 Z) 0 4 Z Z Z dv) 0 4 Z Z Z) 0 1 Z Z Z) (.swap _ _ _)) (.cons _ (.swap _ _ _)));exact ⟨[.agg #[vs r5.Id, vi r5.Shape.Kind, G ad aq ar, G ac au av], vb r6, G ag bg bh], ⟨_, _, Z, ia.1.res Z ag28 sz28, ⟨_, Z, ⟨_, Z, Z⟩⟩⟩, r5, r6, ([] : List Str), ad, aq, ar, ac, au, av, ag, bg, bh, Z, H, ev.gr.g0, ev.ok, ev.ge, cg, ib, ic, ie⟩
 have H := Xi H eu;refine Xd ?_;obtain ⟨ig, H, ih⟩ := H;refine Y3 (J := (fun t bd => ∃ (v2 : Bool), ig v2 ∧ Has t [(8, .pointer (some ⟨ai, 0, none⟩)), (11, .pointer (some ⟨ak, 0, none⟩)), (12, vb r2), (13, .pointer (some ⟨af, 0, none⟩)), (14, vb r4), (15, .pointer (some ⟨ah, 0, none⟩)), (16, vb r6), (17, G ag bg bh), (51, vb v2)] ∧ Ct [] w0 bd [bk ag, some ah, bk ad, bk ac, some af, bk ab, bk aa, some ak, bk aj, bk ae, some ai] O ∧ Ow Kd.str 9 bd ([bk ag, some ah, bk ad, bk ac, some af, bk ab, bk aa, some ak, bk aj, bk ae, some ai] ++ O) (G ag bg bh) ([] : List Str) ∧ Ow kPt 61 bd ([bk ag, some ah, bk ad, bk ac, some af, bk ab, bk aa, some ak, bk aj, bk ae, some ai] ++ O) (G aj a1 a2) r.Shape.Pts ∧ Ow kTag 78 bd ([bk ag, some ah, bk ad, bk ac, some af, bk ab, bk aa, some ak, bk aj, bk ae, some ai] ++ O) (G ae a3 a4) r.Tags ∧ Ow kPt 61 bd ([bk ag, some ah, bk ad, bk ac, some af, bk ab, bk aa, some ak, bk aj, bk ae, some ai] ++ O) (G ad aq ar) r5.Shape.Pts ∧ Ow kTag 78 bd ([bk ag, some ah, bk ad, bk ac, some af, bk ab, bk aa, some ak, bk aj, bk ae, some ai] ++ O) (G ac au av) r5.Tags ∧ Ow kPt 61 bd ([bk ag, some ah, bk ad, bk ac, some af, bk ab, bk aa, some ak, bk aj, bk ae, some ai] ++ O) (G ab am an) r3.Shape.Pts ∧ Ow kTag 78 bd ([bk ag, some ah, bk ad, bk ac, some af, bk ab, bk aa, some ak, bk aj, bk ae, some ai] ++ O) (G aa ao ap) r3.Tags ∧ Bx bd ai [vs ([] : Str), vi 0, G none 0 0, G none 0 0] ∧ Bx bd ak [vs r.Id, vi r.Shape.Kind, G aj a1 a2, G ae a3 a4] ∧ Bx bd af [vs r3.Id, vi r3.Shape.Kind, G ab am an, G aa ao ap] ∧ Bx bd ah [vs r5.Id, vi r5.Shape.Kind, G ad aq ar, G ac au av])) ?_ ?_
 ·refine Xe (Xc (vb r6) Z (Xc (vb r2) Z (Xa (Y7 u4_ r6 r2 (r6 == r2) Z Z Z) (Xc (vb (r6 == r2)) Z ?_))));rcases X8 (r6 == r2) with br | br
  ·have H := Xh H br;refine Xk br Z (Xa (Xs ag28 sz28 cL ⟨ah, 0, none⟩ [vs r5.Id, vi r5.Shape.Kind, G ad aq ar, G ac au av] Z Z (b7.cells (off := 0) Z)) (Xk br Z (Xa (Xs ag28 sz28 cL ⟨ak, 0, none⟩ [vs r.Id, vi r.Shape.Kind, G aj a1 a2, G ae a3 a4] Z Z (cl.cells (off := 0) Z)) (Xk br Z ?_))));have ii := bb.gv b3 2 Z;have cw := bb.drop 2 Z;have ij := (bb.sd b4 3 2 Z Z Z);have ik := cw.gv ij 2 Z;have dw := cw.drop 2 Z;have il := (cw.sd (bb.sd ci 8 2 Z Z Z) 7 2 Z Z Z);have im := dw.gv il 6 Z;have ew : Ct [] w0 ba [bk ag, some ah, some af, bk ab, bk aa, some ak, bk ae, some ai] O := dw.drop 6 Z;have io := (dw.sd (cw.sd (bb.sd cj 9 2 Z Z Z) 8 2 Z Z Z) 7 6 Z Z Z);have ip := ew.gv io 6 Z;have iq := ew.drop 6 Z;have ir := cw.std 2 Z;have f4 := dw.std 6 Z;have ex := ew.std 6 Z;have it := (((ii.st ir).st f4).st ex);have iu := ((ik.st f4).st ex);refine Xo go149 [.agg #[vs r5.Id, vi r5.Shape.Kind, G ad aq ar, G ac au av], .agg #[vs r.Id, vi r.Shape.Kind, G aj a1 a2, G ae a3 a4]] Z ((F57.calls ba iq.ok r5 ad aq ar ac au av cg it iu r aj a1 a2 ae a3 a4 el (im.st ex) ip _ H).mono ?_);rintro _ f5 ⟨r8, rfl, H, al⟩;have b8 := bb.k0 al;refine Xa (Xq true (vb r8) br Z) (Xc (vb r8) Z ?_);rcases X8 r8 with bc | bc
   ·have H := Xh H bc;refine Xl bc Z (Xl bc Z (Xl bc Z (Xl bc Z (Yu Z (Yu Z (Yu Z (Xl bc Z (Xa (Xq true (vb true) bc Z) ?_))))))));refine Xf (vb true) Z (Xb ?_);have iv := (ch.sn al);have iw := (ci.sn al);have ix := (cj.sn al);have iy := (b3.sn al);have iz := (b4.sn al);have i0 := (cd.sn al);have i1 := (ce.sn al);have i2 := (ck.k0 al);have i3 := (cl.k0 al);have i4 := (cm.k0 al);have i5 := (b7.k0 al);exact ⟨true, H, (Xn Z), b8, iv, iw, ix, iy, iz, i0, i1, i2, i3, i4, i5⟩
   have H := Xi H bc;refine Xk bc Z (Xc (vb r4) Z (Xk bc Z (Xc (vb r6) Z (Xk bc Z (Xa (Y7 u4_ r4 r6 (r4 == r6) Z Z Z) (Xk bc Z (Xc (vb (r4 == r6)) Z ?_)))))));rcases X8 (r4 == r6) with bs | bs
   ·have H := Xh H bs;refine Xk bs Z ?_;have f6 := (cm.k0 al);refine Xa (Xs ag28 sz28 cL ⟨af, 0, none⟩ [vs r3.Id, vi r3.Shape.Kind, G ab am an, G aa ao ap] Z Z (f6.cells (off := 0) Z)) (Xk bs Z ?_);have f7 := (b7.k0 al);refine Xa (Xs ag28 sz28 cL ⟨ah, 0, none⟩ [vs r5.Id, vi r5.Shape.Kind, G ad aq ar, G ac au av] Z Z (f7.cells (off := 0) Z)) (Xk bs Z ?_);have i6 := (cd.sn al);have i7 := b8.gv i6 5 Z;have cx := b8.drop 5 Z;have i8 := (b8.sd (ce.sn al) 6 5 Z Z Z);have i9 := cx.gv i8 5 Z;have dx := cx.drop 5 Z;have ja := (cx.sd (b8.sd (b3.sn al) 2 5 Z Z Z) 2 5 Z Z Z);have jb := dx.gv ja 2 Z;have ey : Ct [] w0 f5 [bk ag, some ah, bk ac, some af, some ak, bk aj, bk ae, some ai] O := dx.drop 2 Z;have jc := (dx.sd (cx.sd (b8.sd (b4.sn al) 3 5 Z Z Z) 3 5 Z Z Z) 3 2 Z Z Z);have jd := ey.gv jc 2 Z;have je := ey.drop 2 Z;have jf := cx.std 5 Z;have f8 := dx.std 2 Z;have ez := ey.std 2 Z;have jg := (((i7.st jf).st f8).st ez);have jh := ((i9.st f8).st ez);refine Xo go149 [.agg #[vs r3.Id, vi r3.Shape.Kind, G ab am an, G aa ao ap], .agg #[vs r5.Id, vi r5.Shape.Kind, G ad aq ar, G ac au av]] Z ((F57.calls f5 je.ok r3 ab am an aa ao ap cb jg jh r5 ad aq ar ac au av cg (jb.st ez) jd _ H).mono ?_);rintro _ ns ⟨r9, rfl, H, bn⟩;have ji := b8.k0 bn;refine Xk bc Z (Xa (Xq true (vb r9) bs Z) (Xa (Xq false (vb r9) bc Z) (Xf (vb r9) Z (Xb ?_))));have jj := ((ch.sn al).sn bn);have jk := ((ci.sn al).sn bn);have jl := ((cj.sn al).sn bn);have jm := ((b3.sn al).sn bn);have jn := ((b4.sn al).sn bn);have jo := ((cd.sn al).sn bn);have jp := ((ce.sn al).sn bn);have jq := ((ck.k0 al).k0 bn);have jr := ((cl.k0 al).k0 bn);have js := (f6.k0 bn);have jt := (f7.k0 bn);exact ⟨r9, H, (Xn Z), ji, jj, jk, jl, jm, jn, jo, jp, jq, jr, js, jt⟩
   have H := Xi H bs;refine Xl bs Z (Xl bs Z (Xl bs Z (Xk bc Z (Xa (Xq false (vb false) bs Z) (Xa (Xq false (vb false) bc Z) (Xf (vb false) Z (Xb ?_)))))));have ju := (ch.sn al);have jv := (ci.sn al);have jw := (cj.sn al);have jx := (b3.sn al);have jy := (b4.sn al);have jz := (cd.sn al);have j0 := (ce.sn al);have j1 := (ck.k0 al);have j2 := (cl.k0 al);have j3 := (cm.k0 al);have j4 := (b7.k0 al);exact ⟨false, H, (Xn Z), b8, ju, jv, jw, jx, jy, jz, j0, j1, j2, j3, j4⟩
  have H := Xi H br;refine Xl br Z (Xl br Z (Xl br Z (Xa (Xq false (vb false) br Z) (Xc (vb false) Z (Yq (dj := 60) Z Z Z (Xc (vb r4) Z (Yq (dj := 60) Z Z Z (Xc (vb r6) Z ?_))))))));refine Yq (dj := 60) Z Z Z (Xa (Y7 u4_ r4 r6 (r4 == r6) Z Z Z) (Yq (dj := 60) Z Z Z (Xc (vb (r4 == r6)) Z ?_)));rcases X8 (r4 == r6) with bt | bt
  ·have H := Xh H bt;refine Xk bt Z (Xa (Xs ag28 sz28 cL ⟨af, 0, none⟩ [vs r3.Id, vi r3.Shape.Kind, G ab am an, G aa ao ap] Z Z (cm.cells (off := 0) Z)) (Xk bt Z (Xa (Xs ag28 sz28 cL ⟨ah, 0, none⟩ [vs r5.Id, vi r5.Shape.Kind, G ad aq ar, G ac au av] Z Z (b7.cells (off := 0) Z)) (Xk bt Z ?_))));have j5 := bb.gv cd 5 Z;have cy := bb.drop 5 Z;have j6 := (bb.sd ce 6 5 Z Z Z);have j7 := cy.gv j6 5 Z;have dy := cy.drop 5 Z;have j8 := (cy.sd (bb.sd b3 2 5 Z Z Z) 2 5 Z Z Z);have j9 := dy.gv j8 2 Z;have e0 : Ct [] w0 ba [bk ag, some ah, bk ac, some af, some ak, bk aj, bk ae, some ai] O := dy.drop 2 Z;have ka := (dy.sd (cy.sd (bb.sd b4 3 5 Z Z Z) 3 5 Z Z Z) 3 2 Z Z Z);have kb := e0.gv ka 2 Z;have kc := e0.drop 2 Z;have ke := cy.std 5 Z;have f9 := dy.std 2 Z;have e1 := e0.std 2 Z;have kf := (((j5.st ke).st f9).st e1);have kg := ((j7.st f9).st e1);refine Xo go149 [.agg #[vs r3.Id, vi r3.Shape.Kind, G ab am an, G aa ao ap], .agg #[vs r5.Id, vi r5.Shape.Kind, G ad aq ar, G ac au av]] Z ((F57.calls ba kc.ok r3 ab am an aa ao ap cb kf kg r5 ad aq ar ac au av cg (j9.st e1) kb _ H).mono ?_);rintro _ nt ⟨r10, rfl, H, bo⟩;have kh := bb.k0 bo;refine Yq (dj := 60) Z Z Z (Xa (Xq true (vb r10) bt Z) (Xa (Xq false (vb r10) Z Z) (Xf (vb r10) Z (Xb ?_))));have ki := (ch.sn bo);have kj := (ci.sn bo);have kk := (cj.sn bo);have kl := (b3.sn bo);have km := (b4.sn bo);have kn := (cd.sn bo);have ko := (ce.sn bo);have kp := (ck.k0 bo);have kq := (cl.k0 bo);have kr := (cm.k0 bo);have ks := (b7.k0 bo);exact ⟨r10, H, (Xn Z), kh, ki, kj, kk, kl, km, kn, ko, kp, kq, kr, ks⟩
  have H := Xi H bt;exact Xl bt Z (Xl bt Z (Xl bt Z (Yq (dj := 60) Z Z Z (Xa (Xq false (vb false) bt Z) (Xa (Xq false (vb false) Z Z) (Xf (vb false) Z (Xb ⟨false, H, (Xn Z), bb, ch, ci, cj, b3, b4, cd, ce, ck, cl, cm, b7⟩)))))))
 rintro nu bd ⟨v2, kt, ku, a0, kv, kx, ky, ga, gb, dz, d0, cz, kz, d1, gc⟩;obtain ⟨nv, rfl⟩ := Has.ins ku;have H := ih v2 kt;refine Xr v2 Z (fun e2 => ?_) (fun e2 => ?_)
 ·have H := Xh H e2;refine Xd ?_;have d2 : ([bk ag, some ah, bk ad, bk ac, some af, bk ab, bk aa, some ak, bk aj, bk ae, some ai] : Ob).Perm ((some ah :: bk ad :: bk ac :: some ak :: bk aj :: bk ae :: []) ++ [bk ag, some af, bk ab, bk aa, some ai]) := (pc fun a => by (try simp only [pca, pcc, pcn, Nat.add_zero, Nat.zero_add]); first | done | ac_rfl);have d3 := a0.drops d2;refine Xe ?_;have k1 := d1;refine Xa (Xs ag28 sz28 cL ⟨af, 0, none⟩ [vs r3.Id, vi r3.Shape.Kind, G ab am an, G aa ao ap] Z Z (k1.cells (off := 0) Z)) (Xc (vb r4) Z (Xc (G ag bg bh) Z ?_));have k2 := cz;refine Xw ai 0 [vs ([] : Str), vi 0, G none 0 0, G none 0 0] [vs r3.Id, vi r3.Shape.Kind, G ab am an, G aa ao ap] [vs r3.Id, vi r3.Shape.Kind, G ab am an, G aa ao ap] Z k2 Z sz28 Z Z Z fun nw d4 k3 => ?_;have c0 := d3.wr 4 Z d4;refine Xf (vb r4) Z (Xf (G ag bg bh) Z (Xb (Xm ?_)));have k4 := c0.bgv k3 4 Z;have c1 := c0.drop 4 Z;have c2 := c1.drop 1 Z;have c4 := c2.perm (.swap _ _ _);have e3 := c4.perm (.cons _ (.swap _ _ _));have k5 := c1.std 1 Z;have k6 := c2.stp (.swap _ _ _);have k7 := c4.stp (.cons _ (.swap _ _ _));have k8 := (((k4.st k5).st k6).st k7);have k9 := (c4.sp (c2.sp (c1.sd (c0.sd (d3.sw (a0.odr dz d2 2 Z) 2 4 Z Z Z d4) 2 4 Z Z Z) 2 1 Z Z Z) (.swap _ _ _)) (.cons _ (.swap _ _ _)));have la := (c4.sp (c2.sp (c1.sd (c0.sd (d3.sw (a0.odr d0 d2 3 Z) 3 4 Z Z Z d4) 3 4 Z Z Z) 3 1 Z Z Z) (.swap _ _ _)) (.cons _ (.swap _ _ _)));have lb := (c4.sp (c2.sp (c1.sd (c0.sd (d3.sw (a0.odr kv d2 0 Z) 0 4 Z Z Z d4) 0 4 Z Z Z) 0 1 Z Z Z) (.swap _ _ _)) (.cons _ (.swap _ _ _)));exact ⟨[.agg #[vs r3.Id, vi r3.Shape.Kind, G ab am an, G aa ao ap], vb r4, G ag bg bh], ⟨_, _, Z, k8.1.res Z ag28 sz28, ⟨_, Z, ⟨_, Z, Z⟩⟩⟩, r3, r4, ([] : List Str), ab, am, an, aa, ao, ap, ag, bg, bh, Z, H, e3.gr.g0, e3.ok, e3.ge, cb, k9, la, lb⟩
 have H := Xi H e2;refine Xd (Xe (Xc (vb r4) Z (Xa (Yf r4 Z) (Xf (vb (!r4)) Z (Xb ?_)))));refine Xr (!r4) Z (fun e4 => ?_) (fun e4 => ?_)
 ·have H := Xh H e4;refine Xd ?_;have e5 : ([bk ag, some ah, bk ad, bk ac, some af, bk ab, bk aa, some ak, bk aj, bk ae, some ai] : Ob).Perm ((bk ag :: some af :: bk ab :: bk aa :: some ak :: bk aj :: bk ae :: []) ++ [some ah, bk ad, bk ac, some ai]) := (pc fun a => by (try simp only [pca, pcc, pcn, Nat.add_zero, Nat.zero_add]); first | done | ac_rfl);have lc := a0.drops e5;refine Xe ?_;have ld := gc;refine Xa (Xs ag28 sz28 cL ⟨ah, 0, none⟩ [vs r5.Id, vi r5.Shape.Kind, G ad aq ar, G ac au av] Z Z (ld.cells (off := 0) Z)) (X5 (kd := Kd.str) Ys lc ([([103, 111, 110, 101] : Str)] : List Str) (cells := [vs ([103, 111, 110, 101] : Str)]) ⟨[vs ([103, 111, 110, 101] : Str)], _, Z, ⟨Z, (by decide : Lim ([103, 111, 110, 101] : Str))⟩, Z⟩ (fun _ => by kernel_rfl) fun nx e6 e7 e8 e9 hr390 d5 le => ?_);have lf := (cz.k0 e9);refine Xw ai 0 [vs ([] : Str), vi 0, G none 0 0, G none 0 0] [vs r5.Id, vi r5.Shape.Kind, G ad aq ar, G ac au av] [vs r5.Id, vi r5.Shape.Kind, G ad aq ar, G ac au av] Z lf Z sz28 Z Z Z fun ny d6 lg => ?_;have c5 := d5.wr 4 Z d6;refine Xf (vb true) Z (Xf (G e6 e7 e8) Z (Xb (Xm ?_)));have lh := c5.bgv lg 4 Z;have c6 := c5.drop 4 Z;have c7 := c6.drop 1 Z;have c9 := c7.perm (.swap _ _ _);have fa := c9.perm (.cons _ (.swap _ _ _));have li := c6.std 1 Z;have lj := c7.stp (.swap _ _ _);have lk := c9.stp (.cons _ (.swap _ _ _));have ll := (((lh.st li).st lj).st lk);have lm := (c9.sp (c7.sp (c6.sd (c5.sd (d5.sw ((a0.odr ga e5 1 Z).so _ e9 hr390) 2 4 Z Z Z d6) 2 4 Z Z Z) 2 1 Z Z Z) (.swap _ _ _)) (.cons _ (.swap _ _ _)));have ln := (c9.sp (c7.sp (c6.sd (c5.sd (d5.sw ((a0.odr gb e5 2 Z).so _ e9 hr390) 3 4 Z Z Z d6) 3 4 Z Z Z) 3 1 Z Z Z) (.swap _ _ _)) (.cons _ (.swap _ _ _)));have lo := (c9.sp (c7.sp (c6.sd (c5.sd (d5.sw le 0 4 Z Z Z d6) 0 4 Z Z Z) 0 1 Z Z Z) (.swap _ _ _)) (.cons _ (.swap _ _ _)));exact ⟨[.agg #[vs r5.Id, vi r5.Shape.Kind, G ad aq ar, G ac au av], vb true, G e6 e7 e8], ⟨_, _, Z, ll.1.res Z ag28 sz28, ⟨_, Z, ⟨_, Z, Z⟩⟩⟩, r5, true, ([([103, 111, 110, 101] : Str)] : List Str), ad, aq, ar, ac, au, av, e6, e7, e8, Z, H, fa.gr.g0, fa.ok, fa.ge, cg, lm, ln, lo⟩
 have H := Xi H e4;refine Xd (Xe (Xc (vb r6) Z (Xa (Yf r6 Z) (Xf (vb (!r6)) Z (Xb ?_)))));refine Xr (!r6) Z (fun fb => ?_) (fun fb => ?_)
 ·have H := Xh H fb;refine Xd ?_;have fc : ([bk ag, some ah, bk ad, bk ac, some af, bk ab, bk aa, some ak, bk aj, bk ae, some ai] : Ob).Perm ((bk ag :: some ah :: bk ad :: bk ac :: some ak :: bk aj :: bk ae :: []) ++ [some af, bk ab, bk aa, some ai]) := (pc fun a => by (try simp only [pca, pcc, pcn, Nat.add_zero, Nat.zero_add]); first | done | ac_rfl);have lp := a0.drops fc;refine Xe ?_;have lq := d1;refine Xa (Xs ag28 sz28 cL ⟨af, 0, none⟩ [vs r3.Id, vi r3.Shape.Kind, G ab am an, G aa ao ap] Z Z (lq.cells (off := 0) Z)) (X5 (kd := Kd.str) Ys lp ([([103, 111, 110, 101] : Str)] : List Str) (cells := [vs ([103, 111, 110, 101] : Str)]) ⟨[vs ([103, 111, 110, 101] : Str)], _, Z, ⟨Z, (by decide : Lim ([103, 111, 110, 101] : Str))⟩, Z⟩ (fun _ => by kernel_rfl) fun nz fd fe ff fg hr420 d7 lr => ?_);have ls := (cz.k0 fg);refine Xw ai 0 [vs ([] : Str), vi 0, G none 0 0, G none 0 0] [vs r3.Id, vi r3.Shape.Kind, G ab am an, G aa ao ap] [vs r3.Id, vi r3.Shape.Kind, G ab am an, G aa ao ap] Z ls Z sz28 Z Z Z fun n0 d8 lt => ?_;have da := d7.wr 4 Z d8;refine Xf (vb true) Z (Xf (G fd fe ff) Z (Xb (Xm ?_)));have lu := da.bgv lt 4 Z;have db := da.drop 4 Z;have dc := db.drop 1 Z;have dd := dc.perm (.swap _ _ _);have fh := dd.perm (.cons _ (.swap _ _ _));have lv := db.std 1 Z;have lw := dc.stp (.swap _ _ _);have lx := dd.stp (.cons _ (.swap _ _ _));have ly := (((lu.st lv).st lw).st lx);have lz := (dd.sp (dc.sp (db.sd (da.sd (d7.sw ((a0.odr dz fc 1 Z).so _ fg hr420) 2 4 Z Z Z d8) 2 4 Z Z Z) 2 1 Z Z Z) (.swap _ _ _)) (.cons _ (.swap _ _ _)));have l0 := (dd.sp (dc.sp (db.sd (da.sd (d7.sw ((a0.odr d0 fc 2 Z).so _ fg hr420) 3 4 Z Z Z d8) 3 4 Z Z Z) 3 1 Z Z Z) (.swap _ _ _)) (.cons _ (.swap _ _ _)));have l1 := (dd.sp (dc.sp (db.sd (da.sd (d7.sw lr 0 4 Z Z Z d8) 0 4 Z Z Z) 0 1 Z Z Z) (.swap _ _ _)) (.cons _ (.swap _ _ _)));exact ⟨[.agg #[vs r3.Id, vi r3.Shape.Kind, G ab am an, G aa ao ap], vb true, G fd fe ff], ⟨_, _, Z, ly.1.res Z ag28 sz28, ⟨_, Z, ⟨_, Z, Z⟩⟩⟩, r3, true, ([([103, 111, 110, 101] : Str)] : List Str), ab, am, an, aa, ao, ap, fd, fe, ff, Z, H, fh.gr.g0, fh.ok, fh.ge, cb, lz, l0, l1⟩
 have H := Xi H fb;refine Xd (Xe (Xc (vb r2) Z (Xa (Yf r2 Z) (Xf (vb (!r2)) Z (Xb ?_)))));refine Xr (!r2) Z (fun fi => ?_) (fun fi => ?_)
 ·have H := Xh H fi;refine Xd ?_;have fj : ([bk ag, some ah, bk ad, bk ac, some af, bk ab, bk aa, some ak, bk aj, bk ae, some ai] : Ob).Perm ((bk ag :: some ah :: bk ad :: bk ac :: some ak :: bk aj :: bk ae :: []) ++ [some af, bk ab, bk aa, some ai]) := (pc fun a => by (try simp only [pca, pcc, pcn, Nat.add_zero, Nat.zero_add]); first | done | ac_rfl);have l2 := a0.drops fj;refine Xe ?_;have l3 := d1;refine Xa (Xs ag28 sz28 cL ⟨af, 0, none⟩ [vs r3.Id, vi r3.Shape.Kind, G ab am an, G aa ao ap] Z Z (l3.cells (off := 0) Z)) (X5 (kd := Kd.str) Ys l2 ([([98, 111, 116, 104] : Str)] : List Str) (cells := [vs ([98, 111, 116, 104] : Str)]) ⟨[vs ([98, 111, 116, 104] : Str)], _, Z, ⟨Z, (by decide : Lim ([98, 111, 116, 104] : Str))⟩, Z⟩ (fun _ => by kernel_rfl) fun n1 fk fl fm fn hr450 d9 l4 => ?_);have l5 := (cz.k0 fn);refine Xw ai 0 [vs ([] : Str), vi 0, G none 0 0, G none 0 0] [vs r3.Id, vi r3.Shape.Kind, G ab am an, G aa ao ap] [vs r3.Id, vi r3.Shape.Kind, G ab am an, G aa ao ap] Z l5 Z sz28 Z Z Z fun n3 ea l6 => ?_;have de := d9.wr 4 Z ea;refine Xf (vb true) Z (Xf (G fk fl fm) Z (Xb (Xm ?_)));have l7 := de.bgv l6 4 Z;have df := de.drop 4 Z;have dg := df.drop 1 Z;have dh := dg.perm (.swap _ _ _);have fo := dh.perm (.cons _ (.swap _ _ _));have l8 := df.std 1 Z;have l9 := dg.stp (.swap _ _ _);have ma := dh.stp (.cons _ (.swap _ _ _));have mb := (((l7.st l8).st l9).st ma);have mc := (dh.sp (dg.sp (df.sd (de.sd (d9.sw ((a0.odr dz fj 1 Z).so _ fn hr450) 2 4 Z Z Z ea) 2 4 Z Z Z) 2 1 Z Z Z) (.swap _ _ _)) (.cons _ (.swap _ _ _)));have md := (dh.sp (dg.sp (df.sd (de.sd (d9.sw ((a0.odr d0 fj 2 Z).so _ fn hr450) 3 4 Z Z Z ea) 3 4 Z Z Z) 3 1 Z Z Z) (.swap _ _ _)) (.cons _ (.swap _ _ _)));have me := (dh.sp (dg.sp (df.sd (de.sd (d9.sw l4 0 4 Z Z Z ea) 0 4 Z Z Z) 0 1 Z Z Z) (.swap _ _ _)) (.cons _ (.swap _ _ _)));exact ⟨[.agg #[vs r3.Id, vi r3.Shape.Kind, G ab am an, G aa ao ap], vb true, G fk fl fm], ⟨_, _, Z, mb.1.res Z ag28 sz28, ⟨_, Z, ⟨_, Z, Z⟩⟩⟩, r3, true, ([([98, 111, 116, 104] : Str)] : List Str), ab, am, an, aa, ao, ap, fk, fl, fm, Z, H, fo.gr.g0, fo.ok, fo.ge, cb, mc, md, me⟩
 have H := Xi H fi;refine Xv (Xd (Xe (Xa (Xs ag28 sz28 cL ⟨ak, 0, none⟩ [vs r.Id, vi r.Shape.Kind, G aj a1 a2, G ae a3 a4] Z Z (kz.cells (off := 0) Z)) (Xa (Xs ag28 sz28 cL ⟨af, 0, none⟩ [vs r3.Id, vi r3.Shape.Kind, G ab am an, G aa ao ap] Z Z (d1.cells (off := 0) Z)) (Xa (Xs ag28 sz28 cL ⟨ah, 0, none⟩ [vs r5.Id, vi r5.Shape.Kind, G ad aq ar, G ac au av] Z Z (gc.cells (off := 0) Z)) ?_)))));have mf := a0.gv kx 8 Z;have cf := a0.drop 8 Z;have mg := (a0.sd ky 9 8 Z Z Z);have mh := cf.gv mg 8 Z;have cn := cf.drop 8 Z;have mi := (cf.sd (a0.sd dz 5 8 Z Z Z) 5 8 Z Z Z);have mj := cn.gv mi 5 Z;have di : Ct [] w0 bd [bk ag, some ah, bk ad, bk ac, some af, bk aa, some ak, some ai] O := cn.drop 5 Z;have mk := (cn.sd (cf.sd (a0.sd d0 6 8 Z Z Z) 6 8 Z Z Z) 6 5 Z Z Z);have ml := di.gv mk 5 Z;have eb := di.drop 5 Z;have mm := (di.sd (cn.sd (cf.sd (a0.sd ga 2 8 Z Z Z) 2 8 Z Z Z) 2 5 Z Z Z) 2 5 Z Z Z);have mn := eb.gv mm 2 Z;have fp := eb.drop 2 Z;have mo := (eb.sd (di.sd (cn.sd (cf.sd (a0.sd gb 3 8 Z Z Z) 3 8 Z Z Z) 3 5 Z Z Z) 3 5 Z Z Z) 3 2 Z Z Z);have mp := fp.gv mo 2 Z;have mq : Ct [] w0 bd [bk ag, some ah, some af, some ak, some ai] O := fp.drop 2 Z;have mr := cf.std 8 Z;have gd := cn.std 5 Z;have fq := di.std 5 Z;have ec := eb.std 2 Z;have dk := fp.std 2 Z;have ms := (((((mf.st mr).st gd).st fq).st ec).st dk);have mt := ((((mh.st gd).st fq).st ec).st dk);have mu := (((mj.st fq).st ec).st dk);have mv := ((ml.st ec).st dk);refine Xo go63 [.agg #[vs r.Id, vi r.Shape.Kind, G aj a1 a2, G ae a3 a4], .agg #[vs r3.Id, vi r3.Shape.Kind, G ab am an, G aa ao ap], .agg #[vs r5.Id, vi r5.Shape.Kind, G ad aq ar, G ac au av]] Z ((F95.calls bd mq.ok r aj a1 a2 ae a3 a4 el ms mt r3 ab am an aa ao ap cb mu mv r5 ad aq ar ac au av cg (mn.st dk) mp _ H).mono ?_);rintro _ n4 ⟨r11, r12, bi, bu, bv, bj, bw, bx, bz, b5, b6, rfl, H, fr, mw, gf, mx, my, mz, m0⟩;have m1 := Ok.unl (L := [bk ag, some ah, bk ad, bk ac, some af, bk ab, bk aa, some ak, bk aj, bk ae, some ai]) (L' := [bk ag, some ah, some af, some ak, some ai]) (O := O) a0 fr mw gf;have m2 := Ow.unl (L := [bk ag, some ah, bk ad, bk ac, some af, bk ab, bk aa, some ak, bk aj, bk ae, some ai]) (L' := [bk ag, some ah, some af, some ak, some ai]) (O := O) (fun _ _ _ _ _ _ h => h) (.cons_cons _ (.cons_cons _ (.cons _ (.cons _ (.cons_cons _ (.cons _ (.cons _ (.cons_cons _ (.cons _ (.cons _ (.cons_cons _ (.slnil)))))))))))) my;have m3 := Ow.unl (L := [bk ag, some ah, bk ad, bk ac, some af, bk ab, bk aa, some ak, bk aj, bk ae, some ai]) (L' := [bk ag, some ah, some af, some ak, some ai]) (O := O) (fun _ _ _ _ _ _ h => h) (.cons_cons _ (.cons_cons _ (.cons _ (.cons _ (.cons_cons _ (.cons _ (.cons _ (.cons_cons _ (.cons _ (.cons _ (.cons_cons _ (.slnil)))))))))))) mz;have m4 := Ow.unl (L := [bk ag, some ah, bk ad, bk ac, some af, bk ab, bk aa, some ak, bk aj, bk ae, some ai]) (L' := [bk ag, some ah, some af, some ak, some ai]) (O := O) (fun _ _ _ _ _ _ h => h) (.cons_cons _ (.cons_cons _ (.cons _ (.cons _ (.cons_cons _ (.cons _ (.cons _ (.cons_cons _ (.cons _ (.cons _ (.cons_cons _ (.slnil)))))))))))) m0;have m5 := a0.owns fr m1 gf;refine Xc (.tuple #[.agg #[vs r11.Id, vi r11.Shape.Kind, G bi bu bv, G bj bw bx], G bz b5 b6]) Z (Xa (Yg [.agg #[vs r11.Id, vi r11.Shape.Kind, G bi bu bv, G bj bw bx], G bz b5 b6] 0 (.agg #[vs r11.Id, vi r11.Shape.Kind, G bi bu bv, G bj bw bx]) Z Z) (Xa (Yg [.agg #[vs r11.Id, vi r11.Shape.Kind, G bi bu bv, G bj bw bx], G bz b5 b6] 1 (G bz b5 b6) Z Z) (Yc [vs [], .int .i64 0, G none 0 0, G none 0 0] ze28 fun n5 dl ed hu533 dm m6 => ?_)));have dn := m5.own dm (some dl) (Yb ed hu533);refine Xw dl 0 [vs ([] : Str), vi 0, G none 0 0, G none 0 0] [vs r11.Id, vi r11.Shape.Kind, G bi bu bv, G bj bw bx] [vs r11.Id, vi r11.Shape.Kind, G bi bu bv, G bj bw bx] Z m6 Z sz28 Z Z Z fun n6 dp m7 => ?_;have ee := dn.wr 0 Z dp;refine Xf (G bz b5 b6) Z (Xb (Xd ?_));have ef : ([some dl, bk bi, bk bj, bk bz, bk ag, some ah, bk ad, bk ac, some af, bk ab, bk aa, some ak, bk aj, bk ae, some ai] : Ob).Perm ((bk ag :: some ah :: bk ad :: bk ac :: some af :: bk ab :: bk aa :: some ak :: bk aj :: bk ae :: []) ++ [some dl, bk bi, bk bj, bk bz, some ai]) := (pc fun a => by (try simp only [pca, pcc, pcn, Nat.add_zero, Nat.zero_add]); first | done | ac_rfl);have eg := ee.drops ef;refine Xe ?_;have m8 := m7;refine Xa (Xs ag28 sz28 cL ⟨dl, 0, none⟩ [vs r11.Id, vi r11.Shape.Kind, G bi bu bv, G bj bw bx] Z Z (m8.cells (off := 0) Z)) (Xc (G bz b5 b6) Z ?_);have m9 := (dn.bm ((cz.k0 fr).k0 dm) 14 0 Z Z Z dp);refine Xw ai 0 [vs ([] : Str), vi 0, G none 0 0, G none 0 0] [vs r11.Id, vi r11.Shape.Kind, G bi bu bv, G bj bw bx] [vs r11.Id, vi r11.Shape.Kind, G bi bu bv, G bj bw bx] Z m9 Z sz28 Z Z Z fun n8 eh na => ?_;have dq := eg.wr 4 Z eh;refine Xf (vb true) Z (Xf (G bz b5 b6) Z (Xb (Xm ?_)));have nb := dq.bgv na 4 Z;have dr := dq.drop 4 Z;have fs := dr.drop 0 Z;have nc := dr.std 0 Z;have nd := (nb.st nc);have ne := (dr.sd (dq.sd (eg.sw (ee.odr (dn.sw (m2.so _ dm (Xg ed)) 1 0 Z Z Z dp) ef 1 Z) 1 4 Z Z Z eh) 1 4 Z Z Z) 1 0 Z Z Z);have nf := (dr.sd (dq.sd (eg.sw (ee.odr (dn.sw (m3.so _ dm (Xg ed)) 2 0 Z Z Z dp) ef 2 Z) 2 4 Z Z Z eh) 2 4 Z Z Z) 2 0 Z Z Z);have ng := (dr.sd (dq.sd (eg.sw (ee.odr (dn.sw (m4.so _ dm (Xg ed)) 3 0 Z Z Z dp) ef 3 Z) 3 4 Z Z Z eh) 3 4 Z Z Z) 3 0 Z Z Z);exact ⟨[.agg #[vs r11.Id, vi r11.Shape.Kind, G bi bu bv, G bj bw bx], vb true, G bz b5 b6], ⟨_, _, Z, nd.1.res Z ag28 sz28, ⟨_, Z, ⟨_, Z, Z⟩⟩⟩, r11, true, r12, bi, bu, bv, bj, bw, bx, bz, b5, b6, Z, H, fs.gr.g0, fs.ok, fs.ge, mx, ne, nf, ng⟩
end
section
open Go.RowKit
def F102.E (o : List Feat) (a : List Feat) (b : List Feat) (Q : List Feat → List Clash → Bool → Prop) : Prop :=
 F122.E o a b (fun r => (∃ (I105 : (List Feat) → (List Clash) → (List Str) → Int → Prop) (mu106 : (List Feat) → (List Clash) → (List Str) → Int → Nat), I105 ([] : List Feat) ([] : List Clash) r 0 ∧ ∀ (xs4 : List Feat) (xs5 : List Clash) (xs6 : List Str) (i2 : Int), I105 xs4 xs5 xs6 i2 → (if decide (i2 < (xs6.length : Int)) then ((0 : Int) ≤ i2 ∧ i2 < (xs6.length : Int)) ∧ F123.E o a b (nth xs6 i2) (fun r2 r3 r4 => (if r3 then (xs4.length + ([r2] : List Feat).length ≤ 268435456) ∧ (∃ (I243 : (List Clash) → Int → Prop) (mu244 : (List Clash) → Int → Nat), I243 xs5 0 ∧ ∀ (xs8 : List Clash) (k2 : Int), I243 xs8 k2 → (if decide (k2 < (r4.length : Int)) then ((0 : Int) ≤ i2 ∧ i2 < (xs6.length : Int)) ∧ ((0 : Int) ≤ k2 ∧ k2 < (r4.length : Int)) ∧ (xs8.length + ([(⟨(nth xs6 i2), (nth r4 k2)⟩ : Clash)] : List Clash).length ≤ 268435456) ∧ (-9223372036854775808 ≤ k2) ∧ I243 (xs8 ++ ([(⟨(nth xs6 i2), (nth r4 k2)⟩ : Clash)] : List Clash)) (k2 + 1) ∧ mu244 (xs8 ++ ([(⟨(nth xs6 i2), (nth r4 k2)⟩ : Clash)] : List Clash)) (k2 + 1) < mu244 xs8 k2 else ((r4.length : Int) ≤ 9223372036854775807 → I64 (i2 + 1)) ∧ I105 (xs4 ++ ([r2] : List Feat)) xs8 xs6 (i2 + 1) ∧ mu106 (xs4 ++ ([r2] : List Feat)) xs8 xs6 (i2 + 1) < mu106 xs4 xs5 xs6 i2)) else (∃ (I390 : (List Clash) → Int → Prop) (mu391 : (List Clash) → Int → Nat), I390 xs5 0 ∧ ∀ (xs10 : List Clash) (k4 : Int), I390 xs10 k4 → (if decide (k4 < (r4.length : Int)) then ((0 : Int) ≤ i2 ∧ i2 < (xs6.length : Int)) ∧ ((0 : Int) ≤ k4 ∧ k4 < (r4.length : Int)) ∧ (xs10.length + ([(⟨(nth xs6 i2), (nth r4 k4)⟩ : Clash)] : List Clash).length ≤ 268435456) ∧ (-9223372036854775808 ≤ k4) ∧ I390 (xs10 ++ ([(⟨(nth xs6 i2), (nth r4 k4)⟩ : Clash)] : List Clash)) (k4 + 1) ∧ mu391 (xs10 ++ ([(⟨(nth xs6 i2), (nth r4 k4)⟩ : Clash)] : List Clash)) (k4 + 1) < mu391 xs10 k4 else ((r4.length : Int) ≤ 9223372036854775807 → I64 (i2 + 1)) ∧ I105 xs4 xs10 xs6 (i2 + 1) ∧ mu106 xs4 xs10 xs6 (i2 + 1) < mu106 xs4 xs5 xs6 i2)))) else F101.E xs4 (fun r5 => F76.E xs4 (fun r6 => Q r5 xs5 r6)))))
theorem F102.calls {O : Ob} (w0 : World) (hO : Ok w0 O) (o : List Feat) (A1 : Option Addr) (n2 c3 : Nat) (hp4 : Sl kFeat w0 (Fr O) (G A1 n2 c3) o) (a : List Feat) (A6 : Option Addr) (n7 c8 : Nat) (hp9 : Sl kFeat w0 (Fr O) (G A6 n7 c8) a) (b : List Feat) (ak : Option Addr) (al am : Nat) (dv : Sl kFeat w0 (Fr O) (G ak al am) b) (Q : List Feat → List Clash → Bool → Prop) (h : F102.E o a b Q) :
  Ret Tryz.prog 70 [G A1 n2 c3, G A6 n7 c8, G ak al am] w0 (fun v w' => ∃ (r0 : List Feat) (r1 : List Clash) (r2 : Bool) (Aw0 : Option Addr) (nw0 cw0 : Nat) (Aw2 : Option Addr) (nw2 cw2 : Nat), v = .tuple #[G Aw0 nw0 cw0, G Aw2 nw2 cw2, vb r2] ∧ Q r0 r1 r2 ∧ Gr w0 w' none ∧ Ok w' ([bk Aw0, bk Aw2] ++ O) ∧ (∀ b, some b ∈ [bk Aw0, bk Aw2] → w0.heap.size ≤ b) ∧ Ow kFeat 28 w' ([bk Aw0, bk Aw2] ++ O) (G Aw0 nw0 cw0) r0 ∧ Ow kClash 59 w' ([bk Aw0, bk Aw2] ++ O) (G Aw2 nw2 cw2) r1) := by
 unfold F102.E at h;have H := h;clear h;have hc0 := Ct.init hO;refine X9 Tryz.func70 Z 69 Z [.tmp 6, .tmp 7, .tmp 8] Z Z ?_;refine Xd (Xe (Xf (G none 0 0) Z (Xf (G none 0 0) Z (Xf (vb false) Z (Xb (Xd (Xe (X5 (kd := kFeat) Yx hc0 ([] : List Feat) (cells := []) Z (fun _ => by kernel_rfl) fun i1 dw dx dy i3 hr21 fc fd => ?_))))))));refine Xf (G dw dx dy) Z (Xb (Xd (Xe (X5 (kd := kClash) Y8 fc ([] : List Clash) (cells := []) Z (fun _ => by kernel_rfl) fun fe dz d0 d1 ff hr30 b0 fg => ?_))));refine Xf (G dz d0 d1) Z (Xb (Xd (Xe (Xc (G A1 n2 c3) Z (Xc (G A6 n7 c8) Z (Xc (G ak al am) Z ?_))))));refine Xo go112 [G A1 n2 c3, G A6 n7 c8, G ak al am] Z ((F122.calls fe b0.ok o A1 n2 c3 (hp4.st b0.st) a A6 n7 c8 (hp9.st b0.st) b ak al am (dv.st b0.st) _ H).mono ?_);rintro _ i4 ⟨r, d2, d3, d4, rfl, H, cg, fh, ch, fi⟩;have b2 := b0.owns cg fh ch;refine Xf (G d2 d3 d4) Z (Xb (Xd (Xd (Xe (Xf (vi 0) Z (Xb (X4 ?_)))))));obtain ⟨fj, fk, ci, H⟩ := H;have fl := ((fd.so _ ff hr30).sos cg ch);have fm := (fg.sos cg ch);refine Yk (α := (List Feat) × (Option Addr) × Nat × Nat × (List Clash) × (Option Addr) × Nat × Nat × (List Str) × (Option Addr) × Nat × Nat × Int) (fun (sv__ : (List Feat) × (Option Addr) × Nat × Nat × (List Clash) × (Option Addr) × Nat × Nat × (List Str) × (Option Addr) × Nat × Nat × Int) t a1 => match sv__ with | (xs4, ac, an, ao, xs5, ad, a6, a7, xs6, aa, ag, ah, i2) => fj xs4 xs5 xs6 i2 ∧ Has t [(0, G A1 n2 c3), (1, G A6 n7 c8), (2, G ak al am), (9, G ac an ao), (10, G ad a6 a7), (11, G aa ag ah), (12, vi i2)] ∧ Ct [] w0 a1 [bk aa, bk ad, bk ac] O ∧ Sl kFeat a1 (Fr ([bk aa, bk ad, bk ac] ++ O)) (G A1 n2 c3) o ∧ Sl kFeat a1 (Fr ([bk aa, bk ad, bk ac] ++ O)) (G A6 n7 c8) a ∧ Sl kFeat a1 (Fr ([bk aa, bk ad, bk ac] ++ O)) (G ak al am) b ∧ Ow kFeat 28 a1 ([bk aa, bk ad, bk ac] ++ O) (G ac an ao) xs4 ∧ Ow kClash 59 a1 ([bk aa, bk ad, bk ac] ++ O) (G ad a6 a7) xs5 ∧ Ow Kd.str 9 a1 ([bk aa, bk ad, bk ac] ++ O) (G aa ag ah) xs6) (fun (sv__ : (List Feat) × (Option Addr) × Nat × Nat × (List Clash) × (Option Addr) × Nat × Nat × (List Str) × (Option Addr) × Nat × Nat × Int) => match sv__ with | (xs4, _, _, _, xs5, _, _, _, xs6, _, _, _, i2) => fk xs4 xs5 xs6 i2) (([] : List Feat), dw, dx, dy, ([] : List Clash), dz, d0, d1, r, d2, d3, d4, 0) ⟨ci, (Xn Z), b2, (hp4.st b2.st), (hp9.st b2.st), (dv.st b2.st), fl, fm, fi⟩ ?_;rintro ⟨xs4, ac, an, ao, xs5, ad, a6, a7, xs6, aa, ag, ah, i2⟩ _ a1 ⟨ci, fn, bd, cj, ck, cl, cm, cn, bm⟩;obtain ⟨i5, rfl⟩ := Has.ins fn;have H := H xs4 xs5 xs6 i2 ci;refine Xd (Xd (Xe (Xc (vi i2) Z (Xc (G aa ag ah) Z ?_))));have i6 := bm.le;refine Xa (X6 u34_ aa ag ah bm.len Z) (Xa (Xz i2 (xs6.length : Int) (decide (i2 < (xs6.length : Int))) Z Z Z) (Xb ?_));refine Xr (decide (i2 < (xs6.length : Int))) Z (fun co => ?_) (fun co => ?_)
 ·have H := Xh H co;refine Xv (Xd (X4 (Xd (Xe (Xc (G A1 n2 c3) Z (Xc (G A6 n7 c8) Z (Xc (G ak al am) Z (Xc (G aa ag ah) Z ?_))))))));refine Xc (vi i2) Z ?_;obtain ⟨d5, H⟩ := H;obtain ⟨d6, i7, fo, fp, fq⟩ := bm.get default (by decide) i2 d5;obtain ⟨rfl, fr⟩ := Kd.str.op fp;refine Xa (X3 u34_ Ze aa d6 ag ah bm.len i2 Z fo Z d5) (Xa (Xt ag9 cL (d6.add (i2.toNat * 1)) (vs (nth xs6 i2)) Z (fq 0 _ Z)) ?_);refine Xo go113 [G A1 n2 c3, G A6 n7 c8, G ak al am, vs (nth xs6 i2)] Z ((F123.calls a1 bd.ok o A1 n2 c3 cj a A6 n7 c8 ck b ak al am cl (nth xs6 i2) fr _ H).mono ?_);rintro _ i8 ⟨r2, r3, r4, ax, a2, a3, ay, a4, a5, ab, ae, af, rfl, H, a8, fs, a9, ft, fu, fv, d7⟩;have cp := bd.owns a8 fs a9;refine Xc (.tuple #[.agg #[vs r2.Id, vi r2.Shape.Kind, G ax a2 a3, G ay a4 a5], vb r3, G ab ae af]) Z (Xa (Yg [.agg #[vs r2.Id, vi r2.Shape.Kind, G ax a2 a3, G ay a4 a5], vb r3, G ab ae af] 0 (.agg #[vs r2.Id, vi r2.Shape.Kind, G ax a2 a3, G ay a4 a5]) Z Z) (Xa (Yg [.agg #[vs r2.Id, vi r2.Shape.Kind, G ax a2 a3, G ay a4 a5], vb r3, G ab ae af] 1 (vb r3) Z Z) (Xa (Yg [.agg #[vs r2.Id, vi r2.Shape.Kind, G ax a2 a3, G ay a4 a5], vb r3, G ab ae af] 2 (G ab ae af) Z Z) (Yc [vs [], .int .i64 0, G none 0 0, G none 0 0] ze28 fun i9 bn aq hu149 ar fw => ?_))));have au := cp.own ar (some bn) (Yb aq hu149);refine Xw bn 0 [vs ([] : Str), vi 0, G none 0 0, G none 0 0] [vs r2.Id, vi r2.Shape.Kind, G ax a2 a3, G ay a4 a5] [vs r2.Id, vi r2.Shape.Kind, G ax a2 a3, G ay a4 a5] Z fw Z sz28 Z Z Z fun ja av fx => ?_;have aw := au.wr 0 Z av;refine Xf (vb r3) Z (Xf (G ab ae af) Z (Xb (Xd (Xd (Xe (Xc (vb r3) Z (Xb ?_)))))));refine Xr r3 Z (fun cq => ?_) (fun cq => ?_)
  ·have H := Xh H cq;refine Xe (Xc (G ac an ao) Z (Xa (Xs ag28 sz28 cL ⟨bn, 0, none⟩ [vs r2.Id, vi r2.Shape.Kind, G ax a2 a3, G ay a4 a5] Z Z (fx.cells (off := 0) Z)) ?_));have fy := (au.sw (fu.so _ ar (Xg aq)) 1 0 Z Z Z av);have fz := aw.gv fy 1 Z;have be := aw.drop 1 Z;have f0 := (aw.sd (au.sw (fv.so _ ar (Xg aq)) 2 0 Z Z Z av) 2 1 Z Z Z);have f1 := be.gv f0 1 Z;have d8 := be.drop 1 Z;have b3 := be.std 1 Z;refine X5 (kd := kFeat) Yx d8 ([r2] : List Feat) (cells := [vs r2.Id, vi r2.Shape.Kind, G ax a2 a3, G ay a4 a5]) ⟨[vs r2.Id, vi r2.Shape.Kind, G ax a2 a3, G ay a4 a5], _, Z, (kFeat.mk _ _ r2 ft (fz.st b3) f1), Z⟩ (fun _ => by kernel_rfl) fun jb f2 f3 f4 b1 hr171 b4 f5 => ?_;obtain ⟨f6, H⟩ := H;have f7 := ((be.sd (aw.sd (au.sw ((cm.sos a8 a9).so _ ar (Xg aq)) 6 0 Z Z Z av) 6 1 Z Z Z) 5 1 Z Z Z).so _ b1 hr171);refine Ya Yx b4 (G ac an ao) xs4 ([r2] : List Feat) Z f7 (G f2 f3 f4) Z f5.sx 5 Z f6 fun f8 ap b5 b6 cr bo bp f9 => ?_;refine Xf (G ap b5 b6) Z (Xb (Xd (Xe (Xf (vi 0) Z (Xb (X4 ?_))))));have bq : Ct [] w0 f8 [some bn, bk ab, bk aa, bk ad, bk ap] O := bp.drop 0 Z;have ga := bq.drop 0 Z;obtain ⟨gb, gc, cs, H⟩ := H;have ct := bd.stos a8 a9;have cu := cp.stown _ ar (Xg aq);have cv := au.stw 0 Z av;have cw := aw.std 1 Z;have cx := d8.stown _ b1 hr171;have cy := bp.std 0 Z;have cz := bq.std 0 Z;have gd := (((((((((cj.st ct).st cu).st cv).st cw).st b3).st cx).st bo).st cy).st cz);have gf := (((((((((ck.st ct).st cu).st cv).st cw).st b3).st cx).st bo).st cy).st cz);have gg := (((((((((cl.st ct).st cu).st cv).st cw).st b3).st cx).st bo).st cy).st cz);have gh := (bq.sd (bp.sd f9 5 0 Z Z Z) 4 0 Z Z Z);have gi := (bq.sd (bp.sd (b4.sm ((be.sd (aw.sd (au.sw ((cn.sos a8 a9).so _ ar (Xg aq)) 5 0 Z Z Z av) 5 1 Z Z Z) 4 1 Z Z Z).so _ b1 hr171) 4 5 Z Z Z cr bo) 4 0 Z Z Z) 3 0 Z Z Z);have gj := (bq.sd (bp.sd (b4.sm ((be.sd (aw.sd (au.sw ((bm.sos a8 a9).so _ ar (Xg aq)) 4 0 Z Z Z av) 4 1 Z Z Z) 3 1 Z Z Z).so _ b1 hr171) 3 5 Z Z Z cr bo) 3 0 Z Z Z) 2 0 Z Z Z);have gk := (bq.sd (bp.sd (b4.sm ((be.sd (aw.sd (au.sw (d7.so _ ar (Xg aq)) 3 0 Z Z Z av) 3 1 Z Z Z) 2 1 Z Z Z).so _ b1 hr171) 2 5 Z Z Z cr bo) 2 0 Z Z Z) 1 0 Z Z Z);refine Yk (α := (List Clash) × (Option Addr) × Nat × Nat × Int) (fun (sv__ : (List Clash) × (Option Addr) × Nat × Nat × Int) t ba => match sv__ with | (xs8, ai, br, bs, k2) => gb xs8 k2 ∧ Has t [(0, G A1 n2 c3), (1, G A6 n7 c8), (2, G ak al am), (9, G ap b5 b6), (10, G ai br bs), (11, G aa ag ah), (12, vi i2), (15, G ab ae af), (16, vi k2)] ∧ Ct [] w0 ba [bk ab, bk aa, bk ai, bk ap] O ∧ Sl kFeat ba (Fr ([bk ab, bk aa, bk ai, bk ap] ++ O)) (G A1 n2 c3) o ∧ Sl kFeat ba (Fr ([bk ab, bk aa, bk ai, bk ap] ++ O)) (G A6 n7 c8) a ∧ Sl kFeat ba (Fr ([bk ab, bk aa, bk ai, bk ap] ++ O)) (G ak al am) b ∧ Ow kFeat 28 ba ([bk ab, bk aa, bk ai, bk ap] ++ O) (G ap b5 b6) (xs4 ++ ([r2] : List Feat)) ∧ Ow kClash 59 ba ([bk ab, bk aa, bk ai, bk ap] ++ O) (G ai br bs) xs8 ∧ Ow Kd.str 9 ba ([bk ab, bk aa, bk ai, bk ap] ++ O) (G aa ag ah) xs6 ∧ Ow Kd.str 9 ba ([bk ab, bk aa, bk ai, bk ap] ++ O) (G ab ae af) r4) (fun (sv__ : (List Clash) × (Option Addr) × Nat × Nat × Int) => match sv__ with | (xs8, _, _, _, k2) => gc xs8 k2) (xs5, ad, a6, a7, 0) ⟨cs, (Xn Z), ga, gd, gf, gg, gh, gi, gj, gk⟩ ?_;rintro ⟨xs8, ai, br, bs, k2⟩ _ ba ⟨cs, gl, bf, d9, ea, eb, ec, ed, ee, c0⟩;obtain ⟨jc, rfl⟩ := Has.ins gl;have H := H xs8 k2 cs;refine Xd (Xd (Xe (Xc (vi k2) Z (Xc (G ab ae af) Z ?_))));have ef := c0.le;refine Xa (X6 u34_ ab ae af c0.len Z) (Xa (Xz k2 (r4.length : Int) (decide (k2 < (r4.length : Int))) Z Z Z) (Xb ?_));refine Xr (decide (k2 < (r4.length : Int))) Z (fun b7 => ?_) (fun b7 => ?_)
   ·have H := Xh H b7;refine Xv (Xd (X4 (Y6 13 [bk ai] (by kernel_rfl) Z fun jd bt az => ?_)));have b8 := bf.k0 bt;refine Xu 0 Z (by kernel_rfl) az (Yd (G ai br bs) Z) ?_;refine Xu 1 Z (by kernel_rfl) az (Yd (G aa ag ah) Z) ?_;refine Xu 2 Z (by kernel_rfl) az (Yd (vi i2) Z) ?_;obtain ⟨eg, H⟩ := H;have c1 := (ee.sn bt);obtain ⟨eh, je, ei, gm, gn⟩ := c1.get default (by decide) i2 eg;obtain ⟨rfl, gp⟩ := Kd.str.op gm;refine Xu 3 Z (by kernel_rfl) az (X3 u34_ Ze aa eh ag ah c1.len i2 Z ei Z eg) ?_;refine Xu 4 Z (by kernel_rfl) az (Y5 ag9 cR (eh.add (i2.toNat * 1)) (vs (nth xs6 i2)) Z (gn 0 _ Z) (nm_cons (by simp only [add_block]; exact (ow_ne b8 (j := 1) (i := 2) Z ei Z (by decide))) nm_nil)) ?_;refine Xu 5 Z (by kernel_rfl) az (Yd (G ab ae af) Z) ?_;refine Xu 6 Z (by kernel_rfl) az (Yd (vi k2) Z) ?_;obtain ⟨ej, H⟩ := H;have c2 := (c0.sn bt);obtain ⟨ek, jf, el, gq, gs⟩ := c2.get default (by decide) k2 ej;obtain ⟨rfl, gt⟩ := Kd.str.op gq;refine Xu 7 Z (by kernel_rfl) az (X3 u34_ Ze ab ek ae af c2.len k2 Z el Z ej) ?_;refine Xu 8 Z (by kernel_rfl) az (Y5 ag9 cR (ek.add (k2.toNat * 1)) (vs (nth r4 k2)) Z (gs 0 _ Z) (nm_cons (by simp only [add_block]; exact (ow_ne b8 (j := 0) (i := 2) Z el Z (by decide))) nm_nil)) ?_;refine Xu 9 Z (by kernel_rfl) az (Ym (.agg #[vs (nth xs6 i2), vs (nth r4 k2)]) (fun _ => by kernel_rfl)) ?_;refine Xy 10 (by kernel_rfl) Z ?_;refine X5 (kd := kClash) Y8 b8 ([(⟨(nth xs6 i2), (nth r4 k2)⟩ : Clash)] : List Clash) (cells := [vs (nth xs6 i2), vs (nth r4 k2)]) ⟨[vs (nth xs6 i2), vs (nth r4 k2)], _, Z, (kClash.mk _ _ (⟨(nth xs6 i2), (nth r4 k2)⟩ : Clash) gp gt), Z⟩ (fun _ => by kernel_rfl) fun jg em gu gw bu hr292 b9 gx => ?_;have c4 := Gm.tm az bu;refine Xb ⟨c4, ?_⟩;refine Xy 11 (by kernel_rfl) Z ?_;obtain ⟨gy, H⟩ := H;have gz := ((ed.sn bt).so _ bu hr292);refine Ya Y8 b9 (G ai br bs) xs8 ([(⟨(nth xs6 i2), (nth r4 k2)⟩ : Clash)] : List Clash) Z gz (G em gu gw) Z gx.sx 3 Z gy fun jh en eo ep ca bg bh g1 => ?_;have eq := Gm.tq c4 ca (hv_mem 0 Z);have ji := hv_app (L := [bk em, bk ab, bk aa, bk ai, bk ap]) (O := O) (i := 3) c4 Z (hv_mem 0 Z) bg bh;refine Xb ⟨eq, ?_⟩;refine Xu 12 Z (by kernel_rfl) eq (Y9 (G en eo ep) Z) ?_;refine Yl (by kernel_rfl) ?_;refine Xe (Xc (vi k2) Z ?_);obtain ⟨g2, H⟩ := H;have g3 : I64 (k2 + 1) := i64_succ (of_decide_eq_true b7) ef g2;refine Xa (X2 k2 1 Z Z g3) (Xf (vi (k2 + 1)) Z (Xb ?_));have g4 := bh.drop 0 Z;obtain ⟨g5, g6⟩ := H;have c5 := bf.stn bt;have c6 := b8.stown _ bu hr292;have c7 := bh.std 0 Z;have g7 := ((((d9.st c5).st c6).st bg).st c7);have g8 := ((((ea.st c5).st c6).st bg).st c7);have g9 := ((((eb.st c5).st c6).st bg).st c7);have ha := (bh.sd (b9.sm ((ec.sn bt).so _ bu hr292) 4 3 Z Z Z ca bg) 4 0 Z Z Z);have hb := (bh.sd g1 3 0 Z Z Z);have hc := (bh.sd (b9.sm (c1.so _ bu hr292) 2 3 Z Z Z ca bg) 2 0 Z Z Z);have hd := (bh.sd (b9.sm (c2.so _ bu hr292) 1 3 Z Z Z ca bg) 1 0 Z Z Z);exact ⟨((xs8 ++ ([(⟨(nth xs6 i2), (nth r4 k2)⟩ : Clash)] : List Clash)), en, eo, ep, k2 + 1), g6, g5, (Xn Z), g4, g7, g8, g9, ha, hb, hc, hd⟩
   have H := Xi H b7;refine Yh (xin_hit ?_);refine Xe (Xc (vi i2) Z ?_);obtain ⟨he, H⟩ := H;have hf := he (len_le ef);refine Xa (X2 i2 1 Z Z hf) (Xf (vi (i2 + 1)) Z (Xb ?_));have hg := bf.drop 0 Z;obtain ⟨hh, hi⟩ := H;have c9 := bf.std 0 Z;have hj := (bf.sd ec 3 0 Z Z Z);have hk := (bf.sd ed 2 0 Z Z Z);have hl := (bf.sd ee 1 0 Z Z Z);exact ⟨((xs4 ++ ([r2] : List Feat)), ap, b5, b6, xs8, ai, br, bs, xs6, aa, ag, ah, i2 + 1), hi, hh, (Xn Z), hg, (d9.st c9), (ea.st c9), (eb.st c9), hj, hk, hl⟩
  have H := Xi H cq;refine Xv (Xd ?_);have bc : ([some bn, bk ax, bk ay, bk ab, bk aa, bk ad, bk ac] : Ob).Perm ((some bn :: bk ax :: bk ay :: []) ++ [bk ab, bk aa, bk ad, bk ac]) := (pc fun a => by (try simp only [pca, pcc, pcn, Nat.add_zero, Nat.zero_add]); first | done | ac_rfl);have hm := aw.drops bc;refine Xe (Xf (vi 0) Z (Xb (X4 ?_)));obtain ⟨hn, ho, da, H⟩ := H;have db := bd.stos a8 a9;have dc := cp.stown _ ar (Xg aq);have dd := au.stw 0 Z av;have hp := ((((cj.st db).st dc).st dd).st (St.drops _ O bc));have hq := ((((ck.st db).st dc).st dd).st (St.drops _ O bc));have hr := ((((cl.st db).st dc).st dd).st (St.drops _ O bc));have hs := (aw.odr (au.sw ((cm.sos a8 a9).so _ ar (Xg aq)) 6 0 Z Z Z av) bc 3 Z);have ht := (aw.odr (au.sw ((cn.sos a8 a9).so _ ar (Xg aq)) 5 0 Z Z Z av) bc 2 Z);have hu := (aw.odr (au.sw ((bm.sos a8 a9).so _ ar (Xg aq)) 4 0 Z Z Z av) bc 1 Z);have hv := (aw.odr (au.sw (d7.so _ ar (Xg aq)) 3 0 Z Z Z av) bc 0 Z);refine Yk (α := (List Clash) × (Option Addr) × Nat × Nat × Int) (fun (sv__ : (List Clash) × (Option Addr) × Nat × Nat × Int) t bb => match sv__ with | (xs10, aj, bv, bw, k4) => hn xs10 k4 ∧ Has t [(0, G A1 n2 c3), (1, G A6 n7 c8), (2, G ak al am), (9, G ac an ao), (10, G aj bv bw), (11, G aa ag ah), (12, vi i2), (15, G ab ae af), (16, vi k4)] ∧ Ct [] w0 bb [bk ab, bk aa, bk aj, bk ac] O ∧ Sl kFeat bb (Fr ([bk ab, bk aa, bk aj, bk ac] ++ O)) (G A1 n2 c3) o ∧ Sl kFeat bb (Fr ([bk ab, bk aa, bk aj, bk ac] ++ O)) (G A6 n7 c8) a ∧ Sl kFeat bb (Fr ([bk ab, bk aa, bk aj, bk ac] ++ O)) (G ak al am) b ∧ Ow kFeat 28 bb ([bk ab, bk aa, bk aj, bk ac] ++ O) (G ac an ao) xs4 ∧ Ow kClash 59 bb ([bk ab, bk aa, bk aj, bk ac] ++ O) (G aj bv bw) xs10 ∧ Ow Kd.str 9 bb ([bk ab, bk aa, bk aj, bk ac] ++ O) (G aa ag ah) xs6 ∧ Ow Kd.str 9 bb ([bk ab, bk aa, bk aj, bk ac] ++ O) (G ab ae af) r4) (fun (sv__ : (List Clash) × (Option Addr) × Nat × Nat × Int) => match sv__ with | (xs10, _, _, _, k4) => ho xs10 k4) (xs5, ad, a6, a7, 0) ⟨da, (Xn Z), hm, hp, hq, hr, hs, ht, hu, hv⟩ ?_;rintro ⟨xs10, aj, bv, bw, k4⟩ _ bb ⟨da, hw, bi, er, es, et, eu, ev, ew, de⟩;obtain ⟨jj, rfl⟩ := Has.ins hw;have H := H xs10 k4 da;refine Xd (Xd (Xe (Xc (vi k4) Z (Xc (G ab ae af) Z ?_))));have ex := de.le;refine Xa (X6 u34_ ab ae af de.len Z) (Xa (Xz k4 (r4.length : Int) (decide (k4 < (r4.length : Int))) Z Z Z) (Xb ?_));refine Xr (decide (k4 < (r4.length : Int))) Z (fun cb => ?_) (fun cb => ?_)
  ·have H := Xh H cb;refine Xv (Xd (X4 (Y6 13 [bk aj] (by kernel_rfl) Z fun jk bx a0 => ?_)));have cc := bi.k0 bx;refine Xu 0 Z (by kernel_rfl) a0 (Yd (G aj bv bw) Z) ?_;refine Xu 1 Z (by kernel_rfl) a0 (Yd (G aa ag ah) Z) ?_;refine Xu 2 Z (by kernel_rfl) a0 (Yd (vi i2) Z) ?_;obtain ⟨ey, H⟩ := H;have df := (ew.sn bx);obtain ⟨ez, jl, e0, hx, hy⟩ := df.get default (by decide) i2 ey;obtain ⟨rfl, hz⟩ := Kd.str.op hx;refine Xu 3 Z (by kernel_rfl) a0 (X3 u34_ Ze aa ez ag ah df.len i2 Z e0 Z ey) ?_;refine Xu 4 Z (by kernel_rfl) a0 (Y5 ag9 cR (ez.add (i2.toNat * 1)) (vs (nth xs6 i2)) Z (hy 0 _ Z) (nm_cons (by simp only [add_block]; exact (ow_ne cc (j := 1) (i := 2) Z e0 Z (by decide))) nm_nil)) ?_;refine Xu 5 Z (by kernel_rfl) a0 (Yd (G ab ae af) Z) ?_;refine Xu 6 Z (by kernel_rfl) a0 (Yd (vi k4) Z) ?_;obtain ⟨e1, H⟩ := H;have dg := (de.sn bx);obtain ⟨e2, jm, e3, h0, h1⟩ := dg.get default (by decide) k4 e1;obtain ⟨rfl, h2⟩ := Kd.str.op h0;refine Xu 7 Z (by kernel_rfl) a0 (X3 u34_ Ze ab e2 ae af dg.len k4 Z e3 Z e1) ?_;refine Xu 8 Z (by kernel_rfl) a0 (Y5 ag9 cR (e2.add (k4.toNat * 1)) (vs (nth r4 k4)) Z (h1 0 _ Z) (nm_cons (by simp only [add_block]; exact (ow_ne cc (j := 0) (i := 2) Z e3 Z (by decide))) nm_nil)) ?_;refine Xu 9 Z (by kernel_rfl) a0 (Ym (.agg #[vs (nth xs6 i2), vs (nth r4 k4)]) (fun _ => by kernel_rfl)) ?_;refine Xy 10 (by kernel_rfl) Z ?_;refine X5 (kd := kClash) Y8 cc ([(⟨(nth xs6 i2), (nth r4 k4)⟩ : Clash)] : List Clash) (cells := [vs (nth xs6 i2), vs (nth r4 k4)]) ⟨[vs (nth xs6 i2), vs (nth r4 k4)], _, Z, (kClash.mk _ _ (⟨(nth xs6 i2), (nth r4 k4)⟩ : Clash) hz h2), Z⟩ (fun _ => by kernel_rfl) fun jn e4 h3 h4 bz hr435 cd h5 => ?_;have dh := Gm.tm a0 bz;refine Xb ⟨dh, ?_⟩;refine Xy 11 (by kernel_rfl) Z ?_;obtain ⟨h6, H⟩ := H;have h7 := ((ev.sn bx).so _ bz hr435);refine Ya Y8 cd (G aj bv bw) xs10 ([(⟨(nth xs6 i2), (nth r4 k4)⟩ : Clash)] : List Clash) Z h7 (G e4 h3 h4) Z h5.sx 3 Z h6 fun jo e5 e6 e7 ce bj bl h8 => ?_;have e8 := Gm.tq dh ce (hv_mem 0 Z);have jp := hv_app (L := [bk e4, bk ab, bk aa, bk aj, bk ac]) (O := O) (i := 3) dh Z (hv_mem 0 Z) bj bl;refine Xb ⟨e8, ?_⟩;refine Xu 12 Z (by kernel_rfl) e8 (Y9 (G e5 e6 e7) Z) ?_;refine Yl (by kernel_rfl) ?_;refine Xe (Xc (vi k4) Z ?_);obtain ⟨h9, H⟩ := H;have ia : I64 (k4 + 1) := i64_succ (of_decide_eq_true cb) ex h9;refine Xa (X2 k4 1 Z Z ia) (Xf (vi (k4 + 1)) Z (Xb ?_));have ib := bl.drop 0 Z;obtain ⟨ic, id⟩ := H;have di := bi.stn bx;have dj := cc.stown _ bz hr435;have dk := bl.std 0 Z;have ie := ((((er.st di).st dj).st bj).st dk);have ig := ((((es.st di).st dj).st bj).st dk);have ih := ((((et.st di).st dj).st bj).st dk);have ii := (bl.sd (cd.sm ((eu.sn bx).so _ bz hr435) 4 3 Z Z Z ce bj) 4 0 Z Z Z);have ij := (bl.sd h8 3 0 Z Z Z);have ik := (bl.sd (cd.sm (df.so _ bz hr435) 2 3 Z Z Z ce bj) 2 0 Z Z Z);have il := (bl.sd (cd.sm (dg.so _ bz hr435) 1 3 Z Z Z ce bj) 1 0 Z Z Z);exact ⟨((xs10 ++ ([(⟨(nth xs6 i2), (nth r4 k4)⟩ : Clash)] : List Clash)), e5, e6, e7, k4 + 1), id, ic, (Xn Z), ib, ie, ig, ih, ii, ij, ik, il⟩
  have H := Xi H cb;refine Yh (xin_hit ?_);refine Xe (Xc (vi i2) Z ?_);obtain ⟨im, H⟩ := H;have io := im (len_le ex);refine Xa (X2 i2 1 Z Z io) (Xf (vi (i2 + 1)) Z (Xb ?_));have ip := bi.drop 0 Z;obtain ⟨iq, ir⟩ := H;have dl := bi.std 0 Z;have it := (bi.sd eu 3 0 Z Z Z);have iu := (bi.sd ev 2 0 Z Z Z);have iv := (bi.sd ew 1 0 Z Z Z);exact ⟨(xs4, ac, an, ao, xs10, aj, bv, bw, xs6, aa, ag, ah, i2 + 1), ir, iq, (Xn Z), ip, (er.st dl), (es.st dl), (et.st dl), it, iu, iv⟩
 have H := Xi H co;refine Yh (xin_hit ?_);refine Xd (Xe (Xc (G ac an ao) Z ?_));have e9 := bd.gv cm 2 Z;have dm := bd.drop 2 Z;refine Xo go75 [G ac an ao] Z ((F101.calls a1 dm.ok xs4 ac an ao e9 _ H).mono ?_);rintro _ fa ⟨r5, cf, dn, dp, rfl, H, dq, iw, dr, ix⟩;have fb : Ct [] w0 fa [bk cf, bk aa, bk ad] O := dm.owns dq iw dr;refine Xc (G ad a6 a7) Z (Xc (G ac an ao) Z ?_);have iy := dm.stos dq dr;refine Xo go26 [G ac an ao] Z ((F76.calls fa fb.ok xs4 ac an ao (e9.st iy) _ H).mono ?_);rintro _ jq ⟨r6, rfl, H, ds⟩;have dt := fb.k0 ds;refine Xf (G cf dn dp) Z (Xf (G ad a6 a7) Z (Xf (vb r6) Z (Xb (Xm ?_))));have du := dt.drop 1 Z;have iz := (dt.sd (ix.sn ds) 0 1 Z Z Z);have i0 := (dt.sd (((bd.sd cn 1 2 Z Z Z).sos dq dr).sn ds) 2 1 Z Z Z);exact ⟨[G cf dn dp, G ad a6 a7, vb r6], ⟨_, Z, ⟨_, Z, ⟨_, Z, Z⟩⟩⟩, r5, xs5, r6, cf, dn, dp, ad, a6, a7, Z, H, du.gr.g0, du.ok, du.ge, iz, i0⟩
end
section
open Go.RowKit
def F42.E (base_ : List Feat) (a : List Feat) (b : List Feat) (Q : List Feat → List Clash → Bool → Prop) : Prop :=
 F76.E base_ (fun r => (if !r then Q ([] : List Feat) ([] : List Clash) false else F76.E a (fun r2 => (if !r2 then Q ([] : List Feat) ([] : List Clash) false else F76.E b (fun r3 => (if !r3 then Q ([] : List Feat) ([] : List Clash) false else F102.E base_ a b (fun r4 r5 r6 => (if !r6 then Q ([] : List Feat) ([] : List Clash) false else Q r4 r5 true))))))))
theorem F42.calls {O : Ob} (w0 : World) (hO : Ok w0 O) (base_ : List Feat) (A1 : Option Addr) (n2 c3 : Nat) (hp4 : Sl kFeat w0 (Fr O) (G A1 n2 c3) base_) (a : List Feat) (A6 : Option Addr) (n7 c8 : Nat) (hp9 : Sl kFeat w0 (Fr O) (G A6 n7 c8) a) (b : List Feat) (ai : Option Addr) (aj ak : Nat) (bs : Sl kFeat w0 (Fr O) (G ai aj ak) b) (Q : List Feat → List Clash → Bool → Prop) (h : F42.E base_ a b Q) :
  Ret Tryz.prog 21 [G A1 n2 c3, G A6 n7 c8, G ai aj ak] w0 (fun v w' => ∃ (r0 : List Feat) (r1 : List Clash) (r2 : Bool) (Aw0 : Option Addr) (nw0 cw0 : Nat) (Aw2 : Option Addr) (nw2 cw2 : Nat), v = .tuple #[G Aw0 nw0 cw0, G Aw2 nw2 cw2, vb r2] ∧ Q r0 r1 r2 ∧ Gr w0 w' none ∧ Ok w' ([bk Aw0, bk Aw2] ++ O) ∧ (∀ b, some b ∈ [bk Aw0, bk Aw2] → w0.heap.size ≤ b) ∧ Ow kFeat 28 w' ([bk Aw0, bk Aw2] ++ O) (G Aw0 nw0 cw0) r0 ∧ Ow kClash 59 w' ([bk Aw0, bk Aw2] ++ O) (G Aw2 nw2 cw2) r1) := by
 unfold F42.E at h;have H := h;clear h;have hc0 := Ct.init hO;refine X9 Tryz.func21 Z 41 Z [.tmp 6, .tmp 7, .tmp 8] Z Z ?_;refine Xd (Xe (Xf (G none 0 0) Z (Xf (G none 0 0) Z (Xf (vb false) Z (Xb (Xd (Xd (Xe ?_))))))));refine Xc (G A1 n2 c3) Z ?_;refine Xo go26 [G A1 n2 c3] Z ((F76.calls w0 hc0.ok base_ A1 n2 c3 hp4 _ H).mono ?_);rintro _ bt ⟨r, rfl, H, bu⟩;have am := hc0.k0 bu;refine Xa (Yf r Z) (Xc (vb (!r)) Z ?_);rcases X8 (!r) with aa | aa
 ·have H := Xh H aa;refine Xl aa Z (Xl aa Z (Xl aa Z (Xa (Xq true (vb true) aa Z) (Xc (vb true) Z (Ye (dj := 20) Z Z (.inl Z) (Ye (dj := 20) Z Z (.inl Z) (Ye (dj := 20) Z Z (.inl Z) (Xa (Xq true (vb true) Z Z) ?_))))))));refine Xb (Yt (b := true) Z Z ?_);refine Xd (Xe (X5 (kd := kFeat) Yx am ([] : List Feat) (cells := []) Z (fun _ => by kernel_rfl) fun ct ap aq ar cu hr28 bv bw => ?_));refine X5 (kd := kClash) Y8 bv ([] : List Clash) (cells := []) Z (fun _ => by kernel_rfl) fun cv au av aw bx hr37 ax bz => ?_;refine Xf (G ap aq ar) Z (Xf (G au av aw) Z (Xf (vb false) Z (Xb (Xm ?_))));have ay := ax.perm (.swap _ _ _);have b0 := (ax.sp (bw.so _ bx hr37) (.swap _ _ _));have b1 := (ax.sp bz (.swap _ _ _));exact ⟨[G ap aq ar, G au av aw, vb false], ⟨_, Z, ⟨_, Z, ⟨_, Z, Z⟩⟩⟩, ([] : List Feat), ([] : List Clash), false, ap, aq, ar, au, av, aw, Z, H, ay.gr.g0, ay.ok, ay.ge, b0, b1⟩
 have H := Xi H aa;refine Xk aa Z (Xc (G A6 n7 c8) Z (Xk aa Z ?_));refine Xo go26 [G A6 n7 c8] Z ((F76.calls bt am.ok a A6 n7 c8 (hp9.st am.st) _ H).mono ?_);rintro _ b2 ⟨r2, rfl, H, b3⟩;have an := am.k0 b3;refine Xk aa Z (Xa (Yf r2 Z) (Xa (Xq false (vb (!r2)) aa Z) (Xc (vb (!r2)) Z ?_)));rcases X8 (!r2) with ab | ab
 ·have H := Xh H ab;refine Xl ab Z (Xl ab Z (Xl ab Z (Xa (Xq true (vb true) ab Z) (Xb (Yt (b := true) Z Z ?_)))));refine Xd (Xe (X5 (kd := kFeat) Yx an ([] : List Feat) (cells := []) Z (fun _ => by kernel_rfl) fun cw az a0 a1 cx hr56 b4 b5 => ?_));refine X5 (kd := kClash) Y8 b4 ([] : List Clash) (cells := []) Z (fun _ => by kernel_rfl) fun cy a2 a3 a4 b6 hr65 a5 b7 => ?_;refine Xf (G az a0 a1) Z (Xf (G a2 a3 a4) Z (Xf (vb false) Z (Xb (Xm ?_))));have a6 := a5.perm (.swap _ _ _);have b8 := (a5.sp (b5.so _ b6 hr65) (.swap _ _ _));have b9 := (a5.sp b7 (.swap _ _ _));exact ⟨[G az a0 a1, G a2 a3 a4, vb false], ⟨_, Z, ⟨_, Z, ⟨_, Z, Z⟩⟩⟩, ([] : List Feat), ([] : List Clash), false, az, a0, a1, a2, a3, a4, Z, H, a6.gr.g0, a6.ok, a6.ge, b8, b9⟩
 have H := Xi H ab;refine Xk ab Z (Xc (G ai aj ak) Z (Xk ab Z ?_));refine Xo go26 [G ai aj ak] Z ((F76.calls b2 an.ok b ai aj ak (bs.st an.st) _ H).mono ?_);rintro _ ca ⟨r3, rfl, H, cb⟩;have al := an.k0 cb;refine Xk ab Z (Xa (Yf r3 Z) (Xa (Xq false (vb (!r3)) ab Z) (Xb ?_)));refine Xr (!r3) Z (fun a7 => ?_) (fun a7 => ?_)
 ·have H := Xh H a7;refine Xd (Xe (X5 (kd := kFeat) Yx al ([] : List Feat) (cells := []) Z (fun _ => by kernel_rfl) fun cz a8 a9 ba c0 hr84 cc cd => ?_));refine X5 (kd := kClash) Y8 cc ([] : List Clash) (cells := []) Z (fun _ => by kernel_rfl) fun c1 bb bc bd ce hr93 be cf => ?_;refine Xf (G a8 a9 ba) Z (Xf (G bb bc bd) Z (Xf (vb false) Z (Xb (Xm ?_))));have bf := be.perm (.swap _ _ _);have cg := (be.sp (cd.so _ ce hr93) (.swap _ _ _));have ch := (be.sp cf (.swap _ _ _));exact ⟨[G a8 a9 ba, G bb bc bd, vb false], ⟨_, Z, ⟨_, Z, ⟨_, Z, Z⟩⟩⟩, ([] : List Feat), ([] : List Clash), false, a8, a9, ba, bb, bc, bd, Z, H, bf.gr.g0, bf.ok, bf.ge, cg, ch⟩
 have H := Xi H a7;refine Xv (Xd (Xe (Xc (G A1 n2 c3) Z (Xc (G A6 n7 c8) Z (Xc (G ai aj ak) Z ?_)))));refine Xo go70 [G A1 n2 c3, G A6 n7 c8, G ai aj ak] Z ((F102.calls ca al.ok base_ A1 n2 c3 (hp4.st al.st) a A6 n7 c8 (hp9.st al.st) b ai aj ak (bs.st al.st) _ H).mono ?_);rintro _ c2 ⟨r4, r5, r6, ac, ad, ae, af, ag, ah, rfl, H, ci, cj, ck, cl, cm⟩;have ao := al.owns ci cj ck;refine Xc (.tuple #[G ac ad ae, G af ag ah, vb r6]) Z (Xa (Yg [G ac ad ae, G af ag ah, vb r6] 0 (G ac ad ae) Z Z) (Xa (Yg [G ac ad ae, G af ag ah, vb r6] 1 (G af ag ah) Z Z) (Xa (Yg [G ac ad ae, G af ag ah, vb r6] 2 (vb r6) Z Z) (Xf (G ac ad ae) Z (Xf (G af ag ah) Z (Xf (vb r6) Z (Xb (Xd ?_))))))));refine Xd (Xe (Xc (vb r6) Z (Xa (Yf r6 Z) (Xb ?_))));refine Xr (!r6) Z (fun bg => ?_) (fun bg => ?_)
 ·have H := Xh H bg;refine Xd (Xe (X5 (kd := kFeat) Yx ao ([] : List Feat) (cells := []) Z (fun _ => by kernel_rfl) fun c4 bh bi bj c5 hr122 cn co => ?_));refine X5 (kd := kClash) Y8 cn ([] : List Clash) (cells := []) Z (fun _ => by kernel_rfl) fun c6 bl bm bn cp hr131 bo cq => ?_;refine Xf (G bh bi bj) Z (Xf (G bl bm bn) Z (Xf (vb false) Z (Xb (Xm ?_))));have bp := bo.drop 2 Z;have bq := bp.drop 2 Z;have br := bq.perm (.swap _ _ _);have cr := (bq.sp (bp.sd (bo.sd (co.so _ cp hr131) 1 2 Z Z Z) 1 2 Z Z Z) (.swap _ _ _));have cs := (bq.sp (bp.sd (bo.sd cq 0 2 Z Z Z) 0 2 Z Z Z) (.swap _ _ _));exact ⟨[G bh bi bj, G bl bm bn, vb false], ⟨_, Z, ⟨_, Z, ⟨_, Z, Z⟩⟩⟩, ([] : List Feat), ([] : List Clash), false, bh, bi, bj, bl, bm, bn, Z, H, br.gr.g0, br.ok, br.ge, cr, cs⟩
 have H := Xi H bg;refine Xv (Xd (Xe (Xc (G ac ad ae) Z (Xc (G af ag ah) Z (Xf (G ac ad ae) Z (Xf (G af ag ah) Z (Xf (vb true) Z (Xb ?_))))))));exact Xm ⟨[G ac ad ae, G af ag ah, vb true], ⟨_, Z, ⟨_, Z, ⟨_, Z, Z⟩⟩⟩, r4, r5, true, ac, ad, ae, af, ag, ah, Z, H, ao.gr.g0, ao.ok, ao.ge, cl, cm⟩
end
section
open Go.RowKit
def F10.E (s1 : List Clash) (s2 : List Clash) (Q : Bool → Prop) : Prop :=
 (if (s1.length : Int) != (s2.length : Int) then Q false else (∃ (I32 : Int → Prop) (mu33 : Int → Nat), I32 0 ∧ ∀ (v2 : Int), I32 v2 → (if decide (v2 < (s1.length : Int)) then ((0 : Int) ≤ v2 ∧ v2 < (s1.length : Int)) ∧ ((0 : Int) ≤ v2 ∧ v2 < (s2.length : Int)) ∧ (if !(eqClash (nth s1 v2) (nth s2 v2)) then Q false else (I64 (v2 + 1)) ∧ I32 (v2 + 1) ∧ mu33 (v2 + 1) < mu33 v2) else Q true)))
theorem F10.calls {O : Ob} (w0 : World) (hO : Ok w0 O) (s1 : List Clash) (A1 : Option Addr) (n2 c3 : Nat) (hp4 : Sl kClash w0 (Fr O) (G A1 n2 c3) s1) (s2 : List Clash) (A6 : Option Addr) (n7 c8 : Nat) (hp9 : Sl kClash w0 (Fr O) (G A6 n7 c8) s2) (Q : Bool → Prop) (h : F10.E s1 s2 Q) :
  Ret Tryz.prog 71 [G A1 n2 c3, G A6 n7 c8] w0 (fun v w' => ∃ (r0 : Bool), v = vb r0 ∧ Q r0 ∧ Gr w0 w' none) := by
 unfold F10.E at h;have H := h;clear h;have hc0 := Ct.init hO;refine X9 Tryz.func71 Z 26 Z [.tmp 4] Z Z ?_;refine Xd (Xe (Xf (vb false) Z (Xb (Xd (Xd (Xe (Xc (G A1 n2 c3) Z ?_)))))));have a3 := hp4.le;refine Xa (X6 u44_ A1 n2 c3 hp4.len Z) (Xc (G A6 n7 c8) Z ?_);have a4 := hp9.le;refine Xa (X6 u44_ A6 n7 c8 hp9.len Z) (Xa (Xz (s1.length : Int) (s2.length : Int) ((s1.length : Int) != (s2.length : Int)) Z Z Z) (Xb ?_));refine Xr ((s1.length : Int) != (s2.length : Int)) Z (fun ab => ?_) (fun ab => ?_)
 ·have H := Xh H ab;exact Xd (Xe (Xf (vb false) Z (Xb (Xm ⟨[vb false], ⟨_, Z, Z⟩, false, Z, H, hc0.gr.g0⟩))))
 have H := Xi H ab;refine Xv (Xd (Xd (Xe (Xc (G A1 n2 c3) Z (Xa (X6 u44_ A1 n2 c3 hp4.len Z) (Xc (vi 0) Z (Xb (X4 ?_))))))));obtain ⟨ap, aq, ac, H⟩ := H;refine Yk (α := Int) (fun (sv__ : Int) t aa => match sv__ with | v2 => ap v2 ∧ Has t [(0, G A1 n2 c3), (1, G A6 n7 c8), (12, vi (s1.length : Int)), (13, vi v2)] ∧ Ct [] w0 aa [] O ∧ Sl kClash aa (Fr ([] ++ O)) (G A1 n2 c3) s1 ∧ Sl kClash aa (Fr ([] ++ O)) (G A6 n7 c8) s2) (fun (sv__ : Int) => match sv__ with | v2 => aq v2) 0 ⟨ac, (Xn Z), hc0, hp4, hp9⟩ ?_;rintro v2 _ aa ⟨ac, ar, ad, ae, af⟩;obtain ⟨a5, rfl⟩ := Has.ins ar;have H := H v2 ac;refine Xd (Xe (Xa (Xz v2 (s1.length : Int) (decide (v2 < (s1.length : Int))) Z Z Z) (Xb (Xd ?_))));refine Xr (decide (v2 < (s1.length : Int))) Z (fun ag => ?_) (fun ag => ?_)
 ·have H := Xh H ag;refine Xv (Xd (X4 (Xd (Xe (Xc (vi v2) Z (Xf (vi v2) Z (Xb (Xd ?_))))))));refine Yy (fun x => Gr aa x none) (by kernel_rfl) (by kernel_rfl) (Gr.drew _) ?_;refine X1 (G A1 n2 c3) Z (X1 (vi v2) Z ?_);obtain ⟨ai, H⟩ := H;obtain ⟨aj, a6, au, a7, av, aw⟩ := ae.get default (by decide) v2 ai;obtain ⟨rfl, a8, a9⟩ := kClash.op av;refine Xj (X3 u44_ Kb A1 aj n2 c3 ae.len v2 Z au Z ai) (Xj (Xs ag59 sz59 cQ (aj.add (v2.toNat * 2)) [vs ((nth s1 v2).Id), vs ((nth s1 v2).What)] Z Z aw) (X1 (G A6 n7 c8) Z (X1 (vi v2) Z ?_)));obtain ⟨ak, H⟩ := H;obtain ⟨al, ba, ax, bb, ay, az⟩ := af.get default (by decide) v2 ak;obtain ⟨rfl, bc, bd⟩ := kClash.op ay;refine Xj (X3 u44_ Kb A6 al n7 c8 af.len v2 Z ax Z ak) (Xj (Xs ag59 sz59 cQ (al.add (v2.toNat * 2)) [vs ((nth s2 v2).Id), vs ((nth s2 v2).What)] Z Z az) (Xj (Zi _ _ (eqClash (nth s1 v2) (nth s2 v2)) (qt59 (nth s1 v2) (nth s2 v2)) Z Z) (Yo fun be am => ?_)));have an := ad.k0 am;refine Xr (!(eqClash (nth s1 v2) (nth s2 v2))) Z (fun ah => ?_) (fun ah => ?_)
  ·have H := Xh H ah;exact Xd (Xe (Xf (vb false) Z (Xb (Xm ⟨[vb false], ⟨_, Z, Z⟩, false, Z, H, an.gr.g0⟩))))
  have H := Xi H ah;refine Xv (Xe ?_);obtain ⟨a0, H⟩ := H;refine Xa (X2 v2 1 Z Z a0) (Xc (vi (v2 + 1)) Z (Xb ?_));obtain ⟨a1, a2⟩ := H;have ao := ad.stn am;exact ⟨v2 + 1, a2, a1, (Xn Z), an, (ae.st ao), (af.st ao)⟩
 have H := Xi H ag;refine Yh (xin_hit ?_);exact Xd (Xe (Xf (vb true) Z (Xb (Xm ⟨[vb true], ⟨_, Z, Z⟩, true, Z, H, ad.gr.g0⟩))))
end
section
open Go.RowKit
def F43.E (a : List Clash) (b : List Clash) (Q : Bool → Prop) : Prop :=
 F10.E a b (fun r => Q r)
theorem F43.calls {O : Ob} (w0 : World) (hO : Ok w0 O) (a : List Clash) (A1 : Option Addr) (n2 c3 : Nat) (hp4 : Sl kClash w0 (Fr O) (G A1 n2 c3) a) (b : List Clash) (A6 : Option Addr) (n7 c8 : Nat) (hp9 : Sl kClash w0 (Fr O) (G A6 n7 c8) b) (Q : Bool → Prop) (h : F43.E a b Q) :
  Ret Tryz.prog 22 [G A1 n2 c3, G A6 n7 c8] w0 (fun v w' => ∃ (r0 : Bool), v = vb r0 ∧ Q r0 ∧ Gr w0 w' none) := by
 unfold F43.E at h;have H := h;clear h;have hc0 := Ct.init hO;refine X9 Tryz.func22 Z 8 Z [.tmp 4] Z Z ?_;refine Xd (Xe (Xf (vb false) Z (Xb (Xd (Xe (Xc (G A1 n2 c3) Z (Xc (G A6 n7 c8) Z ?_)))))));refine Xo go71 [G A1 n2 c3, G A6 n7 c8] Z ((F10.calls w0 hc0.ok a A1 n2 c3 hp4 b A6 n7 c8 hp9 _ H).mono ?_);rintro _ ac ⟨r, rfl, H, aa⟩;have ab := hc0.k0 aa;exact Xf (vb r) Z (Xb (Xm ⟨[vb r], ⟨_, Z, Z⟩, r, Z, H, ab.gr.g0⟩))
end
section
open Go.RowKit
def F58.E (s : List Feat) (id : Str) (Q : Feat → Bool → Prop) : Prop :=
 F97.E s id (fun r => F74.E s (fun r2 => (if !r2 then Q (⟨([] : Str), (⟨0, ([] : List Pt)⟩ : Shape), ([] : List Tag)⟩ : Feat) false else (if decide (r < 0) then Q (⟨([] : Str), (⟨0, ([] : List Pt)⟩ : Shape), ([] : List Tag)⟩ : Feat) false else ((0 : Int) ≤ r ∧ r < (s.length : Int)) ∧ F36.E (nth s r) (fun r3 => Q r3 true)))))
theorem F58.calls {O : Ob} (w0 : World) (hO : Ok w0 O) (s : List Feat) (A1 : Option Addr) (n2 c3 : Nat) (hp4 : Sl kFeat w0 (Fr O) (G A1 n2 c3) s) (id : Str) (hs6 : Lim id) (Q : Feat → Bool → Prop) (h : F58.E s id Q) :
  Ret Tryz.prog 23 [G A1 n2 c3, vs id] w0 (fun v w' => ∃ (r0 : Feat) (r1 : Bool) (Aw0 : Option Addr) (nw0 cw0 : Nat) (Aw2 : Option Addr) (nw2 cw2 : Nat), v = .tuple #[.agg #[vs r0.Id, vi r0.Shape.Kind, G Aw0 nw0 cw0, G Aw2 nw2 cw2], vb r1] ∧ Q r0 r1 ∧ Gr w0 w' none ∧ Ok w' ([bk Aw0, bk Aw2] ++ O) ∧ (∀ b, some b ∈ [bk Aw0, bk Aw2] → w0.heap.size ≤ b) ∧ Lim r0.Id ∧ Ow kPt 61 w' ([bk Aw0, bk Aw2] ++ O) (G Aw0 nw0 cw0) r0.Shape.Pts ∧ Ow kTag 78 w' ([bk Aw0, bk Aw2] ++ O) (G Aw2 nw2 cw2) r0.Tags) := by
 unfold F58.E at h;have H := h;clear h;have hc0 := Ct.init hO;refine X9 Tryz.func23 Z 23 Z [.cell 4 28, .tmp 5] Z Z ?_;refine Xd (Xe (Yc [vs [], .int .i64 0, G none 0 0, G none 0 0] ze28 fun w7 b8 bb hu11 g9 ap => ?_));have aq := hc0.own g9 (some b8) (Yb bb hu11);refine Xf (vb false) Z (Xb (Xd (Xe (Xc (G A1 n2 c3) Z (Xc (vs id) Z ?_)))));refine Xo go72 [G A1 n2 c3, vs id] Z ((F97.calls w7 aq.ok s A1 n2 c3 (hp4.st aq.st) id hs6 _ H).mono ?_);rintro _ bc ⟨r, rfl, H, ac⟩;have ar := aq.k0 ac;refine Xf (vi r) Z (Xb (Xd (Xd (Xe (Xc (G A1 n2 c3) Z ?_)))));refine Xo go27 [G A1 n2 c3] Z ((F74.calls bc ar.ok s A1 n2 c3 (hp4.st ar.st) _ H).mono ?_);rintro _ bd ⟨r2, rfl, H, ad⟩;have ab := ar.k0 ad;refine Xa (Yf r2 Z) (Xc (vb (!r2)) Z ?_);rcases X8 (!r2) with aa | aa
 ·have H := Xh H aa;refine Xl aa Z (Xl aa Z (Xa (Xq true (vb true) aa Z) (Xb (Yt (b := true) Z Z ?_))));refine Xd (Xe (Xa (Ym (.agg #[vs ([] : Str), vi 0, G none 0 0, G none 0 0]) (fun _ => by kernel_rfl)) ?_));have be := ((ap.k0 ac).k0 ad);refine Xw b8 0 [vs ([] : Str), vi 0, G none 0 0, G none 0 0] [vs ([] : Str), vi 0, G none 0 0, G none 0 0] [vs ([] : Str), vi 0, G none 0 0, G none 0 0] Z be Z sz28 Z Z Z fun a6 bf bg => ?_;have bh := ab.wr 0 Z bf;refine Xf (vb false) Z (Xb (Xm ?_));have bi := bh.own (Gr.refl _ none) none (by simp);have bj : Ow kPt 61 a6 ([bk none, some b8] ++ O) (G none 0 0) [] := Ow.nil _ _ _ _;have ae := bi.own (Gr.refl _ none) none (by simp);have bl : Ow kTag 78 a6 ([bk none, bk none, some b8] ++ O) (G none 0 0) [] := Ow.nil _ _ _ _;have bm := bg;have bn := ae.bgv bm 2 Z;have af := ae.drop 2 Z;have au := af.perm (.swap _ _ _);have bo := af.stp (.swap _ _ _);have bp := (bn.st bo);have bq := (af.sp (ae.sd (bj.so none (Gr.refl _ none) (by simp)) 1 2 Z Z Z) (.swap _ _ _));have br := (af.sp (ae.sd bl 0 2 Z Z Z) (.swap _ _ _));exact ⟨[.agg #[vs ([] : Str), vi 0, G none 0 0, G none 0 0], vb false], ⟨_, _, Z, bp.1.res Z ag28 sz28, ⟨_, Z, Z⟩⟩, (⟨([] : Str), (⟨0, ([] : List Pt)⟩ : Shape), ([] : List Tag)⟩ : Feat), false, none, 0, 0, none, 0, 0, Z, H, au.gr.g0, au.ok, au.ge, (by decide), bq, br⟩
 have H := Xi H aa;refine Xk aa Z (Xc (vi r) Z (Xk aa Z (Xa (Xz r 0 (decide (r < 0)) Z Z Z) (Xa (Xq false (vb (decide (r < 0))) aa Z) (Xb ?_)))));refine Xr (decide (r < 0)) Z (fun av => ?_) (fun av => ?_)
 ·have H := Xh H av;refine Xd (Xe (Xa (Ym (.agg #[vs ([] : Str), vi 0, G none 0 0, G none 0 0]) (fun _ => by kernel_rfl)) ?_));have bs := ((ap.k0 ac).k0 ad);refine Xw b8 0 [vs ([] : Str), vi 0, G none 0 0, G none 0 0] [vs ([] : Str), vi 0, G none 0 0, G none 0 0] [vs ([] : Str), vi 0, G none 0 0, G none 0 0] Z bs Z sz28 Z Z Z fun a7 bt bu => ?_;have bv := ab.wr 0 Z bt;refine Xf (vb false) Z (Xb (Xm ?_));have bw := bv.own (Gr.refl _ none) none (by simp);have bx : Ow kPt 61 a7 ([bk none, some b8] ++ O) (G none 0 0) [] := Ow.nil _ _ _ _;have ag := bw.own (Gr.refl _ none) none (by simp);have bz : Ow kTag 78 a7 ([bk none, bk none, some b8] ++ O) (G none 0 0) [] := Ow.nil _ _ _ _;have b0 := bu;have b1 := ag.bgv b0 2 Z;have ah := ag.drop 2 Z;have aw := ah.perm (.swap _ _ _);have b2 := ah.stp (.swap _ _ _);have b3 := (b1.st b2);have b4 := (ah.sp (ag.sd (bx.so none (Gr.refl _ none) (by simp)) 1 2 Z Z Z) (.swap _ _ _));have b5 := (ah.sp (ag.sd bz 0 2 Z Z Z) (.swap _ _ _));exact ⟨[.agg #[vs ([] : Str), vi 0, G none 0 0, G none 0 0], vb false], ⟨_, _, Z, b3.1.res Z ag28 sz28, ⟨_, Z, Z⟩⟩, (⟨([] : Str), (⟨0, ([] : List Pt)⟩ : Shape), ([] : List Tag)⟩ : Feat), false, none, 0, 0, none, 0, 0, Z, H, aw.gr.g0, aw.ok, aw.ge, (by decide), b4, b5⟩
 have H := Xi H av;refine Xv (Xd (Xe (Xc (G A1 n2 c3) Z (Xc (vi r) Z ?_))));obtain ⟨a8, H⟩ := H;obtain ⟨a9, cn, b6, co, b7, b9⟩ := (hp4.st ab.st).get default (by decide) r a8;obtain ⟨ax, ay, az, a0, a1, a2, rfl, ca, cb, cc⟩ := kFeat.op b7;refine Xa (X3 u41_ Y2 A1 a9 n2 c3 (hp4.st ab.st).len r Z b6 Z a8) (Xa (Xs ag28 sz28 cL (a9.add (r.toNat * 4)) [vs ((nth s r).Id), vi ((nth s r).Shape.Kind), G ax ay az, G a0 a1 a2] Z Z b9) ?_);refine Xo go48 [.agg #[vs ((nth s r).Id), vi ((nth s r).Shape.Kind), G ax ay az, G a0 a1 a2]] Z ((F36.calls bd ab.ok (nth s r) ax ay az a0 a1 a2 ca cb cc _ H).mono ?_);rintro _ cp ⟨r3, ai, aj, ak, al, am, an, rfl, H, ba, cd, ce, cf, cg, ch⟩;have a3 := ab.owns ba cd ce;have ci := (((ap.k0 ac).k0 ad).k0 ba);refine Xw b8 0 [vs ([] : Str), vi 0, G none 0 0, G none 0 0] [vs r3.Id, vi r3.Shape.Kind, G ai aj ak, G al am an] [vs r3.Id, vi r3.Shape.Kind, G ai aj ak, G al am an] Z ci Z sz28 Z Z Z fun cq a4 cj => ?_;have ao := a3.wr 2 Z a4;refine Xf (vb true) Z (Xb (Xm ?_));have ck := ao.bgv cj 2 Z;have a5 := ao.drop 2 Z;have cl := (ao.sd (a3.sw cg 0 2 Z Z Z a4) 0 2 Z Z Z);have cm := (ao.sd (a3.sw ch 1 2 Z Z Z a4) 1 2 Z Z Z);exact ⟨[.agg #[vs r3.Id, vi r3.Shape.Kind, G ai aj ak, G al am an], vb true], ⟨_, _, Z, ck.1.res Z ag28 sz28, ⟨_, Z, Z⟩⟩, r3, true, ai, aj, ak, al, am, an, Z, H, a5.gr.g0, a5.ok, a5.ge, cf, cl, cm⟩
end
section
open Go.RowKit
def laws_FnSheetWho.E (code : List UInt8) (Q : Bool → Prop) : Prop :=
 (if decide ((code.length : Int) > 1048576) then Q true else F11.E code (fun r r2 r3 => F41.E r r2 r3 (fun r4 r5 r6 => F42.E r r2 r3 (fun r7 r8 r9 => (∃ (J84 : Bool → Prop), ((if r6 != r9 then J84 true else F43.E r5 r8 (fun r10 => (if !r10 then J84 true else J84 (!r6))))) ∧ ∀ (v : Bool), J84 v → (if v then (if r6 == r9 then F43.E r5 r8 (fun r11 => Q r11) else Q false) else (∃ (I208 : Int → Prop) (mu209 : Int → Nat), I208 0 ∧ ∀ (v3 : Int), I208 v3 → (if decide (v3 < (([([97] : Str), ([98] : Str), ([99] : Str), ([100] : Str), ([101] : Str), ([122] : Str)] : List Str).length : Int)) then ((0 : Int) ≤ v3 ∧ v3 < (([([97] : Str), ([98] : Str), ([99] : Str), ([100] : Str), ([101] : Str), ([122] : Str)] : List Str).length : Int)) ∧ F58.E r (nth ([([97] : Str), ([98] : Str), ([99] : Str), ([100] : Str), ([101] : Str), ([122] : Str)] : List Str) v3) (fun r12 r13 => F58.E r2 (nth ([([97] : Str), ([98] : Str), ([99] : Str), ([100] : Str), ([101] : Str), ([122] : Str)] : List Str) v3) (fun r14 r15 => F58.E r3 (nth ([([97] : Str), ([98] : Str), ([99] : Str), ([100] : Str), ([101] : Str), ([122] : Str)] : List Str) v3) (fun r16 r17 => F58.E r4 (nth ([([97] : Str), ([98] : Str), ([99] : Str), ([100] : Str), ([101] : Str), ([122] : Str)] : List Str) v3) (fun r18 r19 => (∃ (J390 : Bool → Prop), ((if r15 == r13 then F55.E r14 r12 (fun r20 => J390 r20) else J390 false)) ∧ ∀ (left : Bool), J390 left → (∃ (J496 : Bool → Prop), ((if r17 == r13 then F55.E r16 r12 (fun r21 => J496 r21) else J496 false)) ∧ ∀ (right : Bool), J496 right → (∃ (J574 : Bool → Prop), ((if left then (if r19 != r17 then J574 true else F55.E r18 r16 (fun r22 => (if !r22 then J574 true else (if right then (if r19 != r15 then J574 true else F55.E r18 r14 (fun r23 => J574 (!r23))) else J574 false)))) else (if right then (if r19 != r15 then J574 true else F55.E r18 r14 (fun r24 => J574 (!r24))) else J574 false))) ∧ ∀ (v4 : Bool), J574 v4 → (if v4 then Q false else (∃ (J742 : Bool → Prop), ((if r19 then (if !r15 then (if !r17 then J742 true else (if !r19 then (if r15 then J742 r17 else J742 false) else J742 false)) else (if !r19 then (if r15 then J742 r17 else J742 false) else J742 false)) else (if !r19 then (if r15 then J742 r17 else J742 false) else J742 false))) ∧ ∀ (v5 : Bool), J742 v5 → (if v5 then Q false else (I64 (v3 + 1)) ∧ I208 (v3 + 1) ∧ mu209 (v3 + 1) < mu209 v3)))))))))) else Q true))))))))
theorem laws_FnSheetWho.calls {O : Ob} (w0 : World) (hO : Ok w0 O) (code : List UInt8) (A1 : Option Addr) (n2 c3 : Nat) (hp4 : Sl Kd.byte w0 (Fr O) (G A1 n2 c3) code) (Q : Bool → Prop) (h : laws_FnSheetWho.E code Q) :
  Ret Tryz.prog 5 [G A1 n2 c3] w0 (fun v w' => ∃ (r0 : Bool), v = vb r0 ∧ Q r0 ∧ Gr w0 w' none) := by
 unfold laws_FnSheetWho.E at h;have H := h;clear h;have hc0 := Ct.init hO;refine X9 Tryz.func5 Z 162 Z [.tmp 2] Z Z ?_;refine Xd (Xe (Xf (vb false) Z (Xb (Xd (Xd (Xe (Xc (G A1 n2 c3) Z ?_)))))));have hl6 := hp4.le;refine Xa (X6 u22_ A1 n2 c3 hp4.len Z) (Xa (Xz (code.length : Int) 1048576 (decide ((code.length : Int) > 1048576)) Z Z Z) (Xb ?_));refine Xr (decide ((code.length : Int) > 1048576)) Z (fun hq7 => ?_) (fun hq7 => ?_)
 ·have H := Xh H hq7;exact Xd (Xe (Xf (vb true) Z (Xb (Xm ⟨[vb true], ⟨_, Z, Z⟩, true, Z, H, hc0.gr.g0⟩))))
 have H := Xi H hq7;refine Xv (Xd (Xe (Xc (G A1 n2 c3) Z ?_)));refine Xo go24 [G A1 n2 c3] Z ((F11.calls w0 hc0.ok code A1 n2 c3 hp4 _ H).mono ?_);rintro _ w8 ⟨r, r2, r3, ay, az, a0, a1, a2, a3, a4, a5, a6, rfl, H, g9, ho, hp, hq⟩;have fd := hc0.k0 g9;refine Xc (.tuple #[G ay az a0, G a1 a2 a3, G a4 a5 a6]) Z (Xa (Yg [G ay az a0, G a1 a2 a3, G a4 a5 a6] 0 (G ay az a0) Z Z) (Xa (Yg [G ay az a0, G a1 a2 a3, G a4 a5 a6] 1 (G a1 a2 a3) Z Z) (Xa (Yg [G ay az a0, G a1 a2 a3, G a4 a5 a6] 2 (G a4 a5 a6) Z Z) (Xf (G ay az a0) Z (Xf (G a1 a2 a3) Z (Xf (G a4 a5 a6) Z (Xb (Xd ?_))))))));refine Xe (Xc (G ay az a0) Z (Xc (G a1 a2 a3) Z (Xc (G a4 a5 a6) Z ?_)));refine Xo go20 [G ay az a0, G a1 a2 a3, G a4 a5 a6] Z ((F41.calls w8 fd.ok r ay az a0 ho r2 a1 a2 a3 hp r3 a4 a5 a6 hq _ H).mono ?_);rintro _ hr ⟨r4, r5, r6, aa, bi, bj, ab, cv, ba, cf, cg, rfl, H, hs, i0, ht, fe, ff, eu⟩;have dp := fd.owns hs i0 ht;have dh : (((bk aa :: bk ba :: (ab ++ [])) ++ []) : Ob).Perm (bk aa :: bk ba :: (ab ++ [])) := (pc fun a => by (try simp only [pca, pcc, pcn, Nat.add_zero, Nat.zero_add]); first | done | ac_rfl);have ei := dp.perm dh;refine Xc (.tuple #[G aa bi bj, G ba cf cg, vb r6]) Z (Xa (Yg [G aa bi bj, G ba cf cg, vb r6] 0 (G aa bi bj) Z Z) (Xa (Yg [G aa bi bj, G ba cf cg, vb r6] 1 (G ba cf cg) Z Z) (Xa (Yg [G aa bi bj, G ba cf cg, vb r6] 2 (vb r6) Z Z) (Xf (G aa bi bj) Z (Xf (G ba cf cg) Z (Xf (vb r6) Z (Xb (Xd ?_))))))));refine Xe (Xc (G ay az a0) Z (Xc (G a1 a2 a3) Z (Xc (G a4 a5 a6) Z ?_)));have fg := fd.stos hs ht;have fh := St.spa (w := hr) (A := (bk aa :: bk ba :: (ab ++ []))) (L := []) (O := O) dh;have ev := ((ho.st fg).st fh);have ew := ((hp.st fg).st fh);have ex := ((hq.st fg).st fh);refine Xo go21 [G ay az a0, G a1 a2 a3, G a4 a5 a6] Z ((F42.calls hr ei.ok r ay az a0 ev r2 a1 a2 a3 ew r3 a4 a5 a6 ex _ H).mono ?_);rintro _ i1 ⟨r7, r8, r9, d7, d8, d9, bn, ch, ci, rfl, H, cj, i2, c0, rf, ey⟩;have c1 := ei.owns cj i2 c0;refine Xc (.tuple #[G d7 d8 d9, G bn ch ci, vb r9]) Z (Xa (Yg [G d7 d8 d9, G bn ch ci, vb r9] 0 (G d7 d8 d9) Z Z) (Xa (Yg [G d7 d8 d9, G bn ch ci, vb r9] 1 (G bn ch ci) Z Z) (Xa (Yg [G d7 d8 d9, G bn ch ci, vb r9] 2 (vb r9) Z Z) (Xf (G d7 d8 d9) Z (Xf (G bn ch ci) Z (Xf (vb r9) Z (Xb (Xd ?_))))))));refine Xd ?_;obtain ⟨i3, H, i4⟩ := H;refine Y3 (J := (fun t c2 => ∃ (v : Bool), i3 v ∧ Has t [(3, G ay az a0), (4, G a1 a2 a3), (5, G a4 a5 a6), (6, G aa bi bj), (7, G ba cf cg), (8, vb r6), (10, G bn ch ci), (11, vb r9), (61, vb v)] ∧ Ct [] w0 c2 (bk bn :: bk aa :: bk ba :: (ab ++ [])) O ∧ Sl kFeat c2 (Fr ((bk bn :: bk aa :: bk ba :: (ab ++ [])) ++ O)) (G ay az a0) r ∧ Sl kFeat c2 (Fr ((bk bn :: bk aa :: bk ba :: (ab ++ [])) ++ O)) (G a1 a2 a3) r2 ∧ Sl kFeat c2 (Fr ((bk bn :: bk aa :: bk ba :: (ab ++ [])) ++ O)) (G a4 a5 a6) r3 ∧ Ow (Kd.cells 4) 28 c2 ((bk bn :: bk aa :: bk ba :: (ab ++ [])) ++ O) (G aa bi bj) cv ∧ DArr dFeat_28 c2 ab r4 cv ∧ Ow kClash 59 c2 ((bk bn :: bk aa :: bk ba :: (ab ++ [])) ++ O) (G ba cf cg) r5 ∧ Ow kClash 59 c2 ((bk bn :: bk aa :: bk ba :: (ab ++ [])) ++ O) (G bn ch ci) r8)) ?_ ?_
 ·refine Xe (Xc (vb r6) Z (Xc (vb r9) Z (Xa (Y7 u4_ r6 r9 (r6 != r9) Z Z Z) (Xc (vb (r6 != r9)) Z ?_))));rcases X8 (r6 != r9) with cp | cp
  ·have H := Xh H cp;refine Xl cp Z (Xl cp Z (Xl cp Z (Xl cp Z (Xa (Xq true (vb true) cp Z) (Xc (vb true) Z (Ye (dj := 58) Z Z (.inl Z) (Ye (dj := 58) Z Z (.inl Z) (Xa (Xq true (vb true) Z Z) ?_))))))));refine Xb ?_;have i5 := c1.drop 0 Z;have fi := ei.stos cj c0;have fj := c1.std 0 Z;have i6 := ((ev.st fi).st fj);have i7 := ((ew.st fi).st fj);have i8 := ((ex.st fi).st fj);have i9 := (c1.sd ((dp.spa fe dh).sos cj c0) 2 0 Z Z Z);have ja := (ff.k0 cj);have jb := (c1.sd ((dp.spa eu dh).sos cj c0) 3 0 Z Z Z);have jc := (c1.sd ey 1 0 Z Z Z);exact ⟨true, H, (Xn Z), i5, i6, i7, i8, i9, ja, jb, jc⟩
  have H := Xi H cp;refine Xk cp Z (Xc (G ba cf cg) Z (Xk cp Z (Xc (G bn ch ci) Z (Xk cp Z ?_))));have jd := ((dp.spa eu dh).sos cj c0);have je := c1.gv jd 3 Z;have fk := c1.drop 3 Z;have jf := (c1.sd ey 1 3 Z Z Z);have jg := fk.gv jf 1 Z;have jh := fk.drop 1 Z;have ji := fk.std 1 Z;refine Xo go22 [G ba cf cg, G bn ch ci] Z ((F43.calls i1 jh.ok r5 ba cf cg (je.st ji) r8 bn ch ci jg _ H).mono ?_);rintro _ rg ⟨r10, rfl, H, c4⟩;have c9 := c1.k0 c4;refine Xk cp Z (Xa (Yf r10 Z) (Xa (Xq false (vb (!r10)) cp Z) (Xc (vb (!r10)) Z ?_)));rcases X8 (!r10) with di | di
  ·have H := Xh H di;refine Xl di Z (Xl di Z (Xa (Xq true (vb true) di Z) (Xb ?_)));have jj := c9.drop 0 Z;have fl := ei.stos cj c0;have fm := c1.stn c4;have fn := c9.std 0 Z;have jk := (((ev.st fl).st fm).st fn);have jl := (((ew.st fl).st fm).st fn);have jm := (((ex.st fl).st fm).st fn);have jn := (c9.sd (((dp.spa fe dh).sos cj c0).sn c4) 2 0 Z Z Z);have jo := ((ff.k0 cj).k0 c4);have jp := (c9.sd (((dp.spa eu dh).sos cj c0).sn c4) 3 0 Z Z Z);have jq := (c9.sd (ey.sn c4) 1 0 Z Z Z);exact ⟨true, H, (Xn Z), jj, jk, jl, jm, jn, jo, jp, jq⟩
  have H := Xi H di;refine Xk di Z (Xc (vb r6) Z (Xk di Z (Xa (Yf r6 Z) (Xa (Xq false (vb (!r6)) di Z) (Xb ?_)))));have jr := c9.drop 0 Z;have fo := ei.stos cj c0;have fp := c1.stn c4;have fq := c9.std 0 Z;have js := (((ev.st fo).st fp).st fq);have jt := (((ew.st fo).st fp).st fq);have ju := (((ex.st fo).st fp).st fq);have jv := (c9.sd (((dp.spa fe dh).sos cj c0).sn c4) 2 0 Z Z Z);have jw := ((ff.k0 cj).k0 c4);have jx := (c9.sd (((dp.spa eu dh).sos cj c0).sn c4) 3 0 Z Z Z);have jy := (c9.sd (ey.sn c4) 1 0 Z Z Z);exact ⟨!r6, H, (Xn Z), jr, js, jt, ju, jv, jw, jx, jy⟩
 rintro rh c2 ⟨v, jz, j0, dz, j1, j2, j3, j4, j5, j6, j7⟩;obtain ⟨ri, rfl⟩ := Has.ins j0;have H := i4 v jz;refine Xr v Z (fun fr => ?_) (fun fr => ?_)
 ·have H := Xh H fr;refine Xd (Xe (Xc (vb r6) Z (Xc (vb r9) Z (Xa (Y7 u4_ r6 r9 (r6 == r9) Z Z Z) (Xc (vb (r6 == r9)) Z ?_)))));rcases X8 (r6 == r9) with c5 | c5
  ·have H := Xh H c5;refine Xk c5 Z (Xc (G ba cf cg) Z (Xk c5 Z (Xc (G bn ch ci) Z (Xk c5 Z ?_))));have j8 := dz.gv j6 2 Z;have fs := dz.drop 2 Z;have j9 := (dz.sd j7 0 2 Z Z Z);have ka := fs.gv j9 0 Z;have kb : Ct [] w0 c2 (bk aa :: (ab ++ [])) O := fs.drop 0 Z;have kc := fs.std 0 Z;refine Xo go22 [G ba cf cg, G bn ch ci] Z ((F43.calls c2 kb.ok r5 ba cf cg (j8.st kc) r8 bn ch ci ka _ H).mono ?_);rintro _ rj ⟨r11, rfl, H, ke⟩;have kf := dz.k0 ke;refine Xa (Xq true (vb r11) c5 Z) (Xf (vb r11) Z (Xb (Xm ?_)));have kg := kf.clear;exact ⟨[vb r11], ⟨_, Z, Z⟩, r11, Z, H, kg.gr.g0⟩
  have H := Xi H c5;refine Xl c5 Z (Xl c5 Z (Xl c5 Z (Xa (Xq false (vb false) c5 Z) (Xf (vb false) Z (Xb (Xm ?_))))));have kh := dz.clear;exact ⟨[vb false], ⟨_, Z, Z⟩, false, Z, H, kh.gr.g0⟩
 have H := Xi H fr;refine Xv (Xd (Xd (Xe (X5 (kd := Kd.str) Ys dz ([([97] : Str), ([98] : Str), ([99] : Str), ([100] : Str), ([101] : Str), ([122] : Str)] : List Str) (cells := [vs ([97] : Str), vs ([98] : Str), vs ([99] : Str), vs ([100] : Str), vs ([101] : Str), vs ([122] : Str)]) ⟨[vs ([97] : Str)], _, Z, ⟨Z, (by decide : Lim ([97] : Str))⟩, ⟨[vs ([98] : Str)], _, Z, ⟨Z, (by decide : Lim ([98] : Str))⟩, ⟨[vs ([99] : Str)], _, Z, ⟨Z, (by decide : Lim ([99] : Str))⟩, ⟨[vs ([100] : Str)], _, Z, ⟨Z, (by decide : Lim ([100] : Str))⟩, ⟨[vs ([101] : Str)], _, Z, ⟨Z, (by decide : Lim ([101] : Str))⟩, ⟨[vs ([122] : Str)], _, Z, ⟨Z, (by decide : Lim ([122] : Str))⟩, Z⟩⟩⟩⟩⟩⟩ (fun _ => by kernel_rfl) fun ki ac cw cx ft hr162 ez fu => ?_))));have rk := fu.le;refine Xa (X6 u34_ ac cw cx fu.len Z) (Xc (vi 0) Z (Xb (X4 ?_)));have e0 := ez.drop 1 Z;have kj : Ct [] w0 ki (bk ac :: bk aa :: (ab ++ [])) O := e0.drop 2 Z;obtain ⟨kk, kl, fv, H⟩ := H;have fw := dz.stown _ ft hr162;have fx := ez.std 1 Z;have fy := e0.std 2 Z;have km := (((j1.st fw).st fx).st fy);have kn := (((j2.st fw).st fx).st fy);have ko := (((j3.st fw).st fx).st fy);have kp := (e0.sd (ez.sd (j4.so _ ft hr162) 2 1 Z Z Z) 1 2 Z Z Z);have kq := (j5.k0 ft);have kr := (e0.sd (ez.sd fu 0 1 Z Z Z) 0 2 Z Z Z);refine Yk (α := Int) (fun (sv__ : Int) t dk => match sv__ with | v3 => kk v3 ∧ Has t [(3, G ay az a0), (4, G a1 a2 a3), (5, G a4 a5 a6), (6, G aa bi bj), (70, G ac cw cx), (71, vi (([([97] : Str), ([98] : Str), ([99] : Str), ([100] : Str), ([101] : Str), ([122] : Str)] : List Str).length : Int)), (72, vi v3)] ∧ Ct [] w0 dk (bk ac :: bk aa :: (ab ++ [])) O ∧ Sl kFeat dk (Fr ((bk ac :: bk aa :: (ab ++ [])) ++ O)) (G ay az a0) r ∧ Sl kFeat dk (Fr ((bk ac :: bk aa :: (ab ++ [])) ++ O)) (G a1 a2 a3) r2 ∧ Sl kFeat dk (Fr ((bk ac :: bk aa :: (ab ++ [])) ++ O)) (G a4 a5 a6) r3 ∧ Ow (Kd.cells 4) 28 dk ((bk ac :: bk aa :: (ab ++ [])) ++ O) (G aa bi bj) cv ∧ DArr dFeat_28 dk ab r4 cv ∧ Ow Kd.str 9 dk ((bk ac :: bk aa :: (ab ++ [])) ++ O) (G ac cw cx) ([([97] : Str), ([98] : Str), ([99] : Str), ([100] : Str), ([101] : Str), ([122] : Str)] : List Str)) (fun (sv__ : Int) => match sv__ with | v3 => kl v3) 0 ⟨fv, (Xn Z), kj, km, kn, ko, kp, kq, kr⟩ ?_;rintro v3 _ dk ⟨fv, ks, e1, fz, kt, ku, f0, f1, e2⟩;obtain ⟨rl, rfl⟩ := Has.ins ks;have H := H v3 fv;refine Xd (Xe (Xa (Xz v3 (([([97] : Str), ([98] : Str), ([99] : Str), ([100] : Str), ([101] : Str), ([122] : Str)] : List Str).length : Int) (decide (v3 < (([([97] : Str), ([98] : Str), ([99] : Str), ([100] : Str), ([101] : Str), ([122] : Str)] : List Str).length : Int))) Z Z Z) (Xb (Xd ?_))));refine Xr (decide (v3 < (([([97] : Str), ([98] : Str), ([99] : Str), ([100] : Str), ([101] : Str), ([122] : Str)] : List Str).length : Int))) Z (fun f2 => ?_) (fun f2 => ?_)
 ·have H := Xh H f2;refine Xv (Xd (X4 (Xd (Xe ?_))));obtain ⟨hu, H⟩ := H;obtain ⟨hv, rm, kv, kx, ky⟩ := e2.get default (by decide) v3 hu;obtain ⟨rfl, e3⟩ := Kd.str.op kx;refine Xa (X3 u34_ Ze ac hv cw cx e2.len v3 Z kv Z hu) (Xa (Xt ag9 cL (hv.add (v3.toNat * 1)) (vs (nth ([([97] : Str), ([98] : Str), ([99] : Str), ([100] : Str), ([101] : Str), ([122] : Str)] : List Str) v3)) Z (ky 0 _ Z)) (Xf (vs (nth ([([97] : Str), ([98] : Str), ([99] : Str), ([100] : Str), ([101] : Str), ([122] : Str)] : List Str) v3)) Z (Xb (Xd (Xe (Xc (G ay az a0) Z (Xc (vs (nth ([([97] : Str), ([98] : Str), ([99] : Str), ([100] : Str), ([101] : Str), ([122] : Str)] : List Str) v3)) Z ?_)))))));refine Xo go23 [G ay az a0, vs (nth ([([97] : Str), ([98] : Str), ([99] : Str), ([100] : Str), ([101] : Str), ([122] : Str)] : List Str) v3)] Z ((F58.calls dk e1.ok r ay az a0 fz (nth ([([97] : Str), ([98] : Str), ([99] : Str), ([100] : Str), ([101] : Str), ([122] : Str)] : List Str) v3) e3 _ H).mono ?_);rintro _ rn ⟨r12, r13, an, ck, cl, am, cm, cn, rfl, H, da, kz, d0, hw, f3, f4⟩;have hx := e1.owns da kz d0;refine Xc (.tuple #[.agg #[vs r12.Id, vi r12.Shape.Kind, G an ck cl, G am cm cn], vb r13]) Z (Xa (Yg [.agg #[vs r12.Id, vi r12.Shape.Kind, G an ck cl, G am cm cn], vb r13] 0 (.agg #[vs r12.Id, vi r12.Shape.Kind, G an ck cl, G am cm cn]) Z Z) (Xa (Yg [.agg #[vs r12.Id, vi r12.Shape.Kind, G an ck cl, G am cm cn], vb r13] 1 (vb r13) Z Z) (Yc [vs [], .int .i64 0, G none 0 0, G none 0 0] ze28 fun ro ao cq hu253 b5 k1 => ?_)));have b6 := hx.own b5 (some ao) (Yb cq hu253);refine Xw ao 0 [vs ([] : Str), vi 0, G none 0 0, G none 0 0] [vs r12.Id, vi r12.Shape.Kind, G an ck cl, G am cm cn] [vs r12.Id, vi r12.Shape.Kind, G an ck cl, G am cm cn] Z k1 Z sz28 Z Z Z fun k2 b7 hy => ?_;have f5 := b6.wr 0 Z b7;refine Xf (vb r13) Z (Xb (Xd (Xe (Xc (G a1 a2 a3) Z (Xc (vs (nth ([([97] : Str), ([98] : Str), ([99] : Str), ([100] : Str), ([101] : Str), ([122] : Str)] : List Str) v3)) Z ?_)))));have e4 := e1.stos da d0;have e5 := hx.stown _ b5 (Xg cq);have e6 := b6.stw 0 Z b7;have f6 := (((kt.st e4).st e5).st e6);refine Xo go23 [G a1 a2 a3, vs (nth ([([97] : Str), ([98] : Str), ([99] : Str), ([100] : Str), ([101] : Str), ([122] : Str)] : List Str) v3)] Z ((F58.calls k2 f5.ok r2 a1 a2 a3 f6 (nth ([([97] : Str), ([98] : Str), ([99] : Str), ([100] : Str), ([101] : Str), ([122] : Str)] : List Str) v3) e3 _ H).mono ?_);rintro _ rp ⟨r14, r15, ae, bq, br, ad, bs, bt, rfl, H, b0, k3, cr, f7, f8, f9⟩;have hz := f5.owns b0 k3 cr;refine Xc (.tuple #[.agg #[vs r14.Id, vi r14.Shape.Kind, G ae bq br, G ad bs bt], vb r15]) Z (Xa (Yg [.agg #[vs r14.Id, vi r14.Shape.Kind, G ae bq br, G ad bs bt], vb r15] 0 (.agg #[vs r14.Id, vi r14.Shape.Kind, G ae bq br, G ad bs bt]) Z Z) (Xa (Yg [.agg #[vs r14.Id, vi r14.Shape.Kind, G ae bq br, G ad bs bt], vb r15] 1 (vb r15) Z Z) (Yc [vs [], .int .i64 0, G none 0 0, G none 0 0] ze28 fun rq ah bu hu286 bb k4 => ?_)));have bc := hz.own bb (some ah) (Yb bu hu286);refine Xw ah 0 [vs ([] : Str), vi 0, G none 0 0, G none 0 0] [vs r14.Id, vi r14.Shape.Kind, G ae bq br, G ad bs bt] [vs r14.Id, vi r14.Shape.Kind, G ae bq br, G ad bs bt] Z k4 Z sz28 Z Z Z fun k5 bd h0 => ?_;have e7 := bc.wr 0 Z bd;refine Xf (vb r15) Z (Xb (Xd (Xe (Xc (G a4 a5 a6) Z (Xc (vs (nth ([([97] : Str), ([98] : Str), ([99] : Str), ([100] : Str), ([101] : Str), ([122] : Str)] : List Str) v3)) Z ?_)))));have ej := f5.stos b0 cr;have ek := hz.stown _ bb (Xg bu);have el := bc.stw 0 Z bd;have ga := ((((((ku.st e4).st e5).st e6).st ej).st ek).st el);refine Xo go23 [G a4 a5 a6, vs (nth ([([97] : Str), ([98] : Str), ([99] : Str), ([100] : Str), ([101] : Str), ([122] : Str)] : List Str) v3)] Z ((F58.calls k5 e7.ok r3 a4 a5 a6 ga (nth ([([97] : Str), ([98] : Str), ([99] : Str), ([100] : Str), ([101] : Str), ([122] : Str)] : List Str) v3) e3 _ H).mono ?_);rintro _ rr ⟨r16, r17, ag, b8, b9, af, ca, cb, rfl, H, a7, k6, bp, h1, h2, h3⟩;have gb := e7.owns a7 k6 bp;refine Xc (.tuple #[.agg #[vs r16.Id, vi r16.Shape.Kind, G ag b8 b9, G af ca cb], vb r17]) Z (Xa (Yg [.agg #[vs r16.Id, vi r16.Shape.Kind, G ag b8 b9, G af ca cb], vb r17] 0 (.agg #[vs r16.Id, vi r16.Shape.Kind, G ag b8 b9, G af ca cb]) Z Z) (Xa (Yg [.agg #[vs r16.Id, vi r16.Shape.Kind, G ag b8 b9, G af ca cb], vb r17] 1 (vb r17) Z Z) (Yc [vs [], .int .i64 0, G none 0 0, G none 0 0] ze28 fun rs ai be hu319 av k7 => ?_)));have aw := gb.own av (some ai) (Yb be hu319);refine Xw ai 0 [vs ([] : Str), vi 0, G none 0 0, G none 0 0] [vs r16.Id, vi r16.Shape.Kind, G ag b8 b9, G af ca cb] [vs r16.Id, vi r16.Shape.Kind, G ag b8 b9, G af ca cb] Z k7 Z sz28 Z Z Z fun k8 ax h4 => ?_;have em := aw.wr 0 Z ax;refine Xf (vb r17) Z (Xb (Xd (Xe (Xc (G aa bi bj) Z (Xc (vs (nth ([([97] : Str), ([98] : Str), ([99] : Str), ([100] : Str), ([101] : Str), ([122] : Str)] : List Str) v3)) Z ?_)))));have k9 := (aw.sw (((bc.sw (((b6.sw ((f0.sos da d0).so _ b5 (Xg cq)) 4 0 Z Z Z b7).sos b0 cr).so _ bb (Xg bu)) 7 0 Z Z Z bd).sos a7 bp).so _ av (Xg be)) 10 0 Z Z Z ax);have la := (DArr.sm (L := (some ai :: bk ag :: bk af :: some ah :: bk ae :: bk ad :: some ao :: bk an :: bk am :: bk ac :: bk aa :: (ab ++ []))) (O := O) (i := 0) (((DArr.sm (L := (some ah :: bk ae :: bk ad :: some ao :: bk an :: bk am :: bk ac :: bk aa :: (ab ++ []))) (O := O) (i := 0) (((DArr.sm (L := (some ao :: bk an :: bk am :: bk ac :: bk aa :: (ab ++ []))) (O := O) (i := 0) ((f1.k0 da).k0 b5) b6 Z (fun b hb => (mcm (mcm (mcm (mcm (List.mem_append_left _ hb)))))) b7).k0 b0).k0 bb) bc Z (fun b hb => (mcm (mcm (mcm (mcm (mcm (mcm (mcm (List.mem_append_left _ hb))))))))) bd).k0 a7).k0 av) aw Z (fun b hb => (mcm (mcm (mcm (mcm (mcm (mcm (mcm (mcm (mcm (mcm (List.mem_append_left _ hb)))))))))))) ax);have lb : ((some ai :: bk ag :: bk af :: some ah :: bk ae :: bk ad :: some ao :: bk an :: bk am :: bk ac :: bk aa :: (ab ++ [])) : Ob).Perm (bk aa :: (ab ++ [some ai, bk ag, bk af, some ah, bk ae, bk ad, some ao, bk an, bk am, bk ac])) := (pc fun a => by (try simp only [pca, pcc, pcn, Nat.add_zero, Nat.zero_add]); first | done | ac_rfl);obtain ⟨lc, ld, rt⟩ := Dp.gv (L := (some ai :: bk ag :: bk af :: some ah :: bk ae :: bk ad :: some ao :: bk an :: bk am :: bk ac :: bk aa :: (ab ++ []))) (O := O) (v := G aa bi bj) k9 la em lb;refine Xo go23 [G aa bi bj, vs (nth ([([97] : Str), ([98] : Str), ([99] : Str), ([100] : Str), ([101] : Str), ([122] : Str)] : List Str) v3)] Z ((F58.calls k8 ld.ok r4 aa bi bj lc (nth ([([97] : Str), ([98] : Str), ([99] : Str), ([100] : Str), ([101] : Str), ([122] : Str)] : List Str) v3) e3 _ H).mono ?_);rintro _ ru ⟨r18, r19, aj, bv, bw, ak, bx, bz, rfl, H, au, lf, bf, gc, lg, lh⟩;have li := Ok.unl (L := (some ai :: bk ag :: bk af :: some ah :: bk ae :: bk ad :: some ao :: bk an :: bk am :: bk ac :: bk aa :: (ab ++ []))) (L' := [some ai, bk ag, bk af, some ah, bk ae, bk ad, some ao, bk an, bk am, bk ac]) (O := O) em au lf bf;have h5 := Ow.unl (L := (some ai :: bk ag :: bk af :: some ah :: bk ae :: bk ad :: some ao :: bk an :: bk am :: bk ac :: bk aa :: (ab ++ []))) (L' := [some ai, bk ag, bk af, some ah, bk ae, bk ad, some ao, bk an, bk am, bk ac]) (O := O) (fun _ _ _ _ _ _ h => h) (.cons_cons _ (.cons_cons _ (.cons_cons _ (.cons_cons _ (.cons_cons _ (.cons_cons _ (.cons_cons _ (.cons_cons _ (.cons_cons _ (.cons_cons _ (.cons _ ((List.sublist_append_of_sublist_right (.refl _)))))))))))))) lg;have h6 := Ow.unl (L := (some ai :: bk ag :: bk af :: some ah :: bk ae :: bk ad :: some ao :: bk an :: bk am :: bk ac :: bk aa :: (ab ++ []))) (L' := [some ai, bk ag, bk af, some ah, bk ae, bk ad, some ao, bk an, bk am, bk ac]) (O := O) (fun _ _ _ _ _ _ h => h) (.cons_cons _ (.cons_cons _ (.cons_cons _ (.cons_cons _ (.cons_cons _ (.cons_cons _ (.cons_cons _ (.cons_cons _ (.cons_cons _ (.cons_cons _ (.cons _ ((List.sublist_append_of_sublist_right (.refl _)))))))))))))) lh;have gd := em.owns au li bf;refine Xc (.tuple #[.agg #[vs r18.Id, vi r18.Shape.Kind, G aj bv bw, G ak bx bz], vb r19]) Z (Xa (Yg [.agg #[vs r18.Id, vi r18.Shape.Kind, G aj bv bw, G ak bx bz], vb r19] 0 (.agg #[vs r18.Id, vi r18.Shape.Kind, G aj bv bw, G ak bx bz]) Z Z) (Xa (Yg [.agg #[vs r18.Id, vi r18.Shape.Kind, G aj bv bw, G ak bx bz], vb r19] 1 (vb r19) Z Z) (Yc [vs [], .int .i64 0, G none 0 0, G none 0 0] ze28 fun rv al a8 hu359 ap lj => ?_)));have aq := gd.own ap (some al) (Yb a8 hu359);refine Xw al 0 [vs ([] : Str), vi 0, G none 0 0, G none 0 0] [vs r18.Id, vi r18.Shape.Kind, G aj bv bw, G ak bx bz] [vs r18.Id, vi r18.Shape.Kind, G aj bv bw, G ak bx bz] Z lj Z sz28 Z Z Z fun h7 ar h8 => ?_;have dq := aq.wr 0 Z ar;refine Xf (vb r19) Z (Xb (Xd ?_));obtain ⟨lk, H, ll⟩ := H;refine Y3 (J := (fun t bl => ∃ (left : Bool), lk left ∧ Has t [(3, G ay az a0), (4, G a1 a2 a3), (5, G a4 a5 a6), (6, G aa bi bj), (14, .pointer (some ⟨ao, 0, none⟩)), (15, vb r13), (16, .pointer (some ⟨ah, 0, none⟩)), (17, vb r15), (18, .pointer (some ⟨ai, 0, none⟩)), (19, vb r17), (20, .pointer (some ⟨al, 0, none⟩)), (21, vb r19), (22, vb left), (70, G ac cw cx), (71, vi (([([97] : Str), ([98] : Str), ([99] : Str), ([100] : Str), ([101] : Str), ([122] : Str)] : List Str).length : Int)), (72, vi v3)] ∧ Ct [] w0 bl (some al :: bk aj :: bk ak :: some ai :: bk ag :: bk af :: some ah :: bk ae :: bk ad :: some ao :: bk an :: bk am :: bk ac :: bk aa :: (ab ++ [])) O ∧ Sl kFeat bl (Fr ((some al :: bk aj :: bk ak :: some ai :: bk ag :: bk af :: some ah :: bk ae :: bk ad :: some ao :: bk an :: bk am :: bk ac :: bk aa :: (ab ++ [])) ++ O)) (G ay az a0) r ∧ Sl kFeat bl (Fr ((some al :: bk aj :: bk ak :: some ai :: bk ag :: bk af :: some ah :: bk ae :: bk ad :: some ao :: bk an :: bk am :: bk ac :: bk aa :: (ab ++ [])) ++ O)) (G a1 a2 a3) r2 ∧ Sl kFeat bl (Fr ((some al :: bk aj :: bk ak :: some ai :: bk ag :: bk af :: some ah :: bk ae :: bk ad :: some ao :: bk an :: bk am :: bk ac :: bk aa :: (ab ++ [])) ++ O)) (G a4 a5 a6) r3 ∧ Ow (Kd.cells 4) 28 bl ((some al :: bk aj :: bk ak :: some ai :: bk ag :: bk af :: some ah :: bk ae :: bk ad :: some ao :: bk an :: bk am :: bk ac :: bk aa :: (ab ++ [])) ++ O) (G aa bi bj) cv ∧ DArr dFeat_28 bl ab r4 cv ∧ Ow Kd.str 9 bl ((some al :: bk aj :: bk ak :: some ai :: bk ag :: bk af :: some ah :: bk ae :: bk ad :: some ao :: bk an :: bk am :: bk ac :: bk aa :: (ab ++ [])) ++ O) (G ac cw cx) ([([97] : Str), ([98] : Str), ([99] : Str), ([100] : Str), ([101] : Str), ([122] : Str)] : List Str) ∧ Ow kPt 61 bl ((some al :: bk aj :: bk ak :: some ai :: bk ag :: bk af :: some ah :: bk ae :: bk ad :: some ao :: bk an :: bk am :: bk ac :: bk aa :: (ab ++ [])) ++ O) (G ag b8 b9) r16.Shape.Pts ∧ Ow kTag 78 bl ((some al :: bk aj :: bk ak :: some ai :: bk ag :: bk af :: some ah :: bk ae :: bk ad :: some ao :: bk an :: bk am :: bk ac :: bk aa :: (ab ++ [])) ++ O) (G af ca cb) r16.Tags ∧ Ow kPt 61 bl ((some al :: bk aj :: bk ak :: some ai :: bk ag :: bk af :: some ah :: bk ae :: bk ad :: some ao :: bk an :: bk am :: bk ac :: bk aa :: (ab ++ [])) ++ O) (G ae bq br) r14.Shape.Pts ∧ Ow kTag 78 bl ((some al :: bk aj :: bk ak :: some ai :: bk ag :: bk af :: some ah :: bk ae :: bk ad :: some ao :: bk an :: bk am :: bk ac :: bk aa :: (ab ++ [])) ++ O) (G ad bs bt) r14.Tags ∧ Ow kPt 61 bl ((some al :: bk aj :: bk ak :: some ai :: bk ag :: bk af :: some ah :: bk ae :: bk ad :: some ao :: bk an :: bk am :: bk ac :: bk aa :: (ab ++ [])) ++ O) (G an ck cl) r12.Shape.Pts ∧ Ow kTag 78 bl ((some al :: bk aj :: bk ak :: some ai :: bk ag :: bk af :: some ah :: bk ae :: bk ad :: some ao :: bk an :: bk am :: bk ac :: bk aa :: (ab ++ [])) ++ O) (G am cm cn) r12.Tags ∧ Ow kPt 61 bl ((some al :: bk aj :: bk ak :: some ai :: bk ag :: bk af :: some ah :: bk ae :: bk ad :: some ao :: bk an :: bk am :: bk ac :: bk aa :: (ab ++ [])) ++ O) (G aj bv bw) r18.Shape.Pts ∧ Ow kTag 78 bl ((some al :: bk aj :: bk ak :: some ai :: bk ag :: bk af :: some ah :: bk ae :: bk ad :: some ao :: bk an :: bk am :: bk ac :: bk aa :: (ab ++ [])) ++ O) (G ak bx bz) r18.Tags ∧ Bx bl ao [vs r12.Id, vi r12.Shape.Kind, G an ck cl, G am cm cn] ∧ Bx bl ah [vs r14.Id, vi r14.Shape.Kind, G ae bq br, G ad bs bt] ∧ Bx bl ai [vs r16.Id, vi r16.Shape.Kind, G ag b8 b9, G af ca cb] ∧ Bx bl al [vs r18.Id, vi r18.Shape.Kind, G aj bv bw, G ak bx bz])) ?_ ?_
  ·refine Xe (Xc (vb r15) Z (Xc (vb r13) Z (Xa (Y7 u4_ r15 r13 (r15 == r13) Z Z Z) (Xc (vb (r15 == r13)) Z ?_))));rcases X8 (r15 == r13) with c6 | c6
   ·have H := Xh H c6;refine Xk c6 Z ?_;have h9 := (aq.bm (((aw.bm ((h0.k0 a7).k0 av) 3 0 Z Z Z ax).k0 au).k0 ap) 6 0 Z Z Z ar);refine Xa (Xs ag28 sz28 cL ⟨ah, 0, none⟩ [vs r14.Id, vi r14.Shape.Kind, G ae bq br, G ad bs bt] Z Z (h9.cells (off := 0) Z)) (Xk c6 Z ?_);have ia := (aq.bm (((aw.bm (((bc.bm ((hy.k0 b0).k0 bb) 3 0 Z Z Z bd).k0 a7).k0 av) 6 0 Z Z Z ax).k0 au).k0 ap) 9 0 Z Z Z ar);refine Xa (Xs ag28 sz28 cL ⟨ao, 0, none⟩ [vs r12.Id, vi r12.Shape.Kind, G an ck cl, G am cm cn] Z Z (ia.cells (off := 0) Z)) (Xk c6 Z ?_);have lm := (aq.sw (((aw.sw (((bc.sw (f8.so _ bb (Xg bu)) 1 0 Z Z Z bd).sos a7 bp).so _ av (Xg be)) 4 0 Z Z Z ax).sos au bf).so _ ap (Xg a8)) 7 0 Z Z Z ar);have ln := dq.gv lm 7 Z;have en := dq.drop 7 Z;have lo := (dq.sd (aq.sw (((aw.sw (((bc.sw (f9.so _ bb (Xg bu)) 2 0 Z Z Z bd).sos a7 bp).so _ av (Xg be)) 5 0 Z Z Z ax).sos au bf).so _ ap (Xg a8)) 8 0 Z Z Z ar) 8 7 Z Z Z);have lp := en.gv lo 7 Z;have e8 := en.drop 7 Z;have lq := (en.sd (dq.sd (aq.sw (((aw.sw (((bc.sw (((b6.sw (f3.so _ b5 (Xg cq)) 1 0 Z Z Z b7).sos b0 cr).so _ bb (Xg bu)) 4 0 Z Z Z bd).sos a7 bp).so _ av (Xg be)) 7 0 Z Z Z ax).sos au bf).so _ ap (Xg a8)) 10 0 Z Z Z ar) 10 7 Z Z Z) 9 7 Z Z Z);have lr := e8.gv lq 8 Z;have ge : Ct [] w0 h7 (some al :: bk aj :: bk ak :: some ai :: bk ag :: bk af :: some ah :: some ao :: bk am :: bk ac :: bk aa :: (ab ++ [])) O := e8.drop 8 Z;have ls := (e8.sd (en.sd (dq.sd (aq.sw (((aw.sw (((bc.sw (((b6.sw (f4.so _ b5 (Xg cq)) 2 0 Z Z Z b7).sos b0 cr).so _ bb (Xg bu)) 5 0 Z Z Z bd).sos a7 bp).so _ av (Xg be)) 8 0 Z Z Z ax).sos au bf).so _ ap (Xg a8)) 11 0 Z Z Z ar) 11 7 Z Z Z) 10 7 Z Z Z) 9 8 Z Z Z);have lt := ge.gv ls 8 Z;have lu := ge.drop 8 Z;have lv := en.std 7 Z;have ib := e8.std 8 Z;have gf := ge.std 8 Z;have lw := (((ln.st lv).st ib).st gf);have lx := ((lp.st ib).st gf);refine Xo go17 [.agg #[vs r14.Id, vi r14.Shape.Kind, G ae bq br, G ad bs bt], .agg #[vs r12.Id, vi r12.Shape.Kind, G an ck cl, G am cm cn]] Z ((F55.calls h7 lu.ok r14 ae bq br ad bs bt f7 lw lx r12 an ck cl am cm cn hw (lr.st gf) lt _ H).mono ?_);rintro _ rw ⟨r20, rfl, H, b1⟩;have ly := dq.k0 b1;refine Xa (Xq true (vb r20) c6 Z) (Xf (vb r20) Z (Xb ?_));have gg := e7.stos a7 bp;have gh := gb.stown _ av (Xg be);have gi := aw.stw 0 Z ax;have gj := em.stos au bf;have gk := gd.stown _ ap (Xg a8);have gl := aq.stw 0 Z ar;have gm := dq.stn b1;have lz := (((((((((((((fz.st e4).st e5).st e6).st ej).st ek).st el).st gg).st gh).st gi).st gj).st gk).st gl).st gm);have l0 := ((((((((((f6.st ej).st ek).st el).st gg).st gh).st gi).st gj).st gk).st gl).st gm);have l1 := (((((((ga.st gg).st gh).st gi).st gj).st gk).st gl).st gm);have l2 := ((aq.sw (((aw.sw (((bc.sw (((b6.sw ((f0.sos da d0).so _ b5 (Xg cq)) 4 0 Z Z Z b7).sos b0 cr).so _ bb (Xg bu)) 7 0 Z Z Z bd).sos a7 bp).so _ av (Xg be)) 10 0 Z Z Z ax).sos au bf).so _ ap (Xg a8)) 13 0 Z Z Z ar).sn b1);have l3 := ((DArr.sm (L := (some al :: bk aj :: bk ak :: some ai :: bk ag :: bk af :: some ah :: bk ae :: bk ad :: some ao :: bk an :: bk am :: bk ac :: bk aa :: (ab ++ []))) (O := O) (i := 0) (((DArr.sm (L := (some ai :: bk ag :: bk af :: some ah :: bk ae :: bk ad :: some ao :: bk an :: bk am :: bk ac :: bk aa :: (ab ++ []))) (O := O) (i := 0) (((DArr.sm (L := (some ah :: bk ae :: bk ad :: some ao :: bk an :: bk am :: bk ac :: bk aa :: (ab ++ []))) (O := O) (i := 0) (((DArr.sm (L := (some ao :: bk an :: bk am :: bk ac :: bk aa :: (ab ++ []))) (O := O) (i := 0) ((f1.k0 da).k0 b5) b6 Z (fun b hb => (mcm (mcm (mcm (mcm (List.mem_append_left _ hb)))))) b7).k0 b0).k0 bb) bc Z (fun b hb => (mcm (mcm (mcm (mcm (mcm (mcm (mcm (List.mem_append_left _ hb))))))))) bd).k0 a7).k0 av) aw Z (fun b hb => (mcm (mcm (mcm (mcm (mcm (mcm (mcm (mcm (mcm (mcm (List.mem_append_left _ hb)))))))))))) ax).k0 au).k0 ap) aq Z (fun b hb => (mcm (mcm (mcm (mcm (mcm (mcm (mcm (mcm (mcm (mcm (mcm (mcm (mcm (List.mem_append_left _ hb))))))))))))))) ar).k0 b1);have l4 := ((aq.sw (((aw.sw (((bc.sw (((b6.sw ((e2.sos da d0).so _ b5 (Xg cq)) 3 0 Z Z Z b7).sos b0 cr).so _ bb (Xg bu)) 6 0 Z Z Z bd).sos a7 bp).so _ av (Xg be)) 9 0 Z Z Z ax).sos au bf).so _ ap (Xg a8)) 12 0 Z Z Z ar).sn b1);have l5 := ((aq.sw (((aw.sw (h2.so _ av (Xg be)) 1 0 Z Z Z ax).sos au bf).so _ ap (Xg a8)) 4 0 Z Z Z ar).sn b1);have l6 := ((aq.sw (((aw.sw (h3.so _ av (Xg be)) 2 0 Z Z Z ax).sos au bf).so _ ap (Xg a8)) 5 0 Z Z Z ar).sn b1);have l7 := ((aq.sw (((aw.sw (((bc.sw (f8.so _ bb (Xg bu)) 1 0 Z Z Z bd).sos a7 bp).so _ av (Xg be)) 4 0 Z Z Z ax).sos au bf).so _ ap (Xg a8)) 7 0 Z Z Z ar).sn b1);have l8 := ((aq.sw (((aw.sw (((bc.sw (f9.so _ bb (Xg bu)) 2 0 Z Z Z bd).sos a7 bp).so _ av (Xg be)) 5 0 Z Z Z ax).sos au bf).so _ ap (Xg a8)) 8 0 Z Z Z ar).sn b1);have l9 := ((aq.sw (((aw.sw (((bc.sw (((b6.sw (f3.so _ b5 (Xg cq)) 1 0 Z Z Z b7).sos b0 cr).so _ bb (Xg bu)) 4 0 Z Z Z bd).sos a7 bp).so _ av (Xg be)) 7 0 Z Z Z ax).sos au bf).so _ ap (Xg a8)) 10 0 Z Z Z ar).sn b1);have ma := ((aq.sw (((aw.sw (((bc.sw (((b6.sw (f4.so _ b5 (Xg cq)) 2 0 Z Z Z b7).sos b0 cr).so _ bb (Xg bu)) 5 0 Z Z Z bd).sos a7 bp).so _ av (Xg be)) 8 0 Z Z Z ax).sos au bf).so _ ap (Xg a8)) 11 0 Z Z Z ar).sn b1);have mb := ((aq.sw (h5.so _ ap (Xg a8)) 1 0 Z Z Z ar).sn b1);have mc := ((aq.sw (h6.so _ ap (Xg a8)) 2 0 Z Z Z ar).sn b1);have md := (ia.k0 b1);have me := (h9.k0 b1);have mf := ((aq.bm ((h4.k0 au).k0 ap) 3 0 Z Z Z ar).k0 b1);have mg := (h8.k0 b1);exact ⟨r20, H, (Xn Z), ly, lz, l0, l1, l2, l3, l4, l5, l6, l7, l8, l9, ma, mb, mc, md, me, mf, mg⟩
   have H := Xi H c6;refine Xl c6 Z (Xl c6 Z (Xl c6 Z (Xa (Xq false (vb false) c6 Z) (Xf (vb false) Z (Xb ?_)))));have gn := e7.stos a7 bp;have gp := gb.stown _ av (Xg be);have gq := aw.stw 0 Z ax;have gs := em.stos au bf;have gt := gd.stown _ ap (Xg a8);have gu := aq.stw 0 Z ar;have mh := ((((((((((((fz.st e4).st e5).st e6).st ej).st ek).st el).st gn).st gp).st gq).st gs).st gt).st gu);have mi := (((((((((f6.st ej).st ek).st el).st gn).st gp).st gq).st gs).st gt).st gu);have mj := ((((((ga.st gn).st gp).st gq).st gs).st gt).st gu);have mk := (aq.sw (((aw.sw (((bc.sw (((b6.sw ((f0.sos da d0).so _ b5 (Xg cq)) 4 0 Z Z Z b7).sos b0 cr).so _ bb (Xg bu)) 7 0 Z Z Z bd).sos a7 bp).so _ av (Xg be)) 10 0 Z Z Z ax).sos au bf).so _ ap (Xg a8)) 13 0 Z Z Z ar);have ml := (DArr.sm (L := (some al :: bk aj :: bk ak :: some ai :: bk ag :: bk af :: some ah :: bk ae :: bk ad :: some ao :: bk an :: bk am :: bk ac :: bk aa :: (ab ++ []))) (O := O) (i := 0) (((DArr.sm (L := (some ai :: bk ag :: bk af :: some ah :: bk ae :: bk ad :: some ao :: bk an :: bk am :: bk ac :: bk aa :: (ab ++ []))) (O := O) (i := 0) (((DArr.sm (L := (some ah :: bk ae :: bk ad :: some ao :: bk an :: bk am :: bk ac :: bk aa :: (ab ++ []))) (O := O) (i := 0) (((DArr.sm (L := (some ao :: bk an :: bk am :: bk ac :: bk aa :: (ab ++ []))) (O := O) (i := 0) ((f1.k0 da).k0 b5) b6 Z (fun b hb => (mcm (mcm (mcm (mcm (List.mem_append_left _ hb)))))) b7).k0 b0).k0 bb) bc Z (fun b hb => (mcm (mcm (mcm (mcm (mcm (mcm (mcm (List.mem_append_left _ hb))))))))) bd).k0 a7).k0 av) aw Z (fun b hb => (mcm (mcm (mcm (mcm (mcm (mcm (mcm (mcm (mcm (mcm (List.mem_append_left _ hb)))))))))))) ax).k0 au).k0 ap) aq Z (fun b hb => (mcm (mcm (mcm (mcm (mcm (mcm (mcm (mcm (mcm (mcm (mcm (mcm (mcm (List.mem_append_left _ hb))))))))))))))) ar);have mm := (aq.sw (((aw.sw (((bc.sw (((b6.sw ((e2.sos da d0).so _ b5 (Xg cq)) 3 0 Z Z Z b7).sos b0 cr).so _ bb (Xg bu)) 6 0 Z Z Z bd).sos a7 bp).so _ av (Xg be)) 9 0 Z Z Z ax).sos au bf).so _ ap (Xg a8)) 12 0 Z Z Z ar);have mn := (aq.sw (((aw.sw (h2.so _ av (Xg be)) 1 0 Z Z Z ax).sos au bf).so _ ap (Xg a8)) 4 0 Z Z Z ar);have mo := (aq.sw (((aw.sw (h3.so _ av (Xg be)) 2 0 Z Z Z ax).sos au bf).so _ ap (Xg a8)) 5 0 Z Z Z ar);have mp := (aq.sw (((aw.sw (((bc.sw (f8.so _ bb (Xg bu)) 1 0 Z Z Z bd).sos a7 bp).so _ av (Xg be)) 4 0 Z Z Z ax).sos au bf).so _ ap (Xg a8)) 7 0 Z Z Z ar);have mq := (aq.sw (((aw.sw (((bc.sw (f9.so _ bb (Xg bu)) 2 0 Z Z Z bd).sos a7 bp).so _ av (Xg be)) 5 0 Z Z Z ax).sos au bf).so _ ap (Xg a8)) 8 0 Z Z Z ar);have mr := (aq.sw (((aw.sw (((bc.sw (((b6.sw (f3.so _ b5 (Xg cq)) 1 0 Z Z Z b7).sos b0 cr).so _ bb (Xg bu)) 4 0 Z Z Z bd).sos a7 bp).so _ av (Xg be)) 7 0 Z Z Z ax).sos au bf).so _ ap (Xg a8)) 10 0 Z Z Z ar);have ms := (aq.sw (((aw.sw (((bc.sw (((b6.sw (f4.so _ b5 (Xg cq)) 2 0 Z Z Z b7).sos b0 cr).so _ bb (Xg bu)) 5 0 Z Z Z bd).sos a7 bp).so _ av (Xg be)) 8 0 Z Z Z ax).sos au bf).so _ ap (Xg a8)) 11 0 Z Z Z ar);have mt := (aq.sw (h5.so _ ap (Xg a8)) 1 0 Z Z Z ar);have mu := (aq.sw (h6.so _ ap (Xg a8)) 2 0 Z Z Z ar);have mv := (aq.bm (((aw.bm (((bc.bm ((hy.k0 b0).k0 bb) 3 0 Z Z Z bd).k0 a7).k0 av) 6 0 Z Z Z ax).k0 au).k0 ap) 9 0 Z Z Z ar);have mw := (aq.bm (((aw.bm ((h0.k0 a7).k0 av) 3 0 Z Z Z ax).k0 au).k0 ap) 6 0 Z Z Z ar);have mx := (aq.bm ((h4.k0 au).k0 ap) 3 0 Z Z Z ar);exact ⟨false, H, (Xn Z), dq, mh, mi, mj, mk, ml, mm, mn, mo, mp, mq, mr, ms, mt, mu, mv, mw, mx, h8⟩
  rintro rx bl ⟨left, my, mz, cc, ic, id, ie, ig, ih, ii, gw, gx, ij, ik, m0, m1, il, im, m2, io, gy, ip⟩;obtain ⟨ry, rfl⟩ := Has.ins mz;have H := ll left my;refine Xd ?_;obtain ⟨m3, H, m4⟩ := H;refine Y3 (J := (fun t bo => ∃ (right : Bool), m3 right ∧ Has t [(3, G ay az a0), (4, G a1 a2 a3), (5, G a4 a5 a6), (6, G aa bi bj), (16, .pointer (some ⟨ah, 0, none⟩)), (17, vb r15), (18, .pointer (some ⟨ai, 0, none⟩)), (19, vb r17), (20, .pointer (some ⟨al, 0, none⟩)), (21, vb r19), (22, vb left), (23, vb right), (70, G ac cw cx), (71, vi (([([97] : Str), ([98] : Str), ([99] : Str), ([100] : Str), ([101] : Str), ([122] : Str)] : List Str).length : Int)), (72, vi v3)] ∧ Ct [] w0 bo (some al :: bk aj :: bk ak :: some ai :: bk ag :: bk af :: some ah :: bk ae :: bk ad :: bk ac :: bk aa :: (ab ++ [])) O ∧ Sl kFeat bo (Fr ((some al :: bk aj :: bk ak :: some ai :: bk ag :: bk af :: some ah :: bk ae :: bk ad :: bk ac :: bk aa :: (ab ++ [])) ++ O)) (G ay az a0) r ∧ Sl kFeat bo (Fr ((some al :: bk aj :: bk ak :: some ai :: bk ag :: bk af :: some ah :: bk ae :: bk ad :: bk ac :: bk aa :: (ab ++ [])) ++ O)) (G a1 a2 a3) r2 ∧ Sl kFeat bo (Fr ((some al :: bk aj :: bk ak :: some ai :: bk ag :: bk af :: some ah :: bk ae :: bk ad :: bk ac :: bk aa :: (ab ++ [])) ++ O)) (G a4 a5 a6) r3 ∧ Ow (Kd.cells 4) 28 bo ((some al :: bk aj :: bk ak :: some ai :: bk ag :: bk af :: some ah :: bk ae :: bk ad :: bk ac :: bk aa :: (ab ++ [])) ++ O) (G aa bi bj) cv ∧ DArr dFeat_28 bo ab r4 cv ∧ Ow Kd.str 9 bo ((some al :: bk aj :: bk ak :: some ai :: bk ag :: bk af :: some ah :: bk ae :: bk ad :: bk ac :: bk aa :: (ab ++ [])) ++ O) (G ac cw cx) ([([97] : Str), ([98] : Str), ([99] : Str), ([100] : Str), ([101] : Str), ([122] : Str)] : List Str) ∧ Ow kPt 61 bo ((some al :: bk aj :: bk ak :: some ai :: bk ag :: bk af :: some ah :: bk ae :: bk ad :: bk ac :: bk aa :: (ab ++ [])) ++ O) (G aj bv bw) r18.Shape.Pts ∧ Ow kTag 78 bo ((some al :: bk aj :: bk ak :: some ai :: bk ag :: bk af :: some ah :: bk ae :: bk ad :: bk ac :: bk aa :: (ab ++ [])) ++ O) (G ak bx bz) r18.Tags ∧ Ow kPt 61 bo ((some al :: bk aj :: bk ak :: some ai :: bk ag :: bk af :: some ah :: bk ae :: bk ad :: bk ac :: bk aa :: (ab ++ [])) ++ O) (G ag b8 b9) r16.Shape.Pts ∧ Ow kTag 78 bo ((some al :: bk aj :: bk ak :: some ai :: bk ag :: bk af :: some ah :: bk ae :: bk ad :: bk ac :: bk aa :: (ab ++ [])) ++ O) (G af ca cb) r16.Tags ∧ Ow kPt 61 bo ((some al :: bk aj :: bk ak :: some ai :: bk ag :: bk af :: some ah :: bk ae :: bk ad :: bk ac :: bk aa :: (ab ++ [])) ++ O) (G ae bq br) r14.Shape.Pts ∧ Ow kTag 78 bo ((some al :: bk aj :: bk ak :: some ai :: bk ag :: bk af :: some ah :: bk ae :: bk ad :: bk ac :: bk aa :: (ab ++ [])) ++ O) (G ad bs bt) r14.Tags ∧ Bx bo ah [vs r14.Id, vi r14.Shape.Kind, G ae bq br, G ad bs bt] ∧ Bx bo ai [vs r16.Id, vi r16.Shape.Kind, G ag b8 b9, G af ca cb] ∧ Bx bo al [vs r18.Id, vi r18.Shape.Kind, G aj bv bw, G ak bx bz])) ?_ ?_
  ·refine Xe (Xc (vb r17) Z (Xc (vb r13) Z (Xa (Y7 u4_ r17 r13 (r17 == r13) Z Z Z) (Xc (vb (r17 == r13)) Z ?_))));rcases X8 (r17 == r13) with c7 | c7
   ·have H := Xh H c7;refine Xk c7 Z (Xa (Xs ag28 sz28 cL ⟨ai, 0, none⟩ [vs r16.Id, vi r16.Shape.Kind, G ag b8 b9, G af ca cb] Z Z (gy.cells (off := 0) Z)) (Xk c7 Z (Xa (Xs ag28 sz28 cL ⟨ao, 0, none⟩ [vs r12.Id, vi r12.Shape.Kind, G an ck cl, G am cm cn] Z Z (m2.cells (off := 0) Z)) (Xk c7 Z ?_))));have m5 := cc.gv gw 4 Z;have eo := cc.drop 4 Z;have m6 := (cc.sd gx 5 4 Z Z Z);have m7 := eo.gv m6 4 Z;have e9 := eo.drop 4 Z;have m8 := (eo.sd (cc.sd m0 10 4 Z Z Z) 9 4 Z Z Z);have m9 := e9.gv m8 8 Z;have gz : Ct [] w0 bl (some al :: bk aj :: bk ak :: some ai :: some ah :: bk ae :: bk ad :: some ao :: bk am :: bk ac :: bk aa :: (ab ++ [])) O := e9.drop 8 Z;have na := (e9.sd (eo.sd (cc.sd m1 11 4 Z Z Z) 10 4 Z Z Z) 9 8 Z Z Z);have nb := gz.gv na 8 Z;have nc := gz.drop 8 Z;have nd := eo.std 4 Z;have iq := e9.std 8 Z;have g1 := gz.std 8 Z;have ne := (((m5.st nd).st iq).st g1);have nf := ((m7.st iq).st g1);refine Xo go17 [.agg #[vs r16.Id, vi r16.Shape.Kind, G ag b8 b9, G af ca cb], .agg #[vs r12.Id, vi r12.Shape.Kind, G an ck cl, G am cm cn]] Z ((F55.calls bl nc.ok r16 ag b8 b9 af ca cb h1 ne nf r12 an ck cl am cm cn hw (m9.st g1) nb _ H).mono ?_);rintro _ rz ⟨r21, rfl, H, co⟩;have dl := cc.k0 co;refine Xa (Xq true (vb r21) c7 Z) (Xf (vb r21) Z (Xb ?_));have cy : ((some al :: bk aj :: bk ak :: some ai :: bk ag :: bk af :: some ah :: bk ae :: bk ad :: some ao :: bk an :: bk am :: bk ac :: bk aa :: (ab ++ [])) : Ob).Perm ((some ao :: bk an :: bk am :: []) ++ (some al :: bk aj :: bk ak :: some ai :: bk ag :: bk af :: some ah :: bk ae :: bk ad :: bk ac :: bk aa :: (ab ++ []))) := (pc fun a => by (try simp only [pca, pcc, pcn, Nat.add_zero, Nat.zero_add]); first | done | ac_rfl);have ng := dl.drops cy;have g2 := cc.stn co;have nh := ((ic.st g2).st (St.drops _ O cy));have ni := ((id.st g2).st (St.drops _ O cy));have nj := ((ie.st g2).st (St.drops _ O cy));have nk := (dl.odr (ig.sn co) cy 10 Z);have nl := (ih.k0 co);have nm := (dl.odr (ii.sn co) cy 9 Z);have nn := (dl.odr (il.sn co) cy 1 Z);have no := (dl.odr (im.sn co) cy 2 Z);have np := (dl.odr (gw.sn co) cy 4 Z);have nq := (dl.odr (gx.sn co) cy 5 Z);have nr := (dl.odr (ij.sn co) cy 7 Z);have ns := (dl.odr (ik.sn co) cy 8 Z);have nt := (io.k0 co);have nu := (gy.k0 co);have nv := (ip.k0 co);exact ⟨r21, H, (Xn Z), ng, nh, ni, nj, nk, nl, nm, nn, no, np, nq, nr, ns, nt, nu, nv⟩
   have H := Xi H c7;refine Xl c7 Z (Xl c7 Z (Xl c7 Z (Xa (Xq false (vb false) c7 Z) (Xf (vb false) Z (Xb ?_)))));have cz : ((some al :: bk aj :: bk ak :: some ai :: bk ag :: bk af :: some ah :: bk ae :: bk ad :: some ao :: bk an :: bk am :: bk ac :: bk aa :: (ab ++ [])) : Ob).Perm ((some ao :: bk an :: bk am :: []) ++ (some al :: bk aj :: bk ak :: some ai :: bk ag :: bk af :: some ah :: bk ae :: bk ad :: bk ac :: bk aa :: (ab ++ []))) := (pc fun a => by (try simp only [pca, pcc, pcn, Nat.add_zero, Nat.zero_add]); first | done | ac_rfl);have nw := cc.drops cz;have nx := (cc.odr ig cz 10 Z);have ny := ih;have nz := (cc.odr ii cz 9 Z);have n0 := (cc.odr il cz 1 Z);have n1 := (cc.odr im cz 2 Z);have n3 := (cc.odr gw cz 4 Z);have n4 := (cc.odr gx cz 5 Z);have n5 := (cc.odr ij cz 7 Z);have n6 := (cc.odr ik cz 8 Z);have n7 := io;have n8 := gy;have n9 := ip;exact ⟨false, H, (Xn Z), nw, (ic.st (St.drops _ O cz)), (id.st (St.drops _ O cz)), (ie.st (St.drops _ O cz)), nx, ny, nz, n0, n1, n3, n4, n5, n6, n7, n8, n9⟩
  rintro r1 bo ⟨right, oa, ob, a9, dr, ds, dt, du, dv, dw, g3, g4, oc, od, ir, it, iu, oe, g5⟩;obtain ⟨sa, rfl⟩ := Has.ins ob;have H := m4 right oa;refine Xd (Xd ?_);obtain ⟨og, H, oh⟩ := H;refine Y3 (J := (fun t dx => ∃ (v4 : Bool), og v4 ∧ Has t [(3, G ay az a0), (4, G a1 a2 a3), (5, G a4 a5 a6), (6, G aa bi bj), (17, vb r15), (19, vb r17), (21, vb r19), (70, G ac cw cx), (71, vi (([([97] : Str), ([98] : Str), ([99] : Str), ([100] : Str), ([101] : Str), ([122] : Str)] : List Str).length : Int)), (72, vi v3), (141, vb v4)] ∧ Ct [] w0 dx (bk ac :: bk aa :: (ab ++ [])) O ∧ Sl kFeat dx (Fr ((bk ac :: bk aa :: (ab ++ [])) ++ O)) (G ay az a0) r ∧ Sl kFeat dx (Fr ((bk ac :: bk aa :: (ab ++ [])) ++ O)) (G a1 a2 a3) r2 ∧ Sl kFeat dx (Fr ((bk ac :: bk aa :: (ab ++ [])) ++ O)) (G a4 a5 a6) r3 ∧ Ow (Kd.cells 4) 28 dx ((bk ac :: bk aa :: (ab ++ [])) ++ O) (G aa bi bj) cv ∧ DArr dFeat_28 dx ab r4 cv ∧ Ow Kd.str 9 dx ((bk ac :: bk aa :: (ab ++ [])) ++ O) (G ac cw cx) ([([97] : Str), ([98] : Str), ([99] : Str), ([100] : Str), ([101] : Str), ([122] : Str)] : List Str))) ?_ ?_
  ·refine Xe (Xc (vb left) Z (Xc (vb left) Z ?_));rcases X8 left with b2 | b2
   ·have H := Xh H b2;refine Xk b2 Z (Xc (vb r19) Z (Xk b2 Z (Xc (vb r17) Z (Xk b2 Z (Xa (Y7 u4_ r19 r17 (r19 != r17) Z Z Z) (Xk b2 Z (Xc (vb (r19 != r17)) Z ?_)))))));rcases X8 (r19 != r17) with cs | cs
    ·have H := Xh H cs;refine Xl cs Z (Xl cs Z (Xl cs Z (Xl cs Z (Xk b2 Z (Xa (Xq true (vb true) cs Z) (Xa (Xq true (vb true) b2 Z) (Xc (vb true) Z (Ye (dj := 128) Z Z (.inl Z) ?_))))))));refine Ye (dj := 128) Z Z (.inl Z) (Yu Z (Yu Z (Yu Z (Yu Z (Yu Z (Yu Z (Yu Z (Yu Z ?_))))))));refine Yu Z (Ye (dj := 128) Z Z (.inl Z) (Xa (Xq true (vb true) Z Z) (Xb ?_)));have ea : ((some al :: bk aj :: bk ak :: some ai :: bk ag :: bk af :: some ah :: bk ae :: bk ad :: bk ac :: bk aa :: (ab ++ [])) : Ob).Perm ((some al :: bk aj :: bk ak :: some ai :: bk ag :: bk af :: some ah :: bk ae :: bk ad :: []) ++ (bk ac :: bk aa :: (ab ++ []))) := (pc fun a => by (try simp only [pca, pcc, pcn, Nat.add_zero, Nat.zero_add]); first | done | ac_rfl);have oi := a9.drops ea;have oj := (a9.odr du ea 1 Z);have ol := dv;have om := (a9.odr dw ea 0 Z);exact ⟨true, H, (Xn Z), oi, (dr.st (St.drops _ O ea)), (ds.st (St.drops _ O ea)), (dt.st (St.drops _ O ea)), oj, ol, om⟩
    have H := Xi H cs;refine Xk cs Z (Xa (Xs ag28 sz28 cL ⟨al, 0, none⟩ [vs r18.Id, vi r18.Shape.Kind, G aj bv bw, G ak bx bz] Z Z (g5.cells (off := 0) Z)) (Xk cs Z (Xa (Xs ag28 sz28 cL ⟨ai, 0, none⟩ [vs r16.Id, vi r16.Shape.Kind, G ag b8 b9, G af ca cb] Z Z (oe.cells (off := 0) Z)) (Xk cs Z ?_))));have on := a9.gv g3 1 Z;have ep := a9.drop 1 Z;have oo := (a9.sd g4 2 1 Z Z Z);have oq := ep.gv oo 1 Z;have fa := ep.drop 1 Z;have os := (ep.sd (a9.sd oc 4 1 Z Z Z) 3 1 Z Z Z);have ot := fa.gv os 2 Z;have g6 : Ct [] w0 bo (some al :: some ai :: bk af :: some ah :: bk ae :: bk ad :: bk ac :: bk aa :: (ab ++ [])) O := fa.drop 2 Z;have ou := (fa.sd (ep.sd (a9.sd od 5 1 Z Z Z) 4 1 Z Z Z) 3 2 Z Z Z);have ov := g6.gv ou 2 Z;have ow := g6.drop 2 Z;have ox := ep.std 1 Z;have iv := fa.std 2 Z;have g7 := g6.std 2 Z;have oy := (((on.st ox).st iv).st g7);have oz := ((oq.st iv).st g7);refine Xo go17 [.agg #[vs r18.Id, vi r18.Shape.Kind, G aj bv bw, G ak bx bz], .agg #[vs r16.Id, vi r16.Shape.Kind, G ag b8 b9, G af ca cb]] Z ((F55.calls bo ow.ok r18 aj bv bw ak bx bz gc oy oz r16 ag b8 b9 af ca cb h1 (ot.st g7) ov _ H).mono ?_);rintro _ iw ⟨r22, rfl, H, bg⟩;have cd := a9.k0 bg;refine Xk cs Z (Xa (Yf r22 Z) (Xk b2 Z (Xa (Xq false (vb (!r22)) cs Z) (Xa (Xq true (vb (!r22)) b2 Z) (Xc (vb (!r22)) Z ?_)))));rcases X8 (!r22) with ce | ce
    ·have H := Xh H ce;refine Xl ce Z (Xl ce Z (Yu Z (Yu Z (Yu Z (Yu Z (Yu Z (Yu Z (Yu Z ?_))))))));refine Yu Z (Yu Z (Xl ce Z (Xa (Xq true (vb true) ce Z) (Xb ?_))));have eb : ((some al :: bk aj :: bk ak :: some ai :: bk ag :: bk af :: some ah :: bk ae :: bk ad :: bk ac :: bk aa :: (ab ++ [])) : Ob).Perm ((some al :: bk aj :: bk ak :: some ai :: bk ag :: bk af :: some ah :: bk ae :: bk ad :: []) ++ (bk ac :: bk aa :: (ab ++ []))) := (pc fun a => by (try simp only [pca, pcc, pcn, Nat.add_zero, Nat.zero_add]); first | done | ac_rfl);have o0 := cd.drops eb;have g8 := a9.stn bg;have o1 := ((dr.st g8).st (St.drops _ O eb));have o2 := ((ds.st g8).st (St.drops _ O eb));have o3 := ((dt.st g8).st (St.drops _ O eb));have o4 := (cd.odr (du.sn bg) eb 1 Z);have o5 := (dv.k0 bg);have o6 := (cd.odr (dw.sn bg) eb 0 Z);exact ⟨true, H, (Xn Z), o0, o1, o2, o3, o4, o5, o6⟩
    have H := Xi H ce;refine Xk ce Z (Xc (vb right) Z (Xk ce Z (Xc (vb right) Z ?_)));rcases X8 right with b3 | b3
    ·have H := Xh H b3;refine Xk b3 Z (Xc (vb r19) Z (Xk b3 Z (Xc (vb r15) Z (Xk b3 Z (Xa (Y7 u4_ r19 r15 (r19 != r15) Z Z Z) (Xk b3 Z (Xc (vb (r19 != r15)) Z ?_)))))));rcases X8 (r19 != r15) with ct | ct
     ·have H := Xh H ct;refine Xl ct Z (Xl ct Z (Xl ct Z (Xl ct Z (Xk b3 Z (Xa (Xq true (vb true) ct Z) (Xk ce Z (Xa (Xq true (vb true) b3 Z) (Xa (Xq false (vb true) ce Z) ?_))))))));refine Xb ?_;have ec : ((some al :: bk aj :: bk ak :: some ai :: bk ag :: bk af :: some ah :: bk ae :: bk ad :: bk ac :: bk aa :: (ab ++ [])) : Ob).Perm ((some al :: bk aj :: bk ak :: some ai :: bk ag :: bk af :: some ah :: bk ae :: bk ad :: []) ++ (bk ac :: bk aa :: (ab ++ []))) := (pc fun a => by (try simp only [pca, pcc, pcn, Nat.add_zero, Nat.zero_add]); first | done | ac_rfl);have o7 := cd.drops ec;have ha := a9.stn bg;have o8 := ((dr.st ha).st (St.drops _ O ec));have o9 := ((ds.st ha).st (St.drops _ O ec));have pa := ((dt.st ha).st (St.drops _ O ec));have pb := (cd.odr (du.sn bg) ec 1 Z);have pd := (dv.k0 bg);have pe := (cd.odr (dw.sn bg) ec 0 Z);exact ⟨true, H, (Xn Z), o7, o8, o9, pa, pb, pd, pe⟩
     have H := Xi H ct;refine Xk ct Z ?_;have pf := (g5.k0 bg);refine Xa (Xs ag28 sz28 cL ⟨al, 0, none⟩ [vs r18.Id, vi r18.Shape.Kind, G aj bv bw, G ak bx bz] Z Z (pf.cells (off := 0) Z)) (Xk ct Z ?_);have pg := (iu.k0 bg);refine Xa (Xs ag28 sz28 cL ⟨ah, 0, none⟩ [vs r14.Id, vi r14.Shape.Kind, G ae bq br, G ad bs bt] Z Z (pg.cells (off := 0) Z)) (Xk ct Z ?_);have ph := (g3.sn bg);have pi := cd.gv ph 1 Z;have eq := cd.drop 1 Z;have pj := (cd.sd (g4.sn bg) 2 1 Z Z Z);have pk := eq.gv pj 1 Z;have fb := eq.drop 1 Z;have pl := (eq.sd (cd.sd (ir.sn bg) 7 1 Z Z Z) 6 1 Z Z Z);have pm := fb.gv pl 5 Z;have hc : Ct [] w0 iw (some al :: some ai :: bk ag :: bk af :: some ah :: bk ad :: bk ac :: bk aa :: (ab ++ [])) O := fb.drop 5 Z;have pn := (fb.sd (eq.sd (cd.sd (it.sn bg) 8 1 Z Z Z) 7 1 Z Z Z) 6 5 Z Z Z);have po := hc.gv pn 5 Z;have pp := hc.drop 5 Z;have pq := eq.std 1 Z;have ix := fb.std 5 Z;have hd := hc.std 5 Z;have pr := (((pi.st pq).st ix).st hd);have ps := ((pk.st ix).st hd);refine Xo go17 [.agg #[vs r18.Id, vi r18.Shape.Kind, G aj bv bw, G ak bx bz], .agg #[vs r14.Id, vi r14.Shape.Kind, G ae bq br, G ad bs bt]] Z ((F55.calls iw pp.ok r18 aj bv bw ak bx bz gc pr ps r14 ae bq br ad bs bt f7 (pm.st hd) po _ H).mono ?_);rintro _ sb ⟨r23, rfl, H, er⟩;have he := cd.k0 er;refine Xk ct Z (Xa (Yf r23 Z) (Xk b3 Z (Xa (Xq false (vb (!r23)) ct Z) (Xk ce Z (Xa (Xq true (vb (!r23)) b3 Z) (Xa (Xq false (vb (!r23)) ce Z) (Xb ?_)))))));have ed : ((some al :: bk aj :: bk ak :: some ai :: bk ag :: bk af :: some ah :: bk ae :: bk ad :: bk ac :: bk aa :: (ab ++ [])) : Ob).Perm ((some al :: bk aj :: bk ak :: some ai :: bk ag :: bk af :: some ah :: bk ae :: bk ad :: []) ++ (bk ac :: bk aa :: (ab ++ []))) := (pc fun a => by (try simp only [pca, pcc, pcn, Nat.add_zero, Nat.zero_add]); first | done | ac_rfl);have pt := he.drops ed;have hf := a9.stn bg;have hg := cd.stn er;have pu := (((dr.st hf).st hg).st (St.drops _ O ed));have pv := (((ds.st hf).st hg).st (St.drops _ O ed));have pw := (((dt.st hf).st hg).st (St.drops _ O ed));have px := (he.odr ((du.sn bg).sn er) ed 1 Z);have py := ((dv.k0 bg).k0 er);have pz := (he.odr ((dw.sn bg).sn er) ed 0 Z);exact ⟨!r23, H, (Xn Z), pt, pu, pv, pw, px, py, pz⟩
    have H := Xi H b3;refine Xl b3 Z (Xl b3 Z (Xl b3 Z (Xl b3 Z (Yu Z (Yu Z (Yu Z (Yu Z (Xl b3 Z ?_))))))));refine Xk ce Z (Xa (Xq false (vb false) b3 Z) (Xa (Xq false (vb false) ce Z) (Xb ?_)));have ee : ((some al :: bk aj :: bk ak :: some ai :: bk ag :: bk af :: some ah :: bk ae :: bk ad :: bk ac :: bk aa :: (ab ++ [])) : Ob).Perm ((some al :: bk aj :: bk ak :: some ai :: bk ag :: bk af :: some ah :: bk ae :: bk ad :: []) ++ (bk ac :: bk aa :: (ab ++ []))) := (pc fun a => by (try simp only [pca, pcc, pcn, Nat.add_zero, Nat.zero_add]); first | done | ac_rfl);have p0 := cd.drops ee;have hh := a9.stn bg;have p1 := ((dr.st hh).st (St.drops _ O ee));have p2 := ((ds.st hh).st (St.drops _ O ee));have p3 := ((dt.st hh).st (St.drops _ O ee));have p4 := (cd.odr (du.sn bg) ee 1 Z);have p5 := (dv.k0 bg);have p6 := (cd.odr (dw.sn bg) ee 0 Z);exact ⟨false, H, (Xn Z), p0, p1, p2, p3, p4, p5, p6⟩
   have H := Xi H b2;refine Xl b2 Z (Xl b2 Z (Xl b2 Z (Xl b2 Z (Yu Z (Yu Z (Yu Z (Yu Z (Xl b2 Z ?_))))))));refine Xa (Xq false (vb false) b2 Z) (Xc (vb false) Z (Yq (dj := 128) Z Z Z (Xc (vb right) Z (Yq (dj := 128) Z Z Z (Xc (vb right) Z ?_)))));rcases X8 right with b4 | b4
   ·have H := Xh H b4;refine Xk b4 Z (Xc (vb r19) Z (Xk b4 Z (Xc (vb r15) Z (Xk b4 Z (Xa (Y7 u4_ r19 r15 (r19 != r15) Z Z Z) (Xk b4 Z (Xc (vb (r19 != r15)) Z ?_)))))));rcases X8 (r19 != r15) with cu | cu
    ·have H := Xh H cu;refine Xl cu Z (Xl cu Z (Xl cu Z (Xl cu Z (Xk b4 Z (Xa (Xq true (vb true) cu Z) (Yq (dj := 128) Z Z Z (Xa (Xq true (vb true) b4 Z) (Xa (Xq false (vb true) Z Z) ?_))))))));refine Xb ?_;have ef : ((some al :: bk aj :: bk ak :: some ai :: bk ag :: bk af :: some ah :: bk ae :: bk ad :: bk ac :: bk aa :: (ab ++ [])) : Ob).Perm ((some al :: bk aj :: bk ak :: some ai :: bk ag :: bk af :: some ah :: bk ae :: bk ad :: []) ++ (bk ac :: bk aa :: (ab ++ []))) := (pc fun a => by (try simp only [pca, pcc, pcn, Nat.add_zero, Nat.zero_add]); first | done | ac_rfl);have p7 := a9.drops ef;have p8 := (a9.odr du ef 1 Z);have p9 := dv;have qa := (a9.odr dw ef 0 Z);exact ⟨true, H, (Xn Z), p7, (dr.st (St.drops _ O ef)), (ds.st (St.drops _ O ef)), (dt.st (St.drops _ O ef)), p8, p9, qa⟩
    have H := Xi H cu;refine Xk cu Z (Xa (Xs ag28 sz28 cL ⟨al, 0, none⟩ [vs r18.Id, vi r18.Shape.Kind, G aj bv bw, G ak bx bz] Z Z (g5.cells (off := 0) Z)) (Xk cu Z (Xa (Xs ag28 sz28 cL ⟨ah, 0, none⟩ [vs r14.Id, vi r14.Shape.Kind, G ae bq br, G ad bs bt] Z Z (iu.cells (off := 0) Z)) (Xk cu Z ?_))));have qb := a9.gv g3 1 Z;have es := a9.drop 1 Z;have qc := (a9.sd g4 2 1 Z Z Z);have qd := es.gv qc 1 Z;have fc := es.drop 1 Z;have qe := (es.sd (a9.sd ir 7 1 Z Z Z) 6 1 Z Z Z);have qf := fc.gv qe 5 Z;have hi : Ct [] w0 bo (some al :: some ai :: bk ag :: bk af :: some ah :: bk ad :: bk ac :: bk aa :: (ab ++ [])) O := fc.drop 5 Z;have qg := (fc.sd (es.sd (a9.sd it 8 1 Z Z Z) 7 1 Z Z Z) 6 5 Z Z Z);have qh := hi.gv qg 5 Z;have qi := hi.drop 5 Z;have qj := es.std 1 Z;have iy := fc.std 5 Z;have hj := hi.std 5 Z;have qk := (((qb.st qj).st iy).st hj);have ql := ((qd.st iy).st hj);refine Xo go17 [.agg #[vs r18.Id, vi r18.Shape.Kind, G aj bv bw, G ak bx bz], .agg #[vs r14.Id, vi r14.Shape.Kind, G ae bq br, G ad bs bt]] Z ((F55.calls bo qi.ok r18 aj bv bw ak bx bz gc qk ql r14 ae bq br ad bs bt f7 (qf.st hj) qh _ H).mono ?_);rintro _ sc ⟨r24, rfl, H, et⟩;have hk := a9.k0 et;refine Xk cu Z (Xa (Yf r24 Z) (Xk b4 Z (Xa (Xq false (vb (!r24)) cu Z) (Yq (dj := 128) Z Z Z (Xa (Xq true (vb (!r24)) b4 Z) (Xa (Xq false (vb (!r24)) Z Z) (Xb ?_)))))));have eg : ((some al :: bk aj :: bk ak :: some ai :: bk ag :: bk af :: some ah :: bk ae :: bk ad :: bk ac :: bk aa :: (ab ++ [])) : Ob).Perm ((some al :: bk aj :: bk ak :: some ai :: bk ag :: bk af :: some ah :: bk ae :: bk ad :: []) ++ (bk ac :: bk aa :: (ab ++ []))) := (pc fun a => by (try simp only [pca, pcc, pcn, Nat.add_zero, Nat.zero_add]); first | done | ac_rfl);have qm := hk.drops eg;have hl := a9.stn et;have qn := ((dr.st hl).st (St.drops _ O eg));have qo := ((ds.st hl).st (St.drops _ O eg));have qp := ((dt.st hl).st (St.drops _ O eg));have qq := (hk.odr (du.sn et) eg 1 Z);have qr := (dv.k0 et);have qs := (hk.odr (dw.sn et) eg 0 Z);exact ⟨!r24, H, (Xn Z), qm, qn, qo, qp, qq, qr, qs⟩
   have H := Xi H b4;refine Xl b4 Z (Xl b4 Z (Xl b4 Z (Xl b4 Z (Yu Z (Yu Z (Yu Z (Yu Z (Xl b4 Z ?_))))))));refine Yq (dj := 128) Z Z Z (Xa (Xq false (vb false) b4 Z) (Xa (Xq false (vb false) Z Z) (Xb ?_)));have eh : ((some al :: bk aj :: bk ak :: some ai :: bk ag :: bk af :: some ah :: bk ae :: bk ad :: bk ac :: bk aa :: (ab ++ [])) : Ob).Perm ((some al :: bk aj :: bk ak :: some ai :: bk ag :: bk af :: some ah :: bk ae :: bk ad :: []) ++ (bk ac :: bk aa :: (ab ++ []))) := (pc fun a => by (try simp only [pca, pcc, pcn, Nat.add_zero, Nat.zero_add]); first | done | ac_rfl);have qt := a9.drops eh;have qu := (a9.odr du eh 1 Z);have qv := dv;have qw := (a9.odr dw eh 0 Z);exact ⟨false, H, (Xn Z), qt, (dr.st (St.drops _ O eh)), (ds.st (St.drops _ O eh)), (dt.st (St.drops _ O eh)), qu, qv, qw⟩
  rintro se dx ⟨v4, qx, qy, c8, db, dc, dd, de, df, dg⟩;obtain ⟨sf, rfl⟩ := Has.ins qy;have H := oh v4 qx;refine Xr v4 Z (fun hm => ?_) (fun hm => ?_)
  ·have H := Xh H hm;refine Xd (Xe (Xf (vb false) Z (Xb (Xm ?_))));have qz := c8.clear;exact ⟨[vb false], ⟨_, Z, Z⟩, false, Z, H, qz.gr.g0⟩
  have H := Xi H hm;refine Xv (Xd ?_);obtain ⟨q0, H, q1⟩ := H;refine Y3 (J := (fun t dy => ∃ (v5 : Bool), q0 v5 ∧ Has t [(3, G ay az a0), (4, G a1 a2 a3), (5, G a4 a5 a6), (6, G aa bi bj), (70, G ac cw cx), (71, vi (([([97] : Str), ([98] : Str), ([99] : Str), ([100] : Str), ([101] : Str), ([122] : Str)] : List Str).length : Int)), (72, vi v3), (160, vb v5)] ∧ Ct [] w0 dy (bk ac :: bk aa :: (ab ++ [])) O ∧ Sl kFeat dy (Fr ((bk ac :: bk aa :: (ab ++ [])) ++ O)) (G ay az a0) r ∧ Sl kFeat dy (Fr ((bk ac :: bk aa :: (ab ++ [])) ++ O)) (G a1 a2 a3) r2 ∧ Sl kFeat dy (Fr ((bk ac :: bk aa :: (ab ++ [])) ++ O)) (G a4 a5 a6) r3 ∧ Ow (Kd.cells 4) 28 dy ((bk ac :: bk aa :: (ab ++ [])) ++ O) (G aa bi bj) cv ∧ DArr dFeat_28 dy ab r4 cv ∧ Ow Kd.str 9 dy ((bk ac :: bk aa :: (ab ++ [])) ++ O) (G ac cw cx) ([([97] : Str), ([98] : Str), ([99] : Str), ([100] : Str), ([101] : Str), ([122] : Str)] : List Str))) ?_ ?_
  ·refine Xe (Xc (vb r19) Z (Xc (vb r19) Z ?_));rcases X8 r19 with dm | dm
   ·have H := Xh H dm;refine Xk dm Z (Xc (vb r15) Z (Xk dm Z (Xa (Yf r15 Z) (Xa (Xq true (vb (!r15)) dm Z) (Xc (vb (!r15)) Z ?_)))));rcases X8 (!r15) with dn | dn
    ·have H := Xh H dn;refine Xk dn Z (Xc (vb r17) Z (Xk dn Z (Xa (Yf r17 Z) (Xa (Xq true (vb (!r17)) dn Z) (Xc (vb (!r17)) Z ?_)))));rcases X8 (!r17) with bh | bh
     ·have H := Xh H bh;refine Xl bh Z (Xl bh Z (Xl bh Z (Yu Z (Xl bh Z (Xl bh Z (Yu Z (Xl bh Z (Xa (Xq true (vb true) bh Z) ?_))))))));exact Xb ⟨true, H, (Xn Z), c8, db, dc, dd, de, df, dg⟩
     have H := Xi H bh;refine Xk bh Z (Xc (vb r19) Z (Xk bh Z (Xa (Yf r19 Z) (Xk bh Z (Xc (vb (!r19)) Z ?_)))));rcases X8 (!r19) with d1 | d1
     ·have H := Xh H d1;refine Xk d1 Z (Xc (vb r15) Z (Xk bh Z (Xa (Xq true (vb r15) d1 Z) (Xk bh Z (Xc (vb r15) Z ?_)))));rcases X8 r15 with d2 | d2
      ·have H := Xh H d2;exact Xk d2 Z (Xc (vb r17) Z (Xk bh Z (Xa (Xq true (vb r17) d2 Z) (Xa (Xq false (vb r17) bh Z) (Xb ⟨r17, H, (Xn Z), c8, db, dc, dd, de, df, dg⟩)))))
      have H := Xi H d2;exact Xl d2 Z (Xk bh Z (Xa (Xq false (vb false) d2 Z) (Xa (Xq false (vb false) bh Z) (Xb ⟨false, H, (Xn Z), c8, db, dc, dd, de, df, dg⟩))))
     have H := Xi H d1;refine Xl d1 Z (Xk bh Z (Xa (Xq false (vb false) d1 Z) (Xk bh Z (Xc (vb false) Z (Ye (dj := 157) Z Z (.inl Z) (Xk bh Z (Xa (Xq false (vb false) Z Z) (Xa (Xq false (vb false) bh Z) ?_))))))));exact Xb ⟨false, H, (Xn Z), c8, db, dc, dd, de, df, dg⟩
    have H := Xi H dn;refine Xl dn Z (Xl dn Z (Xa (Xq false (vb false) dn Z) (Xc (vb false) Z (Yq (dj := 151) Z Z Z (Xc (vb r19) Z (Yq (dj := 151) Z Z Z (Xa (Yf r19 Z) (Yq (dj := 151) Z Z Z ?_))))))));refine Xc (vb (!r19)) Z ?_;rcases X8 (!r19) with d3 | d3
    ·have H := Xh H d3;refine Xk d3 Z (Xc (vb r15) Z (Yq (dj := 151) Z Z Z (Xa (Xq true (vb r15) d3 Z) (Yq (dj := 151) Z Z Z (Xc (vb r15) Z ?_)))));rcases X8 r15 with d4 | d4
     ·have H := Xh H d4;exact Xk d4 Z (Xc (vb r17) Z (Yq (dj := 151) Z Z Z (Xa (Xq true (vb r17) d4 Z) (Xa (Xq false (vb r17) Z Z) (Xb ⟨r17, H, (Xn Z), c8, db, dc, dd, de, df, dg⟩)))))
     have H := Xi H d4;exact Xl d4 Z (Yq (dj := 151) Z Z Z (Xa (Xq false (vb false) d4 Z) (Xa (Xq false (vb false) Z Z) (Xb ⟨false, H, (Xn Z), c8, db, dc, dd, de, df, dg⟩))))
    have H := Xi H d3;refine Xl d3 Z (Yq (dj := 151) Z Z Z (Xa (Xq false (vb false) d3 Z) (Yq (dj := 151) Z Z Z (Xc (vb false) Z (Ye (dj := 157) Z Z (.inl Z) (Yq (dj := 151) Z Z Z (Xa (Xq false (vb false) Z Z) (Xa (Xq false (vb false) Z Z) ?_))))))));exact Xb ⟨false, H, (Xn Z), c8, db, dc, dd, de, df, dg⟩
   have H := Xi H dm;refine Xl dm Z (Xl dm Z (Xa (Xq false (vb false) dm Z) (Xc (vb false) Z (Ye (dj := 147) Z Z (.inl Z) (Ye (dj := 147) Z Z (.inl Z) (Xa (Xq false (vb false) Z Z) (Xc (vb false) Z (Yq (dj := 151) Z Z Z ?_))))))));refine Xc (vb r19) Z (Yq (dj := 151) Z Z Z (Xa (Yf r19 Z) (Yq (dj := 151) Z Z Z (Xc (vb (!r19)) Z ?_))));rcases X8 (!r19) with d5 | d5
   ·have H := Xh H d5;refine Xk d5 Z (Xc (vb r15) Z (Yq (dj := 151) Z Z Z (Xa (Xq true (vb r15) d5 Z) (Yq (dj := 151) Z Z Z (Xc (vb r15) Z ?_)))));rcases X8 r15 with d6 | d6
    ·have H := Xh H d6;exact Xk d6 Z (Xc (vb r17) Z (Yq (dj := 151) Z Z Z (Xa (Xq true (vb r17) d6 Z) (Xa (Xq false (vb r17) Z Z) (Xb ⟨r17, H, (Xn Z), c8, db, dc, dd, de, df, dg⟩)))))
    have H := Xi H d6;exact Xl d6 Z (Yq (dj := 151) Z Z Z (Xa (Xq false (vb false) d6 Z) (Xa (Xq false (vb false) Z Z) (Xb ⟨false, H, (Xn Z), c8, db, dc, dd, de, df, dg⟩))))
   have H := Xi H d5;refine Xl d5 Z (Yq (dj := 151) Z Z Z (Xa (Xq false (vb false) d5 Z) (Yq (dj := 151) Z Z Z (Xc (vb false) Z (Ye (dj := 157) Z Z (.inl Z) (Yq (dj := 151) Z Z Z (Xa (Xq false (vb false) Z Z) (Xa (Xq false (vb false) Z Z) ?_))))))));exact Xb ⟨false, H, (Xn Z), c8, db, dc, dd, de, df, dg⟩
  rintro sg dy ⟨v5, q2, q3, iz, q4, q5, q6, q7, q8, q9⟩;obtain ⟨sh, rfl⟩ := Has.ins q3;have H := q1 v5 q2;refine Xr v5 Z (fun hn => ?_) (fun hn => ?_)
  ·have H := Xh H hn;refine Xd (Xe (Xf (vb false) Z (Xb (Xm ?_))));have ra := iz.clear;exact ⟨[vb false], ⟨_, Z, Z⟩, false, Z, H, ra.gr.g0⟩
  have H := Xi H hn;refine Xv (Xe ?_);obtain ⟨rb, H⟩ := H;refine Xa (X2 v3 1 Z Z rb) (Xc (vi (v3 + 1)) Z (Xb ?_));obtain ⟨rc, rd⟩ := H;exact ⟨v3 + 1, rd, rc, (Xn Z), iz, q4, q5, q6, q7, q8, q9⟩
 have H := Xi H f2;refine Yh (xin_hit ?_);refine Xd (Xe (Xf (vb true) Z (Xb (Xm ?_))));have re := e1.clear;exact ⟨[vb true], ⟨_, Z, Z⟩, true, Z, H, re.gr.g0⟩
end
section
section
variable {α : Type} [DecidableEq α]
def lcsR (x : α) (p : List α → Nat) : List α → Nat
  | [] => 0
  | y :: b => if x = y then p b + 1 else max (p (y :: b)) (lcsR x p b)
def lcs : List α → List α → Nat
  | [] => fun _ => 0
  | x :: a => lcsR x (lcs a)
@[simp] theorem lcs_nil (b : List α) : lcs [] b = 0 := rfl
@[simp] theorem lcs_nil2 (a : List α) : lcs a [] = 0 := by cases a <;> rfl
theorem lcs_cons (x y : α) (a b : List α) : lcs (x :: a) (y :: b) = if x = y then lcs a b + 1 else max (lcs a (y :: b)) (lcs (x :: a) b) := rfl
theorem lcs_sub (a b : List α) : ∃ s : List α, s.Sublist a ∧ s.Sublist b ∧ s.length = lcs a b := by
  induction a generalizing b with
  | nil => exact ⟨[], List.nil_sublist _, List.nil_sublist _, rfl⟩
  | cons x a ih =>
    induction b with
    | nil => exact ⟨[], List.nil_sublist _, List.nil_sublist _, rfl⟩
    | cons y b ihb =>
      rw [lcs_cons]
      by_cases h : x = y
      · subst h
        obtain ⟨s, h1, h2, h3⟩ := ih b
        exact ⟨x :: s, h1.cons_cons x, h2.cons_cons x, by rw [if_pos rfl, ← h3]; rfl⟩
      · rw [if_neg h]
        by_cases hm : lcs (x :: a) b ≤ lcs a (y :: b)
        · obtain ⟨s, h1, h2, h3⟩ := ih (y :: b)
          exact ⟨s, h1.cons x, h2, by omega⟩
        · obtain ⟨s, h1, h2, h3⟩ := ihb
          exact ⟨s, h1, h2.cons y, by omega⟩
theorem lcs_le1 (a b : List α) : lcs a b ≤ a.length := by
  obtain ⟨s, h1, h2, h3⟩ := lcs_sub a b; rw [← h3]; exact h1.length_le
theorem lcs_le2 (a b : List α) : lcs a b ≤ b.length := by
  obtain ⟨s, h1, h2, h3⟩ := lcs_sub a b; rw [← h3]; exact h2.length_le
theorem pp {a b c d : Nat} (h : a = c) (k : b = d) : (a, b) = (c, d) := by rw [h, k]
def pairs (i j : Nat) : List α → List α → List (Nat × Nat)
  | x :: a, y :: b => if x = y then (i, j) :: pairs (i + 1) (j + 1) a b else if lcs (x :: a) b ≤ lcs a (y :: b) then pairs (i + 1) j a (y :: b) else pairs i (j + 1) (x :: a) b
  | [], _ => []
  | _ :: _, [] => []
  termination_by a b => a.length + b.length
theorem pairs_nil (i j : Nat) (b : List α) : pairs i j [] b = [] := by rw [pairs]
theorem pairs_nil2 (i j : Nat) (a : List α) : pairs i j a [] = [] := by cases a <;> rw [pairs]
theorem pairs_cons (i j : Nat) (x y : α) (a b : List α) : pairs i j (x :: a) (y :: b) = if x = y then (i, j) :: pairs (i + 1) (j + 1) a b else if lcs (x :: a) b ≤ lcs a (y :: b) then pairs (i + 1) j a (y :: b) else pairs i (j + 1) (x :: a) b := by rw [pairs]
theorem pairs_ind {C : Nat → Nat → List α → List α → Prop} (h0 : ∀ i j b, C i j [] b) (h1 : ∀ i j a, C i j a [])
    (he : ∀ i j x a b, C (i + 1) (j + 1) a b → C i j (x :: a) (x :: b))
    (ha : ∀ i j x y a b, x ≠ y → lcs (x :: a) b ≤ lcs a (y :: b) → C (i + 1) j a (y :: b) → C i j (x :: a) (y :: b))
    (hb : ∀ i j x y a b, x ≠ y → ¬ lcs (x :: a) b ≤ lcs a (y :: b) → C i (j + 1) (x :: a) b → C i j (x :: a) (y :: b)) : ∀ i j (a b : List α), C i j a b := by
  have : ∀ n i j (a b : List α), a.length + b.length ≤ n → C i j a b := by
    intro n
    induction n with
    | zero => intro i j a b h; cases a with
      | nil => exact h0 _ _ _
      | cons _ _ => simp at h
    | succ n ih =>
      intro i j a b h
      cases a with
      | nil => exact h0 _ _ _
      | cons x a => cases b with
        | nil => exact h1 _ _ _
        | cons y b =>
          simp only [List.length_cons] at h
          by_cases e : x = y
          · subst e; exact he _ _ _ _ _ (ih _ _ _ _ (by omega))
          · by_cases l : lcs (x :: a) b ≤ lcs a (y :: b)
            · exact ha _ _ _ _ _ _ e l (ih _ _ _ _ (by simp only [List.length_cons]; omega))
            · exact hb _ _ _ _ _ _ e l (ih _ _ _ _ (by simp only [List.length_cons]; omega))
  exact fun i j a b => this _ i j a b (Nat.le_refl _)
theorem pairs_len (i j : Nat) (a b : List α) : (pairs i j a b).length = lcs a b := by
  refine pairs_ind (C := fun i j a b => (pairs i j a b).length = lcs a b) ?_ ?_ ?_ ?_ ?_ i j a b
  · intros; rw [pairs_nil]; rfl
  · intros; rw [pairs_nil2, lcs_nil2]; rfl
  · intro i j x a b h; rw [pairs_cons, if_pos rfl, lcs_cons, if_pos rfl, List.length_cons, h]
  · intro i j x y a b e l h; rw [pairs_cons, if_neg e, if_pos l, lcs_cons, if_neg e, h]; exact (Nat.max_eq_left l).symm
  · intro i j x y a b e l h; rw [pairs_cons, if_neg e, if_neg l, lcs_cons, if_neg e, h]; exact (Nat.max_eq_right (by omega)).symm
theorem pairs_mem (i j : Nat) (a b : List α) : ∀ p ∈ pairs i j a b, ∃ k l, p = (i + k, j + l) ∧ ∃ x, a[k]? = some x ∧ b[l]? = some x := by
  refine pairs_ind (C := fun i j a b => ∀ p ∈ pairs i j a b, ∃ k l, p = (i + k, j + l) ∧ ∃ x, a[k]? = some x ∧ b[l]? = some x) ?_ ?_ ?_ ?_ ?_ i j a b
  · intro i j b p h; rw [pairs_nil] at h; cases h
  · intro i j a p h; rw [pairs_nil2] at h; cases h
  · intro i j x a b ih p h
    rw [pairs_cons, if_pos rfl] at h
    rcases List.mem_cons.1 h with rfl | h
    · exact ⟨0, 0, rfl, x, rfl, rfl⟩
    · obtain ⟨k, l, rfl, z, h1, h2⟩ := ih p h
      exact ⟨k + 1, l + 1, pp (by omega) (by omega), z, h1, h2⟩
  · intro i j x y a b e l ih p h
    rw [pairs_cons, if_neg e, if_pos l] at h
    obtain ⟨k, l, rfl, z, h1, h2⟩ := ih p h
    exact ⟨k + 1, l, pp (by omega) (by omega), z, h1, h2⟩
  · intro i j x y a b e l ih p h
    rw [pairs_cons, if_neg e, if_neg l] at h
    obtain ⟨k, l, rfl, z, h1, h2⟩ := ih p h
    exact ⟨k, l + 1, pp (by omega) (by omega), z, h1, h2⟩
theorem pairs_ord (i j : Nat) (a b : List α) : (pairs i j a b).Pairwise (fun p q => p.1 < q.1 ∧ p.2 < q.2) := by
  refine pairs_ind (C := fun i j a b => (pairs i j a b).Pairwise (fun p q => p.1 < q.1 ∧ p.2 < q.2)) ?_ ?_ ?_ ?_ ?_ i j a b
  · intros; rw [pairs_nil]; exact List.Pairwise.nil
  · intros; rw [pairs_nil2]; exact List.Pairwise.nil
  · intro i j x a b h; rw [pairs_cons, if_pos rfl]
    refine List.Pairwise.cons (fun p hp => ?_) h
    obtain ⟨k, l, rfl, _⟩ := pairs_mem _ _ _ _ p hp
    exact ⟨by dsimp only; omega, by dsimp only; omega⟩
  · intro i j x y a b e l h; rw [pairs_cons, if_neg e, if_pos l]; exact h
  · intro i j x y a b e l h; rw [pairs_cons, if_neg e, if_neg l]; exact h
end
section
variable {α : Type} [Inhabited α]
theorem nth_set (l : List α) {k : Nat} (h : k < l.length) (m : Nat) (v : α) : nth (l.set k v) (m : Int) = if m = k then v else nth l (m : Int) := by
  unfold nth
  rw [Int.toNat_natCast, List.getD_eq_getElem?_getD, List.getD_eq_getElem?_getD, List.getElem?_set]
  by_cases e : m = k
  · subst e; rw [if_pos rfl, if_pos rfl, if_pos h]; rfl
  · rw [if_neg (fun x => e x.symm), if_neg e]
theorem nth_rep (n m : Nat) (v : α) (h : m < n) : nth (List.replicate n v) (m : Int) = v := by
  rw [nth_nat _ (by simpa using h)]; simp
theorem drop_nth (l : List α) {k : Nat} (h : k < l.length) : l.drop k = nth l (k : Int) :: l.drop (k + 1) := by
  rw [nth_nat l h]; exact List.drop_eq_getElem_cons h
def seg (l : List α) (i j : Nat) : List α := (l.drop i).take (j - i)
theorem seg_len (l : List α) (i j : Nat) (h : j ≤ l.length) : (seg l i j).length = j - i := by
  unfold seg; rw [List.length_take, List.length_drop]; omega
theorem seg_end (l : List α) (i : Nat) : seg l i l.length = l.drop i := List.take_of_length_le (by simp)
theorem seg_app (l : List α) {i j : Nat} (h : i ≤ j) : seg l i j ++ l.drop j = l.drop i := by
  unfold seg
  have : l.drop j = (l.drop i).drop (j - i) := by rw [List.drop_drop]; congr 1; omega
  rw [this, List.take_append_drop]
variable [DecidableEq α]
theorem lcs_drop (a b : List α) {i j : Nat} (hi : i < a.length) (hj : j < b.length) : lcs (a.drop i) (b.drop j) = if nth a (i : Int) = nth b (j : Int) then lcs (a.drop (i + 1)) (b.drop (j + 1)) + 1 else max (lcs (a.drop (i + 1)) (b.drop j)) (lcs (a.drop i) (b.drop (j + 1))) := by
  rw [drop_nth a hi, drop_nth b hj, lcs_cons, ← drop_nth a hi, ← drop_nth b hj]
theorem pairs_drop (a b : List α) {i j : Nat} (hi : i < a.length) (hj : j < b.length) : pairs i j (a.drop i) (b.drop j) = if nth a (i : Int) = nth b (j : Int) then (i, j) :: pairs (i + 1) (j + 1) (a.drop (i + 1)) (b.drop (j + 1)) else if lcs (a.drop i) (b.drop (j + 1)) ≤ lcs (a.drop (i + 1)) (b.drop j) then pairs (i + 1) j (a.drop (i + 1)) (b.drop j) else pairs i (j + 1) (a.drop i) (b.drop (j + 1)) := by
  rw [drop_nth a hi, drop_nth b hj, pairs_cons, ← drop_nth a hi, ← drop_nth b hj]

def pickL (o a b : List α) : Option (List α) := if a = o then some b else if b = o then some a else if a = b then some a else none
theorem pickL_mem {o a b r : List α} (h : pickL o a b = some r) : (∀ z ∈ r, z ∈ a ∨ z ∈ b) ∧ (∀ z ∈ a, z ∈ o ∨ z ∈ r) ∧ (∀ z ∈ b, z ∈ o ∨ z ∈ r) ∧ r.length ≤ a.length + b.length := by
  unfold pickL at h
  by_cases h1 : a = o
  · rw [if_pos h1] at h; cases h; subst h1
    exact ⟨fun z hz => .inr hz, fun z hz => .inl hz, fun z hz => .inr hz, by omega⟩
  · rw [if_neg h1] at h
    by_cases h2 : b = o
    · rw [if_pos h2] at h; cases h; subst h2
      exact ⟨fun z hz => .inl hz, fun z hz => .inr hz, fun z hz => .inl hz, by omega⟩
    · rw [if_neg h2] at h
      by_cases h3 : a = b
      · rw [if_pos h3] at h; cases h; subst h3
        exact ⟨fun z hz => .inl hz, fun z hz => .inr hz, fun z hz => .inr hz, by omega⟩
      · rw [if_neg h3] at h; cases h
def mloop (o a b : List α) (f g : Nat → Option Nat) : Nat → Nat → Nat → Nat → Nat → Option (List α)
  | 0, _, i, j, k => pickL (o.drop i) (a.drop j) (b.drop k)
  | n + 1, at_, i, j, k => match f at_, g at_ with
    | some x, some y => (pickL (seg o i at_) (seg a j x) (seg b k y)).bind fun p => (mloop o a b f g n (at_ + 1) (at_ + 1) (x + 1) (y + 1)).map fun r => p ++ nth o (at_ : Int) :: r
    | _, _ => mloop o a b f g n (at_ + 1) i j k
theorem mloop_zero (o a b : List α) (f g : Nat → Option Nat) (t i j k : Nat) : mloop o a b f g 0 t i j k = pickL (o.drop i) (a.drop j) (b.drop k) := rfl
theorem mloop_some {o a b : List α} {f g : Nat → Option Nat} {n t i j k x y : Nat} (hf : f t = some x) (hg : g t = some y) : mloop o a b f g (n + 1) t i j k = (pickL (seg o i t) (seg a j x) (seg b k y)).bind fun p => (mloop o a b f g n (t + 1) (t + 1) (x + 1) (y + 1)).map fun r => p ++ nth o (t : Int) :: r := by
  rw [mloop, hf, hg]
theorem mloop_none {o a b : List α} {f g : Nat → Option Nat} {n t i j k : Nat} (h : f t = none ∨ g t = none) : mloop o a b f g (n + 1) t i j k = mloop o a b f g n (t + 1) i j k := by
  rw [mloop]
  rcases h with h | h
  · rw [h]
  · rw [h]; cases f t <;> rfl
structure Mates (o a : List α) (f : Nat → Option Nat) : Prop where
  lt : ∀ {t x}, f t = some x → t < o.length ∧ x < a.length
  eq : ∀ {t x}, f t = some x → nth o (t : Int) = nth a (x : Int)
  mono : ∀ {t x u y}, f t = some x → f u = some y → t < u → x < y
def From (f : Nat → Option Nat) (t j : Nat) : Prop := ∀ u x, t ≤ u → f u = some x → j ≤ x
theorem From.zero (f : Nat → Option Nat) (t : Nat) : From f t 0 := fun _ _ _ _ => Nat.zero_le _
theorem From.skip {f : Nat → Option Nat} {t j : Nat} (h : From f t j) : From f (t + 1) j := fun u x hu hx => h u x (by omega) hx
theorem From.step {o a : List α} {f : Nat → Option Nat} (m : Mates o a f) {t x : Nat} (h : f t = some x) : From f (t + 1) (x + 1) := fun u y hu hy => m.mono h hy (by omega)
theorem mem_seg {l : List α} {i j : Nat} {z : α} (h : z ∈ seg l i j) : z ∈ l := List.mem_of_mem_drop (List.mem_of_mem_take h)
theorem mem_split {l : List α} {i j : Nat} (hij : i ≤ j) (hj : j < l.length) {z : α} (h : z ∈ l.drop i) : z ∈ seg l i j ∨ z = nth l (j : Int) ∨ z ∈ l.drop (j + 1) := by
  rw [← seg_app l hij, drop_nth l hj] at h
  rcases List.mem_append.1 h with h | h
  · exact .inl h
  · rcases List.mem_cons.1 h with h | h
    · exact .inr (.inl h)
    · exact .inr (.inr h)
theorem mloop_keep {o a b : List α} {f g : Nat → Option Nat} (mf : Mates o a f) (mg : Mates o b g) (n t i j k : Nat) (hn : t + n = o.length) (hj : From f t j) (hk : From g t k) (r : List α) (h : mloop o a b f g n t i j k = some r) :
    (∀ z ∈ r, z ∈ a ∨ z ∈ b) ∧ (∀ z ∈ a.drop j, z ∈ o ∨ z ∈ r) ∧ (∀ z ∈ b.drop k, z ∈ o ∨ z ∈ r) ∧ r.length ≤ (a.drop j).length + (b.drop k).length := by
  induction n generalizing t i j k r with
  | zero =>
    rw [mloop_zero] at h
    obtain ⟨h1, h2, h3, h4⟩ := pickL_mem h
    exact ⟨fun z hz => (h1 z hz).imp List.mem_of_mem_drop List.mem_of_mem_drop, fun z hz => (h2 z hz).imp List.mem_of_mem_drop id, fun z hz => (h3 z hz).imp List.mem_of_mem_drop id, h4⟩
  | succ n ih =>
    cases hf : f t with
    | none => rw [mloop_none (.inl hf)] at h; exact ih _ _ _ _ (by omega) hj.skip hk.skip _ h
    | some x => cases hg : g t with
      | none => rw [mloop_none (.inr hg)] at h; exact ih _ _ _ _ (by omega) hj.skip hk.skip _ h
      | some y =>
        rw [mloop_some hf hg] at h
        cases hp : pickL (seg o i t) (seg a j x) (seg b k y) with
        | none => rw [hp] at h; cases h
        | some p =>
          rw [hp, Option.bind_some] at h
          cases hr : mloop o a b f g n (t + 1) (t + 1) (x + 1) (y + 1) with
          | none => rw [hr] at h; cases h
          | some q =>
            rw [hr, Option.map_some] at h; cases h
            obtain ⟨h1, h2, h3, h4⟩ := pickL_mem hp
            obtain ⟨g1, g2, g3, g4⟩ := ih _ _ _ _ (by omega) (.step mf hf) (.step mg hg) _ hr
            have hjx := hj t x (Nat.le_refl _) hf
            have hky := hk t y (Nat.le_refl _) hg
            have hx := (mf.lt hf).2
            have hy := (mg.lt hg).2
            have ex := mf.eq hf
            have ey := mg.eq hg
            refine ⟨fun z hz => ?_, fun z hz => ?_, fun z hz => ?_, ?_⟩
            · rcases List.mem_append.1 hz with hz | hz
              · exact (h1 z hz).imp mem_seg mem_seg
              · rcases List.mem_cons.1 hz with rfl | hz
                · rw [ex]; exact .inl (nth_mem a hx)
                · exact g1 z hz
            · rcases mem_split hjx hx hz with hz | rfl | hz
              · exact (h2 z hz).imp mem_seg (fun h => List.mem_append_left _ h)
              · exact .inr (List.mem_append_right _ (by rw [ex]; exact List.mem_cons_self))
              · exact (g2 z hz).imp id (fun h => List.mem_append_right _ (List.mem_cons_of_mem _ h))
            · rcases mem_split hky hy hz with hz | rfl | hz
              · exact (h3 z hz).imp mem_seg (fun h => List.mem_append_left _ h)
              · exact .inr (List.mem_append_right _ (by rw [ey]; exact List.mem_cons_self))
              · exact (g3 z hz).imp id (fun h => List.mem_append_right _ (List.mem_cons_of_mem _ h))
            · rw [seg_len a _ _ (by omega), seg_len b _ _ (by omega)] at h4
              simp only [List.length_append, List.length_cons, List.length_drop] at g4 ⊢
              omega
end
end
def few (a b : List Pt) : Bool := decide (a.length ≤ 12) && decide (b.length ≤ 12)
theorem few_iff {a b : List Pt} : few a b = true ↔ a.length ≤ 12 ∧ b.length ≤ 12 := by simp [few]
theorem few_not {a b : List Pt} : few a b = false ↔ ¬ (a.length ≤ 12 ∧ b.length ≤ 12) := by rw [← few_iff]; simp
def slen (a b : List Pt) : Int := if few a b then (lcs a b : Nat) else 0
def mkP (p : Nat × Nat) : Pair := ⟨p.1, p.2⟩
def spairs (a b : List Pt) : List Pair := if few a b then (pairs 0 0 a b).map mkP else []
theorem spairs_few {a b : List Pt} (h : few a b = true) : spairs a b = (pairs 0 0 a b).map mkP := by unfold spairs; rw [if_pos h]
theorem spairs_len (a b : List Pt) : ((spairs a b).length : Int) = slen a b := by
  unfold spairs slen
  by_cases h : few a b = true
  · rw [if_pos h, if_pos h, List.length_map, pairs_len]
  · rw [if_neg h, if_neg h]; rfl
theorem slen_le (a b : List Pt) : 0 ≤ slen a b ∧ slen a b ≤ a.length ∧ slen a b ≤ b.length ∧ slen a b ≤ 12 := by
  unfold slen
  by_cases h : few a b = true
  · have := few_iff.1 h
    have h1 := lcs_le1 a b; have h2 := lcs_le2 a b
    rw [if_pos h]; omega
  · rw [if_neg h]; omega
def RowOk (a b : List Pt) (i : Nat) (j : Nat) (xs : List Int) : Prop := xs.length = b.length + 1 ∧ ∀ m : Nat, j ≤ m → m ≤ b.length → nth xs (m : Int) = (lcs (a.drop i) (b.drop m) : Nat)
def Tab (a b : List Pt) (D : Nat → Nat → Prop) (t : List (List Int)) : Prop := t.length = a.length + 1 ∧ ∀ r : Nat, r ≤ a.length → (nth t (r : Int)).length = b.length + 1 ∧ ∀ m : Nat, m ≤ b.length → D r m → nth (nth t (r : Int)) (m : Int) = (lcs (a.drop r) (b.drop m) : Nat)
theorem Tab.set {a b : List Pt} {D : Nat → Nat → Prop} {t : List (List Int)} (h : Tab a b D t) {i j : Nat} (hi : i ≤ a.length) (hj : j ≤ b.length) {v : Int} (hv : v = (lcs (a.drop i) (b.drop j) : Nat)) {D' : Nat → Nat → Prop} (hD : ∀ r m, D' r m → D r m ∨ (r = i ∧ m = j)) :
    Tab a b D' (t.set i ((nth t (i : Int)).set j v)) := by
  obtain ⟨h1, h2⟩ := h
  refine ⟨by rw [List.length_set]; exact h1, fun r hr => ?_⟩
  rw [nth_set _ (by omega)]
  by_cases e : r = i
  · subst e
    rw [if_pos rfl]
    refine ⟨by rw [List.length_set]; exact (h2 r hr).1, fun m hm hd => ?_⟩
    rw [nth_set _ (by rw [(h2 r hr).1]; omega)]
    by_cases f : m = j
    · subst f; rw [if_pos rfl, hv]
    · rw [if_neg f]
      exact (h2 r hr).2 m hm ((hD r m hd).resolve_right fun x => f x.2)
  · rw [if_neg e]
    exact ⟨(h2 r hr).1, fun m hm hd => (h2 r hr).2 m hm ((hD r m hd).resolve_right fun x => e x.1)⟩
def mateI (l : List Pair) (k : Int) : Int := match l with
  | [] => -1
  | p :: l => if p.A == k then p.B else mateI l k
theorem mateI_nil (k : Int) : mateI [] k = -1 := rfl
theorem mateI_cons (p : Pair) (l : List Pair) (k : Int) : mateI (p :: l) k = if p.A == k then p.B else mateI l k := rfl
def mateN (l : List (Nat × Nat)) (k : Nat) : Option Nat := match l with
  | [] => none
  | p :: l => if p.1 = k then some p.2 else mateN l k
theorem mateI_mk (l : List (Nat × Nat)) (k : Nat) : mateI (l.map mkP) (k : Int) = match mateN l k with | some x => (x : Int) | none => -1 := by
  induction l with
  | nil => rfl
  | cons p l ih =>
    rw [List.map_cons, mateI_cons, mateN]
    by_cases h : p.1 = k
    · rw [if_pos (by simp [mkP, h]), if_pos h]; rfl
    · rw [if_neg (by simp [mkP]; omega), if_neg h, ih]
theorem mateN_mem {l : List (Nat × Nat)} {k x : Nat} (h : mateN l k = some x) : (k, x) ∈ l := by
  induction l with
  | nil => cases h
  | cons p l ih =>
    rw [mateN] at h
    by_cases e : p.1 = k
    · rw [if_pos e] at h; cases h; subst e; exact List.mem_cons_self
    · rw [if_neg e] at h; exact List.mem_cons_of_mem _ (ih h)
def part (o a : List Pt) : Nat → Option Nat := mateN (pairs 0 0 o a)
theorem part_mates (o a : List Pt) : Mates o a (part o a) := by
  have hm : ∀ {t x}, part o a t = some x → ∃ z, o[t]? = some z ∧ a[x]? = some z := fun {t x} h => by
    obtain ⟨k, l, e, z, h1, h2⟩ := pairs_mem 0 0 o a _ (mateN_mem h)
    rw [Nat.zero_add, Nat.zero_add] at e; cases e
    exact ⟨z, h1, h2⟩
  refine ⟨fun {t x} h => ?_, fun {t x} h => ?_, fun {t x u y} h1 h2 hu => ?_⟩
  · obtain ⟨z, h1, h2⟩ := hm h
    exact ⟨(List.getElem?_eq_some_iff.1 h1).1, (List.getElem?_eq_some_iff.1 h2).1⟩
  · obtain ⟨z, h1, h2⟩ := hm h
    obtain ⟨e1, e2⟩ := List.getElem?_eq_some_iff.1 h1
    obtain ⟨e3, e4⟩ := List.getElem?_eq_some_iff.1 h2
    rw [nth_nat _ e1, nth_nat _ e3, e2, e4]
  · have ho := pairs_ord 0 0 o a
    have m1 := mateN_mem h1; have m2 := mateN_mem h2
    generalize pairs 0 0 o a = l at ho m1 m2
    induction l with
    | nil => cases m1
    | cons p l ih =>
      obtain ⟨q1, q2⟩ := List.pairwise_cons.1 ho
      rcases List.mem_cons.1 m1 with e1 | n1
      · rcases List.mem_cons.1 m2 with e2 | n2
        · subst e1; cases e2; omega
        · subst e1; exact (q1 _ n2).2
      · rcases List.mem_cons.1 m2 with e2 | n2
        · subst e2; have := (q1 _ n1).1; dsimp only at this; omega
        · exact ih q2 n1 n2
def smerge (o a b : List Pt) : Option (List Pt) := if few o a && few o b then mloop o a b (part o a) (part o b) o.length 0 0 0 0 else none
theorem smerge_few {o a b : List Pt} (h1 : few o a = true) (h2 : few o b = true) : smerge o a b = mloop o a b (part o a) (part o b) o.length 0 0 0 0 := by unfold smerge; rw [h1, h2]; rfl
theorem smerge_not {o a b : List Pt} (h : few o a = false ∨ few o b = false) : smerge o a b = none := by
  unfold smerge; rcases h with h | h <;> rw [h] <;> simp
theorem smerge_keep {o a b r : List Pt} (h : smerge o a b = some r) : (∀ z ∈ r, z ∈ a ∨ z ∈ b) ∧ (∀ z ∈ a, z ∈ o ∨ z ∈ r) ∧ (∀ z ∈ b, z ∈ o ∨ z ∈ r) ∧ r.length ≤ a.length + b.length := by
  unfold smerge at h
  by_cases hf : (few o a && few o b) = true
  · rw [if_pos hf] at h
    exact mloop_keep (part_mates o a) (part_mates o b) _ _ _ _ _ (by omega) (From.zero _ _) (From.zero _ _) _ h
  · rw [if_neg hf] at h; cases h
theorem smerge_len {o a b r : List Pt} (h : smerge o a b = some r) : r.length ≤ 24 := by
  have h1 := (smerge_keep h).2.2.2
  unfold smerge at h
  by_cases hf : (few o a && few o b) = true
  · rw [Bool.and_eq_true, few_iff, few_iff] at hf; omega
  · rw [if_neg hf] at h; cases h
def allN (n : Nat) (c : Nat → Bool) : Bool := (List.range n).all c
theorem allN_true {n : Nat} {c : Nat → Bool} (h : ∀ j, j < n → c j = true) : allN n c = true := by
  unfold allN; rw [List.all_eq_true]; intro j hj; exact h j (List.mem_range.1 hj)
theorem allN_false {n k : Nat} {c : Nat → Bool} (hk : k < n) (h : c k = false) : allN n c = false := by
  unfold allN
  rw [Bool.eq_false_iff]; intro ha
  rw [List.all_eq_true] at ha
  rw [ha k (List.mem_range.2 hk)] at h; cases h
theorem allN_iff {n : Nat} {c : Nat → Bool} : allN n c = true ↔ ∀ j, j < n → c j = true := by
  unfold allN; rw [List.all_eq_true]; exact ⟨fun h j hj => h j (List.mem_range.2 hj), fun h j hj => h j (List.mem_range.1 hj)⟩
theorem loop_all (n : Nat) (c : Nat → Bool) {B : (Int → Prop) → (Int → Nat) → Int → Prop} {F : Prop}
    (hs : ∀ (I : Int → Prop) (mu : Int → Nat) (k : Nat), k < n → (∀ j, j < k → c j = true) → (c k = true → I ((k : Int) + 1) ∧ mu ((k : Int) + 1) < mu (k : Int)) → B I mu (k : Int))
    (hF : (∀ j, j < n → c j = true) → F) :
    ∃ (I : Int → Prop) (mu : Int → Nat), I 0 ∧ ∀ (i : Int), I i → (if decide (i < (n : Int)) then B I mu i else F) := by
  refine ⟨fun i => ∃ k : Nat, i = k ∧ k ≤ n ∧ ∀ j, j < k → c j = true, fun i => ((n : Int) - i).toNat, ⟨0, rfl, Nat.zero_le _, fun j hj => absurd hj (Nat.not_lt_zero _)⟩, ?_⟩
  rintro _ ⟨k, rfl, hk, ha⟩
  by_cases h : (k : Int) < (n : Int)
  · rw [if_pos (by simpa using h)]
    refine hs _ _ k (by omega) ha fun hc => ⟨⟨k + 1, by omega, by omega, fun j hj => ?_⟩, by omega⟩
    by_cases e : j = k
    · subst e; exact hc
    · exact ha j (by omega)
  · rw [if_neg (by simpa using h)]
    exact hF fun j hj => ha j (by omega)
theorem less_irr : ∀ a : Str, Op.bytesLess a a = false
  | [] => rfl
  | x :: a => by rw [Op.bytesLess]; simp [less_irr a]
theorem less_tri : ∀ a b : Str, (!(Op.bytesLess a b)) = (Op.bytesLess b a || b == a)
  | [], [] => rfl
  | [], y :: b => rfl
  | x :: a, [] => rfl
  | x :: a, y :: b => by
    rw [Op.bytesLess, Op.bytesLess]
    have h := less_tri a b
    by_cases h1 : x < y
    · have h2 : ¬ y < x := fun h => absurd (UInt8.lt_trans h1 h) (UInt8.lt_irrefl _)
      have h3 : ¬ y = x := fun e => by subst e; exact UInt8.lt_irrefl _ h1
      simp [h1, h2, h3]
    · by_cases h2 : y < x
      · have h3 : ¬ x = y := fun e => by subst e; exact UInt8.lt_irrefl _ h2
        simp [h1, h2, h3]
      · have h3 : x = y := UInt8.le_antisymm (UInt8.not_lt.1 h2) (UInt8.not_lt.1 h1)
        subst h3
        simp only [h1, decide_false, Bool.false_or, beq_self_eq_true, Bool.true_and]
        rw [h]
        congr 1
        rw [Bool.eq_iff_iff, beq_iff_eq, beq_iff_eq]
        simp
def byteOk (b : UInt8) : Bool := !(decide ((b.toNat : Int) < 97)) && !(decide ((b.toNat : Int) > 122))
def wordOk (s : Str) : Bool := allN s.length (fun k => byteOk (nth s (k : Int))) && (decide (1 ≤ s.length) && decide (s.length ≤ 6))
def inR (x : Int) : Bool := decide (-1000 ≤ x) && decide (x ≤ 1000)
def ptOk (p : Pt) : Bool := inR p.X && inR p.Y
def ptsOk (p : List Pt) : Bool := allN p.length fun k => ptOk (nth p (k : Int)) && (decide (k = 0) || !(decide (nth p ((k : Int) - 1) = nth p (k : Int))))
def kindOk (kind : Int) (p : List Pt) : Bool :=
  if kind = 1 then decide (p.length = 1) else if kind = 2 then decide (2 ≤ p.length) && decide (p.length ≤ 6)
  else if kind = 3 then decide (3 ≤ p.length) && decide (p.length ≤ 6) && !(decide (nth p 0 = nth p ((p.length : Int) - 1))) else false
def shapeOk (s : Shape) : Bool := ptsOk s.Pts && kindOk s.Kind s.Pts
def tagsOk (t : List Tag) : Bool := allN t.length fun k => wordOk (nth t (k : Int)).Key && wordOk (nth t (k : Int)).Val && (decide (k = 0) || Op.bytesLess (nth t ((k : Int) - 1)).Key (nth t (k : Int)).Key)
def featOk (f : Feat) : Bool := tagsOk f.Tags && decide (f.Tags.length ≤ 4) && wordOk f.Id && shapeOk f.Shape
def noF (f : Feat) : Bool := decide (f = ⟨[], ⟨0, []⟩, []⟩)
def sideOk (id : Str) (has : Bool) (f : Feat) : Bool := if has then featOk f && decide (f.Id = id) else noF f
def sameC (c : Change) : Bool := decide (c.Had = c.Has) && decide (c.Was = c.Now)
def changeOk (c : Change) : Bool := wordOk c.Id && sideOk c.Id c.Had c.Was && sideOk c.Id c.Has c.Now && !(sameC c)
def sheetOk (s : List Feat) : Bool := allN s.length (fun k => featOk (nth s (k : Int)) && (decide (k = 0) || Op.bytesLess (nth s ((k : Int) - 1)).Id (nth s (k : Int)).Id)) && decide (s.length ≤ 8)
theorem Feat.ext_iff' (a b : Feat) : a = b ↔ a.Id = b.Id ∧ a.Shape = b.Shape ∧ a.Tags = b.Tags := by cases a; cases b; simp
theorem Shape.ext_iff' (a b : Shape) : a = b ↔ a.Kind = b.Kind ∧ a.Pts = b.Pts := by cases a; cases b; simp
section
def findN (n : Nat) (c : Nat → Bool) : Int := match (List.range n).find? c with | some k => (k : Int) | none => -1
theorem findN_hit {n k : Nat} {c : Nat → Bool} (hk : k < n) (h : c k = true) (hp : ∀ j, j < k → c j = false) : findN n c = (k : Int) := by
  unfold findN
  have : (List.range n).find? c = some k := by
    rw [List.find?_range_eq_some]
    exact ⟨h, List.mem_range.2 hk, fun j hj => by rw [hp j hj]; rfl⟩
  rw [this]
theorem findN_none {n : Nat} {c : Nat → Bool} (h : ∀ j, j < n → c j = false) : findN n c = -1 := by
  unfold findN
  have : (List.range n).find? c = none := by
    rw [List.find?_eq_none]; intro j hj; rw [h j (List.mem_range.1 hj)]; exact Bool.false_ne_true
  rw [this]
theorem findN_le (n : Nat) (c : Nat → Bool) : -1 ≤ findN n c ∧ findN n c < n := by
  unfold findN
  cases h : (List.range n).find? c with
  | none => exact ⟨Int.le_refl _, by dsimp only; omega⟩
  | some k => have := List.mem_range.1 (List.mem_of_find?_eq_some h); exact ⟨by dsimp only; omega, by dsimp only; omega⟩
theorem loop_find (n : Nat) (c : Nat → Bool) {B : (Int → Prop) → (Int → Nat) → Int → Prop} {Q : Int → Prop} (hq : Q (findN n c))
    (hs : ∀ (I : Int → Prop) (mu : Int → Nat) (k : Nat), k < n → (c k = true → Q (k : Int)) → (c k = false → I ((k : Int) + 1) ∧ mu ((k : Int) + 1) < mu (k : Int)) → B I mu (k : Int)) :
    ∃ (I : Int → Prop) (mu : Int → Nat), I 0 ∧ ∀ (i : Int), I i → (if decide (i < (n : Int)) then B I mu i else Q (-1)) := by
  refine loop_all n (fun k => !(c k)) (fun I mu k hk hp hn => hs I mu k hk (fun h => ?_) (fun h => hn (by rw [h]; rfl))) (fun ha => ?_)
  · rw [findN_hit hk h (fun j hj => by have := hp j hj; rwa [Bool.not_eq_true'] at this)] at hq; exact hq
  · rw [findN_none (fun j hj => by have := ha j hj; rwa [Bool.not_eq_true'] at this)] at hq; exact hq
section
variable {α : Type} [Inhabited α] [DecidableEq α]
end
end
section
theorem less_trans : ∀ {a b c : Str}, Op.bytesLess a b = true → Op.bytesLess b c = true → Op.bytesLess a c = true
  | _, _, [], _, h => by rename_i b _; cases b <;> simp [Op.bytesLess] at h
  | _, [], _ :: _, h, _ => by rename_i a _ _ _; cases a <;> simp [Op.bytesLess] at h
  | [], _ :: _, _ :: _, _, _ => by simp [Op.bytesLess]
  | x :: a, y :: b, z :: c, h1, h2 => by
    rw [Op.bytesLess] at h1 h2 ⊢
    simp only [Bool.or_eq_true, Bool.and_eq_true, decide_eq_true_eq, beq_iff_eq] at h1 h2 ⊢
    rcases h1 with h1 | ⟨rfl, h1⟩
    · rcases h2 with h2 | ⟨rfl, h2⟩
      · exact .inl (UInt8.lt_trans h1 h2)
      · exact .inl h1
    · rcases h2 with h2 | ⟨rfl, h2⟩
      · exact .inl h2
      · exact .inr ⟨rfl, less_trans h1 h2⟩
theorem less_asym {a b : Str} (h : Op.bytesLess a b = true) : Op.bytesLess b a = false := by
  cases e : Op.bytesLess b a with
  | false => rfl
  | true => have := less_trans h e; rw [less_irr] at this; cases this
theorem less_or {a b : Str} (h : Op.bytesLess a b = false) : Op.bytesLess b a = true ∨ b = a := by
  have := less_tri a b
  rw [h] at this
  simpa using this.symm
def SS (l : List Str) : Prop := l.Pairwise fun x y => Op.bytesLess x y = true
theorem SS.ext : ∀ {l m : List Str}, SS l → SS m → (∀ x, x ∈ l ↔ x ∈ m) → l = m
  | [], [], _, _, _ => rfl
  | [], y :: m, _, _, h => by have := (h y).2 List.mem_cons_self; cases this
  | x :: l, [], _, _, h => by have := (h x).1 List.mem_cons_self; cases this
  | x :: l, y :: m, hl, hm, h => by
    obtain ⟨l1, l2⟩ := List.pairwise_cons.1 hl
    obtain ⟨m1, m2⟩ := List.pairwise_cons.1 hm
    have e : x = y := by
      rcases List.mem_cons.1 ((h x).1 List.mem_cons_self) with e | e
      · exact e
      · rcases List.mem_cons.1 ((h y).2 List.mem_cons_self) with e' | e'
        · exact e'.symm
        · have := less_trans (m1 x e) (l1 y e'); rw [less_irr] at this; cases this
    subst e
    rw [SS.ext l2 m2 fun z => ⟨fun hz => ?_, fun hz => ?_⟩]
    · rcases List.mem_cons.1 ((h z).1 (List.mem_cons_of_mem _ hz)) with e | e
      · subst e; have := l1 z hz; rw [less_irr] at this; cases this
      · exact e
    · rcases List.mem_cons.1 ((h z).2 (List.mem_cons_of_mem _ hz)) with e | e
      · subst e; have := m1 z hz; rw [less_irr] at this; cases this
      · exact e
theorem le_less (x y : Str) : decide (x ≤ y) = !(Op.bytesLess y x) := by
  rw [bytesLess_eq]
  by_cases h : y < x
  · rw [decide_eq_true h, decide_eq_false (by rw [List.not_le]; exact h)]; rfl
  · rw [decide_eq_false h, decide_eq_true (List.not_lt.1 h)]; rfl
theorem sortS_le (l : List Str) : (sortS l).Pairwise fun x y => Op.bytesLess y x = false := by
  have h := List.pairwise_mergeSort (le := fun x y : Str => decide (x ≤ y)) (fun a b c h1 h2 => by
    rw [le_less, Bool.not_eq_true'] at h1 h2 ⊢
    cases e : Op.bytesLess c a with
    | false => rfl
    | true =>
      rcases less_or h1 with h3 | h3
      · have := less_trans e h3; rw [h2] at this; cases this
      · subst h3; rw [h2] at e; cases e) (fun a b => by
    rw [le_less, le_less]
    cases e : Op.bytesLess b a with
    | false => rfl
    | true => rw [less_asym e]; rfl) l
  exact h.imp fun {x y} h => by rw [le_less, Bool.not_eq_true'] at h; exact h
theorem sortS_mem {l : List Str} {x : Str} : x ∈ sortS l ↔ x ∈ l := List.mem_mergeSort
section
open Go.Lib
theorem compact_of (l : List Str) (h : l.Pairwise fun x y => Op.bytesLess y x = false) : SS (compact l) ∧ ∀ x, x ∈ compact l ↔ x ∈ l := by
  have hle : ∀ i j, i ≤ j → j < l.length → Op.bytesLess (l.toArray[j]!) (l.toArray[i]!) = false := fun i j hij hj => by
    have hi : i < l.length := by omega
    simp only [List.getElem!_toArray, getElem!_pos l i hi, getElem!_pos l j hj]
    rcases Nat.lt_or_eq_of_le hij with hlt | rfl
    · exact List.pairwise_iff_getElem.1 h i j hi hj hlt
    · exact less_irr _
  constructor
  · unfold compact compactUpTo SS
    rw [List.pairwise_map, List.pairwise_filter]
    refine List.pairwise_iff_getElem.2 fun i j hi hj hij => ?_
    simp only [List.length_range] at hi hj
    simp only [List.getElem_range]
    intro _ hk
    have hj0 : 0 < j := by omega
    have hne : l.toArray[j]! ≠ l.toArray[j - 1]! := fun e => by rw [keeps_neg hj0 e] at hk; cases hk
    have h1 : Op.bytesLess (l.toArray[j - 1]!) (l.toArray[j]!) = true := by
      rcases less_or (hle (j - 1) j (by omega) hj) with h2 | h2
      · exact h2
      · exact absurd h2.symm hne
    rcases less_or (hle i (j - 1) (by omega) (by omega)) with h3 | h3
    · exact less_trans h3 h1
    · rw [h3]; exact h1
  · intro x
    constructor
    · exact compact_mem
    · intro hx
      obtain ⟨k, hk, rfl⟩ := List.getElem_of_mem hx
      have key : ∀ k, k < l.length → l.toArray[k]! ∈ compact l := by
        intro k
        induction k using Nat.strongRecOn with
        | _ k ih =>
          intro hk
          cases e : keeps l.toArray k with
          | true =>
            unfold compact compactUpTo
            exact List.mem_map.2 ⟨k, List.mem_filter.2 ⟨List.mem_range.2 hk, e⟩, rfl⟩
          | false =>
            have hk0 : 0 < k := by
              rcases Nat.eq_zero_or_pos k with h0 | h0
              · subst h0; rw [keeps_lt_one _ 0 (by omega)] at e; cases e
              · exact h0
            have he : l.toArray[k]! = l.toArray[k - 1]! := Classical.byContradiction fun hne => by rw [keeps_pos hne] at e; cases e
            rw [he]; exact ih (k - 1) (by omega) (by omega)
      have := key k hk
      simpa [getElem!_pos l k hk] using this
end
def uniq (l : List Str) : List Str := Lib.compact (sortS l)
theorem uniq_ss (l : List Str) : SS (uniq l) := (compact_of _ (sortS_le l)).1
theorem uniq_mem {l : List Str} {x : Str} : x ∈ uniq l ↔ x ∈ l := ((compact_of _ (sortS_le l)).2 x).trans sortS_mem
def ids (s : List Feat) : List Str := s.map (·.Id)
theorem ids_app (s t : List Feat) : ids (s ++ t) = ids s ++ ids t := List.map_append
theorem sheet_ss {s : List Feat} (h : sheetOk s = true) : SS (ids s) ∧ s.length ≤ 8 ∧ ∀ f ∈ s, featOk f = true := by
  unfold sheetOk at h
  simp only [Bool.and_eq_true, decide_eq_true_eq] at h
  obtain ⟨h1, h2⟩ := h
  have h1 := allN_iff.1 h1
  have hadj : ∀ k, 0 < k → k < s.length → Op.bytesLess (nth s ((k : Int) - 1)).Id (nth s (k : Int)).Id = true := fun k h0 hk => by
    have := h1 k hk
    simp only [Bool.and_eq_true, Bool.or_eq_true, decide_eq_true_eq] at this
    rcases this.2 with h | h
    · omega
    · exact h
  refine ⟨?_, h2, fun f hf => ?_⟩
  · unfold SS ids
    rw [List.pairwise_map]
    refine List.pairwise_iff_getElem.2 fun i j hi hj hij => ?_
    have key : ∀ d, i + d + 1 < s.length → Op.bytesLess s[i].Id (nth s ((i + d + 1 : Nat) : Int)).Id = true := by
      intro d
      induction d with
      | zero =>
        intro hd
        have := hadj (i + 0 + 1) (by omega) hd
        rw [show (((i + 0 + 1 : Nat) : Int) - 1) = (i : Int) by omega, nth_nat s hi] at this
        exact this
      | succ d ih =>
        intro hd
        have := hadj (i + (d + 1) + 1) (by omega) hd
        rw [show (((i + (d + 1) + 1 : Nat) : Int) - 1) = ((i + d + 1 : Nat) : Int) by omega] at this
        exact less_trans (ih (by omega)) this
    have := key (j - i - 1) (by omega)
    rw [show i + (j - i - 1) + 1 = j by omega, nth_nat s hj] at this
    exact this
  · obtain ⟨k, hk, rfl⟩ := List.getElem_of_mem hf
    have := h1 k hk
    rw [nth_nat s hk] at this
    simp only [Bool.and_eq_true] at this
    exact this.1
theorem word_len {s : Str} (h : wordOk s = true) : s.length ≤ 6 := by
  unfold wordOk at h
  simp only [Bool.and_eq_true, decide_eq_true_eq] at h
  exact h.2.2
theorem bulk_small {α : Type} [Bulk α] (l : List α) (m : Nat) (h : ∀ x ∈ l, bulk x ≤ m) : bulk l ≤ l.length * (m + 1) := by
  induction l with
  | nil => exact Nat.zero_le _
  | cons x l ih =>
    have h1 := h x List.mem_cons_self
    have h2 := ih fun y hy => h y (List.mem_cons_of_mem _ hy)
    rw [bulk_cons, List.length_cons, Nat.add_mul]
    omega
theorem feat_small {f : Feat} (h : featOk f = true) : bulk f ≤ 100 ∧ f.Id.length ≤ 6 := by
  unfold featOk at h
  simp only [Bool.and_eq_true, decide_eq_true_eq] at h
  obtain ⟨⟨⟨h1, h2⟩, h3⟩, h4⟩ := h
  have hi := word_len h3
  have e1 : bulk f = bulk f.Id + (bulk f.Shape.Kind + bulk f.Shape.Pts) + bulk f.Tags := rfl
  have e2 : bulk f.Id = f.Id.length := bulk_str _
  have e3 : bulk f.Shape.Kind = 0 := rfl
  have e4 : bulk f.Shape.Pts = f.Shape.Pts.length := bulk_flat (fun _ => rfl) _
  have ht : bulk f.Tags ≤ f.Tags.length * (12 + 1) := bulk_small _ 12 fun t hm => by
    unfold tagsOk at h1
    obtain ⟨k, hk, rfl⟩ := List.getElem_of_mem hm
    have := allN_iff.1 h1 k hk
    rw [nth_nat _ hk] at this
    simp only [Bool.and_eq_true] at this
    have a1 := word_len this.1.1
    have a2 := word_len this.1.2
    have b0 : bulk f.Tags[k] = bulk f.Tags[k].Key + bulk f.Tags[k].Val := rfl
    have b1 : bulk f.Tags[k].Key = f.Tags[k].Key.length := bulk_str _
    have b2 : bulk f.Tags[k].Val = f.Tags[k].Val.length := bulk_str _
    omega
  have hp : f.Shape.Pts.length ≤ 6 := by
    unfold shapeOk kindOk at h4
    simp only [Bool.and_eq_true] at h4
    have := h4.2
    split at this
    · simp only [decide_eq_true_eq] at this; omega
    · split at this
      · simp only [Bool.and_eq_true, decide_eq_true_eq] at this; omega
      · split at this
        · simp only [Bool.and_eq_true, decide_eq_true_eq] at this; omega
        · cases this
  have : f.Tags.length * (12 + 1) ≤ 52 := by omega
  omega
def zeroF : Feat := ⟨[], ⟨0, []⟩, []⟩
def sideOf (s : List Feat) (id : Str) : Feat × Bool :=
  if findN s.length (fun j => (nth s (j : Int)).Id == id) < 0 then (zeroF, false) else (nth s (findN s.length fun j => (nth s (j : Int)).Id == id), true)
theorem uniq_len (l : List Str) : (uniq l).length ≤ l.length := by
  unfold uniq
  have := compact_le (sortS l)
  have h2 : (sortS l).length = l.length := List.length_mergeSort _
  omega
end
theorem mate_part {o a : List Pt} (h : few o a = true) (t : Nat) : mateI (spairs o a) (t : Int) = match part o a t with | some x => (x : Int) | none => -1 := by
  rw [spairs_few h, mateI_mk]; rfl
structure MInv (o a b : List Pt) (xs : List Pt) (i j k t : Nat) : Prop where
  hi : i ≤ t
  ht : t ≤ o.length
  hj : j ≤ a.length
  hk : k ≤ b.length
  fj : From (part o a) t j
  fk : From (part o b) t k
  len : xs.length ≤ j + k
  eq : (mloop o a b (part o a) (part o b) (o.length - t) t i j k).map (xs ++ ·) = smerge o a b
theorem MInv.zero {o a b : List Pt} (h1 : few o a = true) (h2 : few o b = true) : MInv o a b [] 0 0 0 0 :=
  ⟨Nat.le_refl _, Nat.zero_le _, Nat.zero_le _, Nat.zero_le _, From.zero _ _, From.zero _ _, Nat.le_refl _, by rw [smerge_few h1 h2, Nat.sub_zero]; cases mloop o a b (part o a) (part o b) o.length 0 0 0 0 <;> rfl⟩
theorem MInv.skip {o a b xs : List Pt} {i j k t : Nat} (h : MInv o a b xs i j k t) (ht : t < o.length) (hn : part o a t = none ∨ part o b t = none) : MInv o a b xs i j k (t + 1) :=
  ⟨by have := h.hi; omega, ht, h.hj, h.hk, h.fj.skip, h.fk.skip, h.len, by
    have := h.eq
    rw [show o.length - t = (o.length - (t + 1)) + 1 by omega, mloop_none hn] at this
    exact this⟩
theorem MInv.step {o a b xs : List Pt} {i j k t x y : Nat} (h : MInv o a b xs i j k t) (ht : t < o.length) (hx : part o a t = some x) (hy : part o b t = some y) {p : List Pt} (hp : pickL (seg o i t) (seg a j x) (seg b k y) = some p) : MInv o a b (xs ++ p ++ [nth o (t : Int)]) (t + 1) (x + 1) (y + 1) (t + 1) := by
  have h1 := (part_mates o a).lt hx
  have h2 := (part_mates o b).lt hy
  refine ⟨Nat.le_refl _, ht, h1.2, h2.2, .step (part_mates o a) hx, .step (part_mates o b) hy, ?_, ?_⟩
  · have := (pickL_mem hp).2.2.2
    rw [seg_len a _ _ (by omega), seg_len b _ _ (by omega)] at this
    have h3 := h.fj t x (Nat.le_refl _) hx
    have h4 := h.fk t y (Nat.le_refl _) hy
    have h5 := h.len
    simp only [List.length_append, List.length_singleton]; omega
  · have := h.eq
    rw [show o.length - t = (o.length - (t + 1)) + 1 by omega, mloop_some hx hy, hp, Option.bind_some, Option.map_map] at this
    rw [← this]
    congr 1
    funext r
    simp
theorem MInv.stop {o a b xs : List Pt} {i j k t x y : Nat} (h : MInv o a b xs i j k t) (ht : t < o.length) (hx : part o a t = some x) (hy : part o b t = some y) (hp : pickL (seg o i t) (seg a j x) (seg b k y) = none) : smerge o a b = none := by
  have := h.eq
  rw [show o.length - t = (o.length - (t + 1)) + 1 by omega, mloop_some hx hy, hp] at this
  exact this.symm
theorem MInv.last {o a b xs : List Pt} {i j k : Nat} (h : MInv o a b xs i j k o.length) : (pickL (o.drop i) (a.drop j) (b.drop k)).map (xs ++ ·) = smerge o a b := by
  have := h.eq
  rw [Nat.sub_self, mloop_zero] at this
  exact this
theorem MInv.from {o a b xs : List Pt} {i j k t x y : Nat} (h : MInv o a b xs i j k t) (hx : part o a t = some x) (hy : part o b t = some y) : j ≤ x ∧ x < a.length ∧ k ≤ y ∧ y < b.length :=
  ⟨h.fj t x (Nat.le_refl _) hx, ((part_mates o a).lt hx).2, h.fk t y (Nat.le_refl _) hy, ((part_mates o b).lt hy).2⟩
def keysT (t : List Tag) : List Str := t.map (·.Key)
theorem keys_app (s t : List Tag) : keysT (s ++ t) = keysT s ++ keysT t := List.map_append
def valT (t : List Tag) (key : Str) : value :=
  if findN t.length (fun j => (nth t (j : Int)).Key == key) < 0 then ⟨false, []⟩ else ⟨true, (nth t (findN t.length fun j => (nth t (j : Int)).Key == key)).Val⟩
theorem valT_no (t : List Tag) (key : Str) (h : (valT t key).has = false) : valT t key = ⟨false, []⟩ := by
  unfold valT at h ⊢
  split
  · rfl
  · rename_i h1; rw [if_neg h1] at h; cases h
def three {α : Type} [DecidableEq α] (o a b : α) : α × Bool := if a = o then (b, true) else if b = o then (a, true) else if a = b then (a, true) else (a, false)
def tagF (o a b : value) : value × Bool := if (three o a b).2 then three o a b else (if a.has then a else b, false)
def tagS : Str := [116, 97, 103, 32]
def tagK (o a b : List Tag) (k : Str) : value × Bool := tagF (valT o k) (valT a k) (valT b k)
def clashL (o a b : List Tag) (ks : List Str) : List Str := (ks.filter fun k => !(tagK o a b k).2).map fun k => tagS ++ k
def tagsL (o a b : List Tag) (ks : List Str) : List Tag := (ks.filter fun k => (tagK o a b k).1.has).map fun k => ⟨k, (tagK o a b k).1.val⟩
theorem clashL_snoc (o a b : List Tag) (ks : List Str) (k : Str) : clashL o a b (ks ++ [k]) = clashL o a b ks ++ (if (tagK o a b k).2 then [] else [tagS ++ k]) := by
  unfold clashL
  rw [List.filter_append, List.map_append]
  congr 1
  cases h : (tagK o a b k).2 <;> simp [h]
theorem tagsL_snoc (o a b : List Tag) (ks : List Str) (k : Str) : tagsL o a b (ks ++ [k]) = tagsL o a b ks ++ (if (tagK o a b k).1.has then [⟨k, (tagK o a b k).1.val⟩] else []) := by
  unfold tagsL
  rw [List.filter_append, List.map_append]
  congr 1
  cases h : (tagK o a b k).1.has <;> simp [h]
theorem clashL_len (o a b : List Tag) (ks : List Str) : (clashL o a b ks).length ≤ ks.length := by
  unfold clashL; rw [List.length_map]; exact List.length_filter_le _ _
theorem tagsL_len (o a b : List Tag) (ks : List Str) : (tagsL o a b ks).length ≤ ks.length := by
  unfold tagsL; rw [List.length_map]; exact List.length_filter_le _ _
def shapeF (o a b : Shape) : Shape × Bool :=
  if (three o a b).2 then three o a b
  else if a.Kind = o.Kind ∧ b.Kind = o.Kind then
    match smerge o.Pts a.Pts b.Pts with
    | some p => if shapeOk ⟨a.Kind, p⟩ then (⟨a.Kind, p⟩, true) else (a, false)
    | none => (a, false)
  else (a, false)
def allKeys (o a b : Feat) : List Str := uniq (keysT (o.Tags ++ a.Tags ++ b.Tags))
def shapeS : Str := [115, 104, 97, 112, 101]
def joinF (o a b : Feat) : Feat := ⟨a.Id, (shapeF o.Shape a.Shape b.Shape).1, tagsL o.Tags a.Tags b.Tags (allKeys o a b)⟩
def joinW (o a b : Feat) : List Str := (if (shapeF o.Shape a.Shape b.Shape).2 then [] else [shapeS]) ++ clashL o.Tags a.Tags b.Tags (allKeys o a b)
def joinOf (o a b : Feat) : Feat × List Str := if featOk (joinF o a b) then (joinF o a b, joinW o a b) else (a, [[109, 117, 99, 104]])
def featJoin (o a b : Feat) : Feat × List Str := if featOk o && featOk a && featOk b && decide (o.Id = a.Id) && decide (o.Id = b.Id) then joinOf o a b else (zeroF, [])
theorem feat_facts {f : Feat} (h : featOk f = true) : f.Tags.length ≤ 4 ∧ shapeOk f.Shape = true ∧ f.Shape.Pts.length ≤ 6 ∧ f.Id.length ≤ 6 ∧ ∀ t ∈ f.Tags, t.Key.length ≤ 6 ∧ t.Val.length ≤ 6 := by
  have hb := (feat_small h).2
  unfold featOk at h
  simp only [Bool.and_eq_true, decide_eq_true_eq] at h
  obtain ⟨⟨⟨h1, h2⟩, h3⟩, h4⟩ := h
  refine ⟨h2, h4, ?_, hb, fun t hm => ?_⟩
  · unfold shapeOk kindOk at h4
    simp only [Bool.and_eq_true] at h4
    have := h4.2
    split at this
    · simp only [decide_eq_true_eq] at this; omega
    · split at this
      · simp only [Bool.and_eq_true, decide_eq_true_eq] at this; omega
      · split at this
        · simp only [Bool.and_eq_true, decide_eq_true_eq] at this; omega
        · cases this
  · unfold tagsOk at h1
    obtain ⟨k, hk, rfl⟩ := List.getElem_of_mem hm
    have := allN_iff.1 h1 k hk
    rw [nth_nat _ hk] at this
    simp only [Bool.and_eq_true] at this
    exact ⟨word_len this.1.1, word_len this.1.2⟩
theorem shape_pts {s : Shape} (h : shapeOk s = true) : s.Pts.length ≤ 6 := by
  unfold shapeOk kindOk at h
  simp only [Bool.and_eq_true] at h
  have := h.2
  split at this
  · simp only [decide_eq_true_eq] at this; omega
  · split at this
    · simp only [Bool.and_eq_true, decide_eq_true_eq] at this; omega
    · split at this
      · simp only [Bool.and_eq_true, decide_eq_true_eq] at this; omega
      · cases this
theorem three_in {α : Type} [DecidableEq α] (o a b : α) : (three o a b).1 = a ∨ (three o a b).1 = b := by
  unfold three
  split
  · exact .inr rfl
  · split
    · exact .inl rfl
    · split <;> exact .inl rfl
theorem shapeF_pts {o a b : Shape} (ha : a.Pts.length ≤ 6) (hb : b.Pts.length ≤ 6) : (shapeF o a b).1.Pts.length ≤ 6 := by
  unfold shapeF
  split
  · rcases three_in o a b with h | h <;> rw [h] <;> assumption
  · split
    · split
      · split
        · rename_i h; exact shape_pts h
        · exact ha
      · exact ha
    · exact ha
theorem valT_len {t : List Tag} (h : ∀ x ∈ t, x.Val.length ≤ 6) (k : Str) : (valT t k).val.length ≤ 6 := by
  unfold valT
  split
  · exact Nat.zero_le _
  · have h1 := findN_le t.length fun j => (nth t (j : Int)).Key == k
    exact h _ (nth_memi t (by omega) h1.2)
theorem tagF_in (o a b : value) : (tagF o a b).1 = a ∨ (tagF o a b).1 = b := by
  unfold tagF
  split
  · exact three_in o a b
  · split
    · exact .inl rfl
    · exact .inr rfl
theorem allKeys_len (o a b : Feat) : (allKeys o a b).length ≤ o.Tags.length + a.Tags.length + b.Tags.length := by
  have h := uniq_len (keysT (o.Tags ++ a.Tags ++ b.Tags))
  have e : (keysT (o.Tags ++ a.Tags ++ b.Tags)).length = o.Tags.length + a.Tags.length + b.Tags.length := by unfold keysT; simp; omega
  unfold allKeys; omega
theorem allKeys_small {o a b : Feat} (ho : featOk o = true) (ha : featOk a = true) (hb : featOk b = true) : (allKeys o a b).length ≤ 12 ∧ ∀ k ∈ allKeys o a b, k.length ≤ 6 := by
  have h1 := feat_facts ho; have h2 := feat_facts ha; have h3 := feat_facts hb
  refine ⟨by have := allKeys_len o a b; omega, fun k hk => ?_⟩
  unfold allKeys at hk
  rw [uniq_mem] at hk
  obtain ⟨t, ht, rfl⟩ := List.mem_map.1 hk
  rcases List.mem_append.1 ht with ht | ht
  · rcases List.mem_append.1 ht with ht | ht
    · exact (h1.2.2.2.2 t ht).1
    · exact (h2.2.2.2.2 t ht).1
  · exact (h3.2.2.2.2 t ht).1
theorem tagsL_small {o a b : Feat} (ho : featOk o = true) (ha : featOk a = true) (hb : featOk b = true) : bulk (tagsL o.Tags a.Tags b.Tags (allKeys o a b)) ≤ 200 := by
  obtain ⟨k1, k2⟩ := allKeys_small ho ha hb
  have hl := tagsL_len o.Tags a.Tags b.Tags (allKeys o a b)
  have hs := bulk_small (tagsL o.Tags a.Tags b.Tags (allKeys o a b)) 12 fun t ht => by
    unfold tagsL at ht
    obtain ⟨k, hk, rfl⟩ := List.mem_map.1 ht
    have hk := k2 k (List.mem_filter.1 hk).1
    have hv : (tagK o.Tags a.Tags b.Tags k).1.val.length ≤ 6 := by
      rcases tagF_in (valT o.Tags k) (valT a.Tags k) (valT b.Tags k) with h | h
      · unfold tagK; rw [h]; exact valT_len (fun x hx => ((feat_facts ha).2.2.2.2 x hx).2) k
      · unfold tagK; rw [h]; exact valT_len (fun x hx => ((feat_facts hb).2.2.2.2 x hx).2) k
    have e : bulk (⟨k, (tagK o.Tags a.Tags b.Tags k).1.val⟩ : Tag) = bulk k + bulk (tagK o.Tags a.Tags b.Tags k).1.val := rfl
    rw [e, bulk_str, bulk_str]; omega
  have : (tagsL o.Tags a.Tags b.Tags (allKeys o a b)).length * (12 + 1) ≤ 12 * 13 := Nat.mul_le_mul (by omega) (Nat.le_refl _)
  omega
theorem joinF_small {o a b : Feat} (ho : featOk o = true) (ha : featOk a = true) (hb : featOk b = true) : bulk (joinF o a b) ≤ 300 := by
  have h2 := feat_facts ha; have h3 := feat_facts hb
  have ht := tagsL_small ho ha hb
  have hp := shapeF_pts (o := o.Shape) h2.2.2.1 h3.2.2.1
  have e : bulk (joinF o a b) = bulk a.Id + (0 + bulk (shapeF o.Shape a.Shape b.Shape).1.Pts) + bulk (tagsL o.Tags a.Tags b.Tags (allKeys o a b)) := rfl
  have e2 : bulk a.Id = a.Id.length := bulk_str _
  have e3 : bulk (shapeF o.Shape a.Shape b.Shape).1.Pts = (shapeF o.Shape a.Shape b.Shape).1.Pts.length := bulk_flat (fun _ => rfl) _
  omega
section
def decA : Nat → Int → Str → Str
  | 0, _, out => out
  | f + 1, k, out => if 0 < k then decA f (k / 10) (UInt8.ofNat (48 + k % 10).toNat :: out) else out
def tx (k : Int) : Str := if k ≤ 0 then [109, 48] else [109] ++ decA k.toNat k []
def mkL {α : Type} (g : α → Int → α × Int) : List α → Int → List α × Int
  | [], k => ([], k)
  | x :: l, k => ((g x k).1 :: (mkL g l (g x k).2).1, (mkL g l (g x k).2).2)
section
variable {α : Type} {g : α → Int → α × Int}
theorem mkL_snoc (x : α) : ∀ (l : List α) (k : Int), mkL g (l ++ [x]) k = ((mkL g l k).1 ++ [(g x (mkL g l k).2).1], (g x (mkL g l k).2).2)
  | [], k => rfl
  | y :: l, k => by
    rw [List.cons_append, mkL, mkL_snoc x l]; rfl
theorem mkL_len : ∀ (l : List α) (k : Int), (mkL g l k).1.length = l.length
  | [], k => rfl
  | y :: l, k => by rw [mkL, List.length_cons, List.length_cons, mkL_len l]
theorem mkL_app : ∀ (l m : List α) (k : Int), mkL g (l ++ m) k = ((mkL g l k).1 ++ (mkL g m (mkL g l k).2).1, (mkL g m (mkL g l k).2).2)
  | [], m, k => rfl
  | y :: l, m, k => by rw [List.cons_append, mkL, mkL_app l]; rfl
variable [Inhabited α]
def Mk (g : α → Int → α × Int) (a : List α) (k : Int) (u : Nat) (xs : List α) (k' : Int) : Prop := u ≤ a.length ∧ xs = (mkL g (a.take u) k).1 ++ a.drop u ∧ k' = (mkL g (a.take u) k).2
variable {a xs : List α} {k k' : Int} {u : Nat}
theorem Mk.zero (a : List α) (k : Int) : Mk g a k 0 a k := ⟨Nat.zero_le _, by simp [mkL], by simp [mkL]⟩
theorem Mk.len (h : Mk g a k u xs k') : xs.length = a.length := by
  rw [h.2.1, List.length_append, mkL_len, List.length_take, List.length_drop]; have := h.1; omega
theorem Mk.nth (h : Mk g a k u xs k') (hu : u < a.length) : nth xs (u : Int) = Go.Proofs.YtpdmnmpcjljeaaaGreat.nth a (u : Int) := by
  rw [nth_nat xs (by rw [h.len]; exact hu), nth_nat a hu]
  have hl : (mkL g (a.take u) k).1.length = u := by rw [mkL_len, List.length_take]; omega
  have := h.2.1
  subst this
  rw [List.getElem_append_right (by omega)]
  simp [hl]
def Hd (g : α → Int → α × Int) (a : List α) (k : Int) (u : Nat) (k' : Int) : Prop := u ≤ a.length ∧ k' = (mkL g (a.take u) k).2
theorem Hd.zero (a : List α) (k : Int) : Hd g a k 0 k := ⟨Nat.zero_le _, by simp [mkL]⟩
theorem Hd.nth (h : Hd g a k u k') (hu : u < a.length) : nth (mkL g a k).1 (u : Int) = (g (Go.Proofs.YtpdmnmpcjljeaaaGreat.nth a (u : Int)) k').1 := by
  have e : a = (a.take u ++ [Go.Proofs.YtpdmnmpcjljeaaaGreat.nth a (u : Int)]) ++ a.drop (u + 1) := by rw [← take_nth a hu, List.take_append_drop]
  have hl : (mkL g (a.take u) k).1.length = u := by rw [mkL_len, List.length_take]; omega
  rw [nth_nat _ (by rw [mkL_len]; exact hu)]
  have h1 : (mkL g a k).1[u]? = some (g (Go.Proofs.YtpdmnmpcjljeaaaGreat.nth a (u : Int)) k').1 := by
    conv => lhs; rw [e]
    rw [mkL_app, mkL_snoc]
    dsimp only
    rw [List.append_assoc, List.getElem?_append_right (by omega), hl, Nat.sub_self, h.2]; rfl
  rw [List.getElem?_eq_getElem (by rw [mkL_len]; exact hu)] at h1
  exact Option.some.inj h1
end
theorem bulk_feat (x : Feat) : bulk x = bulk x.Id + (bulk x.Shape.Kind + bulk x.Shape.Pts) + bulk x.Tags := rfl
end
theorem pw_ext {α : Type} {R : α → α → Prop} (irr : ∀ x, ¬ R x x) (tr : ∀ x y z, R x y → R y z → R x z) : ∀ {l m : List α}, l.Pairwise R → m.Pairwise R → (∀ x, x ∈ l ↔ x ∈ m) → l = m
  | [], [], _, _, _ => rfl
  | [], y :: m, _, _, h => by have := (h y).2 List.mem_cons_self; cases this
  | x :: l, [], _, _, h => by have := (h x).1 List.mem_cons_self; cases this
  | x :: l, y :: m, hl, hm, h => by
    obtain ⟨l1, l2⟩ := List.pairwise_cons.1 hl
    obtain ⟨m1, m2⟩ := List.pairwise_cons.1 hm
    have e : x = y := by
      rcases List.mem_cons.1 ((h x).1 List.mem_cons_self) with e | e
      · exact e
      · rcases List.mem_cons.1 ((h y).2 List.mem_cons_self) with e' | e'
        · exact e'.symm
        · exact absurd (tr _ _ _ (m1 x e) (l1 y e')) (irr _)
    subst e
    rw [pw_ext irr tr l2 m2 fun z => ⟨fun hz => ?_, fun hz => ?_⟩]
    · rcases List.mem_cons.1 ((h z).1 (List.mem_cons_of_mem _ hz)) with e | e
      · subst e; exact absurd (l1 z hz) (irr _)
      · exact e
    · rcases List.mem_cons.1 ((h z).2 (List.mem_cons_of_mem _ hz)) with e | e
      · subst e; exact absurd (m1 z hz) (irr _)
      · exact e
def idsC (d : List Change) : List Str := d.map (·.Id)
theorem idsC_app (s t : List Change) : idsC (s ++ t) = idsC s ++ idsC t := List.map_append
def CS (d : List Change) : Prop := d.Pairwise fun x y => Op.bytesLess x.Id y.Id = true
theorem CS.ext {l m : List Change} (hl : CS l) (hm : CS m) (h : ∀ x, x ∈ l ↔ x ∈ m) : l = m :=
  pw_ext (R := fun x y : Change => Op.bytesLess x.Id y.Id = true) (fun x e => by rw [less_irr] at e; cases e) (fun x y z h1 h2 => less_trans h1 h2) hl hm h
theorem CS.ids {d : List Change} (h : CS d) : SS (idsC d) := List.pairwise_map.2 h
theorem findN_true {n : Nat} {c : Nat → Bool} {k : Nat} (h : findN n c = (k : Int)) : k < n ∧ c k = true := by
  unfold findN at h
  cases e : (List.range n).find? c with
  | none => rw [e] at h; dsimp only at h; omega
  | some j =>
    rw [e] at h; dsimp only at h
    have : j = k := by omega
    subst this
    exact ⟨List.mem_range.1 (List.mem_of_find?_eq_some e), List.find?_some e⟩
theorem findN_neg {n : Nat} {c : Nat → Bool} (h : findN n c < 0) : ∀ j, j < n → c j = false := fun j hj => by
  unfold findN at h
  cases e : (List.range n).find? c with
  | some k => rw [e] at h; dsimp only at h; omega
  | none =>
    have := List.find?_eq_none.1 e j (List.mem_range.2 hj)
    simpa using this
theorem CS.inj {d : List Change} (h : CS d) {x y : Change} (hx : x ∈ d) (hy : y ∈ d) (e : x.Id = y.Id) : x = y := by
  obtain ⟨i, hi, rfl⟩ := List.getElem_of_mem hx
  obtain ⟨j, hj, rfl⟩ := List.getElem_of_mem hy
  rcases Nat.lt_trichotomy i j with g | g | g
  · have := List.pairwise_iff_getElem.1 h i j hi hj g
    rw [e, less_irr] at this; cases this
  · subst g; rfl
  · have := List.pairwise_iff_getElem.1 h j i hj hi g
    rw [e, less_irr] at this; cases this
theorem sideOf_hit {s : List Feat} {id : Str} (h : (sideOf s id).2 = true) : (sideOf s id).1 ∈ s ∧ (sideOf s id).1.Id = id := by
  unfold sideOf at h ⊢
  split at h
  · cases h
  · rename_i g
    rw [if_neg g]
    have h1 := findN_le s.length fun j => (nth s (j : Int)).Id == id
    obtain ⟨k, hk⟩ : ∃ k : Nat, findN s.length (fun j => (nth s (j : Int)).Id == id) = (k : Int) := ⟨_, (Int.toNat_of_nonneg (by omega)).symm⟩
    obtain ⟨h2, h3⟩ := findN_true hk
    rw [hk]
    exact ⟨nth_mem s h2, by simpa using h3⟩
theorem sideOf_no {s : List Feat} {id : Str} (h : (sideOf s id).2 = false) : (sideOf s id).1 = zeroF ∧ id ∉ ids s := by
  unfold sideOf at h ⊢
  split at h
  · rename_i g
    rw [if_pos g]
    refine ⟨rfl, fun hm => ?_⟩
    obtain ⟨f, hf, rfl⟩ := List.mem_map.1 hm
    obtain ⟨k, hk, rfl⟩ := List.getElem_of_mem hf
    have := findN_neg g k hk
    rw [nth_nat s hk] at this
    simp at this
  · cases h
theorem sideOf_iff {s : List Feat} {id : Str} : (sideOf s id).2 = true ↔ id ∈ ids s := by
  constructor
  · intro h
    obtain ⟨h1, h2⟩ := sideOf_hit h
    exact List.mem_map.2 ⟨_, h1, h2⟩
  · intro h
    cases g : (sideOf s id).2 with
    | true => rfl
    | false => exact absurd h (sideOf_no g).2
def thOf (s : List Feat) (id : Str) : thing := ⟨(sideOf s id).2, (sideOf s id).1⟩
theorem thOf_no {s : List Feat} {id : Str} (h : (thOf s id).has = false) : thOf s id = ⟨false, zeroF⟩ := by
  have h1 := (sideOf_no h).1
  unfold thOf at h ⊢
  dsimp only at h
  rw [h, h1]
def goneS : Str := [103, 111, 110, 101]
def bothS : Str := [98, 111, 116, 104]
def oneOf (o a b : thing) : thing × List Str :=
  if (three o a b).2 then ((three o a b).1, [])
  else if a.has = false then (b, [goneS])
  else if b.has = false then (a, [goneS])
  else if o.has = false then (a, [bothS])
  else (⟨true, (joinOf o.f a.f b.f).1⟩, (joinOf o.f a.f b.f).2)
def oneAt (o a b : List Feat) (id : Str) : thing × List Str := oneOf (thOf o id) (thOf a id) (thOf b id)
def joinFs (o a b : List Feat) (l : List Str) : List Feat := (l.filter fun i => (oneAt o a b i).1.has).map fun i => (oneAt o a b i).1.f
def clashAtL (i : Str) (w : List Str) : List Clash := w.map fun x => ⟨i, x⟩
def joinCs (o a b : List Feat) (l : List Str) : List Clash := (l.map fun i => clashAtL i (oneAt o a b i).2).flatten
def ids3 (o a b : List Feat) : List Str := uniq (ids o ++ ids a ++ ids b)
def sheetJoin (o a b : List Feat) : List Feat × List Clash × Bool :=
  if sheetOk o && sheetOk a && sheetOk b then
    if sheetOk (joinFs o a b (ids3 o a b)) then (joinFs o a b (ids3 o a b), joinCs o a b (ids3 o a b), true) else ([], [], false)
  else ([], [], false)
theorem joinFs_snoc (o a b : List Feat) (l : List Str) (i : Str) : joinFs o a b (l ++ [i]) = joinFs o a b l ++ (if (oneAt o a b i).1.has then [(oneAt o a b i).1.f] else []) := by
  unfold joinFs
  rw [List.filter_append, List.map_append]
  congr 1
  cases h : (oneAt o a b i).1.has <;> simp [h]
theorem joinCs_snoc (o a b : List Feat) (l : List Str) (i : Str) : joinCs o a b (l ++ [i]) = joinCs o a b l ++ clashAtL i (oneAt o a b i).2 := by
  unfold joinCs
  rw [List.map_append, List.flatten_append]
  simp
theorem joinFs_len (o a b : List Feat) (l : List Str) : (joinFs o a b l).length ≤ l.length := by
  unfold joinFs; rw [List.length_map]; exact List.length_filter_le _ _
theorem ids3_len {o a b : List Feat} (ho : sheetOk o = true) (ha : sheetOk a = true) (hb : sheetOk b = true) : (ids3 o a b).length ≤ 24 := by
  have h1 := uniq_len (ids o ++ ids a ++ ids b)
  have h2 : (ids o ++ ids a ++ ids b).length = o.length + a.length + b.length := by unfold ids; simp; omega
  have := (sheet_ss ho).2.1; have := (sheet_ss ha).2.1; have := (sheet_ss hb).2.1
  unfold ids3; omega
theorem ids3_small {o a b : List Feat} (ho : sheetOk o = true) (ha : sheetOk a = true) (hb : sheetOk b = true) {i : Str} (hi : i ∈ ids3 o a b) : i.length ≤ 6 := by
  have key : ∀ {s : List Feat}, sheetOk s = true → i ∈ ids s → i.length ≤ 6 := fun hs hm => by
    obtain ⟨f, hf, rfl⟩ := List.mem_map.1 hm
    exact (feat_small ((sheet_ss hs).2.2 f hf)).2
  unfold ids3 at hi
  rcases List.mem_append.1 (uniq_mem.1 hi) with h | h
  · rcases List.mem_append.1 h with h | h
    · exact key ho h
    · exact key ha h
  · exact key hb h
theorem thOf_ok {s : List Feat} (hs : sheetOk s = true) (id : Str) : thOf s id = ⟨false, zeroF⟩ ∨ ((thOf s id).has = true ∧ featOk (thOf s id).f = true ∧ (thOf s id).f.Id = id) := by
  cases h : (sideOf s id).2 with
  | false => exact .inl (thOf_no h)
  | true =>
    obtain ⟨h1, h2⟩ := sideOf_hit h
    exact .inr ⟨h, (sheet_ss hs).2.2 _ h1, h2⟩
theorem three_case {α : Type} [DecidableEq α] (o a b : α) : (a = o ∧ three o a b = (b, true)) ∨ (¬ a = o ∧ b = o ∧ three o a b = (a, true)) ∨ (¬ a = o ∧ ¬ b = o ∧ a = b ∧ three o a b = (a, true)) ∨ (¬ a = o ∧ ¬ b = o ∧ ¬ a = b ∧ three o a b = (a, false)) := by
  unfold three
  by_cases h1 : a = o
  · exact .inl ⟨h1, if_pos h1⟩
  · rw [if_neg h1]
    by_cases h2 : b = o
    · exact .inr (.inl ⟨h1, h2, if_pos h2⟩)
    · rw [if_neg h2]
      by_cases h3 : a = b
      · exact .inr (.inr (.inl ⟨h1, h2, h3, if_pos h3⟩))
      · exact .inr (.inr (.inr ⟨h1, h2, h3, if_neg h3⟩))
theorem joinW_len {o a b : Feat} (ho : featOk o = true) (ha : featOk a = true) (hb : featOk b = true) : (joinOf o a b).2.length ≤ 13 ∧ (∀ x ∈ (joinOf o a b).2, x.length ≤ 20) ∧ bulk (joinOf o a b).1 ≤ 300 := by
  obtain ⟨ks1, ks2⟩ := allKeys_small ho ha hb
  have hcl := clashL_len o.Tags a.Tags b.Tags (allKeys o a b)
  unfold joinOf
  split
  · refine ⟨?_, fun x hx => ?_, joinF_small ho ha hb⟩
    · unfold joinW
      rw [List.length_append]
      split
      · simp only [List.length_nil]; omega
      · simp only [List.length_cons, List.length_nil]; omega
    · unfold joinW at hx
      rcases List.mem_append.1 hx with hx | hx
      · split at hx
        · cases hx
        · rw [List.mem_singleton.1 hx]; decide
      · unfold clashL at hx
        obtain ⟨k, hk, rfl⟩ := List.mem_map.1 hx
        have := ks2 k (List.mem_filter.1 hk).1
        rw [List.length_append]
        have : tagS.length = 4 := rfl
        omega
  · refine ⟨by simp, fun x hx => ?_, Nat.le_trans (feat_small ha).1 (by omega)⟩
    rw [List.mem_singleton.1 hx]; decide
theorem oneAt_small {o a b : List Feat} (ho : sheetOk o = true) (ha : sheetOk a = true) (hb : sheetOk b = true) (i : Str) : (oneAt o a b i).2.length ≤ 13 ∧ (∀ x ∈ (oneAt o a b i).2, x.length ≤ 20) ∧ bulk (oneAt o a b i).1.f ≤ 300 := by
  have to_ := thOf_ok ho i; have ta := thOf_ok ha i; have tb := thOf_ok hb i
  have small : ∀ {t : thing}, (t = ⟨false, zeroF⟩ ∨ (t.has = true ∧ featOk t.f = true ∧ t.f.Id = i)) → bulk t.f ≤ 300 := fun h => by
    rcases h with rfl | h
    · exact (by decide : bulk zeroF ≤ 300)
    · exact Nat.le_trans (feat_small h.2.1).1 (by omega)
  unfold oneAt oneOf
  split
  · refine ⟨by simp, fun x hx => (by cases hx), ?_⟩
    rcases three_in (thOf o i) (thOf a i) (thOf b i) with h | h <;> rw [h]
    · exact small ta
    · exact small tb
  · split
    · exact ⟨by simp, fun x hx => by rw [List.mem_singleton.1 hx]; decide, small tb⟩
    · rename_i h1
      split
      · exact ⟨by simp, fun x hx => by rw [List.mem_singleton.1 hx]; decide, small ta⟩
      · rename_i h2
        split
        · exact ⟨by simp, fun x hx => by rw [List.mem_singleton.1 hx]; decide, small ta⟩
        · rename_i h3
          have g : ∀ {t : thing}, (t = ⟨false, zeroF⟩ ∨ (t.has = true ∧ featOk t.f = true ∧ t.f.Id = i)) → ¬ t.has = false → featOk t.f = true := fun h hn => by
            rcases h with rfl | h
            · exact absurd rfl hn
            · exact h.2.1
          exact joinW_len (g to_ h3) (g ta h1) (g tb h2)
theorem joinCs_len {o a b : List Feat} (ho : sheetOk o = true) (ha : sheetOk a = true) (hb : sheetOk b = true) (l : List Str) : (joinCs o a b l).length ≤ 13 * l.length := by
  induction l with
  | nil => exact Nat.zero_le _
  | cons i l ih =>
    have e : joinCs o a b (i :: l) = clashAtL i (oneAt o a b i).2 ++ joinCs o a b l := by unfold joinCs; simp
    have h := (oneAt_small ho ha hb i).1
    rw [e, List.length_append, List.length_cons]
    have : (clashAtL i (oneAt o a b i).2).length = (oneAt o a b i).2.length := by unfold clashAtL; simp
    omega
theorem joinFs_small {o a b : List Feat} (ho : sheetOk o = true) (ha : sheetOk a = true) (hb : sheetOk b = true) (l : List Str) : bulk (joinFs o a b l) ≤ 301 * l.length := by
  have h1 := bulk_small (joinFs o a b l) 300 fun f hf => by
    unfold joinFs at hf
    obtain ⟨i, _, rfl⟩ := List.mem_map.1 hf
    exact (oneAt_small ho ha hb i).2.2
  have h2 := joinFs_len o a b l
  have : (joinFs o a b l).length * (300 + 1) ≤ l.length * 301 := Nat.mul_le_mul h2 (Nat.le_refl _)
  omega
theorem joinCs_small {o a b : List Feat} (ho : sheetOk o = true) (ha : sheetOk a = true) (hb : sheetOk b = true) : bulk (joinCs o a b (ids3 o a b)) ≤ 20000 := by
  have h1 := bulk_small (joinCs o a b (ids3 o a b)) 26 fun c hc => by
    unfold joinCs at hc
    obtain ⟨m, hm, hc⟩ := List.mem_flatten.1 hc
    obtain ⟨i, hi, rfl⟩ := List.mem_map.1 hm
    obtain ⟨x, hx, rfl⟩ := List.mem_map.1 hc
    have e1 := ids3_small ho ha hb hi
    have e2 := (oneAt_small ho ha hb i).2.1 x hx
    have e : bulk (⟨i, x⟩ : Clash) = bulk i + bulk x := rfl
    rw [e, bulk_str, bulk_str]; omega
  have h2 := joinCs_len ho ha hb (ids3 o a b)
  have h3 := ids3_len ho ha hb
  have : (joinCs o a b (ids3 o a b)).length * (26 + 1) ≤ (13 * 24) * 27 := Nat.mul_le_mul (by omega) (Nat.le_refl _)
  omega
theorem sheetJoin_small (o a b : List Feat) : bulk (sheetJoin o a b).1 ≤ 10000 ∧ bulk (sheetJoin o a b).2.1 ≤ 20000 := by
  unfold sheetJoin
  split
  · rename_i h
    simp only [Bool.and_eq_true] at h
    split
    · have h1 := joinFs_small h.1.1 h.1.2 h.2 (ids3 o a b)
      have h2 := ids3_len h.1.1 h.1.2 h.2
      exact ⟨by dsimp only; omega, joinCs_small h.1.1 h.1.2 h.2⟩
    · exact ⟨Nat.zero_le _, Nat.zero_le _⟩
  · exact ⟨Nat.zero_le _, Nat.zero_le _⟩
theorem thing.ext_iff' (a b : thing) : a = b ↔ a.has = b.has ∧ a.f = b.f := by cases a; cases b; simp
def ThOk (i : Str) (t : thing) : Prop := t = ⟨false, zeroF⟩ ∨ (t.has = true ∧ featOk t.f = true ∧ t.f.Id = i)
theorem ThOk.small {i : Str} {t : thing} (h : ThOk i t) : bulk t.f ≤ 100 ∧ (t.f.Shape.Pts.length ≤ 1048576 ∧ t.f.Tags.length ≤ 1048576) := by
  have key : bulk t.f ≤ 100 := by
    rcases h with rfl | h
    · exact (by decide : bulk zeroF ≤ 100)
    · exact (feat_small h.2.1).1
  have h1 := bulk_feat t.f
  have h2 := bulk_len t.f.Tags
  have h3 := bulk_len t.f.Shape.Pts
  exact ⟨key, by omega, by omega⟩
theorem ThOk.has {i : Str} {t : thing} (h : ThOk i t) (g : t.has = true) : featOk t.f = true ∧ t.f.Id = i := by
  rcases h with rfl | h
  · cases g
  · exact h.2
theorem ThOk.no {i : Str} {t : thing} (h : ThOk i t) (g : t.has = false) : t = ⟨false, zeroF⟩ := by
  rcases h with rfl | h
  · rfl
  · rw [h.1] at g; cases g
theorem one_same {o a b : thing} (h : (three o a b).2 = true) : oneOf o a b = ((three o a b).1, []) := by unfold oneOf; rw [if_pos h]
theorem one_else {o a b : thing} (h : (three o a b).2 = false) : oneOf o a b = if a.has = false then (b, [goneS]) else if b.has = false then (a, [goneS]) else if o.has = false then (a, [bothS]) else (⟨true, (joinOf o.f a.f b.f).1⟩, (joinOf o.f a.f b.f).2) := by
  unfold oneOf; rw [if_neg (by rw [h]; decide)]
def FS (l : List Feat) : Prop := l.Pairwise fun x y => Op.bytesLess x.Id y.Id = true
theorem FS.ext {l m : List Feat} (hl : FS l) (hm : FS m) (h : ∀ x, x ∈ l ↔ x ∈ m) : l = m :=
  pw_ext (R := fun x y : Feat => Op.bytesLess x.Id y.Id = true) (fun x e => by rw [less_irr] at e; cases e) (fun x y z h1 h2 => less_trans h1 h2) hl hm h
theorem FS.of_ids {l : List Feat} (h : SS (ids l)) : FS l := List.pairwise_map.1 h
theorem FS.inj {d : List Feat} (h : FS d) {x y : Feat} (hx : x ∈ d) (hy : y ∈ d) (e : x.Id = y.Id) : x = y := by
  obtain ⟨i, hi, rfl⟩ := List.getElem_of_mem hx
  obtain ⟨j, hj, rfl⟩ := List.getElem_of_mem hy
  rcases Nat.lt_trichotomy i j with g | g | g
  · have := List.pairwise_iff_getElem.1 h i j hi hj g
    rw [e, less_irr] at this; cases this
  · subst g; rfl
  · have := List.pairwise_iff_getElem.1 h j i hj hi g
    rw [e, less_irr] at this; cases this
theorem sideOf_of {s : List Feat} (h : FS s) {f : Feat} (hf : f ∈ s) : sideOf s f.Id = (f, true) := by
  have h1 : (sideOf s f.Id).2 = true := sideOf_iff.2 (List.mem_map.2 ⟨f, hf, rfl⟩)
  obtain ⟨h2, h3⟩ := sideOf_hit h1
  have := h.inj h2 hf h3
  exact Prod.ext this h1
theorem now_id {d : List Change} (hd : ∀ c ∈ d, changeOk c = true) {c : Change} (hc : c ∈ d) (h : c.Has = true) : c.Now.Id = c.Id ∧ featOk c.Now = true := by
  have := hd c hc
  unfold changeOk at this
  simp only [Bool.and_eq_true] at this
  have h3 := this.1.2
  unfold sideOk at h3
  rw [h, if_pos rfl] at h3
  simp only [Bool.and_eq_true, decide_eq_true_eq] at h3
  exact ⟨h3.2, h3.1⟩
def Mem (s : List Feat) (d : List Change) (f : Feat) : Prop := (f ∈ s ∧ f.Id ∉ idsC d) ∨ ∃ c ∈ d, c.Has = true ∧ c.Now = f
theorem Mem.step {s : List Feat} {d : List Change} {u : Nat} (hu : u < d.length) (hc : CS d) (hd : ∀ c ∈ d, changeOk c = true) (f : Feat) :
    Mem s (d.take (u + 1)) f ↔ (Mem s (d.take u) f ∧ f.Id ≠ (nth d (u : Int)).Id) ∨ ((nth d (u : Int)).Has = true ∧ f = (nth d (u : Int)).Now) := by
  have e : idsC (d.take (u + 1)) = idsC (d.take u) ++ [(nth d (u : Int)).Id] := by rw [take_nth d hu, idsC_app]; rfl
  have hm : nth d (u : Int) ∈ d := nth_mem d hu
  have hlt : ∀ c ∈ d.take u, Op.bytesLess c.Id (nth d (u : Int)).Id = true := fun c hc' => by
    have h := hc
    rw [← List.take_append_drop u d] at h
    refine (List.pairwise_append.1 h).2.2 c hc' _ ?_
    rw [nth_nat d hu, List.drop_eq_getElem_cons hu]; exact List.mem_cons_self
  unfold Mem
  rw [e, take_nth d hu]
  constructor
  · rintro (⟨h1, h2⟩ | ⟨c, h1, h2, rfl⟩)
    · rw [List.mem_append, List.mem_singleton] at h2
      exact .inl ⟨.inl ⟨h1, fun h => h2 (.inl h)⟩, fun h => h2 (.inr h)⟩
    · rcases List.mem_append.1 h1 with h1 | h1
      · refine .inl ⟨.inr ⟨c, h1, h2, rfl⟩, fun h => ?_⟩
        rw [(now_id hd (List.mem_of_mem_take h1) h2).1] at h
        have := hlt c h1
        rw [h, less_irr] at this; cases this
      · rw [List.mem_singleton] at h1
        subst h1
        exact .inr ⟨h2, rfl⟩
  · rintro (⟨h1 | ⟨c, h1, h2, rfl⟩, h3⟩ | ⟨h1, rfl⟩)
    · refine .inl ⟨h1.1, fun h => ?_⟩
      rcases List.mem_append.1 h with h | h
      · exact h1.2 h
      · exact h3 (List.mem_singleton.1 h)
    · exact .inr ⟨c, List.mem_append_left _ h1, h2, rfl⟩
    · exact .inr ⟨_, List.mem_append_right _ (List.mem_singleton.2 rfl), h1, rfl⟩
theorem Mem.zero (s : List Feat) (d : List Change) (f : Feat) : Mem s (d.take 0) f ↔ f ∈ s := by
  unfold Mem
  simp [idsC]
theorem three_r {α : Type} [DecidableEq α] (o a : α) : three o a o = (a, true) := by
  unfold three
  by_cases h : a = o
  · rw [if_pos h, h]
  · rw [if_neg h, if_pos rfl]
theorem three_l {α : Type} [DecidableEq α] (o b : α) : three o o b = (b, true) := by unfold three; rw [if_pos rfl]
theorem tags_ss {t : List Tag} (h : tagsOk t = true) : SS (keysT t) := by
  have h1 := allN_iff.1 h
  have hadj : ∀ k, 0 < k → k < t.length → Op.bytesLess (nth t ((k : Int) - 1)).Key (nth t (k : Int)).Key = true := fun k h0 hk => by
    have := h1 k hk
    simp only [Bool.and_eq_true, Bool.or_eq_true, decide_eq_true_eq] at this
    rcases this.2 with h | h
    · omega
    · exact h
  unfold SS keysT
  rw [List.pairwise_map]
  refine List.pairwise_iff_getElem.2 fun i j hi hj hij => ?_
  have key : ∀ d, i + d + 1 < t.length → Op.bytesLess t[i].Key (nth t ((i + d + 1 : Nat) : Int)).Key = true := by
    intro d
    induction d with
    | zero =>
      intro hd
      have := hadj (i + 0 + 1) (by omega) hd
      rw [show (((i + 0 + 1 : Nat) : Int) - 1) = (i : Int) by omega, nth_nat t hi] at this
      exact this
    | succ d ih =>
      intro hd
      have := hadj (i + (d + 1) + 1) (by omega) hd
      rw [show (((i + (d + 1) + 1 : Nat) : Int) - 1) = ((i + d + 1 : Nat) : Int) by omega] at this
      exact less_trans (ih (by omega)) this
  have := key (j - i - 1) (by omega)
  rw [show i + (j - i - 1) + 1 = j by omega, nth_nat t hj] at this
  exact this
theorem featOk_tags {f : Feat} (h : featOk f = true) : SS (keysT f.Tags) := by
  unfold featOk at h
  simp only [Bool.and_eq_true] at h
  exact tags_ss h.1.1.1
theorem oneOf_r (o a : thing) : oneOf o a o = (a, []) := by unfold oneOf; rw [three_r, if_pos rfl]
theorem oneOf_l (o b : thing) : oneOf o o b = (b, []) := by unfold oneOf; rw [three_l, if_pos rfl]
theorem ids3_b {o a b : List Feat} : ∀ i ∈ ids b, i ∈ ids3 o a b := fun _ hi => uniq_mem.2 (List.mem_append_right _ hi)
theorem ids3_a {o a b : List Feat} : ∀ i ∈ ids a, i ∈ ids3 o a b := fun _ hi => uniq_mem.2 (List.mem_append_left _ (List.mem_append_right _ hi))
theorem tagsOk_of {t : List Tag} (hs : SS (keysT t)) (hw : ∀ x ∈ t, wordOk x.Key = true ∧ wordOk x.Val = true) : tagsOk t = true := by
  unfold tagsOk
  refine allN_true fun k hk => ?_
  obtain ⟨h1, h2⟩ := hw _ (nth_mem t hk)
  rw [h1, h2, Bool.true_and, Bool.true_and, Bool.or_eq_true, decide_eq_true_eq]
  rcases Nat.eq_zero_or_pos k with h0 | h0
  · exact .inl h0
  refine .inr ?_
  unfold SS keysT at hs
  have := List.pairwise_iff_getElem.1 (List.pairwise_map.1 hs) (k - 1) k (by omega) hk (by omega)
  rw [show ((k : Int) - 1) = ((k - 1 : Nat) : Int) by omega, nth_nat t hk, nth_nat t (by omega)]
  exact this
theorem oneOf_ok {i : Str} {o a b : thing} (ho : ThOk i o) (ha : ThOk i a) (hb : ThOk i b) : ThOk i (oneOf o a b).1 := by
  cases h : (three o a b).2 with
  | true =>
    rw [one_same h]
    rcases three_in o a b with g | g <;> rw [g] <;> assumption
  | false =>
    rw [one_else h]
    split
    · exact hb
    split
    · exact ha
    split
    · exact ha
    rename_i ca cb co
    rw [Bool.not_eq_false] at ca cb co
    obtain ⟨fo, io⟩ := ho.has co; obtain ⟨fa, ia⟩ := ha.has ca; obtain ⟨fb, ib⟩ := hb.has cb
    refine .inr ⟨rfl, ?_⟩
    dsimp only
    unfold joinOf
    split
    · rename_i g; exact ⟨g, ia⟩
    · exact ⟨fa, ia⟩
theorem oneOf_has {o a b : thing} (h : (oneOf o a b).1.has = true) : a.has = true ∨ b.has = true := by
  cases g : (three o a b).2 with
  | true =>
    rw [one_same g] at h
    rcases three_in o a b with e | e <;> rw [e] at h
    · exact .inl h
    · exact .inr h
  | false =>
    rw [one_else g] at h
    split at h
    · exact .inr h
    · rename_i ca; exact .inl (by rwa [Bool.not_eq_false] at ca)
theorem oneAt_ok {o a b : List Feat} (ho : sheetOk o = true) (ha : sheetOk a = true) (hb : sheetOk b = true) (i : Str) : ThOk i (oneAt o a b i).1 :=
  oneOf_ok (thOf_ok ho i) (thOf_ok ha i) (thOf_ok hb i)
theorem joinFs_ids {o a b : List Feat} (ho : sheetOk o = true) (ha : sheetOk a = true) (hb : sheetOk b = true) (l : List Str) :
    ids (joinFs o a b l) = l.filter fun i => (oneAt o a b i).1.has := by
  unfold ids joinFs
  rw [List.map_map]
  refine (List.map_congr_left fun i hi => ?_).trans (List.map_id _)
  exact ((oneAt_ok ho ha hb i).has (List.mem_filter.1 hi).2).2
theorem thOf_join {o a b : List Feat} (ho : sheetOk o = true) (ha : sheetOk a = true) (hb : sheetOk b = true) (i : Str) :
    thOf (joinFs o a b (ids3 o a b)) i = (oneAt o a b i).1 := by
  have e := joinFs_ids ho ha hb (ids3 o a b)
  have hk := oneAt_ok ho ha hb i
  have fs : FS (joinFs o a b (ids3 o a b)) := FS.of_ids (by rw [e]; exact List.Pairwise.filter _ (uniq_ss _))
  cases h : (oneAt o a b i).1.has with
  | true =>
    have hi : i ∈ ids3 o a b := by
      rcases oneOf_has h with g | g
      · exact ids3_a _ (sideOf_iff.1 g)
      · exact ids3_b _ (sideOf_iff.1 g)
    have hm : (oneAt o a b i).1.f ∈ joinFs o a b (ids3 o a b) := List.mem_map.2 ⟨i, List.mem_filter.2 ⟨hi, h⟩, rfl⟩
    have := sideOf_of fs hm
    rw [(hk.has h).2] at this
    unfold thOf
    rw [this, ← h]
  | false =>
    rw [hk.no h]
    refine thOf_no ?_
    cases g : (thOf (joinFs o a b (ids3 o a b)) i).has with
    | false => rfl
    | true =>
      have := sideOf_iff.1 g
      rw [e] at this
      rw [(List.mem_filter.1 this).2] at h; cases h
theorem sheetJoin_of {o a b : List Feat} (h : (sheetJoin o a b).2.2 = true) : sheetOk o = true ∧ sheetOk a = true ∧ sheetOk b = true ∧ sheetOk (joinFs o a b (ids3 o a b)) = true ∧ sheetJoin o a b = (joinFs o a b (ids3 o a b), joinCs o a b (ids3 o a b), true) := by
  unfold sheetJoin at h ⊢
  split at h
  · rename_i g
    simp only [Bool.and_eq_true] at g
    split at h
    · rename_i k; exact ⟨g.1.1, g.1.2, g.2, k, by rw [g.1.1, g.1.2, g.2, k]; rfl⟩
    · cases h
  · cases h
theorem oneOf_both {o a b : thing} (ca : a.has = true) (cb : b.has = true) : (oneOf o a b).1.has = true := by
  cases h : (three o a b).2 with
  | true =>
    rw [one_same h]
    rcases three_in o a b with g | g <;> rw [g] <;> assumption
  | false =>
    rw [one_else h, if_neg (by rw [ca]; decide), if_neg (by rw [cb]; decide)]
    split
    · exact ca
    · rfl
def getOf (s : List Feat) (id : Str) : Feat × Bool := if sheetOk s then sideOf s id else (zeroF, false)
theorem getOf_ok {s : List Feat} (h : sheetOk s = true) (id : Str) : getOf s id = sideOf s id := by unfold getOf; rw [if_pos h]
theorem getOf_th {s : List Feat} (h : sheetOk s = true) (id : Str) : getOf s id = ((thOf s id).f, (thOf s id).has) := by rw [getOf_ok h]; rfl
theorem F20.law (a b : List Tag) (Q : Bool → Prop) (hb : a.length ≤ 1048576) (hq : Q (decide (a = b))) : F20.E a b Q := by
 unfold F20.E
 exact eqI_shape eqTag eqTag_is a b Q hb hq
theorem F29.law (a b : List Pt) (Q : Bool → Prop) (hb : a.length ≤ 1048576) (hq : Q (decide (a = b))) : F29.E a b Q := by
 unfold F29.E
 exact eqI_shape eqPt eqPt_is a b Q hb hq
theorem F38.law (a b : Shape) (Q : Bool → Prop) (hl : a.Pts.length ≤ 1048576) (hq : Q (decide (a = b))) : F38.E a b Q := by
 unfold F38.E
 by_cases h : a.Kind = b.Kind
 ·rw [if_pos (by rw [beq_iff_eq]; exact h)]
  refine F29.law _ _ _ (by omega) ?_
  have : decide (a.Pts = b.Pts) = decide (a = b) := decide_eq_decide.2 (by rw [Shape.ext_iff']; exact ⟨fun e => ⟨h, e⟩, fun e => e.2⟩)
  rw [this]; exact hq
 ·rw [if_neg (by rw [beq_iff_eq]; exact h)]
  rw [decide_eq_false (by rw [Shape.ext_iff']; exact fun e => h e.1)] at hq; exact hq
theorem F55.law (a b : Feat) (Q : Bool → Prop) (hl : a.Shape.Pts.length ≤ 1048576 ∧ a.Tags.length ≤ 1048576) (hq : Q (decide (a = b))) : F55.E a b Q := by
 unfold F55.E
 by_cases h : a.Id = b.Id
 ·rw [if_pos (by rw [beq_iff_eq]; exact h)]
  refine F38.law _ _ _ (by omega) ?_
  by_cases h2 : a.Shape = b.Shape
  ·rw [decide_eq_true h2, if_pos rfl]
   refine F20.law _ _ _ (by omega) ?_
   have : decide (a.Tags = b.Tags) = decide (a = b) := decide_eq_decide.2 (by rw [Feat.ext_iff']; exact ⟨fun e => ⟨h, h2, e⟩, fun e => e.2.2⟩)
   rw [this]; exact hq
  ·rw [decide_eq_false h2, if_neg (by decide)]
   rw [decide_eq_false (by rw [Feat.ext_iff']; exact fun e => h2 e.2.1)] at hq; exact hq
 ·rw [if_neg (by rw [beq_iff_eq]; exact h)]
  rw [decide_eq_false (by rw [Feat.ext_iff']; exact fun e => h e.1)] at hq; exact hq
theorem thc_same {i : Str} {x y : thing} (hx : ThOk i x) {Q : Bool → Prop} (hq : Q (decide (x = y))) : (if (x.has == y.has) = true then F55.E x.f y.f (fun r => Q r) else Q false) := by
  by_cases h : x.has = y.has
  · rw [if_pos (by rw [h]; simp)]
    refine F55.law _ _ _ hx.small.2 ?_
    rw [show decide (x.f = y.f) = decide (x = y) from decide_eq_decide.2 ((thing.ext_iff' x y).trans (and_iff_right h)).symm]; exact hq
  · rw [if_neg (by simpa using h)]
    rw [decide_eq_false fun e => h (by rw [e])] at hq; exact hq
theorem thc_eq {i : Str} {x y : thing} (hx : ThOk i x) (e : x = y) {F P : Prop} (hp : P) : (if (x.has != y.has) = true then F else F55.E x.f y.f (fun r => (if (!r) = true then F else P))) := by
  rw [if_neg (by rw [e]; simp)]
  refine F55.law _ _ _ hx.small.2 ?_
  rw [decide_eq_true (by rw [e]), if_neg (by decide)]; exact hp
theorem F62.law (code : List UInt8) (Q : List UInt8 → Int → Prop) (hq : ∀ b, b.length ≤ 2000 → Q b 0) : F62.E code Q := by
 unfold F62.E
 by_cases h : (code.length : Int) > 2000
 ·rw [if_pos (by simpa using h)]
  exact ⟨by omega, hq _ (by rw [List.length_take]; omega)⟩
 ·rw [if_neg (by simpa using h)]
  exact hq _ (by omega)
theorem ediv_le {p l : Int} (hp : 0 ≤ p) (hl : 0 < l) : 0 ≤ p / l ∧ p / l ≤ p := ⟨Int.ediv_nonneg hp (by omega), Int.ediv_le_self _ hp⟩
theorem F26.law (b : List UInt8) (p n : Int) (Q : Int → Int → Prop) (hb : b.length ≤ 2000) (hp : 0 ≤ p) (hp1 : p ≤ 1099511627776) (hq : ∀ v, 0 ≤ v → (v < n ∨ v = 0) → Q v (p + 1)) : F26.E b p n Q := by
 unfold F26.E
 refine ⟨by unfold I64; omega, ?_⟩
 by_cases hn : n < 1
 ·rw [if_pos (by simpa using hn)]; exact hq 0 (by omega) (.inr rfl)
 rw [if_neg (by simpa using hn)]
 by_cases hl : (b.length : Int) = 0
 ·rw [if_pos (by simpa using hl)]; exact hq 0 (by omega) (.inr rfl)
 rw [if_neg (by simpa using hl)]
 refine ⟨fun _ => by unfold I64; omega, ?_⟩
 rw [show p + 1 - 1 = p by omega]
 have fin : ∀ z : Int, 0 ≤ z → Q (z % n) (p + 1) := fun z hz => hq _ (Int.emod_nonneg _ (by omega)) (.inl (Int.emod_lt_of_pos _ (by omega)))
 by_cases hc : p < (b.length : Int)
 ·rw [if_pos (by simpa using hc)]
  exact ⟨by omega, ⟨by omega, by omega⟩, fin _ (by omega)⟩
 rw [if_neg (by simpa using hc)]
 have hlen : (0 : Int) < (b.length : Int) := by omega
 generalize hL : (b.length : Int) = L at *
 have m1 := Int.emod_nonneg p (show L ≠ 0 by omega)
 have m2 := Int.emod_lt_of_pos p hlen
 have m3 := Int.emod_nonneg (p * 7 + 3) (show L ≠ 0 by omega)
 have m4 := Int.emod_lt_of_pos (p * 7 + 3) hlen
 obtain ⟨d1, d2⟩ := ediv_le hp hlen
 generalize p % L = r1 at *
 generalize (p * 7 + 3) % L = r2 at *
 generalize p / L = q at *
 have u1 := (nth b r1).toNat_lt
 have u2 := (nth b r2).toNat_lt
 generalize (nth b r1).toNat = x1 at *
 generalize (nth b r2).toNat = x2 at *
 have s0 : 0 ≤ (x1 : Int) * 131 + (x2 : Int) * 1117 + p * 29 + q * 53 := by omega
 have s1 : (x1 : Int) * 131 + (x2 : Int) * 1117 + p * 29 + q * 53 ≤ 9223372036854775807 := by omega
 refine ⟨by omega, by omega, fun _ => by unfold I64; omega, fun _ => by unfold I64; omega, fun _ => by unfold I64; omega, by omega, by omega, fun _ => by unfold I64; omega, fun _ => by unfold I64; omega, fun _ => by unfold I64; omega, fun _ => by unfold I64; omega, by omega, fun _ => by unfold I64; omega, fun _ => by unfold I64; omega, by omega, ?_⟩
 generalize (x1 : Int) * 131 + (x2 : Int) * 1117 + p * 29 + q * 53 = s at *
 have hx : 0 ≤ xor64 s (s / 64) := xor64_nonneg ⟨s0, s1⟩ (by omega)
 exact ⟨by omega, fin _ hx⟩
theorem F35.law (b : List UInt8) (p : Int) (l : List Int) (Q : Int → Int → Prop) (hb : b.length ≤ 2000) (hp : 0 ≤ p) (hp1 : p ≤ 1099511627776) (hl : 0 < l.length) (hq : ∀ s ∈ l, Q s (p + 1)) : F35.E b p l Q := by
 unfold F35.E
 exact F26.law _ _ _ _ hb hp hp1 fun v h0 h1 => ⟨by omega, hq _ (nth_memi l h0 (by omega))⟩
theorem F125.law (b : List UInt8) (p : Int) (Q : Pt → Int → Prop) (hb : b.length ≤ 2000) (hp : 0 ≤ p) (hp1 : p ≤ 1000000000) (hq : ∀ x y, 0 ≤ x → x ≤ 3 → 0 ≤ y → y ≤ 5 → Q ⟨x, y⟩ (p + 2)) : F125.E b p Q := by
 unfold F125.E
 refine F26.law _ _ _ _ hb hp (by omega) fun v h0 h1 => F35.law _ _ _ _ hb (by omega) (by omega) (by decide) fun y hy => ?_
 rw [show p + 1 + 1 = p + 2 by omega]
 simp only [List.mem_cons, List.not_mem_nil, or_false] at hy
 exact hq _ _ h0 (by omega) (by omega) (by omega)
theorem F109.m_is (a b : Int) : F109.m a b = min a b := by
 unfold F109.m
 by_cases h : a < b
 ·simp [h]; omega
 ·simp [h]; omega
theorem F110.m_is (n : Int) : F110.m n = inR n := by
 unfold F110.m inR
 by_cases h : -1000 ≤ n
 ·rw [if_pos (by rw [decide_eq_true_eq]; omega), decide_eq_true h, Bool.true_and]
 ·rw [if_neg (by rw [decide_eq_true_eq]; omega), decide_eq_false h, Bool.false_and]
theorem F111.law (p : List Pt) (Q : Bool → Prop) (hq : Q (ptsOk p && decide (p.length ≤ 6))) : F111.E p Q := by
 unfold F111.E
 unfold ptsOk at hq
 refine loop_all p.length (fun k => ptOk (nth p (k : Int)) && (decide (k = 0) || !(decide (nth p ((k : Int) - 1) = nth p (k : Int))))) (fun I mu k hk hp hn => ?_) (fun ha => ?_)
 ·refine ⟨by omega, ?_⟩
  rw [F110.m_is, F110.m_is]
  have bad : (ptOk (nth p (k : Int)) && (decide (k = 0) || !(decide (nth p ((k : Int) - 1) = nth p (k : Int))))) = false → Q false := fun h => by
   rw [allN_false hk h, Bool.false_and] at hq; exact hq
  cases h1 : inR (nth p (k : Int)).X with
  | false => rw [if_pos (by decide)]; exact bad (by simp only [ptOk, h1, Bool.false_and])
  | true =>
   rw [if_neg (by decide)]
   refine ⟨by omega, ?_⟩
   cases h2 : inR (nth p (k : Int)).Y with
   | false => rw [if_pos (by decide)]; exact bad (by simp only [ptOk, h2, Bool.and_false, Bool.false_and])
   | true =>
    rw [if_neg (by decide)]
    have hpt : ptOk (nth p (k : Int)) = true := by simp only [ptOk, h1, h2, Bool.and_self]
    by_cases hk0 : k = 0
    ·rw [if_neg (by rw [decide_eq_true_eq]; omega)]
     obtain ⟨i1, i2⟩ := hn (by rw [hpt, decide_eq_true hk0]; rfl)
     exact ⟨by omega, i1, i2⟩
    ·rw [if_pos (by rw [decide_eq_true_eq]; omega)]
     refine ⟨by omega, fun _ => by unfold I64; omega, by omega, ?_⟩
     rw [eqPt_is]
     by_cases he : nth p ((k : Int) - 1) = nth p (k : Int)
     ·rw [if_pos (by rw [decide_eq_true_eq]; exact he.symm)]
      exact bad (by rw [hpt, decide_eq_false hk0, decide_eq_true he]; rfl)
     ·rw [if_neg (by rw [decide_eq_true_eq]; exact fun e => he e.symm)]
      obtain ⟨i1, i2⟩ := hn (by rw [hpt, decide_eq_false hk0, decide_eq_false he]; rfl)
      exact ⟨by omega, i1, i2⟩
 ·rw [allN_true ha, Bool.true_and] at hq
  have e2 : decide ((p.length : Int) ≤ 6) = decide (p.length ≤ 6) := decide_eq_decide.2 (by omega)
  rw [e2]; exact hq
theorem F63.law (s : Shape) (Q : Bool → Prop) (hq : Q (shapeOk s)) : F63.E s Q := by
 unfold F63.E
 unfold shapeOk at hq
 refine F111.law _ _ ?_
 cases h1 : ptsOk s.Pts with
 | false => rw [h1, Bool.false_and] at hq; rw [Bool.false_and, if_pos (by decide)]; exact hq
 | true =>
  rw [h1, Bool.true_and] at hq
  rw [Bool.true_and]
  unfold kindOk at hq
  by_cases h6 : s.Pts.length ≤ 6
  ·rw [decide_eq_true h6, if_neg (by decide)]
   by_cases k1 : s.Kind = 1
   ·rw [if_pos k1] at hq
    rw [if_pos (by rw [beq_iff_eq]; exact k1)]
    have : ((s.Pts.length : Int) == 1) = decide (s.Pts.length = 1) := by rw [Bool.eq_iff_iff, beq_iff_eq, decide_eq_true_eq]; omega
    rw [this]; exact hq
   rw [if_neg k1] at hq
   rw [if_neg (by rw [beq_iff_eq]; exact k1)]
   by_cases k2 : s.Kind = 2
   ·rw [if_pos k2, decide_eq_true h6, Bool.and_true] at hq
    rw [if_pos (by rw [beq_iff_eq]; exact k2)]
    have : decide ((s.Pts.length : Int) ≥ 2) = decide (2 ≤ s.Pts.length) := decide_eq_decide.2 (by omega)
    rw [this]; exact hq
   rw [if_neg k2] at hq
   rw [if_neg (by rw [beq_iff_eq]; exact k2)]
   by_cases k3 : s.Kind = 3
   ·rw [if_pos k3, decide_eq_true h6, Bool.and_true] at hq
    rw [if_pos (by rw [beq_iff_eq]; exact k3)]
    by_cases h3 : 3 ≤ s.Pts.length
    ·rw [decide_eq_true h3, Bool.true_and] at hq
     rw [if_pos (by rw [decide_eq_true_eq]; omega), eqPt_is]
     exact ⟨by omega, fun _ => by unfold I64; omega, by omega, hq⟩
    ·rw [decide_eq_false h3, Bool.false_and] at hq
     rw [if_neg (by rw [decide_eq_true_eq]; omega)]; exact hq
   ·rw [if_neg k3] at hq
    rw [if_neg (by rw [beq_iff_eq]; exact k3)]; exact hq
  ·rw [decide_eq_false h6, if_pos (by decide)]
   have : (if s.Kind = 1 then decide (s.Pts.length = 1) else if s.Kind = 2 then decide (2 ≤ s.Pts.length) && decide (s.Pts.length ≤ 6)
 else if s.Kind = 3 then decide (3 ≤ s.Pts.length) && decide (s.Pts.length ≤ 6) && !(decide (nth s.Pts 0 = nth s.Pts ((s.Pts.length : Int) - 1))) else false) = false := by
    rw [decide_eq_false h6, decide_eq_false (show ¬ s.Pts.length = 1 by omega)]
    simp
   rw [this] at hq; exact hq
end Go.Proofs.YtpdmnmpcjljeaaaGreat