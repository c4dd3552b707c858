/- It is proved here that the law FnDiffThen of the given program holds whatever it is handed: the walks through the code, the plain laws and the row, in this order.
   Conditions: none. -/
import Derived.Below
import Derived.ChangeArms
import Derived.ChangeOld
import Derived.ChangeSlices
import Derived.ChangeVars
import Derived.DataReads
import Derived.Deep.MidRow
import Derived.Deep.Quiet
import Derived.Deep.RegionLaw
import Derived.Deep.Upon
import Derived.KernelRfl
import Derived.LaidHandle
import Derived.LaidLaws
import Derived.LaidMore
import Derived.Laws.Build
import Derived.Laws.IdiomStrings
import Derived.Laws.OwnMore
import Derived.Laws.Slices
import Derived.Laws.Strings2
import Derived.Laws.StructEq
import Derived.Lib.ItoaNum
import Derived.Lib.LaidTab
import Derived.Lib.SliceRun
import Derived.MakeChecks
import Derived.OpenShut
import Derived.OpenVars
import Derived.ProofKit
import Derived.SevenTiedAt
import Derived.Shelf.LaysM
import Derived.Shelf.SlSortCmp.NoneTotal
import Derived.Shelf.SlSortCmp.WholeK
import Derived.Shelf.Slices.Cells
import Derived.Shelf.Slices.CompactS
import Derived.Shelf.Slices.In.SortNone
import Derived.Shelf.Small.Bits
import Derived.Shelf.Sort.Plain
import Derived.Shelf.Strconv.Itoa0
import Derived.Shelf.Strconv.Itoa1
import Derived.Shelf.Strconv.Itoa2
import Derived.Shelf.Strconv.Itoa3
import Derived.ShutString
import Derived.SizedLaws
import Derived.StillTail
import Derived.Stop.Joined
import Derived.Test.YtlaaehjcooonfaaGreatDoorCards
import Derived.Test.YtlaaehjcooonfaaGreatDoorProg
import Derived.Test.YtlaaehjcooonfaaGreatDoorRows
import Derived.Test.YtlaaehjcooonfaaGreatDoorTie
import Derived.WalkKit
import Derived.Test.YtlaaehjcooonfaaGreatDoorCDiffThena
import Derived.Test.YtlaaehjcooonfaaGreatDoorCDiffThenb
import Derived.Test.YtlaaehjcooonfaaGreatDoorCDiffThenc
namespace Go.Proofs.YtlaaehjcooonfaaGreatDoor
set_option linter.unusedVariables false
set_option linter.unusedSimpArgs false
set_option linter.unusedSectionVars false
set_option maxHeartbeats 8000000
set_option maxRecDepth 100000
open Go.RowKit
variable {O : Ob} {w0 : World}
def F49.E (d : List Change) (Q : Str → Prop) : Prop :=
 F100.E d (fun r => (if !r then Q [] else (∃ (I28 : Str → Int → Prop) (mu29 : Str → Int → Nat), I28 [] 0 ∧ ∀ (out2 : Str) (v2 : Int), I28 out2 v2 → (if decide (v2 < (d.length : Int)) then ((0 : Int) ≤ v2 ∧ v2 < (d.length : Int)) ∧ (((nth d v2).Id).length + ([58, 32] : Str).length ≤ 9223372036854775807) ∧ F26.E ((nth d v2).Had) ((nth d v2).Was) (fun r2 => ((((nth d v2).Id) ++ ([58, 32] : Str)).length + r2.length ≤ 9223372036854775807) ∧ (((((nth d v2).Id) ++ ([58, 32] : Str)) ++ r2).length + ([32, 62, 32] : Str).length ≤ 9223372036854775807) ∧ F26.E ((nth d v2).Has) ((nth d v2).Now) (fun r3 => ((((((nth d v2).Id) ++ ([58, 32] : Str)) ++ r2) ++ ([32, 62, 32] : Str)).length + r3.length ≤ 9223372036854775807) ∧ (((((((nth d v2).Id) ++ ([58, 32] : Str)) ++ r2) ++ ([32, 62, 32] : Str)) ++ r3).length + ([10] : Str).length ≤ 9223372036854775807) ∧ (out2.length + (((((((nth d v2).Id) ++ ([58, 32] : Str)) ++ r2) ++ ([32, 62, 32] : Str)) ++ r3) ++ ([10] : Str)).length ≤ 9223372036854775807) ∧ (I64 (v2 + 1)) ∧ I28 (out2 ++ (((((((nth d v2).Id) ++ ([58, 32] : Str)) ++ r2) ++ ([32, 62, 32] : Str)) ++ r3) ++ ([10] : Str))) (v2 + 1) ∧ mu29 (out2 ++ (((((((nth d v2).Id) ++ ([58, 32] : Str)) ++ r2) ++ ([32, 62, 32] : Str)) ++ r3) ++ ([10] : Str))) (v2 + 1) < mu29 out2 v2)) else Q out2))))
theorem F49.calls {d : List Change} {A1 : Option Addr} {n2 c3 : Nat} {Q : Str → Prop} (H : F49.E d Q) (hO : Ok w0 O) (hG : Glob w0 O) (hp4 : Sl kChange w0 (Fr O) (G A1 n2 c3) d) :
  Ret Tryz.prog 12 [G A1 n2 c3] w0 (fun v w' => ∃ (r0 : Str), v = vs r0 ∧ Q r0 ∧ Gr w0 w' none ∧ Lim r0) := by
 unfold F49.E at H;have hc0 := Ct.init hO;refine Yb Tryz.func12 Z 39 Z [.tmp 2] Z Z ?_;refine Xc (Xe (Xf (vs []) Z (Xb (Xc (Xc (Xe (Xd (G A1 n2 c3) Z ?_)))))));refine Xs go17 (F100.calls H hc0.ok hp4) Z ?_;rintro _ w6 ⟨r, rfl, H, g7⟩;have ao := hc0.k0 g7;refine Xa (X8 r Z) (Xb ?_);refine Xu (!r) Z (fun az => ?_) (fun az => ?_)
 ·have H := Xl H az;exact Xc (Xe (Xf (vs []) Z (Xb (Xn ⟨[vs []], ⟨_, Z, Z⟩, ([] : Str), Z, H, ao.gr.g0, (by decide : Lim ([] : Str))⟩))))
 have H := Xm H az;refine Xw (Xc (Xe (Xf (.func (.func 42) #[] #[]) Z (Xb (Xc (Xe (Xf (vs []) Z (Xb ?_))))))));refine Xc (Xc (Xe (Xd (G A1 n2 c3) Z ?_)));have ch := (hp4.st ao.st).le;refine Xa (X9 u23_ A1 n2 c3 (hp4.st ao.st).len Z) (Xd (vi 0) Z (Xb (X6 ?_)));obtain ⟨bi, bj, a0, H⟩ := H;refine Yj (α := Str × Int) (fun (out2, v2) t a1 => bi out2 v2 ∧ Has t [(3, .func (.func 42) #[] #[]), (4, vs out2), (10, G A1 n2 c3), (11, vi (d.length : Int)), (12, vi v2)] ∧ Ct [] w0 a1 [] O ∧ Lim out2 ∧ Sl kChange a1 (Fr ([] ++ O)) (G A1 n2 c3) d) (fun (out2, v2) => bj out2 v2) (([] : Str), 0) ⟨a0, (Xx Z), ao, (by decide : Lim ([] : Str)), (hp4.st ao.st)⟩ ?_;rintro ⟨out2, v2⟩ _ a1 ⟨a0, bl, a2, bm, a3⟩;obtain ⟨ci, rfl⟩ := Has.ins bl;have H := H out2 v2 a0;refine Xc (Xe (Xa (X0 v2 (d.length : Int) (decide (v2 < (d.length : Int))) Z Z Z) (Xb (Xc ?_))));refine Xu (decide (v2 < (d.length : Int))) Z (fun a4 => ?_) (fun a4 => ?_)
 ·have H := Xl H a4;refine Xw (Xc (X6 (Xc (Xe ?_))));obtain ⟨a9, H⟩ := H;obtain ⟨ba, cj, bn, ck, bo, bp⟩ := a3.get default RD v2 a9;obtain ⟨ac, ad, ae, af, ag, ah, ai, aj, ak, al, am, an, rfl, cl, bq, br, bs, bt, bu, bv⟩ := kChange.op bo;refine Xa (X3 u23_ Yi A1 ba n2 c3 a3.len v2 Z bn Z a9) (Xa (Xv ag62 sz62 cL (ba.add (v2.toNat * 11)) [vs ((nth d v2).Id), vb ((nth d v2).Had), vs ((nth d v2).Was.Id), vi ((nth d v2).Was.Shape.Kind), G ac ad ae, G af ag ah, vb ((nth d v2).Has), vs ((nth d v2).Now.Id), vi ((nth d v2).Now.Shape.Kind), G ai aj ak, G al am an] Z Z bp) (Yo [vs [], vb false, vs [], .int .i64 0, G none 0 0, G none 0 0, vb false, vs [], .int .i64 0, G none 0 0, G none 0 0] ze62 fun cm aa bb hu69 bc bw => ?_));have bd := a2.own bc (some aa) (Ym bb hu69);refine Yf [vs ((nth d v2).Id), vb ((nth d v2).Had), vs ((nth d v2).Was.Id), vi ((nth d v2).Was.Shape.Kind), G ac ad ae, G af ag ah, vb ((nth d v2).Has), vs ((nth d v2).Now.Id), vi ((nth d v2).Now.Shape.Kind), G ai aj ak, G al am an] bw Z Z sz62 Z Z fun cn be bx => ?_;have bf := bd.wr 0 Z be;refine Xb (Za 22 [] RK Z fun bz a5 ab => ?_);have aw := bf.k0 a5;refine Xt 0 Z RK ab (Yl (vs out2) Z) ?_;refine Xt 1 Z RK ab (Xj fa62_0 (Ad aa 0) (Ad aa 0) Z Z) ?_;have ap := (bx.k0 a5);refine Xt 2 Z RK ab (Y5 ag9 cR (Ad aa 0) (vs ((nth d v2).Id)) Z (ap.cell Z) nm_nil) ?_;obtain ⟨b0, H⟩ := H;refine Xt 3 Z RK ab (Yv ((nth d v2).Id) ([58, 32] : Str) Z Z b0) ?_;refine Xt 4 Z RK ab (Yl (.func (.func 42) #[] #[]) Z) ?_;refine Xt 5 Z RK ab (Xj fa62_1 (Ad aa 0) (Ad aa 1) Z Z) ?_;refine Xt 6 Z RK ab (Y5 ag4 cR (Ad aa 1) (vb ((nth d v2).Had)) Z (ap.cell Z) nm_nil) ?_;refine Xt 7 Z RK ab (Xj fa62_2 (Ad aa 0) (Ad aa 2) Z Z) ?_;refine Xt 8 Z RK ab (Zc ag44 sz44 cR (Ad aa 2) [vs ((nth d v2).Was.Id), vi ((nth d v2).Was.Shape.Kind), G ac ad ae, G af ag ah] Z Z (ap.cells (off := 2) Z) nm_nil) ?_;refine Xt 12 Z RK ab (Yl (.func (.func 42) #[] #[]) Z) ?_;refine Xt 13 Z RK ab (Xj fa62_3 (Ad aa 0) (Ad aa 6) Z Z) ?_;refine Xt 14 Z RK ab (Y5 ag4 cR (Ad aa 6) (vb ((nth d v2).Has)) Z (ap.cell Z) nm_nil) ?_;refine Xt 15 Z RK ab (Xj fa62_4 (Ad aa 0) (Ad aa 7) Z Z) ?_;refine Xt 16 Z RK ab (Zc ag44 sz44 cR (Ad aa 7) [vs ((nth d v2).Now.Id), vi ((nth d v2).Now.Shape.Kind), G ai aj ak, G al am an] Z Z (ap.cells (off := 7) Z) nm_nil) ?_;refine X1 9 RK Z ?_;have aq := a2.stown _ bc (Xz bb);have ar := bd.stw 0 Z be;have au := bf.stn a5;have b1 := (((br.st aq).st ar).st au);have b2 := (((bs.st aq).st ar).st au);refine Zs go42 [] Z [vb ((nth d v2).Had), .agg #[vs ((nth d v2).Was.Id), vi ((nth d v2).Was.Shape.Kind), G ac ad ae, G af ag ah]] Z ((F26.calls H aw.ok (hG.st aw.st) bq b1 b2).mono ?_);rintro _ b3 ⟨r2, rfl, H, a6, co⟩;have ax := aw.k0 a6;have ay := Gm.tm ab a6;refine Xb ⟨ay, ?_⟩;obtain ⟨b4, H⟩ := H;refine Xt 10 Z RK ay (Yv (((nth d v2).Id) ++ ([58, 32] : Str)) r2 Z Z b4) ?_;obtain ⟨b5, H⟩ := H;refine Xt 11 Z RK ay (Yv ((((nth d v2).Id) ++ ([58, 32] : Str)) ++ r2) ([32, 62, 32] : Str) Z Z b5) ?_;refine X1 17 RK Z ?_;have a7 := aw.stn a6;have b6 := ((((bu.st aq).st ar).st au).st a7);have b7 := ((((bv.st aq).st ar).st au).st a7);refine Zs go42 [] Z [vb ((nth d v2).Has), .agg #[vs ((nth d v2).Now.Id), vi ((nth d v2).Now.Shape.Kind), G ai aj ak, G al am an]] Z ((F26.calls H ax.ok (hG.st ax.st) bt b6 b7).mono ?_);rintro _ cp ⟨r3, rfl, H, a8, cq⟩;have bg := ax.k0 a8;have av := Gm.tm ay a8;refine Xb ⟨av, ?_⟩;obtain ⟨b8, H⟩ := H;refine Xt 18 Z RK av (Yv (((((nth d v2).Id) ++ ([58, 32] : Str)) ++ r2) ++ ([32, 62, 32] : Str)) r3 Z Z b8) ?_;obtain ⟨b9, H⟩ := H;refine Xt 19 Z RK av (Yv ((((((nth d v2).Id) ++ ([58, 32] : Str)) ++ r2) ++ ([32, 62, 32] : Str)) ++ r3) ([10] : Str) Z Z b9) ?_;obtain ⟨bh, H⟩ := H;refine Xt 20 Z RK av (Yv out2 (((((((nth d v2).Id) ++ ([58, 32] : Str)) ++ r2) ++ ([32, 62, 32] : Str)) ++ r3) ++ ([10] : Str)) Z Z bh) ?_;refine Xt 21 Z RK av (Zb (vs (out2 ++ (((((((nth d v2).Id) ++ ([58, 32] : Str)) ++ r2) ++ ([32, 62, 32] : Str)) ++ r3) ++ ([10] : Str)))) Z) ?_;refine Yn RK ?_;refine Xe ?_;obtain ⟨ca, H⟩ := H;refine Xa (Ya v2 1 Z Z ca) (Xd (vi (v2 + 1)) Z (Xb ?_));have cb := bg.drop 0 Z;obtain ⟨cc, cd⟩ := H;have ce := ax.stn a8;have cf := bg.std 0 Z;have cg := ((((((a3.st aq).st ar).st au).st a7).st ce).st cf);exact ⟨((out2 ++ (((((((nth d v2).Id) ++ ([58, 32] : Str)) ++ r2) ++ ([32, 62, 32] : Str)) ++ r3) ++ ([10] : Str))), v2 + 1), cd, cc, (Xx Z), cb, (lim_cat bh), cg⟩
 have H := Xm H a4;refine Yh (xin_hit ?_);exact Xc (Xe (Xd (vs out2) Z (Xf (vs out2) Z (Xb (Xn ⟨[vs out2], ⟨_, Z, Z⟩, out2, Z, H, a2.gr.g0, bm⟩)))))
def F103.E (kind : Int) (Q : Str → Prop) : Prop :=
 ((0 : Int) ≤ kind ∧ kind < (([([] : Str), ([100, 111, 116] : Str), ([108, 105, 110, 101] : Str), ([114, 105, 110, 103] : Str)] : List Str).length : Int)) ∧ Q (nth ([([] : Str), ([100, 111, 116] : Str), ([108, 105, 110, 101] : Str), ([114, 105, 110, 103] : Str)] : List Str) kind)
theorem F103.calls {kind : Int} {Q : Str → Prop} (H : F103.E kind Q) (hO : Ok w0 O) :
  Ret Tryz.prog 164 [vi kind] w0 (fun v w' => ∃ (r0 : Str), v = vs r0 ∧ Q r0 ∧ Gr w0 w' none ∧ Lim r0) := by
 unfold F103.E at H;have hc0 := Ct.init hO;refine Yb Tryz.func164 Z 7 Z [.tmp 2] Z Z ?_;refine Xc (Xe (Xf (vs []) Z (Xb (Xc (Xe (X5 (kd := Kd.str) Zd hc0 ([([] : Str), ([100, 111, 116] : Str), ([108, 105, 110, 101] : Str), ([114, 105, 110, 103] : Str)] : List Str) (cells := [vs [], vs ([100, 111, 116] : Str), vs ([108, 105, 110, 101] : Str), vs ([114, 105, 110, 103] : Str)]) ⟨[vs []], _, Z, ⟨Z, (by decide : Lim ([] : Str))⟩, ⟨[vs ([100, 111, 116] : Str)], _, Z, ⟨Z, (by decide : Lim ([100, 111, 116] : Str))⟩, ⟨[vs ([108, 105, 110, 101] : Str)], _, Z, ⟨Z, (by decide : Lim ([108, 105, 110, 101] : Str))⟩, ⟨[vs ([114, 105, 110, 103] : Str)], _, Z, ⟨Z, (by decide : Lim ([114, 105, 110, 103] : Str))⟩, Z⟩⟩⟩⟩ RF fun w1 A2 n3 c4 g5 hr6 hc7 h8 => ?_))))));refine Xd (vi kind) Z ?_;obtain ⟨aa, H⟩ := H;obtain ⟨ab, ah, ac, ad, ae⟩ := h8.get default RD kind aa;obtain ⟨rfl, af⟩ := Kd.str.op ad;refine Xa (X3 u50_ Zk A2 ab n3 c4 h8.len kind Z ac Z aa) (Xa (Xo ag9 cL (ab.add (kind.toNat * 1)) (vs (nth ([([] : Str), ([100, 111, 116] : Str), ([108, 105, 110, 101] : Str), ([114, 105, 110, 103] : Str)] : List Str) kind)) Z (ae 0 _ Z)) (Xf (vs (nth ([([] : Str), ([100, 111, 116] : Str), ([108, 105, 110, 101] : Str), ([114, 105, 110, 103] : Str)] : List Str) kind)) Z (Xb (Xn ?_))));have ag := hc7.drop 0 Z;exact ⟨[vs (nth ([([] : Str), ([100, 111, 116] : Str), ([108, 105, 110, 101] : Str), ([114, 105, 110, 103] : Str)] : List Str) kind)], ⟨_, Z, Z⟩, (nth ([([] : Str), ([100, 111, 116] : Str), ([108, 105, 110, 101] : Str), ([114, 105, 110, 103] : Str)] : List Str) kind), Z, H, ag.gr.g0, af⟩
def F104.Er (R : Int → (Str → Prop) → Prop) (n : Int) (Q : Str → Prop) : Prop :=
 (if decide (n < (-9223372036854775807)) then Q ([45, 57, 50, 50, 51, 51, 55, 50, 48, 51, 54, 56, 53, 52, 55, 55, 53, 56, 48, 56] : Str) else (if decide (n < 0) then (I64 (-n)) ∧ R (-n) (fun r => (([45] : Str).length + r.length ≤ 9223372036854775807) ∧ Q (([45] : Str) ++ r)) else (∃ (I20 : Int → Str → Prop) (mu21 : Int → Str → Nat), I20 n ([] : Str) ∧ ∀ (n3 : Int) (out2 : Str), I20 n3 out2 → (if decide (n3 > 9) then ((0 : Int) ≤ n3 ∧ (0 : Int) < 10) ∧ (I64 (48 + (n3 % 10))) ∧ ((0 : Int) ≤ 48 + (n3 % 10) ∧ 48 + (n3 % 10) ≤ (255 : Int)) ∧ (([(UInt8.ofNat (48 + (n3 % 10)).toNat)] : List UInt8).length + out2.length ≤ 9223372036854775807) ∧ (((0 : Int) ≤ n3 ∧ n3 ≤ (9223372036854775807 : Int)) ∧ (0 : Int) < 10) ∧ I20 (n3 / 10) (([(UInt8.ofNat (48 + (n3 % 10)).toNat)] : List UInt8) ++ out2) ∧ mu21 (n3 / 10) (([(UInt8.ofNat (48 + (n3 % 10)).toNat)] : List UInt8) ++ out2) < mu21 n3 out2 else (I64 (48 + n3)) ∧ ((0 : Int) ≤ 48 + n3 ∧ 48 + n3 ≤ (255 : Int)) ∧ (([(UInt8.ofNat (48 + n3).toNat)] : List UInt8).length + out2.length ≤ 9223372036854775807) ∧ Q (([(UInt8.ofNat (48 + n3).toNat)] : List UInt8) ++ out2)))))
theorem F104.callsr (R : Int → (Str → Prop) → Prop) (hR : ∀ {O : Ob} (w0 : World) (hO : Ok w0 O) (n : Int) (Q : Str → Prop) (h : R n Q), Ret Tryz.prog 165 [vi n] w0 (fun v w' => ∃ (r0 : Str), v = vs r0 ∧ Q r0 ∧ Gr w0 w' none ∧ Lim r0)) {O : Ob} (w0 : World) (hO : Ok w0 O) (n : Int) (Q : Str → Prop) (h : F104.Er R n Q) :
  Ret Tryz.prog 165 [vi n] w0 (fun v w' => ∃ (r0 : Str), v = vs r0 ∧ Q r0 ∧ Gr w0 w' none ∧ Lim r0) := by
 unfold F104.Er at h;have H := h;clear h;have hc0 := Ct.init hO;refine Yb Tryz.func165 Z 31 Z [.tmp 2] Z Z ?_;refine Xc (Xe (Xf (vs []) Z (Xb (Xc (Xc (Xe (Xd (vi n) Z (Xa (X0 n (-9223372036854775807) (decide (n < (-9223372036854775807))) Z Z Z) ?_))))))));refine Xb ?_;refine Xu (decide (n < (-9223372036854775807))) Z (fun hq1 => ?_) (fun hq1 => ?_)
 ·have H := Xl H hq1;exact Xc (Xe (Xf (vs ([45, 57, 50, 50, 51, 51, 55, 50, 48, 51, 54, 56, 53, 52, 55, 55, 53, 56, 48, 56] : Str)) Z (Xb (Xn ⟨[vs ([45, 57, 50, 50, 51, 51, 55, 50, 48, 51, 54, 56, 53, 52, 55, 55, 53, 56, 48, 56] : Str)], ⟨_, Z, Z⟩, ([45, 57, 50, 50, 51, 51, 55, 50, 48, 51, 54, 56, 53, 52, 55, 55, 53, 56, 48, 56] : Str), Z, H, hc0.gr.g0, (by decide : Lim ([45, 57, 50, 50, 51, 51, 55, 50, 48, 51, 54, 56, 53, 52, 55, 55, 53, 56, 48, 56] : Str))⟩))))
 have H := Xm H hq1;refine Xw (Xc (Xc (Xe (Xd (vi n) Z (Xa (X0 n 0 (decide (n < 0)) Z Z Z) (Xb ?_))))));refine Xu (decide (n < 0)) Z (fun hq2 => ?_) (fun hq2 => ?_)
 ·have H := Xl H hq2;refine Xc (Xe (Xd (vi n) Z ?_));obtain ⟨hb3, H⟩ := H;refine Xa (Kb n Z hb3) ?_;refine Zn go165 [vi (-n)] Z ((hR w0 hc0.ok (-n) _ H).mono ?_);rintro _ w4 ⟨r, rfl, H, g5, hs6⟩;have aj := hc0.k0 g5;obtain ⟨ac, H⟩ := H;exact Xa (Yv ([45] : Str) r Z Z ac) (Xf (vs (([45] : Str) ++ r)) Z (Xb (Xn ⟨[vs (([45] : Str) ++ r)], ⟨_, Z, Z⟩, (([45] : Str) ++ r), Z, H, aj.gr.g0, (lim_cat ac)⟩)))
 have H := Xm H hq2;refine Xw (Xc (Xe (Xf (vs []) Z (Xb (Xc (X6 ?_))))));obtain ⟨ak, al, aa, H⟩ := H;refine Yj (α := Int × Str) (fun (n3, out2) t ad => ak n3 out2 ∧ Has t [(0, vi n3), (3, vs out2)] ∧ Ct [] w0 ad [] O ∧ Lim out2) (fun (n3, out2) => al n3 out2) (n, ([] : Str)) ⟨aa, (Xx Z), hc0, (by decide : Lim ([] : Str))⟩ ?_;rintro ⟨n3, out2⟩ _ ad ⟨aa, am, ae, a7⟩;obtain ⟨a8, rfl⟩ := Has.ins am;have H := H n3 out2 aa;refine Xc (Xc (Xe (Xd (vi n3) Z (Xa (X0 n3 9 (decide (n3 > 9)) Z Z Z) (Xb ?_)))));refine Xu (decide (n3 > 9)) Z (fun ab => ?_) (fun ab => ?_)
 ·have H := Xl H ab;refine Xw (X6 (Xc (Xe (Xd (vi n3) Z ?_))));obtain ⟨an, H⟩ := H;refine Xa (Zr n3 10 Z Z an) ?_;obtain ⟨ao, H⟩ := H;refine Xa (Ya 48 (n3 % 10) Z Z ao) ?_;obtain ⟨ap, H⟩ := H;refine Xa (Z6 u3_ u5_ (48 + (n3 % 10)) Z ap) (X5 (kd := Kd.byte) Z7 ae ([(UInt8.ofNat (48 + (n3 % 10)).toNat)] : List UInt8) (cells := [v8 (UInt8.ofNat (48 + (n3 % 10)).toNat)]) ⟨[v8 (UInt8.ofNat (48 + (n3 % 10)).toNat)], _, Z, Z, Z⟩ RF fun a9 aq ar au ba hr35 av af => ?_);refine Xa (Z5 u22_ u5_ u9_ aq ar au ([(UInt8.ofNat (48 + (n3 % 10)).toNat)] : List UInt8) Z (fun _ e => e ▸ ⟨_, af.sx⟩)) ?_;have bb : Lim ([(UInt8.ofNat (48 + (n3 % 10)).toNat)] : List UInt8) := af.le;refine Xd (vs out2) Z ?_;obtain ⟨ag, H⟩ := H;refine Xa (Yv ([(UInt8.ofNat (48 + (n3 % 10)).toNat)] : List UInt8) out2 Z Z ag) (Xf (vs (([(UInt8.ofNat (48 + (n3 % 10)).toNat)] : List UInt8) ++ out2)) Z (Xb (Xe (Xd (vi n3) Z ?_))));obtain ⟨aw, H⟩ := H;refine Xa (Zz n3 10 Z Z aw) (Xf (vi (n3 / 10)) Z (Xb ?_));have ax := av.drop 0 Z;obtain ⟨ay, az⟩ := H;exact ⟨(n3 / 10, (([(UInt8.ofNat (48 + (n3 % 10)).toNat)] : List UInt8) ++ out2)), az, ay, (Xx Z), ax, (lim_cat ag)⟩
 have H := Xm H ab;refine Yh (xin_hit ?_);refine Xc (Xe (Xd (vi n3) Z ?_));obtain ⟨a0, H⟩ := H;refine Xa (Ya 48 n3 Z Z a0) ?_;obtain ⟨a1, H⟩ := H;refine Xa (Z6 u3_ u5_ (48 + n3) Z a1) (X5 (kd := Kd.byte) Z7 ae ([(UInt8.ofNat (48 + n3).toNat)] : List UInt8) (cells := [v8 (UInt8.ofNat (48 + n3).toNat)]) ⟨[v8 (UInt8.ofNat (48 + n3).toNat)], _, Z, Z, Z⟩ RF fun bc a2 a3 a4 bd hr52 a5 ah => ?_);refine Xa (Z5 u22_ u5_ u9_ a2 a3 a4 ([(UInt8.ofNat (48 + n3).toNat)] : List UInt8) Z (fun _ e => e ▸ ⟨_, ah.sx⟩)) ?_;have be : Lim ([(UInt8.ofNat (48 + n3).toNat)] : List UInt8) := ah.le;refine Xd (vs out2) Z ?_;obtain ⟨ai, H⟩ := H;refine Xa (Yv ([(UInt8.ofNat (48 + n3).toNat)] : List UInt8) out2 Z Z ai) (Xf (vs (([(UInt8.ofNat (48 + n3).toNat)] : List UInt8) ++ out2)) Z (Xb (Xn ?_)));have a6 := a5.drop 0 Z;exact ⟨[vs (([(UInt8.ofNat (48 + n3).toNat)] : List UInt8) ++ out2)], ⟨_, Z, Z⟩, (([(UInt8.ofNat (48 + n3).toNat)] : List UInt8) ++ out2), Z, H, a6.gr.g0, (lim_cat ai)⟩
def F104.E0 (n : Int) (Q : Str → Prop) : Prop := F104.Er (fun _ _ => False) n Q
def F104.E (n : Int) (Q : Str → Prop) : Prop := F104.Er F104.E0 n Q
theorem F104.calls0 {O : Ob} (w0 : World) (hO : Ok w0 O) (n : Int) (Q : Str → Prop) (h : F104.E0 n Q) :
  Ret Tryz.prog 165 [vi n] w0 (fun v w' => ∃ (r0 : Str), v = vs r0 ∧ Q r0 ∧ Gr w0 w' none ∧ Lim r0) :=
 F104.callsr (fun _ _ => False) (fun w0 hO => by intros; contradiction) w0 hO n Q h
theorem F104.calls {n : Int} {Q : Str → Prop} (H : F104.E n Q) (hO : Ok w0 O) :
  Ret Tryz.prog 165 [vi n] w0 (fun v w' => ∃ (r0 : Str), v = vs r0 ∧ Q r0 ∧ Gr w0 w' none ∧ Lim r0) := by
 unfold F104.E at H;exact F104.callsr F104.E0 F104.calls0 w0 hO n Q H
def F40.E (s : Shape) (Q : Str → Prop) : Prop :=
 F68.E s (fun r => (if !r then Q [] else F103.E s.Kind (fun r2 => (∃ (I48 : Str → Int → Prop) (mu49 : Str → Int → Nat), I48 r2 0 ∧ ∀ (out2 : Str) (i2 : Int), I48 out2 i2 → (if decide (i2 < (s.Pts.length : Int)) then (out2.length + ([32] : Str).length ≤ 9223372036854775807) ∧ ((0 : Int) ≤ i2 ∧ i2 < (s.Pts.length : Int)) ∧ (∃ q : Str, F104.E ((nth s.Pts i2).X) (fun x => x = q) ∧ (Lim q) ∧ ((out2 ++ ([32] : Str)).length + q.length ≤ 9223372036854775807) ∧ (((out2 ++ ([32] : Str)) ++ q).length + ([44] : Str).length ≤ 9223372036854775807) ∧ ((0 : Int) ≤ i2 ∧ i2 < (s.Pts.length : Int)) ∧ (∃ q2 : Str, F104.E ((nth s.Pts i2).Y) (fun x => x = q2) ∧ (Lim q2) ∧ ((((out2 ++ ([32] : Str)) ++ q) ++ ([44] : Str)).length + q2.length ≤ 9223372036854775807) ∧ (-9223372036854775808 ≤ i2) ∧ I48 ((((out2 ++ ([32] : Str)) ++ q) ++ ([44] : Str)) ++ q2) (i2 + 1) ∧ mu49 ((((out2 ++ ([32] : Str)) ++ q) ++ ([44] : Str)) ++ q2) (i2 + 1) < mu49 out2 i2)) else Q out2)))))
theorem F40.calls {s : Shape} {A1 : Option Addr} {n2 c3 : Nat} {Q : Str → Prop} (H : F40.E s Q) (hO : Ok w0 O) (hp4 : Sl kPt w0 (Fr O) (G A1 n2 c3) s.Pts) :
  Ret Tryz.prog 133 [.agg #[vi s.Kind, G A1 n2 c3]] w0 (fun v w' => ∃ (r0 : Str), v = vs r0 ∧ Q r0 ∧ Gr w0 w' none ∧ Lim r0) := by
 unfold F40.E at H;have hc0 := Ct.init hO;refine Yb Tryz.func133 Z 38 Z [.tmp 2] Z Z ?_;refine Xc (Xe (Yq [vi s.Kind, G A1 n2 c3] Z fun w6 b7 hl9 hu10 g8 ax => ?_));have al := Fb.mk hc0.ok hl9 ax;have ad := hc0.k0 g8;refine Xf (vs []) Z (Xb (Xc (Xc (Xe (Xa (Xv ag41 sz41 cL (Ad b7 0) [vi s.Kind, G A1 n2 c3] Z Z (al.cells (off := 00) Z)) ?_)))));refine Xs go66 (F68.calls H ad.ok (hp4.st ad.st)) Z ?_;rintro _ ay ⟨r, rfl, H, am⟩;have ae := ad.k0 am;refine Xa (X8 r Z) (Xb ?_);refine Xu (!r) Z (fun aj => ?_) (fun aj => ?_)
 ·have H := Xl H aj;exact Xc (Xe (Xf (vs []) Z (Xb (Xn ⟨[vs []], ⟨_, Z, Z⟩, ([] : Str), Z, H, ae.gr.g0, (by decide : Lim ([] : Str))⟩))))
 have H := Xm H aj;refine Xw (Xc (Xe (Xa (Xj fa41_0 (Ad b7 0) (Ad b7 0) Z Z) ?_)));have az := ad.stn am;have an := (al.st az);refine Xa (Xo ag3 cL (Ad b7 0) (vi s.Kind) Z (an.cell Z)) ?_;refine Xs go164 (F103.calls H ae.ok) Z ?_;rintro _ bq ⟨r2, rfl, H, ao, a0⟩;have ap := ae.k0 ao;refine Xf (vs r2) Z (Xb (Xc (Xc (Xe (Xf (vi 0) Z (Xb (X6 ?_)))))));obtain ⟨a1, a2, ak, H⟩ := H;have a3 := ae.stn ao;have a4 := (an.st a3);refine Yj (α := Str × Int) (fun (out2, i2) t ab => a1 out2 i2 ∧ Has t [(1, Pz b7), (3, vs out2), (4, vi i2)] ∧ Cw [] w0 ab [] O fun M => Lim out2 ∧ Sl kPt ab (Fr M) (G A1 n2 c3) s.Pts ∧ Fb ab M b7 [vi s.Kind, G A1 n2 c3]) (fun (out2, i2) => a2 out2 i2) (r2, 0) ⟨ak, (Xx Z), ap, a0, (hp4.st ap.st), a4⟩ ?_;rintro ⟨out2, i2⟩ _ ab ⟨ak, a5, ac, a6, aa, af⟩;obtain ⟨br, rfl⟩ := Has.ins a5;have H := H out2 i2 ak;refine Xc (Xc (Xe (Xd (vi i2) Z (Xa (Xj fa41_1 (Ad b7 0) (Ad b7 1) Z Z) (Xa (Xo ag39 cL (Ad b7 1) (G A1 n2 c3) Z (af.cell Z)) ?_)))));have a7 := aa.le;refine Xa (X9 u39_ A1 n2 c3 aa.len Z) (Xa (X0 i2 (s.Pts.length : Int) (decide (i2 < (s.Pts.length : Int))) Z Z Z) (Xb ?_));refine Xu (decide (i2 < (s.Pts.length : Int))) Z (fun ag => ?_) (fun ag => ?_)
 ·have H := Xl H ag;refine Xw (Xc (X6 (Yy (fun x => Gr ab x none) RK RK (Gr.drew _) ?_)));refine Xy (vs out2) Z ?_;obtain ⟨a8, H⟩ := H;refine Xg (Yv out2 ([32] : Str) Z Z a8) (Xg (Xj fa41_1 (Ad b7 0) (Ad b7 1) Z Z) (Xg (Xo ag39 cQ (Ad b7 1) (G A1 n2 c3) Z (af.cell Z)) (Xy (vi i2) Z ?_)));obtain ⟨aq, H⟩ := H;obtain ⟨ah, bs, a9, bt, ba, bb⟩ := aa.get default RD i2 aq;obtain rfl := kPt.op ba;refine Xg (X3 u39_ Yx A1 ah n2 c3 aa.len i2 Z a9 Z aq) (Xg (Xj fa49_0 (ah.add (i2.toNat * 2)) ((ah.add (i2.toNat * 2)).add 0) Z Z) (Xg (Xo ag3 cQ ((ah.add (i2.toNat * 2)).add 0) (vi ((nth s.Pts i2).X)) Z (bb 0 _ Z)) ?_));obtain ⟨q, bc, bu, H⟩ := H;refine Y2 go165 [vi ((nth s.Pts i2).X)] Z (vs q) (fun w g => (F104.calls bc (ac.k0 g).ok).mono ?_) ?_
  ·rintro _ w ⟨r, rfl, rfl, g2, _⟩;exact ⟨Z, Gr.t0 g g2⟩
  obtain ⟨bd, H⟩ := H;refine Xg (Yv (out2 ++ ([32] : Str)) q Z Z bd) ?_;obtain ⟨be, H⟩ := H;refine Xg (Yv ((out2 ++ ([32] : Str)) ++ q) ([44] : Str) Z Z be) (Xg (Xj fa41_1 (Ad b7 0) (Ad b7 1) Z Z) (Xg (Xo ag39 cQ (Ad b7 1) (G A1 n2 c3) Z (af.cell Z)) (Xy (vi i2) Z ?_)));obtain ⟨ar, H⟩ := H;obtain ⟨ai, bv, bf, bw, bg, bh⟩ := aa.get default RD i2 ar;obtain rfl := kPt.op bg;refine Xg (X3 u39_ Yx A1 ai n2 c3 aa.len i2 Z bf Z ar) (Xg (Xj fa49_1 (ai.add (i2.toNat * 2)) ((ai.add (i2.toNat * 2)).add 1) Z Z) (Xg (Xo ag3 cQ ((ai.add (i2.toNat * 2)).add 1) (vi ((nth s.Pts i2).Y)) Z (bh 1 _ Z)) ?_));obtain ⟨q2, bi, bx, H⟩ := H;refine Y2 go165 [vi ((nth s.Pts i2).Y)] Z (vs q2) (fun w g => (F104.calls bi (ac.k0 g).ok).mono ?_) ?_
  ·rintro _ w ⟨r, rfl, rfl, g2, _⟩;exact ⟨Z, Gr.t0 g g2⟩
  obtain ⟨au, H⟩ := H;refine Xg (Yv (((out2 ++ ([32] : Str)) ++ q) ++ ([44] : Str)) q2 Z Z au) (Ze (vs ((((out2 ++ ([32] : Str)) ++ q) ++ ([44] : Str)) ++ q2)) Z (Ye fun bz av => ?_));have bj := ac.k0 av;refine Xe (Xd (vi i2) Z ?_);obtain ⟨bl, H⟩ := H;have bm : I64 (i2 + 1) := i64_succ (of_decide_eq_true ag) a7 bl;refine Xa (Ya i2 1 Z Z bm) (Xf (vi (i2 + 1)) Z (Xb ?_));obtain ⟨bn, bo⟩ := H;have aw := ac.stn av;have bp := (af.st aw);exact ⟨(((((out2 ++ ([32] : Str)) ++ q) ++ ([44] : Str)) ++ q2), i2 + 1), bo, bn, (Xx Z), bj, (lim_cat au), (aa.st aw), bp⟩
 have H := Xm H ag;refine Yh (xin_hit ?_);exact Xc (Xe (Xd (vs out2) Z (Xf (vs out2) Z (Xb (Xn ⟨[vs out2], ⟨_, Z, Z⟩, out2, Z, H, ac.gr.g0, a6⟩)))))
def F51.E (f : Feat) (Q : Str → Prop) : Prop :=
 F87.E f (fun r => (if !r then Q [] else (f.Id.length + ([32] : Str).length ≤ 9223372036854775807) ∧ (∃ q : Str, F40.E f.Shape (fun x => x = q) ∧ (Lim q) ∧ ((f.Id ++ ([32] : Str)).length + q.length ≤ 9223372036854775807) ∧ (∃ (I67 : Str → Int → Prop) (mu68 : Str → Int → Nat), I67 ((f.Id ++ ([32] : Str)) ++ q) 0 ∧ ∀ (out2 : Str) (i2 : Int), I67 out2 i2 → (if decide (i2 < (f.Tags.length : Int)) then (out2.length + ([32] : Str).length ≤ 9223372036854775807) ∧ ((0 : Int) ≤ i2 ∧ i2 < (f.Tags.length : Int)) ∧ ((out2 ++ ([32] : Str)).length + ((nth f.Tags i2).Key).length ≤ 9223372036854775807) ∧ (((out2 ++ ([32] : Str)) ++ ((nth f.Tags i2).Key)).length + ([61] : Str).length ≤ 9223372036854775807) ∧ ((0 : Int) ≤ i2 ∧ i2 < (f.Tags.length : Int)) ∧ ((((out2 ++ ([32] : Str)) ++ ((nth f.Tags i2).Key)) ++ ([61] : Str)).length + ((nth f.Tags i2).Val).length ≤ 9223372036854775807) ∧ (-9223372036854775808 ≤ i2) ∧ I67 ((((out2 ++ ([32] : Str)) ++ ((nth f.Tags i2).Key)) ++ ([61] : Str)) ++ ((nth f.Tags i2).Val)) (i2 + 1) ∧ mu68 ((((out2 ++ ([32] : Str)) ++ ((nth f.Tags i2).Key)) ++ ([61] : Str)) ++ ((nth f.Tags i2).Val)) (i2 + 1) < mu68 out2 i2 else Q out2)))))
theorem F51.calls {f : Feat} {A2 : Option Addr} {n3 c4 : Nat} {A7 : Option Addr} {n8 c9 : Nat} {Q : Str → Prop} (H : F51.E f Q) (hO : Ok w0 O) (hs1 : Lim f.Id) (hp5 : Sl kPt w0 (Fr O) (G A2 n3 c4) f.Shape.Pts) (ap : Sl kTag w0 (Fr O) (G A7 n8 c9) f.Tags) :
  Ret Tryz.prog 97 [.agg #[vs f.Id, vi f.Shape.Kind, G A2 n3 c4, G A7 n8 c9]] w0 (fun v w' => ∃ (r0 : Str), v = vs r0 ∧ Q r0 ∧ Gr w0 w' none ∧ Lim r0) := by
 unfold F51.E at H;have hc0 := Ct.init hO;refine Yb Tryz.func97 Z 40 Z [.tmp 2] Z Z ?_;refine Xc (Xe (Yq [vs f.Id, vi f.Shape.Kind, G A2 n3 c4, G A7 n8 c9] Z fun a0 aa a1 hu16 a2 a3 => ?_));have aq := Fb.mk hc0.ok a1 a3;have ad := hc0.k0 a2;refine Xf (vs []) Z (Xb (Xc (Xc (Xe (Xa (Xv ag44 sz44 cL (Ad aa 0) [vs f.Id, vi f.Shape.Kind, G A2 n3 c4, G A7 n8 c9] Z Z (aq.cells (off := 00) Z)) ?_)))));refine Xs go24 (F87.calls H ad.ok hs1 (hp5.st ad.st) (ap.st ad.st)) Z ?_;rintro _ a4 ⟨r, rfl, H, ar⟩;have ae := ad.k0 ar;refine Xa (X8 r Z) (Xb ?_);refine Xu (!r) Z (fun aj => ?_) (fun aj => ?_)
 ·have H := Xl H aj;exact Xc (Xe (Xf (vs []) Z (Xb (Xn ⟨[vs []], ⟨_, Z, Z⟩, ([] : Str), Z, H, ae.gr.g0, (by decide : Lim ([] : Str))⟩))))
 have H := Xm H aj;refine Xw (Xc (Yy (fun x => Gr a4 x none) RK RK (Gr.drew _) ?_));refine Xg (Xj fa44_0 (Ad aa 0) (Ad aa 0) Z Z) ?_;have a5 := ad.stn ar;have ak := (aq.st a5);refine Xg (Xo ag9 cQ (Ad aa 0) (vs f.Id) Z (ak.cell Z)) ?_;obtain ⟨a6, H⟩ := H;refine Xg (Yv f.Id ([32] : Str) Z Z a6) (Xg (Xj fa44_1 (Ad aa 0) (Ad aa 1) Z Z) (Xg (Xv ag41 sz41 cQ (Ad aa 1) [vi f.Shape.Kind, G A2 n3 c4] Z Z (ak.cells (off := 1) Z)) ?_));obtain ⟨q, a7, bw, H⟩ := H;refine Y2 go133 [.agg #[vi f.Shape.Kind, G A2 n3 c4]] Z (vs q) (fun w g => (F40.calls a7 (ae.k0 g).ok ((hp5.st ae.st).st (.new _ g))).mono ?_) ?_
 ·rintro _ w ⟨r, rfl, rfl, g2, _⟩;exact ⟨Z, Gr.t0 g g2⟩
 obtain ⟨au, H⟩ := H;refine Xg (Yv (f.Id ++ ([32] : Str)) q Z Z au) (Ze (vs ((f.Id ++ ([32] : Str)) ++ q)) Z (Ye fun bx av => ?_));have al := ae.k0 av;refine Xc (Xc (Xe (Xf (vi 0) Z (Xb (X6 ?_)))));obtain ⟨a8, a9, am, H⟩ := H;have ba := ae.stn av;have bb := (ak.st ba);refine Yj (α := Str × Int) (fun (out2, i2) t ac => a8 out2 i2 ∧ Has t [(1, Pz aa), (3, vs out2), (4, vi i2)] ∧ Cw [] w0 ac [] O fun M => Lim out2 ∧ Sl kPt ac (Fr M) (G A2 n3 c4) f.Shape.Pts ∧ Sl kTag ac (Fr M) (G A7 n8 c9) f.Tags ∧ Fb ac M aa [vs f.Id, vi f.Shape.Kind, G A2 n3 c4, G A7 n8 c9]) (fun (out2, i2) => a9 out2 i2) (((f.Id ++ ([32] : Str)) ++ q), 0) ⟨am, (Xx Z), al, (lim_cat au), (hp5.st al.st), (ap.st al.st), bb⟩ ?_;rintro ⟨out2, i2⟩ _ ac ⟨am, bc, an, bd, be, ab, af⟩;obtain ⟨bz, rfl⟩ := Has.ins bc;have H := H out2 i2 am;refine Xc (Xc (Xe (Xd (vi i2) Z (Xa (Xj fa44_2 (Ad aa 0) (Ad aa 3) Z Z) (Xa (Xo ag42 cL (Ad aa 3) (G A7 n8 c9) Z (af.cell Z)) ?_)))));have bf := ab.le;refine Xa (X9 u42_ A7 n8 c9 ab.len Z) (Xa (X0 i2 (f.Tags.length : Int) (decide (i2 < (f.Tags.length : Int))) Z Z Z) (Xb ?_));refine Xu (decide (i2 < (f.Tags.length : Int))) Z (fun ag => ?_) (fun ag => ?_)
 ·have H := Xl H ag;refine Xw (Xc (X6 (Yy (fun x => Gr ac x none) RK RK (Gr.drew _) ?_)));refine Xy (vs out2) Z ?_;obtain ⟨bg, H⟩ := H;refine Xg (Yv out2 ([32] : Str) Z Z bg) (Xg (Xj fa44_2 (Ad aa 0) (Ad aa 3) Z Z) (Xg (Xo ag42 cQ (Ad aa 3) (G A7 n8 c9) Z (af.cell Z)) (Xy (vi i2) Z ?_)));obtain ⟨aw, H⟩ := H;obtain ⟨ah, b0, bh, b1, bi, bj⟩ := ab.get default RD i2 aw;obtain ⟨rfl, b2, b3⟩ := kTag.op bi;refine Xg (X3 u42_ Y9 A7 ah n8 c9 ab.len i2 Z bh Z aw) (Xg (Xj fa93_0 (ah.add (i2.toNat * 2)) ((ah.add (i2.toNat * 2)).add 0) Z Z) (Xg (Xo ag9 cQ ((ah.add (i2.toNat * 2)).add 0) (vs ((nth f.Tags i2).Key)) Z (bj 0 _ Z)) ?_));obtain ⟨bl, H⟩ := H;refine Xg (Yv (out2 ++ ([32] : Str)) ((nth f.Tags i2).Key) Z Z bl) ?_;obtain ⟨bm, H⟩ := H;refine Xg (Yv ((out2 ++ ([32] : Str)) ++ ((nth f.Tags i2).Key)) ([61] : Str) Z Z bm) (Xg (Xj fa44_2 (Ad aa 0) (Ad aa 3) Z Z) (Xg (Xo ag42 cQ (Ad aa 3) (G A7 n8 c9) Z (af.cell Z)) (Xy (vi i2) Z ?_)));obtain ⟨ax, H⟩ := H;obtain ⟨ai, b4, bn, b5, bo, bp⟩ := ab.get default RD i2 ax;obtain ⟨rfl, b6, b7⟩ := kTag.op bo;refine Xg (X3 u42_ Y9 A7 ai n8 c9 ab.len i2 Z bn Z ax) (Xg (Xj fa93_1 (ai.add (i2.toNat * 2)) ((ai.add (i2.toNat * 2)).add 1) Z Z) (Xg (Xo ag9 cQ ((ai.add (i2.toNat * 2)).add 1) (vs ((nth f.Tags i2).Val)) Z (bp 1 _ Z)) ?_));obtain ⟨ay, H⟩ := H;refine Xg (Yv (((out2 ++ ([32] : Str)) ++ ((nth f.Tags i2).Key)) ++ ([61] : Str)) ((nth f.Tags i2).Val) Z Z ay) (Ze (vs ((((out2 ++ ([32] : Str)) ++ ((nth f.Tags i2).Key)) ++ ([61] : Str)) ++ ((nth f.Tags i2).Val))) Z (Ye fun b8 az => ?_));have bq := an.k0 az;refine Xe (Xd (vi i2) Z ?_);obtain ⟨br, H⟩ := H;have bs : I64 (i2 + 1) := i64_succ (of_decide_eq_true ag) bf br;refine Xa (Ya i2 1 Z Z bs) (Xf (vi (i2 + 1)) Z (Xb ?_));obtain ⟨bt, bu⟩ := H;have ao := an.stn az;have bv := (af.st ao);exact ⟨(((((out2 ++ ([32] : Str)) ++ ((nth f.Tags i2).Key)) ++ ([61] : Str)) ++ ((nth f.Tags i2).Val)), i2 + 1), bu, bt, (Xx Z), bq, (lim_cat ay), (be.st ao), (ab.st ao), bv⟩
 have H := Xm H ag;refine Yh (xin_hit ?_);exact Xc (Xe (Xd (vs out2) Z (Xf (vs out2) Z (Xb (Xn ⟨[vs out2], ⟨_, Z, Z⟩, out2, Z, H, an.gr.g0, bd⟩)))))
def F105.E (f : Feat) (is : Bool) (Q : Str → Prop) : Prop :=
 (if !is then Q ([45] : Str) else F51.E f (fun r => Q r))
theorem F105.calls {f : Feat} {A2 : Option Addr} {n3 c4 : Nat} {A7 : Option Addr} {n8 c9 : Nat} {is : Bool} {Q : Str → Prop} (H : F105.E f is Q) (hO : Ok w0 O) (hs1 : Lim f.Id) (hp5 : Sl kPt w0 (Fr O) (G A2 n3 c4) f.Shape.Pts) (ac : Sl kTag w0 (Fr O) (G A7 n8 c9) f.Tags) :
  Ret Tryz.prog 44 [.agg #[vs f.Id, vi f.Shape.Kind, G A2 n3 c4, G A7 n8 c9], vb is] w0 (fun v w' => ∃ (r0 : Str), v = vs r0 ∧ Q r0 ∧ Gr w0 w' none ∧ Lim r0) := by
 unfold F105.E at H;have hc0 := Ct.init hO;refine Yb Tryz.func44 Z 9 Z [.tmp 4] Z Z ?_;refine Xc (Xe (Yq [vs f.Id, vi f.Shape.Kind, G A2 n3 c4, G A7 n8 c9] Z fun ad ae af hu16 ag ah => ?_));have ai := Fb.mk hc0.ok af ah;have aa := hc0.k0 ag;refine Xf (vs []) Z (Xb (Xc (Xc (Xe (Xd (vb is) Z (Xa (X8 is Z) (Xb ?_)))))));refine Xu (!is) Z (fun ab => ?_) (fun ab => ?_)
 ·have H := Xl H ab;exact Xc (Xe (Xf (vs ([45] : Str)) Z (Xb (Xn ⟨[vs ([45] : Str)], ⟨_, Z, Z⟩, ([45] : Str), Z, H, aa.gr.g0, (by decide : Lim ([45] : Str))⟩))))
 have H := Xm H ab;refine Xw (Xc (Xe (Xa (Xv ag44 sz44 cL (Ad ae 0) [vs f.Id, vi f.Shape.Kind, G A2 n3 c4, G A7 n8 c9] Z Z (ai.cells (off := 00) Z)) ?_)));refine Xs go97 (F51.calls H aa.ok hs1 (hp5.st aa.st) (ac.st aa.st)) Z ?_;rintro _ am ⟨r, rfl, H, aj, ak⟩;have al := aa.k0 aj;exact Xf (vs r) Z (Xb (Xn ⟨[vs r], ⟨_, Z, Z⟩, r, Z, H, al.gr.g0, ak⟩))
def F52.E (d : List Change) (Q : Str → Prop) : Prop :=
 (∃ (I20 : Str → Int → Prop) (mu21 : Str → Int → Nat), I20 [] 0 ∧ ∀ (out2 : Str) (i2 : Int), I20 out2 i2 → (if decide (i2 < (d.length : Int)) then F101.E d (fun r => (if r then ((0 : Int) ≤ i2 ∧ i2 < (d.length : Int)) ∧ (out2.length + ((nth d i2).Id).length ≤ 9223372036854775807) ∧ ((out2 ++ ((nth d i2).Id)).length + ([58, 32] : Str).length ≤ 9223372036854775807) ∧ ((0 : Int) ≤ i2 ∧ i2 < (d.length : Int)) ∧ ((0 : Int) ≤ i2 ∧ i2 < (d.length : Int)) ∧ (∃ q : Str, F105.E ((nth d i2).Was) ((nth d i2).Had) (fun x => x = q) ∧ (Lim q) ∧ (((out2 ++ ((nth d i2).Id)) ++ ([58, 32] : Str)).length + q.length ≤ 9223372036854775807) ∧ ((((out2 ++ ((nth d i2).Id)) ++ ([58, 32] : Str)) ++ q).length + ([32, 62, 32] : Str).length ≤ 9223372036854775807) ∧ ((0 : Int) ≤ i2 ∧ i2 < (d.length : Int)) ∧ ((0 : Int) ≤ i2 ∧ i2 < (d.length : Int)) ∧ (∃ q2 : Str, F105.E ((nth d i2).Now) ((nth d i2).Has) (fun x => x = q2) ∧ (Lim q2) ∧ (((((out2 ++ ((nth d i2).Id)) ++ ([58, 32] : Str)) ++ q) ++ ([32, 62, 32] : Str)).length + q2.length ≤ 9223372036854775807) ∧ ((((((out2 ++ ((nth d i2).Id)) ++ ([58, 32] : Str)) ++ q) ++ ([32, 62, 32] : Str)) ++ q2).length + ([10] : Str).length ≤ 9223372036854775807) ∧ (-9223372036854775808 ≤ i2) ∧ I20 ((((((out2 ++ ((nth d i2).Id)) ++ ([58, 32] : Str)) ++ q) ++ ([32, 62, 32] : Str)) ++ q2) ++ ([10] : Str)) (i2 + 1) ∧ mu21 ((((((out2 ++ ((nth d i2).Id)) ++ ([58, 32] : Str)) ++ q) ++ ([32, 62, 32] : Str)) ++ q2) ++ ([10] : Str)) (i2 + 1) < mu21 out2 i2)) else Q out2)) else Q out2))
theorem F52.calls {d : List Change} {A1 : Option Addr} {n2 c3 : Nat} {Q : Str → Prop} (H : F52.E d Q) (hO : Ok w0 O) (hp4 : Sl kChange w0 (Fr O) (G A1 n2 c3) d) :
  Ret Tryz.prog 13 [G A1 n2 c3] w0 (fun v w' => ∃ (r0 : Str), v = vs r0 ∧ Q r0 ∧ Gr w0 w' none ∧ Lim r0) := by
 unfold F52.E at H;have hc0 := Ct.init hO;refine Yb Tryz.func13 Z 50 Z [.tmp 2] Z Z ?_;refine Xc (Xe (Xf (vs []) Z (Xb (Xc (Xe (Xf (vs []) Z (Xb (Xc ?_))))))));refine Xc (Xe (Xf (vi 0) Z (Xb (X6 ?_))));obtain ⟨ba, bb, al, H⟩ := H;refine Yj (α := Str × Int) (fun (out2, i2) t ae => ba out2 i2 ∧ Has t [(0, G A1 n2 c3), (3, vs out2), (4, vi i2)] ∧ Ct [] w0 ae [] O ∧ Lim out2 ∧ Sl kChange ae (Fr ([] ++ O)) (G A1 n2 c3) d) (fun (out2, i2) => bb out2 i2) (([] : Str), 0) ⟨al, (Xx Z), hc0, (by decide : Lim ([] : Str)), hp4⟩ ?_;rintro ⟨out2, i2⟩ _ ae ⟨al, bc, af, a1, aa⟩;obtain ⟨cg, rfl⟩ := Has.ins bc;have H := H out2 i2 al;refine Xc (Xc (Xe (Xd (vi i2) Z (Xd (G A1 n2 c3) Z ?_))));have bd := aa.le;refine Xa (X9 u23_ A1 n2 c3 aa.len Z) (Xa (X0 i2 (d.length : Int) (decide (i2 < (d.length : Int))) Z Z Z) (Xd (vb (decide (i2 < (d.length : Int)))) Z ?_));rcases X4 (decide (i2 < (d.length : Int))) with ac | ac
 ·have H := Xl H ac;refine Xh ac Z (Xd (G A1 n2 c3) Z (Xh ac Z ?_));refine Xs go15 (F101.calls H af.ok aa) Z ?_;rintro _ be ⟨r, rfl, H, a2⟩;have ad := af.k0 a2;refine Xa (Xk true (vb r) ac Z) (Xb ?_);refine Xu r Z (fun am => ?_) (fun am => ?_)
  ·have H := Xl H am;refine Xw (Xc (X6 (Yy (fun x => Gr be x none) RK RK (Gr.drew _) ?_)));refine Xy (vs out2) Z (Xy (G A1 n2 c3) Z (Xy (vi i2) Z ?_));obtain ⟨a3, H⟩ := H;have ab := af.stn a2;obtain ⟨ag, ch, bf, ci, bg, bh⟩ := (aa.st ab).get default RD i2 a3;obtain ⟨cj, ck, cl, cm, cn, co, cp, cq, cr, cs, ct, cu, rfl, cv, cw, cx, cy, cz, c0, c1⟩ := kChange.op bg;refine Xg (X3 u23_ Yi A1 ag n2 c3 (aa.st ab).len i2 Z bf Z a3) (Xg (Xj fa62_0 (ag.add (i2.toNat * 11)) ((ag.add (i2.toNat * 11)).add 0) Z Z) (Xg (Xo ag9 cQ ((ag.add (i2.toNat * 11)).add 0) (vs ((nth d i2).Id)) Z (bh 0 _ Z)) ?_));obtain ⟨bi, H⟩ := H;refine Xg (Yv out2 ((nth d i2).Id) Z Z bi) ?_;obtain ⟨bj, H⟩ := H;refine Xg (Yv (out2 ++ ((nth d i2).Id)) ([58, 32] : Str) Z Z bj) (Xy (G A1 n2 c3) Z (Xy (vi i2) Z ?_));obtain ⟨a4, H⟩ := H;obtain ⟨ah, c2, bl, c4, bm, bn⟩ := (aa.st ab).get default RD i2 a4;obtain ⟨an, ao, ap, aq, ar, au, c5, c6, c7, c8, c9, da, rfl, db, bo, bp, bq, dc, dd, de⟩ := kChange.op bm;refine Xg (X3 u23_ Yi A1 ah n2 c3 (aa.st ab).len i2 Z bl Z a4) (Xg (Xj fa62_2 (ah.add (i2.toNat * 11)) ((ah.add (i2.toNat * 11)).add 2) Z Z) (Xg (Xv ag44 sz44 cQ ((ah.add (i2.toNat * 11)).add 2) [vs ((nth d i2).Was.Id), vi ((nth d i2).Was.Shape.Kind), G an ao ap, G aq ar au] Z Z (sub_cells (off := 2) bn Z)) (Xy (G A1 n2 c3) Z (Xy (vi i2) Z ?_))));obtain ⟨a5, H⟩ := H;obtain ⟨ai, df, br, dg, bs, bt⟩ := (aa.st ab).get default RD i2 a5;obtain ⟨dh, di, dj, dk, dl, dm, dn, dp, dq, dr, ds, dt, rfl, du, dv, dw, dx, dy, dz, d0⟩ := kChange.op bs;refine Xg (X3 u23_ Yi A1 ai n2 c3 (aa.st ab).len i2 Z br Z a5) (Xg (Xj fa62_1 (ai.add (i2.toNat * 11)) ((ai.add (i2.toNat * 11)).add 1) Z Z) (Xg (Xo ag4 cQ ((ai.add (i2.toNat * 11)).add 1) (vb ((nth d i2).Had)) Z (bt 1 _ Z)) ?_));obtain ⟨q, bu, d1, H⟩ := H;refine Y2 go44 [.agg #[vs ((nth d i2).Was.Id), vi ((nth d i2).Was.Shape.Kind), G an ao ap, G aq ar au], vb ((nth d i2).Had)] Z (vs q) (fun w g => (F105.calls bu (ad.k0 g).ok bo (bp.st (.new _ g)) (bq.st (.new _ g))).mono ?_) ?_
   ·rintro _ w ⟨r, rfl, rfl, g2, _⟩;exact ⟨Z, Gr.t0 g g2⟩
   obtain ⟨bv, H⟩ := H;refine Xg (Yv ((out2 ++ ((nth d i2).Id)) ++ ([58, 32] : Str)) q Z Z bv) ?_;obtain ⟨bw, H⟩ := H;refine Xg (Yv (((out2 ++ ((nth d i2).Id)) ++ ([58, 32] : Str)) ++ q) ([32, 62, 32] : Str) Z Z bw) (Xy (G A1 n2 c3) Z (Xy (vi i2) Z ?_));obtain ⟨a6, H⟩ := H;obtain ⟨aj, d2, bx, d3, bz, b0⟩ := (aa.st ab).get default RD i2 a6;obtain ⟨d4, d5, d6, d7, d8, d9, av, aw, ax, ay, az, a0, rfl, ea, eb, ec, ed, b1, b2, b3⟩ := kChange.op bz;refine Xg (X3 u23_ Yi A1 aj n2 c3 (aa.st ab).len i2 Z bx Z a6) (Xg (Xj fa62_4 (aj.add (i2.toNat * 11)) ((aj.add (i2.toNat * 11)).add 7) Z Z) (Xg (Xv ag44 sz44 cQ ((aj.add (i2.toNat * 11)).add 7) [vs ((nth d i2).Now.Id), vi ((nth d i2).Now.Shape.Kind), G av aw ax, G ay az a0] Z Z (sub_cells (off := 7) b0 Z)) (Xy (G A1 n2 c3) Z (Xy (vi i2) Z ?_))));obtain ⟨a7, H⟩ := H;obtain ⟨ak, ee, b4, ef, b5, b6⟩ := (aa.st ab).get default RD i2 a7;obtain ⟨eg, eh, ei, ej, ek, el, em, en, eo, ep, eq, er, rfl, es, et, eu, ev, ew, ex, ey⟩ := kChange.op b5;refine Xg (X3 u23_ Yi A1 ak n2 c3 (aa.st ab).len i2 Z b4 Z a7) (Xg (Xj fa62_3 (ak.add (i2.toNat * 11)) ((ak.add (i2.toNat * 11)).add 6) Z Z) (Xg (Xo ag4 cQ ((ak.add (i2.toNat * 11)).add 6) (vb ((nth d i2).Has)) Z (b6 6 _ Z)) ?_));obtain ⟨q2, b7, ez, H⟩ := H;refine Y2 go44 [.agg #[vs ((nth d i2).Now.Id), vi ((nth d i2).Now.Shape.Kind), G av aw ax, G ay az a0], vb ((nth d i2).Has)] Z (vs q2) (fun w g => (F105.calls b7 (ad.k0 g).ok b1 (b2.st (.new _ g)) (b3.st (.new _ g))).mono ?_) ?_
   ·rintro _ w ⟨r, rfl, rfl, g2, _⟩;exact ⟨Z, Gr.t0 g g2⟩
   obtain ⟨b8, H⟩ := H;refine Xg (Yv ((((out2 ++ ((nth d i2).Id)) ++ ([58, 32] : Str)) ++ q) ++ ([32, 62, 32] : Str)) q2 Z Z b8) ?_;obtain ⟨a8, H⟩ := H;refine Xg (Yv (((((out2 ++ ((nth d i2).Id)) ++ ([58, 32] : Str)) ++ q) ++ ([32, 62, 32] : Str)) ++ q2) ([10] : Str) Z Z a8) (Ze (vs ((((((out2 ++ ((nth d i2).Id)) ++ ([58, 32] : Str)) ++ q) ++ ([32, 62, 32] : Str)) ++ q2) ++ ([10] : Str))) Z (Ye fun e0 a9 => ?_));have b9 := ad.k0 a9;refine Xe (Xd (vi i2) Z ?_);obtain ⟨ca, H⟩ := H;have cb : I64 (i2 + 1) := i64_succ (of_decide_eq_true ac) bd ca;refine Xa (Ya i2 1 Z Z cb) (Xf (vi (i2 + 1)) Z (Xb ?_));obtain ⟨cc, cd⟩ := H;have ce := ad.stn a9;have cf := ((aa.st ab).st ce);exact ⟨(((((((out2 ++ ((nth d i2).Id)) ++ ([58, 32] : Str)) ++ q) ++ ([32, 62, 32] : Str)) ++ q2) ++ ([10] : Str)), i2 + 1), cd, cc, (Xx Z), b9, (lim_cat a8), cf⟩
  have H := Xm H am;refine Yh (xin_hit ?_);exact Xc (Xe (Xd (vs out2) Z (Xf (vs out2) Z (Xb (Xn ⟨[vs out2], ⟨_, Z, Z⟩, out2, Z, H, ad.gr.g0, a1⟩)))))
 have H := Xm H ac;refine Xi ac Z (Xi ac Z (Xa (Xk false (vb false) ac Z) (Xb (Y6 (b := false) Z Z ?_))));refine Yh (xin_hit ?_);exact Xc (Xe (Xd (vs out2) Z (Xf (vs out2) Z (Xb (Xn ⟨[vs out2], ⟨_, Z, Z⟩, out2, Z, H, af.gr.g0, a1⟩)))))
def F47.E (d : List Change) (Q : List Change → Prop) : Prop :=
 F100.E d (fun r => (if !r then Q [] else (∃ (I59 : (List Change) → Int → Prop) (mu60 : (List Change) → Int → Nat), I59 [] 0 ∧ ∀ (xs2 : List Change) (v2 : Int), I59 xs2 v2 → (if decide (v2 < (d.length : Int)) then ((0 : Int) ≤ v2 ∧ v2 < (d.length : Int)) ∧ F20.E (⟨(nth d v2).Id, (nth d v2).Has, (nth d v2).Now, (nth d v2).Had, (nth d v2).Was⟩ : Change) (fun r2 => (xs2.length + ([r2] : List Change).length ≤ 268435456) ∧ (I64 (v2 + 1)) ∧ I59 (xs2 ++ ([r2] : List Change)) (v2 + 1) ∧ mu60 (xs2 ++ ([r2] : List Change)) (v2 + 1) < mu60 xs2 v2) else Q xs2))))
theorem F47.calls {d : List Change} {A1 : Option Addr} {n2 c3 : Nat} {Q : List Change → Prop} (H : F47.E d Q) (hO : Ok w0 O) (hp4 : Sl kChange w0 (Fr O) (G A1 n2 c3) d) :
  Ret Tryz.prog 11 [G A1 n2 c3] w0 (fun v w' => ∃ (r0 : List Change) (Aw0 : Option Addr) (nw0 cw0 : Nat) (q0 : Ob) (ra0 : List (List Value)), v = G Aw0 nw0 cw0 ∧ Q r0 ∧ Gr w0 w' none ∧ Ok w' ((bk Aw0 :: (q0 ++ [])) ++ O) ∧ (∀ b, some b ∈ (bk Aw0 :: (q0 ++ [])) → w0.heap.size ≤ b) ∧ Ow (Kd.cells 11) 62 w' ((bk Aw0 :: (q0 ++ [])) ++ O) (G Aw0 nw0 cw0) ra0 ∧ DArr dChange_62 w' q0 r0 ra0) := by
 unfold F47.E at H;have hc0 := Ct.init hO;refine Yb Tryz.func11 Z 34 Z [.tmp 2] Z Z ?_;refine Xc (Xe (Xf (G none 0 0) Z (Xb (Xc (Xe ?_)))));have b3 : DArr dChange_62 w0 ([] : Ob) ([] : List Change) ([] : List (List Value)) := Z;refine X5 (kd := Kd.cells 11) Yd hc0 ([] : List (List Value)) (cells := []) Z RF fun w6 A7 n8 c9 b4 hr11 bn b5 => ?_;have bo : ([bk A7] : Ob).Perm (bk A7 :: (([] : Ob) ++ [])) := RP;have bp := bn.perm bo;refine Xf (G A7 n8 c9) Z (Xb (Xc (Xc (Xe (Xd (G A1 n2 c3) Z ?_)))));refine Xs go17 (F100.calls H bp.ok (hp4.st bp.st)) Z ?_;rintro _ d6 ⟨r, rfl, H, a9⟩;have ar := bp.k0 a9;refine Xa (X8 r Z) (Xb ?_);refine Xu (!r) Z (fun bq => ?_) (fun bq => ?_)
 ·have H := Xl H bq;refine Xc (Xe (Xd (G A7 n8 c9) Z (Xf (G A7 n8 c9) Z (Xb (Xn ?_)))));have cj := ((bn.sp b5 bo).sn a9);have ck := ((b3.k0 b4).k0 a9);exact ⟨[G A7 n8 c9], ⟨_, Z, Z⟩, ([] : List Change), A7, n8, c9, ([] : Ob), ([] : List (List Value)), Z, H, ar.gr.g0, ar.ok, ar.ge, cj, ck⟩
 have H := Xm H bq;refine Xw (Xc (Xc (Xe (Xd (G A1 n2 c3) Z ?_))));have d7 := (hp4.st ar.st).le;refine Xa (X9 u23_ A1 n2 c3 (hp4.st ar.st).len Z) (Xd (vi 0) Z (Xb (X6 ?_)));obtain ⟨cl, cm, br, H⟩ := H;have cn := ((bn.sp b5 bo).sn a9);have co := ((b3.k0 b4).k0 a9);refine Yj (α := (List Change) × (List (List Value)) × Ob × (Option Addr) × Nat × Nat × Int) (fun (xs2, au, ag, af, ah, ai, v2) t ba => cl xs2 v2 ∧ Has t [(3, G af ah ai), (11, G A1 n2 c3), (12, vi (d.length : Int)), (13, vi v2)] ∧ Cw [] w0 ba (bk af :: (ag ++ [])) O fun M => Sl kChange ba (Fr M) (G A1 n2 c3) d ∧ Ow (Kd.cells 11) 62 ba M (G af ah ai) au ∧ DArr dChange_62 ba ag xs2 au) (fun (xs2, _, _, _, _, _, v2) => cm xs2 v2) (([] : List Change), ([] : List (List Value)), ([] : Ob), A7, n8, c9, 0) ⟨br, (Xx Z), ar, (hp4.st ar.st), cn, co⟩ ?_;rintro ⟨xs2, au, ag, af, ah, ai, v2⟩ _ ba ⟨br, cp, bb, bs, b6, b7⟩;obtain ⟨d8, rfl⟩ := Has.ins cp;have H := H xs2 v2 br;refine Xc (Xe (Xa (X0 v2 (d.length : Int) (decide (v2 < (d.length : Int))) Z Z Z) (Xb (Xc ?_))));refine Xu (decide (v2 < (d.length : Int))) Z (fun bt => ?_) (fun bt => ?_)
 ·have H := Xl H bt;refine Xw (Xc (X6 (Xc (Xe ?_))));obtain ⟨b8, H⟩ := H;obtain ⟨b9, d9, cq, ea, cr, cs⟩ := bs.get default RD v2 b8;obtain ⟨av, aw, ax, ay, az, a0, a1, a2, a3, a4, a5, a6, rfl, ct, cu, cv, cw, cx, cy, cz⟩ := kChange.op cr;refine Xa (X3 u23_ Yi A1 b9 n2 c3 bs.len v2 Z cq Z b8) (Xa (Xv ag62 sz62 cL (b9.add (v2.toNat * 11)) [vs ((nth d v2).Id), vb ((nth d v2).Had), vs ((nth d v2).Was.Id), vi ((nth d v2).Was.Shape.Kind), G av aw ax, G ay az a0, vb ((nth d v2).Has), vs ((nth d v2).Now.Id), vi ((nth d v2).Now.Shape.Kind), G a1 a2 a3, G a4 a5 a6] Z Z cs) (Yo [vs [], vb false, vs [], .int .i64 0, G none 0 0, G none 0 0, vb false, vs [], .int .i64 0, G none 0 0, G none 0 0] ze62 fun eb aa bu hu102 bf c0 => ?_));have bg := bb.own bf (some aa) (Ym bu hu102);refine Yf [vs ((nth d v2).Id), vb ((nth d v2).Had), vs ((nth d v2).Was.Id), vi ((nth d v2).Was.Shape.Kind), G av aw ax, G ay az a0, vb ((nth d v2).Has), vs ((nth d v2).Now.Id), vi ((nth d v2).Now.Shape.Kind), G a1 a2 a3, G a4 a5 a6] c0 Z Z sz62 Z Z fun c1 bh bc => ?_;have bv := bg.wr 0 Z bh;refine Xb (Xe (Xd (G af ah ai) Z (Xa (Xj fa62_0 (Ad aa 0) (Ad aa 0) Z Z) (Xa (Xo ag9 cL (Ad aa 0) (vs ((nth d v2).Id)) Z (bc.cell Z)) (Xa (Xj fa62_3 (Ad aa 0) (Ad aa 6) Z Z) (Xa (Xo ag4 cL (Ad aa 6) (vb ((nth d v2).Has)) Z (bc.cell Z)) (Xa (Xj fa62_4 (Ad aa 0) (Ad aa 7) Z Z) (Xa (Xv ag44 sz44 cL (Ad aa 7) [vs ((nth d v2).Now.Id), vi ((nth d v2).Now.Shape.Kind), G a1 a2 a3, G a4 a5 a6] Z Z (bc.cells (off := 7) Z)) ?_))))))));refine Xa (Xj fa62_1 (Ad aa 0) (Ad aa 1) Z Z) (Xa (Xo ag4 cL (Ad aa 1) (vb ((nth d v2).Had)) Z (bc.cell Z)) (Xa (Xj fa62_2 (Ad aa 0) (Ad aa 2) Z Z) (Xa (Xv ag44 sz44 cL (Ad aa 2) [vs ((nth d v2).Was.Id), vi ((nth d v2).Was.Shape.Kind), G av aw ax, G ay az a0] Z Z (bc.cells (off := 2) Z)) (Xa (Yr (.agg #[vs ((nth d v2).Id), vb ((nth d v2).Has), vs ((nth d v2).Now.Id), vi ((nth d v2).Now.Shape.Kind), G a1 a2 a3, G a4 a5 a6, vb ((nth d v2).Had), vs ((nth d v2).Was.Id), vi ((nth d v2).Was.Shape.Kind), G av aw ax, G ay az a0]) RF) ?_))));have bd := bb.stown _ bf (Xz bu);have be := bg.stw 0 Z bh;have c2 := ((cy.st bd).st be);have c4 := ((cz.st bd).st be);have c5 := ((cv.st bd).st be);have c6 := ((cw.st bd).st be);refine Xs go41 (F20.calls H bv.ok ct cx c2 c4 cu c5 c6) Z ?_;rintro _ ca ⟨r2, ab, aj, ak, ac, al, am, ad, an, ao, ae, ap, aq, rfl, H, bi, c7, bw, c8, da, db, dc, dd, de, df⟩;have cb := bv.owns bi c7 bw;have cc : (dChange_62).D ca ([] ++ ([] ++ (([] ++ (([] ++ [bk ab]) ++ [bk ac])) ++ ([] ++ ([] ++ (([] ++ [bk ad]) ++ [bk ae])))))) r2 [vs r2.Id, vb r2.Had, vs r2.Was.Id, vi r2.Was.Shape.Kind, G ab aj ak, G ac al am, vb r2.Has, vs r2.Now.Id, vi r2.Now.Shape.Kind, G ad an ao, G ae ap aq] := (dChange_62.mk _ r2 c8 da (Ds.ofOw kPt_flat db) (Ds.ofOw kTag_flat dc) dd (Ds.ofOw kPt_flat de) (Ds.ofOw kTag_flat df));have dg : DArr dChange_62 ca (([] ++ ([] ++ (([] ++ (([] ++ [bk ab]) ++ [bk ac])) ++ ([] ++ ([] ++ (([] ++ [bk ad]) ++ [bk ae])))))) ++ []) ([r2] : List Change) ([[vs r2.Id, vb r2.Had, vs r2.Was.Id, vi r2.Was.Shape.Kind, G ab aj ak, G ac al am, vb r2.Has, vs r2.Now.Id, vi r2.Now.Shape.Kind, G ad an ao, G ae ap aq]] : List (List Value)) := ⟨_, _, Z, cc, Z⟩;refine X5 (kd := Kd.cells 11) Yd cb ([[vs r2.Id, vb r2.Had, vs r2.Was.Id, vi r2.Was.Shape.Kind, G ab aj ak, G ac al am, vb r2.Has, vs r2.Now.Id, vi r2.Now.Shape.Kind, G ad an ao, G ae ap aq]] : List (List Value)) (cells := [vs r2.Id, vb r2.Had, vs r2.Was.Id, vi r2.Was.Shape.Kind, G ab aj ak, G ac al am, vb r2.Has, vs r2.Now.Id, vi r2.Now.Shape.Kind, G ad an ao, G ae ap aq]) ⟨[vs r2.Id, vb r2.Had, vs r2.Was.Id, vi r2.Was.Shape.Kind, G ab aj ak, G ac al am, vb r2.Has, vs r2.Now.Id, vi r2.Now.Shape.Kind, G ad an ao, G ae ap aq], _, Z, Dd.raw _ cc, Z⟩ RF fun ec a7 dh di bj hr151 bl dj => ?_;have bm : ((bk a7 :: bk ab :: bk ac :: bk ad :: bk ae :: some aa :: bk af :: (ag ++ [])) : Ob).Perm (bk a7 :: some aa :: bk af :: (ag ++ ((([] ++ ([] ++ (([] ++ (([] ++ [bk ab]) ++ [bk ac])) ++ ([] ++ ([] ++ (([] ++ [bk ad]) ++ [bk ae])))))) ++ []) ++ []))) := RP;have bx := bl.perm bm;obtain ⟨dk, H⟩ := H;have dl := (bl.sp (((bg.sw (b6.so _ bf (Xz bu)) 1 0 Z Z Z bh).sos bi bw).so _ bj hr151) bm);have dm := (bl.sp dj bm);have cd := (((DArr.sm (L := (some aa :: bk af :: (ag ++ []))) (O := O) (i := 0) (b7.k0 bf) bg Z (fun b hb => (mcm (List.mem_append_left _ hb))) bh).k0 bi).k0 bj);have ce := (dg.k0 bj);have dn : au.length + ([[vs r2.Id, vb r2.Had, vs r2.Was.Id, vi r2.Was.Shape.Kind, G ab aj ak, G ac al am, vb r2.Has, vs r2.Now.Id, vi r2.Now.Shape.Kind, G ad an ao, G ae ap aq]] : List (List Value)).length ≤ 268435456 := by rw [cd.len, ce.len]; exact dk
  refine Yc (kd := Kd.cells 11) Yd bx (G af ah ai) au ([[vs r2.Id, vb r2.Had, vs r2.Was.Id, vi r2.Was.Shape.Kind, G ab aj ak, G ac al am, vb r2.Has, vs r2.Now.Id, vi r2.Now.Shape.Kind, G ad an ao, G ae ap aq]] : List (List Value)) Z dl (G a7 dh di) Z dm.sx 2 Z dn fun ed a8 cf cg ch dp ci dq => ?_;have dr := (DArr.sm (L := (bk a7 :: some aa :: bk af :: (ag ++ ((([] ++ ([] ++ (([] ++ (([] ++ [bk ab]) ++ [bk ac])) ++ ([] ++ ([] ++ (([] ++ [bk ad]) ++ [bk ae])))))) ++ []) ++ [])))) (O := O) (i := 2) cd bx Z (fun b hb => (List.mem_append_left _ hb)) ch);have ds := (DArr.sm (L := (bk a7 :: some aa :: bk af :: (ag ++ ((([] ++ ([] ++ (([] ++ (([] ++ [bk ab]) ++ [bk ac])) ++ ([] ++ ([] ++ (([] ++ [bk ad]) ++ [bk ae])))))) ++ []) ++ [])))) (O := O) (i := 2) ce bx Z (fun b hb => (List.mem_append_right _ (List.mem_append_left _ hb))) ch);have dt := DArr.app dr ds;have bz : ((bk a7 :: some aa :: bk a8 :: (ag ++ ((([] ++ ([] ++ (([] ++ (([] ++ [bk ab]) ++ [bk ac])) ++ ([] ++ ([] ++ (([] ++ [bk ad]) ++ [bk ae])))))) ++ []) ++ []))) : Ob).Perm ((bk a7 :: []) ++ (some aa :: bk a8 :: (ag ++ ((([] ++ ([] ++ (([] ++ (([] ++ [bk ab]) ++ [bk ac])) ++ ([] ++ ([] ++ (([] ++ [bk ad]) ++ [bk ae])))))) ++ []) ++ [])))) := RP;have b0 := ci.drops bz;have b1 : ((some aa :: bk a8 :: (ag ++ ((([] ++ ([] ++ (([] ++ (([] ++ [bk ab]) ++ [bk ac])) ++ ([] ++ ([] ++ (([] ++ [bk ad]) ++ [bk ae])))))) ++ []) ++ []))) : Ob).Perm (some aa :: bk a8 :: ((ag ++ (([] ++ ([] ++ (([] ++ (([] ++ [bk ab]) ++ [bk ac])) ++ ([] ++ ([] ++ (([] ++ [bk ad]) ++ [bk ae])))))) ++ [])) ++ [])) := RP;have b2 := b0.perm b1;refine Xf (G a8 cf cg) Z (Xb (Xe ?_));obtain ⟨du, H⟩ := H;refine Xa (Ya v2 1 Z Z du) (Xd (vi (v2 + 1)) Z (Xb ?_));have dv := b2.drop 0 Z;obtain ⟨dw, dx⟩ := H;have dy := bv.stos bi bw;have dz := cb.stown _ bj hr151;have d0 := bl.stp bm;have d1 := b0.stp b1;have d2 := b2.std 0 Z;have d3 := (((((((((bs.st bd).st be).st dy).st dz).st d0).st dp).st (St.drops _ O bz)).st d1).st d2);have d4 := (b2.sd (b0.sp (ci.odr dq bz 1 Z) b1) 1 0 Z Z Z);have d5 := dt;exact ⟨((xs2 ++ ([r2] : List Change)), (au ++ ([[vs r2.Id, vb r2.Had, vs r2.Was.Id, vi r2.Was.Shape.Kind, G ab aj ak, G ac al am, vb r2.Has, vs r2.Now.Id, vi r2.Now.Shape.Kind, G ad an ao, G ae ap aq]] : List (List Value))), (ag ++ (([] ++ ([] ++ (([] ++ (([] ++ [bk ab]) ++ [bk ac])) ++ ([] ++ ([] ++ (([] ++ [bk ad]) ++ [bk ae])))))) ++ [])), a8, cf, cg, v2 + 1), dx, dw, (Xx Z), dv, d3, d4, d5⟩
 have H := Xm H bt;refine Yh (xin_hit ?_);exact Xc (Xe (Xd (G af ah ai) Z (Xf (G af ah ai) Z (Xb (Xn ⟨[G af ah ai], ⟨_, Z, Z⟩, xs2, af, ah, ai, ag, au, Z, H, bb.gr.g0, bb.ok, bb.ge, b6, b7⟩)))))
section
section
variable {P : Program} {n : Nat} {t : Tm} {w : World} {ty : TypeId} {pos : String} {aft : Array Edge} {d : Nat} {x : Operand} {C : World → Prop}
theorem text_cut (s : Str) (i j : Nat) : (⟨s.toArray⟩ : ByteArray).extract i j = ⟨((s.drop i).take (j - i)).toArray⟩ := by
 apply ByteArray.ext
 rw [ByteArray.data_extract]
 apply Array.ext'
 rw [Array.toList_extract]
theorem lim_cut {s : Str} (h : Lim s) (i j : Nat) : Lim ((s.drop i).take j) := by
 unfold Lim at h ⊢
 rw [List.length_take, List.length_drop]; omega
theorem Kp {T : TypeId} (hu : P.underlying T = some .string) {lo hi : Option Operand} (s : Str) (hx : evt n t x = vs s) (i j : Int) (hlo : bound n t lo 0 i) (hhi : bound n t hi (s.length : Int) j)
  (hij : 0 ≤ i ∧ i ≤ j ∧ j ≤ (s.length : Int)) :
  Pu P n t C ⟨some d, .slice T x lo hi none, ty, pos, aft, none⟩ (vs ((s.drop i.toNat).take (j.toNat - i.toNat))) := fun w hw => by
 rw [vs, ← text_cut]
 have hz : (⟨s.toArray⟩ : ByteArray).size = s.length := size_ofL s
 have key : ∀ l h : Option Value, (Instr.sliceAt T (.string ⟨s.toArray⟩) l h none).run P w = (Instr.slice T (.string ⟨s.toArray⟩) l h none).run P w := fun l h => by
  simp [Instr.sliceAt, run_underlying hu]
 simp only [execOp, hx, Sem.run_bind]
 cases lo with
 | none =>
  cases hi with
  | none => simp only [bound] at hlo hhi; subst hlo; subst hhi; simp only [Option.map_none]; rw [key, run_slice_string_all w T _ hu, hz]; simp
  | some h => simp only [bound] at hlo hhi; subst hlo; simp only [Option.map_some, Option.map_none, hhi]; rw [key, run_slice_string_h w T _ hu .i64 j hij.2.1 (by rw [hz]; exact hij.2.2)]; simp
 | some l =>
  cases hi with
  | none => simp only [bound] at hlo hhi; subst hhi; simp only [Option.map_some, Option.map_none, hlo]; rw [key, run_slice_string_l w T _ hu .i64 i hij.1 (by rw [hz]; exact hij.2.1), hz]; simp
  | some h => simp only [bound] at hlo hhi; simp only [Option.map_some, Option.map_none, hlo, hhi]; rw [key, run_slice_string w T _ .i64 .i64 i j hu hij.1 hij.2.1 (by rw [hz]; exact hij.2.2)]; simp
end
end
def F106.E (r_b : List UInt8) (r_p : Int) (Q : List Feat → Int → Prop) : Prop :=
 F70.E r_b r_p (fun r2 m => F22.E r_b m 40 (fun r3 m2 => (if r3 == 0 then F93.E r_b m2 (fun r4 m3 => (r2.length + ([r4] : List Feat).length ≤ 268435456) ∧ Q (r2 ++ ([r4] : List Feat)) m3) else (if r3 == 1 then (r2.length + r2.length ≤ 268435456) ∧ Q (r2 ++ r2) m2 else (if r3 == 2 then (∃ (I106 : (List Feat) → Int → Prop) (mu107 : (List Feat) → Int → Nat), I106 r2 0 ∧ ∀ (xs2 : List Feat) (i2 : Int), I106 xs2 i2 → (if decide (i2 ≤ 8) then (I64 (i2 + 1)) ∧ ((0 : Int) ≤ i2 ∧ (i2 : Int) ≤ i2 + 1 ∧ i2 + 1 ≤ (([113, 114, 115, 116, 117, 118, 119, 120, 121, 122] : Str).length : Int)) ∧ F127.E xs2 (⟨((([113, 114, 115, 116, 117, 118, 119, 120, 121, 122] : Str).drop i2.toNat).take ((i2 + 1).toNat - i2.toNat)), (⟨1, ([(⟨0, 0⟩ : Pt)] : List Pt)⟩ : Shape), []⟩ : Feat) (fun r5 => (I64 (i2 + 1)) ∧ I106 r5 (i2 + 1) ∧ mu107 r5 (i2 + 1) < mu107 xs2 i2) else Q xs2 m2)) else Q r2 m2)))))
theorem F106.calls {b : Nat} {r_b : List UInt8} {A2 : Option Addr} {n3 c4 : Nat} {r_p : Int} {Q : List Feat → Int → Prop} (H : F106.E r_b r_p Q) (hO : Ok w0 O) (hp5 : Sl Kd.byte w0 (Fr O) (G A2 n3 c4) r_b) (hp0 : Bx w0 b [G A2 n3 c4, vi r_p]) (hm : some b ∈ O) :
  Ret Tryz.prog 58 [Pz b] w0 (fun v w' => ∃ (r0 : List Feat) (m0 : Int) (Aw0 : Option Addr) (nw0 cw0 : Nat), v = G Aw0 nw0 cw0 ∧ Q r0 m0 ∧ Gr w0 w' (some b) ∧ Bx w' b [G A2 n3 c4, vi m0] ∧ Ok w' ([bk Aw0] ++ O) ∧ (∀ b, some b ∈ [bk Aw0] → w0.heap.size ≤ b) ∧ Ow kFeat 44 w' ([bk Aw0] ++ O) (G Aw0 nw0 cw0) r0) := by
 unfold F106.E at H;have hc0 := Ct.initm1 (r := some b) hO (by intro b e; cases e; exact hm);refine Yb Tryz.func58 Z 38 Z [.tmp 2] Z Z ?_;refine Xc (Xe (Xf (G none 0 0) Z (Xb (Xc (Xe (Xd (Pz b) Z ?_))))));refine Xs go48 (F70.calls H hc0.ok hp5 hp0 hm) Z ?_;rintro _ w7 ⟨r2, m, A9, ab, ac, rfl, H, g8, bs, bt, bu, an⟩;have ag := hc0.ownm g8 bt bu;refine Xf (G A9 ab ac) Z (Xb (Xc (Xc (Xe (Xd (Pz b) Z ?_)))));refine Xs go47 (F22.calls H ag.ok (hp5.st ag.st) bs (List.mem_append_right _ hm)) Z ?_;rintro _ bv ⟨r3, m2, rfl, H, ah, ao⟩;have ad := ag.wm ah;refine Xb (X6 (Xc (Xe (Xa (X0 r3 0 (r3 == 0) Z Z Z) (Xf (vb (r3 == 0)) Z (Xb ?_))))));refine Xu (r3 == 0) Z (fun av => ?_) (fun av => ?_)
 ·have H := Xl H av;refine Xe (Xd (G A9 ab ac) Z (Xd (Pz b) Z ?_));refine Xs go63 (F93.calls H ad.ok (hp5.st ad.st) ao (List.mem_append_right _ hm)) Z ?_;rintro _ c7 ⟨r4, m3, ba, bb, bc, bd, be, bf, rfl, H, bg, bw, bx, bz, b0⟩;have b1 := ad.wm bg;refine X5 (kd := kFeat) Yw b1 ([r4] : List Feat) (cells := [vs r4.Id, vi r4.Shape.Kind, G ba bb bc, G bd be bf]) ⟨[vs r4.Id, vi r4.Shape.Kind, G ba bb bc, G bd be bf], _, Z, (kFeat.mk _ _ r4 bx bz b0), Z⟩ RF fun c8 b2 b3 b4 bh hr47 bi b5 => ?_;obtain ⟨b6, H⟩ := H;have b7 := ((ad.swm (ag.swm an 0 Z ah) 0 Z bg).so _ bh hr47);refine Yc Yw bi (G A9 ab ac) r2 ([r4] : List Feat) Z b7 (G b2 b3 b4) Z b5.sx 1 Z b6 fun c9 ai aj ak b8 da bj b9 => ?_;refine Xf (G ai aj ak) Z (Xb (Xc (Xe (Xd (G ai aj ak) Z (Xf (G ai aj ak) Z (Xb (Xn ?_)))))));have aw := bj.drop 0 Z;have ca := (bj.sd b9 1 0 Z Z Z);have cb := (bi.bmo (bw.k0 bh) 1 Z b8);exact ⟨[G ai aj ak], ⟨_, Z, Z⟩, (r2 ++ ([r4] : List Feat)), m3, ai, aj, ak, Z, H, aw.gr.g1, cb, aw.ok, aw.ge, ca⟩
 have H := Xm H av;refine Xc (Xe (Xa (X0 r3 1 (r3 == 1) Z Z Z) (Xf (vb (r3 == 1)) Z (Xb ?_))));refine Xu (r3 == 1) Z (fun ax => ?_) (fun ax => ?_)
 ·have H := Xl H ax;refine Xc (Xe (Xd (G A9 ab ac) Z (Xd (G A9 ab ac) Z ?_)));have bl := (ag.swm an 0 Z ah);obtain ⟨cc, H⟩ := H;refine Yc Yw ad (G A9 ab ac) r2 r2 Z bl (G A9 ab ac) Z bl.sx 0 Z cc fun db ay az a0 cd dc a1 ce => ?_;refine Xf (G ay az a0) Z (Xb (Xn ?_));have cf := (ad.bmo ao 0 Z cd);exact ⟨[G ay az a0], ⟨_, Z, Z⟩, (r2 ++ r2), m2, ay, az, a0, Z, H, a1.gr.g1, cf, a1.ok, a1.ge, ce⟩
 have H := Xm H ax;refine Xc (Xe (Xa (X0 r3 2 (r3 == 2) Z Z Z) (Xf (vb (r3 == 2)) Z (Xb ?_))));refine Xu (r3 == 2) Z (fun a2 => ?_) (fun a2 => ?_)
 ·have H := Xl H a2;refine Xc (Xe (Xf (vi 0) Z (Xb (X6 ?_))));obtain ⟨cg, ch, a3, H⟩ := H;have ci := (ag.swm an 0 Z ah);refine Yj (α := (List Feat) × (Option Addr) × Nat × Nat × Int) (fun (xs2, aa, ae, af, i2) t al => cg xs2 i2 ∧ Has t [(3, G aa ae af), (4, vi i2)] ∧ Cw [some b] w0 al [bk aa] O fun M => Sl Kd.byte al (Fr M) (G A2 n3 c4) r_b ∧ Ow kFeat 44 al M (G aa ae af) xs2 ∧ Bx al b [G A2 n3 c4, vi m2]) (fun (xs2, _, _, _, i2) => ch xs2 i2) (r2, A9, ab, ac, 0) ⟨a3, (Xx Z), ad, (hp5.st ad.st), ci, ao⟩ ?_;rintro ⟨xs2, aa, ae, af, i2⟩ _ al ⟨a3, cj, am, ck, bm, bn⟩;obtain ⟨dd, rfl⟩ := Has.ins cj;have H := H xs2 i2 a3;refine Xc (Xc (Xe (Xd (vi i2) Z (Xa (X0 i2 8 (decide (i2 ≤ 8)) Z Z Z) (Xb ?_)))));refine Xu (decide (i2 ≤ 8)) Z (fun a4 => ?_) (fun a4 => ?_)
  ·have H := Xl H a4;refine Xw (Xc (X6 (Xe (Xd (G aa ae af) Z (Xd (vi i2) Z (Xd (vi i2) Z ?_))))));obtain ⟨cl, H⟩ := H;refine Xa (Ya i2 1 Z Z cl) ?_;obtain ⟨cm, H⟩ := H;refine Xa (Kp u9_ ([113, 114, 115, 116, 117, 118, 119, 120, 121, 122] : Str) Z i2 (i2 + 1) Z Z cm) (Xa (Yr (.agg #[vi 0, vi 0]) RF) (X5 (kd := kPt) Ys am ([(⟨0, 0⟩ : Pt)] : List Pt) (cells := [vi 0, vi 0]) ⟨[vi 0, vi 0], _, Z, (kPt.mk _ _ (⟨0, 0⟩ : Pt)), Z⟩ RF fun cn ap aq ar a5 hr121 au co => ?_));refine Xa (Yr (.agg #[vi 1, G ap aq ar]) RF) (Xa (Yr (.agg #[vs ((([113, 114, 115, 116, 117, 118, 119, 120, 121, 122] : Str).drop i2.toNat).take ((i2 + 1).toNat - i2.toNat)), vi 1, G ap aq ar, G none 0 0]) RF) ?_);have cp := (bm.so _ a5 hr121);have cq := au.gv cp 1 Z;have a6 := au.drop 1 Z;have cr := (au.sd co 0 1 Z Z Z);have cs := a6.gv cr 0 Z;have a7 := a6.drop 0 Z;have bo := a6.std 0 Z;refine Xs go89 (F127.calls H a7.ok (cq.st bo) (lim_cut (by decide : Lim ([113, 114, 115, 116, 117, 118, 119, 120, 121, 122] : Str)) _ _) cs (Sl.nil _ _ _ none 0 RD)) Z ?_;rintro _ ct ⟨r5, a8, bp, bq, rfl, H, a9, cu, br, cv⟩;have cw : Ct [some b] w0 ct [bk a8] O := a7.owns a9 cu br;refine Xf (G a8 bp bq) Z (Xb (Xe (Xd (vi i2) Z ?_)));obtain ⟨cx, H⟩ := H;refine Xa (Ya i2 1 Z Z cx) (Xf (vi (i2 + 1)) Z (Xb ?_));obtain ⟨cy, cz⟩ := H;have c0 := am.stown _ a5 hr121;have c1 := au.std 1 Z;have c2 := a7.stos a9 br;have c3 := ((((ck.st c0).st c1).st bo).st c2);have c5 := ((bn.k0 a5).k0 a9);exact ⟨(r5, a8, bp, bq, i2 + 1), cz, cy, (Xx Z), cw, c3, cv, c5⟩
  have H := Xm H a4;refine Yh (xin_hit ?_);exact Xc (Xe (Xd (G aa ae af) Z (Xf (G aa ae af) Z (Xb (Xn ⟨[G aa ae af], ⟨_, Z, Z⟩, xs2, m2, aa, ae, af, Z, H, am.gr.g1, bn, am.ok, am.ge, bm⟩)))))
 have H := Xm H a2;refine Xw (Xc (Xe (Xd (G A9 ab ac) Z (Xf (G A9 ab ac) Z (Xb (Xn ?_))))));have c6 := (ag.swm an 0 Z ah);exact ⟨[G A9 ab ac], ⟨_, Z, Z⟩, r2, m2, A9, ab, ac, Z, H, ad.gr.g1, ao, ad.ok, ad.ge, c6⟩
def F35.E (code : List UInt8) (Q : List Feat → List Change → Prop) : Prop :=
 F67.E code (fun r_b r_p => F106.E r_b r_p (fun r m => F71.E r (fun r2 => (if !r2 then F94.E r_b m (fun r3 m2 => Q r r3) else F22.E r_b m 5 (fun r4 m3 => (if r4 == 0 then F94.E r_b m3 (fun r5 m4 => Q r r5) else F88.E r_b m3 r (fun r6 m5 => F139.E r r6 (fun r7 => F22.E r_b m5 6 (fun r8 m6 => (if r8 == 0 then F88.E r_b m6 r (fun r9 m7 => Q r9 r7) else Q r r7))))))))))
theorem F35.calls {code : List UInt8} {A1 : Option Addr} {n2 c3 : Nat} {Q : List Feat → List Change → Prop} (H : F35.E code Q) (hO : Ok w0 O) (hp4 : Sl Kd.byte w0 (Fr O) (G A1 n2 c3) code) :
  Ret Tryz.prog 33 [G A1 n2 c3] w0 (fun v w' => ∃ (r0 : List Feat) (r1 : List Change) (Aw0 : Option Addr) (nw0 cw0 : Nat) (Aw2 : Option Addr) (nw2 cw2 : Nat), v = .tuple #[G Aw0 nw0 cw0, G Aw2 nw2 cw2] ∧ Q r0 r1 ∧ Gk w0 w' [bk Aw2] O (Sl kFeat w' (Fr ([bk Aw2] ++ O)) (G Aw0 nw0 cw0) r0 ∧ Ow kChange 62 w' ([bk Aw2] ++ O) (G Aw2 nw2 cw2) r1)) := by
 unfold F35.E at H;have hc0 := Ct.init hO;refine Yb Tryz.func33 Z 36 Z [.tmp 2, .tmp 3] Z Z ?_;refine Xc (Xe (Xf (G none 0 0) Z (Xf (G none 0 0) Z (Xb (Xc (Xe (Xd (G A1 n2 c3) Z ?_)))))));refine Xs go40 (F67.calls H hc0.ok hp4) Z ?_;rintro _ w6 ⟨r_b, r_p, b8, aj, ak, al, rfl, H, g7, cc, cd, hx9, ay⟩;have au := hc0.owns g7 cc cd;refine Xf (Pz b8) Z (Xb (Xc (Xe (Xd (Pz b8) Z ?_))));refine Xs go58 (F106.calls H au.ok ay hx9 (mem_app 0 Z)) Z ?_;rintro _ ce ⟨r, m, aa, ab, ac, rfl, H, az, br, cf, a0, av⟩;have ap := au.ownw (j := 0) Z az cf a0;refine Xf (G aa ab ac) Z (Xb (Xc (Xc (Xe (Xd (G aa ab ac) Z ?_)))));have cg := ap.gv av 0 Z;have ch := ap.drop 0 Z;refine Xs go22 (F71.calls H ch.ok cg) Z ?_;rintro _ bs ⟨r2, rfl, H, ai⟩;have af := ap.k0 ai;refine Xa (X8 r2 Z) (Xd (vb (!r2)) Z ?_);rcases X4 (!r2) with ad | ad
 ·have H := Xl H ad;refine Xi ad Z (Xi ad Z (Xi ad Z (Xa (Xk true (vb true) ad Z) (Xb (Yu (b := true) Z Z ?_)))));refine Xc (Xe (Xd (G aa ab ac) Z (Xd (Pz b8) Z ?_)));have ci := au.stow 0 Z az a0;have cj := ap.stn ai;have ck := ((ay.st ci).st cj);have cl := (br.k0 ai);refine Xs go39 (F94.calls H af.ok ck cl (mem_app 1 Z)) Z ?_;rintro _ dm ⟨r3, m2, a1, a2, a3, rfl, H, bt, dn, cm, bu, cn⟩;have a4 := af.ownw (j := 1) Z bt cm bu;refine Xf (G aa ab ac) Z (Xf (G a1 a2 a3) Z (Xb (Xn ?_)));have co := (af.sow (av.sn ai) 0 1 Z Z Z bt bu);have cp := a4.gv co 1 Z;have a5 := a4.drop 1 Z;have a6 := a5.drop 1 Z;have cq := a5.std 1 Z;have cr := (a5.sd (a4.sd cn 0 1 Z Z Z) 0 1 Z Z Z);exact ⟨[G aa ab ac, G a1 a2 a3], ⟨_, Z, ⟨_, Z, Z⟩⟩, r, r3, aa, ab, ac, a1, a2, a3, Z, H, a6.gr.g0, a6.ok, a6.ge, (cp.st cq), cr⟩
 have H := Xm H ad;refine Xh ad Z (Xd (Pz b8) Z (Xh ad Z ?_));have cs := au.stow 0 Z az a0;have ct := ap.stn ai;have a7 := ((ay.st cs).st ct);have cu := (br.k0 ai);refine Xs go47 (F22.calls H af.ok a7 cu (mem_app 1 Z)) Z ?_;rintro _ bv ⟨r4, m3, rfl, H, aq, bw⟩;have am := af.wr 1 Z aq;refine Xh ad Z (Xa (X0 r4 0 (r4 == 0) Z Z Z) (Xa (Xk false (vb (r4 == 0)) ad Z) (Xb ?_)));refine Xu (r4 == 0) Z (fun a8 => ?_) (fun a8 => ?_)
 ·have H := Xl H a8;refine Xc (Xe (Xd (G aa ab ac) Z (Xd (Pz b8) Z ?_)));have cv := af.stw 1 Z aq;refine Xs go39 (F94.calls H am.ok (a7.st cv) bw (mem_app 1 Z)) Z ?_;rintro _ dp ⟨r5, m4, a9, ba, bb, rfl, H, bx, dq, cw, bz, cx⟩;have bc := am.ownw (j := 1) Z bx cw bz;refine Xf (G aa ab ac) Z (Xf (G a9 ba bb) Z (Xb (Xn ?_)));have cy := (am.sow (af.sw (av.sn ai) 0 1 Z Z Z aq) 0 1 Z Z Z bx bz);have cz := bc.gv cy 1 Z;have bd := bc.drop 1 Z;have be := bd.drop 1 Z;have c0 := bd.std 1 Z;have c1 := (bd.sd (bc.sd cx 0 1 Z Z Z) 0 1 Z Z Z);exact ⟨[G aa ab ac, G a9 ba bb], ⟨_, Z, ⟨_, Z, Z⟩⟩, r, r5, aa, ab, ac, a9, ba, bb, Z, H, be.gr.g0, be.ok, be.ge, (cz.st c0), c1⟩
 have H := Xm H a8;refine Xw (Xc (Xe (Xd (G aa ab ac) Z (Xd (Pz b8) Z (Xd (G aa ab ac) Z ?_)))));have c2 := (af.sw (av.sn ai) 0 1 Z Z Z aq);have aw := am.gv c2 0 Z;have bf := am.drop 0 Z;have c4 := af.stw 1 Z aq;have c5 := am.std 0 Z;have b0 := ((a7.st c4).st c5);have c6 := bw;refine Xs go49 (F88.calls H bf.ok b0 c6 (mem_app 0 Z) aw) Z ?_;rintro _ c7 ⟨r6, m5, b1, b2, b3, rfl, H, b4, c8, c9⟩;have bg := bf.wr 0 Z b4;have ax := bf.stw 0 Z b4;refine Xs go50 (F139.calls H bg.ok (aw.st ax) c9) Z ?_;rintro _ b5 ⟨r7, ae, ag, ah, rfl, H, bh, da, b6, b7⟩;have an : Ct [] w0 b5 [bk ae, some b8] O := bg.owns bh da b6;refine Xf (G ae ag ah) Z (Xb (Xc (Xc (Xe (Xd (Pz b8) Z ?_)))));have bi := bg.stos bh b6;have b9 := ((b0.st ax).st bi);have db := (c8.k0 bh);refine Xs go47 (F22.calls H an.ok b9 db (mem_app 1 Z)) Z ?_;rintro _ dc ⟨r8, m6, rfl, H, ar, dd⟩;have ao := an.wr 1 Z ar;refine Xa (X0 r8 0 (r8 == 0) Z Z Z) (Xb ?_);refine Xu (r8 == 0) Z (fun bj => ?_) (fun bj => ?_)
 ·have H := Xl H bj;refine Xc (Xe (Xd (Pz b8) Z (Xd (G aa ab ac) Z ?_)));have ca := an.stw 1 Z ar;have de := (((aw.st ax).st bi).st ca);refine Xs go49 (F88.calls H ao.ok (b9.st ca) dd (mem_app 1 Z) de) Z ?_;rintro _ dr ⟨r9, m7, bl, bm, bn, rfl, H, cb, ds, df⟩;have bo := ao.wr 1 Z cb;refine Xd (G ae ag ah) Z (Xf (G bl bm bn) Z (Xf (G ae ag ah) Z (Xb (Xn ?_))));have bp := bo.drop 1 Z;have dg := bo.std 1 Z;have dh := (bo.sd (ao.sw (an.sw b7 0 1 Z Z Z ar) 0 1 Z Z Z cb) 0 1 Z Z Z);exact ⟨[G bl bm bn, G ae ag ah], ⟨_, Z, ⟨_, Z, Z⟩⟩, r9, r7, bl, bm, bn, ae, ag, ah, Z, H, bp.gr.g0, bp.ok, bp.ge, (df.st dg), dh⟩
 have H := Xm H bj;refine Xw (Xc (Xe (Xd (G aa ab ac) Z (Xd (G ae ag ah) Z (Xf (G aa ab ac) Z (Xf (G ae ag ah) Z (Xb (Xn ?_))))))));have bq := ao.drop 1 Z;have di := an.stw 1 Z ar;have dj := ao.std 1 Z;have dk := ((((aw.st ax).st bi).st di).st dj);have dl := (ao.sd (an.sw b7 0 1 Z Z Z ar) 0 1 Z Z Z);exact ⟨[G aa ab ac, G ae ag ah], ⟨_, Z, ⟨_, Z, Z⟩⟩, r, r7, aa, ab, ac, ae, ag, ah, Z, H, bq.gr.g0, bq.ok, bq.ge, dk, dl⟩
def F74.E (s : List Feat) (Q : Bool → Prop) : Prop :=
 (∃ (I19 : Int → Prop) (mu20 : Int → Nat), I19 0 ∧ ∀ (v2 : Int), I19 v2 → (if decide (v2 < (s.length : Int)) then ((0 : Int) ≤ v2 ∧ v2 < (s.length : Int)) ∧ (∃ q : Bool, F98.E (nth s v2) (fun x => x = q) ∧ (if !q then Q false else (if decide (v2 > 0) then (I64 (v2 - 1)) ∧ ((0 : Int) ≤ v2 - 1 ∧ v2 - 1 < (s.length : Int)) ∧ (if !(Op.bytesLess ((nth s (v2 - 1)).Id) ((nth s v2).Id)) then Q false else (I64 (v2 + 1)) ∧ I19 (v2 + 1) ∧ mu20 (v2 + 1) < mu20 v2) else (I64 (v2 + 1)) ∧ I19 (v2 + 1) ∧ mu20 (v2 + 1) < mu20 v2))) else Q (decide ((s.length : Int) ≤ 8))))
theorem F74.calls {s : List Feat} {A1 : Option Addr} {n2 c3 : Nat} {Q : Bool → Prop} (H : F74.E s Q) (hO : Ok w0 O) (hp4 : Sl kFeat w0 (Fr O) (G A1 n2 c3) s) :
  Ret Tryz.prog 37 [G A1 n2 c3] w0 (fun v w' => ∃ (r0 : Bool), v = vb r0 ∧ Q r0 ∧ Gr w0 w' none) := by
 unfold F74.E at H;have hc0 := Ct.init hO;refine Yb Tryz.func37 Z 34 Z [.tmp 2] Z Z ?_;refine Xc (Xe (Xf (vb false) Z (Xb (Xc (Xc (Xe (Xd (G A1 n2 c3) Z ?_)))))));have hl6 := hp4.le;refine Xa (X9 u33_ A1 n2 c3 hp4.len Z) (Xd (vi 0) Z (Xb (X6 ?_)));obtain ⟨a8, a9, ao, H⟩ := H;refine Yj (α := Int) (fun (sv__ : Int) t ap => match sv__ with | v2 => a8 v2 ∧ Has t [(0, G A1 n2 c3), (5, G A1 n2 c3), (6, vi (s.length : Int)), (7, vi v2)] ∧ Ct [] w0 ap [] O ∧ Sl kFeat ap (Fr ([] ++ O)) (G A1 n2 c3) s) (fun (sv__ : Int) => match sv__ with | v2 => a9 v2) 0 ⟨ao, (Xx Z), hc0, hp4⟩ ?_;rintro v2 _ ap ⟨ao, ba, aq, ac⟩;obtain ⟨ca, rfl⟩ := Has.ins ba;have H := H v2 ao;refine Xc (Xe (Xa (X0 v2 (s.length : Int) (decide (v2 < (s.length : Int))) Z Z Z) (Xb (Xc ?_))));refine Xu (decide (v2 < (s.length : Int))) Z (fun ar => ?_) (fun ar => ?_)
 ·have H := Xl H ar;refine Xw (Xc (X6 (Xc (Xe (Xd (vi v2) Z ?_)))));obtain ⟨ax, H⟩ := H;obtain ⟨ay, cb, bb, cc, bc, bd⟩ := ac.get default RD v2 ax;obtain ⟨ad, ae, af, ag, ah, ai, rfl, be, bf, bg⟩ := kFeat.op bc;refine Xa (X3 u33_ Y4 A1 ay n2 c3 ac.len v2 Z bb Z ax) (Xa (Xv ag44 sz44 cL (ay.add (v2.toNat * 4)) [vs ((nth s v2).Id), vi ((nth s v2).Shape.Kind), G ad ae af, G ag ah ai] Z Z bd) (Yo [vs [], .int .i64 0, G none 0 0, G none 0 0] ze44 fun cd aj az hu48 a0 bh => ?_));have a1 := aq.own a0 (some aj) (Ym az hu48);refine Xf (vi v2) Z (Yf [vs ((nth s v2).Id), vi ((nth s v2).Shape.Kind), G ad ae af, G ag ah ai] bh Z Z sz44 Z Z fun bi a2 a3 => ?_);have ak := a1.wr 0 Z a2;refine Xb (Xc (Yy (fun x => Gr bi x none) RK RK (Gr.drew _) ?_));refine Xg (Xv ag44 sz44 cQ (Ad aj 0) [vs ((nth s v2).Id), vi ((nth s v2).Shape.Kind), G ad ae af, G ag ah ai] Z Z (a3.cells (off := 00) Z)) ?_;have al := aq.stown _ a0 (Xz az);have am := a1.stw 0 Z a2;have bj := ((bf.st al).st am);have bl := ((bg.st al).st am);obtain ⟨q, bm, H⟩ := H;refine Y2 go25 [.agg #[vs ((nth s v2).Id), vi ((nth s v2).Shape.Kind), G ad ae af, G ag ah ai]] Z (vb q) (fun w g => (F98.calls bm (ak.k0 g).ok be (bj.st (.new _ g)) (bl.st (.new _ g))).mono ?_) ?_
  ·rintro _ w ⟨r, rfl, rfl, g2⟩;exact ⟨Z, Gr.t0 g g2⟩
  refine Xg (X8 q Z) (Xy (vb (!q)) Z ?_);rcases X4 (!q) with ab | ab
  ·have H := Xl H ab;refine Xq ab Z (Xq ab Z (Xq ab Z (X2 Z (X2 Z (X2 Z (X2 Z (X2 Z (X2 Z ?_))))))));refine X2 Z (X2 Z (X2 Z (Xq ab Z (Xg (Xk true (vb true) ab Z) (Ye fun ce bn => ?_)))));have bo := ak.k0 bn;refine Yu (b := true) Z Z ?_;refine Xc (Xe (Xf (vb false) Z (Xb (Xn ?_))));have bp := bo.drop 0 Z;exact ⟨[vb false], ⟨_, Z, Z⟩, false, Z, H, bp.gr.g0⟩
  have H := Xm H ab;refine Xp ab Z (Xy (vi v2) Z (Xp ab Z (Xg (X0 v2 0 (decide (v2 > 0)) Z Z Z) (Xp ab Z (Xy (vb (decide (v2 > 0))) Z ?_)))));rcases X4 (decide (v2 > 0)) with aa | aa
  ·have H := Xl H aa;refine Xp aa Z (Xy (G A1 n2 c3) Z (Xp aa Z (Xy (vi v2) Z (Xp aa Z ?_))));obtain ⟨bq, H⟩ := H;refine Xg (Y1 v2 1 Z Z bq) (Xp aa Z ?_);obtain ⟨a4, H⟩ := H;have au := ((ac.st al).st am);obtain ⟨an, cf, br, cg, bs, bt⟩ := au.get default RD (v2 - 1) a4;obtain ⟨ch, ci, cj, ck, cl, cm, rfl, cn, co, cp⟩ := kFeat.op bs;refine Xg (X3 u33_ Y4 A1 an n2 c3 au.len (v2 - 1) Z br Z a4) (Xp aa Z (Xg (Xj fa44_0 (an.add ((v2 - 1).toNat * 4)) ((an.add ((v2 - 1).toNat * 4)).add 0) Z Z) (Xp aa Z (Xg (Xo ag9 cQ ((an.add ((v2 - 1).toNat * 4)).add 0) (vs ((nth s (v2 - 1)).Id)) Z (bt 0 _ Z)) (Xp aa Z (Xg (Xj fa44_0 (Ad aj 0) (Ad aj 0) Z Z) (Xp aa Z (Xg (Xo ag9 cQ (Ad aj 0) (vs ((nth s v2).Id)) Z (a3.cell Z)) ?_))))))));refine Xp aa Z (Xg (Yt ((nth s (v2 - 1)).Id) ((nth s v2).Id) (!(Op.bytesLess ((nth s (v2 - 1)).Id) ((nth s v2).Id))) Z Z Z) (Xp ab Z (Xg (Yp true (vb (!(Op.bytesLess ((nth s (v2 - 1)).Id) ((nth s v2).Id)))) (by exact congrArg Value.bool aa) Z) (Xg (Yp false (vb (!(Op.bytesLess ((nth s (v2 - 1)).Id) ((nth s v2).Id)))) (by exact congrArg Value.bool ab) Z) (Ye fun cq a5 => ?_)))));have av := ak.k0 a5;refine Xu (!(Op.bytesLess ((nth s (v2 - 1)).Id) ((nth s v2).Id))) Z (fun aw => ?_) (fun aw => ?_)
   ·have H := Xl H aw;refine Xc (Xe (Xf (vb false) Z (Xb (Xn ?_))));have bu := av.drop 0 Z;exact ⟨[vb false], ⟨_, Z, Z⟩, false, Z, H, bu.gr.g0⟩
   have H := Xm H aw;refine Xw (Xe ?_);obtain ⟨bv, H⟩ := H;refine Xa (Ya v2 1 Z Z bv) (Xd (vi (v2 + 1)) Z (Xb ?_));have bw := av.drop 0 Z;obtain ⟨bx, bz⟩ := H;have b0 := ak.stn a5;have b1 := av.std 0 Z;have b2 := ((au.st b0).st b1);exact ⟨v2 + 1, bz, bx, (Xx Z), bw, b2⟩
  have H := Xm H aa;refine Xq aa Z (Xq aa Z (Xq aa Z (Xq aa Z (Xq aa Z (Xq aa Z (Xq aa Z (Xq aa Z (Xq aa Z ?_))))))));refine Xp ab Z (Xg (Xk false (vb false) aa Z) (Xg (Xk false (vb false) ab Z) (Ye fun cr a6 => ?_)));have a7 := ak.k0 a6;refine Y6 (b := false) Z Z ?_;refine Xw (Xe ?_);obtain ⟨b3, H⟩ := H;refine Xa (Ya v2 1 Z Z b3) (Xd (vi (v2 + 1)) Z (Xb ?_));have b4 := a7.drop 0 Z;obtain ⟨b5, b6⟩ := H;have b7 := ak.stn a6;have b8 := a7.std 0 Z;have b9 := ((((ac.st al).st am).st b7).st b8);exact ⟨v2 + 1, b6, b5, (Xx Z), b4, b9⟩
 have H := Xm H ar;refine Yh (xin_hit ?_);refine Xc (Xe (Xd (G A1 n2 c3) Z ?_));have cs := ac.le;exact Xa (X9 u33_ A1 n2 c3 ac.len Z) (Xa (X0 (s.length : Int) 8 (decide ((s.length : Int) ≤ 8)) Z Z Z) (Xf (vb (decide ((s.length : Int) ≤ 8))) Z (Xb (Xn ⟨[vb (decide ((s.length : Int) ≤ 8))], ⟨_, Z, Z⟩, decide ((s.length : Int) ≤ 8), Z, H, aq.gr.g0⟩))))
def F33.E (s : List Feat) (Q : List Feat → Prop) : Prop :=
 (∃ (I50 : (List Feat) → Int → Prop) (mu51 : (List Feat) → Int → Nat), I50 [] 0 ∧ ∀ (xs2 : List Feat) (v2 : Int), I50 xs2 v2 → (if decide (v2 < (s.length : Int)) then ((0 : Int) ≤ v2 ∧ v2 < (s.length : Int)) ∧ F39.E (nth s v2) (fun r => (xs2.length + ([r] : List Feat).length ≤ 268435456) ∧ (I64 (v2 + 1)) ∧ I50 (xs2 ++ ([r] : List Feat)) (v2 + 1) ∧ mu51 (xs2 ++ ([r] : List Feat)) (v2 + 1) < mu51 xs2 v2) else Q xs2))
theorem F33.calls {s : List Feat} {A1 : Option Addr} {n2 c3 : Nat} {Q : List Feat → Prop} (H : F33.E s Q) (hO : Ok w0 O) (hp4 : Sl kFeat w0 (Fr O) (G A1 n2 c3) s) :
  Ret Tryz.prog 81 [G A1 n2 c3] w0 (fun v w' => ∃ (r0 : List Feat) (Aw0 : Option Addr) (nw0 cw0 : Nat) (q0 : Ob) (ra0 : List (List Value)), v = G Aw0 nw0 cw0 ∧ Q r0 ∧ Gr w0 w' none ∧ Ok w' ((bk Aw0 :: (q0 ++ [])) ++ O) ∧ (∀ b, some b ∈ (bk Aw0 :: (q0 ++ [])) → w0.heap.size ≤ b) ∧ Ow (Kd.cells 4) 44 w' ((bk Aw0 :: (q0 ++ [])) ++ O) (G Aw0 nw0 cw0) ra0 ∧ DArr dFeat_44 w' q0 r0 ra0) := by
 unfold F33.E at H;have hc0 := Ct.init hO;refine Yb Tryz.func81 Z 20 Z [.tmp 2] Z Z ?_;refine Xc (Xe (Xf (G none 0 0) Z (Xb (Xc (Xe ?_)))));have b0 : DArr dFeat_44 w0 ([] : Ob) ([] : List Feat) ([] : List (List Value)) := Z;refine X5 (kd := Kd.cells 4) Yw hc0 ([] : List (List Value)) (cells := []) Z RF fun w6 A7 n8 c9 b1 hr11 bj b2 => ?_;have bl : ([bk A7] : Ob).Perm (bk A7 :: (([] : Ob) ++ [])) := RP;have ay := bj.perm bl;refine Xf (G A7 n8 c9) Z (Xb (Xc (Xc (Xe (Xd (G A1 n2 c3) Z ?_)))));have de := (hp4.st ay.st).le;refine Xa (X9 u33_ A1 n2 c3 (hp4.st ay.st).len Z) (Xd (vi 0) Z (Xb (X6 ?_)));obtain ⟨b3, b4, a6, H⟩ := H;have b5 := (bj.sp b2 bl);have b6 := (b0.k0 b1);refine Yj (α := (List Feat) × (List (List Value)) × Ob × (Option Addr) × Nat × Nat × Int) (fun (xs2, al, ad, ac, af, ag, v2) t aw => b3 xs2 v2 ∧ Has t [(3, G ac af ag), (7, G A1 n2 c3), (8, vi (s.length : Int)), (9, vi v2)] ∧ Cw [] w0 aw (bk ac :: (ad ++ [])) O fun M => Sl kFeat aw (Fr M) (G A1 n2 c3) s ∧ Ow (Kd.cells 4) 44 aw M (G ac af ag) al ∧ DArr dFeat_44 aw ad xs2 al) (fun (xs2, _, _, _, _, _, v2) => b4 xs2 v2) (([] : List Feat), ([] : List (List Value)), ([] : Ob), A7, n8, c9, 0) ⟨a6, (Xx Z), ay, (hp4.st ay.st), b5, b6⟩ ?_;rintro ⟨xs2, al, ad, ac, af, ag, v2⟩ _ aw ⟨a6, b7, ax, a7, bm, bn⟩;obtain ⟨df, rfl⟩ := Has.ins b7;have H := H xs2 v2 a6;refine Xc (Xe (Xa (X0 v2 (s.length : Int) (decide (v2 < (s.length : Int))) Z Z Z) (Xb (Xc ?_))));refine Xu (decide (v2 < (s.length : Int))) Z (fun a8 => ?_) (fun a8 => ?_)
 ·have H := Xl H a8;refine Xw (Xc (X6 (Xc (Xe ?_))));obtain ⟨bo, H⟩ := H;obtain ⟨bp, dg, b8, dh, b9, ca⟩ := a7.get default RD v2 bo;obtain ⟨an, ao, ap, aq, ar, au, rfl, cb, cc, cd⟩ := kFeat.op b9;refine Xa (X3 u33_ Y4 A1 bp n2 c3 a7.len v2 Z b8 Z bo) (Xa (Xv ag44 sz44 cL (bp.add (v2.toNat * 4)) [vs ((nth s v2).Id), vi ((nth s v2).Shape.Kind), G an ao ap, G aq ar au] Z Z ca) (Yo [vs [], .int .i64 0, G none 0 0, G none 0 0] ze44 fun di ae a9 hu81 az ce => ?_));have a0 := ax.own az (some ae) (Ym a9 hu81);refine Yf [vs ((nth s v2).Id), vi ((nth s v2).Shape.Kind), G an ao ap, G aq ar au] ce Z Z sz44 Z Z fun cf a1 cg => ?_;have ba := a0.wr 0 Z a1;refine Xb (Xe (Xd (G ac af ag) Z (Xa (Xv ag44 sz44 cL (Ad ae 0) [vs ((nth s v2).Id), vi ((nth s v2).Shape.Kind), G an ao ap, G aq ar au] Z Z (cg.cells (off := 00) Z)) ?_)));have bb := ax.stown _ az (Xz a9);have bc := a0.stw 0 Z a1;have ch := ((cc.st bb).st bc);have ci := ((cd.st bb).st bc);refine Xs go77 (F39.calls H ba.ok cb ch ci) Z ?_;rintro _ bq ⟨r, aa, ah, ai, ab, aj, ak, rfl, H, a2, cj, bd, ck, cl, cm⟩;have br := ba.owns a2 cj bd;have bs : (dFeat_44).D bq ([] ++ (([] ++ [bk aa]) ++ [bk ab])) r [vs r.Id, vi r.Shape.Kind, G aa ah ai, G ab aj ak] := (dFeat_44.mk _ r ck (Ds.ofOw kPt_flat cl) (Ds.ofOw kTag_flat cm));have cn : DArr dFeat_44 bq (([] ++ (([] ++ [bk aa]) ++ [bk ab])) ++ []) ([r] : List Feat) ([[vs r.Id, vi r.Shape.Kind, G aa ah ai, G ab aj ak]] : List (List Value)) := ⟨_, _, Z, bs, Z⟩;refine X5 (kd := Kd.cells 4) Yw br ([[vs r.Id, vi r.Shape.Kind, G aa ah ai, G ab aj ak]] : List (List Value)) (cells := [vs r.Id, vi r.Shape.Kind, G aa ah ai, G ab aj ak]) ⟨[vs r.Id, vi r.Shape.Kind, G aa ah ai, G ab aj ak], _, Z, Dd.raw _ bs, Z⟩ RF fun dj am co cp a3 hr116 a4 cq => ?_;have a5 : ((bk am :: bk aa :: bk ab :: some ae :: bk ac :: (ad ++ [])) : Ob).Perm (bk am :: some ae :: bk ac :: (ad ++ ((([] ++ (([] ++ [bk aa]) ++ [bk ab])) ++ []) ++ []))) := RP;have be := a4.perm a5;obtain ⟨cr, H⟩ := H;have cs := (a4.sp (((a0.sw (bm.so _ az (Xz a9)) 1 0 Z Z Z a1).sos a2 bd).so _ a3 hr116) a5);have ct := (a4.sp cq a5);have bt := (((DArr.sm (L := (some ae :: bk ac :: (ad ++ []))) (O := O) (i := 0) (bn.k0 az) a0 Z (fun b hb => (mcm (List.mem_append_left _ hb))) a1).k0 a2).k0 a3);have bu := (cn.k0 a3);have cu : al.length + ([[vs r.Id, vi r.Shape.Kind, G aa ah ai, G ab aj ak]] : List (List Value)).length ≤ 268435456 := by rw [bt.len, bu.len]; exact cr
  refine Yc (kd := Kd.cells 4) Yw be (G ac af ag) al ([[vs r.Id, vi r.Shape.Kind, G aa ah ai, G ab aj ak]] : List (List Value)) Z cs (G am co cp) Z ct.sx 2 Z cu fun dk av bv bw bx cv bz cw => ?_;have cx := (DArr.sm (L := (bk am :: some ae :: bk ac :: (ad ++ ((([] ++ (([] ++ [bk aa]) ++ [bk ab])) ++ []) ++ [])))) (O := O) (i := 2) bt be Z (fun b hb => (List.mem_append_left _ hb)) bx);have cy := (DArr.sm (L := (bk am :: some ae :: bk ac :: (ad ++ ((([] ++ (([] ++ [bk aa]) ++ [bk ab])) ++ []) ++ [])))) (O := O) (i := 2) bu be Z (fun b hb => (List.mem_append_right _ (List.mem_append_left _ hb))) bx);have cz := DArr.app cx cy;have bf : ((bk am :: some ae :: bk av :: (ad ++ ((([] ++ (([] ++ [bk aa]) ++ [bk ab])) ++ []) ++ []))) : Ob).Perm ((bk am :: []) ++ (some ae :: bk av :: (ad ++ ((([] ++ (([] ++ [bk aa]) ++ [bk ab])) ++ []) ++ [])))) := RP;have bg := bz.drops bf;have bh : ((some ae :: bk av :: (ad ++ ((([] ++ (([] ++ [bk aa]) ++ [bk ab])) ++ []) ++ []))) : Ob).Perm (some ae :: bk av :: ((ad ++ (([] ++ (([] ++ [bk aa]) ++ [bk ab])) ++ [])) ++ [])) := RP;have bi := bg.perm bh;refine Xf (G av bv bw) Z (Xb (Xe ?_));obtain ⟨c0, H⟩ := H;refine Xa (Ya v2 1 Z Z c0) (Xd (vi (v2 + 1)) Z (Xb ?_));have c1 := bi.drop 0 Z;obtain ⟨c2, c4⟩ := H;have c5 := ba.stos a2 bd;have c6 := br.stown _ a3 hr116;have c7 := a4.stp a5;have c8 := bg.stp bh;have da := bi.std 0 Z;have db := (((((((((a7.st bb).st bc).st c5).st c6).st c7).st cv).st (St.drops _ O bf)).st c8).st da);have dc := (bi.sd (bg.sp (bz.odr cw bf 1 Z) bh) 1 0 Z Z Z);have dd := cz;exact ⟨((xs2 ++ ([r] : List Feat)), (al ++ ([[vs r.Id, vi r.Shape.Kind, G aa ah ai, G ab aj ak]] : List (List Value))), (ad ++ (([] ++ (([] ++ [bk aa]) ++ [bk ab])) ++ [])), av, bv, bw, v2 + 1), c4, c2, (Xx Z), c1, db, dc, dd⟩
 have H := Xm H a8;refine Yh (xin_hit ?_);exact Xc (Xe (Xd (G ac af ag) Z (Xf (G ac af ag) Z (Xb (Xn ⟨[G ac af ag], ⟨_, Z, Z⟩, xs2, ac, af, ag, ad, al, Z, H, ax.gr.g0, ax.ok, ax.ge, bm, bn⟩)))))
def F55.E (f : Feat) (fv2 : Str) (Q : Bool → Prop) : Prop :=
 Q (f.Id == fv2)
theorem F55.calls {f : Feat} {A2 : Option Addr} {n3 c4 : Nat} {A7 : Option Addr} {n8 c9 : Nat} {b : Nat} {fv2 : Str} {Q : Bool → Prop} (H : F55.E f fv2 Q) (hO : Ok w0 O) (hs1 : Lim f.Id) (hp5 : Sl kPt w0 (Fr O) (G A2 n3 c4) f.Shape.Pts) (ah : Sl kTag w0 (Fr O) (G A7 n8 c9) f.Tags) (ai : Lim fv2) (hp1 : Fb w0 O b [vs fv2]) :
  Ret Tryz.prog 128 [.agg #[vs f.Id, vi f.Shape.Kind, G A2 n3 c4, G A7 n8 c9], Pz b] w0 (fun v w' => ∃ (r0 : Bool), v = vb r0 ∧ Q r0 ∧ Gr w0 w' none) := by
 unfold F55.E at H;have hc0 := Ct.init hO;refine Yb Tryz.func128 Z 8 Z [.tmp 3] Z Z ?_;refine Xc (Xe (Yq [vs f.Id, vi f.Shape.Kind, G A2 n3 c4, G A7 n8 c9] Z fun aj aa ac hu18 ad ae => ?_));have af := Fb.mk hc0.ok ac ae;have ab := hc0.k0 ad;refine Xf (vb false) Z (Xb (Xc (Xe (Xa (Xj fa44_0 (Ad aa 0) (Ad aa 0) Z Z) (Xa (Xo ag9 cL (Ad aa 0) (vs f.Id) Z (af.cell Z)) ?_)))));have ag := (hp1.st ab.st);exact Xa (Xo ag9 cL (Ad b 0) (vs fv2) Z (ag.cell Z)) (Xa (Yt f.Id fv2 (f.Id == fv2) Z Z Z) (Xf (vb (f.Id == fv2)) Z (Xb (Xn ⟨[vb (f.Id == fv2)], ⟨_, Z, Z⟩, f.Id == fv2, Z, H, ab.gr.g0⟩))))
def F2.E (s : List Feat) (f : Feat → Bool) (f_ok : Feat → Prop) (Q : Int → Prop) : Prop :=
 (∃ (I23 : Int → Prop) (mu24 : Int → Nat), I23 0 ∧ ∀ (v2 : Int), I23 v2 → (if decide (v2 < (s.length : Int)) then ((0 : Int) ≤ v2 ∧ v2 < (s.length : Int)) ∧ (f_ok (nth s v2)) ∧ (if (f (nth s v2)) then Q v2 else (I64 (v2 + 1)) ∧ I23 (v2 + 1) ∧ mu24 (v2 + 1) < mu24 v2) else Q (-1)))
theorem F2.calls {s : List Feat} {A1 : Option Addr} {n2 c3 : Nat} {fg6 : FuncId} {fc7 : List Value} {f : Feat → Bool} {f_ok : Feat → Prop} {Q : Int → Prop} (H : F2.E s f f_ok Q) (hO : Ok w0 O) (hp4 : Sl kFeat w0 (Fr O) (G A1 n2 c3) s) (hgo8 : Goes Tryz.prog fg6) (hf9 : ∀ (w : World) (L : Ob), Ct [] w0 w L O → ∀ (x0_ : Feat) (am : Option Addr) (an ao : Nat) (ap : Option Addr) (aq ar : Nat) (bc : Lim x0_.Id) (bd : Sl kPt w (Fr (L ++ O)) (G am an ao) x0_.Shape.Pts) (be : Sl kTag w (Fr (L ++ O)) (G ap aq ar) x0_.Tags), f_ok x0_ → Ret Tryz.prog fg6 ([.agg #[vs x0_.Id, vi x0_.Shape.Kind, G am an ao, G ap aq ar]] ++ fc7) w (fun v w' => v = vb (f x0_) ∧ Gr w w' none)) :
  Ret Tryz.prog 127 [G A1 n2 c3, .func (.func fg6) #[] fc7.toArray] w0 (fun v w' => ∃ (r0 : Int), v = vi r0 ∧ Q r0 ∧ Gr w0 w' none) := by
 unfold F2.E at H;have hc0 := Ct.init hO;refine Yb Tryz.func127 Z 19 Z [.tmp 4] Z Z ?_;refine Xc (Xe (Xf (vi 0) Z (Xb (Xc (Xc (Xe (Xd (G A1 n2 c3) Z ?_)))))));have bf := hp4.le;refine Xa (X9 u33_ A1 n2 c3 hp4.len Z) (Xd (vi 0) Z (Xb (X6 ?_)));obtain ⟨ay, az, ac, H⟩ := H;refine Yj (α := Int) (fun (sv__ : Int) t aa => match sv__ with | v2 => ay v2 ∧ Has t [(0, G A1 n2 c3), (1, .func (.func fg6) #[] fc7.toArray), (7, vi (s.length : Int)), (8, vi v2)] ∧ Ct [] w0 aa [] O ∧ Sl kFeat aa (Fr ([] ++ O)) (G A1 n2 c3) s) (fun (sv__ : Int) => match sv__ with | v2 => az v2) 0 ⟨ac, (Xx Z), hc0, hp4⟩ ?_;rintro v2 _ aa ⟨ac, a0, ab, ad⟩;obtain ⟨bg, rfl⟩ := Has.ins a0;have H := H v2 ac;refine Xc (Xe (Xa (X0 v2 (s.length : Int) (decide (v2 < (s.length : Int))) Z Z Z) (Xb (Xc ?_))));refine Xu (decide (v2 < (s.length : Int))) Z (fun ae => ?_) (fun ae => ?_)
 ·have H := Xl H ae;refine Xw (Xc (X6 (Xc (Xe (Xd (vi v2) Z (Xf (vi v2) Z (Xb (Xc ?_))))))));refine Xe (Xd (.func (.func fg6) #[] fc7.toArray) Z (Xd (G A1 n2 c3) Z (Xd (vi v2) Z ?_)));obtain ⟨au, H⟩ := H;obtain ⟨av, bh, a1, bi, a2, a3⟩ := ad.get default RD v2 au;obtain ⟨af, ag, ah, ai, aj, ak, rfl, a4, a5, a6⟩ := kFeat.op a2;refine Xa (X3 u33_ Y4 A1 av n2 c3 ad.len v2 Z a1 Z au) (Xa (Xv ag44 sz44 cL (av.add (v2.toNat * 4)) [vs ((nth s v2).Id), vi ((nth s v2).Shape.Kind), G af ag ah, G ai aj ak] Z Z a3) ?_);obtain ⟨a7, H⟩ := H;refine Zs hgo8 fc7 Z [.agg #[vs ((nth s v2).Id), vi ((nth s v2).Shape.Kind), G af ag ah, G ai aj ak]] Z ((hf9 aa [] ab (nth s v2) af ag ah ai aj ak a4 a5 a6 a7).mono ?_);rintro _ bj ⟨rfl, aw⟩;have ax := ab.k0 aw;refine Xb ?_;refine Xu (f (nth s v2)) Z (fun al => ?_) (fun al => ?_)
  ·have H := Xl H al;exact Xc (Xe (Xd (vi v2) Z (Xf (vi v2) Z (Xb (Xn ⟨[vi v2], ⟨_, Z, Z⟩, v2, Z, H, ax.gr.g0⟩)))))
  have H := Xm H al;refine Xw (Xe ?_);obtain ⟨a8, H⟩ := H;refine Xa (Ya v2 1 Z Z a8) (Xd (vi (v2 + 1)) Z (Xb ?_));obtain ⟨a9, ba⟩ := H;have bb := ab.stn aw;exact ⟨v2 + 1, ba, a9, (Xx Z), ax, (ad.st bb)⟩
 have H := Xm H ae;refine Yh (xin_hit ?_);exact Xc (Xe (Xf (vi (-1)) Z (Xb (Xn ⟨[vi (-1)], ⟨_, Z, Z⟩, (-1), Z, H, ab.gr.g0⟩))))
def F107.E (s : List Feat) (id : Str) (Q : Int → Prop) : Prop :=
 (∃ (f : Feat → Bool) (f_ok : Feat → Prop), (∀ x0_, f_ok x0_ → F55.E x0_ id (fun r => r = f x0_)) ∧ F2.E s f f_ok (fun r => Q r))
theorem F107.calls {s : List Feat} {A1 : Option Addr} {n2 c3 : Nat} {id : Str} {Q : Int → Prop} (H : F107.E s id Q) (hO : Ok w0 O) (hp4 : Sl kFeat w0 (Fr O) (G A1 n2 c3) s) (hs6 : Lim id) :
  Ret Tryz.prog 82 [G A1 n2 c3, vs id] w0 (fun v w' => ∃ (r0 : Int), v = vi r0 ∧ Q r0 ∧ Gr w0 w' none) := by
 unfold F107.E at H;have hc0 := Ct.init hO;refine Yb Tryz.func82 Z 8 Z [.tmp 4] Z Z ?_;refine Xc (Xe (Yq [vs id] Z fun w7 b8 ak hu11 g9 al => ?_));have am := Fb.mk hc0.ok ak al;have ag := hc0.k0 g9;refine Xf (vi 0) Z (Xb (Xc (Xe (Xd (G A1 n2 c3) Z (Xa (Z2 [Pz b8] Z) ?_)))));obtain ⟨f, f_ok, an, H⟩ := H;have ao : ∀ (w : World) (L : Ob), Ct [] w7 w L ([] ++ O) → ∀ (x0_ : Feat) (aa : Option Addr) (ab ac : Nat) (ad : Option Addr) (ae af : Nat) (ah : Lim x0_.Id) (ai : Sl kPt w (Fr (L ++ ([] ++ O))) (G aa ab ac) x0_.Shape.Pts) (aj : Sl kTag w (Fr (L ++ ([] ++ O))) (G ad ae af) x0_.Tags), f_ok x0_ → Ret Tryz.prog 128 ([.agg #[vs x0_.Id, vi x0_.Shape.Kind, G aa ab ac, G ad ae af]] ++ [Pz b8]) w (fun v w' => v = vb (f x0_) ∧ Gr w w' none) := by
  intro w L c x0_ aa ab ac ad ae af ah ai aj hok;refine (F55.calls (an x0_ hok) c.ok ah ai aj hs6 (am.st c.st)).mono ?_;rintro _ w2 ⟨r, rfl, rfl, g2⟩;exact ⟨Z, g2⟩
 refine Xs go127 (F2.calls H ag.ok (hp4.st ag.st) go128 ao) Z ?_;rintro _ ar ⟨r, rfl, H, ap⟩;have aq := ag.k0 ap;exact Xf (vi r) Z (Xb (Xn ⟨[vi r], ⟨_, Z, Z⟩, r, Z, H, aq.gr.g0⟩))
def F141.E (s : List Feat) (id : Str) (Q : Feat → Bool → Prop) : Prop :=
 F107.E s id (fun r => (if decide (r < 0) then Q (⟨[], (⟨0, []⟩ : Shape), []⟩ : Feat) false else ((0 : Int) ≤ r ∧ r < (s.length : Int)) ∧ F39.E (nth s r) (fun r2 => Q r2 true)))
theorem F141.calls {s : List Feat} {A1 : Option Addr} {n2 c3 : Nat} {id : Str} {Q : Feat → Bool → Prop} (H : F141.E s id Q) (hO : Ok w0 O) (hp4 : Sl kFeat w0 (Fr O) (G A1 n2 c3) s) (hs6 : Lim id) :
  Ret Tryz.prog 60 [G A1 n2 c3, vs id] w0 (fun v w' => ∃ (r0 : Feat) (r1 : Bool) (Aw0 : Option Addr) (nw0 cw0 : Nat) (Aw2 : Option Addr) (nw2 cw2 : Nat), v = .tuple #[.agg #[vs r0.Id, vi r0.Shape.Kind, G Aw0 nw0 cw0, G Aw2 nw2 cw2], vb r1] ∧ Q r0 r1 ∧ Gk w0 w' [bk Aw0, bk Aw2] O (Lim r0.Id ∧ Ow kPt 49 w' ([bk Aw0, bk Aw2] ++ O) (G Aw0 nw0 cw0) r0.Shape.Pts ∧ Ow kTag 93 w' ([bk Aw0, bk Aw2] ++ O) (G Aw2 nw2 cw2) r0.Tags)) := by
 unfold F141.E at H;have hc0 := Ct.init hO;refine Yb Tryz.func60 Z 18 Z [.cell 4 44, .tmp 5] Z Z ?_;refine Xc (Xe (Yo [vs [], .int .i64 0, G none 0 0, G none 0 0] ze44 fun w7 b8 a4 hu11 g9 az => ?_));have ak := hc0.own g9 (some b8) (Ym a4 hu11);refine Xf (vb false) Z (Xb (Xc (Xe (Xd (G A1 n2 c3) Z (Xd (vs id) Z ?_)))));refine Xs go82 (F107.calls H ak.ok (hp4.st ak.st) hs6) Z ?_;rintro _ a5 ⟨r, rfl, H, al⟩;have aa := ak.k0 al;refine Xf (vi r) Z (Xb (Xc (Xc (Xe (Xd (vi r) Z (Xa (X0 r 0 (decide (r < 0)) Z Z Z) (Xb ?_)))))));refine Xu (decide (r < 0)) Z (fun am => ?_) (fun am => ?_)
 ·have H := Xl H am;refine Xc (Xe (Xa (Yr (.agg #[vs [], vi 0, G none 0 0, G none 0 0]) RF) ?_));have a6 := (az.k0 al);refine Yf [vs [], vi 0, G none 0 0, G none 0 0] a6 Z Z sz44 Z Z fun a0 a7 a8 => ?_;have a9 := aa.wr 0 Z a7;refine Xf (vb false) Z (Xb (Xn ?_));have ba := a9.own (Gr.refl _ none) none (by simp);have bb : Ow kPt 49 a0 ([bk none, some b8] ++ O) (G none 0 0) [] := Ow.nil _ _ _ _;have ab := ba.own (Gr.refl _ none) none (by simp);have bc : Ow kTag 93 a0 ([bk none, bk none, some b8] ++ O) (G none 0 0) [] := Ow.nil _ _ _ _;have bd := a8;have be := ab.bgv bd 2 Z;have ac := ab.drop 2 Z;have an := ac.perm (.swap _ _ _);have bf := ac.stp (.swap _ _ _);have bg := (be.st bf);have bh := (ac.sp (ab.sd (bb.so none (Gr.refl _ none) (by simp)) 1 2 Z Z Z) (.swap _ _ _));have bi := (ac.sp (ab.sd bc 0 2 Z Z Z) (.swap _ _ _));exact ⟨[.agg #[vs [], vi 0, G none 0 0, G none 0 0], vb false], ⟨_, _, Z, bg.1.res Z ag44 sz44, ⟨_, Z, Z⟩⟩, (⟨([] : Str), (⟨0, ([] : List Pt)⟩ : Shape), ([] : List Tag)⟩ : Feat), false, none, 0, 0, none, 0, 0, Z, H, an.gr.g0, an.ok, an.ge, RD, bh, bi⟩
 have H := Xm H am;refine Xw (Xc (Xe (Xd (G A1 n2 c3) Z (Xd (vi r) Z ?_))));obtain ⟨a1, H⟩ := H;obtain ⟨a2, b1, bj, b2, bl, bm⟩ := (hp4.st aa.st).get default RD r a1;obtain ⟨ao, ap, aq, ar, au, av, rfl, bn, bo, bp⟩ := kFeat.op bl;refine Xa (X3 u33_ Y4 A1 a2 n2 c3 (hp4.st aa.st).len r Z bj Z a1) (Xa (Xv ag44 sz44 cL (a2.add (r.toNat * 4)) [vs ((nth s r).Id), vi ((nth s r).Shape.Kind), G ao ap aq, G ar au av] Z Z bm) ?_);refine Xs go77 (F39.calls H aa.ok bn bo bp) Z ?_;rintro _ b3 ⟨r2, ad, ae, af, ag, ah, ai, rfl, H, a3, bq, br, bs, bt, bu⟩;have aw := aa.owns a3 bq br;have bv := ((az.k0 al).k0 a3);refine Yf [vs r2.Id, vi r2.Shape.Kind, G ad ae af, G ag ah ai] bv Z Z sz44 Z Z fun b4 ax bw => ?_;have aj := aw.wr 2 Z ax;refine Xf (vb true) Z (Xb (Xn ?_));have bx := aj.bgv bw 2 Z;have ay := aj.drop 2 Z;have bz := (aj.sd (aw.sw bt 0 2 Z Z Z ax) 0 2 Z Z Z);have b0 := (aj.sd (aw.sw bu 1 2 Z Z Z ax) 1 2 Z Z Z);exact ⟨[.agg #[vs r2.Id, vi r2.Shape.Kind, G ad ae af, G ag ah ai], vb true], ⟨_, _, Z, bx.1.res Z ag44 sz44, ⟨_, Z, Z⟩⟩, r2, true, ad, ae, af, ag, ah, ai, Z, H, ay.gr.g0, ay.ok, ay.ge, bs, bz, b0⟩
section
open Go.RowKit Go.Shelf Go.Sort Go.Lib
section
variable {β : Type} {kd : Kd β} {w : World} {S : Sp} {e : TypeId} {O : Ob}
theorem Arr.pairs : ∀ {xs : List β} {cells : List Value}, Arr kd w S xs cells → ∃ ps : List (β × List Value), ps.map (·.1) = xs ∧ cells = (ps.map (·.2)).flatten ∧ ∀ p ∈ ps, kd.R w S p.1 p.2
 | [], _, h => ⟨[], rfl, h, fun p hp => by cases hp⟩
 | x :: xs, _, ⟨c1, c2, e, h1, h2⟩ => by
  obtain ⟨ps, e1, e2, h3⟩ := Arr.pairs h2
  refine ⟨(x, c1) :: ps, by simp [e1], by simp [e, e2], fun p hp => ?_⟩
  rcases List.mem_cons.1 hp with rfl | hp
  ·exact h1
  ·exact h3 p hp
theorem Arr.ofPairs : ∀ {ps : List (β × List Value)}, (∀ p ∈ ps, kd.R w S p.1 p.2) → Arr kd w S (ps.map (·.1)) (ps.map (·.2)).flatten
 | [], _ => rfl
 | p :: ps, h => ⟨p.2, _, by simp, h p List.mem_cons_self, Arr.ofPairs fun q hq => h q (List.mem_cons_of_mem _ hq)⟩
abbrev KE (kd : Kd β) (key : β → Str) : Type := { p : β × List Value // p.2.length = kd.sz ∧ (∀ v ∈ p.2, v.oneCell' = true) ∧ p.2[0]? = some (vs (key p.1)) }
def KE.cs {key : β → Str} (x : KE kd key) : List Value := x.1.2
theorem flat_len {key : β → Str} : ∀ l : List (KE kd key), ((l.map KE.cs).flatten).length = l.length * kd.sz
 | [] => by simp
 | x :: l => by simp only [List.map_cons, List.flatten_cons, List.length_append, List.length_cons]; rw [flat_len l, Nat.add_mul, Nat.one_mul, KE.cs, x.2.1]; omega
theorem flat_get {key : β → Str} (hk : 0 < kd.sz) : ∀ (l : List (KE kd key)) (t : Nat), t < l.length * kd.sz → ((l.map KE.cs).flatten)[t]? = (l[t / kd.sz]?).bind fun x => x.cs[t % kd.sz]?
 | [], t, h => by simp at h
 | x :: l, t, h => by
  rw [List.map_cons, List.flatten_cons]
  have hx : x.cs.length = kd.sz := x.2.1
  by_cases ht : t < kd.sz
  ·rw [List.getElem?_append_left OM, Nat.div_eq_of_lt ht, Nat.mod_eq_of_lt ht]; rfl
  ·rw [List.getElem?_append_right OM, hx, flat_get hk l (t - kd.sz) (by rw [List.length_cons, Nat.add_mul, Nat.one_mul] at h; omega)]
   have e1 : t / kd.sz = (t - kd.sz) / kd.sz + 1 := by rw [← Nat.add_div_right _ hk, Nat.sub_add_cancel OM]
   have e2 : t % kd.sz = (t - kd.sz) % kd.sz := by conv => lhs; rw [← Nat.sub_add_cancel (Nat.le_of_not_lt ht), Nat.add_mod_right]
   rw [e1, e2, List.getElem?_cons_succ]
theorem flatK_list {key : β → Str} [Inhabited (KE kd key)] (hk : 0 < kd.sz) (d : Array (KE kd key)) : (flatK KE.cs kd.sz d).toList = (d.toList.map KE.cs).flatten := by
 apply List.ext_getElem?
 intro t
 by_cases ht : t < d.size * kd.sz
 ·have h1 : t / kd.sz < d.size := Nat.div_lt_of_lt_mul (by rw [Nat.mul_comm]; exact ht)
  rw [flat_get hk _ _ (by simpa using ht)]
  have h2 : (flatK KE.cs kd.sz d).toList[t]? = some ((flatK KE.cs kd.sz d)[t]!) := by
   rw [Array.getElem?_toList, getElem!_pos (flatK KE.cs kd.sz d) t (by rw [size_flatK]; exact ht)]; exact Array.getElem?_eq_getElem _
  rw [h2, get_flatK _ _ _ _ ht]
  have h3 : d.toList[t / kd.sz]? = some d[t / kd.sz]! := by rw [Array.getElem?_toList, getElem!_pos d (t / kd.sz) h1]; exact Array.getElem?_eq_getElem _
  rw [h3, Option.bind_some]
  have h4 : (d[t / kd.sz]!).cs.length = kd.sz := (d[t / kd.sz]!).2.1
  have h5 : t % kd.sz < (d[t / kd.sz]!).cs.length := by rw [h4]; exact Nat.mod_lt _ hk
  rw [List.getElem?_eq_getElem h5, getElem!_pos ((d[t / kd.sz]!).cs) (t % kd.sz) h5]
 ·rw [List.getElem?_eq_none (by rw [Array.length_toList, size_flatK]; omega), List.getElem?_eq_none (by rw [flat_len, Array.length_toList]; omega)]
theorem add0 (g t : Nat) : (⟨g, 0, none⟩ : Addr).add t = ⟨g, 0 + t, none⟩ := by unfold Addr.add; split <;> simp_all
theorem Ow.sortK (hk : 0 < kd.sz) (key : β → Str) [Inhabited (KE kd key)] (hkey : ∀ x cs, kd.R w (Fr O) x cs → cs[0]? = some (vs (key x))) {A : Option Addr} {n c : Nat} {xs : List β} (h : Ow kd e w O (.slice A n c) xs) (hx : 0 < xs.length) :
  ∃ (g : Nat) (d : Array (KE kd key)), A = some ⟨g, 0, none⟩ ∧ n = d.size ∧ d.toList.map (·.1.1) = xs ∧ HoldsK KE.cs kd.sz w g 0 d ∧ g < w.heap.size ∧
   ∀ (d' : Array (KE kd key)) (q : Nat) (os : Array Obj), d'.toList.Perm d.toList →
    Gr w (sortWorldK KE.cs kd.sz w g 0 q d' os) (some g) ∧ Ow kd e (sortWorldK KE.cs kd.sz w g 0 q d' os) O (.slice A n c) (d'.toList.map (·.1.1)) := by
 obtain ⟨cells, o1, o2, o3⟩ := h
 obtain ⟨ps, e1, e2, e3⟩ := Arr.pairs o2
 obtain ⟨l, hl⟩ : ∃ l : List (KE kd key), l.map (·.1) = ps := by
  have : ∀ ps : List (β × List Value), (∀ p ∈ ps, kd.R w (Fr O) p.1 p.2) → ∃ l : List (KE kd key), l.map (·.1) = ps := fun ps => by
   induction ps with
   | nil => exact fun _ => ⟨[], rfl⟩
   | cons p ps ih =>
    intro hp
    obtain ⟨l, hl⟩ := ih fun q hq => hp q (List.mem_cons_of_mem _ hq)
    have h := hp p List.mem_cons_self
    exact ⟨⟨p, kd.len h, kd.one h, hkey _ _ h⟩ :: l, by rw [List.map_cons, hl]⟩
  exact this ps e3
 subst hl
 have hcs : cells = (l.map KE.cs).flatten := by rw [e2, List.map_map]; rfl
 have hxs : xs = l.map (·.1.1) := by rw [← e1, List.map_map]; rfl
 have hll : l.length = xs.length := by rw [hxs, List.length_map]
 rcases o1.2 with ⟨_, e'⟩ | ⟨g, cap, cur, ev, h0, hg, hle, hmx, hcur, htake⟩
 ·exfalso
  have := (show n = xs.length from by
   have := o1.1; omega)
  omega
 cases ev
 have hgl : g < w.heap.size := (Array.getElem?_eq_some_iff.1 hg).1
 refine ⟨g, l.toArray, rfl, by simp [hll], by simp [hxs], ?_, hgl, fun d' q os hp => ?_⟩
 ·intro t ht
  have ht' : t < l.length * kd.sz := by simpa using ht
  have hc := World.ownsRow.cells o1 (g := g) rfl t ((flatK KE.cs kd.sz l.toArray)[t]!) (by
   rw [hcs]; have hf := flatK_list hk l.toArray; rw [List.toList_toArray] at hf; rw [← hf, Array.getElem?_toList, getElem!_pos (flatK KE.cs kd.sz l.toArray) t ht]; exact Array.getElem?_eq_getElem _)
  rw [add0] at hc
  exact ⟨hc, by simp [World.frozen?, hg]⟩
 ·have hsz : d'.size = l.length := by have := hp.length_eq; simpa using this
  have h1 : (w.heap.modify g (onCells (putCells id 0 (flatK KE.cs kd.sz d')))).size = w.heap.size := Array.size_modify
  have hne : ∀ b, b < w.heap.size → b ≠ g → (sortWorldK KE.cs kd.sz w g 0 q d' os).heap[b]? = w.heap[b]? := fun b hb hn => by
   simp only [sortWorldK, grow, putRowK, putRow, mapBlock, Sort.ahead]
   rw [Array.getElem?_append_left (by rw [h1]; exact hb), Array.getElem?_modify, if_neg (fun e => hn e.symm)]
  have hGr : Gr w (sortWorldK KE.cs kd.sz w g 0 q d' os) (some g) := ⟨rfl, rfl, rfl, by
   simp only [sortWorldK, grow, putRowK, putRow, mapBlock, Sort.ahead, Array.size_append, h1]; omega, fun b hb hn => hne b hb fun e => hn (by rw [e])⟩
  have hn : (d'.toList.map (·.1.1)).length = xs.length := by rw [List.length_map, Array.length_toList, hsz, hll]
  have hn2 : d'.toList.length = xs.length := by rw [Array.length_toList, hsz, hll]
  refine ⟨hGr, (d'.toList.map KE.cs).flatten, ⟨by rw [flat_len, hn, hn2], .inr ⟨g, c, putCells id 0 (flatK KE.cs kd.sz d') cur, ?_, h0, ?_, ?_, hmx, ?_, ?_⟩⟩, ?_, o3⟩
  ·rw [hn]
  ·simp only [sortWorldK, grow, putRowK, putRow, mapBlock, Sort.ahead]
   rw [Array.getElem?_append_left (by rw [h1]; exact hgl), Array.getElem?_modify, if_pos rfl, hg]; rfl
  ·rw [hn]; exact hle
  ·rw [putCells, Array.size_mapIdx]; exact hcur
  ·have hc1 : xs.length * kd.sz ≤ cur.size := by rw [hcur]; exact Nat.mul_le_mul_right _ hle
   rw [← flatK_list hk]
   apply List.ext_getElem?
   intro j
   rw [List.getElem?_take, hn]
   by_cases hj : j < xs.length * kd.sz
   ·have hj2 : j < (flatK KE.cs kd.sz d').size := by rw [size_flatK, hsz, hll]; exact hj
    rw [if_pos hj, putCells, Array.getElem?_toList, Array.getElem?_mapIdx, Array.getElem?_eq_getElem OM, Array.getElem?_toList, Array.getElem?_eq_getElem hj2]
    simp only [Option.map_some, Nat.zero_le, true_and, Nat.zero_add, hj2, if_true, Nat.sub_zero, id]
    try rw [getElem!_pos (flatK KE.cs kd.sz d') j hj2]
   ·rw [if_neg hj, List.getElem?_eq_none (by rw [Array.length_toList, size_flatK, hsz, hll]; omega)]
  ·have hR : ∀ p ∈ d'.toList.map (·.1), kd.R (sortWorldK KE.cs kd.sz w g 0 q d' os) (Fr O) p.1 p.2 := fun p hp' => by
    obtain ⟨x, hx', rfl⟩ := List.mem_map.1 hp'
    have hm : x ∈ l := by have := hp.mem_iff.1 hx'; simpa using this
    exact kd.keep (e3 _ (List.mem_map.2 ⟨x, hm, rfl⟩)) fun b hS hb => hne b hb fun e => hS (by rw [e]; exact o3 g rfl)
   have := Arr.ofPairs hR
   rw [List.map_map, List.map_map] at this
   exact this
theorem ltK_swo {key : β → Str} : SWO fun x y : KE kd key => Op.bytesLess (key x.1.1) (key y.1.1) := by
 have irr : ∀ a : Str, Op.bytesLess a a = false := fun a => by
  induction a with
  | nil => rfl
  | cons x a ih => simp [Op.bytesLess, ih]
 have tr : ∀ {a b c : Str}, Op.bytesLess a b = true → Op.bytesLess b c = true → Op.bytesLess a c = true := by
  intro a
  induction a with
  | nil =>
   intro b c h1 h2
   cases c with
   | nil => cases b <;> simp [Op.bytesLess] at h2
   | cons z c => rfl
  | cons x a ih =>
   intro b c h1 h2
   cases b with
   | nil => simp [Op.bytesLess] at h1
   | cons y b =>
    cases c with
    | nil => simp [Op.bytesLess] at h2
    | cons z c =>
     rw [Op.bytesLess] at h1 h2 ⊢
     simp only [Bool.or_eq_true, Bool.and_eq_true, decide_eq_true_eq, beq_iff_eq] at h1 h2 ⊢
     rcases h1 with h1 | ⟨rfl, h1⟩
     ·rcases h2 with h2 | ⟨rfl, h2⟩
      ·exact .inl (UInt8.lt_trans h1 h2)
      ·exact .inl h1
     ·rcases h2 with h2 | ⟨rfl, h2⟩
      ·exact .inl h2
      ·exact .inr ⟨rfl, ih h1 h2⟩
 have tri : ∀ {a b : Str}, Op.bytesLess a b = false → Op.bytesLess b a = true ∨ a = b := by
  intro a
  induction a with
  | nil => intro b h; cases b with
   | nil => exact .inr rfl
   | cons y b => simp [Op.bytesLess] at h
  | cons x a ih =>
   intro b h
   cases b with
   | nil => exact .inl rfl
   | cons y b =>
    rw [Op.bytesLess] at h ⊢
    simp only [Bool.or_eq_false_iff, decide_eq_false_iff_not, Bool.and_eq_false_iff, beq_eq_false_iff_ne, Bool.or_eq_true, decide_eq_true_eq, Bool.and_eq_true, beq_iff_eq] at h ⊢
    obtain ⟨h1, h2⟩ := h
    by_cases e : x = y
    ·subst e
     rcases h2 with h2 | h2
     ·exact absurd rfl h2
     ·rcases ih h2 with g | g
      ·exact .inl (.inr ⟨rfl, g⟩)
      ·exact .inr (by rw [g])
    ·refine .inl (.inl ?_)
     rcases UInt8.lt_or_lt_of_ne e with g | g
     ·exact absurd g h1
     ·exact g
 exact ⟨fun x => irr _, fun x y z h1 h2 => tr h1 h2, fun x y z h1 h2 => by
  cases h : Op.bytesLess (key x.1.1) (key z.1.1) with
  | false => rfl
  | true =>
   rcases tri h2 with g | g
   ·have := tr h g; rw [this] at h1; cases h1
   ·rw [g, h] at h1; cases h1⟩
end
end
section
open Go.RowKit Go.Shelf Go.Sort Go.Lib
theorem take_mid (A : List Value) (v : Value) (B : List Value) : (A ++ v :: B).take (A.length + 1) = A ++ [v] := by
 rw [List.take_append, List.take_of_length_le (Nat.le_succ _), Nat.add_sub_cancel_left]; rfl
theorem drop_mid (A : List Value) (v : Value) (B : List Value) (m : Nat) : (A ++ v :: B).drop (A.length + 1 + m) = B.drop m := by
 rw [List.drop_append, List.drop_eq_nil_of_le OM, Nat.add_assoc, Nat.add_sub_cancel_left, Nat.add_comm 1 m]; rfl
theorem setCells_row {b : Nat} {e : TypeId} {fz : Nat × Nat} : ∀ (us : List Value) (o : Nat) (w : World) (cur : Array Value), w.heap[b]? = some (.cells cur e fz) → o + us.length ≤ cur.size →
  ∃ cur' : Array Value, (w.setCells b o us).heap[b]? = some (.cells cur' e fz) ∧ cur'.toList = cur.toList.take o ++ us ++ cur.toList.drop (o + us.length)
 | [], o, w, cur, h, _ => ⟨cur, h, by simp⟩
 | v :: us, o, w, cur, h, hl => by
  rw [List.length_cons] at hl
  have h1 : (w.setCell ⟨b, o, none⟩ v).heap[b]? = some (.cells (cur.setIfInBounds o v) e fz) := by
   simp [World.setCell, Array.getElem?_modify, h]
  obtain ⟨c, h2, h3⟩ := setCells_row us (o + 1) _ _ h1 (by rw [Array.size_setIfInBounds]; omega)
  refine ⟨c, h2, ?_⟩
  have hlo : (cur.toList.take o).length = o := by rw [List.length_take, Array.length_toList]; omega
  have e0 : (cur.setIfInBounds o v).toList = cur.toList.take o ++ v :: cur.toList.drop (o + 1) := by
   rw [Array.toList_setIfInBounds, List.set_eq_take_append_cons_drop, if_pos (by rw [Array.length_toList]; omega)]
  have e1 := take_mid (cur.toList.take o) v (cur.toList.drop (o + 1))
  have e2 := drop_mid (cur.toList.take o) v (cur.toList.drop (o + 1)) us.length
  rw [hlo] at e1 e2
  rw [h3, e0, e1, e2, List.drop_drop, List.length_cons, List.append_assoc, List.append_assoc, List.append_assoc, show o + 1 + us.length = o + (us.length + 1) by omega]
  rfl
theorem setCells_tape (b : Nat) : ∀ (us : List Value) (o : Nat) (w : World), (w.setCells b o us).tape = w.tape
 | [], _, _ => rfl
 | v :: us, o, w => by rw [World.setCells, setCells_tape b us]; rfl
theorem setCells_Gr (w : World) (b o : Nat) (us : List Value) : Gr w (w.setCells b o us) (some b) :=
 ⟨World.os_setCells w b o us, setCells_tape b us o w, World.output_setCells w b o us, Nat.le_of_eq (size_setCells b us o w).symm, fun k hk hn => World.heap_setCells_other w b o us hk fun e => hn (by rw [e])⟩
theorem flat_take (k : Nat) : ∀ (l : List (List Value)) (I : Nat), (∀ c ∈ l, c.length = k) → l.flatten.take (I * k) = (l.take I).flatten
 | l, 0, _ => by simp
 | [], I + 1, _ => by simp
 | c :: l, I + 1, h => by
  have hc : c.length = k := h c List.mem_cons_self
  rw [List.flatten_cons, List.take_succ_cons, List.flatten_cons, ← flat_take k l I (fun d hd => h d (List.mem_cons_of_mem _ hd)), Nat.succ_mul, Nat.add_comm (I * k) k, List.take_append, hc, Nat.add_sub_cancel_left, List.take_of_length_le OM]
theorem flat_drop (k : Nat) : ∀ (l : List (List Value)) (I : Nat), (∀ c ∈ l, c.length = k) → l.flatten.drop (I * k) = (l.drop I).flatten
 | l, 0, _ => by simp
 | [], I + 1, _ => by simp
 | c :: l, I + 1, h => by
  have hc : c.length = k := h c List.mem_cons_self
  rw [List.flatten_cons, List.drop_succ_cons, ← flat_drop k l I (fun d hd => h d (List.mem_cons_of_mem _ hd)), Nat.succ_mul, Nat.add_comm (I * k) k, List.drop_append, hc, Nat.add_sub_cancel_left, List.drop_eq_nil_of_le OM, List.nil_append]
section
variable {β : Type} {kd : Kd β} {w : World} {e : TypeId} {O : Ob}
theorem Ow.del {A : Option Addr} {n c : Nat} {xs : List β} (h : Ow kd e w O (.slice A n c) xs) (I J : Nat) (hI : I < J) (hJ : J ≤ xs.length) :
  ∃ (g : Nat) (news : List Value), A = some ⟨g, 0, none⟩ ∧ n = xs.length ∧ xs.length ≤ c ∧ c ≤ 9223372036854775807 ∧ news.length = (xs.length - J) * kd.sz ∧ (∀ u ∈ news, u.oneCell' = true) ∧
   (∀ t u, news[t]? = some u → w.cell? ⟨g, J * kd.sz + t, none⟩ = some u) ∧ (∀ t, t < xs.length * kd.sz → (w.cell? ⟨g, t, none⟩).isSome = true ∧ w.frozen? ⟨g, t, none⟩ = false) ∧
   ∀ zs : List Value, zs.length = (J - I) * kd.sz →
    Gr w ((w.drew.setCells g (I * kd.sz) news).setCells g ((I + (xs.length - J)) * kd.sz) zs) (some g) ∧ Ow kd e ((w.drew.setCells g (I * kd.sz) news).setCells g ((I + (xs.length - J)) * kd.sz) zs) O (.slice A (I + (xs.length - J)) c) (xs.take I ++ xs.drop J) := by
 obtain ⟨cells, o1, o2, o3⟩ := h
 obtain ⟨ps, e1, e2, e3⟩ := Arr.pairs o2
 have hps : ∀ d ∈ ps.map (·.2), d.length = kd.sz := fun d hd => by
  obtain ⟨p, hp, rfl⟩ := List.mem_map.1 hd
  exact kd.len (e3 p hp)
 have hlen : cells.length = xs.length * kd.sz := o1.1
 rcases o1.2 with ⟨_, e'⟩ | ⟨g, cap, cur, ev, h0, hg, hle, hmx, hcur, htake⟩
 ·omega
 cases ev
 have hgl : g < w.heap.size := (Array.getElem?_eq_some_iff.1 hg).1
 have hN : (xs.length - J) * kd.sz + J * kd.sz = xs.length * kd.sz := by rw [← Nat.add_mul, Nat.sub_add_cancel hJ]
 have hnl : (cells.drop (J * kd.sz)).length = (xs.length - J) * kd.sz := by rw [List.length_drop, hlen, Nat.sub_mul]
 have hcap : xs.length * kd.sz ≤ cur.size := by rw [hcur]; exact Nat.mul_le_mul_right _ hle
 have hcell : ∀ t, t < xs.length * kd.sz → (w.cell? ⟨g, t, none⟩) = cells[t]? := fun t ht => by
  obtain ⟨u, hu⟩ : ∃ u, cells[t]? = some u := ⟨_, List.getElem?_eq_getElem (by rw [hlen]; exact ht)⟩
  have := World.ownsRow.cells o1 (g := g) rfl t u hu
  rw [add0, Nat.zero_add] at this
  rw [this, hu]
 refine ⟨g, cells.drop (J * kd.sz), rfl, rfl, hle, hmx, hnl, ?_, ?_, ?_, ?_⟩
 ·intro u hu
  have := List.mem_of_mem_drop hu
  rw [e2] at this
  obtain ⟨l, hl, hul⟩ := List.mem_flatten.1 this
  obtain ⟨p, hp, rfl⟩ := List.mem_map.1 hl
  exact kd.one (e3 p hp) u hul
 ·intro t u hu
  rw [List.getElem?_drop] at hu
  have := (List.getElem?_eq_some_iff.1 hu).1
  rw [hcell _ (by rw [← hlen]; exact this), hu]
 ·intro t ht
  refine ⟨?_, by simp [World.frozen?, hg]⟩
  rw [hcell t ht, List.getElem?_eq_getElem (by rw [hlen]; exact ht)]; rfl
 ·intro zs hz
  have hIJ : (J - I) * kd.sz + I * kd.sz = J * kd.sz := by rw [← Nat.add_mul, Nat.sub_add_cancel (Nat.le_of_lt hI)]
  have hM : (I + (xs.length - J)) * kd.sz = I * kd.sz + (xs.length - J) * kd.sz := Nat.add_mul _ _ _
  obtain ⟨c1, g1, t1⟩ := setCells_row (b := g) (cells.drop (J * kd.sz)) (I * kd.sz) w.drew cur hg (by rw [hnl]; omega)
  have hs1 : c1.size = cur.size := by
   have := congrArg List.length t1
   simp only [Array.length_toList, List.length_append, List.length_take, List.length_drop] at this
   rw [hlen] at this
   omega
  obtain ⟨c2, g2, t2⟩ := setCells_row (b := g) zs ((I + (xs.length - J)) * kd.sz) _ c1 g1 (by rw [hz, hs1, hM]; omega)
  have hs2 : c2.size = cur.size := by
   have := congrArg List.length t2
   simp only [Array.length_toList, List.length_append, List.length_take, List.length_drop] at this
   omega
  have hGr : Gr w ((w.drew.setCells g (I * kd.sz) (cells.drop (J * kd.sz))).setCells g ((I + (xs.length - J)) * kd.sz) zs) (some g) := by
   have a1 := setCells_Gr w.drew g (I * kd.sz) (cells.drop (J * kd.sz))
   have a2 := setCells_Gr (w.drew.setCells g (I * kd.sz) (cells.drop (J * kd.sz))) g ((I + (xs.length - J)) * kd.sz) zs
   have a3 := a1.trans a2
   exact ⟨a3.os, a3.tape, a3.output, a3.size, a3.block⟩
  refine ⟨hGr, ((ps.take I ++ ps.drop J).map (·.2)).flatten, ⟨?_, .inr ⟨g, c, c2, ?_, h0, g2, ?_, hmx, by rw [hs2, hcur], ?_⟩⟩, ?_, o3⟩
  ·rw [List.map_append, List.flatten_append, List.length_append, List.map_take, List.map_drop, ← flat_take kd.sz _ _ hps, ← flat_drop kd.sz _ _ hps, ← e2, List.length_take, hnl, hlen, List.length_append, List.length_take, List.length_drop, Nat.add_mul, Nat.min_eq_left OM, Nat.min_eq_left OM]
  ·rw [List.length_append, List.length_take, List.length_drop, Nat.min_eq_left OM]
  ·rw [List.length_append, List.length_take, List.length_drop, Nat.min_eq_left OM]; omega
  ·have hM2 : (xs.take I ++ xs.drop J).length = I + (xs.length - J) := by rw [List.length_append, List.length_take, List.length_drop, Nat.min_eq_left OM]
   have hc1l : c1.toList.length = cur.size := by rw [Array.length_toList]; exact hs1
   have l1 : (c1.toList.take ((I + (xs.length - J)) * kd.sz)).length = (I + (xs.length - J)) * kd.sz := by rw [List.length_take, hc1l]; omega
   have l2 : (cur.toList.take (I * kd.sz)).length = I * kd.sz := by rw [List.length_take, Array.length_toList]; omega
   rw [hM2, t2, List.append_assoc, List.take_append_of_le_length (by rw [l1]; exact Nat.le_refl _), List.take_take, Nat.min_self, t1, List.take_append_of_le_length (by rw [List.length_append, l2, hnl, hM]; exact Nat.le_refl _), List.take_of_length_le (by rw [List.length_append, l2, hnl, hM]; exact Nat.le_refl _)]
   rw [List.map_append, List.flatten_append, List.map_take, List.map_drop, ← flat_take kd.sz _ _ hps, ← flat_drop kd.sz _ _ hps, ← e2, ← htake, List.take_take, Nat.min_eq_left OM]
  ·have hR : ∀ p ∈ ps.take I ++ ps.drop J, kd.R ((w.drew.setCells g (I * kd.sz) (cells.drop (J * kd.sz))).setCells g ((I + (xs.length - J)) * kd.sz) zs) (Fr O) p.1 p.2 := fun p hp => by
    have hm : p ∈ ps := by
     rcases List.mem_append.1 hp with hp | hp
     ·exact List.mem_of_mem_take hp
     ·exact List.mem_of_mem_drop hp
    exact kd.keep (e3 p hm) fun b hS hb => hGr.block b hb fun e => hS (by rw [e]; exact o3 g rfl)
   have := Arr.ofPairs hR
   rwa [List.map_append, List.map_take, List.map_drop, e1] at this
end
section
variable {P : Program}
theorem zeroCells_len (a : Array Value) (n : Nat) : (Builtin.zeroCells a n).toList.length = n * a.size := by simp [Builtin.zeroCells]
theorem zeroCells_one (a : Array Value) (n : Nat) (h : ∀ u ∈ a, u.oneCell' = true) : ∀ u ∈ (Builtin.zeroCells a n).toList, u.oneCell' = true := by
 intro u hu
 simp only [Builtin.zeroCells, Array.toList_map, List.mem_map, Array.mem_toList_iff, Array.mem_range] at hu
 obtain ⟨i, hi, rfl⟩ := hu
 have hp : 0 < a.size := by
  rcases Nat.eq_zero_or_pos a.size with h0 | h0
  ·rw [h0, Nat.mul_zero] at hi; omega
  ·exact h0
 have hm := Nat.mod_lt i hp
 rw [getElem!_pos a (i % a.size) hm]
 exact h _ (Array.getElem_mem hm)
theorem run_clear_sliceK (w : World) (t e ty : TypeId) (z : Value) (ht : P.underlying t = some (.slice e)) (hv : ∀ w, (zeroValue e).run P w = .ok z w) (h1 : ∀ u ∈ z.cells, u.oneCell' = true) (b o n c : Nat) (hn : 0 < n)
  (hc : ∀ j, j < n * z.cells.size → (w.cell? ⟨b, o + j, none⟩).isSome = true) (hf : ∀ j, j < n * z.cells.size → w.frozen? ⟨b, o + j, none⟩ = false) :
  (Builtin.clear_ #[t] ty #[.slice (some ⟨b, o, none⟩) n c]).run P w = .ok (.tuple #[]) (w.setCells b o (Builtin.zeroCells z.cells n).toList) := by
 have hst := run_storeCells_cells (P := P) b o (Builtin.zeroCells z.cells n).toList 0 w (by rw [zeroCells_len]; simpa using hc) (by rw [zeroCells_len]; simpa using hf) (zeroCells_one _ _ h1)
 simp only [Nat.add_zero] at hst
 obtain ⟨m, rfl⟩ : ∃ m, n = m + 1 := ⟨n - 1, OM⟩
 simp [Builtin.clear_, run_underlying ht, hv, hst]
end
end
section
open Go.Shelf Go.Sort Go.Lib
def F11.E (x : List Feat) (i j : Int) (Q : List Feat → Prop) : Prop := ((0 : Int) ≤ i ∧ i < j ∧ j ≤ (x.length : Int)) ∧ x.length ≤ 268435456 ∧ Q (x.take i.toNat ++ x.drop j.toNat)
set_option maxHeartbeats 4000000 in
set_option maxRecDepth 1000000 in
theorem F11.calls {O : Ob} (w0 : World) (hO : Ok w0 O) (A : Option Addr) (n c : Nat) (x : List Feat) (hp : Ow kFeat 44 w0 O (.slice A n c) x) (i j : Int) (Q : List Feat → Prop) (h : F11.E x i j Q) :
  Ret Tryz.prog 86 [.slice A n c, vi i, vi j] w0 (fun v w' => ∃ (m0 : List Feat) (l : Nat), v = .slice A l c ∧ Q m0 ∧ Gr w0 w' (blk (.slice A n c)) ∧ Ow kFeat 44 w' O (.slice A l c) m0) := by
 obtain ⟨⟨hi0, hij, hj⟩, hl, hq⟩ := h
 obtain ⟨I, rfl⟩ := Int.eq_ofNat_of_zero_le hi0
 obtain ⟨J, rfl⟩ := Int.eq_ofNat_of_zero_le (show (0 : Int) ≤ j by omega)
 rw [Int.toNat_natCast, Int.toNat_natCast] at hq
 have hIJ : I < J := by omega
 have hJ : J ≤ x.length := by omega
 obtain ⟨g, news, rfl, rfl, hcap, hm, hnl, s2', hnews, hrow, hend⟩ := hp.del I J hIJ hJ
 rw [show kFeat.sz = 4 from rfl] at hnl hnews hrow hend
 obtain ⟨ht, ⟨i0, z, hi, hz, hz1, hz2, hz3⟩, _, _, _⟩ := Yw
 have hzv : ∀ w, (zeroValue 44).run Tryz.prog w = .ok z w := fun w => by simp [zeroValue, typeInfo, hi, hz]
 have hzs : z.cells.size = 4 := by rw [← Array.length_toList, hz3]; rfl
 obtain ⟨zc, rfl⟩ : ∃ zc, z = .agg zc := by
  cases z <;> first | exact ⟨_, rfl⟩ | (exfalso; simp [Value.cells] at hzs)
 change zc.toList = _ at hz3
 change zc.size = 4 at hzs
 have hz1c : ∀ u ∈ zc, u.oneCell' = true := fun u hu => by
  have := Array.mem_toList_iff.2 hu
  rw [hz3] at this
  simp only [List.mem_cons, List.not_mem_nil, or_false] at this
  rcases this with rfl | rfl | rfl | rfl <;> rfl
 generalize hN : x.length = N at *
 obtain ⟨A, hA, hsrc⟩ : ∃ A : Addr, (if c = J then some (⟨g, 0, none⟩ : Addr) else some ⟨g, J * 4, none⟩) = some A ∧ Hid (∀ t u, news[t]? = some u → w0.drew.cell? (A.add t) = some u) := by
  by_cases h : c = J
  ·refine ⟨⟨g, 0, none⟩, by simp [h], fun t u hu => ?_⟩
   have h0 : news.length = 0 := by rw [hnl]; omega
   rw [List.length_eq_zero_iff.1 h0] at hu
   simp at hu
  ·refine ⟨⟨g, J * 4, none⟩, by simp [h], fun t u hu => ?_⟩
   rw [Addr.add_lit]
   exact hnews t u hu
 have s1 : Hid (news.length = (N - J) * 4) := hnl
 have s2 : Hid (∀ u ∈ news, u.oneCell' = true) := s2'
 have s3 : Hid (∀ t, t < news.length → (w0.drew.cell? ⟨g, 0 + I * 4 + t, none⟩).isSome = true ∧ w0.drew.frozen? ⟨g, 0 + I * 4 + t, none⟩ = false) := by
  intro t ht'
  rw [hnl] at ht'
  rw [Nat.zero_add]
  exact hrow _ OM
 obtain ⟨W1, hW1⟩ : ∃ W1, W1 = w0.drew.setCells g (0 + I * 4) news := ⟨_, rfl⟩
 have hcl : ∀ ty, (Builtin.clear_ #[33] ty #[.slice (some ⟨g, (I + (N - J)) * 4, none⟩) (N - (I + (N - J))) (c - (I + (N - J)))]).run Tryz.prog W1 = .ok (.tuple #[]) (W1.setCells g ((I + (N - J)) * 4) (Builtin.zeroCells zc (N - (I + (N - J)))).toList) :=
  fun ty => run_clear_sliceK W1 _ _ ty (.agg zc) ht hzv hz1c g _ _ _ OM (fun t ht' => by
   rw [show (Value.agg zc).cells.size = 4 from hzs] at ht'
   rw [hW1]
   exact World.isSome_setCells g _ _ _ _ (hrow _ OM).1) (fun t ht' => by
   rw [show (Value.agg zc).cells.size = 4 from hzs] at ht'
   rw [hW1, World.frozen?_setCells]
   exact (hrow _ OM).2)
 have hend' := hend (Builtin.zeroCells zc (N - (I + (N - J)))).toList (by rw [zeroCells_len, hzs]; congr 1; omega)
 rw [show w0.drew.setCells g (I * 4) news = W1 by rw [hW1, Nat.zero_add]] at hend'
 have X : Aside (Q (x.take I ++ x.drop J) ∧ Gr w0 (W1.setCells g ((I + (N - J)) * 4) (Builtin.zeroCells zc (N - (I + (N - J)))).toList) (some g) ∧ Ow kFeat 44 (W1.setCells g ((I + (N - J)) * 4) (Builtin.zeroCells zc (N - (I + (N - J)))).toList) O (.slice (some ⟨g, 0, none⟩) (I + (N - J)) c) (x.take I ++ x.drop J)) := ⟨hq, hend'.1, hend'.2⟩
 have hW : Hid (W1 = w0.drew.setCells g (0 + I * 4) news) := hW1
 have hic : I ≤ c := by omega
 have hjc : J ≤ c := by omega
 have hne : (I == J) = false := by simp; omega
 have hsz := Yw.size
 clear hW1 hend hend' hnews hrow hnl hq s2' hp hO hz3 hz1c hzv
 unfold Ret
 go_enter Tryz.func86, Tryz.ntmps86
 go_wp2_with fail
 go_region_law (refine step_append_room rfl (.tmp 22) (.tmp 25) 33 rfl 44 i0 4 ht hi hz1 g 0 I c (by simp [Act.eval, Act.put]) A (N - J) (c - J) news (by simp [Act.eval, Act.put]) s1.out hsrc.out s2.out OM s3.out ?_; rw [← hW.out])
 go_wp2
 go_ret
 exact ⟨_, rfl, _, _, rfl, X.out⟩
end
end Go.Proofs.YtlaaehjcooonfaaGreatDoor
namespace Go.Proofs
open Go.Shelf
def Tryz.srt83_ren : Go.Shelf.Ren := ⟨fun | 6 => 83 | 15 => 110 | 14 => 129 | 28 => 144 | 29 => 145 | 20 => 155 | 21 => 156 | 22 => 157 | 23 => 158 | 24 => 159 | 25 => 160 | 26 => 161 | 27 => 162 | 46 => 175 | 47 => 167 | 48 => 168 | 49 => 176 | 50 => 177 | 57 => 185 | n => n, fun | 22 => 33 | 24 => 44 | 25 => 113 | 3 => 3 | 39 => 132 | 0 => 0 | 53 => 163 | 55 => 165 | 4 => 4 | 46 => 155 | 45 => 154 | 50 => 160 | 5 => 5 | 9 => 9 | 66 => 183 | 70 => 187 | 76 => 192 | 77 => 193 | n => n, fun | n => n⟩
theorem Tryz.srt83 : Go.Proofs.SlLaysF0.n6 Tryz.prog Tryz.srt83_ren := {
  mixed := by kernel_rfl
  f6 := ⟨ "slices.SortFunc[[]loop.example/townland/impl.Feat,loop.example/townland/impl.Feat]", by decide, Tryz.func83.trans (congrArg some (by kernel_rfl))⟩
  f14 := ⟨ "slices.pdqsortCmpFunc[loop.example/townland/impl.Feat]", by decide, Tryz.func129.trans (congrArg some (by kernel_rfl))⟩
  f15 := Tryz.func110.trans (congrArg some (by kernel_rfl))
  f20 := ⟨ "slices.insertionSortCmpFunc[loop.example/townland/impl.Feat]", by decide, Tryz.func155.trans (congrArg some (by kernel_rfl))⟩
  f21 := ⟨ "slices.heapSortCmpFunc[loop.example/townland/impl.Feat]", by decide, Tryz.func156.trans (congrArg some (by kernel_rfl))⟩
  f22 := ⟨ "slices.breakPatternsCmpFunc[loop.example/townland/impl.Feat]", by decide, Tryz.func157.trans (congrArg some (by kernel_rfl))⟩
  f23 := ⟨ "slices.choosePivotCmpFunc[loop.example/townland/impl.Feat]", by decide, Tryz.func158.trans (congrArg some (by kernel_rfl))⟩
  f24 := ⟨ "slices.reverseRangeCmpFunc[loop.example/townland/impl.Feat]", by decide, Tryz.func159.trans (congrArg some (by kernel_rfl))⟩
  f25 := ⟨ "slices.partialInsertionSortCmpFunc[loop.example/townland/impl.Feat]", by decide, Tryz.func160.trans (congrArg some (by kernel_rfl))⟩
  f26 := ⟨ "slices.partitionEqualCmpFunc[loop.example/townland/impl.Feat]", by decide, Tryz.func161.trans (congrArg some (by kernel_rfl))⟩
  f27 := ⟨ "slices.partitionCmpFunc[loop.example/townland/impl.Feat]", by decide, Tryz.func162.trans (congrArg some (by kernel_rfl))⟩
  f28 := Tryz.func144.trans (congrArg some (by kernel_rfl))
  f29 := Tryz.func145.trans (congrArg some (by kernel_rfl))
  f46 := ⟨ "slices.siftDownCmpFunc[loop.example/townland/impl.Feat]", by decide, Tryz.func175.trans (congrArg some (by kernel_rfl))⟩
  f47 := Tryz.func167.trans (congrArg some (by kernel_rfl))
  f48 := Tryz.func168.trans (congrArg some (by kernel_rfl))
  f49 := ⟨ "slices.medianAdjacentCmpFunc[loop.example/townland/impl.Feat]", by decide, Tryz.func176.trans (congrArg some (by kernel_rfl))⟩
  f50 := ⟨ "slices.medianCmpFunc[loop.example/townland/impl.Feat]", by decide, Tryz.func177.trans (congrArg some (by kernel_rfl))⟩
  f57 := ⟨ "slices.order2CmpFunc[loop.example/townland/impl.Feat]", by decide, Tryz.func185.trans (congrArg some (by kernel_rfl))⟩
  t0 := Tryz.underlying0
  a0 := Tryz.isAgg0
  z0 := Tryz.sizeOf0
  v0 := Tryz.zeroValue0
  t3 := Tryz.underlying3
  a3 := Tryz.isAgg3
  z3 := Tryz.sizeOf3
  v3 := Tryz.zeroValue3
  t4 := Tryz.underlying4
  a4 := Tryz.isAgg4
  z4 := Tryz.sizeOf4
  v4 := Tryz.zeroValue4
  t5 := Tryz.underlying5
  a5 := Tryz.isAgg5
  z5 := Tryz.sizeOf5
  v5 := Tryz.zeroValue5
  t9 := Tryz.underlying9
  a9 := Tryz.isAgg9
  z9 := Tryz.sizeOf9
  v9 := Tryz.zeroValue9
  t22 := Tryz.underlying33
  a22 := Tryz.isAgg33
  z22 := Tryz.sizeOf33
  v22 := Tryz.zeroValue33
  t25 := Tryz.underlying113
  a25 := Tryz.isAgg113
  z25 := Tryz.sizeOf113
  v25 := Tryz.zeroValue113
  t39 := Tryz.underlying132
  a39 := Tryz.isAgg132
  z39 := Tryz.sizeOf132
  v39 := Tryz.zeroValue132
  t45 := Tryz.underlying154
  a45 := Tryz.isAgg154
  z45 := Tryz.sizeOf154
  v45 := Tryz.zeroValue154
  t46 := Tryz.underlying155
  a46 := Tryz.isAgg155
  z46 := Tryz.sizeOf155
  v46 := Tryz.zeroValue155
  t50 := Tryz.underlying160
  a50 := Tryz.isAgg160
  z50 := Tryz.sizeOf160
  v50 := Tryz.zeroValue160
  t53 := Tryz.underlying163
  a53 := Tryz.isAgg163
  z53 := Tryz.sizeOf163
  v53 := Tryz.zeroValue163
  t55 := Tryz.underlying165
  a55 := Tryz.isAgg165
  z55 := Tryz.sizeOf165
  v55 := Tryz.zeroValue165
  t66 := Tryz.underlying183
  a66 := Tryz.isAgg183
  z66 := Tryz.sizeOf183
  v66 := Tryz.zeroValue183
  t70 := Tryz.underlying187
  a70 := Tryz.isAgg187
  z70 := Tryz.sizeOf187
  v70 := Tryz.zeroValue187
  t76 := Tryz.underlying192
  a76 := Tryz.isAgg192
  z76 := Tryz.sizeOf192
  v76 := Tryz.zeroValue192
  t77 := Tryz.underlying193
  a77 := Tryz.isAgg193
  z77 := Tryz.sizeOf193
  v77 := Tryz.zeroValue193 }
end Go.Proofs
namespace Go.Proofs.YtlaaehjcooonfaaGreatDoor
set_option linter.unusedVariables false
set_option linter.unusedSimpArgs false
set_option linter.unusedSectionVars false
set_option maxHeartbeats 8000000
set_option maxRecDepth 100000
open Go.RowKit
variable {O : Ob} {w0 : World}
section
open Go.Shelf Go.Sort Go.Lib
def F6.E (x : List Feat) (Q : List Feat → Prop) : Prop := x.length ≤ 268435456 ∧ ∀ r : List Feat, r.Perm x → (r.Pairwise fun a b => Op.bytesLess b.Id a.Id = false) → Q r
instance : Inhabited (KE kFeat Feat.Id) := ⟨⟨(⟨[], ⟨0, []⟩, []⟩, [vs [], vi 0, .slice none 0 0, .slice none 0 0]), rfl, by decide, rfl⟩⟩
theorem kFeat_key {w : World} {S : Sp} (x : Feat) (cs : List Value) (h : kFeat.R w S x cs) : cs[0]? = some (vs x.Id) := by
 obtain ⟨A1, n1, c1, A2, n2, c2, rfl, _⟩ := kFeat.op h
 rfl
def CmpFeat (g : FuncId) (cf : Str → Str → Int) : Prop := ∀ (s t : Str) (a1 a2 a3 b1 b2 b3 : Value) (W : World),
 Calls Tryz.prog g #[.agg #[vs s, a1, a2, a3], .agg #[vs t, b1, b2, b3]] W fun e w' => e = .returned (vi (cf s t)) ∧ ∃ q os, w' = Sort.grow (W.drewN q) os
theorem F6.calls {O : Ob} (w0 : World) (hO : Ok w0 O) (A : Option Addr) (n c : Nat) (x : List Feat) (hp : Ow kFeat 44 w0 O (.slice A n c) x) (g : FuncId) (hg : Goes Tryz.prog g) (cf : Str → Str → Int) (hlt : ∀ s t, decide (cf s t < 0) = Op.bytesLess s t) (hcf : CmpFeat g cf)
  (Q : List Feat → Prop) (h : F6.E x Q) :
  Ret Tryz.prog 83 [.slice A n c, .func (.func g) #[] #[]] w0 (fun v w' => ∃ (m0 : List Feat), v = .tuple #[] ∧ Q m0 ∧ Gr w0 w' (blk (.slice A n c)) ∧ Ow kFeat 44 w' O (.slice A n c) m0) := by
 obtain ⟨hl, hq⟩ := h
 by_cases hx : 0 < x.length
 ·obtain ⟨b, d, rfl, rfl, e1, h1, h2, h3⟩ := Ow.sortK RD Feat.Id (fun x cs h => kFeat_key x cs h) hp hx
  have hsz : d.size = x.length := by rw [← e1]; simp
  have e2 : (ltOf fun x y : KE kFeat Feat.Id => cf x.1.1.Id y.1.1.Id) = fun x y => Op.bytesLess x.1.1.Id y.1.1.Id := by funext x y; exact hlt _ _
  have hcmp : CmpLays Tryz.prog g #[] (KE.cs (kd := kFeat) (key := Feat.Id)) 4 (fun x y => cf x.1.1.Id y.1.1.Id) b 0 d.size w0 := fun m os dk _ x y => by
   obtain ⟨⟨px, cx⟩, l1, _, k1⟩ := x
   obtain ⟨⟨py, cy⟩, l2, _, k2⟩ := y
   match cx, l1, k1, cy, l2, k2 with
   | [u0, u1, u2, u3], _, k1, [v0, v1, v2, v3], _, k2 =>
    simp only [List.getElem?_cons_zero, Option.some.injEq] at k1 k2
    subst k1; subst k2
    exact hcf _ _ _ _ _ _ _ _ _
  refine Calls.mono (AnyQ.slices_SortFunc Tryz.srt83 4 Tryz.isAgg44 Tryz.sizeOf44 (KE.cs (kd := kFeat) (key := Feat.Id)) (fun x => x.2.1) (fun x => x.2.2.1) (fun x y => cf x.1.1.Id y.1.1.Id) (by rw [e2]; exact ltK_swo) g #[] b 0 c d w0 (fun a w => hg.run a w) hcmp h1 h2 (by rw [hsz]; omega)) fun e w' ⟨he, d', q, os, hperm, hsort, hw⟩ => ?_
  subst he; subst hw
  have hd : d'.toList.Perm d.toList := by
   have := hperm.2.2
   have s1 := hperm.1
   rw [show d'.extract 0 d.size = d' by rw [← s1]; exact Array.extract_size, show d.extract 0 d.size = d from Array.extract_size] at this
   exact this
  obtain ⟨g1, g2⟩ := h3 d' q os hd
  refine ⟨_, rfl, d'.toList.map (fun y : KE kFeat Feat.Id => y.1.1), rfl, hq _ (by rw [← e1]; exact hd.map _) ?_, g1, g2⟩
  rw [e2] at hsort
  rw [List.pairwise_map]
  refine List.pairwise_iff_getElem.2 fun i j hi hj hij => ?_
  rw [Array.length_toList] at hi hj
  have := hsort i j (Nat.zero_le _) hij (by rw [← hperm.1]; exact hj)
  rw [getElem!_pos d' i hi, getElem!_pos d' j hj] at this
  simpa using this
 ·have e0 : x = [] := List.length_eq_zero_iff.1 OM
  subst e0
  obtain rfl : n = 0 := hp.len
  refine Calls.mono (AnyF.slices_SortFunc_none Tryz.srt83 A c _ w0) fun e w' ⟨he, hw⟩ => ?_
  subst he; subst hw
  exact ⟨_, rfl, [], rfl, hq [] (.refl _) .nil, Gr.refl _ _, hp⟩
end
section
open Go.Shelf Go.Sort Go.Lib
def F64.cf (s t : Str) : Int := if Op.bytesLess s t then -1 else 1
theorem F64.hlt (s t : Str) : decide (F64.cf s t < 0) = Op.bytesLess s t := by unfold F64.cf; cases Op.bytesLess s t <;> rfl
set_option maxHeartbeats 1000000 in
theorem F64.cmp : CmpFeat 87 F64.cf := by
 intro s t a1 a2 a3 b1 b2 b3 W
 go_enter Tryz.func87, Tryz.ntmps87
 go_wp2
 all_goals
  go_ret
  refine ⟨?_, 0, _, by rw [alloc_eq_grow, alloc_eq_grow, grow_grow]; rfl⟩
  simp_all [F64.cf]
end
def F115.E (s : List Feat) (d : List Change) (Q : List Feat → Bool → Prop) : Prop :=
 F74.E s (fun r => (if !r then Q [] false else F100.E d (fun r2 => (if !r2 then Q [] false else F33.E s (fun r3 => (∃ (I106 : (List Feat) → Int → Prop) (mu107 : (List Feat) → Int → Nat), I106 r3 0 ∧ ∀ (xs2 : List Feat) (v2 : Int), I106 xs2 v2 → (if decide (v2 < (d.length : Int)) then ((0 : Int) ≤ v2 ∧ v2 < (d.length : Int)) ∧ F141.E s ((nth d v2).Id) (fun r4 r5 => (if r5 != ((nth d v2).Had) then Q [] false else F46.E r4 ((nth d v2).Was) (fun r6 => (if !r6 then Q [] false else F107.E xs2 ((nth d v2).Id) (fun r7 => (if decide (r7 ≥ 0) then (I64 (r7 + 1)) ∧ F11.E xs2 r7 (r7 + 1) (fun r8 => (if (nth d v2).Has then F39.E ((nth d v2).Now) (fun r9 => (r8.length + ([r9] : List Feat).length ≤ 268435456) ∧ (I64 (v2 + 1)) ∧ I106 (r8 ++ ([r9] : List Feat)) (v2 + 1) ∧ mu107 (r8 ++ ([r9] : List Feat)) (v2 + 1) < mu107 xs2 v2) else (I64 (v2 + 1)) ∧ I106 r8 (v2 + 1) ∧ mu107 r8 (v2 + 1) < mu107 xs2 v2)) else (if (nth d v2).Has then F39.E ((nth d v2).Now) (fun r10 => (xs2.length + ([r10] : List Feat).length ≤ 268435456) ∧ (I64 (v2 + 1)) ∧ I106 (xs2 ++ ([r10] : List Feat)) (v2 + 1) ∧ mu107 (xs2 ++ ([r10] : List Feat)) (v2 + 1) < mu107 xs2 v2) else (I64 (v2 + 1)) ∧ I106 xs2 (v2 + 1) ∧ mu107 xs2 (v2 + 1) < mu107 xs2 v2))))))) else F6.E xs2 (fun m => F74.E m (fun r11 => (if !r11 then Q [] false else F33.E m (fun r12 => Q r12 true)))))))))))
theorem F115.calls {s : List Feat} {A1 : Option Addr} {n2 c3 : Nat} {d : List Change} {A6 : Option Addr} {n7 c8 : Nat} {Q : List Feat → Bool → Prop} (H : F115.E s d Q) (hO : Ok w0 O) (hp4 : Sl kFeat w0 (Fr O) (G A1 n2 c3) s) (hp9 : Sl kChange w0 (Fr O) (G A6 n7 c8) d) :
  Ret Tryz.prog 34 [G A1 n2 c3, G A6 n7 c8] w0 (fun v w' => ∃ (r0 : List Feat) (r1 : Bool) (Aw0 : Option Addr) (nw0 cw0 : Nat) (q0 : Ob) (ra0 : List (List Value)), v = .tuple #[G Aw0 nw0 cw0, vb r1] ∧ Q r0 r1 ∧ Gr w0 w' none ∧ Ok w' ((bk Aw0 :: (q0 ++ [])) ++ O) ∧ (∀ b, some b ∈ (bk Aw0 :: (q0 ++ [])) → w0.heap.size ≤ b) ∧ Ow (Kd.cells 4) 44 w' ((bk Aw0 :: (q0 ++ [])) ++ O) (G Aw0 nw0 cw0) ra0 ∧ DArr dFeat_44 w' q0 r0 ra0) := by
 unfold F115.E at H;have hc0 := Ct.init hO;refine Yb Tryz.func34 Z 76 Z [.tmp 4, .tmp 5] Z Z ?_;refine Xc (Xe (Xf (G none 0 0) Z (Xf (vb false) Z (Xb (Xc (Xc (Xe (Xd (G A1 n2 c3) Z ?_))))))));refine Xs go37 (F74.calls H hc0.ok hp4) Z ?_;rintro _ ef ⟨r, rfl, H, gq⟩;have ci := hc0.k0 gq;refine Xa (X8 r Z) (Xd (vb (!r)) Z ?_);rcases X4 (!r) with aq | aq
 ·have H := Xl H aq;refine Xi aq Z (Xi aq Z (Xi aq Z (Xa (Xk true (vb true) aq Z) (Xb (Yu (b := true) Z Z ?_)))));refine Xc (Xe ?_);have gs : DArr dFeat_44 ef ([] : Ob) ([] : List Feat) ([] : List (List Value)) := Z;refine X5 (kd := Kd.cells 4) Yw ci ([] : List (List Value)) (cells := []) Z RF fun k3 bz c5 c6 gt hr23 eg gu => ?_;have eh : ([bk bz] : Ob).Perm (bk bz :: (([] : Ob) ++ [])) := RP;have c7 := eg.perm eh;refine Xf (G bz c5 c6) Z (Xf (vb false) Z (Xb (Xn ?_)));have gw := (eg.sp gu eh);have gx := (gs.k0 gt);exact ⟨[G bz c5 c6, vb false], ⟨_, Z, ⟨_, Z, Z⟩⟩, ([] : List Feat), false, bz, c5, c6, ([] : Ob), ([] : List (List Value)), Z, H, c7.gr.g0, c7.ok, c7.ge, gw, gx⟩
 have H := Xm H aq;refine Xh aq Z (Xd (G A6 n7 c8) Z (Xh aq Z ?_));refine Xs go17 (F100.calls H ci.ok (hp9.st ci.st)) Z ?_;rintro _ ei ⟨r2, rfl, H, gy⟩;have cj := ci.k0 gy;refine Xh aq Z (Xa (X8 r2 Z) (Xa (Xk false (vb (!r2)) aq Z) (Xb ?_)));refine Xu (!r2) Z (fun c9 => ?_) (fun c9 => ?_)
 ·have H := Xl H c9;refine Xc (Xe ?_);have gz : DArr dFeat_44 ei ([] : Ob) ([] : List Feat) ([] : List (List Value)) := Z;refine X5 (kd := Kd.cells 4) Yw cj ([] : List (List Value)) (cells := []) Z RF fun k4 b0 da db g1 hr44 ej g2 => ?_;have ek : ([bk b0] : Ob).Perm (bk b0 :: (([] : Ob) ++ [])) := RP;have dc := ej.perm ek;refine Xf (G b0 da db) Z (Xf (vb false) Z (Xb (Xn ?_)));have g3 := (ej.sp g2 ek);have g4 := (gz.k0 g1);exact ⟨[G b0 da db, vb false], ⟨_, Z, ⟨_, Z, Z⟩⟩, ([] : List Feat), false, b0, da, db, ([] : Ob), ([] : List (List Value)), Z, H, dc.gr.g0, dc.ok, dc.ge, g3, g4⟩
 have H := Xm H c9;refine Xw (Xc (Xe (Xd (G A1 n2 c3) Z ?_)));refine Xs go81 (F33.calls H cj.ok (hp4.st cj.st)) Z ?_;rintro _ k5 ⟨r3, bc, el, em, b1, k6, rfl, H, g5, g6, g7, g8, g9⟩;have en := cj.owns g5 g6 g7;have eo : (((bk bc :: (b1 ++ [])) ++ []) : Ob).Perm (bk bc :: (b1 ++ [])) := RP;have dd := en.perm eo;refine Xf (G bc el em) Z (Xb (Xc (Xc (Xe (Xd (G A6 n7 c8) Z ?_)))));have k7 := (hp9.st dd.st).le;refine Xa (X9 u23_ A6 n7 c8 (hp9.st dd.st).len Z) (Xd (vi 0) Z (Xb (X6 ?_)));have ha := (en.spa g8 eo);have hb := g9;have hc : ((bk bc :: (b1 ++ [])) : Ob).Perm (b1 ++ [bk bc]) := RP;obtain ⟨hd, de, k8⟩ := Dp.own (L := (bk bc :: (b1 ++ []))) (O := O) ha hb dd hc (memi 0 Z);obtain ⟨he, hf, df, H⟩ := H;refine Yj (α := (List Feat) × (Option Addr) × Nat × Nat × Int) (fun (xs2, aa, ad, ac, v2) t bf => he xs2 v2 ∧ Has t [(0, G A1 n2 c3), (6, G aa ad ac), (23, G A6 n7 c8), (24, vi (d.length : Int)), (25, vi v2)] ∧ Cw [] w0 bf [bk aa] O fun M => Sl kFeat bf (Fr M) (G A1 n2 c3) s ∧ Sl kChange bf (Fr M) (G A6 n7 c8) d ∧ Ow kFeat 44 bf M (G aa ad ac) xs2) (fun (xs2, _, _, _, v2) => hf xs2 v2) (r3, bc, el, em, 0) ⟨df, (Xx Z), de, (hp4.st de.st), (hp9.st de.st), hd⟩ ?_;rintro ⟨xs2, aa, ad, ac, v2⟩ _ bf ⟨df, hg, ck, hh, bg, b2⟩;obtain ⟨k9, rfl⟩ := Has.ins hg;have H := H xs2 v2 df;refine Xc (Xe (Xa (X0 v2 (d.length : Int) (decide (v2 < (d.length : Int))) Z Z Z) (Xb (Xc ?_))));refine Xu (decide (v2 < (d.length : Int))) Z (fun dg => ?_) (fun dg => ?_)
 ·have H := Xl H dg;refine Xw (Xc (X6 (Xc (Xe ?_))));obtain ⟨ep, H⟩ := H;obtain ⟨eq, la, hi, lb, hj, hk⟩ := bg.get default RD v2 ep;obtain ⟨bh, bi, bj, bl, bn, bo, a1, a2, a3, a4, a5, a6, rfl, er, hl, hm, hn, es, et, eu⟩ := kChange.op hj;refine Xa (X3 u23_ Yi A6 eq n7 c8 bg.len v2 Z hi Z ep) (Xa (Xv ag62 sz62 cL (eq.add (v2.toNat * 11)) [vs ((nth d v2).Id), vb ((nth d v2).Had), vs ((nth d v2).Was.Id), vi ((nth d v2).Was.Shape.Kind), G bh bi bj, G bl bn bo, vb ((nth d v2).Has), vs ((nth d v2).Now.Id), vi ((nth d v2).Now.Shape.Kind), G a1 a2 a3, G a4 a5 a6] Z Z hk) (Yo [vs [], vb false, vs [], .int .i64 0, G none 0 0, G none 0 0, vb false, vs [], .int .i64 0, G none 0 0, G none 0 0] ze62 fun lc ab bp hu147 bq ho => ?_));have br := ck.own bq (some ab) (Ym bp hu147);refine Yf [vs ((nth d v2).Id), vb ((nth d v2).Had), vs ((nth d v2).Was.Id), vi ((nth d v2).Was.Shape.Kind), G bh bi bj, G bl bn bo, vb ((nth d v2).Has), vs ((nth d v2).Now.Id), vi ((nth d v2).Now.Shape.Kind), G a1 a2 a3, G a4 a5 a6] ho Z Z sz62 Z Z fun hp bs ev => ?_;have bd := br.wr 0 Z bs;refine Xb (Xc (Xe (Xd (G A1 n2 c3) Z (Xa (Xj fa62_0 (Ad ab 0) (Ad ab 0) Z Z) (Xa (Xo ag9 cL (Ad ab 0) (vs ((nth d v2).Id)) Z (ev.cell Z)) ?_)))));have ar := ck.stown _ bq (Xz bp);have au := br.stw 0 Z bs;have b3 := ((hh.st ar).st au);refine Xs go60 (F141.calls H bd.ok b3 er) Z ?_;rintro _ ld ⟨r4, r5, af, a7, a8, ag, a9, ba, rfl, H, av, hq, ax, hr, hs, ht⟩;have bt := bd.owns av hq ax;refine Xd (.tuple #[.agg #[vs r4.Id, vi r4.Shape.Kind, G af a7 a8, G ag a9 ba], vb r5]) Z (Xa (Yz [.agg #[vs r4.Id, vi r4.Shape.Kind, G af a7 a8, G ag a9 ba], vb r5] 0 (.agg #[vs r4.Id, vi r4.Shape.Kind, G af a7 a8, G ag a9 ba]) Z Z) (Xa (Yz [.agg #[vs r4.Id, vi r4.Shape.Kind, G af a7 a8, G ag a9 ba], vb r5] 1 (vb r5) Z Z) (Yo [vs [], .int .i64 0, G none 0 0, G none 0 0] ze44 fun lf bb al hu179 ai hu => ?_)));have aj := bt.own ai (some bb) (Ym al hu179);refine Yf [vs r4.Id, vi r4.Shape.Kind, G af a7 a8, G ag a9 ba] hu Z Z sz44 Z Z fun ew ak hv => ?_;have ay := aj.wr 0 Z ak;refine Xf (vb r5) Z (Xb (Xc (Xc (Xe (Xd (vb r5) Z (Xa (Xj fa62_1 (Ad ab 0) (Ad ab 1) Z Z) ?_))))));have dh := (aj.bm ((ev.k0 av).k0 ai) 3 0 Z Z Z ak);refine Xa (Xo ag4 cL (Ad ab 1) (vb ((nth d v2).Had)) Z (dh.cell Z)) (Xa (Zi u4_ r5 ((nth d v2).Had) (r5 != ((nth d v2).Had)) Z Z Z) (Xd (vb (r5 != ((nth d v2).Had))) Z ?_));rcases X4 (r5 != ((nth d v2).Had)) with ah | ah
  ·have H := Xl H ah;refine Xi ah Z (Xi ah Z (Xi ah Z (Xi ah Z (Xi ah Z (Xa (Xk true (vb true) ah Z) (Xb (Yu (b := true) Z Z ?_)))))));refine Xc ?_;have hw : ([some bb, bk af, bk ag, some ab, bk aa] : Ob).Perm ((some bb :: bk af :: bk ag :: some ab :: bk aa :: []) ++ []) := RP;have hx := ay.drops hw;refine Xe ?_;have hy : DArr dFeat_44 ew ([] : Ob) ([] : List Feat) ([] : List (List Value)) := Z;refine X5 (kd := Kd.cells 4) Yw hx ([] : List (List Value)) (cells := []) Z RF fun lg b4 di dj hz hr196 ex h0 => ?_;have ey : ([bk b4] : Ob).Perm (bk b4 :: (([] : Ob) ++ [])) := RP;have dk := ex.perm ey;refine Xf (G b4 di dj) Z (Xf (vb false) Z (Xb (Xn ?_)));have h1 := (ex.sp h0 ey);have h2 := (hy.k0 hz);exact ⟨[G b4 di dj, vb false], ⟨_, Z, ⟨_, Z, Z⟩⟩, ([] : List Feat), false, b4, di, dj, ([] : Ob), ([] : List (List Value)), Z, H, dk.gr.g0, dk.ok, dk.ge, h1, h2⟩
  have H := Xm H ah;refine Xh ah Z (Xa (Xv ag44 sz44 cL (Ad bb 0) [vs r4.Id, vi r4.Shape.Kind, G af a7 a8, G ag a9 ba] Z Z (hv.cells (off := 00) Z)) (Xh ah Z (Xa (Xj fa62_2 (Ad ab 0) (Ad ab 2) Z Z) (Xh ah Z (Xa (Xv ag44 sz44 cL (Ad ab 2) [vs ((nth d v2).Was.Id), vi ((nth d v2).Was.Shape.Kind), G bh bi bj, G bl bn bo] Z Z (dh.cells (off := 2) Z)) (Xh ah Z ?_))))));have h3 := (aj.sw (hs.so _ ai (Xz al)) 1 0 Z Z Z ak);have h4 := ay.gv h3 1 Z;have dl := ay.drop 1 Z;have h5 := (ay.sd (aj.sw (ht.so _ ai (Xz al)) 2 0 Z Z Z ak) 2 1 Z Z Z);have h6 := dl.gv h5 1 Z;have h7 := dl.drop 1 Z;have dm := dl.std 1 Z;have ez := bd.stos av ax;have e0 := bt.stown _ ai (Xz al);have e1 := aj.stw 0 Z ak;have e2 := ay.std 1 Z;have h8 := (((((((hm.st ar).st au).st ez).st e0).st e1).st e2).st dm);have h9 := (((((((hn.st ar).st au).st ez).st e0).st e1).st e2).st dm);refine Xs go28 (F46.calls H h7.ok hr (h4.st dm) h6 hl h8 h9) Z ?_;rintro _ e3 ⟨r6, rfl, H, az⟩;have bu := ay.k0 az;refine Xh ah Z (Xa (X8 r6 Z) (Xa (Xk false (vb (!r6)) ah Z) (Xb ?_)));refine Xu (!r6) Z (fun dn => ?_) (fun dn => ?_)
  ·have H := Xl H dn;refine Xc ?_;have ia : ([some bb, bk af, bk ag, some ab, bk aa] : Ob).Perm ((some bb :: bk af :: bk ag :: some ab :: bk aa :: []) ++ []) := RP;have ib := bu.drops ia;refine Xe ?_;have ic : DArr dFeat_44 e3 ([] : Ob) ([] : List Feat) ([] : List (List Value)) := Z;refine X5 (kd := Kd.cells 4) Yw ib ([] : List (List Value)) (cells := []) Z RF fun lh b5 dp dq id hr234 e4 ie => ?_;have e5 : ([bk b5] : Ob).Perm (bk b5 :: (([] : Ob) ++ [])) := RP;have dr := e4.perm e5;refine Xf (G b5 dp dq) Z (Xf (vb false) Z (Xb (Xn ?_)));have ig := (e4.sp ie e5);have ih := (ic.k0 id);exact ⟨[G b5 dp dq, vb false], ⟨_, Z, ⟨_, Z, Z⟩⟩, ([] : List Feat), false, b5, dp, dq, ([] : Ob), ([] : List (List Value)), Z, H, dr.gr.g0, dr.ok, dr.ge, ig, ih⟩
  have H := Xm H dn;refine Xw (Xc (Xc ?_));have ae : ([some bb, bk af, bk ag, some ab, bk aa] : Ob).Perm ((some bb :: bk af :: bk ag :: []) ++ [some ab, bk aa]) := RP;have be := bu.drops ae;refine Xe (Xd (G aa ad ac) Z (Xa (Xj fa62_0 (Ad ab 0) (Ad ab 0) Z Z) ?_));have ds := (dh.k0 az);refine Xa (Xo ag9 cL (Ad ab 0) (vs ((nth d v2).Id)) Z (ds.cell Z)) ?_;have ii := (bu.odr ((aj.sw (((br.sw (b2.so _ bq (Xz bp)) 1 0 Z Z Z bs).sos av ax).so _ ai (Xz al)) 4 0 Z Z Z ak).sn az) ae 1 Z);have ij := be.gv ii 1 Z;have ik := be.drop 1 Z;refine Xs go82 (F107.calls H ik.ok ij er) Z ?_;rintro _ e6 ⟨r7, rfl, H, a0⟩;have aw := be.k0 a0;refine Xf (vi r7) Z (Xb (Xc (Xe (Xd (vi r7) Z (Xa (X0 r7 0 (decide (r7 ≥ 0)) Z Z Z) (Xb ?_))))));refine Xu (decide (r7 ≥ 0)) Z (fun dt => ?_) (fun dt => ?_)
  ·have H := Xl H dt;refine Xe (Xd (G aa ad ac) Z (Xd (vi r7) Z (Xd (vi r7) Z ?_)));obtain ⟨il, H⟩ := H;refine Xa (Ya r7 1 Z Z il) ?_;have im := ((bu.odr ((aj.sw (((br.sw (b2.so _ bq (Xz bp)) 1 0 Z Z Z bs).sos av ax).so _ ai (Xz al)) 4 0 Z Z Z ak).sn az) ae 1 Z).sn a0);refine Zn go86 [G aa ad ac, vi r7, vi (r7 + 1)] Z ((F11.calls e6 aw.ok aa ad ac xs2 im r7 (r7 + 1) _ H).mono ?_);rintro _ io ⟨r8, cl, rfl, H, cm, e7⟩;have bv := aw.wr 1 Z cm;refine Xf (G aa cl ac) Z (Xb (Xc (Xe (Xa (Xj fa62_3 (Ad ab 0) (Ad ab 6) Z Z) ?_))));have e8 := (aw.bm (ds.k0 a0) 0 1 Z Z Z cm);refine Xa (Xo ag4 cL (Ad ab 6) (vb ((nth d v2).Has)) Z (e8.cell Z)) (Xb ?_);refine Xu ((nth d v2).Has) Z (fun du => ?_) (fun du => ?_)
   ·have H := Xl H du;refine Xe (Xd (G aa cl ac) Z (Xa (Xj fa62_4 (Ad ab 0) (Ad ab 7) Z Z) (Xa (Xv ag44 sz44 cL (Ad ab 7) [vs ((nth d v2).Now.Id), vi ((nth d v2).Now.Shape.Kind), G a1 a2 a3, G a4 a5 a6] Z Z (e8.cells (off := 7) Z)) ?_)));have cn := bd.stos av ax;have co := bt.stown _ ai (Xz al);have cp := aj.stw 0 Z ak;have cq := ay.stn az;have cr := be.stn a0;have cs := aw.stw 1 Z cm;have ip := (((((((((et.st ar).st au).st cn).st co).st cp).st cq).st (St.drops _ O ae)).st cr).st cs);have iq := (((((((((eu.st ar).st au).st cn).st co).st cp).st cq).st (St.drops _ O ae)).st cr).st cs);refine Xs go77 (F39.calls H bv.ok es ip iq) Z ?_;rintro _ e9 ⟨r9, am, b6, b7, an, b8, b9, rfl, H, dv, ir, dw, it, iu, iv⟩;have fa := bv.owns dv ir dw;have fb : (dFeat_44).D e9 ([] ++ (([] ++ [bk am]) ++ [bk an])) r9 [vs r9.Id, vi r9.Shape.Kind, G am b6 b7, G an b8 b9] := (dFeat_44.mk _ r9 it (Ds.ofOw kPt_flat iu) (Ds.ofOw kTag_flat iv));have iw : DArr dFeat_44 e9 (([] ++ (([] ++ [bk am]) ++ [bk an])) ++ []) ([r9] : List Feat) ([[vs r9.Id, vi r9.Shape.Kind, G am b6 b7, G an b8 b9]] : List (List Value)) := ⟨_, _, Z, fb, Z⟩;refine X5 (kd := Kd.cells 4) Yw fa ([[vs r9.Id, vi r9.Shape.Kind, G am b6 b7, G an b8 b9]] : List (List Value)) (cells := [vs r9.Id, vi r9.Shape.Kind, G am b6 b7, G an b8 b9]) ⟨[vs r9.Id, vi r9.Shape.Kind, G am b6 b7, G an b8 b9], _, Z, Dd.raw _ fb, Z⟩ RF fun li bw ix iy dx hr298 ct iz => ?_;have cu : ([bk bw, bk am, bk an, some ab, bk aa] : Ob).Perm (bk bw :: some ab :: bk aa :: ((([] ++ (([] ++ [bk am]) ++ [bk an])) ++ []) ++ [])) := RP;have fc := ct.perm cu;have i0 := (ct.sp iz cu);have i1 := (iw.k0 dx);have cv : ((bk bw :: some ab :: bk aa :: ((([] ++ (([] ++ [bk am]) ++ [bk an])) ++ []) ++ [])) : Ob).Perm ((([] ++ (([] ++ [bk am]) ++ [bk an])) ++ []) ++ [bk bw, some ab, bk aa]) := RP;obtain ⟨i2, i3, lj⟩ := Dp.own (L := (bk bw :: some ab :: bk aa :: ((([] ++ (([] ++ [bk am]) ++ [bk an])) ++ []) ++ []))) (O := O) i0 i1 fc cv (memi 0 Z);obtain ⟨i4, H⟩ := H;have i5 := (fc.odr (ct.sp ((e7.sos dv dw).so _ dx hr298) cu) cv 2 Z);refine Yc Yw i3 (G aa cl ac) r8 ([r9] : List Feat) Z i5 (G bw ix iy) Z i2.sx 2 Z i4 fun lk fd fe ff ll fg dy i6 => ?_;refine Xf (G fd fe ff) Z (Xb (Xe ?_));obtain ⟨i7, H⟩ := H;refine Xa (Ya v2 1 Z Z i7) (Xd (vi (v2 + 1)) Z (Xb ?_));have dz := dy.drop 0 Z;have i8 := dz.drop 0 Z;obtain ⟨i9, ja⟩ := H;have fh := bv.stos dv dw;have fi := fa.stown _ dx hr298;have fj := ct.stp cu;have fk := dy.std 0 Z;have fl := dz.std 0 Z;have jb := ((((((((((((((b3.st cn).st co).st cp).st cq).st (St.drops _ O ae)).st cr).st cs).st fh).st fi).st fj).st (St.drops _ O cv)).st fg).st fk).st fl);have jc := ((((((((((((((((bg.st ar).st au).st cn).st co).st cp).st cq).st (St.drops _ O ae)).st cr).st cs).st fh).st fi).st fj).st (St.drops _ O cv)).st fg).st fk).st fl);have jd := (dz.sd (dy.sd i6 2 0 Z Z Z) 1 0 Z Z Z);exact ⟨((r8 ++ ([r9] : List Feat)), fd, fe, ff, v2 + 1), ja, i9, (Xx Z), i8, jb, jc, jd⟩
   have H := Xm H du;refine Xw (Xe ?_);obtain ⟨je, H⟩ := H;refine Xa (Ya v2 1 Z Z je) (Xd (vi (v2 + 1)) Z (Xb ?_));have jf := bv.drop 0 Z;obtain ⟨jg, jh⟩ := H;have fm := bd.stos av ax;have fn := bt.stown _ ai (Xz al);have fo := aj.stw 0 Z ak;have fp := ay.stn az;have fq := be.stn a0;have fr := aw.stw 1 Z cm;have fs := bv.std 0 Z;have ji := ((((((((b3.st fm).st fn).st fo).st fp).st (St.drops _ O ae)).st fq).st fr).st fs);have jj := ((((((((((bg.st ar).st au).st fm).st fn).st fo).st fp).st (St.drops _ O ae)).st fq).st fr).st fs);have jk := (bv.sd e7 1 0 Z Z Z);exact ⟨(r8, aa, cl, ac, v2 + 1), jh, jg, (Xx Z), jf, ji, jj, jk⟩
  have H := Xm H dt;refine Xw (Xc (Xe (Xa (Xj fa62_3 (Ad ab 0) (Ad ab 6) Z Z) ?_)));have ft := (ds.k0 a0);refine Xa (Xo ag4 cL (Ad ab 6) (vb ((nth d v2).Has)) Z (ft.cell Z)) (Xb ?_);refine Xu ((nth d v2).Has) Z (fun d0 => ?_) (fun d0 => ?_)
  ·have H := Xl H d0;refine Xe (Xd (G aa ad ac) Z (Xa (Xj fa62_4 (Ad ab 0) (Ad ab 7) Z Z) (Xa (Xv ag44 sz44 cL (Ad ab 7) [vs ((nth d v2).Now.Id), vi ((nth d v2).Now.Shape.Kind), G a1 a2 a3, G a4 a5 a6] Z Z (ft.cells (off := 7) Z)) ?_)));have cw := bd.stos av ax;have cx := bt.stown _ ai (Xz al);have cy := aj.stw 0 Z ak;have cz := ay.stn az;have c0 := be.stn a0;have jl := ((((((((et.st ar).st au).st cw).st cx).st cy).st cz).st (St.drops _ O ae)).st c0);have jm := ((((((((eu.st ar).st au).st cw).st cx).st cy).st cz).st (St.drops _ O ae)).st c0);refine Xs go77 (F39.calls H aw.ok es jl jm) Z ?_;rintro _ fu ⟨r10, ao, ca, cb, ap, cc, cd, rfl, H, d1, jn, d2, jo, jp, jq⟩;have fv := aw.owns d1 jn d2;have fw : (dFeat_44).D fu ([] ++ (([] ++ [bk ao]) ++ [bk ap])) r10 [vs r10.Id, vi r10.Shape.Kind, G ao ca cb, G ap cc cd] := (dFeat_44.mk _ r10 jo (Ds.ofOw kPt_flat jp) (Ds.ofOw kTag_flat jq));have jr : DArr dFeat_44 fu (([] ++ (([] ++ [bk ao]) ++ [bk ap])) ++ []) ([r10] : List Feat) ([[vs r10.Id, vi r10.Shape.Kind, G ao ca cb, G ap cc cd]] : List (List Value)) := ⟨_, _, Z, fw, Z⟩;refine X5 (kd := Kd.cells 4) Yw fv ([[vs r10.Id, vi r10.Shape.Kind, G ao ca cb, G ap cc cd]] : List (List Value)) (cells := [vs r10.Id, vi r10.Shape.Kind, G ao ca cb, G ap cc cd]) ⟨[vs r10.Id, vi r10.Shape.Kind, G ao ca cb, G ap cc cd], _, Z, Dd.raw _ fw, Z⟩ RF fun lm bx js jt d3 hr381 c1 ju => ?_;have c2 : ([bk bx, bk ao, bk ap, some ab, bk aa] : Ob).Perm (bk bx :: some ab :: bk aa :: ((([] ++ (([] ++ [bk ao]) ++ [bk ap])) ++ []) ++ [])) := RP;have fx := c1.perm c2;have jv := (c1.sp ju c2);have jw := (jr.k0 d3);have c4 : ((bk bx :: some ab :: bk aa :: ((([] ++ (([] ++ [bk ao]) ++ [bk ap])) ++ []) ++ [])) : Ob).Perm ((([] ++ (([] ++ [bk ao]) ++ [bk ap])) ++ []) ++ [bk bx, some ab, bk aa]) := RP;obtain ⟨jx, jy, ln⟩ := Dp.own (L := (bk bx :: some ab :: bk aa :: ((([] ++ (([] ++ [bk ao]) ++ [bk ap])) ++ []) ++ []))) (O := O) jv jw fx c4 (memi 0 Z);obtain ⟨jz, H⟩ := H;have j0 := (fx.odr (c1.sp ((((bu.odr ((aj.sw (((br.sw (b2.so _ bq (Xz bp)) 1 0 Z Z Z bs).sos av ax).so _ ai (Xz al)) 4 0 Z Z Z ak).sn az) ae 1 Z).sn a0).sos d1 d2).so _ d3 hr381) c2) c4 2 Z);refine Yc Yw jy (G aa ad ac) xs2 ([r10] : List Feat) Z j0 (G bx js jt) Z jx.sx 2 Z jz fun lo fy fz f0 lp f1 d4 j1 => ?_;refine Xf (G fy fz f0) Z (Xb (Xe ?_));obtain ⟨j2, H⟩ := H;refine Xa (Ya v2 1 Z Z j2) (Xd (vi (v2 + 1)) Z (Xb ?_));have d5 := d4.drop 0 Z;have j3 := d5.drop 0 Z;obtain ⟨j4, j5⟩ := H;have f2 := aw.stos d1 d2;have f3 := fv.stown _ d3 hr381;have f4 := c1.stp c2;have f5 := d4.std 0 Z;have f6 := d5.std 0 Z;have j6 := (((((((((((((b3.st cw).st cx).st cy).st cz).st (St.drops _ O ae)).st c0).st f2).st f3).st f4).st (St.drops _ O c4)).st f1).st f5).st f6);have j7 := (((((((((((((((bg.st ar).st au).st cw).st cx).st cy).st cz).st (St.drops _ O ae)).st c0).st f2).st f3).st f4).st (St.drops _ O c4)).st f1).st f5).st f6);have j8 := (d5.sd (d4.sd j1 2 0 Z Z Z) 1 0 Z Z Z);exact ⟨((xs2 ++ ([r10] : List Feat)), fy, fz, f0, v2 + 1), j5, j4, (Xx Z), j3, j6, j7, j8⟩
  have H := Xm H d0;refine Xw (Xe ?_);obtain ⟨j9, H⟩ := H;refine Xa (Ya v2 1 Z Z j9) (Xd (vi (v2 + 1)) Z (Xb ?_));have ka := aw.drop 0 Z;obtain ⟨kb, kc⟩ := H;have f7 := bd.stos av ax;have f8 := bt.stown _ ai (Xz al);have f9 := aj.stw 0 Z ak;have ga := ay.stn az;have gb := be.stn a0;have gc := aw.std 0 Z;have ke := (((((((b3.st f7).st f8).st f9).st ga).st (St.drops _ O ae)).st gb).st gc);have kf := (((((((((bg.st ar).st au).st f7).st f8).st f9).st ga).st (St.drops _ O ae)).st gb).st gc);have kg := (aw.sd ((bu.odr ((aj.sw (((br.sw (b2.so _ bq (Xz bp)) 1 0 Z Z Z bs).sos av ax).so _ ai (Xz al)) 4 0 Z Z Z ak).sn az) ae 1 Z).sn a0) 1 0 Z Z Z);exact ⟨(xs2, aa, ad, ac, v2 + 1), kc, kb, (Xx Z), ka, ke, kf, kg⟩
 have H := Xm H dg;refine Yh (xin_hit ?_);refine Xc (Xe (Xd (G aa ad ac) Z ?_));refine Zn go83 [G aa ad ac, .func (.func 87) #[] #[]] Z ((F6.calls bf ck.ok aa ad ac xs2 b2 87 go87 F64.cf F64.hlt F64.cmp _ H).mono ?_);rintro _ kh ⟨m, rfl, H, ki, gd⟩;have d6 := ck.wr 0 Z ki;refine Xb (Xc (Xc (Xe (Xd (G aa ad ac) Z ?_))));have kj := d6.gv gd 0 Z;have kk := d6.drop 0 Z;refine Xs go37 (F74.calls H kk.ok kj) Z ?_;rintro _ gf ⟨r11, rfl, H, gg⟩;have ce := d6.k0 gg;refine Xa (X8 r11 Z) (Xb ?_);refine Xu (!r11) Z (fun d7 => ?_) (fun d7 => ?_)
 ·have H := Xl H d7;refine Xc (Xe ?_);have kl : DArr dFeat_44 gf ([] : Ob) ([] : List Feat) ([] : List (List Value)) := Z;refine X5 (kd := Kd.cells 4) Yw ce ([] : List (List Value)) (cells := []) Z RF fun lq cg d8 d9 km hr452 gh kn => ?_;have gi : ([bk cg, bk aa] : Ob).Perm (bk cg :: bk aa :: (([] : Ob) ++ [])) := RP;have gj := gh.perm gi;refine Xf (G cg d8 d9) Z (Xf (vb false) Z (Xb (Xn ?_)));have ea := gj.drop 1 Z;have ko := (gj.sd (gh.sp kn gi) 0 1 Z Z Z);have kp := (kl.k0 km);exact ⟨[G cg d8 d9, vb false], ⟨_, Z, ⟨_, Z, Z⟩⟩, ([] : List Feat), false, cg, d8, d9, ([] : Ob), ([] : List (List Value)), Z, H, ea.gr.g0, ea.ok, ea.ge, ko, kp⟩
 have H := Xm H d7;refine Xw (Xc (Xe (Xd (G aa ad ac) Z ?_)));have kq := (gd.sn gg);have kr := ce.gv kq 0 Z;have ks := ce.drop 0 Z;refine Xs go81 (F33.calls H ks.ok kr) Z ?_;rintro _ lr ⟨r12, ch, eb, ec, ed, kt, rfl, H, gk, ku, gl, kv, kx⟩;have ky := Ok.unl (L := [bk aa]) (L' := []) (O := O) ce gk ku gl;have kz := Ow.unl (L := [bk aa]) (L' := []) (O := O) (fun _ _ _ _ _ _ h => h) (.cons _ (.slnil)) kv;have gm := ce.owns gk ky gl;have gn : (((bk ch :: (ed ++ [])) ++ [bk aa]) : Ob).Perm (bk ch :: bk aa :: (ed ++ [])) := RP;have gp := gm.perm gn;refine Xf (G ch eb ec) Z (Xf (vb true) Z (Xb (Xn ?_)));have ee := gp.drop 1 Z;have k1 := (gp.sd (gm.spa kz gn) 0 1 Z Z Z);have k2 := kx;exact ⟨[G ch eb ec, vb true], ⟨_, Z, ⟨_, Z, Z⟩⟩, r12, true, ch, eb, ec, ed, kt, Z, H, ee.gr.g0, ee.ok, ee.ge, k1, k2⟩
def F3.E (s1 s2 : List Feat) (eq : Feat → Feat → Bool) (eq_ok : Feat → Feat → Prop) (Q : Bool → Prop) : Prop :=
 (if (s1.length : Int) != (s2.length : Int) then Q false else (∃ (I36 : Int → Prop) (mu37 : Int → Nat), I36 0 ∧ ∀ (v2 : Int), I36 v2 → (if decide (v2 < (s1.length : Int)) then ((0 : Int) ≤ v2 ∧ v2 < (s1.length : Int)) ∧ ((0 : Int) ≤ v2 ∧ v2 < (s2.length : Int)) ∧ (eq_ok (nth s1 v2) (nth s2 v2)) ∧ (if !(eq (nth s1 v2) (nth s2 v2)) then Q false else (I64 (v2 + 1)) ∧ I36 (v2 + 1) ∧ mu37 (v2 + 1) < mu37 v2) else Q true)))
theorem F3.calls {s1 : List Feat} {A1 : Option Addr} {n2 c3 : Nat} {s2 : List Feat} {A6 : Option Addr} {n7 c8 : Nat} {ao : FuncId} {ap : List Value} {eq : Feat → Feat → Bool} {eq_ok : Feat → Feat → Prop} {Q : Bool → Prop} (H : F3.E s1 s2 eq eq_ok Q) (hO : Ok w0 O) (hp4 : Sl kFeat w0 (Fr O) (G A1 n2 c3) s1) (hp9 : Sl kFeat w0 (Fr O) (G A6 n7 c8) s2) (b3 : Goes Tryz.prog ao) (b4 : ∀ (w : World) (L : Ob), Ct [] w0 w L O → ∀ (x0_ : Feat) (a9 : Option Addr) (ba bb : Nat) (bc : Option Addr) (bd be : Nat) (c4 : Lim x0_.Id) (c5 : Sl kPt w (Fr (L ++ O)) (G a9 ba bb) x0_.Shape.Pts) (c6 : Sl kTag w (Fr (L ++ O)) (G bc bd be) x0_.Tags) (x1_ : Feat) (bf : Option Addr) (bg bh : Nat) (bi : Option Addr) (bj bl : Nat) (c7 : Lim x1_.Id) (c9 : Sl kPt w (Fr (L ++ O)) (G bf bg bh) x1_.Shape.Pts) (da : Sl kTag w (Fr (L ++ O)) (G bi bj bl) x1_.Tags), eq_ok x0_ x1_ → Ret Tryz.prog ao ([.agg #[vs x0_.Id, vi x0_.Shape.Kind, G a9 ba bb, G bc bd be], .agg #[vs x1_.Id, vi x1_.Shape.Kind, G bf bg bh, G bi bj bl]] ++ ap) w (fun v w' => v = vb (eq x0_ x1_) ∧ Gr w w' none)) :
  Ret Tryz.prog 92 [G A1 n2 c3, G A6 n7 c8, .func (.func ao) #[] ap.toArray] w0 (fun v w' => ∃ (r0 : Bool), v = vb r0 ∧ Q r0 ∧ Gr w0 w' none) := by
 unfold F3.E at H;have hc0 := Ct.init hO;refine Yb Tryz.func92 Z 32 Z [.tmp 6] Z Z ?_;refine Xc (Xe (Xf (vb false) Z (Xb (Xc (Xc (Xe (Xd (G A1 n2 c3) Z ?_)))))));have db := hp4.le;refine Xa (X9 u33_ A1 n2 c3 hp4.len Z) (Xd (G A6 n7 c8) Z ?_);have dc := hp9.le;refine Xa (X9 u33_ A6 n7 c8 hp9.len Z) (Xa (X0 (s1.length : Int) (s2.length : Int) ((s1.length : Int) != (s2.length : Int)) Z Z Z) (Xb ?_));refine Xu ((s1.length : Int) != (s2.length : Int)) Z (fun ax => ?_) (fun ax => ?_)
 ·have H := Xl H ax;exact Xc (Xe (Xf (vb false) Z (Xb (Xn ⟨[vb false], ⟨_, Z, Z⟩, false, Z, H, hc0.gr.g0⟩))))
 have H := Xm H ax;refine Xw (Xc (Xc (Xe (Xd (G A1 n2 c3) Z (Xa (X9 u33_ A1 n2 c3 hp4.len Z) (Xd (vi 0) Z (Xb (X6 ?_))))))));obtain ⟨b5, b6, ay, H⟩ := H;refine Yj (α := Int) (fun (sv__ : Int) t aq => match sv__ with | v2 => b5 v2 ∧ Has t [(1, G A6 n7 c8), (2, .func (.func ao) #[] ap.toArray), (15, G A1 n2 c3), (16, vi (s1.length : Int)), (17, vi v2)] ∧ Cw [] w0 aq [] O fun M => Sl kFeat aq (Fr M) (G A6 n7 c8) s2 ∧ Sl kFeat aq (Fr M) (G A1 n2 c3) s1) (fun (sv__ : Int) => match sv__ with | v2 => b6 v2) 0 ⟨ay, (Xx Z), hc0, hp9, hp4⟩ ?_;rintro v2 _ aq ⟨ay, b7, az, b8, a0⟩;obtain ⟨dd, rfl⟩ := Has.ins b7;have H := H v2 ay;refine Xc (Xe (Xa (X0 v2 (s1.length : Int) (decide (v2 < (s1.length : Int))) Z Z Z) (Xb (Xc ?_))));refine Xu (decide (v2 < (s1.length : Int))) Z (fun a1 => ?_) (fun a1 => ?_)
 ·have H := Xl H a1;refine Xw (Xc (X6 (Xc (Xe (Xd (vi v2) Z ?_)))));obtain ⟨bn, H⟩ := H;obtain ⟨bo, de, b9, df, ca, cb⟩ := a0.get default RD v2 bn;obtain ⟨aa, ab, ac, ad, ae, af, rfl, cc, cd, ce⟩ := kFeat.op ca;refine Xa (X3 u33_ Y4 A1 bo n2 c3 a0.len v2 Z b9 Z bn) (Xa (Xv ag44 sz44 cL (bo.add (v2.toNat * 4)) [vs ((nth s1 v2).Id), vi ((nth s1 v2).Shape.Kind), G aa ab ac, G ad ae af] Z Z cb) (Yo [vs [], .int .i64 0, G none 0 0, G none 0 0] ze44 fun dg ar bp hu65 bq cf => ?_));have br := az.own bq (some ar) (Ym bp hu65);refine Xf (vi v2) Z (Yf [vs ((nth s1 v2).Id), vi ((nth s1 v2).Shape.Kind), G aa ab ac, G ad ae af] cf Z Z sz44 Z Z fun dh bs cg => ?_);have bt := br.wr 0 Z bs;refine Xb (Xc (Xe (Xd (G A6 n7 c8) Z (Xd (vi v2) Z ?_))));obtain ⟨bu, H⟩ := H;have au := az.stown _ bq (Xz bp);have av := br.stw 0 Z bs;have a2 := ((b8.st au).st av);obtain ⟨bv, di, ch, dj, ci, cj⟩ := a2.get default RD v2 bu;obtain ⟨ag, ah, ai, aj, ak, al, rfl, ck, cl, cm⟩ := kFeat.op ci;refine Xa (X3 u33_ Y4 A6 bv n7 c8 a2.len v2 Z ch Z bu) (Xa (Xv ag44 sz44 cL (bv.add (v2.toNat * 4)) [vs ((nth s2 v2).Id), vi ((nth s2 v2).Shape.Kind), G ag ah ai, G aj ak al] Z Z cj) (Yo [vs [], .int .i64 0, G none 0 0, G none 0 0] ze44 fun dk aw bw hu98 a3 cn => ?_));have a4 := bt.own a3 (some aw) (Ym bw hu98);refine Yf [vs ((nth s2 v2).Id), vi ((nth s2 v2).Shape.Kind), G ag ah ai, G aj ak al] cn Z Z sz44 Z Z fun co a5 cp => ?_;have a6 := a4.wr 0 Z a5;refine Xb (Xc (Xe (Xd (.func (.func ao) #[] ap.toArray) Z ?_)));have cq := (a4.bm (cg.k0 a3) 1 0 Z Z Z a5);refine Xa (Xv ag44 sz44 cL (Ad ar 0) [vs ((nth s1 v2).Id), vi ((nth s1 v2).Shape.Kind), G aa ab ac, G ad ae af] Z Z (cq.cells (off := 00) Z)) (Xa (Xv ag44 sz44 cL (Ad aw 0) [vs ((nth s2 v2).Id), vi ((nth s2 v2).Shape.Kind), G ag ah ai, G aj ak al] Z Z (cp.cells (off := 00) Z)) ?_);obtain ⟨cr, H⟩ := H;have am := bt.stown _ a3 (Xz bw);have an := a4.stw 0 Z a5;have cs := ((((cd.st au).st av).st am).st an);have ct := ((((ce.st au).st av).st am).st an);have cu := ((cl.st am).st an);have cv := ((cm.st am).st an);refine Zs b3 ap Z [.agg #[vs ((nth s1 v2).Id), vi ((nth s1 v2).Shape.Kind), G aa ab ac, G ad ae af], .agg #[vs ((nth s2 v2).Id), vi ((nth s2 v2).Shape.Kind), G ag ah ai, G aj ak al]] Z ((b4 co [some aw, some ar] a6 (nth s1 v2) aa ab ac ad ae af cc cs ct (nth s2 v2) ag ah ai aj ak al ck cu cv cr).mono ?_);rintro _ dl ⟨rfl, bx⟩;have a7 := a6.k0 bx;refine Xa (X8 (eq (nth s1 v2) (nth s2 v2)) Z) (Xb ?_);refine Xu (!(eq (nth s1 v2) (nth s2 v2))) Z (fun a8 => ?_) (fun a8 => ?_)
  ·have H := Xl H a8;refine Xc (Xe (Xf (vb false) Z (Xb (Xn ?_))));have cw := a7.clear;exact ⟨[vb false], ⟨_, Z, Z⟩, false, Z, H, cw.gr.g0⟩
  have H := Xm H a8;refine Xw (Xe ?_);obtain ⟨cx, H⟩ := H;refine Xa (Ya v2 1 Z Z cx) (Xd (vi (v2 + 1)) Z (Xb ?_));have bz := a7.drop 0 Z;have cy := bz.drop 0 Z;obtain ⟨cz, c0⟩ := H;have b0 := a6.stn bx;have b1 := a7.std 0 Z;have b2 := bz.std 0 Z;have c1 := (((((a2.st am).st an).st b0).st b1).st b2);have c2 := (((((((a0.st au).st av).st am).st an).st b0).st b1).st b2);exact ⟨v2 + 1, c0, cz, (Xx Z), cy, c1, c2⟩
 have H := Xm H a1;refine Yh (xin_hit ?_);exact Xc (Xe (Xf (vb true) Z (Xb (Xn ⟨[vb true], ⟨_, Z, Z⟩, true, Z, H, az.gr.g0⟩))))
def F43.E (a b : List Feat) (Q : Bool → Prop) : Prop :=
 (∃ (f : Feat → Feat → Bool) (f_ok : Feat → Feat → Prop), (∀ x0_ x1_, f_ok x0_ x1_ → F46.E x0_ x1_  (fun r => r = f x0_ x1_)) ∧ F3.E a b f f_ok (fun r => Q r))
theorem F43.calls {a : List Feat} {A1 : Option Addr} {n2 c3 : Nat} {b : List Feat} {A6 : Option Addr} {n7 c8 : Nat} {Q : Bool → Prop} (H : F43.E a b Q) (hO : Ok w0 O) (hp4 : Sl kFeat w0 (Fr O) (G A1 n2 c3) a) (hp9 : Sl kFeat w0 (Fr O) (G A6 n7 c8) b) :
  Ret Tryz.prog 36 [G A1 n2 c3, G A6 n7 c8] w0 (fun v w' => ∃ (r0 : Bool), v = vb r0 ∧ Q r0 ∧ Gr w0 w' none) := by
 unfold F43.E at H;have hc0 := Ct.init hO;refine Yb Tryz.func36 Z 8 Z [.tmp 4] Z Z ?_;refine Xc (Xe (Xf (vb false) Z (Xb (Xc (Xe (Xd (G A1 n2 c3) Z (Xd (G A6 n7 c8) Z ?_)))))));obtain ⟨f, f_ok, au, H⟩ := H;have av : ∀ (w : World) (L : Ob), Ct [] w0 w L ([] ++ O) → ∀ (x0_ : Feat) (aa : Option Addr) (ab ac : Nat) (ad : Option Addr) (ae af : Nat) (am : Lim x0_.Id) (an : Sl kPt w (Fr (L ++ ([] ++ O))) (G aa ab ac) x0_.Shape.Pts) (ao : Sl kTag w (Fr (L ++ ([] ++ O))) (G ad ae af) x0_.Tags) (x1_ : Feat) (ag : Option Addr) (ah ai : Nat) (aj : Option Addr) (ak al : Nat) (ap : Lim x1_.Id) (aq : Sl kPt w (Fr (L ++ ([] ++ O))) (G ag ah ai) x1_.Shape.Pts) (ar : Sl kTag w (Fr (L ++ ([] ++ O))) (G aj ak al) x1_.Tags), f_ok x0_ x1_ → Ret Tryz.prog 28 ([.agg #[vs x0_.Id, vi x0_.Shape.Kind, G aa ab ac, G ad ae af], .agg #[vs x1_.Id, vi x1_.Shape.Kind, G ag ah ai, G aj ak al]] ++ []) w (fun v w' => v = vb (f x0_ x1_) ∧ Gr w w' none) := by
  intro w L c x0_ aa ab ac ad ae af am an ao x1_ ag ah ai aj ak al ap aq ar hok;refine (F46.calls (au x0_ x1_ hok) c.ok am an ao ap aq ar).mono ?_;rintro _ w2 ⟨r, rfl, rfl, g2⟩;exact ⟨Z, g2⟩
 refine Xs go92 (F3.calls H hc0.ok hp4 hp9 go28 av) Z ?_;rintro _ ay ⟨r, rfl, H, aw⟩;have ax := hc0.k0 aw;exact Xf (vb r) Z (Xb (Xn ⟨[vb r], ⟨_, Z, Z⟩, r, Z, H, ax.gr.g0⟩))
def laws_FnDiffThen.E (code : List UInt8) (Q : Bool → Prop) : Prop :=
 (if decide ((code.length : Int) > 1048576) then Q true else F13.E code (fun r r2 => F54.E r r2 (fun r3 r4 => F66.E r r2 (fun r5 r6 => (if r4 != r6 then Q false else F49.E r3 (fun r7 => F52.E r5 (fun r8 => (if r7 != r8 then Q false else (if (r3.length : Int) != (r5.length : Int) then Q false else F101.E r (fun r9 => (if r9 then F47.E r (fun r10 => F54.E r r10 (fun r11 r12 => (if !r12 then Q false else (if decide ((r11.length : Int) > 0) then Q false else (if !r4 then Q ((r3.length : Int) == 0) else F35.E code (fun r13 r14 => F115.E r13 r (fun r15 r16 => F115.E r15 r2 (fun r17 r18 => F115.E r13 r3 (fun r19 r20 => F100.E r3 (fun r21 => (if r21 then (if !r16 then Q (decide ((r14.length : Int) ≥ 0)) else (if !r18 then Q (decide ((r14.length : Int) ≥ 0)) else (if r20 then F43.E r19 r17 (fun r22 => (if r22 then Q (decide ((r14.length : Int) ≥ 0)) else Q false)) else Q false))) else Q false))))))))))) else (if !r4 then Q ((r3.length : Int) == 0) else F35.E code (fun r23 r24 => F115.E r23 r (fun r25 r26 => F115.E r25 r2 (fun r27 r28 => F115.E r23 r3 (fun r29 r30 => F100.E r3 (fun r31 => (if r31 then (if !r26 then Q (decide ((r24.length : Int) ≥ 0)) else (if !r28 then Q (decide ((r24.length : Int) ≥ 0)) else (if r30 then F43.E r29 r27 (fun r32 => (if r32 then Q (decide ((r24.length : Int) ≥ 0)) else Q false)) else Q false))) else Q false))))))))))))))))))
theorem laws_FnDiffThen.calls {O : Ob} (w0 : World) (hO : Ok w0 O) (hG : Glob w0 O) (code : List UInt8) (A1 : Option Addr) (n2 c3 : Nat) (hp4 : Sl Kd.byte w0 (Fr O) (G A1 n2 c3) code) (Q : Bool → Prop) (h : laws_FnDiffThen.E code Q) :
  Ret Tryz.prog 9 [G A1 n2 c3] w0 (fun v w' => ∃ (r0 : Bool), v = vb r0 ∧ Q r0 ∧ Gr w0 w' none) := by
 unfold laws_FnDiffThen.E at h;have H := h;clear h;have hc0 := Ct.init hO;refine Yb Tryz.func9 Z 123 Z [.tmp 2] Z Z ?_;refine Xc (Xe (Xf (vb false) Z (Xb (Xc (Xc (Xe (Xd (G A1 n2 c3) Z ?_)))))));have hl6 := hp4.le;refine Xa (X9 u22_ A1 n2 c3 hp4.len Z) (Xa (X0 (code.length : Int) 1048576 (decide ((code.length : Int) > 1048576)) Z Z Z) (Xb ?_));refine Xu (decide ((code.length : Int) > 1048576)) Z (fun hq7 => ?_) (fun hq7 => ?_)
 ·have H := Xl H hq7;exact Xc (Xe (Xf (vb true) Z (Xb (Xn ⟨[vb true], ⟨_, Z, Z⟩, true, Z, H, hc0.gr.g0⟩))))
 have H := Xm H hq7;refine Xw (Xc (Xe (Xd (G A1 n2 c3) Z ?_)));refine Xs go16 (F13.calls H hc0.ok hp4) Z ?_;rintro _ w8 ⟨r, r2, aj, ao, ap, au, a1, a2, rfl, H, g9, fw, fx, et, eu⟩;have dl := hc0.owns g9 fw fx;refine Xd (.tuple #[G aj ao ap, G au a1 a2]) Z (Xa (Yz [G aj ao ap, G au a1 a2] 0 (G aj ao ap) Z Z) (Xa (Yz [G aj ao ap, G au a1 a2] 1 (G au a1 a2) Z Z) (Xf (G aj ao ap) Z (Xf (G au a1 a2) Z (Xb (Xc (Xe (Xd (G aj ao ap) Z ?_))))))));refine Xd (G au a1 a2) Z ?_;have fy := dl.gv et 0 Z;have d9 := dl.drop 0 Z;have fz := (dl.sd eu 1 0 Z Z Z);have f0 := d9.gv fz 0 Z;have f1 := d9.drop 0 Z;have f2 := d9.std 0 Z;refine Xs go18 (F54.calls H f1.ok (fy.st f2) f0) Z ?_;rintro _ f3 ⟨r3, r4, aa, ah, ai, ab, kx, rfl, H, dw, f4, dx, f5, ev⟩;have f6 := Ok.unl (L := [bk aj, bk au]) (L' := []) (O := O) dl dw f4 dx;have ew := Ow.unl (L := [bk aj, bk au]) (L' := []) (O := O) (fun _ _ _ _ _ _ h => h) (.cons _ (.cons _ (.slnil))) f5;have dm := dl.owns dw f6 dx;have dn : (((bk aa :: (ab ++ [])) ++ [bk aj, bk au]) : Ob).Perm (bk aa :: bk aj :: bk au :: (ab ++ [])) := RP;have dp := dm.perm dn;refine Xd (.tuple #[G aa ah ai, vb r4]) Z (Xa (Yz [G aa ah ai, vb r4] 0 (G aa ah ai) Z Z) (Xa (Yz [G aa ah ai, vb r4] 1 (vb r4) Z Z) (Xf (G aa ah ai) Z (Xf (vb r4) Z (Xb (Xc (Xe (Xd (G aj ao ap) Z ?_))))))));refine Xd (G au a1 a2) Z ?_;have f7 := (dm.spa (et.sos dw dx) dn);have ex := dp.gv f7 1 Z;have dq := dp.drop 1 Z;have f8 := (dp.sd (dm.spa (eu.sos dw dx) dn) 2 1 Z Z Z);have ea := dq.gv f8 1 Z;have eb := dq.drop 1 Z;have ey := dq.std 1 Z;refine Xs go38 (F66.calls H eb.ok (ex.st ey) ea) Z ?_;rintro _ f9 ⟨r5, r6, ac, bp, bq, rfl, H, da, ga, dy, ez⟩;have dz := eb.owns da ga dy;refine Xd (.tuple #[G ac bp bq, vb r6]) Z (Xa (Yz [G ac bp bq, vb r6] 0 (G ac bp bq) Z Z) (Xa (Yz [G ac bp bq, vb r6] 1 (vb r6) Z Z) (Xf (G ac bp bq) Z (Xf (vb r6) Z (Xb (Xc (Xc (Xe ?_))))))));refine Xd (vb r4) Z (Xd (vb r6) Z (Xa (Zi u4_ r4 r6 (r4 != r6) Z Z Z) (Xd (vb (r4 != r6)) Z ?_)));rcases X4 (r4 != r6) with a4 | a4
 ·have H := Xl H a4;refine Xi a4 Z (Xi a4 Z (Xi a4 Z (Xi a4 Z (Xi a4 Z (Xa (Xk true (vb true) a4 Z) (Xd (vb true) Z (X7 (dj := 49) Z Z (.inl Z) (X7 (dj := 49) Z Z (.inl Z) ?_))))))));refine X7 (dj := 49) Z Z (.inl Z) (X7 (dj := 49) Z Z (.inl Z) (X7 (dj := 49) Z Z (.inl Z) (Xa (Xk true (vb true) Z Z) (Xb (Yu (b := true) Z Z ?_)))));refine Xc (Xe (Xf (vb false) Z (Xb (Xn ?_))));have gb := dz.clear;exact ⟨[vb false], ⟨_, Z, Z⟩, false, Z, H, gb.gr.g0⟩
 have H := Xm H a4;refine Xh a4 Z (Xd (G aa ah ai) Z (Xh a4 Z ?_));have gc := ((dq.sd (dp.sd (dm.spa ew dn) 0 1 Z Z Z) 0 1 Z Z Z).sos da dy);have gd := (ev.k0 da);have ge : ((bk ac :: bk aa :: (ab ++ [])) : Ob).Perm (bk aa :: (ab ++ [bk ac])) := RP;obtain ⟨gf, e0, ky⟩ := Dp.gv (L := (bk ac :: bk aa :: (ab ++ []))) (O := O) (v := G aa ah ai) gc gd dz ge;refine Xs go12 (F49.calls H e0.ok (hG.st e0.st) gf) Z ?_;rintro _ e1 ⟨r7, rfl, H, db, kz⟩;have d0 := dz.k0 db;refine Xh a4 Z (Xd (G ac bp bq) Z (Xh a4 Z ?_));have gg := (ez.sn db);have gh := d0.gv gg 0 Z;have gi : Ct [] w0 e1 (bk aa :: (ab ++ [])) O := d0.drop 0 Z;refine Xs go13 (F52.calls H gi.ok gh) Z ?_;rintro _ gj ⟨r8, rfl, H, dr, k1⟩;have dc := d0.k0 dr;refine Xh a4 Z (Xa (Yt r7 r8 (r7 != r8) Z Z Z) (Xa (Xk false (vb (r7 != r8)) a4 Z) (Xd (vb (r7 != r8)) Z ?_)));rcases X4 (r7 != r8) with a5 | a5
 ·have H := Xl H a5;refine Xi a5 Z (Xi a5 Z (Xi a5 Z (Xi a5 Z (Xi a5 Z (Xa (Xk true (vb true) a5 Z) (Xb (Yu (b := true) Z Z ?_)))))));refine Xc (Xe (Xf (vb false) Z (Xb (Xn ?_))));have gk := dc.clear;exact ⟨[vb false], ⟨_, Z, Z⟩, false, Z, H, gk.gr.g0⟩
 have H := Xm H a5;refine Xh a5 Z (Xd (G aa ah ai) Z (Xh a5 Z ?_));have ck := ((((dq.sd (dp.sd (dm.spa ew dn) 0 1 Z Z Z) 0 1 Z Z Z).sos da dy).sn db).sn dr);have cl := (((ev.k0 da).k0 db).k0 dr);have k2 := (Dp.le ck cl);refine Xa (X9 u23_ aa ah ai (Dp.len ck cl) Z) (Xh a5 Z (Xd (G ac bp bq) Z (Xh a5 Z ?_)));have e2 := ((ez.sn db).sn dr);have k3 := e2.le;refine Xa (X9 u23_ ac bp bq e2.len Z) (Xh a5 Z (Xa (X0 (r3.length : Int) (r5.length : Int) ((r3.length : Int) != (r5.length : Int)) Z Z Z) (Xa (Xk false (vb ((r3.length : Int) != (r5.length : Int))) a5 Z) (Xb ?_))));refine Xu ((r3.length : Int) != (r5.length : Int)) Z (fun ec => ?_) (fun ec => ?_)
 ·have H := Xl H ec;refine Xc (Xe (Xf (vb false) Z (Xb (Xn ?_))));have gl := dc.clear;exact ⟨[vb false], ⟨_, Z, Z⟩, false, Z, H, gl.gr.g0⟩
 have H := Xm H ec;refine Xw (Xc (Xc (Xe (Xd (G aj ao ap) Z ?_))));have ed := eb.stos da dy;have ee := dz.stn db;have ef := d0.stn dr;have ds := ((((ex.st ey).st ed).st ee).st ef);refine Xs go15 (F101.calls H dc.ok ds) Z ?_;rintro _ e3 ⟨r9, rfl, H, a6⟩;have bv := dc.k0 a6;refine Xb ?_;refine Xu r9 Z (fun eg => ?_) (fun eg => ?_)
 ·have H := Xl H eg;refine Xc (Xe (Xd (G aj ao ap) Z (Xd (G aj ao ap) Z ?_)));have d1 := dc.stn a6;refine Xs go11 (F47.calls H bv.ok (ds.st d1)) Z ?_;rintro _ eh ⟨r10, av, ei, ej, ay, k4, rfl, H, bw, gm, dd, gn, gp⟩;have dt := bv.owns bw gm dd;have cu : (((bk av :: (ay ++ [])) ++ (bk ac :: bk aa :: (ab ++ []))) : Ob).Perm (bk av :: bk ac :: bk aa :: (ay ++ (ab ++ []))) := RP;have d2 := dt.perm cu;have gq := (dt.spa gn cu);have gs := gp;have gt : ((bk av :: bk ac :: bk aa :: (ay ++ (ab ++ []))) : Ob).Perm (bk av :: (ay ++ (bk ac :: bk aa :: (ab ++ [])))) := RP;obtain ⟨gu, gw, gx⟩ := Dp.gv (L := (bk av :: bk ac :: bk aa :: (ay ++ (ab ++ [])))) (O := O) (v := G av ei ej) gq gs d2 gt;have gy := bv.stos bw dd;have gz := St.spa (w := eh) (A := (bk av :: (ay ++ []))) (L := (bk ac :: bk aa :: (ab ++ []))) (O := O) cu;have g1 := ((((ds.st d1).st gy).st gz).st gx);refine Xs go18 (F54.calls H gw.ok g1 gu) Z ?_;rintro _ e4 ⟨r11, r12, a3, cv, cw, bx, k5, rfl, H, bz, g2, de, g3, g4⟩;have g5 := Ok.unl (L := (bk av :: bk ac :: bk aa :: (ay ++ (ab ++ [])))) (L' := (bk ac :: bk aa :: (ab ++ []))) (O := O) d2 bz g2 de;have g6 := Ow.unl (L := (bk av :: bk ac :: bk aa :: (ay ++ (ab ++ [])))) (L' := (bk ac :: bk aa :: (ab ++ []))) (O := O) (fun _ _ _ _ _ _ h => h) (.cons _ (.cons_cons _ (.cons_cons _ (List.sublist_append_of_sublist_right (.append (.refl _) (.refl _)))))) g3;have du := d2.owns bz g5 de;have df : (((bk a3 :: (bx ++ [])) ++ (bk av :: bk ac :: bk aa :: (ay ++ (ab ++ [])))) : Ob).Perm (bk a3 :: bk av :: bk ac :: bk aa :: (bx ++ (ay ++ (ab ++ [])))) := RP;have dg := du.perm df;refine Xd (.tuple #[G a3 cv cw, vb r12]) Z (Xa (Yz [G a3 cv cw, vb r12] 0 (G a3 cv cw) Z Z) (Xa (Yz [G a3 cv cw, vb r12] 1 (vb r12) Z Z) (Xf (G a3 cv cw) Z (Xf (vb r12) Z (Xb (Xc (Xe (Xd (vb r12) Z ?_))))))));refine Xa (X8 r12 Z) (Xd (vb (!r12)) Z ?_);rcases X4 (!r12) with a9 | a9
  ·have H := Xl H a9;refine Xi a9 Z (Xi a9 Z (Xi a9 Z (Xa (Xk true (vb true) a9 Z) (Xb (Yu (b := true) Z Z ?_)))));refine Xc ?_;have g7 : ((bk a3 :: bk av :: bk ac :: bk aa :: (bx ++ (ay ++ (ab ++ [])))) : Ob).Perm ((bk a3 :: bk av :: bk ac :: bk aa :: (bx ++ (ay ++ (ab ++ [])))) ++ []) := RP;have g8 := dg.drops g7;exact Xe (Xf (vb false) Z (Xb (Xn ⟨[vb false], ⟨_, Z, Z⟩, false, Z, H, g8.gr.g0⟩)))
  have H := Xm H a9;refine Xh a9 Z (Xd (G a3 cv cw) Z (Xh a9 Z ?_));have e5 := (du.spa g6 df);have e6 := g4;have k6 := (Dp.le e5 e6);refine Xa (X9 u23_ a3 cv cw (Dp.len e5 e6) Z) (Xh a9 Z (Xa (X0 (r11.length : Int) 0 (decide ((r11.length : Int) > 0)) Z Z Z) (Xa (Yp false (vb (decide ((r11.length : Int) > 0))) (by exact congrArg Value.bool a9) Z) (Xb ?_))));refine Xu (decide ((r11.length : Int) > 0)) Z (fun ek => ?_) (fun ek => ?_)
  ·have H := Xl H ek;refine Xc ?_;have ha : ((bk a3 :: bk av :: bk ac :: bk aa :: (bx ++ (ay ++ (ab ++ [])))) : Ob).Perm ((bk a3 :: bk av :: bk ac :: bk aa :: (bx ++ (ay ++ (ab ++ [])))) ++ []) := RP;have hb := dg.drops ha;exact Xe (Xf (vb false) Z (Xb (Xn ⟨[vb false], ⟨_, Z, Z⟩, false, Z, H, hb.gr.g0⟩)))
  have H := Xm H ek;refine Xw (Xc (Xc ?_));have dh : ((bk a3 :: bk av :: bk ac :: bk aa :: (bx ++ (ay ++ (ab ++ [])))) : Ob).Perm ((bk a3 :: bk av :: bk ac :: (bx ++ (ay ++ []))) ++ (bk aa :: (ab ++ []))) := RP;have dv := dg.drops dh;refine Xe (Xd (vb r4) Z (Xa (X8 r4 Z) (Xb ?_)));refine Xu (!r4) Z (fun el => ?_) (fun el => ?_)
  ·have H := Xl H el;refine Xc (Xe (Xd (G aa ah ai) Z ?_));have hc := (dg.odr (du.spa ((dt.spa ((ck.sn a6).sos bw dd) cu).sos bz de) df) dh 0 Z);have hd := (((cl.k0 a6).k0 bw).k0 bz);refine Xa (X9 u23_ aa ah ai (Dp.len hc hd) Z) (Xa (X0 (r3.length : Int) 0 ((r3.length : Int) == 0) Z Z Z) (Xf (vb ((r3.length : Int) == 0)) Z (Xb (Xn ?_))));have he : ((bk aa :: (ab ++ [])) : Ob).Perm ((bk aa :: (ab ++ [])) ++ []) := RP;have hf := dv.drops he;exact ⟨[vb ((r3.length : Int) == 0)], ⟨_, Z, Z⟩, (r3.length : Int) == 0, Z, H, hf.gr.g0⟩
  have H := Xm H el;refine Xw (Xc (Xe (Xd (G A1 n2 c3) Z ?_)));refine Xs go33 (F35.calls H dv.ok (hp4.st dv.st)) Z ?_;rintro _ hg ⟨r13, r14, ba, bb, bc, ad, bd, be, rfl, H, di, hh, d3, e7, em⟩;have d4 := dv.owns di hh d3;refine Xd (.tuple #[G ba bb bc, G ad bd be]) Z (Xa (Yz [G ba bb bc, G ad bd be] 0 (G ba bb bc) Z Z) (Xa (Yz [G ba bb bc, G ad bd be] 1 (G ad bd be) Z Z) (Xf (G ba bb bc) Z (Xf (G ad bd be) Z (Xb (Xc (Xe (Xd (G ba bb bc) Z ?_))))))));refine Xd (G aj ao ap) Z ?_;have e8 := bv.stos bw dd;have e9 := St.spa (w := eh) (A := (bk av :: (ay ++ []))) (L := (bk ac :: bk aa :: (ab ++ []))) (O := O) cu;have fa := d2.stos bz de;have fb := St.spa (w := e4) (A := (bk a3 :: (bx ++ []))) (L := (bk av :: bk ac :: bk aa :: (ay ++ (ab ++ [])))) (O := O) df;have fc := dv.stos di d3;have hi := (((((((ds.st d1).st e8).st e9).st fa).st fb).st (St.drops _ O dh)).st fc);refine Xs go34 (F115.calls H d4.ok e7 hi) Z ?_;rintro _ en ⟨r15, r16, af, b0, b1, ak, k7, rfl, H, br, hj, cm, hk, hl⟩;have cx := d4.owns br hj cm;have b2 : (((bk af :: (ak ++ [])) ++ (bk ad :: bk aa :: (ab ++ []))) : Ob).Perm (bk af :: bk ad :: bk aa :: (ak ++ (ab ++ []))) := RP;have d5 := cx.perm b2;refine Xd (.tuple #[G af b0 b1, vb r16]) Z (Xa (Yz [G af b0 b1, vb r16] 0 (G af b0 b1) Z Z) (Xa (Yz [G af b0 b1, vb r16] 1 (vb r16) Z Z) (Xf (G af b0 b1) Z (Xf (vb r16) Z (Xb (Xc (Xe (Xd (G af b0 b1) Z ?_))))))));refine Xd (G au a1 a2) Z ?_;have hm := (cx.spa hk b2);have hn := hl;have ho : ((bk af :: bk ad :: bk aa :: (ak ++ (ab ++ []))) : Ob).Perm (bk af :: (ak ++ (bk ad :: bk aa :: (ab ++ [])))) := RP;obtain ⟨hp, hq, hr⟩ := Dp.gv (L := (bk af :: bk ad :: bk aa :: (ak ++ (ab ++ [])))) (O := O) (v := G af b0 b1) hm hn d5 ho;have hs := d4.stos br cm;have ht := St.spa (w := en) (A := (bk af :: (ak ++ []))) (L := (bk ad :: bk aa :: (ab ++ []))) (O := O) b2;have hu := (((((((((((((ea.st ed).st ee).st ef).st d1).st e8).st e9).st fa).st fb).st (St.drops _ O dh)).st fc).st hs).st ht).st hr);refine Xs go34 (F115.calls H hq.ok hp hu) Z ?_;rintro _ fd ⟨r17, r18, al, b3, b4, aw, k8, rfl, H, bs, hv, cn, hw, hx⟩;have hy := Ok.unl (L := (bk af :: bk ad :: bk aa :: (ak ++ (ab ++ [])))) (L' := (bk ad :: bk aa :: (ab ++ []))) (O := O) d5 bs hv cn;have hz := Ow.unl (L := (bk af :: bk ad :: bk aa :: (ak ++ (ab ++ [])))) (L' := (bk ad :: bk aa :: (ab ++ []))) (O := O) (fun _ _ _ _ _ _ h => h) (.cons _ (.cons_cons _ (.cons_cons _ (List.sublist_append_of_sublist_right (.append (.refl _) (.refl _)))))) hw;have cy := d5.owns bs hy cn;have co : (((bk al :: (aw ++ [])) ++ (bk af :: bk ad :: bk aa :: (ak ++ (ab ++ [])))) : Ob).Perm (bk al :: bk af :: bk ad :: bk aa :: (aw ++ (ak ++ (ab ++ [])))) := RP;have eo := cy.perm co;refine Xd (.tuple #[G al b3 b4, vb r18]) Z (Xa (Yz [G al b3 b4, vb r18] 0 (G al b3 b4) Z Z) (Xa (Yz [G al b3 b4, vb r18] 1 (vb r18) Z Z) (Xf (G al b3 b4) Z (Xf (vb r18) Z (Xb (Xc (Xe (Xd (G ba bb bc) Z ?_))))))));refine Xd (G aa ah ai) Z ?_;have h0 := (cy.spa ((cx.spa (((dg.odr (du.spa ((dt.spa ((ck.sn a6).sos bw dd) cu).sos bz de) df) dh 0 Z).sos di d3).sos br cm) b2).sos bs cn) co);have h1 := ((((((cl.k0 a6).k0 bw).k0 bz).k0 di).k0 br).k0 bs);have h2 : ((bk al :: bk af :: bk ad :: bk aa :: (aw ++ (ak ++ (ab ++ [])))) : Ob).Perm (bk aa :: (ab ++ (bk al :: bk af :: bk ad :: (aw ++ (ak ++ []))))) := RP;obtain ⟨h3, h4, h5⟩ := Dp.gv (L := (bk al :: bk af :: bk ad :: bk aa :: (aw ++ (ak ++ (ab ++ []))))) (O := O) (v := G aa ah ai) h0 h1 eo h2;have h6 := d4.stos br cm;have h7 := St.spa (w := en) (A := (bk af :: (ak ++ []))) (L := (bk ad :: bk aa :: (ab ++ []))) (O := O) b2;have h8 := d5.stos bs cn;have h9 := St.spa (w := fd) (A := (bk al :: (aw ++ []))) (L := (bk af :: bk ad :: bk aa :: (ak ++ (ab ++ [])))) (O := O) co;have ia := (((((e7.st h6).st h7).st h8).st h9).st h5);refine Xs go34 (F115.calls H h4.ok ia h3) Z ?_;rintro _ ib ⟨r19, r20, az, b5, b6, b7, k9, rfl, H, b8, ic, cz, id, ie⟩;have ig := Ok.unl (L := (bk al :: bk af :: bk ad :: bk aa :: (aw ++ (ak ++ (ab ++ []))))) (L' := (bk al :: bk af :: bk ad :: (aw ++ (ak ++ [])))) (O := O) eo b8 ic cz;have ih := Ow.unl (L := (bk al :: bk af :: bk ad :: bk aa :: (aw ++ (ak ++ (ab ++ []))))) (L' := (bk al :: bk af :: bk ad :: (aw ++ (ak ++ [])))) (O := O) (fun _ _ _ _ _ _ h => h) (.cons_cons _ (.cons_cons _ (.cons_cons _ (.cons _ (.append (.refl _) (.append (.refl _) (List.sublist_append_of_sublist_right (.refl _)))))))) id;have c0 := eo.owns b8 ig cz;have c1 : (((bk az :: (b7 ++ [])) ++ (bk al :: bk af :: bk ad :: bk aa :: (aw ++ (ak ++ (ab ++ []))))) : Ob).Perm (bk az :: bk al :: bk af :: bk ad :: bk aa :: (b7 ++ (aw ++ (ak ++ (ab ++ []))))) := RP;have fe := c0.perm c1;refine Xd (.tuple #[G az b5 b6, vb r20]) Z (Xa (Yz [G az b5 b6, vb r20] 0 (G az b5 b6) Z Z) (Xa (Yz [G az b5 b6, vb r20] 1 (vb r20) Z Z) (Xf (G az b5 b6) Z (Xf (vb r20) Z (Xb (Xc (Xe (Xd (G aa ah ai) Z ?_))))))));have ii := (c0.spa ((cy.spa ((cx.spa (((dg.odr (du.spa ((dt.spa ((ck.sn a6).sos bw dd) cu).sos bz de) df) dh 0 Z).sos di d3).sos br cm) b2).sos bs cn) co).sos b8 cz) c1);have ij := (((((((cl.k0 a6).k0 bw).k0 bz).k0 di).k0 br).k0 bs).k0 b8);have ik : ((bk az :: bk al :: bk af :: bk ad :: bk aa :: (b7 ++ (aw ++ (ak ++ (ab ++ []))))) : Ob).Perm (bk aa :: (ab ++ (bk az :: bk al :: bk af :: bk ad :: (b7 ++ (aw ++ (ak ++ [])))))) := RP;obtain ⟨il, im, la⟩ := Dp.gv (L := (bk az :: bk al :: bk af :: bk ad :: bk aa :: (b7 ++ (aw ++ (ak ++ (ab ++ [])))))) (O := O) (v := G aa ah ai) ii ij fe ik;refine Xs go17 (F100.calls H im.ok il) Z ?_;rintro _ io ⟨r21, rfl, H, cp⟩;have c2 := fe.k0 cp;refine Xd (vb r21) Z ?_;rcases X4 r21 with aq | aq
  ·have H := Xl H aq;refine Xh aq Z (Xd (vb r16) Z (Xh aq Z (Xa (X8 r16 Z) (Xh aq Z (Xd (vb (!r16)) Z ?_)))));rcases X4 (!r16) with b9 | b9
   ·have H := Xl H b9;refine Xi b9 Z (Xi b9 Z (Xh aq Z (Xa (Xk true (vb true) b9 Z) (Xh aq Z (Xd (vb true) Z (X7 (dj := 109) Z Z (.inl Z) (X7 (dj := 109) Z Z (.inl Z) (Xr Z ?_))))))));refine Xr Z (Xr Z (X7 (dj := 109) Z Z (.inl Z) (Xh aq Z (Xa (Xk true (vb true) Z Z) (Xa (Xk true (vb true) aq Z) (Xd (vb true) Z (Yg (dj := 118) Z Z Z (Xd (G ad bd be) Z ?_))))))));refine Yg (dj := 118) Z Z Z ?_;have ff := ((c0.spa ((cy.spa ((cx.spa (em.sos br cm) b2).sos bs cn) co).sos b8 cz) c1).sn cp);have lb := ff.le;refine Xa (X9 u23_ ad bd be ff.len Z) (Yg (dj := 118) Z Z Z (Xa (X0 (r14.length : Int) 0 (decide ((r14.length : Int) ≥ 0)) Z Z Z) (Xa (Yp true (vb (decide ((r14.length : Int) ≥ 0))) (by exact congrArg Value.bool Z) Z) (Xf (vb (decide ((r14.length : Int) ≥ 0))) Z (Xb (Xn ?_))))));have ip := c2.clear;exact ⟨[vb (decide ((r14.length : Int) ≥ 0))], ⟨_, Z, Z⟩, decide ((r14.length : Int) ≥ 0), Z, H, ip.gr.g0⟩
   have H := Xm H b9;refine Xh b9 Z (Xd (vb r18) Z (Xh b9 Z (Xa (X8 r18 Z) (Xh aq Z (Xa (Xk false (vb (!r18)) b9 Z) (Xh aq Z (Xd (vb (!r18)) Z ?_)))))));rcases X4 (!r18) with a7 | a7
   ·have H := Xl H a7;refine Xi a7 Z (Xi a7 Z (Xr Z (Xr Z (Xr Z (Xi a7 Z (Xh aq Z (Xa (Xk true (vb true) a7 Z) (Xa (Xk true (vb true) aq Z) ?_))))))));refine Xd (vb true) Z (Yg (dj := 118) Z Z Z (Xd (G ad bd be) Z (Yg (dj := 118) Z Z Z ?_)));have fg := ((c0.spa ((cy.spa ((cx.spa (em.sos br cm) b2).sos bs cn) co).sos b8 cz) c1).sn cp);have lc := fg.le;refine Xa (X9 u23_ ad bd be fg.len Z) (Yg (dj := 118) Z Z Z (Xa (X0 (r14.length : Int) 0 (decide ((r14.length : Int) ≥ 0)) Z Z Z) (Xa (Yp true (vb (decide ((r14.length : Int) ≥ 0))) (by exact congrArg Value.bool Z) Z) (Xf (vb (decide ((r14.length : Int) ≥ 0))) Z (Xb (Xn ?_))))));have iq := c2.clear;exact ⟨[vb (decide ((r14.length : Int) ≥ 0))], ⟨_, Z, Z⟩, decide ((r14.length : Int) ≥ 0), Z, H, iq.gr.g0⟩
   have H := Xm H a7;refine Xh a7 Z (Xd (vb r20) Z (Xh a7 Z (Xd (vb r20) Z ?_)));rcases X4 r20 with bf | bf
   ·have H := Xl H bf;refine Xh bf Z (Xd (G az b5 b6) Z (Xh bf Z (Xd (G al b3 b4) Z (Xh bf Z ?_))));have ir := ((c0.spa ih c1).sn cp);have it := (ie.k0 cp);have fh : ((bk az :: bk al :: bk af :: bk ad :: bk aa :: (b7 ++ (aw ++ (ak ++ (ab ++ []))))) : Ob).Perm (bk az :: (b7 ++ (bk al :: bk af :: bk ad :: bk aa :: (aw ++ (ak ++ (ab ++ [])))))) := RP;obtain ⟨iu, iv, ld⟩ := Dp.gv (L := (bk az :: bk al :: bk af :: bk ad :: bk aa :: (b7 ++ (aw ++ (ak ++ (ab ++ [])))))) (O := O) (v := G az b5 b6) ir it c2 fh;have iw := (c2.odr (rs := bk az :: b7) ((c0.spa ((cy.spa hz co).sos b8 cz) c1).sn cp) fh 0 Z);have ix := ((hx.k0 b8).k0 cp);have iy : ((bk al :: bk af :: bk ad :: bk aa :: (aw ++ (ak ++ (ab ++ [])))) : Ob).Perm (bk al :: (aw ++ (bk af :: bk ad :: bk aa :: (ak ++ (ab ++ []))))) := RP;obtain ⟨iz, i0, i1⟩ := Dp.gv (L := (bk al :: bk af :: bk ad :: bk aa :: (aw ++ (ak ++ (ab ++ []))))) (O := O) (v := G al b3 b4) iw ix iv iy;refine Xs go36 (F43.calls H i0.ok (iu.st i1) iz) Z ?_;rintro _ lf ⟨r22, rfl, H, fi⟩;have fj := c2.k0 fi;refine Xh a7 Z (Xa (Xk true (vb r22) bf Z) (Xh aq Z (Xa (Xk false (vb r22) a7 Z) (Xa (Xk true (vb r22) aq Z) (Xd (vb r22) Z ?_)))));rcases X4 r22 with bg | bg
    ·have H := Xl H bg;refine Xh bg Z (Xd (G ad bd be) Z (Xh bg Z ?_));have fk := (((c0.spa ((cy.spa ((cx.spa (em.sos br cm) b2).sos bs cn) co).sos b8 cz) c1).sn cp).sn fi);have lg := fk.le;refine Xa (X9 u23_ ad bd be fk.len Z) (Xh bg Z (Xa (X0 (r14.length : Int) 0 (decide ((r14.length : Int) ≥ 0)) Z Z Z) (Xa (Yp true (vb (decide ((r14.length : Int) ≥ 0))) (by exact congrArg Value.bool bg) Z) (Xf (vb (decide ((r14.length : Int) ≥ 0))) Z (Xb (Xn ?_))))));have i2 := fj.clear;exact ⟨[vb (decide ((r14.length : Int) ≥ 0))], ⟨_, Z, Z⟩, decide ((r14.length : Int) ≥ 0), Z, H, i2.gr.g0⟩
    have H := Xm H bg;refine Xi bg Z (Xi bg Z (Xi bg Z (Xa (Xk false (vb false) bg Z) (Xf (vb false) Z (Xb (Xn ?_))))));have i3 := fj.clear;exact ⟨[vb false], ⟨_, Z, Z⟩, false, Z, H, i3.gr.g0⟩
   have H := Xm H bf;refine Xi bf Z (Xi bf Z (Xi bf Z (Xh a7 Z (Xa (Xk false (vb false) bf Z) (Xh aq Z (Xa (Xk false (vb false) a7 Z) (Xa (Xk true (vb false) aq Z) (Xd (vb false) Z ?_))))))));refine X7 (dj := 118) Z Z (.inl Z) (X7 (dj := 118) Z Z (.inl Z) (X7 (dj := 118) Z Z (.inl Z) (Xa (Xk false (vb false) Z Z) (Xf (vb false) Z (Xb (Xn ?_))))));have i4 := c2.clear;exact ⟨[vb false], ⟨_, Z, Z⟩, false, Z, H, i4.gr.g0⟩
  have H := Xm H aq;refine Xi aq Z (Xi aq Z (Xi aq Z (Xr Z (Xr Z (Xi aq Z (Xi aq Z (Xr Z (Xr Z ?_))))))));refine Xr Z (Xr Z (Xr Z (Xr Z (Xi aq Z (Xa (Xk false (vb false) aq Z) (Xd (vb false) Z (X7 (dj := 118) Z Z (.inl Z) (X7 (dj := 118) Z Z (.inl Z) ?_))))))));refine X7 (dj := 118) Z Z (.inl Z) (Xa (Xk false (vb false) Z Z) (Xf (vb false) Z (Xb (Xn ?_))));have i5 := c2.clear;exact ⟨[vb false], ⟨_, Z, Z⟩, false, Z, H, i5.gr.g0⟩
 have H := Xm H eg;refine Xw (Xc (Xc (Xe (Xd (vb r4) Z (Xa (X8 r4 Z) (Xb ?_))))));refine Xu (!r4) Z (fun ep => ?_) (fun ep => ?_)
 ·have H := Xl H ep;refine Xc (Xe (Xd (G aa ah ai) Z ?_));have i6 := (ck.sn a6);have i7 := (cl.k0 a6);refine Xa (X9 u23_ aa ah ai (Dp.len i6 i7) Z) (Xa (X0 (r3.length : Int) 0 ((r3.length : Int) == 0) Z Z Z) (Xf (vb ((r3.length : Int) == 0)) Z (Xb (Xn ?_))));have i8 := bv.clear;exact ⟨[vb ((r3.length : Int) == 0)], ⟨_, Z, Z⟩, (r3.length : Int) == 0, Z, H, i8.gr.g0⟩
 have H := Xm H ep;refine Xw (Xc (Xe (Xd (G A1 n2 c3) Z ?_)));refine Xs go33 (F35.calls H bv.ok (hp4.st bv.st)) Z ?_;rintro _ i9 ⟨r23, r24, bh, bi, bj, ae, bl, bm, rfl, H, dk, ja, d6, fl, eq⟩;have d7 := bv.owns dk ja d6;refine Xd (.tuple #[G bh bi bj, G ae bl bm]) Z (Xa (Yz [G bh bi bj, G ae bl bm] 0 (G bh bi bj) Z Z) (Xa (Yz [G bh bi bj, G ae bl bm] 1 (G ae bl bm) Z Z) (Xf (G bh bi bj) Z (Xf (G ae bl bm) Z (Xb (Xc (Xe (Xd (G bh bi bj) Z ?_))))))));refine Xd (G aj ao ap) Z ?_;have fm := dc.stn a6;have fn := bv.stos dk d6;have jb := ((ds.st fm).st fn);refine Xs go34 (F115.calls H d7.ok fl jb) Z ?_;rintro _ er ⟨r25, r26, ag, ca, cb, am, lh, rfl, H, bt, jc, cq, jd, je⟩;have c4 := d7.owns bt jc cq;have cc : (((bk ag :: (am ++ [])) ++ (bk ae :: bk ac :: bk aa :: (ab ++ []))) : Ob).Perm (bk ag :: bk ae :: bk ac :: bk aa :: (am ++ (ab ++ []))) := RP;have d8 := c4.perm cc;refine Xd (.tuple #[G ag ca cb, vb r26]) Z (Xa (Yz [G ag ca cb, vb r26] 0 (G ag ca cb) Z Z) (Xa (Yz [G ag ca cb, vb r26] 1 (vb r26) Z Z) (Xf (G ag ca cb) Z (Xf (vb r26) Z (Xb (Xc (Xe (Xd (G ag ca cb) Z ?_))))))));refine Xd (G au a1 a2) Z ?_;have jf := (c4.spa jd cc);have jg := je;have jh : ((bk ag :: bk ae :: bk ac :: bk aa :: (am ++ (ab ++ []))) : Ob).Perm (bk ag :: (am ++ (bk ae :: bk ac :: bk aa :: (ab ++ [])))) := RP;obtain ⟨ji, jj, jk⟩ := Dp.gv (L := (bk ag :: bk ae :: bk ac :: bk aa :: (am ++ (ab ++ [])))) (O := O) (v := G ag ca cb) jf jg d8 jh;have jl := d7.stos bt cq;have jm := St.spa (w := er) (A := (bk ag :: (am ++ []))) (L := (bk ae :: bk ac :: bk aa :: (ab ++ []))) (O := O) cc;have jn := ((((((((ea.st ed).st ee).st ef).st fm).st fn).st jl).st jm).st jk);refine Xs go34 (F115.calls H jj.ok ji jn) Z ?_;rintro _ fo ⟨r27, r28, an, cd, ce, ax, li, rfl, H, bu, jo, cr, jp, jq⟩;have jr := Ok.unl (L := (bk ag :: bk ae :: bk ac :: bk aa :: (am ++ (ab ++ [])))) (L' := (bk ae :: bk ac :: bk aa :: (ab ++ []))) (O := O) d8 bu jo cr;have js := Ow.unl (L := (bk ag :: bk ae :: bk ac :: bk aa :: (am ++ (ab ++ [])))) (L' := (bk ae :: bk ac :: bk aa :: (ab ++ []))) (O := O) (fun _ _ _ _ _ _ h => h) (.cons _ (.cons_cons _ (.cons_cons _ (.cons_cons _ (List.sublist_append_of_sublist_right (.append (.refl _) (.refl _))))))) jp;have c5 := d8.owns bu jr cr;have cs : (((bk an :: (ax ++ [])) ++ (bk ag :: bk ae :: bk ac :: bk aa :: (am ++ (ab ++ [])))) : Ob).Perm (bk an :: bk ag :: bk ae :: bk ac :: bk aa :: (ax ++ (am ++ (ab ++ [])))) := RP;have es := c5.perm cs;refine Xd (.tuple #[G an cd ce, vb r28]) Z (Xa (Yz [G an cd ce, vb r28] 0 (G an cd ce) Z Z) (Xa (Yz [G an cd ce, vb r28] 1 (vb r28) Z Z) (Xf (G an cd ce) Z (Xf (vb r28) Z (Xb (Xc (Xe (Xd (G bh bi bj) Z ?_))))))));refine Xd (G aa ah ai) Z ?_;have jt := (c5.spa ((c4.spa (((ck.sn a6).sos dk d6).sos bt cq) cc).sos bu cr) cs);have ju := ((((cl.k0 a6).k0 dk).k0 bt).k0 bu);have jv : ((bk an :: bk ag :: bk ae :: bk ac :: bk aa :: (ax ++ (am ++ (ab ++ [])))) : Ob).Perm (bk aa :: (ab ++ (bk an :: bk ag :: bk ae :: bk ac :: (ax ++ (am ++ []))))) := RP;obtain ⟨jw, jx, jy⟩ := Dp.gv (L := (bk an :: bk ag :: bk ae :: bk ac :: bk aa :: (ax ++ (am ++ (ab ++ []))))) (O := O) (v := G aa ah ai) jt ju es jv;have jz := d7.stos bt cq;have j0 := St.spa (w := er) (A := (bk ag :: (am ++ []))) (L := (bk ae :: bk ac :: bk aa :: (ab ++ []))) (O := O) cc;have j1 := d8.stos bu cr;have j2 := St.spa (w := fo) (A := (bk an :: (ax ++ []))) (L := (bk ag :: bk ae :: bk ac :: bk aa :: (am ++ (ab ++ [])))) (O := O) cs;have j3 := (((((fl.st jz).st j0).st j1).st j2).st jy);refine Xs go34 (F115.calls H jx.ok j3 jw) Z ?_;rintro _ j4 ⟨r29, r30, a0, cf, cg, ch, lj, rfl, H, ci, j5, c6, j6, j7⟩;have j8 := Ok.unl (L := (bk an :: bk ag :: bk ae :: bk ac :: bk aa :: (ax ++ (am ++ (ab ++ []))))) (L' := (bk an :: bk ag :: bk ae :: bk ac :: (ax ++ (am ++ [])))) (O := O) es ci j5 c6;have j9 := Ow.unl (L := (bk an :: bk ag :: bk ae :: bk ac :: bk aa :: (ax ++ (am ++ (ab ++ []))))) (L' := (bk an :: bk ag :: bk ae :: bk ac :: (ax ++ (am ++ [])))) (O := O) (fun _ _ _ _ _ _ h => h) (.cons_cons _ (.cons_cons _ (.cons_cons _ (.cons_cons _ (.cons _ (.append (.refl _) (.append (.refl _) (List.sublist_append_of_sublist_right (.refl _))))))))) j6;have c7 := es.owns ci j8 c6;have c8 : (((bk a0 :: (ch ++ [])) ++ (bk an :: bk ag :: bk ae :: bk ac :: bk aa :: (ax ++ (am ++ (ab ++ []))))) : Ob).Perm (bk a0 :: bk an :: bk ag :: bk ae :: bk ac :: bk aa :: (ch ++ (ax ++ (am ++ (ab ++ []))))) := RP;have fp := c7.perm c8;refine Xd (.tuple #[G a0 cf cg, vb r30]) Z (Xa (Yz [G a0 cf cg, vb r30] 0 (G a0 cf cg) Z Z) (Xa (Yz [G a0 cf cg, vb r30] 1 (vb r30) Z Z) (Xf (G a0 cf cg) Z (Xf (vb r30) Z (Xb (Xc (Xe (Xd (G aa ah ai) Z ?_))))))));have ka := (c7.spa ((c5.spa ((c4.spa (((ck.sn a6).sos dk d6).sos bt cq) cc).sos bu cr) cs).sos ci c6) c8);have kb := (((((cl.k0 a6).k0 dk).k0 bt).k0 bu).k0 ci);have kc : ((bk a0 :: bk an :: bk ag :: bk ae :: bk ac :: bk aa :: (ch ++ (ax ++ (am ++ (ab ++ []))))) : Ob).Perm (bk aa :: (ab ++ (bk a0 :: bk an :: bk ag :: bk ae :: bk ac :: (ch ++ (ax ++ (am ++ [])))))) := RP;obtain ⟨kd, ke, lk⟩ := Dp.gv (L := (bk a0 :: bk an :: bk ag :: bk ae :: bk ac :: bk aa :: (ch ++ (ax ++ (am ++ (ab ++ [])))))) (O := O) (v := G aa ah ai) ka kb fp kc;refine Xs go17 (F100.calls H ke.ok kd) Z ?_;rintro _ kf ⟨r31, rfl, H, ct⟩;have c9 := fp.k0 ct;refine Xd (vb r31) Z ?_;rcases X4 r31 with ar | ar
 ·have H := Xl H ar;refine Xh ar Z (Xd (vb r26) Z (Xh ar Z (Xa (X8 r26 Z) (Xh ar Z (Xd (vb (!r26)) Z ?_)))));rcases X4 (!r26) with cj | cj
  ·have H := Xl H cj;refine Xi cj Z (Xi cj Z (Xh ar Z (Xa (Xk true (vb true) cj Z) (Xh ar Z (Xd (vb true) Z (X7 (dj := 109) Z Z (.inl Z) (X7 (dj := 109) Z Z (.inl Z) (Xr Z ?_))))))));refine Xr Z (Xr Z (X7 (dj := 109) Z Z (.inl Z) (Xh ar Z (Xa (Xk true (vb true) Z Z) (Xa (Xk true (vb true) ar Z) (Xd (vb true) Z (Yg (dj := 118) Z Z Z (Xd (G ae bl bm) Z ?_))))))));refine Yg (dj := 118) Z Z Z ?_;have fq := ((c7.spa ((c5.spa ((c4.spa (eq.sos bt cq) cc).sos bu cr) cs).sos ci c6) c8).sn ct);have ll := fq.le;refine Xa (X9 u23_ ae bl bm fq.len Z) (Yg (dj := 118) Z Z Z (Xa (X0 (r24.length : Int) 0 (decide ((r24.length : Int) ≥ 0)) Z Z Z) (Xa (Yp true (vb (decide ((r24.length : Int) ≥ 0))) (by exact congrArg Value.bool Z) Z) (Xf (vb (decide ((r24.length : Int) ≥ 0))) Z (Xb (Xn ?_))))));have kg := c9.clear;exact ⟨[vb (decide ((r24.length : Int) ≥ 0))], ⟨_, Z, Z⟩, decide ((r24.length : Int) ≥ 0), Z, H, kg.gr.g0⟩
  have H := Xm H cj;refine Xh cj Z (Xd (vb r28) Z (Xh cj Z (Xa (X8 r28 Z) (Xh ar Z (Xa (Xk false (vb (!r28)) cj Z) (Xh ar Z (Xd (vb (!r28)) Z ?_)))))));rcases X4 (!r28) with a8 | a8
  ·have H := Xl H a8;refine Xi a8 Z (Xi a8 Z (Xr Z (Xr Z (Xr Z (Xi a8 Z (Xh ar Z (Xa (Xk true (vb true) a8 Z) (Xa (Xk true (vb true) ar Z) ?_))))))));refine Xd (vb true) Z (Yg (dj := 118) Z Z Z (Xd (G ae bl bm) Z (Yg (dj := 118) Z Z Z ?_)));have fr := ((c7.spa ((c5.spa ((c4.spa (eq.sos bt cq) cc).sos bu cr) cs).sos ci c6) c8).sn ct);have lm := fr.le;refine Xa (X9 u23_ ae bl bm fr.len Z) (Yg (dj := 118) Z Z Z (Xa (X0 (r24.length : Int) 0 (decide ((r24.length : Int) ≥ 0)) Z Z Z) (Xa (Yp true (vb (decide ((r24.length : Int) ≥ 0))) (by exact congrArg Value.bool Z) Z) (Xf (vb (decide ((r24.length : Int) ≥ 0))) Z (Xb (Xn ?_))))));have kh := c9.clear;exact ⟨[vb (decide ((r24.length : Int) ≥ 0))], ⟨_, Z, Z⟩, decide ((r24.length : Int) ≥ 0), Z, H, kh.gr.g0⟩
  have H := Xm H a8;refine Xh a8 Z (Xd (vb r30) Z (Xh a8 Z (Xd (vb r30) Z ?_)));rcases X4 r30 with bn | bn
  ·have H := Xl H bn;refine Xh bn Z (Xd (G a0 cf cg) Z (Xh bn Z (Xd (G an cd ce) Z (Xh bn Z ?_))));have ki := ((c7.spa j9 c8).sn ct);have kj := (j7.k0 ct);have fs : ((bk a0 :: bk an :: bk ag :: bk ae :: bk ac :: bk aa :: (ch ++ (ax ++ (am ++ (ab ++ []))))) : Ob).Perm (bk a0 :: (ch ++ (bk an :: bk ag :: bk ae :: bk ac :: bk aa :: (ax ++ (am ++ (ab ++ [])))))) := RP;obtain ⟨kk, kl, ln⟩ := Dp.gv (L := (bk a0 :: bk an :: bk ag :: bk ae :: bk ac :: bk aa :: (ch ++ (ax ++ (am ++ (ab ++ [])))))) (O := O) (v := G a0 cf cg) ki kj c9 fs;have km := (c9.odr (rs := bk a0 :: ch) ((c7.spa ((c5.spa js cs).sos ci c6) c8).sn ct) fs 0 Z);have kn := ((jq.k0 ci).k0 ct);have ko : ((bk an :: bk ag :: bk ae :: bk ac :: bk aa :: (ax ++ (am ++ (ab ++ [])))) : Ob).Perm (bk an :: (ax ++ (bk ag :: bk ae :: bk ac :: bk aa :: (am ++ (ab ++ []))))) := RP;obtain ⟨kp, kq, kr⟩ := Dp.gv (L := (bk an :: bk ag :: bk ae :: bk ac :: bk aa :: (ax ++ (am ++ (ab ++ []))))) (O := O) (v := G an cd ce) km kn kl ko;refine Xs go36 (F43.calls H kq.ok (kk.st kr) kp) Z ?_;rintro _ lo ⟨r32, rfl, H, ft⟩;have fu := c9.k0 ft;refine Xh a8 Z (Xa (Xk true (vb r32) bn Z) (Xh ar Z (Xa (Xk false (vb r32) a8 Z) (Xa (Xk true (vb r32) ar Z) (Xd (vb r32) Z ?_)))));rcases X4 r32 with bo | bo
   ·have H := Xl H bo;refine Xh bo Z (Xd (G ae bl bm) Z (Xh bo Z ?_));have fv := (((c7.spa ((c5.spa ((c4.spa (eq.sos bt cq) cc).sos bu cr) cs).sos ci c6) c8).sn ct).sn ft);have lp := fv.le;refine Xa (X9 u23_ ae bl bm fv.len Z) (Xh bo Z (Xa (X0 (r24.length : Int) 0 (decide ((r24.length : Int) ≥ 0)) Z Z Z) (Xa (Yp true (vb (decide ((r24.length : Int) ≥ 0))) (by exact congrArg Value.bool bo) Z) (Xf (vb (decide ((r24.length : Int) ≥ 0))) Z (Xb (Xn ?_))))));have ks := fu.clear;exact ⟨[vb (decide ((r24.length : Int) ≥ 0))], ⟨_, Z, Z⟩, decide ((r24.length : Int) ≥ 0), Z, H, ks.gr.g0⟩
   have H := Xm H bo;refine Xi bo Z (Xi bo Z (Xi bo Z (Xa (Xk false (vb false) bo Z) (Xf (vb false) Z (Xb (Xn ?_))))));have kt := fu.clear;exact ⟨[vb false], ⟨_, Z, Z⟩, false, Z, H, kt.gr.g0⟩
  have H := Xm H bn;refine Xi bn Z (Xi bn Z (Xi bn Z (Xh a8 Z (Xa (Xk false (vb false) bn Z) (Xh ar Z (Xa (Xk false (vb false) a8 Z) (Xa (Xk true (vb false) ar Z) (Xd (vb false) Z ?_))))))));refine X7 (dj := 118) Z Z (.inl Z) (X7 (dj := 118) Z Z (.inl Z) (X7 (dj := 118) Z Z (.inl Z) (Xa (Xk false (vb false) Z Z) (Xf (vb false) Z (Xb (Xn ?_))))));have ku := c9.clear;exact ⟨[vb false], ⟨_, Z, Z⟩, false, Z, H, ku.gr.g0⟩
 have H := Xm H ar;refine Xi ar Z (Xi ar Z (Xi ar Z (Xr Z (Xr Z (Xi ar Z (Xi ar Z (Xr Z (Xr Z ?_))))))));refine Xr Z (Xr Z (Xr Z (Xr Z (Xi ar Z (Xa (Xk false (vb false) ar Z) (Xd (vb false) Z (X7 (dj := 118) Z Z (.inl Z) (X7 (dj := 118) Z Z (.inl Z) ?_))))))));refine X7 (dj := 118) Z Z (.inl Z) (Xa (Xk false (vb false) Z Z) (Xf (vb false) Z (Xb (Xn ?_))));have kv := c9.clear;exact ⟨[vb false], ⟨_, Z, Z⟩, false, Z, H, kv.gr.g0⟩
section
section
variable {α : Type} [DecidableEq α]
def lcsR (x : α) (p : List α → Nat) : List α → Nat
 | [] => 0
 | y :: b => if x = y then p b + 1 else max (p (y :: b)) (lcsR x p b)
def lcs : List α → List α → Nat
 | [] => fun _ => 0
 | x :: a => lcsR x (lcs a)
@[simp] theorem lcs_nil (b : List α) : lcs [] b = 0 := rfl
@[simp] theorem lcs_nil2 (a : List α) : lcs a [] = 0 := by cases a <;> rfl
theorem pp {a b c d : Nat} (h : a = c) (k : b = d) : (a, b) = (c, d) := by rw [h, k]
def pairs (i j : Nat) : List α → List α → List (Nat × Nat)
 | x :: a, y :: b => if x = y then (i, j) :: pairs (i + 1) (j + 1) a b else if lcs (x :: a) b ≤ lcs a (y :: b) then pairs (i + 1) j a (y :: b) else pairs i (j + 1) (x :: a) b
 | [], _ => []
 | _ :: _, [] => []
 termination_by a b => a.length + b.length
theorem pairs_nil (i j : Nat) (b : List α) : pairs i j [] b = [] := by rw [pairs]
theorem pairs_nil2 (i j : Nat) (a : List α) : pairs i j a [] = [] := by cases a <;> rw [pairs]
theorem pairs_cons (i j : Nat) (x y : α) (a b : List α) : pairs i j (x :: a) (y :: b) = if x = y then (i, j) :: pairs (i + 1) (j + 1) a b else if lcs (x :: a) b ≤ lcs a (y :: b) then pairs (i + 1) j a (y :: b) else pairs i (j + 1) (x :: a) b := by rw [pairs]
theorem pairs_ind {C : Nat → Nat → List α → List α → Prop} (h0 : ∀ i j b, C i j [] b) (h1 : ∀ i j a, C i j a [])
  (he : ∀ i j x a b, C (i + 1) (j + 1) a b → C i j (x :: a) (x :: b))
  (ha : ∀ i j x y a b, x ≠ y → lcs (x :: a) b ≤ lcs a (y :: b) → C (i + 1) j a (y :: b) → C i j (x :: a) (y :: b))
  (hb : ∀ i j x y a b, x ≠ y → ¬ lcs (x :: a) b ≤ lcs a (y :: b) → C i (j + 1) (x :: a) b → C i j (x :: a) (y :: b)) : ∀ i j (a b : List α), C i j a b := by
 have : ∀ n i j (a b : List α), a.length + b.length ≤ n → C i j a b := by
  intro n
  induction n with
  | zero => intro i j a b h; cases a with
   | nil => exact h0 _ _ _
   | cons _ _ => simp at h
  | succ n ih =>
   intro i j a b h
   cases a with
   | nil => exact h0 _ _ _
   | cons x a => cases b with
    | nil => exact h1 _ _ _
    | cons y b =>
     simp only [List.length_cons] at h
     by_cases e : x = y
     ·subst e; exact he _ _ _ _ _ (ih _ _ _ _ OM)
     ·by_cases l : lcs (x :: a) b ≤ lcs a (y :: b)
      ·exact ha _ _ _ _ _ _ e l (ih _ _ _ _ (by simp only [List.length_cons]; omega))
      ·exact hb _ _ _ _ _ _ e l (ih _ _ _ _ (by simp only [List.length_cons]; omega))
 exact fun i j a b => this _ i j a b (Nat.le_refl _)
theorem pairs_mem (i j : Nat) (a b : List α) : ∀ p ∈ pairs i j a b, ∃ k l, p = (i + k, j + l) ∧ ∃ x, a[k]? = some x ∧ b[l]? = some x := by
 refine pairs_ind (C := fun i j a b => ∀ p ∈ pairs i j a b, ∃ k l, p = (i + k, j + l) ∧ ∃ x, a[k]? = some x ∧ b[l]? = some x) ?_ ?_ ?_ ?_ ?_ i j a b
 ·intro i j b p h; rw [pairs_nil] at h; cases h
 ·intro i j a p h; rw [pairs_nil2] at h; cases h
 ·intro i j x a b ih p h
  rw [pairs_cons, if_pos rfl] at h
  rcases List.mem_cons.1 h with rfl | h
  ·exact ⟨0, 0, rfl, x, rfl, rfl⟩
  ·obtain ⟨k, l, rfl, z, h1, h2⟩ := ih p h
   exact ⟨k + 1, l + 1, pp OM OM, z, h1, h2⟩
 ·intro i j x y a b e l ih p h
  rw [pairs_cons, if_neg e, if_pos l] at h
  obtain ⟨k, l, rfl, z, h1, h2⟩ := ih p h
  exact ⟨k + 1, l, pp OM OM, z, h1, h2⟩
 ·intro i j x y a b e l ih p h
  rw [pairs_cons, if_neg e, if_neg l] at h
  obtain ⟨k, l, rfl, z, h1, h2⟩ := ih p h
  exact ⟨k, l + 1, pp OM OM, z, h1, h2⟩
theorem pairs_ord (i j : Nat) (a b : List α) : (pairs i j a b).Pairwise (fun p q => p.1 < q.1 ∧ p.2 < q.2) := by
 refine pairs_ind (C := fun i j a b => (pairs i j a b).Pairwise (fun p q => p.1 < q.1 ∧ p.2 < q.2)) ?_ ?_ ?_ ?_ ?_ i j a b
 ·intros; rw [pairs_nil]; exact List.Pairwise.nil
 ·intros; rw [pairs_nil2]; exact List.Pairwise.nil
 ·intro i j x a b h; rw [pairs_cons, if_pos rfl]
  refine List.Pairwise.cons (fun p hp => ?_) h
  obtain ⟨k, l, rfl, _⟩ := pairs_mem _ _ _ _ p hp
  exact ⟨by dsimp only; omega, by dsimp only; omega⟩
 ·intro i j x y a b e l h; rw [pairs_cons, if_neg e, if_pos l]; exact h
 ·intro i j x y a b e l h; rw [pairs_cons, if_neg e, if_neg l]; exact h
end
section
variable {α : Type} [Inhabited α]
theorem nth_set (l : List α) {k : Nat} (h : k < l.length) (m : Nat) (v : α) : nth (l.set k v) (m : Int) = if m = k then v else nth l (m : Int) := by
 unfold nth
 rw [Int.toNat_natCast, List.getD_eq_getElem?_getD, List.getD_eq_getElem?_getD, List.getElem?_set]
 by_cases e : m = k
 ·subst e; rw [if_pos rfl, if_pos rfl, if_pos h]; rfl
 ·rw [if_neg (fun x => e x.symm), if_neg e]
def seg (l : List α) (i j : Nat) : List α := (l.drop i).take (j - i)
theorem seg_len (l : List α) (i j : Nat) (h : j ≤ l.length) : (seg l i j).length = j - i := by
 unfold seg; rw [List.length_take, List.length_drop]; omega
variable [DecidableEq α]
def pickL (o a b : List α) : Option (List α) := if a = o then some b else if b = o then some a else if a = b then some a else none
theorem pickL_mem {o a b r : List α} (h : pickL o a b = some r) : (∀ z ∈ r, z ∈ a ∨ z ∈ b) ∧ (∀ z ∈ a, z ∈ o ∨ z ∈ r) ∧ (∀ z ∈ b, z ∈ o ∨ z ∈ r) ∧ r.length ≤ a.length + b.length := by
 unfold pickL at h
 by_cases h1 : a = o
 ·rw [if_pos h1] at h; cases h; subst h1
  exact ⟨fun z hz => .inr hz, fun z hz => .inl hz, fun z hz => .inr hz, OM⟩
 ·rw [if_neg h1] at h
  by_cases h2 : b = o
  ·rw [if_pos h2] at h; cases h; subst h2
   exact ⟨fun z hz => .inl hz, fun z hz => .inr hz, fun z hz => .inl hz, OM⟩
  ·rw [if_neg h2] at h
   by_cases h3 : a = b
   ·rw [if_pos h3] at h; cases h; subst h3
    exact ⟨fun z hz => .inl hz, fun z hz => .inr hz, fun z hz => .inr hz, OM⟩
   ·rw [if_neg h3] at h; cases h
def mloop (o a b : List α) (f g : Nat → Option Nat) : Nat → Nat → Nat → Nat → Nat → Option (List α)
 | 0, _, i, j, k => pickL (o.drop i) (a.drop j) (b.drop k)
 | n + 1, at_, i, j, k => match f at_, g at_ with
  | some x, some y => (pickL (seg o i at_) (seg a j x) (seg b k y)).bind fun p => (mloop o a b f g n (at_ + 1) (at_ + 1) (x + 1) (y + 1)).map fun r => p ++ nth o (at_ : Int) :: r
  | _, _ => mloop o a b f g n (at_ + 1) i j k
theorem mloop_some {o a b : List α} {f g : Nat → Option Nat} {n t i j k x y : Nat} (hf : f t = some x) (hg : g t = some y) : mloop o a b f g (n + 1) t i j k = (pickL (seg o i t) (seg a j x) (seg b k y)).bind fun p => (mloop o a b f g n (t + 1) (t + 1) (x + 1) (y + 1)).map fun r => p ++ nth o (t : Int) :: r := by
 rw [mloop, hf, hg]
theorem mloop_none {o a b : List α} {f g : Nat → Option Nat} {n t i j k : Nat} (h : f t = none ∨ g t = none) : mloop o a b f g (n + 1) t i j k = mloop o a b f g n (t + 1) i j k := by
 rw [mloop]
 rcases h with h | h
 ·rw [h]
 ·rw [h]; cases f t <;> rfl
structure Mates (o a : List α) (f : Nat → Option Nat) : Prop where
 lt : ∀ {t x}, f t = some x → t < o.length ∧ x < a.length
 eq : ∀ {t x}, f t = some x → nth o (t : Int) = nth a (x : Int)
 mono : ∀ {t x u y}, f t = some x → f u = some y → t < u → x < y
def From (f : Nat → Option Nat) (t j : Nat) : Prop := ∀ u x, t ≤ u → f u = some x → j ≤ x
theorem From.zero (f : Nat → Option Nat) (t : Nat) : From f t 0 := fun _ _ _ _ => Nat.zero_le _
theorem From.skip {f : Nat → Option Nat} {t j : Nat} (h : From f t j) : From f (t + 1) j := fun u x hu hx => h u x OM hx
theorem From.step {o a : List α} {f : Nat → Option Nat} (m : Mates o a f) {t x : Nat} (h : f t = some x) : From f (t + 1) (x + 1) := fun u y hu hy => m.mono h hy OM
end
end
def few (a b : List Pt) : Bool := decide (a.length ≤ 12) && decide (b.length ≤ 12)
def Tab (a b : List Pt) (D : Nat → Nat → Prop) (t : List (List Int)) : Prop := t.length = a.length + 1 ∧ ∀ r : Nat, r ≤ a.length → (nth t (r : Int)).length = b.length + 1 ∧ ∀ m : Nat, m ≤ b.length → D r m → nth (nth t (r : Int)) (m : Int) = (lcs (a.drop r) (b.drop m) : Nat)
theorem Tab.set {a b : List Pt} {D : Nat → Nat → Prop} {t : List (List Int)} (h : Tab a b D t) {i j : Nat} (hi : i ≤ a.length) (hj : j ≤ b.length) {v : Int} (hv : v = (lcs (a.drop i) (b.drop j) : Nat)) {D' : Nat → Nat → Prop} (hD : ∀ r m, D' r m → D r m ∨ (r = i ∧ m = j)) :
  Tab a b D' (t.set i ((nth t (i : Int)).set j v)) := by
 obtain ⟨h1, h2⟩ := h
 refine ⟨by rw [List.length_set]; exact h1, fun r hr => ?_⟩
 rw [nth_set _ OM]
 by_cases e : r = i
 ·subst e
  rw [if_pos rfl]
  refine ⟨by rw [List.length_set]; exact (h2 r hr).1, fun m hm hd => ?_⟩
  rw [nth_set _ (by rw [(h2 r hr).1]; omega)]
  by_cases f : m = j
  ·subst f; rw [if_pos rfl, hv]
  ·rw [if_neg f]
   exact (h2 r hr).2 m hm ((hD r m hd).resolve_right fun x => f x.2)
 ·rw [if_neg e]
  exact ⟨(h2 r hr).1, fun m hm hd => (h2 r hr).2 m hm ((hD r m hd).resolve_right fun x => e x.1)⟩
def mateN (l : List (Nat × Nat)) (k : Nat) : Option Nat := match l with
 | [] => none
 | p :: l => if p.1 = k then some p.2 else mateN l k
theorem mateN_mem {l : List (Nat × Nat)} {k x : Nat} (h : mateN l k = some x) : (k, x) ∈ l := by
 induction l with
 | nil => cases h
 | cons p l ih =>
  rw [mateN] at h
  by_cases e : p.1 = k
  ·rw [if_pos e] at h; cases h; subst e; exact List.mem_cons_self
  ·rw [if_neg e] at h; exact List.mem_cons_of_mem _ (ih h)
def part (o a : List Pt) : Nat → Option Nat := mateN (pairs 0 0 o a)
theorem part_mates (o a : List Pt) : Mates o a (part o a) := by
 have hm : ∀ {t x}, part o a t = some x → ∃ z, o[t]? = some z ∧ a[x]? = some z := fun {t x} h => by
  obtain ⟨k, l, e, z, h1, h2⟩ := pairs_mem 0 0 o a _ (mateN_mem h)
  rw [Nat.zero_add, Nat.zero_add] at e; cases e
  exact ⟨z, h1, h2⟩
 refine ⟨fun {t x} h => ?_, fun {t x} h => ?_, fun {t x u y} h1 h2 hu => ?_⟩
 ·obtain ⟨z, h1, h2⟩ := hm h
  exact ⟨(List.getElem?_eq_some_iff.1 h1).1, (List.getElem?_eq_some_iff.1 h2).1⟩
 ·obtain ⟨z, h1, h2⟩ := hm h
  obtain ⟨e1, e2⟩ := List.getElem?_eq_some_iff.1 h1
  obtain ⟨e3, e4⟩ := List.getElem?_eq_some_iff.1 h2
  rw [nth_nat _ e1, nth_nat _ e3, e2, e4]
 ·have ho := pairs_ord 0 0 o a
  have m1 := mateN_mem h1; have m2 := mateN_mem h2
  generalize pairs 0 0 o a = l at ho m1 m2
  induction l with
  | nil => cases m1
  | cons p l ih =>
   obtain ⟨q1, q2⟩ := List.pairwise_cons.1 ho
   rcases List.mem_cons.1 m1 with e1 | n1
   ·rcases List.mem_cons.1 m2 with e2 | n2
    ·subst e1; cases e2; omega
    ·subst e1; exact (q1 _ n2).2
   ·rcases List.mem_cons.1 m2 with e2 | n2
    ·subst e2; have := (q1 _ n1).1; dsimp only at this; omega
    ·exact ih q2 n1 n2
def smerge (o a b : List Pt) : Option (List Pt) := if few o a && few o b then mloop o a b (part o a) (part o b) o.length 0 0 0 0 else none
theorem smerge_few {o a b : List Pt} (h1 : few o a = true) (h2 : few o b = true) : smerge o a b = mloop o a b (part o a) (part o b) o.length 0 0 0 0 := by unfold smerge; rw [h1, h2]; rfl
def allN (n : Nat) (c : Nat → Bool) : Bool := (List.range n).all c
theorem allN_true {n : Nat} {c : Nat → Bool} (h : ∀ j, j < n → c j = true) : allN n c = true := by
 unfold allN; rw [List.all_eq_true]; intro j hj; exact h j (List.mem_range.1 hj)
theorem allN_false {n k : Nat} {c : Nat → Bool} (hk : k < n) (h : c k = false) : allN n c = false := by
 unfold allN
 rw [Bool.eq_false_iff]; intro ha
 rw [List.all_eq_true] at ha
 rw [ha k (List.mem_range.2 hk)] at h; cases h
theorem allN_iff {n : Nat} {c : Nat → Bool} : allN n c = true ↔ ∀ j, j < n → c j = true := by
 unfold allN; rw [List.all_eq_true]; exact ⟨fun h j hj => h j (List.mem_range.2 hj), fun h j hj => h j (List.mem_range.1 hj)⟩
theorem allN_congr {n : Nat} {c d : Nat → Bool} (h : ∀ j, j < n → c j = d j) : allN n c = allN n d := by
 unfold allN
 rw [Bool.eq_iff_iff, List.all_eq_true, List.all_eq_true]
 exact ⟨fun g j hj => by rw [← h j (List.mem_range.1 hj)]; exact g j hj, fun g j hj => by rw [h j (List.mem_range.1 hj)]; exact g j hj⟩
theorem loop_all (n : Nat) (c : Nat → Bool) {B : (Int → Prop) → (Int → Nat) → Int → Prop} {F : Prop}
  (hs : ∀ (I : Int → Prop) (mu : Int → Nat) (k : Nat), k < n → (∀ j, j < k → c j = true) → (c k = true → I ((k : Int) + 1) ∧ mu ((k : Int) + 1) < mu (k : Int)) → B I mu (k : Int))
  (hF : (∀ j, j < n → c j = true) → F) :
  ∃ (I : Int → Prop) (mu : Int → Nat), I 0 ∧ ∀ (i : Int), I i → (if decide (i < (n : Int)) then B I mu i else F) := by
 refine ⟨fun i => ∃ k : Nat, i = k ∧ k ≤ n ∧ ∀ j, j < k → c j = true, fun i => ((n : Int) - i).toNat, ⟨0, rfl, Nat.zero_le _, fun j hj => absurd hj (Nat.not_lt_zero _)⟩, ?_⟩
 rintro _ ⟨k, rfl, hk, ha⟩
 by_cases h : (k : Int) < (n : Int)
 ·rw [if_pos (by simpa using h)]
  refine hs _ _ k OM ha fun hc => ⟨⟨k + 1, OM, OM, fun j hj => ?_⟩, OM⟩
  by_cases e : j = k
  ·subst e; exact hc
  ·exact ha j OM
 ·rw [if_neg (by simpa using h)]
  exact hF fun j hj => ha j OM
theorem less_irr : ∀ a : Str, Op.bytesLess a a = false
 | [] => rfl
 | x :: a => by rw [Op.bytesLess]; simp [less_irr a]
theorem less_tri : ∀ a b : Str, (!(Op.bytesLess a b)) = (Op.bytesLess b a || b == a)
 | [], [] => rfl
 | [], y :: b => rfl
 | x :: a, [] => rfl
 | x :: a, y :: b => by
  rw [Op.bytesLess, Op.bytesLess]
  have h := less_tri a b
  by_cases h1 : x < y
  ·have h2 : ¬ y < x := fun h => absurd (UInt8.lt_trans h1 h) (UInt8.lt_irrefl _)
   have h3 : ¬ y = x := fun e => by subst e; exact UInt8.lt_irrefl _ h1
   simp [h1, h2, h3]
  ·by_cases h2 : y < x
   ·have h3 : ¬ x = y := fun e => by subst e; exact UInt8.lt_irrefl _ h2
    simp [h1, h2, h3]
   ·have h3 : x = y := UInt8.le_antisymm (UInt8.not_lt.1 h2) (UInt8.not_lt.1 h1)
    subst h3
    simp only [h1, decide_false, Bool.false_or, beq_self_eq_true, Bool.true_and]
    rw [h]
    congr 1
    rw [Bool.eq_iff_iff, beq_iff_eq, beq_iff_eq]
    simp
def byteOk (b : UInt8) : Bool := !(decide ((b.toNat : Int) < 97)) && !(decide ((b.toNat : Int) > 122))
def wordOk (s : Str) : Bool := allN s.length (fun k => byteOk (nth s (k : Int))) && (decide (1 ≤ s.length) && decide (s.length ≤ 6))
def inR (x : Int) : Bool := decide (-1000 ≤ x) && decide (x ≤ 1000)
def ptOk (p : Pt) : Bool := inR p.X && inR p.Y
def ptsOk (p : List Pt) : Bool := allN p.length fun k => ptOk (nth p (k : Int)) && (decide (k = 0) || !(decide (nth p ((k : Int) - 1) = nth p (k : Int))))
def kindOk (kind : Int) (p : List Pt) : Bool :=
 if kind = 1 then decide (p.length = 1) else if kind = 2 then decide (2 ≤ p.length) && decide (p.length ≤ 6)
 else if kind = 3 then decide (3 ≤ p.length) && decide (p.length ≤ 6) && !(decide (nth p 0 = nth p ((p.length : Int) - 1))) else false
def shapeOk (s : Shape) : Bool := ptsOk s.Pts && kindOk s.Kind s.Pts
def tagsOk (t : List Tag) : Bool := allN t.length fun k => wordOk (nth t (k : Int)).Key && wordOk (nth t (k : Int)).Val && (decide (k = 0) || Op.bytesLess (nth t ((k : Int) - 1)).Key (nth t (k : Int)).Key)
def featOk (f : Feat) : Bool := tagsOk f.Tags && decide (f.Tags.length ≤ 4) && wordOk f.Id && shapeOk f.Shape
def noF (f : Feat) : Bool := decide (f = ⟨[], ⟨0, []⟩, []⟩)
def sideOk (id : Str) (has : Bool) (f : Feat) : Bool := if has then featOk f && decide (f.Id = id) else noF f
def sameC (c : Change) : Bool := decide (c.Had = c.Has) && decide (c.Was = c.Now)
def changeOk (c : Change) : Bool := wordOk c.Id && sideOk c.Id c.Had c.Was && sideOk c.Id c.Has c.Now && !(sameC c)
def diffOk (d : List Change) : Bool := allN d.length (fun k => changeOk (nth d (k : Int)) && (decide (k = 0) || Op.bytesLess (nth d ((k : Int) - 1)).Id (nth d (k : Int)).Id)) && decide (d.length ≤ 16)
def sheetOk (s : List Feat) : Bool := allN s.length (fun k => featOk (nth s (k : Int)) && (decide (k = 0) || Op.bytesLess (nth s ((k : Int) - 1)).Id (nth s (k : Int)).Id)) && decide (s.length ≤ 8)
theorem Feat.ext_iff' (a b : Feat) : a = b ↔ a.Id = b.Id ∧ a.Shape = b.Shape ∧ a.Tags = b.Tags := by cases a; cases b; simp
theorem Shape.ext_iff' (a b : Shape) : a = b ↔ a.Kind = b.Kind ∧ a.Pts = b.Pts := by cases a; cases b; simp
section
def findN (n : Nat) (c : Nat → Bool) : Int := match (List.range n).find? c with | some k => (k : Int) | none => -1
theorem findN_hit {n k : Nat} {c : Nat → Bool} (hk : k < n) (h : c k = true) (hp : ∀ j, j < k → c j = false) : findN n c = (k : Int) := by
 unfold findN
 have : (List.range n).find? c = some k := by
  rw [List.find?_range_eq_some]
  exact ⟨h, List.mem_range.2 hk, fun j hj => by rw [hp j hj]; rfl⟩
 rw [this]
theorem findN_none {n : Nat} {c : Nat → Bool} (h : ∀ j, j < n → c j = false) : findN n c = -1 := by
 unfold findN
 have : (List.range n).find? c = none := by
  rw [List.find?_eq_none]; intro j hj; rw [h j (List.mem_range.1 hj)]; exact Bool.false_ne_true
 rw [this]
theorem findN_le (n : Nat) (c : Nat → Bool) : -1 ≤ findN n c ∧ findN n c < n := by
 unfold findN
 cases h : (List.range n).find? c with
 | none => exact ⟨Int.le_refl _, by dsimp only; omega⟩
 | some k => have := List.mem_range.1 (List.mem_of_find?_eq_some h); exact ⟨by dsimp only; omega, by dsimp only; omega⟩
theorem loop_find (n : Nat) (c : Nat → Bool) {B : (Int → Prop) → (Int → Nat) → Int → Prop} {Q : Int → Prop} (hq : Q (findN n c))
  (hs : ∀ (I : Int → Prop) (mu : Int → Nat) (k : Nat), k < n → (c k = true → Q (k : Int)) → (c k = false → I ((k : Int) + 1) ∧ mu ((k : Int) + 1) < mu (k : Int)) → B I mu (k : Int)) :
  ∃ (I : Int → Prop) (mu : Int → Nat), I 0 ∧ ∀ (i : Int), I i → (if decide (i < (n : Int)) then B I mu i else Q (-1)) := by
 refine loop_all n (fun k => !(c k)) (fun I mu k hk hp hn => hs I mu k hk (fun h => ?_) (fun h => hn (by rw [h]; rfl))) (fun ha => ?_)
 ·rw [findN_hit hk h (fun j hj => by have := hp j hj; rwa [Bool.not_eq_true'] at this)] at hq; exact hq
 ·rw [findN_none (fun j hj => by have := ha j hj; rwa [Bool.not_eq_true'] at this)] at hq; exact hq
section
variable {α : Type} [Inhabited α] [DecidableEq α]
theorem list_eq_iff (a b : List α) (h : a.length = b.length) : a = b ↔ ∀ k, k < a.length → nth a (k : Int) = nth b (k : Int) := ⟨fun e k _ => by rw [e], ext_nth h⟩
theorem eqF_shape (a b : List α) (el : α → α → Bool) (ok : α → α → Prop) (hok : ∀ x y, x ∈ a → ok x y) (hel : ∀ x y, x ∈ a → el x y = decide (x = y)) (hb : a.length ≤ 1048576) (Q : Bool → Prop) (hq : Q (decide (a = b))) :
  (if (a.length : Int) != (b.length : Int) then Q false else (∃ (I36 : Int → Prop) (mu37 : Int → Nat), I36 0 ∧ ∀ (v2 : Int), I36 v2 → (if decide (v2 < (a.length : Int)) then ((0 : Int) ≤ v2 ∧ v2 < (a.length : Int)) ∧ ((0 : Int) ≤ v2 ∧ v2 < (b.length : Int)) ∧ (ok (nth a v2) (nth b v2)) ∧ (if !(el (nth a v2) (nth b v2)) then Q false else (I64 (v2 + 1)) ∧ I36 (v2 + 1) ∧ mu37 (v2 + 1) < mu37 v2) else Q true))) := by
 by_cases hl : a.length = b.length
 ·rw [if_neg (by simp [hl])]
  refine loop_all a.length (fun k => decide (nth a (k : Int) = nth b (k : Int))) (fun I mu k hk hp hn => ?_) (fun ha => ?_)
  ·refine ⟨OM, OM, hok _ _ (nth_mem a hk), ?_⟩
   rw [hel _ _ (nth_mem a hk)]
   by_cases h : nth a (k : Int) = nth b (k : Int)
   ·rw [decide_eq_true h, if_neg RD]
    obtain ⟨i1, i2⟩ := hn (decide_eq_true h)
    exact ⟨by unfold I64; omega, i1, i2⟩
   ·rw [decide_eq_false h, if_pos RD]
    rw [decide_eq_false (by rw [list_eq_iff a b hl]; exact fun g => h (g k hk))] at hq; exact hq
  ·rw [decide_eq_true ((list_eq_iff a b hl).2 fun k hk => of_decide_eq_true (ha k hk))] at hq; exact hq
 ·rw [if_pos (by rw [bne_iff_ne]; omega)]
  rw [decide_eq_false (fun e => hl (by rw [e]))] at hq; exact hq
end
end
section
theorem less_trans : ∀ {a b c : Str}, Op.bytesLess a b = true → Op.bytesLess b c = true → Op.bytesLess a c = true
 | _, _, [], _, h => by rename_i b _; cases b <;> simp [Op.bytesLess] at h
 | _, [], _ :: _, h, _ => by rename_i a _ _ _; cases a <;> simp [Op.bytesLess] at h
 | [], _ :: _, _ :: _, _, _ => by simp [Op.bytesLess]
 | x :: a, y :: b, z :: c, h1, h2 => by
  rw [Op.bytesLess] at h1 h2 ⊢
  simp only [Bool.or_eq_true, Bool.and_eq_true, decide_eq_true_eq, beq_iff_eq] at h1 h2 ⊢
  rcases h1 with h1 | ⟨rfl, h1⟩
  ·rcases h2 with h2 | ⟨rfl, h2⟩
   ·exact .inl (UInt8.lt_trans h1 h2)
   ·exact .inl h1
  ·rcases h2 with h2 | ⟨rfl, h2⟩
   ·exact .inl h2
   ·exact .inr ⟨rfl, less_trans h1 h2⟩
theorem less_asym {a b : Str} (h : Op.bytesLess a b = true) : Op.bytesLess b a = false := by
 cases e : Op.bytesLess b a with
 | false => rfl
 | true => have := less_trans h e; rw [less_irr] at this; cases this
theorem less_or {a b : Str} (h : Op.bytesLess a b = false) : Op.bytesLess b a = true ∨ b = a := by
 have := less_tri a b
 rw [h] at this
 simpa using this.symm
def SS (l : List Str) : Prop := l.Pairwise fun x y => Op.bytesLess x y = true
theorem SS.ext : ∀ {l m : List Str}, SS l → SS m → (∀ x, x ∈ l ↔ x ∈ m) → l = m
 | [], [], _, _, _ => rfl
 | [], y :: m, _, _, h => by have := (h y).2 List.mem_cons_self; cases this
 | x :: l, [], _, _, h => by have := (h x).1 List.mem_cons_self; cases this
 | x :: l, y :: m, hl, hm, h => by
  obtain ⟨l1, l2⟩ := List.pairwise_cons.1 hl
  obtain ⟨m1, m2⟩ := List.pairwise_cons.1 hm
  have e : x = y := by
   rcases List.mem_cons.1 ((h x).1 List.mem_cons_self) with e | e
   ·exact e
   ·rcases List.mem_cons.1 ((h y).2 List.mem_cons_self) with e' | e'
    ·exact e'.symm
    ·have := less_trans (m1 x e) (l1 y e'); rw [less_irr] at this; cases this
  subst e
  rw [SS.ext l2 m2 fun z => ⟨fun hz => ?_, fun hz => ?_⟩]
  ·rcases List.mem_cons.1 ((h z).1 (List.mem_cons_of_mem _ hz)) with e | e
   ·subst e; have := l1 z hz; rw [less_irr] at this; cases this
   ·exact e
  ·rcases List.mem_cons.1 ((h z).2 (List.mem_cons_of_mem _ hz)) with e | e
   ·subst e; have := m1 z hz; rw [less_irr] at this; cases this
   ·exact e
theorem le_less (x y : Str) : decide (x ≤ y) = !(Op.bytesLess y x) := by
 rw [bytesLess_eq]
 by_cases h : y < x
 ·rw [decide_eq_true h, decide_eq_false (by rw [List.not_le]; exact h)]; rfl
 ·rw [decide_eq_false h, decide_eq_true (List.not_lt.1 h)]; rfl
theorem sortS_le (l : List Str) : (sortS l).Pairwise fun x y => Op.bytesLess y x = false := by
 have h := List.pairwise_mergeSort (le := fun x y : Str => decide (x ≤ y)) (fun a b c h1 h2 => by
  rw [le_less, Bool.not_eq_true'] at h1 h2 ⊢
  cases e : Op.bytesLess c a with
  | false => rfl
  | true =>
   rcases less_or h1 with h3 | h3
   ·have := less_trans e h3; rw [h2] at this; cases this
   ·subst h3; rw [h2] at e; cases e) (fun a b => by
  rw [le_less, le_less]
  cases e : Op.bytesLess b a with
  | false => rfl
  | true => rw [less_asym e]; rfl) l
 exact h.imp fun {x y} h => by rw [le_less, Bool.not_eq_true'] at h; exact h
theorem sortS_mem {l : List Str} {x : Str} : x ∈ sortS l ↔ x ∈ l := List.mem_mergeSort
section
open Go.Lib
theorem compact_of (l : List Str) (h : l.Pairwise fun x y => Op.bytesLess y x = false) : SS (compact l) ∧ ∀ x, x ∈ compact l ↔ x ∈ l := by
 have hle : ∀ i j, i ≤ j → j < l.length → Op.bytesLess (l.toArray[j]!) (l.toArray[i]!) = false := fun i j hij hj => by
  have hi : i < l.length := by omega
  simp only [List.getElem!_toArray, getElem!_pos l i hi, getElem!_pos l j hj]
  rcases Nat.lt_or_eq_of_le hij with hlt | rfl
  ·exact List.pairwise_iff_getElem.1 h i j hi hj hlt
  ·exact less_irr _
 constructor
 ·unfold compact compactUpTo SS
  rw [List.pairwise_map, List.pairwise_filter]
  refine List.pairwise_iff_getElem.2 fun i j hi hj hij => ?_
  simp only [List.length_range] at hi hj
  simp only [List.getElem_range]
  intro _ hk
  have hj0 : 0 < j := by omega
  have hne : l.toArray[j]! ≠ l.toArray[j - 1]! := fun e => by rw [keeps_neg hj0 e] at hk; cases hk
  have h1 : Op.bytesLess (l.toArray[j - 1]!) (l.toArray[j]!) = true := by
   rcases less_or (hle (j - 1) j OM hj) with h2 | h2
   ·exact h2
   ·exact absurd h2.symm hne
  rcases less_or (hle i (j - 1) OM OM) with h3 | h3
  ·exact less_trans h3 h1
  ·rw [h3]; exact h1
 ·intro x
  constructor
  ·exact compact_mem
  ·intro hx
   obtain ⟨k, hk, rfl⟩ := List.getElem_of_mem hx
   have key : ∀ k, k < l.length → l.toArray[k]! ∈ compact l := by
    intro k
    induction k using Nat.strongRecOn with
    | _ k ih =>
     intro hk
     cases e : keeps l.toArray k with
     | true =>
      unfold compact compactUpTo
      exact List.mem_map.2 ⟨k, List.mem_filter.2 ⟨List.mem_range.2 hk, e⟩, rfl⟩
     | false =>
      have hk0 : 0 < k := by
       rcases Nat.eq_zero_or_pos k with h0 | h0
       ·subst h0; rw [keeps_lt_one _ 0 OM] at e; cases e
       ·exact h0
      have he : l.toArray[k]! = l.toArray[k - 1]! := Classical.byContradiction fun hne => by rw [keeps_pos hne] at e; cases e
      rw [he]; exact ih (k - 1) OM OM
   have := key k hk
   simpa [getElem!_pos l k hk] using this
end
def uniq (l : List Str) : List Str := Lib.compact (sortS l)
theorem uniq_ss (l : List Str) : SS (uniq l) := (compact_of _ (sortS_le l)).1
theorem uniq_mem {l : List Str} {x : Str} : x ∈ uniq l ↔ x ∈ l := ((compact_of _ (sortS_le l)).2 x).trans sortS_mem
def ids (s : List Feat) : List Str := s.map (·.Id)
theorem ids_app (s t : List Feat) : ids (s ++ t) = ids s ++ ids t := List.map_append
theorem sheet_ss {s : List Feat} (h : sheetOk s = true) : SS (ids s) ∧ s.length ≤ 8 ∧ ∀ f ∈ s, featOk f = true := by
 unfold sheetOk at h
 simp only [Bool.and_eq_true, decide_eq_true_eq] at h
 obtain ⟨h1, h2⟩ := h
 have h1 := allN_iff.1 h1
 have hadj : ∀ k, 0 < k → k < s.length → Op.bytesLess (nth s ((k : Int) - 1)).Id (nth s (k : Int)).Id = true := fun k h0 hk => by
  have := h1 k hk
  simp only [Bool.and_eq_true, Bool.or_eq_true, decide_eq_true_eq] at this
  rcases this.2 with h | h
  ·omega
  ·exact h
 refine ⟨?_, h2, fun f hf => ?_⟩
 ·unfold SS ids
  rw [List.pairwise_map]
  refine List.pairwise_iff_getElem.2 fun i j hi hj hij => ?_
  have key : ∀ d, i + d + 1 < s.length → Op.bytesLess s[i].Id (nth s ((i + d + 1 : Nat) : Int)).Id = true := by
   intro d
   induction d with
   | zero =>
    intro hd
    have := hadj (i + 0 + 1) OM hd
    rw [show (((i + 0 + 1 : Nat) : Int) - 1) = (i : Int) by omega, nth_nat s hi] at this
    exact this
   | succ d ih =>
    intro hd
    have := hadj (i + (d + 1) + 1) OM hd
    rw [show (((i + (d + 1) + 1 : Nat) : Int) - 1) = ((i + d + 1 : Nat) : Int) by omega] at this
    exact less_trans (ih OM) this
  have := key (j - i - 1) OM
  rw [show i + (j - i - 1) + 1 = j by omega, nth_nat s hj] at this
  exact this
 ·obtain ⟨k, hk, rfl⟩ := List.getElem_of_mem hf
  have := h1 k hk
  rw [nth_nat s hk] at this
  simp only [Bool.and_eq_true] at this
  exact this.1
theorem word_len {s : Str} (h : wordOk s = true) : s.length ≤ 6 := by
 unfold wordOk at h
 simp only [Bool.and_eq_true, decide_eq_true_eq] at h
 exact h.2.2
theorem bulk_small {α : Type} [Bulk α] (l : List α) (m : Nat) (h : ∀ x ∈ l, bulk x ≤ m) : bulk l ≤ l.length * (m + 1) := by
 induction l with
 | nil => exact Nat.zero_le _
 | cons x l ih =>
  have h1 := h x List.mem_cons_self
  have h2 := ih fun y hy => h y (List.mem_cons_of_mem _ hy)
  rw [bulk_cons, List.length_cons, Nat.add_mul]
  omega
theorem feat_small {f : Feat} (h : featOk f = true) : bulk f ≤ 100 ∧ f.Id.length ≤ 6 := by
 unfold featOk at h
 simp only [Bool.and_eq_true, decide_eq_true_eq] at h
 obtain ⟨⟨⟨h1, h2⟩, h3⟩, h4⟩ := h
 have hi := word_len h3
 have e1 : bulk f = bulk f.Id + (bulk f.Shape.Kind + bulk f.Shape.Pts) + bulk f.Tags := rfl
 have e2 : bulk f.Id = f.Id.length := bulk_str _
 have e3 : bulk f.Shape.Kind = 0 := rfl
 have e4 : bulk f.Shape.Pts = f.Shape.Pts.length := bulk_flat (fun _ => rfl) _
 have ht : bulk f.Tags ≤ f.Tags.length * (12 + 1) := bulk_small _ 12 fun t hm => by
  unfold tagsOk at h1
  obtain ⟨k, hk, rfl⟩ := List.getElem_of_mem hm
  have := allN_iff.1 h1 k hk
  rw [nth_nat _ hk] at this
  simp only [Bool.and_eq_true] at this
  have a1 := word_len this.1.1
  have a2 := word_len this.1.2
  have b0 : bulk f.Tags[k] = bulk f.Tags[k].Key + bulk f.Tags[k].Val := rfl
  have b1 : bulk f.Tags[k].Key = f.Tags[k].Key.length := bulk_str _
  have b2 : bulk f.Tags[k].Val = f.Tags[k].Val.length := bulk_str _
  omega
 have hp : f.Shape.Pts.length ≤ 6 := by
  unfold shapeOk kindOk at h4
  simp only [Bool.and_eq_true] at h4
  have := h4.2
  split at this
  ·simp only [decide_eq_true_eq] at this; omega
  ·split at this
   ·simp only [Bool.and_eq_true, decide_eq_true_eq] at this; omega
   ·split at this
    ·simp only [Bool.and_eq_true, decide_eq_true_eq] at this; omega
    ·cases this
 have : f.Tags.length * (12 + 1) ≤ 52 := by omega
 omega
def zeroF : Feat := ⟨[], ⟨0, []⟩, []⟩
def sideOf (s : List Feat) (id : Str) : Feat × Bool :=
 if findN s.length (fun j => (nth s (j : Int)).Id == id) < 0 then (zeroF, false) else (nth s (findN s.length fun j => (nth s (j : Int)).Id == id), true)
theorem sideOf_small {s : List Feat} (h : sheetOk s = true) (id : Str) : bulk (sideOf s id).1 ≤ 100 := by
 unfold sideOf
 split
 ·exact (by decide : bulk zeroF ≤ 100)
 ·have h1 := findN_le s.length fun j => (nth s (j : Int)).Id == id
  exact (feat_small ((sheet_ss h).2.2 _ (nth_memi s OM h1.2))).1
def diffC (a b : List Feat) (id : Str) : Change := ⟨id, (sideOf a id).2, (sideOf a id).1, (sideOf b id).2, (sideOf b id).1⟩
def diffL (a b : List Feat) (l : List Str) : List Change := (l.map (diffC a b)).filter fun c => !(sameC c)
theorem diffL_snoc (a b : List Feat) (l : List Str) (x : Str) : diffL a b (l ++ [x]) = diffL a b l ++ (if sameC (diffC a b x) then [] else [diffC a b x]) := by
 unfold diffL
 rw [List.map_append, List.filter_append]
 congr 1
 cases h : sameC (diffC a b x) <;> simp [h]
theorem uniq_len (l : List Str) : (uniq l).length ≤ l.length := by
 unfold uniq
 have := compact_le (sortS l)
 have h2 : (sortS l).length = l.length := List.length_mergeSort _
 omega
theorem diffL_len (a b : List Feat) (l : List Str) : (diffL a b l).length ≤ l.length := by
 unfold diffL
 exact Nat.le_trans (List.length_filter_le _ _) (by rw [List.length_map]; exact Nat.le_refl _)
end
section
def mkL {α : Type} (g : α → Int → α × Int) : List α → Int → List α × Int
 | [], k => ([], k)
 | x :: l, k => ((g x k).1 :: (mkL g l (g x k).2).1, (mkL g l (g x k).2).2)
section
variable {α : Type} {g : α → Int → α × Int}
theorem mkL_snoc (x : α) : ∀ (l : List α) (k : Int), mkL g (l ++ [x]) k = ((mkL g l k).1 ++ [(g x (mkL g l k).2).1], (g x (mkL g l k).2).2)
 | [], k => rfl
 | y :: l, k => by
  rw [List.cons_append, mkL, mkL_snoc x l]; rfl
theorem mkL_len : ∀ (l : List α) (k : Int), (mkL g l k).1.length = l.length
 | [], k => rfl
 | y :: l, k => by rw [mkL, List.length_cons, List.length_cons, mkL_len l]
theorem mkL_app : ∀ (l m : List α) (k : Int), mkL g (l ++ m) k = ((mkL g l k).1 ++ (mkL g m (mkL g l k).2).1, (mkL g m (mkL g l k).2).2)
 | [], m, k => rfl
 | y :: l, m, k => by rw [List.cons_append, mkL, mkL_app l]; rfl
variable [Inhabited α]
def Mk (g : α → Int → α × Int) (a : List α) (k : Int) (u : Nat) (xs : List α) (k' : Int) : Prop := u ≤ a.length ∧ xs = (mkL g (a.take u) k).1 ++ a.drop u ∧ k' = (mkL g (a.take u) k).2
variable {a xs : List α} {k k' : Int} {u : Nat}
theorem Mk.zero (a : List α) (k : Int) : Mk g a k 0 a k := ⟨Nat.zero_le _, by simp [mkL], by simp [mkL]⟩
theorem Mk.len (h : Mk g a k u xs k') : xs.length = a.length := by
 rw [h.2.1, List.length_append, mkL_len, List.length_take, List.length_drop]; have := h.1; omega
theorem Mk.nth (h : Mk g a k u xs k') (hu : u < a.length) : nth xs (u : Int) = Go.Proofs.YtlaaehjcooonfaaGreatDoor.nth a (u : Int) := by
 rw [nth_nat xs (by rw [h.len]; exact hu), nth_nat a hu]
 have hl : (mkL g (a.take u) k).1.length = u := by rw [mkL_len, List.length_take]; omega
 have := h.2.1
 subst this
 rw [List.getElem_append_right OM]
 simp [hl]
def Hd (g : α → Int → α × Int) (a : List α) (k : Int) (u : Nat) (k' : Int) : Prop := u ≤ a.length ∧ k' = (mkL g (a.take u) k).2
theorem Hd.zero (a : List α) (k : Int) : Hd g a k 0 k := ⟨Nat.zero_le _, by simp [mkL]⟩
theorem Hd.nth (h : Hd g a k u k') (hu : u < a.length) : nth (mkL g a k).1 (u : Int) = (g (Go.Proofs.YtlaaehjcooonfaaGreatDoor.nth a (u : Int)) k').1 := by
 have e : a = (a.take u ++ [Go.Proofs.YtlaaehjcooonfaaGreatDoor.nth a (u : Int)]) ++ a.drop (u + 1) := by rw [← take_nth a hu, List.take_append_drop]
 have hl : (mkL g (a.take u) k).1.length = u := by rw [mkL_len, List.length_take]; omega
 rw [nth_nat _ (by rw [mkL_len]; exact hu)]
 have h1 : (mkL g a k).1[u]? = some (g (Go.Proofs.YtlaaehjcooonfaaGreatDoor.nth a (u : Int)) k').1 := by
  conv => lhs; rw [e]
  rw [mkL_app, mkL_snoc]
  dsimp only
  rw [List.append_assoc, List.getElem?_append_right OM, hl, Nat.sub_self, h.2]; rfl
 rw [List.getElem?_eq_getElem (by rw [mkL_len]; exact hu)] at h1
 exact Option.some.inj h1
end
theorem bulk_feat (x : Feat) : bulk x = bulk x.Id + (bulk x.Shape.Kind + bulk x.Shape.Pts) + bulk x.Tags := rfl
theorem bulk_change (x : Change) : bulk x = bulk x.Id + bulk x.Had + bulk x.Was + bulk x.Has + bulk x.Now := rfl
end
theorem pw_ext {α : Type} {R : α → α → Prop} (irr : ∀ x, ¬ R x x) (tr : ∀ x y z, R x y → R y z → R x z) : ∀ {l m : List α}, l.Pairwise R → m.Pairwise R → (∀ x, x ∈ l ↔ x ∈ m) → l = m
 | [], [], _, _, _ => rfl
 | [], y :: m, _, _, h => by have := (h y).2 List.mem_cons_self; cases this
 | x :: l, [], _, _, h => by have := (h x).1 List.mem_cons_self; cases this
 | x :: l, y :: m, hl, hm, h => by
  obtain ⟨l1, l2⟩ := List.pairwise_cons.1 hl
  obtain ⟨m1, m2⟩ := List.pairwise_cons.1 hm
  have e : x = y := by
   rcases List.mem_cons.1 ((h x).1 List.mem_cons_self) with e | e
   ·exact e
   ·rcases List.mem_cons.1 ((h y).2 List.mem_cons_self) with e' | e'
    ·exact e'.symm
    ·exact absurd (tr _ _ _ (m1 x e) (l1 y e')) (irr _)
  subst e
  rw [pw_ext irr tr l2 m2 fun z => ⟨fun hz => ?_, fun hz => ?_⟩]
  ·rcases List.mem_cons.1 ((h z).1 (List.mem_cons_of_mem _ hz)) with e | e
   ·subst e; exact absurd (l1 z hz) (irr _)
   ·exact e
  ·rcases List.mem_cons.1 ((h z).2 (List.mem_cons_of_mem _ hz)) with e | e
   ·subst e; exact absurd (m1 z hz) (irr _)
   ·exact e
def idsC (d : List Change) : List Str := d.map (·.Id)
theorem idsC_app (s t : List Change) : idsC (s ++ t) = idsC s ++ idsC t := List.map_append
def CS (d : List Change) : Prop := d.Pairwise fun x y => Op.bytesLess x.Id y.Id = true
theorem CS.ext {l m : List Change} (hl : CS l) (hm : CS m) (h : ∀ x, x ∈ l ↔ x ∈ m) : l = m :=
 pw_ext (R := fun x y : Change => Op.bytesLess x.Id y.Id = true) (fun x e => by rw [less_irr] at e; cases e) (fun x y z h1 h2 => less_trans h1 h2) hl hm h
theorem CS.ids {d : List Change} (h : CS d) : SS (idsC d) := List.pairwise_map.2 h
theorem diff_cs {d : List Change} (h : diffOk d = true) : CS d ∧ d.length ≤ 16 ∧ ∀ c ∈ d, changeOk c = true := by
 unfold diffOk at h
 simp only [Bool.and_eq_true, decide_eq_true_eq] at h
 obtain ⟨h1, h2⟩ := h
 have h1 := allN_iff.1 h1
 have hadj : ∀ k, 0 < k → k < d.length → Op.bytesLess (nth d ((k : Int) - 1)).Id (nth d (k : Int)).Id = true := fun k h0 hk => by
  have := h1 k hk
  simp only [Bool.and_eq_true, Bool.or_eq_true, decide_eq_true_eq] at this
  rcases this.2 with h | h
  ·omega
  ·exact h
 refine ⟨?_, h2, fun f hf => ?_⟩
 ·refine List.pairwise_iff_getElem.2 fun i j hi hj hij => ?_
  have key : ∀ q, i + q + 1 < d.length → Op.bytesLess d[i].Id (nth d ((i + q + 1 : Nat) : Int)).Id = true := by
   intro q
   induction q with
   | zero =>
    intro hd
    have := hadj (i + 0 + 1) OM hd
    rw [show (((i + 0 + 1 : Nat) : Int) - 1) = (i : Int) by omega, nth_nat d hi] at this
    exact this
   | succ q ih =>
    intro hd
    have := hadj (i + (q + 1) + 1) OM hd
    rw [show (((i + (q + 1) + 1 : Nat) : Int) - 1) = ((i + q + 1 : Nat) : Int) by omega] at this
    exact less_trans (ih OM) this
  have := key (j - i - 1) OM
  rw [show i + (j - i - 1) + 1 = j by omega, nth_nat d hj] at this
  exact this
 ·obtain ⟨k, hk, rfl⟩ := List.getElem_of_mem hf
  have := h1 k hk
  rw [nth_nat d hk] at this
  simp only [Bool.and_eq_true] at this
  exact this.1
theorem side_small {id : Str} {has : Bool} {f : Feat} (h : sideOk id has f = true) : bulk f ≤ 100 := by
 unfold sideOk at h
 cases has with
 | true =>
  rw [if_pos rfl] at h
  simp only [Bool.and_eq_true] at h
  exact (feat_small h.1).1
 | false =>
  rw [if_neg RD] at h
  unfold noF at h
  rw [of_decide_eq_true h]; decide
theorem change_small {c : Change} (h : changeOk c = true) : bulk c ≤ 206 ∧ sameC c = false ∧ bulk c.Was ≤ 100 ∧ bulk c.Now ≤ 100 ∧ c.Id.length ≤ 6 := by
 unfold changeOk at h
 simp only [Bool.and_eq_true, Bool.not_eq_true'] at h
 obtain ⟨⟨⟨h1, h2⟩, h3⟩, h4⟩ := h
 have a1 := word_len h1
 have a2 := side_small h2
 have a3 := side_small h3
 have e := bulk_change c
 have e1 : bulk c.Id = c.Id.length := bulk_str _
 have e2 : bulk c.Had = 0 := rfl
 have e3 : bulk c.Has = 0 := rfl
 exact ⟨OM, h4, a2, a3, a1⟩
def atC (d : List Change) (id : Str) : Int := findN d.length fun j => (nth d (j : Int)).Id == id
theorem findN_true {n : Nat} {c : Nat → Bool} {k : Nat} (h : findN n c = (k : Int)) : k < n ∧ c k = true := by
 unfold findN at h
 cases e : (List.range n).find? c with
 | none => rw [e] at h; dsimp only at h; omega
 | some j =>
  rw [e] at h; dsimp only at h
  have : j = k := by omega
  subst this
  exact ⟨List.mem_range.1 (List.mem_of_find?_eq_some e), List.find?_some e⟩
theorem findN_neg {n : Nat} {c : Nat → Bool} (h : findN n c < 0) : ∀ j, j < n → c j = false := fun j hj => by
 unfold findN at h
 cases e : (List.range n).find? c with
 | some k => rw [e] at h; dsimp only at h; omega
 | none =>
  have := List.find?_eq_none.1 e j (List.mem_range.2 hj)
  simpa using this
theorem atC_le (d : List Change) (id : Str) : -1 ≤ atC d id ∧ atC d id < d.length := findN_le _ _
theorem atC_hit {d : List Change} {id : Str} (h : ¬ atC d id < 0) : nth d (atC d id) ∈ d ∧ (nth d (atC d id)).Id = id := by
 obtain ⟨k, hk⟩ : ∃ k : Nat, atC d id = (k : Int) := ⟨(atC d id).toNat, OM⟩
 obtain ⟨h1, h2⟩ := findN_true hk
 rw [hk]
 exact ⟨nth_mem d h1, by simpa using h2⟩
theorem atC_miss {d : List Change} {id : Str} (h : atC d id < 0) : id ∉ idsC d := fun hm => by
 obtain ⟨c, hc, rfl⟩ := List.mem_map.1 hm
 obtain ⟨k, hk, rfl⟩ := List.getElem_of_mem hc
 have := findN_neg h k hk
 rw [nth_nat d hk] at this
 simp at this
theorem atC_mem {d : List Change} {id : Str} (h : ¬ atC d id < 0) : id ∈ idsC d := by
 obtain ⟨h1, h2⟩ := atC_hit h
 exact List.mem_map.2 ⟨_, h1, h2⟩
theorem CS.inj {d : List Change} (h : CS d) {x y : Change} (hx : x ∈ d) (hy : y ∈ d) (e : x.Id = y.Id) : x = y := by
 obtain ⟨i, hi, rfl⟩ := List.getElem_of_mem hx
 obtain ⟨j, hj, rfl⟩ := List.getElem_of_mem hy
 rcases Nat.lt_trichotomy i j with g | g | g
 ·have := List.pairwise_iff_getElem.1 h i j hi hj g
  rw [e, less_irr] at this; cases this
 ·subst g; rfl
 ·have := List.pairwise_iff_getElem.1 h j i hj hi g
  rw [e, less_irr] at this; cases this
theorem atC_of {d : List Change} (h : CS d) {c : Change} (hc : c ∈ d) : ¬ atC d c.Id < 0 ∧ nth d (atC d c.Id) = c := by
 have h0 : ¬ atC d c.Id < 0 := fun e => atC_miss e (List.mem_map.2 ⟨c, hc, rfl⟩)
 obtain ⟨h1, h2⟩ := atC_hit h0
 exact ⟨h0, h.inj h1 hc h2⟩
def compC (a b : List Change) (id : Str) : Change :=
 if atC b id < 0 then nth a (atC a id) else if atC a id < 0 then nth b (atC b id)
 else ⟨id, (nth a (atC a id)).Had, (nth a (atC a id)).Was, (nth b (atC b id)).Has, (nth b (atC b id)).Now⟩
def clashAt (a b : List Change) (id : Str) : Bool :=
 decide (¬ atC a id < 0) && decide (¬ atC b id < 0) && ((nth a (atC a id)).Has != (nth b (atC b id)).Had || !(decide ((nth a (atC a id)).Now = (nth b (atC b id)).Was)))
def thenL (a b : List Change) (l : List Str) : List Change := (l.map (compC a b)).filter fun c => !(sameC c)
def thenOut (a b : List Change) : List Change := thenL a b (uniq (idsC a ++ idsC b))
def thenOk (a b : List Change) : Bool := diffOk a && diffOk b && !((uniq (idsC a ++ idsC b)).any (clashAt a b)) && diffOk (thenOut a b)
def thenR (a b : List Change) : List Change := if thenOk a b then thenOut a b else []
theorem thenL_snoc (a b : List Change) (l : List Str) (x : Str) : thenL a b (l ++ [x]) = thenL a b l ++ (if sameC (compC a b x) then [] else [compC a b x]) := by
 unfold thenL
 rw [List.map_append, List.filter_append]
 congr 1
 cases h : sameC (compC a b x) <;> simp [h]
theorem thenL_len (a b : List Change) (l : List Str) : (thenL a b l).length ≤ l.length := by
 unfold thenL
 exact Nat.le_trans (List.length_filter_le _ _) (by rw [List.length_map]; exact Nat.le_refl _)
theorem thenL_mem {a b : List Change} {l : List Str} {x : Change} : x ∈ thenL a b l ↔ (∃ id ∈ l, compC a b id = x) ∧ sameC x = false := by
 unfold thenL
 rw [List.mem_filter, List.mem_map, Bool.not_eq_true']
theorem compC_id {a b : List Change} {id : Str} (h : id ∈ idsC a ∨ id ∈ idsC b) : (compC a b id).Id = id := by
 unfold compC
 by_cases hb : atC b id < 0
 ·rw [if_pos hb]
  have ha : ¬ atC a id < 0 := fun e => by
   rcases h with h | h
   ·exact atC_miss e h
   ·exact atC_miss hb h
  exact (atC_hit ha).2
 ·rw [if_neg hb]
  by_cases ha : atC a id < 0
  ·rw [if_pos ha]; exact (atC_hit hb).2
  ·rw [if_neg ha]
theorem thenL_cs {a b : List Change} {l : List Str} (h : SS l) (hm : ∀ id ∈ l, id ∈ idsC a ∨ id ∈ idsC b) : CS (thenL a b l) := by
 unfold CS thenL
 refine List.Pairwise.filter _ (List.pairwise_map.2 ?_)
 refine List.Pairwise.imp_of_mem (fun {x y} hx hy hxy => ?_) h
 rw [compC_id (hm x hx), compC_id (hm y hy)]; exact hxy
theorem compC_small {a b : List Change} (ha : ∀ c ∈ a, changeOk c = true) (hb : ∀ c ∈ b, changeOk c = true) {id : Str} (h : id ∈ idsC a ∨ id ∈ idsC b) : bulk (compC a b id) ≤ 206 := by
 unfold compC
 by_cases kb : atC b id < 0
 ·rw [if_pos kb]
  have ka : ¬ atC a id < 0 := fun e => by
   rcases h with h | h
   ·exact atC_miss e h
   ·exact atC_miss kb h
  exact (change_small (ha _ (atC_hit ka).1)).1
 ·rw [if_neg kb]
  by_cases ka : atC a id < 0
  ·rw [if_pos ka]; exact (change_small (hb _ (atC_hit kb).1)).1
  ·rw [if_neg ka]
   have a1 := (change_small (ha _ (atC_hit ka).1)).2.2.1
   have b1 := (change_small (hb _ (atC_hit kb).1)).2.2.2.1
   have b2 := (change_small (hb _ (atC_hit kb).1)).2.2.2.2
   rw [(atC_hit kb).2] at b2
   have e := bulk_change ⟨id, (nth a (atC a id)).Had, (nth a (atC a id)).Was, (nth b (atC b id)).Has, (nth b (atC b id)).Now⟩
   have e1 : bulk id = id.length := bulk_str _
   have e2 : bulk (nth a (atC a id)).Had = 0 := rfl
   have e3 : bulk (nth b (atC b id)).Has = 0 := rfl
   dsimp only at e
   omega
theorem uniqC_mem {a b : List Change} {id : Str} : id ∈ uniq (idsC a ++ idsC b) ↔ id ∈ idsC a ∨ id ∈ idsC b := uniq_mem.trans List.mem_append
theorem thenOut_len {a b : List Change} (ha : a.length ≤ 16) (hb : b.length ≤ 16) : (thenOut a b).length ≤ 32 ∧ (uniq (idsC a ++ idsC b)).length ≤ 32 := by
 have h1 := thenL_len a b (uniq (idsC a ++ idsC b))
 have h2 := uniq_len (idsC a ++ idsC b)
 have h3 : (idsC a ++ idsC b).length = a.length + b.length := by unfold idsC; simp
 exact ⟨by unfold thenOut; omega, OM⟩
theorem thenL_small {a b : List Change} (ha : ∀ c ∈ a, changeOk c = true) (hb : ∀ c ∈ b, changeOk c = true) {l : List Str} (hm : ∀ id ∈ l, id ∈ idsC a ∨ id ∈ idsC b) (hl : l.length ≤ 1000) : bulk (thenL a b l) ≤ 1048576 := by
 have h1 := bulk_small (thenL a b l) 206 fun c hc => by
  obtain ⟨⟨id, hid, rfl⟩, _⟩ := thenL_mem.1 hc
  exact compC_small ha hb (hm id hid)
 have h2 := thenL_len a b l
 have : (thenL a b l).length * (206 + 1) ≤ 1000 * 207 := Nat.mul_le_mul OM (Nat.le_refl _)
 omega
theorem thenR_small (a b : List Change) : bulk (thenR a b) ≤ 1048576 := by
 unfold thenR
 cases h : thenOk a b with
 | false => rw [if_neg RD]; exact Nat.zero_le _
 | true =>
  rw [if_pos rfl]
  unfold thenOk at h
  simp only [Bool.and_eq_true] at h
  have ha := diff_cs h.1.1.1
  have hb := diff_cs h.1.1.2
  exact thenL_small ha.2.2 hb.2.2 (fun id hid => uniqC_mem.1 hid) (by have := (thenOut_len ha.2.1 hb.2.1).2; omega)
def turnC (c : Change) : Change := ⟨c.Id, c.Has, c.Now, c.Had, c.Was⟩
def turnD (d : List Change) : List Change := if diffOk d then d.map turnC else []
theorem bulk_turn (d : List Change) : bulk (d.map turnC) = bulk d := by
 induction d with
 | nil => rfl
 | cons c d ih =>
  rw [List.map_cons, bulk_cons, bulk_cons, ih, bulk_change, bulk_change c]
  unfold turnC
  dsimp only
  omega
theorem bulk_turnD (d : List Change) : bulk (turnD d) ≤ bulk d := by
 unfold turnD
 cases h : diffOk d with
 | false => rw [if_neg RD]; exact Nat.zero_le _
 | true => rw [if_pos rfl, bulk_turn]; exact Nat.le_refl _
theorem same_turn (c : Change) : sameC (turnC c) = sameC c := by
 unfold sameC turnC
 congr 1 <;> exact decide_eq_decide.2 eq_comm
theorem ok_turn (c : Change) : changeOk (turnC c) = changeOk c := by
 unfold changeOk
 rw [same_turn]
 unfold turnC
 dsimp only
 cases wordOk c.Id <;> cases sideOk c.Id c.Had c.Was <;> cases sideOk c.Id c.Has c.Now <;> rfl
theorem ids_turn (d : List Change) : idsC (d.map turnC) = idsC d := by unfold idsC; rw [List.map_map]; rfl
theorem nth_map {α β : Type} [Inhabited α] [Inhabited β] (f : α → β) (l : List α) {k : Nat} (h : k < l.length) : nth (l.map f) (k : Int) = f (nth l (k : Int)) := by
 unfold nth
 simp [h]
theorem diff_turn (d : List Change) : diffOk (d.map turnC) = diffOk d := by
 unfold diffOk
 rw [List.length_map]
 congr 1
 refine allN_congr fun j hj => ?_
 rw [nth_map _ _ hj, ok_turn]
 by_cases h0 : j = 0
 ·rw [decide_eq_true h0, Bool.true_or, Bool.true_or]
 ·have e : ((j : Int) - 1) = ((j - 1 : Nat) : Int) := by omega
  rw [e, nth_map _ _ OM]; rfl
theorem turnD_is {d : List Change} (h : diffOk d = true) : turnD d = d.map turnC := by unfold turnD; rw [h]; rfl
theorem cs_turn {d : List Change} (h : CS d) : CS (d.map turnC) := List.pairwise_map.2 h
theorem atC_neg {d : List Change} {id : Str} : atC d id < 0 ↔ id ∉ idsC d := ⟨atC_miss, fun h => by
 by_cases g : atC d id < 0
 ·exact g
 ·exact absurd (atC_mem g) h⟩
theorem idsC_in {d : List Change} {c : Change} (h : c ∈ d) : c.Id ∈ idsC d := List.mem_map.2 ⟨c, h, rfl⟩
theorem idsC_ex {d : List Change} {i : Str} (h : i ∈ idsC d) : ∃ c ∈ d, c.Id = i := List.mem_map.1 h
theorem compC_l {a b : List Change} (ha : CS a) {c : Change} (hc : c ∈ a) (hb : c.Id ∉ idsC b) : compC a b c.Id = c := by
 unfold compC; rw [if_pos (atC_neg.2 hb)]; exact (atC_of ha hc).2
theorem compC_r {a b : List Change} (hb : CS b) {c : Change} (hc : c ∈ b) (ha : c.Id ∉ idsC a) : compC a b c.Id = c := by
 unfold compC; rw [if_neg (atC_of hb hc).1, if_pos (atC_neg.2 ha)]; exact (atC_of hb hc).2
theorem compC_b {a b : List Change} (ha : CS a) (hb : CS b) {c e : Change} (hc : c ∈ a) (he : e ∈ b) (h : e.Id = c.Id) : compC a b c.Id = ⟨c.Id, c.Had, c.Was, e.Has, e.Now⟩ := by
 obtain ⟨h1, h2⟩ := atC_of ha hc
 obtain ⟨h3, h4⟩ := atC_of hb he
 rw [h] at h3 h4
 unfold compC; rw [if_neg h3, if_neg h1, h2, h4]
theorem clash_b {a b : List Change} (ha : CS a) (hb : CS b) {c e : Change} (hc : c ∈ a) (he : e ∈ b) (h : e.Id = c.Id) : clashAt a b c.Id = (c.Has != e.Had || !(decide (c.Now = e.Was))) := by
 obtain ⟨h1, h2⟩ := atC_of ha hc
 obtain ⟨h3, h4⟩ := atC_of hb he
 rw [h] at h3 h4
 unfold clashAt; rw [decide_eq_true h1, decide_eq_true h3, h2, h4]; rfl
theorem clash_n {a b : List Change} {i : Str} (h : i ∉ idsC a ∨ i ∉ idsC b) : clashAt a b i = false := by
 unfold clashAt
 rcases h with h | h
 ·rw [decide_eq_false (not_not_intro (atC_neg.2 h))]; rfl
 ·rw [decide_eq_false (not_not_intro (atC_neg.2 h)), Bool.and_false]; rfl
theorem comp_cases {a b : List Change} (ha : CS a) (hb : CS b) {P : Str → Change → Bool → Prop} {i : Str} (hi : i ∈ idsC a ∨ i ∈ idsC b)
  (h1 : ∀ c ∈ a, c.Id = i → i ∉ idsC b → P i c false) (h2 : ∀ e ∈ b, e.Id = i → i ∉ idsC a → P i e false)
  (h3 : ∀ c ∈ a, ∀ e ∈ b, c.Id = i → e.Id = i → P i ⟨i, c.Had, c.Was, e.Has, e.Now⟩ (c.Has != e.Had || !(decide (c.Now = e.Was)))) : P i (compC a b i) (clashAt a b i) := by
 by_cases ka : i ∈ idsC a
 ·obtain ⟨c, hc, rfl⟩ := idsC_ex ka
  by_cases kb : c.Id ∈ idsC b
  ·obtain ⟨e, he, hh⟩ := idsC_ex kb
   rw [compC_b ha hb hc he hh, clash_b ha hb hc he hh]; exact h3 c hc e he rfl hh
  ·rw [compC_l ha hc kb, clash_n (.inr kb)]; exact h1 c hc rfl kb
 ·obtain ⟨e, he, rfl⟩ := idsC_ex (hi.resolve_left ka)
  rw [compC_r hb he ka, clash_n (.inl ka)]; exact h2 e he rfl ka
theorem thenR_ok {a b : List Change} (h : thenOk a b = true) : diffOk (thenR a b) = true := by
 have h' := h
 unfold thenOk at h'
 simp only [Bool.and_eq_true] at h'
 unfold thenR; rw [h, if_pos rfl]; exact h'.2
theorem then_undo {a : List Change} (h : diffOk a = true) : thenOk a (turnD a) = true ∧ thenR a (turnD a) = [] := by
 have ca := (diff_cs h).1
 have key : ∀ i, i ∈ idsC a → sameC (compC a (a.map turnC) i) = true ∧ clashAt a (a.map turnC) i = false := fun i hi => by
  refine comp_cases (P := fun _ x k => sameC x = true ∧ k = false) ca (cs_turn ca) (.inl hi) ?_ ?_ ?_
  ·rintro c hc rfl kb
   rw [ids_turn] at kb; exact absurd (idsC_in hc) kb
  ·rintro e he rfl ka
   have := idsC_in he
   rw [ids_turn] at this; exact absurd this ka
  ·rintro c hc e he rfl hh
   obtain ⟨c', hc', rfl⟩ := List.mem_map.1 he
   obtain rfl := ca.inj hc hc' hh.symm
   constructor
   ·unfold sameC turnC; simp
   ·unfold turnC; simp
 have hm : ∀ i ∈ uniq (idsC a ++ idsC (a.map turnC)), i ∈ idsC a := fun i hi => by
  have := uniqC_mem.1 hi
  rw [ids_turn] at this; exact this.elim id id
 have e1 : thenOut a (a.map turnC) = [] := by
  refine List.eq_nil_iff_forall_not_mem.2 fun x hx => ?_
  obtain ⟨⟨i, hi, rfl⟩, h2⟩ := thenL_mem.1 hx
  rw [(key i (hm i hi)).1] at h2; cases h2
 have e2 : (uniq (idsC a ++ idsC (a.map turnC))).any (clashAt a (a.map turnC)) = false := by
  rw [List.any_eq_false]
  intro i hi
  rw [(key i (hm i hi)).2]; decide
 have e3 : thenOk a (a.map turnC) = true := by
  unfold thenOk; rw [h, diff_turn, h, e1, e2]; decide
 rw [turnD_is h]
 exact ⟨e3, by unfold thenR; rw [e3, if_pos rfl, e1]⟩
structure MInv (o a b : List Pt) (xs : List Pt) (i j k t : Nat) : Prop where
 hi : i ≤ t
 ht : t ≤ o.length
 hj : j ≤ a.length
 hk : k ≤ b.length
 fj : From (part o a) t j
 fk : From (part o b) t k
 len : xs.length ≤ j + k
 eq : (mloop o a b (part o a) (part o b) (o.length - t) t i j k).map (xs ++ ·) = smerge o a b
theorem MInv.zero {o a b : List Pt} (h1 : few o a = true) (h2 : few o b = true) : MInv o a b [] 0 0 0 0 :=
 ⟨Nat.le_refl _, Nat.zero_le _, Nat.zero_le _, Nat.zero_le _, From.zero _ _, From.zero _ _, Nat.le_refl _, by rw [smerge_few h1 h2, Nat.sub_zero]; cases mloop o a b (part o a) (part o b) o.length 0 0 0 0 <;> rfl⟩
theorem MInv.skip {o a b xs : List Pt} {i j k t : Nat} (h : MInv o a b xs i j k t) (ht : t < o.length) (hn : part o a t = none ∨ part o b t = none) : MInv o a b xs i j k (t + 1) :=
 ⟨by have := h.hi; omega, ht, h.hj, h.hk, h.fj.skip, h.fk.skip, h.len, by
  have := h.eq
  rw [show o.length - t = (o.length - (t + 1)) + 1 by omega, mloop_none hn] at this
  exact this⟩
theorem MInv.step {o a b xs : List Pt} {i j k t x y : Nat} (h : MInv o a b xs i j k t) (ht : t < o.length) (hx : part o a t = some x) (hy : part o b t = some y) {p : List Pt} (hp : pickL (seg o i t) (seg a j x) (seg b k y) = some p) : MInv o a b (xs ++ p ++ [nth o (t : Int)]) (t + 1) (x + 1) (y + 1) (t + 1) := by
 have h1 := (part_mates o a).lt hx
 have h2 := (part_mates o b).lt hy
 refine ⟨Nat.le_refl _, ht, h1.2, h2.2, .step (part_mates o a) hx, .step (part_mates o b) hy, ?_, ?_⟩
 ·have := (pickL_mem hp).2.2.2
  rw [seg_len a _ _ OM, seg_len b _ _ OM] at this
  have h3 := h.fj t x (Nat.le_refl _) hx
  have h4 := h.fk t y (Nat.le_refl _) hy
  have h5 := h.len
  simp only [List.length_append, List.length_singleton]; omega
 ·have := h.eq
  rw [show o.length - t = (o.length - (t + 1)) + 1 by omega, mloop_some hx hy, hp, Option.bind_some, Option.map_map] at this
  rw [← this]
  congr 1
  funext r
  simp
theorem MInv.from {o a b xs : List Pt} {i j k t x y : Nat} (h : MInv o a b xs i j k t) (hx : part o a t = some x) (hy : part o b t = some y) : j ≤ x ∧ x < a.length ∧ k ≤ y ∧ y < b.length :=
 ⟨h.fj t x (Nat.le_refl _) hx, ((part_mates o a).lt hx).2, h.fk t y (Nat.le_refl _) hy, ((part_mates o b).lt hy).2⟩
def keysT (t : List Tag) : List Str := t.map (·.Key)
theorem keys_app (s t : List Tag) : keysT (s ++ t) = keysT s ++ keysT t := List.map_append
theorem feat_facts {f : Feat} (h : featOk f = true) : f.Tags.length ≤ 4 ∧ shapeOk f.Shape = true ∧ f.Shape.Pts.length ≤ 6 ∧ f.Id.length ≤ 6 ∧ ∀ t ∈ f.Tags, t.Key.length ≤ 6 ∧ t.Val.length ≤ 6 := by
 have hb := (feat_small h).2
 unfold featOk at h
 simp only [Bool.and_eq_true, decide_eq_true_eq] at h
 obtain ⟨⟨⟨h1, h2⟩, h3⟩, h4⟩ := h
 refine ⟨h2, h4, ?_, hb, fun t hm => ?_⟩
 ·unfold shapeOk kindOk at h4
  simp only [Bool.and_eq_true] at h4
  have := h4.2
  split at this
  ·simp only [decide_eq_true_eq] at this; omega
  ·split at this
   ·simp only [Bool.and_eq_true, decide_eq_true_eq] at this; omega
   ·split at this
    ·simp only [Bool.and_eq_true, decide_eq_true_eq] at this; omega
    ·cases this
 ·unfold tagsOk at h1
  obtain ⟨k, hk, rfl⟩ := List.getElem_of_mem hm
  have := allN_iff.1 h1 k hk
  rw [nth_nat _ hk] at this
  simp only [Bool.and_eq_true] at this
  exact ⟨word_len this.1.1, word_len this.1.2⟩
theorem shape_pts {s : Shape} (h : shapeOk s = true) : s.Pts.length ≤ 6 := by
 unfold shapeOk kindOk at h
 simp only [Bool.and_eq_true] at h
 have := h.2
 split at this
 ·simp only [decide_eq_true_eq] at this; omega
 ·split at this
  ·simp only [Bool.and_eq_true, decide_eq_true_eq] at this; omega
  ·split at this
   ·simp only [Bool.and_eq_true, decide_eq_true_eq] at this; omega
   ·cases this
theorem sideOf_hit {s : List Feat} {id : Str} (h : (sideOf s id).2 = true) : (sideOf s id).1 ∈ s ∧ (sideOf s id).1.Id = id := by
 unfold sideOf at h ⊢
 split at h
 ·cases h
 ·rename_i g
  rw [if_neg g]
  have h1 := findN_le s.length fun j => (nth s (j : Int)).Id == id
  obtain ⟨k, hk⟩ : ∃ k : Nat, findN s.length (fun j => (nth s (j : Int)).Id == id) = (k : Int) := ⟨_, (Int.toNat_of_nonneg OM).symm⟩
  obtain ⟨h2, h3⟩ := findN_true hk
  rw [hk]
  exact ⟨nth_mem s h2, by simpa using h3⟩
theorem sideOf_no {s : List Feat} {id : Str} (h : (sideOf s id).2 = false) : (sideOf s id).1 = zeroF ∧ id ∉ ids s := by
 unfold sideOf at h ⊢
 split at h
 ·rename_i g
  rw [if_pos g]
  refine ⟨rfl, fun hm => ?_⟩
  obtain ⟨f, hf, rfl⟩ := List.mem_map.1 hm
  obtain ⟨k, hk, rfl⟩ := List.getElem_of_mem hf
  have := findN_neg g k hk
  rw [nth_nat s hk] at this
  simp at this
 ·cases h
theorem sideOf_iff {s : List Feat} {id : Str} : (sideOf s id).2 = true ↔ id ∈ ids s := by
 constructor
 ·intro h
  obtain ⟨h1, h2⟩ := sideOf_hit h
  exact List.mem_map.2 ⟨_, h1, h2⟩
 ·intro h
  cases g : (sideOf s id).2 with
  | true => rfl
  | false => exact absurd h (sideOf_no g).2
def FS (l : List Feat) : Prop := l.Pairwise fun x y => Op.bytesLess x.Id y.Id = true
theorem FS.ext {l m : List Feat} (hl : FS l) (hm : FS m) (h : ∀ x, x ∈ l ↔ x ∈ m) : l = m :=
 pw_ext (R := fun x y : Feat => Op.bytesLess x.Id y.Id = true) (fun x e => by rw [less_irr] at e; cases e) (fun x y z h1 h2 => less_trans h1 h2) hl hm h
theorem FS.of_ids {l : List Feat} (h : SS (ids l)) : FS l := List.pairwise_map.1 h
theorem FS.inj {d : List Feat} (h : FS d) {x y : Feat} (hx : x ∈ d) (hy : y ∈ d) (e : x.Id = y.Id) : x = y := by
 obtain ⟨i, hi, rfl⟩ := List.getElem_of_mem hx
 obtain ⟨j, hj, rfl⟩ := List.getElem_of_mem hy
 rcases Nat.lt_trichotomy i j with g | g | g
 ·have := List.pairwise_iff_getElem.1 h i j hi hj g
  rw [e, less_irr] at this; cases this
 ·subst g; rfl
 ·have := List.pairwise_iff_getElem.1 h j i hj hi g
  rw [e, less_irr] at this; cases this
theorem sheet_fs {s : List Feat} (h : sheetOk s = true) : FS s := FS.of_ids (sheet_ss h).1
theorem sideOf_of {s : List Feat} (h : FS s) {f : Feat} (hf : f ∈ s) : sideOf s f.Id = (f, true) := by
 have h1 : (sideOf s f.Id).2 = true := sideOf_iff.2 (List.mem_map.2 ⟨f, hf, rfl⟩)
 obtain ⟨h2, h3⟩ := sideOf_hit h1
 have := h.inj h2 hf h3
 exact Prod.ext this h1
def fits (s : List Feat) (c : Change) : Bool := decide ((sideOf s c.Id).2 = c.Had) && decide ((sideOf s c.Id).1 = c.Was)
def doAt (s : List Feat) (d : List Change) (id : Str) : Option Feat :=
 if atC d id < 0 then (if (sideOf s id).2 then some (sideOf s id).1 else none) else (if (nth d (atC d id)).Has then some (nth d (atC d id)).Now else none)
def doL (s : List Feat) (d : List Change) : List Feat := (uniq (ids s ++ idsC d)).filterMap (doAt s d)
def diffDo (s : List Feat) (d : List Change) : List Feat × Bool := if sheetOk s && diffOk d && d.all (fits s) && sheetOk (doL s d) then (doL s d, true) else ([], false)
theorem now_id {d : List Change} (hd : ∀ c ∈ d, changeOk c = true) {c : Change} (hc : c ∈ d) (h : c.Has = true) : c.Now.Id = c.Id ∧ featOk c.Now = true := by
 have := hd c hc
 unfold changeOk at this
 simp only [Bool.and_eq_true] at this
 have h3 := this.1.2
 unfold sideOk at h3
 rw [h, if_pos rfl] at h3
 simp only [Bool.and_eq_true, decide_eq_true_eq] at h3
 exact ⟨h3.2, h3.1⟩
theorem doAt_id {s : List Feat} {d : List Change} (hd : ∀ c ∈ d, changeOk c = true) {id : Str} {f : Feat} (h : doAt s d id = some f) : f.Id = id := by
 unfold doAt at h
 split at h
 ·split at h
  ·rename_i g
   cases h
   exact (sideOf_hit g).2
  ·cases h
 ·rename_i g
  split at h
  ·rename_i k
   cases h
   obtain ⟨h1, h2⟩ := atC_hit g
   rw [(now_id hd h1 k).1, h2]
  ·cases h
theorem doL_fs (s : List Feat) {d : List Change} (hd : ∀ c ∈ d, changeOk c = true) : FS (doL s d) := by
 unfold FS doL
 refine List.Pairwise.filterMap _ (fun x y hxy f hf g hg => ?_) (uniq_ss (ids s ++ idsC d))
 rw [doAt_id hd hf, doAt_id hd hg]; exact hxy
def Mem (s : List Feat) (d : List Change) (f : Feat) : Prop := (f ∈ s ∧ f.Id ∉ idsC d) ∨ ∃ c ∈ d, c.Has = true ∧ c.Now = f
theorem doL_mem {s : List Feat} {d : List Change} (hs : FS s) (hc : CS d) (hd : ∀ c ∈ d, changeOk c = true) (f : Feat) : f ∈ doL s d ↔ Mem s d f := by
 unfold doL Mem
 rw [List.mem_filterMap]
 constructor
 ·rintro ⟨id, _, h⟩
  have hid := doAt_id hd h
  unfold doAt at h
  split at h
  ·rename_i g
   split at h
   ·rename_i k
    cases h
    obtain ⟨k1, k2⟩ := sideOf_hit k
    exact .inl ⟨k1, by rw [k2]; exact atC_miss g⟩
   ·cases h
  ·rename_i g
   split at h
   ·rename_i k
    cases h
    exact .inr ⟨_, (atC_hit g).1, k, rfl⟩
   ·cases h
 ·rintro (⟨h1, h2⟩ | ⟨c, h1, h2, rfl⟩)
  ·refine ⟨f.Id, uniq_mem.2 (List.mem_append.2 (.inl (List.mem_map.2 ⟨f, h1, rfl⟩))), ?_⟩
   unfold doAt
   rw [if_pos (by
    apply Classical.byContradiction
    intro g
    exact h2 (atC_mem g)), sideOf_of hs h1, if_pos rfl]
  ·have hid := (now_id hd h1 h2).1
   obtain ⟨g1, g2⟩ := atC_of hc h1
   refine ⟨c.Id, uniq_mem.2 (List.mem_append.2 (.inr (List.mem_map.2 ⟨c, h1, rfl⟩))), ?_⟩
   unfold doAt
   rw [if_neg g1, g2, if_pos h2]
theorem Mem.step {s : List Feat} {d : List Change} {u : Nat} (hu : u < d.length) (hc : CS d) (hd : ∀ c ∈ d, changeOk c = true) (f : Feat) :
  Mem s (d.take (u + 1)) f ↔ (Mem s (d.take u) f ∧ f.Id ≠ (nth d (u : Int)).Id) ∨ ((nth d (u : Int)).Has = true ∧ f = (nth d (u : Int)).Now) := by
 have e : idsC (d.take (u + 1)) = idsC (d.take u) ++ [(nth d (u : Int)).Id] := by rw [take_nth d hu, idsC_app]; rfl
 have hm : nth d (u : Int) ∈ d := nth_mem d hu
 have hlt : ∀ c ∈ d.take u, Op.bytesLess c.Id (nth d (u : Int)).Id = true := fun c hc' => by
  have h := hc
  rw [← List.take_append_drop u d] at h
  refine (List.pairwise_append.1 h).2.2 c hc' _ ?_
  rw [nth_nat d hu, List.drop_eq_getElem_cons hu]; exact List.mem_cons_self
 unfold Mem
 rw [e, take_nth d hu]
 constructor
 ·rintro (⟨h1, h2⟩ | ⟨c, h1, h2, rfl⟩)
  ·rw [List.mem_append, List.mem_singleton] at h2
   exact .inl ⟨.inl ⟨h1, fun h => h2 (.inl h)⟩, fun h => h2 (.inr h)⟩
  ·rcases List.mem_append.1 h1 with h1 | h1
   ·refine .inl ⟨.inr ⟨c, h1, h2, rfl⟩, fun h => ?_⟩
    rw [(now_id hd (List.mem_of_mem_take h1) h2).1] at h
    have := hlt c h1
    rw [h, less_irr] at this; cases this
   ·rw [List.mem_singleton] at h1
    subst h1
    exact .inr ⟨h2, rfl⟩
 ·rintro (⟨h1 | ⟨c, h1, h2, rfl⟩, h3⟩ | ⟨h1, rfl⟩)
  ·refine .inl ⟨h1.1, fun h => ?_⟩
   rcases List.mem_append.1 h with h | h
   ·exact h1.2 h
   ·exact h3 (List.mem_singleton.1 h)
  ·exact .inr ⟨c, List.mem_append_left _ h1, h2, rfl⟩
  ·exact .inr ⟨_, List.mem_append_right _ (List.mem_singleton.2 rfl), h1, rfl⟩
theorem Mem.zero (s : List Feat) (d : List Change) (f : Feat) : Mem s (d.take 0) f ↔ f ∈ s := by
 unfold Mem
 simp [idsC]
theorem doL_len {s : List Feat} {d : List Change} (hs : sheetOk s = true) (hd : diffOk d = true) : (doL s d).length ≤ 24 := by
 unfold doL
 have h1 := List.length_filterMap_le (doAt s d) (uniq (ids s ++ idsC d))
 have h2 := uniq_len (ids s ++ idsC d)
 have h3 : (ids s ++ idsC d).length = s.length + d.length := by unfold ids idsC; simp
 have := (sheet_ss hs).2.1; have := (diff_cs hd).2.1
 omega
theorem doL_ok {s : List Feat} {d : List Change} (hs : sheetOk s = true) (hd : diffOk d = true) : ∀ f ∈ doL s d, featOk f = true := fun f hf => by
 rcases (doL_mem (sheet_fs hs) (diff_cs hd).1 (diff_cs hd).2.2 f).1 hf with h | ⟨c, h1, h2, rfl⟩
 ·exact (sheet_ss hs).2.2 f h.1
 ·exact (now_id (diff_cs hd).2.2 h1 h2).2
theorem doL_small {s : List Feat} {d : List Change} (hs : sheetOk s = true) (hd : diffOk d = true) : bulk (doL s d) ≤ 3000 := by
 have h1 := bulk_small (doL s d) 100 fun f hf => (feat_small (doL_ok hs hd f hf)).1
 have h2 := doL_len hs hd
 have : (doL s d).length * (100 + 1) ≤ 24 * 101 := Nat.mul_le_mul h2 (Nat.le_refl _)
 omega
theorem diffDo_small (s : List Feat) (d : List Change) : bulk (diffDo s d).1 ≤ 3000 := by
 unfold diffDo
 split
 ·rename_i h
  simp only [Bool.and_eq_true] at h
  exact doL_small h.1.1.1 h.1.1.2
 ·exact Nat.zero_le _
theorem del_mem {xs : List Feat} (hn : (ids xs).Nodup) {k : Nat} (hk : k < xs.length) : (ids (xs.take k ++ xs.drop (k + 1))).Nodup ∧ (∀ f, f ∈ xs.take k ++ xs.drop (k + 1) ↔ f ∈ xs ∧ f.Id ≠ xs[k].Id) ∧ (xs.take k ++ xs.drop (k + 1)).length < xs.length := by
 have e : xs = xs.take k ++ xs[k] :: xs.drop (k + 1) := by rw [← List.drop_eq_getElem_cons hk, List.take_append_drop]
 have hn' := hn
 rw [e] at hn'
 unfold ids at hn' ⊢
 rw [List.map_append, List.map_cons] at hn'
 obtain ⟨n1, n2, n3⟩ := List.nodup_append.1 hn'
 obtain ⟨n4, n5⟩ := List.nodup_cons.1 n2
 refine ⟨?_, fun f => ?_, by simp only [List.length_append, List.length_take, List.length_drop]; omega⟩
 ·rw [List.map_append]
  exact List.nodup_append.2 ⟨n1, n5, fun a ha b hb => n3 a ha b (List.mem_cons_of_mem _ hb)⟩
 ·constructor
  ·intro hf
   rcases List.mem_append.1 hf with hf | hf
   ·exact ⟨List.mem_of_mem_take hf, fun h => n3 _ (List.mem_map.2 ⟨f, hf, rfl⟩) _ List.mem_cons_self h⟩
   ·exact ⟨List.mem_of_mem_drop hf, fun h => n4 (by rw [← h]; exact List.mem_map.2 ⟨f, hf, rfl⟩)⟩
  ·rintro ⟨hf, hne⟩
   rw [e] at hf
   rcases List.mem_append.1 hf with hf | hf
   ·exact List.mem_append_left _ hf
   ·rcases List.mem_cons.1 hf with rfl | hf
    ·exact absurd rfl hne
    ·exact List.mem_append_right _ hf
theorem tags_ss {t : List Tag} (h : tagsOk t = true) : SS (keysT t) := by
 have h1 := allN_iff.1 h
 have hadj : ∀ k, 0 < k → k < t.length → Op.bytesLess (nth t ((k : Int) - 1)).Key (nth t (k : Int)).Key = true := fun k h0 hk => by
  have := h1 k hk
  simp only [Bool.and_eq_true, Bool.or_eq_true, decide_eq_true_eq] at this
  rcases this.2 with h | h
  ·omega
  ·exact h
 unfold SS keysT
 rw [List.pairwise_map]
 refine List.pairwise_iff_getElem.2 fun i j hi hj hij => ?_
 have key : ∀ d, i + d + 1 < t.length → Op.bytesLess t[i].Key (nth t ((i + d + 1 : Nat) : Int)).Key = true := by
  intro d
  induction d with
  | zero =>
   intro hd
   have := hadj (i + 0 + 1) OM hd
   rw [show (((i + 0 + 1 : Nat) : Int) - 1) = (i : Int) by omega, nth_nat t hi] at this
   exact this
  | succ d ih =>
   intro hd
   have := hadj (i + (d + 1) + 1) OM hd
   rw [show (((i + (d + 1) + 1 : Nat) : Int) - 1) = ((i + d + 1 : Nat) : Int) by omega] at this
   exact less_trans (ih OM) this
 have := key (j - i - 1) OM
 rw [show i + (j - i - 1) + 1 = j by omega, nth_nat t hj] at this
 exact this
theorem featOk_tags {f : Feat} (h : featOk f = true) : SS (keysT f.Tags) := by
 unfold featOk at h
 simp only [Bool.and_eq_true] at h
 exact tags_ss h.1.1.1
theorem tagsOk_of {t : List Tag} (hs : SS (keysT t)) (hw : ∀ x ∈ t, wordOk x.Key = true ∧ wordOk x.Val = true) : tagsOk t = true := by
 unfold tagsOk
 refine allN_true fun k hk => ?_
 obtain ⟨h1, h2⟩ := hw _ (nth_mem t hk)
 rw [h1, h2, Bool.true_and, Bool.true_and, Bool.or_eq_true, decide_eq_true_eq]
 rcases Nat.eq_zero_or_pos k with h0 | h0
 ·exact .inl h0
 refine .inr ?_
 unfold SS keysT at hs
 have := List.pairwise_iff_getElem.1 (List.pairwise_map.1 hs) (k - 1) k OM hk OM
 rw [show ((k : Int) - 1) = ((k - 1 : Nat) : Int) by omega, nth_nat t hk, nth_nat t OM]
 exact this
theorem shape_pos {s : Shape} (h : shapeOk s = true) : 1 ≤ s.Pts.length := by
 unfold shapeOk kindOk at h
 simp only [Bool.and_eq_true] at h
 have := h.2
 split at this
 ·simp only [decide_eq_true_eq] at this; omega
 ·split at this
  ·simp only [Bool.and_eq_true, decide_eq_true_eq] at this; omega
  ·split at this
   ·simp only [Bool.and_eq_true, decide_eq_true_eq] at this; omega
   ·cases this
theorem dot_ok {x y : Int} (h1 : 0 ≤ x) (h2 : x ≤ 5) (h3 : 0 ≤ y) (h4 : y ≤ 5) : shapeOk ⟨1, [⟨x, y⟩]⟩ = true := by
 have e : ptOk (⟨x, y⟩ : Pt) = true := by
  unfold ptOk inR
  simp only [Bool.and_eq_true, decide_eq_true_eq]; omega
 unfold shapeOk ptsOk kindOk
 rw [Bool.and_eq_true]
 refine ⟨allN_true fun k hk => ?_, by rw [if_pos rfl]; rfl⟩
 have hk : k < 1 := hk
 obtain rfl : k = 0 := by omega
 rw [Bool.and_eq_true]
 exact ⟨e, rfl⟩
def NX (q : Pt) : Prop := q.X ≠ 71 ∧ q.X ≠ 72
theorem NX.of {x y : Int} (h : x ≤ 3) : NX ⟨x, y⟩ := ⟨by dsimp only; omega, by dsimp only; omega⟩
def keyL : List Str := [[110, 97, 109, 101], [107, 105, 110, 100], [117, 115, 101], [116, 111, 110, 101]]
def valL : List Str := [[97], [98], [111, 97, 107], [97, 115, 104], [114, 111, 97, 100]]
def idL : List Str := [[97], [98], [99], [100], [101]]
def DT (x : Tag) : Prop := x.Key ∈ keyL ∧ x.Val ∈ valL
theorem keyL_ok : ∀ k ∈ keyL, wordOk k = true := by decide
theorem valL_ok : ∀ k ∈ valL, wordOk k = true := by decide
theorem idL_ok : ∀ k ∈ idL, wordOk k = true := by decide
def plainK (k : Str) : Prop := k ≠ [97, 97, 97] ∧ k ≠ [122, 122, 122]
theorem keyL_plain : ∀ k ∈ keyL, plainK k := by
 intro k hk
 simp only [keyL, List.mem_cons, List.not_mem_nil, or_false] at hk
 unfold plainK
 rcases hk with rfl | rfl | rfl | rfl <;> decide
theorem feat_of {id : Str} {s : Shape} {t : List Tag} (h1 : wordOk id = true) (h2 : shapeOk s = true) (h3 : SS (keysT t)) (h4 : t.length ≤ 4) (h5 : ∀ x ∈ t, wordOk x.Key = true ∧ wordOk x.Val = true) : featOk ⟨id, s, t⟩ = true := by
 unfold featOk
 dsimp only
 rw [tagsOk_of h3 h5, h1, h2, decide_eq_true h4]; rfl
structure FB (n : Nat) (f : Feat) : Prop where
 id : f.Id.length ≤ 7
 pts : f.Shape.Pts.length ≤ 7
 len : f.Tags.length ≤ n
 wd : ∀ x ∈ f.Tags, x.Key.length ≤ 6 ∧ x.Val.length ≤ 6
theorem FB.small {n : Nat} {f : Feat} (h : FB n f) : bulk f ≤ 14 + 13 * n := by
 have e : bulk f = bulk f.Id + (0 + bulk f.Shape.Pts) + bulk f.Tags := rfl
 have e2 : bulk f.Id = f.Id.length := bulk_str _
 have e3 : bulk f.Shape.Pts = f.Shape.Pts.length := bulk_flat (fun _ => rfl) _
 have hs := bulk_small f.Tags 12 fun t ht => by
  have := h.wd t ht
  have e : bulk t = bulk t.Key + bulk t.Val := rfl
  rw [e, bulk_str, bulk_str]; omega
 have : f.Tags.length * (12 + 1) ≤ n * 13 := Nat.mul_le_mul h.len (Nat.le_refl _)
 have := h.id; have := h.pts
 omega
theorem FB.of {f : Feat} (h : featOk f = true) : FB 4 f := by
 have := feat_facts h
 exact ⟨OM, OM, this.1, this.2.2.2.2⟩
theorem FB.mono {n m : Nat} {f : Feat} (h : FB n f) (hm : n ≤ m) : FB m f := ⟨h.id, h.pts, Nat.le_trans h.len hm, h.wd⟩
theorem DT.len {x : Tag} (h : DT x) : x.Key.length ≤ 6 ∧ x.Val.length ≤ 6 := ⟨word_len (keyL_ok _ h.1), word_len (valL_ok _ h.2)⟩
theorem DT.ok {x : Tag} (h : DT x) : wordOk x.Key = true ∧ wordOk x.Val = true := ⟨keyL_ok _ h.1, valL_ok _ h.2⟩
structure MB (n m : Nat) (s : List Feat) : Prop where
 len : s.length ≤ n
 fb : ∀ f ∈ s, FB m f
theorem MB.small {n m : Nat} {s : List Feat} (h : MB n m s) : bulk s ≤ n * (15 + 13 * m) := by
 have hs := bulk_small s (14 + 13 * m) fun f hf => (h.fb f hf).small
 have : s.length * (14 + 13 * m + 1) ≤ n * (15 + 13 * m) := Nat.mul_le_mul h.len OM
 omega
theorem MB.of {s : List Feat} (h : sheetOk s = true) : MB 8 4 s := ⟨(sheet_ss h).2.1, fun f hf => FB.of ((sheet_ss h).2.2 f hf)⟩
theorem MB.mono {n n' m m' : Nat} {s : List Feat} (h : MB n m s) (h1 : n ≤ n') (h2 : m ≤ m') : MB n' m' s := ⟨Nat.le_trans h.len h1, fun f hf => (h.fb f hf).mono h2⟩
theorem sheet_of {s : List Feat} (h1 : SS (ids s)) (h2 : s.length ≤ 8) (h3 : ∀ f ∈ s, featOk f = true) : sheetOk s = true := by
 unfold sheetOk
 rw [Bool.and_eq_true]
 refine ⟨allN_true fun k hk => ?_, decide_eq_true h2⟩
 rw [Bool.and_eq_true, Bool.or_eq_true, decide_eq_true_eq]
 refine ⟨h3 _ (nth_mem s hk), ?_⟩
 rcases Nat.eq_zero_or_pos k with h0 | h0
 ·exact .inl h0
 refine .inr ?_
 unfold SS ids at h1
 have := List.pairwise_iff_getElem.1 (List.pairwise_map.1 h1) (k - 1) k OM hk OM
 rw [show ((k : Int) - 1) = ((k - 1 : Nat) : Int) by omega, nth_nat s hk, nth_nat s OM]
 exact this
def zzI : Str := [122, 122]
theorem idL_nz : ∀ k ∈ idL, k ≠ zzI := by
 intro k hk
 simp only [idL, List.mem_cons, List.not_mem_nil, or_false] at hk
 rcases hk with rfl | rfl | rfl | rfl | rfl <;> decide
structure MD (s : List Feat) : Prop where
 mb : MB 14 4 s
 nz : ∀ f ∈ s, f.Id ≠ zzI
theorem MD.small {s : List Feat} (h : MD s) : bulk s ≤ 1048576 := Nat.le_trans h.mb.small RD
theorem sideOf_eq {l m : List Feat} (hl : FS l) (hm : FS m) {i : Str} (h : ∀ f, f.Id = i → (f ∈ l ↔ f ∈ m)) : sideOf l i = sideOf m i := by
 cases g : (sideOf l i).2 with
 | true =>
  obtain ⟨h1, h2⟩ := sideOf_hit g
  have h3 := sideOf_of hm ((h _ h2).1 h1)
  rw [h2] at h3
  rw [h3]; exact Prod.ext rfl g
 | false =>
  obtain ⟨h1, h2⟩ := sideOf_no g
  have h3 : (sideOf m i).2 = false := by
   cases k : (sideOf m i).2 with
   | false => rfl
   | true =>
    obtain ⟨k1, k2⟩ := sideOf_hit k
    exact absurd (List.mem_map.2 ⟨_, (h _ k2).2 k1, k2⟩) h2
  exact Prod.ext (h1.trans (sideOf_no h3).1.symm) (g.trans h3.symm)
theorem idsC_mem {d : List Change} {i : Str} : i ∈ idsC d ↔ ∃ c ∈ d, c.Id = i := List.mem_map
theorem diffDo_of {s : List Feat} {d : List Change} (h : (diffDo s d).2 = true) : sheetOk s = true ∧ diffOk d = true ∧ (∀ c ∈ d, fits s c = true) ∧ sheetOk (doL s d) = true ∧ diffDo s d = (doL s d, true) := by
 unfold diffDo at h ⊢
 split at h
 ·rename_i g
  rw [if_pos g]
  simp only [Bool.and_eq_true, List.all_eq_true] at g
  exact ⟨g.1.1.1, g.1.1.2, g.1.2, g.2, rfl⟩
 ·cases h
theorem diffDo_yes {s : List Feat} {d : List Change} (h1 : sheetOk s = true) (h2 : diffOk d = true) (h3 : ∀ c ∈ d, fits s c = true) (h4 : sheetOk (doL s d) = true) : diffDo s d = (doL s d, true) := by
 unfold diffDo
 rw [h1, h2, h4, show d.all (fits s) = true from List.all_eq_true.2 h3]; rfl
def PutS (s : List Feat) (f : Feat) (u : Nat) (xs : List Feat) (done : Bool) : Prop :=
 u ≤ s.length ∧ SS (ids xs) ∧ (∀ x, x ∈ ids xs ↔ x ∈ ids (s.take u) ∨ (done = true ∧ x = f.Id)) ∧ (done = false → (∀ x ∈ ids (s.take u), Op.bytesLess x f.Id = true) ∧ xs = s.take u) ∧
  (done = true → ∀ y ∈ ids (s.drop u), Op.bytesLess f.Id y = true) ∧ xs.length ≤ u + 1 ∧ (∀ z ∈ xs, z ∈ s ∨ z = f)
theorem ss_snoc {l : List Str} {x : Str} (h : SS l) (hx : ∀ y ∈ l, Op.bytesLess y x = true) : SS (l ++ [x]) := by
 unfold SS
 rw [List.pairwise_append]
 exact ⟨h, List.pairwise_singleton _ _, fun a ha b hb => by rw [List.mem_singleton.1 hb]; exact hx a ha⟩
theorem ids_take {s : List Feat} {u : Nat} (hu : u < s.length) : ids (s.take (u + 1)) = ids (s.take u) ++ [(nth s (u : Int)).Id] := by rw [take_nth s hu, ids_app]; rfl
theorem ids_cut (s : List Feat) (u : Nat) : ids s = ids (s.take u) ++ ids (s.drop u) := by rw [← ids_app, List.take_append_drop]
theorem dropNth {s : List Feat} {u : Nat} (hu : u < s.length) : s.drop u = nth s (u : Int) :: s.drop (u + 1) := by rw [nth_nat s hu]; exact List.drop_eq_getElem_cons hu
theorem ss_lt {s : List Feat} (h : SS (ids s)) {u : Nat} (hu : u < s.length) : (∀ x ∈ ids (s.take u), Op.bytesLess x (nth s (u : Int)).Id = true) ∧ ∀ y ∈ ids (s.drop (u + 1)), Op.bytesLess (nth s (u : Int)).Id y = true := by
 have e := ids_cut s u
 rw [dropNth hu] at e
 have e2 : ids (nth s (u : Int) :: s.drop (u + 1)) = (nth s (u : Int)).Id :: ids (s.drop (u + 1)) := rfl
 rw [e2] at e
 rw [e] at h
 obtain ⟨h1, h2, h3⟩ := List.pairwise_append.1 h
 exact ⟨fun x hx => h3 x hx _ List.mem_cons_self, (List.pairwise_cons.1 h2).1⟩
theorem F127.law (s : List Feat) (f : Feat) (Q : List Feat → Prop) (hl : s.length ≤ 1048576) (hs : SS (ids s)) (hq : ∀ r, SS (ids r) → (∀ x, x ∈ ids r ↔ x ∈ ids s ∨ x = f.Id) → r.length ≤ s.length + 1 → (∀ z ∈ r, z ∈ s ∨ z = f) → Q r) : F127.E s f Q := by
 unfold F127.E
 refine ⟨fun xs done i => ∃ u : Nat, i = u ∧ PutS s f u xs done, fun _ _ i => (s.length - i).toNat, ⟨0, rfl, Nat.zero_le _, by simp [ids, SS], by simp [ids], fun _ => ⟨by simp [ids], by simp⟩, (fun h => by cases h), by simp, by simp⟩, ?_⟩
 rintro xs done _ ⟨u, rfl, hu, h1, h2, h3, h4, h5, h6⟩
 by_cases h : u < s.length
 ·rw [if_pos (by simpa using h)]
  obtain ⟨b1, b2⟩ := ss_lt hs h
  have hin : nth s (u : Int) ∈ s := nth_mem s h
  have hdr : ∀ y ∈ ids (s.drop u), y = (nth s (u : Int)).Id ∨ y ∈ ids (s.drop (u + 1)) := fun y hy => by rw [dropNth h] at hy; exact List.mem_cons.1 hy
  have hcur : (nth s (u : Int)).Id ∈ ids (s.drop u) := by rw [dropNth h]; exact List.mem_cons_self
  have hdr' : ∀ y ∈ ids (s.drop (u + 1)), y ∈ ids (s.drop u) := fun y hy => by rw [dropNth h]; exact List.mem_cons_of_mem _ hy
  have stay : ∀ d, d = done → Op.bytesLess (nth s (u : Int)).Id f.Id = true ∨ d = true → xs.length + 1 ≤ u + 1 + 1 → PutS s f (u + 1) (xs ++ [nth s (u : Int)]) d := fun d hd hor hlen => by
   subst hd
   refine ⟨h, ?_, fun x => ?_, fun hdn => ⟨fun x hx => ?_, ?_⟩, fun hdn y hy => h4 hdn y (hdr' y hy), by simp only [List.length_append, List.length_singleton]; omega, fun z hz => ?_⟩
   ·rw [ids_app]
    refine ss_snoc h1 fun y hy => ?_
    rcases (h2 y).1 hy with hy | ⟨hd, rfl⟩
    ·exact b1 y hy
    ·exact h4 hd _ hcur
   ·rw [ids_app, List.mem_append, h2, ids_take h, List.mem_append]
    constructor
    ·rintro ((hx | hx) | hx)
     ·exact .inl (.inl hx)
     ·exact .inr hx
     ·exact .inl (.inr hx)
    ·rintro ((hx | hx) | hx)
     ·exact .inl (.inl hx)
     ·exact .inr hx
     ·exact .inl (.inr hx)
   ·rw [ids_take h] at hx
    rcases List.mem_append.1 hx with hx | hx
    ·exact (h3 hdn).1 x hx
    ·rw [List.mem_singleton.1 hx]
     rcases hor with hor | hor
     ·exact hor
     ·rw [hdn] at hor; cases hor
   ·rw [(h3 hdn).2, ← take_nth s h]
   ·rcases List.mem_append.1 hz with hz | hz
    ·exact h6 z hz
    ·rw [List.mem_singleton.1 hz]; exact .inl hin
  cases done with
  | true =>
   rw [if_neg RD]
   have hlt := h4 rfl _ hcur
   have hne : (nth s (u : Int)).Id ≠ f.Id := fun e => by rw [e, less_irr] at hlt; cases hlt
   refine ⟨OM, ?_⟩
   rw [if_pos (by rw [bne_iff_ne]; exact hne)]
   exact ⟨OM, by simp only [List.length_cons, List.length_nil]; omega, OM, ⟨u + 1, OM, stay true rfl (.inr rfl) OM⟩, by dsimp only; omega⟩
  | false =>
   rw [if_pos RD]
   obtain ⟨c1, c2⟩ := h3 rfl
   have hxl : xs.length = u := by rw [c2, List.length_take]; omega
   refine ⟨OM, ?_⟩
   cases k : Op.bytesLess (nth s (u : Int)).Id f.Id with
   | true =>
    rw [if_neg RD]
    have hne : (nth s (u : Int)).Id ≠ f.Id := fun e => by rw [e, less_irr] at k; cases k
    refine ⟨OM, ?_⟩
    rw [if_pos (by rw [bne_iff_ne]; exact hne)]
    exact ⟨OM, by simp only [List.length_cons, List.length_nil]; omega, OM, ⟨u + 1, OM, stay false rfl (.inl k) OM⟩, by dsimp only; omega⟩
   | false =>
    rw [if_pos RD]
    have g1 : SS (ids (xs ++ [f])) := by
     rw [ids_app]
     refine ss_snoc h1 fun y hy => ?_
     rcases (h2 y).1 hy with hy | ⟨hd, _⟩
     ·exact c1 y hy
     ·cases hd
    refine ⟨by simp only [List.length_cons, List.length_nil]; omega, OM, ?_⟩
    by_cases hne : (nth s (u : Int)).Id = f.Id
    ·rw [if_neg (by rw [hne]; simp)]
     refine ⟨OM, ⟨u + 1, OM, h, g1, fun x => ?_, (fun hd => by cases hd), fun _ y hy => by rw [← hne]; exact b2 y hy, by simp only [List.length_append, List.length_singleton]; omega, fun z hz => ?_⟩, by dsimp only; omega⟩
     ·rw [ids_app, List.mem_append, h2, ids_take h, List.mem_append, hne]
      show _ ∨ x ∈ [f.Id] ↔ _
      rw [List.mem_singleton]
      constructor
      ·rintro ((hx | ⟨hd, _⟩) | hx)
       ·exact .inl (.inl hx)
       ·cases hd
       ·exact .inr ⟨rfl, hx⟩
      ·rintro ((hx | hx) | ⟨_, hx⟩)
       ·exact .inl (.inl hx)
       ·exact .inr hx
       ·exact .inr hx
     ·rcases List.mem_append.1 hz with hz | hz
      ·exact h6 z hz
      ·exact .inr (List.mem_singleton.1 hz)
    ·rw [if_pos (by rw [bne_iff_ne]; exact hne)]
     have hlt : Op.bytesLess f.Id (nth s (u : Int)).Id = true := by
      rcases less_or k with g | g
      ·exact g
      ·exact absurd g.symm hne
     refine ⟨OM, by simp only [List.length_append, List.length_cons, List.length_nil]; omega, OM, ⟨u + 1, OM, h, ?_, fun x => ?_, (fun hd => by cases hd), fun _ y hy => less_trans hlt (b2 y hy), by simp only [List.length_append, List.length_singleton]; omega, fun z hz => ?_⟩, by dsimp only; omega⟩
     ·rw [ids_app]
      refine ss_snoc g1 fun y hy => ?_
      rw [ids_app] at hy
      rcases List.mem_append.1 hy with hy | hy
      ·rcases (h2 y).1 hy with hy | ⟨hd, _⟩
       ·exact b1 y hy
       ·cases hd
      ·have hy : y = f.Id := List.mem_singleton.1 hy
       rw [hy]; exact hlt
     ·rw [ids_app, ids_app, List.mem_append, List.mem_append, h2, ids_take h, List.mem_append]
      show (_ ∨ x ∈ [f.Id]) ∨ x ∈ [(nth s (u : Int)).Id] ↔ _
      rw [List.mem_singleton, List.mem_singleton]
      constructor
      ·rintro (((hx | ⟨hd, _⟩) | hx) | hx)
       ·exact .inl (.inl hx)
       ·cases hd
       ·exact .inr ⟨rfl, hx⟩
       ·exact .inl (.inr hx)
      ·rintro ((hx | hx) | ⟨_, hx⟩)
       ·exact .inl (.inl (.inl hx))
       ·exact .inr hx
       ·exact .inl (.inr hx)
     ·rcases List.mem_append.1 hz with hz | hz
      ·rcases List.mem_append.1 hz with hz | hz
       ·exact h6 z hz
       ·exact .inr (List.mem_singleton.1 hz)
      ·rw [List.mem_singleton.1 hz]; exact .inl hin
 ·rw [if_neg (by simpa using h)]
  have : u = s.length := by omega
  subst this
  rw [List.take_length] at h2 h3
  cases done with
  | true =>
   rw [if_neg RD]
   exact hq xs h1 (fun x => by rw [h2]; simp) h5 h6
  | false =>
   rw [if_pos RD]
   obtain ⟨c1, c2⟩ := h3 rfl
   refine ⟨by simp only [List.length_cons, List.length_nil]; omega, hq _ ?_ (fun x => ?_) (by rw [c2]; simp) fun z hz => ?_⟩
   ·rw [ids_app]
    refine ss_snoc h1 fun y hy => ?_
    rcases (h2 y).1 hy with hy | ⟨hd, _⟩
    ·exact c1 y hy
    ·cases hd
   ·rw [ids_app, List.mem_append, h2]
    show _ ∨ x ∈ [f.Id] ↔ _
    rw [List.mem_singleton]; simp
   ·rcases List.mem_append.1 hz with hz | hz
    ·exact h6 z hz
    ·exact .inr (List.mem_singleton.1 hz)
theorem side_ext {l m : List Feat} (hl : FS l) (hm : FS m) (h : ∀ i, sideOf l i = sideOf m i) : l = m := by
 have key : ∀ {a b : List Feat}, FS a → FS b → (∀ i, sideOf a i = sideOf b i) → ∀ f ∈ a, f ∈ b := fun ha hb h f hf => by
  have h1 := sideOf_of ha hf
  rw [h f.Id] at h1
  have h2 := (sideOf_hit (show (sideOf _ f.Id).2 = true by rw [h1])).1
  rw [h1] at h2; exact h2
 exact FS.ext hl hm fun f => ⟨key hl hm h f, key hm hl (fun i => (h i).symm) f⟩
theorem sideOf_doL {s : List Feat} {d : List Change} (hs : FS s) (hd : CS d) (hc : ∀ c ∈ d, changeOk c = true) : (∀ c ∈ d, sideOf (doL s d) c.Id = (c.Now, c.Has)) ∧ ∀ i, i ∉ idsC d → sideOf (doL s d) i = sideOf s i := by
 have fs := doL_fs s hc
 constructor
 ·intro c hm
  cases h : c.Has with
  | true =>
   have e := sideOf_of fs ((doL_mem hs hd hc _).2 (.inr ⟨c, hm, h, rfl⟩))
   rw [(now_id hc hm h).1] at e; exact e
  | false =>
   have hn : c.Now = zeroF := by
    have := hc c hm
    unfold changeOk at this
    simp only [Bool.and_eq_true] at this
    have h3 := this.1.2
    unfold sideOk at h3
    rw [h, if_neg RD] at h3
    exact of_decide_eq_true h3
   have h2 : (sideOf (doL s d) c.Id).2 = false := by
    cases k : (sideOf (doL s d) c.Id).2 with
    | false => rfl
    | true =>
     obtain ⟨k1, k2⟩ := sideOf_hit k
     rcases (doL_mem hs hd hc _).1 k1 with ⟨_, g⟩ | ⟨x, g1, g2, g3⟩
     ·exact absurd (idsC_mem.2 ⟨c, hm, k2.symm⟩) g
     ·rw [← g3, (now_id hc g1 g2).1] at k2
      rw [hd.inj g1 hm k2, h] at g2; cases g2
   rw [hn]
   exact Prod.ext (sideOf_no h2).1 h2
 ·intro i hi
  refine sideOf_eq fs hs fun f e => ?_
  rw [doL_mem hs hd hc]
  unfold Mem
  constructor
  ·rintro (⟨g, _⟩ | ⟨x, g1, g2, rfl⟩)
   ·exact g
   ·rw [(now_id hc g1 g2).1] at e
    exact absurd (idsC_mem.2 ⟨x, g1, e⟩) hi
  ·intro g; exact .inl ⟨g, by rw [e]; exact hi⟩
theorem fits_side {s : List Feat} {c : Change} (h : fits s c = true) : sideOf s c.Id = (c.Was, c.Had) := by
 unfold fits at h
 simp only [Bool.and_eq_true, decide_eq_true_eq] at h
 exact Prod.ext h.2 h.1
theorem side_fits {s : List Feat} {c : Change} (h : sideOf s c.Id = (c.Was, c.Had)) : fits s c = true := by
 unfold fits; rw [h, decide_eq_true rfl, decide_eq_true rfl]; rfl
theorem comp_sides {s x y : List Feat} {a b : List Change} (ha : CS a) (hb : CS b)
  (a1 : ∀ c ∈ a, sideOf s c.Id = (c.Was, c.Had)) (a2 : ∀ c ∈ a, sideOf x c.Id = (c.Now, c.Has)) (a3 : ∀ i, i ∉ idsC a → sideOf x i = sideOf s i)
  (b1 : ∀ c ∈ b, sideOf x c.Id = (c.Was, c.Had)) (b2 : ∀ c ∈ b, sideOf y c.Id = (c.Now, c.Has)) (b3 : ∀ i, i ∉ idsC b → sideOf y i = sideOf x i)
  {i : Str} (hi : i ∈ idsC a ∨ i ∈ idsC b) : sideOf s i = ((compC a b i).Was, (compC a b i).Had) ∧ sideOf y i = ((compC a b i).Now, (compC a b i).Has) ∧ clashAt a b i = false := by
 refine comp_cases (P := fun i c k => sideOf s i = (c.Was, c.Had) ∧ sideOf y i = (c.Now, c.Has) ∧ k = false) ha hb hi ?_ ?_ ?_
 ·rintro c hc rfl kb
  exact ⟨a1 c hc, (b3 _ kb).trans (a2 c hc), rfl⟩
 ·rintro e he rfl ka
  exact ⟨(a3 _ ka).symm.trans (b1 e he), b2 e he, rfl⟩
 ·rintro c hc e he rfl hh
  have h1 := b1 e he
  have h2 := b2 e he
  rw [hh] at h1 h2
  rw [a2 c hc] at h1
  simp only [Prod.mk.injEq] at h1
  refine ⟨a1 c hc, h2, ?_⟩
  rw [h1.1, h1.2]; simp
theorem then_do {s : List Feat} {a b : List Change} (h : thenOk a b = true) (h1 : (diffDo s a).2 = true) (h2 : (diffDo (diffDo s a).1 b).2 = true) : diffDo s (thenR a b) = ((diffDo (diffDo s a).1 b).1, true) := by
 obtain ⟨ks, ka, fa, kx, e1⟩ := diffDo_of h1
 rw [e1] at h2 ⊢
 obtain ⟨_, kb, fb, ky, e2⟩ := diffDo_of h2
 rw [e2]
 obtain ⟨ca, _, oa⟩ := diff_cs ka
 obtain ⟨cb, _, ob⟩ := diff_cs kb
 obtain ⟨p1, p2⟩ := sideOf_doL (sheet_fs ks) ca oa
 obtain ⟨q1, q2⟩ := sideOf_doL (sheet_fs kx) cb ob
 have key : ∀ i, i ∈ idsC a ∨ i ∈ idsC b → _ := fun i hi => comp_sides (s := s) (x := doL s a) (y := doL (doL s a) b) ca cb (fun c hc => fits_side (fa c hc)) p1 p2 (fun c hc => fits_side (fb c hc)) q1 q2 hi
 have kr := thenR_ok h
 have er : thenR a b = thenOut a b := by unfold thenR; rw [h, if_pos rfl]
 obtain ⟨cr, _, orr⟩ := diff_cs kr
 have mem : ∀ c ∈ thenR a b, (c.Id ∈ idsC a ∨ c.Id ∈ idsC b) ∧ compC a b c.Id = c := fun c hc => by
  rw [er] at hc
  obtain ⟨⟨i, hi, rfl⟩, _⟩ := thenL_mem.1 hc
  have hu := uniqC_mem.1 hi
  rw [compC_id hu]; exact ⟨hu, rfl⟩
 obtain ⟨r1, r2⟩ := sideOf_doL (sheet_fs ks) cr orr
 have e : doL s (thenR a b) = doL (doL s a) b := side_ext (doL_fs s orr) (doL_fs _ ob) fun i => by
  by_cases hi : i ∈ idsC (thenR a b)
  ·obtain ⟨c, hc, rfl⟩ := idsC_ex hi
   obtain ⟨hu, hh⟩ := mem c hc
   have := (key _ hu).2.1
   rw [r1 c hc, this, hh]
  ·rw [r2 i hi]
   by_cases hu : i ∈ idsC a ∨ i ∈ idsC b
   ·obtain ⟨k1, k2, _⟩ := key i hu
    have hs : sameC (compC a b i) = true := by
     cases k : sameC (compC a b i) with
     | true => rfl
     | false =>
      refine absurd (idsC_in (c := compC a b i) ?_) (by rw [compC_id hu]; exact hi)
      rw [er]
      exact thenL_mem.2 ⟨⟨i, uniqC_mem.2 hu, rfl⟩, k⟩
    unfold sameC at hs
    simp only [Bool.and_eq_true, decide_eq_true_eq] at hs
    rw [k1, k2, hs.1, hs.2]
   ·rw [q2 i fun g => hu (.inr g), p2 i fun g => hu (.inl g)]
 have := diffDo_yes ks kr (fun c hc => side_fits (by
  obtain ⟨hu, hh⟩ := mem c hc
  have := (key _ hu).1
  rw [hh] at this; exact this)) (by rw [e]; exact ky)
 rw [e] at this; exact this
structure CB (c : Change) : Prop where
 id : c.Id.length ≤ 7
 was : FB 4 c.Was
 now : FB 4 c.Now
theorem CB.small {c : Change} (h : CB c) : bulk c ≤ 139 := by
 have e : bulk c = bulk c.Id + 0 + bulk c.Was + 0 + bulk c.Now := rfl
 have e2 : bulk c.Id = c.Id.length := bulk_str _
 have := h.id; have := h.was.small; have := h.now.small
 omega
theorem cb_bulk {d : List Change} (hl : d.length ≤ 17) (h : ∀ c ∈ d, CB c) : bulk d ≤ 1048576 := by
 have hs := bulk_small d 139 fun c hc => (h c hc).small
 have : d.length * (139 + 1) ≤ 17 * 140 := Nat.mul_le_mul hl (Nat.le_refl _)
 omega
theorem FB.zero : FB 4 zeroF := ⟨by decide, by decide, by decide, fun x hx => (by cases hx)⟩
theorem sideOf_fb {s : List Feat} (h : sheetOk s = true) (i : Str) : FB 4 (sideOf s i).1 := by
 cases g : (sideOf s i).2 with
 | true => exact FB.of ((sheet_ss h).2.2 _ (sideOf_hit g).1)
 | false => rw [(sideOf_no g).1]; exact FB.zero
theorem diffL_cb {a b : List Feat} (ha : sheetOk a = true) (hb : sheetOk b = true) : (diffL a b (uniq (ids a ++ ids b))).length ≤ 16 ∧ ∀ c ∈ diffL a b (uniq (ids a ++ ids b)), CB c := by
 have la := (sheet_ss ha).2.1
 have lb := (sheet_ss hb).2.1
 have l1 := diffL_len a b (uniq (ids a ++ ids b))
 have l2 := uniq_len (ids a ++ ids b)
 have l3 : (ids a ++ ids b).length = a.length + b.length := by unfold ids; simp
 refine ⟨OM, fun c hc => ?_⟩
 unfold diffL at hc
 obtain ⟨hc, _⟩ := List.mem_filter.1 hc
 obtain ⟨x, hx, rfl⟩ := List.mem_map.1 hc
 have hl : x.length ≤ 6 := by
  rcases List.mem_append.1 (uniq_mem.1 hx) with hx | hx
  all_goals
   obtain ⟨f, hf, rfl⟩ := List.mem_map.1 hx
  ·exact (feat_small ((sheet_ss ha).2.2 f hf)).2
  ·exact (feat_small ((sheet_ss hb).2.2 f hf)).2
 exact ⟨Nat.le_trans hl RD, sideOf_fb ha x, sideOf_fb hb x⟩
theorem cb_set {d : List Change} {k : Nat} {c : Change} (h : ∀ c ∈ d, CB c) (hc : CB c) : ∀ x ∈ d.set k c, CB x := fun x hx => by
 rcases List.mem_or_eq_of_mem_set hx with g | rfl
 ·exact h x g
 ·exact hc
theorem F67.law (code : List UInt8) (Q : List UInt8 → Int → Prop) (hq : ∀ b, b.length ≤ 2000 → Q b 0) : F67.E code Q := by
 unfold F67.E
 by_cases h : (code.length : Int) > 2000
 ·rw [if_pos (by simpa using h)]
  exact ⟨OM, hq _ (by rw [List.length_take]; omega)⟩
 ·rw [if_neg (by simpa using h)]
  exact hq _ OM
theorem ediv_le {p l : Int} (hp : 0 ≤ p) (hl : 0 < l) : 0 ≤ p / l ∧ p / l ≤ p := ⟨Int.ediv_nonneg hp OM, Int.ediv_le_self _ hp⟩
theorem F22.law (b : List UInt8) (p n : Int) (Q : Int → Int → Prop) (hb : b.length ≤ 2000) (hp : 0 ≤ p) (hp1 : p ≤ 1099511627776) (hq : ∀ v, 0 ≤ v → (v < n ∨ v = 0) → Q v (p + 1)) : F22.E b p n Q := by
 unfold F22.E
 refine ⟨by unfold I64; omega, ?_⟩
 by_cases hn : n < 1
 ·rw [if_pos (by simpa using hn)]; exact hq 0 OM (.inr rfl)
 rw [if_neg (by simpa using hn)]
 by_cases hl : (b.length : Int) = 0
 ·rw [if_pos (by simpa using hl)]; exact hq 0 OM (.inr rfl)
 rw [if_neg (by simpa using hl)]
 refine ⟨fun _ => by unfold I64; omega, ?_⟩
 rw [show p + 1 - 1 = p by omega]
 have fin : ∀ z : Int, 0 ≤ z → Q (z % n) (p + 1) := fun z hz => hq _ (Int.emod_nonneg _ OM) (.inl (Int.emod_lt_of_pos _ OM))
 by_cases hc : p < (b.length : Int)
 ·rw [if_pos (by simpa using hc)]
  exact ⟨OM, ⟨OM, OM⟩, fin _ OM⟩
 rw [if_neg (by simpa using hc)]
 have hlen : (0 : Int) < (b.length : Int) := by omega
 generalize hL : (b.length : Int) = L at *
 have m1 := Int.emod_nonneg p (show L ≠ 0 by omega)
 have m2 := Int.emod_lt_of_pos p hlen
 have m3 := Int.emod_nonneg (p * 7 + 3) (show L ≠ 0 by omega)
 have m4 := Int.emod_lt_of_pos (p * 7 + 3) hlen
 obtain ⟨d1, d2⟩ := ediv_le hp hlen
 generalize p % L = r1 at *
 generalize (p * 7 + 3) % L = r2 at *
 generalize p / L = q at *
 have u1 := (nth b r1).toNat_lt
 have u2 := (nth b r2).toNat_lt
 generalize (nth b r1).toNat = x1 at *
 generalize (nth b r2).toNat = x2 at *
 have s0 : 0 ≤ (x1 : Int) * 131 + (x2 : Int) * 1117 + p * 29 + q * 53 := by omega
 have s1 : (x1 : Int) * 131 + (x2 : Int) * 1117 + p * 29 + q * 53 ≤ 9223372036854775807 := by omega
 refine ⟨OM, OM, fun _ => by unfold I64; omega, fun _ => by unfold I64; omega, fun _ => by unfold I64; omega, OM, OM, fun _ => by unfold I64; omega, fun _ => by unfold I64; omega, fun _ => by unfold I64; omega, fun _ => by unfold I64; omega, OM, fun _ => by unfold I64; omega, fun _ => by unfold I64; omega, OM, ?_⟩
 generalize (x1 : Int) * 131 + (x2 : Int) * 1117 + p * 29 + q * 53 = s at *
 have hx : 0 ≤ xor64 s (s / 64) := xor64_nonneg ⟨s0, s1⟩ OM
 exact ⟨OM, fin _ hx⟩
theorem F36.law (b : List UInt8) (p : Int) (l : List Int) (Q : Int → Int → Prop) (hb : b.length ≤ 2000) (hp : 0 ≤ p) (hp1 : p ≤ 1099511627776) (hl : 0 < l.length) (hq : ∀ s ∈ l, Q s (p + 1)) : F36.E b p l Q := by
 unfold F36.E
 exact F22.law _ _ _ _ hb hp hp1 fun v h0 h1 => ⟨OM, hq _ (nth_memi l h0 OM)⟩
theorem F138.law (b : List UInt8) (p : Int) (Q : Pt → Int → Prop) (hb : b.length ≤ 2000) (hp : 0 ≤ p) (hp1 : p ≤ 1000000000) (hq : ∀ x y, 0 ≤ x → x ≤ 3 → 0 ≤ y → y ≤ 5 → Q ⟨x, y⟩ (p + 2)) : F138.E b p Q := by
 unfold F138.E
 refine F22.law _ _ _ _ hb hp OM fun v h0 h1 => F36.law _ _ _ _ hb OM OM RD fun y hy => ?_
 rw [show p + 1 + 1 = p + 2 by omega]
 simp only [List.mem_cons, List.not_mem_nil, or_false] at hy
 exact hq _ _ h0 OM OM OM
theorem F121.m_is (a b : Int) : F121.m a b = min a b := by
 unfold F121.m
 by_cases h : a < b
 ·simp [h]; omega
 ·simp [h]; omega
theorem F122.m_is (n : Int) : F122.m n = inR n := by
 unfold F122.m inR
 by_cases h : -1000 ≤ n
 ·rw [if_pos (by rw [decide_eq_true_eq]; omega), decide_eq_true h, Bool.true_and]
 ·rw [if_neg (by rw [decide_eq_true_eq]; omega), decide_eq_false h, Bool.false_and]
theorem F123.law (p : List Pt) (Q : Bool → Prop) (hq : Q (ptsOk p && decide (p.length ≤ 6))) : F123.E p Q := by
 unfold F123.E
 unfold ptsOk at hq
 refine loop_all p.length (fun k => ptOk (nth p (k : Int)) && (decide (k = 0) || !(decide (nth p ((k : Int) - 1) = nth p (k : Int))))) (fun I mu k hk hp hn => ?_) (fun ha => ?_)
 ·refine ⟨OM, ?_⟩
  rw [F122.m_is, F122.m_is]
  have bad : (ptOk (nth p (k : Int)) && (decide (k = 0) || !(decide (nth p ((k : Int) - 1) = nth p (k : Int))))) = false → Q false := fun h => by
   rw [allN_false hk h, Bool.false_and] at hq; exact hq
  cases h1 : inR (nth p (k : Int)).X with
  | false => rw [if_pos RD]; exact bad (by simp only [ptOk, h1, Bool.false_and])
  | true =>
   rw [if_neg RD]
   refine ⟨OM, ?_⟩
   cases h2 : inR (nth p (k : Int)).Y with
   | false => rw [if_pos RD]; exact bad (by simp only [ptOk, h2, Bool.and_false, Bool.false_and])
   | true =>
    rw [if_neg RD]
    have hpt : ptOk (nth p (k : Int)) = true := by simp only [ptOk, h1, h2, Bool.and_self]
    by_cases hk0 : k = 0
    ·rw [if_neg (by rw [decide_eq_true_eq]; omega)]
     obtain ⟨i1, i2⟩ := hn (by rw [hpt, decide_eq_true hk0]; rfl)
     exact ⟨OM, i1, i2⟩
    ·rw [if_pos (by rw [decide_eq_true_eq]; omega)]
     refine ⟨OM, fun _ => by unfold I64; omega, OM, ?_⟩
     rw [eqPt_is]
     by_cases he : nth p ((k : Int) - 1) = nth p (k : Int)
     ·rw [if_pos (by rw [decide_eq_true_eq]; exact he.symm)]
      exact bad (by rw [hpt, decide_eq_false hk0, decide_eq_true he]; rfl)
     ·rw [if_neg (by rw [decide_eq_true_eq]; exact fun e => he e.symm)]
      obtain ⟨i1, i2⟩ := hn (by rw [hpt, decide_eq_false hk0, decide_eq_false he]; rfl)
      exact ⟨OM, i1, i2⟩
 ·rw [allN_true ha, Bool.true_and] at hq
  have e2 : decide ((p.length : Int) ≤ 6) = decide (p.length ≤ 6) := decide_eq_decide.2 OM
  rw [e2]; exact hq
theorem F68.law (s : Shape) (Q : Bool → Prop) (hq : Q (shapeOk s)) : F68.E s Q := by
 unfold F68.E
 unfold shapeOk at hq
 refine F123.law _ _ ?_
 cases h1 : ptsOk s.Pts with
 | false => rw [h1, Bool.false_and] at hq; rw [Bool.false_and, if_pos RD]; exact hq
 | true =>
  rw [h1, Bool.true_and] at hq
  rw [Bool.true_and]
  unfold kindOk at hq
  by_cases h6 : s.Pts.length ≤ 6
  ·rw [decide_eq_true h6, if_neg RD]
   by_cases k1 : s.Kind = 1
   ·rw [if_pos k1] at hq
    rw [if_pos (by rw [beq_iff_eq]; exact k1)]
    have : ((s.Pts.length : Int) == 1) = decide (s.Pts.length = 1) := by rw [Bool.eq_iff_iff, beq_iff_eq, decide_eq_true_eq]; omega
    rw [this]; exact hq
   rw [if_neg k1] at hq
   rw [if_neg (by rw [beq_iff_eq]; exact k1)]
   by_cases k2 : s.Kind = 2
   ·rw [if_pos k2, decide_eq_true h6, Bool.and_true] at hq
    rw [if_pos (by rw [beq_iff_eq]; exact k2)]
    have : decide ((s.Pts.length : Int) ≥ 2) = decide (2 ≤ s.Pts.length) := decide_eq_decide.2 OM
    rw [this]; exact hq
   rw [if_neg k2] at hq
   rw [if_neg (by rw [beq_iff_eq]; exact k2)]
   by_cases k3 : s.Kind = 3
   ·rw [if_pos k3, decide_eq_true h6, Bool.and_true] at hq
    rw [if_pos (by rw [beq_iff_eq]; exact k3)]
    by_cases h3 : 3 ≤ s.Pts.length
    ·rw [decide_eq_true h3, Bool.true_and] at hq
     rw [if_pos (by rw [decide_eq_true_eq]; omega), eqPt_is]
     exact ⟨OM, fun _ => by unfold I64; omega, OM, hq⟩
    ·rw [decide_eq_false h3, Bool.false_and] at hq
     rw [if_neg (by rw [decide_eq_true_eq]; omega)]; exact hq
   ·rw [if_neg k3] at hq
    rw [if_neg (by rw [beq_iff_eq]; exact k3)]; exact hq
  ·rw [decide_eq_false h6, if_pos RD]
   have : (if s.Kind = 1 then decide (s.Pts.length = 1) else if s.Kind = 2 then decide (2 ≤ s.Pts.length) && decide (s.Pts.length ≤ 6)
 else if s.Kind = 3 then decide (3 ≤ s.Pts.length) && decide (s.Pts.length ≤ 6) && !(decide (nth s.Pts 0 = nth s.Pts ((s.Pts.length : Int) - 1))) else false) = false := by
    rw [decide_eq_false h6, decide_eq_false (show ¬ s.Pts.length = 1 by omega)]
    simp
   rw [this] at hq; exact hq
theorem F69.law (b : List UInt8) (p : Int) (Q : Shape → Int → Prop) (hb : b.length ≤ 2000) (hp : 0 ≤ p) (hp1 : p ≤ 100000000) (hq : ∀ s p', shapeOk s = true → (∀ q ∈ s.Pts, NX q) → p ≤ p' → p' ≤ p + 40 → Q s p') : F69.E b p Q := by
 unfold F69.E
 refine F36.law _ _ _ _ hb hp OM RD fun k hk => F22.law _ _ _ _ hb OM OM fun v hv0 hv1 => ?_
 have hk' : 1 ≤ k ∧ k ≤ 3 := by
  simp only [List.mem_cons, List.not_mem_nil, or_false] at hk; omega
 have fin : ∀ (xs : List Pt) (z : Int), (∀ q ∈ xs, NX q) → p ≤ z → z ≤ p + 30 → F68.E ⟨k, xs⟩ (fun r6 => (if !r6 then F138.E b z (fun r7 m4 => Q (⟨1, ([r7] : List Pt)⟩ : Shape) m4) else Q (⟨k, xs⟩ : Shape) z)) := fun xs z hx h1 h2 => by
  refine F68.law _ _ ?_
  cases h : shapeOk ⟨k, xs⟩ with
  | true => rw [if_neg RD]; exact hq _ _ h hx h1 OM
  | false => rw [if_pos RD]; exact F138.law _ _ _ hb OM OM fun x y x0 x1 y0 y1 => hq _ _ (dot_ok x0 OM y0 y1) (fun q hq' => by rw [List.mem_singleton.1 hq']; exact .of x1) OM OM
 refine ⟨by unfold I64; omega, fun w => 1 ≤ w ∧ w ≤ 6, by split <;> omega, ?_⟩
 rintro want ⟨w1, w2⟩
 refine ⟨fun i xs z => 0 ≤ i ∧ i ≤ 12 ∧ (xs.length : Int) ≤ i ∧ (∀ q ∈ xs, NX q) ∧ p + 2 ≤ z ∧ z ≤ p + 2 + 2 * i, fun i _ _ => (12 - i).toNat, ⟨OM, OM, by simp, by simp, OM, OM⟩, ?_⟩
 rintro i xs z ⟨h0, h1, h2, hx, h3, h4⟩
 by_cases hi : i < 12
 case neg => rw [if_neg (by simpa using hi)]; exact fin _ _ hx OM OM
 rw [if_pos (by simpa using hi)]
 by_cases hl : (xs.length : Int) < F121.m want 6
 case neg => rw [if_neg (by simpa using hl)]; exact fin _ _ hx OM OM
 rw [if_pos (by simpa using hl)]
 refine F138.law _ _ _ hb OM OM fun x y x0 x1 y0 y1 => ⟨fun _ => True, ?_, fun v _ => ⟨fun ys => (ys.length : Int) ≤ i + 1 ∧ ∀ q ∈ ys, NX q, ?_, fun ys hys => ⟨by unfold I64; omega, ⟨OM, OM, hys.1, hys.2, OM, OM⟩, by dsimp only; omega⟩⟩⟩
 ·by_cases h0 : (xs.length : Int) = 0
  ·rw [if_pos (by simpa using h0)]; trivial
  ·rw [if_neg (by simpa using h0)]
   refine ⟨fun _ => by unfold I64; omega, OM, ?_⟩
   split
   ·split
    ·trivial
    ·exact ⟨OM, trivial⟩
   ·trivial
 ·cases v with
  | true => rw [if_pos rfl]; exact ⟨by simp only [List.length_cons, List.length_nil]; omega, by simp only [List.length_append, List.length_cons, List.length_nil]; omega, fun q hq' => (List.mem_append.1 hq').elim (hx q) fun g => by rw [List.mem_singleton.1 g]; exact .of x1⟩
  | false => rw [if_neg RD]; exact ⟨OM, hx⟩
theorem F44.law (b : List UInt8) (p : Int) (l : List Str) (Q : Str → Int → Prop) (hb : b.length ≤ 2000) (hp : 0 ≤ p) (hp1 : p ≤ 1099511627776) (hl : 0 < l.length) (hq : ∀ s ∈ l, Q s (p + 1)) : F44.E b p l Q := by
 unfold F44.E
 exact F22.law _ _ _ _ hb hp hp1 fun v h0 h1 => ⟨OM, hq _ (nth_memi l h0 OM)⟩
theorem F124.law (b : List UInt8) (p : Int) (Q : Str → Int → Prop) (hb : b.length ≤ 2000) (hp : 0 ≤ p) (hp1 : p ≤ 1000000000) (hq : ∀ k ∈ keyL, Q k (p + 1)) : F124.E b p Q := by
 unfold F124.E
 exact F44.law _ _ _ _ hb hp OM RD hq
theorem F125.law (b : List UInt8) (p : Int) (Q : Str → Int → Prop) (hb : b.length ≤ 2000) (hp : 0 ≤ p) (hp1 : p ≤ 1000000000) (hq : ∀ k ∈ valL, Q k (p + 1)) : F125.E b p Q := by
 unfold F125.E
 exact F44.law _ _ _ _ hb hp OM RD hq
end Go.Proofs.YtlaaehjcooonfaaGreatDoor