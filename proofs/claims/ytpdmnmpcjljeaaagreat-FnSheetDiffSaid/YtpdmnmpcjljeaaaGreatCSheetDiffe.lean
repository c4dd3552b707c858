/- It is proved here that the law FnSheetDiff of the given program holds whatever it is handed: the walks through the code, the plain laws and the row, in this order.
   Conditions: none. -/
import Derived.Below
import Derived.ChangeArms
import Derived.ChangeOld
import Derived.ChangeSlices
import Derived.DataReads
import Derived.Deep.MidRow
import Derived.Deep.Quiet
import Derived.Deep.RegionLaw
import Derived.Deep.Upon
import Derived.KernelRfl
import Derived.Laws.Build
import Derived.Laws.IdiomStrings
import Derived.Laws.OwnMore
import Derived.Laws.Slices
import Derived.Laws.Strings2
import Derived.Laws.StructEq
import Derived.Lib.SliceRun
import Derived.OpenShut
import Derived.ProofKit
import Derived.Shelf.SlSortCmp.NoneTotal
import Derived.Shelf.SlSortCmp.WholeK
import Derived.Shelf.Slices.Cells
import Derived.Shelf.Slices.CompactS
import Derived.Shelf.Slices.In.SortNone
import Derived.Shelf.Small.Bits
import Derived.Shelf.Sort.Plain
import Derived.Shelf.Strconv.Itoa0
import Derived.ShutString
import Derived.SizedLaws
import Derived.StillTail
import Derived.Test.YtpdmnmpcjljeaaaGreatProg
import Derived.Test.YtpdmnmpcjljeaaaGreatRows
import Derived.WalkKit
import Derived.Test.YtpdmnmpcjljeaaaGreatCSheetDiffa
import Derived.Test.YtpdmnmpcjljeaaaGreatCSheetDiffb
import Derived.Test.YtpdmnmpcjljeaaaGreatCSheetDiffc
import Derived.Test.YtpdmnmpcjljeaaaGreatCSheetDiffd
namespace Go.Proofs
open Go.Shelf
def Tryz.srt79_ren : Go.Shelf.Ren := ⟨fun | 6 => 79 | 15 => 101 | 14 => 118 | 28 => 132 | 29 => 133 | 20 => 150 | 21 => 151 | 22 => 152 | 23 => 153 | 24 => 154 | 25 => 155 | 26 => 156 | 27 => 157 | 46 => 172 | 47 => 160 | 48 => 161 | 49 => 173 | 50 => 174 | 57 => 179 | n => n, fun | 22 => 41 | 24 => 28 | 25 => 116 | 3 => 3 | 39 => 134 | 0 => 0 | 53 => 169 | 55 => 171 | 4 => 4 | 46 => 162 | 45 => 161 | 50 => 166 | 5 => 5 | 9 => 9 | 66 => 189 | 70 => 193 | 76 => 199 | 77 => 200 | n => n, fun | n => n⟩
theorem Tryz.srt79 : Go.Proofs.SlLaysF0.n6 Tryz.prog Tryz.srt79_ren := {
  mixed := by kernel_rfl
  f6 := ⟨ "slices.SortFunc[[]loop.example/townland/impl.Feat,loop.example/townland/impl.Feat]", by decide, Tryz.func79.trans (congrArg some (by kernel_rfl))⟩
  f14 := ⟨ "slices.pdqsortCmpFunc[loop.example/townland/impl.Feat]", by decide, Tryz.func118.trans (congrArg some (by kernel_rfl))⟩
  f15 := Tryz.func101.trans (congrArg some (by kernel_rfl))
  f20 := ⟨ "slices.insertionSortCmpFunc[loop.example/townland/impl.Feat]", by decide, Tryz.func150.trans (congrArg some (by kernel_rfl))⟩
  f21 := ⟨ "slices.heapSortCmpFunc[loop.example/townland/impl.Feat]", by decide, Tryz.func151.trans (congrArg some (by kernel_rfl))⟩
  f22 := ⟨ "slices.breakPatternsCmpFunc[loop.example/townland/impl.Feat]", by decide, Tryz.func152.trans (congrArg some (by kernel_rfl))⟩
  f23 := ⟨ "slices.choosePivotCmpFunc[loop.example/townland/impl.Feat]", by decide, Tryz.func153.trans (congrArg some (by kernel_rfl))⟩
  f24 := ⟨ "slices.reverseRangeCmpFunc[loop.example/townland/impl.Feat]", by decide, Tryz.func154.trans (congrArg some (by kernel_rfl))⟩
  f25 := ⟨ "slices.partialInsertionSortCmpFunc[loop.example/townland/impl.Feat]", by decide, Tryz.func155.trans (congrArg some (by kernel_rfl))⟩
  f26 := ⟨ "slices.partitionEqualCmpFunc[loop.example/townland/impl.Feat]", by decide, Tryz.func156.trans (congrArg some (by kernel_rfl))⟩
  f27 := ⟨ "slices.partitionCmpFunc[loop.example/townland/impl.Feat]", by decide, Tryz.func157.trans (congrArg some (by kernel_rfl))⟩
  f28 := Tryz.func132.trans (congrArg some (by kernel_rfl))
  f29 := Tryz.func133.trans (congrArg some (by kernel_rfl))
  f46 := ⟨ "slices.siftDownCmpFunc[loop.example/townland/impl.Feat]", by decide, Tryz.func172.trans (congrArg some (by kernel_rfl))⟩
  f47 := Tryz.func160.trans (congrArg some (by kernel_rfl))
  f48 := Tryz.func161.trans (congrArg some (by kernel_rfl))
  f49 := ⟨ "slices.medianAdjacentCmpFunc[loop.example/townland/impl.Feat]", by decide, Tryz.func173.trans (congrArg some (by kernel_rfl))⟩
  f50 := ⟨ "slices.medianCmpFunc[loop.example/townland/impl.Feat]", by decide, Tryz.func174.trans (congrArg some (by kernel_rfl))⟩
  f57 := ⟨ "slices.order2CmpFunc[loop.example/townland/impl.Feat]", by decide, Tryz.func179.trans (congrArg some (by kernel_rfl))⟩
  t0 := Tryz.underlying0
  a0 := Tryz.isAgg0
  z0 := Tryz.sizeOf0
  v0 := Tryz.zeroValue0
  t3 := Tryz.underlying3
  a3 := Tryz.isAgg3
  z3 := Tryz.sizeOf3
  v3 := Tryz.zeroValue3
  t4 := Tryz.underlying4
  a4 := Tryz.isAgg4
  z4 := Tryz.sizeOf4
  v4 := Tryz.zeroValue4
  t5 := Tryz.underlying5
  a5 := Tryz.isAgg5
  z5 := Tryz.sizeOf5
  v5 := Tryz.zeroValue5
  t9 := Tryz.underlying9
  a9 := Tryz.isAgg9
  z9 := Tryz.sizeOf9
  v9 := Tryz.zeroValue9
  t22 := Tryz.underlying41
  a22 := Tryz.isAgg41
  z22 := Tryz.sizeOf41
  v22 := Tryz.zeroValue41
  t25 := Tryz.underlying116
  a25 := Tryz.isAgg116
  z25 := Tryz.sizeOf116
  v25 := Tryz.zeroValue116
  t39 := Tryz.underlying134
  a39 := Tryz.isAgg134
  z39 := Tryz.sizeOf134
  v39 := Tryz.zeroValue134
  t45 := Tryz.underlying161
  a45 := Tryz.isAgg161
  z45 := Tryz.sizeOf161
  v45 := Tryz.zeroValue161
  t46 := Tryz.underlying162
  a46 := Tryz.isAgg162
  z46 := Tryz.sizeOf162
  v46 := Tryz.zeroValue162
  t50 := Tryz.underlying166
  a50 := Tryz.isAgg166
  z50 := Tryz.sizeOf166
  v50 := Tryz.zeroValue166
  t53 := Tryz.underlying169
  a53 := Tryz.isAgg169
  z53 := Tryz.sizeOf169
  v53 := Tryz.zeroValue169
  t55 := Tryz.underlying171
  a55 := Tryz.isAgg171
  z55 := Tryz.sizeOf171
  v55 := Tryz.zeroValue171
  t66 := Tryz.underlying189
  a66 := Tryz.isAgg189
  z66 := Tryz.sizeOf189
  v66 := Tryz.zeroValue189
  t70 := Tryz.underlying193
  a70 := Tryz.isAgg193
  z70 := Tryz.sizeOf193
  v70 := Tryz.zeroValue193
  t76 := Tryz.underlying199
  a76 := Tryz.isAgg199
  z76 := Tryz.sizeOf199
  v76 := Tryz.zeroValue199
  t77 := Tryz.underlying200
  a77 := Tryz.isAgg200
  z77 := Tryz.sizeOf200
  v77 := Tryz.zeroValue200 }
end Go.Proofs
namespace Go.Proofs.YtpdmnmpcjljeaaaGreat
set_option linter.unusedVariables false
set_option linter.unusedSimpArgs false
set_option linter.unusedSectionVars false
set_option maxHeartbeats 8000000
set_option maxRecDepth 100000
open Go.RowKit
variable {O : Ob} {w0 : World}
section
open Go.Shelf Go.Sort Go.Lib
def F4.E (x : List Feat) (Q : List Feat → Prop) : Prop := x.length ≤ 268435456 ∧ ∀ r : List Feat, r.Perm x → (r.Pairwise fun a b => Op.bytesLess b.Id a.Id = false) → Q r
instance : Inhabited (KE kFeat Feat.Id) := ⟨⟨(⟨[], ⟨0, []⟩, []⟩, [vs [], vi 0, .slice none 0 0, .slice none 0 0]), rfl, by decide, rfl⟩⟩
theorem kFeat_key {w : World} {S : Sp} (x : Feat) (cs : List Value) (h : kFeat.R w S x cs) : cs[0]? = some (vs x.Id) := by
 obtain ⟨A1, n1, c1, A2, n2, c2, rfl, _⟩ := kFeat.op h
 rfl
def CmpFeat (g : FuncId) (cf : Str → Str → Int) : Prop := ∀ (s t : Str) (a1 a2 a3 b1 b2 b3 : Value) (W : World),
 Calls Tryz.prog g #[.agg #[vs s, a1, a2, a3], .agg #[vs t, b1, b2, b3]] W fun e w' => e = .returned (vi (cf s t)) ∧ ∃ q os, w' = Sort.grow (W.drewN q) os
theorem F4.calls {O : Ob} (w0 : World) (hO : Ok w0 O) (A : Option Addr) (n c : Nat) (x : List Feat) (hp : Ow kFeat 28 w0 O (.slice A n c) x) (g : FuncId) (hg : Goes Tryz.prog g) (cf : Str → Str → Int) (hlt : ∀ s t, decide (cf s t < 0) = Op.bytesLess s t) (hcf : CmpFeat g cf)
  (Q : List Feat → Prop) (h : F4.E x Q) :
  Ret Tryz.prog 79 [.slice A n c, .func (.func g) #[] #[]] w0 (fun v w' => ∃ (m0 : List Feat), v = .tuple #[] ∧ Q m0 ∧ Gr w0 w' (blk (.slice A n c)) ∧ Ow kFeat 28 w' O (.slice A n c) m0) := by
 obtain ⟨hl, hq⟩ := h
 by_cases hx : 0 < x.length
 ·obtain ⟨b, d, rfl, rfl, e1, h1, h2, h3⟩ := Ow.sortK RD Feat.Id (fun x cs h => kFeat_key x cs h) hp hx
  have hsz : d.size = x.length := by rw [← e1]; simp
  have e2 : (ltOf fun x y : KE kFeat Feat.Id => cf x.1.1.Id y.1.1.Id) = fun x y => Op.bytesLess x.1.1.Id y.1.1.Id := by funext x y; exact hlt _ _
  have hcmp : CmpLays Tryz.prog g #[] (KE.cs (kd := kFeat) (key := Feat.Id)) 4 (fun x y => cf x.1.1.Id y.1.1.Id) b 0 d.size w0 := fun m os dk _ x y => by
   obtain ⟨⟨px, cx⟩, l1, _, k1⟩ := x
   obtain ⟨⟨py, cy⟩, l2, _, k2⟩ := y
   match cx, l1, k1, cy, l2, k2 with
   | [u0, u1, u2, u3], _, k1, [v0, v1, v2, v3], _, k2 =>
    simp only [List.getElem?_cons_zero, Option.some.injEq] at k1 k2
    subst k1; subst k2
    exact hcf _ _ _ _ _ _ _ _ _
  refine Calls.mono (AnyQ.slices_SortFunc Tryz.srt79 4 Tryz.isAgg28 Tryz.sizeOf28 (KE.cs (kd := kFeat) (key := Feat.Id)) (fun x => x.2.1) (fun x => x.2.2.1) (fun x y => cf x.1.1.Id y.1.1.Id) (by rw [e2]; exact ltK_swo) g #[] b 0 c d w0 (fun a w => hg.run a w) hcmp h1 h2 (by rw [hsz]; omega)) fun e w' ⟨he, d', q, os, hperm, hsort, hw⟩ => ?_
  subst he; subst hw
  have hd : d'.toList.Perm d.toList := by
   have := hperm.2.2
   have s1 := hperm.1
   rw [show d'.extract 0 d.size = d' by rw [← s1]; exact Array.extract_size, show d.extract 0 d.size = d from Array.extract_size] at this
   exact this
  obtain ⟨g1, g2⟩ := h3 d' q os hd
  refine ⟨_, rfl, d'.toList.map (fun y : KE kFeat Feat.Id => y.1.1), rfl, hq _ (by rw [← e1]; exact hd.map _) ?_, g1, g2⟩
  rw [e2] at hsort
  rw [List.pairwise_map]
  refine List.pairwise_iff_getElem.2 fun i j hi hj hij => ?_
  rw [Array.length_toList] at hi hj
  have := hsort i j (Nat.zero_le _) hij (by rw [← hperm.1]; exact hj)
  rw [getElem!_pos d' i hi, getElem!_pos d' j hj] at this
  simpa using this
 ·have e0 : x = [] := List.length_eq_zero_iff.1 OM
  subst e0
  obtain rfl : n = 0 := hp.len
  refine Calls.mono (AnyF.slices_SortFunc_none Tryz.srt79 A c _ w0) fun e w' ⟨he, hw⟩ => ?_
  subst he; subst hw
  exact ⟨_, rfl, [], rfl, hq [] (.refl _) .nil, Gr.refl _ _, hp⟩
end
section
open Go.Shelf Go.Sort Go.Lib
def F61.cf (s t : Str) : Int := if Op.bytesLess s t then -1 else 1
theorem F61.hlt (s t : Str) : decide (F61.cf s t < 0) = Op.bytesLess s t := by unfold F61.cf; cases Op.bytesLess s t <;> rfl
set_option maxHeartbeats 1000000 in
theorem F61.cmp : CmpFeat 85 F61.cf := by
 intro s t a1 a2 a3 b1 b2 b3 W
 go_enter Tryz.func85, Tryz.ntmps85
 go_wp2
 all_goals
  go_ret
  refine ⟨?_, 0, _, by rw [alloc_eq_grow, alloc_eq_grow, grow_grow]; rfl⟩
  simp_all [F61.cf]
end
def F108.E (s : List Feat) (d : List Change) (Q : List Feat → Bool → Prop) : Prop :=
 F74.E s (fun r => (if !r then Q [] false else F107.E d (fun r2 => (if !r2 then Q [] false else F33.E s (fun r3 => (∃ (I106 : (List Feat) → Int → Prop) (mu107 : (List Feat) → Int → Nat), I106 r3 0 ∧ ∀ (xs2 : List Feat) (v2 : Int), I106 xs2 v2 → (if decide (v2 < (d.length : Int)) then ((0 : Int) ≤ v2 ∧ v2 < (d.length : Int)) ∧ F129.E s ((nth d v2).Id) (fun r4 r5 => (if r5 != ((nth d v2).Had) then Q [] false else F55.E r4 ((nth d v2).Was) (fun r6 => (if !r6 then Q [] false else F97.E xs2 ((nth d v2).Id) (fun r7 => (if decide (r7 ≥ 0) then (I64 (r7 + 1)) ∧ F14.E xs2 r7 (r7 + 1) (fun r8 => (if (nth d v2).Has then F36.E ((nth d v2).Now) (fun r9 => (r8.length + ([r9] : List Feat).length ≤ 268435456) ∧ (I64 (v2 + 1)) ∧ I106 (r8 ++ ([r9] : List Feat)) (v2 + 1) ∧ mu107 (r8 ++ ([r9] : List Feat)) (v2 + 1) < mu107 xs2 v2) else (I64 (v2 + 1)) ∧ I106 r8 (v2 + 1) ∧ mu107 r8 (v2 + 1) < mu107 xs2 v2)) else (if (nth d v2).Has then F36.E ((nth d v2).Now) (fun r10 => (xs2.length + ([r10] : List Feat).length ≤ 268435456) ∧ (I64 (v2 + 1)) ∧ I106 (xs2 ++ ([r10] : List Feat)) (v2 + 1) ∧ mu107 (xs2 ++ ([r10] : List Feat)) (v2 + 1) < mu107 xs2 v2) else (I64 (v2 + 1)) ∧ I106 xs2 (v2 + 1) ∧ mu107 xs2 (v2 + 1) < mu107 xs2 v2))))))) else F4.E xs2 (fun m => F74.E m (fun r11 => (if !r11 then Q [] false else F33.E m (fun r12 => Q r12 true)))))))))))
theorem F108.calls {s : List Feat} {A1 : Option Addr} {n2 c3 : Nat} {d : List Change} {A6 : Option Addr} {n7 c8 : Nat} {Q : List Feat → Bool → Prop} (H : F108.E s d Q) (hO : Ok w0 O) (hp4 : Sl kFeat w0 (Fr O) (G A1 n2 c3) s) (hp9 : Sl kChange w0 (Fr O) (G A6 n7 c8) d) :
  Ret Tryz.prog 36 [G A1 n2 c3, G A6 n7 c8] w0 (fun v w' => ∃ (r0 : List Feat) (r1 : Bool) (Aw0 : Option Addr) (nw0 cw0 : Nat) (q0 : Ob) (ra0 : List (List Value)), v = .tuple #[G Aw0 nw0 cw0, vb r1] ∧ Q r0 r1 ∧ Gr w0 w' none ∧ Ok w' ((bk Aw0 :: (q0 ++ [])) ++ O) ∧ (∀ b, some b ∈ (bk Aw0 :: (q0 ++ [])) → w0.heap.size ≤ b) ∧ Ow (Kd.cells 4) 28 w' ((bk Aw0 :: (q0 ++ [])) ++ O) (G Aw0 nw0 cw0) ra0 ∧ DArr dFeat_28 w' q0 r0 ra0) := by
 unfold F108.E at H;have hc0 := Ct.init hO;refine X9 Tryz.func36 Z 76 Z [.tmp 4, .tmp 5] Z Z ?_;refine Xc (Xe (Xf (G none 0 0) Z (Xf (vb false) Z (Xb (Xc (Xc (Xe (Xd (G A1 n2 c3) Z ?_))))))));refine Xp go27 (F74.calls H hc0.ok hp4) Z ?_;rintro _ ef ⟨r, rfl, H, gq⟩;have ci := hc0.k0 gq;refine Xa (Yg r Z) (Xd (vb (!r)) Z ?_);rcases X8 (!r) with aq | aq
 ·have H := Xi H aq;refine Xm aq Z (Xm aq Z (Xm aq Z (Xa (Xs true (vb true) aq Z) (Xb (Yq (b := true) Z Z ?_)))));refine Xc (Xe ?_);have gs : DArr dFeat_28 ef ([] : Ob) ([] : List Feat) ([] : List (List Value)) := Z;refine X4 (kd := Kd.cells 4) Ys ci ([] : List (List Value)) (cells := []) Z RF fun k3 bz c5 c6 gt hr23 eg gu => ?_;have eh : ([bk bz] : Ob).Perm (bk bz :: (([] : Ob) ++ [])) := RP;have c7 := eg.perm eh;refine Xf (G bz c5 c6) Z (Xf (vb false) Z (Xb (Xk ?_)));have gw := (eg.sp gu eh);have gx := (gs.k0 gt);exact ⟨[G bz c5 c6, vb false], ⟨_, Z, ⟨_, Z, Z⟩⟩, ([] : List Feat), false, bz, c5, c6, ([] : Ob), ([] : List (List Value)), Z, H, c7.gr.g0, c7.ok, c7.ge, gw, gx⟩
 have H := Xj H aq;refine Xl aq Z (Xd (G A6 n7 c8) Z (Xl aq Z ?_));refine Xp go83 (F107.calls H ci.ok (hp9.st ci.st)) Z ?_;rintro _ ei ⟨r2, rfl, H, gy⟩;have cj := ci.k0 gy;refine Xl aq Z (Xa (Yg r2 Z) (Xa (Xs false (vb (!r2)) aq Z) (Xb ?_)));refine Xq (!r2) Z (fun c9 => ?_) (fun c9 => ?_)
 ·have H := Xi H c9;refine Xc (Xe ?_);have gz : DArr dFeat_28 ei ([] : Ob) ([] : List Feat) ([] : List (List Value)) := Z;refine X4 (kd := Kd.cells 4) Ys cj ([] : List (List Value)) (cells := []) Z RF fun k4 b0 da db g1 hr44 ej g2 => ?_;have ek : ([bk b0] : Ob).Perm (bk b0 :: (([] : Ob) ++ [])) := RP;have dc := ej.perm ek;refine Xf (G b0 da db) Z (Xf (vb false) Z (Xb (Xk ?_)));have g3 := (ej.sp g2 ek);have g4 := (gz.k0 g1);exact ⟨[G b0 da db, vb false], ⟨_, Z, ⟨_, Z, Z⟩⟩, ([] : List Feat), false, b0, da, db, ([] : Ob), ([] : List (List Value)), Z, H, dc.gr.g0, dc.ok, dc.ge, g3, g4⟩
 have H := Xj H c9;refine Xx (Xc (Xe (Xd (G A1 n2 c3) Z ?_)));refine Xp go78 (F33.calls H cj.ok (hp4.st cj.st)) Z ?_;rintro _ k5 ⟨r3, bc, el, em, b1, k6, rfl, H, g5, g6, g7, g8, g9⟩;have en := cj.owns g5 g6 g7;have eo : (((bk bc :: (b1 ++ [])) ++ []) : Ob).Perm (bk bc :: (b1 ++ [])) := RP;have dd := en.perm eo;refine Xf (G bc el em) Z (Xb (Xc (Xc (Xe (Xd (G A6 n7 c8) Z ?_)))));have k7 := (hp9.st dd.st).le;refine Xa (X6 u65_ A6 n7 c8 (hp9.st dd.st).len Z) (Xd (vi 0) Z (Xb (X2 ?_)));have ha := (en.spa g8 eo);have hb := g9;have hc : ((bk bc :: (b1 ++ [])) : Ob).Perm (b1 ++ [bk bc]) := RP;obtain ⟨hd, de, k8⟩ := Dp.own (L := (bk bc :: (b1 ++ []))) (O := O) ha hb dd hc (memi 0 Z);obtain ⟨he, hf, df, H⟩ := H;refine Yi (α := (List Feat) × (Option Addr) × Nat × Nat × Int) (fun (xs2, aa, ad, ac, v2) t bf => he xs2 v2 ∧ Has t [(0, G A1 n2 c3), (6, G aa ad ac), (23, G A6 n7 c8), (24, vi (d.length : Int)), (25, vi v2)] ∧ Cw [] w0 bf [bk aa] O fun M => Sl kFeat bf (Fr M) (G A1 n2 c3) s ∧ Sl kChange bf (Fr M) (G A6 n7 c8) d ∧ Ow kFeat 28 bf M (G aa ad ac) xs2) (fun (xs2, _, _, _, v2) => hf xs2 v2) (r3, bc, el, em, 0) ⟨df, (Xo Z), de, (hp4.st de.st), (hp9.st de.st), hd⟩ ?_;rintro ⟨xs2, aa, ad, ac, v2⟩ _ bf ⟨df, hg, ck, hh, bg, b2⟩;obtain ⟨k9, rfl⟩ := Has.ins hg;have H := H xs2 v2 df;refine Xc (Xe (Xa (Xz v2 (d.length : Int) (decide (v2 < (d.length : Int))) Z Z Z) (Xb (Xc ?_))));refine Xq (decide (v2 < (d.length : Int))) Z (fun dg => ?_) (fun dg => ?_)
 ·have H := Xi H dg;refine Xx (Xc (X2 (Xc (Xe ?_))));obtain ⟨ep, H⟩ := H;obtain ⟨eq, la, hi, lb, hj, hk⟩ := bg.get default RD v2 ep;obtain ⟨bh, bi, bj, bl, bn, bo, a1, a2, a3, a4, a5, a6, rfl, er, hl, hm, hn, es, et, eu⟩ := kChange.op hj;refine Xa (X3 u65_ Zy A6 eq n7 c8 bg.len v2 Z hi Z ep) (Xa (Xt ag68 sz68 cL (eq.add (v2.toNat * 11)) [vs ((nth d v2).Id), vb ((nth d v2).Had), vs ((nth d v2).Was.Id), vi ((nth d v2).Was.Shape.Kind), G bh bi bj, G bl bn bo, vb ((nth d v2).Has), vs ((nth d v2).Now.Id), vi ((nth d v2).Now.Shape.Kind), G a1 a2 a3, G a4 a5 a6] Z Z hk) (Yd [vs [], vb false, vs [], .int .i64 0, G none 0 0, G none 0 0, vb false, vs [], .int .i64 0, G none 0 0, G none 0 0] ze68 fun lc ab bp hu147 bq ho => ?_));have br := ck.own bq (some ab) (Yb bp hu147);refine X1 [vs ((nth d v2).Id), vb ((nth d v2).Had), vs ((nth d v2).Was.Id), vi ((nth d v2).Was.Shape.Kind), G bh bi bj, G bl bn bo, vb ((nth d v2).Has), vs ((nth d v2).Now.Id), vi ((nth d v2).Now.Shape.Kind), G a1 a2 a3, G a4 a5 a6] ho Z Z sz68 Z Z fun hp bs ev => ?_;have bd := br.wr 0 Z bs;refine Xb (Xc (Xe (Xd (G A1 n2 c3) Z (Xa (Xn fa68_0 (Ad ab 0) (Ad ab 0) Z Z) (Xa (Xr ag9 cL (Ad ab 0) (vs ((nth d v2).Id)) Z (ev.cell Z)) ?_)))));have ar := ck.stown _ bq (Xg bp);have au := br.stw 0 Z bs;have b3 := ((hh.st ar).st au);refine Xp go81 (F129.calls H bd.ok b3 er) Z ?_;rintro _ ld ⟨r4, r5, af, a7, a8, ag, a9, ba, rfl, H, av, hq, ax, hr, hs, ht⟩;have bt := bd.owns av hq ax;refine Xd (.tuple #[.agg #[vs r4.Id, vi r4.Shape.Kind, G af a7 a8, G ag a9 ba], vb r5]) Z (Xa (Yh [.agg #[vs r4.Id, vi r4.Shape.Kind, G af a7 a8, G ag a9 ba], vb r5] 0 (.agg #[vs r4.Id, vi r4.Shape.Kind, G af a7 a8, G ag a9 ba]) Z Z) (Xa (Yh [.agg #[vs r4.Id, vi r4.Shape.Kind, G af a7 a8, G ag a9 ba], vb r5] 1 (vb r5) Z Z) (Yd [vs [], .int .i64 0, G none 0 0, G none 0 0] ze28 fun lf bb al hu179 ai hu => ?_)));have aj := bt.own ai (some bb) (Yb al hu179);refine X1 [vs r4.Id, vi r4.Shape.Kind, G af a7 a8, G ag a9 ba] hu Z Z sz28 Z Z fun ew ak hv => ?_;have ay := aj.wr 0 Z ak;refine Xf (vb r5) Z (Xb (Xc (Xc (Xe (Xd (vb r5) Z (Xa (Xn fa68_1 (Ad ab 0) (Ad ab 1) Z Z) ?_))))));have dh := (aj.bm ((ev.k0 av).k0 ai) 3 0 Z Z Z ak);refine Xa (Xr ag4 cL (Ad ab 1) (vb ((nth d v2).Had)) Z (dh.cell Z)) (Xa (Za u4_ r5 ((nth d v2).Had) (r5 != ((nth d v2).Had)) Z Z Z) (Xd (vb (r5 != ((nth d v2).Had))) Z ?_));rcases X8 (r5 != ((nth d v2).Had)) with ah | ah
  ·have H := Xi H ah;refine Xm ah Z (Xm ah Z (Xm ah Z (Xm ah Z (Xm ah Z (Xa (Xs true (vb true) ah Z) (Xb (Yq (b := true) Z Z ?_)))))));refine Xc ?_;have hw : ([some bb, bk af, bk ag, some ab, bk aa] : Ob).Perm ((some bb :: bk af :: bk ag :: some ab :: bk aa :: []) ++ []) := RP;have hx := ay.drops hw;refine Xe ?_;have hy : DArr dFeat_28 ew ([] : Ob) ([] : List Feat) ([] : List (List Value)) := Z;refine X4 (kd := Kd.cells 4) Ys hx ([] : List (List Value)) (cells := []) Z RF fun lg b4 di dj hz hr196 ex h0 => ?_;have ey : ([bk b4] : Ob).Perm (bk b4 :: (([] : Ob) ++ [])) := RP;have dk := ex.perm ey;refine Xf (G b4 di dj) Z (Xf (vb false) Z (Xb (Xk ?_)));have h1 := (ex.sp h0 ey);have h2 := (hy.k0 hz);exact ⟨[G b4 di dj, vb false], ⟨_, Z, ⟨_, Z, Z⟩⟩, ([] : List Feat), false, b4, di, dj, ([] : Ob), ([] : List (List Value)), Z, H, dk.gr.g0, dk.ok, dk.ge, h1, h2⟩
  have H := Xj H ah;refine Xl ah Z (Xa (Xt ag28 sz28 cL (Ad bb 0) [vs r4.Id, vi r4.Shape.Kind, G af a7 a8, G ag a9 ba] Z Z (hv.cells (off := 00) Z)) (Xl ah Z (Xa (Xn fa68_2 (Ad ab 0) (Ad ab 2) Z Z) (Xl ah Z (Xa (Xt ag28 sz28 cL (Ad ab 2) [vs ((nth d v2).Was.Id), vi ((nth d v2).Was.Shape.Kind), G bh bi bj, G bl bn bo] Z Z (dh.cells (off := 2) Z)) (Xl ah Z ?_))))));have h3 := (aj.sw (hs.so _ ai (Xg al)) 1 0 Z Z Z ak);have h4 := ay.gv h3 1 Z;have dl := ay.drop 1 Z;have h5 := (ay.sd (aj.sw (ht.so _ ai (Xg al)) 2 0 Z Z Z ak) 2 1 Z Z Z);have h6 := dl.gv h5 1 Z;have h7 := dl.drop 1 Z;have dm := dl.std 1 Z;have ez := bd.stos av ax;have e0 := bt.stown _ ai (Xg al);have e1 := aj.stw 0 Z ak;have e2 := ay.std 1 Z;have h8 := (((((((hm.st ar).st au).st ez).st e0).st e1).st e2).st dm);have h9 := (((((((hn.st ar).st au).st ez).st e0).st e1).st e2).st dm);refine Xp go17 (F55.calls H h7.ok hr (h4.st dm) h6 hl h8 h9) Z ?_;rintro _ e3 ⟨r6, rfl, H, az⟩;have bu := ay.k0 az;refine Xl ah Z (Xa (Yg r6 Z) (Xa (Xs false (vb (!r6)) ah Z) (Xb ?_)));refine Xq (!r6) Z (fun dn => ?_) (fun dn => ?_)
  ·have H := Xi H dn;refine Xc ?_;have ia : ([some bb, bk af, bk ag, some ab, bk aa] : Ob).Perm ((some bb :: bk af :: bk ag :: some ab :: bk aa :: []) ++ []) := RP;have ib := bu.drops ia;refine Xe ?_;have ic : DArr dFeat_28 e3 ([] : Ob) ([] : List Feat) ([] : List (List Value)) := Z;refine X4 (kd := Kd.cells 4) Ys ib ([] : List (List Value)) (cells := []) Z RF fun lh b5 dp dq id hr234 e4 ie => ?_;have e5 : ([bk b5] : Ob).Perm (bk b5 :: (([] : Ob) ++ [])) := RP;have dr := e4.perm e5;refine Xf (G b5 dp dq) Z (Xf (vb false) Z (Xb (Xk ?_)));have ig := (e4.sp ie e5);have ih := (ic.k0 id);exact ⟨[G b5 dp dq, vb false], ⟨_, Z, ⟨_, Z, Z⟩⟩, ([] : List Feat), false, b5, dp, dq, ([] : Ob), ([] : List (List Value)), Z, H, dr.gr.g0, dr.ok, dr.ge, ig, ih⟩
  have H := Xj H dn;refine Xx (Xc (Xc ?_));have ae : ([some bb, bk af, bk ag, some ab, bk aa] : Ob).Perm ((some bb :: bk af :: bk ag :: []) ++ [some ab, bk aa]) := RP;have be := bu.drops ae;refine Xe (Xd (G aa ad ac) Z (Xa (Xn fa68_0 (Ad ab 0) (Ad ab 0) Z Z) ?_));have ds := (dh.k0 az);refine Xa (Xr ag9 cL (Ad ab 0) (vs ((nth d v2).Id)) Z (ds.cell Z)) ?_;have ii := (bu.odr ((aj.sw (((br.sw (b2.so _ bq (Xg bp)) 1 0 Z Z Z bs).sos av ax).so _ ai (Xg al)) 4 0 Z Z Z ak).sn az) ae 1 Z);have ij := be.gv ii 1 Z;have ik := be.drop 1 Z;refine Xp go72 (F97.calls H ik.ok ij er) Z ?_;rintro _ e6 ⟨r7, rfl, H, a0⟩;have aw := be.k0 a0;refine Xf (vi r7) Z (Xb (Xc (Xe (Xd (vi r7) Z (Xa (Xz r7 0 (decide (r7 ≥ 0)) Z Z Z) (Xb ?_))))));refine Xq (decide (r7 ≥ 0)) Z (fun dt => ?_) (fun dt => ?_)
  ·have H := Xi H dt;refine Xe (Xd (G aa ad ac) Z (Xd (vi r7) Z (Xd (vi r7) Z ?_)));obtain ⟨il, H⟩ := H;refine Xa (X5 r7 1 Z Z il) ?_;have im := ((bu.odr ((aj.sw (((br.sw (b2.so _ bq (Xg bp)) 1 0 Z Z Z bs).sos av ax).so _ ai (Xg al)) 4 0 Z Z Z ak).sn az) ae 1 Z).sn a0);refine Zp go84 [G aa ad ac, vi r7, vi (r7 + 1)] Z ((F14.calls e6 aw.ok aa ad ac xs2 im r7 (r7 + 1) _ H).mono ?_);rintro _ io ⟨r8, cl, rfl, H, cm, e7⟩;have bv := aw.wr 1 Z cm;refine Xf (G aa cl ac) Z (Xb (Xc (Xe (Xa (Xn fa68_3 (Ad ab 0) (Ad ab 6) Z Z) ?_))));have e8 := (aw.bm (ds.k0 a0) 0 1 Z Z Z cm);refine Xa (Xr ag4 cL (Ad ab 6) (vb ((nth d v2).Has)) Z (e8.cell Z)) (Xb ?_);refine Xq ((nth d v2).Has) Z (fun du => ?_) (fun du => ?_)
   ·have H := Xi H du;refine Xe (Xd (G aa cl ac) Z (Xa (Xn fa68_4 (Ad ab 0) (Ad ab 7) Z Z) (Xa (Xt ag28 sz28 cL (Ad ab 7) [vs ((nth d v2).Now.Id), vi ((nth d v2).Now.Shape.Kind), G a1 a2 a3, G a4 a5 a6] Z Z (e8.cells (off := 7) Z)) ?_)));have cn := bd.stos av ax;have co := bt.stown _ ai (Xg al);have cp := aj.stw 0 Z ak;have cq := ay.stn az;have cr := be.stn a0;have cs := aw.stw 1 Z cm;have ip := (((((((((et.st ar).st au).st cn).st co).st cp).st cq).st (St.drops _ O ae)).st cr).st cs);have iq := (((((((((eu.st ar).st au).st cn).st co).st cp).st cq).st (St.drops _ O ae)).st cr).st cs);refine Xp go48 (F36.calls H bv.ok es ip iq) Z ?_;rintro _ e9 ⟨r9, am, b6, b7, an, b8, b9, rfl, H, dv, ir, dw, it, iu, iv⟩;have fa := bv.owns dv ir dw;have fb : (dFeat_28).D e9 ([] ++ (([] ++ [bk am]) ++ [bk an])) r9 [vs r9.Id, vi r9.Shape.Kind, G am b6 b7, G an b8 b9] := (dFeat_28.mk _ r9 it (Ds.ofOw kPt_flat iu) (Ds.ofOw kTag_flat iv));have iw : DArr dFeat_28 e9 (([] ++ (([] ++ [bk am]) ++ [bk an])) ++ []) ([r9] : List Feat) ([[vs r9.Id, vi r9.Shape.Kind, G am b6 b7, G an b8 b9]] : List (List Value)) := ⟨_, _, Z, fb, Z⟩;refine X4 (kd := Kd.cells 4) Ys fa ([[vs r9.Id, vi r9.Shape.Kind, G am b6 b7, G an b8 b9]] : List (List Value)) (cells := [vs r9.Id, vi r9.Shape.Kind, G am b6 b7, G an b8 b9]) ⟨[vs r9.Id, vi r9.Shape.Kind, G am b6 b7, G an b8 b9], _, Z, Dd.raw _ fb, Z⟩ RF fun li bw ix iy dx hr298 ct iz => ?_;have cu : ([bk bw, bk am, bk an, some ab, bk aa] : Ob).Perm (bk bw :: some ab :: bk aa :: ((([] ++ (([] ++ [bk am]) ++ [bk an])) ++ []) ++ [])) := RP;have fc := ct.perm cu;have i0 := (ct.sp iz cu);have i1 := (iw.k0 dx);have cv : ((bk bw :: some ab :: bk aa :: ((([] ++ (([] ++ [bk am]) ++ [bk an])) ++ []) ++ [])) : Ob).Perm ((([] ++ (([] ++ [bk am]) ++ [bk an])) ++ []) ++ [bk bw, some ab, bk aa]) := RP;obtain ⟨i2, i3, lj⟩ := Dp.own (L := (bk bw :: some ab :: bk aa :: ((([] ++ (([] ++ [bk am]) ++ [bk an])) ++ []) ++ []))) (O := O) i0 i1 fc cv (memi 0 Z);obtain ⟨i4, H⟩ := H;have i5 := (fc.odr (ct.sp ((e7.sos dv dw).so _ dx hr298) cu) cv 2 Z);refine Yc Ys i3 (G aa cl ac) r8 ([r9] : List Feat) Z i5 (G bw ix iy) Z i2.sx 2 Z i4 fun lk fd fe ff ll fg dy i6 => ?_;refine Xf (G fd fe ff) Z (Xb (Xe ?_));obtain ⟨i7, H⟩ := H;refine Xa (X5 v2 1 Z Z i7) (Xd (vi (v2 + 1)) Z (Xb ?_));have dz := dy.drop 0 Z;have i8 := dz.drop 0 Z;obtain ⟨i9, ja⟩ := H;have fh := bv.stos dv dw;have fi := fa.stown _ dx hr298;have fj := ct.stp cu;have fk := dy.std 0 Z;have fl := dz.std 0 Z;have jb := ((((((((((((((b3.st cn).st co).st cp).st cq).st (St.drops _ O ae)).st cr).st cs).st fh).st fi).st fj).st (St.drops _ O cv)).st fg).st fk).st fl);have jc := ((((((((((((((((bg.st ar).st au).st cn).st co).st cp).st cq).st (St.drops _ O ae)).st cr).st cs).st fh).st fi).st fj).st (St.drops _ O cv)).st fg).st fk).st fl);have jd := (dz.sd (dy.sd i6 2 0 Z Z Z) 1 0 Z Z Z);exact ⟨((r8 ++ ([r9] : List Feat)), fd, fe, ff, v2 + 1), ja, i9, (Xo Z), i8, jb, jc, jd⟩
   have H := Xj H du;refine Xx (Xe ?_);obtain ⟨je, H⟩ := H;refine Xa (X5 v2 1 Z Z je) (Xd (vi (v2 + 1)) Z (Xb ?_));have jf := bv.drop 0 Z;obtain ⟨jg, jh⟩ := H;have fm := bd.stos av ax;have fn := bt.stown _ ai (Xg al);have fo := aj.stw 0 Z ak;have fp := ay.stn az;have fq := be.stn a0;have fr := aw.stw 1 Z cm;have fs := bv.std 0 Z;have ji := ((((((((b3.st fm).st fn).st fo).st fp).st (St.drops _ O ae)).st fq).st fr).st fs);have jj := ((((((((((bg.st ar).st au).st fm).st fn).st fo).st fp).st (St.drops _ O ae)).st fq).st fr).st fs);have jk := (bv.sd e7 1 0 Z Z Z);exact ⟨(r8, aa, cl, ac, v2 + 1), jh, jg, (Xo Z), jf, ji, jj, jk⟩
  have H := Xj H dt;refine Xx (Xc (Xe (Xa (Xn fa68_3 (Ad ab 0) (Ad ab 6) Z Z) ?_)));have ft := (ds.k0 a0);refine Xa (Xr ag4 cL (Ad ab 6) (vb ((nth d v2).Has)) Z (ft.cell Z)) (Xb ?_);refine Xq ((nth d v2).Has) Z (fun d0 => ?_) (fun d0 => ?_)
  ·have H := Xi H d0;refine Xe (Xd (G aa ad ac) Z (Xa (Xn fa68_4 (Ad ab 0) (Ad ab 7) Z Z) (Xa (Xt ag28 sz28 cL (Ad ab 7) [vs ((nth d v2).Now.Id), vi ((nth d v2).Now.Shape.Kind), G a1 a2 a3, G a4 a5 a6] Z Z (ft.cells (off := 7) Z)) ?_)));have cw := bd.stos av ax;have cx := bt.stown _ ai (Xg al);have cy := aj.stw 0 Z ak;have cz := ay.stn az;have c0 := be.stn a0;have jl := ((((((((et.st ar).st au).st cw).st cx).st cy).st cz).st (St.drops _ O ae)).st c0);have jm := ((((((((eu.st ar).st au).st cw).st cx).st cy).st cz).st (St.drops _ O ae)).st c0);refine Xp go48 (F36.calls H aw.ok es jl jm) Z ?_;rintro _ fu ⟨r10, ao, ca, cb, ap, cc, cd, rfl, H, d1, jn, d2, jo, jp, jq⟩;have fv := aw.owns d1 jn d2;have fw : (dFeat_28).D fu ([] ++ (([] ++ [bk ao]) ++ [bk ap])) r10 [vs r10.Id, vi r10.Shape.Kind, G ao ca cb, G ap cc cd] := (dFeat_28.mk _ r10 jo (Ds.ofOw kPt_flat jp) (Ds.ofOw kTag_flat jq));have jr : DArr dFeat_28 fu (([] ++ (([] ++ [bk ao]) ++ [bk ap])) ++ []) ([r10] : List Feat) ([[vs r10.Id, vi r10.Shape.Kind, G ao ca cb, G ap cc cd]] : List (List Value)) := ⟨_, _, Z, fw, Z⟩;refine X4 (kd := Kd.cells 4) Ys fv ([[vs r10.Id, vi r10.Shape.Kind, G ao ca cb, G ap cc cd]] : List (List Value)) (cells := [vs r10.Id, vi r10.Shape.Kind, G ao ca cb, G ap cc cd]) ⟨[vs r10.Id, vi r10.Shape.Kind, G ao ca cb, G ap cc cd], _, Z, Dd.raw _ fw, Z⟩ RF fun lm bx js jt d3 hr381 c1 ju => ?_;have c2 : ([bk bx, bk ao, bk ap, some ab, bk aa] : Ob).Perm (bk bx :: some ab :: bk aa :: ((([] ++ (([] ++ [bk ao]) ++ [bk ap])) ++ []) ++ [])) := RP;have fx := c1.perm c2;have jv := (c1.sp ju c2);have jw := (jr.k0 d3);have c4 : ((bk bx :: some ab :: bk aa :: ((([] ++ (([] ++ [bk ao]) ++ [bk ap])) ++ []) ++ [])) : Ob).Perm ((([] ++ (([] ++ [bk ao]) ++ [bk ap])) ++ []) ++ [bk bx, some ab, bk aa]) := RP;obtain ⟨jx, jy, ln⟩ := Dp.own (L := (bk bx :: some ab :: bk aa :: ((([] ++ (([] ++ [bk ao]) ++ [bk ap])) ++ []) ++ []))) (O := O) jv jw fx c4 (memi 0 Z);obtain ⟨jz, H⟩ := H;have j0 := (fx.odr (c1.sp ((((bu.odr ((aj.sw (((br.sw (b2.so _ bq (Xg bp)) 1 0 Z Z Z bs).sos av ax).so _ ai (Xg al)) 4 0 Z Z Z ak).sn az) ae 1 Z).sn a0).sos d1 d2).so _ d3 hr381) c2) c4 2 Z);refine Yc Ys jy (G aa ad ac) xs2 ([r10] : List Feat) Z j0 (G bx js jt) Z jx.sx 2 Z jz fun lo fy fz f0 lp f1 d4 j1 => ?_;refine Xf (G fy fz f0) Z (Xb (Xe ?_));obtain ⟨j2, H⟩ := H;refine Xa (X5 v2 1 Z Z j2) (Xd (vi (v2 + 1)) Z (Xb ?_));have d5 := d4.drop 0 Z;have j3 := d5.drop 0 Z;obtain ⟨j4, j5⟩ := H;have f2 := aw.stos d1 d2;have f3 := fv.stown _ d3 hr381;have f4 := c1.stp c2;have f5 := d4.std 0 Z;have f6 := d5.std 0 Z;have j6 := (((((((((((((b3.st cw).st cx).st cy).st cz).st (St.drops _ O ae)).st c0).st f2).st f3).st f4).st (St.drops _ O c4)).st f1).st f5).st f6);have j7 := (((((((((((((((bg.st ar).st au).st cw).st cx).st cy).st cz).st (St.drops _ O ae)).st c0).st f2).st f3).st f4).st (St.drops _ O c4)).st f1).st f5).st f6);have j8 := (d5.sd (d4.sd j1 2 0 Z Z Z) 1 0 Z Z Z);exact ⟨((xs2 ++ ([r10] : List Feat)), fy, fz, f0, v2 + 1), j5, j4, (Xo Z), j3, j6, j7, j8⟩
  have H := Xj H d0;refine Xx (Xe ?_);obtain ⟨j9, H⟩ := H;refine Xa (X5 v2 1 Z Z j9) (Xd (vi (v2 + 1)) Z (Xb ?_));have ka := aw.drop 0 Z;obtain ⟨kb, kc⟩ := H;have f7 := bd.stos av ax;have f8 := bt.stown _ ai (Xg al);have f9 := aj.stw 0 Z ak;have ga := ay.stn az;have gb := be.stn a0;have gc := aw.std 0 Z;have ke := (((((((b3.st f7).st f8).st f9).st ga).st (St.drops _ O ae)).st gb).st gc);have kf := (((((((((bg.st ar).st au).st f7).st f8).st f9).st ga).st (St.drops _ O ae)).st gb).st gc);have kg := (aw.sd ((bu.odr ((aj.sw (((br.sw (b2.so _ bq (Xg bp)) 1 0 Z Z Z bs).sos av ax).so _ ai (Xg al)) 4 0 Z Z Z ak).sn az) ae 1 Z).sn a0) 1 0 Z Z Z);exact ⟨(xs2, aa, ad, ac, v2 + 1), kc, kb, (Xo Z), ka, ke, kf, kg⟩
 have H := Xj H dg;refine Yf (xin_hit ?_);refine Xc (Xe (Xd (G aa ad ac) Z ?_));refine Zp go79 [G aa ad ac, .func (.func 85) #[] #[]] Z ((F4.calls bf ck.ok aa ad ac xs2 b2 85 go85 F61.cf F61.hlt F61.cmp _ H).mono ?_);rintro _ kh ⟨m, rfl, H, ki, gd⟩;have d6 := ck.wr 0 Z ki;refine Xb (Xc (Xc (Xe (Xd (G aa ad ac) Z ?_))));have kj := d6.gv gd 0 Z;have kk := d6.drop 0 Z;refine Xp go27 (F74.calls H kk.ok kj) Z ?_;rintro _ gf ⟨r11, rfl, H, gg⟩;have ce := d6.k0 gg;refine Xa (Yg r11 Z) (Xb ?_);refine Xq (!r11) Z (fun d7 => ?_) (fun d7 => ?_)
 ·have H := Xi H d7;refine Xc (Xe ?_);have kl : DArr dFeat_28 gf ([] : Ob) ([] : List Feat) ([] : List (List Value)) := Z;refine X4 (kd := Kd.cells 4) Ys ce ([] : List (List Value)) (cells := []) Z RF fun lq cg d8 d9 km hr452 gh kn => ?_;have gi : ([bk cg, bk aa] : Ob).Perm (bk cg :: bk aa :: (([] : Ob) ++ [])) := RP;have gj := gh.perm gi;refine Xf (G cg d8 d9) Z (Xf (vb false) Z (Xb (Xk ?_)));have ea := gj.drop 1 Z;have ko := (gj.sd (gh.sp kn gi) 0 1 Z Z Z);have kp := (kl.k0 km);exact ⟨[G cg d8 d9, vb false], ⟨_, Z, ⟨_, Z, Z⟩⟩, ([] : List Feat), false, cg, d8, d9, ([] : Ob), ([] : List (List Value)), Z, H, ea.gr.g0, ea.ok, ea.ge, ko, kp⟩
 have H := Xj H d7;refine Xx (Xc (Xe (Xd (G aa ad ac) Z ?_)));have kq := (gd.sn gg);have kr := ce.gv kq 0 Z;have ks := ce.drop 0 Z;refine Xp go78 (F33.calls H ks.ok kr) Z ?_;rintro _ lr ⟨r12, ch, eb, ec, ed, kt, rfl, H, gk, ku, gl, kv, kx⟩;have ky := Ok.unl (L := [bk aa]) (L' := []) (O := O) ce gk ku gl;have kz := Ow.unl (L := [bk aa]) (L' := []) (O := O) (fun _ _ _ _ _ _ h => h) (.cons _ (.slnil)) kv;have gm := ce.owns gk ky gl;have gn : (((bk ch :: (ed ++ [])) ++ [bk aa]) : Ob).Perm (bk ch :: bk aa :: (ed ++ [])) := RP;have gp := gm.perm gn;refine Xf (G ch eb ec) Z (Xf (vb true) Z (Xb (Xk ?_)));have ee := gp.drop 1 Z;have k1 := (gp.sd (gm.spa kz gn) 0 1 Z Z Z);have k2 := kx;exact ⟨[G ch eb ec, vb true], ⟨_, Z, ⟨_, Z, Z⟩⟩, r12, true, ch, eb, ec, ed, kt, Z, H, ee.gr.g0, ee.ok, ee.ge, k1, k2⟩
def F2.E (s1 s2 : List Feat) (eq : Feat → Feat → Bool) (eq_ok : Feat → Feat → Prop) (Q : Bool → Prop) : Prop :=
 (if (s1.length : Int) != (s2.length : Int) then Q false else (∃ (I36 : Int → Prop) (mu37 : Int → Nat), I36 0 ∧ ∀ (v2 : Int), I36 v2 → (if decide (v2 < (s1.length : Int)) then ((0 : Int) ≤ v2 ∧ v2 < (s1.length : Int)) ∧ ((0 : Int) ≤ v2 ∧ v2 < (s2.length : Int)) ∧ (eq_ok (nth s1 v2) (nth s2 v2)) ∧ (if !(eq (nth s1 v2) (nth s2 v2)) then Q false else (I64 (v2 + 1)) ∧ I36 (v2 + 1) ∧ mu37 (v2 + 1) < mu37 v2) else Q true)))
theorem F2.calls {s1 : List Feat} {A1 : Option Addr} {n2 c3 : Nat} {s2 : List Feat} {A6 : Option Addr} {n7 c8 : Nat} {ao : FuncId} {ap : List Value} {eq : Feat → Feat → Bool} {eq_ok : Feat → Feat → Prop} {Q : Bool → Prop} (H : F2.E s1 s2 eq eq_ok Q) (hO : Ok w0 O) (hp4 : Sl kFeat w0 (Fr O) (G A1 n2 c3) s1) (hp9 : Sl kFeat w0 (Fr O) (G A6 n7 c8) s2) (b3 : Goes Tryz.prog ao) (b4 : ∀ (w : World) (L : Ob), Ct [] w0 w L O → ∀ (x0_ : Feat) (a9 : Option Addr) (ba bb : Nat) (bc : Option Addr) (bd be : Nat) (c4 : Lim x0_.Id) (c5 : Sl kPt w (Fr (L ++ O)) (G a9 ba bb) x0_.Shape.Pts) (c6 : Sl kTag w (Fr (L ++ O)) (G bc bd be) x0_.Tags) (x1_ : Feat) (bf : Option Addr) (bg bh : Nat) (bi : Option Addr) (bj bl : Nat) (c7 : Lim x1_.Id) (c9 : Sl kPt w (Fr (L ++ O)) (G bf bg bh) x1_.Shape.Pts) (da : Sl kTag w (Fr (L ++ O)) (G bi bj bl) x1_.Tags), eq_ok x0_ x1_ → Ret Tryz.prog ao ([.agg #[vs x0_.Id, vi x0_.Shape.Kind, G a9 ba bb, G bc bd be], .agg #[vs x1_.Id, vi x1_.Shape.Kind, G bf bg bh, G bi bj bl]] ++ ap) w (fun v w' => v = vb (eq x0_ x1_) ∧ Gr w w' none)) :
  Ret Tryz.prog 76 [G A1 n2 c3, G A6 n7 c8, .func (.func ao) #[] ap.toArray] w0 (fun v w' => ∃ (r0 : Bool), v = vb r0 ∧ Q r0 ∧ Gr w0 w' none) := by
 unfold F2.E at H;have hc0 := Ct.init hO;refine X9 Tryz.func76 Z 32 Z [.tmp 6] Z Z ?_;refine Xc (Xe (Xf (vb false) Z (Xb (Xc (Xc (Xe (Xd (G A1 n2 c3) Z ?_)))))));have db := hp4.le;refine Xa (X6 u41_ A1 n2 c3 hp4.len Z) (Xd (G A6 n7 c8) Z ?_);have dc := hp9.le;refine Xa (X6 u41_ A6 n7 c8 hp9.len Z) (Xa (Xz (s1.length : Int) (s2.length : Int) ((s1.length : Int) != (s2.length : Int)) Z Z Z) (Xb ?_));refine Xq ((s1.length : Int) != (s2.length : Int)) Z (fun ax => ?_) (fun ax => ?_)
 ·have H := Xi H ax;exact Xc (Xe (Xf (vb false) Z (Xb (Xk ⟨[vb false], ⟨_, Z, Z⟩, false, Z, H, hc0.gr.g0⟩))))
 have H := Xj H ax;refine Xx (Xc (Xc (Xe (Xd (G A1 n2 c3) Z (Xa (X6 u41_ A1 n2 c3 hp4.len Z) (Xd (vi 0) Z (Xb (X2 ?_))))))));obtain ⟨b5, b6, ay, H⟩ := H;refine Yi (α := Int) (fun (sv__ : Int) t aq => match sv__ with | v2 => b5 v2 ∧ Has t [(1, G A6 n7 c8), (2, .func (.func ao) #[] ap.toArray), (15, G A1 n2 c3), (16, vi (s1.length : Int)), (17, vi v2)] ∧ Cw [] w0 aq [] O fun M => Sl kFeat aq (Fr M) (G A6 n7 c8) s2 ∧ Sl kFeat aq (Fr M) (G A1 n2 c3) s1) (fun (sv__ : Int) => match sv__ with | v2 => b6 v2) 0 ⟨ay, (Xo Z), hc0, hp9, hp4⟩ ?_;rintro v2 _ aq ⟨ay, b7, az, b8, a0⟩;obtain ⟨dd, rfl⟩ := Has.ins b7;have H := H v2 ay;refine Xc (Xe (Xa (Xz v2 (s1.length : Int) (decide (v2 < (s1.length : Int))) Z Z Z) (Xb (Xc ?_))));refine Xq (decide (v2 < (s1.length : Int))) Z (fun a1 => ?_) (fun a1 => ?_)
 ·have H := Xi H a1;refine Xx (Xc (X2 (Xc (Xe (Xd (vi v2) Z ?_)))));obtain ⟨bn, H⟩ := H;obtain ⟨bo, de, b9, df, ca, cb⟩ := a0.get default RD v2 bn;obtain ⟨aa, ab, ac, ad, ae, af, rfl, cc, cd, ce⟩ := kFeat.op ca;refine Xa (X3 u41_ Y0 A1 bo n2 c3 a0.len v2 Z b9 Z bn) (Xa (Xt ag28 sz28 cL (bo.add (v2.toNat * 4)) [vs ((nth s1 v2).Id), vi ((nth s1 v2).Shape.Kind), G aa ab ac, G ad ae af] Z Z cb) (Yd [vs [], .int .i64 0, G none 0 0, G none 0 0] ze28 fun dg ar bp hu65 bq cf => ?_));have br := az.own bq (some ar) (Yb bp hu65);refine Xf (vi v2) Z (X1 [vs ((nth s1 v2).Id), vi ((nth s1 v2).Shape.Kind), G aa ab ac, G ad ae af] cf Z Z sz28 Z Z fun dh bs cg => ?_);have bt := br.wr 0 Z bs;refine Xb (Xc (Xe (Xd (G A6 n7 c8) Z (Xd (vi v2) Z ?_))));obtain ⟨bu, H⟩ := H;have au := az.stown _ bq (Xg bp);have av := br.stw 0 Z bs;have a2 := ((b8.st au).st av);obtain ⟨bv, di, ch, dj, ci, cj⟩ := a2.get default RD v2 bu;obtain ⟨ag, ah, ai, aj, ak, al, rfl, ck, cl, cm⟩ := kFeat.op ci;refine Xa (X3 u41_ Y0 A6 bv n7 c8 a2.len v2 Z ch Z bu) (Xa (Xt ag28 sz28 cL (bv.add (v2.toNat * 4)) [vs ((nth s2 v2).Id), vi ((nth s2 v2).Shape.Kind), G ag ah ai, G aj ak al] Z Z cj) (Yd [vs [], .int .i64 0, G none 0 0, G none 0 0] ze28 fun dk aw bw hu98 a3 cn => ?_));have a4 := bt.own a3 (some aw) (Yb bw hu98);refine X1 [vs ((nth s2 v2).Id), vi ((nth s2 v2).Shape.Kind), G ag ah ai, G aj ak al] cn Z Z sz28 Z Z fun co a5 cp => ?_;have a6 := a4.wr 0 Z a5;refine Xb (Xc (Xe (Xd (.func (.func ao) #[] ap.toArray) Z ?_)));have cq := (a4.bm (cg.k0 a3) 1 0 Z Z Z a5);refine Xa (Xt ag28 sz28 cL (Ad ar 0) [vs ((nth s1 v2).Id), vi ((nth s1 v2).Shape.Kind), G aa ab ac, G ad ae af] Z Z (cq.cells (off := 00) Z)) (Xa (Xt ag28 sz28 cL (Ad aw 0) [vs ((nth s2 v2).Id), vi ((nth s2 v2).Shape.Kind), G ag ah ai, G aj ak al] Z Z (cp.cells (off := 00) Z)) ?_);obtain ⟨cr, H⟩ := H;have am := bt.stown _ a3 (Xg bw);have an := a4.stw 0 Z a5;have cs := ((((cd.st au).st av).st am).st an);have ct := ((((ce.st au).st av).st am).st an);have cu := ((cl.st am).st an);have cv := ((cm.st am).st an);refine Zg b3 ap Z [.agg #[vs ((nth s1 v2).Id), vi ((nth s1 v2).Shape.Kind), G aa ab ac, G ad ae af], .agg #[vs ((nth s2 v2).Id), vi ((nth s2 v2).Shape.Kind), G ag ah ai, G aj ak al]] Z ((b4 co [some aw, some ar] a6 (nth s1 v2) aa ab ac ad ae af cc cs ct (nth s2 v2) ag ah ai aj ak al ck cu cv cr).mono ?_);rintro _ dl ⟨rfl, bx⟩;have a7 := a6.k0 bx;refine Xa (Yg (eq (nth s1 v2) (nth s2 v2)) Z) (Xb ?_);refine Xq (!(eq (nth s1 v2) (nth s2 v2))) Z (fun a8 => ?_) (fun a8 => ?_)
  ·have H := Xi H a8;refine Xc (Xe (Xf (vb false) Z (Xb (Xk ?_))));have cw := a7.clear;exact ⟨[vb false], ⟨_, Z, Z⟩, false, Z, H, cw.gr.g0⟩
  have H := Xj H a8;refine Xx (Xe ?_);obtain ⟨cx, H⟩ := H;refine Xa (X5 v2 1 Z Z cx) (Xd (vi (v2 + 1)) Z (Xb ?_));have bz := a7.drop 0 Z;have cy := bz.drop 0 Z;obtain ⟨cz, c0⟩ := H;have b0 := a6.stn bx;have b1 := a7.std 0 Z;have b2 := bz.std 0 Z;have c1 := (((((a2.st am).st an).st b0).st b1).st b2);have c2 := (((((((a0.st au).st av).st am).st an).st b0).st b1).st b2);exact ⟨v2 + 1, c0, cz, (Xo Z), cy, c1, c2⟩
 have H := Xj H a1;refine Yf (xin_hit ?_);exact Xc (Xe (Xf (vb true) Z (Xb (Xk ⟨[vb true], ⟨_, Z, Z⟩, true, Z, H, az.gr.g0⟩))))
def F44.E (a b : List Feat) (Q : Bool → Prop) : Prop :=
 (∃ (f : Feat → Feat → Bool) (f_ok : Feat → Feat → Prop), (∀ x0_ x1_, f_ok x0_ x1_ → F55.E x0_ x1_  (fun r => r = f x0_ x1_)) ∧ F2.E a b f f_ok (fun r => Q r))
theorem F44.calls {a : List Feat} {A1 : Option Addr} {n2 c3 : Nat} {b : List Feat} {A6 : Option Addr} {n7 c8 : Nat} {Q : Bool → Prop} (H : F44.E a b Q) (hO : Ok w0 O) (hp4 : Sl kFeat w0 (Fr O) (G A1 n2 c3) a) (hp9 : Sl kFeat w0 (Fr O) (G A6 n7 c8) b) :
  Ret Tryz.prog 25 [G A1 n2 c3, G A6 n7 c8] w0 (fun v w' => ∃ (r0 : Bool), v = vb r0 ∧ Q r0 ∧ Gr w0 w' none) := by
 unfold F44.E at H;have hc0 := Ct.init hO;refine X9 Tryz.func25 Z 8 Z [.tmp 4] Z Z ?_;refine Xc (Xe (Xf (vb false) Z (Xb (Xc (Xe (Xd (G A1 n2 c3) Z (Xd (G A6 n7 c8) Z ?_)))))));obtain ⟨f, f_ok, au, H⟩ := H;have av : ∀ (w : World) (L : Ob), Ct [] w0 w L ([] ++ O) → ∀ (x0_ : Feat) (aa : Option Addr) (ab ac : Nat) (ad : Option Addr) (ae af : Nat) (am : Lim x0_.Id) (an : Sl kPt w (Fr (L ++ ([] ++ O))) (G aa ab ac) x0_.Shape.Pts) (ao : Sl kTag w (Fr (L ++ ([] ++ O))) (G ad ae af) x0_.Tags) (x1_ : Feat) (ag : Option Addr) (ah ai : Nat) (aj : Option Addr) (ak al : Nat) (ap : Lim x1_.Id) (aq : Sl kPt w (Fr (L ++ ([] ++ O))) (G ag ah ai) x1_.Shape.Pts) (ar : Sl kTag w (Fr (L ++ ([] ++ O))) (G aj ak al) x1_.Tags), f_ok x0_ x1_ → Ret Tryz.prog 17 ([.agg #[vs x0_.Id, vi x0_.Shape.Kind, G aa ab ac, G ad ae af], .agg #[vs x1_.Id, vi x1_.Shape.Kind, G ag ah ai, G aj ak al]] ++ []) w (fun v w' => v = vb (f x0_ x1_) ∧ Gr w w' none) := by
  intro w L c x0_ aa ab ac ad ae af am an ao x1_ ag ah ai aj ak al ap aq ar hok;refine (F55.calls (au x0_ x1_ hok) c.ok am an ao ap aq ar).mono ?_;rintro _ w2 ⟨r, rfl, rfl, g2⟩;exact ⟨Z, g2⟩
 refine Xp go76 (F2.calls H hc0.ok hp4 hp9 go17 av) Z ?_;rintro _ ay ⟨r, rfl, H, aw⟩;have ax := hc0.k0 aw;exact Xf (vb r) Z (Xb (Xk ⟨[vb r], ⟨_, Z, Z⟩, r, Z, H, ax.gr.g0⟩))
def laws_FnSheetDiff.E (code : List UInt8) (Q : Bool → Prop) : Prop :=
 (if decide ((code.length : Int) > 1048576) then Q true else F11.E code (fun r r2 r3 => F41.E r r2 r3 (fun r4 r5 r6 => F42.E r r2 r3 (fun r7 r8 r9 => (∃ (J84 : Bool → Prop), ((if r6 != r9 then J84 true else F43.E r5 r8 (fun r10 => (if !r10 then J84 true else F76.E r (fun r11 => (if !r11 then J84 true else F76.E r2 (fun r12 => (if !r12 then J84 true else F76.E r3 (fun r13 => J84 (!r13)))))))))) ∧ ∀ (v : Bool), J84 v → (if v then (if r6 == r9 then F43.E r5 r8 (fun r14 => Q r14) else Q false) else F104.E r r2 (fun r15 => F104.E r r3 (fun r16 => (∃ (I325 : (List Feat) → (List Clash) → (List Change) → (List Change) → Int → Prop) (mu326 : (List Feat) → (List Clash) → (List Change) → (List Change) → Int → Nat), I325 r4 r5 r15 r16 0 ∧ ∀ (xs5 : List Feat) (xs6 : List Clash) (xs7 xs8 : List Change) (i2 : Int), I325 xs5 xs6 xs7 xs8 i2 → (if decide (i2 < (xs7.length : Int)) then (∃ (I387 : Int → Prop) (mu388 : Int → Nat), I387 0 ∧ ∀ (k2 : Int), I387 k2 → (if decide (k2 < (xs8.length : Int)) then ((0 : Int) ≤ i2 ∧ i2 < (xs7.length : Int)) ∧ ((0 : Int) ≤ k2 ∧ k2 < (xs8.length : Int)) ∧ (if ((nth xs7 i2).Id) == ((nth xs8 k2).Id) then Q true else (-9223372036854775808 ≤ k2) ∧ I387 (k2 + 1) ∧ mu388 (k2 + 1) < mu388 k2) else ((xs8.length : Int) ≤ 9223372036854775807 → I64 (i2 + 1)) ∧ I325 xs5 xs6 xs7 xs8 (i2 + 1) ∧ mu326 xs5 xs6 xs7 xs8 (i2 + 1) < mu326 xs5 xs6 xs7 xs8 i2)) else F108.E r3 xs7 (fun r17 r18 => F108.E r2 xs8 (fun r19 r20 => (∃ (J535 : Bool → Prop), ((if r18 != r6 then J535 true else J535 (r20 != r6))) ∧ ∀ (v2 : Bool), J535 v2 → (if v2 then Q false else (∃ (J567 : Bool → Prop), ((if !r6 then J567 true else (if (xs6.length : Int) == 0 then F44.E xs5 r17 (fun r21 => (if r21 then F44.E xs5 r19 (fun r22 => J567 r22) else J567 false)) else J567 false))) ∧ ∀ (v3 : Bool), J567 v3 → Q v3)))))))))))))))
theorem laws_FnSheetDiff.calls {O : Ob} (w0 : World) (hO : Ok w0 O) (code : List UInt8) (A1 : Option Addr) (n2 c3 : Nat) (hp4 : Sl Kd.byte w0 (Fr O) (G A1 n2 c3) code) (Q : Bool → Prop) (h : laws_FnSheetDiff.E code Q) :
  Ret Tryz.prog 10 [G A1 n2 c3] w0 (fun v w' => ∃ (r0 : Bool), v = vb r0 ∧ Q r0 ∧ Gr w0 w' none) := by
 unfold laws_FnSheetDiff.E at h;have H := h;clear h;have hc0 := Ct.init hO;refine X9 Tryz.func10 Z 143 Z [.tmp 2] Z Z ?_;refine Xc (Xe (Xf (vb false) Z (Xb (Xc (Xc (Xe (Xd (G A1 n2 c3) Z ?_)))))));have hl6 := hp4.le;refine Xa (X6 u22_ A1 n2 c3 hp4.len Z) (Xa (Xz (code.length : Int) 1048576 (decide ((code.length : Int) > 1048576)) Z Z Z) (Xb ?_));refine Xq (decide ((code.length : Int) > 1048576)) Z (fun hq7 => ?_) (fun hq7 => ?_)
 ·have H := Xi H hq7;exact Xc (Xe (Xf (vb true) Z (Xb (Xk ⟨[vb true], ⟨_, Z, Z⟩, true, Z, H, hc0.gr.g0⟩))))
 have H := Xj H hq7;refine Xx (Xc (Xe (Xd (G A1 n2 c3) Z ?_)));refine Xp go24 (F11.calls H hc0.ok hp4) Z ?_;rintro _ w8 ⟨r, r2, r3, aw, ax, ay, al, am, an, ao, ap, aq, rfl, H, g9, et, eu, ev⟩;have dw := hc0.k0 g9;refine Xd (.tuple #[G aw ax ay, G al am an, G ao ap aq]) Z (Xa (Yh [G aw ax ay, G al am an, G ao ap aq] 0 (G aw ax ay) Z Z) (Xa (Yh [G aw ax ay, G al am an, G ao ap aq] 1 (G al am an) Z Z) (Xa (Yh [G aw ax ay, G al am an, G ao ap aq] 2 (G ao ap aq) Z Z) (Xf (G aw ax ay) Z (Xf (G al am an) Z (Xf (G ao ap aq) Z (Xb (Xc ?_))))))));refine Xe (Xd (G aw ax ay) Z (Xd (G al am an) Z (Xd (G ao ap aq) Z ?_)));refine Xp go20 (F41.calls H dw.ok et eu ev) Z ?_;rintro _ ew ⟨r4, r5, r6, aj, b6, b7, au, dx, ai, a3, a4, rfl, H, ex, f2, ey, c4, c5, co⟩;have bg := dw.owns ex f2 ey;have ba : (((bk aj :: bk ai :: (au ++ [])) ++ []) : Ob).Perm (bk aj :: bk ai :: (au ++ [])) := RP;have c6 := bg.perm ba;refine Xd (.tuple #[G aj b6 b7, G ai a3 a4, vb r6]) Z (Xa (Yh [G aj b6 b7, G ai a3 a4, vb r6] 0 (G aj b6 b7) Z Z) (Xa (Yh [G aj b6 b7, G ai a3 a4, vb r6] 1 (G ai a3 a4) Z Z) (Xa (Yh [G aj b6 b7, G ai a3 a4, vb r6] 2 (vb r6) Z Z) (Xf (G aj b6 b7) Z (Xf (G ai a3 a4) Z (Xf (vb r6) Z (Xb (Xc ?_))))))));refine Xe (Xd (G aw ax ay) Z (Xd (G al am an) Z (Xd (G ao ap aq) Z ?_)));have dy := dw.stos ex ey;have dz := St.spa (w := ew) (A := (bk aj :: bk ai :: (au ++ []))) (L := []) (O := O) ba;have di := ((et.st dy).st dz);have c7 := ((eu.st dy).st dz);have cp := ((ev.st dy).st dz);refine Xp go21 (F42.calls H c6.ok di c7 cp) Z ?_;rintro _ f3 ⟨r7, r8, r9, cq, cr, cs, ar, a7, a8, rfl, H, az, f4, a5, ls, ct⟩;have bj := c6.owns az f4 a5;refine Xd (.tuple #[G cq cr cs, G ar a7 a8, vb r9]) Z (Xa (Yh [G cq cr cs, G ar a7 a8, vb r9] 0 (G cq cr cs) Z Z) (Xa (Yh [G cq cr cs, G ar a7 a8, vb r9] 1 (G ar a7 a8) Z Z) (Xa (Yh [G cq cr cs, G ar a7 a8, vb r9] 2 (vb r9) Z Z) (Xf (G cq cr cs) Z (Xf (G ar a7 a8) Z (Xf (vb r9) Z (Xb (Xc ?_))))))));refine Xc ?_;obtain ⟨f5, H, f6⟩ := H;refine Y1 (J := (fun t bh => ∃ (v : Bool), f5 v ∧ Has t [(3, G aw ax ay), (4, G al am an), (5, G ao ap aq), (6, G aj b6 b7), (7, G ai a3 a4), (8, vb r6), (10, G ar a7 a8), (11, vb r9), (68, vb v)] ∧ Cw [] w0 bh (bk ar :: bk aj :: bk ai :: (au ++ [])) O fun M => Sl kFeat bh (Fr M) (G aw ax ay) r ∧ Sl kFeat bh (Fr M) (G al am an) r2 ∧ Sl kFeat bh (Fr M) (G ao ap aq) r3 ∧ Ow (Kd.cells 4) 28 bh M (G aj b6 b7) dx ∧ DArr dFeat_28 bh au r4 dx ∧ Ow kClash 59 bh M (G ai a3 a4) r5 ∧ Ow kClash 59 bh M (G ar a7 a8) r8)) ?_ ?_
 ·refine Xe (Xd (vb r6) Z (Xd (vb r9) Z (Xa (Za u4_ r6 r9 (r6 != r9) Z Z Z) (Xd (vb (r6 != r9)) Z ?_))));rcases X8 (r6 != r9) with bb | bb
  ·have H := Xi H bb;refine Xm bb Z (Xm bb Z (Xm bb Z (Xm bb Z (Xa (Xs true (vb true) bb Z) (Xd (vb true) Z (Ya (dj := 54) Z Z (.inl Z) (Ya (dj := 54) Z Z (.inl Z) (Ya (dj := 54) Z Z (.inl Z) ?_))))))));refine Xa (Xs true (vb true) Z Z) (Xd (vb true) Z (Ya (dj := 59) Z Z (.inl Z) (Ya (dj := 59) Z Z (.inl Z) (Ya (dj := 59) Z Z (.inl Z) (Xa (Xs true (vb true) Z Z) (Xd (vb true) Z (Ya (dj := 64) Z Z (.inl Z) (Ya (dj := 64) Z Z (.inl Z) ?_))))))));refine Ya (dj := 64) Z Z (.inl Z) (Xa (Xs true (vb true) Z Z) (Xb ?_));have f7 := bj.drop 0 Z;have d0 := c6.stos az a5;have d1 := bj.std 0 Z;have f8 := ((di.st d0).st d1);have f9 := ((c7.st d0).st d1);have ga := ((cp.st d0).st d1);have gb := (bj.sd ((bg.spa c4 ba).sos az a5) 2 0 Z Z Z);have gc := (c5.k0 az);have gd := (bj.sd ((bg.spa co ba).sos az a5) 3 0 Z Z Z);have ge := (bj.sd ct 1 0 Z Z Z);exact ⟨true, H, (Xo Z), f7, f8, f9, ga, gb, gc, gd, ge⟩
  have H := Xj H bb;refine Xl bb Z (Xd (G ai a3 a4) Z (Xl bb Z (Xd (G ar a7 a8) Z (Xl bb Z ?_))));have gf := ((bg.spa co ba).sos az a5);have gg := bj.gv gf 3 Z;have d2 := bj.drop 3 Z;have gh := (bj.sd ct 1 3 Z Z Z);have gi := d2.gv gh 1 Z;have gj := d2.drop 1 Z;have gk := d2.std 1 Z;refine Xp go22 (F43.calls H gj.ok (gg.st gk) gi) Z ?_;rintro _ gl ⟨r10, rfl, H, a0⟩;have b8 := bj.k0 a0;refine Xl bb Z (Xa (Yg r10 Z) (Xa (Xs false (vb (!r10)) bb Z) (Xd (vb (!r10)) Z ?_)));rcases X8 (!r10) with bl | bl
  ·have H := Xi H bl;refine Xm bl Z (Xm bl Z (Xm bl Z (Xa (Xs true (vb true) bl Z) (Xd (vb true) Z (Ya (dj := 59) Z Z (.inl Z) (Ya (dj := 59) Z Z (.inl Z) (Ya (dj := 59) Z Z (.inl Z) (Xa (Xs true (vb true) Z Z) ?_))))))));refine Xd (vb true) Z (Ya (dj := 64) Z Z (.inl Z) (Ya (dj := 64) Z Z (.inl Z) (Ya (dj := 64) Z Z (.inl Z) (Xa (Xs true (vb true) Z Z) (Xb ?_)))));have gm := b8.drop 0 Z;have d3 := c6.stos az a5;have d4 := bj.stn a0;have d5 := b8.std 0 Z;have gn := (((di.st d3).st d4).st d5);have gp := (((c7.st d3).st d4).st d5);have gq := (((cp.st d3).st d4).st d5);have gs := (b8.sd (((bg.spa c4 ba).sos az a5).sn a0) 2 0 Z Z Z);have gt := ((c5.k0 az).k0 a0);have gu := (b8.sd (((bg.spa co ba).sos az a5).sn a0) 3 0 Z Z Z);have gw := (b8.sd (ct.sn a0) 1 0 Z Z Z);exact ⟨true, H, (Xo Z), gm, gn, gp, gq, gs, gt, gu, gw⟩
  have H := Xj H bl;refine Xl bl Z (Xd (G aw ax ay) Z (Xl bl Z ?_));have cu := c6.stos az a5;have cv := bj.stn a0;have dk := ((di.st cu).st cv);refine Xp go26 (F76.calls H b8.ok dk) Z ?_;rintro _ gx ⟨r11, rfl, H, a6⟩;have b9 := b8.k0 a6;refine Xl bl Z (Xa (Yg r11 Z) (Xa (Xs false (vb (!r11)) bl Z) (Xd (vb (!r11)) Z ?_)));rcases X8 (!r11) with bm | bm
  ·have H := Xi H bm;refine Xm bm Z (Xm bm Z (Xm bm Z (Xa (Xs true (vb true) bm Z) (Xd (vb true) Z (Ya (dj := 64) Z Z (.inl Z) (Ya (dj := 64) Z Z (.inl Z) (Ya (dj := 64) Z Z (.inl Z) (Xa (Xs true (vb true) Z Z) ?_))))))));refine Xb ?_;have gy := b9.drop 0 Z;have d6 := b8.stn a6;have d7 := b9.std 0 Z;have gz := ((dk.st d6).st d7);have g1 := ((((c7.st cu).st cv).st d6).st d7);have g2 := ((((cp.st cu).st cv).st d6).st d7);have g3 := (b9.sd ((((bg.spa c4 ba).sos az a5).sn a0).sn a6) 2 0 Z Z Z);have g4 := (((c5.k0 az).k0 a0).k0 a6);have g5 := (b9.sd ((((bg.spa co ba).sos az a5).sn a0).sn a6) 3 0 Z Z Z);have g6 := (b9.sd ((ct.sn a0).sn a6) 1 0 Z Z Z);exact ⟨true, H, (Xo Z), gy, gz, g1, g2, g3, g4, g5, g6⟩
  have H := Xj H bm;refine Xl bm Z (Xd (G al am an) Z (Xl bm Z ?_));have c8 := b8.stn a6;have d8 := (((c7.st cu).st cv).st c8);refine Xp go26 (F76.calls H b9.ok d8) Z ?_;rintro _ g7 ⟨r12, rfl, H, bn⟩;have cf := b9.k0 bn;refine Xl bm Z (Xa (Yg r12 Z) (Xa (Xs false (vb (!r12)) bm Z) (Xd (vb (!r12)) Z ?_)));rcases X8 (!r12) with bo | bo
  ·have H := Xi H bo;refine Xm bo Z (Xm bo Z (Xm bo Z (Xa (Xs true (vb true) bo Z) (Xb ?_))));have g8 := cf.drop 0 Z;have d9 := b9.stn bn;have ea := cf.std 0 Z;have ha := (((dk.st c8).st d9).st ea);have hb := ((d8.st d9).st ea);have hc := (((((cp.st cu).st cv).st c8).st d9).st ea);have hd := (cf.sd (((((bg.spa c4 ba).sos az a5).sn a0).sn a6).sn bn) 2 0 Z Z Z);have he := ((((c5.k0 az).k0 a0).k0 a6).k0 bn);have hf := (cf.sd (((((bg.spa co ba).sos az a5).sn a0).sn a6).sn bn) 3 0 Z Z Z);have hg := (cf.sd (((ct.sn a0).sn a6).sn bn) 1 0 Z Z Z);exact ⟨true, H, (Xo Z), g8, ha, hb, hc, hd, he, hf, hg⟩
  have H := Xj H bo;refine Xl bo Z (Xd (G ao ap aq) Z (Xl bo Z ?_));have eb := b9.stn bn;have ez := ((((cp.st cu).st cv).st c8).st eb);refine Xp go26 (F76.calls H cf.ok ez) Z ?_;rintro _ lt ⟨r13, rfl, H, cw⟩;have c9 := cf.k0 cw;refine Xl bo Z (Xa (Yg r13 Z) (Xa (Xs false (vb (!r13)) bo Z) (Xb ?_)));have hh := c9.drop 0 Z;have ec := cf.stn cw;have ed := c9.std 0 Z;have hi := ((((dk.st c8).st eb).st ec).st ed);have hj := (((d8.st eb).st ec).st ed);have hk := ((ez.st ec).st ed);have hl := (c9.sd ((((((bg.spa c4 ba).sos az a5).sn a0).sn a6).sn bn).sn cw) 2 0 Z Z Z);have hm := (((((c5.k0 az).k0 a0).k0 a6).k0 bn).k0 cw);have hn := (c9.sd ((((((bg.spa co ba).sos az a5).sn a0).sn a6).sn bn).sn cw) 3 0 Z Z Z);have ho := (c9.sd ((((ct.sn a0).sn a6).sn bn).sn cw) 1 0 Z Z Z);exact ⟨!r13, H, (Xo Z), hh, hi, hj, hk, hl, hm, hn, ho⟩
 rintro lu bh ⟨v, hp, hq, cg, e0, e1, hr, hs, ht, e2, hu⟩;obtain ⟨lv, rfl⟩ := Has.ins hq;have H := f6 v hp;refine Xq v Z (fun ee => ?_) (fun ee => ?_)
 ·have H := Xi H ee;refine Xc (Xe (Xd (vb r6) Z (Xd (vb r9) Z (Xa (Za u4_ r6 r9 (r6 == r9) Z Z Z) (Xd (vb (r6 == r9)) Z ?_)))));rcases X8 (r6 == r9) with bp | bp
  ·have H := Xi H bp;refine Xl bp Z (Xd (G ai a3 a4) Z (Xl bp Z (Xd (G ar a7 a8) Z (Xl bp Z ?_))));have hv := cg.gv e2 2 Z;have ef := cg.drop 2 Z;have hw := (cg.sd hu 0 2 Z Z Z);have hx := ef.gv hw 0 Z;have hy : Ct [] w0 bh (bk aj :: (au ++ [])) O := ef.drop 0 Z;have hz := ef.std 0 Z;refine Xp go22 (F43.calls H hy.ok (hv.st hz) hx) Z ?_;rintro _ lw ⟨r14, rfl, H, h0⟩;have h1 := cg.k0 h0;refine Xa (Xs true (vb r14) bp Z) (Xf (vb r14) Z (Xb (Xk ?_)));have h2 := h1.clear;exact ⟨[vb r14], ⟨_, Z, Z⟩, r14, Z, H, h2.gr.g0⟩
  have H := Xj H bp;refine Xm bp Z (Xm bp Z (Xm bp Z (Xa (Xs false (vb false) bp Z) (Xf (vb false) Z (Xb (Xk ?_))))));have h3 := cg.clear;exact ⟨[vb false], ⟨_, Z, Z⟩, false, Z, H, h3.gr.g0⟩
 have H := Xj H ee;refine Xx (Xc (Xe (Xd (G aw ax ay) Z (Xd (G al am an) Z ?_))));refine Xp go35 (F104.calls H cg.ok e0 e1) Z ?_;rintro _ e3 ⟨r15, a9, e4, e5, ca, lx, rfl, H, da, h4, dl, h5, h6⟩;have dm := cg.owns da h4 dl;have db : (((bk a9 :: (ca ++ [])) ++ (bk ar :: bk aj :: bk ai :: (au ++ []))) : Ob).Perm (bk a9 :: bk ar :: bk aj :: bk ai :: (ca ++ (au ++ []))) := RP;have eg := dm.perm db;refine Xf (G a9 e4 e5) Z (Xb (Xc (Xe (Xd (G aw ax ay) Z (Xd (G ao ap aq) Z ?_)))));have eh := cg.stos da dl;have ei := St.spa (w := e3) (A := (bk a9 :: (ca ++ []))) (L := (bk ar :: bk aj :: bk ai :: (au ++ []))) (O := O) db;have h7 := ((e0.st eh).st ei);have e6 := ((hr.st eh).st ei);refine Xp go35 (F104.calls H eg.ok h7 e6) Z ?_;rintro _ h8 ⟨r16, bq, e7, e8, cb, ly, rfl, H, cl, h9, dc, ia, ib⟩;have dd := eg.owns cl h9 dc;have cx : (((bk bq :: (cb ++ [])) ++ (bk a9 :: bk ar :: bk aj :: bk ai :: (ca ++ (au ++ [])))) : Ob).Perm (bk bq :: bk a9 :: bk ar :: bk aj :: bk ai :: (cb ++ (ca ++ (au ++ [])))) := RP;have cy := dd.perm cx;refine Xf (G bq e7 e8) Z (Xb (Xc (Xc (Xe (Xf (vi 0) Z (Xb (X2 ?_)))))));have dn := cy.drop 2 Z;have ic := (cy.sd (dd.spa ((dm.spa h5 db).sos cl dc) cx) 1 2 Z Z Z);have id := (h6.k0 cl);have cz : ((bk bq :: bk a9 :: bk aj :: bk ai :: (cb ++ (ca ++ (au ++ [])))) : Ob).Perm (ca ++ (bk bq :: bk a9 :: bk aj :: bk ai :: (cb ++ (au ++ [])))) := RP;obtain ⟨ie, dp, lz⟩ := Dp.own (L := (bk bq :: bk a9 :: bk aj :: bk ai :: (cb ++ (ca ++ (au ++ []))))) (O := O) ic id dn cz (memi 1 Z);have ig := (dn.odr (cy.sd (dd.spa ia cx) 0 2 Z Z Z) cz 0 Z);have ih := ib;have c0 : ((bk bq :: bk a9 :: bk aj :: bk ai :: (cb ++ (au ++ []))) : Ob).Perm (cb ++ (bk bq :: bk a9 :: bk aj :: bk ai :: (au ++ []))) := RP;obtain ⟨ii, ij, l0⟩ := Dp.own (L := (bk bq :: bk a9 :: bk aj :: bk ai :: (cb ++ (au ++ [])))) (O := O) ig ih dp c0 (memi 0 Z);obtain ⟨ik, il, ej, H⟩ := H;have e9 := eg.stos cl dc;have fa := St.spa (w := h8) (A := (bk bq :: (cb ++ []))) (L := (bk a9 :: bk ar :: bk aj :: bk ai :: (ca ++ (au ++ [])))) (O := O) cx;have fb := cy.std 2 Z;have im := (((((((e1.st eh).st ei).st e9).st fa).st fb).st (St.drops _ O cz)).st (St.drops _ O c0));have io := (((((e6.st e9).st fa).st fb).st (St.drops _ O cz)).st (St.drops _ O c0));have ip := (dp.odr (dn.odr (cy.sd (dd.spa ((dm.spa (hs.sos da dl) db).sos cl dc) cx) 3 2 Z Z Z) cz 2 Z) c0 2 Z);have iq := ((ht.k0 da).k0 cl);have ir := (dp.odr (dn.odr (cy.sd (dd.spa ((dm.spa (e2.sos da dl) db).sos cl dc) cx) 4 2 Z Z Z) cz 3 Z) c0 3 Z);have it := (dp.odr ie c0 1 Z);refine Yi (α := (List Feat) × (List (List Value)) × Ob × (Option Addr) × Nat × Nat × (List Clash) × (Option Addr) × Nat × Nat × (List Change) × (Option Addr) × Nat × Nat × (List Change) × (Option Addr) × Nat × Nat × Int) (fun (xs5, ch, ac, aa, a1, a2, xs6, ab, b0, b1, xs7, ae, bc, bd, xs8, ag, be, bf, i2) t br => ik xs5 xs6 xs7 xs8 i2 ∧ Has t [(4, G al am an), (5, G ao ap aq), (6, G aa a1 a2), (7, G ab b0 b1), (8, vb r6), (12, G ae bc bd), (13, G ag be bf), (14, vi i2)] ∧ Cw [] w0 br (bk ag :: bk ae :: bk aa :: bk ab :: (ac ++ [])) O fun M => Sl kFeat br (Fr M) (G al am an) r2 ∧ Sl kFeat br (Fr M) (G ao ap aq) r3 ∧ Ow (Kd.cells 4) 28 br M (G aa a1 a2) ch ∧ DArr dFeat_28 br ac xs5 ch ∧ Ow kClash 59 br M (G ab b0 b1) xs6 ∧ Ow kChange 68 br M (G ae bc bd) xs7 ∧ Ow kChange 68 br M (G ag be bf) xs8) (fun (xs5, _, _, _, _, _, xs6, _, _, _, xs7, _, _, _, xs8, _, _, _, i2) => il xs5 xs6 xs7 xs8 i2) (r4, dx, au, aj, b6, b7, r5, ai, a3, a4, r15, a9, e4, e5, r16, bq, e7, e8, 0) ⟨ej, (Xo Z), ij, im, io, ip, iq, ir, it, ii⟩ ?_;rintro ⟨xs5, ch, ac, aa, a1, a2, xs6, ab, b0, b1, xs7, ae, bc, bd, xs8, ag, be, bf, i2⟩ _ br ⟨ej, iu, cm, fc, fd, ek, el, em, dq, fe⟩;obtain ⟨l1, rfl⟩ := Has.ins iu;have H := H xs5 xs6 xs7 xs8 i2 ej;refine Xc (Xc (Xe (Xd (vi i2) Z (Xd (G ae bc bd) Z ?_))));have l2 := dq.le;refine Xa (X6 u65_ ae bc bd dq.len Z) (Xa (Xz i2 (xs7.length : Int) (decide (i2 < (xs7.length : Int))) Z Z Z) (Xb ?_));refine Xq (decide (i2 < (xs7.length : Int))) Z (fun en => ?_) (fun en => ?_)
 ·have H := Xi H en;refine Xx (Xc (X2 (Xc (Xe (Xf (vi 0) Z (Xb (X2 ?_)))))));obtain ⟨iv, iw, eo, H⟩ := H;refine Yi (α := Int) (fun (sv__ : Int) t b2 => match sv__ with | k2 => iv k2 ∧ Has t [(4, G al am an), (5, G ao ap aq), (6, G aa a1 a2), (7, G ab b0 b1), (8, vb r6), (12, G ae bc bd), (13, G ag be bf), (14, vi i2), (15, vi k2)] ∧ Cw [] w0 b2 (bk ag :: bk ae :: bk aa :: bk ab :: (ac ++ [])) O fun M => Sl kFeat b2 (Fr M) (G al am an) r2 ∧ Sl kFeat b2 (Fr M) (G ao ap aq) r3 ∧ Ow (Kd.cells 4) 28 b2 M (G aa a1 a2) ch ∧ DArr dFeat_28 b2 ac xs5 ch ∧ Ow kClash 59 b2 M (G ab b0 b1) xs6 ∧ Ow kChange 68 b2 M (G ae bc bd) xs7 ∧ Ow kChange 68 b2 M (G ag be bf) xs8) (fun (sv__ : Int) => match sv__ with | k2 => iw k2) 0 ⟨eo, (Xo Z), cm, fc, fd, ek, el, em, dq, fe⟩ ?_;rintro k2 _ b2 ⟨eo, ix, ep, ff, fg, fh, fi, fj, dr, c1⟩;obtain ⟨l3, rfl⟩ := Has.ins ix;have H := H k2 eo;refine Xc (Xc (Xe (Xd (vi k2) Z (Xd (G ag be bf) Z ?_))));have fk := c1.le;refine Xa (X6 u65_ ag be bf c1.len Z) (Xa (Xz k2 (xs8.length : Int) (decide (k2 < (xs8.length : Int))) Z Z Z) (Xb ?_));refine Xq (decide (k2 < (xs8.length : Int))) Z (fun ds => ?_) (fun ds => ?_)
  ·have H := Xi H ds;refine Xx (Xc (X2 (Xc (Yz (fun x => Gr b2 x none) RK RK (Gr.drew _) ?_))));refine Xy (G ae bc bd) Z (Xy (vi i2) Z ?_);obtain ⟨fl, H⟩ := H;obtain ⟨dt, l4, iy, iz, i0⟩ := dr.get default RD i2 fl;obtain ⟨l5, l6, l7, l8, l9, ma, mb, mc, md, me, mf, mg, rfl, mh, mi, mj, mk, ml, mm, mn⟩ := kChange.op iz;refine Xh (X3 u65_ Zy ae dt bc bd dr.len i2 Z iy Z fl) (Xh (Xn fa68_0 (dt.add (i2.toNat * 11)) ((dt.add (i2.toNat * 11)).add 0) Z Z) (Xh (Xr ag9 cQ ((dt.add (i2.toNat * 11)).add 0) (vs ((nth xs7 i2).Id)) Z (i0 0 _ Z)) (Xy (G ag be bf) Z (Xy (vi k2) Z ?_))));obtain ⟨fm, H⟩ := H;obtain ⟨du, mo, i1, i3, i4⟩ := c1.get default RD k2 fm;obtain ⟨mp, mq, mr, ms, mt, mu, mv, mw, mx, my, mz, m0, rfl, m1, m2, m3, m4, m5, m6, m7⟩ := kChange.op i3;refine Xh (X3 u65_ Zy ag du be bf c1.len k2 Z i1 Z fm) (Xh (Xn fa68_0 (du.add (k2.toNat * 11)) ((du.add (k2.toNat * 11)).add 0) Z Z) (Xh (Xr ag9 cQ ((du.add (k2.toNat * 11)).add 0) (vs ((nth xs8 k2).Id)) Z (i4 0 _ Z)) (Xh (Yy ((nth xs7 i2).Id) ((nth xs8 k2).Id) (((nth xs7 i2).Id) == ((nth xs8 k2).Id)) Z Z Z) (Yj fun m8 cn => ?_))));have fn := ep.k0 cn;refine Xq (((nth xs7 i2).Id) == ((nth xs8 k2).Id)) Z (fun eq => ?_) (fun eq => ?_)
   ·have H := Xi H eq;refine Xc ?_;have i5 : ((bk ag :: bk ae :: bk aa :: bk ab :: (ac ++ [])) : Ob).Perm ((bk ag :: bk ae :: bk aa :: bk ab :: (ac ++ [])) ++ []) := RP;have i6 := fn.drops i5;exact Xe (Xf (vb true) Z (Xb (Xk ⟨[vb true], ⟨_, Z, Z⟩, true, Z, H, i6.gr.g0⟩)))
   have H := Xj H eq;refine Xx (Xe (Xd (vi k2) Z ?_));obtain ⟨i7, H⟩ := H;have i8 : I64 (k2 + 1) := i64_succ (of_decide_eq_true ds) fk i7;refine Xa (X5 k2 1 Z Z i8) (Xf (vi (k2 + 1)) Z (Xb ?_));obtain ⟨i9, ja⟩ := H;have fo := ep.stn cn;have jb := (fh.sn cn);have jc := (fi.k0 cn);have jd := (fj.sn cn);have je := (dr.sn cn);have jf := (c1.sn cn);exact ⟨k2 + 1, ja, i9, (Xo Z), fn, (ff.st fo), (fg.st fo), jb, jc, jd, je, jf⟩
  have H := Xj H ds;refine Yf (xin_hit ?_);refine Xe (Xd (vi i2) Z ?_);obtain ⟨jg, H⟩ := H;have jh := jg (len_le fk);refine Xa (X5 i2 1 Z Z jh) (Xf (vi (i2 + 1)) Z (Xb ?_));obtain ⟨ji, jj⟩ := H;exact ⟨(xs5, ch, ac, aa, a1, a2, xs6, ab, b0, b1, xs7, ae, bc, bd, xs8, ag, be, bf, i2 + 1), jj, ji, (Xo Z), ep, ff, fg, fh, fi, fj, dr, c1⟩
 have H := Xj H en;refine Yf (xin_hit ?_);refine Xc (Xe (Xd (G ao ap aq) Z (Xd (G ae bc bd) Z ?_)));have jk := cm.gv dq 1 Z;have jl : Ct [] w0 br (bk ag :: bk aa :: bk ab :: (ac ++ [])) O := cm.drop 1 Z;have jm := cm.std 1 Z;refine Xp go36 (F108.calls H jl.ok (fd.st jm) jk) Z ?_;rintro _ er ⟨r17, r18, ad, bs, bt, ah, fp, rfl, H, b3, jn, ci, jo, fq⟩;have jp := Ok.unl (L := (bk ag :: bk ae :: bk aa :: bk ab :: (ac ++ []))) (L' := (bk ag :: bk aa :: bk ab :: (ac ++ []))) (O := O) cm b3 jn ci;have fr := Ow.unl (L := (bk ag :: bk ae :: bk aa :: bk ab :: (ac ++ []))) (L' := (bk ag :: bk aa :: bk ab :: (ac ++ []))) (O := O) (fun _ _ _ _ _ _ h => h) (.cons_cons _ (.cons _ (.cons_cons _ (.cons_cons _ (.append (.refl _) (.refl _)))))) jo;have cj := cm.owns b3 jp ci;have cc : (((bk ad :: (ah ++ [])) ++ (bk ag :: bk ae :: bk aa :: bk ab :: (ac ++ []))) : Ob).Perm (bk ad :: bk ag :: bk ae :: bk aa :: bk ab :: (ah ++ (ac ++ []))) := RP;have de := cj.perm cc;refine Xd (.tuple #[G ad bs bt, vb r18]) Z (Xa (Yh [G ad bs bt, vb r18] 0 (G ad bs bt) Z Z) (Xa (Yh [G ad bs bt, vb r18] 1 (vb r18) Z Z) (Xf (G ad bs bt) Z (Xf (vb r18) Z (Xb (Xc (Xe (Xd (G al am an) Z ?_))))))));refine Xd (G ag be bf) Z ?_;have jq := (cj.spa (fe.sos b3 ci) cc);have jr := de.gv jq 1 Z;have js : Ct [] w0 er (bk ad :: bk ae :: bk aa :: bk ab :: (ah ++ (ac ++ []))) O := de.drop 1 Z;have jt := cm.stos b3 ci;have ju := St.spa (w := er) (A := (bk ad :: (ah ++ []))) (L := (bk ag :: bk ae :: bk aa :: bk ab :: (ac ++ []))) (O := O) cc;have jv := de.std 1 Z;have jw := (((fc.st jt).st ju).st jv);refine Xp go36 (F108.calls H js.ok jw jr) Z ?_;rintro _ fs ⟨r19, r20, af, bu, bv, ak, ft, rfl, H, bi, jx, ck, jy, fu⟩;have jz := Ok.unl (L := (bk ad :: bk ag :: bk ae :: bk aa :: bk ab :: (ah ++ (ac ++ [])))) (L' := (bk ad :: bk ae :: bk aa :: bk ab :: (ah ++ (ac ++ [])))) (O := O) de bi jx ck;have fv := Ow.unl (L := (bk ad :: bk ag :: bk ae :: bk aa :: bk ab :: (ah ++ (ac ++ [])))) (L' := (bk ad :: bk ae :: bk aa :: bk ab :: (ah ++ (ac ++ [])))) (O := O) (fun _ _ _ _ _ _ h => h) (.cons_cons _ (.cons _ (.cons_cons _ (.cons_cons _ (.cons_cons _ (.append (.refl _) (.append (.refl _) (.refl _)))))))) jy;have cd := de.owns bi jz ck;have ce : (((bk af :: (ak ++ [])) ++ (bk ad :: bk ag :: bk ae :: bk aa :: bk ab :: (ah ++ (ac ++ [])))) : Ob).Perm (bk af :: bk ad :: bk ag :: bk ae :: bk aa :: bk ab :: (ak ++ (ah ++ (ac ++ [])))) := RP;have b4 := cd.perm ce;refine Xd (.tuple #[G af bu bv, vb r20]) Z (Xa (Yh [G af bu bv, vb r20] 0 (G af bu bv) Z Z) (Xa (Yh [G af bu bv, vb r20] 1 (vb r20) Z Z) (Xf (G af bu bv) Z (Xf (vb r20) Z (Xb (Xc (Xc ?_)))))));obtain ⟨j0, H, j1⟩ := H;refine Y1 (J := (fun t b5 => ∃ (v2 : Bool), j0 v2 ∧ Has t [(6, G aa a1 a2), (7, G ab b0 b1), (8, vb r6), (16, G ad bs bt), (18, G af bu bv), (125, vb v2)] ∧ Cw [] w0 b5 (bk af :: bk ad :: bk aa :: bk ab :: (ak ++ (ah ++ (ac ++ [])))) O fun M => Ow (Kd.cells 4) 28 b5 M (G aa a1 a2) ch ∧ DArr dFeat_28 b5 ac xs5 ch ∧ Ow kClash 59 b5 M (G ab b0 b1) xs6 ∧ Ow (Kd.cells 4) 28 b5 M (G ad bs bt) fp ∧ DArr dFeat_28 b5 ah r17 fp ∧ Ow (Kd.cells 4) 28 b5 M (G af bu bv) ft ∧ DArr dFeat_28 b5 ak r19 ft)) ?_ ?_
 ·refine Xe (Xd (vb r18) Z (Xd (vb r6) Z (Xa (Za u4_ r18 r6 (r18 != r6) Z Z Z) (Xd (vb (r18 != r6)) Z ?_))));rcases X8 (r18 != r6) with bw | bw
  ·have H := Xi H bw;refine Xm bw Z (Xm bw Z (Xm bw Z (Xa (Xs true (vb true) bw Z) (Xb ?_))));have df : Ct [] w0 fs (bk af :: bk ad :: bk ae :: bk aa :: bk ab :: (ak ++ (ah ++ (ac ++ [])))) O := b4.drop 2 Z;have j2 := df.drop 2 Z;have j3 := (df.sd (b4.sd (cd.spa ((cj.spa (ek.sos b3 ci) cc).sos bi ck) ce) 4 2 Z Z Z) 3 2 Z Z Z);have j4 := ((el.k0 b3).k0 bi);have j5 := (df.sd (b4.sd (cd.spa ((cj.spa (em.sos b3 ci) cc).sos bi ck) ce) 5 2 Z Z Z) 4 2 Z Z Z);have j6 := (df.sd (b4.sd (cd.spa ((cj.spa fr cc).sos bi ck) ce) 1 2 Z Z Z) 1 2 Z Z Z);have j7 := (fq.k0 bi);have j8 := (df.sd (b4.sd (cd.spa fv ce) 0 2 Z Z Z) 0 2 Z Z Z);have j9 := fu;exact ⟨true, H, (Xo Z), j2, j3, j4, j5, j6, j7, j8, j9⟩
  have H := Xj H bw;refine Xl bw Z (Xd (vb r20) Z (Xl bw Z (Xd (vb r6) Z (Xl bw Z (Xa (Za u4_ r20 r6 (r20 != r6) Z Z Z) (Xa (Xs false (vb (r20 != r6)) bw Z) (Xb ?_)))))));have dg : Ct [] w0 fs (bk af :: bk ad :: bk ae :: bk aa :: bk ab :: (ak ++ (ah ++ (ac ++ [])))) O := b4.drop 2 Z;have ka := dg.drop 2 Z;have kb := (dg.sd (b4.sd (cd.spa ((cj.spa (ek.sos b3 ci) cc).sos bi ck) ce) 4 2 Z Z Z) 3 2 Z Z Z);have kc := ((el.k0 b3).k0 bi);have kd := (dg.sd (b4.sd (cd.spa ((cj.spa (em.sos b3 ci) cc).sos bi ck) ce) 5 2 Z Z Z) 4 2 Z Z Z);have ke := (dg.sd (b4.sd (cd.spa ((cj.spa fr cc).sos bi ck) ce) 1 2 Z Z Z) 1 2 Z Z Z);have kf := (fq.k0 bi);have kg := (dg.sd (b4.sd (cd.spa fv ce) 0 2 Z Z Z) 0 2 Z Z Z);have kh := fu;exact ⟨r20 != r6, H, (Xo Z), ka, kb, kc, kd, ke, kf, kg, kh⟩
 rintro m9 b5 ⟨v2, ki, kj, c2, fw, fx, fy, kk, kl, km, kn⟩;obtain ⟨na, rfl⟩ := Has.ins kj;have H := j1 v2 ki;refine Xq v2 Z (fun es => ?_) (fun es => ?_)
 ·have H := Xi H es;refine Xc ?_;have ko : ((bk af :: bk ad :: bk aa :: bk ab :: (ak ++ (ah ++ (ac ++ [])))) : Ob).Perm ((bk af :: bk ad :: bk aa :: bk ab :: (ak ++ (ah ++ (ac ++ [])))) ++ []) := RP;have kp := c2.drops ko;exact Xe (Xf (vb false) Z (Xb (Xk ⟨[vb false], ⟨_, Z, Z⟩, false, Z, H, kp.gr.g0⟩)))
 have H := Xj H es;refine Xx (Xc ?_);obtain ⟨kq, H, kr⟩ := H;refine Y1 (J := (fun t fz => ∃ (v3 : Bool), kq v3 ∧ Has t [(2, vb v3)] ∧ Ct [] w0 fz [] O)) ?_ ?_
 ·refine Xe (Xd (vb r6) Z (Xa (Yg r6 Z) (Xd (vb (!r6)) Z ?_)));rcases X8 (!r6) with av | av
  ·have H := Xi H av;refine Xm av Z (Xm av Z (Xm av Z (Xm av Z (Zd Z (Zd Z (Zd Z (Xm av Z (Xm av Z ?_))))))));refine Zd Z (Zd Z (Zd Z (Xm av Z (Xa (Xs true (vb true) av Z) (Xf (vb true) Z (Xb ?_))))));have ks : ((bk af :: bk ad :: bk aa :: bk ab :: (ak ++ (ah ++ (ac ++ [])))) : Ob).Perm ((bk af :: bk ad :: bk aa :: bk ab :: (ak ++ (ah ++ (ac ++ [])))) ++ []) := RP;have kt := c2.drops ks;exact ⟨true, H, (Xo Z), kt⟩
  have H := Xj H av;refine Xl av Z (Xd (G ab b0 b1) Z (Xl av Z ?_));have nb := fy.le;refine Xa (X6 u44_ ab b0 b1 fy.len Z) (Xl av Z (Xa (Xz (xs6.length : Int) 0 ((xs6.length : Int) == 0) Z Z Z) (Xl av Z (Xd (vb ((xs6.length : Int) == 0)) Z ?_))));rcases X8 ((xs6.length : Int) == 0) with bx | bx
  ·have H := Xi H bx;refine Xl bx Z (Xd (G aa a1 a2) Z (Xl bx Z (Xd (G ad bs bt) Z (Xl bx Z ?_))));have f0 : ((bk af :: bk ad :: bk aa :: bk ab :: (ak ++ (ah ++ (ac ++ [])))) : Ob).Perm (bk aa :: (ac ++ (bk af :: bk ad :: bk ab :: (ak ++ (ah ++ []))))) := RP;obtain ⟨ku, kv, nc⟩ := Dp.gv (L := (bk af :: bk ad :: bk aa :: bk ab :: (ak ++ (ah ++ (ac ++ []))))) (O := O) (v := G aa a1 a2) fw fx c2 f0;have kx := (c2.odr (rs := bk aa :: ac) kk f0 1 Z);have ky := kl;have kz : ((bk af :: bk ad :: bk ab :: (ak ++ (ah ++ []))) : Ob).Perm (bk ad :: (ah ++ (bk af :: bk ab :: (ak ++ [])))) := RP;obtain ⟨k1, k3, k4⟩ := Dp.gv (L := (bk af :: bk ad :: bk ab :: (ak ++ (ah ++ [])))) (O := O) (v := G ad bs bt) kx ky kv kz;refine Xp go25 (F44.calls H k3.ok (ku.st k4) k1) Z ?_;rintro _ k5 ⟨r21, rfl, H, dh⟩;have dv := c2.k0 dh;refine Xl av Z (Xa (Xs true (vb r21) bx Z) (Xl av Z (Xd (vb r21) Z ?_)));rcases X8 r21 with bz | bz
   ·have H := Xi H bz;refine Xl bz Z (Xd (G aa a1 a2) Z (Xl bz Z (Xd (G af bu bv) Z (Xl bz Z ?_))));have k6 := (fw.sn dh);have k7 := (fx.k0 dh);have f1 : ((bk af :: bk ad :: bk aa :: bk ab :: (ak ++ (ah ++ (ac ++ [])))) : Ob).Perm (bk aa :: (ac ++ (bk af :: bk ad :: bk ab :: (ak ++ (ah ++ []))))) := RP;obtain ⟨k8, k9, nd⟩ := Dp.gv (L := (bk af :: bk ad :: bk aa :: bk ab :: (ak ++ (ah ++ (ac ++ []))))) (O := O) (v := G aa a1 a2) k6 k7 dv f1;have la := (dv.odr (rs := bk aa :: ac) (km.sn dh) f1 0 Z);have lb := (kn.k0 dh);have lc : ((bk af :: bk ad :: bk ab :: (ak ++ (ah ++ []))) : Ob).Perm (bk af :: (ak ++ (bk ad :: bk ab :: (ah ++ [])))) := RP;obtain ⟨ld, lf, lg⟩ := Dp.gv (L := (bk af :: bk ad :: bk ab :: (ak ++ (ah ++ [])))) (O := O) (v := G af bu bv) la lb k9 lc;refine Xp go25 (F44.calls H lf.ok (k8.st lg) ld) Z ?_;rintro _ ne ⟨r22, rfl, H, lh⟩;have li := dv.k0 lh;refine Xl av Z (Xa (Xs true (vb r22) bz Z) (Xa (Xs false (vb r22) av Z) (Xf (vb r22) Z (Xb ?_))));have lj : ((bk af :: bk ad :: bk aa :: bk ab :: (ak ++ (ah ++ (ac ++ [])))) : Ob).Perm ((bk af :: bk ad :: bk aa :: bk ab :: (ak ++ (ah ++ (ac ++ [])))) ++ []) := RP;have lk := li.drops lj;exact ⟨r22, H, (Xo Z), lk⟩
   have H := Xj H bz;refine Xm bz Z (Xm bz Z (Xm bz Z (Xl av Z (Xa (Xs false (vb false) bz Z) (Xa (Xs false (vb false) av Z) (Xf (vb false) Z (Xb ?_)))))));have ll : ((bk af :: bk ad :: bk aa :: bk ab :: (ak ++ (ah ++ (ac ++ [])))) : Ob).Perm ((bk af :: bk ad :: bk aa :: bk ab :: (ak ++ (ah ++ (ac ++ [])))) ++ []) := RP;have lm := dv.drops ll;exact ⟨false, H, (Xo Z), lm⟩
  have H := Xj H bx;refine Xm bx Z (Xm bx Z (Xm bx Z (Xl av Z (Xa (Xs false (vb false) bx Z) (Xl av Z (Xd (vb false) Z (Ya (dj := 137) Z Z (.inl Z) (Ya (dj := 137) Z Z (.inl Z) ?_))))))));refine Ya (dj := 137) Z Z (.inl Z) (Xl av Z (Xa (Xs false (vb false) Z Z) (Xa (Xs false (vb false) av Z) (Xf (vb false) Z (Xb ?_)))));have ln : ((bk af :: bk ad :: bk aa :: bk ab :: (ak ++ (ah ++ (ac ++ [])))) : Ob).Perm ((bk af :: bk ad :: bk aa :: bk ab :: (ak ++ (ah ++ (ac ++ [])))) ++ []) := RP;have lo := c2.drops ln;exact ⟨false, H, (Xo Z), lo⟩
 rintro nf fz ⟨v3, lp, lq, lr⟩;obtain ⟨ng, rfl⟩ := Has.ins lq;have H := kr v3 lp;exact Xk ⟨[vb v3], ⟨_, Z, Z⟩, v3, Z, H, lr.gr.g0⟩
section
section
variable {α : Type} [DecidableEq α]
def lcsR (x : α) (p : List α → Nat) : List α → Nat
 | [] => 0
 | y :: b => if x = y then p b + 1 else max (p (y :: b)) (lcsR x p b)
def lcs : List α → List α → Nat
 | [] => fun _ => 0
 | x :: a => lcsR x (lcs a)
@[simp] theorem lcs_nil (b : List α) : lcs [] b = 0 := rfl
@[simp] theorem lcs_nil2 (a : List α) : lcs a [] = 0 := by cases a <;> rfl
theorem lcs_cons (x y : α) (a b : List α) : lcs (x :: a) (y :: b) = if x = y then lcs a b + 1 else max (lcs a (y :: b)) (lcs (x :: a) b) := rfl
theorem lcs_sub (a b : List α) : ∃ s : List α, s.Sublist a ∧ s.Sublist b ∧ s.length = lcs a b := by
 induction a generalizing b with
 | nil => exact ⟨[], List.nil_sublist _, List.nil_sublist _, rfl⟩
 | cons x a ih =>
  induction b with
  | nil => exact ⟨[], List.nil_sublist _, List.nil_sublist _, rfl⟩
  | cons y b ihb =>
   rw [lcs_cons]
   by_cases h : x = y
   ·subst h
    obtain ⟨s, h1, h2, h3⟩ := ih b
    exact ⟨x :: s, h1.cons_cons x, h2.cons_cons x, by rw [if_pos rfl, ← h3]; rfl⟩
   ·rw [if_neg h]
    by_cases hm : lcs (x :: a) b ≤ lcs a (y :: b)
    ·obtain ⟨s, h1, h2, h3⟩ := ih (y :: b)
     exact ⟨s, h1.cons x, h2, OM⟩
    ·obtain ⟨s, h1, h2, h3⟩ := ihb
     exact ⟨s, h1, h2.cons y, OM⟩
theorem lcs_le1 (a b : List α) : lcs a b ≤ a.length := by
 obtain ⟨s, h1, h2, h3⟩ := lcs_sub a b; rw [← h3]; exact h1.length_le
theorem lcs_le2 (a b : List α) : lcs a b ≤ b.length := by
 obtain ⟨s, h1, h2, h3⟩ := lcs_sub a b; rw [← h3]; exact h2.length_le
theorem pp {a b c d : Nat} (h : a = c) (k : b = d) : (a, b) = (c, d) := by rw [h, k]
def pairs (i j : Nat) : List α → List α → List (Nat × Nat)
 | x :: a, y :: b => if x = y then (i, j) :: pairs (i + 1) (j + 1) a b else if lcs (x :: a) b ≤ lcs a (y :: b) then pairs (i + 1) j a (y :: b) else pairs i (j + 1) (x :: a) b
 | [], _ => []
 | _ :: _, [] => []
 termination_by a b => a.length + b.length
theorem pairs_nil (i j : Nat) (b : List α) : pairs i j [] b = [] := by rw [pairs]
theorem pairs_nil2 (i j : Nat) (a : List α) : pairs i j a [] = [] := by cases a <;> rw [pairs]
theorem pairs_cons (i j : Nat) (x y : α) (a b : List α) : pairs i j (x :: a) (y :: b) = if x = y then (i, j) :: pairs (i + 1) (j + 1) a b else if lcs (x :: a) b ≤ lcs a (y :: b) then pairs (i + 1) j a (y :: b) else pairs i (j + 1) (x :: a) b := by rw [pairs]
theorem pairs_ind {C : Nat → Nat → List α → List α → Prop} (h0 : ∀ i j b, C i j [] b) (h1 : ∀ i j a, C i j a [])
  (he : ∀ i j x a b, C (i + 1) (j + 1) a b → C i j (x :: a) (x :: b))
  (ha : ∀ i j x y a b, x ≠ y → lcs (x :: a) b ≤ lcs a (y :: b) → C (i + 1) j a (y :: b) → C i j (x :: a) (y :: b))
  (hb : ∀ i j x y a b, x ≠ y → ¬ lcs (x :: a) b ≤ lcs a (y :: b) → C i (j + 1) (x :: a) b → C i j (x :: a) (y :: b)) : ∀ i j (a b : List α), C i j a b := by
 have : ∀ n i j (a b : List α), a.length + b.length ≤ n → C i j a b := by
  intro n
  induction n with
  | zero => intro i j a b h; cases a with
   | nil => exact h0 _ _ _
   | cons _ _ => simp at h
  | succ n ih =>
   intro i j a b h
   cases a with
   | nil => exact h0 _ _ _
   | cons x a => cases b with
    | nil => exact h1 _ _ _
    | cons y b =>
     simp only [List.length_cons] at h
     by_cases e : x = y
     ·subst e; exact he _ _ _ _ _ (ih _ _ _ _ OM)
     ·by_cases l : lcs (x :: a) b ≤ lcs a (y :: b)
      ·exact ha _ _ _ _ _ _ e l (ih _ _ _ _ (by simp only [List.length_cons]; omega))
      ·exact hb _ _ _ _ _ _ e l (ih _ _ _ _ (by simp only [List.length_cons]; omega))
 exact fun i j a b => this _ i j a b (Nat.le_refl _)
theorem pairs_len (i j : Nat) (a b : List α) : (pairs i j a b).length = lcs a b := by
 refine pairs_ind (C := fun i j a b => (pairs i j a b).length = lcs a b) ?_ ?_ ?_ ?_ ?_ i j a b
 ·intros; rw [pairs_nil]; rfl
 ·intros; rw [pairs_nil2, lcs_nil2]; rfl
 ·intro i j x a b h; rw [pairs_cons, if_pos rfl, lcs_cons, if_pos rfl, List.length_cons, h]
 ·intro i j x y a b e l h; rw [pairs_cons, if_neg e, if_pos l, lcs_cons, if_neg e, h]; exact (Nat.max_eq_left l).symm
 ·intro i j x y a b e l h; rw [pairs_cons, if_neg e, if_neg l, lcs_cons, if_neg e, h]; exact (Nat.max_eq_right OM).symm
theorem pairs_mem (i j : Nat) (a b : List α) : ∀ p ∈ pairs i j a b, ∃ k l, p = (i + k, j + l) ∧ ∃ x, a[k]? = some x ∧ b[l]? = some x := by
 refine pairs_ind (C := fun i j a b => ∀ p ∈ pairs i j a b, ∃ k l, p = (i + k, j + l) ∧ ∃ x, a[k]? = some x ∧ b[l]? = some x) ?_ ?_ ?_ ?_ ?_ i j a b
 ·intro i j b p h; rw [pairs_nil] at h; cases h
 ·intro i j a p h; rw [pairs_nil2] at h; cases h
 ·intro i j x a b ih p h
  rw [pairs_cons, if_pos rfl] at h
  rcases List.mem_cons.1 h with rfl | h
  ·exact ⟨0, 0, rfl, x, rfl, rfl⟩
  ·obtain ⟨k, l, rfl, z, h1, h2⟩ := ih p h
   exact ⟨k + 1, l + 1, pp OM OM, z, h1, h2⟩
 ·intro i j x y a b e l ih p h
  rw [pairs_cons, if_neg e, if_pos l] at h
  obtain ⟨k, l, rfl, z, h1, h2⟩ := ih p h
  exact ⟨k + 1, l, pp OM OM, z, h1, h2⟩
 ·intro i j x y a b e l ih p h
  rw [pairs_cons, if_neg e, if_neg l] at h
  obtain ⟨k, l, rfl, z, h1, h2⟩ := ih p h
  exact ⟨k, l + 1, pp OM OM, z, h1, h2⟩
theorem pairs_ord (i j : Nat) (a b : List α) : (pairs i j a b).Pairwise (fun p q => p.1 < q.1 ∧ p.2 < q.2) := by
 refine pairs_ind (C := fun i j a b => (pairs i j a b).Pairwise (fun p q => p.1 < q.1 ∧ p.2 < q.2)) ?_ ?_ ?_ ?_ ?_ i j a b
 ·intros; rw [pairs_nil]; exact List.Pairwise.nil
 ·intros; rw [pairs_nil2]; exact List.Pairwise.nil
 ·intro i j x a b h; rw [pairs_cons, if_pos rfl]
  refine List.Pairwise.cons (fun p hp => ?_) h
  obtain ⟨k, l, rfl, _⟩ := pairs_mem _ _ _ _ p hp
  exact ⟨by dsimp only; omega, by dsimp only; omega⟩
 ·intro i j x y a b e l h; rw [pairs_cons, if_neg e, if_pos l]; exact h
 ·intro i j x y a b e l h; rw [pairs_cons, if_neg e, if_neg l]; exact h
end
section
variable {α : Type} [Inhabited α]
theorem nth_set (l : List α) {k : Nat} (h : k < l.length) (m : Nat) (v : α) : nth (l.set k v) (m : Int) = if m = k then v else nth l (m : Int) := by
 unfold nth
 rw [Int.toNat_natCast, List.getD_eq_getElem?_getD, List.getD_eq_getElem?_getD, List.getElem?_set]
 by_cases e : m = k
 ·subst e; rw [if_pos rfl, if_pos rfl, if_pos h]; rfl
 ·rw [if_neg (fun x => e x.symm), if_neg e]
theorem nth_rep (n m : Nat) (v : α) (h : m < n) : nth (List.replicate n v) (m : Int) = v := by
 rw [nth_nat _ (by simpa using h)]; simp
theorem drop_nth (l : List α) {k : Nat} (h : k < l.length) : l.drop k = nth l (k : Int) :: l.drop (k + 1) := by
 rw [nth_nat l h]; exact List.drop_eq_getElem_cons h
def seg (l : List α) (i j : Nat) : List α := (l.drop i).take (j - i)
theorem seg_len (l : List α) (i j : Nat) (h : j ≤ l.length) : (seg l i j).length = j - i := by
 unfold seg; rw [List.length_take, List.length_drop]; omega
theorem seg_end (l : List α) (i : Nat) : seg l i l.length = l.drop i := List.take_of_length_le (by simp)
theorem seg_app (l : List α) {i j : Nat} (h : i ≤ j) : seg l i j ++ l.drop j = l.drop i := by
 unfold seg
 have : l.drop j = (l.drop i).drop (j - i) := by rw [List.drop_drop]; congr 1; omega
 rw [this, List.take_append_drop]
variable [DecidableEq α]
theorem lcs_drop (a b : List α) {i j : Nat} (hi : i < a.length) (hj : j < b.length) : lcs (a.drop i) (b.drop j) = if nth a (i : Int) = nth b (j : Int) then lcs (a.drop (i + 1)) (b.drop (j + 1)) + 1 else max (lcs (a.drop (i + 1)) (b.drop j)) (lcs (a.drop i) (b.drop (j + 1))) := by
 rw [drop_nth a hi, drop_nth b hj, lcs_cons, ← drop_nth a hi, ← drop_nth b hj]
theorem pairs_drop (a b : List α) {i j : Nat} (hi : i < a.length) (hj : j < b.length) : pairs i j (a.drop i) (b.drop j) = if nth a (i : Int) = nth b (j : Int) then (i, j) :: pairs (i + 1) (j + 1) (a.drop (i + 1)) (b.drop (j + 1)) else if lcs (a.drop i) (b.drop (j + 1)) ≤ lcs (a.drop (i + 1)) (b.drop j) then pairs (i + 1) j (a.drop (i + 1)) (b.drop j) else pairs i (j + 1) (a.drop i) (b.drop (j + 1)) := by
 rw [drop_nth a hi, drop_nth b hj, pairs_cons, ← drop_nth a hi, ← drop_nth b hj]

def pickL (o a b : List α) : Option (List α) := if a = o then some b else if b = o then some a else if a = b then some a else none
theorem pickL_comm (o a b : List α) : pickL o a b = pickL o b a := by
 unfold pickL
 by_cases h1 : a = o <;> by_cases h2 : b = o
 ·subst h1; subst h2; rfl
 ·rw [if_pos h1, if_neg h2, if_pos h1]
 ·rw [if_neg h1, if_pos h2, if_pos h2]
 ·rw [if_neg h1, if_neg h2, if_neg h2, if_neg h1]
  by_cases h3 : a = b
  ·subst h3; rfl
  ·rw [if_neg h3, if_neg (fun e => h3 e.symm)]
theorem pickL_mem {o a b r : List α} (h : pickL o a b = some r) : (∀ z ∈ r, z ∈ a ∨ z ∈ b) ∧ (∀ z ∈ a, z ∈ o ∨ z ∈ r) ∧ (∀ z ∈ b, z ∈ o ∨ z ∈ r) ∧ r.length ≤ a.length + b.length := by
 unfold pickL at h
 by_cases h1 : a = o
 ·rw [if_pos h1] at h; cases h; subst h1
  exact ⟨fun z hz => .inr hz, fun z hz => .inl hz, fun z hz => .inr hz, OM⟩
 ·rw [if_neg h1] at h
  by_cases h2 : b = o
  ·rw [if_pos h2] at h; cases h; subst h2
   exact ⟨fun z hz => .inl hz, fun z hz => .inr hz, fun z hz => .inl hz, OM⟩
  ·rw [if_neg h2] at h
   by_cases h3 : a = b
   ·rw [if_pos h3] at h; cases h; subst h3
    exact ⟨fun z hz => .inl hz, fun z hz => .inr hz, fun z hz => .inr hz, OM⟩
   ·rw [if_neg h3] at h; cases h
def mloop (o a b : List α) (f g : Nat → Option Nat) : Nat → Nat → Nat → Nat → Nat → Option (List α)
 | 0, _, i, j, k => pickL (o.drop i) (a.drop j) (b.drop k)
 | n + 1, at_, i, j, k => match f at_, g at_ with
  | some x, some y => (pickL (seg o i at_) (seg a j x) (seg b k y)).bind fun p => (mloop o a b f g n (at_ + 1) (at_ + 1) (x + 1) (y + 1)).map fun r => p ++ nth o (at_ : Int) :: r
  | _, _ => mloop o a b f g n (at_ + 1) i j k
theorem mloop_zero (o a b : List α) (f g : Nat → Option Nat) (t i j k : Nat) : mloop o a b f g 0 t i j k = pickL (o.drop i) (a.drop j) (b.drop k) := rfl
theorem mloop_some {o a b : List α} {f g : Nat → Option Nat} {n t i j k x y : Nat} (hf : f t = some x) (hg : g t = some y) : mloop o a b f g (n + 1) t i j k = (pickL (seg o i t) (seg a j x) (seg b k y)).bind fun p => (mloop o a b f g n (t + 1) (t + 1) (x + 1) (y + 1)).map fun r => p ++ nth o (t : Int) :: r := by
 rw [mloop, hf, hg]
theorem mloop_none {o a b : List α} {f g : Nat → Option Nat} {n t i j k : Nat} (h : f t = none ∨ g t = none) : mloop o a b f g (n + 1) t i j k = mloop o a b f g n (t + 1) i j k := by
 rw [mloop]
 rcases h with h | h
 ·rw [h]
 ·rw [h]; cases f t <;> rfl
structure Mates (o a : List α) (f : Nat → Option Nat) : Prop where
 lt : ∀ {t x}, f t = some x → t < o.length ∧ x < a.length
 eq : ∀ {t x}, f t = some x → nth o (t : Int) = nth a (x : Int)
 mono : ∀ {t x u y}, f t = some x → f u = some y → t < u → x < y
def From (f : Nat → Option Nat) (t j : Nat) : Prop := ∀ u x, t ≤ u → f u = some x → j ≤ x
theorem From.zero (f : Nat → Option Nat) (t : Nat) : From f t 0 := fun _ _ _ _ => Nat.zero_le _
theorem From.skip {f : Nat → Option Nat} {t j : Nat} (h : From f t j) : From f (t + 1) j := fun u x hu hx => h u x OM hx
theorem From.step {o a : List α} {f : Nat → Option Nat} (m : Mates o a f) {t x : Nat} (h : f t = some x) : From f (t + 1) (x + 1) := fun u y hu hy => m.mono h hy OM
theorem mloop_comm (o a b : List α) (f g : Nat → Option Nat) (n t i j k : Nat) : mloop o a b f g n t i j k = mloop o b a g f n t i k j := by
 induction n generalizing t i j k with
 | zero => exact pickL_comm _ _ _
 | succ n ih =>
  cases hf : f t with
  | none => rw [mloop_none (.inl hf), mloop_none (.inr hf), ih]
  | some x => cases hg : g t with
   | none => rw [mloop_none (.inr hg), mloop_none (.inl hg), ih]
   | some y => rw [mloop_some hf hg, mloop_some hg hf, pickL_comm, ih]
theorem mem_seg {l : List α} {i j : Nat} {z : α} (h : z ∈ seg l i j) : z ∈ l := List.mem_of_mem_drop (List.mem_of_mem_take h)
theorem mem_split {l : List α} {i j : Nat} (hij : i ≤ j) (hj : j < l.length) {z : α} (h : z ∈ l.drop i) : z ∈ seg l i j ∨ z = nth l (j : Int) ∨ z ∈ l.drop (j + 1) := by
 rw [← seg_app l hij, drop_nth l hj] at h
 rcases List.mem_append.1 h with h | h
 ·exact .inl h
 ·rcases List.mem_cons.1 h with h | h
  ·exact .inr (.inl h)
  ·exact .inr (.inr h)
theorem mloop_keep {o a b : List α} {f g : Nat → Option Nat} (mf : Mates o a f) (mg : Mates o b g) (n t i j k : Nat) (hn : t + n = o.length) (hj : From f t j) (hk : From g t k) (r : List α) (h : mloop o a b f g n t i j k = some r) :
  (∀ z ∈ r, z ∈ a ∨ z ∈ b) ∧ (∀ z ∈ a.drop j, z ∈ o ∨ z ∈ r) ∧ (∀ z ∈ b.drop k, z ∈ o ∨ z ∈ r) ∧ r.length ≤ (a.drop j).length + (b.drop k).length := by
 induction n generalizing t i j k r with
 | zero =>
  rw [mloop_zero] at h
  obtain ⟨h1, h2, h3, h4⟩ := pickL_mem h
  exact ⟨fun z hz => (h1 z hz).imp List.mem_of_mem_drop List.mem_of_mem_drop, fun z hz => (h2 z hz).imp List.mem_of_mem_drop id, fun z hz => (h3 z hz).imp List.mem_of_mem_drop id, h4⟩
 | succ n ih =>
  cases hf : f t with
  | none => rw [mloop_none (.inl hf)] at h; exact ih _ _ _ _ OM hj.skip hk.skip _ h
  | some x => cases hg : g t with
   | none => rw [mloop_none (.inr hg)] at h; exact ih _ _ _ _ OM hj.skip hk.skip _ h
   | some y =>
    rw [mloop_some hf hg] at h
    cases hp : pickL (seg o i t) (seg a j x) (seg b k y) with
    | none => rw [hp] at h; cases h
    | some p =>
     rw [hp, Option.bind_some] at h
     cases hr : mloop o a b f g n (t + 1) (t + 1) (x + 1) (y + 1) with
     | none => rw [hr] at h; cases h
     | some q =>
      rw [hr, Option.map_some] at h; cases h
      obtain ⟨h1, h2, h3, h4⟩ := pickL_mem hp
      obtain ⟨g1, g2, g3, g4⟩ := ih _ _ _ _ OM (.step mf hf) (.step mg hg) _ hr
      have hjx := hj t x (Nat.le_refl _) hf
      have hky := hk t y (Nat.le_refl _) hg
      have hx := (mf.lt hf).2
      have hy := (mg.lt hg).2
      have ex := mf.eq hf
      have ey := mg.eq hg
      refine ⟨fun z hz => ?_, fun z hz => ?_, fun z hz => ?_, ?_⟩
      ·rcases List.mem_append.1 hz with hz | hz
       ·exact (h1 z hz).imp mem_seg mem_seg
       ·rcases List.mem_cons.1 hz with rfl | hz
        ·rw [ex]; exact .inl (nth_mem a hx)
        ·exact g1 z hz
      ·rcases mem_split hjx hx hz with hz | rfl | hz
       ·exact (h2 z hz).imp mem_seg (fun h => List.mem_append_left _ h)
       ·exact .inr (List.mem_append_right _ (by rw [ex]; exact List.mem_cons_self))
       ·exact (g2 z hz).imp id (fun h => List.mem_append_right _ (List.mem_cons_of_mem _ h))
      ·rcases mem_split hky hy hz with hz | rfl | hz
       ·exact (h3 z hz).imp mem_seg (fun h => List.mem_append_left _ h)
       ·exact .inr (List.mem_append_right _ (by rw [ey]; exact List.mem_cons_self))
       ·exact (g3 z hz).imp id (fun h => List.mem_append_right _ (List.mem_cons_of_mem _ h))
      ·rw [seg_len a _ _ OM, seg_len b _ _ OM] at h4
       simp only [List.length_append, List.length_cons, List.length_drop] at g4 ⊢
       omega
end
end
def few (a b : List Pt) : Bool := decide (a.length ≤ 12) && decide (b.length ≤ 12)
theorem few_iff {a b : List Pt} : few a b = true ↔ a.length ≤ 12 ∧ b.length ≤ 12 := by simp [few]
theorem few_not {a b : List Pt} : few a b = false ↔ ¬ (a.length ≤ 12 ∧ b.length ≤ 12) := by rw [← few_iff]; simp
def slen (a b : List Pt) : Int := if few a b then (lcs a b : Nat) else 0
def mkP (p : Nat × Nat) : Pair := ⟨p.1, p.2⟩
def spairs (a b : List Pt) : List Pair := if few a b then (pairs 0 0 a b).map mkP else []
theorem spairs_few {a b : List Pt} (h : few a b = true) : spairs a b = (pairs 0 0 a b).map mkP := by unfold spairs; rw [if_pos h]
theorem spairs_len (a b : List Pt) : ((spairs a b).length : Int) = slen a b := by
 unfold spairs slen
 by_cases h : few a b = true
 ·rw [if_pos h, if_pos h, List.length_map, pairs_len]
 ·rw [if_neg h, if_neg h]; rfl
theorem slen_le (a b : List Pt) : 0 ≤ slen a b ∧ slen a b ≤ a.length ∧ slen a b ≤ b.length ∧ slen a b ≤ 12 := by
 unfold slen
 by_cases h : few a b = true
 ·have := few_iff.1 h
  have h1 := lcs_le1 a b; have h2 := lcs_le2 a b
  rw [if_pos h]; omega
 ·rw [if_neg h]; omega
def RowOk (a b : List Pt) (i : Nat) (j : Nat) (xs : List Int) : Prop := xs.length = b.length + 1 ∧ ∀ m : Nat, j ≤ m → m ≤ b.length → nth xs (m : Int) = (lcs (a.drop i) (b.drop m) : Nat)
def Tab (a b : List Pt) (D : Nat → Nat → Prop) (t : List (List Int)) : Prop := t.length = a.length + 1 ∧ ∀ r : Nat, r ≤ a.length → (nth t (r : Int)).length = b.length + 1 ∧ ∀ m : Nat, m ≤ b.length → D r m → nth (nth t (r : Int)) (m : Int) = (lcs (a.drop r) (b.drop m) : Nat)
theorem Tab.set {a b : List Pt} {D : Nat → Nat → Prop} {t : List (List Int)} (h : Tab a b D t) {i j : Nat} (hi : i ≤ a.length) (hj : j ≤ b.length) {v : Int} (hv : v = (lcs (a.drop i) (b.drop j) : Nat)) {D' : Nat → Nat → Prop} (hD : ∀ r m, D' r m → D r m ∨ (r = i ∧ m = j)) :
  Tab a b D' (t.set i ((nth t (i : Int)).set j v)) := by
 obtain ⟨h1, h2⟩ := h
 refine ⟨by rw [List.length_set]; exact h1, fun r hr => ?_⟩
 rw [nth_set _ OM]
 by_cases e : r = i
 ·subst e
  rw [if_pos rfl]
  refine ⟨by rw [List.length_set]; exact (h2 r hr).1, fun m hm hd => ?_⟩
  rw [nth_set _ (by rw [(h2 r hr).1]; omega)]
  by_cases f : m = j
  ·subst f; rw [if_pos rfl, hv]
  ·rw [if_neg f]
   exact (h2 r hr).2 m hm ((hD r m hd).resolve_right fun x => f x.2)
 ·rw [if_neg e]
  exact ⟨(h2 r hr).1, fun m hm hd => (h2 r hr).2 m hm ((hD r m hd).resolve_right fun x => e x.1)⟩
def mateI (l : List Pair) (k : Int) : Int := match l with
 | [] => -1
 | p :: l => if p.A == k then p.B else mateI l k
theorem mateI_nil (k : Int) : mateI [] k = -1 := rfl
theorem mateI_cons (p : Pair) (l : List Pair) (k : Int) : mateI (p :: l) k = if p.A == k then p.B else mateI l k := rfl
def mateN (l : List (Nat × Nat)) (k : Nat) : Option Nat := match l with
 | [] => none
 | p :: l => if p.1 = k then some p.2 else mateN l k
theorem mateI_mk (l : List (Nat × Nat)) (k : Nat) : mateI (l.map mkP) (k : Int) = match mateN l k with | some x => (x : Int) | none => -1 := by
 induction l with
 | nil => rfl
 | cons p l ih =>
  rw [List.map_cons, mateI_cons, mateN]
  by_cases h : p.1 = k
  ·rw [if_pos (by simp [mkP, h]), if_pos h]; rfl
  ·rw [if_neg (by simp [mkP]; omega), if_neg h, ih]
theorem mateN_mem {l : List (Nat × Nat)} {k x : Nat} (h : mateN l k = some x) : (k, x) ∈ l := by
 induction l with
 | nil => cases h
 | cons p l ih =>
  rw [mateN] at h
  by_cases e : p.1 = k
  ·rw [if_pos e] at h; cases h; subst e; exact List.mem_cons_self
  ·rw [if_neg e] at h; exact List.mem_cons_of_mem _ (ih h)
def part (o a : List Pt) : Nat → Option Nat := mateN (pairs 0 0 o a)
theorem part_mates (o a : List Pt) : Mates o a (part o a) := by
 have hm : ∀ {t x}, part o a t = some x → ∃ z, o[t]? = some z ∧ a[x]? = some z := fun {t x} h => by
  obtain ⟨k, l, e, z, h1, h2⟩ := pairs_mem 0 0 o a _ (mateN_mem h)
  rw [Nat.zero_add, Nat.zero_add] at e; cases e
  exact ⟨z, h1, h2⟩
 refine ⟨fun {t x} h => ?_, fun {t x} h => ?_, fun {t x u y} h1 h2 hu => ?_⟩
 ·obtain ⟨z, h1, h2⟩ := hm h
  exact ⟨(List.getElem?_eq_some_iff.1 h1).1, (List.getElem?_eq_some_iff.1 h2).1⟩
 ·obtain ⟨z, h1, h2⟩ := hm h
  obtain ⟨e1, e2⟩ := List.getElem?_eq_some_iff.1 h1
  obtain ⟨e3, e4⟩ := List.getElem?_eq_some_iff.1 h2
  rw [nth_nat _ e1, nth_nat _ e3, e2, e4]
 ·have ho := pairs_ord 0 0 o a
  have m1 := mateN_mem h1; have m2 := mateN_mem h2
  generalize pairs 0 0 o a = l at ho m1 m2
  induction l with
  | nil => cases m1
  | cons p l ih =>
   obtain ⟨q1, q2⟩ := List.pairwise_cons.1 ho
   rcases List.mem_cons.1 m1 with e1 | n1
   ·rcases List.mem_cons.1 m2 with e2 | n2
    ·subst e1; cases e2; omega
    ·subst e1; exact (q1 _ n2).2
   ·rcases List.mem_cons.1 m2 with e2 | n2
    ·subst e2; have := (q1 _ n1).1; dsimp only at this; omega
    ·exact ih q2 n1 n2
def smerge (o a b : List Pt) : Option (List Pt) := if few o a && few o b then mloop o a b (part o a) (part o b) o.length 0 0 0 0 else none
theorem smerge_few {o a b : List Pt} (h1 : few o a = true) (h2 : few o b = true) : smerge o a b = mloop o a b (part o a) (part o b) o.length 0 0 0 0 := by unfold smerge; rw [h1, h2]; rfl
theorem smerge_not {o a b : List Pt} (h : few o a = false ∨ few o b = false) : smerge o a b = none := by
 unfold smerge; rcases h with h | h <;> rw [h] <;> simp
theorem smerge_comm (o a b : List Pt) : smerge o a b = smerge o b a := by
 unfold smerge; rw [Bool.and_comm, mloop_comm]
theorem smerge_keep {o a b r : List Pt} (h : smerge o a b = some r) : (∀ z ∈ r, z ∈ a ∨ z ∈ b) ∧ (∀ z ∈ a, z ∈ o ∨ z ∈ r) ∧ (∀ z ∈ b, z ∈ o ∨ z ∈ r) ∧ r.length ≤ a.length + b.length := by
 unfold smerge at h
 by_cases hf : (few o a && few o b) = true
 ·rw [if_pos hf] at h
  exact mloop_keep (part_mates o a) (part_mates o b) _ _ _ _ _ OM (From.zero _ _) (From.zero _ _) _ h
 ·rw [if_neg hf] at h; cases h
theorem smerge_len {o a b r : List Pt} (h : smerge o a b = some r) : r.length ≤ 24 := by
 have h1 := (smerge_keep h).2.2.2
 unfold smerge at h
 by_cases hf : (few o a && few o b) = true
 ·rw [Bool.and_eq_true, few_iff, few_iff] at hf; omega
 ·rw [if_neg hf] at h; cases h
def allN (n : Nat) (c : Nat → Bool) : Bool := (List.range n).all c
theorem allN_true {n : Nat} {c : Nat → Bool} (h : ∀ j, j < n → c j = true) : allN n c = true := by
 unfold allN; rw [List.all_eq_true]; intro j hj; exact h j (List.mem_range.1 hj)
theorem allN_false {n k : Nat} {c : Nat → Bool} (hk : k < n) (h : c k = false) : allN n c = false := by
 unfold allN
 rw [Bool.eq_false_iff]; intro ha
 rw [List.all_eq_true] at ha
 rw [ha k (List.mem_range.2 hk)] at h; cases h
theorem allN_iff {n : Nat} {c : Nat → Bool} : allN n c = true ↔ ∀ j, j < n → c j = true := by
 unfold allN; rw [List.all_eq_true]; exact ⟨fun h j hj => h j (List.mem_range.2 hj), fun h j hj => h j (List.mem_range.1 hj)⟩
theorem loop_all (n : Nat) (c : Nat → Bool) {B : (Int → Prop) → (Int → Nat) → Int → Prop} {F : Prop}
  (hs : ∀ (I : Int → Prop) (mu : Int → Nat) (k : Nat), k < n → (∀ j, j < k → c j = true) → (c k = true → I ((k : Int) + 1) ∧ mu ((k : Int) + 1) < mu (k : Int)) → B I mu (k : Int))
  (hF : (∀ j, j < n → c j = true) → F) :
  ∃ (I : Int → Prop) (mu : Int → Nat), I 0 ∧ ∀ (i : Int), I i → (if decide (i < (n : Int)) then B I mu i else F) := by
 refine ⟨fun i => ∃ k : Nat, i = k ∧ k ≤ n ∧ ∀ j, j < k → c j = true, fun i => ((n : Int) - i).toNat, ⟨0, rfl, Nat.zero_le _, fun j hj => absurd hj (Nat.not_lt_zero _)⟩, ?_⟩
 rintro _ ⟨k, rfl, hk, ha⟩
 by_cases h : (k : Int) < (n : Int)
 ·rw [if_pos (by simpa using h)]
  refine hs _ _ k OM ha fun hc => ⟨⟨k + 1, OM, OM, fun j hj => ?_⟩, OM⟩
  by_cases e : j = k
  ·subst e; exact hc
  ·exact ha j OM
 ·rw [if_neg (by simpa using h)]
  exact hF fun j hj => ha j OM
theorem less_irr : ∀ a : Str, Op.bytesLess a a = false
 | [] => rfl
 | x :: a => by rw [Op.bytesLess]; simp [less_irr a]
theorem less_tri : ∀ a b : Str, (!(Op.bytesLess a b)) = (Op.bytesLess b a || b == a)
 | [], [] => rfl
 | [], y :: b => rfl
 | x :: a, [] => rfl
 | x :: a, y :: b => by
  rw [Op.bytesLess, Op.bytesLess]
  have h := less_tri a b
  by_cases h1 : x < y
  ·have h2 : ¬ y < x := fun h => absurd (UInt8.lt_trans h1 h) (UInt8.lt_irrefl _)
   have h3 : ¬ y = x := fun e => by subst e; exact UInt8.lt_irrefl _ h1
   simp [h1, h2, h3]
  ·by_cases h2 : y < x
   ·have h3 : ¬ x = y := fun e => by subst e; exact UInt8.lt_irrefl _ h2
    simp [h1, h2, h3]
   ·have h3 : x = y := UInt8.le_antisymm (UInt8.not_lt.1 h2) (UInt8.not_lt.1 h1)
    subst h3
    simp only [h1, decide_false, Bool.false_or, beq_self_eq_true, Bool.true_and]
    rw [h]
    congr 1
    rw [Bool.eq_iff_iff, beq_iff_eq, beq_iff_eq]
    simp
def byteOk (b : UInt8) : Bool := !(decide ((b.toNat : Int) < 97)) && !(decide ((b.toNat : Int) > 122))
def wordOk (s : Str) : Bool := allN s.length (fun k => byteOk (nth s (k : Int))) && (decide (1 ≤ s.length) && decide (s.length ≤ 6))
def inR (x : Int) : Bool := decide (-1000 ≤ x) && decide (x ≤ 1000)
def ptOk (p : Pt) : Bool := inR p.X && inR p.Y
def ptsOk (p : List Pt) : Bool := allN p.length fun k => ptOk (nth p (k : Int)) && (decide (k = 0) || !(decide (nth p ((k : Int) - 1) = nth p (k : Int))))
def kindOk (kind : Int) (p : List Pt) : Bool :=
 if kind = 1 then decide (p.length = 1) else if kind = 2 then decide (2 ≤ p.length) && decide (p.length ≤ 6)
 else if kind = 3 then decide (3 ≤ p.length) && decide (p.length ≤ 6) && !(decide (nth p 0 = nth p ((p.length : Int) - 1))) else false
def shapeOk (s : Shape) : Bool := ptsOk s.Pts && kindOk s.Kind s.Pts
def tagsOk (t : List Tag) : Bool := allN t.length fun k => wordOk (nth t (k : Int)).Key && wordOk (nth t (k : Int)).Val && (decide (k = 0) || Op.bytesLess (nth t ((k : Int) - 1)).Key (nth t (k : Int)).Key)
def featOk (f : Feat) : Bool := tagsOk f.Tags && decide (f.Tags.length ≤ 4) && wordOk f.Id && shapeOk f.Shape
def noF (f : Feat) : Bool := decide (f = ⟨[], ⟨0, []⟩, []⟩)
def sideOk (id : Str) (has : Bool) (f : Feat) : Bool := if has then featOk f && decide (f.Id = id) else noF f
def sameC (c : Change) : Bool := decide (c.Had = c.Has) && decide (c.Was = c.Now)
def changeOk (c : Change) : Bool := wordOk c.Id && sideOk c.Id c.Had c.Was && sideOk c.Id c.Has c.Now && !(sameC c)
def diffOk (d : List Change) : Bool := allN d.length (fun k => changeOk (nth d (k : Int)) && (decide (k = 0) || Op.bytesLess (nth d ((k : Int) - 1)).Id (nth d (k : Int)).Id)) && decide (d.length ≤ 16)
def sheetOk (s : List Feat) : Bool := allN s.length (fun k => featOk (nth s (k : Int)) && (decide (k = 0) || Op.bytesLess (nth s ((k : Int) - 1)).Id (nth s (k : Int)).Id)) && decide (s.length ≤ 8)
theorem Feat.ext_iff' (a b : Feat) : a = b ↔ a.Id = b.Id ∧ a.Shape = b.Shape ∧ a.Tags = b.Tags := by cases a; cases b; simp
theorem Shape.ext_iff' (a b : Shape) : a = b ↔ a.Kind = b.Kind ∧ a.Pts = b.Pts := by cases a; cases b; simp
section
def findN (n : Nat) (c : Nat → Bool) : Int := match (List.range n).find? c with | some k => (k : Int) | none => -1
theorem findN_hit {n k : Nat} {c : Nat → Bool} (hk : k < n) (h : c k = true) (hp : ∀ j, j < k → c j = false) : findN n c = (k : Int) := by
 unfold findN
 have : (List.range n).find? c = some k := by
  rw [List.find?_range_eq_some]
  exact ⟨h, List.mem_range.2 hk, fun j hj => by rw [hp j hj]; rfl⟩
 rw [this]
theorem findN_none {n : Nat} {c : Nat → Bool} (h : ∀ j, j < n → c j = false) : findN n c = -1 := by
 unfold findN
 have : (List.range n).find? c = none := by
  rw [List.find?_eq_none]; intro j hj; rw [h j (List.mem_range.1 hj)]; exact Bool.false_ne_true
 rw [this]
theorem findN_le (n : Nat) (c : Nat → Bool) : -1 ≤ findN n c ∧ findN n c < n := by
 unfold findN
 cases h : (List.range n).find? c with
 | none => exact ⟨Int.le_refl _, by dsimp only; omega⟩
 | some k => have := List.mem_range.1 (List.mem_of_find?_eq_some h); exact ⟨by dsimp only; omega, by dsimp only; omega⟩
theorem loop_find (n : Nat) (c : Nat → Bool) {B : (Int → Prop) → (Int → Nat) → Int → Prop} {Q : Int → Prop} (hq : Q (findN n c))
  (hs : ∀ (I : Int → Prop) (mu : Int → Nat) (k : Nat), k < n → (c k = true → Q (k : Int)) → (c k = false → I ((k : Int) + 1) ∧ mu ((k : Int) + 1) < mu (k : Int)) → B I mu (k : Int)) :
  ∃ (I : Int → Prop) (mu : Int → Nat), I 0 ∧ ∀ (i : Int), I i → (if decide (i < (n : Int)) then B I mu i else Q (-1)) := by
 refine loop_all n (fun k => !(c k)) (fun I mu k hk hp hn => hs I mu k hk (fun h => ?_) (fun h => hn (by rw [h]; rfl))) (fun ha => ?_)
 ·rw [findN_hit hk h (fun j hj => by have := hp j hj; rwa [Bool.not_eq_true'] at this)] at hq; exact hq
 ·rw [findN_none (fun j hj => by have := ha j hj; rwa [Bool.not_eq_true'] at this)] at hq; exact hq
section
variable {α : Type} [Inhabited α] [DecidableEq α]
theorem list_eq_iff (a b : List α) (h : a.length = b.length) : a = b ↔ ∀ k, k < a.length → nth a (k : Int) = nth b (k : Int) := ⟨fun e k _ => by rw [e], ext_nth h⟩
theorem eqF_shape (a b : List α) (el : α → α → Bool) (ok : α → α → Prop) (hok : ∀ x y, x ∈ a → ok x y) (hel : ∀ x y, x ∈ a → el x y = decide (x = y)) (hb : a.length ≤ 1048576) (Q : Bool → Prop) (hq : Q (decide (a = b))) :
  (if (a.length : Int) != (b.length : Int) then Q false else (∃ (I36 : Int → Prop) (mu37 : Int → Nat), I36 0 ∧ ∀ (v2 : Int), I36 v2 → (if decide (v2 < (a.length : Int)) then ((0 : Int) ≤ v2 ∧ v2 < (a.length : Int)) ∧ ((0 : Int) ≤ v2 ∧ v2 < (b.length : Int)) ∧ (ok (nth a v2) (nth b v2)) ∧ (if !(el (nth a v2) (nth b v2)) then Q false else (I64 (v2 + 1)) ∧ I36 (v2 + 1) ∧ mu37 (v2 + 1) < mu37 v2) else Q true))) := by
 by_cases hl : a.length = b.length
 ·rw [if_neg (by simp [hl])]
  refine loop_all a.length (fun k => decide (nth a (k : Int) = nth b (k : Int))) (fun I mu k hk hp hn => ?_) (fun ha => ?_)
  ·refine ⟨OM, OM, hok _ _ (nth_mem a hk), ?_⟩
   rw [hel _ _ (nth_mem a hk)]
   by_cases h : nth a (k : Int) = nth b (k : Int)
   ·rw [decide_eq_true h, if_neg RD]
    obtain ⟨i1, i2⟩ := hn (decide_eq_true h)
    exact ⟨by unfold I64; omega, i1, i2⟩
   ·rw [decide_eq_false h, if_pos RD]
    rw [decide_eq_false (by rw [list_eq_iff a b hl]; exact fun g => h (g k hk))] at hq; exact hq
  ·rw [decide_eq_true ((list_eq_iff a b hl).2 fun k hk => of_decide_eq_true (ha k hk))] at hq; exact hq
 ·rw [if_pos (by rw [bne_iff_ne]; omega)]
  rw [decide_eq_false (fun e => hl (by rw [e]))] at hq; exact hq
end
end
section
theorem less_trans : ∀ {a b c : Str}, Op.bytesLess a b = true → Op.bytesLess b c = true → Op.bytesLess a c = true
 | _, _, [], _, h => by rename_i b _; cases b <;> simp [Op.bytesLess] at h
 | _, [], _ :: _, h, _ => by rename_i a _ _ _; cases a <;> simp [Op.bytesLess] at h
 | [], _ :: _, _ :: _, _, _ => by simp [Op.bytesLess]
 | x :: a, y :: b, z :: c, h1, h2 => by
  rw [Op.bytesLess] at h1 h2 ⊢
  simp only [Bool.or_eq_true, Bool.and_eq_true, decide_eq_true_eq, beq_iff_eq] at h1 h2 ⊢
  rcases h1 with h1 | ⟨rfl, h1⟩
  ·rcases h2 with h2 | ⟨rfl, h2⟩
   ·exact .inl (UInt8.lt_trans h1 h2)
   ·exact .inl h1
  ·rcases h2 with h2 | ⟨rfl, h2⟩
   ·exact .inl h2
   ·exact .inr ⟨rfl, less_trans h1 h2⟩
theorem less_asym {a b : Str} (h : Op.bytesLess a b = true) : Op.bytesLess b a = false := by
 cases e : Op.bytesLess b a with
 | false => rfl
 | true => have := less_trans h e; rw [less_irr] at this; cases this
theorem less_or {a b : Str} (h : Op.bytesLess a b = false) : Op.bytesLess b a = true ∨ b = a := by
 have := less_tri a b
 rw [h] at this
 simpa using this.symm
def SS (l : List Str) : Prop := l.Pairwise fun x y => Op.bytesLess x y = true
theorem SS.ext : ∀ {l m : List Str}, SS l → SS m → (∀ x, x ∈ l ↔ x ∈ m) → l = m
 | [], [], _, _, _ => rfl
 | [], y :: m, _, _, h => by have := (h y).2 List.mem_cons_self; cases this
 | x :: l, [], _, _, h => by have := (h x).1 List.mem_cons_self; cases this
 | x :: l, y :: m, hl, hm, h => by
  obtain ⟨l1, l2⟩ := List.pairwise_cons.1 hl
  obtain ⟨m1, m2⟩ := List.pairwise_cons.1 hm
  have e : x = y := by
   rcases List.mem_cons.1 ((h x).1 List.mem_cons_self) with e | e
   ·exact e
   ·rcases List.mem_cons.1 ((h y).2 List.mem_cons_self) with e' | e'
    ·exact e'.symm
    ·have := less_trans (m1 x e) (l1 y e'); rw [less_irr] at this; cases this
  subst e
  rw [SS.ext l2 m2 fun z => ⟨fun hz => ?_, fun hz => ?_⟩]
  ·rcases List.mem_cons.1 ((h z).1 (List.mem_cons_of_mem _ hz)) with e | e
   ·subst e; have := l1 z hz; rw [less_irr] at this; cases this
   ·exact e
  ·rcases List.mem_cons.1 ((h z).2 (List.mem_cons_of_mem _ hz)) with e | e
   ·subst e; have := m1 z hz; rw [less_irr] at this; cases this
   ·exact e
theorem le_less (x y : Str) : decide (x ≤ y) = !(Op.bytesLess y x) := by
 rw [bytesLess_eq]
 by_cases h : y < x
 ·rw [decide_eq_true h, decide_eq_false (by rw [List.not_le]; exact h)]; rfl
 ·rw [decide_eq_false h, decide_eq_true (List.not_lt.1 h)]; rfl
theorem sortS_le (l : List Str) : (sortS l).Pairwise fun x y => Op.bytesLess y x = false := by
 have h := List.pairwise_mergeSort (le := fun x y : Str => decide (x ≤ y)) (fun a b c h1 h2 => by
  rw [le_less, Bool.not_eq_true'] at h1 h2 ⊢
  cases e : Op.bytesLess c a with
  | false => rfl
  | true =>
   rcases less_or h1 with h3 | h3
   ·have := less_trans e h3; rw [h2] at this; cases this
   ·subst h3; rw [h2] at e; cases e) (fun a b => by
  rw [le_less, le_less]
  cases e : Op.bytesLess b a with
  | false => rfl
  | true => rw [less_asym e]; rfl) l
 exact h.imp fun {x y} h => by rw [le_less, Bool.not_eq_true'] at h; exact h
theorem sortS_mem {l : List Str} {x : Str} : x ∈ sortS l ↔ x ∈ l := List.mem_mergeSort
section
open Go.Lib
theorem compact_of (l : List Str) (h : l.Pairwise fun x y => Op.bytesLess y x = false) : SS (compact l) ∧ ∀ x, x ∈ compact l ↔ x ∈ l := by
 have hle : ∀ i j, i ≤ j → j < l.length → Op.bytesLess (l.toArray[j]!) (l.toArray[i]!) = false := fun i j hij hj => by
  have hi : i < l.length := by omega
  simp only [List.getElem!_toArray, getElem!_pos l i hi, getElem!_pos l j hj]
  rcases Nat.lt_or_eq_of_le hij with hlt | rfl
  ·exact List.pairwise_iff_getElem.1 h i j hi hj hlt
  ·exact less_irr _
 constructor
 ·unfold compact compactUpTo SS
  rw [List.pairwise_map, List.pairwise_filter]
  refine List.pairwise_iff_getElem.2 fun i j hi hj hij => ?_
  simp only [List.length_range] at hi hj
  simp only [List.getElem_range]
  intro _ hk
  have hj0 : 0 < j := by omega
  have hne : l.toArray[j]! ≠ l.toArray[j - 1]! := fun e => by rw [keeps_neg hj0 e] at hk; cases hk
  have h1 : Op.bytesLess (l.toArray[j - 1]!) (l.toArray[j]!) = true := by
   rcases less_or (hle (j - 1) j OM hj) with h2 | h2
   ·exact h2
   ·exact absurd h2.symm hne
  rcases less_or (hle i (j - 1) OM OM) with h3 | h3
  ·exact less_trans h3 h1
  ·rw [h3]; exact h1
 ·intro x
  constructor
  ·exact compact_mem
  ·intro hx
   obtain ⟨k, hk, rfl⟩ := List.getElem_of_mem hx
   have key : ∀ k, k < l.length → l.toArray[k]! ∈ compact l := by
    intro k
    induction k using Nat.strongRecOn with
    | _ k ih =>
     intro hk
     cases e : keeps l.toArray k with
     | true =>
      unfold compact compactUpTo
      exact List.mem_map.2 ⟨k, List.mem_filter.2 ⟨List.mem_range.2 hk, e⟩, rfl⟩
     | false =>
      have hk0 : 0 < k := by
       rcases Nat.eq_zero_or_pos k with h0 | h0
       ·subst h0; rw [keeps_lt_one _ 0 OM] at e; cases e
       ·exact h0
      have he : l.toArray[k]! = l.toArray[k - 1]! := Classical.byContradiction fun hne => by rw [keeps_pos hne] at e; cases e
      rw [he]; exact ih (k - 1) OM OM
   have := key k hk
   simpa [getElem!_pos l k hk] using this
end
def uniq (l : List Str) : List Str := Lib.compact (sortS l)
theorem uniq_ss (l : List Str) : SS (uniq l) := (compact_of _ (sortS_le l)).1
theorem uniq_mem {l : List Str} {x : Str} : x ∈ uniq l ↔ x ∈ l := ((compact_of _ (sortS_le l)).2 x).trans sortS_mem
def ids (s : List Feat) : List Str := s.map (·.Id)
theorem ids_app (s t : List Feat) : ids (s ++ t) = ids s ++ ids t := List.map_append
theorem sheet_ss {s : List Feat} (h : sheetOk s = true) : SS (ids s) ∧ s.length ≤ 8 ∧ ∀ f ∈ s, featOk f = true := by
 unfold sheetOk at h
 simp only [Bool.and_eq_true, decide_eq_true_eq] at h
 obtain ⟨h1, h2⟩ := h
 have h1 := allN_iff.1 h1
 have hadj : ∀ k, 0 < k → k < s.length → Op.bytesLess (nth s ((k : Int) - 1)).Id (nth s (k : Int)).Id = true := fun k h0 hk => by
  have := h1 k hk
  simp only [Bool.and_eq_true, Bool.or_eq_true, decide_eq_true_eq] at this
  rcases this.2 with h | h
  ·omega
  ·exact h
 refine ⟨?_, h2, fun f hf => ?_⟩
 ·unfold SS ids
  rw [List.pairwise_map]
  refine List.pairwise_iff_getElem.2 fun i j hi hj hij => ?_
  have key : ∀ d, i + d + 1 < s.length → Op.bytesLess s[i].Id (nth s ((i + d + 1 : Nat) : Int)).Id = true := by
   intro d
   induction d with
   | zero =>
    intro hd
    have := hadj (i + 0 + 1) OM hd
    rw [show (((i + 0 + 1 : Nat) : Int) - 1) = (i : Int) by omega, nth_nat s hi] at this
    exact this
   | succ d ih =>
    intro hd
    have := hadj (i + (d + 1) + 1) OM hd
    rw [show (((i + (d + 1) + 1 : Nat) : Int) - 1) = ((i + d + 1 : Nat) : Int) by omega] at this
    exact less_trans (ih OM) this
  have := key (j - i - 1) OM
  rw [show i + (j - i - 1) + 1 = j by omega, nth_nat s hj] at this
  exact this
 ·obtain ⟨k, hk, rfl⟩ := List.getElem_of_mem hf
  have := h1 k hk
  rw [nth_nat s hk] at this
  simp only [Bool.and_eq_true] at this
  exact this.1
theorem word_len {s : Str} (h : wordOk s = true) : s.length ≤ 6 := by
 unfold wordOk at h
 simp only [Bool.and_eq_true, decide_eq_true_eq] at h
 exact h.2.2
theorem bulk_small {α : Type} [Bulk α] (l : List α) (m : Nat) (h : ∀ x ∈ l, bulk x ≤ m) : bulk l ≤ l.length * (m + 1) := by
 induction l with
 | nil => exact Nat.zero_le _
 | cons x l ih =>
  have h1 := h x List.mem_cons_self
  have h2 := ih fun y hy => h y (List.mem_cons_of_mem _ hy)
  rw [bulk_cons, List.length_cons, Nat.add_mul]
  omega
theorem feat_small {f : Feat} (h : featOk f = true) : bulk f ≤ 100 ∧ f.Id.length ≤ 6 := by
 unfold featOk at h
 simp only [Bool.and_eq_true, decide_eq_true_eq] at h
 obtain ⟨⟨⟨h1, h2⟩, h3⟩, h4⟩ := h
 have hi := word_len h3
 have e1 : bulk f = bulk f.Id + (bulk f.Shape.Kind + bulk f.Shape.Pts) + bulk f.Tags := rfl
 have e2 : bulk f.Id = f.Id.length := bulk_str _
 have e3 : bulk f.Shape.Kind = 0 := rfl
 have e4 : bulk f.Shape.Pts = f.Shape.Pts.length := bulk_flat (fun _ => rfl) _
 have ht : bulk f.Tags ≤ f.Tags.length * (12 + 1) := bulk_small _ 12 fun t hm => by
  unfold tagsOk at h1
  obtain ⟨k, hk, rfl⟩ := List.getElem_of_mem hm
  have := allN_iff.1 h1 k hk
  rw [nth_nat _ hk] at this
  simp only [Bool.and_eq_true] at this
  have a1 := word_len this.1.1
  have a2 := word_len this.1.2
  have b0 : bulk f.Tags[k] = bulk f.Tags[k].Key + bulk f.Tags[k].Val := rfl
  have b1 : bulk f.Tags[k].Key = f.Tags[k].Key.length := bulk_str _
  have b2 : bulk f.Tags[k].Val = f.Tags[k].Val.length := bulk_str _
  omega
 have hp : f.Shape.Pts.length ≤ 6 := by
  unfold shapeOk kindOk at h4
  simp only [Bool.and_eq_true] at h4
  have := h4.2
  split at this
  ·simp only [decide_eq_true_eq] at this; omega
  ·split at this
   ·simp only [Bool.and_eq_true, decide_eq_true_eq] at this; omega
   ·split at this
    ·simp only [Bool.and_eq_true, decide_eq_true_eq] at this; omega
    ·cases this
 have : f.Tags.length * (12 + 1) ≤ 52 := by omega
 omega
def zeroF : Feat := ⟨[], ⟨0, []⟩, []⟩
def sideOf (s : List Feat) (id : Str) : Feat × Bool :=
 if findN s.length (fun j => (nth s (j : Int)).Id == id) < 0 then (zeroF, false) else (nth s (findN s.length fun j => (nth s (j : Int)).Id == id), true)
theorem sideOf_small {s : List Feat} (h : sheetOk s = true) (id : Str) : bulk (sideOf s id).1 ≤ 100 := by
 unfold sideOf
 split
 ·exact (by decide : bulk zeroF ≤ 100)
 ·have h1 := findN_le s.length fun j => (nth s (j : Int)).Id == id
  exact (feat_small ((sheet_ss h).2.2 _ (nth_memi s OM h1.2))).1
def diffC (a b : List Feat) (id : Str) : Change := ⟨id, (sideOf a id).2, (sideOf a id).1, (sideOf b id).2, (sideOf b id).1⟩
def diffL (a b : List Feat) (l : List Str) : List Change := (l.map (diffC a b)).filter fun c => !(sameC c)
def diffOf (a b : List Feat) : List Change := if sheetOk a && sheetOk b then diffL a b (uniq (ids a ++ ids b)) else []
theorem diffL_snoc (a b : List Feat) (l : List Str) (x : Str) : diffL a b (l ++ [x]) = diffL a b l ++ (if sameC (diffC a b x) then [] else [diffC a b x]) := by
 unfold diffL
 rw [List.map_append, List.filter_append]
 congr 1
 cases h : sameC (diffC a b x) <;> simp [h]
theorem uniq_len (l : List Str) : (uniq l).length ≤ l.length := by
 unfold uniq
 have := compact_le (sortS l)
 have h2 : (sortS l).length = l.length := List.length_mergeSort _
 omega
theorem diffL_len (a b : List Feat) (l : List Str) : (diffL a b l).length ≤ l.length := by
 unfold diffL
 exact Nat.le_trans (List.length_filter_le _ _) (by rw [List.length_map]; exact Nat.le_refl _)
theorem diffC_small {a b : List Feat} (ha : sheetOk a = true) (hb : sheetOk b = true) {x : Str} (hx : x ∈ ids a ∨ x ∈ ids b) : bulk (diffC a b x) ≤ 206 := by
 have h1 := sideOf_small ha x
 have h2 := sideOf_small hb x
 have h3 : x.length ≤ 6 := by
  rcases hx with hx | hx
  all_goals
   obtain ⟨f, hf, rfl⟩ := List.mem_map.1 hx
  ·exact (feat_small ((sheet_ss ha).2.2 f hf)).2
  ·exact (feat_small ((sheet_ss hb).2.2 f hf)).2
 have e : bulk (diffC a b x) = bulk x + 0 + bulk (sideOf a x).1 + 0 + bulk (sideOf b x).1 := rfl
 have e2 : bulk x = x.length := bulk_str _
 omega
theorem diffOf_small (a b : List Feat) : bulk (diffOf a b) ≤ 10000 := by
 unfold diffOf
 cases h : sheetOk a && sheetOk b with
 | false => rw [if_neg RD]; exact Nat.zero_le _
 | true =>
  rw [if_pos rfl]
  simp only [Bool.and_eq_true] at h
  have la := (sheet_ss h.1).2.1
  have lb := (sheet_ss h.2).2.1
  have l1 := diffL_len a b (uniq (ids a ++ ids b))
  have l2 := uniq_len (ids a ++ ids b)
  have l3 : (ids a ++ ids b).length = a.length + b.length := by unfold ids; simp
  have hs := bulk_small (diffL a b (uniq (ids a ++ ids b))) 206 fun c hc => by
   unfold diffL at hc
   obtain ⟨hc, _⟩ := List.mem_filter.1 hc
   obtain ⟨x, hx, rfl⟩ := List.mem_map.1 hc
   exact diffC_small h.1 h.2 (List.mem_append.1 (uniq_mem.1 hx))
  have : (diffL a b (uniq (ids a ++ ids b))).length * (206 + 1) ≤ 16 * 207 := Nat.mul_le_mul OM (Nat.le_refl _)
  omega
end
theorem mate_part {o a : List Pt} (h : few o a = true) (t : Nat) : mateI (spairs o a) (t : Int) = match part o a t with | some x => (x : Int) | none => -1 := by
 rw [spairs_few h, mateI_mk]; rfl
structure MInv (o a b : List Pt) (xs : List Pt) (i j k t : Nat) : Prop where
 hi : i ≤ t
 ht : t ≤ o.length
 hj : j ≤ a.length
 hk : k ≤ b.length
 fj : From (part o a) t j
 fk : From (part o b) t k
 len : xs.length ≤ j + k
 eq : (mloop o a b (part o a) (part o b) (o.length - t) t i j k).map (xs ++ ·) = smerge o a b
theorem MInv.zero {o a b : List Pt} (h1 : few o a = true) (h2 : few o b = true) : MInv o a b [] 0 0 0 0 :=
 ⟨Nat.le_refl _, Nat.zero_le _, Nat.zero_le _, Nat.zero_le _, From.zero _ _, From.zero _ _, Nat.le_refl _, by rw [smerge_few h1 h2, Nat.sub_zero]; cases mloop o a b (part o a) (part o b) o.length 0 0 0 0 <;> rfl⟩
theorem MInv.skip {o a b xs : List Pt} {i j k t : Nat} (h : MInv o a b xs i j k t) (ht : t < o.length) (hn : part o a t = none ∨ part o b t = none) : MInv o a b xs i j k (t + 1) :=
 ⟨by have := h.hi; omega, ht, h.hj, h.hk, h.fj.skip, h.fk.skip, h.len, by
  have := h.eq
  rw [show o.length - t = (o.length - (t + 1)) + 1 by omega, mloop_none hn] at this
  exact this⟩
theorem MInv.step {o a b xs : List Pt} {i j k t x y : Nat} (h : MInv o a b xs i j k t) (ht : t < o.length) (hx : part o a t = some x) (hy : part o b t = some y) {p : List Pt} (hp : pickL (seg o i t) (seg a j x) (seg b k y) = some p) : MInv o a b (xs ++ p ++ [nth o (t : Int)]) (t + 1) (x + 1) (y + 1) (t + 1) := by
 have h1 := (part_mates o a).lt hx
 have h2 := (part_mates o b).lt hy
 refine ⟨Nat.le_refl _, ht, h1.2, h2.2, .step (part_mates o a) hx, .step (part_mates o b) hy, ?_, ?_⟩
 ·have := (pickL_mem hp).2.2.2
  rw [seg_len a _ _ OM, seg_len b _ _ OM] at this
  have h3 := h.fj t x (Nat.le_refl _) hx
  have h4 := h.fk t y (Nat.le_refl _) hy
  have h5 := h.len
  simp only [List.length_append, List.length_singleton]; omega
 ·have := h.eq
  rw [show o.length - t = (o.length - (t + 1)) + 1 by omega, mloop_some hx hy, hp, Option.bind_some, Option.map_map] at this
  rw [← this]
  congr 1
  funext r
  simp
theorem MInv.stop {o a b xs : List Pt} {i j k t x y : Nat} (h : MInv o a b xs i j k t) (ht : t < o.length) (hx : part o a t = some x) (hy : part o b t = some y) (hp : pickL (seg o i t) (seg a j x) (seg b k y) = none) : smerge o a b = none := by
 have := h.eq
 rw [show o.length - t = (o.length - (t + 1)) + 1 by omega, mloop_some hx hy, hp] at this
 exact this.symm
theorem MInv.last {o a b xs : List Pt} {i j k : Nat} (h : MInv o a b xs i j k o.length) : (pickL (o.drop i) (a.drop j) (b.drop k)).map (xs ++ ·) = smerge o a b := by
 have := h.eq
 rw [Nat.sub_self, mloop_zero] at this
 exact this
theorem MInv.from {o a b xs : List Pt} {i j k t x y : Nat} (h : MInv o a b xs i j k t) (hx : part o a t = some x) (hy : part o b t = some y) : j ≤ x ∧ x < a.length ∧ k ≤ y ∧ y < b.length :=
 ⟨h.fj t x (Nat.le_refl _) hx, ((part_mates o a).lt hx).2, h.fk t y (Nat.le_refl _) hy, ((part_mates o b).lt hy).2⟩
def keysT (t : List Tag) : List Str := t.map (·.Key)
theorem keys_app (s t : List Tag) : keysT (s ++ t) = keysT s ++ keysT t := List.map_append
def valT (t : List Tag) (key : Str) : value :=
 if findN t.length (fun j => (nth t (j : Int)).Key == key) < 0 then ⟨false, []⟩ else ⟨true, (nth t (findN t.length fun j => (nth t (j : Int)).Key == key)).Val⟩
theorem valT_no (t : List Tag) (key : Str) (h : (valT t key).has = false) : valT t key = ⟨false, []⟩ := by
 unfold valT at h ⊢
 split
 ·rfl
 ·rename_i h1; rw [if_neg h1] at h; cases h
def three {α : Type} [DecidableEq α] (o a b : α) : α × Bool := if a = o then (b, true) else if b = o then (a, true) else if a = b then (a, true) else (a, false)
def tagF (o a b : value) : value × Bool := if (three o a b).2 then three o a b else (if a.has then a else b, false)
def tagS : Str := [116, 97, 103, 32]
def tagK (o a b : List Tag) (k : Str) : value × Bool := tagF (valT o k) (valT a k) (valT b k)
def clashL (o a b : List Tag) (ks : List Str) : List Str := (ks.filter fun k => !(tagK o a b k).2).map fun k => tagS ++ k
def tagsL (o a b : List Tag) (ks : List Str) : List Tag := (ks.filter fun k => (tagK o a b k).1.has).map fun k => ⟨k, (tagK o a b k).1.val⟩
theorem clashL_snoc (o a b : List Tag) (ks : List Str) (k : Str) : clashL o a b (ks ++ [k]) = clashL o a b ks ++ (if (tagK o a b k).2 then [] else [tagS ++ k]) := by
 unfold clashL
 rw [List.filter_append, List.map_append]
 congr 1
 cases h : (tagK o a b k).2 <;> simp [h]
theorem tagsL_snoc (o a b : List Tag) (ks : List Str) (k : Str) : tagsL o a b (ks ++ [k]) = tagsL o a b ks ++ (if (tagK o a b k).1.has then [⟨k, (tagK o a b k).1.val⟩] else []) := by
 unfold tagsL
 rw [List.filter_append, List.map_append]
 congr 1
 cases h : (tagK o a b k).1.has <;> simp [h]
theorem clashL_len (o a b : List Tag) (ks : List Str) : (clashL o a b ks).length ≤ ks.length := by
 unfold clashL; rw [List.length_map]; exact List.length_filter_le _ _
theorem tagsL_len (o a b : List Tag) (ks : List Str) : (tagsL o a b ks).length ≤ ks.length := by
 unfold tagsL; rw [List.length_map]; exact List.length_filter_le _ _
def shapeF (o a b : Shape) : Shape × Bool :=
 if (three o a b).2 then three o a b
 else if a.Kind = o.Kind ∧ b.Kind = o.Kind then
  match smerge o.Pts a.Pts b.Pts with
  | some p => if shapeOk ⟨a.Kind, p⟩ then (⟨a.Kind, p⟩, true) else (a, false)
  | none => (a, false)
 else (a, false)
def allKeys (o a b : Feat) : List Str := uniq (keysT (o.Tags ++ a.Tags ++ b.Tags))
def shapeS : Str := [115, 104, 97, 112, 101]
def joinF (o a b : Feat) : Feat := ⟨a.Id, (shapeF o.Shape a.Shape b.Shape).1, tagsL o.Tags a.Tags b.Tags (allKeys o a b)⟩
def joinW (o a b : Feat) : List Str := (if (shapeF o.Shape a.Shape b.Shape).2 then [] else [shapeS]) ++ clashL o.Tags a.Tags b.Tags (allKeys o a b)
def joinOf (o a b : Feat) : Feat × List Str := if featOk (joinF o a b) then (joinF o a b, joinW o a b) else (a, [[109, 117, 99, 104]])
def featJoin (o a b : Feat) : Feat × List Str := if featOk o && featOk a && featOk b && decide (o.Id = a.Id) && decide (o.Id = b.Id) then joinOf o a b else (zeroF, [])
theorem feat_facts {f : Feat} (h : featOk f = true) : f.Tags.length ≤ 4 ∧ shapeOk f.Shape = true ∧ f.Shape.Pts.length ≤ 6 ∧ f.Id.length ≤ 6 ∧ ∀ t ∈ f.Tags, t.Key.length ≤ 6 ∧ t.Val.length ≤ 6 := by
 have hb := (feat_small h).2
 unfold featOk at h
 simp only [Bool.and_eq_true, decide_eq_true_eq] at h
 obtain ⟨⟨⟨h1, h2⟩, h3⟩, h4⟩ := h
 refine ⟨h2, h4, ?_, hb, fun t hm => ?_⟩
 ·unfold shapeOk kindOk at h4
  simp only [Bool.and_eq_true] at h4
  have := h4.2
  split at this
  ·simp only [decide_eq_true_eq] at this; omega
  ·split at this
   ·simp only [Bool.and_eq_true, decide_eq_true_eq] at this; omega
   ·split at this
    ·simp only [Bool.and_eq_true, decide_eq_true_eq] at this; omega
    ·cases this
 ·unfold tagsOk at h1
  obtain ⟨k, hk, rfl⟩ := List.getElem_of_mem hm
  have := allN_iff.1 h1 k hk
  rw [nth_nat _ hk] at this
  simp only [Bool.and_eq_true] at this
  exact ⟨word_len this.1.1, word_len this.1.2⟩
theorem shape_pts {s : Shape} (h : shapeOk s = true) : s.Pts.length ≤ 6 := by
 unfold shapeOk kindOk at h
 simp only [Bool.and_eq_true] at h
 have := h.2
 split at this
 ·simp only [decide_eq_true_eq] at this; omega
 ·split at this
  ·simp only [Bool.and_eq_true, decide_eq_true_eq] at this; omega
  ·split at this
   ·simp only [Bool.and_eq_true, decide_eq_true_eq] at this; omega
   ·cases this
theorem three_in {α : Type} [DecidableEq α] (o a b : α) : (three o a b).1 = a ∨ (three o a b).1 = b := by
 unfold three
 split
 ·exact .inr rfl
 ·split
  ·exact .inl rfl
  ·split <;> exact .inl rfl
theorem shapeF_pts {o a b : Shape} (ha : a.Pts.length ≤ 6) (hb : b.Pts.length ≤ 6) : (shapeF o a b).1.Pts.length ≤ 6 := by
 unfold shapeF
 split
 ·rcases three_in o a b with h | h <;> rw [h] <;> assumption
 ·split
  ·split
   ·split
    ·rename_i h; exact shape_pts h
    ·exact ha
   ·exact ha
  ·exact ha
theorem valT_len {t : List Tag} (h : ∀ x ∈ t, x.Val.length ≤ 6) (k : Str) : (valT t k).val.length ≤ 6 := by
 unfold valT
 split
 ·exact Nat.zero_le _
 ·have h1 := findN_le t.length fun j => (nth t (j : Int)).Key == k
  exact h _ (nth_memi t OM h1.2)
theorem tagF_in (o a b : value) : (tagF o a b).1 = a ∨ (tagF o a b).1 = b := by
 unfold tagF
 split
 ·exact three_in o a b
 ·split
  ·exact .inl rfl
  ·exact .inr rfl
theorem allKeys_len (o a b : Feat) : (allKeys o a b).length ≤ o.Tags.length + a.Tags.length + b.Tags.length := by
 have h := uniq_len (keysT (o.Tags ++ a.Tags ++ b.Tags))
 have e : (keysT (o.Tags ++ a.Tags ++ b.Tags)).length = o.Tags.length + a.Tags.length + b.Tags.length := by unfold keysT; simp; omega
 unfold allKeys; omega
theorem allKeys_small {o a b : Feat} (ho : featOk o = true) (ha : featOk a = true) (hb : featOk b = true) : (allKeys o a b).length ≤ 12 ∧ ∀ k ∈ allKeys o a b, k.length ≤ 6 := by
 have h1 := feat_facts ho; have h2 := feat_facts ha; have h3 := feat_facts hb
 refine ⟨by have := allKeys_len o a b; omega, fun k hk => ?_⟩
 unfold allKeys at hk
 rw [uniq_mem] at hk
 obtain ⟨t, ht, rfl⟩ := List.mem_map.1 hk
 rcases List.mem_append.1 ht with ht | ht
 ·rcases List.mem_append.1 ht with ht | ht
  ·exact (h1.2.2.2.2 t ht).1
  ·exact (h2.2.2.2.2 t ht).1
 ·exact (h3.2.2.2.2 t ht).1
theorem tagsL_small {o a b : Feat} (ho : featOk o = true) (ha : featOk a = true) (hb : featOk b = true) : bulk (tagsL o.Tags a.Tags b.Tags (allKeys o a b)) ≤ 200 := by
 obtain ⟨k1, k2⟩ := allKeys_small ho ha hb
 have hl := tagsL_len o.Tags a.Tags b.Tags (allKeys o a b)
 have hs := bulk_small (tagsL o.Tags a.Tags b.Tags (allKeys o a b)) 12 fun t ht => by
  unfold tagsL at ht
  obtain ⟨k, hk, rfl⟩ := List.mem_map.1 ht
  have hk := k2 k (List.mem_filter.1 hk).1
  have hv : (tagK o.Tags a.Tags b.Tags k).1.val.length ≤ 6 := by
   rcases tagF_in (valT o.Tags k) (valT a.Tags k) (valT b.Tags k) with h | h
   ·unfold tagK; rw [h]; exact valT_len (fun x hx => ((feat_facts ha).2.2.2.2 x hx).2) k
   ·unfold tagK; rw [h]; exact valT_len (fun x hx => ((feat_facts hb).2.2.2.2 x hx).2) k
  have e : bulk (⟨k, (tagK o.Tags a.Tags b.Tags k).1.val⟩ : Tag) = bulk k + bulk (tagK o.Tags a.Tags b.Tags k).1.val := rfl
  rw [e, bulk_str, bulk_str]; omega
 have : (tagsL o.Tags a.Tags b.Tags (allKeys o a b)).length * (12 + 1) ≤ 12 * 13 := Nat.mul_le_mul OM (Nat.le_refl _)
 omega
theorem joinF_small {o a b : Feat} (ho : featOk o = true) (ha : featOk a = true) (hb : featOk b = true) : bulk (joinF o a b) ≤ 300 := by
 have h2 := feat_facts ha; have h3 := feat_facts hb
 have ht := tagsL_small ho ha hb
 have hp := shapeF_pts (o := o.Shape) h2.2.2.1 h3.2.2.1
 have e : bulk (joinF o a b) = bulk a.Id + (0 + bulk (shapeF o.Shape a.Shape b.Shape).1.Pts) + bulk (tagsL o.Tags a.Tags b.Tags (allKeys o a b)) := rfl
 have e2 : bulk a.Id = a.Id.length := bulk_str _
 have e3 : bulk (shapeF o.Shape a.Shape b.Shape).1.Pts = (shapeF o.Shape a.Shape b.Shape).1.Pts.length := bulk_flat (fun _ => rfl) _
 omega
section
def mkL {α : Type} (g : α → Int → α × Int) : List α → Int → List α × Int
 | [], k => ([], k)
 | x :: l, k => ((g x k).1 :: (mkL g l (g x k).2).1, (mkL g l (g x k).2).2)
section
variable {α : Type} {g : α → Int → α × Int}
theorem mkL_snoc (x : α) : ∀ (l : List α) (k : Int), mkL g (l ++ [x]) k = ((mkL g l k).1 ++ [(g x (mkL g l k).2).1], (g x (mkL g l k).2).2)
 | [], k => rfl
 | y :: l, k => by
  rw [List.cons_append, mkL, mkL_snoc x l]; rfl
theorem mkL_len : ∀ (l : List α) (k : Int), (mkL g l k).1.length = l.length
 | [], k => rfl
 | y :: l, k => by rw [mkL, List.length_cons, List.length_cons, mkL_len l]
theorem mkL_app : ∀ (l m : List α) (k : Int), mkL g (l ++ m) k = ((mkL g l k).1 ++ (mkL g m (mkL g l k).2).1, (mkL g m (mkL g l k).2).2)
 | [], m, k => rfl
 | y :: l, m, k => by rw [List.cons_append, mkL, mkL_app l]; rfl
variable [Inhabited α]
def Mk (g : α → Int → α × Int) (a : List α) (k : Int) (u : Nat) (xs : List α) (k' : Int) : Prop := u ≤ a.length ∧ xs = (mkL g (a.take u) k).1 ++ a.drop u ∧ k' = (mkL g (a.take u) k).2
variable {a xs : List α} {k k' : Int} {u : Nat}
theorem Mk.zero (a : List α) (k : Int) : Mk g a k 0 a k := ⟨Nat.zero_le _, by simp [mkL], by simp [mkL]⟩
theorem Mk.len (h : Mk g a k u xs k') : xs.length = a.length := by
 rw [h.2.1, List.length_append, mkL_len, List.length_take, List.length_drop]; have := h.1; omega
theorem Mk.nth (h : Mk g a k u xs k') (hu : u < a.length) : nth xs (u : Int) = Go.Proofs.YtpdmnmpcjljeaaaGreat.nth a (u : Int) := by
 rw [nth_nat xs (by rw [h.len]; exact hu), nth_nat a hu]
 have hl : (mkL g (a.take u) k).1.length = u := by rw [mkL_len, List.length_take]; omega
 have := h.2.1
 subst this
 rw [List.getElem_append_right OM]
 simp [hl]
def Hd (g : α → Int → α × Int) (a : List α) (k : Int) (u : Nat) (k' : Int) : Prop := u ≤ a.length ∧ k' = (mkL g (a.take u) k).2
theorem Hd.zero (a : List α) (k : Int) : Hd g a k 0 k := ⟨Nat.zero_le _, by simp [mkL]⟩
theorem Hd.nth (h : Hd g a k u k') (hu : u < a.length) : nth (mkL g a k).1 (u : Int) = (g (Go.Proofs.YtpdmnmpcjljeaaaGreat.nth a (u : Int)) k').1 := by
 have e : a = (a.take u ++ [Go.Proofs.YtpdmnmpcjljeaaaGreat.nth a (u : Int)]) ++ a.drop (u + 1) := by rw [← take_nth a hu, List.take_append_drop]
 have hl : (mkL g (a.take u) k).1.length = u := by rw [mkL_len, List.length_take]; omega
 rw [nth_nat _ (by rw [mkL_len]; exact hu)]
 have h1 : (mkL g a k).1[u]? = some (g (Go.Proofs.YtpdmnmpcjljeaaaGreat.nth a (u : Int)) k').1 := by
  conv => lhs; rw [e]
  rw [mkL_app, mkL_snoc]
  dsimp only
  rw [List.append_assoc, List.getElem?_append_right OM, hl, Nat.sub_self, h.2]; rfl
 rw [List.getElem?_eq_getElem (by rw [mkL_len]; exact hu)] at h1
 exact Option.some.inj h1
end
theorem bulk_feat (x : Feat) : bulk x = bulk x.Id + (bulk x.Shape.Kind + bulk x.Shape.Pts) + bulk x.Tags := rfl
theorem bulk_change (x : Change) : bulk x = bulk x.Id + bulk x.Had + bulk x.Was + bulk x.Has + bulk x.Now := rfl
end
theorem pw_ext {α : Type} {R : α → α → Prop} (irr : ∀ x, ¬ R x x) (tr : ∀ x y z, R x y → R y z → R x z) : ∀ {l m : List α}, l.Pairwise R → m.Pairwise R → (∀ x, x ∈ l ↔ x ∈ m) → l = m
 | [], [], _, _, _ => rfl
 | [], y :: m, _, _, h => by have := (h y).2 List.mem_cons_self; cases this
 | x :: l, [], _, _, h => by have := (h x).1 List.mem_cons_self; cases this
 | x :: l, y :: m, hl, hm, h => by
  obtain ⟨l1, l2⟩ := List.pairwise_cons.1 hl
  obtain ⟨m1, m2⟩ := List.pairwise_cons.1 hm
  have e : x = y := by
   rcases List.mem_cons.1 ((h x).1 List.mem_cons_self) with e | e
   ·exact e
   ·rcases List.mem_cons.1 ((h y).2 List.mem_cons_self) with e' | e'
    ·exact e'.symm
    ·exact absurd (tr _ _ _ (m1 x e) (l1 y e')) (irr _)
  subst e
  rw [pw_ext irr tr l2 m2 fun z => ⟨fun hz => ?_, fun hz => ?_⟩]
  ·rcases List.mem_cons.1 ((h z).1 (List.mem_cons_of_mem _ hz)) with e | e
   ·subst e; exact absurd (l1 z hz) (irr _)
   ·exact e
  ·rcases List.mem_cons.1 ((h z).2 (List.mem_cons_of_mem _ hz)) with e | e
   ·subst e; exact absurd (m1 z hz) (irr _)
   ·exact e
def idsC (d : List Change) : List Str := d.map (·.Id)
theorem idsC_app (s t : List Change) : idsC (s ++ t) = idsC s ++ idsC t := List.map_append
def CS (d : List Change) : Prop := d.Pairwise fun x y => Op.bytesLess x.Id y.Id = true
theorem CS.ext {l m : List Change} (hl : CS l) (hm : CS m) (h : ∀ x, x ∈ l ↔ x ∈ m) : l = m :=
 pw_ext (R := fun x y : Change => Op.bytesLess x.Id y.Id = true) (fun x e => by rw [less_irr] at e; cases e) (fun x y z h1 h2 => less_trans h1 h2) hl hm h
theorem CS.ids {d : List Change} (h : CS d) : SS (idsC d) := List.pairwise_map.2 h
theorem diff_cs {d : List Change} (h : diffOk d = true) : CS d ∧ d.length ≤ 16 ∧ ∀ c ∈ d, changeOk c = true := by
 unfold diffOk at h
 simp only [Bool.and_eq_true, decide_eq_true_eq] at h
 obtain ⟨h1, h2⟩ := h
 have h1 := allN_iff.1 h1
 have hadj : ∀ k, 0 < k → k < d.length → Op.bytesLess (nth d ((k : Int) - 1)).Id (nth d (k : Int)).Id = true := fun k h0 hk => by
  have := h1 k hk
  simp only [Bool.and_eq_true, Bool.or_eq_true, decide_eq_true_eq] at this
  rcases this.2 with h | h
  ·omega
  ·exact h
 refine ⟨?_, h2, fun f hf => ?_⟩
 ·refine List.pairwise_iff_getElem.2 fun i j hi hj hij => ?_
  have key : ∀ q, i + q + 1 < d.length → Op.bytesLess d[i].Id (nth d ((i + q + 1 : Nat) : Int)).Id = true := by
   intro q
   induction q with
   | zero =>
    intro hd
    have := hadj (i + 0 + 1) OM hd
    rw [show (((i + 0 + 1 : Nat) : Int) - 1) = (i : Int) by omega, nth_nat d hi] at this
    exact this
   | succ q ih =>
    intro hd
    have := hadj (i + (q + 1) + 1) OM hd
    rw [show (((i + (q + 1) + 1 : Nat) : Int) - 1) = ((i + q + 1 : Nat) : Int) by omega] at this
    exact less_trans (ih OM) this
  have := key (j - i - 1) OM
  rw [show i + (j - i - 1) + 1 = j by omega, nth_nat d hj] at this
  exact this
 ·obtain ⟨k, hk, rfl⟩ := List.getElem_of_mem hf
  have := h1 k hk
  rw [nth_nat d hk] at this
  simp only [Bool.and_eq_true] at this
  exact this.1
theorem side_small {id : Str} {has : Bool} {f : Feat} (h : sideOk id has f = true) : bulk f ≤ 100 := by
 unfold sideOk at h
 cases has with
 | true =>
  rw [if_pos rfl] at h
  simp only [Bool.and_eq_true] at h
  exact (feat_small h.1).1
 | false =>
  rw [if_neg RD] at h
  unfold noF at h
  rw [of_decide_eq_true h]; decide
theorem change_small {c : Change} (h : changeOk c = true) : bulk c ≤ 206 ∧ sameC c = false ∧ bulk c.Was ≤ 100 ∧ bulk c.Now ≤ 100 ∧ c.Id.length ≤ 6 := by
 unfold changeOk at h
 simp only [Bool.and_eq_true, Bool.not_eq_true'] at h
 obtain ⟨⟨⟨h1, h2⟩, h3⟩, h4⟩ := h
 have a1 := word_len h1
 have a2 := side_small h2
 have a3 := side_small h3
 have e := bulk_change c
 have e1 : bulk c.Id = c.Id.length := bulk_str _
 have e2 : bulk c.Had = 0 := rfl
 have e3 : bulk c.Has = 0 := rfl
 exact ⟨OM, h4, a2, a3, a1⟩
def atC (d : List Change) (id : Str) : Int := findN d.length fun j => (nth d (j : Int)).Id == id
theorem findN_true {n : Nat} {c : Nat → Bool} {k : Nat} (h : findN n c = (k : Int)) : k < n ∧ c k = true := by
 unfold findN at h
 cases e : (List.range n).find? c with
 | none => rw [e] at h; dsimp only at h; omega
 | some j =>
  rw [e] at h; dsimp only at h
  have : j = k := by omega
  subst this
  exact ⟨List.mem_range.1 (List.mem_of_find?_eq_some e), List.find?_some e⟩
theorem findN_neg {n : Nat} {c : Nat → Bool} (h : findN n c < 0) : ∀ j, j < n → c j = false := fun j hj => by
 unfold findN at h
 cases e : (List.range n).find? c with
 | some k => rw [e] at h; dsimp only at h; omega
 | none =>
  have := List.find?_eq_none.1 e j (List.mem_range.2 hj)
  simpa using this
theorem atC_hit {d : List Change} {id : Str} (h : ¬ atC d id < 0) : nth d (atC d id) ∈ d ∧ (nth d (atC d id)).Id = id := by
 obtain ⟨k, hk⟩ : ∃ k : Nat, atC d id = (k : Int) := ⟨(atC d id).toNat, OM⟩
 obtain ⟨h1, h2⟩ := findN_true hk
 rw [hk]
 exact ⟨nth_mem d h1, by simpa using h2⟩
theorem atC_miss {d : List Change} {id : Str} (h : atC d id < 0) : id ∉ idsC d := fun hm => by
 obtain ⟨c, hc, rfl⟩ := List.mem_map.1 hm
 obtain ⟨k, hk, rfl⟩ := List.getElem_of_mem hc
 have := findN_neg h k hk
 rw [nth_nat d hk] at this
 simp at this
theorem atC_mem {d : List Change} {id : Str} (h : ¬ atC d id < 0) : id ∈ idsC d := by
 obtain ⟨h1, h2⟩ := atC_hit h
 exact List.mem_map.2 ⟨_, h1, h2⟩
theorem CS.inj {d : List Change} (h : CS d) {x y : Change} (hx : x ∈ d) (hy : y ∈ d) (e : x.Id = y.Id) : x = y := by
 obtain ⟨i, hi, rfl⟩ := List.getElem_of_mem hx
 obtain ⟨j, hj, rfl⟩ := List.getElem_of_mem hy
 rcases Nat.lt_trichotomy i j with g | g | g
 ·have := List.pairwise_iff_getElem.1 h i j hi hj g
  rw [e, less_irr] at this; cases this
 ·subst g; rfl
 ·have := List.pairwise_iff_getElem.1 h j i hj hi g
  rw [e, less_irr] at this; cases this
theorem atC_of {d : List Change} (h : CS d) {c : Change} (hc : c ∈ d) : ¬ atC d c.Id < 0 ∧ nth d (atC d c.Id) = c := by
 have h0 : ¬ atC d c.Id < 0 := fun e => atC_miss e (List.mem_map.2 ⟨c, hc, rfl⟩)
 obtain ⟨h1, h2⟩ := atC_hit h0
 exact ⟨h0, h.inj h1 hc h2⟩
theorem sideOf_hit {s : List Feat} {id : Str} (h : (sideOf s id).2 = true) : (sideOf s id).1 ∈ s ∧ (sideOf s id).1.Id = id := by
 unfold sideOf at h ⊢
 split at h
 ·cases h
 ·rename_i g
  rw [if_neg g]
  have h1 := findN_le s.length fun j => (nth s (j : Int)).Id == id
  obtain ⟨k, hk⟩ : ∃ k : Nat, findN s.length (fun j => (nth s (j : Int)).Id == id) = (k : Int) := ⟨_, (Int.toNat_of_nonneg OM).symm⟩
  obtain ⟨h2, h3⟩ := findN_true hk
  rw [hk]
  exact ⟨nth_mem s h2, by simpa using h3⟩
theorem sideOf_no {s : List Feat} {id : Str} (h : (sideOf s id).2 = false) : (sideOf s id).1 = zeroF ∧ id ∉ ids s := by
 unfold sideOf at h ⊢
 split at h
 ·rename_i g
  rw [if_pos g]
  refine ⟨rfl, fun hm => ?_⟩
  obtain ⟨f, hf, rfl⟩ := List.mem_map.1 hm
  obtain ⟨k, hk, rfl⟩ := List.getElem_of_mem hf
  have := findN_neg g k hk
  rw [nth_nat s hk] at this
  simp at this
 ·cases h
theorem sideOf_iff {s : List Feat} {id : Str} : (sideOf s id).2 = true ↔ id ∈ ids s := by
 constructor
 ·intro h
  obtain ⟨h1, h2⟩ := sideOf_hit h
  exact List.mem_map.2 ⟨_, h1, h2⟩
 ·intro h
  cases g : (sideOf s id).2 with
  | true => rfl
  | false => exact absurd h (sideOf_no g).2
def thOf (s : List Feat) (id : Str) : thing := ⟨(sideOf s id).2, (sideOf s id).1⟩
theorem thOf_no {s : List Feat} {id : Str} (h : (thOf s id).has = false) : thOf s id = ⟨false, zeroF⟩ := by
 have h1 := (sideOf_no h).1
 unfold thOf at h ⊢
 dsimp only at h
 rw [h, h1]
def goneS : Str := [103, 111, 110, 101]
def bothS : Str := [98, 111, 116, 104]
def oneOf (o a b : thing) : thing × List Str :=
 if (three o a b).2 then ((three o a b).1, [])
 else if a.has = false then (b, [goneS])
 else if b.has = false then (a, [goneS])
 else if o.has = false then (a, [bothS])
 else (⟨true, (joinOf o.f a.f b.f).1⟩, (joinOf o.f a.f b.f).2)
def oneAt (o a b : List Feat) (id : Str) : thing × List Str := oneOf (thOf o id) (thOf a id) (thOf b id)
def joinFs (o a b : List Feat) (l : List Str) : List Feat := (l.filter fun i => (oneAt o a b i).1.has).map fun i => (oneAt o a b i).1.f
def clashAtL (i : Str) (w : List Str) : List Clash := w.map fun x => ⟨i, x⟩
def joinCs (o a b : List Feat) (l : List Str) : List Clash := (l.map fun i => clashAtL i (oneAt o a b i).2).flatten
def ids3 (o a b : List Feat) : List Str := uniq (ids o ++ ids a ++ ids b)
def sheetJoin (o a b : List Feat) : List Feat × List Clash × Bool :=
 if sheetOk o && sheetOk a && sheetOk b then
  if sheetOk (joinFs o a b (ids3 o a b)) then (joinFs o a b (ids3 o a b), joinCs o a b (ids3 o a b), true) else ([], [], false)
 else ([], [], false)
theorem joinFs_snoc (o a b : List Feat) (l : List Str) (i : Str) : joinFs o a b (l ++ [i]) = joinFs o a b l ++ (if (oneAt o a b i).1.has then [(oneAt o a b i).1.f] else []) := by
 unfold joinFs
 rw [List.filter_append, List.map_append]
 congr 1
 cases h : (oneAt o a b i).1.has <;> simp [h]
theorem joinCs_snoc (o a b : List Feat) (l : List Str) (i : Str) : joinCs o a b (l ++ [i]) = joinCs o a b l ++ clashAtL i (oneAt o a b i).2 := by
 unfold joinCs
 rw [List.map_append, List.flatten_append]
 simp
theorem joinFs_len (o a b : List Feat) (l : List Str) : (joinFs o a b l).length ≤ l.length := by
 unfold joinFs; rw [List.length_map]; exact List.length_filter_le _ _
theorem ids3_len {o a b : List Feat} (ho : sheetOk o = true) (ha : sheetOk a = true) (hb : sheetOk b = true) : (ids3 o a b).length ≤ 24 := by
 have h1 := uniq_len (ids o ++ ids a ++ ids b)
 have h2 : (ids o ++ ids a ++ ids b).length = o.length + a.length + b.length := by unfold ids; simp; omega
 have := (sheet_ss ho).2.1; have := (sheet_ss ha).2.1; have := (sheet_ss hb).2.1
 unfold ids3; omega
theorem ids3_small {o a b : List Feat} (ho : sheetOk o = true) (ha : sheetOk a = true) (hb : sheetOk b = true) {i : Str} (hi : i ∈ ids3 o a b) : i.length ≤ 6 := by
 have key : ∀ {s : List Feat}, sheetOk s = true → i ∈ ids s → i.length ≤ 6 := fun hs hm => by
  obtain ⟨f, hf, rfl⟩ := List.mem_map.1 hm
  exact (feat_small ((sheet_ss hs).2.2 f hf)).2
 unfold ids3 at hi
 rcases List.mem_append.1 (uniq_mem.1 hi) with h | h
 ·rcases List.mem_append.1 h with h | h
  ·exact key ho h
  ·exact key ha h
 ·exact key hb h
theorem thOf_ok {s : List Feat} (hs : sheetOk s = true) (id : Str) : thOf s id = ⟨false, zeroF⟩ ∨ ((thOf s id).has = true ∧ featOk (thOf s id).f = true ∧ (thOf s id).f.Id = id) := by
 cases h : (sideOf s id).2 with
 | false => exact .inl (thOf_no h)
 | true =>
  obtain ⟨h1, h2⟩ := sideOf_hit h
  exact .inr ⟨h, (sheet_ss hs).2.2 _ h1, h2⟩
theorem three_case {α : Type} [DecidableEq α] (o a b : α) : (a = o ∧ three o a b = (b, true)) ∨ (¬ a = o ∧ b = o ∧ three o a b = (a, true)) ∨ (¬ a = o ∧ ¬ b = o ∧ a = b ∧ three o a b = (a, true)) ∨ (¬ a = o ∧ ¬ b = o ∧ ¬ a = b ∧ three o a b = (a, false)) := by
 unfold three
 by_cases h1 : a = o
 ·exact .inl ⟨h1, if_pos h1⟩
 ·rw [if_neg h1]
  by_cases h2 : b = o
  ·exact .inr (.inl ⟨h1, h2, if_pos h2⟩)
  ·rw [if_neg h2]
   by_cases h3 : a = b
   ·exact .inr (.inr (.inl ⟨h1, h2, h3, if_pos h3⟩))
   ·exact .inr (.inr (.inr ⟨h1, h2, h3, if_neg h3⟩))
theorem joinW_len {o a b : Feat} (ho : featOk o = true) (ha : featOk a = true) (hb : featOk b = true) : (joinOf o a b).2.length ≤ 13 ∧ (∀ x ∈ (joinOf o a b).2, x.length ≤ 20) ∧ bulk (joinOf o a b).1 ≤ 300 := by
 obtain ⟨ks1, ks2⟩ := allKeys_small ho ha hb
 have hcl := clashL_len o.Tags a.Tags b.Tags (allKeys o a b)
 unfold joinOf
 split
 ·refine ⟨?_, fun x hx => ?_, joinF_small ho ha hb⟩
  ·unfold joinW
   rw [List.length_append]
   split
   ·simp only [List.length_nil]; omega
   ·simp only [List.length_cons, List.length_nil]; omega
  ·unfold joinW at hx
   rcases List.mem_append.1 hx with hx | hx
   ·split at hx
    ·cases hx
    ·rw [List.mem_singleton.1 hx]; decide
   ·unfold clashL at hx
    obtain ⟨k, hk, rfl⟩ := List.mem_map.1 hx
    have := ks2 k (List.mem_filter.1 hk).1
    rw [List.length_append]
    have : tagS.length = 4 := rfl
    omega
 ·refine ⟨by simp, fun x hx => ?_, Nat.le_trans (feat_small ha).1 OM⟩
  rw [List.mem_singleton.1 hx]; decide
theorem oneAt_small {o a b : List Feat} (ho : sheetOk o = true) (ha : sheetOk a = true) (hb : sheetOk b = true) (i : Str) : (oneAt o a b i).2.length ≤ 13 ∧ (∀ x ∈ (oneAt o a b i).2, x.length ≤ 20) ∧ bulk (oneAt o a b i).1.f ≤ 300 := by
 have to_ := thOf_ok ho i; have ta := thOf_ok ha i; have tb := thOf_ok hb i
 have small : ∀ {t : thing}, (t = ⟨false, zeroF⟩ ∨ (t.has = true ∧ featOk t.f = true ∧ t.f.Id = i)) → bulk t.f ≤ 300 := fun h => by
  rcases h with rfl | h
  ·exact (by decide : bulk zeroF ≤ 300)
  ·exact Nat.le_trans (feat_small h.2.1).1 OM
 unfold oneAt oneOf
 split
 ·refine ⟨by simp, fun x hx => (by cases hx), ?_⟩
  rcases three_in (thOf o i) (thOf a i) (thOf b i) with h | h <;> rw [h]
  ·exact small ta
  ·exact small tb
 ·split
  ·exact ⟨by simp, fun x hx => by rw [List.mem_singleton.1 hx]; decide, small tb⟩
  ·rename_i h1
   split
   ·exact ⟨by simp, fun x hx => by rw [List.mem_singleton.1 hx]; decide, small ta⟩
   ·rename_i h2
    split
    ·exact ⟨by simp, fun x hx => by rw [List.mem_singleton.1 hx]; decide, small ta⟩
    ·rename_i h3
     have g : ∀ {t : thing}, (t = ⟨false, zeroF⟩ ∨ (t.has = true ∧ featOk t.f = true ∧ t.f.Id = i)) → ¬ t.has = false → featOk t.f = true := fun h hn => by
      rcases h with rfl | h
      ·exact absurd rfl hn
      ·exact h.2.1
     exact joinW_len (g to_ h3) (g ta h1) (g tb h2)
theorem joinCs_len {o a b : List Feat} (ho : sheetOk o = true) (ha : sheetOk a = true) (hb : sheetOk b = true) (l : List Str) : (joinCs o a b l).length ≤ 13 * l.length := by
 induction l with
 | nil => exact Nat.zero_le _
 | cons i l ih =>
  have e : joinCs o a b (i :: l) = clashAtL i (oneAt o a b i).2 ++ joinCs o a b l := by unfold joinCs; simp
  have h := (oneAt_small ho ha hb i).1
  rw [e, List.length_append, List.length_cons]
  have : (clashAtL i (oneAt o a b i).2).length = (oneAt o a b i).2.length := by unfold clashAtL; simp
  omega
theorem joinFs_small {o a b : List Feat} (ho : sheetOk o = true) (ha : sheetOk a = true) (hb : sheetOk b = true) (l : List Str) : bulk (joinFs o a b l) ≤ 301 * l.length := by
 have h1 := bulk_small (joinFs o a b l) 300 fun f hf => by
  unfold joinFs at hf
  obtain ⟨i, _, rfl⟩ := List.mem_map.1 hf
  exact (oneAt_small ho ha hb i).2.2
 have h2 := joinFs_len o a b l
 have : (joinFs o a b l).length * (300 + 1) ≤ l.length * 301 := Nat.mul_le_mul h2 (Nat.le_refl _)
 omega
theorem joinCs_small {o a b : List Feat} (ho : sheetOk o = true) (ha : sheetOk a = true) (hb : sheetOk b = true) : bulk (joinCs o a b (ids3 o a b)) ≤ 20000 := by
 have h1 := bulk_small (joinCs o a b (ids3 o a b)) 26 fun c hc => by
  unfold joinCs at hc
  obtain ⟨m, hm, hc⟩ := List.mem_flatten.1 hc
  obtain ⟨i, hi, rfl⟩ := List.mem_map.1 hm
  obtain ⟨x, hx, rfl⟩ := List.mem_map.1 hc
  have e1 := ids3_small ho ha hb hi
  have e2 := (oneAt_small ho ha hb i).2.1 x hx
  have e : bulk (⟨i, x⟩ : Clash) = bulk i + bulk x := rfl
  rw [e, bulk_str, bulk_str]; omega
 have h2 := joinCs_len ho ha hb (ids3 o a b)
 have h3 := ids3_len ho ha hb
 have : (joinCs o a b (ids3 o a b)).length * (26 + 1) ≤ (13 * 24) * 27 := Nat.mul_le_mul OM (Nat.le_refl _)
 omega
theorem sheetJoin_small (o a b : List Feat) : bulk (sheetJoin o a b).1 ≤ 10000 ∧ bulk (sheetJoin o a b).2.1 ≤ 20000 := by
 unfold sheetJoin
 split
 ·rename_i h
  simp only [Bool.and_eq_true] at h
  split
  ·have h1 := joinFs_small h.1.1 h.1.2 h.2 (ids3 o a b)
   have h2 := ids3_len h.1.1 h.1.2 h.2
   exact ⟨by dsimp only; omega, joinCs_small h.1.1 h.1.2 h.2⟩
  ·exact ⟨Nat.zero_le _, Nat.zero_le _⟩
 ·exact ⟨Nat.zero_le _, Nat.zero_le _⟩
theorem thing.ext_iff' (a b : thing) : a = b ↔ a.has = b.has ∧ a.f = b.f := by cases a; cases b; simp
def ThOk (i : Str) (t : thing) : Prop := t = ⟨false, zeroF⟩ ∨ (t.has = true ∧ featOk t.f = true ∧ t.f.Id = i)
theorem ThOk.small {i : Str} {t : thing} (h : ThOk i t) : bulk t.f ≤ 100 ∧ (t.f.Shape.Pts.length ≤ 1048576 ∧ t.f.Tags.length ≤ 1048576) := by
 have key : bulk t.f ≤ 100 := by
  rcases h with rfl | h
  ·exact (by decide : bulk zeroF ≤ 100)
  ·exact (feat_small h.2.1).1
 have h1 := bulk_feat t.f
 have h2 := bulk_len t.f.Tags
 have h3 := bulk_len t.f.Shape.Pts
 exact ⟨key, OM, OM⟩
theorem ThOk.has {i : Str} {t : thing} (h : ThOk i t) (g : t.has = true) : featOk t.f = true ∧ t.f.Id = i := by
 rcases h with rfl | h
 ·cases g
 ·exact h.2
theorem ThOk.no {i : Str} {t : thing} (h : ThOk i t) (g : t.has = false) : t = ⟨false, zeroF⟩ := by
 rcases h with rfl | h
 ·rfl
 ·rw [h.1] at g; cases g
theorem one_same {o a b : thing} (h : (three o a b).2 = true) : oneOf o a b = ((three o a b).1, []) := by unfold oneOf; rw [if_pos h]
theorem one_else {o a b : thing} (h : (three o a b).2 = false) : oneOf o a b = if a.has = false then (b, [goneS]) else if b.has = false then (a, [goneS]) else if o.has = false then (a, [bothS]) else (⟨true, (joinOf o.f a.f b.f).1⟩, (joinOf o.f a.f b.f).2) := by
 unfold oneOf; rw [if_neg (by rw [h]; decide)]
def FS (l : List Feat) : Prop := l.Pairwise fun x y => Op.bytesLess x.Id y.Id = true
theorem FS.ext {l m : List Feat} (hl : FS l) (hm : FS m) (h : ∀ x, x ∈ l ↔ x ∈ m) : l = m :=
 pw_ext (R := fun x y : Feat => Op.bytesLess x.Id y.Id = true) (fun x e => by rw [less_irr] at e; cases e) (fun x y z h1 h2 => less_trans h1 h2) hl hm h
theorem FS.of_ids {l : List Feat} (h : SS (ids l)) : FS l := List.pairwise_map.1 h
theorem FS.inj {d : List Feat} (h : FS d) {x y : Feat} (hx : x ∈ d) (hy : y ∈ d) (e : x.Id = y.Id) : x = y := by
 obtain ⟨i, hi, rfl⟩ := List.getElem_of_mem hx
 obtain ⟨j, hj, rfl⟩ := List.getElem_of_mem hy
 rcases Nat.lt_trichotomy i j with g | g | g
 ·have := List.pairwise_iff_getElem.1 h i j hi hj g
  rw [e, less_irr] at this; cases this
 ·subst g; rfl
 ·have := List.pairwise_iff_getElem.1 h j i hj hi g
  rw [e, less_irr] at this; cases this
theorem sheet_fs {s : List Feat} (h : sheetOk s = true) : FS s := FS.of_ids (sheet_ss h).1
theorem sideOf_of {s : List Feat} (h : FS s) {f : Feat} (hf : f ∈ s) : sideOf s f.Id = (f, true) := by
 have h1 : (sideOf s f.Id).2 = true := sideOf_iff.2 (List.mem_map.2 ⟨f, hf, rfl⟩)
 obtain ⟨h2, h3⟩ := sideOf_hit h1
 have := h.inj h2 hf h3
 exact Prod.ext this h1
def fits (s : List Feat) (c : Change) : Bool := decide ((sideOf s c.Id).2 = c.Had) && decide ((sideOf s c.Id).1 = c.Was)
def doAt (s : List Feat) (d : List Change) (id : Str) : Option Feat :=
 if atC d id < 0 then (if (sideOf s id).2 then some (sideOf s id).1 else none) else (if (nth d (atC d id)).Has then some (nth d (atC d id)).Now else none)
def doL (s : List Feat) (d : List Change) : List Feat := (uniq (ids s ++ idsC d)).filterMap (doAt s d)
def diffDo (s : List Feat) (d : List Change) : List Feat × Bool := if sheetOk s && diffOk d && d.all (fits s) && sheetOk (doL s d) then (doL s d, true) else ([], false)
theorem now_id {d : List Change} (hd : ∀ c ∈ d, changeOk c = true) {c : Change} (hc : c ∈ d) (h : c.Has = true) : c.Now.Id = c.Id ∧ featOk c.Now = true := by
 have := hd c hc
 unfold changeOk at this
 simp only [Bool.and_eq_true] at this
 have h3 := this.1.2
 unfold sideOk at h3
 rw [h, if_pos rfl] at h3
 simp only [Bool.and_eq_true, decide_eq_true_eq] at h3
 exact ⟨h3.2, h3.1⟩
theorem doAt_id {s : List Feat} {d : List Change} (hd : ∀ c ∈ d, changeOk c = true) {id : Str} {f : Feat} (h : doAt s d id = some f) : f.Id = id := by
 unfold doAt at h
 split at h
 ·split at h
  ·rename_i g
   cases h
   exact (sideOf_hit g).2
  ·cases h
 ·rename_i g
  split at h
  ·rename_i k
   cases h
   obtain ⟨h1, h2⟩ := atC_hit g
   rw [(now_id hd h1 k).1, h2]
  ·cases h
theorem doL_fs (s : List Feat) {d : List Change} (hd : ∀ c ∈ d, changeOk c = true) : FS (doL s d) := by
 unfold FS doL
 refine List.Pairwise.filterMap _ (fun x y hxy f hf g hg => ?_) (uniq_ss (ids s ++ idsC d))
 rw [doAt_id hd hf, doAt_id hd hg]; exact hxy
def Mem (s : List Feat) (d : List Change) (f : Feat) : Prop := (f ∈ s ∧ f.Id ∉ idsC d) ∨ ∃ c ∈ d, c.Has = true ∧ c.Now = f
theorem doL_mem {s : List Feat} {d : List Change} (hs : FS s) (hc : CS d) (hd : ∀ c ∈ d, changeOk c = true) (f : Feat) : f ∈ doL s d ↔ Mem s d f := by
 unfold doL Mem
 rw [List.mem_filterMap]
 constructor
 ·rintro ⟨id, _, h⟩
  have hid := doAt_id hd h
  unfold doAt at h
  split at h
  ·rename_i g
   split at h
   ·rename_i k
    cases h
    obtain ⟨k1, k2⟩ := sideOf_hit k
    exact .inl ⟨k1, by rw [k2]; exact atC_miss g⟩
   ·cases h
  ·rename_i g
   split at h
   ·rename_i k
    cases h
    exact .inr ⟨_, (atC_hit g).1, k, rfl⟩
   ·cases h
 ·rintro (⟨h1, h2⟩ | ⟨c, h1, h2, rfl⟩)
  ·refine ⟨f.Id, uniq_mem.2 (List.mem_append.2 (.inl (List.mem_map.2 ⟨f, h1, rfl⟩))), ?_⟩
   unfold doAt
   rw [if_pos (by
    apply Classical.byContradiction
    intro g
    exact h2 (atC_mem g)), sideOf_of hs h1, if_pos rfl]
  ·have hid := (now_id hd h1 h2).1
   obtain ⟨g1, g2⟩ := atC_of hc h1
   refine ⟨c.Id, uniq_mem.2 (List.mem_append.2 (.inr (List.mem_map.2 ⟨c, h1, rfl⟩))), ?_⟩
   unfold doAt
   rw [if_neg g1, g2, if_pos h2]
theorem Mem.step {s : List Feat} {d : List Change} {u : Nat} (hu : u < d.length) (hc : CS d) (hd : ∀ c ∈ d, changeOk c = true) (f : Feat) :
  Mem s (d.take (u + 1)) f ↔ (Mem s (d.take u) f ∧ f.Id ≠ (nth d (u : Int)).Id) ∨ ((nth d (u : Int)).Has = true ∧ f = (nth d (u : Int)).Now) := by
 have e : idsC (d.take (u + 1)) = idsC (d.take u) ++ [(nth d (u : Int)).Id] := by rw [take_nth d hu, idsC_app]; rfl
 have hm : nth d (u : Int) ∈ d := nth_mem d hu
 have hlt : ∀ c ∈ d.take u, Op.bytesLess c.Id (nth d (u : Int)).Id = true := fun c hc' => by
  have h := hc
  rw [← List.take_append_drop u d] at h
  refine (List.pairwise_append.1 h).2.2 c hc' _ ?_
  rw [nth_nat d hu, List.drop_eq_getElem_cons hu]; exact List.mem_cons_self
 unfold Mem
 rw [e, take_nth d hu]
 constructor
 ·rintro (⟨h1, h2⟩ | ⟨c, h1, h2, rfl⟩)
  ·rw [List.mem_append, List.mem_singleton] at h2
   exact .inl ⟨.inl ⟨h1, fun h => h2 (.inl h)⟩, fun h => h2 (.inr h)⟩
  ·rcases List.mem_append.1 h1 with h1 | h1
   ·refine .inl ⟨.inr ⟨c, h1, h2, rfl⟩, fun h => ?_⟩
    rw [(now_id hd (List.mem_of_mem_take h1) h2).1] at h
    have := hlt c h1
    rw [h, less_irr] at this; cases this
   ·rw [List.mem_singleton] at h1
    subst h1
    exact .inr ⟨h2, rfl⟩
 ·rintro (⟨h1 | ⟨c, h1, h2, rfl⟩, h3⟩ | ⟨h1, rfl⟩)
  ·refine .inl ⟨h1.1, fun h => ?_⟩
   rcases List.mem_append.1 h with h | h
   ·exact h1.2 h
   ·exact h3 (List.mem_singleton.1 h)
  ·exact .inr ⟨c, List.mem_append_left _ h1, h2, rfl⟩
  ·exact .inr ⟨_, List.mem_append_right _ (List.mem_singleton.2 rfl), h1, rfl⟩
theorem Mem.zero (s : List Feat) (d : List Change) (f : Feat) : Mem s (d.take 0) f ↔ f ∈ s := by
 unfold Mem
 simp [idsC]
theorem doL_len {s : List Feat} {d : List Change} (hs : sheetOk s = true) (hd : diffOk d = true) : (doL s d).length ≤ 24 := by
 unfold doL
 have h1 := List.length_filterMap_le (doAt s d) (uniq (ids s ++ idsC d))
 have h2 := uniq_len (ids s ++ idsC d)
 have h3 : (ids s ++ idsC d).length = s.length + d.length := by unfold ids idsC; simp
 have := (sheet_ss hs).2.1; have := (diff_cs hd).2.1
 omega
theorem doL_ok {s : List Feat} {d : List Change} (hs : sheetOk s = true) (hd : diffOk d = true) : ∀ f ∈ doL s d, featOk f = true := fun f hf => by
 rcases (doL_mem (sheet_fs hs) (diff_cs hd).1 (diff_cs hd).2.2 f).1 hf with h | ⟨c, h1, h2, rfl⟩
 ·exact (sheet_ss hs).2.2 f h.1
 ·exact (now_id (diff_cs hd).2.2 h1 h2).2
theorem doL_small {s : List Feat} {d : List Change} (hs : sheetOk s = true) (hd : diffOk d = true) : bulk (doL s d) ≤ 3000 := by
 have h1 := bulk_small (doL s d) 100 fun f hf => (feat_small (doL_ok hs hd f hf)).1
 have h2 := doL_len hs hd
 have : (doL s d).length * (100 + 1) ≤ 24 * 101 := Nat.mul_le_mul h2 (Nat.le_refl _)
 omega
theorem del_mem {xs : List Feat} (hn : (ids xs).Nodup) {k : Nat} (hk : k < xs.length) : (ids (xs.take k ++ xs.drop (k + 1))).Nodup ∧ (∀ f, f ∈ xs.take k ++ xs.drop (k + 1) ↔ f ∈ xs ∧ f.Id ≠ xs[k].Id) ∧ (xs.take k ++ xs.drop (k + 1)).length < xs.length := by
 have e : xs = xs.take k ++ xs[k] :: xs.drop (k + 1) := by rw [← List.drop_eq_getElem_cons hk, List.take_append_drop]
 have hn' := hn
 rw [e] at hn'
 unfold ids at hn' ⊢
 rw [List.map_append, List.map_cons] at hn'
 obtain ⟨n1, n2, n3⟩ := List.nodup_append.1 hn'
 obtain ⟨n4, n5⟩ := List.nodup_cons.1 n2
 refine ⟨?_, fun f => ?_, by simp only [List.length_append, List.length_take, List.length_drop]; omega⟩
 ·rw [List.map_append]
  exact List.nodup_append.2 ⟨n1, n5, fun a ha b hb => n3 a ha b (List.mem_cons_of_mem _ hb)⟩
 ·constructor
  ·intro hf
   rcases List.mem_append.1 hf with hf | hf
   ·exact ⟨List.mem_of_mem_take hf, fun h => n3 _ (List.mem_map.2 ⟨f, hf, rfl⟩) _ List.mem_cons_self h⟩
   ·exact ⟨List.mem_of_mem_drop hf, fun h => n4 (by rw [← h]; exact List.mem_map.2 ⟨f, hf, rfl⟩)⟩
  ·rintro ⟨hf, hne⟩
   rw [e] at hf
   rcases List.mem_append.1 hf with hf | hf
   ·exact List.mem_append_left _ hf
   ·rcases List.mem_cons.1 hf with rfl | hf
    ·exact absurd rfl hne
    ·exact List.mem_append_right _ hf
theorem three_r {α : Type} [DecidableEq α] (o a : α) : three o a o = (a, true) := by
 unfold three
 by_cases h : a = o
 ·rw [if_pos h, h]
 ·rw [if_neg h, if_pos rfl]
theorem three_l {α : Type} [DecidableEq α] (o b : α) : three o o b = (b, true) := by unfold three; rw [if_pos rfl]
theorem three_s {α : Type} [DecidableEq α] (o a : α) : three o a a = (a, true) := by
 unfold three
 by_cases h : a = o
 ·rw [if_pos h]
 ·rw [if_neg h, if_neg h, if_pos rfl]
theorem valT_hit {t : List Tag} {k : Str} (h : (valT t k).has = true) : ∃ x ∈ t, x.Key = k ∧ valT t k = ⟨true, x.Val⟩ := by
 unfold valT at h ⊢
 split at h
 ·cases h
 ·rename_i g
  rw [if_neg g]
  have h1 := findN_le t.length fun j => (nth t (j : Int)).Key == k
  obtain ⟨i, hi⟩ : ∃ i : Nat, findN t.length (fun j => (nth t (j : Int)).Key == k) = (i : Int) := ⟨_, (Int.toNat_of_nonneg OM).symm⟩
  obtain ⟨h2, h3⟩ := findN_true hi
  rw [hi]
  exact ⟨_, nth_mem t h2, by simpa using h3, rfl⟩
theorem tags_ss {t : List Tag} (h : tagsOk t = true) : SS (keysT t) := by
 have h1 := allN_iff.1 h
 have hadj : ∀ k, 0 < k → k < t.length → Op.bytesLess (nth t ((k : Int) - 1)).Key (nth t (k : Int)).Key = true := fun k h0 hk => by
  have := h1 k hk
  simp only [Bool.and_eq_true, Bool.or_eq_true, decide_eq_true_eq] at this
  rcases this.2 with h | h
  ·omega
  ·exact h
 unfold SS keysT
 rw [List.pairwise_map]
 refine List.pairwise_iff_getElem.2 fun i j hi hj hij => ?_
 have key : ∀ d, i + d + 1 < t.length → Op.bytesLess t[i].Key (nth t ((i + d + 1 : Nat) : Int)).Key = true := by
  intro d
  induction d with
  | zero =>
   intro hd
   have := hadj (i + 0 + 1) OM hd
   rw [show (((i + 0 + 1 : Nat) : Int) - 1) = (i : Int) by omega, nth_nat t hi] at this
   exact this
  | succ d ih =>
   intro hd
   have := hadj (i + (d + 1) + 1) OM hd
   rw [show (((i + (d + 1) + 1 : Nat) : Int) - 1) = ((i + d + 1 : Nat) : Int) by omega] at this
   exact less_trans (ih OM) this
 have := key (j - i - 1) OM
 rw [show i + (j - i - 1) + 1 = j by omega, nth_nat t hj] at this
 exact this
theorem featOk_tags {f : Feat} (h : featOk f = true) : SS (keysT f.Tags) := by
 unfold featOk at h
 simp only [Bool.and_eq_true] at h
 exact tags_ss h.1.1.1
theorem three_sym {α : Type} [DecidableEq α] (o a b : α) : (three o a b).2 = (three o b a).2 ∧ ((three o a b).2 = true → (three o a b).1 = (three o b a).1) := by
 unfold three
 by_cases h1 : a = o <;> by_cases h2 : b = o
 ·subst h1; subst h2; simp
 ·subst h1; simp [h2]
 ·subst h2; simp [h1]
 ·by_cases h3 : a = b
  ·subst h3; simp [h1]
  ·simp [h1, h2, h3, Ne.symm h3]
theorem tagF_flag (o a b : value) : (tagF o a b).2 = (three o a b).2 := by
 unfold tagF
 cases h : (three o a b).2
 ·rw [if_neg RD]
 ·rw [if_pos rfl, h]
theorem tagK_sym (o a b : List Tag) (k : Str) : (tagK o a b k).2 = (tagK o b a k).2 := by
 unfold tagK; rw [tagF_flag, tagF_flag]; exact (three_sym _ _ _).1
theorem tagK_sym1 (o a b : List Tag) (k : Str) (h : (tagK o a b k).2 = true) : (tagK o a b k).1 = (tagK o b a k).1 := by
 have h2 := (tagK_sym o a b k).symm.trans h
 unfold tagK at h h2 ⊢
 rw [tagF_flag] at h h2
 unfold tagF
 rw [if_pos h, if_pos h2]
 exact (three_sym _ _ _).2 h
theorem clashL_sym (o a b : List Tag) (ks : List Str) : clashL o a b ks = clashL o b a ks := by
 unfold clashL; simp only [tagK_sym o a b]
theorem allKeys_sym (o a b : Feat) : allKeys o a b = allKeys o b a := SS.ext (uniq_ss _) (uniq_ss _) fun k => by
 unfold allKeys
 rw [uniq_mem, uniq_mem]
 simp only [keys_app, List.mem_append]
 constructor <;> rintro ((h | h) | h) <;> simp [h]
theorem tagsL_sym (o a b : List Tag) (ks : List Str) (h : clashL o a b ks = []) : tagsL o a b ks = tagsL o b a ks := by
 have hk : ∀ k ∈ ks, (tagK o a b k).1 = (tagK o b a k).1 := fun k hk => by
  refine tagK_sym1 o a b k ?_
  cases g : (tagK o a b k).2 with
  | true => rfl
  | false =>
   have : tagS ++ k ∈ clashL o a b ks := List.mem_map.2 ⟨k, List.mem_filter.2 ⟨hk, by rw [g]; rfl⟩, rfl⟩
   rw [h] at this; cases this
 unfold tagsL
 have e : (ks.filter fun k => (tagK o a b k).1.has) = ks.filter fun k => (tagK o b a k).1.has := List.filter_congr fun k g => by rw [hk k g]
 rw [e]
 exact List.map_congr_left fun k g => by rw [hk k (List.mem_filter.1 g).1]
theorem oneOf_r (o a : thing) : oneOf o a o = (a, []) := by unfold oneOf; rw [three_r, if_pos rfl]
theorem oneOf_l (o b : thing) : oneOf o o b = (b, []) := by unfold oneOf; rw [three_l, if_pos rfl]
theorem joinCs_none {o a b : List Feat} (h : ∀ i, (oneAt o a b i).2 = []) (l : List Str) : joinCs o a b l = [] := by
 unfold joinCs
 rw [List.flatten_eq_nil_iff]
 intro x hx
 obtain ⟨i, _, rfl⟩ := List.mem_map.1 hx
 rw [h i]; rfl
theorem ids3_b {o a b : List Feat} : ∀ i ∈ ids b, i ∈ ids3 o a b := fun _ hi => uniq_mem.2 (List.mem_append_right _ hi)
theorem ids3_a {o a b : List Feat} : ∀ i ∈ ids a, i ∈ ids3 o a b := fun _ hi => uniq_mem.2 (List.mem_append_left _ (List.mem_append_right _ hi))
theorem tagsOk_of {t : List Tag} (hs : SS (keysT t)) (hw : ∀ x ∈ t, wordOk x.Key = true ∧ wordOk x.Val = true) : tagsOk t = true := by
 unfold tagsOk
 refine allN_true fun k hk => ?_
 obtain ⟨h1, h2⟩ := hw _ (nth_mem t hk)
 rw [h1, h2, Bool.true_and, Bool.true_and, Bool.or_eq_true, decide_eq_true_eq]
 rcases Nat.eq_zero_or_pos k with h0 | h0
 ·exact .inl h0
 refine .inr ?_
 unfold SS keysT at hs
 have := List.pairwise_iff_getElem.1 (List.pairwise_map.1 hs) (k - 1) k OM hk OM
 rw [show ((k : Int) - 1) = ((k - 1 : Nat) : Int) by omega, nth_nat t hk, nth_nat t OM]
 exact this
theorem feat_words {f : Feat} (h : featOk f = true) : wordOk f.Id = true ∧ ∀ x ∈ f.Tags, wordOk x.Key = true ∧ wordOk x.Val = true := by
 unfold featOk at h
 simp only [Bool.and_eq_true] at h
 refine ⟨h.1.2, fun x hx => ?_⟩
 have ht := h.1.1.1
 unfold tagsOk at ht
 obtain ⟨k, hk, rfl⟩ := List.getElem_of_mem hx
 have := allN_iff.1 ht k hk
 rw [nth_nat _ hk] at this
 simp only [Bool.and_eq_true] at this
 exact this.1
theorem shapeF_ok {o a b : Shape} (ha : shapeOk a = true) (hb : shapeOk b = true) : shapeOk (shapeF o a b).1 = true := by
 unfold shapeF
 split
 ·rcases three_in o a b with h | h <;> rw [h] <;> assumption
 ·split
  ·split
   ·split
    ·rename_i h; exact h
    ·exact ha
   ·exact ha
  ·exact ha
theorem tagsL_keys (o a b : List Tag) (ks : List Str) : keysT (tagsL o a b ks) = ks.filter fun k => (tagK o a b k).1.has := by
 unfold keysT tagsL
 rw [List.map_map]
 exact (List.map_congr_left fun k _ => rfl).trans (List.map_id _)
theorem joinF_ok {o a b : Feat} (ho : featOk o = true) (ha : featOk a = true) (hb : featOk b = true) :
  featOk (joinF o a b) = decide ((tagsL o.Tags a.Tags b.Tags (allKeys o a b)).length ≤ 4) := by
 have ht : tagsOk (tagsL o.Tags a.Tags b.Tags (allKeys o a b)) = true := by
  refine tagsOk_of ?_ fun x hx => ?_
  ·rw [tagsL_keys]; exact List.Pairwise.filter _ (uniq_ss _)
  ·unfold tagsL at hx
   obtain ⟨k, hk, rfl⟩ := List.mem_map.1 hx
   obtain ⟨hk, hh⟩ := List.mem_filter.1 hk
   constructor
   ·unfold allKeys at hk
    rw [uniq_mem] at hk
    obtain ⟨t, ht, rfl⟩ := List.mem_map.1 hk
    rcases List.mem_append.1 ht with ht | ht
    ·rcases List.mem_append.1 ht with ht | ht
     ·exact ((feat_words ho).2 t ht).1
     ·exact ((feat_words ha).2 t ht).1
    ·exact ((feat_words hb).2 t ht).1
   ·dsimp only
    unfold tagK at hh ⊢
    rcases tagF_in (valT o.Tags k) (valT a.Tags k) (valT b.Tags k) with h | h <;> rw [h] at hh ⊢
    ·obtain ⟨y, hy, _, e⟩ := valT_hit hh
     rw [e]; exact ((feat_words ha).2 y hy).2
    ·obtain ⟨y, hy, _, e⟩ := valT_hit hh
     rw [e]; exact ((feat_words hb).2 y hy).2
 have hs := shapeF_ok (o := o.Shape) (feat_facts ha).2.1 (feat_facts hb).2.1
 unfold featOk
 have e : joinF o a b = ⟨a.Id, (shapeF o.Shape a.Shape b.Shape).1, tagsL o.Tags a.Tags b.Tags (allKeys o a b)⟩ := rfl
 rw [e]
 dsimp only
 rw [ht, hs, (feat_words ha).1, Bool.true_and, Bool.and_true, Bool.and_true]
theorem tagF_else {o a b : value} (h : (three o a b).2 = false) : tagF o a b = (if a.has then a else b, false) := by unfold tagF; rw [if_neg (by rw [h]; decide)]
theorem tagK_has (o a b : List Tag) (k : Str) : (tagK o a b k).1.has = (tagK o b a k).1.has := by
 cases h : (tagK o a b k).2 with
 | true => rw [tagK_sym1 o a b k h]
 | false =>
  have h2 := (tagK_sym o a b k).symm.trans h
  unfold tagK at h h2 ⊢
  rw [tagF_flag] at h h2
  rw [tagF_else h, tagF_else h2]
  dsimp only
  cases ca : (valT a k).has <;> cases cb : (valT b k).has <;> simp [ca, cb]
theorem shapeF_sym (o a b : Shape) : (shapeF o a b).2 = (shapeF o b a).2 ∧ ((shapeF o a b).2 = true → (shapeF o a b).1 = (shapeF o b a).1) := by
 obtain ⟨s1, s2⟩ := three_sym o a b
 unfold shapeF
 cases h : (three o a b).2 with
 | true =>
  have h2 : (three o b a).2 = true := s1 ▸ h
  rw [if_pos rfl, if_pos h2]
  exact ⟨by rw [h, h2], fun _ => s2 h⟩
 | false =>
  have h2 : (three o b a).2 = false := s1 ▸ h
  rw [if_neg Bool.false_ne_true, h2, if_neg Bool.false_ne_true]
  by_cases hk : a.Kind = o.Kind ∧ b.Kind = o.Kind
  ·rw [if_pos hk, if_pos ⟨hk.2, hk.1⟩, smerge_comm o.Pts b.Pts a.Pts, hk.1, hk.2]
   cases smerge o.Pts a.Pts b.Pts with
   | none => exact ⟨rfl, fun h => by cases h⟩
   | some p =>
    dsimp only
    split
    ·exact ⟨rfl, fun _ => rfl⟩
    ·exact ⟨rfl, fun h => by cases h⟩
  ·rw [if_neg hk, if_neg (fun g => hk ⟨g.2, g.1⟩)]
   exact ⟨rfl, fun h => by cases h⟩
theorem joinOf_sym {o a b : Feat} (ho : featOk o = true) (ha : featOk a = true) (hb : featOk b = true) (e : a.Id = b.Id) :
  (joinOf o a b).2.length = (joinOf o b a).2.length ∧ ((joinOf o a b).2 = [] → (joinOf o a b).1 = (joinOf o b a).1) := by
 have ek := allKeys_sym o a b
 have el : (tagsL o.Tags a.Tags b.Tags (allKeys o a b)).length = (tagsL o.Tags b.Tags a.Tags (allKeys o b a)).length := by
  unfold tagsL
  rw [ek, List.length_map, List.length_map, List.filter_congr fun k _ => tagK_has o.Tags a.Tags b.Tags k]
 obtain ⟨s1, s2⟩ := shapeF_sym o.Shape a.Shape b.Shape
 have ec := clashL_sym o.Tags a.Tags b.Tags (allKeys o a b)
 unfold joinOf
 rw [joinF_ok ho ha hb, joinF_ok ho hb ha, ← el]
 split
 ·dsimp only
  unfold joinW
  rw [← ek, ← ec, ← s1]
  refine ⟨rfl, fun h => ?_⟩
  obtain ⟨h1, h2⟩ := List.append_eq_nil_iff.1 h
  have h3 : (shapeF o.Shape a.Shape b.Shape).2 = true := by
   cases g : (shapeF o.Shape a.Shape b.Shape).2 with
   | true => rfl
   | false => rw [g, if_neg RD] at h1; cases h1
  unfold joinF
  rw [← ek, e, s2 h3, tagsL_sym _ _ _ _ h2]
 ·exact ⟨rfl, fun h => by cases h⟩
theorem oneOf_sym {i : Str} {o a b : thing} (ho : ThOk i o) (ha : ThOk i a) (hb : ThOk i b) :
  (oneOf o a b).2.length = (oneOf o b a).2.length ∧ ((oneOf o a b).2 = [] → (oneOf o a b).1 = (oneOf o b a).1) := by
 obtain ⟨s1, s2⟩ := three_sym o a b
 cases h : (three o a b).2 with
 | true => rw [one_same h, one_same (s1 ▸ h)]; exact ⟨rfl, fun _ => s2 h⟩
 | false =>
  rw [one_else h, one_else (s1 ▸ h)]
  cases ca : a.has with
  | false =>
   cases cb : b.has with
   | false =>
    have ea := ha.no ca; have eb := hb.no cb
    rw [ea, eb, three_s] at h; cases h
   | true => exact ⟨rfl, fun h => by cases h⟩
  | true =>
   cases cb : b.has with
   | false => exact ⟨rfl, fun h => by cases h⟩
   | true =>
    cases co : o.has with
    | false => exact ⟨rfl, fun h => by cases h⟩
    | true =>
     obtain ⟨fo, _⟩ := ho.has co; obtain ⟨fa, ia⟩ := ha.has ca; obtain ⟨fb, ib⟩ := hb.has cb
     obtain ⟨j1, j2⟩ := joinOf_sym fo fa fb (ia.trans ib.symm)
     exact ⟨j1, fun h => by
      have := j2 h
      show (⟨true, (joinOf o.f a.f b.f).1⟩ : thing) = ⟨true, (joinOf o.f b.f a.f).1⟩
      rw [this]⟩
theorem oneOf_ok {i : Str} {o a b : thing} (ho : ThOk i o) (ha : ThOk i a) (hb : ThOk i b) : ThOk i (oneOf o a b).1 := by
 cases h : (three o a b).2 with
 | true =>
  rw [one_same h]
  rcases three_in o a b with g | g <;> rw [g] <;> assumption
 | false =>
  rw [one_else h]
  split
  ·exact hb
  split
  ·exact ha
  split
  ·exact ha
  rename_i ca cb co
  rw [Bool.not_eq_false] at ca cb co
  obtain ⟨fo, io⟩ := ho.has co; obtain ⟨fa, ia⟩ := ha.has ca; obtain ⟨fb, ib⟩ := hb.has cb
  refine .inr ⟨rfl, ?_⟩
  dsimp only
  unfold joinOf
  split
  ·rename_i g; exact ⟨g, ia⟩
  ·exact ⟨fa, ia⟩
theorem oneOf_has {o a b : thing} (h : (oneOf o a b).1.has = true) : a.has = true ∨ b.has = true := by
 cases g : (three o a b).2 with
 | true =>
  rw [one_same g] at h
  rcases three_in o a b with e | e <;> rw [e] at h
  ·exact .inl h
  ·exact .inr h
 | false =>
  rw [one_else g] at h
  split at h
  ·exact .inr h
  ·rename_i ca; exact .inl (by rwa [Bool.not_eq_false] at ca)
theorem oneAt_ok {o a b : List Feat} (ho : sheetOk o = true) (ha : sheetOk a = true) (hb : sheetOk b = true) (i : Str) : ThOk i (oneAt o a b i).1 :=
 oneOf_ok (thOf_ok ho i) (thOf_ok ha i) (thOf_ok hb i)
theorem joinFs_ids {o a b : List Feat} (ho : sheetOk o = true) (ha : sheetOk a = true) (hb : sheetOk b = true) (l : List Str) :
  ids (joinFs o a b l) = l.filter fun i => (oneAt o a b i).1.has := by
 unfold ids joinFs
 rw [List.map_map]
 refine (List.map_congr_left fun i hi => ?_).trans (List.map_id _)
 exact ((oneAt_ok ho ha hb i).has (List.mem_filter.1 hi).2).2
theorem thOf_join {o a b : List Feat} (ho : sheetOk o = true) (ha : sheetOk a = true) (hb : sheetOk b = true) (i : Str) :
  thOf (joinFs o a b (ids3 o a b)) i = (oneAt o a b i).1 := by
 have e := joinFs_ids ho ha hb (ids3 o a b)
 have hk := oneAt_ok ho ha hb i
 have fs : FS (joinFs o a b (ids3 o a b)) := FS.of_ids (by rw [e]; exact List.Pairwise.filter _ (uniq_ss _))
 cases h : (oneAt o a b i).1.has with
 | true =>
  have hi : i ∈ ids3 o a b := by
   rcases oneOf_has h with g | g
   ·exact ids3_a _ (sideOf_iff.1 g)
   ·exact ids3_b _ (sideOf_iff.1 g)
  have hm : (oneAt o a b i).1.f ∈ joinFs o a b (ids3 o a b) := List.mem_map.2 ⟨i, List.mem_filter.2 ⟨hi, h⟩, rfl⟩
  have := sideOf_of fs hm
  rw [(hk.has h).2] at this
  unfold thOf
  rw [this, ← h]
 | false =>
  rw [hk.no h]
  refine thOf_no ?_
  cases g : (thOf (joinFs o a b (ids3 o a b)) i).has with
  | false => rfl
  | true =>
   have := sideOf_iff.1 g
   rw [e] at this
   rw [(List.mem_filter.1 this).2] at h; cases h
theorem shape_pos {s : Shape} (h : shapeOk s = true) : 1 ≤ s.Pts.length := by
 unfold shapeOk kindOk at h
 simp only [Bool.and_eq_true] at h
 have := h.2
 split at this
 ·simp only [decide_eq_true_eq] at this; omega
 ·split at this
  ·simp only [Bool.and_eq_true, decide_eq_true_eq] at this; omega
  ·split at this
   ·simp only [Bool.and_eq_true, decide_eq_true_eq] at this; omega
   ·cases this
theorem dot_ok {x y : Int} (h1 : 0 ≤ x) (h2 : x ≤ 5) (h3 : 0 ≤ y) (h4 : y ≤ 5) : shapeOk ⟨1, [⟨x, y⟩]⟩ = true := by
 have e : ptOk (⟨x, y⟩ : Pt) = true := by
  unfold ptOk inR
  simp only [Bool.and_eq_true, decide_eq_true_eq]; omega
 unfold shapeOk ptsOk kindOk
 rw [Bool.and_eq_true]
 refine ⟨allN_true fun k hk => ?_, by rw [if_pos rfl]; rfl⟩
 have hk : k < 1 := hk
 obtain rfl : k = 0 := by omega
 rw [Bool.and_eq_true]
 exact ⟨e, rfl⟩
def NX (q : Pt) : Prop := q.X ≠ 71 ∧ q.X ≠ 72
theorem NX.of {x y : Int} (h : x ≤ 3) : NX ⟨x, y⟩ := ⟨by dsimp only; omega, by dsimp only; omega⟩
def keyL : List Str := [[110, 97, 109, 101], [107, 105, 110, 100], [117, 115, 101], [116, 111, 110, 101]]
def valL : List Str := [[97], [98], [111, 97, 107], [97, 115, 104], [114, 111, 97, 100]]
def idL : List Str := [[97], [98], [99], [100], [101]]
def DT (x : Tag) : Prop := x.Key ∈ keyL ∧ x.Val ∈ valL
theorem keyL_ok : ∀ k ∈ keyL, wordOk k = true := by decide
theorem valL_ok : ∀ k ∈ valL, wordOk k = true := by decide
theorem idL_ok : ∀ k ∈ idL, wordOk k = true := by decide
def plainK (k : Str) : Prop := k ≠ [97, 97, 97] ∧ k ≠ [122, 122, 122]
theorem keyL_plain : ∀ k ∈ keyL, plainK k := by
 intro k hk
 simp only [keyL, List.mem_cons, List.not_mem_nil, or_false] at hk
 unfold plainK
 rcases hk with rfl | rfl | rfl | rfl <;> decide
theorem feat_of {id : Str} {s : Shape} {t : List Tag} (h1 : wordOk id = true) (h2 : shapeOk s = true) (h3 : SS (keysT t)) (h4 : t.length ≤ 4) (h5 : ∀ x ∈ t, wordOk x.Key = true ∧ wordOk x.Val = true) : featOk ⟨id, s, t⟩ = true := by
 unfold featOk
 dsimp only
 rw [tagsOk_of h3 h5, h1, h2, decide_eq_true h4]; rfl
structure FB (n : Nat) (f : Feat) : Prop where
 id : f.Id.length ≤ 7
 pts : f.Shape.Pts.length ≤ 7
 len : f.Tags.length ≤ n
 wd : ∀ x ∈ f.Tags, x.Key.length ≤ 6 ∧ x.Val.length ≤ 6
theorem FB.small {n : Nat} {f : Feat} (h : FB n f) : bulk f ≤ 14 + 13 * n := by
 have e : bulk f = bulk f.Id + (0 + bulk f.Shape.Pts) + bulk f.Tags := rfl
 have e2 : bulk f.Id = f.Id.length := bulk_str _
 have e3 : bulk f.Shape.Pts = f.Shape.Pts.length := bulk_flat (fun _ => rfl) _
 have hs := bulk_small f.Tags 12 fun t ht => by
  have := h.wd t ht
  have e : bulk t = bulk t.Key + bulk t.Val := rfl
  rw [e, bulk_str, bulk_str]; omega
 have : f.Tags.length * (12 + 1) ≤ n * 13 := Nat.mul_le_mul h.len (Nat.le_refl _)
 have := h.id; have := h.pts
 omega
theorem FB.of {f : Feat} (h : featOk f = true) : FB 4 f := by
 have := feat_facts h
 exact ⟨OM, OM, this.1, this.2.2.2.2⟩
theorem FB.mono {n m : Nat} {f : Feat} (h : FB n f) (hm : n ≤ m) : FB m f := ⟨h.id, h.pts, Nat.le_trans h.len hm, h.wd⟩
theorem DT.len {x : Tag} (h : DT x) : x.Key.length ≤ 6 ∧ x.Val.length ≤ 6 := ⟨word_len (keyL_ok _ h.1), word_len (valL_ok _ h.2)⟩
theorem DT.ok {x : Tag} (h : DT x) : wordOk x.Key = true ∧ wordOk x.Val = true := ⟨keyL_ok _ h.1, valL_ok _ h.2⟩
structure MB (n m : Nat) (s : List Feat) : Prop where
 len : s.length ≤ n
 fb : ∀ f ∈ s, FB m f
theorem MB.small {n m : Nat} {s : List Feat} (h : MB n m s) : bulk s ≤ n * (15 + 13 * m) := by
 have hs := bulk_small s (14 + 13 * m) fun f hf => (h.fb f hf).small
 have : s.length * (14 + 13 * m + 1) ≤ n * (15 + 13 * m) := Nat.mul_le_mul h.len OM
 omega
theorem MB.of {s : List Feat} (h : sheetOk s = true) : MB 8 4 s := ⟨(sheet_ss h).2.1, fun f hf => FB.of ((sheet_ss h).2.2 f hf)⟩
theorem MB.mono {n n' m m' : Nat} {s : List Feat} (h : MB n m s) (h1 : n ≤ n') (h2 : m ≤ m') : MB n' m' s := ⟨Nat.le_trans h.len h1, fun f hf => (h.fb f hf).mono h2⟩
theorem sheet_of {s : List Feat} (h1 : SS (ids s)) (h2 : s.length ≤ 8) (h3 : ∀ f ∈ s, featOk f = true) : sheetOk s = true := by
 unfold sheetOk
 rw [Bool.and_eq_true]
 refine ⟨allN_true fun k hk => ?_, decide_eq_true h2⟩
 rw [Bool.and_eq_true, Bool.or_eq_true, decide_eq_true_eq]
 refine ⟨h3 _ (nth_mem s hk), ?_⟩
 rcases Nat.eq_zero_or_pos k with h0 | h0
 ·exact .inl h0
 refine .inr ?_
 unfold SS ids at h1
 have := List.pairwise_iff_getElem.1 (List.pairwise_map.1 h1) (k - 1) k OM hk OM
 rw [show ((k : Int) - 1) = ((k - 1 : Nat) : Int) by omega, nth_nat s hk, nth_nat s OM]
 exact this
def zzI : Str := [122, 122]
theorem idL_nz : ∀ k ∈ idL, k ≠ zzI := by
 intro k hk
 simp only [idL, List.mem_cons, List.not_mem_nil, or_false] at hk
 rcases hk with rfl | rfl | rfl | rfl | rfl <;> decide
structure MD (s : List Feat) : Prop where
 mb : MB 14 4 s
 nz : ∀ f ∈ s, f.Id ≠ zzI
theorem MD.small {s : List Feat} (h : MD s) : bulk s ≤ 1048576 := Nat.le_trans h.mb.small RD
theorem diff_of {d : List Change} (h1 : CS d) (h2 : d.length ≤ 16) (h3 : ∀ c ∈ d, changeOk c = true) : diffOk d = true := by
 unfold diffOk
 rw [Bool.and_eq_true]
 refine ⟨allN_true fun k hk => ?_, decide_eq_true h2⟩
 rw [Bool.and_eq_true, Bool.or_eq_true, decide_eq_true_eq]
 refine ⟨h3 _ (nth_mem d hk), ?_⟩
 rcases Nat.eq_zero_or_pos k with h0 | h0
 ·exact .inl h0
 refine .inr ?_
 have := List.pairwise_iff_getElem.1 h1 (k - 1) k OM hk OM
 rw [show ((k : Int) - 1) = ((k - 1 : Nat) : Int) by omega, nth_nat d hk, nth_nat d OM]
 exact this
theorem sideOf_eq {l m : List Feat} (hl : FS l) (hm : FS m) {i : Str} (h : ∀ f, f.Id = i → (f ∈ l ↔ f ∈ m)) : sideOf l i = sideOf m i := by
 cases g : (sideOf l i).2 with
 | true =>
  obtain ⟨h1, h2⟩ := sideOf_hit g
  have h3 := sideOf_of hm ((h _ h2).1 h1)
  rw [h2] at h3
  rw [h3]; exact Prod.ext rfl g
 | false =>
  obtain ⟨h1, h2⟩ := sideOf_no g
  have h3 : (sideOf m i).2 = false := by
   cases k : (sideOf m i).2 with
   | false => rfl
   | true =>
    obtain ⟨k1, k2⟩ := sideOf_hit k
    exact absurd (List.mem_map.2 ⟨_, (h _ k2).2 k1, k2⟩) h2
  exact Prod.ext (h1.trans (sideOf_no h3).1.symm) (g.trans h3.symm)
theorem idsC_mem {d : List Change} {i : Str} : i ∈ idsC d ↔ ∃ c ∈ d, c.Id = i := List.mem_map
def PutS (s : List Feat) (f : Feat) (u : Nat) (xs : List Feat) (done : Bool) : Prop :=
 u ≤ s.length ∧ SS (ids xs) ∧ (∀ x, x ∈ ids xs ↔ x ∈ ids (s.take u) ∨ (done = true ∧ x = f.Id)) ∧ (done = false → (∀ x ∈ ids (s.take u), Op.bytesLess x f.Id = true) ∧ xs = s.take u) ∧
  (done = true → ∀ y ∈ ids (s.drop u), Op.bytesLess f.Id y = true) ∧ xs.length ≤ u + 1 ∧ (∀ z ∈ xs, z ∈ s ∨ z = f)
theorem ss_snoc {l : List Str} {x : Str} (h : SS l) (hx : ∀ y ∈ l, Op.bytesLess y x = true) : SS (l ++ [x]) := by
 unfold SS
 rw [List.pairwise_append]
 exact ⟨h, List.pairwise_singleton _ _, fun a ha b hb => by rw [List.mem_singleton.1 hb]; exact hx a ha⟩
theorem ids_take {s : List Feat} {u : Nat} (hu : u < s.length) : ids (s.take (u + 1)) = ids (s.take u) ++ [(nth s (u : Int)).Id] := by rw [take_nth s hu, ids_app]; rfl
theorem ids_cut (s : List Feat) (u : Nat) : ids s = ids (s.take u) ++ ids (s.drop u) := by rw [← ids_app, List.take_append_drop]
theorem dropNth {s : List Feat} {u : Nat} (hu : u < s.length) : s.drop u = nth s (u : Int) :: s.drop (u + 1) := by rw [nth_nat s hu]; exact List.drop_eq_getElem_cons hu
theorem ss_lt {s : List Feat} (h : SS (ids s)) {u : Nat} (hu : u < s.length) : (∀ x ∈ ids (s.take u), Op.bytesLess x (nth s (u : Int)).Id = true) ∧ ∀ y ∈ ids (s.drop (u + 1)), Op.bytesLess (nth s (u : Int)).Id y = true := by
 have e := ids_cut s u
 rw [dropNth hu] at e
 have e2 : ids (nth s (u : Int) :: s.drop (u + 1)) = (nth s (u : Int)).Id :: ids (s.drop (u + 1)) := rfl
 rw [e2] at e
 rw [e] at h
 obtain ⟨h1, h2, h3⟩ := List.pairwise_append.1 h
 exact ⟨fun x hx => h3 x hx _ List.mem_cons_self, (List.pairwise_cons.1 h2).1⟩
theorem F119.law (s : List Feat) (f : Feat) (Q : List Feat → Prop) (hl : s.length ≤ 1048576) (hs : SS (ids s)) (hq : ∀ r, SS (ids r) → (∀ x, x ∈ ids r ↔ x ∈ ids s ∨ x = f.Id) → r.length ≤ s.length + 1 → (∀ z ∈ r, z ∈ s ∨ z = f) → Q r) : F119.E s f Q := by
 unfold F119.E
 refine ⟨fun xs done i => ∃ u : Nat, i = u ∧ PutS s f u xs done, fun _ _ i => (s.length - i).toNat, ⟨0, rfl, Nat.zero_le _, by simp [ids, SS], by simp [ids], fun _ => ⟨by simp [ids], by simp⟩, (fun h => by cases h), by simp, by simp⟩, ?_⟩
 rintro xs done _ ⟨u, rfl, hu, h1, h2, h3, h4, h5, h6⟩
 by_cases h : u < s.length
 ·rw [if_pos (by simpa using h)]
  obtain ⟨b1, b2⟩ := ss_lt hs h
  have hin : nth s (u : Int) ∈ s := nth_mem s h
  have hdr : ∀ y ∈ ids (s.drop u), y = (nth s (u : Int)).Id ∨ y ∈ ids (s.drop (u + 1)) := fun y hy => by rw [dropNth h] at hy; exact List.mem_cons.1 hy
  have hcur : (nth s (u : Int)).Id ∈ ids (s.drop u) := by rw [dropNth h]; exact List.mem_cons_self
  have hdr' : ∀ y ∈ ids (s.drop (u + 1)), y ∈ ids (s.drop u) := fun y hy => by rw [dropNth h]; exact List.mem_cons_of_mem _ hy
  have stay : ∀ d, d = done → Op.bytesLess (nth s (u : Int)).Id f.Id = true ∨ d = true → xs.length + 1 ≤ u + 1 + 1 → PutS s f (u + 1) (xs ++ [nth s (u : Int)]) d := fun d hd hor hlen => by
   subst hd
   refine ⟨h, ?_, fun x => ?_, fun hdn => ⟨fun x hx => ?_, ?_⟩, fun hdn y hy => h4 hdn y (hdr' y hy), by simp only [List.length_append, List.length_singleton]; omega, fun z hz => ?_⟩
   ·rw [ids_app]
    refine ss_snoc h1 fun y hy => ?_
    rcases (h2 y).1 hy with hy | ⟨hd, rfl⟩
    ·exact b1 y hy
    ·exact h4 hd _ hcur
   ·rw [ids_app, List.mem_append, h2, ids_take h, List.mem_append]
    constructor
    ·rintro ((hx | hx) | hx)
     ·exact .inl (.inl hx)
     ·exact .inr hx
     ·exact .inl (.inr hx)
    ·rintro ((hx | hx) | hx)
     ·exact .inl (.inl hx)
     ·exact .inr hx
     ·exact .inl (.inr hx)
   ·rw [ids_take h] at hx
    rcases List.mem_append.1 hx with hx | hx
    ·exact (h3 hdn).1 x hx
    ·rw [List.mem_singleton.1 hx]
     rcases hor with hor | hor
     ·exact hor
     ·rw [hdn] at hor; cases hor
   ·rw [(h3 hdn).2, ← take_nth s h]
   ·rcases List.mem_append.1 hz with hz | hz
    ·exact h6 z hz
    ·rw [List.mem_singleton.1 hz]; exact .inl hin
  cases done with
  | true =>
   rw [if_neg RD]
   have hlt := h4 rfl _ hcur
   have hne : (nth s (u : Int)).Id ≠ f.Id := fun e => by rw [e, less_irr] at hlt; cases hlt
   refine ⟨OM, ?_⟩
   rw [if_pos (by rw [bne_iff_ne]; exact hne)]
   exact ⟨OM, by simp only [List.length_cons, List.length_nil]; omega, OM, ⟨u + 1, OM, stay true rfl (.inr rfl) OM⟩, by dsimp only; omega⟩
  | false =>
   rw [if_pos RD]
   obtain ⟨c1, c2⟩ := h3 rfl
   have hxl : xs.length = u := by rw [c2, List.length_take]; omega
   refine ⟨OM, ?_⟩
   cases k : Op.bytesLess (nth s (u : Int)).Id f.Id with
   | true =>
    rw [if_neg RD]
    have hne : (nth s (u : Int)).Id ≠ f.Id := fun e => by rw [e, less_irr] at k; cases k
    refine ⟨OM, ?_⟩
    rw [if_pos (by rw [bne_iff_ne]; exact hne)]
    exact ⟨OM, by simp only [List.length_cons, List.length_nil]; omega, OM, ⟨u + 1, OM, stay false rfl (.inl k) OM⟩, by dsimp only; omega⟩
   | false =>
    rw [if_pos RD]
    have g1 : SS (ids (xs ++ [f])) := by
     rw [ids_app]
     refine ss_snoc h1 fun y hy => ?_
     rcases (h2 y).1 hy with hy | ⟨hd, _⟩
     ·exact c1 y hy
     ·cases hd
    refine ⟨by simp only [List.length_cons, List.length_nil]; omega, OM, ?_⟩
    by_cases hne : (nth s (u : Int)).Id = f.Id
    ·rw [if_neg (by rw [hne]; simp)]
     refine ⟨OM, ⟨u + 1, OM, h, g1, fun x => ?_, (fun hd => by cases hd), fun _ y hy => by rw [← hne]; exact b2 y hy, by simp only [List.length_append, List.length_singleton]; omega, fun z hz => ?_⟩, by dsimp only; omega⟩
     ·rw [ids_app, List.mem_append, h2, ids_take h, List.mem_append, hne]
      show _ ∨ x ∈ [f.Id] ↔ _
      rw [List.mem_singleton]
      constructor
      ·rintro ((hx | ⟨hd, _⟩) | hx)
       ·exact .inl (.inl hx)
       ·cases hd
       ·exact .inr ⟨rfl, hx⟩
      ·rintro ((hx | hx) | ⟨_, hx⟩)
       ·exact .inl (.inl hx)
       ·exact .inr hx
       ·exact .inr hx
     ·rcases List.mem_append.1 hz with hz | hz
      ·exact h6 z hz
      ·exact .inr (List.mem_singleton.1 hz)
    ·rw [if_pos (by rw [bne_iff_ne]; exact hne)]
     have hlt : Op.bytesLess f.Id (nth s (u : Int)).Id = true := by
      rcases less_or k with g | g
      ·exact g
      ·exact absurd g.symm hne
     refine ⟨OM, by simp only [List.length_append, List.length_cons, List.length_nil]; omega, OM, ⟨u + 1, OM, h, ?_, fun x => ?_, (fun hd => by cases hd), fun _ y hy => less_trans hlt (b2 y hy), by simp only [List.length_append, List.length_singleton]; omega, fun z hz => ?_⟩, by dsimp only; omega⟩
     ·rw [ids_app]
      refine ss_snoc g1 fun y hy => ?_
      rw [ids_app] at hy
      rcases List.mem_append.1 hy with hy | hy
      ·rcases (h2 y).1 hy with hy | ⟨hd, _⟩
       ·exact b1 y hy
       ·cases hd
      ·have hy : y = f.Id := List.mem_singleton.1 hy
       rw [hy]; exact hlt
     ·rw [ids_app, ids_app, List.mem_append, List.mem_append, h2, ids_take h, List.mem_append]
      show (_ ∨ x ∈ [f.Id]) ∨ x ∈ [(nth s (u : Int)).Id] ↔ _
      rw [List.mem_singleton, List.mem_singleton]
      constructor
      ·rintro (((hx | ⟨hd, _⟩) | hx) | hx)
       ·exact .inl (.inl hx)
       ·cases hd
       ·exact .inr ⟨rfl, hx⟩
       ·exact .inl (.inr hx)
      ·rintro ((hx | hx) | ⟨_, hx⟩)
       ·exact .inl (.inl (.inl hx))
       ·exact .inr hx
       ·exact .inl (.inr hx)
     ·rcases List.mem_append.1 hz with hz | hz
      ·rcases List.mem_append.1 hz with hz | hz
       ·exact h6 z hz
       ·exact .inr (List.mem_singleton.1 hz)
      ·rw [List.mem_singleton.1 hz]; exact .inl hin
 ·rw [if_neg (by simpa using h)]
  have : u = s.length := by omega
  subst this
  rw [List.take_length] at h2 h3
  cases done with
  | true =>
   rw [if_neg RD]
   exact hq xs h1 (fun x => by rw [h2]; simp) h5 h6
  | false =>
   rw [if_pos RD]
   obtain ⟨c1, c2⟩ := h3 rfl
   refine ⟨by simp only [List.length_cons, List.length_nil]; omega, hq _ ?_ (fun x => ?_) (by rw [c2]; simp) fun z hz => ?_⟩
   ·rw [ids_app]
    refine ss_snoc h1 fun y hy => ?_
    rcases (h2 y).1 hy with hy | ⟨hd, _⟩
    ·exact c1 y hy
    ·cases hd
   ·rw [ids_app, List.mem_append, h2]
    show _ ∨ x ∈ [f.Id] ↔ _
    rw [List.mem_singleton]; simp
   ·rcases List.mem_append.1 hz with hz | hz
    ·exact h6 z hz
    ·exact .inr (List.mem_singleton.1 hz)
theorem side_ext {l m : List Feat} (hl : FS l) (hm : FS m) (h : ∀ i, sideOf l i = sideOf m i) : l = m := by
 have key : ∀ {a b : List Feat}, FS a → FS b → (∀ i, sideOf a i = sideOf b i) → ∀ f ∈ a, f ∈ b := fun ha hb h f hf => by
  have h1 := sideOf_of ha hf
  rw [h f.Id] at h1
  have h2 := (sideOf_hit (show (sideOf _ f.Id).2 = true by rw [h1])).1
  rw [h1] at h2; exact h2
 exact FS.ext hl hm fun f => ⟨key hl hm h f, key hm hl (fun i => (h i).symm) f⟩
theorem sideOf_doL {s : List Feat} {d : List Change} (hs : FS s) (hd : CS d) (hc : ∀ c ∈ d, changeOk c = true) : (∀ c ∈ d, sideOf (doL s d) c.Id = (c.Now, c.Has)) ∧ ∀ i, i ∉ idsC d → sideOf (doL s d) i = sideOf s i := by
 have fs := doL_fs s hc
 constructor
 ·intro c hm
  cases h : c.Has with
  | true =>
   have e := sideOf_of fs ((doL_mem hs hd hc _).2 (.inr ⟨c, hm, h, rfl⟩))
   rw [(now_id hc hm h).1] at e; exact e
  | false =>
   have hn : c.Now = zeroF := by
    have := hc c hm
    unfold changeOk at this
    simp only [Bool.and_eq_true] at this
    have h3 := this.1.2
    unfold sideOk at h3
    rw [h, if_neg RD] at h3
    exact of_decide_eq_true h3
   have h2 : (sideOf (doL s d) c.Id).2 = false := by
    cases k : (sideOf (doL s d) c.Id).2 with
    | false => rfl
    | true =>
     obtain ⟨k1, k2⟩ := sideOf_hit k
     rcases (doL_mem hs hd hc _).1 k1 with ⟨_, g⟩ | ⟨x, g1, g2, g3⟩
     ·exact absurd (idsC_mem.2 ⟨c, hm, k2.symm⟩) g
     ·rw [← g3, (now_id hc g1 g2).1] at k2
      rw [hd.inj g1 hm k2, h] at g2; cases g2
   rw [hn]
   exact Prod.ext (sideOf_no h2).1 h2
 ·intro i hi
  refine sideOf_eq fs hs fun f e => ?_
  rw [doL_mem hs hd hc]
  unfold Mem
  constructor
  ·rintro (⟨g, _⟩ | ⟨x, g1, g2, rfl⟩)
   ·exact g
   ·rw [(now_id hc g1 g2).1] at e
    exact absurd (idsC_mem.2 ⟨x, g1, e⟩) hi
  ·intro g; exact .inl ⟨g, by rw [e]; exact hi⟩
theorem diffOf_is {a b : List Feat} (ha : sheetOk a = true) (hb : sheetOk b = true) : diffOf a b = diffL a b (uniq (ids a ++ ids b)) := by unfold diffOf; rw [ha, hb]; rfl
theorem diffL_in {a b : List Feat} {l : List Str} {c : Change} (h : c ∈ diffL a b l) : c = diffC a b c.Id ∧ c.Id ∈ l ∧ sameC c = false := by
 unfold diffL at h
 obtain ⟨h1, h2⟩ := List.mem_filter.1 h
 obtain ⟨x, hx, rfl⟩ := List.mem_map.1 h1
 exact ⟨rfl, hx, by simpa using h2⟩
theorem diffOf_mem {a b : List Feat} (ha : sheetOk a = true) (hb : sheetOk b = true) (i : Str) : (i ∈ idsC (diffOf a b) → diffC a b i ∈ diffOf a b) ∧ (i ∉ idsC (diffOf a b) → sideOf a i = sideOf b i) := by
 rw [diffOf_is ha hb]
 constructor
 ·intro h
  obtain ⟨c, hc, rfl⟩ := idsC_mem.1 h
  rw [← (diffL_in hc).1]; exact hc
 ·intro h
  by_cases hl : i ∈ ids a ++ ids b
  ·have hs : sameC (diffC a b i) = true := by
    cases k : sameC (diffC a b i) with
    | true => rfl
    | false =>
     refine absurd (idsC_mem.2 ⟨diffC a b i, ?_, rfl⟩) h
     unfold diffL
     exact List.mem_filter.2 ⟨List.mem_map.2 ⟨i, uniq_mem.2 hl, rfl⟩, by rw [k]; rfl⟩
   unfold sameC diffC at hs
   simp only [Bool.and_eq_true, decide_eq_true_eq] at hs
   exact Prod.ext hs.2 hs.1
  ·have h1 : ∀ {s : List Feat}, i ∉ ids s → sideOf s i = (zeroF, false) := fun {s} hn => by
    have : (sideOf s i).2 = false := by
     cases k : (sideOf s i).2 with
     | false => rfl
     | true => exact absurd (sideOf_iff.1 k) hn
    exact Prod.ext (sideOf_no this).1 this
   rw [h1 fun g => hl (List.mem_append_left _ g), h1 fun g => hl (List.mem_append_right _ g)]
theorem diffOf_ok {a b : List Feat} (ha : sheetOk a = true) (hb : sheetOk b = true) : diffOk (diffOf a b) = true := by
 rw [diffOf_is ha hb]
 have la := (sheet_ss ha).2.1
 have lb := (sheet_ss hb).2.1
 have l1 := diffL_len a b (uniq (ids a ++ ids b))
 have l2 := uniq_len (ids a ++ ids b)
 have l3 : (ids a ++ ids b).length = a.length + b.length := by unfold ids; simp
 refine diff_of ?_ OM fun c hc => ?_
 ·unfold CS diffL
  refine List.Pairwise.filter _ (List.pairwise_map.2 ?_)
  exact (uniq_ss (ids a ++ ids b)).imp fun {x y} h => h
 ·obtain ⟨e, hi, hs⟩ := diffL_in hc
  have side : ∀ {s : List Feat}, sheetOk s = true → sideOk c.Id (sideOf s c.Id).2 (sideOf s c.Id).1 = true := fun {s} h => by
   unfold sideOk
   cases k : (sideOf s c.Id).2 with
   | true =>
    obtain ⟨k1, k2⟩ := sideOf_hit k
    rw [if_pos rfl, (sheet_ss h).2.2 _ k1, decide_eq_true k2]; rfl
   | false =>
    rw [if_neg RD, (sideOf_no k).1]
    exact decide_eq_true rfl
  have hw : wordOk c.Id = true := by
   rcases List.mem_append.1 (uniq_mem.1 hi) with g | g
   all_goals
    obtain ⟨f, hf, e2⟩ := List.mem_map.1 g
    rw [← e2]
   ·exact (feat_words ((sheet_ss ha).2.2 f hf)).1
   ·exact (feat_words ((sheet_ss hb).2.2 f hf)).1
  unfold changeOk
  have e1 : sideOk c.Id c.Had c.Was = true := by
   have h1 : c.Had = (sideOf a c.Id).2 := congrArg Change.Had e
   have h2 : c.Was = (sideOf a c.Id).1 := congrArg Change.Was e
   rw [h1, h2]; exact side ha
  have e2 : sideOk c.Id c.Has c.Now = true := by
   have h1 : c.Has = (sideOf b c.Id).2 := congrArg Change.Has e
   have h2 : c.Now = (sideOf b c.Id).1 := congrArg Change.Now e
   rw [h1, h2]; exact side hb
  rw [hs, hw, e1, e2]; rfl
theorem joinFs_fs {o a b : List Feat} (ho : sheetOk o = true) (ha : sheetOk a = true) (hb : sheetOk b = true) : FS (joinFs o a b (ids3 o a b)) := FS.of_ids (by rw [joinFs_ids ho ha hb]; exact List.Pairwise.filter _ (uniq_ss _))
theorem sideOf_join {o a b : List Feat} (ho : sheetOk o = true) (ha : sheetOk a = true) (hb : sheetOk b = true) (i : Str) : sideOf (joinFs o a b (ids3 o a b)) i = ((oneAt o a b i).1.f, (oneAt o a b i).1.has) := by
 rw [← thOf_join ho ha hb i]; rfl
theorem thOf_side {s t : List Feat} {i : Str} (h : sideOf s i = sideOf t i) : thOf s i = thOf t i := by unfold thOf; rw [h]
theorem diff_join {o a b : List Feat} (ho : sheetOk o = true) (ha : sheetOk a = true) (hb : sheetOk b = true) (hd : ∀ c ∈ diffOf o a, ∀ e ∈ diffOf o b, c.Id ≠ e.Id) :
  doL b (diffOf o a) = joinFs o a b (ids3 o a b) ∧ (∀ c ∈ diffOf o a, fits b c = true) ∧ ∀ i, (oneAt o a b i).2 = [] := by
 have kp := diffOf_ok ho ha
 obtain ⟨d1, d2⟩ := sideOf_doL (sheet_fs hb) (diff_cs kp).1 (diff_cs kp).2.2
 have nq : ∀ i, i ∈ idsC (diffOf o a) → sideOf o i = sideOf b i := fun i hi => (diffOf_mem ho hb i).2 fun hq => by
  obtain ⟨c, hc, e1⟩ := idsC_mem.1 hi
  obtain ⟨e, he, e2⟩ := idsC_mem.1 hq
  exact hd c hc e he (e1.trans e2.symm)
 have one : ∀ i, oneAt o a b i = (if i ∈ idsC (diffOf o a) then thOf a i else thOf b i, []) := fun i => by
  unfold oneAt
  by_cases h : i ∈ idsC (diffOf o a)
  ·rw [if_pos h, thOf_side (nq i h), oneOf_r]
  ·rw [if_neg h, thOf_side ((diffOf_mem ho ha i).2 h), oneOf_l]
 refine ⟨side_ext (doL_fs b (diff_cs kp).2.2) (joinFs_fs ho ha hb) fun i => ?_, fun c hc => ?_, fun i => by rw [one]⟩
 ·rw [sideOf_join ho ha hb, one]
  by_cases h : i ∈ idsC (diffOf o a)
  ·rw [if_pos h]
   exact d1 (diffC o a i) ((diffOf_mem ho ha i).1 h)
  ·rw [if_neg h, d2 i h]; rfl
 ·have hi : c.Id ∈ idsC (diffOf o a) := idsC_mem.2 ⟨c, hc, rfl⟩
  have e : c = diffC o a c.Id := by rw [diffOf_is ho ha] at hc; exact (diffL_in hc).1
  unfold fits
  rw [← nq _ hi, Bool.and_eq_true, decide_eq_true_eq, decide_eq_true_eq]
  exact ⟨(congrArg Change.Had e).symm, (congrArg Change.Was e).symm⟩
theorem oneAt_turn {o a b : List Feat} {i : Str} (ho : sheetOk o = true) (ha : sheetOk a = true) (hb : sheetOk b = true) (h : (oneAt o a b i).2 = []) : (oneAt o b a i).1 = (oneAt o a b i).1 :=
 ((oneOf_sym (thOf_ok ho i) (thOf_ok ha i) (thOf_ok hb i)).2 h).symm
theorem F62.law (code : List UInt8) (Q : List UInt8 → Int → Prop) (hq : ∀ b, b.length ≤ 2000 → Q b 0) : F62.E code Q := by
 unfold F62.E
 by_cases h : (code.length : Int) > 2000
 ·rw [if_pos (by simpa using h)]
  exact ⟨OM, hq _ (by rw [List.length_take]; omega)⟩
 ·rw [if_neg (by simpa using h)]
  exact hq _ OM
theorem ediv_le {p l : Int} (hp : 0 ≤ p) (hl : 0 < l) : 0 ≤ p / l ∧ p / l ≤ p := ⟨Int.ediv_nonneg hp OM, Int.ediv_le_self _ hp⟩
theorem F25.law (b : List UInt8) (p n : Int) (Q : Int → Int → Prop) (hb : b.length ≤ 2000) (hp : 0 ≤ p) (hp1 : p ≤ 1099511627776) (hq : ∀ v, 0 ≤ v → (v < n ∨ v = 0) → Q v (p + 1)) : F25.E b p n Q := by
 unfold F25.E
 refine ⟨by unfold I64; omega, ?_⟩
 by_cases hn : n < 1
 ·rw [if_pos (by simpa using hn)]; exact hq 0 OM (.inr rfl)
 rw [if_neg (by simpa using hn)]
 by_cases hl : (b.length : Int) = 0
 ·rw [if_pos (by simpa using hl)]; exact hq 0 OM (.inr rfl)
 rw [if_neg (by simpa using hl)]
 refine ⟨fun _ => by unfold I64; omega, ?_⟩
 rw [show p + 1 - 1 = p by omega]
 have fin : ∀ z : Int, 0 ≤ z → Q (z % n) (p + 1) := fun z hz => hq _ (Int.emod_nonneg _ OM) (.inl (Int.emod_lt_of_pos _ OM))
 by_cases hc : p < (b.length : Int)
 ·rw [if_pos (by simpa using hc)]
  exact ⟨OM, ⟨OM, OM⟩, fin _ OM⟩
 rw [if_neg (by simpa using hc)]
 have hlen : (0 : Int) < (b.length : Int) := by omega
 generalize hL : (b.length : Int) = L at *
 have m1 := Int.emod_nonneg p (show L ≠ 0 by omega)
 have m2 := Int.emod_lt_of_pos p hlen
 have m3 := Int.emod_nonneg (p * 7 + 3) (show L ≠ 0 by omega)
 have m4 := Int.emod_lt_of_pos (p * 7 + 3) hlen
 obtain ⟨d1, d2⟩ := ediv_le hp hlen
 generalize p % L = r1 at *
 generalize (p * 7 + 3) % L = r2 at *
 generalize p / L = q at *
 have u1 := (nth b r1).toNat_lt
 have u2 := (nth b r2).toNat_lt
 generalize (nth b r1).toNat = x1 at *
 generalize (nth b r2).toNat = x2 at *
 have s0 : 0 ≤ (x1 : Int) * 131 + (x2 : Int) * 1117 + p * 29 + q * 53 := by omega
 have s1 : (x1 : Int) * 131 + (x2 : Int) * 1117 + p * 29 + q * 53 ≤ 9223372036854775807 := by omega
 refine ⟨OM, OM, fun _ => by unfold I64; omega, fun _ => by unfold I64; omega, fun _ => by unfold I64; omega, OM, OM, fun _ => by unfold I64; omega, fun _ => by unfold I64; omega, fun _ => by unfold I64; omega, fun _ => by unfold I64; omega, OM, fun _ => by unfold I64; omega, fun _ => by unfold I64; omega, OM, ?_⟩
 generalize (x1 : Int) * 131 + (x2 : Int) * 1117 + p * 29 + q * 53 = s at *
 have hx : 0 ≤ xor64 s (s / 64) := xor64_nonneg ⟨s0, s1⟩ OM
 exact ⟨OM, fin _ hx⟩
theorem F35.law (b : List UInt8) (p : Int) (l : List Int) (Q : Int → Int → Prop) (hb : b.length ≤ 2000) (hp : 0 ≤ p) (hp1 : p ≤ 1099511627776) (hl : 0 < l.length) (hq : ∀ s ∈ l, Q s (p + 1)) : F35.E b p l Q := by
 unfold F35.E
 exact F25.law _ _ _ _ hb hp hp1 fun v h0 h1 => ⟨OM, hq _ (nth_memi l h0 OM)⟩
theorem F125.law (b : List UInt8) (p : Int) (Q : Pt → Int → Prop) (hb : b.length ≤ 2000) (hp : 0 ≤ p) (hp1 : p ≤ 1000000000) (hq : ∀ x y, 0 ≤ x → x ≤ 3 → 0 ≤ y → y ≤ 5 → Q ⟨x, y⟩ (p + 2)) : F125.E b p Q := by
 unfold F125.E
 refine F25.law _ _ _ _ hb hp OM fun v h0 h1 => F35.law _ _ _ _ hb OM OM RD fun y hy => ?_
 rw [show p + 1 + 1 = p + 2 by omega]
 simp only [List.mem_cons, List.not_mem_nil, or_false] at hy
 exact hq _ _ h0 OM OM OM
theorem F109.m_is (a b : Int) : F109.m a b = min a b := by
 unfold F109.m
 by_cases h : a < b
 ·simp [h]; omega
 ·simp [h]; omega
theorem F110.m_is (n : Int) : F110.m n = inR n := by
 unfold F110.m inR
 by_cases h : -1000 ≤ n
 ·rw [if_pos (by rw [decide_eq_true_eq]; omega), decide_eq_true h, Bool.true_and]
 ·rw [if_neg (by rw [decide_eq_true_eq]; omega), decide_eq_false h, Bool.false_and]
theorem F111.law (p : List Pt) (Q : Bool → Prop) (hq : Q (ptsOk p && decide (p.length ≤ 6))) : F111.E p Q := by
 unfold F111.E
 unfold ptsOk at hq
 refine loop_all p.length (fun k => ptOk (nth p (k : Int)) && (decide (k = 0) || !(decide (nth p ((k : Int) - 1) = nth p (k : Int))))) (fun I mu k hk hp hn => ?_) (fun ha => ?_)
 ·refine ⟨OM, ?_⟩
  rw [F110.m_is, F110.m_is]
  have bad : (ptOk (nth p (k : Int)) && (decide (k = 0) || !(decide (nth p ((k : Int) - 1) = nth p (k : Int))))) = false → Q false := fun h => by
   rw [allN_false hk h, Bool.false_and] at hq; exact hq
  cases h1 : inR (nth p (k : Int)).X with
  | false => rw [if_pos RD]; exact bad (by simp only [ptOk, h1, Bool.false_and])
  | true =>
   rw [if_neg RD]
   refine ⟨OM, ?_⟩
   cases h2 : inR (nth p (k : Int)).Y with
   | false => rw [if_pos RD]; exact bad (by simp only [ptOk, h2, Bool.and_false, Bool.false_and])
   | true =>
    rw [if_neg RD]
    have hpt : ptOk (nth p (k : Int)) = true := by simp only [ptOk, h1, h2, Bool.and_self]
    by_cases hk0 : k = 0
    ·rw [if_neg (by rw [decide_eq_true_eq]; omega)]
     obtain ⟨i1, i2⟩ := hn (by rw [hpt, decide_eq_true hk0]; rfl)
     exact ⟨OM, i1, i2⟩
    ·rw [if_pos (by rw [decide_eq_true_eq]; omega)]
     refine ⟨OM, fun _ => by unfold I64; omega, OM, ?_⟩
     rw [eqPt_is]
     by_cases he : nth p ((k : Int) - 1) = nth p (k : Int)
     ·rw [if_pos (by rw [decide_eq_true_eq]; exact he.symm)]
      exact bad (by rw [hpt, decide_eq_false hk0, decide_eq_true he]; rfl)
     ·rw [if_neg (by rw [decide_eq_true_eq]; exact fun e => he e.symm)]
      obtain ⟨i1, i2⟩ := hn (by rw [hpt, decide_eq_false hk0, decide_eq_false he]; rfl)
      exact ⟨OM, i1, i2⟩
 ·rw [allN_true ha, Bool.true_and] at hq
  have e2 : decide ((p.length : Int) ≤ 6) = decide (p.length ≤ 6) := decide_eq_decide.2 OM
  rw [e2]; exact hq
theorem F63.law (s : Shape) (Q : Bool → Prop) (hq : Q (shapeOk s)) : F63.E s Q := by
 unfold F63.E
 unfold shapeOk at hq
 refine F111.law _ _ ?_
 cases h1 : ptsOk s.Pts with
 | false => rw [h1, Bool.false_and] at hq; rw [Bool.false_and, if_pos RD]; exact hq
 | true =>
  rw [h1, Bool.true_and] at hq
  rw [Bool.true_and]
  unfold kindOk at hq
  by_cases h6 : s.Pts.length ≤ 6
  ·rw [decide_eq_true h6, if_neg RD]
   by_cases k1 : s.Kind = 1
   ·rw [if_pos k1] at hq
    rw [if_pos (by rw [beq_iff_eq]; exact k1)]
    have : ((s.Pts.length : Int) == 1) = decide (s.Pts.length = 1) := by rw [Bool.eq_iff_iff, beq_iff_eq, decide_eq_true_eq]; omega
    rw [this]; exact hq
   rw [if_neg k1] at hq
   rw [if_neg (by rw [beq_iff_eq]; exact k1)]
   by_cases k2 : s.Kind = 2
   ·rw [if_pos k2, decide_eq_true h6, Bool.and_true] at hq
    rw [if_pos (by rw [beq_iff_eq]; exact k2)]
    have : decide ((s.Pts.length : Int) ≥ 2) = decide (2 ≤ s.Pts.length) := decide_eq_decide.2 OM
    rw [this]; exact hq
   rw [if_neg k2] at hq
   rw [if_neg (by rw [beq_iff_eq]; exact k2)]
   by_cases k3 : s.Kind = 3
   ·rw [if_pos k3, decide_eq_true h6, Bool.and_true] at hq
    rw [if_pos (by rw [beq_iff_eq]; exact k3)]
    by_cases h3 : 3 ≤ s.Pts.length
    ·rw [decide_eq_true h3, Bool.true_and] at hq
     rw [if_pos (by rw [decide_eq_true_eq]; omega), eqPt_is]
     exact ⟨OM, fun _ => by unfold I64; omega, OM, hq⟩
    ·rw [decide_eq_false h3, Bool.false_and] at hq
     rw [if_neg (by rw [decide_eq_true_eq]; omega)]; exact hq
   ·rw [if_neg k3] at hq
    rw [if_neg (by rw [beq_iff_eq]; exact k3)]; exact hq
  ·rw [decide_eq_false h6, if_pos RD]
   have : (if s.Kind = 1 then decide (s.Pts.length = 1) else if s.Kind = 2 then decide (2 ≤ s.Pts.length) && decide (s.Pts.length ≤ 6)
 else if s.Kind = 3 then decide (3 ≤ s.Pts.length) && decide (s.Pts.length ≤ 6) && !(decide (nth s.Pts 0 = nth s.Pts ((s.Pts.length : Int) - 1))) else false) = false := by
    rw [decide_eq_false h6, decide_eq_false (show ¬ s.Pts.length = 1 by omega)]
    simp
   rw [this] at hq; exact hq
theorem F64.law (b : List UInt8) (p : Int) (Q : Shape → Int → Prop) (hb : b.length ≤ 2000) (hp : 0 ≤ p) (hp1 : p ≤ 100000000) (hq : ∀ s p', shapeOk s = true → (∀ q ∈ s.Pts, NX q) → p ≤ p' → p' ≤ p + 40 → Q s p') : F64.E b p Q := by
 unfold F64.E
 refine F35.law _ _ _ _ hb hp OM RD fun k hk => F25.law _ _ _ _ hb OM OM fun v hv0 hv1 => ?_
 have hk' : 1 ≤ k ∧ k ≤ 3 := by
  simp only [List.mem_cons, List.not_mem_nil, or_false] at hk; omega
 have fin : ∀ (xs : List Pt) (z : Int), (∀ q ∈ xs, NX q) → p ≤ z → z ≤ p + 30 → F63.E ⟨k, xs⟩ (fun r6 => (if !r6 then F125.E b z (fun r7 m4 => Q (⟨1, ([r7] : List Pt)⟩ : Shape) m4) else Q (⟨k, xs⟩ : Shape) z)) := fun xs z hx h1 h2 => by
  refine F63.law _ _ ?_
  cases h : shapeOk ⟨k, xs⟩ with
  | true => rw [if_neg RD]; exact hq _ _ h hx h1 OM
  | false => rw [if_pos RD]; exact F125.law _ _ _ hb OM OM fun x y x0 x1 y0 y1 => hq _ _ (dot_ok x0 OM y0 y1) (fun q hq' => by rw [List.mem_singleton.1 hq']; exact .of x1) OM OM
 refine ⟨by unfold I64; omega, fun w => 1 ≤ w ∧ w ≤ 6, by split <;> omega, ?_⟩
 rintro want ⟨w1, w2⟩
 refine ⟨fun i xs z => 0 ≤ i ∧ i ≤ 12 ∧ (xs.length : Int) ≤ i ∧ (∀ q ∈ xs, NX q) ∧ p + 2 ≤ z ∧ z ≤ p + 2 + 2 * i, fun i _ _ => (12 - i).toNat, ⟨OM, OM, by simp, by simp, OM, OM⟩, ?_⟩
 rintro i xs z ⟨h0, h1, h2, hx, h3, h4⟩
 by_cases hi : i < 12
 case neg => rw [if_neg (by simpa using hi)]; exact fin _ _ hx OM OM
 rw [if_pos (by simpa using hi)]
 by_cases hl : (xs.length : Int) < F109.m want 6
 case neg => rw [if_neg (by simpa using hl)]; exact fin _ _ hx OM OM
 rw [if_pos (by simpa using hl)]
 refine F125.law _ _ _ hb OM OM fun x y x0 x1 y0 y1 => ⟨fun _ => True, ?_, fun v _ => ⟨fun ys => (ys.length : Int) ≤ i + 1 ∧ ∀ q ∈ ys, NX q, ?_, fun ys hys => ⟨by unfold I64; omega, ⟨OM, OM, hys.1, hys.2, OM, OM⟩, by dsimp only; omega⟩⟩⟩
 ·by_cases h0 : (xs.length : Int) = 0
  ·rw [if_pos (by simpa using h0)]; trivial
  ·rw [if_neg (by simpa using h0)]
   refine ⟨fun _ => by unfold I64; omega, OM, ?_⟩
   split
   ·split
    ·trivial
    ·exact ⟨OM, trivial⟩
   ·trivial
 ·cases v with
  | true => rw [if_pos rfl]; exact ⟨by simp only [List.length_cons, List.length_nil]; omega, by simp only [List.length_append, List.length_cons, List.length_nil]; omega, fun q hq' => (List.mem_append.1 hq').elim (hx q) fun g => by rw [List.mem_singleton.1 g]; exact .of x1⟩
  | false => rw [if_neg RD]; exact ⟨OM, hx⟩
theorem F48.law (b : List UInt8) (p : Int) (l : List Str) (Q : Str → Int → Prop) (hb : b.length ≤ 2000) (hp : 0 ≤ p) (hp1 : p ≤ 1099511627776) (hl : 0 < l.length) (hq : ∀ s ∈ l, Q s (p + 1)) : F48.E b p l Q := by
 unfold F48.E
 exact F25.law _ _ _ _ hb hp hp1 fun v h0 h1 => ⟨OM, hq _ (nth_memi l h0 OM)⟩
theorem F112.law (b : List UInt8) (p : Int) (Q : Str → Int → Prop) (hb : b.length ≤ 2000) (hp : 0 ≤ p) (hp1 : p ≤ 1000000000) (hq : ∀ k ∈ keyL, Q k (p + 1)) : F112.E b p Q := by
 unfold F112.E
 exact F48.law _ _ _ _ hb hp OM RD hq
theorem F113.law (b : List UInt8) (p : Int) (Q : Str → Int → Prop) (hb : b.length ≤ 2000) (hp : 0 ≤ p) (hp1 : p ≤ 1000000000) (hq : ∀ k ∈ valL, Q k (p + 1)) : F113.E b p Q := by
 unfold F113.E
 exact F48.law _ _ _ _ hb hp OM RD hq
def PutT (s : List Tag) (key val : Str) (u : Nat) (xs : List Tag) (done : Bool) : Prop :=
 u ≤ s.length ∧ SS (keysT xs) ∧ (∀ x, x ∈ keysT xs ↔ x ∈ keysT (s.take u) ∨ (done = true ∧ x = key)) ∧ (done = false → (∀ x ∈ keysT (s.take u), Op.bytesLess x key = true) ∧ xs = s.take u) ∧
  (done = true → ∀ y ∈ keysT (s.drop u), Op.bytesLess key y = true) ∧ xs.length ≤ u + 1 ∧ (∀ z ∈ xs, z ∈ s ∨ z = ⟨key, val⟩)
theorem ss_snocT {l : List Str} {x : Str} (h : SS l) (hx : ∀ y ∈ l, Op.bytesLess y x = true) : SS (l ++ [x]) := by
 unfold SS
 rw [List.pairwise_append]
 exact ⟨h, List.pairwise_singleton _ _, fun a ha b hb => by rw [List.mem_singleton.1 hb]; exact hx a ha⟩
theorem keys_take {s : List Tag} {u : Nat} (hu : u < s.length) : keysT (s.take (u + 1)) = keysT (s.take u) ++ [(nth s (u : Int)).Key] := by rw [take_nth s hu, keys_app]; rfl
theorem keys_cut (s : List Tag) (u : Nat) : keysT s = keysT (s.take u) ++ keysT (s.drop u) := by rw [← keys_app, List.take_append_drop]
theorem dropNthT {s : List Tag} {u : Nat} (hu : u < s.length) : s.drop u = nth s (u : Int) :: s.drop (u + 1) := by rw [nth_nat s hu]; exact List.drop_eq_getElem_cons hu
theorem ss_ltT {s : List Tag} (h : SS (keysT s)) {u : Nat} (hu : u < s.length) : (∀ x ∈ keysT (s.take u), Op.bytesLess x (nth s (u : Int)).Key = true) ∧ ∀ y ∈ keysT (s.drop (u + 1)), Op.bytesLess (nth s (u : Int)).Key y = true := by
 have e := keys_cut s u
 rw [dropNthT hu] at e
 have e2 : keysT (nth s (u : Int) :: s.drop (u + 1)) = (nth s (u : Int)).Key :: keysT (s.drop (u + 1)) := rfl
 rw [e2] at e
 rw [e] at h
 obtain ⟨h1, h2, h3⟩ := List.pairwise_append.1 h
 exact ⟨fun x hx => h3 x hx _ List.mem_cons_self, (List.pairwise_cons.1 h2).1⟩
theorem F114.law (s : List Tag) (key val : Str) (Q : List Tag → Prop) (hl : s.length ≤ 1048576) (hs : SS (keysT s)) (hq : ∀ r, SS (keysT r) → (∀ x, x ∈ keysT r ↔ x ∈ keysT s ∨ x = key) → r.length ≤ s.length + 1 → (∀ z ∈ r, z ∈ s ∨ z = ⟨key, val⟩) → Q r) : F114.E s key val Q := by
 unfold F114.E
 refine ⟨fun xs done i => ∃ u : Nat, i = u ∧ PutT s key val u xs done, fun _ _ i => (s.length - i).toNat, ⟨0, rfl, Nat.zero_le _, by simp [keysT, SS], by simp [keysT], fun _ => ⟨by simp [keysT], by simp⟩, (fun h => by cases h), by simp, by simp⟩, ?_⟩
 rintro xs done _ ⟨u, rfl, hu, h1, h2, h3, h4, h5, h6⟩
 by_cases h : u < s.length
 ·rw [if_pos (by simpa using h)]
  obtain ⟨b1, b2⟩ := ss_ltT hs h
  have hin : nth s (u : Int) ∈ s := nth_mem s h
  have hdr : ∀ y ∈ keysT (s.drop u), y = (nth s (u : Int)).Key ∨ y ∈ keysT (s.drop (u + 1)) := fun y hy => by rw [dropNthT h] at hy; exact List.mem_cons.1 hy
  have hcur : (nth s (u : Int)).Key ∈ keysT (s.drop u) := by rw [dropNthT h]; exact List.mem_cons_self
  have hdr' : ∀ y ∈ keysT (s.drop (u + 1)), y ∈ keysT (s.drop u) := fun y hy => by rw [dropNthT h]; exact List.mem_cons_of_mem _ hy
  have stay : ∀ d, d = done → Op.bytesLess (nth s (u : Int)).Key key = true ∨ d = true → xs.length + 1 ≤ u + 1 + 1 → PutT s key val (u + 1) (xs ++ [nth s (u : Int)]) d := fun d hd hor hlen => by
   subst hd
   refine ⟨h, ?_, fun x => ?_, fun hdn => ⟨fun x hx => ?_, ?_⟩, fun hdn y hy => h4 hdn y (hdr' y hy), by simp only [List.length_append, List.length_singleton]; omega, fun z hz => ?_⟩
   ·rw [keys_app]
    refine ss_snocT h1 fun y hy => ?_
    rcases (h2 y).1 hy with hy | ⟨hd, rfl⟩
    ·exact b1 y hy
    ·exact h4 hd _ hcur
   ·rw [keys_app, List.mem_append, h2, keys_take h, List.mem_append]
    constructor
    ·rintro ((hx | hx) | hx)
     ·exact .inl (.inl hx)
     ·exact .inr hx
     ·exact .inl (.inr hx)
    ·rintro ((hx | hx) | hx)
     ·exact .inl (.inl hx)
     ·exact .inr hx
     ·exact .inl (.inr hx)
   ·rw [keys_take h] at hx
    rcases List.mem_append.1 hx with hx | hx
    ·exact (h3 hdn).1 x hx
    ·rw [List.mem_singleton.1 hx]
     rcases hor with hor | hor
     ·exact hor
     ·rw [hdn] at hor; cases hor
   ·rw [(h3 hdn).2, ← take_nth s h]
   ·rcases List.mem_append.1 hz with hz | hz
    ·exact h6 z hz
    ·rw [List.mem_singleton.1 hz]; exact .inl hin
  cases done with
  | true =>
   rw [if_neg RD]
   have hlt := h4 rfl _ hcur
   have hne : (nth s (u : Int)).Key ≠ key := fun e => by rw [e, less_irr] at hlt; cases hlt
   refine ⟨OM, ?_⟩
   rw [if_pos (by rw [bne_iff_ne]; exact hne)]
   exact ⟨OM, by simp only [List.length_cons, List.length_nil]; omega, OM, ⟨u + 1, OM, stay true rfl (.inr rfl) OM⟩, by dsimp only; omega⟩
  | false =>
   rw [if_pos RD]
   obtain ⟨c1, c2⟩ := h3 rfl
   have hxl : xs.length = u := by rw [c2, List.length_take]; omega
   refine ⟨OM, ?_⟩
   cases k : Op.bytesLess (nth s (u : Int)).Key key with
   | true =>
    rw [if_neg RD]
    have hne : (nth s (u : Int)).Key ≠ key := fun e => by rw [e, less_irr] at k; cases k
    refine ⟨OM, ?_⟩
    rw [if_pos (by rw [bne_iff_ne]; exact hne)]
    exact ⟨OM, by simp only [List.length_cons, List.length_nil]; omega, OM, ⟨u + 1, OM, stay false rfl (.inl k) OM⟩, by dsimp only; omega⟩
   | false =>
    rw [if_pos RD]
    have g1 : SS (keysT (xs ++ [(⟨key, val⟩ : Tag)])) := by
     rw [keys_app]
     refine ss_snocT h1 fun y hy => ?_
     rcases (h2 y).1 hy with hy | ⟨hd, _⟩
     ·exact c1 y hy
     ·cases hd
    refine ⟨by simp only [List.length_cons, List.length_nil]; omega, OM, ?_⟩
    by_cases hne : (nth s (u : Int)).Key = key
    ·rw [if_neg (by rw [hne]; simp)]
     refine ⟨OM, ⟨u + 1, OM, h, g1, fun x => ?_, (fun hd => by cases hd), fun _ y hy => by rw [← hne]; exact b2 y hy, by simp only [List.length_append, List.length_singleton]; omega, fun z hz => ?_⟩, by dsimp only; omega⟩
     ·rw [keys_app, List.mem_append, h2, keys_take h, List.mem_append, hne]
      show _ ∨ x ∈ [key] ↔ _
      rw [List.mem_singleton]
      constructor
      ·rintro ((hx | ⟨hd, _⟩) | hx)
       ·exact .inl (.inl hx)
       ·cases hd
       ·exact .inr ⟨rfl, hx⟩
      ·rintro ((hx | hx) | ⟨_, hx⟩)
       ·exact .inl (.inl hx)
       ·exact .inr hx
       ·exact .inr hx
     ·rcases List.mem_append.1 hz with hz | hz
      ·exact h6 z hz
      ·exact .inr (List.mem_singleton.1 hz)
    ·rw [if_pos (by rw [bne_iff_ne]; exact hne)]
     have hlt : Op.bytesLess key (nth s (u : Int)).Key = true := by
      rcases less_or k with g | g
      ·exact g
      ·exact absurd g.symm hne
     refine ⟨OM, by simp only [List.length_append, List.length_cons, List.length_nil]; omega, OM, ⟨u + 1, OM, h, ?_, fun x => ?_, (fun hd => by cases hd), fun _ y hy => less_trans hlt (b2 y hy), by simp only [List.length_append, List.length_singleton]; omega, fun z hz => ?_⟩, by dsimp only; omega⟩
     ·rw [keys_app]
      refine ss_snocT g1 fun y hy => ?_
      rw [keys_app] at hy
      rcases List.mem_append.1 hy with hy | hy
      ·rcases (h2 y).1 hy with hy | ⟨hd, _⟩
       ·exact b1 y hy
       ·cases hd
      ·have hy : y = key := List.mem_singleton.1 hy
       rw [hy]; exact hlt
     ·rw [keys_app, keys_app, List.mem_append, List.mem_append, h2, keys_take h, List.mem_append]
      show (_ ∨ x ∈ [key]) ∨ x ∈ [(nth s (u : Int)).Key] ↔ _
      rw [List.mem_singleton, List.mem_singleton]
      constructor
      ·rintro (((hx | ⟨hd, _⟩) | hx) | hx)
       ·exact .inl (.inl hx)
       ·cases hd
       ·exact .inr ⟨rfl, hx⟩
       ·exact .inl (.inr hx)
      ·rintro ((hx | hx) | ⟨_, hx⟩)
       ·exact .inl (.inl (.inl hx))
       ·exact .inr hx
       ·exact .inl (.inr hx)
     ·rcases List.mem_append.1 hz with hz | hz
      ·rcases List.mem_append.1 hz with hz | hz
       ·exact h6 z hz
       ·exact .inr (List.mem_singleton.1 hz)
      ·rw [List.mem_singleton.1 hz]; exact .inl hin
 ·rw [if_neg (by simpa using h)]
  have : u = s.length := by omega
  subst this
  rw [List.take_length] at h2 h3
  cases done with
  | true =>
   rw [if_neg RD]
   exact hq xs h1 (fun x => by rw [h2]; simp) h5 h6
  | false =>
   rw [if_pos RD]
   obtain ⟨c1, c2⟩ := h3 rfl
   refine ⟨by simp only [List.length_cons, List.length_nil]; omega, hq _ ?_ (fun x => ?_) (by rw [c2]; simp) fun z hz => ?_⟩
   ·rw [keys_app]
    refine ss_snocT h1 fun y hy => ?_
    rcases (h2 y).1 hy with hy | ⟨hd, _⟩
    ·exact c1 y hy
    ·cases hd
   ·rw [keys_app, List.mem_append, h2]
    show _ ∨ x ∈ [key] ↔ _
    rw [List.mem_singleton]; simp
   ·rcases List.mem_append.1 hz with hz | hz
    ·exact h6 z hz
    ·exact .inr (List.mem_singleton.1 hz)
theorem keys_drawn {s : List Tag} {k v : Str} (hk : k ∈ keyL) (hv : v ∈ valL) (h : ∀ x ∈ s, DT x) {r : List Tag} (hr : ∀ z ∈ r, z ∈ s ∨ z = ⟨k, v⟩) : ∀ x ∈ r, DT x := fun x hx => by
 rcases hr x hx with g | rfl
 ·exact h x g
 ·exact ⟨hk, hv⟩
theorem F78.law (b : List UInt8) (p : Int) (id : Str) (Q : Feat → Int → Prop) (hb : b.length ≤ 2000) (hp : 0 ≤ p) (hp1 : p ≤ 10000000) (hq : ∀ s t p', shapeOk s = true → SS (keysT t) → t.length ≤ 3 → (∀ x ∈ t, DT x) → (∀ q ∈ s.Pts, NX q) → p ≤ p' → p' ≤ p + 60 → Q ⟨id, s, t⟩ p') : F78.E b p id Q := by
 unfold F78.E
 refine F64.law _ _ _ hb hp OM fun s p1 hs hx p0 p2 => F25.law _ _ _ _ hb OM OM fun k hk0 hk1 => ?_
 refine ⟨fun i t z => 0 ≤ i ∧ i ≤ 3 ∧ SS (keysT t) ∧ (t.length : Int) + i ≤ 3 ∧ (∀ x ∈ t, DT x) ∧ p ≤ z ∧ z ≤ p + 41 + 2 * (3 - i), fun i _ _ => i.toNat, ⟨OM, OM, List.Pairwise.nil, by simp only [List.length_nil]; omega, by simp, OM, OM⟩, ?_⟩
 rintro i t z ⟨h0, h1, h2, h3, h4, h5, h6⟩
 by_cases hi : i > 0
 case neg => rw [if_neg (by simpa using hi)]; exact hq _ _ _ hs h2 OM h4 hx h5 OM
 rw [if_pos (by simpa using hi)]
 refine F112.law _ _ _ hb OM OM fun key hkey => F113.law _ _ _ hb OM OM fun val hval => F114.law _ _ _ _ OM h2 fun r r1 r2 r3 r4 => ⟨by unfold I64; omega, ⟨OM, OM, r1, OM, keys_drawn hkey hval h4 r4, OM, OM⟩, by dsimp only; omega⟩
theorem feat_drawn {id : Str} {s : Shape} {t : List Tag} (h1 : wordOk id = true) (h2 : shapeOk s = true) (h3 : SS (keysT t)) (h4 : t.length ≤ 3) (h5 : ∀ x ∈ t, DT x) : featOk ⟨id, s, t⟩ = true := feat_of h1 h2 h3 OM fun x hx => (h5 x hx).ok
theorem F126.law (b : List UInt8) (p : Int) (Q : Str → Int → Prop) (hb : b.length ≤ 2000) (hp : 0 ≤ p) (hp1 : p ≤ 1000000000) (hq : ∀ k ∈ idL, Q k (p + 1)) : F126.E b p Q := by
 unfold F126.E
 exact F48.law _ _ _ _ hb hp OM RD hq
theorem F73.law (b : List UInt8) (p : Int) (Q : List Feat → Int → Prop) (hb : b.length ≤ 2000) (hp : 0 ≤ p) (hp1 : p ≤ 1000000) (hq : ∀ s p', sheetOk s = true → s.length ≤ 4 → (∀ f ∈ s, f.Id ≠ zzI) → (∀ f ∈ s, ∀ q ∈ f.Shape.Pts, NX q) → p ≤ p' → p' ≤ p + 300 → Q s p') : F73.E b p Q := by
 unfold F73.E
 refine F25.law _ _ _ _ hb hp OM fun k hk0 hk1 => ?_
 refine ⟨fun s i z => 0 ≤ i ∧ i ≤ 4 ∧ SS (ids s) ∧ (s.length : Int) + i ≤ 4 ∧ (∀ f ∈ s, featOk f = true ∧ f.Id ≠ zzI ∧ ∀ q ∈ f.Shape.Pts, NX q) ∧ p ≤ z ∧ z ≤ p + 1 + 61 * (4 - i), fun _ i _ => i.toNat, ⟨OM, OM, List.Pairwise.nil, by simp only [List.length_nil]; omega, by simp, OM, OM⟩, ?_⟩
 rintro s i z ⟨h0, h1, h2, h3, h4, h5, h6⟩
 by_cases hi : i > 0
 case neg => rw [if_neg (by simpa using hi)]; exact hq _ _ (sheet_of h2 OM fun f hf => (h4 f hf).1) OM (fun f hf => (h4 f hf).2.1) (fun f hf => (h4 f hf).2.2) h5 OM
 rw [if_pos (by simpa using hi)]
 refine F126.law _ _ _ hb OM OM fun id hid => F78.law _ _ _ _ hb OM OM fun sh t p1 hs ht tl td hx p2 p3 => F119.law _ _ _ OM h2 fun r r1 r2 r3 r4 => ⟨by unfold I64; omega, ⟨OM, OM, r1, OM, fun f hf => ?_, OM, OM⟩, by dsimp only; omega⟩
 rcases r4 f hf with g | rfl
 ·exact h4 f g
 ·exact ⟨feat_drawn (idL_ok _ hid) hs ht tl td, idL_nz _ hid, hx⟩
theorem F86.law (b : List UInt8) (p : Int) (Q : Shape → Int → Prop) (hb : b.length ≤ 2000) (hp : 0 ≤ p) (hp1 : p ≤ 10000000) (hq : ∀ s p', s.Pts.length ≤ 7 → (∀ q ∈ s.Pts, NX q) → p ≤ p' → p' ≤ p + 50 → Q s p') : F86.E b p Q := by
 unfold F86.E
 refine F64.law _ _ _ hb hp OM fun s p1 hs hx p0 p2 => F25.law _ _ _ _ hb OM OM fun k hk0 hk1 => F25.law _ _ _ _ hb OM OM fun v hv0 hv1 => ?_
 have l1 := shape_pos hs
 have l2 := shape_pts hs
 split
 ·exact F35.law _ _ _ _ hb OM OM RD fun n hn => hq _ _ (by dsimp only; omega) hx OM OM
 split
 ·exact F35.law _ _ _ _ hb OM OM RD fun n hn => ⟨OM, hq _ _ (by simp only [List.length_set]; omega) (fun q hq' => by
   rcases List.mem_or_eq_of_mem_set hq' with g | rfl
   ·exact hx q g
   ·simp only [List.mem_cons, List.not_mem_nil, or_false] at hn
    exact ⟨by dsimp only; omega, by dsimp only; omega⟩) OM OM⟩
 split
 ·exact ⟨fun _ => by unfold I64; omega, OM, by simp only [List.length_cons, List.length_nil]; omega, hq _ _ (by simp only [List.length_append, List.length_cons, List.length_nil]; omega) (fun q hq' => (List.mem_append.1 hq').elim (hx q) fun g => by rw [List.mem_singleton.1 g]; exact hx _ (nth_memi _ OM OM)) OM OM⟩
 split
 ·exact ⟨OM, hq _ _ (by simp only [List.length_take, List.length_drop]; omega) (fun q hq' => hx q (List.mem_of_mem_drop (List.mem_of_mem_take hq'))) OM OM⟩
 exact hq _ _ OM hx OM OM
theorem F87.law (b : List UInt8) (p : Int) (Q : Feat → Int → Prop) (hb : b.length ≤ 2000) (hp : 0 ≤ p) (hp1 : p ≤ 1000000) (hq : ∀ f p', FB 4 f → (∀ x ∈ f.Tags, plainK x.Key) → f.Id ≠ zzI → (∀ q ∈ f.Shape.Pts, NX q) → p ≤ p' → p' ≤ p + 120 → Q f p') : F87.E b p Q := by
 unfold F87.E
 refine F126.law _ _ _ hb hp OM fun id hid => F78.law _ _ _ _ hb OM OM fun s t p1 hs ht tl td hx p2 p3 => F25.law _ _ _ _ hb OM OM fun v hv0 hv1 => ?_
 have li := word_len (idL_ok _ hid)
 have lp := shape_pts hs
 have tp : ∀ x ∈ t, plainK x.Key := fun x hx => keyL_plain _ (td x hx).1
 have tw : ∀ x ∈ t, x.Key.length ≤ 6 ∧ x.Val.length ≤ 6 := fun x hx => (td x hx).len
 have iz := idL_nz _ hid
 split
 ·refine F48.law _ _ _ _ hb OM OM RD fun w hw => hq _ _ ⟨?_, by dsimp only; omega, by dsimp only; omega, tw⟩ tp ?_ hx OM OM
  all_goals
   simp only [List.mem_cons, List.not_mem_nil, or_false] at hw
   dsimp only
   rcases hw with rfl | rfl | rfl <;> decide
 split
 ·exact F86.law _ _ _ hb OM OM fun s' p4 h4 hx' h5 h6 => hq _ _ ⟨by dsimp only; omega, h4, by dsimp only; omega, tw⟩ tp iz hx' OM OM
 split
 ·refine ⟨by simp only [List.length_cons, List.length_nil]; omega, hq _ _ ⟨by dsimp only; omega, by dsimp only; omega, by simp only [List.length_append, List.length_cons, List.length_nil]; omega, fun x hx2 => ?_⟩ (fun x hx2 => ?_) iz hx OM OM⟩
  ·rcases List.mem_append.1 hx2 with hx2 | hx2
   ·exact tw x hx2
   ·rw [List.mem_singleton.1 hx2]; decide
  ·rcases List.mem_append.1 hx2 with hx2 | hx2
   ·exact tp x hx2
   ·rw [List.mem_singleton.1 hx2]; unfold plainK; dsimp only; decide
 split
 ·refine F48.law _ _ _ _ hb OM OM RD fun w hw => ⟨by simp only [List.length_cons, List.length_nil]; omega, hq _ _ ⟨by dsimp only; omega, by dsimp only; omega, by simp only [List.length_append, List.length_cons, List.length_nil]; omega, fun x hx2 => ?_⟩ (fun x hx2 => ?_) iz hx OM OM⟩
  ·rcases List.mem_append.1 hx2 with hx2 | hx2
   ·exact tw x hx2
   ·rw [List.mem_singleton.1 hx2]
    simp only [List.mem_cons, List.not_mem_nil, or_false] at hw
    rcases hw with rfl | rfl <;> decide
  ·rcases List.mem_append.1 hx2 with hx2 | hx2
   ·exact tp x hx2
   ·rw [List.mem_singleton.1 hx2]; unfold plainK; dsimp only; decide
 exact hq _ _ ⟨by dsimp only; omega, by dsimp only; omega, by dsimp only; omega, tw⟩ tp iz hx OM OM
theorem F96.law (b : List UInt8) (p : Int) (Q : List Feat → Int → Prop) (hb : b.length ≤ 2000) (hp : 0 ≤ p) (hp1 : p ≤ 100000) (hq : ∀ s p', MD s → (∀ f ∈ s, ∀ q ∈ f.Shape.Pts, NX q) → p ≤ p' → p' ≤ p + 500 → Q s p') : F96.E b p Q := by
 unfold F96.E
 refine F73.law _ _ _ hb hp OM fun s p1 hs hl hz hn p2 p3 => F25.law _ _ _ _ hb OM OM fun v hv0 hv1 => ?_
 have mb := MB.of hs
 have hm : MD s := ⟨⟨OM, mb.fb⟩, hz⟩
 split
 ·refine F87.law _ _ _ hb OM OM fun f p4 h1 _ h2 hfx h3 h4 => ⟨by simp only [List.length_cons, List.length_nil]; omega, hq _ _ ⟨⟨by simp only [List.length_append, List.length_cons, List.length_nil]; omega, fun x hx => ?_⟩, fun x hx => ?_⟩ (fun x hx => ?_) OM OM⟩
  ·rcases List.mem_append.1 hx with hx | hx
   ·exact mb.fb x hx
   ·rw [List.mem_singleton.1 hx]; exact h1
  ·rcases List.mem_append.1 hx with hx | hx
   ·exact hz x hx
   ·rw [List.mem_singleton.1 hx]; exact h2
  ·rcases List.mem_append.1 hx with hx | hx
   ·exact hn x hx
   ·rw [List.mem_singleton.1 hx]; exact hfx
 split
 ·refine ⟨OM, hq _ _ ⟨⟨by simp only [List.length_append]; omega, fun x hx => ?_⟩, fun x hx => ?_⟩ (fun x hx => ?_) OM OM⟩
  ·rcases List.mem_append.1 hx with hx | hx <;> exact mb.fb x hx
  ·rcases List.mem_append.1 hx with hx | hx <;> exact hz x hx
  ·rcases List.mem_append.1 hx with hx | hx <;> exact hn x hx
 split
 ·refine ⟨fun s i => 0 ≤ i ∧ i ≤ 9 ∧ SS (ids s) ∧ (s.length : Int) ≤ 4 + i ∧ (∀ f ∈ s, FB 4 f ∧ f.Id ≠ zzI ∧ ∀ q ∈ f.Shape.Pts, NX q), fun _ i => (9 - i).toNat, ⟨OM, OM, (sheet_ss hs).1, OM, fun f hf => ⟨mb.fb f hf, hz f hf, hn f hf⟩⟩, ?_⟩
  rintro s i ⟨h0, h1, h2, h3, h4⟩
  by_cases hi : i ≤ 8
  case neg => rw [if_neg (by simpa using hi)]; exact hq _ _ ⟨⟨OM, fun f hf => (h4 f hf).1⟩, fun f hf => (h4 f hf).2.1⟩ (fun f hf => (h4 f hf).2.2) OM OM
  rw [if_pos (by simpa using hi)]
  have hl1 : ∀ l : Str, ((l.drop i.toNat).take ((i + 1).toNat - i.toNat)).length ≤ 1 := fun l => by rw [List.length_take]; omega
  refine ⟨by unfold I64; omega, by simp only [List.length_cons, List.length_nil]; omega, F119.law _ _ _ OM h2 fun r r1 r2 r3 r4 => ⟨by unfold I64; omega, ⟨OM, OM, r1, OM, fun f hf => ?_⟩, by dsimp only; omega⟩⟩
  rcases r4 f hf with g | rfl
  ·exact h4 f g
  ·refine ⟨⟨Nat.le_trans (hl1 _) RD, by dsimp only [List.length_cons, List.length_nil]; omega, by simp only [List.length_nil]; omega, by simp⟩, fun e => ?_, fun q hq' => by rw [List.mem_singleton.1 hq']; exact .of RD⟩
   have := hl1 [113, 114, 115, 116, 117, 118, 119, 120, 121, 122]
   dsimp only at e
   rw [e] at this
   exact absurd this RD
 exact hq _ _ hm hn OM OM
theorem F98.law (s : List Feat) (id : Str) (Q : Int → Prop) (hq : Q (findN s.length fun j => (nth s (j : Int)).Id == id)) : F98.E s id Q := by
 unfold F98.E
 refine loop_find s.length (fun j => (nth s (j : Int)).Id == id) hq (fun I mu k hk h1 h2 => ⟨OM, ?_⟩)
 cases h : (nth s (k : Int)).Id == id with
 | true => rw [if_pos rfl]; exact h1 h
 | false => rw [if_neg RD]; obtain ⟨i1, i2⟩ := h2 h; exact ⟨OM, i1, i2⟩
theorem F124.law (s : List Feat) (id : Str) (Q : List Feat → Prop) (hl : s.length ≤ 1048576) (hq : Q (s.filter fun f => decide (f.Id ≠ id))) : F124.E s id Q := by
 unfold F124.E
 refine ⟨fun xs i => ∃ u : Nat, i = u ∧ u ≤ s.length ∧ xs = (s.take u).filter fun f => decide (f.Id ≠ id), fun _ i => (s.length - i).toNat, ⟨0, rfl, Nat.zero_le _, rfl⟩, ?_⟩
 rintro _ _ ⟨u, rfl, hu, rfl⟩
 have hfl := List.length_filter_le (fun f : Feat => decide (f.Id ≠ id)) (s.take u)
 rw [List.length_take] at hfl
 by_cases h : u < s.length
 ·rw [if_pos (by simpa using h)]
  refine ⟨OM, ?_⟩
  by_cases e : (nth s (u : Int)).Id = id
  ·rw [if_neg (by rw [e]; simp)]
   refine ⟨OM, ⟨u + 1, OM, OM, ?_⟩, by dsimp only; omega⟩
   rw [take_nth s h, List.filter_append, List.filter_cons_of_neg (by rw [decide_eq_true_eq]; exact fun g => g e), List.filter_nil, List.append_nil]
  ·rw [if_pos (by rw [bne_iff_ne]; exact e)]
   refine ⟨OM, by simp only [List.length_cons, List.length_nil]; omega, OM, ⟨u + 1, OM, OM, ?_⟩, by dsimp only; omega⟩
   rw [take_nth s h, List.filter_append, List.filter_cons_of_pos (by rw [decide_eq_true_eq]; exact e), List.filter_nil]
 ·rw [if_neg (by simpa using h)]
  have : u = s.length := by omega
  subst this
  rw [List.take_length]; exact hq
theorem F81.law (b : List UInt8) (p : Int) (s : Shape) (Q : Shape → Int → Prop) (hb : b.length ≤ 2000) (hp : 0 ≤ p) (hp1 : p ≤ 10000000) (hs : s.Pts.length ≤ 1000) (hq : ∀ r p', (r = s ∨ shapeOk r = true) → p ≤ p' → p' ≤ p + 4 → Q r p') : F81.E b p s Q := by
 unfold F81.E
 by_cases h0 : (s.Pts.length : Int) = 0
 ·rw [if_pos (by simpa using h0)]; exact hq _ _ (.inl rfl) OM OM
 rw [if_neg (by simpa using h0)]
 refine F25.law _ _ _ _ hb hp OM fun k hk0 hk1 => ⟨OM, by simp only [List.length_take, List.length_drop, List.length_nil]; omega, F25.law _ _ _ _ hb OM OM fun v hv0 hv1 => ?_⟩
 have fin : ∀ (r : Shape) (z : Int), p ≤ z → z ≤ p + 4 → F63.E r (fun r5 => (if !r5 then Q s z else Q r z)) := fun r z h1 h2 => by
  refine F63.law _ _ ?_
  cases h : shapeOk r with
  | true => rw [if_neg RD]; exact hq _ _ (.inr h) h1 h2
  | false => rw [if_pos RD]; exact hq _ _ (.inl rfl) h1 h2
 refine ⟨fun _ z => p ≤ z ∧ z ≤ p + 4, ?_, fun xs z hz => fin _ _ hz.1 hz.2⟩
 split
 ·exact ⟨OM, F125.law _ _ _ hb OM OM fun x y _ _ _ _ => ⟨by simp only [List.length_append, List.length_take, List.length_drop, List.length_nil, List.length_cons]; omega, by simp only [List.length_append, List.length_take, List.length_drop, List.length_nil, List.length_cons]; omega, OM, OM⟩⟩
 split
 ·exact ⟨fun _ => by unfold I64; omega, OM, by simp only [List.length_append, List.length_take, List.length_drop, List.length_nil, List.length_cons]; omega, OM, OM⟩
 exact ⟨fun _ => by unfold I64; omega, OM, F125.law _ _ _ hb OM OM fun x y _ _ _ _ => ⟨by simp only [List.length_append, List.length_take, List.length_drop, List.length_nil, List.length_cons]; omega, by simp only [List.length_append, List.length_take, List.length_drop, List.length_nil, List.length_cons]; omega, OM, OM⟩⟩
theorem F80.law (f : Feat) (Q : Feat → Prop) (hb : bulk f ≤ 1048576) (hq : Q f) : F80.E f Q := by
 unfold F80.E F79.E
 have h := bulk_feat f
 have h1 := bulk_len f.Tags
 have h2 := bulk_len f.Shape.Pts
 exact ⟨by simp only [List.length_nil]; omega, by simp only [List.length_nil]; omega, hq⟩
theorem F82.law (s : Str) (Q : Bool → Prop) (hq : Q (wordOk s)) : F82.E s Q := by
 unfold F82.E
 unfold wordOk at hq
 refine loop_all s.length (fun k => byteOk (nth s (k : Int))) (fun I mu k hk hp hn => ?_) (fun ha => ?_)
 ·refine ⟨OM, ?_⟩
  cases h1 : decide (((nth s (k : Int)).toNat : Int) < 97) with
  | true => rw [if_pos rfl]; rw [allN_false hk (by simp only [byteOk, h1]; rfl), Bool.false_and] at hq; exact hq
  | false =>
   rw [if_neg RD]
   refine ⟨OM, ?_⟩
   cases h2 : decide (((nth s (k : Int)).toNat : Int) > 122) with
   | true => rw [if_pos rfl]; rw [allN_false hk (by simp only [byteOk, h1, h2]; rfl), Bool.false_and] at hq; exact hq
   | false =>
    rw [if_neg RD]
    obtain ⟨i1, i2⟩ := hn (by simp only [byteOk, h1, h2]; rfl)
    exact ⟨OM, i1, i2⟩
 ·rw [allN_true ha, Bool.true_and] at hq
  by_cases h : 1 ≤ s.length
  ·rw [decide_eq_true h, Bool.true_and] at hq
   rw [if_pos (by rw [decide_eq_true_eq]; omega)]
   have e2 : decide ((s.length : Int) ≤ 6) = decide (s.length ≤ 6) := decide_eq_decide.2 OM
   rw [e2]; exact hq
  ·rw [decide_eq_false h, Bool.false_and] at hq
   rw [if_neg (by rw [decide_eq_true_eq]; omega)]; exact hq
theorem F83.law (t : List Tag) (Q : Bool → Prop) (hq : Q (tagsOk t && decide (t.length ≤ 4))) : F83.E t Q := by
 unfold F83.E
 unfold tagsOk at hq
 refine loop_all t.length (fun k => wordOk (nth t (k : Int)).Key && wordOk (nth t (k : Int)).Val && (decide (k = 0) || Op.bytesLess (nth t ((k : Int) - 1)).Key (nth t (k : Int)).Key)) (fun I mu k hk hp hn => ?_) (fun ha => ?_)
 ·have bad : (wordOk (nth t (k : Int)).Key && wordOk (nth t (k : Int)).Val && (decide (k = 0) || Op.bytesLess (nth t ((k : Int) - 1)).Key (nth t (k : Int)).Key)) = false → Q false := fun h => by
   rw [allN_false hk h, Bool.false_and] at hq; exact hq
  refine ⟨OM, _, F82.law _ _ rfl, ?_⟩
  cases h1 : wordOk (nth t (k : Int)).Key with
  | false => rw [if_pos RD]; exact bad (by rw [h1]; rfl)
  | true =>
   rw [if_neg RD]
   refine ⟨OM, _, F82.law _ _ rfl, ?_⟩
   cases h2 : wordOk (nth t (k : Int)).Val with
   | false => rw [if_pos RD]; exact bad (by rw [h2, Bool.and_false]; rfl)
   | true =>
    rw [if_neg RD]
    by_cases hk0 : k = 0
    ·rw [if_neg (by rw [decide_eq_true_eq]; omega)]
     obtain ⟨i1, i2⟩ := hn (by rw [h1, h2, decide_eq_true hk0]; rfl)
     exact ⟨OM, i1, i2⟩
    ·rw [if_pos (by rw [decide_eq_true_eq]; omega)]
     refine ⟨OM, fun _ => by unfold I64; omega, OM, ?_⟩
     rw [← less_tri]
     cases h3 : Op.bytesLess (nth t ((k : Int) - 1)).Key (nth t (k : Int)).Key with
     | false => rw [if_pos RD]; exact bad (by rw [h3, h1, h2, decide_eq_false hk0]; rfl)
     | true =>
      rw [if_neg RD]
      obtain ⟨i1, i2⟩ := hn (by rw [h3, h1, h2, decide_eq_false hk0]; rfl)
      exact ⟨OM, i1, i2⟩
 ·rw [allN_true ha, Bool.true_and] at hq
  have e2 : decide ((t.length : Int) ≤ 4) = decide (t.length ≤ 4) := decide_eq_decide.2 OM
  rw [e2]; exact hq
theorem F84.law (f : Feat) (Q : Bool → Prop) (hq : Q (featOk f)) : F84.E f Q := by
 unfold F84.E
 unfold featOk at hq
 refine F82.law _ _ ?_
 cases h1 : wordOk f.Id with
 | false => rw [h1, Bool.and_false, Bool.false_and] at hq; rw [if_neg RD]; exact hq
 | true =>
  rw [h1, Bool.and_true] at hq
  rw [if_pos rfl]
  refine F63.law _ _ ?_
  cases h2 : shapeOk f.Shape with
  | false => rw [h2, Bool.and_false] at hq; rw [if_neg RD]; exact hq
  | true => rw [h2, Bool.and_true] at hq; rw [if_pos rfl]; exact F83.law _ _ hq
theorem F76.law (d : List Feat) (Q : Bool → Prop) (hq : Q (sheetOk d)) : F76.E d Q := by
 unfold F76.E
 unfold sheetOk at hq
 refine loop_all d.length (fun k => featOk (nth d (k : Int)) && (decide (k = 0) || Op.bytesLess (nth d ((k : Int) - 1)).Id (nth d (k : Int)).Id)) (fun I mu k hk hp hn => ?_) (fun ha => ?_)
 ·have bad : (featOk (nth d (k : Int)) && (decide (k = 0) || Op.bytesLess (nth d ((k : Int) - 1)).Id (nth d (k : Int)).Id)) = false → Q false := fun h => by
   rw [allN_false hk h, Bool.false_and] at hq; exact hq
  refine ⟨OM, _, F84.law _ _ rfl, ?_⟩
  cases h1 : featOk (nth d (k : Int)) with
  | false => rw [if_pos RD]; exact bad (by rw [h1]; rfl)
  | true =>
   rw [if_neg RD]
   by_cases hk0 : k = 0
   ·rw [if_neg (by rw [decide_eq_true_eq]; omega)]
    obtain ⟨i1, i2⟩ := hn (by rw [h1, decide_eq_true hk0]; rfl)
    exact ⟨OM, i1, i2⟩
   ·rw [if_pos (by rw [decide_eq_true_eq]; omega)]
    refine ⟨OM, fun _ => by unfold I64; omega, OM, ?_⟩
    rw [← less_tri]
    cases h3 : Op.bytesLess (nth d ((k : Int) - 1)).Id (nth d (k : Int)).Id with
    | false => rw [if_pos RD]; exact bad (by rw [h3, h1, decide_eq_false hk0]; rfl)
    | true =>
     rw [if_neg RD]
     obtain ⟨i1, i2⟩ := hn (by rw [h3, h1, decide_eq_false hk0]; rfl)
     exact ⟨OM, i1, i2⟩
 ·rw [allN_true ha, Bool.true_and] at hq
  have e2 : decide ((d.length : Int) ≤ 8) = decide (d.length ≤ 8) := decide_eq_decide.2 OM
  rw [e2]; exact hq
theorem FB.put {n : Nat} {f : Feat} (h : FB n f) {k v : Str} (hk : k ∈ keyL) (hv : v ∈ valL) {r : List Tag} (hl : r.length ≤ f.Tags.length + 1) (hr : ∀ z ∈ r, z ∈ f.Tags ∨ z = ⟨k, v⟩) : FB (n + 1) ⟨f.Id, f.Shape, r⟩ := ⟨h.id, h.pts, Nat.le_trans hl (Nat.succ_le_succ h.len), fun x hx => by
 rcases hr x hx with g | rfl
 ·exact h.wd x g
 ·exact DT.len ⟨hk, hv⟩⟩
theorem F103.law (b : List UInt8) (p : Int) (s : List Feat) (Q : List Feat → Int → Prop) (hb : b.length ≤ 2000) (hp : 0 ≤ p) (hp1 : p ≤ 1000000) (hs : sheetOk s = true) (hz : ∀ f ∈ s, f.Id ≠ zzI) (hq : ∀ r p', sheetOk r = true → (∀ f ∈ r, f.Id ≠ zzI) → p ≤ p' → p' ≤ p + 250 → Q r p') : F103.E b p s Q := by
 unfold F103.E
 have mb := MB.of hs
 refine F25.law _ _ _ _ hb hp OM fun k hk0 hk1 => ⟨by unfold I64; omega, ?_⟩
 refine ⟨fun s i z => 0 ≤ i ∧ i ≤ 3 ∧ SS (ids s) ∧ (s.length : Int) + i ≤ 11 ∧ (∀ f ∈ s, SS (keysT f.Tags) ∧ FB (7 - i.toNat) f ∧ f.Id ≠ zzI) ∧ p ≤ z ∧ z ≤ p + 1 + 65 * (3 - i), fun _ i _ => i.toNat, ⟨OM, OM, (sheet_ss hs).1, by have := mb.len; omega, fun f hf => ⟨featOk_tags ((sheet_ss hs).2.2 f hf), (mb.fb f hf).mono OM, hz f hf⟩, OM, OM⟩, ?_⟩
 rintro s2 i z ⟨h0, h1, h2, h3, h4, h5, h6⟩
 by_cases hi : i > 0
 case neg =>
  rw [if_neg (by simpa using hi)]
  refine F76.law _ _ ?_
  cases h : sheetOk s2 with
  | true => rw [if_neg RD]; exact hq _ _ h (fun f hf => (h4 f hf).2.2) h5 OM
  | false => rw [if_pos RD]; exact hq _ _ hs hz h5 OM
 rw [if_pos (by simpa using hi)]
 have em : 7 - (i - 1).toNat = 7 - i.toNat + 1 := by omega
 have step : ∀ (f : Feat), SS (keysT f.Tags) → FB (7 - i.toNat + 1) f → f.Id ≠ zzI → ∀ r : List Feat, (∀ z ∈ r, z ∈ s2 ∨ z = f) → ∀ x ∈ r, SS (keysT x.Tags) ∧ FB (7 - (i - 1).toNat) x ∧ x.Id ≠ zzI := fun f a1 a2 a3 r hr x hx => by
  rw [em]
  rcases hr x hx with g | rfl
  ·have := h4 x g
   exact ⟨this.1, this.2.1.mono OM, this.2.2⟩
  ·exact ⟨a1, a2, a3⟩
 refine F126.law _ _ _ hb OM OM fun id hid => F98.law _ _ _ ?_
 have hle := findN_le s2.length fun j => (nth s2 (j : Int)).Id == id
 generalize findN s2.length (fun j => (nth s2 (j : Int)).Id == id) = at_ at *
 by_cases ha : at_ < 0
 ·rw [if_pos (by simpa using ha)]
  refine F78.law _ _ _ _ hb OM OM fun sh t p1 hsh ht tl td _ p2 p3 => F119.law _ _ _ OM h2 fun r r1 r2 r3 r4 => ⟨by unfold I64; omega, ⟨OM, OM, r1, OM, step _ ht ?_ (idL_nz _ hid) r r4, OM, OM⟩, by dsimp only; omega⟩
  exact ((FB.of (feat_drawn (idL_ok _ hid) hsh ht tl td)).mono OM)
 rw [if_neg (by simpa using ha)]
 have hm : nth s2 at_ ∈ s2 := nth_memi s2 OM hle.2
 obtain ⟨f1, f2, f3⟩ := h4 _ hm
 have fb := f2.small
 refine F25.law _ _ _ _ hb OM OM fun v hv0 hv1 => ?_
 split
 ·refine F124.law _ _ _ OM ⟨by unfold I64; omega, ⟨OM, OM, ?_, ?_, fun x hx => ?_, OM, OM⟩, by dsimp only; omega⟩
  ·unfold SS ids at h2 ⊢
   exact List.Pairwise.sublist (List.filter_sublist.map _) h2
  ·have := List.length_filter_le (fun f : Feat => decide (f.Id ≠ id)) s2; omega
  ·have := h4 x (List.mem_filter.1 hx).1
   exact ⟨this.1, this.2.1.mono OM, this.2.2⟩
 refine F25.law _ _ _ _ hb OM OM fun w hw0 hw1 => ?_
 split
 ·refine ⟨OM, F80.law _ _ OM (F112.law _ _ _ hb OM OM fun key hkey => F113.law _ _ _ hb OM OM fun val hval => F114.law _ _ _ _ (by have := f2.len; omega) f1 fun t t1 t2 t3 t4 => F119.law _ _ _ OM h2 fun r r1 r2 r3 r4 => ⟨by unfold I64; omega, ⟨OM, OM, r1, OM, step _ t1 (f2.put hkey hval t3 t4) f3 r r4, OM, OM⟩, by dsimp only; omega⟩)⟩
 ·refine ⟨OM, F80.law _ _ OM (F81.law _ _ _ _ hb OM OM (by have := f2.pts; omega) fun sh p' hsh p1 p2 => F119.law _ _ _ OM h2 fun r r1 r2 r3 r4 => ⟨by unfold I64; omega, ⟨OM, OM, r1, OM, step ⟨(nth s2 at_).Id, sh, (nth s2 at_).Tags⟩ f1 ⟨f2.id, ?_, Nat.le_trans f2.len OM, f2.wd⟩ f3 r r4, OM, OM⟩, by dsimp only; omega⟩)⟩
  rcases hsh with rfl | hsh
  ·exact f2.pts
  ·exact Nat.le_trans (shape_pts hsh) RD
theorem F101.law (s : List Feat) (Q : List Feat → Prop) (hb : bulk s ≤ 1048576) (hq : Q s) : F101.E s Q := by
 unfold F101.E
 have hl := bulk_len s
 refine ⟨fun xs i => ∃ u : Nat, i = u ∧ u ≤ s.length ∧ xs = s.take u, fun _ i => (s.length - i).toNat, ⟨0, rfl, Nat.zero_le _, rfl⟩, ?_⟩
 rintro _ _ ⟨u, rfl, hu, rfl⟩
 by_cases h : u < s.length
 ·rw [if_pos (by simpa using h)]
  have hm := bulk_mem (nth_mem s h)
  refine ⟨OM, F80.law _ _ OM ⟨by simp only [List.length_take, List.length_cons, List.length_nil]; omega, OM, ⟨u + 1, OM, OM, ?_⟩, by dsimp only; omega⟩⟩
  rw [take_nth s h]
 ·rw [if_neg (by simpa using h)]
  have : u = s.length := by omega
  subst this
  rw [List.take_length]; exact hq
theorem MD.of {s : List Feat} (h : sheetOk s = true) (hz : ∀ f ∈ s, f.Id ≠ zzI) : MD s := ⟨(MB.of h).mono OM OM, hz⟩
theorem F11.law (code : List UInt8) (Q : List Feat → List Feat → List Feat → Prop) (hq : ∀ o a b, MD o → MD a → MD b → Q o a b) : F11.E code Q := by
 unfold F11.E
 refine F62.law _ _ fun b hb => F73.law _ _ _ hb OM OM fun s p hs _ hz _ p0 p1 => F25.law _ _ _ _ hb OM OM fun v hv0 hv1 => ?_
 have ms := MD.of hs hz
 split
 ·exact F96.law _ _ _ hb OM OM fun t p2 mt _ p3 p4 => F103.law _ _ _ _ hb OM OM hs hz fun r p5 hr rz _ _ => hq _ _ _ mt (.of hr rz) ms
 split
 ·exact F96.law _ _ _ hb OM OM fun t p2 mt _ p3 p4 => F103.law _ _ _ _ hb OM OM hs hz fun r p5 hr rz _ _ => hq _ _ _ ms mt (.of hr rz)
 split
 ·exact F103.law _ _ _ _ hb OM OM hs hz fun r p5 hr rz _ _ => F101.law _ _ (Nat.le_trans (MB.of hr).small RD) (hq _ _ _ ms (.of hr rz) (.of hr rz))
 exact F103.law _ _ _ _ hb OM OM hs hz fun r p5 hr rz _ _ => F103.law _ _ _ _ hb OM OM hr rz fun r2 p6 hr2 rz2 _ _ => F103.law _ _ _ _ hb OM OM hs hz fun r3 p7 hr3 rz3 _ _ => F103.law _ _ _ _ hb OM OM hr3 rz3 fun r4 p8 hr4 rz4 _ _ => hq _ _ _ ms (.of hr2 rz2) (.of hr4 rz4)
theorem F88.law (n lo hi : Int) (Q : Bool → Prop) (hq : Q (decide (lo ≤ n) && decide (n ≤ hi))) : F88.E n lo hi Q := by
 unfold F88.E
 by_cases h : lo ≤ n
 ·rw [if_pos (by simpa using h)]; rw [decide_eq_true h, Bool.true_and] at hq; exact hq
 ·rw [if_neg (by simpa using h)]; rw [decide_eq_false h, Bool.false_and] at hq; exact hq
theorem F88.m_is (n lo hi : Int) : F88.m n lo hi = (decide (lo ≤ n) && decide (n ≤ hi)) := by
 unfold F88.m
 by_cases h : lo ≤ n
 ·rw [if_pos (by simpa using h), decide_eq_true h, Bool.true_and]
 ·rw [if_neg (by simpa using h), decide_eq_false h, Bool.false_and]
theorem F89.law (s : Str) (Q : Bool → Prop) (hl : s.length ≤ 1048576) (hq : Q (wordOk s)) : F89.E s Q := by
 unfold F89.E
 unfold wordOk at hq
 refine loop_all s.length (fun k => byteOk (nth s (k : Int))) (fun I mu k hk hp hn => ?_) (fun ha => ?_)
 ·refine ⟨OM, ?_⟩
  cases h1 : decide (((nth s (k : Int)).toNat : Int) < 97) with
  | true => rw [if_pos rfl]; rw [allN_false hk (by simp only [byteOk, h1]; rfl), Bool.false_and] at hq; exact hq
  | false =>
   rw [if_neg RD]
   refine ⟨OM, ?_⟩
   cases h2 : decide (((nth s (k : Int)).toNat : Int) > 122) with
   | true => rw [if_pos rfl]; rw [allN_false hk (by simp only [byteOk, h1, h2]; rfl), Bool.false_and] at hq; exact hq
   | false =>
    rw [if_neg RD]
    obtain ⟨i1, i2⟩ := hn (by simp only [byteOk, h1, h2]; rfl)
    exact ⟨by unfold I64; omega, i1, i2⟩
 ·rw [allN_true ha, Bool.true_and] at hq
  refine F88.law _ _ _ _ ?_
  have e1 : decide ((1 : Int) ≤ (s.length : Int)) = decide (1 ≤ s.length) := decide_eq_decide.2 OM
  have e2 : decide ((s.length : Int) ≤ 6) = decide (s.length ≤ 6) := decide_eq_decide.2 OM
  rw [e1, e2]; exact hq
theorem F127.law (p : Pt) (Q : Bool → Prop) (hq : Q (ptOk p)) : F127.E p Q := by
 unfold F127.E
 unfold ptOk at hq
 refine F88.law _ _ _ _ ?_
 change if inR p.X = true then _ else _
 cases h : inR p.X with
 | true => rw [if_pos rfl]; rw [h, Bool.true_and] at hq; exact F88.law _ _ _ _ hq
 | false => rw [if_neg RD]; rw [h, Bool.false_and] at hq; exact hq
theorem F65.law (s : Shape) (Q : Bool → Prop) (hl : s.Pts.length ≤ 1048576) (hq : Q (shapeOk s)) : F65.E s Q := by
 unfold F65.E
 unfold shapeOk ptsOk at hq
 refine loop_all s.Pts.length (fun k => ptOk (nth s.Pts (k : Int)) && (decide (k = 0) || !(decide (nth s.Pts ((k : Int) - 1) = nth s.Pts (k : Int))))) (fun I mu k hk hp hn => ?_) (fun ha => ?_)
 ·refine ⟨OM, _, F127.law _ _ rfl, ?_⟩
  have bad : (ptOk (nth s.Pts (k : Int)) && (decide (k = 0) || !(decide (nth s.Pts ((k : Int) - 1) = nth s.Pts (k : Int))))) = false → Q false := fun h => by
   rw [allN_false hk h, Bool.false_and] at hq; exact hq
  cases h1 : ptOk (nth s.Pts (k : Int)) with
  | false => rw [if_pos RD]; exact bad (by rw [h1]; rfl)
  | true =>
   rw [if_neg RD]
   by_cases hk0 : k = 0
   ·rw [if_neg (by rw [decide_eq_true_eq]; omega)]
    obtain ⟨i1, i2⟩ := hn (by rw [h1, decide_eq_true hk0]; rfl)
    exact ⟨by unfold I64; omega, i1, i2⟩
   ·rw [if_pos (by rw [decide_eq_true_eq]; omega)]
    refine ⟨by unfold I64; omega, OM, ?_⟩
    rw [eqPt_is]
    by_cases he : nth s.Pts ((k : Int) - 1) = nth s.Pts (k : Int)
    ·rw [if_pos (by rw [decide_eq_true_eq]; exact he)]
     exact bad (by rw [h1, decide_eq_false hk0, decide_eq_true he]; rfl)
    ·rw [if_neg (by rw [decide_eq_true_eq]; exact he)]
     obtain ⟨i1, i2⟩ := hn (by simp only [h1, decide_eq_false hk0, decide_eq_false he]; rfl)
     exact ⟨by unfold I64; omega, i1, i2⟩
 ·rw [allN_true ha, Bool.true_and] at hq
  unfold kindOk at hq
  by_cases k1 : s.Kind = 1
  ·rw [if_pos k1] at hq
   rw [if_pos (by rw [beq_iff_eq]; exact k1)]
   have : ((s.Pts.length : Int) == 1) = decide (s.Pts.length = 1) := by rw [Bool.eq_iff_iff, beq_iff_eq, decide_eq_true_eq]; omega
   rw [this]; exact hq
  rw [if_neg k1] at hq
  rw [if_neg (by rw [beq_iff_eq]; exact k1)]
  have e2 : decide ((2 : Int) ≤ (s.Pts.length : Int)) = decide (2 ≤ s.Pts.length) := decide_eq_decide.2 OM
  have e3 : decide ((3 : Int) ≤ (s.Pts.length : Int)) = decide (3 ≤ s.Pts.length) := decide_eq_decide.2 OM
  have e6 : decide ((s.Pts.length : Int) ≤ 6) = decide (s.Pts.length ≤ 6) := decide_eq_decide.2 OM
  by_cases k2 : s.Kind = 2
  ·rw [if_pos k2] at hq
   rw [if_pos (by rw [beq_iff_eq]; exact k2)]
   refine F88.law _ _ _ _ ?_
   rw [e2, e6]; exact hq
  rw [if_neg k2] at hq
  rw [if_neg (by rw [beq_iff_eq]; exact k2)]
  by_cases k3 : s.Kind = 3
  ·rw [if_pos k3] at hq
   rw [if_pos (by rw [beq_iff_eq]; exact k3), F88.m_is, e3, e6]
   cases hc : decide (3 ≤ s.Pts.length) && decide (s.Pts.length ≤ 6) with
   | true =>
    rw [hc, Bool.true_and] at hq
    rw [Bool.and_eq_true, decide_eq_true_eq, decide_eq_true_eq] at hc
    rw [if_pos rfl, eqPt_is]
    exact ⟨OM, fun _ => by unfold I64; omega, OM, hq⟩
   | false =>
    rw [hc, Bool.false_and] at hq
    rw [if_neg RD]; exact hq
  ·rw [if_neg k3] at hq
   rw [if_neg (by rw [beq_iff_eq]; exact k3)]; exact hq
theorem F90.law (f : Feat) (Q : Bool → Prop) (hb : bulk f ≤ 1048576) (hq : Q (featOk f)) : F90.E f Q := by
 unfold F90.E
 unfold featOk at hq
 have b1 : bulk f = bulk f.Id + bulk f.Shape + bulk f.Tags := rfl
 have b2 : bulk f.Shape = bulk f.Shape.Kind + bulk f.Shape.Pts := rfl
 have l1 := bulk_len f.Tags; have l2 := bulk_len f.Shape.Pts; have l3 := bulk_len f.Id
 have core : (tagsOk f.Tags = true → F89.E f.Id (fun r3 => (if r3 then F65.E f.Shape (fun r4 => (if r4 then Q (decide ((f.Tags.length : Int) ≤ 4)) else Q false)) else Q false))) := fun ha => by
  rw [ha, Bool.true_and] at hq
  refine F89.law _ _ OM ?_
  cases h1 : wordOk f.Id with
  | false => rw [h1, Bool.and_false, Bool.false_and] at hq; rw [if_neg RD]; exact hq
  | true =>
   rw [h1, Bool.and_true] at hq
   rw [if_pos rfl]
   refine F65.law _ _ OM ?_
   cases h2 : shapeOk f.Shape with
   | false => rw [h2, Bool.and_false] at hq; rw [if_neg RD]; exact hq
   | true =>
    rw [h2, Bool.and_true] at hq; rw [if_pos rfl]
    have e2 : decide ((f.Tags.length : Int) ≤ 4) = decide (f.Tags.length ≤ 4) := decide_eq_decide.2 OM
    rw [e2]; exact hq
 have bad : tagsOk f.Tags = false → Q false := fun h => by
  rw [h, Bool.false_and, Bool.false_and, Bool.false_and] at hq; exact hq
 unfold tagsOk at core bad
 refine loop_all f.Tags.length (fun k => wordOk (nth f.Tags (k : Int)).Key && wordOk (nth f.Tags (k : Int)).Val && (decide (k = 0) || Op.bytesLess (nth f.Tags ((k : Int) - 1)).Key (nth f.Tags (k : Int)).Key)) (fun I mu k hk hp hn => ?_) (fun ha => core (allN_true ha))
 have bad := fun h => bad (allN_false hk h)
 have m1 := bulk_mem (nth_mem f.Tags hk)
 have m2 : bulk (nth f.Tags (k : Int)) = bulk (nth f.Tags (k : Int)).Key + bulk (nth f.Tags (k : Int)).Val := rfl
 have m3 := bulk_len (nth f.Tags (k : Int)).Key; have m4 := bulk_len (nth f.Tags (k : Int)).Val
 refine ⟨OM, _, F89.law _ _ OM rfl, ?_⟩
 cases h1 : wordOk (nth f.Tags (k : Int)).Key with
 | false => rw [if_pos RD]; exact bad (by rw [h1]; rfl)
 | true =>
  rw [if_neg RD]
  refine ⟨_, F89.law _ _ OM rfl, ?_⟩
  cases h2 : wordOk (nth f.Tags (k : Int)).Val with
  | false => rw [if_pos RD]; exact bad (by rw [h2, Bool.and_false]; rfl)
  | true =>
   rw [if_neg RD]
   by_cases hk0 : k = 0
   ·rw [if_neg (by rw [decide_eq_true_eq]; omega)]
    obtain ⟨i1, i2⟩ := hn (by rw [h1, h2, decide_eq_true hk0]; rfl)
    exact ⟨by unfold I64; omega, i1, i2⟩
   ·rw [if_pos (by rw [decide_eq_true_eq]; omega)]
    refine ⟨by unfold I64; omega, OM, ?_⟩
    cases h3 : Op.bytesLess (nth f.Tags ((k : Int) - 1)).Key (nth f.Tags (k : Int)).Key with
    | false => rw [if_pos RD]; exact bad (by rw [h3, h1, h2, decide_eq_false hk0]; rfl)
    | true =>
     rw [if_neg RD]
     obtain ⟨i1, i2⟩ := hn (by rw [h3, h1, h2, decide_eq_false hk0]; rfl)
     exact ⟨by unfold I64; omega, i1, i2⟩
theorem F74.law (d : List Feat) (Q : Bool → Prop) (hb : bulk d ≤ 1048576) (hq : Q (sheetOk d)) : F74.E d Q := by
 unfold F74.E
 unfold sheetOk at hq
 have hl := bulk_len d
 refine loop_all d.length (fun k => featOk (nth d (k : Int)) && (decide (k = 0) || Op.bytesLess (nth d ((k : Int) - 1)).Id (nth d (k : Int)).Id)) (fun I mu k hk hp hn => ?_) (fun ha => ?_)
 ·have bad : (featOk (nth d (k : Int)) && (decide (k = 0) || Op.bytesLess (nth d ((k : Int) - 1)).Id (nth d (k : Int)).Id)) = false → Q false := fun h => by
   rw [allN_false hk h, Bool.false_and] at hq; exact hq
  have m1 := bulk_mem (nth_mem d hk)
  refine ⟨OM, _, F90.law _ _ OM rfl, ?_⟩
  cases h1 : featOk (nth d (k : Int)) with
  | false => rw [if_pos RD]; exact bad (by rw [h1]; rfl)
  | true =>
   rw [if_neg RD]
   by_cases hk0 : k = 0
   ·rw [if_neg (by rw [decide_eq_true_eq]; omega)]
    obtain ⟨i1, i2⟩ := hn (by rw [h1, decide_eq_true hk0]; rfl)
    exact ⟨by unfold I64; omega, i1, i2⟩
   ·rw [if_pos (by rw [decide_eq_true_eq]; omega)]
    refine ⟨by unfold I64; omega, OM, ?_⟩
    cases h3 : Op.bytesLess (nth d ((k : Int) - 1)).Id (nth d (k : Int)).Id with
    | false => rw [if_pos RD]; exact bad (by rw [h3, h1, decide_eq_false hk0]; rfl)
    | true =>
     rw [if_neg RD]
     obtain ⟨i1, i2⟩ := hn (by rw [h3, h1, decide_eq_false hk0]; rfl)
     exact ⟨by unfold I64; omega, i1, i2⟩
 ·rw [allN_true ha, Bool.true_and] at hq
  have e2 : decide ((d.length : Int) ≤ 8) = decide (d.length ≤ 8) := decide_eq_decide.2 OM
  rw [e2]; exact hq
def idsAll (maps : List (List Feat)) : List Str := (maps.map ids).flatten
theorem idsAll_snoc (m : List (List Feat)) (s : List Feat) : idsAll (m ++ [s]) = idsAll m ++ ids s := by unfold idsAll; simp
theorem idsAll_take (m : List (List Feat)) (k : Nat) : (idsAll (m.take k)).length ≤ (idsAll m).length := by
 have h : idsAll m = idsAll (m.take k) ++ idsAll (m.drop k) := by
  unfold idsAll; rw [← List.flatten_append, ← List.map_append, List.take_append_drop]
 rw [h, List.length_append]; omega
theorem F120.law (maps : List (List Feat)) (Q : List Str → Prop) (h1 : maps.length ≤ 1048576) (h2 : (idsAll maps).length ≤ 268435456) (h3 : ∀ s ∈ maps, s.length ≤ 1048576) (hq : Q (uniq (idsAll maps))) : F120.E maps Q := by
 unfold F120.E
 refine ⟨fun xs i => ∃ u : Nat, i = u ∧ u ≤ maps.length ∧ xs = idsAll (maps.take u), fun _ i => (maps.length - i).toNat, ⟨0, rfl, Nat.zero_le _, rfl⟩, ?_⟩
 rintro _ _ ⟨u, rfl, hu, rfl⟩
 by_cases h : u < maps.length
 ·rw [if_pos (by simpa using h)]
  have hs := h3 _ (nth_mem maps h)
  have ht := idsAll_take maps (u + 1)
  rw [take_nth maps h, idsAll_snoc, List.length_append] at ht
  have hil : (ids (nth maps (u : Int))).length = (nth maps (u : Int)).length := by unfold ids; simp
  refine ⟨OM, fun xs j => ∃ v : Nat, j = v ∧ v ≤ (nth maps (u : Int)).length ∧ xs = idsAll (maps.take u) ++ ids ((nth maps (u : Int)).take v), fun _ j => ((nth maps (u : Int)).length - j).toNat, ⟨0, rfl, Nat.zero_le _, by simp [ids]⟩, ?_⟩
  rintro _ _ ⟨v, rfl, hv, rfl⟩
  by_cases g : v < (nth maps (u : Int)).length
  ·rw [if_pos (by simpa using g)]
   have hiv : (ids ((nth maps (u : Int)).take v)).length ≤ v := by unfold ids; simp; omega
   refine ⟨OM, by simp only [List.length_append, List.length_cons, List.length_nil]; omega, by unfold I64; omega, ⟨v + 1, OM, OM, ?_⟩, by dsimp only; omega⟩
   rw [take_nth _ g, ids_app, List.append_assoc]; rfl
  ·rw [if_neg (by simpa using g)]
   have : v = (nth maps (u : Int)).length := by omega
   subst this
   refine ⟨by unfold I64; omega, ⟨u + 1, OM, OM, ?_⟩, by dsimp only; omega⟩
   rw [List.take_length, take_nth maps h, idsAll_snoc]
 ·rw [if_neg (by simpa using h)]
  have : u = maps.length := by omega
  subst this
  rw [List.take_length]
  unfold F7.E F0.E
  exact ⟨h2, by unfold sortS; rw [List.length_mergeSort]; exact h2, hq⟩
theorem F1.law (s : List Feat) (f : Feat → Bool) (ok : Feat → Prop) (Q : Int → Prop) (hl : s.length ≤ 1048576) (hok : ∀ x ∈ s, ok x) (hq : Q (findN s.length fun j => f (nth s (j : Int)))) : F1.E s f ok Q := by
 unfold F1.E
 refine loop_find s.length (fun j => f (nth s (j : Int))) hq (fun I mu k hk h1 h2 => ⟨OM, hok _ (nth_mem s hk), ?_⟩)
 cases h : f (nth s (k : Int)) with
 | true => rw [if_pos rfl]; exact h1 h
 | false => rw [if_neg RD]; obtain ⟨i1, i2⟩ := h2 h; exact ⟨by unfold I64; omega, i1, i2⟩
theorem F97.law (s : List Feat) (id : Str) (Q : Int → Prop) (hl : s.length ≤ 1048576) (hq : Q (findN s.length fun j => (nth s (j : Int)).Id == id)) : F97.E s id Q := by
 unfold F97.E
 refine ⟨fun x => x.Id == id, fun x => x ∈ s, fun x hx => ?_, F1.law _ _ _ _ hl (fun x hx => hx) hq⟩
 unfold F56.E
 rfl
theorem F36.law (f : Feat) (Q : Feat → Prop) (hb : bulk f ≤ 1048576) (hq : Q f) : F36.E f Q := by
 unfold F36.E F26.E
 have h := bulk_feat f
 have h1 := bulk_len f.Tags
 have h2 := bulk_len f.Shape.Pts
 exact ⟨by simp only [List.length_nil]; omega, by simp only [List.length_nil]; omega, hq⟩
theorem F129.law (s : List Feat) (id : Str) (Q : Feat → Bool → Prop) (hb : bulk s ≤ 1048576) (hq : Q (sideOf s id).1 (sideOf s id).2) : F129.E s id Q := by
 unfold F129.E
 have hl := bulk_len s
 refine F97.law _ _ _ OM ?_
 have h1 := findN_le s.length fun j => (nth s (j : Int)).Id == id
 unfold sideOf at hq
 by_cases h : findN s.length (fun j => (nth s (j : Int)).Id == id) < 0
 ·rw [if_pos h] at hq; rw [if_pos (by simpa using h)]; exact hq
 ·rw [if_neg h] at hq; rw [if_neg (by simpa using h)]
  exact ⟨OM, F36.law _ _ (by have := bulk_mem (nth_memi s OM h1.2); omega) hq⟩
theorem F75.law (s : List Feat) (id : Str) (Q : thing → Prop) (hb : bulk s ≤ 1048576) (hq : Q (thOf s id)) : F75.E s id Q := by
 unfold F75.E
 exact F129.law s id _ hb hq
theorem F20.law (a b : List Tag) (Q : Bool → Prop) (hb : a.length ≤ 1048576) (hq : Q (decide (a = b))) : F20.E a b Q := by
 unfold F20.E
 exact eqI_shape eqTag eqTag_is a b Q hb hq
theorem F28.law (a b : List Pt) (Q : Bool → Prop) (hb : a.length ≤ 1048576) (hq : Q (decide (a = b))) : F28.E a b Q := by
 unfold F28.E
 exact eqI_shape eqPt eqPt_is a b Q hb hq
theorem F38.law (a b : Shape) (Q : Bool → Prop) (hl : a.Pts.length ≤ 1048576) (hq : Q (decide (a = b))) : F38.E a b Q := by
 unfold F38.E
 by_cases h : a.Kind = b.Kind
 ·rw [if_pos (by rw [beq_iff_eq]; exact h)]
  refine F28.law _ _ _ OM ?_
  have : decide (a.Pts = b.Pts) = decide (a = b) := decide_eq_decide.2 (by rw [Shape.ext_iff']; exact ⟨fun e => ⟨h, e⟩, fun e => e.2⟩)
  rw [this]; exact hq
 ·rw [if_neg (by rw [beq_iff_eq]; exact h)]
  rw [decide_eq_false (by rw [Shape.ext_iff']; exact fun e => h e.1)] at hq; exact hq
theorem F55.law (a b : Feat) (Q : Bool → Prop) (hl : a.Shape.Pts.length ≤ 1048576 ∧ a.Tags.length ≤ 1048576) (hq : Q (decide (a = b))) : F55.E a b Q := by
 unfold F55.E
 by_cases h : a.Id = b.Id
 ·rw [if_pos (by rw [beq_iff_eq]; exact h)]
  refine F38.law _ _ _ OM ?_
  by_cases h2 : a.Shape = b.Shape
  ·rw [decide_eq_true h2, if_pos rfl]
   refine F20.law _ _ _ OM ?_
   have : decide (a.Tags = b.Tags) = decide (a = b) := decide_eq_decide.2 (by rw [Feat.ext_iff']; exact ⟨fun e => ⟨h, h2, e⟩, fun e => e.2.2⟩)
   rw [this]; exact hq
  ·rw [decide_eq_false h2, if_neg RD]
   rw [decide_eq_false (by rw [Feat.ext_iff']; exact fun e => h2 e.2.1)] at hq; exact hq
 ·rw [if_neg (by rw [beq_iff_eq]; exact h)]
  rw [decide_eq_false (by rw [Feat.ext_iff']; exact fun e => h e.1)] at hq; exact hq
theorem F40.law (a b : thing) (Q : Bool → Prop) (hb : a.f.Shape.Pts.length ≤ 1048576 ∧ a.f.Tags.length ≤ 1048576) (hq : Q (decide (a = b))) : F40.E a b Q := by
 unfold F40.E
 by_cases h : a.has = b.has
 ·rw [if_pos (by simpa using h)]
  refine F55.law _ _ _ hb ?_
  have e : decide (a.f = b.f) = decide (a = b) := decide_eq_decide.2 (by rw [thing.ext_iff']; exact ⟨fun g => ⟨h, g⟩, fun g => g.2⟩)
  rw [e]; exact hq
 ·rw [if_neg (by simpa using h)]
  rw [decide_eq_false fun e => h (by rw [e])] at hq; exact hq
theorem F9.law (o a b : thing) (ok : thing → thing → Prop) (Q : thing → Bool → Prop) (h1 : ok a o) (h2 : ok b o) (h3 : ok a b) (hq : Q (three o a b).1 (three o a b).2) : F9.E o a b (fun x y => decide (x = y)) ok Q := by
 unfold F9.E
 unfold three at hq
 refine ⟨h1, ?_⟩
 by_cases e1 : a = o
 ·rw [if_pos e1] at hq; rw [if_pos (decide_eq_true e1)]; exact hq
 ·rw [if_neg e1] at hq; rw [if_neg (by simpa using e1)]
  refine ⟨h2, ?_⟩
  by_cases e2 : b = o
  ·rw [if_pos e2] at hq; rw [if_pos (decide_eq_true e2)]; exact hq
  ·rw [if_neg e2] at hq; rw [if_neg (by simpa using e2)]
   refine ⟨h3, ?_⟩
   by_cases e3 : a = b
   ·rw [if_pos e3] at hq; rw [if_pos (decide_eq_true e3)]; exact hq
   ·rw [if_neg e3] at hq; rw [if_neg (by simpa using e3)]; exact hq
theorem F67.law (a b : List Pt) (Q : List (List Int) → Prop) (ha : a.length ≤ 1048576) (hb : b.length ≤ 1048576) (hq : ∀ t, Tab a b (fun _ _ => True) t → Q t) : F67.E a b Q := by
 unfold F67.E
 have hn : ((b.length : Int) + 1).toNat = b.length + 1 := by omega
 have hm : ((a.length : Int) + 1).toNat = a.length + 1 := by omega
 rw [hn, hm]
 refine ⟨fun _ => by unfold I64; omega, OM, fun xs v => ∃ k : Nat, v = k ∧ k ≤ a.length + 1 ∧ xs.length = a.length + 1 ∧ ∀ r : Nat, r < k → nth xs (r : Int) = List.replicate (b.length + 1) 0, fun _ v => (a.length + 1 - v).toNat,
  ⟨0, rfl, Nat.zero_le _, by simp, fun r hr => absurd hr (Nat.not_lt_zero _)⟩, ?_⟩
 rintro xs _ ⟨k, rfl, hk, hl, hx⟩
 rw [List.length_replicate]
 by_cases hk0 : (k : Int) < ((a.length + 1 : Nat) : Int)
 ·rw [if_pos (by simpa using hk0)]
  refine ⟨fun _ => by unfold I64; omega, OM, OM, fun _ => by unfold I64; omega, ⟨k + 1, OM, OM, by rw [List.length_set]; exact hl, fun r hr => ?_⟩, by dsimp only; omega⟩
  rw [Int.toNat_natCast, nth_set _ OM]
  by_cases e : r = k
  ·rw [if_pos e]
  ·rw [if_neg e]; exact hx r OM
 rw [if_neg (by simpa using hk0)]
 refine ⟨fun _ => by unfold I64; omega, fun xs i => ∃ k : Nat, i = (k : Int) - 1 ∧ k ≤ a.length ∧ Tab a b (fun r m => k ≤ r ∨ m = b.length) xs, fun _ i => (i + 1).toNat, ⟨a.length, rfl, Nat.le_refl _, hl, fun r hr => ?_⟩, ?_⟩
 ·rw [hx r OM]
  refine ⟨by simp, fun m hm hd => ?_⟩
  rw [nth_rep _ _ _ OM]
  rcases hd with hd | hd
  ·rw [List.drop_of_length_le (by omega : a.length ≤ r), lcs_nil]; rfl
  ·rw [hd, List.drop_length, lcs_nil2]; rfl
 clear hx hl hk0 hk xs k
 rintro xs _ ⟨k, rfl, hk, ht⟩
 by_cases hk0 : (k : Int) - 1 ≥ 0
 ·rw [if_pos (by simpa using hk0)]
  obtain ⟨i, rfl⟩ : ∃ i, k = i + 1 := ⟨k - 1, OM⟩
  have ei : ((i + 1 : Nat) : Int) - 1 = (i : Int) := by omega
  have ei1 : (i : Int) + 1 = ((i + 1 : Nat) : Int) := by omega
  rw [ei]
  refine ⟨fun _ => by unfold I64; omega, fun ys j => ∃ m : Nat, j = (m : Int) - 1 ∧ m ≤ b.length ∧ Tab a b (fun r u => i < r ∨ (r = i ∧ m ≤ u) ∨ u = b.length) ys, fun _ j => (j + 1).toNat, ⟨b.length, rfl, Nat.le_refl _, ht.1, fun r hr => ⟨(ht.2 r hr).1, fun m hm hd => (ht.2 r hr).2 m hm ?_⟩⟩, ?_⟩
  ·omega
  rintro ys _ ⟨m, rfl, hm, hs⟩
  by_cases hm0 : (m : Int) - 1 ≥ 0
  ·rw [if_pos (by simpa using hm0)]
   obtain ⟨j, rfl⟩ : ∃ j, m = j + 1 := ⟨m - 1, OM⟩
   have ej : ((j + 1 : Nat) : Int) - 1 = (j : Int) := by omega
   have ej1 : (j : Int) + 1 = ((j + 1 : Nat) : Int) := by omega
   rw [ej, ej1, ei1, eqPt_is]
   have hl := lcs_drop a b (i := i) (j := j) OM OM
   have s0 := hs.1
   have s1 := hs.2 i OM
   have s2 := hs.2 (i + 1) OM
   have n1 := s2.2 (j + 1) OM (.inl OM)
   have n2 := s2.2 j OM (.inl OM)
   have n3 := s1.2 (j + 1) OM (.inr (.inl ⟨rfl, OM⟩))
   have l1 := s1.1
   have l2 := s2.1
   have b1 := lcs_le2 (a.drop (i + 1)) (b.drop (j + 1))
   rw [List.length_drop] at b1
   have hset : ∀ v : Int, v = (lcs (a.drop i) (b.drop j) : Nat) → Tab a b (fun r u => i < r ∨ (r = i ∧ j ≤ u) ∨ u = b.length) (ys.set (i : Int).toNat ((nth ys (i : Int)).set (j : Int).toNat v)) := fun v hv => by
    rw [Int.toNat_natCast, Int.toNat_natCast]
    exact hs.set OM OM hv fun r u h => by omega
   refine ⟨OM, OM, ?_⟩
   by_cases he : nth a (i : Int) = nth b (j : Int)
   ·rw [if_pos (by simpa using he)]
    rw [if_pos he] at hl
    rw [n1]
    exact ⟨OM, by unfold I64; omega, OM, by unfold I64; omega, OM, by unfold I64; omega, OM, by unfold I64; omega, ⟨j, OM, OM, hset _ OM⟩, by dsimp only; omega⟩
   ·rw [if_neg (by simpa using he)]
    rw [if_neg he] at hl
    rw [n2, n3]
    exact ⟨OM, by unfold I64; omega, OM, OM, OM, by unfold I64; omega, OM, OM, by unfold I64; omega, ⟨j, OM, OM, hset _ OM⟩, by dsimp only; omega⟩
  ·rw [if_neg (by simpa using hm0)]
   have : m = 0 := by omega
   subst this
   refine ⟨by unfold I64; omega, ⟨i, OM, OM, hs.1, fun r hr => ⟨(hs.2 r hr).1, fun m hm hd => (hs.2 r hr).2 m hm ?_⟩⟩, by dsimp only; omega⟩
   omega
 ·rw [if_neg (by simpa using hk0)]
  have : k = 0 := by omega
  subst this
  exact hq _ ⟨ht.1, fun r hr => ⟨(ht.2 r hr).1, fun m hm _ => (ht.2 r hr).2 m hm (.inl (Nat.zero_le _))⟩⟩
theorem F50.law (a b : List Pt) (Q : List Pair → Prop) (hq : Q (spairs a b)) : F50.E a b Q := by
 unfold F50.E
 unfold spairs at hq
 by_cases h1 : (a.length : Int) > 12
 ·rw [if_pos (by simpa using h1)]
  rw [if_neg (by rw [few_iff]; omega)] at hq; exact hq
 rw [if_neg (by simpa using h1)]
 by_cases h2 : (b.length : Int) > 12
 ·rw [if_pos (by simpa using h2)]
  rw [if_neg (by rw [few_iff]; omega)] at hq; exact hq
 rw [if_neg (by simpa using h2)]
 rw [if_pos (by rw [few_iff]; omega)] at hq
 refine F67.law _ _ _ OM OM fun t ht => ?_
 refine ⟨fun xs i j => ∃ u v : Nat, i = u ∧ j = v ∧ u ≤ a.length ∧ v ≤ b.length ∧ xs ++ (pairs u v (a.drop u) (b.drop v)).map mkP = (pairs 0 0 a b).map mkP, fun _ i j => ((a.length - i) + (b.length - j)).toNat, ⟨0, 0, rfl, rfl, Nat.zero_le _, Nat.zero_le _, rfl⟩, ?_⟩
 rintro xs _ _ ⟨u, v, rfl, rfl, hu, hv, hx⟩
 by_cases hu0 : (u : Int) < (a.length : Int)
 ·rw [if_pos (by simpa using hu0)]
  by_cases hv0 : (v : Int) < (b.length : Int)
  ·rw [if_pos (by simpa using hv0)]
   have hu1 : u < a.length := by omega
   have hv1 : v < b.length := by omega
   rw [pairs_drop a b hu1 hv1] at hx
   have eu : (u : Int) + 1 = ((u + 1 : Nat) : Int) := by omega
   have ev : (v : Int) + 1 = ((v + 1 : Nat) : Int) := by omega
   rw [eqPt_is, eu, ev]
   refine ⟨OM, OM, ?_⟩
   by_cases he : nth a (u : Int) = nth b (v : Int)
   ·rw [if_pos (by simpa using he)]
    rw [if_pos he, List.map_cons] at hx
    have hl := congrArg List.length hx
    rw [List.length_map, pairs_len, List.length_append] at hl
    have := lcs_le1 a b
    exact ⟨by simp only [List.length_singleton]; omega, OM, OM, ⟨u + 1, v + 1, rfl, rfl, OM, OM, by rw [List.append_assoc]; exact hx⟩, by dsimp only; omega⟩
   ·rw [if_neg (by simpa using he)]
    rw [if_neg he] at hx
    have t0 := ht.1
    have t1 := ht.2 u OM
    have t2 := ht.2 (u + 1) OM
    have n1 := t2.2 v OM trivial
    have n2 := t1.2 (v + 1) OM trivial
    have l1 := t1.1
    have l2 := t2.1
    refine ⟨OM, OM, OM, OM, OM, OM, ?_⟩
    rw [n1, n2]
    by_cases hc : lcs (a.drop u) (b.drop (v + 1)) ≤ lcs (a.drop (u + 1)) (b.drop v)
    ·rw [if_pos (by simpa using hc)]
     rw [if_pos hc] at hx
     exact ⟨OM, ⟨u + 1, v, rfl, rfl, OM, OM, hx⟩, by dsimp only; omega⟩
    ·rw [if_neg (by simpa using hc)]
     rw [if_neg hc] at hx
     exact ⟨OM, ⟨u, v + 1, rfl, rfl, OM, OM, hx⟩, by dsimp only; omega⟩
  ·rw [if_neg (by simpa using hv0)]
   rw [List.drop_of_length_le (by omega : b.length ≤ v), pairs_nil2, List.map_nil, List.append_nil] at hx
   rw [hx]; exact hq
 ·rw [if_neg (by simpa using hu0)]
  rw [List.drop_of_length_le (by omega : a.length ≤ u), pairs_nil, List.map_nil, List.append_nil] at hx
  rw [hx]; exact hq
theorem F68.law (l : List Pair) (k : Int) (Q : Int → Prop) (hl : l.length ≤ 1048576) (hq : Q (mateI l k)) : F68.E l k Q := by
 unfold F68.E
 refine ⟨fun i => ∃ u : Nat, i = u ∧ u ≤ l.length ∧ mateI (l.drop u) k = mateI l k, fun i => (l.length - i).toNat, ⟨0, rfl, Nat.zero_le _, rfl⟩, ?_⟩
 rintro _ ⟨u, rfl, hu, he⟩
 by_cases h : (u : Int) < (l.length : Int)
 ·rw [if_pos (by simpa using h)]
  rw [drop_nth l OM, mateI_cons] at he
  refine ⟨OM, ?_⟩
  by_cases hc : ((nth l (u : Int)).A == k) = true
  ·rw [if_pos hc] at he ⊢
   rw [he]; exact hq
  ·rw [if_neg hc] at he ⊢
   exact ⟨by unfold I64; omega, ⟨u + 1, OM, OM, he⟩, by dsimp only; omega⟩
 ·rw [if_neg (by simpa using h)]
  rw [List.drop_of_length_le (by omega : l.length ≤ u), mateI_nil] at he
  rw [he]; exact hq
theorem F51.law (o a b : List Pt) (Q : List Pt → Bool → Prop) (hs : ∀ r, smerge o a b = some r → Q r true) (hn : smerge o a b = none → Q [] false) : F51.E o a b Q := by
 unfold F51.E
 by_cases c1 : (o.length : Int) > 12
 ·rw [if_pos (by simpa using c1)]
  exact hn (smerge_not (.inl (few_not.2 OM)))
 rw [if_neg (by simpa using c1)]
 by_cases c2 : (a.length : Int) > 12
 ·rw [if_pos (by simpa using c2)]
  exact hn (smerge_not (.inl (few_not.2 OM)))
 rw [if_neg (by simpa using c2)]
 by_cases c3 : (b.length : Int) > 12
 ·rw [if_pos (by simpa using c3)]
  exact hn (smerge_not (.inr (few_not.2 OM)))
 rw [if_neg (by simpa using c3)]
 have h1 : few o a = true := few_iff.2 OM
 have h2 : few o b = true := few_iff.2 OM
 refine F50.law _ _ _ (F50.law _ _ _ ?_)
 have lo := spairs_len o a; have lo2 := spairs_len o b
 have so := slen_le o a; have so2 := slen_le o b
 refine ⟨fun xs i j k t => (∃ i' j' k' t' : Nat, i = i' ∧ j = j' ∧ k = k' ∧ t = t' ∧ MInv o a b xs i' j' k' t') ∨ (t = (o.length : Int) + 1 ∧ smerge o a b = some xs), fun _ _ _ _ t => (o.length + 1 - t).toNat, .inl ⟨0, 0, 0, 0, rfl, rfl, rfl, rfl, MInv.zero h1 h2⟩, ?_⟩
 rintro xs _ _ _ _ (⟨i, j, k, t, rfl, rfl, rfl, rfl, h⟩ | ⟨rfl, h⟩)
 ·have ht := h.ht; have hi := h.hi; have hj := h.hj; have hk := h.hk; have hl := h.len
  rw [if_pos (by simp; omega)]
  simp only [Int.toNat_natCast]
  by_cases ht0 : (t : Int) < (o.length : Int)
  ·rw [if_pos (by simpa using ht0)]
   refine F68.law _ _ _ OM (F68.law _ _ _ OM ?_)
   rw [mate_part h1, mate_part h2]
   cases hx : part o a t with
   | none =>
    rw [if_pos RD]
    exact ⟨OM, .inl ⟨i, j, k, t + 1, rfl, rfl, rfl, rfl, h.skip OM (.inl hx)⟩, OM⟩
   | some x =>
    rw [if_neg (by simp)]
    cases hy : part o b t with
    | none =>
     rw [if_pos RD]
     exact ⟨OM, .inl ⟨i, j, k, t + 1, rfl, rfl, rfl, rfl, h.skip OM (.inr hy)⟩, OM⟩
    | some y =>
     rw [if_neg (by simp)]
     dsimp only
     obtain ⟨g1, g2, g3, g4⟩ := h.from hx hy
     refine ⟨OM, OM, OM, ?_⟩
     simp only [Int.toNat_natCast]
     have s1 := seg_len o i t OM; have s2 := seg_len a j x OM; have s3 := seg_len b k y OM
     have hs1 : ∀ p, pickL (seg o i t) (seg a j x) (seg b k y) = some p → p.length ≤ (x - j) + (y - k) ∧ MInv o a b (xs ++ p ++ [nth o (t : Int)]) (t + 1) (x + 1) (y + 1) (t + 1) := fun p hp =>
      ⟨by have := (pickL_mem hp).2.2.2; omega, h.step OM hx hy hp⟩
     have hn1 : pickL (seg o i t) (seg a j x) (seg b k y) = none → smerge o a b = none := h.stop OM hx hy
     change F28.E (seg a j x) (seg o i t) _
     simp only [← seg.eq_1]
     generalize seg o i t = so at *
     generalize seg a j x = sa at *
     generalize seg b k y = sb at *
     refine F28.law _ _ _ OM ⟨fun ys => ∃ p, p.length ≤ (x - j) + (y - k) ∧ MInv o a b (xs ++ p ++ [nth o (t : Int)]) (t + 1) (x + 1) (y + 1) (t + 1) ∧ ys = xs ++ p, ?_, ?_⟩
     ·by_cases q1 : sa = so
      ·rw [if_pos (by simpa using q1)]
       obtain ⟨hm, hi⟩ := hs1 sb (by unfold pickL; rw [if_pos q1])
       exact ⟨OM, sb, hm, hi, rfl⟩
      rw [if_neg (by simpa using q1)]
      refine F28.law _ _ _ OM ?_
      by_cases q2 : sb = so
      ·rw [if_pos (by simpa using q2)]
       obtain ⟨hm, hi⟩ := hs1 sa (by unfold pickL; rw [if_neg q1, if_pos q2])
       exact ⟨OM, sa, hm, hi, rfl⟩
      rw [if_neg (by simpa using q2)]
      refine F28.law _ _ _ OM ?_
      by_cases q3 : sa = sb
      ·rw [if_pos (by simpa using q3)]
       obtain ⟨hm, hi⟩ := hs1 sa (by unfold pickL; rw [if_neg q1, if_neg q2, if_pos q3])
       exact ⟨OM, sa, hm, hi, rfl⟩
      rw [if_neg (by simpa using q3)]
      exact hn (hn1 (by unfold pickL; rw [if_neg q1, if_neg q2, if_neg q3]))
     ·rintro _ ⟨p, hm, hi, rfl⟩
      exact ⟨OM, by simp only [List.length_append, List.length_singleton]; omega, OM, fun _ => by unfold I64; omega, fun _ => by unfold I64; omega, OM, .inl ⟨t + 1, x + 1, y + 1, t + 1, rfl, rfl, rfl, rfl, hi⟩, OM⟩
  ·rw [if_neg (by simpa using ht0)]
   have : t = o.length := by omega
   subst this
   refine ⟨OM, OM, OM, ?_⟩
   have hlast := h.last
   have e1 : (o.drop i).take (o.length - i) = o.drop i := seg_end o i
   have e2 : (a.drop j).take (a.length - j) = a.drop j := seg_end a j
   have e3 : (b.drop k).take (b.length - k) = b.drop k := seg_end b k
   rw [e1, e2, e3]
   have s2 : (a.drop j).length = a.length - j := List.length_drop; have s3 : (b.drop k).length = b.length - k := List.length_drop
   have hs1 : ∀ p, pickL (o.drop i) (a.drop j) (b.drop k) = some p → p.length ≤ (a.length - j) + (b.length - k) ∧ smerge o a b = some (xs ++ p) := fun p hp =>
    ⟨by have := (pickL_mem hp).2.2.2; omega, by rw [hp, Option.map_some] at hlast; exact hlast.symm⟩
   have hn1 : pickL (o.drop i) (a.drop j) (b.drop k) = none → smerge o a b = none := fun hp => by rw [hp] at hlast; exact hlast.symm
   generalize o.drop i = so at *
   generalize a.drop j = sa at *
   generalize b.drop k = sb at *
   refine F28.law _ _ _ OM ⟨fun ys => smerge o a b = some ys, ?_, ?_⟩
   ·by_cases q1 : sa = so
    ·rw [if_pos (by simpa using q1)]
     obtain ⟨hm, hi⟩ := hs1 sb (by unfold pickL; rw [if_pos q1])
     exact ⟨OM, hi⟩
    rw [if_neg (by simpa using q1)]
    refine F28.law _ _ _ OM ?_
    by_cases q2 : sb = so
    ·rw [if_pos (by simpa using q2)]
     obtain ⟨hm, hi⟩ := hs1 sa (by unfold pickL; rw [if_neg q1, if_pos q2])
     exact ⟨OM, hi⟩
    rw [if_neg (by simpa using q2)]
    refine F28.law _ _ _ OM ?_
    by_cases q3 : sa = sb
    ·rw [if_pos (by simpa using q3)]
     obtain ⟨hm, hi⟩ := hs1 sa (by unfold pickL; rw [if_neg q1, if_neg q2, if_pos q3])
     exact ⟨OM, hi⟩
    rw [if_neg (by simpa using q3)]
    exact hn (hn1 (by unfold pickL; rw [if_neg q1, if_neg q2, if_neg q3]))
   ·intro ys hi
    exact ⟨fun _ => by unfold I64; omega, fun _ => by unfold I64; omega, fun _ => by unfold I64; omega, fun _ => by unfold I64; omega, .inr ⟨rfl, hi⟩, OM⟩
 ·rw [if_neg (by simp; omega)]
  exact hs _ h
theorem F6.law (o a b : Shape) (ok : Shape → Shape → Prop) (Q : Shape → Bool → Prop) (h1 : ok a o) (h2 : ok b o) (h3 : ok a b) (hq : Q (three o a b).1 (three o a b).2) : F6.E o a b (fun x y => decide (x = y)) ok Q := by
 unfold F6.E
 unfold three at hq
 refine ⟨h1, ?_⟩
 by_cases e1 : a = o
 ·rw [if_pos e1] at hq; rw [if_pos (decide_eq_true e1)]; exact hq
 ·rw [if_neg e1] at hq; rw [if_neg (by simpa using e1)]
  refine ⟨h2, ?_⟩
  by_cases e2 : b = o
  ·rw [if_pos e2] at hq; rw [if_pos (decide_eq_true e2)]; exact hq
  ·rw [if_neg e2] at hq; rw [if_neg (by simpa using e2)]
   refine ⟨h3, ?_⟩
   by_cases e3 : a = b
   ·rw [if_pos e3] at hq; rw [if_pos (decide_eq_true e3)]; exact hq
   ·rw [if_neg e3] at hq; rw [if_neg (by simpa using e3)]; exact hq
theorem F8.law (o a b : value) (ok : value → value → Prop) (Q : value → Bool → Prop) (h1 : ok a o) (h2 : ok b o) (h3 : ok a b) (hq : Q (three o a b).1 (three o a b).2) : F8.E o a b (fun x y => decide (x = y)) ok Q := by
 unfold F8.E
 unfold three at hq
 refine ⟨h1, ?_⟩
 by_cases e1 : a = o
 ·rw [if_pos e1] at hq; rw [if_pos (decide_eq_true e1)]; exact hq
 ·rw [if_neg e1] at hq; rw [if_neg (by simpa using e1)]
  refine ⟨h2, ?_⟩
  by_cases e2 : b = o
  ·rw [if_pos e2] at hq; rw [if_pos (decide_eq_true e2)]; exact hq
  ·rw [if_neg e2] at hq; rw [if_neg (by simpa using e2)]
   refine ⟨h3, ?_⟩
   by_cases e3 : a = b
   ·rw [if_pos e3] at hq; rw [if_pos (decide_eq_true e3)]; exact hq
   ·rw [if_neg e3] at hq; rw [if_neg (by simpa using e3)]; exact hq
theorem F3.law (s : List Tag) (f : Tag → Bool) (ok : Tag → Prop) (Q : Int → Prop) (hl : s.length ≤ 1048576) (hok : ∀ x ∈ s, ok x) (hq : Q (findN s.length fun j => f (nth s (j : Int)))) : F3.E s f ok Q := by
 unfold F3.E
 refine loop_find s.length (fun j => f (nth s (j : Int))) hq (fun I mu k hk h1 h2 => ⟨OM, hok _ (nth_mem s hk), ?_⟩)
 cases h : f (nth s (k : Int)) with
 | true => rw [if_pos rfl]; exact h1 h
 | false => rw [if_neg RD]; obtain ⟨i1, i2⟩ := h2 h; exact ⟨by unfold I64; omega, i1, i2⟩
theorem F69.law (f : Feat) (key : Str) (Q : value → Prop) (hl : f.Tags.length ≤ 1048576) (hq : Q (valT f.Tags key)) : F69.E f key Q := by
 unfold F69.E F49.E
 have h1 := findN_le f.Tags.length fun j => (nth f.Tags (j : Int)).Key == key
 refine ⟨fun x => x.Key == key, fun x => x ∈ f.Tags, fun x hx => ?_, F3.law _ _ _ _ hl (fun x hx => hx) ?_⟩
 ·unfold F27.E; rfl
 ·unfold valT at hq
  by_cases h : findN f.Tags.length (fun j => (nth f.Tags (j : Int)).Key == key) < 0
  ·rw [if_pos h] at hq; rw [if_pos (by simpa using h)]; exact hq
  ·rw [if_neg h] at hq; rw [if_neg (by simpa using h)]; exact ⟨OM, hq⟩
theorem F16.law (l : List (List Tag)) (Q : List Tag → Prop) (h1 : l.length ≤ 1000) (h2 : l.flatten.length ≤ 1000000) (hq : Q l.flatten) : F16.E l Q := by
 have htk : ∀ u, (l.take u).flatten.length ≤ l.flatten.length := fun u => by
  have : l.flatten = (l.take u).flatten ++ (l.drop u).flatten := by rw [← List.flatten_append, List.take_append_drop]
  rw [this, List.length_append]; omega
 have hsn : ∀ u, u < l.length → (l.take (u + 1)).flatten = (l.take u).flatten ++ nth l (u : Int) := fun u hu => by rw [take_nth l hu, List.flatten_append]; simp
 unfold F16.E
 refine ⟨fun size i => ∃ u : Nat, i = u ∧ u ≤ l.length ∧ size = ((l.take u).flatten.length : Int), fun _ i => (l.length - i).toNat, ⟨0, rfl, Nat.zero_le _, by simp⟩, ?_⟩
 rintro _ _ ⟨u, rfl, hu, rfl⟩
 by_cases h : u < l.length
 ·rw [if_pos (by simpa using h)]
  have e := hsn u h
  have ht := htk (u + 1)
  rw [e, List.length_append] at ht
  refine ⟨OM, fun _ => by unfold I64; omega, ?_⟩
  rw [if_neg (by rw [decide_eq_true_eq]; omega)]
  exact ⟨fun _ => by unfold I64; omega, ⟨u + 1, OM, OM, by rw [e, List.length_append]; omega⟩, by dsimp only; omega⟩
 ·rw [if_neg (by simpa using h)]
  have : u = l.length := by omega
  subst this
  rw [List.take_length]
  have rest : ∃ (I82 : (List Tag) → Int → Prop) (mu83 : (List Tag) → Int → Nat), I82 [] 0 ∧ ∀ (xs2 : List Tag) (v4 : Int), I82 xs2 v4 → (if decide (v4 < (l.length : Int)) then ((0 : Int) ≤ v4 ∧ v4 < (l.length : Int)) ∧ (xs2.length + (nth l v4).length ≤ 268435456) ∧ (I64 (v4 + 1)) ∧ I82 (xs2 ++ (nth l v4)) (v4 + 1) ∧ mu83 (xs2 ++ (nth l v4)) (v4 + 1) < mu83 xs2 v4 else Q xs2) := by
   refine ⟨fun xs i => ∃ u : Nat, i = u ∧ u ≤ l.length ∧ xs = (l.take u).flatten, fun _ i => (l.length - i).toNat, ⟨0, rfl, Nat.zero_le _, by simp⟩, ?_⟩
   rintro _ _ ⟨u, rfl, hu, rfl⟩
   by_cases g : u < l.length
   ·rw [if_pos (by simpa using g)]
    have e := hsn u g
    have ht := htk (u + 1)
    rw [e, List.length_append] at ht
    exact ⟨OM, OM, by unfold I64; omega, ⟨u + 1, OM, OM, by rw [e]⟩, by dsimp only; omega⟩
   ·rw [if_neg (by simpa using g)]
    have : u = l.length := by omega
    subst this
    rw [List.take_length]; exact hq
  unfold F29.E
  rw [if_neg (by rw [decide_eq_true_eq]; omega)]
  refine ⟨by unfold I64; omega, by unfold I64; omega, ?_⟩
  by_cases hz : (l.flatten.length : Int) - (0 - 0) > 0
  ·rw [if_pos (by rw [decide_eq_true_eq]; exact hz)]
   exact ⟨OM, OM, rest⟩
  ·rw [if_neg (by rw [decide_eq_true_eq]; exact hz)]
   exact rest
theorem F52.law (o a b : Feat) (Q : Feat → List Str → Prop) (h1 : bulk o ≤ 1048576) (h2 : bulk a ≤ 1048576) (h3 : bulk b ≤ 1048576) (hq : Q (featJoin o a b).1 (featJoin o a b).2) : F52.E o a b Q := by
 unfold F52.E
 unfold featJoin at hq
 have zq : (featOk o && featOk a && featOk b && decide (o.Id = a.Id) && decide (o.Id = b.Id)) = false → Q ⟨[], ⟨0, []⟩, []⟩ [] := fun h => by rw [h, if_neg RD] at hq; exact hq
 refine F90.law _ _ h1 ?_
 cases ko : featOk o with
 | false => rw [if_pos RD]; exact zq (by rw [ko]; rfl)
 | true =>
 rw [if_neg RD]
 refine F90.law _ _ h2 ?_
 cases ka : featOk a with
 | false => rw [if_pos RD]; exact zq (by rw [ko, ka]; rfl)
 | true =>
 rw [if_neg RD]
 refine F90.law _ _ h3 ?_
 cases kb : featOk b with
 | false => rw [if_pos RD]; exact zq (by rw [ko, ka, kb]; rfl)
 | true =>
 rw [if_neg RD]
 by_cases e1 : o.Id = a.Id
 case neg => rw [if_pos (by rw [bne_iff_ne]; exact e1)]; exact zq (by rw [decide_eq_false e1]; simp)
 rw [if_neg (by rw [e1]; simp)]
 by_cases e2 : o.Id = b.Id
 case neg => rw [if_pos (by rw [bne_iff_ne]; exact e2)]; exact zq (by rw [decide_eq_false e2]; simp)
 rw [if_neg (by rw [e2]; simp)]
 rw [ko, ka, kb, decide_eq_true e1, decide_eq_true e2, if_pos RD] at hq
 clear zq
 have fo := feat_facts ko; have fa := feat_facts ka; have fb := feat_facts kb
 have so := fo.2.2.1; have sa := fa.2.2.1; have sb := fb.2.2.1
 refine ⟨fun x y => decide (x = y), fun x _ => x.Pts.length ≤ 1048576, fun x y hx => F38.law _ _ _ hx rfl, F6.law _ _ _ _ _ (by (try dsimp only); omega) (by (try dsimp only); omega) (by (try dsimp only); omega) ?_⟩
 refine ⟨fun xs z z2 => xs = (if (shapeF o.Shape a.Shape b.Shape).2 then [] else [shapeS]) ∧ (⟨z, z2⟩ : Shape) = (shapeF o.Shape a.Shape b.Shape).1, ?_, ?_⟩
 ·have hs : ([([115, 104, 97, 112, 101] : Str)] : List Str) = [shapeS] := rfl
  cases c0 : (three o.Shape a.Shape b.Shape).2 with
  | true =>
   rw [if_neg RD]
   have e : shapeF o.Shape a.Shape b.Shape = three o.Shape a.Shape b.Shape := by unfold shapeF; rw [if_pos c0]
   rw [e, c0]; exact ⟨rfl, rfl⟩
  | false =>
   rw [if_pos RD]
   have et : (three o.Shape a.Shape b.Shape).1 = a.Shape := by
    unfold three at c0 ⊢
    split
    ·rename_i h; rw [if_pos h] at c0; cases c0
    ·rename_i h
     rw [if_neg h] at c0
     split
     ·rename_i g; rw [if_pos g] at c0; try cases c0
     ·rename_i g
      rw [if_neg g] at c0
      split <;> rfl
   have bad : (shapeF o.Shape a.Shape b.Shape) = (a.Shape, false) → (if (!false) = true then (([] : List Str).length + ([([115, 104, 97, 112, 101] : Str)] : List Str).length ≤ 268435456) ∧ (([] : List Str) ++ ([([115, 104, 97, 112, 101] : Str)] : List Str) = (if (shapeF o.Shape a.Shape b.Shape).2 then [] else [shapeS]) ∧ (⟨(three o.Shape a.Shape b.Shape).1.Kind, (three o.Shape a.Shape b.Shape).1.Pts⟩ : Shape) = (shapeF o.Shape a.Shape b.Shape).1) else ([] : List Str) = (if (shapeF o.Shape a.Shape b.Shape).2 then [] else [shapeS]) ∧ (⟨(three o.Shape a.Shape b.Shape).1.Kind, (three o.Shape a.Shape b.Shape).1.Pts⟩ : Shape) = (shapeF o.Shape a.Shape b.Shape).1) := fun e => by
    rw [if_pos RD, e, et]; exact ⟨by decide, rfl, rfl⟩
   by_cases k1 : o.Shape.Kind = a.Shape.Kind
   case neg => rw [if_neg (by simpa using k1)]; exact bad (by unfold shapeF; rw [if_neg (by rw [c0]; decide), if_neg fun h => k1 h.1.symm])
   rw [if_pos (by simpa using k1)]
   have bad2 : shapeF o.Shape a.Shape b.Shape = (a.Shape, false) → ((⟨(three o.Shape a.Shape b.Shape).1.Kind, (three o.Shape a.Shape b.Shape).1.Pts⟩ : Shape) = (shapeF o.Shape a.Shape b.Shape).1 ∧ false = (shapeF o.Shape a.Shape b.Shape).2) := fun e => by rw [e, et]; exact ⟨rfl, rfl⟩
   refine ⟨fun fine z z2 => (⟨z, z2⟩ : Shape) = (shapeF o.Shape a.Shape b.Shape).1 ∧ fine = (shapeF o.Shape a.Shape b.Shape).2, ?_, ?_⟩
   ·by_cases k2 : o.Shape.Kind = b.Shape.Kind
    case neg => rw [if_neg (by simpa using k2)]; exact bad2 (by unfold shapeF; rw [if_neg (by rw [c0]; decide), if_neg fun h => k2 h.2.symm])
    rw [if_pos (by simpa using k2)]
    have hsh : shapeF o.Shape a.Shape b.Shape = match smerge o.Shape.Pts a.Shape.Pts b.Shape.Pts with
     | some p => if shapeOk ⟨a.Shape.Kind, p⟩ then (⟨a.Shape.Kind, p⟩, true) else (a.Shape, false)
     | none => (a.Shape, false) := by unfold shapeF; rw [if_neg (by rw [c0]; decide), if_pos ⟨k1.symm, k2.symm⟩]; try (cases smerge o.Shape.Pts a.Shape.Pts b.Shape.Pts <;> rfl)
    refine F51.law _ _ _ _ (fun r hr => ?_) (fun hr => ?_)
    ·rw [if_pos rfl]
     have hrl := smerge_len hr
     rw [hr] at hsh
     refine F65.law _ _ (by dsimp only; omega) ?_
     cases k3 : shapeOk ⟨a.Shape.Kind, r⟩ with
     | true =>
      rw [if_pos rfl]
      dsimp only at hsh
      rw [if_pos k3] at hsh
      rw [hsh]; exact ⟨rfl, rfl⟩
     | false =>
      rw [if_neg RD]
      dsimp only at hsh
      rw [if_neg (by rw [k3]; decide)] at hsh
      exact bad2 hsh
    ·rw [if_neg RD]
     rw [hr] at hsh
     exact bad2 hsh
   ·rintro _ z z2 ⟨hz, rfl⟩
    dsimp only
    rw [hz]
    cases (shapeF o.Shape a.Shape b.Shape).2 with
    | true => rw [if_neg RD]; exact ⟨rfl, rfl⟩
    | false => rw [if_pos RD]; exact ⟨by decide, rfl, rfl⟩
 rintro _ z z2 ⟨rfl, hz⟩
 rw [hz]
 unfold F26.E
 have hpts := shapeF_pts (o := o.Shape) sa sb
 refine ⟨by simp only [List.length_nil]; omega, ?_⟩
 rw [List.nil_append]
 have hfl : ([o.Tags, a.Tags, b.Tags] : List (List Tag)).flatten = o.Tags ++ a.Tags ++ b.Tags := by simp
 have hln : (o.Tags ++ a.Tags ++ b.Tags).length ≤ 12 := by simp only [List.length_append]; omega
 refine F16.law _ _ (by simp) (by rw [hfl]; omega) ?_
 rw [hfl]
 refine ⟨fun xs i => ∃ u : Nat, i = u ∧ u ≤ (o.Tags ++ a.Tags ++ b.Tags).length ∧ xs = keysT ((o.Tags ++ a.Tags ++ b.Tags).take u), fun _ i => ((o.Tags ++ a.Tags ++ b.Tags).length - i).toNat, ⟨0, rfl, Nat.zero_le _, rfl⟩, ?_⟩
 rintro _ _ ⟨u, rfl, hu, rfl⟩
 by_cases h : u < (o.Tags ++ a.Tags ++ b.Tags).length
 ·rw [if_pos (decide_eq_true OM)]
  have hil : (keysT ((o.Tags ++ a.Tags ++ b.Tags).take u)).length ≤ u := by unfold keysT; simp; omega
  refine ⟨OM, by simp only [List.length_cons, List.length_nil]; omega, by unfold I64; omega, ⟨u + 1, OM, OM, ?_⟩, by dsimp only; omega⟩
  rw [take_nth _ h, keys_app]; rfl
 rw [if_neg (by rw [decide_eq_true_eq]; omega)]
 have : u = (o.Tags ++ a.Tags ++ b.Tags).length := by omega
 subst this
 clear h hu
 rw [List.take_length]
 unfold F7.E F0.E
 have hkl : (keysT (o.Tags ++ a.Tags ++ b.Tags)).length ≤ 12 := by unfold keysT; rw [List.length_map]; exact hln
 refine ⟨OM, by unfold sortS; rw [List.length_mergeSort]; omega, ?_⟩
 obtain ⟨ks1, ks2⟩ := allKeys_small ko ka kb
 have ek : Lib.compact (sortS (keysT (o.Tags ++ a.Tags ++ b.Tags))) = allKeys o a b := rfl
 rw [ek]
 refine ⟨fun xs i ts => ∃ u : Nat, i = u ∧ u ≤ (allKeys o a b).length ∧ xs = (if (shapeF o.Shape a.Shape b.Shape).2 then [] else [shapeS]) ++ clashL o.Tags a.Tags b.Tags ((allKeys o a b).take u) ∧ ts = tagsL o.Tags a.Tags b.Tags ((allKeys o a b).take u), fun _ i _ => ((allKeys o a b).length - i).toNat, ⟨0, rfl, Nat.zero_le _, by simp [clashL], by simp [tagsL]⟩, ?_⟩
 rintro _ _ _ ⟨u, rfl, hu, rfl, rfl⟩
 have hpre : (if (shapeF o.Shape a.Shape b.Shape).2 then ([] : List Str) else [shapeS]).length ≤ 1 := by split <;> decide
 by_cases h : u < (allKeys o a b).length
 ·rw [if_pos (by simpa using h)]
  have hk6 := ks2 _ (nth_mem _ h)
  have hcl := clashL_len o.Tags a.Tags b.Tags ((allKeys o a b).take u)
  have htl := tagsL_len o.Tags a.Tags b.Tags ((allKeys o a b).take u)
  rw [List.length_take] at hcl htl
  refine ⟨OM, F69.law _ _ _ OM (F69.law _ _ _ OM (F69.law _ _ _ OM ?_))⟩
  refine ⟨fun x y => decide (x = y), fun _ _ => True, fun x y _ => by unfold F30.E; exact eqvalue_is x y, F8.law _ _ _ _ _ trivial trivial trivial ?_⟩
  have ec := clashL_snoc o.Tags a.Tags b.Tags ((allKeys o a b).take u) (nth (allKeys o a b) (u : Int))
  have et := tagsL_snoc o.Tags a.Tags b.Tags ((allKeys o a b).take u) (nth (allKeys o a b) (u : Int))
  rw [← take_nth _ h] at ec et
  refine ⟨fun xs z z2 => xs = (if (shapeF o.Shape a.Shape b.Shape).2 then [] else [shapeS]) ++ clashL o.Tags a.Tags b.Tags ((allKeys o a b).take (u + 1)) ∧ (⟨z, z2⟩ : value) = (tagK o.Tags a.Tags b.Tags (nth (allKeys o a b) (u : Int))).1, ?_, ?_⟩
  ·generalize nth (allKeys o a b) (u : Int) = k at *
   have ed : tagK o.Tags a.Tags b.Tags k = tagF (valT o.Tags k) (valT a.Tags k) (valT b.Tags k) := rfl
   rw [ec]
   cases c0 : (three (valT o.Tags k) (valT a.Tags k) (valT b.Tags k)).2 with
   | true =>
    have ek : tagK o.Tags a.Tags b.Tags k = three (valT o.Tags k) (valT a.Tags k) (valT b.Tags k) := by rw [ed]; unfold tagF; rw [if_pos c0]
    rw [if_neg RD, ek, c0, if_pos rfl, List.append_nil]
    exact ⟨rfl, rfl⟩
   | false =>
    have ek : tagK o.Tags a.Tags b.Tags k = (if (valT a.Tags k).has then valT a.Tags k else valT b.Tags k, false) := by rw [ed]; unfold tagF; rw [if_neg (by rw [c0]; decide)]
    rw [if_pos RD, ek]
    refine ⟨by simp only [List.length_cons, List.length_nil]; omega, by simp only [List.length_append, List.length_cons, List.length_nil]; omega, ?_⟩
    have e0 : (if ((if (valT a.Tags k).has then valT a.Tags k else valT b.Tags k, false) : value × Bool).2 then ([] : List Str) else [tagS ++ k]) = [tagS ++ k] := if_neg (by simp)
    rw [e0]
    cases c1 : (valT a.Tags k).has with
    | true => rw [if_neg (by simp)]; exact ⟨by rw [List.append_assoc]; rfl, by generalize valT a.Tags k = v at *; cases v; simp_all⟩
    | false => rw [if_pos (by simp)]; exact ⟨by rw [List.append_assoc]; rfl, by simp⟩
  ·rintro _ z3 z4 ⟨rfl, hz⟩
   have hz3 : z3 = (tagK o.Tags a.Tags b.Tags (nth (allKeys o a b) (u : Int))).1.has := by rw [← hz]
   have hz4 : z4 = (tagK o.Tags a.Tags b.Tags (nth (allKeys o a b) (u : Int))).1.val := by rw [← hz]
   refine ⟨fun ts => ts = tagsL o.Tags a.Tags b.Tags ((allKeys o a b).take (u + 1)), ?_, ?_⟩
   ·rw [et, hz3, hz4]
    split
    ·exact ⟨by simp only [List.length_cons, List.length_nil]; omega, rfl⟩
    ·rw [List.append_nil]
   ·rintro _ rfl
    exact ⟨by unfold I64; omega, ⟨u + 1, OM, OM, rfl, rfl⟩, by dsimp only; omega⟩
 rw [if_neg (by simpa using h)]
 have : u = (allKeys o a b).length := by omega
 subst this
 rw [List.take_length]
 have hjs := joinF_small ko ka kb
 unfold joinOf at hq
 show F90.E (joinF o a b) _
 refine F90.law _ _ OM ?_
 cases kj : featOk (joinF o a b) with
 | true =>
  rw [if_neg RD]
  rw [kj, if_pos rfl] at hq
  exact hq
 | false =>
  rw [if_pos RD]
  rw [kj, if_neg RD] at hq
  exact F36.law _ _ h2 hq
theorem F41.law (o a b : List Feat) (Q : List Feat → List Clash → Bool → Prop) (h1 : bulk o ≤ 1048576) (h2 : bulk a ≤ 1048576) (h3 : bulk b ≤ 1048576) (hq : Q (sheetJoin o a b).1 (sheetJoin o a b).2.1 (sheetJoin o a b).2.2) : F41.E o a b Q := by
 unfold F41.E
 unfold sheetJoin at hq
 have zq : (sheetOk o && sheetOk a && sheetOk b) = false → Q [] [] false := fun h => by rw [h, if_neg RD] at hq; exact hq
 refine F74.law _ _ h1 ?_
 cases ko : sheetOk o with
 | false => rw [if_pos RD]; exact zq (by rw [ko]; rfl)
 | true =>
 rw [if_neg RD]
 refine F74.law _ _ h2 ?_
 cases ka : sheetOk a with
 | false => rw [if_pos RD]; exact zq (by rw [ko, ka]; rfl)
 | true =>
 rw [if_neg RD]
 refine F74.law _ _ h3 ?_
 cases kb : sheetOk b with
 | false => rw [if_pos RD]; exact zq (by rw [ko, ka, kb]; rfl)
 | true =>
 rw [if_neg RD]
 rw [ko, ka, kb, if_pos RD] at hq
 clear zq
 have e : idsAll [o, a, b] = ids o ++ ids a ++ ids b := by unfold idsAll; simp
 have lo := (sheet_ss ko).2.1; have la := (sheet_ss ka).2.1; have lb := (sheet_ss kb).2.1
 have l3 : (ids o ++ ids a ++ ids b).length = o.length + a.length + b.length := by unfold ids; simp; omega
 refine F120.law _ _ (by simp) (by rw [e]; omega) (fun s hs => by
  simp only [List.mem_cons, List.not_mem_nil, or_false] at hs
  rcases hs with rfl | rfl | rfl <;> omega) ?_
 rw [e]
 have eids : uniq (ids o ++ ids a ++ ids b) = ids3 o a b := rfl
 rw [eids]
 have hlen := ids3_len ko ka kb
 refine ⟨fun cs fs l i => ∃ u : Nat, i = u ∧ u ≤ (ids3 o a b).length ∧ l = ids3 o a b ∧ cs = joinCs o a b ((ids3 o a b).take u) ∧ fs = joinFs o a b ((ids3 o a b).take u), fun _ _ _ i => ((ids3 o a b).length - i).toNat, ⟨0, rfl, Nat.zero_le _, rfl, rfl, rfl⟩, ?_⟩
 rintro _ _ _ _ ⟨u, rfl, hu, rfl, rfl, rfl⟩
 by_cases h : u < (ids3 o a b).length
 ·rw [if_pos (by simpa using h)]
  have ec := joinCs_snoc o a b ((ids3 o a b).take u) (nth (ids3 o a b) (u : Int))
  have ef := joinFs_snoc o a b ((ids3 o a b).take u) (nth (ids3 o a b) (u : Int))
  rw [← take_nth _ h] at ec ef
  have hcl := joinCs_len ko ka kb ((ids3 o a b).take u)
  have hfl := joinFs_len o a b ((ids3 o a b).take u)
  rw [List.length_take] at hcl hfl
  have hsm := (oneAt_small ko ka kb (nth (ids3 o a b) (u : Int))).2.2
  have to_ : ThOk _ _ := thOf_ok ko (nth (ids3 o a b) (u : Int))
  have ta_ : ThOk _ _ := thOf_ok ka (nth (ids3 o a b) (u : Int))
  have tb_ : ThOk _ _ := thOf_ok kb (nth (ids3 o a b) (u : Int))
  refine ⟨OM, F75.law _ _ _ h1 (F75.law _ _ _ h2 (F75.law _ _ _ h3 ?_))⟩
  have eo : oneAt o a b (nth (ids3 o a b) (u : Int)) = oneOf (thOf o (nth (ids3 o a b) (u : Int))) (thOf a (nth (ids3 o a b) (u : Int))) (thOf b (nth (ids3 o a b) (u : Int))) := rfl
  rw [eo] at ec ef hsm
  clear eo
  generalize thOf o (nth (ids3 o a b) (u : Int)) = x at *
  generalize thOf a (nth (ids3 o a b) (u : Int)) = y at *
  generalize thOf b (nth (ids3 o a b) (u : Int)) = z at *
  generalize nth (ids3 o a b) (u : Int) = i at *
  have sx := to_.small; have sy := ta_.small; have sz := tb_.small
  refine ⟨fun x y => decide (x = y), fun x _ => x.f.Shape.Pts.length ≤ 1048576 ∧ x.f.Tags.length ≤ 1048576, fun x y hx => F40.law _ _ _ hx rfl, F9.law _ _ _ _ _ sy.2 sz.2 sy.2 ?_⟩
  refine ⟨fun cs fs l c1 c2 c3 c4 c5 => cs = joinCs o a b ((ids3 o a b).take (u + 1)) ∧ fs = joinFs o a b ((ids3 o a b).take u) ∧ l = ids3 o a b ∧ (⟨c1, (⟨c2, (⟨c3, c4⟩ : Shape), c5⟩ : Feat)⟩ : thing) = (oneOf x y z).1, ?_, ?_⟩
  ·rcases Bool.eq_false_or_eq_true (three x y z).2 with c0 | c0
   ·rw [if_pos c0]
    exact ⟨by rw [ec, one_same c0]; simp [clashAtL], rfl, rfl, by rw [one_same c0]⟩
   rw [if_neg (by rw [c0]; decide)]
   have e1 := one_else c0
   rcases Bool.eq_false_or_eq_true y.has with ca | ca
   case inr =>
    rw [if_pos (by rw [ca]; rfl)]
    rw [if_pos ca] at e1
    exact ⟨by simp only [List.length_cons, List.length_nil]; omega, by rw [ec, e1]; rfl, rfl, rfl, by rw [e1]⟩
   rw [if_neg (by rw [ca]; decide)]
   rw [if_neg (by rw [ca]; decide)] at e1
   rcases Bool.eq_false_or_eq_true z.has with cb | cb
   case inr =>
    rw [if_pos (by rw [cb]; rfl)]
    rw [if_pos cb] at e1
    exact ⟨by simp only [List.length_cons, List.length_nil]; omega, by rw [ec, e1]; rfl, rfl, rfl, by rw [e1]⟩
   rw [if_neg (by rw [cb]; decide)]
   rw [if_neg (by rw [cb]; decide)] at e1
   rcases Bool.eq_false_or_eq_true x.has with co | co
   case inr =>
    rw [if_pos (by rw [co]; rfl)]
    rw [if_pos co] at e1
    exact ⟨by simp only [List.length_cons, List.length_nil]; omega, by rw [ec, e1]; rfl, rfl, rfl, by rw [e1]⟩
   rw [if_neg (by rw [co]; decide)]
   rw [if_neg (by rw [co]; decide)] at e1
   obtain ⟨fx, ix⟩ := to_.has co; obtain ⟨fy, iy⟩ := ta_.has ca; obtain ⟨fz, iz⟩ := tb_.has cb
   refine F52.law _ _ _ _ OM OM OM ?_
   have ej : featJoin x.f y.f z.f = joinOf x.f y.f z.f := by unfold featJoin; rw [if_pos (by rw [fx, fy, fz, ix, iy, iz]; simp)]
   rw [ej]
   obtain ⟨w1, w2, w3⟩ := joinW_len fx fy fz
   generalize (joinOf x.f y.f z.f).1 = rf at *
   generalize (joinOf x.f y.f z.f).2 = W at *
   refine ⟨fun xs k => ∃ v : Nat, k = v ∧ v ≤ W.length ∧ xs = joinCs o a b ((ids3 o a b).take u) ++ clashAtL i (W.take v), fun _ k => (W.length - k).toNat, ⟨0, rfl, Nat.zero_le _, by simp [clashAtL]⟩, ?_⟩
   rintro _ _ ⟨v, rfl, hv, rfl⟩
   have hwl : (clashAtL i (W.take v)).length ≤ v := by unfold clashAtL; simp; omega
   by_cases g : v < W.length
   ·rw [if_pos (by simpa using g)]
    refine ⟨OM, by simp only [List.length_append, List.length_cons, List.length_nil]; omega, by unfold I64; omega, ⟨v + 1, OM, OM, ?_⟩, by dsimp only; omega⟩
    rw [take_nth _ g]; unfold clashAtL; rw [List.map_append, List.append_assoc]; rfl
   ·rw [if_neg (by simpa using g)]
    have : v = W.length := by omega
    subst this
    rw [List.take_length]
    exact ⟨by rw [ec, e1], rfl, rfl, by rw [e1]⟩
  ·rintro _ _ _ c1 c2 c3 c4 c5 ⟨rfl, rfl, rfl, hc⟩
   rw [← hc] at ef hsm
   refine ⟨fun fs => fs = joinFs o a b ((ids3 o a b).take (u + 1)), ?_, ?_⟩
   ·rw [ef]
    cases c1 with
    | true => rw [if_pos rfl]; exact F36.law _ _ (Nat.le_trans hsm RD) ⟨by simp only [List.length_cons, List.length_nil]; omega, rfl⟩
    | false => rw [if_neg RD]; simp
   ·rintro _ rfl
    exact ⟨by unfold I64; omega, ⟨u + 1, OM, OM, rfl, rfl, rfl⟩, by dsimp only; omega⟩
 rw [if_neg (by simpa using h)]
 have : u = (ids3 o a b).length := by omega
 subst this
 rw [List.take_length]
 have hs := joinFs_small ko ka kb (ids3 o a b)
 refine F74.law _ _ OM ?_
 cases kj : sheetOk (joinFs o a b (ids3 o a b)) with
 | true => rw [if_neg RD]; rw [kj, if_pos rfl] at hq; exact hq
 | false => rw [if_pos RD]; rw [kj, if_neg RD] at hq; exact hq
end Go.Proofs.YtpdmnmpcjljeaaaGreat