/- It is proved here that the law FnFeatPoints of the given program holds whatever it is handed: the walks through the code, the plain laws and the row, in this order.
   Conditions: none. -/
import Derived.Below
import Derived.ChangeArms
import Derived.ChangeOld
import Derived.ChangeSlices
import Derived.ChangeVars
import Derived.DataReads
import Derived.Deep.Quiet
import Derived.KernelRfl
import Derived.LaidHandle
import Derived.LaidLaws
import Derived.LaidMore
import Derived.Laws.Build
import Derived.Laws.IdiomStrings
import Derived.Laws.OwnMore
import Derived.Laws.Slices
import Derived.Laws.StructEq
import Derived.Lib.ItoaNum
import Derived.Lib.LaidTab
import Derived.MakeChecks
import Derived.OpenShut
import Derived.OpenVars
import Derived.ProofKit
import Derived.SevenTiedAt
import Derived.Shelf.LaysM
import Derived.Shelf.Slices.Cells
import Derived.Shelf.Slices.CompactS
import Derived.Shelf.Slices.In.SortNone
import Derived.Shelf.Small.Bits
import Derived.Shelf.Sort.Plain
import Derived.Shelf.Strconv.Itoa0
import Derived.Shelf.Strconv.Itoa1
import Derived.Shelf.Strconv.Itoa2
import Derived.Shelf.Strconv.Itoa3
import Derived.ShutString
import Derived.SizedLaws
import Derived.StillTail
import Derived.Stop.Joined
import Derived.Test.YtlaaehjcooonfaaGreatDoorCards
import Derived.Test.YtlaaehjcooonfaaGreatDoorProg
import Derived.Test.YtlaaehjcooonfaaGreatDoorRows
import Derived.Test.YtlaaehjcooonfaaGreatDoorTie
import Derived.WalkKit
import Derived.Test.YtlaaehjcooonfaaGreatDoorCFeatPointsa
import Derived.Test.YtlaaehjcooonfaaGreatDoorCFeatPointsb
namespace Go.Proofs
open Go.Shelf
def Tryz.lays317_ren : Go.Shelf.Ren := ⟨fun | 317 => 187 | n => n, fun | 3 => 3 | 46 => 132 | n => n, fun | n => n⟩
theorem Tryz.lays317 : Go.Proofs.Lays.n317 Tryz.prog Tryz.lays317_ren := {
  mixed := by kernel_rfl
  f317 := Tryz.func187.trans (congrArg some (by kernel_rfl))
  t3 := Tryz.underlying3
  a3 := Tryz.isAgg3
  z3 := Tryz.sizeOf3
  v3 := Tryz.zeroValue3
  t46 := Tryz.underlying132
  a46 := Tryz.isAgg132
  z46 := Tryz.sizeOf132
  v46 := Tryz.zeroValue132 }
open Go.Lib in
theorem Tryz.internal_strconv_log10Pow2 (x : Nat) (h : x ≤ 64) (w : World) :
    Calls Tryz.prog 187 #[.int .i64 x] w fun e w' => e = .returned (.int .i64 (Lib.l10 x)) ∧ w' = w := Any.internal_strconv_log10Pow2 Tryz.lays317 x h w
def Tryz.lays318_ren : Go.Shelf.Ren := ⟨fun | 318 => 188 | n => n, fun | 3 => 3 | 4 => 4 | n => n, fun | n => n⟩
theorem Tryz.lays318 : Go.Proofs.Lays.n318 Tryz.prog Tryz.lays318_ren := {
  mixed := by kernel_rfl
  f318 := Tryz.func188.trans (congrArg some (by kernel_rfl))
  t3 := Tryz.underlying3
  a3 := Tryz.isAgg3
  z3 := Tryz.sizeOf3
  v3 := Tryz.zeroValue3
  t4 := Tryz.underlying4
  a4 := Tryz.isAgg4
  z4 := Tryz.sizeOf4
  v4 := Tryz.zeroValue4 }
open Go.Lib in
theorem Tryz.internal_strconv_bool2_int (b : Bool) (w : World) :
    Calls Tryz.prog 188 #[.bool b] w fun e w' => e = .returned (.int .i64 (if b then 1 else 0)) ∧ w' = w := Any.internal_strconv_bool2_int Tryz.lays318 b w
def Tryz.lays283_ren : Go.Shelf.Ren := ⟨fun | 283 => 181 | n => n, fun | 3 => 3 | 9 => 9 | 4 => 4 | n => n, fun | n => n⟩
theorem Tryz.lays283 : Go.Proofs.Lays.n283 Tryz.prog Tryz.lays283_ren := {
  mixed := by kernel_rfl
  f283 := Tryz.func181.trans (congrArg some (by kernel_rfl))
  t3 := Tryz.underlying3
  a3 := Tryz.isAgg3
  z3 := Tryz.sizeOf3
  v3 := Tryz.zeroValue3
  t4 := Tryz.underlying4
  a4 := Tryz.isAgg4
  z4 := Tryz.sizeOf4
  v4 := Tryz.zeroValue4
  t9 := Tryz.underlying9
  a9 := Tryz.isAgg9
  z9 := Tryz.sizeOf9
  v9 := Tryz.zeroValue9 }
open Go.Lib in
theorem Tryz.internal_strconv_small (i : Nat) (h : i < 100) (w : World) :
    Calls Tryz.prog 181 #[.int .i64 i] w fun e w' => e = .returned (.string ⟨(Lib.decDigits i).toArray⟩) ∧ w' = w := Any.internal_strconv_small Tryz.lays283 i h w
def Tryz.laysM284_ren : Go.Shelf.Ren := ⟨fun | 284 => 182 | 129 => 145 | 317 => 187 | 318 => 188 | n => n, fun | 53 => 165 | 3 => 3 | 212 => 202 | 0 => 0 | 4 => 4 | 46 => 132 | 5 => 5 | 9 => 9 | n => n, fun | 17 => 1 | n => n⟩
theorem Tryz.laysM284 : Go.Proofs.LaysM.n284 Tryz.prog Tryz.laysM284_ren := {
  mixed := by kernel_rfl
  f129 := Tryz.func145.trans (congrArg some (by kernel_rfl))
  f284 := Tryz.func182.trans (congrArg some (by kernel_rfl))
  f317 := Tryz.func187.trans (congrArg some (by kernel_rfl))
  f318 := Tryz.func188.trans (congrArg some (by kernel_rfl))
  t0 := Tryz.underlying0
  a0 := Tryz.isAgg0
  z0 := Tryz.sizeOf0
  v0 := Tryz.zeroValue0
  t3 := Tryz.underlying3
  a3 := Tryz.isAgg3
  z3 := Tryz.sizeOf3
  v3 := Tryz.zeroValue3
  t4 := Tryz.underlying4
  a4 := Tryz.isAgg4
  z4 := Tryz.sizeOf4
  v4 := Tryz.zeroValue4
  t5 := Tryz.underlying5
  a5 := Tryz.isAgg5
  z5 := Tryz.sizeOf5
  v5 := Tryz.zeroValue5
  t9 := Tryz.underlying9
  a9 := Tryz.isAgg9
  z9 := Tryz.sizeOf9
  v9 := Tryz.zeroValue9
  t46 := Tryz.underlying132
  a46 := Tryz.isAgg132
  z46 := Tryz.sizeOf132
  v46 := Tryz.zeroValue132
  t53 := Tryz.underlying165
  a53 := Tryz.isAgg165
  z53 := Tryz.sizeOf165
  v53 := Tryz.zeroValue165
  t212 := Tryz.underlying202
  a212 := Tryz.isAgg202
  z212 := Tryz.sizeOf202
  v212 := Tryz.zeroValue202
  g17 := by kernel_rfl
  i0 := by kernel_rfl
  i3 := by kernel_rfl
  i4 := by kernel_rfl
  i5 := by kernel_rfl
  i9 := by kernel_rfl
  i46 := by kernel_rfl
  i53 := by kernel_rfl
  i212 := by kernel_rfl
  m17 := by kernel_rfl }
open Go.Lib in
theorem Tryz.internal_strconv_numDigits (u : Nat) (h1 : 1 ≤ u) (h2 : u < 18446744073709551616) (w : World) (htab : Lib.TabIs Tryz.prog w "internal/strconv.uint64pow10" .u64 Lib.pow10Tab) :
    Calls Tryz.prog 182 #[.int .u64 u] w fun e w' => e = .returned (.int .i64 (Lib.nDigits u)) ∧ w' = w := Any.internal_strconv_numDigits Tryz.laysM284 u h1 h2 w htab
def Tryz.lays285_ren : Go.Shelf.Ren := ⟨fun | 285 => 183 | n => n, fun | 37 => 22 | 53 => 165 | 3 => 3 | 4 => 4 | 51 => 163 | 9 => 9 | 5 => 5 | 0 => 0 | n => n, fun | n => n⟩
theorem Tryz.lays285 : Go.Proofs.Lays.n285 Tryz.prog Tryz.lays285_ren := {
  mixed := by kernel_rfl
  f285 := Tryz.func183.trans (congrArg some (by kernel_rfl))
  t0 := Tryz.underlying0
  a0 := Tryz.isAgg0
  z0 := Tryz.sizeOf0
  v0 := Tryz.zeroValue0
  t3 := Tryz.underlying3
  a3 := Tryz.isAgg3
  z3 := Tryz.sizeOf3
  v3 := Tryz.zeroValue3
  t4 := Tryz.underlying4
  a4 := Tryz.isAgg4
  z4 := Tryz.sizeOf4
  v4 := Tryz.zeroValue4
  t5 := Tryz.underlying5
  a5 := Tryz.isAgg5
  z5 := Tryz.sizeOf5
  v5 := Tryz.zeroValue5
  t9 := Tryz.underlying9
  a9 := Tryz.isAgg9
  z9 := Tryz.sizeOf9
  v9 := Tryz.zeroValue9
  t37 := Tryz.underlying22
  a37 := Tryz.isAgg22
  z37 := Tryz.sizeOf22
  v37 := Tryz.zeroValue22
  t51 := Tryz.underlying163
  a51 := Tryz.isAgg163
  z51 := Tryz.sizeOf163
  v51 := Tryz.zeroValue163
  t53 := Tryz.underlying165
  a53 := Tryz.isAgg165
  z53 := Tryz.sizeOf165
  v53 := Tryz.zeroValue165 }
open Go.RowKit Go.Sort Go.Lib in
theorem Tryz.internal_strconv_formatBase10 (blk off cap : Nat) (u : Nat) (d : Array UInt8) (w : World) (hH : Holds (fun (b : UInt8) => Value.int .u8 (b.toNat : Int)) w blk off d) (hu : u < 10 ^ d.size) (hu64 : u < 18446744073709551616) (hsz : d.size < 4611686018427387904) :
    Calls Tryz.prog 183 #[.slice (some ⟨blk, off, none⟩) d.size cap, .int .u64 u] w fun e w' =>
      e = .returned (.tuple #[]) ∧ ∃ (n v' : Nat) (dk : Array UInt8), w' = (putRow (fun (b : UInt8) => Value.int .u8 (b.toNat : Int)) w blk off dk).drewN n ∧ FmtInv d.size u 0 v' dk := Any.internal_strconv_formatBase10 Tryz.lays285 blk off cap u d w hH hu hu64 hsz
def Tryz.laysM246_ren : Go.Shelf.Ren := ⟨fun | 246 => 174 | 283 => 181 | 284 => 182 | 285 => 183 | 286 => 184 | 129 => 145 | 317 => 187 | 318 => 188 | 319 => 189 | 320 => 190 | 337 => 191 | 338 => 192 | n => n, fun | 2 => 2 | 3 => 3 | 9 => 9 | 4 => 4 | 171 => 196 | 0 => 0 | 53 => 165 | 37 => 22 | 5 => 5 | 173 => 198 | 212 => 202 | 51 => 163 | 20 => 20 | 213 => 203 | 46 => 132 | 232 => 204 | 233 => 205 | n => n, fun | 17 => 1 | 18 => 2 | 19 => 3 | n => n⟩
theorem Tryz.laysM246 : Go.Proofs.LaysM.n246 Tryz.prog Tryz.laysM246_ren := {
  mixed := by kernel_rfl
  f129 := Tryz.func145.trans (congrArg some (by kernel_rfl))
  f246 := Tryz.func174.trans (congrArg some (by kernel_rfl))
  f283 := Tryz.func181.trans (congrArg some (by kernel_rfl))
  f284 := Tryz.func182.trans (congrArg some (by kernel_rfl))
  f285 := Tryz.func183.trans (congrArg some (by kernel_rfl))
  f286 := Tryz.func184.trans (congrArg some (by kernel_rfl))
  f317 := Tryz.func187.trans (congrArg some (by kernel_rfl))
  f318 := Tryz.func188.trans (congrArg some (by kernel_rfl))
  f319 := Tryz.func189.trans (congrArg some (by kernel_rfl))
  f320 := Tryz.func190.trans (congrArg some (by kernel_rfl))
  f337 := Tryz.func191.trans (congrArg some (by kernel_rfl))
  f338 := Tryz.func192.trans (congrArg some (by kernel_rfl))
  t0 := Tryz.underlying0
  a0 := Tryz.isAgg0
  z0 := Tryz.sizeOf0
  v0 := Tryz.zeroValue0
  t2 := Tryz.underlying2
  a2 := Tryz.isAgg2
  z2 := Tryz.sizeOf2
  v2 := Tryz.zeroValue2
  t3 := Tryz.underlying3
  a3 := Tryz.isAgg3
  z3 := Tryz.sizeOf3
  v3 := Tryz.zeroValue3
  t4 := Tryz.underlying4
  a4 := Tryz.isAgg4
  z4 := Tryz.sizeOf4
  v4 := Tryz.zeroValue4
  t5 := Tryz.underlying5
  a5 := Tryz.isAgg5
  z5 := Tryz.sizeOf5
  v5 := Tryz.zeroValue5
  t9 := Tryz.underlying9
  a9 := Tryz.isAgg9
  z9 := Tryz.sizeOf9
  v9 := Tryz.zeroValue9
  t20 := Tryz.underlying20
  a20 := Tryz.isAgg20
  z20 := Tryz.sizeOf20
  v20 := Tryz.zeroValue20
  t37 := Tryz.underlying22
  a37 := Tryz.isAgg22
  z37 := Tryz.sizeOf22
  v37 := Tryz.zeroValue22
  t46 := Tryz.underlying132
  a46 := Tryz.isAgg132
  z46 := Tryz.sizeOf132
  v46 := Tryz.zeroValue132
  t51 := Tryz.underlying163
  a51 := Tryz.isAgg163
  z51 := Tryz.sizeOf163
  v51 := Tryz.zeroValue163
  t53 := Tryz.underlying165
  a53 := Tryz.isAgg165
  z53 := Tryz.sizeOf165
  v53 := Tryz.zeroValue165
  t171 := Tryz.underlying196
  a171 := Tryz.isAgg196
  z171 := Tryz.sizeOf196
  v171 := Tryz.zeroValue196
  t173 := Tryz.underlying198
  a173 := Tryz.isAgg198
  z173 := Tryz.sizeOf198
  v173 := Tryz.zeroValue198
  t212 := Tryz.underlying202
  a212 := Tryz.isAgg202
  z212 := Tryz.sizeOf202
  v212 := Tryz.zeroValue202
  t213 := Tryz.underlying203
  a213 := Tryz.isAgg203
  z213 := Tryz.sizeOf203
  t232 := Tryz.underlying204
  a232 := Tryz.isAgg204
  z232 := Tryz.sizeOf204
  v232 := Tryz.zeroValue204
  t233 := Tryz.underlying205
  a233 := Tryz.isAgg205
  z233 := Tryz.sizeOf205
  v233 := Tryz.zeroValue205
  g17 := by kernel_rfl
  g18 := by kernel_rfl
  g19 := by kernel_rfl
  i0 := by kernel_rfl
  i2 := by kernel_rfl
  i3 := by kernel_rfl
  i4 := by kernel_rfl
  i5 := by kernel_rfl
  i9 := by kernel_rfl
  i20 := by kernel_rfl
  i37 := by kernel_rfl
  i46 := by kernel_rfl
  i51 := by kernel_rfl
  i53 := by kernel_rfl
  i171 := by kernel_rfl
  i173 := by kernel_rfl
  i212 := by kernel_rfl
  i232 := by kernel_rfl
  i233 := by kernel_rfl
  m17 := by kernel_rfl
  m18 := by kernel_rfl
  m19 := by kernel_rfl }
open Go.RowKit Go.Sort Go.Lib in
theorem Tryz.internal_strconv_FormatInt_10 (n : Int) (h0 : -9223372036854775808 ≤ n) (h1 : n ≤ 9223372036854775807) (w : World) (htab : Lib.TabIs Tryz.prog w "internal/strconv.uint64pow10" .u64 Lib.pow10Tab) :
    Calls Tryz.prog 174 #[.int .i64 n, .int .i64 10] w fun e w' => e = .returned (.string ⟨(Lib.itoa n).toArray⟩) ∧ ∃ k os, w' = grow (w.drewN k) os := Any.internal_strconv_FormatInt_10 Tryz.laysM246 n h0 h1 w htab
def Tryz.lays246_ren : Go.Shelf.Ren := ⟨fun | 246 => 174 | 283 => 181 | 284 => 182 | 285 => 183 | 286 => 184 | 129 => 145 | 317 => 187 | 318 => 188 | 319 => 189 | 320 => 190 | 337 => 191 | 338 => 192 | n => n, fun | 2 => 2 | 3 => 3 | 9 => 9 | 4 => 4 | 171 => 196 | 0 => 0 | 53 => 165 | 37 => 22 | 5 => 5 | 173 => 198 | 212 => 202 | 51 => 163 | 20 => 20 | 213 => 203 | 46 => 132 | 232 => 204 | 233 => 205 | n => n, fun | 17 => 1 | 18 => 2 | 19 => 3 | n => n⟩
theorem Tryz.lays246 : Go.Proofs.Lays.n246 Tryz.prog Tryz.lays246_ren := {
  mixed := by kernel_rfl
  f129 := Tryz.func145.trans (congrArg some (by kernel_rfl))
  f246 := Tryz.func174.trans (congrArg some (by kernel_rfl))
  f283 := Tryz.func181.trans (congrArg some (by kernel_rfl))
  f284 := Tryz.func182.trans (congrArg some (by kernel_rfl))
  f285 := Tryz.func183.trans (congrArg some (by kernel_rfl))
  f286 := Tryz.func184.trans (congrArg some (by kernel_rfl))
  f317 := Tryz.func187.trans (congrArg some (by kernel_rfl))
  f318 := Tryz.func188.trans (congrArg some (by kernel_rfl))
  f319 := Tryz.func189.trans (congrArg some (by kernel_rfl))
  f320 := Tryz.func190.trans (congrArg some (by kernel_rfl))
  f337 := Tryz.func191.trans (congrArg some (by kernel_rfl))
  f338 := Tryz.func192.trans (congrArg some (by kernel_rfl))
  t0 := Tryz.underlying0
  a0 := Tryz.isAgg0
  z0 := Tryz.sizeOf0
  v0 := Tryz.zeroValue0
  t2 := Tryz.underlying2
  a2 := Tryz.isAgg2
  z2 := Tryz.sizeOf2
  v2 := Tryz.zeroValue2
  t3 := Tryz.underlying3
  a3 := Tryz.isAgg3
  z3 := Tryz.sizeOf3
  v3 := Tryz.zeroValue3
  t4 := Tryz.underlying4
  a4 := Tryz.isAgg4
  z4 := Tryz.sizeOf4
  v4 := Tryz.zeroValue4
  t5 := Tryz.underlying5
  a5 := Tryz.isAgg5
  z5 := Tryz.sizeOf5
  v5 := Tryz.zeroValue5
  t9 := Tryz.underlying9
  a9 := Tryz.isAgg9
  z9 := Tryz.sizeOf9
  v9 := Tryz.zeroValue9
  t20 := Tryz.underlying20
  a20 := Tryz.isAgg20
  z20 := Tryz.sizeOf20
  v20 := Tryz.zeroValue20
  t37 := Tryz.underlying22
  a37 := Tryz.isAgg22
  z37 := Tryz.sizeOf22
  v37 := Tryz.zeroValue22
  t46 := Tryz.underlying132
  a46 := Tryz.isAgg132
  z46 := Tryz.sizeOf132
  v46 := Tryz.zeroValue132
  t51 := Tryz.underlying163
  a51 := Tryz.isAgg163
  z51 := Tryz.sizeOf163
  v51 := Tryz.zeroValue163
  t53 := Tryz.underlying165
  a53 := Tryz.isAgg165
  z53 := Tryz.sizeOf165
  v53 := Tryz.zeroValue165
  t171 := Tryz.underlying196
  a171 := Tryz.isAgg196
  z171 := Tryz.sizeOf196
  v171 := Tryz.zeroValue196
  t173 := Tryz.underlying198
  a173 := Tryz.isAgg198
  z173 := Tryz.sizeOf198
  v173 := Tryz.zeroValue198
  t212 := Tryz.underlying202
  a212 := Tryz.isAgg202
  z212 := Tryz.sizeOf202
  v212 := Tryz.zeroValue202
  t213 := Tryz.underlying203
  a213 := Tryz.isAgg203
  z213 := Tryz.sizeOf203
  t232 := Tryz.underlying204
  a232 := Tryz.isAgg204
  z232 := Tryz.sizeOf204
  v232 := Tryz.zeroValue204
  t233 := Tryz.underlying205
  a233 := Tryz.isAgg205
  z233 := Tryz.sizeOf205
  v233 := Tryz.zeroValue205
  g17 := by kernel_rfl
  g18 := by kernel_rfl
  g19 := by kernel_rfl }
open Go.RowKit Go.Sort Go.Lib in
theorem Tryz.internal_strconv_FormatInt_10_small (i : Nat) (hi : i < 100) (w : World) :
    Calls Tryz.prog 174 #[.int .i64 i, .int .i64 10] w fun e w' => e = .returned (.string ⟨(Lib.decDigits i).toArray⟩) ∧ w' = w := Any.internal_strconv_FormatInt_10_small Tryz.lays246 i hi w
def Tryz.laysM243_ren : Go.Shelf.Ren := ⟨fun | 243 => 154 | 246 => 174 | 283 => 181 | 284 => 182 | 285 => 183 | 286 => 184 | 129 => 145 | 317 => 187 | 318 => 188 | 319 => 189 | 320 => 190 | 337 => 191 | 338 => 192 | n => n, fun | 3 => 3 | 9 => 9 | 2 => 2 | 4 => 4 | 171 => 196 | 0 => 0 | 53 => 165 | 37 => 22 | 5 => 5 | 173 => 198 | 212 => 202 | 51 => 163 | 20 => 20 | 213 => 203 | 46 => 132 | 232 => 204 | 233 => 205 | n => n, fun | 17 => 1 | 18 => 2 | 19 => 3 | n => n⟩
theorem Tryz.laysM243 : Go.Proofs.LaysM.n243 Tryz.prog Tryz.laysM243_ren := {
  mixed := by kernel_rfl
  f129 := Tryz.func145.trans (congrArg some (by kernel_rfl))
  f243 := Tryz.func154.trans (congrArg some (by kernel_rfl))
  f246 := Tryz.func174.trans (congrArg some (by kernel_rfl))
  f283 := Tryz.func181.trans (congrArg some (by kernel_rfl))
  f284 := Tryz.func182.trans (congrArg some (by kernel_rfl))
  f285 := Tryz.func183.trans (congrArg some (by kernel_rfl))
  f286 := Tryz.func184.trans (congrArg some (by kernel_rfl))
  f317 := Tryz.func187.trans (congrArg some (by kernel_rfl))
  f318 := Tryz.func188.trans (congrArg some (by kernel_rfl))
  f319 := Tryz.func189.trans (congrArg some (by kernel_rfl))
  f320 := Tryz.func190.trans (congrArg some (by kernel_rfl))
  f337 := Tryz.func191.trans (congrArg some (by kernel_rfl))
  f338 := Tryz.func192.trans (congrArg some (by kernel_rfl))
  t0 := Tryz.underlying0
  a0 := Tryz.isAgg0
  z0 := Tryz.sizeOf0
  v0 := Tryz.zeroValue0
  t2 := Tryz.underlying2
  a2 := Tryz.isAgg2
  z2 := Tryz.sizeOf2
  v2 := Tryz.zeroValue2
  t3 := Tryz.underlying3
  a3 := Tryz.isAgg3
  z3 := Tryz.sizeOf3
  v3 := Tryz.zeroValue3
  t4 := Tryz.underlying4
  a4 := Tryz.isAgg4
  z4 := Tryz.sizeOf4
  v4 := Tryz.zeroValue4
  t5 := Tryz.underlying5
  a5 := Tryz.isAgg5
  z5 := Tryz.sizeOf5
  v5 := Tryz.zeroValue5
  t9 := Tryz.underlying9
  a9 := Tryz.isAgg9
  z9 := Tryz.sizeOf9
  v9 := Tryz.zeroValue9
  t20 := Tryz.underlying20
  a20 := Tryz.isAgg20
  z20 := Tryz.sizeOf20
  v20 := Tryz.zeroValue20
  t37 := Tryz.underlying22
  a37 := Tryz.isAgg22
  z37 := Tryz.sizeOf22
  v37 := Tryz.zeroValue22
  t46 := Tryz.underlying132
  a46 := Tryz.isAgg132
  z46 := Tryz.sizeOf132
  v46 := Tryz.zeroValue132
  t51 := Tryz.underlying163
  a51 := Tryz.isAgg163
  z51 := Tryz.sizeOf163
  v51 := Tryz.zeroValue163
  t53 := Tryz.underlying165
  a53 := Tryz.isAgg165
  z53 := Tryz.sizeOf165
  v53 := Tryz.zeroValue165
  t171 := Tryz.underlying196
  a171 := Tryz.isAgg196
  z171 := Tryz.sizeOf196
  v171 := Tryz.zeroValue196
  t173 := Tryz.underlying198
  a173 := Tryz.isAgg198
  z173 := Tryz.sizeOf198
  v173 := Tryz.zeroValue198
  t212 := Tryz.underlying202
  a212 := Tryz.isAgg202
  z212 := Tryz.sizeOf202
  v212 := Tryz.zeroValue202
  t213 := Tryz.underlying203
  a213 := Tryz.isAgg203
  z213 := Tryz.sizeOf203
  t232 := Tryz.underlying204
  a232 := Tryz.isAgg204
  z232 := Tryz.sizeOf204
  v232 := Tryz.zeroValue204
  t233 := Tryz.underlying205
  a233 := Tryz.isAgg205
  z233 := Tryz.sizeOf205
  v233 := Tryz.zeroValue205
  g17 := by kernel_rfl
  g18 := by kernel_rfl
  g19 := by kernel_rfl
  i0 := by kernel_rfl
  i2 := by kernel_rfl
  i3 := by kernel_rfl
  i4 := by kernel_rfl
  i5 := by kernel_rfl
  i9 := by kernel_rfl
  i20 := by kernel_rfl
  i37 := by kernel_rfl
  i46 := by kernel_rfl
  i51 := by kernel_rfl
  i53 := by kernel_rfl
  i171 := by kernel_rfl
  i173 := by kernel_rfl
  i212 := by kernel_rfl
  i232 := by kernel_rfl
  i233 := by kernel_rfl
  m17 := by kernel_rfl
  m18 := by kernel_rfl
  m19 := by kernel_rfl }
open Go.RowKit Go.Sort Go.Lib in
theorem Tryz.internal_strconv_Itoa (n : Int) (h0 : -9223372036854775808 ≤ n) (h1 : n ≤ 9223372036854775807) (w : World) (htab : Lib.TabIs Tryz.prog w "internal/strconv.uint64pow10" .u64 Lib.pow10Tab) :
    Calls Tryz.prog 154 #[.int .i64 n] w fun e w' => e = .returned (.string ⟨(Lib.itoa n).toArray⟩) ∧ ∃ k os, w' = grow (w.drewN k) os := Any.internal_strconv_Itoa Tryz.laysM243 n h0 h1 w htab
def Tryz.lays243_ren : Go.Shelf.Ren := ⟨fun | 243 => 154 | 246 => 174 | 283 => 181 | 284 => 182 | 285 => 183 | 286 => 184 | 129 => 145 | 317 => 187 | 318 => 188 | 319 => 189 | 320 => 190 | 337 => 191 | 338 => 192 | n => n, fun | 3 => 3 | 9 => 9 | 2 => 2 | 4 => 4 | 171 => 196 | 0 => 0 | 53 => 165 | 37 => 22 | 5 => 5 | 173 => 198 | 212 => 202 | 51 => 163 | 20 => 20 | 213 => 203 | 46 => 132 | 232 => 204 | 233 => 205 | n => n, fun | 17 => 1 | 18 => 2 | 19 => 3 | n => n⟩
theorem Tryz.lays243 : Go.Proofs.Lays.n243 Tryz.prog Tryz.lays243_ren := {
  mixed := by kernel_rfl
  f129 := Tryz.func145.trans (congrArg some (by kernel_rfl))
  f243 := Tryz.func154.trans (congrArg some (by kernel_rfl))
  f246 := Tryz.func174.trans (congrArg some (by kernel_rfl))
  f283 := Tryz.func181.trans (congrArg some (by kernel_rfl))
  f284 := Tryz.func182.trans (congrArg some (by kernel_rfl))
  f285 := Tryz.func183.trans (congrArg some (by kernel_rfl))
  f286 := Tryz.func184.trans (congrArg some (by kernel_rfl))
  f317 := Tryz.func187.trans (congrArg some (by kernel_rfl))
  f318 := Tryz.func188.trans (congrArg some (by kernel_rfl))
  f319 := Tryz.func189.trans (congrArg some (by kernel_rfl))
  f320 := Tryz.func190.trans (congrArg some (by kernel_rfl))
  f337 := Tryz.func191.trans (congrArg some (by kernel_rfl))
  f338 := Tryz.func192.trans (congrArg some (by kernel_rfl))
  t0 := Tryz.underlying0
  a0 := Tryz.isAgg0
  z0 := Tryz.sizeOf0
  v0 := Tryz.zeroValue0
  t2 := Tryz.underlying2
  a2 := Tryz.isAgg2
  z2 := Tryz.sizeOf2
  v2 := Tryz.zeroValue2
  t3 := Tryz.underlying3
  a3 := Tryz.isAgg3
  z3 := Tryz.sizeOf3
  v3 := Tryz.zeroValue3
  t4 := Tryz.underlying4
  a4 := Tryz.isAgg4
  z4 := Tryz.sizeOf4
  v4 := Tryz.zeroValue4
  t5 := Tryz.underlying5
  a5 := Tryz.isAgg5
  z5 := Tryz.sizeOf5
  v5 := Tryz.zeroValue5
  t9 := Tryz.underlying9
  a9 := Tryz.isAgg9
  z9 := Tryz.sizeOf9
  v9 := Tryz.zeroValue9
  t20 := Tryz.underlying20
  a20 := Tryz.isAgg20
  z20 := Tryz.sizeOf20
  v20 := Tryz.zeroValue20
  t37 := Tryz.underlying22
  a37 := Tryz.isAgg22
  z37 := Tryz.sizeOf22
  v37 := Tryz.zeroValue22
  t46 := Tryz.underlying132
  a46 := Tryz.isAgg132
  z46 := Tryz.sizeOf132
  v46 := Tryz.zeroValue132
  t51 := Tryz.underlying163
  a51 := Tryz.isAgg163
  z51 := Tryz.sizeOf163
  v51 := Tryz.zeroValue163
  t53 := Tryz.underlying165
  a53 := Tryz.isAgg165
  z53 := Tryz.sizeOf165
  v53 := Tryz.zeroValue165
  t171 := Tryz.underlying196
  a171 := Tryz.isAgg196
  z171 := Tryz.sizeOf196
  v171 := Tryz.zeroValue196
  t173 := Tryz.underlying198
  a173 := Tryz.isAgg198
  z173 := Tryz.sizeOf198
  v173 := Tryz.zeroValue198
  t212 := Tryz.underlying202
  a212 := Tryz.isAgg202
  z212 := Tryz.sizeOf202
  v212 := Tryz.zeroValue202
  t213 := Tryz.underlying203
  a213 := Tryz.isAgg203
  z213 := Tryz.sizeOf203
  t232 := Tryz.underlying204
  a232 := Tryz.isAgg204
  z232 := Tryz.sizeOf204
  v232 := Tryz.zeroValue204
  t233 := Tryz.underlying205
  a233 := Tryz.isAgg205
  z233 := Tryz.sizeOf205
  v233 := Tryz.zeroValue205
  g17 := by kernel_rfl
  g18 := by kernel_rfl
  g19 := by kernel_rfl }
open Go.RowKit Go.Sort Go.Lib in
theorem Tryz.internal_strconv_Itoa_small (i : Nat) (hi : i < 100) (w : World) :
    Calls Tryz.prog 154 #[.int .i64 i] w fun e w' => e = .returned (.string ⟨(Lib.decDigits i).toArray⟩) ∧ w' = w := Any.internal_strconv_Itoa_small Tryz.lays243 i hi w
def Tryz.laysM171_ren : Go.Shelf.Ren := ⟨fun | 171 => 126 | 243 => 154 | 246 => 174 | 283 => 181 | 284 => 182 | 285 => 183 | 286 => 184 | 129 => 145 | 317 => 187 | 318 => 188 | 319 => 189 | 320 => 190 | 337 => 191 | 338 => 192 | n => n, fun | 3 => 3 | 9 => 9 | 2 => 2 | 4 => 4 | 171 => 196 | 0 => 0 | 53 => 165 | 37 => 22 | 5 => 5 | 173 => 198 | 212 => 202 | 51 => 163 | 20 => 20 | 213 => 203 | 46 => 132 | 232 => 204 | 233 => 205 | n => n, fun | 17 => 1 | 18 => 2 | 19 => 3 | n => n⟩
theorem Tryz.laysM171 : Go.Proofs.LaysM.n171 Tryz.prog Tryz.laysM171_ren := {
  mixed := by kernel_rfl
  f129 := Tryz.func145.trans (congrArg some (by kernel_rfl))
  f171 := Tryz.func126.trans (congrArg some (by kernel_rfl))
  f243 := Tryz.func154.trans (congrArg some (by kernel_rfl))
  f246 := Tryz.func174.trans (congrArg some (by kernel_rfl))
  f283 := Tryz.func181.trans (congrArg some (by kernel_rfl))
  f284 := Tryz.func182.trans (congrArg some (by kernel_rfl))
  f285 := Tryz.func183.trans (congrArg some (by kernel_rfl))
  f286 := Tryz.func184.trans (congrArg some (by kernel_rfl))
  f317 := Tryz.func187.trans (congrArg some (by kernel_rfl))
  f318 := Tryz.func188.trans (congrArg some (by kernel_rfl))
  f319 := Tryz.func189.trans (congrArg some (by kernel_rfl))
  f320 := Tryz.func190.trans (congrArg some (by kernel_rfl))
  f337 := Tryz.func191.trans (congrArg some (by kernel_rfl))
  f338 := Tryz.func192.trans (congrArg some (by kernel_rfl))
  t0 := Tryz.underlying0
  a0 := Tryz.isAgg0
  z0 := Tryz.sizeOf0
  v0 := Tryz.zeroValue0
  t2 := Tryz.underlying2
  a2 := Tryz.isAgg2
  z2 := Tryz.sizeOf2
  v2 := Tryz.zeroValue2
  t3 := Tryz.underlying3
  a3 := Tryz.isAgg3
  z3 := Tryz.sizeOf3
  v3 := Tryz.zeroValue3
  t4 := Tryz.underlying4
  a4 := Tryz.isAgg4
  z4 := Tryz.sizeOf4
  v4 := Tryz.zeroValue4
  t5 := Tryz.underlying5
  a5 := Tryz.isAgg5
  z5 := Tryz.sizeOf5
  v5 := Tryz.zeroValue5
  t9 := Tryz.underlying9
  a9 := Tryz.isAgg9
  z9 := Tryz.sizeOf9
  v9 := Tryz.zeroValue9
  t20 := Tryz.underlying20
  a20 := Tryz.isAgg20
  z20 := Tryz.sizeOf20
  v20 := Tryz.zeroValue20
  t37 := Tryz.underlying22
  a37 := Tryz.isAgg22
  z37 := Tryz.sizeOf22
  v37 := Tryz.zeroValue22
  t46 := Tryz.underlying132
  a46 := Tryz.isAgg132
  z46 := Tryz.sizeOf132
  v46 := Tryz.zeroValue132
  t51 := Tryz.underlying163
  a51 := Tryz.isAgg163
  z51 := Tryz.sizeOf163
  v51 := Tryz.zeroValue163
  t53 := Tryz.underlying165
  a53 := Tryz.isAgg165
  z53 := Tryz.sizeOf165
  v53 := Tryz.zeroValue165
  t171 := Tryz.underlying196
  a171 := Tryz.isAgg196
  z171 := Tryz.sizeOf196
  v171 := Tryz.zeroValue196
  t173 := Tryz.underlying198
  a173 := Tryz.isAgg198
  z173 := Tryz.sizeOf198
  v173 := Tryz.zeroValue198
  t212 := Tryz.underlying202
  a212 := Tryz.isAgg202
  z212 := Tryz.sizeOf202
  v212 := Tryz.zeroValue202
  t213 := Tryz.underlying203
  a213 := Tryz.isAgg203
  z213 := Tryz.sizeOf203
  t232 := Tryz.underlying204
  a232 := Tryz.isAgg204
  z232 := Tryz.sizeOf204
  v232 := Tryz.zeroValue204
  t233 := Tryz.underlying205
  a233 := Tryz.isAgg205
  z233 := Tryz.sizeOf205
  v233 := Tryz.zeroValue205
  g17 := by kernel_rfl
  g18 := by kernel_rfl
  g19 := by kernel_rfl
  i0 := by kernel_rfl
  i2 := by kernel_rfl
  i3 := by kernel_rfl
  i4 := by kernel_rfl
  i5 := by kernel_rfl
  i9 := by kernel_rfl
  i20 := by kernel_rfl
  i37 := by kernel_rfl
  i46 := by kernel_rfl
  i51 := by kernel_rfl
  i53 := by kernel_rfl
  i171 := by kernel_rfl
  i173 := by kernel_rfl
  i212 := by kernel_rfl
  i232 := by kernel_rfl
  i233 := by kernel_rfl
  m17 := by kernel_rfl
  m18 := by kernel_rfl
  m19 := by kernel_rfl }
open Go.RowKit Go.Sort Go.Lib in
theorem Tryz.strconv_Itoa (n : Int) (h0 : -9223372036854775808 ≤ n) (h1 : n ≤ 9223372036854775807) (w : World) (htab : Lib.TabIs Tryz.prog w "internal/strconv.uint64pow10" .u64 Lib.pow10Tab) :
    Calls Tryz.prog 126 #[.int .i64 n] w fun e w' => e = .returned (.string ⟨(Lib.itoa n).toArray⟩) ∧ ∃ k os, w' = grow (w.drewN k) os := Any.strconv_Itoa Tryz.laysM171 n h0 h1 w htab
def Tryz.lays171_ren : Go.Shelf.Ren := ⟨fun | 171 => 126 | 243 => 154 | 246 => 174 | 283 => 181 | 284 => 182 | 285 => 183 | 286 => 184 | 129 => 145 | 317 => 187 | 318 => 188 | 319 => 189 | 320 => 190 | 337 => 191 | 338 => 192 | n => n, fun | 3 => 3 | 9 => 9 | 2 => 2 | 4 => 4 | 171 => 196 | 0 => 0 | 53 => 165 | 37 => 22 | 5 => 5 | 173 => 198 | 212 => 202 | 51 => 163 | 20 => 20 | 213 => 203 | 46 => 132 | 232 => 204 | 233 => 205 | n => n, fun | 17 => 1 | 18 => 2 | 19 => 3 | n => n⟩
theorem Tryz.lays171 : Go.Proofs.Lays.n171 Tryz.prog Tryz.lays171_ren := {
  mixed := by kernel_rfl
  f129 := Tryz.func145.trans (congrArg some (by kernel_rfl))
  f171 := Tryz.func126.trans (congrArg some (by kernel_rfl))
  f243 := Tryz.func154.trans (congrArg some (by kernel_rfl))
  f246 := Tryz.func174.trans (congrArg some (by kernel_rfl))
  f283 := Tryz.func181.trans (congrArg some (by kernel_rfl))
  f284 := Tryz.func182.trans (congrArg some (by kernel_rfl))
  f285 := Tryz.func183.trans (congrArg some (by kernel_rfl))
  f286 := Tryz.func184.trans (congrArg some (by kernel_rfl))
  f317 := Tryz.func187.trans (congrArg some (by kernel_rfl))
  f318 := Tryz.func188.trans (congrArg some (by kernel_rfl))
  f319 := Tryz.func189.trans (congrArg some (by kernel_rfl))
  f320 := Tryz.func190.trans (congrArg some (by kernel_rfl))
  f337 := Tryz.func191.trans (congrArg some (by kernel_rfl))
  f338 := Tryz.func192.trans (congrArg some (by kernel_rfl))
  t0 := Tryz.underlying0
  a0 := Tryz.isAgg0
  z0 := Tryz.sizeOf0
  v0 := Tryz.zeroValue0
  t2 := Tryz.underlying2
  a2 := Tryz.isAgg2
  z2 := Tryz.sizeOf2
  v2 := Tryz.zeroValue2
  t3 := Tryz.underlying3
  a3 := Tryz.isAgg3
  z3 := Tryz.sizeOf3
  v3 := Tryz.zeroValue3
  t4 := Tryz.underlying4
  a4 := Tryz.isAgg4
  z4 := Tryz.sizeOf4
  v4 := Tryz.zeroValue4
  t5 := Tryz.underlying5
  a5 := Tryz.isAgg5
  z5 := Tryz.sizeOf5
  v5 := Tryz.zeroValue5
  t9 := Tryz.underlying9
  a9 := Tryz.isAgg9
  z9 := Tryz.sizeOf9
  v9 := Tryz.zeroValue9
  t20 := Tryz.underlying20
  a20 := Tryz.isAgg20
  z20 := Tryz.sizeOf20
  v20 := Tryz.zeroValue20
  t37 := Tryz.underlying22
  a37 := Tryz.isAgg22
  z37 := Tryz.sizeOf22
  v37 := Tryz.zeroValue22
  t46 := Tryz.underlying132
  a46 := Tryz.isAgg132
  z46 := Tryz.sizeOf132
  v46 := Tryz.zeroValue132
  t51 := Tryz.underlying163
  a51 := Tryz.isAgg163
  z51 := Tryz.sizeOf163
  v51 := Tryz.zeroValue163
  t53 := Tryz.underlying165
  a53 := Tryz.isAgg165
  z53 := Tryz.sizeOf165
  v53 := Tryz.zeroValue165
  t171 := Tryz.underlying196
  a171 := Tryz.isAgg196
  z171 := Tryz.sizeOf196
  v171 := Tryz.zeroValue196
  t173 := Tryz.underlying198
  a173 := Tryz.isAgg198
  z173 := Tryz.sizeOf198
  v173 := Tryz.zeroValue198
  t212 := Tryz.underlying202
  a212 := Tryz.isAgg202
  z212 := Tryz.sizeOf202
  v212 := Tryz.zeroValue202
  t213 := Tryz.underlying203
  a213 := Tryz.isAgg203
  z213 := Tryz.sizeOf203
  t232 := Tryz.underlying204
  a232 := Tryz.isAgg204
  z232 := Tryz.sizeOf204
  v232 := Tryz.zeroValue204
  t233 := Tryz.underlying205
  a233 := Tryz.isAgg205
  z233 := Tryz.sizeOf205
  v233 := Tryz.zeroValue205
  g17 := by kernel_rfl
  g18 := by kernel_rfl
  g19 := by kernel_rfl }
open Go.RowKit Go.Sort Go.Lib in
theorem Tryz.strconv_Itoa_small (i : Nat) (hi : i < 100) (w : World) :
    Calls Tryz.prog 126 #[.int .i64 i] w fun e w' => e = .returned (.string ⟨(Lib.decDigits i).toArray⟩) ∧ w' = w := Any.strconv_Itoa_small Tryz.lays171 i hi w
def Tryz.lays190_ren : Go.Shelf.Ren := ⟨fun | 190 => 55 | 125 => 110 | 258 => 109 | 128 => 144 | 129 => 145 | 302 => 135 | 303 => 136 | 304 => 137 | 305 => 138 | 306 => 139 | 307 => 140 | 308 => 141 | 309 => 142 | 310 => 143 | 333 => 166 | 329 => 167 | 330 => 168 | 334 => 169 | 335 => 170 | 336 => 130 | 344 => 178 | n => n, fun | 31 => 50 | 9 => 9 | 3 => 3 | 46 => 132 | 0 => 0 | 51 => 163 | 53 => 165 | 4 => 4 | 183 => 155 | 182 => 154 | 131 => 160 | 5 => 5 | 218 => 183 | 222 => 187 | 228 => 192 | 229 => 193 | n => n, fun | n => n⟩
theorem Tryz.lays190 : Go.Proofs.Lays.n190 Tryz.prog Tryz.lays190_ren := {
  mixed := by kernel_rfl
  f125 := Tryz.func110.trans (congrArg some (by kernel_rfl))
  f128 := Tryz.func144.trans (congrArg some (by kernel_rfl))
  f129 := Tryz.func145.trans (congrArg some (by kernel_rfl))
  f190 := Tryz.func55.trans (congrArg some (by kernel_rfl))
  f258 := Tryz.func109.trans (congrArg some (by kernel_rfl))
  f302 := Tryz.func135.trans (congrArg some (by kernel_rfl))
  f303 := Tryz.func136.trans (congrArg some (by kernel_rfl))
  f304 := Tryz.func137.trans (congrArg some (by kernel_rfl))
  f305 := Tryz.func138.trans (congrArg some (by kernel_rfl))
  f306 := Tryz.func139.trans (congrArg some (by kernel_rfl))
  f307 := Tryz.func140.trans (congrArg some (by kernel_rfl))
  f308 := Tryz.func141.trans (congrArg some (by kernel_rfl))
  f309 := Tryz.func142.trans (congrArg some (by kernel_rfl))
  f310 := Tryz.func143.trans (congrArg some (by kernel_rfl))
  f329 := Tryz.func167.trans (congrArg some (by kernel_rfl))
  f330 := Tryz.func168.trans (congrArg some (by kernel_rfl))
  f333 := Tryz.func166.trans (congrArg some (by kernel_rfl))
  f334 := Tryz.func169.trans (congrArg some (by kernel_rfl))
  f335 := Tryz.func170.trans (congrArg some (by kernel_rfl))
  f336 := Tryz.func130.trans (congrArg some (by kernel_rfl))
  f344 := Tryz.func178.trans (congrArg some (by kernel_rfl))
  t0 := Tryz.underlying0
  a0 := Tryz.isAgg0
  z0 := Tryz.sizeOf0
  v0 := Tryz.zeroValue0
  t3 := Tryz.underlying3
  a3 := Tryz.isAgg3
  z3 := Tryz.sizeOf3
  v3 := Tryz.zeroValue3
  t4 := Tryz.underlying4
  a4 := Tryz.isAgg4
  z4 := Tryz.sizeOf4
  v4 := Tryz.zeroValue4
  t5 := Tryz.underlying5
  a5 := Tryz.isAgg5
  z5 := Tryz.sizeOf5
  v5 := Tryz.zeroValue5
  t9 := Tryz.underlying9
  a9 := Tryz.isAgg9
  z9 := Tryz.sizeOf9
  v9 := Tryz.zeroValue9
  t31 := Tryz.underlying50
  a31 := Tryz.isAgg50
  z31 := Tryz.sizeOf50
  v31 := Tryz.zeroValue50
  t46 := Tryz.underlying132
  a46 := Tryz.isAgg132
  z46 := Tryz.sizeOf132
  v46 := Tryz.zeroValue132
  t51 := Tryz.underlying163
  a51 := Tryz.isAgg163
  z51 := Tryz.sizeOf163
  v51 := Tryz.zeroValue163
  t53 := Tryz.underlying165
  a53 := Tryz.isAgg165
  z53 := Tryz.sizeOf165
  v53 := Tryz.zeroValue165
  t131 := Tryz.underlying160
  a131 := Tryz.isAgg160
  z131 := Tryz.sizeOf160
  v131 := Tryz.zeroValue160
  t182 := Tryz.underlying154
  a182 := Tryz.isAgg154
  z182 := Tryz.sizeOf154
  v182 := Tryz.zeroValue154
  t183 := Tryz.underlying155
  a183 := Tryz.isAgg155
  z183 := Tryz.sizeOf155
  v183 := Tryz.zeroValue155
  t218 := Tryz.underlying183
  a218 := Tryz.isAgg183
  z218 := Tryz.sizeOf183
  v218 := Tryz.zeroValue183
  t222 := Tryz.underlying187
  a222 := Tryz.isAgg187
  z222 := Tryz.sizeOf187
  v222 := Tryz.zeroValue187
  t228 := Tryz.underlying192
  a228 := Tryz.isAgg192
  z228 := Tryz.sizeOf192
  v228 := Tryz.zeroValue192
  t229 := Tryz.underlying193
  a229 := Tryz.isAgg193
  z229 := Tryz.sizeOf193
  v229 := Tryz.zeroValue193 }
open Go.Sort Go.RowKit in
theorem Tryz.slices_Sort_string (blk off cap : Nat) (ss : List (List UInt8)) (w : World) (hH : Holds encStr w blk off ss.toArray) (hblk : blk < w.heap.size) (hsz : ss.length < 4611686018427387904) :
    Calls Tryz.prog 55 #[.slice (some ⟨blk, off, none⟩) ss.length cap] w fun e w' =>
      e = .returned (.tuple #[]) ∧ ∃ n os, w' = grow (putRow encStr (Sort.ahead w n) blk off (ss.mergeSort fun x y => decide (x ≤ y)).toArray) os := Any.slices_Sort_string Tryz.lays190 blk off cap ss w hH hblk hsz
def Tryz.lays194_ren : Go.Shelf.Ren := ⟨fun | 194 => 56 | n => n, fun | 31 => 50 | 9 => 9 | 3 => 3 | 4 => 4 | 0 => 0 | n => n, fun | n => n⟩
theorem Tryz.lays194 : Go.Proofs.Lays.n194 Tryz.prog Tryz.lays194_ren := {
  mixed := by kernel_rfl
  f194 := Tryz.func56.trans (congrArg some (by kernel_rfl))
  t0 := Tryz.underlying0
  a0 := Tryz.isAgg0
  z0 := Tryz.sizeOf0
  v0 := Tryz.zeroValue0
  t3 := Tryz.underlying3
  a3 := Tryz.isAgg3
  z3 := Tryz.sizeOf3
  v3 := Tryz.zeroValue3
  t4 := Tryz.underlying4
  a4 := Tryz.isAgg4
  z4 := Tryz.sizeOf4
  v4 := Tryz.zeroValue4
  t9 := Tryz.underlying9
  a9 := Tryz.isAgg9
  z9 := Tryz.sizeOf9
  v9 := Tryz.zeroValue9
  t31 := Tryz.underlying50
  a31 := Tryz.isAgg50
  z31 := Tryz.sizeOf50
  v31 := Tryz.zeroValue50 }
open Go.RowKit Go.Lib Go.Sort in
theorem Tryz.slices_Compact_string_arr (blk off cap : Nat) (d : Array (List UInt8)) (w : World) (hH : Holds encStr w blk off d) (hsz : d.size ≤ 9223372036854775807) (hcap : d.size ≤ cap) :
    Calls Tryz.prog 56 #[.slice (some ⟨blk, off, none⟩) d.size cap] w fun e w' => e = .returned (.slice (some ⟨blk, off, none⟩) (compactUpTo d d.size).length cap) ∧ ∃ q, w' = putRow encStr (Sort.ahead w q) blk off (compactUpTo d d.size ++ List.replicate (d.size - (compactUpTo d d.size).length) []).toArray := Any.slices_Compact_string_arr Tryz.lays194 blk off cap d w hH hsz hcap
open Go.RowKit Go.Lib Go.Sort in
theorem Tryz.slices_Compact_string (blk off cap : Nat) (zs : List (List UInt8)) (w : World) (hH : Holds encStr w blk off zs.toArray) (hsz : zs.length ≤ 9223372036854775807) (hcap : zs.length ≤ cap) :
    Calls Tryz.prog 56 #[.slice (some ⟨blk, off, none⟩) zs.length cap] w fun e w' => e = .returned (.slice (some ⟨blk, off, none⟩) (Lib.compact zs).length cap) ∧ ∃ q, w' = putRow encStr (Sort.ahead w q) blk off (Lib.compact zs ++ List.replicate (zs.length - (Lib.compact zs).length) []).toArray := Any.slices_Compact_string Tryz.lays194 blk off cap zs w hH hsz hcap
open Go.RowKit Go.Lib Go.Sort in
theorem Tryz.slices_Compact_string_empty (a : Option Addr) (cap : Nat) (w : World) :
    Calls Tryz.prog 56 #[.slice a 0 cap] w fun e w' => e = .returned (.slice a 0 cap) ∧ w' = w := Any.slices_Compact_string_empty Tryz.lays194 a cap w
open Go.RowKit Go.Lib Go.Sort in
theorem Tryz.slices_Compact_string_cells (b off n c : Nat) (Sx : Nat → ByteArray) (w : World) (hbig : n ≤ 9223372036854775807) (hcap : n ≤ c) (hc : ∀ i, i < n → w.cell? ⟨b, off + i, none⟩ = some (.string (Sx i))) (hf : ∀ j, j < n → w.frozen? ⟨b, off + j, none⟩ = false) :
    Calls Tryz.prog 56 #[.slice (some ⟨b, off, none⟩) n c] w fun e w' => e = .returned (.slice (some ⟨b, off, none⟩) (Lib.compact (Lib.strsOf Sx n)).length c) ∧ ∃ q, w' = (w.drewN q).setCells b off ((Lib.compact (Lib.strsOf Sx n) ++ List.replicate (n - (Lib.compact (Lib.strsOf Sx n)).length) []).map encStr) := Any.slices_Compact_string_cells Tryz.lays194 b off n c Sx w hbig hcap hc hf
open Go.RowKit Go.Sort in
theorem Tryz.slices_Sort_string_none (p : Option Addr) (cap : Nat) (w : World) :
    Calls Tryz.prog 55 #[.slice p 0 cap] w fun e w' => e = .returned (.tuple #[]) ∧ w' = w := Any.slices_Sort_string_none Tryz.lays190 p cap w
end Go.Proofs
namespace Go.Proofs.YtlaaehjcooonfaaGreatDoor
set_option linter.unusedVariables false
set_option linter.unusedSimpArgs false
set_option linter.unusedSectionVars false
set_option maxHeartbeats 8000000
set_option maxRecDepth 100000
open Go.RowKit
variable {O : Ob} {w0 : World}
section
open Go.RowKit Go.Shelf Go.Sort Go.Lib
theorem strs_arr {w : World} {S : Sp} : ∀ {xs : List Str} {cs : List Value}, Arr Kd.str w S xs cs → cs = xs.map vs ∧ ∀ x ∈ xs, Lim x
 | [], _, h => ⟨h, fun x hx => by cases hx⟩
 | x :: xs, _, ⟨c1, c2, e, h1, h2⟩ => by
  obtain ⟨e2, h3⟩ := strs_arr h2
  refine ⟨by rw [e, h1.1, e2]; rfl, fun y hy => ?_⟩
  rcases List.mem_cons.1 hy with rfl | hy
  ·exact h1.2
  ·exact h3 y hy
theorem arr_strs {w : World} {S : Sp} : ∀ {xs : List Str}, (∀ x ∈ xs, Lim x) → Arr Kd.str w S xs (xs.map vs)
 | [], _ => rfl
 | x :: xs, h => ⟨[vs x], xs.map vs, rfl, ⟨rfl, h x List.mem_cons_self⟩, arr_strs fun y hy => h y (List.mem_cons_of_mem _ hy)⟩
theorem heap_put (w : World) (q g : Nat) (ys : List Str) (os : Array Obj) (b : Nat) (hb : b < w.heap.size) (hne : b ≠ g) : (grow (putRow encStr (Sort.ahead w q) g 0 ys.toArray) os).heap[b]? = w.heap[b]? := by
 have h1 : (w.heap.modify g (onCells (putCells encStr 0 ys.toArray))).size = w.heap.size := Array.size_modify
 simp only [grow, putRow, mapBlock, Sort.ahead]
 rw [Array.getElem?_append_left (by rw [h1]; exact hb), Array.getElem?_modify, if_neg (fun e => hne e.symm)]
theorem Ow.putS {e : TypeId} {w : World} {O : Ob} {g n c : Nat} {xs : List Str} (h : Ow Kd.str e w O (.slice (some ⟨g, 0, none⟩) n c) xs) (ys : List Str) (hl : ys.length = xs.length) (hy : ∀ y ∈ ys, Lim y) (q : Nat) (os : Array Obj) (hx : 0 < xs.length) :
  Gr w (grow (putRow encStr (Sort.ahead w q) g 0 ys.toArray) os) (some g) ∧ Ow Kd.str e (grow (putRow encStr (Sort.ahead w q) g 0 ys.toArray) os) O (.slice (some ⟨g, 0, none⟩) n c) ys := by
 have hgl := h.ltb g rfl
 have h1 : (w.heap.modify g (onCells (putCells encStr 0 ys.toArray))).size = w.heap.size := Array.size_modify
 refine ⟨⟨rfl, rfl, rfl, ?_, fun b hb hn => heap_put w q g ys os b hb fun e => hn (by rw [e])⟩, ?_⟩
 ·simp only [grow, putRow, mapBlock, Sort.ahead, Array.size_append, h1]; omega
 obtain ⟨cells, o1, o2, o3⟩ := h
 rcases o1.2 with ⟨_, e'⟩ | ⟨g', cap, cur, ev, h0, hg, hle, hmx, hcur, htake⟩
 ·omega
 ·cases ev
  have hk : Kd.str.sz = 1 := rfl
  refine ⟨ys.map vs, ⟨by rw [List.length_map, hk, Nat.mul_one], .inr ⟨g, c, putCells encStr 0 ys.toArray cur, by rw [hl], h0, ?_, by rw [hl]; exact hle, hmx, ?_, ?_⟩⟩, arr_strs hy, o3⟩
  ·simp only [grow, putRow, mapBlock, Sort.ahead]
   rw [Array.getElem?_append_left (by rw [h1]; exact hgl), Array.getElem?_modify, if_pos rfl, hg]; rfl
  ·rw [putCells, Array.size_mapIdx]; exact hcur
  ·rw [hk, Nat.mul_one]
   have hc1 : xs.length ≤ cur.size := by rw [hcur, hk, Nat.mul_one]; exact hle
   apply List.ext_getElem?
   intro j
   rw [List.getElem?_take, List.getElem?_map]
   by_cases hj : j < ys.length
   ·rw [if_pos hj, putCells, Array.getElem?_toList, Array.getElem?_mapIdx, Array.getElem?_eq_getElem OM, List.getElem?_eq_getElem hj]
    simp only [Option.map_some, Nat.zero_le, true_and, Nat.zero_add, List.size_toArray, hj, if_true, Nat.sub_zero]
    simp [hj]
   ·rw [if_neg hj, List.getElem?_eq_none OM]; rfl
theorem Ow.holds {e : TypeId} {w : World} {O : Ob} {g n c : Nat} {xs : List Str} (h : Ow Kd.str e w O (.slice (some ⟨g, 0, none⟩) n c) xs) : Holds encStr w g 0 xs.toArray := by
 obtain ⟨cells, o1, o2, o3⟩ := h
 obtain ⟨e2, _⟩ := strs_arr o2
 intro j hj
 simp only [List.size_toArray] at hj
 rcases o1.2 with ⟨_, e'⟩ | ⟨g', cap, cur, ev, h0, hg, hle, hmx, hcur, htake⟩
 ·omega
 ·cases ev
  have hc := World.ownsRow.cells o1 (g := g) rfl j (vs xs[j]) (by rw [e2]; simp [hj])
  have ha : (⟨g, 0, none⟩ : Addr).add j = ⟨g, 0 + j, none⟩ := by unfold Addr.add; split <;> simp_all
  rw [ha] at hc
  refine ⟨by rw [hc]; simp [hj], ?_⟩
  simp [World.frozen?, hg]
def sortS (xs : List Str) : List Str := xs.mergeSort fun x y => decide (x ≤ y)
theorem Ow.form {e : TypeId} {w : World} {O : Ob} {A : Option Addr} {n c : Nat} {xs : List Str} (h : Ow Kd.str e w O (.slice A n c) xs) (hx : 0 < xs.length) : ∃ g, A = some ⟨g, 0, none⟩ ∧ n = xs.length ∧ xs.length ≤ c ∧ g < w.heap.size := by
 obtain ⟨cells, o1, o2, o3⟩ := h
 rcases o1.2 with ⟨_, e'⟩ | ⟨g', cap, cur, ev, h0, hg, hle, hmx, hcur, htake⟩
 ·omega
 ·cases ev; exact ⟨g', rfl, rfl, hle, (Array.getElem?_eq_some_iff.1 hg).1⟩
theorem Ow.lims {e : TypeId} {w : World} {O : Ob} {v : Value} {xs : List Str} (h : Ow Kd.str e w O v xs) : ∀ x ∈ xs, Lim x := by
 obtain ⟨cells, o1, o2, o3⟩ := h
 exact (strs_arr o2).2
theorem compact_le (x : List Str) : (Lib.compact x).length ≤ x.length := by
 unfold Lib.compact Lib.compactUpTo
 rw [List.length_map]
 exact Nat.le_trans (List.length_filter_le _ _) (by rw [List.length_range]; exact Nat.le_refl _)
theorem compact_mem {x : List Str} {y : Str} (h : y ∈ Lib.compact x) : y ∈ x := by
 unfold Lib.compact Lib.compactUpTo at h
 obtain ⟨j, hj, rfl⟩ := List.mem_map.1 h
 have hl : j < x.length := List.mem_range.1 (List.mem_filter.1 hj).1
 simp [hl]
end
section
open Go.Shelf Go.Sort Go.Lib
def F8.E (x : List Str) (Q : List Str → Prop) : Prop := x.length ≤ 268435456 ∧ Q (sortS x)
theorem F8.calls {O : Ob} (w0 : World) (hO : Ok w0 O) (A : Option Addr) (n c : Nat) (x : List Str) (hp : Ow Kd.str 9 w0 O (.slice A n c) x) (Q : List Str → Prop) (h : F8.E x Q) :
  Ret Tryz.prog 55 [.slice A n c] w0 (fun v w' => ∃ (m0 : List Str), v = .tuple #[] ∧ Q m0 ∧ Gr w0 w' (blk (.slice A n c)) ∧ Ow Kd.str 9 w' O (.slice A n c) m0) := by
 obtain ⟨hl, hq⟩ := h
 by_cases hx : 0 < x.length
 ·obtain ⟨g, rfl, rfl, hc, hg⟩ := hp.form hx
  refine Calls.mono (Tryz.slices_Sort_string g 0 c x w0 hp.holds hg OM) fun e w' ⟨he, q, os, hw⟩ => ?_
  subst he; subst hw
  have hs : (sortS x).length = x.length := List.length_mergeSort _
  obtain ⟨h1, h2⟩ := hp.putS (sortS x) hs (fun y hy => hp.lims y (List.mem_mergeSort.1 hy)) q os hx
  exact ⟨_, rfl, sortS x, rfl, hq, h1, h2⟩
 ·have e0 : x = [] := List.length_eq_zero_iff.1 OM
  subst e0
  obtain rfl : n = 0 := hp.len
  refine Calls.mono (Tryz.slices_Sort_string_none A c w0) fun e w' ⟨he, hw⟩ => ?_
  subst he; subst hw
  exact ⟨_, rfl, [], rfl, (by simpa [sortS] using hq), Gr.refl _ _, hp⟩
end
section
open Go.Shelf Go.Sort Go.Lib
def F1.E (x : List Str) (Q : List Str → Prop) : Prop := x.length ≤ 268435456 ∧ Q (Lib.compact x)
theorem F1.calls {O : Ob} (w0 : World) (hO : Ok w0 O) (A : Option Addr) (n c : Nat) (x : List Str) (hp : Ow Kd.str 9 w0 O (.slice A n c) x) (Q : List Str → Prop) (h : F1.E x Q) :
  Ret Tryz.prog 56 [.slice A n c] w0 (fun v w' => ∃ (m0 : List Str) (l : Nat), v = .slice A l c ∧ Q m0 ∧ Gr w0 w' (blk (.slice A n c)) ∧ Ow Kd.str 9 w' O (.slice A l c) m0) := by
 obtain ⟨hl, hq⟩ := h
 by_cases hx : 0 < x.length
 ·obtain ⟨g, rfl, rfl, hc, hg⟩ := hp.form hx
  refine Calls.mono (Tryz.slices_Compact_string g 0 c x w0 hp.holds OM hc) fun e w' ⟨he, q, hw⟩ => ?_
  have hcl := compact_le x
  rw [← grow_empty (putRow encStr (Sort.ahead w0 q) g 0 _)] at hw
  subst he; subst hw
  obtain ⟨h1, h2⟩ := hp.putS (Lib.compact x ++ List.replicate (x.length - (Lib.compact x).length) []) (by rw [List.length_append, List.length_replicate]; omega) (fun y hy => by
   rcases List.mem_append.1 hy with hy | hy
   ·exact hp.lims y (compact_mem hy)
   ·rw [List.eq_of_mem_replicate hy]; decide) q #[] hx
  have h3 := h2.cut (Lib.compact x).length (by rw [List.length_append]; omega)
  rw [List.take_left'] at h3
  ·exact ⟨_, rfl, Lib.compact x, _, rfl, hq, h1, h3⟩
  ·rfl
 ·have e0 : x = [] := List.length_eq_zero_iff.1 OM
  subst e0
  obtain rfl : n = 0 := hp.len
  refine Calls.mono (Tryz.slices_Compact_string_empty A c w0) fun e w' ⟨he, hw⟩ => ?_
  subst he; subst hw
  exact ⟨_, rfl, [], _, rfl, hq, Gr.refl _ _, hp⟩
end
def F30.E (t_ : Tag) (fv2 : Str) (Q : Bool → Prop) : Prop :=
 Q (t_.Key == fv2)
theorem F30.calls {t_ : Tag} {b : Nat} {fv2 : Str} {Q : Bool → Prop} (H : F30.E t_ fv2 Q) (hO : Ok w0 O) (hs1 : Lim t_.Key) (hs2 : Lim t_.Val) (hs4 : Lim fv2) (hp1 : Fb w0 O b [vs fv2]) :
  Ret Tryz.prog 151 [.agg #[vs t_.Key, vs t_.Val], Pz b] w0 (fun v w' => ∃ (r0 : Bool), v = vb r0 ∧ Q r0 ∧ Gr w0 w' none) := by
 unfold F30.E at H;have hc0 := Ct.init hO;refine Yd Tryz.func151 Z 8 Z [.tmp 3] Z Z ?_;refine Xc (Xd (Yk [vs t_.Key, vs t_.Val] Z fun w5 b6 hl8 hu9 g7 ab => ?_));have ac := Fb.mk hc0.ok hl8 ab;have aa := hc0.k0 g7;refine Xf (vb false) Z (Xb (Xc (Xd (Xa (Xm fa93_0 (Ad b6 0) (Ad b6 0) Z Z) (Xa (Xp ag9 cL (Ad b6 0) (vs t_.Key) Z (ac.cell Z)) ?_)))));have ad := (hp1.st aa.st);exact Xa (Xp ag9 cL (Ad b 0) (vs fv2) Z (ad.cell Z)) (Xa (Y0 t_.Key fv2 (t_.Key == fv2) Z Z Z) (Xf (vb (t_.Key == fv2)) Z (Xb (Xk ⟨[vb (t_.Key == fv2)], ⟨_, Z, Z⟩, t_.Key == fv2, Z, H, aa.gr.g0⟩))))
def F5.E (s : List Tag) (f : Tag → Bool) (f_ok : Tag → Prop) (Q : Int → Prop) : Prop :=
 (∃ (I23 : Int → Prop) (mu24 : Int → Nat), I23 0 ∧ ∀ (v2 : Int), I23 v2 → (if decide (v2 < (s.length : Int)) then ((0 : Int) ≤ v2 ∧ v2 < (s.length : Int)) ∧ (f_ok (nth s v2)) ∧ (if (f (nth s v2)) then Q v2 else (I64 (v2 + 1)) ∧ I23 (v2 + 1) ∧ mu24 (v2 + 1) < mu24 v2) else Q (-1)))
theorem F5.calls {s : List Tag} {A1 : Option Addr} {n2 c3 : Nat} {fg6 : FuncId} {fc7 : List Value} {f : Tag → Bool} {f_ok : Tag → Prop} {Q : Int → Prop} (H : F5.E s f f_ok Q) (hO : Ok w0 O) (hp4 : Sl kTag w0 (Fr O) (G A1 n2 c3) s) (hgo8 : Goes Tryz.prog fg6) (hf9 : ∀ (w : World) (L : Ob), Ct [] w0 w L O → ∀ (x0_ : Tag) (az : Lim x0_.Key) (a0 : Lim x0_.Val), f_ok x0_ → Ret Tryz.prog fg6 ([.agg #[vs x0_.Key, vs x0_.Val]] ++ fc7) w (fun v w' => v = vb (f x0_) ∧ Gr w w' none)) :
  Ret Tryz.prog 150 [G A1 n2 c3, .func (.func fg6) #[] fc7.toArray] w0 (fun v w' => ∃ (r0 : Int), v = vi r0 ∧ Q r0 ∧ Gr w0 w' none) := by
 unfold F5.E at H;have hc0 := Ct.init hO;refine Yd Tryz.func150 Z 19 Z [.tmp 4] Z Z ?_;refine Xc (Xd (Xf (vi 0) Z (Xb (Xc (Xc (Xd (Xe (G A1 n2 c3) Z ?_)))))));have a1 := hp4.le;refine Xa (X4 u42_ A1 n2 c3 hp4.len Z) (Xe (vi 0) Z (Xb (X8 ?_)));obtain ⟨ak, al, ac, H⟩ := H;refine Ys (α := Int) (fun (sv__ : Int) t aa => match sv__ with | v2 => ak v2 ∧ Has t [(0, G A1 n2 c3), (1, .func (.func fg6) #[] fc7.toArray), (7, vi (s.length : Int)), (8, vi v2)] ∧ Ct [] w0 aa [] O ∧ Sl kTag aa (Fr ([] ++ O)) (G A1 n2 c3) s) (fun (sv__ : Int) => match sv__ with | v2 => al v2) 0 ⟨ac, (Xt Z), hc0, hp4⟩ ?_;rintro v2 _ aa ⟨ac, am, ab, ad⟩;obtain ⟨a2, rfl⟩ := Has.ins am;have H := H v2 ac;refine Xc (Xd (Xa (Xx v2 (s.length : Int) (decide (v2 < (s.length : Int))) Z Z Z) (Xb (Xc ?_))));refine Xu (decide (v2 < (s.length : Int))) Z (fun ae => ?_) (fun ae => ?_)
 ·have H := Xi H ae;refine Xz (Xc (X8 (Xc (Xd (Xe (vi v2) Z (Xf (vi v2) Z (Xb (Xc ?_))))))));refine Xd (Xe (.func (.func fg6) #[] fc7.toArray) Z (Xe (G A1 n2 c3) Z (Xe (vi v2) Z ?_)));obtain ⟨ag, H⟩ := H;obtain ⟨ah, a3, an, a4, ao, ap⟩ := ad.get default RD v2 ag;obtain ⟨rfl, aq, ar⟩ := kTag.op ao;refine Xa (X3 u42_ Yx A1 ah n2 c3 ad.len v2 Z an Z ag) (Xa (Xr ag93 sz93 cL (ah.add (v2.toNat * 2)) [vs ((nth s v2).Key), vs ((nth s v2).Val)] Z Z ap) ?_);obtain ⟨au, H⟩ := H;refine Zh hgo8 fc7 Z [.agg #[vs ((nth s v2).Key), vs ((nth s v2).Val)]] Z ((hf9 aa [] ab (nth s v2) aq ar au).mono ?_);rintro _ a5 ⟨rfl, ai⟩;have aj := ab.k0 ai;refine Xb ?_;refine Xu (f (nth s v2)) Z (fun af => ?_) (fun af => ?_)
  ·have H := Xi H af;exact Xc (Xd (Xe (vi v2) Z (Xf (vi v2) Z (Xb (Xk ⟨[vi v2], ⟨_, Z, Z⟩, v2, Z, H, aj.gr.g0⟩)))))
  have H := Xj H af;refine Xz (Xd ?_);obtain ⟨av, H⟩ := H;refine Xa (X6 v2 1 Z Z av) (Xe (vi (v2 + 1)) Z (Xb ?_));obtain ⟨aw, ax⟩ := H;have ay := ab.stn ai;exact ⟨v2 + 1, ax, aw, (Xt Z), aj, (ad.st ay)⟩
 have H := Xj H ae;refine Ym (xin_hit ?_);exact Xc (Xd (Xf (vi (-1)) Z (Xb (Xk ⟨[vi (-1)], ⟨_, Z, Z⟩, (-1), Z, H, ab.gr.g0⟩))))
def F58.E (f : Feat) (key : Str) (Q : Int → Prop) : Prop :=
 (∃ (f2 : Tag → Bool) (f2_ok : Tag → Prop), (∀ x0_, f2_ok x0_ → F30.E x0_ key (fun r => r = f2 x0_)) ∧ F5.E f.Tags f2 f2_ok (fun r => Q r))
theorem F58.calls {f : Feat} {A2 : Option Addr} {n3 c4 : Nat} {A7 : Option Addr} {n8 c9 : Nat} {key : Str} {Q : Int → Prop} (H : F58.E f key Q) (hO : Ok w0 O) (hs1 : Lim f.Id) (hp5 : Sl kPt w0 (Fr O) (G A2 n3 c4) f.Shape.Pts) (ai : Sl kTag w0 (Fr O) (G A7 n8 c9) f.Tags) (aj : Lim key) :
  Ret Tryz.prog 122 [.agg #[vs f.Id, vi f.Shape.Kind, G A2 n3 c4, G A7 n8 c9], vs key] w0 (fun v w' => ∃ (r0 : Int), v = vi r0 ∧ Q r0 ∧ Gr w0 w' none) := by
 unfold F58.E at H;have hc0 := Ct.init hO;refine Yd Tryz.func122 Z 9 Z [.tmp 4] Z Z ?_;refine Xc (Xd (Yk [vs f.Id, vi f.Shape.Kind, G A2 n3 c4, G A7 n8 c9] Z fun az ab ak hu17 al am => ?_));have an := Fb.mk hc0.ok ak am;have ac := hc0.k0 al;refine Yk [vs key] Z fun ae aa ao hu26 af ap => ?_;have aq := Fb.mk ac.ok ao ap;have ad := ac.k0 af;refine Xf (vi 0) Z (Xb (Xc (Xd (Xa (Xm fa44_2 (Ad ab 0) (Ad ab 3) Z Z) ?_))));have ar := ac.stn af;have au := (an.st ar);refine Xa (Xp ag42 cL (Ad ab 3) (G A7 n8 c9) Z (au.cell Z)) (Xa (Ke [Pz aa] Z) ?_);obtain ⟨f2, f2_ok, av, H⟩ := H;have aw : ∀ (w : World) (L : Ob), Ct [] ae w L ([] ++ O) → ∀ (x0_ : Tag) (ag : Lim x0_.Key) (ah : Lim x0_.Val), f2_ok x0_ → Ret Tryz.prog 151 ([.agg #[vs x0_.Key, vs x0_.Val]] ++ [Pz aa]) w (fun v w' => v = vb (f2 x0_) ∧ Gr w w' none) := by
  intro w L c x0_ ag ah hok;refine (F30.calls (av x0_ hok) c.ok ag ah aj (aq.st c.st)).mono ?_;rintro _ w2 ⟨r, rfl, rfl, g2⟩;exact ⟨Z, g2⟩
 refine Xs go150 (F5.calls H ad.ok (ai.st ad.st) go151 aw) Z ?_;rintro _ a0 ⟨r, rfl, H, ax⟩;have ay := ad.k0 ax;exact Xf (vi r) Z (Xb (Xk ⟨[vi r], ⟨_, Z, Z⟩, r, Z, H, ay.gr.g0⟩))
def F77.E (f : Feat) (key : Str) (Q : value → Prop) : Prop :=
 F58.E f key (fun r => (if decide (r < 0) then Q (⟨false, []⟩ : value) else ((0 : Int) ≤ r ∧ r < (f.Tags.length : Int)) ∧ Q (⟨true, (nth f.Tags r).Val⟩ : value)))
theorem F77.calls {f : Feat} {A2 : Option Addr} {n3 c4 : Nat} {A7 : Option Addr} {n8 c9 : Nat} {key : Str} {Q : value → Prop} (H : F77.E f key Q) (hO : Ok w0 O) (hs1 : Lim f.Id) (hp5 : Sl kPt w0 (Fr O) (G A2 n3 c4) f.Shape.Pts) (af : Sl kTag w0 (Fr O) (G A7 n8 c9) f.Tags) (aq : Lim key) :
  Ret Tryz.prog 74 [.agg #[vs f.Id, vi f.Shape.Kind, G A2 n3 c4, G A7 n8 c9], vs key] w0 (fun v w' => ∃ (r0 : value), v = .agg #[vb r0.has, vs r0.val] ∧ Q r0 ∧ Gr w0 w' none ∧ Lim r0.val) := by
 unfold F77.E at H;have hc0 := Ct.init hO;refine Yd Tryz.func74 Z 19 Z [.cell 4 102] Z Z ?_;refine Xc (Xd (Yk [vs f.Id, vi f.Shape.Kind, G A2 n3 c4, G A7 n8 c9] Z fun bf ab ar hu17 au av => ?_));have aw := Fb.mk hc0.ok ar av;have ai := hc0.k0 au;refine Ya [vb false, vs []] ze102 fun ax ag aj hu26 ak al => ?_;have aa := ai.own ak (some ag) (X9 aj hu26);refine Xb (Xc (Xd ?_));have ay := ai.stown _ ak (Xg aj);have am := (aw.st ay);refine Xa (Xr ag44 sz44 cL (Ad ab 0) [vs f.Id, vi f.Shape.Kind, G A2 n3 c4, G A7 n8 c9] Z Z (am.cells (off := 00) Z)) (Xe (vs key) Z ?_);refine Xs go122 (F58.calls H aa.ok hs1 (hp5.st aa.st) (af.st aa.st) aq) Z ?_;rintro _ bg ⟨r, rfl, H, ac⟩;have ad := aa.k0 ac;refine Xf (vi r) Z (Xb (Xc (Xc (Xd (Xe (vi r) Z (Xa (Xx r 0 (decide (r < 0)) Z Z Z) (Xb ?_)))))));refine Xu (decide (r < 0)) Z (fun ah => ?_) (fun ah => ?_)
 ·have H := Xi H ah;refine Xc (Xd (Xa (Yi (.agg #[vb false, vs []]) RF) ?_));have az := (al.k0 ac);refine Xw [vb false, vs []] az Z Z sz102 Z Z fun bh a0 a1 => ?_;have an := ad.wr 0 Z a0;refine Xb (Xk ?_);have a2 := an.bgv a1 0 Z;have a3 := an.drop 0 Z;exact ⟨[.agg #[vb false, vs []]], ⟨_, _, Z, a2.1.res Z ag102 sz102, Z⟩, (⟨false, ([] : Str)⟩ : value), Z, H, a3.gr.g0, RD⟩
 have H := Xj H ah;refine Xz (Xc (Xd (Xa (Xm fa44_2 (Ad ab 0) (Ad ab 3) Z Z) ?_)));have a4 := aa.stn ac;have a5 := (am.st a4);refine Xa (Xp ag42 cL (Ad ab 3) (G A7 n8 c9) Z (a5.cell Z)) (Xe (vi r) Z ?_);obtain ⟨ao, H⟩ := H;obtain ⟨ae, bi, a6, bj, a7, a8⟩ := (af.st ad.st).get default RD r ao;obtain ⟨rfl, bl, a9⟩ := kTag.op a7;refine Xa (X3 u42_ Yx A7 ae n8 c9 (af.st ad.st).len r Z a6 Z ao) (Xa (Xm fa93_1 (ae.add (r.toNat * 2)) ((ae.add (r.toNat * 2)).add 1) Z Z) (Xa (Xp ag9 cL ((ae.add (r.toNat * 2)).add 1) (vs ((nth f.Tags r).Val)) Z (a8 1 _ Z)) (Xa (Yi (.agg #[vb true, vs ((nth f.Tags r).Val)]) RF) ?_)));have ba := (al.k0 ac);refine Xw [vb true, vs ((nth f.Tags r).Val)] ba Z Z sz102 Z Z fun bm bb bc => ?_;have ap := ad.wr 0 Z bb;refine Xb (Xk ?_);have bd := ap.bgv bc 0 Z;have be := ap.drop 0 Z;exact ⟨[.agg #[vb true, vs ((nth f.Tags r).Val)]], ⟨_, _, Z, bd.1.res Z ag102 sz102, Z⟩, (⟨true, (nth f.Tags r).Val⟩ : value), Z, H, be.gr.g0, a9⟩
def F10.E (base_ a b : value) (same : value → value → Bool) (same_ok : value → value → Prop) (Q : value → Bool → Prop) : Prop :=
 (same_ok a base_) ∧ (if (same a base_) then Q b true else (same_ok b base_) ∧ (if (same b base_) then Q a true else (same_ok a b) ∧ (if (same a b) then Q a true else Q a false)))
theorem F10.calls {base_ : value} {a : value} {b : value} {fg4 : FuncId} {fc5 : List Value} {same : value → value → Bool} {same_ok : value → value → Prop} {Q : value → Bool → Prop} (H : F10.E base_ a b same same_ok Q) (hO : Ok w0 O) (hs1 : Lim base_.val) (hs2 : Lim a.val) (hs3 : Lim b.val) (hgo6 : Goes Tryz.prog fg4) (hf7 : ∀ (w : World) (L : Ob), Ct [] w0 w L O → ∀ (x0_ : value) (hs8 : Lim x0_.val) (x1_ : value) (hs9 : Lim x1_.val), same_ok x0_ x1_ → Ret Tryz.prog fg4 ([.agg #[vb x0_.has, vs x0_.val], .agg #[vb x1_.has, vs x1_.val]] ++ fc5) w (fun v w' => v = vb (same x0_ x1_) ∧ Gr w w' none)) :
  Ret Tryz.prog 75 [.agg #[vb base_.has, vs base_.val], .agg #[vb a.has, vs a.val], .agg #[vb b.has, vs b.val], .func (.func fg4) #[] fc5.toArray] w0 (fun v w' => ∃ (r0 : value) (r1 : Bool), v = .tuple #[.agg #[vb r0.has, vs r0.val], vb r1] ∧ Q r0 r1 ∧ Gr w0 w' none ∧ Lim r0.val) := by
 unfold F10.E at H;have hc0 := Ct.init hO;refine Yd Tryz.func75 Z 27 Z [.cell 8 102, .tmp 9] Z Z ?_;refine Xc (Xd (Yk [vb base_.has, vs base_.val] Z fun w8 b9 ba hu12 bb bc => ?_));have bd := Fb.mk hc0.ok ba bc;have am := hc0.k0 bb;refine Yk [vb a.has, vs a.val] Z fun cn ad be hu21 av bf => ?_;have bg := Fb.mk am.ok be bf;have an := am.k0 av;refine Yk [vb b.has, vs b.val] Z fun co ao bh hu30 aw bi => ?_;have ax := Fb.mk an.ok bh bi;have ay := an.k0 aw;refine Ya [vb false, vs []] ze102 fun bj aa az hu39 a0 ah => ?_;have ai := ay.own a0 (some aa) (X9 az hu39);refine Xf (vb false) Z (Xb (Xc (X8 (Xc (Xd (Xe (.func (.func fg4) #[] fc5.toArray) Z ?_))))));have a1 := an.stn aw;have aj := ay.stown _ a0 (Xg az);have ap := ((bg.st a1).st aj);refine Xa (Xr ag102 sz102 cL (Ad ad 0) [vb a.has, vs a.val] Z Z (ap.cells (off := 00) Z)) ?_;have bl := am.stn av;have a2 := (((bd.st bl).st a1).st aj);refine Xa (Xr ag102 sz102 cL (Ad b9 0) [vb base_.has, vs base_.val] Z Z (a2.cells (off := 00) Z)) ?_;obtain ⟨bm, H⟩ := H;refine Zh hgo6 fc5 Z [.agg #[vb a.has, vs a.val], .agg #[vb base_.has, vs base_.val]] Z ((hf7 bj [some aa] ai a hs2 base_ hs1 bm).mono ?_);rintro _ bn ⟨rfl, ab⟩;have ae := ai.k0 ab;refine Xf (vb (same a base_)) Z (Xb ?_);refine Xu (same a base_) Z (fun aq => ?_) (fun aq => ?_)
 ·have H := Xi H aq;refine Xc (Xd ?_);have bo := ai.stn ab;have bp := ((ax.st aj).st bo);refine Xa (Xr ag102 sz102 cL (Ad ao 0) [vb b.has, vs b.val] Z Z (bp.cells (off := 00) Z)) ?_;have bq := (ah.k0 ab);refine Xw [vb b.has, vs b.val] bq Z Z sz102 Z Z fun cp br bs => ?_;have a3 := ae.wr 0 Z br;refine Xf (vb true) Z (Xb (Xk ?_));have bt := a3.bgv bs 0 Z;have bu := a3.drop 0 Z;exact ⟨[.agg #[vb b.has, vs b.val], vb true], ⟨_, _, Z, bt.1.res Z ag102 sz102, ⟨_, Z, Z⟩⟩, b, true, Z, H, bu.gr.g0, hs3⟩
 have H := Xj H aq;refine Xc (Xc (Xd (Xe (.func (.func fg4) #[] fc5.toArray) Z ?_)));have ak := ai.stn ab;have a4 := ((ax.st aj).st ak);refine Xa (Xr ag102 sz102 cL (Ad ao 0) [vb b.has, vs b.val] Z Z (a4.cells (off := 00) Z)) ?_;have bv := (a2.st ak);refine Xa (Xr ag102 sz102 cL (Ad b9 0) [vb base_.has, vs base_.val] Z Z (bv.cells (off := 00) Z)) ?_;obtain ⟨bw, H⟩ := H;refine Zh hgo6 fc5 Z [.agg #[vb b.has, vs b.val], .agg #[vb base_.has, vs base_.val]] Z ((hf7 bn [some aa] ae b hs3 base_ hs1 bw).mono ?_);rintro _ bx ⟨rfl, ac⟩;have af := ae.k0 ac;refine Xf (vb (same b base_)) Z (Xb ?_);refine Xu (same b base_) Z (fun al => ?_) (fun al => ?_)
 ·have H := Xi H al;refine Xz (Yp (b := (same b base_)) Z al ?_);refine Xc (Xd ?_);have bz := ae.stn ac;have b0 := ((ap.st ak).st bz);refine Xa (Xr ag102 sz102 cL (Ad ad 0) [vb a.has, vs a.val] Z Z (b0.cells (off := 00) Z)) ?_;have b1 := ((ah.k0 ab).k0 ac);refine Xw [vb a.has, vs a.val] b1 Z Z sz102 Z Z fun cq b2 b3 => ?_;have a5 := af.wr 0 Z b2;refine Xf (vb true) Z (Xb (Xk ?_));have b4 := a5.bgv b3 0 Z;have b5 := a5.drop 0 Z;exact ⟨[.agg #[vb a.has, vs a.val], vb true], ⟨_, _, Z, b4.1.res Z ag102 sz102, ⟨_, Z, Z⟩⟩, a, true, Z, H, b5.gr.g0, hs2⟩
 have H := Xj H al;refine Xd (Xe (.func (.func fg4) #[] fc5.toArray) Z ?_);have a6 := ae.stn ac;have ar := ((ap.st ak).st a6);refine Xa (Xr ag102 sz102 cL (Ad ad 0) [vb a.has, vs a.val] Z Z (ar.cells (off := 00) Z)) ?_;have b6 := (a4.st a6);refine Xa (Xr ag102 sz102 cL (Ad ao 0) [vb b.has, vs b.val] Z Z (b6.cells (off := 00) Z)) ?_;obtain ⟨b7, H⟩ := H;refine Zh hgo6 fc5 Z [.agg #[vb a.has, vs a.val], .agg #[vb b.has, vs b.val]] Z ((hf7 bx [some aa] af a hs2 b hs3 b7).mono ?_);rintro _ cr ⟨rfl, ag⟩;have a7 := af.k0 ag;refine Xf (vb (same a b)) Z (Xb ?_);refine Xu (same a b) Z (fun au => ?_) (fun au => ?_)
 ·have H := Xi H au;refine Xc (Xd ?_);have b8 := af.stn ag;have ca := (ar.st b8);refine Xa (Xr ag102 sz102 cL (Ad ad 0) [vb a.has, vs a.val] Z Z (ca.cells (off := 00) Z)) ?_;have cb := (((ah.k0 ab).k0 ac).k0 ag);refine Xw [vb a.has, vs a.val] cb Z Z sz102 Z Z fun cs cc cd => ?_;have a8 := a7.wr 0 Z cc;refine Xf (vb true) Z (Xb (Xk ?_));have ce := a8.bgv cd 0 Z;have cf := a8.drop 0 Z;exact ⟨[.agg #[vb a.has, vs a.val], vb true], ⟨_, _, Z, ce.1.res Z ag102 sz102, ⟨_, Z, Z⟩⟩, a, true, Z, H, cf.gr.g0, hs2⟩
 have H := Xj H au;refine Xz (Xc (Xd ?_));have cg := af.stn ag;have ch := (ar.st cg);refine Xa (Xr ag102 sz102 cL (Ad ad 0) [vb a.has, vs a.val] Z Z (ch.cells (off := 00) Z)) ?_;have ci := (((ah.k0 ab).k0 ac).k0 ag);refine Xw [vb a.has, vs a.val] ci Z Z sz102 Z Z fun ct cj ck => ?_;have a9 := a7.wr 0 Z cj;refine Xf (vb false) Z (Xb (Xk ?_));have cl := a9.bgv ck 0 Z;have cm := a9.drop 0 Z;exact ⟨[.agg #[vb a.has, vs a.val], vb false], ⟨_, _, Z, cl.1.res Z ag102 sz102, ⟨_, Z, Z⟩⟩, a, false, Z, H, cm.gr.g0, hs2⟩
def F31.E (p q : value) (Q : Bool → Prop) : Prop :=
 Q (eqvalue p q)
theorem F31.calls {p : value} {q : value} {Q : Bool → Prop} (H : F31.E p q Q) (hO : Ok w0 O) (hs1 : Lim p.val) (hs2 : Lim q.val) :
  Ret Tryz.prog 76 [.agg #[vb p.has, vs p.val], .agg #[vb q.has, vs q.val]] w0 (fun v w' => ∃ (r0 : Bool), v = vb r0 ∧ Q r0 ∧ Gr w0 w' none) := by
 unfold F31.E at H;have hc0 := Ct.init hO;refine Yd Tryz.func76 Z 8 Z [.tmp 4] Z Z ?_;refine Xc (Xd (Yk [vb p.has, vs p.val] Z fun w3 b4 hl6 hu7 g5 hx8 => ?_));have ac := Fb.mk hc0.ok hl6 hx8;have aa := hc0.k0 g5;refine Yk [vb q.has, vs q.val] Z fun ak ad ae hu16 ab af => ?_;have ag := Fb.mk aa.ok ae af;have ah := aa.k0 ab;refine Xf (vb false) Z (Xb (Xc (Xd ?_)));have ai := aa.stn ab;have aj := (ac.st ai);exact Xa (Xr ag102 sz102 cL (Ad b4 0) [vb p.has, vs p.val] Z Z (aj.cells (off := 00) Z)) (Xa (Xr ag102 sz102 cL (Ad ad 0) [vb q.has, vs q.val] Z Z (ag.cells (off := 00) Z)) (Xa (Zi _ _ (eqvalue p q) (qt102 p q) Z Z) (Xf (vb (eqvalue p q)) Z (Xb (Xk ⟨[vb (eqvalue p q)], ⟨_, Z, Z⟩, eqvalue p q, Z, H, ah.gr.g0⟩)))))
def F39.E (f : Feat) (Q : Feat → Prop) : Prop :=
 (([] : List Tag).length + f.Tags.length ≤ 268435456) ∧ F23.E f.Shape (fun r => Q (⟨f.Id, r, (([] : List Tag) ++ f.Tags)⟩ : Feat))
theorem F39.calls {f : Feat} {A2 : Option Addr} {n3 c4 : Nat} {A7 : Option Addr} {n8 c9 : Nat} {Q : Feat → Prop} (H : F39.E f Q) (hO : Ok w0 O) (hs1 : Lim f.Id) (hp5 : Sl kPt w0 (Fr O) (G A2 n3 c4) f.Shape.Pts) (bn : Sl kTag w0 (Fr O) (G A7 n8 c9) f.Tags) :
  Ret Tryz.prog 77 [.agg #[vs f.Id, vi f.Shape.Kind, G A2 n3 c4, G A7 n8 c9]] w0 (fun v w' => ∃ (r0 : Feat) (Aw0 : Option Addr) (nw0 cw0 : Nat) (Aw2 : Option Addr) (nw2 cw2 : Nat), v = .agg #[vs r0.Id, vi r0.Shape.Kind, G Aw0 nw0 cw0, G Aw2 nw2 cw2] ∧ Q r0 ∧ Gk w0 w' [bk Aw0, bk Aw2] O (Lim r0.Id ∧ Ow kPt 49 w' ([bk Aw0, bk Aw2] ++ O) (G Aw0 nw0 cw0) r0.Shape.Pts ∧ Ow kTag 93 w' ([bk Aw0, bk Aw2] ++ O) (G Aw2 nw2 cw2) r0.Tags)) := by
 unfold F39.E at H;have hc0 := Ct.init hO;refine Yd Tryz.func77 Z 13 Z [.cell 2 44] Z Z ?_;refine Xc (Xd (Yk [vs f.Id, vi f.Shape.Kind, G A2 n3 c4, G A7 n8 c9] Z fun dd ac b3 hu16 b4 b5 => ?_));have b6 := Fb.mk hc0.ok b3 b5;have bo := hc0.k0 b4;refine Ya [vs [], .int .i64 0, G none 0 0, G none 0 0] ze44 fun de aa bp hu25 bq br => ?_;have bs := bo.own bq (some aa) (X9 bp hu25);refine Xb (Xc ?_);obtain ⟨bt, H⟩ := H;refine Y1 (J := (fun t ai => ∃ (r : Shape) (ad : Option Addr) (aj ak : Nat) (ae : Option Addr) (al am : Nat), Has t [(2, Pz aa)] ∧ Cw [] w0 ai [bk ae, bk ad, some aa] O fun M => Ow kPt 49 ai M (G ad aj ak) r.Pts ∧ Ow kTag 93 ai M (G ae al am) (([] : List Tag) ++ f.Tags) ∧ Bx ai aa [vs f.Id, vi r.Kind, G ad aj ak, G ae al am] ∧ Q (⟨f.Id, r, (([] : List Tag) ++ f.Tags)⟩ : Feat))) ?_ ?_
 ·refine Yy 11 [some aa] RK Z fun b7 ap ab => ?_;have af := bs.k0 ap;refine Xo 0 Z RK ab (Xm fa44_0 (Ad ac 0) (Ad ac 0) Z Z) ?_;have b8 := bo.stown _ bq (Xg bp);have b9 := bs.stn ap;have ah := ((b6.st b8).st b9);refine Xo 1 Z RK ab (Y5 ag9 cR (Ad ac 0) (vs f.Id) Z (ah.cell Z) (nm_cons (af.fne 0 ah.2 Z) nm_nil)) ?_;refine Xo 2 Z RK ab (Xm fa44_1 (Ad ac 0) (Ad ac 1) Z Z) ?_;refine Xo 3 Z RK ab (Y2 ag41 sz41 cR (Ad ac 1) [vi f.Shape.Kind, G A2 n3 c4] Z Z (ah.cells (off := 1) Z) (nm_cons (af.fne 0 ah.2 Z) nm_nil)) ?_;refine Xo 6 Z RK ab (Xm fa44_2 (Ad ac 0) (Ad ac 3) Z Z) ?_;refine Xo 7 Z RK ab (Y5 ag42 cR (Ad ac 3) (G A7 n8 c9) Z (ah.cell Z) (nm_cons (af.fne 0 ah.2 Z) nm_nil)) ?_;refine Yw 4 5 RK Z Z ?_ ?_
  ·refine Xs go72 (F23.calls H af.ok (hp5.st af.st)) Z ?_;rintro _ bu ⟨r, an, aq, ar, rfl, H, bc, ca, cb, cc⟩;have cd := af.owns bc ca cb;have au := Gm.tm ab bc;refine Xb ⟨au, ?_⟩;refine Xq 5 RK Z ?_;refine X7 (kd := kTag) Yl cd ([] : List Tag) (cells := []) Z RF fun df bv ce cf bd hr54 av cg => ?_;have ag := Gm.tm au bd;refine Xb ⟨ag, ?_⟩;refine Xq 8 RK Z ?_;refine Yf Yl av (G bv ce cf) ([] : List Tag) f.Tags Z cg (G A7 n8 c9) Z (bn.st av.st).sx 0 Z bt fun dg aw ax ay be bw az ch => ?_;have bf := Gm.tq ag be (hv_new au hr54);have dh := hv_app (L := [bk bv, bk an, some aa]) (O := O) (i := 0) ag Z (hv_new au hr54) bw az;refine Xb ⟨bf, ?_⟩;refine Xo 9 Z RK bf (Yi (.agg #[vs f.Id, vi r.Kind, G an aq ar, G aw ax ay]) RF) ?_;refine Xq 10 RK Z ?_;have ci := (av.bm (((br.k0 ap).k0 bc).k0 bd) 2 0 Z Z Z be);refine Xw [vs f.Id, vi r.Kind, G an aq ar, G aw ax ay] ci Z Z sz44 Z Z fun di a0 cj => ?_;have ck := az.wr 2 Z a0;have cl := Gm.tq bf a0 (hv_mem 0 Z);refine Xb ⟨cl, ?_⟩;refine Yg RK ?_;have cm := (az.sw (av.sm (cc.so _ bd hr54) 1 0 Z Z Z be bw) 1 2 Z Z Z a0);have cn := (az.sw ch 0 2 Z Z Z a0);exact ⟨r, an, aq, ar, aw, ax, ay, (Xt Z), ck, cm, cn, cj, H⟩
  refine X7 (kd := kTag) Yl af ([] : List Tag) (cells := []) Z RF fun bu bx co cp bz hr42 bg cq => ?_;have b0 := Gm.tm ab bz;refine Xb ⟨b0, ?_⟩;refine Xq 4 RK Z ?_;refine Xs go72 (F23.calls H bg.ok (hp5.st bg.st)) Z ?_;rintro _ dj ⟨r, ao, a1, a2, rfl, H, a3, cr, b1, cs⟩;have a4 := bg.owns a3 cr b1;have ag := Gm.tm b0 a3;refine Xb ⟨ag, ?_⟩;refine Xq 8 RK Z ?_;have ct := (cq.sos a3 b1);refine Yf Yl a4 (G bx co cp) ([] : List Tag) f.Tags Z ct (G A7 n8 c9) Z (bn.st a4.st).sx 1 Z bt fun dk a5 a6 a7 bh b2 a8 cu => ?_;have bi := Gm.tq ag bh (hv_new ab hr42);have dl := hv_app (L := [bk ao, bk bx, some aa]) (O := O) (i := 1) ag Z (hv_new ab hr42) b2 a8;refine Xb ⟨bi, ?_⟩;refine Xo 9 Z RK bi (Yi (.agg #[vs f.Id, vi r.Kind, G ao a1 a2, G a5 a6 a7]) RF) ?_;refine Xq 10 RK Z ?_;have cv := (a4.bm (((br.k0 ap).k0 bz).k0 a3) 2 1 Z Z Z bh);refine Xw [vs f.Id, vi r.Kind, G ao a1 a2, G a5 a6 a7] cv Z Z sz44 Z Z fun dm a9 cw => ?_;have bj := a8.wr 2 Z a9;have cx := Gm.tq bi a9 (hv_mem 0 Z);refine Xb ⟨cx, ?_⟩;refine Yg RK ?_;have cy := bj.perm (.swap _ _ _);have cz := (bj.sp (a8.sw (a4.sm cs 0 1 Z Z Z bh b2) 0 2 Z Z Z a9) (.swap _ _ _));have c0 := (bj.sp (a8.sw cu 1 2 Z Z Z a9) (.swap _ _ _));have c1 := cw;exact ⟨r, ao, a1, a2, a5, a6, a7, (Xt Z), cy, cz, c0, c1, H⟩
 rintro dn ai ⟨r, ad, aj, ak, ae, al, am, c2, ba, c3, c5, c6, H⟩;obtain ⟨dp, rfl⟩ := Has.ins c2;refine Xk ?_;have c7 := ba.bgv c6 2 Z;have bb := ba.drop 2 Z;have bl := bb.perm (.swap _ _ _);have c8 := bb.stp (.swap _ _ _);have da := (c7.st c8);have db := (bb.sp (ba.sd c3 1 2 Z Z Z) (.swap _ _ _));have dc := (bb.sp (ba.sd c5 0 2 Z Z Z) (.swap _ _ _));exact ⟨[.agg #[vs f.Id, vi r.Kind, G ad aj ak, G ae al am]], ⟨_, _, Z, da.1.res Z ag44 sz44, Z⟩, (⟨f.Id, r, (([] : List Tag) ++ f.Tags)⟩ : Feat), ad, aj, ak, ae, al, am, Z, H, bl.gr.g0, bl.ok, bl.ge, hs1, db, dc⟩
def F59.E (base_ a b : Feat) (Q : Feat → List Str → Prop) : Prop :=
 F98.E base_ (fun r => (if !r then Q (⟨[], (⟨0, []⟩ : Shape), []⟩ : Feat) [] else F98.E a (fun r2 => (if !r2 then Q (⟨[], (⟨0, []⟩ : Shape), []⟩ : Feat) [] else F98.E b (fun r3 => (if !r3 then Q (⟨[], (⟨0, []⟩ : Shape), []⟩ : Feat) [] else (if base_.Id != a.Id then Q (⟨[], (⟨0, []⟩ : Shape), []⟩ : Feat) [] else (if base_.Id != b.Id then Q (⟨[], (⟨0, []⟩ : Shape), []⟩ : Feat) [] else (∃ (f : Shape → Shape → Bool) (f_ok : Shape → Shape → Prop), (∀ x0_ x1_, f_ok x0_ x1_ → F38.E x0_ x1_  (fun r => r = f x0_ x1_)) ∧ F9.E base_.Shape a.Shape b.Shape f f_ok (fun r4 r5 => (∃ (J297 : (List Str) → Int → (List Pt) → Prop), ((if !r5 then (if base_.Shape.Kind == a.Shape.Kind then (∃ (J335 : Bool → Int → (List Pt) → Prop), ((if base_.Shape.Kind == b.Shape.Kind then F57.E base_.Shape.Pts a.Shape.Pts b.Shape.Pts (fun r6 r7 => (if r7 then F72.E (⟨a.Shape.Kind, r6⟩ : Shape) (fun r8 => (if r8 then J335 true a.Shape.Kind r6 else J335 false r4.Kind r4.Pts)) else J335 false r4.Kind r4.Pts)) else J335 false r4.Kind r4.Pts)) ∧ ∀ (fine : Bool) (z3 : Int) (z4 : List Pt), J335 fine z3 z4 → (if !fine then (([] : List Str).length + ([([115, 104, 97, 112, 101] : Str)] : List Str).length ≤ 268435456) ∧ J297 (([] : List Str) ++ ([([115, 104, 97, 112, 101] : Str)] : List Str)) z3 z4 else J297 ([] : List Str) z3 z4)) else (if !false then (([] : List Str).length + ([([115, 104, 97, 112, 101] : Str)] : List Str).length ≤ 268435456) ∧ J297 (([] : List Str) ++ ([([115, 104, 97, 112, 101] : Str)] : List Str)) r4.Kind r4.Pts else J297 ([] : List Str) r4.Kind r4.Pts)) else J297 ([] : List Str) r4.Kind r4.Pts)) ∧ ∀ (xs : List Str) (z : Int) (z2 : List Pt), J297 xs z z2 → F23.E (⟨z, z2⟩ : Shape) (fun r9 => F15.E ([base_.Tags, a.Tags, b.Tags] : List (List Tag)) (fun r10 => (∃ (I687 : (List Str) → Int → Prop) (mu688 : (List Str) → Int → Nat), I687 [] 0 ∧ ∀ (xs3 : List Str) (v2 : Int), I687 xs3 v2 → (if decide (v2 < (r10.length : Int)) then ((0 : Int) ≤ v2 ∧ v2 < (r10.length : Int)) ∧ (xs3.length + ([(nth r10 v2).Key] : List Str).length ≤ 268435456) ∧ (I64 (v2 + 1)) ∧ I687 (xs3 ++ ([(nth r10 v2).Key] : List Str)) (v2 + 1) ∧ mu688 (xs3 ++ ([(nth r10 v2).Key] : List Str)) (v2 + 1) < mu688 xs3 v2 else F8.E xs3 (fun m => F1.E m (fun r11 => (∃ (I888 : (List Str) → Int → (List Tag) → Prop) (mu889 : (List Str) → Int → (List Tag) → Nat), I888 xs 0 ([] : List Tag) ∧ ∀ (xs6 : List Str) (v4 : Int) (xs7 : List Tag), I888 xs6 v4 xs7 → (if decide (v4 < (r11.length : Int)) then ((0 : Int) ≤ v4 ∧ v4 < (r11.length : Int)) ∧ F77.E a (nth r11 v4) (fun r12 => F77.E b (nth r11 v4) (fun r13 => F77.E base_ (nth r11 v4) (fun r14 => (∃ (f2 : value → value → Bool) (f2_ok : value → value → Prop), (∀ x0_ x1_, f2_ok x0_ x1_ → F31.E x0_ x1_  (fun r => r = f2 x0_ x1_)) ∧ F10.E r14 r12 r13 f2 f2_ok (fun r15 r16 => (∃ (J4978 : (List Str) → Bool → Str → Prop), ((if !r16 then (([116, 97, 103, 32] : Str).length + (nth r11 v4).length ≤ 9223372036854775807) ∧ (xs6.length + ([(([116, 97, 103, 32] : Str) ++ (nth r11 v4))] : List Str).length ≤ 268435456) ∧ (if !r12.has then J4978 (xs6 ++ ([(([116, 97, 103, 32] : Str) ++ (nth r11 v4))] : List Str)) r13.has r13.val else J4978 (xs6 ++ ([(([116, 97, 103, 32] : Str) ++ (nth r11 v4))] : List Str)) r12.has r12.val) else J4978 xs6 r15.has r15.val)) ∧ ∀ (xs8 : List Str) (z5 : Bool) (z6 : Str), J4978 xs8 z5 z6 → (∃ (J5114 : (List Tag) → Prop), ((if z5 then (xs7.length + ([(⟨(nth r11 v4), z6⟩ : Tag)] : List Tag).length ≤ 268435456) ∧ J5114 (xs7 ++ ([(⟨(nth r11 v4), z6⟩ : Tag)] : List Tag)) else J5114 xs7)) ∧ ∀ (xs9 : List Tag), J5114 xs9 → (I64 (v4 + 1)) ∧ I888 xs8 (v4 + 1) xs9 ∧ mu889 xs8 (v4 + 1) xs9 < mu889 xs6 v4 xs7))))))) else F98.E (⟨a.Id, r9, xs7⟩ : Feat) (fun r17 => (if !r17 then F39.E a (fun r18 => Q r18 ([([109, 117, 99, 104] : Str)] : List Str)) else Q (⟨a.Id, r9, xs7⟩ : Feat) xs6)))))))))))))))))))))
theorem F59.calls {base_ : Feat} {A2 : Option Addr} {n3 c4 : Nat} {A7 : Option Addr} {n8 c9 : Nat} {a : Feat} {aq : Option Addr} {ar au : Nat} {ax : Option Addr} {ay az : Nat} {b : Feat} {ah : Option Addr} {ai aj : Nat} {ak : Option Addr} {al am : Nat} {Q : Feat → List Str → Prop} (H : F59.E base_ a b Q) (hO : Ok w0 O) (hs1 : Lim base_.Id) (hp5 : Sl kPt w0 (Fr O) (G A2 n3 c4) base_.Shape.Pts) (gb : Sl kTag w0 (Fr O) (G A7 n8 c9) base_.Tags) (em : Lim a.Id) (ec : Sl kPt w0 (Fr O) (G aq ar au) a.Shape.Pts) (gc : Sl kTag w0 (Fr O) (G ax ay az) a.Tags) (dg : Lim b.Id) (ed : Sl kPt w0 (Fr O) (G ah ai aj) b.Shape.Pts) (gd : Sl kTag w0 (Fr O) (G ak al am) b.Tags) :
  Ret Tryz.prog 26 [.agg #[vs base_.Id, vi base_.Shape.Kind, G A2 n3 c4, G A7 n8 c9], .agg #[vs a.Id, vi a.Shape.Kind, G aq ar au, G ax ay az], .agg #[vs b.Id, vi b.Shape.Kind, G ah ai aj, G ak al am]] w0 (fun v w' => ∃ (r0 : Feat) (r1 : List Str) (Aw0 : Option Addr) (nw0 cw0 : Nat) (Aw2 : Option Addr) (nw2 cw2 : Nat) (Aw4 : Option Addr) (nw4 cw4 : Nat), v = .tuple #[.agg #[vs r0.Id, vi r0.Shape.Kind, G Aw0 nw0 cw0, G Aw2 nw2 cw2], G Aw4 nw4 cw4] ∧ Q r0 r1 ∧ Gk w0 w' [bk Aw0, bk Aw2, bk Aw4] O (Lim r0.Id ∧ Ow kPt 49 w' ([bk Aw0, bk Aw2, bk Aw4] ++ O) (G Aw0 nw0 cw0) r0.Shape.Pts ∧ Ow kTag 93 w' ([bk Aw0, bk Aw2, bk Aw4] ++ O) (G Aw2 nw2 cw2) r0.Tags ∧ Ow Kd.str 9 w' ([bk Aw0, bk Aw2, bk Aw4] ++ O) (G Aw4 nw4 cw4) r1)) := by
 unfold F59.E at H;have hc0 := Ct.init hO;refine Yd Tryz.func26 Z 195 Z [.cell 6 44, .tmp 7] Z Z ?_;refine Xc (Xd (Yk [vs base_.Id, vi base_.Shape.Kind, G A2 n3 c4, G A7 n8 c9] Z fun w34 ao u6 hu38 u7 u8 => ?_));have u9 := Fb.mk hc0.ok u6 u8;have na := hc0.k0 u7;refine Yk [vs a.Id, vi a.Shape.Kind, G aq ar au, G ax ay az] Z fun w43 an va hu47 qs vc => ?_;have vd := Fb.mk na.ok va vc;have nb := na.k0 qs;refine Yk [vs b.Id, vi b.Shape.Kind, G ah ai aj, G ak al am] Z fun w52 a0 ve hu56 qt vf => ?_;have vg := Fb.mk nb.ok ve vf;have qu := nb.k0 qt;refine Ya [vs [], .int .i64 0, G none 0 0, G none 0 0] ze44 fun w61 aa qv hu65 qw dh => ?_;have qx := qu.own qw (some aa) (X9 qv hu65);refine Xf (G none 0 0) Z (Xb (Xc (Xd (X7 (kd := Kd.str) Yu qx ([] : List Str) (cells := []) Z RF fun vh ag a9 ba c2 hr74 jf di => ?_))));refine Xf (G ag a9 ba) Z (Xb (Xc (Xc (Xd ?_))));have vj := na.stn qs;have qy := nb.stn qt;have nc := qu.stown _ qw (Xg qv);have nd := qx.stown _ c2 hr74;have qz := ((((u9.st vj).st qy).st nc).st nd);refine Xa (Xr ag44 sz44 cL (Ad ao 0) [vs base_.Id, vi base_.Shape.Kind, G A2 n3 c4, G A7 n8 c9] Z Z (qz.cells (off := 00) Z)) ?_;refine Xs go25 (F98.calls H jf.ok hs1 (hp5.st jf.st) (gb.st jf.st)) Z ?_;rintro _ vk ⟨r, rfl, H, bc⟩;have gu := jf.k0 bc;refine Xa (Yr r Z) (Xe (vb (!r)) Z ?_);rcases Yb (!r) with ds | ds
 ·have H := Xi H ds;refine Xn ds Z (Xn ds Z (Xn ds Z (Xa (Xv true (vb true) ds Z) (Xe (vb true) Z (X2 (dj := 34) Z Z (.inl Z) (X2 (dj := 34) Z Z (.inl Z) (X2 (dj := 34) Z Z (.inl Z) (Xa (Xv true (vb true) Z Z) ?_))))))));refine Xe (vb true) Z (X2 (dj := 39) Z Z (.inl Z) (X2 (dj := 39) Z Z (.inl Z) (X2 (dj := 39) Z Z (.inl Z) (X2 (dj := 39) Z Z (.inl Z) (X2 (dj := 39) Z Z (.inl Z) (Xa (Xv true (vb true) Z Z) (Xe (vb true) Z (X2 (dj := 46) Z Z (.inl Z) ?_))))))));refine X2 (dj := 46) Z Z (.inl Z) (X2 (dj := 46) Z Z (.inl Z) (X2 (dj := 46) Z Z (.inl Z) (X2 (dj := 46) Z Z (.inl Z) (Xa (Xv true (vb true) Z Z) (Xb (Yp (b := true) Z Z ?_))))));refine Xc (Xd (Xa (Yi (.agg #[vs [], vi 0, G none 0 0, G none 0 0]) RF) (Xe (G ag a9 ba) Z ?_)));have vl := ((dh.k0 c2).k0 bc);refine Xw [vs [], vi 0, G none 0 0, G none 0 0] vl Z Z sz44 Z Z fun q0 q1 vm => ?_;have vn := gu.wr 1 Z q1;refine Xf (G ag a9 ba) Z (Xb (Xk ?_));have vo := vn.own (Gr.refl _ none) none (by simp);have vp : Ow kPt 49 q0 ([bk none, bk ag, some aa] ++ O) (G none 0 0) [] := Ow.nil _ _ _ _;have jg := vo.own (Gr.refl _ none) none (by simp);have vq : Ow kTag 93 q0 ([bk none, bk none, bk ag, some aa] ++ O) (G none 0 0) [] := Ow.nil _ _ _ _;have vr := vm;have vt := jg.bgv vr 3 Z;have jh := jg.drop 3 Z;have ne := jh.perm (.swap _ _ _);have vu := jh.stp (.swap _ _ _);have vv := (vt.st vu);have vw := (jh.sp (jg.sd (vp.so none (Gr.refl _ none) (by simp)) 1 3 Z Z Z) (.swap _ _ _));have vx := (jh.sp (jg.sd vq 0 3 Z Z Z) (.swap _ _ _));have vy := (jh.sp (jg.sd (((gu.sw (di.sn bc) 0 1 Z Z Z q1).so none (Gr.refl _ none) (by simp)).so none (Gr.refl _ none) (by simp)) 2 3 Z Z Z) (.swap _ _ _));exact ⟨[.agg #[vs [], vi 0, G none 0 0, G none 0 0], G ag a9 ba], ⟨_, _, Z, vv.1.res Z ag44 sz44, ⟨_, Z, Z⟩⟩, (⟨([] : Str), (⟨0, ([] : List Pt)⟩ : Shape), ([] : List Tag)⟩ : Feat), ([] : List Str), none, 0, 0, none, 0, 0, ag, a9, ba, Z, H, ne.gr.g0, ne.ok, ne.ge, RD, vw, vx, vy⟩
 have H := Xj H ds;refine Xl ds Z ?_;have nf := jf.stn bc;have q2 := ((((vd.st qy).st nc).st nd).st nf);refine Xa (Xr ag44 sz44 cL (Ad an 0) [vs a.Id, vi a.Shape.Kind, G aq ar au, G ax ay az] Z Z (q2.cells (off := 00) Z)) (Xl ds Z ?_);refine Xs go25 (F98.calls H gu.ok em (ec.st gu.st) (gc.st gu.st)) Z ?_;rintro _ vz ⟨r2, rfl, H, bd⟩;have gw := gu.k0 bd;refine Xl ds Z (Xa (Yr r2 Z) (Xa (Xv false (vb (!r2)) ds Z) (Xe (vb (!r2)) Z ?_)));rcases Yb (!r2) with dt | dt
 ·have H := Xi H dt;refine Xn dt Z (Xn dt Z (Xn dt Z (Xa (Xv true (vb true) dt Z) (Xe (vb true) Z (X2 (dj := 39) Z Z (.inl Z) (X2 (dj := 39) Z Z (.inl Z) (X2 (dj := 39) Z Z (.inl Z) (X2 (dj := 39) Z Z (.inl Z) ?_))))))));refine X2 (dj := 39) Z Z (.inl Z) (Xa (Xv true (vb true) Z Z) (Xe (vb true) Z (X2 (dj := 46) Z Z (.inl Z) (X2 (dj := 46) Z Z (.inl Z) (X2 (dj := 46) Z Z (.inl Z) (X2 (dj := 46) Z Z (.inl Z) (X2 (dj := 46) Z Z (.inl Z) (Xa (Xv true (vb true) Z Z) ?_))))))));refine Xb (Yp (b := true) Z Z ?_);refine Xc (Xd (Xa (Yi (.agg #[vs [], vi 0, G none 0 0, G none 0 0]) RF) (Xe (G ag a9 ba) Z ?_)));have v0 := (((dh.k0 c2).k0 bc).k0 bd);refine Xw [vs [], vi 0, G none 0 0, G none 0 0] v0 Z Z sz44 Z Z fun q3 q4 v1 => ?_;have v3 := gw.wr 1 Z q4;refine Xf (G ag a9 ba) Z (Xb (Xk ?_));have v5 := v3.own (Gr.refl _ none) none (by simp);have v6 : Ow kPt 49 q3 ([bk none, bk ag, some aa] ++ O) (G none 0 0) [] := Ow.nil _ _ _ _;have ji := v5.own (Gr.refl _ none) none (by simp);have v7 : Ow kTag 93 q3 ([bk none, bk none, bk ag, some aa] ++ O) (G none 0 0) [] := Ow.nil _ _ _ _;have v9 := v1;have wa := ji.bgv v9 3 Z;have jj := ji.drop 3 Z;have ng := jj.perm (.swap _ _ _);have wb := jj.stp (.swap _ _ _);have wc := (wa.st wb);have wd := (jj.sp (ji.sd (v6.so none (Gr.refl _ none) (by simp)) 1 3 Z Z Z) (.swap _ _ _));have we := (jj.sp (ji.sd v7 0 3 Z Z Z) (.swap _ _ _));have wf := (jj.sp (ji.sd (((gw.sw ((di.sn bc).sn bd) 0 1 Z Z Z q4).so none (Gr.refl _ none) (by simp)).so none (Gr.refl _ none) (by simp)) 2 3 Z Z Z) (.swap _ _ _));exact ⟨[.agg #[vs [], vi 0, G none 0 0, G none 0 0], G ag a9 ba], ⟨_, _, Z, wc.1.res Z ag44 sz44, ⟨_, Z, Z⟩⟩, (⟨([] : Str), (⟨0, ([] : List Pt)⟩ : Shape), ([] : List Tag)⟩ : Feat), ([] : List Str), none, 0, 0, none, 0, 0, ag, a9, ba, Z, H, ng.gr.g0, ng.ok, ng.ge, RD, wd, we, wf⟩
 have H := Xj H dt;refine Xl dt Z ?_;have nh := gu.stn bd;have q5 := ((((vg.st nc).st nd).st nf).st nh);refine Xa (Xr ag44 sz44 cL (Ad a0 0) [vs b.Id, vi b.Shape.Kind, G ah ai aj, G ak al am] Z Z (q5.cells (off := 00) Z)) (Xl dt Z ?_);refine Xs go25 (F98.calls H gw.ok dg (ed.st gw.st) (gd.st gw.st)) Z ?_;rintro _ aju ⟨r3, rfl, H, bi⟩;have gf := gw.k0 bi;refine Xl dt Z (Xa (Yr r3 Z) (Xa (Xv false (vb (!r3)) dt Z) (Xe (vb (!r3)) Z ?_)));rcases Yb (!r3) with cl | cl
 ·have H := Xi H cl;refine Xn cl Z (Xn cl Z (Xn cl Z (Xn cl Z (Xn cl Z (Xa (Xv true (vb true) cl Z) (Xe (vb true) Z (X2 (dj := 46) Z Z (.inl Z) (X2 (dj := 46) Z Z (.inl Z) ?_))))))));refine X2 (dj := 46) Z Z (.inl Z) (X2 (dj := 46) Z Z (.inl Z) (X2 (dj := 46) Z Z (.inl Z) (Xa (Xv true (vb true) Z Z) (Xb (Yp (b := true) Z Z ?_)))));refine Xc (Xd (Xa (Yi (.agg #[vs [], vi 0, G none 0 0, G none 0 0]) RF) (Xe (G ag a9 ba) Z ?_)));have wg := ((((dh.k0 c2).k0 bc).k0 bd).k0 bi);refine Xw [vs [], vi 0, G none 0 0, G none 0 0] wg Z Z sz44 Z Z fun q6 q7 wh => ?_;have wi := gf.wr 1 Z q7;refine Xf (G ag a9 ba) Z (Xb (Xk ?_));have wj := wi.own (Gr.refl _ none) none (by simp);have wk : Ow kPt 49 q6 ([bk none, bk ag, some aa] ++ O) (G none 0 0) [] := Ow.nil _ _ _ _;have jk := wj.own (Gr.refl _ none) none (by simp);have wl : Ow kTag 93 q6 ([bk none, bk none, bk ag, some aa] ++ O) (G none 0 0) [] := Ow.nil _ _ _ _;have wm := wh;have wn := jk.bgv wm 3 Z;have jl := jk.drop 3 Z;have ni := jl.perm (.swap _ _ _);have wo := jl.stp (.swap _ _ _);have wp := (wn.st wo);have wq := (jl.sp (jk.sd (wk.so none (Gr.refl _ none) (by simp)) 1 3 Z Z Z) (.swap _ _ _));have ws := (jl.sp (jk.sd wl 0 3 Z Z Z) (.swap _ _ _));have wt := (jl.sp (jk.sd (((gf.sw (((di.sn bc).sn bd).sn bi) 0 1 Z Z Z q7).so none (Gr.refl _ none) (by simp)).so none (Gr.refl _ none) (by simp)) 2 3 Z Z Z) (.swap _ _ _));exact ⟨[.agg #[vs [], vi 0, G none 0 0, G none 0 0], G ag a9 ba], ⟨_, _, Z, wp.1.res Z ag44 sz44, ⟨_, Z, Z⟩⟩, (⟨([] : Str), (⟨0, ([] : List Pt)⟩ : Shape), ([] : List Tag)⟩ : Feat), ([] : List Str), none, 0, 0, none, 0, 0, ag, a9, ba, Z, H, ni.gr.g0, ni.ok, ni.ge, RD, wq, ws, wt⟩
 have H := Xj H cl;refine Xl cl Z (Xa (Xm fa44_0 (Ad ao 0) (Ad ao 0) Z Z) (Xl cl Z ?_));have nj := gw.stn bi;have nk := (((qz.st nf).st nh).st nj);refine Xa (Xp ag9 cL (Ad ao 0) (vs base_.Id) Z (nk.cell Z)) (Xl cl Z (Xa (Xm fa44_0 (Ad an 0) (Ad an 0) Z Z) (Xl cl Z ?_)));have nl := ((q2.st nh).st nj);refine Xa (Xp ag9 cL (Ad an 0) (vs a.Id) Z (nl.cell Z)) (Xl cl Z (Xa (Y0 base_.Id a.Id (base_.Id != a.Id) Z Z Z) (Xa (Xv false (vb (base_.Id != a.Id)) cl Z) (Xe (vb (base_.Id != a.Id)) Z ?_))));rcases Yb (base_.Id != a.Id) with cm | cm
 ·have H := Xi H cm;refine Xn cm Z (Xn cm Z (Xn cm Z (Xn cm Z (Xn cm Z (Xa (Xv true (vb true) cm Z) (Xb (Yp (b := true) Z Z ?_)))))));refine Xc (Xd (Xa (Yi (.agg #[vs [], vi 0, G none 0 0, G none 0 0]) RF) (Xe (G ag a9 ba) Z ?_)));have wu := ((((dh.k0 c2).k0 bc).k0 bd).k0 bi);refine Xw [vs [], vi 0, G none 0 0, G none 0 0] wu Z Z sz44 Z Z fun q8 q9 wv => ?_;have ww := gf.wr 1 Z q9;refine Xf (G ag a9 ba) Z (Xb (Xk ?_));have wx := ww.own (Gr.refl _ none) none (by simp);have wy : Ow kPt 49 q8 ([bk none, bk ag, some aa] ++ O) (G none 0 0) [] := Ow.nil _ _ _ _;have jm := wx.own (Gr.refl _ none) none (by simp);have wz : Ow kTag 93 q8 ([bk none, bk none, bk ag, some aa] ++ O) (G none 0 0) [] := Ow.nil _ _ _ _;have w1 := wv;have w3 := jm.bgv w1 3 Z;have jn := jm.drop 3 Z;have nm := jn.perm (.swap _ _ _);have w4 := jn.stp (.swap _ _ _);have w5 := (w3.st w4);have w6 := (jn.sp (jm.sd (wy.so none (Gr.refl _ none) (by simp)) 1 3 Z Z Z) (.swap _ _ _));have w7 := (jn.sp (jm.sd wz 0 3 Z Z Z) (.swap _ _ _));have w8 := (jn.sp (jm.sd (((gf.sw (((di.sn bc).sn bd).sn bi) 0 1 Z Z Z q9).so none (Gr.refl _ none) (by simp)).so none (Gr.refl _ none) (by simp)) 2 3 Z Z Z) (.swap _ _ _));exact ⟨[.agg #[vs [], vi 0, G none 0 0, G none 0 0], G ag a9 ba], ⟨_, _, Z, w5.1.res Z ag44 sz44, ⟨_, Z, Z⟩⟩, (⟨([] : Str), (⟨0, ([] : List Pt)⟩ : Shape), ([] : List Tag)⟩ : Feat), ([] : List Str), none, 0, 0, none, 0, 0, ag, a9, ba, Z, H, nm.gr.g0, nm.ok, nm.ge, RD, w6, w7, w8⟩
 have H := Xj H cm;refine Xl cm Z (Xa (Xm fa44_0 (Ad ao 0) (Ad ao 0) Z Z) (Xl cm Z (Xa (Xp ag9 cL (Ad ao 0) (vs base_.Id) Z (nk.cell Z)) (Xl cm Z (Xa (Xm fa44_0 (Ad a0 0) (Ad a0 0) Z Z) (Xl cm Z ?_))))));have ra := (q5.st nj);refine Xa (Xp ag9 cL (Ad a0 0) (vs b.Id) Z (ra.cell Z)) (Xl cm Z (Xa (Y0 base_.Id b.Id (base_.Id != b.Id) Z Z Z) (Xa (Xv false (vb (base_.Id != b.Id)) cm Z) (Xb ?_))));refine Xu (base_.Id != b.Id) Z (fun nn => ?_) (fun nn => ?_)
 ·have H := Xi H nn;refine Xc (Xd (Xa (Yi (.agg #[vs [], vi 0, G none 0 0, G none 0 0]) RF) (Xe (G ag a9 ba) Z ?_)));have w9 := ((((dh.k0 c2).k0 bc).k0 bd).k0 bi);refine Xw [vs [], vi 0, G none 0 0, G none 0 0] w9 Z Z sz44 Z Z fun rb rc xa => ?_;have xb := gf.wr 1 Z rc;refine Xf (G ag a9 ba) Z (Xb (Xk ?_));have xc := xb.own (Gr.refl _ none) none (by simp);have xd : Ow kPt 49 rb ([bk none, bk ag, some aa] ++ O) (G none 0 0) [] := Ow.nil _ _ _ _;have jo := xc.own (Gr.refl _ none) none (by simp);have xe : Ow kTag 93 rb ([bk none, bk none, bk ag, some aa] ++ O) (G none 0 0) [] := Ow.nil _ _ _ _;have xf := xa;have xg := jo.bgv xf 3 Z;have jp := jo.drop 3 Z;have no := jp.perm (.swap _ _ _);have xh := jp.stp (.swap _ _ _);have xi := (xg.st xh);have xj := (jp.sp (jo.sd (xd.so none (Gr.refl _ none) (by simp)) 1 3 Z Z Z) (.swap _ _ _));have xk := (jp.sp (jo.sd xe 0 3 Z Z Z) (.swap _ _ _));have xl := (jp.sp (jo.sd (((gf.sw (((di.sn bc).sn bd).sn bi) 0 1 Z Z Z rc).so none (Gr.refl _ none) (by simp)).so none (Gr.refl _ none) (by simp)) 2 3 Z Z Z) (.swap _ _ _));exact ⟨[.agg #[vs [], vi 0, G none 0 0, G none 0 0], G ag a9 ba], ⟨_, _, Z, xi.1.res Z ag44 sz44, ⟨_, Z, Z⟩⟩, (⟨([] : Str), (⟨0, ([] : List Pt)⟩ : Shape), ([] : List Tag)⟩ : Feat), ([] : List Str), none, 0, 0, none, 0, 0, ag, a9, ba, Z, H, no.gr.g0, no.ok, no.ge, RD, xj, xk, xl⟩
 have H := Xj H nn;refine Xz (Xc (Xd (Xa (Xm fa44_0 (Ad an 0) (Ad an 0) Z Z) (Xa (Xp ag9 cL (Ad an 0) (vs a.Id) Z (nl.cell Z)) (X7 (kd := kTag) Yl gf ([] : List Tag) (cells := []) Z RF fun ajv ae dk dl cn hr219 rd gx => ?_)))));refine Xa (Yi (.agg #[vs a.Id, vi 0, G none 0 0, G ae dk dl]) RF) (Ya [vs [], .int .i64 0, G none 0 0, G none 0 0] ze44 fun ajw ab cf hu227 bf xm => ?_);have bg := rd.own bf (some ab) (X9 cf hu227);refine Xw [vs a.Id, vi 0, G none 0 0, G ae dk dl] xm Z Z sz44 Z Z fun re bh gy => ?_;have gz := bg.wr 0 Z bh;refine Xb (Xc (Xd (Xa (Xm fa44_1 (Ad ao 0) (Ad ao 1) Z Z) ?_)));have np := gf.stown _ cn hr219;have nq := rd.stown _ bf (Xg cf);have nr := bg.stw 0 Z bh;have ns := (((nk.st np).st nq).st nr);refine Xa (Xr ag41 sz41 cL (Ad ao 1) [vi base_.Shape.Kind, G A2 n3 c4] Z Z (ns.cells (off := 1) Z)) (Xa (Xm fa44_1 (Ad an 0) (Ad an 1) Z Z) ?_);have nt := (((nl.st np).st nq).st nr);refine Xa (Xr ag41 sz41 cL (Ad an 1) [vi a.Shape.Kind, G aq ar au] Z Z (nt.cells (off := 1) Z)) (Xa (Xm fa44_1 (Ad a0 0) (Ad a0 1) Z Z) ?_);have jq := (((ra.st np).st nq).st nr);refine Xa (Xr ag41 sz41 cL (Ad a0 1) [vi b.Shape.Kind, G ah ai aj] Z Z (jq.cells (off := 1) Z)) ?_;obtain ⟨f, f_ok, xn, H⟩ := H;have xo : ∀ (w : World) (L : Ob), Ct [] re w L ([some ab, bk ae, bk ag, some aa] ++ O) → ∀ (x0_ : Shape) (lr : Option Addr) (ls lt : Nat) (rf : Sl kPt w (Fr (L ++ ([some ab, bk ae, bk ag, some aa] ++ O))) (G lr ls lt) x0_.Pts) (x1_ : Shape) (lu : Option Addr) (lv lw : Nat) (rg : Sl kPt w (Fr (L ++ ([some ab, bk ae, bk ag, some aa] ++ O))) (G lu lv lw) x1_.Pts), f_ok x0_ x1_ → Ret Tryz.prog 70 ([.agg #[vi x0_.Kind, G lr ls lt], .agg #[vi x1_.Kind, G lu lv lw]] ++ []) w (fun v w' => v = vb (f x0_ x1_) ∧ Gr w w' none) := by
  intro w L c x0_ lr ls lt rf x1_ lu lv lw rg hok;refine (F38.calls (xn x0_ x1_ hok) c.ok rf rg).mono ?_;rintro _ w2 ⟨r, rfl, rfl, g2⟩;exact ⟨Z, g2⟩
 refine Xs go69 (F9.calls H gz.ok (hp5.st gz.st) (ec.st gz.st) (ed.st gz.st) go70 xo) Z ?_;rintro _ ajx ⟨r4, r5, c3, c5, c6, rfl, H, a5, im⟩;have nu := gz.k0 a5;refine Xe (.tuple #[.agg #[vi r4.Kind, G c3 c5 c6], vb r5]) Z (Xa (Yo [.agg #[vi r4.Kind, G c3 c5 c6], vb r5] 0 (.agg #[vi r4.Kind, G c3 c5 c6]) Z Z) (Xa (Yo [.agg #[vi r4.Kind, G c3 c5 c6], vb r5] 1 (vb r5) Z Z) (Ya [.int .i64 0, G none 0 0] ze41 fun ajy av b6 hu258 a6 xp => ?_)));have a7 := nu.own a6 (some av) (X9 b6 hu258);refine Xw [vi r4.Kind, G c3 c5 c6] xp Z Z sz41 Z Z fun xq a8 g1 => ?_;have bb := a7.wr 0 Z a8;refine Xf (vb r5) Z (Xb (Xc (Xc (Xd (Xe (vb r5) Z (Xa (Yr r5 Z) (Xb ?_)))))));obtain ⟨xr, H, xt⟩ := H;refine Y1 (J := (fun t b3 => ∃ (xs : List Str) (ap : Option Addr) (io ip : Nat) (z : Int) (z2 : List Pt) (iq : Option Addr) (ir it : Nat), xr xs z z2 ∧ Has t [(3, Pz ao), (4, Pz an), (5, Pz a0), (6, Pz aa), (8, G ap io ip), (9, Pz ab), (10, Pz av)] ∧ Cw [] w0 b3 [some av, some ab, bk ae, bk ap, some aa] O fun M => Sl kPt b3 (Fr M) (G aq ar au) a.Shape.Pts ∧ Sl kTag b3 (Fr M) (G ax ay az) a.Tags ∧ Sl kPt b3 (Fr M) (G ah ai aj) b.Shape.Pts ∧ Sl kTag b3 (Fr M) (G ak al am) b.Tags ∧ Sl kPt b3 (Fr M) (G A2 n3 c4) base_.Shape.Pts ∧ Sl kTag b3 (Fr M) (G A7 n8 c9) base_.Tags ∧ Sl kPt b3 (Fr M) (G iq ir it) z2 ∧ Ow Kd.str 9 b3 M (G ap io ip) xs ∧ Ow kTag 93 b3 M (G ae dk dl) ([] : List Tag) ∧ Fb b3 M ao [vs base_.Id, vi base_.Shape.Kind, G A2 n3 c4, G A7 n8 c9] ∧ Fb b3 M an [vs a.Id, vi a.Shape.Kind, G aq ar au, G ax ay az] ∧ Fb b3 M a0 [vs b.Id, vi b.Shape.Kind, G ah ai aj, G ak al am] ∧ Bx b3 aa [vs [], vi 0, G none 0 0, G none 0 0] ∧ Bx b3 ab [vs a.Id, vi 0, G none 0 0, G ae dk dl] ∧ Bx b3 av [vi z, G iq ir it])) ?_ ?_
 ·refine Xu (!r5) Z (fun nv => ?_) (fun nv => ?_)
  ·have H := Xi H nv;refine Xc (Xd (Xf (vb false) Z (Xb (Xc (Xc (Xd (Xa (Xm fa44_1 (Ad ao 0) (Ad ao 1) Z Z) (Xa (Xm fa41_0 (Ad ao 1) (Ad ao 1) Z Z) ?_))))))));have jr := gz.stn a5;have ee := nu.stown _ a6 (Xg b6);have ef := a7.stw 0 Z a8;have en := (((ns.st jr).st ee).st ef);refine Xa (Xp ag3 cL (Ad ao 1) (vi base_.Shape.Kind) Z (en.cell Z)) (Xa (Xm fa44_1 (Ad an 0) (Ad an 1) Z Z) (Xa (Xm fa41_0 (Ad an 1) (Ad an 1) Z Z) ?_));have iu := (((nt.st jr).st ee).st ef);refine Xa (Xp ag3 cL (Ad an 1) (vi a.Shape.Kind) Z (iu.cell Z)) (Xa (Xx base_.Shape.Kind a.Shape.Kind (base_.Shape.Kind == a.Shape.Kind) Z Z Z) (Xe (vb (base_.Shape.Kind == a.Shape.Kind)) Z ?_));rcases Yb (base_.Shape.Kind == a.Shape.Kind) with bw | bw
   ·have H := Xi H bw;refine Xl bw Z (Xa (Xm fa44_1 (Ad ao 0) (Ad ao 1) Z Z) (Xl bw Z (Xa (Xm fa41_0 (Ad ao 1) (Ad ao 1) Z Z) (Xl bw Z (Xa (Xp ag3 cL (Ad ao 1) (vi base_.Shape.Kind) Z (en.cell Z)) (Xl bw Z (Xa (Xm fa44_1 (Ad a0 0) (Ad a0 1) Z Z) (Xl bw Z ?_))))))));refine Xa (Xm fa41_0 (Ad a0 1) (Ad a0 1) Z Z) (Xl bw Z ?_);have iv := (((jq.st jr).st ee).st ef);refine Xa (Xp ag3 cL (Ad a0 1) (vi b.Shape.Kind) Z (iv.cell Z)) (Xl bw Z (Xa (Xx base_.Shape.Kind b.Shape.Kind (base_.Shape.Kind == b.Shape.Kind) Z Z Z) (Xa (Xv true (vb (base_.Shape.Kind == b.Shape.Kind)) bw Z) (Xb ?_))));obtain ⟨xu, H, xv⟩ := H;refine Y1 (J := (fun t b7 => ∃ (fine : Bool) (z3 : Int) (z4 : List Pt) (js : Option Addr) (jt ju : Nat), xu fine z3 z4 ∧ Has t [(3, Pz ao), (4, Pz an), (5, Pz a0), (6, Pz aa), (8, G ag a9 ba), (9, Pz ab), (10, Pz av), (12, vb fine)] ∧ Cw [] w0 b7 [some av, some ab, bk ae, bk ag, some aa] O fun M => Sl kPt b7 (Fr M) (G aq ar au) a.Shape.Pts ∧ Sl kTag b7 (Fr M) (G ax ay az) a.Tags ∧ Sl kPt b7 (Fr M) (G ah ai aj) b.Shape.Pts ∧ Sl kTag b7 (Fr M) (G ak al am) b.Tags ∧ Sl kPt b7 (Fr M) (G A2 n3 c4) base_.Shape.Pts ∧ Sl kTag b7 (Fr M) (G A7 n8 c9) base_.Tags ∧ Sl kPt b7 (Fr M) (G js jt ju) z4 ∧ Ow Kd.str 9 b7 M (G ag a9 ba) ([] : List Str) ∧ Ow kTag 93 b7 M (G ae dk dl) ([] : List Tag) ∧ Fb b7 M ao [vs base_.Id, vi base_.Shape.Kind, G A2 n3 c4, G A7 n8 c9] ∧ Fb b7 M an [vs a.Id, vi a.Shape.Kind, G aq ar au, G ax ay az] ∧ Fb b7 M a0 [vs b.Id, vi b.Shape.Kind, G ah ai aj, G ak al am] ∧ Bx b7 aa [vs [], vi 0, G none 0 0, G none 0 0] ∧ Bx b7 ab [vs a.Id, vi 0, G none 0 0, G ae dk dl] ∧ Bx b7 av [vi z3, G js jt ju])) ?_ ?_
    ·refine Xu (base_.Shape.Kind == b.Shape.Kind) Z (fun nw => ?_) (fun nw => ?_)
     ·have H := Xi H nw;refine Xc (Xd (Xa (Xm fa44_1 (Ad ao 0) (Ad ao 1) Z Z) (Xa (Xm fa41_1 (Ad ao 1) (Ad ao 2) Z Z) (Xa (Xp ag39 cL (Ad ao 2) (G A2 n3 c4) Z (en.cell Z)) (Xa (Xm fa44_1 (Ad an 0) (Ad an 1) Z Z) (Xa (Xm fa41_1 (Ad an 1) (Ad an 2) Z Z) (Xa (Xp ag39 cL (Ad an 2) (G aq ar au) Z (iu.cell Z)) (Xa (Xm fa44_1 (Ad a0 0) (Ad a0 1) Z Z) ?_))))))));refine Xa (Xm fa41_1 (Ad a0 1) (Ad a0 2) Z Z) (Xa (Xp ag39 cL (Ad a0 2) (G ah ai aj) Z (iv.cell Z)) ?_);refine Xs go71 (F57.calls H bb.ok (hp5.st bb.st) (ec.st bb.st) (ed.st bb.st)) Z ?_;rintro _ ajz ⟨r6, r7, cg, ch, ci, rfl, H, b8, xw, gg, rh⟩;have lx := bb.owns b8 xw gg;refine Xe (.tuple #[G cg ch ci, vb r7]) Z (Xa (Yo [G cg ch ci, vb r7] 0 (G cg ch ci) Z Z) (Xa (Yo [G cg ch ci, vb r7] 1 (vb r7) Z Z) (Xf (G cg ch ci) Z (Xf (vb r7) Z (Xb (Xc (Xd (Xa (Xm fa44_1 (Ad an 0) (Ad an 1) Z Z) ?_))))))));refine Xa (Xm fa41_0 (Ad an 1) (Ad an 1) Z Z) ?_;have eo := bb.stos b8 gg;have ly := (iu.st eo);refine Xa (Xp ag3 cL (Ad an 1) (vi a.Shape.Kind) Z (ly.cell Z)) (Xe (G cg ch ci) Z (Xa (Yi (.agg #[vi a.Shape.Kind, G cg ch ci]) RF) (Ya [.int .i64 0, G none 0 0] ze41 fun aj0 lz dm hu356 bl xx => ?_)));have bn := lx.own bl (some lz) (X9 dm hu356);refine Xw [vi a.Shape.Kind, G cg ch ci] xx Z Z sz41 Z Z fun xy bo ri => ?_;have ep := bn.wr 0 Z bo;refine Xb (Xc (Xd (Xe (vb r7) Z (Xe (vb r7) Z ?_))));rcases Yb r7 with eq | eq
      ·have H := Xi H eq;refine Xl eq Z (Xa (Xr ag41 sz41 cL (Ad lz 0) [vi a.Shape.Kind, G cg ch ci] Z Z (ri.cells (off := 00) Z)) (Xl eq Z ?_));have xz := (bn.sw (rh.so _ bl (Xg dm)) 1 0 Z Z Z bo);have x0 := ep.gv xz 1 Z;have x1 := ep.drop 1 Z;refine Xs go68 (F72.calls H x1.ok x0) Z ?_;rintro _ aj1 ⟨r8, rfl, H, co⟩;have du := ep.k0 co;refine Xa (Xv true (vb r8) eq Z) (Xb ?_);refine Xu r8 Z (fun nx => ?_) (fun nx => ?_)
       ·have H := Xi H nx;refine Xd ?_;have x2 := (ri.k0 co);refine Xa (Xr ag41 sz41 cL (Ad lz 0) [vi a.Shape.Kind, G cg ch ci] Z Z (x2.cells (off := 00) Z)) ?_;have x3 := ((bn.bm ((g1.k0 b8).k0 bl) 2 0 Z Z Z bo).k0 co);refine Xw [vi a.Shape.Kind, G cg ch ci] x3 Z Z sz41 Z Z fun aj2 g3 x4 => ?_;have jv := du.wr 2 Z g3;refine Xf (vb true) Z (Xb ?_);have jw := jv.drop 0 Z;have x5 := (jv.sd (du.sw ((bn.sw (rh.so _ bl (Xg dm)) 1 0 Z Z Z bo).sn co) 1 2 Z Z Z g3) 1 0 Z Z Z);have x6 := jw.gv x5 0 Z;have g4 := jw.drop 0 Z;have x7 := (jw.sd (jv.sd (du.sw ((bn.sw (((a7.sw (((bg.sw (((((di.sn bc).sn bd).sn bi).so _ cn hr219).so _ bf (Xg cf)) 2 0 Z Z Z bh).sn a5).so _ a6 (Xg b6)) 3 0 Z Z Z a8).sos b8 gg).so _ bl (Xg dm)) 5 0 Z Z Z bo).sn co) 5 2 Z Z Z g3) 5 0 Z Z Z) 4 0 Z Z Z);have x8 := (jw.sd (jv.sd (du.sw ((bn.sw (((a7.sw (((bg.sw (gx.so _ bf (Xg cf)) 1 0 Z Z Z bh).sn a5).so _ a6 (Xg b6)) 2 0 Z Z Z a8).sos b8 gg).so _ bl (Xg dm)) 4 0 Z Z Z bo).sn co) 4 2 Z Z Z g3) 4 0 Z Z Z) 3 0 Z Z Z);have ny := lx.stown _ bl (Xg dm);have nz := bn.stw 0 Z bo;have n0 := ep.stn co;have n1 := du.stw 2 Z g3;have n2 := jv.std 0 Z;have n4 := jw.std 0 Z;have x9 := (((((((en.st eo).st ny).st nz).st n0).st n1).st n2).st n4);have ya := ((((((ly.st ny).st nz).st n0).st n1).st n2).st n4);have yb := (((((((iv.st eo).st ny).st nz).st n0).st n1).st n2).st n4);have yc := (du.bm ((bn.bm (((a7.bm (((bg.bm ((((((dh.k0 c2).k0 bc).k0 bd).k0 bi).k0 cn).k0 bf) 3 0 Z Z Z bh).k0 a5).k0 a6) 4 0 Z Z Z a8).k0 b8).k0 bl) 6 0 Z Z Z bo).k0 co) 6 2 Z Z Z g3);have yd := (du.bm ((bn.bm (((a7.bm ((gy.k0 a5).k0 a6) 1 0 Z Z Z a8).k0 b8).k0 bl) 3 0 Z Z Z bo).k0 co) 3 2 Z Z Z g3);have ye := x4;exact ⟨true, a.Shape.Kind, r6, cg, ch, ci, H, (Xt Z), g4, (ec.st g4.st), (gc.st g4.st), (ed.st g4.st), (gd.st g4.st), (hp5.st g4.st), (gb.st g4.st), x6, x7, x8, x9, ya, yb, yc, yd, ye⟩
       have H := Xj H nx;refine Xz ?_;have l0 := du.drop 0 Z;have g5 := l0.drop 0 Z;have l1 := lx.stown _ bl (Xg dm);have l2 := bn.stw 0 Z bo;have l3 := ep.stn co;have l4 := du.std 0 Z;have l5 := l0.std 0 Z;have yf := ((((((((im.st ee).st ef).st eo).st l1).st l2).st l3).st l4).st l5);have yg := (l0.sd (du.sd ((bn.sw (((a7.sw (((bg.sw (((((di.sn bc).sn bd).sn bi).so _ cn hr219).so _ bf (Xg cf)) 2 0 Z Z Z bh).sn a5).so _ a6 (Xg b6)) 3 0 Z Z Z a8).sos b8 gg).so _ bl (Xg dm)) 5 0 Z Z Z bo).sn co) 5 0 Z Z Z) 4 0 Z Z Z);have yh := (l0.sd (du.sd ((bn.sw (((a7.sw (((bg.sw (gx.so _ bf (Xg cf)) 1 0 Z Z Z bh).sn a5).so _ a6 (Xg b6)) 2 0 Z Z Z a8).sos b8 gg).so _ bl (Xg dm)) 4 0 Z Z Z bo).sn co) 4 0 Z Z Z) 3 0 Z Z Z);have yi := ((((((en.st eo).st l1).st l2).st l3).st l4).st l5);have yj := (((((ly.st l1).st l2).st l3).st l4).st l5);have yk := ((((((iv.st eo).st l1).st l2).st l3).st l4).st l5);have yl := ((bn.bm (((a7.bm (((bg.bm ((((((dh.k0 c2).k0 bc).k0 bd).k0 bi).k0 cn).k0 bf) 3 0 Z Z Z bh).k0 a5).k0 a6) 4 0 Z Z Z a8).k0 b8).k0 bl) 6 0 Z Z Z bo).k0 co);have ym := ((bn.bm (((a7.bm ((gy.k0 a5).k0 a6) 1 0 Z Z Z a8).k0 b8).k0 bl) 3 0 Z Z Z bo).k0 co);have yn := ((bn.bm ((g1.k0 b8).k0 bl) 2 0 Z Z Z bo).k0 co);exact ⟨false, r4.Kind, r4.Pts, c3, c5, c6, H, (Xt Z), g5, (ec.st g5.st), (gc.st g5.st), (ed.st g5.st), (gd.st g5.st), (hp5.st g5.st), (gb.st g5.st), yf, yg, yh, yi, yj, yk, yl, ym, yn⟩
      have H := Xj H eq;refine Xn eq Z (Xn eq Z (Xa (Xv false (vb false) eq Z) (Xb (Y4 (b := false) Z Z ?_))));refine Xz ?_;have l6 := ep.drop 0 Z;have g6 := l6.drop 0 Z;have l7 := lx.stown _ bl (Xg dm);have l8 := bn.stw 0 Z bo;have l9 := ep.std 0 Z;have ma := l6.std 0 Z;have yo := (((((((im.st ee).st ef).st eo).st l7).st l8).st l9).st ma);have yp := (l6.sd (ep.sd (bn.sw (((a7.sw (((bg.sw (((((di.sn bc).sn bd).sn bi).so _ cn hr219).so _ bf (Xg cf)) 2 0 Z Z Z bh).sn a5).so _ a6 (Xg b6)) 3 0 Z Z Z a8).sos b8 gg).so _ bl (Xg dm)) 5 0 Z Z Z bo) 5 0 Z Z Z) 4 0 Z Z Z);have yq := (l6.sd (ep.sd (bn.sw (((a7.sw (((bg.sw (gx.so _ bf (Xg cf)) 1 0 Z Z Z bh).sn a5).so _ a6 (Xg b6)) 2 0 Z Z Z a8).sos b8 gg).so _ bl (Xg dm)) 4 0 Z Z Z bo) 4 0 Z Z Z) 3 0 Z Z Z);have yr := (((((en.st eo).st l7).st l8).st l9).st ma);have ys := ((((ly.st l7).st l8).st l9).st ma);have yt := (((((iv.st eo).st l7).st l8).st l9).st ma);have yu := (bn.bm (((a7.bm (((bg.bm ((((((dh.k0 c2).k0 bc).k0 bd).k0 bi).k0 cn).k0 bf) 3 0 Z Z Z bh).k0 a5).k0 a6) 4 0 Z Z Z a8).k0 b8).k0 bl) 6 0 Z Z Z bo);have yv := (bn.bm (((a7.bm ((gy.k0 a5).k0 a6) 1 0 Z Z Z a8).k0 b8).k0 bl) 3 0 Z Z Z bo);have yw := (bn.bm ((g1.k0 b8).k0 bl) 2 0 Z Z Z bo);exact ⟨false, r4.Kind, r4.Pts, c3, c5, c6, H, (Xt Z), g6, (ec.st g6.st), (gc.st g6.st), (ed.st g6.st), (gd.st g6.st), (hp5.st g6.st), (gb.st g6.st), yo, yp, yq, yr, ys, yt, yu, yv, yw⟩
     have H := Xj H nw;refine Xz ?_;have yx := ((im.st ee).st ef);have yy := (a7.sw (((bg.sw (((((di.sn bc).sn bd).sn bi).so _ cn hr219).so _ bf (Xg cf)) 2 0 Z Z Z bh).sn a5).so _ a6 (Xg b6)) 3 0 Z Z Z a8);have yz := (a7.sw (((bg.sw (gx.so _ bf (Xg cf)) 1 0 Z Z Z bh).sn a5).so _ a6 (Xg b6)) 2 0 Z Z Z a8);have y0 := (a7.bm (((bg.bm ((((((dh.k0 c2).k0 bc).k0 bd).k0 bi).k0 cn).k0 bf) 3 0 Z Z Z bh).k0 a5).k0 a6) 4 0 Z Z Z a8);have y1 := (a7.bm ((gy.k0 a5).k0 a6) 1 0 Z Z Z a8);exact ⟨false, r4.Kind, r4.Pts, c3, c5, c6, H, (Xt Z), bb, (ec.st bb.st), (gc.st bb.st), (ed.st bb.st), (gd.st bb.st), (hp5.st bb.st), (gb.st bb.st), yx, yy, yz, en, iu, iv, y0, y1, g1⟩
    rintro aj3 b7 ⟨fine, z3, z4, js, jt, ju, y2, y3, n5, rj, rk, rl, rm, rn, ro, rp, rq, rr, rs, rt, ru, rv, rw, rx⟩;obtain ⟨aj4, rfl⟩ := Has.ins y3;have H := xv fine z3 z4 y2;refine Xc (Xd (Xe (vb fine) Z (Xa (Yr fine Z) (Xb ?_))));refine Xu (!fine) Z (fun n6 => ?_) (fun n6 => ?_)
    ·have H := Xi H n6;refine Xd (Xe (G ag a9 ba) Z (X7 (kd := Kd.str) Yu n5 ([([115, 104, 97, 112, 101] : Str)] : List Str) (cells := [vs ([115, 104, 97, 112, 101] : Str)]) ⟨[vs ([115, 104, 97, 112, 101] : Str)], _, Z, ⟨Z, (by decide : Lim ([115, 104, 97, 112, 101] : Str))⟩, Z⟩ RF fun aj5 y4 y5 y6 iw hr446 jx y7 => ?_));obtain ⟨y8, H⟩ := H;have y9 := (rq.so _ iw hr446);refine Yf Yu jx (G ag a9 ba) ([] : List Str) ([([115, 104, 97, 112, 101] : Str)] : List Str) Z y9 (G y4 y5 y6) Z y7.sx 4 Z y8 fun aj6 ry rz sa mb dv mc za => ?_;refine Xf (G ry rz sa) Z (Xb ?_);have zb := mc.drop 0 Z;have eg := n5.stown _ iw hr446;have eh := mc.std 0 Z;have zc := (((rj.st eg).st dv).st eh);have zd := (((rk.st eg).st dv).st eh);have ze := (((rl.st eg).st dv).st eh);have zf := (((rm.st eg).st dv).st eh);have zg := (((rn.st eg).st dv).st eh);have zh := (((ro.st eg).st dv).st eh);have zi := (((rp.st eg).st dv).st eh);have zj := (mc.sd za 4 0 Z Z Z);have zk := (mc.sd (jx.sm (rr.so _ iw hr446) 3 4 Z Z Z mb dv) 3 0 Z Z Z);have zl := (((rs.st eg).st dv).st eh);have zm := (((rt.st eg).st dv).st eh);have zn := (((ru.st eg).st dv).st eh);have zo := (jx.bm (rv.k0 iw) 5 4 Z Z Z mb);have zp := (jx.bm (rw.k0 iw) 2 4 Z Z Z mb);have zq := (jx.bm (rx.k0 iw) 1 4 Z Z Z mb);exact ⟨(([] : List Str) ++ ([([115, 104, 97, 112, 101] : Str)] : List Str)), ry, rz, sa, z3, z4, js, jt, ju, H, (Xt Z), zb, zc, zd, ze, zf, zg, zh, zi, zj, zk, zl, zm, zn, zo, zp, zq⟩
    have H := Xj H n6;exact Xz ⟨([] : List Str), ag, a9, ba, z3, z4, js, jt, ju, H, (Xt Z), n5, rj, rk, rl, rm, rn, ro, rp, rq, rr, rs, rt, ru, rv, rw, rx⟩
   have H := Xj H bw;refine Xn bw Z (Xn bw Z (Xn bw Z (Xn bw Z (Xn bw Z (Xn bw Z (Xn bw Z (Xa (Xv false (vb false) bw Z) (Xb ?_))))))));refine Y4 (b := false) Z Z ?_;refine Xz (Xc (Xd (Xe (vb false) Z (Xa (Yr false Z) (Xb ?_)))));refine Xu (!false) Z (fun n7 => ?_) (fun n7 => ?_)
   ·have H := Xi H n7;refine Xd (Xe (G ag a9 ba) Z (X7 (kd := Kd.str) Yu bb ([([115, 104, 97, 112, 101] : Str)] : List Str) (cells := [vs ([115, 104, 97, 112, 101] : Str)]) ⟨[vs ([115, 104, 97, 112, 101] : Str)], _, Z, ⟨Z, (by decide : Lim ([115, 104, 97, 112, 101] : Str))⟩, Z⟩ RF fun aj7 zr zs zt ix hr485 jy zu => ?_));obtain ⟨zv, H⟩ := H;have zw := ((a7.sw (((bg.sw (((((di.sn bc).sn bd).sn bi).so _ cn hr219).so _ bf (Xg cf)) 2 0 Z Z Z bh).sn a5).so _ a6 (Xg b6)) 3 0 Z Z Z a8).so _ ix hr485);refine Yf Yu jy (G ag a9 ba) ([] : List Str) ([([115, 104, 97, 112, 101] : Str)] : List Str) Z zw (G zr zs zt) Z zu.sx 4 Z zv fun aj8 sb sc se md jz me zx => ?_;refine Xf (G sb sc se) Z (Xb ?_);have g7 := me.drop 0 Z;have mf := bb.stown _ ix hr485;have mg := me.std 0 Z;have zy := (((((im.st ee).st ef).st mf).st jz).st mg);have zz := (me.sd zx 4 0 Z Z Z);have z0 := (me.sd (jy.sm ((a7.sw (((bg.sw (gx.so _ bf (Xg cf)) 1 0 Z Z Z bh).sn a5).so _ a6 (Xg b6)) 2 0 Z Z Z a8).so _ ix hr485) 3 4 Z Z Z md jz) 3 0 Z Z Z);have z1 := (((en.st mf).st jz).st mg);have z7 := (((iu.st mf).st jz).st mg);have z8 := ((((((jq.st jr).st ee).st ef).st mf).st jz).st mg);have z9 := (jy.bm ((a7.bm (((bg.bm ((((((dh.k0 c2).k0 bc).k0 bd).k0 bi).k0 cn).k0 bf) 3 0 Z Z Z bh).k0 a5).k0 a6) 4 0 Z Z Z a8).k0 ix) 5 4 Z Z Z md);have aaa := (jy.bm ((a7.bm ((gy.k0 a5).k0 a6) 1 0 Z Z Z a8).k0 ix) 2 4 Z Z Z md);have aab := (jy.bm (g1.k0 ix) 1 4 Z Z Z md);exact ⟨(([] : List Str) ++ ([([115, 104, 97, 112, 101] : Str)] : List Str)), sb, sc, se, r4.Kind, r4.Pts, c3, c5, c6, H, (Xt Z), g7, (ec.st g7.st), (gc.st g7.st), (ed.st g7.st), (gd.st g7.st), (hp5.st g7.st), (gb.st g7.st), zy, zz, z0, z1, z7, z8, z9, aaa, aab⟩
   have H := Xj H n7;refine Xz ?_;have aac := ((im.st ee).st ef);have aad := (a7.sw (((bg.sw (((((di.sn bc).sn bd).sn bi).so _ cn hr219).so _ bf (Xg cf)) 2 0 Z Z Z bh).sn a5).so _ a6 (Xg b6)) 3 0 Z Z Z a8);have aae := (a7.sw (((bg.sw (gx.so _ bf (Xg cf)) 1 0 Z Z Z bh).sn a5).so _ a6 (Xg b6)) 2 0 Z Z Z a8);have aaf := (((jq.st jr).st ee).st ef);have aag := (a7.bm (((bg.bm ((((((dh.k0 c2).k0 bc).k0 bd).k0 bi).k0 cn).k0 bf) 3 0 Z Z Z bh).k0 a5).k0 a6) 4 0 Z Z Z a8);have aah := (a7.bm ((gy.k0 a5).k0 a6) 1 0 Z Z Z a8);exact ⟨([] : List Str), ag, a9, ba, r4.Kind, r4.Pts, c3, c5, c6, H, (Xt Z), bb, (ec.st bb.st), (gc.st bb.st), (ed.st bb.st), (gd.st bb.st), (hp5.st bb.st), (gb.st bb.st), aac, aad, aae, en, iu, aaf, aag, aah, g1⟩
  have H := Xj H nv;refine Xz ?_;have mh := nu.stown _ a6 (Xg b6);have mi := a7.stw 0 Z a8;have aai := ((im.st mh).st mi);have aaj := (a7.sw (((bg.sw (((((di.sn bc).sn bd).sn bi).so _ cn hr219).so _ bf (Xg cf)) 2 0 Z Z Z bh).sn a5).so _ a6 (Xg b6)) 3 0 Z Z Z a8);have aak := (a7.sw (((bg.sw (gx.so _ bf (Xg cf)) 1 0 Z Z Z bh).sn a5).so _ a6 (Xg b6)) 2 0 Z Z Z a8);have n9 := gz.stn a5;have aal := (((ns.st n9).st mh).st mi);have aam := (((nt.st n9).st mh).st mi);have aan := (((jq.st n9).st mh).st mi);have aao := (a7.bm (((bg.bm ((((((dh.k0 c2).k0 bc).k0 bd).k0 bi).k0 cn).k0 bf) 3 0 Z Z Z bh).k0 a5).k0 a6) 4 0 Z Z Z a8);have aap := (a7.bm ((gy.k0 a5).k0 a6) 1 0 Z Z Z a8);exact ⟨([] : List Str), ag, a9, ba, r4.Kind, r4.Pts, c3, c5, c6, H, (Xt Z), bb, (ec.st bb.st), (gc.st bb.st), (ed.st bb.st), (gd.st bb.st), (hp5.st bb.st), (gb.st bb.st), aai, aaj, aak, aal, aam, aan, aao, aap, g1⟩
 rintro aj9 b3 ⟨xs, ap, io, ip, z, z2, iq, ir, it, aaq, aar, oa, aas, aat, aau, aav, aaw, aax, aay, aaz, aa0, aa1, aa2, aa3, aa4, aa5, aa6⟩;obtain ⟨aka, rfl⟩ := Has.ins aar;have H := xt xs z z2 aaq;refine Xc (Xd (Xa (Xr ag41 sz41 cL (Ad av 0) [vi z, G iq ir it] Z Z (aa6.cells (off := 00) Z)) ?_));refine Xs go72 (F23.calls H oa.ok aay) Z ?_;rintro _ akb ⟨r9, ac, br, bs, rfl, H, iy, aa7, mj, aa8⟩;have iz := oa.owns iy aa7 mj;refine Xa (Xm fa44_1 (Ad ab 0) (Ad ab 1) Z Z) ?_;have aa9 := (aa5.k0 iy);refine Yq 1 [vi r9.Kind, G ac br bs] [vs a.Id, vi r9.Kind, G ac br bs, G ae dk dl] aa9 Z Z sz41 Z Z Z fun akc i0 aba => ?_;have sf := iz.wr 2 Z i0;refine Xb (Xc (Xd (X7 (kd := Kd.str) Yu sf ([] : List Str) (cells := []) Z RF fun akd i1 sg sh i2 hr553 si abb => ?_)));refine Xf (G i1 sg sh) Z (Xb (Xc (Xc (Xd (Xa (Xm fa44_2 (Ad ao 0) (Ad ao 3) Z Z) ?_)))));have er := oa.stos iy mj;have es := iz.stw 2 Z i0;have et := sf.stown _ i2 hr553;have sj := (((aa1.st er).st es).st et);refine Xa (Xp ag42 cL (Ad ao 3) (G A7 n8 c9) Z (sj.cell Z)) (Xa (Xm fa44_2 (Ad an 0) (Ad an 3) Z Z) ?_);have sk := (((aa2.st er).st es).st et);refine Xa (Xp ag42 cL (Ad an 3) (G ax ay az) Z (sk.cell Z)) (Xa (Xm fa44_2 (Ad a0 0) (Ad a0 3) Z Z) ?_);have sq := (((aa3.st er).st es).st et);refine Xa (Xp ag42 cL (Ad a0 3) (G ak al am) Z (sq.cell Z)) ?_;have sr := (((aav.st er).st es).st et);have ss := (((aat.st er).st es).st et);have su := (((aax.st er).st es).st et);refine X7 (kd := (Kd.sl kTag)) Km si ([base_.Tags, a.Tags, b.Tags] : List (List Tag)) (cells := [G A7 n8 c9, G ax ay az, G ak al am]) ⟨[G A7 n8 c9], _, Z, ⟨_, Z, su⟩, ⟨[G ax ay az], _, Z, ⟨_, Z, ss⟩, ⟨[G ak al am], _, Z, ⟨_, Z, sr⟩, Z⟩⟩⟩ RF fun abc ml sv sy g8 hr568 j0 abd => ?_;have abe := j0.gv abd 0 Z;have abf := j0.drop 0 Z;refine Xs go73 (F15.calls H abf.ok abe) Z ?_;rintro _ ake ⟨r10, bt, mm, mn, rfl, H, eu, abg, g9, abh⟩;have abi := Ok.unl (L := [bk ml, bk i1, bk ac, some av, some ab, bk ae, bk ap, some aa]) (L' := [bk i1, bk ac, some av, some ab, bk ae, bk ap, some aa]) (O := O) j0 eu abg g9;have ob := Ow.unl (L := [bk ml, bk i1, bk ac, some av, some ab, bk ae, bk ap, some aa]) (L' := [bk i1, bk ac, some av, some ab, bk ae, bk ap, some aa]) (O := O) (fun _ _ _ _ _ _ h => h) (.cons _ (.cons_cons _ (.cons_cons _ (.cons_cons _ (.cons_cons _ (.cons_cons _ (.cons_cons _ (.cons_cons _ (.slnil))))))))) abh;have ha := j0.owns eu abi g9;have akf := ob.le;refine Xa (X4 u42_ bt mm mn ob.len Z) (Xe (vi 0) Z (Xb (X8 ?_)));have hb := ha.drop 1 Z;have abj := hb.drop 3 Z;obtain ⟨abk, abl, oc, H⟩ := H;have ev := si.stown _ g8 hr568;have ew := j0.stos eu g9;have ex := ha.std 1 Z;have ey := hb.std 3 Z;have abm := (((((((aas.st er).st es).st et).st ev).st ew).st ex).st ey);have abn := ((((ss.st ev).st ew).st ex).st ey);have abo := (((((((aau.st er).st es).st et).st ev).st ew).st ex).st ey);have abp := ((((sr.st ev).st ew).st ex).st ey);have abq := (((((((aaw.st er).st es).st et).st ev).st ew).st ex).st ey);have abr := ((((su.st ev).st ew).st ex).st ey);have abs := (hb.sd (ha.sd ((((iz.sw (aaz.sos iy mj) 4 2 Z Z Z i0).so _ i2 hr553).so _ g8 hr568).sos eu g9) 7 1 Z Z Z) 6 3 Z Z Z);have abt := (hb.sd (ha.sd ((abb.so _ g8 hr568).sos eu g9) 2 1 Z Z Z) 1 3 Z Z Z);have abu := (hb.sd (ha.sd ob 0 1 Z Z Z) 0 3 Z Z Z);have abv := (hb.sd (ha.sd ((((iz.sw aa8 0 2 Z Z Z i0).so _ i2 hr553).so _ g8 hr568).sos eu g9) 3 1 Z Z Z) 2 3 Z Z Z);have abw := (hb.sd (ha.sd ((((iz.sw (aa0.sos iy mj) 3 2 Z Z Z i0).so _ i2 hr553).so _ g8 hr568).sos eu g9) 6 1 Z Z Z) 5 3 Z Z Z);have abx := ((((sj.st ev).st ew).st ex).st ey);have aby := ((((sk.st ev).st ew).st ex).st ey);have abz := ((((sq.st ev).st ew).st ex).st ey);have ab0 := ((((iz.bm (aa4.k0 iy) 5 2 Z Z Z i0).k0 i2).k0 g8).k0 eu);have ab1 := (((aba.k0 i2).k0 g8).k0 eu);refine Ys (α := (List Str) × (Option Addr) × Nat × Nat × Int) (fun (xs3, ad, dw, bp, v2) t bx => abk xs3 v2 ∧ Has t [(3, Pz ao), (4, Pz an), (5, Pz a0), (6, Pz aa), (8, G ap io ip), (9, Pz ab), (16, G ad dw bp), (127, G bt mm mn), (128, vi (r10.length : Int)), (129, vi v2)] ∧ Cw [] w0 bx [bk bt, bk ad, bk ac, some ab, bk ae, bk ap, some aa] O fun M => Sl kPt bx (Fr M) (G aq ar au) a.Shape.Pts ∧ Sl kTag bx (Fr M) (G ax ay az) a.Tags ∧ Sl kPt bx (Fr M) (G ah ai aj) b.Shape.Pts ∧ Sl kTag bx (Fr M) (G ak al am) b.Tags ∧ Sl kPt bx (Fr M) (G A2 n3 c4) base_.Shape.Pts ∧ Sl kTag bx (Fr M) (G A7 n8 c9) base_.Tags ∧ Ow Kd.str 9 bx M (G ap io ip) xs ∧ Ow Kd.str 9 bx M (G ad dw bp) xs3 ∧ Ow kTag 93 bx M (G bt mm mn) r10 ∧ Ow kPt 49 bx M (G ac br bs) r9.Pts ∧ Ow kTag 93 bx M (G ae dk dl) ([] : List Tag) ∧ Fb bx M ao [vs base_.Id, vi base_.Shape.Kind, G A2 n3 c4, G A7 n8 c9] ∧ Fb bx M an [vs a.Id, vi a.Shape.Kind, G aq ar au, G ax ay az] ∧ Fb bx M a0 [vs b.Id, vi b.Shape.Kind, G ah ai aj, G ak al am] ∧ Bx bx aa [vs [], vi 0, G none 0 0, G none 0 0] ∧ Bx bx ab [vs a.Id, vi r9.Kind, G ac br bs, G ae dk dl]) (fun (xs3, _, _, _, v2) => abl xs3 v2) (([] : List Str), i1, sg, sh, 0) ⟨oc, (Xt Z), abj, abm, abn, abo, abp, abq, abr, abs, abt, abu, abv, abw, abx, aby, abz, ab0, ab1⟩ ?_;rintro ⟨xs3, ad, dw, bp, v2⟩ _ bx ⟨oc, ab2, ei, sz, s0, s1, s2, s3, s4, s5, s6, od, s7, s8, s9, ta, tb, tc, td⟩;obtain ⟨akg, rfl⟩ := Has.ins ab2;have H := H xs3 v2 oc;refine Xc (Xd (Xa (Xx v2 (r10.length : Int) (decide (v2 < (r10.length : Int))) Z Z Z) (Xb (Xc ?_))));refine Xu (decide (v2 < (r10.length : Int))) Z (fun oe => ?_) (fun oe => ?_)
 ·have H := Xi H oe;refine Xz (Xc (X8 (Xc (Xd ?_))));obtain ⟨te, H⟩ := H;obtain ⟨tf, akh, ab3, ab4, ab5⟩ := od.get default RD v2 te;obtain ⟨rfl, ab6, aki⟩ := kTag.op ab4;refine Xa (X3 u42_ Yx bt tf mm mn od.len v2 Z ab3 Z te) (Xa (Xr ag93 sz93 cL (tf.add (v2.toNat * 2)) [vs ((nth r10 v2).Key), vs ((nth r10 v2).Val)] Z Z ab5) (Ya [vs [], vs []] ze93 fun akj i3 hc hu727 ez ab7 => ?_));have e0 := ei.own ez (some i3) (X9 hc hu727);refine Xw [vs ((nth r10 v2).Key), vs ((nth r10 v2).Val)] ab7 Z Z sz93 Z Z fun akk e1 ab8 => ?_;have tg := e0.wr 0 Z e1;refine Xb (Xd (Xe (G ad dw bp) Z (Xa (Xm fa93_0 (Ad i3 0) (Ad i3 0) Z Z) (Xa (Xp ag9 cL (Ad i3 0) (vs ((nth r10 v2).Key)) Z (ab8.cell Z)) (X7 (kd := Kd.str) Yu tg ([(nth r10 v2).Key] : List Str) (cells := [vs ((nth r10 v2).Key)]) ⟨[vs ((nth r10 v2).Key)], _, Z, ⟨Z, ab6⟩, Z⟩ RF fun akl ab9 aca acb gh hr740 hd acc => ?_)))));obtain ⟨acd, H⟩ := H;have ace := ((e0.sw (s6.so _ ez (Xg hc)) 2 0 Z Z Z e1).so _ gh hr740);refine Yf Yu hd (G ad dw bp) xs3 ([(nth r10 v2).Key] : List Str) Z ace (G ab9 aca acb) Z acc.sx 3 Z acd fun acf og th ti i4 c7 he acg => ?_;refine Xf (G og th ti) Z (Xb (Xd ?_));obtain ⟨ach, H⟩ := H;refine Xa (X6 v2 1 Z Z ach) (Xe (vi (v2 + 1)) Z (Xb ?_));have hf : Ct [] w0 acf [some i3, bk bt, bk og, bk ac, some ab, bk ae, bk ap, some aa] O := he.drop 0 Z;have aci := hf.drop 0 Z;obtain ⟨acj, ack⟩ := H;have e2 := ei.stown _ ez (Xg hc);have e3 := e0.stw 0 Z e1;have e4 := tg.stown _ gh hr740;have e5 := he.std 0 Z;have e6 := hf.std 0 Z;have acl := ((((((sz.st e2).st e3).st e4).st c7).st e5).st e6);have acm := ((((((s0.st e2).st e3).st e4).st c7).st e5).st e6);have acn := ((((((s1.st e2).st e3).st e4).st c7).st e5).st e6);have aco := ((((((s2.st e2).st e3).st e4).st c7).st e5).st e6);have acp := ((((((s3.st e2).st e3).st e4).st c7).st e5).st e6);have acq := ((((((s4.st e2).st e3).st e4).st c7).st e5).st e6);have acr := (hf.sd (he.sd (hd.sm ((e0.sw (s5.so _ ez (Xg hc)) 6 0 Z Z Z e1).so _ gh hr740) 7 3 Z Z Z i4 c7) 7 0 Z Z Z) 6 0 Z Z Z);have acs := (hf.sd (he.sd acg 3 0 Z Z Z) 2 0 Z Z Z);have act := (hf.sd (he.sd (hd.sm ((e0.sw (od.so _ ez (Xg hc)) 1 0 Z Z Z e1).so _ gh hr740) 2 3 Z Z Z i4 c7) 2 0 Z Z Z) 1 0 Z Z Z);have acu := (hf.sd (he.sd (hd.sm ((e0.sw (s7.so _ ez (Xg hc)) 3 0 Z Z Z e1).so _ gh hr740) 4 3 Z Z Z i4 c7) 4 0 Z Z Z) 3 0 Z Z Z);have acv := (hf.sd (he.sd (hd.sm ((e0.sw (s8.so _ ez (Xg hc)) 5 0 Z Z Z e1).so _ gh hr740) 6 3 Z Z Z i4 c7) 6 0 Z Z Z) 5 0 Z Z Z);have acw := ((((((s9.st e2).st e3).st e4).st c7).st e5).st e6);have acx := ((((((ta.st e2).st e3).st e4).st c7).st e5).st e6);have acy := ((((((tb.st e2).st e3).st e4).st c7).st e5).st e6);have acz := (hd.bm ((e0.bm (tc.k0 ez) 7 0 Z Z Z e1).k0 gh) 8 3 Z Z Z i4);have ac0 := (hd.bm ((e0.bm (td.k0 ez) 4 0 Z Z Z e1).k0 gh) 5 3 Z Z Z i4);exact ⟨((xs3 ++ ([(nth r10 v2).Key] : List Str)), og, th, ti, v2 + 1), ack, acj, (Xt Z), aci, acl, acm, acn, aco, acp, acq, acr, acs, act, acu, acv, acw, acx, acy, acz, ac0⟩
 have H := Xj H oe;refine Ym (xin_hit ?_);refine Xc (Xd (Xe (G ad dw bp) Z ?_));refine Z0 go55 [G ad dw bp] Z ((F8.calls bx ei.ok ad dw bp xs3 s6 _ H).mono ?_);rintro _ ac1 ⟨m, rfl, H, hg, ac2⟩;have gi := ei.wr 1 Z hg;refine Xb (Xc (Xc (Xd (Xe (G ad dw bp) Z ?_))));refine Z0 go56 [G ad dw bp] Z ((F1.calls ac1 gi.ok ad dw bp m ac2 _ H).mono ?_);rintro _ ac3 ⟨r11, ej, rfl, H, hh, oh⟩;have i5 := gi.wr 1 Z hh;have akm := oh.le;refine Xa (X4 u50_ ad ej bp oh.len Z) (Xe (vi 0) Z (Xb (X8 ?_)));have ac4 : Ct [] w0 ac3 [bk ad, bk ac, some ab, bk ae, bk ap, some aa] O := i5.drop 0 Z;obtain ⟨oi, j1, oj, H⟩ := H;have e7 := ei.stw 1 Z hg;have e8 := gi.stw 1 Z hh;have e9 := i5.std 0 Z;have ac5 := (((sz.st e7).st e8).st e9);have ac6 := (((s0.st e7).st e8).st e9);have ac7 := (((s1.st e7).st e8).st e9);have ac8 := (((s2.st e7).st e8).st e9);have ac9 := (((s3.st e7).st e8).st e9);have ada := (((s4.st e7).st e8).st e9);have adb := (i5.sd (gi.sw (ei.sw s5 5 1 Z Z Z hg) 5 1 Z Z Z hh) 5 0 Z Z Z);have adc := (i5.sd oh 1 0 Z Z Z);have ade := (i5.sd (gi.sw (ei.sw s7 2 1 Z Z Z hg) 2 1 Z Z Z hh) 2 0 Z Z Z);have adf := (i5.sd (gi.sw (ei.sw s8 4 1 Z Z Z hg) 4 1 Z Z Z hh) 4 0 Z Z Z);have adg := (((s9.st e7).st e8).st e9);have adh := (((ta.st e7).st e8).st e9);have adi := (((tb.st e7).st e8).st e9);have adj := (gi.bm (ei.bm tc 6 1 Z Z Z hg) 6 1 Z Z Z hh);have adk := (gi.bm (ei.bm td 3 1 Z Z Z hg) 3 1 Z Z Z hh);refine Ys (α := (List Str) × (Option Addr) × Nat × Nat × Int × (List Tag) × (Option Addr) × Nat × Nat) (fun (xs6, a1, dn, dp, v4, xs7, af, b9, ca) t bu => oi xs6 v4 xs7 ∧ Has t [(3, Pz ao), (4, Pz an), (5, Pz a0), (6, Pz aa), (8, G a1 dn dp), (9, Pz ab), (142, G ad ej bp), (143, vi (r11.length : Int)), (144, vi v4)] ∧ Cw [] w0 bu [bk ad, bk ac, some ab, bk af, bk a1, some aa] O fun M => Sl kPt bu (Fr M) (G aq ar au) a.Shape.Pts ∧ Sl kTag bu (Fr M) (G ax ay az) a.Tags ∧ Sl kPt bu (Fr M) (G ah ai aj) b.Shape.Pts ∧ Sl kTag bu (Fr M) (G ak al am) b.Tags ∧ Sl kPt bu (Fr M) (G A2 n3 c4) base_.Shape.Pts ∧ Sl kTag bu (Fr M) (G A7 n8 c9) base_.Tags ∧ Ow Kd.str 9 bu M (G a1 dn dp) xs6 ∧ Ow Kd.str 9 bu M (G ad ej bp) r11 ∧ Ow kPt 49 bu M (G ac br bs) r9.Pts ∧ Ow kTag 93 bu M (G af b9 ca) xs7 ∧ Fb bu M ao [vs base_.Id, vi base_.Shape.Kind, G A2 n3 c4, G A7 n8 c9] ∧ Fb bu M an [vs a.Id, vi a.Shape.Kind, G aq ar au, G ax ay az] ∧ Fb bu M a0 [vs b.Id, vi b.Shape.Kind, G ah ai aj, G ak al am] ∧ Bx bu aa [vs [], vi 0, G none 0 0, G none 0 0] ∧ Bx bu ab [vs a.Id, vi r9.Kind, G ac br bs, G af b9 ca]) (fun (xs6, _, _, _, v4, xs7, _, _, _) => j1 xs6 v4 xs7) (xs, ap, io, ip, 0, ([] : List Tag), ae, dk, dl) ⟨oj, (Xt Z), ac4, ac5, ac6, ac7, ac8, ac9, ada, adb, adc, ade, adf, adg, adh, adi, adj, adk⟩ ?_;rintro ⟨xs6, a1, dn, dp, v4, xs7, af, b9, ca⟩ _ bu ⟨oj, adl, dx, fa, fb, cw, cx, j2, j3, ol, j4, j5, j6, mo, j7, mp, j8, j9⟩;obtain ⟨akn, rfl⟩ := Has.ins adl;have H := H xs6 v4 xs7 oj;refine Xc (Xd (Xa (Xx v4 (r11.length : Int) (decide (v4 < (r11.length : Int))) Z Z Z) (Xb (Xc ?_))));refine Xu (decide (v4 < (r11.length : Int))) Z (fun om => ?_) (fun om => ?_)
 ·have H := Xi H om;refine Xz (Xc (X8 (Xc (Xd ?_))));obtain ⟨tj, H⟩ := H;obtain ⟨tk, ako, adm, adn, ado⟩ := j4.get default RD v4 tj;obtain ⟨rfl, bz⟩ := Kd.str.op adn;refine Xa (X3 u50_ Zl ad tk ej bp j4.len v4 Z adm Z tj) (Xa (Xp ag9 cL (tk.add (v4.toNat * 1)) (vs (nth r11 v4)) Z (ado 0 _ Z)) (Xf (vs (nth r11 v4)) Z (Xb (Xc ?_))));refine Y1 (J := (fun t hi => ∃ (r12 r13 : value) (bv cj : Nat), Has t [(3, Pz ao), (4, Pz an), (5, Pz a0), (6, Pz aa), (8, G a1 dn dp), (9, Pz ab), (20, vs (nth r11 v4)), (21, Pz bv), (22, Pz cj), (142, G ad ej bp), (143, vi (r11.length : Int)), (144, vi v4)] ∧ Gr bu hi none ∧ Ct [] w0 hi [some cj, some bv, bk ad, bk ac, some ab, bk af, bk a1, some aa] O ∧ (∀ b, some b ∈ ([some cj, some bv] : Ob) → bu.heap.size ≤ b) ∧ Lim r12.val ∧ Bx hi bv [vb r12.has, vs r12.val] ∧ Lim r13.val ∧ Bx hi cj [vb r13.has, vs r13.val] ∧ F77.E base_ (nth r11 v4) (fun r14 => (∃ (f2 : value → value → Bool) (f2_ok : value → value → Prop), (∀ x0_ x1_, f2_ok x0_ x1_ → F31.E x0_ x1_  (fun r => r = f2 x0_ x1_)) ∧ F10.E r14 r12 r13 f2 f2_ok (fun r15 r16 => (∃ (dy : (List Str) → Bool → Str → Prop), ((if !r16 then (([116, 97, 103, 32] : Str).length + (nth r11 v4).length ≤ 9223372036854775807) ∧ (xs6.length + ([(([116, 97, 103, 32] : Str) ++ (nth r11 v4))] : List Str).length ≤ 268435456) ∧ (if !r12.has then dy (xs6 ++ ([(([116, 97, 103, 32] : Str) ++ (nth r11 v4))] : List Str)) r13.has r13.val else dy (xs6 ++ ([(([116, 97, 103, 32] : Str) ++ (nth r11 v4))] : List Str)) r12.has r12.val) else dy xs6 r15.has r15.val)) ∧ ∀ (xs8 : List Str) (z5 : Bool) (z6 : Str), dy xs8 z5 z6 → (∃ (fc : (List Tag) → Prop), ((if z5 then (xs7.length + ([(⟨(nth r11 v4), z6⟩ : Tag)] : List Tag).length ≤ 268435456) ∧ fc (xs7 ++ ([(⟨(nth r11 v4), z6⟩ : Tag)] : List Tag)) else fc xs7)) ∧ ∀ (xs9 : List Tag), fc xs9 → (I64 (v4 + 1)) ∧ oi xs8 (v4 + 1) xs9 ∧ j1 xs8 (v4 + 1) xs9 < j1 xs6 v4 xs7))))))) ?_ ?_
  ·refine Yy 10 [] RK Z fun adp aw b0 => ?_;have c8 := dx.k0 aw;have a3 := dx.stn aw;have adq := (j7.st a3);refine Xo 0 Z RK b0 (Y2 ag44 sz44 cR (Ad an 0) [vs a.Id, vi a.Shape.Kind, G aq ar au, G ax ay az] Z Z (adq.cells (off := 0) Z) nm_nil) ?_;refine Xo 1 Z RK b0 (Yc (vs (nth r11 v4)) Z) ?_;have adr := (mp.st a3);refine Xo 3 Z RK b0 (Y2 ag44 sz44 cR (Ad a0 0) [vs b.Id, vi b.Shape.Kind, G ah ai aj, G ak al am] Z Z (adr.cells (off := 0) Z) nm_nil) ?_;refine Xo 4 Z RK b0 (Yc (vs (nth r11 v4)) Z) ?_;refine Z4 2 6 7 RK Z Z Z ?_ ?_ ?_
   ·refine Xs go74 (F77.calls H c8.ok em (fa.st a3) (fb.st a3) bz) Z ?_;rintro _ ka ⟨r12, rfl, H, hj, i6⟩;have gj := c8.k0 hj;have dq := Gm.tm b0 hj;refine Xb ⟨dq, ?_⟩;refine Z4 5 6 7 RK Z Z Z ?_ ?_ ?_
    ·have tl := c8.stn hj;have ads := ((cw.st a3).st tl);have kb := ((cx.st a3).st tl);refine Xs go74 (F77.calls H gj.ok dg ads kb bz) Z ?_;rintro _ akp ⟨r13, rfl, H, tn, tp⟩;have tr := gj.k0 tn;have hk := Gm.tm dq tn;refine Xb ⟨hk, ?_⟩;refine Yw 6 7 RK Z Z ?_ ?_
     ·refine Ya [vb false, vs []] ze102 fun adt hl hm hu951 kc on => ?_;have oo := tr.own kc (some hl) (X9 hm hu951);have fd := Gm.tm hk kc;refine Xb ⟨fd, ?_⟩;refine Xq 7 RK Z ?_;refine Ya [vb false, vs []] ze102 fun adu hn ho hu960 hp oq => ?_;have ke := oo.own hp (some hn) (X9 ho hu960);have kf := Gm.tm fd hp;refine Xb ⟨kf, ?_⟩;refine Xq 8 RK Z ?_;have adv := (on.k0 hp);refine Xw [vb r12.has, vs r12.val] adv Z Z sz102 Z Z fun adw hq os => ?_;have kg := ke.wr 1 Z hq;have kh := Gm.tq kf hq (hv_new hk (Xg hm));refine Xb ⟨kh, ?_⟩;refine Xq 9 RK Z ?_;have ot := (ke.bm oq 0 1 Z Z Z hq);refine Xw [vb r13.has, vs r13.val] ot Z Z sz102 Z Z fun adx hr ou => ?_;have ov := kg.wr 0 Z hr;have ki := Gm.tq kh hr (hv_new fd (Xg ho));refine Xb ⟨ki, ?_⟩;refine Yg RK ?_;have kj := (kg.bm os 1 0 Z Z Z hr);exact ⟨r12, r13, hl, hn, (Xt Z), (Gr.t0 aw ki.g0), ov, (jg_cons aw.size (hv_new fd (Xg ho)) (jg_cons aw.size (hv_new hk (Xg hm)) jg_nil)), i6, kj, tp, ou, H⟩
     refine Ya [vb false, vs []] ze102 fun adt hl hm hu951 kc on => ?_;have oo := tr.own kc (some hl) (X9 hm hu951);have fd := Gm.tm hk kc;refine Xb ⟨fd, ?_⟩;refine Xq 6 RK Z ?_;refine Ya [vb false, vs []] ze102 fun adu hn ho hu960 hp oq => ?_;have ke := oo.own hp (some hn) (X9 ho hu960);have kf := Gm.tm fd hp;refine Xb ⟨kf, ?_⟩;refine Xq 8 RK Z ?_;refine Xw [vb r12.has, vs r12.val] oq Z Z sz102 Z Z fun adw hq os => ?_;have ts := ke.wr 0 Z hq;have tt := Gm.tq kf hq (hv_new fd (Xg ho));refine Xb ⟨tt, ?_⟩;refine Xq 9 RK Z ?_;have ady := (ke.bm (on.k0 hp) 1 0 Z Z Z hq);refine Xw [vb r13.has, vs r13.val] ady Z Z sz102 Z Z fun akq ow adz => ?_;have ad0 := ts.wr 1 Z ow;have tu := Gm.tq tt ow (hv_new hk (Xg hm));refine Xb ⟨tu, ?_⟩;refine Yg RK ?_;have ox := ad0.perm (.swap _ _ _);have kj := (ts.bm os 0 1 Z Z Z ow);have da := adz;exact ⟨r12, r13, hn, hl, (Xt Z), (Gr.t0 aw tu.g0), ox, (jg_cons aw.size (hv_new hk (Xg hm)) (jg_cons aw.size (hv_new fd (Xg ho)) jg_nil)), i6, kj, tp, da, H⟩
    ·refine Ya [vb false, vs []] ze102 fun oy dz cp hu940 fe kk => ?_;have ff := gj.own fe (some dz) (X9 cp hu940);have d0 := Gm.tm dq fe;refine Xb ⟨d0, ?_⟩;refine Yw 5 7 RK Z Z ?_ ?_
     ·have kl := c8.stn hj;have cq := gj.stown _ fe (Xg cp);have oz := (((cw.st a3).st kl).st cq);have hs := (((cx.st a3).st kl).st cq);refine Xs go74 (F77.calls H ff.ok dg oz hs bz) Z ?_;rintro _ ad1 ⟨r13, rfl, H, cb, o0⟩;have fg := ff.k0 cb;have cr := Gm.tm d0 cb;refine Xb ⟨cr, ?_⟩;refine Xq 7 RK Z ?_;refine Ya [vb false, vs []] ze102 fun ad2 ht hu hu961 hv o1 => ?_;have km := fg.own hv (some ht) (X9 hu hu961);have kn := Gm.tm cr hv;refine Xb ⟨kn, ?_⟩;refine Xq 8 RK Z ?_;have ad3 := ((kk.k0 cb).k0 hv);refine Xw [vb r12.has, vs r12.val] ad3 Z Z sz102 Z Z fun ad4 hw o2 => ?_;have tv := km.wr 1 Z hw;have tw := Gm.tq kn hw (hv_new dq (Xg cp));refine Xb ⟨tw, ?_⟩;refine Xq 9 RK Z ?_;have ad5 := (km.bm o1 0 1 Z Z Z hw);refine Xw [vb r13.has, vs r13.val] ad5 Z Z sz102 Z Z fun akr o3 ad6 => ?_;have ox := tv.wr 0 Z o3;have tx := Gm.tq tw o3 (hv_new cr (Xg hu));refine Xb ⟨tx, ?_⟩;refine Yg RK ?_;have da := (tv.bm o2 1 0 Z Z Z o3);exact ⟨r12, r13, dz, ht, (Xt Z), (Gr.t0 aw tx.g0), ox, (jg_cons aw.size (hv_new cr (Xg hu)) (jg_cons aw.size (hv_new dq (Xg cp)) jg_nil)), i6, da, o0, ad6, H⟩
     refine Ya [vb false, vs []] ze102 fun o4 hx fh hu949 fi o5 => ?_;have ko := ff.own fi (some hx) (X9 fh hu949);have kp := Gm.tm d0 fi;refine Xb ⟨kp, ?_⟩;refine Xq 5 RK Z ?_;have kq := c8.stn hj;have kr := gj.stown _ fe (Xg cp);have ks := ff.stown _ fi (Xg fh);have o6 := ((((cw.st a3).st kq).st kr).st ks);have o7 := ((((cx.st a3).st kq).st kr).st ks);refine Xs go74 (F77.calls H ko.ok dg o6 o7 bz) Z ?_;rintro _ o8 ⟨r13, rfl, H, fj, o9⟩;have kt := ko.k0 fj;have ku := Gm.tm kp fj;refine Xb ⟨ku, ?_⟩;refine Xq 8 RK Z ?_;have pa := ((kk.k0 fi).k0 fj);refine Xw [vb r12.has, vs r12.val] pa Z Z sz102 Z Z fun ad7 hy pb => ?_;have gk := kt.wr 1 Z hy;have gl := Gm.tq ku hy (hv_new dq (Xg cp));refine Xb ⟨gl, ?_⟩;refine Xq 9 RK Z ?_;have kv := (kt.bm (o5.k0 fj) 0 1 Z Z Z hy);refine Xw [vb r13.has, vs r13.val] kv Z Z sz102 Z Z fun ty d1 kx => ?_;have hz := gk.wr 0 Z d1;have gm := Gm.tq gl d1 (hv_new d0 (Xg fh));refine Xb ⟨gm, ?_⟩;refine Yg RK ?_;have pd := (gk.bm pb 1 0 Z Z Z d1);exact ⟨r12, r13, dz, hx, (Xt Z), (Gr.t0 aw gm.g0), hz, (jg_cons aw.size (hv_new d0 (Xg fh)) (jg_cons aw.size (hv_new dq (Xg cp)) jg_nil)), i6, pd, o9, kx, H⟩
    refine Ya [vb false, vs []] ze102 fun oy dz cp hu940 fe kk => ?_;have ff := gj.own fe (some dz) (X9 cp hu940);have d0 := Gm.tm dq fe;refine Xb ⟨d0, ?_⟩;refine Yw 5 6 RK Z Z ?_ ?_
    ·have kl := c8.stn hj;have cq := gj.stown _ fe (Xg cp);have oz := (((cw.st a3).st kl).st cq);have hs := (((cx.st a3).st kl).st cq);refine Xs go74 (F77.calls H ff.ok dg oz hs bz) Z ?_;rintro _ ad1 ⟨r13, rfl, H, cb, o0⟩;have fg := ff.k0 cb;have cr := Gm.tm d0 cb;refine Xb ⟨cr, ?_⟩;refine Xq 6 RK Z ?_;refine Ya [vb false, vs []] ze102 fun ad2 ht hu hu961 hv o1 => ?_;have km := fg.own hv (some ht) (X9 hu hu961);have kn := Gm.tm cr hv;refine Xb ⟨kn, ?_⟩;refine Xq 8 RK Z ?_;refine Xw [vb r12.has, vs r12.val] o1 Z Z sz102 Z Z fun ad4 hw o2 => ?_;have kg := km.wr 0 Z hw;have kh := Gm.tq kn hw (hv_new cr (Xg hu));refine Xb ⟨kh, ?_⟩;refine Xq 9 RK Z ?_;have ot := (km.bm ((kk.k0 cb).k0 hv) 1 0 Z Z Z hw);refine Xw [vb r13.has, vs r13.val] ot Z Z sz102 Z Z fun adx hr ou => ?_;have ov := kg.wr 1 Z hr;have ki := Gm.tq kh hr (hv_new dq (Xg cp));refine Xb ⟨ki, ?_⟩;refine Yg RK ?_;have hz := ov.perm (.swap _ _ _);have da := (kg.bm o2 0 1 Z Z Z hr);have pd := ou;exact ⟨r12, r13, ht, dz, (Xt Z), (Gr.t0 aw ki.g0), hz, (jg_cons aw.size (hv_new dq (Xg cp)) (jg_cons aw.size (hv_new cr (Xg hu)) jg_nil)), i6, da, o0, pd, H⟩
    refine Ya [vb false, vs []] ze102 fun o4 hx fh hu949 fi o5 => ?_;have ko := ff.own fi (some hx) (X9 fh hu949);have kp := Gm.tm d0 fi;refine Xb ⟨kp, ?_⟩;refine Xq 5 RK Z ?_;have kq := c8.stn hj;have kr := gj.stown _ fe (Xg cp);have ks := ff.stown _ fi (Xg fh);have o6 := ((((cw.st a3).st kq).st kr).st ks);have o7 := ((((cx.st a3).st kq).st kr).st ks);refine Xs go74 (F77.calls H ko.ok dg o6 o7 bz) Z ?_;rintro _ o8 ⟨r13, rfl, H, fj, o9⟩;have kt := ko.k0 fj;have ku := Gm.tm kp fj;refine Xb ⟨ku, ?_⟩;refine Xq 8 RK Z ?_;have pa := (o5.k0 fj);refine Xw [vb r12.has, vs r12.val] pa Z Z sz102 Z Z fun ad7 hy pb => ?_;have gk := kt.wr 0 Z hy;have gl := Gm.tq ku hy (hv_new d0 (Xg fh));refine Xb ⟨gl, ?_⟩;refine Xq 9 RK Z ?_;have kv := (kt.bm ((kk.k0 fi).k0 fj) 1 0 Z Z Z hy);refine Xw [vb r13.has, vs r13.val] kv Z Z sz102 Z Z fun ty d1 kx => ?_;have hz := gk.wr 1 Z d1;have gm := Gm.tq gl d1 (hv_new dq (Xg cp));refine Xb ⟨gm, ?_⟩;refine Yg RK ?_;have d2 := hz.perm (.swap _ _ _);have ky := (gk.bm pb 0 1 Z Z Z d1);have h0 := kx;exact ⟨r12, r13, hx, dz, (Xt Z), (Gr.t0 aw gm.g0), d2, (jg_cons aw.size (hv_new dq (Xg cp)) (jg_cons aw.size (hv_new d0 (Xg fh)) jg_nil)), i6, ky, o9, h0, H⟩
   ·refine Ya [vb false, vs []] ze102 fun ka cs b1 hu932 fk h1 => ?_;have db := c8.own fk (some cs) (X9 b1 hu932);have d3 := Gm.tm b0 fk;refine Xb ⟨d3, ?_⟩;refine Yw 2 7 RK Z Z ?_ ?_
    ·have dc := c8.stown _ fk (Xg b1);have kb := ((fa.st a3).st dc);have pe := ((fb.st a3).st dc);refine Xs go74 (F77.calls H db.ok em kb pe bz) Z ?_;rintro _ pf ⟨r12, rfl, H, dd, kz⟩;have fl := db.k0 dd;have d4 := Gm.tm d3 dd;refine Xb ⟨d4, ?_⟩;refine Yw 5 7 RK Z Z ?_ ?_
     ·have k1 := db.stn dd;have h2 := (((cw.st a3).st dc).st k1);have pg := (((cx.st a3).st dc).st k1);refine Xs go74 (F77.calls H fl.ok dg h2 pg bz) Z ?_;rintro _ ad8 ⟨r13, rfl, H, h3, ph⟩;have pi := fl.k0 h3;have fm := Gm.tm d4 h3;refine Xb ⟨fm, ?_⟩;refine Xq 7 RK Z ?_;refine Ya [vb false, vs []] ze102 fun o8 h4 h5 hu963 h6 pj => ?_;have k2 := pi.own h6 (some h4) (X9 h5 hu963);have k3 := Gm.tm fm h6;refine Xb ⟨k3, ?_⟩;refine Xq 8 RK Z ?_;have ad9 := (((h1.k0 dd).k0 h3).k0 h6);refine Xw [vb r12.has, vs r12.val] ad9 Z Z sz102 Z Z fun aea h7 pk => ?_;have tz := k2.wr 1 Z h7;have t1 := Gm.tq k3 h7 (hv_new b0 (Xg b1));refine Xb ⟨t1, ?_⟩;refine Xq 9 RK Z ?_;have kj := (k2.bm pj 0 1 Z Z Z h7);refine Xw [vb r13.has, vs r13.val] kj Z Z sz102 Z Z fun aks pl aeb => ?_;have aec := tz.wr 0 Z pl;have t2 := Gm.tq t1 pl (hv_new fm (Xg h5));refine Xb ⟨t2, ?_⟩;refine Yg RK ?_;have ky := (tz.bm pk 1 0 Z Z Z pl);exact ⟨r12, r13, cs, h4, (Xt Z), (Gr.t0 aw t2.g0), aec, (jg_cons aw.size (hv_new fm (Xg h5)) (jg_cons aw.size (hv_new b0 (Xg b1)) jg_nil)), kz, ky, ph, aeb, H⟩
     refine Ya [vb false, vs []] ze102 fun pm h8 fn hu952 cb pn => ?_;have fg := fl.own cb (some h8) (X9 fn hu952);have cr := Gm.tm d4 cb;refine Xb ⟨cr, ?_⟩;refine Xq 5 RK Z ?_;have k4 := db.stn dd;have d5 := fl.stown _ cb (Xg fn);have h9 := ((((cw.st a3).st dc).st k4).st d5);have ia := ((((cx.st a3).st dc).st k4).st d5);refine Xs go74 (F77.calls H fg.ok dg h9 ia bz) Z ?_;rintro _ po ⟨r13, rfl, H, b2, ib⟩;have d6 := fg.k0 b2;have d7 := Gm.tm cr b2;refine Xb ⟨d7, ?_⟩;refine Xq 8 RK Z ?_;have ic := (((h1.k0 dd).k0 cb).k0 b2);refine Xw [vb r12.has, vs r12.val] ic Z Z sz102 Z Z fun pp ct id => ?_;have d8 := d6.wr 1 Z ct;have d9 := Gm.tq d7 ct (hv_new b0 (Xg b1));refine Xb ⟨d9, ?_⟩;refine Xq 9 RK Z ?_;have da := (d6.bm (pn.k0 b2) 0 1 Z Z Z ct);refine Xw [vb r13.has, vs r13.val] da Z Z sz102 Z Z fun pq cu ie => ?_;have d2 := d8.wr 0 Z cu;have ea := Gm.tq d9 cu (hv_new d4 (Xg fn));refine Xb ⟨ea, ?_⟩;refine Yg RK ?_;have h0 := (d8.bm id 1 0 Z Z Z cu);exact ⟨r12, r13, cs, h8, (Xt Z), (Gr.t0 aw ea.g0), d2, (jg_cons aw.size (hv_new d4 (Xg fn)) (jg_cons aw.size (hv_new b0 (Xg b1)) jg_nil)), kz, h0, ib, ie, H⟩
    refine Ya [vb false, vs []] ze102 fun pr ig fo hu941 fp ps => ?_;have ih := db.own fp (some ig) (X9 fo hu941);have k5 := Gm.tm d3 fp;refine Xb ⟨k5, ?_⟩;refine Xq 2 RK Z ?_;have cq := c8.stown _ fk (Xg b1);have fq := db.stown _ fp (Xg fo);have hs := (((fa.st a3).st cq).st fq);have h2 := (((fb.st a3).st cq).st fq);refine Xs go74 (F77.calls H ih.ok em hs h2 bz) Z ?_;rintro _ pt ⟨r12, rfl, H, eb, pu⟩;have k6 := ih.k0 eb;have k7 := Gm.tm k5 eb;refine Xb ⟨k7, ?_⟩;refine Xq 5 RK Z ?_;have d5 := ih.stn eb;have h9 := ((((cw.st a3).st cq).st fq).st d5);have ia := ((((cx.st a3).st cq).st fq).st d5);refine Xs go74 (F77.calls H k6.ok dg h9 ia bz) Z ?_;rintro _ po ⟨r13, rfl, H, b2, ib⟩;have d6 := k6.k0 b2;have d7 := Gm.tm k7 b2;refine Xb ⟨d7, ?_⟩;refine Xq 8 RK Z ?_;have ic := (((h1.k0 fp).k0 eb).k0 b2);refine Xw [vb r12.has, vs r12.val] ic Z Z sz102 Z Z fun pp ct id => ?_;have d8 := d6.wr 1 Z ct;have d9 := Gm.tq d7 ct (hv_new b0 (Xg b1));refine Xb ⟨d9, ?_⟩;refine Xq 9 RK Z ?_;have da := (d6.bm ((ps.k0 eb).k0 b2) 0 1 Z Z Z ct);refine Xw [vb r13.has, vs r13.val] da Z Z sz102 Z Z fun pq cu ie => ?_;have d2 := d8.wr 0 Z cu;have ea := Gm.tq d9 cu (hv_new d3 (Xg fo));refine Xb ⟨ea, ?_⟩;refine Yg RK ?_;have h0 := (d8.bm id 1 0 Z Z Z cu);exact ⟨r12, r13, cs, ig, (Xt Z), (Gr.t0 aw ea.g0), d2, (jg_cons aw.size (hv_new d3 (Xg fo)) (jg_cons aw.size (hv_new b0 (Xg b1)) jg_nil)), pu, h0, ib, ie, H⟩
   refine Ya [vb false, vs []] ze102 fun ka cs b1 hu932 fk h1 => ?_;have db := c8.own fk (some cs) (X9 b1 hu932);have d3 := Gm.tm b0 fk;refine Xb ⟨d3, ?_⟩;refine Yw 2 6 RK Z Z ?_ ?_
   ·have dc := c8.stown _ fk (Xg b1);have kb := ((fa.st a3).st dc);have pe := ((fb.st a3).st dc);refine Xs go74 (F77.calls H db.ok em kb pe bz) Z ?_;rintro _ pf ⟨r12, rfl, H, dd, kz⟩;have fl := db.k0 dd;have d4 := Gm.tm d3 dd;refine Xb ⟨d4, ?_⟩;refine Yw 5 6 RK Z Z ?_ ?_
    ·have k1 := db.stn dd;have h2 := (((cw.st a3).st dc).st k1);have pg := (((cx.st a3).st dc).st k1);refine Xs go74 (F77.calls H fl.ok dg h2 pg bz) Z ?_;rintro _ ad8 ⟨r13, rfl, H, h3, ph⟩;have pi := fl.k0 h3;have fm := Gm.tm d4 h3;refine Xb ⟨fm, ?_⟩;refine Xq 6 RK Z ?_;refine Ya [vb false, vs []] ze102 fun o8 h4 h5 hu963 h6 pj => ?_;have k2 := pi.own h6 (some h4) (X9 h5 hu963);have k3 := Gm.tm fm h6;refine Xb ⟨k3, ?_⟩;refine Xq 8 RK Z ?_;refine Xw [vb r12.has, vs r12.val] pj Z Z sz102 Z Z fun aea h7 pk => ?_;have gk := k2.wr 0 Z h7;have gl := Gm.tq k3 h7 (hv_new fm (Xg h5));refine Xb ⟨gl, ?_⟩;refine Xq 9 RK Z ?_;have kv := (k2.bm (((h1.k0 dd).k0 h3).k0 h6) 1 0 Z Z Z h7);refine Xw [vb r13.has, vs r13.val] kv Z Z sz102 Z Z fun ty d1 kx => ?_;have hz := gk.wr 1 Z d1;have gm := Gm.tq gl d1 (hv_new b0 (Xg b1));refine Xb ⟨gm, ?_⟩;refine Yg RK ?_;have d2 := hz.perm (.swap _ _ _);have ky := (gk.bm pk 0 1 Z Z Z d1);have h0 := kx;exact ⟨r12, r13, h4, cs, (Xt Z), (Gr.t0 aw gm.g0), d2, (jg_cons aw.size (hv_new b0 (Xg b1)) (jg_cons aw.size (hv_new fm (Xg h5)) jg_nil)), kz, ky, ph, h0, H⟩
    refine Ya [vb false, vs []] ze102 fun pm h8 fn hu952 cb pn => ?_;have fg := fl.own cb (some h8) (X9 fn hu952);have cr := Gm.tm d4 cb;refine Xb ⟨cr, ?_⟩;refine Xq 5 RK Z ?_;have k4 := db.stn dd;have d5 := fl.stown _ cb (Xg fn);have h9 := ((((cw.st a3).st dc).st k4).st d5);have ia := ((((cx.st a3).st dc).st k4).st d5);refine Xs go74 (F77.calls H fg.ok dg h9 ia bz) Z ?_;rintro _ po ⟨r13, rfl, H, b2, ib⟩;have d6 := fg.k0 b2;have d7 := Gm.tm cr b2;refine Xb ⟨d7, ?_⟩;refine Xq 8 RK Z ?_;have ic := (pn.k0 b2);refine Xw [vb r12.has, vs r12.val] ic Z Z sz102 Z Z fun pp ct id => ?_;have d8 := d6.wr 0 Z ct;have d9 := Gm.tq d7 ct (hv_new d4 (Xg fn));refine Xb ⟨d9, ?_⟩;refine Xq 9 RK Z ?_;have da := (d6.bm (((h1.k0 dd).k0 cb).k0 b2) 1 0 Z Z Z ct);refine Xw [vb r13.has, vs r13.val] da Z Z sz102 Z Z fun pq cu ie => ?_;have d2 := d8.wr 1 Z cu;have ea := Gm.tq d9 cu (hv_new b0 (Xg b1));refine Xb ⟨ea, ?_⟩;refine Yg RK ?_;have pv := d2.perm (.swap _ _ _);have pw := (d8.bm id 0 1 Z Z Z cu);have px := ie;exact ⟨r12, r13, h8, cs, (Xt Z), (Gr.t0 aw ea.g0), pv, (jg_cons aw.size (hv_new b0 (Xg b1)) (jg_cons aw.size (hv_new d4 (Xg fn)) jg_nil)), kz, pw, ib, px, H⟩
   refine Ya [vb false, vs []] ze102 fun pr ig fo hu941 fp ps => ?_;have ih := db.own fp (some ig) (X9 fo hu941);have k5 := Gm.tm d3 fp;refine Xb ⟨k5, ?_⟩;refine Xq 2 RK Z ?_;have cq := c8.stown _ fk (Xg b1);have fq := db.stown _ fp (Xg fo);have hs := (((fa.st a3).st cq).st fq);have h2 := (((fb.st a3).st cq).st fq);refine Xs go74 (F77.calls H ih.ok em hs h2 bz) Z ?_;rintro _ pt ⟨r12, rfl, H, eb, pu⟩;have k6 := ih.k0 eb;have k7 := Gm.tm k5 eb;refine Xb ⟨k7, ?_⟩;refine Xq 5 RK Z ?_;have d5 := ih.stn eb;have h9 := ((((cw.st a3).st cq).st fq).st d5);have ia := ((((cx.st a3).st cq).st fq).st d5);refine Xs go74 (F77.calls H k6.ok dg h9 ia bz) Z ?_;rintro _ po ⟨r13, rfl, H, b2, ib⟩;have d6 := k6.k0 b2;have d7 := Gm.tm k7 b2;refine Xb ⟨d7, ?_⟩;refine Xq 8 RK Z ?_;have ic := ((ps.k0 eb).k0 b2);refine Xw [vb r12.has, vs r12.val] ic Z Z sz102 Z Z fun pp ct id => ?_;have d8 := d6.wr 0 Z ct;have d9 := Gm.tq d7 ct (hv_new d3 (Xg fo));refine Xb ⟨d9, ?_⟩;refine Xq 9 RK Z ?_;have da := (d6.bm (((h1.k0 fp).k0 eb).k0 b2) 1 0 Z Z Z ct);refine Xw [vb r13.has, vs r13.val] da Z Z sz102 Z Z fun pq cu ie => ?_;have d2 := d8.wr 1 Z cu;have ea := Gm.tq d9 cu (hv_new b0 (Xg b1));refine Xb ⟨ea, ?_⟩;refine Yg RK ?_;have pv := d2.perm (.swap _ _ _);have pw := (d8.bm id 0 1 Z Z Z cu);have px := ie;exact ⟨r12, r13, ig, cs, (Xt Z), (Gr.t0 aw ea.g0), pv, (jg_cons aw.size (hv_new b0 (Xg b1)) (jg_cons aw.size (hv_new d3 (Xg fo)) jg_nil)), pu, pw, ib, px, H⟩
  rintro akt hi ⟨r12, r13, bv, cj, aed, bq, k8, cv, mq, t3, mr, t4, H⟩;obtain ⟨aku, rfl⟩ := Has.ins aed;refine Xc ?_;refine Y1 (J := (fun t k9 => ∃ (r15 : value) (r16 : Bool) (a4 : Nat), Has t [(3, Pz ao), (4, Pz an), (5, Pz a0), (6, Pz aa), (8, G a1 dn dp), (9, Pz ab), (20, vs (nth r11 v4)), (21, Pz bv), (22, Pz cj), (23, Pz a4), (24, vb r16), (142, G ad ej bp), (143, vi (r11.length : Int)), (144, vi v4)] ∧ Gr hi k9 none ∧ Ct [] w0 k9 [some a4, some cj, some bv, bk ad, bk ac, some ab, bk af, bk a1, some aa] O ∧ (∀ b, some b ∈ ([some a4] : Ob) → hi.heap.size ≤ b) ∧ Lim r15.val ∧ Bx k9 a4 [vb r15.has, vs r15.val] ∧ (∃ (dy : (List Str) → Bool → Str → Prop), ((if !r16 then (([116, 97, 103, 32] : Str).length + (nth r11 v4).length ≤ 9223372036854775807) ∧ (xs6.length + ([(([116, 97, 103, 32] : Str) ++ (nth r11 v4))] : List Str).length ≤ 268435456) ∧ (if !r12.has then dy (xs6 ++ ([(([116, 97, 103, 32] : Str) ++ (nth r11 v4))] : List Str)) r13.has r13.val else dy (xs6 ++ ([(([116, 97, 103, 32] : Str) ++ (nth r11 v4))] : List Str)) r12.has r12.val) else dy xs6 r15.has r15.val)) ∧ ∀ (xs8 : List Str) (z5 : Bool) (z6 : Str), dy xs8 z5 z6 → (∃ (fc : (List Tag) → Prop), ((if z5 then (xs7.length + ([(⟨(nth r11 v4), z6⟩ : Tag)] : List Tag).length ≤ 268435456) ∧ fc (xs7 ++ ([(⟨(nth r11 v4), z6⟩ : Tag)] : List Tag)) else fc xs7)) ∧ ∀ (xs9 : List Tag), fc xs9 → (I64 (v4 + 1)) ∧ oi xs8 (v4 + 1) xs9 ∧ j1 xs8 (v4 + 1) xs9 < j1 xs6 v4 xs7)))) ?_ ?_
  ·refine Yy 12 [] RK Z fun aee ek gn => ?_;have ms := k8.k0 ek;have la := dx.stos bq cv;have lb := k8.stn ek;have aef := ((mo.st la).st lb);refine Xo 0 Z RK gn (Y2 ag44 sz44 cR (Ad ao 0) [vs base_.Id, vi base_.Shape.Kind, G A2 n3 c4, G A7 n8 c9] Z Z (aef.cells (off := 0) Z) nm_nil) ?_;refine Xo 1 Z RK gn (Yc (vs (nth r11 v4)) Z) ?_;have aeg := (t3.k0 ek);refine Xo 3 Z RK gn (Y2 ag102 sz102 cR (Ad bv 0) [vb r12.has, vs r12.val] Z Z (aeg.cells (off := 0) Z) nm_nil) ?_;have aeh := (t4.k0 ek);refine Xo 4 Z RK gn (Y2 ag102 sz102 cR (Ad cj 0) [vb r13.has, vs r13.val] Z Z (aeh.cells (off := 0) Z) nm_nil) ?_;refine Yw 2 9 RK Z Z ?_ ?_
   ·have aei := ((j2.st la).st lb);have aej := ((j3.st la).st lb);refine Xs go74 (F77.calls H ms.ok hs1 aei aej bz) Z ?_;rintro _ t5 ⟨r14, rfl, H, t6, t7⟩;have py := ms.k0 t6;have lc := Gm.tm gn t6;refine Xb ⟨lc, ?_⟩;refine Yw 5 9 RK Z Z ?_ ?_
    ·obtain ⟨f2, f2_ok, aek, H⟩ := H;have ael : ∀ (w : World) (L : Ob), Ct [] t5 w L ([some cj, some bv, bk ad, bk ac, some ab, bk af, bk a1, some aa] ++ O) → ∀ (x0_ : value) (t8 : Lim x0_.val) (x1_ : value) (t9 : Lim x1_.val), f2_ok x0_ x1_ → Ret Tryz.prog 76 ([.agg #[vb x0_.has, vs x0_.val], .agg #[vb x1_.has, vs x1_.val]] ++ []) w (fun v w' => v = vb (f2 x0_ x1_) ∧ Gr w w' none) := by
      intro w L c x0_ t8 x1_ t9 hok;refine (F31.calls (aek x0_ x1_ hok) c.ok t8 t9).mono ?_;rintro _ w2 ⟨r, rfl, rfl, g2⟩;exact ⟨Z, g2⟩
     refine Xs go75 (F10.calls H py.ok t7 mq mr go76 ael) Z ?_;rintro _ pz ⟨r15, r16, rfl, H, i7, p0⟩;have mt := py.k0 i7;have el := Gm.tm lc i7;refine Xb ⟨el, ?_⟩;refine Xo 6 Z RK el (Yc (.tuple #[.agg #[vb r15.has, vs r15.val], vb r16]) Z) ?_;refine Xo 7 Z RK el (Yo [.agg #[vb r15.has, vs r15.val], vb r16] 0 (.agg #[vb r15.has, vs r15.val]) Z Z) ?_;refine Xo 8 Z RK el (Yo [.agg #[vb r15.has, vs r15.val], vb r16] 1 (vb r16) Z Z) ?_;refine Xq 9 RK Z ?_;refine Ya [vb false, vs []] ze102 fun akv p1 p2 hu2969 i8 aem => ?_;have p3 := mt.own i8 (some p1) (X9 p2 hu2969);have gp := Gm.tm el i8;refine Xb ⟨gp, ?_⟩;refine Xq 10 RK Z ?_;refine Xw [vb r15.has, vs r15.val] aem Z Z sz102 Z Z fun aen ld p4 => ?_;have aeo := p3.wr 0 Z ld;have p5 := Gm.tq gp ld (hv_new el (Xg p2));refine Xb ⟨p5, ?_⟩;refine Xo 11 Z RK p5 (Y7 (vb r16) Z) ?_;refine Yg RK ?_;exact ⟨r15, r16, p1, (Xt Z), (Gr.t0 ek p5.g0), aeo, (jg_cons ek.size (hv_new el (Xg p2)) jg_nil), p0, p4, H⟩
    refine Ya [vb false, vs []] ze102 fun ua mu p6 hu2959 ub aep => ?_;have uc := py.own ub (some mu) (X9 p6 hu2959);have ud := Gm.tm lc ub;refine Xb ⟨ud, ?_⟩;refine Xq 5 RK Z ?_;obtain ⟨f2, f2_ok, aeq, H⟩ := H;have aer : ∀ (w : World) (L : Ob), Ct [] ua w L ([some mu, some cj, some bv, bk ad, bk ac, some ab, bk af, bk a1, some aa] ++ O) → ∀ (x0_ : value) (ue : Lim x0_.val) (x1_ : value) (lf : Lim x1_.val), f2_ok x0_ x1_ → Ret Tryz.prog 76 ([.agg #[vb x0_.has, vs x0_.val], .agg #[vb x1_.has, vs x1_.val]] ++ []) w (fun v w' => v = vb (f2 x0_ x1_) ∧ Gr w w' none) := by
     intro w L c x0_ ue x1_ lf hok;refine (F31.calls (aeq x0_ x1_ hok) c.ok ue lf).mono ?_;rintro _ w2 ⟨r, rfl, rfl, g2⟩;exact ⟨Z, g2⟩
    refine Xs go75 (F10.calls H uc.ok t7 mq mr go76 aer) Z ?_;rintro _ akw ⟨r15, r16, rfl, H, i8, aes⟩;have p3 := uc.k0 i8;have gp := Gm.tm ud i8;refine Xb ⟨gp, ?_⟩;refine Xo 6 Z RK gp (Yc (.tuple #[.agg #[vb r15.has, vs r15.val], vb r16]) Z) ?_;refine Xo 7 Z RK gp (Yo [.agg #[vb r15.has, vs r15.val], vb r16] 0 (.agg #[vb r15.has, vs r15.val]) Z Z) ?_;refine Xo 8 Z RK gp (Yo [.agg #[vb r15.has, vs r15.val], vb r16] 1 (vb r16) Z Z) ?_;refine Xq 10 RK Z ?_;have aet := (aep.k0 i8);refine Xw [vb r15.has, vs r15.val] aet Z Z sz102 Z Z fun aen ld p4 => ?_;have aeu := p3.wr 0 Z ld;have p7 := Gm.tq gp ld (hv_new lc (Xg p6));refine Xb ⟨p7, ?_⟩;refine Xo 11 Z RK p7 (Y7 (vb r16) Z) ?_;refine Yg RK ?_;exact ⟨r15, r16, mu, (Xt Z), (Gr.t0 ek p7.g0), aeu, (jg_cons ek.size (hv_new lc (Xg p6)) jg_nil), aes, p4, H⟩
   refine Ya [vb false, vs []] ze102 fun aev mv mw hu2949 p8 aew => ?_;have uf := ms.own p8 (some mv) (X9 mw hu2949);have ug := Gm.tm gn p8;refine Xb ⟨ug, ?_⟩;refine Xq 2 RK Z ?_;have uh := ms.stown _ p8 (Xg mw);have aex := (((j2.st la).st lb).st uh);have aey := (((j3.st la).st lb).st uh);refine Xs go74 (F77.calls H uf.ok hs1 aex aey bz) Z ?_;rintro _ pz ⟨r14, rfl, H, i7, p0⟩;have mt := uf.k0 i7;have el := Gm.tm ug i7;refine Xb ⟨el, ?_⟩;refine Xq 5 RK Z ?_;obtain ⟨f2, f2_ok, aez, H⟩ := H;have ae0 : ∀ (w : World) (L : Ob), Ct [] pz w L ([some mv, some cj, some bv, bk ad, bk ac, some ab, bk af, bk a1, some aa] ++ O) → ∀ (x0_ : value) (lf : Lim x0_.val) (x1_ : value) (ui : Lim x1_.val), f2_ok x0_ x1_ → Ret Tryz.prog 76 ([.agg #[vb x0_.has, vs x0_.val], .agg #[vb x1_.has, vs x1_.val]] ++ []) w (fun v w' => v = vb (f2 x0_ x1_) ∧ Gr w w' none) := by
    intro w L c x0_ lf x1_ ui hok;refine (F31.calls (aez x0_ x1_ hok) c.ok lf ui).mono ?_;rintro _ w2 ⟨r, rfl, rfl, g2⟩;exact ⟨Z, g2⟩
   refine Xs go75 (F10.calls H mt.ok p0 mq mr go76 ae0) Z ?_;rintro _ akx ⟨r15, r16, rfl, H, p9, ae1⟩;have ae2 := mt.k0 p9;have lg := Gm.tm el p9;refine Xb ⟨lg, ?_⟩;refine Xo 6 Z RK lg (Yc (.tuple #[.agg #[vb r15.has, vs r15.val], vb r16]) Z) ?_;refine Xo 7 Z RK lg (Yo [.agg #[vb r15.has, vs r15.val], vb r16] 0 (.agg #[vb r15.has, vs r15.val]) Z Z) ?_;refine Xo 8 Z RK lg (Yo [.agg #[vb r15.has, vs r15.val], vb r16] 1 (vb r16) Z Z) ?_;refine Xq 10 RK Z ?_;have ae3 := ((aew.k0 i7).k0 p9);refine Xw [vb r15.has, vs r15.val] ae3 Z Z sz102 Z Z fun aky uj ae4 => ?_;have ae5 := ae2.wr 0 Z uj;have qa := Gm.tq lg uj (hv_new gn (Xg mw));refine Xb ⟨qa, ?_⟩;refine Xo 11 Z RK qa (Y7 (vb r16) Z) ?_;refine Yg RK ?_;exact ⟨r15, r16, mv, (Xt Z), (Gr.t0 ek qa.g0), ae5, (jg_cons ek.size (hv_new gn (Xg mw)) jg_nil), ae1, ae4, H⟩
  rintro akz k9 ⟨r15, r16, a4, ae6, bj, fr, cy, ae7, uk, H⟩;obtain ⟨ak0, rfl⟩ := Has.ins ae6;refine Xc (Xc (Xd (Xe (vb r16) Z (Xa (Yr r16 Z) (Xb ?_)))));obtain ⟨dy, H, ae8⟩ := H;refine Y1 (J := (fun t b4 => ∃ (xs8 : List Str) (a2 : Option Addr) (i9 ja : Nat) (z5 : Bool) (z6 : Str), dy xs8 z5 z6 ∧ Has t [(3, Pz ao), (4, Pz an), (5, Pz a0), (6, Pz aa), (8, G a2 i9 ja), (9, Pz ab), (20, vs (nth r11 v4)), (23, Pz a4), (142, G ad ej bp), (143, vi (r11.length : Int)), (144, vi v4)] ∧ Cw [] w0 b4 [some a4, bk ad, bk ac, some ab, bk af, bk a2, some aa] O fun M => Lim z6 ∧ Sl kPt b4 (Fr M) (G aq ar au) a.Shape.Pts ∧ Sl kTag b4 (Fr M) (G ax ay az) a.Tags ∧ Sl kPt b4 (Fr M) (G ah ai aj) b.Shape.Pts ∧ Sl kTag b4 (Fr M) (G ak al am) b.Tags ∧ Sl kPt b4 (Fr M) (G A2 n3 c4) base_.Shape.Pts ∧ Sl kTag b4 (Fr M) (G A7 n8 c9) base_.Tags ∧ Ow Kd.str 9 b4 M (G a2 i9 ja) xs8 ∧ Ow Kd.str 9 b4 M (G ad ej bp) r11 ∧ Ow kPt 49 b4 M (G ac br bs) r9.Pts ∧ Ow kTag 93 b4 M (G af b9 ca) xs7 ∧ Fb b4 M ao [vs base_.Id, vi base_.Shape.Kind, G A2 n3 c4, G A7 n8 c9] ∧ Fb b4 M an [vs a.Id, vi a.Shape.Kind, G aq ar au, G ax ay az] ∧ Fb b4 M a0 [vs b.Id, vi b.Shape.Kind, G ah ai aj, G ak al am] ∧ Bx b4 aa [vs [], vi 0, G none 0 0, G none 0 0] ∧ Bx b4 ab [vs a.Id, vi r9.Kind, G ac br bs, G af b9 ca] ∧ Bx b4 a4 [vb z5, vs z6])) ?_ ?_
  ·refine Xu (!r16) Z (fun qb => ?_) (fun qb => ?_)
   ·have H := Xi H qb;refine Xc (Xd (Xe (G a1 dn dp) Z (Xe (vs (nth r11 v4)) Z ?_)));obtain ⟨ul, H⟩ := H;refine Xa (Zm ([116, 97, 103, 32] : Str) (nth r11 v4) Z Z ul) (X7 (kd := Kd.str) Yu fr ([(([116, 97, 103, 32] : Str) ++ (nth r11 v4))] : List Str) (cells := [vs (([116, 97, 103, 32] : Str) ++ (nth r11 v4))]) ⟨[vs (([116, 97, 103, 32] : Str) ++ (nth r11 v4))], _, Z, ⟨Z, (lim_cat ul)⟩, Z⟩ RF fun ak1 lh ae9 afa ck hr4988 cz afb => ?_);obtain ⟨afc, H⟩ := H;have afd := (((ol.sos bq cv).sos bj cy).so _ ck hr4988);refine Yf Yu cz (G a1 dn dp) xs6 ([(([116, 97, 103, 32] : Str) ++ (nth r11 v4))] : List Str) Z afd (G lh ae9 afa) Z afb.sx 8 Z afc fun ak2 ii qc qd de be cc um => ?_;refine Xf (G ii qc qd) Z (Xb (Xc (Xd ?_)));have un := (cz.bm ((t3.k0 bj).k0 ck) 3 8 Z Z Z de);refine Xa (Xr ag102 sz102 cL (Ad bv 0) [vb r12.has, vs r12.val] Z Z (un.cells (off := 00) Z)) ?_;have afe := (cz.bm (uk.k0 ck) 1 8 Z Z Z de);refine Xw [vb r12.has, vs r12.val] afe Z Z sz102 Z Z fun ak3 cd uo => ?_;have df := cc.wr 1 Z cd;refine Xb (Xc (Xd (Xa (Xm fa102_0 (Ad bv 0) (Ad bv 0) Z Z) ?_)));have aff := (cc.bm un 3 1 Z Z Z cd);refine Xa (Xp ag4 cL (Ad bv 0) (vb r12.has) Z (aff.cell Z)) (Xa (Yr r12.has Z) (Xb ?_));refine Xu (!r12.has) Z (fun qe => ?_) (fun qe => ?_)
    ·have H := Xi H qe;refine Xd ?_;have afg := (cc.bm (cz.bm ((t4.k0 bj).k0 ck) 2 8 Z Z Z de) 2 1 Z Z Z cd);refine Xa (Xr ag102 sz102 cL (Ad cj 0) [vb r13.has, vs r13.val] Z Z (afg.cells (off := 00) Z)) (Xw [vb r13.has, vs r13.val] uo Z Z sz102 Z Z fun ak4 gq afh => ?_);have li := df.wr 1 Z gq;refine Xb ?_;have c0 : ([bk lh, some a4, some cj, some bv, bk ad, bk ac, some ab, bk af, bk ii, some aa] : Ob).Perm ((bk lh :: some cj :: some bv :: []) ++ [some a4, bk ad, bk ac, some ab, bk af, bk ii, some aa]) := RP;have afi := li.drops c0;have fs := dx.stos bq cv;have ft := k8.stos bj cy;have fu := fr.stown _ ck hr4988;have fv := cc.stw 1 Z cd;have fw := df.stw 1 Z gq;have afj := (((((((fa.st fs).st ft).st fu).st be).st fv).st fw).st (St.drops _ O c0));have afk := (((((((fb.st fs).st ft).st fu).st be).st fv).st fw).st (St.drops _ O c0));have afl := (((((((cw.st fs).st ft).st fu).st be).st fv).st fw).st (St.drops _ O c0));have afm := (((((((cx.st fs).st ft).st fu).st be).st fv).st fw).st (St.drops _ O c0));have afn := (((((((j2.st fs).st ft).st fu).st be).st fv).st fw).st (St.drops _ O c0));have afo := (((((((j3.st fs).st ft).st fu).st be).st fv).st fw).st (St.drops _ O c0));have afp := (li.odr (df.sw (cc.sw um 8 1 Z Z Z cd) 8 1 Z Z Z gq) c0 5 Z);have afq := (li.odr (df.sw (cc.sw (cz.sm (((j4.sos bq cv).sos bj cy).so _ ck hr4988) 4 8 Z Z Z de be) 4 1 Z Z Z cd) 4 1 Z Z Z gq) c0 1 Z);have afr := (li.odr (df.sw (cc.sw (cz.sm (((j5.sos bq cv).sos bj cy).so _ ck hr4988) 5 8 Z Z Z de be) 5 1 Z Z Z cd) 5 1 Z Z Z gq) c0 2 Z);have afs := (li.odr (df.sw (cc.sw (cz.sm (((j6.sos bq cv).sos bj cy).so _ ck hr4988) 7 8 Z Z Z de be) 7 1 Z Z Z cd) 7 1 Z Z Z gq) c0 4 Z);have aft := (((((((mo.st fs).st ft).st fu).st be).st fv).st fw).st (St.drops _ O c0));have afu := (((((((j7.st fs).st ft).st fu).st be).st fv).st fw).st (St.drops _ O c0));have afv := (((((((mp.st fs).st ft).st fu).st be).st fv).st fw).st (St.drops _ O c0));have afw := (df.bm (cc.bm (cz.bm (((j8.k0 bq).k0 bj).k0 ck) 9 8 Z Z Z de) 9 1 Z Z Z cd) 9 1 Z Z Z gq);have afx := (df.bm (cc.bm (cz.bm (((j9.k0 bq).k0 bj).k0 ck) 6 8 Z Z Z de) 6 1 Z Z Z cd) 6 1 Z Z Z gq);have afy := afh;exact ⟨(xs6 ++ ([(([116, 97, 103, 32] : Str) ++ (nth r11 v4))] : List Str)), ii, qc, qd, r13.has, r13.val, H, (Xt Z), afi, mr, afj, afk, afl, afm, afn, afo, afp, afq, afr, afs, aft, afu, afv, afw, afx, afy⟩
    have H := Xj H qe;refine Xz ?_;have c1 : ([bk lh, some a4, some cj, some bv, bk ad, bk ac, some ab, bk af, bk ii, some aa] : Ob).Perm ((bk lh :: some cj :: some bv :: []) ++ [some a4, bk ad, bk ac, some ab, bk af, bk ii, some aa]) := RP;have afz := df.drops c1;have fx := dx.stos bq cv;have fy := k8.stos bj cy;have fz := fr.stown _ ck hr4988;have f0 := cc.stw 1 Z cd;have af0 := ((((((fa.st fx).st fy).st fz).st be).st f0).st (St.drops _ O c1));have af1 := ((((((fb.st fx).st fy).st fz).st be).st f0).st (St.drops _ O c1));have af2 := ((((((cw.st fx).st fy).st fz).st be).st f0).st (St.drops _ O c1));have af3 := ((((((cx.st fx).st fy).st fz).st be).st f0).st (St.drops _ O c1));have af4 := ((((((j2.st fx).st fy).st fz).st be).st f0).st (St.drops _ O c1));have af5 := ((((((j3.st fx).st fy).st fz).st be).st f0).st (St.drops _ O c1));have af6 := (df.odr (cc.sw um 8 1 Z Z Z cd) c1 5 Z);have af7 := (df.odr (cc.sw (cz.sm (((j4.sos bq cv).sos bj cy).so _ ck hr4988) 4 8 Z Z Z de be) 4 1 Z Z Z cd) c1 1 Z);have af8 := (df.odr (cc.sw (cz.sm (((j5.sos bq cv).sos bj cy).so _ ck hr4988) 5 8 Z Z Z de be) 5 1 Z Z Z cd) c1 2 Z);have af9 := (df.odr (cc.sw (cz.sm (((j6.sos bq cv).sos bj cy).so _ ck hr4988) 7 8 Z Z Z de be) 7 1 Z Z Z cd) c1 4 Z);have aga := ((((((mo.st fx).st fy).st fz).st be).st f0).st (St.drops _ O c1));have agb := ((((((j7.st fx).st fy).st fz).st be).st f0).st (St.drops _ O c1));have agc := ((((((mp.st fx).st fy).st fz).st be).st f0).st (St.drops _ O c1));have agd := (cc.bm (cz.bm (((j8.k0 bq).k0 bj).k0 ck) 9 8 Z Z Z de) 9 1 Z Z Z cd);have age := (cc.bm (cz.bm (((j9.k0 bq).k0 bj).k0 ck) 6 8 Z Z Z de) 6 1 Z Z Z cd);have agf := uo;exact ⟨(xs6 ++ ([(([116, 97, 103, 32] : Str) ++ (nth r11 v4))] : List Str)), ii, qc, qd, r12.has, r12.val, H, (Xt Z), afz, mq, af0, af1, af2, af3, af4, af5, af6, af7, af8, af9, aga, agb, agc, agd, age, agf⟩
   have H := Xj H qb;refine Xz ?_;have jb : Ct [] w0 k9 [some a4, some bv, bk ad, bk ac, some ab, bk af, bk a1, some aa] O := fr.drop 1 Z;have agh := jb.drop 1 Z;have f1 := dx.stos bq cv;have f3 := k8.stos bj cy;have f4 := fr.std 1 Z;have f5 := jb.std 1 Z;have agi := ((((fa.st f1).st f3).st f4).st f5);have agj := ((((fb.st f1).st f3).st f4).st f5);have agk := ((((cw.st f1).st f3).st f4).st f5);have agl := ((((cx.st f1).st f3).st f4).st f5);have agm := ((((j2.st f1).st f3).st f4).st f5);have agn := ((((j3.st f1).st f3).st f4).st f5);have ago := (jb.sd (fr.sd ((ol.sos bq cv).sos bj cy) 7 1 Z Z Z) 6 1 Z Z Z);have agp := (jb.sd (fr.sd ((j4.sos bq cv).sos bj cy) 3 1 Z Z Z) 2 1 Z Z Z);have agq := (jb.sd (fr.sd ((j5.sos bq cv).sos bj cy) 4 1 Z Z Z) 3 1 Z Z Z);have agr := (jb.sd (fr.sd ((j6.sos bq cv).sos bj cy) 6 1 Z Z Z) 5 1 Z Z Z);have ags := ((((mo.st f1).st f3).st f4).st f5);have agt := ((((j7.st f1).st f3).st f4).st f5);have agu := ((((mp.st f1).st f3).st f4).st f5);have agv := ((j8.k0 bq).k0 bj);have agw := ((j9.k0 bq).k0 bj);have agx := uk;exact ⟨xs6, a1, dn, dp, r15.has, r15.val, H, (Xt Z), agh, ae7, agi, agj, agk, agl, agm, agn, ago, agp, agq, agr, ags, agt, agu, agv, agw, agx⟩
  rintro ak5 b4 ⟨xs8, a2, i9, ja, z5, z6, agy, agz, gs, ag0, up, uq, ur, us, ut, uu, uv, uw, ux, uy, uz, u0, u1, u2, qf, u3⟩;obtain ⟨ak6, rfl⟩ := Has.ins agz;have H := ae8 xs8 z5 z6 agy;refine Xc (Xd (Xa (Xm fa102_0 (Ad a4 0) (Ad a4 0) Z Z) (Xa (Xp ag4 cL (Ad a4 0) (vb z5) Z (u3.cell Z)) (Xb ?_))));obtain ⟨fc, H, ag1⟩ := H;refine Y1 (J := (fun t ce => ∃ (xs9 : List Tag) (b5 : Option Addr) (mx my : Nat), fc xs9 ∧ Has t [(3, Pz ao), (4, Pz an), (5, Pz a0), (6, Pz aa), (8, G a2 i9 ja), (9, Pz ab), (142, G ad ej bp), (143, vi (r11.length : Int)), (144, vi v4)] ∧ Cw [] w0 ce [bk ad, bk ac, some ab, bk b5, bk a2, some aa] O fun M => Sl kPt ce (Fr M) (G aq ar au) a.Shape.Pts ∧ Sl kTag ce (Fr M) (G ax ay az) a.Tags ∧ Sl kPt ce (Fr M) (G ah ai aj) b.Shape.Pts ∧ Sl kTag ce (Fr M) (G ak al am) b.Tags ∧ Sl kPt ce (Fr M) (G A2 n3 c4) base_.Shape.Pts ∧ Sl kTag ce (Fr M) (G A7 n8 c9) base_.Tags ∧ Ow Kd.str 9 ce M (G a2 i9 ja) xs8 ∧ Ow Kd.str 9 ce M (G ad ej bp) r11 ∧ Ow kPt 49 ce M (G ac br bs) r9.Pts ∧ Ow kTag 93 ce M (G b5 mx my) xs9 ∧ Fb ce M ao [vs base_.Id, vi base_.Shape.Kind, G A2 n3 c4, G A7 n8 c9] ∧ Fb ce M an [vs a.Id, vi a.Shape.Kind, G aq ar au, G ax ay az] ∧ Fb ce M a0 [vs b.Id, vi b.Shape.Kind, G ah ai aj, G ak al am] ∧ Bx ce aa [vs [], vi 0, G none 0 0, G none 0 0] ∧ Bx ce ab [vs a.Id, vi r9.Kind, G ac br bs, G b5 mx my])) ?_ ?_
  ·refine Xu z5 Z (fun qg => ?_) (fun qg => ?_)
   ·have H := Xi H qg;refine Xd (Xa (Xm fa44_2 (Ad ab 0) (Ad ab 3) Z Z) (Xa (Xp ag42 cL (Ad ab 3) (G af b9 ca) Z (qf.cell Z)) (Xe (vs (nth r11 v4)) Z (Xa (Xm fa102_1 (Ad a4 0) (Ad a4 1) Z Z) (Xa (Xp ag9 cL (Ad a4 1) (vs z6) Z (u3.cell Z)) (Xa (Yi (.agg #[vs (nth r11 v4), vs z6]) RF) (X7 (kd := kTag) Yl gs ([(⟨(nth r11 v4), z6⟩ : Tag)] : List Tag) (cells := [vs (nth r11 v4), vs z6]) ⟨[vs (nth r11 v4), vs z6], _, Z, (kTag.mk _ _ (⟨(nth r11 v4), z6⟩ : Tag) bz ag0), Z⟩ RF fun ak7 ag2 ag5 ag6 ij hr5123 jc ag7 => ?_)))))));obtain ⟨ag8, H⟩ := H;have aha := (uy.so _ ij hr5123);refine Yf Yl jc (G af b9 ca) xs7 ([(⟨(nth r11 v4), z6⟩ : Tag)] : List Tag) Z aha (G ag2 ag5 ag6) Z ag7.sx 5 Z ag8 fun ak8 mz qh qi lj dr ik ahb => ?_;refine Xa (Xm fa44_2 (Ad ab 0) (Ad ab 3) Z Z) ?_;have ahc := (jc.bm (qf.k0 ij) 4 5 Z Z Z lj);refine Yq 3 [G mz qh qi] [vs a.Id, vi r9.Kind, G ac br bs, G mz qh qi] ahc Z Z sz42 Z Z Z fun ahd il ahe => ?_;have jd := ik.wr 4 Z il;refine Xb ?_;have je := jd.drop 0 Z;have ahf : Ct [] w0 ahd [bk ad, bk ac, some ab, bk mz, bk a2, some aa] O := je.drop 0 Z;have f6 := gs.stown _ ij hr5123;have f7 := ik.stw 4 Z il;have f8 := jd.std 0 Z;have f9 := je.std 0 Z;have ahg := (((((up.st f6).st dr).st f7).st f8).st f9);have ahh := (((((uq.st f6).st dr).st f7).st f8).st f9);have ahi := (((((ur.st f6).st dr).st f7).st f8).st f9);have ahj := (((((us.st f6).st dr).st f7).st f8).st f9);have ahk := (((((ut.st f6).st dr).st f7).st f8).st f9);have ahl := (((((uu.st f6).st dr).st f7).st f8).st f9);have ahm := (je.sd (jd.sd (ik.sw (jc.sm (uv.so _ ij hr5123) 6 5 Z Z Z lj dr) 6 4 Z Z Z il) 6 0 Z Z Z) 5 0 Z Z Z);have ahn := (je.sd (jd.sd (ik.sw (jc.sm (uw.so _ ij hr5123) 2 5 Z Z Z lj dr) 2 4 Z Z Z il) 2 0 Z Z Z) 1 0 Z Z Z);have aho := (je.sd (jd.sd (ik.sw (jc.sm (ux.so _ ij hr5123) 3 5 Z Z Z lj dr) 3 4 Z Z Z il) 3 0 Z Z Z) 2 0 Z Z Z);have ahp := (je.sd (jd.sd (ik.sw ahb 5 4 Z Z Z il) 5 0 Z Z Z) 4 0 Z Z Z);have ahq := (((((uz.st f6).st dr).st f7).st f8).st f9);have ahr := (((((u0.st f6).st dr).st f7).st f8).st f9);have ahs := (((((u1.st f6).st dr).st f7).st f8).st f9);have aht := (ik.bm (jc.bm (u2.k0 ij) 7 5 Z Z Z lj) 7 4 Z Z Z il);have ahu := ahe;exact ⟨(xs7 ++ ([(⟨(nth r11 v4), z6⟩ : Tag)] : List Tag)), mz, qh, qi, H, (Xt Z), ahf, ahg, ahh, ahi, ahj, ahk, ahl, ahm, ahn, aho, ahp, ahq, ahr, ahs, aht, ahu⟩
   have H := Xj H qg;refine Xz ?_;have ahv := gs.drop 0 Z;have ga := gs.std 0 Z;have ahw := (gs.sd uv 5 0 Z Z Z);have ahx := (gs.sd uw 1 0 Z Z Z);have ahy := (gs.sd ux 2 0 Z Z Z);have ahz := (gs.sd uy 4 0 Z Z Z);have ah0 := (uz.st ga);have ah1 := (u0.st ga);have ah2 := (u1.st ga);have ah3 := u2;have ah4 := qf;exact ⟨xs7, af, b9, ca, H, (Xt Z), ahv, (up.st ga), (uq.st ga), (ur.st ga), (us.st ga), (ut.st ga), (uu.st ga), ahw, ahx, ahy, ahz, ah0, ah1, ah2, ah3, ah4⟩
  rintro ak9 ce ⟨xs9, b5, mx, my, ah5, ah6, ah7, ah8, ah9, aia, aib, aic, aid, aie, aif, aig, aih, aii, aij, aik, ail, aim⟩;obtain ⟨ala, rfl⟩ := Has.ins ah6;have H := ag1 xs9 ah5;refine Xd ?_;obtain ⟨ain, H⟩ := H;refine Xa (X6 v4 1 Z Z ain) (Xe (vi (v4 + 1)) Z (Xb ?_));obtain ⟨aio, aip⟩ := H;exact ⟨(xs8, a2, i9, ja, v4 + 1, xs9, b5, mx, my), aip, aio, (Xt Z), ah7, ah8, ah9, aia, aib, aic, aid, aie, aif, aig, aih, aii, aij, aik, ail, aim⟩
 have H := Xj H om;refine Ym (xin_hit ?_);refine Xc (Xc (Xd (Xa (Xr ag44 sz44 cL (Ad ab 0) [vs a.Id, vi r9.Kind, G ac br bs, G af b9 ca] Z Z (j9.cells (off := 00) Z)) ?_)));have aiq := dx.gv j5 1 Z;have qj := dx.drop 1 Z;have air := (dx.sd j6 3 1 Z Z Z);have ais := qj.gv air 2 Z;have ait := qj.drop 2 Z;have aiu := qj.std 2 Z;refine Xs go25 (F98.calls H ait.ok em (aiq.st aiu) ais) Z ?_;rintro _ aiv ⟨r17, rfl, H, gt⟩;have lk := dx.k0 gt;refine Xa (Yr r17 Z) (Xb ?_);refine Xu (!r17) Z (fun qk => ?_) (fun qk => ?_)
 ·have H := Xi H qk;refine Xc ?_;have m0 : ([bk ad, bk ac, some ab, bk af, bk a1, some aa] : Ob).Perm ((bk ad :: bk ac :: some ab :: bk af :: bk a1 :: []) ++ [some aa]) := RP;have u4 := lk.drops m0;refine Xd ?_;have ql := dx.stn gt;have aiw := ((j7.st ql).st (St.drops _ O m0));refine Xa (Xr ag44 sz44 cL (Ad an 0) [vs a.Id, vi a.Shape.Kind, G aq ar au, G ax ay az] Z Z (aiw.cells (off := 00) Z)) ?_;have aix := ((fa.st ql).st (St.drops _ O m0));have aiy := ((fb.st ql).st (St.drops _ O m0));refine Xs go77 (F39.calls H u4.ok em aix aiy) Z ?_;rintro _ alb ⟨r18, m1, m2, m3, m4, m5, m6, rfl, H, u5, aiz, ai0, ai1, ai2, ai3⟩;have ai4 := u4.owns u5 aiz ai0;refine X7 (kd := Kd.str) Yu ai4 ([([109, 117, 99, 104] : Str)] : List Str) (cells := [vs ([109, 117, 99, 104] : Str)]) ⟨[vs ([109, 117, 99, 104] : Str)], _, Z, ⟨Z, (by decide : Lim ([109, 117, 99, 104] : Str))⟩, Z⟩ RF fun alc qm qn qo qp hr5230 m7 ai5 => ?_;have ai6 := (((j8.k0 gt).k0 u5).k0 qp);refine Xw [vs r18.Id, vi r18.Shape.Kind, G m1 m2 m3, G m4 m5 m6] ai6 Z Z sz44 Z Z fun ald m8 ai7 => ?_;have ll := m7.wr 3 Z m8;refine Xf (G qm qn qo) Z (Xb (Xk ?_));have ai8 := ll.bgv ai7 3 Z;have lm := ll.drop 3 Z;have ln := lm.perm (.swap _ _ _);have qq := ln.perm (.cons _ (.swap _ _ _));have ai9 := lm.stp (.swap _ _ _);have aja := ln.stp (.cons _ (.swap _ _ _));have ajb := ((ai8.st ai9).st aja);have ajc := (ln.sp (lm.sp (ll.sd (m7.sw (ai2.so _ qp hr5230) 1 3 Z Z Z m8) 1 3 Z Z Z) (.swap _ _ _)) (.cons _ (.swap _ _ _)));have ajd := (ln.sp (lm.sp (ll.sd (m7.sw (ai3.so _ qp hr5230) 2 3 Z Z Z m8) 2 3 Z Z Z) (.swap _ _ _)) (.cons _ (.swap _ _ _)));have aje := (ln.sp (lm.sp (ll.sd (m7.sw ai5 0 3 Z Z Z m8) 0 3 Z Z Z) (.swap _ _ _)) (.cons _ (.swap _ _ _)));exact ⟨[.agg #[vs r18.Id, vi r18.Shape.Kind, G m1 m2 m3, G m4 m5 m6], G qm qn qo], ⟨_, _, Z, ajb.1.res Z ag44 sz44, ⟨_, Z, Z⟩⟩, r18, ([([109, 117, 99, 104] : Str)] : List Str), m1, m2, m3, m4, m5, m6, qm, qn, qo, Z, H, qq.gr.g0, qq.ok, qq.ge, ai1, ajc, ajd, aje⟩
 have H := Xj H qk;refine Xz (Xc (Xd ?_));have ajf := (j9.k0 gt);refine Xa (Xr ag44 sz44 cL (Ad ab 0) [vs a.Id, vi r9.Kind, G ac br bs, G af b9 ca] Z Z (ajf.cells (off := 00) Z)) (Xe (G a1 dn dp) Z ?_);have ajg := (j8.k0 gt);refine Xw [vs a.Id, vi r9.Kind, G ac br bs, G af b9 ca] ajg Z Z sz44 Z Z fun ajh m9 aji => ?_;have lo := lk.wr 5 Z m9;refine Xf (G a1 dn dp) Z (Xb (Xk ?_));have ajj := lo.bgv aji 5 Z;have lp := lo.drop 5 Z;have lq := lp.drop 0 Z;have qr : Ct [] w0 ajh [bk ac, bk af, bk a1] O := lq.drop 1 Z;have ajk := lp.std 0 Z;have ajl := lq.std 1 Z;have ajm := ((ajj.st ajk).st ajl);have ajn := (lq.sd (lp.sd (lo.sd (lk.sw (j5.sn gt) 1 5 Z Z Z m9) 1 5 Z Z Z) 1 0 Z Z Z) 0 1 Z Z Z);have ajo := (lq.sd (lp.sd (lo.sd (lk.sw (j6.sn gt) 3 5 Z Z Z m9) 3 5 Z Z Z) 3 0 Z Z Z) 2 1 Z Z Z);have ajp := (lq.sd (lp.sd (lo.sd (lk.sw (ol.sn gt) 4 5 Z Z Z m9) 4 5 Z Z Z) 4 0 Z Z Z) 3 1 Z Z Z);exact ⟨[.agg #[vs a.Id, vi r9.Kind, G ac br bs, G af b9 ca], G a1 dn dp], ⟨_, _, Z, ajm.1.res Z ag44 sz44, ⟨_, Z, Z⟩⟩, (⟨a.Id, r9, xs7⟩ : Feat), xs6, ac, br, bs, af, b9, ca, a1, dn, dp, Z, H, qr.gr.g0, qr.ok, qr.ge, em, ajn, ajo, ajp⟩
def F90.E (a b : List Pt) (Q : Bool → Prop) : Prop :=
 (if (a.length : Int) != (b.length : Int) then Q false else (∃ (I32 : Int → Prop) (mu33 : Int → Nat), I32 0 ∧ ∀ (i2 : Int), I32 i2 → (if decide (i2 < (a.length : Int)) then ((0 : Int) ≤ i2 ∧ i2 < (a.length : Int)) ∧ ((0 : Int) ≤ i2 ∧ i2 < (b.length : Int)) ∧ (if !(eqPt (nth a i2) (nth b i2)) then Q false else (-9223372036854775808 ≤ i2) ∧ I32 (i2 + 1) ∧ mu33 (i2 + 1) < mu33 i2) else Q true)))
theorem F90.calls {a : List Pt} {A1 : Option Addr} {n2 c3 : Nat} {b : List Pt} {A6 : Option Addr} {n7 c8 : Nat} {Q : Bool → Prop} (H : F90.E a b Q) (hO : Ok w0 O) (hp4 : Sl kPt w0 (Fr O) (G A1 n2 c3) a) (hp9 : Sl kPt w0 (Fr O) (G A6 n7 c8) b) :
  Ret Tryz.prog 163 [G A1 n2 c3, G A6 n7 c8] w0 (fun v w' => ∃ (r0 : Bool), v = vb r0 ∧ Q r0 ∧ Gr w0 w' none) := by
 unfold F90.E at H;have hc0 := Ct.init hO;refine Yd Tryz.func163 Z 26 Z [.tmp 4] Z Z ?_;refine Xc (Xd (Xf (vb false) Z (Xb (Xc (Xc (Xd (Xe (G A1 n2 c3) Z ?_)))))));have a5 := hp4.le;refine Xa (X4 u39_ A1 n2 c3 hp4.len Z) (Xe (G A6 n7 c8) Z ?_);have a6 := hp9.le;refine Xa (X4 u39_ A6 n7 c8 hp9.len Z) (Xa (Xx (a.length : Int) (b.length : Int) ((a.length : Int) != (b.length : Int)) Z Z Z) (Xb ?_));refine Xu ((a.length : Int) != (b.length : Int)) Z (fun ad => ?_) (fun ad => ?_)
 ·have H := Xi H ad;exact Xc (Xd (Xf (vb false) Z (Xb (Xk ⟨[vb false], ⟨_, Z, Z⟩, false, Z, H, hc0.gr.g0⟩))))
 have H := Xj H ad;refine Xz (Xc (Xc (Xd (Xf (vi 0) Z (Xb (X8 ?_))))));obtain ⟨ap, aq, ae, H⟩ := H;refine Ys (α := Int) (fun (sv__ : Int) t aa => match sv__ with | i2 => ap i2 ∧ Has t [(0, G A1 n2 c3), (1, G A6 n7 c8), (5, vi i2)] ∧ Cw [] w0 aa [] O fun M => Sl kPt aa (Fr M) (G A1 n2 c3) a ∧ Sl kPt aa (Fr M) (G A6 n7 c8) b) (fun (sv__ : Int) => match sv__ with | i2 => aq i2) 0 ⟨ae, (Xt Z), hc0, hp4, hp9⟩ ?_;rintro i2 _ aa ⟨ae, ar, af, ab, ag⟩;obtain ⟨a7, rfl⟩ := Has.ins ar;have H := H i2 ae;refine Xc (Xc (Xd (Xe (vi i2) Z (Xe (G A1 n2 c3) Z ?_))));have au := ab.le;refine Xa (X4 u39_ A1 n2 c3 ab.len Z) (Xa (Xx i2 (a.length : Int) (decide (i2 < (a.length : Int))) Z Z Z) (Xb ?_));refine Xu (decide (i2 < (a.length : Int))) Z (fun ac => ?_) (fun ac => ?_)
 ·have H := Xi H ac;refine Xz (Xc (X8 (Xc (Yz (fun x => Gr aa x none) RK RK (Gr.drew _) ?_))));refine X1 (G A1 n2 c3) Z (X1 (vi i2) Z ?_);obtain ⟨ai, H⟩ := H;obtain ⟨aj, a8, av, a9, aw, ax⟩ := ab.get default RD i2 ai;obtain rfl := kPt.op aw;refine Xh (X3 u39_ Yh A1 aj n2 c3 ab.len i2 Z av Z ai) (Xh (Xr ag49 sz49 cQ (aj.add (i2.toNat * 2)) [vi ((nth a i2).X), vi ((nth a i2).Y)] Z Z ax) (X1 (G A6 n7 c8) Z (X1 (vi i2) Z ?_)));obtain ⟨ak, H⟩ := H;obtain ⟨al, ba, ay, bb, az, a0⟩ := ag.get default RD i2 ak;obtain rfl := kPt.op az;refine Xh (X3 u39_ Yh A6 al n7 c8 ag.len i2 Z ay Z ak) (Xh (Xr ag49 sz49 cQ (al.add (i2.toNat * 2)) [vi ((nth b i2).X), vi ((nth b i2).Y)] Z Z a0) (Xh (Zj _ _ (eqPt (nth a i2) (nth b i2)) (qt49 (nth a i2) (nth b i2)) Z Z) (Yn fun bc am => ?_)));have an := af.k0 am;refine Xu (!(eqPt (nth a i2) (nth b i2))) Z (fun ah => ?_) (fun ah => ?_)
  ·have H := Xi H ah;exact Xc (Xd (Xf (vb false) Z (Xb (Xk ⟨[vb false], ⟨_, Z, Z⟩, false, Z, H, an.gr.g0⟩))))
  have H := Xj H ah;refine Xz (Xd (Xe (vi i2) Z ?_));obtain ⟨a1, H⟩ := H;have a2 : I64 (i2 + 1) := i64_succ (of_decide_eq_true ac) au a1;refine Xa (X6 i2 1 Z Z a2) (Xf (vi (i2 + 1)) Z (Xb ?_));obtain ⟨a3, a4⟩ := H;have ao := af.stn am;exact ⟨i2 + 1, a4, a3, (Xt Z), an, (ab.st ao), (ag.st ao)⟩
 have H := Xj H ac;refine Ym (xin_hit ?_);exact Xc (Xd (Xf (vb true) Z (Xb (Xk ⟨[vb true], ⟨_, Z, Z⟩, true, Z, H, af.gr.g0⟩))))
def F37.E (a b : Shape) (Q : Bool → Prop) : Prop :=
 (if a.Kind == b.Kind then F90.E a.Pts b.Pts (fun r => Q r) else Q false)
theorem F37.calls {a : Shape} {A1 : Option Addr} {n2 c3 : Nat} {b : Shape} {A6 : Option Addr} {n7 c8 : Nat} {Q : Bool → Prop} (H : F37.E a b Q) (hO : Ok w0 O) (hp4 : Sl kPt w0 (Fr O) (G A1 n2 c3) a.Pts) (hp9 : Sl kPt w0 (Fr O) (G A6 n7 c8) b.Pts) :
  Ret Tryz.prog 131 [.agg #[vi a.Kind, G A1 n2 c3], .agg #[vi b.Kind, G A6 n7 c8]] w0 (fun v w' => ∃ (r0 : Bool), v = vb r0 ∧ Q r0 ∧ Gr w0 w' none) := by
 unfold F37.E at H;have hc0 := Ct.init hO;refine Yd Tryz.func131 Z 17 Z [.tmp 4] Z Z ?_;refine Xc (Xd (Yk [vi a.Kind, G A1 n2 c3] Z fun au ab ai hu15 aj ak => ?_));have al := Fb.mk hc0.ok ai ak;have ae := hc0.k0 aj;refine Yk [vi b.Kind, G A6 n7 c8] Z fun am ac an hu24 af ao => ?_;have ag := Fb.mk ae.ok an ao;have ad := ae.k0 af;refine Xf (vb false) Z (Xb (Xc (Xd (Xa (Xm fa41_0 (Ad ab 0) (Ad ab 0) Z Z) ?_))));have ap := ae.stn af;have ah := (al.st ap);refine Xa (Xp ag3 cL (Ad ab 0) (vi a.Kind) Z (ah.cell Z)) (Xa (Xm fa41_0 (Ad ac 0) (Ad ac 0) Z Z) (Xa (Xp ag3 cL (Ad ac 0) (vi b.Kind) Z (ag.cell Z)) (Xa (Xx a.Kind b.Kind (a.Kind == b.Kind) Z Z Z) (Xe (vb (a.Kind == b.Kind)) Z ?_))));rcases Yb (a.Kind == b.Kind) with aa | aa
 ·have H := Xi H aa;refine Xl aa Z (Xa (Xm fa41_1 (Ad ab 0) (Ad ab 1) Z Z) (Xl aa Z (Xa (Xp ag39 cL (Ad ab 1) (G A1 n2 c3) Z (ah.cell Z)) (Xl aa Z (Xa (Xm fa41_1 (Ad ac 0) (Ad ac 1) Z Z) (Xl aa Z (Xa (Xp ag39 cL (Ad ac 1) (G A6 n7 c8) Z (ag.cell Z)) (Xl aa Z ?_))))))));refine Xs go163 (F90.calls H ad.ok (hp4.st ad.st) (hp9.st ad.st)) Z ?_;rintro _ av ⟨r, rfl, H, aq⟩;have ar := ad.k0 aq;exact Xa (Xv true (vb r) aa Z) (Xf (vb r) Z (Xb (Xk ⟨[vb r], ⟨_, Z, Z⟩, r, Z, H, ar.gr.g0⟩)))
 have H := Xj H aa;refine Xn aa Z (Xn aa Z (Xn aa Z (Xn aa Z (Xn aa Z (Xa (Xv false (vb false) aa Z) (Xf (vb false) Z (Xb (Xk ?_))))))));exact ⟨[vb false], ⟨_, Z, Z⟩, false, Z, H, ad.gr.g0⟩
def F132.E (a b : List Pt) (Q : Bool → Prop) : Prop :=
 (if decide ((a.length : Int) ≤ 12) then Q (decide ((b.length : Int) ≤ 12)) else Q false)
theorem F132.calls {a : List Pt} {A1 : Option Addr} {n2 c3 : Nat} {b : List Pt} {A6 : Option Addr} {n7 c8 : Nat} {Q : Bool → Prop} (H : F132.E a b Q) (hO : Ok w0 O) (hp4 : Sl kPt w0 (Fr O) (G A1 n2 c3) a) (hp9 : Sl kPt w0 (Fr O) (G A6 n7 c8) b) :
  Ret Tryz.prog 179 [G A1 n2 c3, G A6 n7 c8] w0 (fun v w' => ∃ (r0 : Bool), v = vb r0 ∧ Q r0 ∧ Gr w0 w' none ∧ w' = w0) := by
 unfold F132.E at H;have hc0 := Ct.init hO;refine Yd Tryz.func179 Z 13 Z [.tmp 4] Z Z ?_;refine Xc (Xd (Xf (vb false) Z (Xb (Xc (Xd (Xe (G A1 n2 c3) Z ?_))))));have ab := hp4.le;refine Xa (X4 u39_ A1 n2 c3 hp4.len Z) (Xa (Xx (a.length : Int) 12 (decide ((a.length : Int) ≤ 12)) Z Z Z) (Xe (vb (decide ((a.length : Int) ≤ 12))) Z ?_));rcases Yb (decide ((a.length : Int) ≤ 12)) with aa | aa
 ·have H := Xi H aa;refine Xl aa Z (Xe (G A6 n7 c8) Z (Xl aa Z ?_));have ac := hp9.le;exact Xa (X4 u39_ A6 n7 c8 hp9.len Z) (Xl aa Z (Xa (Xx (b.length : Int) 12 (decide ((b.length : Int) ≤ 12)) Z Z Z) (Xa (Yv true (vb (decide ((b.length : Int) ≤ 12))) (by exact congrArg Value.bool aa) Z) (Xf (vb (decide ((b.length : Int) ≤ 12))) Z (Xb (Xk ⟨[vb (decide ((b.length : Int) ≤ 12))], ⟨_, Z, Z⟩, decide ((b.length : Int) ≤ 12), Z, H, hc0.gr.g0, Z⟩))))))
 have H := Xj H aa;exact Xn aa Z (Xn aa Z (Xn aa Z (Xa (Xv false (vb false) aa Z) (Xf (vb false) Z (Xb (Xk ⟨[vb false], ⟨_, Z, Z⟩, false, Z, H, hc0.gr.g0, Z⟩))))))
def F133.E (a b : Int) (Q : Int → Prop) : Prop :=
 (if decide (a > b) then Q a else Q b)
theorem F133.calls {a : Int} {b : Int} {Q : Int → Prop} (H : F133.E a b Q) (hO : Ok w0 O) :
  Ret Tryz.prog 186 [vi a, vi b] w0 (fun v w' => ∃ (r0 : Int), v = vi r0 ∧ Q r0 ∧ Gr w0 w' none ∧ w' = w0) := by
 unfold F133.E at H;have hc0 := Ct.init hO;refine Yd Tryz.func186 Z 10 Z [.tmp 4] Z Z ?_;refine Xc (Xd (Xf (vi 0) Z (Xb (Xc (Xc (Xd (Xe (vi a) Z (Xe (vi b) Z ?_))))))));refine Xa (Xx a b (decide (a > b)) Z Z Z) (Xb ?_);refine Xu (decide (a > b)) Z (fun hq1 => ?_) (fun hq1 => ?_)
 ·have H := Xi H hq1;exact Xc (Xd (Xe (vi a) Z (Xf (vi a) Z (Xb (Xk ⟨[vi a], ⟨_, Z, Z⟩, a, Z, H, hc0.gr.g0, Z⟩)))))
 have H := Xj H hq1;exact Xz (Xc (Xd (Xe (vi b) Z (Xf (vi b) Z (Xb (Xk ⟨[vi b], ⟨_, Z, Z⟩, b, Z, H, hc0.gr.g0, Z⟩))))))
def F133.m (a b : Int) : Int := (if decide (a > b) then a else b)
theorem F133.fn (a b : Int) : F133.E a b (fun r => r = F133.m a b) := by
 unfold F133.E F133.m;(repeat' split) <;> simp_all
def F111.E (a b : List Pt) (Q : Int → Prop) : Prop :=
 ((b.length : Int) ≤ 9223372036854775807 → I64 ((b.length : Int) + 1)) ∧ ((0 : Int) ≤ (b.length : Int) + 1 ∧ (b.length : Int) + 1 ≤ (268435456 : Int)) ∧ ((b.length : Int) ≤ 9223372036854775807 → (a.length : Int) ≤ 9223372036854775807 → I64 ((a.length : Int) - 1)) ∧ (∃ (I57 : (List Int) → Int → Prop) (mu58 : (List Int) → Int → Nat), I57 (List.replicate ((b.length : Int) + 1).toNat (0 : Int)) ((a.length : Int) - 1) ∧ ∀ (xs2 : List Int) (i2 : Int), I57 xs2 i2 → (if decide (i2 ≥ 0) then ((b.length : Int) ≤ 9223372036854775807 → I64 ((b.length : Int) + 1)) ∧ ((0 : Int) ≤ (b.length : Int) + 1 ∧ (b.length : Int) + 1 ≤ (268435456 : Int)) ∧ ((b.length : Int) ≤ 9223372036854775807 → I64 ((b.length : Int) - 1)) ∧ (∃ (I116 : (List Int) → Int → Prop) (mu117 : (List Int) → Int → Nat), I116 (List.replicate ((b.length : Int) + 1).toNat (0 : Int)) ((b.length : Int) - 1) ∧ ∀ (xs4 : List Int) (k2 : Int), I116 xs4 k2 → (if decide (k2 ≥ 0) then ((0 : Int) ≤ i2 ∧ i2 < (a.length : Int)) ∧ ((0 : Int) ≤ k2 ∧ k2 < (b.length : Int)) ∧ (if eqPt (nth a i2) (nth b k2) then (I64 (k2 + 1)) ∧ ((0 : Int) ≤ k2 + 1 ∧ k2 + 1 < (xs2.length : Int)) ∧ (I64 ((nth xs2 (k2 + 1)) + 1)) ∧ ((0 : Int) ≤ k2 ∧ k2 < (xs4.length : Int)) ∧ (I64 (k2 - 1)) ∧ I116 (xs4.set k2.toNat ((nth xs2 (k2 + 1)) + 1)) (k2 - 1) ∧ mu117 (xs4.set k2.toNat ((nth xs2 (k2 + 1)) + 1)) (k2 - 1) < mu117 xs4 k2 else ((0 : Int) ≤ k2 ∧ k2 < (xs2.length : Int)) ∧ (I64 (k2 + 1)) ∧ ((0 : Int) ≤ k2 + 1 ∧ k2 + 1 < (xs4.length : Int)) ∧ ((0 : Int) ≤ k2 ∧ k2 < (xs4.length : Int)) ∧ (I64 (k2 - 1)) ∧ I116 (xs4.set k2.toNat (F133.m (nth xs2 k2) (nth xs4 (k2 + 1)))) (k2 - 1) ∧ mu117 (xs4.set k2.toNat (F133.m (nth xs2 k2) (nth xs4 (k2 + 1)))) (k2 - 1) < mu117 xs4 k2) else (I64 (i2 - 1)) ∧ I57 xs4 (i2 - 1) ∧ mu58 xs4 (i2 - 1) < mu58 xs2 i2)) else ((0 : Int) ≤ 0 ∧ 0 < (xs2.length : Int)) ∧ Q (nth xs2 0)))
theorem F111.calls {a : List Pt} {A1 : Option Addr} {n2 c3 : Nat} {b : List Pt} {A6 : Option Addr} {n7 c8 : Nat} {Q : Int → Prop} (H : F111.E a b Q) (hO : Ok w0 O) (hp4 : Sl kPt w0 (Fr O) (G A1 n2 c3) a) (hp9 : Sl kPt w0 (Fr O) (G A6 n7 c8) b) :
  Ret Tryz.prog 180 [G A1 n2 c3, G A6 n7 c8] w0 (fun v w' => ∃ (r0 : Int), v = vi r0 ∧ Q r0 ∧ Gr w0 w' none) := by
 unfold F111.E at H;have hc0 := Ct.init hO;refine Yd Tryz.func180 Z 66 Z [.tmp 4] Z Z ?_;refine Xc (Xd (Xf (vi 0) Z (Xb (Xc (Xd (Xe (G A6 n7 c8) Z ?_))))));have ba := hp9.le;refine Xa (X4 u39_ A6 n7 c8 hp9.len Z) ?_;obtain ⟨b5, H⟩ := H;have b6 := b5 (len_le ba);refine Xa (X6 (b.length : Int) 1 Z Z b6) ?_;obtain ⟨b7, H⟩ := H;refine Zx (kd := (Kd.int .i64)) Zk hc0 (0 : Int) (Z) ((b.length : Int) + 1) Z Z b7 fun d6 bb bc bd d7 hr20 aj b8 => ?_;refine Xf (G bb bc bd) Z (Xb (Xc (Xc (Xd (Xe (G A1 n2 c3) Z ?_)))));have b9 := (hp4.st aj.st).le;refine Xa (X4 u39_ A1 n2 c3 (hp4.st aj.st).len Z) ?_;obtain ⟨ca, H⟩ := H;have cb := ca (len_le ba) (len_le b9);refine Xa (Yt (a.length : Int) 1 Z Z cb) (Xf (vi ((a.length : Int) - 1)) Z (Xb (X8 ?_)));obtain ⟨cc, cd, au, H⟩ := H;refine Ys (α := (List Int) × (Option Addr) × Nat × Nat × Int) (fun (xs2, aa, ae, af, i2) t ak => cc xs2 i2 ∧ Has t [(0, G A1 n2 c3), (1, G A6 n7 c8), (5, G aa ae af), (6, vi i2)] ∧ Cw [] w0 ak [bk aa] O fun M => Sl kPt ak (Fr M) (G A1 n2 c3) a ∧ Sl kPt ak (Fr M) (G A6 n7 c8) b ∧ Ow (Kd.int .i64) 3 ak M (G aa ae af) xs2) (fun (xs2, _, _, _, i2) => cd xs2 i2) ((List.replicate ((b.length : Int) + 1).toNat (0 : Int)), bb, bc, bd, (a.length : Int) - 1) ⟨au, (Xt Z), aj, (hp4.st aj.st), (hp9.st aj.st), b8⟩ ?_;rintro ⟨xs2, aa, ae, af, i2⟩ _ ak ⟨au, ce, av, cf, ap, aw⟩;obtain ⟨d8, rfl⟩ := Has.ins ce;have H := H xs2 i2 au;refine Xc (Xc (Xd (Xe (vi i2) Z (Xa (Xx i2 0 (decide (i2 ≥ 0)) Z Z Z) (Xb ?_)))));refine Xu (decide (i2 ≥ 0)) Z (fun ax => ?_) (fun ax => ?_)
 ·have H := Xi H ax;refine Xz (Xc (X8 (Xc (Xd (Xe (G A6 n7 c8) Z ?_)))));have be := ap.le;refine Xa (X4 u39_ A6 n7 c8 ap.len Z) ?_;obtain ⟨cg, H⟩ := H;have ch := cg (len_le be);refine Xa (X6 (b.length : Int) 1 Z Z ch) ?_;obtain ⟨ci, H⟩ := H;refine Zx (kd := (Kd.int .i64)) Zk av (0 : Int) (Z) ((b.length : Int) + 1) Z Z ci fun d9 ab ac ad bf hr73 cj ck => ?_;refine Xf (G ab ac ad) Z (Xb (Xc (Xc (Xd (Xe (G A6 n7 c8) Z ?_)))));have ay := av.stown _ bf hr73;refine Xa (X4 u39_ A6 n7 c8 (ap.st ay).len Z) ?_;obtain ⟨cl, H⟩ := H;have cm := cl (len_le be);refine Xa (Yt (b.length : Int) 1 Z Z cm) (Xf (vi ((b.length : Int) - 1)) Z (Xb (X8 ?_)));obtain ⟨cn, co, az, H⟩ := H;have cp := (aw.so _ bf hr73);refine Ys (α := (List Int) × Int) (fun (xs4, k2) t ag => cn xs4 k2 ∧ Has t [(0, G A1 n2 c3), (1, G A6 n7 c8), (5, G aa ae af), (6, vi i2), (7, G ab ac ad), (8, vi k2)] ∧ Cw [] w0 ag [bk ab, bk aa] O fun M => Sl kPt ag (Fr M) (G A1 n2 c3) a ∧ Sl kPt ag (Fr M) (G A6 n7 c8) b ∧ Ow (Kd.int .i64) 3 ag M (G aa ae af) xs2 ∧ Ow (Kd.int .i64) 3 ag M (G ab ac ad) xs4) (fun (xs4, k2) => co xs4 k2) ((List.replicate ((b.length : Int) + 1).toNat (0 : Int)), (b.length : Int) - 1) ⟨az, (Xt Z), cj, (cf.st ay), (ap.st ay), cp, ck⟩ ?_;rintro ⟨xs4, k2⟩ _ ag ⟨az, cq, ai, al, am, bg, a0⟩;obtain ⟨ea, rfl⟩ := Has.ins cq;have H := H xs4 k2 az;refine Xc (Xc (Xd (Xe (vi k2) Z (Xa (Xx k2 0 (decide (k2 ≥ 0)) Z Z Z) (Xb ?_)))));refine Xu (decide (k2 ≥ 0)) Z (fun a1 => ?_) (fun a1 => ?_)
  ·have H := Xi H a1;refine Xz (Xc (X8 (Xc (Yz (fun x => Gr ag x none) RK RK (Gr.drew _) ?_))));refine X1 (G A1 n2 c3) Z (X1 (vi i2) Z ?_);obtain ⟨bh, H⟩ := H;obtain ⟨bi, eb, cr, ec, cs, ct⟩ := al.get default RD i2 bh;obtain rfl := kPt.op cs;refine Xh (X3 u39_ Yh A1 bi n2 c3 al.len i2 Z cr Z bh) (Xh (Xr ag49 sz49 cQ (bi.add (i2.toNat * 2)) [vi ((nth a i2).X), vi ((nth a i2).Y)] Z Z ct) (X1 (G A6 n7 c8) Z (X1 (vi k2) Z ?_)));obtain ⟨bj, H⟩ := H;obtain ⟨bl, ed, cu, ee, cv, cw⟩ := am.get default RD k2 bj;obtain rfl := kPt.op cv;refine Xh (X3 u39_ Yh A6 bl n7 c8 am.len k2 Z cu Z bj) (Xh (Xr ag49 sz49 cQ (bl.add (k2.toNat * 2)) [vi ((nth b k2).X), vi ((nth b k2).Y)] Z Z cw) (Xh (Zi _ _ (eqPt (nth a i2) (nth b k2)) (qt49 (nth a i2) (nth b k2)) Z Z) (Yn fun ef ah => ?_)));have an := ai.k0 ah;refine Xu (eqPt (nth a i2) (nth b k2)) Z (fun a2 => ?_) (fun a2 => ?_)
   ·have H := Xi H a2;refine Xd (Xe (G ab ac ad) Z (Xe (vi k2) Z (Xe (G aa ae af) Z (Xe (vi k2) Z ?_))));obtain ⟨cx, H⟩ := H;refine Xa (X6 k2 1 Z Z cx) ?_;obtain ⟨bm, H⟩ := H;have a3 := (bg.sn ah);obtain ⟨bn, eg, cy, cz, c0⟩ := a3.get default RD (k2 + 1) bm;obtain rfl := Kd.int.op cz;refine Xa (X3 u167_ Y9 aa bn ae af a3.len (k2 + 1) Z cy Z bm) (Xa (Xp ag3 cL (bn.add ((k2 + 1).toNat * 1)) (vi (nth xs2 (k2 + 1))) Z (c0 0 _ Z)) ?_);obtain ⟨c1, H⟩ := H;refine Xa (X6 (nth xs2 (k2 + 1)) 1 Z Z c1) ?_;obtain ⟨a4, H⟩ := H;have a5 := (a0.sn ah);obtain ⟨bo, eh, bp, c2, c4⟩ := a5.get default RD k2 a4;obtain rfl := Kd.int.op c2;refine Xa (X3 u167_ Y9 ab bo ac ad a5.len k2 Z bp Z a4) (Zs ab ac ad xs4 a5 k2 a4 bo bp 0 Z [vi ((nth xs2 (k2 + 1)) + 1)] Z sz3 Z ((nth xs2 (k2 + 1)) + 1) [vi (nth xs4 k2)] [vi ((nth xs2 (k2 + 1)) + 1)] c4 Z Z Z fun ei a6 c5 => ?_);have c6 := an.wr 0 Z a6;refine Xb (Xd (Xe (vi k2) Z ?_));obtain ⟨c7, H⟩ := H;refine Xa (Yt k2 1 Z Z c7) (Xf (vi (k2 - 1)) Z (Xb ?_));obtain ⟨c9, da⟩ := H;have bq := ai.stn ah;have br := an.stw 0 Z a6;have db := ((al.st bq).st br);have dc := ((am.st bq).st br);have dd := (an.sw a3 1 0 Z Z Z a6);exact ⟨((xs4.set k2.toNat ((nth xs2 (k2 + 1)) + 1)), k2 - 1), da, c9, (Xt Z), c6, db, dc, dd, c5⟩
   have H := Xj H a2;refine Z1 13 RK RK fun de aq => ?_;have ar := an.k0 aq;refine Yj (Yc (G ab ac ad) Z) ?_;refine Yj (Yc (vi k2) Z) ?_;refine Yj (Yc (G aa ae af) Z) ?_;refine Yj (Yc (vi k2) Z) ?_;obtain ⟨bs, H⟩ := H;have a7 := ((bg.sn ah).sn aq);obtain ⟨bt, ej, df, dg, dh⟩ := a7.get default RD k2 bs;obtain rfl := Kd.int.op dg;refine Yj (X3 u167_ Y9 aa bt ae af a7.len k2 Z df Z bs) ?_;refine Yj (Xp ag3 cL (bt.add (k2.toNat * 1)) (vi (nth xs2 k2)) Z (dh 0 _ Z)) ?_;refine Yj (Yc (G ab ac ad) Z) ?_;refine Yj (Yc (vi k2) Z) ?_;obtain ⟨di, H⟩ := H;refine Yj (X6 k2 1 Z Z di) ?_;obtain ⟨bu, H⟩ := H;have ao := ((a0.sn ah).sn aq);obtain ⟨bv, ek, dj, dk, dl⟩ := ao.get default RD (k2 + 1) bu;obtain rfl := Kd.int.op dk;refine Yj (X3 u167_ Y9 ab bv ac ad ao.len (k2 + 1) Z dj Z bu) ?_;refine Yj (Xp ag3 cL (bv.add ((k2 + 1).toNat * 1)) (vi (nth xs4 (k2 + 1))) Z (dl 0 _ Z)) ?_;refine Kl go186 [vi (nth xs2 k2), vi (nth xs4 (k2 + 1))] Z (vi (F133.m (nth xs2 k2) (nth xs4 (k2 + 1)))) ((F133.calls (F133.fn (nth xs2 k2) (nth xs4 (k2 + 1))) ar.ok).mono ?_) ?_
   ·rintro _ w ⟨r, rfl, rfl, _, rfl⟩;exact ⟨Z, Z⟩
   obtain ⟨a8, H⟩ := H;obtain ⟨bw, el, bx, dm, dn⟩ := ao.get default RD k2 a8;obtain rfl := Kd.int.op dm;refine Yj (X3 u167_ Y9 ab bw ac ad ao.len k2 Z bx Z a8) ?_;refine Z2 ?_;refine Zs ab ac ad xs4 ao k2 a8 bw bx 0 Z [vi (F133.m (nth xs2 k2) (nth xs4 (k2 + 1)))] Z sz3 Z (F133.m (nth xs2 k2) (nth xs4 (k2 + 1))) [vi (nth xs4 k2)] [vi (F133.m (nth xs2 k2) (nth xs4 (k2 + 1)))] dn Z Z Z fun em a9 dp => ?_;have dq := ar.wr 0 Z a9;refine Xb (Xd (Xe (vi k2) Z ?_));obtain ⟨dr, H⟩ := H;refine Xa (Yt k2 1 Z Z dr) (Xf (vi (k2 - 1)) Z (Xb ?_));obtain ⟨ds, dt⟩ := H;have bz := ai.stn ah;have b0 := an.stn aq;have b1 := ar.stw 0 Z a9;have du := (((al.st bz).st b0).st b1);have dv := (((am.st bz).st b0).st b1);have dw := (ar.sw a7 1 0 Z Z Z a9);exact ⟨((xs4.set k2.toNat (F133.m (nth xs2 k2) (nth xs4 (k2 + 1)))), k2 - 1), dt, ds, (Xt Z), dq, du, dv, dw, dp⟩
  have H := Xj H a1;refine Ym (xin_hit ?_);refine Xd (Xe (G ab ac ad) Z (Xf (G ab ac ad) Z (Xb (Xd (Xe (vi i2) Z ?_)))));obtain ⟨dx, H⟩ := H;refine Xa (Yt i2 1 Z Z dx) (Xf (vi (i2 - 1)) Z (Xb ?_));have dy := ai.drop 1 Z;obtain ⟨dz, d0⟩ := H;have b2 := ai.std 1 Z;have d1 := (ai.sd a0 0 1 Z Z Z);exact ⟨(xs4, ab, ac, ad, i2 - 1), d0, dz, (Xt Z), dy, (al.st b2), (am.st b2), d1⟩
 have H := Xj H ax;refine Ym (xin_hit ?_);refine Xc (Xd (Xe (G aa ae af) Z ?_));obtain ⟨b3, H⟩ := H;obtain ⟨b4, en, d2, d3, d4⟩ := aw.get default RD 0 b3;obtain rfl := Kd.int.op d3;refine Xa (X3 u167_ Y9 aa b4 ae af aw.len 0 Z d2 Z b3) (Xa (Xp ag3 cL (b4.add ((0 : Int).toNat * 1)) (vi (nth xs2 0)) Z (d4 0 _ Z)) (Xf (vi (nth xs2 0)) Z (Xb (Xk ?_))));have d5 := av.drop 0 Z;exact ⟨[vi (nth xs2 0)], ⟨_, Z, Z⟩, (nth xs2 0), Z, H, d5.gr.g0⟩
def F60.E (a b : List Pt) (Q : List Pair → Prop) : Prop :=
 (∃ (I50 : (List Pair) → Int → Int → Prop) (mu51 : (List Pair) → Int → Int → Nat), I50 [] 0 0 ∧ ∀ (xs2 : List Pair) (i2 k2 : Int), I50 xs2 i2 k2 → (if decide (i2 < (a.length : Int)) then (if decide (k2 < (b.length : Int)) then F132.E a b (fun r => (if r then ((0 : Int) ≤ i2 ∧ i2 < (a.length : Int)) ∧ ((0 : Int) ≤ k2 ∧ k2 < (b.length : Int)) ∧ (if eqPt (nth a i2) (nth b k2) then (xs2.length + ([(⟨i2, k2⟩ : Pair)] : List Pair).length ≤ 268435456) ∧ (-9223372036854775808 ≤ i2) ∧ (-9223372036854775808 ≤ k2) ∧ I50 (xs2 ++ ([(⟨i2, k2⟩ : Pair)] : List Pair)) (i2 + 1) (k2 + 1) ∧ mu51 (xs2 ++ ([(⟨i2, k2⟩ : Pair)] : List Pair)) (i2 + 1) (k2 + 1) < mu51 xs2 i2 k2 else (-9223372036854775808 ≤ i2) ∧ ((0 : Int) ≤ i2 + 1 ∧ (i2 + 1 : Int) ≤ (a.length : Int) ∧ (a.length : Int) ≤ (a.length : Int)) ∧ ((0 : Int) ≤ k2 ∧ (k2 : Int) ≤ (b.length : Int) ∧ (b.length : Int) ≤ (b.length : Int)) ∧ (∃ q : Int, F111.E ((a.drop (i2 + 1).toNat).take ((a.length : Int).toNat - (i2 + 1).toNat)) ((b.drop k2.toNat).take ((b.length : Int).toNat - k2.toNat)) (fun x => x = q) ∧ ((0 : Int) ≤ i2 ∧ (i2 : Int) ≤ (a.length : Int) ∧ (a.length : Int) ≤ (a.length : Int)) ∧ (-9223372036854775808 ≤ k2) ∧ ((0 : Int) ≤ k2 + 1 ∧ (k2 + 1 : Int) ≤ (b.length : Int) ∧ (b.length : Int) ≤ (b.length : Int)) ∧ (∃ q2 : Int, F111.E ((a.drop i2.toNat).take ((a.length : Int).toNat - i2.toNat)) ((b.drop (k2 + 1).toNat).take ((b.length : Int).toNat - (k2 + 1).toNat)) (fun x => x = q2) ∧ (if decide (q ≥ q2) then (-9223372036854775808 ≤ i2) ∧ I50 xs2 (i2 + 1) k2 ∧ mu51 xs2 (i2 + 1) k2 < mu51 xs2 i2 k2 else (-9223372036854775808 ≤ k2) ∧ I50 xs2 i2 (k2 + 1) ∧ mu51 xs2 i2 (k2 + 1) < mu51 xs2 i2 k2)))) else Q xs2)) else Q xs2) else Q xs2))
theorem F60.calls {a : List Pt} {A1 : Option Addr} {n2 c3 : Nat} {b : List Pt} {A6 : Option Addr} {n7 c8 : Nat} {Q : List Pair → Prop} (H : F60.E a b Q) (hO : Ok w0 O) (hp4 : Sl kPt w0 (Fr O) (G A1 n2 c3) a) (hp9 : Sl kPt w0 (Fr O) (G A6 n7 c8) b) :
  Ret Tryz.prog 171 [G A1 n2 c3, G A6 n7 c8] w0 (fun v w' => ∃ (r0 : List Pair) (Aw0 : Option Addr) (nw0 cw0 : Nat), v = G Aw0 nw0 cw0 ∧ Q r0 ∧ Gk w0 w' [bk Aw0] O (Ow kPair 173 w' ([bk Aw0] ++ O) (G Aw0 nw0 cw0) r0)) := by
 unfold F60.E at H;have hc0 := Ct.init hO;refine Yd Tryz.func171 Z 67 Z [.tmp 4] Z Z ?_;refine Xc (Xd (Xf (G none 0 0) Z (Xb (Xc (Xd (X7 (kd := kPair) Zp hc0 ([] : List Pair) (cells := []) Z RF fun dl a2 a3 a4 dm hr16 au bz => ?_))))));refine Xf (G a2 a3 a4) Z (Xb (Xc (Xd (Xf (vi 0) Z (Xb (Xc (Xd (Xf (vi 0) Z ?_))))))));refine Xb (Xc (X8 ?_));obtain ⟨b0, b1, av, H⟩ := H;refine Ys (α := (List Pair) × (Option Addr) × Nat × Nat × Int × Int) (fun (xs2, aa, ab, ac, i2, k2) t ak => b0 xs2 i2 k2 ∧ Has t [(0, G A1 n2 c3), (1, G A6 n7 c8), (5, G aa ab ac), (6, vi i2), (7, vi k2)] ∧ Cw [] w0 ak [bk aa] O fun M => Sl kPt ak (Fr M) (G A1 n2 c3) a ∧ Sl kPt ak (Fr M) (G A6 n7 c8) b ∧ Ow kPair 173 ak M (G aa ab ac) xs2) (fun (xs2, _, _, _, i2, k2) => b1 xs2 i2 k2) (([] : List Pair), a2, a3, a4, 0, 0) ⟨av, (Xt Z), au, (hp4.st au.st), (hp9.st au.st), bz⟩ ?_;rintro ⟨xs2, aa, ab, ac, i2, k2⟩ _ ak ⟨av, b2, af, ah, ai, al⟩;obtain ⟨dn, rfl⟩ := Has.ins b2;have H := H xs2 i2 k2 av;refine Xc (Xc (Xd (Xe (vi i2) Z (Xe (G A1 n2 c3) Z ?_))));have aw := ah.le;refine Xa (X4 u39_ A1 n2 c3 ah.len Z) (Xa (Xx i2 (a.length : Int) (decide (i2 < (a.length : Int))) Z Z Z) (Xe (vb (decide (i2 < (a.length : Int)))) Z ?_));rcases Yb (decide (i2 < (a.length : Int))) with ad | ad
 ·have H := Xi H ad;refine Xl ad Z (Xe (vi k2) Z (Xl ad Z (Xe (G A6 n7 c8) Z (Xl ad Z ?_))));have ax := ai.le;refine Xa (X4 u39_ A6 n7 c8 ai.len Z) (Xl ad Z (Xa (Xx k2 (b.length : Int) (decide (k2 < (b.length : Int))) Z Z Z) (Xa (Yv true (vb (decide (k2 < (b.length : Int)))) (by exact congrArg Value.bool ad) Z) (Xe (vb (decide (k2 < (b.length : Int)))) Z ?_))));rcases Yb (decide (k2 < (b.length : Int))) with ae | ae
  ·have H := Xi H ae;refine Xl ae Z (Xe (G A1 n2 c3) Z (Xl ae Z (Xe (G A6 n7 c8) Z (Xl ae Z ?_))));refine Xs go179 (F132.calls H af.ok ah ai) Z ?_;rintro _ b3 ⟨r, rfl, H, am, _⟩;have an := af.k0 am;refine Xa (Xv true (vb r) ae Z) (Xb ?_);refine Xu r Z (fun ay => ?_) (fun ay => ?_)
   ·have H := Xi H ay;refine Xz (X8 (X8 (Xc (Yz (fun x => Gr b3 x none) RK RK (Gr.drew _) ?_))));refine X1 (G A1 n2 c3) Z (X1 (vi i2) Z ?_);obtain ⟨a5, H⟩ := H;have ag := af.stn am;obtain ⟨a6, dp, b4, dq, b5, b6⟩ := (ah.st ag).get default RD i2 a5;obtain rfl := kPt.op b5;refine Xh (X3 u39_ Yh A1 a6 n2 c3 (ah.st ag).len i2 Z b4 Z a5) (Xh (Xr ag49 sz49 cQ (a6.add (i2.toNat * 2)) [vi ((nth a i2).X), vi ((nth a i2).Y)] Z Z b6) (X1 (G A6 n7 c8) Z (X1 (vi k2) Z ?_)));obtain ⟨a7, H⟩ := H;obtain ⟨a8, dr, b7, ds, b8, b9⟩ := (ai.st ag).get default RD k2 a7;obtain rfl := kPt.op b8;refine Xh (X3 u39_ Yh A6 a8 n7 c8 (ai.st ag).len k2 Z b7 Z a7) (Xh (Xr ag49 sz49 cQ (a8.add (k2.toNat * 2)) [vi ((nth b k2).X), vi ((nth b k2).Y)] Z Z b9) (Xh (Zi _ _ (eqPt (nth a i2) (nth b k2)) (qt49 (nth a i2) (nth b k2)) Z Z) (Y3 (vb (eqPt (nth a i2) (nth b k2))) Z (Yn fun ca ao => ?_))));have aj := an.k0 ao;refine Xu (eqPt (nth a i2) (nth b k2)) Z (fun az => ?_) (fun az => ?_)
    ·have H := Xi H az;refine Xc (Xd (Xe (G aa ab ac) Z (Xe (vi i2) Z (Xe (vi k2) Z (Xa (Yi (.agg #[vi i2, vi k2]) RF) (X7 (kd := kPair) Zp aj ([(⟨i2, k2⟩ : Pair)] : List Pair) (cells := [vi i2, vi k2]) ⟨[vi i2, vi k2], _, Z, (kPair.mk _ _ (⟨i2, k2⟩ : Pair)), Z⟩ RF fun dt cb cc cd a9 hr92 ce cf => ?_))))));obtain ⟨cg, H⟩ := H;have ch := (((al.sn am).sn ao).so _ a9 hr92);refine Yf Zp ce (G aa ab ac) xs2 ([(⟨i2, k2⟩ : Pair)] : List Pair) Z ch (G cb cc cd) Z cf.sx 1 Z cg fun du ba bb bc dv bd a0 ci => ?_;refine Xf (G ba bb bc) Z (Xb (Xc (Xd (Xe (vi i2) Z ?_))));obtain ⟨cj, H⟩ := H;have ck : I64 (i2 + 1) := i64_succ (of_decide_eq_true ad) aw cj;refine Xa (X6 i2 1 Z Z ck) (Xf (vi (i2 + 1)) Z (Xb (Xd (Xe (vi k2) Z ?_))));obtain ⟨cl, H⟩ := H;have cm : I64 (k2 + 1) := i64_succ (of_decide_eq_true ae) ax cl;refine Xa (X6 k2 1 Z Z cm) (Xf (vi (k2 + 1)) Z (Xb ?_));have cn := a0.drop 0 Z;obtain ⟨co, cp⟩ := H;have be := an.stn ao;have bf := aj.stown _ a9 hr92;have bg := a0.std 0 Z;have cq := (((((ah.st ag).st be).st bf).st bd).st bg);have cr := (((((ai.st ag).st be).st bf).st bd).st bg);have cs := (a0.sd ci 1 0 Z Z Z);exact ⟨((xs2 ++ ([(⟨i2, k2⟩ : Pair)] : List Pair)), ba, bb, bc, i2 + 1, k2 + 1), cp, co, (Xt Z), cn, cq, cr, cs⟩
    have H := Xj H az;refine Xc (Yz (fun x => Gr ca x none) RK RK (Gr.drew _) ?_);refine X1 (G A1 n2 c3) Z (X1 (vi i2) Z ?_);obtain ⟨ct, H⟩ := H;have cu : I64 (i2 + 1) := i64_succ (of_decide_eq_true ad) aw ct;refine Xh (X6 i2 1 Z Z cu) ?_;obtain ⟨cv, H⟩ := H;have bh := an.stn ao;have ap := ((ah.st ag).st bh);refine Zc u39_ Yh A1 n2 c3 a Z ap (i2 + 1) (a.length : Int) Z (bd_none ap.len) cv fun bi bj bl cw => ?_;refine X1 (G A6 n7 c8) Z (X1 (vi k2) Z ?_);obtain ⟨cx, H⟩ := H;have aq := ((ai.st ag).st bh);refine Zc u39_ Yh A6 n7 c8 b Z aq k2 (b.length : Int) Z (bd_none aq.len) cx fun bm bn bo cy => ?_;obtain ⟨q, cz, H⟩ := H;refine Y6 go180 [G bi bj bl, G bm bn bo] Z (vi q) (fun w g => (F111.calls cz (aj.k0 g).ok (cw.st (.new _ g)) (cy.st (.new _ g))).mono ?_) ?_
    ·rintro _ w ⟨r, rfl, rfl, g2⟩;exact ⟨Z, Gr.t0 g g2⟩
    refine X1 (G A1 n2 c3) Z (X1 (vi i2) Z ?_);obtain ⟨c0, H⟩ := H;refine Zc u39_ Yh A1 n2 c3 a Z ap i2 (a.length : Int) Z (bd_none ap.len) c0 fun bp bq br c1 => ?_;refine X1 (G A6 n7 c8) Z (X1 (vi k2) Z ?_);obtain ⟨c2, H⟩ := H;have c4 : I64 (k2 + 1) := i64_succ (of_decide_eq_true ae) ax c2;refine Xh (X6 k2 1 Z Z c4) ?_;obtain ⟨c5, H⟩ := H;refine Zc u39_ Yh A6 n7 c8 b Z aq (k2 + 1) (b.length : Int) Z (bd_none aq.len) c5 fun bs bt bu c6 => ?_;obtain ⟨q2, c7, H⟩ := H;refine Y6 go180 [G bp bq br, G bs bt bu] Z (vi q2) (fun w g => (F111.calls c7 (aj.k0 g).ok (c1.st (.new _ g)) (c6.st (.new _ g))).mono ?_) ?_
    ·rintro _ w ⟨r, rfl, rfl, g2⟩;exact ⟨Z, Gr.t0 g g2⟩
    refine Xh (Xx q q2 (decide (q ≥ q2)) Z Z Z) (Y3 (vb (decide (q ≥ q2))) Z (Yn fun dw ar => ?_));have bv := aj.k0 ar;refine Xu (decide (q ≥ q2)) Z (fun a1 => ?_) (fun a1 => ?_)
    ·have H := Xi H a1;refine Xd (Xe (vi i2) Z ?_);obtain ⟨c9, H⟩ := H;have da : I64 (i2 + 1) := i64_succ (of_decide_eq_true ad) aw c9;refine Xa (X6 i2 1 Z Z da) (Xf (vi (i2 + 1)) Z (Xb ?_));obtain ⟨db, dc⟩ := H;have bw := aj.stn ar;have dd := (((al.sn am).sn ao).sn ar);exact ⟨(xs2, aa, ab, ac, i2 + 1, k2), dc, db, (Xt Z), bv, (ap.st bw), (aq.st bw), dd⟩
    have H := Xj H a1;refine Xd (Xe (vi k2) Z ?_);obtain ⟨de, H⟩ := H;have df : I64 (k2 + 1) := i64_succ (of_decide_eq_true ae) ax de;refine Xa (X6 k2 1 Z Z df) (Xf (vi (k2 + 1)) Z (Xb ?_));obtain ⟨dg, dh⟩ := H;have bx := aj.stn ar;have di := (((al.sn am).sn ao).sn ar);exact ⟨(xs2, aa, ab, ac, i2, k2 + 1), dh, dg, (Xt Z), bv, (ap.st bx), (aq.st bx), di⟩
   have H := Xj H ay;refine Ym (xin_hit ?_);refine Xc (Xd (Xe (G aa ab ac) Z (Xf (G aa ab ac) Z (Xb (Xk ?_)))));have dk := (al.sn am);exact ⟨[G aa ab ac], ⟨_, Z, Z⟩, xs2, aa, ab, ac, Z, H, an.gr.g0, an.ok, an.ge, dk⟩
  have H := Xj H ae;refine Xn ae Z (Xn ae Z (Xn ae Z (Xa (Xv false (vb false) ae Z) (Xb (Y4 (b := false) Z Z ?_)))));refine Ym (xin_hit ?_);exact Xc (Xd (Xe (G aa ab ac) Z (Xf (G aa ab ac) Z (Xb (Xk ⟨[G aa ab ac], ⟨_, Z, Z⟩, xs2, aa, ab, ac, Z, H, af.gr.g0, af.ok, af.ge, al⟩)))))
 have H := Xj H ad;refine Xn ad Z (Xn ad Z (Xn ad Z (Xn ad Z (Xa (Xv false (vb false) ad Z) (Xe (vb false) Z (X2 (dj := 19) Z Z (.inl Z) (X2 (dj := 19) Z Z (.inl Z) (X2 (dj := 19) Z Z (.inl Z) ?_))))))));refine Xa (Xv false (vb false) Z Z) (Xb (Y4 (b := false) Z Z ?_));refine Ym (xin_hit ?_);exact Xc (Xd (Xe (G aa ab ac) Z (Xf (G aa ab ac) Z (Xb (Xk ⟨[G aa ab ac], ⟨_, Z, Z⟩, xs2, aa, ab, ac, Z, H, af.gr.g0, af.ok, af.ge, al⟩)))))
def F142.E (p : List Pair) (a : Int) (Q : Int → Prop) : Prop :=
 (∃ (I18 : Int → Prop) (mu19 : Int → Nat), I18 0 ∧ ∀ (i2 : Int), I18 i2 → (if decide (i2 < (p.length : Int)) then ((0 : Int) ≤ i2 ∧ i2 < (p.length : Int)) ∧ (if ((nth p i2).A) == a then ((0 : Int) ≤ i2 ∧ i2 < (p.length : Int)) ∧ Q ((nth p i2).B) else (-9223372036854775808 ≤ i2) ∧ I18 (i2 + 1) ∧ mu19 (i2 + 1) < mu19 i2) else Q (-1)))
theorem F142.calls {p : List Pair} {A1 : Option Addr} {n2 c3 : Nat} {a : Int} {Q : Int → Prop} (H : F142.E p a Q) (hO : Ok w0 O) (hp4 : Sl kPair w0 (Fr O) (G A1 n2 c3) p) :
  Ret Tryz.prog 172 [G A1 n2 c3, vi a] w0 (fun v w' => ∃ (r0 : Int), v = vi r0 ∧ Q r0 ∧ Gr w0 w' none) := by
 unfold F142.E at H;have hc0 := Ct.init hO;refine Yd Tryz.func172 Z 24 Z [.tmp 4] Z Z ?_;refine Xc (Xd (Xf (vi 0) Z (Xb (Xc (Xc (Xd (Xf (vi 0) Z (Xb ?_))))))));refine X8 ?_;obtain ⟨ak, al, ae, H⟩ := H;refine Ys (α := Int) (fun (sv__ : Int) t af => match sv__ with | i2 => ak i2 ∧ Has t [(0, G A1 n2 c3), (1, vi a), (5, vi i2)] ∧ Ct [] w0 af [] O ∧ Sl kPair af (Fr ([] ++ O)) (G A1 n2 c3) p) (fun (sv__ : Int) => match sv__ with | i2 => al i2) 0 ⟨ae, (Xt Z), hc0, hp4⟩ ?_;rintro i2 _ af ⟨ae, am, ag, aa⟩;obtain ⟨a0, rfl⟩ := Has.ins am;have H := H i2 ae;refine Xc (Xc (Xd (Xe (vi i2) Z (Xe (G A1 n2 c3) Z ?_))));have an := aa.le;refine Xa (X4 u139_ A1 n2 c3 aa.len Z) (Xa (Xx i2 (p.length : Int) (decide (i2 < (p.length : Int))) Z Z Z) (Xb ?_));refine Xu (decide (i2 < (p.length : Int))) Z (fun ab => ?_) (fun ab => ?_)
 ·have H := Xi H ab;refine Xz (Xc (X8 (Xc (Xd (Xe (G A1 n2 c3) Z (Xe (vi i2) Z ?_))))));obtain ⟨ai, H⟩ := H;obtain ⟨ac, a1, ao, a2, ap, aq⟩ := aa.get default RD i2 ai;obtain rfl := kPair.op ap;refine Xa (X3 u139_ Z3 A1 ac n2 c3 aa.len i2 Z ao Z ai) (Xa (Xm fa173_0 (ac.add (i2.toNat * 2)) ((ac.add (i2.toNat * 2)).add 0) Z Z) (Xa (Xp ag3 cL ((ac.add (i2.toNat * 2)).add 0) (vi ((nth p i2).A)) Z (aq 0 _ Z)) (Xe (vi a) Z (Xa (Xx ((nth p i2).A) a (((nth p i2).A) == a) Z Z Z) (Xb ?_)))));refine Xu (((nth p i2).A) == a) Z (fun ah => ?_) (fun ah => ?_)
  ·have H := Xi H ah;refine Xc (Xd (Xe (G A1 n2 c3) Z (Xe (vi i2) Z ?_)));obtain ⟨aj, H⟩ := H;obtain ⟨ad, a3, ar, a4, au, av⟩ := aa.get default RD i2 aj;obtain rfl := kPair.op au;exact Xa (X3 u139_ Z3 A1 ad n2 c3 aa.len i2 Z ar Z aj) (Xa (Xm fa173_1 (ad.add (i2.toNat * 2)) ((ad.add (i2.toNat * 2)).add 1) Z Z) (Xa (Xp ag3 cL ((ad.add (i2.toNat * 2)).add 1) (vi ((nth p i2).B)) Z (av 1 _ Z)) (Xf (vi ((nth p i2).B)) Z (Xb (Xk ⟨[vi ((nth p i2).B)], ⟨_, Z, Z⟩, (nth p i2).B, Z, H, ag.gr.g0⟩)))))
  have H := Xj H ah;refine Xz (Xd (Xe (vi i2) Z ?_));obtain ⟨aw, H⟩ := H;have ax : I64 (i2 + 1) := i64_succ (of_decide_eq_true ab) an aw;refine Xa (X6 i2 1 Z Z ax) (Xf (vi (i2 + 1)) Z (Xb ?_));obtain ⟨ay, az⟩ := H;exact ⟨i2 + 1, az, ay, (Xt Z), ag, aa⟩
 have H := Xj H ab;refine Ym (xin_hit ?_);exact Xc (Xd (Xf (vi (-1)) Z (Xb (Xk ⟨[vi (-1)], ⟨_, Z, Z⟩, (-1), Z, H, ag.gr.g0⟩))))
def F112.E (o a b : List Pt) (Q : List Pt → Bool → Prop) : Prop :=
 F90.E a o (fun r => (if r then Q b true else F90.E b o (fun r2 => (if r2 then Q a true else F90.E a b (fun r3 => (if r3 then Q a true else Q [] false))))))
theorem F112.calls {o : List Pt} {A1 : Option Addr} {n2 c3 : Nat} {a : List Pt} {A6 : Option Addr} {n7 c8 : Nat} {b : List Pt} {aa : Option Addr} {ab ac : Nat} {Q : List Pt → Bool → Prop} (H : F112.E o a b Q) (hO : Ok w0 O) (hp4 : Sl kPt w0 (Fr O) (G A1 n2 c3) o) (hp9 : Sl kPt w0 (Fr O) (G A6 n7 c8) a) (af : Sl kPt w0 (Fr O) (G aa ab ac) b) :
  Ret Tryz.prog 173 [G A1 n2 c3, G A6 n7 c8, G aa ab ac] w0 (fun v w' => ∃ (r0 : List Pt) (r1 : Bool) (Aw0 : Option Addr) (nw0 cw0 : Nat), v = .tuple #[G Aw0 nw0 cw0, vb r1] ∧ Q r0 r1 ∧ Gr w0 w' none ∧ Sl kPt w' (Fr O) (G Aw0 nw0 cw0) r0) := by
 unfold F112.E at H;have hc0 := Ct.init hO;refine Yd Tryz.func173 Z 23 Z [.tmp 6, .tmp 7] Z Z ?_;refine Xc (Xd (Xf (G none 0 0) Z (Xf (vb false) Z (Xb (Xc (X8 (Xc (Xd ?_))))))));refine Xe (G A6 n7 c8) Z (Xe (G A1 n2 c3) Z ?_);refine Xs go163 (F90.calls H hc0.ok hp9 hp4) Z ?_;rintro _ ak ⟨r, rfl, H, al⟩;have ad := hc0.k0 al;refine Xf (vb r) Z (Xb ?_);refine Xu r Z (fun ag => ?_) (fun ag => ?_)
 ·have H := Xi H ag;exact Xc (Xd (Xe (G aa ab ac) Z (Xf (G aa ab ac) Z (Xf (vb true) Z (Xb (Xk ⟨[G aa ab ac, vb true], ⟨_, Z, ⟨_, Z, Z⟩⟩, b, true, aa, ab, ac, Z, H, ad.gr.g0, (af.st ad.st)⟩))))))
 have H := Xj H ag;refine Xc (Xd (Xe (G aa ab ac) Z (Xe (G A1 n2 c3) Z ?_)));refine Xs go163 (F90.calls H ad.ok (af.st ad.st) (hp4.st ad.st)) Z ?_;rintro _ am ⟨r2, rfl, H, an⟩;have ae := ad.k0 an;refine Xf (vb r2) Z (Xb ?_);refine Xu r2 Z (fun ah => ?_) (fun ah => ?_)
 ·have H := Xi H ah;exact Xc (Xd (Xe (G A6 n7 c8) Z (Xf (G A6 n7 c8) Z (Xf (vb true) Z (Xb (Xk ⟨[G A6 n7 c8, vb true], ⟨_, Z, ⟨_, Z, Z⟩⟩, a, true, A6, n7, c8, Z, H, ae.gr.g0, (hp9.st ae.st)⟩))))))
 have H := Xj H ah;refine Xc (Xd (Xe (G A6 n7 c8) Z (Xe (G aa ab ac) Z ?_)));refine Xs go163 (F90.calls H ae.ok (hp9.st ae.st) (af.st ae.st)) Z ?_;rintro _ ap ⟨r3, rfl, H, ao⟩;have ai := ae.k0 ao;refine Xf (vb r3) Z (Xb ?_);refine Xu r3 Z (fun aj => ?_) (fun aj => ?_)
 ·have H := Xi H aj;exact Xc (Xd (Xe (G A6 n7 c8) Z (Xf (G A6 n7 c8) Z (Xf (vb true) Z (Xb (Xk ⟨[G A6 n7 c8, vb true], ⟨_, Z, ⟨_, Z, Z⟩⟩, a, true, A6, n7, c8, Z, H, ai.gr.g0, (hp9.st ai.st)⟩))))))
 have H := Xj H aj;exact Xz (Xc (Xd (Xf (G none 0 0) Z (Xf (vb false) Z (Xb (Xk ⟨[G none 0 0, vb false], ⟨_, Z, ⟨_, Z, Z⟩⟩, [], false, none, 0, 0, Z, H, ai.gr.g0, (Sl.nil _ _ _ none 0 RD)⟩))))))
def F78.E (base_ a b : List Pt) (Q : List Pt → Bool → Prop) : Prop :=
 F60.E base_ a (fun r => F60.E base_ b (fun r2 => (∃ (I95 : (List Pt) → Int → Int → Int → Int → Prop) (mu96 : (List Pt) → Int → Int → Int → Int → Nat), I95 [] 0 0 0 0 ∧ ∀ (xs2 : List Pt) (o2 x2 y2 i2 : Int), I95 xs2 o2 x2 y2 i2 → (if decide (i2 ≤ (base_.length : Int)) then (if decide (i2 < (base_.length : Int)) then F142.E r i2 (fun r3 => F142.E r2 i2 (fun r4 => (if decide (r3 < 0) then (-9223372036854775808 ≤ i2) ∧ I95 xs2 o2 x2 y2 (i2 + 1) ∧ mu96 xs2 o2 x2 y2 (i2 + 1) < mu96 xs2 o2 x2 y2 i2 else (if decide (r4 < 0) then (-9223372036854775808 ≤ i2) ∧ I95 xs2 o2 x2 y2 (i2 + 1) ∧ mu96 xs2 o2 x2 y2 (i2 + 1) < mu96 xs2 o2 x2 y2 i2 else ((0 : Int) ≤ o2 ∧ (o2 : Int) ≤ i2 ∧ i2 ≤ (base_.length : Int)) ∧ ((0 : Int) ≤ x2 ∧ (x2 : Int) ≤ r3 ∧ r3 ≤ (a.length : Int)) ∧ ((0 : Int) ≤ y2 ∧ (y2 : Int) ≤ r4 ∧ r4 ≤ (b.length : Int)) ∧ F112.E ((base_.drop o2.toNat).take (i2.toNat - o2.toNat)) ((a.drop x2.toNat).take (r3.toNat - x2.toNat)) ((b.drop y2.toNat).take (r4.toNat - y2.toNat)) (fun r5 r6 => (if !r6 then Q [] false else (xs2.length + r5.length ≤ 268435456) ∧ ((0 : Int) ≤ i2 ∧ i2 < (base_.length : Int)) ∧ ((xs2 ++ r5).length + ([(nth base_ i2)] : List Pt).length ≤ 268435456) ∧ (-9223372036854775808 ≤ i2) ∧ ((base_.length : Int) ≤ 9223372036854775807 → (a.length : Int) ≤ 9223372036854775807 → (b.length : Int) ≤ 9223372036854775807 → I64 (r3 + 1)) ∧ ((base_.length : Int) ≤ 9223372036854775807 → (a.length : Int) ≤ 9223372036854775807 → (b.length : Int) ≤ 9223372036854775807 → I64 (r4 + 1)) ∧ (-9223372036854775808 ≤ i2) ∧ I95 ((xs2 ++ r5) ++ ([(nth base_ i2)] : List Pt)) (i2 + 1) (r3 + 1) (r4 + 1) (i2 + 1) ∧ mu96 ((xs2 ++ r5) ++ ([(nth base_ i2)] : List Pt)) (i2 + 1) (r3 + 1) (r4 + 1) (i2 + 1) < mu96 xs2 o2 x2 y2 i2)))))) else ((0 : Int) ≤ o2 ∧ (o2 : Int) ≤ i2 ∧ i2 ≤ (base_.length : Int)) ∧ ((0 : Int) ≤ x2 ∧ (x2 : Int) ≤ (a.length : Int) ∧ (a.length : Int) ≤ (a.length : Int)) ∧ ((0 : Int) ≤ y2 ∧ (y2 : Int) ≤ (b.length : Int) ∧ (b.length : Int) ≤ (b.length : Int)) ∧ F112.E ((base_.drop o2.toNat).take (i2.toNat - o2.toNat)) ((a.drop x2.toNat).take ((a.length : Int).toNat - x2.toNat)) ((b.drop y2.toNat).take ((b.length : Int).toNat - y2.toNat)) (fun r7 r8 => (if !r8 then Q [] false else (xs2.length + r7.length ≤ 268435456) ∧ ((base_.length : Int) ≤ 9223372036854775807 → (a.length : Int) ≤ 9223372036854775807 → (b.length : Int) ≤ 9223372036854775807 → I64 (i2 + 1)) ∧ ((base_.length : Int) ≤ 9223372036854775807 → (a.length : Int) ≤ 9223372036854775807 → (b.length : Int) ≤ 9223372036854775807 → I64 ((a.length : Int) + 1)) ∧ ((base_.length : Int) ≤ 9223372036854775807 → (a.length : Int) ≤ 9223372036854775807 → (b.length : Int) ≤ 9223372036854775807 → I64 ((b.length : Int) + 1)) ∧ ((base_.length : Int) ≤ 9223372036854775807 → (a.length : Int) ≤ 9223372036854775807 → (b.length : Int) ≤ 9223372036854775807 → I64 (i2 + 1)) ∧ I95 (xs2 ++ r7) (i2 + 1) ((a.length : Int) + 1) ((b.length : Int) + 1) (i2 + 1) ∧ mu96 (xs2 ++ r7) (i2 + 1) ((a.length : Int) + 1) ((b.length : Int) + 1) (i2 + 1) < mu96 xs2 o2 x2 y2 i2))) else Q xs2 true))))
theorem F78.calls {base_ : List Pt} {A1 : Option Addr} {n2 c3 : Nat} {a : List Pt} {A6 : Option Addr} {n7 c8 : Nat} {b : List Pt} {ae : Option Addr} {af ag : Nat} {Q : List Pt → Bool → Prop} (H : F78.E base_ a b Q) (hO : Ok w0 O) (hp4 : Sl kPt w0 (Fr O) (G A1 n2 c3) base_) (hp9 : Sl kPt w0 (Fr O) (G A6 n7 c8) a) (cl : Sl kPt w0 (Fr O) (G ae af ag) b) :
  Ret Tryz.prog 152 [G A1 n2 c3, G A6 n7 c8, G ae af ag] w0 (fun v w' => ∃ (r0 : List Pt) (r1 : Bool) (Aw0 : Option Addr) (nw0 cw0 : Nat), v = .tuple #[G Aw0 nw0 cw0, vb r1] ∧ Q r0 r1 ∧ Gk w0 w' [bk Aw0] O (Ow kPt 49 w' ([bk Aw0] ++ O) (G Aw0 nw0 cw0) r0)) := by
 unfold F78.E at H;have hc0 := Ct.init hO;refine Yd Tryz.func152 Z 91 Z [.tmp 6, .tmp 7] Z Z ?_;refine Xc (Xd (Xf (G none 0 0) Z (Xf (vb false) Z (Xb (Xc (Xd (Xe (G A1 n2 c3) Z (Xe (G A6 n7 c8) Z ?_))))))));refine Xs go171 (F60.calls H hc0.ok hp4 hp9) Z ?_;rintro _ du ⟨r, ab, a2, a3, rfl, H, dv, dw, dx, dy⟩;have bo := hc0.owns dv dw dx;refine Xf (G ab a2 a3) Z (Xb (Xc (Xd (Xe (G A1 n2 c3) Z (Xe (G ae af ag) Z ?_)))));refine Xs go171 (F60.calls H bo.ok (hp4.st bo.st) (cl.st bo.st)) Z ?_;rintro _ g4 ⟨r2, ac, a4, a5, rfl, H, cm, dz, cn, d0⟩;have d1 := bo.owns cm dz cn;refine Xf (G ac a4 a5) Z (Xb (Xc (Xd (X7 (kd := kPt) Ye d1 ([] : List Pt) (cells := []) Z RF fun g5 co cp cq cr hr43 bp d2 => ?_))));refine Xf (G co cp cq) Z (Xb (Xc (Xd (Xf (vi 0) Z (Xb (Xc (Xd (Xf (vi 0) Z ?_))))))));refine Xb (Xc (Xd (Xf (vi 0) Z (Xb (Xc (Xc (Xd (Xf (vi 0) Z ?_))))))));refine Xb (X8 ?_);obtain ⟨d3, d4, bv, H⟩ := H;have d5 := ((dy.sos cm cn).so _ cr hr43);have d6 := (d0.so _ cr hr43);refine Ys (α := (List Pt) × (Option Addr) × Nat × Nat × Int × Int × Int × Int) (fun (xs2, aa, ah, ai, o2, x2, y2, i2) t ao => d3 xs2 o2 x2 y2 i2 ∧ Has t [(0, G A1 n2 c3), (1, G A6 n7 c8), (2, G ae af ag), (8, G ab a2 a3), (9, G ac a4 a5), (10, G aa ah ai), (11, vi o2), (12, vi x2), (13, vi y2), (14, vi i2)] ∧ Cw [] w0 ao [bk aa, bk ac, bk ab] O fun M => Sl kPt ao (Fr M) (G A1 n2 c3) base_ ∧ Sl kPt ao (Fr M) (G A6 n7 c8) a ∧ Sl kPt ao (Fr M) (G ae af ag) b ∧ Ow kPair 173 ao M (G ab a2 a3) r ∧ Ow kPair 173 ao M (G ac a4 a5) r2 ∧ Ow kPt 49 ao M (G aa ah ai) xs2) (fun (xs2, _, _, _, o2, x2, y2, i2) => d4 xs2 o2 x2 y2 i2) (([] : List Pt), co, cp, cq, 0, 0, 0, 0) ⟨bv, (Xt Z), bp, (hp4.st bp.st), (hp9.st bp.st), (cl.st bp.st), d5, d6, d2⟩ ?_;rintro ⟨xs2, aa, ah, ai, o2, x2, y2, i2⟩ _ ao ⟨bv, d7, am, ar, au, av, be, bf, bg⟩;obtain ⟨g6, rfl⟩ := Has.ins d7;have H := H xs2 o2 x2 y2 i2 bv;refine Xc (Xc (Xd (Xe (vi i2) Z (Xe (G A1 n2 c3) Z ?_))));have an := ar.le;refine Xa (X4 u39_ A1 n2 c3 ar.len Z) (Xa (Xx i2 (base_.length : Int) (decide (i2 ≤ (base_.length : Int))) Z Z Z) (Xb ?_));refine Xu (decide (i2 ≤ (base_.length : Int))) Z (fun bw => ?_) (fun bw => ?_)
 ·have H := Xi H bw;refine Xz (Xc (X8 (Xc (Xd (Xe (G A6 n7 c8) Z ?_)))));have a6 := au.le;refine Xa (X4 u39_ A6 n7 c8 au.len Z) (Xf (vi (a.length : Int)) Z (Xb (Xc (Xd (Xe (G ae af ag) Z ?_)))));have a7 := av.le;refine Xa (X4 u39_ ae af ag av.len Z) (Xf (vi (b.length : Int)) Z (Xb (Xc (Xc (Xd (Xe (vi i2) Z (Xe (G A1 n2 c3) Z (Xa (X4 u39_ A1 n2 c3 ar.len Z) ?_))))))));refine Xa (Xx i2 (base_.length : Int) (decide (i2 < (base_.length : Int))) Z Z Z) (Xb ?_);refine Xu (decide (i2 < (base_.length : Int))) Z (fun ap => ?_) (fun ap => ?_)
  ·have H := Xi H ap;refine Xc (Xd (Xe (G ab a2 a3) Z (Xe (vi i2) Z ?_)));have d8 := am.gv be 2 Z;have d9 := am.drop 2 Z;refine Xs go172 (F142.calls H d9.ok d8) Z ?_;rintro _ ea ⟨r3, rfl, H, ad⟩;have a8 := am.k0 ad;refine Xf (vi r3) Z (Xb (Xc (Xd (Xe (G ac a4 a5) Z (Xe (vi i2) Z ?_)))));have eb := (bf.sn ad);have ec := a8.gv eb 1 Z;have ed := a8.drop 1 Z;refine Xs go172 (F142.calls H ed.ok ec) Z ?_;rintro _ g7 ⟨r4, rfl, H, aj⟩;have bq := a8.k0 aj;refine Xf (vi r4) Z (Xb (Xc (Xd (Xe (vi r3) Z (Xa (Xx r3 0 (decide (r3 < 0)) Z Z Z) (Xe (vb (decide (r3 < 0))) Z ?_))))));rcases Yb (decide (r3 < 0)) with aq | aq
   ·have H := Xi H aq;refine Xn aq Z (Xn aq Z (Xa (Xv true (vb true) aq Z) (Xb (Yp (b := true) Z Z ?_))));refine Ym (xin_hit ?_);refine Xd (Xe (vi i2) Z ?_);obtain ⟨ee, H⟩ := H;have ef : I64 (i2 + 1) := i64_succ (of_decide_eq_true ap) an ee;refine Xa (X6 i2 1 Z Z ef) (Xf (vi (i2 + 1)) Z (Xb ?_));obtain ⟨eg, eh⟩ := H;have bx := am.stn ad;have bz := a8.stn aj;have ei := ((ar.st bx).st bz);have ej := ((au.st bx).st bz);have ek := ((av.st bx).st bz);have el := ((be.sn ad).sn aj);have em := ((bf.sn ad).sn aj);have en := ((bg.sn ad).sn aj);exact ⟨(xs2, aa, ah, ai, o2, x2, y2, i2 + 1), eh, eg, (Xt Z), bq, ei, ej, ek, el, em, en⟩
   have H := Xj H aq;refine Xl aq Z (Xe (vi r4) Z (Xl aq Z (Xa (Xx r4 0 (decide (r4 < 0)) Z Z Z) (Xa (Xv false (vb (decide (r4 < 0))) aq Z) (Xb ?_)))));refine Xu (decide (r4 < 0)) Z (fun b0 => ?_) (fun b0 => ?_)
   ·have H := Xi H b0;refine Ym (xin_hit ?_);refine Xd (Xe (vi i2) Z ?_);obtain ⟨eo, H⟩ := H;have ep : I64 (i2 + 1) := i64_succ (of_decide_eq_true ap) an eo;refine Xa (X6 i2 1 Z Z ep) (Xf (vi (i2 + 1)) Z (Xb ?_));obtain ⟨eq, er⟩ := H;have b1 := am.stn ad;have b2 := a8.stn aj;have es := ((ar.st b1).st b2);have et := ((au.st b1).st b2);have eu := ((av.st b1).st b2);have ev := ((be.sn ad).sn aj);have ew := ((bf.sn ad).sn aj);have ex := ((bg.sn ad).sn aj);exact ⟨(xs2, aa, ah, ai, o2, x2, y2, i2 + 1), er, eq, (Xt Z), bq, es, et, eu, ev, ew, ex⟩
   have H := Xj H b0;refine Xz (Xc (Yy 18 [] RK Z fun ey bh ak => ?_));have b3 := bq.k0 bh;refine Xo 0 Z RK ak (Yc (G A1 n2 c3) Z) ?_;refine Xo 1 Z RK ak (Yc (vi o2) Z) ?_;refine Xo 2 Z RK ak (Yc (vi i2) Z) ?_;obtain ⟨ez, H⟩ := H;have b4 := am.stn ad;have b5 := a8.stn aj;have b6 := bq.stn bh;have cs := (((ar.st b4).st b5).st b6);refine Ze 3 Z RK ak u39_ Yh A1 n2 c3 base_ Z cs o2 i2 Z Z ez fun ct cu cv e0 => ?_;refine Xo 4 Z RK ak (Yc (G A6 n7 c8) Z) ?_;refine Xo 5 Z RK ak (Yc (vi x2) Z) ?_;refine Xo 6 Z RK ak (Yc (vi r3) Z) ?_;obtain ⟨e1, H⟩ := H;have cw := (((au.st b4).st b5).st b6);refine Ze 7 Z RK ak u39_ Yh A6 n7 c8 a Z cw x2 r3 Z Z e1 fun cx cy cz e2 => ?_;refine Xo 8 Z RK ak (Yc (G ae af ag) Z) ?_;refine Xo 9 Z RK ak (Yc (vi y2) Z) ?_;refine Xo 10 Z RK ak (Yc (vi r4) Z) ?_;obtain ⟨e3, H⟩ := H;have c0 := (((av.st b4).st b5).st b6);refine Ze 11 Z RK ak u39_ Yh ae af ag b Z c0 y2 r4 Z Z e3 fun c1 c2 c4 e4 => ?_;refine Xq 12 RK Z ?_;refine Xs go173 (F112.calls H b3.ok e0 e2 e4) Z ?_;rintro _ e5 ⟨r5, r6, aw, ax, ay, rfl, H, a9, e6⟩;have br := b3.k0 a9;have ba := Gm.tm ak a9;refine Xb ⟨ba, ?_⟩;refine Xo 13 Z RK ba (Yc (.tuple #[G aw ax ay, vb r6]) Z) ?_;refine Xo 14 Z RK ba (Yo [G aw ax ay, vb r6] 0 (G aw ax ay) Z Z) ?_;refine Xo 15 Z RK ba (Yo [G aw ax ay, vb r6] 1 (vb r6) Z Z) ?_;refine Xo 16 Z RK ba (Y7 (G aw ax ay) Z) ?_;refine Xo 17 Z RK ba (Y7 (vb r6) Z) ?_;refine Yg RK ?_;refine Xc (Xc (Xd (Xe (vb r6) Z (Xa (Yr r6 Z) (Xb ?_)))));refine Xu (!r6) Z (fun b7 => ?_) (fun b7 => ?_)
   ·have H := Xi H b7;refine Xc ?_;have e7 : ([bk aa, bk ac, bk ab] : Ob).Perm ((bk aa :: bk ac :: bk ab :: []) ++ []) := RP;have e8 := br.drops e7;refine Xd (Xf (G none 0 0) Z (Xf (vb false) Z (Xb (Xk ?_))));have b8 := e8.own (Gr.refl _ none) none (by simp);have e9 : Ow kPt 49 e5 ([bk none] ++ O) (G none 0 0) [] := Ow.nil _ _ _ _;exact ⟨[G none 0 0, vb false], ⟨_, Z, ⟨_, Z, Z⟩⟩, ([] : List Pt), false, none, 0, 0, Z, H, b8.gr.g0, b8.ok, b8.ge, e9⟩
   have H := Xj H b7;refine Xz (Xc (Xd (Xe (G aa ah ai) Z (Xe (G aw ax ay) Z ?_))));obtain ⟨fa, H⟩ := H;have fb := ((((bg.sn ad).sn aj).sn bh).sn a9);refine Yf Ye br (G aa ah ai) xs2 r5 Z fb (G aw ax ay) Z e6.sx 0 Z fa fun g8 b9 ca cb c5 bi c6 fc => ?_;refine Xf (G b9 ca cb) Z (Xb (Xc (Xc (Xd (Xe (vi i2) Z (Xe (G A1 n2 c3) Z ?_))))));have cc := b3.stn a9;have bs := ((cs.st cc).st bi);refine Xa (X4 u39_ A1 n2 c3 bs.len Z) (Xa (Xx i2 (base_.length : Int) (decide (i2 < (base_.length : Int))) Z Z Z) (Xb (Yp (b := decide (i2 < (base_.length : Int))) Z ap ?_)));refine Xd (Xe (G b9 ca cb) Z (Xe (G A1 n2 c3) Z (Xe (vi i2) Z ?_)));obtain ⟨c7, H⟩ := H;obtain ⟨c9, g9, fd, ha, fe, ff⟩ := bs.get default RD i2 c7;obtain rfl := kPt.op fe;refine Xa (X3 u39_ Yh A1 c9 n2 c3 bs.len i2 Z fd Z c7) (Xa (Xr ag49 sz49 cL (c9.add (i2.toNat * 2)) [vi ((nth base_ i2).X), vi ((nth base_ i2).Y)] Z Z ff) (X7 (kd := kPt) Ye c6 ([(nth base_ i2)] : List Pt) (cells := [vi ((nth base_ i2).X), vi ((nth base_ i2).Y)]) ⟨[vi ((nth base_ i2).X), vi ((nth base_ i2).Y)], _, Z, (kPt.mk _ _ (nth base_ i2)), Z⟩ RF fun hb fg fh fi bt hr224 cd fj => ?_));obtain ⟨fk, H⟩ := H;have fl := (fc.so _ bt hr224);refine Yf Ye cd (G b9 ca cb) (xs2 ++ r5) ([(nth base_ i2)] : List Pt) Z fl (G fg fh fi) Z fj.sx 1 Z fk fun hc da db dc dd bj bl fm => ?_;refine Xf (G da db dc) Z (Xb (Xc (Xd (Xe (vi i2) Z ?_))));obtain ⟨fn, H⟩ := H;have fo : I64 (i2 + 1) := i64_succ (of_decide_eq_true ap) an fn;refine Xa (X6 i2 1 Z Z fo) (Xf (vi (i2 + 1)) Z (Xb (Xc (Xd (Xe (vi r3) Z ?_)))));obtain ⟨fp, H⟩ := H;have fq := fp (len_le an) (len_le a6) (len_le a7);refine Xa (X6 r3 1 Z Z fq) (Xf (vi (r3 + 1)) Z (Xb (Xd (Xe (vi r4) Z ?_))));obtain ⟨fr, H⟩ := H;have fs := fr (len_le an) (len_le a6) (len_le a7);refine Xa (X6 r4 1 Z Z fs) (Xf (vi (r4 + 1)) Z (Xb (Xd (Xe (vi i2) Z ?_))));obtain ⟨ft, H⟩ := H;have fu : I64 (i2 + 1) := i64_succ (of_decide_eq_true ap) an ft;refine Xa (X6 i2 1 Z Z fu) (Xf (vi (i2 + 1)) Z (Xb ?_));have fv := bl.drop 0 Z;obtain ⟨fw, fx⟩ := H;have ce := c6.stown _ bt hr224;have cf := bl.std 0 Z;have fy := (((bs.st ce).st bj).st cf);have fz := (((((cw.st cc).st bi).st ce).st bj).st cf);have f0 := (((((c0.st cc).st bi).st ce).st bj).st cf);have f1 := (bl.sd (cd.sm ((br.sm ((((be.sn ad).sn aj).sn bh).sn a9) 2 0 Z Z Z c5 bi).so _ bt hr224) 3 1 Z Z Z dd bj) 3 0 Z Z Z);have f2 := (bl.sd (cd.sm ((br.sm ((((bf.sn ad).sn aj).sn bh).sn a9) 1 0 Z Z Z c5 bi).so _ bt hr224) 2 1 Z Z Z dd bj) 2 0 Z Z Z);have f3 := (bl.sd fm 1 0 Z Z Z);exact ⟨(((xs2 ++ r5) ++ ([(nth base_ i2)] : List Pt)), da, db, dc, i2 + 1, r3 + 1, r4 + 1, i2 + 1), fx, fw, (Xt Z), fv, fy, fz, f0, f1, f2, f3⟩
  have H := Xj H ap;refine Xz (Xc (Yy 18 [] RK Z fun f4 bm al => ?_));have cg := am.k0 bm;refine Xo 0 Z RK al (Yc (G A1 n2 c3) Z) ?_;refine Xo 1 Z RK al (Yc (vi o2) Z) ?_;refine Xo 2 Z RK al (Yc (vi i2) Z) ?_;obtain ⟨f5, H⟩ := H;have bb := am.stn bm;refine Ze 3 Z RK al u39_ Yh A1 n2 c3 base_ Z (ar.st bb) o2 i2 Z Z f5 fun de df dg f6 => ?_;refine Xo 4 Z RK al (Yc (G A6 n7 c8) Z) ?_;refine Xo 5 Z RK al (Yc (vi x2) Z) ?_;refine Xo 6 Z RK al (Yc (vi (a.length : Int)) Z) ?_;obtain ⟨f7, H⟩ := H;refine Ze 7 Z RK al u39_ Yh A6 n7 c8 a Z (au.st bb) x2 (a.length : Int) Z Z f7 fun dh di dj f8 => ?_;refine Xo 8 Z RK al (Yc (G ae af ag) Z) ?_;refine Xo 9 Z RK al (Yc (vi y2) Z) ?_;refine Xo 10 Z RK al (Yc (vi (b.length : Int)) Z) ?_;obtain ⟨f9, H⟩ := H;refine Ze 11 Z RK al u39_ Yh ae af ag b Z (av.st bb) y2 (b.length : Int) Z Z f9 fun dk dl dm ga => ?_;refine Xq 12 RK Z ?_;refine Xs go173 (F112.calls H cg.ok f6 f8 ga) Z ?_;rintro _ gb ⟨r7, r8, az, a0, a1, rfl, H, bc, gc⟩;have bu := cg.k0 bc;have bd := Gm.tm al bc;refine Xb ⟨bd, ?_⟩;refine Xo 13 Z RK bd (Yc (.tuple #[G az a0 a1, vb r8]) Z) ?_;refine Xo 14 Z RK bd (Yo [G az a0 a1, vb r8] 0 (G az a0 a1) Z Z) ?_;refine Xo 15 Z RK bd (Yo [G az a0 a1, vb r8] 1 (vb r8) Z Z) ?_;refine Xo 16 Z RK bd (Y7 (G az a0 a1) Z) ?_;refine Xo 17 Z RK bd (Y7 (vb r8) Z) ?_;refine Yg RK ?_;refine Xc (Xc (Xd (Xe (vb r8) Z (Xa (Yr r8 Z) (Xb ?_)))));refine Xu (!r8) Z (fun ch => ?_) (fun ch => ?_)
  ·have H := Xi H ch;refine Xc ?_;have gd : ([bk aa, bk ac, bk ab] : Ob).Perm ((bk aa :: bk ac :: bk ab :: []) ++ []) := RP;have gf := bu.drops gd;refine Xd (Xf (G none 0 0) Z (Xf (vb false) Z (Xb (Xk ?_))));have ci := gf.own (Gr.refl _ none) none (by simp);have gg : Ow kPt 49 gb ([bk none] ++ O) (G none 0 0) [] := Ow.nil _ _ _ _;exact ⟨[G none 0 0, vb false], ⟨_, Z, ⟨_, Z, Z⟩⟩, ([] : List Pt), false, none, 0, 0, Z, H, ci.gr.g0, ci.ok, ci.ge, gg⟩
  have H := Xj H ch;refine Xz (Xc (Xd (Xe (G aa ah ai) Z (Xe (G az a0 a1) Z ?_))));obtain ⟨gh, H⟩ := H;have gi := ((bg.sn bm).sn bc);refine Yf Ye bu (G aa ah ai) xs2 r7 Z gi (G az a0 a1) Z gc.sx 0 Z gh fun hd dn dp dq dr bn gj gk => ?_;refine Xf (G dn dp dq) Z (Xb (Xc (Xc (Xd (Xe (vi i2) Z (Xe (G A1 n2 c3) Z ?_))))));have cj := cg.stn bc;have ds := (((ar.st bb).st cj).st bn);refine Xa (X4 u39_ A1 n2 c3 ds.len Z) (Xa (Xx i2 (base_.length : Int) (decide (i2 < (base_.length : Int))) Z Z Z) (Xb (Y4 (b := decide (i2 < (base_.length : Int))) Z ap ?_)));refine Xz (Xc (Xd (Xe (vi i2) Z ?_)));obtain ⟨gl, H⟩ := H;have gm := gl (len_le an) (len_le a6) (len_le a7);refine Xa (X6 i2 1 Z Z gm) (Xf (vi (i2 + 1)) Z (Xb (Xc (Xd (Xe (vi (a.length : Int)) Z ?_)))));obtain ⟨gn, H⟩ := H;have gp := gn (len_le an) (len_le a6) (len_le a7);refine Xa (X6 (a.length : Int) 1 Z Z gp) (Xf (vi ((a.length : Int) + 1)) Z (Xb (Xd (Xe (vi (b.length : Int)) Z ?_))));obtain ⟨gq, H⟩ := H;have gs := gq (len_le an) (len_le a6) (len_le a7);refine Xa (X6 (b.length : Int) 1 Z Z gs) (Xf (vi ((b.length : Int) + 1)) Z (Xb (Xd (Xe (vi i2) Z ?_))));obtain ⟨gt, H⟩ := H;have gu := gt (len_le an) (len_le a6) (len_le a7);refine Xa (X6 i2 1 Z Z gu) (Xf (vi (i2 + 1)) Z (Xb ?_));obtain ⟨gw, gx⟩ := H;have gy := (((au.st bb).st cj).st bn);have gz := (((av.st bb).st cj).st bn);have g1 := (bu.sm ((be.sn bm).sn bc) 2 0 Z Z Z dr bn);have g2 := (bu.sm ((bf.sn bm).sn bc) 1 0 Z Z Z dr bn);exact ⟨((xs2 ++ r7), dn, dp, dq, i2 + 1, (a.length : Int) + 1, (b.length : Int) + 1, i2 + 1), gx, gw, (Xt Z), gj, ds, gy, gz, g1, g2, gk⟩
 have H := Xj H bw;refine Ym (xin_hit ?_);refine Xc (Xd (Xe (G aa ah ai) Z (Xf (G aa ah ai) Z (Xf (vb true) Z (Xb (Xk ?_))))));have dt := am.drop 1 Z;have ck := dt.drop 1 Z;have g3 := (dt.sd (am.sd bg 0 1 Z Z Z) 0 1 Z Z Z);exact ⟨[G aa ah ai, vb true], ⟨_, Z, ⟨_, Z, Z⟩⟩, xs2, true, aa, ah, ai, Z, H, ck.gr.g0, ck.ok, ck.ge, g3⟩
def F79.E (o a b : Shape) (Q : Shape → Bool → Prop) : Prop :=
 F37.E a o (fun r => (if r then Q b true else F37.E b o (fun r2 => (if r2 then Q a true else F37.E a b (fun r3 => (if r3 then Q a true else (if a.Kind != b.Kind then Q a false else (if a.Kind != o.Kind then Q a false else F78.E o.Pts a.Pts b.Pts (fun r4 r5 => (if !r5 then Q a false else F68.E (⟨a.Kind, r4⟩ : Shape) (fun r6 => (if !r6 then Q a false else Q (⟨a.Kind, r4⟩ : Shape) true))))))))))))
theorem F79.calls {o : Shape} {A1 : Option Addr} {n2 c3 : Nat} {a : Shape} {A6 : Option Addr} {n7 c8 : Nat} {b : Shape} {ab : Option Addr} {ac ad : Nat} {Q : Shape → Bool → Prop} (H : F79.E o a b Q) (hO : Ok w0 O) (hp4 : Sl kPt w0 (Fr O) (G A1 n2 c3) o.Pts) (hp9 : Sl kPt w0 (Fr O) (G A6 n7 c8) a.Pts) (a5 : Sl kPt w0 (Fr O) (G ab ac ad) b.Pts) :
  Ret Tryz.prog 123 [.agg #[vi o.Kind, G A1 n2 c3], .agg #[vi a.Kind, G A6 n7 c8], .agg #[vi b.Kind, G ab ac ad]] w0 (fun v w' => ∃ (r0 : Shape) (r1 : Bool) (Aw0 : Option Addr) (nw0 cw0 : Nat), v = .tuple #[.agg #[vi r0.Kind, G Aw0 nw0 cw0], vb r1] ∧ Q r0 r1 ∧ Gr w0 w' none ∧ Sl kPt w' (Fr O) (G Aw0 nw0 cw0) r0.Pts) := by
 unfold F79.E at H;have hc0 := Ct.init hO;refine Yd Tryz.func123 Z 63 Z [.cell 6 41, .tmp 7] Z Z ?_;refine Xc (Xd (Yk [vi o.Kind, G A1 n2 c3] Z fun ev aq co hu20 cp cq => ?_));have cr := Fb.mk hc0.ok co cq;have a9 := hc0.k0 cp;refine Yk [vi a.Kind, G A6 n7 c8] Z fun ew aa cs hu29 bq ct => ?_;have cu := Fb.mk a9.ok cs ct;have ba := a9.k0 bq;refine Yk [vi b.Kind, G ab ac ad] Z fun ex am cv hu38 br cw => ?_;have bs := Fb.mk ba.ok cv cw;have bt := ba.k0 br;refine Ya [.int .i64 0, G none 0 0] ze41 fun cx an bu hu47 bv ar => ?_;have az := bt.own bv (some an) (X9 bu hu47);refine Xf (vb false) Z (Xb (Xc (X8 (Xc (Xd ?_)))));have bw := ba.stn br;have a6 := bt.stown _ bv (Xg bu);have bb := ((cu.st bw).st a6);refine Xa (Xr ag41 sz41 cL (Ad aa 0) [vi a.Kind, G A6 n7 c8] Z Z (bb.cells (off := 00) Z)) ?_;have cy := a9.stn bq;have bx := (((cr.st cy).st bw).st a6);refine Xa (Xr ag41 sz41 cL (Ad aq 0) [vi o.Kind, G A1 n2 c3] Z Z (bx.cells (off := 00) Z)) ?_;refine Xs go131 (F37.calls H az.ok (hp9.st az.st) (hp4.st az.st)) Z ?_;rintro _ cz ⟨r, rfl, H, ai⟩;have ax := az.k0 ai;refine Xf (vb r) Z (Xb ?_);refine Xu r Z (fun bc => ?_) (fun bc => ?_)
 ·have H := Xi H bc;refine Xc (Xd ?_);have c0 := az.stn ai;have c1 := ((bs.st a6).st c0);refine Xa (Xr ag41 sz41 cL (Ad am 0) [vi b.Kind, G ab ac ad] Z Z (c1.cells (off := 00) Z)) ?_;have c2 := (ar.k0 ai);refine Xw [vi b.Kind, G ab ac ad] c2 Z Z sz41 Z Z fun ey c4 c5 => ?_;have bz := ax.wr 0 Z c4;refine Xf (vb true) Z (Xb (Xk ?_));have c6 := bz.bgv c5 0 Z;have b0 := bz.drop 0 Z;exact ⟨[.agg #[vi b.Kind, G ab ac ad], vb true], ⟨_, _, Z, c6.1.res Z ag41 sz41, ⟨_, Z, Z⟩⟩, b, true, ab, ac, ad, Z, H, b0.gr.g0, (a5.st b0.st)⟩
 have H := Xj H bc;refine Xc (Xd ?_);have a7 := az.stn ai;have b1 := ((bs.st a6).st a7);refine Xa (Xr ag41 sz41 cL (Ad am 0) [vi b.Kind, G ab ac ad] Z Z (b1.cells (off := 00) Z)) ?_;have b2 := (bx.st a7);refine Xa (Xr ag41 sz41 cL (Ad aq 0) [vi o.Kind, G A1 n2 c3] Z Z (b2.cells (off := 00) Z)) ?_;refine Xs go131 (F37.calls H ax.ok (a5.st ax.st) (hp4.st ax.st)) Z ?_;rintro _ c7 ⟨r2, rfl, H, al⟩;have ay := ax.k0 al;refine Xe (vb r2) Z ?_;rcases Yb r2 with aj | aj
 ·have H := Xi H aj;refine Xn aj Z (Xn aj Z (Xn aj Z (Xa (Xv true (vb true) aj Z) (Xf (vb true) Z (Xb (Yp (b := true) Z Z ?_))))));refine Xc (Xd ?_);have c9 := ax.stn al;have da := ((bb.st a7).st c9);refine Xa (Xr ag41 sz41 cL (Ad aa 0) [vi a.Kind, G A6 n7 c8] Z Z (da.cells (off := 00) Z)) ?_;have db := ((ar.k0 ai).k0 al);refine Xw [vi a.Kind, G A6 n7 c8] db Z Z sz41 Z Z fun ez dc dd => ?_;have b3 := ay.wr 0 Z dc;refine Xf (vb true) Z (Xb (Xk ?_));have de := b3.bgv dd 0 Z;have b4 := b3.drop 0 Z;exact ⟨[.agg #[vi a.Kind, G A6 n7 c8], vb true], ⟨_, _, Z, de.1.res Z ag41 sz41, ⟨_, Z, Z⟩⟩, a, true, A6, n7, c8, Z, H, b4.gr.g0, (hp9.st b4.st)⟩
 have H := Xj H aj;refine Xl aj Z ?_;have bd := ax.stn al;have be := ((bb.st a7).st bd);refine Xa (Xr ag41 sz41 cL (Ad aa 0) [vi a.Kind, G A6 n7 c8] Z Z (be.cells (off := 00) Z)) (Xl aj Z ?_);have b5 := (b1.st bd);refine Xa (Xr ag41 sz41 cL (Ad am 0) [vi b.Kind, G ab ac ad] Z Z (b5.cells (off := 00) Z)) (Xl aj Z ?_);refine Xs go131 (F37.calls H ay.ok (hp9.st ay.st) (a5.st ay.st)) Z ?_;rintro _ df ⟨r3, rfl, H, ao⟩;have ap := ay.k0 ao;refine Xa (Xv false (vb r3) aj Z) (Xf (vb r3) Z (Xb ?_));refine Xu r3 Z (fun bf => ?_) (fun bf => ?_)
 ·have H := Xi H bf;refine Xc (Xd ?_);have dg := ay.stn ao;have dh := (be.st dg);refine Xa (Xr ag41 sz41 cL (Ad aa 0) [vi a.Kind, G A6 n7 c8] Z Z (dh.cells (off := 00) Z)) ?_;have di := (((ar.k0 ai).k0 al).k0 ao);refine Xw [vi a.Kind, G A6 n7 c8] di Z Z sz41 Z Z fun e0 dj dk => ?_;have b6 := ap.wr 0 Z dj;refine Xf (vb true) Z (Xb (Xk ?_));have dl := b6.bgv dk 0 Z;have b7 := b6.drop 0 Z;exact ⟨[.agg #[vi a.Kind, G A6 n7 c8], vb true], ⟨_, _, Z, dl.1.res Z ag41 sz41, ⟨_, Z, Z⟩⟩, a, true, A6, n7, c8, Z, H, b7.gr.g0, (hp9.st b7.st)⟩
 have H := Xj H bf;refine Xc (Xd (Xa (Xm fa41_0 (Ad aa 0) (Ad aa 0) Z Z) ?_));have bg := ay.stn ao;have a0 := (be.st bg);refine Xa (Xp ag3 cL (Ad aa 0) (vi a.Kind) Z (a0.cell Z)) (Xa (Xm fa41_0 (Ad am 0) (Ad am 0) Z Z) ?_);have b8 := (b5.st bg);refine Xa (Xp ag3 cL (Ad am 0) (vi b.Kind) Z (b8.cell Z)) (Xa (Xx a.Kind b.Kind (a.Kind != b.Kind) Z Z Z) (Xe (vb (a.Kind != b.Kind)) Z ?_));rcases Yb (a.Kind != b.Kind) with ah | ah
 ·have H := Xi H ah;refine Xn ah Z (Xn ah Z (Xn ah Z (Xn ah Z (Xn ah Z (Xa (Xv true (vb true) ah Z) (Xf (vb true) Z (Xb (Yp (b := true) Z Z ?_))))))));refine Xc (Xd (Xa (Xr ag41 sz41 cL (Ad aa 0) [vi a.Kind, G A6 n7 c8] Z Z (a0.cells (off := 00) Z)) ?_));have dm := (((ar.k0 ai).k0 al).k0 ao);refine Xw [vi a.Kind, G A6 n7 c8] dm Z Z sz41 Z Z fun e1 dn dp => ?_;have b9 := ap.wr 0 Z dn;refine Xf (vb false) Z (Xb (Xk ?_));have dq := b9.bgv dp 0 Z;have ca := b9.drop 0 Z;exact ⟨[.agg #[vi a.Kind, G A6 n7 c8], vb false], ⟨_, _, Z, dq.1.res Z ag41 sz41, ⟨_, Z, Z⟩⟩, a, false, A6, n7, c8, Z, H, ca.gr.g0, (hp9.st ca.st)⟩
 have H := Xj H ah;refine Xl ah Z (Xa (Xm fa41_0 (Ad aa 0) (Ad aa 0) Z Z) (Xl ah Z (Xa (Xp ag3 cL (Ad aa 0) (vi a.Kind) Z (a0.cell Z)) (Xl ah Z (Xa (Xm fa41_0 (Ad aq 0) (Ad aq 0) Z Z) (Xl ah Z ?_))))));have cb := ((b2.st bd).st bg);refine Xa (Xp ag3 cL (Ad aq 0) (vi o.Kind) Z (cb.cell Z)) (Xl ah Z (Xa (Xx a.Kind o.Kind (a.Kind != o.Kind) Z Z Z) (Xa (Xv false (vb (a.Kind != o.Kind)) ah Z) (Xf (vb (a.Kind != o.Kind)) Z (Xb ?_)))));refine Xu (a.Kind != o.Kind) Z (fun bh => ?_) (fun bh => ?_)
 ·have H := Xi H bh;refine Xc (Xd (Xa (Xr ag41 sz41 cL (Ad aa 0) [vi a.Kind, G A6 n7 c8] Z Z (a0.cells (off := 00) Z)) ?_));have dr := (((ar.k0 ai).k0 al).k0 ao);refine Xw [vi a.Kind, G A6 n7 c8] dr Z Z sz41 Z Z fun e2 ds dt => ?_;have cc := ap.wr 0 Z ds;refine Xf (vb false) Z (Xb (Xk ?_));have du := cc.bgv dt 0 Z;have cd := cc.drop 0 Z;exact ⟨[.agg #[vi a.Kind, G A6 n7 c8], vb false], ⟨_, _, Z, du.1.res Z ag41 sz41, ⟨_, Z, Z⟩⟩, a, false, A6, n7, c8, Z, H, cd.gr.g0, (hp9.st cd.st)⟩
 have H := Xj H bh;refine Xz (Xc (Xd (Xa (Xm fa41_1 (Ad aq 0) (Ad aq 1) Z Z) (Xa (Xp ag39 cL (Ad aq 1) (G A1 n2 c3) Z (cb.cell Z)) (Xa (Xm fa41_1 (Ad aa 0) (Ad aa 1) Z Z) (Xa (Xp ag39 cL (Ad aa 1) (G A6 n7 c8) Z (a0.cell Z)) (Xa (Xm fa41_1 (Ad am 0) (Ad am 1) Z Z) (Xa (Xp ag39 cL (Ad am 1) (G ab ac ad) Z (b8.cell Z)) ?_))))))));refine Xs go152 (F78.calls H ap.ok (hp4.st ap.st) (hp9.st ap.st) (a5.st ap.st)) Z ?_;rintro _ e3 ⟨r4, r5, ae, af, ag, rfl, H, a2, dv, ce, cf⟩;have bi := ap.owns a2 dv ce;refine Xe (.tuple #[G ae af ag, vb r5]) Z (Xa (Yo [G ae af ag, vb r5] 0 (G ae af ag) Z Z) (Xa (Yo [G ae af ag, vb r5] 1 (vb r5) Z Z) (Xf (G ae af ag) Z (Xf (vb r5) Z (Xb (Xc (Xd (Xa (Xm fa41_0 (Ad aa 0) (Ad aa 0) Z Z) ?_))))))));have dw := ap.stos a2 ce;have bj := (a0.st dw);refine Xa (Xp ag3 cL (Ad aa 0) (vi a.Kind) Z (bj.cell Z)) (Xe (G ae af ag) Z (Xa (Yi (.agg #[vi a.Kind, G ae af ag]) RF) (Ya [.int .i64 0, G none 0 0] ze41 fun e4 a8 a3 hu147 au dx => ?_)));have av := bi.own au (some a8) (X9 a3 hu147);refine Xw [vi a.Kind, G ae af ag] dx Z Z sz41 Z Z fun dy aw cg => ?_;have a4 := av.wr 0 Z aw;refine Xb (Xc (Xc (Xd (Xe (vb r5) Z (Xa (Yr r5 Z) (Xe (vb (!r5)) Z ?_))))));rcases Yb (!r5) with ak | ak
 ·have H := Xi H ak;refine Xn ak Z (Xn ak Z (Xn ak Z (Xa (Xv true (vb true) ak Z) (Xb (Yp (b := true) Z Z ?_)))));refine Xc (Xd ?_);have dz := bi.stown _ au (Xg a3);have d0 := av.stw 0 Z aw;have d1 := ((bj.st dz).st d0);refine Xa (Xr ag41 sz41 cL (Ad aa 0) [vi a.Kind, G A6 n7 c8] Z Z (d1.cells (off := 00) Z)) ?_;have d2 := (av.bm (((((ar.k0 ai).k0 al).k0 ao).k0 a2).k0 au) 2 0 Z Z Z aw);refine Xw [vi a.Kind, G A6 n7 c8] d2 Z Z sz41 Z Z fun e5 d3 d4 => ?_;have ch := a4.wr 2 Z d3;refine Xf (vb false) Z (Xb (Xk ?_));have d5 := ch.bgv d4 2 Z;have d6 := ch.drop 2 Z;have ci := d6.clear;have d7 := (d5.st St.clear);exact ⟨[.agg #[vi a.Kind, G A6 n7 c8], vb false], ⟨_, _, Z, d7.1.res Z ag41 sz41, ⟨_, Z, Z⟩⟩, a, false, A6, n7, c8, Z, H, ci.gr.g0, (hp9.st ci.st)⟩
 have H := Xj H ak;refine Xl ak Z (Xa (Xr ag41 sz41 cL (Ad a8 0) [vi a.Kind, G ae af ag] Z Z (cg.cells (off := 00) Z)) (Xl ak Z ?_));have d8 := (av.sw (cf.so _ au (Xg a3)) 1 0 Z Z Z aw);have d9 := a4.gv d8 1 Z;have ea := a4.drop 1 Z;refine Xs go66 (F68.calls H ea.ok d9) Z ?_;rintro _ e6 ⟨r6, rfl, H, a1⟩;have bl := a4.k0 a1;refine Xl ak Z (Xa (Yr r6 Z) (Xa (Xv false (vb (!r6)) ak Z) (Xb ?_)));refine Xu (!r6) Z (fun bn => ?_) (fun bn => ?_)
 ·have H := Xi H bn;refine Xc (Xd ?_);have eb := bi.stown _ au (Xg a3);have ec := av.stw 0 Z aw;have ed := a4.stn a1;have ee := (((bj.st eb).st ec).st ed);refine Xa (Xr ag41 sz41 cL (Ad aa 0) [vi a.Kind, G A6 n7 c8] Z Z (ee.cells (off := 00) Z)) ?_;have ef := ((av.bm (((((ar.k0 ai).k0 al).k0 ao).k0 a2).k0 au) 2 0 Z Z Z aw).k0 a1);refine Xw [vi a.Kind, G A6 n7 c8] ef Z Z sz41 Z Z fun e7 eg eh => ?_;have cj := bl.wr 2 Z eg;refine Xf (vb false) Z (Xb (Xk ?_));have ei := cj.bgv eh 2 Z;have ej := cj.drop 2 Z;have ck := ej.clear;have ek := (ei.st St.clear);exact ⟨[.agg #[vi a.Kind, G A6 n7 c8], vb false], ⟨_, _, Z, ek.1.res Z ag41 sz41, ⟨_, Z, Z⟩⟩, a, false, A6, n7, c8, Z, H, ck.gr.g0, (hp9.st ck.st)⟩
 have H := Xj H bn;refine Xz (Xc (Xd ?_));have el := (cg.k0 a1);refine Xa (Xr ag41 sz41 cL (Ad a8 0) [vi a.Kind, G ae af ag] Z Z (el.cells (off := 00) Z)) ?_;have em := ((av.bm (((((ar.k0 ai).k0 al).k0 ao).k0 a2).k0 au) 2 0 Z Z Z aw).k0 a1);refine Xw [vi a.Kind, G ae af ag] em Z Z sz41 Z Z fun en cl eo => ?_;have bo := bl.wr 2 Z cl;refine Xf (vb true) Z (Xb (Xk ?_));have ep := bo.bgv eo 2 Z;have bp := bo.drop 2 Z;have eq := (bo.sd (bl.sw ((av.sw (cf.so _ au (Xg a3)) 1 0 Z Z Z aw).sn a1) 1 2 Z Z Z cl) 1 2 Z Z Z);have er := bp.gv eq 1 Z;have cm := bp.drop 1 Z;have es : Ct [] w0 en [] O := cm.drop 0 Z;have et := bp.std 1 Z;have cn := cm.std 0 Z;have eu := ((ep.st et).st cn);exact ⟨[.agg #[vi a.Kind, G ae af ag], vb true], ⟨_, _, Z, eu.1.res Z ag41 sz41, ⟨_, Z, Z⟩⟩, (⟨a.Kind, r4⟩ : Shape), true, ae, af, ag, Z, H, es.gr.g0, (er.st cn)⟩
def F113.E (o a b : List Tag) (Q : List Str → Prop) : Prop :=
 (([] : List Tag).length + o.length ≤ 268435456) ∧ ((([] : List Tag) ++ o).length + a.length ≤ 268435456) ∧ (((([] : List Tag) ++ o) ++ a).length + b.length ≤ 268435456) ∧ (∃ (I88 : (List Tag) → Int → Prop) (mu89 : (List Tag) → Int → Nat), I88 [] 0 ∧ ∀ (xs2 : List Tag) (i2 : Int), I88 xs2 i2 → (if decide (i2 < ((((([] : List Tag) ++ o) ++ a) ++ b).length : Int)) then ((0 : Int) ≤ i2 ∧ i2 < ((((([] : List Tag) ++ o) ++ a) ++ b).length : Int)) ∧ F126.E xs2 ((nth (((([] : List Tag) ++ o) ++ a) ++ b) i2).Key) ([97] : Str) (fun r => (-9223372036854775808 ≤ i2) ∧ I88 r (i2 + 1) ∧ mu89 r (i2 + 1) < mu89 xs2 i2) else (∃ (I163 : (List Str) → Int → Prop) (mu164 : (List Str) → Int → Nat), I163 [] 0 ∧ ∀ (xs4 : List Str) (i4 : Int), I163 xs4 i4 → (if decide (i4 < (xs2.length : Int)) then ((0 : Int) ≤ i4 ∧ i4 < (xs2.length : Int)) ∧ (xs4.length + ([(nth xs2 i4).Key] : List Str).length ≤ 268435456) ∧ (-9223372036854775808 ≤ i4) ∧ I163 (xs4 ++ ([(nth xs2 i4).Key] : List Str)) (i4 + 1) ∧ mu164 (xs4 ++ ([(nth xs2 i4).Key] : List Str)) (i4 + 1) < mu164 xs4 i4 else Q xs4))))
theorem F113.calls {o : List Tag} {A1 : Option Addr} {n2 c3 : Nat} {a : List Tag} {A6 : Option Addr} {n7 c8 : Nat} {b : List Tag} {an : Option Addr} {ao ap : Nat} {Q : List Str → Prop} (H : F113.E o a b Q) (hO : Ok w0 O) (hp4 : Sl kTag w0 (Fr O) (G A1 n2 c3) o) (hp9 : Sl kTag w0 (Fr O) (G A6 n7 c8) a) (bs : Sl kTag w0 (Fr O) (G an ao ap) b) :
  Ret Tryz.prog 124 [G A1 n2 c3, G A6 n7 c8, G an ao ap] w0 (fun v w' => ∃ (r0 : List Str) (Aw0 : Option Addr) (nw0 cw0 : Nat), v = G Aw0 nw0 cw0 ∧ Q r0 ∧ Gk w0 w' [bk Aw0] O (Ow Kd.str 9 w' ([bk Aw0] ++ O) (G Aw0 nw0 cw0) r0)) := by
 unfold F113.E at H;have hc0 := Ct.init hO;refine Yd Tryz.func124 Z 49 Z [.tmp 6] Z Z ?_;refine Xc (Xd (Xf (G none 0 0) Z (Xb (Xc (Xd (X7 (kd := kTag) Yl hc0 ([] : List Tag) (cells := []) Z RF fun dx bt bu bv dy hr21 a6 bw => ?_))))));refine Xe (G A1 n2 c3) Z ?_;obtain ⟨bx, H⟩ := H;refine Yf Yl a6 (G bt bu bv) ([] : List Tag) o Z bw (G A1 n2 c3) Z (hp4.st a6.st).sx 0 Z bx fun dz bz b0 b1 d0 d1 a7 b2 => ?_;refine Xe (G A6 n7 c8) Z ?_;obtain ⟨b3, H⟩ := H;refine Yf Yl a7 (G bz b0 b1) (([] : List Tag) ++ o) a Z b2 (G A6 n7 c8) Z (hp9.st a7.st).sx 0 Z b3 fun d2 b4 b5 b6 d3 d4 a8 b7 => ?_;refine Xe (G an ao ap) Z ?_;obtain ⟨b8, H⟩ := H;refine Yf Yl a8 (G b4 b5 b6) ((([] : List Tag) ++ o) ++ a) b Z b7 (G an ao ap) Z (bs.st a8.st).sx 0 Z b8 fun d5 ab ah ai d6 d7 b9 ca => ?_;refine Xf (G ab ah ai) Z (Xb (Xc (Xd (X7 (kd := kTag) Yl b9 ([] : List Tag) (cells := []) Z RF fun d8 a9 ba bb cb hr60 cc cd => ?_))));refine Xf (G a9 ba bb) Z (Xb (Xc (Xc (Xd (Xf (vi 0) Z (Xb (X8 ?_)))))));obtain ⟨ce, cf, ax, H⟩ := H;have cg := (ca.so _ cb hr60);refine Ys (α := (List Tag) × (Option Addr) × Nat × Nat × Int) (fun (xs2, aa, ac, ad, i2) t aj => ce xs2 i2 ∧ Has t [(7, G ab ah ai), (8, G aa ac ad), (9, vi i2)] ∧ Cw [] w0 aj [bk aa, bk ab] O fun M => Ow kTag 93 aj M (G ab ah ai) (((([] : List Tag) ++ o) ++ a) ++ b) ∧ Ow kTag 93 aj M (G aa ac ad) xs2) (fun (xs2, _, _, _, i2) => cf xs2 i2) (([] : List Tag), a9, ba, bb, 0) ⟨ax, (Xt Z), cc, cg, cd⟩ ?_;rintro ⟨xs2, aa, ac, ad, i2⟩ _ aj ⟨ax, ch, ak, al, bc⟩;obtain ⟨d9, rfl⟩ := Has.ins ch;have H := H xs2 i2 ax;refine Xc (Xc (Xd (Xe (vi i2) Z (Xe (G ab ah ai) Z ?_))));have ci := al.le;refine Xa (X4 u42_ ab ah ai al.len Z) (Xa (Xx i2 ((((([] : List Tag) ++ o) ++ a) ++ b).length : Int) (decide (i2 < ((((([] : List Tag) ++ o) ++ a) ++ b).length : Int))) Z Z Z) (Xb ?_));refine Xu (decide (i2 < ((((([] : List Tag) ++ o) ++ a) ++ b).length : Int))) Z (fun aq => ?_) (fun aq => ?_)
 ·have H := Xi H aq;refine Xz (Xc (X8 (Xd (Xe (G aa ac ad) Z (Xe (G ab ah ai) Z (Xe (vi i2) Z ?_))))));obtain ⟨bd, H⟩ := H;obtain ⟨ar, ea, cj, ck, cl⟩ := al.get default RD i2 bd;obtain ⟨rfl, cm, eb⟩ := kTag.op ck;refine Xa (X3 u42_ Yx ab ar ah ai al.len i2 Z cj Z bd) (Xa (Xm fa93_0 (ar.add (i2.toNat * 2)) ((ar.add (i2.toNat * 2)).add 0) Z Z) (Xa (Xp ag9 cL ((ar.add (i2.toNat * 2)).add 0) (vs ((nth (((([] : List Tag) ++ o) ++ a) ++ b) i2).Key)) Z (cl 0 _ Z)) ?_));have cn := ak.gv bc 0 Z;have co := ak.drop 0 Z;refine Xs go100 (F126.calls H co.ok cn cm (by decide : Lim ([97] : Str))) Z ?_;rintro _ ec ⟨r, be, bf, bg, rfl, H, ay, cp, az, cq⟩;have cr := Ok.unl (L := [bk aa, bk ab]) (L' := [bk ab]) (O := O) ak ay cp az;have cs := Ow.unl (L := [bk aa, bk ab]) (L' := [bk ab]) (O := O) (fun _ _ _ _ _ _ h => h) (.cons _ (.cons_cons _ (.slnil))) cq;have a0 := ak.owns ay cr az;refine Xf (G be bf bg) Z (Xb (Xd (Xe (vi i2) Z ?_)));obtain ⟨ct, H⟩ := H;have cu : I64 (i2 + 1) := i64_succ (of_decide_eq_true aq) ci ct;refine Xa (X6 i2 1 Z Z cu) (Xf (vi (i2 + 1)) Z (Xb ?_));have cv := a0.drop 1 Z;obtain ⟨cw, cx⟩ := H;have cy := (a0.sd (al.sos ay az) 2 1 Z Z Z);have cz := (a0.sd cs 0 1 Z Z Z);exact ⟨(r, be, bf, bg, i2 + 1), cx, cw, (Xt Z), cv, cy, cz⟩
 have H := Xj H aq;refine Ym (xin_hit ?_);refine Xc (Xd (X7 (kd := Kd.str) Yu ak ([] : List Str) (cells := []) Z RF fun ed bh bi bj c0 hr134 a1 c1 => ?_));refine Xf (G bh bi bj) Z (Xb (Xc (Xc (Xd (Xf (vi 0) Z (Xb (X8 ?_)))))));have c2 := a1.drop 2 Z;obtain ⟨c4, c5, a2, H⟩ := H;have c6 := (a1.sd (bc.so _ c0 hr134) 1 2 Z Z Z);have c7 := (a1.sd c1 0 2 Z Z Z);refine Ys (α := (List Str) × (Option Addr) × Nat × Nat × Int) (fun (xs4, ae, af, ag, i4) t au => c4 xs4 i4 ∧ Has t [(8, G aa ac ad), (10, G ae af ag), (11, vi i4)] ∧ Cw [] w0 au [bk ae, bk aa] O fun M => Ow kTag 93 au M (G aa ac ad) xs2 ∧ Ow Kd.str 9 au M (G ae af ag) xs4) (fun (xs4, _, _, _, i4) => c5 xs4 i4) (([] : List Str), bh, bi, bj, 0) ⟨a2, (Xt Z), c2, c6, c7⟩ ?_;rintro ⟨xs4, ae, af, ag, i4⟩ _ au ⟨a2, c9, a3, am, bl⟩;obtain ⟨ee, rfl⟩ := Has.ins c9;have H := H xs4 i4 a2;refine Xc (Xc (Xd (Xe (vi i4) Z (Xe (G aa ac ad) Z ?_))));have da := am.le;refine Xa (X4 u42_ aa ac ad am.len Z) (Xa (Xx i4 (xs2.length : Int) (decide (i4 < (xs2.length : Int))) Z Z Z) (Xb ?_));refine Xu (decide (i4 < (xs2.length : Int))) Z (fun av => ?_) (fun av => ?_)
 ·have H := Xi H av;refine Xz (Xc (X8 (Xd (Xe (G ae af ag) Z (Xe (G aa ac ad) Z (Xe (vi i4) Z ?_))))));obtain ⟨bm, H⟩ := H;obtain ⟨aw, ef, db, dc, dd⟩ := am.get default RD i4 bm;obtain ⟨rfl, de, eg⟩ := kTag.op dc;refine Xa (X3 u42_ Yx aa aw ac ad am.len i4 Z db Z bm) (Xa (Xm fa93_0 (aw.add (i4.toNat * 2)) ((aw.add (i4.toNat * 2)).add 0) Z Z) (Xa (Xp ag9 cL ((aw.add (i4.toNat * 2)).add 0) (vs ((nth xs2 i4).Key)) Z (dd 0 _ Z)) (X7 (kd := Kd.str) Yu a3 ([(nth xs2 i4).Key] : List Str) (cells := [vs ((nth xs2 i4).Key)]) ⟨[vs ((nth xs2 i4).Key)], _, Z, ⟨Z, de⟩, Z⟩ RF fun eh df dg dh bn hr187 bo di => ?_)));obtain ⟨dj, H⟩ := H;have dk := (bl.so _ bn hr187);refine Yf Yu bo (G ae af ag) xs4 ([(nth xs2 i4).Key] : List Str) Z dk (G df dg dh) Z di.sx 1 Z dj fun ei bp bq br dl dm a4 dn => ?_;refine Xf (G bp bq br) Z (Xb (Xd (Xe (vi i4) Z ?_)));obtain ⟨dp, H⟩ := H;have dq : I64 (i4 + 1) := i64_succ (of_decide_eq_true av) da dp;refine Xa (X6 i4 1 Z Z dq) (Xf (vi (i4 + 1)) Z (Xb ?_));have dr := a4.drop 0 Z;obtain ⟨ds, dt⟩ := H;have du := (a4.sd (bo.sm (am.so _ bn hr187) 2 1 Z Z Z dl dm) 2 0 Z Z Z);have dv := (a4.sd dn 1 0 Z Z Z);exact ⟨((xs4 ++ ([(nth xs2 i4).Key] : List Str)), bp, bq, br, i4 + 1), dt, ds, (Xt Z), dr, du, dv⟩
 have H := Xj H av;refine Ym (xin_hit ?_);refine Xc (Xd (Xe (G ae af ag) Z (Xf (G ae af ag) Z (Xb (Xk ?_)))));have a5 := a3.drop 1 Z;have dw := (a3.sd bl 0 1 Z Z Z);exact ⟨[G ae af ag], ⟨_, Z, Z⟩, xs4, ae, af, ag, Z, H, a5.gr.g0, a5.ok, a5.ge, dw⟩
def F134.E (t_ : List Tag) (key : Str) (Q : Str → Bool → Prop) : Prop :=
 (∃ (I19 : Int → Prop) (mu20 : Int → Nat), I19 0 ∧ ∀ (i2 : Int), I19 i2 → (if decide (i2 < (t_.length : Int)) then ((0 : Int) ≤ i2 ∧ i2 < (t_.length : Int)) ∧ (if ((nth t_ i2).Key) == key then ((0 : Int) ≤ i2 ∧ i2 < (t_.length : Int)) ∧ Q ((nth t_ i2).Val) true else (-9223372036854775808 ≤ i2) ∧ I19 (i2 + 1) ∧ mu20 (i2 + 1) < mu20 i2) else Q [] false))
theorem F134.calls {t_ : List Tag} {A1 : Option Addr} {n2 c3 : Nat} {key : Str} {Q : Str → Bool → Prop} (H : F134.E t_ key Q) (hO : Ok w0 O) (hp4 : Sl kTag w0 (Fr O) (G A1 n2 c3) t_) (hs6 : Lim key) :
  Ret Tryz.prog 153 [G A1 n2 c3, vs key] w0 (fun v w' => ∃ (r0 : Str) (r1 : Bool), v = .tuple #[vs r0, vb r1] ∧ Q r0 r1 ∧ Gr w0 w' none ∧ Lim r0) := by
 unfold F134.E at H;have hc0 := Ct.init hO;refine Yd Tryz.func153 Z 25 Z [.tmp 4, .tmp 5] Z Z ?_;refine Xc (Xd (Xf (vs []) Z (Xf (vb false) Z (Xb (Xc (Xc (Xd (Xf (vi 0) Z ?_))))))));refine Xb (X8 ?_);obtain ⟨ak, al, ae, H⟩ := H;refine Ys (α := Int) (fun (sv__ : Int) t af => match sv__ with | i2 => ak i2 ∧ Has t [(0, G A1 n2 c3), (1, vs key), (6, vi i2)] ∧ Ct [] w0 af [] O ∧ Sl kTag af (Fr ([] ++ O)) (G A1 n2 c3) t_) (fun (sv__ : Int) => match sv__ with | i2 => al i2) 0 ⟨ae, (Xt Z), hc0, hp4⟩ ?_;rintro i2 _ af ⟨ae, am, ag, aa⟩;obtain ⟨a1, rfl⟩ := Has.ins am;have H := H i2 ae;refine Xc (Xc (Xd (Xe (vi i2) Z (Xe (G A1 n2 c3) Z ?_))));have an := aa.le;refine Xa (X4 u42_ A1 n2 c3 aa.len Z) (Xa (Xx i2 (t_.length : Int) (decide (i2 < (t_.length : Int))) Z Z Z) (Xb ?_));refine Xu (decide (i2 < (t_.length : Int))) Z (fun ab => ?_) (fun ab => ?_)
 ·have H := Xi H ab;refine Xz (Xc (X8 (Xc (Xd (Xe (G A1 n2 c3) Z (Xe (vi i2) Z ?_))))));obtain ⟨ai, H⟩ := H;obtain ⟨ac, a2, ao, a3, ap, aq⟩ := aa.get default RD i2 ai;obtain ⟨rfl, a4, a5⟩ := kTag.op ap;refine Xa (X3 u42_ Yx A1 ac n2 c3 aa.len i2 Z ao Z ai) (Xa (Xm fa93_0 (ac.add (i2.toNat * 2)) ((ac.add (i2.toNat * 2)).add 0) Z Z) (Xa (Xp ag9 cL ((ac.add (i2.toNat * 2)).add 0) (vs ((nth t_ i2).Key)) Z (aq 0 _ Z)) (Xe (vs key) Z (Xa (Y0 ((nth t_ i2).Key) key (((nth t_ i2).Key) == key) Z Z Z) (Xb ?_)))));refine Xu (((nth t_ i2).Key) == key) Z (fun ah => ?_) (fun ah => ?_)
  ·have H := Xi H ah;refine Xc (Xd (Xe (G A1 n2 c3) Z (Xe (vi i2) Z ?_)));obtain ⟨aj, H⟩ := H;obtain ⟨ad, a6, ar, a7, au, av⟩ := aa.get default RD i2 aj;obtain ⟨rfl, a8, aw⟩ := kTag.op au;exact Xa (X3 u42_ Yx A1 ad n2 c3 aa.len i2 Z ar Z aj) (Xa (Xm fa93_1 (ad.add (i2.toNat * 2)) ((ad.add (i2.toNat * 2)).add 1) Z Z) (Xa (Xp ag9 cL ((ad.add (i2.toNat * 2)).add 1) (vs ((nth t_ i2).Val)) Z (av 1 _ Z)) (Xf (vs ((nth t_ i2).Val)) Z (Xf (vb true) Z (Xb (Xk ⟨[vs ((nth t_ i2).Val), vb true], ⟨_, Z, ⟨_, Z, Z⟩⟩, (nth t_ i2).Val, true, Z, H, ag.gr.g0, aw⟩))))))
  have H := Xj H ah;refine Xz (Xd (Xe (vi i2) Z ?_));obtain ⟨ax, H⟩ := H;have ay : I64 (i2 + 1) := i64_succ (of_decide_eq_true ab) an ax;refine Xa (X6 i2 1 Z Z ay) (Xf (vi (i2 + 1)) Z (Xb ?_));obtain ⟨az, a0⟩ := H;exact ⟨i2 + 1, a0, az, (Xt Z), ag, aa⟩
 have H := Xj H ab;refine Ym (xin_hit ?_);exact Xc (Xd (Xf (vs []) Z (Xf (vb false) Z (Xb (Xk ⟨[vs [], vb false], ⟨_, Z, ⟨_, Z, Z⟩⟩, ([] : Str), false, Z, H, ag.gr.g0, (by decide : Lim ([] : Str))⟩)))))
def F135.E (o a b : List Tag) (key : Str) (Q : Str → Bool → Bool → Prop) : Prop :=
 F134.E o key (fun r r2 => F134.E a key (fun r3 r4 => F134.E b key (fun r5 r6 => (if r3 == r then (if r4 == r2 then Q r5 r6 true else (if r5 == r then (if r6 == r2 then Q r3 r4 true else (if r3 == r5 then (if r4 == r6 then Q r3 r4 true else (if r4 then Q r3 true false else Q r5 true false)) else (if r4 then Q r3 true false else Q r5 true false))) else (if r3 == r5 then (if r4 == r6 then Q r3 r4 true else (if r4 then Q r3 true false else Q r5 true false)) else (if r4 then Q r3 true false else Q r5 true false)))) else (if r5 == r then (if r6 == r2 then Q r3 r4 true else (if r3 == r5 then (if r4 == r6 then Q r3 r4 true else (if r4 then Q r3 true false else Q r5 true false)) else (if r4 then Q r3 true false else Q r5 true false))) else (if r3 == r5 then (if r4 == r6 then Q r3 r4 true else (if r4 then Q r3 true false else Q r5 true false)) else (if r4 then Q r3 true false else Q r5 true false)))))))
theorem F135.calls {o : List Tag} {A1 : Option Addr} {n2 c3 : Nat} {a : List Tag} {A6 : Option Addr} {n7 c8 : Nat} {b : List Tag} {am : Option Addr} {an ao : Nat} {key : Str} {Q : Str → Bool → Bool → Prop} (H : F135.E o a b key Q) (hO : Ok w0 O) (hp4 : Sl kTag w0 (Fr O) (G A1 n2 c3) o) (hp9 : Sl kTag w0 (Fr O) (G A6 n7 c8) a) (a7 : Sl kTag w0 (Fr O) (G am an ao) b) (ap : Lim key) :
  Ret Tryz.prog 125 [G A1 n2 c3, G A6 n7 c8, G am an ao, vs key] w0 (fun v w' => ∃ (r0 : Str) (r1 r2 : Bool), v = .tuple #[vs r0, vb r1, vb r2] ∧ Q r0 r1 r2 ∧ Gr w0 w' none ∧ Lim r0) := by
 unfold F135.E at H;have hc0 := Ct.init hO;refine Yd Tryz.func125 Z 71 Z [.tmp 8, .tmp 9, .tmp 10] Z Z ?_;refine Xc (Xd (Xf (vs []) Z (Xf (vb false) Z (Xf (vb false) Z (Xb (Xc (Xd (Xe (G A1 n2 c3) Z ?_))))))));refine Xe (vs key) Z ?_;refine Xs go153 (F134.calls H hc0.ok hp4 ap) Z ?_;rintro _ a8 ⟨r, r2, rfl, H, a9, bd⟩;have aq := hc0.k0 a9;refine Xe (.tuple #[vs r, vb r2]) Z (Xa (Yo [vs r, vb r2] 0 (vs r) Z Z) (Xa (Yo [vs r, vb r2] 1 (vb r2) Z Z) (Xf (vs r) Z (Xf (vb r2) Z (Xb (Xc (Xd (Xe (G A6 n7 c8) Z ?_))))))));refine Xe (vs key) Z ?_;refine Xs go153 (F134.calls H aq.ok (hp9.st aq.st) ap) Z ?_;rintro _ ba ⟨r3, r4, rfl, H, bb, ad⟩;have ar := aq.k0 bb;refine Xe (.tuple #[vs r3, vb r4]) Z (Xa (Yo [vs r3, vb r4] 0 (vs r3) Z Z) (Xa (Yo [vs r3, vb r4] 1 (vb r4) Z Z) (Xf (vs r3) Z (Xf (vb r4) Z (Xb (Xc (Xd (Xe (G am an ao) Z ?_))))))));refine Xe (vs key) Z ?_;refine Xs go153 (F134.calls H ar.ok (a7.st ar.st) ap) Z ?_;rintro _ be ⟨r5, r6, rfl, H, bc, al⟩;have aa := ar.k0 bc;refine Xe (.tuple #[vs r5, vb r6]) Z (Xa (Yo [vs r5, vb r6] 0 (vs r5) Z Z) (Xa (Yo [vs r5, vb r6] 1 (vb r6) Z Z) (Xf (vs r5) Z (Xf (vb r6) Z (Xb (Xc (X8 (Xc ?_))))))));refine Xd (Xe (vs r3) Z (Xe (vs r) Z (Xa (Y0 r3 r (r3 == r) Z Z Z) (Xe (vb (r3 == r)) Z ?_))));rcases Yb (r3 == r) with ae | ae
 ·have H := Xi H ae;refine Xl ae Z (Xe (vb r4) Z (Xl ae Z (Xe (vb r2) Z (Xl ae Z (Xa (Zd u4_ r4 r2 (r4 == r2) Z Z Z) (Xa (Xv true (vb (r4 == r2)) ae Z) (Xf (vb (r4 == r2)) Z (Xb ?_))))))));refine Xu (r4 == r2) Z (fun au => ?_) (fun au => ?_)
  ·have H := Xi H au;refine Xc (Xd (Xe (vs r5) Z (Xe (vb r6) Z (Xf (vs r5) Z (Xf (vb r6) Z (Xf (vb true) Z (Xb (Xk ?_))))))));exact ⟨[vs r5, vb r6, vb true], ⟨_, Z, ⟨_, Z, ⟨_, Z, Z⟩⟩⟩, r5, r6, true, Z, H, aa.gr.g0, al⟩
  have H := Xj H au;refine Xc (Xd (Xe (vs r5) Z (Xe (vs r) Z (Xa (Y0 r5 r (r5 == r) Z Z Z) (Xe (vb (r5 == r)) Z ?_)))));rcases Yb (r5 == r) with af | af
  ·have H := Xi H af;refine Xl af Z (Xe (vb r6) Z (Xl af Z (Xe (vb r2) Z (Xl af Z (Xa (Zd u4_ r6 r2 (r6 == r2) Z Z Z) (Xa (Xv true (vb (r6 == r2)) af Z) (Xe (vb (r6 == r2)) Z ?_)))))));rcases Yb (r6 == r2) with ab | ab
   ·have H := Xi H ab;refine Xn ab Z (Xn ab Z (Xn ab Z (Xn ab Z (Zn Z (Zn Z (Zn Z (Xn ab Z (Xa (Xv true (vb true) ab Z) ?_))))))));refine Xf (vb true) Z (Xb (Yp (b := true) Z Z ?_));refine Xc (Xd (Xe (vs r3) Z (Xe (vb r4) Z (Xf (vs r3) Z (Xf (vb r4) Z (Xf (vb true) Z (Xb (Xk ?_))))))));exact ⟨[vs r3, vb r4, vb true], ⟨_, Z, ⟨_, Z, ⟨_, Z, Z⟩⟩⟩, r3, r4, true, Z, H, aa.gr.g0, ad⟩
   have H := Xj H ab;refine Xl ab Z (Xe (vs r3) Z (Xl ab Z (Xe (vs r5) Z (Xl ab Z (Xa (Y0 r3 r5 (r3 == r5) Z Z Z) (Xl ab Z (Xe (vb (r3 == r5)) Z ?_)))))));rcases Yb (r3 == r5) with ag | ag
   ·have H := Xi H ag;refine Xl ag Z (Xe (vb r4) Z (Xl ag Z (Xe (vb r6) Z (Xl ag Z (Xa (Zd u4_ r4 r6 (r4 == r6) Z Z Z) (Xl ab Z (Xa (Xv true (vb (r4 == r6)) ag Z) (Xa (Xv false (vb (r4 == r6)) ab Z) ?_))))))));refine Xf (vb (r4 == r6)) Z (Xb ?_);refine Xu (r4 == r6) Z (fun av => ?_) (fun av => ?_)
    ·have H := Xi H av;refine Xc (Xd (Xe (vs r3) Z (Xe (vb r4) Z (Xf (vs r3) Z (Xf (vb r4) Z (Xf (vb true) Z (Xb (Xk ?_))))))));exact ⟨[vs r3, vb r4, vb true], ⟨_, Z, ⟨_, Z, ⟨_, Z, Z⟩⟩⟩, r3, r4, true, Z, H, aa.gr.g0, ad⟩
    have H := Xj H av;refine Xc (Xd (Xe (vb r4) Z (Xf (vb r4) Z (Xb ?_))));refine Xu r4 Z (fun aw => ?_) (fun aw => ?_)
    ·have H := Xi H aw;exact Xc (Xd (Xe (vs r3) Z (Xf (vs r3) Z (Xf (vb true) Z (Xf (vb false) Z (Xb (Xk ⟨[vs r3, vb true, vb false], ⟨_, Z, ⟨_, Z, ⟨_, Z, Z⟩⟩⟩, r3, true, false, Z, H, aa.gr.g0, ad⟩)))))))
    have H := Xj H aw;refine Xz (Xc (Xd (Xe (vs r5) Z (Xf (vs r5) Z (Xf (vb true) Z (Xf (vb false) Z (Xb (Xk ?_))))))));exact ⟨[vs r5, vb true, vb false], ⟨_, Z, ⟨_, Z, ⟨_, Z, Z⟩⟩⟩, r5, true, false, Z, H, aa.gr.g0, al⟩
   have H := Xj H ag;refine Xn ag Z (Xn ag Z (Xn ag Z (Xl ab Z (Xa (Xv false (vb false) ag Z) (Xa (Xv false (vb false) ab Z) (Xf (vb false) Z (Xb (Y4 (b := false) Z Z ?_))))))));refine Xc (Xd (Xe (vb r4) Z (Xf (vb r4) Z (Xb ?_))));refine Xu r4 Z (fun ax => ?_) (fun ax => ?_)
   ·have H := Xi H ax;exact Xc (Xd (Xe (vs r3) Z (Xf (vs r3) Z (Xf (vb true) Z (Xf (vb false) Z (Xb (Xk ⟨[vs r3, vb true, vb false], ⟨_, Z, ⟨_, Z, ⟨_, Z, Z⟩⟩⟩, r3, true, false, Z, H, aa.gr.g0, ad⟩)))))))
   have H := Xj H ax;refine Xz (Xc (Xd (Xe (vs r5) Z (Xf (vs r5) Z (Xf (vb true) Z (Xf (vb false) Z (Xb (Xk ?_))))))));exact ⟨[vs r5, vb true, vb false], ⟨_, Z, ⟨_, Z, ⟨_, Z, Z⟩⟩⟩, r5, true, false, Z, H, aa.gr.g0, al⟩
  have H := Xj H af;refine Xn af Z (Xn af Z (Xn af Z (Xa (Xv false (vb false) af Z) (Xe (vb false) Z (Za (dj := 55) Z Z Z (Xe (vs r3) Z (Za (dj := 55) Z Z Z (Xe (vs r5) Z ?_))))))));refine Za (dj := 55) Z Z Z (Xa (Y0 r3 r5 (r3 == r5) Z Z Z) (Za (dj := 55) Z Z Z (Xe (vb (r3 == r5)) Z ?_)));rcases Yb (r3 == r5) with ah | ah
  ·have H := Xi H ah;refine Xl ah Z (Xe (vb r4) Z (Xl ah Z (Xe (vb r6) Z (Xl ah Z (Xa (Zd u4_ r4 r6 (r4 == r6) Z Z Z) (Za (dj := 55) Z Z Z (Xa (Xv true (vb (r4 == r6)) ah Z) (Xa (Xv false (vb (r4 == r6)) Z Z) ?_))))))));refine Xf (vb (r4 == r6)) Z (Xb ?_);refine Xu (r4 == r6) Z (fun ay => ?_) (fun ay => ?_)
   ·have H := Xi H ay;refine Xc (Xd (Xe (vs r3) Z (Xe (vb r4) Z (Xf (vs r3) Z (Xf (vb r4) Z (Xf (vb true) Z (Xb (Xk ?_))))))));exact ⟨[vs r3, vb r4, vb true], ⟨_, Z, ⟨_, Z, ⟨_, Z, Z⟩⟩⟩, r3, r4, true, Z, H, aa.gr.g0, ad⟩
   have H := Xj H ay;refine Xc (Xd (Xe (vb r4) Z (Xf (vb r4) Z (Xb ?_))));refine Xu r4 Z (fun az => ?_) (fun az => ?_)
   ·have H := Xi H az;exact Xc (Xd (Xe (vs r3) Z (Xf (vs r3) Z (Xf (vb true) Z (Xf (vb false) Z (Xb (Xk ⟨[vs r3, vb true, vb false], ⟨_, Z, ⟨_, Z, ⟨_, Z, Z⟩⟩⟩, r3, true, false, Z, H, aa.gr.g0, ad⟩)))))))
   have H := Xj H az;refine Xz (Xc (Xd (Xe (vs r5) Z (Xf (vs r5) Z (Xf (vb true) Z (Xf (vb false) Z (Xb (Xk ?_))))))));exact ⟨[vs r5, vb true, vb false], ⟨_, Z, ⟨_, Z, ⟨_, Z, Z⟩⟩⟩, r5, true, false, Z, H, aa.gr.g0, al⟩
  have H := Xj H ah;refine Xn ah Z (Xn ah Z (Xn ah Z (Za (dj := 55) Z Z Z (Xa (Xv false (vb false) ah Z) (Xa (Xv false (vb false) Z Z) (Xf (vb false) Z (Xb (Y4 (b := false) Z Z ?_))))))));refine Xc (Xd (Xe (vb r4) Z (Xf (vb r4) Z (Xb ?_))));refine Xu r4 Z (fun a0 => ?_) (fun a0 => ?_)
  ·have H := Xi H a0;exact Xc (Xd (Xe (vs r3) Z (Xf (vs r3) Z (Xf (vb true) Z (Xf (vb false) Z (Xb (Xk ⟨[vs r3, vb true, vb false], ⟨_, Z, ⟨_, Z, ⟨_, Z, Z⟩⟩⟩, r3, true, false, Z, H, aa.gr.g0, ad⟩)))))))
  have H := Xj H a0;refine Xz (Xc (Xd (Xe (vs r5) Z (Xf (vs r5) Z (Xf (vb true) Z (Xf (vb false) Z (Xb (Xk ?_))))))));exact ⟨[vs r5, vb true, vb false], ⟨_, Z, ⟨_, Z, ⟨_, Z, Z⟩⟩⟩, r5, true, false, Z, H, aa.gr.g0, al⟩
 have H := Xj H ae;refine Xn ae Z (Xn ae Z (Xn ae Z (Xa (Xv false (vb false) ae Z) (Xf (vb false) Z (Xb (Y4 (b := false) Z Z ?_))))));refine Xc (Xd (Xe (vs r5) Z (Xe (vs r) Z (Xa (Y0 r5 r (r5 == r) Z Z Z) (Xe (vb (r5 == r)) Z ?_)))));rcases Yb (r5 == r) with ai | ai
 ·have H := Xi H ai;refine Xl ai Z (Xe (vb r6) Z (Xl ai Z (Xe (vb r2) Z (Xl ai Z (Xa (Zd u4_ r6 r2 (r6 == r2) Z Z Z) (Xa (Xv true (vb (r6 == r2)) ai Z) (Xe (vb (r6 == r2)) Z ?_)))))));rcases Yb (r6 == r2) with ac | ac
  ·have H := Xi H ac;refine Xn ac Z (Xn ac Z (Xn ac Z (Xn ac Z (Zn Z (Zn Z (Zn Z (Xn ac Z (Xa (Xv true (vb true) ac Z) ?_))))))));refine Xf (vb true) Z (Xb (Yp (b := true) Z Z ?_));refine Xc (Xd (Xe (vs r3) Z (Xe (vb r4) Z (Xf (vs r3) Z (Xf (vb r4) Z (Xf (vb true) Z (Xb (Xk ?_))))))));exact ⟨[vs r3, vb r4, vb true], ⟨_, Z, ⟨_, Z, ⟨_, Z, Z⟩⟩⟩, r3, r4, true, Z, H, aa.gr.g0, ad⟩
  have H := Xj H ac;refine Xl ac Z (Xe (vs r3) Z (Xl ac Z (Xe (vs r5) Z (Xl ac Z (Xa (Y0 r3 r5 (r3 == r5) Z Z Z) (Xl ac Z (Xe (vb (r3 == r5)) Z ?_)))))));rcases Yb (r3 == r5) with aj | aj
  ·have H := Xi H aj;refine Xl aj Z (Xe (vb r4) Z (Xl aj Z (Xe (vb r6) Z (Xl aj Z (Xa (Zd u4_ r4 r6 (r4 == r6) Z Z Z) (Xl ac Z (Xa (Xv true (vb (r4 == r6)) aj Z) (Xa (Xv false (vb (r4 == r6)) ac Z) ?_))))))));refine Xf (vb (r4 == r6)) Z (Xb ?_);refine Xu (r4 == r6) Z (fun a1 => ?_) (fun a1 => ?_)
   ·have H := Xi H a1;refine Xc (Xd (Xe (vs r3) Z (Xe (vb r4) Z (Xf (vs r3) Z (Xf (vb r4) Z (Xf (vb true) Z (Xb (Xk ?_))))))));exact ⟨[vs r3, vb r4, vb true], ⟨_, Z, ⟨_, Z, ⟨_, Z, Z⟩⟩⟩, r3, r4, true, Z, H, aa.gr.g0, ad⟩
   have H := Xj H a1;refine Xc (Xd (Xe (vb r4) Z (Xf (vb r4) Z (Xb ?_))));refine Xu r4 Z (fun a2 => ?_) (fun a2 => ?_)
   ·have H := Xi H a2;exact Xc (Xd (Xe (vs r3) Z (Xf (vs r3) Z (Xf (vb true) Z (Xf (vb false) Z (Xb (Xk ⟨[vs r3, vb true, vb false], ⟨_, Z, ⟨_, Z, ⟨_, Z, Z⟩⟩⟩, r3, true, false, Z, H, aa.gr.g0, ad⟩)))))))
   have H := Xj H a2;refine Xz (Xc (Xd (Xe (vs r5) Z (Xf (vs r5) Z (Xf (vb true) Z (Xf (vb false) Z (Xb (Xk ?_))))))));exact ⟨[vs r5, vb true, vb false], ⟨_, Z, ⟨_, Z, ⟨_, Z, Z⟩⟩⟩, r5, true, false, Z, H, aa.gr.g0, al⟩
  have H := Xj H aj;refine Xn aj Z (Xn aj Z (Xn aj Z (Xl ac Z (Xa (Xv false (vb false) aj Z) (Xa (Xv false (vb false) ac Z) (Xf (vb false) Z (Xb (Y4 (b := false) Z Z ?_))))))));refine Xc (Xd (Xe (vb r4) Z (Xf (vb r4) Z (Xb ?_))));refine Xu r4 Z (fun a3 => ?_) (fun a3 => ?_)
  ·have H := Xi H a3;exact Xc (Xd (Xe (vs r3) Z (Xf (vs r3) Z (Xf (vb true) Z (Xf (vb false) Z (Xb (Xk ⟨[vs r3, vb true, vb false], ⟨_, Z, ⟨_, Z, ⟨_, Z, Z⟩⟩⟩, r3, true, false, Z, H, aa.gr.g0, ad⟩)))))))
  have H := Xj H a3;refine Xz (Xc (Xd (Xe (vs r5) Z (Xf (vs r5) Z (Xf (vb true) Z (Xf (vb false) Z (Xb (Xk ?_))))))));exact ⟨[vs r5, vb true, vb false], ⟨_, Z, ⟨_, Z, ⟨_, Z, Z⟩⟩⟩, r5, true, false, Z, H, aa.gr.g0, al⟩
 have H := Xj H ai;refine Xn ai Z (Xn ai Z (Xn ai Z (Xa (Xv false (vb false) ai Z) (Xe (vb false) Z (Za (dj := 55) Z Z Z (Xe (vs r3) Z (Za (dj := 55) Z Z Z (Xe (vs r5) Z ?_))))))));refine Za (dj := 55) Z Z Z (Xa (Y0 r3 r5 (r3 == r5) Z Z Z) (Za (dj := 55) Z Z Z (Xe (vb (r3 == r5)) Z ?_)));rcases Yb (r3 == r5) with ak | ak
 ·have H := Xi H ak;refine Xl ak Z (Xe (vb r4) Z (Xl ak Z (Xe (vb r6) Z (Xl ak Z (Xa (Zd u4_ r4 r6 (r4 == r6) Z Z Z) (Za (dj := 55) Z Z Z (Xa (Xv true (vb (r4 == r6)) ak Z) (Xa (Xv false (vb (r4 == r6)) Z Z) ?_))))))));refine Xf (vb (r4 == r6)) Z (Xb ?_);refine Xu (r4 == r6) Z (fun a4 => ?_) (fun a4 => ?_)
  ·have H := Xi H a4;refine Xc (Xd (Xe (vs r3) Z (Xe (vb r4) Z (Xf (vs r3) Z (Xf (vb r4) Z (Xf (vb true) Z (Xb (Xk ?_))))))));exact ⟨[vs r3, vb r4, vb true], ⟨_, Z, ⟨_, Z, ⟨_, Z, Z⟩⟩⟩, r3, r4, true, Z, H, aa.gr.g0, ad⟩
  have H := Xj H a4;refine Xc (Xd (Xe (vb r4) Z (Xf (vb r4) Z (Xb ?_))));refine Xu r4 Z (fun a5 => ?_) (fun a5 => ?_)
  ·have H := Xi H a5;exact Xc (Xd (Xe (vs r3) Z (Xf (vs r3) Z (Xf (vb true) Z (Xf (vb false) Z (Xb (Xk ⟨[vs r3, vb true, vb false], ⟨_, Z, ⟨_, Z, ⟨_, Z, Z⟩⟩⟩, r3, true, false, Z, H, aa.gr.g0, ad⟩)))))))
  have H := Xj H a5;refine Xz (Xc (Xd (Xe (vs r5) Z (Xf (vs r5) Z (Xf (vb true) Z (Xf (vb false) Z (Xb (Xk ?_))))))));exact ⟨[vs r5, vb true, vb false], ⟨_, Z, ⟨_, Z, ⟨_, Z, Z⟩⟩⟩, r5, true, false, Z, H, aa.gr.g0, al⟩
 have H := Xj H ak;refine Xn ak Z (Xn ak Z (Xn ak Z (Za (dj := 55) Z Z Z (Xa (Xv false (vb false) ak Z) (Xa (Xv false (vb false) Z Z) (Xf (vb false) Z (Xb (Y4 (b := false) Z Z ?_))))))));refine Xc (Xd (Xe (vb r4) Z (Xf (vb r4) Z (Xb ?_))));refine Xu r4 Z (fun a6 => ?_) (fun a6 => ?_)
 ·have H := Xi H a6;exact Xc (Xd (Xe (vs r3) Z (Xf (vs r3) Z (Xf (vb true) Z (Xf (vb false) Z (Xb (Xk ⟨[vs r3, vb true, vb false], ⟨_, Z, ⟨_, Z, ⟨_, Z, Z⟩⟩⟩, r3, true, false, Z, H, aa.gr.g0, ad⟩)))))))
 have H := Xj H a6;refine Xz (Xc (Xd (Xe (vs r5) Z (Xf (vs r5) Z (Xf (vb true) Z (Xf (vb false) Z (Xb (Xk ?_))))))));exact ⟨[vs r5, vb true, vb false], ⟨_, Z, ⟨_, Z, ⟨_, Z, Z⟩⟩⟩, r5, true, false, Z, H, aa.gr.g0, al⟩
def F114.E (o a b : Feat) (Q : Feat → List Str → Prop) : Prop :=
 F79.E o.Shape a.Shape b.Shape (fun r r2 => (∃ (J134 : (List Str) → Prop), ((if !r2 then (([] : List Str).length + ([([115, 104, 97, 112, 101] : Str)] : List Str).length ≤ 268435456) ∧ J134 (([] : List Str) ++ ([([115, 104, 97, 112, 101] : Str)] : List Str)) else J134 ([] : List Str))) ∧ ∀ (xs : List Str), J134 xs → F82.E r (fun r3 => F113.E o.Tags a.Tags b.Tags (fun r4 => (∃ (I2328 : (List Str) → Int → (List Tag) → Prop) (mu2329 : (List Str) → Int → (List Tag) → Nat), I2328 xs 0 ([] : List Tag) ∧ ∀ (xs4 : List Str) (i2 : Int) (xs5 : List Tag), I2328 xs4 i2 xs5 → (if decide (i2 < (r4.length : Int)) then ((0 : Int) ≤ i2 ∧ i2 < (r4.length : Int)) ∧ F135.E o.Tags a.Tags b.Tags (nth r4 i2) (fun r5 r6 r7 => (∃ (J2411 : (List Str) → Prop), ((if !r7 then ((0 : Int) ≤ i2 ∧ i2 < (r4.length : Int)) ∧ (([116, 97, 103, 32] : Str).length + (nth r4 i2).length ≤ 9223372036854775807) ∧ (xs4.length + ([(([116, 97, 103, 32] : Str) ++ (nth r4 i2))] : List Str).length ≤ 268435456) ∧ J2411 (xs4 ++ ([(([116, 97, 103, 32] : Str) ++ (nth r4 i2))] : List Str)) else J2411 xs4)) ∧ ∀ (xs6 : List Str), J2411 xs6 → (∃ (J2516 : (List Tag) → Prop), ((if r6 then ((0 : Int) ≤ i2 ∧ i2 < (r4.length : Int)) ∧ (xs5.length + ([(⟨(nth r4 i2), r5⟩ : Tag)] : List Tag).length ≤ 268435456) ∧ J2516 (xs5 ++ ([(⟨(nth r4 i2), r5⟩ : Tag)] : List Tag)) else J2516 xs5)) ∧ ∀ (xs7 : List Tag), J2516 xs7 → (I64 (i2 + 1)) ∧ I2328 xs6 (i2 + 1) xs7 ∧ mu2329 xs6 (i2 + 1) xs7 < mu2329 xs4 i2 xs5))) else F87.E (⟨a.Id, r3, xs5⟩ : Feat) (fun r8 => (if !r8 then F83.E a (fun r9 => Q r9 ([([109, 117, 99, 104] : Str)] : List Str)) else Q (⟨a.Id, r3, xs5⟩ : Feat) xs4))))))))
theorem F114.calls {o : Feat} {A2 : Option Addr} {n3 c4 : Nat} {A7 : Option Addr} {n8 c9 : Nat} {a : Feat} {a2 : Option Addr} {a3 a4 : Nat} {am : Option Addr} {an ao : Nat} {b : Feat} {bp : Option Addr} {bq br : Nat} {a5 : Option Addr} {a6 a7 : Nat} {Q : Feat → List Str → Prop} (H : F114.E o a b Q) (hO : Ok w0 O) (hs1 : Lim o.Id) (hp5 : Sl kPt w0 (Fr O) (G A2 n3 c4) o.Shape.Pts) (hu : Sl kTag w0 (Fr O) (G A7 n8 c9) o.Tags) (e3 : Lim a.Id) (e4 : Sl kPt w0 (Fr O) (G a2 a3 a4) a.Shape.Pts) (hv : Sl kTag w0 (Fr O) (G am an ao) a.Tags) (qt : Lim b.Id) (e5 : Sl kPt w0 (Fr O) (G bp bq br) b.Shape.Pts) (hw : Sl kTag w0 (Fr O) (G a5 a6 a7) b.Tags) :
  Ret Tryz.prog 78 [.agg #[vs o.Id, vi o.Shape.Kind, G A2 n3 c4, G A7 n8 c9], .agg #[vs a.Id, vi a.Shape.Kind, G a2 a3 a4, G am an ao], .agg #[vs b.Id, vi b.Shape.Kind, G bp bq br, G a5 a6 a7]] w0 (fun v w' => ∃ (r0 : Feat) (r1 : List Str) (Aw0 : Option Addr) (nw0 cw0 : Nat) (Aw2 : Option Addr) (nw2 cw2 : Nat) (Aw4 : Option Addr) (nw4 cw4 : Nat), v = .tuple #[.agg #[vs r0.Id, vi r0.Shape.Kind, G Aw0 nw0 cw0, G Aw2 nw2 cw2], G Aw4 nw4 cw4] ∧ Q r0 r1 ∧ Gk w0 w' [bk Aw0, bk Aw2, bk Aw4] O (Lim r0.Id ∧ Ow kPt 49 w' ([bk Aw0, bk Aw2, bk Aw4] ++ O) (G Aw0 nw0 cw0) r0.Shape.Pts ∧ Ow kTag 93 w' ([bk Aw0, bk Aw2, bk Aw4] ++ O) (G Aw2 nw2 cw2) r0.Tags ∧ Ow Kd.str 9 w' ([bk Aw0, bk Aw2, bk Aw4] ++ O) (G Aw4 nw4 cw4) r1)) := by
 unfold F114.E at H;have hc0 := Ct.init hO;refine Yd Tryz.func78 Z 96 Z [.cell 6 44, .tmp 7] Z Z ?_;refine Xc (Xd (Yk [vs o.Id, vi o.Shape.Kind, G A2 n3 c4, G A7 n8 c9] Z fun qu au jt hu38 ju jv => ?_));have jw := Fb.mk hc0.ok jt jv;have e6 := hc0.k0 ju;refine Yk [vs a.Id, vi a.Shape.Kind, G a2 a3 a4, G am an ao] Z fun qv ai jx hu47 hx jy => ?_;have jz := Fb.mk e6.ok jx jy;have e7 := e6.k0 hx;refine Yk [vs b.Id, vi b.Shape.Kind, G bp bq br, G a5 a6 a7] Z fun qw av j0 hu56 hy j1 => ?_;have j2 := Fb.mk e7.ok j0 j1;have hz := e7.k0 hy;refine Ya [vs [], .int .i64 0, G none 0 0, G none 0 0] ze44 fun qx aa h0 hu65 h1 h2 => ?_;have h3 := hz.own h1 (some aa) (X9 h0 hu65);refine Xf (G none 0 0) Z (Xb (Xc (Xd (X7 (kd := Kd.str) Yu h3 ([] : List Str) (cells := []) Z RF fun j3 dt du dv e8 hr74 cp h4 => ?_))));refine Xf (G dt du dv) Z (Xb (Xc (Xd (Xa (Xm fa44_1 (Ad au 0) (Ad au 1) Z Z) ?_))));have j4 := e6.stn hx;have h5 := e7.stn hy;have e9 := hz.stown _ h1 (Xg h0);have fa := h3.stown _ e8 hr74;have fb := ((((jw.st j4).st h5).st e9).st fa);refine Xa (Xr ag41 sz41 cL (Ad au 1) [vi o.Shape.Kind, G A2 n3 c4] Z Z (fb.cells (off := 1) Z)) (Xa (Xm fa44_1 (Ad ai 0) (Ad ai 1) Z Z) ?_);have fc := (((jz.st h5).st e9).st fa);refine Xa (Xr ag41 sz41 cL (Ad ai 1) [vi a.Shape.Kind, G a2 a3 a4] Z Z (fc.cells (off := 1) Z)) (Xa (Xm fa44_1 (Ad av 0) (Ad av 1) Z Z) ?_);have fd := ((j2.st e9).st fa);refine Xa (Xr ag41 sz41 cL (Ad av 1) [vi b.Shape.Kind, G bp bq br] Z Z (fd.cells (off := 1) Z)) ?_;refine Xs go123 (F79.calls H cp.ok (hp5.st cp.st) (e4.st cp.st) (e5.st cp.st)) Z ?_;rintro _ qy ⟨r, r2, bt, bu, bv, rfl, H, cq, h6⟩;have fe := cp.k0 cq;refine Xe (.tuple #[.agg #[vi r.Kind, G bt bu bv], vb r2]) Z (Xa (Yo [.agg #[vi r.Kind, G bt bu bv], vb r2] 0 (.agg #[vi r.Kind, G bt bu bv]) Z Z) (Xa (Yo [.agg #[vi r.Kind, G bt bu bv], vb r2] 1 (vb r2) Z Z) (Ya [.int .i64 0, G none 0 0] ze41 fun qz aw c7 hu100 cr j5 => ?_)));have cs := fe.own cr (some aw) (X9 c7 hu100);refine Xw [vi r.Kind, G bt bu bv] j5 Z Z sz41 Z Z fun q0 ct h7 => ?_;have b4 := cs.wr 0 Z ct;refine Xf (vb r2) Z (Xb (Xc (Xc (Xd (Xe (vb r2) Z (Xa (Yr r2 Z) (Xb ?_)))))));obtain ⟨j6, H, j7⟩ := H;refine Y1 (J := (fun t bh => ∃ (xs : List Str) (aj : Option Addr) (c8 da : Nat), j6 xs ∧ Has t [(3, Pz au), (4, Pz ai), (5, Pz av), (6, Pz aa), (8, G aj c8 da), (9, Pz aw)] ∧ Cw [] w0 bh [some aw, bk aj, some aa] O fun M => Sl kPt bh (Fr M) (G a2 a3 a4) a.Shape.Pts ∧ Sl kTag bh (Fr M) (G am an ao) a.Tags ∧ Sl kPt bh (Fr M) (G bt bu bv) r.Pts ∧ Sl kPt bh (Fr M) (G bp bq br) b.Shape.Pts ∧ Sl kTag bh (Fr M) (G a5 a6 a7) b.Tags ∧ Sl kPt bh (Fr M) (G A2 n3 c4) o.Shape.Pts ∧ Sl kTag bh (Fr M) (G A7 n8 c9) o.Tags ∧ Ow Kd.str 9 bh M (G aj c8 da) xs ∧ Fb bh M au [vs o.Id, vi o.Shape.Kind, G A2 n3 c4, G A7 n8 c9] ∧ Fb bh M ai [vs a.Id, vi a.Shape.Kind, G a2 a3 a4, G am an ao] ∧ Fb bh M av [vs b.Id, vi b.Shape.Kind, G bp bq br, G a5 a6 a7] ∧ Bx bh aa [vs [], vi 0, G none 0 0, G none 0 0] ∧ Bx bh aw [vi r.Kind, G bt bu bv])) ?_ ?_
 ·refine Xu (!r2) Z (fun ff => ?_) (fun ff => ?_)
  ·have H := Xi H ff;refine Xd (Xe (G dt du dv) Z (X7 (kd := Kd.str) Yu b4 ([([115, 104, 97, 112, 101] : Str)] : List Str) (cells := [vs ([115, 104, 97, 112, 101] : Str)]) ⟨[vs ([115, 104, 97, 112, 101] : Str)], _, Z, ⟨Z, (by decide : Lim ([115, 104, 97, 112, 101] : Str))⟩, Z⟩ RF fun q1 j8 j9 ka dw hr143 fg kb => ?_));obtain ⟨kc, H⟩ := H;have ke := ((cs.sw ((h4.sn cq).so _ cr (Xg c7)) 1 0 Z Z Z ct).so _ dw hr143);refine Yf Yu fg (G dt du dv) ([] : List Str) ([([115, 104, 97, 112, 101] : Str)] : List Str) Z ke (G j8 j9 ka) Z kb.sx 2 Z kc fun q2 h8 h9 ia ib dx fh kf => ?_;refine Xf (G h8 h9 ia) Z (Xb ?_);have cu := fh.drop 0 Z;have dy := fe.stown _ cr (Xg c7);have dz := cs.stw 0 Z ct;have d0 := b4.stown _ dw hr143;have d1 := fh.std 0 Z;have kg := (((((h6.st dy).st dz).st d0).st dx).st d1);have kh := (fh.sd kf 2 0 Z Z Z);have fi := cp.stn cq;have ki := ((((((fb.st fi).st dy).st dz).st d0).st dx).st d1);have kj := ((((((fc.st fi).st dy).st dz).st d0).st dx).st d1);have kk := ((((((fd.st fi).st dy).st dz).st d0).st dx).st d1);have kl := (fg.bm ((cs.bm (((h2.k0 e8).k0 cq).k0 cr) 2 0 Z Z Z ct).k0 dw) 3 2 Z Z Z ib);have km := (fg.bm (h7.k0 dw) 1 2 Z Z Z ib);exact ⟨(([] : List Str) ++ ([([115, 104, 97, 112, 101] : Str)] : List Str)), h8, h9, ia, H, (Xt Z), cu, (e4.st cu.st), (hv.st cu.st), kg, (e5.st cu.st), (hw.st cu.st), (hp5.st cu.st), (hu.st cu.st), kh, ki, kj, kk, kl, km⟩
  have H := Xj H ff;refine Xz ?_;have d2 := fe.stown _ cr (Xg c7);have d3 := cs.stw 0 Z ct;have kn := ((h6.st d2).st d3);have ko := (cs.sw ((h4.sn cq).so _ cr (Xg c7)) 1 0 Z Z Z ct);have fj := cp.stn cq;have kp := (((fb.st fj).st d2).st d3);have kq := (((fc.st fj).st d2).st d3);have kr := (((fd.st fj).st d2).st d3);have ks := (cs.bm (((h2.k0 e8).k0 cq).k0 cr) 2 0 Z Z Z ct);exact ⟨([] : List Str), dt, du, dv, H, (Xt Z), b4, (e4.st b4.st), (hv.st b4.st), kn, (e5.st b4.st), (hw.st b4.st), (hp5.st b4.st), (hu.st b4.st), ko, kp, kq, kr, ks, h7⟩
 rintro q3 bh ⟨xs, aj, c8, da, kt, ku, fk, kv, ic, id, kx, ie, ky, ig, kz, k1, ih, k2, k3, k4⟩;obtain ⟨q4, rfl⟩ := Has.ins ku;have H := j7 xs kt;refine Xc ?_;refine Y1 (J := (fun t c1 => ∃ (r3 : Shape) (ab : Nat) (ac : Option Addr) (ak al : Nat), Has t [(3, Pz au), (4, Pz ai), (5, Pz av), (6, Pz aa), (8, G aj c8 da), (11, Pz ab)] ∧ Gr bh c1 none ∧ Ct [] w0 c1 [some ab, bk ac, some aw, bk aj, some aa] O ∧ (∀ b, some b ∈ ([some ab, bk ac] : Ob) → bh.heap.size ≤ b) ∧ Ow kPt 49 c1 ([some ab, bk ac, some aw, bk aj, some aa] ++ O) (G ac ak al) r3.Pts ∧ Bx c1 ab [vs a.Id, vi r3.Kind, G ac ak al, G none 0 0] ∧ F113.E o.Tags a.Tags b.Tags (fun r4 => (∃ (db : (List Str) → Int → (List Tag) → Prop) (d4 : (List Str) → Int → (List Tag) → Nat), db xs 0 ([] : List Tag) ∧ ∀ (xs4 : List Str) (i2 : Int) (xs5 : List Tag), db xs4 i2 xs5 → (if decide (i2 < (r4.length : Int)) then ((0 : Int) ≤ i2 ∧ i2 < (r4.length : Int)) ∧ F135.E o.Tags a.Tags b.Tags (nth r4 i2) (fun r5 r6 r7 => (∃ (dc : (List Str) → Prop), ((if !r7 then ((0 : Int) ≤ i2 ∧ i2 < (r4.length : Int)) ∧ (([116, 97, 103, 32] : Str).length + (nth r4 i2).length ≤ 9223372036854775807) ∧ (xs4.length + ([(([116, 97, 103, 32] : Str) ++ (nth r4 i2))] : List Str).length ≤ 268435456) ∧ dc (xs4 ++ ([(([116, 97, 103, 32] : Str) ++ (nth r4 i2))] : List Str)) else dc xs4)) ∧ ∀ (xs6 : List Str), dc xs6 → (∃ (dd : (List Tag) → Prop), ((if r6 then ((0 : Int) ≤ i2 ∧ i2 < (r4.length : Int)) ∧ (xs5.length + ([(⟨(nth r4 i2), r5⟩ : Tag)] : List Tag).length ≤ 268435456) ∧ dd (xs5 ++ ([(⟨(nth r4 i2), r5⟩ : Tag)] : List Tag)) else dd xs5)) ∧ ∀ (xs7 : List Tag), dd xs7 → (I64 (i2 + 1)) ∧ db xs6 (i2 + 1) xs7 ∧ d4 xs6 (i2 + 1) xs7 < d4 xs4 i2 xs5))) else F87.E (⟨a.Id, r3, xs5⟩ : Feat) (fun r8 => (if !r8 then F83.E a (fun r9 => Q r9 ([([109, 117, 99, 104] : Str)] : List Str)) else Q (⟨a.Id, r3, xs5⟩ : Feat) xs4))))))) ?_ ?_
 ·refine Yy 7 [] RK Z fun k5 b5 cg => ?_;have d5 := fk.k0 b5;refine Xo 0 Z RK cg (Xm fa44_0 (Ad ai 0) (Ad ai 0) Z Z) ?_;have fl := fk.stn b5;have k6 := (ih.st fl);refine Xo 1 Z RK cg (Y5 ag9 cR (Ad ai 0) (vs a.Id) Z (k6.cell Z) nm_nil) ?_;have k7 := (k4.k0 b5);refine Xo 2 Z RK cg (Y2 ag41 sz41 cR (Ad aw 0) [vi r.Kind, G bt bu bv] Z Z (k7.cells (off := 0) Z) nm_nil) ?_;refine Yw 3 5 RK Z Z ?_ ?_
  ·refine Xs go115 (F82.calls H d5.ok (id.st fl)) Z ?_;rintro _ ii ⟨r3, d6, d7, d8, rfl, H, ij, k8, ik, k9⟩;have la := d5.owns ij k8 ik;have de := Gm.tm cg ij;refine Xb ⟨de, ?_⟩;refine Xo 4 Z RK de (Yi (.agg #[vs a.Id, vi r3.Kind, G d6 d7 d8, G none 0 0]) RF) ?_;refine Xq 5 RK Z ?_;refine Ya [vs [], .int .i64 0, G none 0 0, G none 0 0] ze44 fun q5 fm d9 hu206 fn lb => ?_;have il := la.own fn (some fm) (X9 d9 hu206);have im := Gm.tm de fn;refine Xb ⟨im, ?_⟩;refine Xq 6 RK Z ?_;refine Xw [vs a.Id, vi r3.Kind, G d6 d7 d8, G none 0 0] lb Z Z sz44 Z Z fun q6 fo lc => ?_;have ld := il.wr 0 Z fo;have io := Gm.tq im fo (hv_new de (Xg d9));refine Xb ⟨io, ?_⟩;refine Yg RK ?_;have fp := (il.sw (k9.so _ fn (Xg d9)) 1 0 Z Z Z fo);exact ⟨r3, fm, d6, d7, d8, (Xt Z), (Gr.t0 b5 io.g0), ld, (jg_cons b5.size (hv_new de (Xg d9)) (jg_cons b5.size (hv_hge cg ik (q := 0) Z) jg_nil)), fp, lc, H⟩
  refine Ya [vs [], .int .i64 0, G none 0 0, G none 0 0] ze44 fun ii fq ea hu194 fr lf => ?_;have ip := d5.own fr (some fq) (X9 ea hu194);have fs := Gm.tm cg fr;refine Xb ⟨fs, ?_⟩;refine Xq 3 RK Z ?_;have lg := d5.stown _ fr (Xg ea);have lh := ((id.st fl).st lg);refine Xs go115 (F82.calls H ip.ok lh) Z ?_;rintro _ q7 ⟨r3, eb, ec, ed, rfl, H, ft, li, iq, lj⟩;have ir := ip.owns ft li iq;have fu := Gm.tm fs ft;refine Xb ⟨fu, ?_⟩;refine Xo 4 Z RK fu (Yi (.agg #[vs a.Id, vi r3.Kind, G eb ec ed, G none 0 0]) RF) ?_;refine Xq 6 RK Z ?_;have fp := (lf.k0 ft);refine Xw [vs a.Id, vi r3.Kind, G eb ec ed, G none 0 0] fp Z Z sz44 Z Z fun q8 fv lk => ?_;have it := ir.wr 1 Z fv;have iu := Gm.tq fu fv (hv_new cg (Xg ea));refine Xb ⟨iu, ?_⟩;refine Yg RK ?_;have ll := it.perm (.swap _ _ _);have lm := (it.sp (ir.sw lj 0 1 Z Z Z fv) (.swap _ _ _));have ln := lk;exact ⟨r3, fq, eb, ec, ed, (Xt Z), (Gr.t0 b5 iu.g0), ll, (jg_cons b5.size (hv_new cg (Xg ea)) (jg_cons b5.size (hv_hge fs iq (q := 0) Z) jg_nil)), lm, ln, H⟩
 rintro q9 c1 ⟨r3, ab, ac, ak, al, lo, fw, fx, iv, lp, lq, H⟩;obtain ⟨ra, rfl⟩ := Has.ins lo;refine Xc (Xd (Xa (Xm fa44_2 (Ad au 0) (Ad au 3) Z Z) ?_));have bw := fk.stos fw iv;have iw := (k1.st bw);refine Xa (Xp ag42 cL (Ad au 3) (G A7 n8 c9) Z (iw.cell Z)) (Xa (Xm fa44_2 (Ad ai 0) (Ad ai 3) Z Z) ?_);have ix := (ih.st bw);refine Xa (Xp ag42 cL (Ad ai 3) (G am an ao) Z (ix.cell Z)) (Xa (Xm fa44_2 (Ad av 0) (Ad av 3) Z Z) ?_);have iy := (k2.st bw);refine Xa (Xp ag42 cL (Ad av 3) (G a5 a6 a7) Z (iy.cell Z)) ?_;refine Xs go124 (F113.calls H fx.ok (ig.st bw) (ic.st bw) (ie.st bw)) Z ?_;rintro _ ee ⟨r4, ad, bi, bj, rfl, H, c2, lr, ef, ls⟩;have df : Ct [] w0 ee [bk ad, some ab, bk ac, some aw, bk aj, some aa] O := fx.owns c2 lr ef;refine Xf (G ad bi bj) Z (Xb (Xc (Xc (Xd (Xf (vi 0) Z (Xb (X8 ?_)))))));have iz := df.drop 3 Z;have i0 := iz.own (Gr.refl _ none) none (by simp);have lt : Ow kTag 93 ee ([bk none, bk ad, some ab, bk ac, bk aj, some aa] ++ O) (G none 0 0) [] := Ow.nil _ _ _ _;have i1 := i0.own (Gr.refl _ none) none (by simp);have lu : Ow kPt 49 ee ([bk none, bk none, bk ad, some ab, bk ac, bk aj, some aa] ++ O) (G none 0 0) [] := Ow.nil _ _ _ _;have lv := i1.own (Gr.refl _ none) none (by simp);have lw : Ow kTag 93 ee ([bk none, bk none, bk none, bk ad, some ab, bk ac, bk aj, some aa] ++ O) (G none 0 0) [] := Ow.nil _ _ _ _;obtain ⟨db, d4, fy, H⟩ := H;have b6 := fx.stos c2 ef;have b7 := df.std 3 Z;have b8 := iz.st0n;have b9 := i0.st0n;have ca := i1.st0n;have lx := ((((((kv.st bw).st b6).st b7).st b8).st b9).st ca);have ly := ((((((ic.st bw).st b6).st b7).st b8).st b9).st ca);have lz := ((((((kx.st bw).st b6).st b7).st b8).st b9).st ca);have l0 := ((((((ie.st bw).st b6).st b7).st b8).st b9).st ca);have l1 := ((((((ky.st bw).st b6).st b7).st b8).st b9).st ca);have l2 := ((((((ig.st bw).st b6).st b7).st b8).st b9).st ca);have l3 := ((((df.sd ((kz.sos fw iv).sos c2 ef) 4 3 Z Z Z).so none (Gr.refl _ none) (by simp)).so none (Gr.refl _ none) (by simp)).so none (Gr.refl _ none) (by simp));have l4 := ((((df.sd ls 0 3 Z Z Z).so none (Gr.refl _ none) (by simp)).so none (Gr.refl _ none) (by simp)).so none (Gr.refl _ none) (by simp));have l5 := ((((df.sd (lp.sos c2 ef) 2 3 Z Z Z).so none (Gr.refl _ none) (by simp)).so none (Gr.refl _ none) (by simp)).so none (Gr.refl _ none) (by simp));have l6 := ((lt.so none (Gr.refl _ none) (by simp)).so none (Gr.refl _ none) (by simp));have l7 := (lu.so none (Gr.refl _ none) (by simp));have l8 := (((((iw.st b6).st b7).st b8).st b9).st ca);have l9 := (((((ix.st b6).st b7).st b8).st b9).st ca);have ma := (((((iy.st b6).st b7).st b8).st b9).st ca);have mb := ((k3.k0 fw).k0 c2);have mc := (lq.k0 c2);refine Ys (α := (List Str) × (Option Addr) × Nat × Nat × Int × (List Tag) × (Option Addr) × Nat × Nat) (fun (xs4, ag, bz, b0, i2, xs5, ae, ax, ay) t ap => db xs4 i2 xs5 ∧ Has t [(3, Pz au), (4, Pz ai), (5, Pz av), (6, Pz aa), (8, G ag bz b0), (11, Pz ab), (12, G ad bi bj), (13, vi i2)] ∧ Cw [] w0 ap [bk none, bk none, bk ae, bk ad, some ab, bk ac, bk ag, some aa] O fun M => Sl kPt ap (Fr M) (G a2 a3 a4) a.Shape.Pts ∧ Sl kTag ap (Fr M) (G am an ao) a.Tags ∧ Sl kPt ap (Fr M) (G bp bq br) b.Shape.Pts ∧ Sl kTag ap (Fr M) (G a5 a6 a7) b.Tags ∧ Sl kPt ap (Fr M) (G A2 n3 c4) o.Shape.Pts ∧ Sl kTag ap (Fr M) (G A7 n8 c9) o.Tags ∧ Ow Kd.str 9 ap M (G ag bz b0) xs4 ∧ Ow Kd.str 9 ap M (G ad bi bj) r4 ∧ Ow kPt 49 ap M (G ac ak al) r3.Pts ∧ Ow kTag 93 ap M (G ae ax ay) xs5 ∧ Ow kPt 49 ap M (G none 0 0) ([] : List Pt) ∧ Ow kTag 93 ap M (G none 0 0) ([] : List Tag) ∧ Fb ap M au [vs o.Id, vi o.Shape.Kind, G A2 n3 c4, G A7 n8 c9] ∧ Fb ap M ai [vs a.Id, vi a.Shape.Kind, G a2 a3 a4, G am an ao] ∧ Fb ap M av [vs b.Id, vi b.Shape.Kind, G bp bq br, G a5 a6 a7] ∧ Bx ap aa [vs [], vi 0, G none 0 0, G none 0 0] ∧ Bx ap ab [vs a.Id, vi r3.Kind, G ac ak al, G ae ax ay]) (fun (xs4, _, _, _, i2, xs5, _, _, _) => d4 xs4 i2 xs5) (xs, aj, c8, da, 0, ([] : List Tag), none, 0, 0) ⟨fy, (Xt Z), lv, lx, ly, lz, l0, l1, l2, l3, l4, l5, l6, l7, lw, l8, l9, ma, mb, mc⟩ ?_;rintro ⟨xs4, ag, bz, b0, i2, xs5, ae, ax, ay⟩ _ ap ⟨fy, md, cv, fz, eg, i3, f0, i4, f1, f2, f3, eh, ei, i5, i6, me, i7, mf, ej, ek⟩;obtain ⟨rb, rfl⟩ := Has.ins md;have H := H xs4 i2 xs5 fy;refine Xc (Xc (Xd (Xe (vi i2) Z (Xe (G ad bi bj) Z ?_))));have rc := f3.le;refine Xa (X4 u50_ ad bi bj f3.len Z) (Xa (Xx i2 (r4.length : Int) (decide (i2 < (r4.length : Int))) Z Z Z) (Xb ?_));refine Xu (decide (i2 < (r4.length : Int))) Z (fun f4 => ?_) (fun f4 => ?_)
 ·have H := Xi H f4;refine Xz (Xc (X8 (Xc (Yy 18 [] RK Z fun mg bl bx => ?_))));have el := cv.k0 bl;refine Xo 0 Z RK bx (Xm fa44_2 (Ad au 0) (Ad au 3) Z Z) ?_;have bf := cv.stn bl;have f5 := (me.st bf);refine Xo 1 Z RK bx (Y5 ag42 cR (Ad au 3) (G A7 n8 c9) Z (f5.cell Z) nm_nil) ?_;refine Xo 2 Z RK bx (Xm fa44_2 (Ad ai 0) (Ad ai 3) Z Z) ?_;have f6 := (i7.st bf);refine Xo 3 Z RK bx (Y5 ag42 cR (Ad ai 3) (G am an ao) Z (f6.cell Z) nm_nil) ?_;refine Xo 4 Z RK bx (Xm fa44_2 (Ad av 0) (Ad av 3) Z Z) ?_;have f7 := (mf.st bf);refine Xo 5 Z RK bx (Y5 ag42 cR (Ad av 3) (G a5 a6 a7) Z (f7.cell Z) nm_nil) ?_;refine Xo 6 Z RK bx (Yc (G ad bi bj) Z) ?_;refine Xo 7 Z RK bx (Yc (vi i2) Z) ?_;obtain ⟨i8, H⟩ := H;have em := (f3.sn bl);obtain ⟨i9, rd, mh, mi, mj⟩ := em.get default RD i2 i8;obtain ⟨rfl, ml⟩ := Kd.str.op mi;refine Xo 8 Z RK bx (X3 u50_ Zl ad i9 bi bj em.len i2 Z mh Z i8) ?_;refine Xo 9 Z RK bx (Y5 ag9 cR (i9.add (i2.toNat * 1)) (vs (nth r4 i2)) Z (mj 0 _ Z) nm_nil) ?_;refine Xq 10 RK Z ?_;refine Xs go125 (F135.calls H el.ok (f1.st bf) (eg.st bf) (f0.st bf) ml) Z ?_;rintro _ re ⟨r5, r6, r7, rfl, H, az, ja⟩;have f8 := el.k0 az;have ch := Gm.tm bx az;refine Xb ⟨ch, ?_⟩;refine Xo 11 Z RK ch (Yc (.tuple #[vs r5, vb r6, vb r7]) Z) ?_;refine Xo 12 Z RK ch (Yo [vs r5, vb r6, vb r7] 0 (vs r5) Z Z) ?_;refine Xo 13 Z RK ch (Yo [vs r5, vb r6, vb r7] 1 (vb r6) Z Z) ?_;refine Xo 14 Z RK ch (Yo [vs r5, vb r6, vb r7] 2 (vb r7) Z Z) ?_;refine Xo 15 Z RK ch (Y7 (vs r5) Z) ?_;refine Xo 16 Z RK ch (Y7 (vb r6) Z) ?_;refine Xo 17 Z RK ch (Y7 (vb r7) Z) ?_;refine Yg RK ?_;refine Xc (Xc (Xd (Xe (vb r7) Z (Xa (Yr r7 Z) (Xb ?_)))));obtain ⟨dc, H, mm⟩ := H;refine Y1 (J := (fun t a8 => ∃ (xs6 : List Str) (af : Option Addr) (ci cj : Nat), dc xs6 ∧ Has t [(3, Pz au), (4, Pz ai), (5, Pz av), (6, Pz aa), (8, G af ci cj), (11, Pz ab), (12, G ad bi bj), (13, vi i2), (14, vs r5), (15, vb r6)] ∧ Cw [] w0 a8 [bk none, bk none, bk ae, bk ad, some ab, bk ac, bk af, some aa] O fun M => Sl kPt a8 (Fr M) (G a2 a3 a4) a.Shape.Pts ∧ Sl kTag a8 (Fr M) (G am an ao) a.Tags ∧ Sl kPt a8 (Fr M) (G bp bq br) b.Shape.Pts ∧ Sl kTag a8 (Fr M) (G a5 a6 a7) b.Tags ∧ Sl kPt a8 (Fr M) (G A2 n3 c4) o.Shape.Pts ∧ Sl kTag a8 (Fr M) (G A7 n8 c9) o.Tags ∧ Ow Kd.str 9 a8 M (G af ci cj) xs6 ∧ Ow Kd.str 9 a8 M (G ad bi bj) r4 ∧ Ow kPt 49 a8 M (G ac ak al) r3.Pts ∧ Ow kTag 93 a8 M (G ae ax ay) xs5 ∧ Ow kPt 49 a8 M (G none 0 0) ([] : List Pt) ∧ Ow kTag 93 a8 M (G none 0 0) ([] : List Tag) ∧ Fb a8 M au [vs o.Id, vi o.Shape.Kind, G A2 n3 c4, G A7 n8 c9] ∧ Fb a8 M ai [vs a.Id, vi a.Shape.Kind, G a2 a3 a4, G am an ao] ∧ Fb a8 M av [vs b.Id, vi b.Shape.Kind, G bp bq br, G a5 a6 a7] ∧ Bx a8 aa [vs [], vi 0, G none 0 0, G none 0 0] ∧ Bx a8 ab [vs a.Id, vi r3.Kind, G ac ak al, G ae ax ay])) ?_ ?_
  ·refine Xu (!r7) Z (fun f9 => ?_) (fun f9 => ?_)
   ·have H := Xi H f9;refine Xd (Xe (G ag bz b0) Z (Xe (G ad bi bj) Z (Xe (vi i2) Z ?_)));obtain ⟨jb, H⟩ := H;have ga := (em.sn az);obtain ⟨jc, rf, mn, mo, mp⟩ := ga.get default RD i2 jb;obtain ⟨rfl, rg⟩ := Kd.str.op mo;refine Xa (X3 u50_ Zl ad jc bi bj ga.len i2 Z mn Z jb) (Xa (Xp ag9 cL (jc.add (i2.toNat * 1)) (vs (nth r4 i2)) Z (mp 0 _ Z)) ?_);obtain ⟨jd, H⟩ := H;refine Xa (Zm ([116, 97, 103, 32] : Str) (nth r4 i2) Z Z jd) (X7 (kd := Kd.str) Yu f8 ([(([116, 97, 103, 32] : Str) ++ (nth r4 i2))] : List Str) (cells := [vs (([116, 97, 103, 32] : Str) ++ (nth r4 i2))]) ⟨[vs (([116, 97, 103, 32] : Str) ++ (nth r4 i2))], _, Z, ⟨Z, (lim_cat jd)⟩, Z⟩ RF fun rh mq mr ms cb hr2430 ck mt => ?_);obtain ⟨mu, H⟩ := H;have mv := (((f2.sn bl).sn az).so _ cb hr2430);refine Yf Yu ck (G ag bz b0) xs4 ([(([116, 97, 103, 32] : Str) ++ (nth r4 i2))] : List Str) Z mv (G mq mr ms) Z mt.sx 7 Z mu fun ri je jf jg cw bs cl mw => ?_;refine Xf (G je jf jg) Z (Xb ?_);have mx := cl.drop 0 Z;have cc := el.stn az;have cd := f8.stown _ cb hr2430;have ce := cl.std 0 Z;have my := (((((fz.st bf).st cc).st cd).st bs).st ce);have mz := (((((eg.st bf).st cc).st cd).st bs).st ce);have m0 := (((((i3.st bf).st cc).st cd).st bs).st ce);have m1 := (((((f0.st bf).st cc).st cd).st bs).st ce);have m2 := (((((i4.st bf).st cc).st cd).st bs).st ce);have m3 := (((((f1.st bf).st cc).st cd).st bs).st ce);have m4 := (cl.sd mw 7 0 Z Z Z);have m5 := (cl.sd (ck.sm (ga.so _ cb hr2430) 4 7 Z Z Z cw bs) 4 0 Z Z Z);have m6 := (cl.sd (ck.sm (((eh.sn bl).sn az).so _ cb hr2430) 6 7 Z Z Z cw bs) 6 0 Z Z Z);have m7 := (cl.sd (ck.sm (((ei.sn bl).sn az).so _ cb hr2430) 3 7 Z Z Z cw bs) 3 0 Z Z Z);have m8 := (cl.sd (ck.sm (((i5.sn bl).sn az).so _ cb hr2430) 2 7 Z Z Z cw bs) 2 0 Z Z Z);have m9 := (cl.sd (ck.sm (((i6.sn bl).sn az).so _ cb hr2430) 1 7 Z Z Z cw bs) 1 0 Z Z Z);have na := ((((f5.st cc).st cd).st bs).st ce);have nb := ((((f6.st cc).st cd).st bs).st ce);have nc := ((((f7.st cc).st cd).st bs).st ce);have nd := (ck.bm (((ej.k0 bl).k0 az).k0 cb) 8 7 Z Z Z cw);have ne := (ck.bm (((ek.k0 bl).k0 az).k0 cb) 5 7 Z Z Z cw);exact ⟨(xs4 ++ ([(([116, 97, 103, 32] : Str) ++ (nth r4 i2))] : List Str)), je, jf, jg, H, (Xt Z), mx, my, mz, m0, m1, m2, m3, m4, m5, m6, m7, m8, m9, na, nb, nc, nd, ne⟩
   have H := Xj H f9;refine Xz ?_;have cf := el.stn az;have nf := ((fz.st bf).st cf);have ng := ((eg.st bf).st cf);have nh := ((i3.st bf).st cf);have ni := ((f0.st bf).st cf);have nj := ((i4.st bf).st cf);have nk := ((f1.st bf).st cf);have nl := ((f2.sn bl).sn az);have nm := (em.sn az);have nn := ((eh.sn bl).sn az);have no := ((ei.sn bl).sn az);have np := ((i5.sn bl).sn az);have nq := ((i6.sn bl).sn az);have nr := (f5.st cf);have ns := (f6.st cf);have nt := (f7.st cf);have nu := ((ej.k0 bl).k0 az);have nv := ((ek.k0 bl).k0 az);exact ⟨xs4, ag, bz, b0, H, (Xt Z), f8, nf, ng, nh, ni, nj, nk, nl, nm, nn, no, np, nq, nr, ns, nt, nu, nv⟩
  rintro rj a8 ⟨xs6, af, ci, cj, nw, nx, en, gb, gc, gd, gf, gg, gh, gi, jh, gj, gk, gl, gm, gn, gp, gq, gs, gt⟩;obtain ⟨rk, rfl⟩ := Has.ins nx;have H := mm xs6 nw;refine Xc (Xd (Xe (vb r6) Z (Xb ?_)));obtain ⟨dd, H, ny⟩ := H;refine Y1 (J := (fun t a9 => ∃ (xs7 : List Tag) (a0 : Option Addr) (eo ep : Nat), dd xs7 ∧ Has t [(3, Pz au), (4, Pz ai), (5, Pz av), (6, Pz aa), (8, G af ci cj), (11, Pz ab), (12, G ad bi bj), (13, vi i2)] ∧ Cw [] w0 a9 [bk none, bk none, bk a0, bk ad, some ab, bk ac, bk af, some aa] O fun M => Sl kPt a9 (Fr M) (G a2 a3 a4) a.Shape.Pts ∧ Sl kTag a9 (Fr M) (G am an ao) a.Tags ∧ Sl kPt a9 (Fr M) (G bp bq br) b.Shape.Pts ∧ Sl kTag a9 (Fr M) (G a5 a6 a7) b.Tags ∧ Sl kPt a9 (Fr M) (G A2 n3 c4) o.Shape.Pts ∧ Sl kTag a9 (Fr M) (G A7 n8 c9) o.Tags ∧ Ow Kd.str 9 a9 M (G af ci cj) xs6 ∧ Ow Kd.str 9 a9 M (G ad bi bj) r4 ∧ Ow kPt 49 a9 M (G ac ak al) r3.Pts ∧ Ow kTag 93 a9 M (G a0 eo ep) xs7 ∧ Ow kPt 49 a9 M (G none 0 0) ([] : List Pt) ∧ Ow kTag 93 a9 M (G none 0 0) ([] : List Tag) ∧ Fb a9 M au [vs o.Id, vi o.Shape.Kind, G A2 n3 c4, G A7 n8 c9] ∧ Fb a9 M ai [vs a.Id, vi a.Shape.Kind, G a2 a3 a4, G am an ao] ∧ Fb a9 M av [vs b.Id, vi b.Shape.Kind, G bp bq br, G a5 a6 a7] ∧ Bx a9 aa [vs [], vi 0, G none 0 0, G none 0 0] ∧ Bx a9 ab [vs a.Id, vi r3.Kind, G ac ak al, G a0 eo ep])) ?_ ?_
  ·refine Xu r6 Z (fun gu => ?_) (fun gu => ?_)
   ·have H := Xi H gu;obtain ⟨ji, H⟩ := H;obtain ⟨jj, H⟩ := H;refine Y1 (J := (fun t ba => ∃ (a1 : Option Addr) (eq er : Nat), Has t [(3, Pz au), (4, Pz ai), (5, Pz av), (6, Pz aa), (8, G af ci cj), (11, Pz ab), (12, G ad bi bj), (13, vi i2)] ∧ Cw [] w0 ba [bk none, bk none, bk a1, bk ad, some ab, bk ac, bk af, some aa] O fun M => Sl kPt ba (Fr M) (G a2 a3 a4) a.Shape.Pts ∧ Sl kTag ba (Fr M) (G am an ao) a.Tags ∧ Sl kPt ba (Fr M) (G bp bq br) b.Shape.Pts ∧ Sl kTag ba (Fr M) (G a5 a6 a7) b.Tags ∧ Sl kPt ba (Fr M) (G A2 n3 c4) o.Shape.Pts ∧ Sl kTag ba (Fr M) (G A7 n8 c9) o.Tags ∧ Ow Kd.str 9 ba M (G af ci cj) xs6 ∧ Ow Kd.str 9 ba M (G ad bi bj) r4 ∧ Ow kPt 49 ba M (G ac ak al) r3.Pts ∧ Ow kTag 93 ba M (G a1 eq er) (xs5 ++ ([(⟨(nth r4 i2), r5⟩ : Tag)] : List Tag)) ∧ Ow kPt 49 ba M (G none 0 0) ([] : List Pt) ∧ Ow kTag 93 ba M (G none 0 0) ([] : List Tag) ∧ Fb ba M au [vs o.Id, vi o.Shape.Kind, G A2 n3 c4, G A7 n8 c9] ∧ Fb ba M ai [vs a.Id, vi a.Shape.Kind, G a2 a3 a4, G am an ao] ∧ Fb ba M av [vs b.Id, vi b.Shape.Kind, G bp bq br, G a5 a6 a7] ∧ Bx ba aa [vs [], vi 0, G none 0 0, G none 0 0] ∧ Bx ba ab [vs a.Id, vi r3.Kind, G ac ak al, G a1 eq er])) ?_ ?_
    ·refine Yy 12 [bk ae, some ab] RK Z fun rl bg b1 => ?_;have c3 := en.k0 bg;refine Xo 0 Z RK b1 (Xm fa44_2 (Ad ab 0) (Ad ab 3) Z Z) ?_;refine Xo 2 Z RK b1 (Yc (G ad bi bj) Z) ?_;refine Xo 3 Z RK b1 (Yc (vi i2) Z) ?_;have es := (jh.sn bg);obtain ⟨jk, rm, gw, nz, n0⟩ := es.get default RD i2 ji;obtain ⟨rfl, jl⟩ := Kd.str.op nz;refine Xo 4 Z RK b1 (X3 u50_ Zl ad jk bi bj es.len i2 Z gw Z ji) ?_;refine Xo 5 Z RK b1 (Y5 ag9 cR (jk.add (i2.toNat * 1)) (vs (nth r4 i2)) Z (n0 0 _ Z) (nm_cons (by simp only [add_block]; exact (ow_ne c3 (j := 3) (i := 2) Z gw Z RD)) (nm_cons (by simp only [add_block]; exact (ow_ne c3 (j := 3) (i := 4) Z gw Z RD)) nm_nil))) ?_;refine Xo 6 Z RK b1 (Yc (vs r5) Z) ?_;refine Xo 7 Z RK b1 (Yi (.agg #[vs (nth r4 i2), vs r5]) RF) ?_;refine Yw 1 8 RK Z Z ?_ ?_
     ·have jm := (gt.k0 bg);refine Xa (Xp ag42 cL (Ad ab 3) (G ae ax ay) Z (jm.cell Z)) ?_;refine Xb ⟨b1, ?_⟩;refine Xq 8 RK Z ?_;refine X7 (kd := kTag) Yl c3 ([(⟨(nth r4 i2), r5⟩ : Tag)] : List Tag) (cells := [vs (nth r4 i2), vs r5]) ⟨[vs (nth r4 i2), vs r5], _, Z, (kTag.mk _ _ (⟨(nth r4 i2), r5⟩ : Tag) jl ja), Z⟩ RF fun rn jn n1 n2 b2 hr2540 cm n4 => ?_;have gx := Gm.tm b1 b2;refine Xb ⟨gx, ?_⟩;refine Xq 9 RK Z ?_;have gy := ((gk.sn bg).so _ b2 hr2540);refine Yf Yl cm (G ae ax ay) xs5 ([(⟨(nth r4 i2), r5⟩ : Tag)] : List Tag) Z gy (G jn n1 n2) Z n4.sx 3 Z jj fun n5 cx cy cz bn ah aq gz => ?_;have c0 := Gm.tq gx bn (hv_mem 0 Z);have n6 := hv_app (L := [bk jn, bk none, bk none, bk ae, bk ad, some ab, bk ac, bk af, some aa]) (O := O) (i := 3) gx Z (hv_mem 0 Z) ah aq;refine Xb ⟨c0, ?_⟩;refine Xo 10 Z RK c0 (Xm fa44_2 (Ad ab 0) (Ad ab 3) Z Z) ?_;refine Xq 11 RK Z ?_;have g1 := (cm.bm (jm.k0 b2) 5 3 Z Z Z bn);refine Yq 3 [G cx cy cz] [vs a.Id, vi r3.Kind, G ac ak al, G cx cy cz] g1 Z Z sz42 Z Z Z fun n7 ar g2 => ?_;have bo := aq.wr 5 Z ar;have g3 := Gm.tq c0 ar (hv_mem 1 Z);refine Xb ⟨g3, ?_⟩;refine Yg RK ?_;have g4 := bo.drop 0 Z;have bb := en.stn bg;have bc := c3.stown _ b2 hr2540;have bd := aq.stw 5 Z ar;have be := bo.std 0 Z;have g5 := (((((gb.st bb).st bc).st ah).st bd).st be);have g6 := (((((gc.st bb).st bc).st ah).st bd).st be);have g7 := (((((gd.st bb).st bc).st ah).st bd).st be);have g8 := (((((gf.st bb).st bc).st ah).st bd).st be);have g9 := (((((gg.st bb).st bc).st ah).st bd).st be);have ha := (((((gh.st bb).st bc).st ah).st bd).st be);have hb := (bo.sd (aq.sw (cm.sm ((gi.sn bg).so _ b2 hr2540) 7 3 Z Z Z bn ah) 7 5 Z Z Z ar) 7 0 Z Z Z);have hc := (bo.sd (aq.sw (cm.sm (es.so _ b2 hr2540) 4 3 Z Z Z bn ah) 4 5 Z Z Z ar) 4 0 Z Z Z);have hd := (bo.sd (aq.sw (cm.sm ((gj.sn bg).so _ b2 hr2540) 6 3 Z Z Z bn ah) 6 5 Z Z Z ar) 6 0 Z Z Z);have he := (bo.sd (aq.sw gz 3 5 Z Z Z ar) 3 0 Z Z Z);have hf := (bo.sd (aq.sw (cm.sm ((gl.sn bg).so _ b2 hr2540) 2 3 Z Z Z bn ah) 2 5 Z Z Z ar) 2 0 Z Z Z);have hg := (bo.sd (aq.sw (cm.sm ((gm.sn bg).so _ b2 hr2540) 1 3 Z Z Z bn ah) 1 5 Z Z Z ar) 1 0 Z Z Z);have hh := (((((gn.st bb).st bc).st ah).st bd).st be);have hi := (((((gp.st bb).st bc).st ah).st bd).st be);have hj := (((((gq.st bb).st bc).st ah).st bd).st be);have hk := (aq.bm (cm.bm ((gs.k0 bg).k0 b2) 8 3 Z Z Z bn) 8 5 Z Z Z ar);have hl := g2;exact ⟨cx, cy, cz, (Xt Z), g4, g5, g6, g7, g8, g9, ha, hb, hc, hd, he, hf, hg, hh, hi, hj, hk, hl⟩
     refine X7 (kd := kTag) Yl c3 ([(⟨(nth r4 i2), r5⟩ : Tag)] : List Tag) (cells := [vs (nth r4 i2), vs r5]) ⟨[vs (nth r4 i2), vs r5], _, Z, (kTag.mk _ _ (⟨(nth r4 i2), r5⟩ : Tag) jl ja), Z⟩ RF fun ro jo n9 oa b3 hr2539 cn ob => ?_;have et := Gm.tm b1 b3;refine Xb ⟨et, ?_⟩;refine Xq 1 RK Z ?_;have jp := ((gt.k0 bg).k0 b3);refine Xa (Xp ag42 cL (Ad ab 3) (G ae ax ay) Z (jp.cell Z)) ?_;refine Xb ⟨et, ?_⟩;refine Xq 9 RK Z ?_;have gy := ((gk.sn bg).so _ b3 hr2539);refine Yf Yl cn (G ae ax ay) xs5 ([(⟨(nth r4 i2), r5⟩ : Tag)] : List Tag) Z gy (G jo n9 oa) Z ob.sx 3 Z jj fun n5 cx cy cz bn ah aq gz => ?_;have c0 := Gm.tq et bn (hv_mem 0 Z);have n6 := hv_app (L := [bk jo, bk none, bk none, bk ae, bk ad, some ab, bk ac, bk af, some aa]) (O := O) (i := 3) et Z (hv_mem 0 Z) ah aq;refine Xb ⟨c0, ?_⟩;refine Xo 10 Z RK c0 (Xm fa44_2 (Ad ab 0) (Ad ab 3) Z Z) ?_;refine Xq 11 RK Z ?_;have g1 := (cn.bm jp 5 3 Z Z Z bn);refine Yq 3 [G cx cy cz] [vs a.Id, vi r3.Kind, G ac ak al, G cx cy cz] g1 Z Z sz42 Z Z Z fun n7 ar g2 => ?_;have bo := aq.wr 5 Z ar;have g3 := Gm.tq c0 ar (hv_mem 1 Z);refine Xb ⟨g3, ?_⟩;refine Yg RK ?_;have g4 := bo.drop 0 Z;have bb := en.stn bg;have bc := c3.stown _ b3 hr2539;have bd := aq.stw 5 Z ar;have be := bo.std 0 Z;have g5 := (((((gb.st bb).st bc).st ah).st bd).st be);have g6 := (((((gc.st bb).st bc).st ah).st bd).st be);have g7 := (((((gd.st bb).st bc).st ah).st bd).st be);have g8 := (((((gf.st bb).st bc).st ah).st bd).st be);have g9 := (((((gg.st bb).st bc).st ah).st bd).st be);have ha := (((((gh.st bb).st bc).st ah).st bd).st be);have hb := (bo.sd (aq.sw (cn.sm ((gi.sn bg).so _ b3 hr2539) 7 3 Z Z Z bn ah) 7 5 Z Z Z ar) 7 0 Z Z Z);have hc := (bo.sd (aq.sw (cn.sm (es.so _ b3 hr2539) 4 3 Z Z Z bn ah) 4 5 Z Z Z ar) 4 0 Z Z Z);have hd := (bo.sd (aq.sw (cn.sm ((gj.sn bg).so _ b3 hr2539) 6 3 Z Z Z bn ah) 6 5 Z Z Z ar) 6 0 Z Z Z);have he := (bo.sd (aq.sw gz 3 5 Z Z Z ar) 3 0 Z Z Z);have hf := (bo.sd (aq.sw (cn.sm ((gl.sn bg).so _ b3 hr2539) 2 3 Z Z Z bn ah) 2 5 Z Z Z ar) 2 0 Z Z Z);have hg := (bo.sd (aq.sw (cn.sm ((gm.sn bg).so _ b3 hr2539) 1 3 Z Z Z bn ah) 1 5 Z Z Z ar) 1 0 Z Z Z);have hh := (((((gn.st bb).st bc).st ah).st bd).st be);have hi := (((((gp.st bb).st bc).st ah).st bd).st be);have hj := (((((gq.st bb).st bc).st ah).st bd).st be);have hk := (aq.bm (cn.bm ((gs.k0 bg).k0 b3) 8 3 Z Z Z bn) 8 5 Z Z Z ar);have hl := g2;exact ⟨cx, cy, cz, (Xt Z), g4, g5, g6, g7, g8, g9, ha, hb, hc, hd, he, hf, hg, hh, hi, hj, hk, hl⟩
    rintro rp ba ⟨a1, eq, er, oc, od, oe, og, oh, oi, oj, ol, om, on, oo, oq, os, ot, ou, ov, ow, ox, oy⟩;obtain ⟨rq, rfl⟩ := Has.ins oc;exact ⟨(xs5 ++ ([(⟨(nth r4 i2), r5⟩ : Tag)] : List Tag)), a1, eq, er, H, (Xt Z), od, oe, og, oh, oi, oj, ol, om, on, oo, oq, os, ot, ou, ov, ow, ox, oy⟩
   have H := Xj H gu;exact Xz ⟨xs5, ae, ax, ay, H, (Xt Z), en, gb, gc, gd, gf, gg, gh, gi, jh, gj, gk, gl, gm, gn, gp, gq, gs, gt⟩
  rintro rr a9 ⟨xs7, a0, eo, ep, oz, o0, o1, o2, o3, o4, o5, o6, o7, o8, o9, pa, pb, pd, pe, pf, pg, ph, pi, pj⟩;obtain ⟨rs, rfl⟩ := Has.ins o0;have H := ny xs7 oz;refine Xd (Xe (vi i2) Z ?_);obtain ⟨pk, H⟩ := H;refine Xa (X6 i2 1 Z Z pk) (Xf (vi (i2 + 1)) Z (Xb ?_));obtain ⟨pl, pm⟩ := H;exact ⟨(xs6, af, ci, cj, i2 + 1, xs7, a0, eo, ep), pm, pl, (Xt Z), o1, o2, o3, o4, o5, o6, o7, o8, o9, pa, pb, pd, pe, pf, pg, ph, pi, pj⟩
 have H := Xj H f4;refine Ym (xin_hit ?_);refine Xc (Xc (Xd (Xa (Xr ag44 sz44 cL (Ad ab 0) [vs a.Id, vi r3.Kind, G ac ak al, G ae ax ay] Z Z (ek.cells (off := 00) Z)) ?_)));have pn := cv.gv eh 5 Z;have hm := cv.drop 5 Z;have po := (cv.sd ei 2 5 Z Z Z);have pp := hm.gv po 2 Z;have pq : Ct [] w0 ap [bk none, bk none, bk ad, some ab, bk ag, some aa] O := hm.drop 2 Z;have pr := hm.std 2 Z;refine Xs go24 (F87.calls H pq.ok e3 (pn.st pr) pp) Z ?_;rintro _ ps ⟨r8, rfl, H, co⟩;have dg := cv.k0 co;refine Xa (Yr r8 Z) (Xb ?_);refine Xu (!r8) Z (fun hn => ?_) (fun hn => ?_)
 ·have H := Xi H hn;refine Xc ?_;have eu : ([bk none, bk none, bk ae, bk ad, some ab, bk ac, bk ag, some aa] : Ob).Perm ((bk ae :: bk ad :: some ab :: bk ac :: bk ag :: []) ++ [bk none, bk none, some aa]) := RP;have jq := dg.drops eu;refine Xd ?_;have ho := cv.stn co;have pt := ((i7.st ho).st (St.drops _ O eu));refine Xa (Xr ag44 sz44 cL (Ad ai 0) [vs a.Id, vi a.Shape.Kind, G a2 a3 a4, G am an ao] Z Z (pt.cells (off := 00) Z)) ?_;have pu := ((fz.st ho).st (St.drops _ O eu));have pv := ((eg.st ho).st (St.drops _ O eu));refine Xs go64 (F83.calls H jq.ok e3 pu pv) Z ?_;rintro _ pw ⟨r9, c5, ev, ew, c6, ex, ey, rfl, H, jr, px, py, pz, p0, p1⟩;have p2 : Ct [] w0 pw [bk c5, bk c6, bk none, bk none, some aa] O := jq.owns jr px py;refine X7 (kd := Kd.str) Yu p2 ([([109, 117, 99, 104] : Str)] : List Str) (cells := [vs ([109, 117, 99, 104] : Str)]) ⟨[vs ([109, 117, 99, 104] : Str)], _, Z, ⟨Z, (by decide : Lim ([109, 117, 99, 104] : Str))⟩, Z⟩ RF fun rt ez hp hq hr hr4606 e0 p3 => ?_;have p4 := (((ej.k0 co).k0 jr).k0 hr);refine Xw [vs r9.Id, vi r9.Shape.Kind, G c5 ev ew, G c6 ex ey] p4 Z Z sz44 Z Z fun p5 e1 p6 => ?_;have dh := e0.wr 5 Z e1;refine Xf (G ez hp hq) Z (Xb (Xk ?_));have p7 := dh.bgv p6 5 Z;have di := dh.drop 5 Z;have dj := di.drop 3 Z;have dk : Ct [] w0 p5 [bk ez, bk c5, bk c6] O := dj.drop 3 Z;have dl := dk.perm (.swap _ _ _);have hs := dl.perm (.cons _ (.swap _ _ _));have p8 := di.std 3 Z;have p9 := dj.std 3 Z;have qa := dk.stp (.swap _ _ _);have qb := dl.stp (.cons _ (.swap _ _ _));have qc := ((((p7.st p8).st p9).st qa).st qb);have qd := (dl.sp (dk.sp (dj.sd (di.sd (dh.sd (e0.sw (p0.so _ hr hr4606) 1 5 Z Z Z e1) 1 5 Z Z Z) 1 3 Z Z Z) 1 3 Z Z Z) (.swap _ _ _)) (.cons _ (.swap _ _ _)));have qe := (dl.sp (dk.sp (dj.sd (di.sd (dh.sd (e0.sw (p1.so _ hr hr4606) 2 5 Z Z Z e1) 2 5 Z Z Z) 2 3 Z Z Z) 2 3 Z Z Z) (.swap _ _ _)) (.cons _ (.swap _ _ _)));have qf := (dl.sp (dk.sp (dj.sd (di.sd (dh.sd (e0.sw p3 0 5 Z Z Z e1) 0 5 Z Z Z) 0 3 Z Z Z) 0 3 Z Z Z) (.swap _ _ _)) (.cons _ (.swap _ _ _)));exact ⟨[.agg #[vs r9.Id, vi r9.Shape.Kind, G c5 ev ew, G c6 ex ey], G ez hp hq], ⟨_, _, Z, qc.1.res Z ag44 sz44, ⟨_, Z, Z⟩⟩, r9, ([([109, 117, 99, 104] : Str)] : List Str), c5, ev, ew, c6, ex, ey, ez, hp, hq, Z, H, hs.gr.g0, hs.ok, hs.ge, pz, qd, qe, qf⟩
 have H := Xj H hn;refine Xz (Xc (Xd ?_));have qg := (ek.k0 co);refine Xa (Xr ag44 sz44 cL (Ad ab 0) [vs a.Id, vi r3.Kind, G ac ak al, G ae ax ay] Z Z (qg.cells (off := 00) Z)) (Xe (G ag bz b0) Z ?_);have qh := (ej.k0 co);refine Xw [vs a.Id, vi r3.Kind, G ac ak al, G ae ax ay] qh Z Z sz44 Z Z fun js e2 qi => ?_;have dm := dg.wr 7 Z e2;refine Xf (G ag bz b0) Z (Xb (Xk ?_));have qj := dm.bgv qi 7 Z;have dn := dm.drop 7 Z;have dp : Ct [] w0 js [bk none, bk ae, bk ad, some ab, bk ac, bk ag] O := dn.drop 0 Z;have dq := dp.drop 0 Z;have dr := dq.drop 1 Z;have ds : Ct [] w0 js [bk ae, bk ac, bk ag] O := dr.drop 1 Z;have ht := ds.perm (.swap _ _ _);have qk := dn.std 0 Z;have ql := dp.std 0 Z;have qm := dq.std 1 Z;have qn := dr.std 1 Z;have qo := ds.stp (.swap _ _ _);have qp := (((((qj.st qk).st ql).st qm).st qn).st qo);have qq := (ds.sp (dr.sd (dq.sd (dp.sd (dn.sd (dm.sd (dg.sw (eh.sn co) 5 7 Z Z Z e2) 5 7 Z Z Z) 5 0 Z Z Z) 4 0 Z Z Z) 3 1 Z Z Z) 2 1 Z Z Z) (.swap _ _ _));have qr := (ds.sp (dr.sd (dq.sd (dp.sd (dn.sd (dm.sd (dg.sw (ei.sn co) 2 7 Z Z Z e2) 2 7 Z Z Z) 2 0 Z Z Z) 1 0 Z Z Z) 0 1 Z Z Z) 0 1 Z Z Z) (.swap _ _ _));have qs := (ds.sp (dr.sd (dq.sd (dp.sd (dn.sd (dm.sd (dg.sw (f2.sn co) 6 7 Z Z Z e2) 6 7 Z Z Z) 6 0 Z Z Z) 5 0 Z Z Z) 4 1 Z Z Z) 3 1 Z Z Z) (.swap _ _ _));exact ⟨[.agg #[vs a.Id, vi r3.Kind, G ac ak al, G ae ax ay], G ag bz b0], ⟨_, _, Z, qp.1.res Z ag44 sz44, ⟨_, Z, Z⟩⟩, (⟨a.Id, r3, xs5⟩ : Feat), xs4, ac, ak, al, ae, ax, ay, ag, bz, b0, Z, H, ht.gr.g0, ht.ok, ht.ge, e3, qq, qr, qs⟩
end Go.Proofs.YtlaaehjcooonfaaGreatDoor