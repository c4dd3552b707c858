/- It is proved here that the law FnDiffLines of the given program holds whatever it is handed: the walks through the code, the plain laws and the row, in this order.
   Conditions: none. -/
import Derived.Below
import Derived.ChangeArms
import Derived.ChangeOld
import Derived.ChangeSlices
import Derived.ChangeVars
import Derived.DataReads
import Derived.Deep.Quiet
import Derived.KernelRfl
import Derived.LaidHandle
import Derived.LaidLaws
import Derived.LaidMore
import Derived.Laws.Build
import Derived.Laws.IdiomStrings
import Derived.Laws.OwnMore
import Derived.Laws.Slices
import Derived.Laws.Strings2
import Derived.Laws.StructEq
import Derived.Lib.ItoaNum
import Derived.Lib.LaidTab
import Derived.MakeChecks
import Derived.OpenShut
import Derived.OpenVars
import Derived.ProofKit
import Derived.SevenTiedAt
import Derived.Shelf.LaysM
import Derived.Shelf.Slices.CompactS
import Derived.Shelf.Sort.Plain
import Derived.Shelf.Strconv.Itoa0
import Derived.Shelf.Strconv.Itoa1
import Derived.Shelf.Strconv.Itoa2
import Derived.Shelf.Strconv.Itoa3
import Derived.ShutString
import Derived.SizedLaws
import Derived.StillTail
import Derived.Stop.Joined
import Derived.Test.YtlaaehjcooonfaaDoorCards
import Derived.Test.YtlaaehjcooonfaaDoorProg
import Derived.Test.YtlaaehjcooonfaaDoorRows
import Derived.Test.YtlaaehjcooonfaaDoorTie
import Derived.WalkKit
import Derived.Test.YtlaaehjcooonfaaDoorCDiffLinesa
import Derived.Test.YtlaaehjcooonfaaDoorCDiffLinesb
namespace Go.Proofs
open Go.Shelf
def Tryd.lays317_ren : Go.Shelf.Ren := ⟨fun | 317 => 100 | n => n, fun | 3 => 3 | 46 => 134 | n => n, fun | n => n⟩
theorem Tryd.lays317 : Go.Proofs.Lays.n317 Tryd.prog Tryd.lays317_ren := {
  mixed := by kernel_rfl
  f317 := Tryd.func100.trans (congrArg some (by kernel_rfl))
  t3 := Tryd.underlying3
  a3 := Tryd.isAgg3
  z3 := Tryd.sizeOf3
  v3 := Tryd.zeroValue3
  t46 := Tryd.underlying134
  a46 := Tryd.isAgg134
  z46 := Tryd.sizeOf134
  v46 := Tryd.zeroValue134 }
open Go.Lib in
theorem Tryd.internal_strconv_log10Pow2 (x : Nat) (h : x ≤ 64) (w : World) :
    Calls Tryd.prog 100 #[.int .i64 x] w fun e w' => e = .returned (.int .i64 (Lib.l10 x)) ∧ w' = w := Any.internal_strconv_log10Pow2 Tryd.lays317 x h w
def Tryd.lays318_ren : Go.Shelf.Ren := ⟨fun | 318 => 102 | n => n, fun | 3 => 3 | 4 => 4 | n => n, fun | n => n⟩
theorem Tryd.lays318 : Go.Proofs.Lays.n318 Tryd.prog Tryd.lays318_ren := {
  mixed := by kernel_rfl
  f318 := Tryd.func102.trans (congrArg some (by kernel_rfl))
  t3 := Tryd.underlying3
  a3 := Tryd.isAgg3
  z3 := Tryd.sizeOf3
  v3 := Tryd.zeroValue3
  t4 := Tryd.underlying4
  a4 := Tryd.isAgg4
  z4 := Tryd.sizeOf4
  v4 := Tryd.zeroValue4 }
open Go.Lib in
theorem Tryd.internal_strconv_bool2_int (b : Bool) (w : World) :
    Calls Tryd.prog 102 #[.bool b] w fun e w' => e = .returned (.int .i64 (if b then 1 else 0)) ∧ w' = w := Any.internal_strconv_bool2_int Tryd.lays318 b w
def Tryd.lays283_ren : Go.Shelf.Ren := ⟨fun | 283 => 96 | n => n, fun | 3 => 3 | 9 => 9 | 4 => 4 | n => n, fun | n => n⟩
theorem Tryd.lays283 : Go.Proofs.Lays.n283 Tryd.prog Tryd.lays283_ren := {
  mixed := by kernel_rfl
  f283 := Tryd.func96.trans (congrArg some (by kernel_rfl))
  t3 := Tryd.underlying3
  a3 := Tryd.isAgg3
  z3 := Tryd.sizeOf3
  v3 := Tryd.zeroValue3
  t4 := Tryd.underlying4
  a4 := Tryd.isAgg4
  z4 := Tryd.sizeOf4
  v4 := Tryd.zeroValue4
  t9 := Tryd.underlying9
  a9 := Tryd.isAgg9
  z9 := Tryd.sizeOf9
  v9 := Tryd.zeroValue9 }
open Go.Lib in
theorem Tryd.internal_strconv_small (i : Nat) (h : i < 100) (w : World) :
    Calls Tryd.prog 96 #[.int .i64 i] w fun e w' => e = .returned (.string ⟨(Lib.decDigits i).toArray⟩) ∧ w' = w := Any.internal_strconv_small Tryd.lays283 i h w
def Tryd.laysM284_ren : Go.Shelf.Ren := ⟨fun | 284 => 97 | 129 => 101 | 317 => 100 | 318 => 102 | n => n, fun | 53 => 125 | 3 => 3 | 212 => 131 | 0 => 0 | 4 => 4 | 46 => 134 | 5 => 5 | 9 => 9 | n => n, fun | 17 => 1 | n => n⟩
theorem Tryd.laysM284 : Go.Proofs.LaysM.n284 Tryd.prog Tryd.laysM284_ren := {
  mixed := by kernel_rfl
  f129 := Tryd.func101.trans (congrArg some (by kernel_rfl))
  f284 := Tryd.func97.trans (congrArg some (by kernel_rfl))
  f317 := Tryd.func100.trans (congrArg some (by kernel_rfl))
  f318 := Tryd.func102.trans (congrArg some (by kernel_rfl))
  t0 := Tryd.underlying0
  a0 := Tryd.isAgg0
  z0 := Tryd.sizeOf0
  v0 := Tryd.zeroValue0
  t3 := Tryd.underlying3
  a3 := Tryd.isAgg3
  z3 := Tryd.sizeOf3
  v3 := Tryd.zeroValue3
  t4 := Tryd.underlying4
  a4 := Tryd.isAgg4
  z4 := Tryd.sizeOf4
  v4 := Tryd.zeroValue4
  t5 := Tryd.underlying5
  a5 := Tryd.isAgg5
  z5 := Tryd.sizeOf5
  v5 := Tryd.zeroValue5
  t9 := Tryd.underlying9
  a9 := Tryd.isAgg9
  z9 := Tryd.sizeOf9
  v9 := Tryd.zeroValue9
  t46 := Tryd.underlying134
  a46 := Tryd.isAgg134
  z46 := Tryd.sizeOf134
  v46 := Tryd.zeroValue134
  t53 := Tryd.underlying125
  a53 := Tryd.isAgg125
  z53 := Tryd.sizeOf125
  v53 := Tryd.zeroValue125
  t212 := Tryd.underlying131
  a212 := Tryd.isAgg131
  z212 := Tryd.sizeOf131
  v212 := Tryd.zeroValue131
  g17 := by kernel_rfl
  i0 := by kernel_rfl
  i3 := by kernel_rfl
  i4 := by kernel_rfl
  i5 := by kernel_rfl
  i9 := by kernel_rfl
  i46 := by kernel_rfl
  i53 := by kernel_rfl
  i212 := by kernel_rfl
  m17 := by kernel_rfl }
open Go.Lib in
theorem Tryd.internal_strconv_numDigits (u : Nat) (h1 : 1 ≤ u) (h2 : u < 18446744073709551616) (w : World) (htab : Lib.TabIs Tryd.prog w "internal/strconv.uint64pow10" .u64 Lib.pow10Tab) :
    Calls Tryd.prog 97 #[.int .u64 u] w fun e w' => e = .returned (.int .i64 (Lib.nDigits u)) ∧ w' = w := Any.internal_strconv_numDigits Tryd.laysM284 u h1 h2 w htab
def Tryd.lays285_ren : Go.Shelf.Ren := ⟨fun | 285 => 98 | n => n, fun | 37 => 29 | 53 => 125 | 3 => 3 | 4 => 4 | 51 => 132 | 9 => 9 | 5 => 5 | 0 => 0 | n => n, fun | n => n⟩
theorem Tryd.lays285 : Go.Proofs.Lays.n285 Tryd.prog Tryd.lays285_ren := {
  mixed := by kernel_rfl
  f285 := Tryd.func98.trans (congrArg some (by kernel_rfl))
  t0 := Tryd.underlying0
  a0 := Tryd.isAgg0
  z0 := Tryd.sizeOf0
  v0 := Tryd.zeroValue0
  t3 := Tryd.underlying3
  a3 := Tryd.isAgg3
  z3 := Tryd.sizeOf3
  v3 := Tryd.zeroValue3
  t4 := Tryd.underlying4
  a4 := Tryd.isAgg4
  z4 := Tryd.sizeOf4
  v4 := Tryd.zeroValue4
  t5 := Tryd.underlying5
  a5 := Tryd.isAgg5
  z5 := Tryd.sizeOf5
  v5 := Tryd.zeroValue5
  t9 := Tryd.underlying9
  a9 := Tryd.isAgg9
  z9 := Tryd.sizeOf9
  v9 := Tryd.zeroValue9
  t37 := Tryd.underlying29
  a37 := Tryd.isAgg29
  z37 := Tryd.sizeOf29
  v37 := Tryd.zeroValue29
  t51 := Tryd.underlying132
  a51 := Tryd.isAgg132
  z51 := Tryd.sizeOf132
  v51 := Tryd.zeroValue132
  t53 := Tryd.underlying125
  a53 := Tryd.isAgg125
  z53 := Tryd.sizeOf125
  v53 := Tryd.zeroValue125 }
open Go.RowKit Go.Sort Go.Lib in
theorem Tryd.internal_strconv_formatBase10 (blk off cap : Nat) (u : Nat) (d : Array UInt8) (w : World) (hH : Holds (fun (b : UInt8) => Value.int .u8 (b.toNat : Int)) w blk off d) (hu : u < 10 ^ d.size) (hu64 : u < 18446744073709551616) (hsz : d.size < 4611686018427387904) :
    Calls Tryd.prog 98 #[.slice (some ⟨blk, off, none⟩) d.size cap, .int .u64 u] w fun e w' =>
      e = .returned (.tuple #[]) ∧ ∃ (n v' : Nat) (dk : Array UInt8), w' = (putRow (fun (b : UInt8) => Value.int .u8 (b.toNat : Int)) w blk off dk).drewN n ∧ FmtInv d.size u 0 v' dk := Any.internal_strconv_formatBase10 Tryd.lays285 blk off cap u d w hH hu hu64 hsz
def Tryd.laysM246_ren : Go.Shelf.Ren := ⟨fun | 246 => 92 | 283 => 96 | 284 => 97 | 285 => 98 | 286 => 99 | 129 => 101 | 317 => 100 | 318 => 102 | 319 => 103 | 320 => 104 | 337 => 105 | 338 => 106 | n => n, fun | 2 => 2 | 3 => 3 | 9 => 9 | 4 => 4 | 171 => 124 | 0 => 0 | 53 => 125 | 37 => 29 | 5 => 5 | 173 => 128 | 212 => 131 | 51 => 132 | 20 => 20 | 213 => 133 | 46 => 134 | 232 => 137 | 233 => 138 | n => n, fun | 17 => 1 | 18 => 2 | 19 => 3 | n => n⟩
theorem Tryd.laysM246 : Go.Proofs.LaysM.n246 Tryd.prog Tryd.laysM246_ren := {
  mixed := by kernel_rfl
  f129 := Tryd.func101.trans (congrArg some (by kernel_rfl))
  f246 := Tryd.func92.trans (congrArg some (by kernel_rfl))
  f283 := Tryd.func96.trans (congrArg some (by kernel_rfl))
  f284 := Tryd.func97.trans (congrArg some (by kernel_rfl))
  f285 := Tryd.func98.trans (congrArg some (by kernel_rfl))
  f286 := Tryd.func99.trans (congrArg some (by kernel_rfl))
  f317 := Tryd.func100.trans (congrArg some (by kernel_rfl))
  f318 := Tryd.func102.trans (congrArg some (by kernel_rfl))
  f319 := Tryd.func103.trans (congrArg some (by kernel_rfl))
  f320 := Tryd.func104.trans (congrArg some (by kernel_rfl))
  f337 := Tryd.func105.trans (congrArg some (by kernel_rfl))
  f338 := Tryd.func106.trans (congrArg some (by kernel_rfl))
  t0 := Tryd.underlying0
  a0 := Tryd.isAgg0
  z0 := Tryd.sizeOf0
  v0 := Tryd.zeroValue0
  t2 := Tryd.underlying2
  a2 := Tryd.isAgg2
  z2 := Tryd.sizeOf2
  v2 := Tryd.zeroValue2
  t3 := Tryd.underlying3
  a3 := Tryd.isAgg3
  z3 := Tryd.sizeOf3
  v3 := Tryd.zeroValue3
  t4 := Tryd.underlying4
  a4 := Tryd.isAgg4
  z4 := Tryd.sizeOf4
  v4 := Tryd.zeroValue4
  t5 := Tryd.underlying5
  a5 := Tryd.isAgg5
  z5 := Tryd.sizeOf5
  v5 := Tryd.zeroValue5
  t9 := Tryd.underlying9
  a9 := Tryd.isAgg9
  z9 := Tryd.sizeOf9
  v9 := Tryd.zeroValue9
  t20 := Tryd.underlying20
  a20 := Tryd.isAgg20
  z20 := Tryd.sizeOf20
  v20 := Tryd.zeroValue20
  t37 := Tryd.underlying29
  a37 := Tryd.isAgg29
  z37 := Tryd.sizeOf29
  v37 := Tryd.zeroValue29
  t46 := Tryd.underlying134
  a46 := Tryd.isAgg134
  z46 := Tryd.sizeOf134
  v46 := Tryd.zeroValue134
  t51 := Tryd.underlying132
  a51 := Tryd.isAgg132
  z51 := Tryd.sizeOf132
  v51 := Tryd.zeroValue132
  t53 := Tryd.underlying125
  a53 := Tryd.isAgg125
  z53 := Tryd.sizeOf125
  v53 := Tryd.zeroValue125
  t171 := Tryd.underlying124
  a171 := Tryd.isAgg124
  z171 := Tryd.sizeOf124
  v171 := Tryd.zeroValue124
  t173 := Tryd.underlying128
  a173 := Tryd.isAgg128
  z173 := Tryd.sizeOf128
  v173 := Tryd.zeroValue128
  t212 := Tryd.underlying131
  a212 := Tryd.isAgg131
  z212 := Tryd.sizeOf131
  v212 := Tryd.zeroValue131
  t213 := Tryd.underlying133
  a213 := Tryd.isAgg133
  z213 := Tryd.sizeOf133
  t232 := Tryd.underlying137
  a232 := Tryd.isAgg137
  z232 := Tryd.sizeOf137
  v232 := Tryd.zeroValue137
  t233 := Tryd.underlying138
  a233 := Tryd.isAgg138
  z233 := Tryd.sizeOf138
  v233 := Tryd.zeroValue138
  g17 := by kernel_rfl
  g18 := by kernel_rfl
  g19 := by kernel_rfl
  i0 := by kernel_rfl
  i2 := by kernel_rfl
  i3 := by kernel_rfl
  i4 := by kernel_rfl
  i5 := by kernel_rfl
  i9 := by kernel_rfl
  i20 := by kernel_rfl
  i37 := by kernel_rfl
  i46 := by kernel_rfl
  i51 := by kernel_rfl
  i53 := by kernel_rfl
  i171 := by kernel_rfl
  i173 := by kernel_rfl
  i212 := by kernel_rfl
  i232 := by kernel_rfl
  i233 := by kernel_rfl
  m17 := by kernel_rfl
  m18 := by kernel_rfl
  m19 := by kernel_rfl }
open Go.RowKit Go.Sort Go.Lib in
theorem Tryd.internal_strconv_FormatInt_10 (n : Int) (h0 : -9223372036854775808 ≤ n) (h1 : n ≤ 9223372036854775807) (w : World) (htab : Lib.TabIs Tryd.prog w "internal/strconv.uint64pow10" .u64 Lib.pow10Tab) :
    Calls Tryd.prog 92 #[.int .i64 n, .int .i64 10] w fun e w' => e = .returned (.string ⟨(Lib.itoa n).toArray⟩) ∧ ∃ k os, w' = grow (w.drewN k) os := Any.internal_strconv_FormatInt_10 Tryd.laysM246 n h0 h1 w htab
def Tryd.lays246_ren : Go.Shelf.Ren := ⟨fun | 246 => 92 | 283 => 96 | 284 => 97 | 285 => 98 | 286 => 99 | 129 => 101 | 317 => 100 | 318 => 102 | 319 => 103 | 320 => 104 | 337 => 105 | 338 => 106 | n => n, fun | 2 => 2 | 3 => 3 | 9 => 9 | 4 => 4 | 171 => 124 | 0 => 0 | 53 => 125 | 37 => 29 | 5 => 5 | 173 => 128 | 212 => 131 | 51 => 132 | 20 => 20 | 213 => 133 | 46 => 134 | 232 => 137 | 233 => 138 | n => n, fun | 17 => 1 | 18 => 2 | 19 => 3 | n => n⟩
theorem Tryd.lays246 : Go.Proofs.Lays.n246 Tryd.prog Tryd.lays246_ren := {
  mixed := by kernel_rfl
  f129 := Tryd.func101.trans (congrArg some (by kernel_rfl))
  f246 := Tryd.func92.trans (congrArg some (by kernel_rfl))
  f283 := Tryd.func96.trans (congrArg some (by kernel_rfl))
  f284 := Tryd.func97.trans (congrArg some (by kernel_rfl))
  f285 := Tryd.func98.trans (congrArg some (by kernel_rfl))
  f286 := Tryd.func99.trans (congrArg some (by kernel_rfl))
  f317 := Tryd.func100.trans (congrArg some (by kernel_rfl))
  f318 := Tryd.func102.trans (congrArg some (by kernel_rfl))
  f319 := Tryd.func103.trans (congrArg some (by kernel_rfl))
  f320 := Tryd.func104.trans (congrArg some (by kernel_rfl))
  f337 := Tryd.func105.trans (congrArg some (by kernel_rfl))
  f338 := Tryd.func106.trans (congrArg some (by kernel_rfl))
  t0 := Tryd.underlying0
  a0 := Tryd.isAgg0
  z0 := Tryd.sizeOf0
  v0 := Tryd.zeroValue0
  t2 := Tryd.underlying2
  a2 := Tryd.isAgg2
  z2 := Tryd.sizeOf2
  v2 := Tryd.zeroValue2
  t3 := Tryd.underlying3
  a3 := Tryd.isAgg3
  z3 := Tryd.sizeOf3
  v3 := Tryd.zeroValue3
  t4 := Tryd.underlying4
  a4 := Tryd.isAgg4
  z4 := Tryd.sizeOf4
  v4 := Tryd.zeroValue4
  t5 := Tryd.underlying5
  a5 := Tryd.isAgg5
  z5 := Tryd.sizeOf5
  v5 := Tryd.zeroValue5
  t9 := Tryd.underlying9
  a9 := Tryd.isAgg9
  z9 := Tryd.sizeOf9
  v9 := Tryd.zeroValue9
  t20 := Tryd.underlying20
  a20 := Tryd.isAgg20
  z20 := Tryd.sizeOf20
  v20 := Tryd.zeroValue20
  t37 := Tryd.underlying29
  a37 := Tryd.isAgg29
  z37 := Tryd.sizeOf29
  v37 := Tryd.zeroValue29
  t46 := Tryd.underlying134
  a46 := Tryd.isAgg134
  z46 := Tryd.sizeOf134
  v46 := Tryd.zeroValue134
  t51 := Tryd.underlying132
  a51 := Tryd.isAgg132
  z51 := Tryd.sizeOf132
  v51 := Tryd.zeroValue132
  t53 := Tryd.underlying125
  a53 := Tryd.isAgg125
  z53 := Tryd.sizeOf125
  v53 := Tryd.zeroValue125
  t171 := Tryd.underlying124
  a171 := Tryd.isAgg124
  z171 := Tryd.sizeOf124
  v171 := Tryd.zeroValue124
  t173 := Tryd.underlying128
  a173 := Tryd.isAgg128
  z173 := Tryd.sizeOf128
  v173 := Tryd.zeroValue128
  t212 := Tryd.underlying131
  a212 := Tryd.isAgg131
  z212 := Tryd.sizeOf131
  v212 := Tryd.zeroValue131
  t213 := Tryd.underlying133
  a213 := Tryd.isAgg133
  z213 := Tryd.sizeOf133
  t232 := Tryd.underlying137
  a232 := Tryd.isAgg137
  z232 := Tryd.sizeOf137
  v232 := Tryd.zeroValue137
  t233 := Tryd.underlying138
  a233 := Tryd.isAgg138
  z233 := Tryd.sizeOf138
  v233 := Tryd.zeroValue138
  g17 := by kernel_rfl
  g18 := by kernel_rfl
  g19 := by kernel_rfl }
open Go.RowKit Go.Sort Go.Lib in
theorem Tryd.internal_strconv_FormatInt_10_small (i : Nat) (hi : i < 100) (w : World) :
    Calls Tryd.prog 92 #[.int .i64 i, .int .i64 10] w fun e w' => e = .returned (.string ⟨(Lib.decDigits i).toArray⟩) ∧ w' = w := Any.internal_strconv_FormatInt_10_small Tryd.lays246 i hi w
def Tryd.laysM243_ren : Go.Shelf.Ren := ⟨fun | 243 => 81 | 246 => 92 | 283 => 96 | 284 => 97 | 285 => 98 | 286 => 99 | 129 => 101 | 317 => 100 | 318 => 102 | 319 => 103 | 320 => 104 | 337 => 105 | 338 => 106 | n => n, fun | 3 => 3 | 9 => 9 | 2 => 2 | 4 => 4 | 171 => 124 | 0 => 0 | 53 => 125 | 37 => 29 | 5 => 5 | 173 => 128 | 212 => 131 | 51 => 132 | 20 => 20 | 213 => 133 | 46 => 134 | 232 => 137 | 233 => 138 | n => n, fun | 17 => 1 | 18 => 2 | 19 => 3 | n => n⟩
theorem Tryd.laysM243 : Go.Proofs.LaysM.n243 Tryd.prog Tryd.laysM243_ren := {
  mixed := by kernel_rfl
  f129 := Tryd.func101.trans (congrArg some (by kernel_rfl))
  f243 := Tryd.func81.trans (congrArg some (by kernel_rfl))
  f246 := Tryd.func92.trans (congrArg some (by kernel_rfl))
  f283 := Tryd.func96.trans (congrArg some (by kernel_rfl))
  f284 := Tryd.func97.trans (congrArg some (by kernel_rfl))
  f285 := Tryd.func98.trans (congrArg some (by kernel_rfl))
  f286 := Tryd.func99.trans (congrArg some (by kernel_rfl))
  f317 := Tryd.func100.trans (congrArg some (by kernel_rfl))
  f318 := Tryd.func102.trans (congrArg some (by kernel_rfl))
  f319 := Tryd.func103.trans (congrArg some (by kernel_rfl))
  f320 := Tryd.func104.trans (congrArg some (by kernel_rfl))
  f337 := Tryd.func105.trans (congrArg some (by kernel_rfl))
  f338 := Tryd.func106.trans (congrArg some (by kernel_rfl))
  t0 := Tryd.underlying0
  a0 := Tryd.isAgg0
  z0 := Tryd.sizeOf0
  v0 := Tryd.zeroValue0
  t2 := Tryd.underlying2
  a2 := Tryd.isAgg2
  z2 := Tryd.sizeOf2
  v2 := Tryd.zeroValue2
  t3 := Tryd.underlying3
  a3 := Tryd.isAgg3
  z3 := Tryd.sizeOf3
  v3 := Tryd.zeroValue3
  t4 := Tryd.underlying4
  a4 := Tryd.isAgg4
  z4 := Tryd.sizeOf4
  v4 := Tryd.zeroValue4
  t5 := Tryd.underlying5
  a5 := Tryd.isAgg5
  z5 := Tryd.sizeOf5
  v5 := Tryd.zeroValue5
  t9 := Tryd.underlying9
  a9 := Tryd.isAgg9
  z9 := Tryd.sizeOf9
  v9 := Tryd.zeroValue9
  t20 := Tryd.underlying20
  a20 := Tryd.isAgg20
  z20 := Tryd.sizeOf20
  v20 := Tryd.zeroValue20
  t37 := Tryd.underlying29
  a37 := Tryd.isAgg29
  z37 := Tryd.sizeOf29
  v37 := Tryd.zeroValue29
  t46 := Tryd.underlying134
  a46 := Tryd.isAgg134
  z46 := Tryd.sizeOf134
  v46 := Tryd.zeroValue134
  t51 := Tryd.underlying132
  a51 := Tryd.isAgg132
  z51 := Tryd.sizeOf132
  v51 := Tryd.zeroValue132
  t53 := Tryd.underlying125
  a53 := Tryd.isAgg125
  z53 := Tryd.sizeOf125
  v53 := Tryd.zeroValue125
  t171 := Tryd.underlying124
  a171 := Tryd.isAgg124
  z171 := Tryd.sizeOf124
  v171 := Tryd.zeroValue124
  t173 := Tryd.underlying128
  a173 := Tryd.isAgg128
  z173 := Tryd.sizeOf128
  v173 := Tryd.zeroValue128
  t212 := Tryd.underlying131
  a212 := Tryd.isAgg131
  z212 := Tryd.sizeOf131
  v212 := Tryd.zeroValue131
  t213 := Tryd.underlying133
  a213 := Tryd.isAgg133
  z213 := Tryd.sizeOf133
  t232 := Tryd.underlying137
  a232 := Tryd.isAgg137
  z232 := Tryd.sizeOf137
  v232 := Tryd.zeroValue137
  t233 := Tryd.underlying138
  a233 := Tryd.isAgg138
  z233 := Tryd.sizeOf138
  v233 := Tryd.zeroValue138
  g17 := by kernel_rfl
  g18 := by kernel_rfl
  g19 := by kernel_rfl
  i0 := by kernel_rfl
  i2 := by kernel_rfl
  i3 := by kernel_rfl
  i4 := by kernel_rfl
  i5 := by kernel_rfl
  i9 := by kernel_rfl
  i20 := by kernel_rfl
  i37 := by kernel_rfl
  i46 := by kernel_rfl
  i51 := by kernel_rfl
  i53 := by kernel_rfl
  i171 := by kernel_rfl
  i173 := by kernel_rfl
  i212 := by kernel_rfl
  i232 := by kernel_rfl
  i233 := by kernel_rfl
  m17 := by kernel_rfl
  m18 := by kernel_rfl
  m19 := by kernel_rfl }
open Go.RowKit Go.Sort Go.Lib in
theorem Tryd.internal_strconv_Itoa (n : Int) (h0 : -9223372036854775808 ≤ n) (h1 : n ≤ 9223372036854775807) (w : World) (htab : Lib.TabIs Tryd.prog w "internal/strconv.uint64pow10" .u64 Lib.pow10Tab) :
    Calls Tryd.prog 81 #[.int .i64 n] w fun e w' => e = .returned (.string ⟨(Lib.itoa n).toArray⟩) ∧ ∃ k os, w' = grow (w.drewN k) os := Any.internal_strconv_Itoa Tryd.laysM243 n h0 h1 w htab
def Tryd.lays243_ren : Go.Shelf.Ren := ⟨fun | 243 => 81 | 246 => 92 | 283 => 96 | 284 => 97 | 285 => 98 | 286 => 99 | 129 => 101 | 317 => 100 | 318 => 102 | 319 => 103 | 320 => 104 | 337 => 105 | 338 => 106 | n => n, fun | 3 => 3 | 9 => 9 | 2 => 2 | 4 => 4 | 171 => 124 | 0 => 0 | 53 => 125 | 37 => 29 | 5 => 5 | 173 => 128 | 212 => 131 | 51 => 132 | 20 => 20 | 213 => 133 | 46 => 134 | 232 => 137 | 233 => 138 | n => n, fun | 17 => 1 | 18 => 2 | 19 => 3 | n => n⟩
theorem Tryd.lays243 : Go.Proofs.Lays.n243 Tryd.prog Tryd.lays243_ren := {
  mixed := by kernel_rfl
  f129 := Tryd.func101.trans (congrArg some (by kernel_rfl))
  f243 := Tryd.func81.trans (congrArg some (by kernel_rfl))
  f246 := Tryd.func92.trans (congrArg some (by kernel_rfl))
  f283 := Tryd.func96.trans (congrArg some (by kernel_rfl))
  f284 := Tryd.func97.trans (congrArg some (by kernel_rfl))
  f285 := Tryd.func98.trans (congrArg some (by kernel_rfl))
  f286 := Tryd.func99.trans (congrArg some (by kernel_rfl))
  f317 := Tryd.func100.trans (congrArg some (by kernel_rfl))
  f318 := Tryd.func102.trans (congrArg some (by kernel_rfl))
  f319 := Tryd.func103.trans (congrArg some (by kernel_rfl))
  f320 := Tryd.func104.trans (congrArg some (by kernel_rfl))
  f337 := Tryd.func105.trans (congrArg some (by kernel_rfl))
  f338 := Tryd.func106.trans (congrArg some (by kernel_rfl))
  t0 := Tryd.underlying0
  a0 := Tryd.isAgg0
  z0 := Tryd.sizeOf0
  v0 := Tryd.zeroValue0
  t2 := Tryd.underlying2
  a2 := Tryd.isAgg2
  z2 := Tryd.sizeOf2
  v2 := Tryd.zeroValue2
  t3 := Tryd.underlying3
  a3 := Tryd.isAgg3
  z3 := Tryd.sizeOf3
  v3 := Tryd.zeroValue3
  t4 := Tryd.underlying4
  a4 := Tryd.isAgg4
  z4 := Tryd.sizeOf4
  v4 := Tryd.zeroValue4
  t5 := Tryd.underlying5
  a5 := Tryd.isAgg5
  z5 := Tryd.sizeOf5
  v5 := Tryd.zeroValue5
  t9 := Tryd.underlying9
  a9 := Tryd.isAgg9
  z9 := Tryd.sizeOf9
  v9 := Tryd.zeroValue9
  t20 := Tryd.underlying20
  a20 := Tryd.isAgg20
  z20 := Tryd.sizeOf20
  v20 := Tryd.zeroValue20
  t37 := Tryd.underlying29
  a37 := Tryd.isAgg29
  z37 := Tryd.sizeOf29
  v37 := Tryd.zeroValue29
  t46 := Tryd.underlying134
  a46 := Tryd.isAgg134
  z46 := Tryd.sizeOf134
  v46 := Tryd.zeroValue134
  t51 := Tryd.underlying132
  a51 := Tryd.isAgg132
  z51 := Tryd.sizeOf132
  v51 := Tryd.zeroValue132
  t53 := Tryd.underlying125
  a53 := Tryd.isAgg125
  z53 := Tryd.sizeOf125
  v53 := Tryd.zeroValue125
  t171 := Tryd.underlying124
  a171 := Tryd.isAgg124
  z171 := Tryd.sizeOf124
  v171 := Tryd.zeroValue124
  t173 := Tryd.underlying128
  a173 := Tryd.isAgg128
  z173 := Tryd.sizeOf128
  v173 := Tryd.zeroValue128
  t212 := Tryd.underlying131
  a212 := Tryd.isAgg131
  z212 := Tryd.sizeOf131
  v212 := Tryd.zeroValue131
  t213 := Tryd.underlying133
  a213 := Tryd.isAgg133
  z213 := Tryd.sizeOf133
  t232 := Tryd.underlying137
  a232 := Tryd.isAgg137
  z232 := Tryd.sizeOf137
  v232 := Tryd.zeroValue137
  t233 := Tryd.underlying138
  a233 := Tryd.isAgg138
  z233 := Tryd.sizeOf138
  v233 := Tryd.zeroValue138
  g17 := by kernel_rfl
  g18 := by kernel_rfl
  g19 := by kernel_rfl }
open Go.RowKit Go.Sort Go.Lib in
theorem Tryd.internal_strconv_Itoa_small (i : Nat) (hi : i < 100) (w : World) :
    Calls Tryd.prog 81 #[.int .i64 i] w fun e w' => e = .returned (.string ⟨(Lib.decDigits i).toArray⟩) ∧ w' = w := Any.internal_strconv_Itoa_small Tryd.lays243 i hi w
def Tryd.laysM171_ren : Go.Shelf.Ren := ⟨fun | 171 => 51 | 243 => 81 | 246 => 92 | 283 => 96 | 284 => 97 | 285 => 98 | 286 => 99 | 129 => 101 | 317 => 100 | 318 => 102 | 319 => 103 | 320 => 104 | 337 => 105 | 338 => 106 | n => n, fun | 3 => 3 | 9 => 9 | 2 => 2 | 4 => 4 | 171 => 124 | 0 => 0 | 53 => 125 | 37 => 29 | 5 => 5 | 173 => 128 | 212 => 131 | 51 => 132 | 20 => 20 | 213 => 133 | 46 => 134 | 232 => 137 | 233 => 138 | n => n, fun | 17 => 1 | 18 => 2 | 19 => 3 | n => n⟩
theorem Tryd.laysM171 : Go.Proofs.LaysM.n171 Tryd.prog Tryd.laysM171_ren := {
  mixed := by kernel_rfl
  f129 := Tryd.func101.trans (congrArg some (by kernel_rfl))
  f171 := Tryd.func51.trans (congrArg some (by kernel_rfl))
  f243 := Tryd.func81.trans (congrArg some (by kernel_rfl))
  f246 := Tryd.func92.trans (congrArg some (by kernel_rfl))
  f283 := Tryd.func96.trans (congrArg some (by kernel_rfl))
  f284 := Tryd.func97.trans (congrArg some (by kernel_rfl))
  f285 := Tryd.func98.trans (congrArg some (by kernel_rfl))
  f286 := Tryd.func99.trans (congrArg some (by kernel_rfl))
  f317 := Tryd.func100.trans (congrArg some (by kernel_rfl))
  f318 := Tryd.func102.trans (congrArg some (by kernel_rfl))
  f319 := Tryd.func103.trans (congrArg some (by kernel_rfl))
  f320 := Tryd.func104.trans (congrArg some (by kernel_rfl))
  f337 := Tryd.func105.trans (congrArg some (by kernel_rfl))
  f338 := Tryd.func106.trans (congrArg some (by kernel_rfl))
  t0 := Tryd.underlying0
  a0 := Tryd.isAgg0
  z0 := Tryd.sizeOf0
  v0 := Tryd.zeroValue0
  t2 := Tryd.underlying2
  a2 := Tryd.isAgg2
  z2 := Tryd.sizeOf2
  v2 := Tryd.zeroValue2
  t3 := Tryd.underlying3
  a3 := Tryd.isAgg3
  z3 := Tryd.sizeOf3
  v3 := Tryd.zeroValue3
  t4 := Tryd.underlying4
  a4 := Tryd.isAgg4
  z4 := Tryd.sizeOf4
  v4 := Tryd.zeroValue4
  t5 := Tryd.underlying5
  a5 := Tryd.isAgg5
  z5 := Tryd.sizeOf5
  v5 := Tryd.zeroValue5
  t9 := Tryd.underlying9
  a9 := Tryd.isAgg9
  z9 := Tryd.sizeOf9
  v9 := Tryd.zeroValue9
  t20 := Tryd.underlying20
  a20 := Tryd.isAgg20
  z20 := Tryd.sizeOf20
  v20 := Tryd.zeroValue20
  t37 := Tryd.underlying29
  a37 := Tryd.isAgg29
  z37 := Tryd.sizeOf29
  v37 := Tryd.zeroValue29
  t46 := Tryd.underlying134
  a46 := Tryd.isAgg134
  z46 := Tryd.sizeOf134
  v46 := Tryd.zeroValue134
  t51 := Tryd.underlying132
  a51 := Tryd.isAgg132
  z51 := Tryd.sizeOf132
  v51 := Tryd.zeroValue132
  t53 := Tryd.underlying125
  a53 := Tryd.isAgg125
  z53 := Tryd.sizeOf125
  v53 := Tryd.zeroValue125
  t171 := Tryd.underlying124
  a171 := Tryd.isAgg124
  z171 := Tryd.sizeOf124
  v171 := Tryd.zeroValue124
  t173 := Tryd.underlying128
  a173 := Tryd.isAgg128
  z173 := Tryd.sizeOf128
  v173 := Tryd.zeroValue128
  t212 := Tryd.underlying131
  a212 := Tryd.isAgg131
  z212 := Tryd.sizeOf131
  v212 := Tryd.zeroValue131
  t213 := Tryd.underlying133
  a213 := Tryd.isAgg133
  z213 := Tryd.sizeOf133
  t232 := Tryd.underlying137
  a232 := Tryd.isAgg137
  z232 := Tryd.sizeOf137
  v232 := Tryd.zeroValue137
  t233 := Tryd.underlying138
  a233 := Tryd.isAgg138
  z233 := Tryd.sizeOf138
  v233 := Tryd.zeroValue138
  g17 := by kernel_rfl
  g18 := by kernel_rfl
  g19 := by kernel_rfl
  i0 := by kernel_rfl
  i2 := by kernel_rfl
  i3 := by kernel_rfl
  i4 := by kernel_rfl
  i5 := by kernel_rfl
  i9 := by kernel_rfl
  i20 := by kernel_rfl
  i37 := by kernel_rfl
  i46 := by kernel_rfl
  i51 := by kernel_rfl
  i53 := by kernel_rfl
  i171 := by kernel_rfl
  i173 := by kernel_rfl
  i212 := by kernel_rfl
  i232 := by kernel_rfl
  i233 := by kernel_rfl
  m17 := by kernel_rfl
  m18 := by kernel_rfl
  m19 := by kernel_rfl }
open Go.RowKit Go.Sort Go.Lib in
theorem Tryd.strconv_Itoa (n : Int) (h0 : -9223372036854775808 ≤ n) (h1 : n ≤ 9223372036854775807) (w : World) (htab : Lib.TabIs Tryd.prog w "internal/strconv.uint64pow10" .u64 Lib.pow10Tab) :
    Calls Tryd.prog 51 #[.int .i64 n] w fun e w' => e = .returned (.string ⟨(Lib.itoa n).toArray⟩) ∧ ∃ k os, w' = grow (w.drewN k) os := Any.strconv_Itoa Tryd.laysM171 n h0 h1 w htab
def Tryd.lays171_ren : Go.Shelf.Ren := ⟨fun | 171 => 51 | 243 => 81 | 246 => 92 | 283 => 96 | 284 => 97 | 285 => 98 | 286 => 99 | 129 => 101 | 317 => 100 | 318 => 102 | 319 => 103 | 320 => 104 | 337 => 105 | 338 => 106 | n => n, fun | 3 => 3 | 9 => 9 | 2 => 2 | 4 => 4 | 171 => 124 | 0 => 0 | 53 => 125 | 37 => 29 | 5 => 5 | 173 => 128 | 212 => 131 | 51 => 132 | 20 => 20 | 213 => 133 | 46 => 134 | 232 => 137 | 233 => 138 | n => n, fun | 17 => 1 | 18 => 2 | 19 => 3 | n => n⟩
theorem Tryd.lays171 : Go.Proofs.Lays.n171 Tryd.prog Tryd.lays171_ren := {
  mixed := by kernel_rfl
  f129 := Tryd.func101.trans (congrArg some (by kernel_rfl))
  f171 := Tryd.func51.trans (congrArg some (by kernel_rfl))
  f243 := Tryd.func81.trans (congrArg some (by kernel_rfl))
  f246 := Tryd.func92.trans (congrArg some (by kernel_rfl))
  f283 := Tryd.func96.trans (congrArg some (by kernel_rfl))
  f284 := Tryd.func97.trans (congrArg some (by kernel_rfl))
  f285 := Tryd.func98.trans (congrArg some (by kernel_rfl))
  f286 := Tryd.func99.trans (congrArg some (by kernel_rfl))
  f317 := Tryd.func100.trans (congrArg some (by kernel_rfl))
  f318 := Tryd.func102.trans (congrArg some (by kernel_rfl))
  f319 := Tryd.func103.trans (congrArg some (by kernel_rfl))
  f320 := Tryd.func104.trans (congrArg some (by kernel_rfl))
  f337 := Tryd.func105.trans (congrArg some (by kernel_rfl))
  f338 := Tryd.func106.trans (congrArg some (by kernel_rfl))
  t0 := Tryd.underlying0
  a0 := Tryd.isAgg0
  z0 := Tryd.sizeOf0
  v0 := Tryd.zeroValue0
  t2 := Tryd.underlying2
  a2 := Tryd.isAgg2
  z2 := Tryd.sizeOf2
  v2 := Tryd.zeroValue2
  t3 := Tryd.underlying3
  a3 := Tryd.isAgg3
  z3 := Tryd.sizeOf3
  v3 := Tryd.zeroValue3
  t4 := Tryd.underlying4
  a4 := Tryd.isAgg4
  z4 := Tryd.sizeOf4
  v4 := Tryd.zeroValue4
  t5 := Tryd.underlying5
  a5 := Tryd.isAgg5
  z5 := Tryd.sizeOf5
  v5 := Tryd.zeroValue5
  t9 := Tryd.underlying9
  a9 := Tryd.isAgg9
  z9 := Tryd.sizeOf9
  v9 := Tryd.zeroValue9
  t20 := Tryd.underlying20
  a20 := Tryd.isAgg20
  z20 := Tryd.sizeOf20
  v20 := Tryd.zeroValue20
  t37 := Tryd.underlying29
  a37 := Tryd.isAgg29
  z37 := Tryd.sizeOf29
  v37 := Tryd.zeroValue29
  t46 := Tryd.underlying134
  a46 := Tryd.isAgg134
  z46 := Tryd.sizeOf134
  v46 := Tryd.zeroValue134
  t51 := Tryd.underlying132
  a51 := Tryd.isAgg132
  z51 := Tryd.sizeOf132
  v51 := Tryd.zeroValue132
  t53 := Tryd.underlying125
  a53 := Tryd.isAgg125
  z53 := Tryd.sizeOf125
  v53 := Tryd.zeroValue125
  t171 := Tryd.underlying124
  a171 := Tryd.isAgg124
  z171 := Tryd.sizeOf124
  v171 := Tryd.zeroValue124
  t173 := Tryd.underlying128
  a173 := Tryd.isAgg128
  z173 := Tryd.sizeOf128
  v173 := Tryd.zeroValue128
  t212 := Tryd.underlying131
  a212 := Tryd.isAgg131
  z212 := Tryd.sizeOf131
  v212 := Tryd.zeroValue131
  t213 := Tryd.underlying133
  a213 := Tryd.isAgg133
  z213 := Tryd.sizeOf133
  t232 := Tryd.underlying137
  a232 := Tryd.isAgg137
  z232 := Tryd.sizeOf137
  v232 := Tryd.zeroValue137
  t233 := Tryd.underlying138
  a233 := Tryd.isAgg138
  z233 := Tryd.sizeOf138
  v233 := Tryd.zeroValue138
  g17 := by kernel_rfl
  g18 := by kernel_rfl
  g19 := by kernel_rfl }
open Go.RowKit Go.Sort Go.Lib in
theorem Tryd.strconv_Itoa_small (i : Nat) (hi : i < 100) (w : World) :
    Calls Tryd.prog 51 #[.int .i64 i] w fun e w' => e = .returned (.string ⟨(Lib.decDigits i).toArray⟩) ∧ w' = w := Any.strconv_Itoa_small Tryd.lays171 i hi w
end Go.Proofs
namespace Go.Proofs.YtlaaehjcooonfaaDoor
set_option linter.unusedVariables false
set_option linter.unusedSimpArgs false
set_option linter.unusedSectionVars false
set_option maxHeartbeats 8000000
set_option maxRecDepth 100000
open Go.RowKit
variable {O : Ob} {w0 : World}
section
open Go.RowKit Go.Shelf Go.Sort Go.Lib
theorem strs_arr {w : World} {S : Sp} : ∀ {xs : List Str} {cs : List Value}, Arr Kd.str w S xs cs → cs = xs.map vs ∧ ∀ x ∈ xs, Lim x
 | [], _, h => ⟨h, fun x hx => by cases hx⟩
 | x :: xs, _, ⟨c1, c2, e, h1, h2⟩ => by
  obtain ⟨e2, h3⟩ := strs_arr h2
  refine ⟨by rw [e, h1.1, e2]; rfl, fun y hy => ?_⟩
  rcases List.mem_cons.1 hy with rfl | hy
  ·exact h1.2
  ·exact h3 y hy
theorem Ow.holds {e : TypeId} {w : World} {O : Ob} {g n c : Nat} {xs : List Str} (h : Ow Kd.str e w O (.slice (some ⟨g, 0, none⟩) n c) xs) : Holds encStr w g 0 xs.toArray := by
 obtain ⟨cells, o1, o2, o3⟩ := h
 obtain ⟨e2, _⟩ := strs_arr o2
 intro j hj
 simp only [List.size_toArray] at hj
 rcases o1.2 with ⟨_, e'⟩ | ⟨g', cap, cur, ev, h0, hg, hle, hmx, hcur, htake⟩
 ·omega
 ·cases ev
  have hc := World.ownsRow.cells o1 (g := g) rfl j (vs xs[j]) (by rw [e2]; simp [hj])
  have ha : (⟨g, 0, none⟩ : Addr).add j = ⟨g, 0 + j, none⟩ := by unfold Addr.add; split <;> simp_all
  rw [ha] at hc
  refine ⟨by rw [hc]; simp [hj], ?_⟩
  simp [World.frozen?, hg]
def sortS (xs : List Str) : List Str := xs.mergeSort fun x y => decide (x ≤ y)
theorem compact_le (x : List Str) : (Lib.compact x).length ≤ x.length := by
 unfold Lib.compact Lib.compactUpTo
 rw [List.length_map]
 exact Nat.le_trans (List.length_filter_le _ _) (by rw [List.length_range]; exact Nat.le_refl _)
theorem compact_mem {x : List Str} {y : Str} (h : y ∈ Lib.compact x) : y ∈ x := by
 unfold Lib.compact Lib.compactUpTo at h
 obtain ⟨j, hj, rfl⟩ := List.mem_map.1 h
 have hl : j < x.length := List.mem_range.1 (List.mem_filter.1 hj).1
 simp [hl]
end
def shapeNamesL : List Str := [[], [100, 111, 116], [108, 105, 110, 101], [114, 105, 110, 103]]
structure Glob (w : World) (O : Ob) : Prop where
 shapeNames : ∃ A : Option Addr, Fb w O 0 [.slice A 4 4] ∧ Sl Kd.str w (Fr O) (.slice A 4 4) shapeNamesL
 pow10 : Fb w O 1 (Lib.pow10Tab.map (Value.int .u64))
theorem Glob.st {w w' : World} {O O' : Ob} (h : Glob w O) (s : St w O w' O') : Glob w' O' :=
 ⟨let ⟨A, a, b⟩ := h.shapeNames; ⟨A, a.st s, b.st s⟩, h.pow10.st s⟩
theorem Glob.tab {w : World} {O : Ob} (h : Glob w O) : Lib.TabIs Tryd.prog w "internal/strconv.uint64pow10" .u64 Lib.pow10Tab := by
 obtain ⟨⟨e, hb⟩, _⟩ := h.pow10
 unfold Lib.TabIs World.var?
 rw [show Tryd.prog.globalNamed "internal/strconv.uint64pow10" = some 1 by kernel_rfl]
 simp only [Option.bind_some, hb]
theorem decDigits_len (u : Nat) : ∀ k, u < 10 ^ (k + 1) → (Lib.decDigits u).length ≤ k + 1 := by
 intro k
 induction k generalizing u with
 | zero => intro h; rw [Lib.decDigits, dif_pos OM]; simp
 | succ k ih =>
  intro h
  rw [Lib.decDigits]
  split
  ·simp
  ·rw [List.length_append]
   have := ih (u / 10) (by rw [Nat.pow_succ] at h; omega)
   simp only [List.length_cons, List.length_nil]
   omega
theorem itoa_len (n : Int) (h0 : -9223372036854775808 ≤ n) (h1 : n ≤ 9223372036854775807) : (Lib.itoa n).length ≤ 21 := by
 unfold Lib.itoa
 split
 ·have := decDigits_len n.natAbs 19 OM
  simp only [List.length_cons]; omega
 ·have := decDigits_len n.toNat 19 OM
  omega
section
open Go.Shelf Go.Sort Go.Lib
def F31.E (n : Int) (Q : Str → Prop) : Prop := (-9223372036854775808 ≤ n ∧ n ≤ 9223372036854775807) ∧ Q (Lib.itoa n)
theorem F31.calls {O : Ob} (w0 : World) (hO : Ok w0 O) (hG : Glob w0 O) (n : Int) (Q : Str → Prop) (h : F31.E n Q) :
  Ret Tryd.prog 51 [vi n] w0 (fun v w' => ∃ (r0 : Str), v = vs r0 ∧ Q r0 ∧ Gr w0 w' none ∧ Lim r0) := by
 obtain ⟨⟨h0, h1⟩, hq⟩ := h
 refine Calls.mono (Tryd.strconv_Itoa n h0 h1 w0 hG.tab) fun e w' ⟨he, k, os, hw⟩ => ?_
 subst he; subst hw
 refine ⟨_, rfl, Lib.itoa n, rfl, hq, ⟨rfl, by simp [grow], rfl, by simp [grow], fun b hb _ => by show (w0.heap ++ os)[b]? = w0.heap[b]?; exact Array.getElem?_append_left hb⟩, ?_⟩
 have := itoa_len n h0 h1
 unfold Lim; omega
end
def F5.E (s : Shape) (Q : Str → Prop) : Prop :=
 ((0 : Int) ≤ s.Kind ∧ s.Kind < (shapeNamesL.length : Int)) ∧ (∃ (I39 : Str → Int → Prop) (mu40 : Str → Int → Nat), I39 (nth shapeNamesL s.Kind) 0 ∧ ∀ (out2 : Str) (v2 : Int), I39 out2 v2 → (if decide (v2 < (s.Pts.length : Int)) then ((0 : Int) ≤ v2 ∧ v2 < (s.Pts.length : Int)) ∧ (∃ q : Str, F31.E ((nth s.Pts v2).X) (fun x => x = q) ∧ (Lim q) ∧ (([32] : Str).length + q.length ≤ 9223372036854775807) ∧ ((([32] : Str) ++ q).length + ([44] : Str).length ≤ 9223372036854775807) ∧ (∃ q2 : Str, F31.E ((nth s.Pts v2).Y) (fun x => x = q2) ∧ (Lim q2) ∧ (((([32] : Str) ++ q) ++ ([44] : Str)).length + q2.length ≤ 9223372036854775807) ∧ (out2.length + (((([32] : Str) ++ q) ++ ([44] : Str)) ++ q2).length ≤ 9223372036854775807) ∧ (I64 (v2 + 1)) ∧ I39 (out2 ++ (((([32] : Str) ++ q) ++ ([44] : Str)) ++ q2)) (v2 + 1) ∧ mu40 (out2 ++ (((([32] : Str) ++ q) ++ ([44] : Str)) ++ q2)) (v2 + 1) < mu40 out2 v2)) else Q out2))
theorem F5.calls {s : Shape} {A1 : Option Addr} {n2 c3 : Nat} {Q : Str → Prop} (H : F5.E s Q) (hO : Ok w0 O) (hG : Glob w0 O) (hp4 : Sl kPt w0 (Fr O) (G A1 n2 c3) s.Pts) :
  Ret Tryd.prog 31 [.agg #[vi s.Kind, G A1 n2 c3]] w0 (fun v w' => ∃ (r0 : Str), v = vs r0 ∧ Q r0 ∧ Gr w0 w' none ∧ Lim r0) := by
 unfold F5.E at H;have hc0 := Ct.init hO;obtain ⟨aG0, hGb0, hGs0⟩ := hG.shapeNames;refine X9 Tryd.func31 Z 31 Z [.tmp 2] Z Z ?_;refine Xc (Xd (Yq [vi s.Kind, G A1 n2 c3] Z fun w6 b7 hl9 hu10 g8 ax => ?_));have ai := Fb.mk hc0.ok hl9 ax;have ab := hc0.k0 g8;refine Xf (vs []) Z (Xb (Xc (Xd ?_)));have ay := (hGb0.st ab.st);refine Xa (Xl ag76 cL (Ad 0 0) (G aG0 4 4) Z (ay.cell Z)) (Xa (Xj fa34_0 (Ad b7 0) (Ad b7 0) Z Z) (Xa (Xl ag3 cL (Ad b7 0) (vi s.Kind) Z (ai.cell Z)) ?_));obtain ⟨aj, H⟩ := H;obtain ⟨ak, br, az, bs, a0, a1⟩ := (hGs0.st ab.st).get default RD s.Kind aj;obtain ⟨rfl, a2⟩ := Kd.str.op a0;refine Xa (X2 u76_ Zh aG0 ak 4 4 (hGs0.st ab.st).len s.Kind Z az Z aj) (Xa (Xl ag9 cL (ak.add (s.Kind.toNat * 1)) (vs (nth shapeNamesL s.Kind)) Z (a1 0 _ Z)) (Xf (vs (nth shapeNamesL s.Kind)) Z (Xb (Xc (Xc (Xd (Xa (Xj fa34_1 (Ad b7 0) (Ad b7 1) Z Z) (Xa (Xl ag32 cL (Ad b7 1) (G A1 n2 c3) Z (ai.cell Z)) ?_))))))));have bt := (hp4.st ab.st).le;refine Xa (X8 u32_ A1 n2 c3 (hp4.st ab.st).len Z) (Xe (vi 0) Z (Xb (X6 ?_)));obtain ⟨a3, a4, ad, H⟩ := H;refine Yl (α := Str × Int) (fun (out2, v2) t ae => a3 out2 v2 ∧ Has t [(3, vs out2), (12, G A1 n2 c3), (13, vi (s.Pts.length : Int)), (14, vi v2)] ∧ Ct [] w0 ae [] O ∧ Lim out2 ∧ Sl kPt ae (Fr ([] ++ O)) (G A1 n2 c3) s.Pts) (fun (out2, v2) => a4 out2 v2) ((nth shapeNamesL s.Kind), 0) ⟨ad, (Xz Z), ab, a2, (hp4.st ab.st)⟩ ?_;rintro ⟨out2, v2⟩ _ ae ⟨ad, a5, af, a6, ag⟩;obtain ⟨bu, rfl⟩ := Has.ins a5;have H := H out2 v2 ad;refine Xc (Xd (Xa (X0 v2 (s.Pts.length : Int) (decide (v2 < (s.Pts.length : Int))) Z Z Z) (Xb (Xc ?_))));refine Xx (decide (v2 < (s.Pts.length : Int))) Z (fun ah => ?_) (fun ah => ?_)
 ·have H := Xo H ah;refine Xy (Xc (X6 (Xc (Xd ?_))));obtain ⟨al, H⟩ := H;obtain ⟨am, bv, a7, bw, a8, a9⟩ := ag.get default RD v2 al;obtain rfl := kPt.op a8;refine Xa (X2 u32_ Ym A1 am n2 c3 ag.len v2 Z a7 Z al) (Xa (Xv ag87 sz87 cL (am.add (v2.toNat * 2)) [vi ((nth s.Pts v2).X), vi ((nth s.Pts v2).Y)] Z Z a9) (Yy [.int .i64 0, .int .i64 0] ze87 fun bx aa an hu57 ao ba => ?_));have ap := af.own ao (some aa) (Yt an hu57);refine Yf [vi ((nth s.Pts v2).X), vi ((nth s.Pts v2).Y)] ba Z Z sz87 Z Z fun bb aq ar => ?_;have ac := ap.wr 0 Z aq;refine Xb (Yu (fun x => Gr bb x none) RK RK (Gr.drew _) ?_);refine Xt (vs out2) Z (Xg (Xj fa87_0 (Ad aa 0) (Ad aa 0) Z Z) (Xg (Xl ag3 cQ (Ad aa 0) (vi ((nth s.Pts v2).X)) Z (ar.cell Z)) ?_));obtain ⟨q, bc, bz, H⟩ := H;refine Yw go51 [vi ((nth s.Pts v2).X)] Z (vs q) (fun w g => (F31.calls w (ac.k0 g).ok (hG.st (ac.k0 g).st) ((nth s.Pts v2).X) _ bc).mono ?_) ?_
  ·rintro _ w ⟨r, rfl, rfl, g2, _⟩;exact ⟨Z, Gr.t0 g g2⟩
  obtain ⟨bd, H⟩ := H;refine Xg (Yh ([32] : Str) q Z Z bd) ?_;obtain ⟨be, H⟩ := H;refine Xg (Yh (([32] : Str) ++ q) ([44] : Str) Z Z be) (Xg (Xj fa87_1 (Ad aa 0) (Ad aa 1) Z Z) (Xg (Xl ag3 cQ (Ad aa 1) (vi ((nth s.Pts v2).Y)) Z (ar.cell Z)) ?_));obtain ⟨q2, bf, b0, H⟩ := H;refine Yw go51 [vi ((nth s.Pts v2).Y)] Z (vs q2) (fun w g => (F31.calls w (ac.k0 g).ok (hG.st (ac.k0 g).st) ((nth s.Pts v2).Y) _ bf).mono ?_) ?_
  ·rintro _ w ⟨r, rfl, rfl, g2, _⟩;exact ⟨Z, Gr.t0 g g2⟩
  obtain ⟨bg, H⟩ := H;refine Xg (Yh ((([32] : Str) ++ q) ++ ([44] : Str)) q2 Z Z bg) ?_;obtain ⟨au, H⟩ := H;refine Xg (Yh out2 (((([32] : Str) ++ q) ++ ([44] : Str)) ++ q2) Z Z au) (Y8 (vs (out2 ++ (((([32] : Str) ++ q) ++ ([44] : Str)) ++ q2))) Z (Yc fun b1 av => ?_));have aw := ac.k0 av;refine Xd ?_;obtain ⟨bh, H⟩ := H;refine Xa (Ya v2 1 Z Z bh) (Xe (vi (v2 + 1)) Z (Xb ?_));have bi := aw.drop 0 Z;obtain ⟨bj, bl⟩ := H;have bm := af.stown _ ao (X4 an);have bn := ap.stw 0 Z aq;have bo := ac.stn av;have bp := aw.std 0 Z;have bq := ((((ag.st bm).st bn).st bo).st bp);exact ⟨((out2 ++ (((([32] : Str) ++ q) ++ ([44] : Str)) ++ q2)), v2 + 1), bl, bj, (Xz Z), bi, (lim_cat au), bq⟩
 have H := Xp H ah;refine Yi (xin_hit ?_);exact Xc (Xd (Xe (vs out2) Z (Xf (vs out2) Z (Xb (Xn ⟨[vs out2], ⟨_, Z, Z⟩, out2, Z, H, af.gr.g0, a6⟩)))))
def F23.E (f : Feat) (Q : Str → Prop) : Prop :=
 F53.E f (fun r => (if !r then Q [] else (f.Id.length + ([32] : Str).length ≤ 9223372036854775807) ∧ (∃ q : Str, F5.E f.Shape (fun x => x = q) ∧ (Lim q) ∧ ((f.Id ++ ([32] : Str)).length + q.length ≤ 9223372036854775807) ∧ (∃ (I61 : Str → Int → Prop) (mu62 : Str → Int → Nat), I61 ((f.Id ++ ([32] : Str)) ++ q) 0 ∧ ∀ (out2 : Str) (v2 : Int), I61 out2 v2 → (if decide (v2 < (f.Tags.length : Int)) then ((0 : Int) ≤ v2 ∧ v2 < (f.Tags.length : Int)) ∧ (([32] : Str).length + ((nth f.Tags v2).Key).length ≤ 9223372036854775807) ∧ ((([32] : Str) ++ ((nth f.Tags v2).Key)).length + ([61] : Str).length ≤ 9223372036854775807) ∧ (((([32] : Str) ++ ((nth f.Tags v2).Key)) ++ ([61] : Str)).length + ((nth f.Tags v2).Val).length ≤ 9223372036854775807) ∧ (out2.length + (((([32] : Str) ++ ((nth f.Tags v2).Key)) ++ ([61] : Str)) ++ ((nth f.Tags v2).Val)).length ≤ 9223372036854775807) ∧ (I64 (v2 + 1)) ∧ I61 (out2 ++ (((([32] : Str) ++ ((nth f.Tags v2).Key)) ++ ([61] : Str)) ++ ((nth f.Tags v2).Val))) (v2 + 1) ∧ mu62 (out2 ++ (((([32] : Str) ++ ((nth f.Tags v2).Key)) ++ ([61] : Str)) ++ ((nth f.Tags v2).Val))) (v2 + 1) < mu62 out2 v2 else Q out2)))))
theorem F23.calls {f : Feat} {A2 : Option Addr} {n3 c4 : Nat} {A7 : Option Addr} {n8 c9 : Nat} {Q : Str → Prop} (H : F23.E f Q) (hO : Ok w0 O) (hG : Glob w0 O) (hs1 : Lim f.Id) (hp5 : Sl kPt w0 (Fr O) (G A2 n3 c4) f.Shape.Pts) (ae : Sl kTag w0 (Fr O) (G A7 n8 c9) f.Tags) :
  Ret Tryd.prog 19 [.agg #[vs f.Id, vi f.Shape.Kind, G A2 n3 c4, G A7 n8 c9]] w0 (fun v w' => ∃ (r0 : Str), v = vs r0 ∧ Q r0 ∧ Gr w0 w' none ∧ Lim r0) := by
 unfold F23.E at H;have hc0 := Ct.init hO;refine X9 Tryd.func19 Z 34 Z [.tmp 2] Z Z ?_;refine Xc (Xd (Yq [vs f.Id, vi f.Shape.Kind, G A2 n3 c4, G A7 n8 c9] Z fun a2 aa a3 hu16 a4 a5 => ?_));have an := Fb.mk hc0.ok a3 a5;have ad := hc0.k0 a4;refine Xf (vs []) Z (Xb (Xc (Xc (Xd (Xa (Xv ag37 sz37 cL (Ad aa 0) [vs f.Id, vi f.Shape.Kind, G A2 n3 c4, G A7 n8 c9] Z Z (an.cells (off := 00) Z)) ?_)))));refine Xs go30 (F53.calls H ad.ok hs1 (hp5.st ad.st) (ae.st ad.st)) Z ?_;rintro _ a6 ⟨r, rfl, H, ao⟩;have ac := ad.k0 ao;refine Xa (X7 r Z) (Xb ?_);refine Xx (!r) Z (fun ag => ?_) (fun ag => ?_)
 ·have H := Xo H ag;exact Xc (Xd (Xf (vs []) Z (Xb (Xn ⟨[vs []], ⟨_, Z, Z⟩, ([] : Str), Z, H, ac.gr.g0, (by decide : Lim ([] : Str))⟩))))
 have H := Xp H ag;refine Xy (Xc (Yu (fun x => Gr a6 x none) RK RK (Gr.drew _) ?_));refine Xg (Xj fa37_0 (Ad aa 0) (Ad aa 0) Z Z) ?_;have a7 := ad.stn ao;have ah := (an.st a7);refine Xg (Xl ag9 cQ (Ad aa 0) (vs f.Id) Z (ah.cell Z)) ?_;obtain ⟨a8, H⟩ := H;refine Xg (Yh f.Id ([32] : Str) Z Z a8) (Xg (Xj fa37_1 (Ad aa 0) (Ad aa 1) Z Z) (Xg (Xv ag34 sz34 cQ (Ad aa 1) [vi f.Shape.Kind, G A2 n3 c4] Z Z (ah.cells (off := 1) Z)) ?_));obtain ⟨q, a9, bw, H⟩ := H;refine Yw go31 [.agg #[vi f.Shape.Kind, G A2 n3 c4]] Z (vs q) (fun w g => (F5.calls a9 (ac.k0 g).ok (hG.st (ac.k0 g).st) ((hp5.st ac.st).st (.new _ g))).mono ?_) ?_
 ·rintro _ w ⟨r, rfl, rfl, g2, _⟩;exact ⟨Z, Gr.t0 g g2⟩
 obtain ⟨ap, H⟩ := H;refine Xg (Yh (f.Id ++ ([32] : Str)) q Z Z ap) (Y8 (vs ((f.Id ++ ([32] : Str)) ++ q)) Z (Yc fun bx aq => ?_));have af := ac.k0 aq;refine Xc (Xc (Xd (Xa (Xj fa37_2 (Ad aa 0) (Ad aa 3) Z Z) ?_)));have ba := ac.stn aq;have bb := (ah.st ba);refine Xa (Xl ag35 cL (Ad aa 3) (G A7 n8 c9) Z (bb.cell Z)) ?_;have bz := (ae.st af.st).le;refine Xa (X8 u35_ A7 n8 c9 (ae.st af.st).len Z) (Xe (vi 0) Z (Xb (X6 ?_)));obtain ⟨bc, bd, ai, H⟩ := H;refine Yl (α := Str × Int) (fun (out2, v2) t aj => bc out2 v2 ∧ Has t [(3, vs out2), (17, G A7 n8 c9), (18, vi (f.Tags.length : Int)), (19, vi v2)] ∧ Ct [] w0 aj [] O ∧ Lim out2 ∧ Sl kTag aj (Fr ([] ++ O)) (G A7 n8 c9) f.Tags) (fun (out2, v2) => bd out2 v2) (((f.Id ++ ([32] : Str)) ++ q), 0) ⟨ai, (Xz Z), af, (lim_cat ap), (ae.st af.st)⟩ ?_;rintro ⟨out2, v2⟩ _ aj ⟨ai, be, ak, bf, al⟩;obtain ⟨b0, rfl⟩ := Has.ins be;have H := H out2 v2 ai;refine Xc (Xd (Xa (X0 v2 (f.Tags.length : Int) (decide (v2 < (f.Tags.length : Int))) Z Z Z) (Xb (Xc ?_))));refine Xx (decide (v2 < (f.Tags.length : Int))) Z (fun am => ?_) (fun am => ?_)
 ·have H := Xo H am;refine Xy (Xc (X6 (Xc (Xd ?_))));obtain ⟨ar, H⟩ := H;obtain ⟨au, b1, bg, b2, bh, bi⟩ := al.get default RD v2 ar;obtain ⟨rfl, b3, b4⟩ := kTag.op bh;refine Xa (X2 u35_ Y1 A7 au n8 c9 al.len v2 Z bg Z ar) (Xa (Xv ag67 sz67 cL (au.add (v2.toNat * 2)) [vs ((nth f.Tags v2).Key), vs ((nth f.Tags v2).Val)] Z Z bi) (Yy [vs [], vs []] ze67 fun b5 ab av hu81 aw bj => ?_));have ax := ak.own aw (some ab) (Yt av hu81);refine Yf [vs ((nth f.Tags v2).Key), vs ((nth f.Tags v2).Val)] bj Z Z sz67 Z Z fun b6 ay az => ?_;have a0 := ax.wr 0 Z ay;refine Xb (Xd (Xe (vs out2) Z (Xa (Xj fa67_0 (Ad ab 0) (Ad ab 0) Z Z) (Xa (Xl ag9 cL (Ad ab 0) (vs ((nth f.Tags v2).Key)) Z (az.cell Z)) ?_))));obtain ⟨bl, H⟩ := H;refine Xa (Yh ([32] : Str) ((nth f.Tags v2).Key) Z Z bl) ?_;obtain ⟨bm, H⟩ := H;refine Xa (Yh (([32] : Str) ++ ((nth f.Tags v2).Key)) ([61] : Str) Z Z bm) (Xa (Xj fa67_1 (Ad ab 0) (Ad ab 1) Z Z) (Xa (Xl ag9 cL (Ad ab 1) (vs ((nth f.Tags v2).Val)) Z (az.cell Z)) ?_));obtain ⟨bn, H⟩ := H;refine Xa (Yh ((([32] : Str) ++ ((nth f.Tags v2).Key)) ++ ([61] : Str)) ((nth f.Tags v2).Val) Z Z bn) ?_;obtain ⟨a1, H⟩ := H;refine Xa (Yh out2 (((([32] : Str) ++ ((nth f.Tags v2).Key)) ++ ([61] : Str)) ++ ((nth f.Tags v2).Val)) Z Z a1) (Xf (vs (out2 ++ (((([32] : Str) ++ ((nth f.Tags v2).Key)) ++ ([61] : Str)) ++ ((nth f.Tags v2).Val)))) Z (Xb (Xd ?_)));obtain ⟨bo, H⟩ := H;refine Xa (Ya v2 1 Z Z bo) (Xe (vi (v2 + 1)) Z (Xb ?_));have bp := a0.drop 0 Z;obtain ⟨bq, br⟩ := H;have bs := ak.stown _ aw (X4 av);have bt := ax.stw 0 Z ay;have bu := a0.std 0 Z;have bv := (((al.st bs).st bt).st bu);exact ⟨((out2 ++ (((([32] : Str) ++ ((nth f.Tags v2).Key)) ++ ([61] : Str)) ++ ((nth f.Tags v2).Val))), v2 + 1), br, bq, (Xz Z), bp, (lim_cat a1), bv⟩
 have H := Xp H am;refine Yi (xin_hit ?_);exact Xc (Xd (Xe (vs out2) Z (Xf (vs out2) Z (Xb (Xn ⟨[vs out2], ⟨_, Z, Z⟩, out2, Z, H, ak.gr.g0, bf⟩)))))
def F6.E (has : Bool) (f : Feat) (Q : Str → Prop) : Prop :=
 (if !has then Q ([45] : Str) else F23.E f (fun r => Q r))
theorem F6.calls {has : Bool} {f : Feat} {A2 : Option Addr} {n3 c4 : Nat} {A7 : Option Addr} {n8 c9 : Nat} {Q : Str → Prop} (H : F6.E has f Q) (hO : Ok w0 O) (hG : Glob w0 O) (hs1 : Lim f.Id) (hp5 : Sl kPt w0 (Fr O) (G A2 n3 c4) f.Shape.Pts) (ac : Sl kTag w0 (Fr O) (G A7 n8 c9) f.Tags) :
  Ret Tryd.prog 18 [vb has, .agg #[vs f.Id, vi f.Shape.Kind, G A2 n3 c4, G A7 n8 c9]] w0 (fun v w' => ∃ (r0 : Str), v = vs r0 ∧ Q r0 ∧ Gr w0 w' none ∧ Lim r0) := by
 unfold F6.E at H;have hc0 := Ct.init hO;refine X9 Tryd.func18 Z 9 Z [.tmp 4] Z Z ?_;refine Xc (Xd (Yq [vs f.Id, vi f.Shape.Kind, G A2 n3 c4, G A7 n8 c9] Z fun ad ae af hu16 ag ah => ?_));have ai := Fb.mk hc0.ok af ah;have aa := hc0.k0 ag;refine Xf (vs []) Z (Xb (Xc (Xc (Xd (Xe (vb has) Z (Xa (X7 has Z) (Xb ?_)))))));refine Xx (!has) Z (fun ab => ?_) (fun ab => ?_)
 ·have H := Xo H ab;exact Xc (Xd (Xf (vs ([45] : Str)) Z (Xb (Xn ⟨[vs ([45] : Str)], ⟨_, Z, Z⟩, ([45] : Str), Z, H, aa.gr.g0, (by decide : Lim ([45] : Str))⟩))))
 have H := Xp H ab;refine Xy (Xc (Xd (Xa (Xv ag37 sz37 cL (Ad ae 0) [vs f.Id, vi f.Shape.Kind, G A2 n3 c4, G A7 n8 c9] Z Z (ai.cells (off := 00) Z)) ?_)));refine Xs go19 (F23.calls H aa.ok (hG.st aa.st) hs1 (hp5.st aa.st) (ac.st aa.st)) Z ?_;rintro _ am ⟨r, rfl, H, aj, ak⟩;have al := aa.k0 aj;exact Xf (vs r) Z (Xb (Xn ⟨[vs r], ⟨_, Z, Z⟩, r, Z, H, al.gr.g0, ak⟩))
def F24.E (d : List Change) (Q : Str → Prop) : Prop :=
 F55.E d (fun r => (if !r then Q [] else (∃ (I28 : Str → Int → Prop) (mu29 : Str → Int → Nat), I28 [] 0 ∧ ∀ (out2 : Str) (v2 : Int), I28 out2 v2 → (if decide (v2 < (d.length : Int)) then ((0 : Int) ≤ v2 ∧ v2 < (d.length : Int)) ∧ (((nth d v2).Id).length + ([58, 32] : Str).length ≤ 9223372036854775807) ∧ F6.E ((nth d v2).Had) ((nth d v2).Was) (fun r2 => ((((nth d v2).Id) ++ ([58, 32] : Str)).length + r2.length ≤ 9223372036854775807) ∧ (((((nth d v2).Id) ++ ([58, 32] : Str)) ++ r2).length + ([32, 62, 32] : Str).length ≤ 9223372036854775807) ∧ F6.E ((nth d v2).Has) ((nth d v2).Now) (fun r3 => ((((((nth d v2).Id) ++ ([58, 32] : Str)) ++ r2) ++ ([32, 62, 32] : Str)).length + r3.length ≤ 9223372036854775807) ∧ (((((((nth d v2).Id) ++ ([58, 32] : Str)) ++ r2) ++ ([32, 62, 32] : Str)) ++ r3).length + ([10] : Str).length ≤ 9223372036854775807) ∧ (out2.length + (((((((nth d v2).Id) ++ ([58, 32] : Str)) ++ r2) ++ ([32, 62, 32] : Str)) ++ r3) ++ ([10] : Str)).length ≤ 9223372036854775807) ∧ (I64 (v2 + 1)) ∧ I28 (out2 ++ (((((((nth d v2).Id) ++ ([58, 32] : Str)) ++ r2) ++ ([32, 62, 32] : Str)) ++ r3) ++ ([10] : Str))) (v2 + 1) ∧ mu29 (out2 ++ (((((((nth d v2).Id) ++ ([58, 32] : Str)) ++ r2) ++ ([32, 62, 32] : Str)) ++ r3) ++ ([10] : Str))) (v2 + 1) < mu29 out2 v2)) else Q out2))))
theorem F24.calls {d : List Change} {A1 : Option Addr} {n2 c3 : Nat} {Q : Str → Prop} (H : F24.E d Q) (hO : Ok w0 O) (hG : Glob w0 O) (hp4 : Sl kChange w0 (Fr O) (G A1 n2 c3) d) :
  Ret Tryd.prog 9 [G A1 n2 c3] w0 (fun v w' => ∃ (r0 : Str), v = vs r0 ∧ Q r0 ∧ Gr w0 w' none ∧ Lim r0) := by
 unfold F24.E at H;have hc0 := Ct.init hO;refine X9 Tryd.func9 Z 39 Z [.tmp 2] Z Z ?_;refine Xc (Xd (Xf (vs []) Z (Xb (Xc (Xc (Xd (Xe (G A1 n2 c3) Z ?_)))))));refine Xs go14 (F55.calls H hc0.ok hp4) Z ?_;rintro _ w6 ⟨r, rfl, H, g7⟩;have ao := hc0.k0 g7;refine Xa (X7 r Z) (Xb ?_);refine Xx (!r) Z (fun az => ?_) (fun az => ?_)
 ·have H := Xo H az;exact Xc (Xd (Xf (vs []) Z (Xb (Xn ⟨[vs []], ⟨_, Z, Z⟩, ([] : Str), Z, H, ao.gr.g0, (by decide : Lim ([] : Str))⟩))))
 have H := Xp H az;refine Xy (Xc (Xd (Xf (.func (.func 18) #[] #[]) Z (Xb (Xc (Xd (Xf (vs []) Z (Xb ?_))))))));refine Xc (Xc (Xd (Xe (G A1 n2 c3) Z ?_)));have ch := (hp4.st ao.st).le;refine Xa (X8 u25_ A1 n2 c3 (hp4.st ao.st).len Z) (Xe (vi 0) Z (Xb (X6 ?_)));obtain ⟨bi, bj, a0, H⟩ := H;refine Yl (α := Str × Int) (fun (out2, v2) t a1 => bi out2 v2 ∧ Has t [(3, .func (.func 18) #[] #[]), (4, vs out2), (10, G A1 n2 c3), (11, vi (d.length : Int)), (12, vi v2)] ∧ Ct [] w0 a1 [] O ∧ Lim out2 ∧ Sl kChange a1 (Fr ([] ++ O)) (G A1 n2 c3) d) (fun (out2, v2) => bj out2 v2) (([] : Str), 0) ⟨a0, (Xz Z), ao, (by decide : Lim ([] : Str)), (hp4.st ao.st)⟩ ?_;rintro ⟨out2, v2⟩ _ a1 ⟨a0, bl, a2, bm, a3⟩;obtain ⟨ci, rfl⟩ := Has.ins bl;have H := H out2 v2 a0;refine Xc (Xd (Xa (X0 v2 (d.length : Int) (decide (v2 < (d.length : Int))) Z Z Z) (Xb (Xc ?_))));refine Xx (decide (v2 < (d.length : Int))) Z (fun a4 => ?_) (fun a4 => ?_)
 ·have H := Xo H a4;refine Xy (Xc (X6 (Xc (Xd ?_))));obtain ⟨a9, H⟩ := H;obtain ⟨ba, cj, bn, ck, bo, bp⟩ := a3.get default RD v2 a9;obtain ⟨ac, ad, ae, af, ag, ah, ai, aj, ak, al, am, an, rfl, cl, bq, br, bs, bt, bu, bv⟩ := kChange.op bo;refine Xa (X2 u25_ Y3 A1 ba n2 c3 a3.len v2 Z bn Z a9) (Xa (Xv ag39 sz39 cL (ba.add (v2.toNat * 11)) [vs ((nth d v2).Id), vb ((nth d v2).Had), vs ((nth d v2).Was.Id), vi ((nth d v2).Was.Shape.Kind), G ac ad ae, G af ag ah, vb ((nth d v2).Has), vs ((nth d v2).Now.Id), vi ((nth d v2).Now.Shape.Kind), G ai aj ak, G al am an] Z Z bp) (Yy [vs [], vb false, vs [], .int .i64 0, G none 0 0, G none 0 0, vb false, vs [], .int .i64 0, G none 0 0, G none 0 0] ze39 fun cm aa bb hu69 bc bw => ?_));have bd := a2.own bc (some aa) (Yt bb hu69);refine Yf [vs ((nth d v2).Id), vb ((nth d v2).Had), vs ((nth d v2).Was.Id), vi ((nth d v2).Was.Shape.Kind), G ac ad ae, G af ag ah, vb ((nth d v2).Has), vs ((nth d v2).Now.Id), vi ((nth d v2).Now.Shape.Kind), G ai aj ak, G al am an] bw Z Z sz39 Z Z fun cn be bx => ?_;have bf := bd.wr 0 Z be;refine Xb (Y6 22 [] RK Z fun bz a5 ab => ?_);have aw := bf.k0 a5;refine Xu 0 Z RK ab (Yo (vs out2) Z) ?_;refine Xu 1 Z RK ab (Xj fa39_0 (Ad aa 0) (Ad aa 0) Z Z) ?_;have ap := (bx.k0 a5);refine Xu 2 Z RK ab (Y7 ag9 cR (Ad aa 0) (vs ((nth d v2).Id)) Z (ap.cell Z) nm_nil) ?_;obtain ⟨b0, H⟩ := H;refine Xu 3 Z RK ab (Yh ((nth d v2).Id) ([58, 32] : Str) Z Z b0) ?_;refine Xu 4 Z RK ab (Yo (.func (.func 18) #[] #[]) Z) ?_;refine Xu 5 Z RK ab (Xj fa39_1 (Ad aa 0) (Ad aa 1) Z Z) ?_;refine Xu 6 Z RK ab (Y7 ag4 cR (Ad aa 1) (vb ((nth d v2).Had)) Z (ap.cell Z) nm_nil) ?_;refine Xu 7 Z RK ab (Xj fa39_2 (Ad aa 0) (Ad aa 2) Z Z) ?_;refine Xu 8 Z RK ab (Zf ag37 sz37 cR (Ad aa 2) [vs ((nth d v2).Was.Id), vi ((nth d v2).Was.Shape.Kind), G ac ad ae, G af ag ah] Z Z (ap.cells (off := 2) Z) nm_nil) ?_;refine Xu 12 Z RK ab (Yo (.func (.func 18) #[] #[]) Z) ?_;refine Xu 13 Z RK ab (Xj fa39_3 (Ad aa 0) (Ad aa 6) Z Z) ?_;refine Xu 14 Z RK ab (Y7 ag4 cR (Ad aa 6) (vb ((nth d v2).Has)) Z (ap.cell Z) nm_nil) ?_;refine Xu 15 Z RK ab (Xj fa39_4 (Ad aa 0) (Ad aa 7) Z Z) ?_;refine Xu 16 Z RK ab (Zf ag37 sz37 cR (Ad aa 7) [vs ((nth d v2).Now.Id), vi ((nth d v2).Now.Shape.Kind), G ai aj ak, G al am an] Z Z (ap.cells (off := 7) Z) nm_nil) ?_;refine X1 9 RK Z ?_;have aq := a2.stown _ bc (X4 bb);have ar := bd.stw 0 Z be;have au := bf.stn a5;have b1 := (((br.st aq).st ar).st au);have b2 := (((bs.st aq).st ar).st au);refine Z0 go18 [] Z [vb ((nth d v2).Had), .agg #[vs ((nth d v2).Was.Id), vi ((nth d v2).Was.Shape.Kind), G ac ad ae, G af ag ah]] Z ((F6.calls H aw.ok (hG.st aw.st) bq b1 b2).mono ?_);rintro _ b3 ⟨r2, rfl, H, a6, co⟩;have ax := aw.k0 a6;have ay := Gm.tm ab a6;refine Xb ⟨ay, ?_⟩;obtain ⟨b4, H⟩ := H;refine Xu 10 Z RK ay (Yh (((nth d v2).Id) ++ ([58, 32] : Str)) r2 Z Z b4) ?_;obtain ⟨b5, H⟩ := H;refine Xu 11 Z RK ay (Yh ((((nth d v2).Id) ++ ([58, 32] : Str)) ++ r2) ([32, 62, 32] : Str) Z Z b5) ?_;refine X1 17 RK Z ?_;have a7 := aw.stn a6;have b6 := ((((bu.st aq).st ar).st au).st a7);have b7 := ((((bv.st aq).st ar).st au).st a7);refine Z0 go18 [] Z [vb ((nth d v2).Has), .agg #[vs ((nth d v2).Now.Id), vi ((nth d v2).Now.Shape.Kind), G ai aj ak, G al am an]] Z ((F6.calls H ax.ok (hG.st ax.st) bt b6 b7).mono ?_);rintro _ cp ⟨r3, rfl, H, a8, cq⟩;have bg := ax.k0 a8;have av := Gm.tm ay a8;refine Xb ⟨av, ?_⟩;obtain ⟨b8, H⟩ := H;refine Xu 18 Z RK av (Yh (((((nth d v2).Id) ++ ([58, 32] : Str)) ++ r2) ++ ([32, 62, 32] : Str)) r3 Z Z b8) ?_;obtain ⟨b9, H⟩ := H;refine Xu 19 Z RK av (Yh ((((((nth d v2).Id) ++ ([58, 32] : Str)) ++ r2) ++ ([32, 62, 32] : Str)) ++ r3) ([10] : Str) Z Z b9) ?_;obtain ⟨bh, H⟩ := H;refine Xu 20 Z RK av (Yh out2 (((((((nth d v2).Id) ++ ([58, 32] : Str)) ++ r2) ++ ([32, 62, 32] : Str)) ++ r3) ++ ([10] : Str)) Z Z bh) ?_;refine Xu 21 Z RK av (Zd (vs (out2 ++ (((((((nth d v2).Id) ++ ([58, 32] : Str)) ++ r2) ++ ([32, 62, 32] : Str)) ++ r3) ++ ([10] : Str)))) Z) ?_;refine Yn RK ?_;refine Xd ?_;obtain ⟨ca, H⟩ := H;refine Xa (Ya v2 1 Z Z ca) (Xe (vi (v2 + 1)) Z (Xb ?_));have cb := bg.drop 0 Z;obtain ⟨cc, cd⟩ := H;have ce := ax.stn a8;have cf := bg.std 0 Z;have cg := ((((((a3.st aq).st ar).st au).st a7).st ce).st cf);exact ⟨((out2 ++ (((((((nth d v2).Id) ++ ([58, 32] : Str)) ++ r2) ++ ([32, 62, 32] : Str)) ++ r3) ++ ([10] : Str))), v2 + 1), cd, cc, (Xz Z), cb, (lim_cat bh), cg⟩
 have H := Xp H a4;refine Yi (xin_hit ?_);exact Xc (Xd (Xe (vs out2) Z (Xf (vs out2) Z (Xb (Xn ⟨[vs out2], ⟨_, Z, Z⟩, out2, Z, H, a2.gr.g0, bm⟩)))))
def F74.E (c_ : Change) (Q : Bool → Prop) : Prop :=
 F41.E c_.Id (fun r => (if !r then Q false else (if !c_.Had then (if !c_.Has then Q false else (if c_.Had then (if c_.Has then F19.E c_.Was c_.Now (fun r2 => (if r2 then Q false else F19.E c_.Was (⟨[], (⟨0, []⟩ : Shape), []⟩ : Feat) (fun r3 => (if !r3 then Q false else F45.E c_.Now (fun r4 => (if r4 then Q (c_.Now.Id == c_.Id) else Q false)))))) else F19.E c_.Was (⟨[], (⟨0, []⟩ : Shape), []⟩ : Feat) (fun r5 => (if !r5 then Q false else F45.E c_.Now (fun r6 => (if r6 then Q (c_.Now.Id == c_.Id) else Q false))))) else F19.E c_.Was (⟨[], (⟨0, []⟩ : Shape), []⟩ : Feat) (fun r7 => (if !r7 then Q false else F45.E c_.Now (fun r8 => (if r8 then Q (c_.Now.Id == c_.Id) else Q false)))))) else (if c_.Had then (if c_.Has then F19.E c_.Was c_.Now (fun r9 => (if r9 then Q false else (if !c_.Has then F19.E c_.Now (⟨[], (⟨0, []⟩ : Shape), []⟩ : Feat) (fun r10 => (if !r10 then Q false else F45.E c_.Was (fun r11 => (if r11 then (if c_.Was.Id == c_.Id then Q true else Q false) else Q false)))) else F45.E c_.Was (fun r12 => (if r12 then (if c_.Was.Id == c_.Id then F45.E c_.Now (fun r13 => (if r13 then Q (c_.Now.Id == c_.Id) else Q false)) else Q false) else Q false))))) else (if !c_.Has then F19.E c_.Now (⟨[], (⟨0, []⟩ : Shape), []⟩ : Feat) (fun r14 => (if !r14 then Q false else F45.E c_.Was (fun r15 => (if r15 then (if c_.Was.Id == c_.Id then Q true else Q false) else Q false)))) else F45.E c_.Was (fun r16 => (if r16 then (if c_.Was.Id == c_.Id then F45.E c_.Now (fun r17 => (if r17 then Q (c_.Now.Id == c_.Id) else Q false)) else Q false) else Q false)))) else (if !c_.Has then F19.E c_.Now (⟨[], (⟨0, []⟩ : Shape), []⟩ : Feat) (fun r18 => (if !r18 then Q false else F45.E c_.Was (fun r19 => (if r19 then (if c_.Was.Id == c_.Id then Q true else Q false) else Q false)))) else F45.E c_.Was (fun r20 => (if r20 then (if c_.Was.Id == c_.Id then F45.E c_.Now (fun r21 => (if r21 then Q (c_.Now.Id == c_.Id) else Q false)) else Q false) else Q false)))))))
theorem F74.calls {c_ : Change} {A3 : Option Addr} {n4 c5 : Nat} {A8 : Option Addr} {n9 ae : Nat} {af : Option Addr} {ag ah : Nat} {ai : Option Addr} {aj ak : Nat} {Q : Bool → Prop} (H : F74.E c_ Q) (hO : Ok w0 O) (hs1 : Lim c_.Id) (hs2 : Lim c_.Was.Id) (hp6 : Sl kPt w0 (Fr O) (G A3 n4 c5) c_.Was.Shape.Pts) (bf : Sl kTag w0 (Fr O) (G A8 n9 ae) c_.Was.Tags) (bg : Lim c_.Now.Id) (bh : Sl kPt w0 (Fr O) (G af ag ah) c_.Now.Shape.Pts) (bi : Sl kTag w0 (Fr O) (G ai aj ak) c_.Now.Tags) :
  Ret Tryd.prog 23 [.agg #[vs c_.Id, vb c_.Had, vs c_.Was.Id, vi c_.Was.Shape.Kind, G A3 n4 c5, G A8 n9 ae, vb c_.Has, vs c_.Now.Id, vi c_.Now.Shape.Kind, G af ag ah, G ai aj ak]] w0 (fun v w' => ∃ (r0 : Bool), v = vb r0 ∧ Q r0 ∧ Gr w0 w' none) := by
 unfold F74.E at H;have hc0 := Ct.init hO;refine X9 Tryd.func23 Z 88 Z [.tmp 2] Z Z ?_;refine Xc (Xd (Yq [vs c_.Id, vb c_.Had, vs c_.Was.Id, vi c_.Was.Shape.Kind, G A3 n4 c5, G A8 n9 ae, vb c_.Has, vs c_.Now.Id, vi c_.Now.Shape.Kind, G af ag ah, G ai aj ak] Z fun dn aa dp hu28 dq dr => ?_));have cm := Fb.mk hc0.ok dp dr;have b6 := hc0.k0 dq;refine Xf (vb false) Z (Xb (Xc (Xc (Xd (Xa (Xj fa39_0 (Ad aa 0) (Ad aa 0) Z Z) (Xa (Xl ag9 cL (Ad aa 0) (vs c_.Id) Z (cm.cell Z)) ?_))))));refine Xs go39 (F41.calls H b6.ok hs1) Z ?_;rintro _ bn ⟨r, rfl, H, cn⟩;have ad := b6.k0 cn;refine Xa (X7 r Z) (Xe (vb (!r)) Z ?_);rcases X3 (!r) with ap | ap
 ·have H := Xo H ap;refine Xi ap Z (Xi ap Z (Xi ap Z (Xi ap Z (Xr Z (Xr Z (Xr Z (Xi ap Z (Xa (Xk true (vb true) ap Z) ?_))))))));refine Xe (vb true) Z (X5 (dj := 17) Z Z (.inl Z) (X5 (dj := 17) Z Z (.inl Z) (X5 (dj := 17) Z Z (.inl Z) (Xr Z (Xr Z (X5 (dj := 17) Z Z (.inl Z) (X5 (dj := 17) Z Z (.inl Z) (Xr Z ?_))))))));refine Xr Z (Xr Z (Xr Z (Xr Z (X5 (dj := 17) Z Z (.inl Z) (Xa (Xk true (vb true) Z Z) (Xb (Yx (b := true) Z Z ?_)))))));exact Xc (Xd (Xf (vb false) Z (Xb (Xn ⟨[vb false], ⟨_, Z, Z⟩, false, Z, H, ad.gr.g0⟩))))
 have H := Xp H ap;refine Xh ap Z (Xa (Xj fa39_1 (Ad aa 0) (Ad aa 1) Z Z) (Xh ap Z ?_));have ds := b6.stn cn;have al := (cm.st ds);refine Xa (Xl ag4 cL (Ad aa 1) (vb c_.Had) Z (al.cell Z)) (Xh ap Z (Xa (X7 c_.Had Z) (Xh ap Z (Xe (vb (!c_.Had)) Z ?_))));rcases X3 (!c_.Had) with ab | ab
 ·have H := Xo H ab;refine Xh ab Z (Xa (Xj fa39_3 (Ad aa 0) (Ad aa 6) Z Z) (Xh ab Z (Xa (Xl ag4 cL (Ad aa 6) (vb c_.Has) Z (al.cell Z)) (Xh ab Z (Xa (X7 c_.Has Z) (Xh ap Z (Xa (Xk true (vb (!c_.Has)) ab Z) (Xa (Xk false (vb (!c_.Has)) ap Z) ?_))))))));refine Xe (vb (!c_.Has)) Z ?_;rcases X3 (!c_.Has) with ac | ac
  ·have H := Xo H ac;refine Xi ac Z (Xi ac Z (Xi ac Z (Xr Z (Xr Z (Xi ac Z (Xi ac Z (Xr Z (Xr Z ?_))))))));refine Xr Z (Xr Z (Xr Z (Xi ac Z (Xa (Xk true (vb true) ac Z) (Xb (Yx (b := true) Z Z ?_))))));exact Xc (Xd (Xf (vb false) Z (Xb (Xn ⟨[vb false], ⟨_, Z, Z⟩, false, Z, H, ad.gr.g0⟩))))
  have H := Xp H ac;refine Xh ac Z (Xa (Xj fa39_1 (Ad aa 0) (Ad aa 1) Z Z) (Xh ac Z (Xa (Xl ag4 cL (Ad aa 1) (vb c_.Had) Z (al.cell Z)) (Xh ac Z (Xe (vb c_.Had) Z ?_)))));rcases X3 c_.Had with bl | bl
  ·have H := Xo H bl;refine Xh bl Z (Xa (Xj fa39_3 (Ad aa 0) (Ad aa 6) Z Z) (Xh bl Z (Xa (Xl ag4 cL (Ad aa 6) (vb c_.Has) Z (al.cell Z)) (Xh ac Z (Xa (Xk true (vb c_.Has) bl Z) (Xh ac Z (Xe (vb c_.Has) Z ?_)))))));rcases X3 c_.Has with a7 | a7
   ·have H := Xo H a7;refine Xh a7 Z (Xa (Xj fa39_2 (Ad aa 0) (Ad aa 2) Z Z) (Xh a7 Z (Xa (Xv ag37 sz37 cL (Ad aa 2) [vs c_.Was.Id, vi c_.Was.Shape.Kind, G A3 n4 c5, G A8 n9 ae] Z Z (al.cells (off := 2) Z)) (Xh a7 Z (Xa (Xj fa39_4 (Ad aa 0) (Ad aa 7) Z Z) (Xh a7 Z (Xa (Xv ag37 sz37 cL (Ad aa 7) [vs c_.Now.Id, vi c_.Now.Shape.Kind, G af ag ah, G ai aj ak] Z Z (al.cells (off := 7) Z)) (Xh a7 Z ?_))))))));refine Xs go40 (F19.calls H ad.ok hs2 (hp6.st ad.st) (bf.st ad.st) bg (bh.st ad.st) (bi.st ad.st)) Z ?_;rintro _ dt ⟨r2, rfl, H, co⟩;have bs := ad.k0 co;refine Xh ac Z (Xa (Xk true (vb r2) a7 Z) (Xa (Xk false (vb r2) ac Z) (Xb ?_)));refine Xx r2 Z (fun b7 => ?_) (fun b7 => ?_)
    ·have H := Xo H b7;exact Xc (Xd (Xf (vb false) Z (Xb (Xn ⟨[vb false], ⟨_, Z, Z⟩, false, Z, H, bs.gr.g0⟩))))
    have H := Xp H b7;refine Xy (Xc (Xc (Xd (Xa (Xj fa39_1 (Ad aa 0) (Ad aa 1) Z Z) ?_))));have du := ad.stn co;have b8 := (al.st du);refine Xa (Xl ag4 cL (Ad aa 1) (vb c_.Had) Z (b8.cell Z)) (Xa (X7 c_.Had Z) (Xe (vb (!c_.Had)) Z (Xh ab Z (Xa (Xj fa39_2 (Ad aa 0) (Ad aa 2) Z Z) (Xh ab Z (Xa (Xv ag37 sz37 cL (Ad aa 2) [vs c_.Was.Id, vi c_.Was.Shape.Kind, G A3 n4 c5, G A8 n9 ae] Z Z (b8.cells (off := 2) Z)) (Xh ab Z (Xa (Yv (.agg #[vs [], vi 0, G none 0 0, G none 0 0]) RF) ?_))))))));refine Xh ab Z ?_;refine Xs go40 (F19.calls H bs.ok hs2 (hp6.st bs.st) (bf.st bs.st) RD (Sl.nil _ _ _ none 0 RD) (Sl.nil _ _ _ none 0 RD)) Z ?_;rintro _ dv ⟨r3, rfl, H, cp⟩;have bt := bs.k0 cp;refine Xh ab Z (Xa (X7 r3 Z) (Xa (Xk true (vb (!r3)) ab Z) (Xe (vb (!r3)) Z ?_)));rcases X3 (!r3) with a8 | a8
    ·have H := Xo H a8;refine Xi a8 Z (Xi a8 Z (Xi a8 Z (Xi a8 Z (Xr Z (Xr Z (Xr Z (Xr Z (Xr Z ?_))))))));refine Xi a8 Z (Xa (Xk true (vb true) a8 Z) (Xb (Yx (b := true) Z Z ?_)));exact Xc (Xd (Xf (vb false) Z (Xb (Xn ⟨[vb false], ⟨_, Z, Z⟩, false, Z, H, bt.gr.g0⟩))))
    have H := Xp H a8;refine Xh a8 Z (Xa (Xj fa39_3 (Ad aa 0) (Ad aa 6) Z Z) (Xh a8 Z ?_));have dw := bs.stn cp;have b0 := (b8.st dw);refine Xa (Xl ag4 cL (Ad aa 6) (vb c_.Has) Z (b0.cell Z)) (Xh a8 Z (Xa (X7 c_.Has Z) (Xh a8 Z (Xe (vb (!c_.Has)) Z (Xi ac Z (Xi ac Z (Xi ac Z (Xi ac Z ?_))))))));refine Xi ac Z (Xh a8 Z (Xa (Xk false (vb false) ac Z) (Xa (Xk false (vb false) a8 Z) (Xb (Y0 (b := false) Z Z ?_)))));refine Xy (Xc (Xd (Xa (Xj fa39_1 (Ad aa 0) (Ad aa 1) Z Z) (Xa (Xl ag4 cL (Ad aa 1) (vb c_.Had) Z (b0.cell Z)) (Xa (X7 c_.Had Z) (Xe (vb (!c_.Had)) Z (Xi ab Z (Xi ab Z ?_))))))));refine Xi ab Z (Xi ab Z (Xr Z (Xr Z (Xr Z (Xr Z (Xr Z (Xr Z (Xi ab Z ?_))))))));refine Xa (Xk true (vb true) ab Z) (Xe (vb true) Z (Yd (dj := 70) Z Z Z (Xa (Xj fa39_3 (Ad aa 0) (Ad aa 6) Z Z) (Yd (dj := 70) Z Z Z (Xa (Xl ag4 cL (Ad aa 6) (vb c_.Has) Z (b0.cell Z)) (Yd (dj := 70) Z Z Z (Xa (X7 c_.Has Z) (Yd (dj := 70) Z Z Z ?_))))))));refine Xe (vb (!c_.Has)) Z (Xh ac Z (Xa (Xj fa39_4 (Ad aa 0) (Ad aa 7) Z Z) (Xh ac Z (Xa (Xv ag37 sz37 cL (Ad aa 7) [vs c_.Now.Id, vi c_.Now.Shape.Kind, G af ag ah, G ai aj ak] Z Z (b0.cells (off := 7) Z)) (Xh ac Z ?_)))));refine Xs go41 (F45.calls H bt.ok bg (bh.st bt.st) (bi.st bt.st)) Z ?_;rintro _ en ⟨r4, rfl, H, cq⟩;have cr := bt.k0 cq;refine Xh ac Z (Xe (vb r4) Z ?_);rcases X3 r4 with aq | aq
    ·have H := Xo H aq;refine Xh aq Z (Xa (Xj fa39_4 (Ad aa 0) (Ad aa 7) Z Z) (Xh aq Z (Xa (Xj fa37_0 (Ad aa 7) (Ad aa 7) Z Z) (Xh aq Z ?_))));have dx := bt.stn cq;have cs := (b0.st dx);refine Xa (Xl ag9 cL (Ad aa 7) (vs c_.Now.Id) Z (cs.cell Z)) (Xh aq Z (Xa (Xj fa39_0 (Ad aa 0) (Ad aa 0) Z Z) (Xh aq Z (Xa (Xl ag9 cL (Ad aa 0) (vs c_.Id) Z (cs.cell Z)) (Xh aq Z (Xa (Yj c_.Now.Id c_.Id (c_.Now.Id == c_.Id) Z Z Z) (Xh ac Z (Xa (Xk true (vb (c_.Now.Id == c_.Id)) aq Z) ?_))))))));exact Yd (dj := 70) Z Z Z (Xa (Xk false (vb (c_.Now.Id == c_.Id)) ac Z) (Xa (Xk true (vb (c_.Now.Id == c_.Id)) Z Z) (Xf (vb (c_.Now.Id == c_.Id)) Z (Xb (Xn ⟨[vb (c_.Now.Id == c_.Id)], ⟨_, Z, Z⟩, c_.Now.Id == c_.Id, Z, H, cr.gr.g0⟩)))))
    have H := Xp H aq;refine Xi aq Z (Xi aq Z (Xi aq Z (Xi aq Z (Xi aq Z (Xi aq Z (Xh ac Z (Xa (Xk false (vb false) aq Z) (Yd (dj := 70) Z Z Z ?_))))))));exact Xa (Xk false (vb false) ac Z) (Xa (Xk true (vb false) Z Z) (Xf (vb false) Z (Xb (Xn ⟨[vb false], ⟨_, Z, Z⟩, false, Z, H, cr.gr.g0⟩))))
   have H := Xp H a7;refine Xi a7 Z (Xi a7 Z (Xi a7 Z (Xi a7 Z (Xi a7 Z (Xh ac Z (Xa (Xk false (vb false) a7 Z) (Xa (Xk false (vb false) ac Z) (Xb ?_))))))));refine Y0 (b := false) Z Z ?_;refine Xy (Xc (Xc (Xd (Xa (Xj fa39_1 (Ad aa 0) (Ad aa 1) Z Z) (Xa (Xl ag4 cL (Ad aa 1) (vb c_.Had) Z (al.cell Z)) (Xa (X7 c_.Had Z) (Xe (vb (!c_.Had)) Z (Xh ab Z ?_))))))));refine Xa (Xj fa39_2 (Ad aa 0) (Ad aa 2) Z Z) (Xh ab Z (Xa (Xv ag37 sz37 cL (Ad aa 2) [vs c_.Was.Id, vi c_.Was.Shape.Kind, G A3 n4 c5, G A8 n9 ae] Z Z (al.cells (off := 2) Z)) (Xh ab Z (Xa (Yv (.agg #[vs [], vi 0, G none 0 0, G none 0 0]) RF) (Xh ab Z ?_)))));refine Xs go40 (F19.calls H ad.ok hs2 (hp6.st ad.st) (bf.st ad.st) RD (Sl.nil _ _ _ none 0 RD) (Sl.nil _ _ _ none 0 RD)) Z ?_;rintro _ dy ⟨r5, rfl, H, ct⟩;have bu := ad.k0 ct;refine Xh ab Z (Xa (X7 r5 Z) (Xa (Xk true (vb (!r5)) ab Z) (Xe (vb (!r5)) Z ?_)));rcases X3 (!r5) with a9 | a9
   ·have H := Xo H a9;refine Xi a9 Z (Xi a9 Z (Xi a9 Z (Xi a9 Z (Xr Z (Xr Z (Xr Z (Xr Z (Xr Z ?_))))))));refine Xi a9 Z (Xa (Xk true (vb true) a9 Z) (Xb (Yx (b := true) Z Z ?_)));exact Xc (Xd (Xf (vb false) Z (Xb (Xn ⟨[vb false], ⟨_, Z, Z⟩, false, Z, H, bu.gr.g0⟩))))
   have H := Xp H a9;refine Xh a9 Z (Xa (Xj fa39_3 (Ad aa 0) (Ad aa 6) Z Z) (Xh a9 Z ?_));have dz := ad.stn ct;have b1 := (al.st dz);refine Xa (Xl ag4 cL (Ad aa 6) (vb c_.Has) Z (b1.cell Z)) (Xh a9 Z (Xa (X7 c_.Has Z) (Xh a9 Z (Xe (vb (!c_.Has)) Z (Xi ac Z (Xi ac Z (Xi ac Z (Xi ac Z ?_))))))));refine Xi ac Z (Xh a9 Z (Xa (Xk false (vb false) ac Z) (Xa (Xk false (vb false) a9 Z) (Xb (Y0 (b := false) Z Z ?_)))));refine Xy (Xc (Xd (Xa (Xj fa39_1 (Ad aa 0) (Ad aa 1) Z Z) (Xa (Xl ag4 cL (Ad aa 1) (vb c_.Had) Z (b1.cell Z)) (Xa (X7 c_.Had Z) (Xe (vb (!c_.Had)) Z (Xi ab Z (Xi ab Z ?_))))))));refine Xi ab Z (Xi ab Z (Xr Z (Xr Z (Xr Z (Xr Z (Xr Z (Xr Z (Xi ab Z ?_))))))));refine Xa (Xk true (vb true) ab Z) (Xe (vb true) Z (Yd (dj := 70) Z Z Z (Xa (Xj fa39_3 (Ad aa 0) (Ad aa 6) Z Z) (Yd (dj := 70) Z Z Z (Xa (Xl ag4 cL (Ad aa 6) (vb c_.Has) Z (b1.cell Z)) (Yd (dj := 70) Z Z Z (Xa (X7 c_.Has Z) (Yd (dj := 70) Z Z Z ?_))))))));refine Xe (vb (!c_.Has)) Z (Xh ac Z (Xa (Xj fa39_4 (Ad aa 0) (Ad aa 7) Z Z) (Xh ac Z (Xa (Xv ag37 sz37 cL (Ad aa 7) [vs c_.Now.Id, vi c_.Now.Shape.Kind, G af ag ah, G ai aj ak] Z Z (b1.cells (off := 7) Z)) (Xh ac Z ?_)))));refine Xs go41 (F45.calls H bu.ok bg (bh.st bu.st) (bi.st bu.st)) Z ?_;rintro _ eo ⟨r6, rfl, H, cu⟩;have cv := bu.k0 cu;refine Xh ac Z (Xe (vb r6) Z ?_);rcases X3 r6 with ar | ar
   ·have H := Xo H ar;refine Xh ar Z (Xa (Xj fa39_4 (Ad aa 0) (Ad aa 7) Z Z) (Xh ar Z (Xa (Xj fa37_0 (Ad aa 7) (Ad aa 7) Z Z) (Xh ar Z ?_))));have d0 := bu.stn cu;have cw := (b1.st d0);refine Xa (Xl ag9 cL (Ad aa 7) (vs c_.Now.Id) Z (cw.cell Z)) (Xh ar Z (Xa (Xj fa39_0 (Ad aa 0) (Ad aa 0) Z Z) (Xh ar Z (Xa (Xl ag9 cL (Ad aa 0) (vs c_.Id) Z (cw.cell Z)) (Xh ar Z (Xa (Yj c_.Now.Id c_.Id (c_.Now.Id == c_.Id) Z Z Z) (Xh ac Z (Xa (Xk true (vb (c_.Now.Id == c_.Id)) ar Z) ?_))))))));exact Yd (dj := 70) Z Z Z (Xa (Xk false (vb (c_.Now.Id == c_.Id)) ac Z) (Xa (Xk true (vb (c_.Now.Id == c_.Id)) Z Z) (Xf (vb (c_.Now.Id == c_.Id)) Z (Xb (Xn ⟨[vb (c_.Now.Id == c_.Id)], ⟨_, Z, Z⟩, c_.Now.Id == c_.Id, Z, H, cv.gr.g0⟩)))))
   have H := Xp H ar;refine Xi ar Z (Xi ar Z (Xi ar Z (Xi ar Z (Xi ar Z (Xi ar Z (Xh ac Z (Xa (Xk false (vb false) ar Z) (Yd (dj := 70) Z Z Z ?_))))))));exact Xa (Xk false (vb false) ac Z) (Xa (Xk true (vb false) Z Z) (Xf (vb false) Z (Xb (Xn ⟨[vb false], ⟨_, Z, Z⟩, false, Z, H, cv.gr.g0⟩))))
  have H := Xp H bl;refine Xi bl Z (Xi bl Z (Xh ac Z (Xa (Xk false (vb false) bl Z) (Xh ac Z (Xe (vb false) Z (X5 (dj := 24) Z Z (.inl Z) (X5 (dj := 24) Z Z (.inl Z) (X5 (dj := 24) Z Z (.inl Z) ?_))))))));refine X5 (dj := 24) Z Z (.inl Z) (X5 (dj := 24) Z Z (.inl Z) (Xh ac Z (Xa (Xk false (vb false) Z Z) (Xa (Xk false (vb false) ac Z) (Xb (Y0 (b := false) Z Z ?_))))));refine Xy (Xc (Xc (Xd (Xa (Xj fa39_1 (Ad aa 0) (Ad aa 1) Z Z) (Xa (Xl ag4 cL (Ad aa 1) (vb c_.Had) Z (al.cell Z)) (Xa (X7 c_.Had Z) (Xe (vb (!c_.Had)) Z (Xh ab Z ?_))))))));refine Xa (Xj fa39_2 (Ad aa 0) (Ad aa 2) Z Z) (Xh ab Z (Xa (Xv ag37 sz37 cL (Ad aa 2) [vs c_.Was.Id, vi c_.Was.Shape.Kind, G A3 n4 c5, G A8 n9 ae] Z Z (al.cells (off := 2) Z)) (Xh ab Z (Xa (Yv (.agg #[vs [], vi 0, G none 0 0, G none 0 0]) RF) (Xh ab Z ?_)))));refine Xs go40 (F19.calls H ad.ok hs2 (hp6.st ad.st) (bf.st ad.st) RD (Sl.nil _ _ _ none 0 RD) (Sl.nil _ _ _ none 0 RD)) Z ?_;rintro _ d1 ⟨r7, rfl, H, cx⟩;have bv := ad.k0 cx;refine Xh ab Z (Xa (X7 r7 Z) (Xa (Xk true (vb (!r7)) ab Z) (Xe (vb (!r7)) Z ?_)));rcases X3 (!r7) with ba | ba
  ·have H := Xo H ba;refine Xi ba Z (Xi ba Z (Xi ba Z (Xi ba Z (Xr Z (Xr Z (Xr Z (Xr Z (Xr Z ?_))))))));refine Xi ba Z (Xa (Xk true (vb true) ba Z) (Xb (Yx (b := true) Z Z ?_)));exact Xc (Xd (Xf (vb false) Z (Xb (Xn ⟨[vb false], ⟨_, Z, Z⟩, false, Z, H, bv.gr.g0⟩))))
  have H := Xp H ba;refine Xh ba Z (Xa (Xj fa39_3 (Ad aa 0) (Ad aa 6) Z Z) (Xh ba Z ?_));have d2 := ad.stn cx;have b2 := (al.st d2);refine Xa (Xl ag4 cL (Ad aa 6) (vb c_.Has) Z (b2.cell Z)) (Xh ba Z (Xa (X7 c_.Has Z) (Xh ba Z (Xe (vb (!c_.Has)) Z (Xi ac Z (Xi ac Z (Xi ac Z (Xi ac Z ?_))))))));refine Xi ac Z (Xh ba Z (Xa (Xk false (vb false) ac Z) (Xa (Xk false (vb false) ba Z) (Xb (Y0 (b := false) Z Z ?_)))));refine Xy (Xc (Xd (Xa (Xj fa39_1 (Ad aa 0) (Ad aa 1) Z Z) (Xa (Xl ag4 cL (Ad aa 1) (vb c_.Had) Z (b2.cell Z)) (Xa (X7 c_.Had Z) (Xe (vb (!c_.Had)) Z (Xi ab Z (Xi ab Z ?_))))))));refine Xi ab Z (Xi ab Z (Xr Z (Xr Z (Xr Z (Xr Z (Xr Z (Xr Z (Xi ab Z ?_))))))));refine Xa (Xk true (vb true) ab Z) (Xe (vb true) Z (Yd (dj := 70) Z Z Z (Xa (Xj fa39_3 (Ad aa 0) (Ad aa 6) Z Z) (Yd (dj := 70) Z Z Z (Xa (Xl ag4 cL (Ad aa 6) (vb c_.Has) Z (b2.cell Z)) (Yd (dj := 70) Z Z Z (Xa (X7 c_.Has Z) (Yd (dj := 70) Z Z Z ?_))))))));refine Xe (vb (!c_.Has)) Z (Xh ac Z (Xa (Xj fa39_4 (Ad aa 0) (Ad aa 7) Z Z) (Xh ac Z (Xa (Xv ag37 sz37 cL (Ad aa 7) [vs c_.Now.Id, vi c_.Now.Shape.Kind, G af ag ah, G ai aj ak] Z Z (b2.cells (off := 7) Z)) (Xh ac Z ?_)))));refine Xs go41 (F45.calls H bv.ok bg (bh.st bv.st) (bi.st bv.st)) Z ?_;rintro _ ep ⟨r8, rfl, H, cy⟩;have cz := bv.k0 cy;refine Xh ac Z (Xe (vb r8) Z ?_);rcases X3 r8 with au | au
  ·have H := Xo H au;refine Xh au Z (Xa (Xj fa39_4 (Ad aa 0) (Ad aa 7) Z Z) (Xh au Z (Xa (Xj fa37_0 (Ad aa 7) (Ad aa 7) Z Z) (Xh au Z ?_))));have d3 := bv.stn cy;have c0 := (b2.st d3);refine Xa (Xl ag9 cL (Ad aa 7) (vs c_.Now.Id) Z (c0.cell Z)) (Xh au Z (Xa (Xj fa39_0 (Ad aa 0) (Ad aa 0) Z Z) (Xh au Z (Xa (Xl ag9 cL (Ad aa 0) (vs c_.Id) Z (c0.cell Z)) (Xh au Z (Xa (Yj c_.Now.Id c_.Id (c_.Now.Id == c_.Id) Z Z Z) (Xh ac Z (Xa (Xk true (vb (c_.Now.Id == c_.Id)) au Z) ?_))))))));exact Yd (dj := 70) Z Z Z (Xa (Xk false (vb (c_.Now.Id == c_.Id)) ac Z) (Xa (Xk true (vb (c_.Now.Id == c_.Id)) Z Z) (Xf (vb (c_.Now.Id == c_.Id)) Z (Xb (Xn ⟨[vb (c_.Now.Id == c_.Id)], ⟨_, Z, Z⟩, c_.Now.Id == c_.Id, Z, H, cz.gr.g0⟩)))))
  have H := Xp H au;refine Xi au Z (Xi au Z (Xi au Z (Xi au Z (Xi au Z (Xi au Z (Xh ac Z (Xa (Xk false (vb false) au Z) (Yd (dj := 70) Z Z Z ?_))))))));exact Xa (Xk false (vb false) ac Z) (Xa (Xk true (vb false) Z Z) (Xf (vb false) Z (Xb (Xn ⟨[vb false], ⟨_, Z, Z⟩, false, Z, H, cz.gr.g0⟩))))
 have H := Xp H ab;refine Xi ab Z (Xi ab Z (Xi ab Z (Xh ap Z (Xa (Xk false (vb false) ab Z) (Xa (Xk false (vb false) ap Z) (Xe (vb false) Z (Yd (dj := 17) Z Z Z (Xa (Xj fa39_1 (Ad aa 0) (Ad aa 1) Z Z) ?_))))))));refine Yd (dj := 17) Z Z Z (Xa (Xl ag4 cL (Ad aa 1) (vb c_.Had) Z (al.cell Z)) (Yd (dj := 17) Z Z Z (Xe (vb c_.Had) Z ?_)));rcases X3 c_.Had with bm | bm
 ·have H := Xo H bm;refine Xh bm Z (Xa (Xj fa39_3 (Ad aa 0) (Ad aa 6) Z Z) (Xh bm Z (Xa (Xl ag4 cL (Ad aa 6) (vb c_.Has) Z (al.cell Z)) (Yd (dj := 17) Z Z Z (Xa (Xk true (vb c_.Has) bm Z) (Yd (dj := 17) Z Z Z (Xe (vb c_.Has) Z ?_)))))));rcases X3 c_.Has with bb | bb
  ·have H := Xo H bb;refine Xh bb Z (Xa (Xj fa39_2 (Ad aa 0) (Ad aa 2) Z Z) (Xh bb Z (Xa (Xv ag37 sz37 cL (Ad aa 2) [vs c_.Was.Id, vi c_.Was.Shape.Kind, G A3 n4 c5, G A8 n9 ae] Z Z (al.cells (off := 2) Z)) (Xh bb Z (Xa (Xj fa39_4 (Ad aa 0) (Ad aa 7) Z Z) (Xh bb Z (Xa (Xv ag37 sz37 cL (Ad aa 7) [vs c_.Now.Id, vi c_.Now.Shape.Kind, G af ag ah, G ai aj ak] Z Z (al.cells (off := 7) Z)) (Xh bb Z ?_))))))));refine Xs go40 (F19.calls H ad.ok hs2 (hp6.st ad.st) (bf.st ad.st) bg (bh.st ad.st) (bi.st ad.st)) Z ?_;rintro _ c1 ⟨r9, rfl, H, c2⟩;have bj := ad.k0 c2;refine Yd (dj := 17) Z Z Z (Xa (Xk true (vb r9) bb Z) (Xa (Xk false (vb r9) Z Z) (Xb ?_)));refine Xx r9 Z (fun b9 => ?_) (fun b9 => ?_)
   ·have H := Xo H b9;exact Xc (Xd (Xf (vb false) Z (Xb (Xn ⟨[vb false], ⟨_, Z, Z⟩, false, Z, H, bj.gr.g0⟩))))
   have H := Xp H b9;refine Xy (Xc (Xc (Xd (Xa (Xj fa39_1 (Ad aa 0) (Ad aa 1) Z Z) ?_))));have d4 := ad.stn c2;have bo := (al.st d4);refine Xa (Xl ag4 cL (Ad aa 1) (vb c_.Had) Z (bo.cell Z)) (Xa (X7 c_.Had Z) (Xe (vb (!c_.Had)) Z (Xi ab Z (Xi ab Z (Xi ab Z (Xi ab Z (Xi ab Z (Xa (Xk false (vb false) ab Z) ?_))))))));refine Xe (vb false) Z (Yd (dj := 42) Z Z Z (Xa (Xj fa39_3 (Ad aa 0) (Ad aa 6) Z Z) (Yd (dj := 42) Z Z Z (Xa (Xl ag4 cL (Ad aa 6) (vb c_.Has) Z (bo.cell Z)) (Yd (dj := 42) Z Z Z (Xa (X7 c_.Has Z) (Yd (dj := 42) Z Z Z (Xe (vb (!c_.Has)) Z ?_))))))));rcases X3 (!c_.Has) with am | am
   ·have H := Xo H am;refine Xh am Z (Xa (Xj fa39_4 (Ad aa 0) (Ad aa 7) Z Z) (Xh am Z (Xa (Xv ag37 sz37 cL (Ad aa 7) [vs c_.Now.Id, vi c_.Now.Shape.Kind, G af ag ah, G ai aj ak] Z Z (bo.cells (off := 7) Z)) (Xh am Z (Xa (Yv (.agg #[vs [], vi 0, G none 0 0, G none 0 0]) RF) (Xh am Z ?_))))));refine Xs go40 (F19.calls H bj.ok bg (bh.st bj.st) (bi.st bj.st) RD (Sl.nil _ _ _ none 0 RD) (Sl.nil _ _ _ none 0 RD)) Z ?_;rintro _ d5 ⟨r10, rfl, H, c3⟩;have bw := bj.k0 c3;refine Xh am Z (Xa (X7 r10 Z) (Yd (dj := 42) Z Z Z (Xa (Xk true (vb (!r10)) am Z) (Xa (Xk false (vb (!r10)) Z Z) (Xb ?_)))));refine Xx (!r10) Z (fun ca => ?_) (fun ca => ?_)
    ·have H := Xo H ca;exact Xc (Xd (Xf (vb false) Z (Xb (Xn ⟨[vb false], ⟨_, Z, Z⟩, false, Z, H, bw.gr.g0⟩))))
    have H := Xp H ca;refine Xy (Xc (Xd (Xa (Xj fa39_1 (Ad aa 0) (Ad aa 1) Z Z) ?_)));have d6 := bj.stn c3;have cb := (bo.st d6);refine Xa (Xl ag4 cL (Ad aa 1) (vb c_.Had) Z (cb.cell Z)) (Xa (X7 c_.Had Z) (Xe (vb (!c_.Had)) Z (Xh ab Z (Xa (Xj fa39_2 (Ad aa 0) (Ad aa 2) Z Z) (Xh ab Z (Xa (Xv ag37 sz37 cL (Ad aa 2) [vs c_.Was.Id, vi c_.Was.Shape.Kind, G A3 n4 c5, G A8 n9 ae] Z Z (cb.cells (off := 2) Z)) (Xh ab Z ?_)))))));refine Xs go41 (F45.calls H bw.ok hs2 (hp6.st bw.st) (bf.st bw.st)) Z ?_;rintro _ eq ⟨r11, rfl, H, c4⟩;have cc := bw.k0 c4;refine Xh ab Z (Xe (vb r11) Z ?_);rcases X3 r11 with av | av
    ·have H := Xo H av;refine Xh av Z (Xa (Xj fa39_2 (Ad aa 0) (Ad aa 2) Z Z) (Xh av Z (Xa (Xj fa37_0 (Ad aa 2) (Ad aa 2) Z Z) (Xh av Z ?_))));have d7 := bw.stn c4;have cd := (cb.st d7);refine Xa (Xl ag9 cL (Ad aa 2) (vs c_.Was.Id) Z (cd.cell Z)) (Xh av Z (Xa (Xj fa39_0 (Ad aa 0) (Ad aa 0) Z Z) (Xh av Z (Xa (Xl ag9 cL (Ad aa 0) (vs c_.Id) Z (cd.cell Z)) (Xh av Z (Xa (Yj c_.Was.Id c_.Id (c_.Was.Id == c_.Id) Z Z Z) (Xh ab Z (Xa (Xk true (vb (c_.Was.Id == c_.Id)) av Z) ?_))))))));refine Xa (Xk false (vb (c_.Was.Id == c_.Id)) ab Z) (Xe (vb (c_.Was.Id == c_.Id)) Z ?_);rcases X3 (c_.Was.Id == c_.Id) with bc | bc
     ·have H := Xo H bc;refine Xh bc Z (Xa (Xj fa39_3 (Ad aa 0) (Ad aa 6) Z Z) (Xh bc Z (Xa (Xl ag4 cL (Ad aa 6) (vb c_.Has) Z (cd.cell Z)) (Xh bc Z (Xa (X7 c_.Has Z) (Xh bc Z (Xe (vb (!c_.Has)) Z (Xi am Z ?_))))))));refine Xi am Z (Xi am Z (Xi am Z (Xr Z (Xr Z (Xr Z (Xr Z (Xr Z (Xr Z ?_))))))));exact Xi am Z (Xh bc Z (Xa (Xk true (vb true) am Z) (Xa (Xk true (vb true) bc Z) (Xf (vb true) Z (Xb (Xn ⟨[vb true], ⟨_, Z, Z⟩, true, Z, H, cc.gr.g0⟩))))))
     have H := Xp H bc;refine Xi bc Z (Xi bc Z (Xi bc Z (Xi bc Z (Xr Z (Xr Z (Xr Z (Xr Z (Xr Z ?_))))))));refine Xr Z (Xr Z (Xr Z (Xr Z (Xr Z (Xr Z (Xi bc Z (Xa (Xk false (vb false) bc Z) (Xf (vb false) Z ?_))))))));exact Xb (Xn ⟨[vb false], ⟨_, Z, Z⟩, false, Z, H, cc.gr.g0⟩)
    have H := Xp H av;refine Xi av Z (Xi av Z (Xi av Z (Xi av Z (Xi av Z (Xi av Z (Xh ab Z (Xa (Xk false (vb false) av Z) (Xa (Xk false (vb false) ab Z) ?_))))))));refine Xe (vb false) Z (X5 (dj := 70) Z Z (.inl Z) (X5 (dj := 70) Z Z (.inl Z) (X5 (dj := 70) Z Z (.inl Z) (X5 (dj := 70) Z Z (.inl Z) (Xr Z (Xr Z (Xr Z (Xr Z ?_))))))));refine Xr Z (Xr Z (Xr Z (Xr Z (Xr Z (Xr Z (Xr Z (X5 (dj := 70) Z Z (.inl Z) (Xa (Xk false (vb false) Z Z) ?_))))))));exact Xf (vb false) Z (Xb (Xn ⟨[vb false], ⟨_, Z, Z⟩, false, Z, H, cc.gr.g0⟩))
   have H := Xp H am;refine Xi am Z (Xi am Z (Xi am Z (Xi am Z (Xi am Z (Yd (dj := 42) Z Z Z (Xa (Xk false (vb false) am Z) (Xa (Xk false (vb false) Z Z) (Xb ?_))))))));refine Y0 (b := false) Z Z ?_;refine Xy (Xc (Xd (Xa (Xj fa39_1 (Ad aa 0) (Ad aa 1) Z Z) (Xa (Xl ag4 cL (Ad aa 1) (vb c_.Had) Z (bo.cell Z)) (Xa (X7 c_.Had Z) (Xe (vb (!c_.Had)) Z (Xh ab Z (Xa (Xj fa39_2 (Ad aa 0) (Ad aa 2) Z Z) ?_))))))));refine Xh ab Z (Xa (Xv ag37 sz37 cL (Ad aa 2) [vs c_.Was.Id, vi c_.Was.Shape.Kind, G A3 n4 c5, G A8 n9 ae] Z Z (bo.cells (off := 2) Z)) (Xh ab Z ?_));refine Xs go41 (F45.calls H bj.ok hs2 (hp6.st bj.st) (bf.st bj.st)) Z ?_;rintro _ d8 ⟨r12, rfl, H, c6⟩;have bp := bj.k0 c6;refine Xh ab Z (Xe (vb r12) Z ?_);rcases X3 r12 with aw | aw
   ·have H := Xo H aw;refine Xh aw Z (Xa (Xj fa39_2 (Ad aa 0) (Ad aa 2) Z Z) (Xh aw Z (Xa (Xj fa37_0 (Ad aa 2) (Ad aa 2) Z Z) (Xh aw Z ?_))));have d9 := bj.stn c6;have b3 := (bo.st d9);refine Xa (Xl ag9 cL (Ad aa 2) (vs c_.Was.Id) Z (b3.cell Z)) (Xh aw Z (Xa (Xj fa39_0 (Ad aa 0) (Ad aa 0) Z Z) (Xh aw Z (Xa (Xl ag9 cL (Ad aa 0) (vs c_.Id) Z (b3.cell Z)) (Xh aw Z (Xa (Yj c_.Was.Id c_.Id (c_.Was.Id == c_.Id) Z Z Z) (Xh ab Z (Xa (Xk true (vb (c_.Was.Id == c_.Id)) aw Z) ?_))))))));refine Xa (Xk false (vb (c_.Was.Id == c_.Id)) ab Z) (Xe (vb (c_.Was.Id == c_.Id)) Z ?_);rcases X3 (c_.Was.Id == c_.Id) with ax | ax
    ·have H := Xo H ax;refine Xh ax Z (Xa (Xj fa39_3 (Ad aa 0) (Ad aa 6) Z Z) (Xh ax Z (Xa (Xl ag4 cL (Ad aa 6) (vb c_.Has) Z (b3.cell Z)) (Xh ax Z (Xa (X7 c_.Has Z) (Xh ax Z (Xe (vb (!c_.Has)) Z (Xh am Z ?_))))))));refine Xa (Xj fa39_4 (Ad aa 0) (Ad aa 7) Z Z) (Xh am Z (Xa (Xv ag37 sz37 cL (Ad aa 7) [vs c_.Now.Id, vi c_.Now.Shape.Kind, G af ag ah, G ai aj ak] Z Z (b3.cells (off := 7) Z)) (Xh am Z ?_)));refine Xs go41 (F45.calls H bp.ok bg (bh.st bp.st) (bi.st bp.st)) Z ?_;rintro _ er ⟨r13, rfl, H, c7⟩;have c8 := bp.k0 c7;refine Xh am Z (Xe (vb r13) Z ?_);rcases X3 r13 with ay | ay
     ·have H := Xo H ay;refine Xh ay Z (Xa (Xj fa39_4 (Ad aa 0) (Ad aa 7) Z Z) (Xh ay Z (Xa (Xj fa37_0 (Ad aa 7) (Ad aa 7) Z Z) (Xh ay Z ?_))));have ea := bp.stn c7;have c9 := (b3.st ea);refine Xa (Xl ag9 cL (Ad aa 7) (vs c_.Now.Id) Z (c9.cell Z)) (Xh ay Z (Xa (Xj fa39_0 (Ad aa 0) (Ad aa 0) Z Z) (Xh ay Z (Xa (Xl ag9 cL (Ad aa 0) (vs c_.Id) Z (c9.cell Z)) (Xh ay Z (Xa (Yj c_.Now.Id c_.Id (c_.Now.Id == c_.Id) Z Z Z) (Xh am Z (Xa (Xk true (vb (c_.Now.Id == c_.Id)) ay Z) ?_))))))));exact Xh ax Z (Xa (Xk false (vb (c_.Now.Id == c_.Id)) am Z) (Xa (Xk true (vb (c_.Now.Id == c_.Id)) ax Z) (Xf (vb (c_.Now.Id == c_.Id)) Z (Xb (Xn ⟨[vb (c_.Now.Id == c_.Id)], ⟨_, Z, Z⟩, c_.Now.Id == c_.Id, Z, H, c8.gr.g0⟩)))))
     have H := Xp H ay;refine Xi ay Z (Xi ay Z (Xi ay Z (Xi ay Z (Xi ay Z (Xi ay Z (Xh am Z (Xa (Xk false (vb false) ay Z) (Xh ax Z ?_))))))));exact Xa (Xk false (vb false) am Z) (Xa (Xk true (vb false) ax Z) (Xf (vb false) Z (Xb (Xn ⟨[vb false], ⟨_, Z, Z⟩, false, Z, H, c8.gr.g0⟩))))
    have H := Xp H ax;refine Xi ax Z (Xi ax Z (Xi ax Z (Xi ax Z (Xr Z (Xr Z (Xr Z (Xr Z (Xr Z ?_))))))));refine Xr Z (Xr Z (Xr Z (Xr Z (Xr Z (Xr Z (Xi ax Z (Xa (Xk false (vb false) ax Z) (Xf (vb false) Z ?_))))))));exact Xb (Xn ⟨[vb false], ⟨_, Z, Z⟩, false, Z, H, bp.gr.g0⟩)
   have H := Xp H aw;refine Xi aw Z (Xi aw Z (Xi aw Z (Xi aw Z (Xi aw Z (Xi aw Z (Xh ab Z (Xa (Xk false (vb false) aw Z) (Xa (Xk false (vb false) ab Z) ?_))))))));refine Xe (vb false) Z (X5 (dj := 70) Z Z (.inl Z) (X5 (dj := 70) Z Z (.inl Z) (X5 (dj := 70) Z Z (.inl Z) (X5 (dj := 70) Z Z (.inl Z) (Xr Z (Xr Z (Xr Z (Xr Z ?_))))))));refine Xr Z (Xr Z (Xr Z (Xr Z (Xr Z (Xr Z (Xr Z (X5 (dj := 70) Z Z (.inl Z) (Xa (Xk false (vb false) Z Z) ?_))))))));exact Xf (vb false) Z (Xb (Xn ⟨[vb false], ⟨_, Z, Z⟩, false, Z, H, bp.gr.g0⟩))
  have H := Xp H bb;refine Xi bb Z (Xi bb Z (Xi bb Z (Xi bb Z (Xi bb Z (Yd (dj := 17) Z Z Z (Xa (Xk false (vb false) bb Z) (Xa (Xk false (vb false) Z Z) (Xb ?_))))))));refine Y0 (b := false) Z Z ?_;refine Xy (Xc (Xc (Xd (Xa (Xj fa39_1 (Ad aa 0) (Ad aa 1) Z Z) (Xa (Xl ag4 cL (Ad aa 1) (vb c_.Had) Z (al.cell Z)) (Xa (X7 c_.Had Z) (Xe (vb (!c_.Had)) Z (Xi ab Z ?_))))))));refine Xi ab Z (Xi ab Z (Xi ab Z (Xi ab Z (Xa (Xk false (vb false) ab Z) (Xe (vb false) Z (Yd (dj := 42) Z Z Z (Xa (Xj fa39_3 (Ad aa 0) (Ad aa 6) Z Z) (Yd (dj := 42) Z Z Z ?_))))))));refine Xa (Xl ag4 cL (Ad aa 6) (vb c_.Has) Z (al.cell Z)) (Yd (dj := 42) Z Z Z (Xa (X7 c_.Has Z) (Yd (dj := 42) Z Z Z (Xe (vb (!c_.Has)) Z ?_))));rcases X3 (!c_.Has) with an | an
  ·have H := Xo H an;refine Xh an Z (Xa (Xj fa39_4 (Ad aa 0) (Ad aa 7) Z Z) (Xh an Z (Xa (Xv ag37 sz37 cL (Ad aa 7) [vs c_.Now.Id, vi c_.Now.Shape.Kind, G af ag ah, G ai aj ak] Z Z (al.cells (off := 7) Z)) (Xh an Z (Xa (Yv (.agg #[vs [], vi 0, G none 0 0, G none 0 0]) RF) (Xh an Z ?_))))));refine Xs go40 (F19.calls H ad.ok bg (bh.st ad.st) (bi.st ad.st) RD (Sl.nil _ _ _ none 0 RD) (Sl.nil _ _ _ none 0 RD)) Z ?_;rintro _ eb ⟨r14, rfl, H, da⟩;have bx := ad.k0 da;refine Xh an Z (Xa (X7 r14 Z) (Yd (dj := 42) Z Z Z (Xa (Xk true (vb (!r14)) an Z) (Xa (Xk false (vb (!r14)) Z Z) (Xb ?_)))));refine Xx (!r14) Z (fun ce => ?_) (fun ce => ?_)
   ·have H := Xo H ce;exact Xc (Xd (Xf (vb false) Z (Xb (Xn ⟨[vb false], ⟨_, Z, Z⟩, false, Z, H, bx.gr.g0⟩))))
   have H := Xp H ce;refine Xy (Xc (Xd (Xa (Xj fa39_1 (Ad aa 0) (Ad aa 1) Z Z) ?_)));have ec := ad.stn da;have cf := (al.st ec);refine Xa (Xl ag4 cL (Ad aa 1) (vb c_.Had) Z (cf.cell Z)) (Xa (X7 c_.Had Z) (Xe (vb (!c_.Had)) Z (Xh ab Z (Xa (Xj fa39_2 (Ad aa 0) (Ad aa 2) Z Z) (Xh ab Z (Xa (Xv ag37 sz37 cL (Ad aa 2) [vs c_.Was.Id, vi c_.Was.Shape.Kind, G A3 n4 c5, G A8 n9 ae] Z Z (cf.cells (off := 2) Z)) (Xh ab Z ?_)))))));refine Xs go41 (F45.calls H bx.ok hs2 (hp6.st bx.st) (bf.st bx.st)) Z ?_;rintro _ es ⟨r15, rfl, H, db⟩;have cg := bx.k0 db;refine Xh ab Z (Xe (vb r15) Z ?_);rcases X3 r15 with az | az
   ·have H := Xo H az;refine Xh az Z (Xa (Xj fa39_2 (Ad aa 0) (Ad aa 2) Z Z) (Xh az Z (Xa (Xj fa37_0 (Ad aa 2) (Ad aa 2) Z Z) (Xh az Z ?_))));have ed := bx.stn db;have ch := (cf.st ed);refine Xa (Xl ag9 cL (Ad aa 2) (vs c_.Was.Id) Z (ch.cell Z)) (Xh az Z (Xa (Xj fa39_0 (Ad aa 0) (Ad aa 0) Z Z) (Xh az Z (Xa (Xl ag9 cL (Ad aa 0) (vs c_.Id) Z (ch.cell Z)) (Xh az Z (Xa (Yj c_.Was.Id c_.Id (c_.Was.Id == c_.Id) Z Z Z) (Xh ab Z (Xa (Xk true (vb (c_.Was.Id == c_.Id)) az Z) ?_))))))));refine Xa (Xk false (vb (c_.Was.Id == c_.Id)) ab Z) (Xe (vb (c_.Was.Id == c_.Id)) Z ?_);rcases X3 (c_.Was.Id == c_.Id) with bd | bd
    ·have H := Xo H bd;refine Xh bd Z (Xa (Xj fa39_3 (Ad aa 0) (Ad aa 6) Z Z) (Xh bd Z (Xa (Xl ag4 cL (Ad aa 6) (vb c_.Has) Z (ch.cell Z)) (Xh bd Z (Xa (X7 c_.Has Z) (Xh bd Z (Xe (vb (!c_.Has)) Z (Xi an Z ?_))))))));refine Xi an Z (Xi an Z (Xi an Z (Xr Z (Xr Z (Xr Z (Xr Z (Xr Z (Xr Z ?_))))))));exact Xi an Z (Xh bd Z (Xa (Xk true (vb true) an Z) (Xa (Xk true (vb true) bd Z) (Xf (vb true) Z (Xb (Xn ⟨[vb true], ⟨_, Z, Z⟩, true, Z, H, cg.gr.g0⟩))))))
    have H := Xp H bd;refine Xi bd Z (Xi bd Z (Xi bd Z (Xi bd Z (Xr Z (Xr Z (Xr Z (Xr Z (Xr Z ?_))))))));refine Xr Z (Xr Z (Xr Z (Xr Z (Xr Z (Xr Z (Xi bd Z (Xa (Xk false (vb false) bd Z) (Xf (vb false) Z ?_))))))));exact Xb (Xn ⟨[vb false], ⟨_, Z, Z⟩, false, Z, H, cg.gr.g0⟩)
   have H := Xp H az;refine Xi az Z (Xi az Z (Xi az Z (Xi az Z (Xi az Z (Xi az Z (Xh ab Z (Xa (Xk false (vb false) az Z) (Xa (Xk false (vb false) ab Z) ?_))))))));refine Xe (vb false) Z (X5 (dj := 70) Z Z (.inl Z) (X5 (dj := 70) Z Z (.inl Z) (X5 (dj := 70) Z Z (.inl Z) (X5 (dj := 70) Z Z (.inl Z) (Xr Z (Xr Z (Xr Z (Xr Z ?_))))))));refine Xr Z (Xr Z (Xr Z (Xr Z (Xr Z (Xr Z (Xr Z (X5 (dj := 70) Z Z (.inl Z) (Xa (Xk false (vb false) Z Z) ?_))))))));exact Xf (vb false) Z (Xb (Xn ⟨[vb false], ⟨_, Z, Z⟩, false, Z, H, cg.gr.g0⟩))
  have H := Xp H an;refine Xi an Z (Xi an Z (Xi an Z (Xi an Z (Xi an Z (Yd (dj := 42) Z Z Z (Xa (Xk false (vb false) an Z) (Xa (Xk false (vb false) Z Z) (Xb ?_))))))));refine Y0 (b := false) Z Z ?_;refine Xy (Xc (Xd (Xa (Xj fa39_1 (Ad aa 0) (Ad aa 1) Z Z) (Xa (Xl ag4 cL (Ad aa 1) (vb c_.Had) Z (al.cell Z)) (Xa (X7 c_.Had Z) (Xe (vb (!c_.Had)) Z (Xh ab Z (Xa (Xj fa39_2 (Ad aa 0) (Ad aa 2) Z Z) ?_))))))));refine Xh ab Z (Xa (Xv ag37 sz37 cL (Ad aa 2) [vs c_.Was.Id, vi c_.Was.Shape.Kind, G A3 n4 c5, G A8 n9 ae] Z Z (al.cells (off := 2) Z)) (Xh ab Z ?_));refine Xs go41 (F45.calls H ad.ok hs2 (hp6.st ad.st) (bf.st ad.st)) Z ?_;rintro _ ee ⟨r16, rfl, H, dc⟩;have bq := ad.k0 dc;refine Xh ab Z (Xe (vb r16) Z ?_);rcases X3 r16 with a0 | a0
  ·have H := Xo H a0;refine Xh a0 Z (Xa (Xj fa39_2 (Ad aa 0) (Ad aa 2) Z Z) (Xh a0 Z (Xa (Xj fa37_0 (Ad aa 2) (Ad aa 2) Z Z) (Xh a0 Z ?_))));have ef := ad.stn dc;have b4 := (al.st ef);refine Xa (Xl ag9 cL (Ad aa 2) (vs c_.Was.Id) Z (b4.cell Z)) (Xh a0 Z (Xa (Xj fa39_0 (Ad aa 0) (Ad aa 0) Z Z) (Xh a0 Z (Xa (Xl ag9 cL (Ad aa 0) (vs c_.Id) Z (b4.cell Z)) (Xh a0 Z (Xa (Yj c_.Was.Id c_.Id (c_.Was.Id == c_.Id) Z Z Z) (Xh ab Z (Xa (Xk true (vb (c_.Was.Id == c_.Id)) a0 Z) ?_))))))));refine Xa (Xk false (vb (c_.Was.Id == c_.Id)) ab Z) (Xe (vb (c_.Was.Id == c_.Id)) Z ?_);rcases X3 (c_.Was.Id == c_.Id) with a1 | a1
   ·have H := Xo H a1;refine Xh a1 Z (Xa (Xj fa39_3 (Ad aa 0) (Ad aa 6) Z Z) (Xh a1 Z (Xa (Xl ag4 cL (Ad aa 6) (vb c_.Has) Z (b4.cell Z)) (Xh a1 Z (Xa (X7 c_.Has Z) (Xh a1 Z (Xe (vb (!c_.Has)) Z (Xh an Z ?_))))))));refine Xa (Xj fa39_4 (Ad aa 0) (Ad aa 7) Z Z) (Xh an Z (Xa (Xv ag37 sz37 cL (Ad aa 7) [vs c_.Now.Id, vi c_.Now.Shape.Kind, G af ag ah, G ai aj ak] Z Z (b4.cells (off := 7) Z)) (Xh an Z ?_)));refine Xs go41 (F45.calls H bq.ok bg (bh.st bq.st) (bi.st bq.st)) Z ?_;rintro _ et ⟨r17, rfl, H, dd⟩;have de := bq.k0 dd;refine Xh an Z (Xe (vb r17) Z ?_);rcases X3 r17 with a2 | a2
    ·have H := Xo H a2;refine Xh a2 Z (Xa (Xj fa39_4 (Ad aa 0) (Ad aa 7) Z Z) (Xh a2 Z (Xa (Xj fa37_0 (Ad aa 7) (Ad aa 7) Z Z) (Xh a2 Z ?_))));have eg := bq.stn dd;have df := (b4.st eg);refine Xa (Xl ag9 cL (Ad aa 7) (vs c_.Now.Id) Z (df.cell Z)) (Xh a2 Z (Xa (Xj fa39_0 (Ad aa 0) (Ad aa 0) Z Z) (Xh a2 Z (Xa (Xl ag9 cL (Ad aa 0) (vs c_.Id) Z (df.cell Z)) (Xh a2 Z (Xa (Yj c_.Now.Id c_.Id (c_.Now.Id == c_.Id) Z Z Z) (Xh an Z (Xa (Xk true (vb (c_.Now.Id == c_.Id)) a2 Z) ?_))))))));exact Xh a1 Z (Xa (Xk false (vb (c_.Now.Id == c_.Id)) an Z) (Xa (Xk true (vb (c_.Now.Id == c_.Id)) a1 Z) (Xf (vb (c_.Now.Id == c_.Id)) Z (Xb (Xn ⟨[vb (c_.Now.Id == c_.Id)], ⟨_, Z, Z⟩, c_.Now.Id == c_.Id, Z, H, de.gr.g0⟩)))))
    have H := Xp H a2;refine Xi a2 Z (Xi a2 Z (Xi a2 Z (Xi a2 Z (Xi a2 Z (Xi a2 Z (Xh an Z (Xa (Xk false (vb false) a2 Z) (Xh a1 Z ?_))))))));exact Xa (Xk false (vb false) an Z) (Xa (Xk true (vb false) a1 Z) (Xf (vb false) Z (Xb (Xn ⟨[vb false], ⟨_, Z, Z⟩, false, Z, H, de.gr.g0⟩))))
   have H := Xp H a1;refine Xi a1 Z (Xi a1 Z (Xi a1 Z (Xi a1 Z (Xr Z (Xr Z (Xr Z (Xr Z (Xr Z ?_))))))));refine Xr Z (Xr Z (Xr Z (Xr Z (Xr Z (Xr Z (Xi a1 Z (Xa (Xk false (vb false) a1 Z) (Xf (vb false) Z ?_))))))));exact Xb (Xn ⟨[vb false], ⟨_, Z, Z⟩, false, Z, H, bq.gr.g0⟩)
  have H := Xp H a0;refine Xi a0 Z (Xi a0 Z (Xi a0 Z (Xi a0 Z (Xi a0 Z (Xi a0 Z (Xh ab Z (Xa (Xk false (vb false) a0 Z) (Xa (Xk false (vb false) ab Z) ?_))))))));refine Xe (vb false) Z (X5 (dj := 70) Z Z (.inl Z) (X5 (dj := 70) Z Z (.inl Z) (X5 (dj := 70) Z Z (.inl Z) (X5 (dj := 70) Z Z (.inl Z) (Xr Z (Xr Z (Xr Z (Xr Z ?_))))))));refine Xr Z (Xr Z (Xr Z (Xr Z (Xr Z (Xr Z (Xr Z (X5 (dj := 70) Z Z (.inl Z) (Xa (Xk false (vb false) Z Z) ?_))))))));exact Xf (vb false) Z (Xb (Xn ⟨[vb false], ⟨_, Z, Z⟩, false, Z, H, bq.gr.g0⟩))
 have H := Xp H bm;refine Xi bm Z (Xi bm Z (Yd (dj := 17) Z Z Z (Xa (Xk false (vb false) bm Z) (Yd (dj := 17) Z Z Z (Xe (vb false) Z (X5 (dj := 24) Z Z (.inl Z) (X5 (dj := 24) Z Z (.inl Z) (X5 (dj := 24) Z Z (.inl Z) ?_))))))));refine X5 (dj := 24) Z Z (.inl Z) (X5 (dj := 24) Z Z (.inl Z) (Yd (dj := 17) Z Z Z (Xa (Xk false (vb false) Z Z) (Xa (Xk false (vb false) Z Z) (Xb (Y0 (b := false) Z Z ?_))))));refine Xy (Xc (Xc (Xd (Xa (Xj fa39_1 (Ad aa 0) (Ad aa 1) Z Z) (Xa (Xl ag4 cL (Ad aa 1) (vb c_.Had) Z (al.cell Z)) (Xa (X7 c_.Had Z) (Xe (vb (!c_.Had)) Z (Xi ab Z ?_))))))));refine Xi ab Z (Xi ab Z (Xi ab Z (Xi ab Z (Xa (Xk false (vb false) ab Z) (Xe (vb false) Z (Yd (dj := 42) Z Z Z (Xa (Xj fa39_3 (Ad aa 0) (Ad aa 6) Z Z) (Yd (dj := 42) Z Z Z ?_))))))));refine Xa (Xl ag4 cL (Ad aa 6) (vb c_.Has) Z (al.cell Z)) (Yd (dj := 42) Z Z Z (Xa (X7 c_.Has Z) (Yd (dj := 42) Z Z Z (Xe (vb (!c_.Has)) Z ?_))));rcases X3 (!c_.Has) with ao | ao
 ·have H := Xo H ao;refine Xh ao Z (Xa (Xj fa39_4 (Ad aa 0) (Ad aa 7) Z Z) (Xh ao Z (Xa (Xv ag37 sz37 cL (Ad aa 7) [vs c_.Now.Id, vi c_.Now.Shape.Kind, G af ag ah, G ai aj ak] Z Z (al.cells (off := 7) Z)) (Xh ao Z (Xa (Yv (.agg #[vs [], vi 0, G none 0 0, G none 0 0]) RF) (Xh ao Z ?_))))));refine Xs go40 (F19.calls H ad.ok bg (bh.st ad.st) (bi.st ad.st) RD (Sl.nil _ _ _ none 0 RD) (Sl.nil _ _ _ none 0 RD)) Z ?_;rintro _ eh ⟨r18, rfl, H, dg⟩;have bz := ad.k0 dg;refine Xh ao Z (Xa (X7 r18 Z) (Yd (dj := 42) Z Z Z (Xa (Xk true (vb (!r18)) ao Z) (Xa (Xk false (vb (!r18)) Z Z) (Xb ?_)))));refine Xx (!r18) Z (fun ci => ?_) (fun ci => ?_)
  ·have H := Xo H ci;exact Xc (Xd (Xf (vb false) Z (Xb (Xn ⟨[vb false], ⟨_, Z, Z⟩, false, Z, H, bz.gr.g0⟩))))
  have H := Xp H ci;refine Xy (Xc (Xd (Xa (Xj fa39_1 (Ad aa 0) (Ad aa 1) Z Z) ?_)));have ei := ad.stn dg;have cj := (al.st ei);refine Xa (Xl ag4 cL (Ad aa 1) (vb c_.Had) Z (cj.cell Z)) (Xa (X7 c_.Had Z) (Xe (vb (!c_.Had)) Z (Xh ab Z (Xa (Xj fa39_2 (Ad aa 0) (Ad aa 2) Z Z) (Xh ab Z (Xa (Xv ag37 sz37 cL (Ad aa 2) [vs c_.Was.Id, vi c_.Was.Shape.Kind, G A3 n4 c5, G A8 n9 ae] Z Z (cj.cells (off := 2) Z)) (Xh ab Z ?_)))))));refine Xs go41 (F45.calls H bz.ok hs2 (hp6.st bz.st) (bf.st bz.st)) Z ?_;rintro _ eu ⟨r19, rfl, H, dh⟩;have ck := bz.k0 dh;refine Xh ab Z (Xe (vb r19) Z ?_);rcases X3 r19 with a3 | a3
  ·have H := Xo H a3;refine Xh a3 Z (Xa (Xj fa39_2 (Ad aa 0) (Ad aa 2) Z Z) (Xh a3 Z (Xa (Xj fa37_0 (Ad aa 2) (Ad aa 2) Z Z) (Xh a3 Z ?_))));have ej := bz.stn dh;have cl := (cj.st ej);refine Xa (Xl ag9 cL (Ad aa 2) (vs c_.Was.Id) Z (cl.cell Z)) (Xh a3 Z (Xa (Xj fa39_0 (Ad aa 0) (Ad aa 0) Z Z) (Xh a3 Z (Xa (Xl ag9 cL (Ad aa 0) (vs c_.Id) Z (cl.cell Z)) (Xh a3 Z (Xa (Yj c_.Was.Id c_.Id (c_.Was.Id == c_.Id) Z Z Z) (Xh ab Z (Xa (Xk true (vb (c_.Was.Id == c_.Id)) a3 Z) ?_))))))));refine Xa (Xk false (vb (c_.Was.Id == c_.Id)) ab Z) (Xe (vb (c_.Was.Id == c_.Id)) Z ?_);rcases X3 (c_.Was.Id == c_.Id) with be | be
   ·have H := Xo H be;refine Xh be Z (Xa (Xj fa39_3 (Ad aa 0) (Ad aa 6) Z Z) (Xh be Z (Xa (Xl ag4 cL (Ad aa 6) (vb c_.Has) Z (cl.cell Z)) (Xh be Z (Xa (X7 c_.Has Z) (Xh be Z (Xe (vb (!c_.Has)) Z (Xi ao Z ?_))))))));refine Xi ao Z (Xi ao Z (Xi ao Z (Xr Z (Xr Z (Xr Z (Xr Z (Xr Z (Xr Z ?_))))))));exact Xi ao Z (Xh be Z (Xa (Xk true (vb true) ao Z) (Xa (Xk true (vb true) be Z) (Xf (vb true) Z (Xb (Xn ⟨[vb true], ⟨_, Z, Z⟩, true, Z, H, ck.gr.g0⟩))))))
   have H := Xp H be;refine Xi be Z (Xi be Z (Xi be Z (Xi be Z (Xr Z (Xr Z (Xr Z (Xr Z (Xr Z ?_))))))));refine Xr Z (Xr Z (Xr Z (Xr Z (Xr Z (Xr Z (Xi be Z (Xa (Xk false (vb false) be Z) (Xf (vb false) Z ?_))))))));exact Xb (Xn ⟨[vb false], ⟨_, Z, Z⟩, false, Z, H, ck.gr.g0⟩)
  have H := Xp H a3;refine Xi a3 Z (Xi a3 Z (Xi a3 Z (Xi a3 Z (Xi a3 Z (Xi a3 Z (Xh ab Z (Xa (Xk false (vb false) a3 Z) (Xa (Xk false (vb false) ab Z) ?_))))))));refine Xe (vb false) Z (X5 (dj := 70) Z Z (.inl Z) (X5 (dj := 70) Z Z (.inl Z) (X5 (dj := 70) Z Z (.inl Z) (X5 (dj := 70) Z Z (.inl Z) (Xr Z (Xr Z (Xr Z (Xr Z ?_))))))));refine Xr Z (Xr Z (Xr Z (Xr Z (Xr Z (Xr Z (Xr Z (X5 (dj := 70) Z Z (.inl Z) (Xa (Xk false (vb false) Z Z) ?_))))))));exact Xf (vb false) Z (Xb (Xn ⟨[vb false], ⟨_, Z, Z⟩, false, Z, H, ck.gr.g0⟩))
 have H := Xp H ao;refine Xi ao Z (Xi ao Z (Xi ao Z (Xi ao Z (Xi ao Z (Yd (dj := 42) Z Z Z (Xa (Xk false (vb false) ao Z) (Xa (Xk false (vb false) Z Z) (Xb ?_))))))));refine Y0 (b := false) Z Z ?_;refine Xy (Xc (Xd (Xa (Xj fa39_1 (Ad aa 0) (Ad aa 1) Z Z) (Xa (Xl ag4 cL (Ad aa 1) (vb c_.Had) Z (al.cell Z)) (Xa (X7 c_.Had Z) (Xe (vb (!c_.Had)) Z (Xh ab Z (Xa (Xj fa39_2 (Ad aa 0) (Ad aa 2) Z Z) ?_))))))));refine Xh ab Z (Xa (Xv ag37 sz37 cL (Ad aa 2) [vs c_.Was.Id, vi c_.Was.Shape.Kind, G A3 n4 c5, G A8 n9 ae] Z Z (al.cells (off := 2) Z)) (Xh ab Z ?_));refine Xs go41 (F45.calls H ad.ok hs2 (hp6.st ad.st) (bf.st ad.st)) Z ?_;rintro _ ek ⟨r20, rfl, H, di⟩;have br := ad.k0 di;refine Xh ab Z (Xe (vb r20) Z ?_);rcases X3 r20 with a4 | a4
 ·have H := Xo H a4;refine Xh a4 Z (Xa (Xj fa39_2 (Ad aa 0) (Ad aa 2) Z Z) (Xh a4 Z (Xa (Xj fa37_0 (Ad aa 2) (Ad aa 2) Z Z) (Xh a4 Z ?_))));have el := ad.stn di;have b5 := (al.st el);refine Xa (Xl ag9 cL (Ad aa 2) (vs c_.Was.Id) Z (b5.cell Z)) (Xh a4 Z (Xa (Xj fa39_0 (Ad aa 0) (Ad aa 0) Z Z) (Xh a4 Z (Xa (Xl ag9 cL (Ad aa 0) (vs c_.Id) Z (b5.cell Z)) (Xh a4 Z (Xa (Yj c_.Was.Id c_.Id (c_.Was.Id == c_.Id) Z Z Z) (Xh ab Z (Xa (Xk true (vb (c_.Was.Id == c_.Id)) a4 Z) ?_))))))));refine Xa (Xk false (vb (c_.Was.Id == c_.Id)) ab Z) (Xe (vb (c_.Was.Id == c_.Id)) Z ?_);rcases X3 (c_.Was.Id == c_.Id) with a5 | a5
  ·have H := Xo H a5;refine Xh a5 Z (Xa (Xj fa39_3 (Ad aa 0) (Ad aa 6) Z Z) (Xh a5 Z (Xa (Xl ag4 cL (Ad aa 6) (vb c_.Has) Z (b5.cell Z)) (Xh a5 Z (Xa (X7 c_.Has Z) (Xh a5 Z (Xe (vb (!c_.Has)) Z (Xh ao Z ?_))))))));refine Xa (Xj fa39_4 (Ad aa 0) (Ad aa 7) Z Z) (Xh ao Z (Xa (Xv ag37 sz37 cL (Ad aa 7) [vs c_.Now.Id, vi c_.Now.Shape.Kind, G af ag ah, G ai aj ak] Z Z (b5.cells (off := 7) Z)) (Xh ao Z ?_)));refine Xs go41 (F45.calls H br.ok bg (bh.st br.st) (bi.st br.st)) Z ?_;rintro _ ev ⟨r21, rfl, H, dk⟩;have dl := br.k0 dk;refine Xh ao Z (Xe (vb r21) Z ?_);rcases X3 r21 with a6 | a6
   ·have H := Xo H a6;refine Xh a6 Z (Xa (Xj fa39_4 (Ad aa 0) (Ad aa 7) Z Z) (Xh a6 Z (Xa (Xj fa37_0 (Ad aa 7) (Ad aa 7) Z Z) (Xh a6 Z ?_))));have em := br.stn dk;have dm := (b5.st em);refine Xa (Xl ag9 cL (Ad aa 7) (vs c_.Now.Id) Z (dm.cell Z)) (Xh a6 Z (Xa (Xj fa39_0 (Ad aa 0) (Ad aa 0) Z Z) (Xh a6 Z (Xa (Xl ag9 cL (Ad aa 0) (vs c_.Id) Z (dm.cell Z)) (Xh a6 Z (Xa (Yj c_.Now.Id c_.Id (c_.Now.Id == c_.Id) Z Z Z) (Xh ao Z (Xa (Xk true (vb (c_.Now.Id == c_.Id)) a6 Z) ?_))))))));exact Xh a5 Z (Xa (Xk false (vb (c_.Now.Id == c_.Id)) ao Z) (Xa (Xk true (vb (c_.Now.Id == c_.Id)) a5 Z) (Xf (vb (c_.Now.Id == c_.Id)) Z (Xb (Xn ⟨[vb (c_.Now.Id == c_.Id)], ⟨_, Z, Z⟩, c_.Now.Id == c_.Id, Z, H, dl.gr.g0⟩)))))
   have H := Xp H a6;refine Xi a6 Z (Xi a6 Z (Xi a6 Z (Xi a6 Z (Xi a6 Z (Xi a6 Z (Xh ao Z (Xa (Xk false (vb false) a6 Z) (Xh a5 Z ?_))))))));exact Xa (Xk false (vb false) ao Z) (Xa (Xk true (vb false) a5 Z) (Xf (vb false) Z (Xb (Xn ⟨[vb false], ⟨_, Z, Z⟩, false, Z, H, dl.gr.g0⟩))))
  have H := Xp H a5;refine Xi a5 Z (Xi a5 Z (Xi a5 Z (Xi a5 Z (Xr Z (Xr Z (Xr Z (Xr Z (Xr Z ?_))))))));refine Xr Z (Xr Z (Xr Z (Xr Z (Xr Z (Xr Z (Xi a5 Z (Xa (Xk false (vb false) a5 Z) (Xf (vb false) Z ?_))))))));exact Xb (Xn ⟨[vb false], ⟨_, Z, Z⟩, false, Z, H, br.gr.g0⟩)
 have H := Xp H a4;refine Xi a4 Z (Xi a4 Z (Xi a4 Z (Xi a4 Z (Xi a4 Z (Xi a4 Z (Xh ab Z (Xa (Xk false (vb false) a4 Z) (Xa (Xk false (vb false) ab Z) ?_))))))));refine Xe (vb false) Z (X5 (dj := 70) Z Z (.inl Z) (X5 (dj := 70) Z Z (.inl Z) (X5 (dj := 70) Z Z (.inl Z) (X5 (dj := 70) Z Z (.inl Z) (Xr Z (Xr Z (Xr Z (Xr Z ?_))))))));refine Xr Z (Xr Z (Xr Z (Xr Z (Xr Z (Xr Z (Xr Z (X5 (dj := 70) Z Z (.inl Z) (Xa (Xk false (vb false) Z Z) ?_))))))));exact Xf (vb false) Z (Xb (Xn ⟨[vb false], ⟨_, Z, Z⟩, false, Z, H, br.gr.g0⟩))
def F46.E (d : List Change) (Q : Bool → Prop) : Prop :=
 (∃ (I18 : Int → Prop) (mu19 : Int → Nat), I18 0 ∧ ∀ (i2 : Int), I18 i2 → (if decide (i2 < (d.length : Int)) then ((0 : Int) ≤ i2 ∧ i2 < (d.length : Int)) ∧ (∃ q : Bool, F74.E (nth d i2) (fun x => x = q) ∧ (if !q then Q false else (if decide (i2 > 0) then ((0 : Int) ≤ i2 ∧ i2 < (d.length : Int)) ∧ ((d.length : Int) ≤ 9223372036854775807 → I64 (i2 - 1)) ∧ ((0 : Int) ≤ i2 - 1 ∧ i2 - 1 < (d.length : Int)) ∧ (if Op.bytesLess ((nth d i2).Id) ((nth d (i2 - 1)).Id) || ((nth d i2).Id) == ((nth d (i2 - 1)).Id) then Q false else (-9223372036854775808 ≤ i2) ∧ I18 (i2 + 1) ∧ mu19 (i2 + 1) < mu19 i2) else (-9223372036854775808 ≤ i2) ∧ I18 (i2 + 1) ∧ mu19 (i2 + 1) < mu19 i2))) else Q (decide ((d.length : Int) ≤ 16))))
theorem F46.calls {d : List Change} {A1 : Option Addr} {n2 c3 : Nat} {Q : Bool → Prop} (H : F46.E d Q) (hO : Ok w0 O) (hp4 : Sl kChange w0 (Fr O) (G A1 n2 c3) d) :
  Ret Tryd.prog 12 [G A1 n2 c3] w0 (fun v w' => ∃ (r0 : Bool), v = vb r0 ∧ Q r0 ∧ Gr w0 w' none) := by
 unfold F46.E at H;have hc0 := Ct.init hO;refine X9 Tryd.func12 Z 37 Z [.tmp 2] Z Z ?_;refine Xc (Xd (Xf (vb false) Z (Xb (Xc (Xc (Xd (Xf (vi 0) Z (Xb ?_))))))));refine X6 ?_;obtain ⟨a6, a7, ai, H⟩ := H;refine Yl (α := Int) (fun (sv__ : Int) t af => match sv__ with | i2 => a6 i2 ∧ Has t [(0, G A1 n2 c3), (3, vi i2)] ∧ Ct [] w0 af [] O ∧ Sl kChange af (Fr ([] ++ O)) (G A1 n2 c3) d) (fun (sv__ : Int) => match sv__ with | i2 => a7 i2) 0 ⟨ai, (Xz Z), hc0, hp4⟩ ?_;rintro i2 _ af ⟨ai, a8, ad, ac⟩;obtain ⟨b7, rfl⟩ := Has.ins a8;have H := H i2 ai;refine Xc (Xc (Xd (Xe (vi i2) Z (Xe (G A1 n2 c3) Z ?_))));have aj := ac.le;refine Xa (X8 u25_ A1 n2 c3 ac.len Z) (Xa (X0 i2 (d.length : Int) (decide (i2 < (d.length : Int))) Z Z Z) (Xb ?_));refine Xx (decide (i2 < (d.length : Int))) Z (fun ae => ?_) (fun ae => ?_)
 ·have H := Xo H ae;refine Xy (Xc (X6 (Xc (Yu (fun x => Gr af x none) RK RK (Gr.drew _) ?_))));refine Xt (G A1 n2 c3) Z (Xt (vi i2) Z ?_);obtain ⟨az, H⟩ := H;obtain ⟨a0, b8, a9, b9, ba, bb⟩ := ac.get default RD i2 az;obtain ⟨ak, al, am, an, ao, ap, aq, ar, au, av, aw, ax, rfl, bc, bd, be, bf, bg, bh, bi⟩ := kChange.op ba;refine Xg (X2 u25_ Y3 A1 a0 n2 c3 ac.len i2 Z a9 Z az) (Xg (Xv ag39 sz39 cQ (a0.add (i2.toNat * 11)) [vs ((nth d i2).Id), vb ((nth d i2).Had), vs ((nth d i2).Was.Id), vi ((nth d i2).Was.Shape.Kind), G ak al am, G an ao ap, vb ((nth d i2).Has), vs ((nth d i2).Now.Id), vi ((nth d i2).Now.Shape.Kind), G aq ar au, G av aw ax] Z Z bb) ?_);obtain ⟨q, bj, H⟩ := H;refine Yw go23 [.agg #[vs ((nth d i2).Id), vb ((nth d i2).Had), vs ((nth d i2).Was.Id), vi ((nth d i2).Was.Shape.Kind), G ak al am, G an ao ap, vb ((nth d i2).Has), vs ((nth d i2).Now.Id), vi ((nth d i2).Now.Shape.Kind), G aq ar au, G av aw ax]] Z (vb q) (fun w g => (F74.calls bj (ad.k0 g).ok bc bd (be.st (.new _ g)) (bf.st (.new _ g)) bg (bh.st (.new _ g)) (bi.st (.new _ g))).mono ?_) ?_
  ·rintro _ w ⟨r, rfl, rfl, g2⟩;exact ⟨Z, Gr.t0 g g2⟩
  refine Xg (X7 q Z) (Xt (vb (!q)) Z ?_);rcases X3 (!q) with ab | ab
  ·have H := Xo H ab;refine Xq ab Z (Xq ab Z (Xq ab Z (Xw Z (Xw Z (Xw Z (Xw Z (Xw Z (Xw Z ?_))))))));refine Xw Z (Xw Z (Xw Z (Xw Z (Xw Z (Xw Z (Xq ab Z (Xg (Xk true (vb true) ab Z) (Yc fun ca bl => ?_))))))));have bm := ad.k0 bl;refine Yx (b := true) Z Z ?_;exact Xc (Xd (Xf (vb false) Z (Xb (Xn ⟨[vb false], ⟨_, Z, Z⟩, false, Z, H, bm.gr.g0⟩))))
  have H := Xp H ab;refine Xm ab Z (Xt (vi i2) Z (Xm ab Z (Xg (X0 i2 0 (decide (i2 > 0)) Z Z Z) (Xm ab Z (Xt (vb (decide (i2 > 0))) Z ?_)))));rcases X3 (decide (i2 > 0)) with aa | aa
  ·have H := Xo H aa;refine Xm aa Z (Xt (G A1 n2 c3) Z (Xm aa Z (Xt (vi i2) Z (Xm aa Z ?_))));obtain ⟨a1, H⟩ := H;obtain ⟨ag, cb, bn, cc, bo, bp⟩ := ac.get default RD i2 a1;obtain ⟨cd, ce, cf, cg, ch, ci, cj, ck, cl, cm, cn, co, rfl, cp, cq, cr, cs, ct, cu, cv⟩ := kChange.op bo;refine Xg (X2 u25_ Y3 A1 ag n2 c3 ac.len i2 Z bn Z a1) (Xm aa Z (Xg (Xj fa39_0 (ag.add (i2.toNat * 11)) ((ag.add (i2.toNat * 11)).add 0) Z Z) (Xm aa Z (Xg (Xl ag9 cQ ((ag.add (i2.toNat * 11)).add 0) (vs ((nth d i2).Id)) Z (bp 0 _ Z)) (Xm aa Z (Xt (G A1 n2 c3) Z (Xm aa Z (Xt (vi i2) Z ?_))))))));refine Xm aa Z ?_;obtain ⟨bq, H⟩ := H;have br := bq (len_le aj);refine Xg (Ys i2 1 Z Z br) (Xm aa Z ?_);obtain ⟨a2, H⟩ := H;obtain ⟨ah, cw, bs, cx, bt, bu⟩ := ac.get default RD (i2 - 1) a2;obtain ⟨cy, cz, c0, c1, c2, c4, c5, c6, c7, c8, c9, da, rfl, db, dc, dd, de, df, dg, dh⟩ := kChange.op bt;refine Xg (X2 u25_ Y3 A1 ah n2 c3 ac.len (i2 - 1) Z bs Z a2) (Xm aa Z (Xg (Xj fa39_0 (ah.add ((i2 - 1).toNat * 11)) ((ah.add ((i2 - 1).toNat * 11)).add 0) Z Z) (Xm aa Z (Xg (Xl ag9 cQ ((ah.add ((i2 - 1).toNat * 11)).add 0) (vs ((nth d (i2 - 1)).Id)) Z (bu 0 _ Z)) (Xm aa Z (Xg (Yj ((nth d i2).Id) ((nth d (i2 - 1)).Id) (Op.bytesLess ((nth d i2).Id) ((nth d (i2 - 1)).Id) || ((nth d i2).Id) == ((nth d (i2 - 1)).Id)) Z Z Z) (Xm ab Z (Xg (Yp true (vb (Op.bytesLess ((nth d i2).Id) ((nth d (i2 - 1)).Id) || ((nth d i2).Id) == ((nth d (i2 - 1)).Id))) (by exact congrArg Value.bool aa) Z) ?_))))))));refine Xg (Yp false (vb (Op.bytesLess ((nth d i2).Id) ((nth d (i2 - 1)).Id) || ((nth d i2).Id) == ((nth d (i2 - 1)).Id))) (by exact congrArg Value.bool ab) Z) (Yc fun di a3 => ?_);have a4 := ad.k0 a3;refine Xx (Op.bytesLess ((nth d i2).Id) ((nth d (i2 - 1)).Id) || ((nth d i2).Id) == ((nth d (i2 - 1)).Id)) Z (fun ay => ?_) (fun ay => ?_)
   ·have H := Xo H ay;exact Xc (Xd (Xf (vb false) Z (Xb (Xn ⟨[vb false], ⟨_, Z, Z⟩, false, Z, H, a4.gr.g0⟩))))
   have H := Xp H ay;refine Xy (Xd (Xe (vi i2) Z ?_));obtain ⟨bv, H⟩ := H;have bw : I64 (i2 + 1) := i64_succ (of_decide_eq_true ae) aj bv;refine Xa (Ya i2 1 Z Z bw) (Xf (vi (i2 + 1)) Z (Xb ?_));obtain ⟨bx, bz⟩ := H;have b0 := ad.stn a3;exact ⟨i2 + 1, bz, bx, (Xz Z), a4, (ac.st b0)⟩
  have H := Xp H aa;refine Xq aa Z (Xq aa Z (Xq aa Z (Xq aa Z (Xq aa Z (Xq aa Z (Xq aa Z (Xq aa Z (Xq aa Z ?_))))))));refine Xq aa Z (Xq aa Z (Xq aa Z (Xm ab Z (Xg (Xk false (vb false) aa Z) (Xg (Xk false (vb false) ab Z) (Yc fun dj a5 => ?_))))));have b1 := ad.k0 a5;refine Y0 (b := false) Z Z ?_;refine Xy (Xd (Xe (vi i2) Z ?_));obtain ⟨b2, H⟩ := H;have b3 : I64 (i2 + 1) := i64_succ (of_decide_eq_true ae) aj b2;refine Xa (Ya i2 1 Z Z b3) (Xf (vi (i2 + 1)) Z (Xb ?_));obtain ⟨b4, b5⟩ := H;have b6 := ad.stn a5;exact ⟨i2 + 1, b5, b4, (Xz Z), b1, (ac.st b6)⟩
 have H := Xp H ae;refine Yi (xin_hit ?_);exact Xc (Xd (Xe (G A1 n2 c3) Z (Xa (X8 u25_ A1 n2 c3 ac.len Z) (Xa (X0 (d.length : Int) 16 (decide ((d.length : Int) ≤ 16)) Z Z Z) (Xf (vb (decide ((d.length : Int) ≤ 16))) Z (Xb (Xn ⟨[vb (decide ((d.length : Int) ≤ 16))], ⟨_, Z, Z⟩, decide ((d.length : Int) ≤ 16), Z, H, ad.gr.g0⟩)))))))
def F47.E (kind : Int) (Q : Str → Prop) : Prop :=
 ((0 : Int) ≤ kind ∧ kind < (([([] : Str), ([100, 111, 116] : Str), ([108, 105, 110, 101] : Str), ([114, 105, 110, 103] : Str)] : List Str).length : Int)) ∧ Q (nth ([([] : Str), ([100, 111, 116] : Str), ([108, 105, 110, 101] : Str), ([114, 105, 110, 103] : Str)] : List Str) kind)
theorem F47.calls {kind : Int} {Q : Str → Prop} (H : F47.E kind Q) (hO : Ok w0 O) :
  Ret Tryd.prog 76 [vi kind] w0 (fun v w' => ∃ (r0 : Str), v = vs r0 ∧ Q r0 ∧ Gr w0 w' none ∧ Lim r0) := by
 unfold F47.E at H;have hc0 := Ct.init hO;refine X9 Tryd.func76 Z 7 Z [.tmp 2] Z Z ?_;refine Xc (Xd (Xf (vs []) Z (Xb (Xc (Xd (Yb (kd := Kd.str) Za hc0 ([([] : Str), ([100, 111, 116] : Str), ([108, 105, 110, 101] : Str), ([114, 105, 110, 103] : Str)] : List Str) (cells := [vs [], vs ([100, 111, 116] : Str), vs ([108, 105, 110, 101] : Str), vs ([114, 105, 110, 103] : Str)]) ⟨[vs []], _, Z, ⟨Z, (by decide : Lim ([] : Str))⟩, ⟨[vs ([100, 111, 116] : Str)], _, Z, ⟨Z, (by decide : Lim ([100, 111, 116] : Str))⟩, ⟨[vs ([108, 105, 110, 101] : Str)], _, Z, ⟨Z, (by decide : Lim ([108, 105, 110, 101] : Str))⟩, ⟨[vs ([114, 105, 110, 103] : Str)], _, Z, ⟨Z, (by decide : Lim ([114, 105, 110, 103] : Str))⟩, Z⟩⟩⟩⟩ RF fun w1 A2 n3 c4 g5 hr6 hc7 h8 => ?_))))));refine Xe (vi kind) Z ?_;obtain ⟨aa, H⟩ := H;obtain ⟨ab, ah, ac, ad, ae⟩ := h8.get default RD kind aa;obtain ⟨rfl, af⟩ := Kd.str.op ad;refine Xa (X2 u76_ Zh A2 ab n3 c4 h8.len kind Z ac Z aa) (Xa (Xl ag9 cL (ab.add (kind.toNat * 1)) (vs (nth ([([] : Str), ([100, 111, 116] : Str), ([108, 105, 110, 101] : Str), ([114, 105, 110, 103] : Str)] : List Str) kind)) Z (ae 0 _ Z)) (Xf (vs (nth ([([] : Str), ([100, 111, 116] : Str), ([108, 105, 110, 101] : Str), ([114, 105, 110, 103] : Str)] : List Str) kind)) Z (Xb (Xn ?_))));have ag := hc7.drop 0 Z;exact ⟨[vs (nth ([([] : Str), ([100, 111, 116] : Str), ([108, 105, 110, 101] : Str), ([114, 105, 110, 103] : Str)] : List Str) kind)], ⟨_, Z, Z⟩, (nth ([([] : Str), ([100, 111, 116] : Str), ([108, 105, 110, 101] : Str), ([114, 105, 110, 103] : Str)] : List Str) kind), Z, H, ag.gr.g0, af⟩
def F48.Er (R : Int → (Str → Prop) → Prop) (n : Int) (Q : Str → Prop) : Prop :=
 (if decide (n < (-9223372036854775807)) then Q ([45, 57, 50, 50, 51, 51, 55, 50, 48, 51, 54, 56, 53, 52, 55, 55, 53, 56, 48, 56] : Str) else (if decide (n < 0) then (I64 (-n)) ∧ R (-n) (fun r => (([45] : Str).length + r.length ≤ 9223372036854775807) ∧ Q (([45] : Str) ++ r)) else (∃ (I20 : Int → Str → Prop) (mu21 : Int → Str → Nat), I20 n ([] : Str) ∧ ∀ (n3 : Int) (out2 : Str), I20 n3 out2 → (if decide (n3 > 9) then ((0 : Int) ≤ n3 ∧ (0 : Int) < 10) ∧ (I64 (48 + (n3 % 10))) ∧ ((0 : Int) ≤ 48 + (n3 % 10) ∧ 48 + (n3 % 10) ≤ (255 : Int)) ∧ (([(UInt8.ofNat (48 + (n3 % 10)).toNat)] : List UInt8).length + out2.length ≤ 9223372036854775807) ∧ (((0 : Int) ≤ n3 ∧ n3 ≤ (9223372036854775807 : Int)) ∧ (0 : Int) < 10) ∧ I20 (n3 / 10) (([(UInt8.ofNat (48 + (n3 % 10)).toNat)] : List UInt8) ++ out2) ∧ mu21 (n3 / 10) (([(UInt8.ofNat (48 + (n3 % 10)).toNat)] : List UInt8) ++ out2) < mu21 n3 out2 else (I64 (48 + n3)) ∧ ((0 : Int) ≤ 48 + n3 ∧ 48 + n3 ≤ (255 : Int)) ∧ (([(UInt8.ofNat (48 + n3).toNat)] : List UInt8).length + out2.length ≤ 9223372036854775807) ∧ Q (([(UInt8.ofNat (48 + n3).toNat)] : List UInt8) ++ out2)))))
theorem F48.callsr (R : Int → (Str → Prop) → Prop) (hR : ∀ {O : Ob} (w0 : World) (hO : Ok w0 O) (n : Int) (Q : Str → Prop) (h : R n Q), Ret Tryd.prog 77 [vi n] w0 (fun v w' => ∃ (r0 : Str), v = vs r0 ∧ Q r0 ∧ Gr w0 w' none ∧ Lim r0)) {O : Ob} (w0 : World) (hO : Ok w0 O) (n : Int) (Q : Str → Prop) (h : F48.Er R n Q) :
  Ret Tryd.prog 77 [vi n] w0 (fun v w' => ∃ (r0 : Str), v = vs r0 ∧ Q r0 ∧ Gr w0 w' none ∧ Lim r0) := by
 unfold F48.Er at h;have H := h;clear h;have hc0 := Ct.init hO;refine X9 Tryd.func77 Z 31 Z [.tmp 2] Z Z ?_;refine Xc (Xd (Xf (vs []) Z (Xb (Xc (Xc (Xd (Xe (vi n) Z (Xa (X0 n (-9223372036854775807) (decide (n < (-9223372036854775807))) Z Z Z) ?_))))))));refine Xb ?_;refine Xx (decide (n < (-9223372036854775807))) Z (fun hq1 => ?_) (fun hq1 => ?_)
 ·have H := Xo H hq1;exact Xc (Xd (Xf (vs ([45, 57, 50, 50, 51, 51, 55, 50, 48, 51, 54, 56, 53, 52, 55, 55, 53, 56, 48, 56] : Str)) Z (Xb (Xn ⟨[vs ([45, 57, 50, 50, 51, 51, 55, 50, 48, 51, 54, 56, 53, 52, 55, 55, 53, 56, 48, 56] : Str)], ⟨_, Z, Z⟩, ([45, 57, 50, 50, 51, 51, 55, 50, 48, 51, 54, 56, 53, 52, 55, 55, 53, 56, 48, 56] : Str), Z, H, hc0.gr.g0, (by decide : Lim ([45, 57, 50, 50, 51, 51, 55, 50, 48, 51, 54, 56, 53, 52, 55, 55, 53, 56, 48, 56] : Str))⟩))))
 have H := Xp H hq1;refine Xy (Xc (Xc (Xd (Xe (vi n) Z (Xa (X0 n 0 (decide (n < 0)) Z Z Z) (Xb ?_))))));refine Xx (decide (n < 0)) Z (fun hq2 => ?_) (fun hq2 => ?_)
 ·have H := Xo H hq2;refine Xc (Xd (Xe (vi n) Z ?_));obtain ⟨hb3, H⟩ := H;refine Xa (Z7 n Z hb3) ?_;refine Zz go77 [vi (-n)] Z ((hR w0 hc0.ok (-n) _ H).mono ?_);rintro _ w4 ⟨r, rfl, H, g5, hs6⟩;have aj := hc0.k0 g5;obtain ⟨ac, H⟩ := H;exact Xa (Yh ([45] : Str) r Z Z ac) (Xf (vs (([45] : Str) ++ r)) Z (Xb (Xn ⟨[vs (([45] : Str) ++ r)], ⟨_, Z, Z⟩, (([45] : Str) ++ r), Z, H, aj.gr.g0, (lim_cat ac)⟩)))
 have H := Xp H hq2;refine Xy (Xc (Xd (Xf (vs []) Z (Xb (Xc (X6 ?_))))));obtain ⟨ak, al, aa, H⟩ := H;refine Yl (α := Int × Str) (fun (n3, out2) t ad => ak n3 out2 ∧ Has t [(0, vi n3), (3, vs out2)] ∧ Ct [] w0 ad [] O ∧ Lim out2) (fun (n3, out2) => al n3 out2) (n, ([] : Str)) ⟨aa, (Xz Z), hc0, (by decide : Lim ([] : Str))⟩ ?_;rintro ⟨n3, out2⟩ _ ad ⟨aa, am, ae, a7⟩;obtain ⟨a8, rfl⟩ := Has.ins am;have H := H n3 out2 aa;refine Xc (Xc (Xd (Xe (vi n3) Z (Xa (X0 n3 9 (decide (n3 > 9)) Z Z Z) (Xb ?_)))));refine Xx (decide (n3 > 9)) Z (fun ab => ?_) (fun ab => ?_)
 ·have H := Xo H ab;refine Xy (X6 (Xc (Xd (Xe (vi n3) Z ?_))));obtain ⟨an, H⟩ := H;refine Xa (Zm n3 10 Z Z an) ?_;obtain ⟨ao, H⟩ := H;refine Xa (Ya 48 (n3 % 10) Z Z ao) ?_;obtain ⟨ap, H⟩ := H;refine Xa (Z4 u3_ u5_ (48 + (n3 % 10)) Z ap) (Yb (kd := Kd.byte) Z5 ae ([(UInt8.ofNat (48 + (n3 % 10)).toNat)] : List UInt8) (cells := [v8 (UInt8.ofNat (48 + (n3 % 10)).toNat)]) ⟨[v8 (UInt8.ofNat (48 + (n3 % 10)).toNat)], _, Z, Z, Z⟩ RF fun a9 aq ar au ba hr35 av af => ?_);refine Xa (Z3 u29_ u5_ u9_ aq ar au ([(UInt8.ofNat (48 + (n3 % 10)).toNat)] : List UInt8) Z (fun _ e => e ▸ ⟨_, af.sx⟩)) ?_;have bb : Lim ([(UInt8.ofNat (48 + (n3 % 10)).toNat)] : List UInt8) := af.le;refine Xe (vs out2) Z ?_;obtain ⟨ag, H⟩ := H;refine Xa (Yh ([(UInt8.ofNat (48 + (n3 % 10)).toNat)] : List UInt8) out2 Z Z ag) (Xf (vs (([(UInt8.ofNat (48 + (n3 % 10)).toNat)] : List UInt8) ++ out2)) Z (Xb (Xd (Xe (vi n3) Z ?_))));obtain ⟨aw, H⟩ := H;refine Xa (Zt n3 10 Z Z aw) (Xf (vi (n3 / 10)) Z (Xb ?_));have ax := av.drop 0 Z;obtain ⟨ay, az⟩ := H;exact ⟨(n3 / 10, (([(UInt8.ofNat (48 + (n3 % 10)).toNat)] : List UInt8) ++ out2)), az, ay, (Xz Z), ax, (lim_cat ag)⟩
 have H := Xp H ab;refine Yi (xin_hit ?_);refine Xc (Xd (Xe (vi n3) Z ?_));obtain ⟨a0, H⟩ := H;refine Xa (Ya 48 n3 Z Z a0) ?_;obtain ⟨a1, H⟩ := H;refine Xa (Z4 u3_ u5_ (48 + n3) Z a1) (Yb (kd := Kd.byte) Z5 ae ([(UInt8.ofNat (48 + n3).toNat)] : List UInt8) (cells := [v8 (UInt8.ofNat (48 + n3).toNat)]) ⟨[v8 (UInt8.ofNat (48 + n3).toNat)], _, Z, Z, Z⟩ RF fun bc a2 a3 a4 bd hr52 a5 ah => ?_);refine Xa (Z3 u29_ u5_ u9_ a2 a3 a4 ([(UInt8.ofNat (48 + n3).toNat)] : List UInt8) Z (fun _ e => e ▸ ⟨_, ah.sx⟩)) ?_;have be : Lim ([(UInt8.ofNat (48 + n3).toNat)] : List UInt8) := ah.le;refine Xe (vs out2) Z ?_;obtain ⟨ai, H⟩ := H;refine Xa (Yh ([(UInt8.ofNat (48 + n3).toNat)] : List UInt8) out2 Z Z ai) (Xf (vs (([(UInt8.ofNat (48 + n3).toNat)] : List UInt8) ++ out2)) Z (Xb (Xn ?_)));have a6 := a5.drop 0 Z;exact ⟨[vs (([(UInt8.ofNat (48 + n3).toNat)] : List UInt8) ++ out2)], ⟨_, Z, Z⟩, (([(UInt8.ofNat (48 + n3).toNat)] : List UInt8) ++ out2), Z, H, a6.gr.g0, (lim_cat ai)⟩
def F48.E0 (n : Int) (Q : Str → Prop) : Prop := F48.Er (fun _ _ => False) n Q
def F48.E (n : Int) (Q : Str → Prop) : Prop := F48.Er F48.E0 n Q
theorem F48.calls0 {O : Ob} (w0 : World) (hO : Ok w0 O) (n : Int) (Q : Str → Prop) (h : F48.E0 n Q) :
  Ret Tryd.prog 77 [vi n] w0 (fun v w' => ∃ (r0 : Str), v = vs r0 ∧ Q r0 ∧ Gr w0 w' none ∧ Lim r0) :=
 F48.callsr (fun _ _ => False) (fun w0 hO => by intros; contradiction) w0 hO n Q h
theorem F48.calls {n : Int} {Q : Str → Prop} (H : F48.E n Q) (hO : Ok w0 O) :
  Ret Tryd.prog 77 [vi n] w0 (fun v w' => ∃ (r0 : Str), v = vs r0 ∧ Q r0 ∧ Gr w0 w' none ∧ Lim r0) := by
 unfold F48.E at H;exact F48.callsr F48.E0 F48.calls0 w0 hO n Q H
def F13.E (s : Shape) (Q : Str → Prop) : Prop :=
 F29.E s (fun r => (if !r then Q [] else F47.E s.Kind (fun r2 => (∃ (I48 : Str → Int → Prop) (mu49 : Str → Int → Nat), I48 r2 0 ∧ ∀ (out2 : Str) (i2 : Int), I48 out2 i2 → (if decide (i2 < (s.Pts.length : Int)) then (out2.length + ([32] : Str).length ≤ 9223372036854775807) ∧ ((0 : Int) ≤ i2 ∧ i2 < (s.Pts.length : Int)) ∧ (∃ q : Str, F48.E ((nth s.Pts i2).X) (fun x => x = q) ∧ (Lim q) ∧ ((out2 ++ ([32] : Str)).length + q.length ≤ 9223372036854775807) ∧ (((out2 ++ ([32] : Str)) ++ q).length + ([44] : Str).length ≤ 9223372036854775807) ∧ ((0 : Int) ≤ i2 ∧ i2 < (s.Pts.length : Int)) ∧ (∃ q2 : Str, F48.E ((nth s.Pts i2).Y) (fun x => x = q2) ∧ (Lim q2) ∧ ((((out2 ++ ([32] : Str)) ++ q) ++ ([44] : Str)).length + q2.length ≤ 9223372036854775807) ∧ (-9223372036854775808 ≤ i2) ∧ I48 ((((out2 ++ ([32] : Str)) ++ q) ++ ([44] : Str)) ++ q2) (i2 + 1) ∧ mu49 ((((out2 ++ ([32] : Str)) ++ q) ++ ([44] : Str)) ++ q2) (i2 + 1) < mu49 out2 i2)) else Q out2)))))
theorem F13.calls {s : Shape} {A1 : Option Addr} {n2 c3 : Nat} {Q : Str → Prop} (H : F13.E s Q) (hO : Ok w0 O) (hp4 : Sl kPt w0 (Fr O) (G A1 n2 c3) s.Pts) :
  Ret Tryd.prog 47 [.agg #[vi s.Kind, G A1 n2 c3]] w0 (fun v w' => ∃ (r0 : Str), v = vs r0 ∧ Q r0 ∧ Gr w0 w' none ∧ Lim r0) := by
 unfold F13.E at H;have hc0 := Ct.init hO;refine X9 Tryd.func47 Z 38 Z [.tmp 2] Z Z ?_;refine Xc (Xd (Yq [vi s.Kind, G A1 n2 c3] Z fun w6 b7 hl9 hu10 g8 ax => ?_));have al := Fb.mk hc0.ok hl9 ax;have ad := hc0.k0 g8;refine Xf (vs []) Z (Xb (Xc (Xc (Xd (Xa (Xv ag34 sz34 cL (Ad b7 0) [vi s.Kind, G A1 n2 c3] Z Z (al.cells (off := 00) Z)) ?_)))));refine Xs go70 (F29.calls H ad.ok (hp4.st ad.st)) Z ?_;rintro _ ay ⟨r, rfl, H, am⟩;have ae := ad.k0 am;refine Xa (X7 r Z) (Xb ?_);refine Xx (!r) Z (fun aj => ?_) (fun aj => ?_)
 ·have H := Xo H aj;exact Xc (Xd (Xf (vs []) Z (Xb (Xn ⟨[vs []], ⟨_, Z, Z⟩, ([] : Str), Z, H, ae.gr.g0, (by decide : Lim ([] : Str))⟩))))
 have H := Xp H aj;refine Xy (Xc (Xd (Xa (Xj fa34_0 (Ad b7 0) (Ad b7 0) Z Z) ?_)));have az := ad.stn am;have an := (al.st az);refine Xa (Xl ag3 cL (Ad b7 0) (vi s.Kind) Z (an.cell Z)) ?_;refine Xs go76 (F47.calls H ae.ok) Z ?_;rintro _ bq ⟨r2, rfl, H, ao, a0⟩;have ap := ae.k0 ao;refine Xf (vs r2) Z (Xb (Xc (Xc (Xd (Xf (vi 0) Z (Xb (X6 ?_)))))));obtain ⟨a1, a2, ak, H⟩ := H;have a3 := ae.stn ao;have a4 := (an.st a3);refine Yl (α := Str × Int) (fun (out2, i2) t ab => a1 out2 i2 ∧ Has t [(1, Pz b7), (3, vs out2), (4, vi i2)] ∧ Cw [] w0 ab [] O fun M => Lim out2 ∧ Sl kPt ab (Fr M) (G A1 n2 c3) s.Pts ∧ Fb ab M b7 [vi s.Kind, G A1 n2 c3]) (fun (out2, i2) => a2 out2 i2) (r2, 0) ⟨ak, (Xz Z), ap, a0, (hp4.st ap.st), a4⟩ ?_;rintro ⟨out2, i2⟩ _ ab ⟨ak, a5, ac, a6, aa, af⟩;obtain ⟨br, rfl⟩ := Has.ins a5;have H := H out2 i2 ak;refine Xc (Xc (Xd (Xe (vi i2) Z (Xa (Xj fa34_1 (Ad b7 0) (Ad b7 1) Z Z) (Xa (Xl ag32 cL (Ad b7 1) (G A1 n2 c3) Z (af.cell Z)) ?_)))));have a7 := aa.le;refine Xa (X8 u32_ A1 n2 c3 aa.len Z) (Xa (X0 i2 (s.Pts.length : Int) (decide (i2 < (s.Pts.length : Int))) Z Z Z) (Xb ?_));refine Xx (decide (i2 < (s.Pts.length : Int))) Z (fun ag => ?_) (fun ag => ?_)
 ·have H := Xo H ag;refine Xy (Xc (X6 (Yu (fun x => Gr ab x none) RK RK (Gr.drew _) ?_)));refine Xt (vs out2) Z ?_;obtain ⟨a8, H⟩ := H;refine Xg (Yh out2 ([32] : Str) Z Z a8) (Xg (Xj fa34_1 (Ad b7 0) (Ad b7 1) Z Z) (Xg (Xl ag32 cQ (Ad b7 1) (G A1 n2 c3) Z (af.cell Z)) (Xt (vi i2) Z ?_)));obtain ⟨aq, H⟩ := H;obtain ⟨ah, bs, a9, bt, ba, bb⟩ := aa.get default RD i2 aq;obtain rfl := kPt.op ba;refine Xg (X2 u32_ Ym A1 ah n2 c3 aa.len i2 Z a9 Z aq) (Xg (Xj fa87_0 (ah.add (i2.toNat * 2)) ((ah.add (i2.toNat * 2)).add 0) Z Z) (Xg (Xl ag3 cQ ((ah.add (i2.toNat * 2)).add 0) (vi ((nth s.Pts i2).X)) Z (bb 0 _ Z)) ?_));obtain ⟨q, bc, bu, H⟩ := H;refine Yw go77 [vi ((nth s.Pts i2).X)] Z (vs q) (fun w g => (F48.calls bc (ac.k0 g).ok).mono ?_) ?_
  ·rintro _ w ⟨r, rfl, rfl, g2, _⟩;exact ⟨Z, Gr.t0 g g2⟩
  obtain ⟨bd, H⟩ := H;refine Xg (Yh (out2 ++ ([32] : Str)) q Z Z bd) ?_;obtain ⟨be, H⟩ := H;refine Xg (Yh ((out2 ++ ([32] : Str)) ++ q) ([44] : Str) Z Z be) (Xg (Xj fa34_1 (Ad b7 0) (Ad b7 1) Z Z) (Xg (Xl ag32 cQ (Ad b7 1) (G A1 n2 c3) Z (af.cell Z)) (Xt (vi i2) Z ?_)));obtain ⟨ar, H⟩ := H;obtain ⟨ai, bv, bf, bw, bg, bh⟩ := aa.get default RD i2 ar;obtain rfl := kPt.op bg;refine Xg (X2 u32_ Ym A1 ai n2 c3 aa.len i2 Z bf Z ar) (Xg (Xj fa87_1 (ai.add (i2.toNat * 2)) ((ai.add (i2.toNat * 2)).add 1) Z Z) (Xg (Xl ag3 cQ ((ai.add (i2.toNat * 2)).add 1) (vi ((nth s.Pts i2).Y)) Z (bh 1 _ Z)) ?_));obtain ⟨q2, bi, bx, H⟩ := H;refine Yw go77 [vi ((nth s.Pts i2).Y)] Z (vs q2) (fun w g => (F48.calls bi (ac.k0 g).ok).mono ?_) ?_
  ·rintro _ w ⟨r, rfl, rfl, g2, _⟩;exact ⟨Z, Gr.t0 g g2⟩
  obtain ⟨au, H⟩ := H;refine Xg (Yh (((out2 ++ ([32] : Str)) ++ q) ++ ([44] : Str)) q2 Z Z au) (Y8 (vs ((((out2 ++ ([32] : Str)) ++ q) ++ ([44] : Str)) ++ q2)) Z (Yc fun bz av => ?_));have bj := ac.k0 av;refine Xd (Xe (vi i2) Z ?_);obtain ⟨bl, H⟩ := H;have bm : I64 (i2 + 1) := i64_succ (of_decide_eq_true ag) a7 bl;refine Xa (Ya i2 1 Z Z bm) (Xf (vi (i2 + 1)) Z (Xb ?_));obtain ⟨bn, bo⟩ := H;have aw := ac.stn av;have bp := (af.st aw);exact ⟨(((((out2 ++ ([32] : Str)) ++ q) ++ ([44] : Str)) ++ q2), i2 + 1), bo, bn, (Xz Z), bj, (lim_cat au), (aa.st aw), bp⟩
 have H := Xp H ag;refine Yi (xin_hit ?_);exact Xc (Xd (Xe (vs out2) Z (Xf (vs out2) Z (Xb (Xn ⟨[vs out2], ⟨_, Z, Z⟩, out2, Z, H, ac.gr.g0, a6⟩)))))
def F20.E (f : Feat) (Q : Str → Prop) : Prop :=
 F45.E f (fun r => (if !r then Q [] else (f.Id.length + ([32] : Str).length ≤ 9223372036854775807) ∧ (∃ q : Str, F13.E f.Shape (fun x => x = q) ∧ (Lim q) ∧ ((f.Id ++ ([32] : Str)).length + q.length ≤ 9223372036854775807) ∧ (∃ (I67 : Str → Int → Prop) (mu68 : Str → Int → Nat), I67 ((f.Id ++ ([32] : Str)) ++ q) 0 ∧ ∀ (out2 : Str) (i2 : Int), I67 out2 i2 → (if decide (i2 < (f.Tags.length : Int)) then (out2.length + ([32] : Str).length ≤ 9223372036854775807) ∧ ((0 : Int) ≤ i2 ∧ i2 < (f.Tags.length : Int)) ∧ ((out2 ++ ([32] : Str)).length + ((nth f.Tags i2).Key).length ≤ 9223372036854775807) ∧ (((out2 ++ ([32] : Str)) ++ ((nth f.Tags i2).Key)).length + ([61] : Str).length ≤ 9223372036854775807) ∧ ((0 : Int) ≤ i2 ∧ i2 < (f.Tags.length : Int)) ∧ ((((out2 ++ ([32] : Str)) ++ ((nth f.Tags i2).Key)) ++ ([61] : Str)).length + ((nth f.Tags i2).Val).length ≤ 9223372036854775807) ∧ (-9223372036854775808 ≤ i2) ∧ I67 ((((out2 ++ ([32] : Str)) ++ ((nth f.Tags i2).Key)) ++ ([61] : Str)) ++ ((nth f.Tags i2).Val)) (i2 + 1) ∧ mu68 ((((out2 ++ ([32] : Str)) ++ ((nth f.Tags i2).Key)) ++ ([61] : Str)) ++ ((nth f.Tags i2).Val)) (i2 + 1) < mu68 out2 i2 else Q out2)))))
theorem F20.calls {f : Feat} {A2 : Option Addr} {n3 c4 : Nat} {A7 : Option Addr} {n8 c9 : Nat} {Q : Str → Prop} (H : F20.E f Q) (hO : Ok w0 O) (hs1 : Lim f.Id) (hp5 : Sl kPt w0 (Fr O) (G A2 n3 c4) f.Shape.Pts) (ap : Sl kTag w0 (Fr O) (G A7 n8 c9) f.Tags) :
  Ret Tryd.prog 28 [.agg #[vs f.Id, vi f.Shape.Kind, G A2 n3 c4, G A7 n8 c9]] w0 (fun v w' => ∃ (r0 : Str), v = vs r0 ∧ Q r0 ∧ Gr w0 w' none ∧ Lim r0) := by
 unfold F20.E at H;have hc0 := Ct.init hO;refine X9 Tryd.func28 Z 40 Z [.tmp 2] Z Z ?_;refine Xc (Xd (Yq [vs f.Id, vi f.Shape.Kind, G A2 n3 c4, G A7 n8 c9] Z fun a0 aa a1 hu16 a2 a3 => ?_));have aq := Fb.mk hc0.ok a1 a3;have ad := hc0.k0 a2;refine Xf (vs []) Z (Xb (Xc (Xc (Xd (Xa (Xv ag37 sz37 cL (Ad aa 0) [vs f.Id, vi f.Shape.Kind, G A2 n3 c4, G A7 n8 c9] Z Z (aq.cells (off := 00) Z)) ?_)))));refine Xs go41 (F45.calls H ad.ok hs1 (hp5.st ad.st) (ap.st ad.st)) Z ?_;rintro _ a4 ⟨r, rfl, H, ar⟩;have ae := ad.k0 ar;refine Xa (X7 r Z) (Xb ?_);refine Xx (!r) Z (fun aj => ?_) (fun aj => ?_)
 ·have H := Xo H aj;exact Xc (Xd (Xf (vs []) Z (Xb (Xn ⟨[vs []], ⟨_, Z, Z⟩, ([] : Str), Z, H, ae.gr.g0, (by decide : Lim ([] : Str))⟩))))
 have H := Xp H aj;refine Xy (Xc (Yu (fun x => Gr a4 x none) RK RK (Gr.drew _) ?_));refine Xg (Xj fa37_0 (Ad aa 0) (Ad aa 0) Z Z) ?_;have a5 := ad.stn ar;have ak := (aq.st a5);refine Xg (Xl ag9 cQ (Ad aa 0) (vs f.Id) Z (ak.cell Z)) ?_;obtain ⟨a6, H⟩ := H;refine Xg (Yh f.Id ([32] : Str) Z Z a6) (Xg (Xj fa37_1 (Ad aa 0) (Ad aa 1) Z Z) (Xg (Xv ag34 sz34 cQ (Ad aa 1) [vi f.Shape.Kind, G A2 n3 c4] Z Z (ak.cells (off := 1) Z)) ?_));obtain ⟨q, a7, bw, H⟩ := H;refine Yw go47 [.agg #[vi f.Shape.Kind, G A2 n3 c4]] Z (vs q) (fun w g => (F13.calls a7 (ae.k0 g).ok ((hp5.st ae.st).st (.new _ g))).mono ?_) ?_
 ·rintro _ w ⟨r, rfl, rfl, g2, _⟩;exact ⟨Z, Gr.t0 g g2⟩
 obtain ⟨au, H⟩ := H;refine Xg (Yh (f.Id ++ ([32] : Str)) q Z Z au) (Y8 (vs ((f.Id ++ ([32] : Str)) ++ q)) Z (Yc fun bx av => ?_));have al := ae.k0 av;refine Xc (Xc (Xd (Xf (vi 0) Z (Xb (X6 ?_)))));obtain ⟨a8, a9, am, H⟩ := H;have ba := ae.stn av;have bb := (ak.st ba);refine Yl (α := Str × Int) (fun (out2, i2) t ac => a8 out2 i2 ∧ Has t [(1, Pz aa), (3, vs out2), (4, vi i2)] ∧ Cw [] w0 ac [] O fun M => Lim out2 ∧ Sl kPt ac (Fr M) (G A2 n3 c4) f.Shape.Pts ∧ Sl kTag ac (Fr M) (G A7 n8 c9) f.Tags ∧ Fb ac M aa [vs f.Id, vi f.Shape.Kind, G A2 n3 c4, G A7 n8 c9]) (fun (out2, i2) => a9 out2 i2) (((f.Id ++ ([32] : Str)) ++ q), 0) ⟨am, (Xz Z), al, (lim_cat au), (hp5.st al.st), (ap.st al.st), bb⟩ ?_;rintro ⟨out2, i2⟩ _ ac ⟨am, bc, an, bd, be, ab, af⟩;obtain ⟨bz, rfl⟩ := Has.ins bc;have H := H out2 i2 am;refine Xc (Xc (Xd (Xe (vi i2) Z (Xa (Xj fa37_2 (Ad aa 0) (Ad aa 3) Z Z) (Xa (Xl ag35 cL (Ad aa 3) (G A7 n8 c9) Z (af.cell Z)) ?_)))));have bf := ab.le;refine Xa (X8 u35_ A7 n8 c9 ab.len Z) (Xa (X0 i2 (f.Tags.length : Int) (decide (i2 < (f.Tags.length : Int))) Z Z Z) (Xb ?_));refine Xx (decide (i2 < (f.Tags.length : Int))) Z (fun ag => ?_) (fun ag => ?_)
 ·have H := Xo H ag;refine Xy (Xc (X6 (Yu (fun x => Gr ac x none) RK RK (Gr.drew _) ?_)));refine Xt (vs out2) Z ?_;obtain ⟨bg, H⟩ := H;refine Xg (Yh out2 ([32] : Str) Z Z bg) (Xg (Xj fa37_2 (Ad aa 0) (Ad aa 3) Z Z) (Xg (Xl ag35 cQ (Ad aa 3) (G A7 n8 c9) Z (af.cell Z)) (Xt (vi i2) Z ?_)));obtain ⟨aw, H⟩ := H;obtain ⟨ah, b0, bh, b1, bi, bj⟩ := ab.get default RD i2 aw;obtain ⟨rfl, b2, b3⟩ := kTag.op bi;refine Xg (X2 u35_ Y1 A7 ah n8 c9 ab.len i2 Z bh Z aw) (Xg (Xj fa67_0 (ah.add (i2.toNat * 2)) ((ah.add (i2.toNat * 2)).add 0) Z Z) (Xg (Xl ag9 cQ ((ah.add (i2.toNat * 2)).add 0) (vs ((nth f.Tags i2).Key)) Z (bj 0 _ Z)) ?_));obtain ⟨bl, H⟩ := H;refine Xg (Yh (out2 ++ ([32] : Str)) ((nth f.Tags i2).Key) Z Z bl) ?_;obtain ⟨bm, H⟩ := H;refine Xg (Yh ((out2 ++ ([32] : Str)) ++ ((nth f.Tags i2).Key)) ([61] : Str) Z Z bm) (Xg (Xj fa37_2 (Ad aa 0) (Ad aa 3) Z Z) (Xg (Xl ag35 cQ (Ad aa 3) (G A7 n8 c9) Z (af.cell Z)) (Xt (vi i2) Z ?_)));obtain ⟨ax, H⟩ := H;obtain ⟨ai, b4, bn, b5, bo, bp⟩ := ab.get default RD i2 ax;obtain ⟨rfl, b6, b7⟩ := kTag.op bo;refine Xg (X2 u35_ Y1 A7 ai n8 c9 ab.len i2 Z bn Z ax) (Xg (Xj fa67_1 (ai.add (i2.toNat * 2)) ((ai.add (i2.toNat * 2)).add 1) Z Z) (Xg (Xl ag9 cQ ((ai.add (i2.toNat * 2)).add 1) (vs ((nth f.Tags i2).Val)) Z (bp 1 _ Z)) ?_));obtain ⟨ay, H⟩ := H;refine Xg (Yh (((out2 ++ ([32] : Str)) ++ ((nth f.Tags i2).Key)) ++ ([61] : Str)) ((nth f.Tags i2).Val) Z Z ay) (Y8 (vs ((((out2 ++ ([32] : Str)) ++ ((nth f.Tags i2).Key)) ++ ([61] : Str)) ++ ((nth f.Tags i2).Val))) Z (Yc fun b8 az => ?_));have bq := an.k0 az;refine Xd (Xe (vi i2) Z ?_);obtain ⟨br, H⟩ := H;have bs : I64 (i2 + 1) := i64_succ (of_decide_eq_true ag) bf br;refine Xa (Ya i2 1 Z Z bs) (Xf (vi (i2 + 1)) Z (Xb ?_));obtain ⟨bt, bu⟩ := H;have ao := an.stn az;have bv := (af.st ao);exact ⟨(((((out2 ++ ([32] : Str)) ++ ((nth f.Tags i2).Key)) ++ ([61] : Str)) ++ ((nth f.Tags i2).Val)), i2 + 1), bu, bt, (Xz Z), bq, (lim_cat ay), (be.st ao), (ab.st ao), bv⟩
 have H := Xp H ag;refine Yi (xin_hit ?_);exact Xc (Xd (Xe (vs out2) Z (Xf (vs out2) Z (Xb (Xn ⟨[vs out2], ⟨_, Z, Z⟩, out2, Z, H, an.gr.g0, bd⟩)))))
def F49.E (f : Feat) (is : Bool) (Q : Str → Prop) : Prop :=
 (if !is then Q ([45] : Str) else F20.E f (fun r => Q r))
theorem F49.calls {f : Feat} {A2 : Option Addr} {n3 c4 : Nat} {A7 : Option Addr} {n8 c9 : Nat} {is : Bool} {Q : Str → Prop} (H : F49.E f is Q) (hO : Ok w0 O) (hs1 : Lim f.Id) (hp5 : Sl kPt w0 (Fr O) (G A2 n3 c4) f.Shape.Pts) (ac : Sl kTag w0 (Fr O) (G A7 n8 c9) f.Tags) :
  Ret Tryd.prog 16 [.agg #[vs f.Id, vi f.Shape.Kind, G A2 n3 c4, G A7 n8 c9], vb is] w0 (fun v w' => ∃ (r0 : Str), v = vs r0 ∧ Q r0 ∧ Gr w0 w' none ∧ Lim r0) := by
 unfold F49.E at H;have hc0 := Ct.init hO;refine X9 Tryd.func16 Z 9 Z [.tmp 4] Z Z ?_;refine Xc (Xd (Yq [vs f.Id, vi f.Shape.Kind, G A2 n3 c4, G A7 n8 c9] Z fun ad ae af hu16 ag ah => ?_));have ai := Fb.mk hc0.ok af ah;have aa := hc0.k0 ag;refine Xf (vs []) Z (Xb (Xc (Xc (Xd (Xe (vb is) Z (Xa (X7 is Z) (Xb ?_)))))));refine Xx (!is) Z (fun ab => ?_) (fun ab => ?_)
 ·have H := Xo H ab;exact Xc (Xd (Xf (vs ([45] : Str)) Z (Xb (Xn ⟨[vs ([45] : Str)], ⟨_, Z, Z⟩, ([45] : Str), Z, H, aa.gr.g0, (by decide : Lim ([45] : Str))⟩))))
 have H := Xp H ab;refine Xy (Xc (Xd (Xa (Xv ag37 sz37 cL (Ad ae 0) [vs f.Id, vi f.Shape.Kind, G A2 n3 c4, G A7 n8 c9] Z Z (ai.cells (off := 00) Z)) ?_)));refine Xs go28 (F20.calls H aa.ok hs1 (hp5.st aa.st) (ac.st aa.st)) Z ?_;rintro _ am ⟨r, rfl, H, aj, ak⟩;have al := aa.k0 aj;exact Xf (vs r) Z (Xb (Xn ⟨[vs r], ⟨_, Z, Z⟩, r, Z, H, al.gr.g0, ak⟩))
def F21.E (d : List Change) (Q : Str → Prop) : Prop :=
 (∃ (I20 : Str → Int → Prop) (mu21 : Str → Int → Nat), I20 [] 0 ∧ ∀ (out2 : Str) (i2 : Int), I20 out2 i2 → (if decide (i2 < (d.length : Int)) then F46.E d (fun r => (if r then ((0 : Int) ≤ i2 ∧ i2 < (d.length : Int)) ∧ (out2.length + ((nth d i2).Id).length ≤ 9223372036854775807) ∧ ((out2 ++ ((nth d i2).Id)).length + ([58, 32] : Str).length ≤ 9223372036854775807) ∧ ((0 : Int) ≤ i2 ∧ i2 < (d.length : Int)) ∧ ((0 : Int) ≤ i2 ∧ i2 < (d.length : Int)) ∧ (∃ q : Str, F49.E ((nth d i2).Was) ((nth d i2).Had) (fun x => x = q) ∧ (Lim q) ∧ (((out2 ++ ((nth d i2).Id)) ++ ([58, 32] : Str)).length + q.length ≤ 9223372036854775807) ∧ ((((out2 ++ ((nth d i2).Id)) ++ ([58, 32] : Str)) ++ q).length + ([32, 62, 32] : Str).length ≤ 9223372036854775807) ∧ ((0 : Int) ≤ i2 ∧ i2 < (d.length : Int)) ∧ ((0 : Int) ≤ i2 ∧ i2 < (d.length : Int)) ∧ (∃ q2 : Str, F49.E ((nth d i2).Now) ((nth d i2).Has) (fun x => x = q2) ∧ (Lim q2) ∧ (((((out2 ++ ((nth d i2).Id)) ++ ([58, 32] : Str)) ++ q) ++ ([32, 62, 32] : Str)).length + q2.length ≤ 9223372036854775807) ∧ ((((((out2 ++ ((nth d i2).Id)) ++ ([58, 32] : Str)) ++ q) ++ ([32, 62, 32] : Str)) ++ q2).length + ([10] : Str).length ≤ 9223372036854775807) ∧ (-9223372036854775808 ≤ i2) ∧ I20 ((((((out2 ++ ((nth d i2).Id)) ++ ([58, 32] : Str)) ++ q) ++ ([32, 62, 32] : Str)) ++ q2) ++ ([10] : Str)) (i2 + 1) ∧ mu21 ((((((out2 ++ ((nth d i2).Id)) ++ ([58, 32] : Str)) ++ q) ++ ([32, 62, 32] : Str)) ++ q2) ++ ([10] : Str)) (i2 + 1) < mu21 out2 i2)) else Q out2)) else Q out2))
theorem F21.calls {d : List Change} {A1 : Option Addr} {n2 c3 : Nat} {Q : Str → Prop} (H : F21.E d Q) (hO : Ok w0 O) (hp4 : Sl kChange w0 (Fr O) (G A1 n2 c3) d) :
  Ret Tryd.prog 7 [G A1 n2 c3] w0 (fun v w' => ∃ (r0 : Str), v = vs r0 ∧ Q r0 ∧ Gr w0 w' none ∧ Lim r0) := by
 unfold F21.E at H;have hc0 := Ct.init hO;refine X9 Tryd.func7 Z 50 Z [.tmp 2] Z Z ?_;refine Xc (Xd (Xf (vs []) Z (Xb (Xc (Xd (Xf (vs []) Z (Xb (Xc ?_))))))));refine Xc (Xd (Xf (vi 0) Z (Xb (X6 ?_))));obtain ⟨ba, bb, al, H⟩ := H;refine Yl (α := Str × Int) (fun (out2, i2) t ae => ba out2 i2 ∧ Has t [(0, G A1 n2 c3), (3, vs out2), (4, vi i2)] ∧ Ct [] w0 ae [] O ∧ Lim out2 ∧ Sl kChange ae (Fr ([] ++ O)) (G A1 n2 c3) d) (fun (out2, i2) => bb out2 i2) (([] : Str), 0) ⟨al, (Xz Z), hc0, (by decide : Lim ([] : Str)), hp4⟩ ?_;rintro ⟨out2, i2⟩ _ ae ⟨al, bc, af, a1, aa⟩;obtain ⟨cg, rfl⟩ := Has.ins bc;have H := H out2 i2 al;refine Xc (Xc (Xd (Xe (vi i2) Z (Xe (G A1 n2 c3) Z ?_))));have bd := aa.le;refine Xa (X8 u25_ A1 n2 c3 aa.len Z) (Xa (X0 i2 (d.length : Int) (decide (i2 < (d.length : Int))) Z Z Z) (Xe (vb (decide (i2 < (d.length : Int)))) Z ?_));rcases X3 (decide (i2 < (d.length : Int))) with ac | ac
 ·have H := Xo H ac;refine Xh ac Z (Xe (G A1 n2 c3) Z (Xh ac Z ?_));refine Xs go12 (F46.calls H af.ok aa) Z ?_;rintro _ be ⟨r, rfl, H, a2⟩;have ad := af.k0 a2;refine Xa (Xk true (vb r) ac Z) (Xb ?_);refine Xx r Z (fun am => ?_) (fun am => ?_)
  ·have H := Xo H am;refine Xy (Xc (X6 (Yu (fun x => Gr be x none) RK RK (Gr.drew _) ?_)));refine Xt (vs out2) Z (Xt (G A1 n2 c3) Z (Xt (vi i2) Z ?_));obtain ⟨a3, H⟩ := H;have ab := af.stn a2;obtain ⟨ag, ch, bf, ci, bg, bh⟩ := (aa.st ab).get default RD i2 a3;obtain ⟨cj, ck, cl, cm, cn, co, cp, cq, cr, cs, ct, cu, rfl, cv, cw, cx, cy, cz, c0, c1⟩ := kChange.op bg;refine Xg (X2 u25_ Y3 A1 ag n2 c3 (aa.st ab).len i2 Z bf Z a3) (Xg (Xj fa39_0 (ag.add (i2.toNat * 11)) ((ag.add (i2.toNat * 11)).add 0) Z Z) (Xg (Xl ag9 cQ ((ag.add (i2.toNat * 11)).add 0) (vs ((nth d i2).Id)) Z (bh 0 _ Z)) ?_));obtain ⟨bi, H⟩ := H;refine Xg (Yh out2 ((nth d i2).Id) Z Z bi) ?_;obtain ⟨bj, H⟩ := H;refine Xg (Yh (out2 ++ ((nth d i2).Id)) ([58, 32] : Str) Z Z bj) (Xt (G A1 n2 c3) Z (Xt (vi i2) Z ?_));obtain ⟨a4, H⟩ := H;obtain ⟨ah, c2, bl, c4, bm, bn⟩ := (aa.st ab).get default RD i2 a4;obtain ⟨an, ao, ap, aq, ar, au, c5, c6, c7, c8, c9, da, rfl, db, bo, bp, bq, dc, dd, de⟩ := kChange.op bm;refine Xg (X2 u25_ Y3 A1 ah n2 c3 (aa.st ab).len i2 Z bl Z a4) (Xg (Xj fa39_2 (ah.add (i2.toNat * 11)) ((ah.add (i2.toNat * 11)).add 2) Z Z) (Xg (Xv ag37 sz37 cQ ((ah.add (i2.toNat * 11)).add 2) [vs ((nth d i2).Was.Id), vi ((nth d i2).Was.Shape.Kind), G an ao ap, G aq ar au] Z Z (sub_cells (off := 2) bn Z)) (Xt (G A1 n2 c3) Z (Xt (vi i2) Z ?_))));obtain ⟨a5, H⟩ := H;obtain ⟨ai, df, br, dg, bs, bt⟩ := (aa.st ab).get default RD i2 a5;obtain ⟨dh, di, dj, dk, dl, dm, dn, dp, dq, dr, ds, dt, rfl, du, dv, dw, dx, dy, dz, d0⟩ := kChange.op bs;refine Xg (X2 u25_ Y3 A1 ai n2 c3 (aa.st ab).len i2 Z br Z a5) (Xg (Xj fa39_1 (ai.add (i2.toNat * 11)) ((ai.add (i2.toNat * 11)).add 1) Z Z) (Xg (Xl ag4 cQ ((ai.add (i2.toNat * 11)).add 1) (vb ((nth d i2).Had)) Z (bt 1 _ Z)) ?_));obtain ⟨q, bu, d1, H⟩ := H;refine Yw go16 [.agg #[vs ((nth d i2).Was.Id), vi ((nth d i2).Was.Shape.Kind), G an ao ap, G aq ar au], vb ((nth d i2).Had)] Z (vs q) (fun w g => (F49.calls bu (ad.k0 g).ok bo (bp.st (.new _ g)) (bq.st (.new _ g))).mono ?_) ?_
   ·rintro _ w ⟨r, rfl, rfl, g2, _⟩;exact ⟨Z, Gr.t0 g g2⟩
   obtain ⟨bv, H⟩ := H;refine Xg (Yh ((out2 ++ ((nth d i2).Id)) ++ ([58, 32] : Str)) q Z Z bv) ?_;obtain ⟨bw, H⟩ := H;refine Xg (Yh (((out2 ++ ((nth d i2).Id)) ++ ([58, 32] : Str)) ++ q) ([32, 62, 32] : Str) Z Z bw) (Xt (G A1 n2 c3) Z (Xt (vi i2) Z ?_));obtain ⟨a6, H⟩ := H;obtain ⟨aj, d2, bx, d3, bz, b0⟩ := (aa.st ab).get default RD i2 a6;obtain ⟨d4, d5, d6, d7, d8, d9, av, aw, ax, ay, az, a0, rfl, ea, eb, ec, ed, b1, b2, b3⟩ := kChange.op bz;refine Xg (X2 u25_ Y3 A1 aj n2 c3 (aa.st ab).len i2 Z bx Z a6) (Xg (Xj fa39_4 (aj.add (i2.toNat * 11)) ((aj.add (i2.toNat * 11)).add 7) Z Z) (Xg (Xv ag37 sz37 cQ ((aj.add (i2.toNat * 11)).add 7) [vs ((nth d i2).Now.Id), vi ((nth d i2).Now.Shape.Kind), G av aw ax, G ay az a0] Z Z (sub_cells (off := 7) b0 Z)) (Xt (G A1 n2 c3) Z (Xt (vi i2) Z ?_))));obtain ⟨a7, H⟩ := H;obtain ⟨ak, ee, b4, ef, b5, b6⟩ := (aa.st ab).get default RD i2 a7;obtain ⟨eg, eh, ei, ej, ek, el, em, en, eo, ep, eq, er, rfl, es, et, eu, ev, ew, ex, ey⟩ := kChange.op b5;refine Xg (X2 u25_ Y3 A1 ak n2 c3 (aa.st ab).len i2 Z b4 Z a7) (Xg (Xj fa39_3 (ak.add (i2.toNat * 11)) ((ak.add (i2.toNat * 11)).add 6) Z Z) (Xg (Xl ag4 cQ ((ak.add (i2.toNat * 11)).add 6) (vb ((nth d i2).Has)) Z (b6 6 _ Z)) ?_));obtain ⟨q2, b7, ez, H⟩ := H;refine Yw go16 [.agg #[vs ((nth d i2).Now.Id), vi ((nth d i2).Now.Shape.Kind), G av aw ax, G ay az a0], vb ((nth d i2).Has)] Z (vs q2) (fun w g => (F49.calls b7 (ad.k0 g).ok b1 (b2.st (.new _ g)) (b3.st (.new _ g))).mono ?_) ?_
   ·rintro _ w ⟨r, rfl, rfl, g2, _⟩;exact ⟨Z, Gr.t0 g g2⟩
   obtain ⟨b8, H⟩ := H;refine Xg (Yh ((((out2 ++ ((nth d i2).Id)) ++ ([58, 32] : Str)) ++ q) ++ ([32, 62, 32] : Str)) q2 Z Z b8) ?_;obtain ⟨a8, H⟩ := H;refine Xg (Yh (((((out2 ++ ((nth d i2).Id)) ++ ([58, 32] : Str)) ++ q) ++ ([32, 62, 32] : Str)) ++ q2) ([10] : Str) Z Z a8) (Y8 (vs ((((((out2 ++ ((nth d i2).Id)) ++ ([58, 32] : Str)) ++ q) ++ ([32, 62, 32] : Str)) ++ q2) ++ ([10] : Str))) Z (Yc fun e0 a9 => ?_));have b9 := ad.k0 a9;refine Xd (Xe (vi i2) Z ?_);obtain ⟨ca, H⟩ := H;have cb : I64 (i2 + 1) := i64_succ (of_decide_eq_true ac) bd ca;refine Xa (Ya i2 1 Z Z cb) (Xf (vi (i2 + 1)) Z (Xb ?_));obtain ⟨cc, cd⟩ := H;have ce := ad.stn a9;have cf := ((aa.st ab).st ce);exact ⟨(((((((out2 ++ ((nth d i2).Id)) ++ ([58, 32] : Str)) ++ q) ++ ([32, 62, 32] : Str)) ++ q2) ++ ([10] : Str)), i2 + 1), cd, cc, (Xz Z), b9, (lim_cat a8), cf⟩
  have H := Xp H am;refine Yi (xin_hit ?_);exact Xc (Xd (Xe (vs out2) Z (Xf (vs out2) Z (Xb (Xn ⟨[vs out2], ⟨_, Z, Z⟩, out2, Z, H, ad.gr.g0, a1⟩)))))
 have H := Xp H ac;refine Xi ac Z (Xi ac Z (Xa (Xk false (vb false) ac Z) (Xb (Y0 (b := false) Z Z ?_))));refine Yi (xin_hit ?_);exact Xc (Xd (Xe (vs out2) Z (Xf (vs out2) Z (Xb (Xn ⟨[vs out2], ⟨_, Z, Z⟩, out2, Z, H, af.gr.g0, a1⟩)))))
section
section
variable {P : Program} {n : Nat} {t : Tm} {w : World} {ty : TypeId} {pos : String} {aft : Array Edge} {d : Nat} {x : Operand} {C : World → Prop}
theorem text_cut (s : Str) (i j : Nat) : (⟨s.toArray⟩ : ByteArray).extract i j = ⟨((s.drop i).take (j - i)).toArray⟩ := by
 apply ByteArray.ext
 rw [ByteArray.data_extract]
 apply Array.ext'
 rw [Array.toList_extract]
theorem Ke {T : TypeId} (hu : P.underlying T = some .string) {lo hi : Option Operand} (s : Str) (hx : evt n t x = vs s) (i j : Int) (hlo : bound n t lo 0 i) (hhi : bound n t hi (s.length : Int) j)
  (hij : 0 ≤ i ∧ i ≤ j ∧ j ≤ (s.length : Int)) :
  Pu P n t C ⟨some d, .slice T x lo hi none, ty, pos, aft, none⟩ (vs ((s.drop i.toNat).take (j.toNat - i.toNat))) := fun w hw => by
 rw [vs, ← text_cut]
 have hz : (⟨s.toArray⟩ : ByteArray).size = s.length := size_ofL s
 have key : ∀ l h : Option Value, (Instr.sliceAt T (.string ⟨s.toArray⟩) l h none).run P w = (Instr.slice T (.string ⟨s.toArray⟩) l h none).run P w := fun l h => by
  simp [Instr.sliceAt, run_underlying hu]
 simp only [execOp, hx, Sem.run_bind]
 cases lo with
 | none =>
  cases hi with
  | none => simp only [bound] at hlo hhi; subst hlo; subst hhi; simp only [Option.map_none]; rw [key, run_slice_string_all w T _ hu, hz]; simp
  | some h => simp only [bound] at hlo hhi; subst hlo; simp only [Option.map_some, Option.map_none, hhi]; rw [key, run_slice_string_h w T _ hu .i64 j hij.2.1 (by rw [hz]; exact hij.2.2)]; simp
 | some l =>
  cases hi with
  | none => simp only [bound] at hlo hhi; subst hhi; simp only [Option.map_some, Option.map_none, hlo]; rw [key, run_slice_string_l w T _ hu .i64 i hij.1 (by rw [hz]; exact hij.2.1), hz]; simp
  | some h => simp only [bound] at hlo hhi; simp only [Option.map_some, Option.map_none, hlo, hhi]; rw [key, run_slice_string w T _ .i64 .i64 i j hu hij.1 hij.2.1 (by rw [hz]; exact hij.2.2)]; simp
end
end
def laws_FnDiffLines.E (code : List UInt8) (Q : Bool → Prop) : Prop :=
 (if decide ((code.length : Int) > 1048576) then Q true else F1.E code (fun r => F24.E r (fun r2 => F21.E r (fun r3 => (if r2 != r3 then F21.E r (fun r4 => Q (r2 == r4)) else F46.E r (fun r5 => (if !r5 then F21.E r (fun r6 => Q (r2 == r6)) else (∃ (I94 : (List Change) → Int → Int → Prop) (mu95 : (List Change) → Int → Int → Nat), I94 r 0 0 ∧ ∀ (xs2 : List Change) (at_2 i2 : Int), I94 xs2 at_2 i2 → (if decide (i2 < (xs2.length : Int)) then ((0 : Int) ≤ i2 ∧ i2 < (xs2.length : Int)) ∧ (((nth xs2 i2).Id).length + ([58, 32] : Str).length ≤ 9223372036854775807) ∧ ((xs2.length : Int) ≤ 9223372036854775807 → (r2.length : Int) ≤ 9223372036854775807 → I64 ((r2.length : Int) - at_2)) ∧ (if decide ((r2.length : Int) - at_2 < ((((nth xs2 i2).Id) ++ ([58, 32] : Str)).length : Int)) then Q false else ((xs2.length : Int) ≤ 9223372036854775807 → (r2.length : Int) ≤ 9223372036854775807 → ((((nth xs2 i2).Id) ++ ([58, 32] : Str)).length : Int) ≤ 9223372036854775807 → I64 (at_2 + ((((nth xs2 i2).Id) ++ ([58, 32] : Str)).length : Int))) ∧ ((0 : Int) ≤ at_2 ∧ (at_2 : Int) ≤ at_2 + ((((nth xs2 i2).Id) ++ ([58, 32] : Str)).length : Int) ∧ at_2 + ((((nth xs2 i2).Id) ++ ([58, 32] : Str)).length : Int) ≤ (r2.length : Int)) ∧ (if ((r2.drop at_2.toNat).take ((at_2 + ((((nth xs2 i2).Id) ++ ([58, 32] : Str)).length : Int)).toNat - at_2.toNat)) != (((nth xs2 i2).Id) ++ ([58, 32] : Str)) then Q false else (∃ (I157 : Int → Prop) (mu158 : Int → Nat), I157 at_2 ∧ ∀ (at_4 : Int), I157 at_4 → ((0 : Int) ≤ at_4 ∧ at_4 < (r2.length : Int)) ∧ (if ((nth r2 at_4).toNat : Int) != 10 then (I64 (at_4 + 1)) ∧ I157 (at_4 + 1) ∧ mu158 (at_4 + 1) < mu158 at_4 else (I64 (at_4 + 1)) ∧ (I64 (i2 + 1)) ∧ I94 xs2 (at_4 + 1) (i2 + 1) ∧ mu95 xs2 (at_4 + 1) (i2 + 1) < mu95 xs2 at_2 i2)))) else Q (at_2 == (r2.length : Int)))))))))))
theorem laws_FnDiffLines.calls {O : Ob} (w0 : World) (hO : Ok w0 O) (hG : Glob w0 O) (code : List UInt8) (A1 : Option Addr) (n2 c3 : Nat) (hp4 : Sl Kd.byte w0 (Fr O) (G A1 n2 c3) code) (Q : Bool → Prop) (h : laws_FnDiffLines.E code Q) :
  Ret Tryd.prog 4 [G A1 n2 c3] w0 (fun v w' => ∃ (r0 : Bool), v = vb r0 ∧ Q r0 ∧ Gr w0 w' none) := by
 unfold laws_FnDiffLines.E at h;have H := h;clear h;have hc0 := Ct.init hO;refine X9 Tryd.func4 Z 70 Z [.tmp 2] Z Z ?_;refine Xc (Xd (Xf (vb false) Z (Xb (Xc (Xc (Xd (Xe (G A1 n2 c3) Z ?_)))))));have hl6 := hp4.le;refine Xa (X8 u29_ A1 n2 c3 hp4.len Z) (Xa (X0 (code.length : Int) 1048576 (decide ((code.length : Int) > 1048576)) Z Z Z) (Xb ?_));refine Xx (decide ((code.length : Int) > 1048576)) Z (fun hq7 => ?_) (fun hq7 => ?_)
 ·have H := Xo H hq7;exact Xc (Xd (Xf (vb true) Z (Xb (Xn ⟨[vb true], ⟨_, Z, Z⟩, true, Z, H, hc0.gr.g0⟩))))
 have H := Xp H hq7;refine Xy (Xc (Xd (Xe (G A1 n2 c3) Z ?_)));refine Xs go11 (F1.calls H hc0.ok hp4) Z ?_;rintro _ w8 ⟨r, ab, ac, ad, rfl, H, g9, bc, bd, ai⟩;have aq := hc0.owns g9 bc bd;refine Xf (G ab ac ad) Z (Xb (Xc (Xd (Xe (G ab ac ad) Z ?_))));have be := aq.gv ai 0 Z;have a3 := aq.drop 0 Z;refine Xs go9 (F24.calls H a3.ok (hG.st a3.st) be) Z ?_;rintro _ bf ⟨r2, rfl, H, aj, a4⟩;have ar := aq.k0 aj;refine Xf (vs r2) Z (Xb (Xc (Xc (Xd (Xe (vs r2) Z (Xe (G ab ac ad) Z ?_))))));have bg := (ai.sn aj);have bh := ar.gv bg 0 Z;have bi := ar.drop 0 Z;refine Xs go7 (F21.calls H bi.ok bh) Z ?_;rintro _ a5 ⟨r3, rfl, H, al, cs⟩;have ak := ar.k0 al;refine Xa (Yj r2 r3 (r2 != r3) Z Z Z) (Xe (vb (r2 != r3)) Z ?_);rcases X3 (r2 != r3) with af | af
 ·have H := Xo H af;refine Xi af Z (Xi af Z (Xi af Z (Xa (Xk true (vb true) af Z) (Xb (Yx (b := true) Z Z ?_)))));refine Xc (Xd (Xe (vs r2) Z (Xe (G ab ac ad) Z ?_)));have bj := ((ai.sn aj).sn al);have bl := ak.gv bj 0 Z;have bm := ak.drop 0 Z;refine Xs go7 (F21.calls H bm.ok bl) Z ?_;rintro _ ct ⟨r4, rfl, H, bn, cu⟩;have bo := ak.k0 bn;refine Xa (Yj r2 r4 (r2 == r4) Z Z Z) (Xf (vb (r2 == r4)) Z (Xb (Xn ?_)));have bp := bo.drop 0 Z;exact ⟨[vb (r2 == r4)], ⟨_, Z, Z⟩, r2 == r4, Z, H, bp.gr.g0⟩
 have H := Xp H af;refine Xh af Z (Xe (G ab ac ad) Z (Xh af Z ?_));have bq := ((ai.sn aj).sn al);have br := ak.gv bq 0 Z;have bs := ak.drop 0 Z;refine Xs go12 (F46.calls H bs.ok br) Z ?_;rintro _ bt ⟨r5, rfl, H, au⟩;have an := ak.k0 au;refine Xh af Z (Xa (X7 r5 Z) (Xa (Xk false (vb (!r5)) af Z) (Xb ?_)));refine Xx (!r5) Z (fun av => ?_) (fun av => ?_)
 ·have H := Xo H av;refine Xc (Xd (Xe (vs r2) Z (Xe (G ab ac ad) Z ?_)));have bu := (((ai.sn aj).sn al).sn au);have bv := an.gv bu 0 Z;have bw := an.drop 0 Z;refine Xs go7 (F21.calls H bw.ok bv) Z ?_;rintro _ cv ⟨r6, rfl, H, bx, cw⟩;have bz := an.k0 bx;refine Xa (Yj r2 r6 (r2 == r6) Z Z Z) (Xf (vb (r2 == r6)) Z (Xb (Xn ?_)));have b0 := bz.drop 0 Z;exact ⟨[vb (r2 == r6)], ⟨_, Z, Z⟩, r2 == r6, Z, H, b0.gr.g0⟩
 have H := Xp H av;refine Xy (Xc (Xd (Xf (vi 0) Z (Xb (Xc (Xc (Xd (Xf (vi 0) Z ?_))))))));refine Xb (X6 ?_);obtain ⟨b1, b2, aw, H⟩ := H;have b3 := (((ai.sn aj).sn al).sn au);refine Yl (α := (List Change) × (Option Addr) × Nat × Nat × Int × Int) (fun (xs2, ae, ag, ah, at_2, i2) t ax => b1 xs2 at_2 i2 ∧ Has t [(3, G ae ag ah), (4, vs r2), (5, vi at_2), (6, vi i2)] ∧ Ct [] w0 ax [bk ae] O ∧ Ow kChange 39 ax ([bk ae] ++ O) (G ae ag ah) xs2) (fun (xs2, _, _, _, at_2, i2) => b2 xs2 at_2 i2) (r, ab, ac, ad, 0, 0) ⟨aw, (Xz Z), an, b3⟩ ?_;rintro ⟨xs2, ae, ag, ah, at_2, i2⟩ _ ax ⟨aw, b4, ao, am⟩;obtain ⟨cx, rfl⟩ := Has.ins b4;have H := H xs2 at_2 i2 aw;refine Xc (Xc (Xd (Xe (vi i2) Z (Xe (G ae ag ah) Z ?_))));have a6 := am.le;refine Xa (X8 u25_ ae ag ah am.len Z) (Xa (X0 i2 (xs2.length : Int) (decide (i2 < (xs2.length : Int))) Z Z Z) (Xb ?_));refine Xx (decide (i2 < (xs2.length : Int))) Z (fun ay => ?_) (fun ay => ?_)
 ·have H := Xo H ay;refine Xy (Xc (X6 (Xc (Xd (Xe (G ae ag ah) Z (Xe (vi i2) Z ?_))))));obtain ⟨a7, H⟩ := H;obtain ⟨ap, cy, b5, b6, b7⟩ := am.get default RD i2 a7;obtain ⟨cz, c0, c1, c2, c4, c5, c6, c7, c8, c9, da, db, rfl, dc, dd, de, df, dg, dh, di⟩ := kChange.op b6;refine Xa (X2 u25_ Y3 ae ap ag ah am.len i2 Z b5 Z a7) (Xa (Xj fa39_0 (ap.add (i2.toNat * 11)) ((ap.add (i2.toNat * 11)).add 0) Z Z) (Xa (Xl ag9 cL ((ap.add (i2.toNat * 11)).add 0) (vs ((nth xs2 i2).Id)) Z (b7 0 _ Z)) ?_));obtain ⟨a8, H⟩ := H;refine Xa (Yh ((nth xs2 i2).Id) ([58, 32] : Str) Z Z a8) (Xf (vs (((nth xs2 i2).Id) ++ ([58, 32] : Str))) Z (Xb (Xc (Xc (Xd (Xe (vs r2) Z ?_))))));have a9 := a4;refine Xa (Zc u9_ r2 Z) (Xe (vi at_2) Z ?_);obtain ⟨b8, H⟩ := H;have b9 := b8 (len_le a6) (len_le a9);refine Xa (Ys (r2.length : Int) at_2 Z Z b9) (Xe (vs (((nth xs2 i2).Id) ++ ([58, 32] : Str))) Z ?_);have ca := (lim_cat a8);refine Xa (Zc u9_ (((nth xs2 i2).Id) ++ ([58, 32] : Str)) Z) (Xa (X0 ((r2.length : Int) - at_2) ((((nth xs2 i2).Id) ++ ([58, 32] : Str)).length : Int) (decide ((r2.length : Int) - at_2 < ((((nth xs2 i2).Id) ++ ([58, 32] : Str)).length : Int))) Z Z Z) (Xe (vb (decide ((r2.length : Int) - at_2 < ((((nth xs2 i2).Id) ++ ([58, 32] : Str)).length : Int)))) Z ?_));rcases X3 (decide ((r2.length : Int) - at_2 < ((((nth xs2 i2).Id) ++ ([58, 32] : Str)).length : Int))) with aa | aa
  ·have H := Xo H aa;refine Xi aa Z (Xi aa Z (Xi aa Z (Xi aa Z (Xi aa Z (Xi aa Z (Xi aa Z (Xi aa Z (Xi aa Z ?_))))))));refine Xa (Xk true (vb true) aa Z) (Xb (Yx (b := true) Z Z ?_));refine Xc (Xd (Xf (vb false) Z (Xb (Xn ?_))));have cb := ao.drop 0 Z;exact ⟨[vb false], ⟨_, Z, Z⟩, false, Z, H, cb.gr.g0⟩
  have H := Xp H aa;refine Xh aa Z (Xe (vs r2) Z (Xh aa Z (Xe (vi at_2) Z (Xh aa Z (Xe (vi at_2) Z (Xh aa Z (Xe (vs (((nth xs2 i2).Id) ++ ([58, 32] : Str))) Z (Xh aa Z ?_))))))));refine Xa (Zc u9_ (((nth xs2 i2).Id) ++ ([58, 32] : Str)) Z) (Xh aa Z ?_);obtain ⟨cc, H⟩ := H;have cd := cc (len_le a6) (len_le a9) (len_le ca);refine Xa (Ya at_2 ((((nth xs2 i2).Id) ++ ([58, 32] : Str)).length : Int) Z Z cd) (Xh aa Z ?_);obtain ⟨ce, H⟩ := H;refine Xa (Ke u9_ r2 Z at_2 (at_2 + ((((nth xs2 i2).Id) ++ ([58, 32] : Str)).length : Int)) Z Z ce) (Xh aa Z (Xe (vs (((nth xs2 i2).Id) ++ ([58, 32] : Str))) Z (Xh aa Z (Xa (Yj ((r2.drop at_2.toNat).take ((at_2 + ((((nth xs2 i2).Id) ++ ([58, 32] : Str)).length : Int)).toNat - at_2.toNat)) (((nth xs2 i2).Id) ++ ([58, 32] : Str)) (((r2.drop at_2.toNat).take ((at_2 + ((((nth xs2 i2).Id) ++ ([58, 32] : Str)).length : Int)).toNat - at_2.toNat)) != (((nth xs2 i2).Id) ++ ([58, 32] : Str))) Z Z Z) (Xa (Yp false (vb (((r2.drop at_2.toNat).take ((at_2 + ((((nth xs2 i2).Id) ++ ([58, 32] : Str)).length : Int)).toNat - at_2.toNat)) != (((nth xs2 i2).Id) ++ ([58, 32] : Str)))) (by exact congrArg Value.bool aa) Z) (Xb ?_))))));refine Xx (((r2.drop at_2.toNat).take ((at_2 + ((((nth xs2 i2).Id) ++ ([58, 32] : Str)).length : Int)).toNat - at_2.toNat)) != (((nth xs2 i2).Id) ++ ([58, 32] : Str))) Z (fun az => ?_) (fun az => ?_)
  ·have H := Xo H az;refine Xc (Xd (Xf (vb false) Z (Xb (Xn ?_))));have cf := ao.drop 0 Z;exact ⟨[vb false], ⟨_, Z, Z⟩, false, Z, H, cf.gr.g0⟩
  have H := Xp H az;refine Xy (Xc (X6 ?_));obtain ⟨cg, ch, a0, H⟩ := H;refine Yl (α := Int) (fun (sv__ : Int) t a1 => match sv__ with | at_4 => cg at_4 ∧ Has t [(3, G ae ag ah), (4, vs r2), (5, vi at_4), (6, vi i2)] ∧ Ct [] w0 a1 [bk ae] O ∧ Ow kChange 39 a1 ([bk ae] ++ O) (G ae ag ah) xs2) (fun (sv__ : Int) => match sv__ with | at_4 => ch at_4) at_2 ⟨a0, (Xz Z), ao, am⟩ ?_;rintro at_4 _ a1 ⟨a0, ci, ba, bb⟩;obtain ⟨dj, rfl⟩ := Has.ins ci;have H := H at_4 a0;refine Xc (Xc (Xd (Xe (vs r2) Z (Xe (vi at_4) Z ?_))));obtain ⟨cj, H⟩ := H;refine Xa (Zn u9_ r2 at_4 Z Z cj) (Xa (X0 ((nth r2 at_4).toNat : Int) 10 (((nth r2 at_4).toNat : Int) != 10) Z Z Z) (Xb ?_));refine Xx (((nth r2 at_4).toNat : Int) != 10) Z (fun a2 => ?_) (fun a2 => ?_)
  ·have H := Xo H a2;refine Xy (X6 (Xd (Xe (vi at_4) Z ?_)));obtain ⟨ck, H⟩ := H;refine Xa (Ya at_4 1 Z Z ck) (Xf (vi (at_4 + 1)) Z (Xb ?_));obtain ⟨cl, cm⟩ := H;exact ⟨at_4 + 1, cm, cl, (Xz Z), ba, bb⟩
  have H := Xp H a2;refine Yi (xin_hit ?_);refine Xd (Xe (vi at_4) Z ?_);obtain ⟨cn, H⟩ := H;refine Xa (Ya at_4 1 Z Z cn) (Xf (vi (at_4 + 1)) Z (Xb (Xd (Xe (vi i2) Z ?_))));obtain ⟨co, H⟩ := H;refine Xa (Ya i2 1 Z Z co) (Xf (vi (i2 + 1)) Z (Xb ?_));obtain ⟨cp, cq⟩ := H;exact ⟨(xs2, ae, ag, ah, at_4 + 1, i2 + 1), cq, cp, (Xz Z), ba, bb⟩
 have H := Xp H ay;refine Yi (xin_hit ?_);refine Xc (Xd (Xe (vi at_2) Z (Xe (vs r2) Z ?_)));have dk := a4;refine Xa (Zc u9_ r2 Z) (Xa (X0 at_2 (r2.length : Int) (at_2 == (r2.length : Int)) Z Z Z) (Xf (vb (at_2 == (r2.length : Int))) Z (Xb (Xn ?_))));have cr := ao.drop 0 Z;exact ⟨[vb (at_2 == (r2.length : Int))], ⟨_, Z, Z⟩, at_2 == (r2.length : Int), Z, H, cr.gr.g0⟩
section
section
variable {α : Type} [DecidableEq α]
def lcsR (x : α) (p : List α → Nat) : List α → Nat
 | [] => 0
 | y :: b => if x = y then p b + 1 else max (p (y :: b)) (lcsR x p b)
def lcs : List α → List α → Nat
 | [] => fun _ => 0
 | x :: a => lcsR x (lcs a)
@[simp] theorem lcs_nil (b : List α) : lcs [] b = 0 := rfl
@[simp] theorem lcs_nil2 (a : List α) : lcs a [] = 0 := by cases a <;> rfl
theorem pp {a b c d : Nat} (h : a = c) (k : b = d) : (a, b) = (c, d) := by rw [h, k]
def pairs (i j : Nat) : List α → List α → List (Nat × Nat)
 | x :: a, y :: b => if x = y then (i, j) :: pairs (i + 1) (j + 1) a b else if lcs (x :: a) b ≤ lcs a (y :: b) then pairs (i + 1) j a (y :: b) else pairs i (j + 1) (x :: a) b
 | [], _ => []
 | _ :: _, [] => []
 termination_by a b => a.length + b.length
theorem pairs_nil (i j : Nat) (b : List α) : pairs i j [] b = [] := by rw [pairs]
theorem pairs_nil2 (i j : Nat) (a : List α) : pairs i j a [] = [] := by cases a <;> rw [pairs]
theorem pairs_cons (i j : Nat) (x y : α) (a b : List α) : pairs i j (x :: a) (y :: b) = if x = y then (i, j) :: pairs (i + 1) (j + 1) a b else if lcs (x :: a) b ≤ lcs a (y :: b) then pairs (i + 1) j a (y :: b) else pairs i (j + 1) (x :: a) b := by rw [pairs]
theorem pairs_ind {C : Nat → Nat → List α → List α → Prop} (h0 : ∀ i j b, C i j [] b) (h1 : ∀ i j a, C i j a [])
  (he : ∀ i j x a b, C (i + 1) (j + 1) a b → C i j (x :: a) (x :: b))
  (ha : ∀ i j x y a b, x ≠ y → lcs (x :: a) b ≤ lcs a (y :: b) → C (i + 1) j a (y :: b) → C i j (x :: a) (y :: b))
  (hb : ∀ i j x y a b, x ≠ y → ¬ lcs (x :: a) b ≤ lcs a (y :: b) → C i (j + 1) (x :: a) b → C i j (x :: a) (y :: b)) : ∀ i j (a b : List α), C i j a b := by
 have : ∀ n i j (a b : List α), a.length + b.length ≤ n → C i j a b := by
  intro n
  induction n with
  | zero => intro i j a b h; cases a with
   | nil => exact h0 _ _ _
   | cons _ _ => simp at h
  | succ n ih =>
   intro i j a b h
   cases a with
   | nil => exact h0 _ _ _
   | cons x a => cases b with
    | nil => exact h1 _ _ _
    | cons y b =>
     simp only [List.length_cons] at h
     by_cases e : x = y
     ·subst e; exact he _ _ _ _ _ (ih _ _ _ _ OM)
     ·by_cases l : lcs (x :: a) b ≤ lcs a (y :: b)
      ·exact ha _ _ _ _ _ _ e l (ih _ _ _ _ (by simp only [List.length_cons]; omega))
      ·exact hb _ _ _ _ _ _ e l (ih _ _ _ _ (by simp only [List.length_cons]; omega))
 exact fun i j a b => this _ i j a b (Nat.le_refl _)
theorem pairs_mem (i j : Nat) (a b : List α) : ∀ p ∈ pairs i j a b, ∃ k l, p = (i + k, j + l) ∧ ∃ x, a[k]? = some x ∧ b[l]? = some x := by
 refine pairs_ind (C := fun i j a b => ∀ p ∈ pairs i j a b, ∃ k l, p = (i + k, j + l) ∧ ∃ x, a[k]? = some x ∧ b[l]? = some x) ?_ ?_ ?_ ?_ ?_ i j a b
 ·intro i j b p h; rw [pairs_nil] at h; cases h
 ·intro i j a p h; rw [pairs_nil2] at h; cases h
 ·intro i j x a b ih p h
  rw [pairs_cons, if_pos rfl] at h
  rcases List.mem_cons.1 h with rfl | h
  ·exact ⟨0, 0, rfl, x, rfl, rfl⟩
  ·obtain ⟨k, l, rfl, z, h1, h2⟩ := ih p h
   exact ⟨k + 1, l + 1, pp OM OM, z, h1, h2⟩
 ·intro i j x y a b e l ih p h
  rw [pairs_cons, if_neg e, if_pos l] at h
  obtain ⟨k, l, rfl, z, h1, h2⟩ := ih p h
  exact ⟨k + 1, l, pp OM OM, z, h1, h2⟩
 ·intro i j x y a b e l ih p h
  rw [pairs_cons, if_neg e, if_neg l] at h
  obtain ⟨k, l, rfl, z, h1, h2⟩ := ih p h
  exact ⟨k, l + 1, pp OM OM, z, h1, h2⟩
theorem pairs_ord (i j : Nat) (a b : List α) : (pairs i j a b).Pairwise (fun p q => p.1 < q.1 ∧ p.2 < q.2) := by
 refine pairs_ind (C := fun i j a b => (pairs i j a b).Pairwise (fun p q => p.1 < q.1 ∧ p.2 < q.2)) ?_ ?_ ?_ ?_ ?_ i j a b
 ·intros; rw [pairs_nil]; exact List.Pairwise.nil
 ·intros; rw [pairs_nil2]; exact List.Pairwise.nil
 ·intro i j x a b h; rw [pairs_cons, if_pos rfl]
  refine List.Pairwise.cons (fun p hp => ?_) h
  obtain ⟨k, l, rfl, _⟩ := pairs_mem _ _ _ _ p hp
  exact ⟨by dsimp only; omega, by dsimp only; omega⟩
 ·intro i j x y a b e l h; rw [pairs_cons, if_neg e, if_pos l]; exact h
 ·intro i j x y a b e l h; rw [pairs_cons, if_neg e, if_neg l]; exact h
end
section
variable {α : Type} [Inhabited α]
theorem nth_set (l : List α) {k : Nat} (h : k < l.length) (m : Nat) (v : α) : nth (l.set k v) (m : Int) = if m = k then v else nth l (m : Int) := by
 unfold nth
 rw [Int.toNat_natCast, List.getD_eq_getElem?_getD, List.getD_eq_getElem?_getD, List.getElem?_set]
 by_cases e : m = k
 ·subst e; rw [if_pos rfl, if_pos rfl, if_pos h]; rfl
 ·rw [if_neg (fun x => e x.symm), if_neg e]
def seg (l : List α) (i j : Nat) : List α := (l.drop i).take (j - i)
theorem seg_len (l : List α) (i j : Nat) (h : j ≤ l.length) : (seg l i j).length = j - i := by
 unfold seg; rw [List.length_take, List.length_drop]; omega
variable [DecidableEq α]
def pickL (o a b : List α) : Option (List α) := if a = o then some b else if b = o then some a else if a = b then some a else none
theorem pickL_mem {o a b r : List α} (h : pickL o a b = some r) : (∀ z ∈ r, z ∈ a ∨ z ∈ b) ∧ (∀ z ∈ a, z ∈ o ∨ z ∈ r) ∧ (∀ z ∈ b, z ∈ o ∨ z ∈ r) ∧ r.length ≤ a.length + b.length := by
 unfold pickL at h
 by_cases h1 : a = o
 ·rw [if_pos h1] at h; cases h; subst h1
  exact ⟨fun z hz => .inr hz, fun z hz => .inl hz, fun z hz => .inr hz, OM⟩
 ·rw [if_neg h1] at h
  by_cases h2 : b = o
  ·rw [if_pos h2] at h; cases h; subst h2
   exact ⟨fun z hz => .inl hz, fun z hz => .inr hz, fun z hz => .inl hz, OM⟩
  ·rw [if_neg h2] at h
   by_cases h3 : a = b
   ·rw [if_pos h3] at h; cases h; subst h3
    exact ⟨fun z hz => .inl hz, fun z hz => .inr hz, fun z hz => .inr hz, OM⟩
   ·rw [if_neg h3] at h; cases h
def mloop (o a b : List α) (f g : Nat → Option Nat) : Nat → Nat → Nat → Nat → Nat → Option (List α)
 | 0, _, i, j, k => pickL (o.drop i) (a.drop j) (b.drop k)
 | n + 1, at_, i, j, k => match f at_, g at_ with
  | some x, some y => (pickL (seg o i at_) (seg a j x) (seg b k y)).bind fun p => (mloop o a b f g n (at_ + 1) (at_ + 1) (x + 1) (y + 1)).map fun r => p ++ nth o (at_ : Int) :: r
  | _, _ => mloop o a b f g n (at_ + 1) i j k
theorem mloop_some {o a b : List α} {f g : Nat → Option Nat} {n t i j k x y : Nat} (hf : f t = some x) (hg : g t = some y) : mloop o a b f g (n + 1) t i j k = (pickL (seg o i t) (seg a j x) (seg b k y)).bind fun p => (mloop o a b f g n (t + 1) (t + 1) (x + 1) (y + 1)).map fun r => p ++ nth o (t : Int) :: r := by
 rw [mloop, hf, hg]
theorem mloop_none {o a b : List α} {f g : Nat → Option Nat} {n t i j k : Nat} (h : f t = none ∨ g t = none) : mloop o a b f g (n + 1) t i j k = mloop o a b f g n (t + 1) i j k := by
 rw [mloop]
 rcases h with h | h
 ·rw [h]
 ·rw [h]; cases f t <;> rfl
structure Mates (o a : List α) (f : Nat → Option Nat) : Prop where
 lt : ∀ {t x}, f t = some x → t < o.length ∧ x < a.length
 eq : ∀ {t x}, f t = some x → nth o (t : Int) = nth a (x : Int)
 mono : ∀ {t x u y}, f t = some x → f u = some y → t < u → x < y
def From (f : Nat → Option Nat) (t j : Nat) : Prop := ∀ u x, t ≤ u → f u = some x → j ≤ x
theorem From.zero (f : Nat → Option Nat) (t : Nat) : From f t 0 := fun _ _ _ _ => Nat.zero_le _
theorem From.skip {f : Nat → Option Nat} {t j : Nat} (h : From f t j) : From f (t + 1) j := fun u x hu hx => h u x OM hx
theorem From.step {o a : List α} {f : Nat → Option Nat} (m : Mates o a f) {t x : Nat} (h : f t = some x) : From f (t + 1) (x + 1) := fun u y hu hy => m.mono h hy OM
end
end
def few (a b : List Pt) : Bool := decide (a.length ≤ 12) && decide (b.length ≤ 12)
def Tab (a b : List Pt) (D : Nat → Nat → Prop) (t : List (List Int)) : Prop := t.length = a.length + 1 ∧ ∀ r : Nat, r ≤ a.length → (nth t (r : Int)).length = b.length + 1 ∧ ∀ m : Nat, m ≤ b.length → D r m → nth (nth t (r : Int)) (m : Int) = (lcs (a.drop r) (b.drop m) : Nat)
theorem Tab.set {a b : List Pt} {D : Nat → Nat → Prop} {t : List (List Int)} (h : Tab a b D t) {i j : Nat} (hi : i ≤ a.length) (hj : j ≤ b.length) {v : Int} (hv : v = (lcs (a.drop i) (b.drop j) : Nat)) {D' : Nat → Nat → Prop} (hD : ∀ r m, D' r m → D r m ∨ (r = i ∧ m = j)) :
  Tab a b D' (t.set i ((nth t (i : Int)).set j v)) := by
 obtain ⟨h1, h2⟩ := h
 refine ⟨by rw [List.length_set]; exact h1, fun r hr => ?_⟩
 rw [nth_set _ OM]
 by_cases e : r = i
 ·subst e
  rw [if_pos rfl]
  refine ⟨by rw [List.length_set]; exact (h2 r hr).1, fun m hm hd => ?_⟩
  rw [nth_set _ (by rw [(h2 r hr).1]; omega)]
  by_cases f : m = j
  ·subst f; rw [if_pos rfl, hv]
  ·rw [if_neg f]
   exact (h2 r hr).2 m hm ((hD r m hd).resolve_right fun x => f x.2)
 ·rw [if_neg e]
  exact ⟨(h2 r hr).1, fun m hm hd => (h2 r hr).2 m hm ((hD r m hd).resolve_right fun x => e x.1)⟩
def mateN (l : List (Nat × Nat)) (k : Nat) : Option Nat := match l with
 | [] => none
 | p :: l => if p.1 = k then some p.2 else mateN l k
theorem mateN_mem {l : List (Nat × Nat)} {k x : Nat} (h : mateN l k = some x) : (k, x) ∈ l := by
 induction l with
 | nil => cases h
 | cons p l ih =>
  rw [mateN] at h
  by_cases e : p.1 = k
  ·rw [if_pos e] at h; cases h; subst e; exact List.mem_cons_self
  ·rw [if_neg e] at h; exact List.mem_cons_of_mem _ (ih h)
def part (o a : List Pt) : Nat → Option Nat := mateN (pairs 0 0 o a)
theorem part_mates (o a : List Pt) : Mates o a (part o a) := by
 have hm : ∀ {t x}, part o a t = some x → ∃ z, o[t]? = some z ∧ a[x]? = some z := fun {t x} h => by
  obtain ⟨k, l, e, z, h1, h2⟩ := pairs_mem 0 0 o a _ (mateN_mem h)
  rw [Nat.zero_add, Nat.zero_add] at e; cases e
  exact ⟨z, h1, h2⟩
 refine ⟨fun {t x} h => ?_, fun {t x} h => ?_, fun {t x u y} h1 h2 hu => ?_⟩
 ·obtain ⟨z, h1, h2⟩ := hm h
  exact ⟨(List.getElem?_eq_some_iff.1 h1).1, (List.getElem?_eq_some_iff.1 h2).1⟩
 ·obtain ⟨z, h1, h2⟩ := hm h
  obtain ⟨e1, e2⟩ := List.getElem?_eq_some_iff.1 h1
  obtain ⟨e3, e4⟩ := List.getElem?_eq_some_iff.1 h2
  rw [nth_nat _ e1, nth_nat _ e3, e2, e4]
 ·have ho := pairs_ord 0 0 o a
  have m1 := mateN_mem h1; have m2 := mateN_mem h2
  generalize pairs 0 0 o a = l at ho m1 m2
  induction l with
  | nil => cases m1
  | cons p l ih =>
   obtain ⟨q1, q2⟩ := List.pairwise_cons.1 ho
   rcases List.mem_cons.1 m1 with e1 | n1
   ·rcases List.mem_cons.1 m2 with e2 | n2
    ·subst e1; cases e2; omega
    ·subst e1; exact (q1 _ n2).2
   ·rcases List.mem_cons.1 m2 with e2 | n2
    ·subst e2; have := (q1 _ n1).1; dsimp only at this; omega
    ·exact ih q2 n1 n2
def smerge (o a b : List Pt) : Option (List Pt) := if few o a && few o b then mloop o a b (part o a) (part o b) o.length 0 0 0 0 else none
theorem smerge_few {o a b : List Pt} (h1 : few o a = true) (h2 : few o b = true) : smerge o a b = mloop o a b (part o a) (part o b) o.length 0 0 0 0 := by unfold smerge; rw [h1, h2]; rfl
def allN (n : Nat) (c : Nat → Bool) : Bool := (List.range n).all c
theorem allN_true {n : Nat} {c : Nat → Bool} (h : ∀ j, j < n → c j = true) : allN n c = true := by
 unfold allN; rw [List.all_eq_true]; intro j hj; exact h j (List.mem_range.1 hj)
theorem allN_false {n k : Nat} {c : Nat → Bool} (hk : k < n) (h : c k = false) : allN n c = false := by
 unfold allN
 rw [Bool.eq_false_iff]; intro ha
 rw [List.all_eq_true] at ha
 rw [ha k (List.mem_range.2 hk)] at h; cases h
theorem allN_iff {n : Nat} {c : Nat → Bool} : allN n c = true ↔ ∀ j, j < n → c j = true := by
 unfold allN; rw [List.all_eq_true]; exact ⟨fun h j hj => h j (List.mem_range.2 hj), fun h j hj => h j (List.mem_range.1 hj)⟩
theorem loop_all (n : Nat) (c : Nat → Bool) {B : (Int → Prop) → (Int → Nat) → Int → Prop} {F : Prop}
  (hs : ∀ (I : Int → Prop) (mu : Int → Nat) (k : Nat), k < n → (∀ j, j < k → c j = true) → (c k = true → I ((k : Int) + 1) ∧ mu ((k : Int) + 1) < mu (k : Int)) → B I mu (k : Int))
  (hF : (∀ j, j < n → c j = true) → F) :
  ∃ (I : Int → Prop) (mu : Int → Nat), I 0 ∧ ∀ (i : Int), I i → (if decide (i < (n : Int)) then B I mu i else F) := by
 refine ⟨fun i => ∃ k : Nat, i = k ∧ k ≤ n ∧ ∀ j, j < k → c j = true, fun i => ((n : Int) - i).toNat, ⟨0, rfl, Nat.zero_le _, fun j hj => absurd hj (Nat.not_lt_zero _)⟩, ?_⟩
 rintro _ ⟨k, rfl, hk, ha⟩
 by_cases h : (k : Int) < (n : Int)
 ·rw [if_pos (by simpa using h)]
  refine hs _ _ k OM ha fun hc => ⟨⟨k + 1, OM, OM, fun j hj => ?_⟩, OM⟩
  by_cases e : j = k
  ·subst e; exact hc
  ·exact ha j OM
 ·rw [if_neg (by simpa using h)]
  exact hF fun j hj => ha j OM
theorem less_irr : ∀ a : Str, Op.bytesLess a a = false
 | [] => rfl
 | x :: a => by rw [Op.bytesLess]; simp [less_irr a]
theorem less_tri : ∀ a b : Str, (!(Op.bytesLess a b)) = (Op.bytesLess b a || b == a)
 | [], [] => rfl
 | [], y :: b => rfl
 | x :: a, [] => rfl
 | x :: a, y :: b => by
  rw [Op.bytesLess, Op.bytesLess]
  have h := less_tri a b
  by_cases h1 : x < y
  ·have h2 : ¬ y < x := fun h => absurd (UInt8.lt_trans h1 h) (UInt8.lt_irrefl _)
   have h3 : ¬ y = x := fun e => by subst e; exact UInt8.lt_irrefl _ h1
   simp [h1, h2, h3]
  ·by_cases h2 : y < x
   ·have h3 : ¬ x = y := fun e => by subst e; exact UInt8.lt_irrefl _ h2
    simp [h1, h2, h3]
   ·have h3 : x = y := UInt8.le_antisymm (UInt8.not_lt.1 h2) (UInt8.not_lt.1 h1)
    subst h3
    simp only [h1, decide_false, Bool.false_or, beq_self_eq_true, Bool.true_and]
    rw [h]
    congr 1
    rw [Bool.eq_iff_iff, beq_iff_eq, beq_iff_eq]
    simp
def byteOk (b : UInt8) : Bool := !(decide ((b.toNat : Int) < 97)) && !(decide ((b.toNat : Int) > 122))
def wordOk (s : Str) : Bool := allN s.length (fun k => byteOk (nth s (k : Int))) && (decide (1 ≤ s.length) && decide (s.length ≤ 6))
def inR (x : Int) : Bool := decide (-1000 ≤ x) && decide (x ≤ 1000)
def ptOk (p : Pt) : Bool := inR p.X && inR p.Y
def ptsOk (p : List Pt) : Bool := allN p.length fun k => ptOk (nth p (k : Int)) && (decide (k = 0) || !(decide (nth p ((k : Int) - 1) = nth p (k : Int))))
def kindOk (kind : Int) (p : List Pt) : Bool :=
 if kind = 1 then decide (p.length = 1) else if kind = 2 then decide (2 ≤ p.length) && decide (p.length ≤ 6)
 else if kind = 3 then decide (3 ≤ p.length) && decide (p.length ≤ 6) && !(decide (nth p 0 = nth p ((p.length : Int) - 1))) else false
def shapeOk (s : Shape) : Bool := ptsOk s.Pts && kindOk s.Kind s.Pts
def tagsOk (t : List Tag) : Bool := allN t.length fun k => wordOk (nth t (k : Int)).Key && wordOk (nth t (k : Int)).Val && (decide (k = 0) || Op.bytesLess (nth t ((k : Int) - 1)).Key (nth t (k : Int)).Key)
def featOk (f : Feat) : Bool := tagsOk f.Tags && decide (f.Tags.length ≤ 4) && wordOk f.Id && shapeOk f.Shape
def noF (f : Feat) : Bool := decide (f = ⟨[], ⟨0, []⟩, []⟩)
def sideOk (id : Str) (has : Bool) (f : Feat) : Bool := if has then featOk f && decide (f.Id = id) else noF f
def sameC (c : Change) : Bool := decide (c.Had = c.Has) && decide (c.Was = c.Now)
def changeOk (c : Change) : Bool := wordOk c.Id && sideOk c.Id c.Had c.Was && sideOk c.Id c.Has c.Now && !(sameC c)
def diffOk (d : List Change) : Bool := allN d.length (fun k => changeOk (nth d (k : Int)) && (decide (k = 0) || Op.bytesLess (nth d ((k : Int) - 1)).Id (nth d (k : Int)).Id)) && decide (d.length ≤ 16)
def sheetOk (s : List Feat) : Bool := allN s.length (fun k => featOk (nth s (k : Int)) && (decide (k = 0) || Op.bytesLess (nth s ((k : Int) - 1)).Id (nth s (k : Int)).Id)) && decide (s.length ≤ 8)
theorem Feat.ext_iff' (a b : Feat) : a = b ↔ a.Id = b.Id ∧ a.Shape = b.Shape ∧ a.Tags = b.Tags := by cases a; cases b; simp
theorem Shape.ext_iff' (a b : Shape) : a = b ↔ a.Kind = b.Kind ∧ a.Pts = b.Pts := by cases a; cases b; simp
section
def findN (n : Nat) (c : Nat → Bool) : Int := match (List.range n).find? c with | some k => (k : Int) | none => -1
theorem findN_hit {n k : Nat} {c : Nat → Bool} (hk : k < n) (h : c k = true) (hp : ∀ j, j < k → c j = false) : findN n c = (k : Int) := by
 unfold findN
 have : (List.range n).find? c = some k := by
  rw [List.find?_range_eq_some]
  exact ⟨h, List.mem_range.2 hk, fun j hj => by rw [hp j hj]; rfl⟩
 rw [this]
theorem findN_none {n : Nat} {c : Nat → Bool} (h : ∀ j, j < n → c j = false) : findN n c = -1 := by
 unfold findN
 have : (List.range n).find? c = none := by
  rw [List.find?_eq_none]; intro j hj; rw [h j (List.mem_range.1 hj)]; exact Bool.false_ne_true
 rw [this]
theorem findN_le (n : Nat) (c : Nat → Bool) : -1 ≤ findN n c ∧ findN n c < n := by
 unfold findN
 cases h : (List.range n).find? c with
 | none => exact ⟨Int.le_refl _, by dsimp only; omega⟩
 | some k => have := List.mem_range.1 (List.mem_of_find?_eq_some h); exact ⟨by dsimp only; omega, by dsimp only; omega⟩
theorem loop_find (n : Nat) (c : Nat → Bool) {B : (Int → Prop) → (Int → Nat) → Int → Prop} {Q : Int → Prop} (hq : Q (findN n c))
  (hs : ∀ (I : Int → Prop) (mu : Int → Nat) (k : Nat), k < n → (c k = true → Q (k : Int)) → (c k = false → I ((k : Int) + 1) ∧ mu ((k : Int) + 1) < mu (k : Int)) → B I mu (k : Int)) :
  ∃ (I : Int → Prop) (mu : Int → Nat), I 0 ∧ ∀ (i : Int), I i → (if decide (i < (n : Int)) then B I mu i else Q (-1)) := by
 refine loop_all n (fun k => !(c k)) (fun I mu k hk hp hn => hs I mu k hk (fun h => ?_) (fun h => hn (by rw [h]; rfl))) (fun ha => ?_)
 ·rw [findN_hit hk h (fun j hj => by have := hp j hj; rwa [Bool.not_eq_true'] at this)] at hq; exact hq
 ·rw [findN_none (fun j hj => by have := ha j hj; rwa [Bool.not_eq_true'] at this)] at hq; exact hq
section
variable {α : Type} [Inhabited α] [DecidableEq α]
end
end
section
theorem less_trans : ∀ {a b c : Str}, Op.bytesLess a b = true → Op.bytesLess b c = true → Op.bytesLess a c = true
 | _, _, [], _, h => by rename_i b _; cases b <;> simp [Op.bytesLess] at h
 | _, [], _ :: _, h, _ => by rename_i a _ _ _; cases a <;> simp [Op.bytesLess] at h
 | [], _ :: _, _ :: _, _, _ => by simp [Op.bytesLess]
 | x :: a, y :: b, z :: c, h1, h2 => by
  rw [Op.bytesLess] at h1 h2 ⊢
  simp only [Bool.or_eq_true, Bool.and_eq_true, decide_eq_true_eq, beq_iff_eq] at h1 h2 ⊢
  rcases h1 with h1 | ⟨rfl, h1⟩
  ·rcases h2 with h2 | ⟨rfl, h2⟩
   ·exact .inl (UInt8.lt_trans h1 h2)
   ·exact .inl h1
  ·rcases h2 with h2 | ⟨rfl, h2⟩
   ·exact .inl h2
   ·exact .inr ⟨rfl, less_trans h1 h2⟩
theorem less_asym {a b : Str} (h : Op.bytesLess a b = true) : Op.bytesLess b a = false := by
 cases e : Op.bytesLess b a with
 | false => rfl
 | true => have := less_trans h e; rw [less_irr] at this; cases this
theorem less_or {a b : Str} (h : Op.bytesLess a b = false) : Op.bytesLess b a = true ∨ b = a := by
 have := less_tri a b
 rw [h] at this
 simpa using this.symm
def SS (l : List Str) : Prop := l.Pairwise fun x y => Op.bytesLess x y = true
theorem SS.ext : ∀ {l m : List Str}, SS l → SS m → (∀ x, x ∈ l ↔ x ∈ m) → l = m
 | [], [], _, _, _ => rfl
 | [], y :: m, _, _, h => by have := (h y).2 List.mem_cons_self; cases this
 | x :: l, [], _, _, h => by have := (h x).1 List.mem_cons_self; cases this
 | x :: l, y :: m, hl, hm, h => by
  obtain ⟨l1, l2⟩ := List.pairwise_cons.1 hl
  obtain ⟨m1, m2⟩ := List.pairwise_cons.1 hm
  have e : x = y := by
   rcases List.mem_cons.1 ((h x).1 List.mem_cons_self) with e | e
   ·exact e
   ·rcases List.mem_cons.1 ((h y).2 List.mem_cons_self) with e' | e'
    ·exact e'.symm
    ·have := less_trans (m1 x e) (l1 y e'); rw [less_irr] at this; cases this
  subst e
  rw [SS.ext l2 m2 fun z => ⟨fun hz => ?_, fun hz => ?_⟩]
  ·rcases List.mem_cons.1 ((h z).1 (List.mem_cons_of_mem _ hz)) with e | e
   ·subst e; have := l1 z hz; rw [less_irr] at this; cases this
   ·exact e
  ·rcases List.mem_cons.1 ((h z).2 (List.mem_cons_of_mem _ hz)) with e | e
   ·subst e; have := m1 z hz; rw [less_irr] at this; cases this
   ·exact e
theorem le_less (x y : Str) : decide (x ≤ y) = !(Op.bytesLess y x) := by
 rw [bytesLess_eq]
 by_cases h : y < x
 ·rw [decide_eq_true h, decide_eq_false (by rw [List.not_le]; exact h)]; rfl
 ·rw [decide_eq_false h, decide_eq_true (List.not_lt.1 h)]; rfl
theorem sortS_le (l : List Str) : (sortS l).Pairwise fun x y => Op.bytesLess y x = false := by
 have h := List.pairwise_mergeSort (le := fun x y : Str => decide (x ≤ y)) (fun a b c h1 h2 => by
  rw [le_less, Bool.not_eq_true'] at h1 h2 ⊢
  cases e : Op.bytesLess c a with
  | false => rfl
  | true =>
   rcases less_or h1 with h3 | h3
   ·have := less_trans e h3; rw [h2] at this; cases this
   ·subst h3; rw [h2] at e; cases e) (fun a b => by
  rw [le_less, le_less]
  cases e : Op.bytesLess b a with
  | false => rfl
  | true => rw [less_asym e]; rfl) l
 exact h.imp fun {x y} h => by rw [le_less, Bool.not_eq_true'] at h; exact h
theorem sortS_mem {l : List Str} {x : Str} : x ∈ sortS l ↔ x ∈ l := List.mem_mergeSort
section
open Go.Lib
theorem compact_of (l : List Str) (h : l.Pairwise fun x y => Op.bytesLess y x = false) : SS (compact l) ∧ ∀ x, x ∈ compact l ↔ x ∈ l := by
 have hle : ∀ i j, i ≤ j → j < l.length → Op.bytesLess (l.toArray[j]!) (l.toArray[i]!) = false := fun i j hij hj => by
  have hi : i < l.length := by omega
  simp only [List.getElem!_toArray, getElem!_pos l i hi, getElem!_pos l j hj]
  rcases Nat.lt_or_eq_of_le hij with hlt | rfl
  ·exact List.pairwise_iff_getElem.1 h i j hi hj hlt
  ·exact less_irr _
 constructor
 ·unfold compact compactUpTo SS
  rw [List.pairwise_map, List.pairwise_filter]
  refine List.pairwise_iff_getElem.2 fun i j hi hj hij => ?_
  simp only [List.length_range] at hi hj
  simp only [List.getElem_range]
  intro _ hk
  have hj0 : 0 < j := by omega
  have hne : l.toArray[j]! ≠ l.toArray[j - 1]! := fun e => by rw [keeps_neg hj0 e] at hk; cases hk
  have h1 : Op.bytesLess (l.toArray[j - 1]!) (l.toArray[j]!) = true := by
   rcases less_or (hle (j - 1) j OM hj) with h2 | h2
   ·exact h2
   ·exact absurd h2.symm hne
  rcases less_or (hle i (j - 1) OM OM) with h3 | h3
  ·exact less_trans h3 h1
  ·rw [h3]; exact h1
 ·intro x
  constructor
  ·exact compact_mem
  ·intro hx
   obtain ⟨k, hk, rfl⟩ := List.getElem_of_mem hx
   have key : ∀ k, k < l.length → l.toArray[k]! ∈ compact l := by
    intro k
    induction k using Nat.strongRecOn with
    | _ k ih =>
     intro hk
     cases e : keeps l.toArray k with
     | true =>
      unfold compact compactUpTo
      exact List.mem_map.2 ⟨k, List.mem_filter.2 ⟨List.mem_range.2 hk, e⟩, rfl⟩
     | false =>
      have hk0 : 0 < k := by
       rcases Nat.eq_zero_or_pos k with h0 | h0
       ·subst h0; rw [keeps_lt_one _ 0 OM] at e; cases e
       ·exact h0
      have he : l.toArray[k]! = l.toArray[k - 1]! := Classical.byContradiction fun hne => by rw [keeps_pos hne] at e; cases e
      rw [he]; exact ih (k - 1) OM OM
   have := key k hk
   simpa [getElem!_pos l k hk] using this
end
def uniq (l : List Str) : List Str := Lib.compact (sortS l)
theorem uniq_ss (l : List Str) : SS (uniq l) := (compact_of _ (sortS_le l)).1
theorem uniq_mem {l : List Str} {x : Str} : x ∈ uniq l ↔ x ∈ l := ((compact_of _ (sortS_le l)).2 x).trans sortS_mem
def ids (s : List Feat) : List Str := s.map (·.Id)
theorem ids_app (s t : List Feat) : ids (s ++ t) = ids s ++ ids t := List.map_append
theorem sheet_ss {s : List Feat} (h : sheetOk s = true) : SS (ids s) ∧ s.length ≤ 8 ∧ ∀ f ∈ s, featOk f = true := by
 unfold sheetOk at h
 simp only [Bool.and_eq_true, decide_eq_true_eq] at h
 obtain ⟨h1, h2⟩ := h
 have h1 := allN_iff.1 h1
 have hadj : ∀ k, 0 < k → k < s.length → Op.bytesLess (nth s ((k : Int) - 1)).Id (nth s (k : Int)).Id = true := fun k h0 hk => by
  have := h1 k hk
  simp only [Bool.and_eq_true, Bool.or_eq_true, decide_eq_true_eq] at this
  rcases this.2 with h | h
  ·omega
  ·exact h
 refine ⟨?_, h2, fun f hf => ?_⟩
 ·unfold SS ids
  rw [List.pairwise_map]
  refine List.pairwise_iff_getElem.2 fun i j hi hj hij => ?_
  have key : ∀ d, i + d + 1 < s.length → Op.bytesLess s[i].Id (nth s ((i + d + 1 : Nat) : Int)).Id = true := by
   intro d
   induction d with
   | zero =>
    intro hd
    have := hadj (i + 0 + 1) OM hd
    rw [show (((i + 0 + 1 : Nat) : Int) - 1) = (i : Int) by omega, nth_nat s hi] at this
    exact this
   | succ d ih =>
    intro hd
    have := hadj (i + (d + 1) + 1) OM hd
    rw [show (((i + (d + 1) + 1 : Nat) : Int) - 1) = ((i + d + 1 : Nat) : Int) by omega] at this
    exact less_trans (ih OM) this
  have := key (j - i - 1) OM
  rw [show i + (j - i - 1) + 1 = j by omega, nth_nat s hj] at this
  exact this
 ·obtain ⟨k, hk, rfl⟩ := List.getElem_of_mem hf
  have := h1 k hk
  rw [nth_nat s hk] at this
  simp only [Bool.and_eq_true] at this
  exact this.1
theorem word_len {s : Str} (h : wordOk s = true) : s.length ≤ 6 := by
 unfold wordOk at h
 simp only [Bool.and_eq_true, decide_eq_true_eq] at h
 exact h.2.2
theorem bulk_small {α : Type} [Bulk α] (l : List α) (m : Nat) (h : ∀ x ∈ l, bulk x ≤ m) : bulk l ≤ l.length * (m + 1) := by
 induction l with
 | nil => exact Nat.zero_le _
 | cons x l ih =>
  have h1 := h x List.mem_cons_self
  have h2 := ih fun y hy => h y (List.mem_cons_of_mem _ hy)
  rw [bulk_cons, List.length_cons, Nat.add_mul]
  omega
theorem feat_small {f : Feat} (h : featOk f = true) : bulk f ≤ 100 ∧ f.Id.length ≤ 6 := by
 unfold featOk at h
 simp only [Bool.and_eq_true, decide_eq_true_eq] at h
 obtain ⟨⟨⟨h1, h2⟩, h3⟩, h4⟩ := h
 have hi := word_len h3
 have e1 : bulk f = bulk f.Id + (bulk f.Shape.Kind + bulk f.Shape.Pts) + bulk f.Tags := rfl
 have e2 : bulk f.Id = f.Id.length := bulk_str _
 have e3 : bulk f.Shape.Kind = 0 := rfl
 have e4 : bulk f.Shape.Pts = f.Shape.Pts.length := bulk_flat (fun _ => rfl) _
 have ht : bulk f.Tags ≤ f.Tags.length * (12 + 1) := bulk_small _ 12 fun t hm => by
  unfold tagsOk at h1
  obtain ⟨k, hk, rfl⟩ := List.getElem_of_mem hm
  have := allN_iff.1 h1 k hk
  rw [nth_nat _ hk] at this
  simp only [Bool.and_eq_true] at this
  have a1 := word_len this.1.1
  have a2 := word_len this.1.2
  have b0 : bulk f.Tags[k] = bulk f.Tags[k].Key + bulk f.Tags[k].Val := rfl
  have b1 : bulk f.Tags[k].Key = f.Tags[k].Key.length := bulk_str _
  have b2 : bulk f.Tags[k].Val = f.Tags[k].Val.length := bulk_str _
  omega
 have hp : f.Shape.Pts.length ≤ 6 := by
  unfold shapeOk kindOk at h4
  simp only [Bool.and_eq_true] at h4
  have := h4.2
  split at this
  ·simp only [decide_eq_true_eq] at this; omega
  ·split at this
   ·simp only [Bool.and_eq_true, decide_eq_true_eq] at this; omega
   ·split at this
    ·simp only [Bool.and_eq_true, decide_eq_true_eq] at this; omega
    ·cases this
 have : f.Tags.length * (12 + 1) ≤ 52 := by omega
 omega
def zeroF : Feat := ⟨[], ⟨0, []⟩, []⟩
def sideOf (s : List Feat) (id : Str) : Feat × Bool :=
 if findN s.length (fun j => (nth s (j : Int)).Id == id) < 0 then (zeroF, false) else (nth s (findN s.length fun j => (nth s (j : Int)).Id == id), true)
def diffC (a b : List Feat) (id : Str) : Change := ⟨id, (sideOf a id).2, (sideOf a id).1, (sideOf b id).2, (sideOf b id).1⟩
def diffL (a b : List Feat) (l : List Str) : List Change := (l.map (diffC a b)).filter fun c => !(sameC c)
theorem diffL_snoc (a b : List Feat) (l : List Str) (x : Str) : diffL a b (l ++ [x]) = diffL a b l ++ (if sameC (diffC a b x) then [] else [diffC a b x]) := by
 unfold diffL
 rw [List.map_append, List.filter_append]
 congr 1
 cases h : sameC (diffC a b x) <;> simp [h]
theorem uniq_len (l : List Str) : (uniq l).length ≤ l.length := by
 unfold uniq
 have := compact_le (sortS l)
 have h2 : (sortS l).length = l.length := List.length_mergeSort _
 omega
theorem diffL_len (a b : List Feat) (l : List Str) : (diffL a b l).length ≤ l.length := by
 unfold diffL
 exact Nat.le_trans (List.length_filter_le _ _) (by rw [List.length_map]; exact Nat.le_refl _)
end
structure MInv (o a b : List Pt) (xs : List Pt) (i j k t : Nat) : Prop where
 hi : i ≤ t
 ht : t ≤ o.length
 hj : j ≤ a.length
 hk : k ≤ b.length
 fj : From (part o a) t j
 fk : From (part o b) t k
 len : xs.length ≤ j + k
 eq : (mloop o a b (part o a) (part o b) (o.length - t) t i j k).map (xs ++ ·) = smerge o a b
theorem MInv.zero {o a b : List Pt} (h1 : few o a = true) (h2 : few o b = true) : MInv o a b [] 0 0 0 0 :=
 ⟨Nat.le_refl _, Nat.zero_le _, Nat.zero_le _, Nat.zero_le _, From.zero _ _, From.zero _ _, Nat.le_refl _, by rw [smerge_few h1 h2, Nat.sub_zero]; cases mloop o a b (part o a) (part o b) o.length 0 0 0 0 <;> rfl⟩
theorem MInv.skip {o a b xs : List Pt} {i j k t : Nat} (h : MInv o a b xs i j k t) (ht : t < o.length) (hn : part o a t = none ∨ part o b t = none) : MInv o a b xs i j k (t + 1) :=
 ⟨by have := h.hi; omega, ht, h.hj, h.hk, h.fj.skip, h.fk.skip, h.len, by
  have := h.eq
  rw [show o.length - t = (o.length - (t + 1)) + 1 by omega, mloop_none hn] at this
  exact this⟩
theorem MInv.step {o a b xs : List Pt} {i j k t x y : Nat} (h : MInv o a b xs i j k t) (ht : t < o.length) (hx : part o a t = some x) (hy : part o b t = some y) {p : List Pt} (hp : pickL (seg o i t) (seg a j x) (seg b k y) = some p) : MInv o a b (xs ++ p ++ [nth o (t : Int)]) (t + 1) (x + 1) (y + 1) (t + 1) := by
 have h1 := (part_mates o a).lt hx
 have h2 := (part_mates o b).lt hy
 refine ⟨Nat.le_refl _, ht, h1.2, h2.2, .step (part_mates o a) hx, .step (part_mates o b) hy, ?_, ?_⟩
 ·have := (pickL_mem hp).2.2.2
  rw [seg_len a _ _ OM, seg_len b _ _ OM] at this
  have h3 := h.fj t x (Nat.le_refl _) hx
  have h4 := h.fk t y (Nat.le_refl _) hy
  have h5 := h.len
  simp only [List.length_append, List.length_singleton]; omega
 ·have := h.eq
  rw [show o.length - t = (o.length - (t + 1)) + 1 by omega, mloop_some hx hy, hp, Option.bind_some, Option.map_map] at this
  rw [← this]
  congr 1
  funext r
  simp
theorem MInv.from {o a b xs : List Pt} {i j k t x y : Nat} (h : MInv o a b xs i j k t) (hx : part o a t = some x) (hy : part o b t = some y) : j ≤ x ∧ x < a.length ∧ k ≤ y ∧ y < b.length :=
 ⟨h.fj t x (Nat.le_refl _) hx, ((part_mates o a).lt hx).2, h.fk t y (Nat.le_refl _) hy, ((part_mates o b).lt hy).2⟩
def keysT (t : List Tag) : List Str := t.map (·.Key)
theorem keys_app (s t : List Tag) : keysT (s ++ t) = keysT s ++ keysT t := List.map_append
theorem feat_facts {f : Feat} (h : featOk f = true) : f.Tags.length ≤ 4 ∧ shapeOk f.Shape = true ∧ f.Shape.Pts.length ≤ 6 ∧ f.Id.length ≤ 6 ∧ ∀ t ∈ f.Tags, t.Key.length ≤ 6 ∧ t.Val.length ≤ 6 := by
 have hb := (feat_small h).2
 unfold featOk at h
 simp only [Bool.and_eq_true, decide_eq_true_eq] at h
 obtain ⟨⟨⟨h1, h2⟩, h3⟩, h4⟩ := h
 refine ⟨h2, h4, ?_, hb, fun t hm => ?_⟩
 ·unfold shapeOk kindOk at h4
  simp only [Bool.and_eq_true] at h4
  have := h4.2
  split at this
  ·simp only [decide_eq_true_eq] at this; omega
  ·split at this
   ·simp only [Bool.and_eq_true, decide_eq_true_eq] at this; omega
   ·split at this
    ·simp only [Bool.and_eq_true, decide_eq_true_eq] at this; omega
    ·cases this
 ·unfold tagsOk at h1
  obtain ⟨k, hk, rfl⟩ := List.getElem_of_mem hm
  have := allN_iff.1 h1 k hk
  rw [nth_nat _ hk] at this
  simp only [Bool.and_eq_true] at this
  exact ⟨word_len this.1.1, word_len this.1.2⟩
theorem shape_pts {s : Shape} (h : shapeOk s = true) : s.Pts.length ≤ 6 := by
 unfold shapeOk kindOk at h
 simp only [Bool.and_eq_true] at h
 have := h.2
 split at this
 ·simp only [decide_eq_true_eq] at this; omega
 ·split at this
  ·simp only [Bool.and_eq_true, decide_eq_true_eq] at this; omega
  ·split at this
   ·simp only [Bool.and_eq_true, decide_eq_true_eq] at this; omega
   ·cases this
def ptT (p : Pt) : Str := [32] ++ Lib.itoa p.X ++ [44] ++ Lib.itoa p.Y
def shT (s : Shape) : Str := nth shapeNamesL s.Kind ++ s.Pts.flatMap ptT
def tagT (t : Tag) : Str := [32] ++ t.Key ++ [61] ++ t.Val
def featT (f : Feat) : Str := if featOk f then f.Id ++ [32] ++ shT f.Shape ++ f.Tags.flatMap tagT else []
def sideT (has : Bool) (f : Feat) : Str := if has then featT f else [45]
def lineT (c : Change) : Str := c.Id ++ [58, 32] ++ sideT c.Had c.Was ++ [32, 62, 32] ++ sideT c.Has c.Now ++ [10]
def diffT (d : List Change) : Str := if diffOk d then d.flatMap lineT else []
theorem loop_text {α : Type} [Inhabited α] (l : List α) (g : α → Str) (t0 : Str) (m M : Nat) (hm : ∀ x ∈ l, (g x).length ≤ m) (hM : t0.length + l.length * m ≤ M)
  {B : (Str → Int → Prop) → (Str → Int → Nat) → Str → Int → Prop} {F : Str → Prop}
  (hs : ∀ (I : Str → Int → Prop) (mu : Str → Int → Nat) (k : Nat) (out : Str), k < l.length → nth l (k : Int) ∈ l → out.length ≤ M →
   (∀ X, X = out ++ g (nth l (k : Int)) → I X ((k : Int) + 1) ∧ mu X ((k : Int) + 1) < mu out (k : Int)) → B I mu out (k : Int))
  (hF : F (t0 ++ l.flatMap g)) :
  ∃ (I : Str → Int → Prop) (mu : Str → Int → Nat), I t0 0 ∧ ∀ (out : Str) (i : Int), I out i → (if decide (i < (l.length : Int)) then B I mu out i else F out) := by
 have len : ∀ k, k ≤ l.length → (t0 ++ (l.take k).flatMap g).length ≤ M := fun k hk => by
  have : ∀ n : List α, (∀ x ∈ n, (g x).length ≤ m) → (n.flatMap g).length ≤ n.length * m := fun n => by
   induction n with
   | nil => intro _; simp
   | cons a n ih =>
    intro h
    rw [List.flatMap_cons, List.length_append, List.length_cons, Nat.add_mul]
    have h1 := h a (List.mem_cons_self ..)
    have h2 := ih fun x hx => h x (List.mem_cons_of_mem _ hx)
    omega
  have h1 := this (l.take k) fun x hx => hm x (List.mem_of_mem_take hx)
  have h2 : (l.take k).length * m ≤ l.length * m := Nat.mul_le_mul_right _ (by rw [List.length_take]; omega)
  rw [List.length_append]; omega
 refine ⟨fun out i => ∃ k : Nat, i = k ∧ k ≤ l.length ∧ out = t0 ++ (l.take k).flatMap g, fun _ i => ((l.length : Int) - i).toNat, ⟨0, rfl, Nat.zero_le _, by simp⟩, ?_⟩
 rintro _ _ ⟨k, rfl, hk, rfl⟩
 by_cases h : (k : Int) < (l.length : Int)
 ·rw [if_pos (by simpa using h)]
  refine hs _ _ k _ OM (nth_mem l OM) (len k hk) fun X hX => ⟨⟨k + 1, OM, OM, ?_⟩, OM⟩
  rw [hX, take_nth l OM, List.flatMap_append, List.flatMap_cons, List.flatMap_nil, List.append_nil, List.append_assoc]
 ·rw [if_neg (by simpa using h)]
  have : k = l.length := by omega
  subst this
  rw [List.take_length]; exact hF
theorem flatT_len {α : Type} (l : List α) (g : α → Str) (m : Nat) (hm : ∀ x ∈ l, (g x).length ≤ m) : (l.flatMap g).length ≤ l.length * m := by
 induction l with
 | nil => simp
 | cons a n ih =>
  rw [List.flatMap_cons, List.length_append, List.length_cons, Nat.add_mul]
  have h1 := hm a (List.mem_cons_self ..)
  have h2 := ih fun x hx => hm x (List.mem_cons_of_mem _ hx)
  omega
theorem shape_in {s : Shape} (h : shapeOk s = true) : (1 ≤ s.Kind ∧ s.Kind ≤ 3) ∧ s.Pts.length ≤ 6 ∧ ∀ p ∈ s.Pts, (-1000 ≤ p.X ∧ p.X ≤ 1000) ∧ -1000 ≤ p.Y ∧ p.Y ≤ 1000 := by
 have hp := shape_pts h
 unfold shapeOk at h
 rw [Bool.and_eq_true] at h
 refine ⟨?_, hp, fun p hm => ?_⟩
 ·have h2 := h.2
  unfold kindOk at h2
  by_cases k1 : s.Kind = 1
  ·omega
  ·rw [if_neg k1] at h2
   by_cases k2 : s.Kind = 2
   ·omega
   ·rw [if_neg k2] at h2
    by_cases k3 : s.Kind = 3
    ·omega
    ·rw [if_neg k3] at h2; cases h2
 ·obtain ⟨i, hi, rfl⟩ := List.mem_iff_getElem.1 hm
  have h1 := allN_iff.1 h.1 i hi
  rw [Bool.and_eq_true] at h1
  have h3 := h1.1
  have e : nth s.Pts (i : Int) = s.Pts[i] := by unfold nth; simp [hi]
  rw [e] at h3
  unfold ptOk inR at h3
  simp only [Bool.and_eq_true, decide_eq_true_eq] at h3
  omega
theorem ptT_len {p : Pt} (h : (-1000 ≤ p.X ∧ p.X ≤ 1000) ∧ -1000 ≤ p.Y ∧ p.Y ≤ 1000) : (ptT p).length ≤ 44 := by
 have h1 := itoa_len p.X OM OM
 have h2 := itoa_len p.Y OM OM
 unfold ptT
 simp only [List.length_append, List.length_cons, List.length_nil]; omega
theorem names_len : ∀ k : Int, (nth shapeNamesL k).length ≤ 4 := fun k => by
 by_cases h : 0 ≤ k ∧ k < 4
 ·have : k = 0 ∨ k = 1 ∨ k = 2 ∨ k = 3 := by omega
  rcases this with rfl | rfl | rfl | rfl <;> decide
 ·unfold nth
  by_cases h0 : k < 0
  ·have : k.toNat = 0 := by omega
   rw [this]; decide
  ·rw [show shapeNamesL.getD k.toNat default = default from by rw [List.getD_eq_getElem?_getD, List.getElem?_eq_none (by show 4 ≤ k.toNat; omega)]; rfl]; decide
theorem shT_len {s : Shape} (h : shapeOk s = true) : (shT s).length ≤ 268 := by
 obtain ⟨_, h2, h3⟩ := shape_in h
 have h4 := flatT_len s.Pts ptT 44 fun p hp => ptT_len (h3 p hp)
 have h5 := names_len s.Kind
 unfold shT
 rw [List.length_append]; omega
theorem featT_len (f : Feat) : (featT f).length ≤ 400 := by
 unfold featT
 by_cases h : featOk f = true
 ·rw [if_pos h]
  obtain ⟨h1, h2, _, h4, h5⟩ := feat_facts h
  have h6 := shT_len h2
  have h7 := flatT_len f.Tags tagT 14 fun t ht => by
   have := h5 t ht
   unfold tagT
   simp only [List.length_append, List.length_cons, List.length_nil]; omega
  simp only [List.length_append, List.length_cons, List.length_nil]; omega
 ·rw [if_neg h]; exact Nat.zero_le _
theorem sideT_len (b : Bool) (f : Feat) : (sideT b f).length ≤ 400 := by
 unfold sideT
 cases b
 ·exact (by decide : ([45] : Str).length ≤ 400)
 ·exact featT_len f
theorem lineT_len {c : Change} (h : c.Id.length ≤ 6) : (lineT c).length ≤ 812 := by
 have h1 := sideT_len c.Had c.Was
 have h2 := sideT_len c.Has c.Now
 unfold lineT
 simp only [List.length_append, List.length_cons, List.length_nil]; omega
section
def mkL {α : Type} (g : α → Int → α × Int) : List α → Int → List α × Int
 | [], k => ([], k)
 | x :: l, k => ((g x k).1 :: (mkL g l (g x k).2).1, (mkL g l (g x k).2).2)
section
variable {α : Type} {g : α → Int → α × Int}
theorem mkL_snoc (x : α) : ∀ (l : List α) (k : Int), mkL g (l ++ [x]) k = ((mkL g l k).1 ++ [(g x (mkL g l k).2).1], (g x (mkL g l k).2).2)
 | [], k => rfl
 | y :: l, k => by
  rw [List.cons_append, mkL, mkL_snoc x l]; rfl
theorem mkL_len : ∀ (l : List α) (k : Int), (mkL g l k).1.length = l.length
 | [], k => rfl
 | y :: l, k => by rw [mkL, List.length_cons, List.length_cons, mkL_len l]
theorem mkL_bd [Bulk α] (hb : ∀ x k, k ≤ (g x k).2 ∧ (g x k).2 ≤ k + 8 * (1 + (bulk x : Nat))) : ∀ (l : List α) (k : Int), k ≤ (mkL g l k).2 ∧ (mkL g l k).2 ≤ k + 8 * (bulk l : Nat)
 | [], k => ⟨Int.le_refl _, by simp [mkL, bulk_nil]⟩
 | y :: l, k => by
  have h1 := hb y k
  have h2 := mkL_bd hb l (g y k).2
  rw [bulk_cons, mkL]
  exact ⟨by dsimp only; omega, by dsimp only; omega⟩
theorem mkL_app : ∀ (l m : List α) (k : Int), mkL g (l ++ m) k = ((mkL g l k).1 ++ (mkL g m (mkL g l k).2).1, (mkL g m (mkL g l k).2).2)
 | [], m, k => rfl
 | y :: l, m, k => by rw [List.cons_append, mkL, mkL_app l]; rfl
variable [Inhabited α]
def Mk (g : α → Int → α × Int) (a : List α) (k : Int) (u : Nat) (xs : List α) (k' : Int) : Prop := u ≤ a.length ∧ xs = (mkL g (a.take u) k).1 ++ a.drop u ∧ k' = (mkL g (a.take u) k).2
variable {a xs : List α} {k k' : Int} {u : Nat}
theorem Mk.zero (a : List α) (k : Int) : Mk g a k 0 a k := ⟨Nat.zero_le _, by simp [mkL], by simp [mkL]⟩
theorem Mk.len (h : Mk g a k u xs k') : xs.length = a.length := by
 rw [h.2.1, List.length_append, mkL_len, List.length_take, List.length_drop]; have := h.1; omega
theorem Mk.nth (h : Mk g a k u xs k') (hu : u < a.length) : nth xs (u : Int) = Go.Proofs.YtlaaehjcooonfaaDoor.nth a (u : Int) := by
 rw [nth_nat xs (by rw [h.len]; exact hu), nth_nat a hu]
 have hl : (mkL g (a.take u) k).1.length = u := by rw [mkL_len, List.length_take]; omega
 have := h.2.1
 subst this
 rw [List.getElem_append_right OM]
 simp [hl]
theorem Mk.bd [Bulk α] (h : Mk g a k u xs k') (hb : ∀ x k, k ≤ (g x k).2 ∧ (g x k).2 ≤ k + 8 * (1 + (bulk x : Nat))) : k ≤ k' ∧ k' ≤ k + 8 * (bulk a : Nat) := by
 have h1 := mkL_bd hb (a.take u) k
 have h2 := bulk_take a u
 rw [h.2.2]
 exact ⟨h1.1, OM⟩
def Hd (g : α → Int → α × Int) (a : List α) (k : Int) (u : Nat) (k' : Int) : Prop := u ≤ a.length ∧ k' = (mkL g (a.take u) k).2
theorem Hd.zero (a : List α) (k : Int) : Hd g a k 0 k := ⟨Nat.zero_le _, by simp [mkL]⟩
theorem Hd.nth (h : Hd g a k u k') (hu : u < a.length) : nth (mkL g a k).1 (u : Int) = (g (Go.Proofs.YtlaaehjcooonfaaDoor.nth a (u : Int)) k').1 := by
 have e : a = (a.take u ++ [Go.Proofs.YtlaaehjcooonfaaDoor.nth a (u : Int)]) ++ a.drop (u + 1) := by rw [← take_nth a hu, List.take_append_drop]
 have hl : (mkL g (a.take u) k).1.length = u := by rw [mkL_len, List.length_take]; omega
 rw [nth_nat _ (by rw [mkL_len]; exact hu)]
 have h1 : (mkL g a k).1[u]? = some (g (Go.Proofs.YtlaaehjcooonfaaDoor.nth a (u : Int)) k').1 := by
  conv => lhs; rw [e]
  rw [mkL_app, mkL_snoc]
  dsimp only
  rw [List.append_assoc, List.getElem?_append_right OM, hl, Nat.sub_self, h.2]; rfl
 rw [List.getElem?_eq_getElem (by rw [mkL_len]; exact hu)] at h1
 exact Option.some.inj h1
theorem Hd.bd [Bulk α] (h : Hd g a k u k') (hb : ∀ x k, k ≤ (g x k).2 ∧ (g x k).2 ≤ k + 8 * (1 + (bulk x : Nat))) : k ≤ k' ∧ k' ≤ k + 8 * (bulk a : Nat) := by
 have h1 := mkL_bd hb (a.take u) k
 have h2 := bulk_take a u
 rw [h.2]
 exact ⟨h1.1, OM⟩
end
theorem bulk_feat (x : Feat) : bulk x = bulk x.Id + (bulk x.Shape.Kind + bulk x.Shape.Pts) + bulk x.Tags := rfl
end
theorem pw_ext {α : Type} {R : α → α → Prop} (irr : ∀ x, ¬ R x x) (tr : ∀ x y z, R x y → R y z → R x z) : ∀ {l m : List α}, l.Pairwise R → m.Pairwise R → (∀ x, x ∈ l ↔ x ∈ m) → l = m
 | [], [], _, _, _ => rfl
 | [], y :: m, _, _, h => by have := (h y).2 List.mem_cons_self; cases this
 | x :: l, [], _, _, h => by have := (h x).1 List.mem_cons_self; cases this
 | x :: l, y :: m, hl, hm, h => by
  obtain ⟨l1, l2⟩ := List.pairwise_cons.1 hl
  obtain ⟨m1, m2⟩ := List.pairwise_cons.1 hm
  have e : x = y := by
   rcases List.mem_cons.1 ((h x).1 List.mem_cons_self) with e | e
   ·exact e
   ·rcases List.mem_cons.1 ((h y).2 List.mem_cons_self) with e' | e'
    ·exact e'.symm
    ·exact absurd (tr _ _ _ (m1 x e) (l1 y e')) (irr _)
  subst e
  rw [pw_ext irr tr l2 m2 fun z => ⟨fun hz => ?_, fun hz => ?_⟩]
  ·rcases List.mem_cons.1 ((h z).1 (List.mem_cons_of_mem _ hz)) with e | e
   ·subst e; exact absurd (l1 z hz) (irr _)
   ·exact e
  ·rcases List.mem_cons.1 ((h z).2 (List.mem_cons_of_mem _ hz)) with e | e
   ·subst e; exact absurd (m1 z hz) (irr _)
   ·exact e
def idsC (d : List Change) : List Str := d.map (·.Id)
theorem idsC_app (s t : List Change) : idsC (s ++ t) = idsC s ++ idsC t := List.map_append
def CS (d : List Change) : Prop := d.Pairwise fun x y => Op.bytesLess x.Id y.Id = true
theorem CS.ext {l m : List Change} (hl : CS l) (hm : CS m) (h : ∀ x, x ∈ l ↔ x ∈ m) : l = m :=
 pw_ext (R := fun x y : Change => Op.bytesLess x.Id y.Id = true) (fun x e => by rw [less_irr] at e; cases e) (fun x y z h1 h2 => less_trans h1 h2) hl hm h
theorem CS.ids {d : List Change} (h : CS d) : SS (idsC d) := List.pairwise_map.2 h
theorem diff_cs {d : List Change} (h : diffOk d = true) : CS d ∧ d.length ≤ 16 ∧ ∀ c ∈ d, changeOk c = true := by
 unfold diffOk at h
 simp only [Bool.and_eq_true, decide_eq_true_eq] at h
 obtain ⟨h1, h2⟩ := h
 have h1 := allN_iff.1 h1
 have hadj : ∀ k, 0 < k → k < d.length → Op.bytesLess (nth d ((k : Int) - 1)).Id (nth d (k : Int)).Id = true := fun k h0 hk => by
  have := h1 k hk
  simp only [Bool.and_eq_true, Bool.or_eq_true, decide_eq_true_eq] at this
  rcases this.2 with h | h
  ·omega
  ·exact h
 refine ⟨?_, h2, fun f hf => ?_⟩
 ·refine List.pairwise_iff_getElem.2 fun i j hi hj hij => ?_
  have key : ∀ q, i + q + 1 < d.length → Op.bytesLess d[i].Id (nth d ((i + q + 1 : Nat) : Int)).Id = true := by
   intro q
   induction q with
   | zero =>
    intro hd
    have := hadj (i + 0 + 1) OM hd
    rw [show (((i + 0 + 1 : Nat) : Int) - 1) = (i : Int) by omega, nth_nat d hi] at this
    exact this
   | succ q ih =>
    intro hd
    have := hadj (i + (q + 1) + 1) OM hd
    rw [show (((i + (q + 1) + 1 : Nat) : Int) - 1) = ((i + q + 1 : Nat) : Int) by omega] at this
    exact less_trans (ih OM) this
  have := key (j - i - 1) OM
  rw [show i + (j - i - 1) + 1 = j by omega, nth_nat d hj] at this
  exact this
 ·obtain ⟨k, hk, rfl⟩ := List.getElem_of_mem hf
  have := h1 k hk
  rw [nth_nat d hk] at this
  simp only [Bool.and_eq_true] at this
  exact this.1
theorem findN_true {n : Nat} {c : Nat → Bool} {k : Nat} (h : findN n c = (k : Int)) : k < n ∧ c k = true := by
 unfold findN at h
 cases e : (List.range n).find? c with
 | none => rw [e] at h; dsimp only at h; omega
 | some j =>
  rw [e] at h; dsimp only at h
  have : j = k := by omega
  subst this
  exact ⟨List.mem_range.1 (List.mem_of_find?_eq_some e), List.find?_some e⟩
theorem findN_neg {n : Nat} {c : Nat → Bool} (h : findN n c < 0) : ∀ j, j < n → c j = false := fun j hj => by
 unfold findN at h
 cases e : (List.range n).find? c with
 | some k => rw [e] at h; dsimp only at h; omega
 | none =>
  have := List.find?_eq_none.1 e j (List.mem_range.2 hj)
  simpa using this
theorem CS.inj {d : List Change} (h : CS d) {x y : Change} (hx : x ∈ d) (hy : y ∈ d) (e : x.Id = y.Id) : x = y := by
 obtain ⟨i, hi, rfl⟩ := List.getElem_of_mem hx
 obtain ⟨j, hj, rfl⟩ := List.getElem_of_mem hy
 rcases Nat.lt_trichotomy i j with g | g | g
 ·have := List.pairwise_iff_getElem.1 h i j hi hj g
  rw [e, less_irr] at this; cases this
 ·subst g; rfl
 ·have := List.pairwise_iff_getElem.1 h j i hj hi g
  rw [e, less_irr] at this; cases this
theorem sideOf_hit {s : List Feat} {id : Str} (h : (sideOf s id).2 = true) : (sideOf s id).1 ∈ s ∧ (sideOf s id).1.Id = id := by
 unfold sideOf at h ⊢
 split at h
 ·cases h
 ·rename_i g
  rw [if_neg g]
  have h1 := findN_le s.length fun j => (nth s (j : Int)).Id == id
  obtain ⟨k, hk⟩ : ∃ k : Nat, findN s.length (fun j => (nth s (j : Int)).Id == id) = (k : Int) := ⟨_, (Int.toNat_of_nonneg OM).symm⟩
  obtain ⟨h2, h3⟩ := findN_true hk
  rw [hk]
  exact ⟨nth_mem s h2, by simpa using h3⟩
theorem sideOf_no {s : List Feat} {id : Str} (h : (sideOf s id).2 = false) : (sideOf s id).1 = zeroF ∧ id ∉ ids s := by
 unfold sideOf at h ⊢
 split at h
 ·rename_i g
  rw [if_pos g]
  refine ⟨rfl, fun hm => ?_⟩
  obtain ⟨f, hf, rfl⟩ := List.mem_map.1 hm
  obtain ⟨k, hk, rfl⟩ := List.getElem_of_mem hf
  have := findN_neg g k hk
  rw [nth_nat s hk] at this
  simp at this
 ·cases h
def FS (l : List Feat) : Prop := l.Pairwise fun x y => Op.bytesLess x.Id y.Id = true
theorem FS.ext {l m : List Feat} (hl : FS l) (hm : FS m) (h : ∀ x, x ∈ l ↔ x ∈ m) : l = m :=
 pw_ext (R := fun x y : Feat => Op.bytesLess x.Id y.Id = true) (fun x e => by rw [less_irr] at e; cases e) (fun x y z h1 h2 => less_trans h1 h2) hl hm h
theorem FS.inj {d : List Feat} (h : FS d) {x y : Feat} (hx : x ∈ d) (hy : y ∈ d) (e : x.Id = y.Id) : x = y := by
 obtain ⟨i, hi, rfl⟩ := List.getElem_of_mem hx
 obtain ⟨j, hj, rfl⟩ := List.getElem_of_mem hy
 rcases Nat.lt_trichotomy i j with g | g | g
 ·have := List.pairwise_iff_getElem.1 h i j hi hj g
  rw [e, less_irr] at this; cases this
 ·subst g; rfl
 ·have := List.pairwise_iff_getElem.1 h j i hj hi g
  rw [e, less_irr] at this; cases this
theorem now_id {d : List Change} (hd : ∀ c ∈ d, changeOk c = true) {c : Change} (hc : c ∈ d) (h : c.Has = true) : c.Now.Id = c.Id ∧ featOk c.Now = true := by
 have := hd c hc
 unfold changeOk at this
 simp only [Bool.and_eq_true] at this
 have h3 := this.1.2
 unfold sideOk at h3
 rw [h, if_pos rfl] at h3
 simp only [Bool.and_eq_true, decide_eq_true_eq] at h3
 exact ⟨h3.2, h3.1⟩
def Mem (s : List Feat) (d : List Change) (f : Feat) : Prop := (f ∈ s ∧ f.Id ∉ idsC d) ∨ ∃ c ∈ d, c.Has = true ∧ c.Now = f
theorem Mem.step {s : List Feat} {d : List Change} {u : Nat} (hu : u < d.length) (hc : CS d) (hd : ∀ c ∈ d, changeOk c = true) (f : Feat) :
  Mem s (d.take (u + 1)) f ↔ (Mem s (d.take u) f ∧ f.Id ≠ (nth d (u : Int)).Id) ∨ ((nth d (u : Int)).Has = true ∧ f = (nth d (u : Int)).Now) := by
 have e : idsC (d.take (u + 1)) = idsC (d.take u) ++ [(nth d (u : Int)).Id] := by rw [take_nth d hu, idsC_app]; rfl
 have hm : nth d (u : Int) ∈ d := nth_mem d hu
 have hlt : ∀ c ∈ d.take u, Op.bytesLess c.Id (nth d (u : Int)).Id = true := fun c hc' => by
  have h := hc
  rw [← List.take_append_drop u d] at h
  refine (List.pairwise_append.1 h).2.2 c hc' _ ?_
  rw [nth_nat d hu, List.drop_eq_getElem_cons hu]; exact List.mem_cons_self
 unfold Mem
 rw [e, take_nth d hu]
 constructor
 ·rintro (⟨h1, h2⟩ | ⟨c, h1, h2, rfl⟩)
  ·rw [List.mem_append, List.mem_singleton] at h2
   exact .inl ⟨.inl ⟨h1, fun h => h2 (.inl h)⟩, fun h => h2 (.inr h)⟩
  ·rcases List.mem_append.1 h1 with h1 | h1
   ·refine .inl ⟨.inr ⟨c, h1, h2, rfl⟩, fun h => ?_⟩
    rw [(now_id hd (List.mem_of_mem_take h1) h2).1] at h
    have := hlt c h1
    rw [h, less_irr] at this; cases this
   ·rw [List.mem_singleton] at h1
    subst h1
    exact .inr ⟨h2, rfl⟩
 ·rintro (⟨h1 | ⟨c, h1, h2, rfl⟩, h3⟩ | ⟨h1, rfl⟩)
  ·refine .inl ⟨h1.1, fun h => ?_⟩
   rcases List.mem_append.1 h with h | h
   ·exact h1.2 h
   ·exact h3 (List.mem_singleton.1 h)
  ·exact .inr ⟨c, List.mem_append_left _ h1, h2, rfl⟩
  ·exact .inr ⟨_, List.mem_append_right _ (List.mem_singleton.2 rfl), h1, rfl⟩
theorem Mem.zero (s : List Feat) (d : List Change) (f : Feat) : Mem s (d.take 0) f ↔ f ∈ s := by
 unfold Mem
 simp [idsC]
theorem tags_ss {t : List Tag} (h : tagsOk t = true) : SS (keysT t) := by
 have h1 := allN_iff.1 h
 have hadj : ∀ k, 0 < k → k < t.length → Op.bytesLess (nth t ((k : Int) - 1)).Key (nth t (k : Int)).Key = true := fun k h0 hk => by
  have := h1 k hk
  simp only [Bool.and_eq_true, Bool.or_eq_true, decide_eq_true_eq] at this
  rcases this.2 with h | h
  ·omega
  ·exact h
 unfold SS keysT
 rw [List.pairwise_map]
 refine List.pairwise_iff_getElem.2 fun i j hi hj hij => ?_
 have key : ∀ d, i + d + 1 < t.length → Op.bytesLess t[i].Key (nth t ((i + d + 1 : Nat) : Int)).Key = true := by
  intro d
  induction d with
  | zero =>
   intro hd
   have := hadj (i + 0 + 1) OM hd
   rw [show (((i + 0 + 1 : Nat) : Int) - 1) = (i : Int) by omega, nth_nat t hi] at this
   exact this
  | succ d ih =>
   intro hd
   have := hadj (i + (d + 1) + 1) OM hd
   rw [show (((i + (d + 1) + 1 : Nat) : Int) - 1) = ((i + d + 1 : Nat) : Int) by omega] at this
   exact less_trans (ih OM) this
 have := key (j - i - 1) OM
 rw [show i + (j - i - 1) + 1 = j by omega, nth_nat t hj] at this
 exact this
theorem featOk_tags {f : Feat} (h : featOk f = true) : SS (keysT f.Tags) := by
 unfold featOk at h
 simp only [Bool.and_eq_true] at h
 exact tags_ss h.1.1.1
theorem tagsOk_of {t : List Tag} (hs : SS (keysT t)) (hw : ∀ x ∈ t, wordOk x.Key = true ∧ wordOk x.Val = true) : tagsOk t = true := by
 unfold tagsOk
 refine allN_true fun k hk => ?_
 obtain ⟨h1, h2⟩ := hw _ (nth_mem t hk)
 rw [h1, h2, Bool.true_and, Bool.true_and, Bool.or_eq_true, decide_eq_true_eq]
 rcases Nat.eq_zero_or_pos k with h0 | h0
 ·exact .inl h0
 refine .inr ?_
 unfold SS keysT at hs
 have := List.pairwise_iff_getElem.1 (List.pairwise_map.1 hs) (k - 1) k OM hk OM
 rw [show ((k : Int) - 1) = ((k - 1 : Nat) : Int) by omega, nth_nat t hk, nth_nat t OM]
 exact this
theorem shape_pos {s : Shape} (h : shapeOk s = true) : 1 ≤ s.Pts.length := by
 unfold shapeOk kindOk at h
 simp only [Bool.and_eq_true] at h
 have := h.2
 split at this
 ·simp only [decide_eq_true_eq] at this; omega
 ·split at this
  ·simp only [Bool.and_eq_true, decide_eq_true_eq] at this; omega
  ·split at this
   ·simp only [Bool.and_eq_true, decide_eq_true_eq] at this; omega
   ·cases this
theorem dot_ok {x y : Int} (h1 : 0 ≤ x) (h2 : x ≤ 5) (h3 : 0 ≤ y) (h4 : y ≤ 5) : shapeOk ⟨1, [⟨x, y⟩]⟩ = true := by
 have e : ptOk (⟨x, y⟩ : Pt) = true := by
  unfold ptOk inR
  simp only [Bool.and_eq_true, decide_eq_true_eq]; omega
 unfold shapeOk ptsOk kindOk
 rw [Bool.and_eq_true]
 refine ⟨allN_true fun k hk => ?_, by rw [if_pos rfl]; rfl⟩
 have hk : k < 1 := hk
 obtain rfl : k = 0 := by omega
 rw [Bool.and_eq_true]
 exact ⟨e, rfl⟩
def NX (q : Pt) : Prop := q.X ≠ 71 ∧ q.X ≠ 72
theorem NX.of {x y : Int} (h : x ≤ 3) : NX ⟨x, y⟩ := ⟨by dsimp only; omega, by dsimp only; omega⟩
def keyL : List Str := [[110, 97, 109, 101], [107, 105, 110, 100], [117, 115, 101], [116, 111, 110, 101]]
def valL : List Str := [[97], [98], [111, 97, 107], [97, 115, 104], [114, 111, 97, 100]]
def idL : List Str := [[97], [98], [99], [100], [101]]
def DT (x : Tag) : Prop := x.Key ∈ keyL ∧ x.Val ∈ valL
theorem keyL_ok : ∀ k ∈ keyL, wordOk k = true := by decide
theorem valL_ok : ∀ k ∈ valL, wordOk k = true := by decide
theorem idL_ok : ∀ k ∈ idL, wordOk k = true := by decide
def plainK (k : Str) : Prop := k ≠ [97, 97, 97] ∧ k ≠ [122, 122, 122]
theorem keyL_plain : ∀ k ∈ keyL, plainK k := by
 intro k hk
 simp only [keyL, List.mem_cons, List.not_mem_nil, or_false] at hk
 unfold plainK
 rcases hk with rfl | rfl | rfl | rfl <;> decide
theorem feat_of {id : Str} {s : Shape} {t : List Tag} (h1 : wordOk id = true) (h2 : shapeOk s = true) (h3 : SS (keysT t)) (h4 : t.length ≤ 4) (h5 : ∀ x ∈ t, wordOk x.Key = true ∧ wordOk x.Val = true) : featOk ⟨id, s, t⟩ = true := by
 unfold featOk
 dsimp only
 rw [tagsOk_of h3 h5, h1, h2, decide_eq_true h4]; rfl
structure FB (n : Nat) (f : Feat) : Prop where
 id : f.Id.length ≤ 7
 pts : f.Shape.Pts.length ≤ 7
 len : f.Tags.length ≤ n
 wd : ∀ x ∈ f.Tags, x.Key.length ≤ 6 ∧ x.Val.length ≤ 6
theorem FB.small {n : Nat} {f : Feat} (h : FB n f) : bulk f ≤ 14 + 13 * n := by
 have e : bulk f = bulk f.Id + (0 + bulk f.Shape.Pts) + bulk f.Tags := rfl
 have e2 : bulk f.Id = f.Id.length := bulk_str _
 have e3 : bulk f.Shape.Pts = f.Shape.Pts.length := bulk_flat (fun _ => rfl) _
 have hs := bulk_small f.Tags 12 fun t ht => by
  have := h.wd t ht
  have e : bulk t = bulk t.Key + bulk t.Val := rfl
  rw [e, bulk_str, bulk_str]; omega
 have : f.Tags.length * (12 + 1) ≤ n * 13 := Nat.mul_le_mul h.len (Nat.le_refl _)
 have := h.id; have := h.pts
 omega
theorem FB.of {f : Feat} (h : featOk f = true) : FB 4 f := by
 have := feat_facts h
 exact ⟨OM, OM, this.1, this.2.2.2.2⟩
theorem FB.mono {n m : Nat} {f : Feat} (h : FB n f) (hm : n ≤ m) : FB m f := ⟨h.id, h.pts, Nat.le_trans h.len hm, h.wd⟩
theorem DT.len {x : Tag} (h : DT x) : x.Key.length ≤ 6 ∧ x.Val.length ≤ 6 := ⟨word_len (keyL_ok _ h.1), word_len (valL_ok _ h.2)⟩
theorem DT.ok {x : Tag} (h : DT x) : wordOk x.Key = true ∧ wordOk x.Val = true := ⟨keyL_ok _ h.1, valL_ok _ h.2⟩
structure MB (n m : Nat) (s : List Feat) : Prop where
 len : s.length ≤ n
 fb : ∀ f ∈ s, FB m f
theorem MB.small {n m : Nat} {s : List Feat} (h : MB n m s) : bulk s ≤ n * (15 + 13 * m) := by
 have hs := bulk_small s (14 + 13 * m) fun f hf => (h.fb f hf).small
 have : s.length * (14 + 13 * m + 1) ≤ n * (15 + 13 * m) := Nat.mul_le_mul h.len OM
 omega
theorem MB.of {s : List Feat} (h : sheetOk s = true) : MB 8 4 s := ⟨(sheet_ss h).2.1, fun f hf => FB.of ((sheet_ss h).2.2 f hf)⟩
theorem MB.mono {n n' m m' : Nat} {s : List Feat} (h : MB n m s) (h1 : n ≤ n') (h2 : m ≤ m') : MB n' m' s := ⟨Nat.le_trans h.len h1, fun f hf => (h.fb f hf).mono h2⟩
theorem sheet_of {s : List Feat} (h1 : SS (ids s)) (h2 : s.length ≤ 8) (h3 : ∀ f ∈ s, featOk f = true) : sheetOk s = true := by
 unfold sheetOk
 rw [Bool.and_eq_true]
 refine ⟨allN_true fun k hk => ?_, decide_eq_true h2⟩
 rw [Bool.and_eq_true, Bool.or_eq_true, decide_eq_true_eq]
 refine ⟨h3 _ (nth_mem s hk), ?_⟩
 rcases Nat.eq_zero_or_pos k with h0 | h0
 ·exact .inl h0
 refine .inr ?_
 unfold SS ids at h1
 have := List.pairwise_iff_getElem.1 (List.pairwise_map.1 h1) (k - 1) k OM hk OM
 rw [show ((k : Int) - 1) = ((k - 1 : Nat) : Int) by omega, nth_nat s hk, nth_nat s OM]
 exact this
def zzI : Str := [122, 122]
theorem idL_nz : ∀ k ∈ idL, k ≠ zzI := by
 intro k hk
 simp only [idL, List.mem_cons, List.not_mem_nil, or_false] at hk
 rcases hk with rfl | rfl | rfl | rfl | rfl <;> decide
structure MD (s : List Feat) : Prop where
 mb : MB 14 4 s
 nz : ∀ f ∈ s, f.Id ≠ zzI
theorem MD.small {s : List Feat} (h : MD s) : bulk s ≤ 1048576 := Nat.le_trans h.mb.small RD
structure CB (c : Change) : Prop where
 id : c.Id.length ≤ 7
 was : FB 4 c.Was
 now : FB 4 c.Now
theorem CB.small {c : Change} (h : CB c) : bulk c ≤ 139 := by
 have e : bulk c = bulk c.Id + 0 + bulk c.Was + 0 + bulk c.Now := rfl
 have e2 : bulk c.Id = c.Id.length := bulk_str _
 have := h.id; have := h.was.small; have := h.now.small
 omega
theorem cb_bulk {d : List Change} (hl : d.length ≤ 17) (h : ∀ c ∈ d, CB c) : bulk d ≤ 1048576 := by
 have hs := bulk_small d 139 fun c hc => (h c hc).small
 have : d.length * (139 + 1) ≤ 17 * 140 := Nat.mul_le_mul hl (Nat.le_refl _)
 omega
theorem FB.zero : FB 4 zeroF := ⟨by decide, by decide, by decide, fun x hx => (by cases hx)⟩
theorem sideOf_fb {s : List Feat} (h : sheetOk s = true) (i : Str) : FB 4 (sideOf s i).1 := by
 cases g : (sideOf s i).2 with
 | true => exact FB.of ((sheet_ss h).2.2 _ (sideOf_hit g).1)
 | false => rw [(sideOf_no g).1]; exact FB.zero
theorem diffL_cb {a b : List Feat} (ha : sheetOk a = true) (hb : sheetOk b = true) : (diffL a b (uniq (ids a ++ ids b))).length ≤ 16 ∧ ∀ c ∈ diffL a b (uniq (ids a ++ ids b)), CB c := by
 have la := (sheet_ss ha).2.1
 have lb := (sheet_ss hb).2.1
 have l1 := diffL_len a b (uniq (ids a ++ ids b))
 have l2 := uniq_len (ids a ++ ids b)
 have l3 : (ids a ++ ids b).length = a.length + b.length := by unfold ids; simp
 refine ⟨OM, fun c hc => ?_⟩
 unfold diffL at hc
 obtain ⟨hc, _⟩ := List.mem_filter.1 hc
 obtain ⟨x, hx, rfl⟩ := List.mem_map.1 hc
 have hl : x.length ≤ 6 := by
  rcases List.mem_append.1 (uniq_mem.1 hx) with hx | hx
  all_goals
   obtain ⟨f, hf, rfl⟩ := List.mem_map.1 hx
  ·exact (feat_small ((sheet_ss ha).2.2 f hf)).2
  ·exact (feat_small ((sheet_ss hb).2.2 f hf)).2
 exact ⟨Nat.le_trans hl RD, sideOf_fb ha x, sideOf_fb hb x⟩
theorem cb_set {d : List Change} {k : Nat} {c : Change} (h : ∀ c ∈ d, CB c) (hc : CB c) : ∀ x ∈ d.set k c, CB x := fun x hx => by
 rcases List.mem_or_eq_of_mem_set hx with g | rfl
 ·exact h x g
 ·exact hc
theorem F33.law (code : List UInt8) (Q : List UInt8 → Int → Prop) (hq : ∀ b, b.length ≤ 2000 → Q b 0) : F33.E code Q := by
 unfold F33.E
 by_cases h : (code.length : Int) > 2000
 ·rw [if_pos (by simpa using h)]
  exact ⟨OM, hq _ (by rw [List.length_take]; omega)⟩
 ·rw [if_neg (by simpa using h)]
  exact hq _ OM
theorem ediv_le {p l : Int} (hp : 0 ≤ p) (hl : 0 < l) : 0 ≤ p / l ∧ p / l ≤ p := ⟨Int.ediv_nonneg hp OM, Int.ediv_le_self _ hp⟩
theorem F7.law (b : List UInt8) (p n : Int) (Q : Int → Int → Prop) (hb : b.length ≤ 2000) (hp : 0 ≤ p) (hp1 : p ≤ 1099511627776) (hq : ∀ v, 0 ≤ v → (v < n ∨ v = 0) → Q v (p + 1)) : F7.E b p n Q := by
 unfold F7.E
 refine ⟨by unfold I64; omega, ?_⟩
 by_cases hn : n < 1
 ·rw [if_pos (by simpa using hn)]; exact hq 0 OM (.inr rfl)
 rw [if_neg (by simpa using hn)]
 by_cases hl : (b.length : Int) = 0
 ·rw [if_pos (by simpa using hl)]; exact hq 0 OM (.inr rfl)
 rw [if_neg (by simpa using hl)]
 refine ⟨fun _ => by unfold I64; omega, ?_⟩
 rw [show p + 1 - 1 = p by omega]
 have fin : ∀ z : Int, 0 ≤ z → Q (z % n) (p + 1) := fun z hz => hq _ (Int.emod_nonneg _ OM) (.inl (Int.emod_lt_of_pos _ OM))
 by_cases hc : p < (b.length : Int)
 ·rw [if_pos (by simpa using hc)]
  exact ⟨OM, ⟨OM, OM⟩, fin _ OM⟩
 rw [if_neg (by simpa using hc)]
 have hlen : (0 : Int) < (b.length : Int) := by omega
 generalize hL : (b.length : Int) = L at *
 have m1 := Int.emod_nonneg p (show L ≠ 0 by omega)
 have m2 := Int.emod_lt_of_pos p hlen
 have m3 := Int.emod_nonneg (p * 7 + 3) (show L ≠ 0 by omega)
 have m4 := Int.emod_lt_of_pos (p * 7 + 3) hlen
 obtain ⟨d1, d2⟩ := ediv_le hp hlen
 generalize p % L = r1 at *
 generalize (p * 7 + 3) % L = r2 at *
 generalize p / L = q at *
 have u1 := (nth b r1).toNat_lt
 have u2 := (nth b r2).toNat_lt
 generalize (nth b r1).toNat = x1 at *
 generalize (nth b r2).toNat = x2 at *
 have s0 : 0 ≤ (x1 : Int) * 131 + (x2 : Int) * 1117 + p * 29 + q * 53 := by omega
 have s1 : (x1 : Int) * 131 + (x2 : Int) * 1117 + p * 29 + q * 53 ≤ 9223372036854775807 := by omega
 refine ⟨OM, OM, fun _ => by unfold I64; omega, fun _ => by unfold I64; omega, fun _ => by unfold I64; omega, OM, OM, fun _ => by unfold I64; omega, fun _ => by unfold I64; omega, fun _ => by unfold I64; omega, fun _ => by unfold I64; omega, OM, fun _ => by unfold I64; omega, fun _ => by unfold I64; omega, OM, ?_⟩
 generalize (x1 : Int) * 131 + (x2 : Int) * 1117 + p * 29 + q * 53 = s at *
 have hx : 0 ≤ xor64 s (s / 64) := xor64_nonneg ⟨s0, s1⟩ OM
 exact ⟨OM, fin _ hx⟩
theorem F16.law (b : List UInt8) (p : Int) (l : List Int) (Q : Int → Int → Prop) (hb : b.length ≤ 2000) (hp : 0 ≤ p) (hp1 : p ≤ 1099511627776) (hl : 0 < l.length) (hq : ∀ s ∈ l, Q s (p + 1)) : F16.E b p l Q := by
 unfold F16.E
 exact F7.law _ _ _ _ hb hp hp1 fun v h0 h1 => ⟨OM, hq _ (nth_memi l h0 OM)⟩
theorem F88.law (b : List UInt8) (p : Int) (Q : Pt → Int → Prop) (hb : b.length ≤ 2000) (hp : 0 ≤ p) (hp1 : p ≤ 1000000000) (hq : ∀ x y, 0 ≤ x → x ≤ 3 → 0 ≤ y → y ≤ 5 → Q ⟨x, y⟩ (p + 2)) : F88.E b p Q := by
 unfold F88.E
 refine F7.law _ _ _ _ hb hp OM fun v h0 h1 => F16.law _ _ _ _ hb OM OM RD fun y hy => ?_
 rw [show p + 1 + 1 = p + 2 by omega]
 simp only [List.mem_cons, List.not_mem_nil, or_false] at hy
 exact hq _ _ h0 OM OM OM
theorem F77.m_is (a b : Int) : F77.m a b = min a b := by
 unfold F77.m
 by_cases h : a < b
 ·simp [h]; omega
 ·simp [h]; omega
theorem F72.m_is (n : Int) : F72.m n = inR n := by
 unfold F72.m inR
 by_cases h : -1000 ≤ n
 ·rw [if_pos (by rw [decide_eq_true_eq]; omega), decide_eq_true h, Bool.true_and]
 ·rw [if_neg (by rw [decide_eq_true_eq]; omega), decide_eq_false h, Bool.false_and]
theorem F73.law (p : List Pt) (Q : Bool → Prop) (hq : Q (ptsOk p && decide (p.length ≤ 6))) : F73.E p Q := by
 unfold F73.E
 unfold ptsOk at hq
 refine loop_all p.length (fun k => ptOk (nth p (k : Int)) && (decide (k = 0) || !(decide (nth p ((k : Int) - 1) = nth p (k : Int))))) (fun I mu k hk hp hn => ?_) (fun ha => ?_)
 ·refine ⟨OM, ?_⟩
  rw [F72.m_is, F72.m_is]
  have bad : (ptOk (nth p (k : Int)) && (decide (k = 0) || !(decide (nth p ((k : Int) - 1) = nth p (k : Int))))) = false → Q false := fun h => by
   rw [allN_false hk h, Bool.false_and] at hq; exact hq
  cases h1 : inR (nth p (k : Int)).X with
  | false => rw [if_pos RD]; exact bad (by simp only [ptOk, h1, Bool.false_and])
  | true =>
   rw [if_neg RD]
   refine ⟨OM, ?_⟩
   cases h2 : inR (nth p (k : Int)).Y with
   | false => rw [if_pos RD]; exact bad (by simp only [ptOk, h2, Bool.and_false, Bool.false_and])
   | true =>
    rw [if_neg RD]
    have hpt : ptOk (nth p (k : Int)) = true := by simp only [ptOk, h1, h2, Bool.and_self]
    by_cases hk0 : k = 0
    ·rw [if_neg (by rw [decide_eq_true_eq]; omega)]
     obtain ⟨i1, i2⟩ := hn (by rw [hpt, decide_eq_true hk0]; rfl)
     exact ⟨OM, i1, i2⟩
    ·rw [if_pos (by rw [decide_eq_true_eq]; omega)]
     refine ⟨OM, fun _ => by unfold I64; omega, OM, ?_⟩
     rw [eqPt_is]
     by_cases he : nth p ((k : Int) - 1) = nth p (k : Int)
     ·rw [if_pos (by rw [decide_eq_true_eq]; exact he.symm)]
      exact bad (by rw [hpt, decide_eq_false hk0, decide_eq_true he]; rfl)
     ·rw [if_neg (by rw [decide_eq_true_eq]; exact fun e => he e.symm)]
      obtain ⟨i1, i2⟩ := hn (by rw [hpt, decide_eq_false hk0, decide_eq_false he]; rfl)
      exact ⟨OM, i1, i2⟩
 ·rw [allN_true ha, Bool.true_and] at hq
  have e2 : decide ((p.length : Int) ≤ 6) = decide (p.length ≤ 6) := decide_eq_decide.2 OM
  rw [e2]; exact hq
theorem F29.law (s : Shape) (Q : Bool → Prop) (hq : Q (shapeOk s)) : F29.E s Q := by
 unfold F29.E
 unfold shapeOk at hq
 refine F73.law _ _ ?_
 cases h1 : ptsOk s.Pts with
 | false => rw [h1, Bool.false_and] at hq; rw [Bool.false_and, if_pos RD]; exact hq
 | true =>
  rw [h1, Bool.true_and] at hq
  rw [Bool.true_and]
  unfold kindOk at hq
  by_cases h6 : s.Pts.length ≤ 6
  ·rw [decide_eq_true h6, if_neg RD]
   by_cases k1 : s.Kind = 1
   ·rw [if_pos k1] at hq
    rw [if_pos (by rw [beq_iff_eq]; exact k1)]
    have : ((s.Pts.length : Int) == 1) = decide (s.Pts.length = 1) := by rw [Bool.eq_iff_iff, beq_iff_eq, decide_eq_true_eq]; omega
    rw [this]; exact hq
   rw [if_neg k1] at hq
   rw [if_neg (by rw [beq_iff_eq]; exact k1)]
   by_cases k2 : s.Kind = 2
   ·rw [if_pos k2, decide_eq_true h6, Bool.and_true] at hq
    rw [if_pos (by rw [beq_iff_eq]; exact k2)]
    have : decide ((s.Pts.length : Int) ≥ 2) = decide (2 ≤ s.Pts.length) := decide_eq_decide.2 OM
    rw [this]; exact hq
   rw [if_neg k2] at hq
   rw [if_neg (by rw [beq_iff_eq]; exact k2)]
   by_cases k3 : s.Kind = 3
   ·rw [if_pos k3, decide_eq_true h6, Bool.and_true] at hq
    rw [if_pos (by rw [beq_iff_eq]; exact k3)]
    by_cases h3 : 3 ≤ s.Pts.length
    ·rw [decide_eq_true h3, Bool.true_and] at hq
     rw [if_pos (by rw [decide_eq_true_eq]; omega), eqPt_is]
     exact ⟨OM, fun _ => by unfold I64; omega, OM, hq⟩
    ·rw [decide_eq_false h3, Bool.false_and] at hq
     rw [if_neg (by rw [decide_eq_true_eq]; omega)]; exact hq
   ·rw [if_neg k3] at hq
    rw [if_neg (by rw [beq_iff_eq]; exact k3)]; exact hq
  ·rw [decide_eq_false h6, if_pos RD]
   have : (if s.Kind = 1 then decide (s.Pts.length = 1) else if s.Kind = 2 then decide (2 ≤ s.Pts.length) && decide (s.Pts.length ≤ 6)
 else if s.Kind = 3 then decide (3 ≤ s.Pts.length) && decide (s.Pts.length ≤ 6) && !(decide (nth s.Pts 0 = nth s.Pts ((s.Pts.length : Int) - 1))) else false) = false := by
    rw [decide_eq_false h6, decide_eq_false (show ¬ s.Pts.length = 1 by omega)]
    simp
   rw [this] at hq; exact hq
theorem F34.law (b : List UInt8) (p : Int) (Q : Shape → Int → Prop) (hb : b.length ≤ 2000) (hp : 0 ≤ p) (hp1 : p ≤ 100000000) (hq : ∀ s p', shapeOk s = true → (∀ q ∈ s.Pts, NX q) → p ≤ p' → p' ≤ p + 40 → Q s p') : F34.E b p Q := by
 unfold F34.E
 refine F16.law _ _ _ _ hb hp OM RD fun k hk => F7.law _ _ _ _ hb OM OM fun v hv0 hv1 => ?_
 have hk' : 1 ≤ k ∧ k ≤ 3 := by
  simp only [List.mem_cons, List.not_mem_nil, or_false] at hk; omega
 have fin : ∀ (xs : List Pt) (z : Int), (∀ q ∈ xs, NX q) → p ≤ z → z ≤ p + 30 → F29.E ⟨k, xs⟩ (fun r6 => (if !r6 then F88.E b z (fun r7 m4 => Q (⟨1, ([r7] : List Pt)⟩ : Shape) m4) else Q (⟨k, xs⟩ : Shape) z)) := fun xs z hx h1 h2 => by
  refine F29.law _ _ ?_
  cases h : shapeOk ⟨k, xs⟩ with
  | true => rw [if_neg RD]; exact hq _ _ h hx h1 OM
  | false => rw [if_pos RD]; exact F88.law _ _ _ hb OM OM fun x y x0 x1 y0 y1 => hq _ _ (dot_ok x0 OM y0 y1) (fun q hq' => by rw [List.mem_singleton.1 hq']; exact .of x1) OM OM
 refine ⟨by unfold I64; omega, fun w => 1 ≤ w ∧ w ≤ 6, by split <;> omega, ?_⟩
 rintro want ⟨w1, w2⟩
 refine ⟨fun i xs z => 0 ≤ i ∧ i ≤ 12 ∧ (xs.length : Int) ≤ i ∧ (∀ q ∈ xs, NX q) ∧ p + 2 ≤ z ∧ z ≤ p + 2 + 2 * i, fun i _ _ => (12 - i).toNat, ⟨OM, OM, by simp, by simp, OM, OM⟩, ?_⟩
 rintro i xs z ⟨h0, h1, h2, hx, h3, h4⟩
 by_cases hi : i < 12
 case neg => rw [if_neg (by simpa using hi)]; exact fin _ _ hx OM OM
 rw [if_pos (by simpa using hi)]
 by_cases hl : (xs.length : Int) < F77.m want 6
 case neg => rw [if_neg (by simpa using hl)]; exact fin _ _ hx OM OM
 rw [if_pos (by simpa using hl)]
 refine F88.law _ _ _ hb OM OM fun x y x0 x1 y0 y1 => ⟨fun _ => True, ?_, fun v _ => ⟨fun ys => (ys.length : Int) ≤ i + 1 ∧ ∀ q ∈ ys, NX q, ?_, fun ys hys => ⟨by unfold I64; omega, ⟨OM, OM, hys.1, hys.2, OM, OM⟩, by dsimp only; omega⟩⟩⟩
 ·by_cases h0 : (xs.length : Int) = 0
  ·rw [if_pos (by simpa using h0)]; trivial
  ·rw [if_neg (by simpa using h0)]
   refine ⟨fun _ => by unfold I64; omega, OM, ?_⟩
   split
   ·split
    ·trivial
    ·exact ⟨OM, trivial⟩
   ·trivial
 ·cases v with
  | true => rw [if_pos rfl]; exact ⟨by simp only [List.length_cons, List.length_nil]; omega, by simp only [List.length_append, List.length_cons, List.length_nil]; omega, fun q hq' => (List.mem_append.1 hq').elim (hx q) fun g => by rw [List.mem_singleton.1 g]; exact .of x1⟩
  | false => rw [if_neg RD]; exact ⟨OM, hx⟩
theorem F26.law (b : List UInt8) (p : Int) (l : List Str) (Q : Str → Int → Prop) (hb : b.length ≤ 2000) (hp : 0 ≤ p) (hp1 : p ≤ 1099511627776) (hl : 0 < l.length) (hq : ∀ s ∈ l, Q s (p + 1)) : F26.E b p l Q := by
 unfold F26.E
 exact F7.law _ _ _ _ hb hp hp1 fun v h0 h1 => ⟨OM, hq _ (nth_memi l h0 OM)⟩
theorem F78.law (b : List UInt8) (p : Int) (Q : Str → Int → Prop) (hb : b.length ≤ 2000) (hp : 0 ≤ p) (hp1 : p ≤ 1000000000) (hq : ∀ k ∈ keyL, Q k (p + 1)) : F78.E b p Q := by
 unfold F78.E
 exact F26.law _ _ _ _ hb hp OM RD hq
theorem F79.law (b : List UInt8) (p : Int) (Q : Str → Int → Prop) (hb : b.length ≤ 2000) (hp : 0 ≤ p) (hp1 : p ≤ 1000000000) (hq : ∀ k ∈ valL, Q k (p + 1)) : F79.E b p Q := by
 unfold F79.E
 exact F26.law _ _ _ _ hb hp OM RD hq
def PutT (s : List Tag) (key val : Str) (u : Nat) (xs : List Tag) (done : Bool) : Prop :=
 u ≤ s.length ∧ SS (keysT xs) ∧ (∀ x, x ∈ keysT xs ↔ x ∈ keysT (s.take u) ∨ (done = true ∧ x = key)) ∧ (done = false → (∀ x ∈ keysT (s.take u), Op.bytesLess x key = true) ∧ xs = s.take u) ∧
  (done = true → ∀ y ∈ keysT (s.drop u), Op.bytesLess key y = true) ∧ xs.length ≤ u + 1 ∧ (∀ z ∈ xs, z ∈ s ∨ z = ⟨key, val⟩)
theorem ss_snocT {l : List Str} {x : Str} (h : SS l) (hx : ∀ y ∈ l, Op.bytesLess y x = true) : SS (l ++ [x]) := by
 unfold SS
 rw [List.pairwise_append]
 exact ⟨h, List.pairwise_singleton _ _, fun a ha b hb => by rw [List.mem_singleton.1 hb]; exact hx a ha⟩
theorem keys_take {s : List Tag} {u : Nat} (hu : u < s.length) : keysT (s.take (u + 1)) = keysT (s.take u) ++ [(nth s (u : Int)).Key] := by rw [take_nth s hu, keys_app]; rfl
theorem keys_cut (s : List Tag) (u : Nat) : keysT s = keysT (s.take u) ++ keysT (s.drop u) := by rw [← keys_app, List.take_append_drop]
theorem dropNthT {s : List Tag} {u : Nat} (hu : u < s.length) : s.drop u = nth s (u : Int) :: s.drop (u + 1) := by rw [nth_nat s hu]; exact List.drop_eq_getElem_cons hu
theorem ss_ltT {s : List Tag} (h : SS (keysT s)) {u : Nat} (hu : u < s.length) : (∀ x ∈ keysT (s.take u), Op.bytesLess x (nth s (u : Int)).Key = true) ∧ ∀ y ∈ keysT (s.drop (u + 1)), Op.bytesLess (nth s (u : Int)).Key y = true := by
 have e := keys_cut s u
 rw [dropNthT hu] at e
 have e2 : keysT (nth s (u : Int) :: s.drop (u + 1)) = (nth s (u : Int)).Key :: keysT (s.drop (u + 1)) := rfl
 rw [e2] at e
 rw [e] at h
 obtain ⟨h1, h2, h3⟩ := List.pairwise_append.1 h
 exact ⟨fun x hx => h3 x hx _ List.mem_cons_self, (List.pairwise_cons.1 h2).1⟩
theorem F80.law (s : List Tag) (key val : Str) (Q : List Tag → Prop) (hl : s.length ≤ 1048576) (hs : SS (keysT s)) (hq : ∀ r, SS (keysT r) → (∀ x, x ∈ keysT r ↔ x ∈ keysT s ∨ x = key) → r.length ≤ s.length + 1 → (∀ z ∈ r, z ∈ s ∨ z = ⟨key, val⟩) → Q r) : F80.E s key val Q := by
 unfold F80.E
 refine ⟨fun xs done i => ∃ u : Nat, i = u ∧ PutT s key val u xs done, fun _ _ i => (s.length - i).toNat, ⟨0, rfl, Nat.zero_le _, by simp [keysT, SS], by simp [keysT], fun _ => ⟨by simp [keysT], by simp⟩, (fun h => by cases h), by simp, by simp⟩, ?_⟩
 rintro xs done _ ⟨u, rfl, hu, h1, h2, h3, h4, h5, h6⟩
 by_cases h : u < s.length
 ·rw [if_pos (by simpa using h)]
  obtain ⟨b1, b2⟩ := ss_ltT hs h
  have hin : nth s (u : Int) ∈ s := nth_mem s h
  have hdr : ∀ y ∈ keysT (s.drop u), y = (nth s (u : Int)).Key ∨ y ∈ keysT (s.drop (u + 1)) := fun y hy => by rw [dropNthT h] at hy; exact List.mem_cons.1 hy
  have hcur : (nth s (u : Int)).Key ∈ keysT (s.drop u) := by rw [dropNthT h]; exact List.mem_cons_self
  have hdr' : ∀ y ∈ keysT (s.drop (u + 1)), y ∈ keysT (s.drop u) := fun y hy => by rw [dropNthT h]; exact List.mem_cons_of_mem _ hy
  have stay : ∀ d, d = done → Op.bytesLess (nth s (u : Int)).Key key = true ∨ d = true → xs.length + 1 ≤ u + 1 + 1 → PutT s key val (u + 1) (xs ++ [nth s (u : Int)]) d := fun d hd hor hlen => by
   subst hd
   refine ⟨h, ?_, fun x => ?_, fun hdn => ⟨fun x hx => ?_, ?_⟩, fun hdn y hy => h4 hdn y (hdr' y hy), by simp only [List.length_append, List.length_singleton]; omega, fun z hz => ?_⟩
   ·rw [keys_app]
    refine ss_snocT h1 fun y hy => ?_
    rcases (h2 y).1 hy with hy | ⟨hd, rfl⟩
    ·exact b1 y hy
    ·exact h4 hd _ hcur
   ·rw [keys_app, List.mem_append, h2, keys_take h, List.mem_append]
    constructor
    ·rintro ((hx | hx) | hx)
     ·exact .inl (.inl hx)
     ·exact .inr hx
     ·exact .inl (.inr hx)
    ·rintro ((hx | hx) | hx)
     ·exact .inl (.inl hx)
     ·exact .inr hx
     ·exact .inl (.inr hx)
   ·rw [keys_take h] at hx
    rcases List.mem_append.1 hx with hx | hx
    ·exact (h3 hdn).1 x hx
    ·rw [List.mem_singleton.1 hx]
     rcases hor with hor | hor
     ·exact hor
     ·rw [hdn] at hor; cases hor
   ·rw [(h3 hdn).2, ← take_nth s h]
   ·rcases List.mem_append.1 hz with hz | hz
    ·exact h6 z hz
    ·rw [List.mem_singleton.1 hz]; exact .inl hin
  cases done with
  | true =>
   rw [if_neg RD]
   have hlt := h4 rfl _ hcur
   have hne : (nth s (u : Int)).Key ≠ key := fun e => by rw [e, less_irr] at hlt; cases hlt
   refine ⟨OM, ?_⟩
   rw [if_pos (by rw [bne_iff_ne]; exact hne)]
   exact ⟨OM, by simp only [List.length_cons, List.length_nil]; omega, OM, ⟨u + 1, OM, stay true rfl (.inr rfl) OM⟩, by dsimp only; omega⟩
  | false =>
   rw [if_pos RD]
   obtain ⟨c1, c2⟩ := h3 rfl
   have hxl : xs.length = u := by rw [c2, List.length_take]; omega
   refine ⟨OM, ?_⟩
   cases k : Op.bytesLess (nth s (u : Int)).Key key with
   | true =>
    rw [if_neg RD]
    have hne : (nth s (u : Int)).Key ≠ key := fun e => by rw [e, less_irr] at k; cases k
    refine ⟨OM, ?_⟩
    rw [if_pos (by rw [bne_iff_ne]; exact hne)]
    exact ⟨OM, by simp only [List.length_cons, List.length_nil]; omega, OM, ⟨u + 1, OM, stay false rfl (.inl k) OM⟩, by dsimp only; omega⟩
   | false =>
    rw [if_pos RD]
    have g1 : SS (keysT (xs ++ [(⟨key, val⟩ : Tag)])) := by
     rw [keys_app]
     refine ss_snocT h1 fun y hy => ?_
     rcases (h2 y).1 hy with hy | ⟨hd, _⟩
     ·exact c1 y hy
     ·cases hd
    refine ⟨by simp only [List.length_cons, List.length_nil]; omega, OM, ?_⟩
    by_cases hne : (nth s (u : Int)).Key = key
    ·rw [if_neg (by rw [hne]; simp)]
     refine ⟨OM, ⟨u + 1, OM, h, g1, fun x => ?_, (fun hd => by cases hd), fun _ y hy => by rw [← hne]; exact b2 y hy, by simp only [List.length_append, List.length_singleton]; omega, fun z hz => ?_⟩, by dsimp only; omega⟩
     ·rw [keys_app, List.mem_append, h2, keys_take h, List.mem_append, hne]
      show _ ∨ x ∈ [key] ↔ _
      rw [List.mem_singleton]
      constructor
      ·rintro ((hx | ⟨hd, _⟩) | hx)
       ·exact .inl (.inl hx)
       ·cases hd
       ·exact .inr ⟨rfl, hx⟩
      ·rintro ((hx | hx) | ⟨_, hx⟩)
       ·exact .inl (.inl hx)
       ·exact .inr hx
       ·exact .inr hx
     ·rcases List.mem_append.1 hz with hz | hz
      ·exact h6 z hz
      ·exact .inr (List.mem_singleton.1 hz)
    ·rw [if_pos (by rw [bne_iff_ne]; exact hne)]
     have hlt : Op.bytesLess key (nth s (u : Int)).Key = true := by
      rcases less_or k with g | g
      ·exact g
      ·exact absurd g.symm hne
     refine ⟨OM, by simp only [List.length_append, List.length_cons, List.length_nil]; omega, OM, ⟨u + 1, OM, h, ?_, fun x => ?_, (fun hd => by cases hd), fun _ y hy => less_trans hlt (b2 y hy), by simp only [List.length_append, List.length_singleton]; omega, fun z hz => ?_⟩, by dsimp only; omega⟩
     ·rw [keys_app]
      refine ss_snocT g1 fun y hy => ?_
      rw [keys_app] at hy
      rcases List.mem_append.1 hy with hy | hy
      ·rcases (h2 y).1 hy with hy | ⟨hd, _⟩
       ·exact b1 y hy
       ·cases hd
      ·have hy : y = key := List.mem_singleton.1 hy
       rw [hy]; exact hlt
     ·rw [keys_app, keys_app, List.mem_append, List.mem_append, h2, keys_take h, List.mem_append]
      show (_ ∨ x ∈ [key]) ∨ x ∈ [(nth s (u : Int)).Key] ↔ _
      rw [List.mem_singleton, List.mem_singleton]
      constructor
      ·rintro (((hx | ⟨hd, _⟩) | hx) | hx)
       ·exact .inl (.inl hx)
       ·cases hd
       ·exact .inr ⟨rfl, hx⟩
       ·exact .inl (.inr hx)
      ·rintro ((hx | hx) | ⟨_, hx⟩)
       ·exact .inl (.inl (.inl hx))
       ·exact .inr hx
       ·exact .inl (.inr hx)
     ·rcases List.mem_append.1 hz with hz | hz
      ·rcases List.mem_append.1 hz with hz | hz
       ·exact h6 z hz
       ·exact .inr (List.mem_singleton.1 hz)
      ·rw [List.mem_singleton.1 hz]; exact .inl hin
 ·rw [if_neg (by simpa using h)]
  have : u = s.length := by omega
  subst this
  rw [List.take_length] at h2 h3
  cases done with
  | true =>
   rw [if_neg RD]
   exact hq xs h1 (fun x => by rw [h2]; simp) h5 h6
  | false =>
   rw [if_pos RD]
   obtain ⟨c1, c2⟩ := h3 rfl
   refine ⟨by simp only [List.length_cons, List.length_nil]; omega, hq _ ?_ (fun x => ?_) (by rw [c2]; simp) fun z hz => ?_⟩
   ·rw [keys_app]
    refine ss_snocT h1 fun y hy => ?_
    rcases (h2 y).1 hy with hy | ⟨hd, _⟩
    ·exact c1 y hy
    ·cases hd
   ·rw [keys_app, List.mem_append, h2]
    show _ ∨ x ∈ [key] ↔ _
    rw [List.mem_singleton]; simp
   ·rcases List.mem_append.1 hz with hz | hz
    ·exact h6 z hz
    ·exact .inr (List.mem_singleton.1 hz)
theorem keys_drawn {s : List Tag} {k v : Str} (hk : k ∈ keyL) (hv : v ∈ valL) (h : ∀ x ∈ s, DT x) {r : List Tag} (hr : ∀ z ∈ r, z ∈ s ∨ z = ⟨k, v⟩) : ∀ x ∈ r, DT x := fun x hx => by
 rcases hr x hx with g | rfl
 ·exact h x g
 ·exact ⟨hk, hv⟩
theorem F58.law (b : List UInt8) (p : Int) (id : Str) (Q : Feat → Int → Prop) (hb : b.length ≤ 2000) (hp : 0 ≤ p) (hp1 : p ≤ 10000000) (hq : ∀ s t p', shapeOk s = true → SS (keysT t) → t.length ≤ 3 → (∀ x ∈ t, DT x) → (∀ q ∈ s.Pts, NX q) → p ≤ p' → p' ≤ p + 60 → Q ⟨id, s, t⟩ p') : F58.E b p id Q := by
 unfold F58.E
 refine F34.law _ _ _ hb hp OM fun s p1 hs hx p0 p2 => F7.law _ _ _ _ hb OM OM fun k hk0 hk1 => ?_
 refine ⟨fun i t z => 0 ≤ i ∧ i ≤ 3 ∧ SS (keysT t) ∧ (t.length : Int) + i ≤ 3 ∧ (∀ x ∈ t, DT x) ∧ p ≤ z ∧ z ≤ p + 41 + 2 * (3 - i), fun i _ _ => i.toNat, ⟨OM, OM, List.Pairwise.nil, by simp only [List.length_nil]; omega, by simp, OM, OM⟩, ?_⟩
 rintro i t z ⟨h0, h1, h2, h3, h4, h5, h6⟩
 by_cases hi : i > 0
 case neg => rw [if_neg (by simpa using hi)]; exact hq _ _ _ hs h2 OM h4 hx h5 OM
 rw [if_pos (by simpa using hi)]
 refine F78.law _ _ _ hb OM OM fun key hkey => F79.law _ _ _ hb OM OM fun val hval => F80.law _ _ _ _ OM h2 fun r r1 r2 r3 r4 => ⟨by unfold I64; omega, ⟨OM, OM, r1, OM, keys_drawn hkey hval h4 r4, OM, OM⟩, by dsimp only; omega⟩
theorem feat_drawn {id : Str} {s : Shape} {t : List Tag} (h1 : wordOk id = true) (h2 : shapeOk s = true) (h3 : SS (keysT t)) (h4 : t.length ≤ 3) (h5 : ∀ x ∈ t, DT x) : featOk ⟨id, s, t⟩ = true := feat_of h1 h2 h3 OM fun x hx => (h5 x hx).ok
theorem F87.law (b : List UInt8) (p : Int) (Q : Str → Int → Prop) (hb : b.length ≤ 2000) (hp : 0 ≤ p) (hp1 : p ≤ 1000000000) (hq : ∀ k ∈ idL, Q k (p + 1)) : F87.E b p Q := by
 unfold F87.E
 exact F26.law _ _ _ _ hb hp OM RD hq
def PutS (s : List Feat) (f : Feat) (u : Nat) (xs : List Feat) (done : Bool) : Prop :=
 u ≤ s.length ∧ SS (ids xs) ∧ (∀ x, x ∈ ids xs ↔ x ∈ ids (s.take u) ∨ (done = true ∧ x = f.Id)) ∧ (done = false → (∀ x ∈ ids (s.take u), Op.bytesLess x f.Id = true) ∧ xs = s.take u) ∧
  (done = true → ∀ y ∈ ids (s.drop u), Op.bytesLess f.Id y = true) ∧ xs.length ≤ u + 1 ∧ (∀ z ∈ xs, z ∈ s ∨ z = f)
theorem ss_snoc {l : List Str} {x : Str} (h : SS l) (hx : ∀ y ∈ l, Op.bytesLess y x = true) : SS (l ++ [x]) := by
 unfold SS
 rw [List.pairwise_append]
 exact ⟨h, List.pairwise_singleton _ _, fun a ha b hb => by rw [List.mem_singleton.1 hb]; exact hx a ha⟩
theorem ids_take {s : List Feat} {u : Nat} (hu : u < s.length) : ids (s.take (u + 1)) = ids (s.take u) ++ [(nth s (u : Int)).Id] := by rw [take_nth s hu, ids_app]; rfl
theorem ids_cut (s : List Feat) (u : Nat) : ids s = ids (s.take u) ++ ids (s.drop u) := by rw [← ids_app, List.take_append_drop]
theorem dropNth {s : List Feat} {u : Nat} (hu : u < s.length) : s.drop u = nth s (u : Int) :: s.drop (u + 1) := by rw [nth_nat s hu]; exact List.drop_eq_getElem_cons hu
theorem ss_lt {s : List Feat} (h : SS (ids s)) {u : Nat} (hu : u < s.length) : (∀ x ∈ ids (s.take u), Op.bytesLess x (nth s (u : Int)).Id = true) ∧ ∀ y ∈ ids (s.drop (u + 1)), Op.bytesLess (nth s (u : Int)).Id y = true := by
 have e := ids_cut s u
 rw [dropNth hu] at e
 have e2 : ids (nth s (u : Int) :: s.drop (u + 1)) = (nth s (u : Int)).Id :: ids (s.drop (u + 1)) := rfl
 rw [e2] at e
 rw [e] at h
 obtain ⟨h1, h2, h3⟩ := List.pairwise_append.1 h
 exact ⟨fun x hx => h3 x hx _ List.mem_cons_self, (List.pairwise_cons.1 h2).1⟩
theorem F81.law (s : List Feat) (f : Feat) (Q : List Feat → Prop) (hl : s.length ≤ 1048576) (hs : SS (ids s)) (hq : ∀ r, SS (ids r) → (∀ x, x ∈ ids r ↔ x ∈ ids s ∨ x = f.Id) → r.length ≤ s.length + 1 → (∀ z ∈ r, z ∈ s ∨ z = f) → Q r) : F81.E s f Q := by
 unfold F81.E
 refine ⟨fun xs done i => ∃ u : Nat, i = u ∧ PutS s f u xs done, fun _ _ i => (s.length - i).toNat, ⟨0, rfl, Nat.zero_le _, by simp [ids, SS], by simp [ids], fun _ => ⟨by simp [ids], by simp⟩, (fun h => by cases h), by simp, by simp⟩, ?_⟩
 rintro xs done _ ⟨u, rfl, hu, h1, h2, h3, h4, h5, h6⟩
 by_cases h : u < s.length
 ·rw [if_pos (by simpa using h)]
  obtain ⟨b1, b2⟩ := ss_lt hs h
  have hin : nth s (u : Int) ∈ s := nth_mem s h
  have hdr : ∀ y ∈ ids (s.drop u), y = (nth s (u : Int)).Id ∨ y ∈ ids (s.drop (u + 1)) := fun y hy => by rw [dropNth h] at hy; exact List.mem_cons.1 hy
  have hcur : (nth s (u : Int)).Id ∈ ids (s.drop u) := by rw [dropNth h]; exact List.mem_cons_self
  have hdr' : ∀ y ∈ ids (s.drop (u + 1)), y ∈ ids (s.drop u) := fun y hy => by rw [dropNth h]; exact List.mem_cons_of_mem _ hy
  have stay : ∀ d, d = done → Op.bytesLess (nth s (u : Int)).Id f.Id = true ∨ d = true → xs.length + 1 ≤ u + 1 + 1 → PutS s f (u + 1) (xs ++ [nth s (u : Int)]) d := fun d hd hor hlen => by
   subst hd
   refine ⟨h, ?_, fun x => ?_, fun hdn => ⟨fun x hx => ?_, ?_⟩, fun hdn y hy => h4 hdn y (hdr' y hy), by simp only [List.length_append, List.length_singleton]; omega, fun z hz => ?_⟩
   ·rw [ids_app]
    refine ss_snoc h1 fun y hy => ?_
    rcases (h2 y).1 hy with hy | ⟨hd, rfl⟩
    ·exact b1 y hy
    ·exact h4 hd _ hcur
   ·rw [ids_app, List.mem_append, h2, ids_take h, List.mem_append]
    constructor
    ·rintro ((hx | hx) | hx)
     ·exact .inl (.inl hx)
     ·exact .inr hx
     ·exact .inl (.inr hx)
    ·rintro ((hx | hx) | hx)
     ·exact .inl (.inl hx)
     ·exact .inr hx
     ·exact .inl (.inr hx)
   ·rw [ids_take h] at hx
    rcases List.mem_append.1 hx with hx | hx
    ·exact (h3 hdn).1 x hx
    ·rw [List.mem_singleton.1 hx]
     rcases hor with hor | hor
     ·exact hor
     ·rw [hdn] at hor; cases hor
   ·rw [(h3 hdn).2, ← take_nth s h]
   ·rcases List.mem_append.1 hz with hz | hz
    ·exact h6 z hz
    ·rw [List.mem_singleton.1 hz]; exact .inl hin
  cases done with
  | true =>
   rw [if_neg RD]
   have hlt := h4 rfl _ hcur
   have hne : (nth s (u : Int)).Id ≠ f.Id := fun e => by rw [e, less_irr] at hlt; cases hlt
   refine ⟨OM, ?_⟩
   rw [if_pos (by rw [bne_iff_ne]; exact hne)]
   exact ⟨OM, by simp only [List.length_cons, List.length_nil]; omega, OM, ⟨u + 1, OM, stay true rfl (.inr rfl) OM⟩, by dsimp only; omega⟩
  | false =>
   rw [if_pos RD]
   obtain ⟨c1, c2⟩ := h3 rfl
   have hxl : xs.length = u := by rw [c2, List.length_take]; omega
   refine ⟨OM, ?_⟩
   cases k : Op.bytesLess (nth s (u : Int)).Id f.Id with
   | true =>
    rw [if_neg RD]
    have hne : (nth s (u : Int)).Id ≠ f.Id := fun e => by rw [e, less_irr] at k; cases k
    refine ⟨OM, ?_⟩
    rw [if_pos (by rw [bne_iff_ne]; exact hne)]
    exact ⟨OM, by simp only [List.length_cons, List.length_nil]; omega, OM, ⟨u + 1, OM, stay false rfl (.inl k) OM⟩, by dsimp only; omega⟩
   | false =>
    rw [if_pos RD]
    have g1 : SS (ids (xs ++ [f])) := by
     rw [ids_app]
     refine ss_snoc h1 fun y hy => ?_
     rcases (h2 y).1 hy with hy | ⟨hd, _⟩
     ·exact c1 y hy
     ·cases hd
    refine ⟨by simp only [List.length_cons, List.length_nil]; omega, OM, ?_⟩
    by_cases hne : (nth s (u : Int)).Id = f.Id
    ·rw [if_neg (by rw [hne]; simp)]
     refine ⟨OM, ⟨u + 1, OM, h, g1, fun x => ?_, (fun hd => by cases hd), fun _ y hy => by rw [← hne]; exact b2 y hy, by simp only [List.length_append, List.length_singleton]; omega, fun z hz => ?_⟩, by dsimp only; omega⟩
     ·rw [ids_app, List.mem_append, h2, ids_take h, List.mem_append, hne]
      show _ ∨ x ∈ [f.Id] ↔ _
      rw [List.mem_singleton]
      constructor
      ·rintro ((hx | ⟨hd, _⟩) | hx)
       ·exact .inl (.inl hx)
       ·cases hd
       ·exact .inr ⟨rfl, hx⟩
      ·rintro ((hx | hx) | ⟨_, hx⟩)
       ·exact .inl (.inl hx)
       ·exact .inr hx
       ·exact .inr hx
     ·rcases List.mem_append.1 hz with hz | hz
      ·exact h6 z hz
      ·exact .inr (List.mem_singleton.1 hz)
    ·rw [if_pos (by rw [bne_iff_ne]; exact hne)]
     have hlt : Op.bytesLess f.Id (nth s (u : Int)).Id = true := by
      rcases less_or k with g | g
      ·exact g
      ·exact absurd g.symm hne
     refine ⟨OM, by simp only [List.length_append, List.length_cons, List.length_nil]; omega, OM, ⟨u + 1, OM, h, ?_, fun x => ?_, (fun hd => by cases hd), fun _ y hy => less_trans hlt (b2 y hy), by simp only [List.length_append, List.length_singleton]; omega, fun z hz => ?_⟩, by dsimp only; omega⟩
     ·rw [ids_app]
      refine ss_snoc g1 fun y hy => ?_
      rw [ids_app] at hy
      rcases List.mem_append.1 hy with hy | hy
      ·rcases (h2 y).1 hy with hy | ⟨hd, _⟩
       ·exact b1 y hy
       ·cases hd
      ·have hy : y = f.Id := List.mem_singleton.1 hy
       rw [hy]; exact hlt
     ·rw [ids_app, ids_app, List.mem_append, List.mem_append, h2, ids_take h, List.mem_append]
      show (_ ∨ x ∈ [f.Id]) ∨ x ∈ [(nth s (u : Int)).Id] ↔ _
      rw [List.mem_singleton, List.mem_singleton]
      constructor
      ·rintro (((hx | ⟨hd, _⟩) | hx) | hx)
       ·exact .inl (.inl hx)
       ·cases hd
       ·exact .inr ⟨rfl, hx⟩
       ·exact .inl (.inr hx)
      ·rintro ((hx | hx) | ⟨_, hx⟩)
       ·exact .inl (.inl (.inl hx))
       ·exact .inr hx
       ·exact .inl (.inr hx)
     ·rcases List.mem_append.1 hz with hz | hz
      ·rcases List.mem_append.1 hz with hz | hz
       ·exact h6 z hz
       ·exact .inr (List.mem_singleton.1 hz)
      ·rw [List.mem_singleton.1 hz]; exact .inl hin
 ·rw [if_neg (by simpa using h)]
  have : u = s.length := by omega
  subst this
  rw [List.take_length] at h2 h3
  cases done with
  | true =>
   rw [if_neg RD]
   exact hq xs h1 (fun x => by rw [h2]; simp) h5 h6
  | false =>
   rw [if_pos RD]
   obtain ⟨c1, c2⟩ := h3 rfl
   refine ⟨by simp only [List.length_cons, List.length_nil]; omega, hq _ ?_ (fun x => ?_) (by rw [c2]; simp) fun z hz => ?_⟩
   ·rw [ids_app]
    refine ss_snoc h1 fun y hy => ?_
    rcases (h2 y).1 hy with hy | ⟨hd, _⟩
    ·exact c1 y hy
    ·cases hd
   ·rw [ids_app, List.mem_append, h2]
    show _ ∨ x ∈ [f.Id] ↔ _
    rw [List.mem_singleton]; simp
   ·rcases List.mem_append.1 hz with hz | hz
    ·exact h6 z hz
    ·exact .inr (List.mem_singleton.1 hz)
theorem F35.gen (P : Str → Prop) (hP : ∀ k ∈ idL, P k) (b : List UInt8) (p : Int) (Q : List Feat → Int → Prop) (hb : b.length ≤ 2000) (hp : 0 ≤ p) (hp1 : p ≤ 1000000) (hq : ∀ s p', sheetOk s = true → s.length ≤ 4 → (∀ f ∈ s, P f.Id) → (∀ f ∈ s, ∀ q ∈ f.Shape.Pts, NX q) → p ≤ p' → p' ≤ p + 300 → Q s p') : F35.E b p Q := by
 unfold F35.E
 refine F7.law _ _ _ _ hb hp OM fun k hk0 hk1 => ?_
 refine ⟨fun s i z => 0 ≤ i ∧ i ≤ 4 ∧ SS (ids s) ∧ (s.length : Int) + i ≤ 4 ∧ (∀ f ∈ s, featOk f = true ∧ P f.Id ∧ ∀ q ∈ f.Shape.Pts, NX q) ∧ p ≤ z ∧ z ≤ p + 1 + 61 * (4 - i), fun _ i _ => i.toNat, ⟨OM, OM, List.Pairwise.nil, by simp only [List.length_nil]; omega, by simp, OM, OM⟩, ?_⟩
 rintro s i z ⟨h0, h1, h2, h3, h4, h5, h6⟩
 by_cases hi : i > 0
 case neg => rw [if_neg (by simpa using hi)]; exact hq _ _ (sheet_of h2 OM fun f hf => (h4 f hf).1) OM (fun f hf => (h4 f hf).2.1) (fun f hf => (h4 f hf).2.2) h5 OM
 rw [if_pos (by simpa using hi)]
 refine F87.law _ _ _ hb OM OM fun id hid => F58.law _ _ _ _ hb OM OM fun sh t p1 hs ht tl td hx p2 p3 => F81.law _ _ _ OM h2 fun r r1 r2 r3 r4 => ⟨by unfold I64; omega, ⟨OM, OM, r1, OM, fun f hf => ?_, OM, OM⟩, by dsimp only; omega⟩
 rcases r4 f hf with g | rfl
 ·exact h4 f g
 ·exact ⟨feat_drawn (idL_ok _ hid) hs ht tl td, hP _ hid, hx⟩
theorem F35.law (b : List UInt8) (p : Int) (Q : List Feat → Int → Prop) (hb : b.length ≤ 2000) (hp : 0 ≤ p) (hp1 : p ≤ 1000000) (hq : ∀ s p', sheetOk s = true → s.length ≤ 4 → (∀ f ∈ s, f.Id ≠ zzI) → (∀ f ∈ s, ∀ q ∈ f.Shape.Pts, NX q) → p ≤ p' → p' ≤ p + 300 → Q s p') : F35.E b p Q :=
 F35.gen (fun i => i ≠ zzI) idL_nz b p Q hb hp hp1 hq
theorem F59.law (s : List Feat) (id : Str) (Q : Int → Prop) (hq : Q (findN s.length fun j => (nth s (j : Int)).Id == id)) : F59.E s id Q := by
 unfold F59.E
 refine loop_find s.length (fun j => (nth s (j : Int)).Id == id) hq (fun I mu k hk h1 h2 => ⟨OM, ?_⟩)
 cases h : (nth s (k : Int)).Id == id with
 | true => rw [if_pos rfl]; exact h1 h
 | false => rw [if_neg RD]; obtain ⟨i1, i2⟩ := h2 h; exact ⟨OM, i1, i2⟩
theorem F82.law (s : List Feat) (id : Str) (Q : List Feat → Prop) (hl : s.length ≤ 1048576) (hq : Q (s.filter fun f => decide (f.Id ≠ id))) : F82.E s id Q := by
 unfold F82.E
 refine ⟨fun xs i => ∃ u : Nat, i = u ∧ u ≤ s.length ∧ xs = (s.take u).filter fun f => decide (f.Id ≠ id), fun _ i => (s.length - i).toNat, ⟨0, rfl, Nat.zero_le _, rfl⟩, ?_⟩
 rintro _ _ ⟨u, rfl, hu, rfl⟩
 have hfl := List.length_filter_le (fun f : Feat => decide (f.Id ≠ id)) (s.take u)
 rw [List.length_take] at hfl
 by_cases h : u < s.length
 ·rw [if_pos (by simpa using h)]
  refine ⟨OM, ?_⟩
  by_cases e : (nth s (u : Int)).Id = id
  ·rw [if_neg (by rw [e]; simp)]
   refine ⟨OM, ⟨u + 1, OM, OM, ?_⟩, by dsimp only; omega⟩
   rw [take_nth s h, List.filter_append, List.filter_cons_of_neg (by rw [decide_eq_true_eq]; exact fun g => g e), List.filter_nil, List.append_nil]
  ·rw [if_pos (by rw [bne_iff_ne]; exact e)]
   refine ⟨OM, by simp only [List.length_cons, List.length_nil]; omega, OM, ⟨u + 1, OM, OM, ?_⟩, by dsimp only; omega⟩
   rw [take_nth s h, List.filter_append, List.filter_cons_of_pos (by rw [decide_eq_true_eq]; exact e), List.filter_nil]
 ·rw [if_neg (by simpa using h)]
  have : u = s.length := by omega
  subst this
  rw [List.take_length]; exact hq
theorem F62.law (b : List UInt8) (p : Int) (s : Shape) (Q : Shape → Int → Prop) (hb : b.length ≤ 2000) (hp : 0 ≤ p) (hp1 : p ≤ 10000000) (hs : s.Pts.length ≤ 1000) (hq : ∀ r p', (r = s ∨ shapeOk r = true) → p ≤ p' → p' ≤ p + 4 → Q r p') : F62.E b p s Q := by
 unfold F62.E
 by_cases h0 : (s.Pts.length : Int) = 0
 ·rw [if_pos (by simpa using h0)]; exact hq _ _ (.inl rfl) OM OM
 rw [if_neg (by simpa using h0)]
 refine F7.law _ _ _ _ hb hp OM fun k hk0 hk1 => ⟨OM, by simp only [List.length_take, List.length_drop, List.length_nil]; omega, F7.law _ _ _ _ hb OM OM fun v hv0 hv1 => ?_⟩
 have fin : ∀ (r : Shape) (z : Int), p ≤ z → z ≤ p + 4 → F29.E r (fun r5 => (if !r5 then Q s z else Q r z)) := fun r z h1 h2 => by
  refine F29.law _ _ ?_
  cases h : shapeOk r with
  | true => rw [if_neg RD]; exact hq _ _ (.inr h) h1 h2
  | false => rw [if_pos RD]; exact hq _ _ (.inl rfl) h1 h2
 refine ⟨fun _ z => p ≤ z ∧ z ≤ p + 4, ?_, fun xs z hz => fin _ _ hz.1 hz.2⟩
 split
 ·exact ⟨OM, F88.law _ _ _ hb OM OM fun x y _ _ _ _ => ⟨by simp only [List.length_append, List.length_take, List.length_drop, List.length_nil, List.length_cons]; omega, by simp only [List.length_append, List.length_take, List.length_drop, List.length_nil, List.length_cons]; omega, OM, OM⟩⟩
 split
 ·exact ⟨fun _ => by unfold I64; omega, OM, by simp only [List.length_append, List.length_take, List.length_drop, List.length_nil, List.length_cons]; omega, OM, OM⟩
 exact ⟨fun _ => by unfold I64; omega, OM, F88.law _ _ _ hb OM OM fun x y _ _ _ _ => ⟨by simp only [List.length_append, List.length_take, List.length_drop, List.length_nil, List.length_cons]; omega, by simp only [List.length_append, List.length_take, List.length_drop, List.length_nil, List.length_cons]; omega, OM, OM⟩⟩
theorem F61.law (f : Feat) (Q : Feat → Prop) (hb : bulk f ≤ 1048576) (hq : Q f) : F61.E f Q := by
 unfold F61.E F60.E
 have h := bulk_feat f
 have h1 := bulk_len f.Tags
 have h2 := bulk_len f.Shape.Pts
 exact ⟨by simp only [List.length_nil]; omega, by simp only [List.length_nil]; omega, hq⟩
theorem F41.law (s : Str) (Q : Bool → Prop) (hq : Q (wordOk s)) : F41.E s Q := by
 unfold F41.E
 unfold wordOk at hq
 refine loop_all s.length (fun k => byteOk (nth s (k : Int))) (fun I mu k hk hp hn => ?_) (fun ha => ?_)
 ·refine ⟨OM, ?_⟩
  cases h1 : decide (((nth s (k : Int)).toNat : Int) < 97) with
  | true => rw [if_pos rfl]; rw [allN_false hk (by simp only [byteOk, h1]; rfl), Bool.false_and] at hq; exact hq
  | false =>
   rw [if_neg RD]
   refine ⟨OM, ?_⟩
   cases h2 : decide (((nth s (k : Int)).toNat : Int) > 122) with
   | true => rw [if_pos rfl]; rw [allN_false hk (by simp only [byteOk, h1, h2]; rfl), Bool.false_and] at hq; exact hq
   | false =>
    rw [if_neg RD]
    obtain ⟨i1, i2⟩ := hn (by simp only [byteOk, h1, h2]; rfl)
    exact ⟨OM, i1, i2⟩
 ·rw [allN_true ha, Bool.true_and] at hq
  by_cases h : 1 ≤ s.length
  ·rw [decide_eq_true h, Bool.true_and] at hq
   rw [if_pos (by rw [decide_eq_true_eq]; omega)]
   have e2 : decide ((s.length : Int) ≤ 6) = decide (s.length ≤ 6) := decide_eq_decide.2 OM
   rw [e2]; exact hq
  ·rw [decide_eq_false h, Bool.false_and] at hq
   rw [if_neg (by rw [decide_eq_true_eq]; omega)]; exact hq
theorem F44.law (t : List Tag) (Q : Bool → Prop) (hq : Q (tagsOk t && decide (t.length ≤ 4))) : F44.E t Q := by
 unfold F44.E
 unfold tagsOk at hq
 refine loop_all t.length (fun k => wordOk (nth t (k : Int)).Key && wordOk (nth t (k : Int)).Val && (decide (k = 0) || Op.bytesLess (nth t ((k : Int) - 1)).Key (nth t (k : Int)).Key)) (fun I mu k hk hp hn => ?_) (fun ha => ?_)
 ·have bad : (wordOk (nth t (k : Int)).Key && wordOk (nth t (k : Int)).Val && (decide (k = 0) || Op.bytesLess (nth t ((k : Int) - 1)).Key (nth t (k : Int)).Key)) = false → Q false := fun h => by
   rw [allN_false hk h, Bool.false_and] at hq; exact hq
  refine ⟨OM, _, F41.law _ _ rfl, ?_⟩
  cases h1 : wordOk (nth t (k : Int)).Key with
  | false => rw [if_pos RD]; exact bad (by rw [h1]; rfl)
  | true =>
   rw [if_neg RD]
   refine ⟨OM, _, F41.law _ _ rfl, ?_⟩
   cases h2 : wordOk (nth t (k : Int)).Val with
   | false => rw [if_pos RD]; exact bad (by rw [h2, Bool.and_false]; rfl)
   | true =>
    rw [if_neg RD]
    by_cases hk0 : k = 0
    ·rw [if_neg (by rw [decide_eq_true_eq]; omega)]
     obtain ⟨i1, i2⟩ := hn (by rw [h1, h2, decide_eq_true hk0]; rfl)
     exact ⟨OM, i1, i2⟩
    ·rw [if_pos (by rw [decide_eq_true_eq]; omega)]
     refine ⟨OM, fun _ => by unfold I64; omega, OM, ?_⟩
     rw [← less_tri]
     cases h3 : Op.bytesLess (nth t ((k : Int) - 1)).Key (nth t (k : Int)).Key with
     | false => rw [if_pos RD]; exact bad (by rw [h3, h1, h2, decide_eq_false hk0]; rfl)
     | true =>
      rw [if_neg RD]
      obtain ⟨i1, i2⟩ := hn (by rw [h3, h1, h2, decide_eq_false hk0]; rfl)
      exact ⟨OM, i1, i2⟩
 ·rw [allN_true ha, Bool.true_and] at hq
  have e2 : decide ((t.length : Int) ≤ 4) = decide (t.length ≤ 4) := decide_eq_decide.2 OM
  rw [e2]; exact hq
theorem F45.law (f : Feat) (Q : Bool → Prop) (hq : Q (featOk f)) : F45.E f Q := by
 unfold F45.E
 unfold featOk at hq
 refine F41.law _ _ ?_
 cases h1 : wordOk f.Id with
 | false => rw [h1, Bool.and_false, Bool.false_and] at hq; rw [if_neg RD]; exact hq
 | true =>
  rw [h1, Bool.and_true] at hq
  rw [if_pos rfl]
  refine F29.law _ _ ?_
  cases h2 : shapeOk f.Shape with
  | false => rw [h2, Bool.and_false] at hq; rw [if_neg RD]; exact hq
  | true => rw [h2, Bool.and_true] at hq; rw [if_pos rfl]; exact F44.law _ _ hq
theorem F36.law (d : List Feat) (Q : Bool → Prop) (hq : Q (sheetOk d)) : F36.E d Q := by
 unfold F36.E
 unfold sheetOk at hq
 refine loop_all d.length (fun k => featOk (nth d (k : Int)) && (decide (k = 0) || Op.bytesLess (nth d ((k : Int) - 1)).Id (nth d (k : Int)).Id)) (fun I mu k hk hp hn => ?_) (fun ha => ?_)
 ·have bad : (featOk (nth d (k : Int)) && (decide (k = 0) || Op.bytesLess (nth d ((k : Int) - 1)).Id (nth d (k : Int)).Id)) = false → Q false := fun h => by
   rw [allN_false hk h, Bool.false_and] at hq; exact hq
  refine ⟨OM, _, F45.law _ _ rfl, ?_⟩
  cases h1 : featOk (nth d (k : Int)) with
  | false => rw [if_pos RD]; exact bad (by rw [h1]; rfl)
  | true =>
   rw [if_neg RD]
   by_cases hk0 : k = 0
   ·rw [if_neg (by rw [decide_eq_true_eq]; omega)]
    obtain ⟨i1, i2⟩ := hn (by rw [h1, decide_eq_true hk0]; rfl)
    exact ⟨OM, i1, i2⟩
   ·rw [if_pos (by rw [decide_eq_true_eq]; omega)]
    refine ⟨OM, fun _ => by unfold I64; omega, OM, ?_⟩
    rw [← less_tri]
    cases h3 : Op.bytesLess (nth d ((k : Int) - 1)).Id (nth d (k : Int)).Id with
    | false => rw [if_pos RD]; exact bad (by rw [h3, h1, decide_eq_false hk0]; rfl)
    | true =>
     rw [if_neg RD]
     obtain ⟨i1, i2⟩ := hn (by rw [h3, h1, decide_eq_false hk0]; rfl)
     exact ⟨OM, i1, i2⟩
 ·rw [allN_true ha, Bool.true_and] at hq
  have e2 : decide ((d.length : Int) ≤ 8) = decide (d.length ≤ 8) := decide_eq_decide.2 OM
  rw [e2]; exact hq
theorem FB.put {n : Nat} {f : Feat} (h : FB n f) {k v : Str} (hk : k ∈ keyL) (hv : v ∈ valL) {r : List Tag} (hl : r.length ≤ f.Tags.length + 1) (hr : ∀ z ∈ r, z ∈ f.Tags ∨ z = ⟨k, v⟩) : FB (n + 1) ⟨f.Id, f.Shape, r⟩ := ⟨h.id, h.pts, Nat.le_trans hl (Nat.succ_le_succ h.len), fun x hx => by
 rcases hr x hx with g | rfl
 ·exact h.wd x g
 ·exact DT.len ⟨hk, hv⟩⟩
theorem F63.gen (P : Str → Prop) (hP : ∀ k ∈ idL, P k) (b : List UInt8) (p : Int) (s : List Feat) (Q : List Feat → Int → Prop) (hb : b.length ≤ 2000) (hp : 0 ≤ p) (hp1 : p ≤ 1000000) (hs : sheetOk s = true) (hz : ∀ f ∈ s, P f.Id) (hq : ∀ r p', sheetOk r = true → (∀ f ∈ r, P f.Id) → p ≤ p' → p' ≤ p + 250 → Q r p') : F63.E b p s Q := by
 unfold F63.E
 have mb := MB.of hs
 refine F7.law _ _ _ _ hb hp OM fun k hk0 hk1 => ⟨by unfold I64; omega, ?_⟩
 refine ⟨fun s i z => 0 ≤ i ∧ i ≤ 3 ∧ SS (ids s) ∧ (s.length : Int) + i ≤ 11 ∧ (∀ f ∈ s, SS (keysT f.Tags) ∧ FB (7 - i.toNat) f ∧ P f.Id) ∧ p ≤ z ∧ z ≤ p + 1 + 65 * (3 - i), fun _ i _ => i.toNat, ⟨OM, OM, (sheet_ss hs).1, by have := mb.len; omega, fun f hf => ⟨featOk_tags ((sheet_ss hs).2.2 f hf), (mb.fb f hf).mono OM, hz f hf⟩, OM, OM⟩, ?_⟩
 rintro s2 i z ⟨h0, h1, h2, h3, h4, h5, h6⟩
 by_cases hi : i > 0
 case neg =>
  rw [if_neg (by simpa using hi)]
  refine F36.law _ _ ?_
  cases h : sheetOk s2 with
  | true => rw [if_neg RD]; exact hq _ _ h (fun f hf => (h4 f hf).2.2) h5 OM
  | false => rw [if_pos RD]; exact hq _ _ hs hz h5 OM
 rw [if_pos (by simpa using hi)]
 have em : 7 - (i - 1).toNat = 7 - i.toNat + 1 := by omega
 have step : ∀ (f : Feat), SS (keysT f.Tags) → FB (7 - i.toNat + 1) f → P f.Id → ∀ r : List Feat, (∀ z ∈ r, z ∈ s2 ∨ z = f) → ∀ x ∈ r, SS (keysT x.Tags) ∧ FB (7 - (i - 1).toNat) x ∧ P x.Id := fun f a1 a2 a3 r hr x hx => by
  rw [em]
  rcases hr x hx with g | rfl
  ·have := h4 x g
   exact ⟨this.1, this.2.1.mono OM, this.2.2⟩
  ·exact ⟨a1, a2, a3⟩
 refine F87.law _ _ _ hb OM OM fun id hid => F59.law _ _ _ ?_
 have hle := findN_le s2.length fun j => (nth s2 (j : Int)).Id == id
 generalize findN s2.length (fun j => (nth s2 (j : Int)).Id == id) = at_ at *
 by_cases ha : at_ < 0
 ·rw [if_pos (by simpa using ha)]
  refine F58.law _ _ _ _ hb OM OM fun sh t p1 hsh ht tl td _ p2 p3 => F81.law _ _ _ OM h2 fun r r1 r2 r3 r4 => ⟨by unfold I64; omega, ⟨OM, OM, r1, OM, step _ ht ?_ (hP _ hid) r r4, OM, OM⟩, by dsimp only; omega⟩
  exact ((FB.of (feat_drawn (idL_ok _ hid) hsh ht tl td)).mono OM)
 rw [if_neg (by simpa using ha)]
 have hm : nth s2 at_ ∈ s2 := nth_memi s2 OM hle.2
 obtain ⟨f1, f2, f3⟩ := h4 _ hm
 have fb := f2.small
 refine F7.law _ _ _ _ hb OM OM fun v hv0 hv1 => ?_
 split
 ·refine F82.law _ _ _ OM ⟨by unfold I64; omega, ⟨OM, OM, ?_, ?_, fun x hx => ?_, OM, OM⟩, by dsimp only; omega⟩
  ·unfold SS ids at h2 ⊢
   exact List.Pairwise.sublist (List.filter_sublist.map _) h2
  ·have := List.length_filter_le (fun f : Feat => decide (f.Id ≠ id)) s2; omega
  ·have := h4 x (List.mem_filter.1 hx).1
   exact ⟨this.1, this.2.1.mono OM, this.2.2⟩
 refine F7.law _ _ _ _ hb OM OM fun w hw0 hw1 => ?_
 split
 ·refine ⟨OM, F61.law _ _ OM (F78.law _ _ _ hb OM OM fun key hkey => F79.law _ _ _ hb OM OM fun val hval => F80.law _ _ _ _ (by have := f2.len; omega) f1 fun t t1 t2 t3 t4 => F81.law _ _ _ OM h2 fun r r1 r2 r3 r4 => ⟨by unfold I64; omega, ⟨OM, OM, r1, OM, step _ t1 (f2.put hkey hval t3 t4) f3 r r4, OM, OM⟩, by dsimp only; omega⟩)⟩
 ·refine ⟨OM, F61.law _ _ OM (F62.law _ _ _ _ hb OM OM (by have := f2.pts; omega) fun sh p' hsh p1 p2 => F81.law _ _ _ OM h2 fun r r1 r2 r3 r4 => ⟨by unfold I64; omega, ⟨OM, OM, r1, OM, step ⟨(nth s2 at_).Id, sh, (nth s2 at_).Tags⟩ f1 ⟨f2.id, ?_, Nat.le_trans f2.len OM, f2.wd⟩ f3 r r4, OM, OM⟩, by dsimp only; omega⟩)⟩
  rcases hsh with rfl | hsh
  ·exact f2.pts
  ·exact Nat.le_trans (shape_pts hsh) RD
theorem F63.law (b : List UInt8) (p : Int) (s : List Feat) (Q : List Feat → Int → Prop) (hb : b.length ≤ 2000) (hp : 0 ≤ p) (hp1 : p ≤ 1000000) (hs : sheetOk s = true) (hz : ∀ f ∈ s, f.Id ≠ zzI) (hq : ∀ r p', sheetOk r = true → (∀ f ∈ r, f.Id ≠ zzI) → p ≤ p' → p' ≤ p + 250 → Q r p') : F63.E b p s Q :=
 F63.gen (fun i => i ≠ zzI) idL_nz b p s Q hb hp hp1 hs hz hq
theorem F83.law (a b : List Feat) (Q : List Str → Prop) (ha : a.length ≤ 1000) (hb : b.length ≤ 1000) (hs : SS (ids a)) (hq : Q (uniq (ids a ++ ids b))) : F83.E a b Q := by
 unfold F83.E
 refine ⟨fun s i => ∃ u : Nat, i = u ∧ u ≤ b.length ∧ SS (ids s) ∧ (∀ x, x ∈ ids s ↔ x ∈ ids a ∨ x ∈ ids (b.take u)) ∧ s.length ≤ a.length + u, fun _ i => (b.length - i).toNat, ⟨0, rfl, Nat.zero_le _, hs, by simp [ids], OM⟩, ?_⟩
 rintro s _ ⟨u, rfl, hu, h1, h2, h3⟩
 by_cases h : u < b.length
 ·rw [if_pos (by simpa using h)]
  refine ⟨OM, F81.law _ _ _ OM h1 fun r r1 r2 r3 _ => ⟨OM, ⟨u + 1, OM, OM, r1, fun x => ?_, OM⟩, by dsimp only; omega⟩⟩
  rw [r2, h2, ids_take h, List.mem_append, List.mem_singleton]
  constructor
  ·rintro ((hx | hx) | hx)
   ·exact .inl hx
   ·exact .inr (.inl hx)
   ·exact .inr (.inr hx)
  ·rintro (hx | hx | hx)
   ·exact .inl (.inl hx)
   ·exact .inl (.inr hx)
   ·exact .inr hx
 ·rw [if_neg (by simpa using h)]
  have : u = b.length := by omega
  subst this
  rw [List.take_length] at h2
  have e : ids s = uniq (ids a ++ ids b) := SS.ext h1 (uniq_ss _) fun x => by rw [h2, uniq_mem, List.mem_append]
  rw [← e] at hq
  refine ⟨fun xs i => ∃ v : Nat, i = v ∧ v ≤ s.length ∧ xs = ids (s.take v), fun _ i => (s.length - i).toNat, ⟨0, rfl, Nat.zero_le _, rfl⟩, ?_⟩
  rintro _ _ ⟨v, rfl, hv, rfl⟩
  have hil : (ids (s.take v)).length ≤ v := by unfold ids; simp; omega
  by_cases g : v < s.length
  ·rw [if_pos (by simpa using g)]
   refine ⟨OM, by simp only [List.length_cons, List.length_nil]; omega, OM, ⟨v + 1, OM, OM, ?_⟩, by dsimp only; omega⟩
   rw [ids_take g]
  ·rw [if_neg (by simpa using g)]
   have : v = s.length := by omega
   subst this
   rw [List.take_length]; exact hq
theorem F64.law (s : List Feat) (id : Str) (Q : Feat → Bool → Prop) (hb : bulk s ≤ 1048576) (hq : Q (sideOf s id).1 (sideOf s id).2) : F64.E s id Q := by
 unfold F64.E
 have hl := bulk_len s
 refine F59.law _ _ _ ?_
 have h1 := findN_le s.length fun j => (nth s (j : Int)).Id == id
 unfold sideOf at hq
 by_cases h : findN s.length (fun j => (nth s (j : Int)).Id == id) < 0
 ·rw [if_pos h] at hq; rw [if_pos (by simpa using h)]; exact hq
 ·rw [if_neg h] at hq; rw [if_neg (by simpa using h)]
  exact ⟨OM, F61.law _ _ (by have := bulk_mem (nth_memi s OM h1.2); omega) hq⟩
theorem F43.law (a b : List Tag) (Q : Bool → Prop) (hq : Q (decide (a = b))) : F43.E a b Q := by
 unfold F43.E
 exact eqS_shape eqTag eqTag_is a b Q hq
theorem F42.law (a b : List Pt) (Q : Bool → Prop) (hq : Q (decide (a = b))) : F42.E a b Q := by
 unfold F42.E
 exact eqS_shape eqPt eqPt_is a b Q hq
theorem F12.law (a b : Shape) (Q : Bool → Prop) (hq : Q (decide (a = b))) : F12.E a b Q := by
 unfold F12.E
 by_cases h : a.Kind = b.Kind
 ·rw [if_pos (by rw [beq_iff_eq]; exact h)]
  refine F42.law _ _ _ ?_
  have : decide (a.Pts = b.Pts) = decide (a = b) := decide_eq_decide.2 (by rw [Shape.ext_iff']; exact ⟨fun e => ⟨h, e⟩, fun e => e.2⟩)
  rw [this]; exact hq
 ·rw [if_neg (by rw [beq_iff_eq]; exact h)]
  rw [decide_eq_false (by rw [Shape.ext_iff']; exact fun e => h e.1)] at hq; exact hq
theorem F19.law (a b : Feat) (Q : Bool → Prop) (hq : Q (decide (a = b))) : F19.E a b Q := by
 unfold F19.E
 by_cases h : a.Id = b.Id
 ·rw [if_pos (by rw [beq_iff_eq]; exact h)]
  refine F12.law _ _ _ ?_
  by_cases h2 : a.Shape = b.Shape
  ·rw [decide_eq_true h2, if_pos rfl]
   refine F43.law _ _ _ ?_
   have : decide (a.Tags = b.Tags) = decide (a = b) := decide_eq_decide.2 (by rw [Feat.ext_iff']; exact ⟨fun e => ⟨h, h2, e⟩, fun e => e.2.2⟩)
   rw [this]; exact hq
  ·rw [decide_eq_false h2, if_neg RD]
   rw [decide_eq_false (by rw [Feat.ext_iff']; exact fun e => h2 e.2.1)] at hq; exact hq
 ·rw [if_neg (by rw [beq_iff_eq]; exact h)]
  rw [decide_eq_false (by rw [Feat.ext_iff']; exact fun e => h e.1)] at hq; exact hq
theorem sameC_t {c : Change} (h1 : c.Had = c.Has) (h2 : c.Was = c.Now) : sameC c = true := by unfold sameC; rw [decide_eq_true h1, decide_eq_true h2]; rfl
theorem sameC_f1 {c : Change} (h : ¬ c.Was = c.Now) : sameC c = false := by unfold sameC; rw [decide_eq_false h, Bool.and_false]
theorem sameC_f2 {c : Change} (h : ¬ c.Had = c.Has) : sameC c = false := by unfold sameC; rw [decide_eq_false h, Bool.false_and]
theorem F89.law (a b : List Feat) (Q : List Change → Prop) (ba : bulk a ≤ 1048576) (bb : bulk b ≤ 1048576) (ha : a.length ≤ 1000) (hb : b.length ≤ 1000) (hs : SS (ids a)) (hq : Q (diffL a b (uniq (ids a ++ ids b)))) : F89.E a b Q := by
 unfold F89.E
 refine F83.law _ _ _ ha hb hs ?_
 have l2 := uniq_len (ids a ++ ids b)
 have l3 : (ids a ++ ids b).length = a.length + b.length := by unfold ids; simp
 refine ⟨fun xs i => ∃ u : Nat, i = u ∧ u ≤ (uniq (ids a ++ ids b)).length ∧ xs = diffL a b ((uniq (ids a ++ ids b)).take u), fun _ i => ((uniq (ids a ++ ids b)).length - i).toNat, ⟨0, rfl, Nat.zero_le _, rfl⟩, ?_⟩
 rintro _ _ ⟨u, rfl, hu, rfl⟩
 by_cases h : u < (uniq (ids a ++ ids b)).length
 ·rw [if_pos (by simpa using h)]
  have hd := diffL_len a b ((uniq (ids a ++ ids b)).take u)
  rw [List.length_take] at hd
  have en := diffL_snoc a b ((uniq (ids a ++ ids b)).take u) (nth (uniq (ids a ++ ids b)) (u : Int))
  rw [← take_nth _ h] at en
  have add : sameC (diffC a b (nth (uniq (ids a ++ ids b)) (u : Int))) = false → diffL a b ((uniq (ids a ++ ids b)).take u) ++ [diffC a b (nth (uniq (ids a ++ ids b)) (u : Int))] = diffL a b ((uniq (ids a ++ ids b)).take (u + 1)) := fun k => by rw [k] at en; exact en.symm
  have old : sameC (diffC a b (nth (uniq (ids a ++ ids b)) (u : Int))) = true → diffL a b ((uniq (ids a ++ ids b)).take u) = diffL a b ((uniq (ids a ++ ids b)).take (u + 1)) := fun k => by rw [k] at en; rw [en]; simp
  refine ⟨OM, F64.law _ _ _ ba ⟨OM, F64.law _ _ _ bb ?_⟩⟩
  by_cases k1 : (sideOf a (nth (uniq (ids a ++ ids b)) (u : Int))).2 = (sideOf b (nth (uniq (ids a ++ ids b)) (u : Int))).2
  ·rw [if_neg (by rw [k1]; simp)]
   refine F19.law _ _ _ ?_
   by_cases k2 : (sideOf a (nth (uniq (ids a ++ ids b)) (u : Int))).1 = (sideOf b (nth (uniq (ids a ++ ids b)) (u : Int))).1
   ·rw [decide_eq_true k2, if_neg RD]
    exact ⟨OM, ⟨u + 1, OM, OM, old (sameC_t k1 k2)⟩, by dsimp only; omega⟩
   ·rw [decide_eq_false k2, if_pos RD]
    exact ⟨OM, by simp only [List.length_cons, List.length_nil]; omega, OM, ⟨u + 1, OM, OM, add (sameC_f1 k2)⟩, by dsimp only; omega⟩
  ·rw [if_pos (by rw [bne_iff_ne]; exact k1)]
   exact ⟨OM, by simp only [List.length_cons, List.length_nil]; omega, OM, ⟨u + 1, OM, OM, add (sameC_f2 k1)⟩, by dsimp only; omega⟩
 ·rw [if_neg (by simpa using h)]
  have : u = (uniq (ids a ++ ids b)).length := by omega
  subst this
  rw [List.take_length]; exact hq
theorem F65.law (b : List UInt8) (p : Int) (Q : Shape → Int → Prop) (hb : b.length ≤ 2000) (hp : 0 ≤ p) (hp1 : p ≤ 10000000) (hq : ∀ s p', s.Pts.length ≤ 7 → (∀ q ∈ s.Pts, NX q) → p ≤ p' → p' ≤ p + 50 → Q s p') : F65.E b p Q := by
 unfold F65.E
 refine F34.law _ _ _ hb hp OM fun s p1 hs hx p0 p2 => F7.law _ _ _ _ hb OM OM fun k hk0 hk1 => F7.law _ _ _ _ hb OM OM fun v hv0 hv1 => ?_
 have l1 := shape_pos hs
 have l2 := shape_pts hs
 split
 ·exact F16.law _ _ _ _ hb OM OM RD fun n hn => hq _ _ (by dsimp only; omega) hx OM OM
 split
 ·exact F16.law _ _ _ _ hb OM OM RD fun n hn => ⟨OM, hq _ _ (by simp only [List.length_set]; omega) (fun q hq' => by
   rcases List.mem_or_eq_of_mem_set hq' with g | rfl
   ·exact hx q g
   ·simp only [List.mem_cons, List.not_mem_nil, or_false] at hn
    exact ⟨by dsimp only; omega, by dsimp only; omega⟩) OM OM⟩
 split
 ·exact ⟨fun _ => by unfold I64; omega, OM, by simp only [List.length_cons, List.length_nil]; omega, hq _ _ (by simp only [List.length_append, List.length_cons, List.length_nil]; omega) (fun q hq' => (List.mem_append.1 hq').elim (hx q) fun g => by rw [List.mem_singleton.1 g]; exact hx _ (nth_memi _ OM OM)) OM OM⟩
 split
 ·exact ⟨OM, hq _ _ (by simp only [List.length_take, List.length_drop]; omega) (fun q hq' => hx q (List.mem_of_mem_drop (List.mem_of_mem_take hq'))) OM OM⟩
 exact hq _ _ OM hx OM OM
theorem F66.law (b : List UInt8) (p : Int) (Q : Feat → Int → Prop) (hb : b.length ≤ 2000) (hp : 0 ≤ p) (hp1 : p ≤ 1000000) (hq : ∀ f p', FB 4 f → (∀ x ∈ f.Tags, plainK x.Key) → f.Id ≠ zzI → (∀ q ∈ f.Shape.Pts, NX q) → p ≤ p' → p' ≤ p + 120 → Q f p') : F66.E b p Q := by
 unfold F66.E
 refine F87.law _ _ _ hb hp OM fun id hid => F58.law _ _ _ _ hb OM OM fun s t p1 hs ht tl td hx p2 p3 => F7.law _ _ _ _ hb OM OM fun v hv0 hv1 => ?_
 have li := word_len (idL_ok _ hid)
 have lp := shape_pts hs
 have tp : ∀ x ∈ t, plainK x.Key := fun x hx => keyL_plain _ (td x hx).1
 have tw : ∀ x ∈ t, x.Key.length ≤ 6 ∧ x.Val.length ≤ 6 := fun x hx => (td x hx).len
 have iz := idL_nz _ hid
 split
 ·refine F26.law _ _ _ _ hb OM OM RD fun w hw => hq _ _ ⟨?_, by dsimp only; omega, by dsimp only; omega, tw⟩ tp ?_ hx OM OM
  all_goals
   simp only [List.mem_cons, List.not_mem_nil, or_false] at hw
   dsimp only
   rcases hw with rfl | rfl | rfl <;> decide
 split
 ·exact F65.law _ _ _ hb OM OM fun s' p4 h4 hx' h5 h6 => hq _ _ ⟨by dsimp only; omega, h4, by dsimp only; omega, tw⟩ tp iz hx' OM OM
 split
 ·refine ⟨by simp only [List.length_cons, List.length_nil]; omega, hq _ _ ⟨by dsimp only; omega, by dsimp only; omega, by simp only [List.length_append, List.length_cons, List.length_nil]; omega, fun x hx2 => ?_⟩ (fun x hx2 => ?_) iz hx OM OM⟩
  ·rcases List.mem_append.1 hx2 with hx2 | hx2
   ·exact tw x hx2
   ·rw [List.mem_singleton.1 hx2]; decide
  ·rcases List.mem_append.1 hx2 with hx2 | hx2
   ·exact tp x hx2
   ·rw [List.mem_singleton.1 hx2]; unfold plainK; dsimp only; decide
 split
 ·refine F26.law _ _ _ _ hb OM OM RD fun w hw => ⟨by simp only [List.length_cons, List.length_nil]; omega, hq _ _ ⟨by dsimp only; omega, by dsimp only; omega, by simp only [List.length_append, List.length_cons, List.length_nil]; omega, fun x hx2 => ?_⟩ (fun x hx2 => ?_) iz hx OM OM⟩
  ·rcases List.mem_append.1 hx2 with hx2 | hx2
   ·exact tw x hx2
   ·rw [List.mem_singleton.1 hx2]
    simp only [List.mem_cons, List.not_mem_nil, or_false] at hw
    rcases hw with rfl | rfl <;> decide
  ·rcases List.mem_append.1 hx2 with hx2 | hx2
   ·exact tp x hx2
   ·rw [List.mem_singleton.1 hx2]; unfold plainK; dsimp only; decide
 exact hq _ _ ⟨by dsimp only; omega, by dsimp only; omega, by dsimp only; omega, tw⟩ tp iz hx OM OM
theorem F67.gen (P : Str → Prop) (hP : ∀ k ∈ idL, P k) (hP2 : P [] ∧ P [122] ∧ P [97]) (b : List UInt8) (p : Int) (Q : List Change → Int → Prop) (hb : b.length ≤ 2000) (hp : 0 ≤ p) (hp1 : p ≤ 100000) (hq : ∀ d p', d.length ≤ 17 → (∀ c ∈ d, CB c) → (∀ c ∈ d, P c.Id) → p ≤ p' → p' ≤ p + 1000 → Q d p') : F67.E b p Q := by
 unfold F67.E
 refine F35.gen P hP _ _ _ hb hp OM fun s p1 hs _ hz _ p2 p3 => F63.gen P hP _ _ _ _ hb OM OM hs hz fun r p4 hr rz p5 p6 => F89.law _ _ _ (Nat.le_trans (MB.of hs).small RD) (Nat.le_trans (MB.of hr).small RD) (Nat.le_trans (sheet_ss hs).2.1 RD) (Nat.le_trans (sheet_ss hr).2.1 RD) (sheet_ss hs).1 ?_
 obtain ⟨d1, d2⟩ := diffL_cb hs hr
 have d3 : ∀ c ∈ diffL s r (uniq (ids s ++ ids r)), P c.Id := fun c hc => by
  unfold diffL at hc
  obtain ⟨hc, _⟩ := List.mem_filter.1 hc
  obtain ⟨x, hx, rfl⟩ := List.mem_map.1 hc
  show P x
  rcases List.mem_append.1 (uniq_mem.1 hx) with hx | hx
  all_goals
   obtain ⟨f, hf, rfl⟩ := List.mem_map.1 hx
  ·exact hz f hf
  ·exact rz f hf
 have pset : ∀ {d : List Change} {k : Nat} {c : Change}, (∀ c ∈ d, P c.Id) → P c.Id → ∀ x ∈ d.set k c, P x.Id := fun h hc x hx => by
  rcases List.mem_or_eq_of_mem_set hx with g | rfl
  ·exact h x g
  ·exact hc
 generalize diffL s r (uniq (ids s ++ ids r)) = d at *
 by_cases h0 : (d.length : Int) = 0
 ·rw [if_pos (by simpa using h0)]; exact hq _ _ OM d2 d3 OM OM
 rw [if_neg (by simpa using h0)]
 refine F7.law _ _ _ _ hb OM OM fun k hk0 hk1 => F7.law _ _ _ _ hb OM OM fun v hv0 hv1 => ?_
 have hm := d2 _ (nth_memi d hk0 OM)
 have hi := d3 _ (nth_memi d hk0 OM)
 split
 ·exact ⟨OM, OM, hq _ _ (by rw [List.length_set]; omega) (cb_set d2 ⟨hm.id, hm.was, hm.now⟩) (pset d3 hi) OM OM⟩
 split
 ·exact F66.law _ _ _ hb OM OM fun f p' h1 _ _ _ _ _ => ⟨OM, hq _ _ (by rw [List.length_set]; omega) (cb_set d2 ⟨hm.id, h1, hm.now⟩) (pset d3 hi) OM OM⟩
 split
 ·refine ⟨OM, by simp only [List.length_cons, List.length_nil]; omega, hq _ _ (by simp only [List.length_append, List.length_cons, List.length_nil]; omega) (fun c hc => ?_) (fun c hc => ?_) OM OM⟩
  ·rcases List.mem_append.1 hc with hc | hc
   ·exact d2 c hc
   ·rw [List.mem_singleton.1 hc]; exact hm
  ·rcases List.mem_append.1 hc with hc | hc
   ·exact d3 c hc
   ·rw [List.mem_singleton.1 hc]; exact hi
 split
 ·refine F26.law _ _ _ _ hb OM OM RD fun w hw => ⟨OM, hq _ _ (by rw [List.length_set]; omega) (cb_set d2 ⟨?_, hm.was, hm.now⟩) (pset d3 ?_) OM OM⟩
  all_goals (simp only [List.mem_cons, List.not_mem_nil, or_false] at hw; dsimp only)
  ·rcases hw with rfl | rfl | rfl <;> decide
  ·rcases hw with rfl | rfl | rfl
   ·exact hP2.1
   ·exact hP2.2.1
   ·exact hP2.2.2
 exact hq _ _ OM d2 d3 OM OM
theorem F67.law (b : List UInt8) (p : Int) (Q : List Change → Int → Prop) (hb : b.length ≤ 2000) (hp : 0 ≤ p) (hp1 : p ≤ 100000) (hq : ∀ d p', d.length ≤ 17 → (∀ c ∈ d, CB c) → p ≤ p' → p' ≤ p + 1000 → Q d p') : F67.E b p Q :=
 F67.gen (fun _ => True) (fun _ _ => trivial) ⟨trivial, trivial, trivial⟩ b p Q hb hp hp1 fun d p' h1 h2 _ => hq d p' h1 h2
theorem F1.law (code : List UInt8) (Q : List Change → Prop) (hq : ∀ d, d.length ≤ 17 → (∀ c ∈ d, CB c) → Q d) : F1.E code Q := by
 unfold F1.E
 exact F33.law _ _ fun b hb => F67.law _ _ _ hb OM OM fun d p' h1 h2 _ _ => hq _ h1 h2
theorem F52.law (f : Feat) (Q : Bool → Prop) (hq : Q (noF f)) : F52.E f Q := by
 unfold F52.E
 obtain ⟨i, ⟨k, p⟩, t⟩ := f
 unfold noF at hq
 dsimp only
 have e : decide ((⟨i, ⟨k, p⟩, t⟩ : Feat) = ⟨[], ⟨0, []⟩, []⟩) = (decide (i = []) && decide (k = 0) && decide (p = []) && decide (t = [])) := by
  rw [Bool.eq_iff_iff]; simp [and_assoc]
 rw [e] at hq
 cases h1 : decide (i = []) with
 | false => rw [h1] at hq; rw [if_neg (by rw [beq_iff_eq]; exact of_decide_eq_false h1)]; exact hq
 | true =>
  rw [if_pos (by rw [beq_iff_eq]; exact of_decide_eq_true h1)]
  cases h2 : decide (k = 0) with
  | false => rw [h1, h2] at hq; rw [if_neg (by rw [beq_iff_eq]; exact of_decide_eq_false h2)]; exact hq
  | true =>
   rw [if_pos (by rw [beq_iff_eq]; exact of_decide_eq_true h2)]
   cases h3 : decide (p = []) with
   | false => rw [h1, h2, h3] at hq; rw [if_neg (by rw [beq_iff_eq]; have := of_decide_eq_false h3; intro e; exact this (List.length_eq_zero_iff.1 OM))]; exact hq
   | true =>
    rw [if_pos (by rw [beq_iff_eq, of_decide_eq_true h3]; rfl)]
    rw [h1, h2, h3] at hq
    have : ((t.length : Int) == 0) = decide (t = []) := by
     rw [Bool.eq_iff_iff, beq_iff_eq, decide_eq_true_eq]
     exact ⟨fun e => List.length_eq_zero_iff.1 OM, fun e => by rw [e]; rfl⟩
    rw [this]; exact hq
theorem F50.law (n lo hi : Int) (Q : Bool → Prop) (hq : Q (decide (lo ≤ n) && decide (n ≤ hi))) : F50.E n lo hi Q := by
 unfold F50.E
 by_cases h : lo ≤ n
 ·rw [if_pos (by simpa using h)]; rw [decide_eq_true h, Bool.true_and] at hq; exact hq
 ·rw [if_neg (by simpa using h)]; rw [decide_eq_false h, Bool.false_and] at hq; exact hq
theorem F50.m_is (n lo hi : Int) : F50.m n lo hi = (decide (lo ≤ n) && decide (n ≤ hi)) := by
 unfold F50.m
 by_cases h : lo ≤ n
 ·rw [if_pos (by simpa using h), decide_eq_true h, Bool.true_and]
 ·rw [if_neg (by simpa using h), decide_eq_false h, Bool.false_and]
theorem F51.law (s : Str) (Q : Bool → Prop) (hl : s.length ≤ 1048576) (hq : Q (wordOk s)) : F51.E s Q := by
 unfold F51.E
 unfold wordOk at hq
 refine loop_all s.length (fun k => byteOk (nth s (k : Int))) (fun I mu k hk hp hn => ?_) (fun ha => ?_)
 ·refine ⟨OM, ?_⟩
  cases h1 : decide (((nth s (k : Int)).toNat : Int) < 97) with
  | true => rw [if_pos rfl]; rw [allN_false hk (by simp only [byteOk, h1]; rfl), Bool.false_and] at hq; exact hq
  | false =>
   rw [if_neg RD]
   refine ⟨OM, ?_⟩
   cases h2 : decide (((nth s (k : Int)).toNat : Int) > 122) with
   | true => rw [if_pos rfl]; rw [allN_false hk (by simp only [byteOk, h1, h2]; rfl), Bool.false_and] at hq; exact hq
   | false =>
    rw [if_neg RD]
    obtain ⟨i1, i2⟩ := hn (by simp only [byteOk, h1, h2]; rfl)
    exact ⟨by unfold I64; omega, i1, i2⟩
 ·rw [allN_true ha, Bool.true_and] at hq
  refine F50.law _ _ _ _ ?_
  have e1 : decide ((1 : Int) ≤ (s.length : Int)) = decide (1 ≤ s.length) := decide_eq_decide.2 OM
  have e2 : decide ((s.length : Int) ≤ 6) = decide (s.length ≤ 6) := decide_eq_decide.2 OM
  rw [e1, e2]; exact hq
theorem F85.law (p : Pt) (Q : Bool → Prop) (hq : Q (ptOk p)) : F85.E p Q := by
 unfold F85.E
 unfold ptOk at hq
 refine F50.law _ _ _ _ ?_
 change if inR p.X = true then _ else _
 cases h : inR p.X with
 | true => rw [if_pos rfl]; rw [h, Bool.true_and] at hq; exact F50.law _ _ _ _ hq
 | false => rw [if_neg RD]; rw [h, Bool.false_and] at hq; exact hq
theorem F30.law (s : Shape) (Q : Bool → Prop) (hl : s.Pts.length ≤ 1048576) (hq : Q (shapeOk s)) : F30.E s Q := by
 unfold F30.E
 unfold shapeOk ptsOk at hq
 refine loop_all s.Pts.length (fun k => ptOk (nth s.Pts (k : Int)) && (decide (k = 0) || !(decide (nth s.Pts ((k : Int) - 1) = nth s.Pts (k : Int))))) (fun I mu k hk hp hn => ?_) (fun ha => ?_)
 ·refine ⟨OM, _, F85.law _ _ rfl, ?_⟩
  have bad : (ptOk (nth s.Pts (k : Int)) && (decide (k = 0) || !(decide (nth s.Pts ((k : Int) - 1) = nth s.Pts (k : Int))))) = false → Q false := fun h => by
   rw [allN_false hk h, Bool.false_and] at hq; exact hq
  cases h1 : ptOk (nth s.Pts (k : Int)) with
  | false => rw [if_pos RD]; exact bad (by rw [h1]; rfl)
  | true =>
   rw [if_neg RD]
   by_cases hk0 : k = 0
   ·rw [if_neg (by rw [decide_eq_true_eq]; omega)]
    obtain ⟨i1, i2⟩ := hn (by rw [h1, decide_eq_true hk0]; rfl)
    exact ⟨by unfold I64; omega, i1, i2⟩
   ·rw [if_pos (by rw [decide_eq_true_eq]; omega)]
    refine ⟨by unfold I64; omega, OM, ?_⟩
    rw [eqPt_is]
    by_cases he : nth s.Pts ((k : Int) - 1) = nth s.Pts (k : Int)
    ·rw [if_pos (by rw [decide_eq_true_eq]; exact he)]
     exact bad (by rw [h1, decide_eq_false hk0, decide_eq_true he]; rfl)
    ·rw [if_neg (by rw [decide_eq_true_eq]; exact he)]
     obtain ⟨i1, i2⟩ := hn (by simp only [h1, decide_eq_false hk0, decide_eq_false he]; rfl)
     exact ⟨by unfold I64; omega, i1, i2⟩
 ·rw [allN_true ha, Bool.true_and] at hq
  unfold kindOk at hq
  by_cases k1 : s.Kind = 1
  ·rw [if_pos k1] at hq
   rw [if_pos (by rw [beq_iff_eq]; exact k1)]
   have : ((s.Pts.length : Int) == 1) = decide (s.Pts.length = 1) := by rw [Bool.eq_iff_iff, beq_iff_eq, decide_eq_true_eq]; omega
   rw [this]; exact hq
  rw [if_neg k1] at hq
  rw [if_neg (by rw [beq_iff_eq]; exact k1)]
  have e2 : decide ((2 : Int) ≤ (s.Pts.length : Int)) = decide (2 ≤ s.Pts.length) := decide_eq_decide.2 OM
  have e3 : decide ((3 : Int) ≤ (s.Pts.length : Int)) = decide (3 ≤ s.Pts.length) := decide_eq_decide.2 OM
  have e6 : decide ((s.Pts.length : Int) ≤ 6) = decide (s.Pts.length ≤ 6) := decide_eq_decide.2 OM
  by_cases k2 : s.Kind = 2
  ·rw [if_pos k2] at hq
   rw [if_pos (by rw [beq_iff_eq]; exact k2)]
   refine F50.law _ _ _ _ ?_
   rw [e2, e6]; exact hq
  rw [if_neg k2] at hq
  rw [if_neg (by rw [beq_iff_eq]; exact k2)]
  by_cases k3 : s.Kind = 3
  ·rw [if_pos k3] at hq
   rw [if_pos (by rw [beq_iff_eq]; exact k3), F50.m_is, e3, e6]
   cases hc : decide (3 ≤ s.Pts.length) && decide (s.Pts.length ≤ 6) with
   | true =>
    rw [hc, Bool.true_and] at hq
    rw [Bool.and_eq_true, decide_eq_true_eq, decide_eq_true_eq] at hc
    rw [if_pos rfl, eqPt_is]
    exact ⟨OM, fun _ => by unfold I64; omega, OM, hq⟩
   | false =>
    rw [hc, Bool.false_and] at hq
    rw [if_neg RD]; exact hq
  ·rw [if_neg k3] at hq
   rw [if_neg (by rw [beq_iff_eq]; exact k3)]; exact hq
theorem F53.law (f : Feat) (Q : Bool → Prop) (hb : bulk f ≤ 1048576) (hq : Q (featOk f)) : F53.E f Q := by
 unfold F53.E
 unfold featOk at hq
 have b1 : bulk f = bulk f.Id + bulk f.Shape + bulk f.Tags := rfl
 have b2 : bulk f.Shape = bulk f.Shape.Kind + bulk f.Shape.Pts := rfl
 have l1 := bulk_len f.Tags; have l2 := bulk_len f.Shape.Pts; have l3 := bulk_len f.Id
 have core : (tagsOk f.Tags = true → F51.E f.Id (fun r3 => (if r3 then F30.E f.Shape (fun r4 => (if r4 then Q (decide ((f.Tags.length : Int) ≤ 4)) else Q false)) else Q false))) := fun ha => by
  rw [ha, Bool.true_and] at hq
  refine F51.law _ _ OM ?_
  cases h1 : wordOk f.Id with
  | false => rw [h1, Bool.and_false, Bool.false_and] at hq; rw [if_neg RD]; exact hq
  | true =>
   rw [h1, Bool.and_true] at hq
   rw [if_pos rfl]
   refine F30.law _ _ OM ?_
   cases h2 : shapeOk f.Shape with
   | false => rw [h2, Bool.and_false] at hq; rw [if_neg RD]; exact hq
   | true =>
    rw [h2, Bool.and_true] at hq; rw [if_pos rfl]
    have e2 : decide ((f.Tags.length : Int) ≤ 4) = decide (f.Tags.length ≤ 4) := decide_eq_decide.2 OM
    rw [e2]; exact hq
 have bad : tagsOk f.Tags = false → Q false := fun h => by
  rw [h, Bool.false_and, Bool.false_and, Bool.false_and] at hq; exact hq
 unfold tagsOk at core bad
 refine loop_all f.Tags.length (fun k => wordOk (nth f.Tags (k : Int)).Key && wordOk (nth f.Tags (k : Int)).Val && (decide (k = 0) || Op.bytesLess (nth f.Tags ((k : Int) - 1)).Key (nth f.Tags (k : Int)).Key)) (fun I mu k hk hp hn => ?_) (fun ha => core (allN_true ha))
 have bad := fun h => bad (allN_false hk h)
 have m1 := bulk_mem (nth_mem f.Tags hk)
 have m2 : bulk (nth f.Tags (k : Int)) = bulk (nth f.Tags (k : Int)).Key + bulk (nth f.Tags (k : Int)).Val := rfl
 have m3 := bulk_len (nth f.Tags (k : Int)).Key; have m4 := bulk_len (nth f.Tags (k : Int)).Val
 refine ⟨OM, _, F51.law _ _ OM rfl, ?_⟩
 cases h1 : wordOk (nth f.Tags (k : Int)).Key with
 | false => rw [if_pos RD]; exact bad (by rw [h1]; rfl)
 | true =>
  rw [if_neg RD]
  refine ⟨_, F51.law _ _ OM rfl, ?_⟩
  cases h2 : wordOk (nth f.Tags (k : Int)).Val with
  | false => rw [if_pos RD]; exact bad (by rw [h2, Bool.and_false]; rfl)
  | true =>
   rw [if_neg RD]
   by_cases hk0 : k = 0
   ·rw [if_neg (by rw [decide_eq_true_eq]; omega)]
    obtain ⟨i1, i2⟩ := hn (by rw [h1, h2, decide_eq_true hk0]; rfl)
    exact ⟨by unfold I64; omega, i1, i2⟩
   ·rw [if_pos (by rw [decide_eq_true_eq]; omega)]
    refine ⟨by unfold I64; omega, OM, ?_⟩
    cases h3 : Op.bytesLess (nth f.Tags ((k : Int) - 1)).Key (nth f.Tags (k : Int)).Key with
    | false => rw [if_pos RD]; exact bad (by rw [h3, h1, h2, decide_eq_false hk0]; rfl)
    | true =>
     rw [if_neg RD]
     obtain ⟨i1, i2⟩ := hn (by rw [h3, h1, h2, decide_eq_false hk0]; rfl)
     exact ⟨by unfold I64; omega, i1, i2⟩
theorem F54.law (id : Str) (has : Bool) (f : Feat) (Q : Bool → Prop) (hb : bulk f ≤ 1048576) (hq : Q (sideOk id has f)) : F54.E id has f Q := by
 unfold F54.E
 unfold sideOk at hq
 cases has with
 | false => rw [if_pos RD]; rw [if_neg RD] at hq; exact F52.law _ _ hq
 | true =>
  rw [if_neg RD]; rw [if_pos rfl] at hq
  refine F53.law _ _ hb ?_
  cases h : featOk f with
  | false => rw [h] at hq; rw [if_neg RD]; exact hq
  | true =>
   rw [h, Bool.true_and] at hq; rw [if_pos rfl]
   have : (f.Id == id) = decide (f.Id = id) := by rw [Bool.eq_iff_iff, beq_iff_eq, decide_eq_true_eq]
   rw [this]; exact hq
theorem F2.law (a b : List Tag) (Q : Bool → Prop) (hb : a.length ≤ 1048576) (hq : Q (decide (a = b))) : F2.E a b Q := by
 unfold F2.E
 exact eqI_shape eqTag eqTag_is a b Q hb hq
theorem F4.law (a b : List Pt) (Q : Bool → Prop) (hb : a.length ≤ 1048576) (hq : Q (decide (a = b))) : F4.E a b Q := by
 unfold F4.E
 exact eqI_shape eqPt eqPt_is a b Q hb hq
theorem F14.law (a b : Shape) (Q : Bool → Prop) (hl : a.Pts.length ≤ 1048576) (hq : Q (decide (a = b))) : F14.E a b Q := by
 unfold F14.E
 by_cases h : a.Kind = b.Kind
 ·rw [if_pos (by rw [beq_iff_eq]; exact h)]
  refine F4.law _ _ _ OM ?_
  have : decide (a.Pts = b.Pts) = decide (a = b) := decide_eq_decide.2 (by rw [Shape.ext_iff']; exact ⟨fun e => ⟨h, e⟩, fun e => e.2⟩)
  rw [this]; exact hq
 ·rw [if_neg (by rw [beq_iff_eq]; exact h)]
  rw [decide_eq_false (by rw [Shape.ext_iff']; exact fun e => h e.1)] at hq; exact hq
theorem F22.law (a b : Feat) (Q : Bool → Prop) (hl : a.Shape.Pts.length ≤ 1048576 ∧ a.Tags.length ≤ 1048576) (hq : Q (decide (a = b))) : F22.E a b Q := by
 unfold F22.E
 by_cases h : a.Id = b.Id
 ·rw [if_pos (by rw [beq_iff_eq]; exact h)]
  refine F14.law _ _ _ OM ?_
  by_cases h2 : a.Shape = b.Shape
  ·rw [decide_eq_true h2, if_pos rfl]
   refine F2.law _ _ _ OM ?_
   have : decide (a.Tags = b.Tags) = decide (a = b) := decide_eq_decide.2 (by rw [Feat.ext_iff']; exact ⟨fun e => ⟨h, h2, e⟩, fun e => e.2.2⟩)
   rw [this]; exact hq
  ·rw [decide_eq_false h2, if_neg RD]
   rw [decide_eq_false (by rw [Feat.ext_iff']; exact fun e => h2 e.2.1)] at hq; exact hq
 ·rw [if_neg (by rw [beq_iff_eq]; exact h)]
  rw [decide_eq_false (by rw [Feat.ext_iff']; exact fun e => h e.1)] at hq; exact hq
theorem F3.law (c : Change) (Q : Bool → Prop) (hb : bulk c ≤ 1048576) (hq : Q (sameC c)) : F3.E c Q := by
 unfold F3.E
 unfold sameC at hq
 have b1 : bulk c = bulk c.Id + bulk c.Had + bulk c.Was + bulk c.Has + bulk c.Now := rfl
 have b2 : bulk c.Was = bulk c.Was.Id + bulk c.Was.Shape + bulk c.Was.Tags := rfl
 have b3 : bulk c.Was.Shape = bulk c.Was.Shape.Kind + bulk c.Was.Shape.Pts := rfl
 have l1 := bulk_len c.Was.Tags; have l2 := bulk_len c.Was.Shape.Pts
 by_cases h : c.Had = c.Has
 ·rw [if_pos (by rw [beq_iff_eq]; exact h)]
  rw [decide_eq_true h, Bool.true_and] at hq
  exact F22.law _ _ _ OM hq
 ·rw [if_neg (by rw [beq_iff_eq]; exact h)]
  rw [decide_eq_false h] at hq; exact hq
theorem F55.law (d : List Change) (Q : Bool → Prop) (hb : bulk d ≤ 1048576) (hq : Q (diffOk d)) : F55.E d Q := by
 unfold F55.E
 unfold diffOk at hq
 have hl := bulk_len d
 refine loop_all d.length (fun k => changeOk (nth d (k : Int)) && (decide (k = 0) || Op.bytesLess (nth d ((k : Int) - 1)).Id (nth d (k : Int)).Id)) (fun I mu k hk hp hn => ?_) (fun ha => ?_)
 ·have bad : (changeOk (nth d (k : Int)) && (decide (k = 0) || Op.bytesLess (nth d ((k : Int) - 1)).Id (nth d (k : Int)).Id)) = false → Q false := fun h => by
   rw [allN_false hk h, Bool.false_and] at hq; exact hq
  have m1 := bulk_mem (nth_mem d hk)
  have b1 : bulk (nth d (k : Int)) = bulk (nth d (k : Int)).Id + bulk (nth d (k : Int)).Had + bulk (nth d (k : Int)).Was + bulk (nth d (k : Int)).Has + bulk (nth d (k : Int)).Now := rfl
  have l1 := bulk_len (nth d (k : Int)).Id
  generalize hc : nth d (k : Int) = c at *
  refine ⟨OM, _, F51.law _ _ OM rfl, ?_⟩
  have co : ∀ a b e g : Bool, wordOk c.Id = a → sideOk c.Id c.Had c.Was = b → sideOk c.Id c.Has c.Now = e → sameC c = g → changeOk c = (a && b && e && !g) := fun a b e g h1 h2 h3 h4 => by unfold changeOk; rw [h1, h2, h3, h4]
  have rest : wordOk c.Id = true → (decide (k = 0) || Op.bytesLess (nth d ((k : Int) - 1)).Id c.Id) = true →
    (∃ q : Bool, F54.E c.Id c.Had c.Was (fun x => x = q) ∧ (if !q then Q false else (∃ q2 : Bool, F54.E c.Id c.Has c.Now (fun x => x = q2) ∧ (if !q2 then Q false else (∃ q3 : Bool, F3.E c (fun x => x = q3) ∧ (if q3 then Q false else (I64 ((k : Int) + 1)) ∧ I ((k : Int) + 1) ∧ mu ((k : Int) + 1) < mu (k : Int))))))) := fun h1 ho => by
   refine ⟨_, F54.law _ _ _ _ OM rfl, ?_⟩
   cases h2 : sideOk c.Id c.Had c.Was with
   | false => rw [if_pos RD]; exact bad (by rw [co _ _ _ _ h1 h2 rfl rfl]; rfl)
   | true =>
    rw [if_neg RD]
    refine ⟨_, F54.law _ _ _ _ OM rfl, ?_⟩
    cases h3 : sideOk c.Id c.Has c.Now with
    | false => rw [if_pos RD]; exact bad (by rw [co _ _ _ _ h1 h2 h3 rfl]; rfl)
    | true =>
     rw [if_neg RD]
     refine ⟨_, F3.law _ _ OM rfl, ?_⟩
     cases h4 : sameC c with
     | true => rw [if_pos rfl]; exact bad (by rw [co _ _ _ _ h1 h2 h3 h4]; rfl)
     | false =>
      rw [if_neg RD]
      obtain ⟨i1, i2⟩ := hn (by rw [co _ _ _ _ h1 h2 h3 h4, ho]; rfl)
      exact ⟨by unfold I64; omega, i1, i2⟩
  cases h1 : wordOk c.Id with
  | false => rw [if_pos RD]; exact bad (by rw [co _ _ _ _ h1 rfl rfl rfl]; rfl)
  | true =>
   rw [if_neg RD]
   by_cases hk0 : k = 0
   ·rw [if_neg (by rw [decide_eq_true_eq]; omega)]
    exact rest h1 (by rw [decide_eq_true hk0]; rfl)
   ·rw [if_pos (by rw [decide_eq_true_eq]; omega)]
    refine ⟨by unfold I64; omega, OM, ?_⟩
    cases h3 : Op.bytesLess (nth d ((k : Int) - 1)).Id c.Id with
    | false => rw [if_pos RD]; exact bad (by rw [h3, decide_eq_false hk0]; simp)
    | true => rw [if_neg RD]; exact rest h1 (by rw [h3, Bool.or_true])
 ·rw [allN_true ha, Bool.true_and] at hq
  have e2 : decide ((d.length : Int) ≤ 16) = decide (d.length ≤ 16) := decide_eq_decide.2 OM
  rw [e2]; exact hq
theorem F5.law (s : Shape) (h : shapeOk s = true) (Q : Str → Prop) (hq : Q (shT s)) : F5.E s Q := by
 obtain ⟨h1, h2, h3⟩ := shape_in h
 have h0 := names_len s.Kind
 unfold F5.E
 refine ⟨⟨OM, by show s.Kind < 4; omega⟩, loop_text s.Pts ptT _ 44 300 (fun p hp => ptT_len (h3 p hp)) OM (fun I mu k out hk hm ho hn => ?_) hq⟩
 have hp := h3 _ hm
 have l1 := itoa_len (nth s.Pts (k : Int)).X OM OM
 have l2 := itoa_len (nth s.Pts (k : Int)).Y OM OM
 obtain ⟨i1, i2⟩ := hn (out ++ (((([32] : Str) ++ Lib.itoa (nth s.Pts (k : Int)).X) ++ ([44] : Str)) ++ Lib.itoa (nth s.Pts (k : Int)).Y)) rfl
 refine ⟨OM, _, ⟨⟨OM, OM⟩, rfl⟩, by unfold Lim; omega, ?_, ?_, _, ⟨⟨OM, OM⟩, rfl⟩, by unfold Lim; omega, ?_, ?_, by unfold I64; omega, i1, i2⟩
 all_goals (simp only [List.length_append, List.length_cons, List.length_nil]; omega)
theorem F23.law (f : Feat) (hb : bulk f ≤ 1048576) (Q : Str → Prop) (hq : Q (featT f)) : F23.E f Q := by
 unfold F23.E
 refine F53.law _ _ hb ?_
 unfold featT at hq
 by_cases h : featOk f = true
 ·rw [if_pos h] at hq
  obtain ⟨h1, h2, _, h4, h5⟩ := feat_facts h
  have l1 := shT_len h2
  rw [h, if_neg RD]
  refine ⟨?_, _, F5.law _ h2 _ rfl, by unfold Lim; omega, ?_, loop_text f.Tags tagT _ 14 400 (fun t ht => ?_) ?_ (fun I mu k out hk hm ho hn => ?_) hq⟩
  ·simp only [List.length_cons, List.length_nil]; omega
  ·simp only [List.length_append, List.length_cons, List.length_nil]; omega
  ·have := h5 t ht
   unfold tagT
   simp only [List.length_append, List.length_cons, List.length_nil]; omega
  ·simp only [List.length_append, List.length_cons, List.length_nil]; omega
  ·have ht := h5 _ hm
   obtain ⟨i1, i2⟩ := hn (out ++ (((([32] : Str) ++ ((nth f.Tags (k : Int)).Key)) ++ ([61] : Str)) ++ ((nth f.Tags (k : Int)).Val))) rfl
   refine ⟨OM, ?_, ?_, ?_, ?_, by unfold I64; omega, i1, i2⟩
   all_goals (simp only [List.length_append, List.length_cons, List.length_nil]; omega)
 ·rw [if_neg h] at hq
  rw [Bool.eq_false_iff.2 h, if_pos RD]; exact hq
theorem F6.law (has : Bool) (f : Feat) (hb : bulk f ≤ 1048576) (Q : Str → Prop) (hq : Q (sideT has f)) : F6.E has f Q := by
 unfold F6.E
 cases has with
 | false => rw [if_pos RD]; exact hq
 | true => rw [if_neg RD]; exact F23.law _ hb _ hq
theorem F24.law (d : List Change) (hb : bulk d ≤ 1048576) (Q : Str → Prop) (hq : Q (diffT d)) : F24.E d Q := by
 unfold F24.E
 refine F55.law _ _ hb ?_
 unfold diffT at hq
 by_cases h : diffOk d = true
 ·rw [if_pos h] at hq
  obtain ⟨_, h2, h3⟩ := diff_cs h
  rw [h, if_neg RD]
  have hid : ∀ c ∈ d, c.Id.length ≤ 6 := fun c hc => by
   have := h3 c hc
   unfold changeOk at this
   simp only [Bool.and_eq_true] at this
   exact word_len this.1.1.1
  refine loop_text d lineT _ 812 13000 (fun c hc => lineT_len (hid c hc)) (by show 0 + d.length * 812 ≤ 13000; omega) (fun I mu k out hk hm ho hn => ?_) hq
  have m1 := bulk_mem hm
  have hi := hid _ hm
  have b1 : bulk (nth d (k : Int)) = bulk (nth d (k : Int)).Id + bulk (nth d (k : Int)).Had + bulk (nth d (k : Int)).Was + bulk (nth d (k : Int)).Has + bulk (nth d (k : Int)).Now := rfl
  have l1 := sideT_len (nth d (k : Int)).Had (nth d (k : Int)).Was
  have l2 := sideT_len (nth d (k : Int)).Has (nth d (k : Int)).Now
  obtain ⟨i1, i2⟩ := hn (out ++ (((((((nth d (k : Int)).Id) ++ ([58, 32] : Str)) ++ sideT (nth d (k : Int)).Had (nth d (k : Int)).Was) ++ ([32, 62, 32] : Str)) ++ sideT (nth d (k : Int)).Has (nth d (k : Int)).Now) ++ ([10] : Str))) rfl
  refine ⟨OM, ?_, F6.law _ _ OM _ ⟨?_, ?_, F6.law _ _ OM _ ⟨?_, ?_, ?_, by unfold I64; omega, i1, i2⟩⟩⟩
  all_goals (simp only [List.length_append, List.length_cons, List.length_nil]; omega)
 ·rw [if_neg h] at hq
  rw [Bool.eq_false_iff.2 h, if_pos RD]; exact hq
end Go.Proofs.YtlaaehjcooonfaaDoor