/- It is proved here that the law FnExactSeqMerge of the given program holds whatever it is handed: the walks through the code, the plain laws and the row, in this order.
   Conditions: none. -/
import Derived.Below
import Derived.ChangeArms
import Derived.ChangeOld
import Derived.ChangeSlices
import Derived.DataReads
import Derived.Deep.Quiet
import Derived.KernelRfl
import Derived.Laws.Build
import Derived.Laws.OwnMore
import Derived.Laws.Slices
import Derived.Laws.StructEq
import Derived.OpenShut
import Derived.ProofKit
import Derived.ShutString
import Derived.SizedLaws
import Derived.StillTail
import Derived.Test.YtnliofcjplnboaaProg
import Derived.Test.YtnliofcjplnboaaRows
import Derived.WalkKit
import Derived.Test.YtnliofcjplnboaaCExactSeqMergea
import Derived.Test.YtnliofcjplnboaaCExactSeqMergeb
namespace Go.Proofs.Ytnliofcjplnboaa
open Go.RowKit
set_option linter.unusedVariables false
def impl_SeqMerge.E (base_ : List Pt) (a : List Pt) (b : List Pt) (Q : List Pt → Bool → Prop) : Prop :=
  (if decide ((base_.length : Int) > 12) then Q ([] : List Pt) false else (if decide ((a.length : Int) > 12) then Q ([] : List Pt) false else (if decide ((b.length : Int) > 12) then Q ([] : List Pt) false else impl_SeqPairs.E base_ a (fun r => impl_SeqPairs.E base_ b (fun r2 => (∃ (I128 : (List Pt) → Int → Int → Int → Int → Prop) (mu129 : (List Pt) → Int → Int → Int → Int → Nat), I128 ([] : List Pt) 0 0 0 0 ∧ ∀ (xs2 : List Pt) (i2 : Int) (j2 : Int) (k2 : Int) (at_2 : Int), I128 xs2 i2 j2 k2 at_2 → (if decide (at_2 ≤ (base_.length : Int)) then (if decide (at_2 < (base_.length : Int)) then impl_partner.E r at_2 (fun r3 => impl_partner.E r2 at_2 (fun r4 => (if decide (r3 < 0) then (-9223372036854775808 ≤ at_2) ∧ I128 xs2 i2 j2 k2 (at_2 + 1) ∧ mu129 xs2 i2 j2 k2 (at_2 + 1) < mu129 xs2 i2 j2 k2 at_2 else (if decide (r4 < 0) then (-9223372036854775808 ≤ at_2) ∧ I128 xs2 i2 j2 k2 (at_2 + 1) ∧ mu129 xs2 i2 j2 k2 (at_2 + 1) < mu129 xs2 i2 j2 k2 at_2 else ((0 : Int) ≤ i2 ∧ (i2 : Int) ≤ at_2 ∧ at_2 ≤ (base_.length : Int)) ∧ ((0 : Int) ≤ j2 ∧ (j2 : Int) ≤ r3 ∧ r3 ≤ (a.length : Int)) ∧ ((0 : Int) ≤ k2 ∧ (k2 : Int) ≤ r4 ∧ r4 ≤ (b.length : Int)) ∧ slices_Equal_Pt.E ((a.drop j2.toNat).take (r3.toNat - j2.toNat)) ((base_.drop i2.toNat).take (at_2.toNat - i2.toNat)) (fun r5 => (if r5 then (xs2.length + ((b.drop k2.toNat).take (r4.toNat - k2.toNat)).length ≤ 268435456) ∧ ((0 : Int) ≤ at_2 ∧ at_2 < (base_.length : Int)) ∧ ((xs2 ++ ((b.drop k2.toNat).take (r4.toNat - k2.toNat))).length + ([(nth base_ at_2)] : List Pt).length ≤ 268435456) ∧ (-9223372036854775808 ≤ at_2) ∧ ((base_.length : Int) ≤ 9223372036854775807 → (a.length : Int) ≤ 9223372036854775807 → (b.length : Int) ≤ 9223372036854775807 → I64 (r3 + 1)) ∧ ((base_.length : Int) ≤ 9223372036854775807 → (a.length : Int) ≤ 9223372036854775807 → (b.length : Int) ≤ 9223372036854775807 → I64 (r4 + 1)) ∧ (-9223372036854775808 ≤ at_2) ∧ I128 ((xs2 ++ ((b.drop k2.toNat).take (r4.toNat - k2.toNat))) ++ ([(nth base_ at_2)] : List Pt)) (at_2 + 1) (r3 + 1) (r4 + 1) (at_2 + 1) ∧ mu129 ((xs2 ++ ((b.drop k2.toNat).take (r4.toNat - k2.toNat))) ++ ([(nth base_ at_2)] : List Pt)) (at_2 + 1) (r3 + 1) (r4 + 1) (at_2 + 1) < mu129 xs2 i2 j2 k2 at_2 else slices_Equal_Pt.E ((b.drop k2.toNat).take (r4.toNat - k2.toNat)) ((base_.drop i2.toNat).take (at_2.toNat - i2.toNat)) (fun r6 => (if r6 then (xs2.length + ((a.drop j2.toNat).take (r3.toNat - j2.toNat)).length ≤ 268435456) ∧ ((0 : Int) ≤ at_2 ∧ at_2 < (base_.length : Int)) ∧ ((xs2 ++ ((a.drop j2.toNat).take (r3.toNat - j2.toNat))).length + ([(nth base_ at_2)] : List Pt).length ≤ 268435456) ∧ (-9223372036854775808 ≤ at_2) ∧ ((base_.length : Int) ≤ 9223372036854775807 → (a.length : Int) ≤ 9223372036854775807 → (b.length : Int) ≤ 9223372036854775807 → I64 (r3 + 1)) ∧ ((base_.length : Int) ≤ 9223372036854775807 → (a.length : Int) ≤ 9223372036854775807 → (b.length : Int) ≤ 9223372036854775807 → I64 (r4 + 1)) ∧ (-9223372036854775808 ≤ at_2) ∧ I128 ((xs2 ++ ((a.drop j2.toNat).take (r3.toNat - j2.toNat))) ++ ([(nth base_ at_2)] : List Pt)) (at_2 + 1) (r3 + 1) (r4 + 1) (at_2 + 1) ∧ mu129 ((xs2 ++ ((a.drop j2.toNat).take (r3.toNat - j2.toNat))) ++ ([(nth base_ at_2)] : List Pt)) (at_2 + 1) (r3 + 1) (r4 + 1) (at_2 + 1) < mu129 xs2 i2 j2 k2 at_2 else slices_Equal_Pt.E ((a.drop j2.toNat).take (r3.toNat - j2.toNat)) ((b.drop k2.toNat).take (r4.toNat - k2.toNat)) (fun r7 => (if r7 then (xs2.length + ((a.drop j2.toNat).take (r3.toNat - j2.toNat)).length ≤ 268435456) ∧ ((0 : Int) ≤ at_2 ∧ at_2 < (base_.length : Int)) ∧ ((xs2 ++ ((a.drop j2.toNat).take (r3.toNat - j2.toNat))).length + ([(nth base_ at_2)] : List Pt).length ≤ 268435456) ∧ (-9223372036854775808 ≤ at_2) ∧ ((base_.length : Int) ≤ 9223372036854775807 → (a.length : Int) ≤ 9223372036854775807 → (b.length : Int) ≤ 9223372036854775807 → I64 (r3 + 1)) ∧ ((base_.length : Int) ≤ 9223372036854775807 → (a.length : Int) ≤ 9223372036854775807 → (b.length : Int) ≤ 9223372036854775807 → I64 (r4 + 1)) ∧ (-9223372036854775808 ≤ at_2) ∧ I128 ((xs2 ++ ((a.drop j2.toNat).take (r3.toNat - j2.toNat))) ++ ([(nth base_ at_2)] : List Pt)) (at_2 + 1) (r3 + 1) (r4 + 1) (at_2 + 1) ∧ mu129 ((xs2 ++ ((a.drop j2.toNat).take (r3.toNat - j2.toNat))) ++ ([(nth base_ at_2)] : List Pt)) (at_2 + 1) (r3 + 1) (r4 + 1) (at_2 + 1) < mu129 xs2 i2 j2 k2 at_2 else Q ([] : List Pt) false)))))))))) else ((0 : Int) ≤ i2 ∧ (i2 : Int) ≤ at_2 ∧ at_2 ≤ (base_.length : Int)) ∧ ((0 : Int) ≤ j2 ∧ (j2 : Int) ≤ (a.length : Int) ∧ (a.length : Int) ≤ (a.length : Int)) ∧ ((0 : Int) ≤ k2 ∧ (k2 : Int) ≤ (b.length : Int) ∧ (b.length : Int) ≤ (b.length : Int)) ∧ slices_Equal_Pt.E ((a.drop j2.toNat).take ((a.length : Int).toNat - j2.toNat)) ((base_.drop i2.toNat).take (at_2.toNat - i2.toNat)) (fun r8 => (if r8 then (xs2.length + ((b.drop k2.toNat).take ((b.length : Int).toNat - k2.toNat)).length ≤ 268435456) ∧ ((base_.length : Int) ≤ 9223372036854775807 → (a.length : Int) ≤ 9223372036854775807 → (b.length : Int) ≤ 9223372036854775807 → I64 (at_2 + 1)) ∧ ((base_.length : Int) ≤ 9223372036854775807 → (a.length : Int) ≤ 9223372036854775807 → (b.length : Int) ≤ 9223372036854775807 → I64 ((a.length : Int) + 1)) ∧ ((base_.length : Int) ≤ 9223372036854775807 → (a.length : Int) ≤ 9223372036854775807 → (b.length : Int) ≤ 9223372036854775807 → I64 ((b.length : Int) + 1)) ∧ ((base_.length : Int) ≤ 9223372036854775807 → (a.length : Int) ≤ 9223372036854775807 → (b.length : Int) ≤ 9223372036854775807 → I64 (at_2 + 1)) ∧ I128 (xs2 ++ ((b.drop k2.toNat).take ((b.length : Int).toNat - k2.toNat))) (at_2 + 1) ((a.length : Int) + 1) ((b.length : Int) + 1) (at_2 + 1) ∧ mu129 (xs2 ++ ((b.drop k2.toNat).take ((b.length : Int).toNat - k2.toNat))) (at_2 + 1) ((a.length : Int) + 1) ((b.length : Int) + 1) (at_2 + 1) < mu129 xs2 i2 j2 k2 at_2 else slices_Equal_Pt.E ((b.drop k2.toNat).take ((b.length : Int).toNat - k2.toNat)) ((base_.drop i2.toNat).take (at_2.toNat - i2.toNat)) (fun r9 => (if r9 then (xs2.length + ((a.drop j2.toNat).take ((a.length : Int).toNat - j2.toNat)).length ≤ 268435456) ∧ ((base_.length : Int) ≤ 9223372036854775807 → (a.length : Int) ≤ 9223372036854775807 → (b.length : Int) ≤ 9223372036854775807 → I64 (at_2 + 1)) ∧ ((base_.length : Int) ≤ 9223372036854775807 → (a.length : Int) ≤ 9223372036854775807 → (b.length : Int) ≤ 9223372036854775807 → I64 ((a.length : Int) + 1)) ∧ ((base_.length : Int) ≤ 9223372036854775807 → (a.length : Int) ≤ 9223372036854775807 → (b.length : Int) ≤ 9223372036854775807 → I64 ((b.length : Int) + 1)) ∧ ((base_.length : Int) ≤ 9223372036854775807 → (a.length : Int) ≤ 9223372036854775807 → (b.length : Int) ≤ 9223372036854775807 → I64 (at_2 + 1)) ∧ I128 (xs2 ++ ((a.drop j2.toNat).take ((a.length : Int).toNat - j2.toNat))) (at_2 + 1) ((a.length : Int) + 1) ((b.length : Int) + 1) (at_2 + 1) ∧ mu129 (xs2 ++ ((a.drop j2.toNat).take ((a.length : Int).toNat - j2.toNat))) (at_2 + 1) ((a.length : Int) + 1) ((b.length : Int) + 1) (at_2 + 1) < mu129 xs2 i2 j2 k2 at_2 else slices_Equal_Pt.E ((a.drop j2.toNat).take ((a.length : Int).toNat - j2.toNat)) ((b.drop k2.toNat).take ((b.length : Int).toNat - k2.toNat)) (fun r10 => (if r10 then (xs2.length + ((a.drop j2.toNat).take ((a.length : Int).toNat - j2.toNat)).length ≤ 268435456) ∧ ((base_.length : Int) ≤ 9223372036854775807 → (a.length : Int) ≤ 9223372036854775807 → (b.length : Int) ≤ 9223372036854775807 → I64 (at_2 + 1)) ∧ ((base_.length : Int) ≤ 9223372036854775807 → (a.length : Int) ≤ 9223372036854775807 → (b.length : Int) ≤ 9223372036854775807 → I64 ((a.length : Int) + 1)) ∧ ((base_.length : Int) ≤ 9223372036854775807 → (a.length : Int) ≤ 9223372036854775807 → (b.length : Int) ≤ 9223372036854775807 → I64 ((b.length : Int) + 1)) ∧ ((base_.length : Int) ≤ 9223372036854775807 → (a.length : Int) ≤ 9223372036854775807 → (b.length : Int) ≤ 9223372036854775807 → I64 (at_2 + 1)) ∧ I128 (xs2 ++ ((a.drop j2.toNat).take ((a.length : Int).toNat - j2.toNat))) (at_2 + 1) ((a.length : Int) + 1) ((b.length : Int) + 1) (at_2 + 1) ∧ mu129 (xs2 ++ ((a.drop j2.toNat).take ((a.length : Int).toNat - j2.toNat))) (at_2 + 1) ((a.length : Int) + 1) ((b.length : Int) + 1) (at_2 + 1) < mu129 xs2 i2 j2 k2 at_2 else Q ([] : List Pt) false))))))) else Q xs2 true)))))))
set_option maxHeartbeats 8000000 in
set_option maxRecDepth 100000 in
theorem impl_SeqMerge.calls {O : Ob} (w0 : World) (hO : Ok w0 O) (base_ : List Pt) (A1 : Option Addr) (n2 c3 : Nat) (hp4 : Sl kPt w0 (Fr O) (.slice A1 n2 c3) base_) (a : List Pt) (A6 : Option Addr) (n7 c8 : Nat) (hp9 : Sl kPt w0 (Fr O) (.slice A6 n7 c8) a) (b : List Pt) (A11 : Option Addr) (n12 c13 : Nat) (hp14 : Sl kPt w0 (Fr O) (.slice A11 n12 c13) b) (Q : List Pt → Bool → Prop) (h : impl_SeqMerge.E base_ a b Q) :
    Ret Try.prog 36 [.slice A1 n2 c3, .slice A6 n7 c8, .slice A11 n12 c13] w0 (fun v w' => ∃ (r0 : List Pt) (r1 : Bool) (A0 : Option Addr) (n0 c0 : Nat), v = .tuple #[.slice A0 n0 c0, vb r1] ∧ Q r0 r1 ∧ Gr w0 w' none ∧ Ok w' ([blk (.slice A0 n0 c0)] ++ O) ∧ (∀ b, some b ∈ [blk (.slice A0 n0 c0)] → w0.heap.size ≤ b) ∧ Ow kPt 41 w' ([blk (.slice A0 n0 c0)] ++ O) (.slice A0 n0 c0) r0) := by
  have H : (if decide ((base_.length : Int) > 12) then Q ([] : List Pt) false else (if decide ((a.length : Int) > 12) then Q ([] : List Pt) false else (if decide ((b.length : Int) > 12) then Q ([] : List Pt) false else impl_SeqPairs.E base_ a (fun r => impl_SeqPairs.E base_ b (fun r2 => (∃ (I128 : (List Pt) → Int → Int → Int → Int → Prop) (mu129 : (List Pt) → Int → Int → Int → Int → Nat), I128 ([] : List Pt) 0 0 0 0 ∧ ∀ (xs2 : List Pt) (i2 : Int) (j2 : Int) (k2 : Int) (at_2 : Int), I128 xs2 i2 j2 k2 at_2 → (if decide (at_2 ≤ (base_.length : Int)) then (if decide (at_2 < (base_.length : Int)) then impl_partner.E r at_2 (fun r3 => impl_partner.E r2 at_2 (fun r4 => (if decide (r3 < 0) then (-9223372036854775808 ≤ at_2) ∧ I128 xs2 i2 j2 k2 (at_2 + 1) ∧ mu129 xs2 i2 j2 k2 (at_2 + 1) < mu129 xs2 i2 j2 k2 at_2 else (if decide (r4 < 0) then (-9223372036854775808 ≤ at_2) ∧ I128 xs2 i2 j2 k2 (at_2 + 1) ∧ mu129 xs2 i2 j2 k2 (at_2 + 1) < mu129 xs2 i2 j2 k2 at_2 else ((0 : Int) ≤ i2 ∧ (i2 : Int) ≤ at_2 ∧ at_2 ≤ (base_.length : Int)) ∧ ((0 : Int) ≤ j2 ∧ (j2 : Int) ≤ r3 ∧ r3 ≤ (a.length : Int)) ∧ ((0 : Int) ≤ k2 ∧ (k2 : Int) ≤ r4 ∧ r4 ≤ (b.length : Int)) ∧ slices_Equal_Pt.E ((a.drop j2.toNat).take (r3.toNat - j2.toNat)) ((base_.drop i2.toNat).take (at_2.toNat - i2.toNat)) (fun r5 => (if r5 then (xs2.length + ((b.drop k2.toNat).take (r4.toNat - k2.toNat)).length ≤ 268435456) ∧ ((0 : Int) ≤ at_2 ∧ at_2 < (base_.length : Int)) ∧ ((xs2 ++ ((b.drop k2.toNat).take (r4.toNat - k2.toNat))).length + ([(nth base_ at_2)] : List Pt).length ≤ 268435456) ∧ (-9223372036854775808 ≤ at_2) ∧ ((base_.length : Int) ≤ 9223372036854775807 → (a.length : Int) ≤ 9223372036854775807 → (b.length : Int) ≤ 9223372036854775807 → I64 (r3 + 1)) ∧ ((base_.length : Int) ≤ 9223372036854775807 → (a.length : Int) ≤ 9223372036854775807 → (b.length : Int) ≤ 9223372036854775807 → I64 (r4 + 1)) ∧ (-9223372036854775808 ≤ at_2) ∧ I128 ((xs2 ++ ((b.drop k2.toNat).take (r4.toNat - k2.toNat))) ++ ([(nth base_ at_2)] : List Pt)) (at_2 + 1) (r3 + 1) (r4 + 1) (at_2 + 1) ∧ mu129 ((xs2 ++ ((b.drop k2.toNat).take (r4.toNat - k2.toNat))) ++ ([(nth base_ at_2)] : List Pt)) (at_2 + 1) (r3 + 1) (r4 + 1) (at_2 + 1) < mu129 xs2 i2 j2 k2 at_2 else slices_Equal_Pt.E ((b.drop k2.toNat).take (r4.toNat - k2.toNat)) ((base_.drop i2.toNat).take (at_2.toNat - i2.toNat)) (fun r6 => (if r6 then (xs2.length + ((a.drop j2.toNat).take (r3.toNat - j2.toNat)).length ≤ 268435456) ∧ ((0 : Int) ≤ at_2 ∧ at_2 < (base_.length : Int)) ∧ ((xs2 ++ ((a.drop j2.toNat).take (r3.toNat - j2.toNat))).length + ([(nth base_ at_2)] : List Pt).length ≤ 268435456) ∧ (-9223372036854775808 ≤ at_2) ∧ ((base_.length : Int) ≤ 9223372036854775807 → (a.length : Int) ≤ 9223372036854775807 → (b.length : Int) ≤ 9223372036854775807 → I64 (r3 + 1)) ∧ ((base_.length : Int) ≤ 9223372036854775807 → (a.length : Int) ≤ 9223372036854775807 → (b.length : Int) ≤ 9223372036854775807 → I64 (r4 + 1)) ∧ (-9223372036854775808 ≤ at_2) ∧ I128 ((xs2 ++ ((a.drop j2.toNat).take (r3.toNat - j2.toNat))) ++ ([(nth base_ at_2)] : List Pt)) (at_2 + 1) (r3 + 1) (r4 + 1) (at_2 + 1) ∧ mu129 ((xs2 ++ ((a.drop j2.toNat).take (r3.toNat - j2.toNat))) ++ ([(nth base_ at_2)] : List Pt)) (at_2 + 1) (r3 + 1) (r4 + 1) (at_2 + 1) < mu129 xs2 i2 j2 k2 at_2 else slices_Equal_Pt.E ((a.drop j2.toNat).take (r3.toNat - j2.toNat)) ((b.drop k2.toNat).take (r4.toNat - k2.toNat)) (fun r7 => (if r7 then (xs2.length + ((a.drop j2.toNat).take (r3.toNat - j2.toNat)).length ≤ 268435456) ∧ ((0 : Int) ≤ at_2 ∧ at_2 < (base_.length : Int)) ∧ ((xs2 ++ ((a.drop j2.toNat).take (r3.toNat - j2.toNat))).length + ([(nth base_ at_2)] : List Pt).length ≤ 268435456) ∧ (-9223372036854775808 ≤ at_2) ∧ ((base_.length : Int) ≤ 9223372036854775807 → (a.length : Int) ≤ 9223372036854775807 → (b.length : Int) ≤ 9223372036854775807 → I64 (r3 + 1)) ∧ ((base_.length : Int) ≤ 9223372036854775807 → (a.length : Int) ≤ 9223372036854775807 → (b.length : Int) ≤ 9223372036854775807 → I64 (r4 + 1)) ∧ (-9223372036854775808 ≤ at_2) ∧ I128 ((xs2 ++ ((a.drop j2.toNat).take (r3.toNat - j2.toNat))) ++ ([(nth base_ at_2)] : List Pt)) (at_2 + 1) (r3 + 1) (r4 + 1) (at_2 + 1) ∧ mu129 ((xs2 ++ ((a.drop j2.toNat).take (r3.toNat - j2.toNat))) ++ ([(nth base_ at_2)] : List Pt)) (at_2 + 1) (r3 + 1) (r4 + 1) (at_2 + 1) < mu129 xs2 i2 j2 k2 at_2 else Q ([] : List Pt) false)))))))))) else ((0 : Int) ≤ i2 ∧ (i2 : Int) ≤ at_2 ∧ at_2 ≤ (base_.length : Int)) ∧ ((0 : Int) ≤ j2 ∧ (j2 : Int) ≤ (a.length : Int) ∧ (a.length : Int) ≤ (a.length : Int)) ∧ ((0 : Int) ≤ k2 ∧ (k2 : Int) ≤ (b.length : Int) ∧ (b.length : Int) ≤ (b.length : Int)) ∧ slices_Equal_Pt.E ((a.drop j2.toNat).take ((a.length : Int).toNat - j2.toNat)) ((base_.drop i2.toNat).take (at_2.toNat - i2.toNat)) (fun r8 => (if r8 then (xs2.length + ((b.drop k2.toNat).take ((b.length : Int).toNat - k2.toNat)).length ≤ 268435456) ∧ ((base_.length : Int) ≤ 9223372036854775807 → (a.length : Int) ≤ 9223372036854775807 → (b.length : Int) ≤ 9223372036854775807 → I64 (at_2 + 1)) ∧ ((base_.length : Int) ≤ 9223372036854775807 → (a.length : Int) ≤ 9223372036854775807 → (b.length : Int) ≤ 9223372036854775807 → I64 ((a.length : Int) + 1)) ∧ ((base_.length : Int) ≤ 9223372036854775807 → (a.length : Int) ≤ 9223372036854775807 → (b.length : Int) ≤ 9223372036854775807 → I64 ((b.length : Int) + 1)) ∧ ((base_.length : Int) ≤ 9223372036854775807 → (a.length : Int) ≤ 9223372036854775807 → (b.length : Int) ≤ 9223372036854775807 → I64 (at_2 + 1)) ∧ I128 (xs2 ++ ((b.drop k2.toNat).take ((b.length : Int).toNat - k2.toNat))) (at_2 + 1) ((a.length : Int) + 1) ((b.length : Int) + 1) (at_2 + 1) ∧ mu129 (xs2 ++ ((b.drop k2.toNat).take ((b.length : Int).toNat - k2.toNat))) (at_2 + 1) ((a.length : Int) + 1) ((b.length : Int) + 1) (at_2 + 1) < mu129 xs2 i2 j2 k2 at_2 else slices_Equal_Pt.E ((b.drop k2.toNat).take ((b.length : Int).toNat - k2.toNat)) ((base_.drop i2.toNat).take (at_2.toNat - i2.toNat)) (fun r9 => (if r9 then (xs2.length + ((a.drop j2.toNat).take ((a.length : Int).toNat - j2.toNat)).length ≤ 268435456) ∧ ((base_.length : Int) ≤ 9223372036854775807 → (a.length : Int) ≤ 9223372036854775807 → (b.length : Int) ≤ 9223372036854775807 → I64 (at_2 + 1)) ∧ ((base_.length : Int) ≤ 9223372036854775807 → (a.length : Int) ≤ 9223372036854775807 → (b.length : Int) ≤ 9223372036854775807 → I64 ((a.length : Int) + 1)) ∧ ((base_.length : Int) ≤ 9223372036854775807 → (a.length : Int) ≤ 9223372036854775807 → (b.length : Int) ≤ 9223372036854775807 → I64 ((b.length : Int) + 1)) ∧ ((base_.length : Int) ≤ 9223372036854775807 → (a.length : Int) ≤ 9223372036854775807 → (b.length : Int) ≤ 9223372036854775807 → I64 (at_2 + 1)) ∧ I128 (xs2 ++ ((a.drop j2.toNat).take ((a.length : Int).toNat - j2.toNat))) (at_2 + 1) ((a.length : Int) + 1) ((b.length : Int) + 1) (at_2 + 1) ∧ mu129 (xs2 ++ ((a.drop j2.toNat).take ((a.length : Int).toNat - j2.toNat))) (at_2 + 1) ((a.length : Int) + 1) ((b.length : Int) + 1) (at_2 + 1) < mu129 xs2 i2 j2 k2 at_2 else slices_Equal_Pt.E ((a.drop j2.toNat).take ((a.length : Int).toNat - j2.toNat)) ((b.drop k2.toNat).take ((b.length : Int).toNat - k2.toNat)) (fun r10 => (if r10 then (xs2.length + ((a.drop j2.toNat).take ((a.length : Int).toNat - j2.toNat)).length ≤ 268435456) ∧ ((base_.length : Int) ≤ 9223372036854775807 → (a.length : Int) ≤ 9223372036854775807 → (b.length : Int) ≤ 9223372036854775807 → I64 (at_2 + 1)) ∧ ((base_.length : Int) ≤ 9223372036854775807 → (a.length : Int) ≤ 9223372036854775807 → (b.length : Int) ≤ 9223372036854775807 → I64 ((a.length : Int) + 1)) ∧ ((base_.length : Int) ≤ 9223372036854775807 → (a.length : Int) ≤ 9223372036854775807 → (b.length : Int) ≤ 9223372036854775807 → I64 ((b.length : Int) + 1)) ∧ ((base_.length : Int) ≤ 9223372036854775807 → (a.length : Int) ≤ 9223372036854775807 → (b.length : Int) ≤ 9223372036854775807 → I64 (at_2 + 1)) ∧ I128 (xs2 ++ ((a.drop j2.toNat).take ((a.length : Int).toNat - j2.toNat))) (at_2 + 1) ((a.length : Int) + 1) ((b.length : Int) + 1) (at_2 + 1) ∧ mu129 (xs2 ++ ((a.drop j2.toNat).take ((a.length : Int).toNat - j2.toNat))) (at_2 + 1) ((a.length : Int) + 1) ((b.length : Int) + 1) (at_2 + 1) < mu129 xs2 i2 j2 k2 at_2 else Q ([] : List Pt) false))))))) else Q xs2 true))))))) := h
  clear h
  have hc0 := Ct.init hO
  refine Ret_enter Try.func36 rfl 117 rfl [.tmp 6, .tmp 7] rfl rfl ?_
  refine W_seq ?_
  refine W_reg ?_
  refine L_pu (P_assign (.slice none 0 0) rfl) ?_
  refine L_pu (P_assign (vb false) rfl) ?_
  refine L_nil ?_
  refine W_seq ?_
  refine W_seq ?_
  refine W_reg ?_
  refine L_pu (P_move (.slice A1 n2 c3) rfl) ?_
  have hl16 := hp4.le
  refine L_pu (P_len Try.underlying33 A1 n2 c3 hp4.len rfl) ?_
  refine L_pu (P_cmp (base_.length : Int) 12 (decide ((base_.length : Int) > 12)) rfl rfl rfl) ?_
  refine L_pu (P_move (vb (decide ((base_.length : Int) > 12))) rfl) ?_
  rcases bool_or (decide ((base_.length : Int) > 12)) with hq17 | hq17
  · have H := ite_t H hq17
    refine L_pass (dj := 23) rfl rfl (.inl (by exact congrArg Value.bool hq17)) ?_
    refine L_pass (dj := 23) rfl rfl (.inl (by exact congrArg Value.bool hq17)) ?_
    refine L_pass (dj := 23) rfl rfl (.inl (by exact congrArg Value.bool hq17)) ?_
    refine L_pu (P_pick true (vb true) (by exact congrArg Value.bool hq17) rfl) ?_
    refine L_pu (P_move (vb true) rfl) ?_
    refine L_pass (dj := 28) rfl rfl (.inl rfl) ?_
    refine L_pass (dj := 28) rfl rfl (.inl rfl) ?_
    refine L_pass (dj := 28) rfl rfl (.inl rfl) ?_
    refine L_pu (P_pick true (vb true) (by exact congrArg Value.bool rfl) rfl) ?_
    refine L_nil ?_
    refine W_ct (b := true) rfl rfl ?_
    refine W_seq ?_
    refine W_reg ?_
    refine L_lit (kd := kPt) ei33 hc0 ([] : List Pt) (cells := []) rfl (fun _ => by kernel_rfl) fun w18 A19 n20 c21 g22 hr23 hc24 h25 => ?_
    refine L_pu (P_assign (.slice A19 n20 c21) rfl) ?_
    refine L_pu (P_assign (vb false) rfl) ?_
    refine L_nil ?_
    refine W_ret ?_
    exact ⟨[.slice A19 n20 c21, vb false], ⟨_, rfl, ⟨_, rfl, rfl⟩⟩, ([] : List Pt), false, A19, n20, c21, rfl, H, hc24.gr, hc24.ok, hc24.ge, h25⟩
  · have H := ite_f H hq17
    refine L_run (dj := 23) rfl rfl (by exact congrArg Value.bool hq17) ?_
    refine L_pu (P_move (.slice A6 n7 c8) rfl) ?_
    refine L_run (dj := 23) rfl rfl (by exact congrArg Value.bool hq17) ?_
    have hl27 := hp9.le
    refine L_pu (P_len Try.underlying33 A6 n7 c8 hp9.len rfl) ?_
    refine L_run (dj := 23) rfl rfl (by exact congrArg Value.bool hq17) ?_
    refine L_pu (P_cmp (a.length : Int) 12 (decide ((a.length : Int) > 12)) rfl rfl rfl) ?_
    refine L_pu (P_pick false (vb (decide ((a.length : Int) > 12))) (by exact congrArg Value.bool hq17) rfl) ?_
    refine L_pu (P_move (vb (decide ((a.length : Int) > 12))) rfl) ?_
    rcases bool_or (decide ((a.length : Int) > 12)) with hq28 | hq28
    · have H := ite_t H hq28
      refine L_pass (dj := 28) rfl rfl (.inl (by exact congrArg Value.bool hq28)) ?_
      refine L_pass (dj := 28) rfl rfl (.inl (by exact congrArg Value.bool hq28)) ?_
      refine L_pass (dj := 28) rfl rfl (.inl (by exact congrArg Value.bool hq28)) ?_
      refine L_pu (P_pick true (vb true) (by exact congrArg Value.bool hq28) rfl) ?_
      refine L_nil ?_
      refine W_ct (b := true) rfl rfl ?_
      refine W_seq ?_
      refine W_reg ?_
      refine L_lit (kd := kPt) ei33 hc0 ([] : List Pt) (cells := []) rfl (fun _ => by kernel_rfl) fun w29 A30 n31 c32 g33 hr34 hc35 h36 => ?_
      refine L_pu (P_assign (.slice A30 n31 c32) rfl) ?_
      refine L_pu (P_assign (vb false) rfl) ?_
      refine L_nil ?_
      refine W_ret ?_
      exact ⟨[.slice A30 n31 c32, vb false], ⟨_, rfl, ⟨_, rfl, rfl⟩⟩, ([] : List Pt), false, A30, n31, c32, rfl, H, hc35.gr, hc35.ok, hc35.ge, h36⟩
    · have H := ite_f H hq28
      refine L_run (dj := 28) rfl rfl (by exact congrArg Value.bool hq28) ?_
      refine L_pu (P_move (.slice A11 n12 c13) rfl) ?_
      refine L_run (dj := 28) rfl rfl (by exact congrArg Value.bool hq28) ?_
      have hl38 := hp14.le
      refine L_pu (P_len Try.underlying33 A11 n12 c13 hp14.len rfl) ?_
      refine L_run (dj := 28) rfl rfl (by exact congrArg Value.bool hq28) ?_
      refine L_pu (P_cmp (b.length : Int) 12 (decide ((b.length : Int) > 12)) rfl rfl rfl) ?_
      refine L_pu (P_pick false (vb (decide ((b.length : Int) > 12))) (by exact congrArg Value.bool hq28) rfl) ?_
      refine L_nil ?_
      refine W_cond (decide ((b.length : Int) > 12)) rfl (fun hq39 => ?_) (fun hq39 => ?_)
      · have H := ite_t H hq39
        refine W_seq ?_
        refine W_reg ?_
        refine L_lit (kd := kPt) ei33 hc0 ([] : List Pt) (cells := []) rfl (fun _ => by kernel_rfl) fun w40 A41 n42 c43 g44 hr45 hc46 h47 => ?_
        refine L_pu (P_assign (.slice A41 n42 c43) rfl) ?_
        refine L_pu (P_assign (vb false) rfl) ?_
        refine L_nil ?_
        refine W_ret ?_
        exact ⟨[.slice A41 n42 c43, vb false], ⟨_, rfl, ⟨_, rfl, rfl⟩⟩, ([] : List Pt), false, A41, n42, c43, rfl, H, hc46.gr, hc46.ok, hc46.ge, h47⟩
      · have H := ite_f H hq39
        refine W_skip ?_
        refine W_seq ?_
        refine W_reg ?_
        refine L_pu (P_move (.slice A1 n2 c3) rfl) ?_
        refine L_pu (P_move (.slice A6 n7 c8) rfl) ?_
        refine L_call go29 [.slice A1 n2 c3, .slice A6 n7 c8] rfl ((impl_SeqPairs.calls w0 hc0.ok base_ A1 n2 c3 hp4 a A6 n7 c8 hp9 _ H).mono ?_)
        rintro _ w49 ⟨r, A51, n52, c53, rfl, H, g50, hk57, hk58, h54⟩
        have hc59 := hc0.owns g50 hk57 hk58
        refine L_pu (P_move (.slice A1 n2 c3) rfl) ?_
        refine L_pu (P_move (.slice A11 n12 c13) rfl) ?_
        refine L_call go29 [.slice A1 n2 c3, .slice A11 n12 c13] rfl ((impl_SeqPairs.calls w49 hc59.ok base_ A1 n2 c3 (hp4.st hc59.st) b A11 n12 c13 (hp14.st hc59.st) _ H).mono ?_)
        rintro _ w60 ⟨r2, A62, n63, c64, rfl, H, g61, hk68, hk69, h65⟩
        have hc70 := hc59.owns g61 hk68 hk69
        refine L_pu (P_assign (.slice A51 n52 c53) rfl) ?_
        refine L_pu (P_assign (.slice A62 n63 c64) rfl) ?_
        refine L_nil ?_
        refine W_seq ?_
        refine W_reg ?_
        refine L_lit (kd := kPt) ei33 hc70 ([] : List Pt) (cells := []) rfl (fun _ => by kernel_rfl) fun w71 A72 n73 c74 g75 hr76 hc77 h78 => ?_
        refine L_pu (P_assign (.slice A72 n73 c74) rfl) ?_
        refine L_nil ?_
        refine W_seq ?_
        refine W_reg ?_
        refine L_pu (P_assign (vi 0) rfl) ?_
        refine L_pu (P_assign (vi 0) rfl) ?_
        refine L_pu (P_assign (vi 0) rfl) ?_
        refine L_nil ?_
        refine W_seq ?_
        refine W_seq ?_
        refine W_reg ?_
        refine L_pu (P_assign (vi 0) rfl) ?_
        refine L_nil ?_
        refine W_block ?_
        obtain ⟨I128, mu129, hI130, H⟩ := H
        have h132 := ((h54.sos g61 hk69).so _ g75 hr76)
        have h133 := (h65.so _ g75 hr76)
        refine W_loop (α := (List Pt) × (Option Addr) × Nat × Nat × Int × Int × Int × Int) (fun (s : (List Pt) × (Option Addr) × Nat × Nat × Int × Int × Int × Int) t w111 => match s with | (xs2, A117, n118, c119, i2, j2, k2, at_2) => I128 xs2 i2 j2 k2 at_2 ∧ Has t [(0, .slice A1 n2 c3), (1, .slice A6 n7 c8), (2, .slice A11 n12 c13), (8, .slice A51 n52 c53), (9, .slice A62 n63 c64), (10, .slice A117 n118 c119), (11, vi i2), (12, vi j2), (13, vi k2), (14, vi at_2)] ∧ Ct none w0 w111 [blk (.slice A117 n118 c119), blk (.slice A62 n63 c64), blk (.slice A51 n52 c53)] O ∧ Sl kPt w111 (Fr ([blk (.slice A117 n118 c119), blk (.slice A62 n63 c64), blk (.slice A51 n52 c53)] ++ O)) (.slice A1 n2 c3) base_ ∧ Sl kPt w111 (Fr ([blk (.slice A117 n118 c119), blk (.slice A62 n63 c64), blk (.slice A51 n52 c53)] ++ O)) (.slice A6 n7 c8) a ∧ Sl kPt w111 (Fr ([blk (.slice A117 n118 c119), blk (.slice A62 n63 c64), blk (.slice A51 n52 c53)] ++ O)) (.slice A11 n12 c13) b ∧ Ow kPair 46 w111 ([blk (.slice A117 n118 c119), blk (.slice A62 n63 c64), blk (.slice A51 n52 c53)] ++ O) (.slice A51 n52 c53) r ∧ Ow kPair 46 w111 ([blk (.slice A117 n118 c119), blk (.slice A62 n63 c64), blk (.slice A51 n52 c53)] ++ O) (.slice A62 n63 c64) r2 ∧ Ow kPt 41 w111 ([blk (.slice A117 n118 c119), blk (.slice A62 n63 c64), blk (.slice A51 n52 c53)] ++ O) (.slice A117 n118 c119) xs2) (fun (s : (List Pt) × (Option Addr) × Nat × Nat × Int × Int × Int × Int) => match s with | (xs2, _, _, _, i2, j2, k2, at_2) => mu129 xs2 i2 j2 k2 at_2) (([] : List Pt), A72, n73, c74, 0, 0, 0, 0) ⟨hI130, ⟨rfl, rfl, rfl, rfl, rfl, rfl, rfl, rfl, rfl, rfl, trivial⟩, hc77, (hp4.st hc77.st), (hp9.st hc77.st), (hp14.st hc77.st), h132, h133, h78⟩ ?_
        rintro ⟨xs2, A117, n118, c119, i2, j2, k2, at_2⟩ _ w111 ⟨hI130, hh134, hc121, h122, h123, h124, h125, h126, h127⟩
        obtain ⟨u135, rfl⟩ := Has.ins hh134
        have H := H xs2 i2 j2 k2 at_2 hI130
        refine W_seq ?_
        refine W_seq ?_
        refine W_reg ?_
        refine L_pu (P_move (vi at_2) rfl) ?_
        refine L_pu (P_move (.slice A1 n2 c3) rfl) ?_
        have hl136 := h122.le
        refine L_pu (P_len Try.underlying33 A1 n2 c3 h122.len rfl) ?_
        refine L_pu (P_cmp at_2 (base_.length : Int) (decide (at_2 ≤ (base_.length : Int))) rfl rfl rfl) ?_
        refine L_nil ?_
        refine W_cond (decide (at_2 ≤ (base_.length : Int))) rfl (fun hq137 => ?_) (fun hq137 => ?_)
        · have H := ite_t H hq137
          refine W_skip ?_
          refine W_seq ?_
          refine W_block ?_
          refine W_seq ?_
          refine W_reg ?_
          refine L_pu (P_move (.slice A6 n7 c8) rfl) ?_
          have hl138 := h123.le
          refine L_pu (P_len Try.underlying33 A6 n7 c8 h123.len rfl) ?_
          refine L_pu (P_move (.slice A11 n12 c13) rfl) ?_
          have hl139 := h124.le
          refine L_pu (P_len Try.underlying33 A11 n12 c13 h124.len rfl) ?_
          refine L_pu (P_assign (vi (a.length : Int)) rfl) ?_
          refine L_pu (P_assign (vi (b.length : Int)) rfl) ?_
          refine L_nil ?_
          refine W_seq ?_
          refine W_seq ?_
          refine W_reg ?_
          refine L_pu (P_move (vi at_2) rfl) ?_
          refine L_pu (P_move (.slice A1 n2 c3) rfl) ?_
          refine L_pu (P_len Try.underlying33 A1 n2 c3 h122.len rfl) ?_
          refine L_pu (P_cmp at_2 (base_.length : Int) (decide (at_2 < (base_.length : Int))) rfl rfl rfl) ?_
          refine L_nil ?_
          refine W_cond (decide (at_2 < (base_.length : Int))) rfl (fun hq140 => ?_) (fun hq140 => ?_)
          · have H := ite_t H hq140
            refine W_seq ?_
            refine W_reg ?_
            refine L_pu (P_move (.slice A51 n52 c53) rfl) ?_
            refine L_pu (P_move (vi at_2) rfl) ?_
            have h141 := Ow.gv (L := [blk (.slice A117 n118 c119), blk (.slice A62 n63 c64), blk (.slice A51 n52 c53)]) (O := O) h125 hc121 (i := 2) rfl
            have hc142 := hc121.drop 2 rfl
            refine L_call go53 [.slice A51 n52 c53, vi at_2] rfl ((impl_partner.calls w111 hc142.ok r A51 n52 c53 h141 at_2 _ H).mono ?_)
            rintro _ w144 ⟨r3, rfl, H, g145⟩
            have hc149 := hc121.k0 g145
            refine L_pu (P_move (.slice A62 n63 c64) rfl) ?_
            refine L_pu (P_move (vi at_2) rfl) ?_
            have h150 := (h126.sn g145)
            have h151 := Ow.gv (L := [blk (.slice A117 n118 c119), blk (.slice A62 n63 c64), blk (.slice A51 n52 c53)]) (O := O) h150 hc149 (i := 1) rfl
            have hc152 := hc149.drop 1 rfl
            refine L_call go53 [.slice A62 n63 c64, vi at_2] rfl ((impl_partner.calls w144 hc152.ok r2 A62 n63 c64 h151 at_2 _ H).mono ?_)
            rintro _ w154 ⟨r4, rfl, H, g155⟩
            have hc159 := hc149.k0 g155
            refine L_pu (P_assign (vi r3) rfl) ?_
            refine L_pu (P_assign (vi r4) rfl) ?_
            refine L_nil ?_
            refine W_seq ?_
            refine W_reg ?_
            refine L_pu (P_move (vi r3) rfl) ?_
            refine L_pu (P_cmp r3 0 (decide (r3 < 0)) rfl rfl rfl) ?_
            refine L_pu (P_move (vb (decide (r3 < 0))) rfl) ?_
            rcases bool_or (decide (r3 < 0)) with hq160 | hq160
            · have H := ite_t H hq160
              refine L_pass (dj := 63) rfl rfl (.inl (by exact congrArg Value.bool hq160)) ?_
              refine L_pass (dj := 63) rfl rfl (.inl (by exact congrArg Value.bool hq160)) ?_
              refine L_pu (P_pick true (vb true) (by exact congrArg Value.bool hq160) rfl) ?_
              refine L_nil ?_
              refine W_ct (b := true) rfl rfl ?_
              refine W_exit (xin_hit ?_)
              refine W_reg ?_
              refine L_pu (P_move (vi at_2) rfl) ?_
              obtain ⟨hb162, H⟩ := H
              have hi161 : I64 (at_2 + 1) := i64_succ (of_decide_eq_true hq140) hl136 hb162
              refine L_pu (P_add at_2 1 rfl rfl hi161) ?_
              refine L_pu (P_assign (vi (at_2 + 1)) rfl) ?_
              refine L_nil ?_
              obtain ⟨hI163, hm164⟩ := H
              have h165 := ((h122.st (.new _ g145)).st (.new _ g155))
              have h166 := ((h123.st (.new _ g145)).st (.new _ g155))
              have h167 := ((h124.st (.new _ g145)).st (.new _ g155))
              have h168 := ((h125.sn g145).sn g155)
              have h169 := ((h126.sn g145).sn g155)
              have h170 := ((h127.sn g145).sn g155)
              exact ⟨(xs2, A117, n118, c119, i2, j2, k2, at_2 + 1), hm164, hI163, ⟨rfl, rfl, rfl, rfl, rfl, rfl, rfl, rfl, rfl, rfl, trivial⟩, hc159, h165, h166, h167, h168, h169, h170⟩
            · have H := ite_f H hq160
              refine L_run (dj := 63) rfl rfl (by exact congrArg Value.bool hq160) ?_
              refine L_pu (P_move (vi r4) rfl) ?_
              refine L_run (dj := 63) rfl rfl (by exact congrArg Value.bool hq160) ?_
              refine L_pu (P_cmp r4 0 (decide (r4 < 0)) rfl rfl rfl) ?_
              refine L_pu (P_pick false (vb (decide (r4 < 0))) (by exact congrArg Value.bool hq160) rfl) ?_
              refine L_nil ?_
              refine W_cond (decide (r4 < 0)) rfl (fun hq171 => ?_) (fun hq171 => ?_)
              · have H := ite_t H hq171
                refine W_exit (xin_hit ?_)
                refine W_reg ?_
                refine L_pu (P_move (vi at_2) rfl) ?_
                obtain ⟨hb173, H⟩ := H
                have hi172 : I64 (at_2 + 1) := i64_succ (of_decide_eq_true hq140) hl136 hb173
                refine L_pu (P_add at_2 1 rfl rfl hi172) ?_
                refine L_pu (P_assign (vi (at_2 + 1)) rfl) ?_
                refine L_nil ?_
                obtain ⟨hI174, hm175⟩ := H
                have h176 := ((h122.st (.new _ g145)).st (.new _ g155))
                have h177 := ((h123.st (.new _ g145)).st (.new _ g155))
                have h178 := ((h124.st (.new _ g145)).st (.new _ g155))
                have h179 := ((h125.sn g145).sn g155)
                have h180 := ((h126.sn g145).sn g155)
                have h181 := ((h127.sn g145).sn g155)
                exact ⟨(xs2, A117, n118, c119, i2, j2, k2, at_2 + 1), hm175, hI174, ⟨rfl, rfl, rfl, rfl, rfl, rfl, rfl, rfl, rfl, rfl, trivial⟩, hc159, h176, h177, h178, h179, h180, h181⟩
              · have H := ite_f H hq171
                refine W_skip ?_
                refine W_seq ?_
                refine W_draw (fun x => Gr w154 x none) (by kernel_rfl) (by kernel_rfl) (Gr.drew _) ?_
                refine Q_pu (P_move (.slice A1 n2 c3) rfl) ?_
                refine Q_pu (P_move (vi i2) rfl) ?_
                refine Q_pu (P_move (vi at_2) rfl) ?_
                obtain ⟨hb182, H⟩ := H
                have h187 := ((h122.st (.new _ g145)).st (.new _ g155))
                refine Q_cuts Try.underlying33 se33 A1 n2 c3 base_ rfl h187 i2 at_2 rfl rfl hb182 fun A183 n184 c185 h186 => ?_
                refine Q_pu (P_move (.slice A6 n7 c8) rfl) ?_
                refine Q_pu (P_move (vi j2) rfl) ?_
                refine Q_pu (P_move (vi r3) rfl) ?_
                obtain ⟨hb189, H⟩ := H
                have h194 := ((h123.st (.new _ g145)).st (.new _ g155))
                refine Q_cuts Try.underlying33 se33 A6 n7 c8 a rfl h194 j2 r3 rfl rfl hb189 fun A190 n191 c192 h193 => ?_
                refine Q_pu (P_move (.slice A11 n12 c13) rfl) ?_
                refine Q_pu (P_move (vi k2) rfl) ?_
                refine Q_pu (P_move (vi r4) rfl) ?_
                obtain ⟨hb196, H⟩ := H
                have h201 := ((h124.st (.new _ g145)).st (.new _ g155))
                refine Q_cuts Try.underlying33 se33 A11 n12 c13 b rfl h201 k2 r4 rfl rfl hb196 fun A197 n198 c199 h200 => ?_
                refine Q_pu (P_assign (.slice A183 n184 c185) rfl) ?_
                refine Q_pu (P_assign (.slice A190 n191 c192) rfl) ?_
                refine Q_pu (P_assign (.slice A197 n198 c199) rfl) ?_
                refine Q_nil fun w203 g204 => ?_
                have hc206 := hc159.k0 g204
                refine W_seq ?_
                refine W_block ?_
                refine W_seq ?_
                refine W_reg ?_
                refine L_pu (P_move (.slice A190 n191 c192) rfl) ?_
                refine L_pu (P_move (.slice A183 n184 c185) rfl) ?_
                refine L_call go54 [.slice A190 n191 c192, .slice A183 n184 c185] rfl ((slices_Equal_Pt.calls w203 hc206.ok ((a.drop j2.toNat).take (r3.toNat - j2.toNat)) A190 n191 c192 (h193.st (.new _ g204)) ((base_.drop i2.toNat).take (at_2.toNat - i2.toNat)) A183 n184 c185 (h186.st (.new _ g204)) _ H).mono ?_)
                rintro _ w207 ⟨r5, rfl, H, g208⟩
                have hc212 := hc206.k0 g208
                refine L_pu (P_assign (vb r5) rfl) ?_
                refine L_nil ?_
                refine W_cond r5 rfl (fun hq213 => ?_) (fun hq213 => ?_)
                · have H := ite_t H hq213
                  refine W_reg ?_
                  refine L_pu (P_move (.slice A117 n118 c119) rfl) ?_
                  refine L_pu (P_move (.slice A197 n198 c199) rfl) ?_
                  have h214 := ((h200.st (.new _ g204)).st (.new _ g208))
                  obtain ⟨hb215, H⟩ := H
                  have h216 := ((((h127.sn g145).sn g155).sn g204).sn g208)
                  refine L_app ei33 hc212 (.slice A117 n118 c119) xs2 ((b.drop k2.toNat).take (r4.toNat - k2.toNat)) rfl h216 (.slice A197 n198 c199) rfl h214.sx 0 rfl hb215 fun w217 A218 n219 c220 g221 s222 hc223 h224 => ?_
                  refine L_pu (P_assign (.slice A218 n219 c220) rfl) ?_
                  refine L_nil ?_
                  refine W_seq ?_
                  refine W_seq ?_
                  refine W_reg ?_
                  refine L_pu (P_move (vi at_2) rfl) ?_
                  refine L_pu (P_move (.slice A1 n2 c3) rfl) ?_
                  have h226 := (((h187.st (.new _ g204)).st (.new _ g208)).st s222)
                  refine L_pu (P_len Try.underlying33 A1 n2 c3 h226.len rfl) ?_
                  refine L_pu (P_cmp at_2 (base_.length : Int) (decide (at_2 < (base_.length : Int))) rfl rfl rfl) ?_
                  refine L_nil ?_
                  refine W_ct (b := decide (at_2 < (base_.length : Int))) rfl hq140 ?_
                  refine W_reg ?_
                  refine L_pu (P_move (.slice A218 n219 c220) rfl) ?_
                  refine L_pu (P_move (.slice A1 n2 c3) rfl) ?_
                  refine L_pu (P_move (vi at_2) rfl) ?_
                  obtain ⟨hb227, H⟩ := H
                  obtain ⟨ad228, cs229, hA230, hS233, hR231, hcl232⟩ := h226.get default (by decide) at_2 hb227
                  obtain rfl := kPt.op hR231
                  refine L_pu (P_ia Try.underlying33 se33 A1 ad228 n2 c3 h226.len at_2 rfl hA230 rfl hb227) ?_
                  refine L_pu (P_lda ag41 sz41 cL (ad228.add (at_2.toNat * 2)) [vi ((nth base_ at_2).X), vi ((nth base_ at_2).Y)] rfl rfl hcl232) ?_
                  refine L_lit (kd := kPt) ei33 hc223 ([(nth base_ at_2)] : List Pt) (cells := [vi ((nth base_ at_2).X), vi ((nth base_ at_2).Y)]) ⟨[vi ((nth base_ at_2).X), vi ((nth base_ at_2).Y)], _, rfl, (kPt.mk _ _ (nth base_ at_2)), rfl⟩ (fun _ => by kernel_rfl) fun w234 A235 n236 c237 g238 hr239 hc240 h241 => ?_
                  obtain ⟨hb243, H⟩ := H
                  have h244 := (h224.so _ g238 hr239)
                  refine L_app ei33 hc240 (.slice A218 n219 c220) (xs2 ++ ((b.drop k2.toNat).take (r4.toNat - k2.toNat))) ([(nth base_ at_2)] : List Pt) rfl h244 (.slice A235 n236 c237) rfl h241.sx 1 rfl hb243 fun w245 A246 n247 c248 g249 s250 hc251 h252 => ?_
                  refine L_pu (P_assign (.slice A246 n247 c248) rfl) ?_
                  refine L_nil ?_
                  refine W_reg ?_
                  refine L_pu (P_move (vi at_2) rfl) ?_
                  obtain ⟨hb255, H⟩ := H
                  have hi254 : I64 (at_2 + 1) := i64_succ (of_decide_eq_true hq140) hl136 hb255
                  refine L_pu (P_add at_2 1 rfl rfl hi254) ?_
                  refine L_pu (P_move (vi r3) rfl) ?_
                  obtain ⟨hb256, H⟩ := H
                  have hi257 := hb256 (len_le hl136) (len_le hl138) (len_le hl139)
                  refine L_pu (P_add r3 1 rfl rfl hi257) ?_
                  refine L_pu (P_move (vi r4) rfl) ?_
                  obtain ⟨hb258, H⟩ := H
                  have hi259 := hb258 (len_le hl136) (len_le hl138) (len_le hl139)
                  refine L_pu (P_add r4 1 rfl rfl hi259) ?_
                  refine L_pu (P_assign (vi (at_2 + 1)) rfl) ?_
                  refine L_pu (P_assign (vi (r3 + 1)) rfl) ?_
                  refine L_pu (P_assign (vi (r4 + 1)) rfl) ?_
                  refine L_nil ?_
                  refine W_reg ?_
                  refine L_pu (P_move (vi at_2) rfl) ?_
                  obtain ⟨hb261, H⟩ := H
                  have hi260 : I64 (at_2 + 1) := i64_succ (of_decide_eq_true hq140) hl136 hb261
                  refine L_pu (P_add at_2 1 rfl rfl hi260) ?_
                  refine L_pu (P_assign (vi (at_2 + 1)) rfl) ?_
                  refine L_nil ?_
                  have hc262 := hc251.drop 0 rfl
                  obtain ⟨hI263, hm264⟩ := H
                  have h265 := (((h226.st (.own _ _ g238 hr239)).st s250).st (.dr _ (L := [blk (.slice A235 n236 c237), blk (.slice A246 n247 c248), blk (.slice A62 n63 c64), blk (.slice A51 n52 c53)]) (O := O) (j := 0) rfl))
                  have h266 := ((((((h194.st (.new _ g204)).st (.new _ g208)).st s222).st (.own _ _ g238 hr239)).st s250).st (.dr _ (L := [blk (.slice A235 n236 c237), blk (.slice A246 n247 c248), blk (.slice A62 n63 c64), blk (.slice A51 n52 c53)]) (O := O) (j := 0) rfl))
                  have h267 := ((((((h201.st (.new _ g204)).st (.new _ g208)).st s222).st (.own _ _ g238 hr239)).st s250).st (.dr _ (L := [blk (.slice A235 n236 c237), blk (.slice A246 n247 c248), blk (.slice A62 n63 c64), blk (.slice A51 n52 c53)]) (O := O) (j := 0) rfl))
                  have h268 := (Ow.sd (L := [blk (.slice A235 n236 c237), blk (.slice A246 n247 c248), blk (.slice A62 n63 c64), blk (.slice A51 n52 c53)]) (O := O) (Ow.sm (L := [blk (.slice A235 n236 c237), blk (.slice A218 n219 c220), blk (.slice A62 n63 c64), blk (.slice A51 n52 c53)]) (O := O) ((Ow.sm (L := [blk (.slice A117 n118 c119), blk (.slice A62 n63 c64), blk (.slice A51 n52 c53)]) (O := O) ((((h125.sn g145).sn g155).sn g204).sn g208) hc212 (i := 2) rfl (j := 0) rfl (by decide) g221 s222).so _ g238 hr239) hc240 (i := 3) rfl (j := 1) rfl (by decide) g249 s250) (i := 3) rfl (j := 0) rfl (by decide))
                  have h269 := (Ow.sd (L := [blk (.slice A235 n236 c237), blk (.slice A246 n247 c248), blk (.slice A62 n63 c64), blk (.slice A51 n52 c53)]) (O := O) (Ow.sm (L := [blk (.slice A235 n236 c237), blk (.slice A218 n219 c220), blk (.slice A62 n63 c64), blk (.slice A51 n52 c53)]) (O := O) ((Ow.sm (L := [blk (.slice A117 n118 c119), blk (.slice A62 n63 c64), blk (.slice A51 n52 c53)]) (O := O) ((((h126.sn g145).sn g155).sn g204).sn g208) hc212 (i := 1) rfl (j := 0) rfl (by decide) g221 s222).so _ g238 hr239) hc240 (i := 2) rfl (j := 1) rfl (by decide) g249 s250) (i := 2) rfl (j := 0) rfl (by decide))
                  have h270 := (Ow.sd (L := [blk (.slice A235 n236 c237), blk (.slice A246 n247 c248), blk (.slice A62 n63 c64), blk (.slice A51 n52 c53)]) (O := O) h252 (i := 1) rfl (j := 0) rfl (by decide))
                  exact ⟨(((xs2 ++ ((b.drop k2.toNat).take (r4.toNat - k2.toNat))) ++ ([(nth base_ at_2)] : List Pt)), A246, n247, c248, at_2 + 1, r3 + 1, r4 + 1, at_2 + 1), hm264, hI263, ⟨rfl, rfl, rfl, rfl, rfl, rfl, rfl, rfl, rfl, rfl, trivial⟩, hc262, h265, h266, h267, h268, h269, h270⟩
                · have H := ite_f H hq213
                  refine W_seq ?_
                  refine W_reg ?_
                  refine L_pu (P_move (.slice A197 n198 c199) rfl) ?_
                  refine L_pu (P_move (.slice A183 n184 c185) rfl) ?_
                  have h271 := ((h200.st (.new _ g204)).st (.new _ g208))
                  have h272 := ((h186.st (.new _ g204)).st (.new _ g208))
                  refine L_call go54 [.slice A197 n198 c199, .slice A183 n184 c185] rfl ((slices_Equal_Pt.calls w207 hc212.ok ((b.drop k2.toNat).take (r4.toNat - k2.toNat)) A197 n198 c199 h271 ((base_.drop i2.toNat).take (at_2.toNat - i2.toNat)) A183 n184 c185 h272 _ H).mono ?_)
                  rintro _ w273 ⟨r6, rfl, H, g274⟩
                  have hc278 := hc212.k0 g274
                  refine L_pu (P_move (vb r6) rfl) ?_
                  rcases bool_or r6 with hq279 | hq279
                  · have H := ite_t H hq279
                    refine L_pass (dj := 91) rfl rfl (.inl (by exact congrArg Value.bool hq279)) ?_
                    refine L_pass (dj := 91) rfl rfl (.inl (by exact congrArg Value.bool hq279)) ?_
                    refine L_pass (dj := 91) rfl rfl (.inl (by exact congrArg Value.bool hq279)) ?_
                    refine L_pu (P_pick true (vb true) (by exact congrArg Value.bool hq279) rfl) ?_
                    refine L_pu (P_assign (vb true) rfl) ?_
                    refine L_nil ?_
                    refine W_ct (b := true) rfl rfl ?_
                    refine W_reg ?_
                    refine L_pu (P_move (.slice A117 n118 c119) rfl) ?_
                    refine L_pu (P_move (.slice A190 n191 c192) rfl) ?_
                    have h280 := (((h193.st (.new _ g204)).st (.new _ g208)).st (.new _ g274))
                    obtain ⟨hb281, H⟩ := H
                    have h282 := (((((h127.sn g145).sn g155).sn g204).sn g208).sn g274)
                    refine L_app ei33 hc278 (.slice A117 n118 c119) xs2 ((a.drop j2.toNat).take (r3.toNat - j2.toNat)) rfl h282 (.slice A190 n191 c192) rfl h280.sx 0 rfl hb281 fun w283 A284 n285 c286 g287 s288 hc289 h290 => ?_
                    refine L_pu (P_assign (.slice A284 n285 c286) rfl) ?_
                    refine L_nil ?_
                    refine W_seq ?_
                    refine W_seq ?_
                    refine W_reg ?_
                    refine L_pu (P_move (vi at_2) rfl) ?_
                    refine L_pu (P_move (.slice A1 n2 c3) rfl) ?_
                    have h292 := ((((h187.st (.new _ g204)).st (.new _ g208)).st (.new _ g274)).st s288)
                    refine L_pu (P_len Try.underlying33 A1 n2 c3 h292.len rfl) ?_
                    refine L_pu (P_cmp at_2 (base_.length : Int) (decide (at_2 < (base_.length : Int))) rfl rfl rfl) ?_
                    refine L_nil ?_
                    refine W_ct (b := decide (at_2 < (base_.length : Int))) rfl hq140 ?_
                    refine W_reg ?_
                    refine L_pu (P_move (.slice A284 n285 c286) rfl) ?_
                    refine L_pu (P_move (.slice A1 n2 c3) rfl) ?_
                    refine L_pu (P_move (vi at_2) rfl) ?_
                    obtain ⟨hb293, H⟩ := H
                    obtain ⟨ad294, cs295, hA296, hS299, hR297, hcl298⟩ := h292.get default (by decide) at_2 hb293
                    obtain rfl := kPt.op hR297
                    refine L_pu (P_ia Try.underlying33 se33 A1 ad294 n2 c3 h292.len at_2 rfl hA296 rfl hb293) ?_
                    refine L_pu (P_lda ag41 sz41 cL (ad294.add (at_2.toNat * 2)) [vi ((nth base_ at_2).X), vi ((nth base_ at_2).Y)] rfl rfl hcl298) ?_
                    refine L_lit (kd := kPt) ei33 hc289 ([(nth base_ at_2)] : List Pt) (cells := [vi ((nth base_ at_2).X), vi ((nth base_ at_2).Y)]) ⟨[vi ((nth base_ at_2).X), vi ((nth base_ at_2).Y)], _, rfl, (kPt.mk _ _ (nth base_ at_2)), rfl⟩ (fun _ => by kernel_rfl) fun w300 A301 n302 c303 g304 hr305 hc306 h307 => ?_
                    obtain ⟨hb309, H⟩ := H
                    have h310 := (h290.so _ g304 hr305)
                    refine L_app ei33 hc306 (.slice A284 n285 c286) (xs2 ++ ((a.drop j2.toNat).take (r3.toNat - j2.toNat))) ([(nth base_ at_2)] : List Pt) rfl h310 (.slice A301 n302 c303) rfl h307.sx 1 rfl hb309 fun w311 A312 n313 c314 g315 s316 hc317 h318 => ?_
                    refine L_pu (P_assign (.slice A312 n313 c314) rfl) ?_
                    refine L_nil ?_
                    refine W_reg ?_
                    refine L_pu (P_move (vi at_2) rfl) ?_
                    obtain ⟨hb321, H⟩ := H
                    have hi320 : I64 (at_2 + 1) := i64_succ (of_decide_eq_true hq140) hl136 hb321
                    refine L_pu (P_add at_2 1 rfl rfl hi320) ?_
                    refine L_pu (P_move (vi r3) rfl) ?_
                    obtain ⟨hb322, H⟩ := H
                    have hi323 := hb322 (len_le hl136) (len_le hl138) (len_le hl139)
                    refine L_pu (P_add r3 1 rfl rfl hi323) ?_
                    refine L_pu (P_move (vi r4) rfl) ?_
                    obtain ⟨hb324, H⟩ := H
                    have hi325 := hb324 (len_le hl136) (len_le hl138) (len_le hl139)
                    refine L_pu (P_add r4 1 rfl rfl hi325) ?_
                    refine L_pu (P_assign (vi (at_2 + 1)) rfl) ?_
                    refine L_pu (P_assign (vi (r3 + 1)) rfl) ?_
                    refine L_pu (P_assign (vi (r4 + 1)) rfl) ?_
                    refine L_nil ?_
                    refine W_reg ?_
                    refine L_pu (P_move (vi at_2) rfl) ?_
                    obtain ⟨hb327, H⟩ := H
                    have hi326 : I64 (at_2 + 1) := i64_succ (of_decide_eq_true hq140) hl136 hb327
                    refine L_pu (P_add at_2 1 rfl rfl hi326) ?_
                    refine L_pu (P_assign (vi (at_2 + 1)) rfl) ?_
                    refine L_nil ?_
                    have hc328 := hc317.drop 0 rfl
                    obtain ⟨hI329, hm330⟩ := H
                    have h331 := (((h292.st (.own _ _ g304 hr305)).st s316).st (.dr _ (L := [blk (.slice A301 n302 c303), blk (.slice A312 n313 c314), blk (.slice A62 n63 c64), blk (.slice A51 n52 c53)]) (O := O) (j := 0) rfl))
                    have h332 := (((((((h194.st (.new _ g204)).st (.new _ g208)).st (.new _ g274)).st s288).st (.own _ _ g304 hr305)).st s316).st (.dr _ (L := [blk (.slice A301 n302 c303), blk (.slice A312 n313 c314), blk (.slice A62 n63 c64), blk (.slice A51 n52 c53)]) (O := O) (j := 0) rfl))
                    have h333 := (((((((h201.st (.new _ g204)).st (.new _ g208)).st (.new _ g274)).st s288).st (.own _ _ g304 hr305)).st s316).st (.dr _ (L := [blk (.slice A301 n302 c303), blk (.slice A312 n313 c314), blk (.slice A62 n63 c64), blk (.slice A51 n52 c53)]) (O := O) (j := 0) rfl))
                    have h334 := (Ow.sd (L := [blk (.slice A301 n302 c303), blk (.slice A312 n313 c314), blk (.slice A62 n63 c64), blk (.slice A51 n52 c53)]) (O := O) (Ow.sm (L := [blk (.slice A301 n302 c303), blk (.slice A284 n285 c286), blk (.slice A62 n63 c64), blk (.slice A51 n52 c53)]) (O := O) ((Ow.sm (L := [blk (.slice A117 n118 c119), blk (.slice A62 n63 c64), blk (.slice A51 n52 c53)]) (O := O) (((((h125.sn g145).sn g155).sn g204).sn g208).sn g274) hc278 (i := 2) rfl (j := 0) rfl (by decide) g287 s288).so _ g304 hr305) hc306 (i := 3) rfl (j := 1) rfl (by decide) g315 s316) (i := 3) rfl (j := 0) rfl (by decide))
                    have h335 := (Ow.sd (L := [blk (.slice A301 n302 c303), blk (.slice A312 n313 c314), blk (.slice A62 n63 c64), blk (.slice A51 n52 c53)]) (O := O) (Ow.sm (L := [blk (.slice A301 n302 c303), blk (.slice A284 n285 c286), blk (.slice A62 n63 c64), blk (.slice A51 n52 c53)]) (O := O) ((Ow.sm (L := [blk (.slice A117 n118 c119), blk (.slice A62 n63 c64), blk (.slice A51 n52 c53)]) (O := O) (((((h126.sn g145).sn g155).sn g204).sn g208).sn g274) hc278 (i := 1) rfl (j := 0) rfl (by decide) g287 s288).so _ g304 hr305) hc306 (i := 2) rfl (j := 1) rfl (by decide) g315 s316) (i := 2) rfl (j := 0) rfl (by decide))
                    have h336 := (Ow.sd (L := [blk (.slice A301 n302 c303), blk (.slice A312 n313 c314), blk (.slice A62 n63 c64), blk (.slice A51 n52 c53)]) (O := O) h318 (i := 1) rfl (j := 0) rfl (by decide))
                    exact ⟨(((xs2 ++ ((a.drop j2.toNat).take (r3.toNat - j2.toNat))) ++ ([(nth base_ at_2)] : List Pt)), A312, n313, c314, at_2 + 1, r3 + 1, r4 + 1, at_2 + 1), hm330, hI329, ⟨rfl, rfl, rfl, rfl, rfl, rfl, rfl, rfl, rfl, rfl, trivial⟩, hc328, h331, h332, h333, h334, h335, h336⟩
                  · have H := ite_f H hq279
                    refine L_run (dj := 91) rfl rfl (by exact congrArg Value.bool hq279) ?_
                    refine L_pu (P_move (.slice A190 n191 c192) rfl) ?_
                    refine L_run (dj := 91) rfl rfl (by exact congrArg Value.bool hq279) ?_
                    refine L_pu (P_move (.slice A197 n198 c199) rfl) ?_
                    refine L_run (dj := 91) rfl rfl (by exact congrArg Value.bool hq279) ?_
                    have h337 := (((h193.st (.new _ g204)).st (.new _ g208)).st (.new _ g274))
                    refine L_call go54 [.slice A190 n191 c192, .slice A197 n198 c199] rfl ((slices_Equal_Pt.calls w273 hc278.ok ((a.drop j2.toNat).take (r3.toNat - j2.toNat)) A190 n191 c192 h337 ((b.drop k2.toNat).take (r4.toNat - k2.toNat)) A197 n198 c199 (h271.st (.new _ g274)) _ H).mono ?_)
                    rintro _ w338 ⟨r7, rfl, H, g339⟩
                    have hc343 := hc278.k0 g339
                    refine L_pu (P_pick false (vb r7) (by exact congrArg Value.bool hq279) rfl) ?_
                    refine L_pu (P_assign (vb r7) rfl) ?_
                    refine L_nil ?_
                    refine W_cond r7 rfl (fun hq344 => ?_) (fun hq344 => ?_)
                    · have H := ite_t H hq344
                      refine W_reg ?_
                      refine L_pu (P_move (.slice A117 n118 c119) rfl) ?_
                      refine L_pu (P_move (.slice A190 n191 c192) rfl) ?_
                      obtain ⟨hb345, H⟩ := H
                      have h346 := ((((((h127.sn g145).sn g155).sn g204).sn g208).sn g274).sn g339)
                      refine L_app ei33 hc343 (.slice A117 n118 c119) xs2 ((a.drop j2.toNat).take (r3.toNat - j2.toNat)) rfl h346 (.slice A190 n191 c192) rfl (h337.st (.new _ g339)).sx 0 rfl hb345 fun w347 A348 n349 c350 g351 s352 hc353 h354 => ?_
                      refine L_pu (P_assign (.slice A348 n349 c350) rfl) ?_
                      refine L_nil ?_
                      refine W_seq ?_
                      refine W_seq ?_
                      refine W_reg ?_
                      refine L_pu (P_move (vi at_2) rfl) ?_
                      refine L_pu (P_move (.slice A1 n2 c3) rfl) ?_
                      have h356 := (((((h187.st (.new _ g204)).st (.new _ g208)).st (.new _ g274)).st (.new _ g339)).st s352)
                      refine L_pu (P_len Try.underlying33 A1 n2 c3 h356.len rfl) ?_
                      refine L_pu (P_cmp at_2 (base_.length : Int) (decide (at_2 < (base_.length : Int))) rfl rfl rfl) ?_
                      refine L_nil ?_
                      refine W_ct (b := decide (at_2 < (base_.length : Int))) rfl hq140 ?_
                      refine W_reg ?_
                      refine L_pu (P_move (.slice A348 n349 c350) rfl) ?_
                      refine L_pu (P_move (.slice A1 n2 c3) rfl) ?_
                      refine L_pu (P_move (vi at_2) rfl) ?_
                      obtain ⟨hb357, H⟩ := H
                      obtain ⟨ad358, cs359, hA360, hS363, hR361, hcl362⟩ := h356.get default (by decide) at_2 hb357
                      obtain rfl := kPt.op hR361
                      refine L_pu (P_ia Try.underlying33 se33 A1 ad358 n2 c3 h356.len at_2 rfl hA360 rfl hb357) ?_
                      refine L_pu (P_lda ag41 sz41 cL (ad358.add (at_2.toNat * 2)) [vi ((nth base_ at_2).X), vi ((nth base_ at_2).Y)] rfl rfl hcl362) ?_
                      refine L_lit (kd := kPt) ei33 hc353 ([(nth base_ at_2)] : List Pt) (cells := [vi ((nth base_ at_2).X), vi ((nth base_ at_2).Y)]) ⟨[vi ((nth base_ at_2).X), vi ((nth base_ at_2).Y)], _, rfl, (kPt.mk _ _ (nth base_ at_2)), rfl⟩ (fun _ => by kernel_rfl) fun w364 A365 n366 c367 g368 hr369 hc370 h371 => ?_
                      obtain ⟨hb373, H⟩ := H
                      have h374 := (h354.so _ g368 hr369)
                      refine L_app ei33 hc370 (.slice A348 n349 c350) (xs2 ++ ((a.drop j2.toNat).take (r3.toNat - j2.toNat))) ([(nth base_ at_2)] : List Pt) rfl h374 (.slice A365 n366 c367) rfl h371.sx 1 rfl hb373 fun w375 A376 n377 c378 g379 s380 hc381 h382 => ?_
                      refine L_pu (P_assign (.slice A376 n377 c378) rfl) ?_
                      refine L_nil ?_
                      refine W_reg ?_
                      refine L_pu (P_move (vi at_2) rfl) ?_
                      obtain ⟨hb385, H⟩ := H
                      have hi384 : I64 (at_2 + 1) := i64_succ (of_decide_eq_true hq140) hl136 hb385
                      refine L_pu (P_add at_2 1 rfl rfl hi384) ?_
                      refine L_pu (P_move (vi r3) rfl) ?_
                      obtain ⟨hb386, H⟩ := H
                      have hi387 := hb386 (len_le hl136) (len_le hl138) (len_le hl139)
                      refine L_pu (P_add r3 1 rfl rfl hi387) ?_
                      refine L_pu (P_move (vi r4) rfl) ?_
                      obtain ⟨hb388, H⟩ := H
                      have hi389 := hb388 (len_le hl136) (len_le hl138) (len_le hl139)
                      refine L_pu (P_add r4 1 rfl rfl hi389) ?_
                      refine L_pu (P_assign (vi (at_2 + 1)) rfl) ?_
                      refine L_pu (P_assign (vi (r3 + 1)) rfl) ?_
                      refine L_pu (P_assign (vi (r4 + 1)) rfl) ?_
                      refine L_nil ?_
                      refine W_reg ?_
                      refine L_pu (P_move (vi at_2) rfl) ?_
                      obtain ⟨hb391, H⟩ := H
                      have hi390 : I64 (at_2 + 1) := i64_succ (of_decide_eq_true hq140) hl136 hb391
                      refine L_pu (P_add at_2 1 rfl rfl hi390) ?_
                      refine L_pu (P_assign (vi (at_2 + 1)) rfl) ?_
                      refine L_nil ?_
                      have hc392 := hc381.drop 0 rfl
                      obtain ⟨hI393, hm394⟩ := H
                      have h395 := (((h356.st (.own _ _ g368 hr369)).st s380).st (.dr _ (L := [blk (.slice A365 n366 c367), blk (.slice A376 n377 c378), blk (.slice A62 n63 c64), blk (.slice A51 n52 c53)]) (O := O) (j := 0) rfl))
                      have h396 := ((((((((h194.st (.new _ g204)).st (.new _ g208)).st (.new _ g274)).st (.new _ g339)).st s352).st (.own _ _ g368 hr369)).st s380).st (.dr _ (L := [blk (.slice A365 n366 c367), blk (.slice A376 n377 c378), blk (.slice A62 n63 c64), blk (.slice A51 n52 c53)]) (O := O) (j := 0) rfl))
                      have h397 := ((((((((h201.st (.new _ g204)).st (.new _ g208)).st (.new _ g274)).st (.new _ g339)).st s352).st (.own _ _ g368 hr369)).st s380).st (.dr _ (L := [blk (.slice A365 n366 c367), blk (.slice A376 n377 c378), blk (.slice A62 n63 c64), blk (.slice A51 n52 c53)]) (O := O) (j := 0) rfl))
                      have h398 := (Ow.sd (L := [blk (.slice A365 n366 c367), blk (.slice A376 n377 c378), blk (.slice A62 n63 c64), blk (.slice A51 n52 c53)]) (O := O) (Ow.sm (L := [blk (.slice A365 n366 c367), blk (.slice A348 n349 c350), blk (.slice A62 n63 c64), blk (.slice A51 n52 c53)]) (O := O) ((Ow.sm (L := [blk (.slice A117 n118 c119), blk (.slice A62 n63 c64), blk (.slice A51 n52 c53)]) (O := O) ((((((h125.sn g145).sn g155).sn g204).sn g208).sn g274).sn g339) hc343 (i := 2) rfl (j := 0) rfl (by decide) g351 s352).so _ g368 hr369) hc370 (i := 3) rfl (j := 1) rfl (by decide) g379 s380) (i := 3) rfl (j := 0) rfl (by decide))
                      have h399 := (Ow.sd (L := [blk (.slice A365 n366 c367), blk (.slice A376 n377 c378), blk (.slice A62 n63 c64), blk (.slice A51 n52 c53)]) (O := O) (Ow.sm (L := [blk (.slice A365 n366 c367), blk (.slice A348 n349 c350), blk (.slice A62 n63 c64), blk (.slice A51 n52 c53)]) (O := O) ((Ow.sm (L := [blk (.slice A117 n118 c119), blk (.slice A62 n63 c64), blk (.slice A51 n52 c53)]) (O := O) ((((((h126.sn g145).sn g155).sn g204).sn g208).sn g274).sn g339) hc343 (i := 1) rfl (j := 0) rfl (by decide) g351 s352).so _ g368 hr369) hc370 (i := 2) rfl (j := 1) rfl (by decide) g379 s380) (i := 2) rfl (j := 0) rfl (by decide))
                      have h400 := (Ow.sd (L := [blk (.slice A365 n366 c367), blk (.slice A376 n377 c378), blk (.slice A62 n63 c64), blk (.slice A51 n52 c53)]) (O := O) h382 (i := 1) rfl (j := 0) rfl (by decide))
                      exact ⟨(((xs2 ++ ((a.drop j2.toNat).take (r3.toNat - j2.toNat))) ++ ([(nth base_ at_2)] : List Pt)), A376, n377, c378, at_2 + 1, r3 + 1, r4 + 1, at_2 + 1), hm394, hI393, ⟨rfl, rfl, rfl, rfl, rfl, rfl, rfl, rfl, rfl, rfl, trivial⟩, hc392, h395, h396, h397, h398, h399, h400⟩
                    · have H := ite_f H hq344
                      refine W_seq ?_
                      refine W_reg ?_
                      refine L_lit (kd := kPt) ei33 hc343 ([] : List Pt) (cells := []) rfl (fun _ => by kernel_rfl) fun w401 A402 n403 c404 g405 hr406 hc407 h408 => ?_
                      refine L_pu (P_assign (.slice A402 n403 c404) rfl) ?_
                      refine L_pu (P_assign (vb false) rfl) ?_
                      refine L_nil ?_
                      refine W_ret ?_
                      have hc410 := hc407.drop 1 rfl
                      have hc411 := hc410.drop 1 rfl
                      have hc412 := hc411.drop 1 rfl
                      have h413 := (Ow.sd (L := [blk (.slice A402 n403 c404), blk (.slice A51 n52 c53)]) (O := O) (Ow.sd (L := [blk (.slice A402 n403 c404), blk (.slice A62 n63 c64), blk (.slice A51 n52 c53)]) (O := O) (Ow.sd (L := [blk (.slice A402 n403 c404), blk (.slice A117 n118 c119), blk (.slice A62 n63 c64), blk (.slice A51 n52 c53)]) (O := O) h408 (i := 0) rfl (j := 1) rfl (by decide)) (i := 0) rfl (j := 1) rfl (by decide)) (i := 0) rfl (j := 1) rfl (by decide))
                      exact ⟨[.slice A402 n403 c404, vb false], ⟨_, rfl, ⟨_, rfl, rfl⟩⟩, ([] : List Pt), false, A402, n403, c404, rfl, H, hc412.gr, hc412.ok, hc412.ge, h413⟩
          · have H := ite_f H hq140
            refine W_skip ?_
            refine W_seq ?_
            refine W_draw (fun x => Gr w111 x none) (by kernel_rfl) (by kernel_rfl) (Gr.drew _) ?_
            refine Q_pu (P_move (.slice A1 n2 c3) rfl) ?_
            refine Q_pu (P_move (vi i2) rfl) ?_
            refine Q_pu (P_move (vi at_2) rfl) ?_
            obtain ⟨hb414, H⟩ := H
            refine Q_cuts Try.underlying33 se33 A1 n2 c3 base_ rfl h122 i2 at_2 rfl rfl hb414 fun A415 n416 c417 h418 => ?_
            refine Q_pu (P_move (.slice A6 n7 c8) rfl) ?_
            refine Q_pu (P_move (vi j2) rfl) ?_
            refine Q_pu (P_move (vi (a.length : Int)) rfl) ?_
            obtain ⟨hb420, H⟩ := H
            refine Q_cuts Try.underlying33 se33 A6 n7 c8 a rfl h123 j2 (a.length : Int) rfl rfl hb420 fun A421 n422 c423 h424 => ?_
            refine Q_pu (P_move (.slice A11 n12 c13) rfl) ?_
            refine Q_pu (P_move (vi k2) rfl) ?_
            refine Q_pu (P_move (vi (b.length : Int)) rfl) ?_
            obtain ⟨hb426, H⟩ := H
            refine Q_cuts Try.underlying33 se33 A11 n12 c13 b rfl h124 k2 (b.length : Int) rfl rfl hb426 fun A427 n428 c429 h430 => ?_
            refine Q_pu (P_assign (.slice A415 n416 c417) rfl) ?_
            refine Q_pu (P_assign (.slice A421 n422 c423) rfl) ?_
            refine Q_pu (P_assign (.slice A427 n428 c429) rfl) ?_
            refine Q_nil fun w432 g433 => ?_
            have hc435 := hc121.k0 g433
            refine W_seq ?_
            refine W_block ?_
            refine W_seq ?_
            refine W_reg ?_
            refine L_pu (P_move (.slice A421 n422 c423) rfl) ?_
            refine L_pu (P_move (.slice A415 n416 c417) rfl) ?_
            refine L_call go54 [.slice A421 n422 c423, .slice A415 n416 c417] rfl ((slices_Equal_Pt.calls w432 hc435.ok ((a.drop j2.toNat).take ((a.length : Int).toNat - j2.toNat)) A421 n422 c423 (h424.st (.new _ g433)) ((base_.drop i2.toNat).take (at_2.toNat - i2.toNat)) A415 n416 c417 (h418.st (.new _ g433)) _ H).mono ?_)
            rintro _ w436 ⟨r8, rfl, H, g437⟩
            have hc441 := hc435.k0 g437
            refine L_pu (P_assign (vb r8) rfl) ?_
            refine L_nil ?_
            refine W_cond r8 rfl (fun hq442 => ?_) (fun hq442 => ?_)
            · have H := ite_t H hq442
              refine W_reg ?_
              refine L_pu (P_move (.slice A117 n118 c119) rfl) ?_
              refine L_pu (P_move (.slice A427 n428 c429) rfl) ?_
              have h443 := ((h430.st (.new _ g433)).st (.new _ g437))
              obtain ⟨hb444, H⟩ := H
              have h445 := ((h127.sn g433).sn g437)
              refine L_app ei33 hc441 (.slice A117 n118 c119) xs2 ((b.drop k2.toNat).take ((b.length : Int).toNat - k2.toNat)) rfl h445 (.slice A427 n428 c429) rfl h443.sx 0 rfl hb444 fun w446 A447 n448 c449 g450 s451 hc452 h453 => ?_
              refine L_pu (P_assign (.slice A447 n448 c449) rfl) ?_
              refine L_nil ?_
              refine W_seq ?_
              refine W_seq ?_
              refine W_reg ?_
              refine L_pu (P_move (vi at_2) rfl) ?_
              refine L_pu (P_move (.slice A1 n2 c3) rfl) ?_
              have h455 := (((h122.st (.new _ g433)).st (.new _ g437)).st s451)
              refine L_pu (P_len Try.underlying33 A1 n2 c3 h455.len rfl) ?_
              refine L_pu (P_cmp at_2 (base_.length : Int) (decide (at_2 < (base_.length : Int))) rfl rfl rfl) ?_
              refine L_nil ?_
              refine W_cf (b := decide (at_2 < (base_.length : Int))) rfl hq140 ?_
              refine W_skip ?_
              refine W_reg ?_
              refine L_pu (P_move (vi at_2) rfl) ?_
              obtain ⟨hb456, H⟩ := H
              have hi457 := hb456 (len_le hl136) (len_le hl138) (len_le hl139)
              refine L_pu (P_add at_2 1 rfl rfl hi457) ?_
              refine L_pu (P_move (vi (a.length : Int)) rfl) ?_
              obtain ⟨hb458, H⟩ := H
              have hi459 := hb458 (len_le hl136) (len_le hl138) (len_le hl139)
              refine L_pu (P_add (a.length : Int) 1 rfl rfl hi459) ?_
              refine L_pu (P_move (vi (b.length : Int)) rfl) ?_
              obtain ⟨hb460, H⟩ := H
              have hi461 := hb460 (len_le hl136) (len_le hl138) (len_le hl139)
              refine L_pu (P_add (b.length : Int) 1 rfl rfl hi461) ?_
              refine L_pu (P_assign (vi (at_2 + 1)) rfl) ?_
              refine L_pu (P_assign (vi ((a.length : Int) + 1)) rfl) ?_
              refine L_pu (P_assign (vi ((b.length : Int) + 1)) rfl) ?_
              refine L_nil ?_
              refine W_reg ?_
              refine L_pu (P_move (vi at_2) rfl) ?_
              obtain ⟨hb462, H⟩ := H
              have hi463 := hb462 (len_le hl136) (len_le hl138) (len_le hl139)
              refine L_pu (P_add at_2 1 rfl rfl hi463) ?_
              refine L_pu (P_assign (vi (at_2 + 1)) rfl) ?_
              refine L_nil ?_
              obtain ⟨hI464, hm465⟩ := H
              have h466 := (((h123.st (.new _ g433)).st (.new _ g437)).st s451)
              have h467 := (((h124.st (.new _ g433)).st (.new _ g437)).st s451)
              have h468 := (Ow.sm (L := [blk (.slice A117 n118 c119), blk (.slice A62 n63 c64), blk (.slice A51 n52 c53)]) (O := O) ((h125.sn g433).sn g437) hc441 (i := 2) rfl (j := 0) rfl (by decide) g450 s451)
              have h469 := (Ow.sm (L := [blk (.slice A117 n118 c119), blk (.slice A62 n63 c64), blk (.slice A51 n52 c53)]) (O := O) ((h126.sn g433).sn g437) hc441 (i := 1) rfl (j := 0) rfl (by decide) g450 s451)
              exact ⟨((xs2 ++ ((b.drop k2.toNat).take ((b.length : Int).toNat - k2.toNat))), A447, n448, c449, at_2 + 1, (a.length : Int) + 1, (b.length : Int) + 1, at_2 + 1), hm465, hI464, ⟨rfl, rfl, rfl, rfl, rfl, rfl, rfl, rfl, rfl, rfl, trivial⟩, hc452, h455, h466, h467, h468, h469, h453⟩
            · have H := ite_f H hq442
              refine W_seq ?_
              refine W_reg ?_
              refine L_pu (P_move (.slice A427 n428 c429) rfl) ?_
              refine L_pu (P_move (.slice A415 n416 c417) rfl) ?_
              have h470 := ((h430.st (.new _ g433)).st (.new _ g437))
              have h471 := ((h418.st (.new _ g433)).st (.new _ g437))
              refine L_call go54 [.slice A427 n428 c429, .slice A415 n416 c417] rfl ((slices_Equal_Pt.calls w436 hc441.ok ((b.drop k2.toNat).take ((b.length : Int).toNat - k2.toNat)) A427 n428 c429 h470 ((base_.drop i2.toNat).take (at_2.toNat - i2.toNat)) A415 n416 c417 h471 _ H).mono ?_)
              rintro _ w472 ⟨r9, rfl, H, g473⟩
              have hc477 := hc441.k0 g473
              refine L_pu (P_move (vb r9) rfl) ?_
              rcases bool_or r9 with hq478 | hq478
              · have H := ite_t H hq478
                refine L_pass (dj := 91) rfl rfl (.inl (by exact congrArg Value.bool hq478)) ?_
                refine L_pass (dj := 91) rfl rfl (.inl (by exact congrArg Value.bool hq478)) ?_
                refine L_pass (dj := 91) rfl rfl (.inl (by exact congrArg Value.bool hq478)) ?_
                refine L_pu (P_pick true (vb true) (by exact congrArg Value.bool hq478) rfl) ?_
                refine L_pu (P_assign (vb true) rfl) ?_
                refine L_nil ?_
                refine W_ct (b := true) rfl rfl ?_
                refine W_reg ?_
                refine L_pu (P_move (.slice A117 n118 c119) rfl) ?_
                refine L_pu (P_move (.slice A421 n422 c423) rfl) ?_
                have h479 := (((h424.st (.new _ g433)).st (.new _ g437)).st (.new _ g473))
                obtain ⟨hb480, H⟩ := H
                have h481 := (((h127.sn g433).sn g437).sn g473)
                refine L_app ei33 hc477 (.slice A117 n118 c119) xs2 ((a.drop j2.toNat).take ((a.length : Int).toNat - j2.toNat)) rfl h481 (.slice A421 n422 c423) rfl h479.sx 0 rfl hb480 fun w482 A483 n484 c485 g486 s487 hc488 h489 => ?_
                refine L_pu (P_assign (.slice A483 n484 c485) rfl) ?_
                refine L_nil ?_
                refine W_seq ?_
                refine W_seq ?_
                refine W_reg ?_
                refine L_pu (P_move (vi at_2) rfl) ?_
                refine L_pu (P_move (.slice A1 n2 c3) rfl) ?_
                have h491 := ((((h122.st (.new _ g433)).st (.new _ g437)).st (.new _ g473)).st s487)
                refine L_pu (P_len Try.underlying33 A1 n2 c3 h491.len rfl) ?_
                refine L_pu (P_cmp at_2 (base_.length : Int) (decide (at_2 < (base_.length : Int))) rfl rfl rfl) ?_
                refine L_nil ?_
                refine W_cf (b := decide (at_2 < (base_.length : Int))) rfl hq140 ?_
                refine W_skip ?_
                refine W_reg ?_
                refine L_pu (P_move (vi at_2) rfl) ?_
                obtain ⟨hb492, H⟩ := H
                have hi493 := hb492 (len_le hl136) (len_le hl138) (len_le hl139)
                refine L_pu (P_add at_2 1 rfl rfl hi493) ?_
                refine L_pu (P_move (vi (a.length : Int)) rfl) ?_
                obtain ⟨hb494, H⟩ := H
                have hi495 := hb494 (len_le hl136) (len_le hl138) (len_le hl139)
                refine L_pu (P_add (a.length : Int) 1 rfl rfl hi495) ?_
                refine L_pu (P_move (vi (b.length : Int)) rfl) ?_
                obtain ⟨hb496, H⟩ := H
                have hi497 := hb496 (len_le hl136) (len_le hl138) (len_le hl139)
                refine L_pu (P_add (b.length : Int) 1 rfl rfl hi497) ?_
                refine L_pu (P_assign (vi (at_2 + 1)) rfl) ?_
                refine L_pu (P_assign (vi ((a.length : Int) + 1)) rfl) ?_
                refine L_pu (P_assign (vi ((b.length : Int) + 1)) rfl) ?_
                refine L_nil ?_
                refine W_reg ?_
                refine L_pu (P_move (vi at_2) rfl) ?_
                obtain ⟨hb498, H⟩ := H
                have hi499 := hb498 (len_le hl136) (len_le hl138) (len_le hl139)
                refine L_pu (P_add at_2 1 rfl rfl hi499) ?_
                refine L_pu (P_assign (vi (at_2 + 1)) rfl) ?_
                refine L_nil ?_
                obtain ⟨hI500, hm501⟩ := H
                have h502 := ((((h123.st (.new _ g433)).st (.new _ g437)).st (.new _ g473)).st s487)
                have h503 := ((((h124.st (.new _ g433)).st (.new _ g437)).st (.new _ g473)).st s487)
                have h504 := (Ow.sm (L := [blk (.slice A117 n118 c119), blk (.slice A62 n63 c64), blk (.slice A51 n52 c53)]) (O := O) (((h125.sn g433).sn g437).sn g473) hc477 (i := 2) rfl (j := 0) rfl (by decide) g486 s487)
                have h505 := (Ow.sm (L := [blk (.slice A117 n118 c119), blk (.slice A62 n63 c64), blk (.slice A51 n52 c53)]) (O := O) (((h126.sn g433).sn g437).sn g473) hc477 (i := 1) rfl (j := 0) rfl (by decide) g486 s487)
                exact ⟨((xs2 ++ ((a.drop j2.toNat).take ((a.length : Int).toNat - j2.toNat))), A483, n484, c485, at_2 + 1, (a.length : Int) + 1, (b.length : Int) + 1, at_2 + 1), hm501, hI500, ⟨rfl, rfl, rfl, rfl, rfl, rfl, rfl, rfl, rfl, rfl, trivial⟩, hc488, h491, h502, h503, h504, h505, h489⟩
              · have H := ite_f H hq478
                refine L_run (dj := 91) rfl rfl (by exact congrArg Value.bool hq478) ?_
                refine L_pu (P_move (.slice A421 n422 c423) rfl) ?_
                refine L_run (dj := 91) rfl rfl (by exact congrArg Value.bool hq478) ?_
                refine L_pu (P_move (.slice A427 n428 c429) rfl) ?_
                refine L_run (dj := 91) rfl rfl (by exact congrArg Value.bool hq478) ?_
                have h506 := (((h424.st (.new _ g433)).st (.new _ g437)).st (.new _ g473))
                refine L_call go54 [.slice A421 n422 c423, .slice A427 n428 c429] rfl ((slices_Equal_Pt.calls w472 hc477.ok ((a.drop j2.toNat).take ((a.length : Int).toNat - j2.toNat)) A421 n422 c423 h506 ((b.drop k2.toNat).take ((b.length : Int).toNat - k2.toNat)) A427 n428 c429 (h470.st (.new _ g473)) _ H).mono ?_)
                rintro _ w507 ⟨r10, rfl, H, g508⟩
                have hc512 := hc477.k0 g508
                refine L_pu (P_pick false (vb r10) (by exact congrArg Value.bool hq478) rfl) ?_
                refine L_pu (P_assign (vb r10) rfl) ?_
                refine L_nil ?_
                refine W_cond r10 rfl (fun hq513 => ?_) (fun hq513 => ?_)
                · have H := ite_t H hq513
                  refine W_reg ?_
                  refine L_pu (P_move (.slice A117 n118 c119) rfl) ?_
                  refine L_pu (P_move (.slice A421 n422 c423) rfl) ?_
                  obtain ⟨hb514, H⟩ := H
                  have h515 := ((((h127.sn g433).sn g437).sn g473).sn g508)
                  refine L_app ei33 hc512 (.slice A117 n118 c119) xs2 ((a.drop j2.toNat).take ((a.length : Int).toNat - j2.toNat)) rfl h515 (.slice A421 n422 c423) rfl (h506.st (.new _ g508)).sx 0 rfl hb514 fun w516 A517 n518 c519 g520 s521 hc522 h523 => ?_
                  refine L_pu (P_assign (.slice A517 n518 c519) rfl) ?_
                  refine L_nil ?_
                  refine W_seq ?_
                  refine W_seq ?_
                  refine W_reg ?_
                  refine L_pu (P_move (vi at_2) rfl) ?_
                  refine L_pu (P_move (.slice A1 n2 c3) rfl) ?_
                  have h525 := (((((h122.st (.new _ g433)).st (.new _ g437)).st (.new _ g473)).st (.new _ g508)).st s521)
                  refine L_pu (P_len Try.underlying33 A1 n2 c3 h525.len rfl) ?_
                  refine L_pu (P_cmp at_2 (base_.length : Int) (decide (at_2 < (base_.length : Int))) rfl rfl rfl) ?_
                  refine L_nil ?_
                  refine W_cf (b := decide (at_2 < (base_.length : Int))) rfl hq140 ?_
                  refine W_skip ?_
                  refine W_reg ?_
                  refine L_pu (P_move (vi at_2) rfl) ?_
                  obtain ⟨hb526, H⟩ := H
                  have hi527 := hb526 (len_le hl136) (len_le hl138) (len_le hl139)
                  refine L_pu (P_add at_2 1 rfl rfl hi527) ?_
                  refine L_pu (P_move (vi (a.length : Int)) rfl) ?_
                  obtain ⟨hb528, H⟩ := H
                  have hi529 := hb528 (len_le hl136) (len_le hl138) (len_le hl139)
                  refine L_pu (P_add (a.length : Int) 1 rfl rfl hi529) ?_
                  refine L_pu (P_move (vi (b.length : Int)) rfl) ?_
                  obtain ⟨hb530, H⟩ := H
                  have hi531 := hb530 (len_le hl136) (len_le hl138) (len_le hl139)
                  refine L_pu (P_add (b.length : Int) 1 rfl rfl hi531) ?_
                  refine L_pu (P_assign (vi (at_2 + 1)) rfl) ?_
                  refine L_pu (P_assign (vi ((a.length : Int) + 1)) rfl) ?_
                  refine L_pu (P_assign (vi ((b.length : Int) + 1)) rfl) ?_
                  refine L_nil ?_
                  refine W_reg ?_
                  refine L_pu (P_move (vi at_2) rfl) ?_
                  obtain ⟨hb532, H⟩ := H
                  have hi533 := hb532 (len_le hl136) (len_le hl138) (len_le hl139)
                  refine L_pu (P_add at_2 1 rfl rfl hi533) ?_
                  refine L_pu (P_assign (vi (at_2 + 1)) rfl) ?_
                  refine L_nil ?_
                  obtain ⟨hI534, hm535⟩ := H
                  have h536 := (((((h123.st (.new _ g433)).st (.new _ g437)).st (.new _ g473)).st (.new _ g508)).st s521)
                  have h537 := (((((h124.st (.new _ g433)).st (.new _ g437)).st (.new _ g473)).st (.new _ g508)).st s521)
                  have h538 := (Ow.sm (L := [blk (.slice A117 n118 c119), blk (.slice A62 n63 c64), blk (.slice A51 n52 c53)]) (O := O) ((((h125.sn g433).sn g437).sn g473).sn g508) hc512 (i := 2) rfl (j := 0) rfl (by decide) g520 s521)
                  have h539 := (Ow.sm (L := [blk (.slice A117 n118 c119), blk (.slice A62 n63 c64), blk (.slice A51 n52 c53)]) (O := O) ((((h126.sn g433).sn g437).sn g473).sn g508) hc512 (i := 1) rfl (j := 0) rfl (by decide) g520 s521)
                  exact ⟨((xs2 ++ ((a.drop j2.toNat).take ((a.length : Int).toNat - j2.toNat))), A517, n518, c519, at_2 + 1, (a.length : Int) + 1, (b.length : Int) + 1, at_2 + 1), hm535, hI534, ⟨rfl, rfl, rfl, rfl, rfl, rfl, rfl, rfl, rfl, rfl, trivial⟩, hc522, h525, h536, h537, h538, h539, h523⟩
                · have H := ite_f H hq513
                  refine W_seq ?_
                  refine W_reg ?_
                  refine L_lit (kd := kPt) ei33 hc512 ([] : List Pt) (cells := []) rfl (fun _ => by kernel_rfl) fun w540 A541 n542 c543 g544 hr545 hc546 h547 => ?_
                  refine L_pu (P_assign (.slice A541 n542 c543) rfl) ?_
                  refine L_pu (P_assign (vb false) rfl) ?_
                  refine L_nil ?_
                  refine W_ret ?_
                  have hc549 := hc546.drop 1 rfl
                  have hc550 := hc549.drop 1 rfl
                  have hc551 := hc550.drop 1 rfl
                  have h552 := (Ow.sd (L := [blk (.slice A541 n542 c543), blk (.slice A51 n52 c53)]) (O := O) (Ow.sd (L := [blk (.slice A541 n542 c543), blk (.slice A62 n63 c64), blk (.slice A51 n52 c53)]) (O := O) (Ow.sd (L := [blk (.slice A541 n542 c543), blk (.slice A117 n118 c119), blk (.slice A62 n63 c64), blk (.slice A51 n52 c53)]) (O := O) h547 (i := 0) rfl (j := 1) rfl (by decide)) (i := 0) rfl (j := 1) rfl (by decide)) (i := 0) rfl (j := 1) rfl (by decide))
                  exact ⟨[.slice A541 n542 c543, vb false], ⟨_, rfl, ⟨_, rfl, rfl⟩⟩, ([] : List Pt), false, A541, n542, c543, rfl, H, hc551.gr, hc551.ok, hc551.ge, h552⟩
        · have H := ite_f H hq137
          refine W_exit (xin_hit ?_)
          refine W_seq ?_
          refine W_reg ?_
          refine L_pu (P_move (.slice A117 n118 c119) rfl) ?_
          refine L_pu (P_assign (.slice A117 n118 c119) rfl) ?_
          refine L_pu (P_assign (vb true) rfl) ?_
          refine L_nil ?_
          refine W_ret ?_
          have hc553 := hc121.drop 1 rfl
          have hc554 := hc553.drop 1 rfl
          have h555 := (Ow.sd (L := [blk (.slice A117 n118 c119), blk (.slice A51 n52 c53)]) (O := O) (Ow.sd (L := [blk (.slice A117 n118 c119), blk (.slice A62 n63 c64), blk (.slice A51 n52 c53)]) (O := O) h127 (i := 0) rfl (j := 1) rfl (by decide)) (i := 0) rfl (j := 1) rfl (by decide))
          exact ⟨[.slice A117 n118 c119, vb true], ⟨_, rfl, ⟨_, rfl, rfl⟩⟩, xs2, true, A117, n118, c119, rfl, H, hc554.gr, hc554.ok, hc554.ge, h555⟩
end Go.Proofs.Ytnliofcjplnboaa

namespace Go.Proofs.Ytnliofcjplnboaa
set_option linter.unusedVariables false
set_option linter.unusedSimpArgs false
theorem impl_SeqMerge.law (o a b : List Pt) (Q : List Pt → Bool → Prop) (hs : ∀ r, smerge o a b = some r → Q r true) (hn : smerge o a b = none → Q [] false) : impl_SeqMerge.E o a b Q := by
  unfold impl_SeqMerge.E
  by_cases c1 : (o.length : Int) > 12
  · rw [if_pos (by simpa using c1)]
    exact hn (smerge_not (.inl (few_not.2 (by omega))))
  rw [if_neg (by simpa using c1)]
  by_cases c2 : (a.length : Int) > 12
  · rw [if_pos (by simpa using c2)]
    exact hn (smerge_not (.inl (few_not.2 (by omega))))
  rw [if_neg (by simpa using c2)]
  by_cases c3 : (b.length : Int) > 12
  · rw [if_pos (by simpa using c3)]
    exact hn (smerge_not (.inr (few_not.2 (by omega))))
  rw [if_neg (by simpa using c3)]
  have h1 : few o a = true := few_iff.2 (by omega)
  have h2 : few o b = true := few_iff.2 (by omega)
  refine impl_SeqPairs.law _ _ _ (impl_SeqPairs.law _ _ _ ?_)
  have lo := spairs_len o a; have lo2 := spairs_len o b
  have so := slen_le o a; have so2 := slen_le o b
  refine ⟨fun xs i j k t => (∃ i' j' k' t' : Nat, i = i' ∧ j = j' ∧ k = k' ∧ t = t' ∧ MInv o a b xs i' j' k' t') ∨ (t = (o.length : Int) + 1 ∧ smerge o a b = some xs), fun _ _ _ _ t => (o.length + 1 - t).toNat, .inl ⟨0, 0, 0, 0, rfl, rfl, rfl, rfl, MInv.zero h1 h2⟩, ?_⟩
  rintro xs _ _ _ _ (⟨i, j, k, t, rfl, rfl, rfl, rfl, h⟩ | ⟨rfl, h⟩)
  · have ht := h.ht; have hi := h.hi; have hj := h.hj; have hk := h.hk; have hl := h.len
    rw [if_pos (by simp; omega)]
    simp only [Int.toNat_natCast]
    by_cases ht0 : (t : Int) < (o.length : Int)
    · rw [if_pos (by simpa using ht0)]
      refine impl_partner.law _ _ _ (by omega) (impl_partner.law _ _ _ (by omega) ?_)
      rw [mate_part h1, mate_part h2]
      cases hx : part o a t with
      | none =>
        rw [if_pos (by decide)]
        exact ⟨by omega, .inl ⟨i, j, k, t + 1, rfl, rfl, rfl, rfl, h.skip (by omega) (.inl hx)⟩, by omega⟩
      | some x =>
        rw [if_neg (by simp)]
        cases hy : part o b t with
        | none =>
          rw [if_pos (by decide)]
          exact ⟨by omega, .inl ⟨i, j, k, t + 1, rfl, rfl, rfl, rfl, h.skip (by omega) (.inr hy)⟩, by omega⟩
        | some y =>
          rw [if_neg (by simp)]
          dsimp only
          obtain ⟨g1, g2, g3, g4⟩ := h.from hx hy
          refine ⟨by omega, by omega, by omega, ?_⟩
          simp only [Int.toNat_natCast]
          have s1 := seg_len o i t (by omega); have s2 := seg_len a j x (by omega); have s3 := seg_len b k y (by omega)
          have hs1 : ∀ p, pickL (seg o i t) (seg a j x) (seg b k y) = some p → p.length ≤ (x - j) + (y - k) ∧ MInv o a b (xs ++ p ++ [nth o (t : Int)]) (t + 1) (x + 1) (y + 1) (t + 1) := fun p hp =>
            ⟨by have := (pickL_mem hp).2.2.2; omega, h.step (by omega) hx hy hp⟩
          have hn1 : pickL (seg o i t) (seg a j x) (seg b k y) = none → smerge o a b = none := h.stop (by omega) hx hy
          change slices_Equal_Pt.E (seg a j x) (seg o i t) _
          simp only [← seg.eq_1]
          generalize seg o i t = so at *
          generalize seg a j x = sa at *
          generalize seg b k y = sb at *
          refine slices_Equal_Pt.law _ _ _ (by omega) ?_
          by_cases q1 : sa = so
          · rw [if_pos (by simpa using q1)]
            obtain ⟨hm, hi⟩ := hs1 sb (by unfold pickL; rw [if_pos q1])
            exact ⟨by omega, by omega, by simp only [List.length_append, List.length_singleton]; omega, by omega, fun _ _ _ => by unfold I64; omega, fun _ _ _ => by unfold I64; omega, by omega, .inl ⟨t + 1, x + 1, y + 1, t + 1, rfl, rfl, rfl, rfl, hi⟩, by omega⟩
          rw [if_neg (by simpa using q1)]
          refine slices_Equal_Pt.law _ _ _ (by omega) ?_
          by_cases q2 : sb = so
          · rw [if_pos (by simpa using q2)]
            obtain ⟨hm, hi⟩ := hs1 sa (by unfold pickL; rw [if_neg q1, if_pos q2])
            exact ⟨by omega, by omega, by simp only [List.length_append, List.length_singleton]; omega, by omega, fun _ _ _ => by unfold I64; omega, fun _ _ _ => by unfold I64; omega, by omega, .inl ⟨t + 1, x + 1, y + 1, t + 1, rfl, rfl, rfl, rfl, hi⟩, by omega⟩
          rw [if_neg (by simpa using q2)]
          refine slices_Equal_Pt.law _ _ _ (by omega) ?_
          by_cases q3 : sa = sb
          · rw [if_pos (by simpa using q3)]
            obtain ⟨hm, hi⟩ := hs1 sa (by unfold pickL; rw [if_neg q1, if_neg q2, if_pos q3])
            exact ⟨by omega, by omega, by simp only [List.length_append, List.length_singleton]; omega, by omega, fun _ _ _ => by unfold I64; omega, fun _ _ _ => by unfold I64; omega, by omega, .inl ⟨t + 1, x + 1, y + 1, t + 1, rfl, rfl, rfl, rfl, hi⟩, by omega⟩
          rw [if_neg (by simpa using q3)]
          exact hn (hn1 (by unfold pickL; rw [if_neg q1, if_neg q2, if_neg q3]))
    · rw [if_neg (by simpa using ht0)]
      have : t = o.length := by omega
      subst this
      refine ⟨by omega, by omega, by omega, ?_⟩
      have hlast := h.last
      have e1 : (o.drop i).take (o.length - i) = o.drop i := seg_end o i
      have e2 : (a.drop j).take (a.length - j) = a.drop j := seg_end a j
      have e3 : (b.drop k).take (b.length - k) = b.drop k := seg_end b k
      rw [e1, e2, e3]
      have s2 : (a.drop j).length = a.length - j := List.length_drop; have s3 : (b.drop k).length = b.length - k := List.length_drop
      have hs1 : ∀ p, pickL (o.drop i) (a.drop j) (b.drop k) = some p → p.length ≤ (a.length - j) + (b.length - k) ∧ smerge o a b = some (xs ++ p) := fun p hp =>
        ⟨by have := (pickL_mem hp).2.2.2; omega, by rw [hp, Option.map_some] at hlast; exact hlast.symm⟩
      have hn1 : pickL (o.drop i) (a.drop j) (b.drop k) = none → smerge o a b = none := fun hp => by rw [hp] at hlast; exact hlast.symm
      generalize o.drop i = so at *
      generalize a.drop j = sa at *
      generalize b.drop k = sb at *
      refine slices_Equal_Pt.law _ _ _ (by omega) ?_
      by_cases q1 : sa = so
      · rw [if_pos (by simpa using q1)]
        obtain ⟨hm, hi⟩ := hs1 sb (by unfold pickL; rw [if_pos q1])
        exact ⟨by omega, fun _ _ _ => by unfold I64; omega, fun _ _ _ => by unfold I64; omega, fun _ _ _ => by unfold I64; omega, fun _ _ _ => by unfold I64; omega, .inr ⟨rfl, hi⟩, by omega⟩
      rw [if_neg (by simpa using q1)]
      refine slices_Equal_Pt.law _ _ _ (by omega) ?_
      by_cases q2 : sb = so
      · rw [if_pos (by simpa using q2)]
        obtain ⟨hm, hi⟩ := hs1 sa (by unfold pickL; rw [if_neg q1, if_pos q2])
        exact ⟨by omega, fun _ _ _ => by unfold I64; omega, fun _ _ _ => by unfold I64; omega, fun _ _ _ => by unfold I64; omega, fun _ _ _ => by unfold I64; omega, .inr ⟨rfl, hi⟩, by omega⟩
      rw [if_neg (by simpa using q2)]
      refine slices_Equal_Pt.law _ _ _ (by omega) ?_
      by_cases q3 : sa = sb
      · rw [if_pos (by simpa using q3)]
        obtain ⟨hm, hi⟩ := hs1 sa (by unfold pickL; rw [if_neg q1, if_neg q2, if_pos q3])
        exact ⟨by omega, fun _ _ _ => by unfold I64; omega, fun _ _ _ => by unfold I64; omega, fun _ _ _ => by unfold I64; omega, fun _ _ _ => by unfold I64; omega, .inr ⟨rfl, hi⟩, by omega⟩
      rw [if_neg (by simpa using q3)]
      exact hn (hn1 (by unfold pickL; rw [if_neg q1, if_neg q2, if_neg q3]))
  · rw [if_neg (by simp; omega)]
    exact hs _ h
end Go.Proofs.Ytnliofcjplnboaa

namespace Go.Proofs.Ytnliofcjplnboaa
open Go.RowKit
set_option linter.unusedVariables false
def laws_eqPt.E (a : Pt) (b : Pt) (Q : Bool → Prop) : Prop :=
  (if a.X != b.X then Q false else (if a.Y != b.Y then Q false else Q true))
set_option maxHeartbeats 8000000 in
set_option maxRecDepth 100000 in
theorem laws_eqPt.calls {O : Ob} (w0 : World) (hO : Ok w0 O) (a : Pt) (b : Pt) (Q : Bool → Prop) (h : laws_eqPt.E a b Q) :
    Ret Try.prog 49 [.agg #[vi a.X, vi a.Y], .agg #[vi b.X, vi b.Y]] w0 (fun v w' => ∃ (r0 : Bool), v = vb r0 ∧ Q r0 ∧ Gr w0 w' none) := by
  have H : (if a.X != b.X then Q false else (if a.Y != b.Y then Q false else Q true)) := h
  clear h
  have hc0 := Ct.init hO
  refine Ret_enter Try.func49 rfl 15 rfl [.tmp 4] rfl rfl ?_
  refine W_seq ?_
  refine W_reg ?_
  refine L_box [vi a.X, vi a.Y] rfl fun w1 b2 hl4 hu5 g3 hx6 => ?_
  have h8 := Fb.mk hc0.ok hl4 hx6
  have hc9 := hc0.k0 g3
  refine L_box [vi b.X, vi b.Y] rfl fun w10 b11 hl13 hu14 g12 hx15 => ?_
  have h17 := Fb.mk hc9.ok hl13 hx15
  have hc18 := hc9.k0 g12
  refine L_pu (P_assign (vb false) rfl) ?_
  refine L_nil ?_
  refine W_seq ?_
  refine W_seq ?_
  refine W_reg ?_
  refine L_pu (P_fa fa41_0 ⟨b2, 0, none⟩ ⟨b2, 0, none⟩ rfl rfl) ?_
  have h19 := (h8.st (.new _ g12))
  refine L_pu (P_ld ag3 cL ⟨b2, 0, none⟩ (vi a.X) rfl (h19.cell rfl)) ?_
  refine L_pu (P_fa fa41_0 ⟨b11, 0, none⟩ ⟨b11, 0, none⟩ rfl rfl) ?_
  refine L_pu (P_ld ag3 cL ⟨b11, 0, none⟩ (vi b.X) rfl (h17.cell rfl)) ?_
  refine L_pu (P_cmp a.X b.X (a.X != b.X) rfl rfl rfl) ?_
  refine L_nil ?_
  refine W_cond (a.X != b.X) rfl (fun hq20 => ?_) (fun hq20 => ?_)
  · have H := ite_t H hq20
    refine W_seq ?_
    refine W_reg ?_
    refine L_pu (P_assign (vb false) rfl) ?_
    refine L_nil ?_
    refine W_ret ?_
    exact ⟨[vb false], ⟨_, rfl, rfl⟩, false, rfl, H, hc18.gr⟩
  · have H := ite_f H hq20
    refine W_skip ?_
    refine W_seq ?_
    refine W_seq ?_
    refine W_reg ?_
    refine L_pu (P_fa fa41_1 ⟨b2, 0, none⟩ ⟨b2, 1, none⟩ rfl rfl) ?_
    refine L_pu (P_ld ag3 cL ⟨b2, 1, none⟩ (vi a.Y) rfl (h19.cell rfl)) ?_
    refine L_pu (P_fa fa41_1 ⟨b11, 0, none⟩ ⟨b11, 1, none⟩ rfl rfl) ?_
    refine L_pu (P_ld ag3 cL ⟨b11, 1, none⟩ (vi b.Y) rfl (h17.cell rfl)) ?_
    refine L_pu (P_cmp a.Y b.Y (a.Y != b.Y) rfl rfl rfl) ?_
    refine L_nil ?_
    refine W_cond (a.Y != b.Y) rfl (fun hq21 => ?_) (fun hq21 => ?_)
    · have H := ite_t H hq21
      refine W_seq ?_
      refine W_reg ?_
      refine L_pu (P_assign (vb false) rfl) ?_
      refine L_nil ?_
      refine W_ret ?_
      exact ⟨[vb false], ⟨_, rfl, rfl⟩, false, rfl, H, hc18.gr⟩
    · have H := ite_f H hq21
      refine W_skip ?_
      refine W_seq ?_
      refine W_reg ?_
      refine L_pu (P_assign (vb true) rfl) ?_
      refine L_nil ?_
      refine W_ret ?_
      exact ⟨[vb true], ⟨_, rfl, rfl⟩, true, rfl, H, hc18.gr⟩
def laws_eqPt.m (a : Pt) (b : Pt) : Bool := (if a.X != b.X then false else (if a.Y != b.Y then false else true))
theorem laws_eqPt.fn (a : Pt) (b : Pt) : laws_eqPt.E a b (fun r => r = laws_eqPt.m a b) := by
  unfold laws_eqPt.E laws_eqPt.m
  (repeat' split) <;> simp_all
end Go.Proofs.Ytnliofcjplnboaa

namespace Go.Proofs.Ytnliofcjplnboaa
set_option linter.unusedVariables false
set_option linter.unusedSimpArgs false
theorem laws_eqPt.law (a b : Pt) (Q : Bool → Prop) (hq : Q (decide (a = b))) : laws_eqPt.E a b Q := by
  obtain ⟨x0, x1⟩ := a; obtain ⟨y0, y1⟩ := b
  rw [show (decide ((⟨x0, x1⟩ : Pt) = ⟨y0, y1⟩)) = ((decide (x0 = y0)) && (decide (x1 = y1))) by simp only [Pt.mk.injEq, Bool.decide_and]] at hq
  unfold laws_eqPt.E
  by_cases h0 : x0 = y0
  case neg => simpa [h0] using hq
  simp only [h0, decide_true, Bool.true_and, bne_self_eq_false, Bool.not_true, Bool.false_eq_true, if_false] at hq ⊢
  by_cases h1 : x1 = y1
  case neg => simpa [h1] using hq
  simp only [h1, decide_true, Bool.true_and, bne_self_eq_false, Bool.not_true, Bool.false_eq_true, if_false] at hq ⊢
  all_goals (try exact hq)
theorem laws_eqPt.is (a b : Pt) : laws_eqPt.E a b (fun r => r = decide (a = b)) := laws_eqPt.law a b _ rfl
end Go.Proofs.Ytnliofcjplnboaa

namespace Go.Proofs.Ytnliofcjplnboaa
open Go.RowKit
set_option linter.unusedVariables false
def laws_eqPtS.E (a : List Pt) (b : List Pt) (Q : Bool → Prop) : Prop :=
  (if (a.length : Int) != (b.length : Int) then Q false else (∃ (I32 : Int → Prop) (mu33 : Int → Nat), I32 0 ∧ ∀ (i2 : Int), I32 i2 → (if decide (i2 < (a.length : Int)) then ((0 : Int) ≤ i2 ∧ i2 < (a.length : Int)) ∧ ((0 : Int) ≤ i2 ∧ i2 < (b.length : Int)) ∧ (if !(decide ((nth a i2) = (nth b i2))) then Q false else (-9223372036854775808 ≤ i2) ∧ I32 (i2 + 1) ∧ mu33 (i2 + 1) < mu33 i2) else Q true)))
set_option maxHeartbeats 8000000 in
set_option maxRecDepth 100000 in
theorem laws_eqPtS.calls {O : Ob} (w0 : World) (hO : Ok w0 O) (a : List Pt) (A1 : Option Addr) (n2 c3 : Nat) (hp4 : Sl kPt w0 (Fr O) (.slice A1 n2 c3) a) (b : List Pt) (A6 : Option Addr) (n7 c8 : Nat) (hp9 : Sl kPt w0 (Fr O) (.slice A6 n7 c8) b) (Q : Bool → Prop) (h : laws_eqPtS.E a b Q) :
    Ret Try.prog 26 [.slice A1 n2 c3, .slice A6 n7 c8] w0 (fun v w' => ∃ (r0 : Bool), v = vb r0 ∧ Q r0 ∧ Gr w0 w' none) := by
  have H : (if (a.length : Int) != (b.length : Int) then Q false else (∃ (I32 : Int → Prop) (mu33 : Int → Nat), I32 0 ∧ ∀ (i2 : Int), I32 i2 → (if decide (i2 < (a.length : Int)) then ((0 : Int) ≤ i2 ∧ i2 < (a.length : Int)) ∧ ((0 : Int) ≤ i2 ∧ i2 < (b.length : Int)) ∧ (if !(decide ((nth a i2) = (nth b i2))) then Q false else (-9223372036854775808 ≤ i2) ∧ I32 (i2 + 1) ∧ mu33 (i2 + 1) < mu33 i2) else Q true))) := h
  clear h
  have hc0 := Ct.init hO
  refine Ret_enter Try.func26 rfl 27 rfl [.tmp 4] rfl rfl ?_
  refine W_seq ?_
  refine W_reg ?_
  refine L_pu (P_assign (vb false) rfl) ?_
  refine L_nil ?_
  refine W_seq ?_
  refine W_seq ?_
  refine W_reg ?_
  refine L_pu (P_move (.slice A1 n2 c3) rfl) ?_
  have hl11 := hp4.le
  refine L_pu (P_len Try.underlying33 A1 n2 c3 hp4.len rfl) ?_
  refine L_pu (P_move (.slice A6 n7 c8) rfl) ?_
  have hl12 := hp9.le
  refine L_pu (P_len Try.underlying33 A6 n7 c8 hp9.len rfl) ?_
  refine L_pu (P_cmp (a.length : Int) (b.length : Int) ((a.length : Int) != (b.length : Int)) rfl rfl rfl) ?_
  refine L_nil ?_
  refine W_cond ((a.length : Int) != (b.length : Int)) rfl (fun hq13 => ?_) (fun hq13 => ?_)
  · have H := ite_t H hq13
    refine W_seq ?_
    refine W_reg ?_
    refine L_pu (P_assign (vb false) rfl) ?_
    refine L_nil ?_
    refine W_ret ?_
    exact ⟨[vb false], ⟨_, rfl, rfl⟩, false, rfl, H, hc0.gr⟩
  · have H := ite_f H hq13
    refine W_skip ?_
    refine W_seq ?_
    refine W_seq ?_
    refine W_reg ?_
    refine L_pu (P_assign (vi 0) rfl) ?_
    refine L_nil ?_
    refine W_block ?_
    obtain ⟨I32, mu33, hI34, H⟩ := H
    refine W_loop (α := Int) (fun (s : Int) t w26 => match s with | i2 => I32 i2 ∧ Has t [(0, .slice A1 n2 c3), (1, .slice A6 n7 c8), (5, vi i2)] ∧ Ct none w0 w26 [] O ∧ Sl kPt w26 (Fr ([] ++ O)) (.slice A1 n2 c3) a ∧ Sl kPt w26 (Fr ([] ++ O)) (.slice A6 n7 c8) b) (fun (s : Int) => match s with | i2 => mu33 i2) 0 ⟨hI34, ⟨rfl, rfl, rfl, trivial⟩, hc0, hp4, hp9⟩ ?_
    rintro i2 _ w26 ⟨hI34, hh36, hc29, h30, h31⟩
    obtain ⟨u37, rfl⟩ := Has.ins hh36
    have H := H i2 hI34
    refine W_seq ?_
    refine W_seq ?_
    refine W_reg ?_
    refine L_pu (P_move (vi i2) rfl) ?_
    refine L_pu (P_move (.slice A1 n2 c3) rfl) ?_
    have hl38 := h30.le
    refine L_pu (P_len Try.underlying33 A1 n2 c3 h30.len rfl) ?_
    refine L_pu (P_cmp i2 (a.length : Int) (decide (i2 < (a.length : Int))) rfl rfl rfl) ?_
    refine L_nil ?_
    refine W_cond (decide (i2 < (a.length : Int))) rfl (fun hq39 => ?_) (fun hq39 => ?_)
    · have H := ite_t H hq39
      refine W_skip ?_
      refine W_seq ?_
      refine W_block ?_
      refine W_seq ?_
      refine W_draw (fun x => Gr w26 x none) (by kernel_rfl) (by kernel_rfl) (Gr.drew _) ?_
      refine Q_pu (P_move (.slice A1 n2 c3) rfl) ?_
      refine Q_pu (P_move (vi i2) rfl) ?_
      obtain ⟨hb40, H⟩ := H
      obtain ⟨ad41, cs42, hA43, hS46, hR44, hcl45⟩ := h30.get default (by decide) i2 hb40
      obtain rfl := kPt.op hR44
      refine Q_pu (P_ia Try.underlying33 se33 A1 ad41 n2 c3 h30.len i2 rfl hA43 rfl hb40) ?_
      refine Q_pu (P_lda ag41 sz41 cQ (ad41.add (i2.toNat * 2)) [vi ((nth a i2).X), vi ((nth a i2).Y)] rfl rfl hcl45) ?_
      refine Q_pu (P_move (.slice A6 n7 c8) rfl) ?_
      refine Q_pu (P_move (vi i2) rfl) ?_
      obtain ⟨hb47, H⟩ := H
      obtain ⟨ad48, cs49, hA50, hS53, hR51, hcl52⟩ := h31.get default (by decide) i2 hb47
      obtain rfl := kPt.op hR51
      refine Q_pu (P_ia Try.underlying33 se33 A6 ad48 n7 c8 h31.len i2 rfl hA50 rfl hb47) ?_
      refine Q_pu (P_lda ag41 sz41 cQ (ad48.add (i2.toNat * 2)) [vi ((nth b i2).X), vi ((nth b i2).Y)] rfl rfl hcl52) ?_
      refine Q_call go49 [.agg #[vi ((nth a i2).X), vi ((nth a i2).Y)], .agg #[vi ((nth b i2).X), vi ((nth b i2).Y)]] rfl (vb (decide ((nth a i2) = (nth b i2)))) (fun w g => (laws_eqPt.calls w (hc29.k0 g).ok (nth a i2) (nth b i2) _ (laws_eqPt.is (nth a i2) (nth b i2))).mono ?_) ?_
      · rintro _ w ⟨r, rfl, rfl, g2⟩
        exact ⟨rfl, Gr.t0 g g2⟩
      refine Q_pu (P_not (decide ((nth a i2) = (nth b i2))) rfl) ?_
      refine Q_nil fun w59 g60 => ?_
      have hc62 := hc29.k0 g60
      refine W_cond (!(decide ((nth a i2) = (nth b i2)))) rfl (fun hq63 => ?_) (fun hq63 => ?_)
      · have H := ite_t H hq63
        refine W_seq ?_
        refine W_reg ?_
        refine L_pu (P_assign (vb false) rfl) ?_
        refine L_nil ?_
        refine W_ret ?_
        exact ⟨[vb false], ⟨_, rfl, rfl⟩, false, rfl, H, hc62.gr⟩
      · have H := ite_f H hq63
        refine W_skip ?_
        refine W_reg ?_
        refine L_pu (P_move (vi i2) rfl) ?_
        obtain ⟨hb65, H⟩ := H
        have hi64 : I64 (i2 + 1) := i64_succ (of_decide_eq_true hq39) hl38 hb65
        refine L_pu (P_add i2 1 rfl rfl hi64) ?_
        refine L_pu (P_assign (vi (i2 + 1)) rfl) ?_
        refine L_nil ?_
        obtain ⟨hI66, hm67⟩ := H
        exact ⟨i2 + 1, hm67, hI66, ⟨rfl, rfl, rfl, trivial⟩, hc62, (h30.st (.new _ g60)), (h31.st (.new _ g60))⟩
    · have H := ite_f H hq39
      refine W_exit (xin_hit ?_)
      refine W_seq ?_
      refine W_reg ?_
      refine L_pu (P_assign (vb true) rfl) ?_
      refine L_nil ?_
      refine W_ret ?_
      exact ⟨[vb true], ⟨_, rfl, rfl⟩, true, rfl, H, hc29.gr⟩
end Go.Proofs.Ytnliofcjplnboaa

namespace Go.Proofs.Ytnliofcjplnboaa
set_option linter.unusedVariables false
set_option linter.unusedSimpArgs false
theorem laws_eqPtS.law (a b : List Pt) (Q : Bool → Prop) (hq : Q (decide (a = b))) : laws_eqPtS.E a b Q := by
  unfold laws_eqPtS.E
  exact eqS_shape (fun x y => decide (x = y)) (fun _ _ => rfl) a b Q hq
theorem laws_eqPtS.is (a b : List Pt) : laws_eqPtS.E a b (fun r => r = decide (a = b)) := laws_eqPtS.law a b _ rfl
end Go.Proofs.Ytnliofcjplnboaa

namespace Go.Proofs.Ytnliofcjplnboaa
open Go.RowKit
set_option linter.unusedVariables false
def laws_markPtS.E (a : List Pt) (k : Int) (Q : Int → List Pt → Prop) : Prop :=
  (∃ (I23 : (List Pt) → Int → Int → Prop) (mu24 : (List Pt) → Int → Int → Nat), I23 a k 0 ∧ ∀ (xs2 : List Pt) (k3 : Int) (i2 : Int), I23 xs2 k3 i2 → (if decide (i2 < (xs2.length : Int)) then ((0 : Int) ≤ i2 ∧ i2 < (xs2.length : Int)) ∧ ((xs2.length : Int) ≤ 9223372036854775807 → I64 (k3 + 1)) ∧ ((0 : Int) ≤ i2 ∧ i2 < ((xs2.set i2.toNat (⟨k3, (nth xs2 i2).Y⟩ : Pt)).length : Int)) ∧ ((xs2.length : Int) ≤ 9223372036854775807 → I64 (k3 + 1 + 1)) ∧ (-9223372036854775808 ≤ i2) ∧ I23 ((xs2.set i2.toNat (⟨k3, (nth xs2 i2).Y⟩ : Pt)).set i2.toNat (⟨(nth (xs2.set i2.toNat (⟨k3, (nth xs2 i2).Y⟩ : Pt)) i2).X, k3 + 1⟩ : Pt)) (k3 + 1 + 1) (i2 + 1) ∧ mu24 ((xs2.set i2.toNat (⟨k3, (nth xs2 i2).Y⟩ : Pt)).set i2.toNat (⟨(nth (xs2.set i2.toNat (⟨k3, (nth xs2 i2).Y⟩ : Pt)) i2).X, k3 + 1⟩ : Pt)) (k3 + 1 + 1) (i2 + 1) < mu24 xs2 k3 i2 else Q k3 xs2))
set_option maxHeartbeats 8000000 in
set_option maxRecDepth 100000 in
theorem laws_markPtS.calls {O : Ob} (w0 : World) (hO : Ok w0 O) (A1 : Option Addr) (n2 c3 : Nat) (a : List Pt) (hp0 : Ow kPt 41 w0 O (.slice A1 n2 c3) a) (k : Int) (Q : Int → List Pt → Prop) (h : laws_markPtS.E a k Q) :
    Ret Try.prog 32 [.slice A1 n2 c3, vi k] w0 (fun v w' => ∃ (r0 : Int) (m0 : List Pt), v = vi r0 ∧ Q r0 m0 ∧ Gr w0 w' (blk (.slice A1 n2 c3)) ∧ Ow kPt 41 w' O (.slice A1 n2 c3) m0) := by
  have H : (∃ (I23 : (List Pt) → Int → Int → Prop) (mu24 : (List Pt) → Int → Int → Nat), I23 a k 0 ∧ ∀ (xs2 : List Pt) (k3 : Int) (i2 : Int), I23 xs2 k3 i2 → (if decide (i2 < (xs2.length : Int)) then ((0 : Int) ≤ i2 ∧ i2 < (xs2.length : Int)) ∧ ((xs2.length : Int) ≤ 9223372036854775807 → I64 (k3 + 1)) ∧ ((0 : Int) ≤ i2 ∧ i2 < ((xs2.set i2.toNat (⟨k3, (nth xs2 i2).Y⟩ : Pt)).length : Int)) ∧ ((xs2.length : Int) ≤ 9223372036854775807 → I64 (k3 + 1 + 1)) ∧ (-9223372036854775808 ≤ i2) ∧ I23 ((xs2.set i2.toNat (⟨k3, (nth xs2 i2).Y⟩ : Pt)).set i2.toNat (⟨(nth (xs2.set i2.toNat (⟨k3, (nth xs2 i2).Y⟩ : Pt)) i2).X, k3 + 1⟩ : Pt)) (k3 + 1 + 1) (i2 + 1) ∧ mu24 ((xs2.set i2.toNat (⟨k3, (nth xs2 i2).Y⟩ : Pt)).set i2.toNat (⟨(nth (xs2.set i2.toNat (⟨k3, (nth xs2 i2).Y⟩ : Pt)) i2).X, k3 + 1⟩ : Pt)) (k3 + 1 + 1) (i2 + 1) < mu24 xs2 k3 i2 else Q k3 xs2)) := h
  clear h
  have hc0 := Ct.initm (m := blk (.slice A1 n2 c3)) hO (by intro b e; exact hp0.mem b e)
  refine Ret_enter Try.func32 rfl 27 rfl [.tmp 4] rfl rfl ?_
  refine W_seq ?_
  refine W_reg ?_
  refine L_pu (P_assign (vi 0) rfl) ?_
  refine L_nil ?_
  refine W_seq ?_
  refine W_seq ?_
  refine W_reg ?_
  refine L_pu (P_assign (vi 0) rfl) ?_
  refine L_nil ?_
  refine W_block ?_
  obtain ⟨I23, mu24, hI25, H⟩ := H
  refine W_loop (α := (List Pt) × Int × Int) (fun (s : (List Pt) × Int × Int) t w16 => match s with | (xs2, k3, i2) => I23 xs2 k3 i2 ∧ Has t [(0, .slice A1 n2 c3), (1, vi k3), (5, vi i2)] ∧ Ct (blk (.slice A1 n2 c3)) w0 w16 [] O ∧ Ow kPt 41 w16 O (.slice A1 n2 c3) xs2) (fun (s : (List Pt) × Int × Int) => match s with | (xs2, k3, i2) => mu24 xs2 k3 i2) (a, k, 0) ⟨hI25, ⟨rfl, rfl, rfl, trivial⟩, hc0, hp0⟩ ?_
  rintro ⟨xs2, k3, i2⟩ _ w16 ⟨hI25, hh27, hc21, h22⟩
  obtain ⟨u28, rfl⟩ := Has.ins hh27
  have H := H xs2 k3 i2 hI25
  refine W_seq ?_
  refine W_seq ?_
  refine W_reg ?_
  refine L_pu (P_move (vi i2) rfl) ?_
  refine L_pu (P_move (.slice A1 n2 c3) rfl) ?_
  have hl29 := h22.le
  refine L_pu (P_len Try.underlying33 A1 n2 c3 h22.len rfl) ?_
  refine L_pu (P_cmp i2 (xs2.length : Int) (decide (i2 < (xs2.length : Int))) rfl rfl rfl) ?_
  refine L_nil ?_
  refine W_cond (decide (i2 < (xs2.length : Int))) rfl (fun hq30 => ?_) (fun hq30 => ?_)
  · have H := ite_t H hq30
    refine W_skip ?_
    refine W_seq ?_
    refine W_block ?_
    refine W_seq ?_
    refine W_reg ?_
    refine L_pu (P_move (.slice A1 n2 c3) rfl) ?_
    refine L_pu (P_move (vi i2) rfl) ?_
    refine L_pu (P_move (vi k3) rfl) ?_
    obtain ⟨hb31, H⟩ := H
    obtain ⟨ad32, cs33, hA34, hR35, hcl36⟩ := h22.get default (by decide) i2 hb31
    obtain rfl := kPt.op hR35
    refine L_pu (P_ia Try.underlying33 se33 A1 ad32 n2 c3 h22.len i2 rfl hA34 rfl hb31) ?_
    refine L_pu (P_fa fa41_0 (ad32.add (i2.toNat * 2)) ((ad32.add (i2.toNat * 2)).add 0) rfl rfl) ?_
    refine L_ste1 A1 n2 c3 xs2 h22 i2 hb31 ad32 hA34 0 rfl [vi k3] rfl sz3 rfl (⟨k3, (nth xs2 i2).Y⟩ : Pt) [vi ((nth xs2 i2).X), vi ((nth xs2 i2).Y)] [vi k3, vi ((nth xs2 i2).Y)] hcl36 rfl rfl (kPt.mk _ _ (⟨k3, (nth xs2 i2).Y⟩ : Pt)) fun w38 g39 h40 => ?_
    have hc41 := hc21.wm g39
    refine L_nil ?_
    refine W_seq ?_
    refine W_reg ?_
    refine L_pu (P_move (vi k3) rfl) ?_
    obtain ⟨hb42, H⟩ := H
    have hi43 := hb42 (len_le hl29)
    refine L_pu (P_add k3 1 rfl rfl hi43) ?_
    refine L_pu (P_assign (vi (k3 + 1)) rfl) ?_
    refine L_nil ?_
    refine W_seq ?_
    refine W_reg ?_
    refine L_pu (P_move (.slice A1 n2 c3) rfl) ?_
    refine L_pu (P_move (vi i2) rfl) ?_
    refine L_pu (P_move (vi (k3 + 1)) rfl) ?_
    obtain ⟨hb44, H⟩ := H
    obtain ⟨ad45, cs46, hA47, hR48, hcl49⟩ := h40.get default (by decide) i2 hb44
    obtain rfl := kPt.op hR48
    refine L_pu (P_ia Try.underlying33 se33 A1 ad45 n2 c3 h40.len i2 rfl hA47 rfl hb44) ?_
    refine L_pu (P_fa fa41_1 (ad45.add (i2.toNat * 2)) ((ad45.add (i2.toNat * 2)).add 1) rfl rfl) ?_
    refine L_ste1 A1 n2 c3 (xs2.set i2.toNat (⟨k3, (nth xs2 i2).Y⟩ : Pt)) h40 i2 hb44 ad45 hA47 1 rfl [vi (k3 + 1)] rfl sz3 rfl (⟨(nth (xs2.set i2.toNat (⟨k3, (nth xs2 i2).Y⟩ : Pt)) i2).X, k3 + 1⟩ : Pt) [vi ((nth (xs2.set i2.toNat (⟨k3, (nth xs2 i2).Y⟩ : Pt)) i2).X), vi ((nth (xs2.set i2.toNat (⟨k3, (nth xs2 i2).Y⟩ : Pt)) i2).Y)] [vi ((nth (xs2.set i2.toNat (⟨k3, (nth xs2 i2).Y⟩ : Pt)) i2).X), vi (k3 + 1)] hcl49 rfl rfl (kPt.mk _ _ (⟨(nth (xs2.set i2.toNat (⟨k3, (nth xs2 i2).Y⟩ : Pt)) i2).X, k3 + 1⟩ : Pt)) fun w51 g52 h53 => ?_
    have hc54 := hc41.wm g52
    refine L_nil ?_
    refine W_reg ?_
    refine L_pu (P_move (vi (k3 + 1)) rfl) ?_
    obtain ⟨hb55, H⟩ := H
    have hi56 := hb55 (len_le hl29)
    refine L_pu (P_add (k3 + 1) 1 rfl rfl hi56) ?_
    refine L_pu (P_assign (vi (k3 + 1 + 1)) rfl) ?_
    refine L_nil ?_
    refine W_reg ?_
    refine L_pu (P_move (vi i2) rfl) ?_
    obtain ⟨hb58, H⟩ := H
    have hi57 : I64 (i2 + 1) := i64_succ (of_decide_eq_true hq30) hl29 hb58
    refine L_pu (P_add i2 1 rfl rfl hi57) ?_
    refine L_pu (P_assign (vi (i2 + 1)) rfl) ?_
    refine L_nil ?_
    obtain ⟨hI59, hm60⟩ := H
    exact ⟨(((xs2.set i2.toNat (⟨k3, (nth xs2 i2).Y⟩ : Pt)).set i2.toNat (⟨(nth (xs2.set i2.toNat (⟨k3, (nth xs2 i2).Y⟩ : Pt)) i2).X, k3 + 1⟩ : Pt)), k3 + 1 + 1, i2 + 1), hm60, hI59, ⟨rfl, rfl, rfl, trivial⟩, hc54, h53⟩
  · have H := ite_f H hq30
    refine W_exit (xin_hit ?_)
    refine W_seq ?_
    refine W_reg ?_
    refine L_pu (P_move (vi k3) rfl) ?_
    refine L_pu (P_assign (vi k3) rfl) ?_
    refine L_nil ?_
    refine W_ret ?_
    exact ⟨[vi k3], ⟨_, rfl, rfl⟩, k3, xs2, rfl, H, hc21.gr, h22⟩
end Go.Proofs.Ytnliofcjplnboaa

namespace Go.Proofs.Ytnliofcjplnboaa
set_option linter.unusedVariables false
set_option linter.unusedSimpArgs false
def markedPt (n : Nat) (k : Int) : List Pt := (List.range n).map fun i : Nat => ⟨k + 2 * (i : Int), k + 2 * (i : Int) + 1⟩
theorem markedPt_len (n : Nat) (k : Int) : (markedPt n k).length = n := by simp [markedPt]
theorem markedPt_nth (n : Nat) (k : Int) {i : Nat} (h : i < n) : nth (markedPt n k) (i : Int) = ⟨k + 2 * i, k + 2 * i + 1⟩ := by
  rw [nth_nat _ (by rw [markedPt_len]; exact h)]; simp [markedPt]
theorem laws_markPtS.law (a : List Pt) (k : Int) (Q : Int → List Pt → Prop) (ha : a.length ≤ 1048576) (h0 : 0 ≤ k) (h1 : k ≤ 1000000000) (hq : Q (k + 2 * a.length) (markedPt a.length k)) : laws_markPtS.E a k Q := by
  unfold laws_markPtS.E
  refine ⟨fun xs k' i => ∃ u : Nat, i = u ∧ u ≤ a.length ∧ k' = k + 2 * u ∧ xs.length = a.length ∧ xs.take u = markedPt u k, fun _ _ i => (a.length - i).toNat, ⟨0, rfl, Nat.zero_le _, by omega, rfl, rfl⟩, ?_⟩
  rintro xs _ _ ⟨u, rfl, hu, rfl, hl, ht⟩
  rw [hl]
  by_cases h : (u : Int) < (a.length : Int)
  · rw [if_pos (by simpa using h)]
    have hu' : u < xs.length := by omega
    rw [Int.toNat_natCast, nth_set _ hu', if_pos rfl, List.set_set]
    refine ⟨by omega, fun _ => by unfold I64; omega, by simp only [List.length_set]; omega, fun _ => by unfold I64; omega, by omega, ⟨u + 1, by omega, by omega, by omega, by rw [List.length_set]; exact hl, ?_⟩, by dsimp only; omega⟩
    rw [List.take_succ_eq_append_getElem (by rw [List.length_set]; exact hu'), List.getElem_set_self, List.take_set_of_le (Nat.le_refl _), ht]
    unfold markedPt
    rw [List.range_succ, List.map_append]
    rfl
  · rw [if_neg (by simpa using h)]
    have : u = a.length := by omega
    subst this
    rw [List.take_of_length_le (by omega)] at ht
    rw [ht]; exact hq
end Go.Proofs.Ytnliofcjplnboaa

namespace Go.Proofs.Ytnliofcjplnboaa
open Go.RowKit
set_option linter.unusedVariables false
def laws_heldPtS.E (a : List Pt) (k : Int) (Q : Int → Prop) : Prop :=
  (∃ (I18 : Int → Int → Prop) (mu19 : Int → Int → Nat), I18 k 0 ∧ ∀ (k3 : Int) (i2 : Int), I18 k3 i2 → (if decide (i2 < (a.length : Int)) then ((0 : Int) ≤ i2 ∧ i2 < (a.length : Int)) ∧ (if ((nth a i2).X) != k3 then Q (-1) else ((a.length : Int) ≤ 9223372036854775807 → I64 (k3 + 1)) ∧ ((0 : Int) ≤ i2 ∧ i2 < (a.length : Int)) ∧ (if ((nth a i2).Y) != (k3 + 1) then Q (-1) else ((a.length : Int) ≤ 9223372036854775807 → I64 (k3 + 1 + 1)) ∧ (-9223372036854775808 ≤ i2) ∧ I18 (k3 + 1 + 1) (i2 + 1) ∧ mu19 (k3 + 1 + 1) (i2 + 1) < mu19 k3 i2)) else Q k3))
set_option maxHeartbeats 8000000 in
set_option maxRecDepth 100000 in
theorem laws_heldPtS.calls {O : Ob} (w0 : World) (hO : Ok w0 O) (a : List Pt) (A1 : Option Addr) (n2 c3 : Nat) (hp4 : Sl kPt w0 (Fr O) (.slice A1 n2 c3) a) (k : Int) (Q : Int → Prop) (h : laws_heldPtS.E a k Q) :
    Ret Try.prog 37 [.slice A1 n2 c3, vi k] w0 (fun v w' => ∃ (r0 : Int), v = vi r0 ∧ Q r0 ∧ Gr w0 w' none) := by
  have H : (∃ (I18 : Int → Int → Prop) (mu19 : Int → Int → Nat), I18 k 0 ∧ ∀ (k3 : Int) (i2 : Int), I18 k3 i2 → (if decide (i2 < (a.length : Int)) then ((0 : Int) ≤ i2 ∧ i2 < (a.length : Int)) ∧ (if ((nth a i2).X) != k3 then Q (-1) else ((a.length : Int) ≤ 9223372036854775807 → I64 (k3 + 1)) ∧ ((0 : Int) ≤ i2 ∧ i2 < (a.length : Int)) ∧ (if ((nth a i2).Y) != (k3 + 1) then Q (-1) else ((a.length : Int) ≤ 9223372036854775807 → I64 (k3 + 1 + 1)) ∧ (-9223372036854775808 ≤ i2) ∧ I18 (k3 + 1 + 1) (i2 + 1) ∧ mu19 (k3 + 1 + 1) (i2 + 1) < mu19 k3 i2)) else Q k3)) := h
  clear h
  have hc0 := Ct.init hO
  refine Ret_enter Try.func37 rfl 31 rfl [.tmp 4] rfl rfl ?_
  refine W_seq ?_
  refine W_reg ?_
  refine L_pu (P_assign (vi 0) rfl) ?_
  refine L_nil ?_
  refine W_seq ?_
  refine W_seq ?_
  refine W_reg ?_
  refine L_pu (P_assign (vi 0) rfl) ?_
  refine L_nil ?_
  refine W_block ?_
  obtain ⟨I18, mu19, hI20, H⟩ := H
  refine W_loop (α := Int × Int) (fun (s : Int × Int) t w14 => match s with | (k3, i2) => I18 k3 i2 ∧ Has t [(0, .slice A1 n2 c3), (1, vi k3), (5, vi i2)] ∧ Ct none w0 w14 [] O ∧ Sl kPt w14 (Fr ([] ++ O)) (.slice A1 n2 c3) a) (fun (s : Int × Int) => match s with | (k3, i2) => mu19 k3 i2) (k, 0) ⟨hI20, ⟨rfl, rfl, rfl, trivial⟩, hc0, hp4⟩ ?_
  rintro ⟨k3, i2⟩ _ w14 ⟨hI20, hh22, hc16, h17⟩
  obtain ⟨u23, rfl⟩ := Has.ins hh22
  have H := H k3 i2 hI20
  refine W_seq ?_
  refine W_seq ?_
  refine W_reg ?_
  refine L_pu (P_move (vi i2) rfl) ?_
  refine L_pu (P_move (.slice A1 n2 c3) rfl) ?_
  have hl24 := h17.le
  refine L_pu (P_len Try.underlying33 A1 n2 c3 h17.len rfl) ?_
  refine L_pu (P_cmp i2 (a.length : Int) (decide (i2 < (a.length : Int))) rfl rfl rfl) ?_
  refine L_nil ?_
  refine W_cond (decide (i2 < (a.length : Int))) rfl (fun hq25 => ?_) (fun hq25 => ?_)
  · have H := ite_t H hq25
    refine W_skip ?_
    refine W_seq ?_
    refine W_block ?_
    refine W_seq ?_
    refine W_seq ?_
    refine W_reg ?_
    refine L_pu (P_move (.slice A1 n2 c3) rfl) ?_
    refine L_pu (P_move (vi i2) rfl) ?_
    obtain ⟨hb26, H⟩ := H
    obtain ⟨ad27, cs28, hA29, hS32, hR30, hcl31⟩ := h17.get default (by decide) i2 hb26
    obtain rfl := kPt.op hR30
    refine L_pu (P_ia Try.underlying33 se33 A1 ad27 n2 c3 h17.len i2 rfl hA29 rfl hb26) ?_
    refine L_pu (P_fa fa41_0 (ad27.add (i2.toNat * 2)) ((ad27.add (i2.toNat * 2)).add 0) rfl rfl) ?_
    refine L_pu (P_ld ag3 cL ((ad27.add (i2.toNat * 2)).add 0) (vi ((nth a i2).X)) rfl (hcl31 0 _ rfl)) ?_
    refine L_pu (P_move (vi k3) rfl) ?_
    refine L_pu (P_cmp ((nth a i2).X) k3 (((nth a i2).X) != k3) rfl rfl rfl) ?_
    refine L_nil ?_
    refine W_cond (((nth a i2).X) != k3) rfl (fun hq33 => ?_) (fun hq33 => ?_)
    · have H := ite_t H hq33
      refine W_seq ?_
      refine W_reg ?_
      refine L_pu (P_assign (vi (-1)) rfl) ?_
      refine L_nil ?_
      refine W_ret ?_
      exact ⟨[vi (-1)], ⟨_, rfl, rfl⟩, (-1), rfl, H, hc16.gr⟩
    · have H := ite_f H hq33
      refine W_skip ?_
      refine W_seq ?_
      refine W_reg ?_
      refine L_pu (P_move (vi k3) rfl) ?_
      obtain ⟨hb34, H⟩ := H
      have hi35 := hb34 (len_le hl24)
      refine L_pu (P_add k3 1 rfl rfl hi35) ?_
      refine L_pu (P_assign (vi (k3 + 1)) rfl) ?_
      refine L_nil ?_
      refine W_seq ?_
      refine W_seq ?_
      refine W_reg ?_
      refine L_pu (P_move (.slice A1 n2 c3) rfl) ?_
      refine L_pu (P_move (vi i2) rfl) ?_
      obtain ⟨hb36, H⟩ := H
      obtain ⟨ad37, cs38, hA39, hS42, hR40, hcl41⟩ := h17.get default (by decide) i2 hb36
      obtain rfl := kPt.op hR40
      refine L_pu (P_ia Try.underlying33 se33 A1 ad37 n2 c3 h17.len i2 rfl hA39 rfl hb36) ?_
      refine L_pu (P_fa fa41_1 (ad37.add (i2.toNat * 2)) ((ad37.add (i2.toNat * 2)).add 1) rfl rfl) ?_
      refine L_pu (P_ld ag3 cL ((ad37.add (i2.toNat * 2)).add 1) (vi ((nth a i2).Y)) rfl (hcl41 1 _ rfl)) ?_
      refine L_pu (P_move (vi (k3 + 1)) rfl) ?_
      refine L_pu (P_cmp ((nth a i2).Y) (k3 + 1) (((nth a i2).Y) != (k3 + 1)) rfl rfl rfl) ?_
      refine L_nil ?_
      refine W_cond (((nth a i2).Y) != (k3 + 1)) rfl (fun hq43 => ?_) (fun hq43 => ?_)
      · have H := ite_t H hq43
        refine W_seq ?_
        refine W_reg ?_
        refine L_pu (P_assign (vi (-1)) rfl) ?_
        refine L_nil ?_
        refine W_ret ?_
        exact ⟨[vi (-1)], ⟨_, rfl, rfl⟩, (-1), rfl, H, hc16.gr⟩
      · have H := ite_f H hq43
        refine W_skip ?_
        refine W_reg ?_
        refine L_pu (P_move (vi (k3 + 1)) rfl) ?_
        obtain ⟨hb44, H⟩ := H
        have hi45 := hb44 (len_le hl24)
        refine L_pu (P_add (k3 + 1) 1 rfl rfl hi45) ?_
        refine L_pu (P_assign (vi (k3 + 1 + 1)) rfl) ?_
        refine L_nil ?_
        refine W_reg ?_
        refine L_pu (P_move (vi i2) rfl) ?_
        obtain ⟨hb47, H⟩ := H
        have hi46 : I64 (i2 + 1) := i64_succ (of_decide_eq_true hq25) hl24 hb47
        refine L_pu (P_add i2 1 rfl rfl hi46) ?_
        refine L_pu (P_assign (vi (i2 + 1)) rfl) ?_
        refine L_nil ?_
        obtain ⟨hI48, hm49⟩ := H
        exact ⟨(k3 + 1 + 1, i2 + 1), hm49, hI48, ⟨rfl, rfl, rfl, trivial⟩, hc16, h17⟩
  · have H := ite_f H hq25
    refine W_exit (xin_hit ?_)
    refine W_seq ?_
    refine W_reg ?_
    refine L_pu (P_move (vi k3) rfl) ?_
    refine L_pu (P_assign (vi k3) rfl) ?_
    refine L_nil ?_
    refine W_ret ?_
    exact ⟨[vi k3], ⟨_, rfl, rfl⟩, k3, rfl, H, hc16.gr⟩
end Go.Proofs.Ytnliofcjplnboaa

namespace Go.Proofs.Ytnliofcjplnboaa
set_option linter.unusedVariables false
set_option linter.unusedSimpArgs false
theorem laws_heldPtS.law (n : Nat) (k : Int) (Q : Int → Prop) (ha : n ≤ 1048576) (h0 : 0 ≤ k) (h1 : k ≤ 1000000000) (hq : Q (k + 2 * n)) : laws_heldPtS.E (markedPt n k) k Q := by
  unfold laws_heldPtS.E
  rw [markedPt_len]
  refine ⟨fun k' i => ∃ u : Nat, i = u ∧ u ≤ n ∧ k' = k + 2 * u, fun _ i => (n - i).toNat, ⟨0, rfl, Nat.zero_le _, by omega⟩, ?_⟩
  rintro _ _ ⟨u, rfl, hu, rfl⟩
  by_cases h : (u : Int) < (n : Int)
  · rw [if_pos (by simpa using h), markedPt_nth n k (by omega)]
    refine ⟨by omega, ?_⟩
    rw [if_neg (by simp)]
    refine ⟨fun _ => by unfold I64; omega, by omega, ?_⟩
    rw [if_neg (by simp)]
    exact ⟨fun _ => by unfold I64; omega, by omega, ⟨u + 1, by omega, by omega, by omega⟩, by dsimp only; omega⟩
  · rw [if_neg (by simpa using h)]
    have : u = n := by omega
    subst this
    exact hq
end Go.Proofs.Ytnliofcjplnboaa

namespace Go.Proofs.Ytnliofcjplnboaa
open Go.RowKit
set_option linter.unusedVariables false
def laws_FnExactSeqMerge.E (aBase : List Pt) (aA : List Pt) (aB : List Pt) (Q : Bool → Prop) : Prop :=
  laws_szPtS.E aBase 1048576 (fun r => (if decide (r < 0) then Q true else laws_szPtS.E aA r (fun r2 => (if decide (r2 < 0) then Q true else laws_szPtS.E aB r2 (fun r3 => (if decide (r3 < 0) then Q true else laws_toPtS.E aBase (fun r4 => laws_toPtS.E aA (fun r5 => laws_toPtS.E aB (fun r6 => spec_SeqMerge.E r4 r5 r6 (fun r7 r8 => laws_toPtS.E aBase (fun r9 => laws_toPtS.E aA (fun r10 => laws_toPtS.E aB (fun r11 => impl_SeqMerge.E r9 r10 r11 (fun r12 r13 => laws_eqPtS.E r12 r7 (fun r14 => (if !r14 then Q false else (if r13 != r8 then Q false else laws_toPtS.E aBase (fun r15 => laws_eqPtS.E r9 r15 (fun r16 => (if !r16 then Q false else laws_toPtS.E aA (fun r17 => laws_eqPtS.E r10 r17 (fun r18 => (if !r18 then Q false else laws_toPtS.E aB (fun r19 => laws_eqPtS.E r11 r19 (fun r20 => (if !r20 then Q false else laws_markPtS.E r9 1 (fun r21 m => laws_markPtS.E r10 r21 (fun r22 m2 => laws_markPtS.E r11 r22 (fun r23 m3 => (if decide (r23 < 0) then Q false else laws_eqPtS.E r12 r7 (fun r24 => (if !r24 then Q false else laws_markPtS.E r12 1 (fun r25 m4 => laws_heldPtS.E m4 1 (fun r26 => (if decide (r26 < 0) then Q false else (if r26 != r25 then Q false else laws_toPtS.E aBase (fun r27 => laws_toPtS.E aA (fun r28 => laws_toPtS.E aB (fun r29 => impl_SeqMerge.E r27 r28 r29 (fun r30 r31 => laws_eqPtS.E r30 r7 (fun r32 => (if !r32 then Q false else (if r31 != r8 then Q false else laws_heldPtS.E m4 1 (fun r33 => (if decide (r33 < 0) then Q false else (if r33 != r25 then Q false else Q true))))))))))))))))))))))))))))))))))))))))))))))
set_option maxHeartbeats 8000000 in
set_option maxRecDepth 100000 in
theorem laws_FnExactSeqMerge.calls {O : Ob} (w0 : World) (hO : Ok w0 O) (aBase : List Pt) (A1 : Option Addr) (n2 c3 : Nat) (hp4 : Sl kPt w0 (Fr O) (.slice A1 n2 c3) aBase) (aA : List Pt) (A6 : Option Addr) (n7 c8 : Nat) (hp9 : Sl kPt w0 (Fr O) (.slice A6 n7 c8) aA) (aB : List Pt) (A11 : Option Addr) (n12 c13 : Nat) (hp14 : Sl kPt w0 (Fr O) (.slice A11 n12 c13) aB) (Q : Bool → Prop) (h : laws_FnExactSeqMerge.E aBase aA aB Q) :
    Ret Try.prog 10 [.slice A1 n2 c3, .slice A6 n7 c8, .slice A11 n12 c13] w0 (fun v w' => ∃ (r0 : Bool), v = vb r0 ∧ Q r0 ∧ Gr w0 w' none) := by
  have H : laws_szPtS.E aBase 1048576 (fun r => (if decide (r < 0) then Q true else laws_szPtS.E aA r (fun r2 => (if decide (r2 < 0) then Q true else laws_szPtS.E aB r2 (fun r3 => (if decide (r3 < 0) then Q true else laws_toPtS.E aBase (fun r4 => laws_toPtS.E aA (fun r5 => laws_toPtS.E aB (fun r6 => spec_SeqMerge.E r4 r5 r6 (fun r7 r8 => laws_toPtS.E aBase (fun r9 => laws_toPtS.E aA (fun r10 => laws_toPtS.E aB (fun r11 => impl_SeqMerge.E r9 r10 r11 (fun r12 r13 => laws_eqPtS.E r12 r7 (fun r14 => (if !r14 then Q false else (if r13 != r8 then Q false else laws_toPtS.E aBase (fun r15 => laws_eqPtS.E r9 r15 (fun r16 => (if !r16 then Q false else laws_toPtS.E aA (fun r17 => laws_eqPtS.E r10 r17 (fun r18 => (if !r18 then Q false else laws_toPtS.E aB (fun r19 => laws_eqPtS.E r11 r19 (fun r20 => (if !r20 then Q false else laws_markPtS.E r9 1 (fun r21 m => laws_markPtS.E r10 r21 (fun r22 m2 => laws_markPtS.E r11 r22 (fun r23 m3 => (if decide (r23 < 0) then Q false else laws_eqPtS.E r12 r7 (fun r24 => (if !r24 then Q false else laws_markPtS.E r12 1 (fun r25 m4 => laws_heldPtS.E m4 1 (fun r26 => (if decide (r26 < 0) then Q false else (if r26 != r25 then Q false else laws_toPtS.E aBase (fun r27 => laws_toPtS.E aA (fun r28 => laws_toPtS.E aB (fun r29 => impl_SeqMerge.E r27 r28 r29 (fun r30 r31 => laws_eqPtS.E r30 r7 (fun r32 => (if !r32 then Q false else (if r31 != r8 then Q false else laws_heldPtS.E m4 1 (fun r33 => (if decide (r33 < 0) then Q false else (if r33 != r25 then Q false else Q true)))))))))))))))))))))))))))))))))))))))))))))) := h
  clear h
  have hc0 := Ct.init hO
  refine Ret_enter Try.func10 rfl 142 rfl [.tmp 6] rfl rfl ?_
  refine W_seq ?_
  refine W_reg ?_
  refine L_pu (P_assign (vb false) rfl) ?_
  refine L_nil ?_
  refine W_seq ?_
  refine W_reg ?_
  refine L_pu (P_assign (vi 1048576) rfl) ?_
  refine L_nil ?_
  refine W_seq ?_
  refine W_reg ?_
  refine L_pu (P_move (.slice A1 n2 c3) rfl) ?_
  refine L_pu (P_move (vi 1048576) rfl) ?_
  refine L_call go22 [.slice A1 n2 c3, vi 1048576] rfl ((laws_szPtS.calls w0 hc0.ok aBase A1 n2 c3 hp4 1048576 _ H).mono ?_)
  rintro _ w16 ⟨r, rfl, H, g17, _⟩
  have hc21 := hc0.k0 g17
  refine L_pu (P_assign (vi r) rfl) ?_
  refine L_nil ?_
  refine W_seq ?_
  refine W_seq ?_
  refine W_reg ?_
  refine L_pu (P_move (vi r) rfl) ?_
  refine L_pu (P_cmp r 0 (decide (r < 0)) rfl rfl rfl) ?_
  refine L_nil ?_
  refine W_cond (decide (r < 0)) rfl (fun hq22 => ?_) (fun hq22 => ?_)
  · have H := ite_t H hq22
    refine W_seq ?_
    refine W_reg ?_
    refine L_pu (P_assign (vb true) rfl) ?_
    refine L_nil ?_
    refine W_ret ?_
    exact ⟨[vb true], ⟨_, rfl, rfl⟩, true, rfl, H, hc21.gr⟩
  · have H := ite_f H hq22
    refine W_skip ?_
    refine W_seq ?_
    refine W_reg ?_
    refine L_pu (P_move (.slice A6 n7 c8) rfl) ?_
    refine L_pu (P_move (vi r) rfl) ?_
    refine L_call go22 [.slice A6 n7 c8, vi r] rfl ((laws_szPtS.calls w16 hc21.ok aA A6 n7 c8 (hp9.st hc21.st) r _ H).mono ?_)
    rintro _ w23 ⟨r2, rfl, H, g24, _⟩
    have hc28 := hc21.k0 g24
    refine L_pu (P_assign (vi r2) rfl) ?_
    refine L_nil ?_
    refine W_seq ?_
    refine W_seq ?_
    refine W_reg ?_
    refine L_pu (P_move (vi r2) rfl) ?_
    refine L_pu (P_cmp r2 0 (decide (r2 < 0)) rfl rfl rfl) ?_
    refine L_nil ?_
    refine W_cond (decide (r2 < 0)) rfl (fun hq29 => ?_) (fun hq29 => ?_)
    · have H := ite_t H hq29
      refine W_seq ?_
      refine W_reg ?_
      refine L_pu (P_assign (vb true) rfl) ?_
      refine L_nil ?_
      refine W_ret ?_
      exact ⟨[vb true], ⟨_, rfl, rfl⟩, true, rfl, H, hc28.gr⟩
    · have H := ite_f H hq29
      refine W_skip ?_
      refine W_seq ?_
      refine W_reg ?_
      refine L_pu (P_move (.slice A11 n12 c13) rfl) ?_
      refine L_pu (P_move (vi r2) rfl) ?_
      refine L_call go22 [.slice A11 n12 c13, vi r2] rfl ((laws_szPtS.calls w23 hc28.ok aB A11 n12 c13 (hp14.st hc28.st) r2 _ H).mono ?_)
      rintro _ w30 ⟨r3, rfl, H, g31, _⟩
      have hc35 := hc28.k0 g31
      refine L_pu (P_assign (vi r3) rfl) ?_
      refine L_nil ?_
      refine W_seq ?_
      refine W_seq ?_
      refine W_reg ?_
      refine L_pu (P_move (vi r3) rfl) ?_
      refine L_pu (P_cmp r3 0 (decide (r3 < 0)) rfl rfl rfl) ?_
      refine L_nil ?_
      refine W_cond (decide (r3 < 0)) rfl (fun hq36 => ?_) (fun hq36 => ?_)
      · have H := ite_t H hq36
        refine W_seq ?_
        refine W_reg ?_
        refine L_pu (P_assign (vb true) rfl) ?_
        refine L_nil ?_
        refine W_ret ?_
        exact ⟨[vb true], ⟨_, rfl, rfl⟩, true, rfl, H, hc35.gr⟩
      · have H := ite_f H hq36
        refine W_skip ?_
        refine W_seq ?_
        refine W_reg ?_
        refine L_pu (P_move (.slice A1 n2 c3) rfl) ?_
        refine L_call go24 [.slice A1 n2 c3] rfl ((laws_toPtS.calls w30 hc35.ok aBase A1 n2 c3 (hp4.st hc35.st) _ H).mono ?_)
        rintro _ w37 ⟨r4, A39, n40, c41, rfl, H, g38, hk45, hk46, h42⟩
        have hc47 := hc35.owns g38 hk45 hk46
        refine L_pu (P_move (.slice A6 n7 c8) rfl) ?_
        refine L_call go24 [.slice A6 n7 c8] rfl ((laws_toPtS.calls w37 hc47.ok aA A6 n7 c8 (hp9.st hc47.st) _ H).mono ?_)
        rintro _ w48 ⟨r5, A50, n51, c52, rfl, H, g49, hk56, hk57, h53⟩
        have hc58 := hc47.owns g49 hk56 hk57
        refine L_pu (P_move (.slice A11 n12 c13) rfl) ?_
        refine L_call go24 [.slice A11 n12 c13] rfl ((laws_toPtS.calls w48 hc58.ok aB A11 n12 c13 (hp14.st hc58.st) _ H).mono ?_)
        rintro _ w59 ⟨r6, A61, n62, c63, rfl, H, g60, hk67, hk68, h64⟩
        have hc69 := hc58.owns g60 hk67 hk68
        have h70 := ((h42.sos g49 hk57).sos g60 hk68)
        have h71 := Ow.gv (L := [blk (.slice A61 n62 c63), blk (.slice A50 n51 c52), blk (.slice A39 n40 c41)]) (O := O) h70 hc69 (i := 2) rfl
        have hc72 := hc69.drop 2 rfl
        have h74 := (Ow.sd (L := [blk (.slice A61 n62 c63), blk (.slice A50 n51 c52), blk (.slice A39 n40 c41)]) (O := O) (h53.sos g60 hk68) (i := 1) rfl (j := 2) rfl (by decide))
        have h75 := Ow.gv (L := [blk (.slice A61 n62 c63), blk (.slice A50 n51 c52)]) (O := O) h74 hc72 (i := 1) rfl
        have hc76 := hc72.drop 1 rfl
        have h78 := (Ow.sd (L := [blk (.slice A61 n62 c63), blk (.slice A50 n51 c52)]) (O := O) (Ow.sd (L := [blk (.slice A61 n62 c63), blk (.slice A50 n51 c52), blk (.slice A39 n40 c41)]) (O := O) h64 (i := 0) rfl (j := 2) rfl (by decide)) (i := 0) rfl (j := 1) rfl (by decide))
        have h79 := Ow.gv (L := [blk (.slice A61 n62 c63)]) (O := O) h78 hc76 (i := 0) rfl
        have hc80 := hc76.drop 0 rfl
        have h82 := ((h71.st (.dr _ (L := [blk (.slice A61 n62 c63), blk (.slice A50 n51 c52)]) (O := O) (j := 1) rfl)).st (.dr _ (L := [blk (.slice A61 n62 c63)]) (O := O) (j := 0) rfl))
        have h83 := (h75.st (.dr _ (L := [blk (.slice A61 n62 c63)]) (O := O) (j := 0) rfl))
        refine L_call go35 [.slice A39 n40 c41, .slice A50 n51 c52, .slice A61 n62 c63] rfl ((spec_SeqMerge.calls w59 hc80.ok r4 A39 n40 c41 h82 r5 A50 n51 c52 h83 r6 A61 n62 c63 h79 _ H).mono ?_)
        rintro _ w84 ⟨r7, r8, A86, n87, c88, rfl, H, g85, hk92, hk93, h89⟩
        have hk95 := Ok.unl (L := [blk (.slice A61 n62 c63), blk (.slice A50 n51 c52), blk (.slice A39 n40 c41)]) (L' := []) (O := O) hc69 g85 hk92 hk93
        have h96 := Ow.unl (L := [blk (.slice A61 n62 c63), blk (.slice A50 n51 c52), blk (.slice A39 n40 c41)]) (L' := []) (O := O) (fun _ _ _ _ _ _ h => h) (.cons _ (.cons _ (.cons _ (.slnil)))) h89
        have hc94 := hc69.owns g85 hk95 hk93
        refine L_pu (P_move (.tuple #[.slice A86 n87 c88, vb r8]) rfl) ?_
        refine L_pu (P_ext [.slice A86 n87 c88, vb r8] 0 (.slice A86 n87 c88) rfl rfl) ?_
        refine L_pu (P_ext [.slice A86 n87 c88, vb r8] 1 (vb r8) rfl rfl) ?_
        refine L_pu (P_assign (.slice A86 n87 c88) rfl) ?_
        refine L_pu (P_assign (vb r8) rfl) ?_
        refine L_nil ?_
        refine W_seq ?_
        refine W_reg ?_
        refine L_pu (P_move (.slice A1 n2 c3) rfl) ?_
        refine L_call go24 [.slice A1 n2 c3] rfl ((laws_toPtS.calls w84 hc94.ok aBase A1 n2 c3 (hp4.st hc94.st) _ H).mono ?_)
        rintro _ w97 ⟨r9, A99, n100, c101, rfl, H, g98, hk105, hk106, h102⟩
        have hc107 := hc94.owns g98 hk105 hk106
        refine L_pu (P_assign (.slice A99 n100 c101) rfl) ?_
        refine L_nil ?_
        refine W_seq ?_
        refine W_reg ?_
        refine L_pu (P_move (.slice A6 n7 c8) rfl) ?_
        refine L_call go24 [.slice A6 n7 c8] rfl ((laws_toPtS.calls w97 hc107.ok aA A6 n7 c8 (hp9.st hc107.st) _ H).mono ?_)
        rintro _ w108 ⟨r10, A110, n111, c112, rfl, H, g109, hk116, hk117, h113⟩
        have hc118 := hc107.owns g109 hk116 hk117
        refine L_pu (P_assign (.slice A110 n111 c112) rfl) ?_
        refine L_nil ?_
        refine W_seq ?_
        refine W_reg ?_
        refine L_pu (P_move (.slice A11 n12 c13) rfl) ?_
        refine L_call go24 [.slice A11 n12 c13] rfl ((laws_toPtS.calls w108 hc118.ok aB A11 n12 c13 (hp14.st hc118.st) _ H).mono ?_)
        rintro _ w119 ⟨r11, A121, n122, c123, rfl, H, g120, hk127, hk128, h124⟩
        have hc129 := hc118.owns g120 hk127 hk128
        refine L_pu (P_assign (.slice A121 n122 c123) rfl) ?_
        refine L_nil ?_
        refine W_seq ?_
        refine W_reg ?_
        refine L_pu (P_move (.slice A99 n100 c101) rfl) ?_
        refine L_pu (P_move (.slice A110 n111 c112) rfl) ?_
        refine L_pu (P_move (.slice A121 n122 c123) rfl) ?_
        have h130 := ((h102.sos g109 hk117).sos g120 hk128)
        have h131 := Ow.gv (L := [blk (.slice A121 n122 c123), blk (.slice A110 n111 c112), blk (.slice A99 n100 c101), blk (.slice A86 n87 c88), blk (.slice A61 n62 c63), blk (.slice A50 n51 c52), blk (.slice A39 n40 c41)]) (O := O) h130 hc129 (i := 2) rfl
        have hc132 := hc129.drop 2 rfl
        have h134 := (Ow.sd (L := [blk (.slice A121 n122 c123), blk (.slice A110 n111 c112), blk (.slice A99 n100 c101), blk (.slice A86 n87 c88), blk (.slice A61 n62 c63), blk (.slice A50 n51 c52), blk (.slice A39 n40 c41)]) (O := O) (h113.sos g120 hk128) (i := 1) rfl (j := 2) rfl (by decide))
        have h135 := Ow.gv (L := [blk (.slice A121 n122 c123), blk (.slice A110 n111 c112), blk (.slice A86 n87 c88), blk (.slice A61 n62 c63), blk (.slice A50 n51 c52), blk (.slice A39 n40 c41)]) (O := O) h134 hc132 (i := 1) rfl
        have hc136 := hc132.drop 1 rfl
        have h138 := (Ow.sd (L := [blk (.slice A121 n122 c123), blk (.slice A110 n111 c112), blk (.slice A86 n87 c88), blk (.slice A61 n62 c63), blk (.slice A50 n51 c52), blk (.slice A39 n40 c41)]) (O := O) (Ow.sd (L := [blk (.slice A121 n122 c123), blk (.slice A110 n111 c112), blk (.slice A99 n100 c101), blk (.slice A86 n87 c88), blk (.slice A61 n62 c63), blk (.slice A50 n51 c52), blk (.slice A39 n40 c41)]) (O := O) h124 (i := 0) rfl (j := 2) rfl (by decide)) (i := 0) rfl (j := 1) rfl (by decide))
        have h139 := Ow.gv (L := [blk (.slice A121 n122 c123), blk (.slice A86 n87 c88), blk (.slice A61 n62 c63), blk (.slice A50 n51 c52), blk (.slice A39 n40 c41)]) (O := O) h138 hc136 (i := 0) rfl
        have hc140 := hc136.drop 0 rfl
        have h142 := ((h131.st (.dr _ (L := [blk (.slice A121 n122 c123), blk (.slice A110 n111 c112), blk (.slice A86 n87 c88), blk (.slice A61 n62 c63), blk (.slice A50 n51 c52), blk (.slice A39 n40 c41)]) (O := O) (j := 1) rfl)).st (.dr _ (L := [blk (.slice A121 n122 c123), blk (.slice A86 n87 c88), blk (.slice A61 n62 c63), blk (.slice A50 n51 c52), blk (.slice A39 n40 c41)]) (O := O) (j := 0) rfl))
        have h143 := (h135.st (.dr _ (L := [blk (.slice A121 n122 c123), blk (.slice A86 n87 c88), blk (.slice A61 n62 c63), blk (.slice A50 n51 c52), blk (.slice A39 n40 c41)]) (O := O) (j := 0) rfl))
        refine L_call go36 [.slice A99 n100 c101, .slice A110 n111 c112, .slice A121 n122 c123] rfl ((impl_SeqMerge.calls w119 hc140.ok r9 A99 n100 c101 h142 r10 A110 n111 c112 h143 r11 A121 n122 c123 h139 _ H).mono ?_)
        rintro _ w144 ⟨r12, r13, A146, n147, c148, rfl, H, g145, hk152, hk153, h149⟩
        have hk155 := Ok.unl (L := [blk (.slice A121 n122 c123), blk (.slice A110 n111 c112), blk (.slice A99 n100 c101), blk (.slice A86 n87 c88), blk (.slice A61 n62 c63), blk (.slice A50 n51 c52), blk (.slice A39 n40 c41)]) (L' := [blk (.slice A86 n87 c88), blk (.slice A61 n62 c63), blk (.slice A50 n51 c52), blk (.slice A39 n40 c41)]) (O := O) hc129 g145 hk152 hk153
        have h156 := Ow.unl (L := [blk (.slice A121 n122 c123), blk (.slice A110 n111 c112), blk (.slice A99 n100 c101), blk (.slice A86 n87 c88), blk (.slice A61 n62 c63), blk (.slice A50 n51 c52), blk (.slice A39 n40 c41)]) (L' := [blk (.slice A86 n87 c88), blk (.slice A61 n62 c63), blk (.slice A50 n51 c52), blk (.slice A39 n40 c41)]) (O := O) (fun _ _ _ _ _ _ h => h) (.cons _ (.cons _ (.cons _ (.cons_cons _ (.cons_cons _ (.cons_cons _ (.cons_cons _ (.slnil)))))))) h149
        have hc154 := hc129.owns g145 hk155 hk153
        refine L_pu (P_move (.tuple #[.slice A146 n147 c148, vb r13]) rfl) ?_
        refine L_pu (P_ext [.slice A146 n147 c148, vb r13] 0 (.slice A146 n147 c148) rfl rfl) ?_
        refine L_pu (P_ext [.slice A146 n147 c148, vb r13] 1 (vb r13) rfl rfl) ?_
        refine L_pu (P_assign (.slice A146 n147 c148) rfl) ?_
        refine L_pu (P_assign (vb r13) rfl) ?_
        refine L_nil ?_
        refine W_seq ?_
        refine W_seq ?_
        refine W_reg ?_
        refine L_pu (P_move (.slice A146 n147 c148) rfl) ?_
        refine L_pu (P_move (.slice A86 n87 c88) rfl) ?_
        have h157 := Ow.gv (L := [blk (.slice A146 n147 c148), blk (.slice A121 n122 c123), blk (.slice A110 n111 c112), blk (.slice A99 n100 c101), blk (.slice A86 n87 c88), blk (.slice A61 n62 c63), blk (.slice A50 n51 c52), blk (.slice A39 n40 c41)]) (O := O) h156 hc154 (i := 0) rfl
        have hc158 := hc154.drop 0 rfl
        have h160 := (Ow.sd (L := [blk (.slice A146 n147 c148), blk (.slice A121 n122 c123), blk (.slice A110 n111 c112), blk (.slice A99 n100 c101), blk (.slice A86 n87 c88), blk (.slice A61 n62 c63), blk (.slice A50 n51 c52), blk (.slice A39 n40 c41)]) (O := O) ((((h96.sos g98 hk106).sos g109 hk117).sos g120 hk128).sos g145 hk153) (i := 4) rfl (j := 0) rfl (by decide))
        have h161 := Ow.gv (L := [blk (.slice A121 n122 c123), blk (.slice A110 n111 c112), blk (.slice A99 n100 c101), blk (.slice A86 n87 c88), blk (.slice A61 n62 c63), blk (.slice A50 n51 c52), blk (.slice A39 n40 c41)]) (O := O) h160 hc158 (i := 3) rfl
        have hc162 := hc158.drop 3 rfl
        have h164 := (h157.st (.dr _ (L := [blk (.slice A121 n122 c123), blk (.slice A110 n111 c112), blk (.slice A99 n100 c101), blk (.slice A86 n87 c88), blk (.slice A61 n62 c63), blk (.slice A50 n51 c52), blk (.slice A39 n40 c41)]) (O := O) (j := 3) rfl))
        refine L_call go26 [.slice A146 n147 c148, .slice A86 n87 c88] rfl ((laws_eqPtS.calls w144 hc162.ok r12 A146 n147 c148 h164 r7 A86 n87 c88 h161 _ H).mono ?_)
        rintro _ w165 ⟨r14, rfl, H, g166⟩
        have hc170 := hc154.k0 g166
        refine L_pu (P_not r14 rfl) ?_
        refine L_pu (P_move (vb (!r14)) rfl) ?_
        rcases bool_or (!r14) with hq171 | hq171
        · have H := ite_t H hq171
          refine L_pass (dj := 62) rfl rfl (.inl (by exact congrArg Value.bool hq171)) ?_
          refine L_pass (dj := 62) rfl rfl (.inl (by exact congrArg Value.bool hq171)) ?_
          refine L_pass (dj := 62) rfl rfl (.inl (by exact congrArg Value.bool hq171)) ?_
          refine L_pu (P_pick true (vb true) (by exact congrArg Value.bool hq171) rfl) ?_
          refine L_nil ?_
          refine W_ct (b := true) rfl rfl ?_
          refine W_seq ?_
          refine W_reg ?_
          refine L_pu (P_assign (vb false) rfl) ?_
          refine L_nil ?_
          refine W_ret ?_
          have hc172 := hc170.drop 0 rfl
          have hc173 := hc172.drop 0 rfl
          have hc174 := hc173.drop 0 rfl
          have hc175 := hc174.drop 0 rfl
          have hc176 := hc175.drop 0 rfl
          have hc177 := hc176.drop 0 rfl
          have hc178 := hc177.drop 0 rfl
          have hc179 := hc178.drop 0 rfl
          exact ⟨[vb false], ⟨_, rfl, rfl⟩, false, rfl, H, hc179.gr⟩
        · have H := ite_f H hq171
          refine L_run (dj := 62) rfl rfl (by exact congrArg Value.bool hq171) ?_
          refine L_pu (P_move (vb r13) rfl) ?_
          refine L_run (dj := 62) rfl rfl (by exact congrArg Value.bool hq171) ?_
          refine L_pu (P_move (vb r8) rfl) ?_
          refine L_run (dj := 62) rfl rfl (by exact congrArg Value.bool hq171) ?_
          refine L_pu (P_bcmp Try.underlying4 r13 r8 (r13 != r8) rfl rfl rfl) ?_
          refine L_pu (P_pick false (vb (r13 != r8)) (by exact congrArg Value.bool hq171) rfl) ?_
          refine L_nil ?_
          refine W_cond (r13 != r8) rfl (fun hq180 => ?_) (fun hq180 => ?_)
          · have H := ite_t H hq180
            refine W_seq ?_
            refine W_reg ?_
            refine L_pu (P_assign (vb false) rfl) ?_
            refine L_nil ?_
            refine W_ret ?_
            have hc181 := hc170.drop 0 rfl
            have hc182 := hc181.drop 0 rfl
            have hc183 := hc182.drop 0 rfl
            have hc184 := hc183.drop 0 rfl
            have hc185 := hc184.drop 0 rfl
            have hc186 := hc185.drop 0 rfl
            have hc187 := hc186.drop 0 rfl
            have hc188 := hc187.drop 0 rfl
            exact ⟨[vb false], ⟨_, rfl, rfl⟩, false, rfl, H, hc188.gr⟩
          · have H := ite_f H hq180
            refine W_skip ?_
            refine W_seq ?_
            refine W_seq ?_
            refine W_reg ?_
            refine L_pu (P_move (.slice A99 n100 c101) rfl) ?_
            refine L_pu (P_move (.slice A1 n2 c3) rfl) ?_
            refine L_call go24 [.slice A1 n2 c3] rfl ((laws_toPtS.calls w165 hc170.ok aBase A1 n2 c3 (hp4.st hc170.st) _ H).mono ?_)
            rintro _ w189 ⟨r15, A191, n192, c193, rfl, H, g190, hk197, hk198, h194⟩
            have hc199 := hc170.owns g190 hk197 hk198
            have h200 := (((((h102.sos g109 hk117).sos g120 hk128).sos g145 hk153).sn g166).sos g190 hk198)
            have h201 := Ow.gv (L := [blk (.slice A191 n192 c193), blk (.slice A146 n147 c148), blk (.slice A121 n122 c123), blk (.slice A110 n111 c112), blk (.slice A99 n100 c101), blk (.slice A86 n87 c88), blk (.slice A61 n62 c63), blk (.slice A50 n51 c52), blk (.slice A39 n40 c41)]) (O := O) h200 hc199 (i := 4) rfl
            have hc202 := hc199.drop 4 rfl
            have h204 := (Ow.sd (L := [blk (.slice A191 n192 c193), blk (.slice A146 n147 c148), blk (.slice A121 n122 c123), blk (.slice A110 n111 c112), blk (.slice A99 n100 c101), blk (.slice A86 n87 c88), blk (.slice A61 n62 c63), blk (.slice A50 n51 c52), blk (.slice A39 n40 c41)]) (O := O) h194 (i := 0) rfl (j := 4) rfl (by decide))
            have h205 := Ow.gv (L := [blk (.slice A191 n192 c193), blk (.slice A146 n147 c148), blk (.slice A121 n122 c123), blk (.slice A110 n111 c112), blk (.slice A86 n87 c88), blk (.slice A61 n62 c63), blk (.slice A50 n51 c52), blk (.slice A39 n40 c41)]) (O := O) h204 hc202 (i := 0) rfl
            have hc206 := hc202.drop 0 rfl
            have h208 := (h201.st (.dr _ (L := [blk (.slice A191 n192 c193), blk (.slice A146 n147 c148), blk (.slice A121 n122 c123), blk (.slice A110 n111 c112), blk (.slice A86 n87 c88), blk (.slice A61 n62 c63), blk (.slice A50 n51 c52), blk (.slice A39 n40 c41)]) (O := O) (j := 0) rfl))
            refine L_call go26 [.slice A99 n100 c101, .slice A191 n192 c193] rfl ((laws_eqPtS.calls w189 hc206.ok r9 A99 n100 c101 h208 r15 A191 n192 c193 h205 _ H).mono ?_)
            rintro _ w209 ⟨r16, rfl, H, g210⟩
            have hc214 := hc199.k0 g210
            refine L_pu (P_not r16 rfl) ?_
            refine L_nil ?_
            refine W_cond (!r16) rfl (fun hq215 => ?_) (fun hq215 => ?_)
            · have H := ite_t H hq215
              refine W_seq ?_
              refine W_reg ?_
              refine L_pu (P_assign (vb false) rfl) ?_
              refine L_nil ?_
              refine W_ret ?_
              have hc216 := hc214.drop 0 rfl
              have hc217 := hc216.drop 0 rfl
              have hc218 := hc217.drop 0 rfl
              have hc219 := hc218.drop 0 rfl
              have hc220 := hc219.drop 0 rfl
              have hc221 := hc220.drop 0 rfl
              have hc222 := hc221.drop 0 rfl
              have hc223 := hc222.drop 0 rfl
              have hc224 := hc223.drop 0 rfl
              exact ⟨[vb false], ⟨_, rfl, rfl⟩, false, rfl, H, hc224.gr⟩
            · have H := ite_f H hq215
              refine W_skip ?_
              refine W_seq ?_
              refine W_seq ?_
              refine W_reg ?_
              refine L_pu (P_move (.slice A110 n111 c112) rfl) ?_
              refine L_pu (P_move (.slice A6 n7 c8) rfl) ?_
              refine L_call go24 [.slice A6 n7 c8] rfl ((laws_toPtS.calls w209 hc214.ok aA A6 n7 c8 (hp9.st hc214.st) _ H).mono ?_)
              rintro _ w225 ⟨r17, A227, n228, c229, rfl, H, g226, hk233, hk234, h230⟩
              have hc235 := hc214.owns g226 hk233 hk234
              have h236 := ((((((h113.sos g120 hk128).sos g145 hk153).sn g166).sos g190 hk198).sn g210).sos g226 hk234)
              have h237 := Ow.gv (L := [blk (.slice A227 n228 c229), blk (.slice A191 n192 c193), blk (.slice A146 n147 c148), blk (.slice A121 n122 c123), blk (.slice A110 n111 c112), blk (.slice A99 n100 c101), blk (.slice A86 n87 c88), blk (.slice A61 n62 c63), blk (.slice A50 n51 c52), blk (.slice A39 n40 c41)]) (O := O) h236 hc235 (i := 4) rfl
              have hc238 := hc235.drop 4 rfl
              have h240 := (Ow.sd (L := [blk (.slice A227 n228 c229), blk (.slice A191 n192 c193), blk (.slice A146 n147 c148), blk (.slice A121 n122 c123), blk (.slice A110 n111 c112), blk (.slice A99 n100 c101), blk (.slice A86 n87 c88), blk (.slice A61 n62 c63), blk (.slice A50 n51 c52), blk (.slice A39 n40 c41)]) (O := O) h230 (i := 0) rfl (j := 4) rfl (by decide))
              have h241 := Ow.gv (L := [blk (.slice A227 n228 c229), blk (.slice A191 n192 c193), blk (.slice A146 n147 c148), blk (.slice A121 n122 c123), blk (.slice A99 n100 c101), blk (.slice A86 n87 c88), blk (.slice A61 n62 c63), blk (.slice A50 n51 c52), blk (.slice A39 n40 c41)]) (O := O) h240 hc238 (i := 0) rfl
              have hc242 := hc238.drop 0 rfl
              have h244 := (h237.st (.dr _ (L := [blk (.slice A227 n228 c229), blk (.slice A191 n192 c193), blk (.slice A146 n147 c148), blk (.slice A121 n122 c123), blk (.slice A99 n100 c101), blk (.slice A86 n87 c88), blk (.slice A61 n62 c63), blk (.slice A50 n51 c52), blk (.slice A39 n40 c41)]) (O := O) (j := 0) rfl))
              refine L_call go26 [.slice A110 n111 c112, .slice A227 n228 c229] rfl ((laws_eqPtS.calls w225 hc242.ok r10 A110 n111 c112 h244 r17 A227 n228 c229 h241 _ H).mono ?_)
              rintro _ w245 ⟨r18, rfl, H, g246⟩
              have hc250 := hc235.k0 g246
              refine L_pu (P_not r18 rfl) ?_
              refine L_nil ?_
              refine W_cond (!r18) rfl (fun hq251 => ?_) (fun hq251 => ?_)
              · have H := ite_t H hq251
                refine W_seq ?_
                refine W_reg ?_
                refine L_pu (P_assign (vb false) rfl) ?_
                refine L_nil ?_
                refine W_ret ?_
                have hc252 := hc250.drop 0 rfl
                have hc253 := hc252.drop 0 rfl
                have hc254 := hc253.drop 0 rfl
                have hc255 := hc254.drop 0 rfl
                have hc256 := hc255.drop 0 rfl
                have hc257 := hc256.drop 0 rfl
                have hc258 := hc257.drop 0 rfl
                have hc259 := hc258.drop 0 rfl
                have hc260 := hc259.drop 0 rfl
                have hc261 := hc260.drop 0 rfl
                exact ⟨[vb false], ⟨_, rfl, rfl⟩, false, rfl, H, hc261.gr⟩
              · have H := ite_f H hq251
                refine W_skip ?_
                refine W_seq ?_
                refine W_seq ?_
                refine W_reg ?_
                refine L_pu (P_move (.slice A121 n122 c123) rfl) ?_
                refine L_pu (P_move (.slice A11 n12 c13) rfl) ?_
                refine L_call go24 [.slice A11 n12 c13] rfl ((laws_toPtS.calls w245 hc250.ok aB A11 n12 c13 (hp14.st hc250.st) _ H).mono ?_)
                rintro _ w262 ⟨r19, A264, n265, c266, rfl, H, g263, hk270, hk271, h267⟩
                have hc272 := hc250.owns g263 hk270 hk271
                have h273 := (((((((h124.sos g145 hk153).sn g166).sos g190 hk198).sn g210).sos g226 hk234).sn g246).sos g263 hk271)
                have h274 := Ow.gv (L := [blk (.slice A264 n265 c266), blk (.slice A227 n228 c229), blk (.slice A191 n192 c193), blk (.slice A146 n147 c148), blk (.slice A121 n122 c123), blk (.slice A110 n111 c112), blk (.slice A99 n100 c101), blk (.slice A86 n87 c88), blk (.slice A61 n62 c63), blk (.slice A50 n51 c52), blk (.slice A39 n40 c41)]) (O := O) h273 hc272 (i := 4) rfl
                have hc275 := hc272.drop 4 rfl
                have h277 := (Ow.sd (L := [blk (.slice A264 n265 c266), blk (.slice A227 n228 c229), blk (.slice A191 n192 c193), blk (.slice A146 n147 c148), blk (.slice A121 n122 c123), blk (.slice A110 n111 c112), blk (.slice A99 n100 c101), blk (.slice A86 n87 c88), blk (.slice A61 n62 c63), blk (.slice A50 n51 c52), blk (.slice A39 n40 c41)]) (O := O) h267 (i := 0) rfl (j := 4) rfl (by decide))
                have h278 := Ow.gv (L := [blk (.slice A264 n265 c266), blk (.slice A227 n228 c229), blk (.slice A191 n192 c193), blk (.slice A146 n147 c148), blk (.slice A110 n111 c112), blk (.slice A99 n100 c101), blk (.slice A86 n87 c88), blk (.slice A61 n62 c63), blk (.slice A50 n51 c52), blk (.slice A39 n40 c41)]) (O := O) h277 hc275 (i := 0) rfl
                have hc279 := hc275.drop 0 rfl
                have h281 := (h274.st (.dr _ (L := [blk (.slice A264 n265 c266), blk (.slice A227 n228 c229), blk (.slice A191 n192 c193), blk (.slice A146 n147 c148), blk (.slice A110 n111 c112), blk (.slice A99 n100 c101), blk (.slice A86 n87 c88), blk (.slice A61 n62 c63), blk (.slice A50 n51 c52), blk (.slice A39 n40 c41)]) (O := O) (j := 0) rfl))
                refine L_call go26 [.slice A121 n122 c123, .slice A264 n265 c266] rfl ((laws_eqPtS.calls w262 hc279.ok r11 A121 n122 c123 h281 r19 A264 n265 c266 h278 _ H).mono ?_)
                rintro _ w282 ⟨r20, rfl, H, g283⟩
                have hc287 := hc272.k0 g283
                refine L_pu (P_not r20 rfl) ?_
                refine L_nil ?_
                refine W_cond (!r20) rfl (fun hq288 => ?_) (fun hq288 => ?_)
                · have H := ite_t H hq288
                  refine W_seq ?_
                  refine W_reg ?_
                  refine L_pu (P_assign (vb false) rfl) ?_
                  refine L_nil ?_
                  refine W_ret ?_
                  have hc289 := hc287.drop 0 rfl
                  have hc290 := hc289.drop 0 rfl
                  have hc291 := hc290.drop 0 rfl
                  have hc292 := hc291.drop 0 rfl
                  have hc293 := hc292.drop 0 rfl
                  have hc294 := hc293.drop 0 rfl
                  have hc295 := hc294.drop 0 rfl
                  have hc296 := hc295.drop 0 rfl
                  have hc297 := hc296.drop 0 rfl
                  have hc298 := hc297.drop 0 rfl
                  have hc299 := hc298.drop 0 rfl
                  exact ⟨[vb false], ⟨_, rfl, rfl⟩, false, rfl, H, hc299.gr⟩
                · have H := ite_f H hq288
                  refine W_skip ?_
                  refine W_seq ?_
                  refine W_reg ?_
                  refine L_pu (P_assign (vi 1) rfl) ?_
                  refine L_nil ?_
                  refine W_seq ?_
                  refine W_reg ?_
                  refine L_pu (P_move (.slice A99 n100 c101) rfl) ?_
                  refine L_pu (P_move (vi 1) rfl) ?_
                  have h300 := ((((((((((h102.sos g109 hk117).sos g120 hk128).sos g145 hk153).sn g166).sos g190 hk198).sn g210).sos g226 hk234).sn g246).sos g263 hk271).sn g283)
                  refine L_call go32 [.slice A99 n100 c101, vi 1] rfl ((laws_markPtS.calls w282 hc287.ok A99 n100 c101 r9 h300 1 _ H).mono ?_)
                  rintro _ w301 ⟨r21, m, rfl, H, g302, hx303⟩
                  have hc306 := hc287.wr 6 rfl g302
                  refine L_pu (P_assign (vi r21) rfl) ?_
                  refine L_nil ?_
                  refine W_seq ?_
                  refine W_reg ?_
                  refine L_pu (P_move (.slice A110 n111 c112) rfl) ?_
                  refine L_pu (P_move (vi r21) rfl) ?_
                  have h307 := (Ow.sw (L := [blk (.slice A264 n265 c266), blk (.slice A227 n228 c229), blk (.slice A191 n192 c193), blk (.slice A146 n147 c148), blk (.slice A121 n122 c123), blk (.slice A110 n111 c112), blk (.slice A99 n100 c101), blk (.slice A86 n87 c88), blk (.slice A61 n62 c63), blk (.slice A50 n51 c52), blk (.slice A39 n40 c41)]) (O := O) (((((((((h113.sos g120 hk128).sos g145 hk153).sn g166).sos g190 hk198).sn g210).sos g226 hk234).sn g246).sos g263 hk271).sn g283) hc287 (i := 5) rfl (j := 6) rfl (by decide) g302)
                  refine L_call go32 [.slice A110 n111 c112, vi r21] rfl ((laws_markPtS.calls w301 hc306.ok A110 n111 c112 r10 h307 r21 _ H).mono ?_)
                  rintro _ w308 ⟨r22, m2, rfl, H, g309, hx310⟩
                  have hc313 := hc306.wr 5 rfl g309
                  refine L_pu (P_assign (vi r22) rfl) ?_
                  refine L_nil ?_
                  refine W_seq ?_
                  refine W_reg ?_
                  refine L_pu (P_move (.slice A121 n122 c123) rfl) ?_
                  refine L_pu (P_move (vi r22) rfl) ?_
                  have h314 := (Ow.sw (L := [blk (.slice A264 n265 c266), blk (.slice A227 n228 c229), blk (.slice A191 n192 c193), blk (.slice A146 n147 c148), blk (.slice A121 n122 c123), blk (.slice A110 n111 c112), blk (.slice A99 n100 c101), blk (.slice A86 n87 c88), blk (.slice A61 n62 c63), blk (.slice A50 n51 c52), blk (.slice A39 n40 c41)]) (O := O) (Ow.sw (L := [blk (.slice A264 n265 c266), blk (.slice A227 n228 c229), blk (.slice A191 n192 c193), blk (.slice A146 n147 c148), blk (.slice A121 n122 c123), blk (.slice A110 n111 c112), blk (.slice A99 n100 c101), blk (.slice A86 n87 c88), blk (.slice A61 n62 c63), blk (.slice A50 n51 c52), blk (.slice A39 n40 c41)]) (O := O) ((((((((h124.sos g145 hk153).sn g166).sos g190 hk198).sn g210).sos g226 hk234).sn g246).sos g263 hk271).sn g283) hc287 (i := 4) rfl (j := 6) rfl (by decide) g302) hc306 (i := 4) rfl (j := 5) rfl (by decide) g309)
                  refine L_call go32 [.slice A121 n122 c123, vi r22] rfl ((laws_markPtS.calls w308 hc313.ok A121 n122 c123 r11 h314 r22 _ H).mono ?_)
                  rintro _ w315 ⟨r23, m3, rfl, H, g316, hx317⟩
                  have hc320 := hc313.wr 4 rfl g316
                  refine L_pu (P_assign (vi r23) rfl) ?_
                  refine L_nil ?_
                  refine W_seq ?_
                  refine W_seq ?_
                  refine W_reg ?_
                  refine L_pu (P_move (vi r23) rfl) ?_
                  refine L_pu (P_cmp r23 0 (decide (r23 < 0)) rfl rfl rfl) ?_
                  refine L_pu (P_move (vb (decide (r23 < 0))) rfl) ?_
                  rcases bool_or (decide (r23 < 0)) with hq321 | hq321
                  · have H := ite_t H hq321
                    refine L_pass (dj := 93) rfl rfl (.inl (by exact congrArg Value.bool hq321)) ?_
                    refine L_pass (dj := 93) rfl rfl (.inl (by exact congrArg Value.bool hq321)) ?_
                    refine L_pass (dj := 93) rfl rfl (.inl (by exact congrArg Value.bool hq321)) ?_
                    refine L_pass (dj := 93) rfl rfl (.inl (by exact congrArg Value.bool hq321)) ?_
                    refine L_pu (P_pick true (vb true) (by exact congrArg Value.bool hq321) rfl) ?_
                    refine L_pu (P_move (vb true) rfl) ?_
                    refine L_pass (dj := 99) rfl rfl (.inl rfl) ?_
                    refine L_pass (dj := 99) rfl rfl (.inl rfl) ?_
                    refine L_pass (dj := 99) rfl rfl (.inl rfl) ?_
                    refine L_pu (P_pick true (vb true) (by exact congrArg Value.bool rfl) rfl) ?_
                    refine L_nil ?_
                    refine W_ct (b := true) rfl rfl ?_
                    refine W_seq ?_
                    refine W_reg ?_
                    refine L_pu (P_assign (vb false) rfl) ?_
                    refine L_nil ?_
                    refine W_ret ?_
                    have hc322 := hc320.drop 0 rfl
                    have hc323 := hc322.drop 0 rfl
                    have hc324 := hc323.drop 0 rfl
                    have hc325 := hc324.drop 0 rfl
                    have hc326 := hc325.drop 0 rfl
                    have hc327 := hc326.drop 0 rfl
                    have hc328 := hc327.drop 0 rfl
                    have hc329 := hc328.drop 0 rfl
                    have hc330 := hc329.drop 0 rfl
                    have hc331 := hc330.drop 0 rfl
                    have hc332 := hc331.drop 0 rfl
                    exact ⟨[vb false], ⟨_, rfl, rfl⟩, false, rfl, H, hc332.gr⟩
                  · have H := ite_f H hq321
                    refine L_run (dj := 93) rfl rfl (by exact congrArg Value.bool hq321) ?_
                    refine L_pu (P_move (.slice A146 n147 c148) rfl) ?_
                    refine L_run (dj := 93) rfl rfl (by exact congrArg Value.bool hq321) ?_
                    refine L_pu (P_move (.slice A86 n87 c88) rfl) ?_
                    refine L_run (dj := 93) rfl rfl (by exact congrArg Value.bool hq321) ?_
                    have h333 := (Ow.sw (L := [blk (.slice A264 n265 c266), blk (.slice A227 n228 c229), blk (.slice A191 n192 c193), blk (.slice A146 n147 c148), blk (.slice A121 n122 c123), blk (.slice A110 n111 c112), blk (.slice A99 n100 c101), blk (.slice A86 n87 c88), blk (.slice A61 n62 c63), blk (.slice A50 n51 c52), blk (.slice A39 n40 c41)]) (O := O) (Ow.sw (L := [blk (.slice A264 n265 c266), blk (.slice A227 n228 c229), blk (.slice A191 n192 c193), blk (.slice A146 n147 c148), blk (.slice A121 n122 c123), blk (.slice A110 n111 c112), blk (.slice A99 n100 c101), blk (.slice A86 n87 c88), blk (.slice A61 n62 c63), blk (.slice A50 n51 c52), blk (.slice A39 n40 c41)]) (O := O) (Ow.sw (L := [blk (.slice A264 n265 c266), blk (.slice A227 n228 c229), blk (.slice A191 n192 c193), blk (.slice A146 n147 c148), blk (.slice A121 n122 c123), blk (.slice A110 n111 c112), blk (.slice A99 n100 c101), blk (.slice A86 n87 c88), blk (.slice A61 n62 c63), blk (.slice A50 n51 c52), blk (.slice A39 n40 c41)]) (O := O) (((((((h156.sn g166).sos g190 hk198).sn g210).sos g226 hk234).sn g246).sos g263 hk271).sn g283) hc287 (i := 3) rfl (j := 6) rfl (by decide) g302) hc306 (i := 3) rfl (j := 5) rfl (by decide) g309) hc313 (i := 3) rfl (j := 4) rfl (by decide) g316)
                    have h334 := Ow.gv (L := [blk (.slice A264 n265 c266), blk (.slice A227 n228 c229), blk (.slice A191 n192 c193), blk (.slice A146 n147 c148), blk (.slice A121 n122 c123), blk (.slice A110 n111 c112), blk (.slice A99 n100 c101), blk (.slice A86 n87 c88), blk (.slice A61 n62 c63), blk (.slice A50 n51 c52), blk (.slice A39 n40 c41)]) (O := O) h333 hc320 (i := 3) rfl
                    have hc335 := hc320.drop 3 rfl
                    have h337 := (Ow.sd (L := [blk (.slice A264 n265 c266), blk (.slice A227 n228 c229), blk (.slice A191 n192 c193), blk (.slice A146 n147 c148), blk (.slice A121 n122 c123), blk (.slice A110 n111 c112), blk (.slice A99 n100 c101), blk (.slice A86 n87 c88), blk (.slice A61 n62 c63), blk (.slice A50 n51 c52), blk (.slice A39 n40 c41)]) (O := O) (Ow.sw (L := [blk (.slice A264 n265 c266), blk (.slice A227 n228 c229), blk (.slice A191 n192 c193), blk (.slice A146 n147 c148), blk (.slice A121 n122 c123), blk (.slice A110 n111 c112), blk (.slice A99 n100 c101), blk (.slice A86 n87 c88), blk (.slice A61 n62 c63), blk (.slice A50 n51 c52), blk (.slice A39 n40 c41)]) (O := O) (Ow.sw (L := [blk (.slice A264 n265 c266), blk (.slice A227 n228 c229), blk (.slice A191 n192 c193), blk (.slice A146 n147 c148), blk (.slice A121 n122 c123), blk (.slice A110 n111 c112), blk (.slice A99 n100 c101), blk (.slice A86 n87 c88), blk (.slice A61 n62 c63), blk (.slice A50 n51 c52), blk (.slice A39 n40 c41)]) (O := O) (Ow.sw (L := [blk (.slice A264 n265 c266), blk (.slice A227 n228 c229), blk (.slice A191 n192 c193), blk (.slice A146 n147 c148), blk (.slice A121 n122 c123), blk (.slice A110 n111 c112), blk (.slice A99 n100 c101), blk (.slice A86 n87 c88), blk (.slice A61 n62 c63), blk (.slice A50 n51 c52), blk (.slice A39 n40 c41)]) (O := O) (((((((((((h96.sos g98 hk106).sos g109 hk117).sos g120 hk128).sos g145 hk153).sn g166).sos g190 hk198).sn g210).sos g226 hk234).sn g246).sos g263 hk271).sn g283) hc287 (i := 7) rfl (j := 6) rfl (by decide) g302) hc306 (i := 7) rfl (j := 5) rfl (by decide) g309) hc313 (i := 7) rfl (j := 4) rfl (by decide) g316) (i := 7) rfl (j := 3) rfl (by decide))
                    have h338 := Ow.gv (L := [blk (.slice A264 n265 c266), blk (.slice A227 n228 c229), blk (.slice A191 n192 c193), blk (.slice A121 n122 c123), blk (.slice A110 n111 c112), blk (.slice A99 n100 c101), blk (.slice A86 n87 c88), blk (.slice A61 n62 c63), blk (.slice A50 n51 c52), blk (.slice A39 n40 c41)]) (O := O) h337 hc335 (i := 6) rfl
                    have hc339 := hc335.drop 6 rfl
                    have h341 := (h334.st (.dr _ (L := [blk (.slice A264 n265 c266), blk (.slice A227 n228 c229), blk (.slice A191 n192 c193), blk (.slice A121 n122 c123), blk (.slice A110 n111 c112), blk (.slice A99 n100 c101), blk (.slice A86 n87 c88), blk (.slice A61 n62 c63), blk (.slice A50 n51 c52), blk (.slice A39 n40 c41)]) (O := O) (j := 6) rfl))
                    refine L_call go26 [.slice A146 n147 c148, .slice A86 n87 c88] rfl ((laws_eqPtS.calls w315 hc339.ok r12 A146 n147 c148 h341 r7 A86 n87 c88 h338 _ H).mono ?_)
                    rintro _ w342 ⟨r24, rfl, H, g343⟩
                    have hc347 := hc320.k0 g343
                    refine L_run (dj := 93) rfl rfl (by exact congrArg Value.bool hq321) ?_
                    refine L_pu (P_not r24 rfl) ?_
                    refine L_pu (P_pick false (vb (!r24)) (by exact congrArg Value.bool hq321) rfl) ?_
                    refine L_pu (P_move (vb (!r24)) rfl) ?_
                    rcases bool_or (!r24) with hq348 | hq348
                    · have H := ite_t H hq348
                      refine L_pass (dj := 99) rfl rfl (.inl (by exact congrArg Value.bool hq348)) ?_
                      refine L_pass (dj := 99) rfl rfl (.inl (by exact congrArg Value.bool hq348)) ?_
                      refine L_pass (dj := 99) rfl rfl (.inl (by exact congrArg Value.bool hq348)) ?_
                      refine L_pu (P_pick true (vb true) (by exact congrArg Value.bool hq348) rfl) ?_
                      refine L_nil ?_
                      refine W_ct (b := true) rfl rfl ?_
                      refine W_seq ?_
                      refine W_reg ?_
                      refine L_pu (P_assign (vb false) rfl) ?_
                      refine L_nil ?_
                      refine W_ret ?_
                      have hc349 := hc347.drop 0 rfl
                      have hc350 := hc349.drop 0 rfl
                      have hc351 := hc350.drop 0 rfl
                      have hc352 := hc351.drop 0 rfl
                      have hc353 := hc352.drop 0 rfl
                      have hc354 := hc353.drop 0 rfl
                      have hc355 := hc354.drop 0 rfl
                      have hc356 := hc355.drop 0 rfl
                      have hc357 := hc356.drop 0 rfl
                      have hc358 := hc357.drop 0 rfl
                      have hc359 := hc358.drop 0 rfl
                      exact ⟨[vb false], ⟨_, rfl, rfl⟩, false, rfl, H, hc359.gr⟩
                    · have H := ite_f H hq348
                      refine L_run (dj := 99) rfl rfl (by exact congrArg Value.bool hq348) ?_
                      refine L_pu (P_move (vb r13) rfl) ?_
                      refine L_run (dj := 99) rfl rfl (by exact congrArg Value.bool hq348) ?_
                      refine L_pu (P_move (vb r8) rfl) ?_
                      refine L_run (dj := 99) rfl rfl (by exact congrArg Value.bool hq348) ?_
                      refine L_pu (P_bcmp Try.underlying4 r13 r8 (r13 != r8) rfl rfl rfl) ?_
                      refine L_pu (P_pick false (vb (r13 != r8)) (by exact congrArg Value.bool hq348) rfl) ?_
                      refine L_nil ?_
                      refine W_cf (b := r13 != r8) rfl hq180 ?_
                      refine W_skip ?_
                      refine W_seq ?_
                      refine W_reg ?_
                      refine L_pu (P_assign (vi 1) rfl) ?_
                      refine L_nil ?_
                      refine W_seq ?_
                      refine W_reg ?_
                      refine L_pu (P_move (.slice A146 n147 c148) rfl) ?_
                      refine L_pu (P_move (vi 1) rfl) ?_
                      have h360 := ((Ow.sw (L := [blk (.slice A264 n265 c266), blk (.slice A227 n228 c229), blk (.slice A191 n192 c193), blk (.slice A146 n147 c148), blk (.slice A121 n122 c123), blk (.slice A110 n111 c112), blk (.slice A99 n100 c101), blk (.slice A86 n87 c88), blk (.slice A61 n62 c63), blk (.slice A50 n51 c52), blk (.slice A39 n40 c41)]) (O := O) (Ow.sw (L := [blk (.slice A264 n265 c266), blk (.slice A227 n228 c229), blk (.slice A191 n192 c193), blk (.slice A146 n147 c148), blk (.slice A121 n122 c123), blk (.slice A110 n111 c112), blk (.slice A99 n100 c101), blk (.slice A86 n87 c88), blk (.slice A61 n62 c63), blk (.slice A50 n51 c52), blk (.slice A39 n40 c41)]) (O := O) (Ow.sw (L := [blk (.slice A264 n265 c266), blk (.slice A227 n228 c229), blk (.slice A191 n192 c193), blk (.slice A146 n147 c148), blk (.slice A121 n122 c123), blk (.slice A110 n111 c112), blk (.slice A99 n100 c101), blk (.slice A86 n87 c88), blk (.slice A61 n62 c63), blk (.slice A50 n51 c52), blk (.slice A39 n40 c41)]) (O := O) (((((((h156.sn g166).sos g190 hk198).sn g210).sos g226 hk234).sn g246).sos g263 hk271).sn g283) hc287 (i := 3) rfl (j := 6) rfl (by decide) g302) hc306 (i := 3) rfl (j := 5) rfl (by decide) g309) hc313 (i := 3) rfl (j := 4) rfl (by decide) g316).sn g343)
                      refine L_call go32 [.slice A146 n147 c148, vi 1] rfl ((laws_markPtS.calls w342 hc347.ok A146 n147 c148 r12 h360 1 _ H).mono ?_)
                      rintro _ w361 ⟨r25, m4, rfl, H, g362, hx363⟩
                      have hc366 := hc347.wr 3 rfl g362
                      refine L_pu (P_assign (vi r25) rfl) ?_
                      refine L_nil ?_
                      refine W_seq ?_
                      refine W_reg ?_
                      refine L_pu (P_assign (vi 1) rfl) ?_
                      refine L_nil ?_
                      refine W_seq ?_
                      refine W_reg ?_
                      refine L_pu (P_move (.slice A146 n147 c148) rfl) ?_
                      refine L_pu (P_move (vi 1) rfl) ?_
                      have h367 := Ow.gv (L := [blk (.slice A264 n265 c266), blk (.slice A227 n228 c229), blk (.slice A191 n192 c193), blk (.slice A146 n147 c148), blk (.slice A121 n122 c123), blk (.slice A110 n111 c112), blk (.slice A99 n100 c101), blk (.slice A86 n87 c88), blk (.slice A61 n62 c63), blk (.slice A50 n51 c52), blk (.slice A39 n40 c41)]) (O := O) hx363 hc366 (i := 3) rfl
                      have hc368 := hc366.drop 3 rfl
                      refine L_call go37 [.slice A146 n147 c148, vi 1] rfl ((laws_heldPtS.calls w361 hc368.ok m4 A146 n147 c148 h367 1 _ H).mono ?_)
                      rintro _ w370 ⟨r26, rfl, H, g371⟩
                      have hc375 := hc366.k0 g371
                      refine L_pu (P_assign (vi r26) rfl) ?_
                      refine L_nil ?_
                      refine W_seq ?_
                      refine W_seq ?_
                      refine W_reg ?_
                      refine L_pu (P_move (vi r26) rfl) ?_
                      refine L_pu (P_cmp r26 0 (decide (r26 < 0)) rfl rfl rfl) ?_
                      refine L_nil ?_
                      refine W_cond (decide (r26 < 0)) rfl (fun hq376 => ?_) (fun hq376 => ?_)
                      · have H := ite_t H hq376
                        refine W_seq ?_
                        refine W_reg ?_
                        refine L_pu (P_assign (vb false) rfl) ?_
                        refine L_nil ?_
                        refine W_ret ?_
                        have hc377 := hc375.drop 0 rfl
                        have hc378 := hc377.drop 0 rfl
                        have hc379 := hc378.drop 0 rfl
                        have hc380 := hc379.drop 0 rfl
                        have hc381 := hc380.drop 0 rfl
                        have hc382 := hc381.drop 0 rfl
                        have hc383 := hc382.drop 0 rfl
                        have hc384 := hc383.drop 0 rfl
                        have hc385 := hc384.drop 0 rfl
                        have hc386 := hc385.drop 0 rfl
                        have hc387 := hc386.drop 0 rfl
                        exact ⟨[vb false], ⟨_, rfl, rfl⟩, false, rfl, H, hc387.gr⟩
                      · have H := ite_f H hq376
                        refine W_skip ?_
                        refine W_seq ?_
                        refine W_seq ?_
                        refine W_reg ?_
                        refine L_pu (P_move (vi r26) rfl) ?_
                        refine L_pu (P_move (vi r25) rfl) ?_
                        refine L_pu (P_cmp r26 r25 (r26 != r25) rfl rfl rfl) ?_
                        refine L_nil ?_
                        refine W_cond (r26 != r25) rfl (fun hq388 => ?_) (fun hq388 => ?_)
                        · have H := ite_t H hq388
                          refine W_seq ?_
                          refine W_reg ?_
                          refine L_pu (P_assign (vb false) rfl) ?_
                          refine L_nil ?_
                          refine W_ret ?_
                          have hc389 := hc375.drop 0 rfl
                          have hc390 := hc389.drop 0 rfl
                          have hc391 := hc390.drop 0 rfl
                          have hc392 := hc391.drop 0 rfl
                          have hc393 := hc392.drop 0 rfl
                          have hc394 := hc393.drop 0 rfl
                          have hc395 := hc394.drop 0 rfl
                          have hc396 := hc395.drop 0 rfl
                          have hc397 := hc396.drop 0 rfl
                          have hc398 := hc397.drop 0 rfl
                          have hc399 := hc398.drop 0 rfl
                          exact ⟨[vb false], ⟨_, rfl, rfl⟩, false, rfl, H, hc399.gr⟩
                        · have H := ite_f H hq388
                          refine W_skip ?_
                          refine W_seq ?_
                          refine W_reg ?_
                          refine L_pu (P_move (.slice A1 n2 c3) rfl) ?_
                          refine L_call go24 [.slice A1 n2 c3] rfl ((laws_toPtS.calls w370 hc375.ok aBase A1 n2 c3 (hp4.st hc375.st) _ H).mono ?_)
                          rintro _ w400 ⟨r27, A402, n403, c404, rfl, H, g401, hk408, hk409, h405⟩
                          have hc410 := hc375.owns g401 hk408 hk409
                          refine L_pu (P_move (.slice A6 n7 c8) rfl) ?_
                          refine L_call go24 [.slice A6 n7 c8] rfl ((laws_toPtS.calls w400 hc410.ok aA A6 n7 c8 (hp9.st hc410.st) _ H).mono ?_)
                          rintro _ w411 ⟨r28, A413, n414, c415, rfl, H, g412, hk419, hk420, h416⟩
                          have hc421 := hc410.owns g412 hk419 hk420
                          refine L_pu (P_move (.slice A11 n12 c13) rfl) ?_
                          refine L_call go24 [.slice A11 n12 c13] rfl ((laws_toPtS.calls w411 hc421.ok aB A11 n12 c13 (hp14.st hc421.st) _ H).mono ?_)
                          rintro _ w422 ⟨r29, A424, n425, c426, rfl, H, g423, hk430, hk431, h427⟩
                          have hc432 := hc421.owns g423 hk430 hk431
                          have h433 := ((h405.sos g412 hk420).sos g423 hk431)
                          have h434 := Ow.gv (L := [blk (.slice A424 n425 c426), blk (.slice A413 n414 c415), blk (.slice A402 n403 c404), blk (.slice A264 n265 c266), blk (.slice A227 n228 c229), blk (.slice A191 n192 c193), blk (.slice A146 n147 c148), blk (.slice A121 n122 c123), blk (.slice A110 n111 c112), blk (.slice A99 n100 c101), blk (.slice A86 n87 c88), blk (.slice A61 n62 c63), blk (.slice A50 n51 c52), blk (.slice A39 n40 c41)]) (O := O) h433 hc432 (i := 2) rfl
                          have hc435 := hc432.drop 2 rfl
                          have h437 := (Ow.sd (L := [blk (.slice A424 n425 c426), blk (.slice A413 n414 c415), blk (.slice A402 n403 c404), blk (.slice A264 n265 c266), blk (.slice A227 n228 c229), blk (.slice A191 n192 c193), blk (.slice A146 n147 c148), blk (.slice A121 n122 c123), blk (.slice A110 n111 c112), blk (.slice A99 n100 c101), blk (.slice A86 n87 c88), blk (.slice A61 n62 c63), blk (.slice A50 n51 c52), blk (.slice A39 n40 c41)]) (O := O) (h416.sos g423 hk431) (i := 1) rfl (j := 2) rfl (by decide))
                          have h438 := Ow.gv (L := [blk (.slice A424 n425 c426), blk (.slice A413 n414 c415), blk (.slice A264 n265 c266), blk (.slice A227 n228 c229), blk (.slice A191 n192 c193), blk (.slice A146 n147 c148), blk (.slice A121 n122 c123), blk (.slice A110 n111 c112), blk (.slice A99 n100 c101), blk (.slice A86 n87 c88), blk (.slice A61 n62 c63), blk (.slice A50 n51 c52), blk (.slice A39 n40 c41)]) (O := O) h437 hc435 (i := 1) rfl
                          have hc439 := hc435.drop 1 rfl
                          have h441 := (Ow.sd (L := [blk (.slice A424 n425 c426), blk (.slice A413 n414 c415), blk (.slice A264 n265 c266), blk (.slice A227 n228 c229), blk (.slice A191 n192 c193), blk (.slice A146 n147 c148), blk (.slice A121 n122 c123), blk (.slice A110 n111 c112), blk (.slice A99 n100 c101), blk (.slice A86 n87 c88), blk (.slice A61 n62 c63), blk (.slice A50 n51 c52), blk (.slice A39 n40 c41)]) (O := O) (Ow.sd (L := [blk (.slice A424 n425 c426), blk (.slice A413 n414 c415), blk (.slice A402 n403 c404), blk (.slice A264 n265 c266), blk (.slice A227 n228 c229), blk (.slice A191 n192 c193), blk (.slice A146 n147 c148), blk (.slice A121 n122 c123), blk (.slice A110 n111 c112), blk (.slice A99 n100 c101), blk (.slice A86 n87 c88), blk (.slice A61 n62 c63), blk (.slice A50 n51 c52), blk (.slice A39 n40 c41)]) (O := O) h427 (i := 0) rfl (j := 2) rfl (by decide)) (i := 0) rfl (j := 1) rfl (by decide))
                          have h442 := Ow.gv (L := [blk (.slice A424 n425 c426), blk (.slice A264 n265 c266), blk (.slice A227 n228 c229), blk (.slice A191 n192 c193), blk (.slice A146 n147 c148), blk (.slice A121 n122 c123), blk (.slice A110 n111 c112), blk (.slice A99 n100 c101), blk (.slice A86 n87 c88), blk (.slice A61 n62 c63), blk (.slice A50 n51 c52), blk (.slice A39 n40 c41)]) (O := O) h441 hc439 (i := 0) rfl
                          have hc443 := hc439.drop 0 rfl
                          have h445 := ((h434.st (.dr _ (L := [blk (.slice A424 n425 c426), blk (.slice A413 n414 c415), blk (.slice A264 n265 c266), blk (.slice A227 n228 c229), blk (.slice A191 n192 c193), blk (.slice A146 n147 c148), blk (.slice A121 n122 c123), blk (.slice A110 n111 c112), blk (.slice A99 n100 c101), blk (.slice A86 n87 c88), blk (.slice A61 n62 c63), blk (.slice A50 n51 c52), blk (.slice A39 n40 c41)]) (O := O) (j := 1) rfl)).st (.dr _ (L := [blk (.slice A424 n425 c426), blk (.slice A264 n265 c266), blk (.slice A227 n228 c229), blk (.slice A191 n192 c193), blk (.slice A146 n147 c148), blk (.slice A121 n122 c123), blk (.slice A110 n111 c112), blk (.slice A99 n100 c101), blk (.slice A86 n87 c88), blk (.slice A61 n62 c63), blk (.slice A50 n51 c52), blk (.slice A39 n40 c41)]) (O := O) (j := 0) rfl))
                          have h446 := (h438.st (.dr _ (L := [blk (.slice A424 n425 c426), blk (.slice A264 n265 c266), blk (.slice A227 n228 c229), blk (.slice A191 n192 c193), blk (.slice A146 n147 c148), blk (.slice A121 n122 c123), blk (.slice A110 n111 c112), blk (.slice A99 n100 c101), blk (.slice A86 n87 c88), blk (.slice A61 n62 c63), blk (.slice A50 n51 c52), blk (.slice A39 n40 c41)]) (O := O) (j := 0) rfl))
                          refine L_call go36 [.slice A402 n403 c404, .slice A413 n414 c415, .slice A424 n425 c426] rfl ((impl_SeqMerge.calls w422 hc443.ok r27 A402 n403 c404 h445 r28 A413 n414 c415 h446 r29 A424 n425 c426 h442 _ H).mono ?_)
                          rintro _ w447 ⟨r30, r31, A449, n450, c451, rfl, H, g448, hk455, hk456, h452⟩
                          have hk458 := Ok.unl (L := [blk (.slice A424 n425 c426), blk (.slice A413 n414 c415), blk (.slice A402 n403 c404), blk (.slice A264 n265 c266), blk (.slice A227 n228 c229), blk (.slice A191 n192 c193), blk (.slice A146 n147 c148), blk (.slice A121 n122 c123), blk (.slice A110 n111 c112), blk (.slice A99 n100 c101), blk (.slice A86 n87 c88), blk (.slice A61 n62 c63), blk (.slice A50 n51 c52), blk (.slice A39 n40 c41)]) (L' := [blk (.slice A264 n265 c266), blk (.slice A227 n228 c229), blk (.slice A191 n192 c193), blk (.slice A146 n147 c148), blk (.slice A121 n122 c123), blk (.slice A110 n111 c112), blk (.slice A99 n100 c101), blk (.slice A86 n87 c88), blk (.slice A61 n62 c63), blk (.slice A50 n51 c52), blk (.slice A39 n40 c41)]) (O := O) hc432 g448 hk455 hk456
                          have h459 := Ow.unl (L := [blk (.slice A424 n425 c426), blk (.slice A413 n414 c415), blk (.slice A402 n403 c404), blk (.slice A264 n265 c266), blk (.slice A227 n228 c229), blk (.slice A191 n192 c193), blk (.slice A146 n147 c148), blk (.slice A121 n122 c123), blk (.slice A110 n111 c112), blk (.slice A99 n100 c101), blk (.slice A86 n87 c88), blk (.slice A61 n62 c63), blk (.slice A50 n51 c52), blk (.slice A39 n40 c41)]) (L' := [blk (.slice A264 n265 c266), blk (.slice A227 n228 c229), blk (.slice A191 n192 c193), blk (.slice A146 n147 c148), blk (.slice A121 n122 c123), blk (.slice A110 n111 c112), blk (.slice A99 n100 c101), blk (.slice A86 n87 c88), blk (.slice A61 n62 c63), blk (.slice A50 n51 c52), blk (.slice A39 n40 c41)]) (O := O) (fun _ _ _ _ _ _ h => h) (.cons _ (.cons _ (.cons _ (.cons_cons _ (.cons_cons _ (.cons_cons _ (.cons_cons _ (.cons_cons _ (.cons_cons _ (.cons_cons _ (.cons_cons _ (.cons_cons _ (.cons_cons _ (.cons_cons _ (.slnil))))))))))))))) h452
                          have hc457 := hc432.owns g448 hk458 hk456
                          refine L_pu (P_move (.tuple #[.slice A449 n450 c451, vb r31]) rfl) ?_
                          refine L_pu (P_ext [.slice A449 n450 c451, vb r31] 0 (.slice A449 n450 c451) rfl rfl) ?_
                          refine L_pu (P_ext [.slice A449 n450 c451, vb r31] 1 (vb r31) rfl rfl) ?_
                          refine L_pu (P_assign (.slice A449 n450 c451) rfl) ?_
                          refine L_pu (P_assign (vb r31) rfl) ?_
                          refine L_nil ?_
                          refine W_seq ?_
                          refine W_seq ?_
                          refine W_reg ?_
                          refine L_pu (P_move (.slice A449 n450 c451) rfl) ?_
                          refine L_pu (P_move (.slice A86 n87 c88) rfl) ?_
                          have h460 := Ow.gv (L := [blk (.slice A449 n450 c451), blk (.slice A424 n425 c426), blk (.slice A413 n414 c415), blk (.slice A402 n403 c404), blk (.slice A264 n265 c266), blk (.slice A227 n228 c229), blk (.slice A191 n192 c193), blk (.slice A146 n147 c148), blk (.slice A121 n122 c123), blk (.slice A110 n111 c112), blk (.slice A99 n100 c101), blk (.slice A86 n87 c88), blk (.slice A61 n62 c63), blk (.slice A50 n51 c52), blk (.slice A39 n40 c41)]) (O := O) h459 hc457 (i := 0) rfl
                          have hc461 := hc457.drop 0 rfl
                          have h463 := (Ow.sd (L := [blk (.slice A449 n450 c451), blk (.slice A424 n425 c426), blk (.slice A413 n414 c415), blk (.slice A402 n403 c404), blk (.slice A264 n265 c266), blk (.slice A227 n228 c229), blk (.slice A191 n192 c193), blk (.slice A146 n147 c148), blk (.slice A121 n122 c123), blk (.slice A110 n111 c112), blk (.slice A99 n100 c101), blk (.slice A86 n87 c88), blk (.slice A61 n62 c63), blk (.slice A50 n51 c52), blk (.slice A39 n40 c41)]) (O := O) ((((((Ow.sw (L := [blk (.slice A264 n265 c266), blk (.slice A227 n228 c229), blk (.slice A191 n192 c193), blk (.slice A146 n147 c148), blk (.slice A121 n122 c123), blk (.slice A110 n111 c112), blk (.slice A99 n100 c101), blk (.slice A86 n87 c88), blk (.slice A61 n62 c63), blk (.slice A50 n51 c52), blk (.slice A39 n40 c41)]) (O := O) ((Ow.sw (L := [blk (.slice A264 n265 c266), blk (.slice A227 n228 c229), blk (.slice A191 n192 c193), blk (.slice A146 n147 c148), blk (.slice A121 n122 c123), blk (.slice A110 n111 c112), blk (.slice A99 n100 c101), blk (.slice A86 n87 c88), blk (.slice A61 n62 c63), blk (.slice A50 n51 c52), blk (.slice A39 n40 c41)]) (O := O) (Ow.sw (L := [blk (.slice A264 n265 c266), blk (.slice A227 n228 c229), blk (.slice A191 n192 c193), blk (.slice A146 n147 c148), blk (.slice A121 n122 c123), blk (.slice A110 n111 c112), blk (.slice A99 n100 c101), blk (.slice A86 n87 c88), blk (.slice A61 n62 c63), blk (.slice A50 n51 c52), blk (.slice A39 n40 c41)]) (O := O) (Ow.sw (L := [blk (.slice A264 n265 c266), blk (.slice A227 n228 c229), blk (.slice A191 n192 c193), blk (.slice A146 n147 c148), blk (.slice A121 n122 c123), blk (.slice A110 n111 c112), blk (.slice A99 n100 c101), blk (.slice A86 n87 c88), blk (.slice A61 n62 c63), blk (.slice A50 n51 c52), blk (.slice A39 n40 c41)]) (O := O) (((((((((((h96.sos g98 hk106).sos g109 hk117).sos g120 hk128).sos g145 hk153).sn g166).sos g190 hk198).sn g210).sos g226 hk234).sn g246).sos g263 hk271).sn g283) hc287 (i := 7) rfl (j := 6) rfl (by decide) g302) hc306 (i := 7) rfl (j := 5) rfl (by decide) g309) hc313 (i := 7) rfl (j := 4) rfl (by decide) g316).sn g343) hc347 (i := 7) rfl (j := 3) rfl (by decide) g362).sn g371).sos g401 hk409).sos g412 hk420).sos g423 hk431).sos g448 hk456) (i := 11) rfl (j := 0) rfl (by decide))
                          have h464 := Ow.gv (L := [blk (.slice A424 n425 c426), blk (.slice A413 n414 c415), blk (.slice A402 n403 c404), blk (.slice A264 n265 c266), blk (.slice A227 n228 c229), blk (.slice A191 n192 c193), blk (.slice A146 n147 c148), blk (.slice A121 n122 c123), blk (.slice A110 n111 c112), blk (.slice A99 n100 c101), blk (.slice A86 n87 c88), blk (.slice A61 n62 c63), blk (.slice A50 n51 c52), blk (.slice A39 n40 c41)]) (O := O) h463 hc461 (i := 10) rfl
                          have hc465 := hc461.drop 10 rfl
                          have h467 := (h460.st (.dr _ (L := [blk (.slice A424 n425 c426), blk (.slice A413 n414 c415), blk (.slice A402 n403 c404), blk (.slice A264 n265 c266), blk (.slice A227 n228 c229), blk (.slice A191 n192 c193), blk (.slice A146 n147 c148), blk (.slice A121 n122 c123), blk (.slice A110 n111 c112), blk (.slice A99 n100 c101), blk (.slice A86 n87 c88), blk (.slice A61 n62 c63), blk (.slice A50 n51 c52), blk (.slice A39 n40 c41)]) (O := O) (j := 10) rfl))
                          refine L_call go26 [.slice A449 n450 c451, .slice A86 n87 c88] rfl ((laws_eqPtS.calls w447 hc465.ok r30 A449 n450 c451 h467 r7 A86 n87 c88 h464 _ H).mono ?_)
                          rintro _ w468 ⟨r32, rfl, H, g469⟩
                          have hc473 := hc457.k0 g469
                          refine L_pu (P_not r32 rfl) ?_
                          refine L_pu (P_move (vb (!r32)) rfl) ?_
                          rcases bool_or (!r32) with hq474 | hq474
                          · have H := ite_t H hq474
                            refine L_pass (dj := 129) rfl rfl (.inl (by exact congrArg Value.bool hq474)) ?_
                            refine L_pass (dj := 129) rfl rfl (.inl (by exact congrArg Value.bool hq474)) ?_
                            refine L_pass (dj := 129) rfl rfl (.inl (by exact congrArg Value.bool hq474)) ?_
                            refine L_pu (P_pick true (vb true) (by exact congrArg Value.bool hq474) rfl) ?_
                            refine L_nil ?_
                            refine W_ct (b := true) rfl rfl ?_
                            refine W_seq ?_
                            refine W_reg ?_
                            refine L_pu (P_assign (vb false) rfl) ?_
                            refine L_nil ?_
                            refine W_ret ?_
                            have hc475 := hc473.drop 0 rfl
                            have hc476 := hc475.drop 0 rfl
                            have hc477 := hc476.drop 0 rfl
                            have hc478 := hc477.drop 0 rfl
                            have hc479 := hc478.drop 0 rfl
                            have hc480 := hc479.drop 0 rfl
                            have hc481 := hc480.drop 0 rfl
                            have hc482 := hc481.drop 0 rfl
                            have hc483 := hc482.drop 0 rfl
                            have hc484 := hc483.drop 0 rfl
                            have hc485 := hc484.drop 0 rfl
                            have hc486 := hc485.drop 0 rfl
                            have hc487 := hc486.drop 0 rfl
                            have hc488 := hc487.drop 0 rfl
                            have hc489 := hc488.drop 0 rfl
                            exact ⟨[vb false], ⟨_, rfl, rfl⟩, false, rfl, H, hc489.gr⟩
                          · have H := ite_f H hq474
                            refine L_run (dj := 129) rfl rfl (by exact congrArg Value.bool hq474) ?_
                            refine L_pu (P_move (vb r31) rfl) ?_
                            refine L_run (dj := 129) rfl rfl (by exact congrArg Value.bool hq474) ?_
                            refine L_pu (P_move (vb r8) rfl) ?_
                            refine L_run (dj := 129) rfl rfl (by exact congrArg Value.bool hq474) ?_
                            refine L_pu (P_bcmp Try.underlying4 r31 r8 (r31 != r8) rfl rfl rfl) ?_
                            refine L_pu (P_pick false (vb (r31 != r8)) (by exact congrArg Value.bool hq474) rfl) ?_
                            refine L_nil ?_
                            refine W_cond (r31 != r8) rfl (fun hq490 => ?_) (fun hq490 => ?_)
                            · have H := ite_t H hq490
                              refine W_seq ?_
                              refine W_reg ?_
                              refine L_pu (P_assign (vb false) rfl) ?_
                              refine L_nil ?_
                              refine W_ret ?_
                              have hc491 := hc473.drop 0 rfl
                              have hc492 := hc491.drop 0 rfl
                              have hc493 := hc492.drop 0 rfl
                              have hc494 := hc493.drop 0 rfl
                              have hc495 := hc494.drop 0 rfl
                              have hc496 := hc495.drop 0 rfl
                              have hc497 := hc496.drop 0 rfl
                              have hc498 := hc497.drop 0 rfl
                              have hc499 := hc498.drop 0 rfl
                              have hc500 := hc499.drop 0 rfl
                              have hc501 := hc500.drop 0 rfl
                              have hc502 := hc501.drop 0 rfl
                              have hc503 := hc502.drop 0 rfl
                              have hc504 := hc503.drop 0 rfl
                              have hc505 := hc504.drop 0 rfl
                              exact ⟨[vb false], ⟨_, rfl, rfl⟩, false, rfl, H, hc505.gr⟩
                            · have H := ite_f H hq490
                              refine W_skip ?_
                              refine W_seq ?_
                              refine W_reg ?_
                              refine L_pu (P_assign (vi 1) rfl) ?_
                              refine L_nil ?_
                              refine W_seq ?_
                              refine W_reg ?_
                              refine L_pu (P_move (.slice A146 n147 c148) rfl) ?_
                              refine L_pu (P_move (vi 1) rfl) ?_
                              have h506 := ((((((hx363.sn g371).sos g401 hk409).sos g412 hk420).sos g423 hk431).sos g448 hk456).sn g469)
                              have h507 := Ow.gv (L := [blk (.slice A449 n450 c451), blk (.slice A424 n425 c426), blk (.slice A413 n414 c415), blk (.slice A402 n403 c404), blk (.slice A264 n265 c266), blk (.slice A227 n228 c229), blk (.slice A191 n192 c193), blk (.slice A146 n147 c148), blk (.slice A121 n122 c123), blk (.slice A110 n111 c112), blk (.slice A99 n100 c101), blk (.slice A86 n87 c88), blk (.slice A61 n62 c63), blk (.slice A50 n51 c52), blk (.slice A39 n40 c41)]) (O := O) h506 hc473 (i := 7) rfl
                              have hc508 := hc473.drop 7 rfl
                              refine L_call go37 [.slice A146 n147 c148, vi 1] rfl ((laws_heldPtS.calls w468 hc508.ok m4 A146 n147 c148 h507 1 _ H).mono ?_)
                              rintro _ w510 ⟨r33, rfl, H, g511⟩
                              have hc515 := hc473.k0 g511
                              refine L_pu (P_assign (vi r33) rfl) ?_
                              refine L_nil ?_
                              refine W_seq ?_
                              refine W_seq ?_
                              refine W_reg ?_
                              refine L_pu (P_move (vi r33) rfl) ?_
                              refine L_pu (P_cmp r33 0 (decide (r33 < 0)) rfl rfl rfl) ?_
                              refine L_nil ?_
                              refine W_cond (decide (r33 < 0)) rfl (fun hq516 => ?_) (fun hq516 => ?_)
                              · have H := ite_t H hq516
                                refine W_seq ?_
                                refine W_reg ?_
                                refine L_pu (P_assign (vb false) rfl) ?_
                                refine L_nil ?_
                                refine W_ret ?_
                                have hc517 := hc515.drop 0 rfl
                                have hc518 := hc517.drop 0 rfl
                                have hc519 := hc518.drop 0 rfl
                                have hc520 := hc519.drop 0 rfl
                                have hc521 := hc520.drop 0 rfl
                                have hc522 := hc521.drop 0 rfl
                                have hc523 := hc522.drop 0 rfl
                                have hc524 := hc523.drop 0 rfl
                                have hc525 := hc524.drop 0 rfl
                                have hc526 := hc525.drop 0 rfl
                                have hc527 := hc526.drop 0 rfl
                                have hc528 := hc527.drop 0 rfl
                                have hc529 := hc528.drop 0 rfl
                                have hc530 := hc529.drop 0 rfl
                                have hc531 := hc530.drop 0 rfl
                                exact ⟨[vb false], ⟨_, rfl, rfl⟩, false, rfl, H, hc531.gr⟩
                              · have H := ite_f H hq516
                                refine W_skip ?_
                                refine W_seq ?_
                                refine W_seq ?_
                                refine W_reg ?_
                                refine L_pu (P_move (vi r33) rfl) ?_
                                refine L_pu (P_move (vi r25) rfl) ?_
                                refine L_pu (P_cmp r33 r25 (r33 != r25) rfl rfl rfl) ?_
                                refine L_nil ?_
                                refine W_cond (r33 != r25) rfl (fun hq532 => ?_) (fun hq532 => ?_)
                                · have H := ite_t H hq532
                                  refine W_seq ?_
                                  refine W_reg ?_
                                  refine L_pu (P_assign (vb false) rfl) ?_
                                  refine L_nil ?_
                                  refine W_ret ?_
                                  have hc533 := hc515.drop 0 rfl
                                  have hc534 := hc533.drop 0 rfl
                                  have hc535 := hc534.drop 0 rfl
                                  have hc536 := hc535.drop 0 rfl
                                  have hc537 := hc536.drop 0 rfl
                                  have hc538 := hc537.drop 0 rfl
                                  have hc539 := hc538.drop 0 rfl
                                  have hc540 := hc539.drop 0 rfl
                                  have hc541 := hc540.drop 0 rfl
                                  have hc542 := hc541.drop 0 rfl
                                  have hc543 := hc542.drop 0 rfl
                                  have hc544 := hc543.drop 0 rfl
                                  have hc545 := hc544.drop 0 rfl
                                  have hc546 := hc545.drop 0 rfl
                                  have hc547 := hc546.drop 0 rfl
                                  exact ⟨[vb false], ⟨_, rfl, rfl⟩, false, rfl, H, hc547.gr⟩
                                · have H := ite_f H hq532
                                  refine W_skip ?_
                                  refine W_seq ?_
                                  refine W_reg ?_
                                  refine L_pu (P_assign (vb true) rfl) ?_
                                  refine L_nil ?_
                                  refine W_ret ?_
                                  have hc548 := hc515.drop 0 rfl
                                  have hc549 := hc548.drop 0 rfl
                                  have hc550 := hc549.drop 0 rfl
                                  have hc551 := hc550.drop 0 rfl
                                  have hc552 := hc551.drop 0 rfl
                                  have hc553 := hc552.drop 0 rfl
                                  have hc554 := hc553.drop 0 rfl
                                  have hc555 := hc554.drop 0 rfl
                                  have hc556 := hc555.drop 0 rfl
                                  have hc557 := hc556.drop 0 rfl
                                  have hc558 := hc557.drop 0 rfl
                                  have hc559 := hc558.drop 0 rfl
                                  have hc560 := hc559.drop 0 rfl
                                  have hc561 := hc560.drop 0 rfl
                                  have hc562 := hc561.drop 0 rfl
                                  exact ⟨[vb true], ⟨_, rfl, rfl⟩, true, rfl, H, hc562.gr⟩
end Go.Proofs.Ytnliofcjplnboaa

namespace Go.Proofs.Ytnliofcjplnboaa
set_option linter.unusedVariables false
set_option linter.unusedSimpArgs false
/-- a merge hands back the row, or nothing -/
def mrow (o a b : List Pt) : List Pt := (smerge o a b).getD []
def mok (o a b : List Pt) : Bool := (smerge o a b).isSome
theorem impl_SeqMerge.is (o a b : List Pt) (Q : List Pt → Bool → Prop) (hq : Q (mrow o a b) (mok o a b)) : impl_SeqMerge.E o a b Q :=
  impl_SeqMerge.law o a b Q (fun r h => by unfold mrow mok at hq; rw [h] at hq; exact hq) (fun h => by unfold mrow mok at hq; rw [h] at hq; exact hq)
theorem spec_SeqMerge.is (o a b : List Pt) (Q : List Pt → Bool → Prop) (hq : Q (mrow o a b) (mok o a b)) : spec_SeqMerge.E o a b Q :=
  spec_SeqMerge.law o a b Q (fun r h => by unfold mrow mok at hq; rw [h] at hq; exact hq) (fun h => by unfold mrow mok at hq; rw [h] at hq; exact hq)
theorem m_of {o a b r : List Pt} (h : smerge o a b = some r) : mrow o a b = r ∧ mok o a b = true := by unfold mrow mok; rw [h]; exact ⟨rfl, rfl⟩
theorem m_not {o a b : List Pt} (h : smerge o a b = none) : mrow o a b = [] ∧ mok o a b = false := by unfold mrow mok; rw [h]; exact ⟨rfl, rfl⟩
end Go.Proofs.Ytnliofcjplnboaa

namespace Go.Proofs.Ytnliofcjplnboaa
set_option linter.unusedVariables false
set_option linter.unusedSimpArgs false
theorem mrow_len (o a b : List Pt) : (mrow o a b).length ≤ 24 := by
  unfold mrow
  cases h : smerge o a b with
  | none => exact Nat.zero_le _
  | some r => exact smerge_len h
theorem laws_FnExactSeqMerge.law (o : List Pt) (_ : ∀ x ∈ o, vPt x) (a : List Pt) (_ : ∀ x ∈ a, vPt x) (b : List Pt) (_ : ∀ x ∈ b, vPt x) : laws_FnExactSeqMerge.E o a b (fun r => r = true) := by
  unfold laws_FnExactSeqMerge.E
  refine laws_szPtS.law o _ _ (by decide) (by decide) (fun _ => rfl) (fun h0 => ?_)
  rw [if_neg (by rw [decide_eq_false (by omega)]; exact Bool.false_ne_true)]
  refine laws_szPtS.law a _ _ (by omega) (by omega) (fun _ => rfl) (fun h1 => ?_)
  rw [if_neg (by rw [decide_eq_false (by omega)]; exact Bool.false_ne_true)]
  refine laws_szPtS.law b _ _ (by omega) (by omega) (fun _ => rfl) (fun h2 => ?_)
  rw [if_neg (by rw [decide_eq_false (by omega)]; exact Bool.false_ne_true)]
  have lo := bulk_len o; have la := bulk_len a; have lb := bulk_len b
  have hl := mrow_len o a b
  refine laws_toPtS.law o _ (by omega) (laws_toPtS.law a _ (by omega) (laws_toPtS.law b _ (by omega) (spec_SeqMerge.is _ _ _ _ ?_)))
  refine laws_toPtS.law o _ (by omega) (laws_toPtS.law a _ (by omega) (laws_toPtS.law b _ (by omega) (impl_SeqMerge.is _ _ _ _ (laws_eqPtS.law _ _ _ ?_))))
  rw [decide_eq_true rfl, if_neg (by decide), if_neg (by simp)]
  refine laws_toPtS.law o _ (by omega) (laws_eqPtS.law _ _ _ ?_)
  rw [decide_eq_true rfl, if_neg (by decide)]
  refine laws_toPtS.law a _ (by omega) (laws_eqPtS.law _ _ _ ?_)
  rw [decide_eq_true rfl, if_neg (by decide)]
  refine laws_toPtS.law b _ (by omega) (laws_eqPtS.law _ _ _ ?_)
  rw [decide_eq_true rfl, if_neg (by decide)]
  refine laws_markPtS.law o _ _ (by omega) (by omega) (by omega) (laws_markPtS.law a _ _ (by omega) (by omega) (by omega) (laws_markPtS.law b _ _ (by omega) (by omega) (by omega) ?_))
  rw [if_neg (by rw [decide_eq_true_eq]; omega)]
  refine laws_eqPtS.law _ _ _ ?_
  rw [decide_eq_true rfl, if_neg (by decide)]
  refine laws_markPtS.law _ _ _ (by omega) (by omega) (by omega) (laws_heldPtS.law _ _ _ (by omega) (by omega) (by omega) ?_)
  rw [if_neg (by rw [decide_eq_true_eq]; omega), if_neg (by simp)]
  refine laws_toPtS.law o _ (by omega) (laws_toPtS.law a _ (by omega) (laws_toPtS.law b _ (by omega) (impl_SeqMerge.is _ _ _ _ (laws_eqPtS.law _ _ _ ?_))))
  rw [decide_eq_true rfl, if_neg (by decide), if_neg (by simp)]
  refine laws_heldPtS.law _ _ _ (by omega) (by omega) (by omega) ?_
  rw [if_neg (by rw [decide_eq_true_eq]; omega), if_neg (by simp)]
end Go.Proofs.Ytnliofcjplnboaa

namespace Go.Proofs.Ytnliofcjplnboaa.rFnExactSeqMerge
open Go.ChangeShapes Go.WideShapes Go.ChangeAt Go.RowKit
open Go.ChangeMaps (open_string shut_string)
set_option linter.unusedVariables false
theorem own : ownKnob Try.prog.godebug = none := by kernel_rfl
theorem laidOut : laidOutB Try.prog = true := by kernel_rfl
set_option maxRecDepth 100000 in
theorem lifted (os : Os) (started : os.Started) (H : Type) (enc : TypeId × Value → H) :
    ReturnsInHanded {} Try.checked os 10 .any (Rows.fnExactSeqMergeSpec.pre6 enc Try.prog Try.f10 Rows.fnExactSeqMergeRow.domain false) (Rows.fnExactSeqMergeSpec.post enc Try.prog Try.f10 false true false false) := by
  refine returnsInHanded_of_change_sized (C := Try.checked) own started (by kernel_rfl) Try.func10
    (ChangeSpec.witness6 (enc := enc) (C := Try.checked) false ⟨#[], #[.slice none 0 0, .slice none 0 0, .slice none 0 0], []⟩ 8 (by kernel_rfl) (by kernel_rfl) (by kernel_rfl) (by kernel_rfl)) ?_
  intro W base args ds gs before hval0 hW hcnd hsz0 _
  have hval : ∀ (j : Nat) t v, Try.f10.params[j]? = some t → args[j]? = some v → Value.okWide Try.prog W .any base t v := hval0
  have hW' := hW
  obtain ⟨p, q, hA0, hV, rfl, hfz, hnd⟩ := hW
  have hA : DataW.TrodAll enc Try.prog W 0 (fun _ => true) true Try.f10.params.toList args.toList ds p := hA0
  rw [Try.params10] at hA hval
  obtain ⟨v0, vs0, d0, ds0, p0, q0, hargs, rfl, rfl, h0, r0⟩ := trodAll_cons hA
  obtain ⟨v1, vs1, d1, ds1, p1, q1, rfl, rfl, rfl, h1, r1⟩ := trodAll_cons r0
  obtain ⟨v2, vs2, d2, ds2, p2, q2, rfl, rfl, rfl, h2, r2⟩ := trodAll_cons r1
  obtain ⟨rfl, rfl, rfl⟩ := trodAll_nil r2
  obtain rfl : args = #[v0, v1, v2] := by cases args; simp_all
  obtain ⟨rfl, rfl⟩ := trodVars_none hV
  have k0 := h0
  have lt0 : ∀ x ∈ p0, x.block < W.heap.size := by obtain ⟨m, hm⟩ := k0; exact DataW.trod_lt m _ _ _ hm
  obtain ⟨x0, hv0, hx0⟩ : ∃ a : List Pt, (∀ y0 ∈ a, vPt y0) ∧ (Kd.sl kPt).R W (Fr []) a v0.cells.toList := by obtain ⟨fuel, hf⟩ := h0; exact (Tr.sl Try.underlying30 (by kernel_rfl) tr64) H enc W fuel _ _ hf
  obtain ⟨a0, n0, c0, rfl⟩ := okWide_slice Try.underlying30 (hval 0 30 v0 rfl rfl)
  have s0 : Sl kPt W (Fr []) (.slice a0 n0 c0) x0 := by obtain ⟨_, e, h⟩ := hx0; simp [Value.cells] at e; subst e; exact h
  have k1 := h1
  have lt1 : ∀ x ∈ p1, x.block < W.heap.size := by obtain ⟨m, hm⟩ := k1; exact DataW.trod_lt m _ _ _ hm
  obtain ⟨x1, hv1, hx1⟩ : ∃ a : List Pt, (∀ y0 ∈ a, vPt y0) ∧ (Kd.sl kPt).R W (Fr []) a v1.cells.toList := by obtain ⟨fuel, hf⟩ := h1; exact (Tr.sl Try.underlying30 (by kernel_rfl) tr64) H enc W fuel _ _ hf
  obtain ⟨a1, n1, c1, rfl⟩ := okWide_slice Try.underlying30 (hval 1 30 v1 rfl rfl)
  have s1 : Sl kPt W (Fr []) (.slice a1 n1 c1) x1 := by obtain ⟨_, e, h⟩ := hx1; simp [Value.cells] at e; subst e; exact h
  have k2 := h2
  have lt2 : ∀ x ∈ p2, x.block < W.heap.size := by obtain ⟨m, hm⟩ := k2; exact DataW.trod_lt m _ _ _ hm
  obtain ⟨x2, hv2, hx2⟩ : ∃ a : List Pt, (∀ y0 ∈ a, vPt y0) ∧ (Kd.sl kPt).R W (Fr []) a v2.cells.toList := by obtain ⟨fuel, hf⟩ := h2; exact (Tr.sl Try.underlying30 (by kernel_rfl) tr64) H enc W fuel _ _ hf
  obtain ⟨a2, n2, c2, rfl⟩ := okWide_slice Try.underlying30 (hval 2 30 v2 rfl rfl)
  have s2 : Sl kPt W (Fr []) (.slice a2 n2 c2) x2 := by obtain ⟨_, e, h⟩ := hx2; simp [Value.cells] at e; subst e; exact h
  clear hA0 hval0 hsz0
  refine Calls.mono (laws_FnExactSeqMerge.calls W (Ok.nil W) x0 a0 n0 c0 s0 x1 a1 n1 c1 s1 x2 a2 n2 c2 s2 (fun r => r = true) (laws_FnExactSeqMerge.law x0 hv0 x1 hv1 x2 hv2)) fun e W' ⟨v, he, r, hr, hq, hg⟩ => ?_
  subst he; subst hr; subst hq
  have bel := Gr.below hg
  exact ⟨_, rfl, _, _, _, [], _, [], hW', trodAll_mk1 (shut_bool Try.underlying4 _), (trodAll_cons_mk (Below.trod laidOut (by kernel_rfl) (of_decide_eq_true (by kernel_rfl)) k0 bel lt0) (trodAll_cons_mk (Below.trod laidOut (by kernel_rfl) (of_decide_eq_true (by kernel_rfl)) k1 bel lt1) (trodAll_cons_mk (Below.trod laidOut (by kernel_rfl) (of_decide_eq_true (by kernel_rfl)) k2 bel lt2) trodAll_mk0))), rfl, bel.frame _, fun h => by cases h⟩
theorem over : Rows.fnExactSeqMergeRow.holds Try.pinned (OpenSpec.ofChange Rows.fnExactSeqMergeSpec) :=
  OpenClaim.holds_of_wide 10 Try.f10 rfl rfl rfl rfl rfl rfl rfl ⟨rfl, rfl, rfl, rfl, rfl⟩ rfl rfl rfl rfl rfl (by kernel_rfl) Try.func10 (by kernel_rfl)
    (of_decide_eq_true (by kernel_rfl)) (by unfold Func.isWrapper; first | (rw [if_pos (by decide +kernel)]; kernel_rfl) | (rw [if_neg (by decide +kernel)]; exact ⟨rfl, rfl⟩))
    (fun os started H enc _ => lifted os started H enc)
theorem proved : Rows.FnExactSeqMergeSaid := over
#print axioms proved
end Go.Proofs.Ytnliofcjplnboaa.rFnExactSeqMerge
namespace Go.Proofs.Ytnliofcjplnboaa
theorem fnExactSeqMerge_holds : Rows.FnExactSeqMergeSaid := rFnExactSeqMerge.proved
end Go.Proofs.Ytnliofcjplnboaa
