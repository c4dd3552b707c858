/- It is proved here that the law FnExactDiffThen of the given program holds whatever it is handed: the walks through the code, the plain laws and the row, in this order.
   Conditions: none. -/
import Derived.Below
import Derived.ChangeArms
import Derived.ChangeOld
import Derived.ChangeSlices
import Derived.DataReads
import Derived.Deep.Quiet
import Derived.KernelRfl
import Derived.Laws.Build
import Derived.Laws.IdiomStrings
import Derived.Laws.OwnMore
import Derived.Laws.Slices
import Derived.Laws.StructEq
import Derived.OpenShut
import Derived.ProofKit
import Derived.Shelf.Slices.Cells
import Derived.Shelf.Slices.CompactS
import Derived.Shelf.Slices.In.SortNone
import Derived.Shelf.Small.Bits
import Derived.Shelf.Sort.Plain
import Derived.Shelf.Strconv.Itoa0
import Derived.ShutString
import Derived.SizedLaws
import Derived.StillTail
import Derived.Test.YtndjggncgpjolaaProg
import Derived.Test.YtndjggncgpjolaaRows
import Derived.WalkKit
import Derived.Test.YtndjggncgpjolaaCExactDiffThena
import Derived.Test.YtndjggncgpjolaaCExactDiffThenb
import Derived.Test.YtndjggncgpjolaaCExactDiffThenc
import Derived.Test.YtndjggncgpjolaaCExactDiffThend
import Derived.Test.YtndjggncgpjolaaCExactDiffThene
import Derived.Test.YtndjggncgpjolaaCExactDiffThenf
namespace Go.Proofs.Ytndjggncgpjolaa
open Go.RowKit
set_option linter.unusedVariables false
set_option linter.unusedSimpArgs false
def laws_markChangeS.E (a : List Change) (k : Int) (Q : Int → List Change → Prop) : Prop :=
 (∃ (I32 : (List Change) → Int → Int → Prop) (mu33 : (List Change) → Int → Int → Nat), I32 a k 0 ∧ ∀ (xs2 : List Change) (k3 : Int) (i2 : Int), I32 xs2 k3 i2 → (if decide (i2 < (xs2.length : Int)) then laws_markText.E k3 (fun r => ((0 : Int) ≤ i2 ∧ i2 < (xs2.length : Int)) ∧ (∀ xs3 : List Change, xs3 = (xs2.set i2.toNat (⟨r, (nth xs2 i2).Had, (nth xs2 i2).Was, (nth xs2 i2).Has, (nth xs2 i2).Now⟩ : Change)) → ((xs2.length : Int) ≤ 9223372036854775807 → I64 (k3 + 1)) ∧ ((0 : Int) ≤ k3 + 1 ∧ (0 : Int) < 3) ∧ ((0 : Int) ≤ i2 ∧ i2 < (xs3.length : Int)) ∧ (∀ xs4 : List Change, xs4 = (xs3.set i2.toNat (⟨(nth xs3 i2).Id, ((k3 + 1) % 3) == 0, (nth xs3 i2).Was, (nth xs3 i2).Has, (nth xs3 i2).Now⟩ : Change)) → ((xs2.length : Int) ≤ 9223372036854775807 → I64 (k3 + 1 + 1)) ∧ laws_markText.E (k3 + 1 + 1) (fun r2 => ((0 : Int) ≤ i2 ∧ i2 < (xs4.length : Int)) ∧ (∀ xs5 : List Change, xs5 = (xs4.set i2.toNat (⟨(nth xs4 i2).Id, (nth xs4 i2).Had, (⟨r2, (nth xs4 i2).Was.Shape, (nth xs4 i2).Was.Tags⟩ : Feat), (nth xs4 i2).Has, (nth xs4 i2).Now⟩ : Change)) → ((xs2.length : Int) ≤ 9223372036854775807 → I64 (k3 + 1 + 1 + 1)) ∧ ((0 : Int) ≤ i2 ∧ i2 < (xs5.length : Int)) ∧ (∀ xs6 : List Change, xs6 = (xs5.set i2.toNat (⟨(nth xs5 i2).Id, (nth xs5 i2).Had, (⟨(nth xs5 i2).Was.Id, (⟨k3 + 1 + 1 + 1, (nth xs5 i2).Was.Shape.Pts⟩ : Shape), (nth xs5 i2).Was.Tags⟩ : Feat), (nth xs5 i2).Has, (nth xs5 i2).Now⟩ : Change)) → ((xs2.length : Int) ≤ 9223372036854775807 → I64 (k3 + 1 + 1 + 1 + 1)) ∧ ((0 : Int) ≤ i2 ∧ i2 < (xs6.length : Int)) ∧ laws_markPtS.E ((nth xs6 i2).Was.Shape.Pts) (k3 + 1 + 1 + 1 + 1) (fun r3 m => (∀ xs7 : List Change, xs7 = (xs6.set i2.toNat (⟨(nth xs6 i2).Id, (nth xs6 i2).Had, (⟨(nth xs6 i2).Was.Id, (⟨(nth xs6 i2).Was.Shape.Kind, m⟩ : Shape), (nth xs6 i2).Was.Tags⟩ : Feat), (nth xs6 i2).Has, (nth xs6 i2).Now⟩ : Change)) → ((0 : Int) ≤ i2 ∧ i2 < (xs7.length : Int)) ∧ laws_markTagS.E ((nth xs7 i2).Was.Tags) r3 (fun r4 m2 => (∀ xs8 : List Change, xs8 = (xs7.set i2.toNat (⟨(nth xs7 i2).Id, (nth xs7 i2).Had, (⟨(nth xs7 i2).Was.Id, (nth xs7 i2).Was.Shape, m2⟩ : Feat), (nth xs7 i2).Has, (nth xs7 i2).Now⟩ : Change)) → ((0 : Int) ≤ r4 ∧ (0 : Int) < 3) ∧ ((0 : Int) ≤ i2 ∧ i2 < (xs8.length : Int)) ∧ (∀ xs9 : List Change, xs9 = (xs8.set i2.toNat (⟨(nth xs8 i2).Id, (nth xs8 i2).Had, (nth xs8 i2).Was, (r4 % 3) == 0, (nth xs8 i2).Now⟩ : Change)) → ((xs2.length : Int) ≤ 9223372036854775807 → I64 (r4 + 1)) ∧ laws_markText.E (r4 + 1) (fun r5 => ((0 : Int) ≤ i2 ∧ i2 < (xs9.length : Int)) ∧ (∀ xs10 : List Change, xs10 = (xs9.set i2.toNat (⟨(nth xs9 i2).Id, (nth xs9 i2).Had, (nth xs9 i2).Was, (nth xs9 i2).Has, (⟨r5, (nth xs9 i2).Now.Shape, (nth xs9 i2).Now.Tags⟩ : Feat)⟩ : Change)) → ((xs2.length : Int) ≤ 9223372036854775807 → I64 (r4 + 1 + 1)) ∧ ((0 : Int) ≤ i2 ∧ i2 < (xs10.length : Int)) ∧ (∀ xs11 : List Change, xs11 = (xs10.set i2.toNat (⟨(nth xs10 i2).Id, (nth xs10 i2).Had, (nth xs10 i2).Was, (nth xs10 i2).Has, (⟨(nth xs10 i2).Now.Id, (⟨r4 + 1 + 1, (nth xs10 i2).Now.Shape.Pts⟩ : Shape), (nth xs10 i2).Now.Tags⟩ : Feat)⟩ : Change)) → ((xs2.length : Int) ≤ 9223372036854775807 → I64 (r4 + 1 + 1 + 1)) ∧ ((0 : Int) ≤ i2 ∧ i2 < (xs11.length : Int)) ∧ laws_markPtS.E ((nth xs11 i2).Now.Shape.Pts) (r4 + 1 + 1 + 1) (fun r6 m3 => (∀ xs12 : List Change, xs12 = (xs11.set i2.toNat (⟨(nth xs11 i2).Id, (nth xs11 i2).Had, (nth xs11 i2).Was, (nth xs11 i2).Has, (⟨(nth xs11 i2).Now.Id, (⟨(nth xs11 i2).Now.Shape.Kind, m3⟩ : Shape), (nth xs11 i2).Now.Tags⟩ : Feat)⟩ : Change)) → ((0 : Int) ≤ i2 ∧ i2 < (xs12.length : Int)) ∧ laws_markTagS.E ((nth xs12 i2).Now.Tags) r6 (fun r7 m4 => (∀ xs13 : List Change, xs13 = (xs12.set i2.toNat (⟨(nth xs12 i2).Id, (nth xs12 i2).Had, (nth xs12 i2).Was, (nth xs12 i2).Has, (⟨(nth xs12 i2).Now.Id, (nth xs12 i2).Now.Shape, m4⟩ : Feat)⟩ : Change)) → (-9223372036854775808 ≤ i2) ∧ I32 xs13 r7 (i2 + 1) ∧ mu33 xs13 r7 (i2 + 1) < mu33 xs2 k3 i2)))))))))))))))))) else Q k3 xs2))
set_option maxHeartbeats 8000000 in
set_option maxRecDepth 100000 in
theorem laws_markChangeS.calls {O : Ob} (w0 : World) (hO : Ok w0 O) (a : List Change) (A1 : Option Addr) (n2 c3 : Nat) (ra6 : List (List Value)) (q7 : Ob) (hp5 : Ow (Kd.cells 11) 103 w0 O (.slice A1 n2 c3) ra6) (hd8 : DArr dChange_103 w0 q7 a ra6) (hdj : Dj (blk (.slice A1 n2 c3) :: (q7 ++ []))) (hmm : ∀ b, some b ∈ ((blk (.slice A1 n2 c3) :: (q7 ++ [])) : Ob) → some b ∈ O) (k : Int) (Q : Int → List Change → Prop) (h : laws_markChangeS.E a k Q) :
  Ret Try.prog 23 [.slice A1 n2 c3, vi k] w0 (fun v w' => ∃ (r0 : Int) (m0 : List Change) (mra0 : List (List Value)), v = vi r0 ∧ Q r0 m0 ∧ Gm w0 w' (blk (.slice A1 n2 c3) :: (q7 ++ [])) ∧ Ow (Kd.cells 11) 103 w' O (.slice A1 n2 c3) mra0 ∧ DArr dChange_103 w' q7 m0 mra0) := by
 have H : (∃ (I32 : (List Change) → Int → Int → Prop) (mu33 : (List Change) → Int → Int → Nat), I32 a k 0 ∧ ∀ (xs2 : List Change) (k3 : Int) (i2 : Int), I32 xs2 k3 i2 → (if decide (i2 < (xs2.length : Int)) then laws_markText.E k3 (fun r => ((0 : Int) ≤ i2 ∧ i2 < (xs2.length : Int)) ∧ (∀ xs3 : List Change, xs3 = (xs2.set i2.toNat (⟨r, (nth xs2 i2).Had, (nth xs2 i2).Was, (nth xs2 i2).Has, (nth xs2 i2).Now⟩ : Change)) → ((xs2.length : Int) ≤ 9223372036854775807 → I64 (k3 + 1)) ∧ ((0 : Int) ≤ k3 + 1 ∧ (0 : Int) < 3) ∧ ((0 : Int) ≤ i2 ∧ i2 < (xs3.length : Int)) ∧ (∀ xs4 : List Change, xs4 = (xs3.set i2.toNat (⟨(nth xs3 i2).Id, ((k3 + 1) % 3) == 0, (nth xs3 i2).Was, (nth xs3 i2).Has, (nth xs3 i2).Now⟩ : Change)) → ((xs2.length : Int) ≤ 9223372036854775807 → I64 (k3 + 1 + 1)) ∧ laws_markText.E (k3 + 1 + 1) (fun r2 => ((0 : Int) ≤ i2 ∧ i2 < (xs4.length : Int)) ∧ (∀ xs5 : List Change, xs5 = (xs4.set i2.toNat (⟨(nth xs4 i2).Id, (nth xs4 i2).Had, (⟨r2, (nth xs4 i2).Was.Shape, (nth xs4 i2).Was.Tags⟩ : Feat), (nth xs4 i2).Has, (nth xs4 i2).Now⟩ : Change)) → ((xs2.length : Int) ≤ 9223372036854775807 → I64 (k3 + 1 + 1 + 1)) ∧ ((0 : Int) ≤ i2 ∧ i2 < (xs5.length : Int)) ∧ (∀ xs6 : List Change, xs6 = (xs5.set i2.toNat (⟨(nth xs5 i2).Id, (nth xs5 i2).Had, (⟨(nth xs5 i2).Was.Id, (⟨k3 + 1 + 1 + 1, (nth xs5 i2).Was.Shape.Pts⟩ : Shape), (nth xs5 i2).Was.Tags⟩ : Feat), (nth xs5 i2).Has, (nth xs5 i2).Now⟩ : Change)) → ((xs2.length : Int) ≤ 9223372036854775807 → I64 (k3 + 1 + 1 + 1 + 1)) ∧ ((0 : Int) ≤ i2 ∧ i2 < (xs6.length : Int)) ∧ laws_markPtS.E ((nth xs6 i2).Was.Shape.Pts) (k3 + 1 + 1 + 1 + 1) (fun r3 m => (∀ xs7 : List Change, xs7 = (xs6.set i2.toNat (⟨(nth xs6 i2).Id, (nth xs6 i2).Had, (⟨(nth xs6 i2).Was.Id, (⟨(nth xs6 i2).Was.Shape.Kind, m⟩ : Shape), (nth xs6 i2).Was.Tags⟩ : Feat), (nth xs6 i2).Has, (nth xs6 i2).Now⟩ : Change)) → ((0 : Int) ≤ i2 ∧ i2 < (xs7.length : Int)) ∧ laws_markTagS.E ((nth xs7 i2).Was.Tags) r3 (fun r4 m2 => (∀ xs8 : List Change, xs8 = (xs7.set i2.toNat (⟨(nth xs7 i2).Id, (nth xs7 i2).Had, (⟨(nth xs7 i2).Was.Id, (nth xs7 i2).Was.Shape, m2⟩ : Feat), (nth xs7 i2).Has, (nth xs7 i2).Now⟩ : Change)) → ((0 : Int) ≤ r4 ∧ (0 : Int) < 3) ∧ ((0 : Int) ≤ i2 ∧ i2 < (xs8.length : Int)) ∧ (∀ xs9 : List Change, xs9 = (xs8.set i2.toNat (⟨(nth xs8 i2).Id, (nth xs8 i2).Had, (nth xs8 i2).Was, (r4 % 3) == 0, (nth xs8 i2).Now⟩ : Change)) → ((xs2.length : Int) ≤ 9223372036854775807 → I64 (r4 + 1)) ∧ laws_markText.E (r4 + 1) (fun r5 => ((0 : Int) ≤ i2 ∧ i2 < (xs9.length : Int)) ∧ (∀ xs10 : List Change, xs10 = (xs9.set i2.toNat (⟨(nth xs9 i2).Id, (nth xs9 i2).Had, (nth xs9 i2).Was, (nth xs9 i2).Has, (⟨r5, (nth xs9 i2).Now.Shape, (nth xs9 i2).Now.Tags⟩ : Feat)⟩ : Change)) → ((xs2.length : Int) ≤ 9223372036854775807 → I64 (r4 + 1 + 1)) ∧ ((0 : Int) ≤ i2 ∧ i2 < (xs10.length : Int)) ∧ (∀ xs11 : List Change, xs11 = (xs10.set i2.toNat (⟨(nth xs10 i2).Id, (nth xs10 i2).Had, (nth xs10 i2).Was, (nth xs10 i2).Has, (⟨(nth xs10 i2).Now.Id, (⟨r4 + 1 + 1, (nth xs10 i2).Now.Shape.Pts⟩ : Shape), (nth xs10 i2).Now.Tags⟩ : Feat)⟩ : Change)) → ((xs2.length : Int) ≤ 9223372036854775807 → I64 (r4 + 1 + 1 + 1)) ∧ ((0 : Int) ≤ i2 ∧ i2 < (xs11.length : Int)) ∧ laws_markPtS.E ((nth xs11 i2).Now.Shape.Pts) (r4 + 1 + 1 + 1) (fun r6 m3 => (∀ xs12 : List Change, xs12 = (xs11.set i2.toNat (⟨(nth xs11 i2).Id, (nth xs11 i2).Had, (nth xs11 i2).Was, (nth xs11 i2).Has, (⟨(nth xs11 i2).Now.Id, (⟨(nth xs11 i2).Now.Shape.Kind, m3⟩ : Shape), (nth xs11 i2).Now.Tags⟩ : Feat)⟩ : Change)) → ((0 : Int) ≤ i2 ∧ i2 < (xs12.length : Int)) ∧ laws_markTagS.E ((nth xs12 i2).Now.Tags) r6 (fun r7 m4 => (∀ xs13 : List Change, xs13 = (xs12.set i2.toNat (⟨(nth xs12 i2).Id, (nth xs12 i2).Had, (nth xs12 i2).Was, (nth xs12 i2).Has, (⟨(nth xs12 i2).Now.Id, (nth xs12 i2).Now.Shape, m4⟩ : Feat)⟩ : Change)) → (-9223372036854775808 ≤ i2) ∧ I32 xs13 r7 (i2 + 1) ∧ mu33 xs13 r7 (i2 + 1) < mu33 xs2 k3 i2)))))))))))))))))) else Q k3 xs2)) := h
 clear h
 have hc0 := Ct.initm hO hmm
 refine Ret_enter Try.func23 rfl 109 rfl [.tmp 4] rfl rfl ?_
 refine W_seq ?_
 refine W_reg ?_
 refine L_pu (P_assign (vi 0) rfl) ?_
 refine L_nil ?_
 refine W_seq ?_
 refine W_seq ?_
 refine W_reg ?_
 refine L_pu (P_assign (vi 0) rfl) ?_
 refine L_nil ?_
 refine W_block ?_
 obtain ⟨I32, mu33, hI34, H⟩ := H
 refine W_loop (α := (List Change) × (List (List Value)) × Int × Int) (fun (sv__ : (List Change) × (List (List Value)) × Int × Int) t w23 => match sv__ with | (xs2, ra28, k3, i2) => I32 xs2 k3 i2 ∧ Has t [(0, .slice A1 n2 c3), (1, vi k3), (5, vi i2)] ∧ Ct (blk (.slice A1 n2 c3) :: (q7 ++ [])) w0 w23 [] O ∧ Ow (Kd.cells 11) 103 w23 O (.slice A1 n2 c3) ra28 ∧ DArr dChange_103 w23 q7 xs2 ra28) (fun (sv__ : (List Change) × (List (List Value)) × Int × Int) => match sv__ with | (xs2, _, k3, i2) => mu33 xs2 k3 i2) (a, ra6, k, 0) ⟨hI34, ⟨rfl, rfl, rfl, trivial⟩, hc0, hp5, hd8⟩ ?_
 rintro ⟨xs2, ra28, k3, i2⟩ _ w23 ⟨hI34, hh36, hc29, h30, hd31⟩
 obtain ⟨u37, rfl⟩ := Has.ins hh36
 have H := H xs2 k3 i2 hI34
 refine W_seq ?_
 refine W_seq ?_
 refine W_reg ?_
 refine L_pu (P_move (vi i2) rfl) ?_
 refine L_pu (P_move (.slice A1 n2 c3) rfl) ?_
 have hl38 := (Dp.le h30 hd31)
 refine L_pu (P_len Try.underlying43 A1 n2 c3 (Dp.len h30 hd31) rfl) ?_
 refine L_pu (P_cmp i2 (xs2.length : Int) (decide (i2 < (xs2.length : Int))) rfl rfl rfl) ?_
 refine L_nil ?_
 refine W_cond (decide (i2 < (xs2.length : Int))) rfl (fun hq39 => ?_) (fun hq39 => ?_)
 ·have H := ite_t H hq39
  refine W_skip ?_
  refine W_seq ?_
  refine W_block ?_
  refine W_seq ?_
  refine W_reg ?_
  refine L_pu (P_move (.slice A1 n2 c3) rfl) ?_
  refine L_pu (P_move (vi i2) rfl) ?_
  refine L_pu (P_move (vi k3) rfl) ?_
  refine L_call go67 [vi k3] rfl ((laws_markText.calls w23 hc29.ok k3 _ H).mono ?_)
  rintro _ w40 ⟨r, rfl, H, g41, hs42⟩
  have hc46 := hc29.k0 g41
  obtain ⟨hb47, H⟩ := H
  have h54 := (h30.sn g41)
  have hd55 := (hd31.k0 g41)
  have hn56 : (0 : Int) ≤ i2 ∧ i2 < (ra28.length : Int) := by rw [hd55.len]; exact hb47
  obtain ⟨ad48, cs49, hA50, hR51, hcl52⟩ := h54.get default (by decide) i2 hn56
  obtain rfl := Kd.cells.op hR51
  refine L_pu (P_ia Try.underlying43 se43 A1 ad48 n2 c3 (Dp.len h54 hd55) i2 rfl hA50 rfl hb47) ?_
  refine L_pu (P_fa fa103_0 (ad48.add (i2.toNat * 11)) ((ad48.add (i2.toNat * 11)).add 0) rfl rfl) ?_
  obtain ⟨q57, hq58, hq59, hD60, hU61⟩ := DArr.at_ (Int.toNat i2) default hd55 (by have := hb47; omega)
  obtain ⟨q62, pr63, cc64, po65, hq66, hq67, hq68, hq69, hF70, hV71⟩ := foc103_0 _ _ _ _ hD60
  have hy72 : ((Dd.flat (k := Kd.str) str_flat)).D w40 q62 r [vs r] := ⟨hF70.1, ⟨rfl, hs42⟩⟩
  have hy73 := hV71 _ _ _ (hq59 (Dj.left hdj.2)) (fun _ _ _ => rfl) hy72
  have hl77 : cc64.length = [vs r].length := (((Dd.flat (k := Kd.str) str_flat)).toR (S := fun _ => True) hF70 fun _ _ => trivial) |> Kd.len _
  refine L_ste1 (kd := Kd.cells 11) A1 n2 c3 ra28 h54 i2 hn56 ad48 hA50 0 rfl [vs r] rfl sz9 rfl (pr63 ++ [vs r] ++ po65) _ (pr63 ++ [vs r] ++ po65) hcl52 (Kd.len _ hR51) (foc_put hq68 hq69 hl77) (Dd.raw _ hy73) fun w74 g75 h76 => ?_
  have hc78 := hc46.wmm (memi (L := (blk (.slice A1 n2 c3) :: (q7 ++ []))) 0 rfl) g75
  have hg80 : ∀ b, some b ∈ (q7 : Ob) → w74.heap[b]? = _ := fun b hb => g75.block b (hd55.lt b hb) (fun e => (hdj).1 b e.symm (List.mem_append_left _ hb))
  have hd79 := hU61 w74 _ _ (Dj.left hdj.2) (fun b hb _ => hg80 b hb) (hV71 _ _ _ (hq59 (Dj.left hdj.2)) (fun b hb _ => hg80 b (hq58 b hb)) hy72)
  obtain ⟨xs3, he81⟩ : ∃ y__ : List Change, y__ = (xs2.set i2.toNat (⟨r, (nth xs2 i2).Had, (nth xs2 i2).Was, (nth xs2 i2).Has, (nth xs2 i2).Now⟩ : Change)) := ⟨_, rfl⟩
  have H := H xs3 he81
  rw [← he81] at hd79
  refine L_nil ?_
  refine W_seq ?_
  refine W_reg ?_
  refine L_pu (P_move (vi k3) rfl) ?_
  obtain ⟨hb82, H⟩ := H
  have hi83 := hb82 (len_le hl38)
  refine L_pu (P_add k3 1 rfl rfl hi83) ?_
  refine L_pu (P_assign (vi (k3 + 1)) rfl) ?_
  refine L_nil ?_
  refine W_seq ?_
  refine W_reg ?_
  refine L_pu (P_move (.slice A1 n2 c3) rfl) ?_
  refine L_pu (P_move (vi i2) rfl) ?_
  refine L_pu (P_move (vi (k3 + 1)) rfl) ?_
  obtain ⟨hb84, H⟩ := H
  refine L_pu (P_rem (k3 + 1) 3 rfl rfl hb84) ?_
  refine L_pu (P_cmp ((k3 + 1) % 3) 0 (((k3 + 1) % 3) == 0) rfl rfl rfl) ?_
  obtain ⟨hb85, H⟩ := H
  have hn92 : (0 : Int) ≤ i2 ∧ i2 < ((ra28.set i2.toNat (pr63 ++ [vs r] ++ po65)).length : Int) := by rw [hd79.len]; exact hb85
  obtain ⟨ad86, cs87, hA88, hR89, hcl90⟩ := h76.get default (by decide) i2 hn92
  obtain rfl := Kd.cells.op hR89
  refine L_pu (P_ia Try.underlying43 se43 A1 ad86 n2 c3 (Dp.len h76 hd79) i2 rfl hA88 rfl hb85) ?_
  refine L_pu (P_fa fa103_1 (ad86.add (i2.toNat * 11)) ((ad86.add (i2.toNat * 11)).add 1) rfl rfl) ?_
  obtain ⟨q93, hq94, hq95, hD96, hU97⟩ := DArr.at_ (Int.toNat i2) default hd79 (by have := hb85; omega)
  obtain ⟨q98, pr99, cc100, po101, hq102, hq103, hq104, hq105, hF106, hV107⟩ := foc103_1 _ _ _ _ hD96
  have hy108 : ((Dd.flat (k := Kd.bool) bool_flat)).D w74 q98 (((k3 + 1) % 3) == 0) [vb (((k3 + 1) % 3) == 0)] := ⟨hF106.1, rfl⟩
  have hy109 := hV107 _ _ _ (hq95 (Dj.left hdj.2)) (fun _ _ _ => rfl) hy108
  have hl113 : cc100.length = [vb (((k3 + 1) % 3) == 0)].length := (((Dd.flat (k := Kd.bool) bool_flat)).toR (S := fun _ => True) hF106 fun _ _ => trivial) |> Kd.len _
  refine L_ste1 (kd := Kd.cells 11) A1 n2 c3 (ra28.set i2.toNat (pr63 ++ [vs r] ++ po65)) h76 i2 hn92 ad86 hA88 1 rfl [vb (((k3 + 1) % 3) == 0)] rfl sz4 rfl (pr99 ++ [vb (((k3 + 1) % 3) == 0)] ++ po101) _ (pr99 ++ [vb (((k3 + 1) % 3) == 0)] ++ po101) hcl90 (Kd.len _ hR89) (foc_put hq104 hq105 hl113) (Dd.raw _ hy109) fun w110 g111 h112 => ?_
  have hc114 := hc78.wmm (memi (L := (blk (.slice A1 n2 c3) :: (q7 ++ []))) 0 rfl) g111
  have hg116 : ∀ b, some b ∈ (q7 : Ob) → w110.heap[b]? = _ := fun b hb => g111.block b (hd79.lt b hb) (fun e => (hdj).1 b e.symm (List.mem_append_left _ hb))
  have hd115 := hU97 w110 _ _ (Dj.left hdj.2) (fun b hb _ => hg116 b hb) (hV107 _ _ _ (hq95 (Dj.left hdj.2)) (fun b hb _ => hg116 b (hq94 b hb)) hy108)
  obtain ⟨xs4, he117⟩ : ∃ y__ : List Change, y__ = (xs3.set i2.toNat (⟨(nth xs3 i2).Id, ((k3 + 1) % 3) == 0, (nth xs3 i2).Was, (nth xs3 i2).Has, (nth xs3 i2).Now⟩ : Change)) := ⟨_, rfl⟩
  have H := H xs4 he117
  rw [← he117] at hd115
  refine L_nil ?_
  refine W_seq ?_
  refine W_reg ?_
  refine L_pu (P_move (vi (k3 + 1)) rfl) ?_
  obtain ⟨hb118, H⟩ := H
  have hi119 := hb118 (len_le hl38)
  refine L_pu (P_add (k3 + 1) 1 rfl rfl hi119) ?_
  refine L_pu (P_assign (vi (k3 + 1 + 1)) rfl) ?_
  refine L_nil ?_
  refine W_seq ?_
  refine W_reg ?_
  refine L_pu (P_move (.slice A1 n2 c3) rfl) ?_
  refine L_pu (P_move (vi i2) rfl) ?_
  refine L_pu (P_move (vi (k3 + 1 + 1)) rfl) ?_
  refine L_call go67 [vi (k3 + 1 + 1)] rfl ((laws_markText.calls w110 hc114.ok (k3 + 1 + 1) _ H).mono ?_)
  rintro _ w120 ⟨r2, rfl, H, g121, hs122⟩
  have hc126 := hc114.k0 g121
  obtain ⟨hb127, H⟩ := H
  have h134 := (h112.sn g121)
  have hd135 := (hd115.k0 g121)
  have hn136 : (0 : Int) ≤ i2 ∧ i2 < (((ra28.set i2.toNat (pr63 ++ [vs r] ++ po65)).set i2.toNat (pr99 ++ [vb (((k3 + 1) % 3) == 0)] ++ po101)).length : Int) := by rw [hd135.len]; exact hb127
  obtain ⟨ad128, cs129, hA130, hR131, hcl132⟩ := h134.get default (by decide) i2 hn136
  obtain rfl := Kd.cells.op hR131
  refine L_pu (P_ia Try.underlying43 se43 A1 ad128 n2 c3 (Dp.len h134 hd135) i2 rfl hA130 rfl hb127) ?_
  refine L_pu (P_fa fa103_2 (ad128.add (i2.toNat * 11)) ((ad128.add (i2.toNat * 11)).add 2) rfl rfl) ?_
  refine L_pu (P_fa fa71_0 ((ad128.add (i2.toNat * 11)).add 2) (((ad128.add (i2.toNat * 11)).add 2).add 0) rfl rfl) ?_
  obtain ⟨q137, hq138, hq139, hD140, hU141⟩ := DArr.at_ (Int.toNat i2) default hd135 (by have := hb127; omega)
  obtain ⟨q142, pr143, cc144, po145, hq146, hq147, hq148, hq149, hF150, hV151⟩ := foc103_2 _ _ _ _ hD140
  have hy152 : ((Dd.flat (k := Kd.str) str_flat)).D w120 q142 r2 [vs r2] := ⟨hF150.1, ⟨rfl, hs122⟩⟩
  have hy153 := hV151 _ _ _ (hq139 (Dj.left hdj.2)) (fun _ _ _ => rfl) hy152
  have hl157 : cc144.length = [vs r2].length := (((Dd.flat (k := Kd.str) str_flat)).toR (S := fun _ => True) hF150 fun _ _ => trivial) |> Kd.len _
  refine L_ste2 (kd := Kd.cells 11) A1 n2 c3 ((ra28.set i2.toNat (pr63 ++ [vs r] ++ po65)).set i2.toNat (pr99 ++ [vb (((k3 + 1) % 3) == 0)] ++ po101)) h134 i2 hn136 ad128 hA130 2 rfl rfl [vs r2] rfl sz9 rfl (pr143 ++ [vs r2] ++ po145) _ (pr143 ++ [vs r2] ++ po145) hcl132 (Kd.len _ hR131) (foc_put hq148 hq149 hl157) (Dd.raw _ hy153) fun w154 g155 h156 => ?_
  have hc158 := hc126.wmm (memi (L := (blk (.slice A1 n2 c3) :: (q7 ++ []))) 0 rfl) g155
  have hg160 : ∀ b, some b ∈ (q7 : Ob) → w154.heap[b]? = _ := fun b hb => g155.block b (hd135.lt b hb) (fun e => (hdj).1 b e.symm (List.mem_append_left _ hb))
  have hd159 := hU141 w154 _ _ (Dj.left hdj.2) (fun b hb _ => hg160 b hb) (hV151 _ _ _ (hq139 (Dj.left hdj.2)) (fun b hb _ => hg160 b (hq138 b hb)) hy152)
  obtain ⟨xs5, he161⟩ : ∃ y__ : List Change, y__ = (xs4.set i2.toNat (⟨(nth xs4 i2).Id, (nth xs4 i2).Had, (⟨r2, (nth xs4 i2).Was.Shape, (nth xs4 i2).Was.Tags⟩ : Feat), (nth xs4 i2).Has, (nth xs4 i2).Now⟩ : Change)) := ⟨_, rfl⟩
  have H := H xs5 he161
  rw [← he161] at hd159
  refine L_nil ?_
  refine W_seq ?_
  refine W_reg ?_
  refine L_pu (P_move (vi (k3 + 1 + 1)) rfl) ?_
  obtain ⟨hb162, H⟩ := H
  have hi163 := hb162 (len_le hl38)
  refine L_pu (P_add (k3 + 1 + 1) 1 rfl rfl hi163) ?_
  refine L_pu (P_assign (vi (k3 + 1 + 1 + 1)) rfl) ?_
  refine L_nil ?_
  refine W_seq ?_
  refine W_reg ?_
  refine L_pu (P_move (.slice A1 n2 c3) rfl) ?_
  refine L_pu (P_move (vi i2) rfl) ?_
  refine L_pu (P_move (vi (k3 + 1 + 1 + 1)) rfl) ?_
  obtain ⟨hb164, H⟩ := H
  have hn171 : (0 : Int) ≤ i2 ∧ i2 < ((((ra28.set i2.toNat (pr63 ++ [vs r] ++ po65)).set i2.toNat (pr99 ++ [vb (((k3 + 1) % 3) == 0)] ++ po101)).set i2.toNat (pr143 ++ [vs r2] ++ po145)).length : Int) := by rw [hd159.len]; exact hb164
  obtain ⟨ad165, cs166, hA167, hR168, hcl169⟩ := h156.get default (by decide) i2 hn171
  obtain rfl := Kd.cells.op hR168
  refine L_pu (P_ia Try.underlying43 se43 A1 ad165 n2 c3 (Dp.len h156 hd159) i2 rfl hA167 rfl hb164) ?_
  refine L_pu (P_fa fa103_2 (ad165.add (i2.toNat * 11)) ((ad165.add (i2.toNat * 11)).add 2) rfl rfl) ?_
  refine L_pu (P_fa fa71_1 ((ad165.add (i2.toNat * 11)).add 2) (((ad165.add (i2.toNat * 11)).add 2).add 1) rfl rfl) ?_
  refine L_pu (P_fa fa68_0 (((ad165.add (i2.toNat * 11)).add 2).add 1) ((((ad165.add (i2.toNat * 11)).add 2).add 1).add 0) rfl rfl) ?_
  obtain ⟨q172, hq173, hq174, hD175, hU176⟩ := DArr.at_ (Int.toNat i2) default hd159 (by have := hb164; omega)
  obtain ⟨q177, pr178, cc179, po180, hq181, hq182, hq183, hq184, hF185, hV186⟩ := foc103_3 _ _ _ _ hD175
  have hy187 : ((Dd.flat (k := (Kd.int .i64)) (int_flat _))).D w154 q177 (k3 + 1 + 1 + 1) [vi (k3 + 1 + 1 + 1)] := ⟨hF185.1, rfl⟩
  have hy188 := hV186 _ _ _ (hq174 (Dj.left hdj.2)) (fun _ _ _ => rfl) hy187
  have hl192 : cc179.length = [vi (k3 + 1 + 1 + 1)].length := (((Dd.flat (k := (Kd.int .i64)) (int_flat _))).toR (S := fun _ => True) hF185 fun _ _ => trivial) |> Kd.len _
  refine L_ste3 (kd := Kd.cells 11) A1 n2 c3 (((ra28.set i2.toNat (pr63 ++ [vs r] ++ po65)).set i2.toNat (pr99 ++ [vb (((k3 + 1) % 3) == 0)] ++ po101)).set i2.toNat (pr143 ++ [vs r2] ++ po145)) h156 i2 hn171 ad165 hA167 3 rfl rfl [vi (k3 + 1 + 1 + 1)] rfl sz3 rfl (pr178 ++ [vi (k3 + 1 + 1 + 1)] ++ po180) _ (pr178 ++ [vi (k3 + 1 + 1 + 1)] ++ po180) hcl169 (Kd.len _ hR168) (foc_put hq183 hq184 hl192) (Dd.raw _ hy188) fun w189 g190 h191 => ?_
  have hc193 := hc158.wmm (memi (L := (blk (.slice A1 n2 c3) :: (q7 ++ []))) 0 rfl) g190
  have hg195 : ∀ b, some b ∈ (q7 : Ob) → w189.heap[b]? = _ := fun b hb => g190.block b (hd159.lt b hb) (fun e => (hdj).1 b e.symm (List.mem_append_left _ hb))
  have hd194 := hU176 w189 _ _ (Dj.left hdj.2) (fun b hb _ => hg195 b hb) (hV186 _ _ _ (hq174 (Dj.left hdj.2)) (fun b hb _ => hg195 b (hq173 b hb)) hy187)
  obtain ⟨xs6, he196⟩ : ∃ y__ : List Change, y__ = (xs5.set i2.toNat (⟨(nth xs5 i2).Id, (nth xs5 i2).Had, (⟨(nth xs5 i2).Was.Id, (⟨k3 + 1 + 1 + 1, (nth xs5 i2).Was.Shape.Pts⟩ : Shape), (nth xs5 i2).Was.Tags⟩ : Feat), (nth xs5 i2).Has, (nth xs5 i2).Now⟩ : Change)) := ⟨_, rfl⟩
  have H := H xs6 he196
  rw [← he196] at hd194
  refine L_nil ?_
  refine W_seq ?_
  refine W_reg ?_
  refine L_pu (P_move (vi (k3 + 1 + 1 + 1)) rfl) ?_
  obtain ⟨hb197, H⟩ := H
  have hi198 := hb197 (len_le hl38)
  refine L_pu (P_add (k3 + 1 + 1 + 1) 1 rfl rfl hi198) ?_
  refine L_pu (P_assign (vi (k3 + 1 + 1 + 1 + 1)) rfl) ?_
  refine L_nil ?_
  refine W_seq ?_
  refine W_reg ?_
  refine L_pu (P_move (.slice A1 n2 c3) rfl) ?_
  refine L_pu (P_move (vi i2) rfl) ?_
  obtain ⟨hb199, H⟩ := H
  have hn206 : (0 : Int) ≤ i2 ∧ i2 < (((((ra28.set i2.toNat (pr63 ++ [vs r] ++ po65)).set i2.toNat (pr99 ++ [vb (((k3 + 1) % 3) == 0)] ++ po101)).set i2.toNat (pr143 ++ [vs r2] ++ po145)).set i2.toNat (pr178 ++ [vi (k3 + 1 + 1 + 1)] ++ po180)).length : Int) := by rw [hd194.len]; exact hb199
  obtain ⟨ad200, cs201, hA202, hR203, hcl204⟩ := h191.get default (by decide) i2 hn206
  obtain rfl := Kd.cells.op hR203
  refine L_pu (P_ia Try.underlying43 se43 A1 ad200 n2 c3 (Dp.len h191 hd194) i2 rfl hA202 rfl hb199) ?_
  refine L_pu (P_fa fa103_2 (ad200.add (i2.toNat * 11)) ((ad200.add (i2.toNat * 11)).add 2) rfl rfl) ?_
  refine L_pu (P_fa fa71_1 ((ad200.add (i2.toNat * 11)).add 2) (((ad200.add (i2.toNat * 11)).add 2).add 1) rfl rfl) ?_
  refine L_pu (P_fa fa68_1 (((ad200.add (i2.toNat * 11)).add 2).add 1) ((((ad200.add (i2.toNat * 11)).add 2).add 1).add 1) rfl rfl) ?_
  obtain ⟨q207, hq208, hq209, hD210, hU211⟩ := DArr.at_ (Int.toNat i2) default hd194 (by have := hb199; omega)
  obtain ⟨q212, pr213, cc214, po215, hq216, hq217, hq218, hq219, hF220, hV221⟩ := foc103_4 _ _ _ _ hD210
  obtain ⟨v222, hv224, hs223⟩ := hF220
  obtain ⟨A225, n226, c227, rfl⟩ := hs223.shape
  subst hv224
  have hcl228 := hcl204 4 _ (foc_cell hq218 hq219)
  refine L_pu (P_ld ag23 cL ((((ad200.add (i2.toNat * 11)).add 2).add 1).add 1) (.slice A225 n226 c227) rfl ((congrArg w189.cell? (addr3 (o := 4) rfl)).trans hcl228)) ?_
  refine L_pu (P_move (vi (k3 + 1 + 1 + 1 + 1)) rfl) ?_
  have hp231 : Ow kPt 29 w189 ([] ++ O) (.slice A225 n226 c227) ((nth xs6 i2).Was.Shape.Pts) := Ds.toOw hs223 (fun b hb => List.mem_append_right _ (hmm b (List.mem_cons_of_mem _ (List.mem_append_left _ (hq208 _ (hq216 _ hb))))))
  refine L_call go68 [.slice A225 n226 c227, vi (k3 + 1 + 1 + 1 + 1)] rfl ((laws_markPtS.calls w189 hc193.ok A225 n226 c227 ((nth xs6 i2).Was.Shape.Pts) hp231 (k3 + 1 + 1 + 1 + 1) _ H).mono ?_)
  rintro _ w229 ⟨r3, m, rfl, H, g230, h232⟩
  have gm233 : Gm w189 w229 q212 := g230.gm fun b hb => by rw [Ds.rows hs223, hb]; exact List.mem_cons_self
  have hs234 := Ds.upf hs223 h232
  have hF236 : ((Dd.sl (Dd.flat (k := kPt) kPt_flat) 29)).D w229 q212 m [.slice A225 n226 c227] := ⟨_, rfl, hs234⟩
  have hd237 := DArr.fset (hU211 w229 _ _ (Dj.left hdj.2) (fun b hb hn => gm233.block b (hd194.lt b hb) fun hm => hn (hq216 b hm)) (hV221 w229 _ _ (hq209 (Dj.left hdj.2)) (fun b hb hn => gm233.block b (hd194.lt b (hq208 b hb)) hn) hF236)) hq218 rfl
  have h238 := h191.flto (w' := w229) (O' := O) (cells_flat _) fun b hb => ⟨gm233.block b (h191.ltb b hb) fun hm => (hdj).1 b hb (List.mem_append_left _ (hq208 _ (hq216 _ hm))), h191.mem b hb⟩
  have hc239 := hc193.wmg gm233 (fun b hb => (List.mem_cons_of_mem _ (List.mem_append_left _ (hq208 _ (hq216 _ hb)))))
  obtain ⟨xs7, he240⟩ : ∃ y__ : List Change, y__ = (xs6.set i2.toNat (⟨(nth xs6 i2).Id, (nth xs6 i2).Had, (⟨(nth xs6 i2).Was.Id, (⟨(nth xs6 i2).Was.Shape.Kind, m⟩ : Shape), (nth xs6 i2).Was.Tags⟩ : Feat), (nth xs6 i2).Has, (nth xs6 i2).Now⟩ : Change)) := ⟨_, rfl⟩
  have H := H xs7 he240
  rw [← he240] at hd237
  refine L_pu (P_assign (vi r3) rfl) ?_
  refine L_nil ?_
  refine W_seq ?_
  refine W_reg ?_
  refine L_pu (P_move (.slice A1 n2 c3) rfl) ?_
  refine L_pu (P_move (vi i2) rfl) ?_
  obtain ⟨hb241, H⟩ := H
  have hn248 : (0 : Int) ≤ i2 ∧ i2 < (((((ra28.set i2.toNat (pr63 ++ [vs r] ++ po65)).set i2.toNat (pr99 ++ [vb (((k3 + 1) % 3) == 0)] ++ po101)).set i2.toNat (pr143 ++ [vs r2] ++ po145)).set i2.toNat (pr178 ++ [vi (k3 + 1 + 1 + 1)] ++ po180)).length : Int) := by rw [hd237.len]; exact hb241
  obtain ⟨ad242, cs243, hA244, hR245, hcl246⟩ := h238.get default (by decide) i2 hn248
  obtain rfl := Kd.cells.op hR245
  refine L_pu (P_ia Try.underlying43 se43 A1 ad242 n2 c3 (Dp.len h238 hd237) i2 rfl hA244 rfl hb241) ?_
  refine L_pu (P_fa fa103_2 (ad242.add (i2.toNat * 11)) ((ad242.add (i2.toNat * 11)).add 2) rfl rfl) ?_
  refine L_pu (P_fa fa71_2 ((ad242.add (i2.toNat * 11)).add 2) (((ad242.add (i2.toNat * 11)).add 2).add 3) rfl rfl) ?_
  obtain ⟨q249, hq250, hq251, hD252, hU253⟩ := DArr.at_ (Int.toNat i2) default hd237 (by have := hb241; omega)
  obtain ⟨q254, pr255, cc256, po257, hq258, hq259, hq260, hq261, hF262, hV263⟩ := foc103_5 _ _ _ _ hD252
  obtain ⟨v264, hv266, hs265⟩ := hF262
  obtain ⟨A267, n268, c269, rfl⟩ := hs265.shape
  subst hv266
  have hcl270 := hcl246 5 _ (foc_cell hq260 hq261)
  refine L_pu (P_ld ag69 cL (((ad242.add (i2.toNat * 11)).add 2).add 3) (.slice A267 n268 c269) rfl ((congrArg w229.cell? (addr2 (o := 5) rfl)).trans hcl270)) ?_
  refine L_pu (P_move (vi r3) rfl) ?_
  have hp273 : Ow kTag 133 w229 ([] ++ O) (.slice A267 n268 c269) ((nth xs7 i2).Was.Tags) := Ds.toOw hs265 (fun b hb => List.mem_append_right _ (hmm b (List.mem_cons_of_mem _ (List.mem_append_left _ (hq250 _ (hq258 _ hb))))))
  refine L_call go69 [.slice A267 n268 c269, vi r3] rfl ((laws_markTagS.calls w229 hc239.ok A267 n268 c269 ((nth xs7 i2).Was.Tags) hp273 r3 _ H).mono ?_)
  rintro _ w271 ⟨r4, m2, rfl, H, g272, h274⟩
  have gm275 : Gm w229 w271 q254 := g272.gm fun b hb => by rw [Ds.rows hs265, hb]; exact List.mem_cons_self
  have hs276 := Ds.upf hs265 h274
  have hF278 : ((Dd.sl (Dd.flat (k := kTag) kTag_flat) 133)).D w271 q254 m2 [.slice A267 n268 c269] := ⟨_, rfl, hs276⟩
  have hd279 := DArr.fset (hU253 w271 _ _ (Dj.left hdj.2) (fun b hb hn => gm275.block b (hd237.lt b hb) fun hm => hn (hq258 b hm)) (hV263 w271 _ _ (hq251 (Dj.left hdj.2)) (fun b hb hn => gm275.block b (hd237.lt b (hq250 b hb)) hn) hF278)) hq260 rfl
  have h280 := h238.flto (w' := w271) (O' := O) (cells_flat _) fun b hb => ⟨gm275.block b (h238.ltb b hb) fun hm => (hdj).1 b hb (List.mem_append_left _ (hq250 _ (hq258 _ hm))), h238.mem b hb⟩
  have hc281 := hc239.wmg gm275 (fun b hb => (List.mem_cons_of_mem _ (List.mem_append_left _ (hq250 _ (hq258 _ hb)))))
  obtain ⟨xs8, he282⟩ : ∃ y__ : List Change, y__ = (xs7.set i2.toNat (⟨(nth xs7 i2).Id, (nth xs7 i2).Had, (⟨(nth xs7 i2).Was.Id, (nth xs7 i2).Was.Shape, m2⟩ : Feat), (nth xs7 i2).Has, (nth xs7 i2).Now⟩ : Change)) := ⟨_, rfl⟩
  have H := H xs8 he282
  rw [← he282] at hd279
  refine L_pu (P_assign (vi r4) rfl) ?_
  refine L_nil ?_
  refine W_seq ?_
  refine W_reg ?_
  refine L_pu (P_move (.slice A1 n2 c3) rfl) ?_
  refine L_pu (P_move (vi i2) rfl) ?_
  refine L_pu (P_move (vi r4) rfl) ?_
  obtain ⟨hb283, H⟩ := H
  refine L_pu (P_rem r4 3 rfl rfl hb283) ?_
  refine L_pu (P_cmp (r4 % 3) 0 ((r4 % 3) == 0) rfl rfl rfl) ?_
  obtain ⟨hb284, H⟩ := H
  have hn291 : (0 : Int) ≤ i2 ∧ i2 < (((((ra28.set i2.toNat (pr63 ++ [vs r] ++ po65)).set i2.toNat (pr99 ++ [vb (((k3 + 1) % 3) == 0)] ++ po101)).set i2.toNat (pr143 ++ [vs r2] ++ po145)).set i2.toNat (pr178 ++ [vi (k3 + 1 + 1 + 1)] ++ po180)).length : Int) := by rw [hd279.len]; exact hb284
  obtain ⟨ad285, cs286, hA287, hR288, hcl289⟩ := h280.get default (by decide) i2 hn291
  obtain rfl := Kd.cells.op hR288
  refine L_pu (P_ia Try.underlying43 se43 A1 ad285 n2 c3 (Dp.len h280 hd279) i2 rfl hA287 rfl hb284) ?_
  refine L_pu (P_fa fa103_3 (ad285.add (i2.toNat * 11)) ((ad285.add (i2.toNat * 11)).add 6) rfl rfl) ?_
  obtain ⟨q292, hq293, hq294, hD295, hU296⟩ := DArr.at_ (Int.toNat i2) default hd279 (by have := hb284; omega)
  obtain ⟨q297, pr298, cc299, po300, hq301, hq302, hq303, hq304, hF305, hV306⟩ := foc103_6 _ _ _ _ hD295
  have hy307 : ((Dd.flat (k := Kd.bool) bool_flat)).D w271 q297 ((r4 % 3) == 0) [vb ((r4 % 3) == 0)] := ⟨hF305.1, rfl⟩
  have hy308 := hV306 _ _ _ (hq294 (Dj.left hdj.2)) (fun _ _ _ => rfl) hy307
  have hl312 : cc299.length = [vb ((r4 % 3) == 0)].length := (((Dd.flat (k := Kd.bool) bool_flat)).toR (S := fun _ => True) hF305 fun _ _ => trivial) |> Kd.len _
  refine L_ste1 (kd := Kd.cells 11) A1 n2 c3 ((((ra28.set i2.toNat (pr63 ++ [vs r] ++ po65)).set i2.toNat (pr99 ++ [vb (((k3 + 1) % 3) == 0)] ++ po101)).set i2.toNat (pr143 ++ [vs r2] ++ po145)).set i2.toNat (pr178 ++ [vi (k3 + 1 + 1 + 1)] ++ po180)) h280 i2 hn291 ad285 hA287 6 rfl [vb ((r4 % 3) == 0)] rfl sz4 rfl (pr298 ++ [vb ((r4 % 3) == 0)] ++ po300) _ (pr298 ++ [vb ((r4 % 3) == 0)] ++ po300) hcl289 (Kd.len _ hR288) (foc_put hq303 hq304 hl312) (Dd.raw _ hy308) fun w309 g310 h311 => ?_
  have hc313 := hc281.wmm (memi (L := (blk (.slice A1 n2 c3) :: (q7 ++ []))) 0 rfl) g310
  have hg315 : ∀ b, some b ∈ (q7 : Ob) → w309.heap[b]? = _ := fun b hb => g310.block b (hd279.lt b hb) (fun e => (hdj).1 b e.symm (List.mem_append_left _ hb))
  have hd314 := hU296 w309 _ _ (Dj.left hdj.2) (fun b hb _ => hg315 b hb) (hV306 _ _ _ (hq294 (Dj.left hdj.2)) (fun b hb _ => hg315 b (hq293 b hb)) hy307)
  obtain ⟨xs9, he316⟩ : ∃ y__ : List Change, y__ = (xs8.set i2.toNat (⟨(nth xs8 i2).Id, (nth xs8 i2).Had, (nth xs8 i2).Was, (r4 % 3) == 0, (nth xs8 i2).Now⟩ : Change)) := ⟨_, rfl⟩
  have H := H xs9 he316
  rw [← he316] at hd314
  refine L_nil ?_
  refine W_seq ?_
  refine W_reg ?_
  refine L_pu (P_move (vi r4) rfl) ?_
  obtain ⟨hb317, H⟩ := H
  have hi318 := hb317 (len_le hl38)
  refine L_pu (P_add r4 1 rfl rfl hi318) ?_
  refine L_pu (P_assign (vi (r4 + 1)) rfl) ?_
  refine L_nil ?_
  refine W_seq ?_
  refine W_reg ?_
  refine L_pu (P_move (.slice A1 n2 c3) rfl) ?_
  refine L_pu (P_move (vi i2) rfl) ?_
  refine L_pu (P_move (vi (r4 + 1)) rfl) ?_
  refine L_call go67 [vi (r4 + 1)] rfl ((laws_markText.calls w309 hc313.ok (r4 + 1) _ H).mono ?_)
  rintro _ w319 ⟨r5, rfl, H, g320, hs321⟩
  have hc325 := hc313.k0 g320
  obtain ⟨hb326, H⟩ := H
  have h333 := (h311.sn g320)
  have hd334 := (hd314.k0 g320)
  have hn335 : (0 : Int) ≤ i2 ∧ i2 < ((((((ra28.set i2.toNat (pr63 ++ [vs r] ++ po65)).set i2.toNat (pr99 ++ [vb (((k3 + 1) % 3) == 0)] ++ po101)).set i2.toNat (pr143 ++ [vs r2] ++ po145)).set i2.toNat (pr178 ++ [vi (k3 + 1 + 1 + 1)] ++ po180)).set i2.toNat (pr298 ++ [vb ((r4 % 3) == 0)] ++ po300)).length : Int) := by rw [hd334.len]; exact hb326
  obtain ⟨ad327, cs328, hA329, hR330, hcl331⟩ := h333.get default (by decide) i2 hn335
  obtain rfl := Kd.cells.op hR330
  refine L_pu (P_ia Try.underlying43 se43 A1 ad327 n2 c3 (Dp.len h333 hd334) i2 rfl hA329 rfl hb326) ?_
  refine L_pu (P_fa fa103_4 (ad327.add (i2.toNat * 11)) ((ad327.add (i2.toNat * 11)).add 7) rfl rfl) ?_
  refine L_pu (P_fa fa71_0 ((ad327.add (i2.toNat * 11)).add 7) (((ad327.add (i2.toNat * 11)).add 7).add 0) rfl rfl) ?_
  obtain ⟨q336, hq337, hq338, hD339, hU340⟩ := DArr.at_ (Int.toNat i2) default hd334 (by have := hb326; omega)
  obtain ⟨q341, pr342, cc343, po344, hq345, hq346, hq347, hq348, hF349, hV350⟩ := foc103_7 _ _ _ _ hD339
  have hy351 : ((Dd.flat (k := Kd.str) str_flat)).D w319 q341 r5 [vs r5] := ⟨hF349.1, ⟨rfl, hs321⟩⟩
  have hy352 := hV350 _ _ _ (hq338 (Dj.left hdj.2)) (fun _ _ _ => rfl) hy351
  have hl356 : cc343.length = [vs r5].length := (((Dd.flat (k := Kd.str) str_flat)).toR (S := fun _ => True) hF349 fun _ _ => trivial) |> Kd.len _
  refine L_ste2 (kd := Kd.cells 11) A1 n2 c3 (((((ra28.set i2.toNat (pr63 ++ [vs r] ++ po65)).set i2.toNat (pr99 ++ [vb (((k3 + 1) % 3) == 0)] ++ po101)).set i2.toNat (pr143 ++ [vs r2] ++ po145)).set i2.toNat (pr178 ++ [vi (k3 + 1 + 1 + 1)] ++ po180)).set i2.toNat (pr298 ++ [vb ((r4 % 3) == 0)] ++ po300)) h333 i2 hn335 ad327 hA329 7 rfl rfl [vs r5] rfl sz9 rfl (pr342 ++ [vs r5] ++ po344) _ (pr342 ++ [vs r5] ++ po344) hcl331 (Kd.len _ hR330) (foc_put hq347 hq348 hl356) (Dd.raw _ hy352) fun w353 g354 h355 => ?_
  have hc357 := hc325.wmm (memi (L := (blk (.slice A1 n2 c3) :: (q7 ++ []))) 0 rfl) g354
  have hg359 : ∀ b, some b ∈ (q7 : Ob) → w353.heap[b]? = _ := fun b hb => g354.block b (hd334.lt b hb) (fun e => (hdj).1 b e.symm (List.mem_append_left _ hb))
  have hd358 := hU340 w353 _ _ (Dj.left hdj.2) (fun b hb _ => hg359 b hb) (hV350 _ _ _ (hq338 (Dj.left hdj.2)) (fun b hb _ => hg359 b (hq337 b hb)) hy351)
  obtain ⟨xs10, he360⟩ : ∃ y__ : List Change, y__ = (xs9.set i2.toNat (⟨(nth xs9 i2).Id, (nth xs9 i2).Had, (nth xs9 i2).Was, (nth xs9 i2).Has, (⟨r5, (nth xs9 i2).Now.Shape, (nth xs9 i2).Now.Tags⟩ : Feat)⟩ : Change)) := ⟨_, rfl⟩
  have H := H xs10 he360
  rw [← he360] at hd358
  refine L_nil ?_
  refine W_seq ?_
  refine W_reg ?_
  refine L_pu (P_move (vi (r4 + 1)) rfl) ?_
  obtain ⟨hb361, H⟩ := H
  have hi362 := hb361 (len_le hl38)
  refine L_pu (P_add (r4 + 1) 1 rfl rfl hi362) ?_
  refine L_pu (P_assign (vi (r4 + 1 + 1)) rfl) ?_
  refine L_nil ?_
  refine W_seq ?_
  refine W_reg ?_
  refine L_pu (P_move (.slice A1 n2 c3) rfl) ?_
  refine L_pu (P_move (vi i2) rfl) ?_
  refine L_pu (P_move (vi (r4 + 1 + 1)) rfl) ?_
  obtain ⟨hb363, H⟩ := H
  have hn370 : (0 : Int) ≤ i2 ∧ i2 < (((((((ra28.set i2.toNat (pr63 ++ [vs r] ++ po65)).set i2.toNat (pr99 ++ [vb (((k3 + 1) % 3) == 0)] ++ po101)).set i2.toNat (pr143 ++ [vs r2] ++ po145)).set i2.toNat (pr178 ++ [vi (k3 + 1 + 1 + 1)] ++ po180)).set i2.toNat (pr298 ++ [vb ((r4 % 3) == 0)] ++ po300)).set i2.toNat (pr342 ++ [vs r5] ++ po344)).length : Int) := by rw [hd358.len]; exact hb363
  obtain ⟨ad364, cs365, hA366, hR367, hcl368⟩ := h355.get default (by decide) i2 hn370
  obtain rfl := Kd.cells.op hR367
  refine L_pu (P_ia Try.underlying43 se43 A1 ad364 n2 c3 (Dp.len h355 hd358) i2 rfl hA366 rfl hb363) ?_
  refine L_pu (P_fa fa103_4 (ad364.add (i2.toNat * 11)) ((ad364.add (i2.toNat * 11)).add 7) rfl rfl) ?_
  refine L_pu (P_fa fa71_1 ((ad364.add (i2.toNat * 11)).add 7) (((ad364.add (i2.toNat * 11)).add 7).add 1) rfl rfl) ?_
  refine L_pu (P_fa fa68_0 (((ad364.add (i2.toNat * 11)).add 7).add 1) ((((ad364.add (i2.toNat * 11)).add 7).add 1).add 0) rfl rfl) ?_
  obtain ⟨q371, hq372, hq373, hD374, hU375⟩ := DArr.at_ (Int.toNat i2) default hd358 (by have := hb363; omega)
  obtain ⟨q376, pr377, cc378, po379, hq380, hq381, hq382, hq383, hF384, hV385⟩ := foc103_8 _ _ _ _ hD374
  have hy386 : ((Dd.flat (k := (Kd.int .i64)) (int_flat _))).D w353 q376 (r4 + 1 + 1) [vi (r4 + 1 + 1)] := ⟨hF384.1, rfl⟩
  have hy387 := hV385 _ _ _ (hq373 (Dj.left hdj.2)) (fun _ _ _ => rfl) hy386
  have hl391 : cc378.length = [vi (r4 + 1 + 1)].length := (((Dd.flat (k := (Kd.int .i64)) (int_flat _))).toR (S := fun _ => True) hF384 fun _ _ => trivial) |> Kd.len _
  refine L_ste3 (kd := Kd.cells 11) A1 n2 c3 ((((((ra28.set i2.toNat (pr63 ++ [vs r] ++ po65)).set i2.toNat (pr99 ++ [vb (((k3 + 1) % 3) == 0)] ++ po101)).set i2.toNat (pr143 ++ [vs r2] ++ po145)).set i2.toNat (pr178 ++ [vi (k3 + 1 + 1 + 1)] ++ po180)).set i2.toNat (pr298 ++ [vb ((r4 % 3) == 0)] ++ po300)).set i2.toNat (pr342 ++ [vs r5] ++ po344)) h355 i2 hn370 ad364 hA366 8 rfl rfl [vi (r4 + 1 + 1)] rfl sz3 rfl (pr377 ++ [vi (r4 + 1 + 1)] ++ po379) _ (pr377 ++ [vi (r4 + 1 + 1)] ++ po379) hcl368 (Kd.len _ hR367) (foc_put hq382 hq383 hl391) (Dd.raw _ hy387) fun w388 g389 h390 => ?_
  have hc392 := hc357.wmm (memi (L := (blk (.slice A1 n2 c3) :: (q7 ++ []))) 0 rfl) g389
  have hg394 : ∀ b, some b ∈ (q7 : Ob) → w388.heap[b]? = _ := fun b hb => g389.block b (hd358.lt b hb) (fun e => (hdj).1 b e.symm (List.mem_append_left _ hb))
  have hd393 := hU375 w388 _ _ (Dj.left hdj.2) (fun b hb _ => hg394 b hb) (hV385 _ _ _ (hq373 (Dj.left hdj.2)) (fun b hb _ => hg394 b (hq372 b hb)) hy386)
  obtain ⟨xs11, he395⟩ : ∃ y__ : List Change, y__ = (xs10.set i2.toNat (⟨(nth xs10 i2).Id, (nth xs10 i2).Had, (nth xs10 i2).Was, (nth xs10 i2).Has, (⟨(nth xs10 i2).Now.Id, (⟨r4 + 1 + 1, (nth xs10 i2).Now.Shape.Pts⟩ : Shape), (nth xs10 i2).Now.Tags⟩ : Feat)⟩ : Change)) := ⟨_, rfl⟩
  have H := H xs11 he395
  rw [← he395] at hd393
  refine L_nil ?_
  refine W_seq ?_
  refine W_reg ?_
  refine L_pu (P_move (vi (r4 + 1 + 1)) rfl) ?_
  obtain ⟨hb396, H⟩ := H
  have hi397 := hb396 (len_le hl38)
  refine L_pu (P_add (r4 + 1 + 1) 1 rfl rfl hi397) ?_
  refine L_pu (P_assign (vi (r4 + 1 + 1 + 1)) rfl) ?_
  refine L_nil ?_
  refine W_seq ?_
  refine W_reg ?_
  refine L_pu (P_move (.slice A1 n2 c3) rfl) ?_
  refine L_pu (P_move (vi i2) rfl) ?_
  obtain ⟨hb398, H⟩ := H
  have hn405 : (0 : Int) ≤ i2 ∧ i2 < ((((((((ra28.set i2.toNat (pr63 ++ [vs r] ++ po65)).set i2.toNat (pr99 ++ [vb (((k3 + 1) % 3) == 0)] ++ po101)).set i2.toNat (pr143 ++ [vs r2] ++ po145)).set i2.toNat (pr178 ++ [vi (k3 + 1 + 1 + 1)] ++ po180)).set i2.toNat (pr298 ++ [vb ((r4 % 3) == 0)] ++ po300)).set i2.toNat (pr342 ++ [vs r5] ++ po344)).set i2.toNat (pr377 ++ [vi (r4 + 1 + 1)] ++ po379)).length : Int) := by rw [hd393.len]; exact hb398
  obtain ⟨ad399, cs400, hA401, hR402, hcl403⟩ := h390.get default (by decide) i2 hn405
  obtain rfl := Kd.cells.op hR402
  refine L_pu (P_ia Try.underlying43 se43 A1 ad399 n2 c3 (Dp.len h390 hd393) i2 rfl hA401 rfl hb398) ?_
  refine L_pu (P_fa fa103_4 (ad399.add (i2.toNat * 11)) ((ad399.add (i2.toNat * 11)).add 7) rfl rfl) ?_
  refine L_pu (P_fa fa71_1 ((ad399.add (i2.toNat * 11)).add 7) (((ad399.add (i2.toNat * 11)).add 7).add 1) rfl rfl) ?_
  refine L_pu (P_fa fa68_1 (((ad399.add (i2.toNat * 11)).add 7).add 1) ((((ad399.add (i2.toNat * 11)).add 7).add 1).add 1) rfl rfl) ?_
  obtain ⟨q406, hq407, hq408, hD409, hU410⟩ := DArr.at_ (Int.toNat i2) default hd393 (by have := hb398; omega)
  obtain ⟨q411, pr412, cc413, po414, hq415, hq416, hq417, hq418, hF419, hV420⟩ := foc103_9 _ _ _ _ hD409
  obtain ⟨v421, hv423, hs422⟩ := hF419
  obtain ⟨A424, n425, c426, rfl⟩ := hs422.shape
  subst hv423
  have hcl427 := hcl403 9 _ (foc_cell hq417 hq418)
  refine L_pu (P_ld ag23 cL ((((ad399.add (i2.toNat * 11)).add 7).add 1).add 1) (.slice A424 n425 c426) rfl ((congrArg w388.cell? (addr3 (o := 9) rfl)).trans hcl427)) ?_
  refine L_pu (P_move (vi (r4 + 1 + 1 + 1)) rfl) ?_
  have hp430 : Ow kPt 29 w388 ([] ++ O) (.slice A424 n425 c426) ((nth xs11 i2).Now.Shape.Pts) := Ds.toOw hs422 (fun b hb => List.mem_append_right _ (hmm b (List.mem_cons_of_mem _ (List.mem_append_left _ (hq407 _ (hq415 _ hb))))))
  refine L_call go68 [.slice A424 n425 c426, vi (r4 + 1 + 1 + 1)] rfl ((laws_markPtS.calls w388 hc392.ok A424 n425 c426 ((nth xs11 i2).Now.Shape.Pts) hp430 (r4 + 1 + 1 + 1) _ H).mono ?_)
  rintro _ w428 ⟨r6, m3, rfl, H, g429, h431⟩
  have gm432 : Gm w388 w428 q411 := g429.gm fun b hb => by rw [Ds.rows hs422, hb]; exact List.mem_cons_self
  have hs433 := Ds.upf hs422 h431
  have hF435 : ((Dd.sl (Dd.flat (k := kPt) kPt_flat) 29)).D w428 q411 m3 [.slice A424 n425 c426] := ⟨_, rfl, hs433⟩
  have hd436 := DArr.fset (hU410 w428 _ _ (Dj.left hdj.2) (fun b hb hn => gm432.block b (hd393.lt b hb) fun hm => hn (hq415 b hm)) (hV420 w428 _ _ (hq408 (Dj.left hdj.2)) (fun b hb hn => gm432.block b (hd393.lt b (hq407 b hb)) hn) hF435)) hq417 rfl
  have h437 := h390.flto (w' := w428) (O' := O) (cells_flat _) fun b hb => ⟨gm432.block b (h390.ltb b hb) fun hm => (hdj).1 b hb (List.mem_append_left _ (hq407 _ (hq415 _ hm))), h390.mem b hb⟩
  have hc438 := hc392.wmg gm432 (fun b hb => (List.mem_cons_of_mem _ (List.mem_append_left _ (hq407 _ (hq415 _ hb)))))
  obtain ⟨xs12, he439⟩ : ∃ y__ : List Change, y__ = (xs11.set i2.toNat (⟨(nth xs11 i2).Id, (nth xs11 i2).Had, (nth xs11 i2).Was, (nth xs11 i2).Has, (⟨(nth xs11 i2).Now.Id, (⟨(nth xs11 i2).Now.Shape.Kind, m3⟩ : Shape), (nth xs11 i2).Now.Tags⟩ : Feat)⟩ : Change)) := ⟨_, rfl⟩
  have H := H xs12 he439
  rw [← he439] at hd436
  refine L_pu (P_assign (vi r6) rfl) ?_
  refine L_nil ?_
  refine W_reg ?_
  refine L_pu (P_move (.slice A1 n2 c3) rfl) ?_
  refine L_pu (P_move (vi i2) rfl) ?_
  obtain ⟨hb440, H⟩ := H
  have hn447 : (0 : Int) ≤ i2 ∧ i2 < ((((((((ra28.set i2.toNat (pr63 ++ [vs r] ++ po65)).set i2.toNat (pr99 ++ [vb (((k3 + 1) % 3) == 0)] ++ po101)).set i2.toNat (pr143 ++ [vs r2] ++ po145)).set i2.toNat (pr178 ++ [vi (k3 + 1 + 1 + 1)] ++ po180)).set i2.toNat (pr298 ++ [vb ((r4 % 3) == 0)] ++ po300)).set i2.toNat (pr342 ++ [vs r5] ++ po344)).set i2.toNat (pr377 ++ [vi (r4 + 1 + 1)] ++ po379)).length : Int) := by rw [hd436.len]; exact hb440
  obtain ⟨ad441, cs442, hA443, hR444, hcl445⟩ := h437.get default (by decide) i2 hn447
  obtain rfl := Kd.cells.op hR444
  refine L_pu (P_ia Try.underlying43 se43 A1 ad441 n2 c3 (Dp.len h437 hd436) i2 rfl hA443 rfl hb440) ?_
  refine L_pu (P_fa fa103_4 (ad441.add (i2.toNat * 11)) ((ad441.add (i2.toNat * 11)).add 7) rfl rfl) ?_
  refine L_pu (P_fa fa71_2 ((ad441.add (i2.toNat * 11)).add 7) (((ad441.add (i2.toNat * 11)).add 7).add 3) rfl rfl) ?_
  obtain ⟨q448, hq449, hq450, hD451, hU452⟩ := DArr.at_ (Int.toNat i2) default hd436 (by have := hb440; omega)
  obtain ⟨q453, pr454, cc455, po456, hq457, hq458, hq459, hq460, hF461, hV462⟩ := foc103_10 _ _ _ _ hD451
  obtain ⟨v463, hv465, hs464⟩ := hF461
  obtain ⟨A466, n467, c468, rfl⟩ := hs464.shape
  subst hv465
  have hcl469 := hcl445 10 _ (foc_cell hq459 hq460)
  refine L_pu (P_ld ag69 cL (((ad441.add (i2.toNat * 11)).add 7).add 3) (.slice A466 n467 c468) rfl ((congrArg w428.cell? (addr2 (o := 10) rfl)).trans hcl469)) ?_
  refine L_pu (P_move (vi r6) rfl) ?_
  have hp472 : Ow kTag 133 w428 ([] ++ O) (.slice A466 n467 c468) ((nth xs12 i2).Now.Tags) := Ds.toOw hs464 (fun b hb => List.mem_append_right _ (hmm b (List.mem_cons_of_mem _ (List.mem_append_left _ (hq449 _ (hq457 _ hb))))))
  refine L_call go69 [.slice A466 n467 c468, vi r6] rfl ((laws_markTagS.calls w428 hc438.ok A466 n467 c468 ((nth xs12 i2).Now.Tags) hp472 r6 _ H).mono ?_)
  rintro _ w470 ⟨r7, m4, rfl, H, g471, h473⟩
  have gm474 : Gm w428 w470 q453 := g471.gm fun b hb => by rw [Ds.rows hs464, hb]; exact List.mem_cons_self
  have hs475 := Ds.upf hs464 h473
  have hF477 : ((Dd.sl (Dd.flat (k := kTag) kTag_flat) 133)).D w470 q453 m4 [.slice A466 n467 c468] := ⟨_, rfl, hs475⟩
  have hd478 := DArr.fset (hU452 w470 _ _ (Dj.left hdj.2) (fun b hb hn => gm474.block b (hd436.lt b hb) fun hm => hn (hq457 b hm)) (hV462 w470 _ _ (hq450 (Dj.left hdj.2)) (fun b hb hn => gm474.block b (hd436.lt b (hq449 b hb)) hn) hF477)) hq459 rfl
  have h479 := h437.flto (w' := w470) (O' := O) (cells_flat _) fun b hb => ⟨gm474.block b (h437.ltb b hb) fun hm => (hdj).1 b hb (List.mem_append_left _ (hq449 _ (hq457 _ hm))), h437.mem b hb⟩
  have hc480 := hc438.wmg gm474 (fun b hb => (List.mem_cons_of_mem _ (List.mem_append_left _ (hq449 _ (hq457 _ hb)))))
  obtain ⟨xs13, he481⟩ : ∃ y__ : List Change, y__ = (xs12.set i2.toNat (⟨(nth xs12 i2).Id, (nth xs12 i2).Had, (nth xs12 i2).Was, (nth xs12 i2).Has, (⟨(nth xs12 i2).Now.Id, (nth xs12 i2).Now.Shape, m4⟩ : Feat)⟩ : Change)) := ⟨_, rfl⟩
  have H := H xs13 he481
  rw [← he481] at hd478
  refine L_pu (P_assign (vi r7) rfl) ?_
  refine L_nil ?_
  refine W_reg ?_
  refine L_pu (P_move (vi i2) rfl) ?_
  obtain ⟨hb483, H⟩ := H
  have hi482 : I64 (i2 + 1) := i64_succ (of_decide_eq_true hq39) hl38 hb483
  refine L_pu (P_add i2 1 rfl rfl hi482) ?_
  refine L_pu (P_assign (vi (i2 + 1)) rfl) ?_
  refine L_nil ?_
  obtain ⟨hI484, hm485⟩ := H
  exact ⟨(xs13, (((((((ra28.set i2.toNat (pr63 ++ [vs r] ++ po65)).set i2.toNat (pr99 ++ [vb (((k3 + 1) % 3) == 0)] ++ po101)).set i2.toNat (pr143 ++ [vs r2] ++ po145)).set i2.toNat (pr178 ++ [vi (k3 + 1 + 1 + 1)] ++ po180)).set i2.toNat (pr298 ++ [vb ((r4 % 3) == 0)] ++ po300)).set i2.toNat (pr342 ++ [vs r5] ++ po344)).set i2.toNat (pr377 ++ [vi (r4 + 1 + 1)] ++ po379)), r7, i2 + 1), hm485, hI484, ⟨rfl, rfl, rfl, trivial⟩, hc480, h479, hd478⟩
 ·have H := ite_f H hq39
  refine W_exit (xin_hit ?_)
  refine W_seq ?_
  refine W_reg ?_
  refine L_pu (P_move (vi k3) rfl) ?_
  refine L_pu (P_assign (vi k3) rfl) ?_
  refine L_nil ?_
  refine W_ret ?_
  exact ⟨[vi k3], ⟨_, rfl, rfl⟩, k3, xs2, ra28, rfl, H, hc29.gr, h30, hd31⟩
end Go.Proofs.Ytndjggncgpjolaa

namespace Go.Proofs.Ytndjggncgpjolaa
set_option linter.unusedVariables false
set_option linter.unusedSimpArgs false
set_option linter.unusedSectionVars false
theorem laws_markChangeS.lawk (a : List Change) (k : Int) (Q : Int → List Change → Prop) (ha : bulk a ≤ 1048576) (h0 : 0 ≤ k) (h1 : k ≤ 500000000) (hq : Q (mkL gChange a k).2 (mkL gChange a k).1) : laws_markChangeS.E a k Q := by
 unfold laws_markChangeS.E
 have hbl := bulk_len a
 refine ⟨fun xs k' i => ∃ u : Nat, i = u ∧ Mk gChange a k u xs k', fun _ _ i => (a.length - i).toNat, ⟨0, rfl, .zero a k⟩, ?_⟩
 rintro xs k' _ ⟨u, rfl, M⟩
 have hl := M.len
 have hb := M.bd gChange_bd
 by_cases h : u < a.length
 ·rw [if_pos (by rw [hl]; simpa using h)]
  have hu' : u < xs.length := by omega
  have hx := M.nth h
  have hm := bulk_mem (nth_mem a h)
  have hc := bulk_change (nth a (u : Int))
  have hb1 := bulk_feat (nth a (u : Int)).Was
  have hb2 := bulk_feat (nth a (u : Int)).Now
  have hp := mkL_bd gPt_bd (nth a (u : Int)).Was.Shape.Pts (k' + 4)
  have ht := mkL_bd gTag_bd (nth a (u : Int)).Was.Tags (mkL gPt (nth a (u : Int)).Was.Shape.Pts (k' + 4)).2
  have hq2 := mkL_bd gPt_bd (nth a (u : Int)).Now.Shape.Pts ((mkL gTag (nth a (u : Int)).Was.Tags (mkL gPt (nth a (u : Int)).Was.Shape.Pts (k' + 4)).2).2 + 3)
  simp only [Int.add_assoc, Int.reduceAdd]
  refine laws_markText.law _ _ (by omega) (by omega) ⟨by omega, ?_⟩
  intro xs3 e3
  rw [hx] at e3
  obtain ⟨n3, l3, s3⟩ := set_facts hu' e3
  try dsimp only at n3
  refine ⟨fun _ => by unfold I64; omega, ⟨by omega, by omega⟩, by omega, ?_⟩
  intro xs4 e4
  try rw [n3] at e4
  try rw [s3] at e4
  try dsimp only at e4
  obtain ⟨n4, l4, s4'⟩ := set_facts hu' e4
  have s4 : ∀ z, xs4.set (Int.toNat (u : Int)) z = xs.set (Int.toNat (u : Int)) z := s4'
  try dsimp only at n4
  refine ⟨fun _ => by unfold I64; omega, laws_markText.law _ _ (by omega) (by omega) ⟨by omega, ?_⟩⟩
  intro xs5 e5
  try rw [n4] at e5
  try rw [s4] at e5
  try dsimp only at e5
  obtain ⟨n5, l5, s5'⟩ := set_facts hu' e5
  have s5 : ∀ z, xs5.set (Int.toNat (u : Int)) z = xs.set (Int.toNat (u : Int)) z := s5'
  try dsimp only at n5
  refine ⟨fun _ => by unfold I64; omega, by omega, ?_⟩
  intro xs6 e6
  try rw [n5] at e6
  try rw [s5] at e6
  try dsimp only at e6
  obtain ⟨n6, l6, s6'⟩ := set_facts hu' e6
  have s6 : ∀ z, xs6.set (Int.toNat (u : Int)) z = xs.set (Int.toNat (u : Int)) z := s6'
  try dsimp only at n6
  refine ⟨fun _ => by unfold I64; omega, by omega, ?_⟩
  rw [n6]
  dsimp only
  refine laws_markPtS.lawk _ _ _ (by omega) (by omega) (by omega) ?_
  intro xs7 e7
  try rw [n6] at e7
  try rw [s6] at e7
  try dsimp only at e7
  obtain ⟨n7, l7, s7'⟩ := set_facts hu' e7
  have s7 : ∀ z, xs7.set (Int.toNat (u : Int)) z = xs.set (Int.toNat (u : Int)) z := s7'
  try dsimp only at n7
  refine ⟨by omega, ?_⟩
  rw [n7]
  dsimp only
  refine laws_markTagS.lawk _ _ _ (by omega) (by omega) (by omega) ?_
  intro xs8 e8
  try rw [n7] at e8
  try rw [s7] at e8
  try dsimp only at e8
  obtain ⟨n8, l8, s8'⟩ := set_facts hu' e8
  have s8 : ∀ z, xs8.set (Int.toNat (u : Int)) z = xs.set (Int.toNat (u : Int)) z := s8'
  try dsimp only at n8
  refine ⟨⟨by omega, by omega⟩, by omega, ?_⟩
  intro xs9 e9
  try rw [n8] at e9
  try rw [s8] at e9
  try dsimp only at e9
  obtain ⟨n9, l9, s9'⟩ := set_facts hu' e9
  have s9 : ∀ z, xs9.set (Int.toNat (u : Int)) z = xs.set (Int.toNat (u : Int)) z := s9'
  try dsimp only at n9
  refine ⟨fun _ => by unfold I64; omega, laws_markText.law _ _ (by omega) (by omega) ⟨by omega, ?_⟩⟩
  intro xs10 e10
  try rw [n9] at e10
  try rw [s9] at e10
  try dsimp only at e10
  obtain ⟨n10, l10, s10'⟩ := set_facts hu' e10
  have s10 : ∀ z, xs10.set (Int.toNat (u : Int)) z = xs.set (Int.toNat (u : Int)) z := s10'
  try dsimp only at n10
  refine ⟨fun _ => by unfold I64; omega, by omega, ?_⟩
  intro xs11 e11
  try rw [n10] at e11
  try rw [s10] at e11
  try dsimp only at e11
  obtain ⟨n11, l11, s11'⟩ := set_facts hu' e11
  have s11 : ∀ z, xs11.set (Int.toNat (u : Int)) z = xs.set (Int.toNat (u : Int)) z := s11'
  try dsimp only at n11
  refine ⟨fun _ => by unfold I64; omega, by omega, ?_⟩
  rw [n11]
  dsimp only
  refine laws_markPtS.lawk _ _ _ (by omega) (by omega) (by omega) ?_
  intro xs12 e12
  try rw [n11] at e12
  try rw [s11] at e12
  try dsimp only at e12
  obtain ⟨n12, l12, s12'⟩ := set_facts hu' e12
  have s12 : ∀ z, xs12.set (Int.toNat (u : Int)) z = xs.set (Int.toNat (u : Int)) z := s12'
  try dsimp only at n12
  refine ⟨by omega, ?_⟩
  rw [n12]
  dsimp only
  refine laws_markTagS.lawk _ _ _ (by omega) (by omega) (by omega) ?_
  intro xs13 e13
  try rw [n12] at e13
  try rw [s12] at e13
  try dsimp only at e13
  obtain ⟨n13, l13, s13'⟩ := set_facts hu' e13
  have s13 : ∀ z, xs13.set (Int.toNat (u : Int)) z = xs.set (Int.toNat (u : Int)) z := s13'
  try dsimp only at n13
  rw [Int.toNat_natCast] at e13
  rw [e13]
  exact ⟨by omega, ⟨u + 1, by omega, M.next h rfl⟩, by first | omega | (dsimp only; omega)⟩
 ·rw [if_neg (by rw [hl]; simpa using h)]
  obtain ⟨rfl, rfl⟩ := M.full h
  exact hq
end Go.Proofs.Ytndjggncgpjolaa

namespace Go.Proofs.Ytndjggncgpjolaa
open Go.RowKit
set_option linter.unusedVariables false
set_option linter.unusedSimpArgs false
def laws_heldPtS.E (a : List Pt) (k : Int) (Q : Int → Prop) : Prop :=
 (∃ (I18 : Int → Int → Prop) (mu19 : Int → Int → Nat), I18 k 0 ∧ ∀ (k3 : Int) (i2 : Int), I18 k3 i2 → (if decide (i2 < (a.length : Int)) then ((0 : Int) ≤ i2 ∧ i2 < (a.length : Int)) ∧ (if ((nth a i2).X) != k3 then Q (-1) else ((a.length : Int) ≤ 9223372036854775807 → I64 (k3 + 1)) ∧ ((0 : Int) ≤ i2 ∧ i2 < (a.length : Int)) ∧ (if ((nth a i2).Y) != (k3 + 1) then Q (-1) else ((a.length : Int) ≤ 9223372036854775807 → I64 (k3 + 1 + 1)) ∧ (-9223372036854775808 ≤ i2) ∧ I18 (k3 + 1 + 1) (i2 + 1) ∧ mu19 (k3 + 1 + 1) (i2 + 1) < mu19 k3 i2)) else Q k3))
set_option maxHeartbeats 8000000 in
set_option maxRecDepth 100000 in
theorem laws_heldPtS.calls {O : Ob} (w0 : World) (hO : Ok w0 O) (a : List Pt) (A1 : Option Addr) (n2 c3 : Nat) (hp4 : Sl kPt w0 (Fr O) (.slice A1 n2 c3) a) (k : Int) (Q : Int → Prop) (h : laws_heldPtS.E a k Q) :
  Ret Try.prog 70 [.slice A1 n2 c3, vi k] w0 (fun v w' => ∃ (r0 : Int), v = vi r0 ∧ Q r0 ∧ Gr w0 w' none) := by
 have H : (∃ (I18 : Int → Int → Prop) (mu19 : Int → Int → Nat), I18 k 0 ∧ ∀ (k3 : Int) (i2 : Int), I18 k3 i2 → (if decide (i2 < (a.length : Int)) then ((0 : Int) ≤ i2 ∧ i2 < (a.length : Int)) ∧ (if ((nth a i2).X) != k3 then Q (-1) else ((a.length : Int) ≤ 9223372036854775807 → I64 (k3 + 1)) ∧ ((0 : Int) ≤ i2 ∧ i2 < (a.length : Int)) ∧ (if ((nth a i2).Y) != (k3 + 1) then Q (-1) else ((a.length : Int) ≤ 9223372036854775807 → I64 (k3 + 1 + 1)) ∧ (-9223372036854775808 ≤ i2) ∧ I18 (k3 + 1 + 1) (i2 + 1) ∧ mu19 (k3 + 1 + 1) (i2 + 1) < mu19 k3 i2)) else Q k3)) := h
 clear h
 have hc0 := Ct.init hO
 refine Ret_enter Try.func70 rfl 31 rfl [.tmp 4] rfl rfl ?_
 refine W_seq ?_
 refine W_reg ?_
 refine L_pu (P_assign (vi 0) rfl) ?_
 refine L_nil ?_
 refine W_seq ?_
 refine W_seq ?_
 refine W_reg ?_
 refine L_pu (P_assign (vi 0) rfl) ?_
 refine L_nil ?_
 refine W_block ?_
 obtain ⟨I18, mu19, hI20, H⟩ := H
 refine W_loop (α := Int × Int) (fun (sv__ : Int × Int) t w14 => match sv__ with | (k3, i2) => I18 k3 i2 ∧ Has t [(0, .slice A1 n2 c3), (1, vi k3), (5, vi i2)] ∧ Ct [] w0 w14 [] O ∧ Sl kPt w14 (Fr ([] ++ O)) (.slice A1 n2 c3) a) (fun (sv__ : Int × Int) => match sv__ with | (k3, i2) => mu19 k3 i2) (k, 0) ⟨hI20, ⟨rfl, rfl, rfl, trivial⟩, hc0, hp4⟩ ?_
 rintro ⟨k3, i2⟩ _ w14 ⟨hI20, hh22, hc16, h17⟩
 obtain ⟨u23, rfl⟩ := Has.ins hh22
 have H := H k3 i2 hI20
 refine W_seq ?_
 refine W_seq ?_
 refine W_reg ?_
 refine L_pu (P_move (vi i2) rfl) ?_
 refine L_pu (P_move (.slice A1 n2 c3) rfl) ?_
 have hl24 := h17.le
 refine L_pu (P_len Try.underlying23 A1 n2 c3 h17.len rfl) ?_
 refine L_pu (P_cmp i2 (a.length : Int) (decide (i2 < (a.length : Int))) rfl rfl rfl) ?_
 refine L_nil ?_
 refine W_cond (decide (i2 < (a.length : Int))) rfl (fun hq25 => ?_) (fun hq25 => ?_)
 ·have H := ite_t H hq25
  refine W_skip ?_
  refine W_seq ?_
  refine W_block ?_
  refine W_seq ?_
  refine W_seq ?_
  refine W_reg ?_
  refine L_pu (P_move (.slice A1 n2 c3) rfl) ?_
  refine L_pu (P_move (vi i2) rfl) ?_
  obtain ⟨hb26, H⟩ := H
  obtain ⟨ad27, cs28, hA29, hS32, hR30, hcl31⟩ := h17.get default (by decide) i2 hb26
  obtain rfl := kPt.op hR30
  refine L_pu (P_ia Try.underlying23 se23 A1 ad27 n2 c3 h17.len i2 rfl hA29 rfl hb26) ?_
  refine L_pu (P_fa fa29_0 (ad27.add (i2.toNat * 2)) ((ad27.add (i2.toNat * 2)).add 0) rfl rfl) ?_
  refine L_pu (P_ld ag3 cL ((ad27.add (i2.toNat * 2)).add 0) (vi ((nth a i2).X)) rfl (hcl31 0 _ rfl)) ?_
  refine L_pu (P_move (vi k3) rfl) ?_
  refine L_pu (P_cmp ((nth a i2).X) k3 (((nth a i2).X) != k3) rfl rfl rfl) ?_
  refine L_nil ?_
  refine W_cond (((nth a i2).X) != k3) rfl (fun hq33 => ?_) (fun hq33 => ?_)
  ·have H := ite_t H hq33
   refine W_seq ?_
   refine W_reg ?_
   refine L_pu (P_assign (vi (-1)) rfl) ?_
   refine L_nil ?_
   refine W_ret ?_
   exact ⟨[vi (-1)], ⟨_, rfl, rfl⟩, (-1), rfl, H, hc16.gr.g0⟩
  ·have H := ite_f H hq33
   refine W_skip ?_
   refine W_seq ?_
   refine W_reg ?_
   refine L_pu (P_move (vi k3) rfl) ?_
   obtain ⟨hb34, H⟩ := H
   have hi35 := hb34 (len_le hl24)
   refine L_pu (P_add k3 1 rfl rfl hi35) ?_
   refine L_pu (P_assign (vi (k3 + 1)) rfl) ?_
   refine L_nil ?_
   refine W_seq ?_
   refine W_seq ?_
   refine W_reg ?_
   refine L_pu (P_move (.slice A1 n2 c3) rfl) ?_
   refine L_pu (P_move (vi i2) rfl) ?_
   obtain ⟨hb36, H⟩ := H
   obtain ⟨ad37, cs38, hA39, hS42, hR40, hcl41⟩ := h17.get default (by decide) i2 hb36
   obtain rfl := kPt.op hR40
   refine L_pu (P_ia Try.underlying23 se23 A1 ad37 n2 c3 h17.len i2 rfl hA39 rfl hb36) ?_
   refine L_pu (P_fa fa29_1 (ad37.add (i2.toNat * 2)) ((ad37.add (i2.toNat * 2)).add 1) rfl rfl) ?_
   refine L_pu (P_ld ag3 cL ((ad37.add (i2.toNat * 2)).add 1) (vi ((nth a i2).Y)) rfl (hcl41 1 _ rfl)) ?_
   refine L_pu (P_move (vi (k3 + 1)) rfl) ?_
   refine L_pu (P_cmp ((nth a i2).Y) (k3 + 1) (((nth a i2).Y) != (k3 + 1)) rfl rfl rfl) ?_
   refine L_nil ?_
   refine W_cond (((nth a i2).Y) != (k3 + 1)) rfl (fun hq43 => ?_) (fun hq43 => ?_)
   ·have H := ite_t H hq43
    refine W_seq ?_
    refine W_reg ?_
    refine L_pu (P_assign (vi (-1)) rfl) ?_
    refine L_nil ?_
    refine W_ret ?_
    exact ⟨[vi (-1)], ⟨_, rfl, rfl⟩, (-1), rfl, H, hc16.gr.g0⟩
   ·have H := ite_f H hq43
    refine W_skip ?_
    refine W_reg ?_
    refine L_pu (P_move (vi (k3 + 1)) rfl) ?_
    obtain ⟨hb44, H⟩ := H
    have hi45 := hb44 (len_le hl24)
    refine L_pu (P_add (k3 + 1) 1 rfl rfl hi45) ?_
    refine L_pu (P_assign (vi (k3 + 1 + 1)) rfl) ?_
    refine L_nil ?_
    refine W_reg ?_
    refine L_pu (P_move (vi i2) rfl) ?_
    obtain ⟨hb47, H⟩ := H
    have hi46 : I64 (i2 + 1) := i64_succ (of_decide_eq_true hq25) hl24 hb47
    refine L_pu (P_add i2 1 rfl rfl hi46) ?_
    refine L_pu (P_assign (vi (i2 + 1)) rfl) ?_
    refine L_nil ?_
    obtain ⟨hI48, hm49⟩ := H
    exact ⟨(k3 + 1 + 1, i2 + 1), hm49, hI48, ⟨rfl, rfl, rfl, trivial⟩, hc16, h17⟩
 ·have H := ite_f H hq25
  refine W_exit (xin_hit ?_)
  refine W_seq ?_
  refine W_reg ?_
  refine L_pu (P_move (vi k3) rfl) ?_
  refine L_pu (P_assign (vi k3) rfl) ?_
  refine L_nil ?_
  refine W_ret ?_
  exact ⟨[vi k3], ⟨_, rfl, rfl⟩, k3, rfl, H, hc16.gr.g0⟩
end Go.Proofs.Ytndjggncgpjolaa

namespace Go.Proofs.Ytndjggncgpjolaa
set_option linter.unusedVariables false
set_option linter.unusedSimpArgs false
set_option linter.unusedSectionVars false
theorem laws_heldPtS.law (n : Nat) (k : Int) (Q : Int → Prop) (ha : n ≤ 1048576) (h0 : 0 ≤ k) (h1 : k ≤ 1000000000) (hq : Q (k + 2 * n)) : laws_heldPtS.E (markedPt n k) k Q := by
 unfold laws_heldPtS.E
 rw [markedPt_len]
 refine ⟨fun k' i => ∃ u : Nat, i = u ∧ u ≤ n ∧ k' = k + 2 * u, fun _ i => (n - i).toNat, ⟨0, rfl, Nat.zero_le _, by omega⟩, ?_⟩
 rintro _ _ ⟨u, rfl, hu, rfl⟩
 by_cases h : (u : Int) < (n : Int)
 ·rw [if_pos (by simpa using h), markedPt_nth n k (by omega)]
  refine ⟨by omega, ?_⟩
  rw [if_neg (by simp)]
  refine ⟨fun _ => by unfold I64; omega, by omega, ?_⟩
  rw [if_neg (by simp)]
  exact ⟨fun _ => by unfold I64; omega, by omega, ⟨u + 1, by omega, by omega, by omega⟩, by dsimp only; omega⟩
 ·rw [if_neg (by simpa using h)]
  have : u = n := by omega
  subst this
  exact hq
theorem laws_heldPtS.lawk (a : List Pt) (k : Int) (Q : Int → Prop) (ha : bulk a ≤ 1048576) (h0 : 0 ≤ k) (h1 : k ≤ 1000000000) (hq : Q (mkL gPt a k).2) : laws_heldPtS.E (mkL gPt a k).1 k Q := by
 unfold laws_heldPtS.E
 have hbl := bulk_len a
 rw [mkL_len]
 refine ⟨fun k' i => ∃ u : Nat, i = u ∧ Hd gPt a k u k', fun _ i => (a.length - i).toNat, ⟨0, rfl, .zero a k⟩, ?_⟩
 rintro k' _ ⟨u, rfl, M⟩
 have hb := M.bd gPt_bd
 by_cases h : u < a.length
 ·rw [if_pos (by simpa using h), M.nth h]
  refine ⟨by omega, ?_⟩
  rw [if_neg (by simp [gPt])]
  refine ⟨fun _ => by unfold I64; omega, by omega, ?_⟩
  rw [if_neg (by simp [gPt])]
  refine ⟨fun _ => by unfold I64; omega, by omega, ⟨u + 1, by omega, ?_⟩, by dsimp only; omega⟩
  have := M.next h
  rw [show k' + 1 + 1 = (gPt (nth a (u : Int)) k').2 by simp [gPt]; omega]; exact this
 ·rw [if_neg (by simpa using h), M.full h]; exact hq
end Go.Proofs.Ytndjggncgpjolaa

namespace Go.Proofs.Ytndjggncgpjolaa
open Go.RowKit
set_option linter.unusedVariables false
set_option linter.unusedSimpArgs false
def laws_heldTagS.E (a : List Tag) (k : Int) (Q : Int → Prop) : Prop :=
 (∃ (I18 : Int → Int → Prop) (mu19 : Int → Int → Nat), I18 k 0 ∧ ∀ (k3 : Int) (i2 : Int), I18 k3 i2 → (if decide (i2 < (a.length : Int)) then ((0 : Int) ≤ i2 ∧ i2 < (a.length : Int)) ∧ (∃ q : Str, laws_markText.E k3 (fun x => x = q) ∧ (Lim q) ∧ (if ((nth a i2).Key) != q then Q (-1) else ((a.length : Int) ≤ 9223372036854775807 → I64 (k3 + 1)) ∧ ((0 : Int) ≤ i2 ∧ i2 < (a.length : Int)) ∧ (∃ q2 : Str, laws_markText.E (k3 + 1) (fun x => x = q2) ∧ (Lim q2) ∧ (if ((nth a i2).Val) != q2 then Q (-1) else ((a.length : Int) ≤ 9223372036854775807 → I64 (k3 + 1 + 1)) ∧ (-9223372036854775808 ≤ i2) ∧ I18 (k3 + 1 + 1) (i2 + 1) ∧ mu19 (k3 + 1 + 1) (i2 + 1) < mu19 k3 i2)))) else Q k3))
set_option maxHeartbeats 8000000 in
set_option maxRecDepth 100000 in
theorem laws_heldTagS.calls {O : Ob} (w0 : World) (hO : Ok w0 O) (a : List Tag) (A1 : Option Addr) (n2 c3 : Nat) (hp4 : Sl kTag w0 (Fr O) (.slice A1 n2 c3) a) (k : Int) (Q : Int → Prop) (h : laws_heldTagS.E a k Q) :
  Ret Try.prog 71 [.slice A1 n2 c3, vi k] w0 (fun v w' => ∃ (r0 : Int), v = vi r0 ∧ Q r0 ∧ Gr w0 w' none) := by
 have H : (∃ (I18 : Int → Int → Prop) (mu19 : Int → Int → Nat), I18 k 0 ∧ ∀ (k3 : Int) (i2 : Int), I18 k3 i2 → (if decide (i2 < (a.length : Int)) then ((0 : Int) ≤ i2 ∧ i2 < (a.length : Int)) ∧ (∃ q : Str, laws_markText.E k3 (fun x => x = q) ∧ (Lim q) ∧ (if ((nth a i2).Key) != q then Q (-1) else ((a.length : Int) ≤ 9223372036854775807 → I64 (k3 + 1)) ∧ ((0 : Int) ≤ i2 ∧ i2 < (a.length : Int)) ∧ (∃ q2 : Str, laws_markText.E (k3 + 1) (fun x => x = q2) ∧ (Lim q2) ∧ (if ((nth a i2).Val) != q2 then Q (-1) else ((a.length : Int) ≤ 9223372036854775807 → I64 (k3 + 1 + 1)) ∧ (-9223372036854775808 ≤ i2) ∧ I18 (k3 + 1 + 1) (i2 + 1) ∧ mu19 (k3 + 1 + 1) (i2 + 1) < mu19 k3 i2)))) else Q k3)) := h
 clear h
 have hc0 := Ct.init hO
 refine Ret_enter Try.func71 rfl 33 rfl [.tmp 4] rfl rfl ?_
 refine W_seq ?_
 refine W_reg ?_
 refine L_pu (P_assign (vi 0) rfl) ?_
 refine L_nil ?_
 refine W_seq ?_
 refine W_seq ?_
 refine W_reg ?_
 refine L_pu (P_assign (vi 0) rfl) ?_
 refine L_nil ?_
 refine W_block ?_
 obtain ⟨I18, mu19, hI20, H⟩ := H
 refine W_loop (α := Int × Int) (fun (sv__ : Int × Int) t w14 => match sv__ with | (k3, i2) => I18 k3 i2 ∧ Has t [(0, .slice A1 n2 c3), (1, vi k3), (5, vi i2)] ∧ Ct [] w0 w14 [] O ∧ Sl kTag w14 (Fr ([] ++ O)) (.slice A1 n2 c3) a) (fun (sv__ : Int × Int) => match sv__ with | (k3, i2) => mu19 k3 i2) (k, 0) ⟨hI20, ⟨rfl, rfl, rfl, trivial⟩, hc0, hp4⟩ ?_
 rintro ⟨k3, i2⟩ _ w14 ⟨hI20, hh22, hc16, h17⟩
 obtain ⟨u23, rfl⟩ := Has.ins hh22
 have H := H k3 i2 hI20
 refine W_seq ?_
 refine W_seq ?_
 refine W_reg ?_
 refine L_pu (P_move (vi i2) rfl) ?_
 refine L_pu (P_move (.slice A1 n2 c3) rfl) ?_
 have hl24 := h17.le
 refine L_pu (P_len Try.underlying69 A1 n2 c3 h17.len rfl) ?_
 refine L_pu (P_cmp i2 (a.length : Int) (decide (i2 < (a.length : Int))) rfl rfl rfl) ?_
 refine L_nil ?_
 refine W_cond (decide (i2 < (a.length : Int))) rfl (fun hq25 => ?_) (fun hq25 => ?_)
 ·have H := ite_t H hq25
  refine W_skip ?_
  refine W_seq ?_
  refine W_block ?_
  refine W_seq ?_
  refine W_seq ?_
  refine W_draw (fun x => Gr w14 x none) (by kernel_rfl) (by kernel_rfl) (Gr.drew _) ?_
  refine Q_pu (P_move (.slice A1 n2 c3) rfl) ?_
  refine Q_pu (P_move (vi i2) rfl) ?_
  obtain ⟨hb26, H⟩ := H
  obtain ⟨ad27, cs28, hA29, hS32, hR30, hcl31⟩ := h17.get default (by decide) i2 hb26
  obtain ⟨rfl, hs33, hs34⟩ := kTag.op hR30
  refine Q_pu (P_ia Try.underlying69 se69 A1 ad27 n2 c3 h17.len i2 rfl hA29 rfl hb26) ?_
  refine Q_pu (P_fa fa133_0 (ad27.add (i2.toNat * 2)) ((ad27.add (i2.toNat * 2)).add 0) rfl rfl) ?_
  refine Q_pu (P_ld ag9 cQ ((ad27.add (i2.toNat * 2)).add 0) (vs ((nth a i2).Key)) rfl (hcl31 0 _ rfl)) ?_
  refine Q_pu (P_move (vi k3) rfl) ?_
  obtain ⟨q, hE41, hs42, H⟩ := H
  refine Q_call go67 [vi k3] rfl (vs q) (fun w g => (laws_markText.calls w (hc16.k0 g).ok k3 _ hE41).mono ?_) ?_
  ·rintro _ w ⟨r, rfl, rfl, g2, _⟩
   exact ⟨rfl, Gr.t0 g g2⟩
  refine Q_pu (P_scmp ((nth a i2).Key) q (((nth a i2).Key) != q) rfl rfl rfl) ?_
  refine Q_nil fun w43 g44 => ?_
  have hc46 := hc16.k0 g44
  refine W_cond (((nth a i2).Key) != q) rfl (fun hq47 => ?_) (fun hq47 => ?_)
  ·have H := ite_t H hq47
   refine W_seq ?_
   refine W_reg ?_
   refine L_pu (P_assign (vi (-1)) rfl) ?_
   refine L_nil ?_
   refine W_ret ?_
   exact ⟨[vi (-1)], ⟨_, rfl, rfl⟩, (-1), rfl, H, hc46.gr.g0⟩
  ·have H := ite_f H hq47
   refine W_skip ?_
   refine W_seq ?_
   refine W_reg ?_
   refine L_pu (P_move (vi k3) rfl) ?_
   obtain ⟨hb48, H⟩ := H
   have hi49 := hb48 (len_le hl24)
   refine L_pu (P_add k3 1 rfl rfl hi49) ?_
   refine L_pu (P_assign (vi (k3 + 1)) rfl) ?_
   refine L_nil ?_
   refine W_seq ?_
   refine W_seq ?_
   refine W_draw (fun x => Gr w43 x none) (by kernel_rfl) (by kernel_rfl) (Gr.drew _) ?_
   refine Q_pu (P_move (.slice A1 n2 c3) rfl) ?_
   refine Q_pu (P_move (vi i2) rfl) ?_
   obtain ⟨hb50, H⟩ := H
   obtain ⟨ad51, cs52, hA53, hS56, hR54, hcl55⟩ := (h17.st (.new _ g44)).get default (by decide) i2 hb50
   obtain ⟨rfl, hs57, hs58⟩ := kTag.op hR54
   refine Q_pu (P_ia Try.underlying69 se69 A1 ad51 n2 c3 (h17.st (.new _ g44)).len i2 rfl hA53 rfl hb50) ?_
   refine Q_pu (P_fa fa133_1 (ad51.add (i2.toNat * 2)) ((ad51.add (i2.toNat * 2)).add 1) rfl rfl) ?_
   refine Q_pu (P_ld ag9 cQ ((ad51.add (i2.toNat * 2)).add 1) (vs ((nth a i2).Val)) rfl (hcl55 1 _ rfl)) ?_
   refine Q_pu (P_move (vi (k3 + 1)) rfl) ?_
   obtain ⟨q2, hE65, hs66, H⟩ := H
   refine Q_call go67 [vi (k3 + 1)] rfl (vs q2) (fun w g => (laws_markText.calls w (hc46.k0 g).ok (k3 + 1) _ hE65).mono ?_) ?_
   ·rintro _ w ⟨r, rfl, rfl, g2, _⟩
    exact ⟨rfl, Gr.t0 g g2⟩
   refine Q_pu (P_scmp ((nth a i2).Val) q2 (((nth a i2).Val) != q2) rfl rfl rfl) ?_
   refine Q_nil fun w67 g68 => ?_
   have hc70 := hc46.k0 g68
   refine W_cond (((nth a i2).Val) != q2) rfl (fun hq71 => ?_) (fun hq71 => ?_)
   ·have H := ite_t H hq71
    refine W_seq ?_
    refine W_reg ?_
    refine L_pu (P_assign (vi (-1)) rfl) ?_
    refine L_nil ?_
    refine W_ret ?_
    exact ⟨[vi (-1)], ⟨_, rfl, rfl⟩, (-1), rfl, H, hc70.gr.g0⟩
   ·have H := ite_f H hq71
    refine W_skip ?_
    refine W_reg ?_
    refine L_pu (P_move (vi (k3 + 1)) rfl) ?_
    obtain ⟨hb72, H⟩ := H
    have hi73 := hb72 (len_le hl24)
    refine L_pu (P_add (k3 + 1) 1 rfl rfl hi73) ?_
    refine L_pu (P_assign (vi (k3 + 1 + 1)) rfl) ?_
    refine L_nil ?_
    refine W_reg ?_
    refine L_pu (P_move (vi i2) rfl) ?_
    obtain ⟨hb75, H⟩ := H
    have hi74 : I64 (i2 + 1) := i64_succ (of_decide_eq_true hq25) hl24 hb75
    refine L_pu (P_add i2 1 rfl rfl hi74) ?_
    refine L_pu (P_assign (vi (i2 + 1)) rfl) ?_
    refine L_nil ?_
    obtain ⟨hI76, hm77⟩ := H
    have h78 := ((h17.st (.new _ g44)).st (.new _ g68))
    exact ⟨(k3 + 1 + 1, i2 + 1), hm77, hI76, ⟨rfl, rfl, rfl, trivial⟩, hc70, h78⟩
 ·have H := ite_f H hq25
  refine W_exit (xin_hit ?_)
  refine W_seq ?_
  refine W_reg ?_
  refine L_pu (P_move (vi k3) rfl) ?_
  refine L_pu (P_assign (vi k3) rfl) ?_
  refine L_nil ?_
  refine W_ret ?_
  exact ⟨[vi k3], ⟨_, rfl, rfl⟩, k3, rfl, H, hc16.gr.g0⟩
end Go.Proofs.Ytndjggncgpjolaa

namespace Go.Proofs.Ytndjggncgpjolaa
set_option linter.unusedVariables false
set_option linter.unusedSimpArgs false
set_option linter.unusedSectionVars false
theorem laws_heldTagS.lawk (a : List Tag) (k : Int) (Q : Int → Prop) (ha : bulk a ≤ 1048576) (h0 : 0 ≤ k) (h1 : k ≤ 1000000000) (hq : Q (mkL gTag a k).2) : laws_heldTagS.E (mkL gTag a k).1 k Q := by
 unfold laws_heldTagS.E
 have hbl := bulk_len a
 rw [mkL_len]
 refine ⟨fun k' i => ∃ u : Nat, i = u ∧ Hd gTag a k u k', fun _ i => (a.length - i).toNat, ⟨0, rfl, .zero a k⟩, ?_⟩
 rintro k' _ ⟨u, rfl, M⟩
 have hb := M.bd gTag_bd
 by_cases h : u < a.length
 ·rw [if_pos (by simpa using h), M.nth h]
  have hm := bulk_mem (nth_mem a h)
  have hn := M.next h
  refine ⟨by omega, tx k', laws_markText.q _ (by omega) (by omega), tx_lim _ (by omega) (by omega), ?_⟩
  rw [if_neg (by simp [gTag])]
  refine ⟨fun _ => by unfold I64; omega, by omega, tx (k' + 1), laws_markText.q _ (by omega) (by omega), tx_lim _ (by omega) (by omega), ?_⟩
  rw [if_neg (by simp [gTag])]
  refine ⟨fun _ => by unfold I64; omega, by omega, ⟨u + 1, by omega, ?_⟩, by dsimp only; omega⟩
  rw [show k' + 1 + 1 = (gTag (nth a (u : Int)) k').2 by simp [gTag]; omega]; exact hn
 ·rw [if_neg (by simpa using h), M.full h]; exact hq
end Go.Proofs.Ytndjggncgpjolaa

namespace Go.Proofs.Ytndjggncgpjolaa
open Go.RowKit
set_option linter.unusedVariables false
set_option linter.unusedSimpArgs false
def laws_heldChangeS.E (a : List Change) (k : Int) (Q : Int → Prop) : Prop :=
 (∃ (I18 : Int → Int → Prop) (mu19 : Int → Int → Nat), I18 k 0 ∧ ∀ (k3 : Int) (i2 : Int), I18 k3 i2 → (if decide (i2 < (a.length : Int)) then ((0 : Int) ≤ i2 ∧ i2 < (a.length : Int)) ∧ (∃ q : Str, laws_markText.E k3 (fun x => x = q) ∧ (Lim q) ∧ (if ((nth a i2).Id) != q then Q (-1) else ((a.length : Int) ≤ 9223372036854775807 → I64 (k3 + 1)) ∧ ((0 : Int) ≤ i2 ∧ i2 < (a.length : Int)) ∧ ((0 : Int) ≤ k3 + 1 ∧ (0 : Int) < 3) ∧ (if ((nth a i2).Had) != (((k3 + 1) % 3) == 0) then Q (-1) else ((a.length : Int) ≤ 9223372036854775807 → I64 (k3 + 1 + 1)) ∧ ((0 : Int) ≤ i2 ∧ i2 < (a.length : Int)) ∧ (∃ q2 : Str, laws_markText.E (k3 + 1 + 1) (fun x => x = q2) ∧ (Lim q2) ∧ (if ((nth a i2).Was.Id) != q2 then Q (-1) else ((a.length : Int) ≤ 9223372036854775807 → I64 (k3 + 1 + 1 + 1)) ∧ ((0 : Int) ≤ i2 ∧ i2 < (a.length : Int)) ∧ (if ((nth a i2).Was.Shape.Kind) != (k3 + 1 + 1 + 1) then Q (-1) else ((a.length : Int) ≤ 9223372036854775807 → I64 (k3 + 1 + 1 + 1 + 1)) ∧ ((0 : Int) ≤ i2 ∧ i2 < (a.length : Int)) ∧ laws_heldPtS.E ((nth a i2).Was.Shape.Pts) (k3 + 1 + 1 + 1 + 1) (fun r3 => (if decide (r3 < 0) then Q (-1) else ((0 : Int) ≤ i2 ∧ i2 < (a.length : Int)) ∧ laws_heldTagS.E ((nth a i2).Was.Tags) r3 (fun r4 => (if decide (r4 < 0) then Q (-1) else ((0 : Int) ≤ i2 ∧ i2 < (a.length : Int)) ∧ ((0 : Int) ≤ r4 ∧ (0 : Int) < 3) ∧ (if ((nth a i2).Has) != ((r4 % 3) == 0) then Q (-1) else ((a.length : Int) ≤ 9223372036854775807 → I64 (r4 + 1)) ∧ ((0 : Int) ≤ i2 ∧ i2 < (a.length : Int)) ∧ (∃ q3 : Str, laws_markText.E (r4 + 1) (fun x => x = q3) ∧ (Lim q3) ∧ (if ((nth a i2).Now.Id) != q3 then Q (-1) else ((a.length : Int) ≤ 9223372036854775807 → I64 (r4 + 1 + 1)) ∧ ((0 : Int) ≤ i2 ∧ i2 < (a.length : Int)) ∧ (if ((nth a i2).Now.Shape.Kind) != (r4 + 1 + 1) then Q (-1) else ((a.length : Int) ≤ 9223372036854775807 → I64 (r4 + 1 + 1 + 1)) ∧ ((0 : Int) ≤ i2 ∧ i2 < (a.length : Int)) ∧ laws_heldPtS.E ((nth a i2).Now.Shape.Pts) (r4 + 1 + 1 + 1) (fun r6 => (if decide (r6 < 0) then Q (-1) else ((0 : Int) ≤ i2 ∧ i2 < (a.length : Int)) ∧ laws_heldTagS.E ((nth a i2).Now.Tags) r6 (fun r7 => (if decide (r7 < 0) then Q (-1) else (-9223372036854775808 ≤ i2) ∧ I18 r7 (i2 + 1) ∧ mu19 r7 (i2 + 1) < mu19 k3 i2)))))))))))))))))) else Q k3))
set_option maxHeartbeats 8000000 in
set_option maxRecDepth 100000 in
theorem laws_heldChangeS.calls {O : Ob} (w0 : World) (hO : Ok w0 O) (a : List Change) (A1 : Option Addr) (n2 c3 : Nat) (hp4 : Sl kChange w0 (Fr O) (.slice A1 n2 c3) a) (k : Int) (Q : Int → Prop) (h : laws_heldChangeS.E a k Q) :
  Ret Try.prog 24 [.slice A1 n2 c3, vi k] w0 (fun v w' => ∃ (r0 : Int), v = vi r0 ∧ Q r0 ∧ Gr w0 w' none) := by
 have H : (∃ (I18 : Int → Int → Prop) (mu19 : Int → Int → Nat), I18 k 0 ∧ ∀ (k3 : Int) (i2 : Int), I18 k3 i2 → (if decide (i2 < (a.length : Int)) then ((0 : Int) ≤ i2 ∧ i2 < (a.length : Int)) ∧ (∃ q : Str, laws_markText.E k3 (fun x => x = q) ∧ (Lim q) ∧ (if ((nth a i2).Id) != q then Q (-1) else ((a.length : Int) ≤ 9223372036854775807 → I64 (k3 + 1)) ∧ ((0 : Int) ≤ i2 ∧ i2 < (a.length : Int)) ∧ ((0 : Int) ≤ k3 + 1 ∧ (0 : Int) < 3) ∧ (if ((nth a i2).Had) != (((k3 + 1) % 3) == 0) then Q (-1) else ((a.length : Int) ≤ 9223372036854775807 → I64 (k3 + 1 + 1)) ∧ ((0 : Int) ≤ i2 ∧ i2 < (a.length : Int)) ∧ (∃ q2 : Str, laws_markText.E (k3 + 1 + 1) (fun x => x = q2) ∧ (Lim q2) ∧ (if ((nth a i2).Was.Id) != q2 then Q (-1) else ((a.length : Int) ≤ 9223372036854775807 → I64 (k3 + 1 + 1 + 1)) ∧ ((0 : Int) ≤ i2 ∧ i2 < (a.length : Int)) ∧ (if ((nth a i2).Was.Shape.Kind) != (k3 + 1 + 1 + 1) then Q (-1) else ((a.length : Int) ≤ 9223372036854775807 → I64 (k3 + 1 + 1 + 1 + 1)) ∧ ((0 : Int) ≤ i2 ∧ i2 < (a.length : Int)) ∧ laws_heldPtS.E ((nth a i2).Was.Shape.Pts) (k3 + 1 + 1 + 1 + 1) (fun r3 => (if decide (r3 < 0) then Q (-1) else ((0 : Int) ≤ i2 ∧ i2 < (a.length : Int)) ∧ laws_heldTagS.E ((nth a i2).Was.Tags) r3 (fun r4 => (if decide (r4 < 0) then Q (-1) else ((0 : Int) ≤ i2 ∧ i2 < (a.length : Int)) ∧ ((0 : Int) ≤ r4 ∧ (0 : Int) < 3) ∧ (if ((nth a i2).Has) != ((r4 % 3) == 0) then Q (-1) else ((a.length : Int) ≤ 9223372036854775807 → I64 (r4 + 1)) ∧ ((0 : Int) ≤ i2 ∧ i2 < (a.length : Int)) ∧ (∃ q3 : Str, laws_markText.E (r4 + 1) (fun x => x = q3) ∧ (Lim q3) ∧ (if ((nth a i2).Now.Id) != q3 then Q (-1) else ((a.length : Int) ≤ 9223372036854775807 → I64 (r4 + 1 + 1)) ∧ ((0 : Int) ≤ i2 ∧ i2 < (a.length : Int)) ∧ (if ((nth a i2).Now.Shape.Kind) != (r4 + 1 + 1) then Q (-1) else ((a.length : Int) ≤ 9223372036854775807 → I64 (r4 + 1 + 1 + 1)) ∧ ((0 : Int) ≤ i2 ∧ i2 < (a.length : Int)) ∧ laws_heldPtS.E ((nth a i2).Now.Shape.Pts) (r4 + 1 + 1 + 1) (fun r6 => (if decide (r6 < 0) then Q (-1) else ((0 : Int) ≤ i2 ∧ i2 < (a.length : Int)) ∧ laws_heldTagS.E ((nth a i2).Now.Tags) r6 (fun r7 => (if decide (r7 < 0) then Q (-1) else (-9223372036854775808 ≤ i2) ∧ I18 r7 (i2 + 1) ∧ mu19 r7 (i2 + 1) < mu19 k3 i2)))))))))))))))))) else Q k3)) := h
 clear h
 have hc0 := Ct.init hO
 refine Ret_enter Try.func24 rfl 131 rfl [.tmp 4] rfl rfl ?_
 refine W_seq ?_
 refine W_reg ?_
 refine L_pu (P_assign (vi 0) rfl) ?_
 refine L_nil ?_
 refine W_seq ?_
 refine W_seq ?_
 refine W_reg ?_
 refine L_pu (P_assign (vi 0) rfl) ?_
 refine L_nil ?_
 refine W_block ?_
 obtain ⟨I18, mu19, hI20, H⟩ := H
 refine W_loop (α := Int × Int) (fun (sv__ : Int × Int) t w14 => match sv__ with | (k3, i2) => I18 k3 i2 ∧ Has t [(0, .slice A1 n2 c3), (1, vi k3), (5, vi i2)] ∧ Ct [] w0 w14 [] O ∧ Sl kChange w14 (Fr ([] ++ O)) (.slice A1 n2 c3) a) (fun (sv__ : Int × Int) => match sv__ with | (k3, i2) => mu19 k3 i2) (k, 0) ⟨hI20, ⟨rfl, rfl, rfl, trivial⟩, hc0, hp4⟩ ?_
 rintro ⟨k3, i2⟩ _ w14 ⟨hI20, hh22, hc16, h17⟩
 obtain ⟨u23, rfl⟩ := Has.ins hh22
 have H := H k3 i2 hI20
 refine W_seq ?_
 refine W_seq ?_
 refine W_reg ?_
 refine L_pu (P_move (vi i2) rfl) ?_
 refine L_pu (P_move (.slice A1 n2 c3) rfl) ?_
 have hl24 := h17.le
 refine L_pu (P_len Try.underlying43 A1 n2 c3 h17.len rfl) ?_
 refine L_pu (P_cmp i2 (a.length : Int) (decide (i2 < (a.length : Int))) rfl rfl rfl) ?_
 refine L_nil ?_
 refine W_cond (decide (i2 < (a.length : Int))) rfl (fun hq25 => ?_) (fun hq25 => ?_)
 ·have H := ite_t H hq25
  refine W_skip ?_
  refine W_seq ?_
  refine W_block ?_
  refine W_seq ?_
  refine W_seq ?_
  refine W_draw (fun x => Gr w14 x none) (by kernel_rfl) (by kernel_rfl) (Gr.drew _) ?_
  refine Q_pu (P_move (.slice A1 n2 c3) rfl) ?_
  refine Q_pu (P_move (vi i2) rfl) ?_
  obtain ⟨hb26, H⟩ := H
  obtain ⟨ad27, cs28, hA29, hS32, hR30, hcl31⟩ := h17.get default (by decide) i2 hb26
  obtain ⟨A35, n36, c37, A40, n41, c42, A46, n47, c48, A51, n52, c53, rfl, hs33, hs34, h38, h43, hs45, h49, h54⟩ := kChange.op hR30
  refine Q_pu (P_ia Try.underlying43 se43 A1 ad27 n2 c3 h17.len i2 rfl hA29 rfl hb26) ?_
  refine Q_pu (P_fa fa103_0 (ad27.add (i2.toNat * 11)) ((ad27.add (i2.toNat * 11)).add 0) rfl rfl) ?_
  refine Q_pu (P_ld ag9 cQ ((ad27.add (i2.toNat * 11)).add 0) (vs ((nth a i2).Id)) rfl (hcl31 0 _ rfl)) ?_
  refine Q_pu (P_move (vi k3) rfl) ?_
  obtain ⟨q, hE62, hs63, H⟩ := H
  refine Q_call go67 [vi k3] rfl (vs q) (fun w g => (laws_markText.calls w (hc16.k0 g).ok k3 _ hE62).mono ?_) ?_
  ·rintro _ w ⟨r, rfl, rfl, g2, _⟩
   exact ⟨rfl, Gr.t0 g g2⟩
  refine Q_pu (P_scmp ((nth a i2).Id) q (((nth a i2).Id) != q) rfl rfl rfl) ?_
  refine Q_nil fun w64 g65 => ?_
  have hc67 := hc16.k0 g65
  refine W_cond (((nth a i2).Id) != q) rfl (fun hq68 => ?_) (fun hq68 => ?_)
  ·have H := ite_t H hq68
   refine W_seq ?_
   refine W_reg ?_
   refine L_pu (P_assign (vi (-1)) rfl) ?_
   refine L_nil ?_
   refine W_ret ?_
   exact ⟨[vi (-1)], ⟨_, rfl, rfl⟩, (-1), rfl, H, hc67.gr.g0⟩
  ·have H := ite_f H hq68
   refine W_skip ?_
   refine W_seq ?_
   refine W_reg ?_
   refine L_pu (P_move (vi k3) rfl) ?_
   obtain ⟨hb69, H⟩ := H
   have hi70 := hb69 (len_le hl24)
   refine L_pu (P_add k3 1 rfl rfl hi70) ?_
   refine L_pu (P_assign (vi (k3 + 1)) rfl) ?_
   refine L_nil ?_
   refine W_seq ?_
   refine W_seq ?_
   refine W_reg ?_
   refine L_pu (P_move (.slice A1 n2 c3) rfl) ?_
   refine L_pu (P_move (vi i2) rfl) ?_
   obtain ⟨hb71, H⟩ := H
   obtain ⟨ad72, cs73, hA74, hS77, hR75, hcl76⟩ := (h17.st (.new _ g65)).get default (by decide) i2 hb71
   obtain ⟨A80, n81, c82, A85, n86, c87, A91, n92, c93, A96, n97, c98, rfl, hs78, hs79, h83, h88, hs90, h94, h99⟩ := kChange.op hR75
   refine L_pu (P_ia Try.underlying43 se43 A1 ad72 n2 c3 (h17.st (.new _ g65)).len i2 rfl hA74 rfl hb71) ?_
   refine L_pu (P_fa fa103_1 (ad72.add (i2.toNat * 11)) ((ad72.add (i2.toNat * 11)).add 1) rfl rfl) ?_
   refine L_pu (P_ld ag4 cL ((ad72.add (i2.toNat * 11)).add 1) (vb ((nth a i2).Had)) rfl (hcl76 1 _ rfl)) ?_
   refine L_pu (P_move (vi (k3 + 1)) rfl) ?_
   obtain ⟨hb101, H⟩ := H
   refine L_pu (P_rem (k3 + 1) 3 rfl rfl hb101) ?_
   refine L_pu (P_cmp ((k3 + 1) % 3) 0 (((k3 + 1) % 3) == 0) rfl rfl rfl) ?_
   refine L_pu (P_bcmp Try.underlying4 ((nth a i2).Had) (((k3 + 1) % 3) == 0) (((nth a i2).Had) != (((k3 + 1) % 3) == 0)) rfl rfl rfl) ?_
   refine L_nil ?_
   refine W_cond (((nth a i2).Had) != (((k3 + 1) % 3) == 0)) rfl (fun hq102 => ?_) (fun hq102 => ?_)
   ·have H := ite_t H hq102
    refine W_seq ?_
    refine W_reg ?_
    refine L_pu (P_assign (vi (-1)) rfl) ?_
    refine L_nil ?_
    refine W_ret ?_
    exact ⟨[vi (-1)], ⟨_, rfl, rfl⟩, (-1), rfl, H, hc67.gr.g0⟩
   ·have H := ite_f H hq102
    refine W_skip ?_
    refine W_seq ?_
    refine W_reg ?_
    refine L_pu (P_move (vi (k3 + 1)) rfl) ?_
    obtain ⟨hb103, H⟩ := H
    have hi104 := hb103 (len_le hl24)
    refine L_pu (P_add (k3 + 1) 1 rfl rfl hi104) ?_
    refine L_pu (P_assign (vi (k3 + 1 + 1)) rfl) ?_
    refine L_nil ?_
    refine W_seq ?_
    refine W_seq ?_
    refine W_draw (fun x => Gr w64 x none) (by kernel_rfl) (by kernel_rfl) (Gr.drew _) ?_
    refine Q_pu (P_move (.slice A1 n2 c3) rfl) ?_
    refine Q_pu (P_move (vi i2) rfl) ?_
    obtain ⟨hb105, H⟩ := H
    obtain ⟨ad106, cs107, hA108, hS111, hR109, hcl110⟩ := (h17.st (.new _ g65)).get default (by decide) i2 hb105
    obtain ⟨A114, n115, c116, A119, n120, c121, A125, n126, c127, A130, n131, c132, rfl, hs112, hs113, h117, h122, hs124, h128, h133⟩ := kChange.op hR109
    refine Q_pu (P_ia Try.underlying43 se43 A1 ad106 n2 c3 (h17.st (.new _ g65)).len i2 rfl hA108 rfl hb105) ?_
    refine Q_pu (P_fa fa103_2 (ad106.add (i2.toNat * 11)) ((ad106.add (i2.toNat * 11)).add 2) rfl rfl) ?_
    refine Q_pu (P_fa fa71_0 ((ad106.add (i2.toNat * 11)).add 2) (((ad106.add (i2.toNat * 11)).add 2).add 0) rfl rfl) ?_
    refine Q_pu (P_ld ag9 cQ (((ad106.add (i2.toNat * 11)).add 2).add 0) (vs ((nth a i2).Was.Id)) rfl ((congrArg w64.cell? (add_add _ _ _)).trans (hcl110 2 _ rfl))) ?_
    refine Q_pu (P_move (vi (k3 + 1 + 1)) rfl) ?_
    obtain ⟨q2, hE141, hs142, H⟩ := H
    refine Q_call go67 [vi (k3 + 1 + 1)] rfl (vs q2) (fun w g => (laws_markText.calls w (hc67.k0 g).ok (k3 + 1 + 1) _ hE141).mono ?_) ?_
    ·rintro _ w ⟨r, rfl, rfl, g2, _⟩
     exact ⟨rfl, Gr.t0 g g2⟩
    refine Q_pu (P_scmp ((nth a i2).Was.Id) q2 (((nth a i2).Was.Id) != q2) rfl rfl rfl) ?_
    refine Q_nil fun w143 g144 => ?_
    have hc146 := hc67.k0 g144
    refine W_cond (((nth a i2).Was.Id) != q2) rfl (fun hq147 => ?_) (fun hq147 => ?_)
    ·have H := ite_t H hq147
     refine W_seq ?_
     refine W_reg ?_
     refine L_pu (P_assign (vi (-1)) rfl) ?_
     refine L_nil ?_
     refine W_ret ?_
     exact ⟨[vi (-1)], ⟨_, rfl, rfl⟩, (-1), rfl, H, hc146.gr.g0⟩
    ·have H := ite_f H hq147
     refine W_skip ?_
     refine W_seq ?_
     refine W_reg ?_
     refine L_pu (P_move (vi (k3 + 1 + 1)) rfl) ?_
     obtain ⟨hb148, H⟩ := H
     have hi149 := hb148 (len_le hl24)
     refine L_pu (P_add (k3 + 1 + 1) 1 rfl rfl hi149) ?_
     refine L_pu (P_assign (vi (k3 + 1 + 1 + 1)) rfl) ?_
     refine L_nil ?_
     refine W_seq ?_
     refine W_seq ?_
     refine W_reg ?_
     refine L_pu (P_move (.slice A1 n2 c3) rfl) ?_
     refine L_pu (P_move (vi i2) rfl) ?_
     obtain ⟨hb150, H⟩ := H
     have h157 := ((h17.st (.new _ g65)).st (.new _ g144))
     obtain ⟨ad151, cs152, hA153, hS156, hR154, hcl155⟩ := h157.get default (by decide) i2 hb150
     obtain ⟨A160, n161, c162, A165, n166, c167, A171, n172, c173, A176, n177, c178, rfl, hs158, hs159, h163, h168, hs170, h174, h179⟩ := kChange.op hR154
     refine L_pu (P_ia Try.underlying43 se43 A1 ad151 n2 c3 h157.len i2 rfl hA153 rfl hb150) ?_
     refine L_pu (P_fa fa103_2 (ad151.add (i2.toNat * 11)) ((ad151.add (i2.toNat * 11)).add 2) rfl rfl) ?_
     refine L_pu (P_fa fa71_1 ((ad151.add (i2.toNat * 11)).add 2) (((ad151.add (i2.toNat * 11)).add 2).add 1) rfl rfl) ?_
     refine L_pu (P_fa fa68_0 (((ad151.add (i2.toNat * 11)).add 2).add 1) ((((ad151.add (i2.toNat * 11)).add 2).add 1).add 0) rfl rfl) ?_
     refine L_pu (P_ld ag3 cL ((((ad151.add (i2.toNat * 11)).add 2).add 1).add 0) (vi ((nth a i2).Was.Shape.Kind)) rfl ((congrArg w143.cell? (add_add _ _ _)).trans (hcl155 3 _ rfl))) ?_
     refine L_pu (P_move (vi (k3 + 1 + 1 + 1)) rfl) ?_
     refine L_pu (P_cmp ((nth a i2).Was.Shape.Kind) (k3 + 1 + 1 + 1) (((nth a i2).Was.Shape.Kind) != (k3 + 1 + 1 + 1)) rfl rfl rfl) ?_
     refine L_nil ?_
     refine W_cond (((nth a i2).Was.Shape.Kind) != (k3 + 1 + 1 + 1)) rfl (fun hq181 => ?_) (fun hq181 => ?_)
     ·have H := ite_t H hq181
      refine W_seq ?_
      refine W_reg ?_
      refine L_pu (P_assign (vi (-1)) rfl) ?_
      refine L_nil ?_
      refine W_ret ?_
      exact ⟨[vi (-1)], ⟨_, rfl, rfl⟩, (-1), rfl, H, hc146.gr.g0⟩
     ·have H := ite_f H hq181
      refine W_skip ?_
      refine W_seq ?_
      refine W_reg ?_
      refine L_pu (P_move (vi (k3 + 1 + 1 + 1)) rfl) ?_
      obtain ⟨hb182, H⟩ := H
      have hi183 := hb182 (len_le hl24)
      refine L_pu (P_add (k3 + 1 + 1 + 1) 1 rfl rfl hi183) ?_
      refine L_pu (P_assign (vi (k3 + 1 + 1 + 1 + 1)) rfl) ?_
      refine L_nil ?_
      refine W_seq ?_
      refine W_reg ?_
      refine L_pu (P_move (.slice A1 n2 c3) rfl) ?_
      refine L_pu (P_move (vi i2) rfl) ?_
      obtain ⟨hb184, H⟩ := H
      obtain ⟨ad185, cs186, hA187, hS190, hR188, hcl189⟩ := h157.get default (by decide) i2 hb184
      obtain ⟨A193, n194, c195, A198, n199, c200, A204, n205, c206, A209, n210, c211, rfl, hs191, hs192, h196, h201, hs203, h207, h212⟩ := kChange.op hR188
      refine L_pu (P_ia Try.underlying43 se43 A1 ad185 n2 c3 h157.len i2 rfl hA187 rfl hb184) ?_
      refine L_pu (P_fa fa103_2 (ad185.add (i2.toNat * 11)) ((ad185.add (i2.toNat * 11)).add 2) rfl rfl) ?_
      refine L_pu (P_fa fa71_1 ((ad185.add (i2.toNat * 11)).add 2) (((ad185.add (i2.toNat * 11)).add 2).add 1) rfl rfl) ?_
      refine L_pu (P_fa fa68_1 (((ad185.add (i2.toNat * 11)).add 2).add 1) ((((ad185.add (i2.toNat * 11)).add 2).add 1).add 1) rfl rfl) ?_
      refine L_pu (P_ld ag23 cL ((((ad185.add (i2.toNat * 11)).add 2).add 1).add 1) (.slice A193 n194 c195) rfl ((congrArg w143.cell? (add_add _ _ _)).trans (hcl189 4 _ rfl))) ?_
      refine L_pu (P_move (vi (k3 + 1 + 1 + 1 + 1)) rfl) ?_
      refine L_call go70 [.slice A193 n194 c195, vi (k3 + 1 + 1 + 1 + 1)] rfl ((laws_heldPtS.calls w143 hc146.ok ((nth a i2).Was.Shape.Pts) A193 n194 c195 h196 (k3 + 1 + 1 + 1 + 1) _ H).mono ?_)
      rintro _ w214 ⟨r3, rfl, H, g215⟩
      have hc219 := hc146.k0 g215
      refine L_pu (P_assign (vi r3) rfl) ?_
      refine L_nil ?_
      refine W_seq ?_
      refine W_seq ?_
      refine W_reg ?_
      refine L_pu (P_move (vi r3) rfl) ?_
      refine L_pu (P_cmp r3 0 (decide (r3 < 0)) rfl rfl rfl) ?_
      refine L_nil ?_
      refine W_cond (decide (r3 < 0)) rfl (fun hq220 => ?_) (fun hq220 => ?_)
      ·have H := ite_t H hq220
       refine W_seq ?_
       refine W_reg ?_
       refine L_pu (P_assign (vi (-1)) rfl) ?_
       refine L_nil ?_
       refine W_ret ?_
       exact ⟨[vi (-1)], ⟨_, rfl, rfl⟩, (-1), rfl, H, hc219.gr.g0⟩
      ·have H := ite_f H hq220
       refine W_skip ?_
       refine W_seq ?_
       refine W_reg ?_
       refine L_pu (P_move (.slice A1 n2 c3) rfl) ?_
       refine L_pu (P_move (vi i2) rfl) ?_
       obtain ⟨hb221, H⟩ := H
       obtain ⟨ad222, cs223, hA224, hS227, hR225, hcl226⟩ := (h157.st (.new _ g215)).get default (by decide) i2 hb221
       obtain ⟨A230, n231, c232, A235, n236, c237, A241, n242, c243, A246, n247, c248, rfl, hs228, hs229, h233, h238, hs240, h244, h249⟩ := kChange.op hR225
       refine L_pu (P_ia Try.underlying43 se43 A1 ad222 n2 c3 (h157.st (.new _ g215)).len i2 rfl hA224 rfl hb221) ?_
       refine L_pu (P_fa fa103_2 (ad222.add (i2.toNat * 11)) ((ad222.add (i2.toNat * 11)).add 2) rfl rfl) ?_
       refine L_pu (P_fa fa71_2 ((ad222.add (i2.toNat * 11)).add 2) (((ad222.add (i2.toNat * 11)).add 2).add 3) rfl rfl) ?_
       refine L_pu (P_ld ag69 cL (((ad222.add (i2.toNat * 11)).add 2).add 3) (.slice A235 n236 c237) rfl ((congrArg w214.cell? (add_add _ _ _)).trans (hcl226 5 _ rfl))) ?_
       refine L_pu (P_move (vi r3) rfl) ?_
       refine L_call go71 [.slice A235 n236 c237, vi r3] rfl ((laws_heldTagS.calls w214 hc219.ok ((nth a i2).Was.Tags) A235 n236 c237 h238 r3 _ H).mono ?_)
       rintro _ w251 ⟨r4, rfl, H, g252⟩
       have hc256 := hc219.k0 g252
       refine L_pu (P_assign (vi r4) rfl) ?_
       refine L_nil ?_
       refine W_seq ?_
       refine W_seq ?_
       refine W_reg ?_
       refine L_pu (P_move (vi r4) rfl) ?_
       refine L_pu (P_cmp r4 0 (decide (r4 < 0)) rfl rfl rfl) ?_
       refine L_nil ?_
       refine W_cond (decide (r4 < 0)) rfl (fun hq257 => ?_) (fun hq257 => ?_)
       ·have H := ite_t H hq257
        refine W_seq ?_
        refine W_reg ?_
        refine L_pu (P_assign (vi (-1)) rfl) ?_
        refine L_nil ?_
        refine W_ret ?_
        exact ⟨[vi (-1)], ⟨_, rfl, rfl⟩, (-1), rfl, H, hc256.gr.g0⟩
       ·have H := ite_f H hq257
        refine W_skip ?_
        refine W_seq ?_
        refine W_seq ?_
        refine W_reg ?_
        refine L_pu (P_move (.slice A1 n2 c3) rfl) ?_
        refine L_pu (P_move (vi i2) rfl) ?_
        obtain ⟨hb258, H⟩ := H
        have h265 := ((h157.st (.new _ g215)).st (.new _ g252))
        obtain ⟨ad259, cs260, hA261, hS264, hR262, hcl263⟩ := h265.get default (by decide) i2 hb258
        obtain ⟨A268, n269, c270, A273, n274, c275, A279, n280, c281, A284, n285, c286, rfl, hs266, hs267, h271, h276, hs278, h282, h287⟩ := kChange.op hR262
        refine L_pu (P_ia Try.underlying43 se43 A1 ad259 n2 c3 h265.len i2 rfl hA261 rfl hb258) ?_
        refine L_pu (P_fa fa103_3 (ad259.add (i2.toNat * 11)) ((ad259.add (i2.toNat * 11)).add 6) rfl rfl) ?_
        refine L_pu (P_ld ag4 cL ((ad259.add (i2.toNat * 11)).add 6) (vb ((nth a i2).Has)) rfl (hcl263 6 _ rfl)) ?_
        refine L_pu (P_move (vi r4) rfl) ?_
        obtain ⟨hb289, H⟩ := H
        refine L_pu (P_rem r4 3 rfl rfl hb289) ?_
        refine L_pu (P_cmp (r4 % 3) 0 ((r4 % 3) == 0) rfl rfl rfl) ?_
        refine L_pu (P_bcmp Try.underlying4 ((nth a i2).Has) ((r4 % 3) == 0) (((nth a i2).Has) != ((r4 % 3) == 0)) rfl rfl rfl) ?_
        refine L_nil ?_
        refine W_cond (((nth a i2).Has) != ((r4 % 3) == 0)) rfl (fun hq290 => ?_) (fun hq290 => ?_)
        ·have H := ite_t H hq290
         refine W_seq ?_
         refine W_reg ?_
         refine L_pu (P_assign (vi (-1)) rfl) ?_
         refine L_nil ?_
         refine W_ret ?_
         exact ⟨[vi (-1)], ⟨_, rfl, rfl⟩, (-1), rfl, H, hc256.gr.g0⟩
        ·have H := ite_f H hq290
         refine W_skip ?_
         refine W_seq ?_
         refine W_reg ?_
         refine L_pu (P_move (vi r4) rfl) ?_
         obtain ⟨hb291, H⟩ := H
         have hi292 := hb291 (len_le hl24)
         refine L_pu (P_add r4 1 rfl rfl hi292) ?_
         refine L_pu (P_assign (vi (r4 + 1)) rfl) ?_
         refine L_nil ?_
         refine W_seq ?_
         refine W_seq ?_
         refine W_draw (fun x => Gr w251 x none) (by kernel_rfl) (by kernel_rfl) (Gr.drew _) ?_
         refine Q_pu (P_move (.slice A1 n2 c3) rfl) ?_
         refine Q_pu (P_move (vi i2) rfl) ?_
         obtain ⟨hb293, H⟩ := H
         obtain ⟨ad294, cs295, hA296, hS299, hR297, hcl298⟩ := h265.get default (by decide) i2 hb293
         obtain ⟨A302, n303, c304, A307, n308, c309, A313, n314, c315, A318, n319, c320, rfl, hs300, hs301, h305, h310, hs312, h316, h321⟩ := kChange.op hR297
         refine Q_pu (P_ia Try.underlying43 se43 A1 ad294 n2 c3 h265.len i2 rfl hA296 rfl hb293) ?_
         refine Q_pu (P_fa fa103_4 (ad294.add (i2.toNat * 11)) ((ad294.add (i2.toNat * 11)).add 7) rfl rfl) ?_
         refine Q_pu (P_fa fa71_0 ((ad294.add (i2.toNat * 11)).add 7) (((ad294.add (i2.toNat * 11)).add 7).add 0) rfl rfl) ?_
         refine Q_pu (P_ld ag9 cQ (((ad294.add (i2.toNat * 11)).add 7).add 0) (vs ((nth a i2).Now.Id)) rfl ((congrArg w251.cell? (add_add _ _ _)).trans (hcl298 7 _ rfl))) ?_
         refine Q_pu (P_move (vi (r4 + 1)) rfl) ?_
         obtain ⟨q3, hE329, hs330, H⟩ := H
         refine Q_call go67 [vi (r4 + 1)] rfl (vs q3) (fun w g => (laws_markText.calls w (hc256.k0 g).ok (r4 + 1) _ hE329).mono ?_) ?_
         ·rintro _ w ⟨r, rfl, rfl, g2, _⟩
          exact ⟨rfl, Gr.t0 g g2⟩
         refine Q_pu (P_scmp ((nth a i2).Now.Id) q3 (((nth a i2).Now.Id) != q3) rfl rfl rfl) ?_
         refine Q_nil fun w331 g332 => ?_
         have hc334 := hc256.k0 g332
         refine W_cond (((nth a i2).Now.Id) != q3) rfl (fun hq335 => ?_) (fun hq335 => ?_)
         ·have H := ite_t H hq335
          refine W_seq ?_
          refine W_reg ?_
          refine L_pu (P_assign (vi (-1)) rfl) ?_
          refine L_nil ?_
          refine W_ret ?_
          exact ⟨[vi (-1)], ⟨_, rfl, rfl⟩, (-1), rfl, H, hc334.gr.g0⟩
         ·have H := ite_f H hq335
          refine W_skip ?_
          refine W_seq ?_
          refine W_reg ?_
          refine L_pu (P_move (vi (r4 + 1)) rfl) ?_
          obtain ⟨hb336, H⟩ := H
          have hi337 := hb336 (len_le hl24)
          refine L_pu (P_add (r4 + 1) 1 rfl rfl hi337) ?_
          refine L_pu (P_assign (vi (r4 + 1 + 1)) rfl) ?_
          refine L_nil ?_
          refine W_seq ?_
          refine W_seq ?_
          refine W_reg ?_
          refine L_pu (P_move (.slice A1 n2 c3) rfl) ?_
          refine L_pu (P_move (vi i2) rfl) ?_
          obtain ⟨hb338, H⟩ := H
          obtain ⟨ad339, cs340, hA341, hS344, hR342, hcl343⟩ := (h265.st (.new _ g332)).get default (by decide) i2 hb338
          obtain ⟨A347, n348, c349, A352, n353, c354, A358, n359, c360, A363, n364, c365, rfl, hs345, hs346, h350, h355, hs357, h361, h366⟩ := kChange.op hR342
          refine L_pu (P_ia Try.underlying43 se43 A1 ad339 n2 c3 (h265.st (.new _ g332)).len i2 rfl hA341 rfl hb338) ?_
          refine L_pu (P_fa fa103_4 (ad339.add (i2.toNat * 11)) ((ad339.add (i2.toNat * 11)).add 7) rfl rfl) ?_
          refine L_pu (P_fa fa71_1 ((ad339.add (i2.toNat * 11)).add 7) (((ad339.add (i2.toNat * 11)).add 7).add 1) rfl rfl) ?_
          refine L_pu (P_fa fa68_0 (((ad339.add (i2.toNat * 11)).add 7).add 1) ((((ad339.add (i2.toNat * 11)).add 7).add 1).add 0) rfl rfl) ?_
          refine L_pu (P_ld ag3 cL ((((ad339.add (i2.toNat * 11)).add 7).add 1).add 0) (vi ((nth a i2).Now.Shape.Kind)) rfl ((congrArg w331.cell? (add_add _ _ _)).trans (hcl343 8 _ rfl))) ?_
          refine L_pu (P_move (vi (r4 + 1 + 1)) rfl) ?_
          refine L_pu (P_cmp ((nth a i2).Now.Shape.Kind) (r4 + 1 + 1) (((nth a i2).Now.Shape.Kind) != (r4 + 1 + 1)) rfl rfl rfl) ?_
          refine L_nil ?_
          refine W_cond (((nth a i2).Now.Shape.Kind) != (r4 + 1 + 1)) rfl (fun hq368 => ?_) (fun hq368 => ?_)
          ·have H := ite_t H hq368
           refine W_seq ?_
           refine W_reg ?_
           refine L_pu (P_assign (vi (-1)) rfl) ?_
           refine L_nil ?_
           refine W_ret ?_
           exact ⟨[vi (-1)], ⟨_, rfl, rfl⟩, (-1), rfl, H, hc334.gr.g0⟩
          ·have H := ite_f H hq368
           refine W_skip ?_
           refine W_seq ?_
           refine W_reg ?_
           refine L_pu (P_move (vi (r4 + 1 + 1)) rfl) ?_
           obtain ⟨hb369, H⟩ := H
           have hi370 := hb369 (len_le hl24)
           refine L_pu (P_add (r4 + 1 + 1) 1 rfl rfl hi370) ?_
           refine L_pu (P_assign (vi (r4 + 1 + 1 + 1)) rfl) ?_
           refine L_nil ?_
           refine W_seq ?_
           refine W_reg ?_
           refine L_pu (P_move (.slice A1 n2 c3) rfl) ?_
           refine L_pu (P_move (vi i2) rfl) ?_
           obtain ⟨hb371, H⟩ := H
           obtain ⟨ad372, cs373, hA374, hS377, hR375, hcl376⟩ := (h265.st (.new _ g332)).get default (by decide) i2 hb371
           obtain ⟨A380, n381, c382, A385, n386, c387, A391, n392, c393, A396, n397, c398, rfl, hs378, hs379, h383, h388, hs390, h394, h399⟩ := kChange.op hR375
           refine L_pu (P_ia Try.underlying43 se43 A1 ad372 n2 c3 (h265.st (.new _ g332)).len i2 rfl hA374 rfl hb371) ?_
           refine L_pu (P_fa fa103_4 (ad372.add (i2.toNat * 11)) ((ad372.add (i2.toNat * 11)).add 7) rfl rfl) ?_
           refine L_pu (P_fa fa71_1 ((ad372.add (i2.toNat * 11)).add 7) (((ad372.add (i2.toNat * 11)).add 7).add 1) rfl rfl) ?_
           refine L_pu (P_fa fa68_1 (((ad372.add (i2.toNat * 11)).add 7).add 1) ((((ad372.add (i2.toNat * 11)).add 7).add 1).add 1) rfl rfl) ?_
           refine L_pu (P_ld ag23 cL ((((ad372.add (i2.toNat * 11)).add 7).add 1).add 1) (.slice A391 n392 c393) rfl ((congrArg w331.cell? (add_add _ _ _)).trans (hcl376 9 _ rfl))) ?_
           refine L_pu (P_move (vi (r4 + 1 + 1 + 1)) rfl) ?_
           refine L_call go70 [.slice A391 n392 c393, vi (r4 + 1 + 1 + 1)] rfl ((laws_heldPtS.calls w331 hc334.ok ((nth a i2).Now.Shape.Pts) A391 n392 c393 h394 (r4 + 1 + 1 + 1) _ H).mono ?_)
           rintro _ w401 ⟨r6, rfl, H, g402⟩
           have hc406 := hc334.k0 g402
           refine L_pu (P_assign (vi r6) rfl) ?_
           refine L_nil ?_
           refine W_seq ?_
           refine W_seq ?_
           refine W_reg ?_
           refine L_pu (P_move (vi r6) rfl) ?_
           refine L_pu (P_cmp r6 0 (decide (r6 < 0)) rfl rfl rfl) ?_
           refine L_nil ?_
           refine W_cond (decide (r6 < 0)) rfl (fun hq407 => ?_) (fun hq407 => ?_)
           ·have H := ite_t H hq407
            refine W_seq ?_
            refine W_reg ?_
            refine L_pu (P_assign (vi (-1)) rfl) ?_
            refine L_nil ?_
            refine W_ret ?_
            exact ⟨[vi (-1)], ⟨_, rfl, rfl⟩, (-1), rfl, H, hc406.gr.g0⟩
           ·have H := ite_f H hq407
            refine W_skip ?_
            refine W_seq ?_
            refine W_reg ?_
            refine L_pu (P_move (.slice A1 n2 c3) rfl) ?_
            refine L_pu (P_move (vi i2) rfl) ?_
            obtain ⟨hb408, H⟩ := H
            have h415 := ((h265.st (.new _ g332)).st (.new _ g402))
            obtain ⟨ad409, cs410, hA411, hS414, hR412, hcl413⟩ := h415.get default (by decide) i2 hb408
            obtain ⟨A418, n419, c420, A423, n424, c425, A429, n430, c431, A434, n435, c436, rfl, hs416, hs417, h421, h426, hs428, h432, h437⟩ := kChange.op hR412
            refine L_pu (P_ia Try.underlying43 se43 A1 ad409 n2 c3 h415.len i2 rfl hA411 rfl hb408) ?_
            refine L_pu (P_fa fa103_4 (ad409.add (i2.toNat * 11)) ((ad409.add (i2.toNat * 11)).add 7) rfl rfl) ?_
            refine L_pu (P_fa fa71_2 ((ad409.add (i2.toNat * 11)).add 7) (((ad409.add (i2.toNat * 11)).add 7).add 3) rfl rfl) ?_
            refine L_pu (P_ld ag69 cL (((ad409.add (i2.toNat * 11)).add 7).add 3) (.slice A434 n435 c436) rfl ((congrArg w401.cell? (add_add _ _ _)).trans (hcl413 10 _ rfl))) ?_
            refine L_pu (P_move (vi r6) rfl) ?_
            refine L_call go71 [.slice A434 n435 c436, vi r6] rfl ((laws_heldTagS.calls w401 hc406.ok ((nth a i2).Now.Tags) A434 n435 c436 h437 r6 _ H).mono ?_)
            rintro _ w439 ⟨r7, rfl, H, g440⟩
            have hc444 := hc406.k0 g440
            refine L_pu (P_assign (vi r7) rfl) ?_
            refine L_nil ?_
            refine W_seq ?_
            refine W_reg ?_
            refine L_pu (P_move (vi r7) rfl) ?_
            refine L_pu (P_cmp r7 0 (decide (r7 < 0)) rfl rfl rfl) ?_
            refine L_nil ?_
            refine W_cond (decide (r7 < 0)) rfl (fun hq445 => ?_) (fun hq445 => ?_)
            ·have H := ite_t H hq445
             refine W_seq ?_
             refine W_reg ?_
             refine L_pu (P_assign (vi (-1)) rfl) ?_
             refine L_nil ?_
             refine W_ret ?_
             exact ⟨[vi (-1)], ⟨_, rfl, rfl⟩, (-1), rfl, H, hc444.gr.g0⟩
            ·have H := ite_f H hq445
             refine W_skip ?_
             refine W_reg ?_
             refine L_pu (P_move (vi i2) rfl) ?_
             obtain ⟨hb447, H⟩ := H
             have hi446 : I64 (i2 + 1) := i64_succ (of_decide_eq_true hq25) hl24 hb447
             refine L_pu (P_add i2 1 rfl rfl hi446) ?_
             refine L_pu (P_assign (vi (i2 + 1)) rfl) ?_
             refine L_nil ?_
             obtain ⟨hI448, hm449⟩ := H
             exact ⟨(r7, i2 + 1), hm449, hI448, ⟨rfl, rfl, rfl, trivial⟩, hc444, (h415.st (.new _ g440))⟩
 ·have H := ite_f H hq25
  refine W_exit (xin_hit ?_)
  refine W_seq ?_
  refine W_reg ?_
  refine L_pu (P_move (vi k3) rfl) ?_
  refine L_pu (P_assign (vi k3) rfl) ?_
  refine L_nil ?_
  refine W_ret ?_
  exact ⟨[vi k3], ⟨_, rfl, rfl⟩, k3, rfl, H, hc16.gr.g0⟩
end Go.Proofs.Ytndjggncgpjolaa

namespace Go.Proofs.Ytndjggncgpjolaa
set_option linter.unusedVariables false
set_option linter.unusedSimpArgs false
set_option linter.unusedSectionVars false
theorem laws_heldChangeS.lawk (a : List Change) (k : Int) (Q : Int → Prop) (ha : bulk a ≤ 1048576) (h0 : 0 ≤ k) (h1 : k ≤ 500000000) (hq : Q (mkL gChange a k).2) : laws_heldChangeS.E (mkL gChange a k).1 k Q := by
 unfold laws_heldChangeS.E
 have hbl := bulk_len a
 rw [mkL_len]
 refine ⟨fun k' i => ∃ u : Nat, i = u ∧ Hd gChange a k u k', fun _ i => (a.length - i).toNat, ⟨0, rfl, .zero a k⟩, ?_⟩
 rintro k' _ ⟨u, rfl, M⟩
 have hb := M.bd gChange_bd
 by_cases h : u < a.length
 ·rw [if_pos (by simpa using h), M.nth h]
  have hm := bulk_mem (nth_mem a h)
  have hn := M.next h
  have hc := bulk_change (nth a (u : Int))
  have hb1 := bulk_feat (nth a (u : Int)).Was
  have hb2 := bulk_feat (nth a (u : Int)).Now
  have hp := mkL_bd gPt_bd (nth a (u : Int)).Was.Shape.Pts (k' + 4)
  have ht := mkL_bd gTag_bd (nth a (u : Int)).Was.Tags (mkL gPt (nth a (u : Int)).Was.Shape.Pts (k' + 4)).2
  have hq2 := mkL_bd gPt_bd (nth a (u : Int)).Now.Shape.Pts ((mkL gTag (nth a (u : Int)).Was.Tags (mkL gPt (nth a (u : Int)).Was.Shape.Pts (k' + 4)).2).2 + 3)
  have hs2 := mkL_bd gTag_bd (nth a (u : Int)).Now.Tags (mkL gPt (nth a (u : Int)).Now.Shape.Pts ((mkL gTag (nth a (u : Int)).Was.Tags (mkL gPt (nth a (u : Int)).Was.Shape.Pts (k' + 4)).2).2 + 3)).2
  simp only [Int.add_assoc, Int.reduceAdd]
  refine ⟨by omega, tx k', laws_markText.q _ (by omega) (by omega), tx_lim _ (by omega) (by omega), ?_⟩
  rw [if_neg (by simp [gChange])]
  refine ⟨fun _ => by unfold I64; omega, by omega, ⟨by omega, by omega⟩, ?_⟩
  rw [if_neg (by simp [gChange])]
  refine ⟨fun _ => by unfold I64; omega, by omega, tx (k' + 2), laws_markText.q _ (by omega) (by omega), tx_lim _ (by omega) (by omega), ?_⟩
  rw [if_neg (by simp [gChange])]
  refine ⟨fun _ => by unfold I64; omega, by omega, ?_⟩
  rw [if_neg (by simp [gChange])]
  refine ⟨fun _ => by unfold I64; omega, by omega, laws_heldPtS.lawk (nth a (u : Int)).Was.Shape.Pts _ _ (by omega) (by omega) (by omega) ?_⟩
  rw [if_neg (by rw [decide_eq_true_eq]; omega)]
  refine ⟨by omega, laws_heldTagS.lawk (nth a (u : Int)).Was.Tags _ _ (by omega) (by omega) (by omega) ?_⟩
  rw [if_neg (by rw [decide_eq_true_eq]; omega)]
  refine ⟨by omega, ⟨by omega, by omega⟩, ?_⟩
  rw [if_neg (by simp [gChange])]
  refine ⟨fun _ => by unfold I64; omega, by omega, tx ((mkL gTag (nth a (u : Int)).Was.Tags (mkL gPt (nth a (u : Int)).Was.Shape.Pts (k' + 4)).2).2 + 1), laws_markText.q _ (by omega) (by omega), tx_lim _ (by omega) (by omega), ?_⟩
  rw [if_neg (by simp [gChange])]
  refine ⟨fun _ => by unfold I64; omega, by omega, ?_⟩
  rw [if_neg (by simp [gChange])]
  refine ⟨fun _ => by unfold I64; omega, by omega, laws_heldPtS.lawk (nth a (u : Int)).Now.Shape.Pts _ _ (by omega) (by omega) (by omega) ?_⟩
  rw [if_neg (by rw [decide_eq_true_eq]; omega)]
  refine ⟨by omega, laws_heldTagS.lawk (nth a (u : Int)).Now.Tags _ _ (by omega) (by omega) (by omega) ?_⟩
  rw [if_neg (by rw [decide_eq_true_eq]; omega)]
  exact ⟨by omega, ⟨u + 1, by omega, hn⟩, by first | omega | (dsimp only; omega)⟩
 ·rw [if_neg (by simpa using h), M.full h]; exact hq
end Go.Proofs.Ytndjggncgpjolaa

namespace Go.Proofs.Ytndjggncgpjolaa
open Go.RowKit
set_option linter.unusedVariables false
set_option linter.unusedSimpArgs false
def laws_FnExactDiffThen.E (aA : List Change) (aB : List Change) (Q : Bool → Prop) : Prop :=
 laws_szChangeS.E aA 1048576 (fun r => (if decide (r < 0) then Q true else laws_szChangeS.E aB r (fun r2 => (if decide (r2 < 0) then Q true else laws_toChangeS.E aA (fun r3 => laws_toChangeS.E aB (fun r4 => spec_DiffThen.E r3 r4 (fun r5 r6 => laws_toChangeS.E aA (fun r7 => laws_toChangeS.E aB (fun r8 => impl_DiffThen.E r7 r8 (fun r9 r10 => laws_eqChangeS.E r9 r5 (fun r11 => (if !r11 then Q false else (if r10 != r6 then Q false else laws_toChangeS.E aA (fun r12 => laws_eqChangeS.E r7 r12 (fun r13 => (if !r13 then Q false else laws_toChangeS.E aB (fun r14 => laws_eqChangeS.E r8 r14 (fun r15 => (if !r15 then Q false else laws_markChangeS.E r7 1 (fun r16 m => laws_markChangeS.E r8 r16 (fun r17 m2 => (if decide (r17 < 0) then Q false else laws_eqChangeS.E r9 r5 (fun r18 => (if !r18 then Q false else laws_markChangeS.E r9 1 (fun r19 m3 => laws_heldChangeS.E m3 1 (fun r20 => (if decide (r20 < 0) then Q false else (if r20 != r19 then Q false else laws_toChangeS.E aA (fun r21 => laws_toChangeS.E aB (fun r22 => impl_DiffThen.E r21 r22 (fun r23 r24 => laws_eqChangeS.E r23 r5 (fun r25 => (if !r25 then Q false else (if r24 != r6 then Q false else laws_heldChangeS.E m3 1 (fun r26 => (if decide (r26 < 0) then Q false else (if r26 != r19 then Q false else Q true)))))))))))))))))))))))))))))))))))))
set_option maxHeartbeats 8000000 in
set_option maxRecDepth 100000 in
theorem laws_FnExactDiffThen.calls {O : Ob} (w0 : World) (hO : Ok w0 O) (aA : List Change) (A1 : Option Addr) (n2 c3 : Nat) (hp4 : Sl kChange w0 (Fr O) (.slice A1 n2 c3) aA) (aB : List Change) (A6 : Option Addr) (n7 c8 : Nat) (hp9 : Sl kChange w0 (Fr O) (.slice A6 n7 c8) aB) (Q : Bool → Prop) (h : laws_FnExactDiffThen.E aA aB Q) :
  Ret Try.prog 7 [.slice A1 n2 c3, .slice A6 n7 c8] w0 (fun v w' => ∃ (r0 : Bool), v = vb r0 ∧ Q r0 ∧ Gr w0 w' none) := by
 have H : laws_szChangeS.E aA 1048576 (fun r => (if decide (r < 0) then Q true else laws_szChangeS.E aB r (fun r2 => (if decide (r2 < 0) then Q true else laws_toChangeS.E aA (fun r3 => laws_toChangeS.E aB (fun r4 => spec_DiffThen.E r3 r4 (fun r5 r6 => laws_toChangeS.E aA (fun r7 => laws_toChangeS.E aB (fun r8 => impl_DiffThen.E r7 r8 (fun r9 r10 => laws_eqChangeS.E r9 r5 (fun r11 => (if !r11 then Q false else (if r10 != r6 then Q false else laws_toChangeS.E aA (fun r12 => laws_eqChangeS.E r7 r12 (fun r13 => (if !r13 then Q false else laws_toChangeS.E aB (fun r14 => laws_eqChangeS.E r8 r14 (fun r15 => (if !r15 then Q false else laws_markChangeS.E r7 1 (fun r16 m => laws_markChangeS.E r8 r16 (fun r17 m2 => (if decide (r17 < 0) then Q false else laws_eqChangeS.E r9 r5 (fun r18 => (if !r18 then Q false else laws_markChangeS.E r9 1 (fun r19 m3 => laws_heldChangeS.E m3 1 (fun r20 => (if decide (r20 < 0) then Q false else (if r20 != r19 then Q false else laws_toChangeS.E aA (fun r21 => laws_toChangeS.E aB (fun r22 => impl_DiffThen.E r21 r22 (fun r23 r24 => laws_eqChangeS.E r23 r5 (fun r25 => (if !r25 then Q false else (if r24 != r6 then Q false else laws_heldChangeS.E m3 1 (fun r26 => (if decide (r26 < 0) then Q false else (if r26 != r19 then Q false else Q true))))))))))))))))))))))))))))))))))))) := h
 clear h
 have hc0 := Ct.init hO
 refine Ret_enter Try.func7 rfl 119 rfl [.tmp 4] rfl rfl ?_
 refine W_seq ?_
 refine W_reg ?_
 refine L_pu (P_assign (vb false) rfl) ?_
 refine L_nil ?_
 refine W_seq ?_
 refine W_reg ?_
 refine L_pu (P_assign (vi 1048576) rfl) ?_
 refine L_nil ?_
 refine W_seq ?_
 refine W_reg ?_
 refine L_pu (P_move (.slice A1 n2 c3) rfl) ?_
 refine L_pu (P_move (vi 1048576) rfl) ?_
 refine L_call go18 [.slice A1 n2 c3, vi 1048576] rfl ((laws_szChangeS.calls w0 hc0.ok aA A1 n2 c3 hp4 1048576 _ H).mono ?_)
 rintro _ w11 ⟨r, rfl, H, g12⟩
 have hc16 := hc0.k0 g12
 refine L_pu (P_assign (vi r) rfl) ?_
 refine L_nil ?_
 refine W_seq ?_
 refine W_seq ?_
 refine W_reg ?_
 refine L_pu (P_move (vi r) rfl) ?_
 refine L_pu (P_cmp r 0 (decide (r < 0)) rfl rfl rfl) ?_
 refine L_nil ?_
 refine W_cond (decide (r < 0)) rfl (fun hq17 => ?_) (fun hq17 => ?_)
 ·have H := ite_t H hq17
  refine W_seq ?_
  refine W_reg ?_
  refine L_pu (P_assign (vb true) rfl) ?_
  refine L_nil ?_
  refine W_ret ?_
  exact ⟨[vb true], ⟨_, rfl, rfl⟩, true, rfl, H, hc16.gr.g0⟩
 ·have H := ite_f H hq17
  refine W_skip ?_
  refine W_seq ?_
  refine W_reg ?_
  refine L_pu (P_move (.slice A6 n7 c8) rfl) ?_
  refine L_pu (P_move (vi r) rfl) ?_
  refine L_call go18 [.slice A6 n7 c8, vi r] rfl ((laws_szChangeS.calls w11 hc16.ok aB A6 n7 c8 (hp9.st hc16.st) r _ H).mono ?_)
  rintro _ w18 ⟨r2, rfl, H, g19⟩
  have hc23 := hc16.k0 g19
  refine L_pu (P_assign (vi r2) rfl) ?_
  refine L_nil ?_
  refine W_seq ?_
  refine W_seq ?_
  refine W_reg ?_
  refine L_pu (P_move (vi r2) rfl) ?_
  refine L_pu (P_cmp r2 0 (decide (r2 < 0)) rfl rfl rfl) ?_
  refine L_nil ?_
  refine W_cond (decide (r2 < 0)) rfl (fun hq24 => ?_) (fun hq24 => ?_)
  ·have H := ite_t H hq24
   refine W_seq ?_
   refine W_reg ?_
   refine L_pu (P_assign (vb true) rfl) ?_
   refine L_nil ?_
   refine W_ret ?_
   exact ⟨[vb true], ⟨_, rfl, rfl⟩, true, rfl, H, hc23.gr.g0⟩
  ·have H := ite_f H hq24
   refine W_skip ?_
   refine W_seq ?_
   refine W_reg ?_
   refine L_pu (P_move (.slice A1 n2 c3) rfl) ?_
   refine L_call go20 [.slice A1 n2 c3] rfl ((laws_toChangeS.calls w18 hc23.ok aA A1 n2 c3 (hp4.st hc23.st) _ H).mono ?_)
   rintro _ w25 ⟨r3, A27, n28, c29, q32, ra33, rfl, H, g26, hk36, hk37, h30, hd34⟩
   have hc38 := hc23.owns g26 hk36 hk37
   have hp39 : (((blk (.slice A27 n28 c29) :: (q32 ++ [])) ++ []) : Ob).Perm (blk (.slice A27 n28 c29) :: (q32 ++ [])) := (by rw [List.perm_iff_count]; intro a; (try simp only [List.count_append, List.count_cons, List.count_nil, Nat.add_zero, Nat.zero_add]); first | done | ac_rfl)
   have hc40 := hc38.perm hp39
   refine L_pu (P_move (.slice A6 n7 c8) rfl) ?_
   refine L_call go20 [.slice A6 n7 c8] rfl ((laws_toChangeS.calls w25 hc40.ok aB A6 n7 c8 (hp9.st hc40.st) _ H).mono ?_)
   rintro _ w41 ⟨r4, A43, n44, c45, q48, ra49, rfl, H, g42, hk52, hk53, h46, hd50⟩
   have hc54 := hc40.owns g42 hk52 hk53
   have hp55 : (((blk (.slice A43 n44 c45) :: (q48 ++ [])) ++ (blk (.slice A27 n28 c29) :: (q32 ++ []))) : Ob).Perm (blk (.slice A43 n44 c45) :: blk (.slice A27 n28 c29) :: (q48 ++ (q32 ++ []))) := (by rw [List.perm_iff_count]; intro a; (try simp only [List.count_append, List.count_cons, List.count_nil, Nat.add_zero, Nat.zero_add]); first | done | ac_rfl)
   have hc56 := hc54.perm hp55
   have h57 := (Ow.spa (A := (blk (.slice A43 n44 c45) :: (q48 ++ []))) (L := (blk (.slice A27 n28 c29) :: (q32 ++ []))) (O := O) ((Ow.spa (A := (blk (.slice A27 n28 c29) :: (q32 ++ []))) (L := []) (O := O) h30 hp39).sos g42 hk53) hp55)
   have hd58 := (hd34.k0 g42)
   have hp62 : ((blk (.slice A43 n44 c45) :: blk (.slice A27 n28 c29) :: (q48 ++ (q32 ++ []))) : Ob).Perm (blk (.slice A27 n28 c29) :: (q32 ++ (blk (.slice A43 n44 c45) :: (q48 ++ [])))) := (by rw [List.perm_iff_count]; intro a; (try simp only [List.count_append, List.count_cons, List.count_nil, Nat.add_zero, Nat.zero_add]); first | done | ac_rfl)
   obtain ⟨h59, hc60, s61⟩ := Dp.gv (L := (blk (.slice A43 n44 c45) :: blk (.slice A27 n28 c29) :: (q48 ++ (q32 ++ [])))) (O := O) h57 hd58 hc56 hp62
   have h65 := (Ow.drops (L := (blk (.slice A43 n44 c45) :: blk (.slice A27 n28 c29) :: (q48 ++ (q32 ++ [])))) (O := O) (rs := blk (.slice A27 n28 c29) :: q32) (Ow.spa (A := (blk (.slice A43 n44 c45) :: (q48 ++ []))) (L := (blk (.slice A27 n28 c29) :: (q32 ++ []))) (O := O) h46 hp55) hp62 (memi 0 rfl))
   have hd66 := hd50
   have hp70 : ((blk (.slice A43 n44 c45) :: (q48 ++ [])) : Ob).Perm (blk (.slice A43 n44 c45) :: (q48 ++ [])) := (by rw [List.perm_iff_count]; intro a; (try simp only [List.count_append, List.count_cons, List.count_nil, Nat.add_zero, Nat.zero_add]); first | done | ac_rfl)
   obtain ⟨h67, hc68, s69⟩ := Dp.gv (L := (blk (.slice A43 n44 c45) :: (q48 ++ []))) (O := O) h65 hd66 hc60 hp70
   refine L_call go31 [.slice A27 n28 c29, .slice A43 n44 c45] rfl ((spec_DiffThen.calls w41 hc68.ok r3 A27 n28 c29 (h59.st s69) r4 A43 n44 c45 h67 _ H).mono ?_)
   rintro _ w73 ⟨r5, r6, A75, n76, c77, rfl, H, g74, hk81, hk82, h78⟩
   have hc83 := hc68.owns g74 hk81 hk82
   refine L_pu (P_move (.tuple #[.slice A75 n76 c77, vb r6]) rfl) ?_
   refine L_pu (P_ext [.slice A75 n76 c77, vb r6] 0 (.slice A75 n76 c77) rfl rfl) ?_
   refine L_pu (P_ext [.slice A75 n76 c77, vb r6] 1 (vb r6) rfl rfl) ?_
   refine L_pu (P_assign (.slice A75 n76 c77) rfl) ?_
   refine L_pu (P_assign (vb r6) rfl) ?_
   refine L_nil ?_
   refine W_seq ?_
   refine W_reg ?_
   refine L_pu (P_move (.slice A1 n2 c3) rfl) ?_
   refine L_call go20 [.slice A1 n2 c3] rfl ((laws_toChangeS.calls w73 hc83.ok aA A1 n2 c3 (hp4.st hc83.st) _ H).mono ?_)
   rintro _ w84 ⟨r7, A86, n87, c88, q91, ra92, rfl, H, g85, hk95, hk96, h89, hd93⟩
   have hc97 := hc83.owns g85 hk95 hk96
   have hp98 : (((blk (.slice A86 n87 c88) :: (q91 ++ [])) ++ [blk (.slice A75 n76 c77)]) : Ob).Perm (blk (.slice A86 n87 c88) :: blk (.slice A75 n76 c77) :: (q91 ++ [])) := (by rw [List.perm_iff_count]; intro a; (try simp only [List.count_append, List.count_cons, List.count_nil, Nat.add_zero, Nat.zero_add]); first | done | ac_rfl)
   have hc99 := hc97.perm hp98
   refine L_pu (P_assign (.slice A86 n87 c88) rfl) ?_
   refine L_nil ?_
   refine W_seq ?_
   refine W_reg ?_
   refine L_pu (P_move (.slice A6 n7 c8) rfl) ?_
   refine L_call go20 [.slice A6 n7 c8] rfl ((laws_toChangeS.calls w84 hc99.ok aB A6 n7 c8 (hp9.st hc99.st) _ H).mono ?_)
   rintro _ w100 ⟨r8, A102, n103, c104, q107, ra108, rfl, H, g101, hk111, hk112, h105, hd109⟩
   have hc113 := hc99.owns g101 hk111 hk112
   have hp114 : (((blk (.slice A102 n103 c104) :: (q107 ++ [])) ++ (blk (.slice A86 n87 c88) :: blk (.slice A75 n76 c77) :: (q91 ++ []))) : Ob).Perm (blk (.slice A102 n103 c104) :: blk (.slice A86 n87 c88) :: blk (.slice A75 n76 c77) :: (q107 ++ (q91 ++ []))) := (by rw [List.perm_iff_count]; intro a; (try simp only [List.count_append, List.count_cons, List.count_nil, Nat.add_zero, Nat.zero_add]); first | done | ac_rfl)
   have hc115 := hc113.perm hp114
   refine L_pu (P_assign (.slice A102 n103 c104) rfl) ?_
   refine L_nil ?_
   refine W_seq ?_
   refine W_reg ?_
   refine L_pu (P_move (.slice A86 n87 c88) rfl) ?_
   refine L_pu (P_move (.slice A102 n103 c104) rfl) ?_
   have h116 := (Ow.spa (A := (blk (.slice A102 n103 c104) :: (q107 ++ []))) (L := (blk (.slice A86 n87 c88) :: blk (.slice A75 n76 c77) :: (q91 ++ []))) (O := O) ((Ow.spa (A := (blk (.slice A86 n87 c88) :: (q91 ++ []))) (L := [blk (.slice A75 n76 c77)]) (O := O) h89 hp98).sos g101 hk112) hp114)
   have hd117 := (hd93.k0 g101)
   have hp121 : ((blk (.slice A102 n103 c104) :: blk (.slice A86 n87 c88) :: blk (.slice A75 n76 c77) :: (q107 ++ (q91 ++ []))) : Ob).Perm (blk (.slice A86 n87 c88) :: (q91 ++ (blk (.slice A102 n103 c104) :: blk (.slice A75 n76 c77) :: (q107 ++ [])))) := (by rw [List.perm_iff_count]; intro a; (try simp only [List.count_append, List.count_cons, List.count_nil, Nat.add_zero, Nat.zero_add]); first | done | ac_rfl)
   obtain ⟨h118, hc119, s120⟩ := Dp.gv (L := (blk (.slice A102 n103 c104) :: blk (.slice A86 n87 c88) :: blk (.slice A75 n76 c77) :: (q107 ++ (q91 ++ [])))) (O := O) h116 hd117 hc115 hp121
   have h124 := (Ow.drops (L := (blk (.slice A102 n103 c104) :: blk (.slice A86 n87 c88) :: blk (.slice A75 n76 c77) :: (q107 ++ (q91 ++ [])))) (O := O) (rs := blk (.slice A86 n87 c88) :: q91) (Ow.spa (A := (blk (.slice A102 n103 c104) :: (q107 ++ []))) (L := (blk (.slice A86 n87 c88) :: blk (.slice A75 n76 c77) :: (q91 ++ []))) (O := O) h105 hp114) hp121 (memi 0 rfl))
   have hd125 := hd109
   have hp129 : ((blk (.slice A102 n103 c104) :: blk (.slice A75 n76 c77) :: (q107 ++ [])) : Ob).Perm (blk (.slice A102 n103 c104) :: (q107 ++ [blk (.slice A75 n76 c77)])) := (by rw [List.perm_iff_count]; intro a; (try simp only [List.count_append, List.count_cons, List.count_nil, Nat.add_zero, Nat.zero_add]); first | done | ac_rfl)
   obtain ⟨h126, hc127, s128⟩ := Dp.gv (L := (blk (.slice A102 n103 c104) :: blk (.slice A75 n76 c77) :: (q107 ++ []))) (O := O) h124 hd125 hc119 hp129
   refine L_call go32 [.slice A86 n87 c88, .slice A102 n103 c104] rfl ((impl_DiffThen.calls w100 hc127.ok r7 A86 n87 c88 (h118.st s128) r8 A102 n103 c104 h126 _ H).mono ?_)
   rintro _ w132 ⟨r9, r10, A134, n135, c136, q139, ra140, rfl, H, g133, hk143, hk144, h137, hd141⟩
   have hk146 := Ok.unl (L := (blk (.slice A102 n103 c104) :: blk (.slice A86 n87 c88) :: blk (.slice A75 n76 c77) :: (q107 ++ (q91 ++ [])))) (L' := [blk (.slice A75 n76 c77)]) (O := O) hc115 g133 hk143 hk144
   have h147 := Ow.unl (L := (blk (.slice A102 n103 c104) :: blk (.slice A86 n87 c88) :: blk (.slice A75 n76 c77) :: (q107 ++ (q91 ++ [])))) (L' := [blk (.slice A75 n76 c77)]) (O := O) (fun _ _ _ _ _ _ h => h) (.cons _ (.cons _ (.cons_cons _ ((List.sublist_append_of_sublist_right (List.sublist_append_of_sublist_right (.refl _))))))) h137
   have hc145 := hc115.owns g133 hk146 hk144
   have hp148 : (((blk (.slice A134 n135 c136) :: (q139 ++ [])) ++ (blk (.slice A102 n103 c104) :: blk (.slice A86 n87 c88) :: blk (.slice A75 n76 c77) :: (q107 ++ (q91 ++ [])))) : Ob).Perm (blk (.slice A134 n135 c136) :: blk (.slice A102 n103 c104) :: blk (.slice A86 n87 c88) :: blk (.slice A75 n76 c77) :: (q139 ++ (q107 ++ (q91 ++ [])))) := (by rw [List.perm_iff_count]; intro a; (try simp only [List.count_append, List.count_cons, List.count_nil, Nat.add_zero, Nat.zero_add]); first | done | ac_rfl)
   have hc149 := hc145.perm hp148
   refine L_pu (P_move (.tuple #[.slice A134 n135 c136, vb r10]) rfl) ?_
   refine L_pu (P_ext [.slice A134 n135 c136, vb r10] 0 (.slice A134 n135 c136) rfl rfl) ?_
   refine L_pu (P_ext [.slice A134 n135 c136, vb r10] 1 (vb r10) rfl rfl) ?_
   refine L_pu (P_assign (.slice A134 n135 c136) rfl) ?_
   refine L_pu (P_assign (vb r10) rfl) ?_
   refine L_nil ?_
   refine W_seq ?_
   refine W_seq ?_
   refine W_reg ?_
   refine L_pu (P_move (.slice A134 n135 c136) rfl) ?_
   refine L_pu (P_move (.slice A75 n76 c77) rfl) ?_
   have h150 := (Ow.spa (A := (blk (.slice A134 n135 c136) :: (q139 ++ []))) (L := (blk (.slice A102 n103 c104) :: blk (.slice A86 n87 c88) :: blk (.slice A75 n76 c77) :: (q107 ++ (q91 ++ [])))) (O := O) h147 hp148)
   have hd151 := hd141
   have hp155 : ((blk (.slice A134 n135 c136) :: blk (.slice A102 n103 c104) :: blk (.slice A86 n87 c88) :: blk (.slice A75 n76 c77) :: (q139 ++ (q107 ++ (q91 ++ [])))) : Ob).Perm (blk (.slice A134 n135 c136) :: (q139 ++ (blk (.slice A102 n103 c104) :: blk (.slice A86 n87 c88) :: blk (.slice A75 n76 c77) :: (q107 ++ (q91 ++ []))))) := (by rw [List.perm_iff_count]; intro a; (try simp only [List.count_append, List.count_cons, List.count_nil, Nat.add_zero, Nat.zero_add]); first | done | ac_rfl)
   obtain ⟨h152, hc153, s154⟩ := Dp.gv (L := (blk (.slice A134 n135 c136) :: blk (.slice A102 n103 c104) :: blk (.slice A86 n87 c88) :: blk (.slice A75 n76 c77) :: (q139 ++ (q107 ++ (q91 ++ []))))) (O := O) h150 hd151 hc149 hp155
   have h158 := (Ow.drops (L := (blk (.slice A134 n135 c136) :: blk (.slice A102 n103 c104) :: blk (.slice A86 n87 c88) :: blk (.slice A75 n76 c77) :: (q139 ++ (q107 ++ (q91 ++ []))))) (O := O) (rs := blk (.slice A134 n135 c136) :: q139) (Ow.spa (A := (blk (.slice A134 n135 c136) :: (q139 ++ []))) (L := (blk (.slice A102 n103 c104) :: blk (.slice A86 n87 c88) :: blk (.slice A75 n76 c77) :: (q107 ++ (q91 ++ [])))) (O := O) ((Ow.spa (A := (blk (.slice A102 n103 c104) :: (q107 ++ []))) (L := (blk (.slice A86 n87 c88) :: blk (.slice A75 n76 c77) :: (q91 ++ []))) (O := O) ((Ow.spa (A := (blk (.slice A86 n87 c88) :: (q91 ++ []))) (L := [blk (.slice A75 n76 c77)]) (O := O) (h78.sos g85 hk96) hp98).sos g101 hk112) hp114).sos g133 hk144) hp148) hp155 (memi 2 rfl))
   have h159 := Ow.gv (L := (blk (.slice A102 n103 c104) :: blk (.slice A86 n87 c88) :: blk (.slice A75 n76 c77) :: (q107 ++ (q91 ++ [])))) (O := O) h158 hc153 (i := 2) rfl
   have hc160 := hc153.drop 2 rfl
   have h162 := (h152.st (.dr _ (L := (blk (.slice A102 n103 c104) :: blk (.slice A86 n87 c88) :: blk (.slice A75 n76 c77) :: (q107 ++ (q91 ++ [])))) (O := O) (j := 2) rfl))
   refine L_call go22 [.slice A134 n135 c136, .slice A75 n76 c77] rfl ((laws_eqChangeS.calls w132 hc160.ok r9 A134 n135 c136 h162 r5 A75 n76 c77 h159 _ H).mono ?_)
   rintro _ w163 ⟨r11, rfl, H, g164⟩
   have hc168 := hc149.k0 g164
   refine L_pu (P_not r11 rfl) ?_
   refine L_pu (P_move (vb (!r11)) rfl) ?_
   rcases bool_or (!r11) with hq169 | hq169
   ·have H := ite_t H hq169
    refine L_pass (dj := 49) rfl rfl (.inl (by exact congrArg Value.bool hq169)) ?_
    refine L_pass (dj := 49) rfl rfl (.inl (by exact congrArg Value.bool hq169)) ?_
    refine L_pass (dj := 49) rfl rfl (.inl (by exact congrArg Value.bool hq169)) ?_
    refine L_pu (P_pick true (vb true) (by exact congrArg Value.bool hq169) rfl) ?_
    refine L_nil ?_
    refine W_ct (b := true) rfl rfl ?_
    refine W_seq ?_
    refine W_reg ?_
    refine L_pu (P_assign (vb false) rfl) ?_
    refine L_nil ?_
    refine W_ret ?_
    have hp170 : ((blk (.slice A134 n135 c136) :: blk (.slice A102 n103 c104) :: blk (.slice A86 n87 c88) :: blk (.slice A75 n76 c77) :: (q139 ++ (q107 ++ (q91 ++ [])))) : Ob).Perm ((blk (.slice A134 n135 c136) :: (q139 ++ [])) ++ (blk (.slice A102 n103 c104) :: blk (.slice A86 n87 c88) :: blk (.slice A75 n76 c77) :: (q107 ++ (q91 ++ [])))) := (by rw [List.perm_iff_count]; intro a; (try simp only [List.count_append, List.count_cons, List.count_nil, Nat.add_zero, Nat.zero_add]); first | done | ac_rfl)
    have hc171 := hc168.drops hp170
    have hp172 : ((blk (.slice A102 n103 c104) :: blk (.slice A86 n87 c88) :: blk (.slice A75 n76 c77) :: (q107 ++ (q91 ++ []))) : Ob).Perm ((blk (.slice A102 n103 c104) :: (q107 ++ [])) ++ (blk (.slice A86 n87 c88) :: blk (.slice A75 n76 c77) :: (q91 ++ []))) := (by rw [List.perm_iff_count]; intro a; (try simp only [List.count_append, List.count_cons, List.count_nil, Nat.add_zero, Nat.zero_add]); first | done | ac_rfl)
    have hc173 := hc171.drops hp172
    have hp174 : ((blk (.slice A86 n87 c88) :: blk (.slice A75 n76 c77) :: (q91 ++ [])) : Ob).Perm ((blk (.slice A86 n87 c88) :: (q91 ++ [])) ++ [blk (.slice A75 n76 c77)]) := (by rw [List.perm_iff_count]; intro a; (try simp only [List.count_append, List.count_cons, List.count_nil, Nat.add_zero, Nat.zero_add]); first | done | ac_rfl)
    have hc175 := hc173.drops hp174
    have hc176 := hc175.drop 0 rfl
    exact ⟨[vb false], ⟨_, rfl, rfl⟩, false, rfl, H, hc176.gr.g0⟩
   ·have H := ite_f H hq169
    refine L_run (dj := 49) rfl rfl (by exact congrArg Value.bool hq169) ?_
    refine L_pu (P_move (vb r10) rfl) ?_
    refine L_run (dj := 49) rfl rfl (by exact congrArg Value.bool hq169) ?_
    refine L_pu (P_move (vb r6) rfl) ?_
    refine L_run (dj := 49) rfl rfl (by exact congrArg Value.bool hq169) ?_
    refine L_pu (P_bcmp Try.underlying4 r10 r6 (r10 != r6) rfl rfl rfl) ?_
    refine L_pu (P_pick false (vb (r10 != r6)) (by exact congrArg Value.bool hq169) rfl) ?_
    refine L_nil ?_
    refine W_cond (r10 != r6) rfl (fun hq177 => ?_) (fun hq177 => ?_)
    ·have H := ite_t H hq177
     refine W_seq ?_
     refine W_reg ?_
     refine L_pu (P_assign (vb false) rfl) ?_
     refine L_nil ?_
     refine W_ret ?_
     have hp178 : ((blk (.slice A134 n135 c136) :: blk (.slice A102 n103 c104) :: blk (.slice A86 n87 c88) :: blk (.slice A75 n76 c77) :: (q139 ++ (q107 ++ (q91 ++ [])))) : Ob).Perm ((blk (.slice A134 n135 c136) :: (q139 ++ [])) ++ (blk (.slice A102 n103 c104) :: blk (.slice A86 n87 c88) :: blk (.slice A75 n76 c77) :: (q107 ++ (q91 ++ [])))) := (by rw [List.perm_iff_count]; intro a; (try simp only [List.count_append, List.count_cons, List.count_nil, Nat.add_zero, Nat.zero_add]); first | done | ac_rfl)
     have hc179 := hc168.drops hp178
     have hp180 : ((blk (.slice A102 n103 c104) :: blk (.slice A86 n87 c88) :: blk (.slice A75 n76 c77) :: (q107 ++ (q91 ++ []))) : Ob).Perm ((blk (.slice A102 n103 c104) :: (q107 ++ [])) ++ (blk (.slice A86 n87 c88) :: blk (.slice A75 n76 c77) :: (q91 ++ []))) := (by rw [List.perm_iff_count]; intro a; (try simp only [List.count_append, List.count_cons, List.count_nil, Nat.add_zero, Nat.zero_add]); first | done | ac_rfl)
     have hc181 := hc179.drops hp180
     have hp182 : ((blk (.slice A86 n87 c88) :: blk (.slice A75 n76 c77) :: (q91 ++ [])) : Ob).Perm ((blk (.slice A86 n87 c88) :: (q91 ++ [])) ++ [blk (.slice A75 n76 c77)]) := (by rw [List.perm_iff_count]; intro a; (try simp only [List.count_append, List.count_cons, List.count_nil, Nat.add_zero, Nat.zero_add]); first | done | ac_rfl)
     have hc183 := hc181.drops hp182
     have hc184 := hc183.drop 0 rfl
     exact ⟨[vb false], ⟨_, rfl, rfl⟩, false, rfl, H, hc184.gr.g0⟩
    ·have H := ite_f H hq177
     refine W_skip ?_
     refine W_seq ?_
     refine W_seq ?_
     refine W_reg ?_
     refine L_pu (P_move (.slice A86 n87 c88) rfl) ?_
     refine L_pu (P_move (.slice A1 n2 c3) rfl) ?_
     refine L_call go20 [.slice A1 n2 c3] rfl ((laws_toChangeS.calls w163 hc168.ok aA A1 n2 c3 (hp4.st hc168.st) _ H).mono ?_)
     rintro _ w185 ⟨r12, A187, n188, c189, q192, ra193, rfl, H, g186, hk196, hk197, h190, hd194⟩
     have hc198 := hc168.owns g186 hk196 hk197
     have hp199 : (((blk (.slice A187 n188 c189) :: (q192 ++ [])) ++ (blk (.slice A134 n135 c136) :: blk (.slice A102 n103 c104) :: blk (.slice A86 n87 c88) :: blk (.slice A75 n76 c77) :: (q139 ++ (q107 ++ (q91 ++ []))))) : Ob).Perm (blk (.slice A187 n188 c189) :: blk (.slice A134 n135 c136) :: blk (.slice A102 n103 c104) :: blk (.slice A86 n87 c88) :: blk (.slice A75 n76 c77) :: (q192 ++ (q139 ++ (q107 ++ (q91 ++ []))))) := (by rw [List.perm_iff_count]; intro a; (try simp only [List.count_append, List.count_cons, List.count_nil, Nat.add_zero, Nat.zero_add]); first | done | ac_rfl)
     have hc200 := hc198.perm hp199
     have h201 := (Ow.spa (A := (blk (.slice A187 n188 c189) :: (q192 ++ []))) (L := (blk (.slice A134 n135 c136) :: blk (.slice A102 n103 c104) :: blk (.slice A86 n87 c88) :: blk (.slice A75 n76 c77) :: (q139 ++ (q107 ++ (q91 ++ []))))) (O := O) (((Ow.spa (A := (blk (.slice A134 n135 c136) :: (q139 ++ []))) (L := (blk (.slice A102 n103 c104) :: blk (.slice A86 n87 c88) :: blk (.slice A75 n76 c77) :: (q107 ++ (q91 ++ [])))) (O := O) ((Ow.spa (A := (blk (.slice A102 n103 c104) :: (q107 ++ []))) (L := (blk (.slice A86 n87 c88) :: blk (.slice A75 n76 c77) :: (q91 ++ []))) (O := O) ((Ow.spa (A := (blk (.slice A86 n87 c88) :: (q91 ++ []))) (L := [blk (.slice A75 n76 c77)]) (O := O) h89 hp98).sos g101 hk112) hp114).sos g133 hk144) hp148).sn g164).sos g186 hk197) hp199)
     have hd202 := ((((hd93.k0 g101).k0 g133).k0 g164).k0 g186)
     have hp206 : ((blk (.slice A187 n188 c189) :: blk (.slice A134 n135 c136) :: blk (.slice A102 n103 c104) :: blk (.slice A86 n87 c88) :: blk (.slice A75 n76 c77) :: (q192 ++ (q139 ++ (q107 ++ (q91 ++ []))))) : Ob).Perm (blk (.slice A86 n87 c88) :: (q91 ++ (blk (.slice A187 n188 c189) :: blk (.slice A134 n135 c136) :: blk (.slice A102 n103 c104) :: blk (.slice A75 n76 c77) :: (q192 ++ (q139 ++ (q107 ++ [])))))) := (by rw [List.perm_iff_count]; intro a; (try simp only [List.count_append, List.count_cons, List.count_nil, Nat.add_zero, Nat.zero_add]); first | done | ac_rfl)
     obtain ⟨h203, hc204, s205⟩ := Dp.gv (L := (blk (.slice A187 n188 c189) :: blk (.slice A134 n135 c136) :: blk (.slice A102 n103 c104) :: blk (.slice A86 n87 c88) :: blk (.slice A75 n76 c77) :: (q192 ++ (q139 ++ (q107 ++ (q91 ++ [])))))) (O := O) h201 hd202 hc200 hp206
     have h209 := (Ow.drops (L := (blk (.slice A187 n188 c189) :: blk (.slice A134 n135 c136) :: blk (.slice A102 n103 c104) :: blk (.slice A86 n87 c88) :: blk (.slice A75 n76 c77) :: (q192 ++ (q139 ++ (q107 ++ (q91 ++ [])))))) (O := O) (rs := blk (.slice A86 n87 c88) :: q91) (Ow.spa (A := (blk (.slice A187 n188 c189) :: (q192 ++ []))) (L := (blk (.slice A134 n135 c136) :: blk (.slice A102 n103 c104) :: blk (.slice A86 n87 c88) :: blk (.slice A75 n76 c77) :: (q139 ++ (q107 ++ (q91 ++ []))))) (O := O) h190 hp199) hp206 (memi 0 rfl))
     have hd210 := hd194
     have hp214 : ((blk (.slice A187 n188 c189) :: blk (.slice A134 n135 c136) :: blk (.slice A102 n103 c104) :: blk (.slice A75 n76 c77) :: (q192 ++ (q139 ++ (q107 ++ [])))) : Ob).Perm (blk (.slice A187 n188 c189) :: (q192 ++ (blk (.slice A134 n135 c136) :: blk (.slice A102 n103 c104) :: blk (.slice A75 n76 c77) :: (q139 ++ (q107 ++ []))))) := (by rw [List.perm_iff_count]; intro a; (try simp only [List.count_append, List.count_cons, List.count_nil, Nat.add_zero, Nat.zero_add]); first | done | ac_rfl)
     obtain ⟨h211, hc212, s213⟩ := Dp.gv (L := (blk (.slice A187 n188 c189) :: blk (.slice A134 n135 c136) :: blk (.slice A102 n103 c104) :: blk (.slice A75 n76 c77) :: (q192 ++ (q139 ++ (q107 ++ []))))) (O := O) h209 hd210 hc204 hp214
     refine L_call go22 [.slice A86 n87 c88, .slice A187 n188 c189] rfl ((laws_eqChangeS.calls w185 hc212.ok r7 A86 n87 c88 (h203.st s213) r12 A187 n188 c189 h211 _ H).mono ?_)
     rintro _ w217 ⟨r13, rfl, H, g218⟩
     have hc222 := hc200.k0 g218
     refine L_pu (P_not r13 rfl) ?_
     refine L_nil ?_
     refine W_cond (!r13) rfl (fun hq223 => ?_) (fun hq223 => ?_)
     ·have H := ite_t H hq223
      refine W_seq ?_
      refine W_reg ?_
      refine L_pu (P_assign (vb false) rfl) ?_
      refine L_nil ?_
      refine W_ret ?_
      have hp224 : ((blk (.slice A187 n188 c189) :: blk (.slice A134 n135 c136) :: blk (.slice A102 n103 c104) :: blk (.slice A86 n87 c88) :: blk (.slice A75 n76 c77) :: (q192 ++ (q139 ++ (q107 ++ (q91 ++ []))))) : Ob).Perm ((blk (.slice A187 n188 c189) :: (q192 ++ [])) ++ (blk (.slice A134 n135 c136) :: blk (.slice A102 n103 c104) :: blk (.slice A86 n87 c88) :: blk (.slice A75 n76 c77) :: (q139 ++ (q107 ++ (q91 ++ []))))) := (by rw [List.perm_iff_count]; intro a; (try simp only [List.count_append, List.count_cons, List.count_nil, Nat.add_zero, Nat.zero_add]); first | done | ac_rfl)
      have hc225 := hc222.drops hp224
      have hp226 : ((blk (.slice A134 n135 c136) :: blk (.slice A102 n103 c104) :: blk (.slice A86 n87 c88) :: blk (.slice A75 n76 c77) :: (q139 ++ (q107 ++ (q91 ++ [])))) : Ob).Perm ((blk (.slice A134 n135 c136) :: (q139 ++ [])) ++ (blk (.slice A102 n103 c104) :: blk (.slice A86 n87 c88) :: blk (.slice A75 n76 c77) :: (q107 ++ (q91 ++ [])))) := (by rw [List.perm_iff_count]; intro a; (try simp only [List.count_append, List.count_cons, List.count_nil, Nat.add_zero, Nat.zero_add]); first | done | ac_rfl)
      have hc227 := hc225.drops hp226
      have hp228 : ((blk (.slice A102 n103 c104) :: blk (.slice A86 n87 c88) :: blk (.slice A75 n76 c77) :: (q107 ++ (q91 ++ []))) : Ob).Perm ((blk (.slice A102 n103 c104) :: (q107 ++ [])) ++ (blk (.slice A86 n87 c88) :: blk (.slice A75 n76 c77) :: (q91 ++ []))) := (by rw [List.perm_iff_count]; intro a; (try simp only [List.count_append, List.count_cons, List.count_nil, Nat.add_zero, Nat.zero_add]); first | done | ac_rfl)
      have hc229 := hc227.drops hp228
      have hp230 : ((blk (.slice A86 n87 c88) :: blk (.slice A75 n76 c77) :: (q91 ++ [])) : Ob).Perm ((blk (.slice A86 n87 c88) :: (q91 ++ [])) ++ [blk (.slice A75 n76 c77)]) := (by rw [List.perm_iff_count]; intro a; (try simp only [List.count_append, List.count_cons, List.count_nil, Nat.add_zero, Nat.zero_add]); first | done | ac_rfl)
      have hc231 := hc229.drops hp230
      have hc232 := hc231.drop 0 rfl
      exact ⟨[vb false], ⟨_, rfl, rfl⟩, false, rfl, H, hc232.gr.g0⟩
     ·have H := ite_f H hq223
      refine W_skip ?_
      refine W_seq ?_
      refine W_seq ?_
      refine W_reg ?_
      refine L_pu (P_move (.slice A102 n103 c104) rfl) ?_
      refine L_pu (P_move (.slice A6 n7 c8) rfl) ?_
      refine L_call go20 [.slice A6 n7 c8] rfl ((laws_toChangeS.calls w217 hc222.ok aB A6 n7 c8 (hp9.st hc222.st) _ H).mono ?_)
      rintro _ w233 ⟨r14, A235, n236, c237, q240, ra241, rfl, H, g234, hk244, hk245, h238, hd242⟩
      have hc246 := hc222.owns g234 hk244 hk245
      have hp247 : (((blk (.slice A235 n236 c237) :: (q240 ++ [])) ++ (blk (.slice A187 n188 c189) :: blk (.slice A134 n135 c136) :: blk (.slice A102 n103 c104) :: blk (.slice A86 n87 c88) :: blk (.slice A75 n76 c77) :: (q192 ++ (q139 ++ (q107 ++ (q91 ++ [])))))) : Ob).Perm (blk (.slice A235 n236 c237) :: blk (.slice A187 n188 c189) :: blk (.slice A134 n135 c136) :: blk (.slice A102 n103 c104) :: blk (.slice A86 n87 c88) :: blk (.slice A75 n76 c77) :: (q240 ++ (q192 ++ (q139 ++ (q107 ++ (q91 ++ [])))))) := (by rw [List.perm_iff_count]; intro a; (try simp only [List.count_append, List.count_cons, List.count_nil, Nat.add_zero, Nat.zero_add]); first | done | ac_rfl)
      have hc248 := hc246.perm hp247
      have h249 := (Ow.spa (A := (blk (.slice A235 n236 c237) :: (q240 ++ []))) (L := (blk (.slice A187 n188 c189) :: blk (.slice A134 n135 c136) :: blk (.slice A102 n103 c104) :: blk (.slice A86 n87 c88) :: blk (.slice A75 n76 c77) :: (q192 ++ (q139 ++ (q107 ++ (q91 ++ [])))))) (O := O) (((Ow.spa (A := (blk (.slice A187 n188 c189) :: (q192 ++ []))) (L := (blk (.slice A134 n135 c136) :: blk (.slice A102 n103 c104) :: blk (.slice A86 n87 c88) :: blk (.slice A75 n76 c77) :: (q139 ++ (q107 ++ (q91 ++ []))))) (O := O) (((Ow.spa (A := (blk (.slice A134 n135 c136) :: (q139 ++ []))) (L := (blk (.slice A102 n103 c104) :: blk (.slice A86 n87 c88) :: blk (.slice A75 n76 c77) :: (q107 ++ (q91 ++ [])))) (O := O) ((Ow.spa (A := (blk (.slice A102 n103 c104) :: (q107 ++ []))) (L := (blk (.slice A86 n87 c88) :: blk (.slice A75 n76 c77) :: (q91 ++ []))) (O := O) h105 hp114).sos g133 hk144) hp148).sn g164).sos g186 hk197) hp199).sn g218).sos g234 hk245) hp247)
      have hd250 := (((((hd109.k0 g133).k0 g164).k0 g186).k0 g218).k0 g234)
      have hp254 : ((blk (.slice A235 n236 c237) :: blk (.slice A187 n188 c189) :: blk (.slice A134 n135 c136) :: blk (.slice A102 n103 c104) :: blk (.slice A86 n87 c88) :: blk (.slice A75 n76 c77) :: (q240 ++ (q192 ++ (q139 ++ (q107 ++ (q91 ++ [])))))) : Ob).Perm (blk (.slice A102 n103 c104) :: (q107 ++ (blk (.slice A235 n236 c237) :: blk (.slice A187 n188 c189) :: blk (.slice A134 n135 c136) :: blk (.slice A86 n87 c88) :: blk (.slice A75 n76 c77) :: (q240 ++ (q192 ++ (q139 ++ (q91 ++ []))))))) := (by rw [List.perm_iff_count]; intro a; (try simp only [List.count_append, List.count_cons, List.count_nil, Nat.add_zero, Nat.zero_add]); first | done | ac_rfl)
      obtain ⟨h251, hc252, s253⟩ := Dp.gv (L := (blk (.slice A235 n236 c237) :: blk (.slice A187 n188 c189) :: blk (.slice A134 n135 c136) :: blk (.slice A102 n103 c104) :: blk (.slice A86 n87 c88) :: blk (.slice A75 n76 c77) :: (q240 ++ (q192 ++ (q139 ++ (q107 ++ (q91 ++ []))))))) (O := O) h249 hd250 hc248 hp254
      have h257 := (Ow.drops (L := (blk (.slice A235 n236 c237) :: blk (.slice A187 n188 c189) :: blk (.slice A134 n135 c136) :: blk (.slice A102 n103 c104) :: blk (.slice A86 n87 c88) :: blk (.slice A75 n76 c77) :: (q240 ++ (q192 ++ (q139 ++ (q107 ++ (q91 ++ []))))))) (O := O) (rs := blk (.slice A102 n103 c104) :: q107) (Ow.spa (A := (blk (.slice A235 n236 c237) :: (q240 ++ []))) (L := (blk (.slice A187 n188 c189) :: blk (.slice A134 n135 c136) :: blk (.slice A102 n103 c104) :: blk (.slice A86 n87 c88) :: blk (.slice A75 n76 c77) :: (q192 ++ (q139 ++ (q107 ++ (q91 ++ [])))))) (O := O) h238 hp247) hp254 (memi 0 rfl))
      have hd258 := hd242
      have hp262 : ((blk (.slice A235 n236 c237) :: blk (.slice A187 n188 c189) :: blk (.slice A134 n135 c136) :: blk (.slice A86 n87 c88) :: blk (.slice A75 n76 c77) :: (q240 ++ (q192 ++ (q139 ++ (q91 ++ []))))) : Ob).Perm (blk (.slice A235 n236 c237) :: (q240 ++ (blk (.slice A187 n188 c189) :: blk (.slice A134 n135 c136) :: blk (.slice A86 n87 c88) :: blk (.slice A75 n76 c77) :: (q192 ++ (q139 ++ (q91 ++ [])))))) := (by rw [List.perm_iff_count]; intro a; (try simp only [List.count_append, List.count_cons, List.count_nil, Nat.add_zero, Nat.zero_add]); first | done | ac_rfl)
      obtain ⟨h259, hc260, s261⟩ := Dp.gv (L := (blk (.slice A235 n236 c237) :: blk (.slice A187 n188 c189) :: blk (.slice A134 n135 c136) :: blk (.slice A86 n87 c88) :: blk (.slice A75 n76 c77) :: (q240 ++ (q192 ++ (q139 ++ (q91 ++ [])))))) (O := O) h257 hd258 hc252 hp262
      refine L_call go22 [.slice A102 n103 c104, .slice A235 n236 c237] rfl ((laws_eqChangeS.calls w233 hc260.ok r8 A102 n103 c104 (h251.st s261) r14 A235 n236 c237 h259 _ H).mono ?_)
      rintro _ w265 ⟨r15, rfl, H, g266⟩
      have hc270 := hc248.k0 g266
      refine L_pu (P_not r15 rfl) ?_
      refine L_nil ?_
      refine W_cond (!r15) rfl (fun hq271 => ?_) (fun hq271 => ?_)
      ·have H := ite_t H hq271
       refine W_seq ?_
       refine W_reg ?_
       refine L_pu (P_assign (vb false) rfl) ?_
       refine L_nil ?_
       refine W_ret ?_
       have hp272 : ((blk (.slice A235 n236 c237) :: blk (.slice A187 n188 c189) :: blk (.slice A134 n135 c136) :: blk (.slice A102 n103 c104) :: blk (.slice A86 n87 c88) :: blk (.slice A75 n76 c77) :: (q240 ++ (q192 ++ (q139 ++ (q107 ++ (q91 ++ [])))))) : Ob).Perm ((blk (.slice A235 n236 c237) :: (q240 ++ [])) ++ (blk (.slice A187 n188 c189) :: blk (.slice A134 n135 c136) :: blk (.slice A102 n103 c104) :: blk (.slice A86 n87 c88) :: blk (.slice A75 n76 c77) :: (q192 ++ (q139 ++ (q107 ++ (q91 ++ [])))))) := (by rw [List.perm_iff_count]; intro a; (try simp only [List.count_append, List.count_cons, List.count_nil, Nat.add_zero, Nat.zero_add]); first | done | ac_rfl)
       have hc273 := hc270.drops hp272
       have hp274 : ((blk (.slice A187 n188 c189) :: blk (.slice A134 n135 c136) :: blk (.slice A102 n103 c104) :: blk (.slice A86 n87 c88) :: blk (.slice A75 n76 c77) :: (q192 ++ (q139 ++ (q107 ++ (q91 ++ []))))) : Ob).Perm ((blk (.slice A187 n188 c189) :: (q192 ++ [])) ++ (blk (.slice A134 n135 c136) :: blk (.slice A102 n103 c104) :: blk (.slice A86 n87 c88) :: blk (.slice A75 n76 c77) :: (q139 ++ (q107 ++ (q91 ++ []))))) := (by rw [List.perm_iff_count]; intro a; (try simp only [List.count_append, List.count_cons, List.count_nil, Nat.add_zero, Nat.zero_add]); first | done | ac_rfl)
       have hc275 := hc273.drops hp274
       have hp276 : ((blk (.slice A134 n135 c136) :: blk (.slice A102 n103 c104) :: blk (.slice A86 n87 c88) :: blk (.slice A75 n76 c77) :: (q139 ++ (q107 ++ (q91 ++ [])))) : Ob).Perm ((blk (.slice A134 n135 c136) :: (q139 ++ [])) ++ (blk (.slice A102 n103 c104) :: blk (.slice A86 n87 c88) :: blk (.slice A75 n76 c77) :: (q107 ++ (q91 ++ [])))) := (by rw [List.perm_iff_count]; intro a; (try simp only [List.count_append, List.count_cons, List.count_nil, Nat.add_zero, Nat.zero_add]); first | done | ac_rfl)
       have hc277 := hc275.drops hp276
       have hp278 : ((blk (.slice A102 n103 c104) :: blk (.slice A86 n87 c88) :: blk (.slice A75 n76 c77) :: (q107 ++ (q91 ++ []))) : Ob).Perm ((blk (.slice A102 n103 c104) :: (q107 ++ [])) ++ (blk (.slice A86 n87 c88) :: blk (.slice A75 n76 c77) :: (q91 ++ []))) := (by rw [List.perm_iff_count]; intro a; (try simp only [List.count_append, List.count_cons, List.count_nil, Nat.add_zero, Nat.zero_add]); first | done | ac_rfl)
       have hc279 := hc277.drops hp278
       have hp280 : ((blk (.slice A86 n87 c88) :: blk (.slice A75 n76 c77) :: (q91 ++ [])) : Ob).Perm ((blk (.slice A86 n87 c88) :: (q91 ++ [])) ++ [blk (.slice A75 n76 c77)]) := (by rw [List.perm_iff_count]; intro a; (try simp only [List.count_append, List.count_cons, List.count_nil, Nat.add_zero, Nat.zero_add]); first | done | ac_rfl)
       have hc281 := hc279.drops hp280
       have hc282 := hc281.drop 0 rfl
       exact ⟨[vb false], ⟨_, rfl, rfl⟩, false, rfl, H, hc282.gr.g0⟩
      ·have H := ite_f H hq271
       refine W_skip ?_
       refine W_seq ?_
       refine W_reg ?_
       refine L_pu (P_assign (vi 1) rfl) ?_
       refine L_nil ?_
       refine W_seq ?_
       refine W_reg ?_
       refine L_pu (P_move (.slice A86 n87 c88) rfl) ?_
       refine L_pu (P_move (vi 1) rfl) ?_
       have h285 := ((Ow.spa (A := (blk (.slice A235 n236 c237) :: (q240 ++ []))) (L := (blk (.slice A187 n188 c189) :: blk (.slice A134 n135 c136) :: blk (.slice A102 n103 c104) :: blk (.slice A86 n87 c88) :: blk (.slice A75 n76 c77) :: (q192 ++ (q139 ++ (q107 ++ (q91 ++ [])))))) (O := O) (((Ow.spa (A := (blk (.slice A187 n188 c189) :: (q192 ++ []))) (L := (blk (.slice A134 n135 c136) :: blk (.slice A102 n103 c104) :: blk (.slice A86 n87 c88) :: blk (.slice A75 n76 c77) :: (q139 ++ (q107 ++ (q91 ++ []))))) (O := O) (((Ow.spa (A := (blk (.slice A134 n135 c136) :: (q139 ++ []))) (L := (blk (.slice A102 n103 c104) :: blk (.slice A86 n87 c88) :: blk (.slice A75 n76 c77) :: (q107 ++ (q91 ++ [])))) (O := O) ((Ow.spa (A := (blk (.slice A102 n103 c104) :: (q107 ++ []))) (L := (blk (.slice A86 n87 c88) :: blk (.slice A75 n76 c77) :: (q91 ++ []))) (O := O) ((Ow.spa (A := (blk (.slice A86 n87 c88) :: (q91 ++ []))) (L := [blk (.slice A75 n76 c77)]) (O := O) h89 hp98).sos g101 hk112) hp114).sos g133 hk144) hp148).sn g164).sos g186 hk197) hp199).sn g218).sos g234 hk245) hp247).sn g266)
       have hd286 := (((((((hd93.k0 g101).k0 g133).k0 g164).k0 g186).k0 g218).k0 g234).k0 g266)
       have hp287 : ((blk (.slice A235 n236 c237) :: blk (.slice A187 n188 c189) :: blk (.slice A134 n135 c136) :: blk (.slice A102 n103 c104) :: blk (.slice A86 n87 c88) :: blk (.slice A75 n76 c77) :: (q240 ++ (q192 ++ (q139 ++ (q107 ++ (q91 ++ [])))))) : Ob).Perm ((blk (.slice A86 n87 c88) :: (q91 ++ [])) ++ (blk (.slice A235 n236 c237) :: blk (.slice A187 n188 c189) :: blk (.slice A134 n135 c136) :: blk (.slice A102 n103 c104) :: blk (.slice A75 n76 c77) :: (q240 ++ (q192 ++ (q139 ++ (q107 ++ [])))))) := (by rw [List.perm_iff_count]; intro a; (try simp only [List.count_append, List.count_cons, List.count_nil, Nat.add_zero, Nat.zero_add]); first | done | ac_rfl)
       refine L_call go23 [.slice A86 n87 c88, vi 1] rfl ((laws_markChangeS.calls w265 hc270.ok r7 A86 n87 c88 ra92 q91 h285 hd286 (Dj.left (Dj.left (hc270.perm hp287).dj)) (fun b hb => List.mem_append_left _ (hp287.mem_iff.2 (List.mem_append_left _ hb))) 1 _ H).mono ?_)
       rintro _ w283 ⟨r16, m, ra290, rfl, H, g284, h288, hd289⟩
       have hc291 := hc270.dm g284 (fun b hb => hp287.mem_iff.2 (List.mem_append_left _ hb))
       refine L_pu (P_assign (vi r16) rfl) ?_
       refine L_nil ?_
       refine W_seq ?_
       refine W_reg ?_
       refine L_pu (P_move (.slice A102 n103 c104) rfl) ?_
       refine L_pu (P_move (vi r16) rfl) ?_
       have h294 := (Ow.gm ((Ow.spa (A := (blk (.slice A235 n236 c237) :: (q240 ++ []))) (L := (blk (.slice A187 n188 c189) :: blk (.slice A134 n135 c136) :: blk (.slice A102 n103 c104) :: blk (.slice A86 n87 c88) :: blk (.slice A75 n76 c77) :: (q192 ++ (q139 ++ (q107 ++ (q91 ++ [])))))) (O := O) (((Ow.spa (A := (blk (.slice A187 n188 c189) :: (q192 ++ []))) (L := (blk (.slice A134 n135 c136) :: blk (.slice A102 n103 c104) :: blk (.slice A86 n87 c88) :: blk (.slice A75 n76 c77) :: (q139 ++ (q107 ++ (q91 ++ []))))) (O := O) (((Ow.spa (A := (blk (.slice A134 n135 c136) :: (q139 ++ []))) (L := (blk (.slice A102 n103 c104) :: blk (.slice A86 n87 c88) :: blk (.slice A75 n76 c77) :: (q107 ++ (q91 ++ [])))) (O := O) ((Ow.spa (A := (blk (.slice A102 n103 c104) :: (q107 ++ []))) (L := (blk (.slice A86 n87 c88) :: blk (.slice A75 n76 c77) :: (q91 ++ []))) (O := O) h105 hp114).sos g133 hk144) hp148).sn g164).sos g186 hk197) hp199).sn g218).sos g234 hk245) hp247).sn g266) g284 (fun b hb => List.mem_append_left _ (hp287.mem_iff.2 (List.mem_append_left _ hb))) (Ct.sep1 (L := (blk (.slice A235 n236 c237) :: blk (.slice A187 n188 c189) :: blk (.slice A134 n135 c136) :: blk (.slice A102 n103 c104) :: blk (.slice A86 n87 c88) :: blk (.slice A75 n76 c77) :: (q240 ++ (q192 ++ (q139 ++ (q107 ++ (q91 ++ []))))))) (O := O) hc270 (B := (blk (.slice A86 n87 c88) :: (q91 ++ []))) (C := (blk (.slice A235 n236 c237) :: blk (.slice A187 n188 c189) :: blk (.slice A134 n135 c136) :: blk (.slice A75 n76 c77) :: (q240 ++ (q192 ++ (q139 ++ (q107 ++ [])))))) (by rw [List.perm_iff_count]; intro a; (try simp only [List.count_append, List.count_cons, List.count_nil, Nat.add_zero, Nat.zero_add]); first | done | ac_rfl)))
       have hd295 := (DArr.gm ((((((hd109.k0 g133).k0 g164).k0 g186).k0 g218).k0 g234).k0 g266) g284 (Ct.sep (L := (blk (.slice A235 n236 c237) :: blk (.slice A187 n188 c189) :: blk (.slice A134 n135 c136) :: blk (.slice A102 n103 c104) :: blk (.slice A86 n87 c88) :: blk (.slice A75 n76 c77) :: (q240 ++ (q192 ++ (q139 ++ (q107 ++ (q91 ++ []))))))) (O := O) hc270 (A := q107) (B := (blk (.slice A86 n87 c88) :: (q91 ++ []))) (C := (blk (.slice A235 n236 c237) :: blk (.slice A187 n188 c189) :: blk (.slice A134 n135 c136) :: blk (.slice A102 n103 c104) :: blk (.slice A75 n76 c77) :: (q240 ++ (q192 ++ (q139 ++ []))))) (by rw [List.perm_iff_count]; intro a; (try simp only [List.count_append, List.count_cons, List.count_nil, Nat.add_zero, Nat.zero_add]); first | done | ac_rfl)))
       have hp296 : ((blk (.slice A235 n236 c237) :: blk (.slice A187 n188 c189) :: blk (.slice A134 n135 c136) :: blk (.slice A102 n103 c104) :: blk (.slice A86 n87 c88) :: blk (.slice A75 n76 c77) :: (q240 ++ (q192 ++ (q139 ++ (q107 ++ (q91 ++ [])))))) : Ob).Perm ((blk (.slice A102 n103 c104) :: (q107 ++ [])) ++ (blk (.slice A235 n236 c237) :: blk (.slice A187 n188 c189) :: blk (.slice A134 n135 c136) :: blk (.slice A86 n87 c88) :: blk (.slice A75 n76 c77) :: (q240 ++ (q192 ++ (q139 ++ (q91 ++ [])))))) := (by rw [List.perm_iff_count]; intro a; (try simp only [List.count_append, List.count_cons, List.count_nil, Nat.add_zero, Nat.zero_add]); first | done | ac_rfl)
       refine L_call go23 [.slice A102 n103 c104, vi r16] rfl ((laws_markChangeS.calls w283 hc291.ok r8 A102 n103 c104 ra108 q107 h294 hd295 (Dj.left (Dj.left (hc291.perm hp296).dj)) (fun b hb => List.mem_append_left _ (hp296.mem_iff.2 (List.mem_append_left _ hb))) r16 _ H).mono ?_)
       rintro _ w292 ⟨r17, m2, ra299, rfl, H, g293, h297, hd298⟩
       have hc300 := hc291.dm g293 (fun b hb => hp296.mem_iff.2 (List.mem_append_left _ hb))
       refine L_pu (P_assign (vi r17) rfl) ?_
       refine L_nil ?_
       refine W_seq ?_
       refine W_seq ?_
       refine W_reg ?_
       refine L_pu (P_move (vi r17) rfl) ?_
       refine L_pu (P_cmp r17 0 (decide (r17 < 0)) rfl rfl rfl) ?_
       refine L_pu (P_move (vb (decide (r17 < 0))) rfl) ?_
       rcases bool_or (decide (r17 < 0)) with hq301 | hq301
       ·have H := ite_t H hq301
        refine L_pass (dj := 72) rfl rfl (.inl (by exact congrArg Value.bool hq301)) ?_
        refine L_pass (dj := 72) rfl rfl (.inl (by exact congrArg Value.bool hq301)) ?_
        refine L_pass (dj := 72) rfl rfl (.inl (by exact congrArg Value.bool hq301)) ?_
        refine L_pass (dj := 72) rfl rfl (.inl (by exact congrArg Value.bool hq301)) ?_
        refine L_pu (P_pick true (vb true) (by exact congrArg Value.bool hq301) rfl) ?_
        refine L_pu (P_move (vb true) rfl) ?_
        refine L_pass (dj := 78) rfl rfl (.inl rfl) ?_
        refine L_pass (dj := 78) rfl rfl (.inl rfl) ?_
        refine L_pass (dj := 78) rfl rfl (.inl rfl) ?_
        refine L_pu (P_pick true (vb true) (by exact congrArg Value.bool rfl) rfl) ?_
        refine L_nil ?_
        refine W_ct (b := true) rfl rfl ?_
        refine W_seq ?_
        refine W_reg ?_
        refine L_pu (P_assign (vb false) rfl) ?_
        refine L_nil ?_
        refine W_ret ?_
        have hp302 : ((blk (.slice A235 n236 c237) :: blk (.slice A187 n188 c189) :: blk (.slice A134 n135 c136) :: blk (.slice A102 n103 c104) :: blk (.slice A86 n87 c88) :: blk (.slice A75 n76 c77) :: (q240 ++ (q192 ++ (q139 ++ (q107 ++ (q91 ++ [])))))) : Ob).Perm ((blk (.slice A235 n236 c237) :: (q240 ++ [])) ++ (blk (.slice A187 n188 c189) :: blk (.slice A134 n135 c136) :: blk (.slice A102 n103 c104) :: blk (.slice A86 n87 c88) :: blk (.slice A75 n76 c77) :: (q192 ++ (q139 ++ (q107 ++ (q91 ++ [])))))) := (by rw [List.perm_iff_count]; intro a; (try simp only [List.count_append, List.count_cons, List.count_nil, Nat.add_zero, Nat.zero_add]); first | done | ac_rfl)
        have hc303 := hc300.drops hp302
        have hp304 : ((blk (.slice A187 n188 c189) :: blk (.slice A134 n135 c136) :: blk (.slice A102 n103 c104) :: blk (.slice A86 n87 c88) :: blk (.slice A75 n76 c77) :: (q192 ++ (q139 ++ (q107 ++ (q91 ++ []))))) : Ob).Perm ((blk (.slice A187 n188 c189) :: (q192 ++ [])) ++ (blk (.slice A134 n135 c136) :: blk (.slice A102 n103 c104) :: blk (.slice A86 n87 c88) :: blk (.slice A75 n76 c77) :: (q139 ++ (q107 ++ (q91 ++ []))))) := (by rw [List.perm_iff_count]; intro a; (try simp only [List.count_append, List.count_cons, List.count_nil, Nat.add_zero, Nat.zero_add]); first | done | ac_rfl)
        have hc305 := hc303.drops hp304
        have hp306 : ((blk (.slice A134 n135 c136) :: blk (.slice A102 n103 c104) :: blk (.slice A86 n87 c88) :: blk (.slice A75 n76 c77) :: (q139 ++ (q107 ++ (q91 ++ [])))) : Ob).Perm ((blk (.slice A134 n135 c136) :: (q139 ++ [])) ++ (blk (.slice A102 n103 c104) :: blk (.slice A86 n87 c88) :: blk (.slice A75 n76 c77) :: (q107 ++ (q91 ++ [])))) := (by rw [List.perm_iff_count]; intro a; (try simp only [List.count_append, List.count_cons, List.count_nil, Nat.add_zero, Nat.zero_add]); first | done | ac_rfl)
        have hc307 := hc305.drops hp306
        have hp308 : ((blk (.slice A102 n103 c104) :: blk (.slice A86 n87 c88) :: blk (.slice A75 n76 c77) :: (q107 ++ (q91 ++ []))) : Ob).Perm ((blk (.slice A102 n103 c104) :: (q107 ++ [])) ++ (blk (.slice A86 n87 c88) :: blk (.slice A75 n76 c77) :: (q91 ++ []))) := (by rw [List.perm_iff_count]; intro a; (try simp only [List.count_append, List.count_cons, List.count_nil, Nat.add_zero, Nat.zero_add]); first | done | ac_rfl)
        have hc309 := hc307.drops hp308
        have hp310 : ((blk (.slice A86 n87 c88) :: blk (.slice A75 n76 c77) :: (q91 ++ [])) : Ob).Perm ((blk (.slice A86 n87 c88) :: (q91 ++ [])) ++ [blk (.slice A75 n76 c77)]) := (by rw [List.perm_iff_count]; intro a; (try simp only [List.count_append, List.count_cons, List.count_nil, Nat.add_zero, Nat.zero_add]); first | done | ac_rfl)
        have hc311 := hc309.drops hp310
        have hc312 := hc311.drop 0 rfl
        exact ⟨[vb false], ⟨_, rfl, rfl⟩, false, rfl, H, hc312.gr.g0⟩
       ·have H := ite_f H hq301
        refine L_run (dj := 72) rfl rfl (by exact congrArg Value.bool hq301) ?_
        refine L_pu (P_move (.slice A134 n135 c136) rfl) ?_
        refine L_run (dj := 72) rfl rfl (by exact congrArg Value.bool hq301) ?_
        refine L_pu (P_move (.slice A75 n76 c77) rfl) ?_
        refine L_run (dj := 72) rfl rfl (by exact congrArg Value.bool hq301) ?_
        have h313 := (Ow.gm (Ow.gm ((Ow.spa (A := (blk (.slice A235 n236 c237) :: (q240 ++ []))) (L := (blk (.slice A187 n188 c189) :: blk (.slice A134 n135 c136) :: blk (.slice A102 n103 c104) :: blk (.slice A86 n87 c88) :: blk (.slice A75 n76 c77) :: (q192 ++ (q139 ++ (q107 ++ (q91 ++ [])))))) (O := O) (((Ow.spa (A := (blk (.slice A187 n188 c189) :: (q192 ++ []))) (L := (blk (.slice A134 n135 c136) :: blk (.slice A102 n103 c104) :: blk (.slice A86 n87 c88) :: blk (.slice A75 n76 c77) :: (q139 ++ (q107 ++ (q91 ++ []))))) (O := O) (((Ow.spa (A := (blk (.slice A134 n135 c136) :: (q139 ++ []))) (L := (blk (.slice A102 n103 c104) :: blk (.slice A86 n87 c88) :: blk (.slice A75 n76 c77) :: (q107 ++ (q91 ++ [])))) (O := O) h147 hp148).sn g164).sos g186 hk197) hp199).sn g218).sos g234 hk245) hp247).sn g266) g284 (fun b hb => List.mem_append_left _ (hp287.mem_iff.2 (List.mem_append_left _ hb))) (Ct.sep1 (L := (blk (.slice A235 n236 c237) :: blk (.slice A187 n188 c189) :: blk (.slice A134 n135 c136) :: blk (.slice A102 n103 c104) :: blk (.slice A86 n87 c88) :: blk (.slice A75 n76 c77) :: (q240 ++ (q192 ++ (q139 ++ (q107 ++ (q91 ++ []))))))) (O := O) hc270 (B := (blk (.slice A86 n87 c88) :: (q91 ++ []))) (C := (blk (.slice A235 n236 c237) :: blk (.slice A187 n188 c189) :: blk (.slice A102 n103 c104) :: blk (.slice A75 n76 c77) :: (q240 ++ (q192 ++ (q139 ++ (q107 ++ [])))))) (by rw [List.perm_iff_count]; intro a; (try simp only [List.count_append, List.count_cons, List.count_nil, Nat.add_zero, Nat.zero_add]); first | done | ac_rfl))) g293 (fun b hb => List.mem_append_left _ (hp296.mem_iff.2 (List.mem_append_left _ hb))) (Ct.sep1 (L := (blk (.slice A235 n236 c237) :: blk (.slice A187 n188 c189) :: blk (.slice A134 n135 c136) :: blk (.slice A102 n103 c104) :: blk (.slice A86 n87 c88) :: blk (.slice A75 n76 c77) :: (q240 ++ (q192 ++ (q139 ++ (q107 ++ (q91 ++ []))))))) (O := O) hc291 (B := (blk (.slice A102 n103 c104) :: (q107 ++ []))) (C := (blk (.slice A235 n236 c237) :: blk (.slice A187 n188 c189) :: blk (.slice A86 n87 c88) :: blk (.slice A75 n76 c77) :: (q240 ++ (q192 ++ (q139 ++ (q91 ++ [])))))) (by rw [List.perm_iff_count]; intro a; (try simp only [List.count_append, List.count_cons, List.count_nil, Nat.add_zero, Nat.zero_add]); first | done | ac_rfl)))
        have hd314 := (DArr.gm (DArr.gm (((((hd141.k0 g164).k0 g186).k0 g218).k0 g234).k0 g266) g284 (Ct.sep (L := (blk (.slice A235 n236 c237) :: blk (.slice A187 n188 c189) :: blk (.slice A134 n135 c136) :: blk (.slice A102 n103 c104) :: blk (.slice A86 n87 c88) :: blk (.slice A75 n76 c77) :: (q240 ++ (q192 ++ (q139 ++ (q107 ++ (q91 ++ []))))))) (O := O) hc270 (A := q139) (B := (blk (.slice A86 n87 c88) :: (q91 ++ []))) (C := (blk (.slice A235 n236 c237) :: blk (.slice A187 n188 c189) :: blk (.slice A134 n135 c136) :: blk (.slice A102 n103 c104) :: blk (.slice A75 n76 c77) :: (q240 ++ (q192 ++ (q107 ++ []))))) (by rw [List.perm_iff_count]; intro a; (try simp only [List.count_append, List.count_cons, List.count_nil, Nat.add_zero, Nat.zero_add]); first | done | ac_rfl))) g293 (Ct.sep (L := (blk (.slice A235 n236 c237) :: blk (.slice A187 n188 c189) :: blk (.slice A134 n135 c136) :: blk (.slice A102 n103 c104) :: blk (.slice A86 n87 c88) :: blk (.slice A75 n76 c77) :: (q240 ++ (q192 ++ (q139 ++ (q107 ++ (q91 ++ []))))))) (O := O) hc291 (A := q139) (B := (blk (.slice A102 n103 c104) :: (q107 ++ []))) (C := (blk (.slice A235 n236 c237) :: blk (.slice A187 n188 c189) :: blk (.slice A134 n135 c136) :: blk (.slice A86 n87 c88) :: blk (.slice A75 n76 c77) :: (q240 ++ (q192 ++ (q91 ++ []))))) (by rw [List.perm_iff_count]; intro a; (try simp only [List.count_append, List.count_cons, List.count_nil, Nat.add_zero, Nat.zero_add]); first | done | ac_rfl)))
        have hp318 : ((blk (.slice A235 n236 c237) :: blk (.slice A187 n188 c189) :: blk (.slice A134 n135 c136) :: blk (.slice A102 n103 c104) :: blk (.slice A86 n87 c88) :: blk (.slice A75 n76 c77) :: (q240 ++ (q192 ++ (q139 ++ (q107 ++ (q91 ++ [])))))) : Ob).Perm (blk (.slice A134 n135 c136) :: (q139 ++ (blk (.slice A235 n236 c237) :: blk (.slice A187 n188 c189) :: blk (.slice A102 n103 c104) :: blk (.slice A86 n87 c88) :: blk (.slice A75 n76 c77) :: (q240 ++ (q192 ++ (q107 ++ (q91 ++ []))))))) := (by rw [List.perm_iff_count]; intro a; (try simp only [List.count_append, List.count_cons, List.count_nil, Nat.add_zero, Nat.zero_add]); first | done | ac_rfl)
        obtain ⟨h315, hc316, s317⟩ := Dp.gv (L := (blk (.slice A235 n236 c237) :: blk (.slice A187 n188 c189) :: blk (.slice A134 n135 c136) :: blk (.slice A102 n103 c104) :: blk (.slice A86 n87 c88) :: blk (.slice A75 n76 c77) :: (q240 ++ (q192 ++ (q139 ++ (q107 ++ (q91 ++ []))))))) (O := O) h313 hd314 hc300 hp318
        have h321 := (Ow.drops (L := (blk (.slice A235 n236 c237) :: blk (.slice A187 n188 c189) :: blk (.slice A134 n135 c136) :: blk (.slice A102 n103 c104) :: blk (.slice A86 n87 c88) :: blk (.slice A75 n76 c77) :: (q240 ++ (q192 ++ (q139 ++ (q107 ++ (q91 ++ []))))))) (O := O) (rs := blk (.slice A134 n135 c136) :: q139) (Ow.gm (Ow.gm ((Ow.spa (A := (blk (.slice A235 n236 c237) :: (q240 ++ []))) (L := (blk (.slice A187 n188 c189) :: blk (.slice A134 n135 c136) :: blk (.slice A102 n103 c104) :: blk (.slice A86 n87 c88) :: blk (.slice A75 n76 c77) :: (q192 ++ (q139 ++ (q107 ++ (q91 ++ [])))))) (O := O) (((Ow.spa (A := (blk (.slice A187 n188 c189) :: (q192 ++ []))) (L := (blk (.slice A134 n135 c136) :: blk (.slice A102 n103 c104) :: blk (.slice A86 n87 c88) :: blk (.slice A75 n76 c77) :: (q139 ++ (q107 ++ (q91 ++ []))))) (O := O) (((Ow.spa (A := (blk (.slice A134 n135 c136) :: (q139 ++ []))) (L := (blk (.slice A102 n103 c104) :: blk (.slice A86 n87 c88) :: blk (.slice A75 n76 c77) :: (q107 ++ (q91 ++ [])))) (O := O) ((Ow.spa (A := (blk (.slice A102 n103 c104) :: (q107 ++ []))) (L := (blk (.slice A86 n87 c88) :: blk (.slice A75 n76 c77) :: (q91 ++ []))) (O := O) ((Ow.spa (A := (blk (.slice A86 n87 c88) :: (q91 ++ []))) (L := [blk (.slice A75 n76 c77)]) (O := O) (h78.sos g85 hk96) hp98).sos g101 hk112) hp114).sos g133 hk144) hp148).sn g164).sos g186 hk197) hp199).sn g218).sos g234 hk245) hp247).sn g266) g284 (fun b hb => List.mem_append_left _ (hp287.mem_iff.2 (List.mem_append_left _ hb))) (Ct.sep1 (L := (blk (.slice A235 n236 c237) :: blk (.slice A187 n188 c189) :: blk (.slice A134 n135 c136) :: blk (.slice A102 n103 c104) :: blk (.slice A86 n87 c88) :: blk (.slice A75 n76 c77) :: (q240 ++ (q192 ++ (q139 ++ (q107 ++ (q91 ++ []))))))) (O := O) hc270 (B := (blk (.slice A86 n87 c88) :: (q91 ++ []))) (C := (blk (.slice A235 n236 c237) :: blk (.slice A187 n188 c189) :: blk (.slice A134 n135 c136) :: blk (.slice A102 n103 c104) :: (q240 ++ (q192 ++ (q139 ++ (q107 ++ [])))))) (by rw [List.perm_iff_count]; intro a; (try simp only [List.count_append, List.count_cons, List.count_nil, Nat.add_zero, Nat.zero_add]); first | done | ac_rfl))) g293 (fun b hb => List.mem_append_left _ (hp296.mem_iff.2 (List.mem_append_left _ hb))) (Ct.sep1 (L := (blk (.slice A235 n236 c237) :: blk (.slice A187 n188 c189) :: blk (.slice A134 n135 c136) :: blk (.slice A102 n103 c104) :: blk (.slice A86 n87 c88) :: blk (.slice A75 n76 c77) :: (q240 ++ (q192 ++ (q139 ++ (q107 ++ (q91 ++ []))))))) (O := O) hc291 (B := (blk (.slice A102 n103 c104) :: (q107 ++ []))) (C := (blk (.slice A235 n236 c237) :: blk (.slice A187 n188 c189) :: blk (.slice A134 n135 c136) :: blk (.slice A86 n87 c88) :: (q240 ++ (q192 ++ (q139 ++ (q91 ++ [])))))) (by rw [List.perm_iff_count]; intro a; (try simp only [List.count_append, List.count_cons, List.count_nil, Nat.add_zero, Nat.zero_add]); first | done | ac_rfl))) hp318 (memi 4 rfl))
        have h322 := Ow.gv (L := (blk (.slice A235 n236 c237) :: blk (.slice A187 n188 c189) :: blk (.slice A102 n103 c104) :: blk (.slice A86 n87 c88) :: blk (.slice A75 n76 c77) :: (q240 ++ (q192 ++ (q107 ++ (q91 ++ [])))))) (O := O) h321 hc316 (i := 4) rfl
        have hc323 := hc316.drop 4 rfl
        have h325 := (h315.st (.dr _ (L := (blk (.slice A235 n236 c237) :: blk (.slice A187 n188 c189) :: blk (.slice A102 n103 c104) :: blk (.slice A86 n87 c88) :: blk (.slice A75 n76 c77) :: (q240 ++ (q192 ++ (q107 ++ (q91 ++ [])))))) (O := O) (j := 4) rfl))
        refine L_call go22 [.slice A134 n135 c136, .slice A75 n76 c77] rfl ((laws_eqChangeS.calls w292 hc323.ok r9 A134 n135 c136 h325 r5 A75 n76 c77 h322 _ H).mono ?_)
        rintro _ w326 ⟨r18, rfl, H, g327⟩
        have hc331 := hc300.k0 g327
        refine L_run (dj := 72) rfl rfl (by exact congrArg Value.bool hq301) ?_
        refine L_pu (P_not r18 rfl) ?_
        refine L_pu (P_pick false (vb (!r18)) (by exact congrArg Value.bool hq301) rfl) ?_
        refine L_pu (P_move (vb (!r18)) rfl) ?_
        rcases bool_or (!r18) with hq332 | hq332
        ·have H := ite_t H hq332
         refine L_pass (dj := 78) rfl rfl (.inl (by exact congrArg Value.bool hq332)) ?_
         refine L_pass (dj := 78) rfl rfl (.inl (by exact congrArg Value.bool hq332)) ?_
         refine L_pass (dj := 78) rfl rfl (.inl (by exact congrArg Value.bool hq332)) ?_
         refine L_pu (P_pick true (vb true) (by exact congrArg Value.bool hq332) rfl) ?_
         refine L_nil ?_
         refine W_ct (b := true) rfl rfl ?_
         refine W_seq ?_
         refine W_reg ?_
         refine L_pu (P_assign (vb false) rfl) ?_
         refine L_nil ?_
         refine W_ret ?_
         have hp333 : ((blk (.slice A235 n236 c237) :: blk (.slice A187 n188 c189) :: blk (.slice A134 n135 c136) :: blk (.slice A102 n103 c104) :: blk (.slice A86 n87 c88) :: blk (.slice A75 n76 c77) :: (q240 ++ (q192 ++ (q139 ++ (q107 ++ (q91 ++ [])))))) : Ob).Perm ((blk (.slice A235 n236 c237) :: (q240 ++ [])) ++ (blk (.slice A187 n188 c189) :: blk (.slice A134 n135 c136) :: blk (.slice A102 n103 c104) :: blk (.slice A86 n87 c88) :: blk (.slice A75 n76 c77) :: (q192 ++ (q139 ++ (q107 ++ (q91 ++ [])))))) := (by rw [List.perm_iff_count]; intro a; (try simp only [List.count_append, List.count_cons, List.count_nil, Nat.add_zero, Nat.zero_add]); first | done | ac_rfl)
         have hc334 := hc331.drops hp333
         have hp335 : ((blk (.slice A187 n188 c189) :: blk (.slice A134 n135 c136) :: blk (.slice A102 n103 c104) :: blk (.slice A86 n87 c88) :: blk (.slice A75 n76 c77) :: (q192 ++ (q139 ++ (q107 ++ (q91 ++ []))))) : Ob).Perm ((blk (.slice A187 n188 c189) :: (q192 ++ [])) ++ (blk (.slice A134 n135 c136) :: blk (.slice A102 n103 c104) :: blk (.slice A86 n87 c88) :: blk (.slice A75 n76 c77) :: (q139 ++ (q107 ++ (q91 ++ []))))) := (by rw [List.perm_iff_count]; intro a; (try simp only [List.count_append, List.count_cons, List.count_nil, Nat.add_zero, Nat.zero_add]); first | done | ac_rfl)
         have hc336 := hc334.drops hp335
         have hp337 : ((blk (.slice A134 n135 c136) :: blk (.slice A102 n103 c104) :: blk (.slice A86 n87 c88) :: blk (.slice A75 n76 c77) :: (q139 ++ (q107 ++ (q91 ++ [])))) : Ob).Perm ((blk (.slice A134 n135 c136) :: (q139 ++ [])) ++ (blk (.slice A102 n103 c104) :: blk (.slice A86 n87 c88) :: blk (.slice A75 n76 c77) :: (q107 ++ (q91 ++ [])))) := (by rw [List.perm_iff_count]; intro a; (try simp only [List.count_append, List.count_cons, List.count_nil, Nat.add_zero, Nat.zero_add]); first | done | ac_rfl)
         have hc338 := hc336.drops hp337
         have hp339 : ((blk (.slice A102 n103 c104) :: blk (.slice A86 n87 c88) :: blk (.slice A75 n76 c77) :: (q107 ++ (q91 ++ []))) : Ob).Perm ((blk (.slice A102 n103 c104) :: (q107 ++ [])) ++ (blk (.slice A86 n87 c88) :: blk (.slice A75 n76 c77) :: (q91 ++ []))) := (by rw [List.perm_iff_count]; intro a; (try simp only [List.count_append, List.count_cons, List.count_nil, Nat.add_zero, Nat.zero_add]); first | done | ac_rfl)
         have hc340 := hc338.drops hp339
         have hp341 : ((blk (.slice A86 n87 c88) :: blk (.slice A75 n76 c77) :: (q91 ++ [])) : Ob).Perm ((blk (.slice A86 n87 c88) :: (q91 ++ [])) ++ [blk (.slice A75 n76 c77)]) := (by rw [List.perm_iff_count]; intro a; (try simp only [List.count_append, List.count_cons, List.count_nil, Nat.add_zero, Nat.zero_add]); first | done | ac_rfl)
         have hc342 := hc340.drops hp341
         have hc343 := hc342.drop 0 rfl
         exact ⟨[vb false], ⟨_, rfl, rfl⟩, false, rfl, H, hc343.gr.g0⟩
        ·have H := ite_f H hq332
         refine L_run (dj := 78) rfl rfl (by exact congrArg Value.bool hq332) ?_
         refine L_pu (P_move (vb r10) rfl) ?_
         refine L_run (dj := 78) rfl rfl (by exact congrArg Value.bool hq332) ?_
         refine L_pu (P_move (vb r6) rfl) ?_
         refine L_run (dj := 78) rfl rfl (by exact congrArg Value.bool hq332) ?_
         refine L_pu (P_bcmp Try.underlying4 r10 r6 (r10 != r6) rfl rfl rfl) ?_
         refine L_pu (P_pick false (vb (r10 != r6)) (by exact congrArg Value.bool hq332) rfl) ?_
         refine L_nil ?_
         refine W_cf (b := r10 != r6) rfl hq177 ?_
         refine W_skip ?_
         refine W_seq ?_
         refine W_reg ?_
         refine L_pu (P_assign (vi 1) rfl) ?_
         refine L_nil ?_
         refine W_seq ?_
         refine W_reg ?_
         refine L_pu (P_move (.slice A134 n135 c136) rfl) ?_
         refine L_pu (P_move (vi 1) rfl) ?_
         have h346 := ((Ow.gm (Ow.gm ((Ow.spa (A := (blk (.slice A235 n236 c237) :: (q240 ++ []))) (L := (blk (.slice A187 n188 c189) :: blk (.slice A134 n135 c136) :: blk (.slice A102 n103 c104) :: blk (.slice A86 n87 c88) :: blk (.slice A75 n76 c77) :: (q192 ++ (q139 ++ (q107 ++ (q91 ++ [])))))) (O := O) (((Ow.spa (A := (blk (.slice A187 n188 c189) :: (q192 ++ []))) (L := (blk (.slice A134 n135 c136) :: blk (.slice A102 n103 c104) :: blk (.slice A86 n87 c88) :: blk (.slice A75 n76 c77) :: (q139 ++ (q107 ++ (q91 ++ []))))) (O := O) (((Ow.spa (A := (blk (.slice A134 n135 c136) :: (q139 ++ []))) (L := (blk (.slice A102 n103 c104) :: blk (.slice A86 n87 c88) :: blk (.slice A75 n76 c77) :: (q107 ++ (q91 ++ [])))) (O := O) h147 hp148).sn g164).sos g186 hk197) hp199).sn g218).sos g234 hk245) hp247).sn g266) g284 (fun b hb => List.mem_append_left _ (hp287.mem_iff.2 (List.mem_append_left _ hb))) (Ct.sep1 (L := (blk (.slice A235 n236 c237) :: blk (.slice A187 n188 c189) :: blk (.slice A134 n135 c136) :: blk (.slice A102 n103 c104) :: blk (.slice A86 n87 c88) :: blk (.slice A75 n76 c77) :: (q240 ++ (q192 ++ (q139 ++ (q107 ++ (q91 ++ []))))))) (O := O) hc270 (B := (blk (.slice A86 n87 c88) :: (q91 ++ []))) (C := (blk (.slice A235 n236 c237) :: blk (.slice A187 n188 c189) :: blk (.slice A102 n103 c104) :: blk (.slice A75 n76 c77) :: (q240 ++ (q192 ++ (q139 ++ (q107 ++ [])))))) (by rw [List.perm_iff_count]; intro a; (try simp only [List.count_append, List.count_cons, List.count_nil, Nat.add_zero, Nat.zero_add]); first | done | ac_rfl))) g293 (fun b hb => List.mem_append_left _ (hp296.mem_iff.2 (List.mem_append_left _ hb))) (Ct.sep1 (L := (blk (.slice A235 n236 c237) :: blk (.slice A187 n188 c189) :: blk (.slice A134 n135 c136) :: blk (.slice A102 n103 c104) :: blk (.slice A86 n87 c88) :: blk (.slice A75 n76 c77) :: (q240 ++ (q192 ++ (q139 ++ (q107 ++ (q91 ++ []))))))) (O := O) hc291 (B := (blk (.slice A102 n103 c104) :: (q107 ++ []))) (C := (blk (.slice A235 n236 c237) :: blk (.slice A187 n188 c189) :: blk (.slice A86 n87 c88) :: blk (.slice A75 n76 c77) :: (q240 ++ (q192 ++ (q139 ++ (q91 ++ [])))))) (by rw [List.perm_iff_count]; intro a; (try simp only [List.count_append, List.count_cons, List.count_nil, Nat.add_zero, Nat.zero_add]); first | done | ac_rfl))).sn g327)
         have hd347 := ((DArr.gm (DArr.gm (((((hd141.k0 g164).k0 g186).k0 g218).k0 g234).k0 g266) g284 (Ct.sep (L := (blk (.slice A235 n236 c237) :: blk (.slice A187 n188 c189) :: blk (.slice A134 n135 c136) :: blk (.slice A102 n103 c104) :: blk (.slice A86 n87 c88) :: blk (.slice A75 n76 c77) :: (q240 ++ (q192 ++ (q139 ++ (q107 ++ (q91 ++ []))))))) (O := O) hc270 (A := q139) (B := (blk (.slice A86 n87 c88) :: (q91 ++ []))) (C := (blk (.slice A235 n236 c237) :: blk (.slice A187 n188 c189) :: blk (.slice A134 n135 c136) :: blk (.slice A102 n103 c104) :: blk (.slice A75 n76 c77) :: (q240 ++ (q192 ++ (q107 ++ []))))) (by rw [List.perm_iff_count]; intro a; (try simp only [List.count_append, List.count_cons, List.count_nil, Nat.add_zero, Nat.zero_add]); first | done | ac_rfl))) g293 (Ct.sep (L := (blk (.slice A235 n236 c237) :: blk (.slice A187 n188 c189) :: blk (.slice A134 n135 c136) :: blk (.slice A102 n103 c104) :: blk (.slice A86 n87 c88) :: blk (.slice A75 n76 c77) :: (q240 ++ (q192 ++ (q139 ++ (q107 ++ (q91 ++ []))))))) (O := O) hc291 (A := q139) (B := (blk (.slice A102 n103 c104) :: (q107 ++ []))) (C := (blk (.slice A235 n236 c237) :: blk (.slice A187 n188 c189) :: blk (.slice A134 n135 c136) :: blk (.slice A86 n87 c88) :: blk (.slice A75 n76 c77) :: (q240 ++ (q192 ++ (q91 ++ []))))) (by rw [List.perm_iff_count]; intro a; (try simp only [List.count_append, List.count_cons, List.count_nil, Nat.add_zero, Nat.zero_add]); first | done | ac_rfl))).k0 g327)
         have hp348 : ((blk (.slice A235 n236 c237) :: blk (.slice A187 n188 c189) :: blk (.slice A134 n135 c136) :: blk (.slice A102 n103 c104) :: blk (.slice A86 n87 c88) :: blk (.slice A75 n76 c77) :: (q240 ++ (q192 ++ (q139 ++ (q107 ++ (q91 ++ [])))))) : Ob).Perm ((blk (.slice A134 n135 c136) :: (q139 ++ [])) ++ (blk (.slice A235 n236 c237) :: blk (.slice A187 n188 c189) :: blk (.slice A102 n103 c104) :: blk (.slice A86 n87 c88) :: blk (.slice A75 n76 c77) :: (q240 ++ (q192 ++ (q107 ++ (q91 ++ [])))))) := (by rw [List.perm_iff_count]; intro a; (try simp only [List.count_append, List.count_cons, List.count_nil, Nat.add_zero, Nat.zero_add]); first | done | ac_rfl)
         refine L_call go23 [.slice A134 n135 c136, vi 1] rfl ((laws_markChangeS.calls w326 hc331.ok r9 A134 n135 c136 ra140 q139 h346 hd347 (Dj.left (Dj.left (hc331.perm hp348).dj)) (fun b hb => List.mem_append_left _ (hp348.mem_iff.2 (List.mem_append_left _ hb))) 1 _ H).mono ?_)
         rintro _ w344 ⟨r19, m3, ra351, rfl, H, g345, h349, hd350⟩
         have hc352 := hc331.dm g345 (fun b hb => hp348.mem_iff.2 (List.mem_append_left _ hb))
         refine L_pu (P_assign (vi r19) rfl) ?_
         refine L_nil ?_
         refine W_seq ?_
         refine W_reg ?_
         refine L_pu (P_assign (vi 1) rfl) ?_
         refine L_nil ?_
         refine W_seq ?_
         refine W_reg ?_
         refine L_pu (P_move (.slice A134 n135 c136) rfl) ?_
         refine L_pu (P_move (vi 1) rfl) ?_
         have hp356 : ((blk (.slice A235 n236 c237) :: blk (.slice A187 n188 c189) :: blk (.slice A134 n135 c136) :: blk (.slice A102 n103 c104) :: blk (.slice A86 n87 c88) :: blk (.slice A75 n76 c77) :: (q240 ++ (q192 ++ (q139 ++ (q107 ++ (q91 ++ [])))))) : Ob).Perm (blk (.slice A134 n135 c136) :: (q139 ++ (blk (.slice A235 n236 c237) :: blk (.slice A187 n188 c189) :: blk (.slice A102 n103 c104) :: blk (.slice A86 n87 c88) :: blk (.slice A75 n76 c77) :: (q240 ++ (q192 ++ (q107 ++ (q91 ++ []))))))) := (by rw [List.perm_iff_count]; intro a; (try simp only [List.count_append, List.count_cons, List.count_nil, Nat.add_zero, Nat.zero_add]); first | done | ac_rfl)
         obtain ⟨h353, hc354, s355⟩ := Dp.gv (L := (blk (.slice A235 n236 c237) :: blk (.slice A187 n188 c189) :: blk (.slice A134 n135 c136) :: blk (.slice A102 n103 c104) :: blk (.slice A86 n87 c88) :: blk (.slice A75 n76 c77) :: (q240 ++ (q192 ++ (q139 ++ (q107 ++ (q91 ++ []))))))) (O := O) h349 hd350 hc352 hp356
         refine L_call go24 [.slice A134 n135 c136, vi 1] rfl ((laws_heldChangeS.calls w344 hc354.ok m3 A134 n135 c136 h353 1 _ H).mono ?_)
         rintro _ w359 ⟨r20, rfl, H, g360⟩
         have hc364 := hc352.k0 g360
         refine L_pu (P_assign (vi r20) rfl) ?_
         refine L_nil ?_
         refine W_seq ?_
         refine W_seq ?_
         refine W_reg ?_
         refine L_pu (P_move (vi r20) rfl) ?_
         refine L_pu (P_cmp r20 0 (decide (r20 < 0)) rfl rfl rfl) ?_
         refine L_nil ?_
         refine W_cond (decide (r20 < 0)) rfl (fun hq365 => ?_) (fun hq365 => ?_)
         ·have H := ite_t H hq365
          refine W_seq ?_
          refine W_reg ?_
          refine L_pu (P_assign (vb false) rfl) ?_
          refine L_nil ?_
          refine W_ret ?_
          have hp366 : ((blk (.slice A235 n236 c237) :: blk (.slice A187 n188 c189) :: blk (.slice A134 n135 c136) :: blk (.slice A102 n103 c104) :: blk (.slice A86 n87 c88) :: blk (.slice A75 n76 c77) :: (q240 ++ (q192 ++ (q139 ++ (q107 ++ (q91 ++ [])))))) : Ob).Perm ((blk (.slice A235 n236 c237) :: (q240 ++ [])) ++ (blk (.slice A187 n188 c189) :: blk (.slice A134 n135 c136) :: blk (.slice A102 n103 c104) :: blk (.slice A86 n87 c88) :: blk (.slice A75 n76 c77) :: (q192 ++ (q139 ++ (q107 ++ (q91 ++ [])))))) := (by rw [List.perm_iff_count]; intro a; (try simp only [List.count_append, List.count_cons, List.count_nil, Nat.add_zero, Nat.zero_add]); first | done | ac_rfl)
          have hc367 := hc364.drops hp366
          have hp368 : ((blk (.slice A187 n188 c189) :: blk (.slice A134 n135 c136) :: blk (.slice A102 n103 c104) :: blk (.slice A86 n87 c88) :: blk (.slice A75 n76 c77) :: (q192 ++ (q139 ++ (q107 ++ (q91 ++ []))))) : Ob).Perm ((blk (.slice A187 n188 c189) :: (q192 ++ [])) ++ (blk (.slice A134 n135 c136) :: blk (.slice A102 n103 c104) :: blk (.slice A86 n87 c88) :: blk (.slice A75 n76 c77) :: (q139 ++ (q107 ++ (q91 ++ []))))) := (by rw [List.perm_iff_count]; intro a; (try simp only [List.count_append, List.count_cons, List.count_nil, Nat.add_zero, Nat.zero_add]); first | done | ac_rfl)
          have hc369 := hc367.drops hp368
          have hp370 : ((blk (.slice A134 n135 c136) :: blk (.slice A102 n103 c104) :: blk (.slice A86 n87 c88) :: blk (.slice A75 n76 c77) :: (q139 ++ (q107 ++ (q91 ++ [])))) : Ob).Perm ((blk (.slice A134 n135 c136) :: (q139 ++ [])) ++ (blk (.slice A102 n103 c104) :: blk (.slice A86 n87 c88) :: blk (.slice A75 n76 c77) :: (q107 ++ (q91 ++ [])))) := (by rw [List.perm_iff_count]; intro a; (try simp only [List.count_append, List.count_cons, List.count_nil, Nat.add_zero, Nat.zero_add]); first | done | ac_rfl)
          have hc371 := hc369.drops hp370
          have hp372 : ((blk (.slice A102 n103 c104) :: blk (.slice A86 n87 c88) :: blk (.slice A75 n76 c77) :: (q107 ++ (q91 ++ []))) : Ob).Perm ((blk (.slice A102 n103 c104) :: (q107 ++ [])) ++ (blk (.slice A86 n87 c88) :: blk (.slice A75 n76 c77) :: (q91 ++ []))) := (by rw [List.perm_iff_count]; intro a; (try simp only [List.count_append, List.count_cons, List.count_nil, Nat.add_zero, Nat.zero_add]); first | done | ac_rfl)
          have hc373 := hc371.drops hp372
          have hp374 : ((blk (.slice A86 n87 c88) :: blk (.slice A75 n76 c77) :: (q91 ++ [])) : Ob).Perm ((blk (.slice A86 n87 c88) :: (q91 ++ [])) ++ [blk (.slice A75 n76 c77)]) := (by rw [List.perm_iff_count]; intro a; (try simp only [List.count_append, List.count_cons, List.count_nil, Nat.add_zero, Nat.zero_add]); first | done | ac_rfl)
          have hc375 := hc373.drops hp374
          have hc376 := hc375.drop 0 rfl
          exact ⟨[vb false], ⟨_, rfl, rfl⟩, false, rfl, H, hc376.gr.g0⟩
         ·have H := ite_f H hq365
          refine W_skip ?_
          refine W_seq ?_
          refine W_seq ?_
          refine W_reg ?_
          refine L_pu (P_move (vi r20) rfl) ?_
          refine L_pu (P_move (vi r19) rfl) ?_
          refine L_pu (P_cmp r20 r19 (r20 != r19) rfl rfl rfl) ?_
          refine L_nil ?_
          refine W_cond (r20 != r19) rfl (fun hq377 => ?_) (fun hq377 => ?_)
          ·have H := ite_t H hq377
           refine W_seq ?_
           refine W_reg ?_
           refine L_pu (P_assign (vb false) rfl) ?_
           refine L_nil ?_
           refine W_ret ?_
           have hp378 : ((blk (.slice A235 n236 c237) :: blk (.slice A187 n188 c189) :: blk (.slice A134 n135 c136) :: blk (.slice A102 n103 c104) :: blk (.slice A86 n87 c88) :: blk (.slice A75 n76 c77) :: (q240 ++ (q192 ++ (q139 ++ (q107 ++ (q91 ++ [])))))) : Ob).Perm ((blk (.slice A235 n236 c237) :: (q240 ++ [])) ++ (blk (.slice A187 n188 c189) :: blk (.slice A134 n135 c136) :: blk (.slice A102 n103 c104) :: blk (.slice A86 n87 c88) :: blk (.slice A75 n76 c77) :: (q192 ++ (q139 ++ (q107 ++ (q91 ++ [])))))) := (by rw [List.perm_iff_count]; intro a; (try simp only [List.count_append, List.count_cons, List.count_nil, Nat.add_zero, Nat.zero_add]); first | done | ac_rfl)
           have hc379 := hc364.drops hp378
           have hp380 : ((blk (.slice A187 n188 c189) :: blk (.slice A134 n135 c136) :: blk (.slice A102 n103 c104) :: blk (.slice A86 n87 c88) :: blk (.slice A75 n76 c77) :: (q192 ++ (q139 ++ (q107 ++ (q91 ++ []))))) : Ob).Perm ((blk (.slice A187 n188 c189) :: (q192 ++ [])) ++ (blk (.slice A134 n135 c136) :: blk (.slice A102 n103 c104) :: blk (.slice A86 n87 c88) :: blk (.slice A75 n76 c77) :: (q139 ++ (q107 ++ (q91 ++ []))))) := (by rw [List.perm_iff_count]; intro a; (try simp only [List.count_append, List.count_cons, List.count_nil, Nat.add_zero, Nat.zero_add]); first | done | ac_rfl)
           have hc381 := hc379.drops hp380
           have hp382 : ((blk (.slice A134 n135 c136) :: blk (.slice A102 n103 c104) :: blk (.slice A86 n87 c88) :: blk (.slice A75 n76 c77) :: (q139 ++ (q107 ++ (q91 ++ [])))) : Ob).Perm ((blk (.slice A134 n135 c136) :: (q139 ++ [])) ++ (blk (.slice A102 n103 c104) :: blk (.slice A86 n87 c88) :: blk (.slice A75 n76 c77) :: (q107 ++ (q91 ++ [])))) := (by rw [List.perm_iff_count]; intro a; (try simp only [List.count_append, List.count_cons, List.count_nil, Nat.add_zero, Nat.zero_add]); first | done | ac_rfl)
           have hc383 := hc381.drops hp382
           have hp384 : ((blk (.slice A102 n103 c104) :: blk (.slice A86 n87 c88) :: blk (.slice A75 n76 c77) :: (q107 ++ (q91 ++ []))) : Ob).Perm ((blk (.slice A102 n103 c104) :: (q107 ++ [])) ++ (blk (.slice A86 n87 c88) :: blk (.slice A75 n76 c77) :: (q91 ++ []))) := (by rw [List.perm_iff_count]; intro a; (try simp only [List.count_append, List.count_cons, List.count_nil, Nat.add_zero, Nat.zero_add]); first | done | ac_rfl)
           have hc385 := hc383.drops hp384
           have hp386 : ((blk (.slice A86 n87 c88) :: blk (.slice A75 n76 c77) :: (q91 ++ [])) : Ob).Perm ((blk (.slice A86 n87 c88) :: (q91 ++ [])) ++ [blk (.slice A75 n76 c77)]) := (by rw [List.perm_iff_count]; intro a; (try simp only [List.count_append, List.count_cons, List.count_nil, Nat.add_zero, Nat.zero_add]); first | done | ac_rfl)
           have hc387 := hc385.drops hp386
           have hc388 := hc387.drop 0 rfl
           exact ⟨[vb false], ⟨_, rfl, rfl⟩, false, rfl, H, hc388.gr.g0⟩
          ·have H := ite_f H hq377
           refine W_skip ?_
           refine W_seq ?_
           refine W_reg ?_
           refine L_pu (P_move (.slice A1 n2 c3) rfl) ?_
           refine L_call go20 [.slice A1 n2 c3] rfl ((laws_toChangeS.calls w359 hc364.ok aA A1 n2 c3 (hp4.st hc364.st) _ H).mono ?_)
           rintro _ w389 ⟨r21, A391, n392, c393, q396, ra397, rfl, H, g390, hk400, hk401, h394, hd398⟩
           have hc402 := hc364.owns g390 hk400 hk401
           have hp403 : (((blk (.slice A391 n392 c393) :: (q396 ++ [])) ++ (blk (.slice A235 n236 c237) :: blk (.slice A187 n188 c189) :: blk (.slice A134 n135 c136) :: blk (.slice A102 n103 c104) :: blk (.slice A86 n87 c88) :: blk (.slice A75 n76 c77) :: (q240 ++ (q192 ++ (q139 ++ (q107 ++ (q91 ++ []))))))) : Ob).Perm (blk (.slice A391 n392 c393) :: blk (.slice A235 n236 c237) :: blk (.slice A187 n188 c189) :: blk (.slice A134 n135 c136) :: blk (.slice A102 n103 c104) :: blk (.slice A86 n87 c88) :: blk (.slice A75 n76 c77) :: (q396 ++ (q240 ++ (q192 ++ (q139 ++ (q107 ++ (q91 ++ []))))))) := (by rw [List.perm_iff_count]; intro a; (try simp only [List.count_append, List.count_cons, List.count_nil, Nat.add_zero, Nat.zero_add]); first | done | ac_rfl)
           have hc404 := hc402.perm hp403
           refine L_pu (P_move (.slice A6 n7 c8) rfl) ?_
           refine L_call go20 [.slice A6 n7 c8] rfl ((laws_toChangeS.calls w389 hc404.ok aB A6 n7 c8 (hp9.st hc404.st) _ H).mono ?_)
           rintro _ w405 ⟨r22, A407, n408, c409, q412, ra413, rfl, H, g406, hk416, hk417, h410, hd414⟩
           have hc418 := hc404.owns g406 hk416 hk417
           have hp419 : (((blk (.slice A407 n408 c409) :: (q412 ++ [])) ++ (blk (.slice A391 n392 c393) :: blk (.slice A235 n236 c237) :: blk (.slice A187 n188 c189) :: blk (.slice A134 n135 c136) :: blk (.slice A102 n103 c104) :: blk (.slice A86 n87 c88) :: blk (.slice A75 n76 c77) :: (q396 ++ (q240 ++ (q192 ++ (q139 ++ (q107 ++ (q91 ++ [])))))))) : Ob).Perm (blk (.slice A407 n408 c409) :: blk (.slice A391 n392 c393) :: blk (.slice A235 n236 c237) :: blk (.slice A187 n188 c189) :: blk (.slice A134 n135 c136) :: blk (.slice A102 n103 c104) :: blk (.slice A86 n87 c88) :: blk (.slice A75 n76 c77) :: (q412 ++ (q396 ++ (q240 ++ (q192 ++ (q139 ++ (q107 ++ (q91 ++ [])))))))) := (by rw [List.perm_iff_count]; intro a; (try simp only [List.count_append, List.count_cons, List.count_nil, Nat.add_zero, Nat.zero_add]); first | done | ac_rfl)
           have hc420 := hc418.perm hp419
           have h421 := (Ow.spa (A := (blk (.slice A407 n408 c409) :: (q412 ++ []))) (L := (blk (.slice A391 n392 c393) :: blk (.slice A235 n236 c237) :: blk (.slice A187 n188 c189) :: blk (.slice A134 n135 c136) :: blk (.slice A102 n103 c104) :: blk (.slice A86 n87 c88) :: blk (.slice A75 n76 c77) :: (q396 ++ (q240 ++ (q192 ++ (q139 ++ (q107 ++ (q91 ++ [])))))))) (O := O) ((Ow.spa (A := (blk (.slice A391 n392 c393) :: (q396 ++ []))) (L := (blk (.slice A235 n236 c237) :: blk (.slice A187 n188 c189) :: blk (.slice A134 n135 c136) :: blk (.slice A102 n103 c104) :: blk (.slice A86 n87 c88) :: blk (.slice A75 n76 c77) :: (q240 ++ (q192 ++ (q139 ++ (q107 ++ (q91 ++ []))))))) (O := O) h394 hp403).sos g406 hk417) hp419)
           have hd422 := (hd398.k0 g406)
           have hp426 : ((blk (.slice A407 n408 c409) :: blk (.slice A391 n392 c393) :: blk (.slice A235 n236 c237) :: blk (.slice A187 n188 c189) :: blk (.slice A134 n135 c136) :: blk (.slice A102 n103 c104) :: blk (.slice A86 n87 c88) :: blk (.slice A75 n76 c77) :: (q412 ++ (q396 ++ (q240 ++ (q192 ++ (q139 ++ (q107 ++ (q91 ++ [])))))))) : Ob).Perm (blk (.slice A391 n392 c393) :: (q396 ++ (blk (.slice A407 n408 c409) :: blk (.slice A235 n236 c237) :: blk (.slice A187 n188 c189) :: blk (.slice A134 n135 c136) :: blk (.slice A102 n103 c104) :: blk (.slice A86 n87 c88) :: blk (.slice A75 n76 c77) :: (q412 ++ (q240 ++ (q192 ++ (q139 ++ (q107 ++ (q91 ++ []))))))))) := (by rw [List.perm_iff_count]; intro a; (try simp only [List.count_append, List.count_cons, List.count_nil, Nat.add_zero, Nat.zero_add]); first | done | ac_rfl)
           obtain ⟨h423, hc424, s425⟩ := Dp.gv (L := (blk (.slice A407 n408 c409) :: blk (.slice A391 n392 c393) :: blk (.slice A235 n236 c237) :: blk (.slice A187 n188 c189) :: blk (.slice A134 n135 c136) :: blk (.slice A102 n103 c104) :: blk (.slice A86 n87 c88) :: blk (.slice A75 n76 c77) :: (q412 ++ (q396 ++ (q240 ++ (q192 ++ (q139 ++ (q107 ++ (q91 ++ []))))))))) (O := O) h421 hd422 hc420 hp426
           have h429 := (Ow.drops (L := (blk (.slice A407 n408 c409) :: blk (.slice A391 n392 c393) :: blk (.slice A235 n236 c237) :: blk (.slice A187 n188 c189) :: blk (.slice A134 n135 c136) :: blk (.slice A102 n103 c104) :: blk (.slice A86 n87 c88) :: blk (.slice A75 n76 c77) :: (q412 ++ (q396 ++ (q240 ++ (q192 ++ (q139 ++ (q107 ++ (q91 ++ []))))))))) (O := O) (rs := blk (.slice A391 n392 c393) :: q396) (Ow.spa (A := (blk (.slice A407 n408 c409) :: (q412 ++ []))) (L := (blk (.slice A391 n392 c393) :: blk (.slice A235 n236 c237) :: blk (.slice A187 n188 c189) :: blk (.slice A134 n135 c136) :: blk (.slice A102 n103 c104) :: blk (.slice A86 n87 c88) :: blk (.slice A75 n76 c77) :: (q396 ++ (q240 ++ (q192 ++ (q139 ++ (q107 ++ (q91 ++ [])))))))) (O := O) h410 hp419) hp426 (memi 0 rfl))
           have hd430 := hd414
           have hp434 : ((blk (.slice A407 n408 c409) :: blk (.slice A235 n236 c237) :: blk (.slice A187 n188 c189) :: blk (.slice A134 n135 c136) :: blk (.slice A102 n103 c104) :: blk (.slice A86 n87 c88) :: blk (.slice A75 n76 c77) :: (q412 ++ (q240 ++ (q192 ++ (q139 ++ (q107 ++ (q91 ++ []))))))) : Ob).Perm (blk (.slice A407 n408 c409) :: (q412 ++ (blk (.slice A235 n236 c237) :: blk (.slice A187 n188 c189) :: blk (.slice A134 n135 c136) :: blk (.slice A102 n103 c104) :: blk (.slice A86 n87 c88) :: blk (.slice A75 n76 c77) :: (q240 ++ (q192 ++ (q139 ++ (q107 ++ (q91 ++ [])))))))) := (by rw [List.perm_iff_count]; intro a; (try simp only [List.count_append, List.count_cons, List.count_nil, Nat.add_zero, Nat.zero_add]); first | done | ac_rfl)
           obtain ⟨h431, hc432, s433⟩ := Dp.gv (L := (blk (.slice A407 n408 c409) :: blk (.slice A235 n236 c237) :: blk (.slice A187 n188 c189) :: blk (.slice A134 n135 c136) :: blk (.slice A102 n103 c104) :: blk (.slice A86 n87 c88) :: blk (.slice A75 n76 c77) :: (q412 ++ (q240 ++ (q192 ++ (q139 ++ (q107 ++ (q91 ++ [])))))))) (O := O) h429 hd430 hc424 hp434
           refine L_call go32 [.slice A391 n392 c393, .slice A407 n408 c409] rfl ((impl_DiffThen.calls w405 hc432.ok r21 A391 n392 c393 (h423.st s433) r22 A407 n408 c409 h431 _ H).mono ?_)
           rintro _ w437 ⟨r23, r24, A439, n440, c441, q444, ra445, rfl, H, g438, hk448, hk449, h442, hd446⟩
           have hk451 := Ok.unl (L := (blk (.slice A407 n408 c409) :: blk (.slice A391 n392 c393) :: blk (.slice A235 n236 c237) :: blk (.slice A187 n188 c189) :: blk (.slice A134 n135 c136) :: blk (.slice A102 n103 c104) :: blk (.slice A86 n87 c88) :: blk (.slice A75 n76 c77) :: (q412 ++ (q396 ++ (q240 ++ (q192 ++ (q139 ++ (q107 ++ (q91 ++ []))))))))) (L' := (blk (.slice A235 n236 c237) :: blk (.slice A187 n188 c189) :: blk (.slice A134 n135 c136) :: blk (.slice A102 n103 c104) :: blk (.slice A86 n87 c88) :: blk (.slice A75 n76 c77) :: (q240 ++ (q192 ++ (q139 ++ (q107 ++ (q91 ++ []))))))) (O := O) hc420 g438 hk448 hk449
           have h452 := Ow.unl (L := (blk (.slice A407 n408 c409) :: blk (.slice A391 n392 c393) :: blk (.slice A235 n236 c237) :: blk (.slice A187 n188 c189) :: blk (.slice A134 n135 c136) :: blk (.slice A102 n103 c104) :: blk (.slice A86 n87 c88) :: blk (.slice A75 n76 c77) :: (q412 ++ (q396 ++ (q240 ++ (q192 ++ (q139 ++ (q107 ++ (q91 ++ []))))))))) (L' := (blk (.slice A235 n236 c237) :: blk (.slice A187 n188 c189) :: blk (.slice A134 n135 c136) :: blk (.slice A102 n103 c104) :: blk (.slice A86 n87 c88) :: blk (.slice A75 n76 c77) :: (q240 ++ (q192 ++ (q139 ++ (q107 ++ (q91 ++ []))))))) (O := O) (fun _ _ _ _ _ _ h => h) (.cons _ (.cons _ (.cons_cons _ (.cons_cons _ (.cons_cons _ (.cons_cons _ (.cons_cons _ (.cons_cons _ (List.sublist_append_of_sublist_right (List.sublist_append_of_sublist_right (.append (.refl _) (.append (.refl _) (.append (.refl _) (.append (.refl _) (.append (.refl _) (.refl _)))))))))))))))) h442
           have hc450 := hc420.owns g438 hk451 hk449
           have hp453 : (((blk (.slice A439 n440 c441) :: (q444 ++ [])) ++ (blk (.slice A407 n408 c409) :: blk (.slice A391 n392 c393) :: blk (.slice A235 n236 c237) :: blk (.slice A187 n188 c189) :: blk (.slice A134 n135 c136) :: blk (.slice A102 n103 c104) :: blk (.slice A86 n87 c88) :: blk (.slice A75 n76 c77) :: (q412 ++ (q396 ++ (q240 ++ (q192 ++ (q139 ++ (q107 ++ (q91 ++ []))))))))) : Ob).Perm (blk (.slice A439 n440 c441) :: blk (.slice A407 n408 c409) :: blk (.slice A391 n392 c393) :: blk (.slice A235 n236 c237) :: blk (.slice A187 n188 c189) :: blk (.slice A134 n135 c136) :: blk (.slice A102 n103 c104) :: blk (.slice A86 n87 c88) :: blk (.slice A75 n76 c77) :: (q444 ++ (q412 ++ (q396 ++ (q240 ++ (q192 ++ (q139 ++ (q107 ++ (q91 ++ []))))))))) := (by rw [List.perm_iff_count]; intro a; (try simp only [List.count_append, List.count_cons, List.count_nil, Nat.add_zero, Nat.zero_add]); first | done | ac_rfl)
           have hc454 := hc450.perm hp453
           refine L_pu (P_move (.tuple #[.slice A439 n440 c441, vb r24]) rfl) ?_
           refine L_pu (P_ext [.slice A439 n440 c441, vb r24] 0 (.slice A439 n440 c441) rfl rfl) ?_
           refine L_pu (P_ext [.slice A439 n440 c441, vb r24] 1 (vb r24) rfl rfl) ?_
           refine L_pu (P_assign (.slice A439 n440 c441) rfl) ?_
           refine L_pu (P_assign (vb r24) rfl) ?_
           refine L_nil ?_
           refine W_seq ?_
           refine W_seq ?_
           refine W_reg ?_
           refine L_pu (P_move (.slice A439 n440 c441) rfl) ?_
           refine L_pu (P_move (.slice A75 n76 c77) rfl) ?_
           have h455 := (Ow.spa (A := (blk (.slice A439 n440 c441) :: (q444 ++ []))) (L := (blk (.slice A407 n408 c409) :: blk (.slice A391 n392 c393) :: blk (.slice A235 n236 c237) :: blk (.slice A187 n188 c189) :: blk (.slice A134 n135 c136) :: blk (.slice A102 n103 c104) :: blk (.slice A86 n87 c88) :: blk (.slice A75 n76 c77) :: (q412 ++ (q396 ++ (q240 ++ (q192 ++ (q139 ++ (q107 ++ (q91 ++ []))))))))) (O := O) h452 hp453)
           have hd456 := hd446
           have hp460 : ((blk (.slice A439 n440 c441) :: blk (.slice A407 n408 c409) :: blk (.slice A391 n392 c393) :: blk (.slice A235 n236 c237) :: blk (.slice A187 n188 c189) :: blk (.slice A134 n135 c136) :: blk (.slice A102 n103 c104) :: blk (.slice A86 n87 c88) :: blk (.slice A75 n76 c77) :: (q444 ++ (q412 ++ (q396 ++ (q240 ++ (q192 ++ (q139 ++ (q107 ++ (q91 ++ []))))))))) : Ob).Perm (blk (.slice A439 n440 c441) :: (q444 ++ (blk (.slice A407 n408 c409) :: blk (.slice A391 n392 c393) :: blk (.slice A235 n236 c237) :: blk (.slice A187 n188 c189) :: blk (.slice A134 n135 c136) :: blk (.slice A102 n103 c104) :: blk (.slice A86 n87 c88) :: blk (.slice A75 n76 c77) :: (q412 ++ (q396 ++ (q240 ++ (q192 ++ (q139 ++ (q107 ++ (q91 ++ [])))))))))) := (by rw [List.perm_iff_count]; intro a; (try simp only [List.count_append, List.count_cons, List.count_nil, Nat.add_zero, Nat.zero_add]); first | done | ac_rfl)
           obtain ⟨h457, hc458, s459⟩ := Dp.gv (L := (blk (.slice A439 n440 c441) :: blk (.slice A407 n408 c409) :: blk (.slice A391 n392 c393) :: blk (.slice A235 n236 c237) :: blk (.slice A187 n188 c189) :: blk (.slice A134 n135 c136) :: blk (.slice A102 n103 c104) :: blk (.slice A86 n87 c88) :: blk (.slice A75 n76 c77) :: (q444 ++ (q412 ++ (q396 ++ (q240 ++ (q192 ++ (q139 ++ (q107 ++ (q91 ++ [])))))))))) (O := O) h455 hd456 hc454 hp460
           have h463 := (Ow.drops (L := (blk (.slice A439 n440 c441) :: blk (.slice A407 n408 c409) :: blk (.slice A391 n392 c393) :: blk (.slice A235 n236 c237) :: blk (.slice A187 n188 c189) :: blk (.slice A134 n135 c136) :: blk (.slice A102 n103 c104) :: blk (.slice A86 n87 c88) :: blk (.slice A75 n76 c77) :: (q444 ++ (q412 ++ (q396 ++ (q240 ++ (q192 ++ (q139 ++ (q107 ++ (q91 ++ [])))))))))) (O := O) (rs := blk (.slice A439 n440 c441) :: q444) (Ow.spa (A := (blk (.slice A439 n440 c441) :: (q444 ++ []))) (L := (blk (.slice A407 n408 c409) :: blk (.slice A391 n392 c393) :: blk (.slice A235 n236 c237) :: blk (.slice A187 n188 c189) :: blk (.slice A134 n135 c136) :: blk (.slice A102 n103 c104) :: blk (.slice A86 n87 c88) :: blk (.slice A75 n76 c77) :: (q412 ++ (q396 ++ (q240 ++ (q192 ++ (q139 ++ (q107 ++ (q91 ++ []))))))))) (O := O) ((Ow.spa (A := (blk (.slice A407 n408 c409) :: (q412 ++ []))) (L := (blk (.slice A391 n392 c393) :: blk (.slice A235 n236 c237) :: blk (.slice A187 n188 c189) :: blk (.slice A134 n135 c136) :: blk (.slice A102 n103 c104) :: blk (.slice A86 n87 c88) :: blk (.slice A75 n76 c77) :: (q396 ++ (q240 ++ (q192 ++ (q139 ++ (q107 ++ (q91 ++ [])))))))) (O := O) ((Ow.spa (A := (blk (.slice A391 n392 c393) :: (q396 ++ []))) (L := (blk (.slice A235 n236 c237) :: blk (.slice A187 n188 c189) :: blk (.slice A134 n135 c136) :: blk (.slice A102 n103 c104) :: blk (.slice A86 n87 c88) :: blk (.slice A75 n76 c77) :: (q240 ++ (q192 ++ (q139 ++ (q107 ++ (q91 ++ []))))))) (O := O) (((Ow.gm ((Ow.gm (Ow.gm ((Ow.spa (A := (blk (.slice A235 n236 c237) :: (q240 ++ []))) (L := (blk (.slice A187 n188 c189) :: blk (.slice A134 n135 c136) :: blk (.slice A102 n103 c104) :: blk (.slice A86 n87 c88) :: blk (.slice A75 n76 c77) :: (q192 ++ (q139 ++ (q107 ++ (q91 ++ [])))))) (O := O) (((Ow.spa (A := (blk (.slice A187 n188 c189) :: (q192 ++ []))) (L := (blk (.slice A134 n135 c136) :: blk (.slice A102 n103 c104) :: blk (.slice A86 n87 c88) :: blk (.slice A75 n76 c77) :: (q139 ++ (q107 ++ (q91 ++ []))))) (O := O) (((Ow.spa (A := (blk (.slice A134 n135 c136) :: (q139 ++ []))) (L := (blk (.slice A102 n103 c104) :: blk (.slice A86 n87 c88) :: blk (.slice A75 n76 c77) :: (q107 ++ (q91 ++ [])))) (O := O) ((Ow.spa (A := (blk (.slice A102 n103 c104) :: (q107 ++ []))) (L := (blk (.slice A86 n87 c88) :: blk (.slice A75 n76 c77) :: (q91 ++ []))) (O := O) ((Ow.spa (A := (blk (.slice A86 n87 c88) :: (q91 ++ []))) (L := [blk (.slice A75 n76 c77)]) (O := O) (h78.sos g85 hk96) hp98).sos g101 hk112) hp114).sos g133 hk144) hp148).sn g164).sos g186 hk197) hp199).sn g218).sos g234 hk245) hp247).sn g266) g284 (fun b hb => List.mem_append_left _ (hp287.mem_iff.2 (List.mem_append_left _ hb))) (Ct.sep1 (L := (blk (.slice A235 n236 c237) :: blk (.slice A187 n188 c189) :: blk (.slice A134 n135 c136) :: blk (.slice A102 n103 c104) :: blk (.slice A86 n87 c88) :: blk (.slice A75 n76 c77) :: (q240 ++ (q192 ++ (q139 ++ (q107 ++ (q91 ++ []))))))) (O := O) hc270 (B := (blk (.slice A86 n87 c88) :: (q91 ++ []))) (C := (blk (.slice A235 n236 c237) :: blk (.slice A187 n188 c189) :: blk (.slice A134 n135 c136) :: blk (.slice A102 n103 c104) :: (q240 ++ (q192 ++ (q139 ++ (q107 ++ [])))))) (by rw [List.perm_iff_count]; intro a; (try simp only [List.count_append, List.count_cons, List.count_nil, Nat.add_zero, Nat.zero_add]); first | done | ac_rfl))) g293 (fun b hb => List.mem_append_left _ (hp296.mem_iff.2 (List.mem_append_left _ hb))) (Ct.sep1 (L := (blk (.slice A235 n236 c237) :: blk (.slice A187 n188 c189) :: blk (.slice A134 n135 c136) :: blk (.slice A102 n103 c104) :: blk (.slice A86 n87 c88) :: blk (.slice A75 n76 c77) :: (q240 ++ (q192 ++ (q139 ++ (q107 ++ (q91 ++ []))))))) (O := O) hc291 (B := (blk (.slice A102 n103 c104) :: (q107 ++ []))) (C := (blk (.slice A235 n236 c237) :: blk (.slice A187 n188 c189) :: blk (.slice A134 n135 c136) :: blk (.slice A86 n87 c88) :: (q240 ++ (q192 ++ (q139 ++ (q91 ++ [])))))) (by rw [List.perm_iff_count]; intro a; (try simp only [List.count_append, List.count_cons, List.count_nil, Nat.add_zero, Nat.zero_add]); first | done | ac_rfl))).sn g327) g345 (fun b hb => List.mem_append_left _ (hp348.mem_iff.2 (List.mem_append_left _ hb))) (Ct.sep1 (L := (blk (.slice A235 n236 c237) :: blk (.slice A187 n188 c189) :: blk (.slice A134 n135 c136) :: blk (.slice A102 n103 c104) :: blk (.slice A86 n87 c88) :: blk (.slice A75 n76 c77) :: (q240 ++ (q192 ++ (q139 ++ (q107 ++ (q91 ++ []))))))) (O := O) hc331 (B := (blk (.slice A134 n135 c136) :: (q139 ++ []))) (C := (blk (.slice A235 n236 c237) :: blk (.slice A187 n188 c189) :: blk (.slice A102 n103 c104) :: blk (.slice A86 n87 c88) :: (q240 ++ (q192 ++ (q107 ++ (q91 ++ [])))))) (by rw [List.perm_iff_count]; intro a; (try simp only [List.count_append, List.count_cons, List.count_nil, Nat.add_zero, Nat.zero_add]); first | done | ac_rfl))).sn g360).sos g390 hk401) hp403).sos g406 hk417) hp419).sos g438 hk449) hp453) hp460 (memi 7 rfl))
           have h464 := Ow.gv (L := (blk (.slice A407 n408 c409) :: blk (.slice A391 n392 c393) :: blk (.slice A235 n236 c237) :: blk (.slice A187 n188 c189) :: blk (.slice A134 n135 c136) :: blk (.slice A102 n103 c104) :: blk (.slice A86 n87 c88) :: blk (.slice A75 n76 c77) :: (q412 ++ (q396 ++ (q240 ++ (q192 ++ (q139 ++ (q107 ++ (q91 ++ []))))))))) (O := O) h463 hc458 (i := 7) rfl
           have hc465 := hc458.drop 7 rfl
           have h467 := (h457.st (.dr _ (L := (blk (.slice A407 n408 c409) :: blk (.slice A391 n392 c393) :: blk (.slice A235 n236 c237) :: blk (.slice A187 n188 c189) :: blk (.slice A134 n135 c136) :: blk (.slice A102 n103 c104) :: blk (.slice A86 n87 c88) :: blk (.slice A75 n76 c77) :: (q412 ++ (q396 ++ (q240 ++ (q192 ++ (q139 ++ (q107 ++ (q91 ++ []))))))))) (O := O) (j := 7) rfl))
           refine L_call go22 [.slice A439 n440 c441, .slice A75 n76 c77] rfl ((laws_eqChangeS.calls w437 hc465.ok r23 A439 n440 c441 h467 r5 A75 n76 c77 h464 _ H).mono ?_)
           rintro _ w468 ⟨r25, rfl, H, g469⟩
           have hc473 := hc454.k0 g469
           refine L_pu (P_not r25 rfl) ?_
           refine L_pu (P_move (vb (!r25)) rfl) ?_
           rcases bool_or (!r25) with hq474 | hq474
           ·have H := ite_t H hq474
            refine L_pass (dj := 106) rfl rfl (.inl (by exact congrArg Value.bool hq474)) ?_
            refine L_pass (dj := 106) rfl rfl (.inl (by exact congrArg Value.bool hq474)) ?_
            refine L_pass (dj := 106) rfl rfl (.inl (by exact congrArg Value.bool hq474)) ?_
            refine L_pu (P_pick true (vb true) (by exact congrArg Value.bool hq474) rfl) ?_
            refine L_nil ?_
            refine W_ct (b := true) rfl rfl ?_
            refine W_seq ?_
            refine W_reg ?_
            refine L_pu (P_assign (vb false) rfl) ?_
            refine L_nil ?_
            refine W_ret ?_
            have hp475 : ((blk (.slice A439 n440 c441) :: blk (.slice A407 n408 c409) :: blk (.slice A391 n392 c393) :: blk (.slice A235 n236 c237) :: blk (.slice A187 n188 c189) :: blk (.slice A134 n135 c136) :: blk (.slice A102 n103 c104) :: blk (.slice A86 n87 c88) :: blk (.slice A75 n76 c77) :: (q444 ++ (q412 ++ (q396 ++ (q240 ++ (q192 ++ (q139 ++ (q107 ++ (q91 ++ []))))))))) : Ob).Perm ((blk (.slice A439 n440 c441) :: (q444 ++ [])) ++ (blk (.slice A407 n408 c409) :: blk (.slice A391 n392 c393) :: blk (.slice A235 n236 c237) :: blk (.slice A187 n188 c189) :: blk (.slice A134 n135 c136) :: blk (.slice A102 n103 c104) :: blk (.slice A86 n87 c88) :: blk (.slice A75 n76 c77) :: (q412 ++ (q396 ++ (q240 ++ (q192 ++ (q139 ++ (q107 ++ (q91 ++ []))))))))) := (by rw [List.perm_iff_count]; intro a; (try simp only [List.count_append, List.count_cons, List.count_nil, Nat.add_zero, Nat.zero_add]); first | done | ac_rfl)
            have hc476 := hc473.drops hp475
            have hp477 : ((blk (.slice A407 n408 c409) :: blk (.slice A391 n392 c393) :: blk (.slice A235 n236 c237) :: blk (.slice A187 n188 c189) :: blk (.slice A134 n135 c136) :: blk (.slice A102 n103 c104) :: blk (.slice A86 n87 c88) :: blk (.slice A75 n76 c77) :: (q412 ++ (q396 ++ (q240 ++ (q192 ++ (q139 ++ (q107 ++ (q91 ++ [])))))))) : Ob).Perm ((blk (.slice A407 n408 c409) :: (q412 ++ [])) ++ (blk (.slice A391 n392 c393) :: blk (.slice A235 n236 c237) :: blk (.slice A187 n188 c189) :: blk (.slice A134 n135 c136) :: blk (.slice A102 n103 c104) :: blk (.slice A86 n87 c88) :: blk (.slice A75 n76 c77) :: (q396 ++ (q240 ++ (q192 ++ (q139 ++ (q107 ++ (q91 ++ [])))))))) := (by rw [List.perm_iff_count]; intro a; (try simp only [List.count_append, List.count_cons, List.count_nil, Nat.add_zero, Nat.zero_add]); first | done | ac_rfl)
            have hc478 := hc476.drops hp477
            have hp479 : ((blk (.slice A391 n392 c393) :: blk (.slice A235 n236 c237) :: blk (.slice A187 n188 c189) :: blk (.slice A134 n135 c136) :: blk (.slice A102 n103 c104) :: blk (.slice A86 n87 c88) :: blk (.slice A75 n76 c77) :: (q396 ++ (q240 ++ (q192 ++ (q139 ++ (q107 ++ (q91 ++ []))))))) : Ob).Perm ((blk (.slice A391 n392 c393) :: (q396 ++ [])) ++ (blk (.slice A235 n236 c237) :: blk (.slice A187 n188 c189) :: blk (.slice A134 n135 c136) :: blk (.slice A102 n103 c104) :: blk (.slice A86 n87 c88) :: blk (.slice A75 n76 c77) :: (q240 ++ (q192 ++ (q139 ++ (q107 ++ (q91 ++ []))))))) := (by rw [List.perm_iff_count]; intro a; (try simp only [List.count_append, List.count_cons, List.count_nil, Nat.add_zero, Nat.zero_add]); first | done | ac_rfl)
            have hc480 := hc478.drops hp479
            have hp481 : ((blk (.slice A235 n236 c237) :: blk (.slice A187 n188 c189) :: blk (.slice A134 n135 c136) :: blk (.slice A102 n103 c104) :: blk (.slice A86 n87 c88) :: blk (.slice A75 n76 c77) :: (q240 ++ (q192 ++ (q139 ++ (q107 ++ (q91 ++ [])))))) : Ob).Perm ((blk (.slice A235 n236 c237) :: (q240 ++ [])) ++ (blk (.slice A187 n188 c189) :: blk (.slice A134 n135 c136) :: blk (.slice A102 n103 c104) :: blk (.slice A86 n87 c88) :: blk (.slice A75 n76 c77) :: (q192 ++ (q139 ++ (q107 ++ (q91 ++ [])))))) := (by rw [List.perm_iff_count]; intro a; (try simp only [List.count_append, List.count_cons, List.count_nil, Nat.add_zero, Nat.zero_add]); first | done | ac_rfl)
            have hc482 := hc480.drops hp481
            have hp483 : ((blk (.slice A187 n188 c189) :: blk (.slice A134 n135 c136) :: blk (.slice A102 n103 c104) :: blk (.slice A86 n87 c88) :: blk (.slice A75 n76 c77) :: (q192 ++ (q139 ++ (q107 ++ (q91 ++ []))))) : Ob).Perm ((blk (.slice A187 n188 c189) :: (q192 ++ [])) ++ (blk (.slice A134 n135 c136) :: blk (.slice A102 n103 c104) :: blk (.slice A86 n87 c88) :: blk (.slice A75 n76 c77) :: (q139 ++ (q107 ++ (q91 ++ []))))) := (by rw [List.perm_iff_count]; intro a; (try simp only [List.count_append, List.count_cons, List.count_nil, Nat.add_zero, Nat.zero_add]); first | done | ac_rfl)
            have hc484 := hc482.drops hp483
            have hp485 : ((blk (.slice A134 n135 c136) :: blk (.slice A102 n103 c104) :: blk (.slice A86 n87 c88) :: blk (.slice A75 n76 c77) :: (q139 ++ (q107 ++ (q91 ++ [])))) : Ob).Perm ((blk (.slice A134 n135 c136) :: (q139 ++ [])) ++ (blk (.slice A102 n103 c104) :: blk (.slice A86 n87 c88) :: blk (.slice A75 n76 c77) :: (q107 ++ (q91 ++ [])))) := (by rw [List.perm_iff_count]; intro a; (try simp only [List.count_append, List.count_cons, List.count_nil, Nat.add_zero, Nat.zero_add]); first | done | ac_rfl)
            have hc486 := hc484.drops hp485
            have hp487 : ((blk (.slice A102 n103 c104) :: blk (.slice A86 n87 c88) :: blk (.slice A75 n76 c77) :: (q107 ++ (q91 ++ []))) : Ob).Perm ((blk (.slice A102 n103 c104) :: (q107 ++ [])) ++ (blk (.slice A86 n87 c88) :: blk (.slice A75 n76 c77) :: (q91 ++ []))) := (by rw [List.perm_iff_count]; intro a; (try simp only [List.count_append, List.count_cons, List.count_nil, Nat.add_zero, Nat.zero_add]); first | done | ac_rfl)
            have hc488 := hc486.drops hp487
            have hp489 : ((blk (.slice A86 n87 c88) :: blk (.slice A75 n76 c77) :: (q91 ++ [])) : Ob).Perm ((blk (.slice A86 n87 c88) :: (q91 ++ [])) ++ [blk (.slice A75 n76 c77)]) := (by rw [List.perm_iff_count]; intro a; (try simp only [List.count_append, List.count_cons, List.count_nil, Nat.add_zero, Nat.zero_add]); first | done | ac_rfl)
            have hc490 := hc488.drops hp489
            have hc491 := hc490.drop 0 rfl
            exact ⟨[vb false], ⟨_, rfl, rfl⟩, false, rfl, H, hc491.gr.g0⟩
           ·have H := ite_f H hq474
            refine L_run (dj := 106) rfl rfl (by exact congrArg Value.bool hq474) ?_
            refine L_pu (P_move (vb r24) rfl) ?_
            refine L_run (dj := 106) rfl rfl (by exact congrArg Value.bool hq474) ?_
            refine L_pu (P_move (vb r6) rfl) ?_
            refine L_run (dj := 106) rfl rfl (by exact congrArg Value.bool hq474) ?_
            refine L_pu (P_bcmp Try.underlying4 r24 r6 (r24 != r6) rfl rfl rfl) ?_
            refine L_pu (P_pick false (vb (r24 != r6)) (by exact congrArg Value.bool hq474) rfl) ?_
            refine L_nil ?_
            refine W_cond (r24 != r6) rfl (fun hq492 => ?_) (fun hq492 => ?_)
            ·have H := ite_t H hq492
             refine W_seq ?_
             refine W_reg ?_
             refine L_pu (P_assign (vb false) rfl) ?_
             refine L_nil ?_
             refine W_ret ?_
             have hp493 : ((blk (.slice A439 n440 c441) :: blk (.slice A407 n408 c409) :: blk (.slice A391 n392 c393) :: blk (.slice A235 n236 c237) :: blk (.slice A187 n188 c189) :: blk (.slice A134 n135 c136) :: blk (.slice A102 n103 c104) :: blk (.slice A86 n87 c88) :: blk (.slice A75 n76 c77) :: (q444 ++ (q412 ++ (q396 ++ (q240 ++ (q192 ++ (q139 ++ (q107 ++ (q91 ++ []))))))))) : Ob).Perm ((blk (.slice A439 n440 c441) :: (q444 ++ [])) ++ (blk (.slice A407 n408 c409) :: blk (.slice A391 n392 c393) :: blk (.slice A235 n236 c237) :: blk (.slice A187 n188 c189) :: blk (.slice A134 n135 c136) :: blk (.slice A102 n103 c104) :: blk (.slice A86 n87 c88) :: blk (.slice A75 n76 c77) :: (q412 ++ (q396 ++ (q240 ++ (q192 ++ (q139 ++ (q107 ++ (q91 ++ []))))))))) := (by rw [List.perm_iff_count]; intro a; (try simp only [List.count_append, List.count_cons, List.count_nil, Nat.add_zero, Nat.zero_add]); first | done | ac_rfl)
             have hc494 := hc473.drops hp493
             have hp495 : ((blk (.slice A407 n408 c409) :: blk (.slice A391 n392 c393) :: blk (.slice A235 n236 c237) :: blk (.slice A187 n188 c189) :: blk (.slice A134 n135 c136) :: blk (.slice A102 n103 c104) :: blk (.slice A86 n87 c88) :: blk (.slice A75 n76 c77) :: (q412 ++ (q396 ++ (q240 ++ (q192 ++ (q139 ++ (q107 ++ (q91 ++ [])))))))) : Ob).Perm ((blk (.slice A407 n408 c409) :: (q412 ++ [])) ++ (blk (.slice A391 n392 c393) :: blk (.slice A235 n236 c237) :: blk (.slice A187 n188 c189) :: blk (.slice A134 n135 c136) :: blk (.slice A102 n103 c104) :: blk (.slice A86 n87 c88) :: blk (.slice A75 n76 c77) :: (q396 ++ (q240 ++ (q192 ++ (q139 ++ (q107 ++ (q91 ++ [])))))))) := (by rw [List.perm_iff_count]; intro a; (try simp only [List.count_append, List.count_cons, List.count_nil, Nat.add_zero, Nat.zero_add]); first | done | ac_rfl)
             have hc496 := hc494.drops hp495
             have hp497 : ((blk (.slice A391 n392 c393) :: blk (.slice A235 n236 c237) :: blk (.slice A187 n188 c189) :: blk (.slice A134 n135 c136) :: blk (.slice A102 n103 c104) :: blk (.slice A86 n87 c88) :: blk (.slice A75 n76 c77) :: (q396 ++ (q240 ++ (q192 ++ (q139 ++ (q107 ++ (q91 ++ []))))))) : Ob).Perm ((blk (.slice A391 n392 c393) :: (q396 ++ [])) ++ (blk (.slice A235 n236 c237) :: blk (.slice A187 n188 c189) :: blk (.slice A134 n135 c136) :: blk (.slice A102 n103 c104) :: blk (.slice A86 n87 c88) :: blk (.slice A75 n76 c77) :: (q240 ++ (q192 ++ (q139 ++ (q107 ++ (q91 ++ []))))))) := (by rw [List.perm_iff_count]; intro a; (try simp only [List.count_append, List.count_cons, List.count_nil, Nat.add_zero, Nat.zero_add]); first | done | ac_rfl)
             have hc498 := hc496.drops hp497
             have hp499 : ((blk (.slice A235 n236 c237) :: blk (.slice A187 n188 c189) :: blk (.slice A134 n135 c136) :: blk (.slice A102 n103 c104) :: blk (.slice A86 n87 c88) :: blk (.slice A75 n76 c77) :: (q240 ++ (q192 ++ (q139 ++ (q107 ++ (q91 ++ [])))))) : Ob).Perm ((blk (.slice A235 n236 c237) :: (q240 ++ [])) ++ (blk (.slice A187 n188 c189) :: blk (.slice A134 n135 c136) :: blk (.slice A102 n103 c104) :: blk (.slice A86 n87 c88) :: blk (.slice A75 n76 c77) :: (q192 ++ (q139 ++ (q107 ++ (q91 ++ [])))))) := (by rw [List.perm_iff_count]; intro a; (try simp only [List.count_append, List.count_cons, List.count_nil, Nat.add_zero, Nat.zero_add]); first | done | ac_rfl)
             have hc500 := hc498.drops hp499
             have hp501 : ((blk (.slice A187 n188 c189) :: blk (.slice A134 n135 c136) :: blk (.slice A102 n103 c104) :: blk (.slice A86 n87 c88) :: blk (.slice A75 n76 c77) :: (q192 ++ (q139 ++ (q107 ++ (q91 ++ []))))) : Ob).Perm ((blk (.slice A187 n188 c189) :: (q192 ++ [])) ++ (blk (.slice A134 n135 c136) :: blk (.slice A102 n103 c104) :: blk (.slice A86 n87 c88) :: blk (.slice A75 n76 c77) :: (q139 ++ (q107 ++ (q91 ++ []))))) := (by rw [List.perm_iff_count]; intro a; (try simp only [List.count_append, List.count_cons, List.count_nil, Nat.add_zero, Nat.zero_add]); first | done | ac_rfl)
             have hc502 := hc500.drops hp501
             have hp503 : ((blk (.slice A134 n135 c136) :: blk (.slice A102 n103 c104) :: blk (.slice A86 n87 c88) :: blk (.slice A75 n76 c77) :: (q139 ++ (q107 ++ (q91 ++ [])))) : Ob).Perm ((blk (.slice A134 n135 c136) :: (q139 ++ [])) ++ (blk (.slice A102 n103 c104) :: blk (.slice A86 n87 c88) :: blk (.slice A75 n76 c77) :: (q107 ++ (q91 ++ [])))) := (by rw [List.perm_iff_count]; intro a; (try simp only [List.count_append, List.count_cons, List.count_nil, Nat.add_zero, Nat.zero_add]); first | done | ac_rfl)
             have hc504 := hc502.drops hp503
             have hp505 : ((blk (.slice A102 n103 c104) :: blk (.slice A86 n87 c88) :: blk (.slice A75 n76 c77) :: (q107 ++ (q91 ++ []))) : Ob).Perm ((blk (.slice A102 n103 c104) :: (q107 ++ [])) ++ (blk (.slice A86 n87 c88) :: blk (.slice A75 n76 c77) :: (q91 ++ []))) := (by rw [List.perm_iff_count]; intro a; (try simp only [List.count_append, List.count_cons, List.count_nil, Nat.add_zero, Nat.zero_add]); first | done | ac_rfl)
             have hc506 := hc504.drops hp505
             have hp507 : ((blk (.slice A86 n87 c88) :: blk (.slice A75 n76 c77) :: (q91 ++ [])) : Ob).Perm ((blk (.slice A86 n87 c88) :: (q91 ++ [])) ++ [blk (.slice A75 n76 c77)]) := (by rw [List.perm_iff_count]; intro a; (try simp only [List.count_append, List.count_cons, List.count_nil, Nat.add_zero, Nat.zero_add]); first | done | ac_rfl)
             have hc508 := hc506.drops hp507
             have hc509 := hc508.drop 0 rfl
             exact ⟨[vb false], ⟨_, rfl, rfl⟩, false, rfl, H, hc509.gr.g0⟩
            ·have H := ite_f H hq492
             refine W_skip ?_
             refine W_seq ?_
             refine W_reg ?_
             refine L_pu (P_assign (vi 1) rfl) ?_
             refine L_nil ?_
             refine W_seq ?_
             refine W_reg ?_
             refine L_pu (P_move (.slice A134 n135 c136) rfl) ?_
             refine L_pu (P_move (vi 1) rfl) ?_
             have h510 := ((Ow.spa (A := (blk (.slice A439 n440 c441) :: (q444 ++ []))) (L := (blk (.slice A407 n408 c409) :: blk (.slice A391 n392 c393) :: blk (.slice A235 n236 c237) :: blk (.slice A187 n188 c189) :: blk (.slice A134 n135 c136) :: blk (.slice A102 n103 c104) :: blk (.slice A86 n87 c88) :: blk (.slice A75 n76 c77) :: (q412 ++ (q396 ++ (q240 ++ (q192 ++ (q139 ++ (q107 ++ (q91 ++ []))))))))) (O := O) ((Ow.spa (A := (blk (.slice A407 n408 c409) :: (q412 ++ []))) (L := (blk (.slice A391 n392 c393) :: blk (.slice A235 n236 c237) :: blk (.slice A187 n188 c189) :: blk (.slice A134 n135 c136) :: blk (.slice A102 n103 c104) :: blk (.slice A86 n87 c88) :: blk (.slice A75 n76 c77) :: (q396 ++ (q240 ++ (q192 ++ (q139 ++ (q107 ++ (q91 ++ [])))))))) (O := O) ((Ow.spa (A := (blk (.slice A391 n392 c393) :: (q396 ++ []))) (L := (blk (.slice A235 n236 c237) :: blk (.slice A187 n188 c189) :: blk (.slice A134 n135 c136) :: blk (.slice A102 n103 c104) :: blk (.slice A86 n87 c88) :: blk (.slice A75 n76 c77) :: (q240 ++ (q192 ++ (q139 ++ (q107 ++ (q91 ++ []))))))) (O := O) ((h349.sn g360).sos g390 hk401) hp403).sos g406 hk417) hp419).sos g438 hk449) hp453).sn g469)
             have hd511 := (((((hd350.k0 g360).k0 g390).k0 g406).k0 g438).k0 g469)
             have hp515 : ((blk (.slice A439 n440 c441) :: blk (.slice A407 n408 c409) :: blk (.slice A391 n392 c393) :: blk (.slice A235 n236 c237) :: blk (.slice A187 n188 c189) :: blk (.slice A134 n135 c136) :: blk (.slice A102 n103 c104) :: blk (.slice A86 n87 c88) :: blk (.slice A75 n76 c77) :: (q444 ++ (q412 ++ (q396 ++ (q240 ++ (q192 ++ (q139 ++ (q107 ++ (q91 ++ []))))))))) : Ob).Perm (blk (.slice A134 n135 c136) :: (q139 ++ (blk (.slice A439 n440 c441) :: blk (.slice A407 n408 c409) :: blk (.slice A391 n392 c393) :: blk (.slice A235 n236 c237) :: blk (.slice A187 n188 c189) :: blk (.slice A102 n103 c104) :: blk (.slice A86 n87 c88) :: blk (.slice A75 n76 c77) :: (q444 ++ (q412 ++ (q396 ++ (q240 ++ (q192 ++ (q107 ++ (q91 ++ [])))))))))) := (by rw [List.perm_iff_count]; intro a; (try simp only [List.count_append, List.count_cons, List.count_nil, Nat.add_zero, Nat.zero_add]); first | done | ac_rfl)
             obtain ⟨h512, hc513, s514⟩ := Dp.gv (L := (blk (.slice A439 n440 c441) :: blk (.slice A407 n408 c409) :: blk (.slice A391 n392 c393) :: blk (.slice A235 n236 c237) :: blk (.slice A187 n188 c189) :: blk (.slice A134 n135 c136) :: blk (.slice A102 n103 c104) :: blk (.slice A86 n87 c88) :: blk (.slice A75 n76 c77) :: (q444 ++ (q412 ++ (q396 ++ (q240 ++ (q192 ++ (q139 ++ (q107 ++ (q91 ++ [])))))))))) (O := O) h510 hd511 hc473 hp515
             refine L_call go24 [.slice A134 n135 c136, vi 1] rfl ((laws_heldChangeS.calls w468 hc513.ok m3 A134 n135 c136 h512 1 _ H).mono ?_)
             rintro _ w518 ⟨r26, rfl, H, g519⟩
             have hc523 := hc473.k0 g519
             refine L_pu (P_assign (vi r26) rfl) ?_
             refine L_nil ?_
             refine W_seq ?_
             refine W_seq ?_
             refine W_reg ?_
             refine L_pu (P_move (vi r26) rfl) ?_
             refine L_pu (P_cmp r26 0 (decide (r26 < 0)) rfl rfl rfl) ?_
             refine L_nil ?_
             refine W_cond (decide (r26 < 0)) rfl (fun hq524 => ?_) (fun hq524 => ?_)
             ·have H := ite_t H hq524
              refine W_seq ?_
              refine W_reg ?_
              refine L_pu (P_assign (vb false) rfl) ?_
              refine L_nil ?_
              refine W_ret ?_
              have hp525 : ((blk (.slice A439 n440 c441) :: blk (.slice A407 n408 c409) :: blk (.slice A391 n392 c393) :: blk (.slice A235 n236 c237) :: blk (.slice A187 n188 c189) :: blk (.slice A134 n135 c136) :: blk (.slice A102 n103 c104) :: blk (.slice A86 n87 c88) :: blk (.slice A75 n76 c77) :: (q444 ++ (q412 ++ (q396 ++ (q240 ++ (q192 ++ (q139 ++ (q107 ++ (q91 ++ []))))))))) : Ob).Perm ((blk (.slice A439 n440 c441) :: (q444 ++ [])) ++ (blk (.slice A407 n408 c409) :: blk (.slice A391 n392 c393) :: blk (.slice A235 n236 c237) :: blk (.slice A187 n188 c189) :: blk (.slice A134 n135 c136) :: blk (.slice A102 n103 c104) :: blk (.slice A86 n87 c88) :: blk (.slice A75 n76 c77) :: (q412 ++ (q396 ++ (q240 ++ (q192 ++ (q139 ++ (q107 ++ (q91 ++ []))))))))) := (by rw [List.perm_iff_count]; intro a; (try simp only [List.count_append, List.count_cons, List.count_nil, Nat.add_zero, Nat.zero_add]); first | done | ac_rfl)
              have hc526 := hc523.drops hp525
              have hp527 : ((blk (.slice A407 n408 c409) :: blk (.slice A391 n392 c393) :: blk (.slice A235 n236 c237) :: blk (.slice A187 n188 c189) :: blk (.slice A134 n135 c136) :: blk (.slice A102 n103 c104) :: blk (.slice A86 n87 c88) :: blk (.slice A75 n76 c77) :: (q412 ++ (q396 ++ (q240 ++ (q192 ++ (q139 ++ (q107 ++ (q91 ++ [])))))))) : Ob).Perm ((blk (.slice A407 n408 c409) :: (q412 ++ [])) ++ (blk (.slice A391 n392 c393) :: blk (.slice A235 n236 c237) :: blk (.slice A187 n188 c189) :: blk (.slice A134 n135 c136) :: blk (.slice A102 n103 c104) :: blk (.slice A86 n87 c88) :: blk (.slice A75 n76 c77) :: (q396 ++ (q240 ++ (q192 ++ (q139 ++ (q107 ++ (q91 ++ [])))))))) := (by rw [List.perm_iff_count]; intro a; (try simp only [List.count_append, List.count_cons, List.count_nil, Nat.add_zero, Nat.zero_add]); first | done | ac_rfl)
              have hc528 := hc526.drops hp527
              have hp529 : ((blk (.slice A391 n392 c393) :: blk (.slice A235 n236 c237) :: blk (.slice A187 n188 c189) :: blk (.slice A134 n135 c136) :: blk (.slice A102 n103 c104) :: blk (.slice A86 n87 c88) :: blk (.slice A75 n76 c77) :: (q396 ++ (q240 ++ (q192 ++ (q139 ++ (q107 ++ (q91 ++ []))))))) : Ob).Perm ((blk (.slice A391 n392 c393) :: (q396 ++ [])) ++ (blk (.slice A235 n236 c237) :: blk (.slice A187 n188 c189) :: blk (.slice A134 n135 c136) :: blk (.slice A102 n103 c104) :: blk (.slice A86 n87 c88) :: blk (.slice A75 n76 c77) :: (q240 ++ (q192 ++ (q139 ++ (q107 ++ (q91 ++ []))))))) := (by rw [List.perm_iff_count]; intro a; (try simp only [List.count_append, List.count_cons, List.count_nil, Nat.add_zero, Nat.zero_add]); first | done | ac_rfl)
              have hc530 := hc528.drops hp529
              have hp531 : ((blk (.slice A235 n236 c237) :: blk (.slice A187 n188 c189) :: blk (.slice A134 n135 c136) :: blk (.slice A102 n103 c104) :: blk (.slice A86 n87 c88) :: blk (.slice A75 n76 c77) :: (q240 ++ (q192 ++ (q139 ++ (q107 ++ (q91 ++ [])))))) : Ob).Perm ((blk (.slice A235 n236 c237) :: (q240 ++ [])) ++ (blk (.slice A187 n188 c189) :: blk (.slice A134 n135 c136) :: blk (.slice A102 n103 c104) :: blk (.slice A86 n87 c88) :: blk (.slice A75 n76 c77) :: (q192 ++ (q139 ++ (q107 ++ (q91 ++ [])))))) := (by rw [List.perm_iff_count]; intro a; (try simp only [List.count_append, List.count_cons, List.count_nil, Nat.add_zero, Nat.zero_add]); first | done | ac_rfl)
              have hc532 := hc530.drops hp531
              have hp533 : ((blk (.slice A187 n188 c189) :: blk (.slice A134 n135 c136) :: blk (.slice A102 n103 c104) :: blk (.slice A86 n87 c88) :: blk (.slice A75 n76 c77) :: (q192 ++ (q139 ++ (q107 ++ (q91 ++ []))))) : Ob).Perm ((blk (.slice A187 n188 c189) :: (q192 ++ [])) ++ (blk (.slice A134 n135 c136) :: blk (.slice A102 n103 c104) :: blk (.slice A86 n87 c88) :: blk (.slice A75 n76 c77) :: (q139 ++ (q107 ++ (q91 ++ []))))) := (by rw [List.perm_iff_count]; intro a; (try simp only [List.count_append, List.count_cons, List.count_nil, Nat.add_zero, Nat.zero_add]); first | done | ac_rfl)
              have hc534 := hc532.drops hp533
              have hp535 : ((blk (.slice A134 n135 c136) :: blk (.slice A102 n103 c104) :: blk (.slice A86 n87 c88) :: blk (.slice A75 n76 c77) :: (q139 ++ (q107 ++ (q91 ++ [])))) : Ob).Perm ((blk (.slice A134 n135 c136) :: (q139 ++ [])) ++ (blk (.slice A102 n103 c104) :: blk (.slice A86 n87 c88) :: blk (.slice A75 n76 c77) :: (q107 ++ (q91 ++ [])))) := (by rw [List.perm_iff_count]; intro a; (try simp only [List.count_append, List.count_cons, List.count_nil, Nat.add_zero, Nat.zero_add]); first | done | ac_rfl)
              have hc536 := hc534.drops hp535
              have hp537 : ((blk (.slice A102 n103 c104) :: blk (.slice A86 n87 c88) :: blk (.slice A75 n76 c77) :: (q107 ++ (q91 ++ []))) : Ob).Perm ((blk (.slice A102 n103 c104) :: (q107 ++ [])) ++ (blk (.slice A86 n87 c88) :: blk (.slice A75 n76 c77) :: (q91 ++ []))) := (by rw [List.perm_iff_count]; intro a; (try simp only [List.count_append, List.count_cons, List.count_nil, Nat.add_zero, Nat.zero_add]); first | done | ac_rfl)
              have hc538 := hc536.drops hp537
              have hp539 : ((blk (.slice A86 n87 c88) :: blk (.slice A75 n76 c77) :: (q91 ++ [])) : Ob).Perm ((blk (.slice A86 n87 c88) :: (q91 ++ [])) ++ [blk (.slice A75 n76 c77)]) := (by rw [List.perm_iff_count]; intro a; (try simp only [List.count_append, List.count_cons, List.count_nil, Nat.add_zero, Nat.zero_add]); first | done | ac_rfl)
              have hc540 := hc538.drops hp539
              have hc541 := hc540.drop 0 rfl
              exact ⟨[vb false], ⟨_, rfl, rfl⟩, false, rfl, H, hc541.gr.g0⟩
             ·have H := ite_f H hq524
              refine W_skip ?_
              refine W_seq ?_
              refine W_seq ?_
              refine W_reg ?_
              refine L_pu (P_move (vi r26) rfl) ?_
              refine L_pu (P_move (vi r19) rfl) ?_
              refine L_pu (P_cmp r26 r19 (r26 != r19) rfl rfl rfl) ?_
              refine L_nil ?_
              refine W_cond (r26 != r19) rfl (fun hq542 => ?_) (fun hq542 => ?_)
              ·have H := ite_t H hq542
               refine W_seq ?_
               refine W_reg ?_
               refine L_pu (P_assign (vb false) rfl) ?_
               refine L_nil ?_
               refine W_ret ?_
               have hp543 : ((blk (.slice A439 n440 c441) :: blk (.slice A407 n408 c409) :: blk (.slice A391 n392 c393) :: blk (.slice A235 n236 c237) :: blk (.slice A187 n188 c189) :: blk (.slice A134 n135 c136) :: blk (.slice A102 n103 c104) :: blk (.slice A86 n87 c88) :: blk (.slice A75 n76 c77) :: (q444 ++ (q412 ++ (q396 ++ (q240 ++ (q192 ++ (q139 ++ (q107 ++ (q91 ++ []))))))))) : Ob).Perm ((blk (.slice A439 n440 c441) :: (q444 ++ [])) ++ (blk (.slice A407 n408 c409) :: blk (.slice A391 n392 c393) :: blk (.slice A235 n236 c237) :: blk (.slice A187 n188 c189) :: blk (.slice A134 n135 c136) :: blk (.slice A102 n103 c104) :: blk (.slice A86 n87 c88) :: blk (.slice A75 n76 c77) :: (q412 ++ (q396 ++ (q240 ++ (q192 ++ (q139 ++ (q107 ++ (q91 ++ []))))))))) := (by rw [List.perm_iff_count]; intro a; (try simp only [List.count_append, List.count_cons, List.count_nil, Nat.add_zero, Nat.zero_add]); first | done | ac_rfl)
               have hc544 := hc523.drops hp543
               have hp545 : ((blk (.slice A407 n408 c409) :: blk (.slice A391 n392 c393) :: blk (.slice A235 n236 c237) :: blk (.slice A187 n188 c189) :: blk (.slice A134 n135 c136) :: blk (.slice A102 n103 c104) :: blk (.slice A86 n87 c88) :: blk (.slice A75 n76 c77) :: (q412 ++ (q396 ++ (q240 ++ (q192 ++ (q139 ++ (q107 ++ (q91 ++ [])))))))) : Ob).Perm ((blk (.slice A407 n408 c409) :: (q412 ++ [])) ++ (blk (.slice A391 n392 c393) :: blk (.slice A235 n236 c237) :: blk (.slice A187 n188 c189) :: blk (.slice A134 n135 c136) :: blk (.slice A102 n103 c104) :: blk (.slice A86 n87 c88) :: blk (.slice A75 n76 c77) :: (q396 ++ (q240 ++ (q192 ++ (q139 ++ (q107 ++ (q91 ++ [])))))))) := (by rw [List.perm_iff_count]; intro a; (try simp only [List.count_append, List.count_cons, List.count_nil, Nat.add_zero, Nat.zero_add]); first | done | ac_rfl)
               have hc546 := hc544.drops hp545
               have hp547 : ((blk (.slice A391 n392 c393) :: blk (.slice A235 n236 c237) :: blk (.slice A187 n188 c189) :: blk (.slice A134 n135 c136) :: blk (.slice A102 n103 c104) :: blk (.slice A86 n87 c88) :: blk (.slice A75 n76 c77) :: (q396 ++ (q240 ++ (q192 ++ (q139 ++ (q107 ++ (q91 ++ []))))))) : Ob).Perm ((blk (.slice A391 n392 c393) :: (q396 ++ [])) ++ (blk (.slice A235 n236 c237) :: blk (.slice A187 n188 c189) :: blk (.slice A134 n135 c136) :: blk (.slice A102 n103 c104) :: blk (.slice A86 n87 c88) :: blk (.slice A75 n76 c77) :: (q240 ++ (q192 ++ (q139 ++ (q107 ++ (q91 ++ []))))))) := (by rw [List.perm_iff_count]; intro a; (try simp only [List.count_append, List.count_cons, List.count_nil, Nat.add_zero, Nat.zero_add]); first | done | ac_rfl)
               have hc548 := hc546.drops hp547
               have hp549 : ((blk (.slice A235 n236 c237) :: blk (.slice A187 n188 c189) :: blk (.slice A134 n135 c136) :: blk (.slice A102 n103 c104) :: blk (.slice A86 n87 c88) :: blk (.slice A75 n76 c77) :: (q240 ++ (q192 ++ (q139 ++ (q107 ++ (q91 ++ [])))))) : Ob).Perm ((blk (.slice A235 n236 c237) :: (q240 ++ [])) ++ (blk (.slice A187 n188 c189) :: blk (.slice A134 n135 c136) :: blk (.slice A102 n103 c104) :: blk (.slice A86 n87 c88) :: blk (.slice A75 n76 c77) :: (q192 ++ (q139 ++ (q107 ++ (q91 ++ [])))))) := (by rw [List.perm_iff_count]; intro a; (try simp only [List.count_append, List.count_cons, List.count_nil, Nat.add_zero, Nat.zero_add]); first | done | ac_rfl)
               have hc550 := hc548.drops hp549
               have hp551 : ((blk (.slice A187 n188 c189) :: blk (.slice A134 n135 c136) :: blk (.slice A102 n103 c104) :: blk (.slice A86 n87 c88) :: blk (.slice A75 n76 c77) :: (q192 ++ (q139 ++ (q107 ++ (q91 ++ []))))) : Ob).Perm ((blk (.slice A187 n188 c189) :: (q192 ++ [])) ++ (blk (.slice A134 n135 c136) :: blk (.slice A102 n103 c104) :: blk (.slice A86 n87 c88) :: blk (.slice A75 n76 c77) :: (q139 ++ (q107 ++ (q91 ++ []))))) := (by rw [List.perm_iff_count]; intro a; (try simp only [List.count_append, List.count_cons, List.count_nil, Nat.add_zero, Nat.zero_add]); first | done | ac_rfl)
               have hc552 := hc550.drops hp551
               have hp553 : ((blk (.slice A134 n135 c136) :: blk (.slice A102 n103 c104) :: blk (.slice A86 n87 c88) :: blk (.slice A75 n76 c77) :: (q139 ++ (q107 ++ (q91 ++ [])))) : Ob).Perm ((blk (.slice A134 n135 c136) :: (q139 ++ [])) ++ (blk (.slice A102 n103 c104) :: blk (.slice A86 n87 c88) :: blk (.slice A75 n76 c77) :: (q107 ++ (q91 ++ [])))) := (by rw [List.perm_iff_count]; intro a; (try simp only [List.count_append, List.count_cons, List.count_nil, Nat.add_zero, Nat.zero_add]); first | done | ac_rfl)
               have hc554 := hc552.drops hp553
               have hp555 : ((blk (.slice A102 n103 c104) :: blk (.slice A86 n87 c88) :: blk (.slice A75 n76 c77) :: (q107 ++ (q91 ++ []))) : Ob).Perm ((blk (.slice A102 n103 c104) :: (q107 ++ [])) ++ (blk (.slice A86 n87 c88) :: blk (.slice A75 n76 c77) :: (q91 ++ []))) := (by rw [List.perm_iff_count]; intro a; (try simp only [List.count_append, List.count_cons, List.count_nil, Nat.add_zero, Nat.zero_add]); first | done | ac_rfl)
               have hc556 := hc554.drops hp555
               have hp557 : ((blk (.slice A86 n87 c88) :: blk (.slice A75 n76 c77) :: (q91 ++ [])) : Ob).Perm ((blk (.slice A86 n87 c88) :: (q91 ++ [])) ++ [blk (.slice A75 n76 c77)]) := (by rw [List.perm_iff_count]; intro a; (try simp only [List.count_append, List.count_cons, List.count_nil, Nat.add_zero, Nat.zero_add]); first | done | ac_rfl)
               have hc558 := hc556.drops hp557
               have hc559 := hc558.drop 0 rfl
               exact ⟨[vb false], ⟨_, rfl, rfl⟩, false, rfl, H, hc559.gr.g0⟩
              ·have H := ite_f H hq542
               refine W_skip ?_
               refine W_seq ?_
               refine W_reg ?_
               refine L_pu (P_assign (vb true) rfl) ?_
               refine L_nil ?_
               refine W_ret ?_
               have hp560 : ((blk (.slice A439 n440 c441) :: blk (.slice A407 n408 c409) :: blk (.slice A391 n392 c393) :: blk (.slice A235 n236 c237) :: blk (.slice A187 n188 c189) :: blk (.slice A134 n135 c136) :: blk (.slice A102 n103 c104) :: blk (.slice A86 n87 c88) :: blk (.slice A75 n76 c77) :: (q444 ++ (q412 ++ (q396 ++ (q240 ++ (q192 ++ (q139 ++ (q107 ++ (q91 ++ []))))))))) : Ob).Perm ((blk (.slice A439 n440 c441) :: (q444 ++ [])) ++ (blk (.slice A407 n408 c409) :: blk (.slice A391 n392 c393) :: blk (.slice A235 n236 c237) :: blk (.slice A187 n188 c189) :: blk (.slice A134 n135 c136) :: blk (.slice A102 n103 c104) :: blk (.slice A86 n87 c88) :: blk (.slice A75 n76 c77) :: (q412 ++ (q396 ++ (q240 ++ (q192 ++ (q139 ++ (q107 ++ (q91 ++ []))))))))) := (by rw [List.perm_iff_count]; intro a; (try simp only [List.count_append, List.count_cons, List.count_nil, Nat.add_zero, Nat.zero_add]); first | done | ac_rfl)
               have hc561 := hc523.drops hp560
               have hp562 : ((blk (.slice A407 n408 c409) :: blk (.slice A391 n392 c393) :: blk (.slice A235 n236 c237) :: blk (.slice A187 n188 c189) :: blk (.slice A134 n135 c136) :: blk (.slice A102 n103 c104) :: blk (.slice A86 n87 c88) :: blk (.slice A75 n76 c77) :: (q412 ++ (q396 ++ (q240 ++ (q192 ++ (q139 ++ (q107 ++ (q91 ++ [])))))))) : Ob).Perm ((blk (.slice A407 n408 c409) :: (q412 ++ [])) ++ (blk (.slice A391 n392 c393) :: blk (.slice A235 n236 c237) :: blk (.slice A187 n188 c189) :: blk (.slice A134 n135 c136) :: blk (.slice A102 n103 c104) :: blk (.slice A86 n87 c88) :: blk (.slice A75 n76 c77) :: (q396 ++ (q240 ++ (q192 ++ (q139 ++ (q107 ++ (q91 ++ [])))))))) := (by rw [List.perm_iff_count]; intro a; (try simp only [List.count_append, List.count_cons, List.count_nil, Nat.add_zero, Nat.zero_add]); first | done | ac_rfl)
               have hc563 := hc561.drops hp562
               have hp564 : ((blk (.slice A391 n392 c393) :: blk (.slice A235 n236 c237) :: blk (.slice A187 n188 c189) :: blk (.slice A134 n135 c136) :: blk (.slice A102 n103 c104) :: blk (.slice A86 n87 c88) :: blk (.slice A75 n76 c77) :: (q396 ++ (q240 ++ (q192 ++ (q139 ++ (q107 ++ (q91 ++ []))))))) : Ob).Perm ((blk (.slice A391 n392 c393) :: (q396 ++ [])) ++ (blk (.slice A235 n236 c237) :: blk (.slice A187 n188 c189) :: blk (.slice A134 n135 c136) :: blk (.slice A102 n103 c104) :: blk (.slice A86 n87 c88) :: blk (.slice A75 n76 c77) :: (q240 ++ (q192 ++ (q139 ++ (q107 ++ (q91 ++ []))))))) := (by rw [List.perm_iff_count]; intro a; (try simp only [List.count_append, List.count_cons, List.count_nil, Nat.add_zero, Nat.zero_add]); first | done | ac_rfl)
               have hc565 := hc563.drops hp564
               have hp566 : ((blk (.slice A235 n236 c237) :: blk (.slice A187 n188 c189) :: blk (.slice A134 n135 c136) :: blk (.slice A102 n103 c104) :: blk (.slice A86 n87 c88) :: blk (.slice A75 n76 c77) :: (q240 ++ (q192 ++ (q139 ++ (q107 ++ (q91 ++ [])))))) : Ob).Perm ((blk (.slice A235 n236 c237) :: (q240 ++ [])) ++ (blk (.slice A187 n188 c189) :: blk (.slice A134 n135 c136) :: blk (.slice A102 n103 c104) :: blk (.slice A86 n87 c88) :: blk (.slice A75 n76 c77) :: (q192 ++ (q139 ++ (q107 ++ (q91 ++ [])))))) := (by rw [List.perm_iff_count]; intro a; (try simp only [List.count_append, List.count_cons, List.count_nil, Nat.add_zero, Nat.zero_add]); first | done | ac_rfl)
               have hc567 := hc565.drops hp566
               have hp568 : ((blk (.slice A187 n188 c189) :: blk (.slice A134 n135 c136) :: blk (.slice A102 n103 c104) :: blk (.slice A86 n87 c88) :: blk (.slice A75 n76 c77) :: (q192 ++ (q139 ++ (q107 ++ (q91 ++ []))))) : Ob).Perm ((blk (.slice A187 n188 c189) :: (q192 ++ [])) ++ (blk (.slice A134 n135 c136) :: blk (.slice A102 n103 c104) :: blk (.slice A86 n87 c88) :: blk (.slice A75 n76 c77) :: (q139 ++ (q107 ++ (q91 ++ []))))) := (by rw [List.perm_iff_count]; intro a; (try simp only [List.count_append, List.count_cons, List.count_nil, Nat.add_zero, Nat.zero_add]); first | done | ac_rfl)
               have hc569 := hc567.drops hp568
               have hp570 : ((blk (.slice A134 n135 c136) :: blk (.slice A102 n103 c104) :: blk (.slice A86 n87 c88) :: blk (.slice A75 n76 c77) :: (q139 ++ (q107 ++ (q91 ++ [])))) : Ob).Perm ((blk (.slice A134 n135 c136) :: (q139 ++ [])) ++ (blk (.slice A102 n103 c104) :: blk (.slice A86 n87 c88) :: blk (.slice A75 n76 c77) :: (q107 ++ (q91 ++ [])))) := (by rw [List.perm_iff_count]; intro a; (try simp only [List.count_append, List.count_cons, List.count_nil, Nat.add_zero, Nat.zero_add]); first | done | ac_rfl)
               have hc571 := hc569.drops hp570
               have hp572 : ((blk (.slice A102 n103 c104) :: blk (.slice A86 n87 c88) :: blk (.slice A75 n76 c77) :: (q107 ++ (q91 ++ []))) : Ob).Perm ((blk (.slice A102 n103 c104) :: (q107 ++ [])) ++ (blk (.slice A86 n87 c88) :: blk (.slice A75 n76 c77) :: (q91 ++ []))) := (by rw [List.perm_iff_count]; intro a; (try simp only [List.count_append, List.count_cons, List.count_nil, Nat.add_zero, Nat.zero_add]); first | done | ac_rfl)
               have hc573 := hc571.drops hp572
               have hp574 : ((blk (.slice A86 n87 c88) :: blk (.slice A75 n76 c77) :: (q91 ++ [])) : Ob).Perm ((blk (.slice A86 n87 c88) :: (q91 ++ [])) ++ [blk (.slice A75 n76 c77)]) := (by rw [List.perm_iff_count]; intro a; (try simp only [List.count_append, List.count_cons, List.count_nil, Nat.add_zero, Nat.zero_add]); first | done | ac_rfl)
               have hc575 := hc573.drops hp574
               have hc576 := hc575.drop 0 rfl
               exact ⟨[vb true], ⟨_, rfl, rfl⟩, true, rfl, H, hc576.gr.g0⟩
end Go.Proofs.Ytndjggncgpjolaa

namespace Go.Proofs.Ytndjggncgpjolaa
set_option linter.unusedVariables false
set_option linter.unusedSimpArgs false
set_option linter.unusedSectionVars false
theorem laws_FnExactDiffThen.law (a : List Change) (_ : ∀ x ∈ a, vChange x) (b : List Change) (_ : ∀ x ∈ b, vChange x) : laws_FnExactDiffThen.E a b (fun r => r = true) := by
 unfold laws_FnExactDiffThen.E
 refine laws_szChangeS.law a _ _ (by decide) (by decide) (fun _ => rfl) (fun h1 => ?_)
 rw [if_neg (by rw [decide_eq_false (by omega)]; exact Bool.false_ne_true)]
 refine laws_szChangeS.law b _ _ (by omega) (by omega) (fun _ => rfl) (fun h2 => ?_)
 rw [if_neg (by rw [decide_eq_false (by omega)]; exact Bool.false_ne_true)]
 have ha : bulk a ≤ 1048576 := by omega
 have hb : bulk b ≤ 1048576 := by omega
 have hd := thenR_small a b
 have m1 := mkL_bd gChange_bd a 1
 have m2 := mkL_bd gChange_bd b (mkL gChange a 1).2
 have m3 := mkL_bd gChange_bd (thenR a b) 1
 refine laws_toChangeS.law a _ ha (laws_toChangeS.law b _ hb (spec_DiffThen.law _ _ _ ha hb (laws_toChangeS.law a _ ha (laws_toChangeS.law b _ hb (impl_DiffThen.law _ _ _ ha hb (laws_eqChangeS.law _ _ _ ?_))))))
 rw [decide_eq_true rfl, if_neg (by decide), if_neg (by simp)]
 refine laws_toChangeS.law a _ ha (laws_eqChangeS.law _ _ _ ?_)
 rw [decide_eq_true rfl, if_neg (by decide)]
 refine laws_toChangeS.law b _ hb (laws_eqChangeS.law _ _ _ ?_)
 rw [decide_eq_true rfl, if_neg (by decide)]
 refine laws_markChangeS.lawk _ _ _ ha (by decide) (by decide) (laws_markChangeS.lawk _ _ _ hb (by omega) (by omega) ?_)
 rw [if_neg (by rw [decide_eq_true_eq]; omega)]
 refine laws_eqChangeS.law _ _ _ ?_
 rw [decide_eq_true rfl, if_neg (by decide)]
 refine laws_markChangeS.lawk _ _ _ hd (by decide) (by decide) (laws_heldChangeS.lawk _ _ _ hd (by decide) (by decide) ?_)
 rw [if_neg (by rw [decide_eq_true_eq]; omega), if_neg (by simp)]
 refine laws_toChangeS.law a _ ha (laws_toChangeS.law b _ hb (impl_DiffThen.law _ _ _ ha hb (laws_eqChangeS.law _ _ _ ?_)))
 rw [decide_eq_true rfl, if_neg (by decide), if_neg (by simp)]
 refine laws_heldChangeS.lawk _ _ _ hd (by decide) (by decide) ?_
 rw [if_neg (by rw [decide_eq_true_eq]; omega), if_neg (by simp)]
end Go.Proofs.Ytndjggncgpjolaa

namespace Go.Proofs.Ytndjggncgpjolaa.rFnExactDiffThen
open Go.ChangeShapes Go.WideShapes Go.ChangeAt Go.RowKit
open Go.ChangeMaps (open_string shut_string)
set_option linter.unusedVariables false
theorem own : ownKnob Try.prog.godebug = none := by kernel_rfl
theorem laidOut : laidOutB Try.prog = true := by kernel_rfl
set_option maxHeartbeats 4000000 in
set_option maxRecDepth 100000 in
theorem lifted (os : Os) (started : os.Started) (H : Type) (enc : TypeId × Value → H) :
    ReturnsInHanded {} Try.checked os 7 .any (Rows.fnExactDiffThenSpec.pre6 enc Try.prog Try.f7 Rows.fnExactDiffThenRow.domain false) (Rows.fnExactDiffThenSpec.post enc Try.prog Try.f7 false true false false) := by
  refine returnsInHanded_of_change_sized (C := Try.checked) own started (by kernel_rfl) Try.func7
    (ChangeSpec.witness6 (enc := enc) (C := Try.checked) false ⟨#[], #[.slice none 0 0, .slice none 0 0], []⟩ 8 (by kernel_rfl) (by kernel_rfl) (by kernel_rfl) (by kernel_rfl)) ?_
  intro W base args ds gs before hval0 hW hcnd hsz0 _
  have hval : ∀ (j : Nat) t v, Try.f7.params[j]? = some t → args[j]? = some v → Value.okWide Try.prog W .any base t v := hval0
  have hW' := hW
  obtain ⟨p, q, hA0, hV, rfl, hfz, hnd⟩ := hW
  have hA : DataW.TrodAll enc Try.prog W 0 (fun _ => true) true Try.f7.params.toList args.toList ds p := hA0
  rw [Try.params7] at hA hval
  obtain ⟨v0, vs0, d0, ds0, p0, q0, hargs, rfl, rfl, h0, r0⟩ := trodAll_cons hA
  obtain ⟨v1, vs1, d1, ds1, p1, q1, rfl, rfl, rfl, h1, r1⟩ := trodAll_cons r0
  obtain ⟨rfl, rfl, rfl⟩ := trodAll_nil r1
  obtain rfl : args = #[v0, v1] := by cases args; simp_all
  obtain ⟨rfl, rfl⟩ := trodVars_none hV
  have k0 := h0
  have lt0 : ∀ x ∈ p0, x.block < W.heap.size := by obtain ⟨m, hm⟩ := k0; exact DataW.trod_lt m _ _ _ hm
  obtain ⟨x0, hv0, hx0⟩ : ∃ a : List Change, (∀ y0 ∈ a, vChange y0) ∧ (Kd.sl kChange).R W (Fr []) a v0.cells.toList := by obtain ⟨fuel, hf⟩ := h0; exact (Tr.sl Try.underlying41 (by kernel_rfl) tr100) H enc W fuel _ _ hf
  obtain ⟨a0, n0, c0, rfl⟩ := okWide_slice Try.underlying41 (hval 0 41 v0 rfl rfl)
  have s0 : Sl kChange W (Fr []) (.slice a0 n0 c0) x0 := by obtain ⟨_, e, h⟩ := hx0; simp [Value.cells] at e; subst e; exact h
  have k1 := h1
  have lt1 : ∀ x ∈ p1, x.block < W.heap.size := by obtain ⟨m, hm⟩ := k1; exact DataW.trod_lt m _ _ _ hm
  obtain ⟨x1, hv1, hx1⟩ : ∃ a : List Change, (∀ y0 ∈ a, vChange y0) ∧ (Kd.sl kChange).R W (Fr []) a v1.cells.toList := by obtain ⟨fuel, hf⟩ := h1; exact (Tr.sl Try.underlying41 (by kernel_rfl) tr100) H enc W fuel _ _ hf
  obtain ⟨a1, n1, c1, rfl⟩ := okWide_slice Try.underlying41 (hval 1 41 v1 rfl rfl)
  have s1 : Sl kChange W (Fr []) (.slice a1 n1 c1) x1 := by obtain ⟨_, e, h⟩ := hx1; simp [Value.cells] at e; subst e; exact h
  clear hA0 hval0 hsz0
  refine Calls.mono (laws_FnExactDiffThen.calls W (Ok.nil W) x0 a0 n0 c0 s0 x1 a1 n1 c1 s1 (fun r => r = true) (laws_FnExactDiffThen.law x0 hv0 x1 hv1)) fun e W' ⟨v, he, r, hr, hq, hg⟩ => ?_
  subst he; subst hr; subst hq
  have bel := Gr.below hg
  exact ⟨_, rfl, _, _, _, [], _, [], hW', trodAll_mk1 (shut_bool Try.underlying4 _), (trodAll_cons_mk (Below.trod laidOut (by kernel_rfl) (of_decide_eq_true (by kernel_rfl)) k0 bel lt0) (trodAll_cons_mk (Below.trod laidOut (by kernel_rfl) (of_decide_eq_true (by kernel_rfl)) k1 bel lt1) trodAll_mk0)), rfl, bel.frame _, fun h => by cases h⟩
theorem over : Rows.fnExactDiffThenRow.holds Try.pinned (OpenSpec.ofChange Rows.fnExactDiffThenSpec) :=
  OpenClaim.holds_of_wide 7 Try.f7 rfl rfl rfl rfl rfl rfl rfl ⟨rfl, rfl, rfl, rfl, rfl⟩ rfl rfl rfl rfl rfl (by kernel_rfl) Try.func7 (by kernel_rfl)
    (of_decide_eq_true (by kernel_rfl)) (by unfold Func.isWrapper; first | (rw [if_pos (by decide +kernel)]; kernel_rfl) | (rw [if_neg (by decide +kernel)]; exact ⟨rfl, rfl⟩))
    (fun os started H enc _ => lifted os started H enc)
theorem proved : Rows.FnExactDiffThenSaid := over
#print axioms proved
end Go.Proofs.Ytndjggncgpjolaa.rFnExactDiffThen
namespace Go.Proofs.Ytndjggncgpjolaa
theorem fnExactDiffThen_holds : Rows.FnExactDiffThenSaid := rFnExactDiffThen.proved
end Go.Proofs.Ytndjggncgpjolaa
