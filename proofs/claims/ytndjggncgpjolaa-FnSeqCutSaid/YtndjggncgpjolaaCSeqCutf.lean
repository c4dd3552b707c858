/- It is proved here that the law FnSeqCut of the given program holds whatever it is handed: the walks through the code, the plain laws and the row, in this order.
   Conditions: none. -/
import Derived.Below
import Derived.ChangeArms
import Derived.ChangeOld
import Derived.ChangeSlices
import Derived.DataReads
import Derived.Deep.Quiet
import Derived.KernelRfl
import Derived.Laws.Build
import Derived.Laws.IdiomStrings
import Derived.Laws.OwnMore
import Derived.Laws.Slices
import Derived.Laws.StructEq
import Derived.OpenShut
import Derived.ProofKit
import Derived.ShutString
import Derived.SizedLaws
import Derived.StillTail
import Derived.Test.YtndjggncgpjolaaProg
import Derived.Test.YtndjggncgpjolaaRows
import Derived.WalkKit
import Derived.Test.YtndjggncgpjolaaCSeqCuta
import Derived.Test.YtndjggncgpjolaaCSeqCutb
import Derived.Test.YtndjggncgpjolaaCSeqCutc
import Derived.Test.YtndjggncgpjolaaCSeqCutd
import Derived.Test.YtndjggncgpjolaaCSeqCute
namespace Go.Proofs.Ytndjggncgpjolaa
set_option linter.unusedVariables false
set_option linter.unusedSimpArgs false
set_option linter.unusedSectionVars false
/-- a merge hands back the row, or nothing -/
def mrow (o a b : List Pt) : List Pt := (smerge o a b).getD []
def mok (o a b : List Pt) : Bool := (smerge o a b).isSome
theorem impl_SeqMerge.is (o a b : List Pt) (Q : List Pt → Bool → Prop) (hq : Q (mrow o a b) (mok o a b)) : impl_SeqMerge.E o a b Q :=
  impl_SeqMerge.law o a b Q (fun r h => by unfold mrow mok at hq; rw [h] at hq; exact hq) (fun h => by unfold mrow mok at hq; rw [h] at hq; exact hq)
theorem spec_SeqMerge.is (o a b : List Pt) (Q : List Pt → Bool → Prop) (hq : Q (mrow o a b) (mok o a b)) : spec_SeqMerge.E o a b Q :=
  spec_SeqMerge.law o a b Q (fun r h => by unfold mrow mok at hq; rw [h] at hq; exact hq) (fun h => by unfold mrow mok at hq; rw [h] at hq; exact hq)
theorem m_of {o a b r : List Pt} (h : smerge o a b = some r) : mrow o a b = r ∧ mok o a b = true := by unfold mrow mok; rw [h]; exact ⟨rfl, rfl⟩
theorem m_not {o a b : List Pt} (h : smerge o a b = none) : mrow o a b = [] ∧ mok o a b = false := by unfold mrow mok; rw [h]; exact ⟨rfl, rfl⟩
end Go.Proofs.Ytndjggncgpjolaa

namespace Go.Proofs.Ytndjggncgpjolaa
set_option linter.unusedVariables false
set_option linter.unusedSimpArgs false
set_option linter.unusedSectionVars false
theorem fieldOut {l : List Pt} (h : Field l) {x y : Int} (hx : 8 < x) : (⟨x, y⟩ : Pt) ∉ l := fun hm => by have := h _ hm; dsimp only at this; omega
theorem laws_FnSeqCut.gen (code : List UInt8) (Q : Bool → Prop) (hq : Q true) : laws_FnSeqCut.E code Q := by
  unfold laws_FnSeqCut.E
  by_cases c1 : (code.length : Int) > 1048576
  · rw [if_pos (by simpa using c1)]; exact hq
  rw [if_neg (by simpa using c1)]
  refine spec_DrawSeqMerge.law _ _ fun o a b ho ha hb hfo hfa hfb => impl_SeqMerge.is _ _ _ _ (spec_SeqMerge.is _ _ _ _ ?_)
  rw [if_neg (by simp)]
  have same : Q (mok o a b == mok o a b) := by rw [beq_self_eq_true]; exact hq
  by_cases c2 : (o.length : Int) ≥ 12
  · rw [if_pos (by simpa using c2)]; exact same
  rw [if_neg (by simpa using c2)]
  by_cases c3 : (a.length : Int) ≥ 12
  · rw [if_pos (by simpa using c3)]; exact same
  rw [if_neg (by simpa using c3)]
  by_cases c4 : (b.length : Int) ≥ 12
  · rw [if_pos (by simpa using c4)]; exact same
  rw [if_neg (by simpa using c4)]
  simp only [List.nil_append, List.singleton_append]
  have hpo := fieldOut hfo (x := 99) (y := 99) (by omega)
  have hpa := fieldOut hfa (x := 99) (y := 99) (by omega)
  have hpb := fieldOut hfb (x := 99) (y := 99) (by omega)
  have e1 := smerge_snoc ⟨99, 99⟩ hpo hpa hpb (few_iff.2 (by simp only [List.length_append, List.length_singleton]; omega)) (few_iff.2 (by simp only [List.length_append, List.length_singleton]; omega))
  have e2 := smerge_cons (o := o) (a := a) (b := b) ⟨99, 99⟩ (few_iff.2 (by simp only [List.length_cons]; omega)) (few_iff.2 (by simp only [List.length_cons]; omega))
  refine ⟨by simp only [List.length_nil]; omega, by simp only [List.length_singleton]; omega, by simp only [List.length_nil]; omega, by simp only [List.length_singleton]; omega, by simp only [List.length_nil]; omega, by simp only [List.length_singleton]; omega, impl_SeqMerge.is _ _ _ _ ⟨by simp only [List.length_singleton]; omega, by simp only [List.length_singleton]; omega, by simp only [List.length_singleton]; omega, impl_SeqMerge.is _ _ _ _ ?_⟩⟩
  cases h : smerge o a b with
  | none =>
    rw [h] at e1 e2
    obtain ⟨f1, f2⟩ := m_not h
    obtain ⟨f3, f4⟩ := m_not e1
    obtain ⟨f5, f6⟩ := m_not e2
    rw [f1, f2, f4, f6, if_neg (by decide), if_neg (by decide)]
    exact ⟨by simp, by simp, by simp, by rw [if_pos (by decide)]; exact hq⟩
  | some r =>
    have hl := smerge_len h
    rw [h] at e1 e2
    obtain ⟨f1, f2⟩ := m_of h
    obtain ⟨f3, f4⟩ := m_of e1
    obtain ⟨f5, f6⟩ := m_of e2
    rw [f1, f2, f3, f4, f5, f6, if_neg (by decide), if_neg (by decide)]
    refine ⟨by simp only [List.length_nil]; omega, by simp only [List.length_singleton]; omega, by simp only [List.length_singleton]; omega, ?_⟩
    rw [if_neg (by decide)]
    refine laws_wsSame.law _ _ _ ?_
    rw [decide_eq_true rfl, if_pos rfl]
    refine laws_wsSame.law _ _ _ ?_
    rw [decide_eq_true rfl]; exact hq
theorem laws_FnSeqCut.law (code : List UInt8) (_ : ∀ x ∈ code, True) : laws_FnSeqCut.E code (fun r => r = true) := laws_FnSeqCut.gen code _ rfl
end Go.Proofs.Ytndjggncgpjolaa

namespace Go.Proofs.Ytndjggncgpjolaa.rFnSeqCut
open Go.ChangeShapes Go.WideShapes Go.ChangeAt Go.RowKit
open Go.ChangeMaps (open_string shut_string)
set_option linter.unusedVariables false
theorem own : ownKnob Try.prog.godebug = none := by kernel_rfl
theorem laidOut : laidOutB Try.prog = true := by kernel_rfl
set_option maxHeartbeats 4000000 in
set_option maxRecDepth 100000 in
theorem lifted (os : Os) (started : os.Started) (H : Type) (enc : TypeId × Value → H) :
    ReturnsInHanded {} Try.checked os 3 .any (Rows.fnSeqCutSpec.pre6 enc Try.prog Try.f3 Rows.fnSeqCutRow.domain false) (Rows.fnSeqCutSpec.post enc Try.prog Try.f3 false true false false) := by
  refine returnsInHanded_of_change_sized (C := Try.checked) own started (by kernel_rfl) Try.func3
    (ChangeSpec.witness6 (enc := enc) (C := Try.checked) false ⟨#[], #[.slice none 0 0], []⟩ 8 (by kernel_rfl) (by kernel_rfl) (by kernel_rfl) (by kernel_rfl)) ?_
  intro W base args ds gs before hval0 hW hcnd hsz0 _
  have hval : ∀ (j : Nat) t v, Try.f3.params[j]? = some t → args[j]? = some v → Value.okWide Try.prog W .any base t v := hval0
  have hW' := hW
  obtain ⟨p, q, hA0, hV, rfl, hfz, hnd⟩ := hW
  have hA : DataW.TrodAll enc Try.prog W 0 (fun _ => true) true Try.f3.params.toList args.toList ds p := hA0
  rw [Try.params3] at hA hval
  obtain ⟨v0, vs0, d0, ds0, p0, q0, hargs, rfl, rfl, h0, r0⟩ := trodAll_cons hA
  obtain ⟨rfl, rfl, rfl⟩ := trodAll_nil r0
  obtain rfl : args = #[v0] := by cases args; simp_all
  obtain ⟨rfl, rfl⟩ := trodVars_none hV
  have k0 := h0
  have lt0 : ∀ x ∈ p0, x.block < W.heap.size := by obtain ⟨m, hm⟩ := k0; exact DataW.trod_lt m _ _ _ hm
  obtain ⟨x0, hv0, hx0⟩ : ∃ a : List UInt8, (∀ y0 ∈ a, True) ∧ (Kd.sl Kd.byte).R W (Fr []) a v0.cells.toList := by obtain ⟨fuel, hf⟩ := h0; exact (Tr.sl Try.underlying22 (by kernel_rfl) (Tr.byte Try.underlying5)) H enc W fuel _ _ hf
  obtain ⟨a0, n0, c0, rfl⟩ := okWide_slice Try.underlying22 (hval 0 22 v0 rfl rfl)
  have s0 : Sl Kd.byte W (Fr []) (.slice a0 n0 c0) x0 := by obtain ⟨_, e, h⟩ := hx0; simp [Value.cells] at e; subst e; exact h
  clear hA0 hval0 hsz0
  refine Calls.mono (laws_FnSeqCut.calls W (Ok.nil W) x0 a0 n0 c0 s0 (fun r => r = true) (laws_FnSeqCut.law x0 hv0)) fun e W' ⟨v, he, r, hr, hq, hg⟩ => ?_
  subst he; subst hr; subst hq
  have bel := Gr.below hg
  exact ⟨_, rfl, _, _, _, [], _, [], hW', trodAll_mk1 (shut_bool Try.underlying4 _), (trodAll_cons_mk (Below.trod laidOut (by kernel_rfl) (of_decide_eq_true (by kernel_rfl)) k0 bel lt0) trodAll_mk0), rfl, bel.frame _, fun h => by cases h⟩
theorem over : Rows.fnSeqCutRow.holds Try.pinned (OpenSpec.ofChange Rows.fnSeqCutSpec) :=
  OpenClaim.holds_of_wide 3 Try.f3 rfl rfl rfl rfl rfl rfl rfl ⟨rfl, rfl, rfl, rfl, rfl⟩ rfl rfl rfl rfl rfl (by kernel_rfl) Try.func3 (by kernel_rfl)
    (of_decide_eq_true (by kernel_rfl)) (by unfold Func.isWrapper; first | (rw [if_pos (by decide +kernel)]; kernel_rfl) | (rw [if_neg (by decide +kernel)]; exact ⟨rfl, rfl⟩))
    (fun os started H enc _ => lifted os started H enc)
theorem proved : Rows.FnSeqCutSaid := over
#print axioms proved
end Go.Proofs.Ytndjggncgpjolaa.rFnSeqCut
namespace Go.Proofs.Ytndjggncgpjolaa
theorem fnSeqCut_holds : Rows.FnSeqCutSaid := rFnSeqCut.proved
end Go.Proofs.Ytndjggncgpjolaa
