/- It is proved here that the law FnDiffCut of the given program holds whatever it is handed: the walks through the code, the plain laws and the row, in this order.
   Conditions: none. -/
import Derived.Below
import Derived.ChangeArms
import Derived.ChangeOld
import Derived.ChangeSlices
import Derived.DataReads
import Derived.Deep.MidRow
import Derived.Deep.Quiet
import Derived.Deep.RegionLaw
import Derived.Deep.Upon
import Derived.KernelRfl
import Derived.Laws.Build
import Derived.Laws.IdiomStrings
import Derived.Laws.OwnMore
import Derived.Laws.Slices
import Derived.Laws.Strings2
import Derived.Laws.StructEq
import Derived.Lib.SliceRun
import Derived.OpenShut
import Derived.ProofKit
import Derived.Shelf.SlSortCmp.NoneTotal
import Derived.Shelf.SlSortCmp.WholeK
import Derived.Shelf.Slices.Cells
import Derived.Shelf.Slices.CompactS
import Derived.Shelf.Slices.In.SortNone
import Derived.Shelf.Small.Bits
import Derived.Shelf.Sort.Plain
import Derived.Shelf.Strconv.Itoa0
import Derived.ShutString
import Derived.SizedLaws
import Derived.StillTail
import Derived.Test.YtpdmnmpcjljeaaaProg
import Derived.Test.YtpdmnmpcjljeaaaRows
import Derived.WalkKit
import Derived.Test.YtpdmnmpcjljeaaaCDiffCuta
import Derived.Test.YtpdmnmpcjljeaaaCDiffCutb
import Derived.Test.YtpdmnmpcjljeaaaCDiffCutc
namespace Go.Proofs.Ytpdmnmpcjljeaaa
set_option linter.unusedVariables false
set_option linter.unusedSimpArgs false
set_option linter.unusedSectionVars false
set_option maxHeartbeats 8000000
set_option maxRecDepth 100000
section
def findN (n : Nat) (c : Nat → Bool) : Int := match (List.range n).find? c with | some k => (k : Int) | none => -1
theorem findN_hit {n k : Nat} {c : Nat → Bool} (hk : k < n) (h : c k = true) (hp : ∀ j, j < k → c j = false) : findN n c = (k : Int) := by
  unfold findN
  have : (List.range n).find? c = some k := by
    rw [List.find?_range_eq_some]
    exact ⟨h, List.mem_range.2 hk, fun j hj => by rw [hp j hj]; rfl⟩
  rw [this]
theorem findN_none {n : Nat} {c : Nat → Bool} (h : ∀ j, j < n → c j = false) : findN n c = -1 := by
  unfold findN
  have : (List.range n).find? c = none := by
    rw [List.find?_eq_none]; intro j hj; rw [h j (List.mem_range.1 hj)]; exact Bool.false_ne_true
  rw [this]
theorem findN_le (n : Nat) (c : Nat → Bool) : -1 ≤ findN n c ∧ findN n c < n := by
  unfold findN
  cases h : (List.range n).find? c with
  | none => exact ⟨Int.le_refl _, by dsimp only; omega⟩
  | some k => have := List.mem_range.1 (List.mem_of_find?_eq_some h); exact ⟨by dsimp only; omega, by dsimp only; omega⟩
theorem loop_find (n : Nat) (c : Nat → Bool) {B : (Int → Prop) → (Int → Nat) → Int → Prop} {Q : Int → Prop} (hq : Q (findN n c))
    (hs : ∀ (I : Int → Prop) (mu : Int → Nat) (k : Nat), k < n → (c k = true → Q (k : Int)) → (c k = false → I ((k : Int) + 1) ∧ mu ((k : Int) + 1) < mu (k : Int)) → B I mu (k : Int)) :
    ∃ (I : Int → Prop) (mu : Int → Nat), I 0 ∧ ∀ (i : Int), I i → (if decide (i < (n : Int)) then B I mu i else Q (-1)) := by
  refine loop_all n (fun k => !(c k)) (fun I mu k hk hp hn => hs I mu k hk (fun h => ?_) (fun h => hn (by rw [h]; rfl))) (fun ha => ?_)
  · rw [findN_hit hk h (fun j hj => by have := hp j hj; rwa [Bool.not_eq_true'] at this)] at hq; exact hq
  · rw [findN_none (fun j hj => by have := ha j hj; rwa [Bool.not_eq_true'] at this)] at hq; exact hq
section
variable {α : Type} [Inhabited α] [DecidableEq α]
theorem list_eq_iff (a b : List α) (h : a.length = b.length) : a = b ↔ ∀ k, k < a.length → nth a (k : Int) = nth b (k : Int) := ⟨fun e k _ => by rw [e], ext_nth h⟩
theorem eqF_shape (a b : List α) (el : α → α → Bool) (ok : α → α → Prop) (hok : ∀ x y, x ∈ a → ok x y) (hel : ∀ x y, x ∈ a → el x y = decide (x = y)) (hb : a.length ≤ 1048576) (Q : Bool → Prop) (hq : Q (decide (a = b))) :
    (if (a.length : Int) != (b.length : Int) then Q false else (∃ (I36 : Int → Prop) (mu37 : Int → Nat), I36 0 ∧ ∀ (v2 : Int), I36 v2 → (if decide (v2 < (a.length : Int)) then ((0 : Int) ≤ v2 ∧ v2 < (a.length : Int)) ∧ ((0 : Int) ≤ v2 ∧ v2 < (b.length : Int)) ∧ (ok (nth a v2) (nth b v2)) ∧ (if !(el (nth a v2) (nth b v2)) then Q false else (I64 (v2 + 1)) ∧ I36 (v2 + 1) ∧ mu37 (v2 + 1) < mu37 v2) else Q true))) := by
  by_cases hl : a.length = b.length
  · rw [if_neg (by simp [hl])]
    refine loop_all a.length (fun k => decide (nth a (k : Int) = nth b (k : Int))) (fun I mu k hk hp hn => ?_) (fun ha => ?_)
    · refine ⟨by omega, by omega, hok _ _ (nth_mem a hk), ?_⟩
      rw [hel _ _ (nth_mem a hk)]
      by_cases h : nth a (k : Int) = nth b (k : Int)
      · rw [decide_eq_true h, if_neg (by decide)]
        obtain ⟨i1, i2⟩ := hn (decide_eq_true h)
        exact ⟨by unfold I64; omega, i1, i2⟩
      · rw [decide_eq_false h, if_pos (by decide)]
        rw [decide_eq_false (by rw [list_eq_iff a b hl]; exact fun g => h (g k hk))] at hq; exact hq
    · rw [decide_eq_true ((list_eq_iff a b hl).2 fun k hk => of_decide_eq_true (ha k hk))] at hq; exact hq
  · rw [if_pos (by rw [bne_iff_ne]; omega)]
    rw [decide_eq_false (fun e => hl (by rw [e]))] at hq; exact hq
end
end
section
open Go.RowKit
open Go.Shelf Go.Sort Go.Lib
theorem compact_le (x : List Str) : (Lib.compact x).length ≤ x.length := by
 unfold Lib.compact Lib.compactUpTo
 rw [List.length_map]
 exact Nat.le_trans (List.length_filter_le _ _) (by rw [List.length_range]; exact Nat.le_refl _)
theorem compact_mem {x : List Str} {y : Str} (h : y ∈ Lib.compact x) : y ∈ x := by
 unfold Lib.compact Lib.compactUpTo at h
 obtain ⟨j, hj, rfl⟩ := List.mem_map.1 h
 have hl : j < x.length := List.mem_range.1 (List.mem_filter.1 hj).1
 simp [hl]
end
section
theorem less_trans : ∀ {a b c : Str}, Op.bytesLess a b = true → Op.bytesLess b c = true → Op.bytesLess a c = true
  | _, _, [], _, h => by rename_i b _; cases b <;> simp [Op.bytesLess] at h
  | _, [], _ :: _, h, _ => by rename_i a _ _ _; cases a <;> simp [Op.bytesLess] at h
  | [], _ :: _, _ :: _, _, _ => by simp [Op.bytesLess]
  | x :: a, y :: b, z :: c, h1, h2 => by
    rw [Op.bytesLess] at h1 h2 ⊢
    simp only [Bool.or_eq_true, Bool.and_eq_true, decide_eq_true_eq, beq_iff_eq] at h1 h2 ⊢
    rcases h1 with h1 | ⟨rfl, h1⟩
    · rcases h2 with h2 | ⟨rfl, h2⟩
      · exact .inl (UInt8.lt_trans h1 h2)
      · exact .inl h1
    · rcases h2 with h2 | ⟨rfl, h2⟩
      · exact .inl h2
      · exact .inr ⟨rfl, less_trans h1 h2⟩
theorem less_asym {a b : Str} (h : Op.bytesLess a b = true) : Op.bytesLess b a = false := by
  cases e : Op.bytesLess b a with
  | false => rfl
  | true => have := less_trans h e; rw [less_irr] at this; cases this
theorem less_or {a b : Str} (h : Op.bytesLess a b = false) : Op.bytesLess b a = true ∨ b = a := by
  have := less_tri a b
  rw [h] at this
  simpa using this.symm
def SS (l : List Str) : Prop := l.Pairwise fun x y => Op.bytesLess x y = true
theorem SS.ext : ∀ {l m : List Str}, SS l → SS m → (∀ x, x ∈ l ↔ x ∈ m) → l = m
  | [], [], _, _, _ => rfl
  | [], y :: m, _, _, h => by have := (h y).2 List.mem_cons_self; cases this
  | x :: l, [], _, _, h => by have := (h x).1 List.mem_cons_self; cases this
  | x :: l, y :: m, hl, hm, h => by
    obtain ⟨l1, l2⟩ := List.pairwise_cons.1 hl
    obtain ⟨m1, m2⟩ := List.pairwise_cons.1 hm
    have e : x = y := by
      rcases List.mem_cons.1 ((h x).1 List.mem_cons_self) with e | e
      · exact e
      · rcases List.mem_cons.1 ((h y).2 List.mem_cons_self) with e' | e'
        · exact e'.symm
        · have := less_trans (m1 x e) (l1 y e'); rw [less_irr] at this; cases this
    subst e
    rw [SS.ext l2 m2 fun z => ⟨fun hz => ?_, fun hz => ?_⟩]
    · rcases List.mem_cons.1 ((h z).1 (List.mem_cons_of_mem _ hz)) with e | e
      · subst e; have := l1 z hz; rw [less_irr] at this; cases this
      · exact e
    · rcases List.mem_cons.1 ((h z).2 (List.mem_cons_of_mem _ hz)) with e | e
      · subst e; have := m1 z hz; rw [less_irr] at this; cases this
      · exact e
theorem le_less (x y : Str) : decide (x ≤ y) = !(Op.bytesLess y x) := by
  rw [bytesLess_eq]
  by_cases h : y < x
  · rw [decide_eq_true h, decide_eq_false (by rw [List.not_le]; exact h)]; rfl
  · rw [decide_eq_false h, decide_eq_true (List.not_lt.1 h)]; rfl
theorem sortS_le (l : List Str) : (sortS l).Pairwise fun x y => Op.bytesLess y x = false := by
  have h := List.pairwise_mergeSort (le := fun x y : Str => decide (x ≤ y)) (fun a b c h1 h2 => by
    rw [le_less, Bool.not_eq_true'] at h1 h2 ⊢
    cases e : Op.bytesLess c a with
    | false => rfl
    | true =>
      rcases less_or h1 with h3 | h3
      · have := less_trans e h3; rw [h2] at this; cases this
      · subst h3; rw [h2] at e; cases e) (fun a b => by
    rw [le_less, le_less]
    cases e : Op.bytesLess b a with
    | false => rfl
    | true => rw [less_asym e]; rfl) l
  exact h.imp fun {x y} h => by rw [le_less, Bool.not_eq_true'] at h; exact h
theorem sortS_mem {l : List Str} {x : Str} : x ∈ sortS l ↔ x ∈ l := List.mem_mergeSort
section
open Go.Lib
theorem compact_of (l : List Str) (h : l.Pairwise fun x y => Op.bytesLess y x = false) : SS (compact l) ∧ ∀ x, x ∈ compact l ↔ x ∈ l := by
  have hle : ∀ i j, i ≤ j → j < l.length → Op.bytesLess (l.toArray[j]!) (l.toArray[i]!) = false := fun i j hij hj => by
    have hi : i < l.length := by omega
    simp only [List.getElem!_toArray, getElem!_pos l i hi, getElem!_pos l j hj]
    rcases Nat.lt_or_eq_of_le hij with hlt | rfl
    · exact List.pairwise_iff_getElem.1 h i j hi hj hlt
    · exact less_irr _
  constructor
  · unfold compact compactUpTo SS
    rw [List.pairwise_map, List.pairwise_filter]
    refine List.pairwise_iff_getElem.2 fun i j hi hj hij => ?_
    simp only [List.length_range] at hi hj
    simp only [List.getElem_range]
    intro _ hk
    have hj0 : 0 < j := by omega
    have hne : l.toArray[j]! ≠ l.toArray[j - 1]! := fun e => by rw [keeps_neg hj0 e] at hk; cases hk
    have h1 : Op.bytesLess (l.toArray[j - 1]!) (l.toArray[j]!) = true := by
      rcases less_or (hle (j - 1) j (by omega) hj) with h2 | h2
      · exact h2
      · exact absurd h2.symm hne
    rcases less_or (hle i (j - 1) (by omega) (by omega)) with h3 | h3
    · exact less_trans h3 h1
    · rw [h3]; exact h1
  · intro x
    constructor
    · exact compact_mem
    · intro hx
      obtain ⟨k, hk, rfl⟩ := List.getElem_of_mem hx
      have key : ∀ k, k < l.length → l.toArray[k]! ∈ compact l := by
        intro k
        induction k using Nat.strongRecOn with
        | _ k ih =>
          intro hk
          cases e : keeps l.toArray k with
          | true =>
            unfold compact compactUpTo
            exact List.mem_map.2 ⟨k, List.mem_filter.2 ⟨List.mem_range.2 hk, e⟩, rfl⟩
          | false =>
            have hk0 : 0 < k := by
              rcases Nat.eq_zero_or_pos k with h0 | h0
              · subst h0; rw [keeps_lt_one _ 0 (by omega)] at e; cases e
              · exact h0
            have he : l.toArray[k]! = l.toArray[k - 1]! := Classical.byContradiction fun hne => by rw [keeps_pos hne] at e; cases e
            rw [he]; exact ih (k - 1) (by omega) (by omega)
      have := key k hk
      simpa [getElem!_pos l k hk] using this
end
def uniq (l : List Str) : List Str := Lib.compact (sortS l)
theorem uniq_ss (l : List Str) : SS (uniq l) := (compact_of _ (sortS_le l)).1
theorem uniq_mem {l : List Str} {x : Str} : x ∈ uniq l ↔ x ∈ l := ((compact_of _ (sortS_le l)).2 x).trans sortS_mem
def ids (s : List Feat) : List Str := s.map (·.Id)
theorem ids_app (s t : List Feat) : ids (s ++ t) = ids s ++ ids t := List.map_append
theorem sheet_ss {s : List Feat} (h : sheetOk s = true) : SS (ids s) ∧ s.length ≤ 8 ∧ ∀ f ∈ s, featOk f = true := by
  unfold sheetOk at h
  simp only [Bool.and_eq_true, decide_eq_true_eq] at h
  obtain ⟨h1, h2⟩ := h
  have h1 := allN_iff.1 h1
  have hadj : ∀ k, 0 < k → k < s.length → Op.bytesLess (nth s ((k : Int) - 1)).Id (nth s (k : Int)).Id = true := fun k h0 hk => by
    have := h1 k hk
    simp only [Bool.and_eq_true, Bool.or_eq_true, decide_eq_true_eq] at this
    rcases this.2 with h | h
    · omega
    · exact h
  refine ⟨?_, h2, fun f hf => ?_⟩
  · unfold SS ids
    rw [List.pairwise_map]
    refine List.pairwise_iff_getElem.2 fun i j hi hj hij => ?_
    have key : ∀ d, i + d + 1 < s.length → Op.bytesLess s[i].Id (nth s ((i + d + 1 : Nat) : Int)).Id = true := by
      intro d
      induction d with
      | zero =>
        intro hd
        have := hadj (i + 0 + 1) (by omega) hd
        rw [show (((i + 0 + 1 : Nat) : Int) - 1) = (i : Int) by omega, nth_nat s hi] at this
        exact this
      | succ d ih =>
        intro hd
        have := hadj (i + (d + 1) + 1) (by omega) hd
        rw [show (((i + (d + 1) + 1 : Nat) : Int) - 1) = ((i + d + 1 : Nat) : Int) by omega] at this
        exact less_trans (ih (by omega)) this
    have := key (j - i - 1) (by omega)
    rw [show i + (j - i - 1) + 1 = j by omega, nth_nat s hj] at this
    exact this
  · obtain ⟨k, hk, rfl⟩ := List.getElem_of_mem hf
    have := h1 k hk
    rw [nth_nat s hk] at this
    simp only [Bool.and_eq_true] at this
    exact this.1
theorem word_len {s : Str} (h : wordOk s = true) : s.length ≤ 6 := by
  unfold wordOk at h
  simp only [Bool.and_eq_true, decide_eq_true_eq] at h
  exact h.2.2
theorem bulk_small {α : Type} [Bulk α] (l : List α) (m : Nat) (h : ∀ x ∈ l, bulk x ≤ m) : bulk l ≤ l.length * (m + 1) := by
  induction l with
  | nil => exact Nat.zero_le _
  | cons x l ih =>
    have h1 := h x List.mem_cons_self
    have h2 := ih fun y hy => h y (List.mem_cons_of_mem _ hy)
    rw [bulk_cons, List.length_cons, Nat.add_mul]
    omega
theorem feat_small {f : Feat} (h : featOk f = true) : bulk f ≤ 100 ∧ f.Id.length ≤ 6 := by
  unfold featOk at h
  simp only [Bool.and_eq_true, decide_eq_true_eq] at h
  obtain ⟨⟨⟨h1, h2⟩, h3⟩, h4⟩ := h
  have hi := word_len h3
  have e1 : bulk f = bulk f.Id + (bulk f.Shape.Kind + bulk f.Shape.Pts) + bulk f.Tags := rfl
  have e2 : bulk f.Id = f.Id.length := bulk_str _
  have e3 : bulk f.Shape.Kind = 0 := rfl
  have e4 : bulk f.Shape.Pts = f.Shape.Pts.length := bulk_flat (fun _ => rfl) _
  have ht : bulk f.Tags ≤ f.Tags.length * (12 + 1) := bulk_small _ 12 fun t hm => by
    unfold tagsOk at h1
    obtain ⟨k, hk, rfl⟩ := List.getElem_of_mem hm
    have := allN_iff.1 h1 k hk
    rw [nth_nat _ hk] at this
    simp only [Bool.and_eq_true] at this
    have a1 := word_len this.1.1
    have a2 := word_len this.1.2
    have b0 : bulk f.Tags[k] = bulk f.Tags[k].Key + bulk f.Tags[k].Val := rfl
    have b1 : bulk f.Tags[k].Key = f.Tags[k].Key.length := bulk_str _
    have b2 : bulk f.Tags[k].Val = f.Tags[k].Val.length := bulk_str _
    omega
  have hp : f.Shape.Pts.length ≤ 6 := by
    unfold shapeOk kindOk at h4
    simp only [Bool.and_eq_true] at h4
    have := h4.2
    split at this
    · simp only [decide_eq_true_eq] at this; omega
    · split at this
      · simp only [Bool.and_eq_true, decide_eq_true_eq] at this; omega
      · split at this
        · simp only [Bool.and_eq_true, decide_eq_true_eq] at this; omega
        · cases this
  have : f.Tags.length * (12 + 1) ≤ 52 := by omega
  omega
def zeroF : Feat := ⟨[], ⟨0, []⟩, []⟩
def sideOf (s : List Feat) (id : Str) : Feat × Bool :=
  if findN s.length (fun j => (nth s (j : Int)).Id == id) < 0 then (zeroF, false) else (nth s (findN s.length fun j => (nth s (j : Int)).Id == id), true)
theorem sideOf_small {s : List Feat} (h : sheetOk s = true) (id : Str) : bulk (sideOf s id).1 ≤ 100 := by
  unfold sideOf
  split
  · exact (by decide : bulk zeroF ≤ 100)
  · have h1 := findN_le s.length fun j => (nth s (j : Int)).Id == id
    exact (feat_small ((sheet_ss h).2.2 _ (nth_memi s (by omega) h1.2))).1
def diffC (a b : List Feat) (id : Str) : Change := ⟨id, (sideOf a id).2, (sideOf a id).1, (sideOf b id).2, (sideOf b id).1⟩
def diffL (a b : List Feat) (l : List Str) : List Change := (l.map (diffC a b)).filter fun c => !(sameC c)
theorem diffL_snoc (a b : List Feat) (l : List Str) (x : Str) : diffL a b (l ++ [x]) = diffL a b l ++ (if sameC (diffC a b x) then [] else [diffC a b x]) := by
  unfold diffL
  rw [List.map_append, List.filter_append]
  congr 1
  cases h : sameC (diffC a b x) <;> simp [h]
theorem uniq_len (l : List Str) : (uniq l).length ≤ l.length := by
  unfold uniq
  have := compact_le (sortS l)
  have h2 : (sortS l).length = l.length := List.length_mergeSort _
  omega
theorem diffL_len (a b : List Feat) (l : List Str) : (diffL a b l).length ≤ l.length := by
  unfold diffL
  exact Nat.le_trans (List.length_filter_le _ _) (by rw [List.length_map]; exact Nat.le_refl _)
end
structure MInv (o a b : List Pt) (xs : List Pt) (i j k t : Nat) : Prop where
  hi : i ≤ t
  ht : t ≤ o.length
  hj : j ≤ a.length
  hk : k ≤ b.length
  fj : From (part o a) t j
  fk : From (part o b) t k
  len : xs.length ≤ j + k
  eq : (mloop o a b (part o a) (part o b) (o.length - t) t i j k).map (xs ++ ·) = smerge o a b
theorem MInv.zero {o a b : List Pt} (h1 : few o a = true) (h2 : few o b = true) : MInv o a b [] 0 0 0 0 :=
  ⟨Nat.le_refl _, Nat.zero_le _, Nat.zero_le _, Nat.zero_le _, From.zero _ _, From.zero _ _, Nat.le_refl _, by rw [smerge_few h1 h2, Nat.sub_zero]; cases mloop o a b (part o a) (part o b) o.length 0 0 0 0 <;> rfl⟩
theorem MInv.skip {o a b xs : List Pt} {i j k t : Nat} (h : MInv o a b xs i j k t) (ht : t < o.length) (hn : part o a t = none ∨ part o b t = none) : MInv o a b xs i j k (t + 1) :=
  ⟨by have := h.hi; omega, ht, h.hj, h.hk, h.fj.skip, h.fk.skip, h.len, by
    have := h.eq
    rw [show o.length - t = (o.length - (t + 1)) + 1 by omega, mloop_none hn] at this
    exact this⟩
theorem MInv.step {o a b xs : List Pt} {i j k t x y : Nat} (h : MInv o a b xs i j k t) (ht : t < o.length) (hx : part o a t = some x) (hy : part o b t = some y) {p : List Pt} (hp : pickL (seg o i t) (seg a j x) (seg b k y) = some p) : MInv o a b (xs ++ p ++ [nth o (t : Int)]) (t + 1) (x + 1) (y + 1) (t + 1) := by
  have h1 := (part_mates o a).lt hx
  have h2 := (part_mates o b).lt hy
  refine ⟨Nat.le_refl _, ht, h1.2, h2.2, .step (part_mates o a) hx, .step (part_mates o b) hy, ?_, ?_⟩
  · have := (pickL_mem hp).2.2.2
    rw [seg_len a _ _ (by omega), seg_len b _ _ (by omega)] at this
    have h3 := h.fj t x (Nat.le_refl _) hx
    have h4 := h.fk t y (Nat.le_refl _) hy
    have h5 := h.len
    simp only [List.length_append, List.length_singleton]; omega
  · have := h.eq
    rw [show o.length - t = (o.length - (t + 1)) + 1 by omega, mloop_some hx hy, hp, Option.bind_some, Option.map_map] at this
    rw [← this]
    congr 1
    funext r
    simp
theorem MInv.from {o a b xs : List Pt} {i j k t x y : Nat} (h : MInv o a b xs i j k t) (hx : part o a t = some x) (hy : part o b t = some y) : j ≤ x ∧ x < a.length ∧ k ≤ y ∧ y < b.length :=
  ⟨h.fj t x (Nat.le_refl _) hx, ((part_mates o a).lt hx).2, h.fk t y (Nat.le_refl _) hy, ((part_mates o b).lt hy).2⟩
def keysT (t : List Tag) : List Str := t.map (·.Key)
theorem keys_app (s t : List Tag) : keysT (s ++ t) = keysT s ++ keysT t := List.map_append
theorem feat_facts {f : Feat} (h : featOk f = true) : f.Tags.length ≤ 4 ∧ shapeOk f.Shape = true ∧ f.Shape.Pts.length ≤ 6 ∧ f.Id.length ≤ 6 ∧ ∀ t ∈ f.Tags, t.Key.length ≤ 6 ∧ t.Val.length ≤ 6 := by
  have hb := (feat_small h).2
  unfold featOk at h
  simp only [Bool.and_eq_true, decide_eq_true_eq] at h
  obtain ⟨⟨⟨h1, h2⟩, h3⟩, h4⟩ := h
  refine ⟨h2, h4, ?_, hb, fun t hm => ?_⟩
  · unfold shapeOk kindOk at h4
    simp only [Bool.and_eq_true] at h4
    have := h4.2
    split at this
    · simp only [decide_eq_true_eq] at this; omega
    · split at this
      · simp only [Bool.and_eq_true, decide_eq_true_eq] at this; omega
      · split at this
        · simp only [Bool.and_eq_true, decide_eq_true_eq] at this; omega
        · cases this
  · unfold tagsOk at h1
    obtain ⟨k, hk, rfl⟩ := List.getElem_of_mem hm
    have := allN_iff.1 h1 k hk
    rw [nth_nat _ hk] at this
    simp only [Bool.and_eq_true] at this
    exact ⟨word_len this.1.1, word_len this.1.2⟩
theorem shape_pts {s : Shape} (h : shapeOk s = true) : s.Pts.length ≤ 6 := by
  unfold shapeOk kindOk at h
  simp only [Bool.and_eq_true] at h
  have := h.2
  split at this
  · simp only [decide_eq_true_eq] at this; omega
  · split at this
    · simp only [Bool.and_eq_true, decide_eq_true_eq] at this; omega
    · split at this
      · simp only [Bool.and_eq_true, decide_eq_true_eq] at this; omega
      · cases this
section
def mkL {α : Type} (g : α → Int → α × Int) : List α → Int → List α × Int
  | [], k => ([], k)
  | x :: l, k => ((g x k).1 :: (mkL g l (g x k).2).1, (mkL g l (g x k).2).2)
section
variable {α : Type} {g : α → Int → α × Int}
theorem mkL_snoc (x : α) : ∀ (l : List α) (k : Int), mkL g (l ++ [x]) k = ((mkL g l k).1 ++ [(g x (mkL g l k).2).1], (g x (mkL g l k).2).2)
  | [], k => rfl
  | y :: l, k => by
    rw [List.cons_append, mkL, mkL_snoc x l]; rfl
theorem mkL_len : ∀ (l : List α) (k : Int), (mkL g l k).1.length = l.length
  | [], k => rfl
  | y :: l, k => by rw [mkL, List.length_cons, List.length_cons, mkL_len l]
theorem mkL_bd [Bulk α] (hb : ∀ x k, k ≤ (g x k).2 ∧ (g x k).2 ≤ k + 8 * (1 + (bulk x : Nat))) : ∀ (l : List α) (k : Int), k ≤ (mkL g l k).2 ∧ (mkL g l k).2 ≤ k + 8 * (bulk l : Nat)
  | [], k => ⟨Int.le_refl _, by simp [mkL, bulk_nil]⟩
  | y :: l, k => by
    have h1 := hb y k
    have h2 := mkL_bd hb l (g y k).2
    rw [bulk_cons, mkL]
    exact ⟨by dsimp only; omega, by dsimp only; omega⟩
theorem mkL_app : ∀ (l m : List α) (k : Int), mkL g (l ++ m) k = ((mkL g l k).1 ++ (mkL g m (mkL g l k).2).1, (mkL g m (mkL g l k).2).2)
  | [], m, k => rfl
  | y :: l, m, k => by rw [List.cons_append, mkL, mkL_app l]; rfl
variable [Inhabited α]
def Mk (g : α → Int → α × Int) (a : List α) (k : Int) (u : Nat) (xs : List α) (k' : Int) : Prop := u ≤ a.length ∧ xs = (mkL g (a.take u) k).1 ++ a.drop u ∧ k' = (mkL g (a.take u) k).2
variable {a xs : List α} {k k' : Int} {u : Nat}
theorem Mk.zero (a : List α) (k : Int) : Mk g a k 0 a k := ⟨Nat.zero_le _, by simp [mkL], by simp [mkL]⟩
theorem Mk.len (h : Mk g a k u xs k') : xs.length = a.length := by
  rw [h.2.1, List.length_append, mkL_len, List.length_take, List.length_drop]; have := h.1; omega
theorem Mk.nth (h : Mk g a k u xs k') (hu : u < a.length) : nth xs (u : Int) = Go.Proofs.Ytpdmnmpcjljeaaa.nth a (u : Int) := by
  rw [nth_nat xs (by rw [h.len]; exact hu), nth_nat a hu]
  have hl : (mkL g (a.take u) k).1.length = u := by rw [mkL_len, List.length_take]; omega
  have := h.2.1
  subst this
  rw [List.getElem_append_right (by omega)]
  simp [hl]
theorem Mk.bd [Bulk α] (h : Mk g a k u xs k') (hb : ∀ x k, k ≤ (g x k).2 ∧ (g x k).2 ≤ k + 8 * (1 + (bulk x : Nat))) : k ≤ k' ∧ k' ≤ k + 8 * (bulk a : Nat) := by
  have h1 := mkL_bd hb (a.take u) k
  have h2 := bulk_take a u
  rw [h.2.2]
  exact ⟨h1.1, by omega⟩
def Hd (g : α → Int → α × Int) (a : List α) (k : Int) (u : Nat) (k' : Int) : Prop := u ≤ a.length ∧ k' = (mkL g (a.take u) k).2
theorem Hd.zero (a : List α) (k : Int) : Hd g a k 0 k := ⟨Nat.zero_le _, by simp [mkL]⟩
theorem Hd.nth (h : Hd g a k u k') (hu : u < a.length) : nth (mkL g a k).1 (u : Int) = (g (Go.Proofs.Ytpdmnmpcjljeaaa.nth a (u : Int)) k').1 := by
  have e : a = (a.take u ++ [Go.Proofs.Ytpdmnmpcjljeaaa.nth a (u : Int)]) ++ a.drop (u + 1) := by rw [← take_nth a hu, List.take_append_drop]
  have hl : (mkL g (a.take u) k).1.length = u := by rw [mkL_len, List.length_take]; omega
  rw [nth_nat _ (by rw [mkL_len]; exact hu)]
  have h1 : (mkL g a k).1[u]? = some (g (Go.Proofs.Ytpdmnmpcjljeaaa.nth a (u : Int)) k').1 := by
    conv => lhs; rw [e]
    rw [mkL_app, mkL_snoc]
    dsimp only
    rw [List.append_assoc, List.getElem?_append_right (by omega), hl, Nat.sub_self, h.2]; rfl
  rw [List.getElem?_eq_getElem (by rw [mkL_len]; exact hu)] at h1
  exact Option.some.inj h1
theorem Hd.bd [Bulk α] (h : Hd g a k u k') (hb : ∀ x k, k ≤ (g x k).2 ∧ (g x k).2 ≤ k + 8 * (1 + (bulk x : Nat))) : k ≤ k' ∧ k' ≤ k + 8 * (bulk a : Nat) := by
  have h1 := mkL_bd hb (a.take u) k
  have h2 := bulk_take a u
  rw [h.2]
  exact ⟨h1.1, by omega⟩
end
theorem bulk_feat (x : Feat) : bulk x = bulk x.Id + (bulk x.Shape.Kind + bulk x.Shape.Pts) + bulk x.Tags := rfl
theorem bulk_change (x : Change) : bulk x = bulk x.Id + bulk x.Had + bulk x.Was + bulk x.Has + bulk x.Now := rfl
end
theorem pw_ext {α : Type} {R : α → α → Prop} (irr : ∀ x, ¬ R x x) (tr : ∀ x y z, R x y → R y z → R x z) : ∀ {l m : List α}, l.Pairwise R → m.Pairwise R → (∀ x, x ∈ l ↔ x ∈ m) → l = m
  | [], [], _, _, _ => rfl
  | [], y :: m, _, _, h => by have := (h y).2 List.mem_cons_self; cases this
  | x :: l, [], _, _, h => by have := (h x).1 List.mem_cons_self; cases this
  | x :: l, y :: m, hl, hm, h => by
    obtain ⟨l1, l2⟩ := List.pairwise_cons.1 hl
    obtain ⟨m1, m2⟩ := List.pairwise_cons.1 hm
    have e : x = y := by
      rcases List.mem_cons.1 ((h x).1 List.mem_cons_self) with e | e
      · exact e
      · rcases List.mem_cons.1 ((h y).2 List.mem_cons_self) with e' | e'
        · exact e'.symm
        · exact absurd (tr _ _ _ (m1 x e) (l1 y e')) (irr _)
    subst e
    rw [pw_ext irr tr l2 m2 fun z => ⟨fun hz => ?_, fun hz => ?_⟩]
    · rcases List.mem_cons.1 ((h z).1 (List.mem_cons_of_mem _ hz)) with e | e
      · subst e; exact absurd (l1 z hz) (irr _)
      · exact e
    · rcases List.mem_cons.1 ((h z).2 (List.mem_cons_of_mem _ hz)) with e | e
      · subst e; exact absurd (m1 z hz) (irr _)
      · exact e
def idsC (d : List Change) : List Str := d.map (·.Id)
theorem idsC_app (s t : List Change) : idsC (s ++ t) = idsC s ++ idsC t := List.map_append
def CS (d : List Change) : Prop := d.Pairwise fun x y => Op.bytesLess x.Id y.Id = true
theorem CS.ext {l m : List Change} (hl : CS l) (hm : CS m) (h : ∀ x, x ∈ l ↔ x ∈ m) : l = m :=
  pw_ext (R := fun x y : Change => Op.bytesLess x.Id y.Id = true) (fun x e => by rw [less_irr] at e; cases e) (fun x y z h1 h2 => less_trans h1 h2) hl hm h
theorem CS.ids {d : List Change} (h : CS d) : SS (idsC d) := List.pairwise_map.2 h
theorem diff_cs {d : List Change} (h : diffOk d = true) : CS d ∧ d.length ≤ 16 ∧ ∀ c ∈ d, changeOk c = true := by
  unfold diffOk at h
  simp only [Bool.and_eq_true, decide_eq_true_eq] at h
  obtain ⟨h1, h2⟩ := h
  have h1 := allN_iff.1 h1
  have hadj : ∀ k, 0 < k → k < d.length → Op.bytesLess (nth d ((k : Int) - 1)).Id (nth d (k : Int)).Id = true := fun k h0 hk => by
    have := h1 k hk
    simp only [Bool.and_eq_true, Bool.or_eq_true, decide_eq_true_eq] at this
    rcases this.2 with h | h
    · omega
    · exact h
  refine ⟨?_, h2, fun f hf => ?_⟩
  · refine List.pairwise_iff_getElem.2 fun i j hi hj hij => ?_
    have key : ∀ q, i + q + 1 < d.length → Op.bytesLess d[i].Id (nth d ((i + q + 1 : Nat) : Int)).Id = true := by
      intro q
      induction q with
      | zero =>
        intro hd
        have := hadj (i + 0 + 1) (by omega) hd
        rw [show (((i + 0 + 1 : Nat) : Int) - 1) = (i : Int) by omega, nth_nat d hi] at this
        exact this
      | succ q ih =>
        intro hd
        have := hadj (i + (q + 1) + 1) (by omega) hd
        rw [show (((i + (q + 1) + 1 : Nat) : Int) - 1) = ((i + q + 1 : Nat) : Int) by omega] at this
        exact less_trans (ih (by omega)) this
    have := key (j - i - 1) (by omega)
    rw [show i + (j - i - 1) + 1 = j by omega, nth_nat d hj] at this
    exact this
  · obtain ⟨k, hk, rfl⟩ := List.getElem_of_mem hf
    have := h1 k hk
    rw [nth_nat d hk] at this
    simp only [Bool.and_eq_true] at this
    exact this.1
theorem side_small {id : Str} {has : Bool} {f : Feat} (h : sideOk id has f = true) : bulk f ≤ 100 := by
  unfold sideOk at h
  cases has with
  | true =>
    rw [if_pos rfl] at h
    simp only [Bool.and_eq_true] at h
    exact (feat_small h.1).1
  | false =>
    rw [if_neg (by decide)] at h
    unfold noF at h
    rw [of_decide_eq_true h]; decide
theorem change_small {c : Change} (h : changeOk c = true) : bulk c ≤ 206 ∧ sameC c = false ∧ bulk c.Was ≤ 100 ∧ bulk c.Now ≤ 100 ∧ c.Id.length ≤ 6 := by
  unfold changeOk at h
  simp only [Bool.and_eq_true, Bool.not_eq_true'] at h
  obtain ⟨⟨⟨h1, h2⟩, h3⟩, h4⟩ := h
  have a1 := word_len h1
  have a2 := side_small h2
  have a3 := side_small h3
  have e := bulk_change c
  have e1 : bulk c.Id = c.Id.length := bulk_str _
  have e2 : bulk c.Had = 0 := rfl
  have e3 : bulk c.Has = 0 := rfl
  exact ⟨by omega, h4, a2, a3, a1⟩
def atC (d : List Change) (id : Str) : Int := findN d.length fun j => (nth d (j : Int)).Id == id
theorem findN_true {n : Nat} {c : Nat → Bool} {k : Nat} (h : findN n c = (k : Int)) : k < n ∧ c k = true := by
  unfold findN at h
  cases e : (List.range n).find? c with
  | none => rw [e] at h; dsimp only at h; omega
  | some j =>
    rw [e] at h; dsimp only at h
    have : j = k := by omega
    subst this
    exact ⟨List.mem_range.1 (List.mem_of_find?_eq_some e), List.find?_some e⟩
theorem findN_neg {n : Nat} {c : Nat → Bool} (h : findN n c < 0) : ∀ j, j < n → c j = false := fun j hj => by
  unfold findN at h
  cases e : (List.range n).find? c with
  | some k => rw [e] at h; dsimp only at h; omega
  | none =>
    have := List.find?_eq_none.1 e j (List.mem_range.2 hj)
    simpa using this
theorem atC_hit {d : List Change} {id : Str} (h : ¬ atC d id < 0) : nth d (atC d id) ∈ d ∧ (nth d (atC d id)).Id = id := by
  obtain ⟨k, hk⟩ : ∃ k : Nat, atC d id = (k : Int) := ⟨(atC d id).toNat, by omega⟩
  obtain ⟨h1, h2⟩ := findN_true hk
  rw [hk]
  exact ⟨nth_mem d h1, by simpa using h2⟩
theorem atC_miss {d : List Change} {id : Str} (h : atC d id < 0) : id ∉ idsC d := fun hm => by
  obtain ⟨c, hc, rfl⟩ := List.mem_map.1 hm
  obtain ⟨k, hk, rfl⟩ := List.getElem_of_mem hc
  have := findN_neg h k hk
  rw [nth_nat d hk] at this
  simp at this
theorem atC_mem {d : List Change} {id : Str} (h : ¬ atC d id < 0) : id ∈ idsC d := by
  obtain ⟨h1, h2⟩ := atC_hit h
  exact List.mem_map.2 ⟨_, h1, h2⟩
theorem CS.inj {d : List Change} (h : CS d) {x y : Change} (hx : x ∈ d) (hy : y ∈ d) (e : x.Id = y.Id) : x = y := by
  obtain ⟨i, hi, rfl⟩ := List.getElem_of_mem hx
  obtain ⟨j, hj, rfl⟩ := List.getElem_of_mem hy
  rcases Nat.lt_trichotomy i j with g | g | g
  · have := List.pairwise_iff_getElem.1 h i j hi hj g
    rw [e, less_irr] at this; cases this
  · subst g; rfl
  · have := List.pairwise_iff_getElem.1 h j i hj hi g
    rw [e, less_irr] at this; cases this
theorem atC_of {d : List Change} (h : CS d) {c : Change} (hc : c ∈ d) : ¬ atC d c.Id < 0 ∧ nth d (atC d c.Id) = c := by
  have h0 : ¬ atC d c.Id < 0 := fun e => atC_miss e (List.mem_map.2 ⟨c, hc, rfl⟩)
  obtain ⟨h1, h2⟩ := atC_hit h0
  exact ⟨h0, h.inj h1 hc h2⟩
theorem sideOf_hit {s : List Feat} {id : Str} (h : (sideOf s id).2 = true) : (sideOf s id).1 ∈ s ∧ (sideOf s id).1.Id = id := by
  unfold sideOf at h ⊢
  split at h
  · cases h
  · rename_i g
    rw [if_neg g]
    have h1 := findN_le s.length fun j => (nth s (j : Int)).Id == id
    obtain ⟨k, hk⟩ : ∃ k : Nat, findN s.length (fun j => (nth s (j : Int)).Id == id) = (k : Int) := ⟨_, (Int.toNat_of_nonneg (by omega)).symm⟩
    obtain ⟨h2, h3⟩ := findN_true hk
    rw [hk]
    exact ⟨nth_mem s h2, by simpa using h3⟩
theorem sideOf_no {s : List Feat} {id : Str} (h : (sideOf s id).2 = false) : (sideOf s id).1 = zeroF ∧ id ∉ ids s := by
  unfold sideOf at h ⊢
  split at h
  · rename_i g
    rw [if_pos g]
    refine ⟨rfl, fun hm => ?_⟩
    obtain ⟨f, hf, rfl⟩ := List.mem_map.1 hm
    obtain ⟨k, hk, rfl⟩ := List.getElem_of_mem hf
    have := findN_neg g k hk
    rw [nth_nat s hk] at this
    simp at this
  · cases h
theorem sideOf_iff {s : List Feat} {id : Str} : (sideOf s id).2 = true ↔ id ∈ ids s := by
  constructor
  · intro h
    obtain ⟨h1, h2⟩ := sideOf_hit h
    exact List.mem_map.2 ⟨_, h1, h2⟩
  · intro h
    cases g : (sideOf s id).2 with
    | true => rfl
    | false => exact absurd h (sideOf_no g).2
def FS (l : List Feat) : Prop := l.Pairwise fun x y => Op.bytesLess x.Id y.Id = true
theorem FS.ext {l m : List Feat} (hl : FS l) (hm : FS m) (h : ∀ x, x ∈ l ↔ x ∈ m) : l = m :=
  pw_ext (R := fun x y : Feat => Op.bytesLess x.Id y.Id = true) (fun x e => by rw [less_irr] at e; cases e) (fun x y z h1 h2 => less_trans h1 h2) hl hm h
theorem FS.toIds {l : List Feat} (h : FS l) : SS (ids l) := List.pairwise_map.2 h
theorem FS.of_ids {l : List Feat} (h : SS (ids l)) : FS l := List.pairwise_map.1 h
theorem FS.inj {d : List Feat} (h : FS d) {x y : Feat} (hx : x ∈ d) (hy : y ∈ d) (e : x.Id = y.Id) : x = y := by
  obtain ⟨i, hi, rfl⟩ := List.getElem_of_mem hx
  obtain ⟨j, hj, rfl⟩ := List.getElem_of_mem hy
  rcases Nat.lt_trichotomy i j with g | g | g
  · have := List.pairwise_iff_getElem.1 h i j hi hj g
    rw [e, less_irr] at this; cases this
  · subst g; rfl
  · have := List.pairwise_iff_getElem.1 h j i hj hi g
    rw [e, less_irr] at this; cases this
theorem sheet_fs {s : List Feat} (h : sheetOk s = true) : FS s := FS.of_ids (sheet_ss h).1
theorem sideOf_of {s : List Feat} (h : FS s) {f : Feat} (hf : f ∈ s) : sideOf s f.Id = (f, true) := by
  have h1 : (sideOf s f.Id).2 = true := sideOf_iff.2 (List.mem_map.2 ⟨f, hf, rfl⟩)
  obtain ⟨h2, h3⟩ := sideOf_hit h1
  have := h.inj h2 hf h3
  exact Prod.ext this h1
def fits (s : List Feat) (c : Change) : Bool := decide ((sideOf s c.Id).2 = c.Had) && decide ((sideOf s c.Id).1 = c.Was)
def doAt (s : List Feat) (d : List Change) (id : Str) : Option Feat :=
  if atC d id < 0 then (if (sideOf s id).2 then some (sideOf s id).1 else none) else (if (nth d (atC d id)).Has then some (nth d (atC d id)).Now else none)
def doL (s : List Feat) (d : List Change) : List Feat := (uniq (ids s ++ idsC d)).filterMap (doAt s d)
def diffDo (s : List Feat) (d : List Change) : List Feat × Bool := if sheetOk s && diffOk d && d.all (fits s) && sheetOk (doL s d) then (doL s d, true) else ([], false)
theorem now_id {d : List Change} (hd : ∀ c ∈ d, changeOk c = true) {c : Change} (hc : c ∈ d) (h : c.Has = true) : c.Now.Id = c.Id ∧ featOk c.Now = true := by
  have := hd c hc
  unfold changeOk at this
  simp only [Bool.and_eq_true] at this
  have h3 := this.1.2
  unfold sideOk at h3
  rw [h, if_pos rfl] at h3
  simp only [Bool.and_eq_true, decide_eq_true_eq] at h3
  exact ⟨h3.2, h3.1⟩
theorem doAt_id {s : List Feat} {d : List Change} (hd : ∀ c ∈ d, changeOk c = true) {id : Str} {f : Feat} (h : doAt s d id = some f) : f.Id = id := by
  unfold doAt at h
  split at h
  · split at h
    · rename_i g
      cases h
      exact (sideOf_hit g).2
    · cases h
  · rename_i g
    split at h
    · rename_i k
      cases h
      obtain ⟨h1, h2⟩ := atC_hit g
      rw [(now_id hd h1 k).1, h2]
    · cases h
theorem doL_fs (s : List Feat) {d : List Change} (hd : ∀ c ∈ d, changeOk c = true) : FS (doL s d) := by
  unfold FS doL
  refine List.Pairwise.filterMap _ (fun x y hxy f hf g hg => ?_) (uniq_ss (ids s ++ idsC d))
  rw [doAt_id hd hf, doAt_id hd hg]; exact hxy
def Mem (s : List Feat) (d : List Change) (f : Feat) : Prop := (f ∈ s ∧ f.Id ∉ idsC d) ∨ ∃ c ∈ d, c.Has = true ∧ c.Now = f
theorem doL_mem {s : List Feat} {d : List Change} (hs : FS s) (hc : CS d) (hd : ∀ c ∈ d, changeOk c = true) (f : Feat) : f ∈ doL s d ↔ Mem s d f := by
  unfold doL Mem
  rw [List.mem_filterMap]
  constructor
  · rintro ⟨id, _, h⟩
    have hid := doAt_id hd h
    unfold doAt at h
    split at h
    · rename_i g
      split at h
      · rename_i k
        cases h
        obtain ⟨k1, k2⟩ := sideOf_hit k
        exact .inl ⟨k1, by rw [k2]; exact atC_miss g⟩
      · cases h
    · rename_i g
      split at h
      · rename_i k
        cases h
        exact .inr ⟨_, (atC_hit g).1, k, rfl⟩
      · cases h
  · rintro (⟨h1, h2⟩ | ⟨c, h1, h2, rfl⟩)
    · refine ⟨f.Id, uniq_mem.2 (List.mem_append.2 (.inl (List.mem_map.2 ⟨f, h1, rfl⟩))), ?_⟩
      unfold doAt
      rw [if_pos (by
        apply Classical.byContradiction
        intro g
        exact h2 (atC_mem g)), sideOf_of hs h1, if_pos rfl]
    · have hid := (now_id hd h1 h2).1
      obtain ⟨g1, g2⟩ := atC_of hc h1
      refine ⟨c.Id, uniq_mem.2 (List.mem_append.2 (.inr (List.mem_map.2 ⟨c, h1, rfl⟩))), ?_⟩
      unfold doAt
      rw [if_neg g1, g2, if_pos h2]
theorem Mem.step {s : List Feat} {d : List Change} {u : Nat} (hu : u < d.length) (hc : CS d) (hd : ∀ c ∈ d, changeOk c = true) (f : Feat) :
    Mem s (d.take (u + 1)) f ↔ (Mem s (d.take u) f ∧ f.Id ≠ (nth d (u : Int)).Id) ∨ ((nth d (u : Int)).Has = true ∧ f = (nth d (u : Int)).Now) := by
  have e : idsC (d.take (u + 1)) = idsC (d.take u) ++ [(nth d (u : Int)).Id] := by rw [take_nth d hu, idsC_app]; rfl
  have hm : nth d (u : Int) ∈ d := nth_mem d hu
  have hlt : ∀ c ∈ d.take u, Op.bytesLess c.Id (nth d (u : Int)).Id = true := fun c hc' => by
    have h := hc
    rw [← List.take_append_drop u d] at h
    refine (List.pairwise_append.1 h).2.2 c hc' _ ?_
    rw [nth_nat d hu, List.drop_eq_getElem_cons hu]; exact List.mem_cons_self
  unfold Mem
  rw [e, take_nth d hu]
  constructor
  · rintro (⟨h1, h2⟩ | ⟨c, h1, h2, rfl⟩)
    · rw [List.mem_append, List.mem_singleton] at h2
      exact .inl ⟨.inl ⟨h1, fun h => h2 (.inl h)⟩, fun h => h2 (.inr h)⟩
    · rcases List.mem_append.1 h1 with h1 | h1
      · refine .inl ⟨.inr ⟨c, h1, h2, rfl⟩, fun h => ?_⟩
        rw [(now_id hd (List.mem_of_mem_take h1) h2).1] at h
        have := hlt c h1
        rw [h, less_irr] at this; cases this
      · rw [List.mem_singleton] at h1
        subst h1
        exact .inr ⟨h2, rfl⟩
  · rintro (⟨h1 | ⟨c, h1, h2, rfl⟩, h3⟩ | ⟨h1, rfl⟩)
    · refine .inl ⟨h1.1, fun h => ?_⟩
      rcases List.mem_append.1 h with h | h
      · exact h1.2 h
      · exact h3 (List.mem_singleton.1 h)
    · exact .inr ⟨c, List.mem_append_left _ h1, h2, rfl⟩
    · exact .inr ⟨_, List.mem_append_right _ (List.mem_singleton.2 rfl), h1, rfl⟩
theorem Mem.zero (s : List Feat) (d : List Change) (f : Feat) : Mem s (d.take 0) f ↔ f ∈ s := by
  unfold Mem
  simp [idsC]
theorem doL_len {s : List Feat} {d : List Change} (hs : sheetOk s = true) (hd : diffOk d = true) : (doL s d).length ≤ 24 := by
  unfold doL
  have h1 := List.length_filterMap_le (doAt s d) (uniq (ids s ++ idsC d))
  have h2 := uniq_len (ids s ++ idsC d)
  have h3 : (ids s ++ idsC d).length = s.length + d.length := by unfold ids idsC; simp
  have := (sheet_ss hs).2.1; have := (diff_cs hd).2.1
  omega
theorem doL_ok {s : List Feat} {d : List Change} (hs : sheetOk s = true) (hd : diffOk d = true) : ∀ f ∈ doL s d, featOk f = true := fun f hf => by
  rcases (doL_mem (sheet_fs hs) (diff_cs hd).1 (diff_cs hd).2.2 f).1 hf with h | ⟨c, h1, h2, rfl⟩
  · exact (sheet_ss hs).2.2 f h.1
  · exact (now_id (diff_cs hd).2.2 h1 h2).2
theorem doL_small {s : List Feat} {d : List Change} (hs : sheetOk s = true) (hd : diffOk d = true) : bulk (doL s d) ≤ 3000 := by
  have h1 := bulk_small (doL s d) 100 fun f hf => (feat_small (doL_ok hs hd f hf)).1
  have h2 := doL_len hs hd
  have : (doL s d).length * (100 + 1) ≤ 24 * 101 := Nat.mul_le_mul h2 (Nat.le_refl _)
  omega
theorem diffDo_small (s : List Feat) (d : List Change) : bulk (diffDo s d).1 ≤ 3000 := by
  unfold diffDo
  split
  · rename_i h
    simp only [Bool.and_eq_true] at h
    exact doL_small h.1.1.1 h.1.1.2
  · exact Nat.zero_le _
theorem del_mem {xs : List Feat} (hn : (ids xs).Nodup) {k : Nat} (hk : k < xs.length) : (ids (xs.take k ++ xs.drop (k + 1))).Nodup ∧ (∀ f, f ∈ xs.take k ++ xs.drop (k + 1) ↔ f ∈ xs ∧ f.Id ≠ xs[k].Id) ∧ (xs.take k ++ xs.drop (k + 1)).length < xs.length := by
  have e : xs = xs.take k ++ xs[k] :: xs.drop (k + 1) := by rw [← List.drop_eq_getElem_cons hk, List.take_append_drop]
  have hn' := hn
  rw [e] at hn'
  unfold ids at hn' ⊢
  rw [List.map_append, List.map_cons] at hn'
  obtain ⟨n1, n2, n3⟩ := List.nodup_append.1 hn'
  obtain ⟨n4, n5⟩ := List.nodup_cons.1 n2
  refine ⟨?_, fun f => ?_, by simp only [List.length_append, List.length_take, List.length_drop]; omega⟩
  · rw [List.map_append]
    exact List.nodup_append.2 ⟨n1, n5, fun a ha b hb => n3 a ha b (List.mem_cons_of_mem _ hb)⟩
  · constructor
    · intro hf
      rcases List.mem_append.1 hf with hf | hf
      · exact ⟨List.mem_of_mem_take hf, fun h => n3 _ (List.mem_map.2 ⟨f, hf, rfl⟩) _ List.mem_cons_self h⟩
      · exact ⟨List.mem_of_mem_drop hf, fun h => n4 (by rw [← h]; exact List.mem_map.2 ⟨f, hf, rfl⟩)⟩
    · rintro ⟨hf, hne⟩
      rw [e] at hf
      rcases List.mem_append.1 hf with hf | hf
      · exact List.mem_append_left _ hf
      · rcases List.mem_cons.1 hf with rfl | hf
        · exact absurd rfl hne
        · exact List.mem_append_right _ hf
theorem tags_ss {t : List Tag} (h : tagsOk t = true) : SS (keysT t) := by
  have h1 := allN_iff.1 h
  have hadj : ∀ k, 0 < k → k < t.length → Op.bytesLess (nth t ((k : Int) - 1)).Key (nth t (k : Int)).Key = true := fun k h0 hk => by
    have := h1 k hk
    simp only [Bool.and_eq_true, Bool.or_eq_true, decide_eq_true_eq] at this
    rcases this.2 with h | h
    · omega
    · exact h
  unfold SS keysT
  rw [List.pairwise_map]
  refine List.pairwise_iff_getElem.2 fun i j hi hj hij => ?_
  have key : ∀ d, i + d + 1 < t.length → Op.bytesLess t[i].Key (nth t ((i + d + 1 : Nat) : Int)).Key = true := by
    intro d
    induction d with
    | zero =>
      intro hd
      have := hadj (i + 0 + 1) (by omega) hd
      rw [show (((i + 0 + 1 : Nat) : Int) - 1) = (i : Int) by omega, nth_nat t hi] at this
      exact this
    | succ d ih =>
      intro hd
      have := hadj (i + (d + 1) + 1) (by omega) hd
      rw [show (((i + (d + 1) + 1 : Nat) : Int) - 1) = ((i + d + 1 : Nat) : Int) by omega] at this
      exact less_trans (ih (by omega)) this
  have := key (j - i - 1) (by omega)
  rw [show i + (j - i - 1) + 1 = j by omega, nth_nat t hj] at this
  exact this
theorem featOk_tags {f : Feat} (h : featOk f = true) : SS (keysT f.Tags) := by
  unfold featOk at h
  simp only [Bool.and_eq_true] at h
  exact tags_ss h.1.1.1
theorem tagsOk_of {t : List Tag} (hs : SS (keysT t)) (hw : ∀ x ∈ t, wordOk x.Key = true ∧ wordOk x.Val = true) : tagsOk t = true := by
  unfold tagsOk
  refine allN_true fun k hk => ?_
  obtain ⟨h1, h2⟩ := hw _ (nth_mem t hk)
  rw [h1, h2, Bool.true_and, Bool.true_and, Bool.or_eq_true, decide_eq_true_eq]
  rcases Nat.eq_zero_or_pos k with h0 | h0
  · exact .inl h0
  refine .inr ?_
  unfold SS keysT at hs
  have := List.pairwise_iff_getElem.1 (List.pairwise_map.1 hs) (k - 1) k (by omega) hk (by omega)
  rw [show ((k : Int) - 1) = ((k - 1 : Nat) : Int) by omega, nth_nat t hk, nth_nat t (by omega)]
  exact this
theorem shape_pos {s : Shape} (h : shapeOk s = true) : 1 ≤ s.Pts.length := by
  unfold shapeOk kindOk at h
  simp only [Bool.and_eq_true] at h
  have := h.2
  split at this
  · simp only [decide_eq_true_eq] at this; omega
  · split at this
    · simp only [Bool.and_eq_true, decide_eq_true_eq] at this; omega
    · split at this
      · simp only [Bool.and_eq_true, decide_eq_true_eq] at this; omega
      · cases this
theorem dot_ok {x y : Int} (h1 : 0 ≤ x) (h2 : x ≤ 5) (h3 : 0 ≤ y) (h4 : y ≤ 5) : shapeOk ⟨1, [⟨x, y⟩]⟩ = true := by
  have e : ptOk (⟨x, y⟩ : Pt) = true := by
    unfold ptOk inR
    simp only [Bool.and_eq_true, decide_eq_true_eq]; omega
  unfold shapeOk ptsOk kindOk
  rw [Bool.and_eq_true]
  refine ⟨allN_true fun k hk => ?_, by rw [if_pos rfl]; rfl⟩
  have hk : k < 1 := hk
  obtain rfl : k = 0 := by omega
  rw [Bool.and_eq_true]
  exact ⟨e, rfl⟩
def keyL : List Str := [[110, 97, 109, 101], [107, 105, 110, 100], [117, 115, 101], [116, 111, 110, 101]]
def valL : List Str := [[97], [98], [111, 97, 107], [97, 115, 104], [114, 111, 97, 100]]
def idL : List Str := [[97], [98], [99], [100], [101]]
def DT (x : Tag) : Prop := x.Key ∈ keyL ∧ x.Val ∈ valL
theorem keyL_ok : ∀ k ∈ keyL, wordOk k = true := by decide
theorem valL_ok : ∀ k ∈ valL, wordOk k = true := by decide
theorem idL_ok : ∀ k ∈ idL, wordOk k = true := by decide
def plainK (k : Str) : Prop := k ≠ [97, 97, 97] ∧ k ≠ [122, 122, 122]
theorem keyL_plain : ∀ k ∈ keyL, plainK k := by
  intro k hk
  simp only [keyL, List.mem_cons, List.not_mem_nil, or_false] at hk
  unfold plainK
  rcases hk with rfl | rfl | rfl | rfl <;> decide
theorem feat_of {id : Str} {s : Shape} {t : List Tag} (h1 : wordOk id = true) (h2 : shapeOk s = true) (h3 : SS (keysT t)) (h4 : t.length ≤ 4) (h5 : ∀ x ∈ t, wordOk x.Key = true ∧ wordOk x.Val = true) : featOk ⟨id, s, t⟩ = true := by
  unfold featOk
  dsimp only
  rw [tagsOk_of h3 h5, h1, h2, decide_eq_true h4]; rfl
structure FB (n : Nat) (f : Feat) : Prop where
  id : f.Id.length ≤ 7
  pts : f.Shape.Pts.length ≤ 7
  len : f.Tags.length ≤ n
  wd : ∀ x ∈ f.Tags, x.Key.length ≤ 6 ∧ x.Val.length ≤ 6
theorem FB.small {n : Nat} {f : Feat} (h : FB n f) : bulk f ≤ 14 + 13 * n := by
  have e : bulk f = bulk f.Id + (0 + bulk f.Shape.Pts) + bulk f.Tags := rfl
  have e2 : bulk f.Id = f.Id.length := bulk_str _
  have e3 : bulk f.Shape.Pts = f.Shape.Pts.length := bulk_flat (fun _ => rfl) _
  have hs := bulk_small f.Tags 12 fun t ht => by
    have := h.wd t ht
    have e : bulk t = bulk t.Key + bulk t.Val := rfl
    rw [e, bulk_str, bulk_str]; omega
  have : f.Tags.length * (12 + 1) ≤ n * 13 := Nat.mul_le_mul h.len (Nat.le_refl _)
  have := h.id; have := h.pts
  omega
theorem FB.of {f : Feat} (h : featOk f = true) : FB 4 f := by
  have := feat_facts h
  exact ⟨by omega, by omega, this.1, this.2.2.2.2⟩
theorem FB.mono {n m : Nat} {f : Feat} (h : FB n f) (hm : n ≤ m) : FB m f := ⟨h.id, h.pts, Nat.le_trans h.len hm, h.wd⟩
theorem DT.len {x : Tag} (h : DT x) : x.Key.length ≤ 6 ∧ x.Val.length ≤ 6 := ⟨word_len (keyL_ok _ h.1), word_len (valL_ok _ h.2)⟩
theorem DT.ok {x : Tag} (h : DT x) : wordOk x.Key = true ∧ wordOk x.Val = true := ⟨keyL_ok _ h.1, valL_ok _ h.2⟩
structure MB (n m : Nat) (s : List Feat) : Prop where
  len : s.length ≤ n
  fb : ∀ f ∈ s, FB m f
theorem MB.small {n m : Nat} {s : List Feat} (h : MB n m s) : bulk s ≤ n * (15 + 13 * m) := by
  have hs := bulk_small s (14 + 13 * m) fun f hf => (h.fb f hf).small
  have : s.length * (14 + 13 * m + 1) ≤ n * (15 + 13 * m) := Nat.mul_le_mul h.len (by omega)
  omega
theorem MB.of {s : List Feat} (h : sheetOk s = true) : MB 8 4 s := ⟨(sheet_ss h).2.1, fun f hf => FB.of ((sheet_ss h).2.2 f hf)⟩
theorem MB.mono {n n' m m' : Nat} {s : List Feat} (h : MB n m s) (h1 : n ≤ n') (h2 : m ≤ m') : MB n' m' s := ⟨Nat.le_trans h.len h1, fun f hf => (h.fb f hf).mono h2⟩
theorem sheet_of {s : List Feat} (h1 : SS (ids s)) (h2 : s.length ≤ 8) (h3 : ∀ f ∈ s, featOk f = true) : sheetOk s = true := by
  unfold sheetOk
  rw [Bool.and_eq_true]
  refine ⟨allN_true fun k hk => ?_, decide_eq_true h2⟩
  rw [Bool.and_eq_true, Bool.or_eq_true, decide_eq_true_eq]
  refine ⟨h3 _ (nth_mem s hk), ?_⟩
  rcases Nat.eq_zero_or_pos k with h0 | h0
  · exact .inl h0
  refine .inr ?_
  unfold SS ids at h1
  have := List.pairwise_iff_getElem.1 (List.pairwise_map.1 h1) (k - 1) k (by omega) hk (by omega)
  rw [show ((k : Int) - 1) = ((k - 1 : Nat) : Int) by omega, nth_nat s hk, nth_nat s (by omega)]
  exact this
def zzI : Str := [122, 122]
theorem idL_nz : ∀ k ∈ idL, k ≠ zzI := by
  intro k hk
  simp only [idL, List.mem_cons, List.not_mem_nil, or_false] at hk
  rcases hk with rfl | rfl | rfl | rfl | rfl <;> decide
structure MD (s : List Feat) : Prop where
  mb : MB 14 4 s
  nz : ∀ f ∈ s, f.Id ≠ zzI
theorem MD.small {s : List Feat} (h : MD s) : bulk s ≤ 1048576 := Nat.le_trans h.mb.small (by decide)
theorem diff_of {d : List Change} (h1 : CS d) (h2 : d.length ≤ 16) (h3 : ∀ c ∈ d, changeOk c = true) : diffOk d = true := by
  unfold diffOk
  rw [Bool.and_eq_true]
  refine ⟨allN_true fun k hk => ?_, decide_eq_true h2⟩
  rw [Bool.and_eq_true, Bool.or_eq_true, decide_eq_true_eq]
  refine ⟨h3 _ (nth_mem d hk), ?_⟩
  rcases Nat.eq_zero_or_pos k with h0 | h0
  · exact .inl h0
  refine .inr ?_
  have := List.pairwise_iff_getElem.1 h1 (k - 1) k (by omega) hk (by omega)
  rw [show ((k : Int) - 1) = ((k - 1 : Nat) : Int) by omega, nth_nat d hk, nth_nat d (by omega)]
  exact this
theorem diff_sub {d e : List Change} (h : diffOk d = true) (hs : e.Sublist d) : diffOk e = true := by
  obtain ⟨h1, h2, h3⟩ := diff_cs h
  exact diff_of (List.Pairwise.sublist hs h1) (Nat.le_trans hs.length_le h2) fun c hc => h3 c (hs.subset hc)
theorem doL_len2 (s : List Feat) (d : List Change) : (doL s d).length ≤ s.length + d.length := by
  unfold doL
  have h1 := List.length_filterMap_le (doAt s d) (uniq (ids s ++ idsC d))
  have h2 := uniq_len (ids s ++ idsC d)
  have h3 : (ids s ++ idsC d).length = s.length + d.length := by unfold ids idsC; simp
  omega
theorem doL_iff {s : List Feat} {d : List Change} (hs : sheetOk s = true) (hd : diffOk d = true) : sheetOk (doL s d) = decide ((doL s d).length ≤ 8) := by
  by_cases h : (doL s d).length ≤ 8
  · rw [decide_eq_true h]
    exact sheet_of (doL_fs s (diff_cs hd).2.2).toIds h (doL_ok hs hd)
  · rw [decide_eq_false h]
    cases g : sheetOk (doL s d) with
    | false => rfl
    | true => exact absurd (sheet_ss g).2.1 h
theorem sideOf_eq {l m : List Feat} (hl : FS l) (hm : FS m) {i : Str} (h : ∀ f, f.Id = i → (f ∈ l ↔ f ∈ m)) : sideOf l i = sideOf m i := by
  cases g : (sideOf l i).2 with
  | true =>
    obtain ⟨h1, h2⟩ := sideOf_hit g
    have h3 := sideOf_of hm ((h _ h2).1 h1)
    rw [h2] at h3
    rw [h3]; exact Prod.ext rfl g
  | false =>
    obtain ⟨h1, h2⟩ := sideOf_no g
    have h3 : (sideOf m i).2 = false := by
      cases k : (sideOf m i).2 with
      | false => rfl
      | true =>
        obtain ⟨k1, k2⟩ := sideOf_hit k
        exact absurd (List.mem_map.2 ⟨_, (h _ k2).2 k1, k2⟩) h2
    exact Prod.ext (h1.trans (sideOf_no h3).1.symm) (g.trans h3.symm)
theorem idsC_mem {d : List Change} {i : Str} : i ∈ idsC d ↔ ∃ c ∈ d, c.Id = i := List.mem_map
theorem doL_two {s : List Feat} {d1 d2 d : List Change} (hs : sheetOk s = true) (h1 : diffOk d1 = true) (h2 : diffOk d2 = true) (hd : diffOk d = true) (hdj : ∀ a ∈ d1, ∀ b ∈ d2, a.Id ≠ b.Id) (hu : ∀ c, c ∈ d ↔ c ∈ d1 ∨ c ∈ d2) : doL (doL s d1) d2 = doL s d := by
  have fs := sheet_fs hs
  have c1 := diff_cs h1; have c2 := diff_cs h2; have c := diff_cs hd
  have f1 := doL_fs s c1.2.2
  have hi : ∀ i, i ∈ idsC d ↔ i ∈ idsC d1 ∨ i ∈ idsC d2 := fun i => by
    rw [idsC_mem, idsC_mem, idsC_mem]
    constructor
    · rintro ⟨x, hx, e⟩
      rcases (hu x).1 hx with g | g
      · exact .inl ⟨x, g, e⟩
      · exact .inr ⟨x, g, e⟩
    · rintro (⟨x, hx, e⟩ | ⟨x, hx, e⟩)
      · exact ⟨x, (hu x).2 (.inl hx), e⟩
      · exact ⟨x, (hu x).2 (.inr hx), e⟩
  refine FS.ext (doL_fs _ c2.2.2) (doL_fs _ c.2.2) fun f => ?_
  rw [doL_mem f1 c2.1 c2.2.2, doL_mem fs c.1 c.2.2]
  unfold Mem
  rw [doL_mem fs c1.1 c1.2.2, hi]
  unfold Mem
  constructor
  · rintro (⟨⟨g1, g2⟩ | ⟨x, g1, g2, rfl⟩, g3⟩ | ⟨x, g1, g2, rfl⟩)
    · exact .inl ⟨g1, fun h => h.elim g2 g3⟩
    · exact .inr ⟨x, (hu x).2 (.inl g1), g2, rfl⟩
    · exact .inr ⟨x, (hu x).2 (.inr g1), g2, rfl⟩
  · rintro (⟨g1, g2⟩ | ⟨x, g1, g2, rfl⟩)
    · exact .inl ⟨.inl ⟨g1, fun h => g2 (.inl h)⟩, fun h => g2 (.inr h)⟩
    · rcases (hu x).1 g1 with k | k
      · refine .inl ⟨.inr ⟨x, k, g2, rfl⟩, fun h => ?_⟩
        obtain ⟨y, hy, e⟩ := idsC_mem.1 h
        rw [(now_id c1.2.2 k g2).1] at e
        exact hdj x k y hy e.symm
      · exact .inr ⟨x, k, g2, rfl⟩
theorem fits_two {s : List Feat} {d1 : List Change} (hs : sheetOk s = true) (h1 : diffOk d1 = true) {c : Change} (hc : c.Id ∉ idsC d1) : fits (doL s d1) c = fits s c := by
  have c1 := diff_cs h1
  unfold fits
  rw [sideOf_eq (doL_fs s c1.2.2) (sheet_fs hs) fun f e => by
    rw [doL_mem (sheet_fs hs) c1.1 c1.2.2]
    unfold Mem
    constructor
    · rintro (⟨g, _⟩ | ⟨x, g1, g2, rfl⟩)
      · exact g
      · rw [(now_id c1.2.2 g1 g2).1] at e
        exact absurd (idsC_mem.2 ⟨x, g1, e⟩) hc
    · intro g; exact .inl ⟨g, by rw [e]; exact hc⟩]
theorem diffDo_of {s : List Feat} {d : List Change} (h : (diffDo s d).2 = true) : sheetOk s = true ∧ diffOk d = true ∧ (∀ c ∈ d, fits s c = true) ∧ sheetOk (doL s d) = true ∧ diffDo s d = (doL s d, true) := by
  unfold diffDo at h ⊢
  split at h
  · rename_i g
    rw [if_pos g]
    simp only [Bool.and_eq_true, List.all_eq_true] at g
    exact ⟨g.1.1.1, g.1.1.2, g.1.2, g.2, rfl⟩
  · cases h
theorem diffDo_yes {s : List Feat} {d : List Change} (h1 : sheetOk s = true) (h2 : diffOk d = true) (h3 : ∀ c ∈ d, fits s c = true) (h4 : sheetOk (doL s d) = true) : diffDo s d = (doL s d, true) := by
  unfold diffDo
  rw [h1, h2, h4, show d.all (fits s) = true from List.all_eq_true.2 h3]; rfl
theorem diffDo_part {s : List Feat} {d1 d2 d : List Change} (h : (diffDo s d).2 = true) (s1 : d1.Sublist d) (s2 : d2.Sublist d) (hdj : ∀ a ∈ d1, ∀ b ∈ d2, a.Id ≠ b.Id) (hu : ∀ c, c ∈ d ↔ c ∈ d1 ∨ c ∈ d2) :
    ((diffDo s d1).2 = true → diffDo (diffDo s d1).1 d2 = (doL s d, true)) ∧ ((diffDo s d1).2 = false → 8 < s.length + d1.length) := by
  obtain ⟨ks, kd, kf, ko, _⟩ := diffDo_of h
  have k1 := diff_sub kd s1; have k2 := diff_sub kd s2
  constructor
  · intro g
    obtain ⟨_, _, _, g4, g5⟩ := diffDo_of g
    rw [g5]
    dsimp only
    have e := doL_two ks k1 k2 kd hdj hu
    rw [diffDo_yes g4 k2 (fun c hc => ?_) (by rw [e]; exact ko), e]
    rw [fits_two ks k1 fun hm => ?_]
    · exact kf c ((hu c).2 (.inr hc))
    · obtain ⟨x, hx, ex⟩ := idsC_mem.1 hm
      exact hdj x hx c hc ex
  · intro g
    have hl := doL_len2 s d1
    have hn : sheetOk (doL s d1) = false := by
      cases k : sheetOk (doL s d1) with
      | false => rfl
      | true => rw [diffDo_yes ks k1 (fun c hc => kf c (s1.subset hc)) k] at g; cases g
    rw [doL_iff ks k1, decide_eq_false_iff_not] at hn
    omega
theorem F44.law (code : List UInt8) (Q : List UInt8 → Int → Prop) (hq : ∀ b, b.length ≤ 2000 → Q b 0) : F44.E code Q := by
 unfold F44.E
 by_cases h : (code.length : Int) > 2000
 ·rw [if_pos (by simpa using h)]
  exact ⟨by omega, hq _ (by rw [List.length_take]; omega)⟩
 ·rw [if_neg (by simpa using h)]
  exact hq _ (by omega)
theorem ediv_le {p l : Int} (hp : 0 ≤ p) (hl : 0 < l) : 0 ≤ p / l ∧ p / l ≤ p := ⟨Int.ediv_nonneg hp (by omega), Int.ediv_le_self _ hp⟩
theorem F15.law (b : List UInt8) (p n : Int) (Q : Int → Int → Prop) (hb : b.length ≤ 2000) (hp : 0 ≤ p) (hp1 : p ≤ 1099511627776) (hq : ∀ v, 0 ≤ v → (v < n ∨ v = 0) → Q v (p + 1)) : F15.E b p n Q := by
 unfold F15.E
 refine ⟨by unfold I64; omega, ?_⟩
 by_cases hn : n < 1
 ·rw [if_pos (by simpa using hn)]; exact hq 0 (by omega) (.inr rfl)
 rw [if_neg (by simpa using hn)]
 by_cases hl : (b.length : Int) = 0
 ·rw [if_pos (by simpa using hl)]; exact hq 0 (by omega) (.inr rfl)
 rw [if_neg (by simpa using hl)]
 refine ⟨fun _ => by unfold I64; omega, ?_⟩
 rw [show p + 1 - 1 = p by omega]
 have fin : ∀ z : Int, 0 ≤ z → Q (z % n) (p + 1) := fun z hz => hq _ (Int.emod_nonneg _ (by omega)) (.inl (Int.emod_lt_of_pos _ (by omega)))
 by_cases hc : p < (b.length : Int)
 ·rw [if_pos (by simpa using hc)]
  exact ⟨by omega, ⟨by omega, by omega⟩, fin _ (by omega)⟩
 rw [if_neg (by simpa using hc)]
 have hlen : (0 : Int) < (b.length : Int) := by omega
 generalize hL : (b.length : Int) = L at *
 have m1 := Int.emod_nonneg p (show L ≠ 0 by omega)
 have m2 := Int.emod_lt_of_pos p hlen
 have m3 := Int.emod_nonneg (p * 7 + 3) (show L ≠ 0 by omega)
 have m4 := Int.emod_lt_of_pos (p * 7 + 3) hlen
 obtain ⟨d1, d2⟩ := ediv_le hp hlen
 generalize p % L = r1 at *
 generalize (p * 7 + 3) % L = r2 at *
 generalize p / L = q at *
 have u1 := (nth b r1).toNat_lt
 have u2 := (nth b r2).toNat_lt
 generalize (nth b r1).toNat = x1 at *
 generalize (nth b r2).toNat = x2 at *
 have s0 : 0 ≤ (x1 : Int) * 131 + (x2 : Int) * 1117 + p * 29 + q * 53 := by omega
 have s1 : (x1 : Int) * 131 + (x2 : Int) * 1117 + p * 29 + q * 53 ≤ 9223372036854775807 := by omega
 refine ⟨by omega, by omega, fun _ => by unfold I64; omega, fun _ => by unfold I64; omega, fun _ => by unfold I64; omega, by omega, by omega, fun _ => by unfold I64; omega, fun _ => by unfold I64; omega, fun _ => by unfold I64; omega, fun _ => by unfold I64; omega, by omega, fun _ => by unfold I64; omega, fun _ => by unfold I64; omega, by omega, ?_⟩
 generalize (x1 : Int) * 131 + (x2 : Int) * 1117 + p * 29 + q * 53 = s at *
 have hx : 0 ≤ xor64 s (s / 64) := xor64_nonneg ⟨s0, s1⟩ (by omega)
 exact ⟨by omega, fin _ hx⟩
theorem F25.law (b : List UInt8) (p : Int) (l : List Int) (Q : Int → Int → Prop) (hb : b.length ≤ 2000) (hp : 0 ≤ p) (hp1 : p ≤ 1099511627776) (hl : 0 < l.length) (hq : ∀ s ∈ l, Q s (p + 1)) : F25.E b p l Q := by
 unfold F25.E
 exact F15.law _ _ _ _ hb hp hp1 fun v h0 h1 => ⟨by omega, hq _ (nth_memi l h0 (by omega))⟩
theorem F105.law (b : List UInt8) (p : Int) (Q : Pt → Int → Prop) (hb : b.length ≤ 2000) (hp : 0 ≤ p) (hp1 : p ≤ 1000000000) (hq : ∀ x y, 0 ≤ x → x ≤ 3 → 0 ≤ y → y ≤ 5 → Q ⟨x, y⟩ (p + 2)) : F105.E b p Q := by
 unfold F105.E
 refine F15.law _ _ _ _ hb hp (by omega) fun v h0 h1 => F25.law _ _ _ _ hb (by omega) (by omega) (by decide) fun y hy => ?_
 rw [show p + 1 + 1 = p + 2 by omega]
 simp only [List.mem_cons, List.not_mem_nil, or_false] at hy
 exact hq _ _ h0 (by omega) (by omega) (by omega)
theorem F91.m_is (a b : Int) : F91.m a b = min a b := by
 unfold F91.m
 by_cases h : a < b
 ·simp [h]; omega
 ·simp [h]; omega
theorem F92.m_is (n : Int) : F92.m n = inR n := by
 unfold F92.m inR
 by_cases h : -1000 ≤ n
 ·rw [if_pos (by rw [decide_eq_true_eq]; omega), decide_eq_true h, Bool.true_and]
 ·rw [if_neg (by rw [decide_eq_true_eq]; omega), decide_eq_false h, Bool.false_and]
theorem F93.law (p : List Pt) (Q : Bool → Prop) (hq : Q (ptsOk p && decide (p.length ≤ 6))) : F93.E p Q := by
 unfold F93.E
 unfold ptsOk at hq
 refine loop_all p.length (fun k => ptOk (nth p (k : Int)) && (decide (k = 0) || !(decide (nth p ((k : Int) - 1) = nth p (k : Int))))) (fun I mu k hk hp hn => ?_) (fun ha => ?_)
 ·refine ⟨by omega, ?_⟩
  rw [F92.m_is, F92.m_is]
  have bad : (ptOk (nth p (k : Int)) && (decide (k = 0) || !(decide (nth p ((k : Int) - 1) = nth p (k : Int))))) = false → Q false := fun h => by
   rw [allN_false hk h, Bool.false_and] at hq; exact hq
  cases h1 : inR (nth p (k : Int)).X with
  | false => rw [if_pos (by decide)]; exact bad (by simp only [ptOk, h1, Bool.false_and])
  | true =>
   rw [if_neg (by decide)]
   refine ⟨by omega, ?_⟩
   cases h2 : inR (nth p (k : Int)).Y with
   | false => rw [if_pos (by decide)]; exact bad (by simp only [ptOk, h2, Bool.and_false, Bool.false_and])
   | true =>
    rw [if_neg (by decide)]
    have hpt : ptOk (nth p (k : Int)) = true := by simp only [ptOk, h1, h2, Bool.and_self]
    by_cases hk0 : k = 0
    ·rw [if_neg (by rw [decide_eq_true_eq]; omega)]
     obtain ⟨i1, i2⟩ := hn (by rw [hpt, decide_eq_true hk0]; rfl)
     exact ⟨by omega, i1, i2⟩
    ·rw [if_pos (by rw [decide_eq_true_eq]; omega)]
     refine ⟨by omega, fun _ => by unfold I64; omega, by omega, ?_⟩
     rw [eqPt_is]
     by_cases he : nth p ((k : Int) - 1) = nth p (k : Int)
     ·rw [if_pos (by rw [decide_eq_true_eq]; exact he.symm)]
      exact bad (by rw [hpt, decide_eq_false hk0, decide_eq_true he]; rfl)
     ·rw [if_neg (by rw [decide_eq_true_eq]; exact fun e => he e.symm)]
      obtain ⟨i1, i2⟩ := hn (by rw [hpt, decide_eq_false hk0, decide_eq_false he]; rfl)
      exact ⟨by omega, i1, i2⟩
 ·rw [allN_true ha, Bool.true_and] at hq
  have e2 : decide ((p.length : Int) ≤ 6) = decide (p.length ≤ 6) := decide_eq_decide.2 (by omega)
  rw [e2]; exact hq
theorem F45.law (s : Shape) (Q : Bool → Prop) (hq : Q (shapeOk s)) : F45.E s Q := by
 unfold F45.E
 unfold shapeOk at hq
 refine F93.law _ _ ?_
 cases h1 : ptsOk s.Pts with
 | false => rw [h1, Bool.false_and] at hq; rw [Bool.false_and, if_pos (by decide)]; exact hq
 | true =>
  rw [h1, Bool.true_and] at hq
  rw [Bool.true_and]
  unfold kindOk at hq
  by_cases h6 : s.Pts.length ≤ 6
  ·rw [decide_eq_true h6, if_neg (by decide)]
   by_cases k1 : s.Kind = 1
   ·rw [if_pos k1] at hq
    rw [if_pos (by rw [beq_iff_eq]; exact k1)]
    have : ((s.Pts.length : Int) == 1) = decide (s.Pts.length = 1) := by rw [Bool.eq_iff_iff, beq_iff_eq, decide_eq_true_eq]; omega
    rw [this]; exact hq
   rw [if_neg k1] at hq
   rw [if_neg (by rw [beq_iff_eq]; exact k1)]
   by_cases k2 : s.Kind = 2
   ·rw [if_pos k2, decide_eq_true h6, Bool.and_true] at hq
    rw [if_pos (by rw [beq_iff_eq]; exact k2)]
    have : decide ((s.Pts.length : Int) ≥ 2) = decide (2 ≤ s.Pts.length) := decide_eq_decide.2 (by omega)
    rw [this]; exact hq
   rw [if_neg k2] at hq
   rw [if_neg (by rw [beq_iff_eq]; exact k2)]
   by_cases k3 : s.Kind = 3
   ·rw [if_pos k3, decide_eq_true h6, Bool.and_true] at hq
    rw [if_pos (by rw [beq_iff_eq]; exact k3)]
    by_cases h3 : 3 ≤ s.Pts.length
    ·rw [decide_eq_true h3, Bool.true_and] at hq
     rw [if_pos (by rw [decide_eq_true_eq]; omega), eqPt_is]
     exact ⟨by omega, fun _ => by unfold I64; omega, by omega, hq⟩
    ·rw [decide_eq_false h3, Bool.false_and] at hq
     rw [if_neg (by rw [decide_eq_true_eq]; omega)]; exact hq
   ·rw [if_neg k3] at hq
    rw [if_neg (by rw [beq_iff_eq]; exact k3)]; exact hq
  ·rw [decide_eq_false h6, if_pos (by decide)]
   have : (if s.Kind = 1 then decide (s.Pts.length = 1) else if s.Kind = 2 then decide (2 ≤ s.Pts.length) && decide (s.Pts.length ≤ 6)
 else if s.Kind = 3 then decide (3 ≤ s.Pts.length) && decide (s.Pts.length ≤ 6) && !(decide (nth s.Pts 0 = nth s.Pts ((s.Pts.length : Int) - 1))) else false) = false := by
    rw [decide_eq_false h6, decide_eq_false (show ¬ s.Pts.length = 1 by omega)]
    simp
   rw [this] at hq; exact hq
theorem F46.law (b : List UInt8) (p : Int) (Q : Shape → Int → Prop) (hb : b.length ≤ 2000) (hp : 0 ≤ p) (hp1 : p ≤ 100000000) (hq : ∀ s p', shapeOk s = true → p ≤ p' → p' ≤ p + 40 → Q s p') : F46.E b p Q := by
 unfold F46.E
 refine F25.law _ _ _ _ hb hp (by omega) (by decide) fun k hk => F15.law _ _ _ _ hb (by omega) (by omega) fun v hv0 hv1 => ?_
 have hk' : 1 ≤ k ∧ k ≤ 3 := by
  simp only [List.mem_cons, List.not_mem_nil, or_false] at hk; omega
 have fin : ∀ (xs : List Pt) (z : Int), p ≤ z → z ≤ p + 30 → F45.E ⟨k, xs⟩ (fun r6 => (if !r6 then F105.E b z (fun r7 m4 => Q (⟨1, ([r7] : List Pt)⟩ : Shape) m4) else Q (⟨k, xs⟩ : Shape) z)) := fun xs z h1 h2 => by
  refine F45.law _ _ ?_
  cases h : shapeOk ⟨k, xs⟩ with
  | true => rw [if_neg (by decide)]; exact hq _ _ h h1 (by omega)
  | false => rw [if_pos (by decide)]; exact F105.law _ _ _ hb (by omega) (by omega) fun x y x0 x1 y0 y1 => hq _ _ (dot_ok x0 (by omega) y0 y1) (by omega) (by omega)
 refine ⟨by unfold I64; omega, fun w => 1 ≤ w ∧ w ≤ 6, by split <;> omega, ?_⟩
 rintro want ⟨w1, w2⟩
 refine ⟨fun i xs z => 0 ≤ i ∧ i ≤ 12 ∧ (xs.length : Int) ≤ i ∧ p + 2 ≤ z ∧ z ≤ p + 2 + 2 * i, fun i _ _ => (12 - i).toNat, ⟨by omega, by omega, by simp, by omega, by omega⟩, ?_⟩
 rintro i xs z ⟨h0, h1, h2, h3, h4⟩
 by_cases hi : i < 12
 case neg => rw [if_neg (by simpa using hi)]; exact fin _ _ (by omega) (by omega)
 rw [if_pos (by simpa using hi)]
 by_cases hl : (xs.length : Int) < F91.m want 6
 case neg => rw [if_neg (by simpa using hl)]; exact fin _ _ (by omega) (by omega)
 rw [if_pos (by simpa using hl)]
 refine F105.law _ _ _ hb (by omega) (by omega) fun x y x0 x1 y0 y1 => ⟨fun _ => True, ?_, fun v _ => ⟨fun ys => (ys.length : Int) ≤ i + 1, ?_, fun ys hys => ⟨by unfold I64; omega, ⟨by omega, by omega, hys, by omega, by omega⟩, by dsimp only; omega⟩⟩⟩
 ·by_cases h0 : (xs.length : Int) = 0
  ·rw [if_pos (by simpa using h0)]; trivial
  ·rw [if_neg (by simpa using h0)]
   refine ⟨fun _ => by unfold I64; omega, by omega, ?_⟩
   split
   ·split
    ·trivial
    ·exact ⟨by omega, trivial⟩
   ·trivial
 ·cases v with
  | true => rw [if_pos rfl]; exact ⟨by simp only [List.length_cons, List.length_nil]; omega, by simp only [List.length_append, List.length_cons, List.length_nil]; omega⟩
  | false => rw [if_neg (by decide)]; omega
theorem F33.law (b : List UInt8) (p : Int) (l : List Str) (Q : Str → Int → Prop) (hb : b.length ≤ 2000) (hp : 0 ≤ p) (hp1 : p ≤ 1099511627776) (hl : 0 < l.length) (hq : ∀ s ∈ l, Q s (p + 1)) : F33.E b p l Q := by
 unfold F33.E
 exact F15.law _ _ _ _ hb hp hp1 fun v h0 h1 => ⟨by omega, hq _ (nth_memi l h0 (by omega))⟩
theorem F94.law (b : List UInt8) (p : Int) (Q : Str → Int → Prop) (hb : b.length ≤ 2000) (hp : 0 ≤ p) (hp1 : p ≤ 1000000000) (hq : ∀ k ∈ keyL, Q k (p + 1)) : F94.E b p Q := by
 unfold F94.E
 exact F33.law _ _ _ _ hb hp (by omega) (by decide) hq
theorem F95.law (b : List UInt8) (p : Int) (Q : Str → Int → Prop) (hb : b.length ≤ 2000) (hp : 0 ≤ p) (hp1 : p ≤ 1000000000) (hq : ∀ k ∈ valL, Q k (p + 1)) : F95.E b p Q := by
 unfold F95.E
 exact F33.law _ _ _ _ hb hp (by omega) (by decide) hq
def PutT (s : List Tag) (key val : Str) (u : Nat) (xs : List Tag) (done : Bool) : Prop :=
 u ≤ s.length ∧ SS (keysT xs) ∧ (∀ x, x ∈ keysT xs ↔ x ∈ keysT (s.take u) ∨ (done = true ∧ x = key)) ∧ (done = false → (∀ x ∈ keysT (s.take u), Op.bytesLess x key = true) ∧ xs = s.take u) ∧
  (done = true → ∀ y ∈ keysT (s.drop u), Op.bytesLess key y = true) ∧ xs.length ≤ u + 1 ∧ (∀ z ∈ xs, z ∈ s ∨ z = ⟨key, val⟩)
theorem ss_snocT {l : List Str} {x : Str} (h : SS l) (hx : ∀ y ∈ l, Op.bytesLess y x = true) : SS (l ++ [x]) := by
 unfold SS
 rw [List.pairwise_append]
 exact ⟨h, List.pairwise_singleton _ _, fun a ha b hb => by rw [List.mem_singleton.1 hb]; exact hx a ha⟩
theorem keys_take {s : List Tag} {u : Nat} (hu : u < s.length) : keysT (s.take (u + 1)) = keysT (s.take u) ++ [(nth s (u : Int)).Key] := by rw [take_nth s hu, keys_app]; rfl
theorem keys_cut (s : List Tag) (u : Nat) : keysT s = keysT (s.take u) ++ keysT (s.drop u) := by rw [← keys_app, List.take_append_drop]
theorem dropNthT {s : List Tag} {u : Nat} (hu : u < s.length) : s.drop u = nth s (u : Int) :: s.drop (u + 1) := by rw [nth_nat s hu]; exact List.drop_eq_getElem_cons hu
theorem ss_ltT {s : List Tag} (h : SS (keysT s)) {u : Nat} (hu : u < s.length) : (∀ x ∈ keysT (s.take u), Op.bytesLess x (nth s (u : Int)).Key = true) ∧ ∀ y ∈ keysT (s.drop (u + 1)), Op.bytesLess (nth s (u : Int)).Key y = true := by
 have e := keys_cut s u
 rw [dropNthT hu] at e
 have e2 : keysT (nth s (u : Int) :: s.drop (u + 1)) = (nth s (u : Int)).Key :: keysT (s.drop (u + 1)) := rfl
 rw [e2] at e
 rw [e] at h
 obtain ⟨h1, h2, h3⟩ := List.pairwise_append.1 h
 exact ⟨fun x hx => h3 x hx _ List.mem_cons_self, (List.pairwise_cons.1 h2).1⟩
theorem F96.law (s : List Tag) (key val : Str) (Q : List Tag → Prop) (hl : s.length ≤ 1048576) (hs : SS (keysT s)) (hq : ∀ r, SS (keysT r) → (∀ x, x ∈ keysT r ↔ x ∈ keysT s ∨ x = key) → r.length ≤ s.length + 1 → (∀ z ∈ r, z ∈ s ∨ z = ⟨key, val⟩) → Q r) : F96.E s key val Q := by
 unfold F96.E
 refine ⟨fun xs done i => ∃ u : Nat, i = u ∧ PutT s key val u xs done, fun _ _ i => (s.length - i).toNat, ⟨0, rfl, Nat.zero_le _, by simp [keysT, SS], by simp [keysT], fun _ => ⟨by simp [keysT], by simp⟩, (fun h => by cases h), by simp, by simp⟩, ?_⟩
 rintro xs done _ ⟨u, rfl, hu, h1, h2, h3, h4, h5, h6⟩
 by_cases h : u < s.length
 ·rw [if_pos (by simpa using h)]
  obtain ⟨b1, b2⟩ := ss_ltT hs h
  have hin : nth s (u : Int) ∈ s := nth_mem s h
  have hdr : ∀ y ∈ keysT (s.drop u), y = (nth s (u : Int)).Key ∨ y ∈ keysT (s.drop (u + 1)) := fun y hy => by rw [dropNthT h] at hy; exact List.mem_cons.1 hy
  have hcur : (nth s (u : Int)).Key ∈ keysT (s.drop u) := by rw [dropNthT h]; exact List.mem_cons_self
  have hdr' : ∀ y ∈ keysT (s.drop (u + 1)), y ∈ keysT (s.drop u) := fun y hy => by rw [dropNthT h]; exact List.mem_cons_of_mem _ hy
  have stay : ∀ d, d = done → Op.bytesLess (nth s (u : Int)).Key key = true ∨ d = true → xs.length + 1 ≤ u + 1 + 1 → PutT s key val (u + 1) (xs ++ [nth s (u : Int)]) d := fun d hd hor hlen => by
   subst hd
   refine ⟨h, ?_, fun x => ?_, fun hdn => ⟨fun x hx => ?_, ?_⟩, fun hdn y hy => h4 hdn y (hdr' y hy), by simp only [List.length_append, List.length_singleton]; omega, fun z hz => ?_⟩
   ·rw [keys_app]
    refine ss_snocT h1 fun y hy => ?_
    rcases (h2 y).1 hy with hy | ⟨hd, rfl⟩
    ·exact b1 y hy
    ·exact h4 hd _ hcur
   ·rw [keys_app, List.mem_append, h2, keys_take h, List.mem_append]
    constructor
    ·rintro ((hx | hx) | hx)
     ·exact .inl (.inl hx)
     ·exact .inr hx
     ·exact .inl (.inr hx)
    ·rintro ((hx | hx) | hx)
     ·exact .inl (.inl hx)
     ·exact .inr hx
     ·exact .inl (.inr hx)
   ·rw [keys_take h] at hx
    rcases List.mem_append.1 hx with hx | hx
    ·exact (h3 hdn).1 x hx
    ·rw [List.mem_singleton.1 hx]
     rcases hor with hor | hor
     ·exact hor
     ·rw [hdn] at hor; cases hor
   ·rw [(h3 hdn).2, ← take_nth s h]
   ·rcases List.mem_append.1 hz with hz | hz
    ·exact h6 z hz
    ·rw [List.mem_singleton.1 hz]; exact .inl hin
  cases done with
  | true =>
   rw [if_neg (by decide)]
   have hlt := h4 rfl _ hcur
   have hne : (nth s (u : Int)).Key ≠ key := fun e => by rw [e, less_irr] at hlt; cases hlt
   refine ⟨by omega, ?_⟩
   rw [if_pos (by rw [bne_iff_ne]; exact hne)]
   exact ⟨by omega, by simp only [List.length_cons, List.length_nil]; omega, by omega, ⟨u + 1, by omega, stay true rfl (.inr rfl) (by omega)⟩, by dsimp only; omega⟩
  | false =>
   rw [if_pos (by decide)]
   obtain ⟨c1, c2⟩ := h3 rfl
   have hxl : xs.length = u := by rw [c2, List.length_take]; omega
   refine ⟨by omega, ?_⟩
   cases k : Op.bytesLess (nth s (u : Int)).Key key with
   | true =>
    rw [if_neg (by decide)]
    have hne : (nth s (u : Int)).Key ≠ key := fun e => by rw [e, less_irr] at k; cases k
    refine ⟨by omega, ?_⟩
    rw [if_pos (by rw [bne_iff_ne]; exact hne)]
    exact ⟨by omega, by simp only [List.length_cons, List.length_nil]; omega, by omega, ⟨u + 1, by omega, stay false rfl (.inl k) (by omega)⟩, by dsimp only; omega⟩
   | false =>
    rw [if_pos (by decide)]
    have g1 : SS (keysT (xs ++ [(⟨key, val⟩ : Tag)])) := by
     rw [keys_app]
     refine ss_snocT h1 fun y hy => ?_
     rcases (h2 y).1 hy with hy | ⟨hd, _⟩
     ·exact c1 y hy
     ·cases hd
    refine ⟨by simp only [List.length_cons, List.length_nil]; omega, by omega, ?_⟩
    by_cases hne : (nth s (u : Int)).Key = key
    ·rw [if_neg (by rw [hne]; simp)]
     refine ⟨by omega, ⟨u + 1, by omega, h, g1, fun x => ?_, (fun hd => by cases hd), fun _ y hy => by rw [← hne]; exact b2 y hy, by simp only [List.length_append, List.length_singleton]; omega, fun z hz => ?_⟩, by dsimp only; omega⟩
     ·rw [keys_app, List.mem_append, h2, keys_take h, List.mem_append, hne]
      show _ ∨ x ∈ [key] ↔ _
      rw [List.mem_singleton]
      constructor
      ·rintro ((hx | ⟨hd, _⟩) | hx)
       ·exact .inl (.inl hx)
       ·cases hd
       ·exact .inr ⟨rfl, hx⟩
      ·rintro ((hx | hx) | ⟨_, hx⟩)
       ·exact .inl (.inl hx)
       ·exact .inr hx
       ·exact .inr hx
     ·rcases List.mem_append.1 hz with hz | hz
      ·exact h6 z hz
      ·exact .inr (List.mem_singleton.1 hz)
    ·rw [if_pos (by rw [bne_iff_ne]; exact hne)]
     have hlt : Op.bytesLess key (nth s (u : Int)).Key = true := by
      rcases less_or k with g | g
      ·exact g
      ·exact absurd g.symm hne
     refine ⟨by omega, by simp only [List.length_append, List.length_cons, List.length_nil]; omega, by omega, ⟨u + 1, by omega, h, ?_, fun x => ?_, (fun hd => by cases hd), fun _ y hy => less_trans hlt (b2 y hy), by simp only [List.length_append, List.length_singleton]; omega, fun z hz => ?_⟩, by dsimp only; omega⟩
     ·rw [keys_app]
      refine ss_snocT g1 fun y hy => ?_
      rw [keys_app] at hy
      rcases List.mem_append.1 hy with hy | hy
      ·rcases (h2 y).1 hy with hy | ⟨hd, _⟩
       ·exact b1 y hy
       ·cases hd
      ·have hy : y = key := List.mem_singleton.1 hy
       rw [hy]; exact hlt
     ·rw [keys_app, keys_app, List.mem_append, List.mem_append, h2, keys_take h, List.mem_append]
      show (_ ∨ x ∈ [key]) ∨ x ∈ [(nth s (u : Int)).Key] ↔ _
      rw [List.mem_singleton, List.mem_singleton]
      constructor
      ·rintro (((hx | ⟨hd, _⟩) | hx) | hx)
       ·exact .inl (.inl hx)
       ·cases hd
       ·exact .inr ⟨rfl, hx⟩
       ·exact .inl (.inr hx)
      ·rintro ((hx | hx) | ⟨_, hx⟩)
       ·exact .inl (.inl (.inl hx))
       ·exact .inr hx
       ·exact .inl (.inr hx)
     ·rcases List.mem_append.1 hz with hz | hz
      ·rcases List.mem_append.1 hz with hz | hz
       ·exact h6 z hz
       ·exact .inr (List.mem_singleton.1 hz)
      ·rw [List.mem_singleton.1 hz]; exact .inl hin
 ·rw [if_neg (by simpa using h)]
  have : u = s.length := by omega
  subst this
  rw [List.take_length] at h2 h3
  cases done with
  | true =>
   rw [if_neg (by decide)]
   exact hq xs h1 (fun x => by rw [h2]; simp) h5 h6
  | false =>
   rw [if_pos (by decide)]
   obtain ⟨c1, c2⟩ := h3 rfl
   refine ⟨by simp only [List.length_cons, List.length_nil]; omega, hq _ ?_ (fun x => ?_) (by rw [c2]; simp) fun z hz => ?_⟩
   ·rw [keys_app]
    refine ss_snocT h1 fun y hy => ?_
    rcases (h2 y).1 hy with hy | ⟨hd, _⟩
    ·exact c1 y hy
    ·cases hd
   ·rw [keys_app, List.mem_append, h2]
    show _ ∨ x ∈ [key] ↔ _
    rw [List.mem_singleton]; simp
   ·rcases List.mem_append.1 hz with hz | hz
    ·exact h6 z hz
    ·exact .inr (List.mem_singleton.1 hz)
theorem keys_drawn {s : List Tag} {k v : Str} (hk : k ∈ keyL) (hv : v ∈ valL) (h : ∀ x ∈ s, DT x) {r : List Tag} (hr : ∀ z ∈ r, z ∈ s ∨ z = ⟨k, v⟩) : ∀ x ∈ r, DT x := fun x hx => by
 rcases hr x hx with g | rfl
 ·exact h x g
 ·exact ⟨hk, hv⟩
theorem F58.law (b : List UInt8) (p : Int) (id : Str) (Q : Feat → Int → Prop) (hb : b.length ≤ 2000) (hp : 0 ≤ p) (hp1 : p ≤ 10000000) (hq : ∀ s t p', shapeOk s = true → SS (keysT t) → t.length ≤ 3 → (∀ x ∈ t, DT x) → p ≤ p' → p' ≤ p + 60 → Q ⟨id, s, t⟩ p') : F58.E b p id Q := by
 unfold F58.E
 refine F46.law _ _ _ hb hp (by omega) fun s p1 hs p0 p2 => F15.law _ _ _ _ hb (by omega) (by omega) fun k hk0 hk1 => ?_
 refine ⟨fun i t z => 0 ≤ i ∧ i ≤ 3 ∧ SS (keysT t) ∧ (t.length : Int) + i ≤ 3 ∧ (∀ x ∈ t, DT x) ∧ p ≤ z ∧ z ≤ p + 41 + 2 * (3 - i), fun i _ _ => i.toNat, ⟨by omega, by omega, List.Pairwise.nil, by simp only [List.length_nil]; omega, by simp, by omega, by omega⟩, ?_⟩
 rintro i t z ⟨h0, h1, h2, h3, h4, h5, h6⟩
 by_cases hi : i > 0
 case neg => rw [if_neg (by simpa using hi)]; exact hq _ _ _ hs h2 (by omega) h4 h5 (by omega)
 rw [if_pos (by simpa using hi)]
 refine F94.law _ _ _ hb (by omega) (by omega) fun key hkey => F95.law _ _ _ hb (by omega) (by omega) fun val hval => F96.law _ _ _ _ (by omega) h2 fun r r1 r2 r3 r4 => ⟨by unfold I64; omega, ⟨by omega, by omega, r1, by omega, keys_drawn hkey hval h4 r4, by omega, by omega⟩, by dsimp only; omega⟩
theorem feat_drawn {id : Str} {s : Shape} {t : List Tag} (h1 : wordOk id = true) (h2 : shapeOk s = true) (h3 : SS (keysT t)) (h4 : t.length ≤ 3) (h5 : ∀ x ∈ t, DT x) : featOk ⟨id, s, t⟩ = true := feat_of h1 h2 h3 (by omega) fun x hx => (h5 x hx).ok
theorem F106.law (b : List UInt8) (p : Int) (Q : Str → Int → Prop) (hb : b.length ≤ 2000) (hp : 0 ≤ p) (hp1 : p ≤ 1000000000) (hq : ∀ k ∈ idL, Q k (p + 1)) : F106.E b p Q := by
 unfold F106.E
 exact F33.law _ _ _ _ hb hp (by omega) (by decide) hq
def PutS (s : List Feat) (f : Feat) (u : Nat) (xs : List Feat) (done : Bool) : Prop :=
 u ≤ s.length ∧ SS (ids xs) ∧ (∀ x, x ∈ ids xs ↔ x ∈ ids (s.take u) ∨ (done = true ∧ x = f.Id)) ∧ (done = false → (∀ x ∈ ids (s.take u), Op.bytesLess x f.Id = true) ∧ xs = s.take u) ∧
  (done = true → ∀ y ∈ ids (s.drop u), Op.bytesLess f.Id y = true) ∧ xs.length ≤ u + 1 ∧ (∀ z ∈ xs, z ∈ s ∨ z = f)
theorem ss_snoc {l : List Str} {x : Str} (h : SS l) (hx : ∀ y ∈ l, Op.bytesLess y x = true) : SS (l ++ [x]) := by
 unfold SS
 rw [List.pairwise_append]
 exact ⟨h, List.pairwise_singleton _ _, fun a ha b hb => by rw [List.mem_singleton.1 hb]; exact hx a ha⟩
theorem ids_take {s : List Feat} {u : Nat} (hu : u < s.length) : ids (s.take (u + 1)) = ids (s.take u) ++ [(nth s (u : Int)).Id] := by rw [take_nth s hu, ids_app]; rfl
theorem ids_cut (s : List Feat) (u : Nat) : ids s = ids (s.take u) ++ ids (s.drop u) := by rw [← ids_app, List.take_append_drop]
theorem dropNth {s : List Feat} {u : Nat} (hu : u < s.length) : s.drop u = nth s (u : Int) :: s.drop (u + 1) := by rw [nth_nat s hu]; exact List.drop_eq_getElem_cons hu
theorem ss_lt {s : List Feat} (h : SS (ids s)) {u : Nat} (hu : u < s.length) : (∀ x ∈ ids (s.take u), Op.bytesLess x (nth s (u : Int)).Id = true) ∧ ∀ y ∈ ids (s.drop (u + 1)), Op.bytesLess (nth s (u : Int)).Id y = true := by
 have e := ids_cut s u
 rw [dropNth hu] at e
 have e2 : ids (nth s (u : Int) :: s.drop (u + 1)) = (nth s (u : Int)).Id :: ids (s.drop (u + 1)) := rfl
 rw [e2] at e
 rw [e] at h
 obtain ⟨h1, h2, h3⟩ := List.pairwise_append.1 h
 exact ⟨fun x hx => h3 x hx _ List.mem_cons_self, (List.pairwise_cons.1 h2).1⟩
theorem F101.law (s : List Feat) (f : Feat) (Q : List Feat → Prop) (hl : s.length ≤ 1048576) (hs : SS (ids s)) (hq : ∀ r, SS (ids r) → (∀ x, x ∈ ids r ↔ x ∈ ids s ∨ x = f.Id) → r.length ≤ s.length + 1 → (∀ z ∈ r, z ∈ s ∨ z = f) → Q r) : F101.E s f Q := by
 unfold F101.E
 refine ⟨fun xs done i => ∃ u : Nat, i = u ∧ PutS s f u xs done, fun _ _ i => (s.length - i).toNat, ⟨0, rfl, Nat.zero_le _, by simp [ids, SS], by simp [ids], fun _ => ⟨by simp [ids], by simp⟩, (fun h => by cases h), by simp, by simp⟩, ?_⟩
 rintro xs done _ ⟨u, rfl, hu, h1, h2, h3, h4, h5, h6⟩
 by_cases h : u < s.length
 ·rw [if_pos (by simpa using h)]
  obtain ⟨b1, b2⟩ := ss_lt hs h
  have hin : nth s (u : Int) ∈ s := nth_mem s h
  have hdr : ∀ y ∈ ids (s.drop u), y = (nth s (u : Int)).Id ∨ y ∈ ids (s.drop (u + 1)) := fun y hy => by rw [dropNth h] at hy; exact List.mem_cons.1 hy
  have hcur : (nth s (u : Int)).Id ∈ ids (s.drop u) := by rw [dropNth h]; exact List.mem_cons_self
  have hdr' : ∀ y ∈ ids (s.drop (u + 1)), y ∈ ids (s.drop u) := fun y hy => by rw [dropNth h]; exact List.mem_cons_of_mem _ hy
  have stay : ∀ d, d = done → Op.bytesLess (nth s (u : Int)).Id f.Id = true ∨ d = true → xs.length + 1 ≤ u + 1 + 1 → PutS s f (u + 1) (xs ++ [nth s (u : Int)]) d := fun d hd hor hlen => by
   subst hd
   refine ⟨h, ?_, fun x => ?_, fun hdn => ⟨fun x hx => ?_, ?_⟩, fun hdn y hy => h4 hdn y (hdr' y hy), by simp only [List.length_append, List.length_singleton]; omega, fun z hz => ?_⟩
   ·rw [ids_app]
    refine ss_snoc h1 fun y hy => ?_
    rcases (h2 y).1 hy with hy | ⟨hd, rfl⟩
    ·exact b1 y hy
    ·exact h4 hd _ hcur
   ·rw [ids_app, List.mem_append, h2, ids_take h, List.mem_append]
    constructor
    ·rintro ((hx | hx) | hx)
     ·exact .inl (.inl hx)
     ·exact .inr hx
     ·exact .inl (.inr hx)
    ·rintro ((hx | hx) | hx)
     ·exact .inl (.inl hx)
     ·exact .inr hx
     ·exact .inl (.inr hx)
   ·rw [ids_take h] at hx
    rcases List.mem_append.1 hx with hx | hx
    ·exact (h3 hdn).1 x hx
    ·rw [List.mem_singleton.1 hx]
     rcases hor with hor | hor
     ·exact hor
     ·rw [hdn] at hor; cases hor
   ·rw [(h3 hdn).2, ← take_nth s h]
   ·rcases List.mem_append.1 hz with hz | hz
    ·exact h6 z hz
    ·rw [List.mem_singleton.1 hz]; exact .inl hin
  cases done with
  | true =>
   rw [if_neg (by decide)]
   have hlt := h4 rfl _ hcur
   have hne : (nth s (u : Int)).Id ≠ f.Id := fun e => by rw [e, less_irr] at hlt; cases hlt
   refine ⟨by omega, ?_⟩
   rw [if_pos (by rw [bne_iff_ne]; exact hne)]
   exact ⟨by omega, by simp only [List.length_cons, List.length_nil]; omega, by omega, ⟨u + 1, by omega, stay true rfl (.inr rfl) (by omega)⟩, by dsimp only; omega⟩
  | false =>
   rw [if_pos (by decide)]
   obtain ⟨c1, c2⟩ := h3 rfl
   have hxl : xs.length = u := by rw [c2, List.length_take]; omega
   refine ⟨by omega, ?_⟩
   cases k : Op.bytesLess (nth s (u : Int)).Id f.Id with
   | true =>
    rw [if_neg (by decide)]
    have hne : (nth s (u : Int)).Id ≠ f.Id := fun e => by rw [e, less_irr] at k; cases k
    refine ⟨by omega, ?_⟩
    rw [if_pos (by rw [bne_iff_ne]; exact hne)]
    exact ⟨by omega, by simp only [List.length_cons, List.length_nil]; omega, by omega, ⟨u + 1, by omega, stay false rfl (.inl k) (by omega)⟩, by dsimp only; omega⟩
   | false =>
    rw [if_pos (by decide)]
    have g1 : SS (ids (xs ++ [f])) := by
     rw [ids_app]
     refine ss_snoc h1 fun y hy => ?_
     rcases (h2 y).1 hy with hy | ⟨hd, _⟩
     ·exact c1 y hy
     ·cases hd
    refine ⟨by simp only [List.length_cons, List.length_nil]; omega, by omega, ?_⟩
    by_cases hne : (nth s (u : Int)).Id = f.Id
    ·rw [if_neg (by rw [hne]; simp)]
     refine ⟨by omega, ⟨u + 1, by omega, h, g1, fun x => ?_, (fun hd => by cases hd), fun _ y hy => by rw [← hne]; exact b2 y hy, by simp only [List.length_append, List.length_singleton]; omega, fun z hz => ?_⟩, by dsimp only; omega⟩
     ·rw [ids_app, List.mem_append, h2, ids_take h, List.mem_append, hne]
      show _ ∨ x ∈ [f.Id] ↔ _
      rw [List.mem_singleton]
      constructor
      ·rintro ((hx | ⟨hd, _⟩) | hx)
       ·exact .inl (.inl hx)
       ·cases hd
       ·exact .inr ⟨rfl, hx⟩
      ·rintro ((hx | hx) | ⟨_, hx⟩)
       ·exact .inl (.inl hx)
       ·exact .inr hx
       ·exact .inr hx
     ·rcases List.mem_append.1 hz with hz | hz
      ·exact h6 z hz
      ·exact .inr (List.mem_singleton.1 hz)
    ·rw [if_pos (by rw [bne_iff_ne]; exact hne)]
     have hlt : Op.bytesLess f.Id (nth s (u : Int)).Id = true := by
      rcases less_or k with g | g
      ·exact g
      ·exact absurd g.symm hne
     refine ⟨by omega, by simp only [List.length_append, List.length_cons, List.length_nil]; omega, by omega, ⟨u + 1, by omega, h, ?_, fun x => ?_, (fun hd => by cases hd), fun _ y hy => less_trans hlt (b2 y hy), by simp only [List.length_append, List.length_singleton]; omega, fun z hz => ?_⟩, by dsimp only; omega⟩
     ·rw [ids_app]
      refine ss_snoc g1 fun y hy => ?_
      rw [ids_app] at hy
      rcases List.mem_append.1 hy with hy | hy
      ·rcases (h2 y).1 hy with hy | ⟨hd, _⟩
       ·exact b1 y hy
       ·cases hd
      ·have hy : y = f.Id := List.mem_singleton.1 hy
       rw [hy]; exact hlt
     ·rw [ids_app, ids_app, List.mem_append, List.mem_append, h2, ids_take h, List.mem_append]
      show (_ ∨ x ∈ [f.Id]) ∨ x ∈ [(nth s (u : Int)).Id] ↔ _
      rw [List.mem_singleton, List.mem_singleton]
      constructor
      ·rintro (((hx | ⟨hd, _⟩) | hx) | hx)
       ·exact .inl (.inl hx)
       ·cases hd
       ·exact .inr ⟨rfl, hx⟩
       ·exact .inl (.inr hx)
      ·rintro ((hx | hx) | ⟨_, hx⟩)
       ·exact .inl (.inl (.inl hx))
       ·exact .inr hx
       ·exact .inl (.inr hx)
     ·rcases List.mem_append.1 hz with hz | hz
      ·rcases List.mem_append.1 hz with hz | hz
       ·exact h6 z hz
       ·exact .inr (List.mem_singleton.1 hz)
      ·rw [List.mem_singleton.1 hz]; exact .inl hin
 ·rw [if_neg (by simpa using h)]
  have : u = s.length := by omega
  subst this
  rw [List.take_length] at h2 h3
  cases done with
  | true =>
   rw [if_neg (by decide)]
   exact hq xs h1 (fun x => by rw [h2]; simp) h5 h6
  | false =>
   rw [if_pos (by decide)]
   obtain ⟨c1, c2⟩ := h3 rfl
   refine ⟨by simp only [List.length_cons, List.length_nil]; omega, hq _ ?_ (fun x => ?_) (by rw [c2]; simp) fun z hz => ?_⟩
   ·rw [ids_app]
    refine ss_snoc h1 fun y hy => ?_
    rcases (h2 y).1 hy with hy | ⟨hd, _⟩
    ·exact c1 y hy
    ·cases hd
   ·rw [ids_app, List.mem_append, h2]
    show _ ∨ x ∈ [f.Id] ↔ _
    rw [List.mem_singleton]; simp
   ·rcases List.mem_append.1 hz with hz | hz
    ·exact h6 z hz
    ·exact .inr (List.mem_singleton.1 hz)
def putL (s : List Feat) (f : Feat) : List Feat := (s.filter fun x => Op.bytesLess x.Id f.Id) ++ f :: s.filter fun x => Op.bytesLess f.Id x.Id
theorem F101.law2 (s : List Feat) (f : Feat) (Q : List Feat → Prop) (hl : s.length ≤ 1048576) (hs : SS (ids s)) (hq : Q (putL s f)) : F101.E s f Q := by
 unfold F101.E
 refine ⟨fun xs done i => ∃ u : Nat, i = u ∧ u ≤ s.length ∧ xs.length ≤ u + 1 ∧ ((done = false ∧ xs = s.take u ∧ ∀ z ∈ s.take u, Op.bytesLess z.Id f.Id = true) ∨ (done = true ∧ xs = putL (s.take u) f ∧ ∃ z ∈ s.take u, Op.bytesLess z.Id f.Id = false)), fun _ _ i => (s.length - i).toNat, ⟨0, rfl, Nat.zero_le _, by simp, .inl ⟨rfl, rfl, by simp⟩⟩, ?_⟩
 rintro xs done _ ⟨u, rfl, hu, hlen, hc⟩
 by_cases h : u < s.length
 ·rw [if_pos (by simpa using h)]
  have hm : nth s (u : Int) ∈ s.take (u + 1) := by rw [take_nth s h]; exact List.mem_append_right _ (List.mem_singleton.2 rfl)
  have hsub : ∀ z ∈ s.take u, z ∈ s.take (u + 1) := fun z hz => by rw [take_nth s h]; exact List.mem_append_left _ hz
  obtain ⟨b1, b2⟩ := ss_lt hs h
  rcases hc with ⟨rfl, rfl, hall⟩ | ⟨rfl, rfl, z, hz, hzf⟩
  ·rw [if_pos (by decide)]
   refine ⟨by omega, ?_⟩
   have fl : ∀ l : List Feat, (∀ z ∈ l, Op.bytesLess z.Id f.Id = true) → (l.filter fun x => Op.bytesLess x.Id f.Id) = l := fun l hl => List.filter_eq_self.2 hl
   have fg : ∀ l : List Feat, (∀ z ∈ l, Op.bytesLess z.Id f.Id = true) → (l.filter fun x => Op.bytesLess f.Id x.Id) = [] := fun l hl => List.filter_eq_nil_iff.2 fun z hz => by rw [less_asym (hl z hz)]; exact Bool.false_ne_true
   cases k : Op.bytesLess (nth s (u : Int)).Id f.Id with
   | true =>
    rw [if_neg (by decide)]
    have hne : (nth s (u : Int)).Id ≠ f.Id := fun e => by rw [e, less_irr] at k; cases k
    refine ⟨by omega, ?_⟩
    rw [if_pos (by rw [bne_iff_ne]; exact hne)]
    refine ⟨by omega, by simp only [List.length_take, List.length_cons, List.length_nil]; omega, by omega, ⟨u + 1, by omega, by omega, by simp only [List.length_append, List.length_take, List.length_cons, List.length_nil]; omega, .inl ⟨rfl, (take_nth s h).symm, fun z hz => ?_⟩⟩, by dsimp only; omega⟩
    rw [take_nth s h] at hz
    rcases List.mem_append.1 hz with hz | hz
    ·exact hall z hz
    ·rw [List.mem_singleton.1 hz]; exact k
   | false =>
    rw [if_pos (by decide)]
    refine ⟨by simp only [List.length_take, List.length_cons, List.length_nil]; omega, by omega, ?_⟩
    by_cases hne : (nth s (u : Int)).Id = f.Id
    ·rw [if_neg (by rw [hne]; simp)]
     refine ⟨by omega, ⟨u + 1, by omega, by omega, by simp only [List.length_append, List.length_take, List.length_cons, List.length_nil]; omega, .inr ⟨rfl, ?_, _, hm, k⟩⟩, by dsimp only; omega⟩
     unfold putL
     rw [take_nth s h, List.filter_append, List.filter_append, fl _ hall, fg _ hall, List.filter_cons_of_neg (by rw [k]; exact Bool.false_ne_true), List.filter_cons_of_neg (by rw [hne, less_irr]; exact Bool.false_ne_true)]
     simp
    ·have hlt : Op.bytesLess f.Id (nth s (u : Int)).Id = true := by
      rcases less_or k with g | g
      ·exact g
      ·exact absurd g.symm hne
     rw [if_pos (by rw [bne_iff_ne]; exact hne)]
     refine ⟨by omega, by simp only [List.length_append, List.length_take, List.length_cons, List.length_nil]; omega, by omega, ⟨u + 1, by omega, by omega, by simp only [List.length_append, List.length_take, List.length_cons, List.length_nil]; omega, .inr ⟨rfl, ?_, _, hm, k⟩⟩, by dsimp only; omega⟩
     unfold putL
     rw [take_nth s h, List.filter_append, List.filter_append, fl _ hall, fg _ hall, List.filter_cons_of_neg (by rw [k]; exact Bool.false_ne_true), List.filter_cons_of_pos (p := fun x : Feat => Op.bytesLess f.Id x.Id) hlt]
     simp
  ·rw [if_neg (by decide)]
   have hlt : Op.bytesLess f.Id (nth s (u : Int)).Id = true := by
    have h1 := b1 z.Id (List.mem_map.2 ⟨z, hz, rfl⟩)
    rcases less_or hzf with g | g
    ·exact less_trans g h1
    ·rw [g]; exact h1
   have hne : (nth s (u : Int)).Id ≠ f.Id := fun e => by rw [e, less_irr] at hlt; cases hlt
   refine ⟨by omega, ?_⟩
   rw [if_pos (by rw [bne_iff_ne]; exact hne)]
   refine ⟨by omega, by simp only [List.length_cons, List.length_nil]; omega, by omega, ⟨u + 1, by omega, by omega, by simp only [List.length_append, List.length_cons, List.length_nil]; omega, .inr ⟨rfl, ?_, z, hsub z hz, hzf⟩⟩, by dsimp only; omega⟩
   unfold putL
   rw [take_nth s h, List.filter_append, List.filter_append, List.filter_cons_of_neg (by rw [less_asym hlt]; exact Bool.false_ne_true), List.filter_cons_of_pos (p := fun x : Feat => Op.bytesLess f.Id x.Id) hlt]
   simp
 ·rw [if_neg (by simpa using h)]
  have : u = s.length := by omega
  subst this
  rw [List.take_length] at hc
  rcases hc with ⟨rfl, rfl, hall⟩ | ⟨rfl, rfl, _⟩
  ·rw [if_pos (by decide)]
   refine ⟨by simp only [List.length_cons, List.length_nil]; omega, ?_⟩
   have e : putL xs f = xs ++ [f] := by
    unfold putL
    rw [List.filter_eq_self.2 hall, List.filter_eq_nil_iff.2 fun z hz => by rw [less_asym (hall z hz)]; exact Bool.false_ne_true]
   rw [e] at hq; exact hq
  ·rw [if_neg (by decide)]; exact hq
theorem putL_ss {s : List Feat} (h : SS (ids s)) (f : Feat) : SS (ids (putL s f)) := by
 have h := List.pairwise_map.1 h
 refine List.pairwise_map.2 ?_
 unfold putL
 refine List.pairwise_append.2 ⟨h.filter _, List.pairwise_cons.2 ⟨fun x hx => (List.mem_filter.1 hx).2, h.filter _⟩, fun a ha b hb => ?_⟩
 have h1 := (List.mem_filter.1 ha).2
 rcases List.mem_cons.1 hb with rfl | hb
 ·exact h1
 ·exact less_trans h1 (List.mem_filter.1 hb).2
theorem putL_mem {s : List Feat} {f x : Feat} : x ∈ putL s f ↔ (x ∈ s ∧ x.Id ≠ f.Id) ∨ x = f := by
 unfold putL
 rw [List.mem_append, List.mem_cons, List.mem_filter, List.mem_filter]
 constructor
 ·rintro (⟨h1, h2⟩ | rfl | ⟨h1, h2⟩)
  ·exact .inl ⟨h1, fun e => by rw [e, less_irr] at h2; cases h2⟩
  ·exact .inr rfl
  ·exact .inl ⟨h1, fun e => by rw [e, less_irr] at h2; cases h2⟩
 ·rintro (⟨h1, h2⟩ | rfl)
  ·cases k : Op.bytesLess x.Id f.Id with
   | true => exact .inl ⟨h1, rfl⟩
   | false =>
    rcases less_or k with g | g
    ·exact .inr (.inr ⟨h1, g⟩)
    ·exact absurd g.symm h2
  ·exact .inr (.inl rfl)
theorem F55.law (b : List UInt8) (p : Int) (Q : List Feat → Int → Prop) (hb : b.length ≤ 2000) (hp : 0 ≤ p) (hp1 : p ≤ 1000000) (hq : ∀ s p', sheetOk s = true → s.length ≤ 4 → (∀ f ∈ s, f.Id ≠ zzI) → p ≤ p' → p' ≤ p + 300 → Q s p') : F55.E b p Q := by
 unfold F55.E
 refine F15.law _ _ _ _ hb hp (by omega) fun k hk0 hk1 => ?_
 refine ⟨fun s i z => 0 ≤ i ∧ i ≤ 4 ∧ SS (ids s) ∧ (s.length : Int) + i ≤ 4 ∧ (∀ f ∈ s, featOk f = true ∧ f.Id ≠ zzI) ∧ p ≤ z ∧ z ≤ p + 1 + 61 * (4 - i), fun _ i _ => i.toNat, ⟨by omega, by omega, List.Pairwise.nil, by simp only [List.length_nil]; omega, by simp, by omega, by omega⟩, ?_⟩
 rintro s i z ⟨h0, h1, h2, h3, h4, h5, h6⟩
 by_cases hi : i > 0
 case neg => rw [if_neg (by simpa using hi)]; exact hq _ _ (sheet_of h2 (by omega) fun f hf => (h4 f hf).1) (by omega) (fun f hf => (h4 f hf).2) h5 (by omega)
 rw [if_pos (by simpa using hi)]
 refine F106.law _ _ _ hb (by omega) (by omega) fun id hid => F58.law _ _ _ _ hb (by omega) (by omega) fun sh t p1 hs ht tl td p2 p3 => F101.law _ _ _ (by omega) h2 fun r r1 r2 r3 r4 => ⟨by unfold I64; omega, ⟨by omega, by omega, r1, by omega, fun f hf => ?_, by omega, by omega⟩, by dsimp only; omega⟩
 rcases r4 f hf with g | rfl
 ·exact h4 f g
 ·exact ⟨feat_drawn (idL_ok _ hid) hs ht tl td, idL_nz _ hid⟩
theorem F66.law (b : List UInt8) (p : Int) (Q : Shape → Int → Prop) (hb : b.length ≤ 2000) (hp : 0 ≤ p) (hp1 : p ≤ 10000000) (hq : ∀ s p', s.Pts.length ≤ 7 → p ≤ p' → p' ≤ p + 50 → Q s p') : F66.E b p Q := by
 unfold F66.E
 refine F46.law _ _ _ hb hp (by omega) fun s p1 hs p0 p2 => F15.law _ _ _ _ hb (by omega) (by omega) fun k hk0 hk1 => F15.law _ _ _ _ hb (by omega) (by omega) fun v hv0 hv1 => ?_
 have l1 := shape_pos hs
 have l2 := shape_pts hs
 split
 ·exact F25.law _ _ _ _ hb (by omega) (by omega) (by decide) fun n hn => hq _ _ (by dsimp only; omega) (by omega) (by omega)
 split
 ·exact F25.law _ _ _ _ hb (by omega) (by omega) (by decide) fun n hn => ⟨by omega, hq _ _ (by simp only [List.length_set]; omega) (by omega) (by omega)⟩
 split
 ·exact ⟨fun _ => by unfold I64; omega, by omega, by simp only [List.length_cons, List.length_nil]; omega, hq _ _ (by simp only [List.length_append, List.length_cons, List.length_nil]; omega) (by omega) (by omega)⟩
 split
 ·exact ⟨by omega, hq _ _ (by simp only [List.length_take, List.length_drop]; omega) (by omega) (by omega)⟩
 exact hq _ _ (by omega) (by omega) (by omega)
theorem F67.law (b : List UInt8) (p : Int) (Q : Feat → Int → Prop) (hb : b.length ≤ 2000) (hp : 0 ≤ p) (hp1 : p ≤ 1000000) (hq : ∀ f p', FB 4 f → (∀ x ∈ f.Tags, plainK x.Key) → f.Id ≠ zzI → p ≤ p' → p' ≤ p + 120 → Q f p') : F67.E b p Q := by
 unfold F67.E
 refine F106.law _ _ _ hb hp (by omega) fun id hid => F58.law _ _ _ _ hb (by omega) (by omega) fun s t p1 hs ht tl td p2 p3 => F15.law _ _ _ _ hb (by omega) (by omega) fun v hv0 hv1 => ?_
 have li := word_len (idL_ok _ hid)
 have lp := shape_pts hs
 have tp : ∀ x ∈ t, plainK x.Key := fun x hx => keyL_plain _ (td x hx).1
 have tw : ∀ x ∈ t, x.Key.length ≤ 6 ∧ x.Val.length ≤ 6 := fun x hx => (td x hx).len
 have iz := idL_nz _ hid
 split
 ·refine F33.law _ _ _ _ hb (by omega) (by omega) (by decide) fun w hw => hq _ _ ⟨?_, by dsimp only; omega, by dsimp only; omega, tw⟩ tp ?_ (by omega) (by omega)
  all_goals
   simp only [List.mem_cons, List.not_mem_nil, or_false] at hw
   dsimp only
   rcases hw with rfl | rfl | rfl <;> decide
 split
 ·exact F66.law _ _ _ hb (by omega) (by omega) fun s' p4 h4 h5 h6 => hq _ _ ⟨by dsimp only; omega, h4, by dsimp only; omega, tw⟩ tp iz (by omega) (by omega)
 split
 ·refine ⟨by simp only [List.length_cons, List.length_nil]; omega, hq _ _ ⟨by dsimp only; omega, by dsimp only; omega, by simp only [List.length_append, List.length_cons, List.length_nil]; omega, fun x hx => ?_⟩ (fun x hx => ?_) iz (by omega) (by omega)⟩
  ·rcases List.mem_append.1 hx with hx | hx
   ·exact tw x hx
   ·rw [List.mem_singleton.1 hx]; decide
  ·rcases List.mem_append.1 hx with hx | hx
   ·exact tp x hx
   ·rw [List.mem_singleton.1 hx]; unfold plainK; dsimp only; decide
 split
 ·refine F33.law _ _ _ _ hb (by omega) (by omega) (by decide) fun w hw => ⟨by simp only [List.length_cons, List.length_nil]; omega, hq _ _ ⟨by dsimp only; omega, by dsimp only; omega, by simp only [List.length_append, List.length_cons, List.length_nil]; omega, fun x hx => ?_⟩ (fun x hx => ?_) iz (by omega) (by omega)⟩
  ·rcases List.mem_append.1 hx with hx | hx
   ·exact tw x hx
   ·rw [List.mem_singleton.1 hx]
    simp only [List.mem_cons, List.not_mem_nil, or_false] at hw
    rcases hw with rfl | rfl <;> decide
  ·rcases List.mem_append.1 hx with hx | hx
   ·exact tp x hx
   ·rw [List.mem_singleton.1 hx]; unfold plainK; dsimp only; decide
 exact hq _ _ ⟨by dsimp only; omega, by dsimp only; omega, by dsimp only; omega, tw⟩ tp iz (by omega) (by omega)
theorem F76.law (b : List UInt8) (p : Int) (Q : List Feat → Int → Prop) (hb : b.length ≤ 2000) (hp : 0 ≤ p) (hp1 : p ≤ 100000) (hq : ∀ s p', MD s → p ≤ p' → p' ≤ p + 500 → Q s p') : F76.E b p Q := by
 unfold F76.E
 refine F55.law _ _ _ hb hp (by omega) fun s p1 hs hl hz p2 p3 => F15.law _ _ _ _ hb (by omega) (by omega) fun v hv0 hv1 => ?_
 have mb := MB.of hs
 have hm : MD s := ⟨⟨by omega, mb.fb⟩, hz⟩
 split
 ·refine F67.law _ _ _ hb (by omega) (by omega) fun f p4 h1 _ h2 h3 h4 => ⟨by simp only [List.length_cons, List.length_nil]; omega, hq _ _ ⟨⟨by simp only [List.length_append, List.length_cons, List.length_nil]; omega, fun x hx => ?_⟩, fun x hx => ?_⟩ (by omega) (by omega)⟩
  ·rcases List.mem_append.1 hx with hx | hx
   ·exact mb.fb x hx
   ·rw [List.mem_singleton.1 hx]; exact h1
  ·rcases List.mem_append.1 hx with hx | hx
   ·exact hz x hx
   ·rw [List.mem_singleton.1 hx]; exact h2
 split
 ·refine ⟨by omega, hq _ _ ⟨⟨by simp only [List.length_append]; omega, fun x hx => ?_⟩, fun x hx => ?_⟩ (by omega) (by omega)⟩
  ·rcases List.mem_append.1 hx with hx | hx <;> exact mb.fb x hx
  ·rcases List.mem_append.1 hx with hx | hx <;> exact hz x hx
 split
 ·refine ⟨fun s i => 0 ≤ i ∧ i ≤ 9 ∧ SS (ids s) ∧ (s.length : Int) ≤ 4 + i ∧ (∀ f ∈ s, FB 4 f ∧ f.Id ≠ zzI), fun _ i => (9 - i).toNat, ⟨by omega, by omega, (sheet_ss hs).1, by omega, fun f hf => ⟨mb.fb f hf, hz f hf⟩⟩, ?_⟩
  rintro s i ⟨h0, h1, h2, h3, h4⟩
  by_cases hi : i ≤ 8
  case neg => rw [if_neg (by simpa using hi)]; exact hq _ _ ⟨⟨by omega, fun f hf => (h4 f hf).1⟩, fun f hf => (h4 f hf).2⟩ (by omega) (by omega)
  rw [if_pos (by simpa using hi)]
  have hl1 : ∀ l : Str, ((l.drop i.toNat).take ((i + 1).toNat - i.toNat)).length ≤ 1 := fun l => by rw [List.length_take]; omega
  refine ⟨by unfold I64; omega, by simp only [List.length_cons, List.length_nil]; omega, F101.law _ _ _ (by omega) h2 fun r r1 r2 r3 r4 => ⟨by unfold I64; omega, ⟨by omega, by omega, r1, by omega, fun f hf => ?_⟩, by dsimp only; omega⟩⟩
  rcases r4 f hf with g | rfl
  ·exact h4 f g
  ·refine ⟨⟨Nat.le_trans (hl1 _) (by decide), by dsimp only [List.length_cons, List.length_nil]; omega, by simp only [List.length_nil]; omega, by simp⟩, fun e => ?_⟩
   have := hl1 [113, 114, 115, 116, 117, 118, 119, 120, 121, 122]
   dsimp only at e
   rw [e] at this
   exact absurd this (by decide)
 exact hq _ _ hm (by omega) (by omega)
structure CB (c : Change) : Prop where
  id : c.Id.length ≤ 7
  was : FB 4 c.Was
  now : FB 4 c.Now
theorem CB.small {c : Change} (h : CB c) : bulk c ≤ 139 := by
  have e : bulk c = bulk c.Id + 0 + bulk c.Was + 0 + bulk c.Now := rfl
  have e2 : bulk c.Id = c.Id.length := bulk_str _
  have := h.id; have := h.was.small; have := h.now.small
  omega
theorem cb_bulk {d : List Change} (hl : d.length ≤ 17) (h : ∀ c ∈ d, CB c) : bulk d ≤ 1048576 := by
  have hs := bulk_small d 139 fun c hc => (h c hc).small
  have : d.length * (139 + 1) ≤ 17 * 140 := Nat.mul_le_mul hl (Nat.le_refl _)
  omega
theorem FB.zero : FB 4 zeroF := ⟨by decide, by decide, by decide, fun x hx => (by cases hx)⟩
theorem sideOf_fb {s : List Feat} (h : sheetOk s = true) (i : Str) : FB 4 (sideOf s i).1 := by
  cases g : (sideOf s i).2 with
  | true => exact FB.of ((sheet_ss h).2.2 _ (sideOf_hit g).1)
  | false => rw [(sideOf_no g).1]; exact FB.zero
theorem diffL_cb {a b : List Feat} (ha : sheetOk a = true) (hb : sheetOk b = true) : (diffL a b (uniq (ids a ++ ids b))).length ≤ 16 ∧ ∀ c ∈ diffL a b (uniq (ids a ++ ids b)), CB c := by
  have la := (sheet_ss ha).2.1
  have lb := (sheet_ss hb).2.1
  have l1 := diffL_len a b (uniq (ids a ++ ids b))
  have l2 := uniq_len (ids a ++ ids b)
  have l3 : (ids a ++ ids b).length = a.length + b.length := by unfold ids; simp
  refine ⟨by omega, fun c hc => ?_⟩
  unfold diffL at hc
  obtain ⟨hc, _⟩ := List.mem_filter.1 hc
  obtain ⟨x, hx, rfl⟩ := List.mem_map.1 hc
  have hl : x.length ≤ 6 := by
    rcases List.mem_append.1 (uniq_mem.1 hx) with hx | hx
    all_goals
      obtain ⟨f, hf, rfl⟩ := List.mem_map.1 hx
    · exact (feat_small ((sheet_ss ha).2.2 f hf)).2
    · exact (feat_small ((sheet_ss hb).2.2 f hf)).2
  exact ⟨Nat.le_trans hl (by decide), sideOf_fb ha x, sideOf_fb hb x⟩
theorem cb_set {d : List Change} {k : Nat} {c : Change} (h : ∀ c ∈ d, CB c) (hc : CB c) : ∀ x ∈ d.set k c, CB x := fun x hx => by
  rcases List.mem_or_eq_of_mem_set hx with g | rfl
  · exact h x g
  · exact hc
theorem F77.law (s : List Feat) (id : Str) (Q : Int → Prop) (hq : Q (findN s.length fun j => (nth s (j : Int)).Id == id)) : F77.E s id Q := by
 unfold F77.E
 refine loop_find s.length (fun j => (nth s (j : Int)).Id == id) hq (fun I mu k hk h1 h2 => ⟨by omega, ?_⟩)
 cases h : (nth s (k : Int)).Id == id with
 | true => rw [if_pos rfl]; exact h1 h
 | false => rw [if_neg (by decide)]; obtain ⟨i1, i2⟩ := h2 h; exact ⟨by omega, i1, i2⟩
theorem F102.law (s : List Feat) (id : Str) (Q : List Feat → Prop) (hl : s.length ≤ 1048576) (hq : Q (s.filter fun f => decide (f.Id ≠ id))) : F102.E s id Q := by
 unfold F102.E
 refine ⟨fun xs i => ∃ u : Nat, i = u ∧ u ≤ s.length ∧ xs = (s.take u).filter fun f => decide (f.Id ≠ id), fun _ i => (s.length - i).toNat, ⟨0, rfl, Nat.zero_le _, rfl⟩, ?_⟩
 rintro _ _ ⟨u, rfl, hu, rfl⟩
 have hfl := List.length_filter_le (fun f : Feat => decide (f.Id ≠ id)) (s.take u)
 rw [List.length_take] at hfl
 by_cases h : u < s.length
 ·rw [if_pos (by simpa using h)]
  refine ⟨by omega, ?_⟩
  by_cases e : (nth s (u : Int)).Id = id
  ·rw [if_neg (by rw [e]; simp)]
   refine ⟨by omega, ⟨u + 1, by omega, by omega, ?_⟩, by dsimp only; omega⟩
   rw [take_nth s h, List.filter_append, List.filter_cons_of_neg (by rw [decide_eq_true_eq]; exact fun g => g e), List.filter_nil, List.append_nil]
  ·rw [if_pos (by rw [bne_iff_ne]; exact e)]
   refine ⟨by omega, by simp only [List.length_cons, List.length_nil]; omega, by omega, ⟨u + 1, by omega, by omega, ?_⟩, by dsimp only; omega⟩
   rw [take_nth s h, List.filter_append, List.filter_cons_of_pos (by rw [decide_eq_true_eq]; exact e), List.filter_nil]
 ·rw [if_neg (by simpa using h)]
  have : u = s.length := by omega
  subst this
  rw [List.take_length]; exact hq
theorem F61.law (b : List UInt8) (p : Int) (s : Shape) (Q : Shape → Int → Prop) (hb : b.length ≤ 2000) (hp : 0 ≤ p) (hp1 : p ≤ 10000000) (hs : s.Pts.length ≤ 1000) (hq : ∀ r p', (r = s ∨ shapeOk r = true) → p ≤ p' → p' ≤ p + 4 → Q r p') : F61.E b p s Q := by
 unfold F61.E
 by_cases h0 : (s.Pts.length : Int) = 0
 ·rw [if_pos (by simpa using h0)]; exact hq _ _ (.inl rfl) (by omega) (by omega)
 rw [if_neg (by simpa using h0)]
 refine F15.law _ _ _ _ hb hp (by omega) fun k hk0 hk1 => ⟨by omega, by simp only [List.length_take, List.length_drop, List.length_nil]; omega, F15.law _ _ _ _ hb (by omega) (by omega) fun v hv0 hv1 => ?_⟩
 have fin : ∀ (r : Shape) (z : Int), p ≤ z → z ≤ p + 4 → F45.E r (fun r5 => (if !r5 then Q s z else Q r z)) := fun r z h1 h2 => by
  refine F45.law _ _ ?_
  cases h : shapeOk r with
  | true => rw [if_neg (by decide)]; exact hq _ _ (.inr h) h1 h2
  | false => rw [if_pos (by decide)]; exact hq _ _ (.inl rfl) h1 h2
 split
 ·exact ⟨by omega, F105.law _ _ _ hb (by omega) (by omega) fun x y _ _ _ _ => ⟨by simp only [List.length_append, List.length_take, List.length_drop, List.length_nil, List.length_cons]; omega, by simp only [List.length_append, List.length_take, List.length_drop, List.length_nil, List.length_cons]; omega, fin _ _ (by omega) (by omega)⟩⟩
 split
 ·exact ⟨fun _ => by unfold I64; omega, by omega, by simp only [List.length_append, List.length_take, List.length_drop, List.length_nil, List.length_cons]; omega, fin _ _ (by omega) (by omega)⟩
 exact ⟨fun _ => by unfold I64; omega, by omega, F105.law _ _ _ hb (by omega) (by omega) fun x y _ _ _ _ => ⟨by simp only [List.length_append, List.length_take, List.length_drop, List.length_nil, List.length_cons]; omega, by simp only [List.length_append, List.length_take, List.length_drop, List.length_nil, List.length_cons]; omega, fin _ _ (by omega) (by omega)⟩⟩
theorem F60.law (f : Feat) (Q : Feat → Prop) (hb : bulk f ≤ 1048576) (hq : Q f) : F60.E f Q := by
 unfold F60.E F59.E
 have h := bulk_feat f
 have h1 := bulk_len f.Tags
 have h2 := bulk_len f.Shape.Pts
 exact ⟨by simp only [List.length_nil]; omega, by simp only [List.length_nil]; omega, hq⟩
theorem F62.law (s : Str) (Q : Bool → Prop) (hq : Q (wordOk s)) : F62.E s Q := by
 unfold F62.E
 unfold wordOk at hq
 refine loop_all s.length (fun k => byteOk (nth s (k : Int))) (fun I mu k hk hp hn => ?_) (fun ha => ?_)
 ·refine ⟨by omega, ?_⟩
  cases h1 : decide (((nth s (k : Int)).toNat : Int) < 97) with
  | true => rw [if_pos rfl]; rw [allN_false hk (by simp only [byteOk, h1]; rfl), Bool.false_and] at hq; exact hq
  | false =>
   rw [if_neg (by decide)]
   refine ⟨by omega, ?_⟩
   cases h2 : decide (((nth s (k : Int)).toNat : Int) > 122) with
   | true => rw [if_pos rfl]; rw [allN_false hk (by simp only [byteOk, h1, h2]; rfl), Bool.false_and] at hq; exact hq
   | false =>
    rw [if_neg (by decide)]
    obtain ⟨i1, i2⟩ := hn (by simp only [byteOk, h1, h2]; rfl)
    exact ⟨by omega, i1, i2⟩
 ·rw [allN_true ha, Bool.true_and] at hq
  by_cases h : 1 ≤ s.length
  ·rw [decide_eq_true h, Bool.true_and] at hq
   rw [if_pos (by rw [decide_eq_true_eq]; omega)]
   have e2 : decide ((s.length : Int) ≤ 6) = decide (s.length ≤ 6) := decide_eq_decide.2 (by omega)
   rw [e2]; exact hq
  ·rw [decide_eq_false h, Bool.false_and] at hq
   rw [if_neg (by rw [decide_eq_true_eq]; omega)]; exact hq
theorem F63.law (t : List Tag) (Q : Bool → Prop) (hq : Q (tagsOk t && decide (t.length ≤ 4))) : F63.E t Q := by
 unfold F63.E
 unfold tagsOk at hq
 refine loop_all t.length (fun k => wordOk (nth t (k : Int)).Key && wordOk (nth t (k : Int)).Val && (decide (k = 0) || Op.bytesLess (nth t ((k : Int) - 1)).Key (nth t (k : Int)).Key)) (fun I mu k hk hp hn => ?_) (fun ha => ?_)
 ·have bad : (wordOk (nth t (k : Int)).Key && wordOk (nth t (k : Int)).Val && (decide (k = 0) || Op.bytesLess (nth t ((k : Int) - 1)).Key (nth t (k : Int)).Key)) = false → Q false := fun h => by
   rw [allN_false hk h, Bool.false_and] at hq; exact hq
  refine ⟨by omega, _, F62.law _ _ rfl, ?_⟩
  cases h1 : wordOk (nth t (k : Int)).Key with
  | false => rw [if_pos (by decide)]; exact bad (by rw [h1]; rfl)
  | true =>
   rw [if_neg (by decide)]
   refine ⟨by omega, _, F62.law _ _ rfl, ?_⟩
   cases h2 : wordOk (nth t (k : Int)).Val with
   | false => rw [if_pos (by decide)]; exact bad (by rw [h2, Bool.and_false]; rfl)
   | true =>
    rw [if_neg (by decide)]
    by_cases hk0 : k = 0
    ·rw [if_neg (by rw [decide_eq_true_eq]; omega)]
     obtain ⟨i1, i2⟩ := hn (by rw [h1, h2, decide_eq_true hk0]; rfl)
     exact ⟨by omega, i1, i2⟩
    ·rw [if_pos (by rw [decide_eq_true_eq]; omega)]
     refine ⟨by omega, fun _ => by unfold I64; omega, by omega, ?_⟩
     rw [← less_tri]
     cases h3 : Op.bytesLess (nth t ((k : Int) - 1)).Key (nth t (k : Int)).Key with
     | false => rw [if_pos (by decide)]; exact bad (by rw [h3, h1, h2, decide_eq_false hk0]; rfl)
     | true =>
      rw [if_neg (by decide)]
      obtain ⟨i1, i2⟩ := hn (by rw [h3, h1, h2, decide_eq_false hk0]; rfl)
      exact ⟨by omega, i1, i2⟩
 ·rw [allN_true ha, Bool.true_and] at hq
  have e2 : decide ((t.length : Int) ≤ 4) = decide (t.length ≤ 4) := decide_eq_decide.2 (by omega)
  rw [e2]; exact hq
theorem F64.law (f : Feat) (Q : Bool → Prop) (hq : Q (featOk f)) : F64.E f Q := by
 unfold F64.E
 unfold featOk at hq
 refine F62.law _ _ ?_
 cases h1 : wordOk f.Id with
 | false => rw [h1, Bool.and_false, Bool.false_and] at hq; rw [if_neg (by decide)]; exact hq
 | true =>
  rw [h1, Bool.and_true] at hq
  rw [if_pos rfl]
  refine F45.law _ _ ?_
  cases h2 : shapeOk f.Shape with
  | false => rw [h2, Bool.and_false] at hq; rw [if_neg (by decide)]; exact hq
  | true => rw [h2, Bool.and_true] at hq; rw [if_pos rfl]; exact F63.law _ _ hq
theorem F56.law (d : List Feat) (Q : Bool → Prop) (hq : Q (sheetOk d)) : F56.E d Q := by
 unfold F56.E
 unfold sheetOk at hq
 refine loop_all d.length (fun k => featOk (nth d (k : Int)) && (decide (k = 0) || Op.bytesLess (nth d ((k : Int) - 1)).Id (nth d (k : Int)).Id)) (fun I mu k hk hp hn => ?_) (fun ha => ?_)
 ·have bad : (featOk (nth d (k : Int)) && (decide (k = 0) || Op.bytesLess (nth d ((k : Int) - 1)).Id (nth d (k : Int)).Id)) = false → Q false := fun h => by
   rw [allN_false hk h, Bool.false_and] at hq; exact hq
  refine ⟨by omega, _, F64.law _ _ rfl, ?_⟩
  cases h1 : featOk (nth d (k : Int)) with
  | false => rw [if_pos (by decide)]; exact bad (by rw [h1]; rfl)
  | true =>
   rw [if_neg (by decide)]
   by_cases hk0 : k = 0
   ·rw [if_neg (by rw [decide_eq_true_eq]; omega)]
    obtain ⟨i1, i2⟩ := hn (by rw [h1, decide_eq_true hk0]; rfl)
    exact ⟨by omega, i1, i2⟩
   ·rw [if_pos (by rw [decide_eq_true_eq]; omega)]
    refine ⟨by omega, fun _ => by unfold I64; omega, by omega, ?_⟩
    rw [← less_tri]
    cases h3 : Op.bytesLess (nth d ((k : Int) - 1)).Id (nth d (k : Int)).Id with
    | false => rw [if_pos (by decide)]; exact bad (by rw [h3, h1, decide_eq_false hk0]; rfl)
    | true =>
     rw [if_neg (by decide)]
     obtain ⟨i1, i2⟩ := hn (by rw [h3, h1, decide_eq_false hk0]; rfl)
     exact ⟨by omega, i1, i2⟩
 ·rw [allN_true ha, Bool.true_and] at hq
  have e2 : decide ((d.length : Int) ≤ 8) = decide (d.length ≤ 8) := decide_eq_decide.2 (by omega)
  rw [e2]; exact hq
theorem FB.put {n : Nat} {f : Feat} (h : FB n f) {k v : Str} (hk : k ∈ keyL) (hv : v ∈ valL) {r : List Tag} (hl : r.length ≤ f.Tags.length + 1) (hr : ∀ z ∈ r, z ∈ f.Tags ∨ z = ⟨k, v⟩) : FB (n + 1) ⟨f.Id, f.Shape, r⟩ := ⟨h.id, h.pts, Nat.le_trans hl (Nat.succ_le_succ h.len), fun x hx => by
 rcases hr x hx with g | rfl
 ·exact h.wd x g
 ·exact DT.len ⟨hk, hv⟩⟩
theorem F78.law (b : List UInt8) (p : Int) (s : List Feat) (Q : List Feat → Int → Prop) (hb : b.length ≤ 2000) (hp : 0 ≤ p) (hp1 : p ≤ 1000000) (hs : sheetOk s = true) (hz : ∀ f ∈ s, f.Id ≠ zzI) (hq : ∀ r p', sheetOk r = true → (∀ f ∈ r, f.Id ≠ zzI) → p ≤ p' → p' ≤ p + 250 → Q r p') : F78.E b p s Q := by
 unfold F78.E
 have mb := MB.of hs
 refine F15.law _ _ _ _ hb hp (by omega) fun k hk0 hk1 => ⟨by unfold I64; omega, ?_⟩
 refine ⟨fun s i z => 0 ≤ i ∧ i ≤ 3 ∧ SS (ids s) ∧ (s.length : Int) + i ≤ 11 ∧ (∀ f ∈ s, SS (keysT f.Tags) ∧ FB (7 - i.toNat) f ∧ f.Id ≠ zzI) ∧ p ≤ z ∧ z ≤ p + 1 + 65 * (3 - i), fun _ i _ => i.toNat, ⟨by omega, by omega, (sheet_ss hs).1, by have := mb.len; omega, fun f hf => ⟨featOk_tags ((sheet_ss hs).2.2 f hf), (mb.fb f hf).mono (by omega), hz f hf⟩, by omega, by omega⟩, ?_⟩
 rintro s2 i z ⟨h0, h1, h2, h3, h4, h5, h6⟩
 by_cases hi : i > 0
 case neg =>
  rw [if_neg (by simpa using hi)]
  refine F56.law _ _ ?_
  cases h : sheetOk s2 with
  | true => rw [if_neg (by decide)]; exact hq _ _ h (fun f hf => (h4 f hf).2.2) h5 (by omega)
  | false => rw [if_pos (by decide)]; exact hq _ _ hs hz h5 (by omega)
 rw [if_pos (by simpa using hi)]
 have em : 7 - (i - 1).toNat = 7 - i.toNat + 1 := by omega
 have step : ∀ (f : Feat), SS (keysT f.Tags) → FB (7 - i.toNat + 1) f → f.Id ≠ zzI → ∀ r : List Feat, (∀ z ∈ r, z ∈ s2 ∨ z = f) → ∀ x ∈ r, SS (keysT x.Tags) ∧ FB (7 - (i - 1).toNat) x ∧ x.Id ≠ zzI := fun f a1 a2 a3 r hr x hx => by
  rw [em]
  rcases hr x hx with g | rfl
  ·have := h4 x g
   exact ⟨this.1, this.2.1.mono (by omega), this.2.2⟩
  ·exact ⟨a1, a2, a3⟩
 refine F106.law _ _ _ hb (by omega) (by omega) fun id hid => F77.law _ _ _ ?_
 have hle := findN_le s2.length fun j => (nth s2 (j : Int)).Id == id
 generalize findN s2.length (fun j => (nth s2 (j : Int)).Id == id) = at_ at *
 by_cases ha : at_ < 0
 ·rw [if_pos (by simpa using ha)]
  refine F58.law _ _ _ _ hb (by omega) (by omega) fun sh t p1 hsh ht tl td p2 p3 => F101.law _ _ _ (by omega) h2 fun r r1 r2 r3 r4 => ⟨by unfold I64; omega, ⟨by omega, by omega, r1, by omega, step _ ht ?_ (idL_nz _ hid) r r4, by omega, by omega⟩, by dsimp only; omega⟩
  exact ((FB.of (feat_drawn (idL_ok _ hid) hsh ht tl td)).mono (by omega))
 rw [if_neg (by simpa using ha)]
 have hm : nth s2 at_ ∈ s2 := nth_memi s2 (by omega) hle.2
 obtain ⟨f1, f2, f3⟩ := h4 _ hm
 have fb := f2.small
 refine F15.law _ _ _ _ hb (by omega) (by omega) fun v hv0 hv1 => ?_
 split
 ·refine F102.law _ _ _ (by omega) ⟨by unfold I64; omega, ⟨by omega, by omega, ?_, ?_, fun x hx => ?_, by omega, by omega⟩, by dsimp only; omega⟩
  ·unfold SS ids at h2 ⊢
   exact List.Pairwise.sublist (List.filter_sublist.map _) h2
  ·have := List.length_filter_le (fun f : Feat => decide (f.Id ≠ id)) s2; omega
  ·have := h4 x (List.mem_filter.1 hx).1
   exact ⟨this.1, this.2.1.mono (by omega), this.2.2⟩
 refine F15.law _ _ _ _ hb (by omega) (by omega) fun w hw0 hw1 => ?_
 split
 ·refine ⟨by omega, F60.law _ _ (by omega) (F94.law _ _ _ hb (by omega) (by omega) fun key hkey => F95.law _ _ _ hb (by omega) (by omega) fun val hval => F96.law _ _ _ _ (by have := f2.len; omega) f1 fun t t1 t2 t3 t4 => F101.law _ _ _ (by omega) h2 fun r r1 r2 r3 r4 => ⟨by unfold I64; omega, ⟨by omega, by omega, r1, by omega, step _ t1 (f2.put hkey hval t3 t4) f3 r r4, by omega, by omega⟩, by dsimp only; omega⟩)⟩
 ·refine ⟨by omega, F60.law _ _ (by omega) (F61.law _ _ _ _ hb (by omega) (by omega) (by have := f2.pts; omega) fun sh p' hsh p1 p2 => F101.law _ _ _ (by omega) h2 fun r r1 r2 r3 r4 => ⟨by unfold I64; omega, ⟨by omega, by omega, r1, by omega, step ⟨(nth s2 at_).Id, sh, (nth s2 at_).Tags⟩ f1 ⟨f2.id, ?_, Nat.le_trans f2.len (by omega), f2.wd⟩ f3 r r4, by omega, by omega⟩, by dsimp only; omega⟩)⟩
  rcases hsh with rfl | hsh
  ·exact f2.pts
  ·exact Nat.le_trans (shape_pts hsh) (by decide)
theorem F103.law (a b : List Feat) (Q : List Str → Prop) (ha : a.length ≤ 1000) (hb : b.length ≤ 1000) (hs : SS (ids a)) (hq : Q (uniq (ids a ++ ids b))) : F103.E a b Q := by
 unfold F103.E
 refine ⟨fun s i => ∃ u : Nat, i = u ∧ u ≤ b.length ∧ SS (ids s) ∧ (∀ x, x ∈ ids s ↔ x ∈ ids a ∨ x ∈ ids (b.take u)) ∧ s.length ≤ a.length + u, fun _ i => (b.length - i).toNat, ⟨0, rfl, Nat.zero_le _, hs, by simp [ids], by omega⟩, ?_⟩
 rintro s _ ⟨u, rfl, hu, h1, h2, h3⟩
 by_cases h : u < b.length
 ·rw [if_pos (by simpa using h)]
  refine ⟨by omega, F101.law _ _ _ (by omega) h1 fun r r1 r2 r3 _ => ⟨by omega, ⟨u + 1, by omega, by omega, r1, fun x => ?_, by omega⟩, by dsimp only; omega⟩⟩
  rw [r2, h2, ids_take h, List.mem_append, List.mem_singleton]
  constructor
  ·rintro ((hx | hx) | hx)
   ·exact .inl hx
   ·exact .inr (.inl hx)
   ·exact .inr (.inr hx)
  ·rintro (hx | hx | hx)
   ·exact .inl (.inl hx)
   ·exact .inl (.inr hx)
   ·exact .inr hx
 ·rw [if_neg (by simpa using h)]
  have : u = b.length := by omega
  subst this
  rw [List.take_length] at h2
  have e : ids s = uniq (ids a ++ ids b) := SS.ext h1 (uniq_ss _) fun x => by rw [h2, uniq_mem, List.mem_append]
  rw [← e] at hq
  refine ⟨fun xs i => ∃ v : Nat, i = v ∧ v ≤ s.length ∧ xs = ids (s.take v), fun _ i => (s.length - i).toNat, ⟨0, rfl, Nat.zero_le _, rfl⟩, ?_⟩
  rintro _ _ ⟨v, rfl, hv, rfl⟩
  have hil : (ids (s.take v)).length ≤ v := by unfold ids; simp; omega
  by_cases g : v < s.length
  ·rw [if_pos (by simpa using g)]
   refine ⟨by omega, by simp only [List.length_cons, List.length_nil]; omega, by omega, ⟨v + 1, by omega, by omega, ?_⟩, by dsimp only; omega⟩
   rw [ids_take g]
  ·rw [if_neg (by simpa using g)]
   have : v = s.length := by omega
   subst this
   rw [List.take_length]; exact hq
theorem F79.law (s : List Feat) (id : Str) (Q : Feat → Bool → Prop) (hb : bulk s ≤ 1048576) (hq : Q (sideOf s id).1 (sideOf s id).2) : F79.E s id Q := by
 unfold F79.E
 have hl := bulk_len s
 refine F77.law _ _ _ ?_
 have h1 := findN_le s.length fun j => (nth s (j : Int)).Id == id
 unfold sideOf at hq
 by_cases h : findN s.length (fun j => (nth s (j : Int)).Id == id) < 0
 ·rw [if_pos h] at hq; rw [if_pos (by simpa using h)]; exact hq
 ·rw [if_neg h] at hq; rw [if_neg (by simpa using h)]
  exact ⟨by omega, F60.law _ _ (by have := bulk_mem (nth_memi s (by omega) h1.2); omega) hq⟩
theorem F80.law (a b : List Tag) (Q : Bool → Prop) (hq : Q (decide (a = b))) : F80.E a b Q := by
 unfold F80.E
 exact eqS_shape eqTag eqTag_is a b Q hq
theorem F71.law (a b : List Pt) (Q : Bool → Prop) (hq : Q (decide (a = b))) : F71.E a b Q := by
 unfold F71.E
 exact eqS_shape eqPt eqPt_is a b Q hq
theorem F28.law (a b : Shape) (Q : Bool → Prop) (hq : Q (decide (a = b))) : F28.E a b Q := by
 unfold F28.E
 by_cases h : a.Kind = b.Kind
 ·rw [if_pos (by rw [beq_iff_eq]; exact h)]
  refine F71.law _ _ _ ?_
  have : decide (a.Pts = b.Pts) = decide (a = b) := decide_eq_decide.2 (by rw [Shape.ext_iff']; exact ⟨fun e => ⟨h, e⟩, fun e => e.2⟩)
  rw [this]; exact hq
 ·rw [if_neg (by rw [beq_iff_eq]; exact h)]
  rw [decide_eq_false (by rw [Shape.ext_iff']; exact fun e => h e.1)] at hq; exact hq
theorem F41.law (a b : Feat) (Q : Bool → Prop) (hq : Q (decide (a = b))) : F41.E a b Q := by
 unfold F41.E
 by_cases h : a.Id = b.Id
 ·rw [if_pos (by rw [beq_iff_eq]; exact h)]
  refine F28.law _ _ _ ?_
  by_cases h2 : a.Shape = b.Shape
  ·rw [decide_eq_true h2, if_pos rfl]
   refine F80.law _ _ _ ?_
   have : decide (a.Tags = b.Tags) = decide (a = b) := decide_eq_decide.2 (by rw [Feat.ext_iff']; exact ⟨fun e => ⟨h, h2, e⟩, fun e => e.2.2⟩)
   rw [this]; exact hq
  ·rw [decide_eq_false h2, if_neg (by decide)]
   rw [decide_eq_false (by rw [Feat.ext_iff']; exact fun e => h2 e.2.1)] at hq; exact hq
 ·rw [if_neg (by rw [beq_iff_eq]; exact h)]
  rw [decide_eq_false (by rw [Feat.ext_iff']; exact fun e => h e.1)] at hq; exact hq
theorem sameC_t {c : Change} (h1 : c.Had = c.Has) (h2 : c.Was = c.Now) : sameC c = true := by unfold sameC; rw [decide_eq_true h1, decide_eq_true h2]; rfl
theorem sameC_f1 {c : Change} (h : ¬ c.Was = c.Now) : sameC c = false := by unfold sameC; rw [decide_eq_false h, Bool.and_false]
theorem sameC_f2 {c : Change} (h : ¬ c.Had = c.Has) : sameC c = false := by unfold sameC; rw [decide_eq_false h, Bool.false_and]
theorem F109.law (a b : List Feat) (Q : List Change → Prop) (ba : bulk a ≤ 1048576) (bb : bulk b ≤ 1048576) (ha : a.length ≤ 1000) (hb : b.length ≤ 1000) (hs : SS (ids a)) (hq : Q (diffL a b (uniq (ids a ++ ids b)))) : F109.E a b Q := by
 unfold F109.E
 refine F103.law _ _ _ ha hb hs ?_
 have l2 := uniq_len (ids a ++ ids b)
 have l3 : (ids a ++ ids b).length = a.length + b.length := by unfold ids; simp
 refine ⟨fun xs i => ∃ u : Nat, i = u ∧ u ≤ (uniq (ids a ++ ids b)).length ∧ xs = diffL a b ((uniq (ids a ++ ids b)).take u), fun _ i => ((uniq (ids a ++ ids b)).length - i).toNat, ⟨0, rfl, Nat.zero_le _, rfl⟩, ?_⟩
 rintro _ _ ⟨u, rfl, hu, rfl⟩
 by_cases h : u < (uniq (ids a ++ ids b)).length
 ·rw [if_pos (by simpa using h)]
  have hd := diffL_len a b ((uniq (ids a ++ ids b)).take u)
  rw [List.length_take] at hd
  have en := diffL_snoc a b ((uniq (ids a ++ ids b)).take u) (nth (uniq (ids a ++ ids b)) (u : Int))
  rw [← take_nth _ h] at en
  have add : sameC (diffC a b (nth (uniq (ids a ++ ids b)) (u : Int))) = false → diffL a b ((uniq (ids a ++ ids b)).take u) ++ [diffC a b (nth (uniq (ids a ++ ids b)) (u : Int))] = diffL a b ((uniq (ids a ++ ids b)).take (u + 1)) := fun k => by rw [k] at en; exact en.symm
  have old : sameC (diffC a b (nth (uniq (ids a ++ ids b)) (u : Int))) = true → diffL a b ((uniq (ids a ++ ids b)).take u) = diffL a b ((uniq (ids a ++ ids b)).take (u + 1)) := fun k => by rw [k] at en; rw [en]; simp
  refine ⟨by omega, F79.law _ _ _ ba ⟨by omega, F79.law _ _ _ bb ?_⟩⟩
  by_cases k1 : (sideOf a (nth (uniq (ids a ++ ids b)) (u : Int))).2 = (sideOf b (nth (uniq (ids a ++ ids b)) (u : Int))).2
  ·rw [if_neg (by rw [k1]; simp)]
   refine F41.law _ _ _ ?_
   by_cases k2 : (sideOf a (nth (uniq (ids a ++ ids b)) (u : Int))).1 = (sideOf b (nth (uniq (ids a ++ ids b)) (u : Int))).1
   ·rw [decide_eq_true k2, if_neg (by decide)]
    exact ⟨by omega, ⟨u + 1, by omega, by omega, old (sameC_t k1 k2)⟩, by dsimp only; omega⟩
   ·rw [decide_eq_false k2, if_pos (by decide)]
    exact ⟨by omega, by simp only [List.length_cons, List.length_nil]; omega, by omega, ⟨u + 1, by omega, by omega, add (sameC_f1 k2)⟩, by dsimp only; omega⟩
  ·rw [if_pos (by rw [bne_iff_ne]; exact k1)]
   exact ⟨by omega, by simp only [List.length_cons, List.length_nil]; omega, by omega, ⟨u + 1, by omega, by omega, add (sameC_f2 k1)⟩, by dsimp only; omega⟩
 ·rw [if_neg (by simpa using h)]
  have : u = (uniq (ids a ++ ids b)).length := by omega
  subst this
  rw [List.take_length]; exact hq
theorem F81.law (b : List UInt8) (p : Int) (Q : List Change → Int → Prop) (hb : b.length ≤ 2000) (hp : 0 ≤ p) (hp1 : p ≤ 100000) (hq : ∀ d p', d.length ≤ 17 → (∀ c ∈ d, CB c) → p ≤ p' → p' ≤ p + 1000 → Q d p') : F81.E b p Q := by
 unfold F81.E
 refine F55.law _ _ _ hb hp (by omega) fun s p1 hs _ hz p2 p3 => F78.law _ _ _ _ hb (by omega) (by omega) hs hz fun r p4 hr rz p5 p6 => F109.law _ _ _ (Nat.le_trans (MB.of hs).small (by decide)) (Nat.le_trans (MB.of hr).small (by decide)) (Nat.le_trans (sheet_ss hs).2.1 (by decide)) (Nat.le_trans (sheet_ss hr).2.1 (by decide)) (sheet_ss hs).1 ?_
 obtain ⟨d1, d2⟩ := diffL_cb hs hr
 generalize diffL s r (uniq (ids s ++ ids r)) = d at *
 by_cases h0 : (d.length : Int) = 0
 ·rw [if_pos (by simpa using h0)]; exact hq _ _ (by omega) d2 (by omega) (by omega)
 rw [if_neg (by simpa using h0)]
 refine F15.law _ _ _ _ hb (by omega) (by omega) fun k hk0 hk1 => F15.law _ _ _ _ hb (by omega) (by omega) fun v hv0 hv1 => ?_
 have hm := d2 _ (nth_memi d hk0 (by omega))
 split
 ·exact ⟨by omega, by omega, hq _ _ (by rw [List.length_set]; omega) (cb_set d2 ⟨hm.id, hm.was, hm.now⟩) (by omega) (by omega)⟩
 split
 ·exact F67.law _ _ _ hb (by omega) (by omega) fun f p' h1 _ _ _ _ => ⟨by omega, hq _ _ (by rw [List.length_set]; omega) (cb_set d2 ⟨hm.id, h1, hm.now⟩) (by omega) (by omega)⟩
 split
 ·refine ⟨by omega, by simp only [List.length_cons, List.length_nil]; omega, hq _ _ (by simp only [List.length_append, List.length_cons, List.length_nil]; omega) (fun c hc => ?_) (by omega) (by omega)⟩
  rcases List.mem_append.1 hc with hc | hc
  ·exact d2 c hc
  ·rw [List.mem_singleton.1 hc]; exact hm
 split
 ·refine F33.law _ _ _ _ hb (by omega) (by omega) (by decide) fun w hw => ⟨by omega, hq _ _ (by rw [List.length_set]; omega) (cb_set d2 ⟨?_, hm.was, hm.now⟩) (by omega) (by omega)⟩
  simp only [List.mem_cons, List.not_mem_nil, or_false] at hw
  dsimp only
  rcases hw with rfl | rfl | rfl <;> decide
 exact hq _ _ (by omega) d2 (by omega) (by omega)
theorem F23.law (code : List UInt8) (Q : List Feat → List Change → Prop) (hq : ∀ s d, MD s → d.length ≤ 17 → (∀ c ∈ d, CB c) → Q s d) : F23.E code Q := by
 unfold F23.E
 refine F44.law _ _ fun b hb => F76.law _ _ _ hb (by omega) (by omega) fun s p ms p0 p1 => F56.law _ _ ?_
 cases hs : sheetOk s with
 | false => rw [if_pos (by decide)]; exact F81.law _ _ _ hb (by omega) (by omega) fun d p' h1 h2 _ _ => hq _ _ ms h1 h2
 | true =>
 rw [if_neg (by decide)]
 refine F15.law _ _ _ _ hb (by omega) (by omega) fun v hv0 hv1 => ?_
 split
 ·exact F81.law _ _ _ hb (by omega) (by omega) fun d p' h1 h2 _ _ => hq _ _ ms h1 h2
 refine F78.law _ _ _ _ hb (by omega) (by omega) hs ms.nz fun r p4 hr rz p5 p6 => F109.law _ _ _ ms.small (Nat.le_trans (MB.of hr).small (by decide)) (Nat.le_trans (sheet_ss hs).2.1 (by decide)) (Nat.le_trans (sheet_ss hr).2.1 (by decide)) (sheet_ss hs).1 ?_
 obtain ⟨d1, d2⟩ := diffL_cb hs hr
 refine F15.law _ _ _ _ hb (by omega) (by omega) fun w hw0 hw1 => ?_
 split
 ·exact F78.law _ _ _ _ hb (by omega) (by omega) hs ms.nz fun t p7 ht tz _ _ => hq _ _ ⟨(MB.of ht).mono (by omega) (by omega), tz⟩ (by omega) d2
 exact hq _ _ ms (by omega) d2
theorem F68.law (n lo hi : Int) (Q : Bool → Prop) (hq : Q (decide (lo ≤ n) && decide (n ≤ hi))) : F68.E n lo hi Q := by
 unfold F68.E
 by_cases h : lo ≤ n
 ·rw [if_pos (by simpa using h)]; rw [decide_eq_true h, Bool.true_and] at hq; exact hq
 ·rw [if_neg (by simpa using h)]; rw [decide_eq_false h, Bool.false_and] at hq; exact hq
theorem F68.m_is (n lo hi : Int) : F68.m n lo hi = (decide (lo ≤ n) && decide (n ≤ hi)) := by
 unfold F68.m
 by_cases h : lo ≤ n
 ·rw [if_pos (by simpa using h), decide_eq_true h, Bool.true_and]
 ·rw [if_neg (by simpa using h), decide_eq_false h, Bool.false_and]
theorem F69.law (s : Str) (Q : Bool → Prop) (hl : s.length ≤ 1048576) (hq : Q (wordOk s)) : F69.E s Q := by
 unfold F69.E
 unfold wordOk at hq
 refine loop_all s.length (fun k => byteOk (nth s (k : Int))) (fun I mu k hk hp hn => ?_) (fun ha => ?_)
 ·refine ⟨by omega, ?_⟩
  cases h1 : decide (((nth s (k : Int)).toNat : Int) < 97) with
  | true => rw [if_pos rfl]; rw [allN_false hk (by simp only [byteOk, h1]; rfl), Bool.false_and] at hq; exact hq
  | false =>
   rw [if_neg (by decide)]
   refine ⟨by omega, ?_⟩
   cases h2 : decide (((nth s (k : Int)).toNat : Int) > 122) with
   | true => rw [if_pos rfl]; rw [allN_false hk (by simp only [byteOk, h1, h2]; rfl), Bool.false_and] at hq; exact hq
   | false =>
    rw [if_neg (by decide)]
    obtain ⟨i1, i2⟩ := hn (by simp only [byteOk, h1, h2]; rfl)
    exact ⟨by unfold I64; omega, i1, i2⟩
 ·rw [allN_true ha, Bool.true_and] at hq
  refine F68.law _ _ _ _ ?_
  have e1 : decide ((1 : Int) ≤ (s.length : Int)) = decide (1 ≤ s.length) := decide_eq_decide.2 (by omega)
  have e2 : decide ((s.length : Int) ≤ 6) = decide (s.length ≤ 6) := decide_eq_decide.2 (by omega)
  rw [e1, e2]; exact hq
theorem F107.law (p : Pt) (Q : Bool → Prop) (hq : Q (ptOk p)) : F107.E p Q := by
 unfold F107.E
 unfold ptOk at hq
 refine F68.law _ _ _ _ ?_
 change if inR p.X = true then _ else _
 cases h : inR p.X with
 | true => rw [if_pos rfl]; rw [h, Bool.true_and] at hq; exact F68.law _ _ _ _ hq
 | false => rw [if_neg (by decide)]; rw [h, Bool.false_and] at hq; exact hq
theorem F47.law (s : Shape) (Q : Bool → Prop) (hl : s.Pts.length ≤ 1048576) (hq : Q (shapeOk s)) : F47.E s Q := by
 unfold F47.E
 unfold shapeOk ptsOk at hq
 refine loop_all s.Pts.length (fun k => ptOk (nth s.Pts (k : Int)) && (decide (k = 0) || !(decide (nth s.Pts ((k : Int) - 1) = nth s.Pts (k : Int))))) (fun I mu k hk hp hn => ?_) (fun ha => ?_)
 ·refine ⟨by omega, _, F107.law _ _ rfl, ?_⟩
  have bad : (ptOk (nth s.Pts (k : Int)) && (decide (k = 0) || !(decide (nth s.Pts ((k : Int) - 1) = nth s.Pts (k : Int))))) = false → Q false := fun h => by
   rw [allN_false hk h, Bool.false_and] at hq; exact hq
  cases h1 : ptOk (nth s.Pts (k : Int)) with
  | false => rw [if_pos (by decide)]; exact bad (by rw [h1]; rfl)
  | true =>
   rw [if_neg (by decide)]
   by_cases hk0 : k = 0
   ·rw [if_neg (by rw [decide_eq_true_eq]; omega)]
    obtain ⟨i1, i2⟩ := hn (by rw [h1, decide_eq_true hk0]; rfl)
    exact ⟨by unfold I64; omega, i1, i2⟩
   ·rw [if_pos (by rw [decide_eq_true_eq]; omega)]
    refine ⟨by unfold I64; omega, by omega, ?_⟩
    rw [eqPt_is]
    by_cases he : nth s.Pts ((k : Int) - 1) = nth s.Pts (k : Int)
    ·rw [if_pos (by rw [decide_eq_true_eq]; exact he)]
     exact bad (by rw [h1, decide_eq_false hk0, decide_eq_true he]; rfl)
    ·rw [if_neg (by rw [decide_eq_true_eq]; exact he)]
     obtain ⟨i1, i2⟩ := hn (by simp only [h1, decide_eq_false hk0, decide_eq_false he]; rfl)
     exact ⟨by unfold I64; omega, i1, i2⟩
 ·rw [allN_true ha, Bool.true_and] at hq
  unfold kindOk at hq
  by_cases k1 : s.Kind = 1
  ·rw [if_pos k1] at hq
   rw [if_pos (by rw [beq_iff_eq]; exact k1)]
   have : ((s.Pts.length : Int) == 1) = decide (s.Pts.length = 1) := by rw [Bool.eq_iff_iff, beq_iff_eq, decide_eq_true_eq]; omega
   rw [this]; exact hq
  rw [if_neg k1] at hq
  rw [if_neg (by rw [beq_iff_eq]; exact k1)]
  have e2 : decide ((2 : Int) ≤ (s.Pts.length : Int)) = decide (2 ≤ s.Pts.length) := decide_eq_decide.2 (by omega)
  have e3 : decide ((3 : Int) ≤ (s.Pts.length : Int)) = decide (3 ≤ s.Pts.length) := decide_eq_decide.2 (by omega)
  have e6 : decide ((s.Pts.length : Int) ≤ 6) = decide (s.Pts.length ≤ 6) := decide_eq_decide.2 (by omega)
  by_cases k2 : s.Kind = 2
  ·rw [if_pos k2] at hq
   rw [if_pos (by rw [beq_iff_eq]; exact k2)]
   refine F68.law _ _ _ _ ?_
   rw [e2, e6]; exact hq
  rw [if_neg k2] at hq
  rw [if_neg (by rw [beq_iff_eq]; exact k2)]
  by_cases k3 : s.Kind = 3
  ·rw [if_pos k3] at hq
   rw [if_pos (by rw [beq_iff_eq]; exact k3), F68.m_is, e3, e6]
   cases hc : decide (3 ≤ s.Pts.length) && decide (s.Pts.length ≤ 6) with
   | true =>
    rw [hc, Bool.true_and] at hq
    rw [Bool.and_eq_true, decide_eq_true_eq, decide_eq_true_eq] at hc
    rw [if_pos rfl, eqPt_is]
    exact ⟨by omega, fun _ => by unfold I64; omega, by omega, hq⟩
   | false =>
    rw [hc, Bool.false_and] at hq
    rw [if_neg (by decide)]; exact hq
  ·rw [if_neg k3] at hq
   rw [if_neg (by rw [beq_iff_eq]; exact k3)]; exact hq
theorem F70.law (f : Feat) (Q : Bool → Prop) (hb : bulk f ≤ 1048576) (hq : Q (featOk f)) : F70.E f Q := by
 unfold F70.E
 unfold featOk at hq
 have b1 : bulk f = bulk f.Id + bulk f.Shape + bulk f.Tags := rfl
 have b2 : bulk f.Shape = bulk f.Shape.Kind + bulk f.Shape.Pts := rfl
 have l1 := bulk_len f.Tags; have l2 := bulk_len f.Shape.Pts; have l3 := bulk_len f.Id
 have core : (tagsOk f.Tags = true → F69.E f.Id (fun r3 => (if r3 then F47.E f.Shape (fun r4 => (if r4 then Q (decide ((f.Tags.length : Int) ≤ 4)) else Q false)) else Q false))) := fun ha => by
  rw [ha, Bool.true_and] at hq
  refine F69.law _ _ (by omega) ?_
  cases h1 : wordOk f.Id with
  | false => rw [h1, Bool.and_false, Bool.false_and] at hq; rw [if_neg (by decide)]; exact hq
  | true =>
   rw [h1, Bool.and_true] at hq
   rw [if_pos rfl]
   refine F47.law _ _ (by omega) ?_
   cases h2 : shapeOk f.Shape with
   | false => rw [h2, Bool.and_false] at hq; rw [if_neg (by decide)]; exact hq
   | true =>
    rw [h2, Bool.and_true] at hq; rw [if_pos rfl]
    have e2 : decide ((f.Tags.length : Int) ≤ 4) = decide (f.Tags.length ≤ 4) := decide_eq_decide.2 (by omega)
    rw [e2]; exact hq
 have bad : tagsOk f.Tags = false → Q false := fun h => by
  rw [h, Bool.false_and, Bool.false_and, Bool.false_and] at hq; exact hq
 unfold tagsOk at core bad
 refine loop_all f.Tags.length (fun k => wordOk (nth f.Tags (k : Int)).Key && wordOk (nth f.Tags (k : Int)).Val && (decide (k = 0) || Op.bytesLess (nth f.Tags ((k : Int) - 1)).Key (nth f.Tags (k : Int)).Key)) (fun I mu k hk hp hn => ?_) (fun ha => core (allN_true ha))
 have bad := fun h => bad (allN_false hk h)
 have m1 := bulk_mem (nth_mem f.Tags hk)
 have m2 : bulk (nth f.Tags (k : Int)) = bulk (nth f.Tags (k : Int)).Key + bulk (nth f.Tags (k : Int)).Val := rfl
 have m3 := bulk_len (nth f.Tags (k : Int)).Key; have m4 := bulk_len (nth f.Tags (k : Int)).Val
 refine ⟨by omega, _, F69.law _ _ (by omega) rfl, ?_⟩
 cases h1 : wordOk (nth f.Tags (k : Int)).Key with
 | false => rw [if_pos (by decide)]; exact bad (by rw [h1]; rfl)
 | true =>
  rw [if_neg (by decide)]
  refine ⟨_, F69.law _ _ (by omega) rfl, ?_⟩
  cases h2 : wordOk (nth f.Tags (k : Int)).Val with
  | false => rw [if_pos (by decide)]; exact bad (by rw [h2, Bool.and_false]; rfl)
  | true =>
   rw [if_neg (by decide)]
   by_cases hk0 : k = 0
   ·rw [if_neg (by rw [decide_eq_true_eq]; omega)]
    obtain ⟨i1, i2⟩ := hn (by rw [h1, h2, decide_eq_true hk0]; rfl)
    exact ⟨by unfold I64; omega, i1, i2⟩
   ·rw [if_pos (by rw [decide_eq_true_eq]; omega)]
    refine ⟨by unfold I64; omega, by omega, ?_⟩
    cases h3 : Op.bytesLess (nth f.Tags ((k : Int) - 1)).Key (nth f.Tags (k : Int)).Key with
    | false => rw [if_pos (by decide)]; exact bad (by rw [h3, h1, h2, decide_eq_false hk0]; rfl)
    | true =>
     rw [if_neg (by decide)]
     obtain ⟨i1, i2⟩ := hn (by rw [h3, h1, h2, decide_eq_false hk0]; rfl)
     exact ⟨by unfold I64; omega, i1, i2⟩
theorem F57.law (d : List Feat) (Q : Bool → Prop) (hb : bulk d ≤ 1048576) (hq : Q (sheetOk d)) : F57.E d Q := by
 unfold F57.E
 unfold sheetOk at hq
 have hl := bulk_len d
 refine loop_all d.length (fun k => featOk (nth d (k : Int)) && (decide (k = 0) || Op.bytesLess (nth d ((k : Int) - 1)).Id (nth d (k : Int)).Id)) (fun I mu k hk hp hn => ?_) (fun ha => ?_)
 ·have bad : (featOk (nth d (k : Int)) && (decide (k = 0) || Op.bytesLess (nth d ((k : Int) - 1)).Id (nth d (k : Int)).Id)) = false → Q false := fun h => by
   rw [allN_false hk h, Bool.false_and] at hq; exact hq
  have m1 := bulk_mem (nth_mem d hk)
  refine ⟨by omega, _, F70.law _ _ (by omega) rfl, ?_⟩
  cases h1 : featOk (nth d (k : Int)) with
  | false => rw [if_pos (by decide)]; exact bad (by rw [h1]; rfl)
  | true =>
   rw [if_neg (by decide)]
   by_cases hk0 : k = 0
   ·rw [if_neg (by rw [decide_eq_true_eq]; omega)]
    obtain ⟨i1, i2⟩ := hn (by rw [h1, decide_eq_true hk0]; rfl)
    exact ⟨by unfold I64; omega, i1, i2⟩
   ·rw [if_pos (by rw [decide_eq_true_eq]; omega)]
    refine ⟨by unfold I64; omega, by omega, ?_⟩
    cases h3 : Op.bytesLess (nth d ((k : Int) - 1)).Id (nth d (k : Int)).Id with
    | false => rw [if_pos (by decide)]; exact bad (by rw [h3, h1, decide_eq_false hk0]; rfl)
    | true =>
     rw [if_neg (by decide)]
     obtain ⟨i1, i2⟩ := hn (by rw [h3, h1, decide_eq_false hk0]; rfl)
     exact ⟨by unfold I64; omega, i1, i2⟩
 ·rw [allN_true ha, Bool.true_and] at hq
  have e2 : decide ((d.length : Int) ≤ 8) = decide (d.length ≤ 8) := decide_eq_decide.2 (by omega)
  rw [e2]; exact hq
theorem F82.law (f : Feat) (Q : Bool → Prop) (hq : Q (noF f)) : F82.E f Q := by
 unfold F82.E
 obtain ⟨i, ⟨k, p⟩, t⟩ := f
 unfold noF at hq
 dsimp only
 have e : decide ((⟨i, ⟨k, p⟩, t⟩ : Feat) = ⟨[], ⟨0, []⟩, []⟩) = (decide (i = []) && decide (k = 0) && decide (p = []) && decide (t = [])) := by
  rw [Bool.eq_iff_iff]; simp [and_assoc]
 rw [e] at hq
 cases h1 : decide (i = []) with
 | false => rw [h1] at hq; rw [if_neg (by rw [beq_iff_eq]; exact of_decide_eq_false h1)]; exact hq
 | true =>
  rw [if_pos (by rw [beq_iff_eq]; exact of_decide_eq_true h1)]
  cases h2 : decide (k = 0) with
  | false => rw [h1, h2] at hq; rw [if_neg (by rw [beq_iff_eq]; exact of_decide_eq_false h2)]; exact hq
  | true =>
   rw [if_pos (by rw [beq_iff_eq]; exact of_decide_eq_true h2)]
   cases h3 : decide (p = []) with
   | false => rw [h1, h2, h3] at hq; rw [if_neg (by rw [beq_iff_eq]; have := of_decide_eq_false h3; intro e; exact this (List.length_eq_zero_iff.1 (by omega)))]; exact hq
   | true =>
    rw [if_pos (by rw [beq_iff_eq, of_decide_eq_true h3]; rfl)]
    rw [h1, h2, h3] at hq
    have : ((t.length : Int) == 0) = decide (t = []) := by
     rw [Bool.eq_iff_iff, beq_iff_eq, decide_eq_true_eq]
     exact ⟨fun e => List.length_eq_zero_iff.1 (by omega), fun e => by rw [e]; rfl⟩
    rw [this]; exact hq
theorem F83.law (id : Str) (has : Bool) (f : Feat) (Q : Bool → Prop) (hb : bulk f ≤ 1048576) (hq : Q (sideOk id has f)) : F83.E id has f Q := by
 unfold F83.E
 unfold sideOk at hq
 cases has with
 | false => rw [if_pos (by decide)]; rw [if_neg (by decide)] at hq; exact F82.law _ _ hq
 | true =>
  rw [if_neg (by decide)]; rw [if_pos rfl] at hq
  refine F70.law _ _ hb ?_
  cases h : featOk f with
  | false => rw [h] at hq; rw [if_neg (by decide)]; exact hq
  | true =>
   rw [h, Bool.true_and] at hq; rw [if_pos rfl]
   have : (f.Id == id) = decide (f.Id = id) := by rw [Bool.eq_iff_iff, beq_iff_eq, decide_eq_true_eq]
   rw [this]; exact hq
theorem F13.law (a b : List Tag) (Q : Bool → Prop) (hb : a.length ≤ 1048576) (hq : Q (decide (a = b))) : F13.E a b Q := by
 unfold F13.E
 exact eqI_shape eqTag eqTag_is a b Q hb hq
theorem F16.law (a b : List Pt) (Q : Bool → Prop) (hb : a.length ≤ 1048576) (hq : Q (decide (a = b))) : F16.E a b Q := by
 unfold F16.E
 exact eqI_shape eqPt eqPt_is a b Q hb hq
theorem F26.law (a b : Shape) (Q : Bool → Prop) (hl : a.Pts.length ≤ 1048576) (hq : Q (decide (a = b))) : F26.E a b Q := by
 unfold F26.E
 by_cases h : a.Kind = b.Kind
 ·rw [if_pos (by rw [beq_iff_eq]; exact h)]
  refine F16.law _ _ _ (by omega) ?_
  have : decide (a.Pts = b.Pts) = decide (a = b) := decide_eq_decide.2 (by rw [Shape.ext_iff']; exact ⟨fun e => ⟨h, e⟩, fun e => e.2⟩)
  rw [this]; exact hq
 ·rw [if_neg (by rw [beq_iff_eq]; exact h)]
  rw [decide_eq_false (by rw [Shape.ext_iff']; exact fun e => h e.1)] at hq; exact hq
theorem F40.law (a b : Feat) (Q : Bool → Prop) (hl : a.Shape.Pts.length ≤ 1048576 ∧ a.Tags.length ≤ 1048576) (hq : Q (decide (a = b))) : F40.E a b Q := by
 unfold F40.E
 by_cases h : a.Id = b.Id
 ·rw [if_pos (by rw [beq_iff_eq]; exact h)]
  refine F26.law _ _ _ (by omega) ?_
  by_cases h2 : a.Shape = b.Shape
  ·rw [decide_eq_true h2, if_pos rfl]
   refine F13.law _ _ _ (by omega) ?_
   have : decide (a.Tags = b.Tags) = decide (a = b) := decide_eq_decide.2 (by rw [Feat.ext_iff']; exact ⟨fun e => ⟨h, h2, e⟩, fun e => e.2.2⟩)
   rw [this]; exact hq
  ·rw [decide_eq_false h2, if_neg (by decide)]
   rw [decide_eq_false (by rw [Feat.ext_iff']; exact fun e => h2 e.2.1)] at hq; exact hq
 ·rw [if_neg (by rw [beq_iff_eq]; exact h)]
  rw [decide_eq_false (by rw [Feat.ext_iff']; exact fun e => h e.1)] at hq; exact hq
theorem F14.law (c : Change) (Q : Bool → Prop) (hb : bulk c ≤ 1048576) (hq : Q (sameC c)) : F14.E c Q := by
 unfold F14.E
 unfold sameC at hq
 have b1 : bulk c = bulk c.Id + bulk c.Had + bulk c.Was + bulk c.Has + bulk c.Now := rfl
 have b2 : bulk c.Was = bulk c.Was.Id + bulk c.Was.Shape + bulk c.Was.Tags := rfl
 have b3 : bulk c.Was.Shape = bulk c.Was.Shape.Kind + bulk c.Was.Shape.Pts := rfl
 have l1 := bulk_len c.Was.Tags; have l2 := bulk_len c.Was.Shape.Pts
 by_cases h : c.Had = c.Has
 ·rw [if_pos (by rw [beq_iff_eq]; exact h)]
  rw [decide_eq_true h, Bool.true_and] at hq
  exact F40.law _ _ _ (by omega) hq
 ·rw [if_neg (by rw [beq_iff_eq]; exact h)]
  rw [decide_eq_false h] at hq; exact hq
theorem F84.law (d : List Change) (Q : Bool → Prop) (hb : bulk d ≤ 1048576) (hq : Q (diffOk d)) : F84.E d Q := by
 unfold F84.E
 unfold diffOk at hq
 have hl := bulk_len d
 refine loop_all d.length (fun k => changeOk (nth d (k : Int)) && (decide (k = 0) || Op.bytesLess (nth d ((k : Int) - 1)).Id (nth d (k : Int)).Id)) (fun I mu k hk hp hn => ?_) (fun ha => ?_)
 ·have bad : (changeOk (nth d (k : Int)) && (decide (k = 0) || Op.bytesLess (nth d ((k : Int) - 1)).Id (nth d (k : Int)).Id)) = false → Q false := fun h => by
   rw [allN_false hk h, Bool.false_and] at hq; exact hq
  have m1 := bulk_mem (nth_mem d hk)
  have b1 : bulk (nth d (k : Int)) = bulk (nth d (k : Int)).Id + bulk (nth d (k : Int)).Had + bulk (nth d (k : Int)).Was + bulk (nth d (k : Int)).Has + bulk (nth d (k : Int)).Now := rfl
  have l1 := bulk_len (nth d (k : Int)).Id
  generalize hc : nth d (k : Int) = c at *
  refine ⟨by omega, _, F69.law _ _ (by omega) rfl, ?_⟩
  have co : ∀ a b e g : Bool, wordOk c.Id = a → sideOk c.Id c.Had c.Was = b → sideOk c.Id c.Has c.Now = e → sameC c = g → changeOk c = (a && b && e && !g) := fun a b e g h1 h2 h3 h4 => by unfold changeOk; rw [h1, h2, h3, h4]
  have rest : wordOk c.Id = true → (decide (k = 0) || Op.bytesLess (nth d ((k : Int) - 1)).Id c.Id) = true →
    (∃ q : Bool, F83.E c.Id c.Had c.Was (fun x => x = q) ∧ (if !q then Q false else (∃ q2 : Bool, F83.E c.Id c.Has c.Now (fun x => x = q2) ∧ (if !q2 then Q false else (∃ q3 : Bool, F14.E c (fun x => x = q3) ∧ (if q3 then Q false else (I64 ((k : Int) + 1)) ∧ I ((k : Int) + 1) ∧ mu ((k : Int) + 1) < mu (k : Int))))))) := fun h1 ho => by
   refine ⟨_, F83.law _ _ _ _ (by omega) rfl, ?_⟩
   cases h2 : sideOk c.Id c.Had c.Was with
   | false => rw [if_pos (by decide)]; exact bad (by rw [co _ _ _ _ h1 h2 rfl rfl]; rfl)
   | true =>
    rw [if_neg (by decide)]
    refine ⟨_, F83.law _ _ _ _ (by omega) rfl, ?_⟩
    cases h3 : sideOk c.Id c.Has c.Now with
    | false => rw [if_pos (by decide)]; exact bad (by rw [co _ _ _ _ h1 h2 h3 rfl]; rfl)
    | true =>
     rw [if_neg (by decide)]
     refine ⟨_, F14.law _ _ (by omega) rfl, ?_⟩
     cases h4 : sameC c with
     | true => rw [if_pos rfl]; exact bad (by rw [co _ _ _ _ h1 h2 h3 h4]; rfl)
     | false =>
      rw [if_neg (by decide)]
      obtain ⟨i1, i2⟩ := hn (by rw [co _ _ _ _ h1 h2 h3 h4, ho]; rfl)
      exact ⟨by unfold I64; omega, i1, i2⟩
  cases h1 : wordOk c.Id with
  | false => rw [if_pos (by decide)]; exact bad (by rw [co _ _ _ _ h1 rfl rfl rfl]; rfl)
  | true =>
   rw [if_neg (by decide)]
   by_cases hk0 : k = 0
   ·rw [if_neg (by rw [decide_eq_true_eq]; omega)]
    exact rest h1 (by rw [decide_eq_true hk0]; rfl)
   ·rw [if_pos (by rw [decide_eq_true_eq]; omega)]
    refine ⟨by unfold I64; omega, by omega, ?_⟩
    cases h3 : Op.bytesLess (nth d ((k : Int) - 1)).Id c.Id with
    | false => rw [if_pos (by decide)]; exact bad (by rw [h3, decide_eq_false hk0]; simp)
    | true => rw [if_neg (by decide)]; exact rest h1 (by rw [h3, Bool.or_true])
 ·rw [allN_true ha, Bool.true_and] at hq
  have e2 : decide ((d.length : Int) ≤ 16) = decide (d.length ≤ 16) := decide_eq_decide.2 (by omega)
  rw [e2]; exact hq
theorem F27.law (f : Feat) (Q : Feat → Prop) (hb : bulk f ≤ 1048576) (hq : Q f) : F27.E f Q := by
 unfold F27.E F17.E
 have h := bulk_feat f
 have h1 := bulk_len f.Tags
 have h2 := bulk_len f.Shape.Pts
 exact ⟨by simp only [List.length_nil]; omega, by simp only [List.length_nil]; omega, hq⟩
theorem F24.law (s : List Feat) (Q : List Feat → Prop) (hb : bulk s ≤ 1048576) (hq : Q s) : F24.E s Q := by
 unfold F24.E
 have hl := bulk_len s
 refine ⟨fun xs i => ∃ u : Nat, i = u ∧ u ≤ s.length ∧ xs = s.take u, fun _ i => (s.length - i).toNat, ⟨0, rfl, Nat.zero_le _, rfl⟩, ?_⟩
 rintro _ _ ⟨u, rfl, hu, rfl⟩
 by_cases h : u < s.length
 ·rw [if_pos (by simpa using h)]
  have hm := bulk_mem (nth_mem s h)
  refine ⟨by omega, F27.law _ _ (by omega) ⟨by simp only [List.length_take, List.length_cons, List.length_nil]; omega, by unfold I64; omega, ⟨u + 1, by omega, by omega, ?_⟩, by dsimp only; omega⟩⟩
  rw [take_nth s h]
 ·rw [if_neg (by simpa using h)]
  have : u = s.length := by omega
  subst this
  rw [List.take_length]; exact hq
theorem F1.law (s : List Feat) (f : Feat → Bool) (ok : Feat → Prop) (Q : Int → Prop) (hl : s.length ≤ 1048576) (hok : ∀ x ∈ s, ok x) (hq : Q (findN s.length fun j => f (nth s (j : Int)))) : F1.E s f ok Q := by
 unfold F1.E
 refine loop_find s.length (fun j => f (nth s (j : Int))) hq (fun I mu k hk h1 h2 => ⟨by omega, hok _ (nth_mem s hk), ?_⟩)
 cases h : f (nth s (k : Int)) with
 | true => rw [if_pos rfl]; exact h1 h
 | false => rw [if_neg (by decide)]; obtain ⟨i1, i2⟩ := h2 h; exact ⟨by unfold I64; omega, i1, i2⟩
theorem F85.law (s : List Feat) (id : Str) (Q : Int → Prop) (hl : s.length ≤ 1048576) (hq : Q (findN s.length fun j => (nth s (j : Int)).Id == id)) : F85.E s id Q := by
 unfold F85.E
 refine ⟨fun x => x.Id == id, fun x => x ∈ s, fun x hx => ?_, F1.law _ _ _ _ hl (fun x hx => hx) hq⟩
 unfold F42.E
 rfl
theorem F110.law (s : List Feat) (id : Str) (Q : Feat → Bool → Prop) (hb : bulk s ≤ 1048576) (hq : Q (sideOf s id).1 (sideOf s id).2) : F110.E s id Q := by
 unfold F110.E
 have hl := bulk_len s
 refine F85.law _ _ _ (by omega) ?_
 have h1 := findN_le s.length fun j => (nth s (j : Int)).Id == id
 unfold sideOf at hq
 by_cases h : findN s.length (fun j => (nth s (j : Int)).Id == id) < 0
 ·rw [if_pos h] at hq; rw [if_pos (by simpa using h)]; exact hq
 ·rw [if_neg h] at hq; rw [if_neg (by simpa using h)]
  exact ⟨by omega, F27.law _ _ (by have := bulk_mem (nth_memi s (by omega) h1.2); omega) hq⟩
theorem F86.law (s : List Feat) (d : List Change) (Q : List Feat → Bool → Prop) (h1 : bulk s ≤ 1048576) (h2 : bulk d ≤ 1048576) (hq : Q (diffDo s d).1 (diffDo s d).2) : F86.E s d Q := by
 unfold F86.E
 unfold diffDo at hq
 have zq : (sheetOk s && diffOk d && d.all (fits s) && sheetOk (doL s d)) = false → Q [] false := fun h => by rw [h, if_neg (by decide)] at hq; exact hq
 refine F57.law _ _ h1 ?_
 cases ks : sheetOk s with
 | false => rw [if_pos (by decide)]; exact zq (by rw [ks]; rfl)
 | true =>
 rw [if_neg (by decide)]
 refine F84.law _ _ h2 ?_
 cases kd : diffOk d with
 | false => rw [if_pos (by decide)]; exact zq (by rw [ks, kd]; rfl)
 | true =>
 rw [if_neg (by decide)]
 have fs := sheet_fs ks; have dc := diff_cs kd; have ls := (sheet_ss ks).2.1; have ld := dc.2.1
 have nd0 : (ids s).Nodup := (sheet_ss ks).1.imp fun {a b} h e => by rw [e, less_irr] at h; cases h
 refine F24.law _ _ h1 ?_
 refine ⟨fun xs i => ∃ u : Nat, i = u ∧ u ≤ d.length ∧ (ids xs).Nodup ∧ xs.length ≤ s.length + u ∧ (∀ f, f ∈ xs ↔ Mem s (d.take u) f) ∧ ∀ c ∈ d.take u, fits s c = true, fun _ i => (d.length - i).toNat, ⟨0, rfl, Nat.zero_le _, nd0, by omega, fun f => (Mem.zero s d f).symm, by simp⟩, ?_⟩
 rintro xs _ ⟨u, rfl, hu, g1, g2, g3, g4⟩
 by_cases h : u < d.length
 ·rw [if_pos (by simpa using h)]
  have hm : nth d (u : Int) ∈ d := nth_mem d h
  have hb := change_small (dc.2.2 _ hm)
  have st := fun f => Mem.step (s := s) h dc.1 dc.2.2 f
  have bad : fits s (nth d (u : Int)) = false → Q [] false := fun kf => zq (by
   have : d.all (fits s) = false := by
    rw [List.all_eq_false]; exact ⟨_, hm, by rw [kf]; decide⟩
   rw [this]; simp)
  have sb := sideOf_small ks (nth d (u : Int)).Id
  have sb2 : (sideOf s (nth d (u : Int)).Id).1.Shape.Pts.length ≤ 1048576 ∧ (sideOf s (nth d (u : Int)).Id).1.Tags.length ≤ 1048576 := by
   have e := bulk_feat (sideOf s (nth d (u : Int)).Id).1
   have e2 := bulk_len (sideOf s (nth d (u : Int)).Id).1.Tags
   have e3 := bulk_len (sideOf s (nth d (u : Int)).Id).1.Shape.Pts
   omega
  refine ⟨by omega, F110.law _ _ _ h1 ?_⟩
  by_cases k1 : (sideOf s (nth d (u : Int)).Id).2 = (nth d (u : Int)).Had
  case neg => rw [if_pos (by rw [bne_iff_ne]; exact k1)]; exact bad (by unfold fits; rw [decide_eq_false k1]; rfl)
  rw [if_neg (by rw [k1]; simp)]
  refine F40.law _ _ _ sb2 ?_
  by_cases k2 : (sideOf s (nth d (u : Int)).Id).1 = (nth d (u : Int)).Was
  case neg => rw [decide_eq_false k2, if_pos (by decide)]; exact bad (by unfold fits; rw [decide_eq_false k2, Bool.and_false])
  rw [decide_eq_true k2, if_neg (by decide)]
  have kf : fits s (nth d (u : Int)) = true := by unfold fits; rw [decide_eq_true k1, decide_eq_true k2]; rfl
  have g4' : ∀ c ∈ d.take (u + 1), fits s c = true := fun c hc => by
   rw [take_nth d h] at hc
   rcases List.mem_append.1 hc with hc | hc
   ·exact g4 c hc
   ·rw [List.mem_singleton.1 hc]; exact kf
  -- what follows when the name is gone
  have fin : ∀ ys : List Feat, (ids ys).Nodup → (∀ f, f ∈ ys ↔ f ∈ xs ∧ f.Id ≠ (nth d (u : Int)).Id) → ys.length ≤ xs.length →
    (if (nth d (u : Int)).Has = true then F27.E (nth d (u : Int)).Now (fun r => (ys.length + ([r] : List Feat).length ≤ 268435456) ∧ (I64 ((u : Int) + 1)) ∧ (∃ v : Nat, (u : Int) + 1 = v ∧ v ≤ d.length ∧ (ids (ys ++ [r])).Nodup ∧ (ys ++ [r]).length ≤ s.length + v ∧ (∀ f, f ∈ ys ++ [r] ↔ Mem s (d.take v) f) ∧ ∀ c ∈ d.take v, fits s c = true) ∧ (d.length - ((u : Int) + 1)).toNat < (d.length - (u : Int)).toNat)
    else (I64 ((u : Int) + 1)) ∧ (∃ v : Nat, (u : Int) + 1 = v ∧ v ≤ d.length ∧ (ids ys).Nodup ∧ ys.length ≤ s.length + v ∧ (∀ f, f ∈ ys ↔ Mem s (d.take v) f) ∧ ∀ c ∈ d.take v, fits s c = true) ∧ (d.length - ((u : Int) + 1)).toNat < (d.length - (u : Int)).toNat) := fun ys n1 n2 n3 => by
   split
   ·rename_i kh
    have hid := (now_id dc.2.2 hm kh).1
    refine F27.law _ _ (by omega) ⟨by simp only [List.length_cons, List.length_nil]; omega, by unfold I64; omega, ⟨u + 1, by omega, by omega, ?_, by simp only [List.length_append, List.length_cons, List.length_nil]; omega, fun f => ?_, g4'⟩, by omega⟩
    ·rw [ids_app]
     refine List.nodup_append.2 ⟨n1, by simp [ids], fun a ha b hb' => ?_⟩
     have hb' : b = (nth d (u : Int)).Now.Id := List.mem_singleton.1 hb'
     obtain ⟨f, hf, rfl⟩ := List.mem_map.1 ha
     rw [hb', hid]; exact ((n2 f).1 hf).2
    ·rw [List.mem_append, List.mem_singleton, n2, st, g3, kh]
     constructor
     ·rintro (hx | rfl)
      ·exact .inl hx
      ·exact .inr ⟨rfl, rfl⟩
     ·rintro (hx | ⟨_, rfl⟩)
      ·exact .inl hx
      ·exact .inr rfl
   ·rename_i kh
    refine ⟨by unfold I64; omega, ⟨u + 1, by omega, by omega, n1, by omega, fun f => ?_, g4'⟩, by omega⟩
    rw [n2, st, g3]
    constructor
    ·exact .inl
    ·rintro (hx | ⟨hx, _⟩)
     ·exact hx
     ·exact absurd hx kh
  refine F85.law _ _ _ (by omega) ?_
  have hle := findN_le xs.length fun j => (nth xs (j : Int)).Id == (nth d (u : Int)).Id
  by_cases k3 : findN xs.length (fun j => (nth xs (j : Int)).Id == (nth d (u : Int)).Id) < 0
  ·rw [if_neg (by rw [decide_eq_true_eq]; omega)]
   refine fin xs g1 (fun f => ⟨fun hf => ⟨hf, fun e => ?_⟩, fun hf => hf.1⟩) (Nat.le_refl _)
   obtain ⟨k, hk, rfl⟩ := List.getElem_of_mem hf
   have := findN_neg k3 k hk
   rw [nth_nat xs hk] at this
   simp [e] at this
  ·obtain ⟨k, hk⟩ : ∃ k : Nat, findN xs.length (fun j => (nth xs (j : Int)).Id == (nth d (u : Int)).Id) = (k : Int) := ⟨_, (Int.toNat_of_nonneg (by omega)).symm⟩
   obtain ⟨q1, q2⟩ := findN_true hk
   rw [hk, if_pos (by rw [decide_eq_true_eq]; omega)]
   have q3 : xs[k].Id = (nth d (u : Int)).Id := by rw [nth_nat xs q1] at q2; simpa using q2
   obtain ⟨m1, m2, m3⟩ := del_mem g1 q1
   unfold F10.E
   refine ⟨by unfold I64; omega, ⟨by omega, by omega, by omega⟩, by omega, ?_⟩
   rw [Int.toNat_natCast, show ((k : Int) + 1).toNat = k + 1 by omega]
   exact fin _ m1 (fun f => by rw [m2, q3]) (by omega)
 ·rw [if_neg (by simpa using h)]
  have : u = d.length := by omega
  subst this
  rw [List.take_length] at g3 g4
  unfold F4.E
  refine ⟨by omega, fun r hp hs => ?_⟩
  have n1 : (ids r).Nodup := (hp.map Feat.Id).nodup_iff.2 g1
  have g5 : FS r := by
   have h3 := List.Pairwise.and hs (List.pairwise_map.1 n1)
   refine h3.imp fun {a b} hab => ?_
   rcases less_or hab.1 with g | g
   ·exact g
   ·exact absurd g hab.2
  have e : r = doL s d := FS.ext g5 (doL_fs s dc.2.2) fun f => by rw [hp.mem_iff, g3, doL_mem fs dc.1 dc.2.2]
  subst e
  have ka : d.all (fits s) = true := List.all_eq_true.2 g4
  rw [ks, kd, ka] at hq
  have hsm := doL_small ks kd
  refine F57.law _ _ (by omega) ?_
  cases ko : sheetOk (doL s d) with
  | false => rw [if_pos (by decide)]; rw [ko, if_neg (by decide)] at hq; exact hq
  | true =>
   rw [if_neg (by decide)]
   rw [ko, if_pos (by decide)] at hq
   exact F24.law _ _ (by omega) hq
theorem F104.law (c : Change) (Q : Bool → Prop) (hq : Q (changeOk c)) : F104.E c Q := by
 unfold F104.E
 unfold changeOk sideOk noF sameC at hq
 have eid : ∀ f : Feat, (f.Id == c.Id) = decide (f.Id = c.Id) := fun f => by rw [Bool.eq_iff_iff, beq_iff_eq, decide_eq_true_eq]
 refine F62.law _ _ ?_
 cases hw : wordOk c.Id with
 | false => rw [hw] at hq; rw [if_pos (by decide)]; exact hq
 | true =>
  rw [hw, Bool.true_and] at hq
  rw [if_neg (by decide)]
  cases h1 : c.Had <;> cases h2 : c.Has
  ·-- neither
   rw [h1, h2] at hq
   rw [if_pos (by decide), if_pos (by decide)]
   simp only [reduceIte, Bool.false_eq_true, Bool.true_eq_false, reduceCtorEq, if_false, if_true, eq_self, decide_true, decide_false, Bool.true_and, Bool.false_and, Bool.not_false, Bool.not_true, Bool.and_true] at hq
   have e : (decide (c.Was = (⟨[], ⟨0, []⟩, []⟩ : Feat)) && decide (c.Now = (⟨[], ⟨0, []⟩, []⟩ : Feat)) && !(decide (c.Was = c.Now))) = false := by
    by_cases a : c.Was = (⟨[], ⟨0, []⟩, []⟩ : Feat)
    ·by_cases b : c.Now = (⟨[], ⟨0, []⟩, []⟩ : Feat)
     ·rw [decide_eq_true (a.trans b.symm)]; simp
     ·rw [decide_eq_false b]; simp
    ·rw [decide_eq_false a]; rfl
   rw [e] at hq; exact hq
  ·rw [h1, h2] at hq
   simp only [reduceIte, Bool.false_eq_true, Bool.true_eq_false, reduceCtorEq, if_false, if_true, eq_self, decide_true, decide_false, Bool.true_and, Bool.false_and, Bool.not_false, Bool.not_true, Bool.and_true] at hq
   rw [if_pos (by decide), if_neg (by decide), if_neg (by decide)]
   refine F41.law _ _ _ ?_
   cases ha : decide (c.Was = (⟨[], ⟨0, []⟩, []⟩ : Feat)) with
   | false => rw [ha] at hq; rw [if_pos (by decide)]; exact hq
   | true =>
    rw [ha, Bool.true_and] at hq
    rw [if_neg (by decide)]
    refine F64.law _ _ ?_
    cases hf : featOk c.Now with
    | false => rw [hf] at hq; rw [if_neg (by decide)]; exact hq
    | true => rw [hf, Bool.true_and] at hq; rw [if_pos rfl, eid]; exact hq
  ·rw [h1, h2] at hq
   simp only [reduceIte, Bool.false_eq_true, Bool.true_eq_false, reduceCtorEq, if_false, if_true, eq_self, decide_true, decide_false, Bool.true_and, Bool.false_and, Bool.not_false, Bool.not_true, Bool.and_true] at hq
   rw [if_neg (by decide), if_pos rfl, if_neg (by decide), if_pos (by decide)]
   refine F41.law _ _ _ ?_
   cases ha : decide (c.Now = (⟨[], ⟨0, []⟩, []⟩ : Feat)) with
   | false => rw [ha, Bool.and_false] at hq; rw [if_pos (by decide)]; exact hq
   | true =>
    rw [ha, Bool.and_true] at hq
    rw [if_neg (by decide)]
    refine F64.law _ _ ?_
    cases hf : featOk c.Was with
    | false => rw [hf] at hq; rw [if_neg (by decide)]; exact hq
    | true =>
     rw [hf, Bool.true_and] at hq; rw [if_pos rfl, eid]
     cases hi : decide (c.Was.Id = c.Id) with
     | false => rw [hi] at hq; rw [if_neg (by decide)]; exact hq
     | true => rw [hi] at hq; rw [if_pos rfl]; exact hq
  ·rw [h1, h2] at hq
   simp only [reduceIte, Bool.false_eq_true, Bool.true_eq_false, reduceCtorEq, if_false, if_true, eq_self, decide_true, decide_false, Bool.true_and, Bool.false_and, Bool.not_false, Bool.not_true, Bool.and_true] at hq
   rw [if_neg (by decide), if_pos rfl, if_pos rfl]
   refine F41.law _ _ _ ?_
   cases hs : decide (c.Was = c.Now) with
   | true => rw [hs, Bool.not_true, Bool.and_false] at hq; rw [if_pos rfl]; exact hq
   | false =>
    rw [hs, Bool.not_false, Bool.and_true] at hq
    rw [if_neg (by decide), if_neg (by decide)]
    refine F64.law _ _ ?_
    cases hf : featOk c.Was with
    | false => rw [hf] at hq; rw [if_neg (by decide)]; exact hq
    | true =>
     rw [hf, Bool.true_and] at hq; rw [if_pos rfl, eid]
     cases hi : decide (c.Was.Id = c.Id) with
     | false => rw [hi] at hq; rw [if_neg (by decide)]; exact hq
     | true =>
      rw [hi, Bool.true_and] at hq; rw [if_pos rfl]
      refine F64.law _ _ ?_
      cases hg : featOk c.Now with
      | false => rw [hg] at hq; rw [if_neg (by decide)]; exact hq
      | true => rw [hg, Bool.true_and] at hq; rw [if_pos rfl, eid]; exact hq
theorem F87.law (d : List Change) (Q : Bool → Prop) (hq : Q (diffOk d)) : F87.E d Q := by
 unfold F87.E
 unfold diffOk at hq
 refine loop_all d.length (fun k => changeOk (nth d (k : Int)) && (decide (k = 0) || Op.bytesLess (nth d ((k : Int) - 1)).Id (nth d (k : Int)).Id)) (fun I mu k hk hp hn => ?_) (fun ha => ?_)
 ·have bad : (changeOk (nth d (k : Int)) && (decide (k = 0) || Op.bytesLess (nth d ((k : Int) - 1)).Id (nth d (k : Int)).Id)) = false → Q false := fun h => by
   rw [allN_false hk h, Bool.false_and] at hq; exact hq
  refine ⟨by omega, _, F104.law _ _ rfl, ?_⟩
  cases h1 : changeOk (nth d (k : Int)) with
  | false => rw [if_pos (by decide)]; exact bad (by rw [h1]; rfl)
  | true =>
   rw [if_neg (by decide)]
   by_cases hk0 : k = 0
   ·rw [if_neg (by rw [decide_eq_true_eq]; omega)]
    obtain ⟨i1, i2⟩ := hn (by rw [h1, decide_eq_true hk0]; rfl)
    exact ⟨by omega, i1, i2⟩
   ·rw [if_pos (by rw [decide_eq_true_eq]; omega)]
    refine ⟨by omega, fun _ => by unfold I64; omega, by omega, ?_⟩
    rw [← less_tri]
    cases h3 : Op.bytesLess (nth d ((k : Int) - 1)).Id (nth d (k : Int)).Id with
    | false => rw [if_pos (by decide)]; exact bad (by rw [h3, h1, decide_eq_false hk0]; rfl)
    | true =>
     rw [if_neg (by decide)]
     obtain ⟨i1, i2⟩ := hn (by rw [h3, h1, decide_eq_false hk0]; rfl)
     exact ⟨by omega, i1, i2⟩
 ·rw [allN_true ha, Bool.true_and] at hq
  have e2 : decide ((d.length : Int) ≤ 16) = decide (d.length ≤ 16) := decide_eq_decide.2 (by omega)
  rw [e2]; exact hq
theorem F88.law (s : List Feat) (c : Change) (Q : Bool → Prop) (hb : bulk s ≤ 1048576) (hq : Q (fits s c)) : F88.E s c Q := by
 unfold F88.E
 unfold fits at hq
 refine F79.law _ _ _ hb ?_
 by_cases h : (sideOf s c.Id).2 = c.Had
 ·rw [if_pos (by simpa using h)]
  rw [decide_eq_true h, Bool.true_and] at hq
  exact F41.law _ _ _ hq
 ·rw [if_neg (by simpa using h)]
  rw [decide_eq_false h, Bool.false_and] at hq; exact hq
theorem F89.law (s : List Feat) (Q : List Feat → Prop) (hb : bulk s ≤ 1048576) (hq : Q s) : F89.E s Q := by
 unfold F89.E
 have hl := bulk_len s
 refine ⟨fun xs i => ∃ u : Nat, i = u ∧ u ≤ s.length ∧ xs = s.take u, fun _ i => (s.length - i).toNat, ⟨0, rfl, Nat.zero_le _, rfl⟩, ?_⟩
 rintro _ _ ⟨u, rfl, hu, rfl⟩
 by_cases h : u < s.length
 ·rw [if_pos (by simpa using h)]
  have hm := bulk_mem (nth_mem s h)
  refine ⟨by omega, F60.law _ _ (by omega) ⟨by simp only [List.length_take, List.length_cons, List.length_nil]; omega, by omega, ⟨u + 1, by omega, by omega, ?_⟩, by dsimp only; omega⟩⟩
  rw [take_nth s h]
 ·rw [if_neg (by simpa using h)]
  have : u = s.length := by omega
  subst this
  rw [List.take_length]; exact hq
theorem F90.law (s : List Feat) (d : List Change) (Q : List Feat → Bool → Prop) (h1 : bulk s ≤ 1048576) (hq : Q (diffDo s d).1 (diffDo s d).2) : F90.E s d Q := by
 unfold F90.E
 unfold diffDo at hq
 have zq : (sheetOk s && diffOk d && d.all (fits s) && sheetOk (doL s d)) = false → Q [] false := fun h => by rw [h, if_neg (by decide)] at hq; exact hq
 refine F56.law _ _ ?_
 cases ks : sheetOk s with
 | false => rw [if_pos (by decide)]; exact zq (by rw [ks]; rfl)
 | true =>
 rw [if_neg (by decide)]
 refine F87.law _ _ ?_
 cases kd : diffOk d with
 | false => rw [if_pos (by decide)]; exact zq (by rw [ks, kd]; rfl)
 | true =>
 rw [if_neg (by decide)]
 have fs := sheet_fs ks; have dc := diff_cs kd; have ls := (sheet_ss ks).2.1; have ld := dc.2.1
 refine ⟨fun xs i => ∃ u : Nat, i = u ∧ u ≤ d.length ∧ FS xs ∧ xs.length ≤ s.length + u ∧ (∀ f, f ∈ xs ↔ Mem s (d.take u) f) ∧ ∀ c ∈ d.take u, fits s c = true, fun _ i => (d.length - i).toNat, ⟨0, rfl, Nat.zero_le _, fs, by omega, fun f => (Mem.zero s d f).symm, by simp⟩, ?_⟩
 rintro xs _ ⟨u, rfl, hu, g1, g2, g3, g4⟩
 by_cases h : u < d.length
 ·rw [if_pos (by simpa using h)]
  have hm : nth d (u : Int) ∈ d := nth_mem d h
  have st := fun f => Mem.step (s := s) h dc.1 dc.2.2 f
  refine ⟨by omega, F88.law _ _ _ h1 ?_⟩
  cases kf : fits s (nth d (u : Int)) with
  | false =>
   rw [if_pos (by decide)]
   exact zq (by
    have : d.all (fits s) = false := by
     rw [List.all_eq_false]; exact ⟨_, hm, by rw [kf]; decide⟩
    rw [this]; simp)
  | true =>
   rw [if_neg (by decide)]
   have g4' : ∀ c ∈ d.take (u + 1), fits s c = true := fun c hc => by
    rw [take_nth d h] at hc
    rcases List.mem_append.1 hc with hc | hc
    ·exact g4 c hc
    ·rw [List.mem_singleton.1 hc]; exact kf
   refine ⟨by omega, ?_⟩
   cases kh : (nth d (u : Int)).Has with
   | true =>
    rw [if_pos rfl]
    have hid := (now_id dc.2.2 hm kh).1
    refine ⟨by omega, F101.law2 _ _ _ (by omega) g1.toIds ⟨by omega, ⟨u + 1, by omega, by omega, FS.of_ids (putL_ss g1.toIds _), ?_, fun f => ?_, g4'⟩, by dsimp only; omega⟩⟩
    ·unfold putL
     have h2 : (xs.filter fun x => Op.bytesLess x.Id (nth d (u : Int)).Now.Id).length + (xs.filter fun x => Op.bytesLess (nth d (u : Int)).Now.Id x.Id).length ≤ xs.length := by
      generalize (nth d (u : Int)).Now.Id = k
      clear g1 g2 g3
      induction xs with
      | nil => exact Nat.zero_le _
      | cons x xs ih =>
       rw [List.filter_cons, List.filter_cons]
       cases a1 : Op.bytesLess x.Id k with
       | true => rw [less_asym a1]; simp only [if_true, Bool.false_eq_true, if_false, List.length_cons]; omega
       | false =>
        simp only [Bool.false_eq_true, if_false, List.length_cons]
        split
        ·simp only [List.length_cons]; omega
        ·omega
     simp only [List.length_append, List.length_cons]; omega
    ·rw [putL_mem, st, g3, hid, kh]
     constructor
     ·rintro (hx | rfl)
      ·exact .inl hx
      ·exact .inr ⟨rfl, rfl⟩
     ·rintro (hx | ⟨_, rfl⟩)
      ·exact .inl hx
      ·exact .inr rfl
   | false =>
    rw [if_neg (by decide)]
    refine ⟨by omega, F102.law _ _ _ (by omega) ⟨by omega, ⟨u + 1, by omega, by omega, g1.filter _, ?_, fun f => ?_, g4'⟩, by dsimp only; omega⟩⟩
    ·have := List.length_filter_le (fun f : Feat => decide (f.Id ≠ (nth d (u : Int)).Id)) xs; omega
    ·rw [List.mem_filter, decide_eq_true_eq, st, g3, kh]
     constructor
     ·exact .inl
     ·rintro (hx | ⟨hx, _⟩)
      ·exact hx
      ·cases hx
 ·rw [if_neg (by simpa using h)]
  have : u = d.length := by omega
  subst this
  rw [List.take_length] at g3 g4
  have e : xs = doL s d := FS.ext g1 (doL_fs s dc.2.2) fun f => by rw [g3, doL_mem fs dc.1 dc.2.2]
  subst e
  have ka : d.all (fits s) = true := List.all_eq_true.2 g4
  rw [ks, kd, ka] at hq
  have hsm := doL_small ks kd
  refine F56.law _ _ ?_
  cases ko : sheetOk (doL s d) with
  | false => rw [if_pos (by decide)]; rw [ko, if_neg (by decide)] at hq; exact hq
  | true =>
   rw [if_neg (by decide)]
   rw [ko, if_pos (by decide)] at hq
   exact F89.law _ _ (by omega) hq
theorem F2.law (a b : List Feat) (el : Feat → Feat → Bool) (ok : Feat → Feat → Prop) (Q : Bool → Prop) (hb : a.length ≤ 1048576) (hok : ∀ x y, x ∈ a → ok x y) (hel : ∀ x y, x ∈ a → el x y = decide (x = y)) (hq : Q (decide (a = b))) : F2.E a b el ok Q := by
 unfold F2.E
 exact eqF_shape a b el ok hok hel hb Q hq
theorem F32.law (a b : List Feat) (Q : Bool → Prop) (hb : bulk a ≤ 1048576) (hq : Q (decide (a = b))) : F32.E a b Q := by
 unfold F32.E
 have hl := bulk_len a
 refine ⟨fun x y => decide (x = y), fun x _ => x ∈ a, fun x y hx => F40.law x y _ ?_ rfl, F2.law a b _ _ _ (by omega) (fun x y hx => hx) (fun _ _ _ => rfl) hq⟩
 have m := bulk_mem hx
 have b1 : bulk x = bulk x.Id + bulk x.Shape + bulk x.Tags := rfl
 have b2 : bulk x.Shape = bulk x.Shape.Kind + bulk x.Shape.Pts := rfl
 have l1 := bulk_len x.Tags; have l2 := bulk_len x.Shape.Pts
 omega
theorem laws_FnDiffCut.gen (code more : List UInt8) (Q : Bool → Prop) (hq : Q true) : laws_FnDiffCut.E code more Q := by
 unfold laws_FnDiffCut.E
 by_cases c1 : (code.length : Int) > 1048576
 ·rw [if_pos (by simpa using c1)]; exact hq
 rw [if_neg (by simpa using c1)]
 by_cases c2 : (more.length : Int) > 1048576
 ·rw [if_pos (by simpa using c2)]; exact hq
 rw [if_neg (by simpa using c2)]
 refine F23.law _ _ fun s d ms ld hd => ?_
 have bs := ms.small
 have bd := cb_bulk ld hd
 have sm := diffDo_small s d
 have hls := ms.mb.len
 refine F86.law _ _ _ bs bd (F90.law _ _ _ bs ?_)
 have same : ∀ P : Prop, P → (if ((diffDo s d).2 == (diffDo s d).2) = true then P else Q false) := fun P h => by rw [if_pos (by simp)]; exact h
 rw [if_neg (by simp)]
 refine F32.law _ _ _ (by omega) ?_
 rw [decide_eq_true rfl, if_neg (by decide)]
 cases k0 : (diffDo s d).2 with
 | false =>
  rw [if_pos (by decide), if_pos (by simp)]
  exact F32.law _ _ _ (by omega) (by rw [decide_eq_true rfl]; exact hq)
 | true =>
 rw [if_neg (by decide)]
 obtain ⟨ks, kd, kf, ko, e0⟩ := diffDo_of k0
 rw [e0] at sm
 rw [e0]
 obtain ⟨k, hk⟩ : ∃ k : Nat, (more.length : Int) % ((d.length : Int) + 1) = k := ⟨_, (Int.toNat_of_nonneg (Int.emod_nonneg _ (by omega))).symm⟩
 have hkl : k ≤ d.length := by
  have := Int.emod_lt_of_pos (more.length : Int) (show (0 : Int) < (d.length : Int) + 1 by omega)
  omega
 rw [hk]
 have t1 : (d.drop (0 : Int).toNat).take ((k : Int).toNat - (0 : Int).toNat) = d.take k := by simp
 have t2 : (d.drop (k : Int).toNat).take ((d.length : Int).toNat - (k : Int).toNat) = d.drop k := by
  rw [Int.toNat_natCast, Int.toNat_natCast]; exact List.take_of_length_le (by rw [List.length_drop]; omega)
 rw [t1, t2]
 have sub1 := List.take_sublist k d
 have sub2 := List.drop_sublist k d
 have b1 : bulk (d.take k) ≤ 1048576 := cb_bulk (by rw [List.length_take]; omega) fun c hc => hd c (List.mem_of_mem_take hc)
 have b2 : bulk (d.drop k) ≤ 1048576 := cb_bulk (by rw [List.length_drop]; omega) fun c hc => hd c (List.mem_of_mem_drop hc)
 have hu : ∀ c, c ∈ d ↔ c ∈ d.take k ∨ c ∈ d.drop k := fun c => by rw [← List.mem_append, List.take_append_drop]
 have hdj : ∀ a ∈ d.take k, ∀ b ∈ d.drop k, a.Id ≠ b.Id := fun a ha b hb e => by
  have h := (diff_cs kd).1
  unfold CS at h
  rw [← List.take_append_drop k d] at h
  have := (List.pairwise_append.1 h).2.2 a ha b hb
  rw [e, less_irr] at this; cases this
 obtain ⟨p1, p2⟩ := diffDo_part k0 sub1 sub2 hdj hu
 obtain ⟨p3, p4⟩ := diffDo_part k0 sub2 sub1 (fun a ha b hb e => hdj b hb a ha e.symm) fun c => (hu c).trans or_comm
 have l1 : (d.take k).length = k := by rw [List.length_take]; omega
 rw [l1] at p2
 refine ⟨fun _ _ _ => by unfold I64; omega, by omega, by omega, ?_⟩
 refine F86.law _ _ _ bs b1 ⟨by omega, F86.law _ _ _ (Nat.le_trans (diffDo_small _ _) (by decide)) b2 ⟨by omega, F86.law _ _ _ bs b2 ⟨by omega, F86.law _ _ _ (Nat.le_trans (diffDo_small _ _) (by decide)) b1 ?_⟩⟩⟩
 have fin : (diffDo s (d.take k)).2 = false → ((code.length : Int) ≤ 9223372036854775807 → (more.length : Int) ≤ 9223372036854775807 → (d.length : Int) ≤ 9223372036854775807 → (s.length : Int) ≤ 9223372036854775807 → I64 ((s.length : Int) + (k : Int))) ∧ Q (decide ((s.length : Int) + (k : Int) > 8)) := fun g => by
  have := p2 g
  exact ⟨fun _ _ _ _ => by unfold I64; omega, by rw [decide_eq_true (by omega)]; exact hq⟩
 have sd : bulk (doL s d) ≤ 1048576 := Nat.le_trans sm (by decide)
 cases g1 : (diffDo s (d.take k)).2 with
 | false =>
  have f1 := fin g1
  rw [if_pos (by decide)]
  cases g2 : (diffDo s (d.drop k)).2 with
  | false => rw [if_pos (by decide), if_neg (by decide)]; exact f1
  | true =>
   rw [if_neg (by decide), p3 g2, if_pos rfl]
   refine F32.law _ _ _ sd ?_
   rw [decide_eq_true rfl, if_pos rfl, if_neg (by decide)]; exact f1
 | true =>
  rw [if_neg (by decide), p1 g1, if_pos rfl]
  refine F32.law _ _ _ sd ?_
  rw [decide_eq_true rfl, if_pos rfl]
  cases g2 : (diffDo s (d.drop k)).2 with
  | false => rw [if_pos (by decide), if_pos rfl]; exact hq
  | true =>
   rw [if_neg (by decide), p3 g2, if_pos rfl]
   refine F32.law _ _ _ sd ?_
   rw [decide_eq_true rfl, if_pos rfl, if_pos rfl]; exact hq
theorem laws_FnDiffCut.law (code : List UInt8) (_ : ∀ x ∈ code, True) (more : List UInt8) (_ : ∀ x ∈ more, True) : laws_FnDiffCut.E code more (fun r => r = true) := laws_FnDiffCut.gen code more _ rfl
end Go.Proofs.Ytpdmnmpcjljeaaa
namespace Go.Proofs.Ytpdmnmpcjljeaaa.rFnDiffCut
open Go.ChangeShapes Go.WideShapes Go.ChangeAt Go.RowKit
open Go.ChangeMaps (open_string shut_string)
set_option linter.unusedVariables false
theorem own : ownKnob Try.prog.godebug = none := by kernel_rfl
theorem laidOut : laidOutB Try.prog = true := by kernel_rfl
set_option maxHeartbeats 4000000 in
set_option maxRecDepth 100000 in
theorem lifted (os : Os) (started : os.Started) (H : Type) (enc : TypeId × Value → H) :
    ReturnsInHanded {} Try.checked os 5 .any (Rows.fnDiffCutSpec.pre6 enc Try.prog Try.f5 Rows.fnDiffCutRow.domain false) (Rows.fnDiffCutSpec.post enc Try.prog Try.f5 false true false false) := by
  refine returnsInHanded_of_change_sized (C := Try.checked) own started (by kernel_rfl) Try.func5
    (ChangeSpec.witness6 (enc := enc) (C := Try.checked) false ⟨#[], #[.slice none 0 0, .slice none 0 0], []⟩ 8 (by kernel_rfl) (by kernel_rfl) (by kernel_rfl) (by kernel_rfl)) ?_
  intro W base args ds gs before hval0 hW hcnd hsz0 _
  have hval : ∀ (j : Nat) t v, Try.f5.params[j]? = some t → args[j]? = some v → Value.okWide Try.prog W .any base t v := hval0
  have hW' := hW
  obtain ⟨p, q, hA0, hV, rfl, hfz, hnd⟩ := hW
  have hA : DataW.TrodAll enc Try.prog W 0 (fun _ => true) true Try.f5.params.toList args.toList ds p := hA0
  rw [Try.params5] at hA hval
  obtain ⟨v0, vs0, d0, ds0, p0, q0, hargs, rfl, rfl, h0, r0⟩ := trodAll_cons hA
  obtain ⟨v1, vs1, d1, ds1, p1, q1, rfl, rfl, rfl, h1, r1⟩ := trodAll_cons r0
  obtain ⟨rfl, rfl, rfl⟩ := trodAll_nil r1
  obtain rfl : args = #[v0, v1] := by cases args; simp_all
  obtain ⟨rfl, rfl⟩ := trodVars_none hV
  have k0 := h0
  have lt0 : ∀ x ∈ p0, x.block < W.heap.size := by obtain ⟨m, hm⟩ := k0; exact DataW.trod_lt m _ _ _ hm
  obtain ⟨x0, hv0, hx0⟩ : ∃ a : List UInt8, (∀ y0 ∈ a, True) ∧ (Kd.sl Kd.byte).R W (Fr []) a v0.cells.toList := by obtain ⟨fuel, hf⟩ := h0; exact (Tr.sl Try.underlying22 (by kernel_rfl) (Tr.byte Try.underlying5)) H enc W fuel _ _ hf
  obtain ⟨a0, n0, c0, rfl⟩ := okWide_slice Try.underlying22 (hval 0 22 v0 rfl rfl)
  have s0 : Sl Kd.byte W (Fr []) (.slice a0 n0 c0) x0 := by obtain ⟨_, e, h⟩ := hx0; simp [Value.cells] at e; subst e; exact h
  have k1 := h1
  have lt1 : ∀ x ∈ p1, x.block < W.heap.size := by obtain ⟨m, hm⟩ := k1; exact DataW.trod_lt m _ _ _ hm
  obtain ⟨x1, hv1, hx1⟩ : ∃ a : List UInt8, (∀ y0 ∈ a, True) ∧ (Kd.sl Kd.byte).R W (Fr []) a v1.cells.toList := by obtain ⟨fuel, hf⟩ := h1; exact (Tr.sl Try.underlying22 (by kernel_rfl) (Tr.byte Try.underlying5)) H enc W fuel _ _ hf
  obtain ⟨a1, n1, c1, rfl⟩ := okWide_slice Try.underlying22 (hval 1 22 v1 rfl rfl)
  have s1 : Sl Kd.byte W (Fr []) (.slice a1 n1 c1) x1 := by obtain ⟨_, e, h⟩ := hx1; simp [Value.cells] at e; subst e; exact h
  clear hA0 hval0 hsz0
  refine Calls.mono (laws_FnDiffCut.calls W (Ok.nil W) x0 a0 n0 c0 s0 x1 a1 n1 c1 s1 (fun r => r = true) (laws_FnDiffCut.law x0 hv0 x1 hv1)) fun e W' ⟨v, he, r, hr, hq, hg⟩ => ?_
  subst he; subst hr; subst hq
  have bel := Gr.below hg
  exact ⟨_, rfl, _, _, _, [], _, [], hW', trodAll_mk1 (shut_bool Try.underlying4 _), (trodAll_cons_mk (Below.trod laidOut (by kernel_rfl) (of_decide_eq_true (by kernel_rfl)) k0 bel lt0) (trodAll_cons_mk (Below.trod laidOut (by kernel_rfl) (of_decide_eq_true (by kernel_rfl)) k1 bel lt1) trodAll_mk0)), rfl, bel.frame _, fun h => by cases h⟩
theorem over : Rows.fnDiffCutRow.holds Try.pinned (OpenSpec.ofChange Rows.fnDiffCutSpec) :=
  OpenClaim.holds_of_wide 5 Try.f5 rfl rfl rfl rfl rfl rfl rfl ⟨rfl, rfl, rfl, rfl, rfl⟩ rfl rfl rfl rfl rfl (by kernel_rfl) Try.func5 (by kernel_rfl)
    (of_decide_eq_true (by kernel_rfl)) (by unfold Func.isWrapper; first | (rw [if_pos (by decide +kernel)]; kernel_rfl) | (rw [if_neg (by decide +kernel)]; exact ⟨rfl, rfl⟩))
    (fun os started H enc _ => lifted os started H enc)
theorem proved : Rows.FnDiffCutSaid := over
#print axioms proved
end Go.Proofs.Ytpdmnmpcjljeaaa.rFnDiffCut
namespace Go.Proofs.Ytpdmnmpcjljeaaa
theorem fnDiffCut_holds : Rows.FnDiffCutSaid := rFnDiffCut.proved
end Go.Proofs.Ytpdmnmpcjljeaaa