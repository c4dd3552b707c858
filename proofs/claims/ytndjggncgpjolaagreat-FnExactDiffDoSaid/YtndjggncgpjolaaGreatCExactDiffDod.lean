/- It is proved here that the law FnExactDiffDo of the given program holds whatever it is handed: the walks through the code, the plain laws and the row, in this order.
   Conditions: none. -/
import Derived.Below
import Derived.ChangeArms
import Derived.ChangeOld
import Derived.ChangeSlices
import Derived.DataReads
import Derived.Deep.MidRow
import Derived.Deep.Quiet
import Derived.Deep.RegionLaw
import Derived.Deep.Upon
import Derived.KernelRfl
import Derived.Laws.Build
import Derived.Laws.IdiomStrings
import Derived.Laws.OwnMore
import Derived.Laws.Slices
import Derived.Laws.StructEq
import Derived.Lib.SliceRun
import Derived.OpenShut
import Derived.ProofKit
import Derived.Shelf.SlSortCmp.NoneTotal
import Derived.Shelf.SlSortCmp.WholeK
import Derived.Shelf.Slices.Cells
import Derived.Shelf.Slices.CompactS
import Derived.Shelf.Slices.In.SortNone
import Derived.Shelf.Small.Bits
import Derived.Shelf.Sort.Plain
import Derived.Shelf.Strconv.Itoa0
import Derived.ShutString
import Derived.SizedLaws
import Derived.StillTail
import Derived.Test.YtndjggncgpjolaaGreatProg
import Derived.Test.YtndjggncgpjolaaGreatRows
import Derived.WalkKit
import Derived.Test.YtndjggncgpjolaaGreatCExactDiffDoa
import Derived.Test.YtndjggncgpjolaaGreatCExactDiffDob
import Derived.Test.YtndjggncgpjolaaGreatCExactDiffDoc
namespace Go.Proofs.YtndjggncgpjolaaGreat
set_option linter.unusedVariables false
set_option linter.unusedSimpArgs false
set_option linter.unusedSectionVars false
set_option maxHeartbeats 8000000
set_option maxRecDepth 100000
def byteOk (b : UInt8) : Bool := !(decide ((b.toNat : Int) < 97)) && !(decide ((b.toNat : Int) > 122))
def wordOk (s : Str) : Bool := allN s.length (fun k => byteOk (nth s (k : Int))) && (decide (1 ≤ s.length) && decide (s.length ≤ 6))
def inR (x : Int) : Bool := decide (-1000 ≤ x) && decide (x ≤ 1000)
def ptOk (p : Pt) : Bool := inR p.X && inR p.Y
def ptsOk (p : List Pt) : Bool := allN p.length fun k => ptOk (nth p (k : Int)) && (decide (k = 0) || !(decide (nth p ((k : Int) - 1) = nth p (k : Int))))
def kindOk (kind : Int) (p : List Pt) : Bool :=
  if kind = 1 then decide (p.length = 1) else if kind = 2 then decide (2 ≤ p.length) && decide (p.length ≤ 6)
  else if kind = 3 then decide (3 ≤ p.length) && decide (p.length ≤ 6) && !(decide (nth p 0 = nth p ((p.length : Int) - 1))) else false
def shapeOk (s : Shape) : Bool := ptsOk s.Pts && kindOk s.Kind s.Pts
def tagsOk (t : List Tag) : Bool := allN t.length fun k => wordOk (nth t (k : Int)).Key && wordOk (nth t (k : Int)).Val && (decide (k = 0) || Op.bytesLess (nth t ((k : Int) - 1)).Key (nth t (k : Int)).Key)
def featOk (f : Feat) : Bool := tagsOk f.Tags && decide (f.Tags.length ≤ 4) && wordOk f.Id && shapeOk f.Shape
def noF (f : Feat) : Bool := decide (f = ⟨[], ⟨0, []⟩, []⟩)
def sideOk (id : Str) (has : Bool) (f : Feat) : Bool := if has then featOk f && decide (f.Id = id) else noF f
def sameC (c : Change) : Bool := decide (c.Had = c.Has) && decide (c.Was = c.Now)
def changeOk (c : Change) : Bool := wordOk c.Id && sideOk c.Id c.Had c.Was && sideOk c.Id c.Has c.Now && !(sameC c)
def diffOk (d : List Change) : Bool := allN d.length (fun k => changeOk (nth d (k : Int)) && (decide (k = 0) || Op.bytesLess (nth d ((k : Int) - 1)).Id (nth d (k : Int)).Id)) && decide (d.length ≤ 16)
def sheetOk (s : List Feat) : Bool := allN s.length (fun k => featOk (nth s (k : Int)) && (decide (k = 0) || Op.bytesLess (nth s ((k : Int) - 1)).Id (nth s (k : Int)).Id)) && decide (s.length ≤ 8)
theorem Feat.ext_iff' (a b : Feat) : a = b ↔ a.Id = b.Id ∧ a.Shape = b.Shape ∧ a.Tags = b.Tags := by cases a; cases b; simp
theorem Shape.ext_iff' (a b : Shape) : a = b ↔ a.Kind = b.Kind ∧ a.Pts = b.Pts := by cases a; cases b; simp
section
def findN (n : Nat) (c : Nat → Bool) : Int := match (List.range n).find? c with | some k => (k : Int) | none => -1
theorem findN_hit {n k : Nat} {c : Nat → Bool} (hk : k < n) (h : c k = true) (hp : ∀ j, j < k → c j = false) : findN n c = (k : Int) := by
  unfold findN
  have : (List.range n).find? c = some k := by
    rw [List.find?_range_eq_some]
    exact ⟨h, List.mem_range.2 hk, fun j hj => by rw [hp j hj]; rfl⟩
  rw [this]
theorem findN_none {n : Nat} {c : Nat → Bool} (h : ∀ j, j < n → c j = false) : findN n c = -1 := by
  unfold findN
  have : (List.range n).find? c = none := by
    rw [List.find?_eq_none]; intro j hj; rw [h j (List.mem_range.1 hj)]; exact Bool.false_ne_true
  rw [this]
theorem findN_le (n : Nat) (c : Nat → Bool) : -1 ≤ findN n c ∧ findN n c < n := by
  unfold findN
  cases h : (List.range n).find? c with
  | none => exact ⟨Int.le_refl _, by dsimp only; omega⟩
  | some k => have := List.mem_range.1 (List.mem_of_find?_eq_some h); exact ⟨by dsimp only; omega, by dsimp only; omega⟩
theorem loop_find (n : Nat) (c : Nat → Bool) {B : (Int → Prop) → (Int → Nat) → Int → Prop} {Q : Int → Prop} (hq : Q (findN n c))
    (hs : ∀ (I : Int → Prop) (mu : Int → Nat) (k : Nat), k < n → (c k = true → Q (k : Int)) → (c k = false → I ((k : Int) + 1) ∧ mu ((k : Int) + 1) < mu (k : Int)) → B I mu (k : Int)) :
    ∃ (I : Int → Prop) (mu : Int → Nat), I 0 ∧ ∀ (i : Int), I i → (if decide (i < (n : Int)) then B I mu i else Q (-1)) := by
  refine loop_all n (fun k => !(c k)) (fun I mu k hk hp hn => hs I mu k hk (fun h => ?_) (fun h => hn (by rw [h]; rfl))) (fun ha => ?_)
  · rw [findN_hit hk h (fun j hj => by have := hp j hj; rwa [Bool.not_eq_true'] at this)] at hq; exact hq
  · rw [findN_none (fun j hj => by have := ha j hj; rwa [Bool.not_eq_true'] at this)] at hq; exact hq
section
variable {α : Type} [Inhabited α] [DecidableEq α]
end
end
section
open Go.RowKit
open Go.Shelf Go.Sort Go.Lib
theorem compact_le (x : List Str) : (Lib.compact x).length ≤ x.length := by
 unfold Lib.compact Lib.compactUpTo
 rw [List.length_map]
 exact Nat.le_trans (List.length_filter_le _ _) (by rw [List.length_range]; exact Nat.le_refl _)
theorem compact_mem {x : List Str} {y : Str} (h : y ∈ Lib.compact x) : y ∈ x := by
 unfold Lib.compact Lib.compactUpTo at h
 obtain ⟨j, hj, rfl⟩ := List.mem_map.1 h
 have hl : j < x.length := List.mem_range.1 (List.mem_filter.1 hj).1
 simp [hl]
end
section
theorem less_trans : ∀ {a b c : Str}, Op.bytesLess a b = true → Op.bytesLess b c = true → Op.bytesLess a c = true
  | _, _, [], _, h => by rename_i b _; cases b <;> simp [Op.bytesLess] at h
  | _, [], _ :: _, h, _ => by rename_i a _ _ _; cases a <;> simp [Op.bytesLess] at h
  | [], _ :: _, _ :: _, _, _ => by simp [Op.bytesLess]
  | x :: a, y :: b, z :: c, h1, h2 => by
    rw [Op.bytesLess] at h1 h2 ⊢
    simp only [Bool.or_eq_true, Bool.and_eq_true, decide_eq_true_eq, beq_iff_eq] at h1 h2 ⊢
    rcases h1 with h1 | ⟨rfl, h1⟩
    · rcases h2 with h2 | ⟨rfl, h2⟩
      · exact .inl (UInt8.lt_trans h1 h2)
      · exact .inl h1
    · rcases h2 with h2 | ⟨rfl, h2⟩
      · exact .inl h2
      · exact .inr ⟨rfl, less_trans h1 h2⟩
theorem less_asym {a b : Str} (h : Op.bytesLess a b = true) : Op.bytesLess b a = false := by
  cases e : Op.bytesLess b a with
  | false => rfl
  | true => have := less_trans h e; rw [less_irr] at this; cases this
theorem less_or {a b : Str} (h : Op.bytesLess a b = false) : Op.bytesLess b a = true ∨ b = a := by
  have := less_tri a b
  rw [h] at this
  simpa using this.symm
def SS (l : List Str) : Prop := l.Pairwise fun x y => Op.bytesLess x y = true
theorem SS.ext : ∀ {l m : List Str}, SS l → SS m → (∀ x, x ∈ l ↔ x ∈ m) → l = m
  | [], [], _, _, _ => rfl
  | [], y :: m, _, _, h => by have := (h y).2 List.mem_cons_self; cases this
  | x :: l, [], _, _, h => by have := (h x).1 List.mem_cons_self; cases this
  | x :: l, y :: m, hl, hm, h => by
    obtain ⟨l1, l2⟩ := List.pairwise_cons.1 hl
    obtain ⟨m1, m2⟩ := List.pairwise_cons.1 hm
    have e : x = y := by
      rcases List.mem_cons.1 ((h x).1 List.mem_cons_self) with e | e
      · exact e
      · rcases List.mem_cons.1 ((h y).2 List.mem_cons_self) with e' | e'
        · exact e'.symm
        · have := less_trans (m1 x e) (l1 y e'); rw [less_irr] at this; cases this
    subst e
    rw [SS.ext l2 m2 fun z => ⟨fun hz => ?_, fun hz => ?_⟩]
    · rcases List.mem_cons.1 ((h z).1 (List.mem_cons_of_mem _ hz)) with e | e
      · subst e; have := l1 z hz; rw [less_irr] at this; cases this
      · exact e
    · rcases List.mem_cons.1 ((h z).2 (List.mem_cons_of_mem _ hz)) with e | e
      · subst e; have := m1 z hz; rw [less_irr] at this; cases this
      · exact e
theorem le_less (x y : Str) : decide (x ≤ y) = !(Op.bytesLess y x) := by
  rw [bytesLess_eq]
  by_cases h : y < x
  · rw [decide_eq_true h, decide_eq_false (by rw [List.not_le]; exact h)]; rfl
  · rw [decide_eq_false h, decide_eq_true (List.not_lt.1 h)]; rfl
theorem sortS_le (l : List Str) : (sortS l).Pairwise fun x y => Op.bytesLess y x = false := by
  have h := List.pairwise_mergeSort (le := fun x y : Str => decide (x ≤ y)) (fun a b c h1 h2 => by
    rw [le_less, Bool.not_eq_true'] at h1 h2 ⊢
    cases e : Op.bytesLess c a with
    | false => rfl
    | true =>
      rcases less_or h1 with h3 | h3
      · have := less_trans e h3; rw [h2] at this; cases this
      · subst h3; rw [h2] at e; cases e) (fun a b => by
    rw [le_less, le_less]
    cases e : Op.bytesLess b a with
    | false => rfl
    | true => rw [less_asym e]; rfl) l
  exact h.imp fun {x y} h => by rw [le_less, Bool.not_eq_true'] at h; exact h
theorem sortS_mem {l : List Str} {x : Str} : x ∈ sortS l ↔ x ∈ l := List.mem_mergeSort
section
open Go.Lib
theorem compact_of (l : List Str) (h : l.Pairwise fun x y => Op.bytesLess y x = false) : SS (compact l) ∧ ∀ x, x ∈ compact l ↔ x ∈ l := by
  have hle : ∀ i j, i ≤ j → j < l.length → Op.bytesLess (l.toArray[j]!) (l.toArray[i]!) = false := fun i j hij hj => by
    have hi : i < l.length := by omega
    simp only [List.getElem!_toArray, getElem!_pos l i hi, getElem!_pos l j hj]
    rcases Nat.lt_or_eq_of_le hij with hlt | rfl
    · exact List.pairwise_iff_getElem.1 h i j hi hj hlt
    · exact less_irr _
  constructor
  · unfold compact compactUpTo SS
    rw [List.pairwise_map, List.pairwise_filter]
    refine List.pairwise_iff_getElem.2 fun i j hi hj hij => ?_
    simp only [List.length_range] at hi hj
    simp only [List.getElem_range]
    intro _ hk
    have hj0 : 0 < j := by omega
    have hne : l.toArray[j]! ≠ l.toArray[j - 1]! := fun e => by rw [keeps_neg hj0 e] at hk; cases hk
    have h1 : Op.bytesLess (l.toArray[j - 1]!) (l.toArray[j]!) = true := by
      rcases less_or (hle (j - 1) j (by omega) hj) with h2 | h2
      · exact h2
      · exact absurd h2.symm hne
    rcases less_or (hle i (j - 1) (by omega) (by omega)) with h3 | h3
    · exact less_trans h3 h1
    · rw [h3]; exact h1
  · intro x
    constructor
    · exact compact_mem
    · intro hx
      obtain ⟨k, hk, rfl⟩ := List.getElem_of_mem hx
      have key : ∀ k, k < l.length → l.toArray[k]! ∈ compact l := by
        intro k
        induction k using Nat.strongRecOn with
        | _ k ih =>
          intro hk
          cases e : keeps l.toArray k with
          | true =>
            unfold compact compactUpTo
            exact List.mem_map.2 ⟨k, List.mem_filter.2 ⟨List.mem_range.2 hk, e⟩, rfl⟩
          | false =>
            have hk0 : 0 < k := by
              rcases Nat.eq_zero_or_pos k with h0 | h0
              · subst h0; rw [keeps_lt_one _ 0 (by omega)] at e; cases e
              · exact h0
            have he : l.toArray[k]! = l.toArray[k - 1]! := Classical.byContradiction fun hne => by rw [keeps_pos hne] at e; cases e
            rw [he]; exact ih (k - 1) (by omega) (by omega)
      have := key k hk
      simpa [getElem!_pos l k hk] using this
end
def uniq (l : List Str) : List Str := Lib.compact (sortS l)
theorem uniq_ss (l : List Str) : SS (uniq l) := (compact_of _ (sortS_le l)).1
theorem uniq_mem {l : List Str} {x : Str} : x ∈ uniq l ↔ x ∈ l := ((compact_of _ (sortS_le l)).2 x).trans sortS_mem
def ids (s : List Feat) : List Str := s.map (·.Id)
theorem ids_app (s t : List Feat) : ids (s ++ t) = ids s ++ ids t := List.map_append
theorem sheet_ss {s : List Feat} (h : sheetOk s = true) : SS (ids s) ∧ s.length ≤ 8 ∧ ∀ f ∈ s, featOk f = true := by
  unfold sheetOk at h
  simp only [Bool.and_eq_true, decide_eq_true_eq] at h
  obtain ⟨h1, h2⟩ := h
  have h1 := allN_iff.1 h1
  have hadj : ∀ k, 0 < k → k < s.length → Op.bytesLess (nth s ((k : Int) - 1)).Id (nth s (k : Int)).Id = true := fun k h0 hk => by
    have := h1 k hk
    simp only [Bool.and_eq_true, Bool.or_eq_true, decide_eq_true_eq] at this
    rcases this.2 with h | h
    · omega
    · exact h
  refine ⟨?_, h2, fun f hf => ?_⟩
  · unfold SS ids
    rw [List.pairwise_map]
    refine List.pairwise_iff_getElem.2 fun i j hi hj hij => ?_
    have key : ∀ d, i + d + 1 < s.length → Op.bytesLess s[i].Id (nth s ((i + d + 1 : Nat) : Int)).Id = true := by
      intro d
      induction d with
      | zero =>
        intro hd
        have := hadj (i + 0 + 1) (by omega) hd
        rw [show (((i + 0 + 1 : Nat) : Int) - 1) = (i : Int) by omega, nth_nat s hi] at this
        exact this
      | succ d ih =>
        intro hd
        have := hadj (i + (d + 1) + 1) (by omega) hd
        rw [show (((i + (d + 1) + 1 : Nat) : Int) - 1) = ((i + d + 1 : Nat) : Int) by omega] at this
        exact less_trans (ih (by omega)) this
    have := key (j - i - 1) (by omega)
    rw [show i + (j - i - 1) + 1 = j by omega, nth_nat s hj] at this
    exact this
  · obtain ⟨k, hk, rfl⟩ := List.getElem_of_mem hf
    have := h1 k hk
    rw [nth_nat s hk] at this
    simp only [Bool.and_eq_true] at this
    exact this.1
theorem word_len {s : Str} (h : wordOk s = true) : s.length ≤ 6 := by
  unfold wordOk at h
  simp only [Bool.and_eq_true, decide_eq_true_eq] at h
  exact h.2.2
theorem bulk_small {α : Type} [Bulk α] (l : List α) (m : Nat) (h : ∀ x ∈ l, bulk x ≤ m) : bulk l ≤ l.length * (m + 1) := by
  induction l with
  | nil => exact Nat.zero_le _
  | cons x l ih =>
    have h1 := h x List.mem_cons_self
    have h2 := ih fun y hy => h y (List.mem_cons_of_mem _ hy)
    rw [bulk_cons, List.length_cons, Nat.add_mul]
    omega
theorem feat_small {f : Feat} (h : featOk f = true) : bulk f ≤ 100 ∧ f.Id.length ≤ 6 := by
  unfold featOk at h
  simp only [Bool.and_eq_true, decide_eq_true_eq] at h
  obtain ⟨⟨⟨h1, h2⟩, h3⟩, h4⟩ := h
  have hi := word_len h3
  have e1 : bulk f = bulk f.Id + (bulk f.Shape.Kind + bulk f.Shape.Pts) + bulk f.Tags := rfl
  have e2 : bulk f.Id = f.Id.length := bulk_str _
  have e3 : bulk f.Shape.Kind = 0 := rfl
  have e4 : bulk f.Shape.Pts = f.Shape.Pts.length := bulk_flat (fun _ => rfl) _
  have ht : bulk f.Tags ≤ f.Tags.length * (12 + 1) := bulk_small _ 12 fun t hm => by
    unfold tagsOk at h1
    obtain ⟨k, hk, rfl⟩ := List.getElem_of_mem hm
    have := allN_iff.1 h1 k hk
    rw [nth_nat _ hk] at this
    simp only [Bool.and_eq_true] at this
    have a1 := word_len this.1.1
    have a2 := word_len this.1.2
    have b0 : bulk f.Tags[k] = bulk f.Tags[k].Key + bulk f.Tags[k].Val := rfl
    have b1 : bulk f.Tags[k].Key = f.Tags[k].Key.length := bulk_str _
    have b2 : bulk f.Tags[k].Val = f.Tags[k].Val.length := bulk_str _
    omega
  have hp : f.Shape.Pts.length ≤ 6 := by
    unfold shapeOk kindOk at h4
    simp only [Bool.and_eq_true] at h4
    have := h4.2
    split at this
    · simp only [decide_eq_true_eq] at this; omega
    · split at this
      · simp only [Bool.and_eq_true, decide_eq_true_eq] at this; omega
      · split at this
        · simp only [Bool.and_eq_true, decide_eq_true_eq] at this; omega
        · cases this
  have : f.Tags.length * (12 + 1) ≤ 52 := by omega
  omega
def zeroF : Feat := ⟨[], ⟨0, []⟩, []⟩
def sideOf (s : List Feat) (id : Str) : Feat × Bool :=
  if findN s.length (fun j => (nth s (j : Int)).Id == id) < 0 then (zeroF, false) else (nth s (findN s.length fun j => (nth s (j : Int)).Id == id), true)
theorem sideOf_small {s : List Feat} (h : sheetOk s = true) (id : Str) : bulk (sideOf s id).1 ≤ 100 := by
  unfold sideOf
  split
  · exact (by decide : bulk zeroF ≤ 100)
  · have h1 := findN_le s.length fun j => (nth s (j : Int)).Id == id
    exact (feat_small ((sheet_ss h).2.2 _ (nth_memi s (by omega) h1.2))).1
theorem uniq_len (l : List Str) : (uniq l).length ≤ l.length := by
  unfold uniq
  have := compact_le (sortS l)
  have h2 : (sortS l).length = l.length := List.length_mergeSort _
  omega
end
section
def decA : Nat → Int → Str → Str
  | 0, _, out => out
  | f + 1, k, out => if 0 < k then decA f (k / 10) (UInt8.ofNat (48 + k % 10).toNat :: out) else out
theorem decA_stop (f : Nat) {k : Int} (h : ¬ 0 < k) (out : Str) : decA f k out = out := by
  cases f with
  | zero => rfl
  | succ f => unfold decA; rw [if_neg h]
def tx (k : Int) : Str := if k ≤ 0 then [109, 48] else [109] ++ decA k.toNat k []
def mkL {α : Type} (g : α → Int → α × Int) : List α → Int → List α × Int
  | [], k => ([], k)
  | x :: l, k => ((g x k).1 :: (mkL g l (g x k).2).1, (mkL g l (g x k).2).2)
section
variable {α : Type} {g : α → Int → α × Int}
theorem mkL_snoc (x : α) : ∀ (l : List α) (k : Int), mkL g (l ++ [x]) k = ((mkL g l k).1 ++ [(g x (mkL g l k).2).1], (g x (mkL g l k).2).2)
  | [], k => rfl
  | y :: l, k => by
    rw [List.cons_append, mkL, mkL_snoc x l]; rfl
theorem mkL_len : ∀ (l : List α) (k : Int), (mkL g l k).1.length = l.length
  | [], k => rfl
  | y :: l, k => by rw [mkL, List.length_cons, List.length_cons, mkL_len l]
theorem mkL_bd [Bulk α] (hb : ∀ x k, k ≤ (g x k).2 ∧ (g x k).2 ≤ k + 8 * (1 + (bulk x : Nat))) : ∀ (l : List α) (k : Int), k ≤ (mkL g l k).2 ∧ (mkL g l k).2 ≤ k + 8 * (bulk l : Nat)
  | [], k => ⟨Int.le_refl _, by simp [mkL, bulk_nil]⟩
  | y :: l, k => by
    have h1 := hb y k
    have h2 := mkL_bd hb l (g y k).2
    rw [bulk_cons, mkL]
    exact ⟨by dsimp only; omega, by dsimp only; omega⟩
theorem mkL_app : ∀ (l m : List α) (k : Int), mkL g (l ++ m) k = ((mkL g l k).1 ++ (mkL g m (mkL g l k).2).1, (mkL g m (mkL g l k).2).2)
  | [], m, k => rfl
  | y :: l, m, k => by rw [List.cons_append, mkL, mkL_app l]; rfl
variable [Inhabited α]
def Mk (g : α → Int → α × Int) (a : List α) (k : Int) (u : Nat) (xs : List α) (k' : Int) : Prop := u ≤ a.length ∧ xs = (mkL g (a.take u) k).1 ++ a.drop u ∧ k' = (mkL g (a.take u) k).2
variable {a xs : List α} {k k' : Int} {u : Nat}
theorem Mk.zero (a : List α) (k : Int) : Mk g a k 0 a k := ⟨Nat.zero_le _, by simp [mkL], by simp [mkL]⟩
theorem Mk.len (h : Mk g a k u xs k') : xs.length = a.length := by
  rw [h.2.1, List.length_append, mkL_len, List.length_take, List.length_drop]; have := h.1; omega
theorem Mk.nth (h : Mk g a k u xs k') (hu : u < a.length) : nth xs (u : Int) = Go.Proofs.YtndjggncgpjolaaGreat.nth a (u : Int) := by
  rw [nth_nat xs (by rw [h.len]; exact hu), nth_nat a hu]
  have hl : (mkL g (a.take u) k).1.length = u := by rw [mkL_len, List.length_take]; omega
  have := h.2.1
  subst this
  rw [List.getElem_append_right (by omega)]
  simp [hl]
theorem Mk.next (h : Mk g a k u xs k') (hu : u < a.length) {y : α} {k'' : Int} (e : g (Go.Proofs.YtndjggncgpjolaaGreat.nth a (u : Int)) k' = (y, k'')) : Mk g a k (u + 1) (xs.set u y) k'' := by
  have hl : (mkL g (a.take u) k).1.length = u := by rw [mkL_len, List.length_take]; omega
  have h1 : mkL g (a.take (u + 1)) k = ((mkL g (a.take u) k).1 ++ [y], k'') := by
    rw [take_nth a hu, mkL_snoc, ← h.2.2, e]
  refine ⟨hu, ?_, by rw [h1]⟩
  rw [h1, h.2.1, List.set_append_right _ _ (by omega), hl, Nat.sub_self, List.drop_eq_getElem_cons hu, List.set_cons_zero]
  dsimp only
  rw [List.append_assoc]; rfl
theorem Mk.bd [Bulk α] (h : Mk g a k u xs k') (hb : ∀ x k, k ≤ (g x k).2 ∧ (g x k).2 ≤ k + 8 * (1 + (bulk x : Nat))) : k ≤ k' ∧ k' ≤ k + 8 * (bulk a : Nat) := by
  have h1 := mkL_bd hb (a.take u) k
  have h2 := bulk_take a u
  rw [h.2.2]
  exact ⟨h1.1, by omega⟩
theorem Mk.full (h : Mk g a k u xs k') (hu : ¬ u < a.length) : xs = (mkL g a k).1 ∧ k' = (mkL g a k).2 := by
  have : u = a.length := by have := h.1; omega
  subst this
  obtain ⟨_, h1, h2⟩ := h
  simpa using And.intro h1 h2
def Hd (g : α → Int → α × Int) (a : List α) (k : Int) (u : Nat) (k' : Int) : Prop := u ≤ a.length ∧ k' = (mkL g (a.take u) k).2
theorem Hd.zero (a : List α) (k : Int) : Hd g a k 0 k := ⟨Nat.zero_le _, by simp [mkL]⟩
theorem Hd.nth (h : Hd g a k u k') (hu : u < a.length) : nth (mkL g a k).1 (u : Int) = (g (Go.Proofs.YtndjggncgpjolaaGreat.nth a (u : Int)) k').1 := by
  have e : a = (a.take u ++ [Go.Proofs.YtndjggncgpjolaaGreat.nth a (u : Int)]) ++ a.drop (u + 1) := by rw [← take_nth a hu, List.take_append_drop]
  have hl : (mkL g (a.take u) k).1.length = u := by rw [mkL_len, List.length_take]; omega
  rw [nth_nat _ (by rw [mkL_len]; exact hu)]
  have h1 : (mkL g a k).1[u]? = some (g (Go.Proofs.YtndjggncgpjolaaGreat.nth a (u : Int)) k').1 := by
    conv => lhs; rw [e]
    rw [mkL_app, mkL_snoc]
    dsimp only
    rw [List.append_assoc, List.getElem?_append_right (by omega), hl, Nat.sub_self, h.2]; rfl
  rw [List.getElem?_eq_getElem (by rw [mkL_len]; exact hu)] at h1
  exact Option.some.inj h1
theorem Hd.next (h : Hd g a k u k') (hu : u < a.length) : Hd g a k (u + 1) (g (Go.Proofs.YtndjggncgpjolaaGreat.nth a (u : Int)) k').2 := ⟨hu, by rw [take_nth a hu, mkL_snoc, h.2]⟩
theorem Hd.bd [Bulk α] (h : Hd g a k u k') (hb : ∀ x k, k ≤ (g x k).2 ∧ (g x k).2 ≤ k + 8 * (1 + (bulk x : Nat))) : k ≤ k' ∧ k' ≤ k + 8 * (bulk a : Nat) := by
  have h1 := mkL_bd hb (a.take u) k
  have h2 := bulk_take a u
  rw [h.2]
  exact ⟨h1.1, by omega⟩
theorem Hd.full (h : Hd g a k u k') (hu : ¬ u < a.length) : k' = (mkL g a k).2 := by
  have : u = a.length := by have := h.1; omega
  subst this
  simpa using h.2
end
theorem set_facts {α : Type} [Inhabited α] {xs ys : List α} {u : Nat} {y : α} (hu : u < xs.length) (e : ys = xs.set (Int.toNat (u : Int)) y) : nth ys (u : Int) = y ∧ ys.length = xs.length ∧ (∀ z, ys.set (Int.toNat (u : Int)) z = xs.set (Int.toNat (u : Int)) z) := by
  subst e
  rw [Int.toNat_natCast]
  exact ⟨by rw [nth_set _ hu, if_pos rfl], List.length_set, fun z => List.set_set ..⟩
def gPt (_ : Pt) (k : Int) : Pt × Int := (⟨k, k + 1⟩, k + 2)
def gTag (_ : Tag) (k : Int) : Tag × Int := (⟨tx k, tx (k + 1)⟩, k + 2)
theorem gPt_bd (x : Pt) (k : Int) : k ≤ (gPt x k).2 ∧ (gPt x k).2 ≤ k + 8 * (1 + (bulk x : Nat)) := by unfold gPt; exact ⟨by dsimp only; omega, by dsimp only; omega⟩
theorem gTag_bd (x : Tag) (k : Int) : k ≤ (gTag x k).2 ∧ (gTag x k).2 ≤ k + 8 * (1 + (bulk x : Nat)) := by unfold gTag; exact ⟨by dsimp only; omega, by dsimp only; omega⟩
def gFeat (x : Feat) (k : Int) : Feat × Int :=
  (⟨tx k, ⟨k + 1, (mkL gPt x.Shape.Pts (k + 2)).1⟩, (mkL gTag x.Tags (mkL gPt x.Shape.Pts (k + 2)).2).1⟩, (mkL gTag x.Tags (mkL gPt x.Shape.Pts (k + 2)).2).2)
theorem gFeat_bd (x : Feat) (k : Int) : k ≤ (gFeat x k).2 ∧ (gFeat x k).2 ≤ k + 8 * (1 + (bulk x : Nat)) := by
  have hb : bulk x = bulk x.Id + bulk x.Shape + bulk x.Tags := rfl
  have hs : bulk x.Shape = bulk x.Shape.Kind + bulk x.Shape.Pts := rfl
  have h1 := mkL_bd gPt_bd x.Shape.Pts (k + 2)
  have h2 := mkL_bd gTag_bd x.Tags (mkL gPt x.Shape.Pts (k + 2)).2
  unfold gFeat
  exact ⟨by dsimp only; omega, by dsimp only; omega⟩
def gChange (x : Change) (k : Int) : Change × Int :=
  (⟨tx k, (k + 1) % 3 == 0, ⟨tx (k + 2), ⟨k + 3, (mkL gPt x.Was.Shape.Pts (k + 4)).1⟩, (mkL gTag x.Was.Tags (mkL gPt x.Was.Shape.Pts (k + 4)).2).1⟩,
    (mkL gTag x.Was.Tags (mkL gPt x.Was.Shape.Pts (k + 4)).2).2 % 3 == 0,
    ⟨tx ((mkL gTag x.Was.Tags (mkL gPt x.Was.Shape.Pts (k + 4)).2).2 + 1), ⟨(mkL gTag x.Was.Tags (mkL gPt x.Was.Shape.Pts (k + 4)).2).2 + 2, (mkL gPt x.Now.Shape.Pts ((mkL gTag x.Was.Tags (mkL gPt x.Was.Shape.Pts (k + 4)).2).2 + 3)).1⟩,
      (mkL gTag x.Now.Tags (mkL gPt x.Now.Shape.Pts ((mkL gTag x.Was.Tags (mkL gPt x.Was.Shape.Pts (k + 4)).2).2 + 3)).2).1⟩⟩,
    (mkL gTag x.Now.Tags (mkL gPt x.Now.Shape.Pts ((mkL gTag x.Was.Tags (mkL gPt x.Was.Shape.Pts (k + 4)).2).2 + 3)).2).2)
theorem bulk_feat (x : Feat) : bulk x = bulk x.Id + (bulk x.Shape.Kind + bulk x.Shape.Pts) + bulk x.Tags := rfl
theorem bulk_change (x : Change) : bulk x = bulk x.Id + bulk x.Had + bulk x.Was + bulk x.Has + bulk x.Now := rfl
theorem gChange_bd (x : Change) (k : Int) : k ≤ (gChange x k).2 ∧ (gChange x k).2 ≤ k + 8 * (1 + (bulk x : Nat)) := by
  have hb := bulk_change x
  have hb1 := bulk_feat x.Was
  have hb2 := bulk_feat x.Now
  have h1 := mkL_bd gPt_bd x.Was.Shape.Pts (k + 4)
  have h2 := mkL_bd gTag_bd x.Was.Tags (mkL gPt x.Was.Shape.Pts (k + 4)).2
  have h3 := mkL_bd gPt_bd x.Now.Shape.Pts ((mkL gTag x.Was.Tags (mkL gPt x.Was.Shape.Pts (k + 4)).2).2 + 3)
  have h4 := mkL_bd gTag_bd x.Now.Tags (mkL gPt x.Now.Shape.Pts ((mkL gTag x.Was.Tags (mkL gPt x.Was.Shape.Pts (k + 4)).2).2 + 3)).2
  unfold gChange
  exact ⟨by dsimp only; omega, by dsimp only; omega⟩
end
theorem pw_ext {α : Type} {R : α → α → Prop} (irr : ∀ x, ¬ R x x) (tr : ∀ x y z, R x y → R y z → R x z) : ∀ {l m : List α}, l.Pairwise R → m.Pairwise R → (∀ x, x ∈ l ↔ x ∈ m) → l = m
  | [], [], _, _, _ => rfl
  | [], y :: m, _, _, h => by have := (h y).2 List.mem_cons_self; cases this
  | x :: l, [], _, _, h => by have := (h x).1 List.mem_cons_self; cases this
  | x :: l, y :: m, hl, hm, h => by
    obtain ⟨l1, l2⟩ := List.pairwise_cons.1 hl
    obtain ⟨m1, m2⟩ := List.pairwise_cons.1 hm
    have e : x = y := by
      rcases List.mem_cons.1 ((h x).1 List.mem_cons_self) with e | e
      · exact e
      · rcases List.mem_cons.1 ((h y).2 List.mem_cons_self) with e' | e'
        · exact e'.symm
        · exact absurd (tr _ _ _ (m1 x e) (l1 y e')) (irr _)
    subst e
    rw [pw_ext irr tr l2 m2 fun z => ⟨fun hz => ?_, fun hz => ?_⟩]
    · rcases List.mem_cons.1 ((h z).1 (List.mem_cons_of_mem _ hz)) with e | e
      · subst e; exact absurd (l1 z hz) (irr _)
      · exact e
    · rcases List.mem_cons.1 ((h z).2 (List.mem_cons_of_mem _ hz)) with e | e
      · subst e; exact absurd (m1 z hz) (irr _)
      · exact e
def idsC (d : List Change) : List Str := d.map (·.Id)
theorem idsC_app (s t : List Change) : idsC (s ++ t) = idsC s ++ idsC t := List.map_append
def CS (d : List Change) : Prop := d.Pairwise fun x y => Op.bytesLess x.Id y.Id = true
theorem CS.ext {l m : List Change} (hl : CS l) (hm : CS m) (h : ∀ x, x ∈ l ↔ x ∈ m) : l = m :=
  pw_ext (R := fun x y : Change => Op.bytesLess x.Id y.Id = true) (fun x e => by rw [less_irr] at e; cases e) (fun x y z h1 h2 => less_trans h1 h2) hl hm h
theorem CS.ids {d : List Change} (h : CS d) : SS (idsC d) := List.pairwise_map.2 h
theorem diff_cs {d : List Change} (h : diffOk d = true) : CS d ∧ d.length ≤ 16 ∧ ∀ c ∈ d, changeOk c = true := by
  unfold diffOk at h
  simp only [Bool.and_eq_true, decide_eq_true_eq] at h
  obtain ⟨h1, h2⟩ := h
  have h1 := allN_iff.1 h1
  have hadj : ∀ k, 0 < k → k < d.length → Op.bytesLess (nth d ((k : Int) - 1)).Id (nth d (k : Int)).Id = true := fun k h0 hk => by
    have := h1 k hk
    simp only [Bool.and_eq_true, Bool.or_eq_true, decide_eq_true_eq] at this
    rcases this.2 with h | h
    · omega
    · exact h
  refine ⟨?_, h2, fun f hf => ?_⟩
  · refine List.pairwise_iff_getElem.2 fun i j hi hj hij => ?_
    have key : ∀ q, i + q + 1 < d.length → Op.bytesLess d[i].Id (nth d ((i + q + 1 : Nat) : Int)).Id = true := by
      intro q
      induction q with
      | zero =>
        intro hd
        have := hadj (i + 0 + 1) (by omega) hd
        rw [show (((i + 0 + 1 : Nat) : Int) - 1) = (i : Int) by omega, nth_nat d hi] at this
        exact this
      | succ q ih =>
        intro hd
        have := hadj (i + (q + 1) + 1) (by omega) hd
        rw [show (((i + (q + 1) + 1 : Nat) : Int) - 1) = ((i + q + 1 : Nat) : Int) by omega] at this
        exact less_trans (ih (by omega)) this
    have := key (j - i - 1) (by omega)
    rw [show i + (j - i - 1) + 1 = j by omega, nth_nat d hj] at this
    exact this
  · obtain ⟨k, hk, rfl⟩ := List.getElem_of_mem hf
    have := h1 k hk
    rw [nth_nat d hk] at this
    simp only [Bool.and_eq_true] at this
    exact this.1
theorem side_small {id : Str} {has : Bool} {f : Feat} (h : sideOk id has f = true) : bulk f ≤ 100 := by
  unfold sideOk at h
  cases has with
  | true =>
    rw [if_pos rfl] at h
    simp only [Bool.and_eq_true] at h
    exact (feat_small h.1).1
  | false =>
    rw [if_neg (by decide)] at h
    unfold noF at h
    rw [of_decide_eq_true h]; decide
theorem change_small {c : Change} (h : changeOk c = true) : bulk c ≤ 206 ∧ sameC c = false ∧ bulk c.Was ≤ 100 ∧ bulk c.Now ≤ 100 ∧ c.Id.length ≤ 6 := by
  unfold changeOk at h
  simp only [Bool.and_eq_true, Bool.not_eq_true'] at h
  obtain ⟨⟨⟨h1, h2⟩, h3⟩, h4⟩ := h
  have a1 := word_len h1
  have a2 := side_small h2
  have a3 := side_small h3
  have e := bulk_change c
  have e1 : bulk c.Id = c.Id.length := bulk_str _
  have e2 : bulk c.Had = 0 := rfl
  have e3 : bulk c.Has = 0 := rfl
  exact ⟨by omega, h4, a2, a3, a1⟩
def atC (d : List Change) (id : Str) : Int := findN d.length fun j => (nth d (j : Int)).Id == id
theorem findN_true {n : Nat} {c : Nat → Bool} {k : Nat} (h : findN n c = (k : Int)) : k < n ∧ c k = true := by
  unfold findN at h
  cases e : (List.range n).find? c with
  | none => rw [e] at h; dsimp only at h; omega
  | some j =>
    rw [e] at h; dsimp only at h
    have : j = k := by omega
    subst this
    exact ⟨List.mem_range.1 (List.mem_of_find?_eq_some e), List.find?_some e⟩
theorem findN_neg {n : Nat} {c : Nat → Bool} (h : findN n c < 0) : ∀ j, j < n → c j = false := fun j hj => by
  unfold findN at h
  cases e : (List.range n).find? c with
  | some k => rw [e] at h; dsimp only at h; omega
  | none =>
    have := List.find?_eq_none.1 e j (List.mem_range.2 hj)
    simpa using this
theorem atC_hit {d : List Change} {id : Str} (h : ¬ atC d id < 0) : nth d (atC d id) ∈ d ∧ (nth d (atC d id)).Id = id := by
  obtain ⟨k, hk⟩ : ∃ k : Nat, atC d id = (k : Int) := ⟨(atC d id).toNat, by omega⟩
  obtain ⟨h1, h2⟩ := findN_true hk
  rw [hk]
  exact ⟨nth_mem d h1, by simpa using h2⟩
theorem atC_miss {d : List Change} {id : Str} (h : atC d id < 0) : id ∉ idsC d := fun hm => by
  obtain ⟨c, hc, rfl⟩ := List.mem_map.1 hm
  obtain ⟨k, hk, rfl⟩ := List.getElem_of_mem hc
  have := findN_neg h k hk
  rw [nth_nat d hk] at this
  simp at this
theorem atC_mem {d : List Change} {id : Str} (h : ¬ atC d id < 0) : id ∈ idsC d := by
  obtain ⟨h1, h2⟩ := atC_hit h
  exact List.mem_map.2 ⟨_, h1, h2⟩
theorem CS.inj {d : List Change} (h : CS d) {x y : Change} (hx : x ∈ d) (hy : y ∈ d) (e : x.Id = y.Id) : x = y := by
  obtain ⟨i, hi, rfl⟩ := List.getElem_of_mem hx
  obtain ⟨j, hj, rfl⟩ := List.getElem_of_mem hy
  rcases Nat.lt_trichotomy i j with g | g | g
  · have := List.pairwise_iff_getElem.1 h i j hi hj g
    rw [e, less_irr] at this; cases this
  · subst g; rfl
  · have := List.pairwise_iff_getElem.1 h j i hj hi g
    rw [e, less_irr] at this; cases this
theorem atC_of {d : List Change} (h : CS d) {c : Change} (hc : c ∈ d) : ¬ atC d c.Id < 0 ∧ nth d (atC d c.Id) = c := by
  have h0 : ¬ atC d c.Id < 0 := fun e => atC_miss e (List.mem_map.2 ⟨c, hc, rfl⟩)
  obtain ⟨h1, h2⟩ := atC_hit h0
  exact ⟨h0, h.inj h1 hc h2⟩
theorem sideOf_hit {s : List Feat} {id : Str} (h : (sideOf s id).2 = true) : (sideOf s id).1 ∈ s ∧ (sideOf s id).1.Id = id := by
  unfold sideOf at h ⊢
  split at h
  · cases h
  · rename_i g
    rw [if_neg g]
    have h1 := findN_le s.length fun j => (nth s (j : Int)).Id == id
    obtain ⟨k, hk⟩ : ∃ k : Nat, findN s.length (fun j => (nth s (j : Int)).Id == id) = (k : Int) := ⟨_, (Int.toNat_of_nonneg (by omega)).symm⟩
    obtain ⟨h2, h3⟩ := findN_true hk
    rw [hk]
    exact ⟨nth_mem s h2, by simpa using h3⟩
theorem sideOf_no {s : List Feat} {id : Str} (h : (sideOf s id).2 = false) : (sideOf s id).1 = zeroF ∧ id ∉ ids s := by
  unfold sideOf at h ⊢
  split at h
  · rename_i g
    rw [if_pos g]
    refine ⟨rfl, fun hm => ?_⟩
    obtain ⟨f, hf, rfl⟩ := List.mem_map.1 hm
    obtain ⟨k, hk, rfl⟩ := List.getElem_of_mem hf
    have := findN_neg g k hk
    rw [nth_nat s hk] at this
    simp at this
  · cases h
theorem sideOf_iff {s : List Feat} {id : Str} : (sideOf s id).2 = true ↔ id ∈ ids s := by
  constructor
  · intro h
    obtain ⟨h1, h2⟩ := sideOf_hit h
    exact List.mem_map.2 ⟨_, h1, h2⟩
  · intro h
    cases g : (sideOf s id).2 with
    | true => rfl
    | false => exact absurd h (sideOf_no g).2
def FS (l : List Feat) : Prop := l.Pairwise fun x y => Op.bytesLess x.Id y.Id = true
theorem FS.ext {l m : List Feat} (hl : FS l) (hm : FS m) (h : ∀ x, x ∈ l ↔ x ∈ m) : l = m :=
  pw_ext (R := fun x y : Feat => Op.bytesLess x.Id y.Id = true) (fun x e => by rw [less_irr] at e; cases e) (fun x y z h1 h2 => less_trans h1 h2) hl hm h
theorem FS.toIds {l : List Feat} (h : FS l) : SS (ids l) := List.pairwise_map.2 h
theorem FS.of_ids {l : List Feat} (h : SS (ids l)) : FS l := List.pairwise_map.1 h
theorem FS.inj {d : List Feat} (h : FS d) {x y : Feat} (hx : x ∈ d) (hy : y ∈ d) (e : x.Id = y.Id) : x = y := by
  obtain ⟨i, hi, rfl⟩ := List.getElem_of_mem hx
  obtain ⟨j, hj, rfl⟩ := List.getElem_of_mem hy
  rcases Nat.lt_trichotomy i j with g | g | g
  · have := List.pairwise_iff_getElem.1 h i j hi hj g
    rw [e, less_irr] at this; cases this
  · subst g; rfl
  · have := List.pairwise_iff_getElem.1 h j i hj hi g
    rw [e, less_irr] at this; cases this
theorem sheet_fs {s : List Feat} (h : sheetOk s = true) : FS s := FS.of_ids (sheet_ss h).1
theorem sideOf_of {s : List Feat} (h : FS s) {f : Feat} (hf : f ∈ s) : sideOf s f.Id = (f, true) := by
  have h1 : (sideOf s f.Id).2 = true := sideOf_iff.2 (List.mem_map.2 ⟨f, hf, rfl⟩)
  obtain ⟨h2, h3⟩ := sideOf_hit h1
  have := h.inj h2 hf h3
  exact Prod.ext this h1
def fits (s : List Feat) (c : Change) : Bool := decide ((sideOf s c.Id).2 = c.Had) && decide ((sideOf s c.Id).1 = c.Was)
def doAt (s : List Feat) (d : List Change) (id : Str) : Option Feat :=
  if atC d id < 0 then (if (sideOf s id).2 then some (sideOf s id).1 else none) else (if (nth d (atC d id)).Has then some (nth d (atC d id)).Now else none)
def doL (s : List Feat) (d : List Change) : List Feat := (uniq (ids s ++ idsC d)).filterMap (doAt s d)
def diffDo (s : List Feat) (d : List Change) : List Feat × Bool := if sheetOk s && diffOk d && d.all (fits s) && sheetOk (doL s d) then (doL s d, true) else ([], false)
theorem now_id {d : List Change} (hd : ∀ c ∈ d, changeOk c = true) {c : Change} (hc : c ∈ d) (h : c.Has = true) : c.Now.Id = c.Id ∧ featOk c.Now = true := by
  have := hd c hc
  unfold changeOk at this
  simp only [Bool.and_eq_true] at this
  have h3 := this.1.2
  unfold sideOk at h3
  rw [h, if_pos rfl] at h3
  simp only [Bool.and_eq_true, decide_eq_true_eq] at h3
  exact ⟨h3.2, h3.1⟩
theorem doAt_id {s : List Feat} {d : List Change} (hd : ∀ c ∈ d, changeOk c = true) {id : Str} {f : Feat} (h : doAt s d id = some f) : f.Id = id := by
  unfold doAt at h
  split at h
  · split at h
    · rename_i g
      cases h
      exact (sideOf_hit g).2
    · cases h
  · rename_i g
    split at h
    · rename_i k
      cases h
      obtain ⟨h1, h2⟩ := atC_hit g
      rw [(now_id hd h1 k).1, h2]
    · cases h
theorem doL_fs (s : List Feat) {d : List Change} (hd : ∀ c ∈ d, changeOk c = true) : FS (doL s d) := by
  unfold FS doL
  refine List.Pairwise.filterMap _ (fun x y hxy f hf g hg => ?_) (uniq_ss (ids s ++ idsC d))
  rw [doAt_id hd hf, doAt_id hd hg]; exact hxy
def Mem (s : List Feat) (d : List Change) (f : Feat) : Prop := (f ∈ s ∧ f.Id ∉ idsC d) ∨ ∃ c ∈ d, c.Has = true ∧ c.Now = f
theorem doL_mem {s : List Feat} {d : List Change} (hs : FS s) (hc : CS d) (hd : ∀ c ∈ d, changeOk c = true) (f : Feat) : f ∈ doL s d ↔ Mem s d f := by
  unfold doL Mem
  rw [List.mem_filterMap]
  constructor
  · rintro ⟨id, _, h⟩
    have hid := doAt_id hd h
    unfold doAt at h
    split at h
    · rename_i g
      split at h
      · rename_i k
        cases h
        obtain ⟨k1, k2⟩ := sideOf_hit k
        exact .inl ⟨k1, by rw [k2]; exact atC_miss g⟩
      · cases h
    · rename_i g
      split at h
      · rename_i k
        cases h
        exact .inr ⟨_, (atC_hit g).1, k, rfl⟩
      · cases h
  · rintro (⟨h1, h2⟩ | ⟨c, h1, h2, rfl⟩)
    · refine ⟨f.Id, uniq_mem.2 (List.mem_append.2 (.inl (List.mem_map.2 ⟨f, h1, rfl⟩))), ?_⟩
      unfold doAt
      rw [if_pos (by
        apply Classical.byContradiction
        intro g
        exact h2 (atC_mem g)), sideOf_of hs h1, if_pos rfl]
    · have hid := (now_id hd h1 h2).1
      obtain ⟨g1, g2⟩ := atC_of hc h1
      refine ⟨c.Id, uniq_mem.2 (List.mem_append.2 (.inr (List.mem_map.2 ⟨c, h1, rfl⟩))), ?_⟩
      unfold doAt
      rw [if_neg g1, g2, if_pos h2]
theorem Mem.step {s : List Feat} {d : List Change} {u : Nat} (hu : u < d.length) (hc : CS d) (hd : ∀ c ∈ d, changeOk c = true) (f : Feat) :
    Mem s (d.take (u + 1)) f ↔ (Mem s (d.take u) f ∧ f.Id ≠ (nth d (u : Int)).Id) ∨ ((nth d (u : Int)).Has = true ∧ f = (nth d (u : Int)).Now) := by
  have e : idsC (d.take (u + 1)) = idsC (d.take u) ++ [(nth d (u : Int)).Id] := by rw [take_nth d hu, idsC_app]; rfl
  have hm : nth d (u : Int) ∈ d := nth_mem d hu
  have hlt : ∀ c ∈ d.take u, Op.bytesLess c.Id (nth d (u : Int)).Id = true := fun c hc' => by
    have h := hc
    rw [← List.take_append_drop u d] at h
    refine (List.pairwise_append.1 h).2.2 c hc' _ ?_
    rw [nth_nat d hu, List.drop_eq_getElem_cons hu]; exact List.mem_cons_self
  unfold Mem
  rw [e, take_nth d hu]
  constructor
  · rintro (⟨h1, h2⟩ | ⟨c, h1, h2, rfl⟩)
    · rw [List.mem_append, List.mem_singleton] at h2
      exact .inl ⟨.inl ⟨h1, fun h => h2 (.inl h)⟩, fun h => h2 (.inr h)⟩
    · rcases List.mem_append.1 h1 with h1 | h1
      · refine .inl ⟨.inr ⟨c, h1, h2, rfl⟩, fun h => ?_⟩
        rw [(now_id hd (List.mem_of_mem_take h1) h2).1] at h
        have := hlt c h1
        rw [h, less_irr] at this; cases this
      · rw [List.mem_singleton] at h1
        subst h1
        exact .inr ⟨h2, rfl⟩
  · rintro (⟨h1 | ⟨c, h1, h2, rfl⟩, h3⟩ | ⟨h1, rfl⟩)
    · refine .inl ⟨h1.1, fun h => ?_⟩
      rcases List.mem_append.1 h with h | h
      · exact h1.2 h
      · exact h3 (List.mem_singleton.1 h)
    · exact .inr ⟨c, List.mem_append_left _ h1, h2, rfl⟩
    · exact .inr ⟨_, List.mem_append_right _ (List.mem_singleton.2 rfl), h1, rfl⟩
theorem Mem.zero (s : List Feat) (d : List Change) (f : Feat) : Mem s (d.take 0) f ↔ f ∈ s := by
  unfold Mem
  simp [idsC]
theorem doL_len {s : List Feat} {d : List Change} (hs : sheetOk s = true) (hd : diffOk d = true) : (doL s d).length ≤ 24 := by
  unfold doL
  have h1 := List.length_filterMap_le (doAt s d) (uniq (ids s ++ idsC d))
  have h2 := uniq_len (ids s ++ idsC d)
  have h3 : (ids s ++ idsC d).length = s.length + d.length := by unfold ids idsC; simp
  have := (sheet_ss hs).2.1; have := (diff_cs hd).2.1
  omega
theorem doL_ok {s : List Feat} {d : List Change} (hs : sheetOk s = true) (hd : diffOk d = true) : ∀ f ∈ doL s d, featOk f = true := fun f hf => by
  rcases (doL_mem (sheet_fs hs) (diff_cs hd).1 (diff_cs hd).2.2 f).1 hf with h | ⟨c, h1, h2, rfl⟩
  · exact (sheet_ss hs).2.2 f h.1
  · exact (now_id (diff_cs hd).2.2 h1 h2).2
theorem doL_small {s : List Feat} {d : List Change} (hs : sheetOk s = true) (hd : diffOk d = true) : bulk (doL s d) ≤ 3000 := by
  have h1 := bulk_small (doL s d) 100 fun f hf => (feat_small (doL_ok hs hd f hf)).1
  have h2 := doL_len hs hd
  have : (doL s d).length * (100 + 1) ≤ 24 * 101 := Nat.mul_le_mul h2 (Nat.le_refl _)
  omega
theorem diffDo_small (s : List Feat) (d : List Change) : bulk (diffDo s d).1 ≤ 3000 := by
  unfold diffDo
  split
  · rename_i h
    simp only [Bool.and_eq_true] at h
    exact doL_small h.1.1.1 h.1.1.2
  · exact Nat.zero_le _
theorem del_mem {xs : List Feat} (hn : (ids xs).Nodup) {k : Nat} (hk : k < xs.length) : (ids (xs.take k ++ xs.drop (k + 1))).Nodup ∧ (∀ f, f ∈ xs.take k ++ xs.drop (k + 1) ↔ f ∈ xs ∧ f.Id ≠ xs[k].Id) ∧ (xs.take k ++ xs.drop (k + 1)).length < xs.length := by
  have e : xs = xs.take k ++ xs[k] :: xs.drop (k + 1) := by rw [← List.drop_eq_getElem_cons hk, List.take_append_drop]
  have hn' := hn
  rw [e] at hn'
  unfold ids at hn' ⊢
  rw [List.map_append, List.map_cons] at hn'
  obtain ⟨n1, n2, n3⟩ := List.nodup_append.1 hn'
  obtain ⟨n4, n5⟩ := List.nodup_cons.1 n2
  refine ⟨?_, fun f => ?_, by simp only [List.length_append, List.length_take, List.length_drop]; omega⟩
  · rw [List.map_append]
    exact List.nodup_append.2 ⟨n1, n5, fun a ha b hb => n3 a ha b (List.mem_cons_of_mem _ hb)⟩
  · constructor
    · intro hf
      rcases List.mem_append.1 hf with hf | hf
      · exact ⟨List.mem_of_mem_take hf, fun h => n3 _ (List.mem_map.2 ⟨f, hf, rfl⟩) _ List.mem_cons_self h⟩
      · exact ⟨List.mem_of_mem_drop hf, fun h => n4 (by rw [← h]; exact List.mem_map.2 ⟨f, hf, rfl⟩)⟩
    · rintro ⟨hf, hne⟩
      rw [e] at hf
      rcases List.mem_append.1 hf with hf | hf
      · exact List.mem_append_left _ hf
      · rcases List.mem_cons.1 hf with rfl | hf
        · exact absurd rfl hne
        · exact List.mem_append_right _ hf
theorem F72.law (s : Str) (Q : Bool → Prop) (hq : Q (wordOk s)) : F72.E s Q := by
 unfold F72.E
 unfold wordOk at hq
 refine loop_all s.length (fun k => byteOk (nth s (k : Int))) (fun I mu k hk hp hn => ?_) (fun ha => ?_)
 ·refine ⟨by omega, ?_⟩
  cases h1 : decide (((nth s (k : Int)).toNat : Int) < 97) with
  | true => rw [if_pos rfl]; rw [allN_false hk (by simp only [byteOk, h1]; rfl), Bool.false_and] at hq; exact hq
  | false =>
   rw [if_neg (by decide)]
   refine ⟨by omega, ?_⟩
   cases h2 : decide (((nth s (k : Int)).toNat : Int) > 122) with
   | true => rw [if_pos rfl]; rw [allN_false hk (by simp only [byteOk, h1, h2]; rfl), Bool.false_and] at hq; exact hq
   | false =>
    rw [if_neg (by decide)]
    obtain ⟨i1, i2⟩ := hn (by simp only [byteOk, h1, h2]; rfl)
    exact ⟨by omega, i1, i2⟩
 ·rw [allN_true ha, Bool.true_and] at hq
  by_cases h : 1 ≤ s.length
  ·rw [decide_eq_true h, Bool.true_and] at hq
   rw [if_pos (by rw [decide_eq_true_eq]; omega)]
   have e2 : decide ((s.length : Int) ≤ 6) = decide (s.length ≤ 6) := decide_eq_decide.2 (by omega)
   rw [e2]; exact hq
  ·rw [decide_eq_false h, Bool.false_and] at hq
   rw [if_neg (by rw [decide_eq_true_eq]; omega)]; exact hq
theorem F104.m_is (n : Int) : F104.m n = inR n := by
 unfold F104.m inR
 by_cases h : -1000 ≤ n
 ·rw [if_pos (by rw [decide_eq_true_eq]; omega), decide_eq_true h, Bool.true_and]
 ·rw [if_neg (by rw [decide_eq_true_eq]; omega), decide_eq_false h, Bool.false_and]
theorem F105.law (p : List Pt) (Q : Bool → Prop) (hq : Q (ptsOk p && decide (p.length ≤ 6))) : F105.E p Q := by
 unfold F105.E
 unfold ptsOk at hq
 refine loop_all p.length (fun k => ptOk (nth p (k : Int)) && (decide (k = 0) || !(decide (nth p ((k : Int) - 1) = nth p (k : Int))))) (fun I mu k hk hp hn => ?_) (fun ha => ?_)
 ·refine ⟨by omega, ?_⟩
  rw [F104.m_is, F104.m_is]
  have bad : (ptOk (nth p (k : Int)) && (decide (k = 0) || !(decide (nth p ((k : Int) - 1) = nth p (k : Int))))) = false → Q false := fun h => by
   rw [allN_false hk h, Bool.false_and] at hq; exact hq
  cases h1 : inR (nth p (k : Int)).X with
  | false => rw [if_pos (by decide)]; exact bad (by simp only [ptOk, h1, Bool.false_and])
  | true =>
   rw [if_neg (by decide)]
   refine ⟨by omega, ?_⟩
   cases h2 : inR (nth p (k : Int)).Y with
   | false => rw [if_pos (by decide)]; exact bad (by simp only [ptOk, h2, Bool.and_false, Bool.false_and])
   | true =>
    rw [if_neg (by decide)]
    have hpt : ptOk (nth p (k : Int)) = true := by simp only [ptOk, h1, h2, Bool.and_self]
    by_cases hk0 : k = 0
    ·rw [if_neg (by rw [decide_eq_true_eq]; omega)]
     obtain ⟨i1, i2⟩ := hn (by rw [hpt, decide_eq_true hk0]; rfl)
     exact ⟨by omega, i1, i2⟩
    ·rw [if_pos (by rw [decide_eq_true_eq]; omega)]
     refine ⟨by omega, fun _ => by unfold I64; omega, by omega, ?_⟩
     rw [eqPt_is]
     by_cases he : nth p ((k : Int) - 1) = nth p (k : Int)
     ·rw [if_pos (by rw [decide_eq_true_eq]; exact he.symm)]
      exact bad (by rw [hpt, decide_eq_false hk0, decide_eq_true he]; rfl)
     ·rw [if_neg (by rw [decide_eq_true_eq]; exact fun e => he e.symm)]
      obtain ⟨i1, i2⟩ := hn (by rw [hpt, decide_eq_false hk0, decide_eq_false he]; rfl)
      exact ⟨by omega, i1, i2⟩
 ·rw [allN_true ha, Bool.true_and] at hq
  have e2 : decide ((p.length : Int) ≤ 6) = decide (p.length ≤ 6) := decide_eq_decide.2 (by omega)
  rw [e2]; exact hq
theorem F53.law (s : Shape) (Q : Bool → Prop) (hq : Q (shapeOk s)) : F53.E s Q := by
 unfold F53.E
 unfold shapeOk at hq
 refine F105.law _ _ ?_
 cases h1 : ptsOk s.Pts with
 | false => rw [h1, Bool.false_and] at hq; rw [Bool.false_and, if_pos (by decide)]; exact hq
 | true =>
  rw [h1, Bool.true_and] at hq
  rw [Bool.true_and]
  unfold kindOk at hq
  by_cases h6 : s.Pts.length ≤ 6
  ·rw [decide_eq_true h6, if_neg (by decide)]
   by_cases k1 : s.Kind = 1
   ·rw [if_pos k1] at hq
    rw [if_pos (by rw [beq_iff_eq]; exact k1)]
    have : ((s.Pts.length : Int) == 1) = decide (s.Pts.length = 1) := by rw [Bool.eq_iff_iff, beq_iff_eq, decide_eq_true_eq]; omega
    rw [this]; exact hq
   rw [if_neg k1] at hq
   rw [if_neg (by rw [beq_iff_eq]; exact k1)]
   by_cases k2 : s.Kind = 2
   ·rw [if_pos k2, decide_eq_true h6, Bool.and_true] at hq
    rw [if_pos (by rw [beq_iff_eq]; exact k2)]
    have : decide ((s.Pts.length : Int) ≥ 2) = decide (2 ≤ s.Pts.length) := decide_eq_decide.2 (by omega)
    rw [this]; exact hq
   rw [if_neg k2] at hq
   rw [if_neg (by rw [beq_iff_eq]; exact k2)]
   by_cases k3 : s.Kind = 3
   ·rw [if_pos k3, decide_eq_true h6, Bool.and_true] at hq
    rw [if_pos (by rw [beq_iff_eq]; exact k3)]
    by_cases h3 : 3 ≤ s.Pts.length
    ·rw [decide_eq_true h3, Bool.true_and] at hq
     rw [if_pos (by rw [decide_eq_true_eq]; omega), eqPt_is]
     exact ⟨by omega, fun _ => by unfold I64; omega, by omega, hq⟩
    ·rw [decide_eq_false h3, Bool.false_and] at hq
     rw [if_neg (by rw [decide_eq_true_eq]; omega)]; exact hq
   ·rw [if_neg k3] at hq
    rw [if_neg (by rw [beq_iff_eq]; exact k3)]; exact hq
  ·rw [decide_eq_false h6, if_pos (by decide)]
   have : (if s.Kind = 1 then decide (s.Pts.length = 1) else if s.Kind = 2 then decide (2 ≤ s.Pts.length) && decide (s.Pts.length ≤ 6)
 else if s.Kind = 3 then decide (3 ≤ s.Pts.length) && decide (s.Pts.length ≤ 6) && !(decide (nth s.Pts 0 = nth s.Pts ((s.Pts.length : Int) - 1))) else false) = false := by
    rw [decide_eq_false h6, decide_eq_false (show ¬ s.Pts.length = 1 by omega)]
    simp
   rw [this] at hq; exact hq
theorem F73.law (t : List Tag) (Q : Bool → Prop) (hq : Q (tagsOk t && decide (t.length ≤ 4))) : F73.E t Q := by
 unfold F73.E
 unfold tagsOk at hq
 refine loop_all t.length (fun k => wordOk (nth t (k : Int)).Key && wordOk (nth t (k : Int)).Val && (decide (k = 0) || Op.bytesLess (nth t ((k : Int) - 1)).Key (nth t (k : Int)).Key)) (fun I mu k hk hp hn => ?_) (fun ha => ?_)
 ·have bad : (wordOk (nth t (k : Int)).Key && wordOk (nth t (k : Int)).Val && (decide (k = 0) || Op.bytesLess (nth t ((k : Int) - 1)).Key (nth t (k : Int)).Key)) = false → Q false := fun h => by
   rw [allN_false hk h, Bool.false_and] at hq; exact hq
  refine ⟨by omega, _, F72.law _ _ rfl, ?_⟩
  cases h1 : wordOk (nth t (k : Int)).Key with
  | false => rw [if_pos (by decide)]; exact bad (by rw [h1]; rfl)
  | true =>
   rw [if_neg (by decide)]
   refine ⟨by omega, _, F72.law _ _ rfl, ?_⟩
   cases h2 : wordOk (nth t (k : Int)).Val with
   | false => rw [if_pos (by decide)]; exact bad (by rw [h2, Bool.and_false]; rfl)
   | true =>
    rw [if_neg (by decide)]
    by_cases hk0 : k = 0
    ·rw [if_neg (by rw [decide_eq_true_eq]; omega)]
     obtain ⟨i1, i2⟩ := hn (by rw [h1, h2, decide_eq_true hk0]; rfl)
     exact ⟨by omega, i1, i2⟩
    ·rw [if_pos (by rw [decide_eq_true_eq]; omega)]
     refine ⟨by omega, fun _ => by unfold I64; omega, by omega, ?_⟩
     rw [← less_tri]
     cases h3 : Op.bytesLess (nth t ((k : Int) - 1)).Key (nth t (k : Int)).Key with
     | false => rw [if_pos (by decide)]; exact bad (by rw [h3, h1, h2, decide_eq_false hk0]; rfl)
     | true =>
      rw [if_neg (by decide)]
      obtain ⟨i1, i2⟩ := hn (by rw [h3, h1, h2, decide_eq_false hk0]; rfl)
      exact ⟨by omega, i1, i2⟩
 ·rw [allN_true ha, Bool.true_and] at hq
  have e2 : decide ((t.length : Int) ≤ 4) = decide (t.length ≤ 4) := decide_eq_decide.2 (by omega)
  rw [e2]; exact hq
theorem F74.law (f : Feat) (Q : Bool → Prop) (hq : Q (featOk f)) : F74.E f Q := by
 unfold F74.E
 unfold featOk at hq
 refine F72.law _ _ ?_
 cases h1 : wordOk f.Id with
 | false => rw [h1, Bool.and_false, Bool.false_and] at hq; rw [if_neg (by decide)]; exact hq
 | true =>
  rw [h1, Bool.and_true] at hq
  rw [if_pos rfl]
  refine F53.law _ _ ?_
  cases h2 : shapeOk f.Shape with
  | false => rw [h2, Bool.and_false] at hq; rw [if_neg (by decide)]; exact hq
  | true => rw [h2, Bool.and_true] at hq; rw [if_pos rfl]; exact F73.law _ _ hq
theorem F54.law (d : List Feat) (Q : Bool → Prop) (hq : Q (sheetOk d)) : F54.E d Q := by
 unfold F54.E
 unfold sheetOk at hq
 refine loop_all d.length (fun k => featOk (nth d (k : Int)) && (decide (k = 0) || Op.bytesLess (nth d ((k : Int) - 1)).Id (nth d (k : Int)).Id)) (fun I mu k hk hp hn => ?_) (fun ha => ?_)
 ·have bad : (featOk (nth d (k : Int)) && (decide (k = 0) || Op.bytesLess (nth d ((k : Int) - 1)).Id (nth d (k : Int)).Id)) = false → Q false := fun h => by
   rw [allN_false hk h, Bool.false_and] at hq; exact hq
  refine ⟨by omega, _, F74.law _ _ rfl, ?_⟩
  cases h1 : featOk (nth d (k : Int)) with
  | false => rw [if_pos (by decide)]; exact bad (by rw [h1]; rfl)
  | true =>
   rw [if_neg (by decide)]
   by_cases hk0 : k = 0
   ·rw [if_neg (by rw [decide_eq_true_eq]; omega)]
    obtain ⟨i1, i2⟩ := hn (by rw [h1, decide_eq_true hk0]; rfl)
    exact ⟨by omega, i1, i2⟩
   ·rw [if_pos (by rw [decide_eq_true_eq]; omega)]
    refine ⟨by omega, fun _ => by unfold I64; omega, by omega, ?_⟩
    rw [← less_tri]
    cases h3 : Op.bytesLess (nth d ((k : Int) - 1)).Id (nth d (k : Int)).Id with
    | false => rw [if_pos (by decide)]; exact bad (by rw [h3, h1, decide_eq_false hk0]; rfl)
    | true =>
     rw [if_neg (by decide)]
     obtain ⟨i1, i2⟩ := hn (by rw [h3, h1, decide_eq_false hk0]; rfl)
     exact ⟨by omega, i1, i2⟩
 ·rw [allN_true ha, Bool.true_and] at hq
  have e2 : decide ((d.length : Int) ≤ 8) = decide (d.length ≤ 8) := decide_eq_decide.2 (by omega)
  rw [e2]; exact hq
theorem F76.law (a b : List Tag) (Q : Bool → Prop) (hq : Q (decide (a = b))) : F76.E a b Q := by
 unfold F76.E
 exact eqS_shape eqTag eqTag_is a b Q hq
theorem F75.law (a b : List Pt) (Q : Bool → Prop) (hq : Q (decide (a = b))) : F75.E a b Q := by
 unfold F75.E
 exact eqS_shape eqPt eqPt_is a b Q hq
theorem F24.law (a b : Shape) (Q : Bool → Prop) (hq : Q (decide (a = b))) : F24.E a b Q := by
 unfold F24.E
 by_cases h : a.Kind = b.Kind
 ·rw [if_pos (by rw [beq_iff_eq]; exact h)]
  refine F75.law _ _ _ ?_
  have : decide (a.Pts = b.Pts) = decide (a = b) := decide_eq_decide.2 (by rw [Shape.ext_iff']; exact ⟨fun e => ⟨h, e⟩, fun e => e.2⟩)
  rw [this]; exact hq
 ·rw [if_neg (by rw [beq_iff_eq]; exact h)]
  rw [decide_eq_false (by rw [Shape.ext_iff']; exact fun e => h e.1)] at hq; exact hq
theorem F35.law (a b : Feat) (Q : Bool → Prop) (hq : Q (decide (a = b))) : F35.E a b Q := by
 unfold F35.E
 by_cases h : a.Id = b.Id
 ·rw [if_pos (by rw [beq_iff_eq]; exact h)]
  refine F24.law _ _ _ ?_
  by_cases h2 : a.Shape = b.Shape
  ·rw [decide_eq_true h2, if_pos rfl]
   refine F76.law _ _ _ ?_
   have : decide (a.Tags = b.Tags) = decide (a = b) := decide_eq_decide.2 (by rw [Feat.ext_iff']; exact ⟨fun e => ⟨h, h2, e⟩, fun e => e.2.2⟩)
   rw [this]; exact hq
  ·rw [decide_eq_false h2, if_neg (by decide)]
   rw [decide_eq_false (by rw [Feat.ext_iff']; exact fun e => h2 e.2.1)] at hq; exact hq
 ·rw [if_neg (by rw [beq_iff_eq]; exact h)]
  rw [decide_eq_false (by rw [Feat.ext_iff']; exact fun e => h e.1)] at hq; exact hq
theorem F106.law (c : Change) (Q : Bool → Prop) (hq : Q (changeOk c)) : F106.E c Q := by
 unfold F106.E
 unfold changeOk sideOk noF sameC at hq
 have eid : ∀ f : Feat, (f.Id == c.Id) = decide (f.Id = c.Id) := fun f => by rw [Bool.eq_iff_iff, beq_iff_eq, decide_eq_true_eq]
 refine F72.law _ _ ?_
 cases hw : wordOk c.Id with
 | false => rw [hw] at hq; rw [if_pos (by decide)]; exact hq
 | true =>
  rw [hw, Bool.true_and] at hq
  rw [if_neg (by decide)]
  cases h1 : c.Had <;> cases h2 : c.Has
  ·-- neither
   rw [h1, h2] at hq
   rw [if_pos (by decide), if_pos (by decide)]
   simp only [reduceIte, Bool.false_eq_true, Bool.true_eq_false, reduceCtorEq, if_false, if_true, eq_self, decide_true, decide_false, Bool.true_and, Bool.false_and, Bool.not_false, Bool.not_true, Bool.and_true] at hq
   have e : (decide (c.Was = (⟨[], ⟨0, []⟩, []⟩ : Feat)) && decide (c.Now = (⟨[], ⟨0, []⟩, []⟩ : Feat)) && !(decide (c.Was = c.Now))) = false := by
    by_cases a : c.Was = (⟨[], ⟨0, []⟩, []⟩ : Feat)
    ·by_cases b : c.Now = (⟨[], ⟨0, []⟩, []⟩ : Feat)
     ·rw [decide_eq_true (a.trans b.symm)]; simp
     ·rw [decide_eq_false b]; simp
    ·rw [decide_eq_false a]; rfl
   rw [e] at hq; exact hq
  ·rw [h1, h2] at hq
   simp only [reduceIte, Bool.false_eq_true, Bool.true_eq_false, reduceCtorEq, if_false, if_true, eq_self, decide_true, decide_false, Bool.true_and, Bool.false_and, Bool.not_false, Bool.not_true, Bool.and_true] at hq
   rw [if_pos (by decide), if_neg (by decide), if_neg (by decide)]
   refine F35.law _ _ _ ?_
   cases ha : decide (c.Was = (⟨[], ⟨0, []⟩, []⟩ : Feat)) with
   | false => rw [ha] at hq; rw [if_pos (by decide)]; exact hq
   | true =>
    rw [ha, Bool.true_and] at hq
    rw [if_neg (by decide)]
    refine F74.law _ _ ?_
    cases hf : featOk c.Now with
    | false => rw [hf] at hq; rw [if_neg (by decide)]; exact hq
    | true => rw [hf, Bool.true_and] at hq; rw [if_pos rfl, eid]; exact hq
  ·rw [h1, h2] at hq
   simp only [reduceIte, Bool.false_eq_true, Bool.true_eq_false, reduceCtorEq, if_false, if_true, eq_self, decide_true, decide_false, Bool.true_and, Bool.false_and, Bool.not_false, Bool.not_true, Bool.and_true] at hq
   rw [if_neg (by decide), if_pos rfl, if_neg (by decide), if_pos (by decide)]
   refine F35.law _ _ _ ?_
   cases ha : decide (c.Now = (⟨[], ⟨0, []⟩, []⟩ : Feat)) with
   | false => rw [ha, Bool.and_false] at hq; rw [if_pos (by decide)]; exact hq
   | true =>
    rw [ha, Bool.and_true] at hq
    rw [if_neg (by decide)]
    refine F74.law _ _ ?_
    cases hf : featOk c.Was with
    | false => rw [hf] at hq; rw [if_neg (by decide)]; exact hq
    | true =>
     rw [hf, Bool.true_and] at hq; rw [if_pos rfl, eid]
     cases hi : decide (c.Was.Id = c.Id) with
     | false => rw [hi] at hq; rw [if_neg (by decide)]; exact hq
     | true => rw [hi] at hq; rw [if_pos rfl]; exact hq
  ·rw [h1, h2] at hq
   simp only [reduceIte, Bool.false_eq_true, Bool.true_eq_false, reduceCtorEq, if_false, if_true, eq_self, decide_true, decide_false, Bool.true_and, Bool.false_and, Bool.not_false, Bool.not_true, Bool.and_true] at hq
   rw [if_neg (by decide), if_pos rfl, if_pos rfl]
   refine F35.law _ _ _ ?_
   cases hs : decide (c.Was = c.Now) with
   | true => rw [hs, Bool.not_true, Bool.and_false] at hq; rw [if_pos rfl]; exact hq
   | false =>
    rw [hs, Bool.not_false, Bool.and_true] at hq
    rw [if_neg (by decide), if_neg (by decide)]
    refine F74.law _ _ ?_
    cases hf : featOk c.Was with
    | false => rw [hf] at hq; rw [if_neg (by decide)]; exact hq
    | true =>
     rw [hf, Bool.true_and] at hq; rw [if_pos rfl, eid]
     cases hi : decide (c.Was.Id = c.Id) with
     | false => rw [hi] at hq; rw [if_neg (by decide)]; exact hq
     | true =>
      rw [hi, Bool.true_and] at hq; rw [if_pos rfl]
      refine F74.law _ _ ?_
      cases hg : featOk c.Now with
      | false => rw [hg] at hq; rw [if_neg (by decide)]; exact hq
      | true => rw [hg, Bool.true_and] at hq; rw [if_pos rfl, eid]; exact hq
theorem F77.law (d : List Change) (Q : Bool → Prop) (hq : Q (diffOk d)) : F77.E d Q := by
 unfold F77.E
 unfold diffOk at hq
 refine loop_all d.length (fun k => changeOk (nth d (k : Int)) && (decide (k = 0) || Op.bytesLess (nth d ((k : Int) - 1)).Id (nth d (k : Int)).Id)) (fun I mu k hk hp hn => ?_) (fun ha => ?_)
 ·have bad : (changeOk (nth d (k : Int)) && (decide (k = 0) || Op.bytesLess (nth d ((k : Int) - 1)).Id (nth d (k : Int)).Id)) = false → Q false := fun h => by
   rw [allN_false hk h, Bool.false_and] at hq; exact hq
  refine ⟨by omega, _, F106.law _ _ rfl, ?_⟩
  cases h1 : changeOk (nth d (k : Int)) with
  | false => rw [if_pos (by decide)]; exact bad (by rw [h1]; rfl)
  | true =>
   rw [if_neg (by decide)]
   by_cases hk0 : k = 0
   ·rw [if_neg (by rw [decide_eq_true_eq]; omega)]
    obtain ⟨i1, i2⟩ := hn (by rw [h1, decide_eq_true hk0]; rfl)
    exact ⟨by omega, i1, i2⟩
   ·rw [if_pos (by rw [decide_eq_true_eq]; omega)]
    refine ⟨by omega, fun _ => by unfold I64; omega, by omega, ?_⟩
    rw [← less_tri]
    cases h3 : Op.bytesLess (nth d ((k : Int) - 1)).Id (nth d (k : Int)).Id with
    | false => rw [if_pos (by decide)]; exact bad (by rw [h3, h1, decide_eq_false hk0]; rfl)
    | true =>
     rw [if_neg (by decide)]
     obtain ⟨i1, i2⟩ := hn (by rw [h3, h1, decide_eq_false hk0]; rfl)
     exact ⟨by omega, i1, i2⟩
 ·rw [allN_true ha, Bool.true_and] at hq
  have e2 : decide ((d.length : Int) ≤ 16) = decide (d.length ≤ 16) := decide_eq_decide.2 (by omega)
  rw [e2]; exact hq
theorem F78.law (s : List Feat) (id : Str) (Q : Int → Prop) (hq : Q (findN s.length fun j => (nth s (j : Int)).Id == id)) : F78.E s id Q := by
 unfold F78.E
 refine loop_find s.length (fun j => (nth s (j : Int)).Id == id) hq (fun I mu k hk h1 h2 => ⟨by omega, ?_⟩)
 cases h : (nth s (k : Int)).Id == id with
 | true => rw [if_pos rfl]; exact h1 h
 | false => rw [if_neg (by decide)]; obtain ⟨i1, i2⟩ := h2 h; exact ⟨by omega, i1, i2⟩
theorem F80.law (f : Feat) (Q : Feat → Prop) (hb : bulk f ≤ 1048576) (hq : Q f) : F80.E f Q := by
 unfold F80.E F79.E
 have h := bulk_feat f
 have h1 := bulk_len f.Tags
 have h2 := bulk_len f.Shape.Pts
 exact ⟨by simp only [List.length_nil]; omega, by simp only [List.length_nil]; omega, hq⟩
theorem F81.law (s : List Feat) (id : Str) (Q : Feat → Bool → Prop) (hb : bulk s ≤ 1048576) (hq : Q (sideOf s id).1 (sideOf s id).2) : F81.E s id Q := by
 unfold F81.E
 have hl := bulk_len s
 refine F78.law _ _ _ ?_
 have h1 := findN_le s.length fun j => (nth s (j : Int)).Id == id
 unfold sideOf at hq
 by_cases h : findN s.length (fun j => (nth s (j : Int)).Id == id) < 0
 ·rw [if_pos h] at hq; rw [if_pos (by simpa using h)]; exact hq
 ·rw [if_neg h] at hq; rw [if_neg (by simpa using h)]
  exact ⟨by omega, F80.law _ _ (by have := bulk_mem (nth_memi s (by omega) h1.2); omega) hq⟩
theorem F82.law (s : List Feat) (c : Change) (Q : Bool → Prop) (hb : bulk s ≤ 1048576) (hq : Q (fits s c)) : F82.E s c Q := by
 unfold F82.E
 unfold fits at hq
 refine F81.law _ _ _ hb ?_
 by_cases h : (sideOf s c.Id).2 = c.Had
 ·rw [if_pos (by simpa using h)]
  rw [decide_eq_true h, Bool.true_and] at hq
  exact F35.law _ _ _ hq
 ·rw [if_neg (by simpa using h)]
  rw [decide_eq_false h, Bool.false_and] at hq; exact hq
def PutS (s : List Feat) (f : Feat) (u : Nat) (xs : List Feat) (done : Bool) : Prop :=
 u ≤ s.length ∧ SS (ids xs) ∧ (∀ x, x ∈ ids xs ↔ x ∈ ids (s.take u) ∨ (done = true ∧ x = f.Id)) ∧ (done = false → (∀ x ∈ ids (s.take u), Op.bytesLess x f.Id = true) ∧ xs = s.take u) ∧
  (done = true → ∀ y ∈ ids (s.drop u), Op.bytesLess f.Id y = true) ∧ xs.length ≤ u + 1 ∧ (∀ z ∈ xs, z ∈ s ∨ z = f)
theorem ss_snoc {l : List Str} {x : Str} (h : SS l) (hx : ∀ y ∈ l, Op.bytesLess y x = true) : SS (l ++ [x]) := by
 unfold SS
 rw [List.pairwise_append]
 exact ⟨h, List.pairwise_singleton _ _, fun a ha b hb => by rw [List.mem_singleton.1 hb]; exact hx a ha⟩
theorem ids_take {s : List Feat} {u : Nat} (hu : u < s.length) : ids (s.take (u + 1)) = ids (s.take u) ++ [(nth s (u : Int)).Id] := by rw [take_nth s hu, ids_app]; rfl
theorem ids_cut (s : List Feat) (u : Nat) : ids s = ids (s.take u) ++ ids (s.drop u) := by rw [← ids_app, List.take_append_drop]
theorem dropNth {s : List Feat} {u : Nat} (hu : u < s.length) : s.drop u = nth s (u : Int) :: s.drop (u + 1) := by rw [nth_nat s hu]; exact List.drop_eq_getElem_cons hu
theorem ss_lt {s : List Feat} (h : SS (ids s)) {u : Nat} (hu : u < s.length) : (∀ x ∈ ids (s.take u), Op.bytesLess x (nth s (u : Int)).Id = true) ∧ ∀ y ∈ ids (s.drop (u + 1)), Op.bytesLess (nth s (u : Int)).Id y = true := by
 have e := ids_cut s u
 rw [dropNth hu] at e
 have e2 : ids (nth s (u : Int) :: s.drop (u + 1)) = (nth s (u : Int)).Id :: ids (s.drop (u + 1)) := rfl
 rw [e2] at e
 rw [e] at h
 obtain ⟨h1, h2, h3⟩ := List.pairwise_append.1 h
 exact ⟨fun x hx => h3 x hx _ List.mem_cons_self, (List.pairwise_cons.1 h2).1⟩
theorem F107.law (s : List Feat) (f : Feat) (Q : List Feat → Prop) (hl : s.length ≤ 1048576) (hs : SS (ids s)) (hq : ∀ r, SS (ids r) → (∀ x, x ∈ ids r ↔ x ∈ ids s ∨ x = f.Id) → r.length ≤ s.length + 1 → (∀ z ∈ r, z ∈ s ∨ z = f) → Q r) : F107.E s f Q := by
 unfold F107.E
 refine ⟨fun xs done i => ∃ u : Nat, i = u ∧ PutS s f u xs done, fun _ _ i => (s.length - i).toNat, ⟨0, rfl, Nat.zero_le _, by simp [ids, SS], by simp [ids], fun _ => ⟨by simp [ids], by simp⟩, (fun h => by cases h), by simp, by simp⟩, ?_⟩
 rintro xs done _ ⟨u, rfl, hu, h1, h2, h3, h4, h5, h6⟩
 by_cases h : u < s.length
 ·rw [if_pos (by simpa using h)]
  obtain ⟨b1, b2⟩ := ss_lt hs h
  have hin : nth s (u : Int) ∈ s := nth_mem s h
  have hdr : ∀ y ∈ ids (s.drop u), y = (nth s (u : Int)).Id ∨ y ∈ ids (s.drop (u + 1)) := fun y hy => by rw [dropNth h] at hy; exact List.mem_cons.1 hy
  have hcur : (nth s (u : Int)).Id ∈ ids (s.drop u) := by rw [dropNth h]; exact List.mem_cons_self
  have hdr' : ∀ y ∈ ids (s.drop (u + 1)), y ∈ ids (s.drop u) := fun y hy => by rw [dropNth h]; exact List.mem_cons_of_mem _ hy
  have stay : ∀ d, d = done → Op.bytesLess (nth s (u : Int)).Id f.Id = true ∨ d = true → xs.length + 1 ≤ u + 1 + 1 → PutS s f (u + 1) (xs ++ [nth s (u : Int)]) d := fun d hd hor hlen => by
   subst hd
   refine ⟨h, ?_, fun x => ?_, fun hdn => ⟨fun x hx => ?_, ?_⟩, fun hdn y hy => h4 hdn y (hdr' y hy), by simp only [List.length_append, List.length_singleton]; omega, fun z hz => ?_⟩
   ·rw [ids_app]
    refine ss_snoc h1 fun y hy => ?_
    rcases (h2 y).1 hy with hy | ⟨hd, rfl⟩
    ·exact b1 y hy
    ·exact h4 hd _ hcur
   ·rw [ids_app, List.mem_append, h2, ids_take h, List.mem_append]
    constructor
    ·rintro ((hx | hx) | hx)
     ·exact .inl (.inl hx)
     ·exact .inr hx
     ·exact .inl (.inr hx)
    ·rintro ((hx | hx) | hx)
     ·exact .inl (.inl hx)
     ·exact .inr hx
     ·exact .inl (.inr hx)
   ·rw [ids_take h] at hx
    rcases List.mem_append.1 hx with hx | hx
    ·exact (h3 hdn).1 x hx
    ·rw [List.mem_singleton.1 hx]
     rcases hor with hor | hor
     ·exact hor
     ·rw [hdn] at hor; cases hor
   ·rw [(h3 hdn).2, ← take_nth s h]
   ·rcases List.mem_append.1 hz with hz | hz
    ·exact h6 z hz
    ·rw [List.mem_singleton.1 hz]; exact .inl hin
  cases done with
  | true =>
   rw [if_neg (by decide)]
   have hlt := h4 rfl _ hcur
   have hne : (nth s (u : Int)).Id ≠ f.Id := fun e => by rw [e, less_irr] at hlt; cases hlt
   refine ⟨by omega, ?_⟩
   rw [if_pos (by rw [bne_iff_ne]; exact hne)]
   exact ⟨by omega, by simp only [List.length_cons, List.length_nil]; omega, by omega, ⟨u + 1, by omega, stay true rfl (.inr rfl) (by omega)⟩, by dsimp only; omega⟩
  | false =>
   rw [if_pos (by decide)]
   obtain ⟨c1, c2⟩ := h3 rfl
   have hxl : xs.length = u := by rw [c2, List.length_take]; omega
   refine ⟨by omega, ?_⟩
   cases k : Op.bytesLess (nth s (u : Int)).Id f.Id with
   | true =>
    rw [if_neg (by decide)]
    have hne : (nth s (u : Int)).Id ≠ f.Id := fun e => by rw [e, less_irr] at k; cases k
    refine ⟨by omega, ?_⟩
    rw [if_pos (by rw [bne_iff_ne]; exact hne)]
    exact ⟨by omega, by simp only [List.length_cons, List.length_nil]; omega, by omega, ⟨u + 1, by omega, stay false rfl (.inl k) (by omega)⟩, by dsimp only; omega⟩
   | false =>
    rw [if_pos (by decide)]
    have g1 : SS (ids (xs ++ [f])) := by
     rw [ids_app]
     refine ss_snoc h1 fun y hy => ?_
     rcases (h2 y).1 hy with hy | ⟨hd, _⟩
     ·exact c1 y hy
     ·cases hd
    refine ⟨by simp only [List.length_cons, List.length_nil]; omega, by omega, ?_⟩
    by_cases hne : (nth s (u : Int)).Id = f.Id
    ·rw [if_neg (by rw [hne]; simp)]
     refine ⟨by omega, ⟨u + 1, by omega, h, g1, fun x => ?_, (fun hd => by cases hd), fun _ y hy => by rw [← hne]; exact b2 y hy, by simp only [List.length_append, List.length_singleton]; omega, fun z hz => ?_⟩, by dsimp only; omega⟩
     ·rw [ids_app, List.mem_append, h2, ids_take h, List.mem_append, hne]
      show _ ∨ x ∈ [f.Id] ↔ _
      rw [List.mem_singleton]
      constructor
      ·rintro ((hx | ⟨hd, _⟩) | hx)
       ·exact .inl (.inl hx)
       ·cases hd
       ·exact .inr ⟨rfl, hx⟩
      ·rintro ((hx | hx) | ⟨_, hx⟩)
       ·exact .inl (.inl hx)
       ·exact .inr hx
       ·exact .inr hx
     ·rcases List.mem_append.1 hz with hz | hz
      ·exact h6 z hz
      ·exact .inr (List.mem_singleton.1 hz)
    ·rw [if_pos (by rw [bne_iff_ne]; exact hne)]
     have hlt : Op.bytesLess f.Id (nth s (u : Int)).Id = true := by
      rcases less_or k with g | g
      ·exact g
      ·exact absurd g.symm hne
     refine ⟨by omega, by simp only [List.length_append, List.length_cons, List.length_nil]; omega, by omega, ⟨u + 1, by omega, h, ?_, fun x => ?_, (fun hd => by cases hd), fun _ y hy => less_trans hlt (b2 y hy), by simp only [List.length_append, List.length_singleton]; omega, fun z hz => ?_⟩, by dsimp only; omega⟩
     ·rw [ids_app]
      refine ss_snoc g1 fun y hy => ?_
      rw [ids_app] at hy
      rcases List.mem_append.1 hy with hy | hy
      ·rcases (h2 y).1 hy with hy | ⟨hd, _⟩
       ·exact b1 y hy
       ·cases hd
      ·have hy : y = f.Id := List.mem_singleton.1 hy
       rw [hy]; exact hlt
     ·rw [ids_app, ids_app, List.mem_append, List.mem_append, h2, ids_take h, List.mem_append]
      show (_ ∨ x ∈ [f.Id]) ∨ x ∈ [(nth s (u : Int)).Id] ↔ _
      rw [List.mem_singleton, List.mem_singleton]
      constructor
      ·rintro (((hx | ⟨hd, _⟩) | hx) | hx)
       ·exact .inl (.inl hx)
       ·cases hd
       ·exact .inr ⟨rfl, hx⟩
       ·exact .inl (.inr hx)
      ·rintro ((hx | hx) | ⟨_, hx⟩)
       ·exact .inl (.inl (.inl hx))
       ·exact .inr hx
       ·exact .inl (.inr hx)
     ·rcases List.mem_append.1 hz with hz | hz
      ·rcases List.mem_append.1 hz with hz | hz
       ·exact h6 z hz
       ·exact .inr (List.mem_singleton.1 hz)
      ·rw [List.mem_singleton.1 hz]; exact .inl hin
 ·rw [if_neg (by simpa using h)]
  have : u = s.length := by omega
  subst this
  rw [List.take_length] at h2 h3
  cases done with
  | true =>
   rw [if_neg (by decide)]
   exact hq xs h1 (fun x => by rw [h2]; simp) h5 h6
  | false =>
   rw [if_pos (by decide)]
   obtain ⟨c1, c2⟩ := h3 rfl
   refine ⟨by simp only [List.length_cons, List.length_nil]; omega, hq _ ?_ (fun x => ?_) (by rw [c2]; simp) fun z hz => ?_⟩
   ·rw [ids_app]
    refine ss_snoc h1 fun y hy => ?_
    rcases (h2 y).1 hy with hy | ⟨hd, _⟩
    ·exact c1 y hy
    ·cases hd
   ·rw [ids_app, List.mem_append, h2]
    show _ ∨ x ∈ [f.Id] ↔ _
    rw [List.mem_singleton]; simp
   ·rcases List.mem_append.1 hz with hz | hz
    ·exact h6 z hz
    ·exact .inr (List.mem_singleton.1 hz)
def putL (s : List Feat) (f : Feat) : List Feat := (s.filter fun x => Op.bytesLess x.Id f.Id) ++ f :: s.filter fun x => Op.bytesLess f.Id x.Id
theorem F107.law2 (s : List Feat) (f : Feat) (Q : List Feat → Prop) (hl : s.length ≤ 1048576) (hs : SS (ids s)) (hq : Q (putL s f)) : F107.E s f Q := by
 unfold F107.E
 refine ⟨fun xs done i => ∃ u : Nat, i = u ∧ u ≤ s.length ∧ xs.length ≤ u + 1 ∧ ((done = false ∧ xs = s.take u ∧ ∀ z ∈ s.take u, Op.bytesLess z.Id f.Id = true) ∨ (done = true ∧ xs = putL (s.take u) f ∧ ∃ z ∈ s.take u, Op.bytesLess z.Id f.Id = false)), fun _ _ i => (s.length - i).toNat, ⟨0, rfl, Nat.zero_le _, by simp, .inl ⟨rfl, rfl, by simp⟩⟩, ?_⟩
 rintro xs done _ ⟨u, rfl, hu, hlen, hc⟩
 by_cases h : u < s.length
 ·rw [if_pos (by simpa using h)]
  have hm : nth s (u : Int) ∈ s.take (u + 1) := by rw [take_nth s h]; exact List.mem_append_right _ (List.mem_singleton.2 rfl)
  have hsub : ∀ z ∈ s.take u, z ∈ s.take (u + 1) := fun z hz => by rw [take_nth s h]; exact List.mem_append_left _ hz
  obtain ⟨b1, b2⟩ := ss_lt hs h
  rcases hc with ⟨rfl, rfl, hall⟩ | ⟨rfl, rfl, z, hz, hzf⟩
  ·rw [if_pos (by decide)]
   refine ⟨by omega, ?_⟩
   have fl : ∀ l : List Feat, (∀ z ∈ l, Op.bytesLess z.Id f.Id = true) → (l.filter fun x => Op.bytesLess x.Id f.Id) = l := fun l hl => List.filter_eq_self.2 hl
   have fg : ∀ l : List Feat, (∀ z ∈ l, Op.bytesLess z.Id f.Id = true) → (l.filter fun x => Op.bytesLess f.Id x.Id) = [] := fun l hl => List.filter_eq_nil_iff.2 fun z hz => by rw [less_asym (hl z hz)]; exact Bool.false_ne_true
   cases k : Op.bytesLess (nth s (u : Int)).Id f.Id with
   | true =>
    rw [if_neg (by decide)]
    have hne : (nth s (u : Int)).Id ≠ f.Id := fun e => by rw [e, less_irr] at k; cases k
    refine ⟨by omega, ?_⟩
    rw [if_pos (by rw [bne_iff_ne]; exact hne)]
    refine ⟨by omega, by simp only [List.length_take, List.length_cons, List.length_nil]; omega, by omega, ⟨u + 1, by omega, by omega, by simp only [List.length_append, List.length_take, List.length_cons, List.length_nil]; omega, .inl ⟨rfl, (take_nth s h).symm, fun z hz => ?_⟩⟩, by dsimp only; omega⟩
    rw [take_nth s h] at hz
    rcases List.mem_append.1 hz with hz | hz
    ·exact hall z hz
    ·rw [List.mem_singleton.1 hz]; exact k
   | false =>
    rw [if_pos (by decide)]
    refine ⟨by simp only [List.length_take, List.length_cons, List.length_nil]; omega, by omega, ?_⟩
    by_cases hne : (nth s (u : Int)).Id = f.Id
    ·rw [if_neg (by rw [hne]; simp)]
     refine ⟨by omega, ⟨u + 1, by omega, by omega, by simp only [List.length_append, List.length_take, List.length_cons, List.length_nil]; omega, .inr ⟨rfl, ?_, _, hm, k⟩⟩, by dsimp only; omega⟩
     unfold putL
     rw [take_nth s h, List.filter_append, List.filter_append, fl _ hall, fg _ hall, List.filter_cons_of_neg (by rw [k]; exact Bool.false_ne_true), List.filter_cons_of_neg (by rw [hne, less_irr]; exact Bool.false_ne_true)]
     simp
    ·have hlt : Op.bytesLess f.Id (nth s (u : Int)).Id = true := by
      rcases less_or k with g | g
      ·exact g
      ·exact absurd g.symm hne
     rw [if_pos (by rw [bne_iff_ne]; exact hne)]
     refine ⟨by omega, by simp only [List.length_append, List.length_take, List.length_cons, List.length_nil]; omega, by omega, ⟨u + 1, by omega, by omega, by simp only [List.length_append, List.length_take, List.length_cons, List.length_nil]; omega, .inr ⟨rfl, ?_, _, hm, k⟩⟩, by dsimp only; omega⟩
     unfold putL
     rw [take_nth s h, List.filter_append, List.filter_append, fl _ hall, fg _ hall, List.filter_cons_of_neg (by rw [k]; exact Bool.false_ne_true), List.filter_cons_of_pos (p := fun x : Feat => Op.bytesLess f.Id x.Id) hlt]
     simp
  ·rw [if_neg (by decide)]
   have hlt : Op.bytesLess f.Id (nth s (u : Int)).Id = true := by
    have h1 := b1 z.Id (List.mem_map.2 ⟨z, hz, rfl⟩)
    rcases less_or hzf with g | g
    ·exact less_trans g h1
    ·rw [g]; exact h1
   have hne : (nth s (u : Int)).Id ≠ f.Id := fun e => by rw [e, less_irr] at hlt; cases hlt
   refine ⟨by omega, ?_⟩
   rw [if_pos (by rw [bne_iff_ne]; exact hne)]
   refine ⟨by omega, by simp only [List.length_cons, List.length_nil]; omega, by omega, ⟨u + 1, by omega, by omega, by simp only [List.length_append, List.length_cons, List.length_nil]; omega, .inr ⟨rfl, ?_, z, hsub z hz, hzf⟩⟩, by dsimp only; omega⟩
   unfold putL
   rw [take_nth s h, List.filter_append, List.filter_append, List.filter_cons_of_neg (by rw [less_asym hlt]; exact Bool.false_ne_true), List.filter_cons_of_pos (p := fun x : Feat => Op.bytesLess f.Id x.Id) hlt]
   simp
 ·rw [if_neg (by simpa using h)]
  have : u = s.length := by omega
  subst this
  rw [List.take_length] at hc
  rcases hc with ⟨rfl, rfl, hall⟩ | ⟨rfl, rfl, _⟩
  ·rw [if_pos (by decide)]
   refine ⟨by simp only [List.length_cons, List.length_nil]; omega, ?_⟩
   have e : putL xs f = xs ++ [f] := by
    unfold putL
    rw [List.filter_eq_self.2 hall, List.filter_eq_nil_iff.2 fun z hz => by rw [less_asym (hall z hz)]; exact Bool.false_ne_true]
   rw [e] at hq; exact hq
  ·rw [if_neg (by decide)]; exact hq
theorem putL_ss {s : List Feat} (h : SS (ids s)) (f : Feat) : SS (ids (putL s f)) := by
 have h := List.pairwise_map.1 h
 refine List.pairwise_map.2 ?_
 unfold putL
 refine List.pairwise_append.2 ⟨h.filter _, List.pairwise_cons.2 ⟨fun x hx => (List.mem_filter.1 hx).2, h.filter _⟩, fun a ha b hb => ?_⟩
 have h1 := (List.mem_filter.1 ha).2
 rcases List.mem_cons.1 hb with rfl | hb
 ·exact h1
 ·exact less_trans h1 (List.mem_filter.1 hb).2
theorem putL_mem {s : List Feat} {f x : Feat} : x ∈ putL s f ↔ (x ∈ s ∧ x.Id ≠ f.Id) ∨ x = f := by
 unfold putL
 rw [List.mem_append, List.mem_cons, List.mem_filter, List.mem_filter]
 constructor
 ·rintro (⟨h1, h2⟩ | rfl | ⟨h1, h2⟩)
  ·exact .inl ⟨h1, fun e => by rw [e, less_irr] at h2; cases h2⟩
  ·exact .inr rfl
  ·exact .inl ⟨h1, fun e => by rw [e, less_irr] at h2; cases h2⟩
 ·rintro (⟨h1, h2⟩ | rfl)
  ·cases k : Op.bytesLess x.Id f.Id with
   | true => exact .inl ⟨h1, rfl⟩
   | false =>
    rcases less_or k with g | g
    ·exact .inr (.inr ⟨h1, g⟩)
    ·exact absurd g.symm h2
  ·exact .inr (.inl rfl)
theorem F108.law (s : List Feat) (id : Str) (Q : List Feat → Prop) (hl : s.length ≤ 1048576) (hq : Q (s.filter fun f => decide (f.Id ≠ id))) : F108.E s id Q := by
 unfold F108.E
 refine ⟨fun xs i => ∃ u : Nat, i = u ∧ u ≤ s.length ∧ xs = (s.take u).filter fun f => decide (f.Id ≠ id), fun _ i => (s.length - i).toNat, ⟨0, rfl, Nat.zero_le _, rfl⟩, ?_⟩
 rintro _ _ ⟨u, rfl, hu, rfl⟩
 have hfl := List.length_filter_le (fun f : Feat => decide (f.Id ≠ id)) (s.take u)
 rw [List.length_take] at hfl
 by_cases h : u < s.length
 ·rw [if_pos (by simpa using h)]
  refine ⟨by omega, ?_⟩
  by_cases e : (nth s (u : Int)).Id = id
  ·rw [if_neg (by rw [e]; simp)]
   refine ⟨by omega, ⟨u + 1, by omega, by omega, ?_⟩, by dsimp only; omega⟩
   rw [take_nth s h, List.filter_append, List.filter_cons_of_neg (by rw [decide_eq_true_eq]; exact fun g => g e), List.filter_nil, List.append_nil]
  ·rw [if_pos (by rw [bne_iff_ne]; exact e)]
   refine ⟨by omega, by simp only [List.length_cons, List.length_nil]; omega, by omega, ⟨u + 1, by omega, by omega, ?_⟩, by dsimp only; omega⟩
   rw [take_nth s h, List.filter_append, List.filter_cons_of_pos (by rw [decide_eq_true_eq]; exact e), List.filter_nil]
 ·rw [if_neg (by simpa using h)]
  have : u = s.length := by omega
  subst this
  rw [List.take_length]; exact hq
theorem F83.law (s : List Feat) (Q : List Feat → Prop) (hb : bulk s ≤ 1048576) (hq : Q s) : F83.E s Q := by
 unfold F83.E
 have hl := bulk_len s
 refine ⟨fun xs i => ∃ u : Nat, i = u ∧ u ≤ s.length ∧ xs = s.take u, fun _ i => (s.length - i).toNat, ⟨0, rfl, Nat.zero_le _, rfl⟩, ?_⟩
 rintro _ _ ⟨u, rfl, hu, rfl⟩
 by_cases h : u < s.length
 ·rw [if_pos (by simpa using h)]
  have hm := bulk_mem (nth_mem s h)
  refine ⟨by omega, F80.law _ _ (by omega) ⟨by simp only [List.length_take, List.length_cons, List.length_nil]; omega, by omega, ⟨u + 1, by omega, by omega, ?_⟩, by dsimp only; omega⟩⟩
  rw [take_nth s h]
 ·rw [if_neg (by simpa using h)]
  have : u = s.length := by omega
  subst this
  rw [List.take_length]; exact hq
theorem F84.law (s : List Feat) (d : List Change) (Q : List Feat → Bool → Prop) (h1 : bulk s ≤ 1048576) (hq : Q (diffDo s d).1 (diffDo s d).2) : F84.E s d Q := by
 unfold F84.E
 unfold diffDo at hq
 have zq : (sheetOk s && diffOk d && d.all (fits s) && sheetOk (doL s d)) = false → Q [] false := fun h => by rw [h, if_neg (by decide)] at hq; exact hq
 refine F54.law _ _ ?_
 cases ks : sheetOk s with
 | false => rw [if_pos (by decide)]; exact zq (by rw [ks]; rfl)
 | true =>
 rw [if_neg (by decide)]
 refine F77.law _ _ ?_
 cases kd : diffOk d with
 | false => rw [if_pos (by decide)]; exact zq (by rw [ks, kd]; rfl)
 | true =>
 rw [if_neg (by decide)]
 have fs := sheet_fs ks; have dc := diff_cs kd; have ls := (sheet_ss ks).2.1; have ld := dc.2.1
 refine ⟨fun xs i => ∃ u : Nat, i = u ∧ u ≤ d.length ∧ FS xs ∧ xs.length ≤ s.length + u ∧ (∀ f, f ∈ xs ↔ Mem s (d.take u) f) ∧ ∀ c ∈ d.take u, fits s c = true, fun _ i => (d.length - i).toNat, ⟨0, rfl, Nat.zero_le _, fs, by omega, fun f => (Mem.zero s d f).symm, by simp⟩, ?_⟩
 rintro xs _ ⟨u, rfl, hu, g1, g2, g3, g4⟩
 by_cases h : u < d.length
 ·rw [if_pos (by simpa using h)]
  have hm : nth d (u : Int) ∈ d := nth_mem d h
  have st := fun f => Mem.step (s := s) h dc.1 dc.2.2 f
  refine ⟨by omega, F82.law _ _ _ h1 ?_⟩
  cases kf : fits s (nth d (u : Int)) with
  | false =>
   rw [if_pos (by decide)]
   exact zq (by
    have : d.all (fits s) = false := by
     rw [List.all_eq_false]; exact ⟨_, hm, by rw [kf]; decide⟩
    rw [this]; simp)
  | true =>
   rw [if_neg (by decide)]
   have g4' : ∀ c ∈ d.take (u + 1), fits s c = true := fun c hc => by
    rw [take_nth d h] at hc
    rcases List.mem_append.1 hc with hc | hc
    ·exact g4 c hc
    ·rw [List.mem_singleton.1 hc]; exact kf
   refine ⟨by omega, ?_⟩
   cases kh : (nth d (u : Int)).Has with
   | true =>
    rw [if_pos rfl]
    have hid := (now_id dc.2.2 hm kh).1
    refine ⟨by omega, F107.law2 _ _ _ (by omega) g1.toIds ⟨by omega, ⟨u + 1, by omega, by omega, FS.of_ids (putL_ss g1.toIds _), ?_, fun f => ?_, g4'⟩, by dsimp only; omega⟩⟩
    ·unfold putL
     have h2 : (xs.filter fun x => Op.bytesLess x.Id (nth d (u : Int)).Now.Id).length + (xs.filter fun x => Op.bytesLess (nth d (u : Int)).Now.Id x.Id).length ≤ xs.length := by
      generalize (nth d (u : Int)).Now.Id = k
      clear g1 g2 g3
      induction xs with
      | nil => exact Nat.zero_le _
      | cons x xs ih =>
       rw [List.filter_cons, List.filter_cons]
       cases a1 : Op.bytesLess x.Id k with
       | true => rw [less_asym a1]; simp only [if_true, Bool.false_eq_true, if_false, List.length_cons]; omega
       | false =>
        simp only [Bool.false_eq_true, if_false, List.length_cons]
        split
        ·simp only [List.length_cons]; omega
        ·omega
     simp only [List.length_append, List.length_cons]; omega
    ·rw [putL_mem, st, g3, hid, kh]
     constructor
     ·rintro (hx | rfl)
      ·exact .inl hx
      ·exact .inr ⟨rfl, rfl⟩
     ·rintro (hx | ⟨_, rfl⟩)
      ·exact .inl hx
      ·exact .inr rfl
   | false =>
    rw [if_neg (by decide)]
    refine ⟨by omega, F108.law _ _ _ (by omega) ⟨by omega, ⟨u + 1, by omega, by omega, g1.filter _, ?_, fun f => ?_, g4'⟩, by dsimp only; omega⟩⟩
    ·have := List.length_filter_le (fun f : Feat => decide (f.Id ≠ (nth d (u : Int)).Id)) xs; omega
    ·rw [List.mem_filter, decide_eq_true_eq, st, g3, kh]
     constructor
     ·exact .inl
     ·rintro (hx | ⟨hx, _⟩)
      ·exact hx
      ·cases hx
 ·rw [if_neg (by simpa using h)]
  have : u = d.length := by omega
  subst this
  rw [List.take_length] at g3 g4
  have e : xs = doL s d := FS.ext g1 (doL_fs s dc.2.2) fun f => by rw [g3, doL_mem fs dc.1 dc.2.2]
  subst e
  have ka : d.all (fits s) = true := List.all_eq_true.2 g4
  rw [ks, kd, ka] at hq
  have hsm := doL_small ks kd
  refine F54.law _ _ ?_
  cases ko : sheetOk (doL s d) with
  | false => rw [if_pos (by decide)]; rw [ko, if_neg (by decide)] at hq; exact hq
  | true =>
   rw [if_neg (by decide)]
   rw [ko, if_pos (by decide)] at hq
   exact F83.law _ _ (by omega) hq
theorem F85.law (n lo hi : Int) (Q : Bool → Prop) (hq : Q (decide (lo ≤ n) && decide (n ≤ hi))) : F85.E n lo hi Q := by
 unfold F85.E
 by_cases h : lo ≤ n
 ·rw [if_pos (by simpa using h)]; rw [decide_eq_true h, Bool.true_and] at hq; exact hq
 ·rw [if_neg (by simpa using h)]; rw [decide_eq_false h, Bool.false_and] at hq; exact hq
theorem F85.m_is (n lo hi : Int) : F85.m n lo hi = (decide (lo ≤ n) && decide (n ≤ hi)) := by
 unfold F85.m
 by_cases h : lo ≤ n
 ·rw [if_pos (by simpa using h), decide_eq_true h, Bool.true_and]
 ·rw [if_neg (by simpa using h), decide_eq_false h, Bool.false_and]
theorem F86.law (s : Str) (Q : Bool → Prop) (hl : s.length ≤ 1048576) (hq : Q (wordOk s)) : F86.E s Q := by
 unfold F86.E
 unfold wordOk at hq
 refine loop_all s.length (fun k => byteOk (nth s (k : Int))) (fun I mu k hk hp hn => ?_) (fun ha => ?_)
 ·refine ⟨by omega, ?_⟩
  cases h1 : decide (((nth s (k : Int)).toNat : Int) < 97) with
  | true => rw [if_pos rfl]; rw [allN_false hk (by simp only [byteOk, h1]; rfl), Bool.false_and] at hq; exact hq
  | false =>
   rw [if_neg (by decide)]
   refine ⟨by omega, ?_⟩
   cases h2 : decide (((nth s (k : Int)).toNat : Int) > 122) with
   | true => rw [if_pos rfl]; rw [allN_false hk (by simp only [byteOk, h1, h2]; rfl), Bool.false_and] at hq; exact hq
   | false =>
    rw [if_neg (by decide)]
    obtain ⟨i1, i2⟩ := hn (by simp only [byteOk, h1, h2]; rfl)
    exact ⟨by unfold I64; omega, i1, i2⟩
 ·rw [allN_true ha, Bool.true_and] at hq
  refine F85.law _ _ _ _ ?_
  have e1 : decide ((1 : Int) ≤ (s.length : Int)) = decide (1 ≤ s.length) := decide_eq_decide.2 (by omega)
  have e2 : decide ((s.length : Int) ≤ 6) = decide (s.length ≤ 6) := decide_eq_decide.2 (by omega)
  rw [e1, e2]; exact hq
theorem F121.law (p : Pt) (Q : Bool → Prop) (hq : Q (ptOk p)) : F121.E p Q := by
 unfold F121.E
 unfold ptOk at hq
 refine F85.law _ _ _ _ ?_
 change if inR p.X = true then _ else _
 cases h : inR p.X with
 | true => rw [if_pos rfl]; rw [h, Bool.true_and] at hq; exact F85.law _ _ _ _ hq
 | false => rw [if_neg (by decide)]; rw [h, Bool.false_and] at hq; exact hq
theorem F55.law (s : Shape) (Q : Bool → Prop) (hl : s.Pts.length ≤ 1048576) (hq : Q (shapeOk s)) : F55.E s Q := by
 unfold F55.E
 unfold shapeOk ptsOk at hq
 refine loop_all s.Pts.length (fun k => ptOk (nth s.Pts (k : Int)) && (decide (k = 0) || !(decide (nth s.Pts ((k : Int) - 1) = nth s.Pts (k : Int))))) (fun I mu k hk hp hn => ?_) (fun ha => ?_)
 ·refine ⟨by omega, _, F121.law _ _ rfl, ?_⟩
  have bad : (ptOk (nth s.Pts (k : Int)) && (decide (k = 0) || !(decide (nth s.Pts ((k : Int) - 1) = nth s.Pts (k : Int))))) = false → Q false := fun h => by
   rw [allN_false hk h, Bool.false_and] at hq; exact hq
  cases h1 : ptOk (nth s.Pts (k : Int)) with
  | false => rw [if_pos (by decide)]; exact bad (by rw [h1]; rfl)
  | true =>
   rw [if_neg (by decide)]
   by_cases hk0 : k = 0
   ·rw [if_neg (by rw [decide_eq_true_eq]; omega)]
    obtain ⟨i1, i2⟩ := hn (by rw [h1, decide_eq_true hk0]; rfl)
    exact ⟨by unfold I64; omega, i1, i2⟩
   ·rw [if_pos (by rw [decide_eq_true_eq]; omega)]
    refine ⟨by unfold I64; omega, by omega, ?_⟩
    rw [eqPt_is]
    by_cases he : nth s.Pts ((k : Int) - 1) = nth s.Pts (k : Int)
    ·rw [if_pos (by rw [decide_eq_true_eq]; exact he)]
     exact bad (by rw [h1, decide_eq_false hk0, decide_eq_true he]; rfl)
    ·rw [if_neg (by rw [decide_eq_true_eq]; exact he)]
     obtain ⟨i1, i2⟩ := hn (by simp only [h1, decide_eq_false hk0, decide_eq_false he]; rfl)
     exact ⟨by unfold I64; omega, i1, i2⟩
 ·rw [allN_true ha, Bool.true_and] at hq
  unfold kindOk at hq
  by_cases k1 : s.Kind = 1
  ·rw [if_pos k1] at hq
   rw [if_pos (by rw [beq_iff_eq]; exact k1)]
   have : ((s.Pts.length : Int) == 1) = decide (s.Pts.length = 1) := by rw [Bool.eq_iff_iff, beq_iff_eq, decide_eq_true_eq]; omega
   rw [this]; exact hq
  rw [if_neg k1] at hq
  rw [if_neg (by rw [beq_iff_eq]; exact k1)]
  have e2 : decide ((2 : Int) ≤ (s.Pts.length : Int)) = decide (2 ≤ s.Pts.length) := decide_eq_decide.2 (by omega)
  have e3 : decide ((3 : Int) ≤ (s.Pts.length : Int)) = decide (3 ≤ s.Pts.length) := decide_eq_decide.2 (by omega)
  have e6 : decide ((s.Pts.length : Int) ≤ 6) = decide (s.Pts.length ≤ 6) := decide_eq_decide.2 (by omega)
  by_cases k2 : s.Kind = 2
  ·rw [if_pos k2] at hq
   rw [if_pos (by rw [beq_iff_eq]; exact k2)]
   refine F85.law _ _ _ _ ?_
   rw [e2, e6]; exact hq
  rw [if_neg k2] at hq
  rw [if_neg (by rw [beq_iff_eq]; exact k2)]
  by_cases k3 : s.Kind = 3
  ·rw [if_pos k3] at hq
   rw [if_pos (by rw [beq_iff_eq]; exact k3), F85.m_is, e3, e6]
   cases hc : decide (3 ≤ s.Pts.length) && decide (s.Pts.length ≤ 6) with
   | true =>
    rw [hc, Bool.true_and] at hq
    rw [Bool.and_eq_true, decide_eq_true_eq, decide_eq_true_eq] at hc
    rw [if_pos rfl, eqPt_is]
    exact ⟨by omega, fun _ => by unfold I64; omega, by omega, hq⟩
   | false =>
    rw [hc, Bool.false_and] at hq
    rw [if_neg (by decide)]; exact hq
  ·rw [if_neg k3] at hq
   rw [if_neg (by rw [beq_iff_eq]; exact k3)]; exact hq
theorem F87.law (f : Feat) (Q : Bool → Prop) (hb : bulk f ≤ 1048576) (hq : Q (featOk f)) : F87.E f Q := by
 unfold F87.E
 unfold featOk at hq
 have b1 : bulk f = bulk f.Id + bulk f.Shape + bulk f.Tags := rfl
 have b2 : bulk f.Shape = bulk f.Shape.Kind + bulk f.Shape.Pts := rfl
 have l1 := bulk_len f.Tags; have l2 := bulk_len f.Shape.Pts; have l3 := bulk_len f.Id
 have core : (tagsOk f.Tags = true → F86.E f.Id (fun r3 => (if r3 then F55.E f.Shape (fun r4 => (if r4 then Q (decide ((f.Tags.length : Int) ≤ 4)) else Q false)) else Q false))) := fun ha => by
  rw [ha, Bool.true_and] at hq
  refine F86.law _ _ (by omega) ?_
  cases h1 : wordOk f.Id with
  | false => rw [h1, Bool.and_false, Bool.false_and] at hq; rw [if_neg (by decide)]; exact hq
  | true =>
   rw [h1, Bool.and_true] at hq
   rw [if_pos rfl]
   refine F55.law _ _ (by omega) ?_
   cases h2 : shapeOk f.Shape with
   | false => rw [h2, Bool.and_false] at hq; rw [if_neg (by decide)]; exact hq
   | true =>
    rw [h2, Bool.and_true] at hq; rw [if_pos rfl]
    have e2 : decide ((f.Tags.length : Int) ≤ 4) = decide (f.Tags.length ≤ 4) := decide_eq_decide.2 (by omega)
    rw [e2]; exact hq
 have bad : tagsOk f.Tags = false → Q false := fun h => by
  rw [h, Bool.false_and, Bool.false_and, Bool.false_and] at hq; exact hq
 unfold tagsOk at core bad
 refine loop_all f.Tags.length (fun k => wordOk (nth f.Tags (k : Int)).Key && wordOk (nth f.Tags (k : Int)).Val && (decide (k = 0) || Op.bytesLess (nth f.Tags ((k : Int) - 1)).Key (nth f.Tags (k : Int)).Key)) (fun I mu k hk hp hn => ?_) (fun ha => core (allN_true ha))
 have bad := fun h => bad (allN_false hk h)
 have m1 := bulk_mem (nth_mem f.Tags hk)
 have m2 : bulk (nth f.Tags (k : Int)) = bulk (nth f.Tags (k : Int)).Key + bulk (nth f.Tags (k : Int)).Val := rfl
 have m3 := bulk_len (nth f.Tags (k : Int)).Key; have m4 := bulk_len (nth f.Tags (k : Int)).Val
 refine ⟨by omega, _, F86.law _ _ (by omega) rfl, ?_⟩
 cases h1 : wordOk (nth f.Tags (k : Int)).Key with
 | false => rw [if_pos (by decide)]; exact bad (by rw [h1]; rfl)
 | true =>
  rw [if_neg (by decide)]
  refine ⟨_, F86.law _ _ (by omega) rfl, ?_⟩
  cases h2 : wordOk (nth f.Tags (k : Int)).Val with
  | false => rw [if_pos (by decide)]; exact bad (by rw [h2, Bool.and_false]; rfl)
  | true =>
   rw [if_neg (by decide)]
   by_cases hk0 : k = 0
   ·rw [if_neg (by rw [decide_eq_true_eq]; omega)]
    obtain ⟨i1, i2⟩ := hn (by rw [h1, h2, decide_eq_true hk0]; rfl)
    exact ⟨by unfold I64; omega, i1, i2⟩
   ·rw [if_pos (by rw [decide_eq_true_eq]; omega)]
    refine ⟨by unfold I64; omega, by omega, ?_⟩
    cases h3 : Op.bytesLess (nth f.Tags ((k : Int) - 1)).Key (nth f.Tags (k : Int)).Key with
    | false => rw [if_pos (by decide)]; exact bad (by rw [h3, h1, h2, decide_eq_false hk0]; rfl)
    | true =>
     rw [if_neg (by decide)]
     obtain ⟨i1, i2⟩ := hn (by rw [h3, h1, h2, decide_eq_false hk0]; rfl)
     exact ⟨by unfold I64; omega, i1, i2⟩
theorem F56.law (d : List Feat) (Q : Bool → Prop) (hb : bulk d ≤ 1048576) (hq : Q (sheetOk d)) : F56.E d Q := by
 unfold F56.E
 unfold sheetOk at hq
 have hl := bulk_len d
 refine loop_all d.length (fun k => featOk (nth d (k : Int)) && (decide (k = 0) || Op.bytesLess (nth d ((k : Int) - 1)).Id (nth d (k : Int)).Id)) (fun I mu k hk hp hn => ?_) (fun ha => ?_)
 ·have bad : (featOk (nth d (k : Int)) && (decide (k = 0) || Op.bytesLess (nth d ((k : Int) - 1)).Id (nth d (k : Int)).Id)) = false → Q false := fun h => by
   rw [allN_false hk h, Bool.false_and] at hq; exact hq
  have m1 := bulk_mem (nth_mem d hk)
  refine ⟨by omega, _, F87.law _ _ (by omega) rfl, ?_⟩
  cases h1 : featOk (nth d (k : Int)) with
  | false => rw [if_pos (by decide)]; exact bad (by rw [h1]; rfl)
  | true =>
   rw [if_neg (by decide)]
   by_cases hk0 : k = 0
   ·rw [if_neg (by rw [decide_eq_true_eq]; omega)]
    obtain ⟨i1, i2⟩ := hn (by rw [h1, decide_eq_true hk0]; rfl)
    exact ⟨by unfold I64; omega, i1, i2⟩
   ·rw [if_pos (by rw [decide_eq_true_eq]; omega)]
    refine ⟨by unfold I64; omega, by omega, ?_⟩
    cases h3 : Op.bytesLess (nth d ((k : Int) - 1)).Id (nth d (k : Int)).Id with
    | false => rw [if_pos (by decide)]; exact bad (by rw [h3, h1, decide_eq_false hk0]; rfl)
    | true =>
     rw [if_neg (by decide)]
     obtain ⟨i1, i2⟩ := hn (by rw [h3, h1, decide_eq_false hk0]; rfl)
     exact ⟨by unfold I64; omega, i1, i2⟩
 ·rw [allN_true ha, Bool.true_and] at hq
  have e2 : decide ((d.length : Int) ≤ 8) = decide (d.length ≤ 8) := decide_eq_decide.2 (by omega)
  rw [e2]; exact hq
theorem F88.law (f : Feat) (Q : Bool → Prop) (hq : Q (noF f)) : F88.E f Q := by
 unfold F88.E
 obtain ⟨i, ⟨k, p⟩, t⟩ := f
 unfold noF at hq
 dsimp only
 have e : decide ((⟨i, ⟨k, p⟩, t⟩ : Feat) = ⟨[], ⟨0, []⟩, []⟩) = (decide (i = []) && decide (k = 0) && decide (p = []) && decide (t = [])) := by
  rw [Bool.eq_iff_iff]; simp [and_assoc]
 rw [e] at hq
 cases h1 : decide (i = []) with
 | false => rw [h1] at hq; rw [if_neg (by rw [beq_iff_eq]; exact of_decide_eq_false h1)]; exact hq
 | true =>
  rw [if_pos (by rw [beq_iff_eq]; exact of_decide_eq_true h1)]
  cases h2 : decide (k = 0) with
  | false => rw [h1, h2] at hq; rw [if_neg (by rw [beq_iff_eq]; exact of_decide_eq_false h2)]; exact hq
  | true =>
   rw [if_pos (by rw [beq_iff_eq]; exact of_decide_eq_true h2)]
   cases h3 : decide (p = []) with
   | false => rw [h1, h2, h3] at hq; rw [if_neg (by rw [beq_iff_eq]; have := of_decide_eq_false h3; intro e; exact this (List.length_eq_zero_iff.1 (by omega)))]; exact hq
   | true =>
    rw [if_pos (by rw [beq_iff_eq, of_decide_eq_true h3]; rfl)]
    rw [h1, h2, h3] at hq
    have : ((t.length : Int) == 0) = decide (t = []) := by
     rw [Bool.eq_iff_iff, beq_iff_eq, decide_eq_true_eq]
     exact ⟨fun e => List.length_eq_zero_iff.1 (by omega), fun e => by rw [e]; rfl⟩
    rw [this]; exact hq
theorem F89.law (id : Str) (has : Bool) (f : Feat) (Q : Bool → Prop) (hb : bulk f ≤ 1048576) (hq : Q (sideOk id has f)) : F89.E id has f Q := by
 unfold F89.E
 unfold sideOk at hq
 cases has with
 | false => rw [if_pos (by decide)]; rw [if_neg (by decide)] at hq; exact F88.law _ _ hq
 | true =>
  rw [if_neg (by decide)]; rw [if_pos rfl] at hq
  refine F87.law _ _ hb ?_
  cases h : featOk f with
  | false => rw [h] at hq; rw [if_neg (by decide)]; exact hq
  | true =>
   rw [h, Bool.true_and] at hq; rw [if_pos rfl]
   have : (f.Id == id) = decide (f.Id = id) := by rw [Bool.eq_iff_iff, beq_iff_eq, decide_eq_true_eq]
   rw [this]; exact hq
theorem F11.law (a b : List Tag) (Q : Bool → Prop) (hb : a.length ≤ 1048576) (hq : Q (decide (a = b))) : F11.E a b Q := by
 unfold F11.E
 exact eqI_shape eqTag eqTag_is a b Q hb hq
theorem F14.law (a b : List Pt) (Q : Bool → Prop) (hb : a.length ≤ 1048576) (hq : Q (decide (a = b))) : F14.E a b Q := by
 unfold F14.E
 exact eqI_shape eqPt eqPt_is a b Q hb hq
theorem F25.law (a b : Shape) (Q : Bool → Prop) (hl : a.Pts.length ≤ 1048576) (hq : Q (decide (a = b))) : F25.E a b Q := by
 unfold F25.E
 by_cases h : a.Kind = b.Kind
 ·rw [if_pos (by rw [beq_iff_eq]; exact h)]
  refine F14.law _ _ _ (by omega) ?_
  have : decide (a.Pts = b.Pts) = decide (a = b) := decide_eq_decide.2 (by rw [Shape.ext_iff']; exact ⟨fun e => ⟨h, e⟩, fun e => e.2⟩)
  rw [this]; exact hq
 ·rw [if_neg (by rw [beq_iff_eq]; exact h)]
  rw [decide_eq_false (by rw [Shape.ext_iff']; exact fun e => h e.1)] at hq; exact hq
theorem F36.law (a b : Feat) (Q : Bool → Prop) (hl : a.Shape.Pts.length ≤ 1048576 ∧ a.Tags.length ≤ 1048576) (hq : Q (decide (a = b))) : F36.E a b Q := by
 unfold F36.E
 by_cases h : a.Id = b.Id
 ·rw [if_pos (by rw [beq_iff_eq]; exact h)]
  refine F25.law _ _ _ (by omega) ?_
  by_cases h2 : a.Shape = b.Shape
  ·rw [decide_eq_true h2, if_pos rfl]
   refine F11.law _ _ _ (by omega) ?_
   have : decide (a.Tags = b.Tags) = decide (a = b) := decide_eq_decide.2 (by rw [Feat.ext_iff']; exact ⟨fun e => ⟨h, h2, e⟩, fun e => e.2.2⟩)
   rw [this]; exact hq
  ·rw [decide_eq_false h2, if_neg (by decide)]
   rw [decide_eq_false (by rw [Feat.ext_iff']; exact fun e => h2 e.2.1)] at hq; exact hq
 ·rw [if_neg (by rw [beq_iff_eq]; exact h)]
  rw [decide_eq_false (by rw [Feat.ext_iff']; exact fun e => h e.1)] at hq; exact hq
theorem F12.law (c : Change) (Q : Bool → Prop) (hb : bulk c ≤ 1048576) (hq : Q (sameC c)) : F12.E c Q := by
 unfold F12.E
 unfold sameC at hq
 have b1 : bulk c = bulk c.Id + bulk c.Had + bulk c.Was + bulk c.Has + bulk c.Now := rfl
 have b2 : bulk c.Was = bulk c.Was.Id + bulk c.Was.Shape + bulk c.Was.Tags := rfl
 have b3 : bulk c.Was.Shape = bulk c.Was.Shape.Kind + bulk c.Was.Shape.Pts := rfl
 have l1 := bulk_len c.Was.Tags; have l2 := bulk_len c.Was.Shape.Pts
 by_cases h : c.Had = c.Has
 ·rw [if_pos (by rw [beq_iff_eq]; exact h)]
  rw [decide_eq_true h, Bool.true_and] at hq
  exact F36.law _ _ _ (by omega) hq
 ·rw [if_neg (by rw [beq_iff_eq]; exact h)]
  rw [decide_eq_false h] at hq; exact hq
theorem F90.law (d : List Change) (Q : Bool → Prop) (hb : bulk d ≤ 1048576) (hq : Q (diffOk d)) : F90.E d Q := by
 unfold F90.E
 unfold diffOk at hq
 have hl := bulk_len d
 refine loop_all d.length (fun k => changeOk (nth d (k : Int)) && (decide (k = 0) || Op.bytesLess (nth d ((k : Int) - 1)).Id (nth d (k : Int)).Id)) (fun I mu k hk hp hn => ?_) (fun ha => ?_)
 ·have bad : (changeOk (nth d (k : Int)) && (decide (k = 0) || Op.bytesLess (nth d ((k : Int) - 1)).Id (nth d (k : Int)).Id)) = false → Q false := fun h => by
   rw [allN_false hk h, Bool.false_and] at hq; exact hq
  have m1 := bulk_mem (nth_mem d hk)
  have b1 : bulk (nth d (k : Int)) = bulk (nth d (k : Int)).Id + bulk (nth d (k : Int)).Had + bulk (nth d (k : Int)).Was + bulk (nth d (k : Int)).Has + bulk (nth d (k : Int)).Now := rfl
  have l1 := bulk_len (nth d (k : Int)).Id
  generalize hc : nth d (k : Int) = c at *
  refine ⟨by omega, _, F86.law _ _ (by omega) rfl, ?_⟩
  have co : ∀ a b e g : Bool, wordOk c.Id = a → sideOk c.Id c.Had c.Was = b → sideOk c.Id c.Has c.Now = e → sameC c = g → changeOk c = (a && b && e && !g) := fun a b e g h1 h2 h3 h4 => by unfold changeOk; rw [h1, h2, h3, h4]
  have rest : wordOk c.Id = true → (decide (k = 0) || Op.bytesLess (nth d ((k : Int) - 1)).Id c.Id) = true →
    (∃ q : Bool, F89.E c.Id c.Had c.Was (fun x => x = q) ∧ (if !q then Q false else (∃ q2 : Bool, F89.E c.Id c.Has c.Now (fun x => x = q2) ∧ (if !q2 then Q false else (∃ q3 : Bool, F12.E c (fun x => x = q3) ∧ (if q3 then Q false else (I64 ((k : Int) + 1)) ∧ I ((k : Int) + 1) ∧ mu ((k : Int) + 1) < mu (k : Int))))))) := fun h1 ho => by
   refine ⟨_, F89.law _ _ _ _ (by omega) rfl, ?_⟩
   cases h2 : sideOk c.Id c.Had c.Was with
   | false => rw [if_pos (by decide)]; exact bad (by rw [co _ _ _ _ h1 h2 rfl rfl]; rfl)
   | true =>
    rw [if_neg (by decide)]
    refine ⟨_, F89.law _ _ _ _ (by omega) rfl, ?_⟩
    cases h3 : sideOk c.Id c.Has c.Now with
    | false => rw [if_pos (by decide)]; exact bad (by rw [co _ _ _ _ h1 h2 h3 rfl]; rfl)
    | true =>
     rw [if_neg (by decide)]
     refine ⟨_, F12.law _ _ (by omega) rfl, ?_⟩
     cases h4 : sameC c with
     | true => rw [if_pos rfl]; exact bad (by rw [co _ _ _ _ h1 h2 h3 h4]; rfl)
     | false =>
      rw [if_neg (by decide)]
      obtain ⟨i1, i2⟩ := hn (by rw [co _ _ _ _ h1 h2 h3 h4, ho]; rfl)
      exact ⟨by unfold I64; omega, i1, i2⟩
  cases h1 : wordOk c.Id with
  | false => rw [if_pos (by decide)]; exact bad (by rw [co _ _ _ _ h1 rfl rfl rfl]; rfl)
  | true =>
   rw [if_neg (by decide)]
   by_cases hk0 : k = 0
   ·rw [if_neg (by rw [decide_eq_true_eq]; omega)]
    exact rest h1 (by rw [decide_eq_true hk0]; rfl)
   ·rw [if_pos (by rw [decide_eq_true_eq]; omega)]
    refine ⟨by unfold I64; omega, by omega, ?_⟩
    cases h3 : Op.bytesLess (nth d ((k : Int) - 1)).Id c.Id with
    | false => rw [if_pos (by decide)]; exact bad (by rw [h3, decide_eq_false hk0]; simp)
    | true => rw [if_neg (by decide)]; exact rest h1 (by rw [h3, Bool.or_true])
 ·rw [allN_true ha, Bool.true_and] at hq
  have e2 : decide ((d.length : Int) ≤ 16) = decide (d.length ≤ 16) := decide_eq_decide.2 (by omega)
  rw [e2]; exact hq
theorem F26.law (f : Feat) (Q : Feat → Prop) (hb : bulk f ≤ 1048576) (hq : Q f) : F26.E f Q := by
 unfold F26.E F15.E
 have h := bulk_feat f
 have h1 := bulk_len f.Tags
 have h2 := bulk_len f.Shape.Pts
 exact ⟨by simp only [List.length_nil]; omega, by simp only [List.length_nil]; omega, hq⟩
theorem F16.law (s : List Feat) (Q : List Feat → Prop) (hb : bulk s ≤ 1048576) (hq : Q s) : F16.E s Q := by
 unfold F16.E
 have hl := bulk_len s
 refine ⟨fun xs i => ∃ u : Nat, i = u ∧ u ≤ s.length ∧ xs = s.take u, fun _ i => (s.length - i).toNat, ⟨0, rfl, Nat.zero_le _, rfl⟩, ?_⟩
 rintro _ _ ⟨u, rfl, hu, rfl⟩
 by_cases h : u < s.length
 ·rw [if_pos (by simpa using h)]
  have hm := bulk_mem (nth_mem s h)
  refine ⟨by omega, F26.law _ _ (by omega) ⟨by simp only [List.length_take, List.length_cons, List.length_nil]; omega, by unfold I64; omega, ⟨u + 1, by omega, by omega, ?_⟩, by dsimp only; omega⟩⟩
  rw [take_nth s h]
 ·rw [if_neg (by simpa using h)]
  have : u = s.length := by omega
  subst this
  rw [List.take_length]; exact hq
theorem F0.law (s : List Feat) (f : Feat → Bool) (ok : Feat → Prop) (Q : Int → Prop) (hl : s.length ≤ 1048576) (hok : ∀ x ∈ s, ok x) (hq : Q (findN s.length fun j => f (nth s (j : Int)))) : F0.E s f ok Q := by
 unfold F0.E
 refine loop_find s.length (fun j => f (nth s (j : Int))) hq (fun I mu k hk h1 h2 => ⟨by omega, hok _ (nth_mem s hk), ?_⟩)
 cases h : f (nth s (k : Int)) with
 | true => rw [if_pos rfl]; exact h1 h
 | false => rw [if_neg (by decide)]; obtain ⟨i1, i2⟩ := h2 h; exact ⟨by unfold I64; omega, i1, i2⟩
theorem F91.law (s : List Feat) (id : Str) (Q : Int → Prop) (hl : s.length ≤ 1048576) (hq : Q (findN s.length fun j => (nth s (j : Int)).Id == id)) : F91.E s id Q := by
 unfold F91.E
 refine ⟨fun x => x.Id == id, fun x => x ∈ s, fun x hx => ?_, F0.law _ _ _ _ hl (fun x hx => hx) hq⟩
 unfold F37.E
 rfl
theorem F122.law (s : List Feat) (id : Str) (Q : Feat → Bool → Prop) (hb : bulk s ≤ 1048576) (hq : Q (sideOf s id).1 (sideOf s id).2) : F122.E s id Q := by
 unfold F122.E
 have hl := bulk_len s
 refine F91.law _ _ _ (by omega) ?_
 have h1 := findN_le s.length fun j => (nth s (j : Int)).Id == id
 unfold sideOf at hq
 by_cases h : findN s.length (fun j => (nth s (j : Int)).Id == id) < 0
 ·rw [if_pos h] at hq; rw [if_pos (by simpa using h)]; exact hq
 ·rw [if_neg h] at hq; rw [if_neg (by simpa using h)]
  exact ⟨by omega, F26.law _ _ (by have := bulk_mem (nth_memi s (by omega) h1.2); omega) hq⟩
theorem F92.law (s : List Feat) (d : List Change) (Q : List Feat → Bool → Prop) (h1 : bulk s ≤ 1048576) (h2 : bulk d ≤ 1048576) (hq : Q (diffDo s d).1 (diffDo s d).2) : F92.E s d Q := by
 unfold F92.E
 unfold diffDo at hq
 have zq : (sheetOk s && diffOk d && d.all (fits s) && sheetOk (doL s d)) = false → Q [] false := fun h => by rw [h, if_neg (by decide)] at hq; exact hq
 refine F56.law _ _ h1 ?_
 cases ks : sheetOk s with
 | false => rw [if_pos (by decide)]; exact zq (by rw [ks]; rfl)
 | true =>
 rw [if_neg (by decide)]
 refine F90.law _ _ h2 ?_
 cases kd : diffOk d with
 | false => rw [if_pos (by decide)]; exact zq (by rw [ks, kd]; rfl)
 | true =>
 rw [if_neg (by decide)]
 have fs := sheet_fs ks; have dc := diff_cs kd; have ls := (sheet_ss ks).2.1; have ld := dc.2.1
 have nd0 : (ids s).Nodup := (sheet_ss ks).1.imp fun {a b} h e => by rw [e, less_irr] at h; cases h
 refine F16.law _ _ h1 ?_
 refine ⟨fun xs i => ∃ u : Nat, i = u ∧ u ≤ d.length ∧ (ids xs).Nodup ∧ xs.length ≤ s.length + u ∧ (∀ f, f ∈ xs ↔ Mem s (d.take u) f) ∧ ∀ c ∈ d.take u, fits s c = true, fun _ i => (d.length - i).toNat, ⟨0, rfl, Nat.zero_le _, nd0, by omega, fun f => (Mem.zero s d f).symm, by simp⟩, ?_⟩
 rintro xs _ ⟨u, rfl, hu, g1, g2, g3, g4⟩
 by_cases h : u < d.length
 ·rw [if_pos (by simpa using h)]
  have hm : nth d (u : Int) ∈ d := nth_mem d h
  have hb := change_small (dc.2.2 _ hm)
  have st := fun f => Mem.step (s := s) h dc.1 dc.2.2 f
  have bad : fits s (nth d (u : Int)) = false → Q [] false := fun kf => zq (by
   have : d.all (fits s) = false := by
    rw [List.all_eq_false]; exact ⟨_, hm, by rw [kf]; decide⟩
   rw [this]; simp)
  have sb := sideOf_small ks (nth d (u : Int)).Id
  have sb2 : (sideOf s (nth d (u : Int)).Id).1.Shape.Pts.length ≤ 1048576 ∧ (sideOf s (nth d (u : Int)).Id).1.Tags.length ≤ 1048576 := by
   have e := bulk_feat (sideOf s (nth d (u : Int)).Id).1
   have e2 := bulk_len (sideOf s (nth d (u : Int)).Id).1.Tags
   have e3 := bulk_len (sideOf s (nth d (u : Int)).Id).1.Shape.Pts
   omega
  refine ⟨by omega, F122.law _ _ _ h1 ?_⟩
  by_cases k1 : (sideOf s (nth d (u : Int)).Id).2 = (nth d (u : Int)).Had
  case neg => rw [if_pos (by rw [bne_iff_ne]; exact k1)]; exact bad (by unfold fits; rw [decide_eq_false k1]; rfl)
  rw [if_neg (by rw [k1]; simp)]
  refine F36.law _ _ _ sb2 ?_
  by_cases k2 : (sideOf s (nth d (u : Int)).Id).1 = (nth d (u : Int)).Was
  case neg => rw [decide_eq_false k2, if_pos (by decide)]; exact bad (by unfold fits; rw [decide_eq_false k2, Bool.and_false])
  rw [decide_eq_true k2, if_neg (by decide)]
  have kf : fits s (nth d (u : Int)) = true := by unfold fits; rw [decide_eq_true k1, decide_eq_true k2]; rfl
  have g4' : ∀ c ∈ d.take (u + 1), fits s c = true := fun c hc => by
   rw [take_nth d h] at hc
   rcases List.mem_append.1 hc with hc | hc
   ·exact g4 c hc
   ·rw [List.mem_singleton.1 hc]; exact kf
  -- what follows when the name is gone
  have fin : ∀ ys : List Feat, (ids ys).Nodup → (∀ f, f ∈ ys ↔ f ∈ xs ∧ f.Id ≠ (nth d (u : Int)).Id) → ys.length ≤ xs.length →
    (if (nth d (u : Int)).Has = true then F26.E (nth d (u : Int)).Now (fun r => (ys.length + ([r] : List Feat).length ≤ 268435456) ∧ (I64 ((u : Int) + 1)) ∧ (∃ v : Nat, (u : Int) + 1 = v ∧ v ≤ d.length ∧ (ids (ys ++ [r])).Nodup ∧ (ys ++ [r]).length ≤ s.length + v ∧ (∀ f, f ∈ ys ++ [r] ↔ Mem s (d.take v) f) ∧ ∀ c ∈ d.take v, fits s c = true) ∧ (d.length - ((u : Int) + 1)).toNat < (d.length - (u : Int)).toNat)
    else (I64 ((u : Int) + 1)) ∧ (∃ v : Nat, (u : Int) + 1 = v ∧ v ≤ d.length ∧ (ids ys).Nodup ∧ ys.length ≤ s.length + v ∧ (∀ f, f ∈ ys ↔ Mem s (d.take v) f) ∧ ∀ c ∈ d.take v, fits s c = true) ∧ (d.length - ((u : Int) + 1)).toNat < (d.length - (u : Int)).toNat) := fun ys n1 n2 n3 => by
   split
   ·rename_i kh
    have hid := (now_id dc.2.2 hm kh).1
    refine F26.law _ _ (by omega) ⟨by simp only [List.length_cons, List.length_nil]; omega, by unfold I64; omega, ⟨u + 1, by omega, by omega, ?_, by simp only [List.length_append, List.length_cons, List.length_nil]; omega, fun f => ?_, g4'⟩, by omega⟩
    ·rw [ids_app]
     refine List.nodup_append.2 ⟨n1, by simp [ids], fun a ha b hb' => ?_⟩
     have hb' : b = (nth d (u : Int)).Now.Id := List.mem_singleton.1 hb'
     obtain ⟨f, hf, rfl⟩ := List.mem_map.1 ha
     rw [hb', hid]; exact ((n2 f).1 hf).2
    ·rw [List.mem_append, List.mem_singleton, n2, st, g3, kh]
     constructor
     ·rintro (hx | rfl)
      ·exact .inl hx
      ·exact .inr ⟨rfl, rfl⟩
     ·rintro (hx | ⟨_, rfl⟩)
      ·exact .inl hx
      ·exact .inr rfl
   ·rename_i kh
    refine ⟨by unfold I64; omega, ⟨u + 1, by omega, by omega, n1, by omega, fun f => ?_, g4'⟩, by omega⟩
    rw [n2, st, g3]
    constructor
    ·exact .inl
    ·rintro (hx | ⟨hx, _⟩)
     ·exact hx
     ·exact absurd hx kh
  refine F91.law _ _ _ (by omega) ?_
  have hle := findN_le xs.length fun j => (nth xs (j : Int)).Id == (nth d (u : Int)).Id
  by_cases k3 : findN xs.length (fun j => (nth xs (j : Int)).Id == (nth d (u : Int)).Id) < 0
  ·rw [if_neg (by rw [decide_eq_true_eq]; omega)]
   refine fin xs g1 (fun f => ⟨fun hf => ⟨hf, fun e => ?_⟩, fun hf => hf.1⟩) (Nat.le_refl _)
   obtain ⟨k, hk, rfl⟩ := List.getElem_of_mem hf
   have := findN_neg k3 k hk
   rw [nth_nat xs hk] at this
   simp [e] at this
  ·obtain ⟨k, hk⟩ : ∃ k : Nat, findN xs.length (fun j => (nth xs (j : Int)).Id == (nth d (u : Int)).Id) = (k : Int) := ⟨_, (Int.toNat_of_nonneg (by omega)).symm⟩
   obtain ⟨q1, q2⟩ := findN_true hk
   rw [hk, if_pos (by rw [decide_eq_true_eq]; omega)]
   have q3 : xs[k].Id = (nth d (u : Int)).Id := by rw [nth_nat xs q1] at q2; simpa using q2
   obtain ⟨m1, m2, m3⟩ := del_mem g1 q1
   unfold F5.E
   refine ⟨by unfold I64; omega, ⟨by omega, by omega, by omega⟩, by omega, ?_⟩
   rw [Int.toNat_natCast, show ((k : Int) + 1).toNat = k + 1 by omega]
   exact fin _ m1 (fun f => by rw [m2, q3]) (by omega)
 ·rw [if_neg (by simpa using h)]
  have : u = d.length := by omega
  subst this
  rw [List.take_length] at g3 g4
  unfold F3.E
  refine ⟨by omega, fun r hp hs => ?_⟩
  have n1 : (ids r).Nodup := (hp.map Feat.Id).nodup_iff.2 g1
  have g5 : FS r := by
   have h3 := List.Pairwise.and hs (List.pairwise_map.1 n1)
   refine h3.imp fun {a b} hab => ?_
   rcases less_or hab.1 with g | g
   ·exact g
   ·exact absurd g hab.2
  have e : r = doL s d := FS.ext g5 (doL_fs s dc.2.2) fun f => by rw [hp.mem_iff, g3, doL_mem fs dc.1 dc.2.2]
  subst e
  have ka : d.all (fits s) = true := List.all_eq_true.2 g4
  rw [ks, kd, ka] at hq
  have hsm := doL_small ks kd
  refine F56.law _ _ (by omega) ?_
  cases ko : sheetOk (doL s d) with
  | false => rw [if_pos (by decide)]; rw [ko, if_neg (by decide)] at hq; exact hq
  | true =>
   rw [if_neg (by decide)]
   rw [ko, if_pos (by decide)] at hq
   exact F16.law _ _ (by omega) hq
theorem F100.law (a : List Pt) (left : Int) (Q : Int → Prop) (h0 : 0 ≤ left) (h1 : left ≤ 1048576) (hn : left - (bulk a : Nat) < 0 → Q (-1)) (hp : 0 ≤ left - (bulk a : Nat) → Q (left - (bulk a : Nat))) : F100.E a left Q := by
 unfold F100.E
 exact szL_shape (fun _ => rfl) a left Q h0 h1 hn hp
theorem F49.law (a : Shape) (left : Int) (Q : Int → Prop) (h0 : 0 ≤ left) (h1 : left ≤ 1048576) (hn : left - (bulk a : Nat) < 0 → Q (-1)) (hp : 0 ≤ left - (bulk a : Nat) → Q (left - (bulk a : Nat))) : F49.E a left Q := by
 have hb : bulk a = bulk a.Kind + bulk a.Pts := rfl
 have hzKind : bulk a.Kind = 0 := rfl
 unfold F49.E
 refine F100.law _ _ _ (by omega) (by omega) (fun h => ?_) (fun h1 => ?_)
 ·rw [if_pos (by decide)]; exact hn (by omega)
 rw [if_neg (by rw [decide_eq_false (by omega)]; exact Bool.false_ne_true)]
 exact cast (congrArg Q (by omega)) (hp (by omega))
theorem F101.law (a : Tag) (left : Int) (Q : Int → Prop) (h0 : 0 ≤ left) (h1 : left ≤ 1048576) (hn : left - (bulk a : Nat) < 0 → Q (-1)) (hp : 0 ≤ left - (bulk a : Nat) → Q (left - (bulk a : Nat))) : F101.E a left Q := by
 have hb : bulk a = bulk a.Key + bulk a.Val := rfl
 have hzKey : bulk a.Key = a.Key.length := bulk_str _
 have hzVal : bulk a.Val = a.Val.length := bulk_str _
 unfold F101.E
 refine ⟨by intros; unfold I64; omega, ?_⟩
 split
 ·rename_i hc; simp only [decide_eq_true_eq] at hc; exact hn (by omega)
 rename_i hc0; simp only [decide_eq_true_eq] at hc0
 refine ⟨by intros; unfold I64; omega, ?_⟩
 split
 ·rename_i hc; simp only [decide_eq_true_eq] at hc; exact hn (by omega)
 rename_i hc1; simp only [decide_eq_true_eq] at hc1
 exact cast (congrArg Q (by omega)) (hp (by omega))
theorem F68.law (a : List Tag) (left : Int) (Q : Int → Prop) (h0 : 0 ≤ left) (h1 : left ≤ 1048576) (hn : left - (bulk a : Nat) < 0 → Q (-1)) (hp : 0 ≤ left - (bulk a : Nat) → Q (left - (bulk a : Nat))) : F68.E a left Q := by
 unfold F68.E
 exact szS_shape F101.E (fun x l Q => F101.law x l Q) a left Q h0 h1 hn hp
theorem F69.law (a : Feat) (left : Int) (Q : Int → Prop) (h0 : 0 ≤ left) (h1 : left ≤ 1048576) (hn : left - (bulk a : Nat) < 0 → Q (-1)) (hp : 0 ≤ left - (bulk a : Nat) → Q (left - (bulk a : Nat))) : F69.E a left Q := by
 have hb : bulk a = bulk a.Id + bulk a.Shape + bulk a.Tags := rfl
 have hzId : bulk a.Id = a.Id.length := bulk_str _
 unfold F69.E
 refine ⟨by intros; unfold I64; omega, ?_⟩
 split
 ·rename_i hc; simp only [decide_eq_true_eq] at hc; exact hn (by omega)
 rename_i hc0; simp only [decide_eq_true_eq] at hc0
 refine F49.law _ _ _ (by omega) (by omega) (fun h => ?_) (fun h1 => ?_)
 ·rw [if_pos (by decide)]; exact hn (by omega)
 rw [if_neg (by rw [decide_eq_false (by omega)]; exact Bool.false_ne_true)]
 refine F68.law _ _ _ (by omega) (by omega) (fun h => ?_) (fun h2 => ?_)
 ·rw [if_pos (by decide)]; exact hn (by omega)
 rw [if_neg (by rw [decide_eq_false (by omega)]; exact Bool.false_ne_true)]
 exact cast (congrArg Q (by omega)) (hp (by omega))
theorem F50.law (a : List Feat) (left : Int) (Q : Int → Prop) (h0 : 0 ≤ left) (h1 : left ≤ 1048576) (hn : left - (bulk a : Nat) < 0 → Q (-1)) (hp : 0 ≤ left - (bulk a : Nat) → Q (left - (bulk a : Nat))) : F50.E a left Q := by
 unfold F50.E
 exact szS_shape F69.E (fun x l Q => F69.law x l Q) a left Q h0 h1 hn hp
theorem F120.law (a : Pt) (Q : Pt → Prop) (ha : bulk a ≤ 1048576) (hq : Q a) : F120.E a Q := by
 unfold F120.E
 have hb : bulk a = bulk a.X + bulk a.Y := rfl
 exact hq
theorem F102.law (a : List Pt) (Q : List Pt → Prop) (ha : bulk a ≤ 1048576) (hq : Q a) : F102.E a Q := by
 unfold F102.E
 exact toS_shape _ F120.E (fun x Q => F120.law x Q) a Q ha hq
theorem F51.law (a : Shape) (Q : Shape → Prop) (ha : bulk a ≤ 1048576) (hq : Q a) : F51.E a Q := by
 unfold F51.E
 have hb : bulk a = bulk a.Kind + bulk a.Pts := rfl
 refine F102.law _ _ (by omega) ?_
 exact hq
theorem F103.law (a : Tag) (Q : Tag → Prop) (ha : bulk a ≤ 1048576) (hq : Q a) : F103.E a Q := by
 unfold F103.E
 have hb : bulk a = bulk a.Key + bulk a.Val := rfl
 exact hq
theorem F70.law (a : List Tag) (Q : List Tag → Prop) (ha : bulk a ≤ 1048576) (hq : Q a) : F70.E a Q := by
 unfold F70.E
 exact toS_shape _ F103.E (fun x Q => F103.law x Q) a Q ha hq
theorem F71.law (a : Feat) (Q : Feat → Prop) (ha : bulk a ≤ 1048576) (hq : Q a) : F71.E a Q := by
 unfold F71.E
 have hb : bulk a = bulk a.Id + bulk a.Shape + bulk a.Tags := rfl
 refine F51.law _ _ (by omega) ?_
 refine F70.law _ _ (by omega) ?_
 exact hq
theorem F52.law (a : List Feat) (Q : List Feat → Prop) (ha : bulk a ≤ 1048576) (hq : Q a) : F52.E a Q := by
 unfold F52.E
 exact toS_shape _ F71.E (fun x Q => F71.law x Q) a Q ha hq
theorem F58.law (a b : List Feat) (Q : Bool → Prop) (hq : Q (decide (a = b))) : F58.E a b Q := by
 unfold F58.E
 exact eqS_shape (fun x y => decide (x = y)) (fun _ _ => rfl) a b Q hq
theorem F58.is (a b : List Feat) : F58.E a b (fun r => r = decide (a = b)) := F58.law a b _ rfl
theorem F33.law (a : Change) (left : Int) (Q : Int → Prop) (h0 : 0 ≤ left) (h1 : left ≤ 1048576) (hn : left - (bulk a : Nat) < 0 → Q (-1)) (hp : 0 ≤ left - (bulk a : Nat) → Q (left - (bulk a : Nat))) : F33.E a left Q := by
 have hb : bulk a = bulk a.Id + bulk a.Had + bulk a.Was + bulk a.Has + bulk a.Now := rfl
 have hzId : bulk a.Id = a.Id.length := bulk_str _
 have hzHad : bulk a.Had = 0 := rfl
 have hzHas : bulk a.Has = 0 := rfl
 unfold F33.E
 refine ⟨by intros; unfold I64; omega, ?_⟩
 split
 ·rename_i hc; simp only [decide_eq_true_eq] at hc; exact hn (by omega)
 rename_i hc0; simp only [decide_eq_true_eq] at hc0
 refine F69.law _ _ _ (by omega) (by omega) (fun h => ?_) (fun h2 => ?_)
 ·rw [if_pos (by decide)]; exact hn (by omega)
 rw [if_neg (by rw [decide_eq_false (by omega)]; exact Bool.false_ne_true)]
 refine F69.law _ _ _ (by omega) (by omega) (fun h => ?_) (fun h4 => ?_)
 ·rw [if_pos (by decide)]; exact hn (by omega)
 rw [if_neg (by rw [decide_eq_false (by omega)]; exact Bool.false_ne_true)]
 exact cast (congrArg Q (by omega)) (hp (by omega))
theorem F22.law (a : List Change) (left : Int) (Q : Int → Prop) (h0 : 0 ≤ left) (h1 : left ≤ 1048576) (hn : left - (bulk a : Nat) < 0 → Q (-1)) (hp : 0 ≤ left - (bulk a : Nat) → Q (left - (bulk a : Nat))) : F22.E a left Q := by
 unfold F22.E
 exact szS_shape F33.E (fun x l Q => F33.law x l Q) a left Q h0 h1 hn hp
theorem F34.law (a : Change) (Q : Change → Prop) (ha : bulk a ≤ 1048576) (hq : Q a) : F34.E a Q := by
 unfold F34.E
 have hb : bulk a = bulk a.Id + bulk a.Had + bulk a.Was + bulk a.Has + bulk a.Now := rfl
 refine F71.law _ _ (by omega) ?_
 refine F71.law _ _ (by omega) ?_
 exact hq
theorem F23.law (a : List Change) (Q : List Change → Prop) (ha : bulk a ≤ 1048576) (hq : Q a) : F23.E a Q := by
 unfold F23.E
 exact toS_shape _ F34.E (fun x Q => F34.law x Q) a Q ha hq
theorem F27.law (a b : List Change) (Q : Bool → Prop) (hq : Q (decide (a = b))) : F27.E a b Q := by
 unfold F27.E
 exact eqS_shape (fun x y => decide (x = y)) (fun _ _ => rfl) a b Q hq
theorem F27.is (a b : List Change) : F27.E a b (fun r => r = decide (a = b)) := F27.law a b _ rfl
theorem F40.law' (k : Int) (Q : Str → Prop) (h0 : 0 ≤ k) (h1 : k ≤ 1000000000000) (hq : Lim (tx k) → Q (tx k)) : F40.E k Q := by
 unfold F40.E
 by_cases hk : k ≤ 0
 ·rw [if_pos (by simpa using hk)]
  have e : tx k = [109, 48] := by unfold tx; rw [if_pos hk]
  rw [e] at hq; exact hq (by decide)
 ·rw [if_neg (by simpa using hk)]
  refine ⟨fun k' out => 0 ≤ k' ∧ (out.length : Int) + k' ≤ k ∧ ∃ f : Nat, k' ≤ f ∧ decA f k' out = decA k.toNat k [], fun k' _ => k'.toNat, ⟨h0, by simp, k.toNat, by omega, rfl⟩, ?_⟩
  rintro k' out ⟨h2, h3, f, h4, h5⟩
  by_cases hp : 0 < k'
  ·rw [if_pos (by simpa using hp)]
   obtain ⟨f, rfl⟩ : ∃ f', f = f' + 1 := ⟨f - 1, by omega⟩
   refine ⟨⟨h2, by omega⟩, by unfold I64; omega, ⟨by omega, by omega⟩, by simp only [List.length_cons, List.length_nil]; omega, ⟨⟨h2, by omega⟩, by omega⟩, ⟨by omega, by simp only [List.length_append, List.length_cons, List.length_nil]; omega, f, by omega, ?_⟩, by dsimp only; omega⟩
   rw [← h5]
   conv => rhs; unfold decA
   rw [if_pos hp]; rfl
  ·rw [if_neg (by simpa using hp)]
   rw [decA_stop f hp] at h5
   have e : tx k = [109] ++ out := by unfold tx; rw [if_neg hk, h5]
   have hl : ([109] : Str).length + out.length ≤ 9223372036854775807 := by simp only [List.length_cons, List.length_nil]; omega
   refine ⟨hl, ?_⟩
   rw [e] at hq
   exact hq (by unfold Lim; rw [List.length_append]; exact hl)
theorem F40.law (k : Int) (Q : Str → Prop) (h0 : 0 ≤ k) (h1 : k ≤ 1000000000000) (hq : Q (tx k)) : F40.E k Q := F40.law' k Q h0 h1 fun _ => hq
theorem tx_lim (k : Int) (h0 : 0 ≤ k) (h1 : k ≤ 1000000000000) : Lim (tx k) := by
 obtain ⟨h, e⟩ : ∃ q, q = Lim (tx k) := ⟨_, rfl⟩
 by_cases hk : k ≤ 0
 ·unfold tx; rw [if_pos hk]; decide
 ·have key : ∀ (f : Nat) (k' : Int) (out : Str), 0 ≤ k' → (out.length : Int) + k' ≤ k → ((decA f k' out).length : Int) ≤ k := by
   intro f
   induction f with
   | zero => intro k' out h2 h3; unfold decA; omega
   | succ f ih =>
    intro k' out h2 h3
    unfold decA
    by_cases hp : 0 < k'
    ·rw [if_pos hp]; exact ih _ _ (by omega) (by simp only [List.length_cons]; omega)
    ·rw [if_neg hp]; omega
  have := key k.toNat k [] h0 (by simp)
  unfold tx Lim; rw [if_neg hk, List.length_append]
  simp only [List.length_cons, List.length_nil]; omega
theorem F40.q (k : Int) (h0 : 0 ≤ k) (h1 : k ≤ 1000000000000) : F40.E k (fun x => x = tx k) := F40.law k _ h0 h1 rfl
def markedPt (n : Nat) (k : Int) : List Pt := (List.range n).map fun i : Nat => ⟨k + 2 * (i : Int), k + 2 * (i : Int) + 1⟩
theorem markedPt_len (n : Nat) (k : Int) : (markedPt n k).length = n := by simp [markedPt]
theorem markedPt_nth (n : Nat) (k : Int) {i : Nat} (h : i < n) : nth (markedPt n k) (i : Int) = ⟨k + 2 * i, k + 2 * i + 1⟩ := by
 rw [nth_nat _ (by rw [markedPt_len]; exact h)]; simp [markedPt]
theorem F59.law (a : List Pt) (k : Int) (Q : Int → List Pt → Prop) (ha : a.length ≤ 1048576) (h0 : 0 ≤ k) (h1 : k ≤ 1000000000) (hq : Q (k + 2 * a.length) (markedPt a.length k)) : F59.E a k Q := by
 unfold F59.E
 refine ⟨fun xs k' i => ∃ u : Nat, i = u ∧ u ≤ a.length ∧ k' = k + 2 * u ∧ xs.length = a.length ∧ xs.take u = markedPt u k, fun _ _ i => (a.length - i).toNat, ⟨0, rfl, Nat.zero_le _, by omega, rfl, rfl⟩, ?_⟩
 rintro xs _ _ ⟨u, rfl, hu, rfl, hl, ht⟩
 rw [hl]
 by_cases h : (u : Int) < (a.length : Int)
 ·rw [if_pos (by simpa using h)]
  have hu' : u < xs.length := by omega
  rw [Int.toNat_natCast, nth_set _ hu', if_pos rfl, List.set_set]
  refine ⟨by omega, fun _ => by unfold I64; omega, by simp only [List.length_set]; omega, fun _ => by unfold I64; omega, by omega, ⟨u + 1, by omega, by omega, by omega, by rw [List.length_set]; exact hl, ?_⟩, by dsimp only; omega⟩
  rw [List.take_succ_eq_append_getElem (by rw [List.length_set]; exact hu'), List.getElem_set_self, List.take_set_of_le (Nat.le_refl _), ht]
  unfold markedPt
  rw [List.range_succ, List.map_append]
  rfl
 ·rw [if_neg (by simpa using h)]
  have : u = a.length := by omega
  subst this
  rw [List.take_of_length_le (by omega)] at ht
  rw [ht]; exact hq
theorem F59.lawk (a : List Pt) (k : Int) (Q : Int → List Pt → Prop) (ha : bulk a ≤ 1048576) (h0 : 0 ≤ k) (h1 : k ≤ 1000000000) (hq : Q (mkL gPt a k).2 (mkL gPt a k).1) : F59.E a k Q := by
 unfold F59.E
 have hbl := bulk_len a
 refine ⟨fun xs k' i => ∃ u : Nat, i = u ∧ Mk gPt a k u xs k', fun _ _ i => (a.length - i).toNat, ⟨0, rfl, .zero a k⟩, ?_⟩
 rintro xs k' _ ⟨u, rfl, M⟩
 have hl := M.len
 have hb := M.bd gPt_bd
 rw [hl]
 by_cases h : u < a.length
 ·rw [if_pos (by simpa using h)]
  have hu' : u < xs.length := by omega
  rw [Int.toNat_natCast, nth_set _ hu', if_pos rfl, List.set_set]
  exact ⟨by omega, fun _ => by unfold I64; omega, by simp only [List.length_set]; omega, fun _ => by unfold I64; omega, by omega, ⟨u + 1, by omega, M.next h (by show _ = (_, _); unfold gPt; rw [Int.add_assoc]; rfl)⟩, by dsimp only; omega⟩
 ·rw [if_neg (by simpa using h)]
  obtain ⟨rfl, rfl⟩ := M.full h
  exact hq
theorem F41.lawk (a : List Tag) (k : Int) (Q : Int → List Tag → Prop) (ha : bulk a ≤ 1048576) (h0 : 0 ≤ k) (h1 : k ≤ 1000000000) (hq : Q (mkL gTag a k).2 (mkL gTag a k).1) : F41.E a k Q := by
 unfold F41.E
 have hbl := bulk_len a
 refine ⟨fun xs k' i => ∃ u : Nat, i = u ∧ Mk gTag a k u xs k', fun _ _ i => (a.length - i).toNat, ⟨0, rfl, .zero a k⟩, ?_⟩
 rintro xs k' _ ⟨u, rfl, M⟩
 have hl := M.len
 have hb := M.bd gTag_bd
 by_cases h : u < a.length
 ·rw [if_pos (by rw [hl]; simpa using h)]
  have hu' : u < xs.length := by omega
  have hx := M.nth h
  have hm := bulk_mem (nth_mem a h)
  refine F40.law _ _ (by omega) (by omega) ⟨by omega, fun _ => by unfold I64; omega, F40.law _ _ (by omega) (by omega) ?_⟩
  rw [Int.toNat_natCast, nth_set _ hu', if_pos rfl, List.set_set]
  exact ⟨by simp only [List.length_set]; omega, fun _ => by unfold I64; omega, by omega, ⟨u + 1, by omega, M.next h (by show _ = (_, _); unfold gTag; rw [Int.add_assoc]; rfl)⟩, by dsimp only; omega⟩
 ·rw [if_neg (by rw [hl]; simpa using h)]
  obtain ⟨rfl, rfl⟩ := M.full h
  exact hq
theorem F28.lawk (a : List Feat) (k : Int) (Q : Int → List Feat → Prop) (ha : bulk a ≤ 1048576) (h0 : 0 ≤ k) (h1 : k ≤ 500000000) (hq : Q (mkL gFeat a k).2 (mkL gFeat a k).1) : F28.E a k Q := by
 unfold F28.E
 have hbl := bulk_len a
 refine ⟨fun xs k' i => ∃ u : Nat, i = u ∧ Mk gFeat a k u xs k', fun _ _ i => (a.length - i).toNat, ⟨0, rfl, .zero a k⟩, ?_⟩
 rintro xs k' _ ⟨u, rfl, M⟩
 have hl := M.len
 have hb := M.bd gFeat_bd
 by_cases h : u < a.length
 ·rw [if_pos (by rw [hl]; simpa using h)]
  have hu' : u < xs.length := by omega
  have hx := M.nth h
  have hm := bulk_mem (nth_mem a h)
  have hb1 := bulk_feat (nth a (u : Int))
  have hp := mkL_bd gPt_bd (nth a (u : Int)).Shape.Pts (k' + 2)
  simp only [Int.add_assoc, Int.reduceAdd]
  refine F40.law _ _ (by omega) (by omega) ⟨by omega, ?_⟩
  intro xs3 e3
  rw [hx] at e3
  obtain ⟨n3, l3, s3⟩ := set_facts hu' e3
  try dsimp only at n3
  refine ⟨fun _ => by unfold I64; omega, by omega, ?_⟩
  intro xs4 e4
  try rw [n3] at e4
  try rw [s3] at e4
  try dsimp only at e4
  obtain ⟨n4, l4, s4⟩ := set_facts hu' e4
  try dsimp only at n4
  refine ⟨fun _ => by unfold I64; omega, by omega, ?_⟩
  rw [n4]
  dsimp only
  refine F59.lawk _ _ _ (by omega) (by omega) (by omega) ?_
  intro xs5 e5
  try rw [n4] at e5
  try rw [s4] at e5
  try dsimp only at e5
  obtain ⟨n5, l5, s5⟩ := set_facts hu' e5
  try dsimp only at n5
  refine ⟨by omega, ?_⟩
  rw [n5]
  dsimp only
  refine F41.lawk _ _ _ (by omega) (by omega) (by omega) ?_
  intro xs6 e6
  try rw [n5] at e6
  try rw [s5] at e6
  try dsimp only at e6
  obtain ⟨n6, l6, s6⟩ := set_facts hu' e6
  try dsimp only at n6
  try rw [s5] at e6
  try rw [s4] at e6
  try rw [s3] at e6
  rw [Int.toNat_natCast] at e6
  rw [e6]
  exact ⟨by omega, ⟨u + 1, by omega, M.next h rfl⟩, by first | omega | (dsimp only; omega)⟩
 ·rw [if_neg (by rw [hl]; simpa using h)]
  obtain ⟨rfl, rfl⟩ := M.full h
  exact hq
theorem F60.law (n : Nat) (k : Int) (Q : Int → Prop) (ha : n ≤ 1048576) (h0 : 0 ≤ k) (h1 : k ≤ 1000000000) (hq : Q (k + 2 * n)) : F60.E (markedPt n k) k Q := by
 unfold F60.E
 rw [markedPt_len]
 refine ⟨fun k' i => ∃ u : Nat, i = u ∧ u ≤ n ∧ k' = k + 2 * u, fun _ i => (n - i).toNat, ⟨0, rfl, Nat.zero_le _, by omega⟩, ?_⟩
 rintro _ _ ⟨u, rfl, hu, rfl⟩
 by_cases h : (u : Int) < (n : Int)
 ·rw [if_pos (by simpa using h), markedPt_nth n k (by omega)]
  refine ⟨by omega, ?_⟩
  rw [if_neg (by simp)]
  refine ⟨fun _ => by unfold I64; omega, by omega, ?_⟩
  rw [if_neg (by simp)]
  exact ⟨fun _ => by unfold I64; omega, by omega, ⟨u + 1, by omega, by omega, by omega⟩, by dsimp only; omega⟩
 ·rw [if_neg (by simpa using h)]
  have : u = n := by omega
  subst this
  exact hq
theorem F60.lawk (a : List Pt) (k : Int) (Q : Int → Prop) (ha : bulk a ≤ 1048576) (h0 : 0 ≤ k) (h1 : k ≤ 1000000000) (hq : Q (mkL gPt a k).2) : F60.E (mkL gPt a k).1 k Q := by
 unfold F60.E
 have hbl := bulk_len a
 rw [mkL_len]
 refine ⟨fun k' i => ∃ u : Nat, i = u ∧ Hd gPt a k u k', fun _ i => (a.length - i).toNat, ⟨0, rfl, .zero a k⟩, ?_⟩
 rintro k' _ ⟨u, rfl, M⟩
 have hb := M.bd gPt_bd
 by_cases h : u < a.length
 ·rw [if_pos (by simpa using h), M.nth h]
  refine ⟨by omega, ?_⟩
  rw [if_neg (by simp [gPt])]
  refine ⟨fun _ => by unfold I64; omega, by omega, ?_⟩
  rw [if_neg (by simp [gPt])]
  refine ⟨fun _ => by unfold I64; omega, by omega, ⟨u + 1, by omega, ?_⟩, by dsimp only; omega⟩
  have := M.next h
  rw [show k' + 1 + 1 = (gPt (nth a (u : Int)) k').2 by simp [gPt]; omega]; exact this
 ·rw [if_neg (by simpa using h), M.full h]; exact hq
theorem F42.lawk (a : List Tag) (k : Int) (Q : Int → Prop) (ha : bulk a ≤ 1048576) (h0 : 0 ≤ k) (h1 : k ≤ 1000000000) (hq : Q (mkL gTag a k).2) : F42.E (mkL gTag a k).1 k Q := by
 unfold F42.E
 have hbl := bulk_len a
 rw [mkL_len]
 refine ⟨fun k' i => ∃ u : Nat, i = u ∧ Hd gTag a k u k', fun _ i => (a.length - i).toNat, ⟨0, rfl, .zero a k⟩, ?_⟩
 rintro k' _ ⟨u, rfl, M⟩
 have hb := M.bd gTag_bd
 by_cases h : u < a.length
 ·rw [if_pos (by simpa using h), M.nth h]
  have hm := bulk_mem (nth_mem a h)
  have hn := M.next h
  refine ⟨by omega, tx k', F40.q _ (by omega) (by omega), tx_lim _ (by omega) (by omega), ?_⟩
  rw [if_neg (by simp [gTag])]
  refine ⟨fun _ => by unfold I64; omega, by omega, tx (k' + 1), F40.q _ (by omega) (by omega), tx_lim _ (by omega) (by omega), ?_⟩
  rw [if_neg (by simp [gTag])]
  refine ⟨fun _ => by unfold I64; omega, by omega, ⟨u + 1, by omega, ?_⟩, by dsimp only; omega⟩
  rw [show k' + 1 + 1 = (gTag (nth a (u : Int)) k').2 by simp [gTag]; omega]; exact hn
 ·rw [if_neg (by simpa using h), M.full h]; exact hq
theorem F29.lawk (a : List Feat) (k : Int) (Q : Int → Prop) (ha : bulk a ≤ 1048576) (h0 : 0 ≤ k) (h1 : k ≤ 500000000) (hq : Q (mkL gFeat a k).2) : F29.E (mkL gFeat a k).1 k Q := by
 unfold F29.E
 have hbl := bulk_len a
 rw [mkL_len]
 refine ⟨fun k' i => ∃ u : Nat, i = u ∧ Hd gFeat a k u k', fun _ i => (a.length - i).toNat, ⟨0, rfl, .zero a k⟩, ?_⟩
 rintro k' _ ⟨u, rfl, M⟩
 have hb := M.bd gFeat_bd
 by_cases h : u < a.length
 ·rw [if_pos (by simpa using h), M.nth h]
  have hm := bulk_mem (nth_mem a h)
  have hn := M.next h
  have hb1 := bulk_feat (nth a (u : Int))
  have hp := mkL_bd gPt_bd (nth a (u : Int)).Shape.Pts (k' + 2)
  simp only [Int.add_assoc, Int.reduceAdd]
  have ht := mkL_bd gTag_bd (nth a (u : Int)).Tags (mkL gPt (nth a (u : Int)).Shape.Pts (k' + 2)).2
  refine ⟨by omega, tx k', F40.q _ (by omega) (by omega), tx_lim _ (by omega) (by omega), ?_⟩
  rw [if_neg (by simp [gFeat])]
  refine ⟨fun _ => by unfold I64; omega, by omega, ?_⟩
  rw [if_neg (by simp [gFeat])]
  refine ⟨fun _ => by unfold I64; omega, by omega, F60.lawk (nth a (u : Int)).Shape.Pts _ _ (by omega) (by omega) (by omega) ?_⟩
  rw [if_neg (by rw [decide_eq_true_eq]; omega)]
  refine ⟨by omega, F42.lawk (nth a (u : Int)).Tags _ _ (by omega) (by omega) (by omega) ?_⟩
  rw [if_neg (by rw [decide_eq_true_eq]; omega)]
  exact ⟨by omega, ⟨u + 1, by omega, hn⟩, by first | omega | (dsimp only; omega)⟩
 ·rw [if_neg (by simpa using h), M.full h]; exact hq
theorem F13.lawk (a : List Change) (k : Int) (Q : Int → List Change → Prop) (ha : bulk a ≤ 1048576) (h0 : 0 ≤ k) (h1 : k ≤ 500000000) (hq : Q (mkL gChange a k).2 (mkL gChange a k).1) : F13.E a k Q := by
 unfold F13.E
 have hbl := bulk_len a
 refine ⟨fun xs k' i => ∃ u : Nat, i = u ∧ Mk gChange a k u xs k', fun _ _ i => (a.length - i).toNat, ⟨0, rfl, .zero a k⟩, ?_⟩
 rintro xs k' _ ⟨u, rfl, M⟩
 have hl := M.len
 have hb := M.bd gChange_bd
 by_cases h : u < a.length
 ·rw [if_pos (by rw [hl]; simpa using h)]
  have hu' : u < xs.length := by omega
  have hx := M.nth h
  have hm := bulk_mem (nth_mem a h)
  have hc := bulk_change (nth a (u : Int))
  have hb1 := bulk_feat (nth a (u : Int)).Was
  have hb2 := bulk_feat (nth a (u : Int)).Now
  have hp := mkL_bd gPt_bd (nth a (u : Int)).Was.Shape.Pts (k' + 4)
  have ht := mkL_bd gTag_bd (nth a (u : Int)).Was.Tags (mkL gPt (nth a (u : Int)).Was.Shape.Pts (k' + 4)).2
  have hq2 := mkL_bd gPt_bd (nth a (u : Int)).Now.Shape.Pts ((mkL gTag (nth a (u : Int)).Was.Tags (mkL gPt (nth a (u : Int)).Was.Shape.Pts (k' + 4)).2).2 + 3)
  simp only [Int.add_assoc, Int.reduceAdd]
  refine F40.law _ _ (by omega) (by omega) ⟨by omega, ?_⟩
  intro xs3 e3
  rw [hx] at e3
  obtain ⟨n3, l3, s3⟩ := set_facts hu' e3
  try dsimp only at n3
  refine ⟨fun _ => by unfold I64; omega, ⟨by omega, by omega⟩, by omega, ?_⟩
  intro xs4 e4
  try rw [n3] at e4
  try rw [s3] at e4
  try dsimp only at e4
  obtain ⟨n4, l4, s4'⟩ := set_facts hu' e4
  have s4 : ∀ z, xs4.set (Int.toNat (u : Int)) z = xs.set (Int.toNat (u : Int)) z := s4'
  try dsimp only at n4
  refine ⟨fun _ => by unfold I64; omega, F40.law _ _ (by omega) (by omega) ⟨by omega, ?_⟩⟩
  intro xs5 e5
  try rw [n4] at e5
  try rw [s4] at e5
  try dsimp only at e5
  obtain ⟨n5, l5, s5'⟩ := set_facts hu' e5
  have s5 : ∀ z, xs5.set (Int.toNat (u : Int)) z = xs.set (Int.toNat (u : Int)) z := s5'
  try dsimp only at n5
  refine ⟨fun _ => by unfold I64; omega, by omega, ?_⟩
  intro xs6 e6
  try rw [n5] at e6
  try rw [s5] at e6
  try dsimp only at e6
  obtain ⟨n6, l6, s6'⟩ := set_facts hu' e6
  have s6 : ∀ z, xs6.set (Int.toNat (u : Int)) z = xs.set (Int.toNat (u : Int)) z := s6'
  try dsimp only at n6
  refine ⟨fun _ => by unfold I64; omega, by omega, ?_⟩
  rw [n6]
  dsimp only
  refine F59.lawk _ _ _ (by omega) (by omega) (by omega) ?_
  intro xs7 e7
  try rw [n6] at e7
  try rw [s6] at e7
  try dsimp only at e7
  obtain ⟨n7, l7, s7'⟩ := set_facts hu' e7
  have s7 : ∀ z, xs7.set (Int.toNat (u : Int)) z = xs.set (Int.toNat (u : Int)) z := s7'
  try dsimp only at n7
  refine ⟨by omega, ?_⟩
  rw [n7]
  dsimp only
  refine F41.lawk _ _ _ (by omega) (by omega) (by omega) ?_
  intro xs8 e8
  try rw [n7] at e8
  try rw [s7] at e8
  try dsimp only at e8
  obtain ⟨n8, l8, s8'⟩ := set_facts hu' e8
  have s8 : ∀ z, xs8.set (Int.toNat (u : Int)) z = xs.set (Int.toNat (u : Int)) z := s8'
  try dsimp only at n8
  refine ⟨⟨by omega, by omega⟩, by omega, ?_⟩
  intro xs9 e9
  try rw [n8] at e9
  try rw [s8] at e9
  try dsimp only at e9
  obtain ⟨n9, l9, s9'⟩ := set_facts hu' e9
  have s9 : ∀ z, xs9.set (Int.toNat (u : Int)) z = xs.set (Int.toNat (u : Int)) z := s9'
  try dsimp only at n9
  refine ⟨fun _ => by unfold I64; omega, F40.law _ _ (by omega) (by omega) ⟨by omega, ?_⟩⟩
  intro xs10 e10
  try rw [n9] at e10
  try rw [s9] at e10
  try dsimp only at e10
  obtain ⟨n10, l10, s10'⟩ := set_facts hu' e10
  have s10 : ∀ z, xs10.set (Int.toNat (u : Int)) z = xs.set (Int.toNat (u : Int)) z := s10'
  try dsimp only at n10
  refine ⟨fun _ => by unfold I64; omega, by omega, ?_⟩
  intro xs11 e11
  try rw [n10] at e11
  try rw [s10] at e11
  try dsimp only at e11
  obtain ⟨n11, l11, s11'⟩ := set_facts hu' e11
  have s11 : ∀ z, xs11.set (Int.toNat (u : Int)) z = xs.set (Int.toNat (u : Int)) z := s11'
  try dsimp only at n11
  refine ⟨fun _ => by unfold I64; omega, by omega, ?_⟩
  rw [n11]
  dsimp only
  refine F59.lawk _ _ _ (by omega) (by omega) (by omega) ?_
  intro xs12 e12
  try rw [n11] at e12
  try rw [s11] at e12
  try dsimp only at e12
  obtain ⟨n12, l12, s12'⟩ := set_facts hu' e12
  have s12 : ∀ z, xs12.set (Int.toNat (u : Int)) z = xs.set (Int.toNat (u : Int)) z := s12'
  try dsimp only at n12
  refine ⟨by omega, ?_⟩
  rw [n12]
  dsimp only
  refine F41.lawk _ _ _ (by omega) (by omega) (by omega) ?_
  intro xs13 e13
  try rw [n12] at e13
  try rw [s12] at e13
  try dsimp only at e13
  obtain ⟨n13, l13, s13'⟩ := set_facts hu' e13
  have s13 : ∀ z, xs13.set (Int.toNat (u : Int)) z = xs.set (Int.toNat (u : Int)) z := s13'
  try dsimp only at n13
  rw [Int.toNat_natCast] at e13
  rw [e13]
  exact ⟨by omega, ⟨u + 1, by omega, M.next h rfl⟩, by first | omega | (dsimp only; omega)⟩
 ·rw [if_neg (by rw [hl]; simpa using h)]
  obtain ⟨rfl, rfl⟩ := M.full h
  exact hq
theorem laws_FnExactDiffDo.law (a : List Feat) (_ : ∀ x ∈ a, vFeat x) (b : List Change) (_ : ∀ x ∈ b, vChange x) : laws_FnExactDiffDo.E a b (fun r => r = true) := by
 unfold laws_FnExactDiffDo.E
 refine F50.law a _ _ (by decide) (by decide) (fun _ => rfl) (fun h1 => ?_)
 rw [if_neg (by rw [decide_eq_false (by omega)]; exact Bool.false_ne_true)]
 refine F22.law b _ _ (by omega) (by omega) (fun _ => rfl) (fun h2 => ?_)
 rw [if_neg (by rw [decide_eq_false (by omega)]; exact Bool.false_ne_true)]
 have ha : bulk a ≤ 1048576 := by omega
 have hb : bulk b ≤ 1048576 := by omega
 have hd := diffDo_small a b
 refine F52.law _ _ ha (F23.law _ _ hb (F84.law _ _ _ ha ?_))
 refine F52.law _ _ ha (F23.law _ _ hb (F92.law _ _ _ ha hb ?_))
 generalize hg : (diffDo a b).1 = gf at *
 generalize hr : (diffDo a b).2 = gr at *
 refine F58.law _ _ _ ?_
 rw [decide_eq_true rfl, if_neg (by decide), if_neg (by simp)]
 refine F52.law _ _ ha (F58.law _ _ _ ?_)
 rw [decide_eq_true rfl, if_neg (by decide)]
 refine F23.law _ _ hb (F27.law _ _ _ ?_)
 rw [decide_eq_true rfl, if_neg (by decide)]
 have m1 := mkL_bd gFeat_bd a 1
 have m2 := mkL_bd gChange_bd b (mkL gFeat a 1).2
 refine F28.lawk _ _ _ ha (by decide) (by decide) (F13.lawk _ _ _ hb (by omega) (by omega) ?_)
 rw [if_neg (by rw [decide_eq_true_eq]; omega)]
 refine F58.law _ _ _ ?_
 rw [decide_eq_true rfl, if_neg (by decide)]
 have m4 := mkL_bd gFeat_bd gf 1
 refine F28.lawk _ _ _ (by omega) (by decide) (by decide) (F29.lawk _ _ _ (by omega) (by decide) (by decide) ?_)
 rw [if_neg (by rw [decide_eq_true_eq]; omega), if_neg (by simp)]
 refine F52.law _ _ ha (F23.law _ _ hb (F92.law _ _ _ ha hb ?_))
 rw [hg, hr]
 refine F58.law _ _ _ ?_
 rw [decide_eq_true rfl, if_neg (by decide), if_neg (by simp)]
 refine F29.lawk _ _ _ (by omega) (by decide) (by decide) ?_
 rw [if_neg (by rw [decide_eq_true_eq]; omega), if_neg (by simp)]
end Go.Proofs.YtndjggncgpjolaaGreat
namespace Go.Proofs.YtndjggncgpjolaaGreat.rFnExactDiffDo
open Go.ChangeShapes Go.WideShapes Go.ChangeAt Go.RowKit
open Go.ChangeMaps (open_string shut_string)
set_option linter.unusedVariables false
theorem own : ownKnob Tryz.prog.godebug = none := by kernel_rfl
theorem laidOut : laidOutB Tryz.prog = true := by kernel_rfl
set_option maxHeartbeats 4000000 in
set_option maxRecDepth 100000 in
theorem lifted (os : Os) (started : os.Started) (H : Type) (enc : TypeId × Value → H) :
    ReturnsInHanded {} Tryz.checked os 3 .any (Rows.fnExactDiffDoSpec.pre6 enc Tryz.prog Tryz.f3 Rows.fnExactDiffDoRow.domain false) (Rows.fnExactDiffDoSpec.post enc Tryz.prog Tryz.f3 false true false false) := by
  refine returnsInHanded_of_change_sized (C := Tryz.checked) own started (by kernel_rfl) Tryz.func3
    (ChangeSpec.witness6 (enc := enc) (C := Tryz.checked) false ⟨#[], #[.slice none 0 0, .slice none 0 0], []⟩ 8 (by kernel_rfl) (by kernel_rfl) (by kernel_rfl) (by kernel_rfl)) ?_
  intro W base args ds gs before hval0 hW hcnd hsz0 _
  have hval : ∀ (j : Nat) t v, Tryz.f3.params[j]? = some t → args[j]? = some v → Value.okWide Tryz.prog W .any base t v := hval0
  have hW' := hW
  obtain ⟨p, q, hA0, hV, rfl, hfz, hnd⟩ := hW
  have hA : DataW.TrodAll enc Tryz.prog W 0 (fun _ => true) true Tryz.f3.params.toList args.toList ds p := hA0
  rw [Tryz.params3] at hA hval
  obtain ⟨v0, vs0, d0, ds0, p0, q0, hargs, rfl, rfl, h0, r0⟩ := trodAll_cons hA
  obtain ⟨v1, vs1, d1, ds1, p1, q1, rfl, rfl, rfl, h1, r1⟩ := trodAll_cons r0
  obtain ⟨rfl, rfl, rfl⟩ := trodAll_nil r1
  obtain rfl : args = #[v0, v1] := by cases args; simp_all
  obtain ⟨rfl, rfl⟩ := trodVars_none hV
  have k0 := h0
  have lt0 : ∀ x ∈ p0, x.block < W.heap.size := by obtain ⟨m, hm⟩ := k0; exact DataW.trod_lt m _ _ _ hm
  obtain ⟨x0, hv0, hx0⟩ : ∃ a : List Feat, (∀ y0 ∈ a, vFeat y0) ∧ (Kd.sl kFeat).R W (Fr []) a v0.cells.toList := by obtain ⟨fuel, hf⟩ := h0; exact (Tr.sl Tryz.underlying22 (by kernel_rfl) tr49) H enc W fuel _ _ hf
  obtain ⟨a0, n0, c0, rfl⟩ := okWide_slice Tryz.underlying22 (hval 0 22 v0 rfl rfl)
  have s0 : Sl kFeat W (Fr []) (.slice a0 n0 c0) x0 := by obtain ⟨_, e, h⟩ := hx0; simp [Value.cells] at e; subst e; exact h
  have k1 := h1
  have lt1 : ∀ x ∈ p1, x.block < W.heap.size := by obtain ⟨m, hm⟩ := k1; exact DataW.trod_lt m _ _ _ hm
  obtain ⟨x1, hv1, hx1⟩ : ∃ a : List Change, (∀ y0 ∈ a, vChange y0) ∧ (Kd.sl kChange).R W (Fr []) a v1.cells.toList := by obtain ⟨fuel, hf⟩ := h1; exact (Tr.sl Tryz.underlying23 (by kernel_rfl) tr52) H enc W fuel _ _ hf
  obtain ⟨a1, n1, c1, rfl⟩ := okWide_slice Tryz.underlying23 (hval 1 23 v1 rfl rfl)
  have s1 : Sl kChange W (Fr []) (.slice a1 n1 c1) x1 := by obtain ⟨_, e, h⟩ := hx1; simp [Value.cells] at e; subst e; exact h
  clear hA0 hval0 hsz0
  refine Calls.mono (laws_FnExactDiffDo.calls W (Ok.nil W) x0 a0 n0 c0 s0 x1 a1 n1 c1 s1 (fun r => r = true) (laws_FnExactDiffDo.law x0 hv0 x1 hv1)) fun e W' ⟨v, he, r, hr, hq, hg⟩ => ?_
  subst he; subst hr; subst hq
  have bel := Gr.below hg
  exact ⟨_, rfl, _, _, _, [], _, [], hW', trodAll_mk1 (shut_bool Tryz.underlying4 _), (trodAll_cons_mk (Below.trod laidOut (by kernel_rfl) (of_decide_eq_true (by kernel_rfl)) k0 bel lt0) (trodAll_cons_mk (Below.trod laidOut (by kernel_rfl) (of_decide_eq_true (by kernel_rfl)) k1 bel lt1) trodAll_mk0)), rfl, bel.frame _, fun h => by cases h⟩
theorem over : Rows.fnExactDiffDoRow.holds Tryz.pinned (OpenSpec.ofChange Rows.fnExactDiffDoSpec) :=
  OpenClaim.holds_of_wide 3 Tryz.f3 rfl rfl rfl rfl rfl rfl rfl ⟨rfl, rfl, rfl, rfl, rfl⟩ rfl rfl rfl rfl rfl (by kernel_rfl) Tryz.func3 (by kernel_rfl)
    (of_decide_eq_true (by kernel_rfl)) (by unfold Func.isWrapper; first | (rw [if_pos (by decide +kernel)]; kernel_rfl) | (rw [if_neg (by decide +kernel)]; exact ⟨rfl, rfl⟩))
    (fun os started H enc _ => lifted os started H enc)
theorem proved : Rows.FnExactDiffDoSaid := over
#print axioms proved
end Go.Proofs.YtndjggncgpjolaaGreat.rFnExactDiffDo
namespace Go.Proofs.YtndjggncgpjolaaGreat
theorem fnExactDiffDo_holds : Rows.FnExactDiffDoSaid := rFnExactDiffDo.proved
end Go.Proofs.YtndjggncgpjolaaGreat