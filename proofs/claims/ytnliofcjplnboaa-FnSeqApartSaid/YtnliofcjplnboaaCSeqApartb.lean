/- It is proved here that the law FnSeqApart of the given program holds whatever it is handed: the walks through the code, the plain laws and the row, in this order.
   Conditions: none. -/
import Derived.Below
import Derived.ChangeArms
import Derived.ChangeOld
import Derived.ChangeSlices
import Derived.DataReads
import Derived.Deep.Quiet
import Derived.KernelRfl
import Derived.Laws.Build
import Derived.Laws.OwnMore
import Derived.Laws.Slices
import Derived.Laws.StructEq
import Derived.OpenShut
import Derived.ProofKit
import Derived.ShutString
import Derived.SizedLaws
import Derived.StillTail
import Derived.Test.YtnliofcjplnboaaProg
import Derived.Test.YtnliofcjplnboaaRows
import Derived.WalkKit
import Derived.Test.YtnliofcjplnboaaCSeqAparta
/- Words: what two rows have in common, in plain lists. -/
namespace Go.Proofs.Ytnliofcjplnboaa
set_option linter.unusedSimpArgs false
set_option linter.unusedVariables false
set_option linter.unusedSectionVars false
section
variable {α : Type} [DecidableEq α]
def lcsR (x : α) (p : List α → Nat) : List α → Nat
  | [] => 0
  | y :: b => if x = y then p b + 1 else max (p (y :: b)) (lcsR x p b)
def lcs : List α → List α → Nat
  | [] => fun _ => 0
  | x :: a => lcsR x (lcs a)
@[simp] theorem lcs_nil (b : List α) : lcs [] b = 0 := rfl
@[simp] theorem lcs_nil2 (a : List α) : lcs a [] = 0 := by cases a <;> rfl
theorem lcs_cons (x y : α) (a b : List α) : lcs (x :: a) (y :: b) = if x = y then lcs a b + 1 else max (lcs a (y :: b)) (lcs (x :: a) b) := rfl
theorem lcs_sub (a b : List α) : ∃ s : List α, s.Sublist a ∧ s.Sublist b ∧ s.length = lcs a b := by
  induction a generalizing b with
  | nil => exact ⟨[], List.nil_sublist _, List.nil_sublist _, rfl⟩
  | cons x a ih =>
    induction b with
    | nil => exact ⟨[], List.nil_sublist _, List.nil_sublist _, rfl⟩
    | cons y b ihb =>
      rw [lcs_cons]
      by_cases h : x = y
      · subst h
        obtain ⟨s, h1, h2, h3⟩ := ih b
        exact ⟨x :: s, h1.cons_cons x, h2.cons_cons x, by rw [if_pos rfl, ← h3]; rfl⟩
      · rw [if_neg h]
        by_cases hm : lcs (x :: a) b ≤ lcs a (y :: b)
        · obtain ⟨s, h1, h2, h3⟩ := ih (y :: b)
          exact ⟨s, h1.cons x, h2, by omega⟩
        · obtain ⟨s, h1, h2, h3⟩ := ihb
          exact ⟨s, h1, h2.cons y, by omega⟩
theorem lcs_max {s a b : List α} (h1 : s.Sublist a) (h2 : s.Sublist b) : s.length ≤ lcs a b := by
  induction a generalizing s b with
  | nil => rw [List.sublist_nil.1 h1]; exact Nat.zero_le _
  | cons x a ih =>
    induction b generalizing s with
    | nil => rw [List.sublist_nil.1 h2]; exact Nat.zero_le _
    | cons y b ihb =>
      rw [lcs_cons]
      by_cases h : x = y
      · subst h
        rw [if_pos rfl]
        cases s with
        | nil => exact Nat.zero_le _
        | cons z s =>
          have := ih (List.Sublist.tail h1) (List.Sublist.tail h2)
          simp only [List.tail_cons] at this
          simp only [List.length_cons]; omega
      · rw [if_neg h]
        cases h1 with
        | cons _ h1 => have := ih h1 h2; omega
        | cons_cons _ h1 =>
          cases h2 with
          | cons _ h2 => have := ihb (h1.cons_cons x) h2; omega
          | cons_cons _ h2 => exact absurd rfl h
theorem lcs_le1 (a b : List α) : lcs a b ≤ a.length := by
  obtain ⟨s, h1, h2, h3⟩ := lcs_sub a b; rw [← h3]; exact h1.length_le
theorem lcs_le2 (a b : List α) : lcs a b ≤ b.length := by
  obtain ⟨s, h1, h2, h3⟩ := lcs_sub a b; rw [← h3]; exact h2.length_le
theorem lcs_comm (a b : List α) : lcs a b = lcs b a := by
  apply Nat.le_antisymm
  · obtain ⟨s, h1, h2, h3⟩ := lcs_sub a b; rw [← h3]; exact lcs_max h2 h1
  · obtain ⟨s, h1, h2, h3⟩ := lcs_sub b a; rw [← h3]; exact lcs_max h2 h1
theorem lcs_mono {a a' b b' : List α} (ha : a.Sublist a') (hb : b.Sublist b') : lcs a b ≤ lcs a' b' := by
  obtain ⟨s, h1, h2, h3⟩ := lcs_sub a b; rw [← h3]; exact lcs_max (h1.trans ha) (h2.trans hb)
theorem lcs_sub_eq {a b : List α} (h : a.Sublist b) : lcs a b = a.length :=
  Nat.le_antisymm (lcs_le1 a b) (lcs_max (List.Sublist.refl a) h)
theorem lcs_self (a : List α) : lcs a a = a.length := lcs_sub_eq (List.Sublist.refl a)
theorem lcs_insert (u v b : List α) (x : α) : lcs (u ++ x :: v) b ≤ lcs (u ++ v) b + 1 := by
  obtain ⟨s, h1, h2, h3⟩ := lcs_sub (u ++ x :: v) b
  obtain ⟨s1, s2, rfl, h4, h5⟩ := List.sublist_append_iff.1 h1
  have : ∃ r : List α, r.Sublist v ∧ r.Sublist s2 ∧ s2.length ≤ r.length + 1 := by
    cases h5 with
    | cons _ h => exact ⟨s2, h, List.Sublist.refl _, by omega⟩
    | cons_cons _ h => exact ⟨_, h, List.sublist_cons_self _ _, Nat.le_refl _⟩
  obtain ⟨r, r1, r2, r3⟩ := this
  have := lcs_max (h4.append r1) (((List.Sublist.refl s1).append r2).trans h2)
  simp only [List.length_append] at this h3; omega
theorem lcs_insert_le (u v b : List α) (x : α) : lcs (u ++ v) b ≤ lcs (u ++ x :: v) b :=
  lcs_mono ((List.Sublist.refl u).append (List.sublist_cons_self x v)) (List.Sublist.refl b)
theorem lcs_snoc (a b : List α) (x : α) : lcs (a ++ [x]) (b ++ [x]) = lcs a b + 1 := by
  apply Nat.le_antisymm
  · obtain ⟨s, h1, h2, h3⟩ := lcs_sub (a ++ [x]) (b ++ [x])
    have f : ∀ {a : List α}, s.Sublist (a ++ [x]) → s.dropLast.Sublist a := fun {a} h => by
      have := h.reverse.tail.reverse
      rw [List.reverse_append, List.reverse_singleton, List.singleton_append, List.tail_cons, List.reverse_reverse, List.tail_reverse, List.reverse_reverse] at this
      exact this
    have := lcs_max (f h1) (f h2)
    rw [List.length_dropLast] at this; omega
  · obtain ⟨s, h1, h2, h3⟩ := lcs_sub a b
    have := lcs_max (h1.append (List.Sublist.refl [x])) (h2.append (List.Sublist.refl [x]))
    simp only [List.length_append, List.length_singleton] at this; omega
theorem lcs_append (a b c : List α) : lcs (a ++ c) (b ++ c) = lcs a b + c.length := by
  induction c generalizing a b with
  | nil => simp
  | cons x c ih =>
    have h : ∀ l : List α, l ++ x :: c = l ++ [x] ++ c := fun l => by simp
    rw [h, h, ih, lcs_snoc, List.length_cons]; omega

/-! ### pairs -/
theorem pp {a b c d : Nat} (h : a = c) (k : b = d) : (a, b) = (c, d) := by rw [h, k]
def pairs (i j : Nat) : List α → List α → List (Nat × Nat)
  | x :: a, y :: b => if x = y then (i, j) :: pairs (i + 1) (j + 1) a b else if lcs (x :: a) b ≤ lcs a (y :: b) then pairs (i + 1) j a (y :: b) else pairs i (j + 1) (x :: a) b
  | [], _ => []
  | _ :: _, [] => []
  termination_by a b => a.length + b.length
theorem pairs_nil (i j : Nat) (b : List α) : pairs i j [] b = [] := by rw [pairs]
theorem pairs_nil2 (i j : Nat) (a : List α) : pairs i j a [] = [] := by cases a <;> rw [pairs]
theorem pairs_cons (i j : Nat) (x y : α) (a b : List α) : pairs i j (x :: a) (y :: b) = if x = y then (i, j) :: pairs (i + 1) (j + 1) a b else if lcs (x :: a) b ≤ lcs a (y :: b) then pairs (i + 1) j a (y :: b) else pairs i (j + 1) (x :: a) b := by rw [pairs]
theorem pairs_ind {C : Nat → Nat → List α → List α → Prop} (h0 : ∀ i j b, C i j [] b) (h1 : ∀ i j a, C i j a [])
    (he : ∀ i j x a b, C (i + 1) (j + 1) a b → C i j (x :: a) (x :: b))
    (ha : ∀ i j x y a b, x ≠ y → lcs (x :: a) b ≤ lcs a (y :: b) → C (i + 1) j a (y :: b) → C i j (x :: a) (y :: b))
    (hb : ∀ i j x y a b, x ≠ y → ¬ lcs (x :: a) b ≤ lcs a (y :: b) → C i (j + 1) (x :: a) b → C i j (x :: a) (y :: b)) : ∀ i j (a b : List α), C i j a b := by
  have : ∀ n i j (a b : List α), a.length + b.length ≤ n → C i j a b := by
    intro n
    induction n with
    | zero => intro i j a b h; cases a with
      | nil => exact h0 _ _ _
      | cons _ _ => simp at h
    | succ n ih =>
      intro i j a b h
      cases a with
      | nil => exact h0 _ _ _
      | cons x a => cases b with
        | nil => exact h1 _ _ _
        | cons y b =>
          simp only [List.length_cons] at h
          by_cases e : x = y
          · subst e; exact he _ _ _ _ _ (ih _ _ _ _ (by omega))
          · by_cases l : lcs (x :: a) b ≤ lcs a (y :: b)
            · exact ha _ _ _ _ _ _ e l (ih _ _ _ _ (by simp only [List.length_cons]; omega))
            · exact hb _ _ _ _ _ _ e l (ih _ _ _ _ (by simp only [List.length_cons]; omega))
  exact fun i j a b => this _ i j a b (Nat.le_refl _)
theorem pairs_len (i j : Nat) (a b : List α) : (pairs i j a b).length = lcs a b := by
  refine pairs_ind (C := fun i j a b => (pairs i j a b).length = lcs a b) ?_ ?_ ?_ ?_ ?_ i j a b
  · intros; rw [pairs_nil]; rfl
  · intros; rw [pairs_nil2, lcs_nil2]; rfl
  · intro i j x a b h; rw [pairs_cons, if_pos rfl, lcs_cons, if_pos rfl, List.length_cons, h]
  · intro i j x y a b e l h; rw [pairs_cons, if_neg e, if_pos l, lcs_cons, if_neg e, h]; exact (Nat.max_eq_left l).symm
  · intro i j x y a b e l h; rw [pairs_cons, if_neg e, if_neg l, lcs_cons, if_neg e, h]; exact (Nat.max_eq_right (by omega)).symm
/-- what is paired lies at or behind the two places, and holds the same -/
theorem pairs_mem (i j : Nat) (a b : List α) : ∀ p ∈ pairs i j a b, ∃ k l, p = (i + k, j + l) ∧ ∃ x, a[k]? = some x ∧ b[l]? = some x := by
  refine pairs_ind (C := fun i j a b => ∀ p ∈ pairs i j a b, ∃ k l, p = (i + k, j + l) ∧ ∃ x, a[k]? = some x ∧ b[l]? = some x) ?_ ?_ ?_ ?_ ?_ i j a b
  · intro i j b p h; rw [pairs_nil] at h; cases h
  · intro i j a p h; rw [pairs_nil2] at h; cases h
  · intro i j x a b ih p h
    rw [pairs_cons, if_pos rfl] at h
    rcases List.mem_cons.1 h with rfl | h
    · exact ⟨0, 0, rfl, x, rfl, rfl⟩
    · obtain ⟨k, l, rfl, z, h1, h2⟩ := ih p h
      exact ⟨k + 1, l + 1, pp (by omega) (by omega), z, h1, h2⟩
  · intro i j x y a b e l ih p h
    rw [pairs_cons, if_neg e, if_pos l] at h
    obtain ⟨k, l, rfl, z, h1, h2⟩ := ih p h
    exact ⟨k + 1, l, pp (by omega) (by omega), z, h1, h2⟩
  · intro i j x y a b e l ih p h
    rw [pairs_cons, if_neg e, if_neg l] at h
    obtain ⟨k, l, rfl, z, h1, h2⟩ := ih p h
    exact ⟨k, l + 1, pp (by omega) (by omega), z, h1, h2⟩
theorem pairs_ord (i j : Nat) (a b : List α) : (pairs i j a b).Pairwise (fun p q => p.1 < q.1 ∧ p.2 < q.2) := by
  refine pairs_ind (C := fun i j a b => (pairs i j a b).Pairwise (fun p q => p.1 < q.1 ∧ p.2 < q.2)) ?_ ?_ ?_ ?_ ?_ i j a b
  · intros; rw [pairs_nil]; exact List.Pairwise.nil
  · intros; rw [pairs_nil2]; exact List.Pairwise.nil
  · intro i j x a b h; rw [pairs_cons, if_pos rfl]
    refine List.Pairwise.cons (fun p hp => ?_) h
    obtain ⟨k, l, rfl, _⟩ := pairs_mem _ _ _ _ p hp
    exact ⟨by dsimp only; omega, by dsimp only; omega⟩
  · intro i j x y a b e l h; rw [pairs_cons, if_neg e, if_pos l]; exact h
  · intro i j x y a b e l h; rw [pairs_cons, if_neg e, if_neg l]; exact h
theorem pairs_self (i j : Nat) (a b : List α) : pairs i j a (a ++ b) = (List.range a.length).map fun k => (i + k, j + k) := by
  induction a generalizing i j with
  | nil => exact pairs_nil _ _ _
  | cons x a ih =>
    rw [List.cons_append, pairs_cons, if_pos rfl, ih, List.length_cons, List.range_succ_eq_map, List.map_cons, List.map_map]
    congr 1
    apply List.map_congr_left; intro k _; simp only [Function.comp, Prod.mk.injEq]; omega
theorem pairs_cons_self (i j : Nat) (x : α) (a b : List α) : pairs i j (x :: a) (x :: b) = (i, j) :: pairs (i + 1) (j + 1) a b := by rw [pairs_cons, if_pos rfl]
theorem pairs_shift (i j : Nat) (a b : List α) (u v : Nat) : pairs (i + u) (j + v) a b = (pairs i j a b).map fun p => (p.1 + u, p.2 + v) := by
  refine pairs_ind (C := fun i j a b => pairs (i + u) (j + v) a b = (pairs i j a b).map fun p => (p.1 + u, p.2 + v)) ?_ ?_ ?_ ?_ ?_ i j a b
  · intros; rw [pairs_nil, pairs_nil]; rfl
  · intros; rw [pairs_nil2, pairs_nil2]; rfl
  · intro i j x a b h; rw [pairs_cons_self, pairs_cons_self, List.map_cons, ← h, Nat.add_right_comm i, Nat.add_right_comm j]
  · intro i j x y a b e l h; rw [pairs_cons, if_neg e, if_pos l, pairs_cons, if_neg e, if_pos l, ← h, Nat.add_right_comm i]
  · intro i j x y a b e l h; rw [pairs_cons, if_neg e, if_neg l, pairs_cons, if_neg e, if_neg l, ← h, Nat.add_right_comm j]
/-- one more that neither holds, at the end of both -/
theorem pairs_snoc (p : α) (i j : Nat) (a b : List α) : p ∉ a → p ∉ b → pairs i j (a ++ [p]) (b ++ [p]) = pairs i j a b ++ [(i + a.length, j + b.length)] := by
  refine pairs_ind (C := fun i j a b => p ∉ a → p ∉ b → pairs i j (a ++ [p]) (b ++ [p]) = pairs i j a b ++ [(i + a.length, j + b.length)]) ?_ ?_ ?_ ?_ ?_ i j a b
  · intro i j b _ hb
    rw [pairs_nil]
    induction b generalizing j with
    | nil => rw [List.nil_append, List.nil_append, pairs_cons_self, pairs_nil]; rfl
    | cons y b ih =>
      have : p ≠ y := fun e => hb (e ▸ List.mem_cons_self)
      have ih := ih (j + 1) (fun h => hb (List.mem_cons_of_mem _ h))
      rw [List.nil_append] at ih
      rw [List.nil_append, List.cons_append, pairs_cons, if_neg this, if_neg, ih]
      · simp only [List.nil_append, List.length_nil, List.length_cons, List.cons.injEq, Prod.mk.injEq, and_true, Nat.add_zero, true_and]; omega
      · have := lcs_snoc [] b p
        rw [List.nil_append] at this
        rw [lcs_nil, this]; omega
  · intro i j a ha _
    rw [pairs_nil2]
    induction a generalizing i with
    | nil => rw [List.nil_append, pairs_cons_self, pairs_nil]; rfl
    | cons y a ih =>
      have : y ≠ p := fun e => ha (e ▸ List.mem_cons_self)
      have ih := ih (i + 1) (fun h => ha (List.mem_cons_of_mem _ h))
      rw [List.nil_append] at ih
      rw [List.nil_append, List.cons_append, pairs_cons, if_neg this, if_pos, ih]
      · simp only [List.nil_append, List.length_nil, List.length_cons, List.cons.injEq, Prod.mk.injEq, and_true, Nat.add_zero, true_and]; omega
      · rw [lcs_nil2]; omega
  · intro i j x a b ih ha hb
    rw [List.cons_append, List.cons_append, pairs_cons_self, pairs_cons_self, ih (fun h => ha (List.mem_cons_of_mem _ h)) (fun h => hb (List.mem_cons_of_mem _ h))]
    simp only [List.length_cons, List.cons_append, List.cons.injEq, true_and, List.append_cancel_left_eq, Prod.mk.injEq, and_true]; omega
  · intro i j x y a b e l ih ha hb
    rw [List.cons_append, List.cons_append, pairs_cons, if_neg e, if_pos, pairs_cons, if_neg e, if_pos l, ← List.cons_append, ih (fun h => ha (List.mem_cons_of_mem _ h)) hb]
    · simp only [List.length_cons]; congr 2; exact pp (by omega) (by omega)
    · rw [← List.cons_append, ← List.cons_append, lcs_snoc, lcs_snoc]; omega
  · intro i j x y a b e l ih ha hb
    rw [List.cons_append, List.cons_append, pairs_cons, if_neg e, if_neg, pairs_cons, if_neg e, if_neg l, ← List.cons_append, ih ha (fun h => hb (List.mem_cons_of_mem _ h))]
    · simp only [List.length_cons]; congr 2; exact pp (by omega) (by omega)
    · rw [← List.cons_append, ← List.cons_append, lcs_snoc, lcs_snoc]; omega

end
section
variable {α : Type} [Inhabited α]
theorem nth_set (l : List α) {k : Nat} (h : k < l.length) (m : Nat) (v : α) : nth (l.set k v) (m : Int) = if m = k then v else nth l (m : Int) := by
  unfold nth
  rw [Int.toNat_natCast, List.getD_eq_getElem?_getD, List.getD_eq_getElem?_getD, List.getElem?_set]
  by_cases e : m = k
  · subst e; rw [if_pos rfl, if_pos rfl, if_pos h]; rfl
  · rw [if_neg (fun x => e x.symm), if_neg e]
theorem nth_rep (n m : Nat) (v : α) (h : m < n) : nth (List.replicate n v) (m : Int) = v := by
  rw [nth_nat _ (by simpa using h)]; simp
theorem drop_nth (l : List α) {k : Nat} (h : k < l.length) : l.drop k = nth l (k : Int) :: l.drop (k + 1) := by
  rw [nth_nat l h]; exact List.drop_eq_getElem_cons h
/-- the elements from one place to another -/
def seg (l : List α) (i j : Nat) : List α := (l.drop i).take (j - i)
theorem seg_len (l : List α) (i j : Nat) (h : j ≤ l.length) : (seg l i j).length = j - i := by
  unfold seg; rw [List.length_take, List.length_drop]; omega
theorem seg_end (l : List α) (i : Nat) : seg l i l.length = l.drop i := List.take_of_length_le (by simp)
theorem seg_app (l : List α) {i j : Nat} (h : i ≤ j) : seg l i j ++ l.drop j = l.drop i := by
  unfold seg
  have : l.drop j = (l.drop i).drop (j - i) := by rw [List.drop_drop]; congr 1; omega
  rw [this, List.take_append_drop]
theorem seg_self (l : List α) (i : Nat) : seg l i i = [] := by unfold seg; rw [Nat.sub_self, List.take_zero]
theorem seg_cons (x : α) (l : List α) (i j : Nat) : seg (x :: l) (i + 1) (j + 1) = seg l i j := by unfold seg; rw [List.drop_succ_cons, Nat.add_sub_add_right]
theorem seg_snoc (x : α) (l : List α) (i j : Nat) (h : j ≤ l.length) (hij : i ≤ j) : seg (l ++ [x]) i j = seg l i j := by
  unfold seg; rw [List.drop_append_of_le_length (by omega), List.take_append_of_le_length (by rw [List.length_drop]; omega)]
theorem nth_cons (x : α) (l : List α) (k : Nat) : nth (x :: l) ((k + 1 : Nat) : Int) = nth l (k : Int) := rfl
theorem nth_zero (x : α) (l : List α) : nth (x :: l) ((0 : Nat) : Int) = x := rfl
theorem nth_app (l m : List α) {k : Nat} (h : k < l.length) : nth (l ++ m) (k : Int) = nth l (k : Int) := by
  rw [nth_nat _ (by rw [List.length_append]; omega), nth_nat _ h, List.getElem_append_left]
theorem nth_snoc (l : List α) (x : α) : nth (l ++ [x]) (l.length : Int) = x := by
  rw [nth_nat _ (by simp)]; simp
theorem mem_nth {l : List α} {x : α} (h : x ∈ l) : ∃ k : Nat, k < l.length ∧ nth l (k : Int) = x := by
  obtain ⟨k, hk, rfl⟩ := List.getElem_of_mem h
  exact ⟨k, hk, nth_nat l hk⟩
variable [DecidableEq α]
theorem lcs_drop (a b : List α) {i j : Nat} (hi : i < a.length) (hj : j < b.length) : lcs (a.drop i) (b.drop j) = if nth a (i : Int) = nth b (j : Int) then lcs (a.drop (i + 1)) (b.drop (j + 1)) + 1 else max (lcs (a.drop (i + 1)) (b.drop j)) (lcs (a.drop i) (b.drop (j + 1))) := by
  rw [drop_nth a hi, drop_nth b hj, lcs_cons, ← drop_nth a hi, ← drop_nth b hj]
theorem pairs_drop (a b : List α) {i j : Nat} (hi : i < a.length) (hj : j < b.length) : pairs i j (a.drop i) (b.drop j) = if nth a (i : Int) = nth b (j : Int) then (i, j) :: pairs (i + 1) (j + 1) (a.drop (i + 1)) (b.drop (j + 1)) else if lcs (a.drop i) (b.drop (j + 1)) ≤ lcs (a.drop (i + 1)) (b.drop j) then pairs (i + 1) j (a.drop (i + 1)) (b.drop j) else pairs i (j + 1) (a.drop i) (b.drop (j + 1)) := by
  rw [drop_nth a hi, drop_nth b hj, pairs_cons, ← drop_nth a hi, ← drop_nth b hj]

/-! ### of two rows one -/
def pickL (o a b : List α) : Option (List α) := if a = o then some b else if b = o then some a else if a = b then some a else none
theorem pickL_comm (o a b : List α) : pickL o a b = pickL o b a := by
  unfold pickL
  by_cases h1 : a = o <;> by_cases h2 : b = o
  · subst h1; subst h2; rfl
  · rw [if_pos h1, if_neg h2, if_pos h1]
  · rw [if_neg h1, if_pos h2, if_pos h2]
  · rw [if_neg h1, if_neg h2, if_neg h2, if_neg h1]
    by_cases h3 : a = b
    · subst h3; rfl
    · rw [if_neg h3, if_neg (fun e => h3 e.symm)]
theorem pickL_old (o a : List α) : pickL o a o = some a := by
  unfold pickL
  by_cases h : a = o
  · rw [if_pos h, h]
  · rw [if_neg h, if_pos rfl]
theorem pickL_same (o a : List α) : pickL o a a = some a := by
  unfold pickL
  by_cases h : a = o
  · rw [if_pos h]
  · rw [if_neg h, if_neg h, if_pos rfl]
theorem pickL_none (a b : List α) : pickL [] a b = if a = [] then some b else if b = [] then some a else if a = b then some a else none := rfl
theorem pickL_mem {o a b r : List α} (h : pickL o a b = some r) : (∀ z ∈ r, z ∈ a ∨ z ∈ b) ∧ (∀ z ∈ a, z ∈ o ∨ z ∈ r) ∧ (∀ z ∈ b, z ∈ o ∨ z ∈ r) ∧ r.length ≤ a.length + b.length := by
  unfold pickL at h
  by_cases h1 : a = o
  · rw [if_pos h1] at h; cases h; subst h1
    exact ⟨fun z hz => .inr hz, fun z hz => .inl hz, fun z hz => .inr hz, by omega⟩
  · rw [if_neg h1] at h
    by_cases h2 : b = o
    · rw [if_pos h2] at h; cases h; subst h2
      exact ⟨fun z hz => .inl hz, fun z hz => .inr hz, fun z hz => .inl hz, by omega⟩
    · rw [if_neg h2] at h
      by_cases h3 : a = b
      · rw [if_pos h3] at h; cases h; subst h3
        exact ⟨fun z hz => .inl hz, fun z hz => .inr hz, fun z hz => .inr hz, by omega⟩
      · rw [if_neg h3] at h; cases h
/-- from a place on: n places of the old row are left -/
def mloop (o a b : List α) (f g : Nat → Option Nat) : Nat → Nat → Nat → Nat → Nat → Option (List α)
  | 0, _, i, j, k => pickL (o.drop i) (a.drop j) (b.drop k)
  | n + 1, at_, i, j, k => match f at_, g at_ with
    | some x, some y => (pickL (seg o i at_) (seg a j x) (seg b k y)).bind fun p => (mloop o a b f g n (at_ + 1) (at_ + 1) (x + 1) (y + 1)).map fun r => p ++ nth o (at_ : Int) :: r
    | _, _ => mloop o a b f g n (at_ + 1) i j k
theorem mloop_zero (o a b : List α) (f g : Nat → Option Nat) (t i j k : Nat) : mloop o a b f g 0 t i j k = pickL (o.drop i) (a.drop j) (b.drop k) := rfl
theorem mloop_some {o a b : List α} {f g : Nat → Option Nat} {n t i j k x y : Nat} (hf : f t = some x) (hg : g t = some y) : mloop o a b f g (n + 1) t i j k = (pickL (seg o i t) (seg a j x) (seg b k y)).bind fun p => (mloop o a b f g n (t + 1) (t + 1) (x + 1) (y + 1)).map fun r => p ++ nth o (t : Int) :: r := by
  rw [mloop, hf, hg]
theorem mloop_none {o a b : List α} {f g : Nat → Option Nat} {n t i j k : Nat} (h : f t = none ∨ g t = none) : mloop o a b f g (n + 1) t i j k = mloop o a b f g n (t + 1) i j k := by
  rw [mloop]
  rcases h with h | h
  · rw [h]
  · rw [h]; cases f t <;> rfl
/-- what a row's partners are: in order, within, and alike -/
structure Mates (o a : List α) (f : Nat → Option Nat) : Prop where
  lt : ∀ {t x}, f t = some x → t < o.length ∧ x < a.length
  eq : ∀ {t x}, f t = some x → nth o (t : Int) = nth a (x : Int)
  mono : ∀ {t x u y}, f t = some x → f u = some y → t < u → x < y
/-- no partner of a place at or behind one lies ahead of j -/
def From (f : Nat → Option Nat) (t j : Nat) : Prop := ∀ u x, t ≤ u → f u = some x → j ≤ x
theorem From.zero (f : Nat → Option Nat) (t : Nat) : From f t 0 := fun _ _ _ _ => Nat.zero_le _
theorem From.skip {f : Nat → Option Nat} {t j : Nat} (h : From f t j) : From f (t + 1) j := fun u x hu hx => h u x (by omega) hx
theorem From.step {o a : List α} {f : Nat → Option Nat} (m : Mates o a f) {t x : Nat} (h : f t = some x) : From f (t + 1) (x + 1) := fun u y hu hy => m.mono h hy (by omega)
theorem mloop_comm (o a b : List α) (f g : Nat → Option Nat) (n t i j k : Nat) : mloop o a b f g n t i j k = mloop o b a g f n t i k j := by
  induction n generalizing t i j k with
  | zero => exact pickL_comm _ _ _
  | succ n ih =>
    cases hf : f t with
    | none => rw [mloop_none (.inl hf), mloop_none (.inr hf), ih]
    | some x => cases hg : g t with
      | none => rw [mloop_none (.inr hg), mloop_none (.inl hg), ih]
      | some y => rw [mloop_some hf hg, mloop_some hg hf, pickL_comm, ih]
theorem mloop_old {o a : List α} {f g : Nat → Option Nat} (m : Mates o a f) (hg : ∀ t, t < o.length → g t = some t) (n t i j : Nat) (hn : t + n = o.length) (h : From f t j) : mloop o a o f g n t i j i = some (a.drop j) := by
  induction n generalizing t i j with
  | zero => rw [mloop_zero, pickL_old]
  | succ n ih =>
    cases hf : f t with
    | none => rw [mloop_none (.inl hf), ih _ _ _ (by omega) h.skip]
    | some x =>
      rw [mloop_some hf (hg t (by omega)), pickL_old, Option.bind_some, ih _ _ _ (by omega) (.step m hf), Option.map_some, m.eq hf, ← drop_nth a (m.lt hf).2, seg_app a (h t x (Nat.le_refl _) hf)]
theorem mloop_same {o a : List α} {f : Nat → Option Nat} (m : Mates o a f) (n t i j : Nat) (hn : t + n = o.length) (h : From f t j) : mloop o a a f f n t i j j = some (a.drop j) := by
  induction n generalizing t i j with
  | zero => rw [mloop_zero, pickL_same]
  | succ n ih =>
    cases hf : f t with
    | none => rw [mloop_none (.inl hf), ih _ _ _ (by omega) h.skip]
    | some x =>
      rw [mloop_some hf hf, pickL_same, Option.bind_some, ih _ _ _ (by omega) (.step m hf), Option.map_some, m.eq hf, ← drop_nth a (m.lt hf).2, seg_app a (h t x (Nat.le_refl _) hf)]
theorem mem_seg {l : List α} {i j : Nat} {z : α} (h : z ∈ seg l i j) : z ∈ l := List.mem_of_mem_drop (List.mem_of_mem_take h)
theorem mem_split {l : List α} {i j : Nat} (hij : i ≤ j) (hj : j < l.length) {z : α} (h : z ∈ l.drop i) : z ∈ seg l i j ∨ z = nth l (j : Int) ∨ z ∈ l.drop (j + 1) := by
  rw [← seg_app l hij, drop_nth l hj] at h
  rcases List.mem_append.1 h with h | h
  · exact .inl h
  · rcases List.mem_cons.1 h with h | h
    · exact .inr (.inl h)
    · exact .inr (.inr h)
theorem mloop_keep {o a b : List α} {f g : Nat → Option Nat} (mf : Mates o a f) (mg : Mates o b g) (n t i j k : Nat) (hn : t + n = o.length) (hj : From f t j) (hk : From g t k) (r : List α) (h : mloop o a b f g n t i j k = some r) :
    (∀ z ∈ r, z ∈ a ∨ z ∈ b) ∧ (∀ z ∈ a.drop j, z ∈ o ∨ z ∈ r) ∧ (∀ z ∈ b.drop k, z ∈ o ∨ z ∈ r) ∧ r.length ≤ (a.drop j).length + (b.drop k).length := by
  induction n generalizing t i j k r with
  | zero =>
    rw [mloop_zero] at h
    obtain ⟨h1, h2, h3, h4⟩ := pickL_mem h
    exact ⟨fun z hz => (h1 z hz).imp List.mem_of_mem_drop List.mem_of_mem_drop, fun z hz => (h2 z hz).imp List.mem_of_mem_drop id, fun z hz => (h3 z hz).imp List.mem_of_mem_drop id, h4⟩
  | succ n ih =>
    cases hf : f t with
    | none => rw [mloop_none (.inl hf)] at h; exact ih _ _ _ _ (by omega) hj.skip hk.skip _ h
    | some x => cases hg : g t with
      | none => rw [mloop_none (.inr hg)] at h; exact ih _ _ _ _ (by omega) hj.skip hk.skip _ h
      | some y =>
        rw [mloop_some hf hg] at h
        cases hp : pickL (seg o i t) (seg a j x) (seg b k y) with
        | none => rw [hp] at h; cases h
        | some p =>
          rw [hp, Option.bind_some] at h
          cases hr : mloop o a b f g n (t + 1) (t + 1) (x + 1) (y + 1) with
          | none => rw [hr] at h; cases h
          | some q =>
            rw [hr, Option.map_some] at h; cases h
            obtain ⟨h1, h2, h3, h4⟩ := pickL_mem hp
            obtain ⟨g1, g2, g3, g4⟩ := ih _ _ _ _ (by omega) (.step mf hf) (.step mg hg) _ hr
            have hjx := hj t x (Nat.le_refl _) hf
            have hky := hk t y (Nat.le_refl _) hg
            have hx := (mf.lt hf).2
            have hy := (mg.lt hg).2
            have ex := mf.eq hf
            have ey := mg.eq hg
            refine ⟨fun z hz => ?_, fun z hz => ?_, fun z hz => ?_, ?_⟩
            · rcases List.mem_append.1 hz with hz | hz
              · exact (h1 z hz).imp mem_seg mem_seg
              · rcases List.mem_cons.1 hz with rfl | hz
                · rw [ex]; exact .inl (nth_mem a hx)
                · exact g1 z hz
            · rcases mem_split hjx hx hz with hz | rfl | hz
              · exact (h2 z hz).imp mem_seg (fun h => List.mem_append_left _ h)
              · exact .inr (List.mem_append_right _ (by rw [ex]; exact List.mem_cons_self))
              · exact (g2 z hz).imp id (fun h => List.mem_append_right _ (List.mem_cons_of_mem _ h))
            · rcases mem_split hky hy hz with hz | rfl | hz
              · exact (h3 z hz).imp mem_seg (fun h => List.mem_append_left _ h)
              · exact .inr (List.mem_append_right _ (by rw [ey]; exact List.mem_cons_self))
              · exact (g3 z hz).imp id (fun h => List.mem_append_right _ (List.mem_cons_of_mem _ h))
            · rw [seg_len a _ _ (by omega), seg_len b _ _ (by omega)] at h4
              simp only [List.length_append, List.length_cons, List.length_drop] at g4 ⊢
              omega
theorem mloop_cons {o a b : List α} {f g f' g' : Nat → Option Nat} (p : α) (hf : ∀ t, t < o.length → f' (t + 1) = (f t).map (· + 1)) (hg : ∀ t, t < o.length → g' (t + 1) = (g t).map (· + 1)) (n t i j k : Nat) (hn : t + n = o.length) :
    mloop (p :: o) (p :: a) (p :: b) f' g' n (t + 1) (i + 1) (j + 1) (k + 1) = mloop o a b f g n t i j k := by
  induction n generalizing t i j k with
  | zero => rfl
  | succ n ih =>
    have h1 := hf t (by omega); have h2 := hg t (by omega)
    cases e1 : f t with
    | none => rw [e1] at h1; rw [mloop_none (.inl e1), mloop_none (.inl h1), ih _ _ _ _ (by omega)]
    | some x => cases e2 : g t with
      | none => rw [e2] at h2; rw [mloop_none (.inr e2), mloop_none (.inr h2), ih _ _ _ _ (by omega)]
      | some y =>
        rw [e1] at h1; rw [e2] at h2
        rw [mloop_some e1 e2, mloop_some h1 h2, seg_cons, seg_cons, seg_cons, ih _ _ _ _ (by omega)]
        rfl
theorem mloop_snoc {o a b : List α} {f g f' g' : Nat → Option Nat} (p : α) (mf : Mates o a f) (mg : Mates o b g) (hf : ∀ t, t < o.length → f' t = f t) (hf1 : f' o.length = some a.length) (hg : ∀ t, t < o.length → g' t = g t) (hg1 : g' o.length = some b.length) (n t i j k : Nat) (hn : t + n = o.length)
    (hi : i ≤ t) (hj0 : j ≤ a.length) (hk0 : k ≤ b.length) (hj : From f t j) (hk : From g t k) :
    mloop (o ++ [p]) (a ++ [p]) (b ++ [p]) f' g' (n + 1) t i j k = (mloop o a b f g n t i j k).map (· ++ [p]) := by
  induction n generalizing t i j k with
  | zero =>
    have : t = o.length := by omega
    subst this
    rw [mloop_some hf1 hg1, mloop_zero, seg_snoc _ _ _ _ (Nat.le_refl _) hi, seg_snoc _ _ _ _ (Nat.le_refl _) hj0, seg_snoc _ _ _ _ (Nat.le_refl _) hk0, seg_end, seg_end, seg_end, mloop_zero, nth_snoc]
    have e : ∀ l : List α, (l ++ [p]).drop (l.length + 1) = [] := fun l => List.drop_of_length_le (by simp)
    rw [e, e, e, pickL_same]
    cases pickL (o.drop i) (a.drop j) (b.drop k) <;> rfl
  | succ n ih =>
    have h1 := hf t (by omega); have h2 := hg t (by omega)
    cases e1 : f t with
    | none => rw [e1] at h1; rw [mloop_none (.inl e1), mloop_none (.inl h1), ih _ _ _ _ (by omega) (by omega) hj0 hk0 hj.skip hk.skip]
    | some x => cases e2 : g t with
      | none => rw [e2] at h2; rw [mloop_none (.inr e2), mloop_none (.inr h2), ih _ _ _ _ (by omega) (by omega) hj0 hk0 hj.skip hk.skip]
      | some y =>
        rw [e1] at h1; rw [e2] at h2
        have hx := (mf.lt e1).2
        have hy := (mg.lt e2).2
        rw [mloop_some e1 e2, mloop_some h1 h2, seg_snoc _ _ _ _ (by omega) hi, seg_snoc _ _ _ _ (by omega) (hj t x (Nat.le_refl _) e1), seg_snoc _ _ _ _ (by omega) (hk t y (Nat.le_refl _) e2), ih _ _ _ _ (by omega) (Nat.le_refl _) (by omega) (by omega) (.step mf e1) (.step mg e2), nth_app o [p] (by omega)]
        cases pickL (seg o i t) (seg a j x) (seg b k y) with
        | none => rfl
        | some q =>
          rw [Option.bind_some, Option.bind_some]
          cases mloop o a b f g n (t + 1) (t + 1) (x + 1) (y + 1) with
          | none => rfl
          | some r => simp
theorem mloop_apart {o : List α} {f g : Nat → Option Nat} (p q : α) (hf : ∀ t, t < o.length → f t = some (t + 1)) (hg : ∀ t, t < o.length → g t = some t) (n t : Nat) (hn : t + n = o.length) : mloop o (p :: o) (o ++ [q]) f g n t t (t + 1) t = some (o.drop t ++ [q]) := by
  induction n generalizing t with
  | zero =>
    rw [mloop_zero, List.drop_of_length_le (by omega : o.length ≤ t), List.drop_of_length_le (l := p :: o) (by rw [List.length_cons]; omega), pickL_none, if_pos rfl, List.drop_append_of_le_length (by omega), List.drop_of_length_le (by omega : o.length ≤ t)]
  | succ n ih =>
    rw [mloop_some (hf t (by omega)) (hg t (by omega)), seg_self, seg_self, seg_self, pickL_same, Option.bind_some, ih _ (by omega), Option.map_some, drop_nth o (show t < o.length by omega)]
    rfl
end
end Go.Proofs.Ytnliofcjplnboaa

namespace Go.Proofs.Ytnliofcjplnboaa
set_option linter.unusedVariables false
set_option linter.unusedSimpArgs false
def few (a b : List Pt) : Bool := decide (a.length ≤ 12) && decide (b.length ≤ 12)
theorem few_iff {a b : List Pt} : few a b = true ↔ a.length ≤ 12 ∧ b.length ≤ 12 := by simp [few]
theorem few_not {a b : List Pt} : few a b = false ↔ ¬ (a.length ≤ 12 ∧ b.length ≤ 12) := by rw [← few_iff]; simp
def slen (a b : List Pt) : Int := if few a b then (lcs a b : Nat) else 0
def mkP (p : Nat × Nat) : Pair := ⟨p.1, p.2⟩
def spairs (a b : List Pt) : List Pair := if few a b then (pairs 0 0 a b).map mkP else []
theorem spairs_few {a b : List Pt} (h : few a b = true) : spairs a b = (pairs 0 0 a b).map mkP := by unfold spairs; rw [if_pos h]
theorem spairs_len (a b : List Pt) : ((spairs a b).length : Int) = slen a b := by
  unfold spairs slen
  by_cases h : few a b = true
  · rw [if_pos h, if_pos h, List.length_map, pairs_len]
  · rw [if_neg h, if_neg h]; rfl
theorem slen_le (a b : List Pt) : 0 ≤ slen a b ∧ slen a b ≤ a.length ∧ slen a b ≤ b.length ∧ slen a b ≤ 12 := by
  unfold slen
  by_cases h : few a b = true
  · have := few_iff.1 h
    have h1 := lcs_le1 a b; have h2 := lcs_le2 a b
    rw [if_pos h]; omega
  · rw [if_neg h]; omega
/-- a row: what is in common from a place of the second on -/
def RowOk (a b : List Pt) (i : Nat) (j : Nat) (xs : List Int) : Prop := xs.length = b.length + 1 ∧ ∀ m : Nat, j ≤ m → m ≤ b.length → nth xs (m : Int) = (lcs (a.drop i) (b.drop m) : Nat)
def Tab (a b : List Pt) (D : Nat → Nat → Prop) (t : List (List Int)) : Prop := t.length = a.length + 1 ∧ ∀ r : Nat, r ≤ a.length → (nth t (r : Int)).length = b.length + 1 ∧ ∀ m : Nat, m ≤ b.length → D r m → nth (nth t (r : Int)) (m : Int) = (lcs (a.drop r) (b.drop m) : Nat)
theorem Tab.set {a b : List Pt} {D : Nat → Nat → Prop} {t : List (List Int)} (h : Tab a b D t) {i j : Nat} (hi : i ≤ a.length) (hj : j ≤ b.length) {v : Int} (hv : v = (lcs (a.drop i) (b.drop j) : Nat)) {D' : Nat → Nat → Prop} (hD : ∀ r m, D' r m → D r m ∨ (r = i ∧ m = j)) :
    Tab a b D' (t.set i ((nth t (i : Int)).set j v)) := by
  obtain ⟨h1, h2⟩ := h
  refine ⟨by rw [List.length_set]; exact h1, fun r hr => ?_⟩
  rw [nth_set _ (by omega)]
  by_cases e : r = i
  · subst e
    rw [if_pos rfl]
    refine ⟨by rw [List.length_set]; exact (h2 r hr).1, fun m hm hd => ?_⟩
    rw [nth_set _ (by rw [(h2 r hr).1]; omega)]
    by_cases f : m = j
    · subst f; rw [if_pos rfl, hv]
    · rw [if_neg f]
      exact (h2 r hr).2 m hm ((hD r m hd).resolve_right fun x => f x.2)
  · rw [if_neg e]
    exact ⟨(h2 r hr).1, fun m hm hd => (h2 r hr).2 m hm ((hD r m hd).resolve_right fun x => e x.1)⟩
def mateI (l : List Pair) (k : Int) : Int := match l with
  | [] => -1
  | p :: l => if p.A == k then p.B else mateI l k
theorem mateI_nil (k : Int) : mateI [] k = -1 := rfl
theorem mateI_cons (p : Pair) (l : List Pair) (k : Int) : mateI (p :: l) k = if p.A == k then p.B else mateI l k := rfl
def mateN (l : List (Nat × Nat)) (k : Nat) : Option Nat := match l with
  | [] => none
  | p :: l => if p.1 = k then some p.2 else mateN l k
theorem mateI_mk (l : List (Nat × Nat)) (k : Nat) : mateI (l.map mkP) (k : Int) = match mateN l k with | some x => (x : Int) | none => -1 := by
  induction l with
  | nil => rfl
  | cons p l ih =>
    rw [List.map_cons, mateI_cons, mateN]
    by_cases h : p.1 = k
    · rw [if_pos (by simp [mkP, h]), if_pos h]; rfl
    · rw [if_neg (by simp [mkP]; omega), if_neg h, ih]
theorem mateN_mem {l : List (Nat × Nat)} {k x : Nat} (h : mateN l k = some x) : (k, x) ∈ l := by
  induction l with
  | nil => cases h
  | cons p l ih =>
    rw [mateN] at h
    by_cases e : p.1 = k
    · rw [if_pos e] at h; cases h; subst e; exact List.mem_cons_self
    · rw [if_neg e] at h; exact List.mem_cons_of_mem _ (ih h)
theorem mateN_of {l : List (Nat × Nat)} {k x : Nat} (ho : l.Pairwise fun p q => p.1 < q.1 ∧ p.2 < q.2) (h : (k, x) ∈ l) : mateN l k = some x := by
  induction l with
  | nil => cases h
  | cons p l ih =>
    rw [mateN]
    rcases List.mem_cons.1 h with h | h
    · subst h; rw [if_pos rfl]
    · have := (List.pairwise_cons.1 ho).1 _ h
      rw [if_neg (by dsimp only at this; omega)]
      exact ih (List.pairwise_cons.1 ho).2 h
theorem mateN_none {l : List (Nat × Nat)} {k : Nat} (h : ∀ x, (k, x) ∉ l) : mateN l k = none := by
  cases e : mateN l k with
  | none => rfl
  | some x => exact absurd (mateN_mem e) (h x)
def part (o a : List Pt) : Nat → Option Nat := mateN (pairs 0 0 o a)
theorem part_mates (o a : List Pt) : Mates o a (part o a) := by
  have hm : ∀ {t x}, part o a t = some x → ∃ z, o[t]? = some z ∧ a[x]? = some z := fun {t x} h => by
    obtain ⟨k, l, e, z, h1, h2⟩ := pairs_mem 0 0 o a _ (mateN_mem h)
    rw [Nat.zero_add, Nat.zero_add] at e; cases e
    exact ⟨z, h1, h2⟩
  refine ⟨fun {t x} h => ?_, fun {t x} h => ?_, fun {t x u y} h1 h2 hu => ?_⟩
  · obtain ⟨z, h1, h2⟩ := hm h
    exact ⟨(List.getElem?_eq_some_iff.1 h1).1, (List.getElem?_eq_some_iff.1 h2).1⟩
  · obtain ⟨z, h1, h2⟩ := hm h
    obtain ⟨e1, e2⟩ := List.getElem?_eq_some_iff.1 h1
    obtain ⟨e3, e4⟩ := List.getElem?_eq_some_iff.1 h2
    rw [nth_nat _ e1, nth_nat _ e3, e2, e4]
  · have ho := pairs_ord 0 0 o a
    have m1 := mateN_mem h1; have m2 := mateN_mem h2
    generalize pairs 0 0 o a = l at ho m1 m2
    induction l with
    | nil => cases m1
    | cons p l ih =>
      obtain ⟨q1, q2⟩ := List.pairwise_cons.1 ho
      rcases List.mem_cons.1 m1 with e1 | n1
      · rcases List.mem_cons.1 m2 with e2 | n2
        · subst e1; cases e2; omega
        · subst e1; exact (q1 _ n2).2
      · rcases List.mem_cons.1 m2 with e2 | n2
        · subst e2; have := (q1 _ n1).1; dsimp only at this; omega
        · exact ih q2 n1 n2
theorem part_old (o : List Pt) (l : List Pt) : ∀ t, t < o.length → part o (o ++ l) t = some t := fun t ht => by
  refine mateN_of (pairs_ord _ _ _ _) ?_
  rw [pairs_self, List.mem_map]
  exact ⟨t, by simpa using ht, by simp⟩
theorem part_self (o : List Pt) : ∀ t, t < o.length → part o o t = some t := fun t ht => by
  have := part_old o [] t ht
  rwa [List.append_nil] at this
/-- what is made of two rows, and of which one was -/
def smerge (o a b : List Pt) : Option (List Pt) := if few o a && few o b then mloop o a b (part o a) (part o b) o.length 0 0 0 0 else none
theorem smerge_few {o a b : List Pt} (h1 : few o a = true) (h2 : few o b = true) : smerge o a b = mloop o a b (part o a) (part o b) o.length 0 0 0 0 := by unfold smerge; rw [h1, h2]; rfl
theorem smerge_not {o a b : List Pt} (h : few o a = false ∨ few o b = false) : smerge o a b = none := by
  unfold smerge; rcases h with h | h <;> rw [h] <;> simp
theorem smerge_comm (o a b : List Pt) : smerge o a b = smerge o b a := by
  unfold smerge; rw [Bool.and_comm, mloop_comm]
theorem smerge_old {o a : List Pt} (h : few o a = true) : smerge o a o = some a := by
  rw [smerge_few h (by rw [few_iff] at h ⊢; exact ⟨h.1, h.1⟩), mloop_old (part_mates o a) (part_self o) _ _ _ _ (by omega) (From.zero _ _)]; rfl
theorem smerge_same {o a : List Pt} (h : few o a = true) : smerge o a a = some a := by
  rw [smerge_few h h, mloop_same (part_mates o a) _ _ _ _ (by omega) (From.zero _ _)]; rfl
theorem smerge_keep {o a b r : List Pt} (h : smerge o a b = some r) : (∀ z ∈ r, z ∈ a ∨ z ∈ b) ∧ (∀ z ∈ a, z ∈ o ∨ z ∈ r) ∧ (∀ z ∈ b, z ∈ o ∨ z ∈ r) ∧ r.length ≤ a.length + b.length := by
  unfold smerge at h
  by_cases hf : (few o a && few o b) = true
  · rw [if_pos hf] at h
    exact mloop_keep (part_mates o a) (part_mates o b) _ _ _ _ _ (by omega) (From.zero _ _) (From.zero _ _) _ h
  · rw [if_neg hf] at h; cases h
theorem smerge_len {o a b r : List Pt} (h : smerge o a b = some r) : r.length ≤ 24 := by
  have h1 := (smerge_keep h).2.2.2
  unfold smerge at h
  by_cases hf : (few o a && few o b) = true
  · rw [Bool.and_eq_true, few_iff, few_iff] at hf; omega
  · rw [if_neg hf] at h; cases h
theorem part_cons (p : Pt) (o a : List Pt) (t : Nat) : part (p :: o) (p :: a) (t + 1) = (part o a t).map (· + 1) := by
  have h := pairs_shift 0 0 o a 1 1
  have e : mateN (pairs (0 + 1) (0 + 1) o a) (t + 1) = (mateN (pairs 0 0 o a) t).map (· + 1) := by
    rw [h]
    generalize pairs 0 0 o a = l
    induction l with
    | nil => rfl
    | cons q l ih =>
      rw [List.map_cons, mateN, mateN]
      by_cases e : q.1 = t
      · rw [if_pos (by dsimp only; omega), if_pos e]; rfl
      · rw [if_neg (by dsimp only; omega), if_neg e, ih]
  unfold part
  rw [pairs_cons_self, mateN, if_neg (by dsimp only; omega), e]
theorem part_cons0 (p : Pt) (o a : List Pt) : part (p :: o) (p :: a) 0 = some 0 := by
  unfold part; rw [pairs_cons_self, mateN, if_pos rfl]
theorem mateN_app (l m : List (Nat × Nat)) (k : Nat) : mateN (l ++ m) k = (mateN l k).or (mateN m k) := by
  induction l with
  | nil => rfl
  | cons p l ih =>
    rw [List.cons_append, mateN, mateN]
    by_cases e : p.1 = k
    · rw [if_pos e, if_pos e]; rfl
    · rw [if_neg e, if_neg e, ih]
theorem part_snoc {p : Pt} {o a : List Pt} (ho : p ∉ o) (ha : p ∉ a) (t : Nat) : part (o ++ [p]) (a ++ [p]) t = (part o a t).or (if o.length = t then some a.length else none) := by
  unfold part; rw [pairs_snoc p 0 0 o a ho ha, mateN_app]
  simp only [mateN, Nat.zero_add]
theorem part_snoc1 {p : Pt} {o a : List Pt} (ho : p ∉ o) (ha : p ∉ a) {t : Nat} (h : t < o.length) : part (o ++ [p]) (a ++ [p]) t = part o a t := by
  rw [part_snoc ho ha, if_neg (by omega)]; cases part o a t <;> rfl
theorem part_snoc2 {p : Pt} {o a : List Pt} (ho : p ∉ o) (ha : p ∉ a) : part (o ++ [p]) (a ++ [p]) o.length = some a.length := by
  rw [part_snoc ho ha, if_pos rfl]
  cases h : part o a o.length with
  | none => rfl
  | some x => have := ((part_mates o a).lt h).1; omega
theorem smerge_cons {o a b : List Pt} (p : Pt) (h1 : few (p :: o) (p :: a) = true) (h2 : few (p :: o) (p :: b) = true) : smerge (p :: o) (p :: a) (p :: b) = (smerge o a b).map (p :: ·) := by
  have g1 : few o a = true := by rw [few_iff] at h1 ⊢; simp only [List.length_cons] at h1; omega
  have g2 : few o b = true := by rw [few_iff] at h2 ⊢; simp only [List.length_cons] at h2; omega
  rw [smerge_few h1 h2, smerge_few g1 g2, List.length_cons, mloop_some (part_cons0 p o a) (part_cons0 p o b), seg_self, seg_self, seg_self, pickL_same, Option.bind_some]
  rw [show (0 : Nat) + 1 = 0 + 1 from rfl, mloop_cons p (fun t _ => part_cons p o a t) (fun t _ => part_cons p o b t) _ _ _ _ _ (by omega)]
  rfl
theorem smerge_snoc {o a b : List Pt} (p : Pt) (ho : p ∉ o) (ha : p ∉ a) (hb : p ∉ b) (h1 : few (o ++ [p]) (a ++ [p]) = true) (h2 : few (o ++ [p]) (b ++ [p]) = true) : smerge (o ++ [p]) (a ++ [p]) (b ++ [p]) = (smerge o a b).map (· ++ [p]) := by
  have g1 : few o a = true := by rw [few_iff] at h1 ⊢; simp only [List.length_append] at h1; omega
  have g2 : few o b = true := by rw [few_iff] at h2 ⊢; simp only [List.length_append] at h2; omega
  rw [smerge_few h1 h2, smerge_few g1 g2, List.length_append, List.length_singleton]
  exact mloop_snoc p (part_mates o a) (part_mates o b) (fun t ht => part_snoc1 ho ha ht) (part_snoc2 ho ha) (fun t ht => part_snoc1 ho hb ht) (part_snoc2 ho hb) _ _ _ _ _ (by omega) (Nat.zero_le _) (Nat.zero_le _) (Nat.zero_le _) (From.zero _ _) (From.zero _ _)
theorem part_shift {p : Pt} {o : List Pt} (hp : p ∉ o) : ∀ t, t < o.length → part o (p :: o) t = some (t + 1) := fun t ht => by
  have e : pairs 0 0 o (p :: o) = pairs 0 1 o o := by
    cases o with
    | nil => rw [pairs_nil, pairs_nil]
    | cons x o =>
      have hx : x ≠ p := fun e => hp (e ▸ List.mem_cons_self)
      rw [pairs_cons, if_neg hx, if_neg]
      have h1 : lcs (x :: o) (x :: o) = o.length + 1 := lcs_self (x :: o)
      have h2 := lcs_le1 o (p :: x :: o)
      omega
  refine mateN_of (pairs_ord _ _ _ _) ?_
  rw [e]
  have := pairs_self 0 1 o []
  rw [List.append_nil] at this
  rw [this, List.mem_map]
  exact ⟨t, by simpa using ht, pp (by omega) (by omega)⟩
theorem smerge_apart {o : List Pt} {p q : Pt} (hp : p ∉ o) (h0 : 0 < o.length) (h : o.length < 12) : smerge o (p :: o) (o ++ [q]) = some (p :: o ++ [q]) := by
  have h1 : few o (p :: o) = true := by rw [few_iff]; simp only [List.length_cons]; omega
  have h2 : few o (o ++ [q]) = true := by rw [few_iff]; simp only [List.length_append, List.length_singleton]; omega
  rw [smerge_few h1 h2]
  obtain ⟨n, e⟩ : ∃ n, o.length = n + 1 := ⟨o.length - 1, by omega⟩
  have hf := part_shift hp
  have hg := part_old o [q]
  rw [e, mloop_some (hf 0 h0) (hg 0 h0), seg_self, seg_self, pickL_old, Option.bind_some]
  have := mloop_apart p q hf hg n 1 (by omega)
  rw [show (0 : Nat) + 1 = 1 from rfl, show (0 : Nat) + 1 + 1 = 1 + 1 from rfl, this, Option.map_some]
  have hd := drop_nth o h0
  rw [List.drop_zero] at hd
  have : seg (p :: o) 0 1 = [p] := rfl
  rw [show (0 : Nat) + 1 = 1 from rfl] at hd
  rw [this, List.singleton_append, ← List.cons_append, ← hd]
  rfl
theorem smerge_clash {o : List Pt} {p q : Pt} (hp : p ∉ o) (hq : q ∉ o) (hpq : p ≠ q) (h0 : 0 < o.length) : smerge o (p :: o) (q :: o) = none := by
  unfold smerge
  by_cases hf : (few o (p :: o) && few o (q :: o)) = true
  · rw [if_pos hf]
    obtain ⟨n, e⟩ : ∃ n, o.length = n + 1 := ⟨o.length - 1, by omega⟩
    rw [e, mloop_some (part_shift hp 0 h0) (part_shift hq 0 h0)]
    have : pickL (seg o 0 0) (seg (p :: o) 0 (0 + 1)) (seg (q :: o) 0 (0 + 1)) = none := by
      show pickL [] [p] [q] = none
      unfold pickL
      rw [if_neg (by simp), if_neg (by simp), if_neg (by simpa using hpq)]
    rw [this]; rfl
  · rw [if_neg hf]
theorem smerge_nil {a b : List Pt} (h1 : a.length ≤ 12) (h2 : b.length ≤ 12) : smerge [] a b = if a = [] then some b else if b = [] then some a else if a = b then some a else none := by
  rw [smerge_few (by rw [few_iff]; exact ⟨Nat.zero_le _, h1⟩) (by rw [few_iff]; exact ⟨Nat.zero_le _, h2⟩)]; rfl
end Go.Proofs.Ytnliofcjplnboaa

namespace Go.Proofs.Ytnliofcjplnboaa
set_option linter.unusedVariables false
set_option linter.unusedSimpArgs false
/-- a drawn row: not longer than it may be, and within the drawn field -/
def Field (l : List Pt) : Prop := ∀ x ∈ l, x.X ≤ 8
theorem spec_l5Seq.law (b : List UInt8) (p : Int) (most : Nat) (Q : List Pt → Int → Prop) (hb : b.length ≤ 2000) (hp : 0 ≤ p) (hp1 : p ≤ 1000000000) (hm : most ≤ 1000) (hq : ∀ l p', l.length ≤ most → Field l → 0 ≤ p' → p' ≤ p + 3000 → Q l p') : spec_l5Seq.E b p most Q := by
  unfold spec_l5Seq.E
  refine ⟨by unfold I64; omega, spec_l12Rd_pick.law _ _ _ _ hb hp (by omega) fun v hv0 hv1 => ?_⟩
  refine ⟨fun l i z => 0 ≤ i ∧ (l.length : Int) + i ≤ most ∧ Field l ∧ 0 ≤ z ∧ z ≤ p + 1 + 2 * l.length, fun _ i _ => i.toNat, ⟨hv0, by simp only [List.length_nil]; omega, fun x hx => (by cases hx), by omega, by simp only [List.length_nil]; omega⟩, ?_⟩
  rintro l i z ⟨h0, h1, h2, h3, h4⟩
  by_cases hi : i > 0
  · rw [if_pos (by simpa using hi)]
    refine spec_l12Rd_pick.law _ _ _ _ hb h3 (by omega) fun x hx0 hx1 => spec_l12Rd_pick.law _ _ _ _ hb (by omega) (by omega) fun y hy0 hy1 => ?_
    refine ⟨by simp only [List.length_singleton]; omega, by unfold I64; omega, ⟨by omega, by simp only [List.length_append, List.length_singleton]; omega, fun q hq => ?_, by omega, by simp only [List.length_append, List.length_singleton]; omega⟩, by dsimp only; omega⟩
    rcases List.mem_append.1 hq with hq | hq
    · exact h2 q hq
    · rw [List.mem_singleton.1 hq]; dsimp only; omega
  · rw [if_neg (by simpa using hi)]
    exact hq _ _ (by omega) h2 h3 (by omega)
end Go.Proofs.Ytnliofcjplnboaa

namespace Go.Proofs.Ytnliofcjplnboaa
open Go.RowKit
set_option linter.unusedVariables false
def spec_l1Min.E (a : Int) (b : Int) (Q : Int → Prop) : Prop :=
  (if decide (a < b) then Q a else Q b)
set_option maxHeartbeats 8000000 in
set_option maxRecDepth 100000 in
theorem spec_l1Min.calls {O : Ob} (w0 : World) (hO : Ok w0 O) (a : Int) (b : Int) (Q : Int → Prop) (h : spec_l1Min.E a b Q) :
    Ret Try.prog 62 [vi a, vi b] w0 (fun v w' => ∃ (r0 : Int), v = vi r0 ∧ Q r0 ∧ Gr w0 w' none ∧ w' = w0) := by
  have H : (if decide (a < b) then Q a else Q b) := h
  clear h
  have hc0 := Ct.init hO
  refine Ret_enter Try.func62 rfl 10 rfl [.tmp 4] rfl rfl ?_
  refine W_seq ?_
  refine W_reg ?_
  refine L_pu (P_assign (vi 0) rfl) ?_
  refine L_nil ?_
  refine W_seq ?_
  refine W_seq ?_
  refine W_reg ?_
  refine L_pu (P_move (vi a) rfl) ?_
  refine L_pu (P_move (vi b) rfl) ?_
  refine L_pu (P_cmp a b (decide (a < b)) rfl rfl rfl) ?_
  refine L_nil ?_
  refine W_cond (decide (a < b)) rfl (fun hq1 => ?_) (fun hq1 => ?_)
  · have H := ite_t H hq1
    refine W_seq ?_
    refine W_reg ?_
    refine L_pu (P_move (vi a) rfl) ?_
    refine L_pu (P_assign (vi a) rfl) ?_
    refine L_nil ?_
    refine W_ret ?_
    exact ⟨[vi a], ⟨_, rfl, rfl⟩, a, rfl, H, hc0.gr, rfl⟩
  · have H := ite_f H hq1
    refine W_skip ?_
    refine W_seq ?_
    refine W_reg ?_
    refine L_pu (P_move (vi b) rfl) ?_
    refine L_pu (P_assign (vi b) rfl) ?_
    refine L_nil ?_
    refine W_ret ?_
    exact ⟨[vi b], ⟨_, rfl, rfl⟩, b, rfl, H, hc0.gr, rfl⟩
def spec_l1Min.m (a : Int) (b : Int) : Int := (if decide (a < b) then a else b)
theorem spec_l1Min.fn (a : Int) (b : Int) : spec_l1Min.E a b (fun r => r = spec_l1Min.m a b) := by
  unfold spec_l1Min.E spec_l1Min.m
  (repeat' split) <;> simp_all
end Go.Proofs.Ytnliofcjplnboaa

namespace Go.Proofs.Ytnliofcjplnboaa
set_option linter.unusedVariables false
set_option linter.unusedSimpArgs false
theorem spec_l1Min.m_is (a b : Int) : spec_l1Min.m a b = min a b := by
  unfold spec_l1Min.m
  by_cases h : a < b
  · simp [h]; omega
  · simp [h]; omega
end Go.Proofs.Ytnliofcjplnboaa

namespace Go.Proofs.Ytnliofcjplnboaa
open Go.RowKit
set_option linter.unusedVariables false
def spec_l5Near.E (r_b : List UInt8) (r_p : Int) (s : List Pt) (Q : List Pt → Int → Prop) : Prop :=
  (([] : List Pt).length + s.length ≤ 268435456) ∧ spec_l12Rd_pick.E r_b r_p 2 (fun r2 m => (I64 (1 + r2)) ∧ (∃ (I66 : (List Pt) → Int → Int → Prop) (mu67 : (List Pt) → Int → Int → Nat), I66 (([] : List Pt) ++ s) (1 + r2) m ∧ ∀ (xs2 : List Pt) (i2 : Int) (z2 : Int), I66 xs2 i2 z2 → (if decide (i2 > 0) then ((xs2.length : Int) ≤ 9223372036854775807 → I64 ((xs2.length : Int) + 1)) ∧ spec_l12Rd_pick.E r_b z2 ((xs2.length : Int) + 1) (fun r3 m2 => spec_l12Rd_pick.E r_b m2 4 (fun r4 m3 => ((xs2.length : Int) ≤ 9223372036854775807 → I64 (5 + r4)) ∧ spec_l12Rd_pick.E r_b m3 3 (fun r5 m4 => ((0 : Int) ≤ r3 ∧ (r3 : Int) ≤ (xs2.length : Int) ∧ (xs2.length : Int) ≤ (xs2.length : Int)) ∧ (([] : List Pt).length + ((xs2.drop r3.toNat).take ((xs2.length : Int).toNat - r3.toNat)).length ≤ 268435456) ∧ spec_l12Rd_pick.E r_b m4 3 (fun r6 m5 => (if r6 == 0 then ((0 : Int) ≤ r3 ∧ r3 ≤ (xs2.length : Int)) ∧ ((xs2.take r3.toNat).length + ([(⟨5 + r4, r5⟩ : Pt)] : List Pt).length ≤ 268435456) ∧ (((xs2.take r3.toNat) ++ ([(⟨5 + r4, r5⟩ : Pt)] : List Pt)).length + (([] : List Pt) ++ ((xs2.drop r3.toNat).take ((xs2.length : Int).toNat - r3.toNat))).length ≤ 268435456) ∧ ((xs2.length : Int) ≤ 9223372036854775807 → I64 (i2 - 1)) ∧ I66 (((xs2.take r3.toNat) ++ ([(⟨5 + r4, r5⟩ : Pt)] : List Pt)) ++ (([] : List Pt) ++ ((xs2.drop r3.toNat).take ((xs2.length : Int).toNat - r3.toNat)))) (i2 - 1) m5 ∧ mu67 (((xs2.take r3.toNat) ++ ([(⟨5 + r4, r5⟩ : Pt)] : List Pt)) ++ (([] : List Pt) ++ ((xs2.drop r3.toNat).take ((xs2.length : Int).toNat - r3.toNat)))) (i2 - 1) m5 < mu67 xs2 i2 z2 else (if r6 == 1 then ((0 : Int) ≤ r3 ∧ r3 ≤ (xs2.length : Int)) ∧ ((0 : Int) ≤ (spec_l1Min.m 1 ((([] : List Pt) ++ ((xs2.drop r3.toNat).take ((xs2.length : Int).toNat - r3.toNat))).length : Int)) ∧ ((spec_l1Min.m 1 ((([] : List Pt) ++ ((xs2.drop r3.toNat).take ((xs2.length : Int).toNat - r3.toNat))).length : Int)) : Int) ≤ ((([] : List Pt) ++ ((xs2.drop r3.toNat).take ((xs2.length : Int).toNat - r3.toNat))).length : Int) ∧ ((([] : List Pt) ++ ((xs2.drop r3.toNat).take ((xs2.length : Int).toNat - r3.toNat))).length : Int) ≤ ((([] : List Pt) ++ ((xs2.drop r3.toNat).take ((xs2.length : Int).toNat - r3.toNat))).length : Int)) ∧ ((xs2.take r3.toNat).length + (((([] : List Pt) ++ ((xs2.drop r3.toNat).take ((xs2.length : Int).toNat - r3.toNat))).drop (spec_l1Min.m 1 ((([] : List Pt) ++ ((xs2.drop r3.toNat).take ((xs2.length : Int).toNat - r3.toNat))).length : Int)).toNat).take (((([] : List Pt) ++ ((xs2.drop r3.toNat).take ((xs2.length : Int).toNat - r3.toNat))).length : Int).toNat - (spec_l1Min.m 1 ((([] : List Pt) ++ ((xs2.drop r3.toNat).take ((xs2.length : Int).toNat - r3.toNat))).length : Int)).toNat)).length ≤ 268435456) ∧ ((xs2.length : Int) ≤ 9223372036854775807 → ((([] : List Pt) ++ ((xs2.drop r3.toNat).take ((xs2.length : Int).toNat - r3.toNat))).length : Int) ≤ 9223372036854775807 → I64 (i2 - 1)) ∧ I66 ((xs2.take r3.toNat) ++ (((([] : List Pt) ++ ((xs2.drop r3.toNat).take ((xs2.length : Int).toNat - r3.toNat))).drop (spec_l1Min.m 1 ((([] : List Pt) ++ ((xs2.drop r3.toNat).take ((xs2.length : Int).toNat - r3.toNat))).length : Int)).toNat).take (((([] : List Pt) ++ ((xs2.drop r3.toNat).take ((xs2.length : Int).toNat - r3.toNat))).length : Int).toNat - (spec_l1Min.m 1 ((([] : List Pt) ++ ((xs2.drop r3.toNat).take ((xs2.length : Int).toNat - r3.toNat))).length : Int)).toNat))) (i2 - 1) m5 ∧ mu67 ((xs2.take r3.toNat) ++ (((([] : List Pt) ++ ((xs2.drop r3.toNat).take ((xs2.length : Int).toNat - r3.toNat))).drop (spec_l1Min.m 1 ((([] : List Pt) ++ ((xs2.drop r3.toNat).take ((xs2.length : Int).toNat - r3.toNat))).length : Int)).toNat).take (((([] : List Pt) ++ ((xs2.drop r3.toNat).take ((xs2.length : Int).toNat - r3.toNat))).length : Int).toNat - (spec_l1Min.m 1 ((([] : List Pt) ++ ((xs2.drop r3.toNat).take ((xs2.length : Int).toNat - r3.toNat))).length : Int)).toNat))) (i2 - 1) m5 < mu67 xs2 i2 z2 else (if decide (((([] : List Pt) ++ ((xs2.drop r3.toNat).take ((xs2.length : Int).toNat - r3.toNat))).length : Int) > 0) then ((0 : Int) ≤ 0 ∧ 0 < ((([] : List Pt) ++ ((xs2.drop r3.toNat).take ((xs2.length : Int).toNat - r3.toNat))).length : Int)) ∧ ((0 : Int) ≤ r3 ∧ r3 ≤ (xs2.length : Int)) ∧ ((xs2.take r3.toNat).length + ((([] : List Pt) ++ ((xs2.drop r3.toNat).take ((xs2.length : Int).toNat - r3.toNat))).set (0 : Int).toNat (⟨5 + r4, r5⟩ : Pt)).length ≤ 268435456) ∧ ((xs2.length : Int) ≤ 9223372036854775807 → ((([] : List Pt) ++ ((xs2.drop r3.toNat).take ((xs2.length : Int).toNat - r3.toNat))).length : Int) ≤ 9223372036854775807 → I64 (i2 - 1)) ∧ I66 ((xs2.take r3.toNat) ++ ((([] : List Pt) ++ ((xs2.drop r3.toNat).take ((xs2.length : Int).toNat - r3.toNat))).set (0 : Int).toNat (⟨5 + r4, r5⟩ : Pt))) (i2 - 1) m5 ∧ mu67 ((xs2.take r3.toNat) ++ ((([] : List Pt) ++ ((xs2.drop r3.toNat).take ((xs2.length : Int).toNat - r3.toNat))).set (0 : Int).toNat (⟨5 + r4, r5⟩ : Pt))) (i2 - 1) m5 < mu67 xs2 i2 z2 else ((0 : Int) ≤ r3 ∧ r3 ≤ (xs2.length : Int)) ∧ ((xs2.take r3.toNat).length + (([] : List Pt) ++ ((xs2.drop r3.toNat).take ((xs2.length : Int).toNat - r3.toNat))).length ≤ 268435456) ∧ ((xs2.length : Int) ≤ 9223372036854775807 → ((([] : List Pt) ++ ((xs2.drop r3.toNat).take ((xs2.length : Int).toNat - r3.toNat))).length : Int) ≤ 9223372036854775807 → I64 (i2 - 1)) ∧ I66 ((xs2.take r3.toNat) ++ (([] : List Pt) ++ ((xs2.drop r3.toNat).take ((xs2.length : Int).toNat - r3.toNat)))) (i2 - 1) m5 ∧ mu67 ((xs2.take r3.toNat) ++ (([] : List Pt) ++ ((xs2.drop r3.toNat).take ((xs2.length : Int).toNat - r3.toNat)))) (i2 - 1) m5 < mu67 xs2 i2 z2))))))) else Q xs2 z2)))
set_option maxHeartbeats 8000000 in
set_option maxRecDepth 100000 in
theorem spec_l5Near.calls {O : Ob} (w0 : World) (hO : Ok w0 O) (b : Nat) (r_b : List UInt8) (A2 : Option Addr) (n3 c4 : Nat) (r_p : Int) (hp5 : Sl Kd.byte w0 (Fr O) (.slice A2 n3 c4) r_b) (hp0 : Bx w0 b [.slice A2 n3 c4, vi r_p]) (hm : some b ∈ O) (s : List Pt) (A7 : Option Addr) (n8 c9 : Nat) (hp10 : Sl kPt w0 (Fr O) (.slice A7 n8 c9) s) (Q : List Pt → Int → Prop) (h : spec_l5Near.E r_b r_p s Q) :
    Ret Try.prog 58 [.pointer (some ⟨b, 0, none⟩), .slice A7 n8 c9] w0 (fun v w' => ∃ (r0 : List Pt) (m0 : Int) (A0 : Option Addr) (n0 c0 : Nat), v = .slice A0 n0 c0 ∧ Q r0 m0 ∧ Gr w0 w' (some b) ∧ Bx w' b [.slice A2 n3 c4, vi m0] ∧ Ok w' ([blk (.slice A0 n0 c0)] ++ O) ∧ (∀ b, some b ∈ [blk (.slice A0 n0 c0)] → w0.heap.size ≤ b) ∧ Ow kPt 41 w' ([blk (.slice A0 n0 c0)] ++ O) (.slice A0 n0 c0) r0) := by
  have H : (([] : List Pt).length + s.length ≤ 268435456) ∧ spec_l12Rd_pick.E r_b r_p 2 (fun r2 m => (I64 (1 + r2)) ∧ (∃ (I66 : (List Pt) → Int → Int → Prop) (mu67 : (List Pt) → Int → Int → Nat), I66 (([] : List Pt) ++ s) (1 + r2) m ∧ ∀ (xs2 : List Pt) (i2 : Int) (z2 : Int), I66 xs2 i2 z2 → (if decide (i2 > 0) then ((xs2.length : Int) ≤ 9223372036854775807 → I64 ((xs2.length : Int) + 1)) ∧ spec_l12Rd_pick.E r_b z2 ((xs2.length : Int) + 1) (fun r3 m2 => spec_l12Rd_pick.E r_b m2 4 (fun r4 m3 => ((xs2.length : Int) ≤ 9223372036854775807 → I64 (5 + r4)) ∧ spec_l12Rd_pick.E r_b m3 3 (fun r5 m4 => ((0 : Int) ≤ r3 ∧ (r3 : Int) ≤ (xs2.length : Int) ∧ (xs2.length : Int) ≤ (xs2.length : Int)) ∧ (([] : List Pt).length + ((xs2.drop r3.toNat).take ((xs2.length : Int).toNat - r3.toNat)).length ≤ 268435456) ∧ spec_l12Rd_pick.E r_b m4 3 (fun r6 m5 => (if r6 == 0 then ((0 : Int) ≤ r3 ∧ r3 ≤ (xs2.length : Int)) ∧ ((xs2.take r3.toNat).length + ([(⟨5 + r4, r5⟩ : Pt)] : List Pt).length ≤ 268435456) ∧ (((xs2.take r3.toNat) ++ ([(⟨5 + r4, r5⟩ : Pt)] : List Pt)).length + (([] : List Pt) ++ ((xs2.drop r3.toNat).take ((xs2.length : Int).toNat - r3.toNat))).length ≤ 268435456) ∧ ((xs2.length : Int) ≤ 9223372036854775807 → I64 (i2 - 1)) ∧ I66 (((xs2.take r3.toNat) ++ ([(⟨5 + r4, r5⟩ : Pt)] : List Pt)) ++ (([] : List Pt) ++ ((xs2.drop r3.toNat).take ((xs2.length : Int).toNat - r3.toNat)))) (i2 - 1) m5 ∧ mu67 (((xs2.take r3.toNat) ++ ([(⟨5 + r4, r5⟩ : Pt)] : List Pt)) ++ (([] : List Pt) ++ ((xs2.drop r3.toNat).take ((xs2.length : Int).toNat - r3.toNat)))) (i2 - 1) m5 < mu67 xs2 i2 z2 else (if r6 == 1 then ((0 : Int) ≤ r3 ∧ r3 ≤ (xs2.length : Int)) ∧ ((0 : Int) ≤ (spec_l1Min.m 1 ((([] : List Pt) ++ ((xs2.drop r3.toNat).take ((xs2.length : Int).toNat - r3.toNat))).length : Int)) ∧ ((spec_l1Min.m 1 ((([] : List Pt) ++ ((xs2.drop r3.toNat).take ((xs2.length : Int).toNat - r3.toNat))).length : Int)) : Int) ≤ ((([] : List Pt) ++ ((xs2.drop r3.toNat).take ((xs2.length : Int).toNat - r3.toNat))).length : Int) ∧ ((([] : List Pt) ++ ((xs2.drop r3.toNat).take ((xs2.length : Int).toNat - r3.toNat))).length : Int) ≤ ((([] : List Pt) ++ ((xs2.drop r3.toNat).take ((xs2.length : Int).toNat - r3.toNat))).length : Int)) ∧ ((xs2.take r3.toNat).length + (((([] : List Pt) ++ ((xs2.drop r3.toNat).take ((xs2.length : Int).toNat - r3.toNat))).drop (spec_l1Min.m 1 ((([] : List Pt) ++ ((xs2.drop r3.toNat).take ((xs2.length : Int).toNat - r3.toNat))).length : Int)).toNat).take (((([] : List Pt) ++ ((xs2.drop r3.toNat).take ((xs2.length : Int).toNat - r3.toNat))).length : Int).toNat - (spec_l1Min.m 1 ((([] : List Pt) ++ ((xs2.drop r3.toNat).take ((xs2.length : Int).toNat - r3.toNat))).length : Int)).toNat)).length ≤ 268435456) ∧ ((xs2.length : Int) ≤ 9223372036854775807 → ((([] : List Pt) ++ ((xs2.drop r3.toNat).take ((xs2.length : Int).toNat - r3.toNat))).length : Int) ≤ 9223372036854775807 → I64 (i2 - 1)) ∧ I66 ((xs2.take r3.toNat) ++ (((([] : List Pt) ++ ((xs2.drop r3.toNat).take ((xs2.length : Int).toNat - r3.toNat))).drop (spec_l1Min.m 1 ((([] : List Pt) ++ ((xs2.drop r3.toNat).take ((xs2.length : Int).toNat - r3.toNat))).length : Int)).toNat).take (((([] : List Pt) ++ ((xs2.drop r3.toNat).take ((xs2.length : Int).toNat - r3.toNat))).length : Int).toNat - (spec_l1Min.m 1 ((([] : List Pt) ++ ((xs2.drop r3.toNat).take ((xs2.length : Int).toNat - r3.toNat))).length : Int)).toNat))) (i2 - 1) m5 ∧ mu67 ((xs2.take r3.toNat) ++ (((([] : List Pt) ++ ((xs2.drop r3.toNat).take ((xs2.length : Int).toNat - r3.toNat))).drop (spec_l1Min.m 1 ((([] : List Pt) ++ ((xs2.drop r3.toNat).take ((xs2.length : Int).toNat - r3.toNat))).length : Int)).toNat).take (((([] : List Pt) ++ ((xs2.drop r3.toNat).take ((xs2.length : Int).toNat - r3.toNat))).length : Int).toNat - (spec_l1Min.m 1 ((([] : List Pt) ++ ((xs2.drop r3.toNat).take ((xs2.length : Int).toNat - r3.toNat))).length : Int)).toNat))) (i2 - 1) m5 < mu67 xs2 i2 z2 else (if decide (((([] : List Pt) ++ ((xs2.drop r3.toNat).take ((xs2.length : Int).toNat - r3.toNat))).length : Int) > 0) then ((0 : Int) ≤ 0 ∧ 0 < ((([] : List Pt) ++ ((xs2.drop r3.toNat).take ((xs2.length : Int).toNat - r3.toNat))).length : Int)) ∧ ((0 : Int) ≤ r3 ∧ r3 ≤ (xs2.length : Int)) ∧ ((xs2.take r3.toNat).length + ((([] : List Pt) ++ ((xs2.drop r3.toNat).take ((xs2.length : Int).toNat - r3.toNat))).set (0 : Int).toNat (⟨5 + r4, r5⟩ : Pt)).length ≤ 268435456) ∧ ((xs2.length : Int) ≤ 9223372036854775807 → ((([] : List Pt) ++ ((xs2.drop r3.toNat).take ((xs2.length : Int).toNat - r3.toNat))).length : Int) ≤ 9223372036854775807 → I64 (i2 - 1)) ∧ I66 ((xs2.take r3.toNat) ++ ((([] : List Pt) ++ ((xs2.drop r3.toNat).take ((xs2.length : Int).toNat - r3.toNat))).set (0 : Int).toNat (⟨5 + r4, r5⟩ : Pt))) (i2 - 1) m5 ∧ mu67 ((xs2.take r3.toNat) ++ ((([] : List Pt) ++ ((xs2.drop r3.toNat).take ((xs2.length : Int).toNat - r3.toNat))).set (0 : Int).toNat (⟨5 + r4, r5⟩ : Pt))) (i2 - 1) m5 < mu67 xs2 i2 z2 else ((0 : Int) ≤ r3 ∧ r3 ≤ (xs2.length : Int)) ∧ ((xs2.take r3.toNat).length + (([] : List Pt) ++ ((xs2.drop r3.toNat).take ((xs2.length : Int).toNat - r3.toNat))).length ≤ 268435456) ∧ ((xs2.length : Int) ≤ 9223372036854775807 → ((([] : List Pt) ++ ((xs2.drop r3.toNat).take ((xs2.length : Int).toNat - r3.toNat))).length : Int) ≤ 9223372036854775807 → I64 (i2 - 1)) ∧ I66 ((xs2.take r3.toNat) ++ (([] : List Pt) ++ ((xs2.drop r3.toNat).take ((xs2.length : Int).toNat - r3.toNat)))) (i2 - 1) m5 ∧ mu67 ((xs2.take r3.toNat) ++ (([] : List Pt) ++ ((xs2.drop r3.toNat).take ((xs2.length : Int).toNat - r3.toNat)))) (i2 - 1) m5 < mu67 xs2 i2 z2))))))) else Q xs2 z2))) := h
  clear h
  have hc0 := Ct.initm (m := some b) hO (by intro b e; cases e; exact hm)
  refine Ret_enter Try.func58 rfl 71 rfl [.tmp 4] rfl rfl ?_
  refine W_seq ?_
  refine W_reg ?_
  refine L_pu (P_assign (.slice none 0 0) rfl) ?_
  refine L_nil ?_
  refine W_seq ?_
  refine W_reg ?_
  refine L_lit (kd := kPt) ei33 hc0 ([] : List Pt) (cells := []) rfl (fun _ => by kernel_rfl) fun w12 A13 n14 c15 g16 hr17 hc18 h19 => ?_
  refine L_pu (P_move (.slice A7 n8 c9) rfl) ?_
  obtain ⟨hb21, H⟩ := H
  refine L_app ei33 hc18 (.slice A13 n14 c15) ([] : List Pt) s rfl h19 (.slice A7 n8 c9) rfl (hp10.st hc18.st).sx 0 rfl hb21 fun w22 A23 n24 c25 g26 s27 hc28 h29 => ?_
  refine L_pu (P_assign (.slice A23 n24 c25) rfl) ?_
  refine L_nil ?_
  refine W_seq ?_
  refine W_seq ?_
  refine W_reg ?_
  refine L_pu (P_move (.pointer (some ⟨b, 0, none⟩)) rfl) ?_
  have h31 := (Bx.mo (L := [blk (.slice A13 n14 c15)]) (O := O) (hp0.k0 g16) hc18 (j := 0) rfl g26)
  refine L_call go57 [.pointer (some ⟨b, 0, none⟩), vi 2] rfl ((spec_l12Rd_pick.calls w22 hc28.ok b r_b A2 n3 c4 r_p (hp5.st hc28.st) h31 (List.mem_append_right _ hm) 2 _ H).mono ?_)
  rintro _ w32 ⟨r2, m, rfl, H, g33, hx34⟩
  have hc37 := hc28.wm g33
  obtain ⟨hb38, H⟩ := H
  refine L_pu (P_add 1 r2 rfl rfl hb38) ?_
  refine L_pu (P_assign (vi (1 + r2)) rfl) ?_
  refine L_nil ?_
  refine W_block ?_
  obtain ⟨I66, mu67, hI68, H⟩ := H
  have h70 := (Ow.swm (L := [blk (.slice A23 n24 c25)]) (O := O) h29 hc28 (i := 0) rfl g33)
  refine W_loop (α := (List Pt) × (Option Addr) × Nat × Nat × Int × Int) (fun (sv__ : (List Pt) × (Option Addr) × Nat × Nat × Int × Int) t w56 => match sv__ with | (xs2, A57, n58, c59, i2, z2) => I66 xs2 i2 z2 ∧ Has t [(0, .pointer (some ⟨b, 0, none⟩)), (5, .slice A57 n58 c59), (6, vi i2)] ∧ Ct (some b) w0 w56 [blk (.slice A57 n58 c59)] O ∧ Sl Kd.byte w56 (Fr ([blk (.slice A57 n58 c59)] ++ O)) (.slice A2 n3 c4) r_b ∧ Ow kPt 41 w56 ([blk (.slice A57 n58 c59)] ++ O) (.slice A57 n58 c59) xs2 ∧ Bx w56 b [.slice A2 n3 c4, vi z2]) (fun (sv__ : (List Pt) × (Option Addr) × Nat × Nat × Int × Int) => match sv__ with | (xs2, _, _, _, i2, z2) => mu67 xs2 i2 z2) ((([] : List Pt) ++ s), A23, n24, c25, 1 + r2, m) ⟨hI68, ⟨rfl, rfl, rfl, trivial⟩, hc37, (hp5.st hc37.st), h70, hx34⟩ ?_
  rintro ⟨xs2, A57, n58, c59, i2, z2⟩ _ w56 ⟨hI68, hh71, hc62, h63, h64, h65⟩
  obtain ⟨u72, rfl⟩ := Has.ins hh71
  have H := H xs2 i2 z2 hI68
  refine W_seq ?_
  refine W_seq ?_
  refine W_reg ?_
  refine L_pu (P_move (vi i2) rfl) ?_
  refine L_pu (P_cmp i2 0 (decide (i2 > 0)) rfl rfl rfl) ?_
  refine L_nil ?_
  refine W_cond (decide (i2 > 0)) rfl (fun hq73 => ?_) (fun hq73 => ?_)
  · have H := ite_t H hq73
    refine W_skip ?_
    refine W_seq ?_
    refine W_block ?_
    refine W_seq ?_
    refine W_reg ?_
    refine L_pu (P_move (.pointer (some ⟨b, 0, none⟩)) rfl) ?_
    refine L_pu (P_move (.slice A57 n58 c59) rfl) ?_
    have hl74 := h64.le
    refine L_pu (P_len Try.underlying33 A57 n58 c59 h64.len rfl) ?_
    obtain ⟨hb75, H⟩ := H
    have hi76 := hb75 (len_le hl74)
    refine L_pu (P_add (xs2.length : Int) 1 rfl rfl hi76) ?_
    refine L_call go57 [.pointer (some ⟨b, 0, none⟩), vi ((xs2.length : Int) + 1)] rfl ((spec_l12Rd_pick.calls w56 hc62.ok b r_b A2 n3 c4 z2 h63 h65 (List.mem_append_right _ hm) ((xs2.length : Int) + 1) _ H).mono ?_)
    rintro _ w77 ⟨r3, m2, rfl, H, g78, hx79⟩
    have hc82 := hc62.wm g78
    refine L_pu (P_assign (vi r3) rfl) ?_
    refine L_nil ?_
    refine W_seq ?_
    refine W_reg ?_
    refine L_pu (P_move (.pointer (some ⟨b, 0, none⟩)) rfl) ?_
    have h83 := (h63.st (.wm (L := [blk (.slice A57 n58 c59)]) (O := O) hc62 g78))
    refine L_call go57 [.pointer (some ⟨b, 0, none⟩), vi 4] rfl ((spec_l12Rd_pick.calls w77 hc82.ok b r_b A2 n3 c4 m2 h83 hx79 (List.mem_append_right _ hm) 4 _ H).mono ?_)
    rintro _ w84 ⟨r4, m3, rfl, H, g85, hx86⟩
    have hc89 := hc82.wm g85
    obtain ⟨hb90, H⟩ := H
    have hi91 := hb90 (len_le hl74)
    refine L_pu (P_add 5 r4 rfl rfl hi91) ?_
    refine L_pu (P_move (.pointer (some ⟨b, 0, none⟩)) rfl) ?_
    have h92 := (h83.st (.wm (L := [blk (.slice A57 n58 c59)]) (O := O) hc82 g85))
    refine L_call go57 [.pointer (some ⟨b, 0, none⟩), vi 3] rfl ((spec_l12Rd_pick.calls w84 hc89.ok b r_b A2 n3 c4 m3 h92 hx86 (List.mem_append_right _ hm) 3 _ H).mono ?_)
    rintro _ w93 ⟨r5, m4, rfl, H, g94, hx95⟩
    have hc98 := hc89.wm g94
    refine L_pu (P_build (.agg #[vi (5 + r4), vi r5]) (fun _ => by kernel_rfl)) ?_
    refine L_alloc [.int .i64 0, .int .i64 0] ze41 fun w99 b100 hl102 hu103 g101 hx104 => ?_
    have hc106 := hc98.own g101 (some b100) (oglt hl102 hu103)
    refine L_stb b100 0 [vi 0, vi 0] [vi (5 + r4), vi r5] [vi (5 + r4), vi r5] rfl hx104 rfl sz41 rfl rfl rfl fun w107 g108 hx109 => ?_
    have hc110 := hc106.wr 0 rfl g108
    refine L_nil ?_
    refine W_seq ?_
    refine W_reg ?_
    refine L_lit (kd := kPt) ei33 hc110 ([] : List Pt) (cells := []) rfl (fun _ => by kernel_rfl) fun w111 A112 n113 c114 g115 hr116 hc117 h118 => ?_
    refine L_pu (P_move (.slice A57 n58 c59) rfl) ?_
    refine L_pu (P_move (vi r3) rfl) ?_
    have h120 := ((Ow.sw (L := [some b100, blk (.slice A57 n58 c59)]) (O := O) ((Ow.swm (L := [blk (.slice A57 n58 c59)]) (O := O) (Ow.swm (L := [blk (.slice A57 n58 c59)]) (O := O) (Ow.swm (L := [blk (.slice A57 n58 c59)]) (O := O) h64 hc62 (i := 0) rfl g78) hc82 (i := 0) rfl g85) hc89 (i := 0) rfl g94).so _ g101 (oge hl102)) hc106 (i := 1) rfl (j := 0) rfl (by decide) g108).so _ g115 hr116)
    obtain ⟨hb121, H⟩ := H
    refine L_pu (P_cutx Try.underlying33 se33 A57 n58 c59 rfl h120 r3 (xs2.length : Int) rfl (bd_none h120.len) hb121) ?_
    obtain ⟨hb122, H⟩ := H
    refine L_app ei33 hc117 (.slice A112 n113 c114) ([] : List Pt) ((xs2.drop r3.toNat).take ((xs2.length : Int).toNat - r3.toNat)) rfl h118 (sliced A57 r3.toNat (xs2.length : Int).toNat c59 2) rfl (h120.sx.cut r3 (xs2.length : Int) hb121) 0 rfl hb122 fun w123 A124 n125 c126 g127 s128 hc129 h130 => ?_
    refine L_pu (P_assign (.slice A124 n125 c126) rfl) ?_
    refine L_nil ?_
    refine W_seq ?_
    refine W_reg ?_
    refine L_pu (P_move (.pointer (some ⟨b, 0, none⟩)) rfl) ?_
    have h132 := (((((h92.st (.wm (L := [blk (.slice A57 n58 c59)]) (O := O) hc89 g94)).st (.own _ _ g101 (oge hl102))).st (.wl (L := [some b100, blk (.slice A57 n58 c59)]) (O := O) (j := 0) rfl g108)).st (.own _ _ g115 hr116)).st s128)
    have h133 := (Bx.mo (L := [blk (.slice A112 n113 c114), some b100, blk (.slice A57 n58 c59)]) (O := O) ((Bx.mo (L := [some b100, blk (.slice A57 n58 c59)]) (O := O) (hx95.k0 g101) hc106 (j := 0) rfl g108).k0 g115) hc117 (j := 0) rfl g127)
    refine L_call go57 [.pointer (some ⟨b, 0, none⟩), vi 3] rfl ((spec_l12Rd_pick.calls w123 hc129.ok b r_b A2 n3 c4 m4 h132 h133 (List.mem_append_right _ hm) 3 _ H).mono ?_)
    rintro _ w134 ⟨r6, m5, rfl, H, g135, hx136⟩
    have hc139 := hc129.wm g135
    refine L_nil ?_
    refine W_block ?_
    refine W_seq ?_
    refine W_reg ?_
    refine L_pu (P_cmp r6 0 (r6 == 0) rfl rfl rfl) ?_
    refine L_pu (P_assign (vb (r6 == 0)) rfl) ?_
    refine L_nil ?_
    refine W_cond (r6 == 0) rfl (fun hq140 => ?_) (fun hq140 => ?_)
    · have H := ite_t H hq140
      refine W_mixr 9 (blk (.slice A57 n58 c59)) (by kernel_rfl) rfl fun w141 g142 hM143 => ?_
      have hc144 := hc139.k0 g142
      refine M_pu 0 rfl (by kernel_rfl) hM143 (P_move (.slice A57 n58 c59) rfl) ?_
      refine M_pu 1 rfl (by kernel_rfl) hM143 (P_move (vi r3) rfl) ?_
      have h145 := ((Ow.swm (L := [blk (.slice A124 n125 c126), some b100, blk (.slice A57 n58 c59)]) (O := O) (Ow.sm (L := [blk (.slice A112 n113 c114), some b100, blk (.slice A57 n58 c59)]) (O := O) h120 hc117 (i := 2) rfl (j := 0) rfl (by decide) g127 s128) hc129 (i := 2) rfl g135).sn g142)
      obtain ⟨hb146, H⟩ := H
      refine M_cuto 2 rfl (by kernel_rfl) hM143 Try.underlying33 se33 A57 n58 c59 xs2 rfl h145 r3 rfl rfl hb146 fun n147 h148 => ?_
      have h150 := ((Bx.swm (L := [blk (.slice A124 n125 c126), some b100, blk (.slice A57 n58 c59)]) (O := O) (Bx.sm (L := [blk (.slice A112 n113 c114), some b100, blk (.slice A57 n58 c59)]) (O := O) (hx109.k0 g115) hc117 (i := 1) rfl (j := 0) rfl (by decide) g127) hc129 (i := 1) rfl g135).k0 g142)
      refine M_pu 3 rfl (by kernel_rfl) hM143 (P_ldar ag41 sz41 cR ⟨b100, 0, none⟩ [vi (5 + r4), vi r5] rfl rfl (h150.cells (off := 0) rfl) (bx_ne hc144 (j := 1) (i := 2) rfl rfl (by decide))) ?_
      refine M_pu 6 rfl (by kernel_rfl) hM143 (P_move (.slice A124 n125 c126) rfl) ?_
      refine M_any1 4 (by kernel_rfl) rfl ?_
      refine L_lit (kd := kPt) ei33 hc144 ([(⟨5 + r4, r5⟩ : Pt)] : List Pt) (cells := [vi (5 + r4), vi r5]) ⟨[vi (5 + r4), vi r5], _, rfl, (kPt.mk _ _ (⟨5 + r4, r5⟩ : Pt)), rfl⟩ (fun _ => by kernel_rfl) fun w151 A152 n153 c154 g155 hr156 hc157 h158 => ?_
      have hM160 := Gr.tm hM143 g155
      refine L_nil ⟨hM160, ?_⟩
      refine M_any1 5 (by kernel_rfl) rfl ?_
      obtain ⟨hb161, H⟩ := H
      have h162 := (h148.so _ g155 hr156)
      refine L_app ei33 hc157 (.slice A57 n147 c59) (xs2.take r3.toNat) ([(⟨5 + r4, r5⟩ : Pt)] : List Pt) rfl h162 (.slice A152 n153 c154) rfl h158.sx 3 rfl hb161 fun w163 A164 n165 c166 g167 s168 hc169 h170 => ?_
      have hM171 := Gr.tq hM160 g167 hv_self
      have hv172 := hv_app (L := [blk (.slice A152 n153 c154), blk (.slice A124 n125 c126), some b100, blk (.slice A57 n147 c59)]) (O := O) (i := 3) hM160 rfl hv_self s168 hc169
      refine L_nil ⟨hM171, ?_⟩
      refine M_any1 7 (by kernel_rfl) rfl ?_
      have h174 := (Ow.sm (L := [blk (.slice A152 n153 c154), blk (.slice A124 n125 c126), some b100, blk (.slice A57 n147 c59)]) (O := O) (((Ow.swm (L := [blk (.slice A124 n125 c126), some b100, blk (.slice A57 n58 c59)]) (O := O) h130 hc129 (i := 0) rfl g135).sn g142).so _ g155 hr156) hc157 (i := 1) rfl (j := 3) rfl (by decide) g167 s168)
      obtain ⟨hb175, H⟩ := H
      refine L_app ei33 hc169 (.slice A164 n165 c166) ((xs2.take r3.toNat) ++ ([(⟨5 + r4, r5⟩ : Pt)] : List Pt)) (([] : List Pt) ++ ((xs2.drop r3.toNat).take ((xs2.length : Int).toNat - r3.toNat))) rfl h170 (.slice A124 n125 c126) rfl h174.sx 3 rfl hb175 fun w176 A177 n178 c179 g180 s181 hc182 h183 => ?_
      have hM184 := Gr.tq hM171 g180 hv172
      have hv185 := hv_app (L := [blk (.slice A152 n153 c154), blk (.slice A124 n125 c126), some b100, blk (.slice A164 n165 c166)]) (O := O) (i := 3) hM171 rfl hv172 s181 hc182
      refine L_nil ⟨hM184, ?_⟩
      refine M_pu 8 rfl (by kernel_rfl) hM184 (P_assign (.slice A177 n178 c179) rfl) ?_
      refine M_nil (by kernel_rfl) ?_
      refine W_reg ?_
      refine L_pu (P_move (vi i2) rfl) ?_
      obtain ⟨hb187, H⟩ := H
      have hi188 := hb187 (len_le hl74)
      refine L_pu (P_sub i2 1 rfl rfl hi188) ?_
      refine L_pu (P_assign (vi (i2 - 1)) rfl) ?_
      refine L_nil ?_
      have hc189 := hc182.drop 0 rfl
      have hc190 := hc189.drop 0 rfl
      have hc191 := hc190.drop 0 rfl
      obtain ⟨hI192, hm193⟩ := H
      have h194 := ((((((((h132.st (.wm (L := [blk (.slice A124 n125 c126), some b100, blk (.slice A57 n58 c59)]) (O := O) hc129 g135)).st (.new _ g142)).st (.own _ _ g155 hr156)).st s168).st s181).st (.dr _ (L := [blk (.slice A152 n153 c154), blk (.slice A124 n125 c126), some b100, blk (.slice A177 n178 c179)]) (O := O) (j := 0) rfl)).st (.dr _ (L := [blk (.slice A124 n125 c126), some b100, blk (.slice A177 n178 c179)]) (O := O) (j := 0) rfl)).st (.dr _ (L := [some b100, blk (.slice A177 n178 c179)]) (O := O) (j := 0) rfl))
      have h195 := (Ow.sd (L := [some b100, blk (.slice A177 n178 c179)]) (O := O) (Ow.sd (L := [blk (.slice A124 n125 c126), some b100, blk (.slice A177 n178 c179)]) (O := O) (Ow.sd (L := [blk (.slice A152 n153 c154), blk (.slice A124 n125 c126), some b100, blk (.slice A177 n178 c179)]) (O := O) h183 (i := 3) rfl (j := 0) rfl (by decide)) (i := 2) rfl (j := 0) rfl (by decide)) (i := 1) rfl (j := 0) rfl (by decide))
      have h196 := (Bx.mo (L := [blk (.slice A152 n153 c154), blk (.slice A124 n125 c126), some b100, blk (.slice A164 n165 c166)]) (O := O) (Bx.mo (L := [blk (.slice A152 n153 c154), blk (.slice A124 n125 c126), some b100, blk (.slice A57 n147 c59)]) (O := O) ((hx136.k0 g142).k0 g155) hc157 (j := 3) rfl g167) hc169 (j := 3) rfl g180)
      exact ⟨((((xs2.take r3.toNat) ++ ([(⟨5 + r4, r5⟩ : Pt)] : List Pt)) ++ (([] : List Pt) ++ ((xs2.drop r3.toNat).take ((xs2.length : Int).toNat - r3.toNat)))), A177, n178, c179, i2 - 1, m5), hm193, hI192, ⟨rfl, rfl, rfl, trivial⟩, hc191, h194, h195, h196⟩
    · have H := ite_f H hq140
      refine W_seq ?_
      refine W_reg ?_
      refine L_pu (P_cmp r6 1 (r6 == 1) rfl rfl rfl) ?_
      refine L_pu (P_assign (vb (r6 == 1)) rfl) ?_
      refine L_nil ?_
      refine W_cond (r6 == 1) rfl (fun hq197 => ?_) (fun hq197 => ?_)
      · have H := ite_t H hq197
        refine W_tail 8 (by kernel_rfl) (by kernel_rfl) fun w198 g199 => ?_
        have hc200 := hc139.k0 g199
        refine S_pu (P_move (.slice A57 n58 c59) rfl) ?_
        refine S_pu (P_move (vi r3) rfl) ?_
        have h201 := ((Ow.swm (L := [blk (.slice A124 n125 c126), some b100, blk (.slice A57 n58 c59)]) (O := O) (Ow.sm (L := [blk (.slice A112 n113 c114), some b100, blk (.slice A57 n58 c59)]) (O := O) h120 hc117 (i := 2) rfl (j := 0) rfl (by decide) g127 s128) hc129 (i := 2) rfl g135).sn g199)
        obtain ⟨hb202, H⟩ := H
        refine S_cuto Try.underlying33 se33 A57 n58 c59 xs2 rfl h201 r3 rfl rfl hb202 fun n203 h204 => ?_
        refine S_pu (P_move (.slice A124 n125 c126) rfl) ?_
        refine S_pu (P_move (.slice A124 n125 c126) rfl) ?_
        have h206 := ((Ow.swm (L := [blk (.slice A124 n125 c126), some b100, blk (.slice A57 n58 c59)]) (O := O) h130 hc129 (i := 0) rfl g135).sn g199)
        have hl207 := h206.le
        refine S_pu (P_len Try.underlying33 A124 n125 c126 h206.len rfl) ?_
        refine S_call go62 [vi 1, vi ((([] : List Pt) ++ ((xs2.drop r3.toNat).take ((xs2.length : Int).toNat - r3.toNat))).length : Int)] rfl (vi (spec_l1Min.m 1 ((([] : List Pt) ++ ((xs2.drop r3.toNat).take ((xs2.length : Int).toNat - r3.toNat))).length : Int))) ((spec_l1Min.calls w198 hc200.ok 1 ((([] : List Pt) ++ ((xs2.drop r3.toNat).take ((xs2.length : Int).toNat - r3.toNat))).length : Int) _ (spec_l1Min.fn 1 ((([] : List Pt) ++ ((xs2.drop r3.toNat).take ((xs2.length : Int).toNat - r3.toNat))).length : Int))).mono ?_) ?_
        · rintro _ w ⟨r, rfl, rfl, _, rfl⟩
          exact ⟨rfl, rfl⟩
        obtain ⟨hb213, H⟩ := H
        refine S_pu (P_cutx Try.underlying33 se33 A124 n125 c126 rfl h206 (spec_l1Min.m 1 ((([] : List Pt) ++ ((xs2.drop r3.toNat).take ((xs2.length : Int).toNat - r3.toNat))).length : Int)) ((([] : List Pt) ++ ((xs2.drop r3.toNat).take ((xs2.length : Int).toNat - r3.toNat))).length : Int) rfl (bd_none h206.len) hb213) ?_
        refine S_nil ?_
        obtain ⟨hb214, H⟩ := H
        refine L_app ei33 hc200 (.slice A57 n203 c59) (xs2.take r3.toNat) (((([] : List Pt) ++ ((xs2.drop r3.toNat).take ((xs2.length : Int).toNat - r3.toNat))).drop (spec_l1Min.m 1 ((([] : List Pt) ++ ((xs2.drop r3.toNat).take ((xs2.length : Int).toNat - r3.toNat))).length : Int)).toNat).take (((([] : List Pt) ++ ((xs2.drop r3.toNat).take ((xs2.length : Int).toNat - r3.toNat))).length : Int).toNat - (spec_l1Min.m 1 ((([] : List Pt) ++ ((xs2.drop r3.toNat).take ((xs2.length : Int).toNat - r3.toNat))).length : Int)).toNat)) rfl h204 (sliced A124 (spec_l1Min.m 1 ((([] : List Pt) ++ ((xs2.drop r3.toNat).take ((xs2.length : Int).toNat - r3.toNat))).length : Int)).toNat ((([] : List Pt) ++ ((xs2.drop r3.toNat).take ((xs2.length : Int).toNat - r3.toNat))).length : Int).toNat c126 2) rfl (h206.sx.cut (spec_l1Min.m 1 ((([] : List Pt) ++ ((xs2.drop r3.toNat).take ((xs2.length : Int).toNat - r3.toNat))).length : Int)) ((([] : List Pt) ++ ((xs2.drop r3.toNat).take ((xs2.length : Int).toNat - r3.toNat))).length : Int) hb213) 2 rfl hb214 fun w215 A216 n217 c218 g219 s220 hc221 h222 => ?_
        refine L_pu (P_assign (.slice A216 n217 c218) rfl) ?_
        refine L_nil ?_
        refine W_reg ?_
        refine L_pu (P_move (vi i2) rfl) ?_
        obtain ⟨hb224, H⟩ := H
        have hi225 := hb224 (len_le hl74) (len_le hl207)
        refine L_pu (P_sub i2 1 rfl rfl hi225) ?_
        refine L_pu (P_assign (vi (i2 - 1)) rfl) ?_
        refine L_nil ?_
        have hc226 := hc221.drop 0 rfl
        have hc227 := hc226.drop 0 rfl
        obtain ⟨hI228, hm229⟩ := H
        have h230 := (((((h132.st (.wm (L := [blk (.slice A124 n125 c126), some b100, blk (.slice A57 n58 c59)]) (O := O) hc129 g135)).st (.new _ g199)).st s220).st (.dr _ (L := [blk (.slice A124 n125 c126), some b100, blk (.slice A216 n217 c218)]) (O := O) (j := 0) rfl)).st (.dr _ (L := [some b100, blk (.slice A216 n217 c218)]) (O := O) (j := 0) rfl))
        have h231 := (Ow.sd (L := [some b100, blk (.slice A216 n217 c218)]) (O := O) (Ow.sd (L := [blk (.slice A124 n125 c126), some b100, blk (.slice A216 n217 c218)]) (O := O) h222 (i := 2) rfl (j := 0) rfl (by decide)) (i := 1) rfl (j := 0) rfl (by decide))
        have h232 := (Bx.mo (L := [blk (.slice A124 n125 c126), some b100, blk (.slice A57 n203 c59)]) (O := O) (hx136.k0 g199) hc200 (j := 2) rfl g219)
        exact ⟨(((xs2.take r3.toNat) ++ (((([] : List Pt) ++ ((xs2.drop r3.toNat).take ((xs2.length : Int).toNat - r3.toNat))).drop (spec_l1Min.m 1 ((([] : List Pt) ++ ((xs2.drop r3.toNat).take ((xs2.length : Int).toNat - r3.toNat))).length : Int)).toNat).take (((([] : List Pt) ++ ((xs2.drop r3.toNat).take ((xs2.length : Int).toNat - r3.toNat))).length : Int).toNat - (spec_l1Min.m 1 ((([] : List Pt) ++ ((xs2.drop r3.toNat).take ((xs2.length : Int).toNat - r3.toNat))).length : Int)).toNat))), A216, n217, c218, i2 - 1, m5), hm229, hI228, ⟨rfl, rfl, rfl, trivial⟩, hc227, h230, h231, h232⟩
      · have H := ite_f H hq197
        refine W_seq ?_
        refine W_seq ?_
        refine W_reg ?_
        refine L_pu (P_move (.slice A124 n125 c126) rfl) ?_
        have h233 := (Ow.swm (L := [blk (.slice A124 n125 c126), some b100, blk (.slice A57 n58 c59)]) (O := O) h130 hc129 (i := 0) rfl g135)
        have hl234 := h233.le
        refine L_pu (P_len Try.underlying33 A124 n125 c126 h233.len rfl) ?_
        refine L_pu (P_cmp ((([] : List Pt) ++ ((xs2.drop r3.toNat).take ((xs2.length : Int).toNat - r3.toNat))).length : Int) 0 (decide (((([] : List Pt) ++ ((xs2.drop r3.toNat).take ((xs2.length : Int).toNat - r3.toNat))).length : Int) > 0)) rfl rfl rfl) ?_
        refine L_nil ?_
        refine W_cond (decide (((([] : List Pt) ++ ((xs2.drop r3.toNat).take ((xs2.length : Int).toNat - r3.toNat))).length : Int) > 0)) rfl (fun hq235 => ?_) (fun hq235 => ?_)
        · have H := ite_t H hq235
          refine W_reg ?_
          refine L_pu (P_move (.slice A124 n125 c126) rfl) ?_
          have h236 := (Bx.swm (L := [blk (.slice A124 n125 c126), some b100, blk (.slice A57 n58 c59)]) (O := O) (Bx.sm (L := [blk (.slice A112 n113 c114), some b100, blk (.slice A57 n58 c59)]) (O := O) (hx109.k0 g115) hc117 (i := 1) rfl (j := 0) rfl (by decide) g127) hc129 (i := 1) rfl g135)
          refine L_pu (P_lda ag41 sz41 cL ⟨b100, 0, none⟩ [vi (5 + r4), vi r5] rfl rfl (h236.cells (off := 0) rfl)) ?_
          obtain ⟨hb237, H⟩ := H
          obtain ⟨ad238, cs239, hA240, hR241, hcl242⟩ := h233.get default (by decide) 0 hb237
          obtain rfl := kPt.op hR241
          refine L_pu (P_ia Try.underlying33 se33 A124 ad238 n125 c126 h233.len 0 rfl hA240 rfl hb237) ?_
          refine L_ste0 A124 n125 c126 (([] : List Pt) ++ ((xs2.drop r3.toNat).take ((xs2.length : Int).toNat - r3.toNat))) h233 0 hb237 ad238 hA240 0 rfl [vi (5 + r4), vi r5] rfl sz41 rfl (⟨5 + r4, r5⟩ : Pt) [vi ((nth (([] : List Pt) ++ ((xs2.drop r3.toNat).take ((xs2.length : Int).toNat - r3.toNat))) 0).X), vi ((nth (([] : List Pt) ++ ((xs2.drop r3.toNat).take ((xs2.length : Int).toNat - r3.toNat))) 0).Y)] [vi (5 + r4), vi r5] hcl242 rfl rfl (kPt.mk _ _ (⟨5 + r4, r5⟩ : Pt)) fun w244 g245 h246 => ?_
          have hc247 := hc139.wr 0 rfl g245
          refine L_nil ?_
          refine W_reg ?_
          refine L_pu (P_move (.slice A57 n58 c59) rfl) ?_
          refine L_pu (P_move (vi r3) rfl) ?_
          have h248 := (Ow.sw (L := [blk (.slice A124 n125 c126), some b100, blk (.slice A57 n58 c59)]) (O := O) (Ow.swm (L := [blk (.slice A124 n125 c126), some b100, blk (.slice A57 n58 c59)]) (O := O) (Ow.sm (L := [blk (.slice A112 n113 c114), some b100, blk (.slice A57 n58 c59)]) (O := O) h120 hc117 (i := 2) rfl (j := 0) rfl (by decide) g127 s128) hc129 (i := 2) rfl g135) hc139 (i := 2) rfl (j := 0) rfl (by decide) g245)
          obtain ⟨hb249, H⟩ := H
          refine L_cuto Try.underlying33 se33 A57 n58 c59 xs2 rfl h248 r3 rfl rfl hb249 fun n250 h251 => ?_
          refine L_pu (P_move (.slice A124 n125 c126) rfl) ?_
          obtain ⟨hb253, H⟩ := H
          refine L_app ei33 hc247 (.slice A57 n250 c59) (xs2.take r3.toNat) ((([] : List Pt) ++ ((xs2.drop r3.toNat).take ((xs2.length : Int).toNat - r3.toNat))).set (0 : Int).toNat (⟨5 + r4, r5⟩ : Pt)) rfl h251 (.slice A124 n125 c126) rfl h246.sx 2 rfl hb253 fun w254 A255 n256 c257 g258 s259 hc260 h261 => ?_
          refine L_pu (P_assign (.slice A255 n256 c257) rfl) ?_
          refine L_nil ?_
          refine W_reg ?_
          refine L_pu (P_move (vi i2) rfl) ?_
          obtain ⟨hb263, H⟩ := H
          have hi264 := hb263 (len_le hl74) (len_le hl234)
          refine L_pu (P_sub i2 1 rfl rfl hi264) ?_
          refine L_pu (P_assign (vi (i2 - 1)) rfl) ?_
          refine L_nil ?_
          have hc265 := hc260.drop 0 rfl
          have hc266 := hc265.drop 0 rfl
          obtain ⟨hI267, hm268⟩ := H
          have h269 := (((((h132.st (.wm (L := [blk (.slice A124 n125 c126), some b100, blk (.slice A57 n58 c59)]) (O := O) hc129 g135)).st (.wl (L := [blk (.slice A124 n125 c126), some b100, blk (.slice A57 n58 c59)]) (O := O) (j := 0) rfl g245)).st s259).st (.dr _ (L := [blk (.slice A124 n125 c126), some b100, blk (.slice A255 n256 c257)]) (O := O) (j := 0) rfl)).st (.dr _ (L := [some b100, blk (.slice A255 n256 c257)]) (O := O) (j := 0) rfl))
          have h270 := (Ow.sd (L := [some b100, blk (.slice A255 n256 c257)]) (O := O) (Ow.sd (L := [blk (.slice A124 n125 c126), some b100, blk (.slice A255 n256 c257)]) (O := O) h261 (i := 2) rfl (j := 0) rfl (by decide)) (i := 1) rfl (j := 0) rfl (by decide))
          have h271 := (Bx.mo (L := [blk (.slice A124 n125 c126), some b100, blk (.slice A57 n250 c59)]) (O := O) (Bx.mo (L := [blk (.slice A124 n125 c126), some b100, blk (.slice A57 n58 c59)]) (O := O) hx136 hc139 (j := 0) rfl g245) hc247 (j := 2) rfl g258)
          exact ⟨(((xs2.take r3.toNat) ++ ((([] : List Pt) ++ ((xs2.drop r3.toNat).take ((xs2.length : Int).toNat - r3.toNat))).set (0 : Int).toNat (⟨5 + r4, r5⟩ : Pt))), A255, n256, c257, i2 - 1, m5), hm268, hI267, ⟨rfl, rfl, rfl, trivial⟩, hc266, h269, h270, h271⟩
        · have H := ite_f H hq235
          refine W_skip ?_
          refine W_reg ?_
          refine L_pu (P_move (.slice A57 n58 c59) rfl) ?_
          refine L_pu (P_move (vi r3) rfl) ?_
          have h272 := (Ow.swm (L := [blk (.slice A124 n125 c126), some b100, blk (.slice A57 n58 c59)]) (O := O) (Ow.sm (L := [blk (.slice A112 n113 c114), some b100, blk (.slice A57 n58 c59)]) (O := O) h120 hc117 (i := 2) rfl (j := 0) rfl (by decide) g127 s128) hc129 (i := 2) rfl g135)
          obtain ⟨hb273, H⟩ := H
          refine L_cuto Try.underlying33 se33 A57 n58 c59 xs2 rfl h272 r3 rfl rfl hb273 fun n274 h275 => ?_
          refine L_pu (P_move (.slice A124 n125 c126) rfl) ?_
          obtain ⟨hb277, H⟩ := H
          refine L_app ei33 hc139 (.slice A57 n274 c59) (xs2.take r3.toNat) (([] : List Pt) ++ ((xs2.drop r3.toNat).take ((xs2.length : Int).toNat - r3.toNat))) rfl h275 (.slice A124 n125 c126) rfl h233.sx 2 rfl hb277 fun w278 A279 n280 c281 g282 s283 hc284 h285 => ?_
          refine L_pu (P_assign (.slice A279 n280 c281) rfl) ?_
          refine L_nil ?_
          refine W_reg ?_
          refine L_pu (P_move (vi i2) rfl) ?_
          obtain ⟨hb287, H⟩ := H
          have hi288 := hb287 (len_le hl74) (len_le hl234)
          refine L_pu (P_sub i2 1 rfl rfl hi288) ?_
          refine L_pu (P_assign (vi (i2 - 1)) rfl) ?_
          refine L_nil ?_
          have hc289 := hc284.drop 0 rfl
          have hc290 := hc289.drop 0 rfl
          obtain ⟨hI291, hm292⟩ := H
          have h293 := ((((h132.st (.wm (L := [blk (.slice A124 n125 c126), some b100, blk (.slice A57 n58 c59)]) (O := O) hc129 g135)).st s283).st (.dr _ (L := [blk (.slice A124 n125 c126), some b100, blk (.slice A279 n280 c281)]) (O := O) (j := 0) rfl)).st (.dr _ (L := [some b100, blk (.slice A279 n280 c281)]) (O := O) (j := 0) rfl))
          have h294 := (Ow.sd (L := [some b100, blk (.slice A279 n280 c281)]) (O := O) (Ow.sd (L := [blk (.slice A124 n125 c126), some b100, blk (.slice A279 n280 c281)]) (O := O) h285 (i := 2) rfl (j := 0) rfl (by decide)) (i := 1) rfl (j := 0) rfl (by decide))
          have h295 := (Bx.mo (L := [blk (.slice A124 n125 c126), some b100, blk (.slice A57 n274 c59)]) (O := O) hx136 hc139 (j := 2) rfl g282)
          exact ⟨(((xs2.take r3.toNat) ++ (([] : List Pt) ++ ((xs2.drop r3.toNat).take ((xs2.length : Int).toNat - r3.toNat)))), A279, n280, c281, i2 - 1, m5), hm292, hI291, ⟨rfl, rfl, rfl, trivial⟩, hc290, h293, h294, h295⟩
  · have H := ite_f H hq73
    refine W_exit (xin_hit ?_)
    refine W_seq ?_
    refine W_reg ?_
    refine L_pu (P_move (.slice A57 n58 c59) rfl) ?_
    refine L_pu (P_assign (.slice A57 n58 c59) rfl) ?_
    refine L_nil ?_
    refine W_ret ?_
    exact ⟨[.slice A57 n58 c59], ⟨_, rfl, rfl⟩, xs2, z2, A57, n58, c59, rfl, H, hc62.gr, h65, hc62.ok, hc62.ge, h64⟩
end Go.Proofs.Ytnliofcjplnboaa

namespace Go.Proofs.Ytnliofcjplnboaa
set_option linter.unusedVariables false
set_option linter.unusedSimpArgs false
theorem Field.app {l m : List Pt} (hl : Field l) (hm : Field m) : Field (l ++ m) := fun x hx => (List.mem_append.1 hx).elim (hl x) (hm x)
theorem Field.take {l : List Pt} (h : Field l) (k : Nat) : Field (l.take k) := fun x hx => h x (List.mem_of_mem_take hx)
theorem Field.drop {l : List Pt} (h : Field l) (k : Nat) : Field (l.drop k) := fun x hx => h x (List.mem_of_mem_drop hx)
theorem Field.one {x y : Int} (h : x ≤ 8) : Field [(⟨x, y⟩ : Pt)] := fun q hq => by rw [List.mem_singleton.1 hq]; exact h
theorem Field.set {l : List Pt} (h : Field l) (k : Nat) {x y : Int} (hx : x ≤ 8) : Field (l.set k ⟨x, y⟩) := fun q hq => by
  rcases List.mem_or_eq_of_mem_set hq with hq | rfl
  · exact h q hq
  · exact hx
theorem spec_l5Near.law (b : List UInt8) (p : Int) (s : List Pt) (Q : List Pt → Int → Prop) (hb : b.length ≤ 2000) (hp : 0 ≤ p) (hp1 : p ≤ 1000000000) (hs : s.length ≤ 1000) (hf : Field s) (hq : ∀ l p', l.length ≤ s.length + 2 → Field l → 0 ≤ p' → p' ≤ p + 3000 → Q l p') : spec_l5Near.E b p s Q := by
  unfold spec_l5Near.E
  rw [List.nil_append]
  refine ⟨by simp only [List.length_nil]; omega, spec_l12Rd_pick.law _ _ _ _ hb hp (by omega) fun v hv0 hv1 => ⟨by unfold I64; omega, ?_⟩⟩
  refine ⟨fun l i z => 0 ≤ i ∧ i ≤ 2 ∧ (l.length : Int) + i ≤ s.length + 2 ∧ Field l ∧ 0 ≤ z ∧ z ≤ p + 1 + 4 * (2 - i), fun _ i _ => i.toNat, ⟨by omega, by omega, by omega, hf, by omega, by omega⟩, ?_⟩
  rintro l i z ⟨h0, h1, h2, h3, h4, h5⟩
  by_cases hi : i > 0
  · rw [if_pos (by simpa using hi)]
    refine ⟨fun _ => by unfold I64; omega, spec_l12Rd_pick.law _ _ _ _ hb h4 (by omega) fun k hk0 hk1 => spec_l12Rd_pick.law _ _ _ _ hb (by omega) (by omega) fun x hx0 hx1 => ⟨fun _ => by unfold I64; omega, spec_l12Rd_pick.law _ _ _ _ hb (by omega) (by omega) fun y hy0 hy1 => ?_⟩⟩
    rw [List.nil_append]
    have hx8 : 5 + x ≤ 8 := by omega
    obtain ⟨m, rfl⟩ := Int.eq_ofNat_of_zero_le hk0
    have hm : m ≤ l.length := by omega
    have e : (l.drop (m : Int).toNat).take ((l.length : Int).toNat - (m : Int).toNat) = l.drop m := by
      rw [Int.toNat_natCast, Int.toNat_natCast]; exact List.take_of_length_le (by rw [List.length_drop]; omega)
    rw [e, Int.toNat_natCast]
    have l1 : (l.take m).length = m := by rw [List.length_take]; omega
    have l2 : (l.drop m).length = l.length - m := List.length_drop
    have f1 := h3.take m
    have f2 := h3.drop m
    generalize l.take m = u at *
    generalize l.drop m = t at *
    refine ⟨by omega, by simp only [List.length_nil]; omega, spec_l12Rd_pick.law _ _ _ _ hb (by omega) (by omega) fun w hw0 hw1 => ?_⟩
    by_cases hw : w = 0
    · rw [if_pos (by simpa using hw)]
      exact ⟨by omega, by simp only [List.length_singleton]; omega, by simp only [List.length_append, List.length_singleton]; omega, fun _ => by unfold I64; omega, ⟨by omega, by omega, by simp only [List.length_append, List.length_singleton]; omega, (f1.app (Field.one hx8)).app f2, by omega, by omega⟩, by dsimp only; omega⟩
    rw [if_neg (by simpa using hw)]
    by_cases hw' : w = 1
    · rw [if_pos (by simpa using hw')]
      rw [spec_l1Min.m_is]
      have hmin : min 1 (t.length : Int) = ((min 1 t.length : Nat) : Int) := by omega
      rw [hmin]
      have e2 : (t.drop ((min 1 t.length : Nat) : Int).toNat).take ((t.length : Int).toNat - ((min 1 t.length : Nat) : Int).toNat) = t.drop (min 1 t.length) := by
        rw [Int.toNat_natCast, Int.toNat_natCast]; exact List.take_of_length_le (by rw [List.length_drop]; omega)
      rw [e2]
      have l3 : (t.drop (min 1 t.length)).length ≤ t.length := by rw [List.length_drop]; omega
      have f3 := f2.drop (min 1 t.length)
      generalize t.drop (min 1 t.length) = t' at *
      exact ⟨by omega, by omega, by omega, fun _ _ => by unfold I64; omega, ⟨by omega, by omega, by simp only [List.length_append]; omega, f1.app f3, by omega, by omega⟩, by dsimp only; omega⟩
    rw [if_neg (by simpa using hw')]
    by_cases ht : (t.length : Int) > 0
    · rw [if_pos (by simpa using ht)]
      exact ⟨by omega, by omega, by simp only [List.length_set]; omega, fun _ _ => by unfold I64; omega, ⟨by omega, by omega, by simp only [List.length_append, List.length_set]; omega, f1.app (f2.set _ hx8), by omega, by omega⟩, by dsimp only; omega⟩
    · rw [if_neg (by simpa using ht)]
      exact ⟨by omega, by omega, fun _ _ => by unfold I64; omega, ⟨by omega, by omega, by simp only [List.length_append]; omega, f1.app f2, by omega, by omega⟩, by dsimp only; omega⟩
  · rw [if_neg (by simpa using hi)]
    exact hq _ _ (by omega) h3 h4 (by omega)
end Go.Proofs.Ytnliofcjplnboaa

namespace Go.Proofs.Ytnliofcjplnboaa
open Go.RowKit
set_option linter.unusedVariables false
def spec_DrawSeqMerge.E (code : List UInt8) (Q : List Pt → List Pt → List Pt → Prop) : Prop :=
  spec_l12Open.E code (fun r_b r_p => spec_l5Seq.E r_b r_p 8 (fun r m => spec_l12Rd_pick.E r_b m 10 (fun r2 m2 => (if r2 == 0 then spec_l5Seq.E r_b m2 6 (fun r3 m3 => spec_l5Near.E r_b m3 r (fun r4 m4 => Q r r3 r4)) else (if r2 == 1 then spec_l5Seq.E r_b m2 14 (fun r5 m5 => Q r r5 r) else (if r2 == 2 then spec_l5Near.E r_b m2 r (fun r6 m6 => (([] : List Pt).length + r6.length ≤ 268435456) ∧ Q r r6 (([] : List Pt) ++ r6)) else spec_l5Near.E r_b m2 r (fun r7 m7 => spec_l5Near.E r_b m7 r (fun r8 m8 => Q r r7 r8))))))))
set_option maxHeartbeats 8000000 in
set_option maxRecDepth 100000 in
theorem spec_DrawSeqMerge.calls {O : Ob} (w0 : World) (hO : Ok w0 O) (code : List UInt8) (A1 : Option Addr) (n2 c3 : Nat) (hp4 : Sl Kd.byte w0 (Fr O) (.slice A1 n2 c3) code) (Q : List Pt → List Pt → List Pt → Prop) (h : spec_DrawSeqMerge.E code Q) :
    Ret Try.prog 38 [.slice A1 n2 c3] w0 (fun v w' => ∃ (r0 : List Pt) (r1 : List Pt) (r2 : List Pt) (A0 : Option Addr) (n0 c0 : Nat) (A2 : Option Addr) (n2 c2 : Nat) (A4 : Option Addr) (n4 c4 : Nat), v = .tuple #[.slice A0 n0 c0, .slice A2 n2 c2, .slice A4 n4 c4] ∧ Q r0 r1 r2 ∧ Gr w0 w' none ∧ Ok w' ([blk (.slice A2 n2 c2)] ++ O) ∧ (∀ b, some b ∈ [blk (.slice A2 n2 c2)] → w0.heap.size ≤ b) ∧ Sl kPt w' (Fr ([blk (.slice A2 n2 c2)] ++ O)) (.slice A0 n0 c0) r0 ∧ Ow kPt 41 w' ([blk (.slice A2 n2 c2)] ++ O) (.slice A2 n2 c2) r1 ∧ Sl kPt w' (Fr ([blk (.slice A2 n2 c2)] ++ O)) (.slice A4 n4 c4) r2) := by
  have H : spec_l12Open.E code (fun r_b r_p => spec_l5Seq.E r_b r_p 8 (fun r m => spec_l12Rd_pick.E r_b m 10 (fun r2 m2 => (if r2 == 0 then spec_l5Seq.E r_b m2 6 (fun r3 m3 => spec_l5Near.E r_b m3 r (fun r4 m4 => Q r r3 r4)) else (if r2 == 1 then spec_l5Seq.E r_b m2 14 (fun r5 m5 => Q r r5 r) else (if r2 == 2 then spec_l5Near.E r_b m2 r (fun r6 m6 => (([] : List Pt).length + r6.length ≤ 268435456) ∧ Q r r6 (([] : List Pt) ++ r6)) else spec_l5Near.E r_b m2 r (fun r7 m7 => spec_l5Near.E r_b m7 r (fun r8 m8 => Q r r7 r8)))))))) := h
  clear h
  have hc0 := Ct.init hO
  refine Ret_enter Try.func38 rfl 45 rfl [.tmp 2, .tmp 3, .tmp 4] rfl rfl ?_
  refine W_seq ?_
  refine W_reg ?_
  refine L_pu (P_assign (.slice none 0 0) rfl) ?_
  refine L_pu (P_assign (.slice none 0 0) rfl) ?_
  refine L_pu (P_assign (.slice none 0 0) rfl) ?_
  refine L_nil ?_
  refine W_seq ?_
  refine W_reg ?_
  refine L_pu (P_move (.slice A1 n2 c3) rfl) ?_
  refine L_call go55 [.slice A1 n2 c3] rfl ((spec_l12Open.calls w0 hc0.ok code A1 n2 c3 hp4 _ H).mono ?_)
  rintro _ w6 ⟨r_b, r_p, b8, A10, n11, c12, rfl, H, g7, hk16, hk17, hx9, h13⟩
  have hc18 := hc0.owns g7 hk16 hk17
  refine L_pu (P_assign (.pointer (some ⟨b8, 0, none⟩)) rfl) ?_
  refine L_nil ?_
  refine W_seq ?_
  refine W_reg ?_
  refine L_pu (P_move (.pointer (some ⟨b8, 0, none⟩)) rfl) ?_
  refine L_call go56 [.pointer (some ⟨b8, 0, none⟩), vi 8] rfl ((spec_l5Seq.calls w6 hc18.ok b8 r_b A10 n11 c12 r_p h13 hx9 (mem_app 0 rfl) 8 _ H).mono ?_)
  rintro _ w20 ⟨r, m, A22, n23, c24, rfl, H, g21, hx27, hk28, hk29, h25⟩
  have hc30 := hc18.ownw (j := 0) rfl g21 hk28 hk29
  refine L_pu (P_assign (.slice A22 n23 c24) rfl) ?_
  refine L_nil ?_
  refine W_seq ?_
  refine W_seq ?_
  refine W_reg ?_
  refine L_pu (P_move (.pointer (some ⟨b8, 0, none⟩)) rfl) ?_
  have h31 := (h13.st (.ownw (L := [some b8]) (O := O) (j := 0) rfl g21 hk29))
  refine L_call go57 [.pointer (some ⟨b8, 0, none⟩), vi 10] rfl ((spec_l12Rd_pick.calls w20 hc30.ok b8 r_b A10 n11 c12 m h31 hx27 (mem_app 1 rfl) 10 _ H).mono ?_)
  rintro _ w32 ⟨r2, m2, rfl, H, g33, hx34⟩
  have hc37 := hc30.wr 1 rfl g33
  refine L_nil ?_
  refine W_block ?_
  refine W_seq ?_
  refine W_reg ?_
  refine L_pu (P_cmp r2 0 (r2 == 0) rfl rfl rfl) ?_
  refine L_pu (P_assign (vb (r2 == 0)) rfl) ?_
  refine L_nil ?_
  refine W_cond (r2 == 0) rfl (fun hq38 => ?_) (fun hq38 => ?_)
  · have H := ite_t H hq38
    refine W_seq ?_
    refine W_reg ?_
    refine L_pu (P_move (.slice A22 n23 c24) rfl) ?_
    refine L_pu (P_move (.pointer (some ⟨b8, 0, none⟩)) rfl) ?_
    have h39 := (h31.st (.wl (L := [blk (.slice A22 n23 c24), some b8]) (O := O) (j := 1) rfl g33))
    refine L_call go56 [.pointer (some ⟨b8, 0, none⟩), vi 6] rfl ((spec_l5Seq.calls w32 hc37.ok b8 r_b A10 n11 c12 m2 h39 hx34 (mem_app 1 rfl) 6 _ H).mono ?_)
    rintro _ w40 ⟨r3, m3, A42, n43, c44, rfl, H, g41, hx47, hk48, hk49, h45⟩
    have hc50 := hc37.ownw (j := 1) rfl g41 hk48 hk49
    refine L_pu (P_move (.pointer (some ⟨b8, 0, none⟩)) rfl) ?_
    refine L_pu (P_move (.slice A22 n23 c24) rfl) ?_
    have h51 := (Ow.sow (L := [blk (.slice A22 n23 c24), some b8]) (O := O) (Ow.sw (L := [blk (.slice A22 n23 c24), some b8]) (O := O) h25 hc30 (i := 0) rfl (j := 1) rfl (by decide) g33) hc37 (i := 0) rfl (j := 1) rfl (by decide) g41 hk49)
    have h52 := Ow.gv (L := [blk (.slice A42 n43 c44), blk (.slice A22 n23 c24), some b8]) (O := O) h51 hc50 (i := 1) rfl
    have hc53 := hc50.drop 1 rfl
    have h55 := ((h39.st (.ownw (L := [blk (.slice A22 n23 c24), some b8]) (O := O) (j := 1) rfl g41 hk49)).st (.dr _ (L := [blk (.slice A42 n43 c44), blk (.slice A22 n23 c24), some b8]) (O := O) (j := 1) rfl))
    have h56 := hx47
    refine L_call go58 [.pointer (some ⟨b8, 0, none⟩), .slice A22 n23 c24] rfl ((spec_l5Near.calls w40 hc53.ok b8 r_b A10 n11 c12 m3 h55 h56 (mem_app 1 rfl) r A22 n23 c24 h52 _ H).mono ?_)
    rintro _ w57 ⟨r4, m4, A59, n60, c61, rfl, H, g58, hx64, hk65, hk66, h62⟩
    have hk68 := Ok.unl (L := [blk (.slice A42 n43 c44), blk (.slice A22 n23 c24), some b8]) (L' := [blk (.slice A42 n43 c44), some b8]) (O := O) hc50 g58 hk65 hk66
    have h69 := Ow.unl (L := [blk (.slice A42 n43 c44), blk (.slice A22 n23 c24), some b8]) (L' := [blk (.slice A42 n43 c44), some b8]) (O := O) (fun _ _ _ _ _ _ h => h) (.cons_cons _ (.cons _ (.cons_cons _ (.slnil)))) h62
    have hc67 := hc50.ownw (j := 2) rfl g58 hk68 hk66
    refine L_pu (P_assign (.slice A22 n23 c24) rfl) ?_
    refine L_pu (P_assign (.slice A42 n43 c44) rfl) ?_
    refine L_pu (P_assign (.slice A59 n60 c61) rfl) ?_
    refine L_nil ?_
    refine W_ret ?_
    have h70 := (Ow.sow (L := [blk (.slice A42 n43 c44), blk (.slice A22 n23 c24), some b8]) (O := O) (Ow.sow (L := [blk (.slice A22 n23 c24), some b8]) (O := O) (Ow.sw (L := [blk (.slice A22 n23 c24), some b8]) (O := O) h25 hc30 (i := 0) rfl (j := 1) rfl (by decide) g33) hc37 (i := 0) rfl (j := 1) rfl (by decide) g41 hk49) hc50 (i := 1) rfl (j := 2) rfl (by decide) g58 hk66)
    have h71 := Ow.gv (L := [blk (.slice A59 n60 c61), blk (.slice A42 n43 c44), blk (.slice A22 n23 c24), some b8]) (O := O) h70 hc67 (i := 2) rfl
    have hc72 := hc67.drop 2 rfl
    have h74 := (Ow.sd (L := [blk (.slice A59 n60 c61), blk (.slice A42 n43 c44), blk (.slice A22 n23 c24), some b8]) (O := O) h69 (i := 0) rfl (j := 2) rfl (by decide))
    have h75 := Ow.gv (L := [blk (.slice A59 n60 c61), blk (.slice A42 n43 c44), some b8]) (O := O) h74 hc72 (i := 0) rfl
    have hc76 := hc72.drop 0 rfl
    have hc78 := hc76.drop 1 rfl
    have h79 := ((h71.st (.dr _ (L := [blk (.slice A59 n60 c61), blk (.slice A42 n43 c44), some b8]) (O := O) (j := 0) rfl)).st (.dr _ (L := [blk (.slice A42 n43 c44), some b8]) (O := O) (j := 1) rfl))
    have h80 := (Ow.sd (L := [blk (.slice A42 n43 c44), some b8]) (O := O) (Ow.sd (L := [blk (.slice A59 n60 c61), blk (.slice A42 n43 c44), some b8]) (O := O) (Ow.sd (L := [blk (.slice A59 n60 c61), blk (.slice A42 n43 c44), blk (.slice A22 n23 c24), some b8]) (O := O) (Ow.sow (L := [blk (.slice A42 n43 c44), blk (.slice A22 n23 c24), some b8]) (O := O) h45 hc50 (i := 0) rfl (j := 2) rfl (by decide) g58 hk66) (i := 1) rfl (j := 2) rfl (by decide)) (i := 1) rfl (j := 0) rfl (by decide)) (i := 0) rfl (j := 1) rfl (by decide))
    have h81 := (h75.st (.dr _ (L := [blk (.slice A42 n43 c44), some b8]) (O := O) (j := 1) rfl))
    exact ⟨[.slice A22 n23 c24, .slice A42 n43 c44, .slice A59 n60 c61], ⟨_, rfl, ⟨_, rfl, ⟨_, rfl, rfl⟩⟩⟩, r, r3, r4, A22, n23, c24, A42, n43, c44, A59, n60, c61, rfl, H, hc78.gr, hc78.ok, hc78.ge, h79, h80, h81⟩
  · have H := ite_f H hq38
    refine W_seq ?_
    refine W_reg ?_
    refine L_pu (P_cmp r2 1 (r2 == 1) rfl rfl rfl) ?_
    refine L_pu (P_assign (vb (r2 == 1)) rfl) ?_
    refine L_nil ?_
    refine W_cond (r2 == 1) rfl (fun hq82 => ?_) (fun hq82 => ?_)
    · have H := ite_t H hq82
      refine W_seq ?_
      refine W_reg ?_
      refine L_pu (P_move (.slice A22 n23 c24) rfl) ?_
      refine L_pu (P_move (.pointer (some ⟨b8, 0, none⟩)) rfl) ?_
      have h83 := (h31.st (.wl (L := [blk (.slice A22 n23 c24), some b8]) (O := O) (j := 1) rfl g33))
      refine L_call go56 [.pointer (some ⟨b8, 0, none⟩), vi 14] rfl ((spec_l5Seq.calls w32 hc37.ok b8 r_b A10 n11 c12 m2 h83 hx34 (mem_app 1 rfl) 14 _ H).mono ?_)
      rintro _ w84 ⟨r5, m5, A86, n87, c88, rfl, H, g85, hx91, hk92, hk93, h89⟩
      have hc94 := hc37.ownw (j := 1) rfl g85 hk92 hk93
      refine L_pu (P_move (.slice A22 n23 c24) rfl) ?_
      refine L_pu (P_assign (.slice A22 n23 c24) rfl) ?_
      refine L_pu (P_assign (.slice A86 n87 c88) rfl) ?_
      refine L_pu (P_assign (.slice A22 n23 c24) rfl) ?_
      refine L_nil ?_
      refine W_ret ?_
      have h95 := (Ow.sow (L := [blk (.slice A22 n23 c24), some b8]) (O := O) (Ow.sw (L := [blk (.slice A22 n23 c24), some b8]) (O := O) h25 hc30 (i := 0) rfl (j := 1) rfl (by decide) g33) hc37 (i := 0) rfl (j := 1) rfl (by decide) g85 hk93)
      have h96 := Ow.gv (L := [blk (.slice A86 n87 c88), blk (.slice A22 n23 c24), some b8]) (O := O) h95 hc94 (i := 1) rfl
      have hc97 := hc94.drop 1 rfl
      have hc99 := hc97.drop 1 rfl
      have h100 := (h96.st (.dr _ (L := [blk (.slice A86 n87 c88), some b8]) (O := O) (j := 1) rfl))
      have h101 := (Ow.sd (L := [blk (.slice A86 n87 c88), some b8]) (O := O) (Ow.sd (L := [blk (.slice A86 n87 c88), blk (.slice A22 n23 c24), some b8]) (O := O) h89 (i := 0) rfl (j := 1) rfl (by decide)) (i := 0) rfl (j := 1) rfl (by decide))
      exact ⟨[.slice A22 n23 c24, .slice A86 n87 c88, .slice A22 n23 c24], ⟨_, rfl, ⟨_, rfl, ⟨_, rfl, rfl⟩⟩⟩, r, r5, r, A22, n23, c24, A86, n87, c88, A22, n23, c24, rfl, H, hc99.gr, hc99.ok, hc99.ge, h100, h101, h100⟩
    · have H := ite_f H hq82
      refine W_seq ?_
      refine W_reg ?_
      refine L_pu (P_cmp r2 2 (r2 == 2) rfl rfl rfl) ?_
      refine L_pu (P_assign (vb (r2 == 2)) rfl) ?_
      refine L_nil ?_
      refine W_cond (r2 == 2) rfl (fun hq102 => ?_) (fun hq102 => ?_)
      · have H := ite_t H hq102
        refine W_seq ?_
        refine W_reg ?_
        refine L_pu (P_move (.pointer (some ⟨b8, 0, none⟩)) rfl) ?_
        refine L_pu (P_move (.slice A22 n23 c24) rfl) ?_
        have h103 := (Ow.sw (L := [blk (.slice A22 n23 c24), some b8]) (O := O) h25 hc30 (i := 0) rfl (j := 1) rfl (by decide) g33)
        have h104 := Ow.gv (L := [blk (.slice A22 n23 c24), some b8]) (O := O) h103 hc37 (i := 0) rfl
        have hc105 := hc37.drop 0 rfl
        have h107 := ((h31.st (.wl (L := [blk (.slice A22 n23 c24), some b8]) (O := O) (j := 1) rfl g33)).st (.dr _ (L := [blk (.slice A22 n23 c24), some b8]) (O := O) (j := 0) rfl))
        have h108 := hx34
        refine L_call go58 [.pointer (some ⟨b8, 0, none⟩), .slice A22 n23 c24] rfl ((spec_l5Near.calls w32 hc105.ok b8 r_b A10 n11 c12 m2 h107 h108 (mem_app 0 rfl) r A22 n23 c24 h104 _ H).mono ?_)
        rintro _ w109 ⟨r6, m6, A111, n112, c113, rfl, H, g110, hx116, hk117, hk118, h114⟩
        have hk120 := Ok.unl (L := [blk (.slice A22 n23 c24), some b8]) (L' := [some b8]) (O := O) hc37 g110 hk117 hk118
        have h121 := Ow.unl (L := [blk (.slice A22 n23 c24), some b8]) (L' := [some b8]) (O := O) (fun _ _ _ _ _ _ h => h) (.cons _ (.cons_cons _ (.slnil))) h114
        have hc119 := hc37.ownw (j := 1) rfl g110 hk120 hk118
        refine L_pu (P_assign (.slice A111 n112 c113) rfl) ?_
        refine L_nil ?_
        refine W_seq ?_
        refine W_reg ?_
        refine L_pu (P_move (.slice A22 n23 c24) rfl) ?_
        refine L_pu (P_move (.slice A111 n112 c113) rfl) ?_
        refine L_lit (kd := kPt) ei33 hc119 ([] : List Pt) (cells := []) rfl (fun _ => by kernel_rfl) fun w122 A123 n124 c125 g126 hr127 hc128 h129 => ?_
        refine L_pu (P_move (.slice A111 n112 c113) rfl) ?_
        have h131 := (h121.so _ g126 hr127)
        obtain ⟨hb132, H⟩ := H
        refine L_app ei33 hc128 (.slice A123 n124 c125) ([] : List Pt) r6 rfl h129 (.slice A111 n112 c113) rfl h131.sx 0 rfl hb132 fun w133 A134 n135 c136 g137 s138 hc139 h140 => ?_
        refine L_pu (P_assign (.slice A22 n23 c24) rfl) ?_
        refine L_pu (P_assign (.slice A111 n112 c113) rfl) ?_
        refine L_pu (P_assign (.slice A134 n135 c136) rfl) ?_
        refine L_nil ?_
        refine W_ret ?_
        have h142 := (Ow.sm (L := [blk (.slice A123 n124 c125), blk (.slice A111 n112 c113), blk (.slice A22 n23 c24), some b8]) (O := O) ((Ow.sow (L := [blk (.slice A22 n23 c24), some b8]) (O := O) (Ow.sw (L := [blk (.slice A22 n23 c24), some b8]) (O := O) h25 hc30 (i := 0) rfl (j := 1) rfl (by decide) g33) hc37 (i := 0) rfl (j := 1) rfl (by decide) g110 hk118).so _ g126 hr127) hc128 (i := 2) rfl (j := 0) rfl (by decide) g137 s138)
        have h143 := Ow.gv (L := [blk (.slice A134 n135 c136), blk (.slice A111 n112 c113), blk (.slice A22 n23 c24), some b8]) (O := O) h142 hc139 (i := 2) rfl
        have hc144 := hc139.drop 2 rfl
        have h146 := (Ow.sd (L := [blk (.slice A134 n135 c136), blk (.slice A111 n112 c113), blk (.slice A22 n23 c24), some b8]) (O := O) h140 (i := 0) rfl (j := 2) rfl (by decide))
        have h147 := Ow.gv (L := [blk (.slice A134 n135 c136), blk (.slice A111 n112 c113), some b8]) (O := O) h146 hc144 (i := 0) rfl
        have hc148 := hc144.drop 0 rfl
        have hc150 := hc148.drop 1 rfl
        have h151 := ((h143.st (.dr _ (L := [blk (.slice A134 n135 c136), blk (.slice A111 n112 c113), some b8]) (O := O) (j := 0) rfl)).st (.dr _ (L := [blk (.slice A111 n112 c113), some b8]) (O := O) (j := 1) rfl))
        have h152 := (Ow.sd (L := [blk (.slice A111 n112 c113), some b8]) (O := O) (Ow.sd (L := [blk (.slice A134 n135 c136), blk (.slice A111 n112 c113), some b8]) (O := O) (Ow.sd (L := [blk (.slice A134 n135 c136), blk (.slice A111 n112 c113), blk (.slice A22 n23 c24), some b8]) (O := O) (Ow.sm (L := [blk (.slice A123 n124 c125), blk (.slice A111 n112 c113), blk (.slice A22 n23 c24), some b8]) (O := O) h131 hc128 (i := 1) rfl (j := 0) rfl (by decide) g137 s138) (i := 1) rfl (j := 2) rfl (by decide)) (i := 1) rfl (j := 0) rfl (by decide)) (i := 0) rfl (j := 1) rfl (by decide))
        have h153 := (h147.st (.dr _ (L := [blk (.slice A111 n112 c113), some b8]) (O := O) (j := 1) rfl))
        exact ⟨[.slice A22 n23 c24, .slice A111 n112 c113, .slice A134 n135 c136], ⟨_, rfl, ⟨_, rfl, ⟨_, rfl, rfl⟩⟩⟩, r, r6, (([] : List Pt) ++ r6), A22, n23, c24, A111, n112, c113, A134, n135, c136, rfl, H, hc150.gr, hc150.ok, hc150.ge, h151, h152, h153⟩
      · have H := ite_f H hq102
        refine W_skip ?_
        refine W_seq ?_
        refine W_reg ?_
        refine L_pu (P_move (.slice A22 n23 c24) rfl) ?_
        refine L_pu (P_move (.pointer (some ⟨b8, 0, none⟩)) rfl) ?_
        refine L_pu (P_move (.slice A22 n23 c24) rfl) ?_
        have h154 := (Ow.sw (L := [blk (.slice A22 n23 c24), some b8]) (O := O) h25 hc30 (i := 0) rfl (j := 1) rfl (by decide) g33)
        have h155 := Ow.gv (L := [blk (.slice A22 n23 c24), some b8]) (O := O) h154 hc37 (i := 0) rfl
        have hc156 := hc37.drop 0 rfl
        have h158 := ((h31.st (.wl (L := [blk (.slice A22 n23 c24), some b8]) (O := O) (j := 1) rfl g33)).st (.dr _ (L := [blk (.slice A22 n23 c24), some b8]) (O := O) (j := 0) rfl))
        have h159 := hx34
        refine L_call go58 [.pointer (some ⟨b8, 0, none⟩), .slice A22 n23 c24] rfl ((spec_l5Near.calls w32 hc156.ok b8 r_b A10 n11 c12 m2 h158 h159 (mem_app 0 rfl) r A22 n23 c24 h155 _ H).mono ?_)
        rintro _ w160 ⟨r7, m7, A162, n163, c164, rfl, H, g161, hx167, hk168, hk169, h165⟩
        have hk171 := Ok.unl (L := [blk (.slice A22 n23 c24), some b8]) (L' := [some b8]) (O := O) hc37 g161 hk168 hk169
        have h172 := Ow.unl (L := [blk (.slice A22 n23 c24), some b8]) (L' := [some b8]) (O := O) (fun _ _ _ _ _ _ h => h) (.cons _ (.cons_cons _ (.slnil))) h165
        have hc170 := hc37.ownw (j := 1) rfl g161 hk171 hk169
        refine L_pu (P_move (.pointer (some ⟨b8, 0, none⟩)) rfl) ?_
        refine L_pu (P_move (.slice A22 n23 c24) rfl) ?_
        have h173 := (Ow.sow (L := [blk (.slice A22 n23 c24), some b8]) (O := O) (Ow.sw (L := [blk (.slice A22 n23 c24), some b8]) (O := O) h25 hc30 (i := 0) rfl (j := 1) rfl (by decide) g33) hc37 (i := 0) rfl (j := 1) rfl (by decide) g161 hk169)
        have h174 := Ow.gv (L := [blk (.slice A162 n163 c164), blk (.slice A22 n23 c24), some b8]) (O := O) h173 hc170 (i := 1) rfl
        have hc175 := hc170.drop 1 rfl
        have h177 := (((h31.st (.wl (L := [blk (.slice A22 n23 c24), some b8]) (O := O) (j := 1) rfl g33)).st (.ownw (L := [blk (.slice A22 n23 c24), some b8]) (O := O) (j := 1) rfl g161 hk169)).st (.dr _ (L := [blk (.slice A162 n163 c164), blk (.slice A22 n23 c24), some b8]) (O := O) (j := 1) rfl))
        have h178 := hx167
        refine L_call go58 [.pointer (some ⟨b8, 0, none⟩), .slice A22 n23 c24] rfl ((spec_l5Near.calls w160 hc175.ok b8 r_b A10 n11 c12 m7 h177 h178 (mem_app 1 rfl) r A22 n23 c24 h174 _ H).mono ?_)
        rintro _ w179 ⟨r8, m8, A181, n182, c183, rfl, H, g180, hx186, hk187, hk188, h184⟩
        have hk190 := Ok.unl (L := [blk (.slice A162 n163 c164), blk (.slice A22 n23 c24), some b8]) (L' := [blk (.slice A162 n163 c164), some b8]) (O := O) hc170 g180 hk187 hk188
        have h191 := Ow.unl (L := [blk (.slice A162 n163 c164), blk (.slice A22 n23 c24), some b8]) (L' := [blk (.slice A162 n163 c164), some b8]) (O := O) (fun _ _ _ _ _ _ h => h) (.cons_cons _ (.cons _ (.cons_cons _ (.slnil)))) h184
        have hc189 := hc170.ownw (j := 2) rfl g180 hk190 hk188
        refine L_pu (P_assign (.slice A22 n23 c24) rfl) ?_
        refine L_pu (P_assign (.slice A162 n163 c164) rfl) ?_
        refine L_pu (P_assign (.slice A181 n182 c183) rfl) ?_
        refine L_nil ?_
        refine W_ret ?_
        have h192 := (Ow.sow (L := [blk (.slice A162 n163 c164), blk (.slice A22 n23 c24), some b8]) (O := O) (Ow.sow (L := [blk (.slice A22 n23 c24), some b8]) (O := O) (Ow.sw (L := [blk (.slice A22 n23 c24), some b8]) (O := O) h25 hc30 (i := 0) rfl (j := 1) rfl (by decide) g33) hc37 (i := 0) rfl (j := 1) rfl (by decide) g161 hk169) hc170 (i := 1) rfl (j := 2) rfl (by decide) g180 hk188)
        have h193 := Ow.gv (L := [blk (.slice A181 n182 c183), blk (.slice A162 n163 c164), blk (.slice A22 n23 c24), some b8]) (O := O) h192 hc189 (i := 2) rfl
        have hc194 := hc189.drop 2 rfl
        have h196 := (Ow.sd (L := [blk (.slice A181 n182 c183), blk (.slice A162 n163 c164), blk (.slice A22 n23 c24), some b8]) (O := O) h191 (i := 0) rfl (j := 2) rfl (by decide))
        have h197 := Ow.gv (L := [blk (.slice A181 n182 c183), blk (.slice A162 n163 c164), some b8]) (O := O) h196 hc194 (i := 0) rfl
        have hc198 := hc194.drop 0 rfl
        have hc200 := hc198.drop 1 rfl
        have h201 := ((h193.st (.dr _ (L := [blk (.slice A181 n182 c183), blk (.slice A162 n163 c164), some b8]) (O := O) (j := 0) rfl)).st (.dr _ (L := [blk (.slice A162 n163 c164), some b8]) (O := O) (j := 1) rfl))
        have h202 := (Ow.sd (L := [blk (.slice A162 n163 c164), some b8]) (O := O) (Ow.sd (L := [blk (.slice A181 n182 c183), blk (.slice A162 n163 c164), some b8]) (O := O) (Ow.sd (L := [blk (.slice A181 n182 c183), blk (.slice A162 n163 c164), blk (.slice A22 n23 c24), some b8]) (O := O) (Ow.sow (L := [blk (.slice A162 n163 c164), blk (.slice A22 n23 c24), some b8]) (O := O) h172 hc170 (i := 0) rfl (j := 2) rfl (by decide) g180 hk188) (i := 1) rfl (j := 2) rfl (by decide)) (i := 1) rfl (j := 0) rfl (by decide)) (i := 0) rfl (j := 1) rfl (by decide))
        have h203 := (h197.st (.dr _ (L := [blk (.slice A162 n163 c164), some b8]) (O := O) (j := 1) rfl))
        exact ⟨[.slice A22 n23 c24, .slice A162 n163 c164, .slice A181 n182 c183], ⟨_, rfl, ⟨_, rfl, ⟨_, rfl, rfl⟩⟩⟩, r, r7, r8, A22, n23, c24, A162, n163, c164, A181, n182, c183, rfl, H, hc200.gr, hc200.ok, hc200.ge, h201, h202, h203⟩
end Go.Proofs.Ytnliofcjplnboaa

namespace Go.Proofs.Ytnliofcjplnboaa
set_option linter.unusedVariables false
set_option linter.unusedSimpArgs false
theorem spec_DrawSeqMerge.law (code : List UInt8) (Q : List Pt → List Pt → List Pt → Prop) (hq : ∀ o a b, o.length ≤ 14 → a.length ≤ 14 → b.length ≤ 14 → Field o → Field a → Field b → Q o a b) : spec_DrawSeqMerge.E code Q := by
  unfold spec_DrawSeqMerge.E
  refine spec_l12Open.law _ _ fun b hb => spec_l5Seq.law b 0 8 _ hb (by omega) (by omega) (by omega) fun l p hl hf hp0 hp1 => spec_l12Rd_pick.law _ _ _ _ hb hp0 (by omega) fun v hv0 hv1 => ?_
  by_cases h0 : v = 0
  · rw [if_pos (by simpa using h0)]
    exact spec_l5Seq.law b _ 6 _ hb (by omega) (by omega) (by omega) fun l' p' hl' hf' _ _ => spec_l5Near.law b _ l _ hb (by omega) (by omega) (by omega) hf fun l2 p2 hl2 hf2 _ _ => hq _ _ _ (by omega) (by omega) (by omega) hf hf' hf2
  rw [if_neg (by simpa using h0)]
  by_cases h1 : v = 1
  · rw [if_pos (by simpa using h1)]
    exact spec_l5Seq.law b _ 14 _ hb (by omega) (by omega) (by omega) fun l' p' hl' hf' _ _ => hq _ _ _ (by omega) (by omega) (by omega) hf hf' hf
  rw [if_neg (by simpa using h1)]
  by_cases h2 : v = 2
  · rw [if_pos (by simpa using h2)]
    exact spec_l5Near.law b _ l _ hb (by omega) (by omega) (by omega) hf fun l2 p2 hl2 hf2 _ _ => ⟨by simp only [List.length_nil]; omega, by rw [List.nil_append]; exact hq _ _ _ (by omega) (by omega) (by omega) hf hf2 hf2⟩
  rw [if_neg (by simpa using h2)]
  exact spec_l5Near.law b _ l _ hb (by omega) (by omega) (by omega) hf fun l2 p2 hl2 hf2 _ _ => spec_l5Near.law b _ l _ hb (by omega) (by omega) (by omega) hf fun l3 p3 hl3 hf3 _ _ => hq _ _ _ (by omega) (by omega) (by omega) hf hf2 hf3
end Go.Proofs.Ytnliofcjplnboaa

namespace Go.Proofs.Ytnliofcjplnboaa
open Go.RowKit
set_option linter.unusedVariables false
def impl_lengths.E (a : List Pt) (b : List Pt) (Q : List (List Int) → Prop) : Prop :=
  ((a.length : Int) ≤ 9223372036854775807 → I64 ((a.length : Int) + 1)) ∧ ((0 : Int) ≤ (a.length : Int) + 1 ∧ (a.length : Int) + 1 ≤ (268435456 : Int)) ∧ (∃ (I59 : (List (List Int)) → Int → Prop) (mu60 : (List (List Int)) → Int → Nat), I59 (List.replicate ((a.length : Int) + 1).toNat ([] : List Int)) 0 ∧ ∀ (xs2 : List (List Int)) (v2 : Int), I59 xs2 v2 → (if decide (v2 < ((List.replicate ((a.length : Int) + 1).toNat ([] : List Int)).length : Int)) then ((b.length : Int) ≤ 9223372036854775807 → I64 ((b.length : Int) + 1)) ∧ ((0 : Int) ≤ (b.length : Int) + 1 ∧ (b.length : Int) + 1 ≤ (268435456 : Int)) ∧ ((0 : Int) ≤ v2 ∧ v2 < (xs2.length : Int)) ∧ ((b.length : Int) ≤ 9223372036854775807 → I64 (v2 + 1)) ∧ I59 (xs2.set v2.toNat (List.replicate ((b.length : Int) + 1).toNat (0 : Int))) (v2 + 1) ∧ mu60 (xs2.set v2.toNat (List.replicate ((b.length : Int) + 1).toNat (0 : Int))) (v2 + 1) < mu60 xs2 v2 else ((a.length : Int) ≤ 9223372036854775807 → I64 ((a.length : Int) - 1)) ∧ (∃ (I146 : (List (List Int)) → Int → Prop) (mu147 : (List (List Int)) → Int → Nat), I146 xs2 ((a.length : Int) - 1) ∧ ∀ (xs4 : List (List Int)) (i2 : Int), I146 xs4 i2 → (if decide (i2 ≥ 0) then ((b.length : Int) ≤ 9223372036854775807 → I64 ((b.length : Int) - 1)) ∧ (∃ (I188 : (List (List Int)) → Int → Prop) (mu189 : (List (List Int)) → Int → Nat), I188 xs4 ((b.length : Int) - 1) ∧ ∀ (xs6 : List (List Int)) (j2 : Int), I188 xs6 j2 → (if decide (j2 ≥ 0) then ((0 : Int) ≤ i2 ∧ i2 < (a.length : Int)) ∧ ((0 : Int) ≤ j2 ∧ j2 < (b.length : Int)) ∧ (if eqPt (nth a i2) (nth b j2) then ((0 : Int) ≤ i2 ∧ i2 < (xs6.length : Int)) ∧ (I64 (i2 + 1)) ∧ ((0 : Int) ≤ i2 + 1 ∧ i2 + 1 < (xs6.length : Int)) ∧ (I64 (j2 + 1)) ∧ ((0 : Int) ≤ j2 + 1 ∧ j2 + 1 < ((nth xs6 (i2 + 1)).length : Int)) ∧ (I64 ((nth (nth xs6 (i2 + 1)) (j2 + 1)) + 1)) ∧ ((0 : Int) ≤ j2 ∧ j2 < ((nth xs6 i2).length : Int)) ∧ (I64 (j2 - 1)) ∧ I188 (xs6.set i2.toNat ((nth xs6 i2).set j2.toNat ((nth (nth xs6 (i2 + 1)) (j2 + 1)) + 1))) (j2 - 1) ∧ mu189 (xs6.set i2.toNat ((nth xs6 i2).set j2.toNat ((nth (nth xs6 (i2 + 1)) (j2 + 1)) + 1))) (j2 - 1) < mu189 xs6 j2 else ((0 : Int) ≤ i2 ∧ i2 < (xs6.length : Int)) ∧ (I64 (i2 + 1)) ∧ ((0 : Int) ≤ i2 + 1 ∧ i2 + 1 < (xs6.length : Int)) ∧ ((0 : Int) ≤ j2 ∧ j2 < ((nth xs6 (i2 + 1)).length : Int)) ∧ ((0 : Int) ≤ i2 ∧ i2 < (xs6.length : Int)) ∧ (I64 (j2 + 1)) ∧ ((0 : Int) ≤ j2 + 1 ∧ j2 + 1 < ((nth xs6 i2).length : Int)) ∧ ((0 : Int) ≤ j2 ∧ j2 < ((nth xs6 i2).length : Int)) ∧ (I64 (j2 - 1)) ∧ I188 (xs6.set i2.toNat ((nth xs6 i2).set j2.toNat (max (nth (nth xs6 (i2 + 1)) j2) (nth (nth xs6 i2) (j2 + 1))))) (j2 - 1) ∧ mu189 (xs6.set i2.toNat ((nth xs6 i2).set j2.toNat (max (nth (nth xs6 (i2 + 1)) j2) (nth (nth xs6 i2) (j2 + 1))))) (j2 - 1) < mu189 xs6 j2) else (I64 (i2 - 1)) ∧ I146 xs6 (i2 - 1) ∧ mu147 xs6 (i2 - 1) < mu147 xs4 i2)) else Q xs4))))
set_option maxHeartbeats 8000000 in
set_option maxRecDepth 100000 in
theorem impl_lengths.calls {O : Ob} (w0 : World) (hO : Ok w0 O) (a : List Pt) (A1 : Option Addr) (n2 c3 : Nat) (hp4 : Sl kPt w0 (Fr O) (.slice A1 n2 c3) a) (b : List Pt) (A6 : Option Addr) (n7 c8 : Nat) (hp9 : Sl kPt w0 (Fr O) (.slice A6 n7 c8) b) (Q : List (List Int) → Prop) (h : impl_lengths.E a b Q) :
    Ret Try.prog 48 [.slice A1 n2 c3, .slice A6 n7 c8] w0 (fun v w' => ∃ (r0 : List (List Int)) (A0 : Option Addr) (n0 c0 : Nat), v = .slice A0 n0 c0 ∧ Q r0 ∧ Gr w0 w' none ∧ Sl (Kd.sl (Kd.int .i64)) w' (Fr O) (.slice A0 n0 c0) r0) := by
  have H : ((a.length : Int) ≤ 9223372036854775807 → I64 ((a.length : Int) + 1)) ∧ ((0 : Int) ≤ (a.length : Int) + 1 ∧ (a.length : Int) + 1 ≤ (268435456 : Int)) ∧ (∃ (I59 : (List (List Int)) → Int → Prop) (mu60 : (List (List Int)) → Int → Nat), I59 (List.replicate ((a.length : Int) + 1).toNat ([] : List Int)) 0 ∧ ∀ (xs2 : List (List Int)) (v2 : Int), I59 xs2 v2 → (if decide (v2 < ((List.replicate ((a.length : Int) + 1).toNat ([] : List Int)).length : Int)) then ((b.length : Int) ≤ 9223372036854775807 → I64 ((b.length : Int) + 1)) ∧ ((0 : Int) ≤ (b.length : Int) + 1 ∧ (b.length : Int) + 1 ≤ (268435456 : Int)) ∧ ((0 : Int) ≤ v2 ∧ v2 < (xs2.length : Int)) ∧ ((b.length : Int) ≤ 9223372036854775807 → I64 (v2 + 1)) ∧ I59 (xs2.set v2.toNat (List.replicate ((b.length : Int) + 1).toNat (0 : Int))) (v2 + 1) ∧ mu60 (xs2.set v2.toNat (List.replicate ((b.length : Int) + 1).toNat (0 : Int))) (v2 + 1) < mu60 xs2 v2 else ((a.length : Int) ≤ 9223372036854775807 → I64 ((a.length : Int) - 1)) ∧ (∃ (I146 : (List (List Int)) → Int → Prop) (mu147 : (List (List Int)) → Int → Nat), I146 xs2 ((a.length : Int) - 1) ∧ ∀ (xs4 : List (List Int)) (i2 : Int), I146 xs4 i2 → (if decide (i2 ≥ 0) then ((b.length : Int) ≤ 9223372036854775807 → I64 ((b.length : Int) - 1)) ∧ (∃ (I188 : (List (List Int)) → Int → Prop) (mu189 : (List (List Int)) → Int → Nat), I188 xs4 ((b.length : Int) - 1) ∧ ∀ (xs6 : List (List Int)) (j2 : Int), I188 xs6 j2 → (if decide (j2 ≥ 0) then ((0 : Int) ≤ i2 ∧ i2 < (a.length : Int)) ∧ ((0 : Int) ≤ j2 ∧ j2 < (b.length : Int)) ∧ (if eqPt (nth a i2) (nth b j2) then ((0 : Int) ≤ i2 ∧ i2 < (xs6.length : Int)) ∧ (I64 (i2 + 1)) ∧ ((0 : Int) ≤ i2 + 1 ∧ i2 + 1 < (xs6.length : Int)) ∧ (I64 (j2 + 1)) ∧ ((0 : Int) ≤ j2 + 1 ∧ j2 + 1 < ((nth xs6 (i2 + 1)).length : Int)) ∧ (I64 ((nth (nth xs6 (i2 + 1)) (j2 + 1)) + 1)) ∧ ((0 : Int) ≤ j2 ∧ j2 < ((nth xs6 i2).length : Int)) ∧ (I64 (j2 - 1)) ∧ I188 (xs6.set i2.toNat ((nth xs6 i2).set j2.toNat ((nth (nth xs6 (i2 + 1)) (j2 + 1)) + 1))) (j2 - 1) ∧ mu189 (xs6.set i2.toNat ((nth xs6 i2).set j2.toNat ((nth (nth xs6 (i2 + 1)) (j2 + 1)) + 1))) (j2 - 1) < mu189 xs6 j2 else ((0 : Int) ≤ i2 ∧ i2 < (xs6.length : Int)) ∧ (I64 (i2 + 1)) ∧ ((0 : Int) ≤ i2 + 1 ∧ i2 + 1 < (xs6.length : Int)) ∧ ((0 : Int) ≤ j2 ∧ j2 < ((nth xs6 (i2 + 1)).length : Int)) ∧ ((0 : Int) ≤ i2 ∧ i2 < (xs6.length : Int)) ∧ (I64 (j2 + 1)) ∧ ((0 : Int) ≤ j2 + 1 ∧ j2 + 1 < ((nth xs6 i2).length : Int)) ∧ ((0 : Int) ≤ j2 ∧ j2 < ((nth xs6 i2).length : Int)) ∧ (I64 (j2 - 1)) ∧ I188 (xs6.set i2.toNat ((nth xs6 i2).set j2.toNat (max (nth (nth xs6 (i2 + 1)) j2) (nth (nth xs6 i2) (j2 + 1))))) (j2 - 1) ∧ mu189 (xs6.set i2.toNat ((nth xs6 i2).set j2.toNat (max (nth (nth xs6 (i2 + 1)) j2) (nth (nth xs6 i2) (j2 + 1))))) (j2 - 1) < mu189 xs6 j2) else (I64 (i2 - 1)) ∧ I146 xs6 (i2 - 1) ∧ mu147 xs6 (i2 - 1) < mu147 xs4 i2)) else Q xs4)))) := h
  clear h
  have hc0 := Ct.init hO
  refine Ret_enter Try.func48 rfl 89 rfl [.tmp 4] rfl rfl ?_
  refine W_seq ?_
  refine W_reg ?_
  refine L_pu (P_assign (.slice none 0 0) rfl) ?_
  refine L_nil ?_
  refine W_seq ?_
  refine W_reg ?_
  refine L_pu (P_move (.slice A1 n2 c3) rfl) ?_
  have hl11 := hp4.le
  refine L_pu (P_len Try.underlying33 A1 n2 c3 hp4.len rfl) ?_
  obtain ⟨hb12, H⟩ := H
  have hi13 := hb12 (len_le hl11)
  refine L_pu (P_add (a.length : Int) 1 rfl rfl hi13) ?_
  obtain ⟨hb14, H⟩ := H
  refine L_make (kd := Kd.raw) ei66 hc0 (.slice none 0 0 : Value) ⟨rfl, rfl⟩ ((a.length : Int) + 1) rfl rfl hb14 fun w15 A16 n17 c18 g19 hr20 hc21 h22 => ?_
  have h25 : Tb (Kd.int .i64) 65 3 w15 _ _ _ (List.replicate ((a.length : Int) + 1).toNat []) := h22.nones
  have hc24 := hc21.nones ((a.length : Int) + 1).toNat
  refine L_pu (P_assign (.slice A16 n17 c18) rfl) ?_
  refine L_nil ?_
  refine W_seq ?_
  refine W_seq ?_
  refine W_reg ?_
  refine L_pu (P_move (.slice A16 n17 c18) rfl) ?_
  have hl26 := h25.le
  refine L_pu (P_len Try.underlying66 A16 n17 c18 h25.len rfl) ?_
  refine L_pu (P_move (vi 0) rfl) ?_
  refine L_nil ?_
  refine W_block ?_
  obtain ⟨I59, mu60, hI61, H⟩ := H
  refine W_loop (α := (List (List Int)) × (List Value) × Int) (fun (sv__ : (List (List Int)) × (List Value) × Int) t w47 => match sv__ with | (xs2, vs54, v2) => I59 xs2 v2 ∧ Has t [(0, .slice A1 n2 c3), (1, .slice A6 n7 c8), (5, .slice A16 n17 c18), (14, vi ((List.replicate ((a.length : Int) + 1).toNat ([] : List Int)).length : Int)), (15, vi v2)] ∧ Ct none w0 w47 (blk (.slice A16 n17 c18) :: (vs54).map blk) O ∧ Sl kPt w47 (Fr ((blk (.slice A16 n17 c18) :: (vs54).map blk) ++ O)) (.slice A1 n2 c3) a ∧ Sl kPt w47 (Fr ((blk (.slice A16 n17 c18) :: (vs54).map blk) ++ O)) (.slice A6 n7 c8) b ∧ Tb (Kd.int .i64) 65 3 w47 ((blk (.slice A16 n17 c18) :: (vs54).map blk) ++ O) (.slice A16 n17 c18) vs54 xs2) (fun (sv__ : (List (List Int)) × (List Value) × Int) => match sv__ with | (xs2, _, v2) => mu60 xs2 v2) ((List.replicate ((a.length : Int) + 1).toNat ([] : List Int)), (List.replicate ((a.length : Int) + 1).toNat (Value.slice none 0 0)), 0) ⟨hI61, ⟨rfl, rfl, rfl, rfl, rfl, trivial⟩, hc24, (hp4.st hc24.st), (hp9.st hc24.st), h25⟩ ?_
  rintro ⟨xs2, vs54, v2⟩ _ w47 ⟨hI61, hh63, hc55, h56, h57, h58⟩
  obtain ⟨u64, rfl⟩ := Has.ins hh63
  have H := H xs2 v2 hI61
  refine W_seq ?_
  refine W_reg ?_
  refine L_pu (P_cmp v2 ((List.replicate ((a.length : Int) + 1).toNat ([] : List Int)).length : Int) (decide (v2 < ((List.replicate ((a.length : Int) + 1).toNat ([] : List Int)).length : Int))) rfl rfl rfl) ?_
  refine L_nil ?_
  refine W_seq ?_
  refine W_cond (decide (v2 < ((List.replicate ((a.length : Int) + 1).toNat ([] : List Int)).length : Int))) rfl (fun hq65 => ?_) (fun hq65 => ?_)
  · have H := ite_t H hq65
    refine W_skip ?_
    refine W_seq ?_
    refine W_block ?_
    refine W_seq ?_
    refine W_reg ?_
    refine L_pu (P_move (vi v2) rfl) ?_
    refine L_pu (P_assign (vi v2) rfl) ?_
    refine L_nil ?_
    refine W_reg ?_
    refine L_pu (P_move (.slice A16 n17 c18) rfl) ?_
    refine L_pu (P_move (vi v2) rfl) ?_
    refine L_pu (P_move (.slice A6 n7 c8) rfl) ?_
    have hl66 := h57.le
    refine L_pu (P_len Try.underlying33 A6 n7 c8 h57.len rfl) ?_
    obtain ⟨hb67, H⟩ := H
    have hi68 := hb67 (len_le hl66)
    refine L_pu (P_add (b.length : Int) 1 rfl rfl hi68) ?_
    obtain ⟨hb69, H⟩ := H
    refine L_make (kd := (Kd.int .i64)) ei65 hc55 (0 : Int) (rfl) ((b.length : Int) + 1) rfl rfl hb69 fun w70 A71 n72 c73 g74 hr75 hc76 h77 => ?_
    obtain ⟨hb79, H⟩ := H
    have h91 := (h58.own _ g74 hr75)
    obtain ⟨ad80, A86, n87, c88, hA82, hv89, hcl84, h90⟩ := h91.get v2 hb79
    refine L_pu (P_ia Try.underlying66 se66 A16 ad80 n17 c18 h91.len v2 rfl hA82 rfl hb79) ?_
    have hl95 : (0 : Int) ≤ v2 ∧ v2 < ((vs54).length : Int) := by rw [h91.2.1]; exact hb79
    obtain ⟨ad98, cs99, hA100, hR101, hcl97⟩ := h91.1.get (default : Value) (by decide) v2 hl95
    obtain rfl := Option.some.inj (hA82.symm.trans hA100)
    refine L_ste0 A16 n17 c18 vs54 h91.1 v2 hl95 ad80 hA82 0 rfl [.slice A71 n72 c73] rfl sz65 rfl (.slice A71 n72 c73) _ [.slice A71 n72 c73] hcl97 (by rw [hR101.1]; rfl) (by rw [hR101.1]; rfl) ⟨rfl, rfl⟩ fun w92 g93 h94 => ?_
    have h102 := Tb.sto (O := O) h91 hc76 h77 v2 hb79 g93 h94
    have hc103 := Ct.sto hc76 v2 hl95 g93
    have s104 := St.sto (u := (.slice A71 n72 c73)) (vs := vs54) (O := O) v2 g93
    refine L_nil ?_
    refine W_reg ?_
    obtain ⟨hb105, H⟩ := H
    have hi106 := hb105 (len_le hl66)
    refine L_pu (P_add v2 1 rfl rfl hi106) ?_
    refine L_pu (P_move (vi (v2 + 1)) rfl) ?_
    refine L_nil ?_
    obtain ⟨hI107, hm108⟩ := H
    have h109 := ((h56.st (.own _ _ g74 hr75)).st s104)
    have h110 := ((h57.st (.own _ _ g74 hr75)).st s104)
    exact ⟨((xs2.set v2.toNat (List.replicate ((b.length : Int) + 1).toNat (0 : Int))), (vs54.set v2.toNat (.slice A71 n72 c73)), v2 + 1), hm108, hI107, ⟨rfl, rfl, rfl, rfl, rfl, trivial⟩, hc103, h109, h110, h102⟩
  · have H := ite_f H hq65
    refine W_exit (xin_hit ?_)
    refine W_seq ?_
    refine W_seq ?_
    refine W_reg ?_
    refine L_pu (P_move (.slice A1 n2 c3) rfl) ?_
    have hl111 := h56.le
    refine L_pu (P_len Try.underlying33 A1 n2 c3 h56.len rfl) ?_
    obtain ⟨hb112, H⟩ := H
    have hi113 := hb112 (len_le hl111)
    refine L_pu (P_sub (a.length : Int) 1 rfl rfl hi113) ?_
    refine L_pu (P_assign (vi ((a.length : Int) - 1)) rfl) ?_
    refine L_nil ?_
    refine W_block ?_
    obtain ⟨I146, mu147, hI148, H⟩ := H
    refine W_loop (α := (List (List Int)) × (List Value) × (Option Addr) × Nat × Nat × Int) (fun (sv__ : (List (List Int)) × (List Value) × (Option Addr) × Nat × Nat × Int) t w134 => match sv__ with | (xs4, vs141, A137, n138, c139, i2) => I146 xs4 i2 ∧ Has t [(0, .slice A1 n2 c3), (1, .slice A6 n7 c8), (5, .slice A137 n138 c139), (7, vi i2)] ∧ Ct none w0 w134 (blk (.slice A137 n138 c139) :: (vs141).map blk) O ∧ Sl kPt w134 (Fr ((blk (.slice A137 n138 c139) :: (vs141).map blk) ++ O)) (.slice A1 n2 c3) a ∧ Sl kPt w134 (Fr ((blk (.slice A137 n138 c139) :: (vs141).map blk) ++ O)) (.slice A6 n7 c8) b ∧ Tb (Kd.int .i64) 65 3 w134 ((blk (.slice A137 n138 c139) :: (vs141).map blk) ++ O) (.slice A137 n138 c139) vs141 xs4) (fun (sv__ : (List (List Int)) × (List Value) × (Option Addr) × Nat × Nat × Int) => match sv__ with | (xs4, _, _, _, _, i2) => mu147 xs4 i2) (xs2, vs54, A16, n17, c18, (a.length : Int) - 1) ⟨hI148, ⟨rfl, rfl, rfl, rfl, trivial⟩, hc55, h56, h57, h58⟩ ?_
    rintro ⟨xs4, vs141, A137, n138, c139, i2⟩ _ w134 ⟨hI148, hh150, hc142, h143, h144, h145⟩
    obtain ⟨u151, rfl⟩ := Has.ins hh150
    have H := H xs4 i2 hI148
    refine W_seq ?_
    refine W_seq ?_
    refine W_reg ?_
    refine L_pu (P_move (vi i2) rfl) ?_
    refine L_pu (P_cmp i2 0 (decide (i2 ≥ 0)) rfl rfl rfl) ?_
    refine L_nil ?_
    refine W_cond (decide (i2 ≥ 0)) rfl (fun hq152 => ?_) (fun hq152 => ?_)
    · have H := ite_t H hq152
      refine W_skip ?_
      refine W_seq ?_
      refine W_block ?_
      refine W_seq ?_
      refine W_reg ?_
      refine L_pu (P_move (.slice A6 n7 c8) rfl) ?_
      have hl153 := h144.le
      refine L_pu (P_len Try.underlying33 A6 n7 c8 h144.len rfl) ?_
      obtain ⟨hb154, H⟩ := H
      have hi155 := hb154 (len_le hl153)
      refine L_pu (P_sub (b.length : Int) 1 rfl rfl hi155) ?_
      refine L_pu (P_assign (vi ((b.length : Int) - 1)) rfl) ?_
      refine L_nil ?_
      refine W_block ?_
      obtain ⟨I188, mu189, hI190, H⟩ := H
      refine W_loop (α := (List (List Int)) × (List Value) × Int) (fun (sv__ : (List (List Int)) × (List Value) × Int) t w176 => match sv__ with | (xs6, vs183, j2) => I188 xs6 j2 ∧ Has t [(0, .slice A1 n2 c3), (1, .slice A6 n7 c8), (5, .slice A137 n138 c139), (7, vi i2), (8, vi j2)] ∧ Ct none w0 w176 (blk (.slice A137 n138 c139) :: (vs183).map blk) O ∧ Sl kPt w176 (Fr ((blk (.slice A137 n138 c139) :: (vs183).map blk) ++ O)) (.slice A1 n2 c3) a ∧ Sl kPt w176 (Fr ((blk (.slice A137 n138 c139) :: (vs183).map blk) ++ O)) (.slice A6 n7 c8) b ∧ Tb (Kd.int .i64) 65 3 w176 ((blk (.slice A137 n138 c139) :: (vs183).map blk) ++ O) (.slice A137 n138 c139) vs183 xs6) (fun (sv__ : (List (List Int)) × (List Value) × Int) => match sv__ with | (xs6, _, j2) => mu189 xs6 j2) (xs4, vs141, (b.length : Int) - 1) ⟨hI190, ⟨rfl, rfl, rfl, rfl, rfl, trivial⟩, hc142, h143, h144, h145⟩ ?_
      rintro ⟨xs6, vs183, j2⟩ _ w176 ⟨hI190, hh192, hc184, h185, h186, h187⟩
      obtain ⟨u193, rfl⟩ := Has.ins hh192
      have H := H xs6 j2 hI190
      refine W_seq ?_
      refine W_seq ?_
      refine W_reg ?_
      refine L_pu (P_move (vi j2) rfl) ?_
      refine L_pu (P_cmp j2 0 (decide (j2 ≥ 0)) rfl rfl rfl) ?_
      refine L_nil ?_
      refine W_cond (decide (j2 ≥ 0)) rfl (fun hq194 => ?_) (fun hq194 => ?_)
      · have H := ite_t H hq194
        refine W_skip ?_
        refine W_seq ?_
        refine W_block ?_
        refine W_seq ?_
        refine W_draw (fun x => Gr w176 x none) (by kernel_rfl) (by kernel_rfl) (Gr.drew _) ?_
        refine Q_pu (P_move (.slice A1 n2 c3) rfl) ?_
        refine Q_pu (P_move (vi i2) rfl) ?_
        obtain ⟨hb195, H⟩ := H
        obtain ⟨ad196, cs197, hA198, hS201, hR199, hcl200⟩ := h185.get default (by decide) i2 hb195
        obtain rfl := kPt.op hR199
        refine Q_pu (P_ia Try.underlying33 se33 A1 ad196 n2 c3 h185.len i2 rfl hA198 rfl hb195) ?_
        refine Q_pu (P_lda ag41 sz41 cQ (ad196.add (i2.toNat * 2)) [vi ((nth a i2).X), vi ((nth a i2).Y)] rfl rfl hcl200) ?_
        refine Q_pu (P_move (.slice A6 n7 c8) rfl) ?_
        refine Q_pu (P_move (vi j2) rfl) ?_
        obtain ⟨hb202, H⟩ := H
        obtain ⟨ad203, cs204, hA205, hS208, hR206, hcl207⟩ := h186.get default (by decide) j2 hb202
        obtain rfl := kPt.op hR206
        refine Q_pu (P_ia Try.underlying33 se33 A6 ad203 n7 c8 h186.len j2 rfl hA205 rfl hb202) ?_
        refine Q_pu (P_lda ag41 sz41 cQ (ad203.add (j2.toNat * 2)) [vi ((nth b j2).X), vi ((nth b j2).Y)] rfl rfl hcl207) ?_
        refine Q_pu (P_eq _ _ (eqPt (nth a i2) (nth b j2)) (qt41 (nth a i2) (nth b j2)) rfl rfl) ?_
        refine Q_nil fun w209 g210 => ?_
        have hc212 := hc184.k0 g210
        refine W_cond (eqPt (nth a i2) (nth b j2)) rfl (fun hq213 => ?_) (fun hq213 => ?_)
        · have H := ite_t H hq213
          refine W_tail 16 (by kernel_rfl) (by kernel_rfl) fun w214 g215 => ?_
          have hc216 := hc212.k0 g215
          refine S_pu (P_move (.slice A137 n138 c139) rfl) ?_
          refine S_pu (P_move (vi i2) rfl) ?_
          obtain ⟨hb217, H⟩ := H
          have h229 := ((h187.k0 g210).k0 g215)
          obtain ⟨ad218, A224, n225, c226, hA220, hv227, hcl222, h228⟩ := h229.get i2 hb217
          refine S_pu (P_ia Try.underlying66 se66 A137 ad218 n138 c139 h229.len i2 rfl hA220 rfl hb217) ?_
          refine S_pu (P_ld ag65 cL (ad218.add (i2.toNat * 1)) (.slice A224 n225 c226) rfl (hcl222 0 _ rfl)) ?_
          refine S_pu (P_move (vi j2) rfl) ?_
          refine S_pu (P_move (.slice A137 n138 c139) rfl) ?_
          refine S_pu (P_move (vi i2) rfl) ?_
          obtain ⟨hb230, H⟩ := H
          refine S_pu (P_add i2 1 rfl rfl hb230) ?_
          obtain ⟨hb231, H⟩ := H
          obtain ⟨ad232, A238, n239, c240, hA234, hv241, hcl236, h242⟩ := h229.get (i2 + 1) hb231
          refine S_pu (P_ia Try.underlying66 se66 A137 ad232 n138 c139 h229.len (i2 + 1) rfl hA234 rfl hb231) ?_
          refine S_pu (P_ld ag65 cL (ad232.add ((i2 + 1).toNat * 1)) (.slice A238 n239 c240) rfl (hcl236 0 _ rfl)) ?_
          refine S_pu (P_move (vi j2) rfl) ?_
          obtain ⟨hb243, H⟩ := H
          refine S_pu (P_add j2 1 rfl rfl hb243) ?_
          obtain ⟨hb244, H⟩ := H
          obtain ⟨ad245, cs246, hA247, hR248, hcl249⟩ := h242.get default (by decide) (j2 + 1) hb244
          obtain rfl := Kd.int.op hR248
          refine S_pu (P_ia Try.underlying65 se65 A238 ad245 n239 c240 h242.len (j2 + 1) rfl hA247 rfl hb244) ?_
          refine S_pu (P_ld ag3 cL (ad245.add ((j2 + 1).toNat * 1)) (vi (nth (nth xs6 (i2 + 1)) (j2 + 1))) rfl (hcl249 0 _ rfl)) ?_
          obtain ⟨hb251, H⟩ := H
          refine S_pu (P_add (nth (nth xs6 (i2 + 1)) (j2 + 1)) 1 rfl rfl hb251) ?_
          obtain ⟨hb252, H⟩ := H
          obtain ⟨ad253, cs254, hA255, hR256, hcl257⟩ := h228.get default (by decide) j2 hb252
          obtain rfl := Kd.int.op hR256
          refine S_pu (P_ia Try.underlying65 se65 A224 ad253 n225 c226 h228.len j2 rfl hA255 rfl hb252) ?_
          refine S_nil ?_
          refine L_ste0 A224 n225 c226 (nth xs6 i2) h228 j2 hb252 ad253 hA255 0 rfl [vi ((nth (nth xs6 (i2 + 1)) (j2 + 1)) + 1)] rfl sz3 rfl ((nth (nth xs6 (i2 + 1)) (j2 + 1)) + 1) [vi (nth (nth xs6 i2) j2)] [vi ((nth (nth xs6 (i2 + 1)) (j2 + 1)) + 1)] hcl257 rfl rfl rfl fun w259 g260 h261 => ?_
          have h262 := Tb.ste (O := O) h229 hc216 hv227 g260 h261
          have hc263 := Ct.tb hc216 hv227 g260
          have s264 := St.tb (v := .slice A137 n138 c139) (O := O) ⟨_, hv227⟩ g260
          refine L_nil ?_
          refine W_reg ?_
          refine L_pu (P_move (vi j2) rfl) ?_
          obtain ⟨hb265, H⟩ := H
          refine L_pu (P_sub j2 1 rfl rfl hb265) ?_
          refine L_pu (P_assign (vi (j2 - 1)) rfl) ?_
          refine L_nil ?_
          obtain ⟨hI266, hm267⟩ := H
          have h268 := (((h185.st (.new _ g210)).st (.new _ g215)).st s264)
          have h269 := (((h186.st (.new _ g210)).st (.new _ g215)).st s264)
          exact ⟨((xs6.set i2.toNat ((nth xs6 i2).set j2.toNat ((nth (nth xs6 (i2 + 1)) (j2 + 1)) + 1))), vs183, j2 - 1), hm267, hI266, ⟨rfl, rfl, rfl, rfl, rfl, trivial⟩, hc263, h268, h269, h262⟩
        · have H := ite_f H hq213
          refine W_tail 23 (by kernel_rfl) (by kernel_rfl) fun w270 g271 => ?_
          have hc272 := hc212.k0 g271
          refine S_pu (P_move (.slice A137 n138 c139) rfl) ?_
          refine S_pu (P_move (vi i2) rfl) ?_
          obtain ⟨hb273, H⟩ := H
          have h285 := ((h187.k0 g210).k0 g271)
          obtain ⟨ad274, A280, n281, c282, hA276, hv283, hcl278, h284⟩ := h285.get i2 hb273
          refine S_pu (P_ia Try.underlying66 se66 A137 ad274 n138 c139 h285.len i2 rfl hA276 rfl hb273) ?_
          refine S_pu (P_ld ag65 cL (ad274.add (i2.toNat * 1)) (.slice A280 n281 c282) rfl (hcl278 0 _ rfl)) ?_
          refine S_pu (P_move (vi j2) rfl) ?_
          refine S_pu (P_move (.slice A137 n138 c139) rfl) ?_
          refine S_pu (P_move (vi i2) rfl) ?_
          obtain ⟨hb286, H⟩ := H
          refine S_pu (P_add i2 1 rfl rfl hb286) ?_
          obtain ⟨hb287, H⟩ := H
          obtain ⟨ad288, A294, n295, c296, hA290, hv297, hcl292, h298⟩ := h285.get (i2 + 1) hb287
          refine S_pu (P_ia Try.underlying66 se66 A137 ad288 n138 c139 h285.len (i2 + 1) rfl hA290 rfl hb287) ?_
          refine S_pu (P_ld ag65 cL (ad288.add ((i2 + 1).toNat * 1)) (.slice A294 n295 c296) rfl (hcl292 0 _ rfl)) ?_
          refine S_pu (P_move (vi j2) rfl) ?_
          obtain ⟨hb299, H⟩ := H
          obtain ⟨ad300, cs301, hA302, hR303, hcl304⟩ := h298.get default (by decide) j2 hb299
          obtain rfl := Kd.int.op hR303
          refine S_pu (P_ia Try.underlying65 se65 A294 ad300 n295 c296 h298.len j2 rfl hA302 rfl hb299) ?_
          refine S_pu (P_ld ag3 cL (ad300.add (j2.toNat * 1)) (vi (nth (nth xs6 (i2 + 1)) j2)) rfl (hcl304 0 _ rfl)) ?_
          refine S_pu (P_move (.slice A137 n138 c139) rfl) ?_
          refine S_pu (P_move (vi i2) rfl) ?_
          obtain ⟨hb306, H⟩ := H
          obtain ⟨ad307, A313, n314, c315, hA309, hv316, hcl311, h317⟩ := h285.get i2 hb306
          refine S_pu (P_ia Try.underlying66 se66 A137 ad307 n138 c139 h285.len i2 rfl hA309 rfl hb306) ?_
          refine S_pu (P_ld ag65 cL (ad307.add (i2.toNat * 1)) (.slice A313 n314 c315) rfl (hcl311 0 _ rfl)) ?_
          refine S_pu (P_move (vi j2) rfl) ?_
          obtain ⟨hb318, H⟩ := H
          refine S_pu (P_add j2 1 rfl rfl hb318) ?_
          obtain ⟨hb319, H⟩ := H
          obtain ⟨ad320, cs321, hA322, hR323, hcl324⟩ := h317.get default (by decide) (j2 + 1) hb319
          obtain rfl := Kd.int.op hR323
          refine S_pu (P_ia Try.underlying65 se65 A313 ad320 n314 c315 h317.len (j2 + 1) rfl hA322 rfl hb319) ?_
          refine S_pu (P_ld ag3 cL (ad320.add ((j2 + 1).toNat * 1)) (vi (nth (nth xs6 i2) (j2 + 1))) rfl (hcl324 0 _ rfl)) ?_
          refine S_pu (P_max (nth (nth xs6 (i2 + 1)) j2) (nth (nth xs6 i2) (j2 + 1)) rfl rfl) ?_
          obtain ⟨hb326, H⟩ := H
          obtain ⟨ad327, cs328, hA329, hR330, hcl331⟩ := h284.get default (by decide) j2 hb326
          obtain rfl := Kd.int.op hR330
          refine S_pu (P_ia Try.underlying65 se65 A280 ad327 n281 c282 h284.len j2 rfl hA329 rfl hb326) ?_
          refine S_nil ?_
          refine L_ste0 A280 n281 c282 (nth xs6 i2) h284 j2 hb326 ad327 hA329 0 rfl [vi (max (nth (nth xs6 (i2 + 1)) j2) (nth (nth xs6 i2) (j2 + 1)))] rfl sz3 rfl (max (nth (nth xs6 (i2 + 1)) j2) (nth (nth xs6 i2) (j2 + 1))) [vi (nth (nth xs6 i2) j2)] [vi (max (nth (nth xs6 (i2 + 1)) j2) (nth (nth xs6 i2) (j2 + 1)))] hcl331 rfl rfl rfl fun w333 g334 h335 => ?_
          have h336 := Tb.ste (O := O) h285 hc272 hv283 g334 h335
          have hc337 := Ct.tb hc272 hv283 g334
          have s338 := St.tb (v := .slice A137 n138 c139) (O := O) ⟨_, hv283⟩ g334
          refine L_nil ?_
          refine W_reg ?_
          refine L_pu (P_move (vi j2) rfl) ?_
          obtain ⟨hb339, H⟩ := H
          refine L_pu (P_sub j2 1 rfl rfl hb339) ?_
          refine L_pu (P_assign (vi (j2 - 1)) rfl) ?_
          refine L_nil ?_
          obtain ⟨hI340, hm341⟩ := H
          have h342 := (((h185.st (.new _ g210)).st (.new _ g271)).st s338)
          have h343 := (((h186.st (.new _ g210)).st (.new _ g271)).st s338)
          exact ⟨((xs6.set i2.toNat ((nth xs6 i2).set j2.toNat (max (nth (nth xs6 (i2 + 1)) j2) (nth (nth xs6 i2) (j2 + 1))))), vs183, j2 - 1), hm341, hI340, ⟨rfl, rfl, rfl, rfl, rfl, trivial⟩, hc337, h342, h343, h336⟩
      · have H := ite_f H hq194
        refine W_exit (xin_hit ?_)
        refine W_reg ?_
        refine L_pu (P_move (vi i2) rfl) ?_
        obtain ⟨hb344, H⟩ := H
        refine L_pu (P_sub i2 1 rfl rfl hb344) ?_
        refine L_pu (P_assign (vi (i2 - 1)) rfl) ?_
        refine L_nil ?_
        obtain ⟨hI345, hm346⟩ := H
        exact ⟨(xs6, vs183, A137, n138, c139, i2 - 1), hm346, hI345, ⟨rfl, rfl, rfl, rfl, trivial⟩, hc184, h185, h186, h187⟩
    · have H := ite_f H hq152
      refine W_exit (xin_hit ?_)
      refine W_seq ?_
      refine W_reg ?_
      refine L_pu (P_move (.slice A137 n138 c139) rfl) ?_
      refine L_pu (P_assign (.slice A137 n138 c139) rfl) ?_
      refine L_nil ?_
      refine W_ret ?_
      have h347 := h145.sl hc142
      have hc348 := hc142.clear
      exact ⟨[.slice A137 n138 c139], ⟨_, rfl, rfl⟩, xs4, A137, n138, c139, rfl, H, hc348.gr, h347⟩
end Go.Proofs.Ytnliofcjplnboaa

namespace Go.Proofs.Ytnliofcjplnboaa
set_option linter.unusedVariables false
set_option linter.unusedSimpArgs false
theorem impl_lengths.law (a b : List Pt) (Q : List (List Int) → Prop) (ha : a.length ≤ 1048576) (hb : b.length ≤ 1048576) (hq : ∀ t, Tab a b (fun _ _ => True) t → Q t) : impl_lengths.E a b Q := by
  unfold impl_lengths.E
  have hn : ((b.length : Int) + 1).toNat = b.length + 1 := by omega
  have hm : ((a.length : Int) + 1).toNat = a.length + 1 := by omega
  rw [hn, hm]
  refine ⟨fun _ => by unfold I64; omega, by omega, fun xs v => ∃ k : Nat, v = k ∧ k ≤ a.length + 1 ∧ xs.length = a.length + 1 ∧ ∀ r : Nat, r < k → nth xs (r : Int) = List.replicate (b.length + 1) 0, fun _ v => (a.length + 1 - v).toNat,
    ⟨0, rfl, Nat.zero_le _, by simp, fun r hr => absurd hr (Nat.not_lt_zero _)⟩, ?_⟩
  rintro xs _ ⟨k, rfl, hk, hl, hx⟩
  rw [List.length_replicate]
  by_cases hk0 : (k : Int) < ((a.length + 1 : Nat) : Int)
  · rw [if_pos (by simpa using hk0)]
    refine ⟨fun _ => by unfold I64; omega, by omega, by omega, fun _ => by unfold I64; omega, ⟨k + 1, by omega, by omega, by rw [List.length_set]; exact hl, fun r hr => ?_⟩, by dsimp only; omega⟩
    rw [Int.toNat_natCast, nth_set _ (by omega)]
    by_cases e : r = k
    · rw [if_pos e]
    · rw [if_neg e]; exact hx r (by omega)
  rw [if_neg (by simpa using hk0)]
  refine ⟨fun _ => by unfold I64; omega, fun xs i => ∃ k : Nat, i = (k : Int) - 1 ∧ k ≤ a.length ∧ Tab a b (fun r m => k ≤ r ∨ m = b.length) xs, fun _ i => (i + 1).toNat, ⟨a.length, rfl, Nat.le_refl _, hl, fun r hr => ?_⟩, ?_⟩
  · rw [hx r (by omega)]
    refine ⟨by simp, fun m hm hd => ?_⟩
    rw [nth_rep _ _ _ (by omega)]
    rcases hd with hd | hd
    · rw [List.drop_of_length_le (by omega : a.length ≤ r), lcs_nil]; rfl
    · rw [hd, List.drop_length, lcs_nil2]; rfl
  clear hx hl hk0 hk xs k
  rintro xs _ ⟨k, rfl, hk, ht⟩
  by_cases hk0 : (k : Int) - 1 ≥ 0
  · rw [if_pos (by simpa using hk0)]
    obtain ⟨i, rfl⟩ : ∃ i, k = i + 1 := ⟨k - 1, by omega⟩
    have ei : ((i + 1 : Nat) : Int) - 1 = (i : Int) := by omega
    have ei1 : (i : Int) + 1 = ((i + 1 : Nat) : Int) := by omega
    rw [ei]
    refine ⟨fun _ => by unfold I64; omega, fun ys j => ∃ m : Nat, j = (m : Int) - 1 ∧ m ≤ b.length ∧ Tab a b (fun r u => i < r ∨ (r = i ∧ m ≤ u) ∨ u = b.length) ys, fun _ j => (j + 1).toNat, ⟨b.length, rfl, Nat.le_refl _, ht.1, fun r hr => ⟨(ht.2 r hr).1, fun m hm hd => (ht.2 r hr).2 m hm ?_⟩⟩, ?_⟩
    · omega
    rintro ys _ ⟨m, rfl, hm, hs⟩
    by_cases hm0 : (m : Int) - 1 ≥ 0
    · rw [if_pos (by simpa using hm0)]
      obtain ⟨j, rfl⟩ : ∃ j, m = j + 1 := ⟨m - 1, by omega⟩
      have ej : ((j + 1 : Nat) : Int) - 1 = (j : Int) := by omega
      have ej1 : (j : Int) + 1 = ((j + 1 : Nat) : Int) := by omega
      rw [ej, ej1, ei1, eqPt_is]
      have hl := lcs_drop a b (i := i) (j := j) (by omega) (by omega)
      have s0 := hs.1
      have s1 := hs.2 i (by omega)
      have s2 := hs.2 (i + 1) (by omega)
      have n1 := s2.2 (j + 1) (by omega) (.inl (by omega))
      have n2 := s2.2 j (by omega) (.inl (by omega))
      have n3 := s1.2 (j + 1) (by omega) (.inr (.inl ⟨rfl, by omega⟩))
      have l1 := s1.1
      have l2 := s2.1
      have b1 := lcs_le2 (a.drop (i + 1)) (b.drop (j + 1))
      rw [List.length_drop] at b1
      have hset : ∀ v : Int, v = (lcs (a.drop i) (b.drop j) : Nat) → Tab a b (fun r u => i < r ∨ (r = i ∧ j ≤ u) ∨ u = b.length) (ys.set (i : Int).toNat ((nth ys (i : Int)).set (j : Int).toNat v)) := fun v hv => by
        rw [Int.toNat_natCast, Int.toNat_natCast]
        exact hs.set (by omega) (by omega) hv fun r u h => by omega
      refine ⟨by omega, by omega, ?_⟩
      by_cases he : nth a (i : Int) = nth b (j : Int)
      · rw [if_pos (by simpa using he)]
        rw [if_pos he] at hl
        rw [n1]
        exact ⟨by omega, by unfold I64; omega, by omega, by unfold I64; omega, by omega, by unfold I64; omega, by omega, by unfold I64; omega, ⟨j, by omega, by omega, hset _ (by omega)⟩, by dsimp only; omega⟩
      · rw [if_neg (by simpa using he)]
        rw [if_neg he] at hl
        rw [n2, n3]
        exact ⟨by omega, by unfold I64; omega, by omega, by omega, by omega, by unfold I64; omega, by omega, by omega, by unfold I64; omega, ⟨j, by omega, by omega, hset _ (by omega)⟩, by dsimp only; omega⟩
    · rw [if_neg (by simpa using hm0)]
      have : m = 0 := by omega
      subst this
      refine ⟨by unfold I64; omega, ⟨i, by omega, by omega, hs.1, fun r hr => ⟨(hs.2 r hr).1, fun m hm hd => (hs.2 r hr).2 m hm ?_⟩⟩, by dsimp only; omega⟩
      omega
  · rw [if_neg (by simpa using hk0)]
    have : k = 0 := by omega
    subst this
    exact hq _ ⟨ht.1, fun r hr => ⟨(ht.2 r hr).1, fun m hm _ => (ht.2 r hr).2 m hm (.inl (Nat.zero_le _))⟩⟩
end Go.Proofs.Ytnliofcjplnboaa

namespace Go.Proofs.Ytnliofcjplnboaa
open Go.RowKit
set_option linter.unusedVariables false
def impl_SeqPairs.E (a : List Pt) (b : List Pt) (Q : List Pair → Prop) : Prop :=
  (if decide ((a.length : Int) > 12) then Q ([] : List Pair) else (if decide ((b.length : Int) > 12) then Q ([] : List Pair) else impl_lengths.E a b (fun r => (∃ (I71 : (List Pair) → Int → Int → Prop) (mu72 : (List Pair) → Int → Int → Nat), I71 ([] : List Pair) 0 0 ∧ ∀ (xs2 : List Pair) (i2 : Int) (j2 : Int), I71 xs2 i2 j2 → (if decide (i2 < (a.length : Int)) then (if decide (j2 < (b.length : Int)) then ((0 : Int) ≤ i2 ∧ i2 < (a.length : Int)) ∧ ((0 : Int) ≤ j2 ∧ j2 < (b.length : Int)) ∧ (if eqPt (nth a i2) (nth b j2) then (xs2.length + ([(⟨i2, j2⟩ : Pair)] : List Pair).length ≤ 268435456) ∧ (-9223372036854775808 ≤ i2) ∧ (-9223372036854775808 ≤ j2) ∧ I71 (xs2 ++ ([(⟨i2, j2⟩ : Pair)] : List Pair)) (i2 + 1) (j2 + 1) ∧ mu72 (xs2 ++ ([(⟨i2, j2⟩ : Pair)] : List Pair)) (i2 + 1) (j2 + 1) < mu72 xs2 i2 j2 else (-9223372036854775808 ≤ i2) ∧ ((0 : Int) ≤ i2 + 1 ∧ i2 + 1 < (r.length : Int)) ∧ ((0 : Int) ≤ j2 ∧ j2 < ((nth r (i2 + 1)).length : Int)) ∧ ((0 : Int) ≤ i2 ∧ i2 < (r.length : Int)) ∧ (-9223372036854775808 ≤ j2) ∧ ((0 : Int) ≤ j2 + 1 ∧ j2 + 1 < ((nth r i2).length : Int)) ∧ (if decide ((nth (nth r (i2 + 1)) j2) ≥ (nth (nth r i2) (j2 + 1))) then (-9223372036854775808 ≤ i2) ∧ I71 xs2 (i2 + 1) j2 ∧ mu72 xs2 (i2 + 1) j2 < mu72 xs2 i2 j2 else (-9223372036854775808 ≤ j2) ∧ I71 xs2 i2 (j2 + 1) ∧ mu72 xs2 i2 (j2 + 1) < mu72 xs2 i2 j2)) else Q xs2) else Q xs2)))))
set_option maxHeartbeats 8000000 in
set_option maxRecDepth 100000 in
theorem impl_SeqPairs.calls {O : Ob} (w0 : World) (hO : Ok w0 O) (a : List Pt) (A1 : Option Addr) (n2 c3 : Nat) (hp4 : Sl kPt w0 (Fr O) (.slice A1 n2 c3) a) (b : List Pt) (A6 : Option Addr) (n7 c8 : Nat) (hp9 : Sl kPt w0 (Fr O) (.slice A6 n7 c8) b) (Q : List Pair → Prop) (h : impl_SeqPairs.E a b Q) :
    Ret Try.prog 29 [.slice A1 n2 c3, .slice A6 n7 c8] w0 (fun v w' => ∃ (r0 : List Pair) (A0 : Option Addr) (n0 c0 : Nat), v = .slice A0 n0 c0 ∧ Q r0 ∧ Gr w0 w' none ∧ Ok w' ([blk (.slice A0 n0 c0)] ++ O) ∧ (∀ b, some b ∈ [blk (.slice A0 n0 c0)] → w0.heap.size ≤ b) ∧ Ow kPair 46 w' ([blk (.slice A0 n0 c0)] ++ O) (.slice A0 n0 c0) r0) := by
  have H : (if decide ((a.length : Int) > 12) then Q ([] : List Pair) else (if decide ((b.length : Int) > 12) then Q ([] : List Pair) else impl_lengths.E a b (fun r => (∃ (I71 : (List Pair) → Int → Int → Prop) (mu72 : (List Pair) → Int → Int → Nat), I71 ([] : List Pair) 0 0 ∧ ∀ (xs2 : List Pair) (i2 : Int) (j2 : Int), I71 xs2 i2 j2 → (if decide (i2 < (a.length : Int)) then (if decide (j2 < (b.length : Int)) then ((0 : Int) ≤ i2 ∧ i2 < (a.length : Int)) ∧ ((0 : Int) ≤ j2 ∧ j2 < (b.length : Int)) ∧ (if eqPt (nth a i2) (nth b j2) then (xs2.length + ([(⟨i2, j2⟩ : Pair)] : List Pair).length ≤ 268435456) ∧ (-9223372036854775808 ≤ i2) ∧ (-9223372036854775808 ≤ j2) ∧ I71 (xs2 ++ ([(⟨i2, j2⟩ : Pair)] : List Pair)) (i2 + 1) (j2 + 1) ∧ mu72 (xs2 ++ ([(⟨i2, j2⟩ : Pair)] : List Pair)) (i2 + 1) (j2 + 1) < mu72 xs2 i2 j2 else (-9223372036854775808 ≤ i2) ∧ ((0 : Int) ≤ i2 + 1 ∧ i2 + 1 < (r.length : Int)) ∧ ((0 : Int) ≤ j2 ∧ j2 < ((nth r (i2 + 1)).length : Int)) ∧ ((0 : Int) ≤ i2 ∧ i2 < (r.length : Int)) ∧ (-9223372036854775808 ≤ j2) ∧ ((0 : Int) ≤ j2 + 1 ∧ j2 + 1 < ((nth r i2).length : Int)) ∧ (if decide ((nth (nth r (i2 + 1)) j2) ≥ (nth (nth r i2) (j2 + 1))) then (-9223372036854775808 ≤ i2) ∧ I71 xs2 (i2 + 1) j2 ∧ mu72 xs2 (i2 + 1) j2 < mu72 xs2 i2 j2 else (-9223372036854775808 ≤ j2) ∧ I71 xs2 i2 (j2 + 1) ∧ mu72 xs2 i2 (j2 + 1) < mu72 xs2 i2 j2)) else Q xs2) else Q xs2))))) := h
  clear h
  have hc0 := Ct.init hO
  refine Ret_enter Try.func29 rfl 75 rfl [.tmp 4] rfl rfl ?_
  refine W_seq ?_
  refine W_reg ?_
  refine L_pu (P_assign (.slice none 0 0) rfl) ?_
  refine L_nil ?_
  refine W_seq ?_
  refine W_reg ?_
  refine L_lit (kd := kPair) ei43 hc0 ([] : List Pair) (cells := []) rfl (fun _ => by kernel_rfl) fun w11 A12 n13 c14 g15 hr16 hc17 h18 => ?_
  refine L_pu (P_assign (.slice A12 n13 c14) rfl) ?_
  refine L_nil ?_
  refine W_seq ?_
  refine W_seq ?_
  refine W_reg ?_
  refine L_pu (P_move (.slice A1 n2 c3) rfl) ?_
  have hl20 := (hp4.st hc17.st).le
  refine L_pu (P_len Try.underlying33 A1 n2 c3 (hp4.st hc17.st).len rfl) ?_
  refine L_pu (P_cmp (a.length : Int) 12 (decide ((a.length : Int) > 12)) rfl rfl rfl) ?_
  refine L_pu (P_move (vb (decide ((a.length : Int) > 12))) rfl) ?_
  rcases bool_or (decide ((a.length : Int) > 12)) with hq21 | hq21
  · have H := ite_t H hq21
    refine L_pass (dj := 13) rfl rfl (.inl (by exact congrArg Value.bool hq21)) ?_
    refine L_pass (dj := 13) rfl rfl (.inl (by exact congrArg Value.bool hq21)) ?_
    refine L_pass (dj := 13) rfl rfl (.inl (by exact congrArg Value.bool hq21)) ?_
    refine L_pu (P_pick true (vb true) (by exact congrArg Value.bool hq21) rfl) ?_
    refine L_nil ?_
    refine W_ct (b := true) rfl rfl ?_
    refine W_seq ?_
    refine W_reg ?_
    refine L_pu (P_move (.slice A12 n13 c14) rfl) ?_
    refine L_pu (P_assign (.slice A12 n13 c14) rfl) ?_
    refine L_nil ?_
    refine W_ret ?_
    exact ⟨[.slice A12 n13 c14], ⟨_, rfl, rfl⟩, ([] : List Pair), A12, n13, c14, rfl, H, hc17.gr, hc17.ok, hc17.ge, h18⟩
  · have H := ite_f H hq21
    refine L_run (dj := 13) rfl rfl (by exact congrArg Value.bool hq21) ?_
    refine L_pu (P_move (.slice A6 n7 c8) rfl) ?_
    refine L_run (dj := 13) rfl rfl (by exact congrArg Value.bool hq21) ?_
    have hl22 := (hp9.st hc17.st).le
    refine L_pu (P_len Try.underlying33 A6 n7 c8 (hp9.st hc17.st).len rfl) ?_
    refine L_run (dj := 13) rfl rfl (by exact congrArg Value.bool hq21) ?_
    refine L_pu (P_cmp (b.length : Int) 12 (decide ((b.length : Int) > 12)) rfl rfl rfl) ?_
    refine L_pu (P_pick false (vb (decide ((b.length : Int) > 12))) (by exact congrArg Value.bool hq21) rfl) ?_
    refine L_nil ?_
    refine W_cond (decide ((b.length : Int) > 12)) rfl (fun hq23 => ?_) (fun hq23 => ?_)
    · have H := ite_t H hq23
      refine W_seq ?_
      refine W_reg ?_
      refine L_pu (P_move (.slice A12 n13 c14) rfl) ?_
      refine L_pu (P_assign (.slice A12 n13 c14) rfl) ?_
      refine L_nil ?_
      refine W_ret ?_
      exact ⟨[.slice A12 n13 c14], ⟨_, rfl, rfl⟩, ([] : List Pair), A12, n13, c14, rfl, H, hc17.gr, hc17.ok, hc17.ge, h18⟩
    · have H := ite_f H hq23
      refine W_skip ?_
      refine W_seq ?_
      refine W_reg ?_
      refine L_pu (P_move (.slice A1 n2 c3) rfl) ?_
      refine L_pu (P_move (.slice A6 n7 c8) rfl) ?_
      refine L_call go48 [.slice A1 n2 c3, .slice A6 n7 c8] rfl ((impl_lengths.calls w11 hc17.ok a A1 n2 c3 (hp4.st hc17.st) b A6 n7 c8 (hp9.st hc17.st) _ H).mono ?_)
      rintro _ w24 ⟨r, A26, n27, c28, rfl, H, g25, h29⟩
      have hc33 := hc17.k0 g25
      refine L_pu (P_assign (.slice A26 n27 c28) rfl) ?_
      refine L_nil ?_
      refine W_seq ?_
      refine W_seq ?_
      refine W_reg ?_
      refine L_pu (P_assign (vi 0) rfl) ?_
      refine L_pu (P_assign (vi 0) rfl) ?_
      refine L_nil ?_
      refine W_block ?_
      obtain ⟨I71, mu72, hI73, H⟩ := H
      have h75 := (h18.sn g25)
      refine W_loop (α := (List Pair) × (Option Addr) × Nat × Nat × Int × Int) (fun (sv__ : (List Pair) × (Option Addr) × Nat × Nat × Int × Int) t w58 => match sv__ with | (xs2, A61, n62, c63, i2, j2) => I71 xs2 i2 j2 ∧ Has t [(0, .slice A1 n2 c3), (1, .slice A6 n7 c8), (5, .slice A61 n62 c63), (6, .slice A26 n27 c28), (7, vi i2), (8, vi j2)] ∧ Ct none w0 w58 [blk (.slice A61 n62 c63)] O ∧ Sl kPt w58 (Fr ([blk (.slice A61 n62 c63)] ++ O)) (.slice A1 n2 c3) a ∧ Sl kPt w58 (Fr ([blk (.slice A61 n62 c63)] ++ O)) (.slice A6 n7 c8) b ∧ Sl (Kd.sl (Kd.int .i64)) w58 (Fr ([blk (.slice A61 n62 c63)] ++ O)) (.slice A26 n27 c28) r ∧ Ow kPair 46 w58 ([blk (.slice A61 n62 c63)] ++ O) (.slice A61 n62 c63) xs2) (fun (sv__ : (List Pair) × (Option Addr) × Nat × Nat × Int × Int) => match sv__ with | (xs2, _, _, _, i2, j2) => mu72 xs2 i2 j2) (([] : List Pair), A12, n13, c14, 0, 0) ⟨hI73, ⟨rfl, rfl, rfl, rfl, rfl, rfl, trivial⟩, hc33, (hp4.st hc33.st), (hp9.st hc33.st), h29, h75⟩ ?_
      rintro ⟨xs2, A61, n62, c63, i2, j2⟩ _ w58 ⟨hI73, hh76, hc66, h67, h68, h69, h70⟩
      obtain ⟨u77, rfl⟩ := Has.ins hh76
      have H := H xs2 i2 j2 hI73
      refine W_seq ?_
      refine W_seq ?_
      refine W_reg ?_
      refine L_pu (P_move (vi i2) rfl) ?_
      refine L_pu (P_move (.slice A1 n2 c3) rfl) ?_
      have hl78 := h67.le
      refine L_pu (P_len Try.underlying33 A1 n2 c3 h67.len rfl) ?_
      refine L_pu (P_cmp i2 (a.length : Int) (decide (i2 < (a.length : Int))) rfl rfl rfl) ?_
      refine L_pu (P_move (vb (decide (i2 < (a.length : Int)))) rfl) ?_
      rcases bool_or (decide (i2 < (a.length : Int))) with hq79 | hq79
      · have H := ite_t H hq79
        refine L_run (dj := 26) rfl rfl (by exact congrArg Value.bool hq79) ?_
        refine L_pu (P_move (vi j2) rfl) ?_
        refine L_run (dj := 26) rfl rfl (by exact congrArg Value.bool hq79) ?_
        refine L_pu (P_move (.slice A6 n7 c8) rfl) ?_
        refine L_run (dj := 26) rfl rfl (by exact congrArg Value.bool hq79) ?_
        have hl80 := h68.le
        refine L_pu (P_len Try.underlying33 A6 n7 c8 h68.len rfl) ?_
        refine L_run (dj := 26) rfl rfl (by exact congrArg Value.bool hq79) ?_
        refine L_pu (P_cmp j2 (b.length : Int) (decide (j2 < (b.length : Int))) rfl rfl rfl) ?_
        refine L_pu (P_pick true (vb (decide (j2 < (b.length : Int)))) (by exact congrArg Value.bool hq79) rfl) ?_
        refine L_nil ?_
        refine W_cond (decide (j2 < (b.length : Int))) rfl (fun hq81 => ?_) (fun hq81 => ?_)
        · have H := ite_t H hq81
          refine W_skip ?_
          refine W_block ?_
          refine W_block ?_
          refine W_seq ?_
          refine W_draw (fun x => Gr w58 x none) (by kernel_rfl) (by kernel_rfl) (Gr.drew _) ?_
          refine Q_pu (P_move (.slice A1 n2 c3) rfl) ?_
          refine Q_pu (P_move (vi i2) rfl) ?_
          obtain ⟨hb82, H⟩ := H
          obtain ⟨ad83, cs84, hA85, hS88, hR86, hcl87⟩ := h67.get default (by decide) i2 hb82
          obtain rfl := kPt.op hR86
          refine Q_pu (P_ia Try.underlying33 se33 A1 ad83 n2 c3 h67.len i2 rfl hA85 rfl hb82) ?_
          refine Q_pu (P_lda ag41 sz41 cQ (ad83.add (i2.toNat * 2)) [vi ((nth a i2).X), vi ((nth a i2).Y)] rfl rfl hcl87) ?_
          refine Q_pu (P_move (.slice A6 n7 c8) rfl) ?_
          refine Q_pu (P_move (vi j2) rfl) ?_
          obtain ⟨hb89, H⟩ := H
          obtain ⟨ad90, cs91, hA92, hS95, hR93, hcl94⟩ := h68.get default (by decide) j2 hb89
          obtain rfl := kPt.op hR93
          refine Q_pu (P_ia Try.underlying33 se33 A6 ad90 n7 c8 h68.len j2 rfl hA92 rfl hb89) ?_
          refine Q_pu (P_lda ag41 sz41 cQ (ad90.add (j2.toNat * 2)) [vi ((nth b j2).X), vi ((nth b j2).Y)] rfl rfl hcl94) ?_
          refine Q_pu (P_eq _ _ (eqPt (nth a i2) (nth b j2)) (qt41 (nth a i2) (nth b j2)) rfl rfl) ?_
          refine Q_pu (P_assign (vb (eqPt (nth a i2) (nth b j2))) rfl) ?_
          refine Q_nil fun w96 g97 => ?_
          have hc99 := hc66.k0 g97
          refine W_cond (eqPt (nth a i2) (nth b j2)) rfl (fun hq100 => ?_) (fun hq100 => ?_)
          · have H := ite_t H hq100
            refine W_seq ?_
            refine W_reg ?_
            refine L_pu (P_move (.slice A61 n62 c63) rfl) ?_
            refine L_pu (P_move (vi i2) rfl) ?_
            refine L_pu (P_move (vi j2) rfl) ?_
            refine L_pu (P_build (.agg #[vi i2, vi j2]) (fun _ => by kernel_rfl)) ?_
            refine L_lit (kd := kPair) ei43 hc99 ([(⟨i2, j2⟩ : Pair)] : List Pair) (cells := [vi i2, vi j2]) ⟨[vi i2, vi j2], _, rfl, (kPair.mk _ _ (⟨i2, j2⟩ : Pair)), rfl⟩ (fun _ => by kernel_rfl) fun w101 A102 n103 c104 g105 hr106 hc107 h108 => ?_
            obtain ⟨hb110, H⟩ := H
            have h111 := ((h70.sn g97).so _ g105 hr106)
            refine L_app ei43 hc107 (.slice A61 n62 c63) xs2 ([(⟨i2, j2⟩ : Pair)] : List Pair) rfl h111 (.slice A102 n103 c104) rfl h108.sx 1 rfl hb110 fun w112 A113 n114 c115 g116 s117 hc118 h119 => ?_
            refine L_pu (P_assign (.slice A113 n114 c115) rfl) ?_
            refine L_nil ?_
            refine W_seq ?_
            refine W_reg ?_
            refine L_pu (P_move (vi i2) rfl) ?_
            obtain ⟨hb122, H⟩ := H
            have hi121 : I64 (i2 + 1) := i64_succ (of_decide_eq_true hq79) hl78 hb122
            refine L_pu (P_add i2 1 rfl rfl hi121) ?_
            refine L_pu (P_assign (vi (i2 + 1)) rfl) ?_
            refine L_nil ?_
            refine W_reg ?_
            refine L_pu (P_move (vi j2) rfl) ?_
            obtain ⟨hb124, H⟩ := H
            have hi123 : I64 (j2 + 1) := i64_succ (of_decide_eq_true hq81) hl80 hb124
            refine L_pu (P_add j2 1 rfl rfl hi123) ?_
            refine L_pu (P_assign (vi (j2 + 1)) rfl) ?_
            refine L_nil ?_
            have hc125 := hc118.drop 0 rfl
            obtain ⟨hI126, hm127⟩ := H
            have h128 := ((((h67.st (.new _ g97)).st (.own _ _ g105 hr106)).st s117).st (.dr _ (L := [blk (.slice A102 n103 c104), blk (.slice A113 n114 c115)]) (O := O) (j := 0) rfl))
            have h129 := ((((h68.st (.new _ g97)).st (.own _ _ g105 hr106)).st s117).st (.dr _ (L := [blk (.slice A102 n103 c104), blk (.slice A113 n114 c115)]) (O := O) (j := 0) rfl))
            have h130 := ((((h69.st (.new _ g97)).st (.own _ _ g105 hr106)).st s117).st (.dr _ (L := [blk (.slice A102 n103 c104), blk (.slice A113 n114 c115)]) (O := O) (j := 0) rfl))
            have h131 := (Ow.sd (L := [blk (.slice A102 n103 c104), blk (.slice A113 n114 c115)]) (O := O) h119 (i := 1) rfl (j := 0) rfl (by decide))
            exact ⟨((xs2 ++ ([(⟨i2, j2⟩ : Pair)] : List Pair)), A113, n114, c115, i2 + 1, j2 + 1), hm127, hI126, ⟨rfl, rfl, rfl, rfl, rfl, rfl, trivial⟩, hc125, h128, h129, h130, h131⟩
          · have H := ite_f H hq100
            refine W_seq ?_
            refine W_draw (fun x => Gr w96 x none) (by kernel_rfl) (by kernel_rfl) (Gr.drew _) ?_
            refine Q_pu (P_move (.slice A26 n27 c28) rfl) ?_
            refine Q_pu (P_move (vi i2) rfl) ?_
            obtain ⟨hb133, H⟩ := H
            have hi132 : I64 (i2 + 1) := i64_succ (of_decide_eq_true hq79) hl78 hb133
            refine Q_pu (P_add i2 1 rfl rfl hi132) ?_
            obtain ⟨hb134, H⟩ := H
            obtain ⟨ad135, cs136, hA137, hS140, hR138, hcl139⟩ := (h69.st (.new _ g97)).get default (by decide) (i2 + 1) hb134
            obtain ⟨A141, n142, c143, rfl, h144⟩ := Kd.sl.op hR138
            refine Q_pu (P_ia Try.underlying66 se66 A26 ad135 n27 c28 (h69.st (.new _ g97)).len (i2 + 1) rfl hA137 rfl hb134) ?_
            refine Q_pu (P_ld ag65 cQ (ad135.add ((i2 + 1).toNat * 1)) (.slice A141 n142 c143) rfl (hcl139 0 _ rfl)) ?_
            refine Q_pu (P_move (vi j2) rfl) ?_
            obtain ⟨hb146, H⟩ := H
            obtain ⟨ad147, cs148, hA149, hS152, hR150, hcl151⟩ := h144.get default (by decide) j2 hb146
            obtain rfl := Kd.int.op hR150
            refine Q_pu (P_ia Try.underlying65 se65 A141 ad147 n142 c143 h144.len j2 rfl hA149 rfl hb146) ?_
            refine Q_pu (P_ld ag3 cQ (ad147.add (j2.toNat * 1)) (vi (nth (nth r (i2 + 1)) j2)) rfl (hcl151 0 _ rfl)) ?_
            refine Q_pu (P_move (.slice A26 n27 c28) rfl) ?_
            refine Q_pu (P_move (vi i2) rfl) ?_
            obtain ⟨hb153, H⟩ := H
            obtain ⟨ad154, cs155, hA156, hS159, hR157, hcl158⟩ := (h69.st (.new _ g97)).get default (by decide) i2 hb153
            obtain ⟨A160, n161, c162, rfl, h163⟩ := Kd.sl.op hR157
            refine Q_pu (P_ia Try.underlying66 se66 A26 ad154 n27 c28 (h69.st (.new _ g97)).len i2 rfl hA156 rfl hb153) ?_
            refine Q_pu (P_ld ag65 cQ (ad154.add (i2.toNat * 1)) (.slice A160 n161 c162) rfl (hcl158 0 _ rfl)) ?_
            refine Q_pu (P_move (vi j2) rfl) ?_
            obtain ⟨hb166, H⟩ := H
            have hi165 : I64 (j2 + 1) := i64_succ (of_decide_eq_true hq81) hl80 hb166
            refine Q_pu (P_add j2 1 rfl rfl hi165) ?_
            obtain ⟨hb167, H⟩ := H
            obtain ⟨ad168, cs169, hA170, hS173, hR171, hcl172⟩ := h163.get default (by decide) (j2 + 1) hb167
            obtain rfl := Kd.int.op hR171
            refine Q_pu (P_ia Try.underlying65 se65 A160 ad168 n161 c162 h163.len (j2 + 1) rfl hA170 rfl hb167) ?_
            refine Q_pu (P_ld ag3 cQ (ad168.add ((j2 + 1).toNat * 1)) (vi (nth (nth r i2) (j2 + 1))) rfl (hcl172 0 _ rfl)) ?_
            refine Q_pu (P_cmp (nth (nth r (i2 + 1)) j2) (nth (nth r i2) (j2 + 1)) (decide ((nth (nth r (i2 + 1)) j2) ≥ (nth (nth r i2) (j2 + 1)))) rfl rfl rfl) ?_
            refine Q_pu (P_assign (vb (decide ((nth (nth r (i2 + 1)) j2) ≥ (nth (nth r i2) (j2 + 1))))) rfl) ?_
            refine Q_nil fun w174 g175 => ?_
            have hc177 := hc99.k0 g175
            refine W_cond (decide ((nth (nth r (i2 + 1)) j2) ≥ (nth (nth r i2) (j2 + 1)))) rfl (fun hq178 => ?_) (fun hq178 => ?_)
            · have H := ite_t H hq178
              refine W_reg ?_
              refine L_pu (P_move (vi i2) rfl) ?_
              obtain ⟨hb180, H⟩ := H
              have hi179 : I64 (i2 + 1) := i64_succ (of_decide_eq_true hq79) hl78 hb180
              refine L_pu (P_add i2 1 rfl rfl hi179) ?_
              refine L_pu (P_assign (vi (i2 + 1)) rfl) ?_
              refine L_nil ?_
              obtain ⟨hI181, hm182⟩ := H
              have h183 := ((h67.st (.new _ g97)).st (.new _ g175))
              have h184 := ((h68.st (.new _ g97)).st (.new _ g175))
              have h185 := ((h69.st (.new _ g97)).st (.new _ g175))
              have h186 := ((h70.sn g97).sn g175)
              exact ⟨(xs2, A61, n62, c63, i2 + 1, j2), hm182, hI181, ⟨rfl, rfl, rfl, rfl, rfl, rfl, trivial⟩, hc177, h183, h184, h185, h186⟩
            · have H := ite_f H hq178
              refine W_reg ?_
              refine L_pu (P_move (vi j2) rfl) ?_
              obtain ⟨hb188, H⟩ := H
              have hi187 : I64 (j2 + 1) := i64_succ (of_decide_eq_true hq81) hl80 hb188
              refine L_pu (P_add j2 1 rfl rfl hi187) ?_
              refine L_pu (P_assign (vi (j2 + 1)) rfl) ?_
              refine L_nil ?_
              obtain ⟨hI189, hm190⟩ := H
              have h191 := ((h67.st (.new _ g97)).st (.new _ g175))
              have h192 := ((h68.st (.new _ g97)).st (.new _ g175))
              have h193 := ((h69.st (.new _ g97)).st (.new _ g175))
              have h194 := ((h70.sn g97).sn g175)
              exact ⟨(xs2, A61, n62, c63, i2, j2 + 1), hm190, hI189, ⟨rfl, rfl, rfl, rfl, rfl, rfl, trivial⟩, hc177, h191, h192, h193, h194⟩
        · have H := ite_f H hq81
          refine W_exit (xin_hit ?_)
          refine W_seq ?_
          refine W_reg ?_
          refine L_pu (P_move (.slice A61 n62 c63) rfl) ?_
          refine L_pu (P_assign (.slice A61 n62 c63) rfl) ?_
          refine L_nil ?_
          refine W_ret ?_
          exact ⟨[.slice A61 n62 c63], ⟨_, rfl, rfl⟩, xs2, A61, n62, c63, rfl, H, hc66.gr, hc66.ok, hc66.ge, h70⟩
      · have H := ite_f H hq79
        refine L_pass (dj := 26) rfl rfl (.inl (by exact congrArg Value.bool hq79)) ?_
        refine L_pass (dj := 26) rfl rfl (.inl (by exact congrArg Value.bool hq79)) ?_
        refine L_pass (dj := 26) rfl rfl (.inl (by exact congrArg Value.bool hq79)) ?_
        refine L_pass (dj := 26) rfl rfl (.inl (by exact congrArg Value.bool hq79)) ?_
        refine L_pu (P_pick false (vb false) (by exact congrArg Value.bool hq79) rfl) ?_
        refine L_nil ?_
        refine W_cf (b := false) rfl rfl ?_
        refine W_exit (xin_hit ?_)
        refine W_seq ?_
        refine W_reg ?_
        refine L_pu (P_move (.slice A61 n62 c63) rfl) ?_
        refine L_pu (P_assign (.slice A61 n62 c63) rfl) ?_
        refine L_nil ?_
        refine W_ret ?_
        exact ⟨[.slice A61 n62 c63], ⟨_, rfl, rfl⟩, xs2, A61, n62, c63, rfl, H, hc66.gr, hc66.ok, hc66.ge, h70⟩
end Go.Proofs.Ytnliofcjplnboaa

namespace Go.Proofs.Ytnliofcjplnboaa
set_option linter.unusedVariables false
set_option linter.unusedSimpArgs false
theorem impl_SeqPairs.law (a b : List Pt) (Q : List Pair → Prop) (hq : Q (spairs a b)) : impl_SeqPairs.E a b Q := by
  unfold impl_SeqPairs.E
  unfold spairs at hq
  by_cases h1 : (a.length : Int) > 12
  · rw [if_pos (by simpa using h1)]
    rw [if_neg (by rw [few_iff]; omega)] at hq; exact hq
  rw [if_neg (by simpa using h1)]
  by_cases h2 : (b.length : Int) > 12
  · rw [if_pos (by simpa using h2)]
    rw [if_neg (by rw [few_iff]; omega)] at hq; exact hq
  rw [if_neg (by simpa using h2)]
  rw [if_pos (by rw [few_iff]; omega)] at hq
  refine impl_lengths.law _ _ _ (by omega) (by omega) fun t ht => ?_
  refine ⟨fun xs i j => ∃ u v : Nat, i = u ∧ j = v ∧ u ≤ a.length ∧ v ≤ b.length ∧ xs ++ (pairs u v (a.drop u) (b.drop v)).map mkP = (pairs 0 0 a b).map mkP, fun _ i j => ((a.length - i) + (b.length - j)).toNat, ⟨0, 0, rfl, rfl, Nat.zero_le _, Nat.zero_le _, rfl⟩, ?_⟩
  rintro xs _ _ ⟨u, v, rfl, rfl, hu, hv, hx⟩
  by_cases hu0 : (u : Int) < (a.length : Int)
  · rw [if_pos (by simpa using hu0)]
    by_cases hv0 : (v : Int) < (b.length : Int)
    · rw [if_pos (by simpa using hv0)]
      have hu1 : u < a.length := by omega
      have hv1 : v < b.length := by omega
      rw [pairs_drop a b hu1 hv1] at hx
      have eu : (u : Int) + 1 = ((u + 1 : Nat) : Int) := by omega
      have ev : (v : Int) + 1 = ((v + 1 : Nat) : Int) := by omega
      rw [eqPt_is, eu, ev]
      refine ⟨by omega, by omega, ?_⟩
      by_cases he : nth a (u : Int) = nth b (v : Int)
      · rw [if_pos (by simpa using he)]
        rw [if_pos he, List.map_cons] at hx
        have hl := congrArg List.length hx
        rw [List.length_map, pairs_len, List.length_append] at hl
        have := lcs_le1 a b
        exact ⟨by simp only [List.length_singleton]; omega, by omega, by omega, ⟨u + 1, v + 1, rfl, rfl, by omega, by omega, by rw [List.append_assoc]; exact hx⟩, by dsimp only; omega⟩
      · rw [if_neg (by simpa using he)]
        rw [if_neg he] at hx
        have t0 := ht.1
        have t1 := ht.2 u (by omega)
        have t2 := ht.2 (u + 1) (by omega)
        have n1 := t2.2 v (by omega) trivial
        have n2 := t1.2 (v + 1) (by omega) trivial
        have l1 := t1.1
        have l2 := t2.1
        refine ⟨by omega, by omega, by omega, by omega, by omega, by omega, ?_⟩
        rw [n1, n2]
        by_cases hc : lcs (a.drop u) (b.drop (v + 1)) ≤ lcs (a.drop (u + 1)) (b.drop v)
        · rw [if_pos (by simpa using hc)]
          rw [if_pos hc] at hx
          exact ⟨by omega, ⟨u + 1, v, rfl, rfl, by omega, by omega, hx⟩, by dsimp only; omega⟩
        · rw [if_neg (by simpa using hc)]
          rw [if_neg hc] at hx
          exact ⟨by omega, ⟨u, v + 1, rfl, rfl, by omega, by omega, hx⟩, by dsimp only; omega⟩
    · rw [if_neg (by simpa using hv0)]
      rw [List.drop_of_length_le (by omega : b.length ≤ v), pairs_nil2, List.map_nil, List.append_nil] at hx
      rw [hx]; exact hq
  · rw [if_neg (by simpa using hu0)]
    rw [List.drop_of_length_le (by omega : a.length ≤ u), pairs_nil, List.map_nil, List.append_nil] at hx
    rw [hx]; exact hq
end Go.Proofs.Ytnliofcjplnboaa

namespace Go.Proofs.Ytnliofcjplnboaa
open Go.RowKit
set_option linter.unusedVariables false
def impl_partner.E (list : List Pair) (at_ : Int) (Q : Int → Prop) : Prop :=
  (∃ (I19 : Int → Prop) (mu20 : Int → Nat), I19 0 ∧ ∀ (v2 : Int), I19 v2 → (if decide (v2 < (list.length : Int)) then ((0 : Int) ≤ v2 ∧ v2 < (list.length : Int)) ∧ (if ((nth list v2).A) == at_ then Q ((nth list v2).B) else (I64 (v2 + 1)) ∧ I19 (v2 + 1) ∧ mu20 (v2 + 1) < mu20 v2) else Q (-1)))
set_option maxHeartbeats 8000000 in
set_option maxRecDepth 100000 in
theorem impl_partner.calls {O : Ob} (w0 : World) (hO : Ok w0 O) (list : List Pair) (A1 : Option Addr) (n2 c3 : Nat) (hp4 : Sl kPair w0 (Fr O) (.slice A1 n2 c3) list) (at_ : Int) (Q : Int → Prop) (h : impl_partner.E list at_ Q) :
    Ret Try.prog 53 [.slice A1 n2 c3, vi at_] w0 (fun v w' => ∃ (r0 : Int), v = vi r0 ∧ Q r0 ∧ Gr w0 w' none) := by
  have H : (∃ (I19 : Int → Prop) (mu20 : Int → Nat), I19 0 ∧ ∀ (v2 : Int), I19 v2 → (if decide (v2 < (list.length : Int)) then ((0 : Int) ≤ v2 ∧ v2 < (list.length : Int)) ∧ (if ((nth list v2).A) == at_ then Q ((nth list v2).B) else (I64 (v2 + 1)) ∧ I19 (v2 + 1) ∧ mu20 (v2 + 1) < mu20 v2) else Q (-1))) := h
  clear h
  have hc0 := Ct.init hO
  refine Ret_enter Try.func53 rfl 20 rfl [.tmp 4] rfl rfl ?_
  refine W_seq ?_
  refine W_reg ?_
  refine L_pu (P_assign (vi 0) rfl) ?_
  refine L_nil ?_
  refine W_seq ?_
  refine W_seq ?_
  refine W_reg ?_
  refine L_pu (P_move (.slice A1 n2 c3) rfl) ?_
  have hl6 := hp4.le
  refine L_pu (P_len Try.underlying43 A1 n2 c3 hp4.len rfl) ?_
  refine L_pu (P_move (vi 0) rfl) ?_
  refine L_nil ?_
  refine W_block ?_
  obtain ⟨I19, mu20, hI21, H⟩ := H
  refine W_loop (α := Int) (fun (sv__ : Int) t w15 => match sv__ with | v2 => I19 v2 ∧ Has t [(1, vi at_), (7, .slice A1 n2 c3), (8, vi (list.length : Int)), (9, vi v2)] ∧ Ct none w0 w15 [] O ∧ Sl kPair w15 (Fr ([] ++ O)) (.slice A1 n2 c3) list) (fun (sv__ : Int) => match sv__ with | v2 => mu20 v2) 0 ⟨hI21, ⟨rfl, rfl, rfl, rfl, trivial⟩, hc0, hp4⟩ ?_
  rintro v2 _ w15 ⟨hI21, hh23, hc17, h18⟩
  obtain ⟨u24, rfl⟩ := Has.ins hh23
  have H := H v2 hI21
  refine W_seq ?_
  refine W_reg ?_
  refine L_pu (P_cmp v2 (list.length : Int) (decide (v2 < (list.length : Int))) rfl rfl rfl) ?_
  refine L_nil ?_
  refine W_seq ?_
  refine W_cond (decide (v2 < (list.length : Int))) rfl (fun hq25 => ?_) (fun hq25 => ?_)
  · have H := ite_t H hq25
    refine W_skip ?_
    refine W_seq ?_
    refine W_block ?_
    refine W_seq ?_
    refine W_reg ?_
    obtain ⟨hb26, H⟩ := H
    obtain ⟨ad27, cs28, hA29, hS32, hR30, hcl31⟩ := h18.get default (by decide) v2 hb26
    obtain rfl := kPair.op hR30
    refine L_pu (P_ia Try.underlying43 se43 A1 ad27 n2 c3 h18.len v2 rfl hA29 rfl hb26) ?_
    refine L_pu (P_lda ag46 sz46 cL (ad27.add (v2.toNat * 2)) [vi ((nth list v2).A), vi ((nth list v2).B)] rfl rfl hcl31) ?_
    refine L_alloc [.int .i64 0, .int .i64 0] ze46 fun w33 b34 hl36 hu37 g35 hx38 => ?_
    have hc40 := hc17.own g35 (some b34) (oglt hl36 hu37)
    refine L_stb b34 0 [vi 0, vi 0] [vi ((nth list v2).A), vi ((nth list v2).B)] [vi ((nth list v2).A), vi ((nth list v2).B)] rfl hx38 rfl sz46 rfl rfl rfl fun w41 g42 hx43 => ?_
    have hc44 := hc40.wr 0 rfl g42
    refine L_nil ?_
    refine W_seq ?_
    refine W_reg ?_
    refine L_pu (P_fa fa46_0 ⟨b34, 0, none⟩ ⟨b34, 0, none⟩ rfl rfl) ?_
    refine L_pu (P_ld ag3 cL ⟨b34, 0, none⟩ (vi ((nth list v2).A)) rfl (hx43.cell rfl)) ?_
    refine L_pu (P_move (vi at_) rfl) ?_
    refine L_pu (P_cmp ((nth list v2).A) at_ (((nth list v2).A) == at_) rfl rfl rfl) ?_
    refine L_nil ?_
    refine W_cond (((nth list v2).A) == at_) rfl (fun hq45 => ?_) (fun hq45 => ?_)
    · have H := ite_t H hq45
      refine W_seq ?_
      refine W_reg ?_
      refine L_pu (P_fa fa46_1 ⟨b34, 0, none⟩ ⟨b34, 1, none⟩ rfl rfl) ?_
      refine L_pu (P_ld ag3 cL ⟨b34, 1, none⟩ (vi ((nth list v2).B)) rfl (hx43.cell rfl)) ?_
      refine L_pu (P_assign (vi ((nth list v2).B)) rfl) ?_
      refine L_nil ?_
      refine W_ret ?_
      have hc46 := hc44.drop 0 rfl
      exact ⟨[vi ((nth list v2).B)], ⟨_, rfl, rfl⟩, (nth list v2).B, rfl, H, hc46.gr⟩
    · have H := ite_f H hq45
      refine W_skip ?_
      refine W_reg ?_
      obtain ⟨hb47, H⟩ := H
      refine L_pu (P_add v2 1 rfl rfl hb47) ?_
      refine L_pu (P_move (vi (v2 + 1)) rfl) ?_
      refine L_nil ?_
      have hc48 := hc44.drop 0 rfl
      obtain ⟨hI49, hm50⟩ := H
      have h51 := (((h18.st (.own _ _ g35 (oge hl36))).st (.wl (L := [some b34]) (O := O) (j := 0) rfl g42)).st (.dr _ (L := [some b34]) (O := O) (j := 0) rfl))
      exact ⟨v2 + 1, hm50, hI49, ⟨rfl, rfl, rfl, rfl, trivial⟩, hc48, h51⟩
  · have H := ite_f H hq25
    refine W_exit (xin_hit ?_)
    refine W_seq ?_
    refine W_reg ?_
    refine L_pu (P_assign (vi (-1)) rfl) ?_
    refine L_nil ?_
    refine W_ret ?_
    exact ⟨[vi (-1)], ⟨_, rfl, rfl⟩, (-1), rfl, H, hc17.gr⟩
end Go.Proofs.Ytnliofcjplnboaa

namespace Go.Proofs.Ytnliofcjplnboaa
set_option linter.unusedVariables false
set_option linter.unusedSimpArgs false
theorem impl_partner.law (l : List Pair) (k : Int) (Q : Int → Prop) (hl : l.length ≤ 1048576) (hq : Q (mateI l k)) : impl_partner.E l k Q := by
  unfold impl_partner.E
  refine ⟨fun i => ∃ u : Nat, i = u ∧ u ≤ l.length ∧ mateI (l.drop u) k = mateI l k, fun i => (l.length - i).toNat, ⟨0, rfl, Nat.zero_le _, rfl⟩, ?_⟩
  rintro _ ⟨u, rfl, hu, he⟩
  by_cases h : (u : Int) < (l.length : Int)
  · rw [if_pos (by simpa using h)]
    rw [drop_nth l (by omega), mateI_cons] at he
    refine ⟨by omega, ?_⟩
    by_cases hc : ((nth l (u : Int)).A == k) = true
    · rw [if_pos hc] at he ⊢
      rw [he]; exact hq
    · rw [if_neg hc] at he ⊢
      exact ⟨by unfold I64; omega, ⟨u + 1, by omega, by omega, he⟩, by dsimp only; omega⟩
  · rw [if_neg (by simpa using h)]
    rw [List.drop_of_length_le (by omega : l.length ≤ u), mateI_nil] at he
    rw [he]; exact hq
end Go.Proofs.Ytnliofcjplnboaa

namespace Go.Proofs.Ytnliofcjplnboaa
open Go.RowKit
set_option linter.unusedVariables false
def slices_Equal_Pt.E (s1 : List Pt) (s2 : List Pt) (Q : Bool → Prop) : Prop :=
  (if (s1.length : Int) != (s2.length : Int) then Q false else (∃ (I32 : Int → Prop) (mu33 : Int → Nat), I32 0 ∧ ∀ (v2 : Int), I32 v2 → (if decide (v2 < (s1.length : Int)) then ((0 : Int) ≤ v2 ∧ v2 < (s1.length : Int)) ∧ ((0 : Int) ≤ v2 ∧ v2 < (s2.length : Int)) ∧ (if !(eqPt (nth s1 v2) (nth s2 v2)) then Q false else (I64 (v2 + 1)) ∧ I32 (v2 + 1) ∧ mu33 (v2 + 1) < mu33 v2) else Q true)))
set_option maxHeartbeats 8000000 in
set_option maxRecDepth 100000 in
theorem slices_Equal_Pt.calls {O : Ob} (w0 : World) (hO : Ok w0 O) (s1 : List Pt) (A1 : Option Addr) (n2 c3 : Nat) (hp4 : Sl kPt w0 (Fr O) (.slice A1 n2 c3) s1) (s2 : List Pt) (A6 : Option Addr) (n7 c8 : Nat) (hp9 : Sl kPt w0 (Fr O) (.slice A6 n7 c8) s2) (Q : Bool → Prop) (h : slices_Equal_Pt.E s1 s2 Q) :
    Ret Try.prog 54 [.slice A1 n2 c3, .slice A6 n7 c8] w0 (fun v w' => ∃ (r0 : Bool), v = vb r0 ∧ Q r0 ∧ Gr w0 w' none) := by
  have H : (if (s1.length : Int) != (s2.length : Int) then Q false else (∃ (I32 : Int → Prop) (mu33 : Int → Nat), I32 0 ∧ ∀ (v2 : Int), I32 v2 → (if decide (v2 < (s1.length : Int)) then ((0 : Int) ≤ v2 ∧ v2 < (s1.length : Int)) ∧ ((0 : Int) ≤ v2 ∧ v2 < (s2.length : Int)) ∧ (if !(eqPt (nth s1 v2) (nth s2 v2)) then Q false else (I64 (v2 + 1)) ∧ I32 (v2 + 1) ∧ mu33 (v2 + 1) < mu33 v2) else Q true))) := h
  clear h
  have hc0 := Ct.init hO
  refine Ret_enter Try.func54 rfl 26 rfl [.tmp 4] rfl rfl ?_
  refine W_seq ?_
  refine W_reg ?_
  refine L_pu (P_assign (vb false) rfl) ?_
  refine L_nil ?_
  refine W_seq ?_
  refine W_seq ?_
  refine W_reg ?_
  refine L_pu (P_move (.slice A1 n2 c3) rfl) ?_
  have hl11 := hp4.le
  refine L_pu (P_len Try.underlying33 A1 n2 c3 hp4.len rfl) ?_
  refine L_pu (P_move (.slice A6 n7 c8) rfl) ?_
  have hl12 := hp9.le
  refine L_pu (P_len Try.underlying33 A6 n7 c8 hp9.len rfl) ?_
  refine L_pu (P_cmp (s1.length : Int) (s2.length : Int) ((s1.length : Int) != (s2.length : Int)) rfl rfl rfl) ?_
  refine L_nil ?_
  refine W_cond ((s1.length : Int) != (s2.length : Int)) rfl (fun hq13 => ?_) (fun hq13 => ?_)
  · have H := ite_t H hq13
    refine W_seq ?_
    refine W_reg ?_
    refine L_pu (P_assign (vb false) rfl) ?_
    refine L_nil ?_
    refine W_ret ?_
    exact ⟨[vb false], ⟨_, rfl, rfl⟩, false, rfl, H, hc0.gr⟩
  · have H := ite_f H hq13
    refine W_skip ?_
    refine W_seq ?_
    refine W_seq ?_
    refine W_reg ?_
    refine L_pu (P_move (.slice A1 n2 c3) rfl) ?_
    refine L_pu (P_len Try.underlying33 A1 n2 c3 hp4.len rfl) ?_
    refine L_pu (P_move (vi 0) rfl) ?_
    refine L_nil ?_
    refine W_block ?_
    obtain ⟨I32, mu33, hI34, H⟩ := H
    refine W_loop (α := Int) (fun (sv__ : Int) t w26 => match sv__ with | v2 => I32 v2 ∧ Has t [(0, .slice A1 n2 c3), (1, .slice A6 n7 c8), (12, vi (s1.length : Int)), (13, vi v2)] ∧ Ct none w0 w26 [] O ∧ Sl kPt w26 (Fr ([] ++ O)) (.slice A1 n2 c3) s1 ∧ Sl kPt w26 (Fr ([] ++ O)) (.slice A6 n7 c8) s2) (fun (sv__ : Int) => match sv__ with | v2 => mu33 v2) 0 ⟨hI34, ⟨rfl, rfl, rfl, rfl, trivial⟩, hc0, hp4, hp9⟩ ?_
    rintro v2 _ w26 ⟨hI34, hh36, hc29, h30, h31⟩
    obtain ⟨u37, rfl⟩ := Has.ins hh36
    have H := H v2 hI34
    refine W_seq ?_
    refine W_reg ?_
    refine L_pu (P_cmp v2 (s1.length : Int) (decide (v2 < (s1.length : Int))) rfl rfl rfl) ?_
    refine L_nil ?_
    refine W_seq ?_
    refine W_cond (decide (v2 < (s1.length : Int))) rfl (fun hq38 => ?_) (fun hq38 => ?_)
    · have H := ite_t H hq38
      refine W_skip ?_
      refine W_seq ?_
      refine W_block ?_
      refine W_seq ?_
      refine W_reg ?_
      refine L_pu (P_move (vi v2) rfl) ?_
      refine L_pu (P_assign (vi v2) rfl) ?_
      refine L_nil ?_
      refine W_seq ?_
      refine W_draw (fun x => Gr w26 x none) (by kernel_rfl) (by kernel_rfl) (Gr.drew _) ?_
      refine Q_pu (P_move (.slice A1 n2 c3) rfl) ?_
      refine Q_pu (P_move (vi v2) rfl) ?_
      obtain ⟨hb39, H⟩ := H
      obtain ⟨ad40, cs41, hA42, hS45, hR43, hcl44⟩ := h30.get default (by decide) v2 hb39
      obtain rfl := kPt.op hR43
      refine Q_pu (P_ia Try.underlying33 se33 A1 ad40 n2 c3 h30.len v2 rfl hA42 rfl hb39) ?_
      refine Q_pu (P_lda ag41 sz41 cQ (ad40.add (v2.toNat * 2)) [vi ((nth s1 v2).X), vi ((nth s1 v2).Y)] rfl rfl hcl44) ?_
      refine Q_pu (P_move (.slice A6 n7 c8) rfl) ?_
      refine Q_pu (P_move (vi v2) rfl) ?_
      obtain ⟨hb46, H⟩ := H
      obtain ⟨ad47, cs48, hA49, hS52, hR50, hcl51⟩ := h31.get default (by decide) v2 hb46
      obtain rfl := kPt.op hR50
      refine Q_pu (P_ia Try.underlying33 se33 A6 ad47 n7 c8 h31.len v2 rfl hA49 rfl hb46) ?_
      refine Q_pu (P_lda ag41 sz41 cQ (ad47.add (v2.toNat * 2)) [vi ((nth s2 v2).X), vi ((nth s2 v2).Y)] rfl rfl hcl51) ?_
      refine Q_pu (P_ne _ _ (eqPt (nth s1 v2) (nth s2 v2)) (qt41 (nth s1 v2) (nth s2 v2)) rfl rfl) ?_
      refine Q_nil fun w53 g54 => ?_
      have hc56 := hc29.k0 g54
      refine W_cond (!(eqPt (nth s1 v2) (nth s2 v2))) rfl (fun hq57 => ?_) (fun hq57 => ?_)
      · have H := ite_t H hq57
        refine W_seq ?_
        refine W_reg ?_
        refine L_pu (P_assign (vb false) rfl) ?_
        refine L_nil ?_
        refine W_ret ?_
        exact ⟨[vb false], ⟨_, rfl, rfl⟩, false, rfl, H, hc56.gr⟩
      · have H := ite_f H hq57
        refine W_skip ?_
        refine W_reg ?_
        obtain ⟨hb58, H⟩ := H
        refine L_pu (P_add v2 1 rfl rfl hb58) ?_
        refine L_pu (P_move (vi (v2 + 1)) rfl) ?_
        refine L_nil ?_
        obtain ⟨hI59, hm60⟩ := H
        exact ⟨v2 + 1, hm60, hI59, ⟨rfl, rfl, rfl, rfl, trivial⟩, hc56, (h30.st (.new _ g54)), (h31.st (.new _ g54))⟩
    · have H := ite_f H hq38
      refine W_exit (xin_hit ?_)
      refine W_seq ?_
      refine W_reg ?_
      refine L_pu (P_assign (vb true) rfl) ?_
      refine L_nil ?_
      refine W_ret ?_
      exact ⟨[vb true], ⟨_, rfl, rfl⟩, true, rfl, H, hc29.gr⟩
end Go.Proofs.Ytnliofcjplnboaa

namespace Go.Proofs.Ytnliofcjplnboaa
set_option linter.unusedVariables false
set_option linter.unusedSimpArgs false
theorem slices_Equal_Pt.law (a b : List Pt) (Q : Bool → Prop) (hb : a.length ≤ 1048576) (hq : Q (decide (a = b))) : slices_Equal_Pt.E a b Q := by
  unfold slices_Equal_Pt.E
  exact eqI_shape eqPt eqPt_is a b Q hb hq
end Go.Proofs.Ytnliofcjplnboaa
