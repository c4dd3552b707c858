/- It is proved here that the law FnExactSeqLong of the given program holds whatever it is handed: the walks through the code, the plain laws and the row, in this order.
   Conditions: none. -/
import Derived.Below
import Derived.ChangeArms
import Derived.ChangeOld
import Derived.ChangeSlices
import Derived.DataReads
import Derived.Deep.Quiet
import Derived.KernelRfl
import Derived.Laws.Build
import Derived.Laws.OwnMore
import Derived.Laws.Slices
import Derived.Laws.StructEq
import Derived.OpenShut
import Derived.ProofKit
import Derived.ShutString
import Derived.SizedLaws
import Derived.StillTail
import Derived.Test.YtnliofcjplnboaaProg
import Derived.Test.YtnliofcjplnboaaRows
import Derived.WalkKit
import Derived.Test.YtnliofcjplnboaaCExactSeqLonga
namespace Go.Proofs.Ytnliofcjplnboaa
set_option linter.unusedVariables false
set_option linter.unusedSimpArgs false
theorem eqPt_is (x y : Pt) : eqPt x y = decide (x = y) := by
  obtain ⟨a, b⟩ := x; obtain ⟨c, d⟩ := y
  simp only [eqPt, Pt.mk.injEq, Bool.decide_and]
  by_cases h1 : a = c <;> by_cases h2 : b = d <;> simp [h1, h2]
theorem eqPair_is (x y : Pair) : eqPair x y = decide (x = y) := by
  obtain ⟨a, b⟩ := x; obtain ⟨c, d⟩ := y
  simp only [eqPair, Pair.mk.injEq, Bool.decide_and]
  by_cases h1 : a = c <;> by_cases h2 : b = d <;> simp [h1, h2]
def few (a b : List Pt) : Bool := decide (a.length ≤ 12) && decide (b.length ≤ 12)
theorem few_iff {a b : List Pt} : few a b = true ↔ a.length ≤ 12 ∧ b.length ≤ 12 := by simp [few]
theorem few_not {a b : List Pt} : few a b = false ↔ ¬ (a.length ≤ 12 ∧ b.length ≤ 12) := by rw [← few_iff]; simp
def slen (a b : List Pt) : Int := if few a b then (lcs a b : Nat) else 0
def mkP (p : Nat × Nat) : Pair := ⟨p.1, p.2⟩
def spairs (a b : List Pt) : List Pair := if few a b then (pairs 0 0 a b).map mkP else []
theorem spairs_few {a b : List Pt} (h : few a b = true) : spairs a b = (pairs 0 0 a b).map mkP := by unfold spairs; rw [if_pos h]
theorem spairs_len (a b : List Pt) : ((spairs a b).length : Int) = slen a b := by
  unfold spairs slen
  by_cases h : few a b = true
  · rw [if_pos h, if_pos h, List.length_map, pairs_len]
  · rw [if_neg h, if_neg h]; rfl
theorem slen_le (a b : List Pt) : 0 ≤ slen a b ∧ slen a b ≤ a.length ∧ slen a b ≤ b.length ∧ slen a b ≤ 12 := by
  unfold slen
  by_cases h : few a b = true
  · have := few_iff.1 h
    have h1 := lcs_le1 a b; have h2 := lcs_le2 a b
    rw [if_pos h]; omega
  · rw [if_neg h]; omega
/-- a row: what is in common from a place of the second on -/
def RowOk (a b : List Pt) (i : Nat) (j : Nat) (xs : List Int) : Prop := xs.length = b.length + 1 ∧ ∀ m : Nat, j ≤ m → m ≤ b.length → nth xs (m : Int) = (lcs (a.drop i) (b.drop m) : Nat)
def Tab (a b : List Pt) (D : Nat → Nat → Prop) (t : List (List Int)) : Prop := t.length = a.length + 1 ∧ ∀ r : Nat, r ≤ a.length → (nth t (r : Int)).length = b.length + 1 ∧ ∀ m : Nat, m ≤ b.length → D r m → nth (nth t (r : Int)) (m : Int) = (lcs (a.drop r) (b.drop m) : Nat)
theorem Tab.set {a b : List Pt} {D : Nat → Nat → Prop} {t : List (List Int)} (h : Tab a b D t) {i j : Nat} (hi : i ≤ a.length) (hj : j ≤ b.length) {v : Int} (hv : v = (lcs (a.drop i) (b.drop j) : Nat)) {D' : Nat → Nat → Prop} (hD : ∀ r m, D' r m → D r m ∨ (r = i ∧ m = j)) :
    Tab a b D' (t.set i ((nth t (i : Int)).set j v)) := by
  obtain ⟨h1, h2⟩ := h
  refine ⟨by rw [List.length_set]; exact h1, fun r hr => ?_⟩
  rw [nth_set _ (by omega)]
  by_cases e : r = i
  · subst e
    rw [if_pos rfl]
    refine ⟨by rw [List.length_set]; exact (h2 r hr).1, fun m hm hd => ?_⟩
    rw [nth_set _ (by rw [(h2 r hr).1]; omega)]
    by_cases f : m = j
    · subst f; rw [if_pos rfl, hv]
    · rw [if_neg f]
      exact (h2 r hr).2 m hm ((hD r m hd).resolve_right fun x => f x.2)
  · rw [if_neg e]
    exact ⟨(h2 r hr).1, fun m hm hd => (h2 r hr).2 m hm ((hD r m hd).resolve_right fun x => e x.1)⟩
def mateI (l : List Pair) (k : Int) : Int := match l with
  | [] => -1
  | p :: l => if p.A == k then p.B else mateI l k
theorem mateI_nil (k : Int) : mateI [] k = -1 := rfl
theorem mateI_cons (p : Pair) (l : List Pair) (k : Int) : mateI (p :: l) k = if p.A == k then p.B else mateI l k := rfl
def mateN (l : List (Nat × Nat)) (k : Nat) : Option Nat := match l with
  | [] => none
  | p :: l => if p.1 = k then some p.2 else mateN l k
theorem mateI_mk (l : List (Nat × Nat)) (k : Nat) : mateI (l.map mkP) (k : Int) = match mateN l k with | some x => (x : Int) | none => -1 := by
  induction l with
  | nil => rfl
  | cons p l ih =>
    rw [List.map_cons, mateI_cons, mateN]
    by_cases h : p.1 = k
    · rw [if_pos (by simp [mkP, h]), if_pos h]; rfl
    · rw [if_neg (by simp [mkP]; omega), if_neg h, ih]
theorem mateN_mem {l : List (Nat × Nat)} {k x : Nat} (h : mateN l k = some x) : (k, x) ∈ l := by
  induction l with
  | nil => cases h
  | cons p l ih =>
    rw [mateN] at h
    by_cases e : p.1 = k
    · rw [if_pos e] at h; cases h; subst e; exact List.mem_cons_self
    · rw [if_neg e] at h; exact List.mem_cons_of_mem _ (ih h)
theorem mateN_of {l : List (Nat × Nat)} {k x : Nat} (ho : l.Pairwise fun p q => p.1 < q.1 ∧ p.2 < q.2) (h : (k, x) ∈ l) : mateN l k = some x := by
  induction l with
  | nil => cases h
  | cons p l ih =>
    rw [mateN]
    rcases List.mem_cons.1 h with h | h
    · subst h; rw [if_pos rfl]
    · have := (List.pairwise_cons.1 ho).1 _ h
      rw [if_neg (by dsimp only at this; omega)]
      exact ih (List.pairwise_cons.1 ho).2 h
theorem mateN_none {l : List (Nat × Nat)} {k : Nat} (h : ∀ x, (k, x) ∉ l) : mateN l k = none := by
  cases e : mateN l k with
  | none => rfl
  | some x => exact absurd (mateN_mem e) (h x)
def part (o a : List Pt) : Nat → Option Nat := mateN (pairs 0 0 o a)
theorem part_mates (o a : List Pt) : Mates o a (part o a) := by
  have hm : ∀ {t x}, part o a t = some x → ∃ z, o[t]? = some z ∧ a[x]? = some z := fun {t x} h => by
    obtain ⟨k, l, e, z, h1, h2⟩ := pairs_mem 0 0 o a _ (mateN_mem h)
    rw [Nat.zero_add, Nat.zero_add] at e; cases e
    exact ⟨z, h1, h2⟩
  refine ⟨fun {t x} h => ?_, fun {t x} h => ?_, fun {t x u y} h1 h2 hu => ?_⟩
  · obtain ⟨z, h1, h2⟩ := hm h
    exact ⟨(List.getElem?_eq_some_iff.1 h1).1, (List.getElem?_eq_some_iff.1 h2).1⟩
  · obtain ⟨z, h1, h2⟩ := hm h
    obtain ⟨e1, e2⟩ := List.getElem?_eq_some_iff.1 h1
    obtain ⟨e3, e4⟩ := List.getElem?_eq_some_iff.1 h2
    rw [nth_nat _ e1, nth_nat _ e3, e2, e4]
  · have ho := pairs_ord 0 0 o a
    have m1 := mateN_mem h1; have m2 := mateN_mem h2
    generalize pairs 0 0 o a = l at ho m1 m2
    induction l with
    | nil => cases m1
    | cons p l ih =>
      obtain ⟨q1, q2⟩ := List.pairwise_cons.1 ho
      rcases List.mem_cons.1 m1 with e1 | n1
      · rcases List.mem_cons.1 m2 with e2 | n2
        · subst e1; cases e2; omega
        · subst e1; exact (q1 _ n2).2
      · rcases List.mem_cons.1 m2 with e2 | n2
        · subst e2; have := (q1 _ n1).1; dsimp only at this; omega
        · exact ih q2 n1 n2
theorem part_old (o : List Pt) (l : List Pt) : ∀ t, t < o.length → part o (o ++ l) t = some t := fun t ht => by
  refine mateN_of (pairs_ord _ _ _ _) ?_
  rw [pairs_self, List.mem_map]
  exact ⟨t, by simpa using ht, by simp⟩
theorem part_self (o : List Pt) : ∀ t, t < o.length → part o o t = some t := fun t ht => by
  have := part_old o [] t ht
  rwa [List.append_nil] at this
/-- what is made of two rows, and of which one was -/
def smerge (o a b : List Pt) : Option (List Pt) := if few o a && few o b then mloop o a b (part o a) (part o b) o.length 0 0 0 0 else none
theorem smerge_few {o a b : List Pt} (h1 : few o a = true) (h2 : few o b = true) : smerge o a b = mloop o a b (part o a) (part o b) o.length 0 0 0 0 := by unfold smerge; rw [h1, h2]; rfl
theorem smerge_not {o a b : List Pt} (h : few o a = false ∨ few o b = false) : smerge o a b = none := by
  unfold smerge; rcases h with h | h <;> rw [h] <;> simp
theorem smerge_comm (o a b : List Pt) : smerge o a b = smerge o b a := by
  unfold smerge; rw [Bool.and_comm, mloop_comm]
theorem smerge_old {o a : List Pt} (h : few o a = true) : smerge o a o = some a := by
  rw [smerge_few h (by rw [few_iff] at h ⊢; exact ⟨h.1, h.1⟩), mloop_old (part_mates o a) (part_self o) _ _ _ _ (by omega) (From.zero _ _)]; rfl
theorem smerge_same {o a : List Pt} (h : few o a = true) : smerge o a a = some a := by
  rw [smerge_few h h, mloop_same (part_mates o a) _ _ _ _ (by omega) (From.zero _ _)]; rfl
theorem smerge_keep {o a b r : List Pt} (h : smerge o a b = some r) : (∀ z ∈ r, z ∈ a ∨ z ∈ b) ∧ (∀ z ∈ a, z ∈ o ∨ z ∈ r) ∧ (∀ z ∈ b, z ∈ o ∨ z ∈ r) ∧ r.length ≤ a.length + b.length := by
  unfold smerge at h
  by_cases hf : (few o a && few o b) = true
  · rw [if_pos hf] at h
    exact mloop_keep (part_mates o a) (part_mates o b) _ _ _ _ _ (by omega) (From.zero _ _) (From.zero _ _) _ h
  · rw [if_neg hf] at h; cases h
theorem smerge_len {o a b r : List Pt} (h : smerge o a b = some r) : r.length ≤ 24 := by
  have h1 := (smerge_keep h).2.2.2
  unfold smerge at h
  by_cases hf : (few o a && few o b) = true
  · rw [Bool.and_eq_true, few_iff, few_iff] at hf; omega
  · rw [if_neg hf] at h; cases h
theorem part_cons (p : Pt) (o a : List Pt) (t : Nat) : part (p :: o) (p :: a) (t + 1) = (part o a t).map (· + 1) := by
  have h := pairs_shift 0 0 o a 1 1
  have e : mateN (pairs (0 + 1) (0 + 1) o a) (t + 1) = (mateN (pairs 0 0 o a) t).map (· + 1) := by
    rw [h]
    generalize pairs 0 0 o a = l
    induction l with
    | nil => rfl
    | cons q l ih =>
      rw [List.map_cons, mateN, mateN]
      by_cases e : q.1 = t
      · rw [if_pos (by dsimp only; omega), if_pos e]; rfl
      · rw [if_neg (by dsimp only; omega), if_neg e, ih]
  unfold part
  rw [pairs_cons_self, mateN, if_neg (by dsimp only; omega), e]
theorem part_cons0 (p : Pt) (o a : List Pt) : part (p :: o) (p :: a) 0 = some 0 := by
  unfold part; rw [pairs_cons_self, mateN, if_pos rfl]
theorem mateN_app (l m : List (Nat × Nat)) (k : Nat) : mateN (l ++ m) k = (mateN l k).or (mateN m k) := by
  induction l with
  | nil => rfl
  | cons p l ih =>
    rw [List.cons_append, mateN, mateN]
    by_cases e : p.1 = k
    · rw [if_pos e, if_pos e]; rfl
    · rw [if_neg e, if_neg e, ih]
theorem part_snoc {p : Pt} {o a : List Pt} (ho : p ∉ o) (ha : p ∉ a) (t : Nat) : part (o ++ [p]) (a ++ [p]) t = (part o a t).or (if o.length = t then some a.length else none) := by
  unfold part; rw [pairs_snoc p 0 0 o a ho ha, mateN_app]
  simp only [mateN, Nat.zero_add]
theorem part_snoc1 {p : Pt} {o a : List Pt} (ho : p ∉ o) (ha : p ∉ a) {t : Nat} (h : t < o.length) : part (o ++ [p]) (a ++ [p]) t = part o a t := by
  rw [part_snoc ho ha, if_neg (by omega)]; cases part o a t <;> rfl
theorem part_snoc2 {p : Pt} {o a : List Pt} (ho : p ∉ o) (ha : p ∉ a) : part (o ++ [p]) (a ++ [p]) o.length = some a.length := by
  rw [part_snoc ho ha, if_pos rfl]
  cases h : part o a o.length with
  | none => rfl
  | some x => have := ((part_mates o a).lt h).1; omega
theorem smerge_cons {o a b : List Pt} (p : Pt) (h1 : few (p :: o) (p :: a) = true) (h2 : few (p :: o) (p :: b) = true) : smerge (p :: o) (p :: a) (p :: b) = (smerge o a b).map (p :: ·) := by
  have g1 : few o a = true := by rw [few_iff] at h1 ⊢; simp only [List.length_cons] at h1; omega
  have g2 : few o b = true := by rw [few_iff] at h2 ⊢; simp only [List.length_cons] at h2; omega
  rw [smerge_few h1 h2, smerge_few g1 g2, List.length_cons, mloop_some (part_cons0 p o a) (part_cons0 p o b), seg_self, seg_self, seg_self, pickL_same, Option.bind_some]
  rw [show (0 : Nat) + 1 = 0 + 1 from rfl, mloop_cons p (fun t _ => part_cons p o a t) (fun t _ => part_cons p o b t) _ _ _ _ _ (by omega)]
  rfl
theorem smerge_snoc {o a b : List Pt} (p : Pt) (ho : p ∉ o) (ha : p ∉ a) (hb : p ∉ b) (h1 : few (o ++ [p]) (a ++ [p]) = true) (h2 : few (o ++ [p]) (b ++ [p]) = true) : smerge (o ++ [p]) (a ++ [p]) (b ++ [p]) = (smerge o a b).map (· ++ [p]) := by
  have g1 : few o a = true := by rw [few_iff] at h1 ⊢; simp only [List.length_append] at h1; omega
  have g2 : few o b = true := by rw [few_iff] at h2 ⊢; simp only [List.length_append] at h2; omega
  rw [smerge_few h1 h2, smerge_few g1 g2, List.length_append, List.length_singleton]
  exact mloop_snoc p (part_mates o a) (part_mates o b) (fun t ht => part_snoc1 ho ha ht) (part_snoc2 ho ha) (fun t ht => part_snoc1 ho hb ht) (part_snoc2 ho hb) _ _ _ _ _ (by omega) (Nat.zero_le _) (Nat.zero_le _) (Nat.zero_le _) (From.zero _ _) (From.zero _ _)
theorem part_shift {p : Pt} {o : List Pt} (hp : p ∉ o) : ∀ t, t < o.length → part o (p :: o) t = some (t + 1) := fun t ht => by
  have e : pairs 0 0 o (p :: o) = pairs 0 1 o o := by
    cases o with
    | nil => rw [pairs_nil, pairs_nil]
    | cons x o =>
      have hx : x ≠ p := fun e => hp (e ▸ List.mem_cons_self)
      rw [pairs_cons, if_neg hx, if_neg]
      have h1 : lcs (x :: o) (x :: o) = o.length + 1 := lcs_self (x :: o)
      have h2 := lcs_le1 o (p :: x :: o)
      omega
  refine mateN_of (pairs_ord _ _ _ _) ?_
  rw [e]
  have := pairs_self 0 1 o []
  rw [List.append_nil] at this
  rw [this, List.mem_map]
  exact ⟨t, by simpa using ht, pp (by omega) (by omega)⟩
theorem smerge_apart {o : List Pt} {p q : Pt} (hp : p ∉ o) (h0 : 0 < o.length) (h : o.length < 12) : smerge o (p :: o) (o ++ [q]) = some (p :: o ++ [q]) := by
  have h1 : few o (p :: o) = true := by rw [few_iff]; simp only [List.length_cons]; omega
  have h2 : few o (o ++ [q]) = true := by rw [few_iff]; simp only [List.length_append, List.length_singleton]; omega
  rw [smerge_few h1 h2]
  obtain ⟨n, e⟩ : ∃ n, o.length = n + 1 := ⟨o.length - 1, by omega⟩
  have hf := part_shift hp
  have hg := part_old o [q]
  rw [e, mloop_some (hf 0 h0) (hg 0 h0), seg_self, seg_self, pickL_old, Option.bind_some]
  have := mloop_apart p q hf hg n 1 (by omega)
  rw [show (0 : Nat) + 1 = 1 from rfl, show (0 : Nat) + 1 + 1 = 1 + 1 from rfl, this, Option.map_some]
  have hd := drop_nth o h0
  rw [List.drop_zero] at hd
  have : seg (p :: o) 0 1 = [p] := rfl
  rw [show (0 : Nat) + 1 = 1 from rfl] at hd
  rw [this, List.singleton_append, ← List.cons_append, ← hd]
  rfl
theorem smerge_clash {o : List Pt} {p q : Pt} (hp : p ∉ o) (hq : q ∉ o) (hpq : p ≠ q) (h0 : 0 < o.length) : smerge o (p :: o) (q :: o) = none := by
  unfold smerge
  by_cases hf : (few o (p :: o) && few o (q :: o)) = true
  · rw [if_pos hf]
    obtain ⟨n, e⟩ : ∃ n, o.length = n + 1 := ⟨o.length - 1, by omega⟩
    rw [e, mloop_some (part_shift hp 0 h0) (part_shift hq 0 h0)]
    have : pickL (seg o 0 0) (seg (p :: o) 0 (0 + 1)) (seg (q :: o) 0 (0 + 1)) = none := by
      show pickL [] [p] [q] = none
      unfold pickL
      rw [if_neg (by simp), if_neg (by simp), if_neg (by simpa using hpq)]
    rw [this]; rfl
  · rw [if_neg hf]
theorem smerge_nil {a b : List Pt} (h1 : a.length ≤ 12) (h2 : b.length ≤ 12) : smerge [] a b = if a = [] then some b else if b = [] then some a else if a = b then some a else none := by
  rw [smerge_few (by rw [few_iff]; exact ⟨Nat.zero_le _, h1⟩) (by rw [few_iff]; exact ⟨Nat.zero_le _, h2⟩)]; rfl
end Go.Proofs.Ytnliofcjplnboaa

namespace Go.Proofs.Ytnliofcjplnboaa
set_option linter.unusedVariables false
set_option linter.unusedSimpArgs false
theorem spec_l5Few.law (a b : List Pt) (Q : Bool → Prop) (hq : Q (few a b)) : spec_l5Few.E a b Q := by
  unfold spec_l5Few.E
  unfold few at hq
  by_cases h : a.length ≤ 12
  · rw [if_pos (by simp; omega)]
    rw [decide_eq_true h, Bool.true_and] at hq
    have : decide ((b.length : Int) ≤ 12) = decide (b.length ≤ 12) := decide_eq_decide.2 (by omega)
    rw [this]; exact hq
  · rw [if_neg (by simp; omega)]
    rw [decide_eq_false h, Bool.false_and] at hq; exact hq
end Go.Proofs.Ytnliofcjplnboaa

namespace Go.Proofs.Ytnliofcjplnboaa
open Go.RowKit
set_option linter.unusedVariables false
def spec_l1Max.E (a : Int) (b : Int) (Q : Int → Prop) : Prop :=
  (if decide (a > b) then Q a else Q b)
set_option maxHeartbeats 8000000 in
set_option maxRecDepth 100000 in
theorem spec_l1Max.calls {O : Ob} (w0 : World) (hO : Ok w0 O) (a : Int) (b : Int) (Q : Int → Prop) (h : spec_l1Max.E a b Q) :
    Ret Try.prog 59 [vi a, vi b] w0 (fun v w' => ∃ (r0 : Int), v = vi r0 ∧ Q r0 ∧ Gr w0 w' none ∧ w' = w0) := by
  have H : (if decide (a > b) then Q a else Q b) := h
  clear h
  have hc0 := Ct.init hO
  refine Ret_enter Try.func59 rfl 10 rfl [.tmp 4] rfl rfl ?_
  refine W_seq ?_
  refine W_reg ?_
  refine L_pu (P_assign (vi 0) rfl) ?_
  refine L_nil ?_
  refine W_seq ?_
  refine W_seq ?_
  refine W_reg ?_
  refine L_pu (P_move (vi a) rfl) ?_
  refine L_pu (P_move (vi b) rfl) ?_
  refine L_pu (P_cmp a b (decide (a > b)) rfl rfl rfl) ?_
  refine L_nil ?_
  refine W_cond (decide (a > b)) rfl (fun hq1 => ?_) (fun hq1 => ?_)
  · have H := ite_t H hq1
    refine W_seq ?_
    refine W_reg ?_
    refine L_pu (P_move (vi a) rfl) ?_
    refine L_pu (P_assign (vi a) rfl) ?_
    refine L_nil ?_
    refine W_ret ?_
    exact ⟨[vi a], ⟨_, rfl, rfl⟩, a, rfl, H, hc0.gr, rfl⟩
  · have H := ite_f H hq1
    refine W_skip ?_
    refine W_seq ?_
    refine W_reg ?_
    refine L_pu (P_move (vi b) rfl) ?_
    refine L_pu (P_assign (vi b) rfl) ?_
    refine L_nil ?_
    refine W_ret ?_
    exact ⟨[vi b], ⟨_, rfl, rfl⟩, b, rfl, H, hc0.gr, rfl⟩
def spec_l1Max.m (a : Int) (b : Int) : Int := (if decide (a > b) then a else b)
theorem spec_l1Max.fn (a : Int) (b : Int) : spec_l1Max.E a b (fun r => r = spec_l1Max.m a b) := by
  unfold spec_l1Max.E spec_l1Max.m
  (repeat' split) <;> simp_all
end Go.Proofs.Ytnliofcjplnboaa

namespace Go.Proofs.Ytnliofcjplnboaa
set_option linter.unusedVariables false
set_option linter.unusedSimpArgs false
theorem spec_l1Max.m_is (a b : Int) : spec_l1Max.m a b = max a b := by
  unfold spec_l1Max.m
  by_cases h : a > b
  · simp [h]; omega
  · simp [h]; omega
end Go.Proofs.Ytnliofcjplnboaa

namespace Go.Proofs.Ytnliofcjplnboaa
open Go.RowKit
set_option linter.unusedVariables false
def spec_l5Long.E (a : List Pt) (b : List Pt) (Q : Int → Prop) : Prop :=
  ((b.length : Int) ≤ 9223372036854775807 → I64 ((b.length : Int) + 1)) ∧ ((0 : Int) ≤ (b.length : Int) + 1 ∧ (b.length : Int) + 1 ≤ (268435456 : Int)) ∧ ((b.length : Int) ≤ 9223372036854775807 → (a.length : Int) ≤ 9223372036854775807 → I64 ((a.length : Int) - 1)) ∧ (∃ (I57 : (List Int) → Int → Prop) (mu58 : (List Int) → Int → Nat), I57 (List.replicate ((b.length : Int) + 1).toNat (0 : Int)) ((a.length : Int) - 1) ∧ ∀ (xs2 : List Int) (i2 : Int), I57 xs2 i2 → (if decide (i2 ≥ 0) then ((b.length : Int) ≤ 9223372036854775807 → I64 ((b.length : Int) + 1)) ∧ ((0 : Int) ≤ (b.length : Int) + 1 ∧ (b.length : Int) + 1 ≤ (268435456 : Int)) ∧ ((b.length : Int) ≤ 9223372036854775807 → I64 ((b.length : Int) - 1)) ∧ (∃ (I115 : (List Int) → Int → Prop) (mu116 : (List Int) → Int → Nat), I115 (List.replicate ((b.length : Int) + 1).toNat (0 : Int)) ((b.length : Int) - 1) ∧ ∀ (xs4 : List Int) (k2 : Int), I115 xs4 k2 → (if decide (k2 ≥ 0) then ((0 : Int) ≤ i2 ∧ i2 < (a.length : Int)) ∧ ((0 : Int) ≤ k2 ∧ k2 < (b.length : Int)) ∧ (if eqPt (nth a i2) (nth b k2) then (I64 (k2 + 1)) ∧ ((0 : Int) ≤ k2 + 1 ∧ k2 + 1 < (xs2.length : Int)) ∧ (I64 ((nth xs2 (k2 + 1)) + 1)) ∧ ((0 : Int) ≤ k2 ∧ k2 < (xs4.length : Int)) ∧ (I64 (k2 - 1)) ∧ I115 (xs4.set k2.toNat ((nth xs2 (k2 + 1)) + 1)) (k2 - 1) ∧ mu116 (xs4.set k2.toNat ((nth xs2 (k2 + 1)) + 1)) (k2 - 1) < mu116 xs4 k2 else ((0 : Int) ≤ k2 ∧ k2 < (xs2.length : Int)) ∧ (I64 (k2 + 1)) ∧ ((0 : Int) ≤ k2 + 1 ∧ k2 + 1 < (xs4.length : Int)) ∧ ((0 : Int) ≤ k2 ∧ k2 < (xs4.length : Int)) ∧ (I64 (k2 - 1)) ∧ I115 (xs4.set k2.toNat (spec_l1Max.m (nth xs2 k2) (nth xs4 (k2 + 1)))) (k2 - 1) ∧ mu116 (xs4.set k2.toNat (spec_l1Max.m (nth xs2 k2) (nth xs4 (k2 + 1)))) (k2 - 1) < mu116 xs4 k2) else (I64 (i2 - 1)) ∧ I57 xs4 (i2 - 1) ∧ mu58 xs4 (i2 - 1) < mu58 xs2 i2)) else ((0 : Int) ≤ 0 ∧ 0 < (xs2.length : Int)) ∧ Q (nth xs2 0)))
set_option maxHeartbeats 8000000 in
set_option maxRecDepth 100000 in
theorem spec_l5Long.calls {O : Ob} (w0 : World) (hO : Ok w0 O) (a : List Pt) (A1 : Option Addr) (n2 c3 : Nat) (hp4 : Sl kPt w0 (Fr O) (.slice A1 n2 c3) a) (b : List Pt) (A6 : Option Addr) (n7 c8 : Nat) (hp9 : Sl kPt w0 (Fr O) (.slice A6 n7 c8) b) (Q : Int → Prop) (h : spec_l5Long.E a b Q) :
    Ret Try.prog 46 [.slice A1 n2 c3, .slice A6 n7 c8] w0 (fun v w' => ∃ (r0 : Int), v = vi r0 ∧ Q r0 ∧ Gr w0 w' none) := by
  have H : ((b.length : Int) ≤ 9223372036854775807 → I64 ((b.length : Int) + 1)) ∧ ((0 : Int) ≤ (b.length : Int) + 1 ∧ (b.length : Int) + 1 ≤ (268435456 : Int)) ∧ ((b.length : Int) ≤ 9223372036854775807 → (a.length : Int) ≤ 9223372036854775807 → I64 ((a.length : Int) - 1)) ∧ (∃ (I57 : (List Int) → Int → Prop) (mu58 : (List Int) → Int → Nat), I57 (List.replicate ((b.length : Int) + 1).toNat (0 : Int)) ((a.length : Int) - 1) ∧ ∀ (xs2 : List Int) (i2 : Int), I57 xs2 i2 → (if decide (i2 ≥ 0) then ((b.length : Int) ≤ 9223372036854775807 → I64 ((b.length : Int) + 1)) ∧ ((0 : Int) ≤ (b.length : Int) + 1 ∧ (b.length : Int) + 1 ≤ (268435456 : Int)) ∧ ((b.length : Int) ≤ 9223372036854775807 → I64 ((b.length : Int) - 1)) ∧ (∃ (I115 : (List Int) → Int → Prop) (mu116 : (List Int) → Int → Nat), I115 (List.replicate ((b.length : Int) + 1).toNat (0 : Int)) ((b.length : Int) - 1) ∧ ∀ (xs4 : List Int) (k2 : Int), I115 xs4 k2 → (if decide (k2 ≥ 0) then ((0 : Int) ≤ i2 ∧ i2 < (a.length : Int)) ∧ ((0 : Int) ≤ k2 ∧ k2 < (b.length : Int)) ∧ (if eqPt (nth a i2) (nth b k2) then (I64 (k2 + 1)) ∧ ((0 : Int) ≤ k2 + 1 ∧ k2 + 1 < (xs2.length : Int)) ∧ (I64 ((nth xs2 (k2 + 1)) + 1)) ∧ ((0 : Int) ≤ k2 ∧ k2 < (xs4.length : Int)) ∧ (I64 (k2 - 1)) ∧ I115 (xs4.set k2.toNat ((nth xs2 (k2 + 1)) + 1)) (k2 - 1) ∧ mu116 (xs4.set k2.toNat ((nth xs2 (k2 + 1)) + 1)) (k2 - 1) < mu116 xs4 k2 else ((0 : Int) ≤ k2 ∧ k2 < (xs2.length : Int)) ∧ (I64 (k2 + 1)) ∧ ((0 : Int) ≤ k2 + 1 ∧ k2 + 1 < (xs4.length : Int)) ∧ ((0 : Int) ≤ k2 ∧ k2 < (xs4.length : Int)) ∧ (I64 (k2 - 1)) ∧ I115 (xs4.set k2.toNat (spec_l1Max.m (nth xs2 k2) (nth xs4 (k2 + 1)))) (k2 - 1) ∧ mu116 (xs4.set k2.toNat (spec_l1Max.m (nth xs2 k2) (nth xs4 (k2 + 1)))) (k2 - 1) < mu116 xs4 k2) else (I64 (i2 - 1)) ∧ I57 xs4 (i2 - 1) ∧ mu58 xs4 (i2 - 1) < mu58 xs2 i2)) else ((0 : Int) ≤ 0 ∧ 0 < (xs2.length : Int)) ∧ Q (nth xs2 0))) := h
  clear h
  have hc0 := Ct.init hO
  refine Ret_enter Try.func46 rfl 66 rfl [.tmp 4] rfl rfl ?_
  refine W_seq ?_
  refine W_reg ?_
  refine L_pu (P_assign (vi 0) rfl) ?_
  refine L_nil ?_
  refine W_seq ?_
  refine W_reg ?_
  refine L_pu (P_move (.slice A6 n7 c8) rfl) ?_
  have hl11 := hp9.le
  refine L_pu (P_len Try.underlying33 A6 n7 c8 hp9.len rfl) ?_
  obtain ⟨hb12, H⟩ := H
  have hi13 := hb12 (len_le hl11)
  refine L_pu (P_add (b.length : Int) 1 rfl rfl hi13) ?_
  obtain ⟨hb14, H⟩ := H
  refine L_make (kd := (Kd.int .i64)) ei65 hc0 (0 : Int) (rfl) ((b.length : Int) + 1) rfl rfl hb14 fun w15 A16 n17 c18 g19 hr20 hc21 h22 => ?_
  refine L_pu (P_assign (.slice A16 n17 c18) rfl) ?_
  refine L_nil ?_
  refine W_seq ?_
  refine W_seq ?_
  refine W_reg ?_
  refine L_pu (P_move (.slice A1 n2 c3) rfl) ?_
  have hl24 := (hp4.st hc21.st).le
  refine L_pu (P_len Try.underlying33 A1 n2 c3 (hp4.st hc21.st).len rfl) ?_
  obtain ⟨hb25, H⟩ := H
  have hi26 := hb25 (len_le hl11) (len_le hl24)
  refine L_pu (P_sub (a.length : Int) 1 rfl rfl hi26) ?_
  refine L_pu (P_assign (vi ((a.length : Int) - 1)) rfl) ?_
  refine L_nil ?_
  refine W_block ?_
  obtain ⟨I57, mu58, hI59, H⟩ := H
  refine W_loop (α := (List Int) × (Option Addr) × Nat × Nat × Int) (fun (s : (List Int) × (Option Addr) × Nat × Nat × Int) t w46 => match s with | (xs2, A49, n50, c51, i2) => I57 xs2 i2 ∧ Has t [(0, .slice A1 n2 c3), (1, .slice A6 n7 c8), (5, .slice A49 n50 c51), (6, vi i2)] ∧ Ct none w0 w46 [blk (.slice A49 n50 c51)] O ∧ Sl kPt w46 (Fr ([blk (.slice A49 n50 c51)] ++ O)) (.slice A1 n2 c3) a ∧ Sl kPt w46 (Fr ([blk (.slice A49 n50 c51)] ++ O)) (.slice A6 n7 c8) b ∧ Ow (Kd.int .i64) 3 w46 ([blk (.slice A49 n50 c51)] ++ O) (.slice A49 n50 c51) xs2) (fun (s : (List Int) × (Option Addr) × Nat × Nat × Int) => match s with | (xs2, _, _, _, i2) => mu58 xs2 i2) ((List.replicate ((b.length : Int) + 1).toNat (0 : Int)), A16, n17, c18, (a.length : Int) - 1) ⟨hI59, ⟨rfl, rfl, rfl, rfl, trivial⟩, hc21, (hp4.st hc21.st), (hp9.st hc21.st), h22⟩ ?_
  rintro ⟨xs2, A49, n50, c51, i2⟩ _ w46 ⟨hI59, hh61, hc53, h54, h55, h56⟩
  obtain ⟨u62, rfl⟩ := Has.ins hh61
  have H := H xs2 i2 hI59
  refine W_seq ?_
  refine W_seq ?_
  refine W_reg ?_
  refine L_pu (P_move (vi i2) rfl) ?_
  refine L_pu (P_cmp i2 0 (decide (i2 ≥ 0)) rfl rfl rfl) ?_
  refine L_nil ?_
  refine W_cond (decide (i2 ≥ 0)) rfl (fun hq63 => ?_) (fun hq63 => ?_)
  · have H := ite_t H hq63
    refine W_skip ?_
    refine W_seq ?_
    refine W_block ?_
    refine W_seq ?_
    refine W_reg ?_
    refine L_pu (P_move (.slice A6 n7 c8) rfl) ?_
    have hl64 := h55.le
    refine L_pu (P_len Try.underlying33 A6 n7 c8 h55.len rfl) ?_
    obtain ⟨hb65, H⟩ := H
    have hi66 := hb65 (len_le hl64)
    refine L_pu (P_add (b.length : Int) 1 rfl rfl hi66) ?_
    obtain ⟨hb67, H⟩ := H
    refine L_make (kd := (Kd.int .i64)) ei65 hc53 (0 : Int) (rfl) ((b.length : Int) + 1) rfl rfl hb67 fun w68 A69 n70 c71 g72 hr73 hc74 h75 => ?_
    refine L_pu (P_assign (.slice A69 n70 c71) rfl) ?_
    refine L_nil ?_
    refine W_seq ?_
    refine W_seq ?_
    refine W_reg ?_
    refine L_pu (P_move (.slice A6 n7 c8) rfl) ?_
    refine L_pu (P_len Try.underlying33 A6 n7 c8 (h55.st (.own _ _ g72 hr73)).len rfl) ?_
    obtain ⟨hb77, H⟩ := H
    have hi78 := hb77 (len_le hl64)
    refine L_pu (P_sub (b.length : Int) 1 rfl rfl hi78) ?_
    refine L_pu (P_assign (vi ((b.length : Int) - 1)) rfl) ?_
    refine L_nil ?_
    refine W_block ?_
    obtain ⟨I115, mu116, hI117, H⟩ := H
    have h119 := (h56.so _ g72 hr73)
    refine W_loop (α := (List Int) × Int) (fun (s : (List Int) × Int) t w102 => match s with | (xs4, k2) => I115 xs4 k2 ∧ Has t [(0, .slice A1 n2 c3), (1, .slice A6 n7 c8), (5, .slice A49 n50 c51), (6, vi i2), (7, .slice A69 n70 c71), (8, vi k2)] ∧ Ct none w0 w102 [blk (.slice A69 n70 c71), blk (.slice A49 n50 c51)] O ∧ Sl kPt w102 (Fr ([blk (.slice A69 n70 c71), blk (.slice A49 n50 c51)] ++ O)) (.slice A1 n2 c3) a ∧ Sl kPt w102 (Fr ([blk (.slice A69 n70 c71), blk (.slice A49 n50 c51)] ++ O)) (.slice A6 n7 c8) b ∧ Ow (Kd.int .i64) 3 w102 ([blk (.slice A69 n70 c71), blk (.slice A49 n50 c51)] ++ O) (.slice A49 n50 c51) xs2 ∧ Ow (Kd.int .i64) 3 w102 ([blk (.slice A69 n70 c71), blk (.slice A49 n50 c51)] ++ O) (.slice A69 n70 c71) xs4) (fun (s : (List Int) × Int) => match s with | (xs4, k2) => mu116 xs4 k2) ((List.replicate ((b.length : Int) + 1).toNat (0 : Int)), (b.length : Int) - 1) ⟨hI117, ⟨rfl, rfl, rfl, rfl, rfl, rfl, trivial⟩, hc74, (h54.st (.own _ _ g72 hr73)), (h55.st (.own _ _ g72 hr73)), h119, h75⟩ ?_
    rintro ⟨xs4, k2⟩ _ w102 ⟨hI117, hh120, hc110, h111, h112, h113, h114⟩
    obtain ⟨u121, rfl⟩ := Has.ins hh120
    have H := H xs4 k2 hI117
    refine W_seq ?_
    refine W_seq ?_
    refine W_reg ?_
    refine L_pu (P_move (vi k2) rfl) ?_
    refine L_pu (P_cmp k2 0 (decide (k2 ≥ 0)) rfl rfl rfl) ?_
    refine L_nil ?_
    refine W_cond (decide (k2 ≥ 0)) rfl (fun hq122 => ?_) (fun hq122 => ?_)
    · have H := ite_t H hq122
      refine W_skip ?_
      refine W_seq ?_
      refine W_block ?_
      refine W_seq ?_
      refine W_draw (fun x => Gr w102 x none) (by kernel_rfl) (by kernel_rfl) (Gr.drew _) ?_
      refine Q_pu (P_move (.slice A1 n2 c3) rfl) ?_
      refine Q_pu (P_move (vi i2) rfl) ?_
      obtain ⟨hb123, H⟩ := H
      obtain ⟨ad124, cs125, hA126, hS129, hR127, hcl128⟩ := h111.get default (by decide) i2 hb123
      obtain rfl := kPt.op hR127
      refine Q_pu (P_ia Try.underlying33 se33 A1 ad124 n2 c3 h111.len i2 rfl hA126 rfl hb123) ?_
      refine Q_pu (P_lda ag41 sz41 cQ (ad124.add (i2.toNat * 2)) [vi ((nth a i2).X), vi ((nth a i2).Y)] rfl rfl hcl128) ?_
      refine Q_pu (P_move (.slice A6 n7 c8) rfl) ?_
      refine Q_pu (P_move (vi k2) rfl) ?_
      obtain ⟨hb130, H⟩ := H
      obtain ⟨ad131, cs132, hA133, hS136, hR134, hcl135⟩ := h112.get default (by decide) k2 hb130
      obtain rfl := kPt.op hR134
      refine Q_pu (P_ia Try.underlying33 se33 A6 ad131 n7 c8 h112.len k2 rfl hA133 rfl hb130) ?_
      refine Q_pu (P_lda ag41 sz41 cQ (ad131.add (k2.toNat * 2)) [vi ((nth b k2).X), vi ((nth b k2).Y)] rfl rfl hcl135) ?_
      refine Q_pu (P_eq _ _ (eqPt (nth a i2) (nth b k2)) (qt41 (nth a i2) (nth b k2)) rfl rfl) ?_
      refine Q_nil fun w137 g138 => ?_
      have hc140 := hc110.k0 g138
      refine W_cond (eqPt (nth a i2) (nth b k2)) rfl (fun hq141 => ?_) (fun hq141 => ?_)
      · have H := ite_t H hq141
        refine W_reg ?_
        refine L_pu (P_move (.slice A69 n70 c71) rfl) ?_
        refine L_pu (P_move (vi k2) rfl) ?_
        refine L_pu (P_move (.slice A49 n50 c51) rfl) ?_
        refine L_pu (P_move (vi k2) rfl) ?_
        obtain ⟨hb142, H⟩ := H
        refine L_pu (P_add k2 1 rfl rfl hb142) ?_
        obtain ⟨hb143, H⟩ := H
        have h150 := (h113.sn g138)
        obtain ⟨ad144, cs145, hA146, hR147, hcl148⟩ := h150.get default (by decide) (k2 + 1) hb143
        obtain rfl := Kd.int.op hR147
        refine L_pu (P_ia Try.underlying65 se65 A49 ad144 n50 c51 h150.len (k2 + 1) rfl hA146 rfl hb143) ?_
        refine L_pu (P_ld ag3 cL (ad144.add ((k2 + 1).toNat * 1)) (vi (nth xs2 (k2 + 1))) rfl (hcl148 0 _ rfl)) ?_
        obtain ⟨hb151, H⟩ := H
        refine L_pu (P_add (nth xs2 (k2 + 1)) 1 rfl rfl hb151) ?_
        obtain ⟨hb152, H⟩ := H
        have h159 := (h114.sn g138)
        obtain ⟨ad153, cs154, hA155, hR156, hcl157⟩ := h159.get default (by decide) k2 hb152
        obtain rfl := Kd.int.op hR156
        refine L_pu (P_ia Try.underlying65 se65 A69 ad153 n70 c71 h159.len k2 rfl hA155 rfl hb152) ?_
        refine L_ste0 A69 n70 c71 xs4 h159 k2 hb152 ad153 hA155 0 rfl [vi ((nth xs2 (k2 + 1)) + 1)] rfl sz3 rfl ((nth xs2 (k2 + 1)) + 1) [vi (nth xs4 k2)] [vi ((nth xs2 (k2 + 1)) + 1)] hcl157 rfl rfl rfl fun w160 g161 h162 => ?_
        have hc163 := hc140.wr 0 rfl g161
        refine L_nil ?_
        refine W_reg ?_
        refine L_pu (P_move (vi k2) rfl) ?_
        obtain ⟨hb164, H⟩ := H
        refine L_pu (P_sub k2 1 rfl rfl hb164) ?_
        refine L_pu (P_assign (vi (k2 - 1)) rfl) ?_
        refine L_nil ?_
        obtain ⟨hI165, hm166⟩ := H
        have h167 := ((h111.st (.new _ g138)).st (.wl (L := [blk (.slice A69 n70 c71), blk (.slice A49 n50 c51)]) (O := O) (j := 0) rfl g161))
        have h168 := ((h112.st (.new _ g138)).st (.wl (L := [blk (.slice A69 n70 c71), blk (.slice A49 n50 c51)]) (O := O) (j := 0) rfl g161))
        have h169 := (Ow.sw (L := [blk (.slice A69 n70 c71), blk (.slice A49 n50 c51)]) (O := O) h150 hc140 (i := 1) rfl (j := 0) rfl (by decide) g161)
        exact ⟨((xs4.set k2.toNat ((nth xs2 (k2 + 1)) + 1)), k2 - 1), hm166, hI165, ⟨rfl, rfl, rfl, rfl, rfl, rfl, trivial⟩, hc163, h167, h168, h169, h162⟩
      · have H := ite_f H hq141
        refine W_tail 13 (by kernel_rfl) (by kernel_rfl) fun w170 g171 => ?_
        have hc172 := hc140.k0 g171
        refine S_pu (P_move (.slice A69 n70 c71) rfl) ?_
        refine S_pu (P_move (vi k2) rfl) ?_
        refine S_pu (P_move (.slice A49 n50 c51) rfl) ?_
        refine S_pu (P_move (vi k2) rfl) ?_
        obtain ⟨hb173, H⟩ := H
        have h180 := ((h113.sn g138).sn g171)
        obtain ⟨ad174, cs175, hA176, hR177, hcl178⟩ := h180.get default (by decide) k2 hb173
        obtain rfl := Kd.int.op hR177
        refine S_pu (P_ia Try.underlying65 se65 A49 ad174 n50 c51 h180.len k2 rfl hA176 rfl hb173) ?_
        refine S_pu (P_ld ag3 cL (ad174.add (k2.toNat * 1)) (vi (nth xs2 k2)) rfl (hcl178 0 _ rfl)) ?_
        refine S_pu (P_move (.slice A69 n70 c71) rfl) ?_
        refine S_pu (P_move (vi k2) rfl) ?_
        obtain ⟨hb181, H⟩ := H
        refine S_pu (P_add k2 1 rfl rfl hb181) ?_
        obtain ⟨hb182, H⟩ := H
        have h189 := ((h114.sn g138).sn g171)
        obtain ⟨ad183, cs184, hA185, hR186, hcl187⟩ := h189.get default (by decide) (k2 + 1) hb182
        obtain rfl := Kd.int.op hR186
        refine S_pu (P_ia Try.underlying65 se65 A69 ad183 n70 c71 h189.len (k2 + 1) rfl hA185 rfl hb182) ?_
        refine S_pu (P_ld ag3 cL (ad183.add ((k2 + 1).toNat * 1)) (vi (nth xs4 (k2 + 1))) rfl (hcl187 0 _ rfl)) ?_
        refine S_call go59 [vi (nth xs2 k2), vi (nth xs4 (k2 + 1))] rfl (vi (spec_l1Max.m (nth xs2 k2) (nth xs4 (k2 + 1)))) ((spec_l1Max.calls w170 hc172.ok (nth xs2 k2) (nth xs4 (k2 + 1)) _ (spec_l1Max.fn (nth xs2 k2) (nth xs4 (k2 + 1)))).mono ?_) ?_
        · rintro _ w ⟨r, rfl, rfl, _, rfl⟩
          exact ⟨rfl, rfl⟩
        obtain ⟨hb195, H⟩ := H
        obtain ⟨ad196, cs197, hA198, hR199, hcl200⟩ := h189.get default (by decide) k2 hb195
        obtain rfl := Kd.int.op hR199
        refine S_pu (P_ia Try.underlying65 se65 A69 ad196 n70 c71 h189.len k2 rfl hA198 rfl hb195) ?_
        refine S_nil ?_
        refine L_ste0 A69 n70 c71 xs4 h189 k2 hb195 ad196 hA198 0 rfl [vi (spec_l1Max.m (nth xs2 k2) (nth xs4 (k2 + 1)))] rfl sz3 rfl (spec_l1Max.m (nth xs2 k2) (nth xs4 (k2 + 1))) [vi (nth xs4 k2)] [vi (spec_l1Max.m (nth xs2 k2) (nth xs4 (k2 + 1)))] hcl200 rfl rfl rfl fun w202 g203 h204 => ?_
        have hc205 := hc172.wr 0 rfl g203
        refine L_nil ?_
        refine W_reg ?_
        refine L_pu (P_move (vi k2) rfl) ?_
        obtain ⟨hb206, H⟩ := H
        refine L_pu (P_sub k2 1 rfl rfl hb206) ?_
        refine L_pu (P_assign (vi (k2 - 1)) rfl) ?_
        refine L_nil ?_
        obtain ⟨hI207, hm208⟩ := H
        have h209 := (((h111.st (.new _ g138)).st (.new _ g171)).st (.wl (L := [blk (.slice A69 n70 c71), blk (.slice A49 n50 c51)]) (O := O) (j := 0) rfl g203))
        have h210 := (((h112.st (.new _ g138)).st (.new _ g171)).st (.wl (L := [blk (.slice A69 n70 c71), blk (.slice A49 n50 c51)]) (O := O) (j := 0) rfl g203))
        have h211 := (Ow.sw (L := [blk (.slice A69 n70 c71), blk (.slice A49 n50 c51)]) (O := O) h180 hc172 (i := 1) rfl (j := 0) rfl (by decide) g203)
        exact ⟨((xs4.set k2.toNat (spec_l1Max.m (nth xs2 k2) (nth xs4 (k2 + 1)))), k2 - 1), hm208, hI207, ⟨rfl, rfl, rfl, rfl, rfl, rfl, trivial⟩, hc205, h209, h210, h211, h204⟩
    · have H := ite_f H hq122
      refine W_exit (xin_hit ?_)
      refine W_reg ?_
      refine L_pu (P_move (.slice A69 n70 c71) rfl) ?_
      refine L_pu (P_assign (.slice A69 n70 c71) rfl) ?_
      refine L_nil ?_
      refine W_reg ?_
      refine L_pu (P_move (vi i2) rfl) ?_
      obtain ⟨hb212, H⟩ := H
      refine L_pu (P_sub i2 1 rfl rfl hb212) ?_
      refine L_pu (P_assign (vi (i2 - 1)) rfl) ?_
      refine L_nil ?_
      have hc213 := hc110.drop 1 rfl
      obtain ⟨hI214, hm215⟩ := H
      have h216 := (h111.st (.dr _ (L := [blk (.slice A69 n70 c71), blk (.slice A49 n50 c51)]) (O := O) (j := 1) rfl))
      have h217 := (h112.st (.dr _ (L := [blk (.slice A69 n70 c71), blk (.slice A49 n50 c51)]) (O := O) (j := 1) rfl))
      have h218 := (Ow.sd (L := [blk (.slice A69 n70 c71), blk (.slice A49 n50 c51)]) (O := O) h114 (i := 0) rfl (j := 1) rfl (by decide))
      exact ⟨(xs4, A69, n70, c71, i2 - 1), hm215, hI214, ⟨rfl, rfl, rfl, rfl, trivial⟩, hc213, h216, h217, h218⟩
  · have H := ite_f H hq63
    refine W_exit (xin_hit ?_)
    refine W_seq ?_
    refine W_reg ?_
    refine L_pu (P_move (.slice A49 n50 c51) rfl) ?_
    obtain ⟨hb219, H⟩ := H
    obtain ⟨ad220, cs221, hA222, hR223, hcl224⟩ := h56.get default (by decide) 0 hb219
    obtain rfl := Kd.int.op hR223
    refine L_pu (P_ia Try.underlying65 se65 A49 ad220 n50 c51 h56.len 0 rfl hA222 rfl hb219) ?_
    refine L_pu (P_ld ag3 cL (ad220.add ((0 : Int).toNat * 1)) (vi (nth xs2 0)) rfl (hcl224 0 _ rfl)) ?_
    refine L_pu (P_assign (vi (nth xs2 0)) rfl) ?_
    refine L_nil ?_
    refine W_ret ?_
    have hc226 := hc53.drop 0 rfl
    exact ⟨[vi (nth xs2 0)], ⟨_, rfl, rfl⟩, (nth xs2 0), rfl, H, hc226.gr⟩
end Go.Proofs.Ytnliofcjplnboaa

namespace Go.Proofs.Ytnliofcjplnboaa
set_option linter.unusedVariables false
set_option linter.unusedSimpArgs false
theorem spec_l5Long.law (a b : List Pt) (Q : Int → Prop) (ha : a.length ≤ 1048576) (hb : b.length ≤ 1048576) (hq : Q (lcs a b : Nat)) : spec_l5Long.E a b Q := by
  unfold spec_l5Long.E
  have hn : ((b.length : Int) + 1).toNat = b.length + 1 := by omega
  rw [hn]
  refine ⟨fun _ => by unfold I64; omega, by omega, fun _ _ => by unfold I64; omega,
    fun xs i => ∃ k : Nat, i = (k : Int) - 1 ∧ k ≤ a.length ∧ RowOk a b k 0 xs, fun _ i => (i + 1).toNat, ⟨a.length, rfl, Nat.le_refl _, by simp, fun m _ hm => ?_⟩, ?_⟩
  · rw [nth_rep _ _ _ (by omega), List.drop_length, lcs_nil]; rfl
  rintro xs _ ⟨k, rfl, hk, hr⟩
  by_cases hk0 : (k : Int) - 1 ≥ 0
  · rw [if_pos (by simpa using hk0)]
    obtain ⟨i, rfl⟩ : ∃ i, k = i + 1 := ⟨k - 1, by omega⟩
    have ei : ((i + 1 : Nat) : Int) - 1 = (i : Int) := by omega
    rw [ei]
    refine ⟨fun _ => by unfold I64; omega, by omega, fun _ => by unfold I64; omega,
      fun ys j => ∃ m : Nat, j = (m : Int) - 1 ∧ m ≤ b.length ∧ RowOk a b i m ys, fun _ j => (j + 1).toNat, ⟨b.length, rfl, Nat.le_refl _, by simp, fun m hm1 hm2 => ?_⟩, ?_⟩
    · have : m = b.length := by omega
      subst this
      rw [nth_rep _ _ _ (by omega), List.drop_length, lcs_nil2]; rfl
    rintro ys _ ⟨m, rfl, hm, hs⟩
    by_cases hm0 : (m : Int) - 1 ≥ 0
    · rw [if_pos (by simpa using hm0)]
      obtain ⟨j, rfl⟩ : ∃ j, m = j + 1 := ⟨m - 1, by omega⟩
      have ej : ((j + 1 : Nat) : Int) - 1 = (j : Int) := by omega
      have ej1 : (j : Int) + 1 = ((j + 1 : Nat) : Int) := by omega
      rw [ej, ej1, eqPt_is]
      have hl := lcs_drop a b (i := i) (j := j) (by omega) (by omega)
      have n1 := hr.2 (j + 1) (Nat.zero_le _) (by omega)
      have n2 := hr.2 j (Nat.zero_le _) (by omega)
      have n3 := hs.2 (j + 1) (Nat.le_refl _) (by omega)
      have b1 := lcs_le2 (a.drop (i + 1)) (b.drop (j + 1))
      rw [List.length_drop] at b1
      have hset : ∀ v : Int, v = (lcs (a.drop i) (b.drop j) : Nat) → RowOk a b i j (ys.set (j : Int).toNat v) := fun v hv => by
        refine ⟨by rw [List.length_set]; exact hs.1, fun u hu1 hu2 => ?_⟩
        rw [Int.toNat_natCast, nth_set _ (by have := hs.1; omega)]
        by_cases e : u = j
        · subst e; rw [if_pos rfl, hv]
        · rw [if_neg e]; exact hs.2 u (by omega) hu2
      have l1 := hr.1
      have l2 := hs.1
      refine ⟨by omega, by omega, ?_⟩
      by_cases he : nth a (i : Int) = nth b (j : Int)
      · rw [if_pos (by simpa using he)]
        rw [if_pos he] at hl
        rw [n1]
        exact ⟨by unfold I64; omega, by omega, by unfold I64; omega, by omega, by unfold I64; omega, ⟨j, by omega, by omega, hset _ (by omega)⟩, by dsimp only; omega⟩
      · rw [if_neg (by simpa using he)]
        rw [if_neg he] at hl
        rw [n2, n3, spec_l1Max.m_is]
        exact ⟨by omega, by unfold I64; omega, by omega, by omega, by unfold I64; omega, ⟨j, by omega, by omega, hset _ (by omega)⟩, by dsimp only; omega⟩
    · rw [if_neg (by simpa using hm0)]
      have : m = 0 := by omega
      subst this
      exact ⟨by unfold I64; omega, ⟨i, by omega, by omega, hs⟩, by dsimp only; omega⟩
  · rw [if_neg (by simpa using hk0)]
    have : k = 0 := by omega
    subst this
    have h1 := hr.1
    have h2 := hr.2 0 (Nat.le_refl _) (Nat.zero_le _)
    refine ⟨by omega, ?_⟩
    rw [show nth xs 0 = nth xs ((0 : Nat) : Int) from rfl, h2]
    exact hq
end Go.Proofs.Ytnliofcjplnboaa

namespace Go.Proofs.Ytnliofcjplnboaa
open Go.RowKit
set_option linter.unusedVariables false
def spec_SeqLong.E (a : List Pt) (b : List Pt) (Q : Int → Prop) : Prop :=
  spec_l5Few.E a b (fun r => (if !r then Q 0 else spec_l5Long.E a b (fun r2 => Q r2)))
set_option maxHeartbeats 8000000 in
set_option maxRecDepth 100000 in
theorem spec_SeqLong.calls {O : Ob} (w0 : World) (hO : Ok w0 O) (a : List Pt) (A1 : Option Addr) (n2 c3 : Nat) (hp4 : Sl kPt w0 (Fr O) (.slice A1 n2 c3) a) (b : List Pt) (A6 : Option Addr) (n7 c8 : Nat) (hp9 : Sl kPt w0 (Fr O) (.slice A6 n7 c8) b) (Q : Int → Prop) (h : spec_SeqLong.E a b Q) :
    Ret Try.prog 23 [.slice A1 n2 c3, .slice A6 n7 c8] w0 (fun v w' => ∃ (r0 : Int), v = vi r0 ∧ Q r0 ∧ Gr w0 w' none) := by
  have H : spec_l5Few.E a b (fun r => (if !r then Q 0 else spec_l5Long.E a b (fun r2 => Q r2))) := h
  clear h
  have hc0 := Ct.init hO
  refine Ret_enter Try.func23 rfl 12 rfl [.tmp 4] rfl rfl ?_
  refine W_seq ?_
  refine W_reg ?_
  refine L_pu (P_assign (vi 0) rfl) ?_
  refine L_nil ?_
  refine W_seq ?_
  refine W_seq ?_
  refine W_reg ?_
  refine L_pu (P_move (.slice A1 n2 c3) rfl) ?_
  refine L_pu (P_move (.slice A6 n7 c8) rfl) ?_
  refine L_call go45 [.slice A1 n2 c3, .slice A6 n7 c8] rfl ((spec_l5Few.calls w0 hc0.ok a A1 n2 c3 hp4 b A6 n7 c8 hp9 _ H).mono ?_)
  rintro _ w11 ⟨r, rfl, H, g12, _⟩
  have hc16 := hc0.k0 g12
  refine L_pu (P_not r rfl) ?_
  refine L_nil ?_
  refine W_cond (!r) rfl (fun hq17 => ?_) (fun hq17 => ?_)
  · have H := ite_t H hq17
    refine W_seq ?_
    refine W_reg ?_
    refine L_pu (P_assign (vi 0) rfl) ?_
    refine L_nil ?_
    refine W_ret ?_
    exact ⟨[vi 0], ⟨_, rfl, rfl⟩, 0, rfl, H, hc16.gr⟩
  · have H := ite_f H hq17
    refine W_skip ?_
    refine W_seq ?_
    refine W_reg ?_
    refine L_pu (P_move (.slice A1 n2 c3) rfl) ?_
    refine L_pu (P_move (.slice A6 n7 c8) rfl) ?_
    refine L_call go46 [.slice A1 n2 c3, .slice A6 n7 c8] rfl ((spec_l5Long.calls w11 hc16.ok a A1 n2 c3 (hp4.st hc16.st) b A6 n7 c8 (hp9.st hc16.st) _ H).mono ?_)
    rintro _ w18 ⟨r2, rfl, H, g19⟩
    have hc23 := hc16.k0 g19
    refine L_pu (P_assign (vi r2) rfl) ?_
    refine L_nil ?_
    refine W_ret ?_
    exact ⟨[vi r2], ⟨_, rfl, rfl⟩, r2, rfl, H, hc23.gr⟩
end Go.Proofs.Ytnliofcjplnboaa

namespace Go.Proofs.Ytnliofcjplnboaa
set_option linter.unusedVariables false
set_option linter.unusedSimpArgs false
theorem spec_SeqLong.law (a b : List Pt) (Q : Int → Prop) (hq : Q (slen a b)) : spec_SeqLong.E a b Q := by
  unfold spec_SeqLong.E
  refine spec_l5Few.law _ _ _ ?_
  unfold slen at hq
  by_cases h : few a b = true
  · rw [if_pos h] at hq
    rw [h, if_neg (by simp)]
    have := few_iff.1 h
    exact spec_l5Long.law _ _ _ (by omega) (by omega) hq
  · rw [if_neg h] at hq
    rw [if_pos (by simpa using h)]; exact hq
end Go.Proofs.Ytnliofcjplnboaa

namespace Go.Proofs.Ytnliofcjplnboaa
open Go.RowKit
set_option linter.unusedVariables false
def impl_lengths.E (a : List Pt) (b : List Pt) (Q : List (List Int) → Prop) : Prop :=
  ((a.length : Int) ≤ 9223372036854775807 → I64 ((a.length : Int) + 1)) ∧ ((0 : Int) ≤ (a.length : Int) + 1 ∧ (a.length : Int) + 1 ≤ (268435456 : Int)) ∧ (∃ (I59 : (List (List Int)) → Int → Prop) (mu60 : (List (List Int)) → Int → Nat), I59 (List.replicate ((a.length : Int) + 1).toNat ([] : List Int)) 0 ∧ ∀ (xs2 : List (List Int)) (v2 : Int), I59 xs2 v2 → (if decide (v2 < ((List.replicate ((a.length : Int) + 1).toNat ([] : List Int)).length : Int)) then ((b.length : Int) ≤ 9223372036854775807 → I64 ((b.length : Int) + 1)) ∧ ((0 : Int) ≤ (b.length : Int) + 1 ∧ (b.length : Int) + 1 ≤ (268435456 : Int)) ∧ ((0 : Int) ≤ v2 ∧ v2 < (xs2.length : Int)) ∧ ((b.length : Int) ≤ 9223372036854775807 → I64 (v2 + 1)) ∧ I59 (xs2.set v2.toNat (List.replicate ((b.length : Int) + 1).toNat (0 : Int))) (v2 + 1) ∧ mu60 (xs2.set v2.toNat (List.replicate ((b.length : Int) + 1).toNat (0 : Int))) (v2 + 1) < mu60 xs2 v2 else ((a.length : Int) ≤ 9223372036854775807 → I64 ((a.length : Int) - 1)) ∧ (∃ (I146 : (List (List Int)) → Int → Prop) (mu147 : (List (List Int)) → Int → Nat), I146 xs2 ((a.length : Int) - 1) ∧ ∀ (xs4 : List (List Int)) (i2 : Int), I146 xs4 i2 → (if decide (i2 ≥ 0) then ((b.length : Int) ≤ 9223372036854775807 → I64 ((b.length : Int) - 1)) ∧ (∃ (I188 : (List (List Int)) → Int → Prop) (mu189 : (List (List Int)) → Int → Nat), I188 xs4 ((b.length : Int) - 1) ∧ ∀ (xs6 : List (List Int)) (j2 : Int), I188 xs6 j2 → (if decide (j2 ≥ 0) then ((0 : Int) ≤ i2 ∧ i2 < (a.length : Int)) ∧ ((0 : Int) ≤ j2 ∧ j2 < (b.length : Int)) ∧ (if eqPt (nth a i2) (nth b j2) then ((0 : Int) ≤ i2 ∧ i2 < (xs6.length : Int)) ∧ (I64 (i2 + 1)) ∧ ((0 : Int) ≤ i2 + 1 ∧ i2 + 1 < (xs6.length : Int)) ∧ (I64 (j2 + 1)) ∧ ((0 : Int) ≤ j2 + 1 ∧ j2 + 1 < ((nth xs6 (i2 + 1)).length : Int)) ∧ (I64 ((nth (nth xs6 (i2 + 1)) (j2 + 1)) + 1)) ∧ ((0 : Int) ≤ j2 ∧ j2 < ((nth xs6 i2).length : Int)) ∧ (I64 (j2 - 1)) ∧ I188 (xs6.set i2.toNat ((nth xs6 i2).set j2.toNat ((nth (nth xs6 (i2 + 1)) (j2 + 1)) + 1))) (j2 - 1) ∧ mu189 (xs6.set i2.toNat ((nth xs6 i2).set j2.toNat ((nth (nth xs6 (i2 + 1)) (j2 + 1)) + 1))) (j2 - 1) < mu189 xs6 j2 else ((0 : Int) ≤ i2 ∧ i2 < (xs6.length : Int)) ∧ (I64 (i2 + 1)) ∧ ((0 : Int) ≤ i2 + 1 ∧ i2 + 1 < (xs6.length : Int)) ∧ ((0 : Int) ≤ j2 ∧ j2 < ((nth xs6 (i2 + 1)).length : Int)) ∧ ((0 : Int) ≤ i2 ∧ i2 < (xs6.length : Int)) ∧ (I64 (j2 + 1)) ∧ ((0 : Int) ≤ j2 + 1 ∧ j2 + 1 < ((nth xs6 i2).length : Int)) ∧ ((0 : Int) ≤ j2 ∧ j2 < ((nth xs6 i2).length : Int)) ∧ (I64 (j2 - 1)) ∧ I188 (xs6.set i2.toNat ((nth xs6 i2).set j2.toNat (max (nth (nth xs6 (i2 + 1)) j2) (nth (nth xs6 i2) (j2 + 1))))) (j2 - 1) ∧ mu189 (xs6.set i2.toNat ((nth xs6 i2).set j2.toNat (max (nth (nth xs6 (i2 + 1)) j2) (nth (nth xs6 i2) (j2 + 1))))) (j2 - 1) < mu189 xs6 j2) else (I64 (i2 - 1)) ∧ I146 xs6 (i2 - 1) ∧ mu147 xs6 (i2 - 1) < mu147 xs4 i2)) else Q xs4))))
set_option maxHeartbeats 8000000 in
set_option maxRecDepth 100000 in
theorem impl_lengths.calls {O : Ob} (w0 : World) (hO : Ok w0 O) (a : List Pt) (A1 : Option Addr) (n2 c3 : Nat) (hp4 : Sl kPt w0 (Fr O) (.slice A1 n2 c3) a) (b : List Pt) (A6 : Option Addr) (n7 c8 : Nat) (hp9 : Sl kPt w0 (Fr O) (.slice A6 n7 c8) b) (Q : List (List Int) → Prop) (h : impl_lengths.E a b Q) :
    Ret Try.prog 48 [.slice A1 n2 c3, .slice A6 n7 c8] w0 (fun v w' => ∃ (r0 : List (List Int)) (A0 : Option Addr) (n0 c0 : Nat), v = .slice A0 n0 c0 ∧ Q r0 ∧ Gr w0 w' none ∧ Sl (Kd.sl (Kd.int .i64)) w' (Fr O) (.slice A0 n0 c0) r0) := by
  have H : ((a.length : Int) ≤ 9223372036854775807 → I64 ((a.length : Int) + 1)) ∧ ((0 : Int) ≤ (a.length : Int) + 1 ∧ (a.length : Int) + 1 ≤ (268435456 : Int)) ∧ (∃ (I59 : (List (List Int)) → Int → Prop) (mu60 : (List (List Int)) → Int → Nat), I59 (List.replicate ((a.length : Int) + 1).toNat ([] : List Int)) 0 ∧ ∀ (xs2 : List (List Int)) (v2 : Int), I59 xs2 v2 → (if decide (v2 < ((List.replicate ((a.length : Int) + 1).toNat ([] : List Int)).length : Int)) then ((b.length : Int) ≤ 9223372036854775807 → I64 ((b.length : Int) + 1)) ∧ ((0 : Int) ≤ (b.length : Int) + 1 ∧ (b.length : Int) + 1 ≤ (268435456 : Int)) ∧ ((0 : Int) ≤ v2 ∧ v2 < (xs2.length : Int)) ∧ ((b.length : Int) ≤ 9223372036854775807 → I64 (v2 + 1)) ∧ I59 (xs2.set v2.toNat (List.replicate ((b.length : Int) + 1).toNat (0 : Int))) (v2 + 1) ∧ mu60 (xs2.set v2.toNat (List.replicate ((b.length : Int) + 1).toNat (0 : Int))) (v2 + 1) < mu60 xs2 v2 else ((a.length : Int) ≤ 9223372036854775807 → I64 ((a.length : Int) - 1)) ∧ (∃ (I146 : (List (List Int)) → Int → Prop) (mu147 : (List (List Int)) → Int → Nat), I146 xs2 ((a.length : Int) - 1) ∧ ∀ (xs4 : List (List Int)) (i2 : Int), I146 xs4 i2 → (if decide (i2 ≥ 0) then ((b.length : Int) ≤ 9223372036854775807 → I64 ((b.length : Int) - 1)) ∧ (∃ (I188 : (List (List Int)) → Int → Prop) (mu189 : (List (List Int)) → Int → Nat), I188 xs4 ((b.length : Int) - 1) ∧ ∀ (xs6 : List (List Int)) (j2 : Int), I188 xs6 j2 → (if decide (j2 ≥ 0) then ((0 : Int) ≤ i2 ∧ i2 < (a.length : Int)) ∧ ((0 : Int) ≤ j2 ∧ j2 < (b.length : Int)) ∧ (if eqPt (nth a i2) (nth b j2) then ((0 : Int) ≤ i2 ∧ i2 < (xs6.length : Int)) ∧ (I64 (i2 + 1)) ∧ ((0 : Int) ≤ i2 + 1 ∧ i2 + 1 < (xs6.length : Int)) ∧ (I64 (j2 + 1)) ∧ ((0 : Int) ≤ j2 + 1 ∧ j2 + 1 < ((nth xs6 (i2 + 1)).length : Int)) ∧ (I64 ((nth (nth xs6 (i2 + 1)) (j2 + 1)) + 1)) ∧ ((0 : Int) ≤ j2 ∧ j2 < ((nth xs6 i2).length : Int)) ∧ (I64 (j2 - 1)) ∧ I188 (xs6.set i2.toNat ((nth xs6 i2).set j2.toNat ((nth (nth xs6 (i2 + 1)) (j2 + 1)) + 1))) (j2 - 1) ∧ mu189 (xs6.set i2.toNat ((nth xs6 i2).set j2.toNat ((nth (nth xs6 (i2 + 1)) (j2 + 1)) + 1))) (j2 - 1) < mu189 xs6 j2 else ((0 : Int) ≤ i2 ∧ i2 < (xs6.length : Int)) ∧ (I64 (i2 + 1)) ∧ ((0 : Int) ≤ i2 + 1 ∧ i2 + 1 < (xs6.length : Int)) ∧ ((0 : Int) ≤ j2 ∧ j2 < ((nth xs6 (i2 + 1)).length : Int)) ∧ ((0 : Int) ≤ i2 ∧ i2 < (xs6.length : Int)) ∧ (I64 (j2 + 1)) ∧ ((0 : Int) ≤ j2 + 1 ∧ j2 + 1 < ((nth xs6 i2).length : Int)) ∧ ((0 : Int) ≤ j2 ∧ j2 < ((nth xs6 i2).length : Int)) ∧ (I64 (j2 - 1)) ∧ I188 (xs6.set i2.toNat ((nth xs6 i2).set j2.toNat (max (nth (nth xs6 (i2 + 1)) j2) (nth (nth xs6 i2) (j2 + 1))))) (j2 - 1) ∧ mu189 (xs6.set i2.toNat ((nth xs6 i2).set j2.toNat (max (nth (nth xs6 (i2 + 1)) j2) (nth (nth xs6 i2) (j2 + 1))))) (j2 - 1) < mu189 xs6 j2) else (I64 (i2 - 1)) ∧ I146 xs6 (i2 - 1) ∧ mu147 xs6 (i2 - 1) < mu147 xs4 i2)) else Q xs4)))) := h
  clear h
  have hc0 := Ct.init hO
  refine Ret_enter Try.func48 rfl 89 rfl [.tmp 4] rfl rfl ?_
  refine W_seq ?_
  refine W_reg ?_
  refine L_pu (P_assign (.slice none 0 0) rfl) ?_
  refine L_nil ?_
  refine W_seq ?_
  refine W_reg ?_
  refine L_pu (P_move (.slice A1 n2 c3) rfl) ?_
  have hl11 := hp4.le
  refine L_pu (P_len Try.underlying33 A1 n2 c3 hp4.len rfl) ?_
  obtain ⟨hb12, H⟩ := H
  have hi13 := hb12 (len_le hl11)
  refine L_pu (P_add (a.length : Int) 1 rfl rfl hi13) ?_
  obtain ⟨hb14, H⟩ := H
  refine L_make (kd := Kd.raw) ei66 hc0 (.slice none 0 0 : Value) ⟨rfl, rfl⟩ ((a.length : Int) + 1) rfl rfl hb14 fun w15 A16 n17 c18 g19 hr20 hc21 h22 => ?_
  have h25 : Tb (Kd.int .i64) 65 3 w15 _ _ _ (List.replicate ((a.length : Int) + 1).toNat []) := h22.nones
  have hc24 := hc21.nones ((a.length : Int) + 1).toNat
  refine L_pu (P_assign (.slice A16 n17 c18) rfl) ?_
  refine L_nil ?_
  refine W_seq ?_
  refine W_seq ?_
  refine W_reg ?_
  refine L_pu (P_move (.slice A16 n17 c18) rfl) ?_
  have hl26 := h25.le
  refine L_pu (P_len Try.underlying66 A16 n17 c18 h25.len rfl) ?_
  refine L_pu (P_move (vi 0) rfl) ?_
  refine L_nil ?_
  refine W_block ?_
  obtain ⟨I59, mu60, hI61, H⟩ := H
  refine W_loop (α := (List (List Int)) × (List Value) × Int) (fun (s : (List (List Int)) × (List Value) × Int) t w47 => match s with | (xs2, vs54, v2) => I59 xs2 v2 ∧ Has t [(0, .slice A1 n2 c3), (1, .slice A6 n7 c8), (5, .slice A16 n17 c18), (14, vi ((List.replicate ((a.length : Int) + 1).toNat ([] : List Int)).length : Int)), (15, vi v2)] ∧ Ct none w0 w47 (blk (.slice A16 n17 c18) :: (vs54).map blk) O ∧ Sl kPt w47 (Fr ((blk (.slice A16 n17 c18) :: (vs54).map blk) ++ O)) (.slice A1 n2 c3) a ∧ Sl kPt w47 (Fr ((blk (.slice A16 n17 c18) :: (vs54).map blk) ++ O)) (.slice A6 n7 c8) b ∧ Tb (Kd.int .i64) 65 3 w47 ((blk (.slice A16 n17 c18) :: (vs54).map blk) ++ O) (.slice A16 n17 c18) vs54 xs2) (fun (s : (List (List Int)) × (List Value) × Int) => match s with | (xs2, _, v2) => mu60 xs2 v2) ((List.replicate ((a.length : Int) + 1).toNat ([] : List Int)), (List.replicate ((a.length : Int) + 1).toNat (Value.slice none 0 0)), 0) ⟨hI61, ⟨rfl, rfl, rfl, rfl, rfl, trivial⟩, hc24, (hp4.st hc24.st), (hp9.st hc24.st), h25⟩ ?_
  rintro ⟨xs2, vs54, v2⟩ _ w47 ⟨hI61, hh63, hc55, h56, h57, h58⟩
  obtain ⟨u64, rfl⟩ := Has.ins hh63
  have H := H xs2 v2 hI61
  refine W_seq ?_
  refine W_reg ?_
  refine L_pu (P_cmp v2 ((List.replicate ((a.length : Int) + 1).toNat ([] : List Int)).length : Int) (decide (v2 < ((List.replicate ((a.length : Int) + 1).toNat ([] : List Int)).length : Int))) rfl rfl rfl) ?_
  refine L_nil ?_
  refine W_seq ?_
  refine W_cond (decide (v2 < ((List.replicate ((a.length : Int) + 1).toNat ([] : List Int)).length : Int))) rfl (fun hq65 => ?_) (fun hq65 => ?_)
  · have H := ite_t H hq65
    refine W_skip ?_
    refine W_seq ?_
    refine W_block ?_
    refine W_seq ?_
    refine W_reg ?_
    refine L_pu (P_move (vi v2) rfl) ?_
    refine L_pu (P_assign (vi v2) rfl) ?_
    refine L_nil ?_
    refine W_reg ?_
    refine L_pu (P_move (.slice A16 n17 c18) rfl) ?_
    refine L_pu (P_move (vi v2) rfl) ?_
    refine L_pu (P_move (.slice A6 n7 c8) rfl) ?_
    have hl66 := h57.le
    refine L_pu (P_len Try.underlying33 A6 n7 c8 h57.len rfl) ?_
    obtain ⟨hb67, H⟩ := H
    have hi68 := hb67 (len_le hl66)
    refine L_pu (P_add (b.length : Int) 1 rfl rfl hi68) ?_
    obtain ⟨hb69, H⟩ := H
    refine L_make (kd := (Kd.int .i64)) ei65 hc55 (0 : Int) (rfl) ((b.length : Int) + 1) rfl rfl hb69 fun w70 A71 n72 c73 g74 hr75 hc76 h77 => ?_
    obtain ⟨hb79, H⟩ := H
    have h91 := (h58.own _ g74 hr75)
    obtain ⟨ad80, A86, n87, c88, hA82, hv89, hcl84, h90⟩ := h91.get v2 hb79
    refine L_pu (P_ia Try.underlying66 se66 A16 ad80 n17 c18 h91.len v2 rfl hA82 rfl hb79) ?_
    have hl95 : (0 : Int) ≤ v2 ∧ v2 < ((vs54).length : Int) := by rw [h91.2.1]; exact hb79
    obtain ⟨ad98, cs99, hA100, hR101, hcl97⟩ := h91.1.get (default : Value) (by decide) v2 hl95
    obtain rfl := Option.some.inj (hA82.symm.trans hA100)
    refine L_ste0 A16 n17 c18 vs54 h91.1 v2 hl95 ad80 hA82 0 rfl [.slice A71 n72 c73] rfl sz65 rfl (.slice A71 n72 c73) _ [.slice A71 n72 c73] hcl97 (by rw [hR101.1]; rfl) (by rw [hR101.1]; rfl) ⟨rfl, rfl⟩ fun w92 g93 h94 => ?_
    have h102 := Tb.sto (O := O) h91 hc76 h77 v2 hb79 g93 h94
    have hc103 := Ct.sto hc76 v2 hl95 g93
    have s104 := St.sto (u := (.slice A71 n72 c73)) (vs := vs54) (O := O) v2 g93
    refine L_nil ?_
    refine W_reg ?_
    obtain ⟨hb105, H⟩ := H
    have hi106 := hb105 (len_le hl66)
    refine L_pu (P_add v2 1 rfl rfl hi106) ?_
    refine L_pu (P_move (vi (v2 + 1)) rfl) ?_
    refine L_nil ?_
    obtain ⟨hI107, hm108⟩ := H
    have h109 := ((h56.st (.own _ _ g74 hr75)).st s104)
    have h110 := ((h57.st (.own _ _ g74 hr75)).st s104)
    exact ⟨((xs2.set v2.toNat (List.replicate ((b.length : Int) + 1).toNat (0 : Int))), (vs54.set v2.toNat (.slice A71 n72 c73)), v2 + 1), hm108, hI107, ⟨rfl, rfl, rfl, rfl, rfl, trivial⟩, hc103, h109, h110, h102⟩
  · have H := ite_f H hq65
    refine W_exit (xin_hit ?_)
    refine W_seq ?_
    refine W_seq ?_
    refine W_reg ?_
    refine L_pu (P_move (.slice A1 n2 c3) rfl) ?_
    have hl111 := h56.le
    refine L_pu (P_len Try.underlying33 A1 n2 c3 h56.len rfl) ?_
    obtain ⟨hb112, H⟩ := H
    have hi113 := hb112 (len_le hl111)
    refine L_pu (P_sub (a.length : Int) 1 rfl rfl hi113) ?_
    refine L_pu (P_assign (vi ((a.length : Int) - 1)) rfl) ?_
    refine L_nil ?_
    refine W_block ?_
    obtain ⟨I146, mu147, hI148, H⟩ := H
    refine W_loop (α := (List (List Int)) × (List Value) × (Option Addr) × Nat × Nat × Int) (fun (s : (List (List Int)) × (List Value) × (Option Addr) × Nat × Nat × Int) t w134 => match s with | (xs4, vs141, A137, n138, c139, i2) => I146 xs4 i2 ∧ Has t [(0, .slice A1 n2 c3), (1, .slice A6 n7 c8), (5, .slice A137 n138 c139), (7, vi i2)] ∧ Ct none w0 w134 (blk (.slice A137 n138 c139) :: (vs141).map blk) O ∧ Sl kPt w134 (Fr ((blk (.slice A137 n138 c139) :: (vs141).map blk) ++ O)) (.slice A1 n2 c3) a ∧ Sl kPt w134 (Fr ((blk (.slice A137 n138 c139) :: (vs141).map blk) ++ O)) (.slice A6 n7 c8) b ∧ Tb (Kd.int .i64) 65 3 w134 ((blk (.slice A137 n138 c139) :: (vs141).map blk) ++ O) (.slice A137 n138 c139) vs141 xs4) (fun (s : (List (List Int)) × (List Value) × (Option Addr) × Nat × Nat × Int) => match s with | (xs4, _, _, _, _, i2) => mu147 xs4 i2) (xs2, vs54, A16, n17, c18, (a.length : Int) - 1) ⟨hI148, ⟨rfl, rfl, rfl, rfl, trivial⟩, hc55, h56, h57, h58⟩ ?_
    rintro ⟨xs4, vs141, A137, n138, c139, i2⟩ _ w134 ⟨hI148, hh150, hc142, h143, h144, h145⟩
    obtain ⟨u151, rfl⟩ := Has.ins hh150
    have H := H xs4 i2 hI148
    refine W_seq ?_
    refine W_seq ?_
    refine W_reg ?_
    refine L_pu (P_move (vi i2) rfl) ?_
    refine L_pu (P_cmp i2 0 (decide (i2 ≥ 0)) rfl rfl rfl) ?_
    refine L_nil ?_
    refine W_cond (decide (i2 ≥ 0)) rfl (fun hq152 => ?_) (fun hq152 => ?_)
    · have H := ite_t H hq152
      refine W_skip ?_
      refine W_seq ?_
      refine W_block ?_
      refine W_seq ?_
      refine W_reg ?_
      refine L_pu (P_move (.slice A6 n7 c8) rfl) ?_
      have hl153 := h144.le
      refine L_pu (P_len Try.underlying33 A6 n7 c8 h144.len rfl) ?_
      obtain ⟨hb154, H⟩ := H
      have hi155 := hb154 (len_le hl153)
      refine L_pu (P_sub (b.length : Int) 1 rfl rfl hi155) ?_
      refine L_pu (P_assign (vi ((b.length : Int) - 1)) rfl) ?_
      refine L_nil ?_
      refine W_block ?_
      obtain ⟨I188, mu189, hI190, H⟩ := H
      refine W_loop (α := (List (List Int)) × (List Value) × Int) (fun (s : (List (List Int)) × (List Value) × Int) t w176 => match s with | (xs6, vs183, j2) => I188 xs6 j2 ∧ Has t [(0, .slice A1 n2 c3), (1, .slice A6 n7 c8), (5, .slice A137 n138 c139), (7, vi i2), (8, vi j2)] ∧ Ct none w0 w176 (blk (.slice A137 n138 c139) :: (vs183).map blk) O ∧ Sl kPt w176 (Fr ((blk (.slice A137 n138 c139) :: (vs183).map blk) ++ O)) (.slice A1 n2 c3) a ∧ Sl kPt w176 (Fr ((blk (.slice A137 n138 c139) :: (vs183).map blk) ++ O)) (.slice A6 n7 c8) b ∧ Tb (Kd.int .i64) 65 3 w176 ((blk (.slice A137 n138 c139) :: (vs183).map blk) ++ O) (.slice A137 n138 c139) vs183 xs6) (fun (s : (List (List Int)) × (List Value) × Int) => match s with | (xs6, _, j2) => mu189 xs6 j2) (xs4, vs141, (b.length : Int) - 1) ⟨hI190, ⟨rfl, rfl, rfl, rfl, rfl, trivial⟩, hc142, h143, h144, h145⟩ ?_
      rintro ⟨xs6, vs183, j2⟩ _ w176 ⟨hI190, hh192, hc184, h185, h186, h187⟩
      obtain ⟨u193, rfl⟩ := Has.ins hh192
      have H := H xs6 j2 hI190
      refine W_seq ?_
      refine W_seq ?_
      refine W_reg ?_
      refine L_pu (P_move (vi j2) rfl) ?_
      refine L_pu (P_cmp j2 0 (decide (j2 ≥ 0)) rfl rfl rfl) ?_
      refine L_nil ?_
      refine W_cond (decide (j2 ≥ 0)) rfl (fun hq194 => ?_) (fun hq194 => ?_)
      · have H := ite_t H hq194
        refine W_skip ?_
        refine W_seq ?_
        refine W_block ?_
        refine W_seq ?_
        refine W_draw (fun x => Gr w176 x none) (by kernel_rfl) (by kernel_rfl) (Gr.drew _) ?_
        refine Q_pu (P_move (.slice A1 n2 c3) rfl) ?_
        refine Q_pu (P_move (vi i2) rfl) ?_
        obtain ⟨hb195, H⟩ := H
        obtain ⟨ad196, cs197, hA198, hS201, hR199, hcl200⟩ := h185.get default (by decide) i2 hb195
        obtain rfl := kPt.op hR199
        refine Q_pu (P_ia Try.underlying33 se33 A1 ad196 n2 c3 h185.len i2 rfl hA198 rfl hb195) ?_
        refine Q_pu (P_lda ag41 sz41 cQ (ad196.add (i2.toNat * 2)) [vi ((nth a i2).X), vi ((nth a i2).Y)] rfl rfl hcl200) ?_
        refine Q_pu (P_move (.slice A6 n7 c8) rfl) ?_
        refine Q_pu (P_move (vi j2) rfl) ?_
        obtain ⟨hb202, H⟩ := H
        obtain ⟨ad203, cs204, hA205, hS208, hR206, hcl207⟩ := h186.get default (by decide) j2 hb202
        obtain rfl := kPt.op hR206
        refine Q_pu (P_ia Try.underlying33 se33 A6 ad203 n7 c8 h186.len j2 rfl hA205 rfl hb202) ?_
        refine Q_pu (P_lda ag41 sz41 cQ (ad203.add (j2.toNat * 2)) [vi ((nth b j2).X), vi ((nth b j2).Y)] rfl rfl hcl207) ?_
        refine Q_pu (P_eq _ _ (eqPt (nth a i2) (nth b j2)) (qt41 (nth a i2) (nth b j2)) rfl rfl) ?_
        refine Q_nil fun w209 g210 => ?_
        have hc212 := hc184.k0 g210
        refine W_cond (eqPt (nth a i2) (nth b j2)) rfl (fun hq213 => ?_) (fun hq213 => ?_)
        · have H := ite_t H hq213
          refine W_tail 16 (by kernel_rfl) (by kernel_rfl) fun w214 g215 => ?_
          have hc216 := hc212.k0 g215
          refine S_pu (P_move (.slice A137 n138 c139) rfl) ?_
          refine S_pu (P_move (vi i2) rfl) ?_
          obtain ⟨hb217, H⟩ := H
          have h229 := ((h187.k0 g210).k0 g215)
          obtain ⟨ad218, A224, n225, c226, hA220, hv227, hcl222, h228⟩ := h229.get i2 hb217
          refine S_pu (P_ia Try.underlying66 se66 A137 ad218 n138 c139 h229.len i2 rfl hA220 rfl hb217) ?_
          refine S_pu (P_ld ag65 cL (ad218.add (i2.toNat * 1)) (.slice A224 n225 c226) rfl (hcl222 0 _ rfl)) ?_
          refine S_pu (P_move (vi j2) rfl) ?_
          refine S_pu (P_move (.slice A137 n138 c139) rfl) ?_
          refine S_pu (P_move (vi i2) rfl) ?_
          obtain ⟨hb230, H⟩ := H
          refine S_pu (P_add i2 1 rfl rfl hb230) ?_
          obtain ⟨hb231, H⟩ := H
          obtain ⟨ad232, A238, n239, c240, hA234, hv241, hcl236, h242⟩ := h229.get (i2 + 1) hb231
          refine S_pu (P_ia Try.underlying66 se66 A137 ad232 n138 c139 h229.len (i2 + 1) rfl hA234 rfl hb231) ?_
          refine S_pu (P_ld ag65 cL (ad232.add ((i2 + 1).toNat * 1)) (.slice A238 n239 c240) rfl (hcl236 0 _ rfl)) ?_
          refine S_pu (P_move (vi j2) rfl) ?_
          obtain ⟨hb243, H⟩ := H
          refine S_pu (P_add j2 1 rfl rfl hb243) ?_
          obtain ⟨hb244, H⟩ := H
          obtain ⟨ad245, cs246, hA247, hR248, hcl249⟩ := h242.get default (by decide) (j2 + 1) hb244
          obtain rfl := Kd.int.op hR248
          refine S_pu (P_ia Try.underlying65 se65 A238 ad245 n239 c240 h242.len (j2 + 1) rfl hA247 rfl hb244) ?_
          refine S_pu (P_ld ag3 cL (ad245.add ((j2 + 1).toNat * 1)) (vi (nth (nth xs6 (i2 + 1)) (j2 + 1))) rfl (hcl249 0 _ rfl)) ?_
          obtain ⟨hb251, H⟩ := H
          refine S_pu (P_add (nth (nth xs6 (i2 + 1)) (j2 + 1)) 1 rfl rfl hb251) ?_
          obtain ⟨hb252, H⟩ := H
          obtain ⟨ad253, cs254, hA255, hR256, hcl257⟩ := h228.get default (by decide) j2 hb252
          obtain rfl := Kd.int.op hR256
          refine S_pu (P_ia Try.underlying65 se65 A224 ad253 n225 c226 h228.len j2 rfl hA255 rfl hb252) ?_
          refine S_nil ?_
          refine L_ste0 A224 n225 c226 (nth xs6 i2) h228 j2 hb252 ad253 hA255 0 rfl [vi ((nth (nth xs6 (i2 + 1)) (j2 + 1)) + 1)] rfl sz3 rfl ((nth (nth xs6 (i2 + 1)) (j2 + 1)) + 1) [vi (nth (nth xs6 i2) j2)] [vi ((nth (nth xs6 (i2 + 1)) (j2 + 1)) + 1)] hcl257 rfl rfl rfl fun w259 g260 h261 => ?_
          have h262 := Tb.ste (O := O) h229 hc216 hv227 g260 h261
          have hc263 := Ct.tb hc216 hv227 g260
          have s264 := St.tb (v := .slice A137 n138 c139) (O := O) ⟨_, hv227⟩ g260
          refine L_nil ?_
          refine W_reg ?_
          refine L_pu (P_move (vi j2) rfl) ?_
          obtain ⟨hb265, H⟩ := H
          refine L_pu (P_sub j2 1 rfl rfl hb265) ?_
          refine L_pu (P_assign (vi (j2 - 1)) rfl) ?_
          refine L_nil ?_
          obtain ⟨hI266, hm267⟩ := H
          have h268 := (((h185.st (.new _ g210)).st (.new _ g215)).st s264)
          have h269 := (((h186.st (.new _ g210)).st (.new _ g215)).st s264)
          exact ⟨((xs6.set i2.toNat ((nth xs6 i2).set j2.toNat ((nth (nth xs6 (i2 + 1)) (j2 + 1)) + 1))), vs183, j2 - 1), hm267, hI266, ⟨rfl, rfl, rfl, rfl, rfl, trivial⟩, hc263, h268, h269, h262⟩
        · have H := ite_f H hq213
          refine W_tail 23 (by kernel_rfl) (by kernel_rfl) fun w270 g271 => ?_
          have hc272 := hc212.k0 g271
          refine S_pu (P_move (.slice A137 n138 c139) rfl) ?_
          refine S_pu (P_move (vi i2) rfl) ?_
          obtain ⟨hb273, H⟩ := H
          have h285 := ((h187.k0 g210).k0 g271)
          obtain ⟨ad274, A280, n281, c282, hA276, hv283, hcl278, h284⟩ := h285.get i2 hb273
          refine S_pu (P_ia Try.underlying66 se66 A137 ad274 n138 c139 h285.len i2 rfl hA276 rfl hb273) ?_
          refine S_pu (P_ld ag65 cL (ad274.add (i2.toNat * 1)) (.slice A280 n281 c282) rfl (hcl278 0 _ rfl)) ?_
          refine S_pu (P_move (vi j2) rfl) ?_
          refine S_pu (P_move (.slice A137 n138 c139) rfl) ?_
          refine S_pu (P_move (vi i2) rfl) ?_
          obtain ⟨hb286, H⟩ := H
          refine S_pu (P_add i2 1 rfl rfl hb286) ?_
          obtain ⟨hb287, H⟩ := H
          obtain ⟨ad288, A294, n295, c296, hA290, hv297, hcl292, h298⟩ := h285.get (i2 + 1) hb287
          refine S_pu (P_ia Try.underlying66 se66 A137 ad288 n138 c139 h285.len (i2 + 1) rfl hA290 rfl hb287) ?_
          refine S_pu (P_ld ag65 cL (ad288.add ((i2 + 1).toNat * 1)) (.slice A294 n295 c296) rfl (hcl292 0 _ rfl)) ?_
          refine S_pu (P_move (vi j2) rfl) ?_
          obtain ⟨hb299, H⟩ := H
          obtain ⟨ad300, cs301, hA302, hR303, hcl304⟩ := h298.get default (by decide) j2 hb299
          obtain rfl := Kd.int.op hR303
          refine S_pu (P_ia Try.underlying65 se65 A294 ad300 n295 c296 h298.len j2 rfl hA302 rfl hb299) ?_
          refine S_pu (P_ld ag3 cL (ad300.add (j2.toNat * 1)) (vi (nth (nth xs6 (i2 + 1)) j2)) rfl (hcl304 0 _ rfl)) ?_
          refine S_pu (P_move (.slice A137 n138 c139) rfl) ?_
          refine S_pu (P_move (vi i2) rfl) ?_
          obtain ⟨hb306, H⟩ := H
          obtain ⟨ad307, A313, n314, c315, hA309, hv316, hcl311, h317⟩ := h285.get i2 hb306
          refine S_pu (P_ia Try.underlying66 se66 A137 ad307 n138 c139 h285.len i2 rfl hA309 rfl hb306) ?_
          refine S_pu (P_ld ag65 cL (ad307.add (i2.toNat * 1)) (.slice A313 n314 c315) rfl (hcl311 0 _ rfl)) ?_
          refine S_pu (P_move (vi j2) rfl) ?_
          obtain ⟨hb318, H⟩ := H
          refine S_pu (P_add j2 1 rfl rfl hb318) ?_
          obtain ⟨hb319, H⟩ := H
          obtain ⟨ad320, cs321, hA322, hR323, hcl324⟩ := h317.get default (by decide) (j2 + 1) hb319
          obtain rfl := Kd.int.op hR323
          refine S_pu (P_ia Try.underlying65 se65 A313 ad320 n314 c315 h317.len (j2 + 1) rfl hA322 rfl hb319) ?_
          refine S_pu (P_ld ag3 cL (ad320.add ((j2 + 1).toNat * 1)) (vi (nth (nth xs6 i2) (j2 + 1))) rfl (hcl324 0 _ rfl)) ?_
          refine S_pu (P_max (nth (nth xs6 (i2 + 1)) j2) (nth (nth xs6 i2) (j2 + 1)) rfl rfl) ?_
          obtain ⟨hb326, H⟩ := H
          obtain ⟨ad327, cs328, hA329, hR330, hcl331⟩ := h284.get default (by decide) j2 hb326
          obtain rfl := Kd.int.op hR330
          refine S_pu (P_ia Try.underlying65 se65 A280 ad327 n281 c282 h284.len j2 rfl hA329 rfl hb326) ?_
          refine S_nil ?_
          refine L_ste0 A280 n281 c282 (nth xs6 i2) h284 j2 hb326 ad327 hA329 0 rfl [vi (max (nth (nth xs6 (i2 + 1)) j2) (nth (nth xs6 i2) (j2 + 1)))] rfl sz3 rfl (max (nth (nth xs6 (i2 + 1)) j2) (nth (nth xs6 i2) (j2 + 1))) [vi (nth (nth xs6 i2) j2)] [vi (max (nth (nth xs6 (i2 + 1)) j2) (nth (nth xs6 i2) (j2 + 1)))] hcl331 rfl rfl rfl fun w333 g334 h335 => ?_
          have h336 := Tb.ste (O := O) h285 hc272 hv283 g334 h335
          have hc337 := Ct.tb hc272 hv283 g334
          have s338 := St.tb (v := .slice A137 n138 c139) (O := O) ⟨_, hv283⟩ g334
          refine L_nil ?_
          refine W_reg ?_
          refine L_pu (P_move (vi j2) rfl) ?_
          obtain ⟨hb339, H⟩ := H
          refine L_pu (P_sub j2 1 rfl rfl hb339) ?_
          refine L_pu (P_assign (vi (j2 - 1)) rfl) ?_
          refine L_nil ?_
          obtain ⟨hI340, hm341⟩ := H
          have h342 := (((h185.st (.new _ g210)).st (.new _ g271)).st s338)
          have h343 := (((h186.st (.new _ g210)).st (.new _ g271)).st s338)
          exact ⟨((xs6.set i2.toNat ((nth xs6 i2).set j2.toNat (max (nth (nth xs6 (i2 + 1)) j2) (nth (nth xs6 i2) (j2 + 1))))), vs183, j2 - 1), hm341, hI340, ⟨rfl, rfl, rfl, rfl, rfl, trivial⟩, hc337, h342, h343, h336⟩
      · have H := ite_f H hq194
        refine W_exit (xin_hit ?_)
        refine W_reg ?_
        refine L_pu (P_move (vi i2) rfl) ?_
        obtain ⟨hb344, H⟩ := H
        refine L_pu (P_sub i2 1 rfl rfl hb344) ?_
        refine L_pu (P_assign (vi (i2 - 1)) rfl) ?_
        refine L_nil ?_
        obtain ⟨hI345, hm346⟩ := H
        exact ⟨(xs6, vs183, A137, n138, c139, i2 - 1), hm346, hI345, ⟨rfl, rfl, rfl, rfl, trivial⟩, hc184, h185, h186, h187⟩
    · have H := ite_f H hq152
      refine W_exit (xin_hit ?_)
      refine W_seq ?_
      refine W_reg ?_
      refine L_pu (P_move (.slice A137 n138 c139) rfl) ?_
      refine L_pu (P_assign (.slice A137 n138 c139) rfl) ?_
      refine L_nil ?_
      refine W_ret ?_
      have h347 := h145.sl hc142
      have hc348 := hc142.clear
      exact ⟨[.slice A137 n138 c139], ⟨_, rfl, rfl⟩, xs4, A137, n138, c139, rfl, H, hc348.gr, h347⟩
end Go.Proofs.Ytnliofcjplnboaa

namespace Go.Proofs.Ytnliofcjplnboaa
set_option linter.unusedVariables false
set_option linter.unusedSimpArgs false
theorem impl_lengths.law (a b : List Pt) (Q : List (List Int) → Prop) (ha : a.length ≤ 1048576) (hb : b.length ≤ 1048576) (hq : ∀ t, Tab a b (fun _ _ => True) t → Q t) : impl_lengths.E a b Q := by
  unfold impl_lengths.E
  have hn : ((b.length : Int) + 1).toNat = b.length + 1 := by omega
  have hm : ((a.length : Int) + 1).toNat = a.length + 1 := by omega
  rw [hn, hm]
  refine ⟨fun _ => by unfold I64; omega, by omega, fun xs v => ∃ k : Nat, v = k ∧ k ≤ a.length + 1 ∧ xs.length = a.length + 1 ∧ ∀ r : Nat, r < k → nth xs (r : Int) = List.replicate (b.length + 1) 0, fun _ v => (a.length + 1 - v).toNat,
    ⟨0, rfl, Nat.zero_le _, by simp, fun r hr => absurd hr (Nat.not_lt_zero _)⟩, ?_⟩
  rintro xs _ ⟨k, rfl, hk, hl, hx⟩
  rw [List.length_replicate]
  by_cases hk0 : (k : Int) < ((a.length + 1 : Nat) : Int)
  · rw [if_pos (by simpa using hk0)]
    refine ⟨fun _ => by unfold I64; omega, by omega, by omega, fun _ => by unfold I64; omega, ⟨k + 1, by omega, by omega, by rw [List.length_set]; exact hl, fun r hr => ?_⟩, by dsimp only; omega⟩
    rw [Int.toNat_natCast, nth_set _ (by omega)]
    by_cases e : r = k
    · rw [if_pos e]
    · rw [if_neg e]; exact hx r (by omega)
  rw [if_neg (by simpa using hk0)]
  refine ⟨fun _ => by unfold I64; omega, fun xs i => ∃ k : Nat, i = (k : Int) - 1 ∧ k ≤ a.length ∧ Tab a b (fun r m => k ≤ r ∨ m = b.length) xs, fun _ i => (i + 1).toNat, ⟨a.length, rfl, Nat.le_refl _, hl, fun r hr => ?_⟩, ?_⟩
  · rw [hx r (by omega)]
    refine ⟨by simp, fun m hm hd => ?_⟩
    rw [nth_rep _ _ _ (by omega)]
    rcases hd with hd | hd
    · rw [List.drop_of_length_le (by omega : a.length ≤ r), lcs_nil]; rfl
    · rw [hd, List.drop_length, lcs_nil2]; rfl
  clear hx hl hk0 hk xs k
  rintro xs _ ⟨k, rfl, hk, ht⟩
  by_cases hk0 : (k : Int) - 1 ≥ 0
  · rw [if_pos (by simpa using hk0)]
    obtain ⟨i, rfl⟩ : ∃ i, k = i + 1 := ⟨k - 1, by omega⟩
    have ei : ((i + 1 : Nat) : Int) - 1 = (i : Int) := by omega
    have ei1 : (i : Int) + 1 = ((i + 1 : Nat) : Int) := by omega
    rw [ei]
    refine ⟨fun _ => by unfold I64; omega, fun ys j => ∃ m : Nat, j = (m : Int) - 1 ∧ m ≤ b.length ∧ Tab a b (fun r u => i < r ∨ (r = i ∧ m ≤ u) ∨ u = b.length) ys, fun _ j => (j + 1).toNat, ⟨b.length, rfl, Nat.le_refl _, ht.1, fun r hr => ⟨(ht.2 r hr).1, fun m hm hd => (ht.2 r hr).2 m hm ?_⟩⟩, ?_⟩
    · omega
    rintro ys _ ⟨m, rfl, hm, hs⟩
    by_cases hm0 : (m : Int) - 1 ≥ 0
    · rw [if_pos (by simpa using hm0)]
      obtain ⟨j, rfl⟩ : ∃ j, m = j + 1 := ⟨m - 1, by omega⟩
      have ej : ((j + 1 : Nat) : Int) - 1 = (j : Int) := by omega
      have ej1 : (j : Int) + 1 = ((j + 1 : Nat) : Int) := by omega
      rw [ej, ej1, ei1, eqPt_is]
      have hl := lcs_drop a b (i := i) (j := j) (by omega) (by omega)
      have s0 := hs.1
      have s1 := hs.2 i (by omega)
      have s2 := hs.2 (i + 1) (by omega)
      have n1 := s2.2 (j + 1) (by omega) (.inl (by omega))
      have n2 := s2.2 j (by omega) (.inl (by omega))
      have n3 := s1.2 (j + 1) (by omega) (.inr (.inl ⟨rfl, by omega⟩))
      have l1 := s1.1
      have l2 := s2.1
      have b1 := lcs_le2 (a.drop (i + 1)) (b.drop (j + 1))
      rw [List.length_drop] at b1
      have hset : ∀ v : Int, v = (lcs (a.drop i) (b.drop j) : Nat) → Tab a b (fun r u => i < r ∨ (r = i ∧ j ≤ u) ∨ u = b.length) (ys.set (i : Int).toNat ((nth ys (i : Int)).set (j : Int).toNat v)) := fun v hv => by
        rw [Int.toNat_natCast, Int.toNat_natCast]
        exact hs.set (by omega) (by omega) hv fun r u h => by omega
      refine ⟨by omega, by omega, ?_⟩
      by_cases he : nth a (i : Int) = nth b (j : Int)
      · rw [if_pos (by simpa using he)]
        rw [if_pos he] at hl
        rw [n1]
        exact ⟨by omega, by unfold I64; omega, by omega, by unfold I64; omega, by omega, by unfold I64; omega, by omega, by unfold I64; omega, ⟨j, by omega, by omega, hset _ (by omega)⟩, by dsimp only; omega⟩
      · rw [if_neg (by simpa using he)]
        rw [if_neg he] at hl
        rw [n2, n3]
        exact ⟨by omega, by unfold I64; omega, by omega, by omega, by omega, by unfold I64; omega, by omega, by omega, by unfold I64; omega, ⟨j, by omega, by omega, hset _ (by omega)⟩, by dsimp only; omega⟩
    · rw [if_neg (by simpa using hm0)]
      have : m = 0 := by omega
      subst this
      refine ⟨by unfold I64; omega, ⟨i, by omega, by omega, hs.1, fun r hr => ⟨(hs.2 r hr).1, fun m hm hd => (hs.2 r hr).2 m hm ?_⟩⟩, by dsimp only; omega⟩
      omega
  · rw [if_neg (by simpa using hk0)]
    have : k = 0 := by omega
    subst this
    exact hq _ ⟨ht.1, fun r hr => ⟨(ht.2 r hr).1, fun m hm _ => (ht.2 r hr).2 m hm (.inl (Nat.zero_le _))⟩⟩
end Go.Proofs.Ytnliofcjplnboaa

namespace Go.Proofs.Ytnliofcjplnboaa
open Go.RowKit
set_option linter.unusedVariables false
def impl_SeqLong.E (a : List Pt) (b : List Pt) (Q : Int → Prop) : Prop :=
  (if decide ((a.length : Int) > 12) then Q 0 else (if decide ((b.length : Int) > 12) then Q 0 else impl_lengths.E a b (fun r => ((0 : Int) ≤ 0 ∧ 0 < (r.length : Int)) ∧ ((0 : Int) ≤ 0 ∧ 0 < ((nth r 0).length : Int)) ∧ Q (nth (nth r 0) 0))))
set_option maxHeartbeats 8000000 in
set_option maxRecDepth 100000 in
theorem impl_SeqLong.calls {O : Ob} (w0 : World) (hO : Ok w0 O) (a : List Pt) (A1 : Option Addr) (n2 c3 : Nat) (hp4 : Sl kPt w0 (Fr O) (.slice A1 n2 c3) a) (b : List Pt) (A6 : Option Addr) (n7 c8 : Nat) (hp9 : Sl kPt w0 (Fr O) (.slice A6 n7 c8) b) (Q : Int → Prop) (h : impl_SeqLong.E a b Q) :
    Ret Try.prog 25 [.slice A1 n2 c3, .slice A6 n7 c8] w0 (fun v w' => ∃ (r0 : Int), v = vi r0 ∧ Q r0 ∧ Gr w0 w' none) := by
  have H : (if decide ((a.length : Int) > 12) then Q 0 else (if decide ((b.length : Int) > 12) then Q 0 else impl_lengths.E a b (fun r => ((0 : Int) ≤ 0 ∧ 0 < (r.length : Int)) ∧ ((0 : Int) ≤ 0 ∧ 0 < ((nth r 0).length : Int)) ∧ Q (nth (nth r 0) 0)))) := h
  clear h
  have hc0 := Ct.init hO
  refine Ret_enter Try.func25 rfl 20 rfl [.tmp 4] rfl rfl ?_
  refine W_seq ?_
  refine W_reg ?_
  refine L_pu (P_assign (vi 0) rfl) ?_
  refine L_nil ?_
  refine W_seq ?_
  refine W_seq ?_
  refine W_reg ?_
  refine L_pu (P_move (.slice A1 n2 c3) rfl) ?_
  have hl11 := hp4.le
  refine L_pu (P_len Try.underlying33 A1 n2 c3 hp4.len rfl) ?_
  refine L_pu (P_cmp (a.length : Int) 12 (decide ((a.length : Int) > 12)) rfl rfl rfl) ?_
  refine L_pu (P_move (vb (decide ((a.length : Int) > 12))) rfl) ?_
  rcases bool_or (decide ((a.length : Int) > 12)) with hq12 | hq12
  · have H := ite_t H hq12
    refine L_pass (dj := 8) rfl rfl (.inl (by exact congrArg Value.bool hq12)) ?_
    refine L_pass (dj := 8) rfl rfl (.inl (by exact congrArg Value.bool hq12)) ?_
    refine L_pass (dj := 8) rfl rfl (.inl (by exact congrArg Value.bool hq12)) ?_
    refine L_pu (P_pick true (vb true) (by exact congrArg Value.bool hq12) rfl) ?_
    refine L_nil ?_
    refine W_ct (b := true) rfl rfl ?_
    refine W_seq ?_
    refine W_reg ?_
    refine L_pu (P_assign (vi 0) rfl) ?_
    refine L_nil ?_
    refine W_ret ?_
    exact ⟨[vi 0], ⟨_, rfl, rfl⟩, 0, rfl, H, hc0.gr⟩
  · have H := ite_f H hq12
    refine L_run (dj := 8) rfl rfl (by exact congrArg Value.bool hq12) ?_
    refine L_pu (P_move (.slice A6 n7 c8) rfl) ?_
    refine L_run (dj := 8) rfl rfl (by exact congrArg Value.bool hq12) ?_
    have hl13 := hp9.le
    refine L_pu (P_len Try.underlying33 A6 n7 c8 hp9.len rfl) ?_
    refine L_run (dj := 8) rfl rfl (by exact congrArg Value.bool hq12) ?_
    refine L_pu (P_cmp (b.length : Int) 12 (decide ((b.length : Int) > 12)) rfl rfl rfl) ?_
    refine L_pu (P_pick false (vb (decide ((b.length : Int) > 12))) (by exact congrArg Value.bool hq12) rfl) ?_
    refine L_nil ?_
    refine W_cond (decide ((b.length : Int) > 12)) rfl (fun hq14 => ?_) (fun hq14 => ?_)
    · have H := ite_t H hq14
      refine W_seq ?_
      refine W_reg ?_
      refine L_pu (P_assign (vi 0) rfl) ?_
      refine L_nil ?_
      refine W_ret ?_
      exact ⟨[vi 0], ⟨_, rfl, rfl⟩, 0, rfl, H, hc0.gr⟩
    · have H := ite_f H hq14
      refine W_skip ?_
      refine W_seq ?_
      refine W_reg ?_
      refine L_pu (P_move (.slice A1 n2 c3) rfl) ?_
      refine L_pu (P_move (.slice A6 n7 c8) rfl) ?_
      refine L_call go48 [.slice A1 n2 c3, .slice A6 n7 c8] rfl ((impl_lengths.calls w0 hc0.ok a A1 n2 c3 hp4 b A6 n7 c8 hp9 _ H).mono ?_)
      rintro _ w15 ⟨r, A17, n18, c19, rfl, H, g16, h20⟩
      have hc24 := hc0.k0 g16
      obtain ⟨hb26, H⟩ := H
      obtain ⟨ad27, cs28, hA29, hS32, hR30, hcl31⟩ := h20.get default (by decide) 0 hb26
      obtain ⟨A33, n34, c35, rfl, h36⟩ := Kd.sl.op hR30
      refine L_pu (P_ia Try.underlying66 se66 A17 ad27 n18 c19 h20.len 0 rfl hA29 rfl hb26) ?_
      refine L_pu (P_ld ag65 cL (ad27.add ((0 : Int).toNat * 1)) (.slice A33 n34 c35) rfl (hcl31 0 _ rfl)) ?_
      obtain ⟨hb38, H⟩ := H
      obtain ⟨ad39, cs40, hA41, hS44, hR42, hcl43⟩ := h36.get default (by decide) 0 hb38
      obtain rfl := Kd.int.op hR42
      refine L_pu (P_ia Try.underlying65 se65 A33 ad39 n34 c35 h36.len 0 rfl hA41 rfl hb38) ?_
      refine L_pu (P_ld ag3 cL (ad39.add ((0 : Int).toNat * 1)) (vi (nth (nth r 0) 0)) rfl (hcl43 0 _ rfl)) ?_
      refine L_pu (P_assign (vi (nth (nth r 0) 0)) rfl) ?_
      refine L_nil ?_
      refine W_ret ?_
      exact ⟨[vi (nth (nth r 0) 0)], ⟨_, rfl, rfl⟩, (nth (nth r 0) 0), rfl, H, hc24.gr⟩
end Go.Proofs.Ytnliofcjplnboaa

namespace Go.Proofs.Ytnliofcjplnboaa
set_option linter.unusedVariables false
set_option linter.unusedSimpArgs false
theorem impl_SeqLong.law (a b : List Pt) (Q : Int → Prop) (hq : Q (slen a b)) : impl_SeqLong.E a b Q := by
  unfold impl_SeqLong.E
  unfold slen at hq
  by_cases h1 : (a.length : Int) > 12
  · rw [if_pos (by simpa using h1)]
    rw [if_neg (by rw [few_iff]; omega)] at hq; exact hq
  rw [if_neg (by simpa using h1)]
  by_cases h2 : (b.length : Int) > 12
  · rw [if_pos (by simpa using h2)]
    rw [if_neg (by rw [few_iff]; omega)] at hq; exact hq
  rw [if_neg (by simpa using h2)]
  rw [if_pos (by rw [few_iff]; omega)] at hq
  refine impl_lengths.law _ _ _ (by omega) (by omega) fun t ht => ?_
  have t0 := ht.1
  have t1 := ht.2 0 (Nat.zero_le _)
  have t2 : nth (nth t 0) 0 = ((lcs a b : Nat) : Int) := t1.2 0 (Nat.zero_le _) trivial
  have t3 : (nth t 0).length = b.length + 1 := t1.1
  refine ⟨by omega, by omega, ?_⟩
  rw [t2]; exact hq
end Go.Proofs.Ytnliofcjplnboaa

namespace Go.Proofs.Ytnliofcjplnboaa
open Go.RowKit
set_option linter.unusedVariables false
def laws_eqPt.E (a : Pt) (b : Pt) (Q : Bool → Prop) : Prop :=
  (if a.X != b.X then Q false else (if a.Y != b.Y then Q false else Q true))
set_option maxHeartbeats 8000000 in
set_option maxRecDepth 100000 in
theorem laws_eqPt.calls {O : Ob} (w0 : World) (hO : Ok w0 O) (a : Pt) (b : Pt) (Q : Bool → Prop) (h : laws_eqPt.E a b Q) :
    Ret Try.prog 49 [.agg #[vi a.X, vi a.Y], .agg #[vi b.X, vi b.Y]] w0 (fun v w' => ∃ (r0 : Bool), v = vb r0 ∧ Q r0 ∧ Gr w0 w' none) := by
  have H : (if a.X != b.X then Q false else (if a.Y != b.Y then Q false else Q true)) := h
  clear h
  have hc0 := Ct.init hO
  refine Ret_enter Try.func49 rfl 15 rfl [.tmp 4] rfl rfl ?_
  refine W_seq ?_
  refine W_reg ?_
  refine L_box [vi a.X, vi a.Y] rfl fun w1 b2 hl4 hu5 g3 hx6 => ?_
  have h8 := Fb.mk hc0.ok hl4 hx6
  have hc9 := hc0.k0 g3
  refine L_box [vi b.X, vi b.Y] rfl fun w10 b11 hl13 hu14 g12 hx15 => ?_
  have h17 := Fb.mk hc9.ok hl13 hx15
  have hc18 := hc9.k0 g12
  refine L_pu (P_assign (vb false) rfl) ?_
  refine L_nil ?_
  refine W_seq ?_
  refine W_seq ?_
  refine W_reg ?_
  refine L_pu (P_fa fa41_0 ⟨b2, 0, none⟩ ⟨b2, 0, none⟩ rfl rfl) ?_
  have h19 := (h8.st (.new _ g12))
  refine L_pu (P_ld ag3 cL ⟨b2, 0, none⟩ (vi a.X) rfl (h19.cell rfl)) ?_
  refine L_pu (P_fa fa41_0 ⟨b11, 0, none⟩ ⟨b11, 0, none⟩ rfl rfl) ?_
  refine L_pu (P_ld ag3 cL ⟨b11, 0, none⟩ (vi b.X) rfl (h17.cell rfl)) ?_
  refine L_pu (P_cmp a.X b.X (a.X != b.X) rfl rfl rfl) ?_
  refine L_nil ?_
  refine W_cond (a.X != b.X) rfl (fun hq20 => ?_) (fun hq20 => ?_)
  · have H := ite_t H hq20
    refine W_seq ?_
    refine W_reg ?_
    refine L_pu (P_assign (vb false) rfl) ?_
    refine L_nil ?_
    refine W_ret ?_
    exact ⟨[vb false], ⟨_, rfl, rfl⟩, false, rfl, H, hc18.gr⟩
  · have H := ite_f H hq20
    refine W_skip ?_
    refine W_seq ?_
    refine W_seq ?_
    refine W_reg ?_
    refine L_pu (P_fa fa41_1 ⟨b2, 0, none⟩ ⟨b2, 1, none⟩ rfl rfl) ?_
    refine L_pu (P_ld ag3 cL ⟨b2, 1, none⟩ (vi a.Y) rfl (h19.cell rfl)) ?_
    refine L_pu (P_fa fa41_1 ⟨b11, 0, none⟩ ⟨b11, 1, none⟩ rfl rfl) ?_
    refine L_pu (P_ld ag3 cL ⟨b11, 1, none⟩ (vi b.Y) rfl (h17.cell rfl)) ?_
    refine L_pu (P_cmp a.Y b.Y (a.Y != b.Y) rfl rfl rfl) ?_
    refine L_nil ?_
    refine W_cond (a.Y != b.Y) rfl (fun hq21 => ?_) (fun hq21 => ?_)
    · have H := ite_t H hq21
      refine W_seq ?_
      refine W_reg ?_
      refine L_pu (P_assign (vb false) rfl) ?_
      refine L_nil ?_
      refine W_ret ?_
      exact ⟨[vb false], ⟨_, rfl, rfl⟩, false, rfl, H, hc18.gr⟩
    · have H := ite_f H hq21
      refine W_skip ?_
      refine W_seq ?_
      refine W_reg ?_
      refine L_pu (P_assign (vb true) rfl) ?_
      refine L_nil ?_
      refine W_ret ?_
      exact ⟨[vb true], ⟨_, rfl, rfl⟩, true, rfl, H, hc18.gr⟩
def laws_eqPt.m (a : Pt) (b : Pt) : Bool := (if a.X != b.X then false else (if a.Y != b.Y then false else true))
theorem laws_eqPt.fn (a : Pt) (b : Pt) : laws_eqPt.E a b (fun r => r = laws_eqPt.m a b) := by
  unfold laws_eqPt.E laws_eqPt.m
  (repeat' split) <;> simp_all
end Go.Proofs.Ytnliofcjplnboaa

namespace Go.Proofs.Ytnliofcjplnboaa
set_option linter.unusedVariables false
set_option linter.unusedSimpArgs false
theorem laws_eqPt.law (a b : Pt) (Q : Bool → Prop) (hq : Q (decide (a = b))) : laws_eqPt.E a b Q := by
  obtain ⟨x0, x1⟩ := a; obtain ⟨y0, y1⟩ := b
  rw [show (decide ((⟨x0, x1⟩ : Pt) = ⟨y0, y1⟩)) = ((decide (x0 = y0)) && (decide (x1 = y1))) by simp only [Pt.mk.injEq, Bool.decide_and]] at hq
  unfold laws_eqPt.E
  by_cases h0 : x0 = y0
  case neg => simpa [h0] using hq
  simp only [h0, decide_true, Bool.true_and, bne_self_eq_false, Bool.not_true, Bool.false_eq_true, if_false] at hq ⊢
  by_cases h1 : x1 = y1
  case neg => simpa [h1] using hq
  simp only [h1, decide_true, Bool.true_and, bne_self_eq_false, Bool.not_true, Bool.false_eq_true, if_false] at hq ⊢
  all_goals (try exact hq)
theorem laws_eqPt.is (a b : Pt) : laws_eqPt.E a b (fun r => r = decide (a = b)) := laws_eqPt.law a b _ rfl
end Go.Proofs.Ytnliofcjplnboaa

namespace Go.Proofs.Ytnliofcjplnboaa
open Go.RowKit
set_option linter.unusedVariables false
def laws_eqPtS.E (a : List Pt) (b : List Pt) (Q : Bool → Prop) : Prop :=
  (if (a.length : Int) != (b.length : Int) then Q false else (∃ (I32 : Int → Prop) (mu33 : Int → Nat), I32 0 ∧ ∀ (i2 : Int), I32 i2 → (if decide (i2 < (a.length : Int)) then ((0 : Int) ≤ i2 ∧ i2 < (a.length : Int)) ∧ ((0 : Int) ≤ i2 ∧ i2 < (b.length : Int)) ∧ (if !(decide ((nth a i2) = (nth b i2))) then Q false else (-9223372036854775808 ≤ i2) ∧ I32 (i2 + 1) ∧ mu33 (i2 + 1) < mu33 i2) else Q true)))
set_option maxHeartbeats 8000000 in
set_option maxRecDepth 100000 in
theorem laws_eqPtS.calls {O : Ob} (w0 : World) (hO : Ok w0 O) (a : List Pt) (A1 : Option Addr) (n2 c3 : Nat) (hp4 : Sl kPt w0 (Fr O) (.slice A1 n2 c3) a) (b : List Pt) (A6 : Option Addr) (n7 c8 : Nat) (hp9 : Sl kPt w0 (Fr O) (.slice A6 n7 c8) b) (Q : Bool → Prop) (h : laws_eqPtS.E a b Q) :
    Ret Try.prog 26 [.slice A1 n2 c3, .slice A6 n7 c8] w0 (fun v w' => ∃ (r0 : Bool), v = vb r0 ∧ Q r0 ∧ Gr w0 w' none) := by
  have H : (if (a.length : Int) != (b.length : Int) then Q false else (∃ (I32 : Int → Prop) (mu33 : Int → Nat), I32 0 ∧ ∀ (i2 : Int), I32 i2 → (if decide (i2 < (a.length : Int)) then ((0 : Int) ≤ i2 ∧ i2 < (a.length : Int)) ∧ ((0 : Int) ≤ i2 ∧ i2 < (b.length : Int)) ∧ (if !(decide ((nth a i2) = (nth b i2))) then Q false else (-9223372036854775808 ≤ i2) ∧ I32 (i2 + 1) ∧ mu33 (i2 + 1) < mu33 i2) else Q true))) := h
  clear h
  have hc0 := Ct.init hO
  refine Ret_enter Try.func26 rfl 27 rfl [.tmp 4] rfl rfl ?_
  refine W_seq ?_
  refine W_reg ?_
  refine L_pu (P_assign (vb false) rfl) ?_
  refine L_nil ?_
  refine W_seq ?_
  refine W_seq ?_
  refine W_reg ?_
  refine L_pu (P_move (.slice A1 n2 c3) rfl) ?_
  have hl11 := hp4.le
  refine L_pu (P_len Try.underlying33 A1 n2 c3 hp4.len rfl) ?_
  refine L_pu (P_move (.slice A6 n7 c8) rfl) ?_
  have hl12 := hp9.le
  refine L_pu (P_len Try.underlying33 A6 n7 c8 hp9.len rfl) ?_
  refine L_pu (P_cmp (a.length : Int) (b.length : Int) ((a.length : Int) != (b.length : Int)) rfl rfl rfl) ?_
  refine L_nil ?_
  refine W_cond ((a.length : Int) != (b.length : Int)) rfl (fun hq13 => ?_) (fun hq13 => ?_)
  · have H := ite_t H hq13
    refine W_seq ?_
    refine W_reg ?_
    refine L_pu (P_assign (vb false) rfl) ?_
    refine L_nil ?_
    refine W_ret ?_
    exact ⟨[vb false], ⟨_, rfl, rfl⟩, false, rfl, H, hc0.gr⟩
  · have H := ite_f H hq13
    refine W_skip ?_
    refine W_seq ?_
    refine W_seq ?_
    refine W_reg ?_
    refine L_pu (P_assign (vi 0) rfl) ?_
    refine L_nil ?_
    refine W_block ?_
    obtain ⟨I32, mu33, hI34, H⟩ := H
    refine W_loop (α := Int) (fun (s : Int) t w26 => match s with | i2 => I32 i2 ∧ Has t [(0, .slice A1 n2 c3), (1, .slice A6 n7 c8), (5, vi i2)] ∧ Ct none w0 w26 [] O ∧ Sl kPt w26 (Fr ([] ++ O)) (.slice A1 n2 c3) a ∧ Sl kPt w26 (Fr ([] ++ O)) (.slice A6 n7 c8) b) (fun (s : Int) => match s with | i2 => mu33 i2) 0 ⟨hI34, ⟨rfl, rfl, rfl, trivial⟩, hc0, hp4, hp9⟩ ?_
    rintro i2 _ w26 ⟨hI34, hh36, hc29, h30, h31⟩
    obtain ⟨u37, rfl⟩ := Has.ins hh36
    have H := H i2 hI34
    refine W_seq ?_
    refine W_seq ?_
    refine W_reg ?_
    refine L_pu (P_move (vi i2) rfl) ?_
    refine L_pu (P_move (.slice A1 n2 c3) rfl) ?_
    have hl38 := h30.le
    refine L_pu (P_len Try.underlying33 A1 n2 c3 h30.len rfl) ?_
    refine L_pu (P_cmp i2 (a.length : Int) (decide (i2 < (a.length : Int))) rfl rfl rfl) ?_
    refine L_nil ?_
    refine W_cond (decide (i2 < (a.length : Int))) rfl (fun hq39 => ?_) (fun hq39 => ?_)
    · have H := ite_t H hq39
      refine W_skip ?_
      refine W_seq ?_
      refine W_block ?_
      refine W_seq ?_
      refine W_draw (fun x => Gr w26 x none) (by kernel_rfl) (by kernel_rfl) (Gr.drew _) ?_
      refine Q_pu (P_move (.slice A1 n2 c3) rfl) ?_
      refine Q_pu (P_move (vi i2) rfl) ?_
      obtain ⟨hb40, H⟩ := H
      obtain ⟨ad41, cs42, hA43, hS46, hR44, hcl45⟩ := h30.get default (by decide) i2 hb40
      obtain rfl := kPt.op hR44
      refine Q_pu (P_ia Try.underlying33 se33 A1 ad41 n2 c3 h30.len i2 rfl hA43 rfl hb40) ?_
      refine Q_pu (P_lda ag41 sz41 cQ (ad41.add (i2.toNat * 2)) [vi ((nth a i2).X), vi ((nth a i2).Y)] rfl rfl hcl45) ?_
      refine Q_pu (P_move (.slice A6 n7 c8) rfl) ?_
      refine Q_pu (P_move (vi i2) rfl) ?_
      obtain ⟨hb47, H⟩ := H
      obtain ⟨ad48, cs49, hA50, hS53, hR51, hcl52⟩ := h31.get default (by decide) i2 hb47
      obtain rfl := kPt.op hR51
      refine Q_pu (P_ia Try.underlying33 se33 A6 ad48 n7 c8 h31.len i2 rfl hA50 rfl hb47) ?_
      refine Q_pu (P_lda ag41 sz41 cQ (ad48.add (i2.toNat * 2)) [vi ((nth b i2).X), vi ((nth b i2).Y)] rfl rfl hcl52) ?_
      refine Q_call go49 [.agg #[vi ((nth a i2).X), vi ((nth a i2).Y)], .agg #[vi ((nth b i2).X), vi ((nth b i2).Y)]] rfl (vb (decide ((nth a i2) = (nth b i2)))) (fun w g => (laws_eqPt.calls w (hc29.k0 g).ok (nth a i2) (nth b i2) _ (laws_eqPt.is (nth a i2) (nth b i2))).mono ?_) ?_
      · rintro _ w ⟨r, rfl, rfl, g2⟩
        exact ⟨rfl, Gr.t0 g g2⟩
      refine Q_pu (P_not (decide ((nth a i2) = (nth b i2))) rfl) ?_
      refine Q_nil fun w59 g60 => ?_
      have hc62 := hc29.k0 g60
      refine W_cond (!(decide ((nth a i2) = (nth b i2)))) rfl (fun hq63 => ?_) (fun hq63 => ?_)
      · have H := ite_t H hq63
        refine W_seq ?_
        refine W_reg ?_
        refine L_pu (P_assign (vb false) rfl) ?_
        refine L_nil ?_
        refine W_ret ?_
        exact ⟨[vb false], ⟨_, rfl, rfl⟩, false, rfl, H, hc62.gr⟩
      · have H := ite_f H hq63
        refine W_skip ?_
        refine W_reg ?_
        refine L_pu (P_move (vi i2) rfl) ?_
        obtain ⟨hb65, H⟩ := H
        have hi64 : I64 (i2 + 1) := i64_succ (of_decide_eq_true hq39) hl38 hb65
        refine L_pu (P_add i2 1 rfl rfl hi64) ?_
        refine L_pu (P_assign (vi (i2 + 1)) rfl) ?_
        refine L_nil ?_
        obtain ⟨hI66, hm67⟩ := H
        exact ⟨i2 + 1, hm67, hI66, ⟨rfl, rfl, rfl, trivial⟩, hc62, (h30.st (.new _ g60)), (h31.st (.new _ g60))⟩
    · have H := ite_f H hq39
      refine W_exit (xin_hit ?_)
      refine W_seq ?_
      refine W_reg ?_
      refine L_pu (P_assign (vb true) rfl) ?_
      refine L_nil ?_
      refine W_ret ?_
      exact ⟨[vb true], ⟨_, rfl, rfl⟩, true, rfl, H, hc29.gr⟩
end Go.Proofs.Ytnliofcjplnboaa

namespace Go.Proofs.Ytnliofcjplnboaa
set_option linter.unusedVariables false
set_option linter.unusedSimpArgs false
theorem laws_eqPtS.law (a b : List Pt) (Q : Bool → Prop) (hq : Q (decide (a = b))) : laws_eqPtS.E a b Q := by
  unfold laws_eqPtS.E
  exact eqS_shape (fun x y => decide (x = y)) (fun _ _ => rfl) a b Q hq
theorem laws_eqPtS.is (a b : List Pt) : laws_eqPtS.E a b (fun r => r = decide (a = b)) := laws_eqPtS.law a b _ rfl
end Go.Proofs.Ytnliofcjplnboaa

namespace Go.Proofs.Ytnliofcjplnboaa
open Go.RowKit
set_option linter.unusedVariables false
def laws_FnExactSeqLong.E (aA : List Pt) (aB : List Pt) (Q : Bool → Prop) : Prop :=
  laws_szPtS.E aA 1048576 (fun r => (if decide (r < 0) then Q true else laws_szPtS.E aB r (fun r2 => (if decide (r2 < 0) then Q true else laws_toPtS.E aA (fun r3 => laws_toPtS.E aB (fun r4 => spec_SeqLong.E r3 r4 (fun r5 => laws_toPtS.E aA (fun r6 => laws_toPtS.E aB (fun r7 => impl_SeqLong.E r6 r7 (fun r8 => (if r8 != r5 then Q false else laws_toPtS.E aA (fun r9 => laws_eqPtS.E r6 r9 (fun r10 => (if !r10 then Q false else laws_toPtS.E aB (fun r11 => laws_eqPtS.E r7 r11 (fun r12 => (if !r12 then Q false else Q true)))))))))))))))))
set_option maxHeartbeats 8000000 in
set_option maxRecDepth 100000 in
theorem laws_FnExactSeqLong.calls {O : Ob} (w0 : World) (hO : Ok w0 O) (aA : List Pt) (A1 : Option Addr) (n2 c3 : Nat) (hp4 : Sl kPt w0 (Fr O) (.slice A1 n2 c3) aA) (aB : List Pt) (A6 : Option Addr) (n7 c8 : Nat) (hp9 : Sl kPt w0 (Fr O) (.slice A6 n7 c8) aB) (Q : Bool → Prop) (h : laws_FnExactSeqLong.E aA aB Q) :
    Ret Try.prog 5 [.slice A1 n2 c3, .slice A6 n7 c8] w0 (fun v w' => ∃ (r0 : Bool), v = vb r0 ∧ Q r0 ∧ Gr w0 w' none) := by
  have H : laws_szPtS.E aA 1048576 (fun r => (if decide (r < 0) then Q true else laws_szPtS.E aB r (fun r2 => (if decide (r2 < 0) then Q true else laws_toPtS.E aA (fun r3 => laws_toPtS.E aB (fun r4 => spec_SeqLong.E r3 r4 (fun r5 => laws_toPtS.E aA (fun r6 => laws_toPtS.E aB (fun r7 => impl_SeqLong.E r6 r7 (fun r8 => (if r8 != r5 then Q false else laws_toPtS.E aA (fun r9 => laws_eqPtS.E r6 r9 (fun r10 => (if !r10 then Q false else laws_toPtS.E aB (fun r11 => laws_eqPtS.E r7 r11 (fun r12 => (if !r12 then Q false else Q true))))))))))))))))) := h
  clear h
  have hc0 := Ct.init hO
  refine Ret_enter Try.func5 rfl 45 rfl [.tmp 4] rfl rfl ?_
  refine W_seq ?_
  refine W_reg ?_
  refine L_pu (P_assign (vb false) rfl) ?_
  refine L_nil ?_
  refine W_seq ?_
  refine W_reg ?_
  refine L_pu (P_assign (vi 1048576) rfl) ?_
  refine L_nil ?_
  refine W_seq ?_
  refine W_reg ?_
  refine L_pu (P_move (.slice A1 n2 c3) rfl) ?_
  refine L_pu (P_move (vi 1048576) rfl) ?_
  refine L_call go22 [.slice A1 n2 c3, vi 1048576] rfl ((laws_szPtS.calls w0 hc0.ok aA A1 n2 c3 hp4 1048576 _ H).mono ?_)
  rintro _ w11 ⟨r, rfl, H, g12, _⟩
  have hc16 := hc0.k0 g12
  refine L_pu (P_assign (vi r) rfl) ?_
  refine L_nil ?_
  refine W_seq ?_
  refine W_seq ?_
  refine W_reg ?_
  refine L_pu (P_move (vi r) rfl) ?_
  refine L_pu (P_cmp r 0 (decide (r < 0)) rfl rfl rfl) ?_
  refine L_nil ?_
  refine W_cond (decide (r < 0)) rfl (fun hq17 => ?_) (fun hq17 => ?_)
  · have H := ite_t H hq17
    refine W_seq ?_
    refine W_reg ?_
    refine L_pu (P_assign (vb true) rfl) ?_
    refine L_nil ?_
    refine W_ret ?_
    exact ⟨[vb true], ⟨_, rfl, rfl⟩, true, rfl, H, hc16.gr⟩
  · have H := ite_f H hq17
    refine W_skip ?_
    refine W_seq ?_
    refine W_reg ?_
    refine L_pu (P_move (.slice A6 n7 c8) rfl) ?_
    refine L_pu (P_move (vi r) rfl) ?_
    refine L_call go22 [.slice A6 n7 c8, vi r] rfl ((laws_szPtS.calls w11 hc16.ok aB A6 n7 c8 (hp9.st hc16.st) r _ H).mono ?_)
    rintro _ w18 ⟨r2, rfl, H, g19, _⟩
    have hc23 := hc16.k0 g19
    refine L_pu (P_assign (vi r2) rfl) ?_
    refine L_nil ?_
    refine W_seq ?_
    refine W_seq ?_
    refine W_reg ?_
    refine L_pu (P_move (vi r2) rfl) ?_
    refine L_pu (P_cmp r2 0 (decide (r2 < 0)) rfl rfl rfl) ?_
    refine L_nil ?_
    refine W_cond (decide (r2 < 0)) rfl (fun hq24 => ?_) (fun hq24 => ?_)
    · have H := ite_t H hq24
      refine W_seq ?_
      refine W_reg ?_
      refine L_pu (P_assign (vb true) rfl) ?_
      refine L_nil ?_
      refine W_ret ?_
      exact ⟨[vb true], ⟨_, rfl, rfl⟩, true, rfl, H, hc23.gr⟩
    · have H := ite_f H hq24
      refine W_skip ?_
      refine W_seq ?_
      refine W_reg ?_
      refine L_pu (P_move (.slice A1 n2 c3) rfl) ?_
      refine L_call go24 [.slice A1 n2 c3] rfl ((laws_toPtS.calls w18 hc23.ok aA A1 n2 c3 (hp4.st hc23.st) _ H).mono ?_)
      rintro _ w25 ⟨r3, A27, n28, c29, rfl, H, g26, hk33, hk34, h30⟩
      have hc35 := hc23.owns g26 hk33 hk34
      refine L_pu (P_move (.slice A6 n7 c8) rfl) ?_
      refine L_call go24 [.slice A6 n7 c8] rfl ((laws_toPtS.calls w25 hc35.ok aB A6 n7 c8 (hp9.st hc35.st) _ H).mono ?_)
      rintro _ w36 ⟨r4, A38, n39, c40, rfl, H, g37, hk44, hk45, h41⟩
      have hc46 := hc35.owns g37 hk44 hk45
      have h47 := (h30.sos g37 hk45)
      have h48 := Ow.gv (L := [blk (.slice A38 n39 c40), blk (.slice A27 n28 c29)]) (O := O) h47 hc46 (i := 1) rfl
      have hc49 := hc46.drop 1 rfl
      have h51 := (Ow.sd (L := [blk (.slice A38 n39 c40), blk (.slice A27 n28 c29)]) (O := O) h41 (i := 0) rfl (j := 1) rfl (by decide))
      have h52 := Ow.gv (L := [blk (.slice A38 n39 c40)]) (O := O) h51 hc49 (i := 0) rfl
      have hc53 := hc49.drop 0 rfl
      have h55 := (h48.st (.dr _ (L := [blk (.slice A38 n39 c40)]) (O := O) (j := 0) rfl))
      refine L_call go23 [.slice A27 n28 c29, .slice A38 n39 c40] rfl ((spec_SeqLong.calls w36 hc53.ok r3 A27 n28 c29 h55 r4 A38 n39 c40 h52 _ H).mono ?_)
      rintro _ w56 ⟨r5, rfl, H, g57⟩
      have hc61 := hc46.k0 g57
      refine L_pu (P_assign (vi r5) rfl) ?_
      refine L_nil ?_
      refine W_seq ?_
      refine W_reg ?_
      refine L_pu (P_move (.slice A1 n2 c3) rfl) ?_
      refine L_call go24 [.slice A1 n2 c3] rfl ((laws_toPtS.calls w56 hc61.ok aA A1 n2 c3 (hp4.st hc61.st) _ H).mono ?_)
      rintro _ w62 ⟨r6, A64, n65, c66, rfl, H, g63, hk70, hk71, h67⟩
      have hc72 := hc61.owns g63 hk70 hk71
      refine L_pu (P_assign (.slice A64 n65 c66) rfl) ?_
      refine L_nil ?_
      refine W_seq ?_
      refine W_reg ?_
      refine L_pu (P_move (.slice A6 n7 c8) rfl) ?_
      refine L_call go24 [.slice A6 n7 c8] rfl ((laws_toPtS.calls w62 hc72.ok aB A6 n7 c8 (hp9.st hc72.st) _ H).mono ?_)
      rintro _ w73 ⟨r7, A75, n76, c77, rfl, H, g74, hk81, hk82, h78⟩
      have hc83 := hc72.owns g74 hk81 hk82
      refine L_pu (P_assign (.slice A75 n76 c77) rfl) ?_
      refine L_nil ?_
      refine W_seq ?_
      refine W_reg ?_
      refine L_pu (P_move (.slice A64 n65 c66) rfl) ?_
      refine L_pu (P_move (.slice A75 n76 c77) rfl) ?_
      have h84 := (h67.sos g74 hk82)
      have h85 := Ow.gv (L := [blk (.slice A75 n76 c77), blk (.slice A64 n65 c66), blk (.slice A38 n39 c40), blk (.slice A27 n28 c29)]) (O := O) h84 hc83 (i := 1) rfl
      have hc86 := hc83.drop 1 rfl
      have h88 := (Ow.sd (L := [blk (.slice A75 n76 c77), blk (.slice A64 n65 c66), blk (.slice A38 n39 c40), blk (.slice A27 n28 c29)]) (O := O) h78 (i := 0) rfl (j := 1) rfl (by decide))
      have h89 := Ow.gv (L := [blk (.slice A75 n76 c77), blk (.slice A38 n39 c40), blk (.slice A27 n28 c29)]) (O := O) h88 hc86 (i := 0) rfl
      have hc90 := hc86.drop 0 rfl
      have h92 := (h85.st (.dr _ (L := [blk (.slice A75 n76 c77), blk (.slice A38 n39 c40), blk (.slice A27 n28 c29)]) (O := O) (j := 0) rfl))
      refine L_call go25 [.slice A64 n65 c66, .slice A75 n76 c77] rfl ((impl_SeqLong.calls w73 hc90.ok r6 A64 n65 c66 h92 r7 A75 n76 c77 h89 _ H).mono ?_)
      rintro _ w93 ⟨r8, rfl, H, g94⟩
      have hc98 := hc83.k0 g94
      refine L_pu (P_assign (vi r8) rfl) ?_
      refine L_nil ?_
      refine W_seq ?_
      refine W_seq ?_
      refine W_reg ?_
      refine L_pu (P_move (vi r8) rfl) ?_
      refine L_pu (P_move (vi r5) rfl) ?_
      refine L_pu (P_cmp r8 r5 (r8 != r5) rfl rfl rfl) ?_
      refine L_nil ?_
      refine W_cond (r8 != r5) rfl (fun hq99 => ?_) (fun hq99 => ?_)
      · have H := ite_t H hq99
        refine W_seq ?_
        refine W_reg ?_
        refine L_pu (P_assign (vb false) rfl) ?_
        refine L_nil ?_
        refine W_ret ?_
        have hc100 := hc98.drop 0 rfl
        have hc101 := hc100.drop 0 rfl
        have hc102 := hc101.drop 0 rfl
        have hc103 := hc102.drop 0 rfl
        exact ⟨[vb false], ⟨_, rfl, rfl⟩, false, rfl, H, hc103.gr⟩
      · have H := ite_f H hq99
        refine W_skip ?_
        refine W_seq ?_
        refine W_seq ?_
        refine W_reg ?_
        refine L_pu (P_move (.slice A64 n65 c66) rfl) ?_
        refine L_pu (P_move (.slice A1 n2 c3) rfl) ?_
        refine L_call go24 [.slice A1 n2 c3] rfl ((laws_toPtS.calls w93 hc98.ok aA A1 n2 c3 (hp4.st hc98.st) _ H).mono ?_)
        rintro _ w104 ⟨r9, A106, n107, c108, rfl, H, g105, hk112, hk113, h109⟩
        have hc114 := hc98.owns g105 hk112 hk113
        have h115 := (((h67.sos g74 hk82).sn g94).sos g105 hk113)
        have h116 := Ow.gv (L := [blk (.slice A106 n107 c108), blk (.slice A75 n76 c77), blk (.slice A64 n65 c66), blk (.slice A38 n39 c40), blk (.slice A27 n28 c29)]) (O := O) h115 hc114 (i := 2) rfl
        have hc117 := hc114.drop 2 rfl
        have h119 := (Ow.sd (L := [blk (.slice A106 n107 c108), blk (.slice A75 n76 c77), blk (.slice A64 n65 c66), blk (.slice A38 n39 c40), blk (.slice A27 n28 c29)]) (O := O) h109 (i := 0) rfl (j := 2) rfl (by decide))
        have h120 := Ow.gv (L := [blk (.slice A106 n107 c108), blk (.slice A75 n76 c77), blk (.slice A38 n39 c40), blk (.slice A27 n28 c29)]) (O := O) h119 hc117 (i := 0) rfl
        have hc121 := hc117.drop 0 rfl
        have h123 := (h116.st (.dr _ (L := [blk (.slice A106 n107 c108), blk (.slice A75 n76 c77), blk (.slice A38 n39 c40), blk (.slice A27 n28 c29)]) (O := O) (j := 0) rfl))
        refine L_call go26 [.slice A64 n65 c66, .slice A106 n107 c108] rfl ((laws_eqPtS.calls w104 hc121.ok r6 A64 n65 c66 h123 r9 A106 n107 c108 h120 _ H).mono ?_)
        rintro _ w124 ⟨r10, rfl, H, g125⟩
        have hc129 := hc114.k0 g125
        refine L_pu (P_not r10 rfl) ?_
        refine L_nil ?_
        refine W_cond (!r10) rfl (fun hq130 => ?_) (fun hq130 => ?_)
        · have H := ite_t H hq130
          refine W_seq ?_
          refine W_reg ?_
          refine L_pu (P_assign (vb false) rfl) ?_
          refine L_nil ?_
          refine W_ret ?_
          have hc131 := hc129.drop 0 rfl
          have hc132 := hc131.drop 0 rfl
          have hc133 := hc132.drop 0 rfl
          have hc134 := hc133.drop 0 rfl
          have hc135 := hc134.drop 0 rfl
          exact ⟨[vb false], ⟨_, rfl, rfl⟩, false, rfl, H, hc135.gr⟩
        · have H := ite_f H hq130
          refine W_skip ?_
          refine W_seq ?_
          refine W_seq ?_
          refine W_reg ?_
          refine L_pu (P_move (.slice A75 n76 c77) rfl) ?_
          refine L_pu (P_move (.slice A6 n7 c8) rfl) ?_
          refine L_call go24 [.slice A6 n7 c8] rfl ((laws_toPtS.calls w124 hc129.ok aB A6 n7 c8 (hp9.st hc129.st) _ H).mono ?_)
          rintro _ w136 ⟨r11, A138, n139, c140, rfl, H, g137, hk144, hk145, h141⟩
          have hc146 := hc129.owns g137 hk144 hk145
          have h147 := ((((h78.sn g94).sos g105 hk113).sn g125).sos g137 hk145)
          have h148 := Ow.gv (L := [blk (.slice A138 n139 c140), blk (.slice A106 n107 c108), blk (.slice A75 n76 c77), blk (.slice A64 n65 c66), blk (.slice A38 n39 c40), blk (.slice A27 n28 c29)]) (O := O) h147 hc146 (i := 2) rfl
          have hc149 := hc146.drop 2 rfl
          have h151 := (Ow.sd (L := [blk (.slice A138 n139 c140), blk (.slice A106 n107 c108), blk (.slice A75 n76 c77), blk (.slice A64 n65 c66), blk (.slice A38 n39 c40), blk (.slice A27 n28 c29)]) (O := O) h141 (i := 0) rfl (j := 2) rfl (by decide))
          have h152 := Ow.gv (L := [blk (.slice A138 n139 c140), blk (.slice A106 n107 c108), blk (.slice A64 n65 c66), blk (.slice A38 n39 c40), blk (.slice A27 n28 c29)]) (O := O) h151 hc149 (i := 0) rfl
          have hc153 := hc149.drop 0 rfl
          have h155 := (h148.st (.dr _ (L := [blk (.slice A138 n139 c140), blk (.slice A106 n107 c108), blk (.slice A64 n65 c66), blk (.slice A38 n39 c40), blk (.slice A27 n28 c29)]) (O := O) (j := 0) rfl))
          refine L_call go26 [.slice A75 n76 c77, .slice A138 n139 c140] rfl ((laws_eqPtS.calls w136 hc153.ok r7 A75 n76 c77 h155 r11 A138 n139 c140 h152 _ H).mono ?_)
          rintro _ w156 ⟨r12, rfl, H, g157⟩
          have hc161 := hc146.k0 g157
          refine L_pu (P_not r12 rfl) ?_
          refine L_nil ?_
          refine W_cond (!r12) rfl (fun hq162 => ?_) (fun hq162 => ?_)
          · have H := ite_t H hq162
            refine W_seq ?_
            refine W_reg ?_
            refine L_pu (P_assign (vb false) rfl) ?_
            refine L_nil ?_
            refine W_ret ?_
            have hc163 := hc161.drop 0 rfl
            have hc164 := hc163.drop 0 rfl
            have hc165 := hc164.drop 0 rfl
            have hc166 := hc165.drop 0 rfl
            have hc167 := hc166.drop 0 rfl
            have hc168 := hc167.drop 0 rfl
            exact ⟨[vb false], ⟨_, rfl, rfl⟩, false, rfl, H, hc168.gr⟩
          · have H := ite_f H hq162
            refine W_skip ?_
            refine W_seq ?_
            refine W_reg ?_
            refine L_pu (P_assign (vb true) rfl) ?_
            refine L_nil ?_
            refine W_ret ?_
            have hc169 := hc161.drop 0 rfl
            have hc170 := hc169.drop 0 rfl
            have hc171 := hc170.drop 0 rfl
            have hc172 := hc171.drop 0 rfl
            have hc173 := hc172.drop 0 rfl
            have hc174 := hc173.drop 0 rfl
            exact ⟨[vb true], ⟨_, rfl, rfl⟩, true, rfl, H, hc174.gr⟩
end Go.Proofs.Ytnliofcjplnboaa

namespace Go.Proofs.Ytnliofcjplnboaa
set_option linter.unusedVariables false
set_option linter.unusedSimpArgs false
theorem laws_FnExactSeqLong.law (a : List Pt) (_ : ∀ x ∈ a, vPt x) (b : List Pt) (_ : ∀ x ∈ b, vPt x) : laws_FnExactSeqLong.E a b (fun r => r = true) := by
  unfold laws_FnExactSeqLong.E
  refine laws_szPtS.law a _ _ (by decide) (by decide) (fun _ => rfl) (fun h1 => ?_)
  rw [if_neg (by rw [decide_eq_false (by omega)]; exact Bool.false_ne_true)]
  refine laws_szPtS.law b _ _ (by omega) (by omega) (fun _ => rfl) (fun h2 => ?_)
  rw [if_neg (by rw [decide_eq_false (by omega)]; exact Bool.false_ne_true)]
  refine laws_toPtS.law a _ (by omega) (laws_toPtS.law b _ (by omega) (spec_SeqLong.law _ _ _ (laws_toPtS.law a _ (by omega) (laws_toPtS.law b _ (by omega) (impl_SeqLong.law _ _ _ ?_)))))
  rw [if_neg (by simp)]
  refine laws_toPtS.law a _ (by omega) (laws_eqPtS.law _ _ _ ?_)
  rw [decide_eq_true rfl, if_neg (by decide)]
  refine laws_toPtS.law b _ (by omega) (laws_eqPtS.law _ _ _ ?_)
  rw [decide_eq_true rfl, if_neg (by decide)]
end Go.Proofs.Ytnliofcjplnboaa

namespace Go.Proofs.Ytnliofcjplnboaa.rFnExactSeqLong
open Go.ChangeShapes Go.WideShapes Go.ChangeAt Go.RowKit
open Go.ChangeMaps (open_string shut_string)
set_option linter.unusedVariables false
theorem own : ownKnob Try.prog.godebug = none := by kernel_rfl
theorem laidOut : laidOutB Try.prog = true := by kernel_rfl
set_option maxRecDepth 100000 in
theorem lifted (os : Os) (started : os.Started) (H : Type) (enc : TypeId × Value → H) :
    ReturnsInHanded {} Try.checked os 5 .any (Rows.fnExactSeqLongSpec.pre6 enc Try.prog Try.f5 Rows.fnExactSeqLongRow.domain false) (Rows.fnExactSeqLongSpec.post enc Try.prog Try.f5 false true false false) := by
  refine returnsInHanded_of_change_sized (C := Try.checked) own started (by kernel_rfl) Try.func5
    (ChangeSpec.witness6 (enc := enc) (C := Try.checked) false ⟨#[], #[.slice none 0 0, .slice none 0 0], []⟩ 8 (by kernel_rfl) (by kernel_rfl) (by kernel_rfl) (by kernel_rfl)) ?_
  intro W base args ds gs before hval0 hW hcnd hsz0 _
  have hval : ∀ (j : Nat) t v, Try.f5.params[j]? = some t → args[j]? = some v → Value.okWide Try.prog W .any base t v := hval0
  have hW' := hW
  obtain ⟨p, q, hA0, hV, rfl, hfz, hnd⟩ := hW
  have hA : DataW.TrodAll enc Try.prog W 0 (fun _ => true) true Try.f5.params.toList args.toList ds p := hA0
  rw [Try.params5] at hA hval
  obtain ⟨v0, vs0, d0, ds0, p0, q0, hargs, rfl, rfl, h0, r0⟩ := trodAll_cons hA
  obtain ⟨v1, vs1, d1, ds1, p1, q1, rfl, rfl, rfl, h1, r1⟩ := trodAll_cons r0
  obtain ⟨rfl, rfl, rfl⟩ := trodAll_nil r1
  obtain rfl : args = #[v0, v1] := by cases args; simp_all
  obtain ⟨rfl, rfl⟩ := trodVars_none hV
  have k0 := h0
  have lt0 : ∀ x ∈ p0, x.block < W.heap.size := by obtain ⟨m, hm⟩ := k0; exact DataW.trod_lt m _ _ _ hm
  obtain ⟨x0, hv0, hx0⟩ : ∃ a : List Pt, (∀ x ∈ a, vPt x) ∧ (Kd.sl kPt).R W (Fr []) a v0.cells.toList := by obtain ⟨fuel, hf⟩ := h0; exact (Tr.sl Try.underlying30 (by kernel_rfl) tr64) H enc W fuel _ _ hf
  obtain ⟨a0, n0, c0, rfl⟩ := okWide_slice Try.underlying30 (hval 0 30 v0 rfl rfl)
  have s0 : Sl kPt W (Fr []) (.slice a0 n0 c0) x0 := by obtain ⟨_, e, h⟩ := hx0; simp [Value.cells] at e; subst e; exact h
  have k1 := h1
  have lt1 : ∀ x ∈ p1, x.block < W.heap.size := by obtain ⟨m, hm⟩ := k1; exact DataW.trod_lt m _ _ _ hm
  obtain ⟨x1, hv1, hx1⟩ : ∃ a : List Pt, (∀ x ∈ a, vPt x) ∧ (Kd.sl kPt).R W (Fr []) a v1.cells.toList := by obtain ⟨fuel, hf⟩ := h1; exact (Tr.sl Try.underlying30 (by kernel_rfl) tr64) H enc W fuel _ _ hf
  obtain ⟨a1, n1, c1, rfl⟩ := okWide_slice Try.underlying30 (hval 1 30 v1 rfl rfl)
  have s1 : Sl kPt W (Fr []) (.slice a1 n1 c1) x1 := by obtain ⟨_, e, h⟩ := hx1; simp [Value.cells] at e; subst e; exact h
  clear hA0 hval0 hsz0
  refine Calls.mono (laws_FnExactSeqLong.calls W (Ok.nil W) x0 a0 n0 c0 s0 x1 a1 n1 c1 s1 (fun r => r = true) (laws_FnExactSeqLong.law x0 hv0 x1 hv1)) fun e W' ⟨v, he, r, hr, hq, hg⟩ => ?_
  subst he; subst hr; subst hq
  have bel := Gr.below hg
  exact ⟨_, rfl, _, _, _, [], _, [], hW', trodAll_mk1 (shut_bool Try.underlying4 _), (trodAll_cons_mk (Below.trod laidOut (by kernel_rfl) (of_decide_eq_true (by kernel_rfl)) k0 bel lt0) (trodAll_cons_mk (Below.trod laidOut (by kernel_rfl) (of_decide_eq_true (by kernel_rfl)) k1 bel lt1) trodAll_mk0)), rfl, bel.frame _, fun h => by cases h⟩
theorem over : Rows.fnExactSeqLongRow.holds Try.pinned (OpenSpec.ofChange Rows.fnExactSeqLongSpec) :=
  OpenClaim.holds_of_wide 5 Try.f5 rfl rfl rfl rfl rfl rfl rfl ⟨rfl, rfl, rfl, rfl, rfl⟩ rfl rfl rfl rfl rfl (by kernel_rfl) Try.func5 (by kernel_rfl)
    (of_decide_eq_true (by kernel_rfl)) (by unfold Func.isWrapper; first | (rw [if_pos (by decide +kernel)]; kernel_rfl) | (rw [if_neg (by decide +kernel)]; exact ⟨rfl, rfl⟩))
    (fun os started H enc _ => lifted os started H enc)
theorem proved : Rows.FnExactSeqLongSaid := over
#print axioms proved
end Go.Proofs.Ytnliofcjplnboaa.rFnExactSeqLong
namespace Go.Proofs.Ytnliofcjplnboaa
theorem fnExactSeqLong_holds : Rows.FnExactSeqLongSaid := rFnExactSeqLong.proved
end Go.Proofs.Ytnliofcjplnboaa
