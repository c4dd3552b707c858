/- It is proved here that the law FnExactSeqPairs of the given program holds whatever it is handed: the walks through the code, the plain laws and the row, in this order.
   Conditions: none. -/
import Derived.Below
import Derived.ChangeArms
import Derived.ChangeOld
import Derived.ChangeSlices
import Derived.DataReads
import Derived.Deep.Quiet
import Derived.KernelRfl
import Derived.Laws.Build
import Derived.Laws.OwnMore
import Derived.Laws.Slices
import Derived.Laws.StructEq
import Derived.OpenShut
import Derived.ProofKit
import Derived.ShutString
import Derived.SizedLaws
import Derived.StillTail
import Derived.Test.YtnliofcjplnboaaProg
import Derived.Test.YtnliofcjplnboaaRows
import Derived.WalkKit
import Derived.Test.YtnliofcjplnboaaCExactSeqPairsa
namespace Go.Proofs.Ytnliofcjplnboaa
set_option linter.unusedVariables false
set_option linter.unusedSimpArgs false
def few (a b : List Pt) : Bool := decide (a.length ≤ 12) && decide (b.length ≤ 12)
theorem few_iff {a b : List Pt} : few a b = true ↔ a.length ≤ 12 ∧ b.length ≤ 12 := by simp [few]
theorem few_not {a b : List Pt} : few a b = false ↔ ¬ (a.length ≤ 12 ∧ b.length ≤ 12) := by rw [← few_iff]; simp
def slen (a b : List Pt) : Int := if few a b then (lcs a b : Nat) else 0
def mkP (p : Nat × Nat) : Pair := ⟨p.1, p.2⟩
def spairs (a b : List Pt) : List Pair := if few a b then (pairs 0 0 a b).map mkP else []
theorem spairs_few {a b : List Pt} (h : few a b = true) : spairs a b = (pairs 0 0 a b).map mkP := by unfold spairs; rw [if_pos h]
theorem spairs_len (a b : List Pt) : ((spairs a b).length : Int) = slen a b := by
  unfold spairs slen
  by_cases h : few a b = true
  · rw [if_pos h, if_pos h, List.length_map, pairs_len]
  · rw [if_neg h, if_neg h]; rfl
theorem slen_le (a b : List Pt) : 0 ≤ slen a b ∧ slen a b ≤ a.length ∧ slen a b ≤ b.length ∧ slen a b ≤ 12 := by
  unfold slen
  by_cases h : few a b = true
  · have := few_iff.1 h
    have h1 := lcs_le1 a b; have h2 := lcs_le2 a b
    rw [if_pos h]; omega
  · rw [if_neg h]; omega
/-- a row: what is in common from a place of the second on -/
def RowOk (a b : List Pt) (i : Nat) (j : Nat) (xs : List Int) : Prop := xs.length = b.length + 1 ∧ ∀ m : Nat, j ≤ m → m ≤ b.length → nth xs (m : Int) = (lcs (a.drop i) (b.drop m) : Nat)
def Tab (a b : List Pt) (D : Nat → Nat → Prop) (t : List (List Int)) : Prop := t.length = a.length + 1 ∧ ∀ r : Nat, r ≤ a.length → (nth t (r : Int)).length = b.length + 1 ∧ ∀ m : Nat, m ≤ b.length → D r m → nth (nth t (r : Int)) (m : Int) = (lcs (a.drop r) (b.drop m) : Nat)
theorem Tab.set {a b : List Pt} {D : Nat → Nat → Prop} {t : List (List Int)} (h : Tab a b D t) {i j : Nat} (hi : i ≤ a.length) (hj : j ≤ b.length) {v : Int} (hv : v = (lcs (a.drop i) (b.drop j) : Nat)) {D' : Nat → Nat → Prop} (hD : ∀ r m, D' r m → D r m ∨ (r = i ∧ m = j)) :
    Tab a b D' (t.set i ((nth t (i : Int)).set j v)) := by
  obtain ⟨h1, h2⟩ := h
  refine ⟨by rw [List.length_set]; exact h1, fun r hr => ?_⟩
  rw [nth_set _ (by omega)]
  by_cases e : r = i
  · subst e
    rw [if_pos rfl]
    refine ⟨by rw [List.length_set]; exact (h2 r hr).1, fun m hm hd => ?_⟩
    rw [nth_set _ (by rw [(h2 r hr).1]; omega)]
    by_cases f : m = j
    · subst f; rw [if_pos rfl, hv]
    · rw [if_neg f]
      exact (h2 r hr).2 m hm ((hD r m hd).resolve_right fun x => f x.2)
  · rw [if_neg e]
    exact ⟨(h2 r hr).1, fun m hm hd => (h2 r hr).2 m hm ((hD r m hd).resolve_right fun x => e x.1)⟩
def mateI (l : List Pair) (k : Int) : Int := match l with
  | [] => -1
  | p :: l => if p.A == k then p.B else mateI l k
theorem mateI_nil (k : Int) : mateI [] k = -1 := rfl
theorem mateI_cons (p : Pair) (l : List Pair) (k : Int) : mateI (p :: l) k = if p.A == k then p.B else mateI l k := rfl
def mateN (l : List (Nat × Nat)) (k : Nat) : Option Nat := match l with
  | [] => none
  | p :: l => if p.1 = k then some p.2 else mateN l k
theorem mateI_mk (l : List (Nat × Nat)) (k : Nat) : mateI (l.map mkP) (k : Int) = match mateN l k with | some x => (x : Int) | none => -1 := by
  induction l with
  | nil => rfl
  | cons p l ih =>
    rw [List.map_cons, mateI_cons, mateN]
    by_cases h : p.1 = k
    · rw [if_pos (by simp [mkP, h]), if_pos h]; rfl
    · rw [if_neg (by simp [mkP]; omega), if_neg h, ih]
theorem mateN_mem {l : List (Nat × Nat)} {k x : Nat} (h : mateN l k = some x) : (k, x) ∈ l := by
  induction l with
  | nil => cases h
  | cons p l ih =>
    rw [mateN] at h
    by_cases e : p.1 = k
    · rw [if_pos e] at h; cases h; subst e; exact List.mem_cons_self
    · rw [if_neg e] at h; exact List.mem_cons_of_mem _ (ih h)
theorem mateN_of {l : List (Nat × Nat)} {k x : Nat} (ho : l.Pairwise fun p q => p.1 < q.1 ∧ p.2 < q.2) (h : (k, x) ∈ l) : mateN l k = some x := by
  induction l with
  | nil => cases h
  | cons p l ih =>
    rw [mateN]
    rcases List.mem_cons.1 h with h | h
    · subst h; rw [if_pos rfl]
    · have := (List.pairwise_cons.1 ho).1 _ h
      rw [if_neg (by dsimp only at this; omega)]
      exact ih (List.pairwise_cons.1 ho).2 h
theorem mateN_none {l : List (Nat × Nat)} {k : Nat} (h : ∀ x, (k, x) ∉ l) : mateN l k = none := by
  cases e : mateN l k with
  | none => rfl
  | some x => exact absurd (mateN_mem e) (h x)
def part (o a : List Pt) : Nat → Option Nat := mateN (pairs 0 0 o a)
theorem part_mates (o a : List Pt) : Mates o a (part o a) := by
  have hm : ∀ {t x}, part o a t = some x → ∃ z, o[t]? = some z ∧ a[x]? = some z := fun {t x} h => by
    obtain ⟨k, l, e, z, h1, h2⟩ := pairs_mem 0 0 o a _ (mateN_mem h)
    rw [Nat.zero_add, Nat.zero_add] at e; cases e
    exact ⟨z, h1, h2⟩
  refine ⟨fun {t x} h => ?_, fun {t x} h => ?_, fun {t x u y} h1 h2 hu => ?_⟩
  · obtain ⟨z, h1, h2⟩ := hm h
    exact ⟨(List.getElem?_eq_some_iff.1 h1).1, (List.getElem?_eq_some_iff.1 h2).1⟩
  · obtain ⟨z, h1, h2⟩ := hm h
    obtain ⟨e1, e2⟩ := List.getElem?_eq_some_iff.1 h1
    obtain ⟨e3, e4⟩ := List.getElem?_eq_some_iff.1 h2
    rw [nth_nat _ e1, nth_nat _ e3, e2, e4]
  · have ho := pairs_ord 0 0 o a
    have m1 := mateN_mem h1; have m2 := mateN_mem h2
    generalize pairs 0 0 o a = l at ho m1 m2
    induction l with
    | nil => cases m1
    | cons p l ih =>
      obtain ⟨q1, q2⟩ := List.pairwise_cons.1 ho
      rcases List.mem_cons.1 m1 with e1 | n1
      · rcases List.mem_cons.1 m2 with e2 | n2
        · subst e1; cases e2; omega
        · subst e1; exact (q1 _ n2).2
      · rcases List.mem_cons.1 m2 with e2 | n2
        · subst e2; have := (q1 _ n1).1; dsimp only at this; omega
        · exact ih q2 n1 n2
theorem part_old (o : List Pt) (l : List Pt) : ∀ t, t < o.length → part o (o ++ l) t = some t := fun t ht => by
  refine mateN_of (pairs_ord _ _ _ _) ?_
  rw [pairs_self, List.mem_map]
  exact ⟨t, by simpa using ht, by simp⟩
theorem part_self (o : List Pt) : ∀ t, t < o.length → part o o t = some t := fun t ht => by
  have := part_old o [] t ht
  rwa [List.append_nil] at this
/-- what is made of two rows, and of which one was -/
def smerge (o a b : List Pt) : Option (List Pt) := if few o a && few o b then mloop o a b (part o a) (part o b) o.length 0 0 0 0 else none
theorem smerge_few {o a b : List Pt} (h1 : few o a = true) (h2 : few o b = true) : smerge o a b = mloop o a b (part o a) (part o b) o.length 0 0 0 0 := by unfold smerge; rw [h1, h2]; rfl
theorem smerge_not {o a b : List Pt} (h : few o a = false ∨ few o b = false) : smerge o a b = none := by
  unfold smerge; rcases h with h | h <;> rw [h] <;> simp
theorem smerge_comm (o a b : List Pt) : smerge o a b = smerge o b a := by
  unfold smerge; rw [Bool.and_comm, mloop_comm]
theorem smerge_old {o a : List Pt} (h : few o a = true) : smerge o a o = some a := by
  rw [smerge_few h (by rw [few_iff] at h ⊢; exact ⟨h.1, h.1⟩), mloop_old (part_mates o a) (part_self o) _ _ _ _ (by omega) (From.zero _ _)]; rfl
theorem smerge_same {o a : List Pt} (h : few o a = true) : smerge o a a = some a := by
  rw [smerge_few h h, mloop_same (part_mates o a) _ _ _ _ (by omega) (From.zero _ _)]; rfl
theorem smerge_keep {o a b r : List Pt} (h : smerge o a b = some r) : (∀ z ∈ r, z ∈ a ∨ z ∈ b) ∧ (∀ z ∈ a, z ∈ o ∨ z ∈ r) ∧ (∀ z ∈ b, z ∈ o ∨ z ∈ r) ∧ r.length ≤ a.length + b.length := by
  unfold smerge at h
  by_cases hf : (few o a && few o b) = true
  · rw [if_pos hf] at h
    exact mloop_keep (part_mates o a) (part_mates o b) _ _ _ _ _ (by omega) (From.zero _ _) (From.zero _ _) _ h
  · rw [if_neg hf] at h; cases h
theorem smerge_len {o a b r : List Pt} (h : smerge o a b = some r) : r.length ≤ 24 := by
  have h1 := (smerge_keep h).2.2.2
  unfold smerge at h
  by_cases hf : (few o a && few o b) = true
  · rw [Bool.and_eq_true, few_iff, few_iff] at hf; omega
  · rw [if_neg hf] at h; cases h
theorem part_cons (p : Pt) (o a : List Pt) (t : Nat) : part (p :: o) (p :: a) (t + 1) = (part o a t).map (· + 1) := by
  have h := pairs_shift 0 0 o a 1 1
  have e : mateN (pairs (0 + 1) (0 + 1) o a) (t + 1) = (mateN (pairs 0 0 o a) t).map (· + 1) := by
    rw [h]
    generalize pairs 0 0 o a = l
    induction l with
    | nil => rfl
    | cons q l ih =>
      rw [List.map_cons, mateN, mateN]
      by_cases e : q.1 = t
      · rw [if_pos (by dsimp only; omega), if_pos e]; rfl
      · rw [if_neg (by dsimp only; omega), if_neg e, ih]
  unfold part
  rw [pairs_cons_self, mateN, if_neg (by dsimp only; omega), e]
theorem part_cons0 (p : Pt) (o a : List Pt) : part (p :: o) (p :: a) 0 = some 0 := by
  unfold part; rw [pairs_cons_self, mateN, if_pos rfl]
theorem mateN_app (l m : List (Nat × Nat)) (k : Nat) : mateN (l ++ m) k = (mateN l k).or (mateN m k) := by
  induction l with
  | nil => rfl
  | cons p l ih =>
    rw [List.cons_append, mateN, mateN]
    by_cases e : p.1 = k
    · rw [if_pos e, if_pos e]; rfl
    · rw [if_neg e, if_neg e, ih]
theorem part_snoc {p : Pt} {o a : List Pt} (ho : p ∉ o) (ha : p ∉ a) (t : Nat) : part (o ++ [p]) (a ++ [p]) t = (part o a t).or (if o.length = t then some a.length else none) := by
  unfold part; rw [pairs_snoc p 0 0 o a ho ha, mateN_app]
  simp only [mateN, Nat.zero_add]
theorem part_snoc1 {p : Pt} {o a : List Pt} (ho : p ∉ o) (ha : p ∉ a) {t : Nat} (h : t < o.length) : part (o ++ [p]) (a ++ [p]) t = part o a t := by
  rw [part_snoc ho ha, if_neg (by omega)]; cases part o a t <;> rfl
theorem part_snoc2 {p : Pt} {o a : List Pt} (ho : p ∉ o) (ha : p ∉ a) : part (o ++ [p]) (a ++ [p]) o.length = some a.length := by
  rw [part_snoc ho ha, if_pos rfl]
  cases h : part o a o.length with
  | none => rfl
  | some x => have := ((part_mates o a).lt h).1; omega
theorem smerge_cons {o a b : List Pt} (p : Pt) (h1 : few (p :: o) (p :: a) = true) (h2 : few (p :: o) (p :: b) = true) : smerge (p :: o) (p :: a) (p :: b) = (smerge o a b).map (p :: ·) := by
  have g1 : few o a = true := by rw [few_iff] at h1 ⊢; simp only [List.length_cons] at h1; omega
  have g2 : few o b = true := by rw [few_iff] at h2 ⊢; simp only [List.length_cons] at h2; omega
  rw [smerge_few h1 h2, smerge_few g1 g2, List.length_cons, mloop_some (part_cons0 p o a) (part_cons0 p o b), seg_self, seg_self, seg_self, pickL_same, Option.bind_some]
  rw [show (0 : Nat) + 1 = 0 + 1 from rfl, mloop_cons p (fun t _ => part_cons p o a t) (fun t _ => part_cons p o b t) _ _ _ _ _ (by omega)]
  rfl
theorem smerge_snoc {o a b : List Pt} (p : Pt) (ho : p ∉ o) (ha : p ∉ a) (hb : p ∉ b) (h1 : few (o ++ [p]) (a ++ [p]) = true) (h2 : few (o ++ [p]) (b ++ [p]) = true) : smerge (o ++ [p]) (a ++ [p]) (b ++ [p]) = (smerge o a b).map (· ++ [p]) := by
  have g1 : few o a = true := by rw [few_iff] at h1 ⊢; simp only [List.length_append] at h1; omega
  have g2 : few o b = true := by rw [few_iff] at h2 ⊢; simp only [List.length_append] at h2; omega
  rw [smerge_few h1 h2, smerge_few g1 g2, List.length_append, List.length_singleton]
  exact mloop_snoc p (part_mates o a) (part_mates o b) (fun t ht => part_snoc1 ho ha ht) (part_snoc2 ho ha) (fun t ht => part_snoc1 ho hb ht) (part_snoc2 ho hb) _ _ _ _ _ (by omega) (Nat.zero_le _) (Nat.zero_le _) (Nat.zero_le _) (From.zero _ _) (From.zero _ _)
theorem part_shift {p : Pt} {o : List Pt} (hp : p ∉ o) : ∀ t, t < o.length → part o (p :: o) t = some (t + 1) := fun t ht => by
  have e : pairs 0 0 o (p :: o) = pairs 0 1 o o := by
    cases o with
    | nil => rw [pairs_nil, pairs_nil]
    | cons x o =>
      have hx : x ≠ p := fun e => hp (e ▸ List.mem_cons_self)
      rw [pairs_cons, if_neg hx, if_neg]
      have h1 : lcs (x :: o) (x :: o) = o.length + 1 := lcs_self (x :: o)
      have h2 := lcs_le1 o (p :: x :: o)
      omega
  refine mateN_of (pairs_ord _ _ _ _) ?_
  rw [e]
  have := pairs_self 0 1 o []
  rw [List.append_nil] at this
  rw [this, List.mem_map]
  exact ⟨t, by simpa using ht, pp (by omega) (by omega)⟩
theorem smerge_apart {o : List Pt} {p q : Pt} (hp : p ∉ o) (h0 : 0 < o.length) (h : o.length < 12) : smerge o (p :: o) (o ++ [q]) = some (p :: o ++ [q]) := by
  have h1 : few o (p :: o) = true := by rw [few_iff]; simp only [List.length_cons]; omega
  have h2 : few o (o ++ [q]) = true := by rw [few_iff]; simp only [List.length_append, List.length_singleton]; omega
  rw [smerge_few h1 h2]
  obtain ⟨n, e⟩ : ∃ n, o.length = n + 1 := ⟨o.length - 1, by omega⟩
  have hf := part_shift hp
  have hg := part_old o [q]
  rw [e, mloop_some (hf 0 h0) (hg 0 h0), seg_self, seg_self, pickL_old, Option.bind_some]
  have := mloop_apart p q hf hg n 1 (by omega)
  rw [show (0 : Nat) + 1 = 1 from rfl, show (0 : Nat) + 1 + 1 = 1 + 1 from rfl, this, Option.map_some]
  have hd := drop_nth o h0
  rw [List.drop_zero] at hd
  have : seg (p :: o) 0 1 = [p] := rfl
  rw [show (0 : Nat) + 1 = 1 from rfl] at hd
  rw [this, List.singleton_append, ← List.cons_append, ← hd]
  rfl
theorem smerge_clash {o : List Pt} {p q : Pt} (hp : p ∉ o) (hq : q ∉ o) (hpq : p ≠ q) (h0 : 0 < o.length) : smerge o (p :: o) (q :: o) = none := by
  unfold smerge
  by_cases hf : (few o (p :: o) && few o (q :: o)) = true
  · rw [if_pos hf]
    obtain ⟨n, e⟩ : ∃ n, o.length = n + 1 := ⟨o.length - 1, by omega⟩
    rw [e, mloop_some (part_shift hp 0 h0) (part_shift hq 0 h0)]
    have : pickL (seg o 0 0) (seg (p :: o) 0 (0 + 1)) (seg (q :: o) 0 (0 + 1)) = none := by
      show pickL [] [p] [q] = none
      unfold pickL
      rw [if_neg (by simp), if_neg (by simp), if_neg (by simpa using hpq)]
    rw [this]; rfl
  · rw [if_neg hf]
theorem smerge_nil {a b : List Pt} (h1 : a.length ≤ 12) (h2 : b.length ≤ 12) : smerge [] a b = if a = [] then some b else if b = [] then some a else if a = b then some a else none := by
  rw [smerge_few (by rw [few_iff]; exact ⟨Nat.zero_le _, h1⟩) (by rw [few_iff]; exact ⟨Nat.zero_le _, h2⟩)]; rfl
end Go.Proofs.Ytnliofcjplnboaa

namespace Go.Proofs.Ytnliofcjplnboaa
set_option linter.unusedVariables false
set_option linter.unusedSimpArgs false
theorem spec_l5Few.law (a b : List Pt) (Q : Bool → Prop) (hq : Q (few a b)) : spec_l5Few.E a b Q := by
  unfold spec_l5Few.E
  unfold few at hq
  by_cases h : a.length ≤ 12
  · rw [if_pos (by simp; omega)]
    rw [decide_eq_true h, Bool.true_and] at hq
    have : decide ((b.length : Int) ≤ 12) = decide (b.length ≤ 12) := decide_eq_decide.2 (by omega)
    rw [this]; exact hq
  · rw [if_neg (by simp; omega)]
    rw [decide_eq_false h, Bool.false_and] at hq; exact hq
end Go.Proofs.Ytnliofcjplnboaa

namespace Go.Proofs.Ytnliofcjplnboaa
open Go.RowKit
set_option linter.unusedVariables false
def spec_l1Max.E (a : Int) (b : Int) (Q : Int → Prop) : Prop :=
  (if decide (a > b) then Q a else Q b)
set_option maxHeartbeats 8000000 in
set_option maxRecDepth 100000 in
theorem spec_l1Max.calls {O : Ob} (w0 : World) (hO : Ok w0 O) (a : Int) (b : Int) (Q : Int → Prop) (h : spec_l1Max.E a b Q) :
    Ret Try.prog 59 [vi a, vi b] w0 (fun v w' => ∃ (r0 : Int), v = vi r0 ∧ Q r0 ∧ Gr w0 w' none ∧ w' = w0) := by
  have H : (if decide (a > b) then Q a else Q b) := h
  clear h
  have hc0 := Ct.init hO
  refine Ret_enter Try.func59 rfl 10 rfl [.tmp 4] rfl rfl ?_
  refine W_seq ?_
  refine W_reg ?_
  refine L_pu (P_assign (vi 0) rfl) ?_
  refine L_nil ?_
  refine W_seq ?_
  refine W_seq ?_
  refine W_reg ?_
  refine L_pu (P_move (vi a) rfl) ?_
  refine L_pu (P_move (vi b) rfl) ?_
  refine L_pu (P_cmp a b (decide (a > b)) rfl rfl rfl) ?_
  refine L_nil ?_
  refine W_cond (decide (a > b)) rfl (fun hq1 => ?_) (fun hq1 => ?_)
  · have H := ite_t H hq1
    refine W_seq ?_
    refine W_reg ?_
    refine L_pu (P_move (vi a) rfl) ?_
    refine L_pu (P_assign (vi a) rfl) ?_
    refine L_nil ?_
    refine W_ret ?_
    exact ⟨[vi a], ⟨_, rfl, rfl⟩, a, rfl, H, hc0.gr, rfl⟩
  · have H := ite_f H hq1
    refine W_skip ?_
    refine W_seq ?_
    refine W_reg ?_
    refine L_pu (P_move (vi b) rfl) ?_
    refine L_pu (P_assign (vi b) rfl) ?_
    refine L_nil ?_
    refine W_ret ?_
    exact ⟨[vi b], ⟨_, rfl, rfl⟩, b, rfl, H, hc0.gr, rfl⟩
def spec_l1Max.m (a : Int) (b : Int) : Int := (if decide (a > b) then a else b)
theorem spec_l1Max.fn (a : Int) (b : Int) : spec_l1Max.E a b (fun r => r = spec_l1Max.m a b) := by
  unfold spec_l1Max.E spec_l1Max.m
  (repeat' split) <;> simp_all
end Go.Proofs.Ytnliofcjplnboaa

namespace Go.Proofs.Ytnliofcjplnboaa
set_option linter.unusedVariables false
set_option linter.unusedSimpArgs false
theorem spec_l1Max.m_is (a b : Int) : spec_l1Max.m a b = max a b := by
  unfold spec_l1Max.m
  by_cases h : a > b
  · simp [h]; omega
  · simp [h]; omega
end Go.Proofs.Ytnliofcjplnboaa

namespace Go.Proofs.Ytnliofcjplnboaa
open Go.RowKit
set_option linter.unusedVariables false
def spec_l5Long.E (a : List Pt) (b : List Pt) (Q : Int → Prop) : Prop :=
  ((b.length : Int) ≤ 9223372036854775807 → I64 ((b.length : Int) + 1)) ∧ ((0 : Int) ≤ (b.length : Int) + 1 ∧ (b.length : Int) + 1 ≤ (268435456 : Int)) ∧ ((b.length : Int) ≤ 9223372036854775807 → (a.length : Int) ≤ 9223372036854775807 → I64 ((a.length : Int) - 1)) ∧ (∃ (I57 : (List Int) → Int → Prop) (mu58 : (List Int) → Int → Nat), I57 (List.replicate ((b.length : Int) + 1).toNat (0 : Int)) ((a.length : Int) - 1) ∧ ∀ (xs2 : List Int) (i2 : Int), I57 xs2 i2 → (if decide (i2 ≥ 0) then ((b.length : Int) ≤ 9223372036854775807 → I64 ((b.length : Int) + 1)) ∧ ((0 : Int) ≤ (b.length : Int) + 1 ∧ (b.length : Int) + 1 ≤ (268435456 : Int)) ∧ ((b.length : Int) ≤ 9223372036854775807 → I64 ((b.length : Int) - 1)) ∧ (∃ (I115 : (List Int) → Int → Prop) (mu116 : (List Int) → Int → Nat), I115 (List.replicate ((b.length : Int) + 1).toNat (0 : Int)) ((b.length : Int) - 1) ∧ ∀ (xs4 : List Int) (k2 : Int), I115 xs4 k2 → (if decide (k2 ≥ 0) then ((0 : Int) ≤ i2 ∧ i2 < (a.length : Int)) ∧ ((0 : Int) ≤ k2 ∧ k2 < (b.length : Int)) ∧ (if eqPt (nth a i2) (nth b k2) then (I64 (k2 + 1)) ∧ ((0 : Int) ≤ k2 + 1 ∧ k2 + 1 < (xs2.length : Int)) ∧ (I64 ((nth xs2 (k2 + 1)) + 1)) ∧ ((0 : Int) ≤ k2 ∧ k2 < (xs4.length : Int)) ∧ (I64 (k2 - 1)) ∧ I115 (xs4.set k2.toNat ((nth xs2 (k2 + 1)) + 1)) (k2 - 1) ∧ mu116 (xs4.set k2.toNat ((nth xs2 (k2 + 1)) + 1)) (k2 - 1) < mu116 xs4 k2 else ((0 : Int) ≤ k2 ∧ k2 < (xs2.length : Int)) ∧ (I64 (k2 + 1)) ∧ ((0 : Int) ≤ k2 + 1 ∧ k2 + 1 < (xs4.length : Int)) ∧ ((0 : Int) ≤ k2 ∧ k2 < (xs4.length : Int)) ∧ (I64 (k2 - 1)) ∧ I115 (xs4.set k2.toNat (spec_l1Max.m (nth xs2 k2) (nth xs4 (k2 + 1)))) (k2 - 1) ∧ mu116 (xs4.set k2.toNat (spec_l1Max.m (nth xs2 k2) (nth xs4 (k2 + 1)))) (k2 - 1) < mu116 xs4 k2) else (I64 (i2 - 1)) ∧ I57 xs4 (i2 - 1) ∧ mu58 xs4 (i2 - 1) < mu58 xs2 i2)) else ((0 : Int) ≤ 0 ∧ 0 < (xs2.length : Int)) ∧ Q (nth xs2 0)))
set_option maxHeartbeats 8000000 in
set_option maxRecDepth 100000 in
theorem spec_l5Long.calls {O : Ob} (w0 : World) (hO : Ok w0 O) (a : List Pt) (A1 : Option Addr) (n2 c3 : Nat) (hp4 : Sl kPt w0 (Fr O) (.slice A1 n2 c3) a) (b : List Pt) (A6 : Option Addr) (n7 c8 : Nat) (hp9 : Sl kPt w0 (Fr O) (.slice A6 n7 c8) b) (Q : Int → Prop) (h : spec_l5Long.E a b Q) :
    Ret Try.prog 46 [.slice A1 n2 c3, .slice A6 n7 c8] w0 (fun v w' => ∃ (r0 : Int), v = vi r0 ∧ Q r0 ∧ Gr w0 w' none) := by
  have H : ((b.length : Int) ≤ 9223372036854775807 → I64 ((b.length : Int) + 1)) ∧ ((0 : Int) ≤ (b.length : Int) + 1 ∧ (b.length : Int) + 1 ≤ (268435456 : Int)) ∧ ((b.length : Int) ≤ 9223372036854775807 → (a.length : Int) ≤ 9223372036854775807 → I64 ((a.length : Int) - 1)) ∧ (∃ (I57 : (List Int) → Int → Prop) (mu58 : (List Int) → Int → Nat), I57 (List.replicate ((b.length : Int) + 1).toNat (0 : Int)) ((a.length : Int) - 1) ∧ ∀ (xs2 : List Int) (i2 : Int), I57 xs2 i2 → (if decide (i2 ≥ 0) then ((b.length : Int) ≤ 9223372036854775807 → I64 ((b.length : Int) + 1)) ∧ ((0 : Int) ≤ (b.length : Int) + 1 ∧ (b.length : Int) + 1 ≤ (268435456 : Int)) ∧ ((b.length : Int) ≤ 9223372036854775807 → I64 ((b.length : Int) - 1)) ∧ (∃ (I115 : (List Int) → Int → Prop) (mu116 : (List Int) → Int → Nat), I115 (List.replicate ((b.length : Int) + 1).toNat (0 : Int)) ((b.length : Int) - 1) ∧ ∀ (xs4 : List Int) (k2 : Int), I115 xs4 k2 → (if decide (k2 ≥ 0) then ((0 : Int) ≤ i2 ∧ i2 < (a.length : Int)) ∧ ((0 : Int) ≤ k2 ∧ k2 < (b.length : Int)) ∧ (if eqPt (nth a i2) (nth b k2) then (I64 (k2 + 1)) ∧ ((0 : Int) ≤ k2 + 1 ∧ k2 + 1 < (xs2.length : Int)) ∧ (I64 ((nth xs2 (k2 + 1)) + 1)) ∧ ((0 : Int) ≤ k2 ∧ k2 < (xs4.length : Int)) ∧ (I64 (k2 - 1)) ∧ I115 (xs4.set k2.toNat ((nth xs2 (k2 + 1)) + 1)) (k2 - 1) ∧ mu116 (xs4.set k2.toNat ((nth xs2 (k2 + 1)) + 1)) (k2 - 1) < mu116 xs4 k2 else ((0 : Int) ≤ k2 ∧ k2 < (xs2.length : Int)) ∧ (I64 (k2 + 1)) ∧ ((0 : Int) ≤ k2 + 1 ∧ k2 + 1 < (xs4.length : Int)) ∧ ((0 : Int) ≤ k2 ∧ k2 < (xs4.length : Int)) ∧ (I64 (k2 - 1)) ∧ I115 (xs4.set k2.toNat (spec_l1Max.m (nth xs2 k2) (nth xs4 (k2 + 1)))) (k2 - 1) ∧ mu116 (xs4.set k2.toNat (spec_l1Max.m (nth xs2 k2) (nth xs4 (k2 + 1)))) (k2 - 1) < mu116 xs4 k2) else (I64 (i2 - 1)) ∧ I57 xs4 (i2 - 1) ∧ mu58 xs4 (i2 - 1) < mu58 xs2 i2)) else ((0 : Int) ≤ 0 ∧ 0 < (xs2.length : Int)) ∧ Q (nth xs2 0))) := h
  clear h
  have hc0 := Ct.init hO
  refine Ret_enter Try.func46 rfl 66 rfl [.tmp 4] rfl rfl ?_
  refine W_seq ?_
  refine W_reg ?_
  refine L_pu (P_assign (vi 0) rfl) ?_
  refine L_nil ?_
  refine W_seq ?_
  refine W_reg ?_
  refine L_pu (P_move (.slice A6 n7 c8) rfl) ?_
  have hl11 := hp9.le
  refine L_pu (P_len Try.underlying33 A6 n7 c8 hp9.len rfl) ?_
  obtain ⟨hb12, H⟩ := H
  have hi13 := hb12 (len_le hl11)
  refine L_pu (P_add (b.length : Int) 1 rfl rfl hi13) ?_
  obtain ⟨hb14, H⟩ := H
  refine L_make (kd := (Kd.int .i64)) ei65 hc0 (0 : Int) (rfl) ((b.length : Int) + 1) rfl rfl hb14 fun w15 A16 n17 c18 g19 hr20 hc21 h22 => ?_
  refine L_pu (P_assign (.slice A16 n17 c18) rfl) ?_
  refine L_nil ?_
  refine W_seq ?_
  refine W_seq ?_
  refine W_reg ?_
  refine L_pu (P_move (.slice A1 n2 c3) rfl) ?_
  have hl24 := (hp4.st hc21.st).le
  refine L_pu (P_len Try.underlying33 A1 n2 c3 (hp4.st hc21.st).len rfl) ?_
  obtain ⟨hb25, H⟩ := H
  have hi26 := hb25 (len_le hl11) (len_le hl24)
  refine L_pu (P_sub (a.length : Int) 1 rfl rfl hi26) ?_
  refine L_pu (P_assign (vi ((a.length : Int) - 1)) rfl) ?_
  refine L_nil ?_
  refine W_block ?_
  obtain ⟨I57, mu58, hI59, H⟩ := H
  refine W_loop (α := (List Int) × (Option Addr) × Nat × Nat × Int) (fun (s : (List Int) × (Option Addr) × Nat × Nat × Int) t w46 => match s with | (xs2, A49, n50, c51, i2) => I57 xs2 i2 ∧ Has t [(0, .slice A1 n2 c3), (1, .slice A6 n7 c8), (5, .slice A49 n50 c51), (6, vi i2)] ∧ Ct none w0 w46 [blk (.slice A49 n50 c51)] O ∧ Sl kPt w46 (Fr ([blk (.slice A49 n50 c51)] ++ O)) (.slice A1 n2 c3) a ∧ Sl kPt w46 (Fr ([blk (.slice A49 n50 c51)] ++ O)) (.slice A6 n7 c8) b ∧ Ow (Kd.int .i64) 3 w46 ([blk (.slice A49 n50 c51)] ++ O) (.slice A49 n50 c51) xs2) (fun (s : (List Int) × (Option Addr) × Nat × Nat × Int) => match s with | (xs2, _, _, _, i2) => mu58 xs2 i2) ((List.replicate ((b.length : Int) + 1).toNat (0 : Int)), A16, n17, c18, (a.length : Int) - 1) ⟨hI59, ⟨rfl, rfl, rfl, rfl, trivial⟩, hc21, (hp4.st hc21.st), (hp9.st hc21.st), h22⟩ ?_
  rintro ⟨xs2, A49, n50, c51, i2⟩ _ w46 ⟨hI59, hh61, hc53, h54, h55, h56⟩
  obtain ⟨u62, rfl⟩ := Has.ins hh61
  have H := H xs2 i2 hI59
  refine W_seq ?_
  refine W_seq ?_
  refine W_reg ?_
  refine L_pu (P_move (vi i2) rfl) ?_
  refine L_pu (P_cmp i2 0 (decide (i2 ≥ 0)) rfl rfl rfl) ?_
  refine L_nil ?_
  refine W_cond (decide (i2 ≥ 0)) rfl (fun hq63 => ?_) (fun hq63 => ?_)
  · have H := ite_t H hq63
    refine W_skip ?_
    refine W_seq ?_
    refine W_block ?_
    refine W_seq ?_
    refine W_reg ?_
    refine L_pu (P_move (.slice A6 n7 c8) rfl) ?_
    have hl64 := h55.le
    refine L_pu (P_len Try.underlying33 A6 n7 c8 h55.len rfl) ?_
    obtain ⟨hb65, H⟩ := H
    have hi66 := hb65 (len_le hl64)
    refine L_pu (P_add (b.length : Int) 1 rfl rfl hi66) ?_
    obtain ⟨hb67, H⟩ := H
    refine L_make (kd := (Kd.int .i64)) ei65 hc53 (0 : Int) (rfl) ((b.length : Int) + 1) rfl rfl hb67 fun w68 A69 n70 c71 g72 hr73 hc74 h75 => ?_
    refine L_pu (P_assign (.slice A69 n70 c71) rfl) ?_
    refine L_nil ?_
    refine W_seq ?_
    refine W_seq ?_
    refine W_reg ?_
    refine L_pu (P_move (.slice A6 n7 c8) rfl) ?_
    refine L_pu (P_len Try.underlying33 A6 n7 c8 (h55.st (.own _ _ g72 hr73)).len rfl) ?_
    obtain ⟨hb77, H⟩ := H
    have hi78 := hb77 (len_le hl64)
    refine L_pu (P_sub (b.length : Int) 1 rfl rfl hi78) ?_
    refine L_pu (P_assign (vi ((b.length : Int) - 1)) rfl) ?_
    refine L_nil ?_
    refine W_block ?_
    obtain ⟨I115, mu116, hI117, H⟩ := H
    have h119 := (h56.so _ g72 hr73)
    refine W_loop (α := (List Int) × Int) (fun (s : (List Int) × Int) t w102 => match s with | (xs4, k2) => I115 xs4 k2 ∧ Has t [(0, .slice A1 n2 c3), (1, .slice A6 n7 c8), (5, .slice A49 n50 c51), (6, vi i2), (7, .slice A69 n70 c71), (8, vi k2)] ∧ Ct none w0 w102 [blk (.slice A69 n70 c71), blk (.slice A49 n50 c51)] O ∧ Sl kPt w102 (Fr ([blk (.slice A69 n70 c71), blk (.slice A49 n50 c51)] ++ O)) (.slice A1 n2 c3) a ∧ Sl kPt w102 (Fr ([blk (.slice A69 n70 c71), blk (.slice A49 n50 c51)] ++ O)) (.slice A6 n7 c8) b ∧ Ow (Kd.int .i64) 3 w102 ([blk (.slice A69 n70 c71), blk (.slice A49 n50 c51)] ++ O) (.slice A49 n50 c51) xs2 ∧ Ow (Kd.int .i64) 3 w102 ([blk (.slice A69 n70 c71), blk (.slice A49 n50 c51)] ++ O) (.slice A69 n70 c71) xs4) (fun (s : (List Int) × Int) => match s with | (xs4, k2) => mu116 xs4 k2) ((List.replicate ((b.length : Int) + 1).toNat (0 : Int)), (b.length : Int) - 1) ⟨hI117, ⟨rfl, rfl, rfl, rfl, rfl, rfl, trivial⟩, hc74, (h54.st (.own _ _ g72 hr73)), (h55.st (.own _ _ g72 hr73)), h119, h75⟩ ?_
    rintro ⟨xs4, k2⟩ _ w102 ⟨hI117, hh120, hc110, h111, h112, h113, h114⟩
    obtain ⟨u121, rfl⟩ := Has.ins hh120
    have H := H xs4 k2 hI117
    refine W_seq ?_
    refine W_seq ?_
    refine W_reg ?_
    refine L_pu (P_move (vi k2) rfl) ?_
    refine L_pu (P_cmp k2 0 (decide (k2 ≥ 0)) rfl rfl rfl) ?_
    refine L_nil ?_
    refine W_cond (decide (k2 ≥ 0)) rfl (fun hq122 => ?_) (fun hq122 => ?_)
    · have H := ite_t H hq122
      refine W_skip ?_
      refine W_seq ?_
      refine W_block ?_
      refine W_seq ?_
      refine W_draw (fun x => Gr w102 x none) (by kernel_rfl) (by kernel_rfl) (Gr.drew _) ?_
      refine Q_pu (P_move (.slice A1 n2 c3) rfl) ?_
      refine Q_pu (P_move (vi i2) rfl) ?_
      obtain ⟨hb123, H⟩ := H
      obtain ⟨ad124, cs125, hA126, hS129, hR127, hcl128⟩ := h111.get default (by decide) i2 hb123
      obtain rfl := kPt.op hR127
      refine Q_pu (P_ia Try.underlying33 se33 A1 ad124 n2 c3 h111.len i2 rfl hA126 rfl hb123) ?_
      refine Q_pu (P_lda ag41 sz41 cQ (ad124.add (i2.toNat * 2)) [vi ((nth a i2).X), vi ((nth a i2).Y)] rfl rfl hcl128) ?_
      refine Q_pu (P_move (.slice A6 n7 c8) rfl) ?_
      refine Q_pu (P_move (vi k2) rfl) ?_
      obtain ⟨hb130, H⟩ := H
      obtain ⟨ad131, cs132, hA133, hS136, hR134, hcl135⟩ := h112.get default (by decide) k2 hb130
      obtain rfl := kPt.op hR134
      refine Q_pu (P_ia Try.underlying33 se33 A6 ad131 n7 c8 h112.len k2 rfl hA133 rfl hb130) ?_
      refine Q_pu (P_lda ag41 sz41 cQ (ad131.add (k2.toNat * 2)) [vi ((nth b k2).X), vi ((nth b k2).Y)] rfl rfl hcl135) ?_
      refine Q_pu (P_eq _ _ (eqPt (nth a i2) (nth b k2)) (qt41 (nth a i2) (nth b k2)) rfl rfl) ?_
      refine Q_nil fun w137 g138 => ?_
      have hc140 := hc110.k0 g138
      refine W_cond (eqPt (nth a i2) (nth b k2)) rfl (fun hq141 => ?_) (fun hq141 => ?_)
      · have H := ite_t H hq141
        refine W_reg ?_
        refine L_pu (P_move (.slice A69 n70 c71) rfl) ?_
        refine L_pu (P_move (vi k2) rfl) ?_
        refine L_pu (P_move (.slice A49 n50 c51) rfl) ?_
        refine L_pu (P_move (vi k2) rfl) ?_
        obtain ⟨hb142, H⟩ := H
        refine L_pu (P_add k2 1 rfl rfl hb142) ?_
        obtain ⟨hb143, H⟩ := H
        have h150 := (h113.sn g138)
        obtain ⟨ad144, cs145, hA146, hR147, hcl148⟩ := h150.get default (by decide) (k2 + 1) hb143
        obtain rfl := Kd.int.op hR147
        refine L_pu (P_ia Try.underlying65 se65 A49 ad144 n50 c51 h150.len (k2 + 1) rfl hA146 rfl hb143) ?_
        refine L_pu (P_ld ag3 cL (ad144.add ((k2 + 1).toNat * 1)) (vi (nth xs2 (k2 + 1))) rfl (hcl148 0 _ rfl)) ?_
        obtain ⟨hb151, H⟩ := H
        refine L_pu (P_add (nth xs2 (k2 + 1)) 1 rfl rfl hb151) ?_
        obtain ⟨hb152, H⟩ := H
        have h159 := (h114.sn g138)
        obtain ⟨ad153, cs154, hA155, hR156, hcl157⟩ := h159.get default (by decide) k2 hb152
        obtain rfl := Kd.int.op hR156
        refine L_pu (P_ia Try.underlying65 se65 A69 ad153 n70 c71 h159.len k2 rfl hA155 rfl hb152) ?_
        refine L_ste0 A69 n70 c71 xs4 h159 k2 hb152 ad153 hA155 0 rfl [vi ((nth xs2 (k2 + 1)) + 1)] rfl sz3 rfl ((nth xs2 (k2 + 1)) + 1) [vi (nth xs4 k2)] [vi ((nth xs2 (k2 + 1)) + 1)] hcl157 rfl rfl rfl fun w160 g161 h162 => ?_
        have hc163 := hc140.wr 0 rfl g161
        refine L_nil ?_
        refine W_reg ?_
        refine L_pu (P_move (vi k2) rfl) ?_
        obtain ⟨hb164, H⟩ := H
        refine L_pu (P_sub k2 1 rfl rfl hb164) ?_
        refine L_pu (P_assign (vi (k2 - 1)) rfl) ?_
        refine L_nil ?_
        obtain ⟨hI165, hm166⟩ := H
        have h167 := ((h111.st (.new _ g138)).st (.wl (L := [blk (.slice A69 n70 c71), blk (.slice A49 n50 c51)]) (O := O) (j := 0) rfl g161))
        have h168 := ((h112.st (.new _ g138)).st (.wl (L := [blk (.slice A69 n70 c71), blk (.slice A49 n50 c51)]) (O := O) (j := 0) rfl g161))
        have h169 := (Ow.sw (L := [blk (.slice A69 n70 c71), blk (.slice A49 n50 c51)]) (O := O) h150 hc140 (i := 1) rfl (j := 0) rfl (by decide) g161)
        exact ⟨((xs4.set k2.toNat ((nth xs2 (k2 + 1)) + 1)), k2 - 1), hm166, hI165, ⟨rfl, rfl, rfl, rfl, rfl, rfl, trivial⟩, hc163, h167, h168, h169, h162⟩
      · have H := ite_f H hq141
        refine W_tail 13 (by kernel_rfl) (by kernel_rfl) fun w170 g171 => ?_
        have hc172 := hc140.k0 g171
        refine S_pu (P_move (.slice A69 n70 c71) rfl) ?_
        refine S_pu (P_move (vi k2) rfl) ?_
        refine S_pu (P_move (.slice A49 n50 c51) rfl) ?_
        refine S_pu (P_move (vi k2) rfl) ?_
        obtain ⟨hb173, H⟩ := H
        have h180 := ((h113.sn g138).sn g171)
        obtain ⟨ad174, cs175, hA176, hR177, hcl178⟩ := h180.get default (by decide) k2 hb173
        obtain rfl := Kd.int.op hR177
        refine S_pu (P_ia Try.underlying65 se65 A49 ad174 n50 c51 h180.len k2 rfl hA176 rfl hb173) ?_
        refine S_pu (P_ld ag3 cL (ad174.add (k2.toNat * 1)) (vi (nth xs2 k2)) rfl (hcl178 0 _ rfl)) ?_
        refine S_pu (P_move (.slice A69 n70 c71) rfl) ?_
        refine S_pu (P_move (vi k2) rfl) ?_
        obtain ⟨hb181, H⟩ := H
        refine S_pu (P_add k2 1 rfl rfl hb181) ?_
        obtain ⟨hb182, H⟩ := H
        have h189 := ((h114.sn g138).sn g171)
        obtain ⟨ad183, cs184, hA185, hR186, hcl187⟩ := h189.get default (by decide) (k2 + 1) hb182
        obtain rfl := Kd.int.op hR186
        refine S_pu (P_ia Try.underlying65 se65 A69 ad183 n70 c71 h189.len (k2 + 1) rfl hA185 rfl hb182) ?_
        refine S_pu (P_ld ag3 cL (ad183.add ((k2 + 1).toNat * 1)) (vi (nth xs4 (k2 + 1))) rfl (hcl187 0 _ rfl)) ?_
        refine S_call go59 [vi (nth xs2 k2), vi (nth xs4 (k2 + 1))] rfl (vi (spec_l1Max.m (nth xs2 k2) (nth xs4 (k2 + 1)))) ((spec_l1Max.calls w170 hc172.ok (nth xs2 k2) (nth xs4 (k2 + 1)) _ (spec_l1Max.fn (nth xs2 k2) (nth xs4 (k2 + 1)))).mono ?_) ?_
        · rintro _ w ⟨r, rfl, rfl, _, rfl⟩
          exact ⟨rfl, rfl⟩
        obtain ⟨hb195, H⟩ := H
        obtain ⟨ad196, cs197, hA198, hR199, hcl200⟩ := h189.get default (by decide) k2 hb195
        obtain rfl := Kd.int.op hR199
        refine S_pu (P_ia Try.underlying65 se65 A69 ad196 n70 c71 h189.len k2 rfl hA198 rfl hb195) ?_
        refine S_nil ?_
        refine L_ste0 A69 n70 c71 xs4 h189 k2 hb195 ad196 hA198 0 rfl [vi (spec_l1Max.m (nth xs2 k2) (nth xs4 (k2 + 1)))] rfl sz3 rfl (spec_l1Max.m (nth xs2 k2) (nth xs4 (k2 + 1))) [vi (nth xs4 k2)] [vi (spec_l1Max.m (nth xs2 k2) (nth xs4 (k2 + 1)))] hcl200 rfl rfl rfl fun w202 g203 h204 => ?_
        have hc205 := hc172.wr 0 rfl g203
        refine L_nil ?_
        refine W_reg ?_
        refine L_pu (P_move (vi k2) rfl) ?_
        obtain ⟨hb206, H⟩ := H
        refine L_pu (P_sub k2 1 rfl rfl hb206) ?_
        refine L_pu (P_assign (vi (k2 - 1)) rfl) ?_
        refine L_nil ?_
        obtain ⟨hI207, hm208⟩ := H
        have h209 := (((h111.st (.new _ g138)).st (.new _ g171)).st (.wl (L := [blk (.slice A69 n70 c71), blk (.slice A49 n50 c51)]) (O := O) (j := 0) rfl g203))
        have h210 := (((h112.st (.new _ g138)).st (.new _ g171)).st (.wl (L := [blk (.slice A69 n70 c71), blk (.slice A49 n50 c51)]) (O := O) (j := 0) rfl g203))
        have h211 := (Ow.sw (L := [blk (.slice A69 n70 c71), blk (.slice A49 n50 c51)]) (O := O) h180 hc172 (i := 1) rfl (j := 0) rfl (by decide) g203)
        exact ⟨((xs4.set k2.toNat (spec_l1Max.m (nth xs2 k2) (nth xs4 (k2 + 1)))), k2 - 1), hm208, hI207, ⟨rfl, rfl, rfl, rfl, rfl, rfl, trivial⟩, hc205, h209, h210, h211, h204⟩
    · have H := ite_f H hq122
      refine W_exit (xin_hit ?_)
      refine W_reg ?_
      refine L_pu (P_move (.slice A69 n70 c71) rfl) ?_
      refine L_pu (P_assign (.slice A69 n70 c71) rfl) ?_
      refine L_nil ?_
      refine W_reg ?_
      refine L_pu (P_move (vi i2) rfl) ?_
      obtain ⟨hb212, H⟩ := H
      refine L_pu (P_sub i2 1 rfl rfl hb212) ?_
      refine L_pu (P_assign (vi (i2 - 1)) rfl) ?_
      refine L_nil ?_
      have hc213 := hc110.drop 1 rfl
      obtain ⟨hI214, hm215⟩ := H
      have h216 := (h111.st (.dr _ (L := [blk (.slice A69 n70 c71), blk (.slice A49 n50 c51)]) (O := O) (j := 1) rfl))
      have h217 := (h112.st (.dr _ (L := [blk (.slice A69 n70 c71), blk (.slice A49 n50 c51)]) (O := O) (j := 1) rfl))
      have h218 := (Ow.sd (L := [blk (.slice A69 n70 c71), blk (.slice A49 n50 c51)]) (O := O) h114 (i := 0) rfl (j := 1) rfl (by decide))
      exact ⟨(xs4, A69, n70, c71, i2 - 1), hm215, hI214, ⟨rfl, rfl, rfl, rfl, trivial⟩, hc213, h216, h217, h218⟩
  · have H := ite_f H hq63
    refine W_exit (xin_hit ?_)
    refine W_seq ?_
    refine W_reg ?_
    refine L_pu (P_move (.slice A49 n50 c51) rfl) ?_
    obtain ⟨hb219, H⟩ := H
    obtain ⟨ad220, cs221, hA222, hR223, hcl224⟩ := h56.get default (by decide) 0 hb219
    obtain rfl := Kd.int.op hR223
    refine L_pu (P_ia Try.underlying65 se65 A49 ad220 n50 c51 h56.len 0 rfl hA222 rfl hb219) ?_
    refine L_pu (P_ld ag3 cL (ad220.add ((0 : Int).toNat * 1)) (vi (nth xs2 0)) rfl (hcl224 0 _ rfl)) ?_
    refine L_pu (P_assign (vi (nth xs2 0)) rfl) ?_
    refine L_nil ?_
    refine W_ret ?_
    have hc226 := hc53.drop 0 rfl
    exact ⟨[vi (nth xs2 0)], ⟨_, rfl, rfl⟩, (nth xs2 0), rfl, H, hc226.gr⟩
end Go.Proofs.Ytnliofcjplnboaa

namespace Go.Proofs.Ytnliofcjplnboaa
set_option linter.unusedVariables false
set_option linter.unusedSimpArgs false
theorem spec_l5Long.law (a b : List Pt) (Q : Int → Prop) (ha : a.length ≤ 1048576) (hb : b.length ≤ 1048576) (hq : Q (lcs a b : Nat)) : spec_l5Long.E a b Q := by
  unfold spec_l5Long.E
  have hn : ((b.length : Int) + 1).toNat = b.length + 1 := by omega
  rw [hn]
  refine ⟨fun _ => by unfold I64; omega, by omega, fun _ _ => by unfold I64; omega,
    fun xs i => ∃ k : Nat, i = (k : Int) - 1 ∧ k ≤ a.length ∧ RowOk a b k 0 xs, fun _ i => (i + 1).toNat, ⟨a.length, rfl, Nat.le_refl _, by simp, fun m _ hm => ?_⟩, ?_⟩
  · rw [nth_rep _ _ _ (by omega), List.drop_length, lcs_nil]; rfl
  rintro xs _ ⟨k, rfl, hk, hr⟩
  by_cases hk0 : (k : Int) - 1 ≥ 0
  · rw [if_pos (by simpa using hk0)]
    obtain ⟨i, rfl⟩ : ∃ i, k = i + 1 := ⟨k - 1, by omega⟩
    have ei : ((i + 1 : Nat) : Int) - 1 = (i : Int) := by omega
    rw [ei]
    refine ⟨fun _ => by unfold I64; omega, by omega, fun _ => by unfold I64; omega,
      fun ys j => ∃ m : Nat, j = (m : Int) - 1 ∧ m ≤ b.length ∧ RowOk a b i m ys, fun _ j => (j + 1).toNat, ⟨b.length, rfl, Nat.le_refl _, by simp, fun m hm1 hm2 => ?_⟩, ?_⟩
    · have : m = b.length := by omega
      subst this
      rw [nth_rep _ _ _ (by omega), List.drop_length, lcs_nil2]; rfl
    rintro ys _ ⟨m, rfl, hm, hs⟩
    by_cases hm0 : (m : Int) - 1 ≥ 0
    · rw [if_pos (by simpa using hm0)]
      obtain ⟨j, rfl⟩ : ∃ j, m = j + 1 := ⟨m - 1, by omega⟩
      have ej : ((j + 1 : Nat) : Int) - 1 = (j : Int) := by omega
      have ej1 : (j : Int) + 1 = ((j + 1 : Nat) : Int) := by omega
      rw [ej, ej1, eqPt_is]
      have hl := lcs_drop a b (i := i) (j := j) (by omega) (by omega)
      have n1 := hr.2 (j + 1) (Nat.zero_le _) (by omega)
      have n2 := hr.2 j (Nat.zero_le _) (by omega)
      have n3 := hs.2 (j + 1) (Nat.le_refl _) (by omega)
      have b1 := lcs_le2 (a.drop (i + 1)) (b.drop (j + 1))
      rw [List.length_drop] at b1
      have hset : ∀ v : Int, v = (lcs (a.drop i) (b.drop j) : Nat) → RowOk a b i j (ys.set (j : Int).toNat v) := fun v hv => by
        refine ⟨by rw [List.length_set]; exact hs.1, fun u hu1 hu2 => ?_⟩
        rw [Int.toNat_natCast, nth_set _ (by have := hs.1; omega)]
        by_cases e : u = j
        · subst e; rw [if_pos rfl, hv]
        · rw [if_neg e]; exact hs.2 u (by omega) hu2
      have l1 := hr.1
      have l2 := hs.1
      refine ⟨by omega, by omega, ?_⟩
      by_cases he : nth a (i : Int) = nth b (j : Int)
      · rw [if_pos (by simpa using he)]
        rw [if_pos he] at hl
        rw [n1]
        exact ⟨by unfold I64; omega, by omega, by unfold I64; omega, by omega, by unfold I64; omega, ⟨j, by omega, by omega, hset _ (by omega)⟩, by dsimp only; omega⟩
      · rw [if_neg (by simpa using he)]
        rw [if_neg he] at hl
        rw [n2, n3, spec_l1Max.m_is]
        exact ⟨by omega, by unfold I64; omega, by omega, by omega, by unfold I64; omega, ⟨j, by omega, by omega, hset _ (by omega)⟩, by dsimp only; omega⟩
    · rw [if_neg (by simpa using hm0)]
      have : m = 0 := by omega
      subst this
      exact ⟨by unfold I64; omega, ⟨i, by omega, by omega, hs⟩, by dsimp only; omega⟩
  · rw [if_neg (by simpa using hk0)]
    have : k = 0 := by omega
    subst this
    have h1 := hr.1
    have h2 := hr.2 0 (Nat.le_refl _) (Nat.zero_le _)
    refine ⟨by omega, ?_⟩
    rw [show nth xs 0 = nth xs ((0 : Nat) : Int) from rfl, h2]
    exact hq
end Go.Proofs.Ytnliofcjplnboaa

namespace Go.Proofs.Ytnliofcjplnboaa
open Go.RowKit
set_option linter.unusedVariables false
def spec_SeqPairs.E (a : List Pt) (b : List Pt) (Q : List Pair → Prop) : Prop :=
  (∃ (I50 : (List Pair) → Int → Int → Prop) (mu51 : (List Pair) → Int → Int → Nat), I50 ([] : List Pair) 0 0 ∧ ∀ (xs2 : List Pair) (i2 : Int) (k2 : Int), I50 xs2 i2 k2 → (if decide (i2 < (a.length : Int)) then (if decide (k2 < (b.length : Int)) then spec_l5Few.E a b (fun r => (if r then ((0 : Int) ≤ i2 ∧ i2 < (a.length : Int)) ∧ ((0 : Int) ≤ k2 ∧ k2 < (b.length : Int)) ∧ (if eqPt (nth a i2) (nth b k2) then (xs2.length + ([(⟨i2, k2⟩ : Pair)] : List Pair).length ≤ 268435456) ∧ (-9223372036854775808 ≤ i2) ∧ (-9223372036854775808 ≤ k2) ∧ I50 (xs2 ++ ([(⟨i2, k2⟩ : Pair)] : List Pair)) (i2 + 1) (k2 + 1) ∧ mu51 (xs2 ++ ([(⟨i2, k2⟩ : Pair)] : List Pair)) (i2 + 1) (k2 + 1) < mu51 xs2 i2 k2 else (-9223372036854775808 ≤ i2) ∧ ((0 : Int) ≤ i2 + 1 ∧ (i2 + 1 : Int) ≤ (a.length : Int) ∧ (a.length : Int) ≤ (a.length : Int)) ∧ ((0 : Int) ≤ k2 ∧ (k2 : Int) ≤ (b.length : Int) ∧ (b.length : Int) ≤ (b.length : Int)) ∧ ((0 : Int) ≤ i2 ∧ (i2 : Int) ≤ (a.length : Int) ∧ (a.length : Int) ≤ (a.length : Int)) ∧ (-9223372036854775808 ≤ k2) ∧ ((0 : Int) ≤ k2 + 1 ∧ (k2 + 1 : Int) ≤ (b.length : Int) ∧ (b.length : Int) ≤ (b.length : Int)) ∧ spec_l5Long.E ((a.drop (i2 + 1).toNat).take ((a.length : Int).toNat - (i2 + 1).toNat)) ((b.drop k2.toNat).take ((b.length : Int).toNat - k2.toNat)) (fun r2 => spec_l5Long.E ((a.drop i2.toNat).take ((a.length : Int).toNat - i2.toNat)) ((b.drop (k2 + 1).toNat).take ((b.length : Int).toNat - (k2 + 1).toNat)) (fun r3 => (if decide (r2 ≥ r3) then (-9223372036854775808 ≤ i2) ∧ I50 xs2 (i2 + 1) k2 ∧ mu51 xs2 (i2 + 1) k2 < mu51 xs2 i2 k2 else (-9223372036854775808 ≤ k2) ∧ I50 xs2 i2 (k2 + 1) ∧ mu51 xs2 i2 (k2 + 1) < mu51 xs2 i2 k2)))) else Q xs2)) else Q xs2) else Q xs2))
set_option maxHeartbeats 8000000 in
set_option maxRecDepth 100000 in
theorem spec_SeqPairs.calls {O : Ob} (w0 : World) (hO : Ok w0 O) (a : List Pt) (A1 : Option Addr) (n2 c3 : Nat) (hp4 : Sl kPt w0 (Fr O) (.slice A1 n2 c3) a) (b : List Pt) (A6 : Option Addr) (n7 c8 : Nat) (hp9 : Sl kPt w0 (Fr O) (.slice A6 n7 c8) b) (Q : List Pair → Prop) (h : spec_SeqPairs.E a b Q) :
    Ret Try.prog 30 [.slice A1 n2 c3, .slice A6 n7 c8] w0 (fun v w' => ∃ (r0 : List Pair) (A0 : Option Addr) (n0 c0 : Nat), v = .slice A0 n0 c0 ∧ Q r0 ∧ Gr w0 w' none ∧ Ok w' ([blk (.slice A0 n0 c0)] ++ O) ∧ (∀ b, some b ∈ [blk (.slice A0 n0 c0)] → w0.heap.size ≤ b) ∧ Ow kPair 46 w' ([blk (.slice A0 n0 c0)] ++ O) (.slice A0 n0 c0) r0) := by
  have H : (∃ (I50 : (List Pair) → Int → Int → Prop) (mu51 : (List Pair) → Int → Int → Nat), I50 ([] : List Pair) 0 0 ∧ ∀ (xs2 : List Pair) (i2 : Int) (k2 : Int), I50 xs2 i2 k2 → (if decide (i2 < (a.length : Int)) then (if decide (k2 < (b.length : Int)) then spec_l5Few.E a b (fun r => (if r then ((0 : Int) ≤ i2 ∧ i2 < (a.length : Int)) ∧ ((0 : Int) ≤ k2 ∧ k2 < (b.length : Int)) ∧ (if eqPt (nth a i2) (nth b k2) then (xs2.length + ([(⟨i2, k2⟩ : Pair)] : List Pair).length ≤ 268435456) ∧ (-9223372036854775808 ≤ i2) ∧ (-9223372036854775808 ≤ k2) ∧ I50 (xs2 ++ ([(⟨i2, k2⟩ : Pair)] : List Pair)) (i2 + 1) (k2 + 1) ∧ mu51 (xs2 ++ ([(⟨i2, k2⟩ : Pair)] : List Pair)) (i2 + 1) (k2 + 1) < mu51 xs2 i2 k2 else (-9223372036854775808 ≤ i2) ∧ ((0 : Int) ≤ i2 + 1 ∧ (i2 + 1 : Int) ≤ (a.length : Int) ∧ (a.length : Int) ≤ (a.length : Int)) ∧ ((0 : Int) ≤ k2 ∧ (k2 : Int) ≤ (b.length : Int) ∧ (b.length : Int) ≤ (b.length : Int)) ∧ ((0 : Int) ≤ i2 ∧ (i2 : Int) ≤ (a.length : Int) ∧ (a.length : Int) ≤ (a.length : Int)) ∧ (-9223372036854775808 ≤ k2) ∧ ((0 : Int) ≤ k2 + 1 ∧ (k2 + 1 : Int) ≤ (b.length : Int) ∧ (b.length : Int) ≤ (b.length : Int)) ∧ spec_l5Long.E ((a.drop (i2 + 1).toNat).take ((a.length : Int).toNat - (i2 + 1).toNat)) ((b.drop k2.toNat).take ((b.length : Int).toNat - k2.toNat)) (fun r2 => spec_l5Long.E ((a.drop i2.toNat).take ((a.length : Int).toNat - i2.toNat)) ((b.drop (k2 + 1).toNat).take ((b.length : Int).toNat - (k2 + 1).toNat)) (fun r3 => (if decide (r2 ≥ r3) then (-9223372036854775808 ≤ i2) ∧ I50 xs2 (i2 + 1) k2 ∧ mu51 xs2 (i2 + 1) k2 < mu51 xs2 i2 k2 else (-9223372036854775808 ≤ k2) ∧ I50 xs2 i2 (k2 + 1) ∧ mu51 xs2 i2 (k2 + 1) < mu51 xs2 i2 k2)))) else Q xs2)) else Q xs2) else Q xs2)) := h
  clear h
  have hc0 := Ct.init hO
  refine Ret_enter Try.func30 rfl 67 rfl [.tmp 4] rfl rfl ?_
  refine W_seq ?_
  refine W_reg ?_
  refine L_pu (P_assign (.slice none 0 0) rfl) ?_
  refine L_nil ?_
  refine W_seq ?_
  refine W_reg ?_
  refine L_lit (kd := kPair) ei43 hc0 ([] : List Pair) (cells := []) rfl (fun _ => by kernel_rfl) fun w11 A12 n13 c14 g15 hr16 hc17 h18 => ?_
  refine L_pu (P_assign (.slice A12 n13 c14) rfl) ?_
  refine L_nil ?_
  refine W_seq ?_
  refine W_reg ?_
  refine L_pu (P_assign (vi 0) rfl) ?_
  refine L_nil ?_
  refine W_seq ?_
  refine W_reg ?_
  refine L_pu (P_assign (vi 0) rfl) ?_
  refine L_nil ?_
  refine W_seq ?_
  refine W_block ?_
  obtain ⟨I50, mu51, hI52, H⟩ := H
  refine W_loop (α := (List Pair) × (Option Addr) × Nat × Nat × Int × Int) (fun (s : (List Pair) × (Option Addr) × Nat × Nat × Int × Int) t w39 => match s with | (xs2, A42, n43, c44, i2, k2) => I50 xs2 i2 k2 ∧ Has t [(0, .slice A1 n2 c3), (1, .slice A6 n7 c8), (5, .slice A42 n43 c44), (6, vi i2), (7, vi k2)] ∧ Ct none w0 w39 [blk (.slice A42 n43 c44)] O ∧ Sl kPt w39 (Fr ([blk (.slice A42 n43 c44)] ++ O)) (.slice A1 n2 c3) a ∧ Sl kPt w39 (Fr ([blk (.slice A42 n43 c44)] ++ O)) (.slice A6 n7 c8) b ∧ Ow kPair 46 w39 ([blk (.slice A42 n43 c44)] ++ O) (.slice A42 n43 c44) xs2) (fun (s : (List Pair) × (Option Addr) × Nat × Nat × Int × Int) => match s with | (xs2, _, _, _, i2, k2) => mu51 xs2 i2 k2) (([] : List Pair), A12, n13, c14, 0, 0) ⟨hI52, ⟨rfl, rfl, rfl, rfl, rfl, trivial⟩, hc17, (hp4.st hc17.st), (hp9.st hc17.st), h18⟩ ?_
  rintro ⟨xs2, A42, n43, c44, i2, k2⟩ _ w39 ⟨hI52, hh54, hc46, h47, h48, h49⟩
  obtain ⟨u55, rfl⟩ := Has.ins hh54
  have H := H xs2 i2 k2 hI52
  refine W_seq ?_
  refine W_seq ?_
  refine W_reg ?_
  refine L_pu (P_move (vi i2) rfl) ?_
  refine L_pu (P_move (.slice A1 n2 c3) rfl) ?_
  have hl56 := h47.le
  refine L_pu (P_len Try.underlying33 A1 n2 c3 h47.len rfl) ?_
  refine L_pu (P_cmp i2 (a.length : Int) (decide (i2 < (a.length : Int))) rfl rfl rfl) ?_
  refine L_pu (P_move (vb (decide (i2 < (a.length : Int)))) rfl) ?_
  rcases bool_or (decide (i2 < (a.length : Int))) with hq57 | hq57
  · have H := ite_t H hq57
    refine L_run (dj := 13) rfl rfl (by exact congrArg Value.bool hq57) ?_
    refine L_pu (P_move (vi k2) rfl) ?_
    refine L_run (dj := 13) rfl rfl (by exact congrArg Value.bool hq57) ?_
    refine L_pu (P_move (.slice A6 n7 c8) rfl) ?_
    refine L_run (dj := 13) rfl rfl (by exact congrArg Value.bool hq57) ?_
    have hl58 := h48.le
    refine L_pu (P_len Try.underlying33 A6 n7 c8 h48.len rfl) ?_
    refine L_run (dj := 13) rfl rfl (by exact congrArg Value.bool hq57) ?_
    refine L_pu (P_cmp k2 (b.length : Int) (decide (k2 < (b.length : Int))) rfl rfl rfl) ?_
    refine L_pu (P_pick true (vb (decide (k2 < (b.length : Int)))) (by exact congrArg Value.bool hq57) rfl) ?_
    refine L_pu (P_move (vb (decide (k2 < (b.length : Int)))) rfl) ?_
    rcases bool_or (decide (k2 < (b.length : Int))) with hq59 | hq59
    · have H := ite_t H hq59
      refine L_run (dj := 19) rfl rfl (by exact congrArg Value.bool hq59) ?_
      refine L_pu (P_move (.slice A1 n2 c3) rfl) ?_
      refine L_run (dj := 19) rfl rfl (by exact congrArg Value.bool hq59) ?_
      refine L_pu (P_move (.slice A6 n7 c8) rfl) ?_
      refine L_run (dj := 19) rfl rfl (by exact congrArg Value.bool hq59) ?_
      refine L_call go45 [.slice A1 n2 c3, .slice A6 n7 c8] rfl ((spec_l5Few.calls w39 hc46.ok a A1 n2 c3 h47 b A6 n7 c8 h48 _ H).mono ?_)
      rintro _ w60 ⟨r, rfl, H, g61, _⟩
      have hc65 := hc46.k0 g61
      refine L_pu (P_pick true (vb r) (by exact congrArg Value.bool hq59) rfl) ?_
      refine L_nil ?_
      refine W_cond r rfl (fun hq66 => ?_) (fun hq66 => ?_)
      · have H := ite_t H hq66
        refine W_skip ?_
        refine W_block ?_
        refine W_block ?_
        refine W_seq ?_
        refine W_draw (fun x => Gr w60 x none) (by kernel_rfl) (by kernel_rfl) (Gr.drew _) ?_
        refine Q_pu (P_move (.slice A1 n2 c3) rfl) ?_
        refine Q_pu (P_move (vi i2) rfl) ?_
        obtain ⟨hb67, H⟩ := H
        obtain ⟨ad68, cs69, hA70, hS73, hR71, hcl72⟩ := (h47.st (.new _ g61)).get default (by decide) i2 hb67
        obtain rfl := kPt.op hR71
        refine Q_pu (P_ia Try.underlying33 se33 A1 ad68 n2 c3 (h47.st (.new _ g61)).len i2 rfl hA70 rfl hb67) ?_
        refine Q_pu (P_lda ag41 sz41 cQ (ad68.add (i2.toNat * 2)) [vi ((nth a i2).X), vi ((nth a i2).Y)] rfl rfl hcl72) ?_
        refine Q_pu (P_move (.slice A6 n7 c8) rfl) ?_
        refine Q_pu (P_move (vi k2) rfl) ?_
        obtain ⟨hb74, H⟩ := H
        obtain ⟨ad75, cs76, hA77, hS80, hR78, hcl79⟩ := (h48.st (.new _ g61)).get default (by decide) k2 hb74
        obtain rfl := kPt.op hR78
        refine Q_pu (P_ia Try.underlying33 se33 A6 ad75 n7 c8 (h48.st (.new _ g61)).len k2 rfl hA77 rfl hb74) ?_
        refine Q_pu (P_lda ag41 sz41 cQ (ad75.add (k2.toNat * 2)) [vi ((nth b k2).X), vi ((nth b k2).Y)] rfl rfl hcl79) ?_
        refine Q_pu (P_eq _ _ (eqPt (nth a i2) (nth b k2)) (qt41 (nth a i2) (nth b k2)) rfl rfl) ?_
        refine Q_pu (P_assign (vb (eqPt (nth a i2) (nth b k2))) rfl) ?_
        refine Q_nil fun w81 g82 => ?_
        have hc84 := hc65.k0 g82
        refine W_cond (eqPt (nth a i2) (nth b k2)) rfl (fun hq85 => ?_) (fun hq85 => ?_)
        · have H := ite_t H hq85
          refine W_seq ?_
          refine W_reg ?_
          refine L_pu (P_move (.slice A42 n43 c44) rfl) ?_
          refine L_pu (P_move (vi i2) rfl) ?_
          refine L_pu (P_move (vi k2) rfl) ?_
          refine L_pu (P_build (.agg #[vi i2, vi k2]) (fun _ => by kernel_rfl)) ?_
          refine L_lit (kd := kPair) ei43 hc84 ([(⟨i2, k2⟩ : Pair)] : List Pair) (cells := [vi i2, vi k2]) ⟨[vi i2, vi k2], _, rfl, (kPair.mk _ _ (⟨i2, k2⟩ : Pair)), rfl⟩ (fun _ => by kernel_rfl) fun w86 A87 n88 c89 g90 hr91 hc92 h93 => ?_
          obtain ⟨hb95, H⟩ := H
          have h96 := (((h49.sn g61).sn g82).so _ g90 hr91)
          refine L_app ei43 hc92 (.slice A42 n43 c44) xs2 ([(⟨i2, k2⟩ : Pair)] : List Pair) rfl h96 (.slice A87 n88 c89) rfl h93.sx 1 rfl hb95 fun w97 A98 n99 c100 g101 s102 hc103 h104 => ?_
          refine L_pu (P_assign (.slice A98 n99 c100) rfl) ?_
          refine L_nil ?_
          refine W_seq ?_
          refine W_reg ?_
          refine L_pu (P_move (vi i2) rfl) ?_
          obtain ⟨hb107, H⟩ := H
          have hi106 : I64 (i2 + 1) := i64_succ (of_decide_eq_true hq57) hl56 hb107
          refine L_pu (P_add i2 1 rfl rfl hi106) ?_
          refine L_pu (P_assign (vi (i2 + 1)) rfl) ?_
          refine L_nil ?_
          refine W_reg ?_
          refine L_pu (P_move (vi k2) rfl) ?_
          obtain ⟨hb109, H⟩ := H
          have hi108 : I64 (k2 + 1) := i64_succ (of_decide_eq_true hq59) hl58 hb109
          refine L_pu (P_add k2 1 rfl rfl hi108) ?_
          refine L_pu (P_assign (vi (k2 + 1)) rfl) ?_
          refine L_nil ?_
          have hc110 := hc103.drop 0 rfl
          obtain ⟨hI111, hm112⟩ := H
          have h113 := (((((h47.st (.new _ g61)).st (.new _ g82)).st (.own _ _ g90 hr91)).st s102).st (.dr _ (L := [blk (.slice A87 n88 c89), blk (.slice A98 n99 c100)]) (O := O) (j := 0) rfl))
          have h114 := (((((h48.st (.new _ g61)).st (.new _ g82)).st (.own _ _ g90 hr91)).st s102).st (.dr _ (L := [blk (.slice A87 n88 c89), blk (.slice A98 n99 c100)]) (O := O) (j := 0) rfl))
          have h115 := (Ow.sd (L := [blk (.slice A87 n88 c89), blk (.slice A98 n99 c100)]) (O := O) h104 (i := 1) rfl (j := 0) rfl (by decide))
          exact ⟨((xs2 ++ ([(⟨i2, k2⟩ : Pair)] : List Pair)), A98, n99, c100, i2 + 1, k2 + 1), hm112, hI111, ⟨rfl, rfl, rfl, rfl, rfl, trivial⟩, hc110, h113, h114, h115⟩
        · have H := ite_f H hq85
          refine W_seq ?_
          refine W_mixr 18 (none) (by kernel_rfl) rfl fun w116 g117 hM118 => ?_
          have hc119 := hc84.k0 g117
          refine M_pu 0 rfl (by kernel_rfl) hM118 (P_move (.slice A1 n2 c3) rfl) ?_
          refine M_pu 1 rfl (by kernel_rfl) hM118 (P_move (vi i2) rfl) ?_
          obtain ⟨hb121, H⟩ := H
          have hi120 : I64 (i2 + 1) := i64_succ (of_decide_eq_true hq57) hl56 hb121
          refine M_pu 2 rfl (by kernel_rfl) hM118 (P_add i2 1 rfl rfl hi120) ?_
          obtain ⟨hb122, H⟩ := H
          have h127 := (((h47.st (.new _ g61)).st (.new _ g82)).st (.new _ g117))
          refine M_cuts 3 rfl (by kernel_rfl) hM118 Try.underlying33 se33 A1 n2 c3 a rfl h127 (i2 + 1) (a.length : Int) rfl (bd_none h127.len) hb122 fun A123 n124 c125 h126 => ?_
          refine M_pu 4 rfl (by kernel_rfl) hM118 (P_move (.slice A6 n7 c8) rfl) ?_
          refine M_pu 5 rfl (by kernel_rfl) hM118 (P_move (vi k2) rfl) ?_
          obtain ⟨hb129, H⟩ := H
          have h134 := (((h48.st (.new _ g61)).st (.new _ g82)).st (.new _ g117))
          refine M_cuts 6 rfl (by kernel_rfl) hM118 Try.underlying33 se33 A6 n7 c8 b rfl h134 k2 (b.length : Int) rfl (bd_none h134.len) hb129 fun A130 n131 c132 h133 => ?_
          refine M_pu 8 rfl (by kernel_rfl) hM118 (P_move (.slice A1 n2 c3) rfl) ?_
          refine M_pu 9 rfl (by kernel_rfl) hM118 (P_move (vi i2) rfl) ?_
          obtain ⟨hb136, H⟩ := H
          refine M_cuts 10 rfl (by kernel_rfl) hM118 Try.underlying33 se33 A1 n2 c3 a rfl h127 i2 (a.length : Int) rfl (bd_none h127.len) hb136 fun A137 n138 c139 h140 => ?_
          refine M_pu 11 rfl (by kernel_rfl) hM118 (P_move (.slice A6 n7 c8) rfl) ?_
          refine M_pu 12 rfl (by kernel_rfl) hM118 (P_move (vi k2) rfl) ?_
          obtain ⟨hb143, H⟩ := H
          have hi142 : I64 (k2 + 1) := i64_succ (of_decide_eq_true hq59) hl58 hb143
          refine M_pu 13 rfl (by kernel_rfl) hM118 (P_add k2 1 rfl rfl hi142) ?_
          obtain ⟨hb144, H⟩ := H
          refine M_cuts 14 rfl (by kernel_rfl) hM118 Try.underlying33 se33 A6 n7 c8 b rfl h134 (k2 + 1) (b.length : Int) rfl (bd_none h134.len) hb144 fun A145 n146 c147 h148 => ?_
          refine M_any1 7 (by kernel_rfl) rfl ?_
          refine L_call go46 [.slice A123 n124 c125, .slice A130 n131 c132] rfl ((spec_l5Long.calls w116 hc119.ok ((a.drop (i2 + 1).toNat).take ((a.length : Int).toNat - (i2 + 1).toNat)) A123 n124 c125 h126 ((b.drop k2.toNat).take ((b.length : Int).toNat - k2.toNat)) A130 n131 c132 h133 _ H).mono ?_)
          rintro _ w150 ⟨r2, rfl, H, g151⟩
          have hc155 := hc119.k0 g151
          have hM156 := Gr.tm hM118 g151
          refine L_nil ⟨hM156, ?_⟩
          refine M_any1 15 (by kernel_rfl) rfl ?_
          refine L_call go46 [.slice A137 n138 c139, .slice A145 n146 c147] rfl ((spec_l5Long.calls w150 hc155.ok ((a.drop i2.toNat).take ((a.length : Int).toNat - i2.toNat)) A137 n138 c139 (h140.st (.new _ g151)) ((b.drop (k2 + 1).toNat).take ((b.length : Int).toNat - (k2 + 1).toNat)) A145 n146 c147 (h148.st (.new _ g151)) _ H).mono ?_)
          rintro _ w157 ⟨r3, rfl, H, g158⟩
          have hc162 := hc155.k0 g158
          have hM163 := Gr.tm hM156 g158
          refine L_nil ⟨hM163, ?_⟩
          refine M_pu 16 rfl (by kernel_rfl) hM163 (P_cmp r2 r3 (decide (r2 ≥ r3)) rfl rfl rfl) ?_
          refine M_pu 17 rfl (by kernel_rfl) hM163 (P_assign (vb (decide (r2 ≥ r3))) rfl) ?_
          refine M_nil (by kernel_rfl) ?_
          refine W_cond (decide (r2 ≥ r3)) rfl (fun hq164 => ?_) (fun hq164 => ?_)
          · have H := ite_t H hq164
            refine W_reg ?_
            refine L_pu (P_move (vi i2) rfl) ?_
            obtain ⟨hb166, H⟩ := H
            have hi165 : I64 (i2 + 1) := i64_succ (of_decide_eq_true hq57) hl56 hb166
            refine L_pu (P_add i2 1 rfl rfl hi165) ?_
            refine L_pu (P_assign (vi (i2 + 1)) rfl) ?_
            refine L_nil ?_
            obtain ⟨hI167, hm168⟩ := H
            have h169 := ((h127.st (.new _ g151)).st (.new _ g158))
            have h170 := ((h134.st (.new _ g151)).st (.new _ g158))
            have h171 := (((((h49.sn g61).sn g82).sn g117).sn g151).sn g158)
            exact ⟨(xs2, A42, n43, c44, i2 + 1, k2), hm168, hI167, ⟨rfl, rfl, rfl, rfl, rfl, trivial⟩, hc162, h169, h170, h171⟩
          · have H := ite_f H hq164
            refine W_reg ?_
            refine L_pu (P_move (vi k2) rfl) ?_
            obtain ⟨hb173, H⟩ := H
            have hi172 : I64 (k2 + 1) := i64_succ (of_decide_eq_true hq59) hl58 hb173
            refine L_pu (P_add k2 1 rfl rfl hi172) ?_
            refine L_pu (P_assign (vi (k2 + 1)) rfl) ?_
            refine L_nil ?_
            obtain ⟨hI174, hm175⟩ := H
            have h176 := ((h127.st (.new _ g151)).st (.new _ g158))
            have h177 := ((h134.st (.new _ g151)).st (.new _ g158))
            have h178 := (((((h49.sn g61).sn g82).sn g117).sn g151).sn g158)
            exact ⟨(xs2, A42, n43, c44, i2, k2 + 1), hm175, hI174, ⟨rfl, rfl, rfl, rfl, rfl, trivial⟩, hc162, h176, h177, h178⟩
      · have H := ite_f H hq66
        refine W_exit (xin_hit ?_)
        refine W_seq ?_
        refine W_reg ?_
        refine L_pu (P_move (.slice A42 n43 c44) rfl) ?_
        refine L_pu (P_assign (.slice A42 n43 c44) rfl) ?_
        refine L_nil ?_
        refine W_ret ?_
        have h179 := (h49.sn g61)
        exact ⟨[.slice A42 n43 c44], ⟨_, rfl, rfl⟩, xs2, A42, n43, c44, rfl, H, hc65.gr, hc65.ok, hc65.ge, h179⟩
    · have H := ite_f H hq59
      refine L_pass (dj := 19) rfl rfl (.inl (by exact congrArg Value.bool hq59)) ?_
      refine L_pass (dj := 19) rfl rfl (.inl (by exact congrArg Value.bool hq59)) ?_
      refine L_pass (dj := 19) rfl rfl (.inl (by exact congrArg Value.bool hq59)) ?_
      refine L_pu (P_pick false (vb false) (by exact congrArg Value.bool hq59) rfl) ?_
      refine L_nil ?_
      refine W_cf (b := false) rfl rfl ?_
      refine W_exit (xin_hit ?_)
      refine W_seq ?_
      refine W_reg ?_
      refine L_pu (P_move (.slice A42 n43 c44) rfl) ?_
      refine L_pu (P_assign (.slice A42 n43 c44) rfl) ?_
      refine L_nil ?_
      refine W_ret ?_
      exact ⟨[.slice A42 n43 c44], ⟨_, rfl, rfl⟩, xs2, A42, n43, c44, rfl, H, hc46.gr, hc46.ok, hc46.ge, h49⟩
  · have H := ite_f H hq57
    refine L_pass (dj := 13) rfl rfl (.inl (by exact congrArg Value.bool hq57)) ?_
    refine L_pass (dj := 13) rfl rfl (.inl (by exact congrArg Value.bool hq57)) ?_
    refine L_pass (dj := 13) rfl rfl (.inl (by exact congrArg Value.bool hq57)) ?_
    refine L_pass (dj := 13) rfl rfl (.inl (by exact congrArg Value.bool hq57)) ?_
    refine L_pu (P_pick false (vb false) (by exact congrArg Value.bool hq57) rfl) ?_
    refine L_pu (P_move (vb false) rfl) ?_
    refine L_pass (dj := 19) rfl rfl (.inl rfl) ?_
    refine L_pass (dj := 19) rfl rfl (.inl rfl) ?_
    refine L_pass (dj := 19) rfl rfl (.inl rfl) ?_
    refine L_pu (P_pick false (vb false) (by exact congrArg Value.bool rfl) rfl) ?_
    refine L_nil ?_
    refine W_cf (b := false) rfl rfl ?_
    refine W_exit (xin_hit ?_)
    refine W_seq ?_
    refine W_reg ?_
    refine L_pu (P_move (.slice A42 n43 c44) rfl) ?_
    refine L_pu (P_assign (.slice A42 n43 c44) rfl) ?_
    refine L_nil ?_
    refine W_ret ?_
    exact ⟨[.slice A42 n43 c44], ⟨_, rfl, rfl⟩, xs2, A42, n43, c44, rfl, H, hc46.gr, hc46.ok, hc46.ge, h49⟩
end Go.Proofs.Ytnliofcjplnboaa

namespace Go.Proofs.Ytnliofcjplnboaa
set_option linter.unusedVariables false
set_option linter.unusedSimpArgs false
theorem cut_end (a : List Pt) (k : Nat) : (a.drop k).take (a.length - k) = a.drop k := List.take_of_length_le (by rw [List.length_drop]; omega)
theorem spec_SeqPairs.law (a b : List Pt) (Q : List Pair → Prop) (hq : Q (spairs a b)) : spec_SeqPairs.E a b Q := by
  unfold spec_SeqPairs.E
  unfold spairs at hq
  refine ⟨fun xs i j => ∃ u v : Nat, i = u ∧ j = v ∧ u ≤ a.length ∧ v ≤ b.length ∧ (few a b = true → xs ++ (pairs u v (a.drop u) (b.drop v)).map mkP = (pairs 0 0 a b).map mkP) ∧ (few a b = false → xs = []), fun _ i j => ((a.length - i) + (b.length - j)).toNat, ⟨0, 0, rfl, rfl, Nat.zero_le _, Nat.zero_le _, fun _ => rfl, fun _ => rfl⟩, ?_⟩
  rintro xs _ _ ⟨u, v, rfl, rfl, hu, hv, hx, hy⟩
  have hend : (a.length ≤ u ∨ b.length ≤ v) → Q xs := fun h => by
    by_cases hf : few a b = true
    · rw [if_pos hf] at hq
      have hx := hx hf
      rcases h with h | h
      · rw [List.drop_of_length_le h, pairs_nil, List.map_nil, List.append_nil] at hx
        rw [hx]; exact hq
      · rw [List.drop_of_length_le h, pairs_nil2, List.map_nil, List.append_nil] at hx
        rw [hx]; exact hq
    · rw [if_neg hf] at hq
      rw [hy (by simpa using hf)]; exact hq
  by_cases hu0 : (u : Int) < (a.length : Int)
  · rw [if_pos (by simpa using hu0)]
    by_cases hv0 : (v : Int) < (b.length : Int)
    · rw [if_pos (by simpa using hv0)]
      refine spec_l5Few.law _ _ _ ?_
      by_cases hf : few a b = true
      · rw [if_pos hf]
        have hx := hx hf
        have hff := few_iff.1 hf
        have hu1 : u < a.length := by omega
        have hv1 : v < b.length := by omega
        rw [pairs_drop a b hu1 hv1] at hx
        have eu : (u : Int) + 1 = ((u + 1 : Nat) : Int) := by omega
        have ev : (v : Int) + 1 = ((v + 1 : Nat) : Int) := by omega
        rw [eqPt_is, eu, ev]
        refine ⟨by omega, by omega, ?_⟩
        by_cases he : nth a (u : Int) = nth b (v : Int)
        · rw [if_pos (by simpa using he)]
          rw [if_pos he, List.map_cons] at hx
          have hl := congrArg List.length hx
          rw [List.length_map, pairs_len, List.length_append] at hl
          have := lcs_le1 a b
          exact ⟨by simp only [List.length_singleton]; omega, by omega, by omega, ⟨u + 1, v + 1, rfl, rfl, by omega, by omega, fun _ => by rw [List.append_assoc]; exact hx, fun e => absurd hf (by rw [e]; exact Bool.false_ne_true)⟩, by dsimp only; omega⟩
        · rw [if_neg (by simpa using he)]
          rw [if_neg he] at hx
          refine ⟨by omega, by omega, by omega, by omega, by omega, by omega, ?_⟩
          simp only [Int.toNat_natCast, cut_end]
          refine spec_l5Long.law _ _ _ (by rw [List.length_drop]; omega) (by rw [List.length_drop]; omega) (spec_l5Long.law _ _ _ (by rw [List.length_drop]; omega) (by rw [List.length_drop]; omega) ?_)
          by_cases hc : lcs (a.drop u) (b.drop (v + 1)) ≤ lcs (a.drop (u + 1)) (b.drop v)
          · rw [if_pos (by simpa using hc)]
            rw [if_pos hc] at hx
            exact ⟨by omega, ⟨u + 1, v, rfl, rfl, by omega, by omega, fun _ => hx, fun e => absurd hf (by rw [e]; exact Bool.false_ne_true)⟩, by omega⟩
          · rw [if_neg (by simpa using hc)]
            rw [if_neg hc] at hx
            exact ⟨by omega, ⟨u, v + 1, rfl, rfl, by omega, by omega, fun _ => hx, fun e => absurd hf (by rw [e]; exact Bool.false_ne_true)⟩, by omega⟩
      · rw [if_neg hf]
        rw [if_neg hf] at hq
        rw [hy (by simpa using hf)]; exact hq
    · rw [if_neg (by simpa using hv0)]; exact hend (.inr (by omega))
  · rw [if_neg (by simpa using hu0)]; exact hend (.inl (by omega))
end Go.Proofs.Ytnliofcjplnboaa

namespace Go.Proofs.Ytnliofcjplnboaa
open Go.RowKit
set_option linter.unusedVariables false
def impl_lengths.E (a : List Pt) (b : List Pt) (Q : List (List Int) → Prop) : Prop :=
  ((a.length : Int) ≤ 9223372036854775807 → I64 ((a.length : Int) + 1)) ∧ ((0 : Int) ≤ (a.length : Int) + 1 ∧ (a.length : Int) + 1 ≤ (268435456 : Int)) ∧ (∃ (I59 : (List (List Int)) → Int → Prop) (mu60 : (List (List Int)) → Int → Nat), I59 (List.replicate ((a.length : Int) + 1).toNat ([] : List Int)) 0 ∧ ∀ (xs2 : List (List Int)) (v2 : Int), I59 xs2 v2 → (if decide (v2 < ((List.replicate ((a.length : Int) + 1).toNat ([] : List Int)).length : Int)) then ((b.length : Int) ≤ 9223372036854775807 → I64 ((b.length : Int) + 1)) ∧ ((0 : Int) ≤ (b.length : Int) + 1 ∧ (b.length : Int) + 1 ≤ (268435456 : Int)) ∧ ((0 : Int) ≤ v2 ∧ v2 < (xs2.length : Int)) ∧ ((b.length : Int) ≤ 9223372036854775807 → I64 (v2 + 1)) ∧ I59 (xs2.set v2.toNat (List.replicate ((b.length : Int) + 1).toNat (0 : Int))) (v2 + 1) ∧ mu60 (xs2.set v2.toNat (List.replicate ((b.length : Int) + 1).toNat (0 : Int))) (v2 + 1) < mu60 xs2 v2 else ((a.length : Int) ≤ 9223372036854775807 → I64 ((a.length : Int) - 1)) ∧ (∃ (I146 : (List (List Int)) → Int → Prop) (mu147 : (List (List Int)) → Int → Nat), I146 xs2 ((a.length : Int) - 1) ∧ ∀ (xs4 : List (List Int)) (i2 : Int), I146 xs4 i2 → (if decide (i2 ≥ 0) then ((b.length : Int) ≤ 9223372036854775807 → I64 ((b.length : Int) - 1)) ∧ (∃ (I188 : (List (List Int)) → Int → Prop) (mu189 : (List (List Int)) → Int → Nat), I188 xs4 ((b.length : Int) - 1) ∧ ∀ (xs6 : List (List Int)) (j2 : Int), I188 xs6 j2 → (if decide (j2 ≥ 0) then ((0 : Int) ≤ i2 ∧ i2 < (a.length : Int)) ∧ ((0 : Int) ≤ j2 ∧ j2 < (b.length : Int)) ∧ (if eqPt (nth a i2) (nth b j2) then ((0 : Int) ≤ i2 ∧ i2 < (xs6.length : Int)) ∧ (I64 (i2 + 1)) ∧ ((0 : Int) ≤ i2 + 1 ∧ i2 + 1 < (xs6.length : Int)) ∧ (I64 (j2 + 1)) ∧ ((0 : Int) ≤ j2 + 1 ∧ j2 + 1 < ((nth xs6 (i2 + 1)).length : Int)) ∧ (I64 ((nth (nth xs6 (i2 + 1)) (j2 + 1)) + 1)) ∧ ((0 : Int) ≤ j2 ∧ j2 < ((nth xs6 i2).length : Int)) ∧ (I64 (j2 - 1)) ∧ I188 (xs6.set i2.toNat ((nth xs6 i2).set j2.toNat ((nth (nth xs6 (i2 + 1)) (j2 + 1)) + 1))) (j2 - 1) ∧ mu189 (xs6.set i2.toNat ((nth xs6 i2).set j2.toNat ((nth (nth xs6 (i2 + 1)) (j2 + 1)) + 1))) (j2 - 1) < mu189 xs6 j2 else ((0 : Int) ≤ i2 ∧ i2 < (xs6.length : Int)) ∧ (I64 (i2 + 1)) ∧ ((0 : Int) ≤ i2 + 1 ∧ i2 + 1 < (xs6.length : Int)) ∧ ((0 : Int) ≤ j2 ∧ j2 < ((nth xs6 (i2 + 1)).length : Int)) ∧ ((0 : Int) ≤ i2 ∧ i2 < (xs6.length : Int)) ∧ (I64 (j2 + 1)) ∧ ((0 : Int) ≤ j2 + 1 ∧ j2 + 1 < ((nth xs6 i2).length : Int)) ∧ ((0 : Int) ≤ j2 ∧ j2 < ((nth xs6 i2).length : Int)) ∧ (I64 (j2 - 1)) ∧ I188 (xs6.set i2.toNat ((nth xs6 i2).set j2.toNat (max (nth (nth xs6 (i2 + 1)) j2) (nth (nth xs6 i2) (j2 + 1))))) (j2 - 1) ∧ mu189 (xs6.set i2.toNat ((nth xs6 i2).set j2.toNat (max (nth (nth xs6 (i2 + 1)) j2) (nth (nth xs6 i2) (j2 + 1))))) (j2 - 1) < mu189 xs6 j2) else (I64 (i2 - 1)) ∧ I146 xs6 (i2 - 1) ∧ mu147 xs6 (i2 - 1) < mu147 xs4 i2)) else Q xs4))))
set_option maxHeartbeats 8000000 in
set_option maxRecDepth 100000 in
theorem impl_lengths.calls {O : Ob} (w0 : World) (hO : Ok w0 O) (a : List Pt) (A1 : Option Addr) (n2 c3 : Nat) (hp4 : Sl kPt w0 (Fr O) (.slice A1 n2 c3) a) (b : List Pt) (A6 : Option Addr) (n7 c8 : Nat) (hp9 : Sl kPt w0 (Fr O) (.slice A6 n7 c8) b) (Q : List (List Int) → Prop) (h : impl_lengths.E a b Q) :
    Ret Try.prog 48 [.slice A1 n2 c3, .slice A6 n7 c8] w0 (fun v w' => ∃ (r0 : List (List Int)) (A0 : Option Addr) (n0 c0 : Nat), v = .slice A0 n0 c0 ∧ Q r0 ∧ Gr w0 w' none ∧ Sl (Kd.sl (Kd.int .i64)) w' (Fr O) (.slice A0 n0 c0) r0) := by
  have H : ((a.length : Int) ≤ 9223372036854775807 → I64 ((a.length : Int) + 1)) ∧ ((0 : Int) ≤ (a.length : Int) + 1 ∧ (a.length : Int) + 1 ≤ (268435456 : Int)) ∧ (∃ (I59 : (List (List Int)) → Int → Prop) (mu60 : (List (List Int)) → Int → Nat), I59 (List.replicate ((a.length : Int) + 1).toNat ([] : List Int)) 0 ∧ ∀ (xs2 : List (List Int)) (v2 : Int), I59 xs2 v2 → (if decide (v2 < ((List.replicate ((a.length : Int) + 1).toNat ([] : List Int)).length : Int)) then ((b.length : Int) ≤ 9223372036854775807 → I64 ((b.length : Int) + 1)) ∧ ((0 : Int) ≤ (b.length : Int) + 1 ∧ (b.length : Int) + 1 ≤ (268435456 : Int)) ∧ ((0 : Int) ≤ v2 ∧ v2 < (xs2.length : Int)) ∧ ((b.length : Int) ≤ 9223372036854775807 → I64 (v2 + 1)) ∧ I59 (xs2.set v2.toNat (List.replicate ((b.length : Int) + 1).toNat (0 : Int))) (v2 + 1) ∧ mu60 (xs2.set v2.toNat (List.replicate ((b.length : Int) + 1).toNat (0 : Int))) (v2 + 1) < mu60 xs2 v2 else ((a.length : Int) ≤ 9223372036854775807 → I64 ((a.length : Int) - 1)) ∧ (∃ (I146 : (List (List Int)) → Int → Prop) (mu147 : (List (List Int)) → Int → Nat), I146 xs2 ((a.length : Int) - 1) ∧ ∀ (xs4 : List (List Int)) (i2 : Int), I146 xs4 i2 → (if decide (i2 ≥ 0) then ((b.length : Int) ≤ 9223372036854775807 → I64 ((b.length : Int) - 1)) ∧ (∃ (I188 : (List (List Int)) → Int → Prop) (mu189 : (List (List Int)) → Int → Nat), I188 xs4 ((b.length : Int) - 1) ∧ ∀ (xs6 : List (List Int)) (j2 : Int), I188 xs6 j2 → (if decide (j2 ≥ 0) then ((0 : Int) ≤ i2 ∧ i2 < (a.length : Int)) ∧ ((0 : Int) ≤ j2 ∧ j2 < (b.length : Int)) ∧ (if eqPt (nth a i2) (nth b j2) then ((0 : Int) ≤ i2 ∧ i2 < (xs6.length : Int)) ∧ (I64 (i2 + 1)) ∧ ((0 : Int) ≤ i2 + 1 ∧ i2 + 1 < (xs6.length : Int)) ∧ (I64 (j2 + 1)) ∧ ((0 : Int) ≤ j2 + 1 ∧ j2 + 1 < ((nth xs6 (i2 + 1)).length : Int)) ∧ (I64 ((nth (nth xs6 (i2 + 1)) (j2 + 1)) + 1)) ∧ ((0 : Int) ≤ j2 ∧ j2 < ((nth xs6 i2).length : Int)) ∧ (I64 (j2 - 1)) ∧ I188 (xs6.set i2.toNat ((nth xs6 i2).set j2.toNat ((nth (nth xs6 (i2 + 1)) (j2 + 1)) + 1))) (j2 - 1) ∧ mu189 (xs6.set i2.toNat ((nth xs6 i2).set j2.toNat ((nth (nth xs6 (i2 + 1)) (j2 + 1)) + 1))) (j2 - 1) < mu189 xs6 j2 else ((0 : Int) ≤ i2 ∧ i2 < (xs6.length : Int)) ∧ (I64 (i2 + 1)) ∧ ((0 : Int) ≤ i2 + 1 ∧ i2 + 1 < (xs6.length : Int)) ∧ ((0 : Int) ≤ j2 ∧ j2 < ((nth xs6 (i2 + 1)).length : Int)) ∧ ((0 : Int) ≤ i2 ∧ i2 < (xs6.length : Int)) ∧ (I64 (j2 + 1)) ∧ ((0 : Int) ≤ j2 + 1 ∧ j2 + 1 < ((nth xs6 i2).length : Int)) ∧ ((0 : Int) ≤ j2 ∧ j2 < ((nth xs6 i2).length : Int)) ∧ (I64 (j2 - 1)) ∧ I188 (xs6.set i2.toNat ((nth xs6 i2).set j2.toNat (max (nth (nth xs6 (i2 + 1)) j2) (nth (nth xs6 i2) (j2 + 1))))) (j2 - 1) ∧ mu189 (xs6.set i2.toNat ((nth xs6 i2).set j2.toNat (max (nth (nth xs6 (i2 + 1)) j2) (nth (nth xs6 i2) (j2 + 1))))) (j2 - 1) < mu189 xs6 j2) else (I64 (i2 - 1)) ∧ I146 xs6 (i2 - 1) ∧ mu147 xs6 (i2 - 1) < mu147 xs4 i2)) else Q xs4)))) := h
  clear h
  have hc0 := Ct.init hO
  refine Ret_enter Try.func48 rfl 89 rfl [.tmp 4] rfl rfl ?_
  refine W_seq ?_
  refine W_reg ?_
  refine L_pu (P_assign (.slice none 0 0) rfl) ?_
  refine L_nil ?_
  refine W_seq ?_
  refine W_reg ?_
  refine L_pu (P_move (.slice A1 n2 c3) rfl) ?_
  have hl11 := hp4.le
  refine L_pu (P_len Try.underlying33 A1 n2 c3 hp4.len rfl) ?_
  obtain ⟨hb12, H⟩ := H
  have hi13 := hb12 (len_le hl11)
  refine L_pu (P_add (a.length : Int) 1 rfl rfl hi13) ?_
  obtain ⟨hb14, H⟩ := H
  refine L_make (kd := Kd.raw) ei66 hc0 (.slice none 0 0 : Value) ⟨rfl, rfl⟩ ((a.length : Int) + 1) rfl rfl hb14 fun w15 A16 n17 c18 g19 hr20 hc21 h22 => ?_
  have h25 : Tb (Kd.int .i64) 65 3 w15 _ _ _ (List.replicate ((a.length : Int) + 1).toNat []) := h22.nones
  have hc24 := hc21.nones ((a.length : Int) + 1).toNat
  refine L_pu (P_assign (.slice A16 n17 c18) rfl) ?_
  refine L_nil ?_
  refine W_seq ?_
  refine W_seq ?_
  refine W_reg ?_
  refine L_pu (P_move (.slice A16 n17 c18) rfl) ?_
  have hl26 := h25.le
  refine L_pu (P_len Try.underlying66 A16 n17 c18 h25.len rfl) ?_
  refine L_pu (P_move (vi 0) rfl) ?_
  refine L_nil ?_
  refine W_block ?_
  obtain ⟨I59, mu60, hI61, H⟩ := H
  refine W_loop (α := (List (List Int)) × (List Value) × Int) (fun (s : (List (List Int)) × (List Value) × Int) t w47 => match s with | (xs2, vs54, v2) => I59 xs2 v2 ∧ Has t [(0, .slice A1 n2 c3), (1, .slice A6 n7 c8), (5, .slice A16 n17 c18), (14, vi ((List.replicate ((a.length : Int) + 1).toNat ([] : List Int)).length : Int)), (15, vi v2)] ∧ Ct none w0 w47 (blk (.slice A16 n17 c18) :: (vs54).map blk) O ∧ Sl kPt w47 (Fr ((blk (.slice A16 n17 c18) :: (vs54).map blk) ++ O)) (.slice A1 n2 c3) a ∧ Sl kPt w47 (Fr ((blk (.slice A16 n17 c18) :: (vs54).map blk) ++ O)) (.slice A6 n7 c8) b ∧ Tb (Kd.int .i64) 65 3 w47 ((blk (.slice A16 n17 c18) :: (vs54).map blk) ++ O) (.slice A16 n17 c18) vs54 xs2) (fun (s : (List (List Int)) × (List Value) × Int) => match s with | (xs2, _, v2) => mu60 xs2 v2) ((List.replicate ((a.length : Int) + 1).toNat ([] : List Int)), (List.replicate ((a.length : Int) + 1).toNat (Value.slice none 0 0)), 0) ⟨hI61, ⟨rfl, rfl, rfl, rfl, rfl, trivial⟩, hc24, (hp4.st hc24.st), (hp9.st hc24.st), h25⟩ ?_
  rintro ⟨xs2, vs54, v2⟩ _ w47 ⟨hI61, hh63, hc55, h56, h57, h58⟩
  obtain ⟨u64, rfl⟩ := Has.ins hh63
  have H := H xs2 v2 hI61
  refine W_seq ?_
  refine W_reg ?_
  refine L_pu (P_cmp v2 ((List.replicate ((a.length : Int) + 1).toNat ([] : List Int)).length : Int) (decide (v2 < ((List.replicate ((a.length : Int) + 1).toNat ([] : List Int)).length : Int))) rfl rfl rfl) ?_
  refine L_nil ?_
  refine W_seq ?_
  refine W_cond (decide (v2 < ((List.replicate ((a.length : Int) + 1).toNat ([] : List Int)).length : Int))) rfl (fun hq65 => ?_) (fun hq65 => ?_)
  · have H := ite_t H hq65
    refine W_skip ?_
    refine W_seq ?_
    refine W_block ?_
    refine W_seq ?_
    refine W_reg ?_
    refine L_pu (P_move (vi v2) rfl) ?_
    refine L_pu (P_assign (vi v2) rfl) ?_
    refine L_nil ?_
    refine W_reg ?_
    refine L_pu (P_move (.slice A16 n17 c18) rfl) ?_
    refine L_pu (P_move (vi v2) rfl) ?_
    refine L_pu (P_move (.slice A6 n7 c8) rfl) ?_
    have hl66 := h57.le
    refine L_pu (P_len Try.underlying33 A6 n7 c8 h57.len rfl) ?_
    obtain ⟨hb67, H⟩ := H
    have hi68 := hb67 (len_le hl66)
    refine L_pu (P_add (b.length : Int) 1 rfl rfl hi68) ?_
    obtain ⟨hb69, H⟩ := H
    refine L_make (kd := (Kd.int .i64)) ei65 hc55 (0 : Int) (rfl) ((b.length : Int) + 1) rfl rfl hb69 fun w70 A71 n72 c73 g74 hr75 hc76 h77 => ?_
    obtain ⟨hb79, H⟩ := H
    have h91 := (h58.own _ g74 hr75)
    obtain ⟨ad80, A86, n87, c88, hA82, hv89, hcl84, h90⟩ := h91.get v2 hb79
    refine L_pu (P_ia Try.underlying66 se66 A16 ad80 n17 c18 h91.len v2 rfl hA82 rfl hb79) ?_
    have hl95 : (0 : Int) ≤ v2 ∧ v2 < ((vs54).length : Int) := by rw [h91.2.1]; exact hb79
    obtain ⟨ad98, cs99, hA100, hR101, hcl97⟩ := h91.1.get (default : Value) (by decide) v2 hl95
    obtain rfl := Option.some.inj (hA82.symm.trans hA100)
    refine L_ste0 A16 n17 c18 vs54 h91.1 v2 hl95 ad80 hA82 0 rfl [.slice A71 n72 c73] rfl sz65 rfl (.slice A71 n72 c73) _ [.slice A71 n72 c73] hcl97 (by rw [hR101.1]; rfl) (by rw [hR101.1]; rfl) ⟨rfl, rfl⟩ fun w92 g93 h94 => ?_
    have h102 := Tb.sto (O := O) h91 hc76 h77 v2 hb79 g93 h94
    have hc103 := Ct.sto hc76 v2 hl95 g93
    have s104 := St.sto (u := (.slice A71 n72 c73)) (vs := vs54) (O := O) v2 g93
    refine L_nil ?_
    refine W_reg ?_
    obtain ⟨hb105, H⟩ := H
    have hi106 := hb105 (len_le hl66)
    refine L_pu (P_add v2 1 rfl rfl hi106) ?_
    refine L_pu (P_move (vi (v2 + 1)) rfl) ?_
    refine L_nil ?_
    obtain ⟨hI107, hm108⟩ := H
    have h109 := ((h56.st (.own _ _ g74 hr75)).st s104)
    have h110 := ((h57.st (.own _ _ g74 hr75)).st s104)
    exact ⟨((xs2.set v2.toNat (List.replicate ((b.length : Int) + 1).toNat (0 : Int))), (vs54.set v2.toNat (.slice A71 n72 c73)), v2 + 1), hm108, hI107, ⟨rfl, rfl, rfl, rfl, rfl, trivial⟩, hc103, h109, h110, h102⟩
  · have H := ite_f H hq65
    refine W_exit (xin_hit ?_)
    refine W_seq ?_
    refine W_seq ?_
    refine W_reg ?_
    refine L_pu (P_move (.slice A1 n2 c3) rfl) ?_
    have hl111 := h56.le
    refine L_pu (P_len Try.underlying33 A1 n2 c3 h56.len rfl) ?_
    obtain ⟨hb112, H⟩ := H
    have hi113 := hb112 (len_le hl111)
    refine L_pu (P_sub (a.length : Int) 1 rfl rfl hi113) ?_
    refine L_pu (P_assign (vi ((a.length : Int) - 1)) rfl) ?_
    refine L_nil ?_
    refine W_block ?_
    obtain ⟨I146, mu147, hI148, H⟩ := H
    refine W_loop (α := (List (List Int)) × (List Value) × (Option Addr) × Nat × Nat × Int) (fun (s : (List (List Int)) × (List Value) × (Option Addr) × Nat × Nat × Int) t w134 => match s with | (xs4, vs141, A137, n138, c139, i2) => I146 xs4 i2 ∧ Has t [(0, .slice A1 n2 c3), (1, .slice A6 n7 c8), (5, .slice A137 n138 c139), (7, vi i2)] ∧ Ct none w0 w134 (blk (.slice A137 n138 c139) :: (vs141).map blk) O ∧ Sl kPt w134 (Fr ((blk (.slice A137 n138 c139) :: (vs141).map blk) ++ O)) (.slice A1 n2 c3) a ∧ Sl kPt w134 (Fr ((blk (.slice A137 n138 c139) :: (vs141).map blk) ++ O)) (.slice A6 n7 c8) b ∧ Tb (Kd.int .i64) 65 3 w134 ((blk (.slice A137 n138 c139) :: (vs141).map blk) ++ O) (.slice A137 n138 c139) vs141 xs4) (fun (s : (List (List Int)) × (List Value) × (Option Addr) × Nat × Nat × Int) => match s with | (xs4, _, _, _, _, i2) => mu147 xs4 i2) (xs2, vs54, A16, n17, c18, (a.length : Int) - 1) ⟨hI148, ⟨rfl, rfl, rfl, rfl, trivial⟩, hc55, h56, h57, h58⟩ ?_
    rintro ⟨xs4, vs141, A137, n138, c139, i2⟩ _ w134 ⟨hI148, hh150, hc142, h143, h144, h145⟩
    obtain ⟨u151, rfl⟩ := Has.ins hh150
    have H := H xs4 i2 hI148
    refine W_seq ?_
    refine W_seq ?_
    refine W_reg ?_
    refine L_pu (P_move (vi i2) rfl) ?_
    refine L_pu (P_cmp i2 0 (decide (i2 ≥ 0)) rfl rfl rfl) ?_
    refine L_nil ?_
    refine W_cond (decide (i2 ≥ 0)) rfl (fun hq152 => ?_) (fun hq152 => ?_)
    · have H := ite_t H hq152
      refine W_skip ?_
      refine W_seq ?_
      refine W_block ?_
      refine W_seq ?_
      refine W_reg ?_
      refine L_pu (P_move (.slice A6 n7 c8) rfl) ?_
      have hl153 := h144.le
      refine L_pu (P_len Try.underlying33 A6 n7 c8 h144.len rfl) ?_
      obtain ⟨hb154, H⟩ := H
      have hi155 := hb154 (len_le hl153)
      refine L_pu (P_sub (b.length : Int) 1 rfl rfl hi155) ?_
      refine L_pu (P_assign (vi ((b.length : Int) - 1)) rfl) ?_
      refine L_nil ?_
      refine W_block ?_
      obtain ⟨I188, mu189, hI190, H⟩ := H
      refine W_loop (α := (List (List Int)) × (List Value) × Int) (fun (s : (List (List Int)) × (List Value) × Int) t w176 => match s with | (xs6, vs183, j2) => I188 xs6 j2 ∧ Has t [(0, .slice A1 n2 c3), (1, .slice A6 n7 c8), (5, .slice A137 n138 c139), (7, vi i2), (8, vi j2)] ∧ Ct none w0 w176 (blk (.slice A137 n138 c139) :: (vs183).map blk) O ∧ Sl kPt w176 (Fr ((blk (.slice A137 n138 c139) :: (vs183).map blk) ++ O)) (.slice A1 n2 c3) a ∧ Sl kPt w176 (Fr ((blk (.slice A137 n138 c139) :: (vs183).map blk) ++ O)) (.slice A6 n7 c8) b ∧ Tb (Kd.int .i64) 65 3 w176 ((blk (.slice A137 n138 c139) :: (vs183).map blk) ++ O) (.slice A137 n138 c139) vs183 xs6) (fun (s : (List (List Int)) × (List Value) × Int) => match s with | (xs6, _, j2) => mu189 xs6 j2) (xs4, vs141, (b.length : Int) - 1) ⟨hI190, ⟨rfl, rfl, rfl, rfl, rfl, trivial⟩, hc142, h143, h144, h145⟩ ?_
      rintro ⟨xs6, vs183, j2⟩ _ w176 ⟨hI190, hh192, hc184, h185, h186, h187⟩
      obtain ⟨u193, rfl⟩ := Has.ins hh192
      have H := H xs6 j2 hI190
      refine W_seq ?_
      refine W_seq ?_
      refine W_reg ?_
      refine L_pu (P_move (vi j2) rfl) ?_
      refine L_pu (P_cmp j2 0 (decide (j2 ≥ 0)) rfl rfl rfl) ?_
      refine L_nil ?_
      refine W_cond (decide (j2 ≥ 0)) rfl (fun hq194 => ?_) (fun hq194 => ?_)
      · have H := ite_t H hq194
        refine W_skip ?_
        refine W_seq ?_
        refine W_block ?_
        refine W_seq ?_
        refine W_draw (fun x => Gr w176 x none) (by kernel_rfl) (by kernel_rfl) (Gr.drew _) ?_
        refine Q_pu (P_move (.slice A1 n2 c3) rfl) ?_
        refine Q_pu (P_move (vi i2) rfl) ?_
        obtain ⟨hb195, H⟩ := H
        obtain ⟨ad196, cs197, hA198, hS201, hR199, hcl200⟩ := h185.get default (by decide) i2 hb195
        obtain rfl := kPt.op hR199
        refine Q_pu (P_ia Try.underlying33 se33 A1 ad196 n2 c3 h185.len i2 rfl hA198 rfl hb195) ?_
        refine Q_pu (P_lda ag41 sz41 cQ (ad196.add (i2.toNat * 2)) [vi ((nth a i2).X), vi ((nth a i2).Y)] rfl rfl hcl200) ?_
        refine Q_pu (P_move (.slice A6 n7 c8) rfl) ?_
        refine Q_pu (P_move (vi j2) rfl) ?_
        obtain ⟨hb202, H⟩ := H
        obtain ⟨ad203, cs204, hA205, hS208, hR206, hcl207⟩ := h186.get default (by decide) j2 hb202
        obtain rfl := kPt.op hR206
        refine Q_pu (P_ia Try.underlying33 se33 A6 ad203 n7 c8 h186.len j2 rfl hA205 rfl hb202) ?_
        refine Q_pu (P_lda ag41 sz41 cQ (ad203.add (j2.toNat * 2)) [vi ((nth b j2).X), vi ((nth b j2).Y)] rfl rfl hcl207) ?_
        refine Q_pu (P_eq _ _ (eqPt (nth a i2) (nth b j2)) (qt41 (nth a i2) (nth b j2)) rfl rfl) ?_
        refine Q_nil fun w209 g210 => ?_
        have hc212 := hc184.k0 g210
        refine W_cond (eqPt (nth a i2) (nth b j2)) rfl (fun hq213 => ?_) (fun hq213 => ?_)
        · have H := ite_t H hq213
          refine W_tail 16 (by kernel_rfl) (by kernel_rfl) fun w214 g215 => ?_
          have hc216 := hc212.k0 g215
          refine S_pu (P_move (.slice A137 n138 c139) rfl) ?_
          refine S_pu (P_move (vi i2) rfl) ?_
          obtain ⟨hb217, H⟩ := H
          have h229 := ((h187.k0 g210).k0 g215)
          obtain ⟨ad218, A224, n225, c226, hA220, hv227, hcl222, h228⟩ := h229.get i2 hb217
          refine S_pu (P_ia Try.underlying66 se66 A137 ad218 n138 c139 h229.len i2 rfl hA220 rfl hb217) ?_
          refine S_pu (P_ld ag65 cL (ad218.add (i2.toNat * 1)) (.slice A224 n225 c226) rfl (hcl222 0 _ rfl)) ?_
          refine S_pu (P_move (vi j2) rfl) ?_
          refine S_pu (P_move (.slice A137 n138 c139) rfl) ?_
          refine S_pu (P_move (vi i2) rfl) ?_
          obtain ⟨hb230, H⟩ := H
          refine S_pu (P_add i2 1 rfl rfl hb230) ?_
          obtain ⟨hb231, H⟩ := H
          obtain ⟨ad232, A238, n239, c240, hA234, hv241, hcl236, h242⟩ := h229.get (i2 + 1) hb231
          refine S_pu (P_ia Try.underlying66 se66 A137 ad232 n138 c139 h229.len (i2 + 1) rfl hA234 rfl hb231) ?_
          refine S_pu (P_ld ag65 cL (ad232.add ((i2 + 1).toNat * 1)) (.slice A238 n239 c240) rfl (hcl236 0 _ rfl)) ?_
          refine S_pu (P_move (vi j2) rfl) ?_
          obtain ⟨hb243, H⟩ := H
          refine S_pu (P_add j2 1 rfl rfl hb243) ?_
          obtain ⟨hb244, H⟩ := H
          obtain ⟨ad245, cs246, hA247, hR248, hcl249⟩ := h242.get default (by decide) (j2 + 1) hb244
          obtain rfl := Kd.int.op hR248
          refine S_pu (P_ia Try.underlying65 se65 A238 ad245 n239 c240 h242.len (j2 + 1) rfl hA247 rfl hb244) ?_
          refine S_pu (P_ld ag3 cL (ad245.add ((j2 + 1).toNat * 1)) (vi (nth (nth xs6 (i2 + 1)) (j2 + 1))) rfl (hcl249 0 _ rfl)) ?_
          obtain ⟨hb251, H⟩ := H
          refine S_pu (P_add (nth (nth xs6 (i2 + 1)) (j2 + 1)) 1 rfl rfl hb251) ?_
          obtain ⟨hb252, H⟩ := H
          obtain ⟨ad253, cs254, hA255, hR256, hcl257⟩ := h228.get default (by decide) j2 hb252
          obtain rfl := Kd.int.op hR256
          refine S_pu (P_ia Try.underlying65 se65 A224 ad253 n225 c226 h228.len j2 rfl hA255 rfl hb252) ?_
          refine S_nil ?_
          refine L_ste0 A224 n225 c226 (nth xs6 i2) h228 j2 hb252 ad253 hA255 0 rfl [vi ((nth (nth xs6 (i2 + 1)) (j2 + 1)) + 1)] rfl sz3 rfl ((nth (nth xs6 (i2 + 1)) (j2 + 1)) + 1) [vi (nth (nth xs6 i2) j2)] [vi ((nth (nth xs6 (i2 + 1)) (j2 + 1)) + 1)] hcl257 rfl rfl rfl fun w259 g260 h261 => ?_
          have h262 := Tb.ste (O := O) h229 hc216 hv227 g260 h261
          have hc263 := Ct.tb hc216 hv227 g260
          have s264 := St.tb (v := .slice A137 n138 c139) (O := O) ⟨_, hv227⟩ g260
          refine L_nil ?_
          refine W_reg ?_
          refine L_pu (P_move (vi j2) rfl) ?_
          obtain ⟨hb265, H⟩ := H
          refine L_pu (P_sub j2 1 rfl rfl hb265) ?_
          refine L_pu (P_assign (vi (j2 - 1)) rfl) ?_
          refine L_nil ?_
          obtain ⟨hI266, hm267⟩ := H
          have h268 := (((h185.st (.new _ g210)).st (.new _ g215)).st s264)
          have h269 := (((h186.st (.new _ g210)).st (.new _ g215)).st s264)
          exact ⟨((xs6.set i2.toNat ((nth xs6 i2).set j2.toNat ((nth (nth xs6 (i2 + 1)) (j2 + 1)) + 1))), vs183, j2 - 1), hm267, hI266, ⟨rfl, rfl, rfl, rfl, rfl, trivial⟩, hc263, h268, h269, h262⟩
        · have H := ite_f H hq213
          refine W_tail 23 (by kernel_rfl) (by kernel_rfl) fun w270 g271 => ?_
          have hc272 := hc212.k0 g271
          refine S_pu (P_move (.slice A137 n138 c139) rfl) ?_
          refine S_pu (P_move (vi i2) rfl) ?_
          obtain ⟨hb273, H⟩ := H
          have h285 := ((h187.k0 g210).k0 g271)
          obtain ⟨ad274, A280, n281, c282, hA276, hv283, hcl278, h284⟩ := h285.get i2 hb273
          refine S_pu (P_ia Try.underlying66 se66 A137 ad274 n138 c139 h285.len i2 rfl hA276 rfl hb273) ?_
          refine S_pu (P_ld ag65 cL (ad274.add (i2.toNat * 1)) (.slice A280 n281 c282) rfl (hcl278 0 _ rfl)) ?_
          refine S_pu (P_move (vi j2) rfl) ?_
          refine S_pu (P_move (.slice A137 n138 c139) rfl) ?_
          refine S_pu (P_move (vi i2) rfl) ?_
          obtain ⟨hb286, H⟩ := H
          refine S_pu (P_add i2 1 rfl rfl hb286) ?_
          obtain ⟨hb287, H⟩ := H
          obtain ⟨ad288, A294, n295, c296, hA290, hv297, hcl292, h298⟩ := h285.get (i2 + 1) hb287
          refine S_pu (P_ia Try.underlying66 se66 A137 ad288 n138 c139 h285.len (i2 + 1) rfl hA290 rfl hb287) ?_
          refine S_pu (P_ld ag65 cL (ad288.add ((i2 + 1).toNat * 1)) (.slice A294 n295 c296) rfl (hcl292 0 _ rfl)) ?_
          refine S_pu (P_move (vi j2) rfl) ?_
          obtain ⟨hb299, H⟩ := H
          obtain ⟨ad300, cs301, hA302, hR303, hcl304⟩ := h298.get default (by decide) j2 hb299
          obtain rfl := Kd.int.op hR303
          refine S_pu (P_ia Try.underlying65 se65 A294 ad300 n295 c296 h298.len j2 rfl hA302 rfl hb299) ?_
          refine S_pu (P_ld ag3 cL (ad300.add (j2.toNat * 1)) (vi (nth (nth xs6 (i2 + 1)) j2)) rfl (hcl304 0 _ rfl)) ?_
          refine S_pu (P_move (.slice A137 n138 c139) rfl) ?_
          refine S_pu (P_move (vi i2) rfl) ?_
          obtain ⟨hb306, H⟩ := H
          obtain ⟨ad307, A313, n314, c315, hA309, hv316, hcl311, h317⟩ := h285.get i2 hb306
          refine S_pu (P_ia Try.underlying66 se66 A137 ad307 n138 c139 h285.len i2 rfl hA309 rfl hb306) ?_
          refine S_pu (P_ld ag65 cL (ad307.add (i2.toNat * 1)) (.slice A313 n314 c315) rfl (hcl311 0 _ rfl)) ?_
          refine S_pu (P_move (vi j2) rfl) ?_
          obtain ⟨hb318, H⟩ := H
          refine S_pu (P_add j2 1 rfl rfl hb318) ?_
          obtain ⟨hb319, H⟩ := H
          obtain ⟨ad320, cs321, hA322, hR323, hcl324⟩ := h317.get default (by decide) (j2 + 1) hb319
          obtain rfl := Kd.int.op hR323
          refine S_pu (P_ia Try.underlying65 se65 A313 ad320 n314 c315 h317.len (j2 + 1) rfl hA322 rfl hb319) ?_
          refine S_pu (P_ld ag3 cL (ad320.add ((j2 + 1).toNat * 1)) (vi (nth (nth xs6 i2) (j2 + 1))) rfl (hcl324 0 _ rfl)) ?_
          refine S_pu (P_max (nth (nth xs6 (i2 + 1)) j2) (nth (nth xs6 i2) (j2 + 1)) rfl rfl) ?_
          obtain ⟨hb326, H⟩ := H
          obtain ⟨ad327, cs328, hA329, hR330, hcl331⟩ := h284.get default (by decide) j2 hb326
          obtain rfl := Kd.int.op hR330
          refine S_pu (P_ia Try.underlying65 se65 A280 ad327 n281 c282 h284.len j2 rfl hA329 rfl hb326) ?_
          refine S_nil ?_
          refine L_ste0 A280 n281 c282 (nth xs6 i2) h284 j2 hb326 ad327 hA329 0 rfl [vi (max (nth (nth xs6 (i2 + 1)) j2) (nth (nth xs6 i2) (j2 + 1)))] rfl sz3 rfl (max (nth (nth xs6 (i2 + 1)) j2) (nth (nth xs6 i2) (j2 + 1))) [vi (nth (nth xs6 i2) j2)] [vi (max (nth (nth xs6 (i2 + 1)) j2) (nth (nth xs6 i2) (j2 + 1)))] hcl331 rfl rfl rfl fun w333 g334 h335 => ?_
          have h336 := Tb.ste (O := O) h285 hc272 hv283 g334 h335
          have hc337 := Ct.tb hc272 hv283 g334
          have s338 := St.tb (v := .slice A137 n138 c139) (O := O) ⟨_, hv283⟩ g334
          refine L_nil ?_
          refine W_reg ?_
          refine L_pu (P_move (vi j2) rfl) ?_
          obtain ⟨hb339, H⟩ := H
          refine L_pu (P_sub j2 1 rfl rfl hb339) ?_
          refine L_pu (P_assign (vi (j2 - 1)) rfl) ?_
          refine L_nil ?_
          obtain ⟨hI340, hm341⟩ := H
          have h342 := (((h185.st (.new _ g210)).st (.new _ g271)).st s338)
          have h343 := (((h186.st (.new _ g210)).st (.new _ g271)).st s338)
          exact ⟨((xs6.set i2.toNat ((nth xs6 i2).set j2.toNat (max (nth (nth xs6 (i2 + 1)) j2) (nth (nth xs6 i2) (j2 + 1))))), vs183, j2 - 1), hm341, hI340, ⟨rfl, rfl, rfl, rfl, rfl, trivial⟩, hc337, h342, h343, h336⟩
      · have H := ite_f H hq194
        refine W_exit (xin_hit ?_)
        refine W_reg ?_
        refine L_pu (P_move (vi i2) rfl) ?_
        obtain ⟨hb344, H⟩ := H
        refine L_pu (P_sub i2 1 rfl rfl hb344) ?_
        refine L_pu (P_assign (vi (i2 - 1)) rfl) ?_
        refine L_nil ?_
        obtain ⟨hI345, hm346⟩ := H
        exact ⟨(xs6, vs183, A137, n138, c139, i2 - 1), hm346, hI345, ⟨rfl, rfl, rfl, rfl, trivial⟩, hc184, h185, h186, h187⟩
    · have H := ite_f H hq152
      refine W_exit (xin_hit ?_)
      refine W_seq ?_
      refine W_reg ?_
      refine L_pu (P_move (.slice A137 n138 c139) rfl) ?_
      refine L_pu (P_assign (.slice A137 n138 c139) rfl) ?_
      refine L_nil ?_
      refine W_ret ?_
      have h347 := h145.sl hc142
      have hc348 := hc142.clear
      exact ⟨[.slice A137 n138 c139], ⟨_, rfl, rfl⟩, xs4, A137, n138, c139, rfl, H, hc348.gr, h347⟩
end Go.Proofs.Ytnliofcjplnboaa

namespace Go.Proofs.Ytnliofcjplnboaa
set_option linter.unusedVariables false
set_option linter.unusedSimpArgs false
theorem impl_lengths.law (a b : List Pt) (Q : List (List Int) → Prop) (ha : a.length ≤ 1048576) (hb : b.length ≤ 1048576) (hq : ∀ t, Tab a b (fun _ _ => True) t → Q t) : impl_lengths.E a b Q := by
  unfold impl_lengths.E
  have hn : ((b.length : Int) + 1).toNat = b.length + 1 := by omega
  have hm : ((a.length : Int) + 1).toNat = a.length + 1 := by omega
  rw [hn, hm]
  refine ⟨fun _ => by unfold I64; omega, by omega, fun xs v => ∃ k : Nat, v = k ∧ k ≤ a.length + 1 ∧ xs.length = a.length + 1 ∧ ∀ r : Nat, r < k → nth xs (r : Int) = List.replicate (b.length + 1) 0, fun _ v => (a.length + 1 - v).toNat,
    ⟨0, rfl, Nat.zero_le _, by simp, fun r hr => absurd hr (Nat.not_lt_zero _)⟩, ?_⟩
  rintro xs _ ⟨k, rfl, hk, hl, hx⟩
  rw [List.length_replicate]
  by_cases hk0 : (k : Int) < ((a.length + 1 : Nat) : Int)
  · rw [if_pos (by simpa using hk0)]
    refine ⟨fun _ => by unfold I64; omega, by omega, by omega, fun _ => by unfold I64; omega, ⟨k + 1, by omega, by omega, by rw [List.length_set]; exact hl, fun r hr => ?_⟩, by dsimp only; omega⟩
    rw [Int.toNat_natCast, nth_set _ (by omega)]
    by_cases e : r = k
    · rw [if_pos e]
    · rw [if_neg e]; exact hx r (by omega)
  rw [if_neg (by simpa using hk0)]
  refine ⟨fun _ => by unfold I64; omega, fun xs i => ∃ k : Nat, i = (k : Int) - 1 ∧ k ≤ a.length ∧ Tab a b (fun r m => k ≤ r ∨ m = b.length) xs, fun _ i => (i + 1).toNat, ⟨a.length, rfl, Nat.le_refl _, hl, fun r hr => ?_⟩, ?_⟩
  · rw [hx r (by omega)]
    refine ⟨by simp, fun m hm hd => ?_⟩
    rw [nth_rep _ _ _ (by omega)]
    rcases hd with hd | hd
    · rw [List.drop_of_length_le (by omega : a.length ≤ r), lcs_nil]; rfl
    · rw [hd, List.drop_length, lcs_nil2]; rfl
  clear hx hl hk0 hk xs k
  rintro xs _ ⟨k, rfl, hk, ht⟩
  by_cases hk0 : (k : Int) - 1 ≥ 0
  · rw [if_pos (by simpa using hk0)]
    obtain ⟨i, rfl⟩ : ∃ i, k = i + 1 := ⟨k - 1, by omega⟩
    have ei : ((i + 1 : Nat) : Int) - 1 = (i : Int) := by omega
    have ei1 : (i : Int) + 1 = ((i + 1 : Nat) : Int) := by omega
    rw [ei]
    refine ⟨fun _ => by unfold I64; omega, fun ys j => ∃ m : Nat, j = (m : Int) - 1 ∧ m ≤ b.length ∧ Tab a b (fun r u => i < r ∨ (r = i ∧ m ≤ u) ∨ u = b.length) ys, fun _ j => (j + 1).toNat, ⟨b.length, rfl, Nat.le_refl _, ht.1, fun r hr => ⟨(ht.2 r hr).1, fun m hm hd => (ht.2 r hr).2 m hm ?_⟩⟩, ?_⟩
    · omega
    rintro ys _ ⟨m, rfl, hm, hs⟩
    by_cases hm0 : (m : Int) - 1 ≥ 0
    · rw [if_pos (by simpa using hm0)]
      obtain ⟨j, rfl⟩ : ∃ j, m = j + 1 := ⟨m - 1, by omega⟩
      have ej : ((j + 1 : Nat) : Int) - 1 = (j : Int) := by omega
      have ej1 : (j : Int) + 1 = ((j + 1 : Nat) : Int) := by omega
      rw [ej, ej1, ei1, eqPt_is]
      have hl := lcs_drop a b (i := i) (j := j) (by omega) (by omega)
      have s0 := hs.1
      have s1 := hs.2 i (by omega)
      have s2 := hs.2 (i + 1) (by omega)
      have n1 := s2.2 (j + 1) (by omega) (.inl (by omega))
      have n2 := s2.2 j (by omega) (.inl (by omega))
      have n3 := s1.2 (j + 1) (by omega) (.inr (.inl ⟨rfl, by omega⟩))
      have l1 := s1.1
      have l2 := s2.1
      have b1 := lcs_le2 (a.drop (i + 1)) (b.drop (j + 1))
      rw [List.length_drop] at b1
      have hset : ∀ v : Int, v = (lcs (a.drop i) (b.drop j) : Nat) → Tab a b (fun r u => i < r ∨ (r = i ∧ j ≤ u) ∨ u = b.length) (ys.set (i : Int).toNat ((nth ys (i : Int)).set (j : Int).toNat v)) := fun v hv => by
        rw [Int.toNat_natCast, Int.toNat_natCast]
        exact hs.set (by omega) (by omega) hv fun r u h => by omega
      refine ⟨by omega, by omega, ?_⟩
      by_cases he : nth a (i : Int) = nth b (j : Int)
      · rw [if_pos (by simpa using he)]
        rw [if_pos he] at hl
        rw [n1]
        exact ⟨by omega, by unfold I64; omega, by omega, by unfold I64; omega, by omega, by unfold I64; omega, by omega, by unfold I64; omega, ⟨j, by omega, by omega, hset _ (by omega)⟩, by dsimp only; omega⟩
      · rw [if_neg (by simpa using he)]
        rw [if_neg he] at hl
        rw [n2, n3]
        exact ⟨by omega, by unfold I64; omega, by omega, by omega, by omega, by unfold I64; omega, by omega, by omega, by unfold I64; omega, ⟨j, by omega, by omega, hset _ (by omega)⟩, by dsimp only; omega⟩
    · rw [if_neg (by simpa using hm0)]
      have : m = 0 := by omega
      subst this
      refine ⟨by unfold I64; omega, ⟨i, by omega, by omega, hs.1, fun r hr => ⟨(hs.2 r hr).1, fun m hm hd => (hs.2 r hr).2 m hm ?_⟩⟩, by dsimp only; omega⟩
      omega
  · rw [if_neg (by simpa using hk0)]
    have : k = 0 := by omega
    subst this
    exact hq _ ⟨ht.1, fun r hr => ⟨(ht.2 r hr).1, fun m hm _ => (ht.2 r hr).2 m hm (.inl (Nat.zero_le _))⟩⟩
end Go.Proofs.Ytnliofcjplnboaa

namespace Go.Proofs.Ytnliofcjplnboaa
open Go.RowKit
set_option linter.unusedVariables false
def impl_SeqPairs.E (a : List Pt) (b : List Pt) (Q : List Pair → Prop) : Prop :=
  (if decide ((a.length : Int) > 12) then Q ([] : List Pair) else (if decide ((b.length : Int) > 12) then Q ([] : List Pair) else impl_lengths.E a b (fun r => (∃ (I71 : (List Pair) → Int → Int → Prop) (mu72 : (List Pair) → Int → Int → Nat), I71 ([] : List Pair) 0 0 ∧ ∀ (xs2 : List Pair) (i2 : Int) (j2 : Int), I71 xs2 i2 j2 → (if decide (i2 < (a.length : Int)) then (if decide (j2 < (b.length : Int)) then ((0 : Int) ≤ i2 ∧ i2 < (a.length : Int)) ∧ ((0 : Int) ≤ j2 ∧ j2 < (b.length : Int)) ∧ (if eqPt (nth a i2) (nth b j2) then (xs2.length + ([(⟨i2, j2⟩ : Pair)] : List Pair).length ≤ 268435456) ∧ (-9223372036854775808 ≤ i2) ∧ (-9223372036854775808 ≤ j2) ∧ I71 (xs2 ++ ([(⟨i2, j2⟩ : Pair)] : List Pair)) (i2 + 1) (j2 + 1) ∧ mu72 (xs2 ++ ([(⟨i2, j2⟩ : Pair)] : List Pair)) (i2 + 1) (j2 + 1) < mu72 xs2 i2 j2 else (-9223372036854775808 ≤ i2) ∧ ((0 : Int) ≤ i2 + 1 ∧ i2 + 1 < (r.length : Int)) ∧ ((0 : Int) ≤ j2 ∧ j2 < ((nth r (i2 + 1)).length : Int)) ∧ ((0 : Int) ≤ i2 ∧ i2 < (r.length : Int)) ∧ (-9223372036854775808 ≤ j2) ∧ ((0 : Int) ≤ j2 + 1 ∧ j2 + 1 < ((nth r i2).length : Int)) ∧ (if decide ((nth (nth r (i2 + 1)) j2) ≥ (nth (nth r i2) (j2 + 1))) then (-9223372036854775808 ≤ i2) ∧ I71 xs2 (i2 + 1) j2 ∧ mu72 xs2 (i2 + 1) j2 < mu72 xs2 i2 j2 else (-9223372036854775808 ≤ j2) ∧ I71 xs2 i2 (j2 + 1) ∧ mu72 xs2 i2 (j2 + 1) < mu72 xs2 i2 j2)) else Q xs2) else Q xs2)))))
set_option maxHeartbeats 8000000 in
set_option maxRecDepth 100000 in
theorem impl_SeqPairs.calls {O : Ob} (w0 : World) (hO : Ok w0 O) (a : List Pt) (A1 : Option Addr) (n2 c3 : Nat) (hp4 : Sl kPt w0 (Fr O) (.slice A1 n2 c3) a) (b : List Pt) (A6 : Option Addr) (n7 c8 : Nat) (hp9 : Sl kPt w0 (Fr O) (.slice A6 n7 c8) b) (Q : List Pair → Prop) (h : impl_SeqPairs.E a b Q) :
    Ret Try.prog 29 [.slice A1 n2 c3, .slice A6 n7 c8] w0 (fun v w' => ∃ (r0 : List Pair) (A0 : Option Addr) (n0 c0 : Nat), v = .slice A0 n0 c0 ∧ Q r0 ∧ Gr w0 w' none ∧ Ok w' ([blk (.slice A0 n0 c0)] ++ O) ∧ (∀ b, some b ∈ [blk (.slice A0 n0 c0)] → w0.heap.size ≤ b) ∧ Ow kPair 46 w' ([blk (.slice A0 n0 c0)] ++ O) (.slice A0 n0 c0) r0) := by
  have H : (if decide ((a.length : Int) > 12) then Q ([] : List Pair) else (if decide ((b.length : Int) > 12) then Q ([] : List Pair) else impl_lengths.E a b (fun r => (∃ (I71 : (List Pair) → Int → Int → Prop) (mu72 : (List Pair) → Int → Int → Nat), I71 ([] : List Pair) 0 0 ∧ ∀ (xs2 : List Pair) (i2 : Int) (j2 : Int), I71 xs2 i2 j2 → (if decide (i2 < (a.length : Int)) then (if decide (j2 < (b.length : Int)) then ((0 : Int) ≤ i2 ∧ i2 < (a.length : Int)) ∧ ((0 : Int) ≤ j2 ∧ j2 < (b.length : Int)) ∧ (if eqPt (nth a i2) (nth b j2) then (xs2.length + ([(⟨i2, j2⟩ : Pair)] : List Pair).length ≤ 268435456) ∧ (-9223372036854775808 ≤ i2) ∧ (-9223372036854775808 ≤ j2) ∧ I71 (xs2 ++ ([(⟨i2, j2⟩ : Pair)] : List Pair)) (i2 + 1) (j2 + 1) ∧ mu72 (xs2 ++ ([(⟨i2, j2⟩ : Pair)] : List Pair)) (i2 + 1) (j2 + 1) < mu72 xs2 i2 j2 else (-9223372036854775808 ≤ i2) ∧ ((0 : Int) ≤ i2 + 1 ∧ i2 + 1 < (r.length : Int)) ∧ ((0 : Int) ≤ j2 ∧ j2 < ((nth r (i2 + 1)).length : Int)) ∧ ((0 : Int) ≤ i2 ∧ i2 < (r.length : Int)) ∧ (-9223372036854775808 ≤ j2) ∧ ((0 : Int) ≤ j2 + 1 ∧ j2 + 1 < ((nth r i2).length : Int)) ∧ (if decide ((nth (nth r (i2 + 1)) j2) ≥ (nth (nth r i2) (j2 + 1))) then (-9223372036854775808 ≤ i2) ∧ I71 xs2 (i2 + 1) j2 ∧ mu72 xs2 (i2 + 1) j2 < mu72 xs2 i2 j2 else (-9223372036854775808 ≤ j2) ∧ I71 xs2 i2 (j2 + 1) ∧ mu72 xs2 i2 (j2 + 1) < mu72 xs2 i2 j2)) else Q xs2) else Q xs2))))) := h
  clear h
  have hc0 := Ct.init hO
  refine Ret_enter Try.func29 rfl 75 rfl [.tmp 4] rfl rfl ?_
  refine W_seq ?_
  refine W_reg ?_
  refine L_pu (P_assign (.slice none 0 0) rfl) ?_
  refine L_nil ?_
  refine W_seq ?_
  refine W_reg ?_
  refine L_lit (kd := kPair) ei43 hc0 ([] : List Pair) (cells := []) rfl (fun _ => by kernel_rfl) fun w11 A12 n13 c14 g15 hr16 hc17 h18 => ?_
  refine L_pu (P_assign (.slice A12 n13 c14) rfl) ?_
  refine L_nil ?_
  refine W_seq ?_
  refine W_seq ?_
  refine W_reg ?_
  refine L_pu (P_move (.slice A1 n2 c3) rfl) ?_
  have hl20 := (hp4.st hc17.st).le
  refine L_pu (P_len Try.underlying33 A1 n2 c3 (hp4.st hc17.st).len rfl) ?_
  refine L_pu (P_cmp (a.length : Int) 12 (decide ((a.length : Int) > 12)) rfl rfl rfl) ?_
  refine L_pu (P_move (vb (decide ((a.length : Int) > 12))) rfl) ?_
  rcases bool_or (decide ((a.length : Int) > 12)) with hq21 | hq21
  · have H := ite_t H hq21
    refine L_pass (dj := 13) rfl rfl (.inl (by exact congrArg Value.bool hq21)) ?_
    refine L_pass (dj := 13) rfl rfl (.inl (by exact congrArg Value.bool hq21)) ?_
    refine L_pass (dj := 13) rfl rfl (.inl (by exact congrArg Value.bool hq21)) ?_
    refine L_pu (P_pick true (vb true) (by exact congrArg Value.bool hq21) rfl) ?_
    refine L_nil ?_
    refine W_ct (b := true) rfl rfl ?_
    refine W_seq ?_
    refine W_reg ?_
    refine L_pu (P_move (.slice A12 n13 c14) rfl) ?_
    refine L_pu (P_assign (.slice A12 n13 c14) rfl) ?_
    refine L_nil ?_
    refine W_ret ?_
    exact ⟨[.slice A12 n13 c14], ⟨_, rfl, rfl⟩, ([] : List Pair), A12, n13, c14, rfl, H, hc17.gr, hc17.ok, hc17.ge, h18⟩
  · have H := ite_f H hq21
    refine L_run (dj := 13) rfl rfl (by exact congrArg Value.bool hq21) ?_
    refine L_pu (P_move (.slice A6 n7 c8) rfl) ?_
    refine L_run (dj := 13) rfl rfl (by exact congrArg Value.bool hq21) ?_
    have hl22 := (hp9.st hc17.st).le
    refine L_pu (P_len Try.underlying33 A6 n7 c8 (hp9.st hc17.st).len rfl) ?_
    refine L_run (dj := 13) rfl rfl (by exact congrArg Value.bool hq21) ?_
    refine L_pu (P_cmp (b.length : Int) 12 (decide ((b.length : Int) > 12)) rfl rfl rfl) ?_
    refine L_pu (P_pick false (vb (decide ((b.length : Int) > 12))) (by exact congrArg Value.bool hq21) rfl) ?_
    refine L_nil ?_
    refine W_cond (decide ((b.length : Int) > 12)) rfl (fun hq23 => ?_) (fun hq23 => ?_)
    · have H := ite_t H hq23
      refine W_seq ?_
      refine W_reg ?_
      refine L_pu (P_move (.slice A12 n13 c14) rfl) ?_
      refine L_pu (P_assign (.slice A12 n13 c14) rfl) ?_
      refine L_nil ?_
      refine W_ret ?_
      exact ⟨[.slice A12 n13 c14], ⟨_, rfl, rfl⟩, ([] : List Pair), A12, n13, c14, rfl, H, hc17.gr, hc17.ok, hc17.ge, h18⟩
    · have H := ite_f H hq23
      refine W_skip ?_
      refine W_seq ?_
      refine W_reg ?_
      refine L_pu (P_move (.slice A1 n2 c3) rfl) ?_
      refine L_pu (P_move (.slice A6 n7 c8) rfl) ?_
      refine L_call go48 [.slice A1 n2 c3, .slice A6 n7 c8] rfl ((impl_lengths.calls w11 hc17.ok a A1 n2 c3 (hp4.st hc17.st) b A6 n7 c8 (hp9.st hc17.st) _ H).mono ?_)
      rintro _ w24 ⟨r, A26, n27, c28, rfl, H, g25, h29⟩
      have hc33 := hc17.k0 g25
      refine L_pu (P_assign (.slice A26 n27 c28) rfl) ?_
      refine L_nil ?_
      refine W_seq ?_
      refine W_seq ?_
      refine W_reg ?_
      refine L_pu (P_assign (vi 0) rfl) ?_
      refine L_pu (P_assign (vi 0) rfl) ?_
      refine L_nil ?_
      refine W_block ?_
      obtain ⟨I71, mu72, hI73, H⟩ := H
      have h75 := (h18.sn g25)
      refine W_loop (α := (List Pair) × (Option Addr) × Nat × Nat × Int × Int) (fun (s : (List Pair) × (Option Addr) × Nat × Nat × Int × Int) t w58 => match s with | (xs2, A61, n62, c63, i2, j2) => I71 xs2 i2 j2 ∧ Has t [(0, .slice A1 n2 c3), (1, .slice A6 n7 c8), (5, .slice A61 n62 c63), (6, .slice A26 n27 c28), (7, vi i2), (8, vi j2)] ∧ Ct none w0 w58 [blk (.slice A61 n62 c63)] O ∧ Sl kPt w58 (Fr ([blk (.slice A61 n62 c63)] ++ O)) (.slice A1 n2 c3) a ∧ Sl kPt w58 (Fr ([blk (.slice A61 n62 c63)] ++ O)) (.slice A6 n7 c8) b ∧ Sl (Kd.sl (Kd.int .i64)) w58 (Fr ([blk (.slice A61 n62 c63)] ++ O)) (.slice A26 n27 c28) r ∧ Ow kPair 46 w58 ([blk (.slice A61 n62 c63)] ++ O) (.slice A61 n62 c63) xs2) (fun (s : (List Pair) × (Option Addr) × Nat × Nat × Int × Int) => match s with | (xs2, _, _, _, i2, j2) => mu72 xs2 i2 j2) (([] : List Pair), A12, n13, c14, 0, 0) ⟨hI73, ⟨rfl, rfl, rfl, rfl, rfl, rfl, trivial⟩, hc33, (hp4.st hc33.st), (hp9.st hc33.st), h29, h75⟩ ?_
      rintro ⟨xs2, A61, n62, c63, i2, j2⟩ _ w58 ⟨hI73, hh76, hc66, h67, h68, h69, h70⟩
      obtain ⟨u77, rfl⟩ := Has.ins hh76
      have H := H xs2 i2 j2 hI73
      refine W_seq ?_
      refine W_seq ?_
      refine W_reg ?_
      refine L_pu (P_move (vi i2) rfl) ?_
      refine L_pu (P_move (.slice A1 n2 c3) rfl) ?_
      have hl78 := h67.le
      refine L_pu (P_len Try.underlying33 A1 n2 c3 h67.len rfl) ?_
      refine L_pu (P_cmp i2 (a.length : Int) (decide (i2 < (a.length : Int))) rfl rfl rfl) ?_
      refine L_pu (P_move (vb (decide (i2 < (a.length : Int)))) rfl) ?_
      rcases bool_or (decide (i2 < (a.length : Int))) with hq79 | hq79
      · have H := ite_t H hq79
        refine L_run (dj := 26) rfl rfl (by exact congrArg Value.bool hq79) ?_
        refine L_pu (P_move (vi j2) rfl) ?_
        refine L_run (dj := 26) rfl rfl (by exact congrArg Value.bool hq79) ?_
        refine L_pu (P_move (.slice A6 n7 c8) rfl) ?_
        refine L_run (dj := 26) rfl rfl (by exact congrArg Value.bool hq79) ?_
        have hl80 := h68.le
        refine L_pu (P_len Try.underlying33 A6 n7 c8 h68.len rfl) ?_
        refine L_run (dj := 26) rfl rfl (by exact congrArg Value.bool hq79) ?_
        refine L_pu (P_cmp j2 (b.length : Int) (decide (j2 < (b.length : Int))) rfl rfl rfl) ?_
        refine L_pu (P_pick true (vb (decide (j2 < (b.length : Int)))) (by exact congrArg Value.bool hq79) rfl) ?_
        refine L_nil ?_
        refine W_cond (decide (j2 < (b.length : Int))) rfl (fun hq81 => ?_) (fun hq81 => ?_)
        · have H := ite_t H hq81
          refine W_skip ?_
          refine W_block ?_
          refine W_block ?_
          refine W_seq ?_
          refine W_draw (fun x => Gr w58 x none) (by kernel_rfl) (by kernel_rfl) (Gr.drew _) ?_
          refine Q_pu (P_move (.slice A1 n2 c3) rfl) ?_
          refine Q_pu (P_move (vi i2) rfl) ?_
          obtain ⟨hb82, H⟩ := H
          obtain ⟨ad83, cs84, hA85, hS88, hR86, hcl87⟩ := h67.get default (by decide) i2 hb82
          obtain rfl := kPt.op hR86
          refine Q_pu (P_ia Try.underlying33 se33 A1 ad83 n2 c3 h67.len i2 rfl hA85 rfl hb82) ?_
          refine Q_pu (P_lda ag41 sz41 cQ (ad83.add (i2.toNat * 2)) [vi ((nth a i2).X), vi ((nth a i2).Y)] rfl rfl hcl87) ?_
          refine Q_pu (P_move (.slice A6 n7 c8) rfl) ?_
          refine Q_pu (P_move (vi j2) rfl) ?_
          obtain ⟨hb89, H⟩ := H
          obtain ⟨ad90, cs91, hA92, hS95, hR93, hcl94⟩ := h68.get default (by decide) j2 hb89
          obtain rfl := kPt.op hR93
          refine Q_pu (P_ia Try.underlying33 se33 A6 ad90 n7 c8 h68.len j2 rfl hA92 rfl hb89) ?_
          refine Q_pu (P_lda ag41 sz41 cQ (ad90.add (j2.toNat * 2)) [vi ((nth b j2).X), vi ((nth b j2).Y)] rfl rfl hcl94) ?_
          refine Q_pu (P_eq _ _ (eqPt (nth a i2) (nth b j2)) (qt41 (nth a i2) (nth b j2)) rfl rfl) ?_
          refine Q_pu (P_assign (vb (eqPt (nth a i2) (nth b j2))) rfl) ?_
          refine Q_nil fun w96 g97 => ?_
          have hc99 := hc66.k0 g97
          refine W_cond (eqPt (nth a i2) (nth b j2)) rfl (fun hq100 => ?_) (fun hq100 => ?_)
          · have H := ite_t H hq100
            refine W_seq ?_
            refine W_reg ?_
            refine L_pu (P_move (.slice A61 n62 c63) rfl) ?_
            refine L_pu (P_move (vi i2) rfl) ?_
            refine L_pu (P_move (vi j2) rfl) ?_
            refine L_pu (P_build (.agg #[vi i2, vi j2]) (fun _ => by kernel_rfl)) ?_
            refine L_lit (kd := kPair) ei43 hc99 ([(⟨i2, j2⟩ : Pair)] : List Pair) (cells := [vi i2, vi j2]) ⟨[vi i2, vi j2], _, rfl, (kPair.mk _ _ (⟨i2, j2⟩ : Pair)), rfl⟩ (fun _ => by kernel_rfl) fun w101 A102 n103 c104 g105 hr106 hc107 h108 => ?_
            obtain ⟨hb110, H⟩ := H
            have h111 := ((h70.sn g97).so _ g105 hr106)
            refine L_app ei43 hc107 (.slice A61 n62 c63) xs2 ([(⟨i2, j2⟩ : Pair)] : List Pair) rfl h111 (.slice A102 n103 c104) rfl h108.sx 1 rfl hb110 fun w112 A113 n114 c115 g116 s117 hc118 h119 => ?_
            refine L_pu (P_assign (.slice A113 n114 c115) rfl) ?_
            refine L_nil ?_
            refine W_seq ?_
            refine W_reg ?_
            refine L_pu (P_move (vi i2) rfl) ?_
            obtain ⟨hb122, H⟩ := H
            have hi121 : I64 (i2 + 1) := i64_succ (of_decide_eq_true hq79) hl78 hb122
            refine L_pu (P_add i2 1 rfl rfl hi121) ?_
            refine L_pu (P_assign (vi (i2 + 1)) rfl) ?_
            refine L_nil ?_
            refine W_reg ?_
            refine L_pu (P_move (vi j2) rfl) ?_
            obtain ⟨hb124, H⟩ := H
            have hi123 : I64 (j2 + 1) := i64_succ (of_decide_eq_true hq81) hl80 hb124
            refine L_pu (P_add j2 1 rfl rfl hi123) ?_
            refine L_pu (P_assign (vi (j2 + 1)) rfl) ?_
            refine L_nil ?_
            have hc125 := hc118.drop 0 rfl
            obtain ⟨hI126, hm127⟩ := H
            have h128 := ((((h67.st (.new _ g97)).st (.own _ _ g105 hr106)).st s117).st (.dr _ (L := [blk (.slice A102 n103 c104), blk (.slice A113 n114 c115)]) (O := O) (j := 0) rfl))
            have h129 := ((((h68.st (.new _ g97)).st (.own _ _ g105 hr106)).st s117).st (.dr _ (L := [blk (.slice A102 n103 c104), blk (.slice A113 n114 c115)]) (O := O) (j := 0) rfl))
            have h130 := ((((h69.st (.new _ g97)).st (.own _ _ g105 hr106)).st s117).st (.dr _ (L := [blk (.slice A102 n103 c104), blk (.slice A113 n114 c115)]) (O := O) (j := 0) rfl))
            have h131 := (Ow.sd (L := [blk (.slice A102 n103 c104), blk (.slice A113 n114 c115)]) (O := O) h119 (i := 1) rfl (j := 0) rfl (by decide))
            exact ⟨((xs2 ++ ([(⟨i2, j2⟩ : Pair)] : List Pair)), A113, n114, c115, i2 + 1, j2 + 1), hm127, hI126, ⟨rfl, rfl, rfl, rfl, rfl, rfl, trivial⟩, hc125, h128, h129, h130, h131⟩
          · have H := ite_f H hq100
            refine W_seq ?_
            refine W_draw (fun x => Gr w96 x none) (by kernel_rfl) (by kernel_rfl) (Gr.drew _) ?_
            refine Q_pu (P_move (.slice A26 n27 c28) rfl) ?_
            refine Q_pu (P_move (vi i2) rfl) ?_
            obtain ⟨hb133, H⟩ := H
            have hi132 : I64 (i2 + 1) := i64_succ (of_decide_eq_true hq79) hl78 hb133
            refine Q_pu (P_add i2 1 rfl rfl hi132) ?_
            obtain ⟨hb134, H⟩ := H
            obtain ⟨ad135, cs136, hA137, hS140, hR138, hcl139⟩ := (h69.st (.new _ g97)).get default (by decide) (i2 + 1) hb134
            obtain ⟨A141, n142, c143, rfl, h144⟩ := Kd.sl.op hR138
            refine Q_pu (P_ia Try.underlying66 se66 A26 ad135 n27 c28 (h69.st (.new _ g97)).len (i2 + 1) rfl hA137 rfl hb134) ?_
            refine Q_pu (P_ld ag65 cQ (ad135.add ((i2 + 1).toNat * 1)) (.slice A141 n142 c143) rfl (hcl139 0 _ rfl)) ?_
            refine Q_pu (P_move (vi j2) rfl) ?_
            obtain ⟨hb146, H⟩ := H
            obtain ⟨ad147, cs148, hA149, hS152, hR150, hcl151⟩ := h144.get default (by decide) j2 hb146
            obtain rfl := Kd.int.op hR150
            refine Q_pu (P_ia Try.underlying65 se65 A141 ad147 n142 c143 h144.len j2 rfl hA149 rfl hb146) ?_
            refine Q_pu (P_ld ag3 cQ (ad147.add (j2.toNat * 1)) (vi (nth (nth r (i2 + 1)) j2)) rfl (hcl151 0 _ rfl)) ?_
            refine Q_pu (P_move (.slice A26 n27 c28) rfl) ?_
            refine Q_pu (P_move (vi i2) rfl) ?_
            obtain ⟨hb153, H⟩ := H
            obtain ⟨ad154, cs155, hA156, hS159, hR157, hcl158⟩ := (h69.st (.new _ g97)).get default (by decide) i2 hb153
            obtain ⟨A160, n161, c162, rfl, h163⟩ := Kd.sl.op hR157
            refine Q_pu (P_ia Try.underlying66 se66 A26 ad154 n27 c28 (h69.st (.new _ g97)).len i2 rfl hA156 rfl hb153) ?_
            refine Q_pu (P_ld ag65 cQ (ad154.add (i2.toNat * 1)) (.slice A160 n161 c162) rfl (hcl158 0 _ rfl)) ?_
            refine Q_pu (P_move (vi j2) rfl) ?_
            obtain ⟨hb166, H⟩ := H
            have hi165 : I64 (j2 + 1) := i64_succ (of_decide_eq_true hq81) hl80 hb166
            refine Q_pu (P_add j2 1 rfl rfl hi165) ?_
            obtain ⟨hb167, H⟩ := H
            obtain ⟨ad168, cs169, hA170, hS173, hR171, hcl172⟩ := h163.get default (by decide) (j2 + 1) hb167
            obtain rfl := Kd.int.op hR171
            refine Q_pu (P_ia Try.underlying65 se65 A160 ad168 n161 c162 h163.len (j2 + 1) rfl hA170 rfl hb167) ?_
            refine Q_pu (P_ld ag3 cQ (ad168.add ((j2 + 1).toNat * 1)) (vi (nth (nth r i2) (j2 + 1))) rfl (hcl172 0 _ rfl)) ?_
            refine Q_pu (P_cmp (nth (nth r (i2 + 1)) j2) (nth (nth r i2) (j2 + 1)) (decide ((nth (nth r (i2 + 1)) j2) ≥ (nth (nth r i2) (j2 + 1)))) rfl rfl rfl) ?_
            refine Q_pu (P_assign (vb (decide ((nth (nth r (i2 + 1)) j2) ≥ (nth (nth r i2) (j2 + 1))))) rfl) ?_
            refine Q_nil fun w174 g175 => ?_
            have hc177 := hc99.k0 g175
            refine W_cond (decide ((nth (nth r (i2 + 1)) j2) ≥ (nth (nth r i2) (j2 + 1)))) rfl (fun hq178 => ?_) (fun hq178 => ?_)
            · have H := ite_t H hq178
              refine W_reg ?_
              refine L_pu (P_move (vi i2) rfl) ?_
              obtain ⟨hb180, H⟩ := H
              have hi179 : I64 (i2 + 1) := i64_succ (of_decide_eq_true hq79) hl78 hb180
              refine L_pu (P_add i2 1 rfl rfl hi179) ?_
              refine L_pu (P_assign (vi (i2 + 1)) rfl) ?_
              refine L_nil ?_
              obtain ⟨hI181, hm182⟩ := H
              have h183 := ((h67.st (.new _ g97)).st (.new _ g175))
              have h184 := ((h68.st (.new _ g97)).st (.new _ g175))
              have h185 := ((h69.st (.new _ g97)).st (.new _ g175))
              have h186 := ((h70.sn g97).sn g175)
              exact ⟨(xs2, A61, n62, c63, i2 + 1, j2), hm182, hI181, ⟨rfl, rfl, rfl, rfl, rfl, rfl, trivial⟩, hc177, h183, h184, h185, h186⟩
            · have H := ite_f H hq178
              refine W_reg ?_
              refine L_pu (P_move (vi j2) rfl) ?_
              obtain ⟨hb188, H⟩ := H
              have hi187 : I64 (j2 + 1) := i64_succ (of_decide_eq_true hq81) hl80 hb188
              refine L_pu (P_add j2 1 rfl rfl hi187) ?_
              refine L_pu (P_assign (vi (j2 + 1)) rfl) ?_
              refine L_nil ?_
              obtain ⟨hI189, hm190⟩ := H
              have h191 := ((h67.st (.new _ g97)).st (.new _ g175))
              have h192 := ((h68.st (.new _ g97)).st (.new _ g175))
              have h193 := ((h69.st (.new _ g97)).st (.new _ g175))
              have h194 := ((h70.sn g97).sn g175)
              exact ⟨(xs2, A61, n62, c63, i2, j2 + 1), hm190, hI189, ⟨rfl, rfl, rfl, rfl, rfl, rfl, trivial⟩, hc177, h191, h192, h193, h194⟩
        · have H := ite_f H hq81
          refine W_exit (xin_hit ?_)
          refine W_seq ?_
          refine W_reg ?_
          refine L_pu (P_move (.slice A61 n62 c63) rfl) ?_
          refine L_pu (P_assign (.slice A61 n62 c63) rfl) ?_
          refine L_nil ?_
          refine W_ret ?_
          exact ⟨[.slice A61 n62 c63], ⟨_, rfl, rfl⟩, xs2, A61, n62, c63, rfl, H, hc66.gr, hc66.ok, hc66.ge, h70⟩
      · have H := ite_f H hq79
        refine L_pass (dj := 26) rfl rfl (.inl (by exact congrArg Value.bool hq79)) ?_
        refine L_pass (dj := 26) rfl rfl (.inl (by exact congrArg Value.bool hq79)) ?_
        refine L_pass (dj := 26) rfl rfl (.inl (by exact congrArg Value.bool hq79)) ?_
        refine L_pass (dj := 26) rfl rfl (.inl (by exact congrArg Value.bool hq79)) ?_
        refine L_pu (P_pick false (vb false) (by exact congrArg Value.bool hq79) rfl) ?_
        refine L_nil ?_
        refine W_cf (b := false) rfl rfl ?_
        refine W_exit (xin_hit ?_)
        refine W_seq ?_
        refine W_reg ?_
        refine L_pu (P_move (.slice A61 n62 c63) rfl) ?_
        refine L_pu (P_assign (.slice A61 n62 c63) rfl) ?_
        refine L_nil ?_
        refine W_ret ?_
        exact ⟨[.slice A61 n62 c63], ⟨_, rfl, rfl⟩, xs2, A61, n62, c63, rfl, H, hc66.gr, hc66.ok, hc66.ge, h70⟩
end Go.Proofs.Ytnliofcjplnboaa

namespace Go.Proofs.Ytnliofcjplnboaa
set_option linter.unusedVariables false
set_option linter.unusedSimpArgs false
theorem impl_SeqPairs.law (a b : List Pt) (Q : List Pair → Prop) (hq : Q (spairs a b)) : impl_SeqPairs.E a b Q := by
  unfold impl_SeqPairs.E
  unfold spairs at hq
  by_cases h1 : (a.length : Int) > 12
  · rw [if_pos (by simpa using h1)]
    rw [if_neg (by rw [few_iff]; omega)] at hq; exact hq
  rw [if_neg (by simpa using h1)]
  by_cases h2 : (b.length : Int) > 12
  · rw [if_pos (by simpa using h2)]
    rw [if_neg (by rw [few_iff]; omega)] at hq; exact hq
  rw [if_neg (by simpa using h2)]
  rw [if_pos (by rw [few_iff]; omega)] at hq
  refine impl_lengths.law _ _ _ (by omega) (by omega) fun t ht => ?_
  refine ⟨fun xs i j => ∃ u v : Nat, i = u ∧ j = v ∧ u ≤ a.length ∧ v ≤ b.length ∧ xs ++ (pairs u v (a.drop u) (b.drop v)).map mkP = (pairs 0 0 a b).map mkP, fun _ i j => ((a.length - i) + (b.length - j)).toNat, ⟨0, 0, rfl, rfl, Nat.zero_le _, Nat.zero_le _, rfl⟩, ?_⟩
  rintro xs _ _ ⟨u, v, rfl, rfl, hu, hv, hx⟩
  by_cases hu0 : (u : Int) < (a.length : Int)
  · rw [if_pos (by simpa using hu0)]
    by_cases hv0 : (v : Int) < (b.length : Int)
    · rw [if_pos (by simpa using hv0)]
      have hu1 : u < a.length := by omega
      have hv1 : v < b.length := by omega
      rw [pairs_drop a b hu1 hv1] at hx
      have eu : (u : Int) + 1 = ((u + 1 : Nat) : Int) := by omega
      have ev : (v : Int) + 1 = ((v + 1 : Nat) : Int) := by omega
      rw [eqPt_is, eu, ev]
      refine ⟨by omega, by omega, ?_⟩
      by_cases he : nth a (u : Int) = nth b (v : Int)
      · rw [if_pos (by simpa using he)]
        rw [if_pos he, List.map_cons] at hx
        have hl := congrArg List.length hx
        rw [List.length_map, pairs_len, List.length_append] at hl
        have := lcs_le1 a b
        exact ⟨by simp only [List.length_singleton]; omega, by omega, by omega, ⟨u + 1, v + 1, rfl, rfl, by omega, by omega, by rw [List.append_assoc]; exact hx⟩, by dsimp only; omega⟩
      · rw [if_neg (by simpa using he)]
        rw [if_neg he] at hx
        have t0 := ht.1
        have t1 := ht.2 u (by omega)
        have t2 := ht.2 (u + 1) (by omega)
        have n1 := t2.2 v (by omega) trivial
        have n2 := t1.2 (v + 1) (by omega) trivial
        have l1 := t1.1
        have l2 := t2.1
        refine ⟨by omega, by omega, by omega, by omega, by omega, by omega, ?_⟩
        rw [n1, n2]
        by_cases hc : lcs (a.drop u) (b.drop (v + 1)) ≤ lcs (a.drop (u + 1)) (b.drop v)
        · rw [if_pos (by simpa using hc)]
          rw [if_pos hc] at hx
          exact ⟨by omega, ⟨u + 1, v, rfl, rfl, by omega, by omega, hx⟩, by dsimp only; omega⟩
        · rw [if_neg (by simpa using hc)]
          rw [if_neg hc] at hx
          exact ⟨by omega, ⟨u, v + 1, rfl, rfl, by omega, by omega, hx⟩, by dsimp only; omega⟩
    · rw [if_neg (by simpa using hv0)]
      rw [List.drop_of_length_le (by omega : b.length ≤ v), pairs_nil2, List.map_nil, List.append_nil] at hx
      rw [hx]; exact hq
  · rw [if_neg (by simpa using hu0)]
    rw [List.drop_of_length_le (by omega : a.length ≤ u), pairs_nil, List.map_nil, List.append_nil] at hx
    rw [hx]; exact hq
end Go.Proofs.Ytnliofcjplnboaa

namespace Go.Proofs.Ytnliofcjplnboaa
open Go.RowKit
set_option linter.unusedVariables false
def laws_eqPair.E (a : Pair) (b : Pair) (Q : Bool → Prop) : Prop :=
  (if a.A != b.A then Q false else (if a.B != b.B then Q false else Q true))
set_option maxHeartbeats 8000000 in
set_option maxRecDepth 100000 in
theorem laws_eqPair.calls {O : Ob} (w0 : World) (hO : Ok w0 O) (a : Pair) (b : Pair) (Q : Bool → Prop) (h : laws_eqPair.E a b Q) :
    Ret Try.prog 51 [.agg #[vi a.A, vi a.B], .agg #[vi b.A, vi b.B]] w0 (fun v w' => ∃ (r0 : Bool), v = vb r0 ∧ Q r0 ∧ Gr w0 w' none) := by
  have H : (if a.A != b.A then Q false else (if a.B != b.B then Q false else Q true)) := h
  clear h
  have hc0 := Ct.init hO
  refine Ret_enter Try.func51 rfl 15 rfl [.tmp 4] rfl rfl ?_
  refine W_seq ?_
  refine W_reg ?_
  refine L_box [vi a.A, vi a.B] rfl fun w1 b2 hl4 hu5 g3 hx6 => ?_
  have h8 := Fb.mk hc0.ok hl4 hx6
  have hc9 := hc0.k0 g3
  refine L_box [vi b.A, vi b.B] rfl fun w10 b11 hl13 hu14 g12 hx15 => ?_
  have h17 := Fb.mk hc9.ok hl13 hx15
  have hc18 := hc9.k0 g12
  refine L_pu (P_assign (vb false) rfl) ?_
  refine L_nil ?_
  refine W_seq ?_
  refine W_seq ?_
  refine W_reg ?_
  refine L_pu (P_fa fa46_0 ⟨b2, 0, none⟩ ⟨b2, 0, none⟩ rfl rfl) ?_
  have h19 := (h8.st (.new _ g12))
  refine L_pu (P_ld ag3 cL ⟨b2, 0, none⟩ (vi a.A) rfl (h19.cell rfl)) ?_
  refine L_pu (P_fa fa46_0 ⟨b11, 0, none⟩ ⟨b11, 0, none⟩ rfl rfl) ?_
  refine L_pu (P_ld ag3 cL ⟨b11, 0, none⟩ (vi b.A) rfl (h17.cell rfl)) ?_
  refine L_pu (P_cmp a.A b.A (a.A != b.A) rfl rfl rfl) ?_
  refine L_nil ?_
  refine W_cond (a.A != b.A) rfl (fun hq20 => ?_) (fun hq20 => ?_)
  · have H := ite_t H hq20
    refine W_seq ?_
    refine W_reg ?_
    refine L_pu (P_assign (vb false) rfl) ?_
    refine L_nil ?_
    refine W_ret ?_
    exact ⟨[vb false], ⟨_, rfl, rfl⟩, false, rfl, H, hc18.gr⟩
  · have H := ite_f H hq20
    refine W_skip ?_
    refine W_seq ?_
    refine W_seq ?_
    refine W_reg ?_
    refine L_pu (P_fa fa46_1 ⟨b2, 0, none⟩ ⟨b2, 1, none⟩ rfl rfl) ?_
    refine L_pu (P_ld ag3 cL ⟨b2, 1, none⟩ (vi a.B) rfl (h19.cell rfl)) ?_
    refine L_pu (P_fa fa46_1 ⟨b11, 0, none⟩ ⟨b11, 1, none⟩ rfl rfl) ?_
    refine L_pu (P_ld ag3 cL ⟨b11, 1, none⟩ (vi b.B) rfl (h17.cell rfl)) ?_
    refine L_pu (P_cmp a.B b.B (a.B != b.B) rfl rfl rfl) ?_
    refine L_nil ?_
    refine W_cond (a.B != b.B) rfl (fun hq21 => ?_) (fun hq21 => ?_)
    · have H := ite_t H hq21
      refine W_seq ?_
      refine W_reg ?_
      refine L_pu (P_assign (vb false) rfl) ?_
      refine L_nil ?_
      refine W_ret ?_
      exact ⟨[vb false], ⟨_, rfl, rfl⟩, false, rfl, H, hc18.gr⟩
    · have H := ite_f H hq21
      refine W_skip ?_
      refine W_seq ?_
      refine W_reg ?_
      refine L_pu (P_assign (vb true) rfl) ?_
      refine L_nil ?_
      refine W_ret ?_
      exact ⟨[vb true], ⟨_, rfl, rfl⟩, true, rfl, H, hc18.gr⟩
def laws_eqPair.m (a : Pair) (b : Pair) : Bool := (if a.A != b.A then false else (if a.B != b.B then false else true))
theorem laws_eqPair.fn (a : Pair) (b : Pair) : laws_eqPair.E a b (fun r => r = laws_eqPair.m a b) := by
  unfold laws_eqPair.E laws_eqPair.m
  (repeat' split) <;> simp_all
end Go.Proofs.Ytnliofcjplnboaa

namespace Go.Proofs.Ytnliofcjplnboaa
set_option linter.unusedVariables false
set_option linter.unusedSimpArgs false
theorem laws_eqPair.law (a b : Pair) (Q : Bool → Prop) (hq : Q (decide (a = b))) : laws_eqPair.E a b Q := by
  obtain ⟨x0, x1⟩ := a; obtain ⟨y0, y1⟩ := b
  rw [show (decide ((⟨x0, x1⟩ : Pair) = ⟨y0, y1⟩)) = ((decide (x0 = y0)) && (decide (x1 = y1))) by simp only [Pair.mk.injEq, Bool.decide_and]] at hq
  unfold laws_eqPair.E
  by_cases h0 : x0 = y0
  case neg => simpa [h0] using hq
  simp only [h0, decide_true, Bool.true_and, bne_self_eq_false, Bool.not_true, Bool.false_eq_true, if_false] at hq ⊢
  by_cases h1 : x1 = y1
  case neg => simpa [h1] using hq
  simp only [h1, decide_true, Bool.true_and, bne_self_eq_false, Bool.not_true, Bool.false_eq_true, if_false] at hq ⊢
  all_goals (try exact hq)
theorem laws_eqPair.is (a b : Pair) : laws_eqPair.E a b (fun r => r = decide (a = b)) := laws_eqPair.law a b _ rfl
end Go.Proofs.Ytnliofcjplnboaa

namespace Go.Proofs.Ytnliofcjplnboaa
open Go.RowKit
set_option linter.unusedVariables false
def laws_eqPairS.E (a : List Pair) (b : List Pair) (Q : Bool → Prop) : Prop :=
  (if (a.length : Int) != (b.length : Int) then Q false else (∃ (I32 : Int → Prop) (mu33 : Int → Nat), I32 0 ∧ ∀ (i2 : Int), I32 i2 → (if decide (i2 < (a.length : Int)) then ((0 : Int) ≤ i2 ∧ i2 < (a.length : Int)) ∧ ((0 : Int) ≤ i2 ∧ i2 < (b.length : Int)) ∧ (if !(decide ((nth a i2) = (nth b i2))) then Q false else (-9223372036854775808 ≤ i2) ∧ I32 (i2 + 1) ∧ mu33 (i2 + 1) < mu33 i2) else Q true)))
set_option maxHeartbeats 8000000 in
set_option maxRecDepth 100000 in
theorem laws_eqPairS.calls {O : Ob} (w0 : World) (hO : Ok w0 O) (a : List Pair) (A1 : Option Addr) (n2 c3 : Nat) (hp4 : Sl kPair w0 (Fr O) (.slice A1 n2 c3) a) (b : List Pair) (A6 : Option Addr) (n7 c8 : Nat) (hp9 : Sl kPair w0 (Fr O) (.slice A6 n7 c8) b) (Q : Bool → Prop) (h : laws_eqPairS.E a b Q) :
    Ret Try.prog 31 [.slice A1 n2 c3, .slice A6 n7 c8] w0 (fun v w' => ∃ (r0 : Bool), v = vb r0 ∧ Q r0 ∧ Gr w0 w' none) := by
  have H : (if (a.length : Int) != (b.length : Int) then Q false else (∃ (I32 : Int → Prop) (mu33 : Int → Nat), I32 0 ∧ ∀ (i2 : Int), I32 i2 → (if decide (i2 < (a.length : Int)) then ((0 : Int) ≤ i2 ∧ i2 < (a.length : Int)) ∧ ((0 : Int) ≤ i2 ∧ i2 < (b.length : Int)) ∧ (if !(decide ((nth a i2) = (nth b i2))) then Q false else (-9223372036854775808 ≤ i2) ∧ I32 (i2 + 1) ∧ mu33 (i2 + 1) < mu33 i2) else Q true))) := h
  clear h
  have hc0 := Ct.init hO
  refine Ret_enter Try.func31 rfl 27 rfl [.tmp 4] rfl rfl ?_
  refine W_seq ?_
  refine W_reg ?_
  refine L_pu (P_assign (vb false) rfl) ?_
  refine L_nil ?_
  refine W_seq ?_
  refine W_seq ?_
  refine W_reg ?_
  refine L_pu (P_move (.slice A1 n2 c3) rfl) ?_
  have hl11 := hp4.le
  refine L_pu (P_len Try.underlying43 A1 n2 c3 hp4.len rfl) ?_
  refine L_pu (P_move (.slice A6 n7 c8) rfl) ?_
  have hl12 := hp9.le
  refine L_pu (P_len Try.underlying43 A6 n7 c8 hp9.len rfl) ?_
  refine L_pu (P_cmp (a.length : Int) (b.length : Int) ((a.length : Int) != (b.length : Int)) rfl rfl rfl) ?_
  refine L_nil ?_
  refine W_cond ((a.length : Int) != (b.length : Int)) rfl (fun hq13 => ?_) (fun hq13 => ?_)
  · have H := ite_t H hq13
    refine W_seq ?_
    refine W_reg ?_
    refine L_pu (P_assign (vb false) rfl) ?_
    refine L_nil ?_
    refine W_ret ?_
    exact ⟨[vb false], ⟨_, rfl, rfl⟩, false, rfl, H, hc0.gr⟩
  · have H := ite_f H hq13
    refine W_skip ?_
    refine W_seq ?_
    refine W_seq ?_
    refine W_reg ?_
    refine L_pu (P_assign (vi 0) rfl) ?_
    refine L_nil ?_
    refine W_block ?_
    obtain ⟨I32, mu33, hI34, H⟩ := H
    refine W_loop (α := Int) (fun (s : Int) t w26 => match s with | i2 => I32 i2 ∧ Has t [(0, .slice A1 n2 c3), (1, .slice A6 n7 c8), (5, vi i2)] ∧ Ct none w0 w26 [] O ∧ Sl kPair w26 (Fr ([] ++ O)) (.slice A1 n2 c3) a ∧ Sl kPair w26 (Fr ([] ++ O)) (.slice A6 n7 c8) b) (fun (s : Int) => match s with | i2 => mu33 i2) 0 ⟨hI34, ⟨rfl, rfl, rfl, trivial⟩, hc0, hp4, hp9⟩ ?_
    rintro i2 _ w26 ⟨hI34, hh36, hc29, h30, h31⟩
    obtain ⟨u37, rfl⟩ := Has.ins hh36
    have H := H i2 hI34
    refine W_seq ?_
    refine W_seq ?_
    refine W_reg ?_
    refine L_pu (P_move (vi i2) rfl) ?_
    refine L_pu (P_move (.slice A1 n2 c3) rfl) ?_
    have hl38 := h30.le
    refine L_pu (P_len Try.underlying43 A1 n2 c3 h30.len rfl) ?_
    refine L_pu (P_cmp i2 (a.length : Int) (decide (i2 < (a.length : Int))) rfl rfl rfl) ?_
    refine L_nil ?_
    refine W_cond (decide (i2 < (a.length : Int))) rfl (fun hq39 => ?_) (fun hq39 => ?_)
    · have H := ite_t H hq39
      refine W_skip ?_
      refine W_seq ?_
      refine W_block ?_
      refine W_seq ?_
      refine W_draw (fun x => Gr w26 x none) (by kernel_rfl) (by kernel_rfl) (Gr.drew _) ?_
      refine Q_pu (P_move (.slice A1 n2 c3) rfl) ?_
      refine Q_pu (P_move (vi i2) rfl) ?_
      obtain ⟨hb40, H⟩ := H
      obtain ⟨ad41, cs42, hA43, hS46, hR44, hcl45⟩ := h30.get default (by decide) i2 hb40
      obtain rfl := kPair.op hR44
      refine Q_pu (P_ia Try.underlying43 se43 A1 ad41 n2 c3 h30.len i2 rfl hA43 rfl hb40) ?_
      refine Q_pu (P_lda ag46 sz46 cQ (ad41.add (i2.toNat * 2)) [vi ((nth a i2).A), vi ((nth a i2).B)] rfl rfl hcl45) ?_
      refine Q_pu (P_move (.slice A6 n7 c8) rfl) ?_
      refine Q_pu (P_move (vi i2) rfl) ?_
      obtain ⟨hb47, H⟩ := H
      obtain ⟨ad48, cs49, hA50, hS53, hR51, hcl52⟩ := h31.get default (by decide) i2 hb47
      obtain rfl := kPair.op hR51
      refine Q_pu (P_ia Try.underlying43 se43 A6 ad48 n7 c8 h31.len i2 rfl hA50 rfl hb47) ?_
      refine Q_pu (P_lda ag46 sz46 cQ (ad48.add (i2.toNat * 2)) [vi ((nth b i2).A), vi ((nth b i2).B)] rfl rfl hcl52) ?_
      refine Q_call go51 [.agg #[vi ((nth a i2).A), vi ((nth a i2).B)], .agg #[vi ((nth b i2).A), vi ((nth b i2).B)]] rfl (vb (decide ((nth a i2) = (nth b i2)))) (fun w g => (laws_eqPair.calls w (hc29.k0 g).ok (nth a i2) (nth b i2) _ (laws_eqPair.is (nth a i2) (nth b i2))).mono ?_) ?_
      · rintro _ w ⟨r, rfl, rfl, g2⟩
        exact ⟨rfl, Gr.t0 g g2⟩
      refine Q_pu (P_not (decide ((nth a i2) = (nth b i2))) rfl) ?_
      refine Q_nil fun w59 g60 => ?_
      have hc62 := hc29.k0 g60
      refine W_cond (!(decide ((nth a i2) = (nth b i2)))) rfl (fun hq63 => ?_) (fun hq63 => ?_)
      · have H := ite_t H hq63
        refine W_seq ?_
        refine W_reg ?_
        refine L_pu (P_assign (vb false) rfl) ?_
        refine L_nil ?_
        refine W_ret ?_
        exact ⟨[vb false], ⟨_, rfl, rfl⟩, false, rfl, H, hc62.gr⟩
      · have H := ite_f H hq63
        refine W_skip ?_
        refine W_reg ?_
        refine L_pu (P_move (vi i2) rfl) ?_
        obtain ⟨hb65, H⟩ := H
        have hi64 : I64 (i2 + 1) := i64_succ (of_decide_eq_true hq39) hl38 hb65
        refine L_pu (P_add i2 1 rfl rfl hi64) ?_
        refine L_pu (P_assign (vi (i2 + 1)) rfl) ?_
        refine L_nil ?_
        obtain ⟨hI66, hm67⟩ := H
        exact ⟨i2 + 1, hm67, hI66, ⟨rfl, rfl, rfl, trivial⟩, hc62, (h30.st (.new _ g60)), (h31.st (.new _ g60))⟩
    · have H := ite_f H hq39
      refine W_exit (xin_hit ?_)
      refine W_seq ?_
      refine W_reg ?_
      refine L_pu (P_assign (vb true) rfl) ?_
      refine L_nil ?_
      refine W_ret ?_
      exact ⟨[vb true], ⟨_, rfl, rfl⟩, true, rfl, H, hc29.gr⟩
end Go.Proofs.Ytnliofcjplnboaa

namespace Go.Proofs.Ytnliofcjplnboaa
set_option linter.unusedVariables false
set_option linter.unusedSimpArgs false
theorem laws_eqPairS.law (a b : List Pair) (Q : Bool → Prop) (hq : Q (decide (a = b))) : laws_eqPairS.E a b Q := by
  unfold laws_eqPairS.E
  exact eqS_shape (fun x y => decide (x = y)) (fun _ _ => rfl) a b Q hq
theorem laws_eqPairS.is (a b : List Pair) : laws_eqPairS.E a b (fun r => r = decide (a = b)) := laws_eqPairS.law a b _ rfl
end Go.Proofs.Ytnliofcjplnboaa

namespace Go.Proofs.Ytnliofcjplnboaa
open Go.RowKit
set_option linter.unusedVariables false
def laws_eqPt.E (a : Pt) (b : Pt) (Q : Bool → Prop) : Prop :=
  (if a.X != b.X then Q false else (if a.Y != b.Y then Q false else Q true))
set_option maxHeartbeats 8000000 in
set_option maxRecDepth 100000 in
theorem laws_eqPt.calls {O : Ob} (w0 : World) (hO : Ok w0 O) (a : Pt) (b : Pt) (Q : Bool → Prop) (h : laws_eqPt.E a b Q) :
    Ret Try.prog 49 [.agg #[vi a.X, vi a.Y], .agg #[vi b.X, vi b.Y]] w0 (fun v w' => ∃ (r0 : Bool), v = vb r0 ∧ Q r0 ∧ Gr w0 w' none) := by
  have H : (if a.X != b.X then Q false else (if a.Y != b.Y then Q false else Q true)) := h
  clear h
  have hc0 := Ct.init hO
  refine Ret_enter Try.func49 rfl 15 rfl [.tmp 4] rfl rfl ?_
  refine W_seq ?_
  refine W_reg ?_
  refine L_box [vi a.X, vi a.Y] rfl fun w1 b2 hl4 hu5 g3 hx6 => ?_
  have h8 := Fb.mk hc0.ok hl4 hx6
  have hc9 := hc0.k0 g3
  refine L_box [vi b.X, vi b.Y] rfl fun w10 b11 hl13 hu14 g12 hx15 => ?_
  have h17 := Fb.mk hc9.ok hl13 hx15
  have hc18 := hc9.k0 g12
  refine L_pu (P_assign (vb false) rfl) ?_
  refine L_nil ?_
  refine W_seq ?_
  refine W_seq ?_
  refine W_reg ?_
  refine L_pu (P_fa fa41_0 ⟨b2, 0, none⟩ ⟨b2, 0, none⟩ rfl rfl) ?_
  have h19 := (h8.st (.new _ g12))
  refine L_pu (P_ld ag3 cL ⟨b2, 0, none⟩ (vi a.X) rfl (h19.cell rfl)) ?_
  refine L_pu (P_fa fa41_0 ⟨b11, 0, none⟩ ⟨b11, 0, none⟩ rfl rfl) ?_
  refine L_pu (P_ld ag3 cL ⟨b11, 0, none⟩ (vi b.X) rfl (h17.cell rfl)) ?_
  refine L_pu (P_cmp a.X b.X (a.X != b.X) rfl rfl rfl) ?_
  refine L_nil ?_
  refine W_cond (a.X != b.X) rfl (fun hq20 => ?_) (fun hq20 => ?_)
  · have H := ite_t H hq20
    refine W_seq ?_
    refine W_reg ?_
    refine L_pu (P_assign (vb false) rfl) ?_
    refine L_nil ?_
    refine W_ret ?_
    exact ⟨[vb false], ⟨_, rfl, rfl⟩, false, rfl, H, hc18.gr⟩
  · have H := ite_f H hq20
    refine W_skip ?_
    refine W_seq ?_
    refine W_seq ?_
    refine W_reg ?_
    refine L_pu (P_fa fa41_1 ⟨b2, 0, none⟩ ⟨b2, 1, none⟩ rfl rfl) ?_
    refine L_pu (P_ld ag3 cL ⟨b2, 1, none⟩ (vi a.Y) rfl (h19.cell rfl)) ?_
    refine L_pu (P_fa fa41_1 ⟨b11, 0, none⟩ ⟨b11, 1, none⟩ rfl rfl) ?_
    refine L_pu (P_ld ag3 cL ⟨b11, 1, none⟩ (vi b.Y) rfl (h17.cell rfl)) ?_
    refine L_pu (P_cmp a.Y b.Y (a.Y != b.Y) rfl rfl rfl) ?_
    refine L_nil ?_
    refine W_cond (a.Y != b.Y) rfl (fun hq21 => ?_) (fun hq21 => ?_)
    · have H := ite_t H hq21
      refine W_seq ?_
      refine W_reg ?_
      refine L_pu (P_assign (vb false) rfl) ?_
      refine L_nil ?_
      refine W_ret ?_
      exact ⟨[vb false], ⟨_, rfl, rfl⟩, false, rfl, H, hc18.gr⟩
    · have H := ite_f H hq21
      refine W_skip ?_
      refine W_seq ?_
      refine W_reg ?_
      refine L_pu (P_assign (vb true) rfl) ?_
      refine L_nil ?_
      refine W_ret ?_
      exact ⟨[vb true], ⟨_, rfl, rfl⟩, true, rfl, H, hc18.gr⟩
def laws_eqPt.m (a : Pt) (b : Pt) : Bool := (if a.X != b.X then false else (if a.Y != b.Y then false else true))
theorem laws_eqPt.fn (a : Pt) (b : Pt) : laws_eqPt.E a b (fun r => r = laws_eqPt.m a b) := by
  unfold laws_eqPt.E laws_eqPt.m
  (repeat' split) <;> simp_all
end Go.Proofs.Ytnliofcjplnboaa

namespace Go.Proofs.Ytnliofcjplnboaa
set_option linter.unusedVariables false
set_option linter.unusedSimpArgs false
theorem laws_eqPt.law (a b : Pt) (Q : Bool → Prop) (hq : Q (decide (a = b))) : laws_eqPt.E a b Q := by
  obtain ⟨x0, x1⟩ := a; obtain ⟨y0, y1⟩ := b
  rw [show (decide ((⟨x0, x1⟩ : Pt) = ⟨y0, y1⟩)) = ((decide (x0 = y0)) && (decide (x1 = y1))) by simp only [Pt.mk.injEq, Bool.decide_and]] at hq
  unfold laws_eqPt.E
  by_cases h0 : x0 = y0
  case neg => simpa [h0] using hq
  simp only [h0, decide_true, Bool.true_and, bne_self_eq_false, Bool.not_true, Bool.false_eq_true, if_false] at hq ⊢
  by_cases h1 : x1 = y1
  case neg => simpa [h1] using hq
  simp only [h1, decide_true, Bool.true_and, bne_self_eq_false, Bool.not_true, Bool.false_eq_true, if_false] at hq ⊢
  all_goals (try exact hq)
theorem laws_eqPt.is (a b : Pt) : laws_eqPt.E a b (fun r => r = decide (a = b)) := laws_eqPt.law a b _ rfl
end Go.Proofs.Ytnliofcjplnboaa

namespace Go.Proofs.Ytnliofcjplnboaa
open Go.RowKit
set_option linter.unusedVariables false
def laws_eqPtS.E (a : List Pt) (b : List Pt) (Q : Bool → Prop) : Prop :=
  (if (a.length : Int) != (b.length : Int) then Q false else (∃ (I32 : Int → Prop) (mu33 : Int → Nat), I32 0 ∧ ∀ (i2 : Int), I32 i2 → (if decide (i2 < (a.length : Int)) then ((0 : Int) ≤ i2 ∧ i2 < (a.length : Int)) ∧ ((0 : Int) ≤ i2 ∧ i2 < (b.length : Int)) ∧ (if !(decide ((nth a i2) = (nth b i2))) then Q false else (-9223372036854775808 ≤ i2) ∧ I32 (i2 + 1) ∧ mu33 (i2 + 1) < mu33 i2) else Q true)))
set_option maxHeartbeats 8000000 in
set_option maxRecDepth 100000 in
theorem laws_eqPtS.calls {O : Ob} (w0 : World) (hO : Ok w0 O) (a : List Pt) (A1 : Option Addr) (n2 c3 : Nat) (hp4 : Sl kPt w0 (Fr O) (.slice A1 n2 c3) a) (b : List Pt) (A6 : Option Addr) (n7 c8 : Nat) (hp9 : Sl kPt w0 (Fr O) (.slice A6 n7 c8) b) (Q : Bool → Prop) (h : laws_eqPtS.E a b Q) :
    Ret Try.prog 26 [.slice A1 n2 c3, .slice A6 n7 c8] w0 (fun v w' => ∃ (r0 : Bool), v = vb r0 ∧ Q r0 ∧ Gr w0 w' none) := by
  have H : (if (a.length : Int) != (b.length : Int) then Q false else (∃ (I32 : Int → Prop) (mu33 : Int → Nat), I32 0 ∧ ∀ (i2 : Int), I32 i2 → (if decide (i2 < (a.length : Int)) then ((0 : Int) ≤ i2 ∧ i2 < (a.length : Int)) ∧ ((0 : Int) ≤ i2 ∧ i2 < (b.length : Int)) ∧ (if !(decide ((nth a i2) = (nth b i2))) then Q false else (-9223372036854775808 ≤ i2) ∧ I32 (i2 + 1) ∧ mu33 (i2 + 1) < mu33 i2) else Q true))) := h
  clear h
  have hc0 := Ct.init hO
  refine Ret_enter Try.func26 rfl 27 rfl [.tmp 4] rfl rfl ?_
  refine W_seq ?_
  refine W_reg ?_
  refine L_pu (P_assign (vb false) rfl) ?_
  refine L_nil ?_
  refine W_seq ?_
  refine W_seq ?_
  refine W_reg ?_
  refine L_pu (P_move (.slice A1 n2 c3) rfl) ?_
  have hl11 := hp4.le
  refine L_pu (P_len Try.underlying33 A1 n2 c3 hp4.len rfl) ?_
  refine L_pu (P_move (.slice A6 n7 c8) rfl) ?_
  have hl12 := hp9.le
  refine L_pu (P_len Try.underlying33 A6 n7 c8 hp9.len rfl) ?_
  refine L_pu (P_cmp (a.length : Int) (b.length : Int) ((a.length : Int) != (b.length : Int)) rfl rfl rfl) ?_
  refine L_nil ?_
  refine W_cond ((a.length : Int) != (b.length : Int)) rfl (fun hq13 => ?_) (fun hq13 => ?_)
  · have H := ite_t H hq13
    refine W_seq ?_
    refine W_reg ?_
    refine L_pu (P_assign (vb false) rfl) ?_
    refine L_nil ?_
    refine W_ret ?_
    exact ⟨[vb false], ⟨_, rfl, rfl⟩, false, rfl, H, hc0.gr⟩
  · have H := ite_f H hq13
    refine W_skip ?_
    refine W_seq ?_
    refine W_seq ?_
    refine W_reg ?_
    refine L_pu (P_assign (vi 0) rfl) ?_
    refine L_nil ?_
    refine W_block ?_
    obtain ⟨I32, mu33, hI34, H⟩ := H
    refine W_loop (α := Int) (fun (s : Int) t w26 => match s with | i2 => I32 i2 ∧ Has t [(0, .slice A1 n2 c3), (1, .slice A6 n7 c8), (5, vi i2)] ∧ Ct none w0 w26 [] O ∧ Sl kPt w26 (Fr ([] ++ O)) (.slice A1 n2 c3) a ∧ Sl kPt w26 (Fr ([] ++ O)) (.slice A6 n7 c8) b) (fun (s : Int) => match s with | i2 => mu33 i2) 0 ⟨hI34, ⟨rfl, rfl, rfl, trivial⟩, hc0, hp4, hp9⟩ ?_
    rintro i2 _ w26 ⟨hI34, hh36, hc29, h30, h31⟩
    obtain ⟨u37, rfl⟩ := Has.ins hh36
    have H := H i2 hI34
    refine W_seq ?_
    refine W_seq ?_
    refine W_reg ?_
    refine L_pu (P_move (vi i2) rfl) ?_
    refine L_pu (P_move (.slice A1 n2 c3) rfl) ?_
    have hl38 := h30.le
    refine L_pu (P_len Try.underlying33 A1 n2 c3 h30.len rfl) ?_
    refine L_pu (P_cmp i2 (a.length : Int) (decide (i2 < (a.length : Int))) rfl rfl rfl) ?_
    refine L_nil ?_
    refine W_cond (decide (i2 < (a.length : Int))) rfl (fun hq39 => ?_) (fun hq39 => ?_)
    · have H := ite_t H hq39
      refine W_skip ?_
      refine W_seq ?_
      refine W_block ?_
      refine W_seq ?_
      refine W_draw (fun x => Gr w26 x none) (by kernel_rfl) (by kernel_rfl) (Gr.drew _) ?_
      refine Q_pu (P_move (.slice A1 n2 c3) rfl) ?_
      refine Q_pu (P_move (vi i2) rfl) ?_
      obtain ⟨hb40, H⟩ := H
      obtain ⟨ad41, cs42, hA43, hS46, hR44, hcl45⟩ := h30.get default (by decide) i2 hb40
      obtain rfl := kPt.op hR44
      refine Q_pu (P_ia Try.underlying33 se33 A1 ad41 n2 c3 h30.len i2 rfl hA43 rfl hb40) ?_
      refine Q_pu (P_lda ag41 sz41 cQ (ad41.add (i2.toNat * 2)) [vi ((nth a i2).X), vi ((nth a i2).Y)] rfl rfl hcl45) ?_
      refine Q_pu (P_move (.slice A6 n7 c8) rfl) ?_
      refine Q_pu (P_move (vi i2) rfl) ?_
      obtain ⟨hb47, H⟩ := H
      obtain ⟨ad48, cs49, hA50, hS53, hR51, hcl52⟩ := h31.get default (by decide) i2 hb47
      obtain rfl := kPt.op hR51
      refine Q_pu (P_ia Try.underlying33 se33 A6 ad48 n7 c8 h31.len i2 rfl hA50 rfl hb47) ?_
      refine Q_pu (P_lda ag41 sz41 cQ (ad48.add (i2.toNat * 2)) [vi ((nth b i2).X), vi ((nth b i2).Y)] rfl rfl hcl52) ?_
      refine Q_call go49 [.agg #[vi ((nth a i2).X), vi ((nth a i2).Y)], .agg #[vi ((nth b i2).X), vi ((nth b i2).Y)]] rfl (vb (decide ((nth a i2) = (nth b i2)))) (fun w g => (laws_eqPt.calls w (hc29.k0 g).ok (nth a i2) (nth b i2) _ (laws_eqPt.is (nth a i2) (nth b i2))).mono ?_) ?_
      · rintro _ w ⟨r, rfl, rfl, g2⟩
        exact ⟨rfl, Gr.t0 g g2⟩
      refine Q_pu (P_not (decide ((nth a i2) = (nth b i2))) rfl) ?_
      refine Q_nil fun w59 g60 => ?_
      have hc62 := hc29.k0 g60
      refine W_cond (!(decide ((nth a i2) = (nth b i2)))) rfl (fun hq63 => ?_) (fun hq63 => ?_)
      · have H := ite_t H hq63
        refine W_seq ?_
        refine W_reg ?_
        refine L_pu (P_assign (vb false) rfl) ?_
        refine L_nil ?_
        refine W_ret ?_
        exact ⟨[vb false], ⟨_, rfl, rfl⟩, false, rfl, H, hc62.gr⟩
      · have H := ite_f H hq63
        refine W_skip ?_
        refine W_reg ?_
        refine L_pu (P_move (vi i2) rfl) ?_
        obtain ⟨hb65, H⟩ := H
        have hi64 : I64 (i2 + 1) := i64_succ (of_decide_eq_true hq39) hl38 hb65
        refine L_pu (P_add i2 1 rfl rfl hi64) ?_
        refine L_pu (P_assign (vi (i2 + 1)) rfl) ?_
        refine L_nil ?_
        obtain ⟨hI66, hm67⟩ := H
        exact ⟨i2 + 1, hm67, hI66, ⟨rfl, rfl, rfl, trivial⟩, hc62, (h30.st (.new _ g60)), (h31.st (.new _ g60))⟩
    · have H := ite_f H hq39
      refine W_exit (xin_hit ?_)
      refine W_seq ?_
      refine W_reg ?_
      refine L_pu (P_assign (vb true) rfl) ?_
      refine L_nil ?_
      refine W_ret ?_
      exact ⟨[vb true], ⟨_, rfl, rfl⟩, true, rfl, H, hc29.gr⟩
end Go.Proofs.Ytnliofcjplnboaa

namespace Go.Proofs.Ytnliofcjplnboaa
set_option linter.unusedVariables false
set_option linter.unusedSimpArgs false
theorem laws_eqPtS.law (a b : List Pt) (Q : Bool → Prop) (hq : Q (decide (a = b))) : laws_eqPtS.E a b Q := by
  unfold laws_eqPtS.E
  exact eqS_shape (fun x y => decide (x = y)) (fun _ _ => rfl) a b Q hq
theorem laws_eqPtS.is (a b : List Pt) : laws_eqPtS.E a b (fun r => r = decide (a = b)) := laws_eqPtS.law a b _ rfl
end Go.Proofs.Ytnliofcjplnboaa

namespace Go.Proofs.Ytnliofcjplnboaa
open Go.RowKit
set_option linter.unusedVariables false
def laws_markPtS.E (a : List Pt) (k : Int) (Q : Int → List Pt → Prop) : Prop :=
  (∃ (I23 : (List Pt) → Int → Int → Prop) (mu24 : (List Pt) → Int → Int → Nat), I23 a k 0 ∧ ∀ (xs2 : List Pt) (k3 : Int) (i2 : Int), I23 xs2 k3 i2 → (if decide (i2 < (xs2.length : Int)) then ((0 : Int) ≤ i2 ∧ i2 < (xs2.length : Int)) ∧ ((xs2.length : Int) ≤ 9223372036854775807 → I64 (k3 + 1)) ∧ ((0 : Int) ≤ i2 ∧ i2 < ((xs2.set i2.toNat (⟨k3, (nth xs2 i2).Y⟩ : Pt)).length : Int)) ∧ ((xs2.length : Int) ≤ 9223372036854775807 → I64 (k3 + 1 + 1)) ∧ (-9223372036854775808 ≤ i2) ∧ I23 ((xs2.set i2.toNat (⟨k3, (nth xs2 i2).Y⟩ : Pt)).set i2.toNat (⟨(nth (xs2.set i2.toNat (⟨k3, (nth xs2 i2).Y⟩ : Pt)) i2).X, k3 + 1⟩ : Pt)) (k3 + 1 + 1) (i2 + 1) ∧ mu24 ((xs2.set i2.toNat (⟨k3, (nth xs2 i2).Y⟩ : Pt)).set i2.toNat (⟨(nth (xs2.set i2.toNat (⟨k3, (nth xs2 i2).Y⟩ : Pt)) i2).X, k3 + 1⟩ : Pt)) (k3 + 1 + 1) (i2 + 1) < mu24 xs2 k3 i2 else Q k3 xs2))
set_option maxHeartbeats 8000000 in
set_option maxRecDepth 100000 in
theorem laws_markPtS.calls {O : Ob} (w0 : World) (hO : Ok w0 O) (A1 : Option Addr) (n2 c3 : Nat) (a : List Pt) (hp0 : Ow kPt 41 w0 O (.slice A1 n2 c3) a) (k : Int) (Q : Int → List Pt → Prop) (h : laws_markPtS.E a k Q) :
    Ret Try.prog 32 [.slice A1 n2 c3, vi k] w0 (fun v w' => ∃ (r0 : Int) (m0 : List Pt), v = vi r0 ∧ Q r0 m0 ∧ Gr w0 w' (blk (.slice A1 n2 c3)) ∧ Ow kPt 41 w' O (.slice A1 n2 c3) m0) := by
  have H : (∃ (I23 : (List Pt) → Int → Int → Prop) (mu24 : (List Pt) → Int → Int → Nat), I23 a k 0 ∧ ∀ (xs2 : List Pt) (k3 : Int) (i2 : Int), I23 xs2 k3 i2 → (if decide (i2 < (xs2.length : Int)) then ((0 : Int) ≤ i2 ∧ i2 < (xs2.length : Int)) ∧ ((xs2.length : Int) ≤ 9223372036854775807 → I64 (k3 + 1)) ∧ ((0 : Int) ≤ i2 ∧ i2 < ((xs2.set i2.toNat (⟨k3, (nth xs2 i2).Y⟩ : Pt)).length : Int)) ∧ ((xs2.length : Int) ≤ 9223372036854775807 → I64 (k3 + 1 + 1)) ∧ (-9223372036854775808 ≤ i2) ∧ I23 ((xs2.set i2.toNat (⟨k3, (nth xs2 i2).Y⟩ : Pt)).set i2.toNat (⟨(nth (xs2.set i2.toNat (⟨k3, (nth xs2 i2).Y⟩ : Pt)) i2).X, k3 + 1⟩ : Pt)) (k3 + 1 + 1) (i2 + 1) ∧ mu24 ((xs2.set i2.toNat (⟨k3, (nth xs2 i2).Y⟩ : Pt)).set i2.toNat (⟨(nth (xs2.set i2.toNat (⟨k3, (nth xs2 i2).Y⟩ : Pt)) i2).X, k3 + 1⟩ : Pt)) (k3 + 1 + 1) (i2 + 1) < mu24 xs2 k3 i2 else Q k3 xs2)) := h
  clear h
  have hc0 := Ct.initm (m := blk (.slice A1 n2 c3)) hO (by intro b e; exact hp0.mem b e)
  refine Ret_enter Try.func32 rfl 27 rfl [.tmp 4] rfl rfl ?_
  refine W_seq ?_
  refine W_reg ?_
  refine L_pu (P_assign (vi 0) rfl) ?_
  refine L_nil ?_
  refine W_seq ?_
  refine W_seq ?_
  refine W_reg ?_
  refine L_pu (P_assign (vi 0) rfl) ?_
  refine L_nil ?_
  refine W_block ?_
  obtain ⟨I23, mu24, hI25, H⟩ := H
  refine W_loop (α := (List Pt) × Int × Int) (fun (s : (List Pt) × Int × Int) t w16 => match s with | (xs2, k3, i2) => I23 xs2 k3 i2 ∧ Has t [(0, .slice A1 n2 c3), (1, vi k3), (5, vi i2)] ∧ Ct (blk (.slice A1 n2 c3)) w0 w16 [] O ∧ Ow kPt 41 w16 O (.slice A1 n2 c3) xs2) (fun (s : (List Pt) × Int × Int) => match s with | (xs2, k3, i2) => mu24 xs2 k3 i2) (a, k, 0) ⟨hI25, ⟨rfl, rfl, rfl, trivial⟩, hc0, hp0⟩ ?_
  rintro ⟨xs2, k3, i2⟩ _ w16 ⟨hI25, hh27, hc21, h22⟩
  obtain ⟨u28, rfl⟩ := Has.ins hh27
  have H := H xs2 k3 i2 hI25
  refine W_seq ?_
  refine W_seq ?_
  refine W_reg ?_
  refine L_pu (P_move (vi i2) rfl) ?_
  refine L_pu (P_move (.slice A1 n2 c3) rfl) ?_
  have hl29 := h22.le
  refine L_pu (P_len Try.underlying33 A1 n2 c3 h22.len rfl) ?_
  refine L_pu (P_cmp i2 (xs2.length : Int) (decide (i2 < (xs2.length : Int))) rfl rfl rfl) ?_
  refine L_nil ?_
  refine W_cond (decide (i2 < (xs2.length : Int))) rfl (fun hq30 => ?_) (fun hq30 => ?_)
  · have H := ite_t H hq30
    refine W_skip ?_
    refine W_seq ?_
    refine W_block ?_
    refine W_seq ?_
    refine W_reg ?_
    refine L_pu (P_move (.slice A1 n2 c3) rfl) ?_
    refine L_pu (P_move (vi i2) rfl) ?_
    refine L_pu (P_move (vi k3) rfl) ?_
    obtain ⟨hb31, H⟩ := H
    obtain ⟨ad32, cs33, hA34, hR35, hcl36⟩ := h22.get default (by decide) i2 hb31
    obtain rfl := kPt.op hR35
    refine L_pu (P_ia Try.underlying33 se33 A1 ad32 n2 c3 h22.len i2 rfl hA34 rfl hb31) ?_
    refine L_pu (P_fa fa41_0 (ad32.add (i2.toNat * 2)) ((ad32.add (i2.toNat * 2)).add 0) rfl rfl) ?_
    refine L_ste1 A1 n2 c3 xs2 h22 i2 hb31 ad32 hA34 0 rfl [vi k3] rfl sz3 rfl (⟨k3, (nth xs2 i2).Y⟩ : Pt) [vi ((nth xs2 i2).X), vi ((nth xs2 i2).Y)] [vi k3, vi ((nth xs2 i2).Y)] hcl36 rfl rfl (kPt.mk _ _ (⟨k3, (nth xs2 i2).Y⟩ : Pt)) fun w38 g39 h40 => ?_
    have hc41 := hc21.wm g39
    refine L_nil ?_
    refine W_seq ?_
    refine W_reg ?_
    refine L_pu (P_move (vi k3) rfl) ?_
    obtain ⟨hb42, H⟩ := H
    have hi43 := hb42 (len_le hl29)
    refine L_pu (P_add k3 1 rfl rfl hi43) ?_
    refine L_pu (P_assign (vi (k3 + 1)) rfl) ?_
    refine L_nil ?_
    refine W_seq ?_
    refine W_reg ?_
    refine L_pu (P_move (.slice A1 n2 c3) rfl) ?_
    refine L_pu (P_move (vi i2) rfl) ?_
    refine L_pu (P_move (vi (k3 + 1)) rfl) ?_
    obtain ⟨hb44, H⟩ := H
    obtain ⟨ad45, cs46, hA47, hR48, hcl49⟩ := h40.get default (by decide) i2 hb44
    obtain rfl := kPt.op hR48
    refine L_pu (P_ia Try.underlying33 se33 A1 ad45 n2 c3 h40.len i2 rfl hA47 rfl hb44) ?_
    refine L_pu (P_fa fa41_1 (ad45.add (i2.toNat * 2)) ((ad45.add (i2.toNat * 2)).add 1) rfl rfl) ?_
    refine L_ste1 A1 n2 c3 (xs2.set i2.toNat (⟨k3, (nth xs2 i2).Y⟩ : Pt)) h40 i2 hb44 ad45 hA47 1 rfl [vi (k3 + 1)] rfl sz3 rfl (⟨(nth (xs2.set i2.toNat (⟨k3, (nth xs2 i2).Y⟩ : Pt)) i2).X, k3 + 1⟩ : Pt) [vi ((nth (xs2.set i2.toNat (⟨k3, (nth xs2 i2).Y⟩ : Pt)) i2).X), vi ((nth (xs2.set i2.toNat (⟨k3, (nth xs2 i2).Y⟩ : Pt)) i2).Y)] [vi ((nth (xs2.set i2.toNat (⟨k3, (nth xs2 i2).Y⟩ : Pt)) i2).X), vi (k3 + 1)] hcl49 rfl rfl (kPt.mk _ _ (⟨(nth (xs2.set i2.toNat (⟨k3, (nth xs2 i2).Y⟩ : Pt)) i2).X, k3 + 1⟩ : Pt)) fun w51 g52 h53 => ?_
    have hc54 := hc41.wm g52
    refine L_nil ?_
    refine W_reg ?_
    refine L_pu (P_move (vi (k3 + 1)) rfl) ?_
    obtain ⟨hb55, H⟩ := H
    have hi56 := hb55 (len_le hl29)
    refine L_pu (P_add (k3 + 1) 1 rfl rfl hi56) ?_
    refine L_pu (P_assign (vi (k3 + 1 + 1)) rfl) ?_
    refine L_nil ?_
    refine W_reg ?_
    refine L_pu (P_move (vi i2) rfl) ?_
    obtain ⟨hb58, H⟩ := H
    have hi57 : I64 (i2 + 1) := i64_succ (of_decide_eq_true hq30) hl29 hb58
    refine L_pu (P_add i2 1 rfl rfl hi57) ?_
    refine L_pu (P_assign (vi (i2 + 1)) rfl) ?_
    refine L_nil ?_
    obtain ⟨hI59, hm60⟩ := H
    exact ⟨(((xs2.set i2.toNat (⟨k3, (nth xs2 i2).Y⟩ : Pt)).set i2.toNat (⟨(nth (xs2.set i2.toNat (⟨k3, (nth xs2 i2).Y⟩ : Pt)) i2).X, k3 + 1⟩ : Pt)), k3 + 1 + 1, i2 + 1), hm60, hI59, ⟨rfl, rfl, rfl, trivial⟩, hc54, h53⟩
  · have H := ite_f H hq30
    refine W_exit (xin_hit ?_)
    refine W_seq ?_
    refine W_reg ?_
    refine L_pu (P_move (vi k3) rfl) ?_
    refine L_pu (P_assign (vi k3) rfl) ?_
    refine L_nil ?_
    refine W_ret ?_
    exact ⟨[vi k3], ⟨_, rfl, rfl⟩, k3, xs2, rfl, H, hc21.gr, h22⟩
end Go.Proofs.Ytnliofcjplnboaa

namespace Go.Proofs.Ytnliofcjplnboaa
set_option linter.unusedVariables false
set_option linter.unusedSimpArgs false
def markedPt (n : Nat) (k : Int) : List Pt := (List.range n).map fun i : Nat => ⟨k + 2 * (i : Int), k + 2 * (i : Int) + 1⟩
theorem markedPt_len (n : Nat) (k : Int) : (markedPt n k).length = n := by simp [markedPt]
theorem markedPt_nth (n : Nat) (k : Int) {i : Nat} (h : i < n) : nth (markedPt n k) (i : Int) = ⟨k + 2 * i, k + 2 * i + 1⟩ := by
  rw [nth_nat _ (by rw [markedPt_len]; exact h)]; simp [markedPt]
theorem laws_markPtS.law (a : List Pt) (k : Int) (Q : Int → List Pt → Prop) (ha : a.length ≤ 1048576) (h0 : 0 ≤ k) (h1 : k ≤ 1000000000) (hq : Q (k + 2 * a.length) (markedPt a.length k)) : laws_markPtS.E a k Q := by
  unfold laws_markPtS.E
  refine ⟨fun xs k' i => ∃ u : Nat, i = u ∧ u ≤ a.length ∧ k' = k + 2 * u ∧ xs.length = a.length ∧ xs.take u = markedPt u k, fun _ _ i => (a.length - i).toNat, ⟨0, rfl, Nat.zero_le _, by omega, rfl, rfl⟩, ?_⟩
  rintro xs _ _ ⟨u, rfl, hu, rfl, hl, ht⟩
  rw [hl]
  by_cases h : (u : Int) < (a.length : Int)
  · rw [if_pos (by simpa using h)]
    have hu' : u < xs.length := by omega
    rw [Int.toNat_natCast, nth_set _ hu', if_pos rfl, List.set_set]
    refine ⟨by omega, fun _ => by unfold I64; omega, by simp only [List.length_set]; omega, fun _ => by unfold I64; omega, by omega, ⟨u + 1, by omega, by omega, by omega, by rw [List.length_set]; exact hl, ?_⟩, by dsimp only; omega⟩
    rw [List.take_succ_eq_append_getElem (by rw [List.length_set]; exact hu'), List.getElem_set_self, List.take_set_of_le (Nat.le_refl _), ht]
    unfold markedPt
    rw [List.range_succ, List.map_append]
    rfl
  · rw [if_neg (by simpa using h)]
    have : u = a.length := by omega
    subst this
    rw [List.take_of_length_le (by omega)] at ht
    rw [ht]; exact hq
end Go.Proofs.Ytnliofcjplnboaa

namespace Go.Proofs.Ytnliofcjplnboaa
open Go.RowKit
set_option linter.unusedVariables false
def laws_markPairS.E (a : List Pair) (k : Int) (Q : Int → List Pair → Prop) : Prop :=
  (∃ (I23 : (List Pair) → Int → Int → Prop) (mu24 : (List Pair) → Int → Int → Nat), I23 a k 0 ∧ ∀ (xs2 : List Pair) (k3 : Int) (i2 : Int), I23 xs2 k3 i2 → (if decide (i2 < (xs2.length : Int)) then ((0 : Int) ≤ i2 ∧ i2 < (xs2.length : Int)) ∧ ((xs2.length : Int) ≤ 9223372036854775807 → I64 (k3 + 1)) ∧ ((0 : Int) ≤ i2 ∧ i2 < ((xs2.set i2.toNat (⟨k3, (nth xs2 i2).B⟩ : Pair)).length : Int)) ∧ ((xs2.length : Int) ≤ 9223372036854775807 → I64 (k3 + 1 + 1)) ∧ (-9223372036854775808 ≤ i2) ∧ I23 ((xs2.set i2.toNat (⟨k3, (nth xs2 i2).B⟩ : Pair)).set i2.toNat (⟨(nth (xs2.set i2.toNat (⟨k3, (nth xs2 i2).B⟩ : Pair)) i2).A, k3 + 1⟩ : Pair)) (k3 + 1 + 1) (i2 + 1) ∧ mu24 ((xs2.set i2.toNat (⟨k3, (nth xs2 i2).B⟩ : Pair)).set i2.toNat (⟨(nth (xs2.set i2.toNat (⟨k3, (nth xs2 i2).B⟩ : Pair)) i2).A, k3 + 1⟩ : Pair)) (k3 + 1 + 1) (i2 + 1) < mu24 xs2 k3 i2 else Q k3 xs2))
set_option maxHeartbeats 8000000 in
set_option maxRecDepth 100000 in
theorem laws_markPairS.calls {O : Ob} (w0 : World) (hO : Ok w0 O) (A1 : Option Addr) (n2 c3 : Nat) (a : List Pair) (hp0 : Ow kPair 46 w0 O (.slice A1 n2 c3) a) (k : Int) (Q : Int → List Pair → Prop) (h : laws_markPairS.E a k Q) :
    Ret Try.prog 33 [.slice A1 n2 c3, vi k] w0 (fun v w' => ∃ (r0 : Int) (m0 : List Pair), v = vi r0 ∧ Q r0 m0 ∧ Gr w0 w' (blk (.slice A1 n2 c3)) ∧ Ow kPair 46 w' O (.slice A1 n2 c3) m0) := by
  have H : (∃ (I23 : (List Pair) → Int → Int → Prop) (mu24 : (List Pair) → Int → Int → Nat), I23 a k 0 ∧ ∀ (xs2 : List Pair) (k3 : Int) (i2 : Int), I23 xs2 k3 i2 → (if decide (i2 < (xs2.length : Int)) then ((0 : Int) ≤ i2 ∧ i2 < (xs2.length : Int)) ∧ ((xs2.length : Int) ≤ 9223372036854775807 → I64 (k3 + 1)) ∧ ((0 : Int) ≤ i2 ∧ i2 < ((xs2.set i2.toNat (⟨k3, (nth xs2 i2).B⟩ : Pair)).length : Int)) ∧ ((xs2.length : Int) ≤ 9223372036854775807 → I64 (k3 + 1 + 1)) ∧ (-9223372036854775808 ≤ i2) ∧ I23 ((xs2.set i2.toNat (⟨k3, (nth xs2 i2).B⟩ : Pair)).set i2.toNat (⟨(nth (xs2.set i2.toNat (⟨k3, (nth xs2 i2).B⟩ : Pair)) i2).A, k3 + 1⟩ : Pair)) (k3 + 1 + 1) (i2 + 1) ∧ mu24 ((xs2.set i2.toNat (⟨k3, (nth xs2 i2).B⟩ : Pair)).set i2.toNat (⟨(nth (xs2.set i2.toNat (⟨k3, (nth xs2 i2).B⟩ : Pair)) i2).A, k3 + 1⟩ : Pair)) (k3 + 1 + 1) (i2 + 1) < mu24 xs2 k3 i2 else Q k3 xs2)) := h
  clear h
  have hc0 := Ct.initm (m := blk (.slice A1 n2 c3)) hO (by intro b e; exact hp0.mem b e)
  refine Ret_enter Try.func33 rfl 27 rfl [.tmp 4] rfl rfl ?_
  refine W_seq ?_
  refine W_reg ?_
  refine L_pu (P_assign (vi 0) rfl) ?_
  refine L_nil ?_
  refine W_seq ?_
  refine W_seq ?_
  refine W_reg ?_
  refine L_pu (P_assign (vi 0) rfl) ?_
  refine L_nil ?_
  refine W_block ?_
  obtain ⟨I23, mu24, hI25, H⟩ := H
  refine W_loop (α := (List Pair) × Int × Int) (fun (s : (List Pair) × Int × Int) t w16 => match s with | (xs2, k3, i2) => I23 xs2 k3 i2 ∧ Has t [(0, .slice A1 n2 c3), (1, vi k3), (5, vi i2)] ∧ Ct (blk (.slice A1 n2 c3)) w0 w16 [] O ∧ Ow kPair 46 w16 O (.slice A1 n2 c3) xs2) (fun (s : (List Pair) × Int × Int) => match s with | (xs2, k3, i2) => mu24 xs2 k3 i2) (a, k, 0) ⟨hI25, ⟨rfl, rfl, rfl, trivial⟩, hc0, hp0⟩ ?_
  rintro ⟨xs2, k3, i2⟩ _ w16 ⟨hI25, hh27, hc21, h22⟩
  obtain ⟨u28, rfl⟩ := Has.ins hh27
  have H := H xs2 k3 i2 hI25
  refine W_seq ?_
  refine W_seq ?_
  refine W_reg ?_
  refine L_pu (P_move (vi i2) rfl) ?_
  refine L_pu (P_move (.slice A1 n2 c3) rfl) ?_
  have hl29 := h22.le
  refine L_pu (P_len Try.underlying43 A1 n2 c3 h22.len rfl) ?_
  refine L_pu (P_cmp i2 (xs2.length : Int) (decide (i2 < (xs2.length : Int))) rfl rfl rfl) ?_
  refine L_nil ?_
  refine W_cond (decide (i2 < (xs2.length : Int))) rfl (fun hq30 => ?_) (fun hq30 => ?_)
  · have H := ite_t H hq30
    refine W_skip ?_
    refine W_seq ?_
    refine W_block ?_
    refine W_seq ?_
    refine W_reg ?_
    refine L_pu (P_move (.slice A1 n2 c3) rfl) ?_
    refine L_pu (P_move (vi i2) rfl) ?_
    refine L_pu (P_move (vi k3) rfl) ?_
    obtain ⟨hb31, H⟩ := H
    obtain ⟨ad32, cs33, hA34, hR35, hcl36⟩ := h22.get default (by decide) i2 hb31
    obtain rfl := kPair.op hR35
    refine L_pu (P_ia Try.underlying43 se43 A1 ad32 n2 c3 h22.len i2 rfl hA34 rfl hb31) ?_
    refine L_pu (P_fa fa46_0 (ad32.add (i2.toNat * 2)) ((ad32.add (i2.toNat * 2)).add 0) rfl rfl) ?_
    refine L_ste1 A1 n2 c3 xs2 h22 i2 hb31 ad32 hA34 0 rfl [vi k3] rfl sz3 rfl (⟨k3, (nth xs2 i2).B⟩ : Pair) [vi ((nth xs2 i2).A), vi ((nth xs2 i2).B)] [vi k3, vi ((nth xs2 i2).B)] hcl36 rfl rfl (kPair.mk _ _ (⟨k3, (nth xs2 i2).B⟩ : Pair)) fun w38 g39 h40 => ?_
    have hc41 := hc21.wm g39
    refine L_nil ?_
    refine W_seq ?_
    refine W_reg ?_
    refine L_pu (P_move (vi k3) rfl) ?_
    obtain ⟨hb42, H⟩ := H
    have hi43 := hb42 (len_le hl29)
    refine L_pu (P_add k3 1 rfl rfl hi43) ?_
    refine L_pu (P_assign (vi (k3 + 1)) rfl) ?_
    refine L_nil ?_
    refine W_seq ?_
    refine W_reg ?_
    refine L_pu (P_move (.slice A1 n2 c3) rfl) ?_
    refine L_pu (P_move (vi i2) rfl) ?_
    refine L_pu (P_move (vi (k3 + 1)) rfl) ?_
    obtain ⟨hb44, H⟩ := H
    obtain ⟨ad45, cs46, hA47, hR48, hcl49⟩ := h40.get default (by decide) i2 hb44
    obtain rfl := kPair.op hR48
    refine L_pu (P_ia Try.underlying43 se43 A1 ad45 n2 c3 h40.len i2 rfl hA47 rfl hb44) ?_
    refine L_pu (P_fa fa46_1 (ad45.add (i2.toNat * 2)) ((ad45.add (i2.toNat * 2)).add 1) rfl rfl) ?_
    refine L_ste1 A1 n2 c3 (xs2.set i2.toNat (⟨k3, (nth xs2 i2).B⟩ : Pair)) h40 i2 hb44 ad45 hA47 1 rfl [vi (k3 + 1)] rfl sz3 rfl (⟨(nth (xs2.set i2.toNat (⟨k3, (nth xs2 i2).B⟩ : Pair)) i2).A, k3 + 1⟩ : Pair) [vi ((nth (xs2.set i2.toNat (⟨k3, (nth xs2 i2).B⟩ : Pair)) i2).A), vi ((nth (xs2.set i2.toNat (⟨k3, (nth xs2 i2).B⟩ : Pair)) i2).B)] [vi ((nth (xs2.set i2.toNat (⟨k3, (nth xs2 i2).B⟩ : Pair)) i2).A), vi (k3 + 1)] hcl49 rfl rfl (kPair.mk _ _ (⟨(nth (xs2.set i2.toNat (⟨k3, (nth xs2 i2).B⟩ : Pair)) i2).A, k3 + 1⟩ : Pair)) fun w51 g52 h53 => ?_
    have hc54 := hc41.wm g52
    refine L_nil ?_
    refine W_reg ?_
    refine L_pu (P_move (vi (k3 + 1)) rfl) ?_
    obtain ⟨hb55, H⟩ := H
    have hi56 := hb55 (len_le hl29)
    refine L_pu (P_add (k3 + 1) 1 rfl rfl hi56) ?_
    refine L_pu (P_assign (vi (k3 + 1 + 1)) rfl) ?_
    refine L_nil ?_
    refine W_reg ?_
    refine L_pu (P_move (vi i2) rfl) ?_
    obtain ⟨hb58, H⟩ := H
    have hi57 : I64 (i2 + 1) := i64_succ (of_decide_eq_true hq30) hl29 hb58
    refine L_pu (P_add i2 1 rfl rfl hi57) ?_
    refine L_pu (P_assign (vi (i2 + 1)) rfl) ?_
    refine L_nil ?_
    obtain ⟨hI59, hm60⟩ := H
    exact ⟨(((xs2.set i2.toNat (⟨k3, (nth xs2 i2).B⟩ : Pair)).set i2.toNat (⟨(nth (xs2.set i2.toNat (⟨k3, (nth xs2 i2).B⟩ : Pair)) i2).A, k3 + 1⟩ : Pair)), k3 + 1 + 1, i2 + 1), hm60, hI59, ⟨rfl, rfl, rfl, trivial⟩, hc54, h53⟩
  · have H := ite_f H hq30
    refine W_exit (xin_hit ?_)
    refine W_seq ?_
    refine W_reg ?_
    refine L_pu (P_move (vi k3) rfl) ?_
    refine L_pu (P_assign (vi k3) rfl) ?_
    refine L_nil ?_
    refine W_ret ?_
    exact ⟨[vi k3], ⟨_, rfl, rfl⟩, k3, xs2, rfl, H, hc21.gr, h22⟩
end Go.Proofs.Ytnliofcjplnboaa

namespace Go.Proofs.Ytnliofcjplnboaa
set_option linter.unusedVariables false
set_option linter.unusedSimpArgs false
def markedPair (n : Nat) (k : Int) : List Pair := (List.range n).map fun i : Nat => ⟨k + 2 * (i : Int), k + 2 * (i : Int) + 1⟩
theorem markedPair_len (n : Nat) (k : Int) : (markedPair n k).length = n := by simp [markedPair]
theorem markedPair_nth (n : Nat) (k : Int) {i : Nat} (h : i < n) : nth (markedPair n k) (i : Int) = ⟨k + 2 * i, k + 2 * i + 1⟩ := by
  rw [nth_nat _ (by rw [markedPair_len]; exact h)]; simp [markedPair]
theorem laws_markPairS.law (a : List Pair) (k : Int) (Q : Int → List Pair → Prop) (ha : a.length ≤ 1048576) (h0 : 0 ≤ k) (h1 : k ≤ 1000000000) (hq : Q (k + 2 * a.length) (markedPair a.length k)) : laws_markPairS.E a k Q := by
  unfold laws_markPairS.E
  refine ⟨fun xs k' i => ∃ u : Nat, i = u ∧ u ≤ a.length ∧ k' = k + 2 * u ∧ xs.length = a.length ∧ xs.take u = markedPair u k, fun _ _ i => (a.length - i).toNat, ⟨0, rfl, Nat.zero_le _, by omega, rfl, rfl⟩, ?_⟩
  rintro xs _ _ ⟨u, rfl, hu, rfl, hl, ht⟩
  rw [hl]
  by_cases h : (u : Int) < (a.length : Int)
  · rw [if_pos (by simpa using h)]
    have hu' : u < xs.length := by omega
    rw [Int.toNat_natCast, nth_set _ hu', if_pos rfl, List.set_set]
    refine ⟨by omega, fun _ => by unfold I64; omega, by simp only [List.length_set]; omega, fun _ => by unfold I64; omega, by omega, ⟨u + 1, by omega, by omega, by omega, by rw [List.length_set]; exact hl, ?_⟩, by dsimp only; omega⟩
    rw [List.take_succ_eq_append_getElem (by rw [List.length_set]; exact hu'), List.getElem_set_self, List.take_set_of_le (Nat.le_refl _), ht]
    unfold markedPair
    rw [List.range_succ, List.map_append]
    rfl
  · rw [if_neg (by simpa using h)]
    have : u = a.length := by omega
    subst this
    rw [List.take_of_length_le (by omega)] at ht
    rw [ht]; exact hq
end Go.Proofs.Ytnliofcjplnboaa

namespace Go.Proofs.Ytnliofcjplnboaa
open Go.RowKit
set_option linter.unusedVariables false
def laws_heldPairS.E (a : List Pair) (k : Int) (Q : Int → Prop) : Prop :=
  (∃ (I18 : Int → Int → Prop) (mu19 : Int → Int → Nat), I18 k 0 ∧ ∀ (k3 : Int) (i2 : Int), I18 k3 i2 → (if decide (i2 < (a.length : Int)) then ((0 : Int) ≤ i2 ∧ i2 < (a.length : Int)) ∧ (if ((nth a i2).A) != k3 then Q (-1) else ((a.length : Int) ≤ 9223372036854775807 → I64 (k3 + 1)) ∧ ((0 : Int) ≤ i2 ∧ i2 < (a.length : Int)) ∧ (if ((nth a i2).B) != (k3 + 1) then Q (-1) else ((a.length : Int) ≤ 9223372036854775807 → I64 (k3 + 1 + 1)) ∧ (-9223372036854775808 ≤ i2) ∧ I18 (k3 + 1 + 1) (i2 + 1) ∧ mu19 (k3 + 1 + 1) (i2 + 1) < mu19 k3 i2)) else Q k3))
set_option maxHeartbeats 8000000 in
set_option maxRecDepth 100000 in
theorem laws_heldPairS.calls {O : Ob} (w0 : World) (hO : Ok w0 O) (a : List Pair) (A1 : Option Addr) (n2 c3 : Nat) (hp4 : Sl kPair w0 (Fr O) (.slice A1 n2 c3) a) (k : Int) (Q : Int → Prop) (h : laws_heldPairS.E a k Q) :
    Ret Try.prog 34 [.slice A1 n2 c3, vi k] w0 (fun v w' => ∃ (r0 : Int), v = vi r0 ∧ Q r0 ∧ Gr w0 w' none) := by
  have H : (∃ (I18 : Int → Int → Prop) (mu19 : Int → Int → Nat), I18 k 0 ∧ ∀ (k3 : Int) (i2 : Int), I18 k3 i2 → (if decide (i2 < (a.length : Int)) then ((0 : Int) ≤ i2 ∧ i2 < (a.length : Int)) ∧ (if ((nth a i2).A) != k3 then Q (-1) else ((a.length : Int) ≤ 9223372036854775807 → I64 (k3 + 1)) ∧ ((0 : Int) ≤ i2 ∧ i2 < (a.length : Int)) ∧ (if ((nth a i2).B) != (k3 + 1) then Q (-1) else ((a.length : Int) ≤ 9223372036854775807 → I64 (k3 + 1 + 1)) ∧ (-9223372036854775808 ≤ i2) ∧ I18 (k3 + 1 + 1) (i2 + 1) ∧ mu19 (k3 + 1 + 1) (i2 + 1) < mu19 k3 i2)) else Q k3)) := h
  clear h
  have hc0 := Ct.init hO
  refine Ret_enter Try.func34 rfl 31 rfl [.tmp 4] rfl rfl ?_
  refine W_seq ?_
  refine W_reg ?_
  refine L_pu (P_assign (vi 0) rfl) ?_
  refine L_nil ?_
  refine W_seq ?_
  refine W_seq ?_
  refine W_reg ?_
  refine L_pu (P_assign (vi 0) rfl) ?_
  refine L_nil ?_
  refine W_block ?_
  obtain ⟨I18, mu19, hI20, H⟩ := H
  refine W_loop (α := Int × Int) (fun (s : Int × Int) t w14 => match s with | (k3, i2) => I18 k3 i2 ∧ Has t [(0, .slice A1 n2 c3), (1, vi k3), (5, vi i2)] ∧ Ct none w0 w14 [] O ∧ Sl kPair w14 (Fr ([] ++ O)) (.slice A1 n2 c3) a) (fun (s : Int × Int) => match s with | (k3, i2) => mu19 k3 i2) (k, 0) ⟨hI20, ⟨rfl, rfl, rfl, trivial⟩, hc0, hp4⟩ ?_
  rintro ⟨k3, i2⟩ _ w14 ⟨hI20, hh22, hc16, h17⟩
  obtain ⟨u23, rfl⟩ := Has.ins hh22
  have H := H k3 i2 hI20
  refine W_seq ?_
  refine W_seq ?_
  refine W_reg ?_
  refine L_pu (P_move (vi i2) rfl) ?_
  refine L_pu (P_move (.slice A1 n2 c3) rfl) ?_
  have hl24 := h17.le
  refine L_pu (P_len Try.underlying43 A1 n2 c3 h17.len rfl) ?_
  refine L_pu (P_cmp i2 (a.length : Int) (decide (i2 < (a.length : Int))) rfl rfl rfl) ?_
  refine L_nil ?_
  refine W_cond (decide (i2 < (a.length : Int))) rfl (fun hq25 => ?_) (fun hq25 => ?_)
  · have H := ite_t H hq25
    refine W_skip ?_
    refine W_seq ?_
    refine W_block ?_
    refine W_seq ?_
    refine W_seq ?_
    refine W_reg ?_
    refine L_pu (P_move (.slice A1 n2 c3) rfl) ?_
    refine L_pu (P_move (vi i2) rfl) ?_
    obtain ⟨hb26, H⟩ := H
    obtain ⟨ad27, cs28, hA29, hS32, hR30, hcl31⟩ := h17.get default (by decide) i2 hb26
    obtain rfl := kPair.op hR30
    refine L_pu (P_ia Try.underlying43 se43 A1 ad27 n2 c3 h17.len i2 rfl hA29 rfl hb26) ?_
    refine L_pu (P_fa fa46_0 (ad27.add (i2.toNat * 2)) ((ad27.add (i2.toNat * 2)).add 0) rfl rfl) ?_
    refine L_pu (P_ld ag3 cL ((ad27.add (i2.toNat * 2)).add 0) (vi ((nth a i2).A)) rfl (hcl31 0 _ rfl)) ?_
    refine L_pu (P_move (vi k3) rfl) ?_
    refine L_pu (P_cmp ((nth a i2).A) k3 (((nth a i2).A) != k3) rfl rfl rfl) ?_
    refine L_nil ?_
    refine W_cond (((nth a i2).A) != k3) rfl (fun hq33 => ?_) (fun hq33 => ?_)
    · have H := ite_t H hq33
      refine W_seq ?_
      refine W_reg ?_
      refine L_pu (P_assign (vi (-1)) rfl) ?_
      refine L_nil ?_
      refine W_ret ?_
      exact ⟨[vi (-1)], ⟨_, rfl, rfl⟩, (-1), rfl, H, hc16.gr⟩
    · have H := ite_f H hq33
      refine W_skip ?_
      refine W_seq ?_
      refine W_reg ?_
      refine L_pu (P_move (vi k3) rfl) ?_
      obtain ⟨hb34, H⟩ := H
      have hi35 := hb34 (len_le hl24)
      refine L_pu (P_add k3 1 rfl rfl hi35) ?_
      refine L_pu (P_assign (vi (k3 + 1)) rfl) ?_
      refine L_nil ?_
      refine W_seq ?_
      refine W_seq ?_
      refine W_reg ?_
      refine L_pu (P_move (.slice A1 n2 c3) rfl) ?_
      refine L_pu (P_move (vi i2) rfl) ?_
      obtain ⟨hb36, H⟩ := H
      obtain ⟨ad37, cs38, hA39, hS42, hR40, hcl41⟩ := h17.get default (by decide) i2 hb36
      obtain rfl := kPair.op hR40
      refine L_pu (P_ia Try.underlying43 se43 A1 ad37 n2 c3 h17.len i2 rfl hA39 rfl hb36) ?_
      refine L_pu (P_fa fa46_1 (ad37.add (i2.toNat * 2)) ((ad37.add (i2.toNat * 2)).add 1) rfl rfl) ?_
      refine L_pu (P_ld ag3 cL ((ad37.add (i2.toNat * 2)).add 1) (vi ((nth a i2).B)) rfl (hcl41 1 _ rfl)) ?_
      refine L_pu (P_move (vi (k3 + 1)) rfl) ?_
      refine L_pu (P_cmp ((nth a i2).B) (k3 + 1) (((nth a i2).B) != (k3 + 1)) rfl rfl rfl) ?_
      refine L_nil ?_
      refine W_cond (((nth a i2).B) != (k3 + 1)) rfl (fun hq43 => ?_) (fun hq43 => ?_)
      · have H := ite_t H hq43
        refine W_seq ?_
        refine W_reg ?_
        refine L_pu (P_assign (vi (-1)) rfl) ?_
        refine L_nil ?_
        refine W_ret ?_
        exact ⟨[vi (-1)], ⟨_, rfl, rfl⟩, (-1), rfl, H, hc16.gr⟩
      · have H := ite_f H hq43
        refine W_skip ?_
        refine W_reg ?_
        refine L_pu (P_move (vi (k3 + 1)) rfl) ?_
        obtain ⟨hb44, H⟩ := H
        have hi45 := hb44 (len_le hl24)
        refine L_pu (P_add (k3 + 1) 1 rfl rfl hi45) ?_
        refine L_pu (P_assign (vi (k3 + 1 + 1)) rfl) ?_
        refine L_nil ?_
        refine W_reg ?_
        refine L_pu (P_move (vi i2) rfl) ?_
        obtain ⟨hb47, H⟩ := H
        have hi46 : I64 (i2 + 1) := i64_succ (of_decide_eq_true hq25) hl24 hb47
        refine L_pu (P_add i2 1 rfl rfl hi46) ?_
        refine L_pu (P_assign (vi (i2 + 1)) rfl) ?_
        refine L_nil ?_
        obtain ⟨hI48, hm49⟩ := H
        exact ⟨(k3 + 1 + 1, i2 + 1), hm49, hI48, ⟨rfl, rfl, rfl, trivial⟩, hc16, h17⟩
  · have H := ite_f H hq25
    refine W_exit (xin_hit ?_)
    refine W_seq ?_
    refine W_reg ?_
    refine L_pu (P_move (vi k3) rfl) ?_
    refine L_pu (P_assign (vi k3) rfl) ?_
    refine L_nil ?_
    refine W_ret ?_
    exact ⟨[vi k3], ⟨_, rfl, rfl⟩, k3, rfl, H, hc16.gr⟩
end Go.Proofs.Ytnliofcjplnboaa

namespace Go.Proofs.Ytnliofcjplnboaa
set_option linter.unusedVariables false
set_option linter.unusedSimpArgs false
theorem laws_heldPairS.law (n : Nat) (k : Int) (Q : Int → Prop) (ha : n ≤ 1048576) (h0 : 0 ≤ k) (h1 : k ≤ 1000000000) (hq : Q (k + 2 * n)) : laws_heldPairS.E (markedPair n k) k Q := by
  unfold laws_heldPairS.E
  rw [markedPair_len]
  refine ⟨fun k' i => ∃ u : Nat, i = u ∧ u ≤ n ∧ k' = k + 2 * u, fun _ i => (n - i).toNat, ⟨0, rfl, Nat.zero_le _, by omega⟩, ?_⟩
  rintro _ _ ⟨u, rfl, hu, rfl⟩
  by_cases h : (u : Int) < (n : Int)
  · rw [if_pos (by simpa using h), markedPair_nth n k (by omega)]
    refine ⟨by omega, ?_⟩
    rw [if_neg (by simp)]
    refine ⟨fun _ => by unfold I64; omega, by omega, ?_⟩
    rw [if_neg (by simp)]
    exact ⟨fun _ => by unfold I64; omega, by omega, ⟨u + 1, by omega, by omega, by omega⟩, by dsimp only; omega⟩
  · rw [if_neg (by simpa using h)]
    have : u = n := by omega
    subst this
    exact hq
end Go.Proofs.Ytnliofcjplnboaa

namespace Go.Proofs.Ytnliofcjplnboaa
open Go.RowKit
set_option linter.unusedVariables false
def laws_FnExactSeqPairs.E (aA : List Pt) (aB : List Pt) (Q : Bool → Prop) : Prop :=
  laws_szPtS.E aA 1048576 (fun r => (if decide (r < 0) then Q true else laws_szPtS.E aB r (fun r2 => (if decide (r2 < 0) then Q true else laws_toPtS.E aA (fun r3 => laws_toPtS.E aB (fun r4 => spec_SeqPairs.E r3 r4 (fun r5 => laws_toPtS.E aA (fun r6 => laws_toPtS.E aB (fun r7 => impl_SeqPairs.E r6 r7 (fun r8 => laws_eqPairS.E r8 r5 (fun r9 => (if !r9 then Q false else laws_toPtS.E aA (fun r10 => laws_eqPtS.E r6 r10 (fun r11 => (if !r11 then Q false else laws_toPtS.E aB (fun r12 => laws_eqPtS.E r7 r12 (fun r13 => (if !r13 then Q false else laws_markPtS.E r6 1 (fun r14 m => laws_markPtS.E r7 r14 (fun r15 m2 => (if decide (r15 < 0) then Q false else laws_eqPairS.E r8 r5 (fun r16 => (if !r16 then Q false else laws_markPairS.E r8 1 (fun r17 m3 => laws_heldPairS.E m3 1 (fun r18 => (if decide (r18 < 0) then Q false else (if r18 != r17 then Q false else laws_toPtS.E aA (fun r19 => laws_toPtS.E aB (fun r20 => impl_SeqPairs.E r19 r20 (fun r21 => laws_eqPairS.E r21 r5 (fun r22 => (if !r22 then Q false else laws_heldPairS.E m3 1 (fun r23 => (if decide (r23 < 0) then Q false else (if r23 != r17 then Q false else Q true)))))))))))))))))))))))))))))))))))
set_option maxHeartbeats 8000000 in
set_option maxRecDepth 100000 in
theorem laws_FnExactSeqPairs.calls {O : Ob} (w0 : World) (hO : Ok w0 O) (aA : List Pt) (A1 : Option Addr) (n2 c3 : Nat) (hp4 : Sl kPt w0 (Fr O) (.slice A1 n2 c3) aA) (aB : List Pt) (A6 : Option Addr) (n7 c8 : Nat) (hp9 : Sl kPt w0 (Fr O) (.slice A6 n7 c8) aB) (Q : Bool → Prop) (h : laws_FnExactSeqPairs.E aA aB Q) :
    Ret Try.prog 9 [.slice A1 n2 c3, .slice A6 n7 c8] w0 (fun v w' => ∃ (r0 : Bool), v = vb r0 ∧ Q r0 ∧ Gr w0 w' none) := by
  have H : laws_szPtS.E aA 1048576 (fun r => (if decide (r < 0) then Q true else laws_szPtS.E aB r (fun r2 => (if decide (r2 < 0) then Q true else laws_toPtS.E aA (fun r3 => laws_toPtS.E aB (fun r4 => spec_SeqPairs.E r3 r4 (fun r5 => laws_toPtS.E aA (fun r6 => laws_toPtS.E aB (fun r7 => impl_SeqPairs.E r6 r7 (fun r8 => laws_eqPairS.E r8 r5 (fun r9 => (if !r9 then Q false else laws_toPtS.E aA (fun r10 => laws_eqPtS.E r6 r10 (fun r11 => (if !r11 then Q false else laws_toPtS.E aB (fun r12 => laws_eqPtS.E r7 r12 (fun r13 => (if !r13 then Q false else laws_markPtS.E r6 1 (fun r14 m => laws_markPtS.E r7 r14 (fun r15 m2 => (if decide (r15 < 0) then Q false else laws_eqPairS.E r8 r5 (fun r16 => (if !r16 then Q false else laws_markPairS.E r8 1 (fun r17 m3 => laws_heldPairS.E m3 1 (fun r18 => (if decide (r18 < 0) then Q false else (if r18 != r17 then Q false else laws_toPtS.E aA (fun r19 => laws_toPtS.E aB (fun r20 => impl_SeqPairs.E r19 r20 (fun r21 => laws_eqPairS.E r21 r5 (fun r22 => (if !r22 then Q false else laws_heldPairS.E m3 1 (fun r23 => (if decide (r23 < 0) then Q false else (if r23 != r17 then Q false else Q true))))))))))))))))))))))))))))))))))) := h
  clear h
  have hc0 := Ct.init hO
  refine Ret_enter Try.func9 rfl 92 rfl [.tmp 4] rfl rfl ?_
  refine W_seq ?_
  refine W_reg ?_
  refine L_pu (P_assign (vb false) rfl) ?_
  refine L_nil ?_
  refine W_seq ?_
  refine W_reg ?_
  refine L_pu (P_assign (vi 1048576) rfl) ?_
  refine L_nil ?_
  refine W_seq ?_
  refine W_reg ?_
  refine L_pu (P_move (.slice A1 n2 c3) rfl) ?_
  refine L_pu (P_move (vi 1048576) rfl) ?_
  refine L_call go22 [.slice A1 n2 c3, vi 1048576] rfl ((laws_szPtS.calls w0 hc0.ok aA A1 n2 c3 hp4 1048576 _ H).mono ?_)
  rintro _ w11 ⟨r, rfl, H, g12, _⟩
  have hc16 := hc0.k0 g12
  refine L_pu (P_assign (vi r) rfl) ?_
  refine L_nil ?_
  refine W_seq ?_
  refine W_seq ?_
  refine W_reg ?_
  refine L_pu (P_move (vi r) rfl) ?_
  refine L_pu (P_cmp r 0 (decide (r < 0)) rfl rfl rfl) ?_
  refine L_nil ?_
  refine W_cond (decide (r < 0)) rfl (fun hq17 => ?_) (fun hq17 => ?_)
  · have H := ite_t H hq17
    refine W_seq ?_
    refine W_reg ?_
    refine L_pu (P_assign (vb true) rfl) ?_
    refine L_nil ?_
    refine W_ret ?_
    exact ⟨[vb true], ⟨_, rfl, rfl⟩, true, rfl, H, hc16.gr⟩
  · have H := ite_f H hq17
    refine W_skip ?_
    refine W_seq ?_
    refine W_reg ?_
    refine L_pu (P_move (.slice A6 n7 c8) rfl) ?_
    refine L_pu (P_move (vi r) rfl) ?_
    refine L_call go22 [.slice A6 n7 c8, vi r] rfl ((laws_szPtS.calls w11 hc16.ok aB A6 n7 c8 (hp9.st hc16.st) r _ H).mono ?_)
    rintro _ w18 ⟨r2, rfl, H, g19, _⟩
    have hc23 := hc16.k0 g19
    refine L_pu (P_assign (vi r2) rfl) ?_
    refine L_nil ?_
    refine W_seq ?_
    refine W_seq ?_
    refine W_reg ?_
    refine L_pu (P_move (vi r2) rfl) ?_
    refine L_pu (P_cmp r2 0 (decide (r2 < 0)) rfl rfl rfl) ?_
    refine L_nil ?_
    refine W_cond (decide (r2 < 0)) rfl (fun hq24 => ?_) (fun hq24 => ?_)
    · have H := ite_t H hq24
      refine W_seq ?_
      refine W_reg ?_
      refine L_pu (P_assign (vb true) rfl) ?_
      refine L_nil ?_
      refine W_ret ?_
      exact ⟨[vb true], ⟨_, rfl, rfl⟩, true, rfl, H, hc23.gr⟩
    · have H := ite_f H hq24
      refine W_skip ?_
      refine W_seq ?_
      refine W_reg ?_
      refine L_pu (P_move (.slice A1 n2 c3) rfl) ?_
      refine L_call go24 [.slice A1 n2 c3] rfl ((laws_toPtS.calls w18 hc23.ok aA A1 n2 c3 (hp4.st hc23.st) _ H).mono ?_)
      rintro _ w25 ⟨r3, A27, n28, c29, rfl, H, g26, hk33, hk34, h30⟩
      have hc35 := hc23.owns g26 hk33 hk34
      refine L_pu (P_move (.slice A6 n7 c8) rfl) ?_
      refine L_call go24 [.slice A6 n7 c8] rfl ((laws_toPtS.calls w25 hc35.ok aB A6 n7 c8 (hp9.st hc35.st) _ H).mono ?_)
      rintro _ w36 ⟨r4, A38, n39, c40, rfl, H, g37, hk44, hk45, h41⟩
      have hc46 := hc35.owns g37 hk44 hk45
      have h47 := (h30.sos g37 hk45)
      have h48 := Ow.gv (L := [blk (.slice A38 n39 c40), blk (.slice A27 n28 c29)]) (O := O) h47 hc46 (i := 1) rfl
      have hc49 := hc46.drop 1 rfl
      have h51 := (Ow.sd (L := [blk (.slice A38 n39 c40), blk (.slice A27 n28 c29)]) (O := O) h41 (i := 0) rfl (j := 1) rfl (by decide))
      have h52 := Ow.gv (L := [blk (.slice A38 n39 c40)]) (O := O) h51 hc49 (i := 0) rfl
      have hc53 := hc49.drop 0 rfl
      have h55 := (h48.st (.dr _ (L := [blk (.slice A38 n39 c40)]) (O := O) (j := 0) rfl))
      refine L_call go30 [.slice A27 n28 c29, .slice A38 n39 c40] rfl ((spec_SeqPairs.calls w36 hc53.ok r3 A27 n28 c29 h55 r4 A38 n39 c40 h52 _ H).mono ?_)
      rintro _ w56 ⟨r5, A58, n59, c60, rfl, H, g57, hk64, hk65, h61⟩
      have hk67 := Ok.unl (L := [blk (.slice A38 n39 c40), blk (.slice A27 n28 c29)]) (L' := []) (O := O) hc46 g57 hk64 hk65
      have h68 := Ow.unl (L := [blk (.slice A38 n39 c40), blk (.slice A27 n28 c29)]) (L' := []) (O := O) (fun _ _ _ _ _ _ h => h) (.cons _ (.cons _ (.slnil))) h61
      have hc66 := hc46.owns g57 hk67 hk65
      refine L_pu (P_assign (.slice A58 n59 c60) rfl) ?_
      refine L_nil ?_
      refine W_seq ?_
      refine W_reg ?_
      refine L_pu (P_move (.slice A1 n2 c3) rfl) ?_
      refine L_call go24 [.slice A1 n2 c3] rfl ((laws_toPtS.calls w56 hc66.ok aA A1 n2 c3 (hp4.st hc66.st) _ H).mono ?_)
      rintro _ w69 ⟨r6, A71, n72, c73, rfl, H, g70, hk77, hk78, h74⟩
      have hc79 := hc66.owns g70 hk77 hk78
      refine L_pu (P_assign (.slice A71 n72 c73) rfl) ?_
      refine L_nil ?_
      refine W_seq ?_
      refine W_reg ?_
      refine L_pu (P_move (.slice A6 n7 c8) rfl) ?_
      refine L_call go24 [.slice A6 n7 c8] rfl ((laws_toPtS.calls w69 hc79.ok aB A6 n7 c8 (hp9.st hc79.st) _ H).mono ?_)
      rintro _ w80 ⟨r7, A82, n83, c84, rfl, H, g81, hk88, hk89, h85⟩
      have hc90 := hc79.owns g81 hk88 hk89
      refine L_pu (P_assign (.slice A82 n83 c84) rfl) ?_
      refine L_nil ?_
      refine W_seq ?_
      refine W_reg ?_
      refine L_pu (P_move (.slice A71 n72 c73) rfl) ?_
      refine L_pu (P_move (.slice A82 n83 c84) rfl) ?_
      have h91 := (h74.sos g81 hk89)
      have h92 := Ow.gv (L := [blk (.slice A82 n83 c84), blk (.slice A71 n72 c73), blk (.slice A58 n59 c60), blk (.slice A38 n39 c40), blk (.slice A27 n28 c29)]) (O := O) h91 hc90 (i := 1) rfl
      have hc93 := hc90.drop 1 rfl
      have h95 := (Ow.sd (L := [blk (.slice A82 n83 c84), blk (.slice A71 n72 c73), blk (.slice A58 n59 c60), blk (.slice A38 n39 c40), blk (.slice A27 n28 c29)]) (O := O) h85 (i := 0) rfl (j := 1) rfl (by decide))
      have h96 := Ow.gv (L := [blk (.slice A82 n83 c84), blk (.slice A58 n59 c60), blk (.slice A38 n39 c40), blk (.slice A27 n28 c29)]) (O := O) h95 hc93 (i := 0) rfl
      have hc97 := hc93.drop 0 rfl
      have h99 := (h92.st (.dr _ (L := [blk (.slice A82 n83 c84), blk (.slice A58 n59 c60), blk (.slice A38 n39 c40), blk (.slice A27 n28 c29)]) (O := O) (j := 0) rfl))
      refine L_call go29 [.slice A71 n72 c73, .slice A82 n83 c84] rfl ((impl_SeqPairs.calls w80 hc97.ok r6 A71 n72 c73 h99 r7 A82 n83 c84 h96 _ H).mono ?_)
      rintro _ w100 ⟨r8, A102, n103, c104, rfl, H, g101, hk108, hk109, h105⟩
      have hk111 := Ok.unl (L := [blk (.slice A82 n83 c84), blk (.slice A71 n72 c73), blk (.slice A58 n59 c60), blk (.slice A38 n39 c40), blk (.slice A27 n28 c29)]) (L' := [blk (.slice A58 n59 c60), blk (.slice A38 n39 c40), blk (.slice A27 n28 c29)]) (O := O) hc90 g101 hk108 hk109
      have h112 := Ow.unl (L := [blk (.slice A82 n83 c84), blk (.slice A71 n72 c73), blk (.slice A58 n59 c60), blk (.slice A38 n39 c40), blk (.slice A27 n28 c29)]) (L' := [blk (.slice A58 n59 c60), blk (.slice A38 n39 c40), blk (.slice A27 n28 c29)]) (O := O) (fun _ _ _ _ _ _ h => h) (.cons _ (.cons _ (.cons_cons _ (.cons_cons _ (.cons_cons _ (.slnil)))))) h105
      have hc110 := hc90.owns g101 hk111 hk109
      refine L_pu (P_assign (.slice A102 n103 c104) rfl) ?_
      refine L_nil ?_
      refine W_seq ?_
      refine W_seq ?_
      refine W_reg ?_
      refine L_pu (P_move (.slice A102 n103 c104) rfl) ?_
      refine L_pu (P_move (.slice A58 n59 c60) rfl) ?_
      have h113 := Ow.gv (L := [blk (.slice A102 n103 c104), blk (.slice A82 n83 c84), blk (.slice A71 n72 c73), blk (.slice A58 n59 c60), blk (.slice A38 n39 c40), blk (.slice A27 n28 c29)]) (O := O) h112 hc110 (i := 0) rfl
      have hc114 := hc110.drop 0 rfl
      have h116 := (Ow.sd (L := [blk (.slice A102 n103 c104), blk (.slice A82 n83 c84), blk (.slice A71 n72 c73), blk (.slice A58 n59 c60), blk (.slice A38 n39 c40), blk (.slice A27 n28 c29)]) (O := O) (((h68.sos g70 hk78).sos g81 hk89).sos g101 hk109) (i := 3) rfl (j := 0) rfl (by decide))
      have h117 := Ow.gv (L := [blk (.slice A82 n83 c84), blk (.slice A71 n72 c73), blk (.slice A58 n59 c60), blk (.slice A38 n39 c40), blk (.slice A27 n28 c29)]) (O := O) h116 hc114 (i := 2) rfl
      have hc118 := hc114.drop 2 rfl
      have h120 := (h113.st (.dr _ (L := [blk (.slice A82 n83 c84), blk (.slice A71 n72 c73), blk (.slice A58 n59 c60), blk (.slice A38 n39 c40), blk (.slice A27 n28 c29)]) (O := O) (j := 2) rfl))
      refine L_call go31 [.slice A102 n103 c104, .slice A58 n59 c60] rfl ((laws_eqPairS.calls w100 hc118.ok r8 A102 n103 c104 h120 r5 A58 n59 c60 h117 _ H).mono ?_)
      rintro _ w121 ⟨r9, rfl, H, g122⟩
      have hc126 := hc110.k0 g122
      refine L_pu (P_not r9 rfl) ?_
      refine L_nil ?_
      refine W_cond (!r9) rfl (fun hq127 => ?_) (fun hq127 => ?_)
      · have H := ite_t H hq127
        refine W_seq ?_
        refine W_reg ?_
        refine L_pu (P_assign (vb false) rfl) ?_
        refine L_nil ?_
        refine W_ret ?_
        have hc128 := hc126.drop 0 rfl
        have hc129 := hc128.drop 0 rfl
        have hc130 := hc129.drop 0 rfl
        have hc131 := hc130.drop 0 rfl
        have hc132 := hc131.drop 0 rfl
        have hc133 := hc132.drop 0 rfl
        exact ⟨[vb false], ⟨_, rfl, rfl⟩, false, rfl, H, hc133.gr⟩
      · have H := ite_f H hq127
        refine W_skip ?_
        refine W_seq ?_
        refine W_seq ?_
        refine W_reg ?_
        refine L_pu (P_move (.slice A71 n72 c73) rfl) ?_
        refine L_pu (P_move (.slice A1 n2 c3) rfl) ?_
        refine L_call go24 [.slice A1 n2 c3] rfl ((laws_toPtS.calls w121 hc126.ok aA A1 n2 c3 (hp4.st hc126.st) _ H).mono ?_)
        rintro _ w134 ⟨r10, A136, n137, c138, rfl, H, g135, hk142, hk143, h139⟩
        have hc144 := hc126.owns g135 hk142 hk143
        have h145 := ((((h74.sos g81 hk89).sos g101 hk109).sn g122).sos g135 hk143)
        have h146 := Ow.gv (L := [blk (.slice A136 n137 c138), blk (.slice A102 n103 c104), blk (.slice A82 n83 c84), blk (.slice A71 n72 c73), blk (.slice A58 n59 c60), blk (.slice A38 n39 c40), blk (.slice A27 n28 c29)]) (O := O) h145 hc144 (i := 3) rfl
        have hc147 := hc144.drop 3 rfl
        have h149 := (Ow.sd (L := [blk (.slice A136 n137 c138), blk (.slice A102 n103 c104), blk (.slice A82 n83 c84), blk (.slice A71 n72 c73), blk (.slice A58 n59 c60), blk (.slice A38 n39 c40), blk (.slice A27 n28 c29)]) (O := O) h139 (i := 0) rfl (j := 3) rfl (by decide))
        have h150 := Ow.gv (L := [blk (.slice A136 n137 c138), blk (.slice A102 n103 c104), blk (.slice A82 n83 c84), blk (.slice A58 n59 c60), blk (.slice A38 n39 c40), blk (.slice A27 n28 c29)]) (O := O) h149 hc147 (i := 0) rfl
        have hc151 := hc147.drop 0 rfl
        have h153 := (h146.st (.dr _ (L := [blk (.slice A136 n137 c138), blk (.slice A102 n103 c104), blk (.slice A82 n83 c84), blk (.slice A58 n59 c60), blk (.slice A38 n39 c40), blk (.slice A27 n28 c29)]) (O := O) (j := 0) rfl))
        refine L_call go26 [.slice A71 n72 c73, .slice A136 n137 c138] rfl ((laws_eqPtS.calls w134 hc151.ok r6 A71 n72 c73 h153 r10 A136 n137 c138 h150 _ H).mono ?_)
        rintro _ w154 ⟨r11, rfl, H, g155⟩
        have hc159 := hc144.k0 g155
        refine L_pu (P_not r11 rfl) ?_
        refine L_nil ?_
        refine W_cond (!r11) rfl (fun hq160 => ?_) (fun hq160 => ?_)
        · have H := ite_t H hq160
          refine W_seq ?_
          refine W_reg ?_
          refine L_pu (P_assign (vb false) rfl) ?_
          refine L_nil ?_
          refine W_ret ?_
          have hc161 := hc159.drop 0 rfl
          have hc162 := hc161.drop 0 rfl
          have hc163 := hc162.drop 0 rfl
          have hc164 := hc163.drop 0 rfl
          have hc165 := hc164.drop 0 rfl
          have hc166 := hc165.drop 0 rfl
          have hc167 := hc166.drop 0 rfl
          exact ⟨[vb false], ⟨_, rfl, rfl⟩, false, rfl, H, hc167.gr⟩
        · have H := ite_f H hq160
          refine W_skip ?_
          refine W_seq ?_
          refine W_seq ?_
          refine W_reg ?_
          refine L_pu (P_move (.slice A82 n83 c84) rfl) ?_
          refine L_pu (P_move (.slice A6 n7 c8) rfl) ?_
          refine L_call go24 [.slice A6 n7 c8] rfl ((laws_toPtS.calls w154 hc159.ok aB A6 n7 c8 (hp9.st hc159.st) _ H).mono ?_)
          rintro _ w168 ⟨r12, A170, n171, c172, rfl, H, g169, hk176, hk177, h173⟩
          have hc178 := hc159.owns g169 hk176 hk177
          have h179 := (((((h85.sos g101 hk109).sn g122).sos g135 hk143).sn g155).sos g169 hk177)
          have h180 := Ow.gv (L := [blk (.slice A170 n171 c172), blk (.slice A136 n137 c138), blk (.slice A102 n103 c104), blk (.slice A82 n83 c84), blk (.slice A71 n72 c73), blk (.slice A58 n59 c60), blk (.slice A38 n39 c40), blk (.slice A27 n28 c29)]) (O := O) h179 hc178 (i := 3) rfl
          have hc181 := hc178.drop 3 rfl
          have h183 := (Ow.sd (L := [blk (.slice A170 n171 c172), blk (.slice A136 n137 c138), blk (.slice A102 n103 c104), blk (.slice A82 n83 c84), blk (.slice A71 n72 c73), blk (.slice A58 n59 c60), blk (.slice A38 n39 c40), blk (.slice A27 n28 c29)]) (O := O) h173 (i := 0) rfl (j := 3) rfl (by decide))
          have h184 := Ow.gv (L := [blk (.slice A170 n171 c172), blk (.slice A136 n137 c138), blk (.slice A102 n103 c104), blk (.slice A71 n72 c73), blk (.slice A58 n59 c60), blk (.slice A38 n39 c40), blk (.slice A27 n28 c29)]) (O := O) h183 hc181 (i := 0) rfl
          have hc185 := hc181.drop 0 rfl
          have h187 := (h180.st (.dr _ (L := [blk (.slice A170 n171 c172), blk (.slice A136 n137 c138), blk (.slice A102 n103 c104), blk (.slice A71 n72 c73), blk (.slice A58 n59 c60), blk (.slice A38 n39 c40), blk (.slice A27 n28 c29)]) (O := O) (j := 0) rfl))
          refine L_call go26 [.slice A82 n83 c84, .slice A170 n171 c172] rfl ((laws_eqPtS.calls w168 hc185.ok r7 A82 n83 c84 h187 r12 A170 n171 c172 h184 _ H).mono ?_)
          rintro _ w188 ⟨r13, rfl, H, g189⟩
          have hc193 := hc178.k0 g189
          refine L_pu (P_not r13 rfl) ?_
          refine L_nil ?_
          refine W_cond (!r13) rfl (fun hq194 => ?_) (fun hq194 => ?_)
          · have H := ite_t H hq194
            refine W_seq ?_
            refine W_reg ?_
            refine L_pu (P_assign (vb false) rfl) ?_
            refine L_nil ?_
            refine W_ret ?_
            have hc195 := hc193.drop 0 rfl
            have hc196 := hc195.drop 0 rfl
            have hc197 := hc196.drop 0 rfl
            have hc198 := hc197.drop 0 rfl
            have hc199 := hc198.drop 0 rfl
            have hc200 := hc199.drop 0 rfl
            have hc201 := hc200.drop 0 rfl
            have hc202 := hc201.drop 0 rfl
            exact ⟨[vb false], ⟨_, rfl, rfl⟩, false, rfl, H, hc202.gr⟩
          · have H := ite_f H hq194
            refine W_skip ?_
            refine W_seq ?_
            refine W_reg ?_
            refine L_pu (P_assign (vi 1) rfl) ?_
            refine L_nil ?_
            refine W_seq ?_
            refine W_reg ?_
            refine L_pu (P_move (.slice A71 n72 c73) rfl) ?_
            refine L_pu (P_move (vi 1) rfl) ?_
            have h203 := (((((((h74.sos g81 hk89).sos g101 hk109).sn g122).sos g135 hk143).sn g155).sos g169 hk177).sn g189)
            refine L_call go32 [.slice A71 n72 c73, vi 1] rfl ((laws_markPtS.calls w188 hc193.ok A71 n72 c73 r6 h203 1 _ H).mono ?_)
            rintro _ w204 ⟨r14, m, rfl, H, g205, hx206⟩
            have hc209 := hc193.wr 4 rfl g205
            refine L_pu (P_assign (vi r14) rfl) ?_
            refine L_nil ?_
            refine W_seq ?_
            refine W_reg ?_
            refine L_pu (P_move (.slice A82 n83 c84) rfl) ?_
            refine L_pu (P_move (vi r14) rfl) ?_
            have h210 := (Ow.sw (L := [blk (.slice A170 n171 c172), blk (.slice A136 n137 c138), blk (.slice A102 n103 c104), blk (.slice A82 n83 c84), blk (.slice A71 n72 c73), blk (.slice A58 n59 c60), blk (.slice A38 n39 c40), blk (.slice A27 n28 c29)]) (O := O) ((((((h85.sos g101 hk109).sn g122).sos g135 hk143).sn g155).sos g169 hk177).sn g189) hc193 (i := 3) rfl (j := 4) rfl (by decide) g205)
            refine L_call go32 [.slice A82 n83 c84, vi r14] rfl ((laws_markPtS.calls w204 hc209.ok A82 n83 c84 r7 h210 r14 _ H).mono ?_)
            rintro _ w211 ⟨r15, m2, rfl, H, g212, hx213⟩
            have hc216 := hc209.wr 3 rfl g212
            refine L_pu (P_assign (vi r15) rfl) ?_
            refine L_nil ?_
            refine W_seq ?_
            refine W_seq ?_
            refine W_reg ?_
            refine L_pu (P_move (vi r15) rfl) ?_
            refine L_pu (P_cmp r15 0 (decide (r15 < 0)) rfl rfl rfl) ?_
            refine L_pu (P_move (vb (decide (r15 < 0))) rfl) ?_
            rcases bool_or (decide (r15 < 0)) with hq217 | hq217
            · have H := ite_t H hq217
              refine L_pass (dj := 58) rfl rfl (.inl (by exact congrArg Value.bool hq217)) ?_
              refine L_pass (dj := 58) rfl rfl (.inl (by exact congrArg Value.bool hq217)) ?_
              refine L_pass (dj := 58) rfl rfl (.inl (by exact congrArg Value.bool hq217)) ?_
              refine L_pass (dj := 58) rfl rfl (.inl (by exact congrArg Value.bool hq217)) ?_
              refine L_pu (P_pick true (vb true) (by exact congrArg Value.bool hq217) rfl) ?_
              refine L_nil ?_
              refine W_ct (b := true) rfl rfl ?_
              refine W_seq ?_
              refine W_reg ?_
              refine L_pu (P_assign (vb false) rfl) ?_
              refine L_nil ?_
              refine W_ret ?_
              have hc218 := hc216.drop 0 rfl
              have hc219 := hc218.drop 0 rfl
              have hc220 := hc219.drop 0 rfl
              have hc221 := hc220.drop 0 rfl
              have hc222 := hc221.drop 0 rfl
              have hc223 := hc222.drop 0 rfl
              have hc224 := hc223.drop 0 rfl
              have hc225 := hc224.drop 0 rfl
              exact ⟨[vb false], ⟨_, rfl, rfl⟩, false, rfl, H, hc225.gr⟩
            · have H := ite_f H hq217
              refine L_run (dj := 58) rfl rfl (by exact congrArg Value.bool hq217) ?_
              refine L_pu (P_move (.slice A102 n103 c104) rfl) ?_
              refine L_run (dj := 58) rfl rfl (by exact congrArg Value.bool hq217) ?_
              refine L_pu (P_move (.slice A58 n59 c60) rfl) ?_
              refine L_run (dj := 58) rfl rfl (by exact congrArg Value.bool hq217) ?_
              have h226 := (Ow.sw (L := [blk (.slice A170 n171 c172), blk (.slice A136 n137 c138), blk (.slice A102 n103 c104), blk (.slice A82 n83 c84), blk (.slice A71 n72 c73), blk (.slice A58 n59 c60), blk (.slice A38 n39 c40), blk (.slice A27 n28 c29)]) (O := O) (Ow.sw (L := [blk (.slice A170 n171 c172), blk (.slice A136 n137 c138), blk (.slice A102 n103 c104), blk (.slice A82 n83 c84), blk (.slice A71 n72 c73), blk (.slice A58 n59 c60), blk (.slice A38 n39 c40), blk (.slice A27 n28 c29)]) (O := O) (((((h112.sn g122).sos g135 hk143).sn g155).sos g169 hk177).sn g189) hc193 (i := 2) rfl (j := 4) rfl (by decide) g205) hc209 (i := 2) rfl (j := 3) rfl (by decide) g212)
              have h227 := Ow.gv (L := [blk (.slice A170 n171 c172), blk (.slice A136 n137 c138), blk (.slice A102 n103 c104), blk (.slice A82 n83 c84), blk (.slice A71 n72 c73), blk (.slice A58 n59 c60), blk (.slice A38 n39 c40), blk (.slice A27 n28 c29)]) (O := O) h226 hc216 (i := 2) rfl
              have hc228 := hc216.drop 2 rfl
              have h230 := (Ow.sd (L := [blk (.slice A170 n171 c172), blk (.slice A136 n137 c138), blk (.slice A102 n103 c104), blk (.slice A82 n83 c84), blk (.slice A71 n72 c73), blk (.slice A58 n59 c60), blk (.slice A38 n39 c40), blk (.slice A27 n28 c29)]) (O := O) (Ow.sw (L := [blk (.slice A170 n171 c172), blk (.slice A136 n137 c138), blk (.slice A102 n103 c104), blk (.slice A82 n83 c84), blk (.slice A71 n72 c73), blk (.slice A58 n59 c60), blk (.slice A38 n39 c40), blk (.slice A27 n28 c29)]) (O := O) (Ow.sw (L := [blk (.slice A170 n171 c172), blk (.slice A136 n137 c138), blk (.slice A102 n103 c104), blk (.slice A82 n83 c84), blk (.slice A71 n72 c73), blk (.slice A58 n59 c60), blk (.slice A38 n39 c40), blk (.slice A27 n28 c29)]) (O := O) ((((((((h68.sos g70 hk78).sos g81 hk89).sos g101 hk109).sn g122).sos g135 hk143).sn g155).sos g169 hk177).sn g189) hc193 (i := 5) rfl (j := 4) rfl (by decide) g205) hc209 (i := 5) rfl (j := 3) rfl (by decide) g212) (i := 5) rfl (j := 2) rfl (by decide))
              have h231 := Ow.gv (L := [blk (.slice A170 n171 c172), blk (.slice A136 n137 c138), blk (.slice A82 n83 c84), blk (.slice A71 n72 c73), blk (.slice A58 n59 c60), blk (.slice A38 n39 c40), blk (.slice A27 n28 c29)]) (O := O) h230 hc228 (i := 4) rfl
              have hc232 := hc228.drop 4 rfl
              have h234 := (h227.st (.dr _ (L := [blk (.slice A170 n171 c172), blk (.slice A136 n137 c138), blk (.slice A82 n83 c84), blk (.slice A71 n72 c73), blk (.slice A58 n59 c60), blk (.slice A38 n39 c40), blk (.slice A27 n28 c29)]) (O := O) (j := 4) rfl))
              refine L_call go31 [.slice A102 n103 c104, .slice A58 n59 c60] rfl ((laws_eqPairS.calls w211 hc232.ok r8 A102 n103 c104 h234 r5 A58 n59 c60 h231 _ H).mono ?_)
              rintro _ w235 ⟨r16, rfl, H, g236⟩
              have hc240 := hc216.k0 g236
              refine L_run (dj := 58) rfl rfl (by exact congrArg Value.bool hq217) ?_
              refine L_pu (P_not r16 rfl) ?_
              refine L_pu (P_pick false (vb (!r16)) (by exact congrArg Value.bool hq217) rfl) ?_
              refine L_nil ?_
              refine W_cond (!r16) rfl (fun hq241 => ?_) (fun hq241 => ?_)
              · have H := ite_t H hq241
                refine W_seq ?_
                refine W_reg ?_
                refine L_pu (P_assign (vb false) rfl) ?_
                refine L_nil ?_
                refine W_ret ?_
                have hc242 := hc240.drop 0 rfl
                have hc243 := hc242.drop 0 rfl
                have hc244 := hc243.drop 0 rfl
                have hc245 := hc244.drop 0 rfl
                have hc246 := hc245.drop 0 rfl
                have hc247 := hc246.drop 0 rfl
                have hc248 := hc247.drop 0 rfl
                have hc249 := hc248.drop 0 rfl
                exact ⟨[vb false], ⟨_, rfl, rfl⟩, false, rfl, H, hc249.gr⟩
              · have H := ite_f H hq241
                refine W_skip ?_
                refine W_seq ?_
                refine W_reg ?_
                refine L_pu (P_assign (vi 1) rfl) ?_
                refine L_nil ?_
                refine W_seq ?_
                refine W_reg ?_
                refine L_pu (P_move (.slice A102 n103 c104) rfl) ?_
                refine L_pu (P_move (vi 1) rfl) ?_
                have h250 := ((Ow.sw (L := [blk (.slice A170 n171 c172), blk (.slice A136 n137 c138), blk (.slice A102 n103 c104), blk (.slice A82 n83 c84), blk (.slice A71 n72 c73), blk (.slice A58 n59 c60), blk (.slice A38 n39 c40), blk (.slice A27 n28 c29)]) (O := O) (Ow.sw (L := [blk (.slice A170 n171 c172), blk (.slice A136 n137 c138), blk (.slice A102 n103 c104), blk (.slice A82 n83 c84), blk (.slice A71 n72 c73), blk (.slice A58 n59 c60), blk (.slice A38 n39 c40), blk (.slice A27 n28 c29)]) (O := O) (((((h112.sn g122).sos g135 hk143).sn g155).sos g169 hk177).sn g189) hc193 (i := 2) rfl (j := 4) rfl (by decide) g205) hc209 (i := 2) rfl (j := 3) rfl (by decide) g212).sn g236)
                refine L_call go33 [.slice A102 n103 c104, vi 1] rfl ((laws_markPairS.calls w235 hc240.ok A102 n103 c104 r8 h250 1 _ H).mono ?_)
                rintro _ w251 ⟨r17, m3, rfl, H, g252, hx253⟩
                have hc256 := hc240.wr 2 rfl g252
                refine L_pu (P_assign (vi r17) rfl) ?_
                refine L_nil ?_
                refine W_seq ?_
                refine W_reg ?_
                refine L_pu (P_assign (vi 1) rfl) ?_
                refine L_nil ?_
                refine W_seq ?_
                refine W_reg ?_
                refine L_pu (P_move (.slice A102 n103 c104) rfl) ?_
                refine L_pu (P_move (vi 1) rfl) ?_
                have h257 := Ow.gv (L := [blk (.slice A170 n171 c172), blk (.slice A136 n137 c138), blk (.slice A102 n103 c104), blk (.slice A82 n83 c84), blk (.slice A71 n72 c73), blk (.slice A58 n59 c60), blk (.slice A38 n39 c40), blk (.slice A27 n28 c29)]) (O := O) hx253 hc256 (i := 2) rfl
                have hc258 := hc256.drop 2 rfl
                refine L_call go34 [.slice A102 n103 c104, vi 1] rfl ((laws_heldPairS.calls w251 hc258.ok m3 A102 n103 c104 h257 1 _ H).mono ?_)
                rintro _ w260 ⟨r18, rfl, H, g261⟩
                have hc265 := hc256.k0 g261
                refine L_pu (P_assign (vi r18) rfl) ?_
                refine L_nil ?_
                refine W_seq ?_
                refine W_seq ?_
                refine W_reg ?_
                refine L_pu (P_move (vi r18) rfl) ?_
                refine L_pu (P_cmp r18 0 (decide (r18 < 0)) rfl rfl rfl) ?_
                refine L_nil ?_
                refine W_cond (decide (r18 < 0)) rfl (fun hq266 => ?_) (fun hq266 => ?_)
                · have H := ite_t H hq266
                  refine W_seq ?_
                  refine W_reg ?_
                  refine L_pu (P_assign (vb false) rfl) ?_
                  refine L_nil ?_
                  refine W_ret ?_
                  have hc267 := hc265.drop 0 rfl
                  have hc268 := hc267.drop 0 rfl
                  have hc269 := hc268.drop 0 rfl
                  have hc270 := hc269.drop 0 rfl
                  have hc271 := hc270.drop 0 rfl
                  have hc272 := hc271.drop 0 rfl
                  have hc273 := hc272.drop 0 rfl
                  have hc274 := hc273.drop 0 rfl
                  exact ⟨[vb false], ⟨_, rfl, rfl⟩, false, rfl, H, hc274.gr⟩
                · have H := ite_f H hq266
                  refine W_skip ?_
                  refine W_seq ?_
                  refine W_seq ?_
                  refine W_reg ?_
                  refine L_pu (P_move (vi r18) rfl) ?_
                  refine L_pu (P_move (vi r17) rfl) ?_
                  refine L_pu (P_cmp r18 r17 (r18 != r17) rfl rfl rfl) ?_
                  refine L_nil ?_
                  refine W_cond (r18 != r17) rfl (fun hq275 => ?_) (fun hq275 => ?_)
                  · have H := ite_t H hq275
                    refine W_seq ?_
                    refine W_reg ?_
                    refine L_pu (P_assign (vb false) rfl) ?_
                    refine L_nil ?_
                    refine W_ret ?_
                    have hc276 := hc265.drop 0 rfl
                    have hc277 := hc276.drop 0 rfl
                    have hc278 := hc277.drop 0 rfl
                    have hc279 := hc278.drop 0 rfl
                    have hc280 := hc279.drop 0 rfl
                    have hc281 := hc280.drop 0 rfl
                    have hc282 := hc281.drop 0 rfl
                    have hc283 := hc282.drop 0 rfl
                    exact ⟨[vb false], ⟨_, rfl, rfl⟩, false, rfl, H, hc283.gr⟩
                  · have H := ite_f H hq275
                    refine W_skip ?_
                    refine W_seq ?_
                    refine W_reg ?_
                    refine L_pu (P_move (.slice A1 n2 c3) rfl) ?_
                    refine L_call go24 [.slice A1 n2 c3] rfl ((laws_toPtS.calls w260 hc265.ok aA A1 n2 c3 (hp4.st hc265.st) _ H).mono ?_)
                    rintro _ w284 ⟨r19, A286, n287, c288, rfl, H, g285, hk292, hk293, h289⟩
                    have hc294 := hc265.owns g285 hk292 hk293
                    refine L_pu (P_move (.slice A6 n7 c8) rfl) ?_
                    refine L_call go24 [.slice A6 n7 c8] rfl ((laws_toPtS.calls w284 hc294.ok aB A6 n7 c8 (hp9.st hc294.st) _ H).mono ?_)
                    rintro _ w295 ⟨r20, A297, n298, c299, rfl, H, g296, hk303, hk304, h300⟩
                    have hc305 := hc294.owns g296 hk303 hk304
                    have h306 := (h289.sos g296 hk304)
                    have h307 := Ow.gv (L := [blk (.slice A297 n298 c299), blk (.slice A286 n287 c288), blk (.slice A170 n171 c172), blk (.slice A136 n137 c138), blk (.slice A102 n103 c104), blk (.slice A82 n83 c84), blk (.slice A71 n72 c73), blk (.slice A58 n59 c60), blk (.slice A38 n39 c40), blk (.slice A27 n28 c29)]) (O := O) h306 hc305 (i := 1) rfl
                    have hc308 := hc305.drop 1 rfl
                    have h310 := (Ow.sd (L := [blk (.slice A297 n298 c299), blk (.slice A286 n287 c288), blk (.slice A170 n171 c172), blk (.slice A136 n137 c138), blk (.slice A102 n103 c104), blk (.slice A82 n83 c84), blk (.slice A71 n72 c73), blk (.slice A58 n59 c60), blk (.slice A38 n39 c40), blk (.slice A27 n28 c29)]) (O := O) h300 (i := 0) rfl (j := 1) rfl (by decide))
                    have h311 := Ow.gv (L := [blk (.slice A297 n298 c299), blk (.slice A170 n171 c172), blk (.slice A136 n137 c138), blk (.slice A102 n103 c104), blk (.slice A82 n83 c84), blk (.slice A71 n72 c73), blk (.slice A58 n59 c60), blk (.slice A38 n39 c40), blk (.slice A27 n28 c29)]) (O := O) h310 hc308 (i := 0) rfl
                    have hc312 := hc308.drop 0 rfl
                    have h314 := (h307.st (.dr _ (L := [blk (.slice A297 n298 c299), blk (.slice A170 n171 c172), blk (.slice A136 n137 c138), blk (.slice A102 n103 c104), blk (.slice A82 n83 c84), blk (.slice A71 n72 c73), blk (.slice A58 n59 c60), blk (.slice A38 n39 c40), blk (.slice A27 n28 c29)]) (O := O) (j := 0) rfl))
                    refine L_call go29 [.slice A286 n287 c288, .slice A297 n298 c299] rfl ((impl_SeqPairs.calls w295 hc312.ok r19 A286 n287 c288 h314 r20 A297 n298 c299 h311 _ H).mono ?_)
                    rintro _ w315 ⟨r21, A317, n318, c319, rfl, H, g316, hk323, hk324, h320⟩
                    have hk326 := Ok.unl (L := [blk (.slice A297 n298 c299), blk (.slice A286 n287 c288), blk (.slice A170 n171 c172), blk (.slice A136 n137 c138), blk (.slice A102 n103 c104), blk (.slice A82 n83 c84), blk (.slice A71 n72 c73), blk (.slice A58 n59 c60), blk (.slice A38 n39 c40), blk (.slice A27 n28 c29)]) (L' := [blk (.slice A170 n171 c172), blk (.slice A136 n137 c138), blk (.slice A102 n103 c104), blk (.slice A82 n83 c84), blk (.slice A71 n72 c73), blk (.slice A58 n59 c60), blk (.slice A38 n39 c40), blk (.slice A27 n28 c29)]) (O := O) hc305 g316 hk323 hk324
                    have h327 := Ow.unl (L := [blk (.slice A297 n298 c299), blk (.slice A286 n287 c288), blk (.slice A170 n171 c172), blk (.slice A136 n137 c138), blk (.slice A102 n103 c104), blk (.slice A82 n83 c84), blk (.slice A71 n72 c73), blk (.slice A58 n59 c60), blk (.slice A38 n39 c40), blk (.slice A27 n28 c29)]) (L' := [blk (.slice A170 n171 c172), blk (.slice A136 n137 c138), blk (.slice A102 n103 c104), blk (.slice A82 n83 c84), blk (.slice A71 n72 c73), blk (.slice A58 n59 c60), blk (.slice A38 n39 c40), blk (.slice A27 n28 c29)]) (O := O) (fun _ _ _ _ _ _ h => h) (.cons _ (.cons _ (.cons_cons _ (.cons_cons _ (.cons_cons _ (.cons_cons _ (.cons_cons _ (.cons_cons _ (.cons_cons _ (.cons_cons _ (.slnil))))))))))) h320
                    have hc325 := hc305.owns g316 hk326 hk324
                    refine L_pu (P_assign (.slice A317 n318 c319) rfl) ?_
                    refine L_nil ?_
                    refine W_seq ?_
                    refine W_seq ?_
                    refine W_reg ?_
                    refine L_pu (P_move (.slice A317 n318 c319) rfl) ?_
                    refine L_pu (P_move (.slice A58 n59 c60) rfl) ?_
                    have h328 := Ow.gv (L := [blk (.slice A317 n318 c319), blk (.slice A297 n298 c299), blk (.slice A286 n287 c288), blk (.slice A170 n171 c172), blk (.slice A136 n137 c138), blk (.slice A102 n103 c104), blk (.slice A82 n83 c84), blk (.slice A71 n72 c73), blk (.slice A58 n59 c60), blk (.slice A38 n39 c40), blk (.slice A27 n28 c29)]) (O := O) h327 hc325 (i := 0) rfl
                    have hc329 := hc325.drop 0 rfl
                    have h331 := (Ow.sd (L := [blk (.slice A317 n318 c319), blk (.slice A297 n298 c299), blk (.slice A286 n287 c288), blk (.slice A170 n171 c172), blk (.slice A136 n137 c138), blk (.slice A102 n103 c104), blk (.slice A82 n83 c84), blk (.slice A71 n72 c73), blk (.slice A58 n59 c60), blk (.slice A38 n39 c40), blk (.slice A27 n28 c29)]) (O := O) (((((Ow.sw (L := [blk (.slice A170 n171 c172), blk (.slice A136 n137 c138), blk (.slice A102 n103 c104), blk (.slice A82 n83 c84), blk (.slice A71 n72 c73), blk (.slice A58 n59 c60), blk (.slice A38 n39 c40), blk (.slice A27 n28 c29)]) (O := O) ((Ow.sw (L := [blk (.slice A170 n171 c172), blk (.slice A136 n137 c138), blk (.slice A102 n103 c104), blk (.slice A82 n83 c84), blk (.slice A71 n72 c73), blk (.slice A58 n59 c60), blk (.slice A38 n39 c40), blk (.slice A27 n28 c29)]) (O := O) (Ow.sw (L := [blk (.slice A170 n171 c172), blk (.slice A136 n137 c138), blk (.slice A102 n103 c104), blk (.slice A82 n83 c84), blk (.slice A71 n72 c73), blk (.slice A58 n59 c60), blk (.slice A38 n39 c40), blk (.slice A27 n28 c29)]) (O := O) ((((((((h68.sos g70 hk78).sos g81 hk89).sos g101 hk109).sn g122).sos g135 hk143).sn g155).sos g169 hk177).sn g189) hc193 (i := 5) rfl (j := 4) rfl (by decide) g205) hc209 (i := 5) rfl (j := 3) rfl (by decide) g212).sn g236) hc240 (i := 5) rfl (j := 2) rfl (by decide) g252).sn g261).sos g285 hk293).sos g296 hk304).sos g316 hk324) (i := 8) rfl (j := 0) rfl (by decide))
                    have h332 := Ow.gv (L := [blk (.slice A297 n298 c299), blk (.slice A286 n287 c288), blk (.slice A170 n171 c172), blk (.slice A136 n137 c138), blk (.slice A102 n103 c104), blk (.slice A82 n83 c84), blk (.slice A71 n72 c73), blk (.slice A58 n59 c60), blk (.slice A38 n39 c40), blk (.slice A27 n28 c29)]) (O := O) h331 hc329 (i := 7) rfl
                    have hc333 := hc329.drop 7 rfl
                    have h335 := (h328.st (.dr _ (L := [blk (.slice A297 n298 c299), blk (.slice A286 n287 c288), blk (.slice A170 n171 c172), blk (.slice A136 n137 c138), blk (.slice A102 n103 c104), blk (.slice A82 n83 c84), blk (.slice A71 n72 c73), blk (.slice A58 n59 c60), blk (.slice A38 n39 c40), blk (.slice A27 n28 c29)]) (O := O) (j := 7) rfl))
                    refine L_call go31 [.slice A317 n318 c319, .slice A58 n59 c60] rfl ((laws_eqPairS.calls w315 hc333.ok r21 A317 n318 c319 h335 r5 A58 n59 c60 h332 _ H).mono ?_)
                    rintro _ w336 ⟨r22, rfl, H, g337⟩
                    have hc341 := hc325.k0 g337
                    refine L_pu (P_not r22 rfl) ?_
                    refine L_nil ?_
                    refine W_cond (!r22) rfl (fun hq342 => ?_) (fun hq342 => ?_)
                    · have H := ite_t H hq342
                      refine W_seq ?_
                      refine W_reg ?_
                      refine L_pu (P_assign (vb false) rfl) ?_
                      refine L_nil ?_
                      refine W_ret ?_
                      have hc343 := hc341.drop 0 rfl
                      have hc344 := hc343.drop 0 rfl
                      have hc345 := hc344.drop 0 rfl
                      have hc346 := hc345.drop 0 rfl
                      have hc347 := hc346.drop 0 rfl
                      have hc348 := hc347.drop 0 rfl
                      have hc349 := hc348.drop 0 rfl
                      have hc350 := hc349.drop 0 rfl
                      have hc351 := hc350.drop 0 rfl
                      have hc352 := hc351.drop 0 rfl
                      have hc353 := hc352.drop 0 rfl
                      exact ⟨[vb false], ⟨_, rfl, rfl⟩, false, rfl, H, hc353.gr⟩
                    · have H := ite_f H hq342
                      refine W_skip ?_
                      refine W_seq ?_
                      refine W_reg ?_
                      refine L_pu (P_assign (vi 1) rfl) ?_
                      refine L_nil ?_
                      refine W_seq ?_
                      refine W_reg ?_
                      refine L_pu (P_move (.slice A102 n103 c104) rfl) ?_
                      refine L_pu (P_move (vi 1) rfl) ?_
                      have h354 := (((((hx253.sn g261).sos g285 hk293).sos g296 hk304).sos g316 hk324).sn g337)
                      have h355 := Ow.gv (L := [blk (.slice A317 n318 c319), blk (.slice A297 n298 c299), blk (.slice A286 n287 c288), blk (.slice A170 n171 c172), blk (.slice A136 n137 c138), blk (.slice A102 n103 c104), blk (.slice A82 n83 c84), blk (.slice A71 n72 c73), blk (.slice A58 n59 c60), blk (.slice A38 n39 c40), blk (.slice A27 n28 c29)]) (O := O) h354 hc341 (i := 5) rfl
                      have hc356 := hc341.drop 5 rfl
                      refine L_call go34 [.slice A102 n103 c104, vi 1] rfl ((laws_heldPairS.calls w336 hc356.ok m3 A102 n103 c104 h355 1 _ H).mono ?_)
                      rintro _ w358 ⟨r23, rfl, H, g359⟩
                      have hc363 := hc341.k0 g359
                      refine L_pu (P_assign (vi r23) rfl) ?_
                      refine L_nil ?_
                      refine W_seq ?_
                      refine W_seq ?_
                      refine W_reg ?_
                      refine L_pu (P_move (vi r23) rfl) ?_
                      refine L_pu (P_cmp r23 0 (decide (r23 < 0)) rfl rfl rfl) ?_
                      refine L_nil ?_
                      refine W_cond (decide (r23 < 0)) rfl (fun hq364 => ?_) (fun hq364 => ?_)
                      · have H := ite_t H hq364
                        refine W_seq ?_
                        refine W_reg ?_
                        refine L_pu (P_assign (vb false) rfl) ?_
                        refine L_nil ?_
                        refine W_ret ?_
                        have hc365 := hc363.drop 0 rfl
                        have hc366 := hc365.drop 0 rfl
                        have hc367 := hc366.drop 0 rfl
                        have hc368 := hc367.drop 0 rfl
                        have hc369 := hc368.drop 0 rfl
                        have hc370 := hc369.drop 0 rfl
                        have hc371 := hc370.drop 0 rfl
                        have hc372 := hc371.drop 0 rfl
                        have hc373 := hc372.drop 0 rfl
                        have hc374 := hc373.drop 0 rfl
                        have hc375 := hc374.drop 0 rfl
                        exact ⟨[vb false], ⟨_, rfl, rfl⟩, false, rfl, H, hc375.gr⟩
                      · have H := ite_f H hq364
                        refine W_skip ?_
                        refine W_seq ?_
                        refine W_seq ?_
                        refine W_reg ?_
                        refine L_pu (P_move (vi r23) rfl) ?_
                        refine L_pu (P_move (vi r17) rfl) ?_
                        refine L_pu (P_cmp r23 r17 (r23 != r17) rfl rfl rfl) ?_
                        refine L_nil ?_
                        refine W_cond (r23 != r17) rfl (fun hq376 => ?_) (fun hq376 => ?_)
                        · have H := ite_t H hq376
                          refine W_seq ?_
                          refine W_reg ?_
                          refine L_pu (P_assign (vb false) rfl) ?_
                          refine L_nil ?_
                          refine W_ret ?_
                          have hc377 := hc363.drop 0 rfl
                          have hc378 := hc377.drop 0 rfl
                          have hc379 := hc378.drop 0 rfl
                          have hc380 := hc379.drop 0 rfl
                          have hc381 := hc380.drop 0 rfl
                          have hc382 := hc381.drop 0 rfl
                          have hc383 := hc382.drop 0 rfl
                          have hc384 := hc383.drop 0 rfl
                          have hc385 := hc384.drop 0 rfl
                          have hc386 := hc385.drop 0 rfl
                          have hc387 := hc386.drop 0 rfl
                          exact ⟨[vb false], ⟨_, rfl, rfl⟩, false, rfl, H, hc387.gr⟩
                        · have H := ite_f H hq376
                          refine W_skip ?_
                          refine W_seq ?_
                          refine W_reg ?_
                          refine L_pu (P_assign (vb true) rfl) ?_
                          refine L_nil ?_
                          refine W_ret ?_
                          have hc388 := hc363.drop 0 rfl
                          have hc389 := hc388.drop 0 rfl
                          have hc390 := hc389.drop 0 rfl
                          have hc391 := hc390.drop 0 rfl
                          have hc392 := hc391.drop 0 rfl
                          have hc393 := hc392.drop 0 rfl
                          have hc394 := hc393.drop 0 rfl
                          have hc395 := hc394.drop 0 rfl
                          have hc396 := hc395.drop 0 rfl
                          have hc397 := hc396.drop 0 rfl
                          have hc398 := hc397.drop 0 rfl
                          exact ⟨[vb true], ⟨_, rfl, rfl⟩, true, rfl, H, hc398.gr⟩
end Go.Proofs.Ytnliofcjplnboaa

namespace Go.Proofs.Ytnliofcjplnboaa
set_option linter.unusedVariables false
set_option linter.unusedSimpArgs false
theorem laws_FnExactSeqPairs.law (a : List Pt) (_ : ∀ x ∈ a, vPt x) (b : List Pt) (_ : ∀ x ∈ b, vPt x) : laws_FnExactSeqPairs.E a b (fun r => r = true) := by
  unfold laws_FnExactSeqPairs.E
  refine laws_szPtS.law a _ _ (by decide) (by decide) (fun _ => rfl) (fun h1 => ?_)
  rw [if_neg (by rw [decide_eq_false (by omega)]; exact Bool.false_ne_true)]
  refine laws_szPtS.law b _ _ (by omega) (by omega) (fun _ => rfl) (fun h2 => ?_)
  rw [if_neg (by rw [decide_eq_false (by omega)]; exact Bool.false_ne_true)]
  have la := bulk_len a; have lb := bulk_len b
  have ls := spairs_len a b; have lt := slen_le a b
  refine laws_toPtS.law a _ (by omega) (laws_toPtS.law b _ (by omega) (spec_SeqPairs.law _ _ _ (laws_toPtS.law a _ (by omega) (laws_toPtS.law b _ (by omega) (impl_SeqPairs.law _ _ _ (laws_eqPairS.law _ _ _ ?_))))))
  rw [decide_eq_true rfl, if_neg (by decide)]
  refine laws_toPtS.law a _ (by omega) (laws_eqPtS.law _ _ _ ?_)
  rw [decide_eq_true rfl, if_neg (by decide)]
  refine laws_toPtS.law b _ (by omega) (laws_eqPtS.law _ _ _ ?_)
  rw [decide_eq_true rfl, if_neg (by decide)]
  refine laws_markPtS.law a _ _ (by omega) (by omega) (by omega) (laws_markPtS.law b _ _ (by omega) (by omega) (by omega) ?_)
  rw [if_neg (by simp; omega)]
  refine laws_eqPairS.law _ _ _ ?_
  rw [decide_eq_true rfl, if_neg (by decide)]
  refine laws_markPairS.law _ _ _ (by omega) (by omega) (by omega) (laws_heldPairS.law _ _ _ (by omega) (by omega) (by omega) ?_)
  rw [if_neg (by simp; omega), if_neg (by simp)]
  refine laws_toPtS.law a _ (by omega) (laws_toPtS.law b _ (by omega) (impl_SeqPairs.law _ _ _ (laws_eqPairS.law _ _ _ ?_)))
  rw [decide_eq_true rfl, if_neg (by decide)]
  refine laws_heldPairS.law _ _ _ (by omega) (by omega) (by omega) ?_
  rw [if_neg (by simp; omega), if_neg (by simp)]
end Go.Proofs.Ytnliofcjplnboaa

namespace Go.Proofs.Ytnliofcjplnboaa.rFnExactSeqPairs
open Go.ChangeShapes Go.WideShapes Go.ChangeAt Go.RowKit
open Go.ChangeMaps (open_string shut_string)
set_option linter.unusedVariables false
theorem own : ownKnob Try.prog.godebug = none := by kernel_rfl
theorem laidOut : laidOutB Try.prog = true := by kernel_rfl
set_option maxRecDepth 100000 in
theorem lifted (os : Os) (started : os.Started) (H : Type) (enc : TypeId × Value → H) :
    ReturnsInHanded {} Try.checked os 9 .any (Rows.fnExactSeqPairsSpec.pre6 enc Try.prog Try.f9 Rows.fnExactSeqPairsRow.domain false) (Rows.fnExactSeqPairsSpec.post enc Try.prog Try.f9 false true false false) := by
  refine returnsInHanded_of_change_sized (C := Try.checked) own started (by kernel_rfl) Try.func9
    (ChangeSpec.witness6 (enc := enc) (C := Try.checked) false ⟨#[], #[.slice none 0 0, .slice none 0 0], []⟩ 8 (by kernel_rfl) (by kernel_rfl) (by kernel_rfl) (by kernel_rfl)) ?_
  intro W base args ds gs before hval0 hW hcnd hsz0 _
  have hval : ∀ (j : Nat) t v, Try.f9.params[j]? = some t → args[j]? = some v → Value.okWide Try.prog W .any base t v := hval0
  have hW' := hW
  obtain ⟨p, q, hA0, hV, rfl, hfz, hnd⟩ := hW
  have hA : DataW.TrodAll enc Try.prog W 0 (fun _ => true) true Try.f9.params.toList args.toList ds p := hA0
  rw [Try.params9] at hA hval
  obtain ⟨v0, vs0, d0, ds0, p0, q0, hargs, rfl, rfl, h0, r0⟩ := trodAll_cons hA
  obtain ⟨v1, vs1, d1, ds1, p1, q1, rfl, rfl, rfl, h1, r1⟩ := trodAll_cons r0
  obtain ⟨rfl, rfl, rfl⟩ := trodAll_nil r1
  obtain rfl : args = #[v0, v1] := by cases args; simp_all
  obtain ⟨rfl, rfl⟩ := trodVars_none hV
  have k0 := h0
  have lt0 : ∀ x ∈ p0, x.block < W.heap.size := by obtain ⟨m, hm⟩ := k0; exact DataW.trod_lt m _ _ _ hm
  obtain ⟨x0, hv0, hx0⟩ : ∃ a : List Pt, (∀ y0 ∈ a, vPt y0) ∧ (Kd.sl kPt).R W (Fr []) a v0.cells.toList := by obtain ⟨fuel, hf⟩ := h0; exact (Tr.sl Try.underlying30 (by kernel_rfl) tr64) H enc W fuel _ _ hf
  obtain ⟨a0, n0, c0, rfl⟩ := okWide_slice Try.underlying30 (hval 0 30 v0 rfl rfl)
  have s0 : Sl kPt W (Fr []) (.slice a0 n0 c0) x0 := by obtain ⟨_, e, h⟩ := hx0; simp [Value.cells] at e; subst e; exact h
  have k1 := h1
  have lt1 : ∀ x ∈ p1, x.block < W.heap.size := by obtain ⟨m, hm⟩ := k1; exact DataW.trod_lt m _ _ _ hm
  obtain ⟨x1, hv1, hx1⟩ : ∃ a : List Pt, (∀ y0 ∈ a, vPt y0) ∧ (Kd.sl kPt).R W (Fr []) a v1.cells.toList := by obtain ⟨fuel, hf⟩ := h1; exact (Tr.sl Try.underlying30 (by kernel_rfl) tr64) H enc W fuel _ _ hf
  obtain ⟨a1, n1, c1, rfl⟩ := okWide_slice Try.underlying30 (hval 1 30 v1 rfl rfl)
  have s1 : Sl kPt W (Fr []) (.slice a1 n1 c1) x1 := by obtain ⟨_, e, h⟩ := hx1; simp [Value.cells] at e; subst e; exact h
  clear hA0 hval0 hsz0
  refine Calls.mono (laws_FnExactSeqPairs.calls W (Ok.nil W) x0 a0 n0 c0 s0 x1 a1 n1 c1 s1 (fun r => r = true) (laws_FnExactSeqPairs.law x0 hv0 x1 hv1)) fun e W' ⟨v, he, r, hr, hq, hg⟩ => ?_
  subst he; subst hr; subst hq
  have bel := Gr.below hg
  exact ⟨_, rfl, _, _, _, [], _, [], hW', trodAll_mk1 (shut_bool Try.underlying4 _), (trodAll_cons_mk (Below.trod laidOut (by kernel_rfl) (of_decide_eq_true (by kernel_rfl)) k0 bel lt0) (trodAll_cons_mk (Below.trod laidOut (by kernel_rfl) (of_decide_eq_true (by kernel_rfl)) k1 bel lt1) trodAll_mk0)), rfl, bel.frame _, fun h => by cases h⟩
theorem over : Rows.fnExactSeqPairsRow.holds Try.pinned (OpenSpec.ofChange Rows.fnExactSeqPairsSpec) :=
  OpenClaim.holds_of_wide 9 Try.f9 rfl rfl rfl rfl rfl rfl rfl ⟨rfl, rfl, rfl, rfl, rfl⟩ rfl rfl rfl rfl rfl (by kernel_rfl) Try.func9 (by kernel_rfl)
    (of_decide_eq_true (by kernel_rfl)) (by unfold Func.isWrapper; first | (rw [if_pos (by decide +kernel)]; kernel_rfl) | (rw [if_neg (by decide +kernel)]; exact ⟨rfl, rfl⟩))
    (fun os started H enc _ => lifted os started H enc)
theorem proved : Rows.FnExactSeqPairsSaid := over
#print axioms proved
end Go.Proofs.Ytnliofcjplnboaa.rFnExactSeqPairs
namespace Go.Proofs.Ytnliofcjplnboaa
theorem fnExactSeqPairs_holds : Rows.FnExactSeqPairsSaid := rFnExactSeqPairs.proved
end Go.Proofs.Ytnliofcjplnboaa
