/- It is proved here that the law FnExactSeqMerge of the given program holds whatever it is handed: the walks through the code, the plain laws and the row, in this order.
   Conditions: none. -/
import Derived.Below
import Derived.ChangeArms
import Derived.ChangeOld
import Derived.ChangeSlices
import Derived.DataReads
import Derived.Deep.Quiet
import Derived.KernelRfl
import Derived.Laws.Build
import Derived.Laws.OwnMore
import Derived.Laws.Slices
import Derived.Laws.StructEq
import Derived.OpenShut
import Derived.ProofKit
import Derived.ShutString
import Derived.SizedLaws
import Derived.StillTail
import Derived.Test.YtnliofcjplnboaaProg
import Derived.Test.YtnliofcjplnboaaRows
import Derived.WalkKit
import Derived.Test.YtnliofcjplnboaaCExactSeqMergea
namespace Go.Proofs.Ytnliofcjplnboaa
set_option linter.unusedVariables false
set_option linter.unusedSimpArgs false
def few (a b : List Pt) : Bool := decide (a.length ≤ 12) && decide (b.length ≤ 12)
theorem few_iff {a b : List Pt} : few a b = true ↔ a.length ≤ 12 ∧ b.length ≤ 12 := by simp [few]
theorem few_not {a b : List Pt} : few a b = false ↔ ¬ (a.length ≤ 12 ∧ b.length ≤ 12) := by rw [← few_iff]; simp
def slen (a b : List Pt) : Int := if few a b then (lcs a b : Nat) else 0
def mkP (p : Nat × Nat) : Pair := ⟨p.1, p.2⟩
def spairs (a b : List Pt) : List Pair := if few a b then (pairs 0 0 a b).map mkP else []
theorem spairs_few {a b : List Pt} (h : few a b = true) : spairs a b = (pairs 0 0 a b).map mkP := by unfold spairs; rw [if_pos h]
theorem spairs_len (a b : List Pt) : ((spairs a b).length : Int) = slen a b := by
  unfold spairs slen
  by_cases h : few a b = true
  · rw [if_pos h, if_pos h, List.length_map, pairs_len]
  · rw [if_neg h, if_neg h]; rfl
theorem slen_le (a b : List Pt) : 0 ≤ slen a b ∧ slen a b ≤ a.length ∧ slen a b ≤ b.length ∧ slen a b ≤ 12 := by
  unfold slen
  by_cases h : few a b = true
  · have := few_iff.1 h
    have h1 := lcs_le1 a b; have h2 := lcs_le2 a b
    rw [if_pos h]; omega
  · rw [if_neg h]; omega
/-- a row: what is in common from a place of the second on -/
def RowOk (a b : List Pt) (i : Nat) (j : Nat) (xs : List Int) : Prop := xs.length = b.length + 1 ∧ ∀ m : Nat, j ≤ m → m ≤ b.length → nth xs (m : Int) = (lcs (a.drop i) (b.drop m) : Nat)
def Tab (a b : List Pt) (D : Nat → Nat → Prop) (t : List (List Int)) : Prop := t.length = a.length + 1 ∧ ∀ r : Nat, r ≤ a.length → (nth t (r : Int)).length = b.length + 1 ∧ ∀ m : Nat, m ≤ b.length → D r m → nth (nth t (r : Int)) (m : Int) = (lcs (a.drop r) (b.drop m) : Nat)
theorem Tab.set {a b : List Pt} {D : Nat → Nat → Prop} {t : List (List Int)} (h : Tab a b D t) {i j : Nat} (hi : i ≤ a.length) (hj : j ≤ b.length) {v : Int} (hv : v = (lcs (a.drop i) (b.drop j) : Nat)) {D' : Nat → Nat → Prop} (hD : ∀ r m, D' r m → D r m ∨ (r = i ∧ m = j)) :
    Tab a b D' (t.set i ((nth t (i : Int)).set j v)) := by
  obtain ⟨h1, h2⟩ := h
  refine ⟨by rw [List.length_set]; exact h1, fun r hr => ?_⟩
  rw [nth_set _ (by omega)]
  by_cases e : r = i
  · subst e
    rw [if_pos rfl]
    refine ⟨by rw [List.length_set]; exact (h2 r hr).1, fun m hm hd => ?_⟩
    rw [nth_set _ (by rw [(h2 r hr).1]; omega)]
    by_cases f : m = j
    · subst f; rw [if_pos rfl, hv]
    · rw [if_neg f]
      exact (h2 r hr).2 m hm ((hD r m hd).resolve_right fun x => f x.2)
  · rw [if_neg e]
    exact ⟨(h2 r hr).1, fun m hm hd => (h2 r hr).2 m hm ((hD r m hd).resolve_right fun x => e x.1)⟩
def mateI (l : List Pair) (k : Int) : Int := match l with
  | [] => -1
  | p :: l => if p.A == k then p.B else mateI l k
theorem mateI_nil (k : Int) : mateI [] k = -1 := rfl
theorem mateI_cons (p : Pair) (l : List Pair) (k : Int) : mateI (p :: l) k = if p.A == k then p.B else mateI l k := rfl
def mateN (l : List (Nat × Nat)) (k : Nat) : Option Nat := match l with
  | [] => none
  | p :: l => if p.1 = k then some p.2 else mateN l k
theorem mateI_mk (l : List (Nat × Nat)) (k : Nat) : mateI (l.map mkP) (k : Int) = match mateN l k with | some x => (x : Int) | none => -1 := by
  induction l with
  | nil => rfl
  | cons p l ih =>
    rw [List.map_cons, mateI_cons, mateN]
    by_cases h : p.1 = k
    · rw [if_pos (by simp [mkP, h]), if_pos h]; rfl
    · rw [if_neg (by simp [mkP]; omega), if_neg h, ih]
theorem mateN_mem {l : List (Nat × Nat)} {k x : Nat} (h : mateN l k = some x) : (k, x) ∈ l := by
  induction l with
  | nil => cases h
  | cons p l ih =>
    rw [mateN] at h
    by_cases e : p.1 = k
    · rw [if_pos e] at h; cases h; subst e; exact List.mem_cons_self
    · rw [if_neg e] at h; exact List.mem_cons_of_mem _ (ih h)
theorem mateN_of {l : List (Nat × Nat)} {k x : Nat} (ho : l.Pairwise fun p q => p.1 < q.1 ∧ p.2 < q.2) (h : (k, x) ∈ l) : mateN l k = some x := by
  induction l with
  | nil => cases h
  | cons p l ih =>
    rw [mateN]
    rcases List.mem_cons.1 h with h | h
    · subst h; rw [if_pos rfl]
    · have := (List.pairwise_cons.1 ho).1 _ h
      rw [if_neg (by dsimp only at this; omega)]
      exact ih (List.pairwise_cons.1 ho).2 h
theorem mateN_none {l : List (Nat × Nat)} {k : Nat} (h : ∀ x, (k, x) ∉ l) : mateN l k = none := by
  cases e : mateN l k with
  | none => rfl
  | some x => exact absurd (mateN_mem e) (h x)
def part (o a : List Pt) : Nat → Option Nat := mateN (pairs 0 0 o a)
theorem part_mates (o a : List Pt) : Mates o a (part o a) := by
  have hm : ∀ {t x}, part o a t = some x → ∃ z, o[t]? = some z ∧ a[x]? = some z := fun {t x} h => by
    obtain ⟨k, l, e, z, h1, h2⟩ := pairs_mem 0 0 o a _ (mateN_mem h)
    rw [Nat.zero_add, Nat.zero_add] at e; cases e
    exact ⟨z, h1, h2⟩
  refine ⟨fun {t x} h => ?_, fun {t x} h => ?_, fun {t x u y} h1 h2 hu => ?_⟩
  · obtain ⟨z, h1, h2⟩ := hm h
    exact ⟨(List.getElem?_eq_some_iff.1 h1).1, (List.getElem?_eq_some_iff.1 h2).1⟩
  · obtain ⟨z, h1, h2⟩ := hm h
    obtain ⟨e1, e2⟩ := List.getElem?_eq_some_iff.1 h1
    obtain ⟨e3, e4⟩ := List.getElem?_eq_some_iff.1 h2
    rw [nth_nat _ e1, nth_nat _ e3, e2, e4]
  · have ho := pairs_ord 0 0 o a
    have m1 := mateN_mem h1; have m2 := mateN_mem h2
    generalize pairs 0 0 o a = l at ho m1 m2
    induction l with
    | nil => cases m1
    | cons p l ih =>
      obtain ⟨q1, q2⟩ := List.pairwise_cons.1 ho
      rcases List.mem_cons.1 m1 with e1 | n1
      · rcases List.mem_cons.1 m2 with e2 | n2
        · subst e1; cases e2; omega
        · subst e1; exact (q1 _ n2).2
      · rcases List.mem_cons.1 m2 with e2 | n2
        · subst e2; have := (q1 _ n1).1; dsimp only at this; omega
        · exact ih q2 n1 n2
theorem part_old (o : List Pt) (l : List Pt) : ∀ t, t < o.length → part o (o ++ l) t = some t := fun t ht => by
  refine mateN_of (pairs_ord _ _ _ _) ?_
  rw [pairs_self, List.mem_map]
  exact ⟨t, by simpa using ht, by simp⟩
theorem part_self (o : List Pt) : ∀ t, t < o.length → part o o t = some t := fun t ht => by
  have := part_old o [] t ht
  rwa [List.append_nil] at this
/-- what is made of two rows, and of which one was -/
def smerge (o a b : List Pt) : Option (List Pt) := if few o a && few o b then mloop o a b (part o a) (part o b) o.length 0 0 0 0 else none
theorem smerge_few {o a b : List Pt} (h1 : few o a = true) (h2 : few o b = true) : smerge o a b = mloop o a b (part o a) (part o b) o.length 0 0 0 0 := by unfold smerge; rw [h1, h2]; rfl
theorem smerge_not {o a b : List Pt} (h : few o a = false ∨ few o b = false) : smerge o a b = none := by
  unfold smerge; rcases h with h | h <;> rw [h] <;> simp
theorem smerge_comm (o a b : List Pt) : smerge o a b = smerge o b a := by
  unfold smerge; rw [Bool.and_comm, mloop_comm]
theorem smerge_old {o a : List Pt} (h : few o a = true) : smerge o a o = some a := by
  rw [smerge_few h (by rw [few_iff] at h ⊢; exact ⟨h.1, h.1⟩), mloop_old (part_mates o a) (part_self o) _ _ _ _ (by omega) (From.zero _ _)]; rfl
theorem smerge_same {o a : List Pt} (h : few o a = true) : smerge o a a = some a := by
  rw [smerge_few h h, mloop_same (part_mates o a) _ _ _ _ (by omega) (From.zero _ _)]; rfl
theorem smerge_keep {o a b r : List Pt} (h : smerge o a b = some r) : (∀ z ∈ r, z ∈ a ∨ z ∈ b) ∧ (∀ z ∈ a, z ∈ o ∨ z ∈ r) ∧ (∀ z ∈ b, z ∈ o ∨ z ∈ r) ∧ r.length ≤ a.length + b.length := by
  unfold smerge at h
  by_cases hf : (few o a && few o b) = true
  · rw [if_pos hf] at h
    exact mloop_keep (part_mates o a) (part_mates o b) _ _ _ _ _ (by omega) (From.zero _ _) (From.zero _ _) _ h
  · rw [if_neg hf] at h; cases h
theorem smerge_len {o a b r : List Pt} (h : smerge o a b = some r) : r.length ≤ 24 := by
  have h1 := (smerge_keep h).2.2.2
  unfold smerge at h
  by_cases hf : (few o a && few o b) = true
  · rw [Bool.and_eq_true, few_iff, few_iff] at hf; omega
  · rw [if_neg hf] at h; cases h
theorem part_cons (p : Pt) (o a : List Pt) (t : Nat) : part (p :: o) (p :: a) (t + 1) = (part o a t).map (· + 1) := by
  have h := pairs_shift 0 0 o a 1 1
  have e : mateN (pairs (0 + 1) (0 + 1) o a) (t + 1) = (mateN (pairs 0 0 o a) t).map (· + 1) := by
    rw [h]
    generalize pairs 0 0 o a = l
    induction l with
    | nil => rfl
    | cons q l ih =>
      rw [List.map_cons, mateN, mateN]
      by_cases e : q.1 = t
      · rw [if_pos (by dsimp only; omega), if_pos e]; rfl
      · rw [if_neg (by dsimp only; omega), if_neg e, ih]
  unfold part
  rw [pairs_cons_self, mateN, if_neg (by dsimp only; omega), e]
theorem part_cons0 (p : Pt) (o a : List Pt) : part (p :: o) (p :: a) 0 = some 0 := by
  unfold part; rw [pairs_cons_self, mateN, if_pos rfl]
theorem mateN_app (l m : List (Nat × Nat)) (k : Nat) : mateN (l ++ m) k = (mateN l k).or (mateN m k) := by
  induction l with
  | nil => rfl
  | cons p l ih =>
    rw [List.cons_append, mateN, mateN]
    by_cases e : p.1 = k
    · rw [if_pos e, if_pos e]; rfl
    · rw [if_neg e, if_neg e, ih]
theorem part_snoc {p : Pt} {o a : List Pt} (ho : p ∉ o) (ha : p ∉ a) (t : Nat) : part (o ++ [p]) (a ++ [p]) t = (part o a t).or (if o.length = t then some a.length else none) := by
  unfold part; rw [pairs_snoc p 0 0 o a ho ha, mateN_app]
  simp only [mateN, Nat.zero_add]
theorem part_snoc1 {p : Pt} {o a : List Pt} (ho : p ∉ o) (ha : p ∉ a) {t : Nat} (h : t < o.length) : part (o ++ [p]) (a ++ [p]) t = part o a t := by
  rw [part_snoc ho ha, if_neg (by omega)]; cases part o a t <;> rfl
theorem part_snoc2 {p : Pt} {o a : List Pt} (ho : p ∉ o) (ha : p ∉ a) : part (o ++ [p]) (a ++ [p]) o.length = some a.length := by
  rw [part_snoc ho ha, if_pos rfl]
  cases h : part o a o.length with
  | none => rfl
  | some x => have := ((part_mates o a).lt h).1; omega
theorem smerge_cons {o a b : List Pt} (p : Pt) (h1 : few (p :: o) (p :: a) = true) (h2 : few (p :: o) (p :: b) = true) : smerge (p :: o) (p :: a) (p :: b) = (smerge o a b).map (p :: ·) := by
  have g1 : few o a = true := by rw [few_iff] at h1 ⊢; simp only [List.length_cons] at h1; omega
  have g2 : few o b = true := by rw [few_iff] at h2 ⊢; simp only [List.length_cons] at h2; omega
  rw [smerge_few h1 h2, smerge_few g1 g2, List.length_cons, mloop_some (part_cons0 p o a) (part_cons0 p o b), seg_self, seg_self, seg_self, pickL_same, Option.bind_some]
  rw [show (0 : Nat) + 1 = 0 + 1 from rfl, mloop_cons p (fun t _ => part_cons p o a t) (fun t _ => part_cons p o b t) _ _ _ _ _ (by omega)]
  rfl
theorem smerge_snoc {o a b : List Pt} (p : Pt) (ho : p ∉ o) (ha : p ∉ a) (hb : p ∉ b) (h1 : few (o ++ [p]) (a ++ [p]) = true) (h2 : few (o ++ [p]) (b ++ [p]) = true) : smerge (o ++ [p]) (a ++ [p]) (b ++ [p]) = (smerge o a b).map (· ++ [p]) := by
  have g1 : few o a = true := by rw [few_iff] at h1 ⊢; simp only [List.length_append] at h1; omega
  have g2 : few o b = true := by rw [few_iff] at h2 ⊢; simp only [List.length_append] at h2; omega
  rw [smerge_few h1 h2, smerge_few g1 g2, List.length_append, List.length_singleton]
  exact mloop_snoc p (part_mates o a) (part_mates o b) (fun t ht => part_snoc1 ho ha ht) (part_snoc2 ho ha) (fun t ht => part_snoc1 ho hb ht) (part_snoc2 ho hb) _ _ _ _ _ (by omega) (Nat.zero_le _) (Nat.zero_le _) (Nat.zero_le _) (From.zero _ _) (From.zero _ _)
theorem part_shift {p : Pt} {o : List Pt} (hp : p ∉ o) : ∀ t, t < o.length → part o (p :: o) t = some (t + 1) := fun t ht => by
  have e : pairs 0 0 o (p :: o) = pairs 0 1 o o := by
    cases o with
    | nil => rw [pairs_nil, pairs_nil]
    | cons x o =>
      have hx : x ≠ p := fun e => hp (e ▸ List.mem_cons_self)
      rw [pairs_cons, if_neg hx, if_neg]
      have h1 : lcs (x :: o) (x :: o) = o.length + 1 := lcs_self (x :: o)
      have h2 := lcs_le1 o (p :: x :: o)
      omega
  refine mateN_of (pairs_ord _ _ _ _) ?_
  rw [e]
  have := pairs_self 0 1 o []
  rw [List.append_nil] at this
  rw [this, List.mem_map]
  exact ⟨t, by simpa using ht, pp (by omega) (by omega)⟩
theorem smerge_apart {o : List Pt} {p q : Pt} (hp : p ∉ o) (h0 : 0 < o.length) (h : o.length < 12) : smerge o (p :: o) (o ++ [q]) = some (p :: o ++ [q]) := by
  have h1 : few o (p :: o) = true := by rw [few_iff]; simp only [List.length_cons]; omega
  have h2 : few o (o ++ [q]) = true := by rw [few_iff]; simp only [List.length_append, List.length_singleton]; omega
  rw [smerge_few h1 h2]
  obtain ⟨n, e⟩ : ∃ n, o.length = n + 1 := ⟨o.length - 1, by omega⟩
  have hf := part_shift hp
  have hg := part_old o [q]
  rw [e, mloop_some (hf 0 h0) (hg 0 h0), seg_self, seg_self, pickL_old, Option.bind_some]
  have := mloop_apart p q hf hg n 1 (by omega)
  rw [show (0 : Nat) + 1 = 1 from rfl, show (0 : Nat) + 1 + 1 = 1 + 1 from rfl, this, Option.map_some]
  have hd := drop_nth o h0
  rw [List.drop_zero] at hd
  have : seg (p :: o) 0 1 = [p] := rfl
  rw [show (0 : Nat) + 1 = 1 from rfl] at hd
  rw [this, List.singleton_append, ← List.cons_append, ← hd]
  rfl
theorem smerge_clash {o : List Pt} {p q : Pt} (hp : p ∉ o) (hq : q ∉ o) (hpq : p ≠ q) (h0 : 0 < o.length) : smerge o (p :: o) (q :: o) = none := by
  unfold smerge
  by_cases hf : (few o (p :: o) && few o (q :: o)) = true
  · rw [if_pos hf]
    obtain ⟨n, e⟩ : ∃ n, o.length = n + 1 := ⟨o.length - 1, by omega⟩
    rw [e, mloop_some (part_shift hp 0 h0) (part_shift hq 0 h0)]
    have : pickL (seg o 0 0) (seg (p :: o) 0 (0 + 1)) (seg (q :: o) 0 (0 + 1)) = none := by
      show pickL [] [p] [q] = none
      unfold pickL
      rw [if_neg (by simp), if_neg (by simp), if_neg (by simpa using hpq)]
    rw [this]; rfl
  · rw [if_neg hf]
theorem smerge_nil {a b : List Pt} (h1 : a.length ≤ 12) (h2 : b.length ≤ 12) : smerge [] a b = if a = [] then some b else if b = [] then some a else if a = b then some a else none := by
  rw [smerge_few (by rw [few_iff]; exact ⟨Nat.zero_le _, h1⟩) (by rw [few_iff]; exact ⟨Nat.zero_le _, h2⟩)]; rfl
end Go.Proofs.Ytnliofcjplnboaa

namespace Go.Proofs.Ytnliofcjplnboaa
set_option linter.unusedVariables false
set_option linter.unusedSimpArgs false
theorem spec_l5Few.law (a b : List Pt) (Q : Bool → Prop) (hq : Q (few a b)) : spec_l5Few.E a b Q := by
  unfold spec_l5Few.E
  unfold few at hq
  by_cases h : a.length ≤ 12
  · rw [if_pos (by simp; omega)]
    rw [decide_eq_true h, Bool.true_and] at hq
    have : decide ((b.length : Int) ≤ 12) = decide (b.length ≤ 12) := decide_eq_decide.2 (by omega)
    rw [this]; exact hq
  · rw [if_neg (by simp; omega)]
    rw [decide_eq_false h, Bool.false_and] at hq; exact hq
end Go.Proofs.Ytnliofcjplnboaa

namespace Go.Proofs.Ytnliofcjplnboaa
open Go.RowKit
set_option linter.unusedVariables false
def spec_l1Max.E (a : Int) (b : Int) (Q : Int → Prop) : Prop :=
  (if decide (a > b) then Q a else Q b)
set_option maxHeartbeats 8000000 in
set_option maxRecDepth 100000 in
theorem spec_l1Max.calls {O : Ob} (w0 : World) (hO : Ok w0 O) (a : Int) (b : Int) (Q : Int → Prop) (h : spec_l1Max.E a b Q) :
    Ret Try.prog 59 [vi a, vi b] w0 (fun v w' => ∃ (r0 : Int), v = vi r0 ∧ Q r0 ∧ Gr w0 w' none ∧ w' = w0) := by
  have H : (if decide (a > b) then Q a else Q b) := h
  clear h
  have hc0 := Ct.init hO
  refine Ret_enter Try.func59 rfl 10 rfl [.tmp 4] rfl rfl ?_
  refine W_seq ?_
  refine W_reg ?_
  refine L_pu (P_assign (vi 0) rfl) ?_
  refine L_nil ?_
  refine W_seq ?_
  refine W_seq ?_
  refine W_reg ?_
  refine L_pu (P_move (vi a) rfl) ?_
  refine L_pu (P_move (vi b) rfl) ?_
  refine L_pu (P_cmp a b (decide (a > b)) rfl rfl rfl) ?_
  refine L_nil ?_
  refine W_cond (decide (a > b)) rfl (fun hq1 => ?_) (fun hq1 => ?_)
  · have H := ite_t H hq1
    refine W_seq ?_
    refine W_reg ?_
    refine L_pu (P_move (vi a) rfl) ?_
    refine L_pu (P_assign (vi a) rfl) ?_
    refine L_nil ?_
    refine W_ret ?_
    exact ⟨[vi a], ⟨_, rfl, rfl⟩, a, rfl, H, hc0.gr, rfl⟩
  · have H := ite_f H hq1
    refine W_skip ?_
    refine W_seq ?_
    refine W_reg ?_
    refine L_pu (P_move (vi b) rfl) ?_
    refine L_pu (P_assign (vi b) rfl) ?_
    refine L_nil ?_
    refine W_ret ?_
    exact ⟨[vi b], ⟨_, rfl, rfl⟩, b, rfl, H, hc0.gr, rfl⟩
def spec_l1Max.m (a : Int) (b : Int) : Int := (if decide (a > b) then a else b)
theorem spec_l1Max.fn (a : Int) (b : Int) : spec_l1Max.E a b (fun r => r = spec_l1Max.m a b) := by
  unfold spec_l1Max.E spec_l1Max.m
  (repeat' split) <;> simp_all
end Go.Proofs.Ytnliofcjplnboaa

namespace Go.Proofs.Ytnliofcjplnboaa
set_option linter.unusedVariables false
set_option linter.unusedSimpArgs false
theorem spec_l1Max.m_is (a b : Int) : spec_l1Max.m a b = max a b := by
  unfold spec_l1Max.m
  by_cases h : a > b
  · simp [h]; omega
  · simp [h]; omega
end Go.Proofs.Ytnliofcjplnboaa

namespace Go.Proofs.Ytnliofcjplnboaa
open Go.RowKit
set_option linter.unusedVariables false
def spec_l5Long.E (a : List Pt) (b : List Pt) (Q : Int → Prop) : Prop :=
  ((b.length : Int) ≤ 9223372036854775807 → I64 ((b.length : Int) + 1)) ∧ ((0 : Int) ≤ (b.length : Int) + 1 ∧ (b.length : Int) + 1 ≤ (268435456 : Int)) ∧ ((b.length : Int) ≤ 9223372036854775807 → (a.length : Int) ≤ 9223372036854775807 → I64 ((a.length : Int) - 1)) ∧ (∃ (I57 : (List Int) → Int → Prop) (mu58 : (List Int) → Int → Nat), I57 (List.replicate ((b.length : Int) + 1).toNat (0 : Int)) ((a.length : Int) - 1) ∧ ∀ (xs2 : List Int) (i2 : Int), I57 xs2 i2 → (if decide (i2 ≥ 0) then ((b.length : Int) ≤ 9223372036854775807 → I64 ((b.length : Int) + 1)) ∧ ((0 : Int) ≤ (b.length : Int) + 1 ∧ (b.length : Int) + 1 ≤ (268435456 : Int)) ∧ ((b.length : Int) ≤ 9223372036854775807 → I64 ((b.length : Int) - 1)) ∧ (∃ (I115 : (List Int) → Int → Prop) (mu116 : (List Int) → Int → Nat), I115 (List.replicate ((b.length : Int) + 1).toNat (0 : Int)) ((b.length : Int) - 1) ∧ ∀ (xs4 : List Int) (k2 : Int), I115 xs4 k2 → (if decide (k2 ≥ 0) then ((0 : Int) ≤ i2 ∧ i2 < (a.length : Int)) ∧ ((0 : Int) ≤ k2 ∧ k2 < (b.length : Int)) ∧ (if eqPt (nth a i2) (nth b k2) then (I64 (k2 + 1)) ∧ ((0 : Int) ≤ k2 + 1 ∧ k2 + 1 < (xs2.length : Int)) ∧ (I64 ((nth xs2 (k2 + 1)) + 1)) ∧ ((0 : Int) ≤ k2 ∧ k2 < (xs4.length : Int)) ∧ (I64 (k2 - 1)) ∧ I115 (xs4.set k2.toNat ((nth xs2 (k2 + 1)) + 1)) (k2 - 1) ∧ mu116 (xs4.set k2.toNat ((nth xs2 (k2 + 1)) + 1)) (k2 - 1) < mu116 xs4 k2 else ((0 : Int) ≤ k2 ∧ k2 < (xs2.length : Int)) ∧ (I64 (k2 + 1)) ∧ ((0 : Int) ≤ k2 + 1 ∧ k2 + 1 < (xs4.length : Int)) ∧ ((0 : Int) ≤ k2 ∧ k2 < (xs4.length : Int)) ∧ (I64 (k2 - 1)) ∧ I115 (xs4.set k2.toNat (spec_l1Max.m (nth xs2 k2) (nth xs4 (k2 + 1)))) (k2 - 1) ∧ mu116 (xs4.set k2.toNat (spec_l1Max.m (nth xs2 k2) (nth xs4 (k2 + 1)))) (k2 - 1) < mu116 xs4 k2) else (I64 (i2 - 1)) ∧ I57 xs4 (i2 - 1) ∧ mu58 xs4 (i2 - 1) < mu58 xs2 i2)) else ((0 : Int) ≤ 0 ∧ 0 < (xs2.length : Int)) ∧ Q (nth xs2 0)))
set_option maxHeartbeats 8000000 in
set_option maxRecDepth 100000 in
theorem spec_l5Long.calls {O : Ob} (w0 : World) (hO : Ok w0 O) (a : List Pt) (A1 : Option Addr) (n2 c3 : Nat) (hp4 : Sl kPt w0 (Fr O) (.slice A1 n2 c3) a) (b : List Pt) (A6 : Option Addr) (n7 c8 : Nat) (hp9 : Sl kPt w0 (Fr O) (.slice A6 n7 c8) b) (Q : Int → Prop) (h : spec_l5Long.E a b Q) :
    Ret Try.prog 46 [.slice A1 n2 c3, .slice A6 n7 c8] w0 (fun v w' => ∃ (r0 : Int), v = vi r0 ∧ Q r0 ∧ Gr w0 w' none) := by
  have H : ((b.length : Int) ≤ 9223372036854775807 → I64 ((b.length : Int) + 1)) ∧ ((0 : Int) ≤ (b.length : Int) + 1 ∧ (b.length : Int) + 1 ≤ (268435456 : Int)) ∧ ((b.length : Int) ≤ 9223372036854775807 → (a.length : Int) ≤ 9223372036854775807 → I64 ((a.length : Int) - 1)) ∧ (∃ (I57 : (List Int) → Int → Prop) (mu58 : (List Int) → Int → Nat), I57 (List.replicate ((b.length : Int) + 1).toNat (0 : Int)) ((a.length : Int) - 1) ∧ ∀ (xs2 : List Int) (i2 : Int), I57 xs2 i2 → (if decide (i2 ≥ 0) then ((b.length : Int) ≤ 9223372036854775807 → I64 ((b.length : Int) + 1)) ∧ ((0 : Int) ≤ (b.length : Int) + 1 ∧ (b.length : Int) + 1 ≤ (268435456 : Int)) ∧ ((b.length : Int) ≤ 9223372036854775807 → I64 ((b.length : Int) - 1)) ∧ (∃ (I115 : (List Int) → Int → Prop) (mu116 : (List Int) → Int → Nat), I115 (List.replicate ((b.length : Int) + 1).toNat (0 : Int)) ((b.length : Int) - 1) ∧ ∀ (xs4 : List Int) (k2 : Int), I115 xs4 k2 → (if decide (k2 ≥ 0) then ((0 : Int) ≤ i2 ∧ i2 < (a.length : Int)) ∧ ((0 : Int) ≤ k2 ∧ k2 < (b.length : Int)) ∧ (if eqPt (nth a i2) (nth b k2) then (I64 (k2 + 1)) ∧ ((0 : Int) ≤ k2 + 1 ∧ k2 + 1 < (xs2.length : Int)) ∧ (I64 ((nth xs2 (k2 + 1)) + 1)) ∧ ((0 : Int) ≤ k2 ∧ k2 < (xs4.length : Int)) ∧ (I64 (k2 - 1)) ∧ I115 (xs4.set k2.toNat ((nth xs2 (k2 + 1)) + 1)) (k2 - 1) ∧ mu116 (xs4.set k2.toNat ((nth xs2 (k2 + 1)) + 1)) (k2 - 1) < mu116 xs4 k2 else ((0 : Int) ≤ k2 ∧ k2 < (xs2.length : Int)) ∧ (I64 (k2 + 1)) ∧ ((0 : Int) ≤ k2 + 1 ∧ k2 + 1 < (xs4.length : Int)) ∧ ((0 : Int) ≤ k2 ∧ k2 < (xs4.length : Int)) ∧ (I64 (k2 - 1)) ∧ I115 (xs4.set k2.toNat (spec_l1Max.m (nth xs2 k2) (nth xs4 (k2 + 1)))) (k2 - 1) ∧ mu116 (xs4.set k2.toNat (spec_l1Max.m (nth xs2 k2) (nth xs4 (k2 + 1)))) (k2 - 1) < mu116 xs4 k2) else (I64 (i2 - 1)) ∧ I57 xs4 (i2 - 1) ∧ mu58 xs4 (i2 - 1) < mu58 xs2 i2)) else ((0 : Int) ≤ 0 ∧ 0 < (xs2.length : Int)) ∧ Q (nth xs2 0))) := h
  clear h
  have hc0 := Ct.init hO
  refine Ret_enter Try.func46 rfl 66 rfl [.tmp 4] rfl rfl ?_
  refine W_seq ?_
  refine W_reg ?_
  refine L_pu (P_assign (vi 0) rfl) ?_
  refine L_nil ?_
  refine W_seq ?_
  refine W_reg ?_
  refine L_pu (P_move (.slice A6 n7 c8) rfl) ?_
  have hl11 := hp9.le
  refine L_pu (P_len Try.underlying33 A6 n7 c8 hp9.len rfl) ?_
  obtain ⟨hb12, H⟩ := H
  have hi13 := hb12 (len_le hl11)
  refine L_pu (P_add (b.length : Int) 1 rfl rfl hi13) ?_
  obtain ⟨hb14, H⟩ := H
  refine L_make (kd := (Kd.int .i64)) ei65 hc0 (0 : Int) (rfl) ((b.length : Int) + 1) rfl rfl hb14 fun w15 A16 n17 c18 g19 hr20 hc21 h22 => ?_
  refine L_pu (P_assign (.slice A16 n17 c18) rfl) ?_
  refine L_nil ?_
  refine W_seq ?_
  refine W_seq ?_
  refine W_reg ?_
  refine L_pu (P_move (.slice A1 n2 c3) rfl) ?_
  have hl24 := (hp4.st hc21.st).le
  refine L_pu (P_len Try.underlying33 A1 n2 c3 (hp4.st hc21.st).len rfl) ?_
  obtain ⟨hb25, H⟩ := H
  have hi26 := hb25 (len_le hl11) (len_le hl24)
  refine L_pu (P_sub (a.length : Int) 1 rfl rfl hi26) ?_
  refine L_pu (P_assign (vi ((a.length : Int) - 1)) rfl) ?_
  refine L_nil ?_
  refine W_block ?_
  obtain ⟨I57, mu58, hI59, H⟩ := H
  refine W_loop (α := (List Int) × (Option Addr) × Nat × Nat × Int) (fun (s : (List Int) × (Option Addr) × Nat × Nat × Int) t w46 => match s with | (xs2, A49, n50, c51, i2) => I57 xs2 i2 ∧ Has t [(0, .slice A1 n2 c3), (1, .slice A6 n7 c8), (5, .slice A49 n50 c51), (6, vi i2)] ∧ Ct none w0 w46 [blk (.slice A49 n50 c51)] O ∧ Sl kPt w46 (Fr ([blk (.slice A49 n50 c51)] ++ O)) (.slice A1 n2 c3) a ∧ Sl kPt w46 (Fr ([blk (.slice A49 n50 c51)] ++ O)) (.slice A6 n7 c8) b ∧ Ow (Kd.int .i64) 3 w46 ([blk (.slice A49 n50 c51)] ++ O) (.slice A49 n50 c51) xs2) (fun (s : (List Int) × (Option Addr) × Nat × Nat × Int) => match s with | (xs2, _, _, _, i2) => mu58 xs2 i2) ((List.replicate ((b.length : Int) + 1).toNat (0 : Int)), A16, n17, c18, (a.length : Int) - 1) ⟨hI59, ⟨rfl, rfl, rfl, rfl, trivial⟩, hc21, (hp4.st hc21.st), (hp9.st hc21.st), h22⟩ ?_
  rintro ⟨xs2, A49, n50, c51, i2⟩ _ w46 ⟨hI59, hh61, hc53, h54, h55, h56⟩
  obtain ⟨u62, rfl⟩ := Has.ins hh61
  have H := H xs2 i2 hI59
  refine W_seq ?_
  refine W_seq ?_
  refine W_reg ?_
  refine L_pu (P_move (vi i2) rfl) ?_
  refine L_pu (P_cmp i2 0 (decide (i2 ≥ 0)) rfl rfl rfl) ?_
  refine L_nil ?_
  refine W_cond (decide (i2 ≥ 0)) rfl (fun hq63 => ?_) (fun hq63 => ?_)
  · have H := ite_t H hq63
    refine W_skip ?_
    refine W_seq ?_
    refine W_block ?_
    refine W_seq ?_
    refine W_reg ?_
    refine L_pu (P_move (.slice A6 n7 c8) rfl) ?_
    have hl64 := h55.le
    refine L_pu (P_len Try.underlying33 A6 n7 c8 h55.len rfl) ?_
    obtain ⟨hb65, H⟩ := H
    have hi66 := hb65 (len_le hl64)
    refine L_pu (P_add (b.length : Int) 1 rfl rfl hi66) ?_
    obtain ⟨hb67, H⟩ := H
    refine L_make (kd := (Kd.int .i64)) ei65 hc53 (0 : Int) (rfl) ((b.length : Int) + 1) rfl rfl hb67 fun w68 A69 n70 c71 g72 hr73 hc74 h75 => ?_
    refine L_pu (P_assign (.slice A69 n70 c71) rfl) ?_
    refine L_nil ?_
    refine W_seq ?_
    refine W_seq ?_
    refine W_reg ?_
    refine L_pu (P_move (.slice A6 n7 c8) rfl) ?_
    refine L_pu (P_len Try.underlying33 A6 n7 c8 (h55.st (.own _ _ g72 hr73)).len rfl) ?_
    obtain ⟨hb77, H⟩ := H
    have hi78 := hb77 (len_le hl64)
    refine L_pu (P_sub (b.length : Int) 1 rfl rfl hi78) ?_
    refine L_pu (P_assign (vi ((b.length : Int) - 1)) rfl) ?_
    refine L_nil ?_
    refine W_block ?_
    obtain ⟨I115, mu116, hI117, H⟩ := H
    have h119 := (h56.so _ g72 hr73)
    refine W_loop (α := (List Int) × Int) (fun (s : (List Int) × Int) t w102 => match s with | (xs4, k2) => I115 xs4 k2 ∧ Has t [(0, .slice A1 n2 c3), (1, .slice A6 n7 c8), (5, .slice A49 n50 c51), (6, vi i2), (7, .slice A69 n70 c71), (8, vi k2)] ∧ Ct none w0 w102 [blk (.slice A69 n70 c71), blk (.slice A49 n50 c51)] O ∧ Sl kPt w102 (Fr ([blk (.slice A69 n70 c71), blk (.slice A49 n50 c51)] ++ O)) (.slice A1 n2 c3) a ∧ Sl kPt w102 (Fr ([blk (.slice A69 n70 c71), blk (.slice A49 n50 c51)] ++ O)) (.slice A6 n7 c8) b ∧ Ow (Kd.int .i64) 3 w102 ([blk (.slice A69 n70 c71), blk (.slice A49 n50 c51)] ++ O) (.slice A49 n50 c51) xs2 ∧ Ow (Kd.int .i64) 3 w102 ([blk (.slice A69 n70 c71), blk (.slice A49 n50 c51)] ++ O) (.slice A69 n70 c71) xs4) (fun (s : (List Int) × Int) => match s with | (xs4, k2) => mu116 xs4 k2) ((List.replicate ((b.length : Int) + 1).toNat (0 : Int)), (b.length : Int) - 1) ⟨hI117, ⟨rfl, rfl, rfl, rfl, rfl, rfl, trivial⟩, hc74, (h54.st (.own _ _ g72 hr73)), (h55.st (.own _ _ g72 hr73)), h119, h75⟩ ?_
    rintro ⟨xs4, k2⟩ _ w102 ⟨hI117, hh120, hc110, h111, h112, h113, h114⟩
    obtain ⟨u121, rfl⟩ := Has.ins hh120
    have H := H xs4 k2 hI117
    refine W_seq ?_
    refine W_seq ?_
    refine W_reg ?_
    refine L_pu (P_move (vi k2) rfl) ?_
    refine L_pu (P_cmp k2 0 (decide (k2 ≥ 0)) rfl rfl rfl) ?_
    refine L_nil ?_
    refine W_cond (decide (k2 ≥ 0)) rfl (fun hq122 => ?_) (fun hq122 => ?_)
    · have H := ite_t H hq122
      refine W_skip ?_
      refine W_seq ?_
      refine W_block ?_
      refine W_seq ?_
      refine W_draw (fun x => Gr w102 x none) (by kernel_rfl) (by kernel_rfl) (Gr.drew _) ?_
      refine Q_pu (P_move (.slice A1 n2 c3) rfl) ?_
      refine Q_pu (P_move (vi i2) rfl) ?_
      obtain ⟨hb123, H⟩ := H
      obtain ⟨ad124, cs125, hA126, hS129, hR127, hcl128⟩ := h111.get default (by decide) i2 hb123
      obtain rfl := kPt.op hR127
      refine Q_pu (P_ia Try.underlying33 se33 A1 ad124 n2 c3 h111.len i2 rfl hA126 rfl hb123) ?_
      refine Q_pu (P_lda ag41 sz41 cQ (ad124.add (i2.toNat * 2)) [vi ((nth a i2).X), vi ((nth a i2).Y)] rfl rfl hcl128) ?_
      refine Q_pu (P_move (.slice A6 n7 c8) rfl) ?_
      refine Q_pu (P_move (vi k2) rfl) ?_
      obtain ⟨hb130, H⟩ := H
      obtain ⟨ad131, cs132, hA133, hS136, hR134, hcl135⟩ := h112.get default (by decide) k2 hb130
      obtain rfl := kPt.op hR134
      refine Q_pu (P_ia Try.underlying33 se33 A6 ad131 n7 c8 h112.len k2 rfl hA133 rfl hb130) ?_
      refine Q_pu (P_lda ag41 sz41 cQ (ad131.add (k2.toNat * 2)) [vi ((nth b k2).X), vi ((nth b k2).Y)] rfl rfl hcl135) ?_
      refine Q_pu (P_eq _ _ (eqPt (nth a i2) (nth b k2)) (qt41 (nth a i2) (nth b k2)) rfl rfl) ?_
      refine Q_nil fun w137 g138 => ?_
      have hc140 := hc110.k0 g138
      refine W_cond (eqPt (nth a i2) (nth b k2)) rfl (fun hq141 => ?_) (fun hq141 => ?_)
      · have H := ite_t H hq141
        refine W_reg ?_
        refine L_pu (P_move (.slice A69 n70 c71) rfl) ?_
        refine L_pu (P_move (vi k2) rfl) ?_
        refine L_pu (P_move (.slice A49 n50 c51) rfl) ?_
        refine L_pu (P_move (vi k2) rfl) ?_
        obtain ⟨hb142, H⟩ := H
        refine L_pu (P_add k2 1 rfl rfl hb142) ?_
        obtain ⟨hb143, H⟩ := H
        have h150 := (h113.sn g138)
        obtain ⟨ad144, cs145, hA146, hR147, hcl148⟩ := h150.get default (by decide) (k2 + 1) hb143
        obtain rfl := Kd.int.op hR147
        refine L_pu (P_ia Try.underlying65 se65 A49 ad144 n50 c51 h150.len (k2 + 1) rfl hA146 rfl hb143) ?_
        refine L_pu (P_ld ag3 cL (ad144.add ((k2 + 1).toNat * 1)) (vi (nth xs2 (k2 + 1))) rfl (hcl148 0 _ rfl)) ?_
        obtain ⟨hb151, H⟩ := H
        refine L_pu (P_add (nth xs2 (k2 + 1)) 1 rfl rfl hb151) ?_
        obtain ⟨hb152, H⟩ := H
        have h159 := (h114.sn g138)
        obtain ⟨ad153, cs154, hA155, hR156, hcl157⟩ := h159.get default (by decide) k2 hb152
        obtain rfl := Kd.int.op hR156
        refine L_pu (P_ia Try.underlying65 se65 A69 ad153 n70 c71 h159.len k2 rfl hA155 rfl hb152) ?_
        refine L_ste0 A69 n70 c71 xs4 h159 k2 hb152 ad153 hA155 0 rfl [vi ((nth xs2 (k2 + 1)) + 1)] rfl sz3 rfl ((nth xs2 (k2 + 1)) + 1) [vi (nth xs4 k2)] [vi ((nth xs2 (k2 + 1)) + 1)] hcl157 rfl rfl rfl fun w160 g161 h162 => ?_
        have hc163 := hc140.wr 0 rfl g161
        refine L_nil ?_
        refine W_reg ?_
        refine L_pu (P_move (vi k2) rfl) ?_
        obtain ⟨hb164, H⟩ := H
        refine L_pu (P_sub k2 1 rfl rfl hb164) ?_
        refine L_pu (P_assign (vi (k2 - 1)) rfl) ?_
        refine L_nil ?_
        obtain ⟨hI165, hm166⟩ := H
        have h167 := ((h111.st (.new _ g138)).st (.wl (L := [blk (.slice A69 n70 c71), blk (.slice A49 n50 c51)]) (O := O) (j := 0) rfl g161))
        have h168 := ((h112.st (.new _ g138)).st (.wl (L := [blk (.slice A69 n70 c71), blk (.slice A49 n50 c51)]) (O := O) (j := 0) rfl g161))
        have h169 := (Ow.sw (L := [blk (.slice A69 n70 c71), blk (.slice A49 n50 c51)]) (O := O) h150 hc140 (i := 1) rfl (j := 0) rfl (by decide) g161)
        exact ⟨((xs4.set k2.toNat ((nth xs2 (k2 + 1)) + 1)), k2 - 1), hm166, hI165, ⟨rfl, rfl, rfl, rfl, rfl, rfl, trivial⟩, hc163, h167, h168, h169, h162⟩
      · have H := ite_f H hq141
        refine W_tail 13 (by kernel_rfl) (by kernel_rfl) fun w170 g171 => ?_
        have hc172 := hc140.k0 g171
        refine S_pu (P_move (.slice A69 n70 c71) rfl) ?_
        refine S_pu (P_move (vi k2) rfl) ?_
        refine S_pu (P_move (.slice A49 n50 c51) rfl) ?_
        refine S_pu (P_move (vi k2) rfl) ?_
        obtain ⟨hb173, H⟩ := H
        have h180 := ((h113.sn g138).sn g171)
        obtain ⟨ad174, cs175, hA176, hR177, hcl178⟩ := h180.get default (by decide) k2 hb173
        obtain rfl := Kd.int.op hR177
        refine S_pu (P_ia Try.underlying65 se65 A49 ad174 n50 c51 h180.len k2 rfl hA176 rfl hb173) ?_
        refine S_pu (P_ld ag3 cL (ad174.add (k2.toNat * 1)) (vi (nth xs2 k2)) rfl (hcl178 0 _ rfl)) ?_
        refine S_pu (P_move (.slice A69 n70 c71) rfl) ?_
        refine S_pu (P_move (vi k2) rfl) ?_
        obtain ⟨hb181, H⟩ := H
        refine S_pu (P_add k2 1 rfl rfl hb181) ?_
        obtain ⟨hb182, H⟩ := H
        have h189 := ((h114.sn g138).sn g171)
        obtain ⟨ad183, cs184, hA185, hR186, hcl187⟩ := h189.get default (by decide) (k2 + 1) hb182
        obtain rfl := Kd.int.op hR186
        refine S_pu (P_ia Try.underlying65 se65 A69 ad183 n70 c71 h189.len (k2 + 1) rfl hA185 rfl hb182) ?_
        refine S_pu (P_ld ag3 cL (ad183.add ((k2 + 1).toNat * 1)) (vi (nth xs4 (k2 + 1))) rfl (hcl187 0 _ rfl)) ?_
        refine S_call go59 [vi (nth xs2 k2), vi (nth xs4 (k2 + 1))] rfl (vi (spec_l1Max.m (nth xs2 k2) (nth xs4 (k2 + 1)))) ((spec_l1Max.calls w170 hc172.ok (nth xs2 k2) (nth xs4 (k2 + 1)) _ (spec_l1Max.fn (nth xs2 k2) (nth xs4 (k2 + 1)))).mono ?_) ?_
        · rintro _ w ⟨r, rfl, rfl, _, rfl⟩
          exact ⟨rfl, rfl⟩
        obtain ⟨hb195, H⟩ := H
        obtain ⟨ad196, cs197, hA198, hR199, hcl200⟩ := h189.get default (by decide) k2 hb195
        obtain rfl := Kd.int.op hR199
        refine S_pu (P_ia Try.underlying65 se65 A69 ad196 n70 c71 h189.len k2 rfl hA198 rfl hb195) ?_
        refine S_nil ?_
        refine L_ste0 A69 n70 c71 xs4 h189 k2 hb195 ad196 hA198 0 rfl [vi (spec_l1Max.m (nth xs2 k2) (nth xs4 (k2 + 1)))] rfl sz3 rfl (spec_l1Max.m (nth xs2 k2) (nth xs4 (k2 + 1))) [vi (nth xs4 k2)] [vi (spec_l1Max.m (nth xs2 k2) (nth xs4 (k2 + 1)))] hcl200 rfl rfl rfl fun w202 g203 h204 => ?_
        have hc205 := hc172.wr 0 rfl g203
        refine L_nil ?_
        refine W_reg ?_
        refine L_pu (P_move (vi k2) rfl) ?_
        obtain ⟨hb206, H⟩ := H
        refine L_pu (P_sub k2 1 rfl rfl hb206) ?_
        refine L_pu (P_assign (vi (k2 - 1)) rfl) ?_
        refine L_nil ?_
        obtain ⟨hI207, hm208⟩ := H
        have h209 := (((h111.st (.new _ g138)).st (.new _ g171)).st (.wl (L := [blk (.slice A69 n70 c71), blk (.slice A49 n50 c51)]) (O := O) (j := 0) rfl g203))
        have h210 := (((h112.st (.new _ g138)).st (.new _ g171)).st (.wl (L := [blk (.slice A69 n70 c71), blk (.slice A49 n50 c51)]) (O := O) (j := 0) rfl g203))
        have h211 := (Ow.sw (L := [blk (.slice A69 n70 c71), blk (.slice A49 n50 c51)]) (O := O) h180 hc172 (i := 1) rfl (j := 0) rfl (by decide) g203)
        exact ⟨((xs4.set k2.toNat (spec_l1Max.m (nth xs2 k2) (nth xs4 (k2 + 1)))), k2 - 1), hm208, hI207, ⟨rfl, rfl, rfl, rfl, rfl, rfl, trivial⟩, hc205, h209, h210, h211, h204⟩
    · have H := ite_f H hq122
      refine W_exit (xin_hit ?_)
      refine W_reg ?_
      refine L_pu (P_move (.slice A69 n70 c71) rfl) ?_
      refine L_pu (P_assign (.slice A69 n70 c71) rfl) ?_
      refine L_nil ?_
      refine W_reg ?_
      refine L_pu (P_move (vi i2) rfl) ?_
      obtain ⟨hb212, H⟩ := H
      refine L_pu (P_sub i2 1 rfl rfl hb212) ?_
      refine L_pu (P_assign (vi (i2 - 1)) rfl) ?_
      refine L_nil ?_
      have hc213 := hc110.drop 1 rfl
      obtain ⟨hI214, hm215⟩ := H
      have h216 := (h111.st (.dr _ (L := [blk (.slice A69 n70 c71), blk (.slice A49 n50 c51)]) (O := O) (j := 1) rfl))
      have h217 := (h112.st (.dr _ (L := [blk (.slice A69 n70 c71), blk (.slice A49 n50 c51)]) (O := O) (j := 1) rfl))
      have h218 := (Ow.sd (L := [blk (.slice A69 n70 c71), blk (.slice A49 n50 c51)]) (O := O) h114 (i := 0) rfl (j := 1) rfl (by decide))
      exact ⟨(xs4, A69, n70, c71, i2 - 1), hm215, hI214, ⟨rfl, rfl, rfl, rfl, trivial⟩, hc213, h216, h217, h218⟩
  · have H := ite_f H hq63
    refine W_exit (xin_hit ?_)
    refine W_seq ?_
    refine W_reg ?_
    refine L_pu (P_move (.slice A49 n50 c51) rfl) ?_
    obtain ⟨hb219, H⟩ := H
    obtain ⟨ad220, cs221, hA222, hR223, hcl224⟩ := h56.get default (by decide) 0 hb219
    obtain rfl := Kd.int.op hR223
    refine L_pu (P_ia Try.underlying65 se65 A49 ad220 n50 c51 h56.len 0 rfl hA222 rfl hb219) ?_
    refine L_pu (P_ld ag3 cL (ad220.add ((0 : Int).toNat * 1)) (vi (nth xs2 0)) rfl (hcl224 0 _ rfl)) ?_
    refine L_pu (P_assign (vi (nth xs2 0)) rfl) ?_
    refine L_nil ?_
    refine W_ret ?_
    have hc226 := hc53.drop 0 rfl
    exact ⟨[vi (nth xs2 0)], ⟨_, rfl, rfl⟩, (nth xs2 0), rfl, H, hc226.gr⟩
end Go.Proofs.Ytnliofcjplnboaa

namespace Go.Proofs.Ytnliofcjplnboaa
set_option linter.unusedVariables false
set_option linter.unusedSimpArgs false
theorem spec_l5Long.law (a b : List Pt) (Q : Int → Prop) (ha : a.length ≤ 1048576) (hb : b.length ≤ 1048576) (hq : Q (lcs a b : Nat)) : spec_l5Long.E a b Q := by
  unfold spec_l5Long.E
  have hn : ((b.length : Int) + 1).toNat = b.length + 1 := by omega
  rw [hn]
  refine ⟨fun _ => by unfold I64; omega, by omega, fun _ _ => by unfold I64; omega,
    fun xs i => ∃ k : Nat, i = (k : Int) - 1 ∧ k ≤ a.length ∧ RowOk a b k 0 xs, fun _ i => (i + 1).toNat, ⟨a.length, rfl, Nat.le_refl _, by simp, fun m _ hm => ?_⟩, ?_⟩
  · rw [nth_rep _ _ _ (by omega), List.drop_length, lcs_nil]; rfl
  rintro xs _ ⟨k, rfl, hk, hr⟩
  by_cases hk0 : (k : Int) - 1 ≥ 0
  · rw [if_pos (by simpa using hk0)]
    obtain ⟨i, rfl⟩ : ∃ i, k = i + 1 := ⟨k - 1, by omega⟩
    have ei : ((i + 1 : Nat) : Int) - 1 = (i : Int) := by omega
    rw [ei]
    refine ⟨fun _ => by unfold I64; omega, by omega, fun _ => by unfold I64; omega,
      fun ys j => ∃ m : Nat, j = (m : Int) - 1 ∧ m ≤ b.length ∧ RowOk a b i m ys, fun _ j => (j + 1).toNat, ⟨b.length, rfl, Nat.le_refl _, by simp, fun m hm1 hm2 => ?_⟩, ?_⟩
    · have : m = b.length := by omega
      subst this
      rw [nth_rep _ _ _ (by omega), List.drop_length, lcs_nil2]; rfl
    rintro ys _ ⟨m, rfl, hm, hs⟩
    by_cases hm0 : (m : Int) - 1 ≥ 0
    · rw [if_pos (by simpa using hm0)]
      obtain ⟨j, rfl⟩ : ∃ j, m = j + 1 := ⟨m - 1, by omega⟩
      have ej : ((j + 1 : Nat) : Int) - 1 = (j : Int) := by omega
      have ej1 : (j : Int) + 1 = ((j + 1 : Nat) : Int) := by omega
      rw [ej, ej1, eqPt_is]
      have hl := lcs_drop a b (i := i) (j := j) (by omega) (by omega)
      have n1 := hr.2 (j + 1) (Nat.zero_le _) (by omega)
      have n2 := hr.2 j (Nat.zero_le _) (by omega)
      have n3 := hs.2 (j + 1) (Nat.le_refl _) (by omega)
      have b1 := lcs_le2 (a.drop (i + 1)) (b.drop (j + 1))
      rw [List.length_drop] at b1
      have hset : ∀ v : Int, v = (lcs (a.drop i) (b.drop j) : Nat) → RowOk a b i j (ys.set (j : Int).toNat v) := fun v hv => by
        refine ⟨by rw [List.length_set]; exact hs.1, fun u hu1 hu2 => ?_⟩
        rw [Int.toNat_natCast, nth_set _ (by have := hs.1; omega)]
        by_cases e : u = j
        · subst e; rw [if_pos rfl, hv]
        · rw [if_neg e]; exact hs.2 u (by omega) hu2
      have l1 := hr.1
      have l2 := hs.1
      refine ⟨by omega, by omega, ?_⟩
      by_cases he : nth a (i : Int) = nth b (j : Int)
      · rw [if_pos (by simpa using he)]
        rw [if_pos he] at hl
        rw [n1]
        exact ⟨by unfold I64; omega, by omega, by unfold I64; omega, by omega, by unfold I64; omega, ⟨j, by omega, by omega, hset _ (by omega)⟩, by dsimp only; omega⟩
      · rw [if_neg (by simpa using he)]
        rw [if_neg he] at hl
        rw [n2, n3, spec_l1Max.m_is]
        exact ⟨by omega, by unfold I64; omega, by omega, by omega, by unfold I64; omega, ⟨j, by omega, by omega, hset _ (by omega)⟩, by dsimp only; omega⟩
    · rw [if_neg (by simpa using hm0)]
      have : m = 0 := by omega
      subst this
      exact ⟨by unfold I64; omega, ⟨i, by omega, by omega, hs⟩, by dsimp only; omega⟩
  · rw [if_neg (by simpa using hk0)]
    have : k = 0 := by omega
    subst this
    have h1 := hr.1
    have h2 := hr.2 0 (Nat.le_refl _) (Nat.zero_le _)
    refine ⟨by omega, ?_⟩
    rw [show nth xs 0 = nth xs ((0 : Nat) : Int) from rfl, h2]
    exact hq
end Go.Proofs.Ytnliofcjplnboaa

namespace Go.Proofs.Ytnliofcjplnboaa
open Go.RowKit
set_option linter.unusedVariables false
def spec_SeqPairs.E (a : List Pt) (b : List Pt) (Q : List Pair → Prop) : Prop :=
  (∃ (I50 : (List Pair) → Int → Int → Prop) (mu51 : (List Pair) → Int → Int → Nat), I50 ([] : List Pair) 0 0 ∧ ∀ (xs2 : List Pair) (i2 : Int) (k2 : Int), I50 xs2 i2 k2 → (if decide (i2 < (a.length : Int)) then (if decide (k2 < (b.length : Int)) then spec_l5Few.E a b (fun r => (if r then ((0 : Int) ≤ i2 ∧ i2 < (a.length : Int)) ∧ ((0 : Int) ≤ k2 ∧ k2 < (b.length : Int)) ∧ (if eqPt (nth a i2) (nth b k2) then (xs2.length + ([(⟨i2, k2⟩ : Pair)] : List Pair).length ≤ 268435456) ∧ (-9223372036854775808 ≤ i2) ∧ (-9223372036854775808 ≤ k2) ∧ I50 (xs2 ++ ([(⟨i2, k2⟩ : Pair)] : List Pair)) (i2 + 1) (k2 + 1) ∧ mu51 (xs2 ++ ([(⟨i2, k2⟩ : Pair)] : List Pair)) (i2 + 1) (k2 + 1) < mu51 xs2 i2 k2 else (-9223372036854775808 ≤ i2) ∧ ((0 : Int) ≤ i2 + 1 ∧ (i2 + 1 : Int) ≤ (a.length : Int) ∧ (a.length : Int) ≤ (a.length : Int)) ∧ ((0 : Int) ≤ k2 ∧ (k2 : Int) ≤ (b.length : Int) ∧ (b.length : Int) ≤ (b.length : Int)) ∧ ((0 : Int) ≤ i2 ∧ (i2 : Int) ≤ (a.length : Int) ∧ (a.length : Int) ≤ (a.length : Int)) ∧ (-9223372036854775808 ≤ k2) ∧ ((0 : Int) ≤ k2 + 1 ∧ (k2 + 1 : Int) ≤ (b.length : Int) ∧ (b.length : Int) ≤ (b.length : Int)) ∧ spec_l5Long.E ((a.drop (i2 + 1).toNat).take ((a.length : Int).toNat - (i2 + 1).toNat)) ((b.drop k2.toNat).take ((b.length : Int).toNat - k2.toNat)) (fun r2 => spec_l5Long.E ((a.drop i2.toNat).take ((a.length : Int).toNat - i2.toNat)) ((b.drop (k2 + 1).toNat).take ((b.length : Int).toNat - (k2 + 1).toNat)) (fun r3 => (if decide (r2 ≥ r3) then (-9223372036854775808 ≤ i2) ∧ I50 xs2 (i2 + 1) k2 ∧ mu51 xs2 (i2 + 1) k2 < mu51 xs2 i2 k2 else (-9223372036854775808 ≤ k2) ∧ I50 xs2 i2 (k2 + 1) ∧ mu51 xs2 i2 (k2 + 1) < mu51 xs2 i2 k2)))) else Q xs2)) else Q xs2) else Q xs2))
set_option maxHeartbeats 8000000 in
set_option maxRecDepth 100000 in
theorem spec_SeqPairs.calls {O : Ob} (w0 : World) (hO : Ok w0 O) (a : List Pt) (A1 : Option Addr) (n2 c3 : Nat) (hp4 : Sl kPt w0 (Fr O) (.slice A1 n2 c3) a) (b : List Pt) (A6 : Option Addr) (n7 c8 : Nat) (hp9 : Sl kPt w0 (Fr O) (.slice A6 n7 c8) b) (Q : List Pair → Prop) (h : spec_SeqPairs.E a b Q) :
    Ret Try.prog 30 [.slice A1 n2 c3, .slice A6 n7 c8] w0 (fun v w' => ∃ (r0 : List Pair) (A0 : Option Addr) (n0 c0 : Nat), v = .slice A0 n0 c0 ∧ Q r0 ∧ Gr w0 w' none ∧ Ok w' ([blk (.slice A0 n0 c0)] ++ O) ∧ (∀ b, some b ∈ [blk (.slice A0 n0 c0)] → w0.heap.size ≤ b) ∧ Ow kPair 46 w' ([blk (.slice A0 n0 c0)] ++ O) (.slice A0 n0 c0) r0) := by
  have H : (∃ (I50 : (List Pair) → Int → Int → Prop) (mu51 : (List Pair) → Int → Int → Nat), I50 ([] : List Pair) 0 0 ∧ ∀ (xs2 : List Pair) (i2 : Int) (k2 : Int), I50 xs2 i2 k2 → (if decide (i2 < (a.length : Int)) then (if decide (k2 < (b.length : Int)) then spec_l5Few.E a b (fun r => (if r then ((0 : Int) ≤ i2 ∧ i2 < (a.length : Int)) ∧ ((0 : Int) ≤ k2 ∧ k2 < (b.length : Int)) ∧ (if eqPt (nth a i2) (nth b k2) then (xs2.length + ([(⟨i2, k2⟩ : Pair)] : List Pair).length ≤ 268435456) ∧ (-9223372036854775808 ≤ i2) ∧ (-9223372036854775808 ≤ k2) ∧ I50 (xs2 ++ ([(⟨i2, k2⟩ : Pair)] : List Pair)) (i2 + 1) (k2 + 1) ∧ mu51 (xs2 ++ ([(⟨i2, k2⟩ : Pair)] : List Pair)) (i2 + 1) (k2 + 1) < mu51 xs2 i2 k2 else (-9223372036854775808 ≤ i2) ∧ ((0 : Int) ≤ i2 + 1 ∧ (i2 + 1 : Int) ≤ (a.length : Int) ∧ (a.length : Int) ≤ (a.length : Int)) ∧ ((0 : Int) ≤ k2 ∧ (k2 : Int) ≤ (b.length : Int) ∧ (b.length : Int) ≤ (b.length : Int)) ∧ ((0 : Int) ≤ i2 ∧ (i2 : Int) ≤ (a.length : Int) ∧ (a.length : Int) ≤ (a.length : Int)) ∧ (-9223372036854775808 ≤ k2) ∧ ((0 : Int) ≤ k2 + 1 ∧ (k2 + 1 : Int) ≤ (b.length : Int) ∧ (b.length : Int) ≤ (b.length : Int)) ∧ spec_l5Long.E ((a.drop (i2 + 1).toNat).take ((a.length : Int).toNat - (i2 + 1).toNat)) ((b.drop k2.toNat).take ((b.length : Int).toNat - k2.toNat)) (fun r2 => spec_l5Long.E ((a.drop i2.toNat).take ((a.length : Int).toNat - i2.toNat)) ((b.drop (k2 + 1).toNat).take ((b.length : Int).toNat - (k2 + 1).toNat)) (fun r3 => (if decide (r2 ≥ r3) then (-9223372036854775808 ≤ i2) ∧ I50 xs2 (i2 + 1) k2 ∧ mu51 xs2 (i2 + 1) k2 < mu51 xs2 i2 k2 else (-9223372036854775808 ≤ k2) ∧ I50 xs2 i2 (k2 + 1) ∧ mu51 xs2 i2 (k2 + 1) < mu51 xs2 i2 k2)))) else Q xs2)) else Q xs2) else Q xs2)) := h
  clear h
  have hc0 := Ct.init hO
  refine Ret_enter Try.func30 rfl 67 rfl [.tmp 4] rfl rfl ?_
  refine W_seq ?_
  refine W_reg ?_
  refine L_pu (P_assign (.slice none 0 0) rfl) ?_
  refine L_nil ?_
  refine W_seq ?_
  refine W_reg ?_
  refine L_lit (kd := kPair) ei43 hc0 ([] : List Pair) (cells := []) rfl (fun _ => by kernel_rfl) fun w11 A12 n13 c14 g15 hr16 hc17 h18 => ?_
  refine L_pu (P_assign (.slice A12 n13 c14) rfl) ?_
  refine L_nil ?_
  refine W_seq ?_
  refine W_reg ?_
  refine L_pu (P_assign (vi 0) rfl) ?_
  refine L_nil ?_
  refine W_seq ?_
  refine W_reg ?_
  refine L_pu (P_assign (vi 0) rfl) ?_
  refine L_nil ?_
  refine W_seq ?_
  refine W_block ?_
  obtain ⟨I50, mu51, hI52, H⟩ := H
  refine W_loop (α := (List Pair) × (Option Addr) × Nat × Nat × Int × Int) (fun (s : (List Pair) × (Option Addr) × Nat × Nat × Int × Int) t w39 => match s with | (xs2, A42, n43, c44, i2, k2) => I50 xs2 i2 k2 ∧ Has t [(0, .slice A1 n2 c3), (1, .slice A6 n7 c8), (5, .slice A42 n43 c44), (6, vi i2), (7, vi k2)] ∧ Ct none w0 w39 [blk (.slice A42 n43 c44)] O ∧ Sl kPt w39 (Fr ([blk (.slice A42 n43 c44)] ++ O)) (.slice A1 n2 c3) a ∧ Sl kPt w39 (Fr ([blk (.slice A42 n43 c44)] ++ O)) (.slice A6 n7 c8) b ∧ Ow kPair 46 w39 ([blk (.slice A42 n43 c44)] ++ O) (.slice A42 n43 c44) xs2) (fun (s : (List Pair) × (Option Addr) × Nat × Nat × Int × Int) => match s with | (xs2, _, _, _, i2, k2) => mu51 xs2 i2 k2) (([] : List Pair), A12, n13, c14, 0, 0) ⟨hI52, ⟨rfl, rfl, rfl, rfl, rfl, trivial⟩, hc17, (hp4.st hc17.st), (hp9.st hc17.st), h18⟩ ?_
  rintro ⟨xs2, A42, n43, c44, i2, k2⟩ _ w39 ⟨hI52, hh54, hc46, h47, h48, h49⟩
  obtain ⟨u55, rfl⟩ := Has.ins hh54
  have H := H xs2 i2 k2 hI52
  refine W_seq ?_
  refine W_seq ?_
  refine W_reg ?_
  refine L_pu (P_move (vi i2) rfl) ?_
  refine L_pu (P_move (.slice A1 n2 c3) rfl) ?_
  have hl56 := h47.le
  refine L_pu (P_len Try.underlying33 A1 n2 c3 h47.len rfl) ?_
  refine L_pu (P_cmp i2 (a.length : Int) (decide (i2 < (a.length : Int))) rfl rfl rfl) ?_
  refine L_pu (P_move (vb (decide (i2 < (a.length : Int)))) rfl) ?_
  rcases bool_or (decide (i2 < (a.length : Int))) with hq57 | hq57
  · have H := ite_t H hq57
    refine L_run (dj := 13) rfl rfl (by exact congrArg Value.bool hq57) ?_
    refine L_pu (P_move (vi k2) rfl) ?_
    refine L_run (dj := 13) rfl rfl (by exact congrArg Value.bool hq57) ?_
    refine L_pu (P_move (.slice A6 n7 c8) rfl) ?_
    refine L_run (dj := 13) rfl rfl (by exact congrArg Value.bool hq57) ?_
    have hl58 := h48.le
    refine L_pu (P_len Try.underlying33 A6 n7 c8 h48.len rfl) ?_
    refine L_run (dj := 13) rfl rfl (by exact congrArg Value.bool hq57) ?_
    refine L_pu (P_cmp k2 (b.length : Int) (decide (k2 < (b.length : Int))) rfl rfl rfl) ?_
    refine L_pu (P_pick true (vb (decide (k2 < (b.length : Int)))) (by exact congrArg Value.bool hq57) rfl) ?_
    refine L_pu (P_move (vb (decide (k2 < (b.length : Int)))) rfl) ?_
    rcases bool_or (decide (k2 < (b.length : Int))) with hq59 | hq59
    · have H := ite_t H hq59
      refine L_run (dj := 19) rfl rfl (by exact congrArg Value.bool hq59) ?_
      refine L_pu (P_move (.slice A1 n2 c3) rfl) ?_
      refine L_run (dj := 19) rfl rfl (by exact congrArg Value.bool hq59) ?_
      refine L_pu (P_move (.slice A6 n7 c8) rfl) ?_
      refine L_run (dj := 19) rfl rfl (by exact congrArg Value.bool hq59) ?_
      refine L_call go45 [.slice A1 n2 c3, .slice A6 n7 c8] rfl ((spec_l5Few.calls w39 hc46.ok a A1 n2 c3 h47 b A6 n7 c8 h48 _ H).mono ?_)
      rintro _ w60 ⟨r, rfl, H, g61, _⟩
      have hc65 := hc46.k0 g61
      refine L_pu (P_pick true (vb r) (by exact congrArg Value.bool hq59) rfl) ?_
      refine L_nil ?_
      refine W_cond r rfl (fun hq66 => ?_) (fun hq66 => ?_)
      · have H := ite_t H hq66
        refine W_skip ?_
        refine W_block ?_
        refine W_block ?_
        refine W_seq ?_
        refine W_draw (fun x => Gr w60 x none) (by kernel_rfl) (by kernel_rfl) (Gr.drew _) ?_
        refine Q_pu (P_move (.slice A1 n2 c3) rfl) ?_
        refine Q_pu (P_move (vi i2) rfl) ?_
        obtain ⟨hb67, H⟩ := H
        obtain ⟨ad68, cs69, hA70, hS73, hR71, hcl72⟩ := (h47.st (.new _ g61)).get default (by decide) i2 hb67
        obtain rfl := kPt.op hR71
        refine Q_pu (P_ia Try.underlying33 se33 A1 ad68 n2 c3 (h47.st (.new _ g61)).len i2 rfl hA70 rfl hb67) ?_
        refine Q_pu (P_lda ag41 sz41 cQ (ad68.add (i2.toNat * 2)) [vi ((nth a i2).X), vi ((nth a i2).Y)] rfl rfl hcl72) ?_
        refine Q_pu (P_move (.slice A6 n7 c8) rfl) ?_
        refine Q_pu (P_move (vi k2) rfl) ?_
        obtain ⟨hb74, H⟩ := H
        obtain ⟨ad75, cs76, hA77, hS80, hR78, hcl79⟩ := (h48.st (.new _ g61)).get default (by decide) k2 hb74
        obtain rfl := kPt.op hR78
        refine Q_pu (P_ia Try.underlying33 se33 A6 ad75 n7 c8 (h48.st (.new _ g61)).len k2 rfl hA77 rfl hb74) ?_
        refine Q_pu (P_lda ag41 sz41 cQ (ad75.add (k2.toNat * 2)) [vi ((nth b k2).X), vi ((nth b k2).Y)] rfl rfl hcl79) ?_
        refine Q_pu (P_eq _ _ (eqPt (nth a i2) (nth b k2)) (qt41 (nth a i2) (nth b k2)) rfl rfl) ?_
        refine Q_pu (P_assign (vb (eqPt (nth a i2) (nth b k2))) rfl) ?_
        refine Q_nil fun w81 g82 => ?_
        have hc84 := hc65.k0 g82
        refine W_cond (eqPt (nth a i2) (nth b k2)) rfl (fun hq85 => ?_) (fun hq85 => ?_)
        · have H := ite_t H hq85
          refine W_seq ?_
          refine W_reg ?_
          refine L_pu (P_move (.slice A42 n43 c44) rfl) ?_
          refine L_pu (P_move (vi i2) rfl) ?_
          refine L_pu (P_move (vi k2) rfl) ?_
          refine L_pu (P_build (.agg #[vi i2, vi k2]) (fun _ => by kernel_rfl)) ?_
          refine L_lit (kd := kPair) ei43 hc84 ([(⟨i2, k2⟩ : Pair)] : List Pair) (cells := [vi i2, vi k2]) ⟨[vi i2, vi k2], _, rfl, (kPair.mk _ _ (⟨i2, k2⟩ : Pair)), rfl⟩ (fun _ => by kernel_rfl) fun w86 A87 n88 c89 g90 hr91 hc92 h93 => ?_
          obtain ⟨hb95, H⟩ := H
          have h96 := (((h49.sn g61).sn g82).so _ g90 hr91)
          refine L_app ei43 hc92 (.slice A42 n43 c44) xs2 ([(⟨i2, k2⟩ : Pair)] : List Pair) rfl h96 (.slice A87 n88 c89) rfl h93.sx 1 rfl hb95 fun w97 A98 n99 c100 g101 s102 hc103 h104 => ?_
          refine L_pu (P_assign (.slice A98 n99 c100) rfl) ?_
          refine L_nil ?_
          refine W_seq ?_
          refine W_reg ?_
          refine L_pu (P_move (vi i2) rfl) ?_
          obtain ⟨hb107, H⟩ := H
          have hi106 : I64 (i2 + 1) := i64_succ (of_decide_eq_true hq57) hl56 hb107
          refine L_pu (P_add i2 1 rfl rfl hi106) ?_
          refine L_pu (P_assign (vi (i2 + 1)) rfl) ?_
          refine L_nil ?_
          refine W_reg ?_
          refine L_pu (P_move (vi k2) rfl) ?_
          obtain ⟨hb109, H⟩ := H
          have hi108 : I64 (k2 + 1) := i64_succ (of_decide_eq_true hq59) hl58 hb109
          refine L_pu (P_add k2 1 rfl rfl hi108) ?_
          refine L_pu (P_assign (vi (k2 + 1)) rfl) ?_
          refine L_nil ?_
          have hc110 := hc103.drop 0 rfl
          obtain ⟨hI111, hm112⟩ := H
          have h113 := (((((h47.st (.new _ g61)).st (.new _ g82)).st (.own _ _ g90 hr91)).st s102).st (.dr _ (L := [blk (.slice A87 n88 c89), blk (.slice A98 n99 c100)]) (O := O) (j := 0) rfl))
          have h114 := (((((h48.st (.new _ g61)).st (.new _ g82)).st (.own _ _ g90 hr91)).st s102).st (.dr _ (L := [blk (.slice A87 n88 c89), blk (.slice A98 n99 c100)]) (O := O) (j := 0) rfl))
          have h115 := (Ow.sd (L := [blk (.slice A87 n88 c89), blk (.slice A98 n99 c100)]) (O := O) h104 (i := 1) rfl (j := 0) rfl (by decide))
          exact ⟨((xs2 ++ ([(⟨i2, k2⟩ : Pair)] : List Pair)), A98, n99, c100, i2 + 1, k2 + 1), hm112, hI111, ⟨rfl, rfl, rfl, rfl, rfl, trivial⟩, hc110, h113, h114, h115⟩
        · have H := ite_f H hq85
          refine W_seq ?_
          refine W_mixr 18 (none) (by kernel_rfl) rfl fun w116 g117 hM118 => ?_
          have hc119 := hc84.k0 g117
          refine M_pu 0 rfl (by kernel_rfl) hM118 (P_move (.slice A1 n2 c3) rfl) ?_
          refine M_pu 1 rfl (by kernel_rfl) hM118 (P_move (vi i2) rfl) ?_
          obtain ⟨hb121, H⟩ := H
          have hi120 : I64 (i2 + 1) := i64_succ (of_decide_eq_true hq57) hl56 hb121
          refine M_pu 2 rfl (by kernel_rfl) hM118 (P_add i2 1 rfl rfl hi120) ?_
          obtain ⟨hb122, H⟩ := H
          have h127 := (((h47.st (.new _ g61)).st (.new _ g82)).st (.new _ g117))
          refine M_cuts 3 rfl (by kernel_rfl) hM118 Try.underlying33 se33 A1 n2 c3 a rfl h127 (i2 + 1) (a.length : Int) rfl (bd_none h127.len) hb122 fun A123 n124 c125 h126 => ?_
          refine M_pu 4 rfl (by kernel_rfl) hM118 (P_move (.slice A6 n7 c8) rfl) ?_
          refine M_pu 5 rfl (by kernel_rfl) hM118 (P_move (vi k2) rfl) ?_
          obtain ⟨hb129, H⟩ := H
          have h134 := (((h48.st (.new _ g61)).st (.new _ g82)).st (.new _ g117))
          refine M_cuts 6 rfl (by kernel_rfl) hM118 Try.underlying33 se33 A6 n7 c8 b rfl h134 k2 (b.length : Int) rfl (bd_none h134.len) hb129 fun A130 n131 c132 h133 => ?_
          refine M_pu 8 rfl (by kernel_rfl) hM118 (P_move (.slice A1 n2 c3) rfl) ?_
          refine M_pu 9 rfl (by kernel_rfl) hM118 (P_move (vi i2) rfl) ?_
          obtain ⟨hb136, H⟩ := H
          refine M_cuts 10 rfl (by kernel_rfl) hM118 Try.underlying33 se33 A1 n2 c3 a rfl h127 i2 (a.length : Int) rfl (bd_none h127.len) hb136 fun A137 n138 c139 h140 => ?_
          refine M_pu 11 rfl (by kernel_rfl) hM118 (P_move (.slice A6 n7 c8) rfl) ?_
          refine M_pu 12 rfl (by kernel_rfl) hM118 (P_move (vi k2) rfl) ?_
          obtain ⟨hb143, H⟩ := H
          have hi142 : I64 (k2 + 1) := i64_succ (of_decide_eq_true hq59) hl58 hb143
          refine M_pu 13 rfl (by kernel_rfl) hM118 (P_add k2 1 rfl rfl hi142) ?_
          obtain ⟨hb144, H⟩ := H
          refine M_cuts 14 rfl (by kernel_rfl) hM118 Try.underlying33 se33 A6 n7 c8 b rfl h134 (k2 + 1) (b.length : Int) rfl (bd_none h134.len) hb144 fun A145 n146 c147 h148 => ?_
          refine M_any1 7 (by kernel_rfl) rfl ?_
          refine L_call go46 [.slice A123 n124 c125, .slice A130 n131 c132] rfl ((spec_l5Long.calls w116 hc119.ok ((a.drop (i2 + 1).toNat).take ((a.length : Int).toNat - (i2 + 1).toNat)) A123 n124 c125 h126 ((b.drop k2.toNat).take ((b.length : Int).toNat - k2.toNat)) A130 n131 c132 h133 _ H).mono ?_)
          rintro _ w150 ⟨r2, rfl, H, g151⟩
          have hc155 := hc119.k0 g151
          have hM156 := Gr.tm hM118 g151
          refine L_nil ⟨hM156, ?_⟩
          refine M_any1 15 (by kernel_rfl) rfl ?_
          refine L_call go46 [.slice A137 n138 c139, .slice A145 n146 c147] rfl ((spec_l5Long.calls w150 hc155.ok ((a.drop i2.toNat).take ((a.length : Int).toNat - i2.toNat)) A137 n138 c139 (h140.st (.new _ g151)) ((b.drop (k2 + 1).toNat).take ((b.length : Int).toNat - (k2 + 1).toNat)) A145 n146 c147 (h148.st (.new _ g151)) _ H).mono ?_)
          rintro _ w157 ⟨r3, rfl, H, g158⟩
          have hc162 := hc155.k0 g158
          have hM163 := Gr.tm hM156 g158
          refine L_nil ⟨hM163, ?_⟩
          refine M_pu 16 rfl (by kernel_rfl) hM163 (P_cmp r2 r3 (decide (r2 ≥ r3)) rfl rfl rfl) ?_
          refine M_pu 17 rfl (by kernel_rfl) hM163 (P_assign (vb (decide (r2 ≥ r3))) rfl) ?_
          refine M_nil (by kernel_rfl) ?_
          refine W_cond (decide (r2 ≥ r3)) rfl (fun hq164 => ?_) (fun hq164 => ?_)
          · have H := ite_t H hq164
            refine W_reg ?_
            refine L_pu (P_move (vi i2) rfl) ?_
            obtain ⟨hb166, H⟩ := H
            have hi165 : I64 (i2 + 1) := i64_succ (of_decide_eq_true hq57) hl56 hb166
            refine L_pu (P_add i2 1 rfl rfl hi165) ?_
            refine L_pu (P_assign (vi (i2 + 1)) rfl) ?_
            refine L_nil ?_
            obtain ⟨hI167, hm168⟩ := H
            have h169 := ((h127.st (.new _ g151)).st (.new _ g158))
            have h170 := ((h134.st (.new _ g151)).st (.new _ g158))
            have h171 := (((((h49.sn g61).sn g82).sn g117).sn g151).sn g158)
            exact ⟨(xs2, A42, n43, c44, i2 + 1, k2), hm168, hI167, ⟨rfl, rfl, rfl, rfl, rfl, trivial⟩, hc162, h169, h170, h171⟩
          · have H := ite_f H hq164
            refine W_reg ?_
            refine L_pu (P_move (vi k2) rfl) ?_
            obtain ⟨hb173, H⟩ := H
            have hi172 : I64 (k2 + 1) := i64_succ (of_decide_eq_true hq59) hl58 hb173
            refine L_pu (P_add k2 1 rfl rfl hi172) ?_
            refine L_pu (P_assign (vi (k2 + 1)) rfl) ?_
            refine L_nil ?_
            obtain ⟨hI174, hm175⟩ := H
            have h176 := ((h127.st (.new _ g151)).st (.new _ g158))
            have h177 := ((h134.st (.new _ g151)).st (.new _ g158))
            have h178 := (((((h49.sn g61).sn g82).sn g117).sn g151).sn g158)
            exact ⟨(xs2, A42, n43, c44, i2, k2 + 1), hm175, hI174, ⟨rfl, rfl, rfl, rfl, rfl, trivial⟩, hc162, h176, h177, h178⟩
      · have H := ite_f H hq66
        refine W_exit (xin_hit ?_)
        refine W_seq ?_
        refine W_reg ?_
        refine L_pu (P_move (.slice A42 n43 c44) rfl) ?_
        refine L_pu (P_assign (.slice A42 n43 c44) rfl) ?_
        refine L_nil ?_
        refine W_ret ?_
        have h179 := (h49.sn g61)
        exact ⟨[.slice A42 n43 c44], ⟨_, rfl, rfl⟩, xs2, A42, n43, c44, rfl, H, hc65.gr, hc65.ok, hc65.ge, h179⟩
    · have H := ite_f H hq59
      refine L_pass (dj := 19) rfl rfl (.inl (by exact congrArg Value.bool hq59)) ?_
      refine L_pass (dj := 19) rfl rfl (.inl (by exact congrArg Value.bool hq59)) ?_
      refine L_pass (dj := 19) rfl rfl (.inl (by exact congrArg Value.bool hq59)) ?_
      refine L_pu (P_pick false (vb false) (by exact congrArg Value.bool hq59) rfl) ?_
      refine L_nil ?_
      refine W_cf (b := false) rfl rfl ?_
      refine W_exit (xin_hit ?_)
      refine W_seq ?_
      refine W_reg ?_
      refine L_pu (P_move (.slice A42 n43 c44) rfl) ?_
      refine L_pu (P_assign (.slice A42 n43 c44) rfl) ?_
      refine L_nil ?_
      refine W_ret ?_
      exact ⟨[.slice A42 n43 c44], ⟨_, rfl, rfl⟩, xs2, A42, n43, c44, rfl, H, hc46.gr, hc46.ok, hc46.ge, h49⟩
  · have H := ite_f H hq57
    refine L_pass (dj := 13) rfl rfl (.inl (by exact congrArg Value.bool hq57)) ?_
    refine L_pass (dj := 13) rfl rfl (.inl (by exact congrArg Value.bool hq57)) ?_
    refine L_pass (dj := 13) rfl rfl (.inl (by exact congrArg Value.bool hq57)) ?_
    refine L_pass (dj := 13) rfl rfl (.inl (by exact congrArg Value.bool hq57)) ?_
    refine L_pu (P_pick false (vb false) (by exact congrArg Value.bool hq57) rfl) ?_
    refine L_pu (P_move (vb false) rfl) ?_
    refine L_pass (dj := 19) rfl rfl (.inl rfl) ?_
    refine L_pass (dj := 19) rfl rfl (.inl rfl) ?_
    refine L_pass (dj := 19) rfl rfl (.inl rfl) ?_
    refine L_pu (P_pick false (vb false) (by exact congrArg Value.bool rfl) rfl) ?_
    refine L_nil ?_
    refine W_cf (b := false) rfl rfl ?_
    refine W_exit (xin_hit ?_)
    refine W_seq ?_
    refine W_reg ?_
    refine L_pu (P_move (.slice A42 n43 c44) rfl) ?_
    refine L_pu (P_assign (.slice A42 n43 c44) rfl) ?_
    refine L_nil ?_
    refine W_ret ?_
    exact ⟨[.slice A42 n43 c44], ⟨_, rfl, rfl⟩, xs2, A42, n43, c44, rfl, H, hc46.gr, hc46.ok, hc46.ge, h49⟩
end Go.Proofs.Ytnliofcjplnboaa

namespace Go.Proofs.Ytnliofcjplnboaa
set_option linter.unusedVariables false
set_option linter.unusedSimpArgs false
theorem cut_end (a : List Pt) (k : Nat) : (a.drop k).take (a.length - k) = a.drop k := List.take_of_length_le (by rw [List.length_drop]; omega)
theorem spec_SeqPairs.law (a b : List Pt) (Q : List Pair → Prop) (hq : Q (spairs a b)) : spec_SeqPairs.E a b Q := by
  unfold spec_SeqPairs.E
  unfold spairs at hq
  refine ⟨fun xs i j => ∃ u v : Nat, i = u ∧ j = v ∧ u ≤ a.length ∧ v ≤ b.length ∧ (few a b = true → xs ++ (pairs u v (a.drop u) (b.drop v)).map mkP = (pairs 0 0 a b).map mkP) ∧ (few a b = false → xs = []), fun _ i j => ((a.length - i) + (b.length - j)).toNat, ⟨0, 0, rfl, rfl, Nat.zero_le _, Nat.zero_le _, fun _ => rfl, fun _ => rfl⟩, ?_⟩
  rintro xs _ _ ⟨u, v, rfl, rfl, hu, hv, hx, hy⟩
  have hend : (a.length ≤ u ∨ b.length ≤ v) → Q xs := fun h => by
    by_cases hf : few a b = true
    · rw [if_pos hf] at hq
      have hx := hx hf
      rcases h with h | h
      · rw [List.drop_of_length_le h, pairs_nil, List.map_nil, List.append_nil] at hx
        rw [hx]; exact hq
      · rw [List.drop_of_length_le h, pairs_nil2, List.map_nil, List.append_nil] at hx
        rw [hx]; exact hq
    · rw [if_neg hf] at hq
      rw [hy (by simpa using hf)]; exact hq
  by_cases hu0 : (u : Int) < (a.length : Int)
  · rw [if_pos (by simpa using hu0)]
    by_cases hv0 : (v : Int) < (b.length : Int)
    · rw [if_pos (by simpa using hv0)]
      refine spec_l5Few.law _ _ _ ?_
      by_cases hf : few a b = true
      · rw [if_pos hf]
        have hx := hx hf
        have hff := few_iff.1 hf
        have hu1 : u < a.length := by omega
        have hv1 : v < b.length := by omega
        rw [pairs_drop a b hu1 hv1] at hx
        have eu : (u : Int) + 1 = ((u + 1 : Nat) : Int) := by omega
        have ev : (v : Int) + 1 = ((v + 1 : Nat) : Int) := by omega
        rw [eqPt_is, eu, ev]
        refine ⟨by omega, by omega, ?_⟩
        by_cases he : nth a (u : Int) = nth b (v : Int)
        · rw [if_pos (by simpa using he)]
          rw [if_pos he, List.map_cons] at hx
          have hl := congrArg List.length hx
          rw [List.length_map, pairs_len, List.length_append] at hl
          have := lcs_le1 a b
          exact ⟨by simp only [List.length_singleton]; omega, by omega, by omega, ⟨u + 1, v + 1, rfl, rfl, by omega, by omega, fun _ => by rw [List.append_assoc]; exact hx, fun e => absurd hf (by rw [e]; exact Bool.false_ne_true)⟩, by dsimp only; omega⟩
        · rw [if_neg (by simpa using he)]
          rw [if_neg he] at hx
          refine ⟨by omega, by omega, by omega, by omega, by omega, by omega, ?_⟩
          simp only [Int.toNat_natCast, cut_end]
          refine spec_l5Long.law _ _ _ (by rw [List.length_drop]; omega) (by rw [List.length_drop]; omega) (spec_l5Long.law _ _ _ (by rw [List.length_drop]; omega) (by rw [List.length_drop]; omega) ?_)
          by_cases hc : lcs (a.drop u) (b.drop (v + 1)) ≤ lcs (a.drop (u + 1)) (b.drop v)
          · rw [if_pos (by simpa using hc)]
            rw [if_pos hc] at hx
            exact ⟨by omega, ⟨u + 1, v, rfl, rfl, by omega, by omega, fun _ => hx, fun e => absurd hf (by rw [e]; exact Bool.false_ne_true)⟩, by omega⟩
          · rw [if_neg (by simpa using hc)]
            rw [if_neg hc] at hx
            exact ⟨by omega, ⟨u, v + 1, rfl, rfl, by omega, by omega, fun _ => hx, fun e => absurd hf (by rw [e]; exact Bool.false_ne_true)⟩, by omega⟩
      · rw [if_neg hf]
        rw [if_neg hf] at hq
        rw [hy (by simpa using hf)]; exact hq
    · rw [if_neg (by simpa using hv0)]; exact hend (.inr (by omega))
  · rw [if_neg (by simpa using hu0)]; exact hend (.inl (by omega))
end Go.Proofs.Ytnliofcjplnboaa

namespace Go.Proofs.Ytnliofcjplnboaa
open Go.RowKit
set_option linter.unusedVariables false
def spec_l5At.E (p : List Pair) (a : Int) (Q : Int → Prop) : Prop :=
  (∃ (I18 : Int → Prop) (mu19 : Int → Nat), I18 0 ∧ ∀ (i2 : Int), I18 i2 → (if decide (i2 < (p.length : Int)) then ((0 : Int) ≤ i2 ∧ i2 < (p.length : Int)) ∧ (if ((nth p i2).A) == a then ((0 : Int) ≤ i2 ∧ i2 < (p.length : Int)) ∧ Q ((nth p i2).B) else (-9223372036854775808 ≤ i2) ∧ I18 (i2 + 1) ∧ mu19 (i2 + 1) < mu19 i2) else Q (-1)))
set_option maxHeartbeats 8000000 in
set_option maxRecDepth 100000 in
theorem spec_l5At.calls {O : Ob} (w0 : World) (hO : Ok w0 O) (p : List Pair) (A1 : Option Addr) (n2 c3 : Nat) (hp4 : Sl kPair w0 (Fr O) (.slice A1 n2 c3) p) (a : Int) (Q : Int → Prop) (h : spec_l5At.E p a Q) :
    Ret Try.prog 60 [.slice A1 n2 c3, vi a] w0 (fun v w' => ∃ (r0 : Int), v = vi r0 ∧ Q r0 ∧ Gr w0 w' none) := by
  have H : (∃ (I18 : Int → Prop) (mu19 : Int → Nat), I18 0 ∧ ∀ (i2 : Int), I18 i2 → (if decide (i2 < (p.length : Int)) then ((0 : Int) ≤ i2 ∧ i2 < (p.length : Int)) ∧ (if ((nth p i2).A) == a then ((0 : Int) ≤ i2 ∧ i2 < (p.length : Int)) ∧ Q ((nth p i2).B) else (-9223372036854775808 ≤ i2) ∧ I18 (i2 + 1) ∧ mu19 (i2 + 1) < mu19 i2) else Q (-1))) := h
  clear h
  have hc0 := Ct.init hO
  refine Ret_enter Try.func60 rfl 24 rfl [.tmp 4] rfl rfl ?_
  refine W_seq ?_
  refine W_reg ?_
  refine L_pu (P_assign (vi 0) rfl) ?_
  refine L_nil ?_
  refine W_seq ?_
  refine W_seq ?_
  refine W_reg ?_
  refine L_pu (P_assign (vi 0) rfl) ?_
  refine L_nil ?_
  refine W_block ?_
  obtain ⟨I18, mu19, hI20, H⟩ := H
  refine W_loop (α := Int) (fun (s : Int) t w14 => match s with | i2 => I18 i2 ∧ Has t [(0, .slice A1 n2 c3), (1, vi a), (5, vi i2)] ∧ Ct none w0 w14 [] O ∧ Sl kPair w14 (Fr ([] ++ O)) (.slice A1 n2 c3) p) (fun (s : Int) => match s with | i2 => mu19 i2) 0 ⟨hI20, ⟨rfl, rfl, rfl, trivial⟩, hc0, hp4⟩ ?_
  rintro i2 _ w14 ⟨hI20, hh22, hc16, h17⟩
  obtain ⟨u23, rfl⟩ := Has.ins hh22
  have H := H i2 hI20
  refine W_seq ?_
  refine W_seq ?_
  refine W_reg ?_
  refine L_pu (P_move (vi i2) rfl) ?_
  refine L_pu (P_move (.slice A1 n2 c3) rfl) ?_
  have hl24 := h17.le
  refine L_pu (P_len Try.underlying43 A1 n2 c3 h17.len rfl) ?_
  refine L_pu (P_cmp i2 (p.length : Int) (decide (i2 < (p.length : Int))) rfl rfl rfl) ?_
  refine L_nil ?_
  refine W_cond (decide (i2 < (p.length : Int))) rfl (fun hq25 => ?_) (fun hq25 => ?_)
  · have H := ite_t H hq25
    refine W_skip ?_
    refine W_seq ?_
    refine W_block ?_
    refine W_seq ?_
    refine W_reg ?_
    refine L_pu (P_move (.slice A1 n2 c3) rfl) ?_
    refine L_pu (P_move (vi i2) rfl) ?_
    obtain ⟨hb26, H⟩ := H
    obtain ⟨ad27, cs28, hA29, hS32, hR30, hcl31⟩ := h17.get default (by decide) i2 hb26
    obtain rfl := kPair.op hR30
    refine L_pu (P_ia Try.underlying43 se43 A1 ad27 n2 c3 h17.len i2 rfl hA29 rfl hb26) ?_
    refine L_pu (P_fa fa46_0 (ad27.add (i2.toNat * 2)) ((ad27.add (i2.toNat * 2)).add 0) rfl rfl) ?_
    refine L_pu (P_ld ag3 cL ((ad27.add (i2.toNat * 2)).add 0) (vi ((nth p i2).A)) rfl (hcl31 0 _ rfl)) ?_
    refine L_pu (P_move (vi a) rfl) ?_
    refine L_pu (P_cmp ((nth p i2).A) a (((nth p i2).A) == a) rfl rfl rfl) ?_
    refine L_nil ?_
    refine W_cond (((nth p i2).A) == a) rfl (fun hq33 => ?_) (fun hq33 => ?_)
    · have H := ite_t H hq33
      refine W_seq ?_
      refine W_reg ?_
      refine L_pu (P_move (.slice A1 n2 c3) rfl) ?_
      refine L_pu (P_move (vi i2) rfl) ?_
      obtain ⟨hb34, H⟩ := H
      obtain ⟨ad35, cs36, hA37, hS40, hR38, hcl39⟩ := h17.get default (by decide) i2 hb34
      obtain rfl := kPair.op hR38
      refine L_pu (P_ia Try.underlying43 se43 A1 ad35 n2 c3 h17.len i2 rfl hA37 rfl hb34) ?_
      refine L_pu (P_fa fa46_1 (ad35.add (i2.toNat * 2)) ((ad35.add (i2.toNat * 2)).add 1) rfl rfl) ?_
      refine L_pu (P_ld ag3 cL ((ad35.add (i2.toNat * 2)).add 1) (vi ((nth p i2).B)) rfl (hcl39 1 _ rfl)) ?_
      refine L_pu (P_assign (vi ((nth p i2).B)) rfl) ?_
      refine L_nil ?_
      refine W_ret ?_
      exact ⟨[vi ((nth p i2).B)], ⟨_, rfl, rfl⟩, (nth p i2).B, rfl, H, hc16.gr⟩
    · have H := ite_f H hq33
      refine W_skip ?_
      refine W_reg ?_
      refine L_pu (P_move (vi i2) rfl) ?_
      obtain ⟨hb42, H⟩ := H
      have hi41 : I64 (i2 + 1) := i64_succ (of_decide_eq_true hq25) hl24 hb42
      refine L_pu (P_add i2 1 rfl rfl hi41) ?_
      refine L_pu (P_assign (vi (i2 + 1)) rfl) ?_
      refine L_nil ?_
      obtain ⟨hI43, hm44⟩ := H
      exact ⟨i2 + 1, hm44, hI43, ⟨rfl, rfl, rfl, trivial⟩, hc16, h17⟩
  · have H := ite_f H hq25
    refine W_exit (xin_hit ?_)
    refine W_seq ?_
    refine W_reg ?_
    refine L_pu (P_assign (vi (-1)) rfl) ?_
    refine L_nil ?_
    refine W_ret ?_
    exact ⟨[vi (-1)], ⟨_, rfl, rfl⟩, (-1), rfl, H, hc16.gr⟩
end Go.Proofs.Ytnliofcjplnboaa

namespace Go.Proofs.Ytnliofcjplnboaa
set_option linter.unusedVariables false
set_option linter.unusedSimpArgs false
theorem spec_l5At.law (l : List Pair) (k : Int) (Q : Int → Prop) (hq : Q (mateI l k)) : spec_l5At.E l k Q := by
  unfold spec_l5At.E
  refine ⟨fun i => ∃ u : Nat, i = u ∧ u ≤ l.length ∧ mateI (l.drop u) k = mateI l k, fun i => (l.length - i).toNat, ⟨0, rfl, Nat.zero_le _, rfl⟩, ?_⟩
  rintro _ ⟨u, rfl, hu, he⟩
  by_cases h : (u : Int) < (l.length : Int)
  · rw [if_pos (by simpa using h)]
    rw [drop_nth l (by omega), mateI_cons] at he
    refine ⟨by omega, ?_⟩
    by_cases hc : ((nth l (u : Int)).A == k) = true
    · rw [if_pos hc] at he ⊢
      refine ⟨by omega, ?_⟩
      rw [he]; exact hq
    · rw [if_neg hc] at he ⊢
      exact ⟨by omega, ⟨u + 1, by omega, by omega, he⟩, by dsimp only; omega⟩
  · rw [if_neg (by simpa using h)]
    rw [List.drop_of_length_le (by omega : l.length ≤ u), mateI_nil] at he
    rw [he]; exact hq
end Go.Proofs.Ytnliofcjplnboaa

namespace Go.Proofs.Ytnliofcjplnboaa
open Go.RowKit
set_option linter.unusedVariables false
def spec_l1Same.E (a : List Pt) (b : List Pt) (Q : Bool → Prop) : Prop :=
  (if (a.length : Int) != (b.length : Int) then Q false else (∃ (I32 : Int → Prop) (mu33 : Int → Nat), I32 0 ∧ ∀ (i2 : Int), I32 i2 → (if decide (i2 < (a.length : Int)) then ((0 : Int) ≤ i2 ∧ i2 < (a.length : Int)) ∧ ((0 : Int) ≤ i2 ∧ i2 < (b.length : Int)) ∧ (if !(eqPt (nth a i2) (nth b i2)) then Q false else (-9223372036854775808 ≤ i2) ∧ I32 (i2 + 1) ∧ mu33 (i2 + 1) < mu33 i2) else Q true)))
set_option maxHeartbeats 8000000 in
set_option maxRecDepth 100000 in
theorem spec_l1Same.calls {O : Ob} (w0 : World) (hO : Ok w0 O) (a : List Pt) (A1 : Option Addr) (n2 c3 : Nat) (hp4 : Sl kPt w0 (Fr O) (.slice A1 n2 c3) a) (b : List Pt) (A6 : Option Addr) (n7 c8 : Nat) (hp9 : Sl kPt w0 (Fr O) (.slice A6 n7 c8) b) (Q : Bool → Prop) (h : spec_l1Same.E a b Q) :
    Ret Try.prog 63 [.slice A1 n2 c3, .slice A6 n7 c8] w0 (fun v w' => ∃ (r0 : Bool), v = vb r0 ∧ Q r0 ∧ Gr w0 w' none) := by
  have H : (if (a.length : Int) != (b.length : Int) then Q false else (∃ (I32 : Int → Prop) (mu33 : Int → Nat), I32 0 ∧ ∀ (i2 : Int), I32 i2 → (if decide (i2 < (a.length : Int)) then ((0 : Int) ≤ i2 ∧ i2 < (a.length : Int)) ∧ ((0 : Int) ≤ i2 ∧ i2 < (b.length : Int)) ∧ (if !(eqPt (nth a i2) (nth b i2)) then Q false else (-9223372036854775808 ≤ i2) ∧ I32 (i2 + 1) ∧ mu33 (i2 + 1) < mu33 i2) else Q true))) := h
  clear h
  have hc0 := Ct.init hO
  refine Ret_enter Try.func63 rfl 26 rfl [.tmp 4] rfl rfl ?_
  refine W_seq ?_
  refine W_reg ?_
  refine L_pu (P_assign (vb false) rfl) ?_
  refine L_nil ?_
  refine W_seq ?_
  refine W_seq ?_
  refine W_reg ?_
  refine L_pu (P_move (.slice A1 n2 c3) rfl) ?_
  have hl11 := hp4.le
  refine L_pu (P_len Try.underlying33 A1 n2 c3 hp4.len rfl) ?_
  refine L_pu (P_move (.slice A6 n7 c8) rfl) ?_
  have hl12 := hp9.le
  refine L_pu (P_len Try.underlying33 A6 n7 c8 hp9.len rfl) ?_
  refine L_pu (P_cmp (a.length : Int) (b.length : Int) ((a.length : Int) != (b.length : Int)) rfl rfl rfl) ?_
  refine L_nil ?_
  refine W_cond ((a.length : Int) != (b.length : Int)) rfl (fun hq13 => ?_) (fun hq13 => ?_)
  · have H := ite_t H hq13
    refine W_seq ?_
    refine W_reg ?_
    refine L_pu (P_assign (vb false) rfl) ?_
    refine L_nil ?_
    refine W_ret ?_
    exact ⟨[vb false], ⟨_, rfl, rfl⟩, false, rfl, H, hc0.gr⟩
  · have H := ite_f H hq13
    refine W_skip ?_
    refine W_seq ?_
    refine W_seq ?_
    refine W_reg ?_
    refine L_pu (P_assign (vi 0) rfl) ?_
    refine L_nil ?_
    refine W_block ?_
    obtain ⟨I32, mu33, hI34, H⟩ := H
    refine W_loop (α := Int) (fun (s : Int) t w26 => match s with | i2 => I32 i2 ∧ Has t [(0, .slice A1 n2 c3), (1, .slice A6 n7 c8), (5, vi i2)] ∧ Ct none w0 w26 [] O ∧ Sl kPt w26 (Fr ([] ++ O)) (.slice A1 n2 c3) a ∧ Sl kPt w26 (Fr ([] ++ O)) (.slice A6 n7 c8) b) (fun (s : Int) => match s with | i2 => mu33 i2) 0 ⟨hI34, ⟨rfl, rfl, rfl, trivial⟩, hc0, hp4, hp9⟩ ?_
    rintro i2 _ w26 ⟨hI34, hh36, hc29, h30, h31⟩
    obtain ⟨u37, rfl⟩ := Has.ins hh36
    have H := H i2 hI34
    refine W_seq ?_
    refine W_seq ?_
    refine W_reg ?_
    refine L_pu (P_move (vi i2) rfl) ?_
    refine L_pu (P_move (.slice A1 n2 c3) rfl) ?_
    have hl38 := h30.le
    refine L_pu (P_len Try.underlying33 A1 n2 c3 h30.len rfl) ?_
    refine L_pu (P_cmp i2 (a.length : Int) (decide (i2 < (a.length : Int))) rfl rfl rfl) ?_
    refine L_nil ?_
    refine W_cond (decide (i2 < (a.length : Int))) rfl (fun hq39 => ?_) (fun hq39 => ?_)
    · have H := ite_t H hq39
      refine W_skip ?_
      refine W_seq ?_
      refine W_block ?_
      refine W_seq ?_
      refine W_draw (fun x => Gr w26 x none) (by kernel_rfl) (by kernel_rfl) (Gr.drew _) ?_
      refine Q_pu (P_move (.slice A1 n2 c3) rfl) ?_
      refine Q_pu (P_move (vi i2) rfl) ?_
      obtain ⟨hb40, H⟩ := H
      obtain ⟨ad41, cs42, hA43, hS46, hR44, hcl45⟩ := h30.get default (by decide) i2 hb40
      obtain rfl := kPt.op hR44
      refine Q_pu (P_ia Try.underlying33 se33 A1 ad41 n2 c3 h30.len i2 rfl hA43 rfl hb40) ?_
      refine Q_pu (P_lda ag41 sz41 cQ (ad41.add (i2.toNat * 2)) [vi ((nth a i2).X), vi ((nth a i2).Y)] rfl rfl hcl45) ?_
      refine Q_pu (P_move (.slice A6 n7 c8) rfl) ?_
      refine Q_pu (P_move (vi i2) rfl) ?_
      obtain ⟨hb47, H⟩ := H
      obtain ⟨ad48, cs49, hA50, hS53, hR51, hcl52⟩ := h31.get default (by decide) i2 hb47
      obtain rfl := kPt.op hR51
      refine Q_pu (P_ia Try.underlying33 se33 A6 ad48 n7 c8 h31.len i2 rfl hA50 rfl hb47) ?_
      refine Q_pu (P_lda ag41 sz41 cQ (ad48.add (i2.toNat * 2)) [vi ((nth b i2).X), vi ((nth b i2).Y)] rfl rfl hcl52) ?_
      refine Q_pu (P_ne _ _ (eqPt (nth a i2) (nth b i2)) (qt41 (nth a i2) (nth b i2)) rfl rfl) ?_
      refine Q_nil fun w54 g55 => ?_
      have hc57 := hc29.k0 g55
      refine W_cond (!(eqPt (nth a i2) (nth b i2))) rfl (fun hq58 => ?_) (fun hq58 => ?_)
      · have H := ite_t H hq58
        refine W_seq ?_
        refine W_reg ?_
        refine L_pu (P_assign (vb false) rfl) ?_
        refine L_nil ?_
        refine W_ret ?_
        exact ⟨[vb false], ⟨_, rfl, rfl⟩, false, rfl, H, hc57.gr⟩
      · have H := ite_f H hq58
        refine W_skip ?_
        refine W_reg ?_
        refine L_pu (P_move (vi i2) rfl) ?_
        obtain ⟨hb60, H⟩ := H
        have hi59 : I64 (i2 + 1) := i64_succ (of_decide_eq_true hq39) hl38 hb60
        refine L_pu (P_add i2 1 rfl rfl hi59) ?_
        refine L_pu (P_assign (vi (i2 + 1)) rfl) ?_
        refine L_nil ?_
        obtain ⟨hI61, hm62⟩ := H
        exact ⟨i2 + 1, hm62, hI61, ⟨rfl, rfl, rfl, trivial⟩, hc57, (h30.st (.new _ g55)), (h31.st (.new _ g55))⟩
    · have H := ite_f H hq39
      refine W_exit (xin_hit ?_)
      refine W_seq ?_
      refine W_reg ?_
      refine L_pu (P_assign (vb true) rfl) ?_
      refine L_nil ?_
      refine W_ret ?_
      exact ⟨[vb true], ⟨_, rfl, rfl⟩, true, rfl, H, hc29.gr⟩
end Go.Proofs.Ytnliofcjplnboaa

namespace Go.Proofs.Ytnliofcjplnboaa
set_option linter.unusedVariables false
set_option linter.unusedSimpArgs false
theorem spec_l1Same.law (a b : List Pt) (Q : Bool → Prop) (hq : Q (decide (a = b))) : spec_l1Same.E a b Q := by
  unfold spec_l1Same.E
  exact eqS_shape eqPt eqPt_is a b Q hq
end Go.Proofs.Ytnliofcjplnboaa

namespace Go.Proofs.Ytnliofcjplnboaa
open Go.RowKit
set_option linter.unusedVariables false
def spec_l5Pick.E (o : List Pt) (a : List Pt) (b : List Pt) (Q : List Pt → Bool → Prop) : Prop :=
  spec_l1Same.E a o (fun r => (if r then Q b true else spec_l1Same.E b o (fun r2 => (if r2 then Q a true else spec_l1Same.E a b (fun r3 => (if r3 then Q a true else Q [] false))))))
set_option maxHeartbeats 8000000 in
set_option maxRecDepth 100000 in
theorem spec_l5Pick.calls {O : Ob} (w0 : World) (hO : Ok w0 O) (o : List Pt) (A1 : Option Addr) (n2 c3 : Nat) (hp4 : Sl kPt w0 (Fr O) (.slice A1 n2 c3) o) (a : List Pt) (A6 : Option Addr) (n7 c8 : Nat) (hp9 : Sl kPt w0 (Fr O) (.slice A6 n7 c8) a) (b : List Pt) (A11 : Option Addr) (n12 c13 : Nat) (hp14 : Sl kPt w0 (Fr O) (.slice A11 n12 c13) b) (Q : List Pt → Bool → Prop) (h : spec_l5Pick.E o a b Q) :
    Ret Try.prog 61 [.slice A1 n2 c3, .slice A6 n7 c8, .slice A11 n12 c13] w0 (fun v w' => ∃ (r0 : List Pt) (r1 : Bool) (A0 : Option Addr) (n0 c0 : Nat), v = .tuple #[.slice A0 n0 c0, vb r1] ∧ Q r0 r1 ∧ Gr w0 w' none ∧ Sl kPt w' (Fr O) (.slice A0 n0 c0) r0) := by
  have H : spec_l1Same.E a o (fun r => (if r then Q b true else spec_l1Same.E b o (fun r2 => (if r2 then Q a true else spec_l1Same.E a b (fun r3 => (if r3 then Q a true else Q [] false)))))) := h
  clear h
  have hc0 := Ct.init hO
  refine Ret_enter Try.func61 rfl 23 rfl [.tmp 6, .tmp 7] rfl rfl ?_
  refine W_seq ?_
  refine W_reg ?_
  refine L_pu (P_assign (.slice none 0 0) rfl) ?_
  refine L_pu (P_assign (vb false) rfl) ?_
  refine L_nil ?_
  refine W_seq ?_
  refine W_block ?_
  refine W_seq ?_
  refine W_reg ?_
  refine L_pu (P_move (.slice A6 n7 c8) rfl) ?_
  refine L_pu (P_move (.slice A1 n2 c3) rfl) ?_
  refine L_call go63 [.slice A6 n7 c8, .slice A1 n2 c3] rfl ((spec_l1Same.calls w0 hc0.ok a A6 n7 c8 hp9 o A1 n2 c3 hp4 _ H).mono ?_)
  rintro _ w16 ⟨r, rfl, H, g17⟩
  have hc21 := hc0.k0 g17
  refine L_pu (P_assign (vb r) rfl) ?_
  refine L_nil ?_
  refine W_cond r rfl (fun hq22 => ?_) (fun hq22 => ?_)
  · have H := ite_t H hq22
    refine W_seq ?_
    refine W_reg ?_
    refine L_pu (P_move (.slice A11 n12 c13) rfl) ?_
    refine L_pu (P_assign (.slice A11 n12 c13) rfl) ?_
    refine L_pu (P_assign (vb true) rfl) ?_
    refine L_nil ?_
    refine W_ret ?_
    exact ⟨[.slice A11 n12 c13, vb true], ⟨_, rfl, ⟨_, rfl, rfl⟩⟩, b, true, A11, n12, c13, rfl, H, hc21.gr, (hp14.st hc21.st)⟩
  · have H := ite_f H hq22
    refine W_seq ?_
    refine W_reg ?_
    refine L_pu (P_move (.slice A11 n12 c13) rfl) ?_
    refine L_pu (P_move (.slice A1 n2 c3) rfl) ?_
    refine L_call go63 [.slice A11 n12 c13, .slice A1 n2 c3] rfl ((spec_l1Same.calls w16 hc21.ok b A11 n12 c13 (hp14.st hc21.st) o A1 n2 c3 (hp4.st hc21.st) _ H).mono ?_)
    rintro _ w23 ⟨r2, rfl, H, g24⟩
    have hc28 := hc21.k0 g24
    refine L_pu (P_assign (vb r2) rfl) ?_
    refine L_nil ?_
    refine W_cond r2 rfl (fun hq29 => ?_) (fun hq29 => ?_)
    · have H := ite_t H hq29
      refine W_seq ?_
      refine W_reg ?_
      refine L_pu (P_move (.slice A6 n7 c8) rfl) ?_
      refine L_pu (P_assign (.slice A6 n7 c8) rfl) ?_
      refine L_pu (P_assign (vb true) rfl) ?_
      refine L_nil ?_
      refine W_ret ?_
      exact ⟨[.slice A6 n7 c8, vb true], ⟨_, rfl, ⟨_, rfl, rfl⟩⟩, a, true, A6, n7, c8, rfl, H, hc28.gr, (hp9.st hc28.st)⟩
    · have H := ite_f H hq29
      refine W_seq ?_
      refine W_reg ?_
      refine L_pu (P_move (.slice A6 n7 c8) rfl) ?_
      refine L_pu (P_move (.slice A11 n12 c13) rfl) ?_
      refine L_call go63 [.slice A6 n7 c8, .slice A11 n12 c13] rfl ((spec_l1Same.calls w23 hc28.ok a A6 n7 c8 (hp9.st hc28.st) b A11 n12 c13 (hp14.st hc28.st) _ H).mono ?_)
      rintro _ w30 ⟨r3, rfl, H, g31⟩
      have hc35 := hc28.k0 g31
      refine L_pu (P_assign (vb r3) rfl) ?_
      refine L_nil ?_
      refine W_cond r3 rfl (fun hq36 => ?_) (fun hq36 => ?_)
      · have H := ite_t H hq36
        refine W_seq ?_
        refine W_reg ?_
        refine L_pu (P_move (.slice A6 n7 c8) rfl) ?_
        refine L_pu (P_assign (.slice A6 n7 c8) rfl) ?_
        refine L_pu (P_assign (vb true) rfl) ?_
        refine L_nil ?_
        refine W_ret ?_
        exact ⟨[.slice A6 n7 c8, vb true], ⟨_, rfl, ⟨_, rfl, rfl⟩⟩, a, true, A6, n7, c8, rfl, H, hc35.gr, (hp9.st hc35.st)⟩
      · have H := ite_f H hq36
        refine W_skip ?_
        refine W_seq ?_
        refine W_reg ?_
        refine L_pu (P_assign (.slice none 0 0) rfl) ?_
        refine L_pu (P_assign (vb false) rfl) ?_
        refine L_nil ?_
        refine W_ret ?_
        exact ⟨[.slice none 0 0, vb false], ⟨_, rfl, ⟨_, rfl, rfl⟩⟩, [], false, none, 0, 0, rfl, H, hc35.gr, (Sl.nil _ _ _ none 0 (by decide))⟩
end Go.Proofs.Ytnliofcjplnboaa

namespace Go.Proofs.Ytnliofcjplnboaa
set_option linter.unusedVariables false
set_option linter.unusedSimpArgs false
theorem spec_l5Pick.law (o a b : List Pt) (Q : List Pt → Bool → Prop) (hs : ∀ r, pickL o a b = some r → Q r true) (hn : pickL o a b = none → Q [] false) : spec_l5Pick.E o a b Q := by
  unfold spec_l5Pick.E
  unfold pickL at hs hn
  refine spec_l1Same.law _ _ _ ?_
  by_cases h1 : a = o
  · rw [if_pos (by simpa using h1)]
    rw [if_pos h1] at hs; exact hs _ rfl
  rw [if_neg (by simpa using h1)]
  rw [if_neg h1] at hs hn
  refine spec_l1Same.law _ _ _ ?_
  by_cases h2 : b = o
  · rw [if_pos (by simpa using h2)]
    rw [if_pos h2] at hs; exact hs _ rfl
  rw [if_neg (by simpa using h2)]
  rw [if_neg h2] at hs hn
  refine spec_l1Same.law _ _ _ ?_
  by_cases h3 : a = b
  · rw [if_pos (by simpa using h3)]
    rw [if_pos h3] at hs; exact hs _ rfl
  · rw [if_neg (by simpa using h3)]
    rw [if_neg h3] at hn; exact hn rfl
end Go.Proofs.Ytnliofcjplnboaa

namespace Go.Proofs.Ytnliofcjplnboaa
open Go.RowKit
set_option linter.unusedVariables false
def spec_l5Merge.E (base_ : List Pt) (a : List Pt) (b : List Pt) (Q : List Pt → Bool → Prop) : Prop :=
  spec_SeqPairs.E base_ a (fun r => spec_SeqPairs.E base_ b (fun r2 => (∃ (I95 : (List Pt) → Int → Int → Int → Int → Prop) (mu96 : (List Pt) → Int → Int → Int → Int → Nat), I95 ([] : List Pt) 0 0 0 0 ∧ ∀ (xs2 : List Pt) (o2 : Int) (x2 : Int) (y2 : Int) (i2 : Int), I95 xs2 o2 x2 y2 i2 → (if decide (i2 ≤ (base_.length : Int)) then (if decide (i2 < (base_.length : Int)) then spec_l5At.E r i2 (fun r3 => spec_l5At.E r2 i2 (fun r4 => (if decide (r3 < 0) then (-9223372036854775808 ≤ i2) ∧ I95 xs2 o2 x2 y2 (i2 + 1) ∧ mu96 xs2 o2 x2 y2 (i2 + 1) < mu96 xs2 o2 x2 y2 i2 else (if decide (r4 < 0) then (-9223372036854775808 ≤ i2) ∧ I95 xs2 o2 x2 y2 (i2 + 1) ∧ mu96 xs2 o2 x2 y2 (i2 + 1) < mu96 xs2 o2 x2 y2 i2 else ((0 : Int) ≤ o2 ∧ (o2 : Int) ≤ i2 ∧ i2 ≤ (base_.length : Int)) ∧ ((0 : Int) ≤ x2 ∧ (x2 : Int) ≤ r3 ∧ r3 ≤ (a.length : Int)) ∧ ((0 : Int) ≤ y2 ∧ (y2 : Int) ≤ r4 ∧ r4 ≤ (b.length : Int)) ∧ spec_l5Pick.E ((base_.drop o2.toNat).take (i2.toNat - o2.toNat)) ((a.drop x2.toNat).take (r3.toNat - x2.toNat)) ((b.drop y2.toNat).take (r4.toNat - y2.toNat)) (fun r5 r6 => (if !r6 then Q ([] : List Pt) false else (xs2.length + r5.length ≤ 268435456) ∧ ((0 : Int) ≤ i2 ∧ i2 < (base_.length : Int)) ∧ ((xs2 ++ r5).length + ([(nth base_ i2)] : List Pt).length ≤ 268435456) ∧ (-9223372036854775808 ≤ i2) ∧ ((base_.length : Int) ≤ 9223372036854775807 → (a.length : Int) ≤ 9223372036854775807 → (b.length : Int) ≤ 9223372036854775807 → I64 (r3 + 1)) ∧ ((base_.length : Int) ≤ 9223372036854775807 → (a.length : Int) ≤ 9223372036854775807 → (b.length : Int) ≤ 9223372036854775807 → I64 (r4 + 1)) ∧ (-9223372036854775808 ≤ i2) ∧ I95 ((xs2 ++ r5) ++ ([(nth base_ i2)] : List Pt)) (i2 + 1) (r3 + 1) (r4 + 1) (i2 + 1) ∧ mu96 ((xs2 ++ r5) ++ ([(nth base_ i2)] : List Pt)) (i2 + 1) (r3 + 1) (r4 + 1) (i2 + 1) < mu96 xs2 o2 x2 y2 i2)))))) else ((0 : Int) ≤ o2 ∧ (o2 : Int) ≤ i2 ∧ i2 ≤ (base_.length : Int)) ∧ ((0 : Int) ≤ x2 ∧ (x2 : Int) ≤ (a.length : Int) ∧ (a.length : Int) ≤ (a.length : Int)) ∧ ((0 : Int) ≤ y2 ∧ (y2 : Int) ≤ (b.length : Int) ∧ (b.length : Int) ≤ (b.length : Int)) ∧ spec_l5Pick.E ((base_.drop o2.toNat).take (i2.toNat - o2.toNat)) ((a.drop x2.toNat).take ((a.length : Int).toNat - x2.toNat)) ((b.drop y2.toNat).take ((b.length : Int).toNat - y2.toNat)) (fun r7 r8 => (if !r8 then Q ([] : List Pt) false else (xs2.length + r7.length ≤ 268435456) ∧ ((base_.length : Int) ≤ 9223372036854775807 → (a.length : Int) ≤ 9223372036854775807 → (b.length : Int) ≤ 9223372036854775807 → I64 (i2 + 1)) ∧ ((base_.length : Int) ≤ 9223372036854775807 → (a.length : Int) ≤ 9223372036854775807 → (b.length : Int) ≤ 9223372036854775807 → I64 ((a.length : Int) + 1)) ∧ ((base_.length : Int) ≤ 9223372036854775807 → (a.length : Int) ≤ 9223372036854775807 → (b.length : Int) ≤ 9223372036854775807 → I64 ((b.length : Int) + 1)) ∧ ((base_.length : Int) ≤ 9223372036854775807 → (a.length : Int) ≤ 9223372036854775807 → (b.length : Int) ≤ 9223372036854775807 → I64 (i2 + 1)) ∧ I95 (xs2 ++ r7) (i2 + 1) ((a.length : Int) + 1) ((b.length : Int) + 1) (i2 + 1) ∧ mu96 (xs2 ++ r7) (i2 + 1) ((a.length : Int) + 1) ((b.length : Int) + 1) (i2 + 1) < mu96 xs2 o2 x2 y2 i2))) else Q xs2 true))))
set_option maxHeartbeats 8000000 in
set_option maxRecDepth 100000 in
theorem spec_l5Merge.calls {O : Ob} (w0 : World) (hO : Ok w0 O) (base_ : List Pt) (A1 : Option Addr) (n2 c3 : Nat) (hp4 : Sl kPt w0 (Fr O) (.slice A1 n2 c3) base_) (a : List Pt) (A6 : Option Addr) (n7 c8 : Nat) (hp9 : Sl kPt w0 (Fr O) (.slice A6 n7 c8) a) (b : List Pt) (A11 : Option Addr) (n12 c13 : Nat) (hp14 : Sl kPt w0 (Fr O) (.slice A11 n12 c13) b) (Q : List Pt → Bool → Prop) (h : spec_l5Merge.E base_ a b Q) :
    Ret Try.prog 52 [.slice A1 n2 c3, .slice A6 n7 c8, .slice A11 n12 c13] w0 (fun v w' => ∃ (r0 : List Pt) (r1 : Bool) (A0 : Option Addr) (n0 c0 : Nat), v = .tuple #[.slice A0 n0 c0, vb r1] ∧ Q r0 r1 ∧ Gr w0 w' none ∧ Ok w' ([blk (.slice A0 n0 c0)] ++ O) ∧ (∀ b, some b ∈ [blk (.slice A0 n0 c0)] → w0.heap.size ≤ b) ∧ Ow kPt 41 w' ([blk (.slice A0 n0 c0)] ++ O) (.slice A0 n0 c0) r0) := by
  have H : spec_SeqPairs.E base_ a (fun r => spec_SeqPairs.E base_ b (fun r2 => (∃ (I95 : (List Pt) → Int → Int → Int → Int → Prop) (mu96 : (List Pt) → Int → Int → Int → Int → Nat), I95 ([] : List Pt) 0 0 0 0 ∧ ∀ (xs2 : List Pt) (o2 : Int) (x2 : Int) (y2 : Int) (i2 : Int), I95 xs2 o2 x2 y2 i2 → (if decide (i2 ≤ (base_.length : Int)) then (if decide (i2 < (base_.length : Int)) then spec_l5At.E r i2 (fun r3 => spec_l5At.E r2 i2 (fun r4 => (if decide (r3 < 0) then (-9223372036854775808 ≤ i2) ∧ I95 xs2 o2 x2 y2 (i2 + 1) ∧ mu96 xs2 o2 x2 y2 (i2 + 1) < mu96 xs2 o2 x2 y2 i2 else (if decide (r4 < 0) then (-9223372036854775808 ≤ i2) ∧ I95 xs2 o2 x2 y2 (i2 + 1) ∧ mu96 xs2 o2 x2 y2 (i2 + 1) < mu96 xs2 o2 x2 y2 i2 else ((0 : Int) ≤ o2 ∧ (o2 : Int) ≤ i2 ∧ i2 ≤ (base_.length : Int)) ∧ ((0 : Int) ≤ x2 ∧ (x2 : Int) ≤ r3 ∧ r3 ≤ (a.length : Int)) ∧ ((0 : Int) ≤ y2 ∧ (y2 : Int) ≤ r4 ∧ r4 ≤ (b.length : Int)) ∧ spec_l5Pick.E ((base_.drop o2.toNat).take (i2.toNat - o2.toNat)) ((a.drop x2.toNat).take (r3.toNat - x2.toNat)) ((b.drop y2.toNat).take (r4.toNat - y2.toNat)) (fun r5 r6 => (if !r6 then Q ([] : List Pt) false else (xs2.length + r5.length ≤ 268435456) ∧ ((0 : Int) ≤ i2 ∧ i2 < (base_.length : Int)) ∧ ((xs2 ++ r5).length + ([(nth base_ i2)] : List Pt).length ≤ 268435456) ∧ (-9223372036854775808 ≤ i2) ∧ ((base_.length : Int) ≤ 9223372036854775807 → (a.length : Int) ≤ 9223372036854775807 → (b.length : Int) ≤ 9223372036854775807 → I64 (r3 + 1)) ∧ ((base_.length : Int) ≤ 9223372036854775807 → (a.length : Int) ≤ 9223372036854775807 → (b.length : Int) ≤ 9223372036854775807 → I64 (r4 + 1)) ∧ (-9223372036854775808 ≤ i2) ∧ I95 ((xs2 ++ r5) ++ ([(nth base_ i2)] : List Pt)) (i2 + 1) (r3 + 1) (r4 + 1) (i2 + 1) ∧ mu96 ((xs2 ++ r5) ++ ([(nth base_ i2)] : List Pt)) (i2 + 1) (r3 + 1) (r4 + 1) (i2 + 1) < mu96 xs2 o2 x2 y2 i2)))))) else ((0 : Int) ≤ o2 ∧ (o2 : Int) ≤ i2 ∧ i2 ≤ (base_.length : Int)) ∧ ((0 : Int) ≤ x2 ∧ (x2 : Int) ≤ (a.length : Int) ∧ (a.length : Int) ≤ (a.length : Int)) ∧ ((0 : Int) ≤ y2 ∧ (y2 : Int) ≤ (b.length : Int) ∧ (b.length : Int) ≤ (b.length : Int)) ∧ spec_l5Pick.E ((base_.drop o2.toNat).take (i2.toNat - o2.toNat)) ((a.drop x2.toNat).take ((a.length : Int).toNat - x2.toNat)) ((b.drop y2.toNat).take ((b.length : Int).toNat - y2.toNat)) (fun r7 r8 => (if !r8 then Q ([] : List Pt) false else (xs2.length + r7.length ≤ 268435456) ∧ ((base_.length : Int) ≤ 9223372036854775807 → (a.length : Int) ≤ 9223372036854775807 → (b.length : Int) ≤ 9223372036854775807 → I64 (i2 + 1)) ∧ ((base_.length : Int) ≤ 9223372036854775807 → (a.length : Int) ≤ 9223372036854775807 → (b.length : Int) ≤ 9223372036854775807 → I64 ((a.length : Int) + 1)) ∧ ((base_.length : Int) ≤ 9223372036854775807 → (a.length : Int) ≤ 9223372036854775807 → (b.length : Int) ≤ 9223372036854775807 → I64 ((b.length : Int) + 1)) ∧ ((base_.length : Int) ≤ 9223372036854775807 → (a.length : Int) ≤ 9223372036854775807 → (b.length : Int) ≤ 9223372036854775807 → I64 (i2 + 1)) ∧ I95 (xs2 ++ r7) (i2 + 1) ((a.length : Int) + 1) ((b.length : Int) + 1) (i2 + 1) ∧ mu96 (xs2 ++ r7) (i2 + 1) ((a.length : Int) + 1) ((b.length : Int) + 1) (i2 + 1) < mu96 xs2 o2 x2 y2 i2))) else Q xs2 true)))) := h
  clear h
  have hc0 := Ct.init hO
  refine Ret_enter Try.func52 rfl 91 rfl [.tmp 6, .tmp 7] rfl rfl ?_
  refine W_seq ?_
  refine W_reg ?_
  refine L_pu (P_assign (.slice none 0 0) rfl) ?_
  refine L_pu (P_assign (vb false) rfl) ?_
  refine L_nil ?_
  refine W_seq ?_
  refine W_reg ?_
  refine L_pu (P_move (.slice A1 n2 c3) rfl) ?_
  refine L_pu (P_move (.slice A6 n7 c8) rfl) ?_
  refine L_call go30 [.slice A1 n2 c3, .slice A6 n7 c8] rfl ((spec_SeqPairs.calls w0 hc0.ok base_ A1 n2 c3 hp4 a A6 n7 c8 hp9 _ H).mono ?_)
  rintro _ w16 ⟨r, A18, n19, c20, rfl, H, g17, hk24, hk25, h21⟩
  have hc26 := hc0.owns g17 hk24 hk25
  refine L_pu (P_assign (.slice A18 n19 c20) rfl) ?_
  refine L_nil ?_
  refine W_seq ?_
  refine W_reg ?_
  refine L_pu (P_move (.slice A1 n2 c3) rfl) ?_
  refine L_pu (P_move (.slice A11 n12 c13) rfl) ?_
  refine L_call go30 [.slice A1 n2 c3, .slice A11 n12 c13] rfl ((spec_SeqPairs.calls w16 hc26.ok base_ A1 n2 c3 (hp4.st hc26.st) b A11 n12 c13 (hp14.st hc26.st) _ H).mono ?_)
  rintro _ w27 ⟨r2, A29, n30, c31, rfl, H, g28, hk35, hk36, h32⟩
  have hc37 := hc26.owns g28 hk35 hk36
  refine L_pu (P_assign (.slice A29 n30 c31) rfl) ?_
  refine L_nil ?_
  refine W_seq ?_
  refine W_reg ?_
  refine L_lit (kd := kPt) ei33 hc37 ([] : List Pt) (cells := []) rfl (fun _ => by kernel_rfl) fun w38 A39 n40 c41 g42 hr43 hc44 h45 => ?_
  refine L_pu (P_assign (.slice A39 n40 c41) rfl) ?_
  refine L_nil ?_
  refine W_seq ?_
  refine W_reg ?_
  refine L_pu (P_assign (vi 0) rfl) ?_
  refine L_nil ?_
  refine W_seq ?_
  refine W_reg ?_
  refine L_pu (P_assign (vi 0) rfl) ?_
  refine L_nil ?_
  refine W_seq ?_
  refine W_reg ?_
  refine L_pu (P_assign (vi 0) rfl) ?_
  refine L_nil ?_
  refine W_seq ?_
  refine W_seq ?_
  refine W_reg ?_
  refine L_pu (P_assign (vi 0) rfl) ?_
  refine L_nil ?_
  refine W_block ?_
  obtain ⟨I95, mu96, hI97, H⟩ := H
  have h99 := ((h21.sos g28 hk36).so _ g42 hr43)
  have h100 := (h32.so _ g42 hr43)
  refine W_loop (α := (List Pt) × (Option Addr) × Nat × Nat × Int × Int × Int × Int) (fun (s : (List Pt) × (Option Addr) × Nat × Nat × Int × Int × Int × Int) t w78 => match s with | (xs2, A84, n85, c86, o2, x2, y2, i2) => I95 xs2 o2 x2 y2 i2 ∧ Has t [(0, .slice A1 n2 c3), (1, .slice A6 n7 c8), (2, .slice A11 n12 c13), (8, .slice A18 n19 c20), (9, .slice A29 n30 c31), (10, .slice A84 n85 c86), (11, vi o2), (12, vi x2), (13, vi y2), (14, vi i2)] ∧ Ct none w0 w78 [blk (.slice A84 n85 c86), blk (.slice A29 n30 c31), blk (.slice A18 n19 c20)] O ∧ Sl kPt w78 (Fr ([blk (.slice A84 n85 c86), blk (.slice A29 n30 c31), blk (.slice A18 n19 c20)] ++ O)) (.slice A1 n2 c3) base_ ∧ Sl kPt w78 (Fr ([blk (.slice A84 n85 c86), blk (.slice A29 n30 c31), blk (.slice A18 n19 c20)] ++ O)) (.slice A6 n7 c8) a ∧ Sl kPt w78 (Fr ([blk (.slice A84 n85 c86), blk (.slice A29 n30 c31), blk (.slice A18 n19 c20)] ++ O)) (.slice A11 n12 c13) b ∧ Ow kPair 46 w78 ([blk (.slice A84 n85 c86), blk (.slice A29 n30 c31), blk (.slice A18 n19 c20)] ++ O) (.slice A18 n19 c20) r ∧ Ow kPair 46 w78 ([blk (.slice A84 n85 c86), blk (.slice A29 n30 c31), blk (.slice A18 n19 c20)] ++ O) (.slice A29 n30 c31) r2 ∧ Ow kPt 41 w78 ([blk (.slice A84 n85 c86), blk (.slice A29 n30 c31), blk (.slice A18 n19 c20)] ++ O) (.slice A84 n85 c86) xs2) (fun (s : (List Pt) × (Option Addr) × Nat × Nat × Int × Int × Int × Int) => match s with | (xs2, _, _, _, o2, x2, y2, i2) => mu96 xs2 o2 x2 y2 i2) (([] : List Pt), A39, n40, c41, 0, 0, 0, 0) ⟨hI97, ⟨rfl, rfl, rfl, rfl, rfl, rfl, rfl, rfl, rfl, rfl, trivial⟩, hc44, (hp4.st hc44.st), (hp9.st hc44.st), (hp14.st hc44.st), h99, h100, h45⟩ ?_
  rintro ⟨xs2, A84, n85, c86, o2, x2, y2, i2⟩ _ w78 ⟨hI97, hh101, hc88, h89, h90, h91, h92, h93, h94⟩
  obtain ⟨u102, rfl⟩ := Has.ins hh101
  have H := H xs2 o2 x2 y2 i2 hI97
  refine W_seq ?_
  refine W_seq ?_
  refine W_reg ?_
  refine L_pu (P_move (vi i2) rfl) ?_
  refine L_pu (P_move (.slice A1 n2 c3) rfl) ?_
  have hl103 := h89.le
  refine L_pu (P_len Try.underlying33 A1 n2 c3 h89.len rfl) ?_
  refine L_pu (P_cmp i2 (base_.length : Int) (decide (i2 ≤ (base_.length : Int))) rfl rfl rfl) ?_
  refine L_nil ?_
  refine W_cond (decide (i2 ≤ (base_.length : Int))) rfl (fun hq104 => ?_) (fun hq104 => ?_)
  · have H := ite_t H hq104
    refine W_skip ?_
    refine W_seq ?_
    refine W_block ?_
    refine W_seq ?_
    refine W_reg ?_
    refine L_pu (P_move (.slice A6 n7 c8) rfl) ?_
    have hl105 := h90.le
    refine L_pu (P_len Try.underlying33 A6 n7 c8 h90.len rfl) ?_
    refine L_pu (P_assign (vi (a.length : Int)) rfl) ?_
    refine L_nil ?_
    refine W_seq ?_
    refine W_reg ?_
    refine L_pu (P_move (.slice A11 n12 c13) rfl) ?_
    have hl106 := h91.le
    refine L_pu (P_len Try.underlying33 A11 n12 c13 h91.len rfl) ?_
    refine L_pu (P_assign (vi (b.length : Int)) rfl) ?_
    refine L_nil ?_
    refine W_seq ?_
    refine W_seq ?_
    refine W_reg ?_
    refine L_pu (P_move (vi i2) rfl) ?_
    refine L_pu (P_move (.slice A1 n2 c3) rfl) ?_
    refine L_pu (P_len Try.underlying33 A1 n2 c3 h89.len rfl) ?_
    refine L_pu (P_cmp i2 (base_.length : Int) (decide (i2 < (base_.length : Int))) rfl rfl rfl) ?_
    refine L_nil ?_
    refine W_cond (decide (i2 < (base_.length : Int))) rfl (fun hq107 => ?_) (fun hq107 => ?_)
    · have H := ite_t H hq107
      refine W_seq ?_
      refine W_reg ?_
      refine L_pu (P_move (.slice A18 n19 c20) rfl) ?_
      refine L_pu (P_move (vi i2) rfl) ?_
      have h108 := Ow.gv (L := [blk (.slice A84 n85 c86), blk (.slice A29 n30 c31), blk (.slice A18 n19 c20)]) (O := O) h92 hc88 (i := 2) rfl
      have hc109 := hc88.drop 2 rfl
      refine L_call go60 [.slice A18 n19 c20, vi i2] rfl ((spec_l5At.calls w78 hc109.ok r A18 n19 c20 h108 i2 _ H).mono ?_)
      rintro _ w111 ⟨r3, rfl, H, g112⟩
      have hc116 := hc88.k0 g112
      refine L_pu (P_assign (vi r3) rfl) ?_
      refine L_nil ?_
      refine W_seq ?_
      refine W_reg ?_
      refine L_pu (P_move (.slice A29 n30 c31) rfl) ?_
      refine L_pu (P_move (vi i2) rfl) ?_
      have h117 := (h93.sn g112)
      have h118 := Ow.gv (L := [blk (.slice A84 n85 c86), blk (.slice A29 n30 c31), blk (.slice A18 n19 c20)]) (O := O) h117 hc116 (i := 1) rfl
      have hc119 := hc116.drop 1 rfl
      refine L_call go60 [.slice A29 n30 c31, vi i2] rfl ((spec_l5At.calls w111 hc119.ok r2 A29 n30 c31 h118 i2 _ H).mono ?_)
      rintro _ w121 ⟨r4, rfl, H, g122⟩
      have hc126 := hc116.k0 g122
      refine L_pu (P_assign (vi r4) rfl) ?_
      refine L_nil ?_
      refine W_seq ?_
      refine W_reg ?_
      refine L_pu (P_move (vi r3) rfl) ?_
      refine L_pu (P_cmp r3 0 (decide (r3 < 0)) rfl rfl rfl) ?_
      refine L_pu (P_move (vb (decide (r3 < 0))) rfl) ?_
      rcases bool_or (decide (r3 < 0)) with hq127 | hq127
      · have H := ite_t H hq127
        refine L_pass (dj := 48) rfl rfl (.inl (by exact congrArg Value.bool hq127)) ?_
        refine L_pass (dj := 48) rfl rfl (.inl (by exact congrArg Value.bool hq127)) ?_
        refine L_pu (P_pick true (vb true) (by exact congrArg Value.bool hq127) rfl) ?_
        refine L_nil ?_
        refine W_ct (b := true) rfl rfl ?_
        refine W_exit (xin_hit ?_)
        refine W_reg ?_
        refine L_pu (P_move (vi i2) rfl) ?_
        obtain ⟨hb129, H⟩ := H
        have hi128 : I64 (i2 + 1) := i64_succ (of_decide_eq_true hq107) hl103 hb129
        refine L_pu (P_add i2 1 rfl rfl hi128) ?_
        refine L_pu (P_assign (vi (i2 + 1)) rfl) ?_
        refine L_nil ?_
        obtain ⟨hI130, hm131⟩ := H
        have h132 := ((h89.st (.new _ g112)).st (.new _ g122))
        have h133 := ((h90.st (.new _ g112)).st (.new _ g122))
        have h134 := ((h91.st (.new _ g112)).st (.new _ g122))
        have h135 := ((h92.sn g112).sn g122)
        have h136 := ((h93.sn g112).sn g122)
        have h137 := ((h94.sn g112).sn g122)
        exact ⟨(xs2, A84, n85, c86, o2, x2, y2, i2 + 1), hm131, hI130, ⟨rfl, rfl, rfl, rfl, rfl, rfl, rfl, rfl, rfl, rfl, trivial⟩, hc126, h132, h133, h134, h135, h136, h137⟩
      · have H := ite_f H hq127
        refine L_run (dj := 48) rfl rfl (by exact congrArg Value.bool hq127) ?_
        refine L_pu (P_move (vi r4) rfl) ?_
        refine L_run (dj := 48) rfl rfl (by exact congrArg Value.bool hq127) ?_
        refine L_pu (P_cmp r4 0 (decide (r4 < 0)) rfl rfl rfl) ?_
        refine L_pu (P_pick false (vb (decide (r4 < 0))) (by exact congrArg Value.bool hq127) rfl) ?_
        refine L_nil ?_
        refine W_cond (decide (r4 < 0)) rfl (fun hq138 => ?_) (fun hq138 => ?_)
        · have H := ite_t H hq138
          refine W_exit (xin_hit ?_)
          refine W_reg ?_
          refine L_pu (P_move (vi i2) rfl) ?_
          obtain ⟨hb140, H⟩ := H
          have hi139 : I64 (i2 + 1) := i64_succ (of_decide_eq_true hq107) hl103 hb140
          refine L_pu (P_add i2 1 rfl rfl hi139) ?_
          refine L_pu (P_assign (vi (i2 + 1)) rfl) ?_
          refine L_nil ?_
          obtain ⟨hI141, hm142⟩ := H
          have h143 := ((h89.st (.new _ g112)).st (.new _ g122))
          have h144 := ((h90.st (.new _ g112)).st (.new _ g122))
          have h145 := ((h91.st (.new _ g112)).st (.new _ g122))
          have h146 := ((h92.sn g112).sn g122)
          have h147 := ((h93.sn g112).sn g122)
          have h148 := ((h94.sn g112).sn g122)
          exact ⟨(xs2, A84, n85, c86, o2, x2, y2, i2 + 1), hm142, hI141, ⟨rfl, rfl, rfl, rfl, rfl, rfl, rfl, rfl, rfl, rfl, trivial⟩, hc126, h143, h144, h145, h146, h147, h148⟩
        · have H := ite_f H hq138
          refine W_skip ?_
          refine W_seq ?_
          refine W_mixr 18 (none) (by kernel_rfl) rfl fun w149 g150 hM151 => ?_
          have hc152 := hc126.k0 g150
          refine M_pu 0 rfl (by kernel_rfl) hM151 (P_move (.slice A1 n2 c3) rfl) ?_
          refine M_pu 1 rfl (by kernel_rfl) hM151 (P_move (vi o2) rfl) ?_
          refine M_pu 2 rfl (by kernel_rfl) hM151 (P_move (vi i2) rfl) ?_
          obtain ⟨hb153, H⟩ := H
          have h158 := (((h89.st (.new _ g112)).st (.new _ g122)).st (.new _ g150))
          refine M_cuts 3 rfl (by kernel_rfl) hM151 Try.underlying33 se33 A1 n2 c3 base_ rfl h158 o2 i2 rfl rfl hb153 fun A154 n155 c156 h157 => ?_
          refine M_pu 4 rfl (by kernel_rfl) hM151 (P_move (.slice A6 n7 c8) rfl) ?_
          refine M_pu 5 rfl (by kernel_rfl) hM151 (P_move (vi x2) rfl) ?_
          refine M_pu 6 rfl (by kernel_rfl) hM151 (P_move (vi r3) rfl) ?_
          obtain ⟨hb160, H⟩ := H
          have h165 := (((h90.st (.new _ g112)).st (.new _ g122)).st (.new _ g150))
          refine M_cuts 7 rfl (by kernel_rfl) hM151 Try.underlying33 se33 A6 n7 c8 a rfl h165 x2 r3 rfl rfl hb160 fun A161 n162 c163 h164 => ?_
          refine M_pu 8 rfl (by kernel_rfl) hM151 (P_move (.slice A11 n12 c13) rfl) ?_
          refine M_pu 9 rfl (by kernel_rfl) hM151 (P_move (vi y2) rfl) ?_
          refine M_pu 10 rfl (by kernel_rfl) hM151 (P_move (vi r4) rfl) ?_
          obtain ⟨hb167, H⟩ := H
          have h172 := (((h91.st (.new _ g112)).st (.new _ g122)).st (.new _ g150))
          refine M_cuts 11 rfl (by kernel_rfl) hM151 Try.underlying33 se33 A11 n12 c13 b rfl h172 y2 r4 rfl rfl hb167 fun A168 n169 c170 h171 => ?_
          refine M_any1 12 (by kernel_rfl) rfl ?_
          refine L_call go61 [.slice A154 n155 c156, .slice A161 n162 c163, .slice A168 n169 c170] rfl ((spec_l5Pick.calls w149 hc152.ok ((base_.drop o2.toNat).take (i2.toNat - o2.toNat)) A154 n155 c156 h157 ((a.drop x2.toNat).take (r3.toNat - x2.toNat)) A161 n162 c163 h164 ((b.drop y2.toNat).take (r4.toNat - y2.toNat)) A168 n169 c170 h171 _ H).mono ?_)
          rintro _ w174 ⟨r5, r6, A176, n177, c178, rfl, H, g175, h179⟩
          have hc183 := hc152.k0 g175
          have hM184 := Gr.tm hM151 g175
          refine L_nil ⟨hM184, ?_⟩
          refine M_pu 13 rfl (by kernel_rfl) hM184 (P_move (.tuple #[.slice A176 n177 c178, vb r6]) rfl) ?_
          refine M_pu 14 rfl (by kernel_rfl) hM184 (P_ext [.slice A176 n177 c178, vb r6] 0 (.slice A176 n177 c178) rfl rfl) ?_
          refine M_pu 15 rfl (by kernel_rfl) hM184 (P_ext [.slice A176 n177 c178, vb r6] 1 (vb r6) rfl rfl) ?_
          refine M_pu 16 rfl (by kernel_rfl) hM184 (P_assign (.slice A176 n177 c178) rfl) ?_
          refine M_pu 17 rfl (by kernel_rfl) hM184 (P_assign (vb r6) rfl) ?_
          refine M_nil (by kernel_rfl) ?_
          refine W_seq ?_
          refine W_seq ?_
          refine W_reg ?_
          refine L_pu (P_move (vb r6) rfl) ?_
          refine L_pu (P_not r6 rfl) ?_
          refine L_nil ?_
          refine W_cond (!r6) rfl (fun hq186 => ?_) (fun hq186 => ?_)
          · have H := ite_t H hq186
            refine W_seq ?_
            refine W_reg ?_
            refine L_pu (P_assign (.slice none 0 0) rfl) ?_
            refine L_pu (P_assign (vb false) rfl) ?_
            refine L_nil ?_
            refine W_ret ?_
            have hc188 := hc183.own (Gr.refl _ none) none (by simp)
            have h189 : Ow kPt 41 w174 ([blk (.slice none 0 0), blk (.slice A84 n85 c86), blk (.slice A29 n30 c31), blk (.slice A18 n19 c20)] ++ O) (.slice none 0 0) [] := Ow.nil _ _ _ _
            have hc190 := hc188.drop 1 rfl
            have hc191 := hc190.drop 1 rfl
            have hc192 := hc191.drop 1 rfl
            have h193 := (Ow.sd (L := [blk (.slice none 0 0), blk (.slice A18 n19 c20)]) (O := O) (Ow.sd (L := [blk (.slice none 0 0), blk (.slice A29 n30 c31), blk (.slice A18 n19 c20)]) (O := O) (Ow.sd (L := [blk (.slice none 0 0), blk (.slice A84 n85 c86), blk (.slice A29 n30 c31), blk (.slice A18 n19 c20)]) (O := O) h189 (i := 0) rfl (j := 1) rfl (by decide)) (i := 0) rfl (j := 1) rfl (by decide)) (i := 0) rfl (j := 1) rfl (by decide))
            exact ⟨[.slice none 0 0, vb false], ⟨_, rfl, ⟨_, rfl, rfl⟩⟩, ([] : List Pt), false, none, 0, 0, rfl, H, hc192.gr, hc192.ok, hc192.ge, h193⟩
          · have H := ite_f H hq186
            refine W_skip ?_
            refine W_seq ?_
            refine W_reg ?_
            refine L_pu (P_move (.slice A84 n85 c86) rfl) ?_
            refine L_pu (P_move (.slice A176 n177 c178) rfl) ?_
            obtain ⟨hb194, H⟩ := H
            have h195 := ((((h94.sn g112).sn g122).sn g150).sn g175)
            refine L_app ei33 hc183 (.slice A84 n85 c86) xs2 r5 rfl h195 (.slice A176 n177 c178) rfl h179.sx 0 rfl hb194 fun w196 A197 n198 c199 g200 s201 hc202 h203 => ?_
            refine L_pu (P_assign (.slice A197 n198 c199) rfl) ?_
            refine L_nil ?_
            refine W_seq ?_
            refine W_seq ?_
            refine W_reg ?_
            refine L_pu (P_move (vi i2) rfl) ?_
            refine L_pu (P_move (.slice A1 n2 c3) rfl) ?_
            have h205 := ((h158.st (.new _ g175)).st s201)
            refine L_pu (P_len Try.underlying33 A1 n2 c3 h205.len rfl) ?_
            refine L_pu (P_cmp i2 (base_.length : Int) (decide (i2 < (base_.length : Int))) rfl rfl rfl) ?_
            refine L_nil ?_
            refine W_ct (b := decide (i2 < (base_.length : Int))) rfl hq107 ?_
            refine W_reg ?_
            refine L_pu (P_move (.slice A197 n198 c199) rfl) ?_
            refine L_pu (P_move (.slice A1 n2 c3) rfl) ?_
            refine L_pu (P_move (vi i2) rfl) ?_
            obtain ⟨hb206, H⟩ := H
            obtain ⟨ad207, cs208, hA209, hS212, hR210, hcl211⟩ := h205.get default (by decide) i2 hb206
            obtain rfl := kPt.op hR210
            refine L_pu (P_ia Try.underlying33 se33 A1 ad207 n2 c3 h205.len i2 rfl hA209 rfl hb206) ?_
            refine L_pu (P_lda ag41 sz41 cL (ad207.add (i2.toNat * 2)) [vi ((nth base_ i2).X), vi ((nth base_ i2).Y)] rfl rfl hcl211) ?_
            refine L_lit (kd := kPt) ei33 hc202 ([(nth base_ i2)] : List Pt) (cells := [vi ((nth base_ i2).X), vi ((nth base_ i2).Y)]) ⟨[vi ((nth base_ i2).X), vi ((nth base_ i2).Y)], _, rfl, (kPt.mk _ _ (nth base_ i2)), rfl⟩ (fun _ => by kernel_rfl) fun w213 A214 n215 c216 g217 hr218 hc219 h220 => ?_
            obtain ⟨hb222, H⟩ := H
            have h223 := (h203.so _ g217 hr218)
            refine L_app ei33 hc219 (.slice A197 n198 c199) (xs2 ++ r5) ([(nth base_ i2)] : List Pt) rfl h223 (.slice A214 n215 c216) rfl h220.sx 1 rfl hb222 fun w224 A225 n226 c227 g228 s229 hc230 h231 => ?_
            refine L_pu (P_assign (.slice A225 n226 c227) rfl) ?_
            refine L_nil ?_
            refine W_seq ?_
            refine W_reg ?_
            refine L_pu (P_move (vi i2) rfl) ?_
            obtain ⟨hb234, H⟩ := H
            have hi233 : I64 (i2 + 1) := i64_succ (of_decide_eq_true hq107) hl103 hb234
            refine L_pu (P_add i2 1 rfl rfl hi233) ?_
            refine L_pu (P_assign (vi (i2 + 1)) rfl) ?_
            refine L_nil ?_
            refine W_seq ?_
            refine W_reg ?_
            refine L_pu (P_move (vi r3) rfl) ?_
            obtain ⟨hb235, H⟩ := H
            have hi236 := hb235 (len_le hl103) (len_le hl105) (len_le hl106)
            refine L_pu (P_add r3 1 rfl rfl hi236) ?_
            refine L_pu (P_assign (vi (r3 + 1)) rfl) ?_
            refine L_nil ?_
            refine W_reg ?_
            refine L_pu (P_move (vi r4) rfl) ?_
            obtain ⟨hb237, H⟩ := H
            have hi238 := hb237 (len_le hl103) (len_le hl105) (len_le hl106)
            refine L_pu (P_add r4 1 rfl rfl hi238) ?_
            refine L_pu (P_assign (vi (r4 + 1)) rfl) ?_
            refine L_nil ?_
            refine W_reg ?_
            refine L_pu (P_move (vi i2) rfl) ?_
            obtain ⟨hb240, H⟩ := H
            have hi239 : I64 (i2 + 1) := i64_succ (of_decide_eq_true hq107) hl103 hb240
            refine L_pu (P_add i2 1 rfl rfl hi239) ?_
            refine L_pu (P_assign (vi (i2 + 1)) rfl) ?_
            refine L_nil ?_
            have hc241 := hc230.drop 0 rfl
            obtain ⟨hI242, hm243⟩ := H
            have h244 := (((h205.st (.own _ _ g217 hr218)).st s229).st (.dr _ (L := [blk (.slice A214 n215 c216), blk (.slice A225 n226 c227), blk (.slice A29 n30 c31), blk (.slice A18 n19 c20)]) (O := O) (j := 0) rfl))
            have h245 := (((((h165.st (.new _ g175)).st s201).st (.own _ _ g217 hr218)).st s229).st (.dr _ (L := [blk (.slice A214 n215 c216), blk (.slice A225 n226 c227), blk (.slice A29 n30 c31), blk (.slice A18 n19 c20)]) (O := O) (j := 0) rfl))
            have h246 := (((((h172.st (.new _ g175)).st s201).st (.own _ _ g217 hr218)).st s229).st (.dr _ (L := [blk (.slice A214 n215 c216), blk (.slice A225 n226 c227), blk (.slice A29 n30 c31), blk (.slice A18 n19 c20)]) (O := O) (j := 0) rfl))
            have h247 := (Ow.sd (L := [blk (.slice A214 n215 c216), blk (.slice A225 n226 c227), blk (.slice A29 n30 c31), blk (.slice A18 n19 c20)]) (O := O) (Ow.sm (L := [blk (.slice A214 n215 c216), blk (.slice A197 n198 c199), blk (.slice A29 n30 c31), blk (.slice A18 n19 c20)]) (O := O) ((Ow.sm (L := [blk (.slice A84 n85 c86), blk (.slice A29 n30 c31), blk (.slice A18 n19 c20)]) (O := O) ((((h92.sn g112).sn g122).sn g150).sn g175) hc183 (i := 2) rfl (j := 0) rfl (by decide) g200 s201).so _ g217 hr218) hc219 (i := 3) rfl (j := 1) rfl (by decide) g228 s229) (i := 3) rfl (j := 0) rfl (by decide))
            have h248 := (Ow.sd (L := [blk (.slice A214 n215 c216), blk (.slice A225 n226 c227), blk (.slice A29 n30 c31), blk (.slice A18 n19 c20)]) (O := O) (Ow.sm (L := [blk (.slice A214 n215 c216), blk (.slice A197 n198 c199), blk (.slice A29 n30 c31), blk (.slice A18 n19 c20)]) (O := O) ((Ow.sm (L := [blk (.slice A84 n85 c86), blk (.slice A29 n30 c31), blk (.slice A18 n19 c20)]) (O := O) ((((h93.sn g112).sn g122).sn g150).sn g175) hc183 (i := 1) rfl (j := 0) rfl (by decide) g200 s201).so _ g217 hr218) hc219 (i := 2) rfl (j := 1) rfl (by decide) g228 s229) (i := 2) rfl (j := 0) rfl (by decide))
            have h249 := (Ow.sd (L := [blk (.slice A214 n215 c216), blk (.slice A225 n226 c227), blk (.slice A29 n30 c31), blk (.slice A18 n19 c20)]) (O := O) h231 (i := 1) rfl (j := 0) rfl (by decide))
            exact ⟨(((xs2 ++ r5) ++ ([(nth base_ i2)] : List Pt)), A225, n226, c227, i2 + 1, r3 + 1, r4 + 1, i2 + 1), hm243, hI242, ⟨rfl, rfl, rfl, rfl, rfl, rfl, rfl, rfl, rfl, rfl, trivial⟩, hc241, h244, h245, h246, h247, h248, h249⟩
    · have H := ite_f H hq107
      refine W_skip ?_
      refine W_seq ?_
      refine W_mixr 18 (none) (by kernel_rfl) rfl fun w250 g251 hM252 => ?_
      have hc253 := hc88.k0 g251
      refine M_pu 0 rfl (by kernel_rfl) hM252 (P_move (.slice A1 n2 c3) rfl) ?_
      refine M_pu 1 rfl (by kernel_rfl) hM252 (P_move (vi o2) rfl) ?_
      refine M_pu 2 rfl (by kernel_rfl) hM252 (P_move (vi i2) rfl) ?_
      obtain ⟨hb254, H⟩ := H
      refine M_cuts 3 rfl (by kernel_rfl) hM252 Try.underlying33 se33 A1 n2 c3 base_ rfl (h89.st (.new _ g251)) o2 i2 rfl rfl hb254 fun A255 n256 c257 h258 => ?_
      refine M_pu 4 rfl (by kernel_rfl) hM252 (P_move (.slice A6 n7 c8) rfl) ?_
      refine M_pu 5 rfl (by kernel_rfl) hM252 (P_move (vi x2) rfl) ?_
      refine M_pu 6 rfl (by kernel_rfl) hM252 (P_move (vi (a.length : Int)) rfl) ?_
      obtain ⟨hb260, H⟩ := H
      refine M_cuts 7 rfl (by kernel_rfl) hM252 Try.underlying33 se33 A6 n7 c8 a rfl (h90.st (.new _ g251)) x2 (a.length : Int) rfl rfl hb260 fun A261 n262 c263 h264 => ?_
      refine M_pu 8 rfl (by kernel_rfl) hM252 (P_move (.slice A11 n12 c13) rfl) ?_
      refine M_pu 9 rfl (by kernel_rfl) hM252 (P_move (vi y2) rfl) ?_
      refine M_pu 10 rfl (by kernel_rfl) hM252 (P_move (vi (b.length : Int)) rfl) ?_
      obtain ⟨hb266, H⟩ := H
      refine M_cuts 11 rfl (by kernel_rfl) hM252 Try.underlying33 se33 A11 n12 c13 b rfl (h91.st (.new _ g251)) y2 (b.length : Int) rfl rfl hb266 fun A267 n268 c269 h270 => ?_
      refine M_any1 12 (by kernel_rfl) rfl ?_
      refine L_call go61 [.slice A255 n256 c257, .slice A261 n262 c263, .slice A267 n268 c269] rfl ((spec_l5Pick.calls w250 hc253.ok ((base_.drop o2.toNat).take (i2.toNat - o2.toNat)) A255 n256 c257 h258 ((a.drop x2.toNat).take ((a.length : Int).toNat - x2.toNat)) A261 n262 c263 h264 ((b.drop y2.toNat).take ((b.length : Int).toNat - y2.toNat)) A267 n268 c269 h270 _ H).mono ?_)
      rintro _ w272 ⟨r7, r8, A274, n275, c276, rfl, H, g273, h277⟩
      have hc281 := hc253.k0 g273
      have hM282 := Gr.tm hM252 g273
      refine L_nil ⟨hM282, ?_⟩
      refine M_pu 13 rfl (by kernel_rfl) hM282 (P_move (.tuple #[.slice A274 n275 c276, vb r8]) rfl) ?_
      refine M_pu 14 rfl (by kernel_rfl) hM282 (P_ext [.slice A274 n275 c276, vb r8] 0 (.slice A274 n275 c276) rfl rfl) ?_
      refine M_pu 15 rfl (by kernel_rfl) hM282 (P_ext [.slice A274 n275 c276, vb r8] 1 (vb r8) rfl rfl) ?_
      refine M_pu 16 rfl (by kernel_rfl) hM282 (P_assign (.slice A274 n275 c276) rfl) ?_
      refine M_pu 17 rfl (by kernel_rfl) hM282 (P_assign (vb r8) rfl) ?_
      refine M_nil (by kernel_rfl) ?_
      refine W_seq ?_
      refine W_seq ?_
      refine W_reg ?_
      refine L_pu (P_move (vb r8) rfl) ?_
      refine L_pu (P_not r8 rfl) ?_
      refine L_nil ?_
      refine W_cond (!r8) rfl (fun hq284 => ?_) (fun hq284 => ?_)
      · have H := ite_t H hq284
        refine W_seq ?_
        refine W_reg ?_
        refine L_pu (P_assign (.slice none 0 0) rfl) ?_
        refine L_pu (P_assign (vb false) rfl) ?_
        refine L_nil ?_
        refine W_ret ?_
        have hc286 := hc281.own (Gr.refl _ none) none (by simp)
        have h287 : Ow kPt 41 w272 ([blk (.slice none 0 0), blk (.slice A84 n85 c86), blk (.slice A29 n30 c31), blk (.slice A18 n19 c20)] ++ O) (.slice none 0 0) [] := Ow.nil _ _ _ _
        have hc288 := hc286.drop 1 rfl
        have hc289 := hc288.drop 1 rfl
        have hc290 := hc289.drop 1 rfl
        have h291 := (Ow.sd (L := [blk (.slice none 0 0), blk (.slice A18 n19 c20)]) (O := O) (Ow.sd (L := [blk (.slice none 0 0), blk (.slice A29 n30 c31), blk (.slice A18 n19 c20)]) (O := O) (Ow.sd (L := [blk (.slice none 0 0), blk (.slice A84 n85 c86), blk (.slice A29 n30 c31), blk (.slice A18 n19 c20)]) (O := O) h287 (i := 0) rfl (j := 1) rfl (by decide)) (i := 0) rfl (j := 1) rfl (by decide)) (i := 0) rfl (j := 1) rfl (by decide))
        exact ⟨[.slice none 0 0, vb false], ⟨_, rfl, ⟨_, rfl, rfl⟩⟩, ([] : List Pt), false, none, 0, 0, rfl, H, hc290.gr, hc290.ok, hc290.ge, h291⟩
      · have H := ite_f H hq284
        refine W_skip ?_
        refine W_seq ?_
        refine W_reg ?_
        refine L_pu (P_move (.slice A84 n85 c86) rfl) ?_
        refine L_pu (P_move (.slice A274 n275 c276) rfl) ?_
        obtain ⟨hb292, H⟩ := H
        have h293 := ((h94.sn g251).sn g273)
        refine L_app ei33 hc281 (.slice A84 n85 c86) xs2 r7 rfl h293 (.slice A274 n275 c276) rfl h277.sx 0 rfl hb292 fun w294 A295 n296 c297 g298 s299 hc300 h301 => ?_
        refine L_pu (P_assign (.slice A295 n296 c297) rfl) ?_
        refine L_nil ?_
        refine W_seq ?_
        refine W_seq ?_
        refine W_reg ?_
        refine L_pu (P_move (vi i2) rfl) ?_
        refine L_pu (P_move (.slice A1 n2 c3) rfl) ?_
        have h303 := (((h89.st (.new _ g251)).st (.new _ g273)).st s299)
        refine L_pu (P_len Try.underlying33 A1 n2 c3 h303.len rfl) ?_
        refine L_pu (P_cmp i2 (base_.length : Int) (decide (i2 < (base_.length : Int))) rfl rfl rfl) ?_
        refine L_nil ?_
        refine W_cf (b := decide (i2 < (base_.length : Int))) rfl hq107 ?_
        refine W_skip ?_
        refine W_seq ?_
        refine W_reg ?_
        refine L_pu (P_move (vi i2) rfl) ?_
        obtain ⟨hb304, H⟩ := H
        have hi305 := hb304 (len_le hl103) (len_le hl105) (len_le hl106)
        refine L_pu (P_add i2 1 rfl rfl hi305) ?_
        refine L_pu (P_assign (vi (i2 + 1)) rfl) ?_
        refine L_nil ?_
        refine W_seq ?_
        refine W_reg ?_
        refine L_pu (P_move (vi (a.length : Int)) rfl) ?_
        obtain ⟨hb306, H⟩ := H
        have hi307 := hb306 (len_le hl103) (len_le hl105) (len_le hl106)
        refine L_pu (P_add (a.length : Int) 1 rfl rfl hi307) ?_
        refine L_pu (P_assign (vi ((a.length : Int) + 1)) rfl) ?_
        refine L_nil ?_
        refine W_reg ?_
        refine L_pu (P_move (vi (b.length : Int)) rfl) ?_
        obtain ⟨hb308, H⟩ := H
        have hi309 := hb308 (len_le hl103) (len_le hl105) (len_le hl106)
        refine L_pu (P_add (b.length : Int) 1 rfl rfl hi309) ?_
        refine L_pu (P_assign (vi ((b.length : Int) + 1)) rfl) ?_
        refine L_nil ?_
        refine W_reg ?_
        refine L_pu (P_move (vi i2) rfl) ?_
        obtain ⟨hb310, H⟩ := H
        have hi311 := hb310 (len_le hl103) (len_le hl105) (len_le hl106)
        refine L_pu (P_add i2 1 rfl rfl hi311) ?_
        refine L_pu (P_assign (vi (i2 + 1)) rfl) ?_
        refine L_nil ?_
        obtain ⟨hI312, hm313⟩ := H
        have h314 := (((h90.st (.new _ g251)).st (.new _ g273)).st s299)
        have h315 := (((h91.st (.new _ g251)).st (.new _ g273)).st s299)
        have h316 := (Ow.sm (L := [blk (.slice A84 n85 c86), blk (.slice A29 n30 c31), blk (.slice A18 n19 c20)]) (O := O) ((h92.sn g251).sn g273) hc281 (i := 2) rfl (j := 0) rfl (by decide) g298 s299)
        have h317 := (Ow.sm (L := [blk (.slice A84 n85 c86), blk (.slice A29 n30 c31), blk (.slice A18 n19 c20)]) (O := O) ((h93.sn g251).sn g273) hc281 (i := 1) rfl (j := 0) rfl (by decide) g298 s299)
        exact ⟨((xs2 ++ r7), A295, n296, c297, i2 + 1, (a.length : Int) + 1, (b.length : Int) + 1, i2 + 1), hm313, hI312, ⟨rfl, rfl, rfl, rfl, rfl, rfl, rfl, rfl, rfl, rfl, trivial⟩, hc300, h303, h314, h315, h316, h317, h301⟩
  · have H := ite_f H hq104
    refine W_exit (xin_hit ?_)
    refine W_seq ?_
    refine W_reg ?_
    refine L_pu (P_move (.slice A84 n85 c86) rfl) ?_
    refine L_pu (P_assign (.slice A84 n85 c86) rfl) ?_
    refine L_pu (P_assign (vb true) rfl) ?_
    refine L_nil ?_
    refine W_ret ?_
    have hc318 := hc88.drop 1 rfl
    have hc319 := hc318.drop 1 rfl
    have h320 := (Ow.sd (L := [blk (.slice A84 n85 c86), blk (.slice A18 n19 c20)]) (O := O) (Ow.sd (L := [blk (.slice A84 n85 c86), blk (.slice A29 n30 c31), blk (.slice A18 n19 c20)]) (O := O) h94 (i := 0) rfl (j := 1) rfl (by decide)) (i := 0) rfl (j := 1) rfl (by decide))
    exact ⟨[.slice A84 n85 c86, vb true], ⟨_, rfl, ⟨_, rfl, rfl⟩⟩, xs2, true, A84, n85, c86, rfl, H, hc319.gr, hc319.ok, hc319.ge, h320⟩
end Go.Proofs.Ytnliofcjplnboaa

namespace Go.Proofs.Ytnliofcjplnboaa
set_option linter.unusedVariables false
set_option linter.unusedSimpArgs false
theorem mate_part {o a : List Pt} (h : few o a = true) (t : Nat) : mateI (spairs o a) (t : Int) = match part o a t with | some x => (x : Int) | none => -1 := by
  rw [spairs_few h, mateI_mk]; rfl
structure MInv (o a b : List Pt) (xs : List Pt) (i j k t : Nat) : Prop where
  hi : i ≤ t
  ht : t ≤ o.length
  hj : j ≤ a.length
  hk : k ≤ b.length
  fj : From (part o a) t j
  fk : From (part o b) t k
  len : xs.length ≤ j + k
  eq : (mloop o a b (part o a) (part o b) (o.length - t) t i j k).map (xs ++ ·) = smerge o a b
theorem MInv.zero {o a b : List Pt} (h1 : few o a = true) (h2 : few o b = true) : MInv o a b [] 0 0 0 0 :=
  ⟨Nat.le_refl _, Nat.zero_le _, Nat.zero_le _, Nat.zero_le _, From.zero _ _, From.zero _ _, Nat.le_refl _, by rw [smerge_few h1 h2, Nat.sub_zero]; cases mloop o a b (part o a) (part o b) o.length 0 0 0 0 <;> rfl⟩
theorem MInv.skip {o a b xs : List Pt} {i j k t : Nat} (h : MInv o a b xs i j k t) (ht : t < o.length) (hn : part o a t = none ∨ part o b t = none) : MInv o a b xs i j k (t + 1) :=
  ⟨by have := h.hi; omega, ht, h.hj, h.hk, h.fj.skip, h.fk.skip, h.len, by
    have := h.eq
    rw [show o.length - t = (o.length - (t + 1)) + 1 by omega, mloop_none hn] at this
    exact this⟩
theorem MInv.step {o a b xs : List Pt} {i j k t x y : Nat} (h : MInv o a b xs i j k t) (ht : t < o.length) (hx : part o a t = some x) (hy : part o b t = some y) {p : List Pt} (hp : pickL (seg o i t) (seg a j x) (seg b k y) = some p) : MInv o a b (xs ++ p ++ [nth o (t : Int)]) (t + 1) (x + 1) (y + 1) (t + 1) := by
  have h1 := (part_mates o a).lt hx
  have h2 := (part_mates o b).lt hy
  refine ⟨Nat.le_refl _, ht, h1.2, h2.2, .step (part_mates o a) hx, .step (part_mates o b) hy, ?_, ?_⟩
  · have := (pickL_mem hp).2.2.2
    rw [seg_len a _ _ (by omega), seg_len b _ _ (by omega)] at this
    have h3 := h.fj t x (Nat.le_refl _) hx
    have h4 := h.fk t y (Nat.le_refl _) hy
    have h5 := h.len
    simp only [List.length_append, List.length_singleton]; omega
  · have := h.eq
    rw [show o.length - t = (o.length - (t + 1)) + 1 by omega, mloop_some hx hy, hp, Option.bind_some, Option.map_map] at this
    rw [← this]
    congr 1
    funext r
    simp
theorem MInv.stop {o a b xs : List Pt} {i j k t x y : Nat} (h : MInv o a b xs i j k t) (ht : t < o.length) (hx : part o a t = some x) (hy : part o b t = some y) (hp : pickL (seg o i t) (seg a j x) (seg b k y) = none) : smerge o a b = none := by
  have := h.eq
  rw [show o.length - t = (o.length - (t + 1)) + 1 by omega, mloop_some hx hy, hp] at this
  exact this.symm
theorem MInv.last {o a b xs : List Pt} {i j k : Nat} (h : MInv o a b xs i j k o.length) : (pickL (o.drop i) (a.drop j) (b.drop k)).map (xs ++ ·) = smerge o a b := by
  have := h.eq
  rw [Nat.sub_self, mloop_zero] at this
  exact this
theorem MInv.from {o a b xs : List Pt} {i j k t x y : Nat} (h : MInv o a b xs i j k t) (hx : part o a t = some x) (hy : part o b t = some y) : j ≤ x ∧ x < a.length ∧ k ≤ y ∧ y < b.length :=
  ⟨h.fj t x (Nat.le_refl _) hx, ((part_mates o a).lt hx).2, h.fk t y (Nat.le_refl _) hy, ((part_mates o b).lt hy).2⟩
end Go.Proofs.Ytnliofcjplnboaa

namespace Go.Proofs.Ytnliofcjplnboaa
set_option linter.unusedVariables false
set_option linter.unusedSimpArgs false
theorem spec_l5Merge.law (o a b : List Pt) (Q : List Pt → Bool → Prop) (h1 : few o a = true) (h2 : few o b = true) (hs : ∀ r, smerge o a b = some r → Q r true) (hn : smerge o a b = none → Q [] false) : spec_l5Merge.E o a b Q := by
  unfold spec_l5Merge.E
  refine spec_SeqPairs.law _ _ _ (spec_SeqPairs.law _ _ _ ?_)
  have f1 := few_iff.1 h1; have f2 := few_iff.1 h2
  refine ⟨fun xs i j k t => (∃ i' j' k' t' : Nat, i = i' ∧ j = j' ∧ k = k' ∧ t = t' ∧ MInv o a b xs i' j' k' t') ∨ (t = (o.length : Int) + 1 ∧ smerge o a b = some xs), fun _ _ _ _ t => (o.length + 1 - t).toNat, .inl ⟨0, 0, 0, 0, rfl, rfl, rfl, rfl, MInv.zero h1 h2⟩, ?_⟩
  rintro xs _ _ _ _ (⟨i, j, k, t, rfl, rfl, rfl, rfl, h⟩ | ⟨rfl, h⟩)
  · have ht := h.ht; have hi := h.hi; have hj := h.hj; have hk := h.hk; have hl := h.len
    rw [if_pos (by simp; omega)]
    simp only [Int.toNat_natCast]
    by_cases ht0 : (t : Int) < (o.length : Int)
    · rw [if_pos (by simpa using ht0)]
      refine spec_l5At.law _ _ _ (spec_l5At.law _ _ _ ?_)
      rw [mate_part h1, mate_part h2]
      cases hx : part o a t with
      | none =>
        rw [if_pos (by decide)]
        exact ⟨by omega, .inl ⟨i, j, k, t + 1, rfl, rfl, rfl, rfl, h.skip (by omega) (.inl hx)⟩, by omega⟩
      | some x =>
        rw [if_neg (by simp)]
        cases hy : part o b t with
        | none =>
          rw [if_pos (by decide)]
          exact ⟨by omega, .inl ⟨i, j, k, t + 1, rfl, rfl, rfl, rfl, h.skip (by omega) (.inr hy)⟩, by omega⟩
        | some y =>
          rw [if_neg (by simp)]
          dsimp only
          obtain ⟨g1, g2, g3, g4⟩ := h.from hx hy
          refine ⟨by omega, by omega, by omega, spec_l5Pick.law _ _ _ _ (fun p hp => ?_) (fun hp => ?_)⟩
          · rw [if_neg (by simp)]
            have hm := (pickL_mem (o := seg o i t) (a := seg a j x) (b := seg b k y) hp).2.2.2
            rw [seg_len a _ _ (by omega), seg_len b _ _ (by omega)] at hm
            exact ⟨by omega, by omega, by simp only [List.length_append, List.length_singleton]; omega, by omega, fun _ _ _ => by unfold I64; omega, fun _ _ _ => by unfold I64; omega, by omega, .inl ⟨t + 1, x + 1, y + 1, t + 1, rfl, rfl, rfl, rfl, h.step (by omega) hx hy hp⟩, by omega⟩
          · rw [if_pos (by simp)]
            exact hn (h.stop (by omega) hx hy hp)
    · rw [if_neg (by simpa using ht0)]
      have : t = o.length := by omega
      subst this
      refine ⟨by omega, by omega, by omega, ?_⟩
      have hlast := h.last
      have e1 : (o.drop i).take (o.length - i) = o.drop i := seg_end o i
      have e2 : (a.drop j).take (a.length - j) = a.drop j := seg_end a j
      have e3 : (b.drop k).take (b.length - k) = b.drop k := seg_end b k
      rw [e1, e2, e3]
      refine spec_l5Pick.law _ _ _ _ (fun p hp => ?_) (fun hp => ?_)
      · rw [if_neg (by simp)]
        have hm := (pickL_mem hp).2.2.2
        rw [List.length_drop, List.length_drop] at hm
        rw [hp, Option.map_some] at hlast
        exact ⟨by omega, fun _ _ _ => by unfold I64; omega, fun _ _ _ => by unfold I64; omega, fun _ _ _ => by unfold I64; omega, fun _ _ _ => by unfold I64; omega, .inr ⟨rfl, hlast.symm⟩, by omega⟩
      · rw [if_pos (by simp)]
        rw [hp] at hlast
        exact hn hlast.symm
  · rw [if_neg (by simp; omega)]
    exact hs _ h
end Go.Proofs.Ytnliofcjplnboaa

namespace Go.Proofs.Ytnliofcjplnboaa
open Go.RowKit
set_option linter.unusedVariables false
def spec_SeqMerge.E (base_ : List Pt) (a : List Pt) (b : List Pt) (Q : List Pt → Bool → Prop) : Prop :=
  spec_l5Few.E base_ a (fun r => (if !r then Q ([] : List Pt) false else spec_l5Few.E base_ b (fun r2 => (if !r2 then Q ([] : List Pt) false else spec_l5Merge.E base_ a b (fun r3 r4 => (if !r4 then Q ([] : List Pt) false else (([] : List Pt).length + r3.length ≤ 268435456) ∧ Q (([] : List Pt) ++ r3) true))))))
set_option maxHeartbeats 8000000 in
set_option maxRecDepth 100000 in
theorem spec_SeqMerge.calls {O : Ob} (w0 : World) (hO : Ok w0 O) (base_ : List Pt) (A1 : Option Addr) (n2 c3 : Nat) (hp4 : Sl kPt w0 (Fr O) (.slice A1 n2 c3) base_) (a : List Pt) (A6 : Option Addr) (n7 c8 : Nat) (hp9 : Sl kPt w0 (Fr O) (.slice A6 n7 c8) a) (b : List Pt) (A11 : Option Addr) (n12 c13 : Nat) (hp14 : Sl kPt w0 (Fr O) (.slice A11 n12 c13) b) (Q : List Pt → Bool → Prop) (h : spec_SeqMerge.E base_ a b Q) :
    Ret Try.prog 35 [.slice A1 n2 c3, .slice A6 n7 c8, .slice A11 n12 c13] w0 (fun v w' => ∃ (r0 : List Pt) (r1 : Bool) (A0 : Option Addr) (n0 c0 : Nat), v = .tuple #[.slice A0 n0 c0, vb r1] ∧ Q r0 r1 ∧ Gr w0 w' none ∧ Ok w' ([blk (.slice A0 n0 c0)] ++ O) ∧ (∀ b, some b ∈ [blk (.slice A0 n0 c0)] → w0.heap.size ≤ b) ∧ Ow kPt 41 w' ([blk (.slice A0 n0 c0)] ++ O) (.slice A0 n0 c0) r0) := by
  have H : spec_l5Few.E base_ a (fun r => (if !r then Q ([] : List Pt) false else spec_l5Few.E base_ b (fun r2 => (if !r2 then Q ([] : List Pt) false else spec_l5Merge.E base_ a b (fun r3 r4 => (if !r4 then Q ([] : List Pt) false else (([] : List Pt).length + r3.length ≤ 268435456) ∧ Q (([] : List Pt) ++ r3) true)))))) := h
  clear h
  have hc0 := Ct.init hO
  refine Ret_enter Try.func35 rfl 34 rfl [.tmp 6, .tmp 7] rfl rfl ?_
  refine W_seq ?_
  refine W_reg ?_
  refine L_pu (P_assign (.slice none 0 0) rfl) ?_
  refine L_pu (P_assign (vb false) rfl) ?_
  refine L_nil ?_
  refine W_seq ?_
  refine W_seq ?_
  refine W_reg ?_
  refine L_pu (P_move (.slice A1 n2 c3) rfl) ?_
  refine L_pu (P_move (.slice A6 n7 c8) rfl) ?_
  refine L_call go45 [.slice A1 n2 c3, .slice A6 n7 c8] rfl ((spec_l5Few.calls w0 hc0.ok base_ A1 n2 c3 hp4 a A6 n7 c8 hp9 _ H).mono ?_)
  rintro _ w16 ⟨r, rfl, H, g17, _⟩
  have hc21 := hc0.k0 g17
  refine L_pu (P_not r rfl) ?_
  refine L_pu (P_move (vb (!r)) rfl) ?_
  rcases bool_or (!r) with hq22 | hq22
  · have H := ite_t H hq22
    refine L_pass (dj := 14) rfl rfl (.inl (by exact congrArg Value.bool hq22)) ?_
    refine L_pass (dj := 14) rfl rfl (.inl (by exact congrArg Value.bool hq22)) ?_
    refine L_pass (dj := 14) rfl rfl (.inl (by exact congrArg Value.bool hq22)) ?_
    refine L_pass (dj := 14) rfl rfl (.inl (by exact congrArg Value.bool hq22)) ?_
    refine L_pu (P_pick true (vb true) (by exact congrArg Value.bool hq22) rfl) ?_
    refine L_nil ?_
    refine W_ct (b := true) rfl rfl ?_
    refine W_seq ?_
    refine W_reg ?_
    refine L_lit (kd := kPt) ei33 hc21 ([] : List Pt) (cells := []) rfl (fun _ => by kernel_rfl) fun w23 A24 n25 c26 g27 hr28 hc29 h30 => ?_
    refine L_pu (P_assign (.slice A24 n25 c26) rfl) ?_
    refine L_pu (P_assign (vb false) rfl) ?_
    refine L_nil ?_
    refine W_ret ?_
    exact ⟨[.slice A24 n25 c26, vb false], ⟨_, rfl, ⟨_, rfl, rfl⟩⟩, ([] : List Pt), false, A24, n25, c26, rfl, H, hc29.gr, hc29.ok, hc29.ge, h30⟩
  · have H := ite_f H hq22
    refine L_run (dj := 14) rfl rfl (by exact congrArg Value.bool hq22) ?_
    refine L_pu (P_move (.slice A1 n2 c3) rfl) ?_
    refine L_run (dj := 14) rfl rfl (by exact congrArg Value.bool hq22) ?_
    refine L_pu (P_move (.slice A11 n12 c13) rfl) ?_
    refine L_run (dj := 14) rfl rfl (by exact congrArg Value.bool hq22) ?_
    refine L_call go45 [.slice A1 n2 c3, .slice A11 n12 c13] rfl ((spec_l5Few.calls w16 hc21.ok base_ A1 n2 c3 (hp4.st hc21.st) b A11 n12 c13 (hp14.st hc21.st) _ H).mono ?_)
    rintro _ w32 ⟨r2, rfl, H, g33, _⟩
    have hc37 := hc21.k0 g33
    refine L_run (dj := 14) rfl rfl (by exact congrArg Value.bool hq22) ?_
    refine L_pu (P_not r2 rfl) ?_
    refine L_pu (P_pick false (vb (!r2)) (by exact congrArg Value.bool hq22) rfl) ?_
    refine L_nil ?_
    refine W_cond (!r2) rfl (fun hq38 => ?_) (fun hq38 => ?_)
    · have H := ite_t H hq38
      refine W_seq ?_
      refine W_reg ?_
      refine L_lit (kd := kPt) ei33 hc37 ([] : List Pt) (cells := []) rfl (fun _ => by kernel_rfl) fun w39 A40 n41 c42 g43 hr44 hc45 h46 => ?_
      refine L_pu (P_assign (.slice A40 n41 c42) rfl) ?_
      refine L_pu (P_assign (vb false) rfl) ?_
      refine L_nil ?_
      refine W_ret ?_
      exact ⟨[.slice A40 n41 c42, vb false], ⟨_, rfl, ⟨_, rfl, rfl⟩⟩, ([] : List Pt), false, A40, n41, c42, rfl, H, hc45.gr, hc45.ok, hc45.ge, h46⟩
    · have H := ite_f H hq38
      refine W_skip ?_
      refine W_seq ?_
      refine W_reg ?_
      refine L_pu (P_move (.slice A1 n2 c3) rfl) ?_
      refine L_pu (P_move (.slice A6 n7 c8) rfl) ?_
      refine L_pu (P_move (.slice A11 n12 c13) rfl) ?_
      refine L_call go52 [.slice A1 n2 c3, .slice A6 n7 c8, .slice A11 n12 c13] rfl ((spec_l5Merge.calls w32 hc37.ok base_ A1 n2 c3 (hp4.st hc37.st) a A6 n7 c8 (hp9.st hc37.st) b A11 n12 c13 (hp14.st hc37.st) _ H).mono ?_)
      rintro _ w48 ⟨r3, r4, A50, n51, c52, rfl, H, g49, hk56, hk57, h53⟩
      have hc58 := hc37.owns g49 hk56 hk57
      refine L_pu (P_move (.tuple #[.slice A50 n51 c52, vb r4]) rfl) ?_
      refine L_pu (P_ext [.slice A50 n51 c52, vb r4] 0 (.slice A50 n51 c52) rfl rfl) ?_
      refine L_pu (P_ext [.slice A50 n51 c52, vb r4] 1 (vb r4) rfl rfl) ?_
      refine L_pu (P_assign (.slice A50 n51 c52) rfl) ?_
      refine L_pu (P_assign (vb r4) rfl) ?_
      refine L_nil ?_
      refine W_seq ?_
      refine W_seq ?_
      refine W_reg ?_
      refine L_pu (P_move (vb r4) rfl) ?_
      refine L_pu (P_not r4 rfl) ?_
      refine L_nil ?_
      refine W_cond (!r4) rfl (fun hq59 => ?_) (fun hq59 => ?_)
      · have H := ite_t H hq59
        refine W_seq ?_
        refine W_reg ?_
        refine L_lit (kd := kPt) ei33 hc58 ([] : List Pt) (cells := []) rfl (fun _ => by kernel_rfl) fun w60 A61 n62 c63 g64 hr65 hc66 h67 => ?_
        refine L_pu (P_assign (.slice A61 n62 c63) rfl) ?_
        refine L_pu (P_assign (vb false) rfl) ?_
        refine L_nil ?_
        refine W_ret ?_
        have hc69 := hc66.drop 1 rfl
        have h70 := (Ow.sd (L := [blk (.slice A61 n62 c63), blk (.slice A50 n51 c52)]) (O := O) h67 (i := 0) rfl (j := 1) rfl (by decide))
        exact ⟨[.slice A61 n62 c63, vb false], ⟨_, rfl, ⟨_, rfl, rfl⟩⟩, ([] : List Pt), false, A61, n62, c63, rfl, H, hc69.gr, hc69.ok, hc69.ge, h70⟩
      · have H := ite_f H hq59
        refine W_skip ?_
        refine W_seq ?_
        refine W_reg ?_
        refine L_lit (kd := kPt) ei33 hc58 ([] : List Pt) (cells := []) rfl (fun _ => by kernel_rfl) fun w71 A72 n73 c74 g75 hr76 hc77 h78 => ?_
        refine L_pu (P_move (.slice A50 n51 c52) rfl) ?_
        have h80 := (h53.so _ g75 hr76)
        obtain ⟨hb81, H⟩ := H
        refine L_app ei33 hc77 (.slice A72 n73 c74) ([] : List Pt) r3 rfl h78 (.slice A50 n51 c52) rfl h80.sx 0 rfl hb81 fun w82 A83 n84 c85 g86 s87 hc88 h89 => ?_
        refine L_pu (P_assign (.slice A83 n84 c85) rfl) ?_
        refine L_pu (P_assign (vb true) rfl) ?_
        refine L_nil ?_
        refine W_ret ?_
        have hc91 := hc88.drop 1 rfl
        have h92 := (Ow.sd (L := [blk (.slice A83 n84 c85), blk (.slice A50 n51 c52)]) (O := O) h89 (i := 0) rfl (j := 1) rfl (by decide))
        exact ⟨[.slice A83 n84 c85, vb true], ⟨_, rfl, ⟨_, rfl, rfl⟩⟩, (([] : List Pt) ++ r3), true, A83, n84, c85, rfl, H, hc91.gr, hc91.ok, hc91.ge, h92⟩
end Go.Proofs.Ytnliofcjplnboaa

namespace Go.Proofs.Ytnliofcjplnboaa
set_option linter.unusedVariables false
set_option linter.unusedSimpArgs false
def few3 (o a b : List Pt) : Bool := few o a && few o b
theorem spec_SeqMerge.law (o a b : List Pt) (Q : List Pt → Bool → Prop) (hs : ∀ r, smerge o a b = some r → Q r true) (hn : smerge o a b = none → Q [] false) : spec_SeqMerge.E o a b Q := by
  unfold spec_SeqMerge.E
  refine spec_l5Few.law _ _ _ ?_
  by_cases h1 : few o a = true
  · rw [h1, if_neg (by simp)]
    refine spec_l5Few.law _ _ _ ?_
    by_cases h2 : few o b = true
    · rw [h2, if_neg (by simp)]
      refine spec_l5Merge.law _ _ _ _ h1 h2 (fun r hr => ?_) (fun hr => ?_)
      · rw [if_neg (by simp), List.nil_append]
        have := smerge_len hr
        exact ⟨by simp only [List.length_nil]; omega, hs _ hr⟩
      · rw [if_pos (by simp)]; exact hn hr
    · rw [if_pos (by simpa using h2)]
      exact hn (smerge_not (.inr (by simpa using h2)))
  · rw [if_pos (by simpa using h1)]
    exact hn (smerge_not (.inl (by simpa using h1)))
end Go.Proofs.Ytnliofcjplnboaa

namespace Go.Proofs.Ytnliofcjplnboaa
open Go.RowKit
set_option linter.unusedVariables false
def impl_lengths.E (a : List Pt) (b : List Pt) (Q : List (List Int) → Prop) : Prop :=
  ((a.length : Int) ≤ 9223372036854775807 → I64 ((a.length : Int) + 1)) ∧ ((0 : Int) ≤ (a.length : Int) + 1 ∧ (a.length : Int) + 1 ≤ (268435456 : Int)) ∧ (∃ (I59 : (List (List Int)) → Int → Prop) (mu60 : (List (List Int)) → Int → Nat), I59 (List.replicate ((a.length : Int) + 1).toNat ([] : List Int)) 0 ∧ ∀ (xs2 : List (List Int)) (v2 : Int), I59 xs2 v2 → (if decide (v2 < ((List.replicate ((a.length : Int) + 1).toNat ([] : List Int)).length : Int)) then ((b.length : Int) ≤ 9223372036854775807 → I64 ((b.length : Int) + 1)) ∧ ((0 : Int) ≤ (b.length : Int) + 1 ∧ (b.length : Int) + 1 ≤ (268435456 : Int)) ∧ ((0 : Int) ≤ v2 ∧ v2 < (xs2.length : Int)) ∧ ((b.length : Int) ≤ 9223372036854775807 → I64 (v2 + 1)) ∧ I59 (xs2.set v2.toNat (List.replicate ((b.length : Int) + 1).toNat (0 : Int))) (v2 + 1) ∧ mu60 (xs2.set v2.toNat (List.replicate ((b.length : Int) + 1).toNat (0 : Int))) (v2 + 1) < mu60 xs2 v2 else ((a.length : Int) ≤ 9223372036854775807 → I64 ((a.length : Int) - 1)) ∧ (∃ (I146 : (List (List Int)) → Int → Prop) (mu147 : (List (List Int)) → Int → Nat), I146 xs2 ((a.length : Int) - 1) ∧ ∀ (xs4 : List (List Int)) (i2 : Int), I146 xs4 i2 → (if decide (i2 ≥ 0) then ((b.length : Int) ≤ 9223372036854775807 → I64 ((b.length : Int) - 1)) ∧ (∃ (I188 : (List (List Int)) → Int → Prop) (mu189 : (List (List Int)) → Int → Nat), I188 xs4 ((b.length : Int) - 1) ∧ ∀ (xs6 : List (List Int)) (j2 : Int), I188 xs6 j2 → (if decide (j2 ≥ 0) then ((0 : Int) ≤ i2 ∧ i2 < (a.length : Int)) ∧ ((0 : Int) ≤ j2 ∧ j2 < (b.length : Int)) ∧ (if eqPt (nth a i2) (nth b j2) then ((0 : Int) ≤ i2 ∧ i2 < (xs6.length : Int)) ∧ (I64 (i2 + 1)) ∧ ((0 : Int) ≤ i2 + 1 ∧ i2 + 1 < (xs6.length : Int)) ∧ (I64 (j2 + 1)) ∧ ((0 : Int) ≤ j2 + 1 ∧ j2 + 1 < ((nth xs6 (i2 + 1)).length : Int)) ∧ (I64 ((nth (nth xs6 (i2 + 1)) (j2 + 1)) + 1)) ∧ ((0 : Int) ≤ j2 ∧ j2 < ((nth xs6 i2).length : Int)) ∧ (I64 (j2 - 1)) ∧ I188 (xs6.set i2.toNat ((nth xs6 i2).set j2.toNat ((nth (nth xs6 (i2 + 1)) (j2 + 1)) + 1))) (j2 - 1) ∧ mu189 (xs6.set i2.toNat ((nth xs6 i2).set j2.toNat ((nth (nth xs6 (i2 + 1)) (j2 + 1)) + 1))) (j2 - 1) < mu189 xs6 j2 else ((0 : Int) ≤ i2 ∧ i2 < (xs6.length : Int)) ∧ (I64 (i2 + 1)) ∧ ((0 : Int) ≤ i2 + 1 ∧ i2 + 1 < (xs6.length : Int)) ∧ ((0 : Int) ≤ j2 ∧ j2 < ((nth xs6 (i2 + 1)).length : Int)) ∧ ((0 : Int) ≤ i2 ∧ i2 < (xs6.length : Int)) ∧ (I64 (j2 + 1)) ∧ ((0 : Int) ≤ j2 + 1 ∧ j2 + 1 < ((nth xs6 i2).length : Int)) ∧ ((0 : Int) ≤ j2 ∧ j2 < ((nth xs6 i2).length : Int)) ∧ (I64 (j2 - 1)) ∧ I188 (xs6.set i2.toNat ((nth xs6 i2).set j2.toNat (max (nth (nth xs6 (i2 + 1)) j2) (nth (nth xs6 i2) (j2 + 1))))) (j2 - 1) ∧ mu189 (xs6.set i2.toNat ((nth xs6 i2).set j2.toNat (max (nth (nth xs6 (i2 + 1)) j2) (nth (nth xs6 i2) (j2 + 1))))) (j2 - 1) < mu189 xs6 j2) else (I64 (i2 - 1)) ∧ I146 xs6 (i2 - 1) ∧ mu147 xs6 (i2 - 1) < mu147 xs4 i2)) else Q xs4))))
set_option maxHeartbeats 8000000 in
set_option maxRecDepth 100000 in
theorem impl_lengths.calls {O : Ob} (w0 : World) (hO : Ok w0 O) (a : List Pt) (A1 : Option Addr) (n2 c3 : Nat) (hp4 : Sl kPt w0 (Fr O) (.slice A1 n2 c3) a) (b : List Pt) (A6 : Option Addr) (n7 c8 : Nat) (hp9 : Sl kPt w0 (Fr O) (.slice A6 n7 c8) b) (Q : List (List Int) → Prop) (h : impl_lengths.E a b Q) :
    Ret Try.prog 48 [.slice A1 n2 c3, .slice A6 n7 c8] w0 (fun v w' => ∃ (r0 : List (List Int)) (A0 : Option Addr) (n0 c0 : Nat), v = .slice A0 n0 c0 ∧ Q r0 ∧ Gr w0 w' none ∧ Sl (Kd.sl (Kd.int .i64)) w' (Fr O) (.slice A0 n0 c0) r0) := by
  have H : ((a.length : Int) ≤ 9223372036854775807 → I64 ((a.length : Int) + 1)) ∧ ((0 : Int) ≤ (a.length : Int) + 1 ∧ (a.length : Int) + 1 ≤ (268435456 : Int)) ∧ (∃ (I59 : (List (List Int)) → Int → Prop) (mu60 : (List (List Int)) → Int → Nat), I59 (List.replicate ((a.length : Int) + 1).toNat ([] : List Int)) 0 ∧ ∀ (xs2 : List (List Int)) (v2 : Int), I59 xs2 v2 → (if decide (v2 < ((List.replicate ((a.length : Int) + 1).toNat ([] : List Int)).length : Int)) then ((b.length : Int) ≤ 9223372036854775807 → I64 ((b.length : Int) + 1)) ∧ ((0 : Int) ≤ (b.length : Int) + 1 ∧ (b.length : Int) + 1 ≤ (268435456 : Int)) ∧ ((0 : Int) ≤ v2 ∧ v2 < (xs2.length : Int)) ∧ ((b.length : Int) ≤ 9223372036854775807 → I64 (v2 + 1)) ∧ I59 (xs2.set v2.toNat (List.replicate ((b.length : Int) + 1).toNat (0 : Int))) (v2 + 1) ∧ mu60 (xs2.set v2.toNat (List.replicate ((b.length : Int) + 1).toNat (0 : Int))) (v2 + 1) < mu60 xs2 v2 else ((a.length : Int) ≤ 9223372036854775807 → I64 ((a.length : Int) - 1)) ∧ (∃ (I146 : (List (List Int)) → Int → Prop) (mu147 : (List (List Int)) → Int → Nat), I146 xs2 ((a.length : Int) - 1) ∧ ∀ (xs4 : List (List Int)) (i2 : Int), I146 xs4 i2 → (if decide (i2 ≥ 0) then ((b.length : Int) ≤ 9223372036854775807 → I64 ((b.length : Int) - 1)) ∧ (∃ (I188 : (List (List Int)) → Int → Prop) (mu189 : (List (List Int)) → Int → Nat), I188 xs4 ((b.length : Int) - 1) ∧ ∀ (xs6 : List (List Int)) (j2 : Int), I188 xs6 j2 → (if decide (j2 ≥ 0) then ((0 : Int) ≤ i2 ∧ i2 < (a.length : Int)) ∧ ((0 : Int) ≤ j2 ∧ j2 < (b.length : Int)) ∧ (if eqPt (nth a i2) (nth b j2) then ((0 : Int) ≤ i2 ∧ i2 < (xs6.length : Int)) ∧ (I64 (i2 + 1)) ∧ ((0 : Int) ≤ i2 + 1 ∧ i2 + 1 < (xs6.length : Int)) ∧ (I64 (j2 + 1)) ∧ ((0 : Int) ≤ j2 + 1 ∧ j2 + 1 < ((nth xs6 (i2 + 1)).length : Int)) ∧ (I64 ((nth (nth xs6 (i2 + 1)) (j2 + 1)) + 1)) ∧ ((0 : Int) ≤ j2 ∧ j2 < ((nth xs6 i2).length : Int)) ∧ (I64 (j2 - 1)) ∧ I188 (xs6.set i2.toNat ((nth xs6 i2).set j2.toNat ((nth (nth xs6 (i2 + 1)) (j2 + 1)) + 1))) (j2 - 1) ∧ mu189 (xs6.set i2.toNat ((nth xs6 i2).set j2.toNat ((nth (nth xs6 (i2 + 1)) (j2 + 1)) + 1))) (j2 - 1) < mu189 xs6 j2 else ((0 : Int) ≤ i2 ∧ i2 < (xs6.length : Int)) ∧ (I64 (i2 + 1)) ∧ ((0 : Int) ≤ i2 + 1 ∧ i2 + 1 < (xs6.length : Int)) ∧ ((0 : Int) ≤ j2 ∧ j2 < ((nth xs6 (i2 + 1)).length : Int)) ∧ ((0 : Int) ≤ i2 ∧ i2 < (xs6.length : Int)) ∧ (I64 (j2 + 1)) ∧ ((0 : Int) ≤ j2 + 1 ∧ j2 + 1 < ((nth xs6 i2).length : Int)) ∧ ((0 : Int) ≤ j2 ∧ j2 < ((nth xs6 i2).length : Int)) ∧ (I64 (j2 - 1)) ∧ I188 (xs6.set i2.toNat ((nth xs6 i2).set j2.toNat (max (nth (nth xs6 (i2 + 1)) j2) (nth (nth xs6 i2) (j2 + 1))))) (j2 - 1) ∧ mu189 (xs6.set i2.toNat ((nth xs6 i2).set j2.toNat (max (nth (nth xs6 (i2 + 1)) j2) (nth (nth xs6 i2) (j2 + 1))))) (j2 - 1) < mu189 xs6 j2) else (I64 (i2 - 1)) ∧ I146 xs6 (i2 - 1) ∧ mu147 xs6 (i2 - 1) < mu147 xs4 i2)) else Q xs4)))) := h
  clear h
  have hc0 := Ct.init hO
  refine Ret_enter Try.func48 rfl 89 rfl [.tmp 4] rfl rfl ?_
  refine W_seq ?_
  refine W_reg ?_
  refine L_pu (P_assign (.slice none 0 0) rfl) ?_
  refine L_nil ?_
  refine W_seq ?_
  refine W_reg ?_
  refine L_pu (P_move (.slice A1 n2 c3) rfl) ?_
  have hl11 := hp4.le
  refine L_pu (P_len Try.underlying33 A1 n2 c3 hp4.len rfl) ?_
  obtain ⟨hb12, H⟩ := H
  have hi13 := hb12 (len_le hl11)
  refine L_pu (P_add (a.length : Int) 1 rfl rfl hi13) ?_
  obtain ⟨hb14, H⟩ := H
  refine L_make (kd := Kd.raw) ei66 hc0 (.slice none 0 0 : Value) ⟨rfl, rfl⟩ ((a.length : Int) + 1) rfl rfl hb14 fun w15 A16 n17 c18 g19 hr20 hc21 h22 => ?_
  have h25 : Tb (Kd.int .i64) 65 3 w15 _ _ _ (List.replicate ((a.length : Int) + 1).toNat []) := h22.nones
  have hc24 := hc21.nones ((a.length : Int) + 1).toNat
  refine L_pu (P_assign (.slice A16 n17 c18) rfl) ?_
  refine L_nil ?_
  refine W_seq ?_
  refine W_seq ?_
  refine W_reg ?_
  refine L_pu (P_move (.slice A16 n17 c18) rfl) ?_
  have hl26 := h25.le
  refine L_pu (P_len Try.underlying66 A16 n17 c18 h25.len rfl) ?_
  refine L_pu (P_move (vi 0) rfl) ?_
  refine L_nil ?_
  refine W_block ?_
  obtain ⟨I59, mu60, hI61, H⟩ := H
  refine W_loop (α := (List (List Int)) × (List Value) × Int) (fun (s : (List (List Int)) × (List Value) × Int) t w47 => match s with | (xs2, vs54, v2) => I59 xs2 v2 ∧ Has t [(0, .slice A1 n2 c3), (1, .slice A6 n7 c8), (5, .slice A16 n17 c18), (14, vi ((List.replicate ((a.length : Int) + 1).toNat ([] : List Int)).length : Int)), (15, vi v2)] ∧ Ct none w0 w47 (blk (.slice A16 n17 c18) :: (vs54).map blk) O ∧ Sl kPt w47 (Fr ((blk (.slice A16 n17 c18) :: (vs54).map blk) ++ O)) (.slice A1 n2 c3) a ∧ Sl kPt w47 (Fr ((blk (.slice A16 n17 c18) :: (vs54).map blk) ++ O)) (.slice A6 n7 c8) b ∧ Tb (Kd.int .i64) 65 3 w47 ((blk (.slice A16 n17 c18) :: (vs54).map blk) ++ O) (.slice A16 n17 c18) vs54 xs2) (fun (s : (List (List Int)) × (List Value) × Int) => match s with | (xs2, _, v2) => mu60 xs2 v2) ((List.replicate ((a.length : Int) + 1).toNat ([] : List Int)), (List.replicate ((a.length : Int) + 1).toNat (Value.slice none 0 0)), 0) ⟨hI61, ⟨rfl, rfl, rfl, rfl, rfl, trivial⟩, hc24, (hp4.st hc24.st), (hp9.st hc24.st), h25⟩ ?_
  rintro ⟨xs2, vs54, v2⟩ _ w47 ⟨hI61, hh63, hc55, h56, h57, h58⟩
  obtain ⟨u64, rfl⟩ := Has.ins hh63
  have H := H xs2 v2 hI61
  refine W_seq ?_
  refine W_reg ?_
  refine L_pu (P_cmp v2 ((List.replicate ((a.length : Int) + 1).toNat ([] : List Int)).length : Int) (decide (v2 < ((List.replicate ((a.length : Int) + 1).toNat ([] : List Int)).length : Int))) rfl rfl rfl) ?_
  refine L_nil ?_
  refine W_seq ?_
  refine W_cond (decide (v2 < ((List.replicate ((a.length : Int) + 1).toNat ([] : List Int)).length : Int))) rfl (fun hq65 => ?_) (fun hq65 => ?_)
  · have H := ite_t H hq65
    refine W_skip ?_
    refine W_seq ?_
    refine W_block ?_
    refine W_seq ?_
    refine W_reg ?_
    refine L_pu (P_move (vi v2) rfl) ?_
    refine L_pu (P_assign (vi v2) rfl) ?_
    refine L_nil ?_
    refine W_reg ?_
    refine L_pu (P_move (.slice A16 n17 c18) rfl) ?_
    refine L_pu (P_move (vi v2) rfl) ?_
    refine L_pu (P_move (.slice A6 n7 c8) rfl) ?_
    have hl66 := h57.le
    refine L_pu (P_len Try.underlying33 A6 n7 c8 h57.len rfl) ?_
    obtain ⟨hb67, H⟩ := H
    have hi68 := hb67 (len_le hl66)
    refine L_pu (P_add (b.length : Int) 1 rfl rfl hi68) ?_
    obtain ⟨hb69, H⟩ := H
    refine L_make (kd := (Kd.int .i64)) ei65 hc55 (0 : Int) (rfl) ((b.length : Int) + 1) rfl rfl hb69 fun w70 A71 n72 c73 g74 hr75 hc76 h77 => ?_
    obtain ⟨hb79, H⟩ := H
    have h91 := (h58.own _ g74 hr75)
    obtain ⟨ad80, A86, n87, c88, hA82, hv89, hcl84, h90⟩ := h91.get v2 hb79
    refine L_pu (P_ia Try.underlying66 se66 A16 ad80 n17 c18 h91.len v2 rfl hA82 rfl hb79) ?_
    have hl95 : (0 : Int) ≤ v2 ∧ v2 < ((vs54).length : Int) := by rw [h91.2.1]; exact hb79
    obtain ⟨ad98, cs99, hA100, hR101, hcl97⟩ := h91.1.get (default : Value) (by decide) v2 hl95
    obtain rfl := Option.some.inj (hA82.symm.trans hA100)
    refine L_ste0 A16 n17 c18 vs54 h91.1 v2 hl95 ad80 hA82 0 rfl [.slice A71 n72 c73] rfl sz65 rfl (.slice A71 n72 c73) _ [.slice A71 n72 c73] hcl97 (by rw [hR101.1]; rfl) (by rw [hR101.1]; rfl) ⟨rfl, rfl⟩ fun w92 g93 h94 => ?_
    have h102 := Tb.sto (O := O) h91 hc76 h77 v2 hb79 g93 h94
    have hc103 := Ct.sto hc76 v2 hl95 g93
    have s104 := St.sto (u := (.slice A71 n72 c73)) (vs := vs54) (O := O) v2 g93
    refine L_nil ?_
    refine W_reg ?_
    obtain ⟨hb105, H⟩ := H
    have hi106 := hb105 (len_le hl66)
    refine L_pu (P_add v2 1 rfl rfl hi106) ?_
    refine L_pu (P_move (vi (v2 + 1)) rfl) ?_
    refine L_nil ?_
    obtain ⟨hI107, hm108⟩ := H
    have h109 := ((h56.st (.own _ _ g74 hr75)).st s104)
    have h110 := ((h57.st (.own _ _ g74 hr75)).st s104)
    exact ⟨((xs2.set v2.toNat (List.replicate ((b.length : Int) + 1).toNat (0 : Int))), (vs54.set v2.toNat (.slice A71 n72 c73)), v2 + 1), hm108, hI107, ⟨rfl, rfl, rfl, rfl, rfl, trivial⟩, hc103, h109, h110, h102⟩
  · have H := ite_f H hq65
    refine W_exit (xin_hit ?_)
    refine W_seq ?_
    refine W_seq ?_
    refine W_reg ?_
    refine L_pu (P_move (.slice A1 n2 c3) rfl) ?_
    have hl111 := h56.le
    refine L_pu (P_len Try.underlying33 A1 n2 c3 h56.len rfl) ?_
    obtain ⟨hb112, H⟩ := H
    have hi113 := hb112 (len_le hl111)
    refine L_pu (P_sub (a.length : Int) 1 rfl rfl hi113) ?_
    refine L_pu (P_assign (vi ((a.length : Int) - 1)) rfl) ?_
    refine L_nil ?_
    refine W_block ?_
    obtain ⟨I146, mu147, hI148, H⟩ := H
    refine W_loop (α := (List (List Int)) × (List Value) × (Option Addr) × Nat × Nat × Int) (fun (s : (List (List Int)) × (List Value) × (Option Addr) × Nat × Nat × Int) t w134 => match s with | (xs4, vs141, A137, n138, c139, i2) => I146 xs4 i2 ∧ Has t [(0, .slice A1 n2 c3), (1, .slice A6 n7 c8), (5, .slice A137 n138 c139), (7, vi i2)] ∧ Ct none w0 w134 (blk (.slice A137 n138 c139) :: (vs141).map blk) O ∧ Sl kPt w134 (Fr ((blk (.slice A137 n138 c139) :: (vs141).map blk) ++ O)) (.slice A1 n2 c3) a ∧ Sl kPt w134 (Fr ((blk (.slice A137 n138 c139) :: (vs141).map blk) ++ O)) (.slice A6 n7 c8) b ∧ Tb (Kd.int .i64) 65 3 w134 ((blk (.slice A137 n138 c139) :: (vs141).map blk) ++ O) (.slice A137 n138 c139) vs141 xs4) (fun (s : (List (List Int)) × (List Value) × (Option Addr) × Nat × Nat × Int) => match s with | (xs4, _, _, _, _, i2) => mu147 xs4 i2) (xs2, vs54, A16, n17, c18, (a.length : Int) - 1) ⟨hI148, ⟨rfl, rfl, rfl, rfl, trivial⟩, hc55, h56, h57, h58⟩ ?_
    rintro ⟨xs4, vs141, A137, n138, c139, i2⟩ _ w134 ⟨hI148, hh150, hc142, h143, h144, h145⟩
    obtain ⟨u151, rfl⟩ := Has.ins hh150
    have H := H xs4 i2 hI148
    refine W_seq ?_
    refine W_seq ?_
    refine W_reg ?_
    refine L_pu (P_move (vi i2) rfl) ?_
    refine L_pu (P_cmp i2 0 (decide (i2 ≥ 0)) rfl rfl rfl) ?_
    refine L_nil ?_
    refine W_cond (decide (i2 ≥ 0)) rfl (fun hq152 => ?_) (fun hq152 => ?_)
    · have H := ite_t H hq152
      refine W_skip ?_
      refine W_seq ?_
      refine W_block ?_
      refine W_seq ?_
      refine W_reg ?_
      refine L_pu (P_move (.slice A6 n7 c8) rfl) ?_
      have hl153 := h144.le
      refine L_pu (P_len Try.underlying33 A6 n7 c8 h144.len rfl) ?_
      obtain ⟨hb154, H⟩ := H
      have hi155 := hb154 (len_le hl153)
      refine L_pu (P_sub (b.length : Int) 1 rfl rfl hi155) ?_
      refine L_pu (P_assign (vi ((b.length : Int) - 1)) rfl) ?_
      refine L_nil ?_
      refine W_block ?_
      obtain ⟨I188, mu189, hI190, H⟩ := H
      refine W_loop (α := (List (List Int)) × (List Value) × Int) (fun (s : (List (List Int)) × (List Value) × Int) t w176 => match s with | (xs6, vs183, j2) => I188 xs6 j2 ∧ Has t [(0, .slice A1 n2 c3), (1, .slice A6 n7 c8), (5, .slice A137 n138 c139), (7, vi i2), (8, vi j2)] ∧ Ct none w0 w176 (blk (.slice A137 n138 c139) :: (vs183).map blk) O ∧ Sl kPt w176 (Fr ((blk (.slice A137 n138 c139) :: (vs183).map blk) ++ O)) (.slice A1 n2 c3) a ∧ Sl kPt w176 (Fr ((blk (.slice A137 n138 c139) :: (vs183).map blk) ++ O)) (.slice A6 n7 c8) b ∧ Tb (Kd.int .i64) 65 3 w176 ((blk (.slice A137 n138 c139) :: (vs183).map blk) ++ O) (.slice A137 n138 c139) vs183 xs6) (fun (s : (List (List Int)) × (List Value) × Int) => match s with | (xs6, _, j2) => mu189 xs6 j2) (xs4, vs141, (b.length : Int) - 1) ⟨hI190, ⟨rfl, rfl, rfl, rfl, rfl, trivial⟩, hc142, h143, h144, h145⟩ ?_
      rintro ⟨xs6, vs183, j2⟩ _ w176 ⟨hI190, hh192, hc184, h185, h186, h187⟩
      obtain ⟨u193, rfl⟩ := Has.ins hh192
      have H := H xs6 j2 hI190
      refine W_seq ?_
      refine W_seq ?_
      refine W_reg ?_
      refine L_pu (P_move (vi j2) rfl) ?_
      refine L_pu (P_cmp j2 0 (decide (j2 ≥ 0)) rfl rfl rfl) ?_
      refine L_nil ?_
      refine W_cond (decide (j2 ≥ 0)) rfl (fun hq194 => ?_) (fun hq194 => ?_)
      · have H := ite_t H hq194
        refine W_skip ?_
        refine W_seq ?_
        refine W_block ?_
        refine W_seq ?_
        refine W_draw (fun x => Gr w176 x none) (by kernel_rfl) (by kernel_rfl) (Gr.drew _) ?_
        refine Q_pu (P_move (.slice A1 n2 c3) rfl) ?_
        refine Q_pu (P_move (vi i2) rfl) ?_
        obtain ⟨hb195, H⟩ := H
        obtain ⟨ad196, cs197, hA198, hS201, hR199, hcl200⟩ := h185.get default (by decide) i2 hb195
        obtain rfl := kPt.op hR199
        refine Q_pu (P_ia Try.underlying33 se33 A1 ad196 n2 c3 h185.len i2 rfl hA198 rfl hb195) ?_
        refine Q_pu (P_lda ag41 sz41 cQ (ad196.add (i2.toNat * 2)) [vi ((nth a i2).X), vi ((nth a i2).Y)] rfl rfl hcl200) ?_
        refine Q_pu (P_move (.slice A6 n7 c8) rfl) ?_
        refine Q_pu (P_move (vi j2) rfl) ?_
        obtain ⟨hb202, H⟩ := H
        obtain ⟨ad203, cs204, hA205, hS208, hR206, hcl207⟩ := h186.get default (by decide) j2 hb202
        obtain rfl := kPt.op hR206
        refine Q_pu (P_ia Try.underlying33 se33 A6 ad203 n7 c8 h186.len j2 rfl hA205 rfl hb202) ?_
        refine Q_pu (P_lda ag41 sz41 cQ (ad203.add (j2.toNat * 2)) [vi ((nth b j2).X), vi ((nth b j2).Y)] rfl rfl hcl207) ?_
        refine Q_pu (P_eq _ _ (eqPt (nth a i2) (nth b j2)) (qt41 (nth a i2) (nth b j2)) rfl rfl) ?_
        refine Q_nil fun w209 g210 => ?_
        have hc212 := hc184.k0 g210
        refine W_cond (eqPt (nth a i2) (nth b j2)) rfl (fun hq213 => ?_) (fun hq213 => ?_)
        · have H := ite_t H hq213
          refine W_tail 16 (by kernel_rfl) (by kernel_rfl) fun w214 g215 => ?_
          have hc216 := hc212.k0 g215
          refine S_pu (P_move (.slice A137 n138 c139) rfl) ?_
          refine S_pu (P_move (vi i2) rfl) ?_
          obtain ⟨hb217, H⟩ := H
          have h229 := ((h187.k0 g210).k0 g215)
          obtain ⟨ad218, A224, n225, c226, hA220, hv227, hcl222, h228⟩ := h229.get i2 hb217
          refine S_pu (P_ia Try.underlying66 se66 A137 ad218 n138 c139 h229.len i2 rfl hA220 rfl hb217) ?_
          refine S_pu (P_ld ag65 cL (ad218.add (i2.toNat * 1)) (.slice A224 n225 c226) rfl (hcl222 0 _ rfl)) ?_
          refine S_pu (P_move (vi j2) rfl) ?_
          refine S_pu (P_move (.slice A137 n138 c139) rfl) ?_
          refine S_pu (P_move (vi i2) rfl) ?_
          obtain ⟨hb230, H⟩ := H
          refine S_pu (P_add i2 1 rfl rfl hb230) ?_
          obtain ⟨hb231, H⟩ := H
          obtain ⟨ad232, A238, n239, c240, hA234, hv241, hcl236, h242⟩ := h229.get (i2 + 1) hb231
          refine S_pu (P_ia Try.underlying66 se66 A137 ad232 n138 c139 h229.len (i2 + 1) rfl hA234 rfl hb231) ?_
          refine S_pu (P_ld ag65 cL (ad232.add ((i2 + 1).toNat * 1)) (.slice A238 n239 c240) rfl (hcl236 0 _ rfl)) ?_
          refine S_pu (P_move (vi j2) rfl) ?_
          obtain ⟨hb243, H⟩ := H
          refine S_pu (P_add j2 1 rfl rfl hb243) ?_
          obtain ⟨hb244, H⟩ := H
          obtain ⟨ad245, cs246, hA247, hR248, hcl249⟩ := h242.get default (by decide) (j2 + 1) hb244
          obtain rfl := Kd.int.op hR248
          refine S_pu (P_ia Try.underlying65 se65 A238 ad245 n239 c240 h242.len (j2 + 1) rfl hA247 rfl hb244) ?_
          refine S_pu (P_ld ag3 cL (ad245.add ((j2 + 1).toNat * 1)) (vi (nth (nth xs6 (i2 + 1)) (j2 + 1))) rfl (hcl249 0 _ rfl)) ?_
          obtain ⟨hb251, H⟩ := H
          refine S_pu (P_add (nth (nth xs6 (i2 + 1)) (j2 + 1)) 1 rfl rfl hb251) ?_
          obtain ⟨hb252, H⟩ := H
          obtain ⟨ad253, cs254, hA255, hR256, hcl257⟩ := h228.get default (by decide) j2 hb252
          obtain rfl := Kd.int.op hR256
          refine S_pu (P_ia Try.underlying65 se65 A224 ad253 n225 c226 h228.len j2 rfl hA255 rfl hb252) ?_
          refine S_nil ?_
          refine L_ste0 A224 n225 c226 (nth xs6 i2) h228 j2 hb252 ad253 hA255 0 rfl [vi ((nth (nth xs6 (i2 + 1)) (j2 + 1)) + 1)] rfl sz3 rfl ((nth (nth xs6 (i2 + 1)) (j2 + 1)) + 1) [vi (nth (nth xs6 i2) j2)] [vi ((nth (nth xs6 (i2 + 1)) (j2 + 1)) + 1)] hcl257 rfl rfl rfl fun w259 g260 h261 => ?_
          have h262 := Tb.ste (O := O) h229 hc216 hv227 g260 h261
          have hc263 := Ct.tb hc216 hv227 g260
          have s264 := St.tb (v := .slice A137 n138 c139) (O := O) ⟨_, hv227⟩ g260
          refine L_nil ?_
          refine W_reg ?_
          refine L_pu (P_move (vi j2) rfl) ?_
          obtain ⟨hb265, H⟩ := H
          refine L_pu (P_sub j2 1 rfl rfl hb265) ?_
          refine L_pu (P_assign (vi (j2 - 1)) rfl) ?_
          refine L_nil ?_
          obtain ⟨hI266, hm267⟩ := H
          have h268 := (((h185.st (.new _ g210)).st (.new _ g215)).st s264)
          have h269 := (((h186.st (.new _ g210)).st (.new _ g215)).st s264)
          exact ⟨((xs6.set i2.toNat ((nth xs6 i2).set j2.toNat ((nth (nth xs6 (i2 + 1)) (j2 + 1)) + 1))), vs183, j2 - 1), hm267, hI266, ⟨rfl, rfl, rfl, rfl, rfl, trivial⟩, hc263, h268, h269, h262⟩
        · have H := ite_f H hq213
          refine W_tail 23 (by kernel_rfl) (by kernel_rfl) fun w270 g271 => ?_
          have hc272 := hc212.k0 g271
          refine S_pu (P_move (.slice A137 n138 c139) rfl) ?_
          refine S_pu (P_move (vi i2) rfl) ?_
          obtain ⟨hb273, H⟩ := H
          have h285 := ((h187.k0 g210).k0 g271)
          obtain ⟨ad274, A280, n281, c282, hA276, hv283, hcl278, h284⟩ := h285.get i2 hb273
          refine S_pu (P_ia Try.underlying66 se66 A137 ad274 n138 c139 h285.len i2 rfl hA276 rfl hb273) ?_
          refine S_pu (P_ld ag65 cL (ad274.add (i2.toNat * 1)) (.slice A280 n281 c282) rfl (hcl278 0 _ rfl)) ?_
          refine S_pu (P_move (vi j2) rfl) ?_
          refine S_pu (P_move (.slice A137 n138 c139) rfl) ?_
          refine S_pu (P_move (vi i2) rfl) ?_
          obtain ⟨hb286, H⟩ := H
          refine S_pu (P_add i2 1 rfl rfl hb286) ?_
          obtain ⟨hb287, H⟩ := H
          obtain ⟨ad288, A294, n295, c296, hA290, hv297, hcl292, h298⟩ := h285.get (i2 + 1) hb287
          refine S_pu (P_ia Try.underlying66 se66 A137 ad288 n138 c139 h285.len (i2 + 1) rfl hA290 rfl hb287) ?_
          refine S_pu (P_ld ag65 cL (ad288.add ((i2 + 1).toNat * 1)) (.slice A294 n295 c296) rfl (hcl292 0 _ rfl)) ?_
          refine S_pu (P_move (vi j2) rfl) ?_
          obtain ⟨hb299, H⟩ := H
          obtain ⟨ad300, cs301, hA302, hR303, hcl304⟩ := h298.get default (by decide) j2 hb299
          obtain rfl := Kd.int.op hR303
          refine S_pu (P_ia Try.underlying65 se65 A294 ad300 n295 c296 h298.len j2 rfl hA302 rfl hb299) ?_
          refine S_pu (P_ld ag3 cL (ad300.add (j2.toNat * 1)) (vi (nth (nth xs6 (i2 + 1)) j2)) rfl (hcl304 0 _ rfl)) ?_
          refine S_pu (P_move (.slice A137 n138 c139) rfl) ?_
          refine S_pu (P_move (vi i2) rfl) ?_
          obtain ⟨hb306, H⟩ := H
          obtain ⟨ad307, A313, n314, c315, hA309, hv316, hcl311, h317⟩ := h285.get i2 hb306
          refine S_pu (P_ia Try.underlying66 se66 A137 ad307 n138 c139 h285.len i2 rfl hA309 rfl hb306) ?_
          refine S_pu (P_ld ag65 cL (ad307.add (i2.toNat * 1)) (.slice A313 n314 c315) rfl (hcl311 0 _ rfl)) ?_
          refine S_pu (P_move (vi j2) rfl) ?_
          obtain ⟨hb318, H⟩ := H
          refine S_pu (P_add j2 1 rfl rfl hb318) ?_
          obtain ⟨hb319, H⟩ := H
          obtain ⟨ad320, cs321, hA322, hR323, hcl324⟩ := h317.get default (by decide) (j2 + 1) hb319
          obtain rfl := Kd.int.op hR323
          refine S_pu (P_ia Try.underlying65 se65 A313 ad320 n314 c315 h317.len (j2 + 1) rfl hA322 rfl hb319) ?_
          refine S_pu (P_ld ag3 cL (ad320.add ((j2 + 1).toNat * 1)) (vi (nth (nth xs6 i2) (j2 + 1))) rfl (hcl324 0 _ rfl)) ?_
          refine S_pu (P_max (nth (nth xs6 (i2 + 1)) j2) (nth (nth xs6 i2) (j2 + 1)) rfl rfl) ?_
          obtain ⟨hb326, H⟩ := H
          obtain ⟨ad327, cs328, hA329, hR330, hcl331⟩ := h284.get default (by decide) j2 hb326
          obtain rfl := Kd.int.op hR330
          refine S_pu (P_ia Try.underlying65 se65 A280 ad327 n281 c282 h284.len j2 rfl hA329 rfl hb326) ?_
          refine S_nil ?_
          refine L_ste0 A280 n281 c282 (nth xs6 i2) h284 j2 hb326 ad327 hA329 0 rfl [vi (max (nth (nth xs6 (i2 + 1)) j2) (nth (nth xs6 i2) (j2 + 1)))] rfl sz3 rfl (max (nth (nth xs6 (i2 + 1)) j2) (nth (nth xs6 i2) (j2 + 1))) [vi (nth (nth xs6 i2) j2)] [vi (max (nth (nth xs6 (i2 + 1)) j2) (nth (nth xs6 i2) (j2 + 1)))] hcl331 rfl rfl rfl fun w333 g334 h335 => ?_
          have h336 := Tb.ste (O := O) h285 hc272 hv283 g334 h335
          have hc337 := Ct.tb hc272 hv283 g334
          have s338 := St.tb (v := .slice A137 n138 c139) (O := O) ⟨_, hv283⟩ g334
          refine L_nil ?_
          refine W_reg ?_
          refine L_pu (P_move (vi j2) rfl) ?_
          obtain ⟨hb339, H⟩ := H
          refine L_pu (P_sub j2 1 rfl rfl hb339) ?_
          refine L_pu (P_assign (vi (j2 - 1)) rfl) ?_
          refine L_nil ?_
          obtain ⟨hI340, hm341⟩ := H
          have h342 := (((h185.st (.new _ g210)).st (.new _ g271)).st s338)
          have h343 := (((h186.st (.new _ g210)).st (.new _ g271)).st s338)
          exact ⟨((xs6.set i2.toNat ((nth xs6 i2).set j2.toNat (max (nth (nth xs6 (i2 + 1)) j2) (nth (nth xs6 i2) (j2 + 1))))), vs183, j2 - 1), hm341, hI340, ⟨rfl, rfl, rfl, rfl, rfl, trivial⟩, hc337, h342, h343, h336⟩
      · have H := ite_f H hq194
        refine W_exit (xin_hit ?_)
        refine W_reg ?_
        refine L_pu (P_move (vi i2) rfl) ?_
        obtain ⟨hb344, H⟩ := H
        refine L_pu (P_sub i2 1 rfl rfl hb344) ?_
        refine L_pu (P_assign (vi (i2 - 1)) rfl) ?_
        refine L_nil ?_
        obtain ⟨hI345, hm346⟩ := H
        exact ⟨(xs6, vs183, A137, n138, c139, i2 - 1), hm346, hI345, ⟨rfl, rfl, rfl, rfl, trivial⟩, hc184, h185, h186, h187⟩
    · have H := ite_f H hq152
      refine W_exit (xin_hit ?_)
      refine W_seq ?_
      refine W_reg ?_
      refine L_pu (P_move (.slice A137 n138 c139) rfl) ?_
      refine L_pu (P_assign (.slice A137 n138 c139) rfl) ?_
      refine L_nil ?_
      refine W_ret ?_
      have h347 := h145.sl hc142
      have hc348 := hc142.clear
      exact ⟨[.slice A137 n138 c139], ⟨_, rfl, rfl⟩, xs4, A137, n138, c139, rfl, H, hc348.gr, h347⟩
end Go.Proofs.Ytnliofcjplnboaa

namespace Go.Proofs.Ytnliofcjplnboaa
set_option linter.unusedVariables false
set_option linter.unusedSimpArgs false
theorem impl_lengths.law (a b : List Pt) (Q : List (List Int) → Prop) (ha : a.length ≤ 1048576) (hb : b.length ≤ 1048576) (hq : ∀ t, Tab a b (fun _ _ => True) t → Q t) : impl_lengths.E a b Q := by
  unfold impl_lengths.E
  have hn : ((b.length : Int) + 1).toNat = b.length + 1 := by omega
  have hm : ((a.length : Int) + 1).toNat = a.length + 1 := by omega
  rw [hn, hm]
  refine ⟨fun _ => by unfold I64; omega, by omega, fun xs v => ∃ k : Nat, v = k ∧ k ≤ a.length + 1 ∧ xs.length = a.length + 1 ∧ ∀ r : Nat, r < k → nth xs (r : Int) = List.replicate (b.length + 1) 0, fun _ v => (a.length + 1 - v).toNat,
    ⟨0, rfl, Nat.zero_le _, by simp, fun r hr => absurd hr (Nat.not_lt_zero _)⟩, ?_⟩
  rintro xs _ ⟨k, rfl, hk, hl, hx⟩
  rw [List.length_replicate]
  by_cases hk0 : (k : Int) < ((a.length + 1 : Nat) : Int)
  · rw [if_pos (by simpa using hk0)]
    refine ⟨fun _ => by unfold I64; omega, by omega, by omega, fun _ => by unfold I64; omega, ⟨k + 1, by omega, by omega, by rw [List.length_set]; exact hl, fun r hr => ?_⟩, by dsimp only; omega⟩
    rw [Int.toNat_natCast, nth_set _ (by omega)]
    by_cases e : r = k
    · rw [if_pos e]
    · rw [if_neg e]; exact hx r (by omega)
  rw [if_neg (by simpa using hk0)]
  refine ⟨fun _ => by unfold I64; omega, fun xs i => ∃ k : Nat, i = (k : Int) - 1 ∧ k ≤ a.length ∧ Tab a b (fun r m => k ≤ r ∨ m = b.length) xs, fun _ i => (i + 1).toNat, ⟨a.length, rfl, Nat.le_refl _, hl, fun r hr => ?_⟩, ?_⟩
  · rw [hx r (by omega)]
    refine ⟨by simp, fun m hm hd => ?_⟩
    rw [nth_rep _ _ _ (by omega)]
    rcases hd with hd | hd
    · rw [List.drop_of_length_le (by omega : a.length ≤ r), lcs_nil]; rfl
    · rw [hd, List.drop_length, lcs_nil2]; rfl
  clear hx hl hk0 hk xs k
  rintro xs _ ⟨k, rfl, hk, ht⟩
  by_cases hk0 : (k : Int) - 1 ≥ 0
  · rw [if_pos (by simpa using hk0)]
    obtain ⟨i, rfl⟩ : ∃ i, k = i + 1 := ⟨k - 1, by omega⟩
    have ei : ((i + 1 : Nat) : Int) - 1 = (i : Int) := by omega
    have ei1 : (i : Int) + 1 = ((i + 1 : Nat) : Int) := by omega
    rw [ei]
    refine ⟨fun _ => by unfold I64; omega, fun ys j => ∃ m : Nat, j = (m : Int) - 1 ∧ m ≤ b.length ∧ Tab a b (fun r u => i < r ∨ (r = i ∧ m ≤ u) ∨ u = b.length) ys, fun _ j => (j + 1).toNat, ⟨b.length, rfl, Nat.le_refl _, ht.1, fun r hr => ⟨(ht.2 r hr).1, fun m hm hd => (ht.2 r hr).2 m hm ?_⟩⟩, ?_⟩
    · omega
    rintro ys _ ⟨m, rfl, hm, hs⟩
    by_cases hm0 : (m : Int) - 1 ≥ 0
    · rw [if_pos (by simpa using hm0)]
      obtain ⟨j, rfl⟩ : ∃ j, m = j + 1 := ⟨m - 1, by omega⟩
      have ej : ((j + 1 : Nat) : Int) - 1 = (j : Int) := by omega
      have ej1 : (j : Int) + 1 = ((j + 1 : Nat) : Int) := by omega
      rw [ej, ej1, ei1, eqPt_is]
      have hl := lcs_drop a b (i := i) (j := j) (by omega) (by omega)
      have s0 := hs.1
      have s1 := hs.2 i (by omega)
      have s2 := hs.2 (i + 1) (by omega)
      have n1 := s2.2 (j + 1) (by omega) (.inl (by omega))
      have n2 := s2.2 j (by omega) (.inl (by omega))
      have n3 := s1.2 (j + 1) (by omega) (.inr (.inl ⟨rfl, by omega⟩))
      have l1 := s1.1
      have l2 := s2.1
      have b1 := lcs_le2 (a.drop (i + 1)) (b.drop (j + 1))
      rw [List.length_drop] at b1
      have hset : ∀ v : Int, v = (lcs (a.drop i) (b.drop j) : Nat) → Tab a b (fun r u => i < r ∨ (r = i ∧ j ≤ u) ∨ u = b.length) (ys.set (i : Int).toNat ((nth ys (i : Int)).set (j : Int).toNat v)) := fun v hv => by
        rw [Int.toNat_natCast, Int.toNat_natCast]
        exact hs.set (by omega) (by omega) hv fun r u h => by omega
      refine ⟨by omega, by omega, ?_⟩
      by_cases he : nth a (i : Int) = nth b (j : Int)
      · rw [if_pos (by simpa using he)]
        rw [if_pos he] at hl
        rw [n1]
        exact ⟨by omega, by unfold I64; omega, by omega, by unfold I64; omega, by omega, by unfold I64; omega, by omega, by unfold I64; omega, ⟨j, by omega, by omega, hset _ (by omega)⟩, by dsimp only; omega⟩
      · rw [if_neg (by simpa using he)]
        rw [if_neg he] at hl
        rw [n2, n3]
        exact ⟨by omega, by unfold I64; omega, by omega, by omega, by omega, by unfold I64; omega, by omega, by omega, by unfold I64; omega, ⟨j, by omega, by omega, hset _ (by omega)⟩, by dsimp only; omega⟩
    · rw [if_neg (by simpa using hm0)]
      have : m = 0 := by omega
      subst this
      refine ⟨by unfold I64; omega, ⟨i, by omega, by omega, hs.1, fun r hr => ⟨(hs.2 r hr).1, fun m hm hd => (hs.2 r hr).2 m hm ?_⟩⟩, by dsimp only; omega⟩
      omega
  · rw [if_neg (by simpa using hk0)]
    have : k = 0 := by omega
    subst this
    exact hq _ ⟨ht.1, fun r hr => ⟨(ht.2 r hr).1, fun m hm _ => (ht.2 r hr).2 m hm (.inl (Nat.zero_le _))⟩⟩
end Go.Proofs.Ytnliofcjplnboaa

namespace Go.Proofs.Ytnliofcjplnboaa
open Go.RowKit
set_option linter.unusedVariables false
def impl_SeqPairs.E (a : List Pt) (b : List Pt) (Q : List Pair → Prop) : Prop :=
  (if decide ((a.length : Int) > 12) then Q ([] : List Pair) else (if decide ((b.length : Int) > 12) then Q ([] : List Pair) else impl_lengths.E a b (fun r => (∃ (I71 : (List Pair) → Int → Int → Prop) (mu72 : (List Pair) → Int → Int → Nat), I71 ([] : List Pair) 0 0 ∧ ∀ (xs2 : List Pair) (i2 : Int) (j2 : Int), I71 xs2 i2 j2 → (if decide (i2 < (a.length : Int)) then (if decide (j2 < (b.length : Int)) then ((0 : Int) ≤ i2 ∧ i2 < (a.length : Int)) ∧ ((0 : Int) ≤ j2 ∧ j2 < (b.length : Int)) ∧ (if eqPt (nth a i2) (nth b j2) then (xs2.length + ([(⟨i2, j2⟩ : Pair)] : List Pair).length ≤ 268435456) ∧ (-9223372036854775808 ≤ i2) ∧ (-9223372036854775808 ≤ j2) ∧ I71 (xs2 ++ ([(⟨i2, j2⟩ : Pair)] : List Pair)) (i2 + 1) (j2 + 1) ∧ mu72 (xs2 ++ ([(⟨i2, j2⟩ : Pair)] : List Pair)) (i2 + 1) (j2 + 1) < mu72 xs2 i2 j2 else (-9223372036854775808 ≤ i2) ∧ ((0 : Int) ≤ i2 + 1 ∧ i2 + 1 < (r.length : Int)) ∧ ((0 : Int) ≤ j2 ∧ j2 < ((nth r (i2 + 1)).length : Int)) ∧ ((0 : Int) ≤ i2 ∧ i2 < (r.length : Int)) ∧ (-9223372036854775808 ≤ j2) ∧ ((0 : Int) ≤ j2 + 1 ∧ j2 + 1 < ((nth r i2).length : Int)) ∧ (if decide ((nth (nth r (i2 + 1)) j2) ≥ (nth (nth r i2) (j2 + 1))) then (-9223372036854775808 ≤ i2) ∧ I71 xs2 (i2 + 1) j2 ∧ mu72 xs2 (i2 + 1) j2 < mu72 xs2 i2 j2 else (-9223372036854775808 ≤ j2) ∧ I71 xs2 i2 (j2 + 1) ∧ mu72 xs2 i2 (j2 + 1) < mu72 xs2 i2 j2)) else Q xs2) else Q xs2)))))
set_option maxHeartbeats 8000000 in
set_option maxRecDepth 100000 in
theorem impl_SeqPairs.calls {O : Ob} (w0 : World) (hO : Ok w0 O) (a : List Pt) (A1 : Option Addr) (n2 c3 : Nat) (hp4 : Sl kPt w0 (Fr O) (.slice A1 n2 c3) a) (b : List Pt) (A6 : Option Addr) (n7 c8 : Nat) (hp9 : Sl kPt w0 (Fr O) (.slice A6 n7 c8) b) (Q : List Pair → Prop) (h : impl_SeqPairs.E a b Q) :
    Ret Try.prog 29 [.slice A1 n2 c3, .slice A6 n7 c8] w0 (fun v w' => ∃ (r0 : List Pair) (A0 : Option Addr) (n0 c0 : Nat), v = .slice A0 n0 c0 ∧ Q r0 ∧ Gr w0 w' none ∧ Ok w' ([blk (.slice A0 n0 c0)] ++ O) ∧ (∀ b, some b ∈ [blk (.slice A0 n0 c0)] → w0.heap.size ≤ b) ∧ Ow kPair 46 w' ([blk (.slice A0 n0 c0)] ++ O) (.slice A0 n0 c0) r0) := by
  have H : (if decide ((a.length : Int) > 12) then Q ([] : List Pair) else (if decide ((b.length : Int) > 12) then Q ([] : List Pair) else impl_lengths.E a b (fun r => (∃ (I71 : (List Pair) → Int → Int → Prop) (mu72 : (List Pair) → Int → Int → Nat), I71 ([] : List Pair) 0 0 ∧ ∀ (xs2 : List Pair) (i2 : Int) (j2 : Int), I71 xs2 i2 j2 → (if decide (i2 < (a.length : Int)) then (if decide (j2 < (b.length : Int)) then ((0 : Int) ≤ i2 ∧ i2 < (a.length : Int)) ∧ ((0 : Int) ≤ j2 ∧ j2 < (b.length : Int)) ∧ (if eqPt (nth a i2) (nth b j2) then (xs2.length + ([(⟨i2, j2⟩ : Pair)] : List Pair).length ≤ 268435456) ∧ (-9223372036854775808 ≤ i2) ∧ (-9223372036854775808 ≤ j2) ∧ I71 (xs2 ++ ([(⟨i2, j2⟩ : Pair)] : List Pair)) (i2 + 1) (j2 + 1) ∧ mu72 (xs2 ++ ([(⟨i2, j2⟩ : Pair)] : List Pair)) (i2 + 1) (j2 + 1) < mu72 xs2 i2 j2 else (-9223372036854775808 ≤ i2) ∧ ((0 : Int) ≤ i2 + 1 ∧ i2 + 1 < (r.length : Int)) ∧ ((0 : Int) ≤ j2 ∧ j2 < ((nth r (i2 + 1)).length : Int)) ∧ ((0 : Int) ≤ i2 ∧ i2 < (r.length : Int)) ∧ (-9223372036854775808 ≤ j2) ∧ ((0 : Int) ≤ j2 + 1 ∧ j2 + 1 < ((nth r i2).length : Int)) ∧ (if decide ((nth (nth r (i2 + 1)) j2) ≥ (nth (nth r i2) (j2 + 1))) then (-9223372036854775808 ≤ i2) ∧ I71 xs2 (i2 + 1) j2 ∧ mu72 xs2 (i2 + 1) j2 < mu72 xs2 i2 j2 else (-9223372036854775808 ≤ j2) ∧ I71 xs2 i2 (j2 + 1) ∧ mu72 xs2 i2 (j2 + 1) < mu72 xs2 i2 j2)) else Q xs2) else Q xs2))))) := h
  clear h
  have hc0 := Ct.init hO
  refine Ret_enter Try.func29 rfl 75 rfl [.tmp 4] rfl rfl ?_
  refine W_seq ?_
  refine W_reg ?_
  refine L_pu (P_assign (.slice none 0 0) rfl) ?_
  refine L_nil ?_
  refine W_seq ?_
  refine W_reg ?_
  refine L_lit (kd := kPair) ei43 hc0 ([] : List Pair) (cells := []) rfl (fun _ => by kernel_rfl) fun w11 A12 n13 c14 g15 hr16 hc17 h18 => ?_
  refine L_pu (P_assign (.slice A12 n13 c14) rfl) ?_
  refine L_nil ?_
  refine W_seq ?_
  refine W_seq ?_
  refine W_reg ?_
  refine L_pu (P_move (.slice A1 n2 c3) rfl) ?_
  have hl20 := (hp4.st hc17.st).le
  refine L_pu (P_len Try.underlying33 A1 n2 c3 (hp4.st hc17.st).len rfl) ?_
  refine L_pu (P_cmp (a.length : Int) 12 (decide ((a.length : Int) > 12)) rfl rfl rfl) ?_
  refine L_pu (P_move (vb (decide ((a.length : Int) > 12))) rfl) ?_
  rcases bool_or (decide ((a.length : Int) > 12)) with hq21 | hq21
  · have H := ite_t H hq21
    refine L_pass (dj := 13) rfl rfl (.inl (by exact congrArg Value.bool hq21)) ?_
    refine L_pass (dj := 13) rfl rfl (.inl (by exact congrArg Value.bool hq21)) ?_
    refine L_pass (dj := 13) rfl rfl (.inl (by exact congrArg Value.bool hq21)) ?_
    refine L_pu (P_pick true (vb true) (by exact congrArg Value.bool hq21) rfl) ?_
    refine L_nil ?_
    refine W_ct (b := true) rfl rfl ?_
    refine W_seq ?_
    refine W_reg ?_
    refine L_pu (P_move (.slice A12 n13 c14) rfl) ?_
    refine L_pu (P_assign (.slice A12 n13 c14) rfl) ?_
    refine L_nil ?_
    refine W_ret ?_
    exact ⟨[.slice A12 n13 c14], ⟨_, rfl, rfl⟩, ([] : List Pair), A12, n13, c14, rfl, H, hc17.gr, hc17.ok, hc17.ge, h18⟩
  · have H := ite_f H hq21
    refine L_run (dj := 13) rfl rfl (by exact congrArg Value.bool hq21) ?_
    refine L_pu (P_move (.slice A6 n7 c8) rfl) ?_
    refine L_run (dj := 13) rfl rfl (by exact congrArg Value.bool hq21) ?_
    have hl22 := (hp9.st hc17.st).le
    refine L_pu (P_len Try.underlying33 A6 n7 c8 (hp9.st hc17.st).len rfl) ?_
    refine L_run (dj := 13) rfl rfl (by exact congrArg Value.bool hq21) ?_
    refine L_pu (P_cmp (b.length : Int) 12 (decide ((b.length : Int) > 12)) rfl rfl rfl) ?_
    refine L_pu (P_pick false (vb (decide ((b.length : Int) > 12))) (by exact congrArg Value.bool hq21) rfl) ?_
    refine L_nil ?_
    refine W_cond (decide ((b.length : Int) > 12)) rfl (fun hq23 => ?_) (fun hq23 => ?_)
    · have H := ite_t H hq23
      refine W_seq ?_
      refine W_reg ?_
      refine L_pu (P_move (.slice A12 n13 c14) rfl) ?_
      refine L_pu (P_assign (.slice A12 n13 c14) rfl) ?_
      refine L_nil ?_
      refine W_ret ?_
      exact ⟨[.slice A12 n13 c14], ⟨_, rfl, rfl⟩, ([] : List Pair), A12, n13, c14, rfl, H, hc17.gr, hc17.ok, hc17.ge, h18⟩
    · have H := ite_f H hq23
      refine W_skip ?_
      refine W_seq ?_
      refine W_reg ?_
      refine L_pu (P_move (.slice A1 n2 c3) rfl) ?_
      refine L_pu (P_move (.slice A6 n7 c8) rfl) ?_
      refine L_call go48 [.slice A1 n2 c3, .slice A6 n7 c8] rfl ((impl_lengths.calls w11 hc17.ok a A1 n2 c3 (hp4.st hc17.st) b A6 n7 c8 (hp9.st hc17.st) _ H).mono ?_)
      rintro _ w24 ⟨r, A26, n27, c28, rfl, H, g25, h29⟩
      have hc33 := hc17.k0 g25
      refine L_pu (P_assign (.slice A26 n27 c28) rfl) ?_
      refine L_nil ?_
      refine W_seq ?_
      refine W_seq ?_
      refine W_reg ?_
      refine L_pu (P_assign (vi 0) rfl) ?_
      refine L_pu (P_assign (vi 0) rfl) ?_
      refine L_nil ?_
      refine W_block ?_
      obtain ⟨I71, mu72, hI73, H⟩ := H
      have h75 := (h18.sn g25)
      refine W_loop (α := (List Pair) × (Option Addr) × Nat × Nat × Int × Int) (fun (s : (List Pair) × (Option Addr) × Nat × Nat × Int × Int) t w58 => match s with | (xs2, A61, n62, c63, i2, j2) => I71 xs2 i2 j2 ∧ Has t [(0, .slice A1 n2 c3), (1, .slice A6 n7 c8), (5, .slice A61 n62 c63), (6, .slice A26 n27 c28), (7, vi i2), (8, vi j2)] ∧ Ct none w0 w58 [blk (.slice A61 n62 c63)] O ∧ Sl kPt w58 (Fr ([blk (.slice A61 n62 c63)] ++ O)) (.slice A1 n2 c3) a ∧ Sl kPt w58 (Fr ([blk (.slice A61 n62 c63)] ++ O)) (.slice A6 n7 c8) b ∧ Sl (Kd.sl (Kd.int .i64)) w58 (Fr ([blk (.slice A61 n62 c63)] ++ O)) (.slice A26 n27 c28) r ∧ Ow kPair 46 w58 ([blk (.slice A61 n62 c63)] ++ O) (.slice A61 n62 c63) xs2) (fun (s : (List Pair) × (Option Addr) × Nat × Nat × Int × Int) => match s with | (xs2, _, _, _, i2, j2) => mu72 xs2 i2 j2) (([] : List Pair), A12, n13, c14, 0, 0) ⟨hI73, ⟨rfl, rfl, rfl, rfl, rfl, rfl, trivial⟩, hc33, (hp4.st hc33.st), (hp9.st hc33.st), h29, h75⟩ ?_
      rintro ⟨xs2, A61, n62, c63, i2, j2⟩ _ w58 ⟨hI73, hh76, hc66, h67, h68, h69, h70⟩
      obtain ⟨u77, rfl⟩ := Has.ins hh76
      have H := H xs2 i2 j2 hI73
      refine W_seq ?_
      refine W_seq ?_
      refine W_reg ?_
      refine L_pu (P_move (vi i2) rfl) ?_
      refine L_pu (P_move (.slice A1 n2 c3) rfl) ?_
      have hl78 := h67.le
      refine L_pu (P_len Try.underlying33 A1 n2 c3 h67.len rfl) ?_
      refine L_pu (P_cmp i2 (a.length : Int) (decide (i2 < (a.length : Int))) rfl rfl rfl) ?_
      refine L_pu (P_move (vb (decide (i2 < (a.length : Int)))) rfl) ?_
      rcases bool_or (decide (i2 < (a.length : Int))) with hq79 | hq79
      · have H := ite_t H hq79
        refine L_run (dj := 26) rfl rfl (by exact congrArg Value.bool hq79) ?_
        refine L_pu (P_move (vi j2) rfl) ?_
        refine L_run (dj := 26) rfl rfl (by exact congrArg Value.bool hq79) ?_
        refine L_pu (P_move (.slice A6 n7 c8) rfl) ?_
        refine L_run (dj := 26) rfl rfl (by exact congrArg Value.bool hq79) ?_
        have hl80 := h68.le
        refine L_pu (P_len Try.underlying33 A6 n7 c8 h68.len rfl) ?_
        refine L_run (dj := 26) rfl rfl (by exact congrArg Value.bool hq79) ?_
        refine L_pu (P_cmp j2 (b.length : Int) (decide (j2 < (b.length : Int))) rfl rfl rfl) ?_
        refine L_pu (P_pick true (vb (decide (j2 < (b.length : Int)))) (by exact congrArg Value.bool hq79) rfl) ?_
        refine L_nil ?_
        refine W_cond (decide (j2 < (b.length : Int))) rfl (fun hq81 => ?_) (fun hq81 => ?_)
        · have H := ite_t H hq81
          refine W_skip ?_
          refine W_block ?_
          refine W_block ?_
          refine W_seq ?_
          refine W_draw (fun x => Gr w58 x none) (by kernel_rfl) (by kernel_rfl) (Gr.drew _) ?_
          refine Q_pu (P_move (.slice A1 n2 c3) rfl) ?_
          refine Q_pu (P_move (vi i2) rfl) ?_
          obtain ⟨hb82, H⟩ := H
          obtain ⟨ad83, cs84, hA85, hS88, hR86, hcl87⟩ := h67.get default (by decide) i2 hb82
          obtain rfl := kPt.op hR86
          refine Q_pu (P_ia Try.underlying33 se33 A1 ad83 n2 c3 h67.len i2 rfl hA85 rfl hb82) ?_
          refine Q_pu (P_lda ag41 sz41 cQ (ad83.add (i2.toNat * 2)) [vi ((nth a i2).X), vi ((nth a i2).Y)] rfl rfl hcl87) ?_
          refine Q_pu (P_move (.slice A6 n7 c8) rfl) ?_
          refine Q_pu (P_move (vi j2) rfl) ?_
          obtain ⟨hb89, H⟩ := H
          obtain ⟨ad90, cs91, hA92, hS95, hR93, hcl94⟩ := h68.get default (by decide) j2 hb89
          obtain rfl := kPt.op hR93
          refine Q_pu (P_ia Try.underlying33 se33 A6 ad90 n7 c8 h68.len j2 rfl hA92 rfl hb89) ?_
          refine Q_pu (P_lda ag41 sz41 cQ (ad90.add (j2.toNat * 2)) [vi ((nth b j2).X), vi ((nth b j2).Y)] rfl rfl hcl94) ?_
          refine Q_pu (P_eq _ _ (eqPt (nth a i2) (nth b j2)) (qt41 (nth a i2) (nth b j2)) rfl rfl) ?_
          refine Q_pu (P_assign (vb (eqPt (nth a i2) (nth b j2))) rfl) ?_
          refine Q_nil fun w96 g97 => ?_
          have hc99 := hc66.k0 g97
          refine W_cond (eqPt (nth a i2) (nth b j2)) rfl (fun hq100 => ?_) (fun hq100 => ?_)
          · have H := ite_t H hq100
            refine W_seq ?_
            refine W_reg ?_
            refine L_pu (P_move (.slice A61 n62 c63) rfl) ?_
            refine L_pu (P_move (vi i2) rfl) ?_
            refine L_pu (P_move (vi j2) rfl) ?_
            refine L_pu (P_build (.agg #[vi i2, vi j2]) (fun _ => by kernel_rfl)) ?_
            refine L_lit (kd := kPair) ei43 hc99 ([(⟨i2, j2⟩ : Pair)] : List Pair) (cells := [vi i2, vi j2]) ⟨[vi i2, vi j2], _, rfl, (kPair.mk _ _ (⟨i2, j2⟩ : Pair)), rfl⟩ (fun _ => by kernel_rfl) fun w101 A102 n103 c104 g105 hr106 hc107 h108 => ?_
            obtain ⟨hb110, H⟩ := H
            have h111 := ((h70.sn g97).so _ g105 hr106)
            refine L_app ei43 hc107 (.slice A61 n62 c63) xs2 ([(⟨i2, j2⟩ : Pair)] : List Pair) rfl h111 (.slice A102 n103 c104) rfl h108.sx 1 rfl hb110 fun w112 A113 n114 c115 g116 s117 hc118 h119 => ?_
            refine L_pu (P_assign (.slice A113 n114 c115) rfl) ?_
            refine L_nil ?_
            refine W_seq ?_
            refine W_reg ?_
            refine L_pu (P_move (vi i2) rfl) ?_
            obtain ⟨hb122, H⟩ := H
            have hi121 : I64 (i2 + 1) := i64_succ (of_decide_eq_true hq79) hl78 hb122
            refine L_pu (P_add i2 1 rfl rfl hi121) ?_
            refine L_pu (P_assign (vi (i2 + 1)) rfl) ?_
            refine L_nil ?_
            refine W_reg ?_
            refine L_pu (P_move (vi j2) rfl) ?_
            obtain ⟨hb124, H⟩ := H
            have hi123 : I64 (j2 + 1) := i64_succ (of_decide_eq_true hq81) hl80 hb124
            refine L_pu (P_add j2 1 rfl rfl hi123) ?_
            refine L_pu (P_assign (vi (j2 + 1)) rfl) ?_
            refine L_nil ?_
            have hc125 := hc118.drop 0 rfl
            obtain ⟨hI126, hm127⟩ := H
            have h128 := ((((h67.st (.new _ g97)).st (.own _ _ g105 hr106)).st s117).st (.dr _ (L := [blk (.slice A102 n103 c104), blk (.slice A113 n114 c115)]) (O := O) (j := 0) rfl))
            have h129 := ((((h68.st (.new _ g97)).st (.own _ _ g105 hr106)).st s117).st (.dr _ (L := [blk (.slice A102 n103 c104), blk (.slice A113 n114 c115)]) (O := O) (j := 0) rfl))
            have h130 := ((((h69.st (.new _ g97)).st (.own _ _ g105 hr106)).st s117).st (.dr _ (L := [blk (.slice A102 n103 c104), blk (.slice A113 n114 c115)]) (O := O) (j := 0) rfl))
            have h131 := (Ow.sd (L := [blk (.slice A102 n103 c104), blk (.slice A113 n114 c115)]) (O := O) h119 (i := 1) rfl (j := 0) rfl (by decide))
            exact ⟨((xs2 ++ ([(⟨i2, j2⟩ : Pair)] : List Pair)), A113, n114, c115, i2 + 1, j2 + 1), hm127, hI126, ⟨rfl, rfl, rfl, rfl, rfl, rfl, trivial⟩, hc125, h128, h129, h130, h131⟩
          · have H := ite_f H hq100
            refine W_seq ?_
            refine W_draw (fun x => Gr w96 x none) (by kernel_rfl) (by kernel_rfl) (Gr.drew _) ?_
            refine Q_pu (P_move (.slice A26 n27 c28) rfl) ?_
            refine Q_pu (P_move (vi i2) rfl) ?_
            obtain ⟨hb133, H⟩ := H
            have hi132 : I64 (i2 + 1) := i64_succ (of_decide_eq_true hq79) hl78 hb133
            refine Q_pu (P_add i2 1 rfl rfl hi132) ?_
            obtain ⟨hb134, H⟩ := H
            obtain ⟨ad135, cs136, hA137, hS140, hR138, hcl139⟩ := (h69.st (.new _ g97)).get default (by decide) (i2 + 1) hb134
            obtain ⟨A141, n142, c143, rfl, h144⟩ := Kd.sl.op hR138
            refine Q_pu (P_ia Try.underlying66 se66 A26 ad135 n27 c28 (h69.st (.new _ g97)).len (i2 + 1) rfl hA137 rfl hb134) ?_
            refine Q_pu (P_ld ag65 cQ (ad135.add ((i2 + 1).toNat * 1)) (.slice A141 n142 c143) rfl (hcl139 0 _ rfl)) ?_
            refine Q_pu (P_move (vi j2) rfl) ?_
            obtain ⟨hb146, H⟩ := H
            obtain ⟨ad147, cs148, hA149, hS152, hR150, hcl151⟩ := h144.get default (by decide) j2 hb146
            obtain rfl := Kd.int.op hR150
            refine Q_pu (P_ia Try.underlying65 se65 A141 ad147 n142 c143 h144.len j2 rfl hA149 rfl hb146) ?_
            refine Q_pu (P_ld ag3 cQ (ad147.add (j2.toNat * 1)) (vi (nth (nth r (i2 + 1)) j2)) rfl (hcl151 0 _ rfl)) ?_
            refine Q_pu (P_move (.slice A26 n27 c28) rfl) ?_
            refine Q_pu (P_move (vi i2) rfl) ?_
            obtain ⟨hb153, H⟩ := H
            obtain ⟨ad154, cs155, hA156, hS159, hR157, hcl158⟩ := (h69.st (.new _ g97)).get default (by decide) i2 hb153
            obtain ⟨A160, n161, c162, rfl, h163⟩ := Kd.sl.op hR157
            refine Q_pu (P_ia Try.underlying66 se66 A26 ad154 n27 c28 (h69.st (.new _ g97)).len i2 rfl hA156 rfl hb153) ?_
            refine Q_pu (P_ld ag65 cQ (ad154.add (i2.toNat * 1)) (.slice A160 n161 c162) rfl (hcl158 0 _ rfl)) ?_
            refine Q_pu (P_move (vi j2) rfl) ?_
            obtain ⟨hb166, H⟩ := H
            have hi165 : I64 (j2 + 1) := i64_succ (of_decide_eq_true hq81) hl80 hb166
            refine Q_pu (P_add j2 1 rfl rfl hi165) ?_
            obtain ⟨hb167, H⟩ := H
            obtain ⟨ad168, cs169, hA170, hS173, hR171, hcl172⟩ := h163.get default (by decide) (j2 + 1) hb167
            obtain rfl := Kd.int.op hR171
            refine Q_pu (P_ia Try.underlying65 se65 A160 ad168 n161 c162 h163.len (j2 + 1) rfl hA170 rfl hb167) ?_
            refine Q_pu (P_ld ag3 cQ (ad168.add ((j2 + 1).toNat * 1)) (vi (nth (nth r i2) (j2 + 1))) rfl (hcl172 0 _ rfl)) ?_
            refine Q_pu (P_cmp (nth (nth r (i2 + 1)) j2) (nth (nth r i2) (j2 + 1)) (decide ((nth (nth r (i2 + 1)) j2) ≥ (nth (nth r i2) (j2 + 1)))) rfl rfl rfl) ?_
            refine Q_pu (P_assign (vb (decide ((nth (nth r (i2 + 1)) j2) ≥ (nth (nth r i2) (j2 + 1))))) rfl) ?_
            refine Q_nil fun w174 g175 => ?_
            have hc177 := hc99.k0 g175
            refine W_cond (decide ((nth (nth r (i2 + 1)) j2) ≥ (nth (nth r i2) (j2 + 1)))) rfl (fun hq178 => ?_) (fun hq178 => ?_)
            · have H := ite_t H hq178
              refine W_reg ?_
              refine L_pu (P_move (vi i2) rfl) ?_
              obtain ⟨hb180, H⟩ := H
              have hi179 : I64 (i2 + 1) := i64_succ (of_decide_eq_true hq79) hl78 hb180
              refine L_pu (P_add i2 1 rfl rfl hi179) ?_
              refine L_pu (P_assign (vi (i2 + 1)) rfl) ?_
              refine L_nil ?_
              obtain ⟨hI181, hm182⟩ := H
              have h183 := ((h67.st (.new _ g97)).st (.new _ g175))
              have h184 := ((h68.st (.new _ g97)).st (.new _ g175))
              have h185 := ((h69.st (.new _ g97)).st (.new _ g175))
              have h186 := ((h70.sn g97).sn g175)
              exact ⟨(xs2, A61, n62, c63, i2 + 1, j2), hm182, hI181, ⟨rfl, rfl, rfl, rfl, rfl, rfl, trivial⟩, hc177, h183, h184, h185, h186⟩
            · have H := ite_f H hq178
              refine W_reg ?_
              refine L_pu (P_move (vi j2) rfl) ?_
              obtain ⟨hb188, H⟩ := H
              have hi187 : I64 (j2 + 1) := i64_succ (of_decide_eq_true hq81) hl80 hb188
              refine L_pu (P_add j2 1 rfl rfl hi187) ?_
              refine L_pu (P_assign (vi (j2 + 1)) rfl) ?_
              refine L_nil ?_
              obtain ⟨hI189, hm190⟩ := H
              have h191 := ((h67.st (.new _ g97)).st (.new _ g175))
              have h192 := ((h68.st (.new _ g97)).st (.new _ g175))
              have h193 := ((h69.st (.new _ g97)).st (.new _ g175))
              have h194 := ((h70.sn g97).sn g175)
              exact ⟨(xs2, A61, n62, c63, i2, j2 + 1), hm190, hI189, ⟨rfl, rfl, rfl, rfl, rfl, rfl, trivial⟩, hc177, h191, h192, h193, h194⟩
        · have H := ite_f H hq81
          refine W_exit (xin_hit ?_)
          refine W_seq ?_
          refine W_reg ?_
          refine L_pu (P_move (.slice A61 n62 c63) rfl) ?_
          refine L_pu (P_assign (.slice A61 n62 c63) rfl) ?_
          refine L_nil ?_
          refine W_ret ?_
          exact ⟨[.slice A61 n62 c63], ⟨_, rfl, rfl⟩, xs2, A61, n62, c63, rfl, H, hc66.gr, hc66.ok, hc66.ge, h70⟩
      · have H := ite_f H hq79
        refine L_pass (dj := 26) rfl rfl (.inl (by exact congrArg Value.bool hq79)) ?_
        refine L_pass (dj := 26) rfl rfl (.inl (by exact congrArg Value.bool hq79)) ?_
        refine L_pass (dj := 26) rfl rfl (.inl (by exact congrArg Value.bool hq79)) ?_
        refine L_pass (dj := 26) rfl rfl (.inl (by exact congrArg Value.bool hq79)) ?_
        refine L_pu (P_pick false (vb false) (by exact congrArg Value.bool hq79) rfl) ?_
        refine L_nil ?_
        refine W_cf (b := false) rfl rfl ?_
        refine W_exit (xin_hit ?_)
        refine W_seq ?_
        refine W_reg ?_
        refine L_pu (P_move (.slice A61 n62 c63) rfl) ?_
        refine L_pu (P_assign (.slice A61 n62 c63) rfl) ?_
        refine L_nil ?_
        refine W_ret ?_
        exact ⟨[.slice A61 n62 c63], ⟨_, rfl, rfl⟩, xs2, A61, n62, c63, rfl, H, hc66.gr, hc66.ok, hc66.ge, h70⟩
end Go.Proofs.Ytnliofcjplnboaa

namespace Go.Proofs.Ytnliofcjplnboaa
set_option linter.unusedVariables false
set_option linter.unusedSimpArgs false
theorem impl_SeqPairs.law (a b : List Pt) (Q : List Pair → Prop) (hq : Q (spairs a b)) : impl_SeqPairs.E a b Q := by
  unfold impl_SeqPairs.E
  unfold spairs at hq
  by_cases h1 : (a.length : Int) > 12
  · rw [if_pos (by simpa using h1)]
    rw [if_neg (by rw [few_iff]; omega)] at hq; exact hq
  rw [if_neg (by simpa using h1)]
  by_cases h2 : (b.length : Int) > 12
  · rw [if_pos (by simpa using h2)]
    rw [if_neg (by rw [few_iff]; omega)] at hq; exact hq
  rw [if_neg (by simpa using h2)]
  rw [if_pos (by rw [few_iff]; omega)] at hq
  refine impl_lengths.law _ _ _ (by omega) (by omega) fun t ht => ?_
  refine ⟨fun xs i j => ∃ u v : Nat, i = u ∧ j = v ∧ u ≤ a.length ∧ v ≤ b.length ∧ xs ++ (pairs u v (a.drop u) (b.drop v)).map mkP = (pairs 0 0 a b).map mkP, fun _ i j => ((a.length - i) + (b.length - j)).toNat, ⟨0, 0, rfl, rfl, Nat.zero_le _, Nat.zero_le _, rfl⟩, ?_⟩
  rintro xs _ _ ⟨u, v, rfl, rfl, hu, hv, hx⟩
  by_cases hu0 : (u : Int) < (a.length : Int)
  · rw [if_pos (by simpa using hu0)]
    by_cases hv0 : (v : Int) < (b.length : Int)
    · rw [if_pos (by simpa using hv0)]
      have hu1 : u < a.length := by omega
      have hv1 : v < b.length := by omega
      rw [pairs_drop a b hu1 hv1] at hx
      have eu : (u : Int) + 1 = ((u + 1 : Nat) : Int) := by omega
      have ev : (v : Int) + 1 = ((v + 1 : Nat) : Int) := by omega
      rw [eqPt_is, eu, ev]
      refine ⟨by omega, by omega, ?_⟩
      by_cases he : nth a (u : Int) = nth b (v : Int)
      · rw [if_pos (by simpa using he)]
        rw [if_pos he, List.map_cons] at hx
        have hl := congrArg List.length hx
        rw [List.length_map, pairs_len, List.length_append] at hl
        have := lcs_le1 a b
        exact ⟨by simp only [List.length_singleton]; omega, by omega, by omega, ⟨u + 1, v + 1, rfl, rfl, by omega, by omega, by rw [List.append_assoc]; exact hx⟩, by dsimp only; omega⟩
      · rw [if_neg (by simpa using he)]
        rw [if_neg he] at hx
        have t0 := ht.1
        have t1 := ht.2 u (by omega)
        have t2 := ht.2 (u + 1) (by omega)
        have n1 := t2.2 v (by omega) trivial
        have n2 := t1.2 (v + 1) (by omega) trivial
        have l1 := t1.1
        have l2 := t2.1
        refine ⟨by omega, by omega, by omega, by omega, by omega, by omega, ?_⟩
        rw [n1, n2]
        by_cases hc : lcs (a.drop u) (b.drop (v + 1)) ≤ lcs (a.drop (u + 1)) (b.drop v)
        · rw [if_pos (by simpa using hc)]
          rw [if_pos hc] at hx
          exact ⟨by omega, ⟨u + 1, v, rfl, rfl, by omega, by omega, hx⟩, by dsimp only; omega⟩
        · rw [if_neg (by simpa using hc)]
          rw [if_neg hc] at hx
          exact ⟨by omega, ⟨u, v + 1, rfl, rfl, by omega, by omega, hx⟩, by dsimp only; omega⟩
    · rw [if_neg (by simpa using hv0)]
      rw [List.drop_of_length_le (by omega : b.length ≤ v), pairs_nil2, List.map_nil, List.append_nil] at hx
      rw [hx]; exact hq
  · rw [if_neg (by simpa using hu0)]
    rw [List.drop_of_length_le (by omega : a.length ≤ u), pairs_nil, List.map_nil, List.append_nil] at hx
    rw [hx]; exact hq
end Go.Proofs.Ytnliofcjplnboaa

namespace Go.Proofs.Ytnliofcjplnboaa
open Go.RowKit
set_option linter.unusedVariables false
def impl_partner.E (list : List Pair) (at_ : Int) (Q : Int → Prop) : Prop :=
  (∃ (I19 : Int → Prop) (mu20 : Int → Nat), I19 0 ∧ ∀ (v2 : Int), I19 v2 → (if decide (v2 < (list.length : Int)) then ((0 : Int) ≤ v2 ∧ v2 < (list.length : Int)) ∧ (if ((nth list v2).A) == at_ then Q ((nth list v2).B) else (I64 (v2 + 1)) ∧ I19 (v2 + 1) ∧ mu20 (v2 + 1) < mu20 v2) else Q (-1)))
set_option maxHeartbeats 8000000 in
set_option maxRecDepth 100000 in
theorem impl_partner.calls {O : Ob} (w0 : World) (hO : Ok w0 O) (list : List Pair) (A1 : Option Addr) (n2 c3 : Nat) (hp4 : Sl kPair w0 (Fr O) (.slice A1 n2 c3) list) (at_ : Int) (Q : Int → Prop) (h : impl_partner.E list at_ Q) :
    Ret Try.prog 53 [.slice A1 n2 c3, vi at_] w0 (fun v w' => ∃ (r0 : Int), v = vi r0 ∧ Q r0 ∧ Gr w0 w' none) := by
  have H : (∃ (I19 : Int → Prop) (mu20 : Int → Nat), I19 0 ∧ ∀ (v2 : Int), I19 v2 → (if decide (v2 < (list.length : Int)) then ((0 : Int) ≤ v2 ∧ v2 < (list.length : Int)) ∧ (if ((nth list v2).A) == at_ then Q ((nth list v2).B) else (I64 (v2 + 1)) ∧ I19 (v2 + 1) ∧ mu20 (v2 + 1) < mu20 v2) else Q (-1))) := h
  clear h
  have hc0 := Ct.init hO
  refine Ret_enter Try.func53 rfl 20 rfl [.tmp 4] rfl rfl ?_
  refine W_seq ?_
  refine W_reg ?_
  refine L_pu (P_assign (vi 0) rfl) ?_
  refine L_nil ?_
  refine W_seq ?_
  refine W_seq ?_
  refine W_reg ?_
  refine L_pu (P_move (.slice A1 n2 c3) rfl) ?_
  have hl6 := hp4.le
  refine L_pu (P_len Try.underlying43 A1 n2 c3 hp4.len rfl) ?_
  refine L_pu (P_move (vi 0) rfl) ?_
  refine L_nil ?_
  refine W_block ?_
  obtain ⟨I19, mu20, hI21, H⟩ := H
  refine W_loop (α := Int) (fun (s : Int) t w15 => match s with | v2 => I19 v2 ∧ Has t [(1, vi at_), (7, .slice A1 n2 c3), (8, vi (list.length : Int)), (9, vi v2)] ∧ Ct none w0 w15 [] O ∧ Sl kPair w15 (Fr ([] ++ O)) (.slice A1 n2 c3) list) (fun (s : Int) => match s with | v2 => mu20 v2) 0 ⟨hI21, ⟨rfl, rfl, rfl, rfl, trivial⟩, hc0, hp4⟩ ?_
  rintro v2 _ w15 ⟨hI21, hh23, hc17, h18⟩
  obtain ⟨u24, rfl⟩ := Has.ins hh23
  have H := H v2 hI21
  refine W_seq ?_
  refine W_reg ?_
  refine L_pu (P_cmp v2 (list.length : Int) (decide (v2 < (list.length : Int))) rfl rfl rfl) ?_
  refine L_nil ?_
  refine W_seq ?_
  refine W_cond (decide (v2 < (list.length : Int))) rfl (fun hq25 => ?_) (fun hq25 => ?_)
  · have H := ite_t H hq25
    refine W_skip ?_
    refine W_seq ?_
    refine W_block ?_
    refine W_seq ?_
    refine W_reg ?_
    obtain ⟨hb26, H⟩ := H
    obtain ⟨ad27, cs28, hA29, hS32, hR30, hcl31⟩ := h18.get default (by decide) v2 hb26
    obtain rfl := kPair.op hR30
    refine L_pu (P_ia Try.underlying43 se43 A1 ad27 n2 c3 h18.len v2 rfl hA29 rfl hb26) ?_
    refine L_pu (P_lda ag46 sz46 cL (ad27.add (v2.toNat * 2)) [vi ((nth list v2).A), vi ((nth list v2).B)] rfl rfl hcl31) ?_
    refine L_alloc [.int .i64 0, .int .i64 0] ze46 fun w33 b34 hl36 hu37 g35 hx38 => ?_
    have hc40 := hc17.own g35 (some b34) (oglt hl36 hu37)
    refine L_stb b34 0 [vi 0, vi 0] [vi ((nth list v2).A), vi ((nth list v2).B)] [vi ((nth list v2).A), vi ((nth list v2).B)] rfl hx38 rfl sz46 rfl rfl rfl fun w41 g42 hx43 => ?_
    have hc44 := hc40.wr 0 rfl g42
    refine L_nil ?_
    refine W_seq ?_
    refine W_reg ?_
    refine L_pu (P_fa fa46_0 ⟨b34, 0, none⟩ ⟨b34, 0, none⟩ rfl rfl) ?_
    refine L_pu (P_ld ag3 cL ⟨b34, 0, none⟩ (vi ((nth list v2).A)) rfl (hx43.cell rfl)) ?_
    refine L_pu (P_move (vi at_) rfl) ?_
    refine L_pu (P_cmp ((nth list v2).A) at_ (((nth list v2).A) == at_) rfl rfl rfl) ?_
    refine L_nil ?_
    refine W_cond (((nth list v2).A) == at_) rfl (fun hq45 => ?_) (fun hq45 => ?_)
    · have H := ite_t H hq45
      refine W_seq ?_
      refine W_reg ?_
      refine L_pu (P_fa fa46_1 ⟨b34, 0, none⟩ ⟨b34, 1, none⟩ rfl rfl) ?_
      refine L_pu (P_ld ag3 cL ⟨b34, 1, none⟩ (vi ((nth list v2).B)) rfl (hx43.cell rfl)) ?_
      refine L_pu (P_assign (vi ((nth list v2).B)) rfl) ?_
      refine L_nil ?_
      refine W_ret ?_
      have hc46 := hc44.drop 0 rfl
      exact ⟨[vi ((nth list v2).B)], ⟨_, rfl, rfl⟩, (nth list v2).B, rfl, H, hc46.gr⟩
    · have H := ite_f H hq45
      refine W_skip ?_
      refine W_reg ?_
      obtain ⟨hb47, H⟩ := H
      refine L_pu (P_add v2 1 rfl rfl hb47) ?_
      refine L_pu (P_move (vi (v2 + 1)) rfl) ?_
      refine L_nil ?_
      have hc48 := hc44.drop 0 rfl
      obtain ⟨hI49, hm50⟩ := H
      have h51 := (((h18.st (.own _ _ g35 (oge hl36))).st (.wl (L := [some b34]) (O := O) (j := 0) rfl g42)).st (.dr _ (L := [some b34]) (O := O) (j := 0) rfl))
      exact ⟨v2 + 1, hm50, hI49, ⟨rfl, rfl, rfl, rfl, trivial⟩, hc48, h51⟩
  · have H := ite_f H hq25
    refine W_exit (xin_hit ?_)
    refine W_seq ?_
    refine W_reg ?_
    refine L_pu (P_assign (vi (-1)) rfl) ?_
    refine L_nil ?_
    refine W_ret ?_
    exact ⟨[vi (-1)], ⟨_, rfl, rfl⟩, (-1), rfl, H, hc17.gr⟩
end Go.Proofs.Ytnliofcjplnboaa

namespace Go.Proofs.Ytnliofcjplnboaa
set_option linter.unusedVariables false
set_option linter.unusedSimpArgs false
theorem impl_partner.law (l : List Pair) (k : Int) (Q : Int → Prop) (hl : l.length ≤ 1048576) (hq : Q (mateI l k)) : impl_partner.E l k Q := by
  unfold impl_partner.E
  refine ⟨fun i => ∃ u : Nat, i = u ∧ u ≤ l.length ∧ mateI (l.drop u) k = mateI l k, fun i => (l.length - i).toNat, ⟨0, rfl, Nat.zero_le _, rfl⟩, ?_⟩
  rintro _ ⟨u, rfl, hu, he⟩
  by_cases h : (u : Int) < (l.length : Int)
  · rw [if_pos (by simpa using h)]
    rw [drop_nth l (by omega), mateI_cons] at he
    refine ⟨by omega, ?_⟩
    by_cases hc : ((nth l (u : Int)).A == k) = true
    · rw [if_pos hc] at he ⊢
      rw [he]; exact hq
    · rw [if_neg hc] at he ⊢
      exact ⟨by unfold I64; omega, ⟨u + 1, by omega, by omega, he⟩, by dsimp only; omega⟩
  · rw [if_neg (by simpa using h)]
    rw [List.drop_of_length_le (by omega : l.length ≤ u), mateI_nil] at he
    rw [he]; exact hq
end Go.Proofs.Ytnliofcjplnboaa

namespace Go.Proofs.Ytnliofcjplnboaa
open Go.RowKit
set_option linter.unusedVariables false
def slices_Equal_Pt.E (s1 : List Pt) (s2 : List Pt) (Q : Bool → Prop) : Prop :=
  (if (s1.length : Int) != (s2.length : Int) then Q false else (∃ (I32 : Int → Prop) (mu33 : Int → Nat), I32 0 ∧ ∀ (v2 : Int), I32 v2 → (if decide (v2 < (s1.length : Int)) then ((0 : Int) ≤ v2 ∧ v2 < (s1.length : Int)) ∧ ((0 : Int) ≤ v2 ∧ v2 < (s2.length : Int)) ∧ (if !(eqPt (nth s1 v2) (nth s2 v2)) then Q false else (I64 (v2 + 1)) ∧ I32 (v2 + 1) ∧ mu33 (v2 + 1) < mu33 v2) else Q true)))
set_option maxHeartbeats 8000000 in
set_option maxRecDepth 100000 in
theorem slices_Equal_Pt.calls {O : Ob} (w0 : World) (hO : Ok w0 O) (s1 : List Pt) (A1 : Option Addr) (n2 c3 : Nat) (hp4 : Sl kPt w0 (Fr O) (.slice A1 n2 c3) s1) (s2 : List Pt) (A6 : Option Addr) (n7 c8 : Nat) (hp9 : Sl kPt w0 (Fr O) (.slice A6 n7 c8) s2) (Q : Bool → Prop) (h : slices_Equal_Pt.E s1 s2 Q) :
    Ret Try.prog 54 [.slice A1 n2 c3, .slice A6 n7 c8] w0 (fun v w' => ∃ (r0 : Bool), v = vb r0 ∧ Q r0 ∧ Gr w0 w' none) := by
  have H : (if (s1.length : Int) != (s2.length : Int) then Q false else (∃ (I32 : Int → Prop) (mu33 : Int → Nat), I32 0 ∧ ∀ (v2 : Int), I32 v2 → (if decide (v2 < (s1.length : Int)) then ((0 : Int) ≤ v2 ∧ v2 < (s1.length : Int)) ∧ ((0 : Int) ≤ v2 ∧ v2 < (s2.length : Int)) ∧ (if !(eqPt (nth s1 v2) (nth s2 v2)) then Q false else (I64 (v2 + 1)) ∧ I32 (v2 + 1) ∧ mu33 (v2 + 1) < mu33 v2) else Q true))) := h
  clear h
  have hc0 := Ct.init hO
  refine Ret_enter Try.func54 rfl 26 rfl [.tmp 4] rfl rfl ?_
  refine W_seq ?_
  refine W_reg ?_
  refine L_pu (P_assign (vb false) rfl) ?_
  refine L_nil ?_
  refine W_seq ?_
  refine W_seq ?_
  refine W_reg ?_
  refine L_pu (P_move (.slice A1 n2 c3) rfl) ?_
  have hl11 := hp4.le
  refine L_pu (P_len Try.underlying33 A1 n2 c3 hp4.len rfl) ?_
  refine L_pu (P_move (.slice A6 n7 c8) rfl) ?_
  have hl12 := hp9.le
  refine L_pu (P_len Try.underlying33 A6 n7 c8 hp9.len rfl) ?_
  refine L_pu (P_cmp (s1.length : Int) (s2.length : Int) ((s1.length : Int) != (s2.length : Int)) rfl rfl rfl) ?_
  refine L_nil ?_
  refine W_cond ((s1.length : Int) != (s2.length : Int)) rfl (fun hq13 => ?_) (fun hq13 => ?_)
  · have H := ite_t H hq13
    refine W_seq ?_
    refine W_reg ?_
    refine L_pu (P_assign (vb false) rfl) ?_
    refine L_nil ?_
    refine W_ret ?_
    exact ⟨[vb false], ⟨_, rfl, rfl⟩, false, rfl, H, hc0.gr⟩
  · have H := ite_f H hq13
    refine W_skip ?_
    refine W_seq ?_
    refine W_seq ?_
    refine W_reg ?_
    refine L_pu (P_move (.slice A1 n2 c3) rfl) ?_
    refine L_pu (P_len Try.underlying33 A1 n2 c3 hp4.len rfl) ?_
    refine L_pu (P_move (vi 0) rfl) ?_
    refine L_nil ?_
    refine W_block ?_
    obtain ⟨I32, mu33, hI34, H⟩ := H
    refine W_loop (α := Int) (fun (s : Int) t w26 => match s with | v2 => I32 v2 ∧ Has t [(0, .slice A1 n2 c3), (1, .slice A6 n7 c8), (12, vi (s1.length : Int)), (13, vi v2)] ∧ Ct none w0 w26 [] O ∧ Sl kPt w26 (Fr ([] ++ O)) (.slice A1 n2 c3) s1 ∧ Sl kPt w26 (Fr ([] ++ O)) (.slice A6 n7 c8) s2) (fun (s : Int) => match s with | v2 => mu33 v2) 0 ⟨hI34, ⟨rfl, rfl, rfl, rfl, trivial⟩, hc0, hp4, hp9⟩ ?_
    rintro v2 _ w26 ⟨hI34, hh36, hc29, h30, h31⟩
    obtain ⟨u37, rfl⟩ := Has.ins hh36
    have H := H v2 hI34
    refine W_seq ?_
    refine W_reg ?_
    refine L_pu (P_cmp v2 (s1.length : Int) (decide (v2 < (s1.length : Int))) rfl rfl rfl) ?_
    refine L_nil ?_
    refine W_seq ?_
    refine W_cond (decide (v2 < (s1.length : Int))) rfl (fun hq38 => ?_) (fun hq38 => ?_)
    · have H := ite_t H hq38
      refine W_skip ?_
      refine W_seq ?_
      refine W_block ?_
      refine W_seq ?_
      refine W_reg ?_
      refine L_pu (P_move (vi v2) rfl) ?_
      refine L_pu (P_assign (vi v2) rfl) ?_
      refine L_nil ?_
      refine W_seq ?_
      refine W_draw (fun x => Gr w26 x none) (by kernel_rfl) (by kernel_rfl) (Gr.drew _) ?_
      refine Q_pu (P_move (.slice A1 n2 c3) rfl) ?_
      refine Q_pu (P_move (vi v2) rfl) ?_
      obtain ⟨hb39, H⟩ := H
      obtain ⟨ad40, cs41, hA42, hS45, hR43, hcl44⟩ := h30.get default (by decide) v2 hb39
      obtain rfl := kPt.op hR43
      refine Q_pu (P_ia Try.underlying33 se33 A1 ad40 n2 c3 h30.len v2 rfl hA42 rfl hb39) ?_
      refine Q_pu (P_lda ag41 sz41 cQ (ad40.add (v2.toNat * 2)) [vi ((nth s1 v2).X), vi ((nth s1 v2).Y)] rfl rfl hcl44) ?_
      refine Q_pu (P_move (.slice A6 n7 c8) rfl) ?_
      refine Q_pu (P_move (vi v2) rfl) ?_
      obtain ⟨hb46, H⟩ := H
      obtain ⟨ad47, cs48, hA49, hS52, hR50, hcl51⟩ := h31.get default (by decide) v2 hb46
      obtain rfl := kPt.op hR50
      refine Q_pu (P_ia Try.underlying33 se33 A6 ad47 n7 c8 h31.len v2 rfl hA49 rfl hb46) ?_
      refine Q_pu (P_lda ag41 sz41 cQ (ad47.add (v2.toNat * 2)) [vi ((nth s2 v2).X), vi ((nth s2 v2).Y)] rfl rfl hcl51) ?_
      refine Q_pu (P_ne _ _ (eqPt (nth s1 v2) (nth s2 v2)) (qt41 (nth s1 v2) (nth s2 v2)) rfl rfl) ?_
      refine Q_nil fun w53 g54 => ?_
      have hc56 := hc29.k0 g54
      refine W_cond (!(eqPt (nth s1 v2) (nth s2 v2))) rfl (fun hq57 => ?_) (fun hq57 => ?_)
      · have H := ite_t H hq57
        refine W_seq ?_
        refine W_reg ?_
        refine L_pu (P_assign (vb false) rfl) ?_
        refine L_nil ?_
        refine W_ret ?_
        exact ⟨[vb false], ⟨_, rfl, rfl⟩, false, rfl, H, hc56.gr⟩
      · have H := ite_f H hq57
        refine W_skip ?_
        refine W_reg ?_
        obtain ⟨hb58, H⟩ := H
        refine L_pu (P_add v2 1 rfl rfl hb58) ?_
        refine L_pu (P_move (vi (v2 + 1)) rfl) ?_
        refine L_nil ?_
        obtain ⟨hI59, hm60⟩ := H
        exact ⟨v2 + 1, hm60, hI59, ⟨rfl, rfl, rfl, rfl, trivial⟩, hc56, (h30.st (.new _ g54)), (h31.st (.new _ g54))⟩
    · have H := ite_f H hq38
      refine W_exit (xin_hit ?_)
      refine W_seq ?_
      refine W_reg ?_
      refine L_pu (P_assign (vb true) rfl) ?_
      refine L_nil ?_
      refine W_ret ?_
      exact ⟨[vb true], ⟨_, rfl, rfl⟩, true, rfl, H, hc29.gr⟩
end Go.Proofs.Ytnliofcjplnboaa

namespace Go.Proofs.Ytnliofcjplnboaa
set_option linter.unusedVariables false
set_option linter.unusedSimpArgs false
theorem slices_Equal_Pt.law (a b : List Pt) (Q : Bool → Prop) (hb : a.length ≤ 1048576) (hq : Q (decide (a = b))) : slices_Equal_Pt.E a b Q := by
  unfold slices_Equal_Pt.E
  exact eqI_shape eqPt eqPt_is a b Q hb hq
end Go.Proofs.Ytnliofcjplnboaa
