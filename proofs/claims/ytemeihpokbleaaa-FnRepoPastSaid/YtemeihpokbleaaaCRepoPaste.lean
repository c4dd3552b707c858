/- It is proved here that the law FnRepoPast of the given program holds whatever it is handed: the walks through the code, the plain laws and the row, in this order.
   Conditions: none. -/
import Derived.Below
import Derived.ChangeArms
import Derived.ChangeOld
import Derived.ChangeSlices
import Derived.DataReads
import Derived.Deep.Quiet
import Derived.KernelRfl
import Derived.Laws.Build
import Derived.Laws.IdiomStrings
import Derived.Laws.OwnMore
import Derived.Laws.Slices
import Derived.Laws.Strings2
import Derived.Laws.StructEq
import Derived.OpenShut
import Derived.ProofKit
import Derived.Shelf.Slices.CompactS
import Derived.Shelf.Sort.Plain
import Derived.ShutString
import Derived.SizedLaws
import Derived.StillTail
import Derived.Test.YtemeihpokbleaaaProg
import Derived.Test.YtemeihpokbleaaaRows
import Derived.WalkKit
import Derived.Test.YtemeihpokbleaaaCRepoPasta
import Derived.Test.YtemeihpokbleaaaCRepoPastb
import Derived.Test.YtemeihpokbleaaaCRepoPastc
import Derived.Test.YtemeihpokbleaaaCRepoPastd
namespace Go.Proofs.Ytemeihpokbleaaa
set_option linter.unusedVariables false
set_option linter.unusedSimpArgs false
set_option linter.unusedSectionVars false
set_option maxHeartbeats 8000000
set_option maxRecDepth 100000
open Go.RowKit
variable {O : Ob} {w0 : World}
inductive Reach (r : Repo) : Nat → Nat → Prop
 | refl (b : Nat) : Reach r b b
 | step {b i : Nat} (u : Int) : u ∈ (nth r.Commits (b : Int)).Up → Reach r u.toNat i → Reach r b i
theorem Reach.trans {r : Repo} {a b c : Nat} (h : Reach r a b) (g : Reach r b c) : Reach r a c := by
 induction h with
 | refl b => exact g
 | step u hu _ ih => exact .step u hu (ih g)
def Ups (r : Repo) : Prop := ∀ k : Nat, k < r.Commits.length → ∀ u ∈ (nth r.Commits (k : Int)).Up, 0 ≤ u ∧ u < (k : Int)
theorem Reach.le {r : Repo} (hr : Ups r) {a b : Nat} (h : Reach r a b) (ha : a < r.Commits.length) : b ≤ a := by
 induction h with
 | refl b => exact Nat.le_refl _
 | step u hu _ ih =>
  have := hr _ ha u hu
  have := ih OM
  omega
theorem nth_mark (m : List Bool) {i : Nat} (hi : i < m.length) (j : Nat) : nth (m.set i true) (j : Int) = true ↔ nth m (j : Int) = true ∨ j = i := by
 rw [nth_set _ hi]
 by_cases e : j = i
 ·rw [if_pos OM]; simp [e]
 ·rw [if_neg OM]; simp [e]
theorem stepUp_mark (up : List Int) (m : List Bool) (h : ∀ u ∈ up, u.toNat < m.length) (j : Nat) : nth (stepUp up m) (j : Int) = true ↔ nth m (j : Int) = true ∨ ∃ u ∈ up, u.toNat = j := by
 unfold stepUp
 induction up generalizing m with
 | nil => simp
 | cons u up ih =>
  rw [List.foldl_cons, ih _ (fun x hx => by rw [List.length_set]; exact h x (List.mem_cons_of_mem _ hx)), nth_mark m (h u (List.mem_cons_self ..))]
  simp only [List.mem_cons, exists_eq_or_imp]
  constructor
  ·rintro ((h | h) | h)
   ·exact .inl h
   ·exact .inr (.inl h.symm)
   ·exact .inr (.inr h)
  ·rintro (h | h | h)
   ·exact .inl (.inl h)
   ·exact .inl (.inr h.symm)
   ·exact .inr h
theorem back_mark {r : Repo} (hr : Ups r) : ∀ (n : Nat) (m : List Bool), n ≤ r.Commits.length → m.length = r.Commits.length → ∀ i : Nat,
  (nth (back r n m) (i : Int) = true ↔ ∃ j : Nat, nth m (j : Int) = true ∧ (i = j ∨ (j < n ∧ Reach r j i))) := by
 intro n
 induction n with
 | zero =>
  intro m _ _ i
  show nth m (i : Int) = true ↔ _
  constructor
  ·intro h; exact ⟨i, h, .inl rfl⟩
  ·rintro ⟨j, h, rfl | ⟨h0, _⟩⟩
   ·exact h
   ·omega
 | succ n ih =>
  intro m hn hm i
  have hu := hr n OM
  have hs : ∀ j : Nat, nth (if nth m (n : Int) then stepUp (nth r.Commits (n : Int)).Up m else m) (j : Int) = true ↔ nth m (j : Int) = true ∨ (nth m (n : Int) = true ∧ ∃ u ∈ (nth r.Commits (n : Int)).Up, u.toNat = j) := fun j => by
   split
   ·rename_i h
    rw [stepUp_mark _ _ fun u hx => by have := hu u hx; omega]
    exact ⟨fun g => g.imp id fun g => ⟨h, g⟩, fun g => g.imp id fun g => g.2⟩
   ·rename_i h
    exact ⟨.inl, fun g => g.elim id fun g => absurd g.1 h⟩
  rw [back, ih _ OM (by split <;> simp [stepUp_len, hm])]
  constructor
  ·rintro ⟨j, h1, h2⟩
   rcases (hs j).1 h1 with h | ⟨h, u, hx, rfl⟩
   ·exact ⟨j, h, h2.imp id fun ⟨a, b⟩ => ⟨OM, b⟩⟩
   ·refine ⟨n, h, .inr ⟨OM, ?_⟩⟩
    rcases h2 with rfl | ⟨_, h2⟩
    ·exact .step u hx (.refl _)
    ·exact .step u hx h2
  ·rintro ⟨j, h, rfl | ⟨h1, h2⟩⟩
   ·exact ⟨i, (hs i).2 (.inl h), .inl rfl⟩
   ·by_cases e : j < n
    ·exact ⟨j, (hs j).2 (.inl h), .inr ⟨e, h2⟩⟩
    ·have en : j = n := by omega
     rw [en] at h h2
     cases h2 with
     | refl => exact ⟨n, (hs n).2 (.inl h), .inl rfl⟩
     | step u hx h2 =>
      have := hu u hx
      exact ⟨u.toNat, (hs _).2 (.inr ⟨h, u, hx, rfl⟩), .inr ⟨OM, h2⟩⟩
theorem pastOf_mark {r : Repo} (hr : Ups r) {b : Nat} (hb : b < r.Commits.length) (i : Nat) : nth (pastOf r b) (i : Int) = true ↔ Reach r b i := by
 unfold pastOf
 rw [back_mark hr _ _ OM (by simp)]
 have h0 : ∀ j : Nat, nth ((List.replicate r.Commits.length false).set b true) (j : Int) = true ↔ j = b := fun j => by
  rw [nth_mark _ (by simpa using hb)]
  have : nth (List.replicate r.Commits.length false) (j : Int) = false := by
   unfold nth
   rw [Int.toNat_natCast, List.getD_eq_getElem?_getD, List.getElem?_replicate]
   split <;> rfl
  rw [this]; simp
 constructor
 ·rintro ⟨j, h1, h2⟩
  obtain rfl := (h0 j).1 h1
  rcases h2 with rfl | ⟨_, h2⟩
  ·exact .refl _
  ·exact h2
 ·intro h
  exact ⟨b, (h0 b).2 rfl, .inr ⟨OM, h⟩⟩
section
open Go.RowKit Go.Shelf Go.Sort Go.Lib
theorem strs_arr {w : World} {S : Sp} : ∀ {xs : List Str} {cs : List Value}, Arr Kd.str w S xs cs → cs = xs.map vs ∧ ∀ x ∈ xs, Lim x
 | [], _, h => ⟨h, fun x hx => by cases hx⟩
 | x :: xs, _, ⟨c1, c2, e, h1, h2⟩ => by
  obtain ⟨e2, h3⟩ := strs_arr h2
  refine ⟨by rw [e, h1.1, e2]; rfl, fun y hy => ?_⟩
  rcases List.mem_cons.1 hy with rfl | hy
  ·exact h1.2
  ·exact h3 y hy
theorem Ow.holds {e : TypeId} {w : World} {O : Ob} {g n c : Nat} {xs : List Str} (h : Ow Kd.str e w O (.slice (some ⟨g, 0, none⟩) n c) xs) : Holds encStr w g 0 xs.toArray := by
 obtain ⟨cells, o1, o2, o3⟩ := h
 obtain ⟨e2, _⟩ := strs_arr o2
 intro j hj
 simp only [List.size_toArray] at hj
 rcases o1.2 with ⟨_, e'⟩ | ⟨g', cap, cur, ev, h0, hg, hle, hmx, hcur, htake⟩
 ·omega
 ·cases ev
  have hc := World.ownsRow.cells o1 (g := g) rfl j (vs xs[j]) (by rw [e2]; simp [hj])
  have ha : (⟨g, 0, none⟩ : Addr).add j = ⟨g, 0 + j, none⟩ := by unfold Addr.add; split <;> simp_all
  rw [ha] at hc
  refine ⟨by rw [hc]; simp [hj], ?_⟩
  simp [World.frozen?, hg]
end
section
theorem less_trans : ∀ {a b c : Str}, Op.bytesLess a b = true → Op.bytesLess b c = true → Op.bytesLess a c = true
 | _, _, [], _, h => by rename_i b _; cases b <;> simp [Op.bytesLess] at h
 | _, [], _ :: _, h, _ => by rename_i a _ _ _; cases a <;> simp [Op.bytesLess] at h
 | [], _ :: _, _ :: _, _, _ => by simp [Op.bytesLess]
 | x :: a, y :: b, z :: c, h1, h2 => by
  rw [Op.bytesLess] at h1 h2 ⊢
  simp only [Bool.or_eq_true, Bool.and_eq_true, decide_eq_true_eq, beq_iff_eq] at h1 h2 ⊢
  rcases h1 with h1 | ⟨rfl, h1⟩
  ·rcases h2 with h2 | ⟨rfl, h2⟩
   ·exact .inl (UInt8.lt_trans h1 h2)
   ·exact .inl h1
  ·rcases h2 with h2 | ⟨rfl, h2⟩
   ·exact .inl h2
   ·exact .inr ⟨rfl, less_trans h1 h2⟩
theorem less_or {a b : Str} (h : Op.bytesLess a b = false) : Op.bytesLess b a = true ∨ b = a := by
 have := less_tri a b
 rw [h] at this
 simpa using this.symm
def SS (l : List Str) : Prop := l.Pairwise fun x y => Op.bytesLess x y = true
theorem SS.ext : ∀ {l m : List Str}, SS l → SS m → (∀ x, x ∈ l ↔ x ∈ m) → l = m
 | [], [], _, _, _ => rfl
 | [], y :: m, _, _, h => by have := (h y).2 List.mem_cons_self; cases this
 | x :: l, [], _, _, h => by have := (h x).1 List.mem_cons_self; cases this
 | x :: l, y :: m, hl, hm, h => by
  obtain ⟨l1, l2⟩ := List.pairwise_cons.1 hl
  obtain ⟨m1, m2⟩ := List.pairwise_cons.1 hm
  have e : x = y := by
   rcases List.mem_cons.1 ((h x).1 List.mem_cons_self) with e | e
   ·exact e
   ·rcases List.mem_cons.1 ((h y).2 List.mem_cons_self) with e' | e'
    ·exact e'.symm
    ·have := less_trans (m1 x e) (l1 y e'); rw [less_irr] at this; cases this
  subst e
  rw [SS.ext l2 m2 fun z => ⟨fun hz => ?_, fun hz => ?_⟩]
  ·rcases List.mem_cons.1 ((h z).1 (List.mem_cons_of_mem _ hz)) with e | e
   ·subst e; have := l1 z hz; rw [less_irr] at this; cases this
   ·exact e
  ·rcases List.mem_cons.1 ((h z).2 (List.mem_cons_of_mem _ hz)) with e | e
   ·subst e; have := m1 z hz; rw [less_irr] at this; cases this
   ·exact e
section
open Go.Lib
end
def ids (s : List Feat) : List Str := s.map (·.Id)
theorem ids_app (s t : List Feat) : ids (s ++ t) = ids s ++ ids t := List.map_append
theorem sheet_ss {s : List Feat} (h : sheetOk s = true) : SS (ids s) ∧ s.length ≤ 8 ∧ ∀ f ∈ s, featOk f = true := by
 unfold sheetOk at h
 simp only [Bool.and_eq_true, decide_eq_true_eq] at h
 obtain ⟨h1, h2⟩ := h
 have h1 := allN_iff.1 h1
 have hadj : ∀ k, 0 < k → k < s.length → Op.bytesLess (nth s ((k : Int) - 1)).Id (nth s (k : Int)).Id = true := fun k h0 hk => by
  have := h1 k hk
  simp only [Bool.and_eq_true, Bool.or_eq_true, decide_eq_true_eq] at this
  rcases this.2 with h | h
  ·omega
  ·exact h
 refine ⟨?_, h2, fun f hf => ?_⟩
 ·unfold SS ids
  rw [List.pairwise_map]
  refine List.pairwise_iff_getElem.2 fun i j hi hj hij => ?_
  have key : ∀ d, i + d + 1 < s.length → Op.bytesLess s[i].Id (nth s ((i + d + 1 : Nat) : Int)).Id = true := by
   intro d
   induction d with
   | zero =>
    intro hd
    have := hadj (i + 0 + 1) OM hd
    rw [show (((i + 0 + 1 : Nat) : Int) - 1) = (i : Int) by omega, nth_nat s hi] at this
    exact this
   | succ d ih =>
    intro hd
    have := hadj (i + (d + 1) + 1) OM hd
    rw [show (((i + (d + 1) + 1 : Nat) : Int) - 1) = ((i + d + 1 : Nat) : Int) by omega] at this
    exact less_trans (ih OM) this
  have := key (j - i - 1) OM
  rw [show i + (j - i - 1) + 1 = j by omega, nth_nat s hj] at this
  exact this
 ·obtain ⟨k, hk, rfl⟩ := List.getElem_of_mem hf
  have := h1 k hk
  rw [nth_nat s hk] at this
  simp only [Bool.and_eq_true] at this
  exact this.1
theorem word_len {s : Str} (h : wordOk s = true) : s.length ≤ 6 := by
 unfold wordOk at h
 simp only [Bool.and_eq_true, decide_eq_true_eq] at h
 exact h.2.2
theorem bulk_small {α : Type} [Bulk α] (l : List α) (m : Nat) (h : ∀ x ∈ l, bulk x ≤ m) : bulk l ≤ l.length * (m + 1) := by
 induction l with
 | nil => exact Nat.zero_le _
 | cons x l ih =>
  have h1 := h x List.mem_cons_self
  have h2 := ih fun y hy => h y (List.mem_cons_of_mem _ hy)
  rw [bulk_cons, List.length_cons, Nat.add_mul]
  omega
theorem feat_small {f : Feat} (h : featOk f = true) : bulk f ≤ 100 ∧ f.Id.length ≤ 6 := by
 unfold featOk at h
 simp only [Bool.and_eq_true, decide_eq_true_eq] at h
 obtain ⟨⟨⟨h1, h2⟩, h3⟩, h4⟩ := h
 have hi := word_len h3
 have e1 : bulk f = bulk f.Id + (bulk f.Shape.Kind + bulk f.Shape.Pts) + bulk f.Tags := rfl
 have e2 : bulk f.Id = f.Id.length := bulk_str _
 have e3 : bulk f.Shape.Kind = 0 := rfl
 have e4 : bulk f.Shape.Pts = f.Shape.Pts.length := bulk_flat (fun _ => rfl) _
 have ht : bulk f.Tags ≤ f.Tags.length * (12 + 1) := bulk_small _ 12 fun t hm => by
  unfold tagsOk at h1
  obtain ⟨k, hk, rfl⟩ := List.getElem_of_mem hm
  have := allN_iff.1 h1 k hk
  rw [nth_nat _ hk] at this
  simp only [Bool.and_eq_true] at this
  have a1 := word_len this.1.1
  have a2 := word_len this.1.2
  have b0 : bulk f.Tags[k] = bulk f.Tags[k].Key + bulk f.Tags[k].Val := rfl
  have b1 : bulk f.Tags[k].Key = f.Tags[k].Key.length := bulk_str _
  have b2 : bulk f.Tags[k].Val = f.Tags[k].Val.length := bulk_str _
  omega
 have hp : f.Shape.Pts.length ≤ 6 := by
  unfold shapeOk kindOk at h4
  simp only [Bool.and_eq_true] at h4
  have := h4.2
  split at this
  ·simp only [decide_eq_true_eq] at this; omega
  ·split at this
   ·simp only [Bool.and_eq_true, decide_eq_true_eq] at this; omega
   ·split at this
    ·simp only [Bool.and_eq_true, decide_eq_true_eq] at this; omega
    ·cases this
 have : f.Tags.length * (12 + 1) ≤ 52 := by omega
 omega
end
structure MInv (o a b : List Pt) (xs : List Pt) (i j k t : Nat) : Prop where
 hi : i ≤ t
 ht : t ≤ o.length
 hj : j ≤ a.length
 hk : k ≤ b.length
 fj : From (part o a) t j
 fk : From (part o b) t k
 len : xs.length ≤ j + k
 eq : (mloop o a b (part o a) (part o b) (o.length - t) t i j k).map (xs ++ ·) = smerge o a b
theorem MInv.zero {o a b : List Pt} (h1 : few o a = true) (h2 : few o b = true) : MInv o a b [] 0 0 0 0 :=
 ⟨Nat.le_refl _, Nat.zero_le _, Nat.zero_le _, Nat.zero_le _, From.zero _ _, From.zero _ _, Nat.le_refl _, by rw [smerge_few h1 h2, Nat.sub_zero]; cases mloop o a b (part o a) (part o b) o.length 0 0 0 0 <;> rfl⟩
theorem MInv.skip {o a b xs : List Pt} {i j k t : Nat} (h : MInv o a b xs i j k t) (ht : t < o.length) (hn : part o a t = none ∨ part o b t = none) : MInv o a b xs i j k (t + 1) :=
 ⟨by have := h.hi; omega, ht, h.hj, h.hk, h.fj.skip, h.fk.skip, h.len, by
  have := h.eq
  rw [show o.length - t = (o.length - (t + 1)) + 1 by omega, mloop_none hn] at this
  exact this⟩
theorem MInv.step {o a b xs : List Pt} {i j k t x y : Nat} (h : MInv o a b xs i j k t) (ht : t < o.length) (hx : part o a t = some x) (hy : part o b t = some y) {p : List Pt} (hp : pickL (seg o i t) (seg a j x) (seg b k y) = some p) : MInv o a b (xs ++ p ++ [nth o (t : Int)]) (t + 1) (x + 1) (y + 1) (t + 1) := by
 have h1 := (part_mates o a).lt hx
 have h2 := (part_mates o b).lt hy
 refine ⟨Nat.le_refl _, ht, h1.2, h2.2, .step (part_mates o a) hx, .step (part_mates o b) hy, ?_, ?_⟩
 ·have := (pickL_mem hp).2.2.2
  rw [seg_len a _ _ OM, seg_len b _ _ OM] at this
  have h3 := h.fj t x (Nat.le_refl _) hx
  have h4 := h.fk t y (Nat.le_refl _) hy
  have h5 := h.len
  simp only [List.length_append, List.length_singleton]; omega
 ·have := h.eq
  rw [show o.length - t = (o.length - (t + 1)) + 1 by omega, mloop_some hx hy, hp, Option.bind_some, Option.map_map] at this
  rw [← this]
  congr 1
  funext r
  simp
theorem MInv.from {o a b xs : List Pt} {i j k t x y : Nat} (h : MInv o a b xs i j k t) (hx : part o a t = some x) (hy : part o b t = some y) : j ≤ x ∧ x < a.length ∧ k ≤ y ∧ y < b.length :=
 ⟨h.fj t x (Nat.le_refl _) hx, ((part_mates o a).lt hx).2, h.fk t y (Nat.le_refl _) hy, ((part_mates o b).lt hy).2⟩
def keysT (t : List Tag) : List Str := t.map (·.Key)
theorem keys_app (s t : List Tag) : keysT (s ++ t) = keysT s ++ keysT t := List.map_append
theorem feat_facts {f : Feat} (h : featOk f = true) : f.Tags.length ≤ 4 ∧ shapeOk f.Shape = true ∧ f.Shape.Pts.length ≤ 6 ∧ f.Id.length ≤ 6 ∧ ∀ t ∈ f.Tags, t.Key.length ≤ 6 ∧ t.Val.length ≤ 6 := by
 have hb := (feat_small h).2
 unfold featOk at h
 simp only [Bool.and_eq_true, decide_eq_true_eq] at h
 obtain ⟨⟨⟨h1, h2⟩, h3⟩, h4⟩ := h
 refine ⟨h2, h4, ?_, hb, fun t hm => ?_⟩
 ·unfold shapeOk kindOk at h4
  simp only [Bool.and_eq_true] at h4
  have := h4.2
  split at this
  ·simp only [decide_eq_true_eq] at this; omega
  ·split at this
   ·simp only [Bool.and_eq_true, decide_eq_true_eq] at this; omega
   ·split at this
    ·simp only [Bool.and_eq_true, decide_eq_true_eq] at this; omega
    ·cases this
 ·unfold tagsOk at h1
  obtain ⟨k, hk, rfl⟩ := List.getElem_of_mem hm
  have := allN_iff.1 h1 k hk
  rw [nth_nat _ hk] at this
  simp only [Bool.and_eq_true] at this
  exact ⟨word_len this.1.1, word_len this.1.2⟩
theorem shape_pts {s : Shape} (h : shapeOk s = true) : s.Pts.length ≤ 6 := by
 unfold shapeOk kindOk at h
 simp only [Bool.and_eq_true] at h
 have := h.2
 split at this
 ·simp only [decide_eq_true_eq] at this; omega
 ·split at this
  ·simp only [Bool.and_eq_true, decide_eq_true_eq] at this; omega
  ·split at this
   ·simp only [Bool.and_eq_true, decide_eq_true_eq] at this; omega
   ·cases this
section
def mkL {α : Type} (g : α → Int → α × Int) : List α → Int → List α × Int
 | [], k => ([], k)
 | x :: l, k => ((g x k).1 :: (mkL g l (g x k).2).1, (mkL g l (g x k).2).2)
section
variable {α : Type} {g : α → Int → α × Int}
theorem mkL_snoc (x : α) : ∀ (l : List α) (k : Int), mkL g (l ++ [x]) k = ((mkL g l k).1 ++ [(g x (mkL g l k).2).1], (g x (mkL g l k).2).2)
 | [], k => rfl
 | y :: l, k => by
  rw [List.cons_append, mkL, mkL_snoc x l]; rfl
theorem mkL_len : ∀ (l : List α) (k : Int), (mkL g l k).1.length = l.length
 | [], k => rfl
 | y :: l, k => by rw [mkL, List.length_cons, List.length_cons, mkL_len l]
theorem mkL_app : ∀ (l m : List α) (k : Int), mkL g (l ++ m) k = ((mkL g l k).1 ++ (mkL g m (mkL g l k).2).1, (mkL g m (mkL g l k).2).2)
 | [], m, k => rfl
 | y :: l, m, k => by rw [List.cons_append, mkL, mkL_app l]; rfl
variable [Inhabited α]
def Mk (g : α → Int → α × Int) (a : List α) (k : Int) (u : Nat) (xs : List α) (k' : Int) : Prop := u ≤ a.length ∧ xs = (mkL g (a.take u) k).1 ++ a.drop u ∧ k' = (mkL g (a.take u) k).2
variable {a xs : List α} {k k' : Int} {u : Nat}
theorem Mk.zero (a : List α) (k : Int) : Mk g a k 0 a k := ⟨Nat.zero_le _, by simp [mkL], by simp [mkL]⟩
theorem Mk.len (h : Mk g a k u xs k') : xs.length = a.length := by
 rw [h.2.1, List.length_append, mkL_len, List.length_take, List.length_drop]; have := h.1; omega
theorem Mk.nth (h : Mk g a k u xs k') (hu : u < a.length) : nth xs (u : Int) = Go.Proofs.Ytemeihpokbleaaa.nth a (u : Int) := by
 rw [nth_nat xs (by rw [h.len]; exact hu), nth_nat a hu]
 have hl : (mkL g (a.take u) k).1.length = u := by rw [mkL_len, List.length_take]; omega
 have := h.2.1
 subst this
 rw [List.getElem_append_right OM]
 simp [hl]
def Hd (g : α → Int → α × Int) (a : List α) (k : Int) (u : Nat) (k' : Int) : Prop := u ≤ a.length ∧ k' = (mkL g (a.take u) k).2
theorem Hd.zero (a : List α) (k : Int) : Hd g a k 0 k := ⟨Nat.zero_le _, by simp [mkL]⟩
theorem Hd.nth (h : Hd g a k u k') (hu : u < a.length) : nth (mkL g a k).1 (u : Int) = (g (Go.Proofs.Ytemeihpokbleaaa.nth a (u : Int)) k').1 := by
 have e : a = (a.take u ++ [Go.Proofs.Ytemeihpokbleaaa.nth a (u : Int)]) ++ a.drop (u + 1) := by rw [← take_nth a hu, List.take_append_drop]
 have hl : (mkL g (a.take u) k).1.length = u := by rw [mkL_len, List.length_take]; omega
 rw [nth_nat _ (by rw [mkL_len]; exact hu)]
 have h1 : (mkL g a k).1[u]? = some (g (Go.Proofs.Ytemeihpokbleaaa.nth a (u : Int)) k').1 := by
  conv => lhs; rw [e]
  rw [mkL_app, mkL_snoc]
  dsimp only
  rw [List.append_assoc, List.getElem?_append_right OM, hl, Nat.sub_self, h.2]; rfl
 rw [List.getElem?_eq_getElem (by rw [mkL_len]; exact hu)] at h1
 exact Option.some.inj h1
end
theorem bulk_feat (x : Feat) : bulk x = bulk x.Id + (bulk x.Shape.Kind + bulk x.Shape.Pts) + bulk x.Tags := rfl
end
theorem pw_ext {α : Type} {R : α → α → Prop} (irr : ∀ x, ¬ R x x) (tr : ∀ x y z, R x y → R y z → R x z) : ∀ {l m : List α}, l.Pairwise R → m.Pairwise R → (∀ x, x ∈ l ↔ x ∈ m) → l = m
 | [], [], _, _, _ => rfl
 | [], y :: m, _, _, h => by have := (h y).2 List.mem_cons_self; cases this
 | x :: l, [], _, _, h => by have := (h x).1 List.mem_cons_self; cases this
 | x :: l, y :: m, hl, hm, h => by
  obtain ⟨l1, l2⟩ := List.pairwise_cons.1 hl
  obtain ⟨m1, m2⟩ := List.pairwise_cons.1 hm
  have e : x = y := by
   rcases List.mem_cons.1 ((h x).1 List.mem_cons_self) with e | e
   ·exact e
   ·rcases List.mem_cons.1 ((h y).2 List.mem_cons_self) with e' | e'
    ·exact e'.symm
    ·exact absurd (tr _ _ _ (m1 x e) (l1 y e')) (irr _)
  subst e
  rw [pw_ext irr tr l2 m2 fun z => ⟨fun hz => ?_, fun hz => ?_⟩]
  ·rcases List.mem_cons.1 ((h z).1 (List.mem_cons_of_mem _ hz)) with e | e
   ·subst e; exact absurd (l1 z hz) (irr _)
   ·exact e
  ·rcases List.mem_cons.1 ((h z).2 (List.mem_cons_of_mem _ hz)) with e | e
   ·subst e; exact absurd (m1 z hz) (irr _)
   ·exact e
def FS (l : List Feat) : Prop := l.Pairwise fun x y => Op.bytesLess x.Id y.Id = true
theorem FS.ext {l m : List Feat} (hl : FS l) (hm : FS m) (h : ∀ x, x ∈ l ↔ x ∈ m) : l = m :=
 pw_ext (R := fun x y : Feat => Op.bytesLess x.Id y.Id = true) (fun x e => by rw [less_irr] at e; cases e) (fun x y z h1 h2 => less_trans h1 h2) hl hm h
theorem FS.inj {d : List Feat} (h : FS d) {x y : Feat} (hx : x ∈ d) (hy : y ∈ d) (e : x.Id = y.Id) : x = y := by
 obtain ⟨i, hi, rfl⟩ := List.getElem_of_mem hx
 obtain ⟨j, hj, rfl⟩ := List.getElem_of_mem hy
 rcases Nat.lt_trichotomy i j with g | g | g
 ·have := List.pairwise_iff_getElem.1 h i j hi hj g
  rw [e, less_irr] at this; cases this
 ·subst g; rfl
 ·have := List.pairwise_iff_getElem.1 h j i hj hi g
  rw [e, less_irr] at this; cases this
theorem tags_ss {t : List Tag} (h : tagsOk t = true) : SS (keysT t) := by
 have h1 := allN_iff.1 h
 have hadj : ∀ k, 0 < k → k < t.length → Op.bytesLess (nth t ((k : Int) - 1)).Key (nth t (k : Int)).Key = true := fun k h0 hk => by
  have := h1 k hk
  simp only [Bool.and_eq_true, Bool.or_eq_true, decide_eq_true_eq] at this
  rcases this.2 with h | h
  ·omega
  ·exact h
 unfold SS keysT
 rw [List.pairwise_map]
 refine List.pairwise_iff_getElem.2 fun i j hi hj hij => ?_
 have key : ∀ d, i + d + 1 < t.length → Op.bytesLess t[i].Key (nth t ((i + d + 1 : Nat) : Int)).Key = true := by
  intro d
  induction d with
  | zero =>
   intro hd
   have := hadj (i + 0 + 1) OM hd
   rw [show (((i + 0 + 1 : Nat) : Int) - 1) = (i : Int) by omega, nth_nat t hi] at this
   exact this
  | succ d ih =>
   intro hd
   have := hadj (i + (d + 1) + 1) OM hd
   rw [show (((i + (d + 1) + 1 : Nat) : Int) - 1) = ((i + d + 1 : Nat) : Int) by omega] at this
   exact less_trans (ih OM) this
 have := key (j - i - 1) OM
 rw [show i + (j - i - 1) + 1 = j by omega, nth_nat t hj] at this
 exact this
theorem featOk_tags {f : Feat} (h : featOk f = true) : SS (keysT f.Tags) := by
 unfold featOk at h
 simp only [Bool.and_eq_true] at h
 exact tags_ss h.1.1.1
theorem tagsOk_of {t : List Tag} (hs : SS (keysT t)) (hw : ∀ x ∈ t, wordOk x.Key = true ∧ wordOk x.Val = true) : tagsOk t = true := by
 unfold tagsOk
 refine allN_true fun k hk => ?_
 obtain ⟨h1, h2⟩ := hw _ (nth_mem t hk)
 rw [h1, h2, Bool.true_and, Bool.true_and, Bool.or_eq_true, decide_eq_true_eq]
 rcases Nat.eq_zero_or_pos k with h0 | h0
 ·exact .inl h0
 refine .inr ?_
 unfold SS keysT at hs
 have := List.pairwise_iff_getElem.1 (List.pairwise_map.1 hs) (k - 1) k OM hk OM
 rw [show ((k : Int) - 1) = ((k - 1 : Nat) : Int) by omega, nth_nat t hk, nth_nat t OM]
 exact this
theorem shape_pos {s : Shape} (h : shapeOk s = true) : 1 ≤ s.Pts.length := by
 unfold shapeOk kindOk at h
 simp only [Bool.and_eq_true] at h
 have := h.2
 split at this
 ·simp only [decide_eq_true_eq] at this; omega
 ·split at this
  ·simp only [Bool.and_eq_true, decide_eq_true_eq] at this; omega
  ·split at this
   ·simp only [Bool.and_eq_true, decide_eq_true_eq] at this; omega
   ·cases this
theorem dot_ok {x y : Int} (h1 : 0 ≤ x) (h2 : x ≤ 5) (h3 : 0 ≤ y) (h4 : y ≤ 5) : shapeOk ⟨1, [⟨x, y⟩]⟩ = true := by
 have e : ptOk (⟨x, y⟩ : Pt) = true := by
  unfold ptOk inR
  simp only [Bool.and_eq_true, decide_eq_true_eq]; omega
 unfold shapeOk ptsOk kindOk
 rw [Bool.and_eq_true]
 refine ⟨allN_true fun k hk => ?_, by rw [if_pos rfl]; rfl⟩
 have hk : k < 1 := hk
 obtain rfl : k = 0 := by omega
 rw [Bool.and_eq_true]
 exact ⟨e, rfl⟩
def NX (q : Pt) : Prop := q.X ≠ 71 ∧ q.X ≠ 72
theorem NX.of {x y : Int} (h : x ≤ 3) : NX ⟨x, y⟩ := ⟨by dsimp only; omega, by dsimp only; omega⟩
def keyL : List Str := [[110, 97, 109, 101], [107, 105, 110, 100], [117, 115, 101], [116, 111, 110, 101]]
def valL : List Str := [[97], [98], [111, 97, 107], [97, 115, 104], [114, 111, 97, 100]]
def idL : List Str := [[97], [98], [99], [100], [101]]
def DT (x : Tag) : Prop := x.Key ∈ keyL ∧ x.Val ∈ valL
theorem keyL_ok : ∀ k ∈ keyL, wordOk k = true := by decide
theorem valL_ok : ∀ k ∈ valL, wordOk k = true := by decide
theorem idL_ok : ∀ k ∈ idL, wordOk k = true := by decide
def plainK (k : Str) : Prop := k ≠ [97, 97, 97] ∧ k ≠ [122, 122, 122]
theorem keyL_plain : ∀ k ∈ keyL, plainK k := by
 intro k hk
 simp only [keyL, List.mem_cons, List.not_mem_nil, or_false] at hk
 unfold plainK
 rcases hk with rfl | rfl | rfl | rfl <;> decide
theorem feat_of {id : Str} {s : Shape} {t : List Tag} (h1 : wordOk id = true) (h2 : shapeOk s = true) (h3 : SS (keysT t)) (h4 : t.length ≤ 4) (h5 : ∀ x ∈ t, wordOk x.Key = true ∧ wordOk x.Val = true) : featOk ⟨id, s, t⟩ = true := by
 unfold featOk
 dsimp only
 rw [tagsOk_of h3 h5, h1, h2, decide_eq_true h4]; rfl
structure FB (n : Nat) (f : Feat) : Prop where
 id : f.Id.length ≤ 7
 pts : f.Shape.Pts.length ≤ 7
 len : f.Tags.length ≤ n
 wd : ∀ x ∈ f.Tags, x.Key.length ≤ 6 ∧ x.Val.length ≤ 6
theorem FB.small {n : Nat} {f : Feat} (h : FB n f) : bulk f ≤ 14 + 13 * n := by
 have e : bulk f = bulk f.Id + (0 + bulk f.Shape.Pts) + bulk f.Tags := rfl
 have e2 : bulk f.Id = f.Id.length := bulk_str _
 have e3 : bulk f.Shape.Pts = f.Shape.Pts.length := bulk_flat (fun _ => rfl) _
 have hs := bulk_small f.Tags 12 fun t ht => by
  have := h.wd t ht
  have e : bulk t = bulk t.Key + bulk t.Val := rfl
  rw [e, bulk_str, bulk_str]; omega
 have : f.Tags.length * (12 + 1) ≤ n * 13 := Nat.mul_le_mul h.len (Nat.le_refl _)
 have := h.id; have := h.pts
 omega
theorem FB.of {f : Feat} (h : featOk f = true) : FB 4 f := by
 have := feat_facts h
 exact ⟨OM, OM, this.1, this.2.2.2.2⟩
theorem FB.mono {n m : Nat} {f : Feat} (h : FB n f) (hm : n ≤ m) : FB m f := ⟨h.id, h.pts, Nat.le_trans h.len hm, h.wd⟩
theorem DT.len {x : Tag} (h : DT x) : x.Key.length ≤ 6 ∧ x.Val.length ≤ 6 := ⟨word_len (keyL_ok _ h.1), word_len (valL_ok _ h.2)⟩
theorem DT.ok {x : Tag} (h : DT x) : wordOk x.Key = true ∧ wordOk x.Val = true := ⟨keyL_ok _ h.1, valL_ok _ h.2⟩
structure MB (n m : Nat) (s : List Feat) : Prop where
 len : s.length ≤ n
 fb : ∀ f ∈ s, FB m f
theorem MB.small {n m : Nat} {s : List Feat} (h : MB n m s) : bulk s ≤ n * (15 + 13 * m) := by
 have hs := bulk_small s (14 + 13 * m) fun f hf => (h.fb f hf).small
 have : s.length * (14 + 13 * m + 1) ≤ n * (15 + 13 * m) := Nat.mul_le_mul h.len OM
 omega
theorem MB.of {s : List Feat} (h : sheetOk s = true) : MB 8 4 s := ⟨(sheet_ss h).2.1, fun f hf => FB.of ((sheet_ss h).2.2 f hf)⟩
theorem MB.mono {n n' m m' : Nat} {s : List Feat} (h : MB n m s) (h1 : n ≤ n') (h2 : m ≤ m') : MB n' m' s := ⟨Nat.le_trans h.len h1, fun f hf => (h.fb f hf).mono h2⟩
theorem sheet_of {s : List Feat} (h1 : SS (ids s)) (h2 : s.length ≤ 8) (h3 : ∀ f ∈ s, featOk f = true) : sheetOk s = true := by
 unfold sheetOk
 rw [Bool.and_eq_true]
 refine ⟨allN_true fun k hk => ?_, decide_eq_true h2⟩
 rw [Bool.and_eq_true, Bool.or_eq_true, decide_eq_true_eq]
 refine ⟨h3 _ (nth_mem s hk), ?_⟩
 rcases Nat.eq_zero_or_pos k with h0 | h0
 ·exact .inl h0
 refine .inr ?_
 unfold SS ids at h1
 have := List.pairwise_iff_getElem.1 (List.pairwise_map.1 h1) (k - 1) k OM hk OM
 rw [show ((k : Int) - 1) = ((k - 1 : Nat) : Int) by omega, nth_nat s hk, nth_nat s OM]
 exact this
def zzI : Str := [122, 122]
theorem idL_nz : ∀ k ∈ idL, k ≠ zzI := by
 intro k hk
 simp only [idL, List.mem_cons, List.not_mem_nil, or_false] at hk
 rcases hk with rfl | rfl | rfl | rfl | rfl <;> decide
structure MD (s : List Feat) : Prop where
 mb : MB 14 4 s
 nz : ∀ f ∈ s, f.Id ≠ zzI
theorem MD.small {s : List Feat} (h : MD s) : bulk s ≤ 1048576 := Nat.le_trans h.mb.small RD
def verIn (r : Repo) (k : Int) : Bool := repoOk r && (decide (0 ≤ k) && decide (k < (r.Commits.length : Int)))
def ahead (r : Repo) (a b : Int) : Bool := verIn r a && verIn r b && nth (pastOf r b.toNat) a
structure RW (r : Repo) : Prop where
 c0 : 1 ≤ r.Commits.length
 c1 : r.Commits.length ≤ 12
 h0 : 1 ≤ r.Heads.length
 h1 : r.Heads.length ≤ 4
 cs : ∀ c ∈ r.Commits, c.Up.length ≤ 2 ∧ sheetOk c.Sheet = true ∧ c.Note.length ≤ 5
 hs : ∀ h ∈ r.Heads, h.Name.length ≤ 6 ∧ 0 ≤ h.At ∧ h.At < (r.Commits.length : Int)
structure RB (r : Repo) : Prop where
 c0 : 1 ≤ r.Commits.length
 c1 : r.Commits.length ≤ 12
 h0 : 1 ≤ r.Heads.length
 h1 : r.Heads.length ≤ 5
 cs : ∀ c ∈ r.Commits, c.Up.length ≤ 3 ∧ bulk c.Sheet ≤ 938 ∧ c.Note.length ≤ 6
 hs : ∀ h ∈ r.Heads, h.Name.length ≤ 6
theorem sheet_bulk {s : List Feat} (h : sheetOk s = true) : bulk s ≤ 938 := Nat.le_trans (MB.of h).small RD
theorem md_bulk {s : List Feat} (h : MD s) : bulk s ≤ 938 := Nat.le_trans h.mb.small RD
theorem RW.rb {r : Repo} (h : RW r) : RB r := ⟨h.c0, h.c1, h.h0, Nat.le_trans h.h1 RD, fun c hc => by
 obtain ⟨h1, h2, h3⟩ := h.cs c hc
 exact ⟨OM, sheet_bulk h2, OM⟩, fun x hx => (h.hs x hx).1⟩
theorem commit_bulk {c : Commit} {a b d : Nat} (h1 : c.Up.length ≤ a) (h2 : bulk c.Sheet ≤ b) (h3 : c.Note.length ≤ d) : bulk c ≤ a + b + d := by
 have e : bulk c = bulk c.Up + bulk c.Sheet + bulk c.Note := rfl
 have e1 : bulk c.Up = c.Up.length := bulk_ints _
 have e3 : bulk c.Note = c.Note.length := bulk_str _
 omega
theorem repo_bulk {r : Repo} {n m a b : Nat} (h1 : r.Commits.length ≤ n) (h2 : r.Heads.length ≤ m) (h3 : ∀ c ∈ r.Commits, bulk c ≤ a) (h4 : ∀ h ∈ r.Heads, h.Name.length ≤ b) : bulk r ≤ n * (a + 1) + m * (b + 1) := by
 have e : bulk r = bulk r.Commits + bulk r.Heads := rfl
 have g1 := bulk_small r.Commits a h3
 have g2 := bulk_small r.Heads b fun h hh => by
  have e : bulk h = bulk h.Name + 0 := rfl
  have e2 : bulk h.Name = h.Name.length := bulk_str _
  have := h4 h hh
  omega
 have g3 : r.Commits.length * (a + 1) ≤ n * (a + 1) := Nat.mul_le_mul h1 (Nat.le_refl _)
 have g4 : r.Heads.length * (b + 1) ≤ m * (b + 1) := Nat.mul_le_mul h2 (Nat.le_refl _)
 omega
theorem RB.small {r : Repo} (h : RB r) : bulk r ≤ 20000 := by
 have := repo_bulk h.c1 h.h1 (fun c hc => commit_bulk (h.cs c hc).1 (h.cs c hc).2.1 (h.cs c hc).2.2) h.hs
 omega
theorem RB.big {r : Repo} (h : RB r) : bulk r ≤ 1048576 := Nat.le_trans h.small RD
theorem RB.set {r : Repo} (h : RB r) (k : Nat) {c : Commit} (hc : c.Up.length ≤ 3 ∧ bulk c.Sheet ≤ 938 ∧ c.Note.length ≤ 6) : RB ⟨r.Commits.set k c, r.Heads⟩ :=
 ⟨by dsimp only; rw [List.length_set]; exact h.c0, by dsimp only; rw [List.length_set]; exact h.c1, h.h0, h.h1, fun x hx => by
  rcases List.mem_or_eq_of_mem_set hx with hx | rfl
  ·exact h.cs x hx
  ·exact hc, h.hs⟩
theorem name_len {n : Str} (h : n ∈ ([[109, 97, 105, 110], [97, 110, 110], [98, 111, 98]] : List Str)) : n.length ≤ 6 := by
 simp only [List.mem_cons, List.not_mem_nil, or_false] at h
 rcases h with rfl | rfl | rfl <;> decide
theorem note_len {n : Str} (h : n ∈ ([[97, 110, 110], [98, 111, 98], [102, 105, 120]] : List Str)) : n.length ≤ 5 := by
 simp only [List.mem_cons, List.not_mem_nil, or_false] at h
 rcases h with rfl | rfl | rfl <;> decide
theorem iteB {c : Bool} {A B : Prop} (h1 : c = true → A) (h2 : c = false → B) : (if c = true then A else B) := by
 cases c with
 | true => rw [if_pos rfl]; exact h1 rfl
 | false => rw [if_neg RD]; exact h2 rfl
def told (m : List Bool) : Nat → List Int
 | 0 => []
 | k + 1 => if nth m (k : Int) then (k : Int) :: told m k else told m k
theorem told_mem {m : List Bool} : ∀ {n : Nat} {x : Int}, x ∈ told m n ↔ 0 ≤ x ∧ x < n ∧ nth m x = true
 | 0, x => by simp [told]; omega
 | k + 1, x => by
  have ih := @told_mem m k x
  rw [told]
  cases g : nth m (k : Int) with
  | true =>
   rw [if_pos rfl, List.mem_cons, ih]
   constructor
   ·rintro (rfl | ⟨h1, h2, h3⟩)
    ·exact ⟨OM, OM, g⟩
    ·exact ⟨h1, OM, h3⟩
   ·rintro ⟨h1, h2, h3⟩
    by_cases e : x = (k : Int)
    ·exact .inl e
    ·exact .inr ⟨h1, OM, h3⟩
  | false =>
   rw [if_neg RD, ih]
   constructor
   ·rintro ⟨h1, h2, h3⟩; exact ⟨h1, OM, h3⟩
   ·rintro ⟨h1, h2, h3⟩
    refine ⟨h1, ?_, h3⟩
    by_cases e : x = (k : Int)
    ·rw [e, g] at h3; cases h3
    ·omega
theorem told_cut (m : List Bool) (a n : Nat) (h : ∀ i : Nat, a ≤ i → i < a + n → nth m (i : Int) = false) : told m (a + n) = told m a := by
 induction n with
 | zero => rfl
 | succ n ih =>
  rw [show a + (n + 1) = (a + n) + 1 by omega, told, h (a + n) OM OM, if_neg RD]
  exact ih fun i hi hj => h i hi OM
theorem told_len (m : List Bool) (n : Nat) : (told m n).length ≤ n := by
 induction n with
 | zero => exact Nat.le_refl _
 | succ k ih =>
  rw [told]
  split
  ·rw [List.length_cons]; omega
  ·omega
theorem told_last {m : List Bool} (h : nth m 0 = true) : ∀ n : Nat, ∃ l, told m (n + 1) = l ++ [0]
 | 0 => ⟨[], by
  have h : nth m ((0 : Nat) : Int) = true := h
  rw [told, h, if_pos rfl]; rfl⟩
 | n + 1 => by
  obtain ⟨l, e⟩ := told_last h n
  rw [told, e]
  split
  ·exact ⟨_ :: l, rfl⟩
  ·exact ⟨l, rfl⟩
theorem ahead_iff {r : Repo} (hr : repoOk r = true) {a b : Int} (ha : 0 ≤ a ∧ a < (r.Commits.length : Int)) (hb : 0 ≤ b ∧ b < (r.Commits.length : Int)) : ahead r a b = true ↔ Reach r b.toNat a.toNat := by
 have e : ∀ k : Int, 0 ≤ k ∧ k < (r.Commits.length : Int) → verIn r k = true := fun k hk => by
  unfold verIn
  simp only [hr, hk.1, hk.2, decide_true, Bool.and_self]
 unfold ahead
 rw [e a ha, e b hb, Bool.true_and, Bool.true_and]
 have := pastOf_mark (r := r) (fun k hk => repoOk_up hr hk) (b := b.toNat) OM a.toNat
 rw [show ((a.toNat : Nat) : Int) = a by omega] at this
 exact this
theorem reach_root {r : Repo} (hr : repoOk r = true) : ∀ b : Nat, b < r.Commits.length → Reach r b 0 := by
 intro b
 induction b using Nat.strongRecOn with
 | _ b ih =>
  intro hb
  by_cases h0 : b = 0
  ·rw [h0]; exact .refl 0
  have hu := repoOk_up hr hb
  have hne : (nth r.Commits (b : Int)).Up ≠ [] := fun e => by
   have h := hr
   unfold repoOk at h
   simp only [Bool.and_eq_true] at h
   have h1 := allN_iff.1 h.1.2 b hb
   simp only [Bool.and_eq_true] at h1
   have h2 := h1.2
   unfold upOk at h2
   rw [e] at h2
   simp [h0] at h2
  obtain ⟨u, l, e⟩ := List.exists_cons_of_ne_nil hne
  have hm : u ∈ (nth r.Commits (b : Int)).Up := by rw [e]; exact List.mem_cons_self
  have := hu u hm
  exact .step u hm (ih u.toNat OM OM)
theorem ver_in {r : Repo} (hr : repoOk r = true) {k : Int} (hk : 0 ≤ k ∧ k < (r.Commits.length : Int)) : verIn r k = true := by
 unfold verIn
 simp only [hr, hk.1, hk.2, decide_true, Bool.and_self]
theorem ver_of {r : Repo} {k : Int} (h : verIn r k = true) : repoOk r = true ∧ 0 ≤ k ∧ k < (r.Commits.length : Int) := by
 unfold verIn at h
 simpa only [Bool.and_eq_true, decide_eq_true_eq] using h
theorem ahead_eq {r : Repo} (hr : repoOk r = true) {a b : Int} (ha : 0 ≤ a ∧ a < (r.Commits.length : Int)) (hb : 0 ≤ b ∧ b < (r.Commits.length : Int)) : ahead r a b = nth (pastOf r b.toNat) a := by
 unfold ahead
 rw [ver_in hr ha, ver_in hr hb, Bool.true_and, Bool.true_and]
theorem past_high {r : Repo} (hr : repoOk r = true) {b : Nat} (hb : b < r.Commits.length) {i : Nat} (hi : b < i) : nth (pastOf r b) (i : Int) = false := by
 cases h : nth (pastOf r b) (i : Int) with
 | false => rfl
 | true =>
  have := Reach.le (fun k hk => repoOk_up hr hk) ((pastOf_mark (fun k hk => repoOk_up hr hk) hb i).1 h) hb
  omega
theorem past_told {r : Repo} (hr : repoOk r = true) {b : Nat} (hb : b < r.Commits.length) : told (pastOf r b) r.Commits.length = told (pastOf r b) (b + 1) := by
 have := told_cut (pastOf r b) (b + 1) (r.Commits.length - (b + 1)) fun i hi _ => past_high hr hb OM
 rw [← this]; congr 1; omega
def pastL (r : Repo) (a : Int) : List Int := if verIn r a then told (pastOf r a.toNat) r.Commits.length else []
theorem drop_head {l t : List Int} {u : Nat} {x : Int} (h : l.drop u = x :: t) : u < l.length ∧ nth l (u : Int) = x ∧ l.drop (u + 1) = t := by
 have hu : u < l.length := by
  rcases Nat.lt_or_ge u l.length with g | g
  ·exact g
  ·rw [List.drop_eq_nil_of_le g] at h; cases h
 rw [List.drop_eq_getElem_cons hu] at h
 injection h with h1 h2
 exact ⟨hu, by rw [nth_nat l hu]; exact h1, h2⟩
theorem F81.law (n lo hi : Int) (Q : Bool → Prop) (hq : Q (decide (lo ≤ n) && decide (n ≤ hi))) : F81.E n lo hi Q := by
 unfold F81.E
 by_cases h : lo ≤ n
 ·rw [if_pos (by simpa using h)]; rw [decide_eq_true h, Bool.true_and] at hq; exact hq
 ·rw [if_neg (by simpa using h)]; rw [decide_eq_false h, Bool.false_and] at hq; exact hq
theorem F81.m_is (n lo hi : Int) : F81.m n lo hi = (decide (lo ≤ n) && decide (n ≤ hi)) := by
 unfold F81.m
 by_cases h : lo ≤ n
 ·rw [if_pos (by simpa using h), decide_eq_true h, Bool.true_and]
 ·rw [if_neg (by simpa using h), decide_eq_false h, Bool.false_and]
theorem F82.law (s : Str) (Q : Bool → Prop) (hl : s.length ≤ 1048576) (hq : Q (wordOk s)) : F82.E s Q := by
 unfold F82.E
 unfold wordOk at hq
 refine loop_all s.length (fun k => byteOk (nth s (k : Int))) (fun I mu k hk hp hn => ?_) (fun ha => ?_)
 ·refine ⟨OM, ?_⟩
  cases h1 : decide (((nth s (k : Int)).toNat : Int) < 97) with
  | true => rw [if_pos rfl]; rw [allN_false hk (by simp only [byteOk, h1]; rfl), Bool.false_and] at hq; exact hq
  | false =>
   rw [if_neg RD]
   refine ⟨OM, ?_⟩
   cases h2 : decide (((nth s (k : Int)).toNat : Int) > 122) with
   | true => rw [if_pos rfl]; rw [allN_false hk (by simp only [byteOk, h1, h2]; rfl), Bool.false_and] at hq; exact hq
   | false =>
    rw [if_neg RD]
    obtain ⟨i1, i2⟩ := hn (by simp only [byteOk, h1, h2]; rfl)
    exact ⟨by unfold I64; omega, i1, i2⟩
 ·rw [allN_true ha, Bool.true_and] at hq
  refine F81.law _ _ _ _ ?_
  have e1 : decide ((1 : Int) ≤ (s.length : Int)) = decide (1 ≤ s.length) := decide_eq_decide.2 OM
  have e2 : decide ((s.length : Int) ≤ 6) = decide (s.length ≤ 6) := decide_eq_decide.2 OM
  rw [e1, e2]; exact hq
theorem F97.law (p : Pt) (Q : Bool → Prop) (hq : Q (ptOk p)) : F97.E p Q := by
 unfold F97.E
 unfold ptOk at hq
 refine F81.law _ _ _ _ ?_
 change if inR p.X = true then _ else _
 cases h : inR p.X with
 | true => rw [if_pos rfl]; rw [h, Bool.true_and] at hq; exact F81.law _ _ _ _ hq
 | false => rw [if_neg RD]; rw [h, Bool.false_and] at hq; exact hq
theorem F53.law (s : Shape) (Q : Bool → Prop) (hl : s.Pts.length ≤ 1048576) (hq : Q (shapeOk s)) : F53.E s Q := by
 unfold F53.E
 unfold shapeOk ptsOk at hq
 refine loop_all s.Pts.length (fun k => ptOk (nth s.Pts (k : Int)) && (decide (k = 0) || !(decide (nth s.Pts ((k : Int) - 1) = nth s.Pts (k : Int))))) (fun I mu k hk hp hn => ?_) (fun ha => ?_)
 ·refine ⟨OM, _, F97.law _ _ rfl, ?_⟩
  have bad : (ptOk (nth s.Pts (k : Int)) && (decide (k = 0) || !(decide (nth s.Pts ((k : Int) - 1) = nth s.Pts (k : Int))))) = false → Q false := fun h => by
   rw [allN_false hk h, Bool.false_and] at hq; exact hq
  cases h1 : ptOk (nth s.Pts (k : Int)) with
  | false => rw [if_pos RD]; exact bad (by rw [h1]; rfl)
  | true =>
   rw [if_neg RD]
   by_cases hk0 : k = 0
   ·rw [if_neg (by rw [decide_eq_true_eq]; omega)]
    obtain ⟨i1, i2⟩ := hn (by rw [h1, decide_eq_true hk0]; rfl)
    exact ⟨by unfold I64; omega, i1, i2⟩
   ·rw [if_pos (by rw [decide_eq_true_eq]; omega)]
    refine ⟨by unfold I64; omega, OM, ?_⟩
    rw [eqPt_is]
    by_cases he : nth s.Pts ((k : Int) - 1) = nth s.Pts (k : Int)
    ·rw [if_pos (by rw [decide_eq_true_eq]; exact he)]
     exact bad (by rw [h1, decide_eq_false hk0, decide_eq_true he]; rfl)
    ·rw [if_neg (by rw [decide_eq_true_eq]; exact he)]
     obtain ⟨i1, i2⟩ := hn (by simp only [h1, decide_eq_false hk0, decide_eq_false he]; rfl)
     exact ⟨by unfold I64; omega, i1, i2⟩
 ·rw [allN_true ha, Bool.true_and] at hq
  unfold kindOk at hq
  by_cases k1 : s.Kind = 1
  ·rw [if_pos k1] at hq
   rw [if_pos (by rw [beq_iff_eq]; exact k1)]
   have : ((s.Pts.length : Int) == 1) = decide (s.Pts.length = 1) := by rw [Bool.eq_iff_iff, beq_iff_eq, decide_eq_true_eq]; omega
   rw [this]; exact hq
  rw [if_neg k1] at hq
  rw [if_neg (by rw [beq_iff_eq]; exact k1)]
  have e2 : decide ((2 : Int) ≤ (s.Pts.length : Int)) = decide (2 ≤ s.Pts.length) := decide_eq_decide.2 OM
  have e3 : decide ((3 : Int) ≤ (s.Pts.length : Int)) = decide (3 ≤ s.Pts.length) := decide_eq_decide.2 OM
  have e6 : decide ((s.Pts.length : Int) ≤ 6) = decide (s.Pts.length ≤ 6) := decide_eq_decide.2 OM
  by_cases k2 : s.Kind = 2
  ·rw [if_pos k2] at hq
   rw [if_pos (by rw [beq_iff_eq]; exact k2)]
   refine F81.law _ _ _ _ ?_
   rw [e2, e6]; exact hq
  rw [if_neg k2] at hq
  rw [if_neg (by rw [beq_iff_eq]; exact k2)]
  by_cases k3 : s.Kind = 3
  ·rw [if_pos k3] at hq
   rw [if_pos (by rw [beq_iff_eq]; exact k3), F81.m_is, e3, e6]
   cases hc : decide (3 ≤ s.Pts.length) && decide (s.Pts.length ≤ 6) with
   | true =>
    rw [hc, Bool.true_and] at hq
    rw [Bool.and_eq_true, decide_eq_true_eq, decide_eq_true_eq] at hc
    rw [if_pos rfl, eqPt_is]
    exact ⟨OM, fun _ => by unfold I64; omega, OM, hq⟩
   | false =>
    rw [hc, Bool.false_and] at hq
    rw [if_neg RD]; exact hq
  ·rw [if_neg k3] at hq
   rw [if_neg (by rw [beq_iff_eq]; exact k3)]; exact hq
theorem F83.law (f : Feat) (Q : Bool → Prop) (hb : bulk f ≤ 1048576) (hq : Q (featOk f)) : F83.E f Q := by
 unfold F83.E
 unfold featOk at hq
 have b1 : bulk f = bulk f.Id + bulk f.Shape + bulk f.Tags := rfl
 have b2 : bulk f.Shape = bulk f.Shape.Kind + bulk f.Shape.Pts := rfl
 have l1 := bulk_len f.Tags; have l2 := bulk_len f.Shape.Pts; have l3 := bulk_len f.Id
 have core : (tagsOk f.Tags = true → F82.E f.Id (fun r3 => (if r3 then F53.E f.Shape (fun r4 => (if r4 then Q (decide ((f.Tags.length : Int) ≤ 4)) else Q false)) else Q false))) := fun ha => by
  rw [ha, Bool.true_and] at hq
  refine F82.law _ _ OM ?_
  cases h1 : wordOk f.Id with
  | false => rw [h1, Bool.and_false, Bool.false_and] at hq; rw [if_neg RD]; exact hq
  | true =>
   rw [h1, Bool.and_true] at hq
   rw [if_pos rfl]
   refine F53.law _ _ OM ?_
   cases h2 : shapeOk f.Shape with
   | false => rw [h2, Bool.and_false] at hq; rw [if_neg RD]; exact hq
   | true =>
    rw [h2, Bool.and_true] at hq; rw [if_pos rfl]
    have e2 : decide ((f.Tags.length : Int) ≤ 4) = decide (f.Tags.length ≤ 4) := decide_eq_decide.2 OM
    rw [e2]; exact hq
 have bad : tagsOk f.Tags = false → Q false := fun h => by
  rw [h, Bool.false_and, Bool.false_and, Bool.false_and] at hq; exact hq
 unfold tagsOk at core bad
 refine loop_all f.Tags.length (fun k => wordOk (nth f.Tags (k : Int)).Key && wordOk (nth f.Tags (k : Int)).Val && (decide (k = 0) || Op.bytesLess (nth f.Tags ((k : Int) - 1)).Key (nth f.Tags (k : Int)).Key)) (fun I mu k hk hp hn => ?_) (fun ha => core (allN_true ha))
 have bad := fun h => bad (allN_false hk h)
 have m1 := bulk_mem (nth_mem f.Tags hk)
 have m2 : bulk (nth f.Tags (k : Int)) = bulk (nth f.Tags (k : Int)).Key + bulk (nth f.Tags (k : Int)).Val := rfl
 have m3 := bulk_len (nth f.Tags (k : Int)).Key; have m4 := bulk_len (nth f.Tags (k : Int)).Val
 refine ⟨OM, _, F82.law _ _ OM rfl, ?_⟩
 cases h1 : wordOk (nth f.Tags (k : Int)).Key with
 | false => rw [if_pos RD]; exact bad (by rw [h1]; rfl)
 | true =>
  rw [if_neg RD]
  refine ⟨_, F82.law _ _ OM rfl, ?_⟩
  cases h2 : wordOk (nth f.Tags (k : Int)).Val with
  | false => rw [if_pos RD]; exact bad (by rw [h2, Bool.and_false]; rfl)
  | true =>
   rw [if_neg RD]
   by_cases hk0 : k = 0
   ·rw [if_neg (by rw [decide_eq_true_eq]; omega)]
    obtain ⟨i1, i2⟩ := hn (by rw [h1, h2, decide_eq_true hk0]; rfl)
    exact ⟨by unfold I64; omega, i1, i2⟩
   ·rw [if_pos (by rw [decide_eq_true_eq]; omega)]
    refine ⟨by unfold I64; omega, OM, ?_⟩
    cases h3 : Op.bytesLess (nth f.Tags ((k : Int) - 1)).Key (nth f.Tags (k : Int)).Key with
    | false => rw [if_pos RD]; exact bad (by rw [h3, h1, h2, decide_eq_false hk0]; rfl)
    | true =>
     rw [if_neg RD]
     obtain ⟨i1, i2⟩ := hn (by rw [h3, h1, h2, decide_eq_false hk0]; rfl)
     exact ⟨by unfold I64; omega, i1, i2⟩
theorem F54.law (d : List Feat) (Q : Bool → Prop) (hb : bulk d ≤ 1048576) (hq : Q (sheetOk d)) : F54.E d Q := by
 unfold F54.E
 unfold sheetOk at hq
 have hl := bulk_len d
 refine loop_all d.length (fun k => featOk (nth d (k : Int)) && (decide (k = 0) || Op.bytesLess (nth d ((k : Int) - 1)).Id (nth d (k : Int)).Id)) (fun I mu k hk hp hn => ?_) (fun ha => ?_)
 ·have bad : (featOk (nth d (k : Int)) && (decide (k = 0) || Op.bytesLess (nth d ((k : Int) - 1)).Id (nth d (k : Int)).Id)) = false → Q false := fun h => by
   rw [allN_false hk h, Bool.false_and] at hq; exact hq
  have m1 := bulk_mem (nth_mem d hk)
  refine ⟨OM, _, F83.law _ _ OM rfl, ?_⟩
  cases h1 : featOk (nth d (k : Int)) with
  | false => rw [if_pos RD]; exact bad (by rw [h1]; rfl)
  | true =>
   rw [if_neg RD]
   by_cases hk0 : k = 0
   ·rw [if_neg (by rw [decide_eq_true_eq]; omega)]
    obtain ⟨i1, i2⟩ := hn (by rw [h1, decide_eq_true hk0]; rfl)
    exact ⟨by unfold I64; omega, i1, i2⟩
   ·rw [if_pos (by rw [decide_eq_true_eq]; omega)]
    refine ⟨by unfold I64; omega, OM, ?_⟩
    cases h3 : Op.bytesLess (nth d ((k : Int) - 1)).Id (nth d (k : Int)).Id with
    | false => rw [if_pos RD]; exact bad (by rw [h3, h1, decide_eq_false hk0]; rfl)
    | true =>
     rw [if_neg RD]
     obtain ⟨i1, i2⟩ := hn (by rw [h3, h1, decide_eq_false hk0]; rfl)
     exact ⟨by unfold I64; omega, i1, i2⟩
 ·rw [allN_true ha, Bool.true_and] at hq
  have e2 : decide ((d.length : Int) ≤ 8) = decide (d.length ≤ 8) := decide_eq_decide.2 OM
  rw [e2]; exact hq
theorem F1.law (s : List Commit) (f : Commit → Bool) (ok : Commit → Prop) (Q : Int → Prop) (hl : s.length ≤ 1048576) (hok : ∀ x ∈ s, ok x) (hq : Q (findN s.length fun j => f (nth s (j : Int)))) : F1.E s f ok Q := by
 unfold F1.E
 refine loop_find s.length (fun j => f (nth s (j : Int))) hq (fun I mu k hk h1 h2 => ⟨OM, hok _ (nth_mem s hk), ?_⟩)
 cases h : f (nth s (k : Int)) with
 | true => rw [if_pos rfl]; exact h1 h
 | false => rw [if_neg RD]; obtain ⟨i1, i2⟩ := h2 h; exact ⟨by unfold I64; omega, i1, i2⟩
theorem F16.law (a b : List Tag) (Q : Bool → Prop) (hb : a.length ≤ 1048576) (hq : Q (decide (a = b))) : F16.E a b Q := by
 unfold F16.E
 exact eqI_shape eqTag eqTag_is a b Q hb hq
theorem F25.law (a b : List Pt) (Q : Bool → Prop) (hb : a.length ≤ 1048576) (hq : Q (decide (a = b))) : F25.E a b Q := by
 unfold F25.E
 exact eqI_shape eqPt eqPt_is a b Q hb hq
theorem F31.law (a b : Shape) (Q : Bool → Prop) (hl : a.Pts.length ≤ 1048576) (hq : Q (decide (a = b))) : F31.E a b Q := by
 unfold F31.E
 by_cases h : a.Kind = b.Kind
 ·rw [if_pos (by rw [beq_iff_eq]; exact h)]
  refine F25.law _ _ _ OM ?_
  have : decide (a.Pts = b.Pts) = decide (a = b) := decide_eq_decide.2 (by rw [Shape.ext_iff']; exact ⟨fun e => ⟨h, e⟩, fun e => e.2⟩)
  rw [this]; exact hq
 ·rw [if_neg (by rw [beq_iff_eq]; exact h)]
  rw [decide_eq_false (by rw [Shape.ext_iff']; exact fun e => h e.1)] at hq; exact hq
theorem F41.law (a b : Feat) (Q : Bool → Prop) (hl : a.Shape.Pts.length ≤ 1048576 ∧ a.Tags.length ≤ 1048576) (hq : Q (decide (a = b))) : F41.E a b Q := by
 unfold F41.E
 by_cases h : a.Id = b.Id
 ·rw [if_pos (by rw [beq_iff_eq]; exact h)]
  refine F31.law _ _ _ OM ?_
  by_cases h2 : a.Shape = b.Shape
  ·rw [decide_eq_true h2, if_pos rfl]
   refine F16.law _ _ _ OM ?_
   have : decide (a.Tags = b.Tags) = decide (a = b) := decide_eq_decide.2 (by rw [Feat.ext_iff']; exact ⟨fun e => ⟨h, h2, e⟩, fun e => e.2.2⟩)
   rw [this]; exact hq
  ·rw [decide_eq_false h2, if_neg RD]
   rw [decide_eq_false (by rw [Feat.ext_iff']; exact fun e => h2 e.2.1)] at hq; exact hq
 ·rw [if_neg (by rw [beq_iff_eq]; exact h)]
  rw [decide_eq_false (by rw [Feat.ext_iff']; exact fun e => h e.1)] at hq; exact hq
theorem F3.law (a b : List Feat) (el : Feat → Feat → Bool) (ok : Feat → Feat → Prop) (Q : Bool → Prop) (hb : a.length ≤ 1048576) (hok : ∀ x y, x ∈ a → ok x y) (hel : ∀ x y, x ∈ a → el x y = decide (x = y)) (hq : Q (decide (a = b))) : F3.E a b el ok Q := by
 unfold F3.E
 exact eqF_shape a b el ok hok hel hb Q hq
theorem F32.law (a b : List Feat) (Q : Bool → Prop) (hb : bulk a ≤ 1048576) (hq : Q (decide (a = b))) : F32.E a b Q := by
 unfold F32.E
 have hl := bulk_len a
 refine ⟨fun x y => decide (x = y), fun x _ => x ∈ a, fun x y hx => F41.law x y _ ?_ rfl, F3.law a b _ _ _ OM (fun x y hx => hx) (fun _ _ _ => rfl) hq⟩
 have m := bulk_mem hx
 have b1 : bulk x = bulk x.Id + bulk x.Shape + bulk x.Tags := rfl
 have b2 : bulk x.Shape = bulk x.Shape.Kind + bulk x.Shape.Pts := rfl
 have l1 := bulk_len x.Tags; have l2 := bulk_len x.Shape.Pts
 omega
theorem F15.law (a b : List Int) (Q : Bool → Prop) (hb : a.length ≤ 1048576) (hq : Q (decide (a = b))) : F15.E a b Q := by
 unfold F15.E
 exact eqI_shape (fun x y => x == y) (fun x y => by by_cases h : x = y <;> simp [h]) a b Q hb hq
theorem Commit.ext_iff' (a b : Commit) : a = b ↔ a.Up = b.Up ∧ a.Sheet = b.Sheet ∧ a.Note = b.Note := by cases a; cases b; simp
theorem F26.law (a b : Commit) (Q : Bool → Prop) (hb : bulk a ≤ 1048576) (hq : Q (decide (a = b))) : F26.E a b Q := by
 unfold F26.E
 have b1 : bulk a = bulk a.Up + bulk a.Sheet + bulk a.Note := rfl
 have l1 := bulk_len a.Up
 have e : decide (a = b) = (decide (a.Up = b.Up) && (decide (a.Sheet = b.Sheet) && decide (a.Note = b.Note))) := by
  rw [Bool.eq_iff_iff]; simp only [Bool.and_eq_true, decide_eq_true_eq]; exact Commit.ext_iff' a b
 rw [e] at hq
 refine F15.law _ _ _ OM ?_
 cases h1 : decide (a.Up = b.Up) with
 | false => rw [h1] at hq; rw [if_neg RD]; exact hq
 | true =>
  rw [h1, Bool.true_and] at hq
  rw [if_pos rfl]
  refine F32.law _ _ _ OM ?_
  cases h2 : decide (a.Sheet = b.Sheet) with
  | false => rw [h2] at hq; rw [if_neg RD]; exact hq
  | true =>
   rw [h2, Bool.true_and] at hq
   rw [if_pos rfl]
   have : (a.Note == b.Note) = decide (a.Note = b.Note) := by rw [Bool.eq_iff_iff, beq_iff_eq, decide_eq_true_eq]
   rw [this]; exact hq
theorem F17.law (r : Repo) (c : Commit) (Q : Int → Prop) (hb : bulk r ≤ 1048576) (hq : Q (findCommit r c)) : F17.E r c Q := by
 unfold F17.E
 have b1 : bulk r = bulk r.Commits + bulk r.Heads := rfl
 have l1 := bulk_len r.Commits
 refine ⟨fun x => decide (x = c), fun x => x ∈ r.Commits, fun x hx => ?_, F1.law _ _ _ _ OM (fun x hx => hx) hq⟩
 unfold F8.E
 exact F26.law _ _ _ (by have := bulk_mem hx; omega) rfl
theorem F4.law (s : List Head) (f : Head → Bool) (ok : Head → Prop) (Q : Int → Prop) (hl : s.length ≤ 1048576) (hok : ∀ x ∈ s, ok x) (hq : Q (findN s.length fun j => f (nth s (j : Int)))) : F4.E s f ok Q := by
 unfold F4.E
 refine loop_find s.length (fun j => f (nth s (j : Int))) hq (fun I mu k hk h1 h2 => ⟨OM, hok _ (nth_mem s hk), ?_⟩)
 cases h : f (nth s (k : Int)) with
 | true => rw [if_pos rfl]; exact h1 h
 | false => rw [if_neg RD]; obtain ⟨i1, i2⟩ := h2 h; exact ⟨by unfold I64; omega, i1, i2⟩
theorem F33.law (r : Repo) (name : Str) (Q : Int → Prop) (hb : bulk r ≤ 1048576) (hq : Q (findHead r name)) : F33.E r name Q := by
 unfold F33.E
 have b1 : bulk r = bulk r.Commits + bulk r.Heads := rfl
 have l1 := bulk_len r.Heads
 refine ⟨fun x => decide (x.Name = name), fun _ => True, fun x _ => ?_, F4.law _ _ _ _ OM (fun x _ => trivial) hq⟩
 unfold F19.E
 show (x.Name == name) = decide (x.Name = name)
 rw [Bool.eq_iff_iff, beq_iff_eq, decide_eq_true_eq]
theorem F13.law (r : Repo) (k : Int) (Q : Bool → Prop) (hq : Q (decide (0 ≤ k) && decide (k < (r.Commits.length : Int)))) : F13.E r k Q := by
 unfold F13.E
 refine ⟨fun _ => by unfold I64; omega, F81.law _ _ _ _ ?_⟩
 have : decide (k ≤ (r.Commits.length : Int) - 1) = decide (k < (r.Commits.length : Int)) := decide_eq_decide.2 OM
 rw [this]; exact hq
theorem F18.law (s : List Int) (v : Int) (Q : Int → Prop) (hl : s.length ≤ 1048576) (hq : Q (findN s.length fun j => decide (v = nth s (j : Int)))) : F18.E s v Q := by
 unfold F18.E
 refine loop_find s.length (fun j => decide (v = nth s (j : Int))) hq (fun I mu k hk h1 h2 => ⟨OM, ?_⟩)
 have e : (v == nth s (k : Int)) = decide (v = nth s (k : Int)) := by rw [Bool.eq_iff_iff, beq_iff_eq, decide_eq_true_eq]
 rw [e]
 cases h : decide (v = nth s (k : Int)) with
 | true => rw [if_pos rfl]; exact h1 h
 | false => rw [if_neg RD]; obtain ⟨i1, i2⟩ := h2 h; exact ⟨by unfold I64; omega, i1, i2⟩
theorem F6.law (s : List Int) (v : Int) (Q : Bool → Prop) (hl : s.length ≤ 1048576) (hq : Q (decide (v ∈ s))) : F6.E s v Q := by
 unfold F6.E
 refine F18.law _ _ _ hl ?_
 have : decide ((findN s.length fun j => decide (v = nth s (j : Int))) ≥ 0) = decide (v ∈ s) := by
  by_cases h : v ∈ s
  ·rw [decide_eq_true h, decide_eq_true_eq]
   apply Decidable.byContradiction
   intro hc
   obtain ⟨k, hk, e⟩ := mem_nth h
   have hle := findN_le s.length fun j => decide (v = nth s (j : Int))
   -- the first place
   have : ∀ m, (∃ j, j < m ∧ j < s.length ∧ v = nth s (j : Int)) → (findN s.length fun j => decide (v = nth s (j : Int))) ≥ 0 := by
    intro m
    induction m with
    | zero => rintro ⟨j, hj, _⟩; exact absurd hj (Nat.not_lt_zero _)
    | succ m ih =>
     rintro ⟨j, hj, hjl, hjv⟩
     by_cases hex : ∃ i, i < m ∧ i < s.length ∧ v = nth s (i : Int)
     ·exact ih hex
     ·by_cases hjm : j < m
      ·exact absurd ⟨j, hjm, hjl, hjv⟩ hex
      ·have : j = m := by omega
       subst this
       rw [findN_hit hjl (decide_eq_true hjv) (fun i hi => decide_eq_false fun e => hex ⟨i, hi, OM, e⟩)]
       omega
   exact hc (this (k + 1) ⟨k, OM, hk, e.symm⟩)
  ·rw [decide_eq_false h, decide_eq_false_iff_not, findN_none (fun j hj => decide_eq_false fun e => h (by rw [e]; exact nth_mem s hj))]
   omega
 rw [this]; exact hq
theorem F84.law (r : Repo) (Q : Bool → Prop) (hb : bulk r ≤ 1048576) (hq : Q (repoOk r)) : F84.E r Q := by
 unfold F84.E
 unfold repoOk at hq
 have b1 : bulk r = bulk r.Commits + bulk r.Heads := rfl
 have l1 := bulk_len r.Commits; have l2 := bulk_len r.Heads
 have e1 : decide ((1 : Int) ≤ (r.Commits.length : Int)) = decide (1 ≤ r.Commits.length) := decide_eq_decide.2 OM
 have e2 : decide ((r.Commits.length : Int) ≤ 14) = decide (r.Commits.length ≤ 14) := decide_eq_decide.2 OM
 have e3 : decide ((1 : Int) ≤ (r.Heads.length : Int)) = decide (1 ≤ r.Heads.length) := decide_eq_decide.2 OM
 have e4 : decide ((r.Heads.length : Int) ≤ 4) = decide (r.Heads.length ≤ 4) := decide_eq_decide.2 OM
 refine F81.law _ _ _ _ ?_
 rw [e1, e2]
 cases h1 : (decide (1 ≤ r.Commits.length) && decide (r.Commits.length ≤ 14)) with
 | false => rw [h1] at hq; rw [if_pos RD]; exact hq
 | true =>
 rw [h1, Bool.true_and] at hq
 rw [if_neg RD]
 refine F81.law _ _ _ _ ?_
 rw [e3, e4]
 cases h2 : (decide (1 ≤ r.Heads.length) && decide (r.Heads.length ≤ 4)) with
 | false => rw [h2] at hq; rw [if_pos RD]; exact hq
 | true =>
 rw [h2, Bool.true_and] at hq
 rw [if_neg RD]
 refine loop_all r.Commits.length (fun k => sheetOk (nth r.Commits (k : Int)).Sheet && wordOk (nth r.Commits (k : Int)).Note && decide (findCommit r (nth r.Commits (k : Int)) = (k : Int)) && upOk (nth r.Commits (k : Int)).Up k) (fun I mu k hk hp hn => ?_) (fun ha => ?_)
 ·have bad : (sheetOk (nth r.Commits (k : Int)).Sheet && wordOk (nth r.Commits (k : Int)).Note && decide (findCommit r (nth r.Commits (k : Int)) = (k : Int)) && upOk (nth r.Commits (k : Int)).Up k) = false → Q false := fun h => by
   rw [allN_false hk h, Bool.false_and] at hq; exact hq
  have m1 := bulk_mem (nth_mem r.Commits hk)
  have m2 : bulk (nth r.Commits (k : Int)) = bulk (nth r.Commits (k : Int)).Up + bulk (nth r.Commits (k : Int)).Sheet + bulk (nth r.Commits (k : Int)).Note := rfl
  have m3 := bulk_len (nth r.Commits (k : Int)).Up; have m4 := bulk_len (nth r.Commits (k : Int)).Note
  refine ⟨OM, F54.law _ _ OM ?_⟩
  cases a2 : sheetOk (nth r.Commits (k : Int)).Sheet with
  | false => rw [if_pos RD]; exact bad (by rw [a2]; rfl)
  | true =>
  rw [if_neg RD]
  refine F82.law _ _ OM ?_
  cases a3 : wordOk (nth r.Commits (k : Int)).Note with
  | false => rw [if_pos RD]; exact bad (by rw [a3, Bool.and_false]; rfl)
  | true =>
  rw [if_neg RD]
  refine F17.law _ _ _ hb ?_
  by_cases a4 : findCommit r (nth r.Commits (k : Int)) = (k : Int)
  case neg => rw [if_pos (by rw [bne_iff_ne]; exact a4)]; exact bad (by rw [decide_eq_false a4, Bool.and_false]; rfl)
  rw [if_neg (by rw [bne_iff_ne]; exact fun h => h a4)]
  have bad : upOk (nth r.Commits (k : Int)).Up k = false → Q false := fun h => bad (by rw [h, Bool.and_false])
  have hn : upOk (nth r.Commits (k : Int)).Up k = true → I ((k : Int) + 1) ∧ mu ((k : Int) + 1) < mu (k : Int) := fun h => hn (by rw [a2, a3, decide_eq_true a4, h]; rfl)
  generalize (nth r.Commits (k : Int)).Up = up at *
  unfold upOk at bad hn
  have z1 : ((k : Int) == 0) = decide (k = 0) := by rw [Bool.eq_iff_iff, beq_iff_eq, decide_eq_true_eq]; omega
  have z2 : ((up.length : Int) == 0) = decide (up.length = 0) := by rw [Bool.eq_iff_iff, beq_iff_eq, decide_eq_true_eq]; omega
  rw [z1, z2]
  cases a5 : (decide (k = 0) == decide (up.length = 0)) with
  | false =>
   rw [if_pos (by rw [bne, a5]; rfl)]; exact bad (by rw [a5]; rfl)
  | true =>
  rw [if_neg (by rw [bne, a5]; decide)]
  by_cases a6 : up.length ≤ 2
  case neg => rw [if_pos (by rw [decide_eq_true_eq]; omega)]; exact bad (by rw [decide_eq_false a6, Bool.and_false]; rfl)
  rw [if_neg (by rw [decide_eq_true_eq]; omega)]
  rw [a5, decide_eq_true a6, Bool.and_self, Bool.true_and] at bad hn
  refine loop_all up.length (fun j => inUp up k j && !(decide (nth up (j : Int) ∈ up.take j))) (fun I' mu' j hj hp' hn' => ?_) (fun ha => ?_)
  ·have bad : (inUp up k j && !(decide (nth up (j : Int) ∈ up.take j))) = false → Q false := fun h => bad (allN_false hj h)
   refine ⟨OM, by unfold I64; omega, F81.law _ _ _ _ ?_⟩
   have e : (decide (0 ≤ nth up (j : Int)) && decide (nth up (j : Int) ≤ (k : Int) - 1)) = inUp up k j := by
    unfold inUp
    rw [show decide (nth up (j : Int) ≤ (k : Int) - 1) = decide (nth up (j : Int) < (k : Int)) from decide_eq_decide.2 OM]
   rw [e]
   cases a7 : inUp up k j with
   | false => rw [if_pos RD]; exact bad (by rw [a7]; rfl)
   | true =>
   rw [if_neg RD]
   have ec : (up.drop (0 : Int).toNat).take ((j : Int).toNat - (0 : Int).toNat) = up.take j := by simp
   rw [ec]
   refine ⟨OM, F6.law _ _ _ (by rw [List.length_take]; omega) ?_⟩
   cases a8 : decide (nth up (j : Int) ∈ up.take j) with
   | true => rw [if_pos rfl]; exact bad (by rw [a7, a8]; rfl)
   | false =>
    rw [if_neg RD]
    obtain ⟨i1, i2⟩ := hn' (by rw [a7, a8]; rfl)
    exact ⟨by unfold I64; omega, i1, i2⟩
  ·obtain ⟨i1, i2⟩ := hn (allN_true ha)
   exact ⟨by unfold I64; omega, i1, i2⟩
 ·rw [allN_true ha, Bool.true_and] at hq
  refine loop_all r.Heads.length (fun k => wordOk (nth r.Heads (k : Int)).Name && decide (findHead r (nth r.Heads (k : Int)).Name = (k : Int)) && (decide (0 ≤ (nth r.Heads (k : Int)).At) && decide ((nth r.Heads (k : Int)).At < (r.Commits.length : Int)))) (fun I mu k hk hp hn => ?_) (fun ha => ?_)
  ·have bad : (wordOk (nth r.Heads (k : Int)).Name && decide (findHead r (nth r.Heads (k : Int)).Name = (k : Int)) && (decide (0 ≤ (nth r.Heads (k : Int)).At) && decide ((nth r.Heads (k : Int)).At < (r.Commits.length : Int)))) = false → Q false := fun h => by
    rw [allN_false hk h] at hq; exact hq
   have m1 := bulk_mem (nth_mem r.Heads hk)
   have m2 : bulk (nth r.Heads (k : Int)) = bulk (nth r.Heads (k : Int)).Name + bulk (nth r.Heads (k : Int)).At := rfl
   have m3 := bulk_len (nth r.Heads (k : Int)).Name
   refine ⟨OM, F82.law _ _ OM ?_⟩
   cases a1 : wordOk (nth r.Heads (k : Int)).Name with
   | false => rw [if_pos RD]; exact bad (by rw [a1]; rfl)
   | true =>
   rw [if_neg RD]
   refine F33.law _ _ _ hb ?_
   by_cases a2 : findHead r (nth r.Heads (k : Int)).Name = (k : Int)
   case neg => rw [if_pos (by rw [bne_iff_ne]; exact a2)]; exact bad (by rw [decide_eq_false a2, Bool.and_false]; rfl)
   rw [if_neg (by rw [bne_iff_ne]; exact fun h => h a2)]
   refine F13.law _ _ _ ?_
   cases a3 : (decide (0 ≤ (nth r.Heads (k : Int)).At) && decide ((nth r.Heads (k : Int)).At < (r.Commits.length : Int))) with
   | false => rw [if_pos RD]; exact bad (by rw [a3, Bool.and_false])
   | true =>
    rw [if_neg RD]
    obtain ⟨i1, i2⟩ := hn (by rw [a1, decide_eq_true a2, a3]; rfl)
    exact ⟨by unfold I64; omega, i1, i2⟩
  ·rw [allN_true ha] at hq; exact hq
theorem F34.law (r : Repo) (b : Nat) (Q : List Bool → Prop) (hr : repoOk r = true) (hb : b < r.Commits.length) (hl : bulk r ≤ 1048576) (hq : Q (pastOf r b)) : F34.E r (b : Int) Q := by
 unfold F34.E
 have hc := repoOk_len hr
 have b1 : bulk r = bulk r.Commits + bulk r.Heads := rfl
 simp only [Int.toNat_natCast]
 refine ⟨OM, by simp; omega, ?_⟩
 refine ⟨fun xs k => ∃ j : Nat, k = (j : Int) - 1 ∧ j ≤ b + 1 ∧ xs.length = r.Commits.length ∧ back r j xs = pastOf r b, fun _ k => (k + 1).toNat, ⟨b + 1, OM, Nat.le_refl _, by simp, rfl⟩, ?_⟩
 rintro xs _ ⟨j, rfl, hj, hx, hbk⟩
 by_cases h0 : (j : Int) - 1 ≥ 0
 ·rw [if_pos (by rw [decide_eq_true_eq]; exact h0)]
  obtain ⟨i, rfl⟩ : ∃ i, j = i + 1 := ⟨j - 1, OM⟩
  have ei : ((i + 1 : Nat) : Int) - 1 = (i : Int) := by omega
  rw [ei]
  rw [back] at hbk
  refine ⟨OM, ?_⟩
  cases hn : nth xs (i : Int) with
  | false =>
   rw [if_neg RD]
   rw [hn, if_neg RD] at hbk
   exact ⟨by unfold I64; omega, ⟨i, rfl, OM, hx, hbk⟩, by dsimp only; omega⟩
  | true =>
   rw [if_pos rfl]
   rw [hn, if_pos rfl] at hbk
   have hu := repoOk_up hr (k := i) OM
   have m1 := bulk_mem (nth_mem r.Commits (show i < r.Commits.length by omega))
   have m2 : bulk (nth r.Commits (i : Int)) = bulk (nth r.Commits (i : Int)).Up + bulk (nth r.Commits (i : Int)).Sheet + bulk (nth r.Commits (i : Int)).Note := rfl
   have m3 := bulk_len (nth r.Commits (i : Int)).Up
   generalize (nth r.Commits (i : Int)).Up = up at *
   refine ⟨OM, fun ys v => ∃ u : Nat, v = u ∧ u ≤ up.length ∧ ys = stepUp (up.take u) xs, fun _ v => (up.length - v).toNat, ⟨0, rfl, Nat.zero_le _, rfl⟩, ?_⟩
   rintro _ _ ⟨u, rfl, hu', rfl⟩
   by_cases h1 : (u : Int) < (up.length : Int)
   ·rw [if_pos (by rw [decide_eq_true_eq]; exact h1)]
    have hm := hu _ (nth_mem up (show u < up.length by omega))
    exact ⟨OM, by rw [stepUp_len]; omega, by unfold I64; omega, ⟨u + 1, OM, OM, (stepUp_take up xs OM).symm⟩, by dsimp only; omega⟩
   ·rw [if_neg (by rw [decide_eq_true_eq]; exact h1)]
    have : u = up.length := by omega
    subst this
    rw [List.take_length]
    exact ⟨by unfold I64; omega, ⟨i, rfl, OM, by rw [stepUp_len]; exact hx, hbk⟩, by dsimp only; omega⟩
 ·rw [if_neg (by rw [decide_eq_true_eq]; exact h0)]
  have : j = 0 := by omega
  subst this
  rw [back] at hbk
  rw [hbk]; exact hq
theorem F9.law (m : List Bool) (Q : List Int → Prop) (hl : m.length ≤ 1000) (hq : Q (told m m.length)) : F9.E m Q := by
 unfold F9.E
 refine ⟨fun _ => by unfold I64; omega, fun xs k => ∃ j : Nat, k = (j : Int) - 1 ∧ j ≤ m.length ∧ xs ++ told m j = told m m.length ∧ xs.length ≤ m.length - j, fun _ k => (k + 1).toNat, ⟨m.length, OM, Nat.le_refl _, rfl, by simp⟩, ?_⟩
 rintro xs _ ⟨j, rfl, hj, hx, hn⟩
 by_cases h : j = 0
 ·subst h
  rw [if_neg RD]
  rw [show told m 0 = [] from rfl, List.append_nil] at hx
  rw [hx]; exact hq
 rw [if_pos (by rw [decide_eq_true_eq]; omega)]
 obtain ⟨i, rfl⟩ : ∃ i, j = i + 1 := ⟨j - 1, OM⟩
 have e : ((i + 1 : Nat) : Int) - 1 = (i : Int) := by omega
 rw [e]
 rw [told] at hx
 refine ⟨OM, iteB (fun g => ?_) fun g => ?_⟩
 ·rw [g, if_pos rfl] at hx
  exact ⟨by simp only [List.length_cons, List.length_nil]; omega, by unfold I64; omega, ⟨i, rfl, OM, by rw [List.append_assoc]; exact hx, by rw [List.length_append, List.length_singleton]; omega⟩, by dsimp only; omega⟩
 ·rw [g, if_neg RD] at hx
  exact ⟨by unfold I64; omega, ⟨i, rfl, OM, hx, OM⟩, by dsimp only; omega⟩
theorem F45.law (r : Repo) (a : Int) (Q : List Int → Prop) (hb : bulk r ≤ 1048576) (hq : Q (pastL r a)) : F45.E r a Q := by
 unfold F45.E
 refine F84.law _ _ hb (iteB (fun h => ?_) fun h => F13.law _ _ _ (iteB (fun g => ?_) fun g => ?_))
 ·have e : pastL r a = [] := by unfold pastL verIn; rw [show repoOk r = false by simpa using h]; rfl
  rw [← e]; exact hq
 ·have e : pastL r a = [] := by unfold pastL verIn; rw [show (decide (0 ≤ a) && decide (a < (r.Commits.length : Int))) = false by simpa only [Bool.not_eq_true'] using g, Bool.and_false]; rfl
  rw [← e]; exact hq
 ·have ho : repoOk r = true := by simpa using h
  simp only [Bool.not_eq_false', Bool.and_eq_true, decide_eq_true_eq] at g
  obtain ⟨k, rfl⟩ := Int.eq_ofNat_of_zero_le g.1
  refine F34.law _ _ _ ho OM hb (F9.law _ _ (by rw [pastOf_len]; have := repoOk_len ho; omega) ?_)
  rw [pastOf_len]
  have e : pastL r (k : Int) = told (pastOf r k) r.Commits.length := by unfold pastL; rw [ver_in ho ⟨OM, g.2⟩, if_pos rfl]; rfl
  rw [← e]; exact hq
theorem F96.law (up : List Int) (k : Nat) (Q : Bool → Prop) (hq : Q (upOk up k)) : F96.E up (k : Int) Q := by
 unfold F96.E
 rw [← upOk_eq] at hq
 refine loop_all up.length (inUp up k) (fun I mu j hj hp hn => ?_) (fun ha => ?_)
 ·have bad : inUp up k j = false → Q false := fun h => by rw [allN_false hj h, Bool.false_and] at hq; exact hq
  refine ⟨OM, ?_⟩
  by_cases h1 : 0 ≤ nth up (j : Int)
  ·rw [if_neg (by rw [decide_eq_true_eq]; omega)]
   refine ⟨OM, ?_⟩
   by_cases h2 : nth up (j : Int) < (k : Int)
   ·rw [if_neg (by rw [decide_eq_true_eq]; omega)]
    obtain ⟨i1, i2⟩ := hn (by unfold inUp; rw [decide_eq_true h1, decide_eq_true h2]; rfl)
    exact ⟨OM, i1, i2⟩
   ·rw [if_pos (by rw [decide_eq_true_eq]; omega)]
    exact bad (by unfold inUp; rw [decide_eq_false h2, Bool.and_false])
  ·rw [if_pos (by rw [decide_eq_true_eq]; omega)]
   exact bad (by unfold inUp; rw [decide_eq_false h1]; rfl)
 ·rw [allN_true ha, Bool.true_and] at hq
  by_cases h1 : up.length ≤ 2
  ·rw [decide_eq_true h1, Bool.true_and] at hq
   rw [if_pos (by rw [decide_eq_true_eq]; omega)]
   have e1 : decide ((up.length : Int) > 0) = decide (0 < up.length) := decide_eq_decide.2 OM
   have e2 : decide ((k : Int) > 0) = decide (0 < k) := decide_eq_decide.2 OM
   rw [e1, e2]
   cases h2 : (decide (0 < up.length) == decide (0 < k)) with
   | false => rw [h2] at hq; rw [if_neg RD]; exact hq
   | true =>
    rw [h2, Bool.true_and] at hq
    rw [if_pos rfl]
    by_cases h3 : up.length < 2
    ·rw [decide_eq_true h3, Bool.true_or] at hq
     rw [if_pos (by rw [decide_eq_true_eq]; omega)]; exact hq
    ·rw [decide_eq_false h3, Bool.false_or] at hq
     rw [if_neg (by rw [decide_eq_true_eq]; omega)]
     refine ⟨OM, OM, ?_⟩
     have : (nth up 0 != nth up 1) = !(decide (nth up 0 = nth up 1)) := by
      by_cases h : nth up 0 = nth up 1
      ·rw [decide_eq_true h, h]; simp
      ·rw [decide_eq_false h]; simpa using h
     rw [this]; exact hq
  ·rw [decide_eq_false h1] at hq
   rw [if_neg (by rw [decide_eq_true_eq]; omega)]; exact hq
theorem F56.law (s : Str) (Q : Bool → Prop) (hq : Q (wordOk s)) : F56.E s Q := by
 unfold F56.E
 unfold wordOk at hq
 refine loop_all s.length (fun k => byteOk (nth s (k : Int))) (fun I mu k hk hp hn => ?_) (fun ha => ?_)
 ·refine ⟨OM, ?_⟩
  cases h1 : decide (((nth s (k : Int)).toNat : Int) < 97) with
  | true => rw [if_pos rfl]; rw [allN_false hk (by simp only [byteOk, h1]; rfl), Bool.false_and] at hq; exact hq
  | false =>
   rw [if_neg RD]
   refine ⟨OM, ?_⟩
   cases h2 : decide (((nth s (k : Int)).toNat : Int) > 122) with
   | true => rw [if_pos rfl]; rw [allN_false hk (by simp only [byteOk, h1, h2]; rfl), Bool.false_and] at hq; exact hq
   | false =>
    rw [if_neg RD]
    obtain ⟨i1, i2⟩ := hn (by simp only [byteOk, h1, h2]; rfl)
    exact ⟨OM, i1, i2⟩
 ·rw [allN_true ha, Bool.true_and] at hq
  by_cases h : 1 ≤ s.length
  ·rw [decide_eq_true h, Bool.true_and] at hq
   rw [if_pos (by rw [decide_eq_true_eq]; omega)]
   have e2 : decide ((s.length : Int) ≤ 6) = decide (s.length ≤ 6) := decide_eq_decide.2 OM
   rw [e2]; exact hq
  ·rw [decide_eq_false h, Bool.false_and] at hq
   rw [if_neg (by rw [decide_eq_true_eq]; omega)]; exact hq
theorem F86.m_is (n : Int) : F86.m n = inR n := by
 unfold F86.m inR
 by_cases h : -1000 ≤ n
 ·rw [if_pos (by rw [decide_eq_true_eq]; omega), decide_eq_true h, Bool.true_and]
 ·rw [if_neg (by rw [decide_eq_true_eq]; omega), decide_eq_false h, Bool.false_and]
theorem F87.law (p : List Pt) (Q : Bool → Prop) (hq : Q (ptsOk p && decide (p.length ≤ 6))) : F87.E p Q := by
 unfold F87.E
 unfold ptsOk at hq
 refine loop_all p.length (fun k => ptOk (nth p (k : Int)) && (decide (k = 0) || !(decide (nth p ((k : Int) - 1) = nth p (k : Int))))) (fun I mu k hk hp hn => ?_) (fun ha => ?_)
 ·refine ⟨OM, ?_⟩
  rw [F86.m_is, F86.m_is]
  have bad : (ptOk (nth p (k : Int)) && (decide (k = 0) || !(decide (nth p ((k : Int) - 1) = nth p (k : Int))))) = false → Q false := fun h => by
   rw [allN_false hk h, Bool.false_and] at hq; exact hq
  cases h1 : inR (nth p (k : Int)).X with
  | false => rw [if_pos RD]; exact bad (by simp only [ptOk, h1, Bool.false_and])
  | true =>
   rw [if_neg RD]
   refine ⟨OM, ?_⟩
   cases h2 : inR (nth p (k : Int)).Y with
   | false => rw [if_pos RD]; exact bad (by simp only [ptOk, h2, Bool.and_false, Bool.false_and])
   | true =>
    rw [if_neg RD]
    have hpt : ptOk (nth p (k : Int)) = true := by simp only [ptOk, h1, h2, Bool.and_self]
    by_cases hk0 : k = 0
    ·rw [if_neg (by rw [decide_eq_true_eq]; omega)]
     obtain ⟨i1, i2⟩ := hn (by rw [hpt, decide_eq_true hk0]; rfl)
     exact ⟨OM, i1, i2⟩
    ·rw [if_pos (by rw [decide_eq_true_eq]; omega)]
     refine ⟨OM, fun _ => by unfold I64; omega, OM, ?_⟩
     rw [eqPt_is]
     by_cases he : nth p ((k : Int) - 1) = nth p (k : Int)
     ·rw [if_pos (by rw [decide_eq_true_eq]; exact he.symm)]
      exact bad (by rw [hpt, decide_eq_false hk0, decide_eq_true he]; rfl)
     ·rw [if_neg (by rw [decide_eq_true_eq]; exact fun e => he e.symm)]
      obtain ⟨i1, i2⟩ := hn (by rw [hpt, decide_eq_false hk0, decide_eq_false he]; rfl)
      exact ⟨OM, i1, i2⟩
 ·rw [allN_true ha, Bool.true_and] at hq
  have e2 : decide ((p.length : Int) ≤ 6) = decide (p.length ≤ 6) := decide_eq_decide.2 OM
  rw [e2]; exact hq
theorem F49.law (s : Shape) (Q : Bool → Prop) (hq : Q (shapeOk s)) : F49.E s Q := by
 unfold F49.E
 unfold shapeOk at hq
 refine F87.law _ _ ?_
 cases h1 : ptsOk s.Pts with
 | false => rw [h1, Bool.false_and] at hq; rw [Bool.false_and, if_pos RD]; exact hq
 | true =>
  rw [h1, Bool.true_and] at hq
  rw [Bool.true_and]
  unfold kindOk at hq
  by_cases h6 : s.Pts.length ≤ 6
  ·rw [decide_eq_true h6, if_neg RD]
   by_cases k1 : s.Kind = 1
   ·rw [if_pos k1] at hq
    rw [if_pos (by rw [beq_iff_eq]; exact k1)]
    have : ((s.Pts.length : Int) == 1) = decide (s.Pts.length = 1) := by rw [Bool.eq_iff_iff, beq_iff_eq, decide_eq_true_eq]; omega
    rw [this]; exact hq
   rw [if_neg k1] at hq
   rw [if_neg (by rw [beq_iff_eq]; exact k1)]
   by_cases k2 : s.Kind = 2
   ·rw [if_pos k2, decide_eq_true h6, Bool.and_true] at hq
    rw [if_pos (by rw [beq_iff_eq]; exact k2)]
    have : decide ((s.Pts.length : Int) ≥ 2) = decide (2 ≤ s.Pts.length) := decide_eq_decide.2 OM
    rw [this]; exact hq
   rw [if_neg k2] at hq
   rw [if_neg (by rw [beq_iff_eq]; exact k2)]
   by_cases k3 : s.Kind = 3
   ·rw [if_pos k3, decide_eq_true h6, Bool.and_true] at hq
    rw [if_pos (by rw [beq_iff_eq]; exact k3)]
    by_cases h3 : 3 ≤ s.Pts.length
    ·rw [decide_eq_true h3, Bool.true_and] at hq
     rw [if_pos (by rw [decide_eq_true_eq]; omega), eqPt_is]
     exact ⟨OM, fun _ => by unfold I64; omega, OM, hq⟩
    ·rw [decide_eq_false h3, Bool.false_and] at hq
     rw [if_neg (by rw [decide_eq_true_eq]; omega)]; exact hq
   ·rw [if_neg k3] at hq
    rw [if_neg (by rw [beq_iff_eq]; exact k3)]; exact hq
  ·rw [decide_eq_false h6, if_pos RD]
   have : (if s.Kind = 1 then decide (s.Pts.length = 1) else if s.Kind = 2 then decide (2 ≤ s.Pts.length) && decide (s.Pts.length ≤ 6)
 else if s.Kind = 3 then decide (3 ≤ s.Pts.length) && decide (s.Pts.length ≤ 6) && !(decide (nth s.Pts 0 = nth s.Pts ((s.Pts.length : Int) - 1))) else false) = false := by
    rw [decide_eq_false h6, decide_eq_false (show ¬ s.Pts.length = 1 by omega)]
    simp
   rw [this] at hq; exact hq
theorem F60.law (t : List Tag) (Q : Bool → Prop) (hq : Q (tagsOk t && decide (t.length ≤ 4))) : F60.E t Q := by
 unfold F60.E
 unfold tagsOk at hq
 refine loop_all t.length (fun k => wordOk (nth t (k : Int)).Key && wordOk (nth t (k : Int)).Val && (decide (k = 0) || Op.bytesLess (nth t ((k : Int) - 1)).Key (nth t (k : Int)).Key)) (fun I mu k hk hp hn => ?_) (fun ha => ?_)
 ·have bad : (wordOk (nth t (k : Int)).Key && wordOk (nth t (k : Int)).Val && (decide (k = 0) || Op.bytesLess (nth t ((k : Int) - 1)).Key (nth t (k : Int)).Key)) = false → Q false := fun h => by
   rw [allN_false hk h, Bool.false_and] at hq; exact hq
  refine ⟨OM, _, F56.law _ _ rfl, ?_⟩
  cases h1 : wordOk (nth t (k : Int)).Key with
  | false => rw [if_pos RD]; exact bad (by rw [h1]; rfl)
  | true =>
   rw [if_neg RD]
   refine ⟨OM, _, F56.law _ _ rfl, ?_⟩
   cases h2 : wordOk (nth t (k : Int)).Val with
   | false => rw [if_pos RD]; exact bad (by rw [h2, Bool.and_false]; rfl)
   | true =>
    rw [if_neg RD]
    by_cases hk0 : k = 0
    ·rw [if_neg (by rw [decide_eq_true_eq]; omega)]
     obtain ⟨i1, i2⟩ := hn (by rw [h1, h2, decide_eq_true hk0]; rfl)
     exact ⟨OM, i1, i2⟩
    ·rw [if_pos (by rw [decide_eq_true_eq]; omega)]
     refine ⟨OM, fun _ => by unfold I64; omega, OM, ?_⟩
     rw [← less_tri]
     cases h3 : Op.bytesLess (nth t ((k : Int) - 1)).Key (nth t (k : Int)).Key with
     | false => rw [if_pos RD]; exact bad (by rw [h3, h1, h2, decide_eq_false hk0]; rfl)
     | true =>
      rw [if_neg RD]
      obtain ⟨i1, i2⟩ := hn (by rw [h3, h1, h2, decide_eq_false hk0]; rfl)
      exact ⟨OM, i1, i2⟩
 ·rw [allN_true ha, Bool.true_and] at hq
  have e2 : decide ((t.length : Int) ≤ 4) = decide (t.length ≤ 4) := decide_eq_decide.2 OM
  rw [e2]; exact hq
theorem F61.law (f : Feat) (Q : Bool → Prop) (hq : Q (featOk f)) : F61.E f Q := by
 unfold F61.E
 unfold featOk at hq
 refine F56.law _ _ ?_
 cases h1 : wordOk f.Id with
 | false => rw [h1, Bool.and_false, Bool.false_and] at hq; rw [if_neg RD]; exact hq
 | true =>
  rw [h1, Bool.and_true] at hq
  rw [if_pos rfl]
  refine F49.law _ _ ?_
  cases h2 : shapeOk f.Shape with
  | false => rw [h2, Bool.and_false] at hq; rw [if_neg RD]; exact hq
  | true => rw [h2, Bool.and_true] at hq; rw [if_pos rfl]; exact F60.law _ _ hq
theorem F52.law (d : List Feat) (Q : Bool → Prop) (hq : Q (sheetOk d)) : F52.E d Q := by
 unfold F52.E
 unfold sheetOk at hq
 refine loop_all d.length (fun k => featOk (nth d (k : Int)) && (decide (k = 0) || Op.bytesLess (nth d ((k : Int) - 1)).Id (nth d (k : Int)).Id)) (fun I mu k hk hp hn => ?_) (fun ha => ?_)
 ·have bad : (featOk (nth d (k : Int)) && (decide (k = 0) || Op.bytesLess (nth d ((k : Int) - 1)).Id (nth d (k : Int)).Id)) = false → Q false := fun h => by
   rw [allN_false hk h, Bool.false_and] at hq; exact hq
  refine ⟨OM, _, F61.law _ _ rfl, ?_⟩
  cases h1 : featOk (nth d (k : Int)) with
  | false => rw [if_pos RD]; exact bad (by rw [h1]; rfl)
  | true =>
   rw [if_neg RD]
   by_cases hk0 : k = 0
   ·rw [if_neg (by rw [decide_eq_true_eq]; omega)]
    obtain ⟨i1, i2⟩ := hn (by rw [h1, decide_eq_true hk0]; rfl)
    exact ⟨OM, i1, i2⟩
   ·rw [if_pos (by rw [decide_eq_true_eq]; omega)]
    refine ⟨OM, fun _ => by unfold I64; omega, OM, ?_⟩
    rw [← less_tri]
    cases h3 : Op.bytesLess (nth d ((k : Int) - 1)).Id (nth d (k : Int)).Id with
    | false => rw [if_pos RD]; exact bad (by rw [h3, h1, decide_eq_false hk0]; rfl)
    | true =>
     rw [if_neg RD]
     obtain ⟨i1, i2⟩ := hn (by rw [h3, h1, decide_eq_false hk0]; rfl)
     exact ⟨OM, i1, i2⟩
 ·rw [allN_true ha, Bool.true_and] at hq
  have e2 : decide ((d.length : Int) ≤ 8) = decide (d.length ≤ 8) := decide_eq_decide.2 OM
  rw [e2]; exact hq
theorem F64.law (a b : List Tag) (Q : Bool → Prop) (hq : Q (decide (a = b))) : F64.E a b Q := by
 unfold F64.E
 exact eqS_shape eqTag eqTag_is a b Q hq
theorem F63.law (a b : List Pt) (Q : Bool → Prop) (hq : Q (decide (a = b))) : F63.E a b Q := by
 unfold F63.E
 exact eqS_shape eqPt eqPt_is a b Q hq
theorem F29.law (a b : Shape) (Q : Bool → Prop) (hq : Q (decide (a = b))) : F29.E a b Q := by
 unfold F29.E
 by_cases h : a.Kind = b.Kind
 ·rw [if_pos (by rw [beq_iff_eq]; exact h)]
  refine F63.law _ _ _ ?_
  have : decide (a.Pts = b.Pts) = decide (a = b) := decide_eq_decide.2 (by rw [Shape.ext_iff']; exact ⟨fun e => ⟨h, e⟩, fun e => e.2⟩)
  rw [this]; exact hq
 ·rw [if_neg (by rw [beq_iff_eq]; exact h)]
  rw [decide_eq_false (by rw [Shape.ext_iff']; exact fun e => h e.1)] at hq; exact hq
theorem F40.law (a b : Feat) (Q : Bool → Prop) (hq : Q (decide (a = b))) : F40.E a b Q := by
 unfold F40.E
 by_cases h : a.Id = b.Id
 ·rw [if_pos (by rw [beq_iff_eq]; exact h)]
  refine F29.law _ _ _ ?_
  by_cases h2 : a.Shape = b.Shape
  ·rw [decide_eq_true h2, if_pos rfl]
   refine F64.law _ _ _ ?_
   have : decide (a.Tags = b.Tags) = decide (a = b) := decide_eq_decide.2 (by rw [Feat.ext_iff']; exact ⟨fun e => ⟨h, h2, e⟩, fun e => e.2.2⟩)
   rw [this]; exact hq
  ·rw [decide_eq_false h2, if_neg RD]
   rw [decide_eq_false (by rw [Feat.ext_iff']; exact fun e => h2 e.2.1)] at hq; exact hq
 ·rw [if_neg (by rw [beq_iff_eq]; exact h)]
  rw [decide_eq_false (by rw [Feat.ext_iff']; exact fun e => h e.1)] at hq; exact hq
theorem F30.law (a b : List Feat) (Q : Bool → Prop) (hq : Q (decide (a = b))) : F30.E a b Q := by
 unfold F30.E
 by_cases hl : a.length = b.length
 ·rw [if_neg (by simp [hl])]
  exact eqQ_shape a b F40.E (fun x y _ => F40.law x y _ rfl) _ _ hl (fun h => by rw [decide_eq_false h] at hq; exact hq) (fun h => by rw [decide_eq_true h] at hq; exact hq)
 ·rw [if_pos (by rw [bne_iff_ne]; omega)]
  rw [decide_eq_false (fun e => hl (by rw [e]))] at hq; exact hq
theorem F62.law (a b : List Int) (Q : Bool → Prop) (hq : Q (decide (a = b))) : F62.E a b Q := by
 unfold F62.E
 exact eqN_shape a b Q hq
theorem Commit.ext_iff2 (a b : Commit) : a = b ↔ a.Up = b.Up ∧ a.Sheet = b.Sheet ∧ a.Note = b.Note := by cases a; cases b; simp
theorem F65.law (a b : Commit) (Q : Bool → Prop) (hq : Q (decide (a = b))) : F65.E a b Q := by
 unfold F65.E
 have e : decide (a = b) = (decide (a.Up = b.Up) && (decide (a.Sheet = b.Sheet) && decide (a.Note = b.Note))) := by
  rw [Bool.eq_iff_iff]; simp only [Bool.and_eq_true, decide_eq_true_eq]; exact Commit.ext_iff2 a b
 rw [e] at hq
 refine F62.law _ _ _ ?_
 cases h1 : decide (a.Up = b.Up) with
 | false => rw [h1] at hq; rw [if_neg RD]; exact hq
 | true =>
  rw [h1, Bool.true_and] at hq
  rw [if_pos rfl]
  refine F30.law _ _ _ ?_
  cases h2 : decide (a.Sheet = b.Sheet) with
  | false => rw [h2] at hq; rw [if_neg RD]; exact hq
  | true =>
   rw [h2, Bool.true_and] at hq
   rw [if_pos rfl]
   have : (a.Note == b.Note) = decide (a.Note = b.Note) := by rw [Bool.eq_iff_iff, beq_iff_eq, decide_eq_true_eq]
   rw [this]; exact hq
theorem F66.law (r : Repo) (c : Commit) (Q : Int → Prop) (hq : Q (findCommit r c)) : F66.E r c Q := by
 unfold F66.E
 refine loop_find r.Commits.length (fun j => decide (nth r.Commits (j : Int) = c)) hq (fun I mu k hk h1 h2 => ⟨OM, _, F65.law _ _ _ rfl, ?_⟩)
 cases h : decide (nth r.Commits (k : Int) = c) with
 | true => rw [if_pos rfl]; exact h1 h
 | false => rw [if_neg RD]; obtain ⟨i1, i2⟩ := h2 h; exact ⟨OM, i1, i2⟩
theorem F59.law (r : Repo) (name : Str) (Q : Int → Prop) (hq : Q (findHead r name)) : F59.E r name Q := by
 unfold F59.E
 refine loop_find r.Heads.length (fun j => decide ((nth r.Heads (j : Int)).Name = name)) hq (fun I mu k hk h1 h2 => ⟨OM, ?_⟩)
 have e : ((nth r.Heads (k : Int)).Name == name) = decide ((nth r.Heads (k : Int)).Name = name) := by rw [Bool.eq_iff_iff, beq_iff_eq, decide_eq_true_eq]
 rw [e]
 cases h : decide ((nth r.Heads (k : Int)).Name = name) with
 | true => rw [if_pos rfl]; exact h1 h
 | false => rw [if_neg RD]; obtain ⟨i1, i2⟩ := h2 h; exact ⟨OM, i1, i2⟩
theorem F67.law (r : Repo) (Q : Bool → Prop) (hq : Q (repoOk r)) : F67.E r Q := by
 unfold F67.E
 unfold repoOk at hq
 by_cases h1 : 1 ≤ r.Commits.length
 case neg => rw [if_pos (by rw [decide_eq_true_eq]; omega)]; rw [decide_eq_false h1] at hq; exact hq
 rw [if_neg (by rw [decide_eq_true_eq]; omega)]
 by_cases h2 : r.Commits.length ≤ 14
 case neg => rw [if_pos (by rw [decide_eq_true_eq]; omega)]; rw [decide_eq_false h2, Bool.and_false] at hq; exact hq
 rw [if_neg (by rw [decide_eq_true_eq]; omega)]
 by_cases h3 : 1 ≤ r.Heads.length
 case neg => rw [if_pos (by rw [decide_eq_true_eq]; omega)]; rw [decide_eq_false h3, Bool.false_and, Bool.and_false] at hq; exact hq
 rw [if_neg (by rw [decide_eq_true_eq]; omega)]
 by_cases h4 : r.Heads.length ≤ 4
 case neg => rw [if_pos (by rw [decide_eq_true_eq]; omega)]; rw [decide_eq_false h4, Bool.and_false, Bool.and_false] at hq; exact hq
 rw [if_neg (by rw [decide_eq_true_eq]; omega)]
 rw [decide_eq_true h1, decide_eq_true h2, decide_eq_true h3, decide_eq_true h4, Bool.and_self, Bool.and_self, Bool.true_and] at hq
 refine loop_all r.Commits.length (fun k => sheetOk (nth r.Commits (k : Int)).Sheet && wordOk (nth r.Commits (k : Int)).Note && decide (findCommit r (nth r.Commits (k : Int)) = (k : Int)) && upOk (nth r.Commits (k : Int)).Up k) (fun I mu k hk hp hn => ?_) (fun ha => ?_)
 ·have bad : (sheetOk (nth r.Commits (k : Int)).Sheet && wordOk (nth r.Commits (k : Int)).Note && decide (findCommit r (nth r.Commits (k : Int)) = (k : Int)) && upOk (nth r.Commits (k : Int)).Up k) = false → Q false := fun h => by
   rw [allN_false hk h, Bool.false_and] at hq; exact hq
  refine ⟨OM, F96.law _ _ _ ?_⟩
  cases a1 : upOk (nth r.Commits (k : Int)).Up k with
  | false => rw [if_pos RD]; exact bad (by rw [a1, Bool.and_false])
  | true =>
   rw [if_neg RD]
   refine F52.law _ _ ?_
   cases a2 : sheetOk (nth r.Commits (k : Int)).Sheet with
   | false => rw [if_pos RD]; exact bad (by rw [a2]; rfl)
   | true =>
    rw [if_neg RD]
    refine F56.law _ _ ?_
    cases a3 : wordOk (nth r.Commits (k : Int)).Note with
    | false => rw [if_pos RD]; exact bad (by rw [a3, Bool.and_false]; rfl)
    | true =>
     rw [if_neg RD]
     refine F66.law _ _ _ ?_
     by_cases a4 : findCommit r (nth r.Commits (k : Int)) = (k : Int)
     ·rw [if_neg (by rw [bne_iff_ne]; exact fun h => h a4)]
      obtain ⟨i1, i2⟩ := hn (by rw [a1, a2, a3, decide_eq_true a4]; rfl)
      exact ⟨OM, i1, i2⟩
     ·rw [if_pos (by rw [bne_iff_ne]; exact a4)]
      exact bad (by rw [decide_eq_false a4, Bool.and_false]; rfl)
 ·rw [allN_true ha, Bool.true_and] at hq
  refine loop_all r.Heads.length (fun k => wordOk (nth r.Heads (k : Int)).Name && decide (findHead r (nth r.Heads (k : Int)).Name = (k : Int)) && (decide (0 ≤ (nth r.Heads (k : Int)).At) && decide ((nth r.Heads (k : Int)).At < (r.Commits.length : Int)))) (fun I mu k hk hp hn => ?_) (fun ha => ?_)
  ·have bad : (wordOk (nth r.Heads (k : Int)).Name && decide (findHead r (nth r.Heads (k : Int)).Name = (k : Int)) && (decide (0 ≤ (nth r.Heads (k : Int)).At) && decide ((nth r.Heads (k : Int)).At < (r.Commits.length : Int)))) = false → Q false := fun h => by
    rw [allN_false hk h] at hq; exact hq
   refine ⟨OM, F56.law _ _ ?_⟩
   cases a1 : wordOk (nth r.Heads (k : Int)).Name with
   | false => rw [if_pos RD]; exact bad (by rw [a1]; rfl)
   | true =>
    rw [if_neg RD]
    refine F59.law _ _ _ ?_
    by_cases a2 : findHead r (nth r.Heads (k : Int)).Name = (k : Int)
    ·rw [if_neg (by rw [bne_iff_ne]; exact fun h => h a2)]
     by_cases a3 : 0 ≤ (nth r.Heads (k : Int)).At
     ·rw [if_neg (by rw [decide_eq_true_eq]; omega)]
      by_cases a4 : (nth r.Heads (k : Int)).At < (r.Commits.length : Int)
      ·rw [if_neg (by rw [decide_eq_true_eq]; omega)]
       obtain ⟨i1, i2⟩ := hn (by rw [a1, decide_eq_true a2, decide_eq_true a3, decide_eq_true a4]; rfl)
       exact ⟨OM, i1, i2⟩
      ·rw [if_pos (by rw [decide_eq_true_eq]; omega)]
       exact bad (by rw [decide_eq_false a4, Bool.and_false, Bool.and_false])
     ·rw [if_pos (by rw [decide_eq_true_eq]; omega)]
      exact bad (by rw [decide_eq_false a3, Bool.false_and, Bool.and_false])
    ·rw [if_pos (by rw [bne_iff_ne]; exact a2)]
     exact bad (by rw [decide_eq_false a2, Bool.and_false]; rfl)
  ·rw [allN_true ha] at hq; exact hq
theorem F98.law (r : Repo) (k : Int) (Q : Bool → Prop) (hq : Q (verIn r k)) : F98.E r k Q := by
 unfold F98.E
 unfold verIn at hq
 refine F67.law _ _ ?_
 cases h : repoOk r with
 | false => rw [h] at hq; rw [if_neg RD]; exact hq
 | true =>
  rw [h, Bool.true_and] at hq; rw [if_pos rfl]
  by_cases h1 : 0 ≤ k
  ·rw [decide_eq_true h1, Bool.true_and] at hq; rw [if_pos (by rw [decide_eq_true_eq]; exact h1)]; exact hq
  ·rw [decide_eq_false h1, Bool.false_and] at hq; rw [if_neg (by rw [decide_eq_true_eq]; exact h1)]; exact hq
theorem F55.law (r : Repo) (b : Nat) (Q : List Bool → Prop) (hr : repoOk r = true) (hb : b < r.Commits.length) (hq : Q (pastOf r b)) : F55.E r [(b : Int)] Q := by
 unfold F55.E
 have hc := repoOk_len hr
 simp only [Int.toNat_natCast]
 refine ⟨OM, ?_⟩
 refine ⟨fun xs i => (i = 0 ∧ xs = List.replicate r.Commits.length false) ∨ (i = 1 ∧ xs = (List.replicate r.Commits.length false).set b true), fun _ i => (1 - i).toNat, .inl ⟨rfl, rfl⟩, ?_⟩
 rintro xs _ (⟨rfl, rfl⟩ | ⟨rfl, rfl⟩)
 ·rw [if_pos (by simp)]
  have e : nth [(b : Int)] 0 = (b : Int) := rfl
  rw [e, Int.toNat_natCast]
  exact ⟨⟨OM, by simp⟩, ⟨OM, by simp; omega⟩, OM, .inr ⟨rfl, rfl⟩, by dsimp only; omega⟩
 rw [if_neg (by simp)]
 refine ⟨fun _ _ => by unfold I64; omega, ?_⟩
 refine ⟨fun xs k => ∃ j : Nat, k = (j : Int) - 1 ∧ j ≤ r.Commits.length ∧ xs.length = r.Commits.length ∧ back r j xs = pastOf r b, fun _ k => (k + 1).toNat, ⟨r.Commits.length, rfl, Nat.le_refl _, by simp, pastOf_all r hb⟩, ?_⟩
 rintro xs _ ⟨j, rfl, hj, hx, hbk⟩
 by_cases h0 : (j : Int) - 1 ≥ 0
 ·rw [if_pos (by rw [decide_eq_true_eq]; exact h0)]
  obtain ⟨i, rfl⟩ : ∃ i, j = i + 1 := ⟨j - 1, OM⟩
  have ei : ((i + 1 : Nat) : Int) - 1 = (i : Int) := by omega
  rw [ei]
  rw [back] at hbk
  have hu := repoOk_up hr (k := i) OM
  generalize (nth r.Commits (i : Int)).Up = up at *
  refine ⟨fun ys v => ∃ u : Nat, v = u ∧ u ≤ up.length ∧ ys = (if nth xs (i : Int) then stepUp (up.take u) xs else xs) ∧ (nth xs (i : Int) = false → u = 0), fun _ v => (up.length - v).toNat, ⟨0, rfl, Nat.zero_le _, by split <;> rfl, fun _ => rfl⟩, ?_⟩
  rintro ys _ ⟨u, rfl, hu', hy, hz⟩
  have hyl : ys.length = r.Commits.length := by rw [hy]; split <;> simp [stepUp_len, hx]
  have hyn : nth ys (i : Int) = nth xs (i : Int) := by
   rw [hy]; split
   ·exact stepUp_nth _ _ _ fun x hxm => by have := hu x (List.mem_of_mem_take hxm); omega
   ·rfl
  refine ⟨OM, ?_⟩
  by_cases h1 : (u : Int) < (up.length : Int)
  ·rw [if_pos (by rw [decide_eq_true_eq]; exact h1)]
   refine ⟨OM, ?_⟩
   rw [hyn]
   cases hn : nth xs (i : Int) with
   | true =>
    rw [if_pos rfl]
    rw [hn, if_pos rfl] at hy
    have hm := hu _ (nth_mem up (show u < up.length by omega))
    exact ⟨OM, OM, OM, OM, ⟨u + 1, OM, OM, by rw [if_pos rfl, hy]; exact (stepUp_take up xs OM).symm, fun h => (by cases h)⟩, by dsimp only; omega⟩
   | false =>
    rw [if_neg RD]
    rw [hn, if_neg RD] at hbk hy
    exact ⟨fun _ => by unfold I64; omega, ⟨i, rfl, OM, hyl, by rw [hy]; exact hbk⟩, by dsimp only; omega⟩
  ·rw [if_neg (by rw [decide_eq_true_eq]; exact h1)]
   have hul : u = up.length := by omega
   refine ⟨fun _ => by unfold I64; omega, ⟨i, rfl, OM, hyl, ?_⟩, by dsimp only; omega⟩
   rw [hy, hul, List.take_length]; exact hbk
 ·rw [if_neg (by rw [decide_eq_true_eq]; exact h0)]
  have : j = 0 := by omega
  subst this
  rw [back] at hbk
  rw [hbk]; exact hq
theorem F46.law (r : Repo) (a : Int) (Q : List Int → Prop) (hq : Q (pastL r a)) : F46.E r a Q := by
 unfold F46.E
 refine F98.law _ _ _ (iteB (fun h => ?_) fun h => ?_)
 ·have e : pastL r a = [] := by unfold pastL; rw [show verIn r a = false by simpa using h]; rfl
  rw [← e]; exact hq
 have hv : verIn r a = true := by simpa using h
 obtain ⟨ho, g⟩ := ver_of hv
 obtain ⟨k, rfl⟩ := Int.eq_ofNat_of_zero_le g.1
 have hk : k < r.Commits.length := by omega
 have e : pastL r (k : Int) = told (pastOf r k) (k + 1) := by unfold pastL; rw [hv, if_pos rfl]; exact past_told ho hk
 rw [e] at hq
 have hl := pastOf_len r k
 have h14 := repoOk_len ho
 refine F55.law _ _ _ ho hk ?_
 generalize pastOf r k = m at *
 refine ⟨fun xs i => ∃ j : Nat, i = (j : Int) - 1 ∧ j ≤ k + 1 ∧ xs ++ told m j = told m (k + 1) ∧ xs.length ≤ k + 1 - j, fun _ i => (i + 1).toNat, ⟨k + 1, OM, Nat.le_refl _, rfl, by simp⟩, ?_⟩
 rintro xs _ ⟨j, rfl, hj, hx, hn⟩
 by_cases h : j = 0
 ·subst h
  rw [if_neg RD]
  rw [show told m 0 = [] from rfl, List.append_nil] at hx
  rw [hx]; exact hq
 rw [if_pos (by rw [decide_eq_true_eq]; omega)]
 obtain ⟨i, rfl⟩ : ∃ i, j = i + 1 := ⟨j - 1, OM⟩
 have e : ((i + 1 : Nat) : Int) - 1 = (i : Int) := by omega
 rw [e]
 rw [told] at hx
 refine ⟨OM, iteB (fun g => ?_) fun g => ?_⟩
 ·rw [g, if_pos rfl] at hx
  exact ⟨by simp only [List.length_cons, List.length_nil]; omega, by unfold I64; omega, ⟨i, rfl, OM, by rw [List.append_assoc]; exact hx, by rw [List.length_append, List.length_singleton]; omega⟩, by dsimp only; omega⟩
 ·rw [g, if_neg RD] at hx
  exact ⟨by unfold I64; omega, ⟨i, rfl, OM, hx, OM⟩, by dsimp only; omega⟩
theorem F35.law (r : Repo) (a b : Int) (Q : Bool → Prop) (hb : bulk r ≤ 1048576) (hq : Q (ahead r a b)) : F35.E r a b Q := by
 unfold F35.E
 unfold ahead verIn at hq
 refine F84.law _ _ hb ?_
 cases hr : repoOk r with
 | false => rw [hr] at hq; rw [if_neg RD]; exact hq
 | true =>
 rw [hr, Bool.true_and, Bool.true_and] at hq
 rw [if_pos rfl]
 refine F13.law _ _ _ ?_
 cases h1 : (decide (0 ≤ a) && decide (a < (r.Commits.length : Int))) with
 | false => rw [h1] at hq; rw [if_neg RD]; exact hq
 | true =>
 rw [h1, Bool.true_and] at hq; rw [if_pos rfl]
 refine F13.law _ _ _ ?_
 cases h2 : (decide (0 ≤ b) && decide (b < (r.Commits.length : Int))) with
 | false => rw [h2] at hq; rw [if_neg RD]; exact hq
 | true =>
 rw [h2, Bool.true_and] at hq; rw [if_pos rfl]
 simp only [Bool.and_eq_true, decide_eq_true_eq] at h1 h2
 obtain ⟨hb0, hb1⟩ := h2
 obtain ⟨n, rfl⟩ := Int.eq_ofNat_of_zero_le hb0
 rw [Int.toNat_natCast] at hq
 refine F34.law r n _ hr OM hb ?_
 exact ⟨by rw [pastOf_len]; omega, hq⟩
theorem F36.law (r : Repo) (a b : Int) (Q : Bool → Prop) (hq : Q (ahead r a b)) : F36.E r a b Q := by
 unfold F36.E
 unfold ahead at hq
 refine F98.law _ _ _ ?_
 cases h1 : verIn r a with
 | false => rw [h1] at hq; rw [if_neg RD]; exact hq
 | true =>
  rw [h1, Bool.true_and] at hq; rw [if_pos rfl]
  refine F98.law _ _ _ ?_
  cases h2 : verIn r b with
  | false => rw [h2] at hq; rw [if_neg RD]; exact hq
  | true =>
   rw [h2, Bool.true_and] at hq; rw [if_pos rfl]
   simp only [verIn, Bool.and_eq_true, decide_eq_true_eq] at h1 h2
   obtain ⟨hr, hb0, hb1⟩ := h2
   obtain ⟨_, ha0, ha1⟩ := h1
   obtain ⟨n, rfl⟩ := Int.eq_ofNat_of_zero_le hb0
   rw [Int.toNat_natCast] at hq
   refine F55.law r n _ hr OM ?_
   exact ⟨by rw [pastOf_len]; omega, hq⟩
theorem F48.law (name : Str) (Q : Repo → Bool → Prop) (hw : wordOk name = true) (hq : Q ⟨[⟨[], [], [98, 101, 103, 105, 110]⟩], [⟨name, 0⟩]⟩ true) : F48.E name Q := by
 unfold F48.E
 refine F56.law _ _ ?_
 rw [hw]
 exact hq
theorem ediv_le {p l : Int} (hp : 0 ≤ p) (hl : 0 < l) : 0 ≤ p / l ∧ p / l ≤ p := ⟨Int.ediv_nonneg hp OM, Int.ediv_le_self _ hp⟩
theorem F23.law (b : List UInt8) (p n : Int) (Q : Int → Int → Prop) (hb : b.length ≤ 2000) (hp : 0 ≤ p) (hp1 : p ≤ 1099511627776) (hq : ∀ v, 0 ≤ v → (v < n ∨ v = 0) → Q v (p + 1)) : F23.E b p n Q := by
 unfold F23.E
 refine ⟨by unfold I64; omega, ?_⟩
 by_cases hn : n < 1
 ·rw [if_pos (by simpa using hn)]; exact hq 0 OM (.inr rfl)
 rw [if_neg (by simpa using hn)]
 by_cases hl : (b.length : Int) = 0
 ·rw [if_pos (by simpa using hl)]; exact hq 0 OM (.inr rfl)
 rw [if_neg (by simpa using hl)]
 refine ⟨fun _ => by unfold I64; omega, ?_⟩
 rw [show p + 1 - 1 = p by omega]
 have fin : ∀ z : Int, 0 ≤ z → Q (z % n) (p + 1) := fun z hz => hq _ (Int.emod_nonneg _ OM) (.inl (Int.emod_lt_of_pos _ OM))
 by_cases hc : p < (b.length : Int)
 ·rw [if_pos (by simpa using hc)]
  exact ⟨OM, ⟨OM, OM⟩, fin _ OM⟩
 rw [if_neg (by simpa using hc)]
 have hlen : (0 : Int) < (b.length : Int) := by omega
 generalize hL : (b.length : Int) = L at *
 have m1 := Int.emod_nonneg p (show L ≠ 0 by omega)
 have m2 := Int.emod_lt_of_pos p hlen
 have m3 := Int.emod_nonneg (p * 7 + 3) (show L ≠ 0 by omega)
 have m4 := Int.emod_lt_of_pos (p * 7 + 3) hlen
 obtain ⟨d1, d2⟩ := ediv_le hp hlen
 generalize p % L = r1 at *
 generalize (p * 7 + 3) % L = r2 at *
 generalize p / L = q at *
 have u1 := (nth b r1).toNat_lt
 have u2 := (nth b r2).toNat_lt
 generalize (nth b r1).toNat = x1 at *
 generalize (nth b r2).toNat = x2 at *
 have s0 : 0 ≤ (x1 : Int) * 131 + (x2 : Int) * 1117 + p * 29 + q * 53 := by omega
 have s1 : (x1 : Int) * 131 + (x2 : Int) * 1117 + p * 29 + q * 53 ≤ 9223372036854775807 := by omega
 refine ⟨OM, OM, fun _ => by unfold I64; omega, fun _ => by unfold I64; omega, fun _ => by unfold I64; omega, OM, OM, fun _ => by unfold I64; omega, fun _ => by unfold I64; omega, fun _ => by unfold I64; omega, fun _ => by unfold I64; omega, OM, fun _ => by unfold I64; omega, fun _ => by unfold I64; omega, OM, ?_⟩
 generalize (x1 : Int) * 131 + (x2 : Int) * 1117 + p * 29 + q * 53 = s at *
 have hx : 0 ≤ xor64 s (s / 64) := xor64_nonneg ⟨s0, s1⟩ OM
 exact ⟨OM, fin _ hx⟩
theorem F28.law (b : List UInt8) (p : Int) (l : List Int) (Q : Int → Int → Prop) (hb : b.length ≤ 2000) (hp : 0 ≤ p) (hp1 : p ≤ 1099511627776) (hl : 0 < l.length) (hq : ∀ s ∈ l, Q s (p + 1)) : F28.E b p l Q := by
 unfold F28.E
 exact F23.law _ _ _ _ hb hp hp1 fun v h0 h1 => ⟨OM, hq _ (nth_memi l h0 OM)⟩
theorem F95.law (b : List UInt8) (p : Int) (Q : Pt → Int → Prop) (hb : b.length ≤ 2000) (hp : 0 ≤ p) (hp1 : p ≤ 1000000000) (hq : ∀ x y, 0 ≤ x → x ≤ 3 → 0 ≤ y → y ≤ 5 → Q ⟨x, y⟩ (p + 2)) : F95.E b p Q := by
 unfold F95.E
 refine F23.law _ _ _ _ hb hp OM fun v h0 h1 => F28.law _ _ _ _ hb OM OM RD fun y hy => ?_
 rw [show p + 1 + 1 = p + 2 by omega]
 simp only [List.mem_cons, List.not_mem_nil, or_false] at hy
 exact hq _ _ h0 OM OM OM
theorem F85.m_is (a b : Int) : F85.m a b = min a b := by
 unfold F85.m
 by_cases h : a < b
 ·simp [h]; omega
 ·simp [h]; omega
theorem F50.law (b : List UInt8) (p : Int) (Q : Shape → Int → Prop) (hb : b.length ≤ 2000) (hp : 0 ≤ p) (hp1 : p ≤ 100000000) (hq : ∀ s p', shapeOk s = true → (∀ q ∈ s.Pts, NX q) → p ≤ p' → p' ≤ p + 40 → Q s p') : F50.E b p Q := by
 unfold F50.E
 refine F28.law _ _ _ _ hb hp OM RD fun k hk => F23.law _ _ _ _ hb OM OM fun v hv0 hv1 => ?_
 have hk' : 1 ≤ k ∧ k ≤ 3 := by
  simp only [List.mem_cons, List.not_mem_nil, or_false] at hk; omega
 have fin : ∀ (xs : List Pt) (z : Int), (∀ q ∈ xs, NX q) → p ≤ z → z ≤ p + 30 → F49.E ⟨k, xs⟩ (fun r6 => (if !r6 then F95.E b z (fun r7 m4 => Q (⟨1, ([r7] : List Pt)⟩ : Shape) m4) else Q (⟨k, xs⟩ : Shape) z)) := fun xs z hx h1 h2 => by
  refine F49.law _ _ ?_
  cases h : shapeOk ⟨k, xs⟩ with
  | true => rw [if_neg RD]; exact hq _ _ h hx h1 OM
  | false => rw [if_pos RD]; exact F95.law _ _ _ hb OM OM fun x y x0 x1 y0 y1 => hq _ _ (dot_ok x0 OM y0 y1) (fun q hq' => by rw [List.mem_singleton.1 hq']; exact .of x1) OM OM
 refine ⟨by unfold I64; omega, fun w => 1 ≤ w ∧ w ≤ 6, by split <;> omega, ?_⟩
 rintro want ⟨w1, w2⟩
 refine ⟨fun i xs z => 0 ≤ i ∧ i ≤ 12 ∧ (xs.length : Int) ≤ i ∧ (∀ q ∈ xs, NX q) ∧ p + 2 ≤ z ∧ z ≤ p + 2 + 2 * i, fun i _ _ => (12 - i).toNat, ⟨OM, OM, by simp, by simp, OM, OM⟩, ?_⟩
 rintro i xs z ⟨h0, h1, h2, hx, h3, h4⟩
 by_cases hi : i < 12
 case neg => rw [if_neg (by simpa using hi)]; exact fin _ _ hx OM OM
 rw [if_pos (by simpa using hi)]
 by_cases hl : (xs.length : Int) < F85.m want 6
 case neg => rw [if_neg (by simpa using hl)]; exact fin _ _ hx OM OM
 rw [if_pos (by simpa using hl)]
 refine F95.law _ _ _ hb OM OM fun x y x0 x1 y0 y1 => ⟨fun _ => True, ?_, fun v _ => ⟨fun ys => (ys.length : Int) ≤ i + 1 ∧ ∀ q ∈ ys, NX q, ?_, fun ys hys => ⟨by unfold I64; omega, ⟨OM, OM, hys.1, hys.2, OM, OM⟩, by dsimp only; omega⟩⟩⟩
 ·by_cases h0 : (xs.length : Int) = 0
  ·rw [if_pos (by simpa using h0)]; trivial
  ·rw [if_neg (by simpa using h0)]
   refine ⟨fun _ => by unfold I64; omega, OM, ?_⟩
   split
   ·split
    ·trivial
    ·exact ⟨OM, trivial⟩
   ·trivial
 ·cases v with
  | true => rw [if_pos rfl]; exact ⟨by simp only [List.length_cons, List.length_nil]; omega, by simp only [List.length_append, List.length_cons, List.length_nil]; omega, fun q hq' => (List.mem_append.1 hq').elim (hx q) fun g => by rw [List.mem_singleton.1 g]; exact .of x1⟩
  | false => rw [if_neg RD]; exact ⟨OM, hx⟩
theorem F39.law (b : List UInt8) (p : Int) (l : List Str) (Q : Str → Int → Prop) (hb : b.length ≤ 2000) (hp : 0 ≤ p) (hp1 : p ≤ 1099511627776) (hl : 0 < l.length) (hq : ∀ s ∈ l, Q s (p + 1)) : F39.E b p l Q := by
 unfold F39.E
 exact F23.law _ _ _ _ hb hp hp1 fun v h0 h1 => ⟨OM, hq _ (nth_memi l h0 OM)⟩
theorem F88.law (b : List UInt8) (p : Int) (Q : Str → Int → Prop) (hb : b.length ≤ 2000) (hp : 0 ≤ p) (hp1 : p ≤ 1000000000) (hq : ∀ k ∈ keyL, Q k (p + 1)) : F88.E b p Q := by
 unfold F88.E
 exact F39.law _ _ _ _ hb hp OM RD hq
theorem F89.law (b : List UInt8) (p : Int) (Q : Str → Int → Prop) (hb : b.length ≤ 2000) (hp : 0 ≤ p) (hp1 : p ≤ 1000000000) (hq : ∀ k ∈ valL, Q k (p + 1)) : F89.E b p Q := by
 unfold F89.E
 exact F39.law _ _ _ _ hb hp OM RD hq
def PutT (s : List Tag) (key val : Str) (u : Nat) (xs : List Tag) (done : Bool) : Prop :=
 u ≤ s.length ∧ SS (keysT xs) ∧ (∀ x, x ∈ keysT xs ↔ x ∈ keysT (s.take u) ∨ (done = true ∧ x = key)) ∧ (done = false → (∀ x ∈ keysT (s.take u), Op.bytesLess x key = true) ∧ xs = s.take u) ∧
  (done = true → ∀ y ∈ keysT (s.drop u), Op.bytesLess key y = true) ∧ xs.length ≤ u + 1 ∧ (∀ z ∈ xs, z ∈ s ∨ z = ⟨key, val⟩)
theorem ss_snocT {l : List Str} {x : Str} (h : SS l) (hx : ∀ y ∈ l, Op.bytesLess y x = true) : SS (l ++ [x]) := by
 unfold SS
 rw [List.pairwise_append]
 exact ⟨h, List.pairwise_singleton _ _, fun a ha b hb => by rw [List.mem_singleton.1 hb]; exact hx a ha⟩
theorem keys_take {s : List Tag} {u : Nat} (hu : u < s.length) : keysT (s.take (u + 1)) = keysT (s.take u) ++ [(nth s (u : Int)).Key] := by rw [take_nth s hu, keys_app]; rfl
theorem keys_cut (s : List Tag) (u : Nat) : keysT s = keysT (s.take u) ++ keysT (s.drop u) := by rw [← keys_app, List.take_append_drop]
theorem dropNthT {s : List Tag} {u : Nat} (hu : u < s.length) : s.drop u = nth s (u : Int) :: s.drop (u + 1) := by rw [nth_nat s hu]; exact List.drop_eq_getElem_cons hu
theorem ss_ltT {s : List Tag} (h : SS (keysT s)) {u : Nat} (hu : u < s.length) : (∀ x ∈ keysT (s.take u), Op.bytesLess x (nth s (u : Int)).Key = true) ∧ ∀ y ∈ keysT (s.drop (u + 1)), Op.bytesLess (nth s (u : Int)).Key y = true := by
 have e := keys_cut s u
 rw [dropNthT hu] at e
 have e2 : keysT (nth s (u : Int) :: s.drop (u + 1)) = (nth s (u : Int)).Key :: keysT (s.drop (u + 1)) := rfl
 rw [e2] at e
 rw [e] at h
 obtain ⟨h1, h2, h3⟩ := List.pairwise_append.1 h
 exact ⟨fun x hx => h3 x hx _ List.mem_cons_self, (List.pairwise_cons.1 h2).1⟩
theorem F90.law (s : List Tag) (key val : Str) (Q : List Tag → Prop) (hl : s.length ≤ 1048576) (hs : SS (keysT s)) (hq : ∀ r, SS (keysT r) → (∀ x, x ∈ keysT r ↔ x ∈ keysT s ∨ x = key) → r.length ≤ s.length + 1 → (∀ z ∈ r, z ∈ s ∨ z = ⟨key, val⟩) → Q r) : F90.E s key val Q := by
 unfold F90.E
 refine ⟨fun xs done i => ∃ u : Nat, i = u ∧ PutT s key val u xs done, fun _ _ i => (s.length - i).toNat, ⟨0, rfl, Nat.zero_le _, by simp [keysT, SS], by simp [keysT], fun _ => ⟨by simp [keysT], by simp⟩, (fun h => by cases h), by simp, by simp⟩, ?_⟩
 rintro xs done _ ⟨u, rfl, hu, h1, h2, h3, h4, h5, h6⟩
 by_cases h : u < s.length
 ·rw [if_pos (by simpa using h)]
  obtain ⟨b1, b2⟩ := ss_ltT hs h
  have hin : nth s (u : Int) ∈ s := nth_mem s h
  have hdr : ∀ y ∈ keysT (s.drop u), y = (nth s (u : Int)).Key ∨ y ∈ keysT (s.drop (u + 1)) := fun y hy => by rw [dropNthT h] at hy; exact List.mem_cons.1 hy
  have hcur : (nth s (u : Int)).Key ∈ keysT (s.drop u) := by rw [dropNthT h]; exact List.mem_cons_self
  have hdr' : ∀ y ∈ keysT (s.drop (u + 1)), y ∈ keysT (s.drop u) := fun y hy => by rw [dropNthT h]; exact List.mem_cons_of_mem _ hy
  have stay : ∀ d, d = done → Op.bytesLess (nth s (u : Int)).Key key = true ∨ d = true → xs.length + 1 ≤ u + 1 + 1 → PutT s key val (u + 1) (xs ++ [nth s (u : Int)]) d := fun d hd hor hlen => by
   subst hd
   refine ⟨h, ?_, fun x => ?_, fun hdn => ⟨fun x hx => ?_, ?_⟩, fun hdn y hy => h4 hdn y (hdr' y hy), by simp only [List.length_append, List.length_singleton]; omega, fun z hz => ?_⟩
   ·rw [keys_app]
    refine ss_snocT h1 fun y hy => ?_
    rcases (h2 y).1 hy with hy | ⟨hd, rfl⟩
    ·exact b1 y hy
    ·exact h4 hd _ hcur
   ·rw [keys_app, List.mem_append, h2, keys_take h, List.mem_append]
    constructor
    ·rintro ((hx | hx) | hx)
     ·exact .inl (.inl hx)
     ·exact .inr hx
     ·exact .inl (.inr hx)
    ·rintro ((hx | hx) | hx)
     ·exact .inl (.inl hx)
     ·exact .inr hx
     ·exact .inl (.inr hx)
   ·rw [keys_take h] at hx
    rcases List.mem_append.1 hx with hx | hx
    ·exact (h3 hdn).1 x hx
    ·rw [List.mem_singleton.1 hx]
     rcases hor with hor | hor
     ·exact hor
     ·rw [hdn] at hor; cases hor
   ·rw [(h3 hdn).2, ← take_nth s h]
   ·rcases List.mem_append.1 hz with hz | hz
    ·exact h6 z hz
    ·rw [List.mem_singleton.1 hz]; exact .inl hin
  cases done with
  | true =>
   rw [if_neg RD]
   have hlt := h4 rfl _ hcur
   have hne : (nth s (u : Int)).Key ≠ key := fun e => by rw [e, less_irr] at hlt; cases hlt
   refine ⟨OM, ?_⟩
   rw [if_pos (by rw [bne_iff_ne]; exact hne)]
   exact ⟨OM, by simp only [List.length_cons, List.length_nil]; omega, OM, ⟨u + 1, OM, stay true rfl (.inr rfl) OM⟩, by dsimp only; omega⟩
  | false =>
   rw [if_pos RD]
   obtain ⟨c1, c2⟩ := h3 rfl
   have hxl : xs.length = u := by rw [c2, List.length_take]; omega
   refine ⟨OM, ?_⟩
   cases k : Op.bytesLess (nth s (u : Int)).Key key with
   | true =>
    rw [if_neg RD]
    have hne : (nth s (u : Int)).Key ≠ key := fun e => by rw [e, less_irr] at k; cases k
    refine ⟨OM, ?_⟩
    rw [if_pos (by rw [bne_iff_ne]; exact hne)]
    exact ⟨OM, by simp only [List.length_cons, List.length_nil]; omega, OM, ⟨u + 1, OM, stay false rfl (.inl k) OM⟩, by dsimp only; omega⟩
   | false =>
    rw [if_pos RD]
    have g1 : SS (keysT (xs ++ [(⟨key, val⟩ : Tag)])) := by
     rw [keys_app]
     refine ss_snocT h1 fun y hy => ?_
     rcases (h2 y).1 hy with hy | ⟨hd, _⟩
     ·exact c1 y hy
     ·cases hd
    refine ⟨by simp only [List.length_cons, List.length_nil]; omega, OM, ?_⟩
    by_cases hne : (nth s (u : Int)).Key = key
    ·rw [if_neg (by rw [hne]; simp)]
     refine ⟨OM, ⟨u + 1, OM, h, g1, fun x => ?_, (fun hd => by cases hd), fun _ y hy => by rw [← hne]; exact b2 y hy, by simp only [List.length_append, List.length_singleton]; omega, fun z hz => ?_⟩, by dsimp only; omega⟩
     ·rw [keys_app, List.mem_append, h2, keys_take h, List.mem_append, hne]
      show _ ∨ x ∈ [key] ↔ _
      rw [List.mem_singleton]
      constructor
      ·rintro ((hx | ⟨hd, _⟩) | hx)
       ·exact .inl (.inl hx)
       ·cases hd
       ·exact .inr ⟨rfl, hx⟩
      ·rintro ((hx | hx) | ⟨_, hx⟩)
       ·exact .inl (.inl hx)
       ·exact .inr hx
       ·exact .inr hx
     ·rcases List.mem_append.1 hz with hz | hz
      ·exact h6 z hz
      ·exact .inr (List.mem_singleton.1 hz)
    ·rw [if_pos (by rw [bne_iff_ne]; exact hne)]
     have hlt : Op.bytesLess key (nth s (u : Int)).Key = true := by
      rcases less_or k with g | g
      ·exact g
      ·exact absurd g.symm hne
     refine ⟨OM, by simp only [List.length_append, List.length_cons, List.length_nil]; omega, OM, ⟨u + 1, OM, h, ?_, fun x => ?_, (fun hd => by cases hd), fun _ y hy => less_trans hlt (b2 y hy), by simp only [List.length_append, List.length_singleton]; omega, fun z hz => ?_⟩, by dsimp only; omega⟩
     ·rw [keys_app]
      refine ss_snocT g1 fun y hy => ?_
      rw [keys_app] at hy
      rcases List.mem_append.1 hy with hy | hy
      ·rcases (h2 y).1 hy with hy | ⟨hd, _⟩
       ·exact b1 y hy
       ·cases hd
      ·have hy : y = key := List.mem_singleton.1 hy
       rw [hy]; exact hlt
     ·rw [keys_app, keys_app, List.mem_append, List.mem_append, h2, keys_take h, List.mem_append]
      show (_ ∨ x ∈ [key]) ∨ x ∈ [(nth s (u : Int)).Key] ↔ _
      rw [List.mem_singleton, List.mem_singleton]
      constructor
      ·rintro (((hx | ⟨hd, _⟩) | hx) | hx)
       ·exact .inl (.inl hx)
       ·cases hd
       ·exact .inr ⟨rfl, hx⟩
       ·exact .inl (.inr hx)
      ·rintro ((hx | hx) | ⟨_, hx⟩)
       ·exact .inl (.inl (.inl hx))
       ·exact .inr hx
       ·exact .inl (.inr hx)
     ·rcases List.mem_append.1 hz with hz | hz
      ·rcases List.mem_append.1 hz with hz | hz
       ·exact h6 z hz
       ·exact .inr (List.mem_singleton.1 hz)
      ·rw [List.mem_singleton.1 hz]; exact .inl hin
 ·rw [if_neg (by simpa using h)]
  have : u = s.length := by omega
  subst this
  rw [List.take_length] at h2 h3
  cases done with
  | true =>
   rw [if_neg RD]
   exact hq xs h1 (fun x => by rw [h2]; simp) h5 h6
  | false =>
   rw [if_pos RD]
   obtain ⟨c1, c2⟩ := h3 rfl
   refine ⟨by simp only [List.length_cons, List.length_nil]; omega, hq _ ?_ (fun x => ?_) (by rw [c2]; simp) fun z hz => ?_⟩
   ·rw [keys_app]
    refine ss_snocT h1 fun y hy => ?_
    rcases (h2 y).1 hy with hy | ⟨hd, _⟩
    ·exact c1 y hy
    ·cases hd
   ·rw [keys_app, List.mem_append, h2]
    show _ ∨ x ∈ [key] ↔ _
    rw [List.mem_singleton]; simp
   ·rcases List.mem_append.1 hz with hz | hz
    ·exact h6 z hz
    ·exact .inr (List.mem_singleton.1 hz)
theorem keys_drawn {s : List Tag} {k v : Str} (hk : k ∈ keyL) (hv : v ∈ valL) (h : ∀ x ∈ s, DT x) {r : List Tag} (hr : ∀ z ∈ r, z ∈ s ∨ z = ⟨k, v⟩) : ∀ x ∈ r, DT x := fun x hx => by
 rcases hr x hx with g | rfl
 ·exact h x g
 ·exact ⟨hk, hv⟩
theorem F57.law (b : List UInt8) (p : Int) (id : Str) (Q : Feat → Int → Prop) (hb : b.length ≤ 2000) (hp : 0 ≤ p) (hp1 : p ≤ 10000000) (hq : ∀ s t p', shapeOk s = true → SS (keysT t) → t.length ≤ 3 → (∀ x ∈ t, DT x) → (∀ q ∈ s.Pts, NX q) → p ≤ p' → p' ≤ p + 60 → Q ⟨id, s, t⟩ p') : F57.E b p id Q := by
 unfold F57.E
 refine F50.law _ _ _ hb hp OM fun s p1 hs hx p0 p2 => F23.law _ _ _ _ hb OM OM fun k hk0 hk1 => ?_
 refine ⟨fun i t z => 0 ≤ i ∧ i ≤ 3 ∧ SS (keysT t) ∧ (t.length : Int) + i ≤ 3 ∧ (∀ x ∈ t, DT x) ∧ p ≤ z ∧ z ≤ p + 41 + 2 * (3 - i), fun i _ _ => i.toNat, ⟨OM, OM, List.Pairwise.nil, by simp only [List.length_nil]; omega, by simp, OM, OM⟩, ?_⟩
 rintro i t z ⟨h0, h1, h2, h3, h4, h5, h6⟩
 by_cases hi : i > 0
 case neg => rw [if_neg (by simpa using hi)]; exact hq _ _ _ hs h2 OM h4 hx h5 OM
 rw [if_pos (by simpa using hi)]
 refine F88.law _ _ _ hb OM OM fun key hkey => F89.law _ _ _ hb OM OM fun val hval => F90.law _ _ _ _ OM h2 fun r r1 r2 r3 r4 => ⟨by unfold I64; omega, ⟨OM, OM, r1, OM, keys_drawn hkey hval h4 r4, OM, OM⟩, by dsimp only; omega⟩
theorem feat_drawn {id : Str} {s : Shape} {t : List Tag} (h1 : wordOk id = true) (h2 : shapeOk s = true) (h3 : SS (keysT t)) (h4 : t.length ≤ 3) (h5 : ∀ x ∈ t, DT x) : featOk ⟨id, s, t⟩ = true := feat_of h1 h2 h3 OM fun x hx => (h5 x hx).ok
theorem F94.law (b : List UInt8) (p : Int) (Q : Str → Int → Prop) (hb : b.length ≤ 2000) (hp : 0 ≤ p) (hp1 : p ≤ 1000000000) (hq : ∀ k ∈ idL, Q k (p + 1)) : F94.E b p Q := by
 unfold F94.E
 exact F39.law _ _ _ _ hb hp OM RD hq
def PutS (s : List Feat) (f : Feat) (u : Nat) (xs : List Feat) (done : Bool) : Prop :=
 u ≤ s.length ∧ SS (ids xs) ∧ (∀ x, x ∈ ids xs ↔ x ∈ ids (s.take u) ∨ (done = true ∧ x = f.Id)) ∧ (done = false → (∀ x ∈ ids (s.take u), Op.bytesLess x f.Id = true) ∧ xs = s.take u) ∧
  (done = true → ∀ y ∈ ids (s.drop u), Op.bytesLess f.Id y = true) ∧ xs.length ≤ u + 1 ∧ (∀ z ∈ xs, z ∈ s ∨ z = f)
theorem ss_snoc {l : List Str} {x : Str} (h : SS l) (hx : ∀ y ∈ l, Op.bytesLess y x = true) : SS (l ++ [x]) := by
 unfold SS
 rw [List.pairwise_append]
 exact ⟨h, List.pairwise_singleton _ _, fun a ha b hb => by rw [List.mem_singleton.1 hb]; exact hx a ha⟩
theorem ids_take {s : List Feat} {u : Nat} (hu : u < s.length) : ids (s.take (u + 1)) = ids (s.take u) ++ [(nth s (u : Int)).Id] := by rw [take_nth s hu, ids_app]; rfl
theorem ids_cut (s : List Feat) (u : Nat) : ids s = ids (s.take u) ++ ids (s.drop u) := by rw [← ids_app, List.take_append_drop]
theorem dropNth {s : List Feat} {u : Nat} (hu : u < s.length) : s.drop u = nth s (u : Int) :: s.drop (u + 1) := by rw [nth_nat s hu]; exact List.drop_eq_getElem_cons hu
theorem ss_lt {s : List Feat} (h : SS (ids s)) {u : Nat} (hu : u < s.length) : (∀ x ∈ ids (s.take u), Op.bytesLess x (nth s (u : Int)).Id = true) ∧ ∀ y ∈ ids (s.drop (u + 1)), Op.bytesLess (nth s (u : Int)).Id y = true := by
 have e := ids_cut s u
 rw [dropNth hu] at e
 have e2 : ids (nth s (u : Int) :: s.drop (u + 1)) = (nth s (u : Int)).Id :: ids (s.drop (u + 1)) := rfl
 rw [e2] at e
 rw [e] at h
 obtain ⟨h1, h2, h3⟩ := List.pairwise_append.1 h
 exact ⟨fun x hx => h3 x hx _ List.mem_cons_self, (List.pairwise_cons.1 h2).1⟩
theorem F91.law (s : List Feat) (f : Feat) (Q : List Feat → Prop) (hl : s.length ≤ 1048576) (hs : SS (ids s)) (hq : ∀ r, SS (ids r) → (∀ x, x ∈ ids r ↔ x ∈ ids s ∨ x = f.Id) → r.length ≤ s.length + 1 → (∀ z ∈ r, z ∈ s ∨ z = f) → Q r) : F91.E s f Q := by
 unfold F91.E
 refine ⟨fun xs done i => ∃ u : Nat, i = u ∧ PutS s f u xs done, fun _ _ i => (s.length - i).toNat, ⟨0, rfl, Nat.zero_le _, by simp [ids, SS], by simp [ids], fun _ => ⟨by simp [ids], by simp⟩, (fun h => by cases h), by simp, by simp⟩, ?_⟩
 rintro xs done _ ⟨u, rfl, hu, h1, h2, h3, h4, h5, h6⟩
 by_cases h : u < s.length
 ·rw [if_pos (by simpa using h)]
  obtain ⟨b1, b2⟩ := ss_lt hs h
  have hin : nth s (u : Int) ∈ s := nth_mem s h
  have hdr : ∀ y ∈ ids (s.drop u), y = (nth s (u : Int)).Id ∨ y ∈ ids (s.drop (u + 1)) := fun y hy => by rw [dropNth h] at hy; exact List.mem_cons.1 hy
  have hcur : (nth s (u : Int)).Id ∈ ids (s.drop u) := by rw [dropNth h]; exact List.mem_cons_self
  have hdr' : ∀ y ∈ ids (s.drop (u + 1)), y ∈ ids (s.drop u) := fun y hy => by rw [dropNth h]; exact List.mem_cons_of_mem _ hy
  have stay : ∀ d, d = done → Op.bytesLess (nth s (u : Int)).Id f.Id = true ∨ d = true → xs.length + 1 ≤ u + 1 + 1 → PutS s f (u + 1) (xs ++ [nth s (u : Int)]) d := fun d hd hor hlen => by
   subst hd
   refine ⟨h, ?_, fun x => ?_, fun hdn => ⟨fun x hx => ?_, ?_⟩, fun hdn y hy => h4 hdn y (hdr' y hy), by simp only [List.length_append, List.length_singleton]; omega, fun z hz => ?_⟩
   ·rw [ids_app]
    refine ss_snoc h1 fun y hy => ?_
    rcases (h2 y).1 hy with hy | ⟨hd, rfl⟩
    ·exact b1 y hy
    ·exact h4 hd _ hcur
   ·rw [ids_app, List.mem_append, h2, ids_take h, List.mem_append]
    constructor
    ·rintro ((hx | hx) | hx)
     ·exact .inl (.inl hx)
     ·exact .inr hx
     ·exact .inl (.inr hx)
    ·rintro ((hx | hx) | hx)
     ·exact .inl (.inl hx)
     ·exact .inr hx
     ·exact .inl (.inr hx)
   ·rw [ids_take h] at hx
    rcases List.mem_append.1 hx with hx | hx
    ·exact (h3 hdn).1 x hx
    ·rw [List.mem_singleton.1 hx]
     rcases hor with hor | hor
     ·exact hor
     ·rw [hdn] at hor; cases hor
   ·rw [(h3 hdn).2, ← take_nth s h]
   ·rcases List.mem_append.1 hz with hz | hz
    ·exact h6 z hz
    ·rw [List.mem_singleton.1 hz]; exact .inl hin
  cases done with
  | true =>
   rw [if_neg RD]
   have hlt := h4 rfl _ hcur
   have hne : (nth s (u : Int)).Id ≠ f.Id := fun e => by rw [e, less_irr] at hlt; cases hlt
   refine ⟨OM, ?_⟩
   rw [if_pos (by rw [bne_iff_ne]; exact hne)]
   exact ⟨OM, by simp only [List.length_cons, List.length_nil]; omega, OM, ⟨u + 1, OM, stay true rfl (.inr rfl) OM⟩, by dsimp only; omega⟩
  | false =>
   rw [if_pos RD]
   obtain ⟨c1, c2⟩ := h3 rfl
   have hxl : xs.length = u := by rw [c2, List.length_take]; omega
   refine ⟨OM, ?_⟩
   cases k : Op.bytesLess (nth s (u : Int)).Id f.Id with
   | true =>
    rw [if_neg RD]
    have hne : (nth s (u : Int)).Id ≠ f.Id := fun e => by rw [e, less_irr] at k; cases k
    refine ⟨OM, ?_⟩
    rw [if_pos (by rw [bne_iff_ne]; exact hne)]
    exact ⟨OM, by simp only [List.length_cons, List.length_nil]; omega, OM, ⟨u + 1, OM, stay false rfl (.inl k) OM⟩, by dsimp only; omega⟩
   | false =>
    rw [if_pos RD]
    have g1 : SS (ids (xs ++ [f])) := by
     rw [ids_app]
     refine ss_snoc h1 fun y hy => ?_
     rcases (h2 y).1 hy with hy | ⟨hd, _⟩
     ·exact c1 y hy
     ·cases hd
    refine ⟨by simp only [List.length_cons, List.length_nil]; omega, OM, ?_⟩
    by_cases hne : (nth s (u : Int)).Id = f.Id
    ·rw [if_neg (by rw [hne]; simp)]
     refine ⟨OM, ⟨u + 1, OM, h, g1, fun x => ?_, (fun hd => by cases hd), fun _ y hy => by rw [← hne]; exact b2 y hy, by simp only [List.length_append, List.length_singleton]; omega, fun z hz => ?_⟩, by dsimp only; omega⟩
     ·rw [ids_app, List.mem_append, h2, ids_take h, List.mem_append, hne]
      show _ ∨ x ∈ [f.Id] ↔ _
      rw [List.mem_singleton]
      constructor
      ·rintro ((hx | ⟨hd, _⟩) | hx)
       ·exact .inl (.inl hx)
       ·cases hd
       ·exact .inr ⟨rfl, hx⟩
      ·rintro ((hx | hx) | ⟨_, hx⟩)
       ·exact .inl (.inl hx)
       ·exact .inr hx
       ·exact .inr hx
     ·rcases List.mem_append.1 hz with hz | hz
      ·exact h6 z hz
      ·exact .inr (List.mem_singleton.1 hz)
    ·rw [if_pos (by rw [bne_iff_ne]; exact hne)]
     have hlt : Op.bytesLess f.Id (nth s (u : Int)).Id = true := by
      rcases less_or k with g | g
      ·exact g
      ·exact absurd g.symm hne
     refine ⟨OM, by simp only [List.length_append, List.length_cons, List.length_nil]; omega, OM, ⟨u + 1, OM, h, ?_, fun x => ?_, (fun hd => by cases hd), fun _ y hy => less_trans hlt (b2 y hy), by simp only [List.length_append, List.length_singleton]; omega, fun z hz => ?_⟩, by dsimp only; omega⟩
     ·rw [ids_app]
      refine ss_snoc g1 fun y hy => ?_
      rw [ids_app] at hy
      rcases List.mem_append.1 hy with hy | hy
      ·rcases (h2 y).1 hy with hy | ⟨hd, _⟩
       ·exact b1 y hy
       ·cases hd
      ·have hy : y = f.Id := List.mem_singleton.1 hy
       rw [hy]; exact hlt
     ·rw [ids_app, ids_app, List.mem_append, List.mem_append, h2, ids_take h, List.mem_append]
      show (_ ∨ x ∈ [f.Id]) ∨ x ∈ [(nth s (u : Int)).Id] ↔ _
      rw [List.mem_singleton, List.mem_singleton]
      constructor
      ·rintro (((hx | ⟨hd, _⟩) | hx) | hx)
       ·exact .inl (.inl hx)
       ·cases hd
       ·exact .inr ⟨rfl, hx⟩
       ·exact .inl (.inr hx)
      ·rintro ((hx | hx) | ⟨_, hx⟩)
       ·exact .inl (.inl (.inl hx))
       ·exact .inr hx
       ·exact .inl (.inr hx)
     ·rcases List.mem_append.1 hz with hz | hz
      ·rcases List.mem_append.1 hz with hz | hz
       ·exact h6 z hz
       ·exact .inr (List.mem_singleton.1 hz)
      ·rw [List.mem_singleton.1 hz]; exact .inl hin
 ·rw [if_neg (by simpa using h)]
  have : u = s.length := by omega
  subst this
  rw [List.take_length] at h2 h3
  cases done with
  | true =>
   rw [if_neg RD]
   exact hq xs h1 (fun x => by rw [h2]; simp) h5 h6
  | false =>
   rw [if_pos RD]
   obtain ⟨c1, c2⟩ := h3 rfl
   refine ⟨by simp only [List.length_cons, List.length_nil]; omega, hq _ ?_ (fun x => ?_) (by rw [c2]; simp) fun z hz => ?_⟩
   ·rw [ids_app]
    refine ss_snoc h1 fun y hy => ?_
    rcases (h2 y).1 hy with hy | ⟨hd, _⟩
    ·exact c1 y hy
    ·cases hd
   ·rw [ids_app, List.mem_append, h2]
    show _ ∨ x ∈ [f.Id] ↔ _
    rw [List.mem_singleton]; simp
   ·rcases List.mem_append.1 hz with hz | hz
    ·exact h6 z hz
    ·exact .inr (List.mem_singleton.1 hz)
theorem F51.gen (P : Str → Prop) (hP : ∀ k ∈ idL, P k) (b : List UInt8) (p : Int) (Q : List Feat → Int → Prop) (hb : b.length ≤ 2000) (hp : 0 ≤ p) (hp1 : p ≤ 1000000) (hq : ∀ s p', sheetOk s = true → s.length ≤ 4 → (∀ f ∈ s, P f.Id) → (∀ f ∈ s, ∀ q ∈ f.Shape.Pts, NX q) → p ≤ p' → p' ≤ p + 300 → Q s p') : F51.E b p Q := by
 unfold F51.E
 refine F23.law _ _ _ _ hb hp OM fun k hk0 hk1 => ?_
 refine ⟨fun s i z => 0 ≤ i ∧ i ≤ 4 ∧ SS (ids s) ∧ (s.length : Int) + i ≤ 4 ∧ (∀ f ∈ s, featOk f = true ∧ P f.Id ∧ ∀ q ∈ f.Shape.Pts, NX q) ∧ p ≤ z ∧ z ≤ p + 1 + 61 * (4 - i), fun _ i _ => i.toNat, ⟨OM, OM, List.Pairwise.nil, by simp only [List.length_nil]; omega, by simp, OM, OM⟩, ?_⟩
 rintro s i z ⟨h0, h1, h2, h3, h4, h5, h6⟩
 by_cases hi : i > 0
 case neg => rw [if_neg (by simpa using hi)]; exact hq _ _ (sheet_of h2 OM fun f hf => (h4 f hf).1) OM (fun f hf => (h4 f hf).2.1) (fun f hf => (h4 f hf).2.2) h5 OM
 rw [if_pos (by simpa using hi)]
 refine F94.law _ _ _ hb OM OM fun id hid => F57.law _ _ _ _ hb OM OM fun sh t p1 hs ht tl td hx p2 p3 => F91.law _ _ _ OM h2 fun r r1 r2 r3 r4 => ⟨by unfold I64; omega, ⟨OM, OM, r1, OM, fun f hf => ?_, OM, OM⟩, by dsimp only; omega⟩
 rcases r4 f hf with g | rfl
 ·exact h4 f g
 ·exact ⟨feat_drawn (idL_ok _ hid) hs ht tl td, hP _ hid, hx⟩
theorem F51.law (b : List UInt8) (p : Int) (Q : List Feat → Int → Prop) (hb : b.length ≤ 2000) (hp : 0 ≤ p) (hp1 : p ≤ 1000000) (hq : ∀ s p', sheetOk s = true → s.length ≤ 4 → (∀ f ∈ s, f.Id ≠ zzI) → (∀ f ∈ s, ∀ q ∈ f.Shape.Pts, NX q) → p ≤ p' → p' ≤ p + 300 → Q s p') : F51.E b p Q :=
 F51.gen (fun i => i ≠ zzI) idL_nz b p Q hb hp hp1 hq
theorem F58.law (b : List UInt8) (p : Int) (Q : Str → Int → Prop) (hb : b.length ≤ 2000) (hp : 0 ≤ p) (hp1 : p ≤ 1000000) (hq : ∀ n : Str, n.length ≤ 6 → Q n (p + 1)) : F58.E b p Q := by
 unfold F58.E
 exact F39.law _ _ _ _ hb hp OM RD fun n hn => hq n (name_len hn)
theorem F69.law (f : Feat) (Q : Feat → Prop) (hb : bulk f ≤ 1048576) (hq : Q f) : F69.E f Q := by
 unfold F69.E F68.E
 have h := bulk_feat f
 have h1 := bulk_len f.Tags
 have h2 := bulk_len f.Shape.Pts
 exact ⟨by simp only [List.length_nil]; omega, by simp only [List.length_nil]; omega, hq⟩
theorem F70.law (s : List Feat) (Q : List Feat → Prop) (hb : bulk s ≤ 1048576) (hq : Q s) : F70.E s Q := by
 unfold F70.E
 have hl := bulk_len s
 refine ⟨fun xs i => ∃ u : Nat, i = u ∧ u ≤ s.length ∧ xs = s.take u, fun _ i => (s.length - i).toNat, ⟨0, rfl, Nat.zero_le _, rfl⟩, ?_⟩
 rintro _ _ ⟨u, rfl, hu, rfl⟩
 by_cases h : u < s.length
 ·rw [if_pos (by simpa using h)]
  have hm := bulk_mem (nth_mem s h)
  refine ⟨OM, F69.law _ _ OM ⟨by simp only [List.length_take, List.length_cons, List.length_nil]; omega, OM, ⟨u + 1, OM, OM, ?_⟩, by dsimp only; omega⟩⟩
  rw [take_nth s h]
 ·rw [if_neg (by simpa using h)]
  have : u = s.length := by omega
  subst this
  rw [List.take_length]; exact hq
theorem F92.law (c : Commit) (Q : Commit → Prop) (h1 : c.Up.length ≤ 1000) (h2 : bulk c.Sheet ≤ 1048576) (hq : Q c) : F92.E c Q := by
 unfold F92.E
 exact ⟨by simp only [List.length_nil]; omega, F70.law _ _ h2 (by simpa using hq)⟩
theorem F71.law (r : Repo) (Q : Repo → Prop) (h0 : r.Commits.length ≤ 1000) (h1 : r.Heads.length ≤ 1000) (h2 : ∀ c ∈ r.Commits, c.Up.length ≤ 1000 ∧ bulk c.Sheet ≤ 1048576) (hq : Q r) : F71.E r Q := by
 unfold F71.E
 refine ⟨by simp only [List.length_nil]; omega, fun i xs => ∃ u : Nat, i = u ∧ u ≤ r.Commits.length ∧ xs = r.Commits.take u, fun i _ => (r.Commits.length - i).toNat, ⟨0, rfl, Nat.zero_le _, rfl⟩, ?_⟩
 rintro _ _ ⟨u, rfl, hu, rfl⟩
 by_cases h : u < r.Commits.length
 ·rw [if_pos (by simpa using h)]
  have hm := h2 _ (nth_mem r.Commits h)
  refine ⟨OM, F92.law _ _ hm.1 hm.2 ⟨by simp only [List.length_take, List.length_cons, List.length_nil]; omega, OM, ⟨u + 1, OM, OM, ?_⟩, by dsimp only; omega⟩⟩
  rw [take_nth r.Commits h]
 ·rw [if_neg (by simpa using h)]
  have : u = r.Commits.length := by omega
  subst this
  rw [List.take_length]; exact hq
theorem RW.branch {r : Repo} (h : RW r) {name : Str} (hn : name.length ≤ 6) {a : Int} (h4 : ¬ 4 ≤ r.Heads.length) (ha : 0 ≤ a ∧ a < (r.Commits.length : Int)) : RW ⟨r.Commits, r.Heads ++ [⟨name, a⟩]⟩ :=
 ⟨h.c0, h.c1, by have := h.h0; dsimp only; rw [List.length_append]; omega, by dsimp only; rw [List.length_append, List.length_singleton]; omega, h.cs, fun x hx => by
  rcases List.mem_append.1 hx with hx | hx
  ·exact h.hs x hx
  ·rw [List.mem_singleton.1 hx]; exact ⟨hn, ha⟩⟩
theorem F24.law (r : Repo) (name src : Str) (Q : Repo → Int → Prop) (h : RW r) (hn : name.length ≤ 6) (h0 : ∀ k, Q ⟨[], []⟩ k) (hq : ∀ x k, RW x → Q x k) : F24.E r name src Q := by
 unfold F24.E
 refine F67.law _ _ ?_
 split
 ·exact h0 _
 refine F56.law _ _ ?_
 split
 ·exact h0 _
 refine F71.law _ _ (Nat.le_trans h.c1 RD) (Nat.le_trans h.h1 RD) (fun c hc => ?_) (F59.law _ _ _ ?_)
 ·obtain ⟨h1, h2, h3⟩ := h.cs c hc
  exact ⟨OM, Nat.le_trans (sheet_bulk h2) RD⟩
 split
 ·exact hq _ _ h
 rename_i ha
 refine F59.law _ _ _ ?_
 split
 ·exact hq _ _ h
 split
 ·exact hq _ _ h
 rename_i h4
 have hle := findN_le r.Heads.length fun j => decide ((nth r.Heads (j : Int)).Name = src)
 have e : findHead r src = findN r.Heads.length fun j => decide ((nth r.Heads (j : Int)).Name = src) := rfl
 rw [← e] at hle
 simp only [decide_eq_true_eq] at ha h4
 have hb : 0 ≤ findHead r src ∧ findHead r src < (r.Heads.length : Int) := by omega
 have hm := h.hs _ (nth_memi r.Heads hb.1 hb.2)
 exact ⟨hb, by have := h.h1; simp only [List.length_cons, List.length_nil]; omega, hq _ _ (h.branch hn OM hm.2)⟩
theorem F72.law (s : List Feat) (id : Str) (Q : Int → Prop) (hq : Q (findN s.length fun j => (nth s (j : Int)).Id == id)) : F72.E s id Q := by
 unfold F72.E
 refine loop_find s.length (fun j => (nth s (j : Int)).Id == id) hq (fun I mu k hk h1 h2 => ⟨OM, ?_⟩)
 cases h : (nth s (k : Int)).Id == id with
 | true => rw [if_pos rfl]; exact h1 h
 | false => rw [if_neg RD]; obtain ⟨i1, i2⟩ := h2 h; exact ⟨OM, i1, i2⟩
theorem F93.law (s : List Feat) (id : Str) (Q : List Feat → Prop) (hl : s.length ≤ 1048576) (hq : Q (s.filter fun f => decide (f.Id ≠ id))) : F93.E s id Q := by
 unfold F93.E
 refine ⟨fun xs i => ∃ u : Nat, i = u ∧ u ≤ s.length ∧ xs = (s.take u).filter fun f => decide (f.Id ≠ id), fun _ i => (s.length - i).toNat, ⟨0, rfl, Nat.zero_le _, rfl⟩, ?_⟩
 rintro _ _ ⟨u, rfl, hu, rfl⟩
 have hfl := List.length_filter_le (fun f : Feat => decide (f.Id ≠ id)) (s.take u)
 rw [List.length_take] at hfl
 by_cases h : u < s.length
 ·rw [if_pos (by simpa using h)]
  refine ⟨OM, ?_⟩
  by_cases e : (nth s (u : Int)).Id = id
  ·rw [if_neg (by rw [e]; simp)]
   refine ⟨OM, ⟨u + 1, OM, OM, ?_⟩, by dsimp only; omega⟩
   rw [take_nth s h, List.filter_append, List.filter_cons_of_neg (by rw [decide_eq_true_eq]; exact fun g => g e), List.filter_nil, List.append_nil]
  ·rw [if_pos (by rw [bne_iff_ne]; exact e)]
   refine ⟨OM, by simp only [List.length_cons, List.length_nil]; omega, OM, ⟨u + 1, OM, OM, ?_⟩, by dsimp only; omega⟩
   rw [take_nth s h, List.filter_append, List.filter_cons_of_pos (by rw [decide_eq_true_eq]; exact e), List.filter_nil]
 ·rw [if_neg (by simpa using h)]
  have : u = s.length := by omega
  subst this
  rw [List.take_length]; exact hq
theorem F73.law (b : List UInt8) (p : Int) (s : Shape) (Q : Shape → Int → Prop) (hb : b.length ≤ 2000) (hp : 0 ≤ p) (hp1 : p ≤ 10000000) (hs : s.Pts.length ≤ 1000) (hq : ∀ r p', (r = s ∨ shapeOk r = true) → p ≤ p' → p' ≤ p + 4 → Q r p') : F73.E b p s Q := by
 unfold F73.E
 by_cases h0 : (s.Pts.length : Int) = 0
 ·rw [if_pos (by simpa using h0)]; exact hq _ _ (.inl rfl) OM OM
 rw [if_neg (by simpa using h0)]
 refine F23.law _ _ _ _ hb hp OM fun k hk0 hk1 => ⟨OM, by simp only [List.length_take, List.length_drop, List.length_nil]; omega, F23.law _ _ _ _ hb OM OM fun v hv0 hv1 => ?_⟩
 have fin : ∀ (r : Shape) (z : Int), p ≤ z → z ≤ p + 4 → F49.E r (fun r5 => (if !r5 then Q s z else Q r z)) := fun r z h1 h2 => by
  refine F49.law _ _ ?_
  cases h : shapeOk r with
  | true => rw [if_neg RD]; exact hq _ _ (.inr h) h1 h2
  | false => rw [if_pos RD]; exact hq _ _ (.inl rfl) h1 h2
 refine ⟨fun _ z => p ≤ z ∧ z ≤ p + 4, ?_, fun xs z hz => fin _ _ hz.1 hz.2⟩
 split
 ·exact ⟨OM, F95.law _ _ _ hb OM OM fun x y _ _ _ _ => ⟨by simp only [List.length_append, List.length_take, List.length_drop, List.length_nil, List.length_cons]; omega, by simp only [List.length_append, List.length_take, List.length_drop, List.length_nil, List.length_cons]; omega, OM, OM⟩⟩
 split
 ·exact ⟨fun _ => by unfold I64; omega, OM, by simp only [List.length_append, List.length_take, List.length_drop, List.length_nil, List.length_cons]; omega, OM, OM⟩
 exact ⟨fun _ => by unfold I64; omega, OM, F95.law _ _ _ hb OM OM fun x y _ _ _ _ => ⟨by simp only [List.length_append, List.length_take, List.length_drop, List.length_nil, List.length_cons]; omega, by simp only [List.length_append, List.length_take, List.length_drop, List.length_nil, List.length_cons]; omega, OM, OM⟩⟩
theorem FB.put {n : Nat} {f : Feat} (h : FB n f) {k v : Str} (hk : k ∈ keyL) (hv : v ∈ valL) {r : List Tag} (hl : r.length ≤ f.Tags.length + 1) (hr : ∀ z ∈ r, z ∈ f.Tags ∨ z = ⟨k, v⟩) : FB (n + 1) ⟨f.Id, f.Shape, r⟩ := ⟨h.id, h.pts, Nat.le_trans hl (Nat.succ_le_succ h.len), fun x hx => by
 rcases hr x hx with g | rfl
 ·exact h.wd x g
 ·exact DT.len ⟨hk, hv⟩⟩
theorem F74.gen (P : Str → Prop) (hP : ∀ k ∈ idL, P k) (b : List UInt8) (p : Int) (s : List Feat) (Q : List Feat → Int → Prop) (hb : b.length ≤ 2000) (hp : 0 ≤ p) (hp1 : p ≤ 1000000) (hs : sheetOk s = true) (hz : ∀ f ∈ s, P f.Id) (hq : ∀ r p', sheetOk r = true → (∀ f ∈ r, P f.Id) → p ≤ p' → p' ≤ p + 250 → Q r p') : F74.E b p s Q := by
 unfold F74.E
 have mb := MB.of hs
 refine F23.law _ _ _ _ hb hp OM fun k hk0 hk1 => ⟨by unfold I64; omega, ?_⟩
 refine ⟨fun s i z => 0 ≤ i ∧ i ≤ 3 ∧ SS (ids s) ∧ (s.length : Int) + i ≤ 11 ∧ (∀ f ∈ s, SS (keysT f.Tags) ∧ FB (7 - i.toNat) f ∧ P f.Id) ∧ p ≤ z ∧ z ≤ p + 1 + 65 * (3 - i), fun _ i _ => i.toNat, ⟨OM, OM, (sheet_ss hs).1, by have := mb.len; omega, fun f hf => ⟨featOk_tags ((sheet_ss hs).2.2 f hf), (mb.fb f hf).mono OM, hz f hf⟩, OM, OM⟩, ?_⟩
 rintro s2 i z ⟨h0, h1, h2, h3, h4, h5, h6⟩
 by_cases hi : i > 0
 case neg =>
  rw [if_neg (by simpa using hi)]
  refine F52.law _ _ ?_
  cases h : sheetOk s2 with
  | true => rw [if_neg RD]; exact hq _ _ h (fun f hf => (h4 f hf).2.2) h5 OM
  | false => rw [if_pos RD]; exact hq _ _ hs hz h5 OM
 rw [if_pos (by simpa using hi)]
 have em : 7 - (i - 1).toNat = 7 - i.toNat + 1 := by omega
 have step : ∀ (f : Feat), SS (keysT f.Tags) → FB (7 - i.toNat + 1) f → P f.Id → ∀ r : List Feat, (∀ z ∈ r, z ∈ s2 ∨ z = f) → ∀ x ∈ r, SS (keysT x.Tags) ∧ FB (7 - (i - 1).toNat) x ∧ P x.Id := fun f a1 a2 a3 r hr x hx => by
  rw [em]
  rcases hr x hx with g | rfl
  ·have := h4 x g
   exact ⟨this.1, this.2.1.mono OM, this.2.2⟩
  ·exact ⟨a1, a2, a3⟩
 refine F94.law _ _ _ hb OM OM fun id hid => F72.law _ _ _ ?_
 have hle := findN_le s2.length fun j => (nth s2 (j : Int)).Id == id
 generalize findN s2.length (fun j => (nth s2 (j : Int)).Id == id) = at_ at *
 by_cases ha : at_ < 0
 ·rw [if_pos (by simpa using ha)]
  refine F57.law _ _ _ _ hb OM OM fun sh t p1 hsh ht tl td _ p2 p3 => F91.law _ _ _ OM h2 fun r r1 r2 r3 r4 => ⟨by unfold I64; omega, ⟨OM, OM, r1, OM, step _ ht ?_ (hP _ hid) r r4, OM, OM⟩, by dsimp only; omega⟩
  exact ((FB.of (feat_drawn (idL_ok _ hid) hsh ht tl td)).mono OM)
 rw [if_neg (by simpa using ha)]
 have hm : nth s2 at_ ∈ s2 := nth_memi s2 OM hle.2
 obtain ⟨f1, f2, f3⟩ := h4 _ hm
 have fb := f2.small
 refine F23.law _ _ _ _ hb OM OM fun v hv0 hv1 => ?_
 split
 ·refine F93.law _ _ _ OM ⟨by unfold I64; omega, ⟨OM, OM, ?_, ?_, fun x hx => ?_, OM, OM⟩, by dsimp only; omega⟩
  ·unfold SS ids at h2 ⊢
   exact List.Pairwise.sublist (List.filter_sublist.map _) h2
  ·have := List.length_filter_le (fun f : Feat => decide (f.Id ≠ id)) s2; omega
  ·have := h4 x (List.mem_filter.1 hx).1
   exact ⟨this.1, this.2.1.mono OM, this.2.2⟩
 refine F23.law _ _ _ _ hb OM OM fun w hw0 hw1 => ?_
 split
 ·refine ⟨OM, F69.law _ _ OM (F88.law _ _ _ hb OM OM fun key hkey => F89.law _ _ _ hb OM OM fun val hval => F90.law _ _ _ _ (by have := f2.len; omega) f1 fun t t1 t2 t3 t4 => F91.law _ _ _ OM h2 fun r r1 r2 r3 r4 => ⟨by unfold I64; omega, ⟨OM, OM, r1, OM, step _ t1 (f2.put hkey hval t3 t4) f3 r r4, OM, OM⟩, by dsimp only; omega⟩)⟩
 ·refine ⟨OM, F69.law _ _ OM (F73.law _ _ _ _ hb OM OM (by have := f2.pts; omega) fun sh p' hsh p1 p2 => F91.law _ _ _ OM h2 fun r r1 r2 r3 r4 => ⟨by unfold I64; omega, ⟨OM, OM, r1, OM, step ⟨(nth s2 at_).Id, sh, (nth s2 at_).Tags⟩ f1 ⟨f2.id, ?_, Nat.le_trans f2.len OM, f2.wd⟩ f3 r r4, OM, OM⟩, by dsimp only; omega⟩)⟩
  rcases hsh with rfl | hsh
  ·exact f2.pts
  ·exact Nat.le_trans (shape_pts hsh) RD
theorem F74.law (b : List UInt8) (p : Int) (s : List Feat) (Q : List Feat → Int → Prop) (hb : b.length ≤ 2000) (hp : 0 ≤ p) (hp1 : p ≤ 1000000) (hs : sheetOk s = true) (hz : ∀ f ∈ s, f.Id ≠ zzI) (hq : ∀ r p', sheetOk r = true → (∀ f ∈ r, f.Id ≠ zzI) → p ≤ p' → p' ≤ p + 250 → Q r p') : F74.E b p s Q :=
 F74.gen (fun i => i ≠ zzI) idL_nz b p s Q hb hp hp1 hs hz hq
theorem F75.law (b : List UInt8) (p : Int) (Q : Str → Int → Prop) (hb : b.length ≤ 2000) (hp : 0 ≤ p) (hp1 : p ≤ 1000000) (hq : ∀ n : Str, n.length ≤ 5 → Q n (p + 1)) : F75.E b p Q := by
 unfold F75.E
 exact F39.law _ _ _ _ hb hp OM RD fun n hn => hq n (note_len hn)
theorem RW.head {r : Repo} (h : RW r) {k : Int} (hk : 0 ≤ k ∧ k < (r.Heads.length : Int)) {a n : Int} (ha : 0 ≤ a ∧ a < n) {cs : List Commit} (hn : (cs.length : Int) = n) (hl : (r.Commits.length : Int) ≤ n) (h12 : n ≤ 12)
  (hc : ∀ c ∈ cs, c.Up.length ≤ 2 ∧ sheetOk c.Sheet = true ∧ c.Note.length ≤ 5) : RW ⟨cs, r.Heads.set k.toNat ⟨(nth r.Heads k).Name, a⟩⟩ :=
 ⟨by have := h.c0; dsimp only; omega, by dsimp only; omega, by dsimp only; rw [List.length_set]; exact h.h0, by dsimp only; rw [List.length_set]; exact h.h1, hc, fun x hx => by
  dsimp only
  rcases List.mem_or_eq_of_mem_set hx with hx | rfl
  ·obtain ⟨h1, h2, h3⟩ := h.hs x hx
   exact ⟨h1, h2, OM⟩
  ·exact ⟨(h.hs _ (nth_memi _ hk.1 hk.2)).1, ha.1, by dsimp only; omega⟩⟩
theorem RW.add1 {xs : List Commit} {ys : List Head} (h : RW ⟨xs, ys⟩) {k : Int} (hk : 0 ≤ k ∧ k < (ys.length : Int)) {c : Commit} (hc : c.Up.length ≤ 2 ∧ sheetOk c.Sheet = true ∧ c.Note.length ≤ 5) (hl : xs.length < 12) :
  RW ⟨xs ++ [c], ys.set k.toNat ⟨(nth ys k).Name, (xs.length : Int)⟩⟩ :=
 RW.head h hk (n := (xs.length : Int) + 1) ⟨OM, OM⟩ (by rw [List.length_append]; rfl) (by dsimp only; omega) OM fun x hx => by
  rcases List.mem_append.1 hx with hx | hx
  ·exact h.cs x hx
  ·rw [List.mem_singleton.1 hx]; exact hc
theorem RW.add2 {xs : List Commit} {ys : List Head} (h : RW ⟨xs, ys⟩) {k : Int} (hk : 0 ≤ k ∧ k < (ys.length : Int)) {j : Int} (hj : 0 ≤ j ∧ j < (xs.length : Int)) : RW ⟨xs, ys.set k.toNat ⟨(nth ys k).Name, j⟩⟩ :=
 RW.head h hk (n := (xs.length : Int)) hj rfl (Int.le_refl _) (by have := h.c1; dsimp only at this; omega) h.cs
theorem grow_tail {xs : List Commit} {ys : List Head} (h : RW ⟨xs, ys⟩) {c : Commit} (hc : c.Up.length ≤ 2 ∧ sheetOk c.Sheet = true ∧ c.Note.length ≤ 5) (A0 : Prop) (A : Repo → Commit → Prop) (B : Repo → Int → Prop)
  (h0 : A0) (h1 : xs.length < 12 → A ⟨xs, ys⟩ c) (h2 : ∀ j : Int, 0 ≤ j → j < (xs.length : Int) → B ⟨xs, ys⟩ j) :
  (if decide ((xs.length : Int) ≥ 12) then A0 else F71.E ⟨xs, ys⟩ (fun r => F66.E r c (fun j => (if decide (j < 0) then F92.E c (fun d => A r d) else B r j)))) := by
 split
 ·exact h0
 rename_i hl
 simp only [ge_iff_le, decide_eq_true_eq] at hl
 refine F71.law _ _ (Nat.le_trans h.c1 RD) (Nat.le_trans h.h1 RD) (fun x hx => ?_) (F66.law _ _ _ ?_)
 ·obtain ⟨g1, g2, g3⟩ := h.cs x hx
  exact ⟨OM, Nat.le_trans (sheet_bulk g2) RD⟩
 split
 ·exact F92.law _ _ OM (Nat.le_trans (sheet_bulk hc.2.1) RD) (h1 OM)
 rename_i hj
 simp only [decide_eq_true_eq] at hj
 have hle : findCommit ⟨xs, ys⟩ c < (xs.length : Int) := (findN_le _ _).2
 exact h2 _ OM hle
theorem F76.law (b : List UInt8) (p : Int) (Q : Repo → Int → Prop) (hb : b.length ≤ 2000) (hp : 0 ≤ p) (hp1 : p ≤ 100000) (hq : ∀ x p', RW x → p ≤ p' → p' ≤ p + 3000 → Q x p') : F76.E b p Q := by
 unfold F76.E
 refine F48.law _ _ RD (F51.law _ _ _ hb hp OM fun s m hs _ _ _ m1 m2 => ⟨by decide, F23.law _ _ _ _ hb OM OM fun v hv0 hv1 => ⟨by unfold I64; omega, ?_⟩⟩)
 refine ⟨fun i z xs ys => 0 ≤ i ∧ i ≤ 8 ∧ RW ⟨xs, ys⟩ ∧ p ≤ z ∧ z ≤ p + 301 + 260 * (8 - i), fun i _ _ _ => i.toNat, ⟨OM, OM, ?_, OM, OM⟩, ?_⟩
 ·show RW ⟨[⟨[], s, [98, 101, 103, 105, 110]⟩], [⟨[109, 97, 105, 110], 0⟩]⟩
  refine ⟨by simp, by simp, by simp, by simp, fun c hc => ?_, fun h hh => ?_⟩
  ·have e : c = ⟨[], s, [98, 101, 103, 105, 110]⟩ := List.mem_singleton.1 hc
   rw [e]; exact ⟨by simp, hs, by simp⟩
  ·have e : h = ⟨[109, 97, 105, 110], 0⟩ := List.mem_singleton.1 hh
   rw [e]; exact ⟨by simp, by simp, by simp⟩
 rintro i z xs ys ⟨h0, h1, hr, h2, h3⟩
 have r0 := hr.h0
 have r1 := hr.h1
 dsimp only at r0 r1
 by_cases hi : i > 0
 case neg =>
  rw [if_neg (by simpa using hi)]
  refine F23.law _ _ _ _ hb OM OM fun v hv0 hv1 => ?_
  split
  ·split
   ·rename_i hl
    simp only [gt_iff_lt, decide_eq_true_eq] at hl
    refine ⟨fun _ => by unfold I64; omega, OM, hq _ _ ⟨hr.c0, hr.c1, ?_, ?_, hr.cs, fun x hx => hr.hs x (List.mem_of_mem_take hx)⟩ OM OM⟩
    ·dsimp only; rw [List.length_take]; omega
    ·dsimp only; rw [List.length_take]; omega
   ·exact hq _ _ hr OM OM
  ·exact hq _ _ hr OM OM
 rw [if_pos (by simpa using hi)]
 have hI : I64 (i - 1) := by unfold I64; omega
 refine F58.law _ _ _ hb OM OM fun n hn => F59.law _ _ _ ?_
 have hle : findHead ⟨xs, ys⟩ n < (ys.length : Int) := (findN_le _ _).2
 generalize findHead ⟨xs, ys⟩ n = k at *
 by_cases hk : k < 0
 ·rw [if_pos (by simpa using hk)]
  refine F23.law _ _ _ _ hb OM OM fun v hv0 hv1 => ⟨OM, F24.law _ _ _ _ hr hn (fun _ => ?_) fun x _ hx => ?_⟩
  ·rw [if_neg RD]
   exact ⟨fun _ _ => hI, ⟨OM, OM, hr, OM, OM⟩, by dsimp only; omega⟩
  ·have := hx.h0
   rw [if_pos (by rw [decide_eq_true_eq]; omega)]
   exact ⟨fun _ _ => hI, ⟨OM, OM, hx, OM, OM⟩, by dsimp only; omega⟩
 rw [if_neg (by simpa using hk)]
 have hk2 : 0 ≤ k ∧ k < (ys.length : Int) := ⟨OM, hle⟩
 have hm := hr.hs _ (nth_memi ys hk2.1 hk2.2)
 have hc := hr.cs _ (nth_memi xs hm.2.1 hm.2.2)
 refine ⟨hk2, hm.2, F74.gen (fun _ => True) (fun _ _ => trivial) _ _ _ _ hb OM OM hc.2.1 (fun _ _ => trivial) fun s' z' hs' _ z1 z2 => F75.law _ _ _ hb OM OM fun nt hnt => F23.law _ _ _ _ hb OM OM fun v hv0 hv1 => ⟨OM, ?_⟩⟩
 split
 ·refine F23.law _ _ _ _ hb OM OM fun u hu0 hu1 => ?_
  split
  ·refine grow_tail hr ⟨by simp, hs', hnt⟩ _ _ _ ?_ (fun hl => ?_) (fun j j0 j1 => ?_)
   ·exact ⟨fun _ _ => hI, ⟨OM, OM, hr, OM, OM⟩, by dsimp only; omega⟩
   ·exact ⟨by simp only [List.length_cons, List.length_nil]; omega, hk2, fun _ _ _ => hI, ⟨OM, OM, hr.add1 hk2 ⟨by simp, hs', hnt⟩ hl, OM, OM⟩, by dsimp only; omega⟩
   ·exact ⟨hk2, fun _ _ => hI, ⟨OM, OM, hr.add2 hk2 ⟨j0, j1⟩, OM, OM⟩, by dsimp only; omega⟩
  ·refine grow_tail hr ⟨by simp, hs', hnt⟩ _ _ _ ?_ (fun hl => ?_) (fun j j0 j1 => ?_)
   ·exact ⟨fun _ _ => hI, ⟨OM, OM, hr, OM, OM⟩, by dsimp only; omega⟩
   ·exact ⟨by simp only [List.length_cons, List.length_nil]; omega, hk2, fun _ _ _ => hI, ⟨OM, OM, hr.add1 hk2 ⟨by simp, hs', hnt⟩ hl, OM, OM⟩, by dsimp only; omega⟩
   ·exact ⟨hk2, fun _ _ => hI, ⟨OM, OM, hr.add2 hk2 ⟨j0, j1⟩, OM, OM⟩, by dsimp only; omega⟩
 ·refine grow_tail hr ⟨by simp, hs', hnt⟩ _ _ _ ?_ (fun hl => ?_) (fun j j0 j1 => ?_)
  ·exact ⟨fun _ _ => hI, ⟨OM, OM, hr, OM, OM⟩, by dsimp only; omega⟩
  ·exact ⟨by simp only [List.length_cons, List.length_nil]; omega, hk2, fun _ _ _ => hI, ⟨OM, OM, hr.add1 hk2 ⟨by simp, hs', hnt⟩ hl, OM, OM⟩, by dsimp only; omega⟩
  ·exact ⟨hk2, fun _ _ => hI, ⟨OM, OM, hr.add2 hk2 ⟨j0, j1⟩, OM, OM⟩, by dsimp only; omega⟩
theorem F77.law (b : List UInt8) (p : Int) (Q : Shape → Int → Prop) (hb : b.length ≤ 2000) (hp : 0 ≤ p) (hp1 : p ≤ 10000000) (hq : ∀ s p', s.Pts.length ≤ 7 → (∀ q ∈ s.Pts, NX q) → p ≤ p' → p' ≤ p + 50 → Q s p') : F77.E b p Q := by
 unfold F77.E
 refine F50.law _ _ _ hb hp OM fun s p1 hs hx p0 p2 => F23.law _ _ _ _ hb OM OM fun k hk0 hk1 => F23.law _ _ _ _ hb OM OM fun v hv0 hv1 => ?_
 have l1 := shape_pos hs
 have l2 := shape_pts hs
 split
 ·exact F28.law _ _ _ _ hb OM OM RD fun n hn => hq _ _ (by dsimp only; omega) hx OM OM
 split
 ·exact F28.law _ _ _ _ hb OM OM RD fun n hn => ⟨OM, hq _ _ (by simp only [List.length_set]; omega) (fun q hq' => by
   rcases List.mem_or_eq_of_mem_set hq' with g | rfl
   ·exact hx q g
   ·simp only [List.mem_cons, List.not_mem_nil, or_false] at hn
    exact ⟨by dsimp only; omega, by dsimp only; omega⟩) OM OM⟩
 split
 ·exact ⟨fun _ => by unfold I64; omega, OM, by simp only [List.length_cons, List.length_nil]; omega, hq _ _ (by simp only [List.length_append, List.length_cons, List.length_nil]; omega) (fun q hq' => (List.mem_append.1 hq').elim (hx q) fun g => by rw [List.mem_singleton.1 g]; exact hx _ (nth_memi _ OM OM)) OM OM⟩
 split
 ·exact ⟨OM, hq _ _ (by simp only [List.length_take, List.length_drop]; omega) (fun q hq' => hx q (List.mem_of_mem_drop (List.mem_of_mem_take hq'))) OM OM⟩
 exact hq _ _ OM hx OM OM
theorem F78.law (b : List UInt8) (p : Int) (Q : Feat → Int → Prop) (hb : b.length ≤ 2000) (hp : 0 ≤ p) (hp1 : p ≤ 1000000) (hq : ∀ f p', FB 4 f → (∀ x ∈ f.Tags, plainK x.Key) → f.Id ≠ zzI → (∀ q ∈ f.Shape.Pts, NX q) → p ≤ p' → p' ≤ p + 120 → Q f p') : F78.E b p Q := by
 unfold F78.E
 refine F94.law _ _ _ hb hp OM fun id hid => F57.law _ _ _ _ hb OM OM fun s t p1 hs ht tl td hx p2 p3 => F23.law _ _ _ _ hb OM OM fun v hv0 hv1 => ?_
 have li := word_len (idL_ok _ hid)
 have lp := shape_pts hs
 have tp : ∀ x ∈ t, plainK x.Key := fun x hx => keyL_plain _ (td x hx).1
 have tw : ∀ x ∈ t, x.Key.length ≤ 6 ∧ x.Val.length ≤ 6 := fun x hx => (td x hx).len
 have iz := idL_nz _ hid
 split
 ·refine F39.law _ _ _ _ hb OM OM RD fun w hw => hq _ _ ⟨?_, by dsimp only; omega, by dsimp only; omega, tw⟩ tp ?_ hx OM OM
  all_goals
   simp only [List.mem_cons, List.not_mem_nil, or_false] at hw
   dsimp only
   rcases hw with rfl | rfl | rfl <;> decide
 split
 ·exact F77.law _ _ _ hb OM OM fun s' p4 h4 hx' h5 h6 => hq _ _ ⟨by dsimp only; omega, h4, by dsimp only; omega, tw⟩ tp iz hx' OM OM
 split
 ·refine ⟨by simp only [List.length_cons, List.length_nil]; omega, hq _ _ ⟨by dsimp only; omega, by dsimp only; omega, by simp only [List.length_append, List.length_cons, List.length_nil]; omega, fun x hx2 => ?_⟩ (fun x hx2 => ?_) iz hx OM OM⟩
  ·rcases List.mem_append.1 hx2 with hx2 | hx2
   ·exact tw x hx2
   ·rw [List.mem_singleton.1 hx2]; decide
  ·rcases List.mem_append.1 hx2 with hx2 | hx2
   ·exact tp x hx2
   ·rw [List.mem_singleton.1 hx2]; unfold plainK; dsimp only; decide
 split
 ·refine F39.law _ _ _ _ hb OM OM RD fun w hw => ⟨by simp only [List.length_cons, List.length_nil]; omega, hq _ _ ⟨by dsimp only; omega, by dsimp only; omega, by simp only [List.length_append, List.length_cons, List.length_nil]; omega, fun x hx2 => ?_⟩ (fun x hx2 => ?_) iz hx OM OM⟩
  ·rcases List.mem_append.1 hx2 with hx2 | hx2
   ·exact tw x hx2
   ·rw [List.mem_singleton.1 hx2]
    simp only [List.mem_cons, List.not_mem_nil, or_false] at hw
    rcases hw with rfl | rfl <;> decide
  ·rcases List.mem_append.1 hx2 with hx2 | hx2
   ·exact tp x hx2
   ·rw [List.mem_singleton.1 hx2]; unfold plainK; dsimp only; decide
 exact hq _ _ ⟨by dsimp only; omega, by dsimp only; omega, by dsimp only; omega, tw⟩ tp iz hx OM OM
theorem F79.law (b : List UInt8) (p : Int) (Q : List Feat → Int → Prop) (hb : b.length ≤ 2000) (hp : 0 ≤ p) (hp1 : p ≤ 100000) (hq : ∀ s p', MD s → (∀ f ∈ s, ∀ q ∈ f.Shape.Pts, NX q) → p ≤ p' → p' ≤ p + 500 → Q s p') : F79.E b p Q := by
 unfold F79.E
 refine F51.law _ _ _ hb hp OM fun s p1 hs hl hz hn p2 p3 => F23.law _ _ _ _ hb OM OM fun v hv0 hv1 => ?_
 have mb := MB.of hs
 have hm : MD s := ⟨⟨OM, mb.fb⟩, hz⟩
 split
 ·refine F78.law _ _ _ hb OM OM fun f p4 h1 _ h2 hfx h3 h4 => ⟨by simp only [List.length_cons, List.length_nil]; omega, hq _ _ ⟨⟨by simp only [List.length_append, List.length_cons, List.length_nil]; omega, fun x hx => ?_⟩, fun x hx => ?_⟩ (fun x hx => ?_) OM OM⟩
  ·rcases List.mem_append.1 hx with hx | hx
   ·exact mb.fb x hx
   ·rw [List.mem_singleton.1 hx]; exact h1
  ·rcases List.mem_append.1 hx with hx | hx
   ·exact hz x hx
   ·rw [List.mem_singleton.1 hx]; exact h2
  ·rcases List.mem_append.1 hx with hx | hx
   ·exact hn x hx
   ·rw [List.mem_singleton.1 hx]; exact hfx
 split
 ·refine ⟨OM, hq _ _ ⟨⟨by simp only [List.length_append]; omega, fun x hx => ?_⟩, fun x hx => ?_⟩ (fun x hx => ?_) OM OM⟩
  ·rcases List.mem_append.1 hx with hx | hx <;> exact mb.fb x hx
  ·rcases List.mem_append.1 hx with hx | hx <;> exact hz x hx
  ·rcases List.mem_append.1 hx with hx | hx <;> exact hn x hx
 split
 ·refine ⟨fun s i => 0 ≤ i ∧ i ≤ 9 ∧ SS (ids s) ∧ (s.length : Int) ≤ 4 + i ∧ (∀ f ∈ s, FB 4 f ∧ f.Id ≠ zzI ∧ ∀ q ∈ f.Shape.Pts, NX q), fun _ i => (9 - i).toNat, ⟨OM, OM, (sheet_ss hs).1, OM, fun f hf => ⟨mb.fb f hf, hz f hf, hn f hf⟩⟩, ?_⟩
  rintro s i ⟨h0, h1, h2, h3, h4⟩
  by_cases hi : i ≤ 8
  case neg => rw [if_neg (by simpa using hi)]; exact hq _ _ ⟨⟨OM, fun f hf => (h4 f hf).1⟩, fun f hf => (h4 f hf).2.1⟩ (fun f hf => (h4 f hf).2.2) OM OM
  rw [if_pos (by simpa using hi)]
  have hl1 : ∀ l : Str, ((l.drop i.toNat).take ((i + 1).toNat - i.toNat)).length ≤ 1 := fun l => by rw [List.length_take]; omega
  refine ⟨by unfold I64; omega, by simp only [List.length_cons, List.length_nil]; omega, F91.law _ _ _ OM h2 fun r r1 r2 r3 r4 => ⟨by unfold I64; omega, ⟨OM, OM, r1, OM, fun f hf => ?_⟩, by dsimp only; omega⟩⟩
  rcases r4 f hf with g | rfl
  ·exact h4 f g
  ·refine ⟨⟨Nat.le_trans (hl1 _) RD, by dsimp only [List.length_cons, List.length_nil]; omega, by simp only [List.length_nil]; omega, by simp⟩, fun e => ?_, fun q hq' => by rw [List.mem_singleton.1 hq']; exact .of RD⟩
   have := hl1 [113, 114, 115, 116, 117, 118, 119, 120, 121, 122]
   dsimp only at e
   rw [e] at this
   exact absurd this RD
 exact hq _ _ hm hn OM OM
theorem RB.heads {r : Repo} (h : RB r) {hs : List Head} (h0 : 1 ≤ hs.length) (h1 : hs.length ≤ 5) (h2 : ∀ x ∈ hs, x.Name.length ≤ 6) : RB ⟨r.Commits, hs⟩ := ⟨h.c0, h.c1, h0, h1, h.cs, h2⟩
theorem F80.law (b : List UInt8) (p : Int) (Q : Repo → Int → Prop) (hb : b.length ≤ 2000) (hp : 0 ≤ p) (hp1 : p ≤ 10000) (hq : ∀ x p', RB x → p ≤ p' → p' ≤ p + 4000 → Q x p') : F80.E b p Q := by
 unfold F80.E
 refine F76.law _ _ _ hb hp OM fun x m hx m1 m2 => ?_
 have hr := hx.rb
 have c0 := hx.c0
 have h0 := hx.h0
 have h1 := hx.h1
 have hh : nth x.Heads 0 ∈ x.Heads := nth_memi _ OM OM
 refine F23.law _ _ _ _ hb OM OM fun k hk0 hk1 => ?_
 have hk : 0 ≤ k ∧ k < (x.Commits.length : Int) := by omega
 have hc := hr.cs _ (nth_memi x.Commits hk.1 hk.2)
 have hu := hx.cs _ (nth_memi x.Commits hk.1 hk.2)
 refine F23.law _ _ _ _ hb OM OM fun v hv0 hv1 => ?_
 split
 ·refine F28.law _ _ _ _ hb OM OM (by simp) fun a _ => ⟨OM, hq _ _ (hr.heads (by rw [List.length_set]; exact h0) (by rw [List.length_set]; omega) fun y hy => ?_) OM OM⟩
  rcases List.mem_or_eq_of_mem_set hy with hy | rfl
  ·exact hr.hs y hy
  ·show (nth x.Heads 0).Name.length ≤ 6
   exact hr.hs _ hh
 split
 ·refine ⟨hk, by simp only [List.length_cons, List.length_nil]; omega, hq _ _ (hr.set _ ⟨?_, hc.2.1, hc.2.2⟩) OM OM⟩
  dsimp only
  rw [List.length_append, List.length_singleton]; omega
 split
 ·exact F79.law _ _ _ hb OM OM fun s p' hs _ p1 p2 => ⟨hk, hq _ _ (hr.set _ ⟨hc.1, md_bulk hs, hc.2.2⟩) OM OM⟩
 split
 ·exact ⟨hk, hq _ _ (hr.set _ ⟨hc.1, hc.2.1, Nat.zero_le _⟩) OM OM⟩
 split
 ·refine ⟨OM, by simp only [List.length_cons, List.length_nil]; omega, hq _ _ (hr.heads (by rw [List.length_append]; omega) (by rw [List.length_append, List.length_singleton]; omega) fun y hy => ?_) OM OM⟩
  rcases List.mem_append.1 hy with hy | hy
  ·exact hr.hs y hy
  ·rw [List.mem_singleton.1 hy]; exact hr.hs _ hh
 split
 ·exact ⟨hk, hq _ _ (hr.set _ ⟨Nat.zero_le _, hc.2.1, hc.2.2⟩) OM OM⟩
 exact hq _ _ hr OM OM
theorem F47.law (code : List UInt8) (Q : List UInt8 → Int → Prop) (hq : ∀ b, b.length ≤ 2000 → Q b 0) : F47.E code Q := by
 unfold F47.E
 by_cases h : (code.length : Int) > 2000
 ·rw [if_pos (by simpa using h)]
  exact ⟨OM, hq _ (by rw [List.length_take]; omega)⟩
 ·rw [if_neg (by simpa using h)]
  exact hq _ OM
theorem F44.law (code : List UInt8) (Q : Repo → Int → Int → Prop) (hq : ∀ r a b, RB r → I64 a → I64 b → Q r a b) : F44.E code Q := by
 unfold F44.E
 refine F47.law _ _ fun b hb => F80.law _ _ _ hb OM OM fun x m hx m1 m2 => ?_
 have c1 := hx.c1
 refine ⟨fun _ => by unfold I64; omega, F23.law _ _ _ _ hb OM OM fun u u0 u1 => F23.law _ _ _ _ hb OM OM fun v v0 v1 => ⟨OM, fun _ => by unfold I64; omega, F23.law _ _ _ _ hb OM OM fun y y0 y1 => F23.law _ _ _ _ hb OM OM fun z z0 z1 => ⟨OM, fun _ => by unfold I64; omega, hq _ _ _ hx (by unfold I64; omega) (by unfold I64; omega)⟩⟩⟩
theorem F14.law (code : List UInt8) (Q : Repo → Int → Prop) (hq : ∀ r a, RB r → I64 a → Q r a) : F14.E code Q := by
 unfold F14.E
 exact F44.law _ _ fun r a b h ha _ => hq r a h ha
theorem laws_FnRepoPast.law (code : List UInt8) (_ : ∀ x ∈ code, True) : laws_FnRepoPast.E code (fun r => r = true) := by
 unfold laws_FnRepoPast.E
 refine iteB (fun _ => rfl) fun _ => F14.law _ _ fun r a hr ha => F45.law _ _ _ hr.big (F46.law _ _ _ (iteB (fun h => by simp at h) fun _ => F67.law _ _ ?_))
 have none : verIn r a = false → ((((pastL r a).length : Int) == 0) = true) := fun h => by unfold pastL; rw [h]; rfl
 refine iteB (fun h => ?_) fun ho => iteB (fun h1 => ?_) fun h1 => iteB (fun h2 => ?_) fun h2 => ?_
 ·exact none (by unfold verIn; rw [show repoOk r = false by simpa using h]; rfl)
 ·simp only [decide_eq_true_eq] at h1
  exact none (by unfold verIn; rw [decide_eq_false (show ¬ 0 ≤ a by omega), Bool.false_and, Bool.and_false])
 ·simp only [decide_eq_true_eq, ge_iff_le] at h2
  exact none (by unfold verIn; rw [decide_eq_false (show ¬ a < (r.Commits.length : Int) by omega), Bool.and_false, Bool.and_false])
 have ho : repoOk r = true := by simpa using ho
 simp only [decide_eq_false_iff_not, ge_iff_le] at h1 h2
 have va : 0 ≤ a ∧ a < (r.Commits.length : Int) := by omega
 have L1 : ∀ x y (Q : Bool → Prop), Q (ahead r x y) → F35.E r x y Q := fun x y Q h => F35.law _ _ _ _ hr.big h
 have L2 : ∀ x y (Q : Bool → Prop), Q (ahead r x y) → F36.E r x y Q := fun x y Q h => F36.law _ _ _ _ h
 obtain ⟨A, rfl⟩ := Int.eq_ofNat_of_zero_le va.1
 have hk : A < r.Commits.length := by omega
 have el : pastL r (A : Int) = told (pastOf r A) r.Commits.length := by unfold pastL; rw [ver_in ho va, if_pos rfl]; rfl
 rw [el]
 have up : Ups r := fun k hk => repoOk_up ho hk
 have mk := pastOf_mark up hk
 have hq : ∀ i : Int, 0 ≤ i ∧ i < (r.Commits.length : Int) → ahead r i (A : Int) = nth (pastOf r A) i := fun i hi => ahead_eq ho hi va
 have h14 := repoOk_len ho
 have e2 : told (pastOf r A) r.Commits.length = (A : Int) :: told (pastOf r A) A := by
  rw [past_told ho hk, told, (mk A).2 (.refl _), if_pos rfl]
 obtain ⟨l0, e3⟩ : ∃ l, told (pastOf r A) r.Commits.length = l ++ [0] := by
  have := told_last ((mk 0).2 (reach_root ho _ hk)) (r.Commits.length - 1)
  rwa [show r.Commits.length - 1 + 1 = r.Commits.length by omega] at this
 have hll := told_len (pastOf r A) r.Commits.length
 generalize hm : pastOf r A = m at *
 generalize hl : told m r.Commits.length = l at *
 refine ⟨fun _ _ _ _ => by unfold I64; omega, fun n i => ∃ u j : Nat, n = (u : Int) ∧ i = (j : Int) - 1 ∧ j ≤ r.Commits.length ∧ u ≤ l.length ∧ l.drop u = told m j, fun _ i => (i + 1).toNat, ⟨0, r.Commits.length, rfl, OM, Nat.le_refl _, Nat.zero_le _, by rw [hl]; rfl⟩, ?_⟩
 rintro _ _ ⟨u, j, rfl, rfl, hj, hu, hd⟩
 refine iteB (fun hi => ?_) fun hi => ?_
 ·simp only [decide_eq_true_eq, ge_iff_le] at hi
  obtain ⟨i, rfl⟩ : ∃ i, j = i + 1 := ⟨j - 1, OM⟩
  rw [show ((i + 1 : Nat) : Int) - 1 = (i : Int) by omega]
  have qi := hq (i : Int) ⟨OM, OM⟩
  rw [told] at hd
  refine iteB (fun hn => ⟨by simp only [decide_eq_true_eq] at hn; omega, _, L1 _ _ _ rfl, ?_⟩) fun hn => ⟨_, L1 _ _ _ rfl, ?_⟩
  ·simp only [decide_eq_true_eq] at hn
   have hx : (nth l (u : Int) == (i : Int)) = ahead r (i : Int) (A : Int) := by
    rw [qi]
    cases g : nth m (i : Int) with
    | true =>
     rw [g, if_pos rfl] at hd
     rw [(drop_head hd).2.1]; simp
    | false =>
     rw [g, if_neg RD, List.drop_eq_getElem_cons OM] at hd
     have hmem : l[u] ∈ told m i := by rw [← hd]; exact List.mem_cons_self
     have := told_mem.1 hmem
     rw [nth_nat l OM, beq_eq_false_iff_ne]
     omega
   rw [hx]
   refine iteB (fun h => by simp at h) fun _ => ⟨_, L1 _ _ _ rfl, _, L2 _ _ _ rfl, iteB (fun h => by simp at h) fun _ => iteB (fun h => ?_) fun h => ?_⟩
   ·rw [qi] at h
    rw [h, if_pos rfl] at hd
    exact ⟨OM, fun _ => by unfold I64; omega, ⟨u + 1, i, OM, rfl, OM, OM, (drop_head hd).2.2⟩, by dsimp only; omega⟩
   ·rw [qi] at h
    rw [h, if_neg RD] at hd
    exact ⟨fun _ => by unfold I64; omega, ⟨u, i, rfl, rfl, OM, OM, hd⟩, by dsimp only; omega⟩
  ·simp only [decide_eq_false_iff_not] at hn
   cases g : nth m (i : Int) with
   | true =>
    rw [g, if_pos rfl] at hd
    have := (drop_head hd).1
    omega
   | false =>
    rw [qi, g]
    rw [g, if_neg RD] at hd
    refine iteB (fun h => by simp at h) fun _ => ⟨_, L1 _ _ _ rfl, _, L2 _ _ _ rfl, iteB (fun h => by simp at h) fun _ => ?_⟩
    exact ⟨fun _ => by unfold I64; omega, ⟨u, i, rfl, rfl, OM, OM, hd⟩, by dsimp only; omega⟩
 simp only [decide_eq_false_iff_not, ge_iff_le] at hi
 obtain rfl : j = 0 := by omega
 have hul : u = l.length := by
  have h : (l.drop u).length = 0 := by rw [hd]; rfl
  rw [List.length_drop] at h
  omega
 refine ⟨fun k => 0 ≤ k, fun k => (((nth r.Commits (A : Int)).Up.length : Int) - k).toNat, Int.le_refl _, fun k hk0 => ⟨va, iteB (fun h => ?_) fun h => ?_⟩⟩
 ·simp only [decide_eq_true_eq] at h
  have hmem := nth_memi (nth r.Commits (A : Int)).Up hk0 h
  have hu2 := up A hk _ hmem
  generalize hv : nth (nth r.Commits (A : Int)).Up k = v at *
  have vv : 0 ≤ v ∧ v < (r.Commits.length : Int) := by omega
  have t1 : ahead r v (A : Int) = true := (ahead_iff ho vv va).2 (.step v hmem (.refl _))
  have t2 : ahead r (A : Int) v = false := by
   cases g : ahead r (A : Int) v with
   | false => rfl
   | true =>
    have := Reach.le up ((ahead_iff ho va vv).1 g) OM
    omega
  refine ⟨va, ⟨hk0, h⟩, _, L1 _ _ _ rfl, ?_⟩
  rw [t1]
  refine iteB (fun h => by simp at h) fun _ => ⟨va, ⟨hk0, h⟩, _, L1 _ _ _ rfl, ?_⟩
  rw [t2]
  exact iteB (fun h => by simp at h) fun _ => ⟨OM, OM, by dsimp only; omega⟩
 ·have hl0 : 0 < l.length := by rw [e2]; simp
  refine iteB (fun _ => ⟨OM, iteB (fun _ => ⟨fun _ _ => by unfold I64; omega, OM, ?_⟩) fun h => ?_⟩) fun h => ?_
  ·show (_ == _) = true
   have e4 : (l.length : Int) - 1 = (l0.length : Int) := by rw [e3, List.length_append, List.length_singleton]; omega
   rw [e4, e3, nth_nat _ (by rw [List.length_append, List.length_singleton]; omega)]
   simp
  ·rw [e2] at h
   have e5 : nth ((A : Int) :: told m A) 0 = (A : Int) := rfl
   rw [e5] at h
   simp at h
  ·rw [hul] at h
   simp at h
end Go.Proofs.Ytemeihpokbleaaa
namespace Go.Proofs.Ytemeihpokbleaaa.rFnRepoPast
open Go.ChangeShapes Go.WideShapes Go.ChangeAt Go.RowKit
open Go.ChangeMaps (open_string shut_string)
set_option linter.unusedVariables false
theorem own : ownKnob Try.prog.godebug = none := by kernel_rfl
theorem laidOut : laidOutB Try.prog = true := by kernel_rfl
set_option maxHeartbeats 4000000 in
set_option maxRecDepth 100000 in
theorem lifted (os : Os) (started : os.Started) (H : Type) (enc : TypeId × Value → H) :
    ReturnsInHanded {} Try.checked os 5 .any (Rows.fnRepoPastSpec.pre6 enc Try.prog Try.f5 Rows.fnRepoPastRow.domain false) (Rows.fnRepoPastSpec.post enc Try.prog Try.f5 false true false false) := by
  refine returnsInHanded_of_change_sized (C := Try.checked) own started (by kernel_rfl) Try.func5
    (ChangeSpec.witness6 (enc := enc) (C := Try.checked) false ⟨#[], #[.slice none 0 0], []⟩ 8 (by kernel_rfl) (by kernel_rfl) (by kernel_rfl) (by kernel_rfl)) ?_
  intro W base args ds gs before hval0 hW hcnd hsz0 _
  have hval : ∀ (j : Nat) t v, Try.f5.params[j]? = some t → args[j]? = some v → Value.okWide Try.prog W .any base t v := hval0
  have hW' := hW
  obtain ⟨p, q, hA0, hV, rfl, hfz, hnd⟩ := hW
  have hA : DataW.TrodAll enc Try.prog W 0 (fun _ => true) true Try.f5.params.toList args.toList ds p := hA0
  rw [Try.params5] at hA hval
  obtain ⟨v0, vs0, d0, ds0, p0, q0, hargs, rfl, rfl, h0, r0⟩ := trodAll_cons hA
  obtain ⟨rfl, rfl, rfl⟩ := trodAll_nil r0
  obtain rfl : args = #[v0] := by cases args; simp_all
  obtain ⟨rfl, rfl⟩ := trodVars_none hV
  have k0 := h0
  have lt0 : ∀ x ∈ p0, x.block < W.heap.size := by obtain ⟨m, hm⟩ := k0; exact DataW.trod_lt m _ _ _ hm
  obtain ⟨x0, hv0, hx0⟩ : ∃ a : List UInt8, (∀ y0 ∈ a, True) ∧ (Kd.sl Kd.byte).R W (Fr []) a v0.cells.toList := by obtain ⟨fuel, hf⟩ := h0; exact (Tr.sl Try.underlying22 (by kernel_rfl) (Tr.byte Try.underlying5)) H enc W fuel _ _ hf
  obtain ⟨a0, n0, c0, rfl⟩ := okWide_slice Try.underlying22 (hval 0 22 v0 rfl rfl)
  have s0 : Sl Kd.byte W (Fr []) (.slice a0 n0 c0) x0 := by obtain ⟨_, e, h⟩ := hx0; simp [Value.cells] at e; subst e; exact h
  clear hA0 hval0 hsz0
  refine Calls.mono (laws_FnRepoPast.calls W (Ok.nil W) x0 a0 n0 c0 s0 (fun r => r = true) (laws_FnRepoPast.law x0 hv0)) fun e W' ⟨v, he, r, hr, hq, hg⟩ => ?_
  subst he; subst hr; subst hq
  have bel := Gr.below hg
  exact ⟨_, rfl, _, _, _, [], _, [], hW', trodAll_mk1 (shut_bool Try.underlying4 _), (trodAll_cons_mk (Below.trod laidOut (by kernel_rfl) (of_decide_eq_true (by kernel_rfl)) k0 bel lt0) trodAll_mk0), rfl, bel.frame _, fun h => by cases h⟩
theorem over : Rows.fnRepoPastRow.holds Try.pinned (OpenSpec.ofChange Rows.fnRepoPastSpec) :=
  OpenClaim.holds_of_wide 5 Try.f5 rfl rfl rfl rfl rfl rfl rfl ⟨rfl, rfl, rfl, rfl, rfl⟩ rfl rfl rfl rfl rfl (by kernel_rfl) Try.func5 (by kernel_rfl)
    (of_decide_eq_true (by kernel_rfl)) (by unfold Func.isWrapper; first | (rw [if_pos (by decide +kernel)]; kernel_rfl) | (rw [if_neg (by decide +kernel)]; exact ⟨rfl, rfl⟩))
    (fun os started H enc _ => lifted os started H enc)
theorem proved : Rows.FnRepoPastSaid := over
#print axioms proved
end Go.Proofs.Ytemeihpokbleaaa.rFnRepoPast
namespace Go.Proofs.Ytemeihpokbleaaa
theorem fnRepoPast_holds : Rows.FnRepoPastSaid := rFnRepoPast.proved
end Go.Proofs.Ytemeihpokbleaaa