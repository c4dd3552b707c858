/- It is proved here that the law FnSheetDiff of the given program holds whatever it is handed: the walks through the code, the plain laws and the row, in this order.
   Conditions: none. -/
import Derived.Below
import Derived.ChangeArms
import Derived.ChangeOld
import Derived.ChangeSlices
import Derived.DataReads
import Derived.Deep.MidRow
import Derived.Deep.Quiet
import Derived.Deep.RegionLaw
import Derived.Deep.Upon
import Derived.KernelRfl
import Derived.Laws.Build
import Derived.Laws.IdiomStrings
import Derived.Laws.OwnMore
import Derived.Laws.Slices
import Derived.Laws.Strings2
import Derived.Laws.StructEq
import Derived.Lib.SliceRun
import Derived.OpenShut
import Derived.ProofKit
import Derived.Shelf.SlSortCmp.NoneTotal
import Derived.Shelf.SlSortCmp.WholeK
import Derived.Shelf.Slices.Cells
import Derived.Shelf.Slices.CompactS
import Derived.Shelf.Slices.In.SortNone
import Derived.Shelf.Small.Bits
import Derived.Shelf.Sort.Plain
import Derived.Shelf.Strconv.Itoa0
import Derived.ShutString
import Derived.SizedLaws
import Derived.StillTail
import Derived.Test.YtpdmnmpcjljeaaaGreatProg
import Derived.Test.YtpdmnmpcjljeaaaGreatRows
import Derived.WalkKit
import Derived.Test.YtpdmnmpcjljeaaaGreatCSheetDiffa
import Derived.Test.YtpdmnmpcjljeaaaGreatCSheetDiffb
import Derived.Test.YtpdmnmpcjljeaaaGreatCSheetDiffc
import Derived.Test.YtpdmnmpcjljeaaaGreatCSheetDiffd
import Derived.Test.YtpdmnmpcjljeaaaGreatCSheetDiffe
namespace Go.Proofs.YtpdmnmpcjljeaaaGreat
set_option linter.unusedVariables false
set_option linter.unusedSimpArgs false
set_option linter.unusedSectionVars false
set_option maxHeartbeats 8000000
set_option maxRecDepth 100000
open Go.RowKit
variable {O : Ob} {w0 : World}
theorem F121.law (a b : List Feat) (Q : List Str → Prop) (ha : a.length ≤ 1000) (hb : b.length ≤ 1000) (hs : SS (ids a)) (hq : Q (uniq (ids a ++ ids b))) : F121.E a b Q := by
 unfold F121.E
 refine ⟨fun s i => ∃ u : Nat, i = u ∧ u ≤ b.length ∧ SS (ids s) ∧ (∀ x, x ∈ ids s ↔ x ∈ ids a ∨ x ∈ ids (b.take u)) ∧ s.length ≤ a.length + u, fun _ i => (b.length - i).toNat, ⟨0, rfl, Nat.zero_le _, hs, by simp [ids], OM⟩, ?_⟩
 rintro s _ ⟨u, rfl, hu, h1, h2, h3⟩
 by_cases h : u < b.length
 ·rw [if_pos (by simpa using h)]
  refine ⟨OM, F119.law _ _ _ OM h1 fun r r1 r2 r3 _ => ⟨OM, ⟨u + 1, OM, OM, r1, fun x => ?_, OM⟩, by dsimp only; omega⟩⟩
  rw [r2, h2, ids_take h, List.mem_append, List.mem_singleton]
  constructor
  ·rintro ((hx | hx) | hx)
   ·exact .inl hx
   ·exact .inr (.inl hx)
   ·exact .inr (.inr hx)
  ·rintro (hx | hx | hx)
   ·exact .inl (.inl hx)
   ·exact .inl (.inr hx)
   ·exact .inr hx
 ·rw [if_neg (by simpa using h)]
  have : u = b.length := by omega
  subst this
  rw [List.take_length] at h2
  have e : ids s = uniq (ids a ++ ids b) := SS.ext h1 (uniq_ss _) fun x => by rw [h2, uniq_mem, List.mem_append]
  rw [← e] at hq
  refine ⟨fun xs i => ∃ v : Nat, i = v ∧ v ≤ s.length ∧ xs = ids (s.take v), fun _ i => (s.length - i).toNat, ⟨0, rfl, Nat.zero_le _, rfl⟩, ?_⟩
  rintro _ _ ⟨v, rfl, hv, rfl⟩
  have hil : (ids (s.take v)).length ≤ v := by unfold ids; simp; omega
  by_cases g : v < s.length
  ·rw [if_pos (by simpa using g)]
   refine ⟨OM, by simp only [List.length_cons, List.length_nil]; omega, OM, ⟨v + 1, OM, OM, ?_⟩, by dsimp only; omega⟩
   rw [ids_take g]
  ·rw [if_neg (by simpa using g)]
   have : v = s.length := by omega
   subst this
   rw [List.take_length]; exact hq
theorem F122.law (o a b : List Feat) (Q : List Str → Prop) (ho : o.length ≤ 100) (ha : a.length ≤ 100) (hb : b.length ≤ 100) (hs : SS (ids o)) (hq : Q (ids3 o a b)) : F122.E o a b Q := by
 unfold F122.E
 refine ⟨fun s i => ∃ u : Nat, i = u ∧ u ≤ a.length ∧ SS (ids s) ∧ (∀ x, x ∈ ids s ↔ x ∈ ids o ∨ x ∈ ids (a.take u)) ∧ s.length ≤ o.length + u, fun _ i => (a.length - i).toNat, ⟨0, rfl, Nat.zero_le _, hs, by simp [ids], OM⟩, ?_⟩
 rintro s _ ⟨u, rfl, hu, h1, h2, h3⟩
 by_cases h : u < a.length
 ·rw [if_pos (by simpa using h)]
  refine ⟨OM, F119.law _ _ _ OM h1 fun r r1 r2 r3 _ => ⟨OM, ⟨u + 1, OM, OM, r1, fun x => ?_, OM⟩, by dsimp only; omega⟩⟩
  rw [r2, h2, ids_take h, List.mem_append, List.mem_singleton]
  constructor
  ·rintro ((hx | hx) | hx)
   ·exact .inl hx
   ·exact .inr (.inl hx)
   ·exact .inr (.inr hx)
  ·rintro (hx | hx | hx)
   ·exact .inl (.inl hx)
   ·exact .inl (.inr hx)
   ·exact .inr hx
 ·rw [if_neg (by simpa using h)]
  have : u = a.length := by omega
  subst this
  rw [List.take_length] at h2
  refine F121.law _ _ _ OM OM h1 ?_
  have e : uniq (ids s ++ ids b) = ids3 o a b := SS.ext (uniq_ss _) (uniq_ss _) fun x => by unfold ids3; rw [uniq_mem, uniq_mem, List.mem_append, h2, List.mem_append, List.mem_append]
  rw [e]; exact hq
theorem F99.law (s : List Feat) (id : Str) (Q : Feat → Bool → Prop) (hb : bulk s ≤ 1048576) (hq : Q (sideOf s id).1 (sideOf s id).2) : F99.E s id Q := by
 unfold F99.E
 have hl := bulk_len s
 refine F98.law _ _ _ ?_
 have h1 := findN_le s.length fun j => (nth s (j : Int)).Id == id
 unfold sideOf at hq
 by_cases h : findN s.length (fun j => (nth s (j : Int)).Id == id) < 0
 ·rw [if_pos h] at hq; rw [if_pos (by simpa using h)]; exact hq
 ·rw [if_neg h] at hq; rw [if_neg (by simpa using h)]
  exact ⟨OM, F80.law _ _ (by have := bulk_mem (nth_memi s OM h1.2); omega) hq⟩
theorem F100.law (a b : List Tag) (Q : Bool → Prop) (hq : Q (decide (a = b))) : F100.E a b Q := by
 unfold F100.E
 exact eqS_shape eqTag eqTag_is a b Q hq
theorem F91.law (a b : List Pt) (Q : Bool → Prop) (hq : Q (decide (a = b))) : F91.E a b Q := by
 unfold F91.E
 exact eqS_shape eqPt eqPt_is a b Q hq
theorem F39.law (a b : Shape) (Q : Bool → Prop) (hq : Q (decide (a = b))) : F39.E a b Q := by
 unfold F39.E
 by_cases h : a.Kind = b.Kind
 ·rw [if_pos (by rw [beq_iff_eq]; exact h)]
  refine F91.law _ _ _ ?_
  have : decide (a.Pts = b.Pts) = decide (a = b) := decide_eq_decide.2 (by rw [Shape.ext_iff']; exact ⟨fun e => ⟨h, e⟩, fun e => e.2⟩)
  rw [this]; exact hq
 ·rw [if_neg (by rw [beq_iff_eq]; exact h)]
  rw [decide_eq_false (by rw [Shape.ext_iff']; exact fun e => h e.1)] at hq; exact hq
theorem F57.law (a b : Feat) (Q : Bool → Prop) (hq : Q (decide (a = b))) : F57.E a b Q := by
 unfold F57.E
 by_cases h : a.Id = b.Id
 ·rw [if_pos (by rw [beq_iff_eq]; exact h)]
  refine F39.law _ _ _ ?_
  by_cases h2 : a.Shape = b.Shape
  ·rw [decide_eq_true h2, if_pos rfl]
   refine F100.law _ _ _ ?_
   have : decide (a.Tags = b.Tags) = decide (a = b) := decide_eq_decide.2 (by rw [Feat.ext_iff']; exact ⟨fun e => ⟨h, h2, e⟩, fun e => e.2.2⟩)
   rw [this]; exact hq
  ·rw [decide_eq_false h2, if_neg RD]
   rw [decide_eq_false (by rw [Feat.ext_iff']; exact fun e => h2 e.2.1)] at hq; exact hq
 ·rw [if_neg (by rw [beq_iff_eq]; exact h)]
  rw [decide_eq_false (by rw [Feat.ext_iff']; exact fun e => h e.1)] at hq; exact hq
theorem F115.law (a b : List Pt) (Q : Bool → Prop) (hq : Q (few a b)) : F115.E a b Q := by
 unfold F115.E
 unfold few at hq
 by_cases h : a.length ≤ 12
 ·rw [if_pos (by simp; omega)]
  rw [decide_eq_true h, Bool.true_and] at hq
  have : decide ((b.length : Int) ≤ 12) = decide (b.length ≤ 12) := decide_eq_decide.2 OM
  rw [this]; exact hq
 ·rw [if_neg (by simp; omega)]
  rw [decide_eq_false h, Bool.false_and] at hq; exact hq
theorem F116.m_is (a b : Int) : F116.m a b = max a b := by
 unfold F116.m
 by_cases h : a > b
 ·simp [h]; omega
 ·simp [h]; omega
theorem F92.law (a b : List Pt) (Q : Int → Prop) (ha : a.length ≤ 1048576) (hb : b.length ≤ 1048576) (hq : Q (lcs a b : Nat)) : F92.E a b Q := by
 unfold F92.E
 have hn : ((b.length : Int) + 1).toNat = b.length + 1 := by omega
 rw [hn]
 refine ⟨fun _ => by unfold I64; omega, OM, fun _ _ => by unfold I64; omega,
  fun xs i => ∃ k : Nat, i = (k : Int) - 1 ∧ k ≤ a.length ∧ RowOk a b k 0 xs, fun _ i => (i + 1).toNat, ⟨a.length, rfl, Nat.le_refl _, by simp, fun m _ hm => ?_⟩, ?_⟩
 ·rw [nth_rep _ _ _ OM, List.drop_length, lcs_nil]; rfl
 rintro xs _ ⟨k, rfl, hk, hr⟩
 by_cases hk0 : (k : Int) - 1 ≥ 0
 ·rw [if_pos (by simpa using hk0)]
  obtain ⟨i, rfl⟩ : ∃ i, k = i + 1 := ⟨k - 1, OM⟩
  have ei : ((i + 1 : Nat) : Int) - 1 = (i : Int) := by omega
  rw [ei]
  refine ⟨fun _ => by unfold I64; omega, OM, fun _ => by unfold I64; omega,
   fun ys j => ∃ m : Nat, j = (m : Int) - 1 ∧ m ≤ b.length ∧ RowOk a b i m ys, fun _ j => (j + 1).toNat, ⟨b.length, rfl, Nat.le_refl _, by simp, fun m hm1 hm2 => ?_⟩, ?_⟩
  ·have : m = b.length := by omega
   subst this
   rw [nth_rep _ _ _ OM, List.drop_length, lcs_nil2]; rfl
  rintro ys _ ⟨m, rfl, hm, hs⟩
  by_cases hm0 : (m : Int) - 1 ≥ 0
  ·rw [if_pos (by simpa using hm0)]
   obtain ⟨j, rfl⟩ : ∃ j, m = j + 1 := ⟨m - 1, OM⟩
   have ej : ((j + 1 : Nat) : Int) - 1 = (j : Int) := by omega
   have ej1 : (j : Int) + 1 = ((j + 1 : Nat) : Int) := by omega
   rw [ej, ej1, eqPt_is]
   have hl := lcs_drop a b (i := i) (j := j) OM OM
   have n1 := hr.2 (j + 1) (Nat.zero_le _) OM
   have n2 := hr.2 j (Nat.zero_le _) OM
   have n3 := hs.2 (j + 1) (Nat.le_refl _) OM
   have b1 := lcs_le2 (a.drop (i + 1)) (b.drop (j + 1))
   rw [List.length_drop] at b1
   have hset : ∀ v : Int, v = (lcs (a.drop i) (b.drop j) : Nat) → RowOk a b i j (ys.set (j : Int).toNat v) := fun v hv => by
    refine ⟨by rw [List.length_set]; exact hs.1, fun u hu1 hu2 => ?_⟩
    rw [Int.toNat_natCast, nth_set _ (by have := hs.1; omega)]
    by_cases e : u = j
    ·subst e; rw [if_pos rfl, hv]
    ·rw [if_neg e]; exact hs.2 u OM hu2
   have l1 := hr.1
   have l2 := hs.1
   refine ⟨OM, OM, ?_⟩
   by_cases he : nth a (i : Int) = nth b (j : Int)
   ·rw [if_pos (by simpa using he)]
    rw [if_pos he] at hl
    rw [n1]
    exact ⟨by unfold I64; omega, OM, by unfold I64; omega, OM, by unfold I64; omega, ⟨j, OM, OM, hset _ OM⟩, by dsimp only; omega⟩
   ·rw [if_neg (by simpa using he)]
    rw [if_neg he] at hl
    rw [n2, n3, F116.m_is]
    exact ⟨OM, by unfold I64; omega, OM, OM, by unfold I64; omega, ⟨j, OM, OM, hset _ OM⟩, by dsimp only; omega⟩
  ·rw [if_neg (by simpa using hm0)]
   have : m = 0 := by omega
   subst this
   exact ⟨by unfold I64; omega, ⟨i, OM, OM, hs⟩, by dsimp only; omega⟩
 ·rw [if_neg (by simpa using hk0)]
  have : k = 0 := by omega
  subst this
  have h1 := hr.1
  have h2 := hr.2 0 (Nat.le_refl _) (Nat.zero_le _)
  refine ⟨OM, ?_⟩
  rw [show nth xs 0 = nth xs ((0 : Nat) : Int) from rfl, h2]
  exact hq
theorem cut_end (a : List Pt) (k : Nat) : (a.drop k).take (a.length - k) = a.drop k := List.take_of_length_le (by rw [List.length_drop]; omega)
theorem F53.law (a b : List Pt) (Q : List Pair → Prop) (hq : Q (spairs a b)) : F53.E a b Q := by
 unfold F53.E
 unfold spairs at hq
 refine ⟨fun xs i j => ∃ u v : Nat, i = u ∧ j = v ∧ u ≤ a.length ∧ v ≤ b.length ∧ (few a b = true → xs ++ (pairs u v (a.drop u) (b.drop v)).map mkP = (pairs 0 0 a b).map mkP) ∧ (few a b = false → xs = []), fun _ i j => ((a.length - i) + (b.length - j)).toNat, ⟨0, 0, rfl, rfl, Nat.zero_le _, Nat.zero_le _, fun _ => rfl, fun _ => rfl⟩, ?_⟩
 rintro xs _ _ ⟨u, v, rfl, rfl, hu, hv, hx, hy⟩
 have hend : (a.length ≤ u ∨ b.length ≤ v) → Q xs := fun h => by
  by_cases hf : few a b = true
  ·rw [if_pos hf] at hq
   have hx := hx hf
   rcases h with h | h
   ·rw [List.drop_of_length_le h, pairs_nil, List.map_nil, List.append_nil] at hx
    rw [hx]; exact hq
   ·rw [List.drop_of_length_le h, pairs_nil2, List.map_nil, List.append_nil] at hx
    rw [hx]; exact hq
  ·rw [if_neg hf] at hq
   rw [hy (by simpa using hf)]; exact hq
 by_cases hu0 : (u : Int) < (a.length : Int)
 ·rw [if_pos (by simpa using hu0)]
  by_cases hv0 : (v : Int) < (b.length : Int)
  ·rw [if_pos (by simpa using hv0)]
   refine F115.law _ _ _ ?_
   by_cases hf : few a b = true
   ·rw [if_pos hf]
    have hx := hx hf
    have hff := few_iff.1 hf
    have hu1 : u < a.length := by omega
    have hv1 : v < b.length := by omega
    rw [pairs_drop a b hu1 hv1] at hx
    have eu : (u : Int) + 1 = ((u + 1 : Nat) : Int) := by omega
    have ev : (v : Int) + 1 = ((v + 1 : Nat) : Int) := by omega
    rw [eqPt_is, eu, ev]
    refine ⟨OM, OM, ?_⟩
    by_cases he : nth a (u : Int) = nth b (v : Int)
    ·rw [if_pos (by simpa using he)]
     rw [if_pos he, List.map_cons] at hx
     have hl := congrArg List.length hx
     rw [List.length_map, pairs_len, List.length_append] at hl
     have := lcs_le1 a b
     exact ⟨by simp only [List.length_singleton]; omega, OM, OM, ⟨u + 1, v + 1, rfl, rfl, OM, OM, fun _ => by rw [List.append_assoc]; exact hx, fun e => absurd hf (by rw [e]; exact Bool.false_ne_true)⟩, by dsimp only; omega⟩
    ·rw [if_neg (by simpa using he)]
     rw [if_neg he] at hx
     simp only [Int.toNat_natCast, cut_end]
     refine ⟨OM, OM, OM, _, F92.law _ _ _ (by rw [List.length_drop]; omega) (by rw [List.length_drop]; omega) rfl, OM, OM, OM, _, F92.law _ _ _ (by rw [List.length_drop]; omega) (by rw [List.length_drop]; omega) rfl, ?_⟩
     by_cases hc : lcs (a.drop u) (b.drop (v + 1)) ≤ lcs (a.drop (u + 1)) (b.drop v)
     ·rw [if_pos (by simpa using hc)]
      rw [if_pos hc] at hx
      exact ⟨OM, ⟨u + 1, v, rfl, rfl, OM, OM, fun _ => hx, fun e => absurd hf (by rw [e]; exact Bool.false_ne_true)⟩, OM⟩
     ·rw [if_neg (by simpa using hc)]
      rw [if_neg hc] at hx
      exact ⟨OM, ⟨u, v + 1, rfl, rfl, OM, OM, fun _ => hx, fun e => absurd hf (by rw [e]; exact Bool.false_ne_true)⟩, OM⟩
   ·rw [if_neg hf]
    rw [if_neg hf] at hq
    rw [hy (by simpa using hf)]; exact hq
  ·rw [if_neg (by simpa using hv0)]; exact hend (.inr OM)
 ·rw [if_neg (by simpa using hu0)]; exact hend (.inl OM)
theorem F128.law (l : List Pair) (k : Int) (Q : Int → Prop) (hq : Q (mateI l k)) : F128.E l k Q := by
 unfold F128.E
 refine ⟨fun i => ∃ u : Nat, i = u ∧ u ≤ l.length ∧ mateI (l.drop u) k = mateI l k, fun i => (l.length - i).toNat, ⟨0, rfl, Nat.zero_le _, rfl⟩, ?_⟩
 rintro _ ⟨u, rfl, hu, he⟩
 by_cases h : (u : Int) < (l.length : Int)
 ·rw [if_pos (by simpa using h)]
  rw [drop_nth l OM, mateI_cons] at he
  refine ⟨OM, ?_⟩
  by_cases hc : ((nth l (u : Int)).A == k) = true
  ·rw [if_pos hc] at he ⊢
   refine ⟨OM, ?_⟩
   rw [he]; exact hq
  ·rw [if_neg hc] at he ⊢
   exact ⟨OM, ⟨u + 1, OM, OM, he⟩, by dsimp only; omega⟩
 ·rw [if_neg (by simpa using h)]
  rw [List.drop_of_length_le (by omega : l.length ≤ u), mateI_nil] at he
  rw [he]; exact hq
theorem F93.law (o a b : List Pt) (Q : List Pt → Bool → Prop) (hs : ∀ r, pickL o a b = some r → Q r true) (hn : pickL o a b = none → Q [] false) : F93.E o a b Q := by
 unfold F93.E
 unfold pickL at hs hn
 refine F91.law _ _ _ ?_
 by_cases h1 : a = o
 ·rw [if_pos (by simpa using h1)]
  rw [if_pos h1] at hs; exact hs _ rfl
 rw [if_neg (by simpa using h1)]
 rw [if_neg h1] at hs hn
 refine F91.law _ _ _ ?_
 by_cases h2 : b = o
 ·rw [if_pos (by simpa using h2)]
  rw [if_pos h2] at hs; exact hs _ rfl
 rw [if_neg (by simpa using h2)]
 rw [if_neg h2] at hs hn
 refine F91.law _ _ _ ?_
 by_cases h3 : a = b
 ·rw [if_pos (by simpa using h3)]
  rw [if_pos h3] at hs; exact hs _ rfl
 ·rw [if_neg (by simpa using h3)]
  rw [if_neg h3] at hn; exact hn rfl
theorem F70.law (o a b : List Pt) (Q : List Pt → Bool → Prop) (h1 : few o a = true) (h2 : few o b = true) (hs : ∀ r, smerge o a b = some r → Q r true) (hn : smerge o a b = none → Q [] false) : F70.E o a b Q := by
 unfold F70.E
 refine F53.law _ _ _ (F53.law _ _ _ ?_)
 have f1 := few_iff.1 h1; have f2 := few_iff.1 h2
 refine ⟨fun xs i j k t => (∃ i' j' k' t' : Nat, i = i' ∧ j = j' ∧ k = k' ∧ t = t' ∧ MInv o a b xs i' j' k' t') ∨ (t = (o.length : Int) + 1 ∧ smerge o a b = some xs), fun _ _ _ _ t => (o.length + 1 - t).toNat, .inl ⟨0, 0, 0, 0, rfl, rfl, rfl, rfl, MInv.zero h1 h2⟩, ?_⟩
 rintro xs _ _ _ _ (⟨i, j, k, t, rfl, rfl, rfl, rfl, h⟩ | ⟨rfl, h⟩)
 ·have ht := h.ht; have hi := h.hi; have hj := h.hj; have hk := h.hk; have hl := h.len
  rw [if_pos (by simp; omega)]
  simp only [Int.toNat_natCast]
  by_cases ht0 : (t : Int) < (o.length : Int)
  ·rw [if_pos (by simpa using ht0)]
   refine F128.law _ _ _ (F128.law _ _ _ ?_)
   rw [mate_part h1, mate_part h2]
   cases hx : part o a t with
   | none =>
    rw [if_pos RD]
    exact ⟨OM, .inl ⟨i, j, k, t + 1, rfl, rfl, rfl, rfl, h.skip OM (.inl hx)⟩, OM⟩
   | some x =>
    rw [if_neg (by simp)]
    cases hy : part o b t with
    | none =>
     rw [if_pos RD]
     exact ⟨OM, .inl ⟨i, j, k, t + 1, rfl, rfl, rfl, rfl, h.skip OM (.inr hy)⟩, OM⟩
    | some y =>
     rw [if_neg (by simp)]
     dsimp only
     obtain ⟨g1, g2, g3, g4⟩ := h.from hx hy
     refine ⟨OM, OM, OM, F93.law _ _ _ _ (fun p hp => ?_) (fun hp => ?_)⟩
     ·rw [if_neg (by simp)]
      have hm := (pickL_mem (o := seg o i t) (a := seg a j x) (b := seg b k y) hp).2.2.2
      rw [seg_len a _ _ OM, seg_len b _ _ OM] at hm
      exact ⟨OM, OM, by simp only [List.length_append, List.length_singleton]; omega, OM, fun _ _ _ => by unfold I64; omega, fun _ _ _ => by unfold I64; omega, OM, .inl ⟨t + 1, x + 1, y + 1, t + 1, rfl, rfl, rfl, rfl, h.step OM hx hy hp⟩, OM⟩
     ·rw [if_pos (by simp)]
      exact hn (h.stop OM hx hy hp)
  ·rw [if_neg (by simpa using ht0)]
   have : t = o.length := by omega
   subst this
   refine ⟨OM, OM, OM, ?_⟩
   have hlast := h.last
   have e1 : (o.drop i).take (o.length - i) = o.drop i := seg_end o i
   have e2 : (a.drop j).take (a.length - j) = a.drop j := seg_end a j
   have e3 : (b.drop k).take (b.length - k) = b.drop k := seg_end b k
   rw [e1, e2, e3]
   refine F93.law _ _ _ _ (fun p hp => ?_) (fun hp => ?_)
   ·rw [if_neg (by simp)]
    have hm := (pickL_mem hp).2.2.2
    rw [List.length_drop, List.length_drop] at hm
    rw [hp, Option.map_some] at hlast
    exact ⟨OM, fun _ _ _ => by unfold I64; omega, fun _ _ _ => by unfold I64; omega, fun _ _ _ => by unfold I64; omega, fun _ _ _ => by unfold I64; omega, .inr ⟨rfl, hlast.symm⟩, OM⟩
   ·rw [if_pos (by simp)]
    rw [hp] at hlast
    exact hn hlast.symm
 ·rw [if_neg (by simp; omega)]
  exact hs _ h
theorem F71.law (o a b : Shape) (Q : Shape → Bool → Prop) (h1 : o.Pts.length ≤ 6) (h2 : a.Pts.length ≤ 6) (h3 : b.Pts.length ≤ 6) (hq : Q (shapeF o a b).1 (shapeF o a b).2) : F71.E o a b Q := by
 unfold F71.E
 unfold shapeF three at hq
 refine F39.law _ _ _ ?_
 by_cases e1 : a = o
 ·rw [decide_eq_true e1, if_pos rfl]; rw [if_pos e1, if_pos rfl] at hq; exact hq
 rw [decide_eq_false e1, if_neg RD]; rw [if_neg e1] at hq
 refine F39.law _ _ _ ?_
 by_cases e2 : b = o
 ·rw [decide_eq_true e2, if_pos rfl]; rw [if_pos e2, if_pos rfl] at hq; exact hq
 rw [decide_eq_false e2, if_neg RD]; rw [if_neg e2] at hq
 refine F39.law _ _ _ ?_
 by_cases e3 : a = b
 ·rw [decide_eq_true e3, if_pos rfl]; rw [if_pos e3, if_pos rfl] at hq; exact hq
 rw [decide_eq_false e3, if_neg RD]; rw [if_neg e3, if_neg (by simp)] at hq
 by_cases k1 : a.Kind = b.Kind
 case neg => rw [if_pos (by rw [bne_iff_ne]; exact k1)]; rw [if_neg fun h => k1 (h.1.trans h.2.symm)] at hq; exact hq
 rw [if_neg (by rw [k1]; simp)]
 by_cases k2 : a.Kind = o.Kind
 case neg => rw [if_pos (by rw [bne_iff_ne]; exact k2)]; rw [if_neg fun h => k2 h.1] at hq; exact hq
 rw [if_neg (by rw [k2]; simp)]
 rw [if_pos ⟨k2, k1.symm.trans k2⟩] at hq
 refine F70.law _ _ _ _ (few_iff.2 OM) (few_iff.2 OM) (fun r hr => ?_) (fun hr => ?_)
 ·rw [if_neg RD]
  rw [hr] at hq
  dsimp only at hq
  refine F63.law _ _ ?_
  cases k3 : shapeOk ⟨a.Kind, r⟩ with
  | true => rw [if_neg RD]; rw [if_pos k3] at hq; exact hq
  | false => rw [if_pos RD]; rw [if_neg (by rw [k3]; decide)] at hq; exact hq
 ·rw [if_pos RD]; rw [hr] at hq; exact hq
theorem F117.law (t : List Tag) (key : Str) (Q : Str → Bool → Prop) (hq : Q (valT t key).val (valT t key).has) : F117.E t key Q := by
 unfold F117.E
 unfold valT at hq
 obtain ⟨I, mu, h1, h2⟩ := loop_find t.length (fun j => (nth t (j : Int)).Key == key) (Q := fun r => if r < 0 then Q [] false else Q (nth t r).Val true)
  (B := fun I mu i => ((0 : Int) ≤ i ∧ i < (t.length : Int)) ∧ (if ((nth t i).Key) == key then ((0 : Int) ≤ i ∧ i < (t.length : Int)) ∧ Q ((nth t i).Val) true else (-9223372036854775808 ≤ i) ∧ I (i + 1) ∧ mu (i + 1) < mu i))
  (by
   try dsimp only
   split
   ·rename_i h; rw [if_pos h] at hq; exact hq
   ·rename_i h; rw [if_neg h] at hq; exact hq)
  (fun I mu k hk h1 h2 => ⟨OM, by
   cases h : (nth t (k : Int)).Key == key with
   | true => rw [if_pos rfl]; have := h1 h; rw [if_neg OM] at this; exact ⟨OM, this⟩
   | false => rw [if_neg RD]; obtain ⟨i1, i2⟩ := h2 h; exact ⟨OM, i1, i2⟩⟩)
 refine ⟨I, mu, h1, fun i hi => ?_⟩
 have h3 := h2 i hi
 by_cases h : i < (t.length : Int)
 ·rw [if_pos (decide_eq_true h)] at h3 ⊢; exact h3
 ·rw [if_neg (by simpa using h)] at h3 ⊢
  rw [if_pos RD] at h3; exact h3
theorem value.ext_iff' (a b : value) : a = b ↔ a.has = b.has ∧ a.val = b.val := by cases a; cases b; simp
def tagE (o a b : value) (Q : Str → Bool → Bool → Prop) : Prop :=
 if a = o then Q b.val b.has true else if b = o then Q a.val a.has true else if a = b then Q a.val a.has true else if a.has then Q a.val true false else Q b.val true false
theorem tagE_of {o a b : value} {Q : Str → Bool → Bool → Prop} (ha : a.has = false → a = ⟨false, []⟩) (hb : b.has = false → b = ⟨false, []⟩) (hq : Q (tagF o a b).1.val (tagF o a b).1.has (tagF o a b).2) : tagE o a b Q := by
 unfold tagE
 unfold tagF three at hq
 by_cases e1 : a = o
 ·rw [if_pos e1]; rw [if_pos e1, if_pos rfl] at hq; exact hq
 ·rw [if_neg e1] at hq ⊢
  by_cases e2 : b = o
  ·rw [if_pos e2]; rw [if_pos e2, if_pos rfl] at hq; exact hq
  ·rw [if_neg e2] at hq ⊢
   by_cases e3 : a = b
   ·rw [if_pos e3]; rw [if_pos e3, if_pos rfl] at hq; exact hq
   ·rw [if_neg e3] at hq ⊢
    rw [if_neg (by simp)] at hq
    cases h : a.has with
    | true => rw [if_pos rfl]; rw [h, if_pos rfl, h] at hq; exact hq
    | false =>
     rw [if_neg RD]; rw [h, if_neg RD] at hq
     cases g : b.has with
     | true => rw [g] at hq; exact hq
     | false => exact absurd ((ha h).trans (hb g).symm) e3
theorem beq_dec {α : Type} [DecidableEq α] [BEq α] [LawfulBEq α] {x y : α} : ((x == y) = true) = (x = y) := by simp
theorem F118.law (o a b : List Tag) (key : Str) (Q : Str → Bool → Bool → Prop) (hq : Q (tagK o a b key).1.val (tagK o a b key).1.has (tagK o a b key).2) : F118.E o a b key Q := by
 unfold F118.E
 refine F117.law _ _ _ (F117.law _ _ _ (F117.law _ _ _ ?_))
 have h := tagE_of (valT_no a key) (valT_no b key) hq
 generalize valT o key = vo at *
 generalize valT a key = va at *
 generalize valT b key = vb at *
 unfold tagE at h
 simp only [value.ext_iff'] at h
 by_cases e1 : va.val = vo.val <;> by_cases e2 : va.has = vo.has <;> by_cases e3 : vb.val = vo.val <;> by_cases e4 : vb.has = vo.has <;> by_cases e5 : va.val = vb.val <;> by_cases e6 : va.has = vb.has <;>
  simp only [beq_dec, e1, e2, e3, e4, e5, e6, if_true, if_false, and_self, and_true, and_false, false_and, true_and] at h ⊢ <;> first | exact h | simp_all
theorem F94.law (o a b : List Tag) (Q : List Str → Prop) (h1 : o.length ≤ 100) (h2 : a.length ≤ 100) (h3 : b.length ≤ 100) (hq : Q (uniq (keysT (o ++ a ++ b)))) : F94.E o a b Q := by
 unfold F94.E
 rw [List.nil_append]
 refine ⟨by simp only [List.length_nil]; omega, OM, by simp only [List.length_append]; omega, ?_⟩
 have hl : (o ++ a ++ b).length ≤ 300 := by simp only [List.length_append]; omega
 generalize o ++ a ++ b = l at *
 refine ⟨fun s i => ∃ u : Nat, i = u ∧ u ≤ l.length ∧ SS (keysT s) ∧ (∀ x, x ∈ keysT s ↔ x ∈ keysT (l.take u)) ∧ s.length ≤ u, fun _ i => (l.length - i).toNat, ⟨0, rfl, Nat.zero_le _, by simp [keysT, SS], by simp [keysT], by simp⟩, ?_⟩
 rintro s _ ⟨u, rfl, hu, g1, g2, g3⟩
 by_cases h : u < l.length
 ·rw [if_pos (by simpa using h)]
  refine ⟨OM, F114.law _ _ _ _ OM g1 fun r r1 r2 r3 _ => ⟨OM, ⟨u + 1, OM, OM, r1, fun x => ?_, OM⟩, by dsimp only; omega⟩⟩
  rw [r2, g2, keys_take h, List.mem_append, List.mem_singleton]
 ·rw [if_neg (by simpa using h)]
  have : u = l.length := by omega
  subst this
  rw [List.take_length] at g2
  have e : keysT s = uniq (keysT l) := SS.ext g1 (uniq_ss _) fun x => by rw [g2, uniq_mem]
  rw [← e] at hq
  refine ⟨fun xs i => ∃ v : Nat, i = v ∧ v ≤ s.length ∧ xs = keysT (s.take v), fun _ i => (s.length - i).toNat, ⟨0, rfl, Nat.zero_le _, rfl⟩, ?_⟩
  rintro _ _ ⟨v, rfl, hv, rfl⟩
  have hil : (keysT (s.take v)).length ≤ v := by unfold keysT; simp; omega
  by_cases g : v < s.length
  ·rw [if_pos (by simpa using g)]
   refine ⟨OM, by simp only [List.length_cons, List.length_nil]; omega, OM, ⟨v + 1, OM, OM, ?_⟩, by dsimp only; omega⟩
   rw [keys_take g]
  ·rw [if_neg (by simpa using g)]
   have : v = s.length := by omega
   subst this
   rw [List.take_length]; exact hq
theorem F95.law (o a b : Feat) (Q : Feat → List Str → Prop) (ko : featOk o = true) (ka : featOk a = true) (kb : featOk b = true) (hq : Q (joinOf o a b).1 (joinOf o a b).2) : F95.E o a b Q := by
 unfold F95.E
 have fo := feat_facts ko; have fa := feat_facts ka; have fb := feat_facts kb
 have so := fo.2.2.1; have sa := fa.2.2.1; have sb := fb.2.2.1
 refine F71.law _ _ _ _ so sa sb ?_
 refine ⟨fun xs => xs = (if (shapeF o.Shape a.Shape b.Shape).2 then [] else [shapeS]), ?_, ?_⟩
 ·cases c : (shapeF o.Shape a.Shape b.Shape).2 with
  | true => rw [if_neg RD, if_pos rfl]
  | false => rw [if_pos RD, if_neg RD]; exact ⟨by decide, rfl⟩
 rintro _ rfl
 have hpts := shapeF_pts (o := o.Shape) sa sb
 unfold F79.E
 refine ⟨by simp only [List.length_nil]; omega, ?_⟩
 rw [List.nil_append]
 refine F94.law _ _ _ _ OM OM OM ?_
 obtain ⟨ks1, ks2⟩ := allKeys_small ko ka kb
 have ek : uniq (keysT (o.Tags ++ a.Tags ++ b.Tags)) = allKeys o a b := rfl
 rw [ek]
 refine ⟨fun xs i ts => ∃ u : Nat, i = u ∧ u ≤ (allKeys o a b).length ∧ xs = (if (shapeF o.Shape a.Shape b.Shape).2 then [] else [shapeS]) ++ clashL o.Tags a.Tags b.Tags ((allKeys o a b).take u) ∧ ts = tagsL o.Tags a.Tags b.Tags ((allKeys o a b).take u), fun _ i _ => ((allKeys o a b).length - i).toNat, ⟨0, rfl, Nat.zero_le _, by simp [clashL], by simp [tagsL]⟩, ?_⟩
 rintro _ _ _ ⟨u, rfl, hu, rfl, rfl⟩
 have hpre : (if (shapeF o.Shape a.Shape b.Shape).2 then ([] : List Str) else [shapeS]).length ≤ 1 := by split <;> decide
 by_cases h : u < (allKeys o a b).length
 ·rw [if_pos (by simpa using h)]
  have hk6 := ks2 _ (nth_mem _ h)
  have hcl := clashL_len o.Tags a.Tags b.Tags ((allKeys o a b).take u)
  have htl := tagsL_len o.Tags a.Tags b.Tags ((allKeys o a b).take u)
  rw [List.length_take] at hcl htl
  refine ⟨OM, F118.law _ _ _ _ _ ?_⟩
  have ec := clashL_snoc o.Tags a.Tags b.Tags ((allKeys o a b).take u) (nth (allKeys o a b) (u : Int))
  have et := tagsL_snoc o.Tags a.Tags b.Tags ((allKeys o a b).take u) (nth (allKeys o a b) (u : Int))
  rw [← take_nth _ h] at ec et
  refine ⟨fun xs => xs = (if (shapeF o.Shape a.Shape b.Shape).2 then [] else [shapeS]) ++ clashL o.Tags a.Tags b.Tags ((allKeys o a b).take (u + 1)), ?_, ?_⟩
  ·rw [ec]
   cases c : (tagK o.Tags a.Tags b.Tags (nth (allKeys o a b) (u : Int))).2 with
   | true => rw [if_neg RD, if_pos rfl, List.append_nil]
   | false =>
    rw [if_pos RD]
    simp only [Bool.false_eq_true, if_false]
    exact ⟨OM, by simp only [List.length_cons, List.length_nil]; omega, by simp only [List.length_append, List.length_cons, List.length_nil]; omega, by rw [List.append_assoc]; rfl⟩
  ·rintro _ rfl
   refine ⟨fun ts => ts = tagsL o.Tags a.Tags b.Tags ((allKeys o a b).take (u + 1)), ?_, ?_⟩
   ·rw [et]
    split
    ·exact ⟨OM, by simp only [List.length_cons, List.length_nil]; omega, rfl⟩
    ·rw [List.append_nil]
   ·rintro _ rfl
    exact ⟨by unfold I64; omega, ⟨u + 1, OM, OM, rfl, rfl⟩, by dsimp only; omega⟩
 rw [if_neg (by simpa using h)]
 have : u = (allKeys o a b).length := by omega
 subst this
 rw [List.take_length]
 unfold joinOf at hq
 show F84.E (joinF o a b) _
 refine F84.law _ _ ?_
 cases kj : featOk (joinF o a b) with
 | true =>
  rw [if_neg RD]
  rw [kj, if_pos rfl] at hq
  exact hq
 | false =>
  rw [if_pos RD]
  rw [kj, if_neg RD] at hq
  exact F80.law _ _ (by have := (feat_small ka).1; omega) hq
theorem th_same {x y : thing} (h : x.has = y.has) : decide (x.f = y.f) = decide (x = y) := decide_eq_decide.2 (by rw [thing.ext_iff']; exact ⟨fun g => ⟨h, g⟩, fun g => g.2⟩)
theorem th_diff {x y : thing} (h : ¬ x.has = y.has) : decide (x = y) = false := decide_eq_false fun e => h (by rw [e])
theorem three_snd {α : Type} [DecidableEq α] (o a b : α) : (three o a b).2 = (decide (a = o) || (decide (b = o) || decide (a = b))) := by
 unfold three
 by_cases h1 : a = o
 ·rw [if_pos h1, decide_eq_true h1]; rfl
 ·rw [if_neg h1, decide_eq_false h1]
  by_cases h2 : b = o
  ·rw [if_pos h2, decide_eq_true h2]; rfl
  ·rw [if_neg h2, decide_eq_false h2]
   by_cases h3 : a = b
   ·rw [if_pos h3, decide_eq_true h3]; rfl
   ·rw [if_neg h3, decide_eq_false h3]; rfl
theorem F123.law (o a b : List Feat) (id : Str) (Q : Feat → Bool → List Str → Prop) (ho : sheetOk o = true) (ha : sheetOk a = true) (hb : sheetOk b = true) (h1 : bulk o ≤ 1048576) (h2 : bulk a ≤ 1048576) (h3 : bulk b ≤ 1048576)
  (hq : Q (oneAt o a b id).1.f (oneAt o a b id).1.has (oneAt o a b id).2) : F123.E o a b id Q := by
 unfold F123.E
 refine F99.law _ _ _ h1 (F99.law _ _ _ h2 (F99.law _ _ _ h3 ?_))
 have to_ : ThOk _ _ := thOf_ok ho id
 have ta_ : ThOk _ _ := thOf_ok ha id
 have tb_ : ThOk _ _ := thOf_ok hb id
 have eo : oneAt o a b id = oneOf (thOf o id) (thOf a id) (thOf b id) := rfl
 rw [eo] at hq
 clear eo
 have e1 : (sideOf o id).1 = (thOf o id).f := rfl
 have e2 : (sideOf o id).2 = (thOf o id).has := rfl
 have e3 : (sideOf a id).1 = (thOf a id).f := rfl
 have e4 : (sideOf a id).2 = (thOf a id).has := rfl
 have e5 : (sideOf b id).1 = (thOf b id).f := rfl
 have e6 : (sideOf b id).2 = (thOf b id).has := rfl
 rw [e1, e2, e3, e4, e5, e6]
 clear e1 e2 e3 e4 e5 e6
 generalize thOf o id = x at *
 generalize thOf a id = y at *
 generalize thOf b id = z at *
 refine ⟨fun v => v = decide (y = x), ?_, ?_⟩
 ·by_cases g : y.has = x.has
  ·rw [if_pos (by simpa using g)]; exact F57.law _ _ _ (th_same g)
  ·rw [if_neg (by simpa using g)]; exact (th_diff g).symm
 rintro _ rfl
 by_cases c1 : y = x
 ·rw [decide_eq_true c1, if_pos rfl]
  have et : three x y z = (z, true) := by unfold three; rw [if_pos c1]
  rw [one_same (by rw [et]), et] at hq; exact hq
 rw [decide_eq_false c1, if_neg RD]
 refine ⟨fun v => v = (decide (z = x) || decide (y = z)), ?_, ?_⟩
 ·have k2 : (if (y.has == z.has) = true then F57.E y.f z.f (fun r9 => r9 = decide (y = z)) else false = decide (y = z)) := by
   by_cases g : y.has = z.has
   ·rw [if_pos (by simpa using g)]; exact F57.law _ _ _ (th_same g)
   ·rw [if_neg (by simpa using g)]; exact (th_diff g).symm
  by_cases g : z.has = x.has
  ·rw [if_pos (by simpa using g)]
   refine F57.law _ _ _ ?_
   rw [th_same g]
   by_cases c2 : z = x
   ·rw [decide_eq_true c2, if_pos rfl]; rfl
   ·rw [decide_eq_false c2, if_neg RD, Bool.false_or]; exact k2
  ·rw [if_neg (by simpa using g), th_diff g, Bool.false_or]; exact k2
 rintro _ rfl
 have e3 := three_snd x y z
 rw [decide_eq_false c1, Bool.false_or] at e3
 cases c2 : (decide (z = x) || decide (y = z)) with
 | true =>
  rw [if_pos rfl]
  have et : three x y z = (y, true) := by
   rcases three_case x y z with ⟨g, _⟩ | ⟨_, _, g⟩ | ⟨_, _, _, g⟩ | ⟨_, g1, g2, _⟩
   ·exact absurd g c1
   ·exact g
   ·exact g
   ·rw [decide_eq_false g1, decide_eq_false g2] at c2; cases c2
  rw [one_same (by rw [et]), et] at hq; exact hq
 | false =>
  rw [if_neg RD]
  rw [c2] at e3
  rw [one_else e3] at hq
  rcases Bool.eq_false_or_eq_true y.has with ca | ca
  case inr =>
   rw [if_pos (by rw [ca]; rfl)]
   rw [if_pos ca] at hq
   have hz : z.has = true := by
    cases g : z.has with
    | true => rfl
    | false =>
     rw [ta_.no ca, tb_.no g] at c2
     simp at c2
   rw [hz] at hq; exact hq
  rw [if_neg (by rw [ca]; decide)]
  rw [if_neg (by rw [ca]; decide)] at hq
  rcases Bool.eq_false_or_eq_true z.has with cb | cb
  case inr =>
   rw [if_pos (by rw [cb]; rfl)]
   rw [if_pos cb] at hq
   rw [ca] at hq; exact hq
  rw [if_neg (by rw [cb]; decide)]
  rw [if_neg (by rw [cb]; decide)] at hq
  rcases Bool.eq_false_or_eq_true x.has with co | co
  case inr =>
   rw [if_pos (by rw [co]; rfl)]
   rw [if_pos co] at hq
   rw [ca] at hq; exact hq
  rw [if_neg (by rw [co]; decide)]
  rw [if_neg (by rw [co]; decide)] at hq
  obtain ⟨fx, ix⟩ := to_.has co; obtain ⟨fy, iy⟩ := ta_.has ca; obtain ⟨fz, iz⟩ := tb_.has cb
  exact F95.law _ _ _ _ fx fy fz hq
theorem F102.law (o a b : List Feat) (Q : List Feat → List Clash → Bool → Prop) (ho : sheetOk o = true) (ha : sheetOk a = true) (hb : sheetOk b = true) (h1 : bulk o ≤ 1048576) (h2 : bulk a ≤ 1048576) (h3 : bulk b ≤ 1048576)
  (hq : Q (joinFs o a b (ids3 o a b)) (joinCs o a b (ids3 o a b)) (sheetOk (joinFs o a b (ids3 o a b)))) : F102.E o a b Q := by
 unfold F102.E
 have so := sheet_ss ho; have sa := sheet_ss ha; have sb := sheet_ss hb
 refine F122.law _ _ _ _ OM OM OM so.1 ?_
 have hlen := ids3_len ho ha hb
 refine ⟨fun fs cs l i => ∃ u : Nat, i = u ∧ u ≤ (ids3 o a b).length ∧ l = ids3 o a b ∧ cs = joinCs o a b ((ids3 o a b).take u) ∧ fs = joinFs o a b ((ids3 o a b).take u), fun _ _ _ i => ((ids3 o a b).length - i).toNat, ⟨0, rfl, Nat.zero_le _, rfl, rfl, rfl⟩, ?_⟩
 rintro _ _ _ _ ⟨u, rfl, hu, rfl, rfl, rfl⟩
 by_cases h : u < (ids3 o a b).length
 ·rw [if_pos (by simpa using h)]
  have ec := joinCs_snoc o a b ((ids3 o a b).take u) (nth (ids3 o a b) (u : Int))
  have ef := joinFs_snoc o a b ((ids3 o a b).take u) (nth (ids3 o a b) (u : Int))
  rw [← take_nth _ h] at ec ef
  have hcl := joinCs_len ho ha hb ((ids3 o a b).take u)
  have hfl := joinFs_len o a b ((ids3 o a b).take u)
  rw [List.length_take] at hcl hfl
  have hw := (oneAt_small ho ha hb (nth (ids3 o a b) (u : Int))).1
  refine ⟨OM, F123.law _ _ _ _ _ ho ha hb h1 h2 h3 ?_⟩
  generalize nth (ids3 o a b) (u : Int) = i at *
  have inner : ∀ fs : List Feat, fs = joinFs o a b ((ids3 o a b).take (u + 1)) → ∃ (I : List Clash → Int → Prop) (mu : List Clash → Int → Nat), I (joinCs o a b ((ids3 o a b).take u)) 0 ∧ ∀ (xs : List Clash) (k : Int), I xs k →
    (if decide (k < ((oneAt o a b i).2.length : Int)) = true then ((0 : Int) ≤ (u : Int) ∧ (u : Int) < ((ids3 o a b).length : Int)) ∧ ((0 : Int) ≤ k ∧ k < ((oneAt o a b i).2.length : Int)) ∧ (xs.length + ([(⟨i, (nth (oneAt o a b i).2 k)⟩ : Clash)] : List Clash).length ≤ 268435456) ∧ (-9223372036854775808 ≤ k) ∧ I (xs ++ ([(⟨i, (nth (oneAt o a b i).2 k)⟩ : Clash)] : List Clash)) (k + 1) ∧ mu (xs ++ ([(⟨i, (nth (oneAt o a b i).2 k)⟩ : Clash)] : List Clash)) (k + 1) < mu xs k
    else (((oneAt o a b i).2.length : Int) ≤ 9223372036854775807 → I64 ((u : Int) + 1)) ∧ (∃ v : Nat, (u : Int) + 1 = v ∧ v ≤ (ids3 o a b).length ∧ ids3 o a b = ids3 o a b ∧ xs = joinCs o a b ((ids3 o a b).take v) ∧ fs = joinFs o a b ((ids3 o a b).take v)) ∧ ((ids3 o a b).length - ((u : Int) + 1)).toNat < ((ids3 o a b).length - (u : Int)).toNat) := fun fs hfs => by
   generalize (oneAt o a b i).2 = W at *
   refine ⟨fun xs k => ∃ v : Nat, k = v ∧ v ≤ W.length ∧ xs = joinCs o a b ((ids3 o a b).take u) ++ clashAtL i (W.take v), fun _ k => (W.length - k).toNat, ⟨0, rfl, Nat.zero_le _, by simp [clashAtL]⟩, ?_⟩
   rintro _ _ ⟨v, rfl, hv, rfl⟩
   have hwl : (clashAtL i (W.take v)).length ≤ v := by unfold clashAtL; simp; omega
   by_cases g : v < W.length
   ·rw [if_pos (by simpa using g)]
    refine ⟨OM, OM, by simp only [List.length_append, List.length_cons, List.length_nil]; omega, OM, ⟨v + 1, OM, OM, ?_⟩, by dsimp only; omega⟩
    rw [take_nth _ g]; unfold clashAtL; rw [List.map_append, List.append_assoc]; rfl
   ·rw [if_neg (by simpa using g)]
    have : v = W.length := by omega
    subst this
    rw [List.take_length]
    exact ⟨fun _ => by unfold I64; omega, ⟨u + 1, OM, OM, rfl, ec.symm, hfs⟩, OM⟩
  rcases Bool.eq_false_or_eq_true (oneAt o a b i).1.has with c | c
  ·rw [if_pos c]
   exact ⟨by simp only [List.length_cons, List.length_nil]; omega, inner _ (by rw [ef, if_pos c])⟩
  ·rw [if_neg (by rw [c]; decide)]
   exact inner _ (by rw [ef, if_neg (by rw [c]; decide), List.append_nil])
 rw [if_neg (by simpa using h)]
 have : u = (ids3 o a b).length := by omega
 subst this
 rw [List.take_length]
 have hs := joinFs_small ho ha hb (ids3 o a b)
 exact F101.law _ _ OM (F76.law _ _ hq)
theorem F42.law (o a b : List Feat) (Q : List Feat → List Clash → Bool → Prop) (h1 : bulk o ≤ 1048576) (h2 : bulk a ≤ 1048576) (h3 : bulk b ≤ 1048576) (hq : Q (sheetJoin o a b).1 (sheetJoin o a b).2.1 (sheetJoin o a b).2.2) : F42.E o a b Q := by
 unfold F42.E
 unfold sheetJoin at hq
 have zq : (sheetOk o && sheetOk a && sheetOk b) = false → Q [] [] false := fun h => by rw [h, if_neg RD] at hq; exact hq
 refine F76.law _ _ ?_
 cases ko : sheetOk o with
 | false => rw [if_pos RD]; exact zq (by rw [ko]; rfl)
 | true =>
 rw [if_neg RD]
 refine F76.law _ _ ?_
 cases ka : sheetOk a with
 | false => rw [if_pos RD]; exact zq (by rw [ko, ka]; rfl)
 | true =>
 rw [if_neg RD]
 refine F76.law _ _ ?_
 cases kb : sheetOk b with
 | false => rw [if_pos RD]; exact zq (by rw [ko, ka, kb]; rfl)
 | true =>
 rw [if_neg RD]
 rw [ko, ka, kb, if_pos RD] at hq
 refine F102.law _ _ _ _ ko ka kb h1 h2 h3 ?_
 cases kj : sheetOk (joinFs o a b (ids3 o a b)) with
 | true => rw [if_neg RD]; rw [kj, if_pos rfl] at hq; exact hq
 | false => rw [if_pos RD]; rw [kj, if_neg RD] at hq; exact hq
def F47.E (a b : List Clash) (Q : Bool → Prop) : Prop :=
 (if (a.length : Int) != (b.length : Int) then Q false else (∃ (I32 : Int → Prop) (mu33 : Int → Nat), I32 0 ∧ ∀ (i2 : Int), I32 i2 → (if decide (i2 < (a.length : Int)) then ((0 : Int) ≤ i2 ∧ i2 < (a.length : Int)) ∧ ((0 : Int) ≤ i2 ∧ i2 < (b.length : Int)) ∧ (if !(eqClash (nth a i2) (nth b i2)) then Q false else (-9223372036854775808 ≤ i2) ∧ I32 (i2 + 1) ∧ mu33 (i2 + 1) < mu33 i2) else Q true)))
theorem F47.law (a b : List Clash) (Q : Bool → Prop) (hq : Q (decide (a = b))) : F47.E a b Q := by
 unfold F47.E
 exact eqS_shape eqClash eqClash_is a b Q hq
theorem F10.law (a b : List Clash) (Q : Bool → Prop) (hb : a.length ≤ 1048576) (hq : Q (decide (a = b))) : F10.E a b Q := by
 unfold F10.E
 exact eqI_shape eqClash eqClash_is a b Q hb hq
theorem F43.law (a b : List Clash) (Q : Bool → Prop) (hb : a.length ≤ 1048576) (hq : Q (decide (a = b))) : F43.E a b Q := by
 unfold F43.E
 exact F10.law _ _ _ hb hq
theorem F24.law (c : Change) (Q : Bool → Prop) (hb : bulk c ≤ 1048576) (hq : Q (sameC c)) : F24.E c Q := by
 unfold F24.E
 unfold sameC at hq
 have b1 : bulk c = bulk c.Id + bulk c.Had + bulk c.Was + bulk c.Has + bulk c.Now := rfl
 have b2 : bulk c.Was = bulk c.Was.Id + bulk c.Was.Shape + bulk c.Was.Tags := rfl
 have b3 : bulk c.Was.Shape = bulk c.Was.Shape.Kind + bulk c.Was.Shape.Pts := rfl
 have l1 := bulk_len c.Was.Tags; have l2 := bulk_len c.Was.Shape.Pts
 by_cases h : c.Had = c.Has
 ·rw [if_pos (by rw [beq_iff_eq]; exact h)]
  rw [decide_eq_true h, Bool.true_and] at hq
  exact F55.law _ _ _ OM hq
 ·rw [if_neg (by rw [beq_iff_eq]; exact h)]
  rw [decide_eq_false h] at hq; exact hq
theorem F104.law (a b : List Feat) (Q : List Change → Prop) (ha : bulk a ≤ 1048576) (hb : bulk b ≤ 1048576) (hq : Q (diffOf a b)) : F104.E a b Q := by
 unfold F104.E
 unfold diffOf at hq
 refine F74.law _ _ ha ?_
 cases ka : sheetOk a with
 | false => rw [if_pos RD]; rw [ka, Bool.false_and, if_neg RD] at hq; exact hq
 | true =>
  rw [if_neg RD]
  refine F74.law _ _ hb ?_
  cases kb : sheetOk b with
  | false => rw [if_pos RD]; rw [ka, kb, if_neg RD] at hq; exact hq
  | true =>
   rw [if_neg RD]
   rw [ka, kb, if_pos RD] at hq
   have la := (sheet_ss ka).2.1
   have lb := (sheet_ss kb).2.1
   have e : idsAll [a, b] = ids a ++ ids b := by unfold idsAll; simp
   have l3 : (ids a ++ ids b).length = a.length + b.length := by unfold ids; simp
   refine F120.law _ _ (by simp) (by rw [e]; omega) (fun s hs => by
    simp only [List.mem_cons, List.not_mem_nil, or_false] at hs
    rcases hs with rfl | rfl <;> omega) ?_
   rw [e]
   have l2 := uniq_len (ids a ++ ids b)
   refine ⟨fun xs i => ∃ u : Nat, i = u ∧ u ≤ (uniq (ids a ++ ids b)).length ∧ xs = diffL a b ((uniq (ids a ++ ids b)).take u), fun _ i => ((uniq (ids a ++ ids b)).length - i).toNat, ⟨0, rfl, Nat.zero_le _, rfl⟩, ?_⟩
   rintro _ _ ⟨u, rfl, hu, rfl⟩
   by_cases h : u < (uniq (ids a ++ ids b)).length
   ·rw [if_pos (by simpa using h)]
    have hm := List.mem_append.1 (uniq_mem.1 (nth_mem _ h))
    have hs := diffC_small ka kb hm
    have hd := diffL_len a b ((uniq (ids a ++ ids b)).take u)
    rw [List.length_take] at hd
    have en := diffL_snoc a b ((uniq (ids a ++ ids b)).take u) (nth (uniq (ids a ++ ids b)) (u : Int))
    rw [← take_nth _ h] at en
    refine ⟨OM, F129.law _ _ _ ha (F129.law _ _ _ hb (F24.law _ _ (by exact Nat.le_trans hs RD) ?_))⟩
    show (if (!(sameC (diffC a b (nth (uniq (ids a ++ ids b)) (u : Int))))) = true then _ else _)
    cases k : sameC (diffC a b (nth (uniq (ids a ++ ids b)) (u : Int))) with
    | false =>
     rw [k] at en
     rw [if_pos RD]
     exact ⟨by simp only [List.length_cons, List.length_nil]; omega, by unfold I64; omega, ⟨u + 1, OM, OM, en.symm⟩, by dsimp only; omega⟩
    | true =>
     rw [k] at en
     rw [if_neg RD]
     exact ⟨by unfold I64; omega, ⟨u + 1, OM, OM, by rw [en]; simp⟩, by dsimp only; omega⟩
   ·rw [if_neg (by simpa using h)]
    have : u = (uniq (ids a ++ ids b)).length := by omega
    subst this
    rw [List.take_length]; exact hq
theorem F105.law (f : Feat) (Q : Bool → Prop) (hq : Q (noF f)) : F105.E f Q := by
 unfold F105.E
 obtain ⟨i, ⟨k, p⟩, t⟩ := f
 unfold noF at hq
 dsimp only
 have e : decide ((⟨i, ⟨k, p⟩, t⟩ : Feat) = ⟨[], ⟨0, []⟩, []⟩) = (decide (i = []) && decide (k = 0) && decide (p = []) && decide (t = [])) := by
  rw [Bool.eq_iff_iff]; simp [and_assoc]
 rw [e] at hq
 cases h1 : decide (i = []) with
 | false => rw [h1] at hq; rw [if_neg (by rw [beq_iff_eq]; exact of_decide_eq_false h1)]; exact hq
 | true =>
  rw [if_pos (by rw [beq_iff_eq]; exact of_decide_eq_true h1)]
  cases h2 : decide (k = 0) with
  | false => rw [h1, h2] at hq; rw [if_neg (by rw [beq_iff_eq]; exact of_decide_eq_false h2)]; exact hq
  | true =>
   rw [if_pos (by rw [beq_iff_eq]; exact of_decide_eq_true h2)]
   cases h3 : decide (p = []) with
   | false => rw [h1, h2, h3] at hq; rw [if_neg (by rw [beq_iff_eq]; have := of_decide_eq_false h3; intro e; exact this (List.length_eq_zero_iff.1 OM))]; exact hq
   | true =>
    rw [if_pos (by rw [beq_iff_eq, of_decide_eq_true h3]; rfl)]
    rw [h1, h2, h3] at hq
    have : ((t.length : Int) == 0) = decide (t = []) := by
     rw [Bool.eq_iff_iff, beq_iff_eq, decide_eq_true_eq]
     exact ⟨fun e => List.length_eq_zero_iff.1 OM, fun e => by rw [e]; rfl⟩
    rw [this]; exact hq
theorem F106.law (id : Str) (has : Bool) (f : Feat) (Q : Bool → Prop) (hb : bulk f ≤ 1048576) (hq : Q (sideOk id has f)) : F106.E id has f Q := by
 unfold F106.E
 unfold sideOk at hq
 cases has with
 | false => rw [if_pos RD]; rw [if_neg RD] at hq; exact F105.law _ _ hq
 | true =>
  rw [if_neg RD]; rw [if_pos rfl] at hq
  refine F90.law _ _ hb ?_
  cases h : featOk f with
  | false => rw [h] at hq; rw [if_neg RD]; exact hq
  | true =>
   rw [h, Bool.true_and] at hq; rw [if_pos rfl]
   have : (f.Id == id) = decide (f.Id = id) := by rw [Bool.eq_iff_iff, beq_iff_eq, decide_eq_true_eq]
   rw [this]; exact hq
theorem F107.law (d : List Change) (Q : Bool → Prop) (hb : bulk d ≤ 1048576) (hq : Q (diffOk d)) : F107.E d Q := by
 unfold F107.E
 unfold diffOk at hq
 have hl := bulk_len d
 refine loop_all d.length (fun k => changeOk (nth d (k : Int)) && (decide (k = 0) || Op.bytesLess (nth d ((k : Int) - 1)).Id (nth d (k : Int)).Id)) (fun I mu k hk hp hn => ?_) (fun ha => ?_)
 ·have bad : (changeOk (nth d (k : Int)) && (decide (k = 0) || Op.bytesLess (nth d ((k : Int) - 1)).Id (nth d (k : Int)).Id)) = false → Q false := fun h => by
   rw [allN_false hk h, Bool.false_and] at hq; exact hq
  have m1 := bulk_mem (nth_mem d hk)
  have b1 : bulk (nth d (k : Int)) = bulk (nth d (k : Int)).Id + bulk (nth d (k : Int)).Had + bulk (nth d (k : Int)).Was + bulk (nth d (k : Int)).Has + bulk (nth d (k : Int)).Now := rfl
  have l1 := bulk_len (nth d (k : Int)).Id
  generalize hc : nth d (k : Int) = c at *
  refine ⟨OM, _, F89.law _ _ OM rfl, ?_⟩
  have co : ∀ a b e g : Bool, wordOk c.Id = a → sideOk c.Id c.Had c.Was = b → sideOk c.Id c.Has c.Now = e → sameC c = g → changeOk c = (a && b && e && !g) := fun a b e g h1 h2 h3 h4 => by unfold changeOk; rw [h1, h2, h3, h4]
  have rest : wordOk c.Id = true → (decide (k = 0) || Op.bytesLess (nth d ((k : Int) - 1)).Id c.Id) = true →
    (∃ q : Bool, F106.E c.Id c.Had c.Was (fun x => x = q) ∧ (if !q then Q false else (∃ q2 : Bool, F106.E c.Id c.Has c.Now (fun x => x = q2) ∧ (if !q2 then Q false else (∃ q3 : Bool, F24.E c (fun x => x = q3) ∧ (if q3 then Q false else (I64 ((k : Int) + 1)) ∧ I ((k : Int) + 1) ∧ mu ((k : Int) + 1) < mu (k : Int))))))) := fun h1 ho => by
   refine ⟨_, F106.law _ _ _ _ OM rfl, ?_⟩
   cases h2 : sideOk c.Id c.Had c.Was with
   | false => rw [if_pos RD]; exact bad (by rw [co _ _ _ _ h1 h2 rfl rfl]; rfl)
   | true =>
    rw [if_neg RD]
    refine ⟨_, F106.law _ _ _ _ OM rfl, ?_⟩
    cases h3 : sideOk c.Id c.Has c.Now with
    | false => rw [if_pos RD]; exact bad (by rw [co _ _ _ _ h1 h2 h3 rfl]; rfl)
    | true =>
     rw [if_neg RD]
     refine ⟨_, F24.law _ _ OM rfl, ?_⟩
     cases h4 : sameC c with
     | true => rw [if_pos rfl]; exact bad (by rw [co _ _ _ _ h1 h2 h3 h4]; rfl)
     | false =>
      rw [if_neg RD]
      obtain ⟨i1, i2⟩ := hn (by rw [co _ _ _ _ h1 h2 h3 h4, ho]; rfl)
      exact ⟨by unfold I64; omega, i1, i2⟩
  cases h1 : wordOk c.Id with
  | false => rw [if_pos RD]; exact bad (by rw [co _ _ _ _ h1 rfl rfl rfl]; rfl)
  | true =>
   rw [if_neg RD]
   by_cases hk0 : k = 0
   ·rw [if_neg (by rw [decide_eq_true_eq]; omega)]
    exact rest h1 (by rw [decide_eq_true hk0]; rfl)
   ·rw [if_pos (by rw [decide_eq_true_eq]; omega)]
    refine ⟨by unfold I64; omega, OM, ?_⟩
    cases h3 : Op.bytesLess (nth d ((k : Int) - 1)).Id c.Id with
    | false => rw [if_pos RD]; exact bad (by rw [h3, decide_eq_false hk0]; simp)
    | true => rw [if_neg RD]; exact rest h1 (by rw [h3, Bool.or_true])
 ·rw [allN_true ha, Bool.true_and] at hq
  have e2 : decide ((d.length : Int) ≤ 16) = decide (d.length ≤ 16) := decide_eq_decide.2 OM
  rw [e2]; exact hq
theorem F33.law (s : List Feat) (Q : List Feat → Prop) (hb : bulk s ≤ 1048576) (hq : Q s) : F33.E s Q := by
 unfold F33.E
 have hl := bulk_len s
 refine ⟨fun xs i => ∃ u : Nat, i = u ∧ u ≤ s.length ∧ xs = s.take u, fun _ i => (s.length - i).toNat, ⟨0, rfl, Nat.zero_le _, rfl⟩, ?_⟩
 rintro _ _ ⟨u, rfl, hu, rfl⟩
 by_cases h : u < s.length
 ·rw [if_pos (by simpa using h)]
  have hm := bulk_mem (nth_mem s h)
  refine ⟨OM, F36.law _ _ OM ⟨by simp only [List.length_take, List.length_cons, List.length_nil]; omega, by unfold I64; omega, ⟨u + 1, OM, OM, ?_⟩, by dsimp only; omega⟩⟩
  rw [take_nth s h]
 ·rw [if_neg (by simpa using h)]
  have : u = s.length := by omega
  subst this
  rw [List.take_length]; exact hq
theorem F108.law (s : List Feat) (d : List Change) (Q : List Feat → Bool → Prop) (h1 : bulk s ≤ 1048576) (h2 : bulk d ≤ 1048576) (hq : Q (diffDo s d).1 (diffDo s d).2) : F108.E s d Q := by
 unfold F108.E
 unfold diffDo at hq
 have zq : (sheetOk s && diffOk d && d.all (fits s) && sheetOk (doL s d)) = false → Q [] false := fun h => by rw [h, if_neg RD] at hq; exact hq
 refine F74.law _ _ h1 ?_
 cases ks : sheetOk s with
 | false => rw [if_pos RD]; exact zq (by rw [ks]; rfl)
 | true =>
 rw [if_neg RD]
 refine F107.law _ _ h2 ?_
 cases kd : diffOk d with
 | false => rw [if_pos RD]; exact zq (by rw [ks, kd]; rfl)
 | true =>
 rw [if_neg RD]
 have fs := sheet_fs ks; have dc := diff_cs kd; have ls := (sheet_ss ks).2.1; have ld := dc.2.1
 have nd0 : (ids s).Nodup := (sheet_ss ks).1.imp fun {a b} h e => by rw [e, less_irr] at h; cases h
 refine F33.law _ _ h1 ?_
 refine ⟨fun xs i => ∃ u : Nat, i = u ∧ u ≤ d.length ∧ (ids xs).Nodup ∧ xs.length ≤ s.length + u ∧ (∀ f, f ∈ xs ↔ Mem s (d.take u) f) ∧ ∀ c ∈ d.take u, fits s c = true, fun _ i => (d.length - i).toNat, ⟨0, rfl, Nat.zero_le _, nd0, OM, fun f => (Mem.zero s d f).symm, by simp⟩, ?_⟩
 rintro xs _ ⟨u, rfl, hu, g1, g2, g3, g4⟩
 by_cases h : u < d.length
 ·rw [if_pos (by simpa using h)]
  have hm : nth d (u : Int) ∈ d := nth_mem d h
  have hb := change_small (dc.2.2 _ hm)
  have st := fun f => Mem.step (s := s) h dc.1 dc.2.2 f
  have bad : fits s (nth d (u : Int)) = false → Q [] false := fun kf => zq (by
   have : d.all (fits s) = false := by
    rw [List.all_eq_false]; exact ⟨_, hm, by rw [kf]; decide⟩
   rw [this]; simp)
  have sb := sideOf_small ks (nth d (u : Int)).Id
  have sb2 : (sideOf s (nth d (u : Int)).Id).1.Shape.Pts.length ≤ 1048576 ∧ (sideOf s (nth d (u : Int)).Id).1.Tags.length ≤ 1048576 := by
   have e := bulk_feat (sideOf s (nth d (u : Int)).Id).1
   have e2 := bulk_len (sideOf s (nth d (u : Int)).Id).1.Tags
   have e3 := bulk_len (sideOf s (nth d (u : Int)).Id).1.Shape.Pts
   omega
  refine ⟨OM, F129.law _ _ _ h1 ?_⟩
  by_cases k1 : (sideOf s (nth d (u : Int)).Id).2 = (nth d (u : Int)).Had
  case neg => rw [if_pos (by rw [bne_iff_ne]; exact k1)]; exact bad (by unfold fits; rw [decide_eq_false k1]; rfl)
  rw [if_neg (by rw [k1]; simp)]
  refine F55.law _ _ _ sb2 ?_
  by_cases k2 : (sideOf s (nth d (u : Int)).Id).1 = (nth d (u : Int)).Was
  case neg => rw [decide_eq_false k2, if_pos RD]; exact bad (by unfold fits; rw [decide_eq_false k2, Bool.and_false])
  rw [decide_eq_true k2, if_neg RD]
  have kf : fits s (nth d (u : Int)) = true := by unfold fits; rw [decide_eq_true k1, decide_eq_true k2]; rfl
  have g4' : ∀ c ∈ d.take (u + 1), fits s c = true := fun c hc => by
   rw [take_nth d h] at hc
   rcases List.mem_append.1 hc with hc | hc
   ·exact g4 c hc
   ·rw [List.mem_singleton.1 hc]; exact kf
  -- what follows when the name is gone
  have fin : ∀ ys : List Feat, (ids ys).Nodup → (∀ f, f ∈ ys ↔ f ∈ xs ∧ f.Id ≠ (nth d (u : Int)).Id) → ys.length ≤ xs.length →
    (if (nth d (u : Int)).Has = true then F36.E (nth d (u : Int)).Now (fun r => (ys.length + ([r] : List Feat).length ≤ 268435456) ∧ (I64 ((u : Int) + 1)) ∧ (∃ v : Nat, (u : Int) + 1 = v ∧ v ≤ d.length ∧ (ids (ys ++ [r])).Nodup ∧ (ys ++ [r]).length ≤ s.length + v ∧ (∀ f, f ∈ ys ++ [r] ↔ Mem s (d.take v) f) ∧ ∀ c ∈ d.take v, fits s c = true) ∧ (d.length - ((u : Int) + 1)).toNat < (d.length - (u : Int)).toNat)
    else (I64 ((u : Int) + 1)) ∧ (∃ v : Nat, (u : Int) + 1 = v ∧ v ≤ d.length ∧ (ids ys).Nodup ∧ ys.length ≤ s.length + v ∧ (∀ f, f ∈ ys ↔ Mem s (d.take v) f) ∧ ∀ c ∈ d.take v, fits s c = true) ∧ (d.length - ((u : Int) + 1)).toNat < (d.length - (u : Int)).toNat) := fun ys n1 n2 n3 => by
   split
   ·rename_i kh
    have hid := (now_id dc.2.2 hm kh).1
    refine F36.law _ _ OM ⟨by simp only [List.length_cons, List.length_nil]; omega, by unfold I64; omega, ⟨u + 1, OM, OM, ?_, by simp only [List.length_append, List.length_cons, List.length_nil]; omega, fun f => ?_, g4'⟩, OM⟩
    ·rw [ids_app]
     refine List.nodup_append.2 ⟨n1, by simp [ids], fun a ha b hb' => ?_⟩
     have hb' : b = (nth d (u : Int)).Now.Id := List.mem_singleton.1 hb'
     obtain ⟨f, hf, rfl⟩ := List.mem_map.1 ha
     rw [hb', hid]; exact ((n2 f).1 hf).2
    ·rw [List.mem_append, List.mem_singleton, n2, st, g3, kh]
     constructor
     ·rintro (hx | rfl)
      ·exact .inl hx
      ·exact .inr ⟨rfl, rfl⟩
     ·rintro (hx | ⟨_, rfl⟩)
      ·exact .inl hx
      ·exact .inr rfl
   ·rename_i kh
    refine ⟨by unfold I64; omega, ⟨u + 1, OM, OM, n1, OM, fun f => ?_, g4'⟩, OM⟩
    rw [n2, st, g3]
    constructor
    ·exact .inl
    ·rintro (hx | ⟨hx, _⟩)
     ·exact hx
     ·exact absurd hx kh
  refine F97.law _ _ _ OM ?_
  have hle := findN_le xs.length fun j => (nth xs (j : Int)).Id == (nth d (u : Int)).Id
  by_cases k3 : findN xs.length (fun j => (nth xs (j : Int)).Id == (nth d (u : Int)).Id) < 0
  ·rw [if_neg (by rw [decide_eq_true_eq]; omega)]
   refine fin xs g1 (fun f => ⟨fun hf => ⟨hf, fun e => ?_⟩, fun hf => hf.1⟩) (Nat.le_refl _)
   obtain ⟨k, hk, rfl⟩ := List.getElem_of_mem hf
   have := findN_neg k3 k hk
   rw [nth_nat xs hk] at this
   simp [e] at this
  ·obtain ⟨k, hk⟩ : ∃ k : Nat, findN xs.length (fun j => (nth xs (j : Int)).Id == (nth d (u : Int)).Id) = (k : Int) := ⟨_, (Int.toNat_of_nonneg OM).symm⟩
   obtain ⟨q1, q2⟩ := findN_true hk
   rw [hk, if_pos (by rw [decide_eq_true_eq]; omega)]
   have q3 : xs[k].Id = (nth d (u : Int)).Id := by rw [nth_nat xs q1] at q2; simpa using q2
   obtain ⟨m1, m2, m3⟩ := del_mem g1 q1
   unfold F14.E
   refine ⟨by unfold I64; omega, ⟨OM, OM, OM⟩, OM, ?_⟩
   rw [Int.toNat_natCast, show ((k : Int) + 1).toNat = k + 1 by omega]
   exact fin _ m1 (fun f => by rw [m2, q3]) OM
 ·rw [if_neg (by simpa using h)]
  have : u = d.length := by omega
  subst this
  rw [List.take_length] at g3 g4
  unfold F4.E
  refine ⟨OM, fun r hp hs => ?_⟩
  have n1 : (ids r).Nodup := (hp.map Feat.Id).nodup_iff.2 g1
  have g5 : FS r := by
   have h3 := List.Pairwise.and hs (List.pairwise_map.1 n1)
   refine h3.imp fun {a b} hab => ?_
   rcases less_or hab.1 with g | g
   ·exact g
   ·exact absurd g hab.2
  have e : r = doL s d := FS.ext g5 (doL_fs s dc.2.2) fun f => by rw [hp.mem_iff, g3, doL_mem fs dc.1 dc.2.2]
  subst e
  have ka : d.all (fits s) = true := List.all_eq_true.2 g4
  rw [ks, kd, ka] at hq
  have hsm := doL_small ks kd
  refine F74.law _ _ OM ?_
  cases ko : sheetOk (doL s d) with
  | false => rw [if_pos RD]; rw [ko, if_neg RD] at hq; exact hq
  | true =>
   rw [if_neg RD]
   rw [ko, if_pos RD] at hq
   exact F33.law _ _ OM hq
theorem F2.law (a b : List Feat) (el : Feat → Feat → Bool) (ok : Feat → Feat → Prop) (Q : Bool → Prop) (hb : a.length ≤ 1048576) (hok : ∀ x y, x ∈ a → ok x y) (hel : ∀ x y, x ∈ a → el x y = decide (x = y)) (hq : Q (decide (a = b))) : F2.E a b el ok Q := by
 unfold F2.E
 exact eqF_shape a b el ok hok hel hb Q hq
theorem F44.law (a b : List Feat) (Q : Bool → Prop) (hb : bulk a ≤ 1048576) (hq : Q (decide (a = b))) : F44.E a b Q := by
 unfold F44.E
 have hl := bulk_len a
 refine ⟨fun x y => decide (x = y), fun x _ => x ∈ a, fun x y hx => F55.law x y _ ?_ rfl, F2.law a b _ _ _ OM (fun x y hx => hx) (fun _ _ _ => rfl) hq⟩
 have m := bulk_mem hx
 have b1 : bulk x = bulk x.Id + bulk x.Shape + bulk x.Tags := rfl
 have b2 : bulk x.Shape = bulk x.Shape.Kind + bulk x.Shape.Pts := rfl
 have l1 := bulk_len x.Tags; have l2 := bulk_len x.Shape.Pts
 omega
theorem laws_FnSheetDiff.gen (code : List UInt8) (Q : Bool → Prop) (hq : Q true) : laws_FnSheetDiff.E code Q := by
 unfold laws_FnSheetDiff.E
 by_cases c1 : (code.length : Int) > 1048576
 ·rw [if_pos (by simpa using c1)]; exact hq
 rw [if_neg (by simpa using c1)]
 refine F11.law _ _ fun o a b mo ma mb => ?_
 have bo := mo.small; have ba := ma.small; have bb := mb.small
 obtain ⟨s1, s2⟩ := sheetJoin_small o a b
 have cl := bulk_len (sheetJoin o a b).2.1
 refine F41.law _ _ _ _ bo ba bb (F42.law _ _ _ _ bo ba bb ?_)
 refine ⟨fun v => v = !(sheetOk o && sheetOk a && sheetOk b), ?_, ?_⟩
 ·rw [if_neg (by simp)]
  refine F43.law _ _ _ OM ?_
  rw [decide_eq_true rfl, if_neg RD]
  refine F76.law _ _ ?_
  cases ko : sheetOk o with
  | false => rw [if_pos RD]; rfl
  | true =>
  rw [if_neg RD]
  refine F76.law _ _ ?_
  cases ka : sheetOk a with
  | false => rw [if_pos RD]; rfl
  | true =>
  rw [if_neg RD]
  refine F76.law _ _ ?_
  cases kb : sheetOk b <;> rfl
 rintro _ rfl
 cases k0 : sheetOk o && sheetOk a && sheetOk b with
 | false =>
  rw [if_pos RD, if_pos (by simp)]
  exact F43.law _ _ _ OM (by rw [decide_eq_true rfl]; exact hq)
 | true =>
 rw [if_neg RD]
 simp only [Bool.and_eq_true] at k0
 obtain ⟨⟨ko, ka⟩, kb⟩ := k0
 refine F104.law _ _ _ bo ba (F104.law _ _ _ bo bb ?_)
 have sp := diffOf_small o a
 have sq := diffOf_small o b
 have lp := (diff_cs (diffOf_ok ko ka)).2.1
 refine ⟨fun x5 x6 x7 x8 i => x5 = (sheetJoin o a b).1 ∧ x6 = (sheetJoin o a b).2.1 ∧ x7 = diffOf o a ∧ x8 = diffOf o b ∧ ∃ u : Nat, i = u ∧ u ≤ (diffOf o a).length ∧ ∀ j, j < u → ∀ e ∈ diffOf o b, (nth (diffOf o a) (j : Int)).Id ≠ e.Id, fun _ _ _ _ i => (((diffOf o a).length : Int) - i).toNat, ⟨rfl, rfl, rfl, rfl, 0, rfl, Nat.zero_le _, fun j hj => absurd hj (Nat.not_lt_zero _)⟩, ?_⟩
 rintro _ _ _ _ _ ⟨rfl, rfl, rfl, rfl, u, rfl, hu, hall⟩
 by_cases h : u < (diffOf o a).length
 ·rw [if_pos (by simpa using h)]
  refine ⟨fun k => ∃ v : Nat, k = v ∧ v ≤ (diffOf o b).length ∧ ∀ j, j < v → (nth (diffOf o a) (u : Int)).Id ≠ (nth (diffOf o b) (j : Int)).Id, fun k => (((diffOf o b).length : Int) - k).toNat, ⟨0, rfl, Nat.zero_le _, fun j hj => absurd hj (Nat.not_lt_zero _)⟩, ?_⟩
  rintro _ ⟨v, rfl, hv, hin⟩
  by_cases g : v < (diffOf o b).length
  ·rw [if_pos (by simpa using g)]
   refine ⟨OM, OM, ?_⟩
   by_cases e : (nth (diffOf o a) (u : Int)).Id = (nth (diffOf o b) (v : Int)).Id
   ·rw [if_pos (by simpa using e)]; exact hq
   ·rw [if_neg (by simpa using e)]
    refine ⟨OM, ⟨v + 1, OM, OM, fun j hj => ?_⟩, by dsimp only; omega⟩
    by_cases ej : j = v
    ·subst ej; exact e
    ·exact hin j OM
  ·rw [if_neg (by simpa using g)]
   refine ⟨fun _ => by unfold I64; omega, ⟨rfl, rfl, rfl, rfl, u + 1, OM, OM, fun j hj e he => ?_⟩, by dsimp only; omega⟩
   by_cases ej : j = u
   ·subst ej
    obtain ⟨k, hk, rfl⟩ := List.getElem_of_mem he
    have := hin k OM
    rw [nth_nat (diffOf o b) hk] at this; exact this
   ·exact hall j OM e he
 rw [if_neg (by simpa using h)]
 have hd : ∀ c ∈ diffOf o a, ∀ e ∈ diffOf o b, c.Id ≠ e.Id := fun c hc e he => by
  obtain ⟨k, hk, rfl⟩ := List.getElem_of_mem hc
  have := hall k OM e he
  rw [nth_nat (diffOf o a) hk] at this; exact this
 obtain ⟨p1, p2, p3⟩ := diff_join ko ka kb hd
 obtain ⟨q1, q2, q3⟩ := diff_join ko kb ka fun c hc e he => fun x => hd e he c hc x.symm
 have eq : joinFs o b a (ids3 o b a) = joinFs o a b (ids3 o a b) := side_ext (joinFs_fs ko kb ka) (joinFs_fs ko ka kb) fun i => by rw [sideOf_join ko kb ka, sideOf_join ko ka kb, oneAt_turn ko ka kb (p3 i)]
 have kp := diffOf_ok ko ka
 have kq := diffOf_ok ko kb
 have ey : diffDo b (diffOf o a) = if sheetOk (joinFs o a b (ids3 o a b)) then (joinFs o a b (ids3 o a b), true) else ([], false) := by
  unfold diffDo
  rw [kb, kp, show (diffOf o a).all (fits b) = true from List.all_eq_true.2 p2, p1]; rfl
 have ez : diffDo a (diffOf o b) = if sheetOk (joinFs o a b (ids3 o a b)) then (joinFs o a b (ids3 o a b), true) else ([], false) := by
  unfold diffDo
  rw [ka, kq, show (diffOf o b).all (fits a) = true from List.all_eq_true.2 q2, q1, eq]; rfl
 have ex : sheetJoin o a b = if sheetOk (joinFs o a b (ids3 o a b)) then (joinFs o a b (ids3 o a b), [], true) else ([], [], false) := by
  unfold sheetJoin
  rw [ko, ka, kb, joinCs_none p3]; rfl
 refine F108.law _ _ _ bb OM (F108.law _ _ _ ba OM ?_)
 rw [ex] at s1
 rw [ey, ez, ex]
 cases kj : sheetOk (joinFs o a b (ids3 o a b)) with
 | false =>
  rw [if_neg Bool.false_ne_true, if_neg Bool.false_ne_true]
  refine ⟨fun v => v = false, by rw [if_neg RD]; rfl, ?_⟩
  rintro _ rfl
  rw [if_neg RD]
  exact ⟨fun v => v = true, by rw [if_pos RD], fun v hv => by rw [hv]; exact hq⟩
 | true =>
  rw [if_pos rfl, if_pos rfl]
  rw [kj, if_pos rfl] at s1
  refine ⟨fun v => v = false, by rw [if_neg (by simp)]; rfl, ?_⟩
  rintro _ rfl
  rw [if_neg RD]
  refine ⟨fun v => v = true, ?_, fun v hv => by rw [hv]; exact hq⟩
  rw [if_neg (by simp), if_pos (by simp)]
  refine F44.law _ _ _ (Nat.le_trans s1 RD) ?_
  rw [decide_eq_true rfl, if_pos rfl]
  exact F44.law _ _ _ (Nat.le_trans s1 RD) (decide_eq_true rfl)
theorem laws_FnSheetDiff.law (code : List UInt8) (_ : ∀ x ∈ code, True) : laws_FnSheetDiff.E code (fun r => r = true) := laws_FnSheetDiff.gen code _ rfl
end Go.Proofs.YtpdmnmpcjljeaaaGreat
namespace Go.Proofs.YtpdmnmpcjljeaaaGreat.rFnSheetDiff
open Go.ChangeShapes Go.WideShapes Go.ChangeAt Go.RowKit
open Go.ChangeMaps (open_string shut_string)
set_option linter.unusedVariables false
theorem own : ownKnob Tryz.prog.godebug = none := by kernel_rfl
theorem laidOut : laidOutB Tryz.prog = true := by kernel_rfl
set_option maxHeartbeats 4000000 in
set_option maxRecDepth 100000 in
theorem lifted (os : Os) (started : os.Started) (H : Type) (enc : TypeId × Value → H) :
    ReturnsInHanded {} Tryz.checked os 10 .any (Rows.fnSheetDiffSpec.pre6 enc Tryz.prog Tryz.f10 Rows.fnSheetDiffRow.domain false) (Rows.fnSheetDiffSpec.post enc Tryz.prog Tryz.f10 false true false false) := by
  refine returnsInHanded_of_change_sized (C := Tryz.checked) own started (by kernel_rfl) Tryz.func10
    (ChangeSpec.witness6 (enc := enc) (C := Tryz.checked) false ⟨#[], #[.slice none 0 0], []⟩ 8 (by kernel_rfl) (by kernel_rfl) (by kernel_rfl) (by kernel_rfl)) ?_
  intro W base args ds gs before hval0 hW hcnd hsz0 _
  have hval : ∀ (j : Nat) t v, Tryz.f10.params[j]? = some t → args[j]? = some v → Value.okWide Tryz.prog W .any base t v := hval0
  have hW' := hW
  obtain ⟨p, q, hA0, hV, rfl, hfz, hnd⟩ := hW
  have hA : DataW.TrodAll enc Tryz.prog W 0 (fun _ => true) true Tryz.f10.params.toList args.toList ds p := hA0
  rw [Tryz.params10] at hA hval
  obtain ⟨v0, vs0, d0, ds0, p0, q0, hargs, rfl, rfl, h0, r0⟩ := trodAll_cons hA
  obtain ⟨rfl, rfl, rfl⟩ := trodAll_nil r0
  obtain rfl : args = #[v0] := by cases args; simp_all
  obtain ⟨rfl, rfl⟩ := trodVars_none hV
  have k0 := h0
  have lt0 : ∀ x ∈ p0, x.block < W.heap.size := by obtain ⟨m, hm⟩ := k0; exact DataW.trod_lt m _ _ _ hm
  obtain ⟨x0, hv0, hx0⟩ : ∃ a : List UInt8, (∀ y0 ∈ a, True) ∧ (Kd.sl Kd.byte).R W (Fr []) a v0.cells.toList := by obtain ⟨fuel, hf⟩ := h0; exact (Tr.sl Tryz.underlying22 (by kernel_rfl) (Tr.byte Tryz.underlying5)) H enc W fuel _ _ hf
  obtain ⟨a0, n0, c0, rfl⟩ := okWide_slice Tryz.underlying22 (hval 0 22 v0 rfl rfl)
  have s0 : Sl Kd.byte W (Fr []) (.slice a0 n0 c0) x0 := by obtain ⟨_, e, h⟩ := hx0; simp [Value.cells] at e; subst e; exact h
  clear hA0 hval0 hsz0
  refine Calls.mono (laws_FnSheetDiff.calls W (Ok.nil W) x0 a0 n0 c0 s0 (fun r => r = true) (laws_FnSheetDiff.law x0 hv0)) fun e W' ⟨v, he, r, hr, hq, hg⟩ => ?_
  subst he; subst hr; subst hq
  have bel := Gr.below hg
  exact ⟨_, rfl, _, _, _, [], _, [], hW', trodAll_mk1 (shut_bool Tryz.underlying4 _), (trodAll_cons_mk (Below.trod laidOut (by kernel_rfl) (of_decide_eq_true (by kernel_rfl)) k0 bel lt0) trodAll_mk0), rfl, bel.frame _, fun h => by cases h⟩
theorem over : Rows.fnSheetDiffRow.holds Tryz.pinned (OpenSpec.ofChange Rows.fnSheetDiffSpec) :=
  OpenClaim.holds_of_wide 10 Tryz.f10 rfl rfl rfl rfl rfl rfl rfl ⟨rfl, rfl, rfl, rfl, rfl⟩ rfl rfl rfl rfl rfl (by kernel_rfl) Tryz.func10 (by kernel_rfl)
    (of_decide_eq_true (by kernel_rfl)) (by unfold Func.isWrapper; first | (rw [if_pos (by decide +kernel)]; kernel_rfl) | (rw [if_neg (by decide +kernel)]; exact ⟨rfl, rfl⟩))
    (fun os started H enc _ => lifted os started H enc)
theorem proved : Rows.FnSheetDiffSaid := over
#print axioms proved
end Go.Proofs.YtpdmnmpcjljeaaaGreat.rFnSheetDiff
namespace Go.Proofs.YtpdmnmpcjljeaaaGreat
theorem fnSheetDiff_holds : Rows.FnSheetDiffSaid := rFnSheetDiff.proved
end Go.Proofs.YtpdmnmpcjljeaaaGreat