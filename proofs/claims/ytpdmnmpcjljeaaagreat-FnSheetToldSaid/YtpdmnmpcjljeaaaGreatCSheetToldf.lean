/- It is proved here that the law FnSheetTold of the given program holds whatever it is handed: the walks through the code, the plain laws and the row, in this order.
   Conditions: none. -/
import Derived.Below
import Derived.ChangeArms
import Derived.ChangeOld
import Derived.ChangeSlices
import Derived.DataReads
import Derived.Deep.Quiet
import Derived.KernelRfl
import Derived.Laws.Build
import Derived.Laws.IdiomStrings
import Derived.Laws.OwnMore
import Derived.Laws.Slices
import Derived.Laws.Strings2
import Derived.Laws.StructEq
import Derived.OpenShut
import Derived.ProofKit
import Derived.Shelf.Slices.Cells
import Derived.Shelf.Slices.CompactS
import Derived.Shelf.Slices.In.SortNone
import Derived.Shelf.Small.Bits
import Derived.Shelf.Sort.Plain
import Derived.Shelf.Strconv.Itoa0
import Derived.ShutString
import Derived.SizedLaws
import Derived.StillTail
import Derived.Test.YtpdmnmpcjljeaaaGreatProg
import Derived.Test.YtpdmnmpcjljeaaaGreatRows
import Derived.WalkKit
import Derived.Test.YtpdmnmpcjljeaaaGreatCSheetTolda
import Derived.Test.YtpdmnmpcjljeaaaGreatCSheetToldb
import Derived.Test.YtpdmnmpcjljeaaaGreatCSheetToldc
import Derived.Test.YtpdmnmpcjljeaaaGreatCSheetToldd
import Derived.Test.YtpdmnmpcjljeaaaGreatCSheetTolde
namespace Go.Proofs.YtpdmnmpcjljeaaaGreat
set_option linter.unusedVariables false
set_option linter.unusedSimpArgs false
set_option linter.unusedSectionVars false
set_option maxHeartbeats 8000000
set_option maxRecDepth 100000
open Go.RowKit
variable {O : Ob} {w0 : World}
theorem value.ext_iff' (a b : value) : a = b ↔ a.has = b.has ∧ a.val = b.val := by cases a; cases b; simp
def tagE (o a b : value) (Q : Str → Bool → Bool → Prop) : Prop :=
 if a = o then Q b.val b.has true else if b = o then Q a.val a.has true else if a = b then Q a.val a.has true else if a.has then Q a.val true false else Q b.val true false
theorem tagE_of {o a b : value} {Q : Str → Bool → Bool → Prop} (ha : a.has = false → a = ⟨false, []⟩) (hb : b.has = false → b = ⟨false, []⟩) (hq : Q (tagF o a b).1.val (tagF o a b).1.has (tagF o a b).2) : tagE o a b Q := by
 unfold tagE
 unfold tagF three at hq
 by_cases e1 : a = o
 ·rw [if_pos e1]; rw [if_pos e1, if_pos rfl] at hq; exact hq
 ·rw [if_neg e1] at hq ⊢
  by_cases e2 : b = o
  ·rw [if_pos e2]; rw [if_pos e2, if_pos rfl] at hq; exact hq
  ·rw [if_neg e2] at hq ⊢
   by_cases e3 : a = b
   ·rw [if_pos e3]; rw [if_pos e3, if_pos rfl] at hq; exact hq
   ·rw [if_neg e3] at hq ⊢
    rw [if_neg (by simp)] at hq
    cases h : a.has with
    | true => rw [if_pos rfl]; rw [h, if_pos rfl, h] at hq; exact hq
    | false =>
     rw [if_neg RD]; rw [h, if_neg RD] at hq
     cases g : b.has with
     | true => rw [g] at hq; exact hq
     | false => exact absurd ((ha h).trans (hb g).symm) e3
theorem beq_dec {α : Type} [DecidableEq α] [BEq α] [LawfulBEq α] {x y : α} : ((x == y) = true) = (x = y) := by simp
theorem F118.law (o a b : List Tag) (key : Str) (Q : Str → Bool → Bool → Prop) (hq : Q (tagK o a b key).1.val (tagK o a b key).1.has (tagK o a b key).2) : F118.E o a b key Q := by
 unfold F118.E
 refine F117.law _ _ _ (F117.law _ _ _ (F117.law _ _ _ ?_))
 have h := tagE_of (valT_no a key) (valT_no b key) hq
 generalize valT o key = vo at *
 generalize valT a key = va at *
 generalize valT b key = vb at *
 unfold tagE at h
 simp only [value.ext_iff'] at h
 by_cases e1 : va.val = vo.val <;> by_cases e2 : va.has = vo.has <;> by_cases e3 : vb.val = vo.val <;> by_cases e4 : vb.has = vo.has <;> by_cases e5 : va.val = vb.val <;> by_cases e6 : va.has = vb.has <;>
  simp only [beq_dec, e1, e2, e3, e4, e5, e6, if_true, if_false, and_self, and_true, and_false, false_and, true_and] at h ⊢ <;> first | exact h | simp_all
theorem F94.law (o a b : List Tag) (Q : List Str → Prop) (h1 : o.length ≤ 100) (h2 : a.length ≤ 100) (h3 : b.length ≤ 100) (hq : Q (uniq (keysT (o ++ a ++ b)))) : F94.E o a b Q := by
 unfold F94.E
 rw [List.nil_append]
 refine ⟨by simp only [List.length_nil]; omega, OM, by simp only [List.length_append]; omega, ?_⟩
 have hl : (o ++ a ++ b).length ≤ 300 := by simp only [List.length_append]; omega
 generalize o ++ a ++ b = l at *
 refine ⟨fun s i => ∃ u : Nat, i = u ∧ u ≤ l.length ∧ SS (keysT s) ∧ (∀ x, x ∈ keysT s ↔ x ∈ keysT (l.take u)) ∧ s.length ≤ u, fun _ i => (l.length - i).toNat, ⟨0, rfl, Nat.zero_le _, by simp [keysT, SS], by simp [keysT], by simp⟩, ?_⟩
 rintro s _ ⟨u, rfl, hu, g1, g2, g3⟩
 by_cases h : u < l.length
 ·rw [if_pos (by simpa using h)]
  refine ⟨OM, F114.law _ _ _ _ OM g1 fun r r1 r2 r3 _ => ⟨OM, ⟨u + 1, OM, OM, r1, fun x => ?_, OM⟩, by dsimp only; omega⟩⟩
  rw [r2, g2, keys_take h, List.mem_append, List.mem_singleton]
 ·rw [if_neg (by simpa using h)]
  have : u = l.length := by omega
  subst this
  rw [List.take_length] at g2
  have e : keysT s = uniq (keysT l) := SS.ext g1 (uniq_ss _) fun x => by rw [g2, uniq_mem]
  rw [← e] at hq
  refine ⟨fun xs i => ∃ v : Nat, i = v ∧ v ≤ s.length ∧ xs = keysT (s.take v), fun _ i => (s.length - i).toNat, ⟨0, rfl, Nat.zero_le _, rfl⟩, ?_⟩
  rintro _ _ ⟨v, rfl, hv, rfl⟩
  have hil : (keysT (s.take v)).length ≤ v := by unfold keysT; simp; omega
  by_cases g : v < s.length
  ·rw [if_pos (by simpa using g)]
   refine ⟨OM, by simp only [List.length_cons, List.length_nil]; omega, OM, ⟨v + 1, OM, OM, ?_⟩, by dsimp only; omega⟩
   rw [keys_take g]
  ·rw [if_neg (by simpa using g)]
   have : v = s.length := by omega
   subst this
   rw [List.take_length]; exact hq
theorem F95.law (o a b : Feat) (Q : Feat → List Str → Prop) (ko : featOk o = true) (ka : featOk a = true) (kb : featOk b = true) (hq : Q (joinOf o a b).1 (joinOf o a b).2) : F95.E o a b Q := by
 unfold F95.E
 have fo := feat_facts ko; have fa := feat_facts ka; have fb := feat_facts kb
 have so := fo.2.2.1; have sa := fa.2.2.1; have sb := fb.2.2.1
 refine F71.law _ _ _ _ so sa sb ?_
 refine ⟨fun xs => xs = (if (shapeF o.Shape a.Shape b.Shape).2 then [] else [shapeS]), ?_, ?_⟩
 ·cases c : (shapeF o.Shape a.Shape b.Shape).2 with
  | true => rw [if_neg RD, if_pos rfl]
  | false => rw [if_pos RD, if_neg RD]; exact ⟨by decide, rfl⟩
 rintro _ rfl
 have hpts := shapeF_pts (o := o.Shape) sa sb
 unfold F79.E
 refine ⟨by simp only [List.length_nil]; omega, ?_⟩
 rw [List.nil_append]
 refine F94.law _ _ _ _ OM OM OM ?_
 obtain ⟨ks1, ks2⟩ := allKeys_small ko ka kb
 have ek : uniq (keysT (o.Tags ++ a.Tags ++ b.Tags)) = allKeys o a b := rfl
 rw [ek]
 refine ⟨fun xs i ts => ∃ u : Nat, i = u ∧ u ≤ (allKeys o a b).length ∧ xs = (if (shapeF o.Shape a.Shape b.Shape).2 then [] else [shapeS]) ++ clashL o.Tags a.Tags b.Tags ((allKeys o a b).take u) ∧ ts = tagsL o.Tags a.Tags b.Tags ((allKeys o a b).take u), fun _ i _ => ((allKeys o a b).length - i).toNat, ⟨0, rfl, Nat.zero_le _, by simp [clashL], by simp [tagsL]⟩, ?_⟩
 rintro _ _ _ ⟨u, rfl, hu, rfl, rfl⟩
 have hpre : (if (shapeF o.Shape a.Shape b.Shape).2 then ([] : List Str) else [shapeS]).length ≤ 1 := by split <;> decide
 by_cases h : u < (allKeys o a b).length
 ·rw [if_pos (by simpa using h)]
  have hk6 := ks2 _ (nth_mem _ h)
  have hcl := clashL_len o.Tags a.Tags b.Tags ((allKeys o a b).take u)
  have htl := tagsL_len o.Tags a.Tags b.Tags ((allKeys o a b).take u)
  rw [List.length_take] at hcl htl
  refine ⟨OM, F118.law _ _ _ _ _ ?_⟩
  have ec := clashL_snoc o.Tags a.Tags b.Tags ((allKeys o a b).take u) (nth (allKeys o a b) (u : Int))
  have et := tagsL_snoc o.Tags a.Tags b.Tags ((allKeys o a b).take u) (nth (allKeys o a b) (u : Int))
  rw [← take_nth _ h] at ec et
  refine ⟨fun xs => xs = (if (shapeF o.Shape a.Shape b.Shape).2 then [] else [shapeS]) ++ clashL o.Tags a.Tags b.Tags ((allKeys o a b).take (u + 1)), ?_, ?_⟩
  ·rw [ec]
   cases c : (tagK o.Tags a.Tags b.Tags (nth (allKeys o a b) (u : Int))).2 with
   | true => rw [if_neg RD, if_pos rfl, List.append_nil]
   | false =>
    rw [if_pos RD]
    simp only [Bool.false_eq_true, if_false]
    exact ⟨OM, by simp only [List.length_cons, List.length_nil]; omega, by simp only [List.length_append, List.length_cons, List.length_nil]; omega, by rw [List.append_assoc]; rfl⟩
  ·rintro _ rfl
   refine ⟨fun ts => ts = tagsL o.Tags a.Tags b.Tags ((allKeys o a b).take (u + 1)), ?_, ?_⟩
   ·rw [et]
    split
    ·exact ⟨OM, by simp only [List.length_cons, List.length_nil]; omega, rfl⟩
    ·rw [List.append_nil]
   ·rintro _ rfl
    exact ⟨by unfold I64; omega, ⟨u + 1, OM, OM, rfl, rfl⟩, by dsimp only; omega⟩
 rw [if_neg (by simpa using h)]
 have : u = (allKeys o a b).length := by omega
 subst this
 rw [List.take_length]
 unfold joinOf at hq
 show F84.E (joinF o a b) _
 refine F84.law _ _ ?_
 cases kj : featOk (joinF o a b) with
 | true =>
  rw [if_neg RD]
  rw [kj, if_pos rfl] at hq
  exact hq
 | false =>
  rw [if_pos RD]
  rw [kj, if_neg RD] at hq
  exact F80.law _ _ (by have := (feat_small ka).1; omega) hq
theorem th_same {x y : thing} (h : x.has = y.has) : decide (x.f = y.f) = decide (x = y) := decide_eq_decide.2 (by rw [thing.ext_iff']; exact ⟨fun g => ⟨h, g⟩, fun g => g.2⟩)
theorem th_diff {x y : thing} (h : ¬ x.has = y.has) : decide (x = y) = false := decide_eq_false fun e => h (by rw [e])
theorem three_snd {α : Type} [DecidableEq α] (o a b : α) : (three o a b).2 = (decide (a = o) || (decide (b = o) || decide (a = b))) := by
 unfold three
 by_cases h1 : a = o
 ·rw [if_pos h1, decide_eq_true h1]; rfl
 ·rw [if_neg h1, decide_eq_false h1]
  by_cases h2 : b = o
  ·rw [if_pos h2, decide_eq_true h2]; rfl
  ·rw [if_neg h2, decide_eq_false h2]
   by_cases h3 : a = b
   ·rw [if_pos h3, decide_eq_true h3]; rfl
   ·rw [if_neg h3, decide_eq_false h3]; rfl
theorem F123.law (o a b : List Feat) (id : Str) (Q : Feat → Bool → List Str → Prop) (ho : sheetOk o = true) (ha : sheetOk a = true) (hb : sheetOk b = true) (h1 : bulk o ≤ 1048576) (h2 : bulk a ≤ 1048576) (h3 : bulk b ≤ 1048576)
  (hq : Q (oneAt o a b id).1.f (oneAt o a b id).1.has (oneAt o a b id).2) : F123.E o a b id Q := by
 unfold F123.E
 refine F99.law _ _ _ h1 (F99.law _ _ _ h2 (F99.law _ _ _ h3 ?_))
 have to_ : ThOk _ _ := thOf_ok ho id
 have ta_ : ThOk _ _ := thOf_ok ha id
 have tb_ : ThOk _ _ := thOf_ok hb id
 have eo : oneAt o a b id = oneOf (thOf o id) (thOf a id) (thOf b id) := rfl
 rw [eo] at hq
 clear eo
 have e1 : (sideOf o id).1 = (thOf o id).f := rfl
 have e2 : (sideOf o id).2 = (thOf o id).has := rfl
 have e3 : (sideOf a id).1 = (thOf a id).f := rfl
 have e4 : (sideOf a id).2 = (thOf a id).has := rfl
 have e5 : (sideOf b id).1 = (thOf b id).f := rfl
 have e6 : (sideOf b id).2 = (thOf b id).has := rfl
 rw [e1, e2, e3, e4, e5, e6]
 clear e1 e2 e3 e4 e5 e6
 generalize thOf o id = x at *
 generalize thOf a id = y at *
 generalize thOf b id = z at *
 refine ⟨fun v => v = decide (y = x), ?_, ?_⟩
 ·by_cases g : y.has = x.has
  ·rw [if_pos (by simpa using g)]; exact F57.law _ _ _ (th_same g)
  ·rw [if_neg (by simpa using g)]; exact (th_diff g).symm
 rintro _ rfl
 by_cases c1 : y = x
 ·rw [decide_eq_true c1, if_pos rfl]
  have et : three x y z = (z, true) := by unfold three; rw [if_pos c1]
  rw [one_same (by rw [et]), et] at hq; exact hq
 rw [decide_eq_false c1, if_neg RD]
 refine ⟨fun v => v = (decide (z = x) || decide (y = z)), ?_, ?_⟩
 ·have k2 : (if (y.has == z.has) = true then F57.E y.f z.f (fun r9 => r9 = decide (y = z)) else false = decide (y = z)) := by
   by_cases g : y.has = z.has
   ·rw [if_pos (by simpa using g)]; exact F57.law _ _ _ (th_same g)
   ·rw [if_neg (by simpa using g)]; exact (th_diff g).symm
  by_cases g : z.has = x.has
  ·rw [if_pos (by simpa using g)]
   refine F57.law _ _ _ ?_
   rw [th_same g]
   by_cases c2 : z = x
   ·rw [decide_eq_true c2, if_pos rfl]; rfl
   ·rw [decide_eq_false c2, if_neg RD, Bool.false_or]; exact k2
  ·rw [if_neg (by simpa using g), th_diff g, Bool.false_or]; exact k2
 rintro _ rfl
 have e3 := three_snd x y z
 rw [decide_eq_false c1, Bool.false_or] at e3
 cases c2 : (decide (z = x) || decide (y = z)) with
 | true =>
  rw [if_pos rfl]
  have et : three x y z = (y, true) := by
   rcases three_case x y z with ⟨g, _⟩ | ⟨_, _, g⟩ | ⟨_, _, _, g⟩ | ⟨_, g1, g2, _⟩
   ·exact absurd g c1
   ·exact g
   ·exact g
   ·rw [decide_eq_false g1, decide_eq_false g2] at c2; cases c2
  rw [one_same (by rw [et]), et] at hq; exact hq
 | false =>
  rw [if_neg RD]
  rw [c2] at e3
  rw [one_else e3] at hq
  rcases Bool.eq_false_or_eq_true y.has with ca | ca
  case inr =>
   rw [if_pos (by rw [ca]; rfl)]
   rw [if_pos ca] at hq
   have hz : z.has = true := by
    cases g : z.has with
    | true => rfl
    | false =>
     rw [ta_.no ca, tb_.no g] at c2
     simp at c2
   rw [hz] at hq; exact hq
  rw [if_neg (by rw [ca]; decide)]
  rw [if_neg (by rw [ca]; decide)] at hq
  rcases Bool.eq_false_or_eq_true z.has with cb | cb
  case inr =>
   rw [if_pos (by rw [cb]; rfl)]
   rw [if_pos cb] at hq
   rw [ca] at hq; exact hq
  rw [if_neg (by rw [cb]; decide)]
  rw [if_neg (by rw [cb]; decide)] at hq
  rcases Bool.eq_false_or_eq_true x.has with co | co
  case inr =>
   rw [if_pos (by rw [co]; rfl)]
   rw [if_pos co] at hq
   rw [ca] at hq; exact hq
  rw [if_neg (by rw [co]; decide)]
  rw [if_neg (by rw [co]; decide)] at hq
  obtain ⟨fx, ix⟩ := to_.has co; obtain ⟨fy, iy⟩ := ta_.has ca; obtain ⟨fz, iz⟩ := tb_.has cb
  exact F95.law _ _ _ _ fx fy fz hq
theorem F102.law (o a b : List Feat) (Q : List Feat → List Clash → Bool → Prop) (ho : sheetOk o = true) (ha : sheetOk a = true) (hb : sheetOk b = true) (h1 : bulk o ≤ 1048576) (h2 : bulk a ≤ 1048576) (h3 : bulk b ≤ 1048576)
  (hq : Q (joinFs o a b (ids3 o a b)) (joinCs o a b (ids3 o a b)) (sheetOk (joinFs o a b (ids3 o a b)))) : F102.E o a b Q := by
 unfold F102.E
 have so := sheet_ss ho; have sa := sheet_ss ha; have sb := sheet_ss hb
 refine F122.law _ _ _ _ OM OM OM so.1 ?_
 have hlen := ids3_len ho ha hb
 refine ⟨fun fs cs l i => ∃ u : Nat, i = u ∧ u ≤ (ids3 o a b).length ∧ l = ids3 o a b ∧ cs = joinCs o a b ((ids3 o a b).take u) ∧ fs = joinFs o a b ((ids3 o a b).take u), fun _ _ _ i => ((ids3 o a b).length - i).toNat, ⟨0, rfl, Nat.zero_le _, rfl, rfl, rfl⟩, ?_⟩
 rintro _ _ _ _ ⟨u, rfl, hu, rfl, rfl, rfl⟩
 by_cases h : u < (ids3 o a b).length
 ·rw [if_pos (by simpa using h)]
  have ec := joinCs_snoc o a b ((ids3 o a b).take u) (nth (ids3 o a b) (u : Int))
  have ef := joinFs_snoc o a b ((ids3 o a b).take u) (nth (ids3 o a b) (u : Int))
  rw [← take_nth _ h] at ec ef
  have hcl := joinCs_len ho ha hb ((ids3 o a b).take u)
  have hfl := joinFs_len o a b ((ids3 o a b).take u)
  rw [List.length_take] at hcl hfl
  have hw := (oneAt_small ho ha hb (nth (ids3 o a b) (u : Int))).1
  refine ⟨OM, F123.law _ _ _ _ _ ho ha hb h1 h2 h3 ?_⟩
  generalize nth (ids3 o a b) (u : Int) = i at *
  have inner : ∀ fs : List Feat, fs = joinFs o a b ((ids3 o a b).take (u + 1)) → ∃ (I : List Clash → Int → Prop) (mu : List Clash → Int → Nat), I (joinCs o a b ((ids3 o a b).take u)) 0 ∧ ∀ (xs : List Clash) (k : Int), I xs k →
    (if decide (k < ((oneAt o a b i).2.length : Int)) = true then ((0 : Int) ≤ (u : Int) ∧ (u : Int) < ((ids3 o a b).length : Int)) ∧ ((0 : Int) ≤ k ∧ k < ((oneAt o a b i).2.length : Int)) ∧ (xs.length + ([(⟨i, (nth (oneAt o a b i).2 k)⟩ : Clash)] : List Clash).length ≤ 268435456) ∧ (-9223372036854775808 ≤ k) ∧ I (xs ++ ([(⟨i, (nth (oneAt o a b i).2 k)⟩ : Clash)] : List Clash)) (k + 1) ∧ mu (xs ++ ([(⟨i, (nth (oneAt o a b i).2 k)⟩ : Clash)] : List Clash)) (k + 1) < mu xs k
    else (((oneAt o a b i).2.length : Int) ≤ 9223372036854775807 → I64 ((u : Int) + 1)) ∧ (∃ v : Nat, (u : Int) + 1 = v ∧ v ≤ (ids3 o a b).length ∧ ids3 o a b = ids3 o a b ∧ xs = joinCs o a b ((ids3 o a b).take v) ∧ fs = joinFs o a b ((ids3 o a b).take v)) ∧ ((ids3 o a b).length - ((u : Int) + 1)).toNat < ((ids3 o a b).length - (u : Int)).toNat) := fun fs hfs => by
   generalize (oneAt o a b i).2 = W at *
   refine ⟨fun xs k => ∃ v : Nat, k = v ∧ v ≤ W.length ∧ xs = joinCs o a b ((ids3 o a b).take u) ++ clashAtL i (W.take v), fun _ k => (W.length - k).toNat, ⟨0, rfl, Nat.zero_le _, by simp [clashAtL]⟩, ?_⟩
   rintro _ _ ⟨v, rfl, hv, rfl⟩
   have hwl : (clashAtL i (W.take v)).length ≤ v := by unfold clashAtL; simp; omega
   by_cases g : v < W.length
   ·rw [if_pos (by simpa using g)]
    refine ⟨OM, OM, by simp only [List.length_append, List.length_cons, List.length_nil]; omega, OM, ⟨v + 1, OM, OM, ?_⟩, by dsimp only; omega⟩
    rw [take_nth _ g]; unfold clashAtL; rw [List.map_append, List.append_assoc]; rfl
   ·rw [if_neg (by simpa using g)]
    have : v = W.length := by omega
    subst this
    rw [List.take_length]
    exact ⟨fun _ => by unfold I64; omega, ⟨u + 1, OM, OM, rfl, ec.symm, hfs⟩, OM⟩
  rcases Bool.eq_false_or_eq_true (oneAt o a b i).1.has with c | c
  ·rw [if_pos c]
   exact ⟨by simp only [List.length_cons, List.length_nil]; omega, inner _ (by rw [ef, if_pos c])⟩
  ·rw [if_neg (by rw [c]; decide)]
   exact inner _ (by rw [ef, if_neg (by rw [c]; decide), List.append_nil])
 rw [if_neg (by simpa using h)]
 have : u = (ids3 o a b).length := by omega
 subst this
 rw [List.take_length]
 have hs := joinFs_small ho ha hb (ids3 o a b)
 exact F101.law _ _ OM (F76.law _ _ hq)
theorem F42.law (o a b : List Feat) (Q : List Feat → List Clash → Bool → Prop) (h1 : bulk o ≤ 1048576) (h2 : bulk a ≤ 1048576) (h3 : bulk b ≤ 1048576) (hq : Q (sheetJoin o a b).1 (sheetJoin o a b).2.1 (sheetJoin o a b).2.2) : F42.E o a b Q := by
 unfold F42.E
 unfold sheetJoin at hq
 have zq : (sheetOk o && sheetOk a && sheetOk b) = false → Q [] [] false := fun h => by rw [h, if_neg RD] at hq; exact hq
 refine F76.law _ _ ?_
 cases ko : sheetOk o with
 | false => rw [if_pos RD]; exact zq (by rw [ko]; rfl)
 | true =>
 rw [if_neg RD]
 refine F76.law _ _ ?_
 cases ka : sheetOk a with
 | false => rw [if_pos RD]; exact zq (by rw [ko, ka]; rfl)
 | true =>
 rw [if_neg RD]
 refine F76.law _ _ ?_
 cases kb : sheetOk b with
 | false => rw [if_pos RD]; exact zq (by rw [ko, ka, kb]; rfl)
 | true =>
 rw [if_neg RD]
 rw [ko, ka, kb, if_pos RD] at hq
 refine F102.law _ _ _ _ ko ka kb h1 h2 h3 ?_
 cases kj : sheetOk (joinFs o a b (ids3 o a b)) with
 | true => rw [if_neg RD]; rw [kj, if_pos rfl] at hq; exact hq
 | false => rw [if_pos RD]; rw [kj, if_neg RD] at hq; exact hq
theorem F47.law (a b : List Clash) (Q : Bool → Prop) (hq : Q (decide (a = b))) : F47.E a b Q := by
 unfold F47.E
 exact eqS_shape eqClash eqClash_is a b Q hq
theorem F10.law (a b : List Clash) (Q : Bool → Prop) (hb : a.length ≤ 1048576) (hq : Q (decide (a = b))) : F10.E a b Q := by
 unfold F10.E
 exact eqI_shape eqClash eqClash_is a b Q hb hq
theorem F43.law (a b : List Clash) (Q : Bool → Prop) (hb : a.length ≤ 1048576) (hq : Q (decide (a = b))) : F43.E a b Q := by
 unfold F43.E
 exact F10.law _ _ _ hb hq
def textOf (l : List Clash) : Str := l.flatMap fun x => x.Id ++ [58, 32] ++ x.What ++ [10]
theorem textOf_len (l : List Clash) : (textOf l).length ≤ 4 * bulk l := by
 induction l with
 | nil => exact Nat.zero_le _
 | cons x l ih =>
  have h : bulk x = bulk x.Id + bulk x.What := rfl
  rw [bulk_str, bulk_str] at h
  unfold textOf at ih ⊢
  rw [List.flatMap_cons, List.length_append, bulk_cons]
  simp only [List.length_append, List.length_cons, List.length_nil]
  omega
theorem textOf_take (l : List Clash) {k : Nat} (h : k < l.length) : textOf (l.take (k + 1)) = textOf (l.take k) ++ ((((nth l (k : Int)).Id ++ [58, 32]) ++ (nth l (k : Int)).What) ++ [10]) := by
 rw [take_nth l h]; unfold textOf; rw [List.flatMap_append]; simp
theorem F45.law (a : List Clash) (Q : Str → Prop) (ha : bulk a ≤ 1048576) (hq : Q (textOf a)) : F45.E a Q := by
 unfold F45.E
 have hl := bulk_len a
 refine ⟨fun out i => ∃ k : Nat, i = k ∧ k ≤ a.length ∧ out = textOf (a.take k), fun _ i => (a.length - i).toNat, ⟨0, rfl, OM, rfl⟩, ?_⟩
 rintro _ _ ⟨k, rfl, hk, rfl⟩
 by_cases hki : (k : Int) < (a.length : Int)
 ·rw [if_pos (by simpa using hki)]
  have hk' : k < a.length := by omega
  have h1 := textOf_len (a.take k)
  have h2 := bulk_take a k
  have h3 := bulk_mem (nth_mem a hk')
  have h4 : bulk (nth a (k : Int)) = bulk (nth a (k : Int)).Id + bulk (nth a (k : Int)).What := rfl
  rw [bulk_str, bulk_str] at h4
  refine ⟨⟨OM, hki⟩, ?_, ?_, ?_, ?_, by unfold I64; omega, ⟨k + 1, OM, OM, (textOf_take a hk').symm⟩, by dsimp only; omega⟩
  all_goals (simp only [List.length_append, List.length_cons, List.length_nil]; omega)
 ·rw [if_neg (by simpa using hki)]
  have : k = a.length := by omega
  subst this
  rw [List.take_length]; exact hq
theorem F46.law (a : List Clash) (Q : Str → Prop) (ha : bulk a ≤ 1048576) (hq : Q (textOf a)) : F46.E a Q := by
 unfold F46.E
 have hl := bulk_len a
 refine ⟨fun out i => ∃ k : Nat, i = k ∧ k ≤ a.length ∧ out = textOf (a.take k), fun _ i => (a.length - i).toNat, ⟨0, rfl, OM, rfl⟩, ?_⟩
 rintro _ _ ⟨k, rfl, hk, rfl⟩
 by_cases hki : (k : Int) < (a.length : Int)
 ·rw [if_pos (by simpa using hki)]
  have hk' : k < a.length := by omega
  have h1 := textOf_len (a.take k)
  have h2 := bulk_take a k
  have h3 := bulk_mem (nth_mem a hk')
  have h4 : bulk (nth a (k : Int)) = bulk (nth a (k : Int)).Id + bulk (nth a (k : Int)).What := rfl
  rw [bulk_str, bulk_str] at h4
  refine ⟨⟨OM, hki⟩, ?_, ?_, ⟨OM, hki⟩, ?_, ?_, OM, ⟨k + 1, OM, OM, ?_⟩, by dsimp only; omega⟩
  rotate_right 1
  ·rw [textOf_take a hk']; simp
  all_goals (try simp only [List.length_append, List.length_cons, List.length_nil])
  all_goals omega
 ·rw [if_neg (by simpa using hki)]
  have : k = a.length := by omega
  subst this
  rw [List.take_length]; exact hq
theorem F58.law (s : List Feat) (id : Str) (Q : Feat → Bool → Prop) (hb : bulk s ≤ 1048576) (hq : Q (getOf s id).1 (getOf s id).2) : F58.E s id Q := by
 unfold F58.E
 have hl := bulk_len s
 refine F97.law _ _ _ OM (F74.law _ _ hb ?_)
 unfold getOf at hq
 cases h : sheetOk s with
 | false => rw [if_pos RD]; rw [h, if_neg RD] at hq; exact hq
 | true =>
  rw [if_neg RD]; rw [h, if_pos rfl] at hq
  unfold sideOf at hq
  have hle := findN_le s.length fun j => (nth s (j : Int)).Id == id
  split
  ·rename_i g; rw [if_pos (by simpa using g)] at hq; exact hq
  ·rename_i g
   have g : ¬ findN s.length (fun j => (nth s (j : Int)).Id == id) < 0 := by simpa using g
   rw [if_neg g] at hq
   have hm := nth_memi s (by omega : 0 ≤ findN s.length fun j => (nth s (j : Int)).Id == id) hle.2
   exact ⟨OM, F36.law _ _ (Nat.le_trans (feat_small ((sheet_ss h).2.2 _ hm)).1 RD) hq⟩
theorem laws_FnSheetTold.gen (code : List UInt8) (Q : Bool → Prop) (hq : Q true) : laws_FnSheetTold.E code Q := by
 unfold laws_FnSheetTold.E
 by_cases c1 : (code.length : Int) > 1048576
 ·rw [if_pos (by simpa using c1)]; exact hq
 rw [if_neg (by simpa using c1)]
 refine F11.law _ _ fun o a b mo ma mb => ?_
 have bo := mo.small; have ba := ma.small; have bb := mb.small
 obtain ⟨s1, s2⟩ := sheetJoin_small o a b
 have cl := bulk_len (sheetJoin o a b).2.1
 refine F41.law _ _ _ _ bo ba bb (F42.law _ _ _ _ bo ba bb (F12.law _ _ fun e f he hf => F13.law _ _ fun t ht hw => ?_))
 have bt : bulk t ≤ 1048576 := by
  have h := bulk_small t 14 fun c hc => by
   have := hw c hc
   have e : bulk c = bulk c.Id + bulk c.What := rfl
   rw [e, bulk_str, bulk_str]; omega
  have : t.length * (14 + 1) ≤ 3 * 15 := Nat.mul_le_mul ht (Nat.le_refl _)
  omega
 refine ⟨fun v => v = false, ?_, ?_⟩
 ·rw [if_neg (by simp)]
  refine F45.law _ _ OM (F46.law _ _ OM ?_)
  rw [if_neg (by simp)]
  refine F45.law _ _ bt (F46.law _ _ bt ?_)
  rw [if_neg (by simp)]
  exact F43.law _ _ _ OM (F47.law _ _ _ (by simp))
 rintro _ rfl
 rw [if_neg RD]
 refine ⟨fun i => 0 ≤ i, fun i => (((sheetJoin o a b).2.1.length : Int) - i).toNat, Int.le_refl _, fun i hi => ?_⟩
 by_cases h : i < ((sheetJoin o a b).2.1.length : Int)
 case neg => rw [if_neg (by simpa using h)]; exact hq
 rw [if_pos (by simpa using h)]
 have k1 : (sheetJoin o a b).2.2 = true := by
  cases k : (sheetJoin o a b).2.2 with
  | true => rfl
  | false => rw [sheetJoin_not k] at h; simp at h; omega
 obtain ⟨ko, ka, kb, kx, ex⟩ := sheetJoin_of k1
 have hm := nth_memi _ hi h
 have hsrt : i > 0 → Op.bytesLess (nth (sheetJoin o a b).2.1 i).Id (nth (sheetJoin o a b).2.1 (i - 1)).Id = false := fun h0 => by
  have hs : ((sheetJoin o a b).2.1).Pairwise fun x y => Op.bytesLess y.Id x.Id = false := by rw [ex]; exact joinCs_sorted o a b (uniq_ss _)
  obtain ⟨k, rfl⟩ : ∃ k : Nat, i = k := ⟨i.toNat, OM⟩
  rw [show ((k : Int) - 1) = ((k - 1 : Nat) : Int) by omega, nth_nat _ (by omega : k < (sheetJoin o a b).2.1.length), nth_nat _ (by omega : k - 1 < (sheetJoin o a b).2.1.length)]
  exact List.pairwise_iff_getElem.1 hs (k - 1) k OM OM OM
 have ec : (sheetJoin o a b).2.1 = joinCs o a b (ids3 o a b) := by rw [ex]
 have hwd : (nth (sheetJoin o a b).2.1 i).What ∈ (oneAt o a b (nth (sheetJoin o a b).2.1 i).Id).2 := (joinCs_mem (l := ids3 o a b) (by rw [ec] at hm ⊢; exact hm)).2
 generalize nth (sheetJoin o a b).2.1 i = c at *
 have to_ : ThOk _ _ := thOf_ok ko c.Id
 have ta : ThOk _ _ := thOf_ok ka c.Id
 have tb : ThOk _ _ := thOf_ok kb c.Id
 refine ⟨OM, F58.law _ _ _ bo ⟨OM, F58.law _ _ _ ba ⟨OM, F58.law _ _ _ bb ?_⟩⟩⟩
 rw [getOf_th ko, getOf_th ka, getOf_th kb]
 obtain ⟨n1, n2, n3, n4, n5⟩ := oneOf_words ta tb hwd
 generalize thOf o c.Id = O at *
 generalize thOf a c.Id = A at *
 generalize thOf b c.Id = B at *
 refine ⟨fun v => v = false, ?_, ?_⟩
 ·have body : (if (A.has == O.has) = true then (∃ q : Bool, F55.E A.f O.f (fun x => x = q) ∧ (if q = true then true = false else (if (B.has == O.has) = true then (∃ q2 : Bool, F55.E B.f O.f (fun x => x = q2) ∧ (if q2 = true then true = false else (if (A.has == B.has) = true then (∃ q3 : Bool, F55.E A.f B.f (fun x => x = q3) ∧ q3 = false) else false = false))) else (if (A.has == B.has) = true then (∃ q4 : Bool, F55.E A.f B.f (fun x => x = q4) ∧ q4 = false) else false = false)))) else (if (B.has == O.has) = true then (∃ q5 : Bool, F55.E B.f O.f (fun x => x = q5) ∧ (if q5 = true then true = false else (if (A.has == B.has) = true then (∃ q6 : Bool, F55.E A.f B.f (fun x => x = q6) ∧ q6 = false) else false = false))) else (if (A.has == B.has) = true then (∃ q7 : Bool, F55.E A.f B.f (fun x => x = q7) ∧ q7 = false) else false = false))) := by
   have e3 := thc_neq ta n3 (Q := fun q => q = false) rfl
   have e2 := thc_ne tb n2 (F := true = false) e3
   exact thc_ne ta n1 (F := true = false) e2
  by_cases h0 : i > 0
  ·rw [if_pos (by simpa using h0)]
   refine ⟨OM, fun _ => by unfold I64; omega, OM, ?_⟩
   rw [if_neg (by rw [hsrt h0]; decide)]; exact body
  ·rw [if_neg (by simpa using h0)]; exact body
 rintro _ rfl
 rw [if_neg RD]
 refine ⟨fun v => v = false, ⟨OM, ?_⟩, ?_⟩
 ·have body : ((0 : Int) ≤ i ∧ i < ((sheetJoin o a b).2.1.length : Int)) ∧ (if (c.What == ([98, 111, 116, 104] : Str)) = true then (if O.has = true then true = false else (if (!A.has) = true then true = false else (!B.has) = false)) else false = false) := by
   refine ⟨OM, ?_⟩
   by_cases e : c.What = bothS
   ·obtain ⟨q1, q2, q3⟩ := n5 e
    rw [q1, q2, q3]; simp
   ·rw [if_neg (by simpa [bothS] using e)]
  by_cases e : c.What = goneS
  ·rw [if_pos (by rw [e]; decide), if_neg (by simpa using n4 e)]; exact body
  ·rw [if_neg (by simpa [goneS] using e)]; exact body
 rintro _ rfl
 rw [if_neg RD]
 exact ⟨by unfold I64; omega, OM, by dsimp only; omega⟩
theorem laws_FnSheetTold.law (code : List UInt8) (_ : ∀ x ∈ code, True) : laws_FnSheetTold.E code (fun r => r = true) := laws_FnSheetTold.gen code _ rfl
end Go.Proofs.YtpdmnmpcjljeaaaGreat
namespace Go.Proofs.YtpdmnmpcjljeaaaGreat.rFnSheetTold
open Go.ChangeShapes Go.WideShapes Go.ChangeAt Go.RowKit
open Go.ChangeMaps (open_string shut_string)
set_option linter.unusedVariables false
theorem own : ownKnob Tryz.prog.godebug = none := by kernel_rfl
theorem laidOut : laidOutB Tryz.prog = true := by kernel_rfl
set_option maxHeartbeats 4000000 in
set_option maxRecDepth 100000 in
theorem lifted (os : Os) (started : os.Started) (H : Type) (enc : TypeId × Value → H) :
    ReturnsInHanded {} Tryz.checked os 7 .any (Rows.fnSheetToldSpec.pre6 enc Tryz.prog Tryz.f7 Rows.fnSheetToldRow.domain false) (Rows.fnSheetToldSpec.post enc Tryz.prog Tryz.f7 false true false false) := by
  refine returnsInHanded_of_change_sized (C := Tryz.checked) own started (by kernel_rfl) Tryz.func7
    (ChangeSpec.witness6 (enc := enc) (C := Tryz.checked) false ⟨#[], #[.slice none 0 0], []⟩ 8 (by kernel_rfl) (by kernel_rfl) (by kernel_rfl) (by kernel_rfl)) ?_
  intro W base args ds gs before hval0 hW hcnd hsz0 _
  have hval : ∀ (j : Nat) t v, Tryz.f7.params[j]? = some t → args[j]? = some v → Value.okWide Tryz.prog W .any base t v := hval0
  have hW' := hW
  obtain ⟨p, q, hA0, hV, rfl, hfz, hnd⟩ := hW
  have hA : DataW.TrodAll enc Tryz.prog W 0 (fun _ => true) true Tryz.f7.params.toList args.toList ds p := hA0
  rw [Tryz.params7] at hA hval
  obtain ⟨v0, vs0, d0, ds0, p0, q0, hargs, rfl, rfl, h0, r0⟩ := trodAll_cons hA
  obtain ⟨rfl, rfl, rfl⟩ := trodAll_nil r0
  obtain rfl : args = #[v0] := by cases args; simp_all
  obtain ⟨rfl, rfl⟩ := trodVars_none hV
  have k0 := h0
  have lt0 : ∀ x ∈ p0, x.block < W.heap.size := by obtain ⟨m, hm⟩ := k0; exact DataW.trod_lt m _ _ _ hm
  obtain ⟨x0, hv0, hx0⟩ : ∃ a : List UInt8, (∀ y0 ∈ a, True) ∧ (Kd.sl Kd.byte).R W (Fr []) a v0.cells.toList := by obtain ⟨fuel, hf⟩ := h0; exact (Tr.sl Tryz.underlying22 (by kernel_rfl) (Tr.byte Tryz.underlying5)) H enc W fuel _ _ hf
  obtain ⟨a0, n0, c0, rfl⟩ := okWide_slice Tryz.underlying22 (hval 0 22 v0 rfl rfl)
  have s0 : Sl Kd.byte W (Fr []) (.slice a0 n0 c0) x0 := by obtain ⟨_, e, h⟩ := hx0; simp [Value.cells] at e; subst e; exact h
  clear hA0 hval0 hsz0
  refine Calls.mono (laws_FnSheetTold.calls W (Ok.nil W) x0 a0 n0 c0 s0 (fun r => r = true) (laws_FnSheetTold.law x0 hv0)) fun e W' ⟨v, he, r, hr, hq, hg⟩ => ?_
  subst he; subst hr; subst hq
  have bel := Gr.below hg
  exact ⟨_, rfl, _, _, _, [], _, [], hW', trodAll_mk1 (shut_bool Tryz.underlying4 _), (trodAll_cons_mk (Below.trod laidOut (by kernel_rfl) (of_decide_eq_true (by kernel_rfl)) k0 bel lt0) trodAll_mk0), rfl, bel.frame _, fun h => by cases h⟩
theorem over : Rows.fnSheetToldRow.holds Tryz.pinned (OpenSpec.ofChange Rows.fnSheetToldSpec) :=
  OpenClaim.holds_of_wide 7 Tryz.f7 rfl rfl rfl rfl rfl rfl rfl ⟨rfl, rfl, rfl, rfl, rfl⟩ rfl rfl rfl rfl rfl (by kernel_rfl) Tryz.func7 (by kernel_rfl)
    (of_decide_eq_true (by kernel_rfl)) (by unfold Func.isWrapper; first | (rw [if_pos (by decide +kernel)]; kernel_rfl) | (rw [if_neg (by decide +kernel)]; exact ⟨rfl, rfl⟩))
    (fun os started H enc _ => lifted os started H enc)
theorem proved : Rows.FnSheetToldSaid := over
#print axioms proved
end Go.Proofs.YtpdmnmpcjljeaaaGreat.rFnSheetTold
namespace Go.Proofs.YtpdmnmpcjljeaaaGreat
theorem fnSheetTold_holds : Rows.FnSheetToldSaid := rFnSheetTold.proved
end Go.Proofs.YtpdmnmpcjljeaaaGreat