/- It is proved here that the law FnDiffBent of the given program holds whatever it is handed: the walks through the code, the plain laws and the row, in this order.
   Conditions: none. -/
import Derived.Below
import Derived.ChangeArms
import Derived.ChangeOld
import Derived.ChangeSlices
import Derived.ChangeVars
import Derived.DataReads
import Derived.Deep.Quiet
import Derived.KernelRfl
import Derived.LaidHandle
import Derived.LaidLaws
import Derived.LaidMore
import Derived.Laws.Build
import Derived.Laws.IdiomStrings
import Derived.Laws.OwnMore
import Derived.Laws.Slices
import Derived.Laws.StructEq
import Derived.Lib.ItoaNum
import Derived.Lib.LaidTab
import Derived.MakeChecks
import Derived.OpenShut
import Derived.OpenVars
import Derived.ProofKit
import Derived.SevenTiedAt
import Derived.Shelf.LaysM
import Derived.Shelf.Slices.CompactS
import Derived.Shelf.Sort.Plain
import Derived.Shelf.Strconv.Itoa0
import Derived.Shelf.Strconv.Itoa1
import Derived.Shelf.Strconv.Itoa2
import Derived.Shelf.Strconv.Itoa3
import Derived.ShutString
import Derived.SizedLaws
import Derived.StillTail
import Derived.Stop.Joined
import Derived.Test.YtlaaehjcooonfaaDoorCards
import Derived.Test.YtlaaehjcooonfaaDoorProg
import Derived.Test.YtlaaehjcooonfaaDoorRows
import Derived.Test.YtlaaehjcooonfaaDoorTie
import Derived.WalkKit
import Derived.Test.YtlaaehjcooonfaaDoorCDiffBenta
import Derived.Test.YtlaaehjcooonfaaDoorCDiffBentb
import Derived.Test.YtlaaehjcooonfaaDoorCDiffBentc
namespace Go.Proofs.YtlaaehjcooonfaaDoor
set_option linter.unusedVariables false
set_option linter.unusedSimpArgs false
set_option linter.unusedSectionVars false
set_option maxHeartbeats 8000000
set_option maxRecDepth 100000
open Go.RowKit
variable {O : Ob} {w0 : World}
theorem F1.law (code : List UInt8) (Q : List Change → Prop) (hq : ∀ d, d.length ≤ 17 → (∀ c ∈ d, CB c) → Q d) : F1.E code Q := by
 unfold F1.E
 exact F33.law _ _ fun b hb => F67.law _ _ _ hb OM OM fun d p' h1 h2 _ _ => hq _ h1 h2
def ptT (p : Pt) : Str := [32] ++ Lib.itoa p.X ++ [44] ++ Lib.itoa p.Y
def shT (s : Shape) : Str := nth shapeNamesL s.Kind ++ s.Pts.flatMap ptT
def tagT (t : Tag) : Str := [32] ++ t.Key ++ [61] ++ t.Val
def featT (f : Feat) : Str := if featOk f then f.Id ++ [32] ++ shT f.Shape ++ f.Tags.flatMap tagT else []
def sideT (has : Bool) (f : Feat) : Str := if has then featT f else [45]
def lineT (c : Change) : Str := c.Id ++ [58, 32] ++ sideT c.Had c.Was ++ [32, 62, 32] ++ sideT c.Has c.Now ++ [10]
def diffT (d : List Change) : Str := if diffOk d then d.flatMap lineT else []
theorem loop_text {α : Type} [Inhabited α] (l : List α) (g : α → Str) (t0 : Str) (m M : Nat) (hm : ∀ x ∈ l, (g x).length ≤ m) (hM : t0.length + l.length * m ≤ M)
  {B : (Str → Int → Prop) → (Str → Int → Nat) → Str → Int → Prop} {F : Str → Prop}
  (hs : ∀ (I : Str → Int → Prop) (mu : Str → Int → Nat) (k : Nat) (out : Str), k < l.length → nth l (k : Int) ∈ l → out.length ≤ M →
   (∀ X, X = out ++ g (nth l (k : Int)) → I X ((k : Int) + 1) ∧ mu X ((k : Int) + 1) < mu out (k : Int)) → B I mu out (k : Int))
  (hF : F (t0 ++ l.flatMap g)) :
  ∃ (I : Str → Int → Prop) (mu : Str → Int → Nat), I t0 0 ∧ ∀ (out : Str) (i : Int), I out i → (if decide (i < (l.length : Int)) then B I mu out i else F out) := by
 have len : ∀ k, k ≤ l.length → (t0 ++ (l.take k).flatMap g).length ≤ M := fun k hk => by
  have : ∀ n : List α, (∀ x ∈ n, (g x).length ≤ m) → (n.flatMap g).length ≤ n.length * m := fun n => by
   induction n with
   | nil => intro _; simp
   | cons a n ih =>
    intro h
    rw [List.flatMap_cons, List.length_append, List.length_cons, Nat.add_mul]
    have h1 := h a (List.mem_cons_self ..)
    have h2 := ih fun x hx => h x (List.mem_cons_of_mem _ hx)
    omega
  have h1 := this (l.take k) fun x hx => hm x (List.mem_of_mem_take hx)
  have h2 : (l.take k).length * m ≤ l.length * m := Nat.mul_le_mul_right _ (by rw [List.length_take]; omega)
  rw [List.length_append]; omega
 refine ⟨fun out i => ∃ k : Nat, i = k ∧ k ≤ l.length ∧ out = t0 ++ (l.take k).flatMap g, fun _ i => ((l.length : Int) - i).toNat, ⟨0, rfl, Nat.zero_le _, by simp⟩, ?_⟩
 rintro _ _ ⟨k, rfl, hk, rfl⟩
 by_cases h : (k : Int) < (l.length : Int)
 ·rw [if_pos (by simpa using h)]
  refine hs _ _ k _ OM (nth_mem l OM) (len k hk) fun X hX => ⟨⟨k + 1, OM, OM, ?_⟩, OM⟩
  rw [hX, take_nth l OM, List.flatMap_append, List.flatMap_cons, List.flatMap_nil, List.append_nil, List.append_assoc]
 ·rw [if_neg (by simpa using h)]
  have : k = l.length := by omega
  subst this
  rw [List.take_length]; exact hF
theorem flatT_len {α : Type} (l : List α) (g : α → Str) (m : Nat) (hm : ∀ x ∈ l, (g x).length ≤ m) : (l.flatMap g).length ≤ l.length * m := by
 induction l with
 | nil => simp
 | cons a n ih =>
  rw [List.flatMap_cons, List.length_append, List.length_cons, Nat.add_mul]
  have h1 := hm a (List.mem_cons_self ..)
  have h2 := ih fun x hx => hm x (List.mem_cons_of_mem _ hx)
  omega
theorem shape_in {s : Shape} (h : shapeOk s = true) : (1 ≤ s.Kind ∧ s.Kind ≤ 3) ∧ s.Pts.length ≤ 6 ∧ ∀ p ∈ s.Pts, (-1000 ≤ p.X ∧ p.X ≤ 1000) ∧ -1000 ≤ p.Y ∧ p.Y ≤ 1000 := by
 have hp := shape_pts h
 unfold shapeOk at h
 rw [Bool.and_eq_true] at h
 refine ⟨?_, hp, fun p hm => ?_⟩
 ·have h2 := h.2
  unfold kindOk at h2
  by_cases k1 : s.Kind = 1
  ·omega
  ·rw [if_neg k1] at h2
   by_cases k2 : s.Kind = 2
   ·omega
   ·rw [if_neg k2] at h2
    by_cases k3 : s.Kind = 3
    ·omega
    ·rw [if_neg k3] at h2; cases h2
 ·obtain ⟨i, hi, rfl⟩ := List.mem_iff_getElem.1 hm
  have h1 := allN_iff.1 h.1 i hi
  rw [Bool.and_eq_true] at h1
  have h3 := h1.1
  have e : nth s.Pts (i : Int) = s.Pts[i] := by unfold nth; simp [hi]
  rw [e] at h3
  unfold ptOk inR at h3
  simp only [Bool.and_eq_true, decide_eq_true_eq] at h3
  omega
theorem ptT_len {p : Pt} (h : (-1000 ≤ p.X ∧ p.X ≤ 1000) ∧ -1000 ≤ p.Y ∧ p.Y ≤ 1000) : (ptT p).length ≤ 44 := by
 have h1 := itoa_len p.X OM OM
 have h2 := itoa_len p.Y OM OM
 unfold ptT
 simp only [List.length_append, List.length_cons, List.length_nil]; omega
theorem names_len : ∀ k : Int, (nth shapeNamesL k).length ≤ 4 := fun k => by
 by_cases h : 0 ≤ k ∧ k < 4
 ·have : k = 0 ∨ k = 1 ∨ k = 2 ∨ k = 3 := by omega
  rcases this with rfl | rfl | rfl | rfl <;> decide
 ·unfold nth
  by_cases h0 : k < 0
  ·have : k.toNat = 0 := by omega
   rw [this]; decide
  ·rw [show shapeNamesL.getD k.toNat default = default from by rw [List.getD_eq_getElem?_getD, List.getElem?_eq_none (by show 4 ≤ k.toNat; omega)]; rfl]; decide
theorem shT_len {s : Shape} (h : shapeOk s = true) : (shT s).length ≤ 268 := by
 obtain ⟨_, h2, h3⟩ := shape_in h
 have h4 := flatT_len s.Pts ptT 44 fun p hp => ptT_len (h3 p hp)
 have h5 := names_len s.Kind
 unfold shT
 rw [List.length_append]; omega
theorem featT_len (f : Feat) : (featT f).length ≤ 400 := by
 unfold featT
 by_cases h : featOk f = true
 ·rw [if_pos h]
  obtain ⟨h1, h2, _, h4, h5⟩ := feat_facts h
  have h6 := shT_len h2
  have h7 := flatT_len f.Tags tagT 14 fun t ht => by
   have := h5 t ht
   unfold tagT
   simp only [List.length_append, List.length_cons, List.length_nil]; omega
  simp only [List.length_append, List.length_cons, List.length_nil]; omega
 ·rw [if_neg h]; exact Nat.zero_le _
theorem sideT_len (b : Bool) (f : Feat) : (sideT b f).length ≤ 400 := by
 unfold sideT
 cases b
 ·exact (by decide : ([45] : Str).length ≤ 400)
 ·exact featT_len f
theorem lineT_len {c : Change} (h : c.Id.length ≤ 6) : (lineT c).length ≤ 812 := by
 have h1 := sideT_len c.Had c.Was
 have h2 := sideT_len c.Has c.Now
 unfold lineT
 simp only [List.length_append, List.length_cons, List.length_nil]; omega
theorem F52.law (f : Feat) (Q : Bool → Prop) (hq : Q (noF f)) : F52.E f Q := by
 unfold F52.E
 obtain ⟨i, ⟨k, p⟩, t⟩ := f
 unfold noF at hq
 dsimp only
 have e : decide ((⟨i, ⟨k, p⟩, t⟩ : Feat) = ⟨[], ⟨0, []⟩, []⟩) = (decide (i = []) && decide (k = 0) && decide (p = []) && decide (t = [])) := by
  rw [Bool.eq_iff_iff]; simp [and_assoc]
 rw [e] at hq
 cases h1 : decide (i = []) with
 | false => rw [h1] at hq; rw [if_neg (by rw [beq_iff_eq]; exact of_decide_eq_false h1)]; exact hq
 | true =>
  rw [if_pos (by rw [beq_iff_eq]; exact of_decide_eq_true h1)]
  cases h2 : decide (k = 0) with
  | false => rw [h1, h2] at hq; rw [if_neg (by rw [beq_iff_eq]; exact of_decide_eq_false h2)]; exact hq
  | true =>
   rw [if_pos (by rw [beq_iff_eq]; exact of_decide_eq_true h2)]
   cases h3 : decide (p = []) with
   | false => rw [h1, h2, h3] at hq; rw [if_neg (by rw [beq_iff_eq]; have := of_decide_eq_false h3; intro e; exact this (List.length_eq_zero_iff.1 OM))]; exact hq
   | true =>
    rw [if_pos (by rw [beq_iff_eq, of_decide_eq_true h3]; rfl)]
    rw [h1, h2, h3] at hq
    have : ((t.length : Int) == 0) = decide (t = []) := by
     rw [Bool.eq_iff_iff, beq_iff_eq, decide_eq_true_eq]
     exact ⟨fun e => List.length_eq_zero_iff.1 OM, fun e => by rw [e]; rfl⟩
    rw [this]; exact hq
theorem F50.law (n lo hi : Int) (Q : Bool → Prop) (hq : Q (decide (lo ≤ n) && decide (n ≤ hi))) : F50.E n lo hi Q := by
 unfold F50.E
 by_cases h : lo ≤ n
 ·rw [if_pos (by simpa using h)]; rw [decide_eq_true h, Bool.true_and] at hq; exact hq
 ·rw [if_neg (by simpa using h)]; rw [decide_eq_false h, Bool.false_and] at hq; exact hq
theorem F50.m_is (n lo hi : Int) : F50.m n lo hi = (decide (lo ≤ n) && decide (n ≤ hi)) := by
 unfold F50.m
 by_cases h : lo ≤ n
 ·rw [if_pos (by simpa using h), decide_eq_true h, Bool.true_and]
 ·rw [if_neg (by simpa using h), decide_eq_false h, Bool.false_and]
theorem F51.law (s : Str) (Q : Bool → Prop) (hl : s.length ≤ 1048576) (hq : Q (wordOk s)) : F51.E s Q := by
 unfold F51.E
 unfold wordOk at hq
 refine loop_all s.length (fun k => byteOk (nth s (k : Int))) (fun I mu k hk hp hn => ?_) (fun ha => ?_)
 ·refine ⟨OM, ?_⟩
  cases h1 : decide (((nth s (k : Int)).toNat : Int) < 97) with
  | true => rw [if_pos rfl]; rw [allN_false hk (by simp only [byteOk, h1]; rfl), Bool.false_and] at hq; exact hq
  | false =>
   rw [if_neg RD]
   refine ⟨OM, ?_⟩
   cases h2 : decide (((nth s (k : Int)).toNat : Int) > 122) with
   | true => rw [if_pos rfl]; rw [allN_false hk (by simp only [byteOk, h1, h2]; rfl), Bool.false_and] at hq; exact hq
   | false =>
    rw [if_neg RD]
    obtain ⟨i1, i2⟩ := hn (by simp only [byteOk, h1, h2]; rfl)
    exact ⟨by unfold I64; omega, i1, i2⟩
 ·rw [allN_true ha, Bool.true_and] at hq
  refine F50.law _ _ _ _ ?_
  have e1 : decide ((1 : Int) ≤ (s.length : Int)) = decide (1 ≤ s.length) := decide_eq_decide.2 OM
  have e2 : decide ((s.length : Int) ≤ 6) = decide (s.length ≤ 6) := decide_eq_decide.2 OM
  rw [e1, e2]; exact hq
theorem F85.law (p : Pt) (Q : Bool → Prop) (hq : Q (ptOk p)) : F85.E p Q := by
 unfold F85.E
 unfold ptOk at hq
 refine F50.law _ _ _ _ ?_
 change if inR p.X = true then _ else _
 cases h : inR p.X with
 | true => rw [if_pos rfl]; rw [h, Bool.true_and] at hq; exact F50.law _ _ _ _ hq
 | false => rw [if_neg RD]; rw [h, Bool.false_and] at hq; exact hq
theorem F30.law (s : Shape) (Q : Bool → Prop) (hl : s.Pts.length ≤ 1048576) (hq : Q (shapeOk s)) : F30.E s Q := by
 unfold F30.E
 unfold shapeOk ptsOk at hq
 refine loop_all s.Pts.length (fun k => ptOk (nth s.Pts (k : Int)) && (decide (k = 0) || !(decide (nth s.Pts ((k : Int) - 1) = nth s.Pts (k : Int))))) (fun I mu k hk hp hn => ?_) (fun ha => ?_)
 ·refine ⟨OM, _, F85.law _ _ rfl, ?_⟩
  have bad : (ptOk (nth s.Pts (k : Int)) && (decide (k = 0) || !(decide (nth s.Pts ((k : Int) - 1) = nth s.Pts (k : Int))))) = false → Q false := fun h => by
   rw [allN_false hk h, Bool.false_and] at hq; exact hq
  cases h1 : ptOk (nth s.Pts (k : Int)) with
  | false => rw [if_pos RD]; exact bad (by rw [h1]; rfl)
  | true =>
   rw [if_neg RD]
   by_cases hk0 : k = 0
   ·rw [if_neg (by rw [decide_eq_true_eq]; omega)]
    obtain ⟨i1, i2⟩ := hn (by rw [h1, decide_eq_true hk0]; rfl)
    exact ⟨by unfold I64; omega, i1, i2⟩
   ·rw [if_pos (by rw [decide_eq_true_eq]; omega)]
    refine ⟨by unfold I64; omega, OM, ?_⟩
    rw [eqPt_is]
    by_cases he : nth s.Pts ((k : Int) - 1) = nth s.Pts (k : Int)
    ·rw [if_pos (by rw [decide_eq_true_eq]; exact he)]
     exact bad (by rw [h1, decide_eq_false hk0, decide_eq_true he]; rfl)
    ·rw [if_neg (by rw [decide_eq_true_eq]; exact he)]
     obtain ⟨i1, i2⟩ := hn (by simp only [h1, decide_eq_false hk0, decide_eq_false he]; rfl)
     exact ⟨by unfold I64; omega, i1, i2⟩
 ·rw [allN_true ha, Bool.true_and] at hq
  unfold kindOk at hq
  by_cases k1 : s.Kind = 1
  ·rw [if_pos k1] at hq
   rw [if_pos (by rw [beq_iff_eq]; exact k1)]
   have : ((s.Pts.length : Int) == 1) = decide (s.Pts.length = 1) := by rw [Bool.eq_iff_iff, beq_iff_eq, decide_eq_true_eq]; omega
   rw [this]; exact hq
  rw [if_neg k1] at hq
  rw [if_neg (by rw [beq_iff_eq]; exact k1)]
  have e2 : decide ((2 : Int) ≤ (s.Pts.length : Int)) = decide (2 ≤ s.Pts.length) := decide_eq_decide.2 OM
  have e3 : decide ((3 : Int) ≤ (s.Pts.length : Int)) = decide (3 ≤ s.Pts.length) := decide_eq_decide.2 OM
  have e6 : decide ((s.Pts.length : Int) ≤ 6) = decide (s.Pts.length ≤ 6) := decide_eq_decide.2 OM
  by_cases k2 : s.Kind = 2
  ·rw [if_pos k2] at hq
   rw [if_pos (by rw [beq_iff_eq]; exact k2)]
   refine F50.law _ _ _ _ ?_
   rw [e2, e6]; exact hq
  rw [if_neg k2] at hq
  rw [if_neg (by rw [beq_iff_eq]; exact k2)]
  by_cases k3 : s.Kind = 3
  ·rw [if_pos k3] at hq
   rw [if_pos (by rw [beq_iff_eq]; exact k3), F50.m_is, e3, e6]
   cases hc : decide (3 ≤ s.Pts.length) && decide (s.Pts.length ≤ 6) with
   | true =>
    rw [hc, Bool.true_and] at hq
    rw [Bool.and_eq_true, decide_eq_true_eq, decide_eq_true_eq] at hc
    rw [if_pos rfl, eqPt_is]
    exact ⟨OM, fun _ => by unfold I64; omega, OM, hq⟩
   | false =>
    rw [hc, Bool.false_and] at hq
    rw [if_neg RD]; exact hq
  ·rw [if_neg k3] at hq
   rw [if_neg (by rw [beq_iff_eq]; exact k3)]; exact hq
theorem F53.law (f : Feat) (Q : Bool → Prop) (hb : bulk f ≤ 1048576) (hq : Q (featOk f)) : F53.E f Q := by
 unfold F53.E
 unfold featOk at hq
 have b1 : bulk f = bulk f.Id + bulk f.Shape + bulk f.Tags := rfl
 have b2 : bulk f.Shape = bulk f.Shape.Kind + bulk f.Shape.Pts := rfl
 have l1 := bulk_len f.Tags; have l2 := bulk_len f.Shape.Pts; have l3 := bulk_len f.Id
 have core : (tagsOk f.Tags = true → F51.E f.Id (fun r3 => (if r3 then F30.E f.Shape (fun r4 => (if r4 then Q (decide ((f.Tags.length : Int) ≤ 4)) else Q false)) else Q false))) := fun ha => by
  rw [ha, Bool.true_and] at hq
  refine F51.law _ _ OM ?_
  cases h1 : wordOk f.Id with
  | false => rw [h1, Bool.and_false, Bool.false_and] at hq; rw [if_neg RD]; exact hq
  | true =>
   rw [h1, Bool.and_true] at hq
   rw [if_pos rfl]
   refine F30.law _ _ OM ?_
   cases h2 : shapeOk f.Shape with
   | false => rw [h2, Bool.and_false] at hq; rw [if_neg RD]; exact hq
   | true =>
    rw [h2, Bool.and_true] at hq; rw [if_pos rfl]
    have e2 : decide ((f.Tags.length : Int) ≤ 4) = decide (f.Tags.length ≤ 4) := decide_eq_decide.2 OM
    rw [e2]; exact hq
 have bad : tagsOk f.Tags = false → Q false := fun h => by
  rw [h, Bool.false_and, Bool.false_and, Bool.false_and] at hq; exact hq
 unfold tagsOk at core bad
 refine loop_all f.Tags.length (fun k => wordOk (nth f.Tags (k : Int)).Key && wordOk (nth f.Tags (k : Int)).Val && (decide (k = 0) || Op.bytesLess (nth f.Tags ((k : Int) - 1)).Key (nth f.Tags (k : Int)).Key)) (fun I mu k hk hp hn => ?_) (fun ha => core (allN_true ha))
 have bad := fun h => bad (allN_false hk h)
 have m1 := bulk_mem (nth_mem f.Tags hk)
 have m2 : bulk (nth f.Tags (k : Int)) = bulk (nth f.Tags (k : Int)).Key + bulk (nth f.Tags (k : Int)).Val := rfl
 have m3 := bulk_len (nth f.Tags (k : Int)).Key; have m4 := bulk_len (nth f.Tags (k : Int)).Val
 refine ⟨OM, _, F51.law _ _ OM rfl, ?_⟩
 cases h1 : wordOk (nth f.Tags (k : Int)).Key with
 | false => rw [if_pos RD]; exact bad (by rw [h1]; rfl)
 | true =>
  rw [if_neg RD]
  refine ⟨_, F51.law _ _ OM rfl, ?_⟩
  cases h2 : wordOk (nth f.Tags (k : Int)).Val with
  | false => rw [if_pos RD]; exact bad (by rw [h2, Bool.and_false]; rfl)
  | true =>
   rw [if_neg RD]
   by_cases hk0 : k = 0
   ·rw [if_neg (by rw [decide_eq_true_eq]; omega)]
    obtain ⟨i1, i2⟩ := hn (by rw [h1, h2, decide_eq_true hk0]; rfl)
    exact ⟨by unfold I64; omega, i1, i2⟩
   ·rw [if_pos (by rw [decide_eq_true_eq]; omega)]
    refine ⟨by unfold I64; omega, OM, ?_⟩
    cases h3 : Op.bytesLess (nth f.Tags ((k : Int) - 1)).Key (nth f.Tags (k : Int)).Key with
    | false => rw [if_pos RD]; exact bad (by rw [h3, h1, h2, decide_eq_false hk0]; rfl)
    | true =>
     rw [if_neg RD]
     obtain ⟨i1, i2⟩ := hn (by rw [h3, h1, h2, decide_eq_false hk0]; rfl)
     exact ⟨by unfold I64; omega, i1, i2⟩
theorem F54.law (id : Str) (has : Bool) (f : Feat) (Q : Bool → Prop) (hb : bulk f ≤ 1048576) (hq : Q (sideOk id has f)) : F54.E id has f Q := by
 unfold F54.E
 unfold sideOk at hq
 cases has with
 | false => rw [if_pos RD]; rw [if_neg RD] at hq; exact F52.law _ _ hq
 | true =>
  rw [if_neg RD]; rw [if_pos rfl] at hq
  refine F53.law _ _ hb ?_
  cases h : featOk f with
  | false => rw [h] at hq; rw [if_neg RD]; exact hq
  | true =>
   rw [h, Bool.true_and] at hq; rw [if_pos rfl]
   have : (f.Id == id) = decide (f.Id = id) := by rw [Bool.eq_iff_iff, beq_iff_eq, decide_eq_true_eq]
   rw [this]; exact hq
theorem F2.law (a b : List Tag) (Q : Bool → Prop) (hb : a.length ≤ 1048576) (hq : Q (decide (a = b))) : F2.E a b Q := by
 unfold F2.E
 exact eqI_shape eqTag eqTag_is a b Q hb hq
theorem F5.law (a b : List Pt) (Q : Bool → Prop) (hb : a.length ≤ 1048576) (hq : Q (decide (a = b))) : F5.E a b Q := by
 unfold F5.E
 exact eqI_shape eqPt eqPt_is a b Q hb hq
theorem F14.law (a b : Shape) (Q : Bool → Prop) (hl : a.Pts.length ≤ 1048576) (hq : Q (decide (a = b))) : F14.E a b Q := by
 unfold F14.E
 by_cases h : a.Kind = b.Kind
 ·rw [if_pos (by rw [beq_iff_eq]; exact h)]
  refine F5.law _ _ _ OM ?_
  have : decide (a.Pts = b.Pts) = decide (a = b) := decide_eq_decide.2 (by rw [Shape.ext_iff']; exact ⟨fun e => ⟨h, e⟩, fun e => e.2⟩)
  rw [this]; exact hq
 ·rw [if_neg (by rw [beq_iff_eq]; exact h)]
  rw [decide_eq_false (by rw [Shape.ext_iff']; exact fun e => h e.1)] at hq; exact hq
theorem F22.law (a b : Feat) (Q : Bool → Prop) (hl : a.Shape.Pts.length ≤ 1048576 ∧ a.Tags.length ≤ 1048576) (hq : Q (decide (a = b))) : F22.E a b Q := by
 unfold F22.E
 by_cases h : a.Id = b.Id
 ·rw [if_pos (by rw [beq_iff_eq]; exact h)]
  refine F14.law _ _ _ OM ?_
  by_cases h2 : a.Shape = b.Shape
  ·rw [decide_eq_true h2, if_pos rfl]
   refine F2.law _ _ _ OM ?_
   have : decide (a.Tags = b.Tags) = decide (a = b) := decide_eq_decide.2 (by rw [Feat.ext_iff']; exact ⟨fun e => ⟨h, h2, e⟩, fun e => e.2.2⟩)
   rw [this]; exact hq
  ·rw [decide_eq_false h2, if_neg RD]
   rw [decide_eq_false (by rw [Feat.ext_iff']; exact fun e => h2 e.2.1)] at hq; exact hq
 ·rw [if_neg (by rw [beq_iff_eq]; exact h)]
  rw [decide_eq_false (by rw [Feat.ext_iff']; exact fun e => h e.1)] at hq; exact hq
theorem F3.law (c : Change) (Q : Bool → Prop) (hb : bulk c ≤ 1048576) (hq : Q (sameC c)) : F3.E c Q := by
 unfold F3.E
 unfold sameC at hq
 have b1 : bulk c = bulk c.Id + bulk c.Had + bulk c.Was + bulk c.Has + bulk c.Now := rfl
 have b2 : bulk c.Was = bulk c.Was.Id + bulk c.Was.Shape + bulk c.Was.Tags := rfl
 have b3 : bulk c.Was.Shape = bulk c.Was.Shape.Kind + bulk c.Was.Shape.Pts := rfl
 have l1 := bulk_len c.Was.Tags; have l2 := bulk_len c.Was.Shape.Pts
 by_cases h : c.Had = c.Has
 ·rw [if_pos (by rw [beq_iff_eq]; exact h)]
  rw [decide_eq_true h, Bool.true_and] at hq
  exact F22.law _ _ _ OM hq
 ·rw [if_neg (by rw [beq_iff_eq]; exact h)]
  rw [decide_eq_false h] at hq; exact hq
theorem F55.law (d : List Change) (Q : Bool → Prop) (hb : bulk d ≤ 1048576) (hq : Q (diffOk d)) : F55.E d Q := by
 unfold F55.E
 unfold diffOk at hq
 have hl := bulk_len d
 refine loop_all d.length (fun k => changeOk (nth d (k : Int)) && (decide (k = 0) || Op.bytesLess (nth d ((k : Int) - 1)).Id (nth d (k : Int)).Id)) (fun I mu k hk hp hn => ?_) (fun ha => ?_)
 ·have bad : (changeOk (nth d (k : Int)) && (decide (k = 0) || Op.bytesLess (nth d ((k : Int) - 1)).Id (nth d (k : Int)).Id)) = false → Q false := fun h => by
   rw [allN_false hk h, Bool.false_and] at hq; exact hq
  have m1 := bulk_mem (nth_mem d hk)
  have b1 : bulk (nth d (k : Int)) = bulk (nth d (k : Int)).Id + bulk (nth d (k : Int)).Had + bulk (nth d (k : Int)).Was + bulk (nth d (k : Int)).Has + bulk (nth d (k : Int)).Now := rfl
  have l1 := bulk_len (nth d (k : Int)).Id
  generalize hc : nth d (k : Int) = c at *
  refine ⟨OM, _, F51.law _ _ OM rfl, ?_⟩
  have co : ∀ a b e g : Bool, wordOk c.Id = a → sideOk c.Id c.Had c.Was = b → sideOk c.Id c.Has c.Now = e → sameC c = g → changeOk c = (a && b && e && !g) := fun a b e g h1 h2 h3 h4 => by unfold changeOk; rw [h1, h2, h3, h4]
  have rest : wordOk c.Id = true → (decide (k = 0) || Op.bytesLess (nth d ((k : Int) - 1)).Id c.Id) = true →
    (∃ q : Bool, F54.E c.Id c.Had c.Was (fun x => x = q) ∧ (if !q then Q false else (∃ q2 : Bool, F54.E c.Id c.Has c.Now (fun x => x = q2) ∧ (if !q2 then Q false else (∃ q3 : Bool, F3.E c (fun x => x = q3) ∧ (if q3 then Q false else (I64 ((k : Int) + 1)) ∧ I ((k : Int) + 1) ∧ mu ((k : Int) + 1) < mu (k : Int))))))) := fun h1 ho => by
   refine ⟨_, F54.law _ _ _ _ OM rfl, ?_⟩
   cases h2 : sideOk c.Id c.Had c.Was with
   | false => rw [if_pos RD]; exact bad (by rw [co _ _ _ _ h1 h2 rfl rfl]; rfl)
   | true =>
    rw [if_neg RD]
    refine ⟨_, F54.law _ _ _ _ OM rfl, ?_⟩
    cases h3 : sideOk c.Id c.Has c.Now with
    | false => rw [if_pos RD]; exact bad (by rw [co _ _ _ _ h1 h2 h3 rfl]; rfl)
    | true =>
     rw [if_neg RD]
     refine ⟨_, F3.law _ _ OM rfl, ?_⟩
     cases h4 : sameC c with
     | true => rw [if_pos rfl]; exact bad (by rw [co _ _ _ _ h1 h2 h3 h4]; rfl)
     | false =>
      rw [if_neg RD]
      obtain ⟨i1, i2⟩ := hn (by rw [co _ _ _ _ h1 h2 h3 h4, ho]; rfl)
      exact ⟨by unfold I64; omega, i1, i2⟩
  cases h1 : wordOk c.Id with
  | false => rw [if_pos RD]; exact bad (by rw [co _ _ _ _ h1 rfl rfl rfl]; rfl)
  | true =>
   rw [if_neg RD]
   by_cases hk0 : k = 0
   ·rw [if_neg (by rw [decide_eq_true_eq]; omega)]
    exact rest h1 (by rw [decide_eq_true hk0]; rfl)
   ·rw [if_pos (by rw [decide_eq_true_eq]; omega)]
    refine ⟨by unfold I64; omega, OM, ?_⟩
    cases h3 : Op.bytesLess (nth d ((k : Int) - 1)).Id c.Id with
    | false => rw [if_pos RD]; exact bad (by rw [h3, decide_eq_false hk0]; simp)
    | true => rw [if_neg RD]; exact rest h1 (by rw [h3, Bool.or_true])
 ·rw [allN_true ha, Bool.true_and] at hq
  have e2 : decide ((d.length : Int) ≤ 16) = decide (d.length ≤ 16) := decide_eq_decide.2 OM
  rw [e2]; exact hq
theorem F6.law (s : Shape) (h : shapeOk s = true) (Q : Str → Prop) (hq : Q (shT s)) : F6.E s Q := by
 obtain ⟨h1, h2, h3⟩ := shape_in h
 have h0 := names_len s.Kind
 unfold F6.E
 refine ⟨⟨OM, by show s.Kind < 4; omega⟩, loop_text s.Pts ptT _ 44 300 (fun p hp => ptT_len (h3 p hp)) OM (fun I mu k out hk hm ho hn => ?_) hq⟩
 have hp := h3 _ hm
 have l1 := itoa_len (nth s.Pts (k : Int)).X OM OM
 have l2 := itoa_len (nth s.Pts (k : Int)).Y OM OM
 obtain ⟨i1, i2⟩ := hn (out ++ (((([32] : Str) ++ Lib.itoa (nth s.Pts (k : Int)).X) ++ ([44] : Str)) ++ Lib.itoa (nth s.Pts (k : Int)).Y)) rfl
 refine ⟨OM, _, ⟨⟨OM, OM⟩, rfl⟩, by unfold Lim; omega, ?_, ?_, _, ⟨⟨OM, OM⟩, rfl⟩, by unfold Lim; omega, ?_, ?_, by unfold I64; omega, i1, i2⟩
 all_goals (simp only [List.length_append, List.length_cons, List.length_nil]; omega)
theorem F23.law (f : Feat) (hb : bulk f ≤ 1048576) (Q : Str → Prop) (hq : Q (featT f)) : F23.E f Q := by
 unfold F23.E
 refine F53.law _ _ hb ?_
 unfold featT at hq
 by_cases h : featOk f = true
 ·rw [if_pos h] at hq
  obtain ⟨h1, h2, _, h4, h5⟩ := feat_facts h
  have l1 := shT_len h2
  rw [h, if_neg RD]
  refine ⟨?_, _, F6.law _ h2 _ rfl, by unfold Lim; omega, ?_, loop_text f.Tags tagT _ 14 400 (fun t ht => ?_) ?_ (fun I mu k out hk hm ho hn => ?_) hq⟩
  ·simp only [List.length_cons, List.length_nil]; omega
  ·simp only [List.length_append, List.length_cons, List.length_nil]; omega
  ·have := h5 t ht
   unfold tagT
   simp only [List.length_append, List.length_cons, List.length_nil]; omega
  ·simp only [List.length_append, List.length_cons, List.length_nil]; omega
  ·have ht := h5 _ hm
   obtain ⟨i1, i2⟩ := hn (out ++ (((([32] : Str) ++ ((nth f.Tags (k : Int)).Key)) ++ ([61] : Str)) ++ ((nth f.Tags (k : Int)).Val))) rfl
   refine ⟨OM, ?_, ?_, ?_, ?_, by unfold I64; omega, i1, i2⟩
   all_goals (simp only [List.length_append, List.length_cons, List.length_nil]; omega)
 ·rw [if_neg h] at hq
  rw [Bool.eq_false_iff.2 h, if_pos RD]; exact hq
theorem F7.law (has : Bool) (f : Feat) (hb : bulk f ≤ 1048576) (Q : Str → Prop) (hq : Q (sideT has f)) : F7.E has f Q := by
 unfold F7.E
 cases has with
 | false => rw [if_pos RD]; exact hq
 | true => rw [if_neg RD]; exact F23.law _ hb _ hq
theorem F24.law (d : List Change) (hb : bulk d ≤ 1048576) (Q : Str → Prop) (hq : Q (diffT d)) : F24.E d Q := by
 unfold F24.E
 refine F55.law _ _ hb ?_
 unfold diffT at hq
 by_cases h : diffOk d = true
 ·rw [if_pos h] at hq
  obtain ⟨_, h2, h3⟩ := diff_cs h
  rw [h, if_neg RD]
  have hid : ∀ c ∈ d, c.Id.length ≤ 6 := fun c hc => by
   have := h3 c hc
   unfold changeOk at this
   simp only [Bool.and_eq_true] at this
   exact word_len this.1.1.1
  refine loop_text d lineT _ 812 13000 (fun c hc => lineT_len (hid c hc)) (by show 0 + d.length * 812 ≤ 13000; omega) (fun I mu k out hk hm ho hn => ?_) hq
  have m1 := bulk_mem hm
  have hi := hid _ hm
  have b1 : bulk (nth d (k : Int)) = bulk (nth d (k : Int)).Id + bulk (nth d (k : Int)).Had + bulk (nth d (k : Int)).Was + bulk (nth d (k : Int)).Has + bulk (nth d (k : Int)).Now := rfl
  have l1 := sideT_len (nth d (k : Int)).Had (nth d (k : Int)).Was
  have l2 := sideT_len (nth d (k : Int)).Has (nth d (k : Int)).Now
  obtain ⟨i1, i2⟩ := hn (out ++ (((((((nth d (k : Int)).Id) ++ ([58, 32] : Str)) ++ sideT (nth d (k : Int)).Had (nth d (k : Int)).Was) ++ ([32, 62, 32] : Str)) ++ sideT (nth d (k : Int)).Has (nth d (k : Int)).Now) ++ ([10] : Str))) rfl
  refine ⟨OM, ?_, F7.law _ _ OM _ ⟨?_, ?_, F7.law _ _ OM _ ⟨?_, ?_, ?_, by unfold I64; omega, i1, i2⟩⟩⟩
  all_goals (simp only [List.length_append, List.length_cons, List.length_nil]; omega)
 ·rw [if_neg h] at hq
  rw [Bool.eq_false_iff.2 h, if_pos RD]; exact hq
theorem F74.law (c : Change) (Q : Bool → Prop) (hq : Q (changeOk c)) : F74.E c Q := by
 unfold F74.E
 unfold changeOk sideOk noF sameC at hq
 have eid : ∀ f : Feat, (f.Id == c.Id) = decide (f.Id = c.Id) := fun f => by rw [Bool.eq_iff_iff, beq_iff_eq, decide_eq_true_eq]
 refine F41.law _ _ ?_
 cases hw : wordOk c.Id with
 | false => rw [hw] at hq; rw [if_pos RD]; exact hq
 | true =>
  rw [hw, Bool.true_and] at hq
  rw [if_neg RD]
  cases h1 : c.Had <;> cases h2 : c.Has
  ·-- neither
   rw [h1, h2] at hq
   rw [if_pos RD, if_pos RD]
   simp only [reduceIte, Bool.false_eq_true, Bool.true_eq_false, reduceCtorEq, if_false, if_true, eq_self, decide_true, decide_false, Bool.true_and, Bool.false_and, Bool.not_false, Bool.not_true, Bool.and_true] at hq
   have e : (decide (c.Was = (⟨[], ⟨0, []⟩, []⟩ : Feat)) && decide (c.Now = (⟨[], ⟨0, []⟩, []⟩ : Feat)) && !(decide (c.Was = c.Now))) = false := by
    by_cases a : c.Was = (⟨[], ⟨0, []⟩, []⟩ : Feat)
    ·by_cases b : c.Now = (⟨[], ⟨0, []⟩, []⟩ : Feat)
     ·rw [decide_eq_true (a.trans b.symm)]; simp
     ·rw [decide_eq_false b]; simp
    ·rw [decide_eq_false a]; rfl
   rw [e] at hq; exact hq
  ·rw [h1, h2] at hq
   simp only [reduceIte, Bool.false_eq_true, Bool.true_eq_false, reduceCtorEq, if_false, if_true, eq_self, decide_true, decide_false, Bool.true_and, Bool.false_and, Bool.not_false, Bool.not_true, Bool.and_true] at hq
   rw [if_pos RD, if_neg RD, if_neg RD]
   refine F19.law _ _ _ ?_
   cases ha : decide (c.Was = (⟨[], ⟨0, []⟩, []⟩ : Feat)) with
   | false => rw [ha] at hq; rw [if_pos RD]; exact hq
   | true =>
    rw [ha, Bool.true_and] at hq
    rw [if_neg RD]
    refine F45.law _ _ ?_
    cases hf : featOk c.Now with
    | false => rw [hf] at hq; rw [if_neg RD]; exact hq
    | true => rw [hf, Bool.true_and] at hq; rw [if_pos rfl, eid]; exact hq
  ·rw [h1, h2] at hq
   simp only [reduceIte, Bool.false_eq_true, Bool.true_eq_false, reduceCtorEq, if_false, if_true, eq_self, decide_true, decide_false, Bool.true_and, Bool.false_and, Bool.not_false, Bool.not_true, Bool.and_true] at hq
   rw [if_neg RD, if_pos rfl, if_neg RD, if_pos RD]
   refine F19.law _ _ _ ?_
   cases ha : decide (c.Now = (⟨[], ⟨0, []⟩, []⟩ : Feat)) with
   | false => rw [ha, Bool.and_false] at hq; rw [if_pos RD]; exact hq
   | true =>
    rw [ha, Bool.and_true] at hq
    rw [if_neg RD]
    refine F45.law _ _ ?_
    cases hf : featOk c.Was with
    | false => rw [hf] at hq; rw [if_neg RD]; exact hq
    | true =>
     rw [hf, Bool.true_and] at hq; rw [if_pos rfl, eid]
     cases hi : decide (c.Was.Id = c.Id) with
     | false => rw [hi] at hq; rw [if_neg RD]; exact hq
     | true => rw [hi] at hq; rw [if_pos rfl]; exact hq
  ·rw [h1, h2] at hq
   simp only [reduceIte, Bool.false_eq_true, Bool.true_eq_false, reduceCtorEq, if_false, if_true, eq_self, decide_true, decide_false, Bool.true_and, Bool.false_and, Bool.not_false, Bool.not_true, Bool.and_true] at hq
   rw [if_neg RD, if_pos rfl, if_pos rfl]
   refine F19.law _ _ _ ?_
   cases hs : decide (c.Was = c.Now) with
   | true => rw [hs, Bool.not_true, Bool.and_false] at hq; rw [if_pos rfl]; exact hq
   | false =>
    rw [hs, Bool.not_false, Bool.and_true] at hq
    rw [if_neg RD, if_neg RD]
    refine F45.law _ _ ?_
    cases hf : featOk c.Was with
    | false => rw [hf] at hq; rw [if_neg RD]; exact hq
    | true =>
     rw [hf, Bool.true_and] at hq; rw [if_pos rfl, eid]
     cases hi : decide (c.Was.Id = c.Id) with
     | false => rw [hi] at hq; rw [if_neg RD]; exact hq
     | true =>
      rw [hi, Bool.true_and] at hq; rw [if_pos rfl]
      refine F45.law _ _ ?_
      cases hg : featOk c.Now with
      | false => rw [hg] at hq; rw [if_neg RD]; exact hq
      | true => rw [hg, Bool.true_and] at hq; rw [if_pos rfl, eid]; exact hq
theorem F46.law (d : List Change) (Q : Bool → Prop) (hq : Q (diffOk d)) : F46.E d Q := by
 unfold F46.E
 unfold diffOk at hq
 refine loop_all d.length (fun k => changeOk (nth d (k : Int)) && (decide (k = 0) || Op.bytesLess (nth d ((k : Int) - 1)).Id (nth d (k : Int)).Id)) (fun I mu k hk hp hn => ?_) (fun ha => ?_)
 ·have bad : (changeOk (nth d (k : Int)) && (decide (k = 0) || Op.bytesLess (nth d ((k : Int) - 1)).Id (nth d (k : Int)).Id)) = false → Q false := fun h => by
   rw [allN_false hk h, Bool.false_and] at hq; exact hq
  refine ⟨OM, _, F74.law _ _ rfl, ?_⟩
  cases h1 : changeOk (nth d (k : Int)) with
  | false => rw [if_pos RD]; exact bad (by rw [h1]; rfl)
  | true =>
   rw [if_neg RD]
   by_cases hk0 : k = 0
   ·rw [if_neg (by rw [decide_eq_true_eq]; omega)]
    obtain ⟨i1, i2⟩ := hn (by rw [h1, decide_eq_true hk0]; rfl)
    exact ⟨OM, i1, i2⟩
   ·rw [if_pos (by rw [decide_eq_true_eq]; omega)]
    refine ⟨OM, fun _ => by unfold I64; omega, OM, ?_⟩
    rw [← less_tri]
    cases h3 : Op.bytesLess (nth d ((k : Int) - 1)).Id (nth d (k : Int)).Id with
    | false => rw [if_pos RD]; exact bad (by rw [h3, h1, decide_eq_false hk0]; rfl)
    | true =>
     rw [if_neg RD]
     obtain ⟨i1, i2⟩ := hn (by rw [h3, h1, decide_eq_false hk0]; rfl)
     exact ⟨OM, i1, i2⟩
 ·rw [allN_true ha, Bool.true_and] at hq
  have e2 : decide ((d.length : Int) ≤ 16) = decide (d.length ≤ 16) := decide_eq_decide.2 OM
  rw [e2]; exact hq
theorem l12Dec_pos (R : Int → (Str → Prop) → Prop) (n : Int) (h0 : 0 ≤ n) (h1 : n ≤ 4611686018427387904) (Q : Str → Prop) (hq : Q (Lib.itoa n)) : F48.Er R n Q := by
 unfold F48.Er
 rw [if_neg (by rw [decide_eq_true_eq]; omega), if_neg (by rw [decide_eq_true_eq]; omega)]
 have hl := decDigits_len n.toNat 19 OM
 have hi : Lib.itoa n = Lib.decDigits n.toNat := by unfold Lib.itoa; rw [if_neg OM]
 refine ⟨fun k out => 0 ≤ k ∧ k ≤ n ∧ Lib.decDigits n.toNat = Lib.decDigits k.toNat ++ out, fun k _ => k.toNat, ⟨h0, Int.le_refl _, by simp⟩, ?_⟩
 rintro k out ⟨k0, kn, e⟩
 have hlen : (Lib.decDigits k.toNat).length + out.length ≤ 20 := by rw [e, List.length_append] at hl; exact hl
 by_cases hk : k > 9
 ·rw [if_pos (by simpa using hk)]
  have d : [(UInt8.ofNat (48 + k % 10).toNat)] = [UInt8.ofNat (48 + k.toNat % 10)] := by congr 2; omega
  have e2 : Lib.decDigits k.toNat = Lib.decDigits (k / 10).toNat ++ [UInt8.ofNat (48 + k.toNat % 10)] := by
   conv => lhs; rw [Lib.decDigits]
   rw [dif_neg OM]
   congr 2; omega
  refine ⟨⟨k0, by decide⟩, by unfold I64; omega, OM, ?_, OM, ⟨OM, OM, ?_⟩, by dsimp only; omega⟩
  ·simp only [List.length_cons, List.length_nil]; omega
  ·rw [e, e2, d, List.append_assoc]
 ·rw [if_neg (by simpa using hk)]
  have e2 : Lib.decDigits k.toNat = [UInt8.ofNat (48 + k).toNat] := by
   rw [Lib.decDigits, dif_pos OM]
   congr 2; omega
  refine ⟨by unfold I64; omega, OM, ?_, ?_⟩
  ·simp only [List.length_cons, List.length_nil]; omega
  ·rw [← e2, ← e, ← hi]; exact hq
theorem F48.law (n : Int) (h0 : -4611686018427387904 ≤ n) (h1 : n ≤ 4611686018427387904) (Q : Str → Prop) (hq : Q (Lib.itoa n)) : F48.E n Q := by
 unfold F48.E
 by_cases hn : 0 ≤ n
 ·exact l12Dec_pos _ n hn h1 Q hq
 ·unfold F48.Er
  rw [if_neg (by rw [decide_eq_true_eq]; omega), if_pos (by rw [decide_eq_true_eq]; omega)]
  have hl := itoa_len (-n) OM OM
  refine ⟨by unfold I64; omega, l12Dec_pos _ (-n) OM OM _ ⟨?_, ?_⟩⟩
  ·simp only [List.length_cons, List.length_nil]; omega
  ·have : [45] ++ Lib.itoa (-n) = Lib.itoa n := by
    unfold Lib.itoa
    rw [if_neg OM, if_pos OM]
    have : (-n).toNat = n.natAbs := by omega
    rw [this]; rfl
   rw [this]; exact hq
theorem F47.law (k : Int) (h : 0 ≤ k ∧ k < 4) (Q : Str → Prop) (hq : Q (nth shapeNamesL k)) : F47.E k Q := by
 unfold F47.E
 exact ⟨⟨h.1, by show k < 4; omega⟩, hq⟩
theorem F13.law (s : Shape) (h : shapeOk s = true) (hl : s.Pts.length ≤ 1048576) (Q : Str → Prop) (hq : Q (shT s)) : F13.E s Q := by
 obtain ⟨h1, h2, h3⟩ := shape_in h
 have h0 := names_len s.Kind
 unfold F13.E
 refine F29.law _ _ ?_
 rw [h, if_neg RD]
 refine F47.law _ OM _ (loop_text s.Pts ptT _ 44 300 (fun p hp => ptT_len (h3 p hp)) OM (fun I mu k out hk hm ho hn => ?_) hq)
 have hp := h3 _ hm
 have l1 := itoa_len (nth s.Pts (k : Int)).X OM OM
 have l2 := itoa_len (nth s.Pts (k : Int)).Y OM OM
 obtain ⟨i1, i2⟩ := hn ((((out ++ ([32] : Str)) ++ Lib.itoa (nth s.Pts (k : Int)).X) ++ ([44] : Str)) ++ Lib.itoa (nth s.Pts (k : Int)).Y) (by unfold ptT; simp only [List.append_assoc])
 refine ⟨?_, OM, _, F48.law _ OM OM _ rfl, by unfold Lim; omega, ?_, ?_, OM, _, F48.law _ OM OM _ rfl, by unfold Lim; omega, ?_, OM, i1, i2⟩
 all_goals (simp only [List.length_append, List.length_cons, List.length_nil]; omega)
theorem F20.law (f : Feat) (hb : bulk f ≤ 1048576) (Q : Str → Prop) (hq : Q (featT f)) : F20.E f Q := by
 unfold F20.E
 refine F45.law _ _ ?_
 unfold featT at hq
 by_cases h : featOk f = true
 ·rw [if_pos h] at hq
  obtain ⟨h1, h2, h3, h4, h5⟩ := feat_facts h
  have l1 := shT_len h2
  rw [h, if_neg RD]
  refine ⟨?_, _, F13.law _ h2 OM _ rfl, by unfold Lim; omega, ?_, loop_text f.Tags tagT _ 14 400 (fun t ht => ?_) ?_ (fun I mu k out hk hm ho hn => ?_) hq⟩
  ·simp only [List.length_cons, List.length_nil]; omega
  ·simp only [List.length_append, List.length_cons, List.length_nil]; omega
  ·have := h5 t ht
   unfold tagT
   simp only [List.length_append, List.length_cons, List.length_nil]; omega
  ·simp only [List.length_append, List.length_cons, List.length_nil]; omega
  ·have ht := h5 _ hm
   obtain ⟨i1, i2⟩ := hn ((((out ++ ([32] : Str)) ++ ((nth f.Tags (k : Int)).Key)) ++ ([61] : Str)) ++ ((nth f.Tags (k : Int)).Val)) (by unfold tagT; simp only [List.append_assoc])
   refine ⟨?_, OM, ?_, ?_, OM, ?_, OM, i1, i2⟩
   all_goals (simp only [List.length_append, List.length_cons, List.length_nil]; omega)
 ·rw [if_neg h] at hq
  rw [Bool.eq_false_iff.2 h, if_pos RD]; exact hq
theorem F49.law (f : Feat) (is : Bool) (hb : bulk f ≤ 1048576) (Q : Str → Prop) (hq : Q (sideT is f)) : F49.E f is Q := by
 unfold F49.E
 cases is with
 | false => rw [if_pos RD]; exact hq
 | true => rw [if_neg RD]; exact F20.law _ hb _ hq
theorem F21.law (d : List Change) (hb : bulk d ≤ 1048576) (Q : Str → Prop) (hq : Q (diffT d)) : F21.E d Q := by
 unfold F21.E
 unfold diffT at hq
 by_cases h : diffOk d = true
 ·rw [if_pos h] at hq
  obtain ⟨_, h2, h3⟩ := diff_cs h
  have hid : ∀ c ∈ d, c.Id.length ≤ 6 := fun c hc => by
   have := h3 c hc
   unfold changeOk at this
   simp only [Bool.and_eq_true] at this
   exact word_len this.1.1.1
  refine loop_text d lineT _ 812 13000 (fun c hc => lineT_len (hid c hc)) (by show 0 + d.length * 812 ≤ 13000; omega) (fun I mu k out hk hm ho hn => ?_) hq
  refine F46.law _ _ ?_
  rw [h, if_pos rfl]
  have m1 := bulk_mem hm
  have hi := hid _ hm
  have b1 : bulk (nth d (k : Int)) = bulk (nth d (k : Int)).Id + bulk (nth d (k : Int)).Had + bulk (nth d (k : Int)).Was + bulk (nth d (k : Int)).Has + bulk (nth d (k : Int)).Now := rfl
  have l1 := sideT_len (nth d (k : Int)).Had (nth d (k : Int)).Was
  have l2 := sideT_len (nth d (k : Int)).Has (nth d (k : Int)).Now
  obtain ⟨i1, i2⟩ := hn ((((((out ++ ((nth d (k : Int)).Id)) ++ ([58, 32] : Str)) ++ sideT (nth d (k : Int)).Had (nth d (k : Int)).Was) ++ ([32, 62, 32] : Str)) ++ sideT (nth d (k : Int)).Has (nth d (k : Int)).Now) ++ ([10] : Str)) (by unfold lineT; simp only [List.append_assoc])
  refine ⟨OM, ?_, ?_, OM, OM, _, F49.law _ _ OM _ rfl, by unfold Lim; omega, ?_, ?_, OM, OM, _, F49.law _ _ OM _ rfl, by unfold Lim; omega, ?_, ?_, OM, i1, i2⟩
  all_goals ((try simp only [List.length_append, List.length_cons, List.length_nil]); omega)
 ·rw [if_neg h] at hq
  have e : diffOk d = false := Bool.eq_false_iff.2 h
  refine ⟨fun out i => out = [] ∧ i = 0, fun _ _ => 0, ⟨rfl, rfl⟩, ?_⟩
  rintro _ _ ⟨rfl, rfl⟩
  by_cases h0 : (0 : Int) < (d.length : Int)
  ·rw [if_pos (by simpa using h0)]
   refine F46.law _ _ ?_
   rw [e, if_neg RD]; exact hq
  ·rw [if_neg (by simpa using h0)]; exact hq
theorem no_sides (id : Str) (w n : Feat) : changeOk ⟨id, false, w, false, n⟩ = false := by
 unfold changeOk sideOk noF sameC
 dsimp only
 by_cases h1 : w = ⟨[], ⟨0, []⟩, []⟩
 ·by_cases h2 : n = ⟨[], ⟨0, []⟩, []⟩
  ·subst h1; subst h2; simp
  ·simp [h2]
 ·simp [h1]
theorem no_turn (id : Str) (w : Feat) : changeOk ⟨id, true, w, true, w⟩ = false := by
 unfold changeOk sameC; simp
theorem no_name {c : Change} (h : changeOk c = true) {id : Str} (hi : c.Id ≠ id) : changeOk ⟨id, c.Had, c.Was, c.Has, c.Now⟩ = false := by
 cases k : changeOk ⟨id, c.Had, c.Was, c.Has, c.Now⟩ with
 | false => rfl
 | true =>
  exfalso
  unfold changeOk at h k
  simp only [Bool.and_eq_true] at h k
  obtain ⟨⟨⟨_, h2⟩, h3⟩, h4⟩ := h
  obtain ⟨⟨⟨_, k2⟩, k3⟩, _⟩ := k
  unfold sideOk at h2 h3 k2 k3
  cases e1 : c.Had with
  | true =>
   rw [e1, if_pos rfl] at h2 k2
   simp only [Bool.and_eq_true, decide_eq_true_eq] at h2 k2
   exact hi (h2.2.symm.trans k2.2)
  | false =>
  cases e2 : c.Has with
  | true =>
   rw [e2, if_pos rfl] at h3 k3
   simp only [Bool.and_eq_true, decide_eq_true_eq] at h3 k3
   exact hi (h3.2.symm.trans k3.2)
  | false =>
   rw [e1, if_neg RD] at h2
   rw [e2, if_neg RD] at h3
   have w1 := of_decide_eq_true h2
   have w2 := of_decide_eq_true h3
   unfold sameC at h4
   rw [e1, e2, w1, w2] at h4
   simp at h4
theorem bad_set {d : List Change} {k : Nat} {c : Change} (hk : k < d.length) (hc : changeOk c = false) : diffOk (d.set k c) = false := by
 cases h : diffOk (d.set k c) with
 | false => rfl
 | true =>
  have := (diff_cs h).2.2 c (List.mem_set hk c)
  rw [hc] at this; cases this
theorem bad_two {d : List Change} {c : Change} (hc : c ∈ d) : diffOk (d ++ [c]) = false := by
 cases h : diffOk (d ++ [c]) with
 | false => rfl
 | true =>
  have h1 := (diff_cs h).1
  unfold CS at h1
  have := (List.pairwise_append.1 h1).2.2 c hc c (List.mem_singleton.2 rfl)
  rw [less_irr] at this; cases this
theorem laws_FnDiffBent.gen (code : List UInt8) (Q : Bool → Prop) (hq : Q true) : laws_FnDiffBent.E code Q := by
 unfold laws_FnDiffBent.E
 by_cases c1 : (code.length : Int) > 1048576
 ·rw [if_pos (by simpa using c1)]; exact hq
 rw [if_neg (by simpa using c1)]
 refine F9.law _ _ fun d ld hd hz => F1.law _ _ fun t lt ht => ?_
 have bd := cb_bulk ld hd
 have bt := cb_bulk lt ht
 refine F55.law _ _ bd (F46.law _ _ ?_)
 rw [if_neg (by simp)]
 refine F24.law _ bt _ (F21.law _ bt _ ?_)
 rw [if_neg (by simp)]
 refine F46.law _ _ ?_
 cases kd : diffOk d with
 | false => rw [if_pos RD]; exact hq
 | true =>
 rw [if_neg RD]
 by_cases h0 : (d.length : Int) = 0
 ·rw [if_pos (by simpa using h0)]; exact hq
 rw [if_neg (by simpa using h0)]
 obtain ⟨_, dl, dc⟩ := diff_cs kd
 obtain ⟨k, hk⟩ : ∃ k : Nat, (d.length : Int) - 1 = (k : Int) := ⟨d.length - 1, OM⟩
 have kl : k < d.length := by omega
 rw [hk]
 simp only [List.nil_append, Int.toNat_natCast, List.length_nil, List.length_set, List.length_append, List.length_cons]
 have hm := nth_mem d kl
 have n1 : ∀ c : Change, nth (d.set k c) (k : Int) = c := fun c => by rw [nth_nat _ (by rw [List.length_set]; exact kl)]; exact List.getElem_set_self _
 rw [n1]
 dsimp only
 generalize nth d (k : Int) = c at hm
 have cc := dc c hm
 have cb := hd c hm
 have ci := hz c hm
 have r : (0 : Int) ≤ (k : Int) ∧ (k : Int) < (d.length : Int) := by omega
 have bs : ∀ x : Change, CB x → bulk (d.set k x) ≤ 1048576 := fun x hx => cb_bulk (by rw [List.length_set]; exact ld) (cb_set hd hx)
 have bs2 : ∀ x y : Change, CB x → CB y → bulk ((d.set k x).set k y) ≤ 1048576 := fun x y hx hy => cb_bulk (by rw [List.length_set, List.length_set]; exact ld) (cb_set (cb_set hd hx) hy)
 refine ⟨fun _ _ => by unfold I64; omega, r, OM, OM, OM, r, r, OM, r, OM, r, r, r, r, ?_⟩
 refine F55.law _ _ (cb_bulk (by simp only [List.length_append, List.length_cons, List.length_nil]; omega) fun x hx => ?_) ?_
 ·rcases List.mem_append.1 hx with hx | hx
  ·exact hd x hx
  ·rw [List.mem_singleton.1 hx]; exact cb
 rw [bad_two hm, if_pos RD]
 refine F55.law _ _ (bs2 _ _ ⟨cb.id, cb.was, cb.now⟩ ⟨cb.id, cb.was, cb.now⟩) ?_
 rw [bad_set (by rw [List.length_set]; exact kl) (no_sides _ _ _), if_pos RD]
 refine F55.law _ _ (bs _ ⟨(by decide : ([122, 122, 122] : Str).length ≤ 7), cb.was, cb.now⟩) ?_
 rw [bad_set kl (no_name cc ci), if_pos RD]
 refine F55.law _ _ (bs _ ⟨cb.id, cb.now, cb.now⟩) ?_
 rw [bad_set kl (no_turn _ _), if_pos RD]
 have sub : ((d.drop (1 : Int).toNat).take (d.length - (1 : Int).toNat)).Sublist d := (List.take_sublist _ _).trans (List.drop_sublist _ _)
 refine ⟨OM, F55.law _ _ (cb_bulk (Nat.le_trans sub.length_le ld) fun x hx => hd x (sub.subset hx)) ?_⟩
 rw [diff_sub kd sub]; exact hq
theorem laws_FnDiffBent.law (code : List UInt8) (_ : ∀ x ∈ code, True) : laws_FnDiffBent.E code (fun r => r = true) := laws_FnDiffBent.gen code _ rfl
theorem laidVars_at {P : Program} {w : World} : ∀ {l : List (String × DataW Unit)} {ps : List MemPlace} {i : Nat} {n : String} {d : DataW Unit}, DataW.LaidVars P w l ps → l[i]? = some (n, d) →
  ∃ g t cs fuel p, P.globalNamed n = some g ∧ (P.globals[g]?).map (·.type) = some t ∧ w.var? P n = some cs ∧ DataW.trod (fun _ => ()) P w 0 (fun _ => true) false fuel t cs.toList = some (d, p) ∧ ∀ x ∈ MemPlace.row ⟨g, 0, none⟩ cs.size, x ∈ ps
 | [], _, _, _, _, _, h => by simp at h
 | (n', d') :: r, _, 0, n, d, ⟨g, t, cs, fuel, p, q, h1, h2, h3, h4, h5, e⟩, h => by
  simp only [List.getElem?_cons_zero, Option.some.injEq, Prod.mk.injEq] at h
  obtain ⟨rfl, rfl⟩ := h
  exact ⟨g, t, cs, fuel, p, h1, h2, h3, h4, fun x hx => by rw [e]; simp [hx]⟩
 | _ :: r, _, i + 1, n, d, ⟨g, t, cs, fuel, p, q, h1, h2, h3, h4, h5, e⟩, h => by
  obtain ⟨g', t', cs', f', p', a1, a2, a3, a4, a5⟩ := laidVars_at h5 (by simpa using h)
  exact ⟨g', t', cs', f', p', a1, a2, a3, a4, fun x hx => by rw [e]; simp [a5 x hx]⟩
theorem laid_box {P : Program} {w : World} {l : List (String × DataW Unit)} {i : Nat} {n : String} {d : DataW Unit} {g : Nat} {t : TypeId} (hL : laidMet P l w) (hi : l[i]? = some (n, d)) (hg : P.globalNamed n = some g) (ht : (P.globals[g]?).map (·.type) = some t) :
  ∃ cs fuel p, w.var? P n = some cs ∧ DataW.trod (fun _ => ()) P w 0 (fun _ => true) false fuel t cs.toList = some (d, p) ∧ (0 < cs.size → Bx w g cs.toList) := by
 obtain ⟨ps, h1, _, h3⟩ := hL
 obtain ⟨g', t', cs, fuel, p, a1, a2, a3, a4, a5⟩ := laidVars_at h1 hi
 obtain rfl := Option.some.inj (hg.symm.trans a1)
 obtain rfl := Option.some.inj (ht.symm.trans a2)
 refine ⟨cs, fuel, p, a3, a4, fun h0 => ?_⟩
 obtain ⟨⟨c, t', hh⟩, _⟩ := h3 g 0 (a5 _ (by unfold MemPlace.row; exact List.mem_map.2 ⟨0, List.mem_range.2 h0, rfl⟩))
 unfold World.var? at a3
 rw [hg] at a3
 simp only [Option.bind_some, hh, Option.some.injEq] at a3
 subst a3
 exact ⟨t', by rw [hh]⟩
theorem arr_vs {w : World} {S : Sp} : ∀ {ls : List Str}, (∀ x ∈ ls, Lim x) → Arr Kd.str w S ls (ls.map vs)
 | [], _ => rfl
 | x :: l, h => ⟨[vs x], l.map vs, rfl, ⟨rfl, h x (List.mem_cons_self ..)⟩, arr_vs fun y hy => h y (List.mem_cons_of_mem _ hy)⟩
theorem laid_strs {P : Program} {H : Type} {enc : TypeId × Value → H} {w : World} {t e : TypeId} {held : Bool} (ht : P.underlying t = some (.slice e)) (he : P.underlying e = some .string) (hce : P.cellsOf e = 1) {fuel : Nat} {cs : List Value} {ls : List Str} {p : List MemPlace} (hlim : ∀ x ∈ ls, Lim x)
  (h : DataW.trod enc P w 0 (fun _ => true) held fuel t cs = some (.slice (ls.map fun s => .lit (.string s)) [], p)) : ∃ A : Option Addr, cs = [.slice A ls.length ls.length] ∧ Sl Kd.str w (Fr []) (.slice A ls.length ls.length) ls := by
 rcases DataW.trod_slice ht h with ⟨_, e0⟩ | ⟨a, len, cap, elems, rest, n, _, rfl, hx, _, hl, hm, hlen, hel, hsp, _⟩
 ·simp only [Prod.mk.injEq, reduceCtorEq, false_and] at e0
 ·simp only [Prod.mk.injEq, DataW.slice.injEq] at hx
  obtain ⟨⟨hx1, hx2⟩, _⟩ := hx
  obtain ⟨hr, _⟩ := hsp rfl
  have hr0 : rest = [] := by
   cases rest with
   | nil => rfl
   | cons r rs => simp at hx2
  have hl2 : len = ls.length := by
   have := congrArg List.length hx1
   simp only [List.length_map] at this
   omega
  have hcl : cap = ls.length := by rw [hr0] at hr; simp at hr; omega
  subst hcl; subst hl2
  refine ⟨some a, rfl, some a, ls.length, ls.map vs, rfl, ⟨Nat.le_refl _, hm⟩, arr_vs hlim, fun j u hj => ⟨a, rfl, by simp [Fr], ?_⟩⟩
  have hjl : j < ls.length := by
   rcases Nat.lt_or_ge j ls.length with hq | hq
   ·exact hq
   ·rw [List.getElem?_eq_none (by simpa using hq)] at hj; cases hj
  have he' := hel j hjl
  rw [List.getElem?_eq_getElem OM, Option.bind_eq_some_iff] at he'
  obtain ⟨ci, hci, hti⟩ := he'
  obtain ⟨_, hcl, hcc⟩ := World.cells?_some hci
  obtain ⟨s, hs1, hs2, _⟩ := DataW.trod_string he hti
  have e1 : (ls.map fun s => (DataW.lit (.string s) : DataW H))[j]? = (elems.map (·.1))[j]? := by rw [hx1]
  rw [List.getElem?_map, List.getElem?_map, List.getElem?_eq_getElem hjl, List.getElem?_eq_getElem OM, hs2] at e1
  simp only [Option.map_some, Option.some.injEq, DataW.lit.injEq, Lit.string.injEq] at e1
  rw [List.getElem?_map, List.getElem?_eq_getElem hjl] at hj
  simp only [Option.map_some, Option.some.injEq] at hj
  have h0 := hcc 0 (by rw [hce]; omega)
  rw [hs1, add_add, hce, Nat.mul_one, Nat.add_zero] at h0
  rw [h0, ← hj, e1]
  simp [vs]
theorem glob_laid {W : World} {l : List (String × DataW Unit)} {i j : Nat} (hL : laidMet Tryd.prog l W)
  (hi : l[i]? = some ("loop.example/townland/impl.shapeNames", .slice (shapeNamesL.map fun s => .lit (.string s)) [])) (hj : l[j]? = some ("internal/strconv.uint64pow10", Lib.tabData .u64 Lib.pow10Tab)) : Glob W [] := by
 obtain ⟨cs, fuel, p, _, b1, c1⟩ := laid_box hL hi (g := 0) (t := 76) RK RK
 obtain ⟨A, e, hs⟩ := laid_strs Tryd.underlying76 Tryd.underlying9 RK RD b1
 obtain ⟨cs2, fuel2, p2, _, b2, c2⟩ := laid_box hL hj (g := 1) (t := 131) RK RK
 have e2 := Lib.cells_of_tab Tryd.underlying131 Tryd.underlying125 RK RK b2
 refine ⟨⟨A, ⟨?_, by simp⟩, hs⟩, ⟨?_, by simp⟩⟩
 ·have := c1 (by rw [← Array.length_toList, e]; exact Nat.one_pos)
  rw [e] at this; exact this
 ·have := c2 (by rw [← Array.length_toList, e2, List.length_map, Lib.pow10Tab_length]; decide)
  rw [e2] at this; exact this
end Go.Proofs.YtlaaehjcooonfaaDoor
namespace Go.Proofs.YtlaaehjcooonfaaDoor.rFnDiffBent
open Go.ChangeShapes Go.WideShapes Go.ChangeAt Go.RowKit
open Go.ChangeMaps (open_string shut_string)
set_option linter.unusedVariables false
theorem own : ownKnob Tryd.prog.godebug = none := by kernel_rfl
theorem laidOut : laidOutB Tryd.prog = true := by kernel_rfl
theorem door_met (os : Os) (args : Array Value) : laidMetH Tryd.prog Rows.fnDiffBentRow.laid ((World.doorLaid Tryd.prog 29 os).forCall (fun _ _ => 0) ⟨#[], args, []⟩).memory :=
  laidMetH_of_parts3 (fuel := 8) (laidMet_of_run' 8 (by kernel_rfl) (by kernel_rfl)) (by kernel_rfl) (by kernel_rfl)
set_option maxHeartbeats 4000000 in
set_option maxRecDepth 100000 in
theorem lifted (os : Os) (started : os.Started) (H : Type) (enc : TypeId × Value → H) :
    ReturnsInHanded {} Tryd.checked os 5 .any (fun w args => (Rows.fnDiffBentSpec.pre enc Tryd.prog Tryd.f5 [] false w args ∧ laidMetH Tryd.prog Rows.fnDiffBentRow.laid w) ∧ sizedMet enc Tryd.prog Tryd.f5 (OpenSpec.ofChange Rows.fnDiffBentSpec) false w args) (Rows.fnDiffBentSpec.post enc Tryd.prog Tryd.f5 false true false false) := by
  refine returnsInHanded_of_change_and (C := Tryd.checked) (X := fun w _ => laidMetH Tryd.prog Rows.fnDiffBentRow.laid w) (fun _ _ _ hh h => h.of_heap hh) own started (by kernel_rfl) Tryd.func5
    (ChangeSpec.witness_shaped (enc := enc) (C := Tryd.checked) (os := os) (X := fun w _ => laidMetH Tryd.prog Rows.fnDiffBentRow.laid w) false (World.doorLaid Tryd.prog 29 os) #[.slice none 0 0] 8 rfl (World.shaped_of_RefB (by kernel_rfl) (by kernel_rfl)) (by kernel_rfl) (by kernel_rfl) (by kernel_rfl) (door_met os _)) ?_
  intro W base args ds gs before hval0 hW _ hsz0 hL _
  have hG : Glob W [] := glob_laid (i := 3) (j := 2) (by rw [← MakeChecks.laidMetH_plain _ _ _ (by kernel_rfl)]; exact hL) (by kernel_rfl) (by kernel_rfl)
  have hval : ∀ (j : Nat) t v, Tryd.f5.params[j]? = some t → args[j]? = some v → Value.okWide Tryd.prog W .any base t v := hval0
  have hW' := hW
  obtain ⟨p, q, hA0, hV, rfl, hfz, hnd⟩ := hW
  have hA : DataW.TrodAll enc Tryd.prog W 0 (fun _ => true) true Tryd.f5.params.toList args.toList ds p := hA0
  rw [Tryd.params5] at hA hval
  obtain ⟨v0, vs0, d0, ds0, p0, q0, hargs, rfl, rfl, h0, r0⟩ := trodAll_cons hA
  obtain ⟨rfl, rfl, rfl⟩ := trodAll_nil r0
  obtain rfl : args = #[v0] := by cases args; simp_all
  have hV0 : DataW.TrodVars enc Tryd.prog W (fun _ => true) ["loop.example/townland/impl.shapeNames"] gs q := hV
  obtain ⟨_, _, _, _, g1, _, hgs, _⟩ := trodVars_one hV0
  subst hgs
  have k0 := h0
  have lt0 : ∀ x ∈ p0, x.block < W.heap.size := by obtain ⟨m, hm⟩ := k0; exact DataW.trod_lt m _ _ _ hm
  obtain ⟨x0, hv0, hx0⟩ : ∃ a : List UInt8, (∀ y0 ∈ a, True) ∧ (Kd.sl Kd.byte).R W (Fr []) a v0.cells.toList := by obtain ⟨fuel, hf⟩ := h0; exact (Tr.sl Tryd.underlying29 (by kernel_rfl) (Tr.byte Tryd.underlying5)) H enc W fuel _ _ hf
  obtain ⟨a0, n0, c0, rfl⟩ := okWide_slice Tryd.underlying29 (hval 0 29 v0 rfl rfl)
  have s0 : Sl Kd.byte W (Fr []) (.slice a0 n0 c0) x0 := by obtain ⟨_, e, h⟩ := hx0; simp [Value.cells] at e; subst e; exact h
  clear hA0 hval0 hsz0
  refine Calls.mono (laws_FnDiffBent.calls W (Ok.nil W) hG x0 a0 n0 c0 s0 (fun r => r = true) (laws_FnDiffBent.law x0 hv0)) fun e W' ⟨v, he, r, hr, hq, hg⟩ => ?_
  subst he; subst hr; subst hq
  have bel := Gr.below hg
  exact ⟨_, rfl, _, _, _, [], _, _, hW', trodAll_mk1 (shut_bool Tryd.underlying4 _), (trodAll_cons_mk (Below.trod laidOut (by kernel_rfl) (of_decide_eq_true (by kernel_rfl)) k0 bel lt0) trodAll_mk0), Below.trodVars laidOut bel (by kernel_rfl) hV0, bel.frame _, fun h => by cases h⟩
theorem over : Rows.fnDiffBentRow.holds Tryd.pinned (OpenSpec.ofChange Rows.fnDiffBentSpec) :=
  OpenClaim.holds_of_wide 5 Tryd.f5 rfl rfl rfl rfl rfl rfl rfl ⟨rfl, rfl, rfl, rfl, rfl⟩ rfl rfl rfl rfl rfl (by kernel_rfl) Tryd.func5 (by kernel_rfl)
    (of_decide_eq_true (by kernel_rfl)) (by unfold Func.isWrapper; first | (rw [if_pos (by decide +kernel)]; kernel_rfl) | (rw [if_neg (by decide +kernel)]; exact ⟨rfl, rfl⟩))
    (fun os started H enc _ => lifted os started H enc)
theorem card : Rows.FnDiffBentCardSaid :=
  Claim7.holds_tied_plain_at .later [] [.data, .data, .data, .widerDeep] true (true, "92d3501775cb17553dbd58c2eea8a13f06d60c790c8c1caa2b6ea7dd922fd709") false
    over (fun _ h => by cases h) (by kernel_rfl) (fun _ h => by cases h) fnDiffBent_row_tie rfl ⟨rfl, rfl⟩ (by kernel_rfl) rfl
    (fun f fn hf hfn => by
      obtain rfl : f = 5 := Option.some.inj ((show Tryd.prog.funcNamed "loop.example/townland/laws.FnDiffBent" = some 5 by kernel_rfl).symm.trans hf) |>.symm
      obtain rfl : fn = Tryd.f5 := (Option.some.inj (Tryd.func5.symm.trans hfn)).symm
      exact ⟨by kernel_rfl, fun j t ht => by
        rw [Tryd.params5] at ht
        have hm : t ∈ [29] := by simpa using Array.mem_of_getElem? ht
        have hall : ([29].all fun u => !Tryd.prog.wantsStandIn u) = true := by kernel_rfl
        exact (show Tryd.prog.wantsStandIn t = false by simpa using List.all_eq_true.1 hall t hm)⟩)
    (by kernel_rfl)
theorem proved : Rows.FnDiffBentCardSaid := card
#print axioms proved
end Go.Proofs.YtlaaehjcooonfaaDoor.rFnDiffBent
namespace Go.Proofs.YtlaaehjcooonfaaDoor
theorem fnDiffBent_holds : Rows.FnDiffBentCardSaid := rFnDiffBent.proved
end Go.Proofs.YtlaaehjcooonfaaDoor