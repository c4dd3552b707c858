/- It is proved here that the law FnDiffLines of the given program holds whatever it is handed: the walks through the code, the plain laws and the row, in this order.
   Conditions: none. -/
import Derived.Below
import Derived.ChangeArms
import Derived.ChangeOld
import Derived.ChangeSlices
import Derived.ChangeVars
import Derived.DataReads
import Derived.Deep.Quiet
import Derived.KernelRfl
import Derived.LaidHandle
import Derived.LaidLaws
import Derived.LaidMore
import Derived.Laws.Build
import Derived.Laws.IdiomStrings
import Derived.Laws.OwnMore
import Derived.Laws.Slices
import Derived.Laws.Strings2
import Derived.Laws.StructEq
import Derived.Lib.ItoaNum
import Derived.Lib.LaidTab
import Derived.MakeChecks
import Derived.OpenShut
import Derived.OpenVars
import Derived.ProofKit
import Derived.SevenTiedAt
import Derived.Shelf.LaysM
import Derived.Shelf.Slices.CompactS
import Derived.Shelf.Sort.Plain
import Derived.Shelf.Strconv.Itoa0
import Derived.Shelf.Strconv.Itoa1
import Derived.Shelf.Strconv.Itoa2
import Derived.Shelf.Strconv.Itoa3
import Derived.ShutString
import Derived.SizedLaws
import Derived.StillTail
import Derived.Stop.Joined
import Derived.Test.YtlaaehjcooonfaaDoorCards
import Derived.Test.YtlaaehjcooonfaaDoorProg
import Derived.Test.YtlaaehjcooonfaaDoorRows
import Derived.Test.YtlaaehjcooonfaaDoorTie
import Derived.WalkKit
import Derived.Test.YtlaaehjcooonfaaDoorCDiffLinesa
import Derived.Test.YtlaaehjcooonfaaDoorCDiffLinesb
import Derived.Test.YtlaaehjcooonfaaDoorCDiffLinesc
namespace Go.Proofs.YtlaaehjcooonfaaDoor
set_option linter.unusedVariables false
set_option linter.unusedSimpArgs false
set_option linter.unusedSectionVars false
set_option maxHeartbeats 8000000
set_option maxRecDepth 100000
open Go.RowKit
variable {O : Ob} {w0 : World}
theorem F74.law (c : Change) (Q : Bool → Prop) (hq : Q (changeOk c)) : F74.E c Q := by
 unfold F74.E
 unfold changeOk sideOk noF sameC at hq
 have eid : ∀ f : Feat, (f.Id == c.Id) = decide (f.Id = c.Id) := fun f => by rw [Bool.eq_iff_iff, beq_iff_eq, decide_eq_true_eq]
 refine F41.law _ _ ?_
 cases hw : wordOk c.Id with
 | false => rw [hw] at hq; rw [if_pos RD]; exact hq
 | true =>
  rw [hw, Bool.true_and] at hq
  rw [if_neg RD]
  cases h1 : c.Had <;> cases h2 : c.Has
  ·-- neither
   rw [h1, h2] at hq
   rw [if_pos RD, if_pos RD]
   simp only [reduceIte, Bool.false_eq_true, Bool.true_eq_false, reduceCtorEq, if_false, if_true, eq_self, decide_true, decide_false, Bool.true_and, Bool.false_and, Bool.not_false, Bool.not_true, Bool.and_true] at hq
   have e : (decide (c.Was = (⟨[], ⟨0, []⟩, []⟩ : Feat)) && decide (c.Now = (⟨[], ⟨0, []⟩, []⟩ : Feat)) && !(decide (c.Was = c.Now))) = false := by
    by_cases a : c.Was = (⟨[], ⟨0, []⟩, []⟩ : Feat)
    ·by_cases b : c.Now = (⟨[], ⟨0, []⟩, []⟩ : Feat)
     ·rw [decide_eq_true (a.trans b.symm)]; simp
     ·rw [decide_eq_false b]; simp
    ·rw [decide_eq_false a]; rfl
   rw [e] at hq; exact hq
  ·rw [h1, h2] at hq
   simp only [reduceIte, Bool.false_eq_true, Bool.true_eq_false, reduceCtorEq, if_false, if_true, eq_self, decide_true, decide_false, Bool.true_and, Bool.false_and, Bool.not_false, Bool.not_true, Bool.and_true] at hq
   rw [if_pos RD, if_neg RD, if_neg RD]
   refine F19.law _ _ _ ?_
   cases ha : decide (c.Was = (⟨[], ⟨0, []⟩, []⟩ : Feat)) with
   | false => rw [ha] at hq; rw [if_pos RD]; exact hq
   | true =>
    rw [ha, Bool.true_and] at hq
    rw [if_neg RD]
    refine F45.law _ _ ?_
    cases hf : featOk c.Now with
    | false => rw [hf] at hq; rw [if_neg RD]; exact hq
    | true => rw [hf, Bool.true_and] at hq; rw [if_pos rfl, eid]; exact hq
  ·rw [h1, h2] at hq
   simp only [reduceIte, Bool.false_eq_true, Bool.true_eq_false, reduceCtorEq, if_false, if_true, eq_self, decide_true, decide_false, Bool.true_and, Bool.false_and, Bool.not_false, Bool.not_true, Bool.and_true] at hq
   rw [if_neg RD, if_pos rfl, if_neg RD, if_pos RD]
   refine F19.law _ _ _ ?_
   cases ha : decide (c.Now = (⟨[], ⟨0, []⟩, []⟩ : Feat)) with
   | false => rw [ha, Bool.and_false] at hq; rw [if_pos RD]; exact hq
   | true =>
    rw [ha, Bool.and_true] at hq
    rw [if_neg RD]
    refine F45.law _ _ ?_
    cases hf : featOk c.Was with
    | false => rw [hf] at hq; rw [if_neg RD]; exact hq
    | true =>
     rw [hf, Bool.true_and] at hq; rw [if_pos rfl, eid]
     cases hi : decide (c.Was.Id = c.Id) with
     | false => rw [hi] at hq; rw [if_neg RD]; exact hq
     | true => rw [hi] at hq; rw [if_pos rfl]; exact hq
  ·rw [h1, h2] at hq
   simp only [reduceIte, Bool.false_eq_true, Bool.true_eq_false, reduceCtorEq, if_false, if_true, eq_self, decide_true, decide_false, Bool.true_and, Bool.false_and, Bool.not_false, Bool.not_true, Bool.and_true] at hq
   rw [if_neg RD, if_pos rfl, if_pos rfl]
   refine F19.law _ _ _ ?_
   cases hs : decide (c.Was = c.Now) with
   | true => rw [hs, Bool.not_true, Bool.and_false] at hq; rw [if_pos rfl]; exact hq
   | false =>
    rw [hs, Bool.not_false, Bool.and_true] at hq
    rw [if_neg RD, if_neg RD]
    refine F45.law _ _ ?_
    cases hf : featOk c.Was with
    | false => rw [hf] at hq; rw [if_neg RD]; exact hq
    | true =>
     rw [hf, Bool.true_and] at hq; rw [if_pos rfl, eid]
     cases hi : decide (c.Was.Id = c.Id) with
     | false => rw [hi] at hq; rw [if_neg RD]; exact hq
     | true =>
      rw [hi, Bool.true_and] at hq; rw [if_pos rfl]
      refine F45.law _ _ ?_
      cases hg : featOk c.Now with
      | false => rw [hg] at hq; rw [if_neg RD]; exact hq
      | true => rw [hg, Bool.true_and] at hq; rw [if_pos rfl, eid]; exact hq
theorem F46.law (d : List Change) (Q : Bool → Prop) (hq : Q (diffOk d)) : F46.E d Q := by
 unfold F46.E
 unfold diffOk at hq
 refine loop_all d.length (fun k => changeOk (nth d (k : Int)) && (decide (k = 0) || Op.bytesLess (nth d ((k : Int) - 1)).Id (nth d (k : Int)).Id)) (fun I mu k hk hp hn => ?_) (fun ha => ?_)
 ·have bad : (changeOk (nth d (k : Int)) && (decide (k = 0) || Op.bytesLess (nth d ((k : Int) - 1)).Id (nth d (k : Int)).Id)) = false → Q false := fun h => by
   rw [allN_false hk h, Bool.false_and] at hq; exact hq
  refine ⟨OM, _, F74.law _ _ rfl, ?_⟩
  cases h1 : changeOk (nth d (k : Int)) with
  | false => rw [if_pos RD]; exact bad (by rw [h1]; rfl)
  | true =>
   rw [if_neg RD]
   by_cases hk0 : k = 0
   ·rw [if_neg (by rw [decide_eq_true_eq]; omega)]
    obtain ⟨i1, i2⟩ := hn (by rw [h1, decide_eq_true hk0]; rfl)
    exact ⟨OM, i1, i2⟩
   ·rw [if_pos (by rw [decide_eq_true_eq]; omega)]
    refine ⟨OM, fun _ => by unfold I64; omega, OM, ?_⟩
    rw [← less_tri]
    cases h3 : Op.bytesLess (nth d ((k : Int) - 1)).Id (nth d (k : Int)).Id with
    | false => rw [if_pos RD]; exact bad (by rw [h3, h1, decide_eq_false hk0]; rfl)
    | true =>
     rw [if_neg RD]
     obtain ⟨i1, i2⟩ := hn (by rw [h3, h1, decide_eq_false hk0]; rfl)
     exact ⟨OM, i1, i2⟩
 ·rw [allN_true ha, Bool.true_and] at hq
  have e2 : decide ((d.length : Int) ≤ 16) = decide (d.length ≤ 16) := decide_eq_decide.2 OM
  rw [e2]; exact hq
theorem l12Dec_pos (R : Int → (Str → Prop) → Prop) (n : Int) (h0 : 0 ≤ n) (h1 : n ≤ 4611686018427387904) (Q : Str → Prop) (hq : Q (Lib.itoa n)) : F48.Er R n Q := by
 unfold F48.Er
 rw [if_neg (by rw [decide_eq_true_eq]; omega), if_neg (by rw [decide_eq_true_eq]; omega)]
 have hl := decDigits_len n.toNat 19 OM
 have hi : Lib.itoa n = Lib.decDigits n.toNat := by unfold Lib.itoa; rw [if_neg OM]
 refine ⟨fun k out => 0 ≤ k ∧ k ≤ n ∧ Lib.decDigits n.toNat = Lib.decDigits k.toNat ++ out, fun k _ => k.toNat, ⟨h0, Int.le_refl _, by simp⟩, ?_⟩
 rintro k out ⟨k0, kn, e⟩
 have hlen : (Lib.decDigits k.toNat).length + out.length ≤ 20 := by rw [e, List.length_append] at hl; exact hl
 by_cases hk : k > 9
 ·rw [if_pos (by simpa using hk)]
  have d : [(UInt8.ofNat (48 + k % 10).toNat)] = [UInt8.ofNat (48 + k.toNat % 10)] := by congr 2; omega
  have e2 : Lib.decDigits k.toNat = Lib.decDigits (k / 10).toNat ++ [UInt8.ofNat (48 + k.toNat % 10)] := by
   conv => lhs; rw [Lib.decDigits]
   rw [dif_neg OM]
   congr 2; omega
  refine ⟨⟨k0, by decide⟩, by unfold I64; omega, OM, ?_, OM, ⟨OM, OM, ?_⟩, by dsimp only; omega⟩
  ·simp only [List.length_cons, List.length_nil]; omega
  ·rw [e, e2, d, List.append_assoc]
 ·rw [if_neg (by simpa using hk)]
  have e2 : Lib.decDigits k.toNat = [UInt8.ofNat (48 + k).toNat] := by
   rw [Lib.decDigits, dif_pos OM]
   congr 2; omega
  refine ⟨by unfold I64; omega, OM, ?_, ?_⟩
  ·simp only [List.length_cons, List.length_nil]; omega
  ·rw [← e2, ← e, ← hi]; exact hq
theorem F48.law (n : Int) (h0 : -4611686018427387904 ≤ n) (h1 : n ≤ 4611686018427387904) (Q : Str → Prop) (hq : Q (Lib.itoa n)) : F48.E n Q := by
 unfold F48.E
 by_cases hn : 0 ≤ n
 ·exact l12Dec_pos _ n hn h1 Q hq
 ·unfold F48.Er
  rw [if_neg (by rw [decide_eq_true_eq]; omega), if_pos (by rw [decide_eq_true_eq]; omega)]
  have hl := itoa_len (-n) OM OM
  refine ⟨by unfold I64; omega, l12Dec_pos _ (-n) OM OM _ ⟨?_, ?_⟩⟩
  ·simp only [List.length_cons, List.length_nil]; omega
  ·have : [45] ++ Lib.itoa (-n) = Lib.itoa n := by
    unfold Lib.itoa
    rw [if_neg OM, if_pos OM]
    have : (-n).toNat = n.natAbs := by omega
    rw [this]; rfl
   rw [this]; exact hq
theorem F47.law (k : Int) (h : 0 ≤ k ∧ k < 4) (Q : Str → Prop) (hq : Q (nth shapeNamesL k)) : F47.E k Q := by
 unfold F47.E
 exact ⟨⟨h.1, by show k < 4; omega⟩, hq⟩
theorem F13.law (s : Shape) (h : shapeOk s = true) (hl : s.Pts.length ≤ 1048576) (Q : Str → Prop) (hq : Q (shT s)) : F13.E s Q := by
 obtain ⟨h1, h2, h3⟩ := shape_in h
 have h0 := names_len s.Kind
 unfold F13.E
 refine F29.law _ _ ?_
 rw [h, if_neg RD]
 refine F47.law _ OM _ (loop_text s.Pts ptT _ 44 300 (fun p hp => ptT_len (h3 p hp)) OM (fun I mu k out hk hm ho hn => ?_) hq)
 have hp := h3 _ hm
 have l1 := itoa_len (nth s.Pts (k : Int)).X OM OM
 have l2 := itoa_len (nth s.Pts (k : Int)).Y OM OM
 obtain ⟨i1, i2⟩ := hn ((((out ++ ([32] : Str)) ++ Lib.itoa (nth s.Pts (k : Int)).X) ++ ([44] : Str)) ++ Lib.itoa (nth s.Pts (k : Int)).Y) (by unfold ptT; simp only [List.append_assoc])
 refine ⟨?_, OM, _, F48.law _ OM OM _ rfl, by unfold Lim; omega, ?_, ?_, OM, _, F48.law _ OM OM _ rfl, by unfold Lim; omega, ?_, OM, i1, i2⟩
 all_goals (simp only [List.length_append, List.length_cons, List.length_nil]; omega)
theorem F20.law (f : Feat) (hb : bulk f ≤ 1048576) (Q : Str → Prop) (hq : Q (featT f)) : F20.E f Q := by
 unfold F20.E
 refine F45.law _ _ ?_
 unfold featT at hq
 by_cases h : featOk f = true
 ·rw [if_pos h] at hq
  obtain ⟨h1, h2, h3, h4, h5⟩ := feat_facts h
  have l1 := shT_len h2
  rw [h, if_neg RD]
  refine ⟨?_, _, F13.law _ h2 OM _ rfl, by unfold Lim; omega, ?_, loop_text f.Tags tagT _ 14 400 (fun t ht => ?_) ?_ (fun I mu k out hk hm ho hn => ?_) hq⟩
  ·simp only [List.length_cons, List.length_nil]; omega
  ·simp only [List.length_append, List.length_cons, List.length_nil]; omega
  ·have := h5 t ht
   unfold tagT
   simp only [List.length_append, List.length_cons, List.length_nil]; omega
  ·simp only [List.length_append, List.length_cons, List.length_nil]; omega
  ·have ht := h5 _ hm
   obtain ⟨i1, i2⟩ := hn ((((out ++ ([32] : Str)) ++ ((nth f.Tags (k : Int)).Key)) ++ ([61] : Str)) ++ ((nth f.Tags (k : Int)).Val)) (by unfold tagT; simp only [List.append_assoc])
   refine ⟨?_, OM, ?_, ?_, OM, ?_, OM, i1, i2⟩
   all_goals (simp only [List.length_append, List.length_cons, List.length_nil]; omega)
 ·rw [if_neg h] at hq
  rw [Bool.eq_false_iff.2 h, if_pos RD]; exact hq
theorem F49.law (f : Feat) (is : Bool) (hb : bulk f ≤ 1048576) (Q : Str → Prop) (hq : Q (sideT is f)) : F49.E f is Q := by
 unfold F49.E
 cases is with
 | false => rw [if_pos RD]; exact hq
 | true => rw [if_neg RD]; exact F20.law _ hb _ hq
theorem F21.law (d : List Change) (hb : bulk d ≤ 1048576) (Q : Str → Prop) (hq : Q (diffT d)) : F21.E d Q := by
 unfold F21.E
 unfold diffT at hq
 by_cases h : diffOk d = true
 ·rw [if_pos h] at hq
  obtain ⟨_, h2, h3⟩ := diff_cs h
  have hid : ∀ c ∈ d, c.Id.length ≤ 6 := fun c hc => by
   have := h3 c hc
   unfold changeOk at this
   simp only [Bool.and_eq_true] at this
   exact word_len this.1.1.1
  refine loop_text d lineT _ 812 13000 (fun c hc => lineT_len (hid c hc)) (by show 0 + d.length * 812 ≤ 13000; omega) (fun I mu k out hk hm ho hn => ?_) hq
  refine F46.law _ _ ?_
  rw [h, if_pos rfl]
  have m1 := bulk_mem hm
  have hi := hid _ hm
  have b1 : bulk (nth d (k : Int)) = bulk (nth d (k : Int)).Id + bulk (nth d (k : Int)).Had + bulk (nth d (k : Int)).Was + bulk (nth d (k : Int)).Has + bulk (nth d (k : Int)).Now := rfl
  have l1 := sideT_len (nth d (k : Int)).Had (nth d (k : Int)).Was
  have l2 := sideT_len (nth d (k : Int)).Has (nth d (k : Int)).Now
  obtain ⟨i1, i2⟩ := hn ((((((out ++ ((nth d (k : Int)).Id)) ++ ([58, 32] : Str)) ++ sideT (nth d (k : Int)).Had (nth d (k : Int)).Was) ++ ([32, 62, 32] : Str)) ++ sideT (nth d (k : Int)).Has (nth d (k : Int)).Now) ++ ([10] : Str)) (by unfold lineT; simp only [List.append_assoc])
  refine ⟨OM, ?_, ?_, OM, OM, _, F49.law _ _ OM _ rfl, by unfold Lim; omega, ?_, ?_, OM, OM, _, F49.law _ _ OM _ rfl, by unfold Lim; omega, ?_, ?_, OM, i1, i2⟩
  all_goals ((try simp only [List.length_append, List.length_cons, List.length_nil]); omega)
 ·rw [if_neg h] at hq
  have e : diffOk d = false := Bool.eq_false_iff.2 h
  refine ⟨fun out i => out = [] ∧ i = 0, fun _ _ => 0, ⟨rfl, rfl⟩, ?_⟩
  rintro _ _ ⟨rfl, rfl⟩
  by_cases h0 : (0 : Int) < (d.length : Int)
  ·rw [if_pos (by simpa using h0)]
   refine F46.law _ _ ?_
   rw [e, if_neg RD]; exact hq
  ·rw [if_neg (by simpa using h0)]; exact hq
def NL (x : Str) : Prop := ∀ b ∈ x, b ≠ (10 : UInt8)
theorem NL.app {a b : Str} (h : NL a) (g : NL b) : NL (a ++ b) := fun x hx => (List.mem_append.1 hx).elim (h x) (g x)
theorem NL.flat {α : Type} {l : List α} {g : α → Str} (h : ∀ x ∈ l, NL (g x)) : NL (l.flatMap g) := fun b hb => by
 obtain ⟨x, hx, hb⟩ := List.mem_flatMap.1 hb
 exact h x hx b hb
theorem nl_word {s : Str} (h : wordOk s = true) : NL s := fun b hb e => by
 unfold wordOk at h
 rw [Bool.and_eq_true] at h
 obtain ⟨i, hi, rfl⟩ := List.mem_iff_getElem.1 hb
 have h1 := allN_iff.1 h.1 i hi
 rw [nth_nat s hi, e] at h1
 exact absurd h1 RD
theorem nl_dec (u : Nat) : NL (Lib.decDigits u) := by
 induction u using Nat.strongRecOn with
 | _ u ih =>
  have dig : ∀ v, v < 10 → UInt8.ofNat (48 + v) ≠ 10 := fun v hv e => by
   have := congrArg UInt8.toNat e
   rw [UInt8.toNat_ofNat'] at this
   have h10 : (10 : UInt8).toNat = 10 := rfl
   omega
  rw [Lib.decDigits]
  split
  ·intro b hb
   rw [List.mem_singleton.1 hb]; exact dig u OM
  ·refine (ih (u / 10) OM).app fun b hb => ?_
   rw [List.mem_singleton.1 hb]; exact dig (u % 10) OM
theorem nl_itoa (n : Int) : NL (Lib.itoa n) := by
 unfold Lib.itoa
 split
 ·intro b hb
  rcases List.mem_cons.1 hb with rfl | hb
  ·decide
  ·exact nl_dec _ b hb
 ·exact nl_dec _
theorem nl_lit {x : Str} (h : x.all (fun b => b != 10) = true) : NL x := fun b hb => by
 have := List.all_eq_true.1 h b hb
 simpa using this
theorem nl_names (k : Int) : NL (nth shapeNamesL k) := by
 by_cases h : 0 ≤ k ∧ k < 4
 ·have : k = 0 ∨ k = 1 ∨ k = 2 ∨ k = 3 := by omega
  rcases this with rfl | rfl | rfl | rfl <;> exact nl_lit RD
 ·unfold nth
  by_cases h0 : k < 0
  ·have : k.toNat = 0 := by omega
   rw [this]; exact nl_lit RD
  ·rw [show shapeNamesL.getD k.toNat default = default from by rw [List.getD_eq_getElem?_getD, List.getElem?_eq_none (by show 4 ≤ k.toNat; omega)]; rfl]
   exact nl_lit RD
theorem nl_feat (f : Feat) : NL (featT f) := by
 unfold featT
 by_cases h : featOk f = true
 ·rw [if_pos h]
  have h' := h
  unfold featOk at h'
  simp only [Bool.and_eq_true] at h'
  refine (((nl_word h'.1.2).app (nl_lit RD)).app ?_).app (NL.flat fun t ht => ?_)
  ·unfold shT
   refine (nl_names _).app (NL.flat fun p _ => ?_)
   unfold ptT
   exact (((nl_lit RD).app (nl_itoa _)).app (nl_lit RD)).app (nl_itoa _)
  ·have h2 := h'.1.1.1
   unfold tagsOk at h2
   obtain ⟨i, hi, rfl⟩ := List.mem_iff_getElem.1 ht
   have h3 := allN_iff.1 h2 i hi
   rw [nth_nat _ hi] at h3
   simp only [Bool.and_eq_true] at h3
   unfold tagT
   exact (((nl_lit RD).app (nl_word h3.1.1)).app (nl_lit RD)).app (nl_word h3.1.2)
 ·rw [if_neg h]; exact nl_lit RD
theorem nl_side (b : Bool) (f : Feat) : NL (sideT b f) := by
 unfold sideT
 cases b
 ·exact (nl_lit RD : NL [45])
 ·exact nl_feat f
def preT (c : Change) : Str := c.Id ++ [58, 32] ++ sideT c.Had c.Was ++ [32, 62, 32] ++ sideT c.Has c.Now
theorem nl_pre {c : Change} (h : changeOk c = true) : NL (preT c) := by
 unfold changeOk at h
 simp only [Bool.and_eq_true] at h
 unfold preT
 exact ((((nl_word h.1.1.1).app (nl_lit RD)).app (nl_side _ _)).app (nl_lit RD)).app (nl_side _ _)
theorem nth_pre (P pre S : Str) {m : Nat} (h : m < pre.length) : nth (P ++ (pre ++ [10]) ++ S) ((P.length + m : Nat) : Int) ∈ pre := by
 unfold nth
 rw [Int.toNat_natCast, List.append_assoc, List.getD_eq_getElem?_getD, List.getElem?_append_right OM, show P.length + m - P.length = m by omega, List.append_assoc, List.getElem?_append_left h, List.getElem?_eq_getElem h]
 exact List.getElem_mem h
theorem nth_end (P pre S : Str) : nth (P ++ (pre ++ [10]) ++ S) ((P.length + pre.length : Nat) : Int) = 10 := by
 unfold nth
 rw [Int.toNat_natCast, List.append_assoc, List.getD_eq_getElem?_getD, List.getElem?_append_right OM, show P.length + pre.length - P.length = pre.length by omega, List.append_assoc, List.getElem?_append_right (Nat.le_refl _), Nat.sub_self]
 rfl
theorem flat_at {d : List Change} {k : Nat} (h : k < d.length) : d.flatMap lineT = (d.take k).flatMap lineT ++ (preT (nth d (k : Int)) ++ [10]) ++ (d.drop (k + 1)).flatMap lineT := by
 have e : d = d.take k ++ ([nth d (k : Int)] ++ d.drop (k + 1)) := by
  rw [← List.append_assoc, ← take_nth d h, List.take_append_drop]
 conv => lhs; rw [e]
 rw [List.flatMap_append, List.flatMap_append, List.flatMap_cons, List.flatMap_nil, List.append_nil, ← List.append_assoc]
 rfl
theorem laws_FnDiffLines.gen (code : List UInt8) (Q : Bool → Prop) (hq : Q true) : laws_FnDiffLines.E code Q := by
 unfold laws_FnDiffLines.E
 by_cases c1 : (code.length : Int) > 1048576
 ·rw [if_pos (by simpa using c1)]; exact hq
 rw [if_neg (by simpa using c1)]
 refine F1.law _ _ fun d ld hd => ?_
 have bd := cb_bulk ld hd
 refine F24.law _ bd _ (F21.law _ bd _ ?_)
 rw [if_neg (by simp)]
 refine F46.law _ _ ?_
 cases kd : diffOk d with
 | false =>
  rw [if_pos RD]
  refine F21.law _ bd _ ?_
  rw [show (diffT d == diffT d) = true from by simp]; exact hq
 | true =>
 rw [if_neg RD]
 obtain ⟨_, dl, dc⟩ := diff_cs kd
 have et : diffT d = d.flatMap lineT := by unfold diffT; rw [kd, if_pos rfl]
 have hid : ∀ c ∈ d, c.Id.length ≤ 6 := fun c hc => by
  have := dc c hc
  unfold changeOk at this
  simp only [Bool.and_eq_true] at this
  exact word_len this.1.1.1
 have hlen := flatT_len d lineT 812 fun c hc => lineT_len (hid c hc)
 rw [et]
 generalize ht : d.flatMap lineT = t at hlen
 refine ⟨fun xs a i => xs = d ∧ ∃ k : Nat, i = k ∧ k ≤ d.length ∧ a = (((d.take k).flatMap lineT).length : Int), fun _ _ i => ((d.length : Int) - i).toNat, ⟨rfl, 0, rfl, Nat.zero_le _, rfl⟩, ?_⟩
 rintro xs _ _ ⟨hxs, k, rfl, hk, rfl⟩
 subst xs
 by_cases h : (k : Int) < (d.length : Int)
 ·rw [if_pos (by simpa using h)]
  have hk' : k < d.length := by omega
  have hm := nth_mem d hk'
  have hf := flat_at hk'
  rw [ht] at hf
  have hn : ((d.take (k + 1)).flatMap lineT).length = ((d.take k).flatMap lineT).length + ((preT (nth d (k : Int))).length + 1) := by
   rw [take_nth d hk', List.flatMap_append, List.flatMap_cons, List.flatMap_nil, List.append_nil, show lineT (nth d (k : Int)) = preT (nth d (k : Int)) ++ [10] from rfl, List.length_append, List.length_append]; rfl
  have np := nl_pre (dc _ hm)
  have il := hid _ hm
  have pl : (preT (nth d (k : Int))).length = ((nth d (k : Int)).Id ++ ([58, 32] : Str)).length + (sideT (nth d (k : Int)).Had (nth d (k : Int)).Was ++ [32, 62, 32] ++ sideT (nth d (k : Int)).Has (nth d (k : Int)).Now).length := by
   rw [← List.length_append]; unfold preT; simp only [List.append_assoc]
  have pe : preT (nth d (k : Int)) = ((nth d (k : Int)).Id ++ ([58, 32] : Str)) ++ (sideT (nth d (k : Int)).Had (nth d (k : Int)).Was ++ [32, 62, 32] ++ sideT (nth d (k : Int)).Has (nth d (k : Int)).Now) := by
   unfold preT; simp only [List.append_assoc]
  have e10 : (nth d (k : Int)).Id.length + ([58, 32] : Str).length = ((nth d (k : Int)).Id ++ ([58, 32] : Str)).length := by rw [List.length_append]
  have hl2 : ((nth d (k : Int)).Id ++ ([58, 32] : Str)).length ≤ 8 := by rw [← e10]; show _ + 2 ≤ 8; omega
  generalize (sideT (nth d (k : Int)).Had (nth d (k : Int)).Was ++ [32, 62, 32] ++ sideT (nth d (k : Int)).Has (nth d (k : Int)).Now) = rest at pl pe
  generalize hh : (nth d (k : Int)).Id ++ ([58, 32] : Str) = hd_ at pl pe hl2 e10 ⊢
  generalize preT (nth d (k : Int)) = pre at *
  generalize (d.take k).flatMap lineT = P at *
  generalize (d.drop (k + 1)).flatMap lineT = S at *
  have tl : t.length = P.length + (pre.length + 1) + S.length := by rw [hf]; simp only [List.length_append, List.length_cons, List.length_nil]
  refine ⟨⟨OM, h⟩, by rw [e10]; omega, fun _ _ => by unfold I64; omega, ?_⟩
  rw [if_neg (by rw [decide_eq_true_eq]; omega)]
  refine ⟨fun _ _ _ => by unfold I64; omega, ⟨OM, OM, OM⟩, ?_⟩
  have ec : (t.drop (P.length : Int).toNat).take (((P.length : Int) + (hd_.length : Int)).toNat - (P.length : Int).toNat) = hd_ := by
   rw [Int.toNat_natCast, show ((P.length : Int) + (hd_.length : Int)).toNat - P.length = hd_.length by omega, hf, List.append_assoc, List.drop_left, pe, List.append_assoc, List.append_assoc, List.take_left]
  rw [ec, if_neg (by simp)]
  refine ⟨fun a => ∃ m : Nat, a = ((P.length + m : Nat) : Int) ∧ m ≤ pre.length, fun a => ((t.length : Int) - a).toNat, ⟨0, rfl, Nat.zero_le _⟩, ?_⟩
  rintro _ ⟨m, rfl, hmm⟩
  refine ⟨⟨OM, OM⟩, ?_⟩
  by_cases hlt : m < pre.length
  ·have h1 : nth t ((P.length + m : Nat) : Int) ≠ 10 := by rw [hf]; exact np _ (nth_pre P pre S hlt)
   rw [if_pos (by
    rw [bne_iff_ne]
    intro e
    apply h1
    apply UInt8.toNat_inj.1
    have h10 : (10 : UInt8).toNat = 10 := rfl
    omega)]
   exact ⟨by unfold I64; omega, ⟨m + 1, OM, OM⟩, by dsimp only; omega⟩
  ·have em : m = pre.length := by omega
   subst em
   have h1 : nth t ((P.length + pre.length : Nat) : Int) = 10 := by rw [hf]; exact nth_end P pre S
   rw [h1, if_neg RD]
   exact ⟨by unfold I64; omega, by unfold I64; omega, ⟨rfl, k + 1, OM, OM, by rw [hn]; omega⟩, by dsimp only; omega⟩
 ·rw [if_neg (by simpa using h)]
  have : k = d.length := by omega
  subst this
  rw [List.take_length, ht, show ((t.length : Int) == (t.length : Int)) = true from by simp]; exact hq
theorem laws_FnDiffLines.law (code : List UInt8) (_ : ∀ x ∈ code, True) : laws_FnDiffLines.E code (fun r => r = true) := laws_FnDiffLines.gen code _ rfl
theorem laidVars_at {P : Program} {w : World} : ∀ {l : List (String × DataW Unit)} {ps : List MemPlace} {i : Nat} {n : String} {d : DataW Unit}, DataW.LaidVars P w l ps → l[i]? = some (n, d) →
  ∃ g t cs fuel p, P.globalNamed n = some g ∧ (P.globals[g]?).map (·.type) = some t ∧ w.var? P n = some cs ∧ DataW.trod (fun _ => ()) P w 0 (fun _ => true) false fuel t cs.toList = some (d, p) ∧ ∀ x ∈ MemPlace.row ⟨g, 0, none⟩ cs.size, x ∈ ps
 | [], _, _, _, _, _, h => by simp at h
 | (n', d') :: r, _, 0, n, d, ⟨g, t, cs, fuel, p, q, h1, h2, h3, h4, h5, e⟩, h => by
  simp only [List.getElem?_cons_zero, Option.some.injEq, Prod.mk.injEq] at h
  obtain ⟨rfl, rfl⟩ := h
  exact ⟨g, t, cs, fuel, p, h1, h2, h3, h4, fun x hx => by rw [e]; simp [hx]⟩
 | _ :: r, _, i + 1, n, d, ⟨g, t, cs, fuel, p, q, h1, h2, h3, h4, h5, e⟩, h => by
  obtain ⟨g', t', cs', f', p', a1, a2, a3, a4, a5⟩ := laidVars_at h5 (by simpa using h)
  exact ⟨g', t', cs', f', p', a1, a2, a3, a4, fun x hx => by rw [e]; simp [a5 x hx]⟩
theorem laid_box {P : Program} {w : World} {l : List (String × DataW Unit)} {i : Nat} {n : String} {d : DataW Unit} {g : Nat} {t : TypeId} (hL : laidMet P l w) (hi : l[i]? = some (n, d)) (hg : P.globalNamed n = some g) (ht : (P.globals[g]?).map (·.type) = some t) :
  ∃ cs fuel p, w.var? P n = some cs ∧ DataW.trod (fun _ => ()) P w 0 (fun _ => true) false fuel t cs.toList = some (d, p) ∧ (0 < cs.size → Bx w g cs.toList) := by
 obtain ⟨ps, h1, _, h3⟩ := hL
 obtain ⟨g', t', cs, fuel, p, a1, a2, a3, a4, a5⟩ := laidVars_at h1 hi
 obtain rfl := Option.some.inj (hg.symm.trans a1)
 obtain rfl := Option.some.inj (ht.symm.trans a2)
 refine ⟨cs, fuel, p, a3, a4, fun h0 => ?_⟩
 obtain ⟨⟨c, t', hh⟩, _⟩ := h3 g 0 (a5 _ (by unfold MemPlace.row; exact List.mem_map.2 ⟨0, List.mem_range.2 h0, rfl⟩))
 unfold World.var? at a3
 rw [hg] at a3
 simp only [Option.bind_some, hh, Option.some.injEq] at a3
 subst a3
 exact ⟨t', by rw [hh]⟩
theorem arr_vs {w : World} {S : Sp} : ∀ {ls : List Str}, (∀ x ∈ ls, Lim x) → Arr Kd.str w S ls (ls.map vs)
 | [], _ => rfl
 | x :: l, h => ⟨[vs x], l.map vs, rfl, ⟨rfl, h x (List.mem_cons_self ..)⟩, arr_vs fun y hy => h y (List.mem_cons_of_mem _ hy)⟩
theorem laid_strs {P : Program} {H : Type} {enc : TypeId × Value → H} {w : World} {t e : TypeId} {held : Bool} (ht : P.underlying t = some (.slice e)) (he : P.underlying e = some .string) (hce : P.cellsOf e = 1) {fuel : Nat} {cs : List Value} {ls : List Str} {p : List MemPlace} (hlim : ∀ x ∈ ls, Lim x)
  (h : DataW.trod enc P w 0 (fun _ => true) held fuel t cs = some (.slice (ls.map fun s => .lit (.string s)) [], p)) : ∃ A : Option Addr, cs = [.slice A ls.length ls.length] ∧ Sl Kd.str w (Fr []) (.slice A ls.length ls.length) ls := by
 rcases DataW.trod_slice ht h with ⟨_, e0⟩ | ⟨a, len, cap, elems, rest, n, _, rfl, hx, _, hl, hm, hlen, hel, hsp, _⟩
 ·simp only [Prod.mk.injEq, reduceCtorEq, false_and] at e0
 ·simp only [Prod.mk.injEq, DataW.slice.injEq] at hx
  obtain ⟨⟨hx1, hx2⟩, _⟩ := hx
  obtain ⟨hr, _⟩ := hsp rfl
  have hr0 : rest = [] := by
   cases rest with
   | nil => rfl
   | cons r rs => simp at hx2
  have hl2 : len = ls.length := by
   have := congrArg List.length hx1
   simp only [List.length_map] at this
   omega
  have hcl : cap = ls.length := by rw [hr0] at hr; simp at hr; omega
  subst hcl; subst hl2
  refine ⟨some a, rfl, some a, ls.length, ls.map vs, rfl, ⟨Nat.le_refl _, hm⟩, arr_vs hlim, fun j u hj => ⟨a, rfl, by simp [Fr], ?_⟩⟩
  have hjl : j < ls.length := by
   rcases Nat.lt_or_ge j ls.length with hq | hq
   ·exact hq
   ·rw [List.getElem?_eq_none (by simpa using hq)] at hj; cases hj
  have he' := hel j hjl
  rw [List.getElem?_eq_getElem OM, Option.bind_eq_some_iff] at he'
  obtain ⟨ci, hci, hti⟩ := he'
  obtain ⟨_, hcl, hcc⟩ := World.cells?_some hci
  obtain ⟨s, hs1, hs2, _⟩ := DataW.trod_string he hti
  have e1 : (ls.map fun s => (DataW.lit (.string s) : DataW H))[j]? = (elems.map (·.1))[j]? := by rw [hx1]
  rw [List.getElem?_map, List.getElem?_map, List.getElem?_eq_getElem hjl, List.getElem?_eq_getElem OM, hs2] at e1
  simp only [Option.map_some, Option.some.injEq, DataW.lit.injEq, Lit.string.injEq] at e1
  rw [List.getElem?_map, List.getElem?_eq_getElem hjl] at hj
  simp only [Option.map_some, Option.some.injEq] at hj
  have h0 := hcc 0 (by rw [hce]; omega)
  rw [hs1, add_add, hce, Nat.mul_one, Nat.add_zero] at h0
  rw [h0, ← hj, e1]
  simp [vs]
theorem glob_laid {W : World} {l : List (String × DataW Unit)} {i j : Nat} (hL : laidMet Tryd.prog l W)
  (hi : l[i]? = some ("loop.example/townland/impl.shapeNames", .slice (shapeNamesL.map fun s => .lit (.string s)) [])) (hj : l[j]? = some ("internal/strconv.uint64pow10", Lib.tabData .u64 Lib.pow10Tab)) : Glob W [] := by
 obtain ⟨cs, fuel, p, _, b1, c1⟩ := laid_box hL hi (g := 0) (t := 76) RK RK
 obtain ⟨A, e, hs⟩ := laid_strs Tryd.underlying76 Tryd.underlying9 RK RD b1
 obtain ⟨cs2, fuel2, p2, _, b2, c2⟩ := laid_box hL hj (g := 1) (t := 131) RK RK
 have e2 := Lib.cells_of_tab Tryd.underlying131 Tryd.underlying125 RK RK b2
 refine ⟨⟨A, ⟨?_, by simp⟩, hs⟩, ⟨?_, by simp⟩⟩
 ·have := c1 (by rw [← Array.length_toList, e]; exact Nat.one_pos)
  rw [e] at this; exact this
 ·have := c2 (by rw [← Array.length_toList, e2, List.length_map, Lib.pow10Tab_length]; decide)
  rw [e2] at this; exact this
end Go.Proofs.YtlaaehjcooonfaaDoor
namespace Go.Proofs.YtlaaehjcooonfaaDoor.rFnDiffLines
open Go.ChangeShapes Go.WideShapes Go.ChangeAt Go.RowKit
open Go.ChangeMaps (open_string shut_string)
set_option linter.unusedVariables false
theorem own : ownKnob Tryd.prog.godebug = none := by kernel_rfl
theorem laidOut : laidOutB Tryd.prog = true := by kernel_rfl
theorem door_met (os : Os) (args : Array Value) : laidMetH Tryd.prog Rows.fnDiffLinesRow.laid ((World.doorLaid Tryd.prog 29 os).forCall (fun _ _ => 0) ⟨#[], args, []⟩).memory :=
  laidMetH_of_parts3 (fuel := 8) (laidMet_of_run' 8 (by kernel_rfl) (by kernel_rfl)) (by kernel_rfl) (by kernel_rfl)
set_option maxHeartbeats 4000000 in
set_option maxRecDepth 100000 in
theorem lifted (os : Os) (started : os.Started) (H : Type) (enc : TypeId × Value → H) :
    ReturnsInHanded {} Tryd.checked os 4 .any (fun w args => (Rows.fnDiffLinesSpec.pre enc Tryd.prog Tryd.f4 [] false w args ∧ laidMetH Tryd.prog Rows.fnDiffLinesRow.laid w) ∧ sizedMet enc Tryd.prog Tryd.f4 (OpenSpec.ofChange Rows.fnDiffLinesSpec) false w args) (Rows.fnDiffLinesSpec.post enc Tryd.prog Tryd.f4 false true false false) := by
  refine returnsInHanded_of_change_and (C := Tryd.checked) (X := fun w _ => laidMetH Tryd.prog Rows.fnDiffLinesRow.laid w) (fun _ _ _ hh h => h.of_heap hh) own started (by kernel_rfl) Tryd.func4
    (ChangeSpec.witness_shaped (enc := enc) (C := Tryd.checked) (os := os) (X := fun w _ => laidMetH Tryd.prog Rows.fnDiffLinesRow.laid w) false (World.doorLaid Tryd.prog 29 os) #[.slice none 0 0] 8 rfl (World.shaped_of_RefB (by kernel_rfl) (by kernel_rfl)) (by kernel_rfl) (by kernel_rfl) (by kernel_rfl) (door_met os _)) ?_
  intro W base args ds gs before hval0 hW _ hsz0 hL _
  have hG : Glob W [] := glob_laid (i := 3) (j := 2) (by rw [← MakeChecks.laidMetH_plain _ _ _ (by kernel_rfl)]; exact hL) (by kernel_rfl) (by kernel_rfl)
  have hval : ∀ (j : Nat) t v, Tryd.f4.params[j]? = some t → args[j]? = some v → Value.okWide Tryd.prog W .any base t v := hval0
  have hW' := hW
  obtain ⟨p, q, hA0, hV, rfl, hfz, hnd⟩ := hW
  have hA : DataW.TrodAll enc Tryd.prog W 0 (fun _ => true) true Tryd.f4.params.toList args.toList ds p := hA0
  rw [Tryd.params4] at hA hval
  obtain ⟨v0, vs0, d0, ds0, p0, q0, hargs, rfl, rfl, h0, r0⟩ := trodAll_cons hA
  obtain ⟨rfl, rfl, rfl⟩ := trodAll_nil r0
  obtain rfl : args = #[v0] := by cases args; simp_all
  have hV0 : DataW.TrodVars enc Tryd.prog W (fun _ => true) ["loop.example/townland/impl.shapeNames"] gs q := hV
  obtain ⟨_, _, _, _, g1, _, hgs, _⟩ := trodVars_one hV0
  subst hgs
  have k0 := h0
  have lt0 : ∀ x ∈ p0, x.block < W.heap.size := by obtain ⟨m, hm⟩ := k0; exact DataW.trod_lt m _ _ _ hm
  obtain ⟨x0, hv0, hx0⟩ : ∃ a : List UInt8, (∀ y0 ∈ a, True) ∧ (Kd.sl Kd.byte).R W (Fr []) a v0.cells.toList := by obtain ⟨fuel, hf⟩ := h0; exact (Tr.sl Tryd.underlying29 (by kernel_rfl) (Tr.byte Tryd.underlying5)) H enc W fuel _ _ hf
  obtain ⟨a0, n0, c0, rfl⟩ := okWide_slice Tryd.underlying29 (hval 0 29 v0 rfl rfl)
  have s0 : Sl Kd.byte W (Fr []) (.slice a0 n0 c0) x0 := by obtain ⟨_, e, h⟩ := hx0; simp [Value.cells] at e; subst e; exact h
  clear hA0 hval0 hsz0
  refine Calls.mono (laws_FnDiffLines.calls W (Ok.nil W) hG x0 a0 n0 c0 s0 (fun r => r = true) (laws_FnDiffLines.law x0 hv0)) fun e W' ⟨v, he, r, hr, hq, hg⟩ => ?_
  subst he; subst hr; subst hq
  have bel := Gr.below hg
  exact ⟨_, rfl, _, _, _, [], _, _, hW', trodAll_mk1 (shut_bool Tryd.underlying4 _), (trodAll_cons_mk (Below.trod laidOut (by kernel_rfl) (of_decide_eq_true (by kernel_rfl)) k0 bel lt0) trodAll_mk0), Below.trodVars laidOut bel (by kernel_rfl) hV0, bel.frame _, fun h => by cases h⟩
theorem over : Rows.fnDiffLinesRow.holds Tryd.pinned (OpenSpec.ofChange Rows.fnDiffLinesSpec) :=
  OpenClaim.holds_of_wide 4 Tryd.f4 rfl rfl rfl rfl rfl rfl rfl ⟨rfl, rfl, rfl, rfl, rfl⟩ rfl rfl rfl rfl rfl (by kernel_rfl) Tryd.func4 (by kernel_rfl)
    (of_decide_eq_true (by kernel_rfl)) (by unfold Func.isWrapper; first | (rw [if_pos (by decide +kernel)]; kernel_rfl) | (rw [if_neg (by decide +kernel)]; exact ⟨rfl, rfl⟩))
    (fun os started H enc _ => lifted os started H enc)
theorem card : Rows.FnDiffLinesCardSaid :=
  Claim7.holds_tied_plain_at .later [] [.data, .data, .data, .widerDeep] true (true, "92d3501775cb17553dbd58c2eea8a13f06d60c790c8c1caa2b6ea7dd922fd709") false
    over (fun _ h => by cases h) (by kernel_rfl) (fun _ h => by cases h) fnDiffLines_row_tie rfl ⟨rfl, rfl⟩ (by kernel_rfl) rfl
    (fun f fn hf hfn => by
      obtain rfl : f = 4 := Option.some.inj ((show Tryd.prog.funcNamed "loop.example/townland/laws.FnDiffLines" = some 4 by kernel_rfl).symm.trans hf) |>.symm
      obtain rfl : fn = Tryd.f4 := (Option.some.inj (Tryd.func4.symm.trans hfn)).symm
      exact ⟨by kernel_rfl, fun j t ht => by
        rw [Tryd.params4] at ht
        have hm : t ∈ [29] := by simpa using Array.mem_of_getElem? ht
        have hall : ([29].all fun u => !Tryd.prog.wantsStandIn u) = true := by kernel_rfl
        exact (show Tryd.prog.wantsStandIn t = false by simpa using List.all_eq_true.1 hall t hm)⟩)
    (by kernel_rfl)
theorem proved : Rows.FnDiffLinesCardSaid := card
#print axioms proved
end Go.Proofs.YtlaaehjcooonfaaDoor.rFnDiffLines
namespace Go.Proofs.YtlaaehjcooonfaaDoor
theorem fnDiffLines_holds : Rows.FnDiffLinesCardSaid := rFnDiffLines.proved
end Go.Proofs.YtlaaehjcooonfaaDoor