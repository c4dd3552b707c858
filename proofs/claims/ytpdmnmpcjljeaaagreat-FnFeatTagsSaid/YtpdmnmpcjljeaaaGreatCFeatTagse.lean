/- It is proved here that the law FnFeatTags of the given program holds whatever it is handed: the walks through the code, the plain laws and the row, in this order.
   Conditions: none. -/
import Derived.Below
import Derived.ChangeArms
import Derived.ChangeOld
import Derived.ChangeSlices
import Derived.DataReads
import Derived.Deep.Quiet
import Derived.KernelRfl
import Derived.Laws.Build
import Derived.Laws.IdiomStrings
import Derived.Laws.OwnMore
import Derived.Laws.Slices
import Derived.Laws.StructEq
import Derived.OpenShut
import Derived.ProofKit
import Derived.Shelf.SlSortCmp.NoneTotal
import Derived.Shelf.SlSortCmp.WholeK
import Derived.Shelf.Slices.Cells
import Derived.Shelf.Slices.CompactS
import Derived.Shelf.Slices.In.SortNone
import Derived.Shelf.Small.Bits
import Derived.Shelf.Sort.Plain
import Derived.Shelf.Strconv.Itoa0
import Derived.ShutString
import Derived.SizedLaws
import Derived.StillTail
import Derived.Test.YtpdmnmpcjljeaaaGreatProg
import Derived.Test.YtpdmnmpcjljeaaaGreatRows
import Derived.WalkKit
import Derived.Test.YtpdmnmpcjljeaaaGreatCFeatTagsa
import Derived.Test.YtpdmnmpcjljeaaaGreatCFeatTagsb
import Derived.Test.YtpdmnmpcjljeaaaGreatCFeatTagsc
import Derived.Test.YtpdmnmpcjljeaaaGreatCFeatTagsd
namespace Go.Proofs.YtpdmnmpcjljeaaaGreat
set_option linter.unusedVariables false
set_option linter.unusedSimpArgs false
set_option linter.unusedSectionVars false
set_option maxHeartbeats 8000000
set_option maxRecDepth 100000
theorem F84.law (f : Feat) (Q : Bool → Prop) (hq : Q (featOk f)) : F84.E f Q := by
 unfold F84.E
 unfold featOk at hq
 refine F82.law _ _ ?_
 cases h1 : wordOk f.Id with
 | false => rw [h1, Bool.and_false, Bool.false_and] at hq; rw [if_neg (by decide)]; exact hq
 | true =>
  rw [h1, Bool.and_true] at hq
  rw [if_pos rfl]
  refine F63.law _ _ ?_
  cases h2 : shapeOk f.Shape with
  | false => rw [h2, Bool.and_false] at hq; rw [if_neg (by decide)]; exact hq
  | true => rw [h2, Bool.and_true] at hq; rw [if_pos rfl]; exact F83.law _ _ hq
theorem F85.law (b : List UInt8) (p : Int) (f : Feat) (Q : Feat → Int → Prop) (hb : b.length ≤ 2000) (hp : 0 ≤ p) (hp1 : p ≤ 1000000) (hf : featOk f = true) (hq : ∀ r p', featOk r = true → r.Id = f.Id → p ≤ p' → p' ≤ p + 20 → Q r p') : F85.E b p f Q := by
 unfold F85.E
 have ff := feat_facts hf
 refine F80.law _ _ (Nat.le_trans (feat_small hf).1 (by decide)) (F26.law _ _ _ _ hb hp (by omega) fun k hk0 hk1 => ⟨by unfold I64; omega, ?_⟩)
 refine ⟨fun i kd pts t z => 0 ≤ i ∧ i ≤ 2 ∧ pts.length ≤ 6 ∧ SS (keysT t) ∧ (t.length : Int) ≤ 4 + (2 - i) ∧ p ≤ z ∧ z ≤ p + 1 + 5 * (2 - i), fun i _ _ _ _ => i.toNat, ⟨by omega, by omega, ff.2.2.1, featOk_tags hf, by omega, by omega, by omega⟩, ?_⟩
 rintro i kd pts t z ⟨h0, h1, h2, h3, h4, h5, h6⟩
 by_cases hi : i > 0
 case neg =>
  rw [if_neg (by simpa using hi)]
  refine F84.law _ _ ?_
  cases h : featOk ⟨f.Id, ⟨kd, pts⟩, t⟩ with
  | true => rw [if_neg (by decide)]; exact hq _ _ h rfl h5 (by omega)
  | false => rw [if_pos (by decide)]; exact hq _ _ hf rfl h5 (by omega)
 rw [if_pos (by simpa using hi)]
 refine F26.law _ _ _ _ hb (by omega) (by omega) fun v hv0 hv1 => ?_
 split
 ·exact F112.law _ _ _ hb (by omega) (by omega) fun key hkey => F113.law _ _ _ hb (by omega) (by omega) fun val hval => F114.law _ _ _ _ (by omega) h3 fun r r1 r2 r3 r4 => ⟨by unfold I64; omega, ⟨by omega, by omega, h2, r1, by omega, by omega, by omega⟩, by dsimp only; omega⟩
 split
 ·split
  ·rename_i g
   have g : (t.length : Int) > 0 := by simpa using g
   refine ⟨by omega, fun _ => by unfold I64; omega, ⟨by omega, by omega, h2, ?_, by simp only [List.length_take, List.length_drop]; omega, by omega, by omega⟩, by dsimp only; omega⟩
   unfold SS keysT at h3 ⊢
   exact List.Pairwise.sublist (((List.take_sublist _ _).trans (List.drop_sublist _ _)).map _) h3
  ·exact ⟨fun _ => by unfold I64; omega, ⟨by omega, by omega, h2, h3, by omega, by omega, by omega⟩, by dsimp only; omega⟩
 refine F81.law _ _ _ _ hb (by omega) (by omega) (by dsimp only; omega) fun r p' hr p1 p2 => ⟨by unfold I64; omega, ⟨by omega, by omega, ?_, h3, by omega, by omega, by omega⟩, by dsimp only; omega⟩
 rcases hr with rfl | hr
 ·exact h2
 ·exact shape_pts hr
theorem F15.law (code : List UInt8) (Q : Feat → Feat → Feat → Prop) (hq : ∀ o a b, FB 4 o → FB 4 a → FB 4 b → (∀ x ∈ o.Tags, plainK x.Key) → Q o a b) : F15.E code Q := by
 unfold F15.E
 refine F62.law _ _ fun b hb => F78.law _ _ _ _ hb (by omega) (by omega) fun s t p hs ht tl td _ p0 p1 => ?_
 have ho : featOk ⟨[97], s, t⟩ = true := feat_drawn (by decide) hs ht tl td
 have tp : ∀ x ∈ t, plainK x.Key := fun x hx => keyL_plain _ (td x hx).1
 refine F85.law _ _ _ _ hb (by omega) (by omega) ho fun a p2 ha _ p3 p4 => F85.law _ _ _ _ hb (by omega) (by omega) ho fun c p5 hc _ p6 p7 => F26.law _ _ _ _ hb (by omega) (by omega) fun v hv0 hv1 => ?_
 split
 ·exact F87.law _ _ _ hb (by omega) (by omega) fun o' p' h1 h2 _ _ _ _ => hq _ _ _ h1 (.of ha) (.of hc) h2
 split
 ·exact F87.law _ _ _ hb (by omega) (by omega) fun o' p' h1 h2 _ _ _ _ => hq _ _ _ (.of ho) h1 (.of hc) tp
 split
 ·exact F78.law _ _ _ _ hb (by omega) (by omega) fun s' t' p' hs' ht' tl' td' _ _ _ => hq _ _ _ (.of ho) (.of (feat_drawn (by decide) hs' ht' tl' td')) (.of hc) tp
 split
 ·exact F80.law _ _ (Nat.le_trans (feat_small ha).1 (by decide)) (hq _ _ _ (.of ho) (.of ha) (.of ha) tp)
 exact hq _ _ _ (.of ho) (.of ha) (.of hc) tp
theorem F88.law (n lo hi : Int) (Q : Bool → Prop) (hq : Q (decide (lo ≤ n) && decide (n ≤ hi))) : F88.E n lo hi Q := by
 unfold F88.E
 by_cases h : lo ≤ n
 ·rw [if_pos (by simpa using h)]; rw [decide_eq_true h, Bool.true_and] at hq; exact hq
 ·rw [if_neg (by simpa using h)]; rw [decide_eq_false h, Bool.false_and] at hq; exact hq
theorem F88.m_is (n lo hi : Int) : F88.m n lo hi = (decide (lo ≤ n) && decide (n ≤ hi)) := by
 unfold F88.m
 by_cases h : lo ≤ n
 ·rw [if_pos (by simpa using h), decide_eq_true h, Bool.true_and]
 ·rw [if_neg (by simpa using h), decide_eq_false h, Bool.false_and]
theorem F89.law (s : Str) (Q : Bool → Prop) (hl : s.length ≤ 1048576) (hq : Q (wordOk s)) : F89.E s Q := by
 unfold F89.E
 unfold wordOk at hq
 refine loop_all s.length (fun k => byteOk (nth s (k : Int))) (fun I mu k hk hp hn => ?_) (fun ha => ?_)
 ·refine ⟨by omega, ?_⟩
  cases h1 : decide (((nth s (k : Int)).toNat : Int) < 97) with
  | true => rw [if_pos rfl]; rw [allN_false hk (by simp only [byteOk, h1]; rfl), Bool.false_and] at hq; exact hq
  | false =>
   rw [if_neg (by decide)]
   refine ⟨by omega, ?_⟩
   cases h2 : decide (((nth s (k : Int)).toNat : Int) > 122) with
   | true => rw [if_pos rfl]; rw [allN_false hk (by simp only [byteOk, h1, h2]; rfl), Bool.false_and] at hq; exact hq
   | false =>
    rw [if_neg (by decide)]
    obtain ⟨i1, i2⟩ := hn (by simp only [byteOk, h1, h2]; rfl)
    exact ⟨by unfold I64; omega, i1, i2⟩
 ·rw [allN_true ha, Bool.true_and] at hq
  refine F88.law _ _ _ _ ?_
  have e1 : decide ((1 : Int) ≤ (s.length : Int)) = decide (1 ≤ s.length) := decide_eq_decide.2 (by omega)
  have e2 : decide ((s.length : Int) ≤ 6) = decide (s.length ≤ 6) := decide_eq_decide.2 (by omega)
  rw [e1, e2]; exact hq
theorem F127.law (p : Pt) (Q : Bool → Prop) (hq : Q (ptOk p)) : F127.E p Q := by
 unfold F127.E
 unfold ptOk at hq
 refine F88.law _ _ _ _ ?_
 change if inR p.X = true then _ else _
 cases h : inR p.X with
 | true => rw [if_pos rfl]; rw [h, Bool.true_and] at hq; exact F88.law _ _ _ _ hq
 | false => rw [if_neg (by decide)]; rw [h, Bool.false_and] at hq; exact hq
theorem F65.law (s : Shape) (Q : Bool → Prop) (hl : s.Pts.length ≤ 1048576) (hq : Q (shapeOk s)) : F65.E s Q := by
 unfold F65.E
 unfold shapeOk ptsOk at hq
 refine loop_all s.Pts.length (fun k => ptOk (nth s.Pts (k : Int)) && (decide (k = 0) || !(decide (nth s.Pts ((k : Int) - 1) = nth s.Pts (k : Int))))) (fun I mu k hk hp hn => ?_) (fun ha => ?_)
 ·refine ⟨by omega, _, F127.law _ _ rfl, ?_⟩
  have bad : (ptOk (nth s.Pts (k : Int)) && (decide (k = 0) || !(decide (nth s.Pts ((k : Int) - 1) = nth s.Pts (k : Int))))) = false → Q false := fun h => by
   rw [allN_false hk h, Bool.false_and] at hq; exact hq
  cases h1 : ptOk (nth s.Pts (k : Int)) with
  | false => rw [if_pos (by decide)]; exact bad (by rw [h1]; rfl)
  | true =>
   rw [if_neg (by decide)]
   by_cases hk0 : k = 0
   ·rw [if_neg (by rw [decide_eq_true_eq]; omega)]
    obtain ⟨i1, i2⟩ := hn (by rw [h1, decide_eq_true hk0]; rfl)
    exact ⟨by unfold I64; omega, i1, i2⟩
   ·rw [if_pos (by rw [decide_eq_true_eq]; omega)]
    refine ⟨by unfold I64; omega, by omega, ?_⟩
    rw [eqPt_is]
    by_cases he : nth s.Pts ((k : Int) - 1) = nth s.Pts (k : Int)
    ·rw [if_pos (by rw [decide_eq_true_eq]; exact he)]
     exact bad (by rw [h1, decide_eq_false hk0, decide_eq_true he]; rfl)
    ·rw [if_neg (by rw [decide_eq_true_eq]; exact he)]
     obtain ⟨i1, i2⟩ := hn (by simp only [h1, decide_eq_false hk0, decide_eq_false he]; rfl)
     exact ⟨by unfold I64; omega, i1, i2⟩
 ·rw [allN_true ha, Bool.true_and] at hq
  unfold kindOk at hq
  by_cases k1 : s.Kind = 1
  ·rw [if_pos k1] at hq
   rw [if_pos (by rw [beq_iff_eq]; exact k1)]
   have : ((s.Pts.length : Int) == 1) = decide (s.Pts.length = 1) := by rw [Bool.eq_iff_iff, beq_iff_eq, decide_eq_true_eq]; omega
   rw [this]; exact hq
  rw [if_neg k1] at hq
  rw [if_neg (by rw [beq_iff_eq]; exact k1)]
  have e2 : decide ((2 : Int) ≤ (s.Pts.length : Int)) = decide (2 ≤ s.Pts.length) := decide_eq_decide.2 (by omega)
  have e3 : decide ((3 : Int) ≤ (s.Pts.length : Int)) = decide (3 ≤ s.Pts.length) := decide_eq_decide.2 (by omega)
  have e6 : decide ((s.Pts.length : Int) ≤ 6) = decide (s.Pts.length ≤ 6) := decide_eq_decide.2 (by omega)
  by_cases k2 : s.Kind = 2
  ·rw [if_pos k2] at hq
   rw [if_pos (by rw [beq_iff_eq]; exact k2)]
   refine F88.law _ _ _ _ ?_
   rw [e2, e6]; exact hq
  rw [if_neg k2] at hq
  rw [if_neg (by rw [beq_iff_eq]; exact k2)]
  by_cases k3 : s.Kind = 3
  ·rw [if_pos k3] at hq
   rw [if_pos (by rw [beq_iff_eq]; exact k3), F88.m_is, e3, e6]
   cases hc : decide (3 ≤ s.Pts.length) && decide (s.Pts.length ≤ 6) with
   | true =>
    rw [hc, Bool.true_and] at hq
    rw [Bool.and_eq_true, decide_eq_true_eq, decide_eq_true_eq] at hc
    rw [if_pos rfl, eqPt_is]
    exact ⟨by omega, fun _ => by unfold I64; omega, by omega, hq⟩
   | false =>
    rw [hc, Bool.false_and] at hq
    rw [if_neg (by decide)]; exact hq
  ·rw [if_neg k3] at hq
   rw [if_neg (by rw [beq_iff_eq]; exact k3)]; exact hq
theorem F90.law (f : Feat) (Q : Bool → Prop) (hb : bulk f ≤ 1048576) (hq : Q (featOk f)) : F90.E f Q := by
 unfold F90.E
 unfold featOk at hq
 have b1 : bulk f = bulk f.Id + bulk f.Shape + bulk f.Tags := rfl
 have b2 : bulk f.Shape = bulk f.Shape.Kind + bulk f.Shape.Pts := rfl
 have l1 := bulk_len f.Tags; have l2 := bulk_len f.Shape.Pts; have l3 := bulk_len f.Id
 have core : (tagsOk f.Tags = true → F89.E f.Id (fun r3 => (if r3 then F65.E f.Shape (fun r4 => (if r4 then Q (decide ((f.Tags.length : Int) ≤ 4)) else Q false)) else Q false))) := fun ha => by
  rw [ha, Bool.true_and] at hq
  refine F89.law _ _ (by omega) ?_
  cases h1 : wordOk f.Id with
  | false => rw [h1, Bool.and_false, Bool.false_and] at hq; rw [if_neg (by decide)]; exact hq
  | true =>
   rw [h1, Bool.and_true] at hq
   rw [if_pos rfl]
   refine F65.law _ _ (by omega) ?_
   cases h2 : shapeOk f.Shape with
   | false => rw [h2, Bool.and_false] at hq; rw [if_neg (by decide)]; exact hq
   | true =>
    rw [h2, Bool.and_true] at hq; rw [if_pos rfl]
    have e2 : decide ((f.Tags.length : Int) ≤ 4) = decide (f.Tags.length ≤ 4) := decide_eq_decide.2 (by omega)
    rw [e2]; exact hq
 have bad : tagsOk f.Tags = false → Q false := fun h => by
  rw [h, Bool.false_and, Bool.false_and, Bool.false_and] at hq; exact hq
 unfold tagsOk at core bad
 refine loop_all f.Tags.length (fun k => wordOk (nth f.Tags (k : Int)).Key && wordOk (nth f.Tags (k : Int)).Val && (decide (k = 0) || Op.bytesLess (nth f.Tags ((k : Int) - 1)).Key (nth f.Tags (k : Int)).Key)) (fun I mu k hk hp hn => ?_) (fun ha => core (allN_true ha))
 have bad := fun h => bad (allN_false hk h)
 have m1 := bulk_mem (nth_mem f.Tags hk)
 have m2 : bulk (nth f.Tags (k : Int)) = bulk (nth f.Tags (k : Int)).Key + bulk (nth f.Tags (k : Int)).Val := rfl
 have m3 := bulk_len (nth f.Tags (k : Int)).Key; have m4 := bulk_len (nth f.Tags (k : Int)).Val
 refine ⟨by omega, _, F89.law _ _ (by omega) rfl, ?_⟩
 cases h1 : wordOk (nth f.Tags (k : Int)).Key with
 | false => rw [if_pos (by decide)]; exact bad (by rw [h1]; rfl)
 | true =>
  rw [if_neg (by decide)]
  refine ⟨_, F89.law _ _ (by omega) rfl, ?_⟩
  cases h2 : wordOk (nth f.Tags (k : Int)).Val with
  | false => rw [if_pos (by decide)]; exact bad (by rw [h2, Bool.and_false]; rfl)
  | true =>
   rw [if_neg (by decide)]
   by_cases hk0 : k = 0
   ·rw [if_neg (by rw [decide_eq_true_eq]; omega)]
    obtain ⟨i1, i2⟩ := hn (by rw [h1, h2, decide_eq_true hk0]; rfl)
    exact ⟨by unfold I64; omega, i1, i2⟩
   ·rw [if_pos (by rw [decide_eq_true_eq]; omega)]
    refine ⟨by unfold I64; omega, by omega, ?_⟩
    cases h3 : Op.bytesLess (nth f.Tags ((k : Int) - 1)).Key (nth f.Tags (k : Int)).Key with
    | false => rw [if_pos (by decide)]; exact bad (by rw [h3, h1, h2, decide_eq_false hk0]; rfl)
    | true =>
     rw [if_neg (by decide)]
     obtain ⟨i1, i2⟩ := hn (by rw [h3, h1, h2, decide_eq_false hk0]; rfl)
     exact ⟨by unfold I64; omega, i1, i2⟩
theorem F29.law (a b : List Pt) (Q : Bool → Prop) (hb : a.length ≤ 1048576) (hq : Q (decide (a = b))) : F29.E a b Q := by
 unfold F29.E
 exact eqI_shape eqPt eqPt_is a b Q hb hq
theorem F38.law (a b : Shape) (Q : Bool → Prop) (hl : a.Pts.length ≤ 1048576) (hq : Q (decide (a = b))) : F38.E a b Q := by
 unfold F38.E
 by_cases h : a.Kind = b.Kind
 ·rw [if_pos (by rw [beq_iff_eq]; exact h)]
  refine F29.law _ _ _ (by omega) ?_
  have : decide (a.Pts = b.Pts) = decide (a = b) := decide_eq_decide.2 (by rw [Shape.ext_iff']; exact ⟨fun e => ⟨h, e⟩, fun e => e.2⟩)
  rw [this]; exact hq
 ·rw [if_neg (by rw [beq_iff_eq]; exact h)]
  rw [decide_eq_false (by rw [Shape.ext_iff']; exact fun e => h e.1)] at hq; exact hq
theorem F67.law (a b : List Pt) (Q : List (List Int) → Prop) (ha : a.length ≤ 1048576) (hb : b.length ≤ 1048576) (hq : ∀ t, Tab a b (fun _ _ => True) t → Q t) : F67.E a b Q := by
 unfold F67.E
 have hn : ((b.length : Int) + 1).toNat = b.length + 1 := by omega
 have hm : ((a.length : Int) + 1).toNat = a.length + 1 := by omega
 rw [hn, hm]
 refine ⟨fun _ => by unfold I64; omega, by omega, fun xs v => ∃ k : Nat, v = k ∧ k ≤ a.length + 1 ∧ xs.length = a.length + 1 ∧ ∀ r : Nat, r < k → nth xs (r : Int) = List.replicate (b.length + 1) 0, fun _ v => (a.length + 1 - v).toNat,
  ⟨0, rfl, Nat.zero_le _, by simp, fun r hr => absurd hr (Nat.not_lt_zero _)⟩, ?_⟩
 rintro xs _ ⟨k, rfl, hk, hl, hx⟩
 rw [List.length_replicate]
 by_cases hk0 : (k : Int) < ((a.length + 1 : Nat) : Int)
 ·rw [if_pos (by simpa using hk0)]
  refine ⟨fun _ => by unfold I64; omega, by omega, by omega, fun _ => by unfold I64; omega, ⟨k + 1, by omega, by omega, by rw [List.length_set]; exact hl, fun r hr => ?_⟩, by dsimp only; omega⟩
  rw [Int.toNat_natCast, nth_set _ (by omega)]
  by_cases e : r = k
  ·rw [if_pos e]
  ·rw [if_neg e]; exact hx r (by omega)
 rw [if_neg (by simpa using hk0)]
 refine ⟨fun _ => by unfold I64; omega, fun xs i => ∃ k : Nat, i = (k : Int) - 1 ∧ k ≤ a.length ∧ Tab a b (fun r m => k ≤ r ∨ m = b.length) xs, fun _ i => (i + 1).toNat, ⟨a.length, rfl, Nat.le_refl _, hl, fun r hr => ?_⟩, ?_⟩
 ·rw [hx r (by omega)]
  refine ⟨by simp, fun m hm hd => ?_⟩
  rw [nth_rep _ _ _ (by omega)]
  rcases hd with hd | hd
  ·rw [List.drop_of_length_le (by omega : a.length ≤ r), lcs_nil]; rfl
  ·rw [hd, List.drop_length, lcs_nil2]; rfl
 clear hx hl hk0 hk xs k
 rintro xs _ ⟨k, rfl, hk, ht⟩
 by_cases hk0 : (k : Int) - 1 ≥ 0
 ·rw [if_pos (by simpa using hk0)]
  obtain ⟨i, rfl⟩ : ∃ i, k = i + 1 := ⟨k - 1, by omega⟩
  have ei : ((i + 1 : Nat) : Int) - 1 = (i : Int) := by omega
  have ei1 : (i : Int) + 1 = ((i + 1 : Nat) : Int) := by omega
  rw [ei]
  refine ⟨fun _ => by unfold I64; omega, fun ys j => ∃ m : Nat, j = (m : Int) - 1 ∧ m ≤ b.length ∧ Tab a b (fun r u => i < r ∨ (r = i ∧ m ≤ u) ∨ u = b.length) ys, fun _ j => (j + 1).toNat, ⟨b.length, rfl, Nat.le_refl _, ht.1, fun r hr => ⟨(ht.2 r hr).1, fun m hm hd => (ht.2 r hr).2 m hm ?_⟩⟩, ?_⟩
  ·omega
  rintro ys _ ⟨m, rfl, hm, hs⟩
  by_cases hm0 : (m : Int) - 1 ≥ 0
  ·rw [if_pos (by simpa using hm0)]
   obtain ⟨j, rfl⟩ : ∃ j, m = j + 1 := ⟨m - 1, by omega⟩
   have ej : ((j + 1 : Nat) : Int) - 1 = (j : Int) := by omega
   have ej1 : (j : Int) + 1 = ((j + 1 : Nat) : Int) := by omega
   rw [ej, ej1, ei1, eqPt_is]
   have hl := lcs_drop a b (i := i) (j := j) (by omega) (by omega)
   have s0 := hs.1
   have s1 := hs.2 i (by omega)
   have s2 := hs.2 (i + 1) (by omega)
   have n1 := s2.2 (j + 1) (by omega) (.inl (by omega))
   have n2 := s2.2 j (by omega) (.inl (by omega))
   have n3 := s1.2 (j + 1) (by omega) (.inr (.inl ⟨rfl, by omega⟩))
   have l1 := s1.1
   have l2 := s2.1
   have b1 := lcs_le2 (a.drop (i + 1)) (b.drop (j + 1))
   rw [List.length_drop] at b1
   have hset : ∀ v : Int, v = (lcs (a.drop i) (b.drop j) : Nat) → Tab a b (fun r u => i < r ∨ (r = i ∧ j ≤ u) ∨ u = b.length) (ys.set (i : Int).toNat ((nth ys (i : Int)).set (j : Int).toNat v)) := fun v hv => by
    rw [Int.toNat_natCast, Int.toNat_natCast]
    exact hs.set (by omega) (by omega) hv fun r u h => by omega
   refine ⟨by omega, by omega, ?_⟩
   by_cases he : nth a (i : Int) = nth b (j : Int)
   ·rw [if_pos (by simpa using he)]
    rw [if_pos he] at hl
    rw [n1]
    exact ⟨by omega, by unfold I64; omega, by omega, by unfold I64; omega, by omega, by unfold I64; omega, by omega, by unfold I64; omega, ⟨j, by omega, by omega, hset _ (by omega)⟩, by dsimp only; omega⟩
   ·rw [if_neg (by simpa using he)]
    rw [if_neg he] at hl
    rw [n2, n3]
    exact ⟨by omega, by unfold I64; omega, by omega, by omega, by omega, by unfold I64; omega, by omega, by omega, by unfold I64; omega, ⟨j, by omega, by omega, hset _ (by omega)⟩, by dsimp only; omega⟩
  ·rw [if_neg (by simpa using hm0)]
   have : m = 0 := by omega
   subst this
   refine ⟨by unfold I64; omega, ⟨i, by omega, by omega, hs.1, fun r hr => ⟨(hs.2 r hr).1, fun m hm hd => (hs.2 r hr).2 m hm ?_⟩⟩, by dsimp only; omega⟩
   omega
 ·rw [if_neg (by simpa using hk0)]
  have : k = 0 := by omega
  subst this
  exact hq _ ⟨ht.1, fun r hr => ⟨(ht.2 r hr).1, fun m hm _ => (ht.2 r hr).2 m hm (.inl (Nat.zero_le _))⟩⟩
theorem F50.law (a b : List Pt) (Q : List Pair → Prop) (hq : Q (spairs a b)) : F50.E a b Q := by
 unfold F50.E
 unfold spairs at hq
 by_cases h1 : (a.length : Int) > 12
 ·rw [if_pos (by simpa using h1)]
  rw [if_neg (by rw [few_iff]; omega)] at hq; exact hq
 rw [if_neg (by simpa using h1)]
 by_cases h2 : (b.length : Int) > 12
 ·rw [if_pos (by simpa using h2)]
  rw [if_neg (by rw [few_iff]; omega)] at hq; exact hq
 rw [if_neg (by simpa using h2)]
 rw [if_pos (by rw [few_iff]; omega)] at hq
 refine F67.law _ _ _ (by omega) (by omega) fun t ht => ?_
 refine ⟨fun xs i j => ∃ u v : Nat, i = u ∧ j = v ∧ u ≤ a.length ∧ v ≤ b.length ∧ xs ++ (pairs u v (a.drop u) (b.drop v)).map mkP = (pairs 0 0 a b).map mkP, fun _ i j => ((a.length - i) + (b.length - j)).toNat, ⟨0, 0, rfl, rfl, Nat.zero_le _, Nat.zero_le _, rfl⟩, ?_⟩
 rintro xs _ _ ⟨u, v, rfl, rfl, hu, hv, hx⟩
 by_cases hu0 : (u : Int) < (a.length : Int)
 ·rw [if_pos (by simpa using hu0)]
  by_cases hv0 : (v : Int) < (b.length : Int)
  ·rw [if_pos (by simpa using hv0)]
   have hu1 : u < a.length := by omega
   have hv1 : v < b.length := by omega
   rw [pairs_drop a b hu1 hv1] at hx
   have eu : (u : Int) + 1 = ((u + 1 : Nat) : Int) := by omega
   have ev : (v : Int) + 1 = ((v + 1 : Nat) : Int) := by omega
   rw [eqPt_is, eu, ev]
   refine ⟨by omega, by omega, ?_⟩
   by_cases he : nth a (u : Int) = nth b (v : Int)
   ·rw [if_pos (by simpa using he)]
    rw [if_pos he, List.map_cons] at hx
    have hl := congrArg List.length hx
    rw [List.length_map, pairs_len, List.length_append] at hl
    have := lcs_le1 a b
    exact ⟨by simp only [List.length_singleton]; omega, by omega, by omega, ⟨u + 1, v + 1, rfl, rfl, by omega, by omega, by rw [List.append_assoc]; exact hx⟩, by dsimp only; omega⟩
   ·rw [if_neg (by simpa using he)]
    rw [if_neg he] at hx
    have t0 := ht.1
    have t1 := ht.2 u (by omega)
    have t2 := ht.2 (u + 1) (by omega)
    have n1 := t2.2 v (by omega) trivial
    have n2 := t1.2 (v + 1) (by omega) trivial
    have l1 := t1.1
    have l2 := t2.1
    refine ⟨by omega, by omega, by omega, by omega, by omega, by omega, ?_⟩
    rw [n1, n2]
    by_cases hc : lcs (a.drop u) (b.drop (v + 1)) ≤ lcs (a.drop (u + 1)) (b.drop v)
    ·rw [if_pos (by simpa using hc)]
     rw [if_pos hc] at hx
     exact ⟨by omega, ⟨u + 1, v, rfl, rfl, by omega, by omega, hx⟩, by dsimp only; omega⟩
    ·rw [if_neg (by simpa using hc)]
     rw [if_neg hc] at hx
     exact ⟨by omega, ⟨u, v + 1, rfl, rfl, by omega, by omega, hx⟩, by dsimp only; omega⟩
  ·rw [if_neg (by simpa using hv0)]
   rw [List.drop_of_length_le (by omega : b.length ≤ v), pairs_nil2, List.map_nil, List.append_nil] at hx
   rw [hx]; exact hq
 ·rw [if_neg (by simpa using hu0)]
  rw [List.drop_of_length_le (by omega : a.length ≤ u), pairs_nil, List.map_nil, List.append_nil] at hx
  rw [hx]; exact hq
theorem F68.law (l : List Pair) (k : Int) (Q : Int → Prop) (hl : l.length ≤ 1048576) (hq : Q (mateI l k)) : F68.E l k Q := by
 unfold F68.E
 refine ⟨fun i => ∃ u : Nat, i = u ∧ u ≤ l.length ∧ mateI (l.drop u) k = mateI l k, fun i => (l.length - i).toNat, ⟨0, rfl, Nat.zero_le _, rfl⟩, ?_⟩
 rintro _ ⟨u, rfl, hu, he⟩
 by_cases h : (u : Int) < (l.length : Int)
 ·rw [if_pos (by simpa using h)]
  rw [drop_nth l (by omega), mateI_cons] at he
  refine ⟨by omega, ?_⟩
  by_cases hc : ((nth l (u : Int)).A == k) = true
  ·rw [if_pos hc] at he ⊢
   rw [he]; exact hq
  ·rw [if_neg hc] at he ⊢
   exact ⟨by unfold I64; omega, ⟨u + 1, by omega, by omega, he⟩, by dsimp only; omega⟩
 ·rw [if_neg (by simpa using h)]
  rw [List.drop_of_length_le (by omega : l.length ≤ u), mateI_nil] at he
  rw [he]; exact hq
theorem F51.law (o a b : List Pt) (Q : List Pt → Bool → Prop) (hs : ∀ r, smerge o a b = some r → Q r true) (hn : smerge o a b = none → Q [] false) : F51.E o a b Q := by
 unfold F51.E
 by_cases c1 : (o.length : Int) > 12
 ·rw [if_pos (by simpa using c1)]
  exact hn (smerge_not (.inl (few_not.2 (by omega))))
 rw [if_neg (by simpa using c1)]
 by_cases c2 : (a.length : Int) > 12
 ·rw [if_pos (by simpa using c2)]
  exact hn (smerge_not (.inl (few_not.2 (by omega))))
 rw [if_neg (by simpa using c2)]
 by_cases c3 : (b.length : Int) > 12
 ·rw [if_pos (by simpa using c3)]
  exact hn (smerge_not (.inr (few_not.2 (by omega))))
 rw [if_neg (by simpa using c3)]
 have h1 : few o a = true := few_iff.2 (by omega)
 have h2 : few o b = true := few_iff.2 (by omega)
 refine F50.law _ _ _ (F50.law _ _ _ ?_)
 have lo := spairs_len o a; have lo2 := spairs_len o b
 have so := slen_le o a; have so2 := slen_le o b
 refine ⟨fun xs i j k t => (∃ i' j' k' t' : Nat, i = i' ∧ j = j' ∧ k = k' ∧ t = t' ∧ MInv o a b xs i' j' k' t') ∨ (t = (o.length : Int) + 1 ∧ smerge o a b = some xs), fun _ _ _ _ t => (o.length + 1 - t).toNat, .inl ⟨0, 0, 0, 0, rfl, rfl, rfl, rfl, MInv.zero h1 h2⟩, ?_⟩
 rintro xs _ _ _ _ (⟨i, j, k, t, rfl, rfl, rfl, rfl, h⟩ | ⟨rfl, h⟩)
 ·have ht := h.ht; have hi := h.hi; have hj := h.hj; have hk := h.hk; have hl := h.len
  rw [if_pos (by simp; omega)]
  simp only [Int.toNat_natCast]
  by_cases ht0 : (t : Int) < (o.length : Int)
  ·rw [if_pos (by simpa using ht0)]
   refine F68.law _ _ _ (by omega) (F68.law _ _ _ (by omega) ?_)
   rw [mate_part h1, mate_part h2]
   cases hx : part o a t with
   | none =>
    rw [if_pos (by decide)]
    exact ⟨by omega, .inl ⟨i, j, k, t + 1, rfl, rfl, rfl, rfl, h.skip (by omega) (.inl hx)⟩, by omega⟩
   | some x =>
    rw [if_neg (by simp)]
    cases hy : part o b t with
    | none =>
     rw [if_pos (by decide)]
     exact ⟨by omega, .inl ⟨i, j, k, t + 1, rfl, rfl, rfl, rfl, h.skip (by omega) (.inr hy)⟩, by omega⟩
    | some y =>
     rw [if_neg (by simp)]
     dsimp only
     obtain ⟨g1, g2, g3, g4⟩ := h.from hx hy
     refine ⟨by omega, by omega, by omega, ?_⟩
     simp only [Int.toNat_natCast]
     have s1 := seg_len o i t (by omega); have s2 := seg_len a j x (by omega); have s3 := seg_len b k y (by omega)
     have hs1 : ∀ p, pickL (seg o i t) (seg a j x) (seg b k y) = some p → p.length ≤ (x - j) + (y - k) ∧ MInv o a b (xs ++ p ++ [nth o (t : Int)]) (t + 1) (x + 1) (y + 1) (t + 1) := fun p hp =>
      ⟨by have := (pickL_mem hp).2.2.2; omega, h.step (by omega) hx hy hp⟩
     have hn1 : pickL (seg o i t) (seg a j x) (seg b k y) = none → smerge o a b = none := h.stop (by omega) hx hy
     change F29.E (seg a j x) (seg o i t) _
     simp only [← seg.eq_1]
     generalize seg o i t = so at *
     generalize seg a j x = sa at *
     generalize seg b k y = sb at *
     refine F29.law _ _ _ (by omega) ⟨fun ys => ∃ p, p.length ≤ (x - j) + (y - k) ∧ MInv o a b (xs ++ p ++ [nth o (t : Int)]) (t + 1) (x + 1) (y + 1) (t + 1) ∧ ys = xs ++ p, ?_, ?_⟩
     ·by_cases q1 : sa = so
      ·rw [if_pos (by simpa using q1)]
       obtain ⟨hm, hi⟩ := hs1 sb (by unfold pickL; rw [if_pos q1])
       exact ⟨by omega, sb, hm, hi, rfl⟩
      rw [if_neg (by simpa using q1)]
      refine F29.law _ _ _ (by omega) ?_
      by_cases q2 : sb = so
      ·rw [if_pos (by simpa using q2)]
       obtain ⟨hm, hi⟩ := hs1 sa (by unfold pickL; rw [if_neg q1, if_pos q2])
       exact ⟨by omega, sa, hm, hi, rfl⟩
      rw [if_neg (by simpa using q2)]
      refine F29.law _ _ _ (by omega) ?_
      by_cases q3 : sa = sb
      ·rw [if_pos (by simpa using q3)]
       obtain ⟨hm, hi⟩ := hs1 sa (by unfold pickL; rw [if_neg q1, if_neg q2, if_pos q3])
       exact ⟨by omega, sa, hm, hi, rfl⟩
      rw [if_neg (by simpa using q3)]
      exact hn (hn1 (by unfold pickL; rw [if_neg q1, if_neg q2, if_neg q3]))
     ·rintro _ ⟨p, hm, hi, rfl⟩
      exact ⟨by omega, by simp only [List.length_append, List.length_singleton]; omega, by omega, fun _ => by unfold I64; omega, fun _ => by unfold I64; omega, by omega, .inl ⟨t + 1, x + 1, y + 1, t + 1, rfl, rfl, rfl, rfl, hi⟩, by omega⟩
  ·rw [if_neg (by simpa using ht0)]
   have : t = o.length := by omega
   subst this
   refine ⟨by omega, by omega, by omega, ?_⟩
   have hlast := h.last
   have e1 : (o.drop i).take (o.length - i) = o.drop i := seg_end o i
   have e2 : (a.drop j).take (a.length - j) = a.drop j := seg_end a j
   have e3 : (b.drop k).take (b.length - k) = b.drop k := seg_end b k
   rw [e1, e2, e3]
   have s2 : (a.drop j).length = a.length - j := List.length_drop; have s3 : (b.drop k).length = b.length - k := List.length_drop
   have hs1 : ∀ p, pickL (o.drop i) (a.drop j) (b.drop k) = some p → p.length ≤ (a.length - j) + (b.length - k) ∧ smerge o a b = some (xs ++ p) := fun p hp =>
    ⟨by have := (pickL_mem hp).2.2.2; omega, by rw [hp, Option.map_some] at hlast; exact hlast.symm⟩
   have hn1 : pickL (o.drop i) (a.drop j) (b.drop k) = none → smerge o a b = none := fun hp => by rw [hp] at hlast; exact hlast.symm
   generalize o.drop i = so at *
   generalize a.drop j = sa at *
   generalize b.drop k = sb at *
   refine F29.law _ _ _ (by omega) ⟨fun ys => smerge o a b = some ys, ?_, ?_⟩
   ·by_cases q1 : sa = so
    ·rw [if_pos (by simpa using q1)]
     obtain ⟨hm, hi⟩ := hs1 sb (by unfold pickL; rw [if_pos q1])
     exact ⟨by omega, hi⟩
    rw [if_neg (by simpa using q1)]
    refine F29.law _ _ _ (by omega) ?_
    by_cases q2 : sb = so
    ·rw [if_pos (by simpa using q2)]
     obtain ⟨hm, hi⟩ := hs1 sa (by unfold pickL; rw [if_neg q1, if_pos q2])
     exact ⟨by omega, hi⟩
    rw [if_neg (by simpa using q2)]
    refine F29.law _ _ _ (by omega) ?_
    by_cases q3 : sa = sb
    ·rw [if_pos (by simpa using q3)]
     obtain ⟨hm, hi⟩ := hs1 sa (by unfold pickL; rw [if_neg q1, if_neg q2, if_pos q3])
     exact ⟨by omega, hi⟩
    rw [if_neg (by simpa using q3)]
    exact hn (hn1 (by unfold pickL; rw [if_neg q1, if_neg q2, if_neg q3]))
   ·intro ys hi
    exact ⟨fun _ => by unfold I64; omega, fun _ => by unfold I64; omega, fun _ => by unfold I64; omega, fun _ => by unfold I64; omega, .inr ⟨rfl, hi⟩, by omega⟩
 ·rw [if_neg (by simp; omega)]
  exact hs _ h
theorem F6.law (o a b : Shape) (ok : Shape → Shape → Prop) (Q : Shape → Bool → Prop) (h1 : ok a o) (h2 : ok b o) (h3 : ok a b) (hq : Q (three o a b).1 (three o a b).2) : F6.E o a b (fun x y => decide (x = y)) ok Q := by
 unfold F6.E
 unfold three at hq
 refine ⟨h1, ?_⟩
 by_cases e1 : a = o
 ·rw [if_pos e1] at hq; rw [if_pos (decide_eq_true e1)]; exact hq
 ·rw [if_neg e1] at hq; rw [if_neg (by simpa using e1)]
  refine ⟨h2, ?_⟩
  by_cases e2 : b = o
  ·rw [if_pos e2] at hq; rw [if_pos (decide_eq_true e2)]; exact hq
  ·rw [if_neg e2] at hq; rw [if_neg (by simpa using e2)]
   refine ⟨h3, ?_⟩
   by_cases e3 : a = b
   ·rw [if_pos e3] at hq; rw [if_pos (decide_eq_true e3)]; exact hq
   ·rw [if_neg e3] at hq; rw [if_neg (by simpa using e3)]; exact hq
theorem F8.law (o a b : value) (ok : value → value → Prop) (Q : value → Bool → Prop) (h1 : ok a o) (h2 : ok b o) (h3 : ok a b) (hq : Q (three o a b).1 (three o a b).2) : F8.E o a b (fun x y => decide (x = y)) ok Q := by
 unfold F8.E
 unfold three at hq
 refine ⟨h1, ?_⟩
 by_cases e1 : a = o
 ·rw [if_pos e1] at hq; rw [if_pos (decide_eq_true e1)]; exact hq
 ·rw [if_neg e1] at hq; rw [if_neg (by simpa using e1)]
  refine ⟨h2, ?_⟩
  by_cases e2 : b = o
  ·rw [if_pos e2] at hq; rw [if_pos (decide_eq_true e2)]; exact hq
  ·rw [if_neg e2] at hq; rw [if_neg (by simpa using e2)]
   refine ⟨h3, ?_⟩
   by_cases e3 : a = b
   ·rw [if_pos e3] at hq; rw [if_pos (decide_eq_true e3)]; exact hq
   ·rw [if_neg e3] at hq; rw [if_neg (by simpa using e3)]; exact hq
theorem F3.law (s : List Tag) (f : Tag → Bool) (ok : Tag → Prop) (Q : Int → Prop) (hl : s.length ≤ 1048576) (hok : ∀ x ∈ s, ok x) (hq : Q (findN s.length fun j => f (nth s (j : Int)))) : F3.E s f ok Q := by
 unfold F3.E
 refine loop_find s.length (fun j => f (nth s (j : Int))) hq (fun I mu k hk h1 h2 => ⟨by omega, hok _ (nth_mem s hk), ?_⟩)
 cases h : f (nth s (k : Int)) with
 | true => rw [if_pos rfl]; exact h1 h
 | false => rw [if_neg (by decide)]; obtain ⟨i1, i2⟩ := h2 h; exact ⟨by unfold I64; omega, i1, i2⟩
theorem F69.law (f : Feat) (key : Str) (Q : value → Prop) (hl : f.Tags.length ≤ 1048576) (hq : Q (valT f.Tags key)) : F69.E f key Q := by
 unfold F69.E F49.E
 have h1 := findN_le f.Tags.length fun j => (nth f.Tags (j : Int)).Key == key
 refine ⟨fun x => x.Key == key, fun x => x ∈ f.Tags, fun x hx => ?_, F3.law _ _ _ _ hl (fun x hx => hx) ?_⟩
 ·unfold F28.E; rfl
 ·unfold valT at hq
  by_cases h : findN f.Tags.length (fun j => (nth f.Tags (j : Int)).Key == key) < 0
  ·rw [if_pos h] at hq; rw [if_pos (by simpa using h)]; exact hq
  ·rw [if_neg h] at hq; rw [if_neg (by simpa using h)]; exact ⟨by omega, hq⟩
theorem F16.law (l : List (List Tag)) (Q : List Tag → Prop) (h1 : l.length ≤ 1000) (h2 : l.flatten.length ≤ 1000000) (hq : Q l.flatten) : F16.E l Q := by
 have htk : ∀ u, (l.take u).flatten.length ≤ l.flatten.length := fun u => by
  have : l.flatten = (l.take u).flatten ++ (l.drop u).flatten := by rw [← List.flatten_append, List.take_append_drop]
  rw [this, List.length_append]; omega
 have hsn : ∀ u, u < l.length → (l.take (u + 1)).flatten = (l.take u).flatten ++ nth l (u : Int) := fun u hu => by rw [take_nth l hu, List.flatten_append]; simp
 unfold F16.E
 refine ⟨fun size i => ∃ u : Nat, i = u ∧ u ≤ l.length ∧ size = ((l.take u).flatten.length : Int), fun _ i => (l.length - i).toNat, ⟨0, rfl, Nat.zero_le _, by simp⟩, ?_⟩
 rintro _ _ ⟨u, rfl, hu, rfl⟩
 by_cases h : u < l.length
 ·rw [if_pos (by simpa using h)]
  have e := hsn u h
  have ht := htk (u + 1)
  rw [e, List.length_append] at ht
  refine ⟨by omega, fun _ => by unfold I64; omega, ?_⟩
  rw [if_neg (by rw [decide_eq_true_eq]; omega)]
  exact ⟨fun _ => by unfold I64; omega, ⟨u + 1, by omega, by omega, by rw [e, List.length_append]; omega⟩, by dsimp only; omega⟩
 ·rw [if_neg (by simpa using h)]
  have : u = l.length := by omega
  subst this
  rw [List.take_length]
  have rest : ∃ (I82 : (List Tag) → Int → Prop) (mu83 : (List Tag) → Int → Nat), I82 [] 0 ∧ ∀ (xs2 : List Tag) (v4 : Int), I82 xs2 v4 → (if decide (v4 < (l.length : Int)) then ((0 : Int) ≤ v4 ∧ v4 < (l.length : Int)) ∧ (xs2.length + (nth l v4).length ≤ 268435456) ∧ (I64 (v4 + 1)) ∧ I82 (xs2 ++ (nth l v4)) (v4 + 1) ∧ mu83 (xs2 ++ (nth l v4)) (v4 + 1) < mu83 xs2 v4 else Q xs2) := by
   refine ⟨fun xs i => ∃ u : Nat, i = u ∧ u ≤ l.length ∧ xs = (l.take u).flatten, fun _ i => (l.length - i).toNat, ⟨0, rfl, Nat.zero_le _, by simp⟩, ?_⟩
   rintro _ _ ⟨u, rfl, hu, rfl⟩
   by_cases g : u < l.length
   ·rw [if_pos (by simpa using g)]
    have e := hsn u g
    have ht := htk (u + 1)
    rw [e, List.length_append] at ht
    exact ⟨by omega, by omega, by unfold I64; omega, ⟨u + 1, by omega, by omega, by rw [e]⟩, by dsimp only; omega⟩
   ·rw [if_neg (by simpa using g)]
    have : u = l.length := by omega
    subst this
    rw [List.take_length]; exact hq
  unfold F30.E
  rw [if_neg (by rw [decide_eq_true_eq]; omega)]
  refine ⟨by unfold I64; omega, by unfold I64; omega, ?_⟩
  by_cases hz : (l.flatten.length : Int) - (0 - 0) > 0
  ·rw [if_pos (by rw [decide_eq_true_eq]; exact hz)]
   exact ⟨by omega, by omega, rest⟩
  ·rw [if_neg (by rw [decide_eq_true_eq]; exact hz)]
   exact rest
theorem F36.law (f : Feat) (Q : Feat → Prop) (hb : bulk f ≤ 1048576) (hq : Q f) : F36.E f Q := by
 unfold F36.E F27.E
 have h := bulk_feat f
 have h1 := bulk_len f.Tags
 have h2 := bulk_len f.Shape.Pts
 exact ⟨by simp only [List.length_nil]; omega, by simp only [List.length_nil]; omega, hq⟩
theorem F52.law (o a b : Feat) (Q : Feat → List Str → Prop) (h1 : bulk o ≤ 1048576) (h2 : bulk a ≤ 1048576) (h3 : bulk b ≤ 1048576) (hq : Q (featJoin o a b).1 (featJoin o a b).2) : F52.E o a b Q := by
 unfold F52.E
 unfold featJoin at hq
 have zq : (featOk o && featOk a && featOk b && decide (o.Id = a.Id) && decide (o.Id = b.Id)) = false → Q ⟨[], ⟨0, []⟩, []⟩ [] := fun h => by rw [h, if_neg (by decide)] at hq; exact hq
 refine F90.law _ _ h1 ?_
 cases ko : featOk o with
 | false => rw [if_pos (by decide)]; exact zq (by rw [ko]; rfl)
 | true =>
 rw [if_neg (by decide)]
 refine F90.law _ _ h2 ?_
 cases ka : featOk a with
 | false => rw [if_pos (by decide)]; exact zq (by rw [ko, ka]; rfl)
 | true =>
 rw [if_neg (by decide)]
 refine F90.law _ _ h3 ?_
 cases kb : featOk b with
 | false => rw [if_pos (by decide)]; exact zq (by rw [ko, ka, kb]; rfl)
 | true =>
 rw [if_neg (by decide)]
 by_cases e1 : o.Id = a.Id
 case neg => rw [if_pos (by rw [bne_iff_ne]; exact e1)]; exact zq (by rw [decide_eq_false e1]; simp)
 rw [if_neg (by rw [e1]; simp)]
 by_cases e2 : o.Id = b.Id
 case neg => rw [if_pos (by rw [bne_iff_ne]; exact e2)]; exact zq (by rw [decide_eq_false e2]; simp)
 rw [if_neg (by rw [e2]; simp)]
 rw [ko, ka, kb, decide_eq_true e1, decide_eq_true e2, if_pos (by decide)] at hq
 clear zq
 have fo := feat_facts ko; have fa := feat_facts ka; have fb := feat_facts kb
 have so := fo.2.2.1; have sa := fa.2.2.1; have sb := fb.2.2.1
 refine ⟨fun x y => decide (x = y), fun x _ => x.Pts.length ≤ 1048576, fun x y hx => F38.law _ _ _ hx rfl, F6.law _ _ _ _ _ (by (try dsimp only); omega) (by (try dsimp only); omega) (by (try dsimp only); omega) ?_⟩
 refine ⟨fun xs z z2 => xs = (if (shapeF o.Shape a.Shape b.Shape).2 then [] else [shapeS]) ∧ (⟨z, z2⟩ : Shape) = (shapeF o.Shape a.Shape b.Shape).1, ?_, ?_⟩
 ·have hs : ([([115, 104, 97, 112, 101] : Str)] : List Str) = [shapeS] := rfl
  cases c0 : (three o.Shape a.Shape b.Shape).2 with
  | true =>
   rw [if_neg (by decide)]
   have e : shapeF o.Shape a.Shape b.Shape = three o.Shape a.Shape b.Shape := by unfold shapeF; rw [if_pos c0]
   rw [e, c0]; exact ⟨rfl, rfl⟩
  | false =>
   rw [if_pos (by decide)]
   have et : (three o.Shape a.Shape b.Shape).1 = a.Shape := by
    unfold three at c0 ⊢
    split
    ·rename_i h; rw [if_pos h] at c0; cases c0
    ·rename_i h
     rw [if_neg h] at c0
     split
     ·rename_i g; rw [if_pos g] at c0; try cases c0
     ·rename_i g
      rw [if_neg g] at c0
      split <;> rfl
   have bad : (shapeF o.Shape a.Shape b.Shape) = (a.Shape, false) → (if (!false) = true then (([] : List Str).length + ([([115, 104, 97, 112, 101] : Str)] : List Str).length ≤ 268435456) ∧ (([] : List Str) ++ ([([115, 104, 97, 112, 101] : Str)] : List Str) = (if (shapeF o.Shape a.Shape b.Shape).2 then [] else [shapeS]) ∧ (⟨(three o.Shape a.Shape b.Shape).1.Kind, (three o.Shape a.Shape b.Shape).1.Pts⟩ : Shape) = (shapeF o.Shape a.Shape b.Shape).1) else ([] : List Str) = (if (shapeF o.Shape a.Shape b.Shape).2 then [] else [shapeS]) ∧ (⟨(three o.Shape a.Shape b.Shape).1.Kind, (three o.Shape a.Shape b.Shape).1.Pts⟩ : Shape) = (shapeF o.Shape a.Shape b.Shape).1) := fun e => by
    rw [if_pos (by decide), e, et]; exact ⟨by decide, rfl, rfl⟩
   by_cases k1 : o.Shape.Kind = a.Shape.Kind
   case neg => rw [if_neg (by simpa using k1)]; exact bad (by unfold shapeF; rw [if_neg (by rw [c0]; decide), if_neg fun h => k1 h.1.symm])
   rw [if_pos (by simpa using k1)]
   have bad2 : shapeF o.Shape a.Shape b.Shape = (a.Shape, false) → ((⟨(three o.Shape a.Shape b.Shape).1.Kind, (three o.Shape a.Shape b.Shape).1.Pts⟩ : Shape) = (shapeF o.Shape a.Shape b.Shape).1 ∧ false = (shapeF o.Shape a.Shape b.Shape).2) := fun e => by rw [e, et]; exact ⟨rfl, rfl⟩
   refine ⟨fun fine z z2 => (⟨z, z2⟩ : Shape) = (shapeF o.Shape a.Shape b.Shape).1 ∧ fine = (shapeF o.Shape a.Shape b.Shape).2, ?_, ?_⟩
   ·by_cases k2 : o.Shape.Kind = b.Shape.Kind
    case neg => rw [if_neg (by simpa using k2)]; exact bad2 (by unfold shapeF; rw [if_neg (by rw [c0]; decide), if_neg fun h => k2 h.2.symm])
    rw [if_pos (by simpa using k2)]
    have hsh : shapeF o.Shape a.Shape b.Shape = match smerge o.Shape.Pts a.Shape.Pts b.Shape.Pts with
     | some p => if shapeOk ⟨a.Shape.Kind, p⟩ then (⟨a.Shape.Kind, p⟩, true) else (a.Shape, false)
     | none => (a.Shape, false) := by unfold shapeF; rw [if_neg (by rw [c0]; decide), if_pos ⟨k1.symm, k2.symm⟩]; try (cases smerge o.Shape.Pts a.Shape.Pts b.Shape.Pts <;> rfl)
    refine F51.law _ _ _ _ (fun r hr => ?_) (fun hr => ?_)
    ·rw [if_pos rfl]
     have hrl := smerge_len hr
     rw [hr] at hsh
     refine F65.law _ _ (by dsimp only; omega) ?_
     cases k3 : shapeOk ⟨a.Shape.Kind, r⟩ with
     | true =>
      rw [if_pos rfl]
      dsimp only at hsh
      rw [if_pos k3] at hsh
      rw [hsh]; exact ⟨rfl, rfl⟩
     | false =>
      rw [if_neg (by decide)]
      dsimp only at hsh
      rw [if_neg (by rw [k3]; decide)] at hsh
      exact bad2 hsh
    ·rw [if_neg (by decide)]
     rw [hr] at hsh
     exact bad2 hsh
   ·rintro _ z z2 ⟨hz, rfl⟩
    dsimp only
    rw [hz]
    cases (shapeF o.Shape a.Shape b.Shape).2 with
    | true => rw [if_neg (by decide)]; exact ⟨rfl, rfl⟩
    | false => rw [if_pos (by decide)]; exact ⟨by decide, rfl, rfl⟩
 rintro _ z z2 ⟨rfl, hz⟩
 rw [hz]
 unfold F27.E
 have hpts := shapeF_pts (o := o.Shape) sa sb
 refine ⟨by simp only [List.length_nil]; omega, ?_⟩
 rw [List.nil_append]
 have hfl : ([o.Tags, a.Tags, b.Tags] : List (List Tag)).flatten = o.Tags ++ a.Tags ++ b.Tags := by simp
 have hln : (o.Tags ++ a.Tags ++ b.Tags).length ≤ 12 := by simp only [List.length_append]; omega
 refine F16.law _ _ (by simp) (by rw [hfl]; omega) ?_
 rw [hfl]
 refine ⟨fun xs i => ∃ u : Nat, i = u ∧ u ≤ (o.Tags ++ a.Tags ++ b.Tags).length ∧ xs = keysT ((o.Tags ++ a.Tags ++ b.Tags).take u), fun _ i => ((o.Tags ++ a.Tags ++ b.Tags).length - i).toNat, ⟨0, rfl, Nat.zero_le _, rfl⟩, ?_⟩
 rintro _ _ ⟨u, rfl, hu, rfl⟩
 by_cases h : u < (o.Tags ++ a.Tags ++ b.Tags).length
 ·rw [if_pos (decide_eq_true (by omega))]
  have hil : (keysT ((o.Tags ++ a.Tags ++ b.Tags).take u)).length ≤ u := by unfold keysT; simp; omega
  refine ⟨by omega, by simp only [List.length_cons, List.length_nil]; omega, by unfold I64; omega, ⟨u + 1, by omega, by omega, ?_⟩, by dsimp only; omega⟩
  rw [take_nth _ h, keys_app]; rfl
 rw [if_neg (by rw [decide_eq_true_eq]; omega)]
 have : u = (o.Tags ++ a.Tags ++ b.Tags).length := by omega
 subst this
 clear h hu
 rw [List.take_length]
 unfold F7.E F0.E
 have hkl : (keysT (o.Tags ++ a.Tags ++ b.Tags)).length ≤ 12 := by unfold keysT; rw [List.length_map]; exact hln
 refine ⟨by omega, by unfold sortS; rw [List.length_mergeSort]; omega, ?_⟩
 obtain ⟨ks1, ks2⟩ := allKeys_small ko ka kb
 have ek : Lib.compact (sortS (keysT (o.Tags ++ a.Tags ++ b.Tags))) = allKeys o a b := rfl
 rw [ek]
 refine ⟨fun xs i ts => ∃ u : Nat, i = u ∧ u ≤ (allKeys o a b).length ∧ xs = (if (shapeF o.Shape a.Shape b.Shape).2 then [] else [shapeS]) ++ clashL o.Tags a.Tags b.Tags ((allKeys o a b).take u) ∧ ts = tagsL o.Tags a.Tags b.Tags ((allKeys o a b).take u), fun _ i _ => ((allKeys o a b).length - i).toNat, ⟨0, rfl, Nat.zero_le _, by simp [clashL], by simp [tagsL]⟩, ?_⟩
 rintro _ _ _ ⟨u, rfl, hu, rfl, rfl⟩
 have hpre : (if (shapeF o.Shape a.Shape b.Shape).2 then ([] : List Str) else [shapeS]).length ≤ 1 := by split <;> decide
 by_cases h : u < (allKeys o a b).length
 ·rw [if_pos (by simpa using h)]
  have hk6 := ks2 _ (nth_mem _ h)
  have hcl := clashL_len o.Tags a.Tags b.Tags ((allKeys o a b).take u)
  have htl := tagsL_len o.Tags a.Tags b.Tags ((allKeys o a b).take u)
  rw [List.length_take] at hcl htl
  refine ⟨by omega, F69.law _ _ _ (by omega) (F69.law _ _ _ (by omega) (F69.law _ _ _ (by omega) ?_))⟩
  refine ⟨fun x y => decide (x = y), fun _ _ => True, fun x y _ => by unfold F31.E; exact eqvalue_is x y, F8.law _ _ _ _ _ trivial trivial trivial ?_⟩
  have ec := clashL_snoc o.Tags a.Tags b.Tags ((allKeys o a b).take u) (nth (allKeys o a b) (u : Int))
  have et := tagsL_snoc o.Tags a.Tags b.Tags ((allKeys o a b).take u) (nth (allKeys o a b) (u : Int))
  rw [← take_nth _ h] at ec et
  refine ⟨fun xs z z2 => xs = (if (shapeF o.Shape a.Shape b.Shape).2 then [] else [shapeS]) ++ clashL o.Tags a.Tags b.Tags ((allKeys o a b).take (u + 1)) ∧ (⟨z, z2⟩ : value) = (tagK o.Tags a.Tags b.Tags (nth (allKeys o a b) (u : Int))).1, ?_, ?_⟩
  ·generalize nth (allKeys o a b) (u : Int) = k at *
   have ed : tagK o.Tags a.Tags b.Tags k = tagF (valT o.Tags k) (valT a.Tags k) (valT b.Tags k) := rfl
   rw [ec]
   cases c0 : (three (valT o.Tags k) (valT a.Tags k) (valT b.Tags k)).2 with
   | true =>
    have ek : tagK o.Tags a.Tags b.Tags k = three (valT o.Tags k) (valT a.Tags k) (valT b.Tags k) := by rw [ed]; unfold tagF; rw [if_pos c0]
    rw [if_neg (by decide), ek, c0, if_pos rfl, List.append_nil]
    exact ⟨rfl, rfl⟩
   | false =>
    have ek : tagK o.Tags a.Tags b.Tags k = (if (valT a.Tags k).has then valT a.Tags k else valT b.Tags k, false) := by rw [ed]; unfold tagF; rw [if_neg (by rw [c0]; decide)]
    rw [if_pos (by decide), ek]
    refine ⟨by simp only [List.length_cons, List.length_nil]; omega, by simp only [List.length_append, List.length_cons, List.length_nil]; omega, ?_⟩
    have e0 : (if ((if (valT a.Tags k).has then valT a.Tags k else valT b.Tags k, false) : value × Bool).2 then ([] : List Str) else [tagS ++ k]) = [tagS ++ k] := if_neg (by simp)
    rw [e0]
    cases c1 : (valT a.Tags k).has with
    | true => rw [if_neg (by simp)]; exact ⟨by rw [List.append_assoc]; rfl, by generalize valT a.Tags k = v at *; cases v; simp_all⟩
    | false => rw [if_pos (by simp)]; exact ⟨by rw [List.append_assoc]; rfl, by simp⟩
  ·rintro _ z3 z4 ⟨rfl, hz⟩
   have hz3 : z3 = (tagK o.Tags a.Tags b.Tags (nth (allKeys o a b) (u : Int))).1.has := by rw [← hz]
   have hz4 : z4 = (tagK o.Tags a.Tags b.Tags (nth (allKeys o a b) (u : Int))).1.val := by rw [← hz]
   refine ⟨fun ts => ts = tagsL o.Tags a.Tags b.Tags ((allKeys o a b).take (u + 1)), ?_, ?_⟩
   ·rw [et, hz3, hz4]
    split
    ·exact ⟨by simp only [List.length_cons, List.length_nil]; omega, rfl⟩
    ·rw [List.append_nil]
   ·rintro _ rfl
    exact ⟨by unfold I64; omega, ⟨u + 1, by omega, by omega, rfl, rfl⟩, by dsimp only; omega⟩
 rw [if_neg (by simpa using h)]
 have : u = (allKeys o a b).length := by omega
 subst this
 rw [List.take_length]
 have hjs := joinF_small ko ka kb
 unfold joinOf at hq
 show F90.E (joinF o a b) _
 refine F90.law _ _ (by omega) ?_
 cases kj : featOk (joinF o a b) with
 | true =>
  rw [if_neg (by decide)]
  rw [kj, if_pos rfl] at hq
  exact hq
 | false =>
  rw [if_pos (by decide)]
  rw [kj, if_neg (by decide)] at hq
  exact F36.law _ _ h2 hq
theorem F91.law (a b : List Pt) (Q : Bool → Prop) (hq : Q (decide (a = b))) : F91.E a b Q := by
 unfold F91.E
 exact eqS_shape eqPt eqPt_is a b Q hq
theorem F39.law (a b : Shape) (Q : Bool → Prop) (hq : Q (decide (a = b))) : F39.E a b Q := by
 unfold F39.E
 by_cases h : a.Kind = b.Kind
 ·rw [if_pos (by rw [beq_iff_eq]; exact h)]
  refine F91.law _ _ _ ?_
  have : decide (a.Pts = b.Pts) = decide (a = b) := decide_eq_decide.2 (by rw [Shape.ext_iff']; exact ⟨fun e => ⟨h, e⟩, fun e => e.2⟩)
  rw [this]; exact hq
 ·rw [if_neg (by rw [beq_iff_eq]; exact h)]
  rw [decide_eq_false (by rw [Shape.ext_iff']; exact fun e => h e.1)] at hq; exact hq
theorem F115.law (a b : List Pt) (Q : Bool → Prop) (hq : Q (few a b)) : F115.E a b Q := by
 unfold F115.E
 unfold few at hq
 by_cases h : a.length ≤ 12
 ·rw [if_pos (by simp; omega)]
  rw [decide_eq_true h, Bool.true_and] at hq
  have : decide ((b.length : Int) ≤ 12) = decide (b.length ≤ 12) := decide_eq_decide.2 (by omega)
  rw [this]; exact hq
 ·rw [if_neg (by simp; omega)]
  rw [decide_eq_false h, Bool.false_and] at hq; exact hq
theorem F116.m_is (a b : Int) : F116.m a b = max a b := by
 unfold F116.m
 by_cases h : a > b
 ·simp [h]; omega
 ·simp [h]; omega
theorem F92.law (a b : List Pt) (Q : Int → Prop) (ha : a.length ≤ 1048576) (hb : b.length ≤ 1048576) (hq : Q (lcs a b : Nat)) : F92.E a b Q := by
 unfold F92.E
 have hn : ((b.length : Int) + 1).toNat = b.length + 1 := by omega
 rw [hn]
 refine ⟨fun _ => by unfold I64; omega, by omega, fun _ _ => by unfold I64; omega,
  fun xs i => ∃ k : Nat, i = (k : Int) - 1 ∧ k ≤ a.length ∧ RowOk a b k 0 xs, fun _ i => (i + 1).toNat, ⟨a.length, rfl, Nat.le_refl _, by simp, fun m _ hm => ?_⟩, ?_⟩
 ·rw [nth_rep _ _ _ (by omega), List.drop_length, lcs_nil]; rfl
 rintro xs _ ⟨k, rfl, hk, hr⟩
 by_cases hk0 : (k : Int) - 1 ≥ 0
 ·rw [if_pos (by simpa using hk0)]
  obtain ⟨i, rfl⟩ : ∃ i, k = i + 1 := ⟨k - 1, by omega⟩
  have ei : ((i + 1 : Nat) : Int) - 1 = (i : Int) := by omega
  rw [ei]
  refine ⟨fun _ => by unfold I64; omega, by omega, fun _ => by unfold I64; omega,
   fun ys j => ∃ m : Nat, j = (m : Int) - 1 ∧ m ≤ b.length ∧ RowOk a b i m ys, fun _ j => (j + 1).toNat, ⟨b.length, rfl, Nat.le_refl _, by simp, fun m hm1 hm2 => ?_⟩, ?_⟩
  ·have : m = b.length := by omega
   subst this
   rw [nth_rep _ _ _ (by omega), List.drop_length, lcs_nil2]; rfl
  rintro ys _ ⟨m, rfl, hm, hs⟩
  by_cases hm0 : (m : Int) - 1 ≥ 0
  ·rw [if_pos (by simpa using hm0)]
   obtain ⟨j, rfl⟩ : ∃ j, m = j + 1 := ⟨m - 1, by omega⟩
   have ej : ((j + 1 : Nat) : Int) - 1 = (j : Int) := by omega
   have ej1 : (j : Int) + 1 = ((j + 1 : Nat) : Int) := by omega
   rw [ej, ej1, eqPt_is]
   have hl := lcs_drop a b (i := i) (j := j) (by omega) (by omega)
   have n1 := hr.2 (j + 1) (Nat.zero_le _) (by omega)
   have n2 := hr.2 j (Nat.zero_le _) (by omega)
   have n3 := hs.2 (j + 1) (Nat.le_refl _) (by omega)
   have b1 := lcs_le2 (a.drop (i + 1)) (b.drop (j + 1))
   rw [List.length_drop] at b1
   have hset : ∀ v : Int, v = (lcs (a.drop i) (b.drop j) : Nat) → RowOk a b i j (ys.set (j : Int).toNat v) := fun v hv => by
    refine ⟨by rw [List.length_set]; exact hs.1, fun u hu1 hu2 => ?_⟩
    rw [Int.toNat_natCast, nth_set _ (by have := hs.1; omega)]
    by_cases e : u = j
    ·subst e; rw [if_pos rfl, hv]
    ·rw [if_neg e]; exact hs.2 u (by omega) hu2
   have l1 := hr.1
   have l2 := hs.1
   refine ⟨by omega, by omega, ?_⟩
   by_cases he : nth a (i : Int) = nth b (j : Int)
   ·rw [if_pos (by simpa using he)]
    rw [if_pos he] at hl
    rw [n1]
    exact ⟨by unfold I64; omega, by omega, by unfold I64; omega, by omega, by unfold I64; omega, ⟨j, by omega, by omega, hset _ (by omega)⟩, by dsimp only; omega⟩
   ·rw [if_neg (by simpa using he)]
    rw [if_neg he] at hl
    rw [n2, n3, F116.m_is]
    exact ⟨by omega, by unfold I64; omega, by omega, by omega, by unfold I64; omega, ⟨j, by omega, by omega, hset _ (by omega)⟩, by dsimp only; omega⟩
  ·rw [if_neg (by simpa using hm0)]
   have : m = 0 := by omega
   subst this
   exact ⟨by unfold I64; omega, ⟨i, by omega, by omega, hs⟩, by dsimp only; omega⟩
 ·rw [if_neg (by simpa using hk0)]
  have : k = 0 := by omega
  subst this
  have h1 := hr.1
  have h2 := hr.2 0 (Nat.le_refl _) (Nat.zero_le _)
  refine ⟨by omega, ?_⟩
  rw [show nth xs 0 = nth xs ((0 : Nat) : Int) from rfl, h2]
  exact hq
theorem cut_end (a : List Pt) (k : Nat) : (a.drop k).take (a.length - k) = a.drop k := List.take_of_length_le (by rw [List.length_drop]; omega)
theorem F53.law (a b : List Pt) (Q : List Pair → Prop) (hq : Q (spairs a b)) : F53.E a b Q := by
 unfold F53.E
 unfold spairs at hq
 refine ⟨fun xs i j => ∃ u v : Nat, i = u ∧ j = v ∧ u ≤ a.length ∧ v ≤ b.length ∧ (few a b = true → xs ++ (pairs u v (a.drop u) (b.drop v)).map mkP = (pairs 0 0 a b).map mkP) ∧ (few a b = false → xs = []), fun _ i j => ((a.length - i) + (b.length - j)).toNat, ⟨0, 0, rfl, rfl, Nat.zero_le _, Nat.zero_le _, fun _ => rfl, fun _ => rfl⟩, ?_⟩
 rintro xs _ _ ⟨u, v, rfl, rfl, hu, hv, hx, hy⟩
 have hend : (a.length ≤ u ∨ b.length ≤ v) → Q xs := fun h => by
  by_cases hf : few a b = true
  ·rw [if_pos hf] at hq
   have hx := hx hf
   rcases h with h | h
   ·rw [List.drop_of_length_le h, pairs_nil, List.map_nil, List.append_nil] at hx
    rw [hx]; exact hq
   ·rw [List.drop_of_length_le h, pairs_nil2, List.map_nil, List.append_nil] at hx
    rw [hx]; exact hq
  ·rw [if_neg hf] at hq
   rw [hy (by simpa using hf)]; exact hq
 by_cases hu0 : (u : Int) < (a.length : Int)
 ·rw [if_pos (by simpa using hu0)]
  by_cases hv0 : (v : Int) < (b.length : Int)
  ·rw [if_pos (by simpa using hv0)]
   refine F115.law _ _ _ ?_
   by_cases hf : few a b = true
   ·rw [if_pos hf]
    have hx := hx hf
    have hff := few_iff.1 hf
    have hu1 : u < a.length := by omega
    have hv1 : v < b.length := by omega
    rw [pairs_drop a b hu1 hv1] at hx
    have eu : (u : Int) + 1 = ((u + 1 : Nat) : Int) := by omega
    have ev : (v : Int) + 1 = ((v + 1 : Nat) : Int) := by omega
    rw [eqPt_is, eu, ev]
    refine ⟨by omega, by omega, ?_⟩
    by_cases he : nth a (u : Int) = nth b (v : Int)
    ·rw [if_pos (by simpa using he)]
     rw [if_pos he, List.map_cons] at hx
     have hl := congrArg List.length hx
     rw [List.length_map, pairs_len, List.length_append] at hl
     have := lcs_le1 a b
     exact ⟨by simp only [List.length_singleton]; omega, by omega, by omega, ⟨u + 1, v + 1, rfl, rfl, by omega, by omega, fun _ => by rw [List.append_assoc]; exact hx, fun e => absurd hf (by rw [e]; exact Bool.false_ne_true)⟩, by dsimp only; omega⟩
    ·rw [if_neg (by simpa using he)]
     rw [if_neg he] at hx
     simp only [Int.toNat_natCast, cut_end]
     refine ⟨by omega, by omega, by omega, _, F92.law _ _ _ (by rw [List.length_drop]; omega) (by rw [List.length_drop]; omega) rfl, by omega, by omega, by omega, _, F92.law _ _ _ (by rw [List.length_drop]; omega) (by rw [List.length_drop]; omega) rfl, ?_⟩
     by_cases hc : lcs (a.drop u) (b.drop (v + 1)) ≤ lcs (a.drop (u + 1)) (b.drop v)
     ·rw [if_pos (by simpa using hc)]
      rw [if_pos hc] at hx
      exact ⟨by omega, ⟨u + 1, v, rfl, rfl, by omega, by omega, fun _ => hx, fun e => absurd hf (by rw [e]; exact Bool.false_ne_true)⟩, by omega⟩
     ·rw [if_neg (by simpa using hc)]
      rw [if_neg hc] at hx
      exact ⟨by omega, ⟨u, v + 1, rfl, rfl, by omega, by omega, fun _ => hx, fun e => absurd hf (by rw [e]; exact Bool.false_ne_true)⟩, by omega⟩
   ·rw [if_neg hf]
    rw [if_neg hf] at hq
    rw [hy (by simpa using hf)]; exact hq
  ·rw [if_neg (by simpa using hv0)]; exact hend (.inr (by omega))
 ·rw [if_neg (by simpa using hu0)]; exact hend (.inl (by omega))
theorem F128.law (l : List Pair) (k : Int) (Q : Int → Prop) (hq : Q (mateI l k)) : F128.E l k Q := by
 unfold F128.E
 refine ⟨fun i => ∃ u : Nat, i = u ∧ u ≤ l.length ∧ mateI (l.drop u) k = mateI l k, fun i => (l.length - i).toNat, ⟨0, rfl, Nat.zero_le _, rfl⟩, ?_⟩
 rintro _ ⟨u, rfl, hu, he⟩
 by_cases h : (u : Int) < (l.length : Int)
 ·rw [if_pos (by simpa using h)]
  rw [drop_nth l (by omega), mateI_cons] at he
  refine ⟨by omega, ?_⟩
  by_cases hc : ((nth l (u : Int)).A == k) = true
  ·rw [if_pos hc] at he ⊢
   refine ⟨by omega, ?_⟩
   rw [he]; exact hq
  ·rw [if_neg hc] at he ⊢
   exact ⟨by omega, ⟨u + 1, by omega, by omega, he⟩, by dsimp only; omega⟩
 ·rw [if_neg (by simpa using h)]
  rw [List.drop_of_length_le (by omega : l.length ≤ u), mateI_nil] at he
  rw [he]; exact hq
theorem F93.law (o a b : List Pt) (Q : List Pt → Bool → Prop) (hs : ∀ r, pickL o a b = some r → Q r true) (hn : pickL o a b = none → Q [] false) : F93.E o a b Q := by
 unfold F93.E
 unfold pickL at hs hn
 refine F91.law _ _ _ ?_
 by_cases h1 : a = o
 ·rw [if_pos (by simpa using h1)]
  rw [if_pos h1] at hs; exact hs _ rfl
 rw [if_neg (by simpa using h1)]
 rw [if_neg h1] at hs hn
 refine F91.law _ _ _ ?_
 by_cases h2 : b = o
 ·rw [if_pos (by simpa using h2)]
  rw [if_pos h2] at hs; exact hs _ rfl
 rw [if_neg (by simpa using h2)]
 rw [if_neg h2] at hs hn
 refine F91.law _ _ _ ?_
 by_cases h3 : a = b
 ·rw [if_pos (by simpa using h3)]
  rw [if_pos h3] at hs; exact hs _ rfl
 ·rw [if_neg (by simpa using h3)]
  rw [if_neg h3] at hn; exact hn rfl
theorem F70.law (o a b : List Pt) (Q : List Pt → Bool → Prop) (h1 : few o a = true) (h2 : few o b = true) (hs : ∀ r, smerge o a b = some r → Q r true) (hn : smerge o a b = none → Q [] false) : F70.E o a b Q := by
 unfold F70.E
 refine F53.law _ _ _ (F53.law _ _ _ ?_)
 have f1 := few_iff.1 h1; have f2 := few_iff.1 h2
 refine ⟨fun xs i j k t => (∃ i' j' k' t' : Nat, i = i' ∧ j = j' ∧ k = k' ∧ t = t' ∧ MInv o a b xs i' j' k' t') ∨ (t = (o.length : Int) + 1 ∧ smerge o a b = some xs), fun _ _ _ _ t => (o.length + 1 - t).toNat, .inl ⟨0, 0, 0, 0, rfl, rfl, rfl, rfl, MInv.zero h1 h2⟩, ?_⟩
 rintro xs _ _ _ _ (⟨i, j, k, t, rfl, rfl, rfl, rfl, h⟩ | ⟨rfl, h⟩)
 ·have ht := h.ht; have hi := h.hi; have hj := h.hj; have hk := h.hk; have hl := h.len
  rw [if_pos (by simp; omega)]
  simp only [Int.toNat_natCast]
  by_cases ht0 : (t : Int) < (o.length : Int)
  ·rw [if_pos (by simpa using ht0)]
   refine F128.law _ _ _ (F128.law _ _ _ ?_)
   rw [mate_part h1, mate_part h2]
   cases hx : part o a t with
   | none =>
    rw [if_pos (by decide)]
    exact ⟨by omega, .inl ⟨i, j, k, t + 1, rfl, rfl, rfl, rfl, h.skip (by omega) (.inl hx)⟩, by omega⟩
   | some x =>
    rw [if_neg (by simp)]
    cases hy : part o b t with
    | none =>
     rw [if_pos (by decide)]
     exact ⟨by omega, .inl ⟨i, j, k, t + 1, rfl, rfl, rfl, rfl, h.skip (by omega) (.inr hy)⟩, by omega⟩
    | some y =>
     rw [if_neg (by simp)]
     dsimp only
     obtain ⟨g1, g2, g3, g4⟩ := h.from hx hy
     refine ⟨by omega, by omega, by omega, F93.law _ _ _ _ (fun p hp => ?_) (fun hp => ?_)⟩
     ·rw [if_neg (by simp)]
      have hm := (pickL_mem (o := seg o i t) (a := seg a j x) (b := seg b k y) hp).2.2.2
      rw [seg_len a _ _ (by omega), seg_len b _ _ (by omega)] at hm
      exact ⟨by omega, by omega, by simp only [List.length_append, List.length_singleton]; omega, by omega, fun _ _ _ => by unfold I64; omega, fun _ _ _ => by unfold I64; omega, by omega, .inl ⟨t + 1, x + 1, y + 1, t + 1, rfl, rfl, rfl, rfl, h.step (by omega) hx hy hp⟩, by omega⟩
     ·rw [if_pos (by simp)]
      exact hn (h.stop (by omega) hx hy hp)
  ·rw [if_neg (by simpa using ht0)]
   have : t = o.length := by omega
   subst this
   refine ⟨by omega, by omega, by omega, ?_⟩
   have hlast := h.last
   have e1 : (o.drop i).take (o.length - i) = o.drop i := seg_end o i
   have e2 : (a.drop j).take (a.length - j) = a.drop j := seg_end a j
   have e3 : (b.drop k).take (b.length - k) = b.drop k := seg_end b k
   rw [e1, e2, e3]
   refine F93.law _ _ _ _ (fun p hp => ?_) (fun hp => ?_)
   ·rw [if_neg (by simp)]
    have hm := (pickL_mem hp).2.2.2
    rw [List.length_drop, List.length_drop] at hm
    rw [hp, Option.map_some] at hlast
    exact ⟨by omega, fun _ _ _ => by unfold I64; omega, fun _ _ _ => by unfold I64; omega, fun _ _ _ => by unfold I64; omega, fun _ _ _ => by unfold I64; omega, .inr ⟨rfl, hlast.symm⟩, by omega⟩
   ·rw [if_pos (by simp)]
    rw [hp] at hlast
    exact hn hlast.symm
 ·rw [if_neg (by simp; omega)]
  exact hs _ h
theorem F71.law (o a b : Shape) (Q : Shape → Bool → Prop) (h1 : o.Pts.length ≤ 6) (h2 : a.Pts.length ≤ 6) (h3 : b.Pts.length ≤ 6) (hq : Q (shapeF o a b).1 (shapeF o a b).2) : F71.E o a b Q := by
 unfold F71.E
 unfold shapeF three at hq
 refine F39.law _ _ _ ?_
 by_cases e1 : a = o
 ·rw [decide_eq_true e1, if_pos rfl]; rw [if_pos e1, if_pos rfl] at hq; exact hq
 rw [decide_eq_false e1, if_neg (by decide)]; rw [if_neg e1] at hq
 refine F39.law _ _ _ ?_
 by_cases e2 : b = o
 ·rw [decide_eq_true e2, if_pos rfl]; rw [if_pos e2, if_pos rfl] at hq; exact hq
 rw [decide_eq_false e2, if_neg (by decide)]; rw [if_neg e2] at hq
 refine F39.law _ _ _ ?_
 by_cases e3 : a = b
 ·rw [decide_eq_true e3, if_pos rfl]; rw [if_pos e3, if_pos rfl] at hq; exact hq
 rw [decide_eq_false e3, if_neg (by decide)]; rw [if_neg e3, if_neg (by simp)] at hq
 by_cases k1 : a.Kind = b.Kind
 case neg => rw [if_pos (by rw [bne_iff_ne]; exact k1)]; rw [if_neg fun h => k1 (h.1.trans h.2.symm)] at hq; exact hq
 rw [if_neg (by rw [k1]; simp)]
 by_cases k2 : a.Kind = o.Kind
 case neg => rw [if_pos (by rw [bne_iff_ne]; exact k2)]; rw [if_neg fun h => k2 h.1] at hq; exact hq
 rw [if_neg (by rw [k2]; simp)]
 rw [if_pos ⟨k2, k1.symm.trans k2⟩] at hq
 refine F70.law _ _ _ _ (few_iff.2 (by omega)) (few_iff.2 (by omega)) (fun r hr => ?_) (fun hr => ?_)
 ·rw [if_neg (by decide)]
  rw [hr] at hq
  dsimp only at hq
  refine F63.law _ _ ?_
  cases k3 : shapeOk ⟨a.Kind, r⟩ with
  | true => rw [if_neg (by decide)]; rw [if_pos k3] at hq; exact hq
  | false => rw [if_pos (by decide)]; rw [if_neg (by rw [k3]; decide)] at hq; exact hq
 ·rw [if_pos (by decide)]; rw [hr] at hq; exact hq
theorem F117.law (t : List Tag) (key : Str) (Q : Str → Bool → Prop) (hq : Q (valT t key).val (valT t key).has) : F117.E t key Q := by
 unfold F117.E
 unfold valT at hq
 obtain ⟨I, mu, h1, h2⟩ := loop_find t.length (fun j => (nth t (j : Int)).Key == key) (Q := fun r => if r < 0 then Q [] false else Q (nth t r).Val true)
  (B := fun I mu i => ((0 : Int) ≤ i ∧ i < (t.length : Int)) ∧ (if ((nth t i).Key) == key then ((0 : Int) ≤ i ∧ i < (t.length : Int)) ∧ Q ((nth t i).Val) true else (-9223372036854775808 ≤ i) ∧ I (i + 1) ∧ mu (i + 1) < mu i))
  (by
   try dsimp only
   split
   ·rename_i h; rw [if_pos h] at hq; exact hq
   ·rename_i h; rw [if_neg h] at hq; exact hq)
  (fun I mu k hk h1 h2 => ⟨by omega, by
   cases h : (nth t (k : Int)).Key == key with
   | true => rw [if_pos rfl]; have := h1 h; rw [if_neg (by omega)] at this; exact ⟨by omega, this⟩
   | false => rw [if_neg (by decide)]; obtain ⟨i1, i2⟩ := h2 h; exact ⟨by omega, i1, i2⟩⟩)
 refine ⟨I, mu, h1, fun i hi => ?_⟩
 have h3 := h2 i hi
 by_cases h : i < (t.length : Int)
 ·rw [if_pos (decide_eq_true h)] at h3 ⊢; exact h3
 ·rw [if_neg (by simpa using h)] at h3 ⊢
  rw [if_pos (by decide)] at h3; exact h3
theorem value.ext_iff' (a b : value) : a = b ↔ a.has = b.has ∧ a.val = b.val := by cases a; cases b; simp
def tagE (o a b : value) (Q : Str → Bool → Bool → Prop) : Prop :=
 if a = o then Q b.val b.has true else if b = o then Q a.val a.has true else if a = b then Q a.val a.has true else if a.has then Q a.val true false else Q b.val true false
theorem tagE_of {o a b : value} {Q : Str → Bool → Bool → Prop} (ha : a.has = false → a = ⟨false, []⟩) (hb : b.has = false → b = ⟨false, []⟩) (hq : Q (tagF o a b).1.val (tagF o a b).1.has (tagF o a b).2) : tagE o a b Q := by
 unfold tagE
 unfold tagF three at hq
 by_cases e1 : a = o
 ·rw [if_pos e1]; rw [if_pos e1, if_pos rfl] at hq; exact hq
 ·rw [if_neg e1] at hq ⊢
  by_cases e2 : b = o
  ·rw [if_pos e2]; rw [if_pos e2, if_pos rfl] at hq; exact hq
  ·rw [if_neg e2] at hq ⊢
   by_cases e3 : a = b
   ·rw [if_pos e3]; rw [if_pos e3, if_pos rfl] at hq; exact hq
   ·rw [if_neg e3] at hq ⊢
    rw [if_neg (by simp)] at hq
    cases h : a.has with
    | true => rw [if_pos rfl]; rw [h, if_pos rfl, h] at hq; exact hq
    | false =>
     rw [if_neg (by decide)]; rw [h, if_neg (by decide)] at hq
     cases g : b.has with
     | true => rw [g] at hq; exact hq
     | false => exact absurd ((ha h).trans (hb g).symm) e3
theorem beq_dec {α : Type} [DecidableEq α] [BEq α] [LawfulBEq α] {x y : α} : ((x == y) = true) = (x = y) := by simp
theorem F118.law (o a b : List Tag) (key : Str) (Q : Str → Bool → Bool → Prop) (hq : Q (tagK o a b key).1.val (tagK o a b key).1.has (tagK o a b key).2) : F118.E o a b key Q := by
 unfold F118.E
 refine F117.law _ _ _ (F117.law _ _ _ (F117.law _ _ _ ?_))
 have h := tagE_of (valT_no a key) (valT_no b key) hq
 generalize valT o key = vo at *
 generalize valT a key = va at *
 generalize valT b key = vb at *
 unfold tagE at h
 simp only [value.ext_iff'] at h
 by_cases e1 : va.val = vo.val <;> by_cases e2 : va.has = vo.has <;> by_cases e3 : vb.val = vo.val <;> by_cases e4 : vb.has = vo.has <;> by_cases e5 : va.val = vb.val <;> by_cases e6 : va.has = vb.has <;>
  simp only [beq_dec, e1, e2, e3, e4, e5, e6, if_true, if_false, and_self, and_true, and_false, false_and, true_and] at h ⊢ <;> first | exact h | simp_all
theorem F94.law (o a b : List Tag) (Q : List Str → Prop) (h1 : o.length ≤ 100) (h2 : a.length ≤ 100) (h3 : b.length ≤ 100) (hq : Q (uniq (keysT (o ++ a ++ b)))) : F94.E o a b Q := by
 unfold F94.E
 rw [List.nil_append]
 refine ⟨by simp only [List.length_nil]; omega, by omega, by simp only [List.length_append]; omega, ?_⟩
 have hl : (o ++ a ++ b).length ≤ 300 := by simp only [List.length_append]; omega
 generalize o ++ a ++ b = l at *
 refine ⟨fun s i => ∃ u : Nat, i = u ∧ u ≤ l.length ∧ SS (keysT s) ∧ (∀ x, x ∈ keysT s ↔ x ∈ keysT (l.take u)) ∧ s.length ≤ u, fun _ i => (l.length - i).toNat, ⟨0, rfl, Nat.zero_le _, by simp [keysT, SS], by simp [keysT], by simp⟩, ?_⟩
 rintro s _ ⟨u, rfl, hu, g1, g2, g3⟩
 by_cases h : u < l.length
 ·rw [if_pos (by simpa using h)]
  refine ⟨by omega, F114.law _ _ _ _ (by omega) g1 fun r r1 r2 r3 _ => ⟨by omega, ⟨u + 1, by omega, by omega, r1, fun x => ?_, by omega⟩, by dsimp only; omega⟩⟩
  rw [r2, g2, keys_take h, List.mem_append, List.mem_singleton]
 ·rw [if_neg (by simpa using h)]
  have : u = l.length := by omega
  subst this
  rw [List.take_length] at g2
  have e : keysT s = uniq (keysT l) := SS.ext g1 (uniq_ss _) fun x => by rw [g2, uniq_mem]
  rw [← e] at hq
  refine ⟨fun xs i => ∃ v : Nat, i = v ∧ v ≤ s.length ∧ xs = keysT (s.take v), fun _ i => (s.length - i).toNat, ⟨0, rfl, Nat.zero_le _, rfl⟩, ?_⟩
  rintro _ _ ⟨v, rfl, hv, rfl⟩
  have hil : (keysT (s.take v)).length ≤ v := by unfold keysT; simp; omega
  by_cases g : v < s.length
  ·rw [if_pos (by simpa using g)]
   refine ⟨by omega, by simp only [List.length_cons, List.length_nil]; omega, by omega, ⟨v + 1, by omega, by omega, ?_⟩, by dsimp only; omega⟩
   rw [keys_take g]
  ·rw [if_neg (by simpa using g)]
   have : v = s.length := by omega
   subst this
   rw [List.take_length]; exact hq
theorem F95.law (o a b : Feat) (Q : Feat → List Str → Prop) (ko : featOk o = true) (ka : featOk a = true) (kb : featOk b = true) (hq : Q (joinOf o a b).1 (joinOf o a b).2) : F95.E o a b Q := by
 unfold F95.E
 have fo := feat_facts ko; have fa := feat_facts ka; have fb := feat_facts kb
 have so := fo.2.2.1; have sa := fa.2.2.1; have sb := fb.2.2.1
 refine F71.law _ _ _ _ so sa sb ?_
 refine ⟨fun xs => xs = (if (shapeF o.Shape a.Shape b.Shape).2 then [] else [shapeS]), ?_, ?_⟩
 ·cases c : (shapeF o.Shape a.Shape b.Shape).2 with
  | true => rw [if_neg (by decide), if_pos rfl]
  | false => rw [if_pos (by decide), if_neg (by decide)]; exact ⟨by decide, rfl⟩
 rintro _ rfl
 have hpts := shapeF_pts (o := o.Shape) sa sb
 unfold F79.E
 refine ⟨by simp only [List.length_nil]; omega, ?_⟩
 rw [List.nil_append]
 refine F94.law _ _ _ _ (by omega) (by omega) (by omega) ?_
 obtain ⟨ks1, ks2⟩ := allKeys_small ko ka kb
 have ek : uniq (keysT (o.Tags ++ a.Tags ++ b.Tags)) = allKeys o a b := rfl
 rw [ek]
 refine ⟨fun xs i ts => ∃ u : Nat, i = u ∧ u ≤ (allKeys o a b).length ∧ xs = (if (shapeF o.Shape a.Shape b.Shape).2 then [] else [shapeS]) ++ clashL o.Tags a.Tags b.Tags ((allKeys o a b).take u) ∧ ts = tagsL o.Tags a.Tags b.Tags ((allKeys o a b).take u), fun _ i _ => ((allKeys o a b).length - i).toNat, ⟨0, rfl, Nat.zero_le _, by simp [clashL], by simp [tagsL]⟩, ?_⟩
 rintro _ _ _ ⟨u, rfl, hu, rfl, rfl⟩
 have hpre : (if (shapeF o.Shape a.Shape b.Shape).2 then ([] : List Str) else [shapeS]).length ≤ 1 := by split <;> decide
 by_cases h : u < (allKeys o a b).length
 ·rw [if_pos (by simpa using h)]
  have hk6 := ks2 _ (nth_mem _ h)
  have hcl := clashL_len o.Tags a.Tags b.Tags ((allKeys o a b).take u)
  have htl := tagsL_len o.Tags a.Tags b.Tags ((allKeys o a b).take u)
  rw [List.length_take] at hcl htl
  refine ⟨by omega, F118.law _ _ _ _ _ ?_⟩
  have ec := clashL_snoc o.Tags a.Tags b.Tags ((allKeys o a b).take u) (nth (allKeys o a b) (u : Int))
  have et := tagsL_snoc o.Tags a.Tags b.Tags ((allKeys o a b).take u) (nth (allKeys o a b) (u : Int))
  rw [← take_nth _ h] at ec et
  refine ⟨fun xs => xs = (if (shapeF o.Shape a.Shape b.Shape).2 then [] else [shapeS]) ++ clashL o.Tags a.Tags b.Tags ((allKeys o a b).take (u + 1)), ?_, ?_⟩
  ·rw [ec]
   cases c : (tagK o.Tags a.Tags b.Tags (nth (allKeys o a b) (u : Int))).2 with
   | true => rw [if_neg (by decide), if_pos rfl, List.append_nil]
   | false =>
    rw [if_pos (by decide)]
    simp only [Bool.false_eq_true, if_false]
    exact ⟨by omega, by simp only [List.length_cons, List.length_nil]; omega, by simp only [List.length_append, List.length_cons, List.length_nil]; omega, by rw [List.append_assoc]; rfl⟩
  ·rintro _ rfl
   refine ⟨fun ts => ts = tagsL o.Tags a.Tags b.Tags ((allKeys o a b).take (u + 1)), ?_, ?_⟩
   ·rw [et]
    split
    ·exact ⟨by omega, by simp only [List.length_cons, List.length_nil]; omega, rfl⟩
    ·rw [List.append_nil]
   ·rintro _ rfl
    exact ⟨by unfold I64; omega, ⟨u + 1, by omega, by omega, rfl, rfl⟩, by dsimp only; omega⟩
 rw [if_neg (by simpa using h)]
 have : u = (allKeys o a b).length := by omega
 subst this
 rw [List.take_length]
 unfold joinOf at hq
 show F84.E (joinF o a b) _
 refine F84.law _ _ ?_
 cases kj : featOk (joinF o a b) with
 | true =>
  rw [if_neg (by decide)]
  rw [kj, if_pos rfl] at hq
  exact hq
 | false =>
  rw [if_pos (by decide)]
  rw [kj, if_neg (by decide)] at hq
  exact F80.law _ _ (by have := (feat_small ka).1; omega) hq
theorem F54.law (o a b : Feat) (Q : Feat → List Str → Prop) (hq : Q (featJoin o a b).1 (featJoin o a b).2) : F54.E o a b Q := by
 unfold F54.E
 unfold featJoin at hq
 have zq : (featOk o && featOk a && featOk b && decide (o.Id = a.Id) && decide (o.Id = b.Id)) = false → Q ⟨[], ⟨0, []⟩, []⟩ [] := fun h => by rw [h, if_neg (by decide)] at hq; exact hq
 refine F84.law _ _ ?_
 cases ko : featOk o with
 | false => rw [if_pos (by decide)]; exact zq (by rw [ko]; rfl)
 | true =>
 rw [if_neg (by decide)]
 refine F84.law _ _ ?_
 cases ka : featOk a with
 | false => rw [if_pos (by decide)]; exact zq (by rw [ko, ka]; rfl)
 | true =>
 rw [if_neg (by decide)]
 refine F84.law _ _ ?_
 cases kb : featOk b with
 | false => rw [if_pos (by decide)]; exact zq (by rw [ko, ka, kb]; rfl)
 | true =>
 rw [if_neg (by decide)]
 by_cases e1 : a.Id = o.Id
 case neg => rw [if_pos (by rw [bne_iff_ne]; exact e1)]; exact zq (by rw [show decide (o.Id = a.Id) = false from decide_eq_false fun h => e1 h.symm]; simp)
 rw [if_neg (by rw [e1]; simp)]
 by_cases e2 : b.Id = o.Id
 case neg => rw [if_pos (by rw [bne_iff_ne]; exact e2)]; exact zq (by rw [show decide (o.Id = b.Id) = false from decide_eq_false fun h => e2 h.symm]; simp)
 rw [if_neg (by rw [e2]; simp)]
 rw [ko, ka, kb, decide_eq_true e1.symm, decide_eq_true e2.symm, if_pos (by decide)] at hq
 exact F95.law _ _ _ _ ko ka kb hq
theorem valT_of {t : List Tag} (hs : SS (keysT t)) {x : Tag} (hx : x ∈ t) : valT t x.Key = ⟨true, x.Val⟩ := by
 obtain ⟨y, hy, e1, e2⟩ := valT_hit (valT_iff.2 (List.mem_map.2 ⟨x, hx, rfl⟩ : x.Key ∈ keysT t))
 have := keys_inj hs hy hx e1
 subst this; exact e2
theorem valT_none {t : List Tag} {k : Str} (h : k ∉ keysT t) : valT t k = ⟨false, []⟩ := by
 refine valT_no _ _ ?_
 cases g : (valT t k).has with
 | false => rfl
 | true => exact absurd (valT_iff.1 g) h
def IsPut (t : List Tag) (k v : Str) (u : List Tag) : Prop := SS (keysT u) ∧ ∀ x, x ∈ u ↔ (x ∈ t ∧ x.Key ≠ k) ∨ x = ⟨k, v⟩
theorem IsPut.at {t u : List Tag} {k v : Str} (ht : SS (keysT t)) (h : IsPut t k v u) (key : Str) : valT u key = if key = k then ⟨true, v⟩ else valT t key := by
 by_cases e : key = k
 ·rw [if_pos e, e]
  exact valT_of h.1 ((h.2 ⟨k, v⟩).2 (.inr rfl))
 ·rw [if_neg e]
  by_cases g : key ∈ keysT t
  ·obtain ⟨x, hx, rfl⟩ := List.mem_map.1 g
   rw [valT_of ht hx]
   exact valT_of h.1 ((h.2 x).2 (.inl ⟨hx, e⟩))
  ·rw [valT_none g]
   refine valT_none fun hm => ?_
   obtain ⟨x, hx, rfl⟩ := List.mem_map.1 hm
   rcases (h.2 x).1 hx with hx | rfl
   ·exact g (List.mem_map.2 ⟨x, hx.1, rfl⟩)
   ·exact e rfl
theorem IsPut.keys {t u : List Tag} {k v : Str} (h : IsPut t k v u) (key : Str) : key ∈ keysT u ↔ key ∈ keysT t ∨ key = k := by
 constructor
 ·intro hm
  obtain ⟨x, hx, rfl⟩ := List.mem_map.1 hm
  rcases (h.2 x).1 hx with hx | rfl
  ·exact .inl (List.mem_map.2 ⟨x, hx.1, rfl⟩)
  ·exact .inr rfl
 ·rintro (hm | rfl)
  ·obtain ⟨x, hx, rfl⟩ := List.mem_map.1 hm
   by_cases e : x.Key = k
   ·exact List.mem_map.2 ⟨⟨k, v⟩, (h.2 _).2 (.inr rfl), e.symm⟩
   ·exact List.mem_map.2 ⟨x, (h.2 _).2 (.inl ⟨hx, e⟩), rfl⟩
  ·exact List.mem_map.2 ⟨_, (h.2 ⟨key, v⟩).2 (.inr rfl), rfl⟩
theorem IsPut.uniq {t u u' : List Tag} {k v : Str} (h : IsPut t k v u) (h' : IsPut t k v u') : u = u' := by
 have key : ∀ {l m : List Tag}, SS (keysT l) → SS (keysT m) → (∀ x, x ∈ l ↔ x ∈ m) → l = m := fun {l m} hl hm hx =>
  pw_ext (R := fun x y : Tag => Op.bytesLess x.Key y.Key = true) (fun x e => by rw [less_irr] at e; cases e) (fun x y z h1 h2 => less_trans h1 h2) (List.pairwise_map.1 hl) (List.pairwise_map.1 hm) hx
 exact key h.1 h'.1 fun x => (h.2 x).trans (h'.2 x).symm
theorem IsPut.len {t u : List Tag} {k v : Str} (ht : SS (keysT t)) (h : IsPut t k v u) : u.length = t.length + (if k ∈ keysT t then 0 else 1) := by
 have e1 : (keysT u).length = u.length := List.length_map _
 have e2 : (keysT t).length = t.length := List.length_map _
 rw [← e1, ← e2]
 have nd : ∀ {l : List Str}, SS l → l.Nodup := fun hl => hl.imp fun {x y} hxy e => by rw [e, less_irr] at hxy; cases hxy
 by_cases g : k ∈ keysT t
 ·rw [if_pos g, SS.ext h.1 ht fun x => by rw [h.keys]; exact ⟨fun h => h.elim id fun e => e ▸ g, .inl⟩]; rfl
 ·rw [if_neg g]
  have p : (keysT u).Perm (k :: keysT t) := (List.perm_ext_iff_of_nodup (nd h.1) (List.nodup_cons.2 ⟨g, nd ht⟩)).2 fun x => by rw [h.keys, List.mem_cons]; exact or_comm
  rw [p.length_eq, List.length_cons]
theorem IsPut.ok {t u : List Tag} {k v : Str} (ht : tagsOk t = true) (hk : wordOk k = true) (hv : wordOk v = true) (h : IsPut t k v u) : tagsOk u = true := by
 refine tagsOk_of h.1 fun x hx => ?_
 rcases (h.2 x).1 hx with hx | rfl
 ·unfold tagsOk at ht
  obtain ⟨j, hj, rfl⟩ := List.getElem_of_mem hx.1
  have := allN_iff.1 ht j hj
  rw [nth_nat _ hj] at this
  simp only [Bool.and_eq_true] at this
  exact this.1
 ·exact ⟨hk, hv⟩
def getT (f : Feat) (k : Str) : Str × Bool := if featOk f then ((valT f.Tags k).val, (valT f.Tags k).has) else ([], false)
theorem allKeys_ss (a b c : Feat) : SS (allKeys a b c) := uniq_ss _
theorem F49.law (f : Feat) (key : Str) (Q : Int → Prop) (hl : f.Tags.length ≤ 1048576) (hq : Q (findN f.Tags.length fun j => (nth f.Tags (j : Int)).Key == key)) : F49.E f key Q := by
 unfold F49.E
 refine ⟨fun x => x.Key == key, fun x => x ∈ f.Tags, fun x hx => ?_, F3.law _ _ _ _ hl (fun x hx => hx) hq⟩
 unfold F28.E; rfl
theorem F72.law (f : Feat) (key : Str) (Q : Str → Bool → Prop) (hb : bulk f ≤ 1048576) (hq : Q (getT f key).1 (getT f key).2) : F72.E f key Q := by
 unfold F72.E
 have h1 := bulk_feat f
 have h2 := bulk_len f.Tags
 refine F49.law _ _ _ (by omega) (F90.law _ _ hb ?_)
 unfold getT at hq
 cases h : featOk f with
 | false => rw [if_pos (by decide)]; rw [h, if_neg (by decide)] at hq; exact hq
 | true =>
  rw [if_neg (by decide)]; rw [h, if_pos rfl] at hq
  unfold valT at hq
  have hle := findN_le f.Tags.length fun j => (nth f.Tags (j : Int)).Key == key
  split
  ·rename_i g; rw [if_pos (by simpa using g)] at hq; exact hq
  ·rename_i g
   have g : ¬ findN f.Tags.length (fun j => (nth f.Tags (j : Int)).Key == key) < 0 := by simpa using g
   rw [if_neg g] at hq; exact ⟨by omega, hq⟩
theorem F20.law (a b : List Tag) (Q : Bool → Prop) (hb : a.length ≤ 1048576) (hq : Q (decide (a = b))) : F20.E a b Q := by
 unfold F20.E
 exact eqI_shape eqTag eqTag_is a b Q hb hq
theorem F55.law (a b : Feat) (Q : Bool → Prop) (hl : a.Shape.Pts.length ≤ 1048576 ∧ a.Tags.length ≤ 1048576) (hq : Q (decide (a = b))) : F55.E a b Q := by
 unfold F55.E
 by_cases h : a.Id = b.Id
 ·rw [if_pos (by rw [beq_iff_eq]; exact h)]
  refine F38.law _ _ _ (by omega) ?_
  by_cases h2 : a.Shape = b.Shape
  ·rw [decide_eq_true h2, if_pos rfl]
   refine F20.law _ _ _ (by omega) ?_
   have : decide (a.Tags = b.Tags) = decide (a = b) := decide_eq_decide.2 (by rw [Feat.ext_iff']; exact ⟨fun e => ⟨h, h2, e⟩, fun e => e.2.2⟩)
   rw [this]; exact hq
  ·rw [decide_eq_false h2, if_neg (by decide)]
   rw [decide_eq_false (by rw [Feat.ext_iff']; exact fun e => h2 e.2.1)] at hq; exact hq
 ·rw [if_neg (by rw [beq_iff_eq]; exact h)]
  rw [decide_eq_false (by rw [Feat.ext_iff']; exact fun e => h e.1)] at hq; exact hq
theorem F66.law (f : Feat) (key val : Str) (Q : Feat → Bool → Prop) (hf : featOk f = true) (hk : wordOk key = true) (hv : wordOk val = true) (hl : f.Tags.length < 4) (hq : ∀ u, IsPut f.Tags key val u → featOk ⟨f.Id, f.Shape, u⟩ = true → Q ⟨f.Id, f.Shape, u⟩ true) : F66.E f key val Q := by
 unfold F66.E
 have hb : bulk f ≤ 1048576 := Nat.le_trans (feat_small hf).1 (by decide)
 have ss := featOk_tags hf
 have hw := feat_words hf
 have fin : ∀ u, IsPut f.Tags key val u → featOk ⟨f.Id, f.Shape, u⟩ = true := fun u hu => by
  have l := hu.len ss
  refine feat_of hw.1 (feat_facts hf).2.1 hu.1 (by split at l <;> omega) fun x hx => ?_
  rcases (hu.2 x).1 hx with g | rfl
  ·exact hw.2 x g.1
  ·exact ⟨hk, hv⟩
 refine F90.law _ _ hb ?_
 rw [hf, if_neg (by decide)]
 refine F36.law _ _ hb (F49.law _ _ _ (by omega) ?_)
 have hle := findN_le f.Tags.length fun j => (nth f.Tags (j : Int)).Key == key
 by_cases h : findN f.Tags.length (fun j => (nth f.Tags (j : Int)).Key == key) ≥ 0
 ·rw [if_pos (by simpa using h)]
  refine ⟨by omega, ?_⟩
  obtain ⟨i, hi⟩ : ∃ i : Nat, findN f.Tags.length (fun j => (nth f.Tags (j : Int)).Key == key) = (i : Int) := ⟨_, (Int.toNat_of_nonneg (by omega)).symm⟩
  obtain ⟨h1, h2⟩ := findN_true hi
  rw [hi, Int.toNat_natCast]
  have e : (nth f.Tags (i : Int)).Key = key := by simpa using h2
  rw [e]
  have hget : (f.Tags.set i ⟨key, val⟩)[i]? = some ⟨key, val⟩ := List.getElem?_set_self h1
  have hks : keysT (f.Tags.set i ⟨key, val⟩) = keysT f.Tags := by
   unfold keysT
   apply List.ext_getElem?
   intro j
   rw [List.getElem?_map, List.getElem?_map, List.getElem?_set]
   by_cases hj : i = j
   ·subst hj
    rw [if_pos rfl, if_pos h1, List.getElem?_eq_getElem h1]
    rw [nth_nat _ h1] at e
    simp [e]
   ·rw [if_neg hj]
  have hmem : (⟨key, val⟩ : Tag) ∈ f.Tags.set i ⟨key, val⟩ := List.mem_of_getElem? hget
  have hs' : SS (keysT (f.Tags.set i ⟨key, val⟩)) := by rw [hks]; exact ss
  have put : IsPut f.Tags key val (f.Tags.set i ⟨key, val⟩) := by
   refine ⟨hs', fun x => ⟨fun hx => ?_, ?_⟩⟩
   ·by_cases k : x.Key = key
    ·exact .inr (keys_inj hs' hx hmem k)
    ·rcases List.mem_or_eq_of_mem_set hx with g | g
     ·exact .inl ⟨g, k⟩
     ·exact .inr g
   ·rintro (⟨g, k⟩ | rfl)
    ·obtain ⟨j, hj, rfl⟩ := List.getElem_of_mem g
     have : i ≠ j := fun e2 => by subst e2; rw [nth_nat _ h1] at e; exact k e
     refine List.mem_of_getElem? (i := j) ?_
     rw [List.getElem?_set, if_neg this, List.getElem?_eq_getElem hj]
    ·exact hmem
  have ok := fin _ put
  refine F90.law _ _ (Nat.le_trans (feat_small ok).1 (by decide)) ?_
  rw [ok, if_neg (by decide)]
  exact F36.law _ _ (Nat.le_trans (feat_small ok).1 (by decide)) (hq _ put ok)
 ·rw [if_neg (by simpa using h)]
  have hno : key ∉ keysT f.Tags := fun hm => by
   obtain ⟨x, hx, ex⟩ := List.mem_map.1 hm
   obtain ⟨j, hj, rfl⟩ := List.getElem_of_mem hx
   have := findN_neg (n := f.Tags.length) (c := fun j => (nth f.Tags (j : Int)).Key == key) (by omega) j hj
   rw [nth_nat _ hj] at this
   simp at this
   exact this ex
  unfold F5.E
  refine ⟨by simp only [List.length_cons, List.length_nil]; omega, by simp only [List.length_append, List.length_cons, List.length_nil]; omega, fun r hp hs => ?_⟩
  have hmem : ∀ x, x ∈ r ↔ x ∈ f.Tags ∨ x = ⟨key, val⟩ := fun x => by rw [hp.mem_iff, List.mem_append, List.mem_singleton]
  have nd : (keysT r).Nodup := by
   have h0 : (keysT (f.Tags ++ [⟨key, val⟩])).Nodup := by
    rw [keys_app]
    refine List.nodup_append.2 ⟨ss.imp fun {a b} h e => (by rw [e, less_irr] at h; cases h), by simp [keysT], fun a ha b hb' e => ?_⟩
    have hb' : b = key := by simpa [keysT] using hb'
    rw [e, hb'] at ha; exact hno ha
   exact (hp.map (fun t : Tag => t.Key)).nodup_iff.2 h0
  have put : IsPut f.Tags key val r := by
   refine ⟨?_, fun x => ?_⟩
   ·unfold SS keysT
    unfold keysT at nd
    rw [List.pairwise_map]
    have nd' := List.pairwise_map.1 nd
    refine (hs.and nd').imp fun {a b} h => ?_
    rcases less_or h.1 with g | g
    ·exact g
    ·exact absurd g h.2
   ·rw [hmem]
    constructor
    ·rintro (g | g)
     ·exact .inl ⟨g, fun e => hno (List.mem_map.2 ⟨x, g, e⟩)⟩
     ·exact .inr g
    ·rintro (g | g)
     ·exact .inl g.1
     ·exact .inr g
  have ok := fin _ put
  refine F90.law _ _ (Nat.le_trans (feat_small ok).1 (by decide)) ?_
  rw [ok, if_neg (by decide)]
  exact F36.law _ _ (Nat.le_trans (feat_small ok).1 (by decide)) (hq _ put ok)
def aaaK : Str := [97, 97, 97]
def zzzK : Str := [122, 122, 122]
theorem laws_FnFeatTags.two {T ua ub : List Tag} {ks : List Str} {l r : Str} (ht : SS (keysT T)) (ha : aaaK ∉ keysT T) (hz : zzzK ∉ keysT T) (hua : IsPut T aaaK l ua) (hub : IsPut T zzzK r ub) (hks : SS ks) (h1 : ∀ k ∈ keysT ua, k ∈ ks) (h2 : ∀ k ∈ keysT ub, k ∈ ks) :
  IsPut ua zzzK r (tagsL T ua ub ks) ∧ clashL T ua ub ks = [] := by
 have key : ∀ k, tagK T ua ub k = (if k = zzzK then ⟨true, r⟩ else valT ua k, true) := fun k => by
  unfold tagK
  by_cases e : k = zzzK
  ·rw [if_pos e, hub.at ht, if_pos e, hua.at ht, if_neg (by rw [e]; decide), tagF_l]
  ·rw [if_neg e, hub.at ht, if_neg e, tagF_r]
 refine ⟨⟨by rw [tagsL_keys]; exact List.Pairwise.filter _ hks, fun x => ?_⟩, ?_⟩
 ·unfold tagsL
  rw [List.mem_map]
  constructor
  ·rintro ⟨k, hk, rfl⟩
   obtain ⟨hk, hh⟩ := List.mem_filter.1 hk
   rw [key] at hh ⊢
   by_cases e : k = zzzK
   ·rw [if_pos e] at hh ⊢
    exact .inr (by rw [e])
   ·rw [if_neg e] at hh ⊢
    obtain ⟨y, hy, e1, e2⟩ := valT_hit hh
    refine .inl ⟨?_, e⟩
    dsimp only
    rw [e2]
    dsimp only
    rw [← e1]; exact hy
  ·rintro (⟨hx, e⟩ | rfl)
   ·refine ⟨x.Key, List.mem_filter.2 ⟨h1 _ (List.mem_map.2 ⟨x, hx, rfl⟩), ?_⟩, ?_⟩
    ·rw [key, if_neg e, valT_of hua.1 hx]
    ·rw [key, if_neg e, valT_of hua.1 hx]
   ·refine ⟨zzzK, List.mem_filter.2 ⟨h2 _ ((hub.keys _).2 (.inr rfl)), ?_⟩, ?_⟩
    ·rw [key, if_pos rfl]
    ·rw [key, if_pos rfl]
 ·unfold clashL
  rw [List.map_eq_nil_iff, List.filter_eq_nil_iff]
  intro k _
  rw [key]; simp
theorem laws_FnFeatTags.one {T ua uc : List Tag} {ks : List Str} {l r : Str} (ht : SS (keysT T)) (ha : aaaK ∉ keysT T) (hlr : l ≠ r) (hua : IsPut T aaaK l ua) (huc : IsPut T aaaK r uc) (hks : SS ks) (h1 : ∀ k ∈ keysT ua, k ∈ ks) :
  tagsL T ua uc ks = ua ∧ clashL T ua uc ks = [tagS ++ aaaK] := by
 have key : ∀ k, tagK T ua uc k = (valT ua k, !(decide (k = aaaK))) := fun k => by
  unfold tagK
  by_cases e : k = aaaK
  ·have h0 : valT T k = ⟨false, []⟩ := valT_none (by rw [e]; exact ha)
   have h1 : valT ua k = ⟨true, l⟩ := by rw [hua.at ht, if_pos e]
   have h2 : valT uc k = ⟨true, r⟩ := by rw [huc.at ht, if_pos e]
   rw [h0, h1, h2, decide_eq_true e]
   have h3 : (three (⟨false, []⟩ : value) ⟨true, l⟩ ⟨true, r⟩).2 = false := by
    unfold three
    rw [if_neg (by simp), if_neg (by simp), if_neg (by simpa using hlr)]
   rw [tagF_else h3]; rfl
  ·rw [huc.at ht, if_neg e, tagF_r, decide_eq_false e]; rfl
 constructor
 ·unfold tagsL
  simp only [key]
  exact tagsOf_all hua.1 hks h1
 ·unfold clashL
  simp only [key]
  have e : (ks.filter fun k => !(!(decide (k = aaaK)))) = [aaaK] := SS.ext (List.Pairwise.filter _ hks) (List.pairwise_singleton _ _) fun x => by
   rw [List.mem_filter, List.mem_singleton]
   constructor
   ·rintro ⟨_, h⟩; simpa using h
   ·rintro rfl; exact ⟨h1 _ ((hua.keys _).2 (.inr rfl)), by simp⟩
  rw [e]; rfl
theorem laws_FnFeatTags.gen (code : List UInt8) (Q : Bool → Prop) (hq : Q true) : laws_FnFeatTags.E code Q := by
 unfold laws_FnFeatTags.E
 by_cases c1 : (code.length : Int) > 1048576
 ·rw [if_pos (by simpa using c1)]; exact hq
 rw [if_neg (by simpa using c1)]
 refine F15.law _ _ fun o _ _ fo _ _ pk => ?_
 have bo : bulk o ≤ 1048576 := Nat.le_trans fo.small (by decide)
 have out : (∃ q : Bool, F90.E o (fun x => x = q) ∧ (∃ q2 : Bool, F84.E o (fun x => x = q2) ∧ Q (q == q2))) := ⟨_, F90.law _ _ bo rfl, _, F84.law _ _ rfl, by simpa using hq⟩
 refine ⟨_, F90.law _ _ bo rfl, _, F84.law _ _ rfl, ?_⟩
 rw [if_neg (by simp)]
 refine ⟨_, F84.law _ _ rfl, ?_⟩
 cases ko : featOk o with
 | false => rw [if_pos (by decide)]; exact out
 | true =>
 rw [if_neg (by decide)]
 by_cases c2 : (o.Tags.length : Int) > 2
 ·rw [if_pos (by simpa using c2)]; exact out
 rw [if_neg (by simpa using c2)]
 clear out
 have ss := featOk_tags ko
 have na : aaaK ∉ keysT o.Tags := fun h => by
  obtain ⟨x, hx, e⟩ := List.mem_map.1 h
  exact (pk x hx).1 e
 have nz : zzzK ∉ keysT o.Tags := fun h => by
  obtain ⟨x, hx, e⟩ := List.mem_map.1 h
  exact (pk x hx).2 e
 have sm : ∀ {f : Feat}, featOk f = true → bulk f ≤ 1048576 := fun h => Nat.le_trans (feat_small h).1 (by decide)
 refine F66.law _ _ _ _ ko (by decide) (by decide) (by omega) fun ua hua ka => F66.law _ _ _ _ ko (by decide) (by decide) (by omega) fun ub hub kb => F66.law _ _ _ _ ko (by decide) (by decide) (by omega) fun uc huc kc => ?_
 have ks : ∀ (a b c : Feat) (x : List Tag), (x = a.Tags ∨ x = b.Tags ∨ x = c.Tags) → ∀ k ∈ keysT x, k ∈ allKeys a b c := fun a b c x hx k hk => by
  unfold allKeys
  rw [uniq_mem, keys_app, keys_app]
  rcases hx with rfl | rfl | rfl
  ·exact List.mem_append_left _ (List.mem_append_left _ hk)
  ·exact List.mem_append_left _ (List.mem_append_right _ hk)
  ·exact List.mem_append_right _ hk
 obtain ⟨t1, t2⟩ := laws_FnFeatTags.two (ks := allKeys o ⟨o.Id, o.Shape, ua⟩ ⟨o.Id, o.Shape, ub⟩) ss na nz hua hub (allKeys_ss _ _ _) (ks _ _ _ ua (.inr (.inl rfl))) (ks _ _ _ ub (.inr (.inr rfl)))
 obtain ⟨t3, t4⟩ := laws_FnFeatTags.one (ks := allKeys o ⟨o.Id, o.Shape, ua⟩ ⟨o.Id, o.Shape, uc⟩) ss na (by decide) hua huc (allKeys_ss _ _ _) (ks _ _ _ ua (.inr (.inl rfl)))
 have la := hua.len ss
 rw [if_neg (show ¬ ([97, 97, 97] : Str) ∈ keysT o.Tags from na)] at la
 have lw := t1.len hua.1
 rw [if_neg (fun h => by
  rcases (hua.keys _).1 h with g | g
  ·exact nz g
  ·exact absurd g (by decide)), la] at lw
 have jj : ∀ a b c : Feat, featOk a = true → featOk b = true → featOk c = true → a.Id = b.Id → a.Id = c.Id → featJoin a b c = joinOf a b c := fun a b c ha hb hc h1 h2 => by
  unfold featJoin; rw [ha, hb, hc, decide_eq_true h1, decide_eq_true h2, if_pos (by decide)]
 have j1 : ∃ w, IsPut ua zzzK [114, 105, 103, 104, 116] w ∧ w.length = o.Tags.length + 2 ∧ featOk ⟨o.Id, o.Shape, w⟩ = true ∧ joinOf o ⟨o.Id, o.Shape, ua⟩ ⟨o.Id, o.Shape, ub⟩ = (⟨o.Id, o.Shape, w⟩, []) := by
  refine ⟨_, t1, by omega, ?_⟩
  have e1 : joinF o ⟨o.Id, o.Shape, ua⟩ ⟨o.Id, o.Shape, ub⟩ = ⟨o.Id, o.Shape, tagsL o.Tags ua ub (allKeys o ⟨o.Id, o.Shape, ua⟩ ⟨o.Id, o.Shape, ub⟩)⟩ := by
   unfold joinF
   dsimp only
   rw [shapeF_s]
  have e2 : joinW o ⟨o.Id, o.Shape, ua⟩ ⟨o.Id, o.Shape, ub⟩ = [] := by
   unfold joinW
   dsimp only
   rw [shapeF_s, t2]; rfl
  have k := joinF_ok ko ka kb
  rw [decide_eq_true (by dsimp only; omega)] at k
  unfold joinOf
  rw [k, if_pos rfl, e2, ← e1]
  exact ⟨k, rfl⟩
 obtain ⟨w, w1, w2, w3, w4⟩ := j1
 have j2 : joinOf o ⟨o.Id, o.Shape, ua⟩ ⟨o.Id, o.Shape, uc⟩ = (⟨o.Id, o.Shape, ua⟩, [tagS ++ aaaK]) := by
  have e1 : joinF o ⟨o.Id, o.Shape, ua⟩ ⟨o.Id, o.Shape, uc⟩ = ⟨o.Id, o.Shape, ua⟩ := by
   unfold joinF
   dsimp only
   rw [shapeF_s, t3]
  have e2 : joinW o ⟨o.Id, o.Shape, ua⟩ ⟨o.Id, o.Shape, uc⟩ = [tagS ++ aaaK] := by
   unfold joinW
   dsimp only
   rw [shapeF_s, t4]; rfl
  unfold joinOf
  rw [e1, e2, ka, if_pos rfl]
 refine F52.law _ _ _ _ bo (sm ka) (sm kb) (F54.law _ _ _ _ (F52.law _ _ _ _ bo (sm ka) (sm ka) (F52.law _ _ _ _ bo (sm ka) (sm kc) ?_)))
 rw [jj _ _ _ ko ka kb rfl rfl, featJoin_s ko ka rfl, jj _ _ _ ko ka kc rfl rfl, w4, j2]
 rw [if_neg (by decide), if_neg (by decide), if_neg (by decide)]
 refine F55.law _ _ _ ((FB.of w3).lens (by decide)) ?_
 rw [decide_eq_true rfl, if_neg (by decide), if_neg (by simp), if_neg (by simp), if_neg (by simp)]
 refine F55.law _ _ _ ((FB.of ka).lens (by decide)) ?_
 rw [decide_eq_true rfl, if_neg (by decide)]
 refine F72.law _ _ _ (sm w3) (F72.law _ _ _ (sm w3) ?_)
 have g1 : getT ⟨o.Id, o.Shape, w⟩ [97, 97, 97] = ([108, 101, 102, 116], true) := by
  unfold getT
  rw [w3, if_pos rfl]
  dsimp only
  rw [w1.at hua.1, if_neg (by decide), hua.at ss, if_pos rfl]
 have g2 : getT ⟨o.Id, o.Shape, w⟩ [122, 122, 122] = ([114, 105, 103, 104, 116], true) := by
  unfold getT
  rw [w3, if_pos rfl]
  dsimp only
  rw [w1.at hua.1, if_pos (by decide)]
 rw [g1, g2, if_pos rfl, if_pos (by decide), if_pos rfl, if_pos (by decide)]
 refine ⟨fun _ _ _ _ _ _ => by unfold I64; omega, ?_⟩
 rw [if_pos (by simp only [beq_iff_eq]; omega), if_pos (by simp)]
 refine ⟨by simp, ?_⟩
 refine ite_true' (by show ((tagS ++ aaaK : Str) == ([116, 97, 103, 32, 97, 97, 97] : Str)) = true; decide) ?_
 refine F55.law _ _ _ ((FB.of ka).lens (by decide)) ?_
 rw [decide_eq_true rfl]; exact hq
theorem laws_FnFeatTags.law (code : List UInt8) (_ : ∀ x ∈ code, True) : laws_FnFeatTags.E code (fun r => r = true) := laws_FnFeatTags.gen code _ rfl
end Go.Proofs.YtpdmnmpcjljeaaaGreat
namespace Go.Proofs.YtpdmnmpcjljeaaaGreat.rFnFeatTags
open Go.ChangeShapes Go.WideShapes Go.ChangeAt Go.RowKit
open Go.ChangeMaps (open_string shut_string)
set_option linter.unusedVariables false
theorem own : ownKnob Tryz.prog.godebug = none := by kernel_rfl
theorem laidOut : laidOutB Tryz.prog = true := by kernel_rfl
set_option maxHeartbeats 4000000 in
set_option maxRecDepth 100000 in
theorem lifted (os : Os) (started : os.Started) (H : Type) (enc : TypeId × Value → H) :
    ReturnsInHanded {} Tryz.checked os 3 .any (Rows.fnFeatTagsSpec.pre6 enc Tryz.prog Tryz.f3 Rows.fnFeatTagsRow.domain false) (Rows.fnFeatTagsSpec.post enc Tryz.prog Tryz.f3 false true false false) := by
  refine returnsInHanded_of_change_sized (C := Tryz.checked) own started (by kernel_rfl) Tryz.func3
    (ChangeSpec.witness6 (enc := enc) (C := Tryz.checked) false ⟨#[], #[.slice none 0 0], []⟩ 8 (by kernel_rfl) (by kernel_rfl) (by kernel_rfl) (by kernel_rfl)) ?_
  intro W base args ds gs before hval0 hW hcnd hsz0 _
  have hval : ∀ (j : Nat) t v, Tryz.f3.params[j]? = some t → args[j]? = some v → Value.okWide Tryz.prog W .any base t v := hval0
  have hW' := hW
  obtain ⟨p, q, hA0, hV, rfl, hfz, hnd⟩ := hW
  have hA : DataW.TrodAll enc Tryz.prog W 0 (fun _ => true) true Tryz.f3.params.toList args.toList ds p := hA0
  rw [Tryz.params3] at hA hval
  obtain ⟨v0, vs0, d0, ds0, p0, q0, hargs, rfl, rfl, h0, r0⟩ := trodAll_cons hA
  obtain ⟨rfl, rfl, rfl⟩ := trodAll_nil r0
  obtain rfl : args = #[v0] := by cases args; simp_all
  obtain ⟨rfl, rfl⟩ := trodVars_none hV
  have k0 := h0
  have lt0 : ∀ x ∈ p0, x.block < W.heap.size := by obtain ⟨m, hm⟩ := k0; exact DataW.trod_lt m _ _ _ hm
  obtain ⟨x0, hv0, hx0⟩ : ∃ a : List UInt8, (∀ y0 ∈ a, True) ∧ (Kd.sl Kd.byte).R W (Fr []) a v0.cells.toList := by obtain ⟨fuel, hf⟩ := h0; exact (Tr.sl Tryz.underlying22 (by kernel_rfl) (Tr.byte Tryz.underlying5)) H enc W fuel _ _ hf
  obtain ⟨a0, n0, c0, rfl⟩ := okWide_slice Tryz.underlying22 (hval 0 22 v0 rfl rfl)
  have s0 : Sl Kd.byte W (Fr []) (.slice a0 n0 c0) x0 := by obtain ⟨_, e, h⟩ := hx0; simp [Value.cells] at e; subst e; exact h
  clear hA0 hval0 hsz0
  refine Calls.mono (laws_FnFeatTags.calls W (Ok.nil W) x0 a0 n0 c0 s0 (fun r => r = true) (laws_FnFeatTags.law x0 hv0)) fun e W' ⟨v, he, r, hr, hq, hg⟩ => ?_
  subst he; subst hr; subst hq
  have bel := Gr.below hg
  exact ⟨_, rfl, _, _, _, [], _, [], hW', trodAll_mk1 (shut_bool Tryz.underlying4 _), (trodAll_cons_mk (Below.trod laidOut (by kernel_rfl) (of_decide_eq_true (by kernel_rfl)) k0 bel lt0) trodAll_mk0), rfl, bel.frame _, fun h => by cases h⟩
theorem over : Rows.fnFeatTagsRow.holds Tryz.pinned (OpenSpec.ofChange Rows.fnFeatTagsSpec) :=
  OpenClaim.holds_of_wide 3 Tryz.f3 rfl rfl rfl rfl rfl rfl rfl ⟨rfl, rfl, rfl, rfl, rfl⟩ rfl rfl rfl rfl rfl (by kernel_rfl) Tryz.func3 (by kernel_rfl)
    (of_decide_eq_true (by kernel_rfl)) (by unfold Func.isWrapper; first | (rw [if_pos (by decide +kernel)]; kernel_rfl) | (rw [if_neg (by decide +kernel)]; exact ⟨rfl, rfl⟩))
    (fun os started H enc _ => lifted os started H enc)
theorem proved : Rows.FnFeatTagsSaid := over
#print axioms proved
end Go.Proofs.YtpdmnmpcjljeaaaGreat.rFnFeatTags
namespace Go.Proofs.YtpdmnmpcjljeaaaGreat
theorem fnFeatTags_holds : Rows.FnFeatTagsSaid := rFnFeatTags.proved
end Go.Proofs.YtpdmnmpcjljeaaaGreat