/- It is proved here that the law FnSheetWho of the given program holds whatever it is handed: the walks through the code, the plain laws and the row, in this order.
   Conditions: none. -/
import Derived.Below
import Derived.ChangeArms
import Derived.ChangeOld
import Derived.ChangeSlices
import Derived.DataReads
import Derived.Deep.Quiet
import Derived.KernelRfl
import Derived.Laws.Build
import Derived.Laws.IdiomStrings
import Derived.Laws.OwnMore
import Derived.Laws.Slices
import Derived.Laws.Strings2
import Derived.Laws.StructEq
import Derived.OpenShut
import Derived.ProofKit
import Derived.Shelf.Slices.Cells
import Derived.Shelf.Slices.CompactS
import Derived.Shelf.Slices.In.SortNone
import Derived.Shelf.Small.Bits
import Derived.Shelf.Sort.Plain
import Derived.Shelf.Strconv.Itoa0
import Derived.ShutString
import Derived.SizedLaws
import Derived.StillTail
import Derived.Test.YtpdmnmpcjljeaaaGreatProg
import Derived.Test.YtpdmnmpcjljeaaaGreatRows
import Derived.WalkKit
import Derived.Test.YtpdmnmpcjljeaaaGreatCSheetWhoa
import Derived.Test.YtpdmnmpcjljeaaaGreatCSheetWhob
import Derived.Test.YtpdmnmpcjljeaaaGreatCSheetWhoc
import Derived.Test.YtpdmnmpcjljeaaaGreatCSheetWhod
import Derived.Test.YtpdmnmpcjljeaaaGreatCSheetWhoe
namespace Go.Proofs.YtpdmnmpcjljeaaaGreat
set_option linter.unusedVariables false
set_option linter.unusedSimpArgs false
set_option linter.unusedSectionVars false
set_option maxHeartbeats 8000000
set_option maxRecDepth 100000
theorem shape_pos {s : Shape} (h : shapeOk s = true) : 1 ≤ s.Pts.length := by
  unfold shapeOk kindOk at h
  simp only [Bool.and_eq_true] at h
  have := h.2
  split at this
  · simp only [decide_eq_true_eq] at this; omega
  · split at this
    · simp only [Bool.and_eq_true, decide_eq_true_eq] at this; omega
    · split at this
      · simp only [Bool.and_eq_true, decide_eq_true_eq] at this; omega
      · cases this
theorem dot_ok {x y : Int} (h1 : 0 ≤ x) (h2 : x ≤ 5) (h3 : 0 ≤ y) (h4 : y ≤ 5) : shapeOk ⟨1, [⟨x, y⟩]⟩ = true := by
  have e : ptOk (⟨x, y⟩ : Pt) = true := by
    unfold ptOk inR
    simp only [Bool.and_eq_true, decide_eq_true_eq]; omega
  unfold shapeOk ptsOk kindOk
  rw [Bool.and_eq_true]
  refine ⟨allN_true fun k hk => ?_, by rw [if_pos rfl]; rfl⟩
  have hk : k < 1 := hk
  obtain rfl : k = 0 := by omega
  rw [Bool.and_eq_true]
  exact ⟨e, rfl⟩
def keyL : List Str := [[110, 97, 109, 101], [107, 105, 110, 100], [117, 115, 101], [116, 111, 110, 101]]
def valL : List Str := [[97], [98], [111, 97, 107], [97, 115, 104], [114, 111, 97, 100]]
def idL : List Str := [[97], [98], [99], [100], [101]]
def DT (x : Tag) : Prop := x.Key ∈ keyL ∧ x.Val ∈ valL
theorem keyL_ok : ∀ k ∈ keyL, wordOk k = true := by decide
theorem valL_ok : ∀ k ∈ valL, wordOk k = true := by decide
theorem idL_ok : ∀ k ∈ idL, wordOk k = true := by decide
def plainK (k : Str) : Prop := k ≠ [97, 97, 97] ∧ k ≠ [122, 122, 122]
theorem keyL_plain : ∀ k ∈ keyL, plainK k := by
  intro k hk
  simp only [keyL, List.mem_cons, List.not_mem_nil, or_false] at hk
  unfold plainK
  rcases hk with rfl | rfl | rfl | rfl <;> decide
theorem feat_of {id : Str} {s : Shape} {t : List Tag} (h1 : wordOk id = true) (h2 : shapeOk s = true) (h3 : SS (keysT t)) (h4 : t.length ≤ 4) (h5 : ∀ x ∈ t, wordOk x.Key = true ∧ wordOk x.Val = true) : featOk ⟨id, s, t⟩ = true := by
  unfold featOk
  dsimp only
  rw [tagsOk_of h3 h5, h1, h2, decide_eq_true h4]; rfl
structure FB (n : Nat) (f : Feat) : Prop where
  id : f.Id.length ≤ 7
  pts : f.Shape.Pts.length ≤ 7
  len : f.Tags.length ≤ n
  wd : ∀ x ∈ f.Tags, x.Key.length ≤ 6 ∧ x.Val.length ≤ 6
theorem FB.small {n : Nat} {f : Feat} (h : FB n f) : bulk f ≤ 14 + 13 * n := by
  have e : bulk f = bulk f.Id + (0 + bulk f.Shape.Pts) + bulk f.Tags := rfl
  have e2 : bulk f.Id = f.Id.length := bulk_str _
  have e3 : bulk f.Shape.Pts = f.Shape.Pts.length := bulk_flat (fun _ => rfl) _
  have hs := bulk_small f.Tags 12 fun t ht => by
    have := h.wd t ht
    have e : bulk t = bulk t.Key + bulk t.Val := rfl
    rw [e, bulk_str, bulk_str]; omega
  have : f.Tags.length * (12 + 1) ≤ n * 13 := Nat.mul_le_mul h.len (Nat.le_refl _)
  have := h.id; have := h.pts
  omega
theorem FB.of {f : Feat} (h : featOk f = true) : FB 4 f := by
  have := feat_facts h
  exact ⟨by omega, by omega, this.1, this.2.2.2.2⟩
theorem FB.mono {n m : Nat} {f : Feat} (h : FB n f) (hm : n ≤ m) : FB m f := ⟨h.id, h.pts, Nat.le_trans h.len hm, h.wd⟩
theorem DT.len {x : Tag} (h : DT x) : x.Key.length ≤ 6 ∧ x.Val.length ≤ 6 := ⟨word_len (keyL_ok _ h.1), word_len (valL_ok _ h.2)⟩
theorem DT.ok {x : Tag} (h : DT x) : wordOk x.Key = true ∧ wordOk x.Val = true := ⟨keyL_ok _ h.1, valL_ok _ h.2⟩
structure MB (n m : Nat) (s : List Feat) : Prop where
  len : s.length ≤ n
  fb : ∀ f ∈ s, FB m f
theorem MB.small {n m : Nat} {s : List Feat} (h : MB n m s) : bulk s ≤ n * (15 + 13 * m) := by
  have hs := bulk_small s (14 + 13 * m) fun f hf => (h.fb f hf).small
  have : s.length * (14 + 13 * m + 1) ≤ n * (15 + 13 * m) := Nat.mul_le_mul h.len (by omega)
  omega
theorem MB.of {s : List Feat} (h : sheetOk s = true) : MB 8 4 s := ⟨(sheet_ss h).2.1, fun f hf => FB.of ((sheet_ss h).2.2 f hf)⟩
theorem MB.mono {n n' m m' : Nat} {s : List Feat} (h : MB n m s) (h1 : n ≤ n') (h2 : m ≤ m') : MB n' m' s := ⟨Nat.le_trans h.len h1, fun f hf => (h.fb f hf).mono h2⟩
theorem sheet_of {s : List Feat} (h1 : SS (ids s)) (h2 : s.length ≤ 8) (h3 : ∀ f ∈ s, featOk f = true) : sheetOk s = true := by
  unfold sheetOk
  rw [Bool.and_eq_true]
  refine ⟨allN_true fun k hk => ?_, decide_eq_true h2⟩
  rw [Bool.and_eq_true, Bool.or_eq_true, decide_eq_true_eq]
  refine ⟨h3 _ (nth_mem s hk), ?_⟩
  rcases Nat.eq_zero_or_pos k with h0 | h0
  · exact .inl h0
  refine .inr ?_
  unfold SS ids at h1
  have := List.pairwise_iff_getElem.1 (List.pairwise_map.1 h1) (k - 1) k (by omega) hk (by omega)
  rw [show ((k : Int) - 1) = ((k - 1 : Nat) : Int) by omega, nth_nat s hk, nth_nat s (by omega)]
  exact this
def zzI : Str := [122, 122]
theorem idL_nz : ∀ k ∈ idL, k ≠ zzI := by
  intro k hk
  simp only [idL, List.mem_cons, List.not_mem_nil, or_false] at hk
  rcases hk with rfl | rfl | rfl | rfl | rfl <;> decide
structure MD (s : List Feat) : Prop where
  mb : MB 14 4 s
  nz : ∀ f ∈ s, f.Id ≠ zzI
theorem MD.small {s : List Feat} (h : MD s) : bulk s ≤ 1048576 := Nat.le_trans h.mb.small (by decide)
theorem F64.law (b : List UInt8) (p : Int) (Q : Shape → Int → Prop) (hb : b.length ≤ 2000) (hp : 0 ≤ p) (hp1 : p ≤ 100000000) (hq : ∀ s p', shapeOk s = true → p ≤ p' → p' ≤ p + 40 → Q s p') : F64.E b p Q := by
 unfold F64.E
 refine F35.law _ _ _ _ hb hp (by omega) (by decide) fun k hk => F26.law _ _ _ _ hb (by omega) (by omega) fun v hv0 hv1 => ?_
 have hk' : 1 ≤ k ∧ k ≤ 3 := by
  simp only [List.mem_cons, List.not_mem_nil, or_false] at hk; omega
 have fin : ∀ (xs : List Pt) (z : Int), p ≤ z → z ≤ p + 30 → F63.E ⟨k, xs⟩ (fun r6 => (if !r6 then F125.E b z (fun r7 m4 => Q (⟨1, ([r7] : List Pt)⟩ : Shape) m4) else Q (⟨k, xs⟩ : Shape) z)) := fun xs z h1 h2 => by
  refine F63.law _ _ ?_
  cases h : shapeOk ⟨k, xs⟩ with
  | true => rw [if_neg (by decide)]; exact hq _ _ h h1 (by omega)
  | false => rw [if_pos (by decide)]; exact F125.law _ _ _ hb (by omega) (by omega) fun x y x0 x1 y0 y1 => hq _ _ (dot_ok x0 (by omega) y0 y1) (by omega) (by omega)
 refine ⟨by unfold I64; omega, fun w => 1 ≤ w ∧ w ≤ 6, by split <;> omega, ?_⟩
 rintro want ⟨w1, w2⟩
 refine ⟨fun i xs z => 0 ≤ i ∧ i ≤ 12 ∧ (xs.length : Int) ≤ i ∧ p + 2 ≤ z ∧ z ≤ p + 2 + 2 * i, fun i _ _ => (12 - i).toNat, ⟨by omega, by omega, by simp, by omega, by omega⟩, ?_⟩
 rintro i xs z ⟨h0, h1, h2, h3, h4⟩
 by_cases hi : i < 12
 case neg => rw [if_neg (by simpa using hi)]; exact fin _ _ (by omega) (by omega)
 rw [if_pos (by simpa using hi)]
 by_cases hl : (xs.length : Int) < F109.m want 6
 case neg => rw [if_neg (by simpa using hl)]; exact fin _ _ (by omega) (by omega)
 rw [if_pos (by simpa using hl)]
 refine F125.law _ _ _ hb (by omega) (by omega) fun x y x0 x1 y0 y1 => ⟨fun _ => True, ?_, fun v _ => ⟨fun ys => (ys.length : Int) ≤ i + 1, ?_, fun ys hys => ⟨by unfold I64; omega, ⟨by omega, by omega, hys, by omega, by omega⟩, by dsimp only; omega⟩⟩⟩
 ·by_cases h0 : (xs.length : Int) = 0
  ·rw [if_pos (by simpa using h0)]; trivial
  ·rw [if_neg (by simpa using h0)]
   refine ⟨fun _ => by unfold I64; omega, by omega, ?_⟩
   split
   ·split
    ·trivial
    ·exact ⟨by omega, trivial⟩
   ·trivial
 ·cases v with
  | true => rw [if_pos rfl]; exact ⟨by simp only [List.length_cons, List.length_nil]; omega, by simp only [List.length_append, List.length_cons, List.length_nil]; omega⟩
  | false => rw [if_neg (by decide)]; omega
theorem F48.law (b : List UInt8) (p : Int) (l : List Str) (Q : Str → Int → Prop) (hb : b.length ≤ 2000) (hp : 0 ≤ p) (hp1 : p ≤ 1099511627776) (hl : 0 < l.length) (hq : ∀ s ∈ l, Q s (p + 1)) : F48.E b p l Q := by
 unfold F48.E
 exact F26.law _ _ _ _ hb hp hp1 fun v h0 h1 => ⟨by omega, hq _ (nth_memi l h0 (by omega))⟩
theorem F112.law (b : List UInt8) (p : Int) (Q : Str → Int → Prop) (hb : b.length ≤ 2000) (hp : 0 ≤ p) (hp1 : p ≤ 1000000000) (hq : ∀ k ∈ keyL, Q k (p + 1)) : F112.E b p Q := by
 unfold F112.E
 exact F48.law _ _ _ _ hb hp (by omega) (by decide) hq
theorem F113.law (b : List UInt8) (p : Int) (Q : Str → Int → Prop) (hb : b.length ≤ 2000) (hp : 0 ≤ p) (hp1 : p ≤ 1000000000) (hq : ∀ k ∈ valL, Q k (p + 1)) : F113.E b p Q := by
 unfold F113.E
 exact F48.law _ _ _ _ hb hp (by omega) (by decide) hq
def PutT (s : List Tag) (key val : Str) (u : Nat) (xs : List Tag) (done : Bool) : Prop :=
 u ≤ s.length ∧ SS (keysT xs) ∧ (∀ x, x ∈ keysT xs ↔ x ∈ keysT (s.take u) ∨ (done = true ∧ x = key)) ∧ (done = false → (∀ x ∈ keysT (s.take u), Op.bytesLess x key = true) ∧ xs = s.take u) ∧
  (done = true → ∀ y ∈ keysT (s.drop u), Op.bytesLess key y = true) ∧ xs.length ≤ u + 1 ∧ (∀ z ∈ xs, z ∈ s ∨ z = ⟨key, val⟩)
theorem ss_snocT {l : List Str} {x : Str} (h : SS l) (hx : ∀ y ∈ l, Op.bytesLess y x = true) : SS (l ++ [x]) := by
 unfold SS
 rw [List.pairwise_append]
 exact ⟨h, List.pairwise_singleton _ _, fun a ha b hb => by rw [List.mem_singleton.1 hb]; exact hx a ha⟩
theorem keys_take {s : List Tag} {u : Nat} (hu : u < s.length) : keysT (s.take (u + 1)) = keysT (s.take u) ++ [(nth s (u : Int)).Key] := by rw [take_nth s hu, keys_app]; rfl
theorem keys_cut (s : List Tag) (u : Nat) : keysT s = keysT (s.take u) ++ keysT (s.drop u) := by rw [← keys_app, List.take_append_drop]
theorem dropNthT {s : List Tag} {u : Nat} (hu : u < s.length) : s.drop u = nth s (u : Int) :: s.drop (u + 1) := by rw [nth_nat s hu]; exact List.drop_eq_getElem_cons hu
theorem ss_ltT {s : List Tag} (h : SS (keysT s)) {u : Nat} (hu : u < s.length) : (∀ x ∈ keysT (s.take u), Op.bytesLess x (nth s (u : Int)).Key = true) ∧ ∀ y ∈ keysT (s.drop (u + 1)), Op.bytesLess (nth s (u : Int)).Key y = true := by
 have e := keys_cut s u
 rw [dropNthT hu] at e
 have e2 : keysT (nth s (u : Int) :: s.drop (u + 1)) = (nth s (u : Int)).Key :: keysT (s.drop (u + 1)) := rfl
 rw [e2] at e
 rw [e] at h
 obtain ⟨h1, h2, h3⟩ := List.pairwise_append.1 h
 exact ⟨fun x hx => h3 x hx _ List.mem_cons_self, (List.pairwise_cons.1 h2).1⟩
theorem F114.law (s : List Tag) (key val : Str) (Q : List Tag → Prop) (hl : s.length ≤ 1048576) (hs : SS (keysT s)) (hq : ∀ r, SS (keysT r) → (∀ x, x ∈ keysT r ↔ x ∈ keysT s ∨ x = key) → r.length ≤ s.length + 1 → (∀ z ∈ r, z ∈ s ∨ z = ⟨key, val⟩) → Q r) : F114.E s key val Q := by
 unfold F114.E
 refine ⟨fun xs done i => ∃ u : Nat, i = u ∧ PutT s key val u xs done, fun _ _ i => (s.length - i).toNat, ⟨0, rfl, Nat.zero_le _, by simp [keysT, SS], by simp [keysT], fun _ => ⟨by simp [keysT], by simp⟩, (fun h => by cases h), by simp, by simp⟩, ?_⟩
 rintro xs done _ ⟨u, rfl, hu, h1, h2, h3, h4, h5, h6⟩
 by_cases h : u < s.length
 ·rw [if_pos (by simpa using h)]
  obtain ⟨b1, b2⟩ := ss_ltT hs h
  have hin : nth s (u : Int) ∈ s := nth_mem s h
  have hdr : ∀ y ∈ keysT (s.drop u), y = (nth s (u : Int)).Key ∨ y ∈ keysT (s.drop (u + 1)) := fun y hy => by rw [dropNthT h] at hy; exact List.mem_cons.1 hy
  have hcur : (nth s (u : Int)).Key ∈ keysT (s.drop u) := by rw [dropNthT h]; exact List.mem_cons_self
  have hdr' : ∀ y ∈ keysT (s.drop (u + 1)), y ∈ keysT (s.drop u) := fun y hy => by rw [dropNthT h]; exact List.mem_cons_of_mem _ hy
  have stay : ∀ d, d = done → Op.bytesLess (nth s (u : Int)).Key key = true ∨ d = true → xs.length + 1 ≤ u + 1 + 1 → PutT s key val (u + 1) (xs ++ [nth s (u : Int)]) d := fun d hd hor hlen => by
   subst hd
   refine ⟨h, ?_, fun x => ?_, fun hdn => ⟨fun x hx => ?_, ?_⟩, fun hdn y hy => h4 hdn y (hdr' y hy), by simp only [List.length_append, List.length_singleton]; omega, fun z hz => ?_⟩
   ·rw [keys_app]
    refine ss_snocT h1 fun y hy => ?_
    rcases (h2 y).1 hy with hy | ⟨hd, rfl⟩
    ·exact b1 y hy
    ·exact h4 hd _ hcur
   ·rw [keys_app, List.mem_append, h2, keys_take h, List.mem_append]
    constructor
    ·rintro ((hx | hx) | hx)
     ·exact .inl (.inl hx)
     ·exact .inr hx
     ·exact .inl (.inr hx)
    ·rintro ((hx | hx) | hx)
     ·exact .inl (.inl hx)
     ·exact .inr hx
     ·exact .inl (.inr hx)
   ·rw [keys_take h] at hx
    rcases List.mem_append.1 hx with hx | hx
    ·exact (h3 hdn).1 x hx
    ·rw [List.mem_singleton.1 hx]
     rcases hor with hor | hor
     ·exact hor
     ·rw [hdn] at hor; cases hor
   ·rw [(h3 hdn).2, ← take_nth s h]
   ·rcases List.mem_append.1 hz with hz | hz
    ·exact h6 z hz
    ·rw [List.mem_singleton.1 hz]; exact .inl hin
  cases done with
  | true =>
   rw [if_neg (by decide)]
   have hlt := h4 rfl _ hcur
   have hne : (nth s (u : Int)).Key ≠ key := fun e => by rw [e, less_irr] at hlt; cases hlt
   refine ⟨by omega, ?_⟩
   rw [if_pos (by rw [bne_iff_ne]; exact hne)]
   exact ⟨by omega, by simp only [List.length_cons, List.length_nil]; omega, by omega, ⟨u + 1, by omega, stay true rfl (.inr rfl) (by omega)⟩, by dsimp only; omega⟩
  | false =>
   rw [if_pos (by decide)]
   obtain ⟨c1, c2⟩ := h3 rfl
   have hxl : xs.length = u := by rw [c2, List.length_take]; omega
   refine ⟨by omega, ?_⟩
   cases k : Op.bytesLess (nth s (u : Int)).Key key with
   | true =>
    rw [if_neg (by decide)]
    have hne : (nth s (u : Int)).Key ≠ key := fun e => by rw [e, less_irr] at k; cases k
    refine ⟨by omega, ?_⟩
    rw [if_pos (by rw [bne_iff_ne]; exact hne)]
    exact ⟨by omega, by simp only [List.length_cons, List.length_nil]; omega, by omega, ⟨u + 1, by omega, stay false rfl (.inl k) (by omega)⟩, by dsimp only; omega⟩
   | false =>
    rw [if_pos (by decide)]
    have g1 : SS (keysT (xs ++ [(⟨key, val⟩ : Tag)])) := by
     rw [keys_app]
     refine ss_snocT h1 fun y hy => ?_
     rcases (h2 y).1 hy with hy | ⟨hd, _⟩
     ·exact c1 y hy
     ·cases hd
    refine ⟨by simp only [List.length_cons, List.length_nil]; omega, by omega, ?_⟩
    by_cases hne : (nth s (u : Int)).Key = key
    ·rw [if_neg (by rw [hne]; simp)]
     refine ⟨by omega, ⟨u + 1, by omega, h, g1, fun x => ?_, (fun hd => by cases hd), fun _ y hy => by rw [← hne]; exact b2 y hy, by simp only [List.length_append, List.length_singleton]; omega, fun z hz => ?_⟩, by dsimp only; omega⟩
     ·rw [keys_app, List.mem_append, h2, keys_take h, List.mem_append, hne]
      show _ ∨ x ∈ [key] ↔ _
      rw [List.mem_singleton]
      constructor
      ·rintro ((hx | ⟨hd, _⟩) | hx)
       ·exact .inl (.inl hx)
       ·cases hd
       ·exact .inr ⟨rfl, hx⟩
      ·rintro ((hx | hx) | ⟨_, hx⟩)
       ·exact .inl (.inl hx)
       ·exact .inr hx
       ·exact .inr hx
     ·rcases List.mem_append.1 hz with hz | hz
      ·exact h6 z hz
      ·exact .inr (List.mem_singleton.1 hz)
    ·rw [if_pos (by rw [bne_iff_ne]; exact hne)]
     have hlt : Op.bytesLess key (nth s (u : Int)).Key = true := by
      rcases less_or k with g | g
      ·exact g
      ·exact absurd g.symm hne
     refine ⟨by omega, by simp only [List.length_append, List.length_cons, List.length_nil]; omega, by omega, ⟨u + 1, by omega, h, ?_, fun x => ?_, (fun hd => by cases hd), fun _ y hy => less_trans hlt (b2 y hy), by simp only [List.length_append, List.length_singleton]; omega, fun z hz => ?_⟩, by dsimp only; omega⟩
     ·rw [keys_app]
      refine ss_snocT g1 fun y hy => ?_
      rw [keys_app] at hy
      rcases List.mem_append.1 hy with hy | hy
      ·rcases (h2 y).1 hy with hy | ⟨hd, _⟩
       ·exact b1 y hy
       ·cases hd
      ·have hy : y = key := List.mem_singleton.1 hy
       rw [hy]; exact hlt
     ·rw [keys_app, keys_app, List.mem_append, List.mem_append, h2, keys_take h, List.mem_append]
      show (_ ∨ x ∈ [key]) ∨ x ∈ [(nth s (u : Int)).Key] ↔ _
      rw [List.mem_singleton, List.mem_singleton]
      constructor
      ·rintro (((hx | ⟨hd, _⟩) | hx) | hx)
       ·exact .inl (.inl hx)
       ·cases hd
       ·exact .inr ⟨rfl, hx⟩
       ·exact .inl (.inr hx)
      ·rintro ((hx | hx) | ⟨_, hx⟩)
       ·exact .inl (.inl (.inl hx))
       ·exact .inr hx
       ·exact .inl (.inr hx)
     ·rcases List.mem_append.1 hz with hz | hz
      ·rcases List.mem_append.1 hz with hz | hz
       ·exact h6 z hz
       ·exact .inr (List.mem_singleton.1 hz)
      ·rw [List.mem_singleton.1 hz]; exact .inl hin
 ·rw [if_neg (by simpa using h)]
  have : u = s.length := by omega
  subst this
  rw [List.take_length] at h2 h3
  cases done with
  | true =>
   rw [if_neg (by decide)]
   exact hq xs h1 (fun x => by rw [h2]; simp) h5 h6
  | false =>
   rw [if_pos (by decide)]
   obtain ⟨c1, c2⟩ := h3 rfl
   refine ⟨by simp only [List.length_cons, List.length_nil]; omega, hq _ ?_ (fun x => ?_) (by rw [c2]; simp) fun z hz => ?_⟩
   ·rw [keys_app]
    refine ss_snocT h1 fun y hy => ?_
    rcases (h2 y).1 hy with hy | ⟨hd, _⟩
    ·exact c1 y hy
    ·cases hd
   ·rw [keys_app, List.mem_append, h2]
    show _ ∨ x ∈ [key] ↔ _
    rw [List.mem_singleton]; simp
   ·rcases List.mem_append.1 hz with hz | hz
    ·exact h6 z hz
    ·exact .inr (List.mem_singleton.1 hz)
theorem keys_drawn {s : List Tag} {k v : Str} (hk : k ∈ keyL) (hv : v ∈ valL) (h : ∀ x ∈ s, DT x) {r : List Tag} (hr : ∀ z ∈ r, z ∈ s ∨ z = ⟨k, v⟩) : ∀ x ∈ r, DT x := fun x hx => by
 rcases hr x hx with g | rfl
 ·exact h x g
 ·exact ⟨hk, hv⟩
theorem F78.law (b : List UInt8) (p : Int) (id : Str) (Q : Feat → Int → Prop) (hb : b.length ≤ 2000) (hp : 0 ≤ p) (hp1 : p ≤ 10000000) (hq : ∀ s t p', shapeOk s = true → SS (keysT t) → t.length ≤ 3 → (∀ x ∈ t, DT x) → p ≤ p' → p' ≤ p + 60 → Q ⟨id, s, t⟩ p') : F78.E b p id Q := by
 unfold F78.E
 refine F64.law _ _ _ hb hp (by omega) fun s p1 hs p0 p2 => F26.law _ _ _ _ hb (by omega) (by omega) fun k hk0 hk1 => ?_
 refine ⟨fun i t z => 0 ≤ i ∧ i ≤ 3 ∧ SS (keysT t) ∧ (t.length : Int) + i ≤ 3 ∧ (∀ x ∈ t, DT x) ∧ p ≤ z ∧ z ≤ p + 41 + 2 * (3 - i), fun i _ _ => i.toNat, ⟨by omega, by omega, List.Pairwise.nil, by simp only [List.length_nil]; omega, by simp, by omega, by omega⟩, ?_⟩
 rintro i t z ⟨h0, h1, h2, h3, h4, h5, h6⟩
 by_cases hi : i > 0
 case neg => rw [if_neg (by simpa using hi)]; exact hq _ _ _ hs h2 (by omega) h4 h5 (by omega)
 rw [if_pos (by simpa using hi)]
 refine F112.law _ _ _ hb (by omega) (by omega) fun key hkey => F113.law _ _ _ hb (by omega) (by omega) fun val hval => F114.law _ _ _ _ (by omega) h2 fun r r1 r2 r3 r4 => ⟨by unfold I64; omega, ⟨by omega, by omega, r1, by omega, keys_drawn hkey hval h4 r4, by omega, by omega⟩, by dsimp only; omega⟩
theorem feat_drawn {id : Str} {s : Shape} {t : List Tag} (h1 : wordOk id = true) (h2 : shapeOk s = true) (h3 : SS (keysT t)) (h4 : t.length ≤ 3) (h5 : ∀ x ∈ t, DT x) : featOk ⟨id, s, t⟩ = true := feat_of h1 h2 h3 (by omega) fun x hx => (h5 x hx).ok
theorem F126.law (b : List UInt8) (p : Int) (Q : Str → Int → Prop) (hb : b.length ≤ 2000) (hp : 0 ≤ p) (hp1 : p ≤ 1000000000) (hq : ∀ k ∈ idL, Q k (p + 1)) : F126.E b p Q := by
 unfold F126.E
 exact F48.law _ _ _ _ hb hp (by omega) (by decide) hq
def PutS (s : List Feat) (f : Feat) (u : Nat) (xs : List Feat) (done : Bool) : Prop :=
 u ≤ s.length ∧ SS (ids xs) ∧ (∀ x, x ∈ ids xs ↔ x ∈ ids (s.take u) ∨ (done = true ∧ x = f.Id)) ∧ (done = false → (∀ x ∈ ids (s.take u), Op.bytesLess x f.Id = true) ∧ xs = s.take u) ∧
  (done = true → ∀ y ∈ ids (s.drop u), Op.bytesLess f.Id y = true) ∧ xs.length ≤ u + 1 ∧ (∀ z ∈ xs, z ∈ s ∨ z = f)
theorem ss_snoc {l : List Str} {x : Str} (h : SS l) (hx : ∀ y ∈ l, Op.bytesLess y x = true) : SS (l ++ [x]) := by
 unfold SS
 rw [List.pairwise_append]
 exact ⟨h, List.pairwise_singleton _ _, fun a ha b hb => by rw [List.mem_singleton.1 hb]; exact hx a ha⟩
theorem ids_take {s : List Feat} {u : Nat} (hu : u < s.length) : ids (s.take (u + 1)) = ids (s.take u) ++ [(nth s (u : Int)).Id] := by rw [take_nth s hu, ids_app]; rfl
theorem ids_cut (s : List Feat) (u : Nat) : ids s = ids (s.take u) ++ ids (s.drop u) := by rw [← ids_app, List.take_append_drop]
theorem dropNth {s : List Feat} {u : Nat} (hu : u < s.length) : s.drop u = nth s (u : Int) :: s.drop (u + 1) := by rw [nth_nat s hu]; exact List.drop_eq_getElem_cons hu
theorem ss_lt {s : List Feat} (h : SS (ids s)) {u : Nat} (hu : u < s.length) : (∀ x ∈ ids (s.take u), Op.bytesLess x (nth s (u : Int)).Id = true) ∧ ∀ y ∈ ids (s.drop (u + 1)), Op.bytesLess (nth s (u : Int)).Id y = true := by
 have e := ids_cut s u
 rw [dropNth hu] at e
 have e2 : ids (nth s (u : Int) :: s.drop (u + 1)) = (nth s (u : Int)).Id :: ids (s.drop (u + 1)) := rfl
 rw [e2] at e
 rw [e] at h
 obtain ⟨h1, h2, h3⟩ := List.pairwise_append.1 h
 exact ⟨fun x hx => h3 x hx _ List.mem_cons_self, (List.pairwise_cons.1 h2).1⟩
theorem F119.law (s : List Feat) (f : Feat) (Q : List Feat → Prop) (hl : s.length ≤ 1048576) (hs : SS (ids s)) (hq : ∀ r, SS (ids r) → (∀ x, x ∈ ids r ↔ x ∈ ids s ∨ x = f.Id) → r.length ≤ s.length + 1 → (∀ z ∈ r, z ∈ s ∨ z = f) → Q r) : F119.E s f Q := by
 unfold F119.E
 refine ⟨fun xs done i => ∃ u : Nat, i = u ∧ PutS s f u xs done, fun _ _ i => (s.length - i).toNat, ⟨0, rfl, Nat.zero_le _, by simp [ids, SS], by simp [ids], fun _ => ⟨by simp [ids], by simp⟩, (fun h => by cases h), by simp, by simp⟩, ?_⟩
 rintro xs done _ ⟨u, rfl, hu, h1, h2, h3, h4, h5, h6⟩
 by_cases h : u < s.length
 ·rw [if_pos (by simpa using h)]
  obtain ⟨b1, b2⟩ := ss_lt hs h
  have hin : nth s (u : Int) ∈ s := nth_mem s h
  have hdr : ∀ y ∈ ids (s.drop u), y = (nth s (u : Int)).Id ∨ y ∈ ids (s.drop (u + 1)) := fun y hy => by rw [dropNth h] at hy; exact List.mem_cons.1 hy
  have hcur : (nth s (u : Int)).Id ∈ ids (s.drop u) := by rw [dropNth h]; exact List.mem_cons_self
  have hdr' : ∀ y ∈ ids (s.drop (u + 1)), y ∈ ids (s.drop u) := fun y hy => by rw [dropNth h]; exact List.mem_cons_of_mem _ hy
  have stay : ∀ d, d = done → Op.bytesLess (nth s (u : Int)).Id f.Id = true ∨ d = true → xs.length + 1 ≤ u + 1 + 1 → PutS s f (u + 1) (xs ++ [nth s (u : Int)]) d := fun d hd hor hlen => by
   subst hd
   refine ⟨h, ?_, fun x => ?_, fun hdn => ⟨fun x hx => ?_, ?_⟩, fun hdn y hy => h4 hdn y (hdr' y hy), by simp only [List.length_append, List.length_singleton]; omega, fun z hz => ?_⟩
   ·rw [ids_app]
    refine ss_snoc h1 fun y hy => ?_
    rcases (h2 y).1 hy with hy | ⟨hd, rfl⟩
    ·exact b1 y hy
    ·exact h4 hd _ hcur
   ·rw [ids_app, List.mem_append, h2, ids_take h, List.mem_append]
    constructor
    ·rintro ((hx | hx) | hx)
     ·exact .inl (.inl hx)
     ·exact .inr hx
     ·exact .inl (.inr hx)
    ·rintro ((hx | hx) | hx)
     ·exact .inl (.inl hx)
     ·exact .inr hx
     ·exact .inl (.inr hx)
   ·rw [ids_take h] at hx
    rcases List.mem_append.1 hx with hx | hx
    ·exact (h3 hdn).1 x hx
    ·rw [List.mem_singleton.1 hx]
     rcases hor with hor | hor
     ·exact hor
     ·rw [hdn] at hor; cases hor
   ·rw [(h3 hdn).2, ← take_nth s h]
   ·rcases List.mem_append.1 hz with hz | hz
    ·exact h6 z hz
    ·rw [List.mem_singleton.1 hz]; exact .inl hin
  cases done with
  | true =>
   rw [if_neg (by decide)]
   have hlt := h4 rfl _ hcur
   have hne : (nth s (u : Int)).Id ≠ f.Id := fun e => by rw [e, less_irr] at hlt; cases hlt
   refine ⟨by omega, ?_⟩
   rw [if_pos (by rw [bne_iff_ne]; exact hne)]
   exact ⟨by omega, by simp only [List.length_cons, List.length_nil]; omega, by omega, ⟨u + 1, by omega, stay true rfl (.inr rfl) (by omega)⟩, by dsimp only; omega⟩
  | false =>
   rw [if_pos (by decide)]
   obtain ⟨c1, c2⟩ := h3 rfl
   have hxl : xs.length = u := by rw [c2, List.length_take]; omega
   refine ⟨by omega, ?_⟩
   cases k : Op.bytesLess (nth s (u : Int)).Id f.Id with
   | true =>
    rw [if_neg (by decide)]
    have hne : (nth s (u : Int)).Id ≠ f.Id := fun e => by rw [e, less_irr] at k; cases k
    refine ⟨by omega, ?_⟩
    rw [if_pos (by rw [bne_iff_ne]; exact hne)]
    exact ⟨by omega, by simp only [List.length_cons, List.length_nil]; omega, by omega, ⟨u + 1, by omega, stay false rfl (.inl k) (by omega)⟩, by dsimp only; omega⟩
   | false =>
    rw [if_pos (by decide)]
    have g1 : SS (ids (xs ++ [f])) := by
     rw [ids_app]
     refine ss_snoc h1 fun y hy => ?_
     rcases (h2 y).1 hy with hy | ⟨hd, _⟩
     ·exact c1 y hy
     ·cases hd
    refine ⟨by simp only [List.length_cons, List.length_nil]; omega, by omega, ?_⟩
    by_cases hne : (nth s (u : Int)).Id = f.Id
    ·rw [if_neg (by rw [hne]; simp)]
     refine ⟨by omega, ⟨u + 1, by omega, h, g1, fun x => ?_, (fun hd => by cases hd), fun _ y hy => by rw [← hne]; exact b2 y hy, by simp only [List.length_append, List.length_singleton]; omega, fun z hz => ?_⟩, by dsimp only; omega⟩
     ·rw [ids_app, List.mem_append, h2, ids_take h, List.mem_append, hne]
      show _ ∨ x ∈ [f.Id] ↔ _
      rw [List.mem_singleton]
      constructor
      ·rintro ((hx | ⟨hd, _⟩) | hx)
       ·exact .inl (.inl hx)
       ·cases hd
       ·exact .inr ⟨rfl, hx⟩
      ·rintro ((hx | hx) | ⟨_, hx⟩)
       ·exact .inl (.inl hx)
       ·exact .inr hx
       ·exact .inr hx
     ·rcases List.mem_append.1 hz with hz | hz
      ·exact h6 z hz
      ·exact .inr (List.mem_singleton.1 hz)
    ·rw [if_pos (by rw [bne_iff_ne]; exact hne)]
     have hlt : Op.bytesLess f.Id (nth s (u : Int)).Id = true := by
      rcases less_or k with g | g
      ·exact g
      ·exact absurd g.symm hne
     refine ⟨by omega, by simp only [List.length_append, List.length_cons, List.length_nil]; omega, by omega, ⟨u + 1, by omega, h, ?_, fun x => ?_, (fun hd => by cases hd), fun _ y hy => less_trans hlt (b2 y hy), by simp only [List.length_append, List.length_singleton]; omega, fun z hz => ?_⟩, by dsimp only; omega⟩
     ·rw [ids_app]
      refine ss_snoc g1 fun y hy => ?_
      rw [ids_app] at hy
      rcases List.mem_append.1 hy with hy | hy
      ·rcases (h2 y).1 hy with hy | ⟨hd, _⟩
       ·exact b1 y hy
       ·cases hd
      ·have hy : y = f.Id := List.mem_singleton.1 hy
       rw [hy]; exact hlt
     ·rw [ids_app, ids_app, List.mem_append, List.mem_append, h2, ids_take h, List.mem_append]
      show (_ ∨ x ∈ [f.Id]) ∨ x ∈ [(nth s (u : Int)).Id] ↔ _
      rw [List.mem_singleton, List.mem_singleton]
      constructor
      ·rintro (((hx | ⟨hd, _⟩) | hx) | hx)
       ·exact .inl (.inl hx)
       ·cases hd
       ·exact .inr ⟨rfl, hx⟩
       ·exact .inl (.inr hx)
      ·rintro ((hx | hx) | ⟨_, hx⟩)
       ·exact .inl (.inl (.inl hx))
       ·exact .inr hx
       ·exact .inl (.inr hx)
     ·rcases List.mem_append.1 hz with hz | hz
      ·rcases List.mem_append.1 hz with hz | hz
       ·exact h6 z hz
       ·exact .inr (List.mem_singleton.1 hz)
      ·rw [List.mem_singleton.1 hz]; exact .inl hin
 ·rw [if_neg (by simpa using h)]
  have : u = s.length := by omega
  subst this
  rw [List.take_length] at h2 h3
  cases done with
  | true =>
   rw [if_neg (by decide)]
   exact hq xs h1 (fun x => by rw [h2]; simp) h5 h6
  | false =>
   rw [if_pos (by decide)]
   obtain ⟨c1, c2⟩ := h3 rfl
   refine ⟨by simp only [List.length_cons, List.length_nil]; omega, hq _ ?_ (fun x => ?_) (by rw [c2]; simp) fun z hz => ?_⟩
   ·rw [ids_app]
    refine ss_snoc h1 fun y hy => ?_
    rcases (h2 y).1 hy with hy | ⟨hd, _⟩
    ·exact c1 y hy
    ·cases hd
   ·rw [ids_app, List.mem_append, h2]
    show _ ∨ x ∈ [f.Id] ↔ _
    rw [List.mem_singleton]; simp
   ·rcases List.mem_append.1 hz with hz | hz
    ·exact h6 z hz
    ·exact .inr (List.mem_singleton.1 hz)
theorem F73.law (b : List UInt8) (p : Int) (Q : List Feat → Int → Prop) (hb : b.length ≤ 2000) (hp : 0 ≤ p) (hp1 : p ≤ 1000000) (hq : ∀ s p', sheetOk s = true → s.length ≤ 4 → (∀ f ∈ s, f.Id ≠ zzI) → p ≤ p' → p' ≤ p + 300 → Q s p') : F73.E b p Q := by
 unfold F73.E
 refine F26.law _ _ _ _ hb hp (by omega) fun k hk0 hk1 => ?_
 refine ⟨fun s i z => 0 ≤ i ∧ i ≤ 4 ∧ SS (ids s) ∧ (s.length : Int) + i ≤ 4 ∧ (∀ f ∈ s, featOk f = true ∧ f.Id ≠ zzI) ∧ p ≤ z ∧ z ≤ p + 1 + 61 * (4 - i), fun _ i _ => i.toNat, ⟨by omega, by omega, List.Pairwise.nil, by simp only [List.length_nil]; omega, by simp, by omega, by omega⟩, ?_⟩
 rintro s i z ⟨h0, h1, h2, h3, h4, h5, h6⟩
 by_cases hi : i > 0
 case neg => rw [if_neg (by simpa using hi)]; exact hq _ _ (sheet_of h2 (by omega) fun f hf => (h4 f hf).1) (by omega) (fun f hf => (h4 f hf).2) h5 (by omega)
 rw [if_pos (by simpa using hi)]
 refine F126.law _ _ _ hb (by omega) (by omega) fun id hid => F78.law _ _ _ _ hb (by omega) (by omega) fun sh t p1 hs ht tl td p2 p3 => F119.law _ _ _ (by omega) h2 fun r r1 r2 r3 r4 => ⟨by unfold I64; omega, ⟨by omega, by omega, r1, by omega, fun f hf => ?_, by omega, by omega⟩, by dsimp only; omega⟩
 rcases r4 f hf with g | rfl
 ·exact h4 f g
 ·exact ⟨feat_drawn (idL_ok _ hid) hs ht tl td, idL_nz _ hid⟩
theorem F86.law (b : List UInt8) (p : Int) (Q : Shape → Int → Prop) (hb : b.length ≤ 2000) (hp : 0 ≤ p) (hp1 : p ≤ 10000000) (hq : ∀ s p', s.Pts.length ≤ 7 → p ≤ p' → p' ≤ p + 50 → Q s p') : F86.E b p Q := by
 unfold F86.E
 refine F64.law _ _ _ hb hp (by omega) fun s p1 hs p0 p2 => F26.law _ _ _ _ hb (by omega) (by omega) fun k hk0 hk1 => F26.law _ _ _ _ hb (by omega) (by omega) fun v hv0 hv1 => ?_
 have l1 := shape_pos hs
 have l2 := shape_pts hs
 split
 ·exact F35.law _ _ _ _ hb (by omega) (by omega) (by decide) fun n hn => hq _ _ (by dsimp only; omega) (by omega) (by omega)
 split
 ·exact F35.law _ _ _ _ hb (by omega) (by omega) (by decide) fun n hn => ⟨by omega, hq _ _ (by simp only [List.length_set]; omega) (by omega) (by omega)⟩
 split
 ·exact ⟨fun _ => by unfold I64; omega, by omega, by simp only [List.length_cons, List.length_nil]; omega, hq _ _ (by simp only [List.length_append, List.length_cons, List.length_nil]; omega) (by omega) (by omega)⟩
 split
 ·exact ⟨by omega, hq _ _ (by simp only [List.length_take, List.length_drop]; omega) (by omega) (by omega)⟩
 exact hq _ _ (by omega) (by omega) (by omega)
theorem F87.law (b : List UInt8) (p : Int) (Q : Feat → Int → Prop) (hb : b.length ≤ 2000) (hp : 0 ≤ p) (hp1 : p ≤ 1000000) (hq : ∀ f p', FB 4 f → (∀ x ∈ f.Tags, plainK x.Key) → f.Id ≠ zzI → p ≤ p' → p' ≤ p + 120 → Q f p') : F87.E b p Q := by
 unfold F87.E
 refine F126.law _ _ _ hb hp (by omega) fun id hid => F78.law _ _ _ _ hb (by omega) (by omega) fun s t p1 hs ht tl td p2 p3 => F26.law _ _ _ _ hb (by omega) (by omega) fun v hv0 hv1 => ?_
 have li := word_len (idL_ok _ hid)
 have lp := shape_pts hs
 have tp : ∀ x ∈ t, plainK x.Key := fun x hx => keyL_plain _ (td x hx).1
 have tw : ∀ x ∈ t, x.Key.length ≤ 6 ∧ x.Val.length ≤ 6 := fun x hx => (td x hx).len
 have iz := idL_nz _ hid
 split
 ·refine F48.law _ _ _ _ hb (by omega) (by omega) (by decide) fun w hw => hq _ _ ⟨?_, by dsimp only; omega, by dsimp only; omega, tw⟩ tp ?_ (by omega) (by omega)
  all_goals
   simp only [List.mem_cons, List.not_mem_nil, or_false] at hw
   dsimp only
   rcases hw with rfl | rfl | rfl <;> decide
 split
 ·exact F86.law _ _ _ hb (by omega) (by omega) fun s' p4 h4 h5 h6 => hq _ _ ⟨by dsimp only; omega, h4, by dsimp only; omega, tw⟩ tp iz (by omega) (by omega)
 split
 ·refine ⟨by simp only [List.length_cons, List.length_nil]; omega, hq _ _ ⟨by dsimp only; omega, by dsimp only; omega, by simp only [List.length_append, List.length_cons, List.length_nil]; omega, fun x hx => ?_⟩ (fun x hx => ?_) iz (by omega) (by omega)⟩
  ·rcases List.mem_append.1 hx with hx | hx
   ·exact tw x hx
   ·rw [List.mem_singleton.1 hx]; decide
  ·rcases List.mem_append.1 hx with hx | hx
   ·exact tp x hx
   ·rw [List.mem_singleton.1 hx]; unfold plainK; dsimp only; decide
 split
 ·refine F48.law _ _ _ _ hb (by omega) (by omega) (by decide) fun w hw => ⟨by simp only [List.length_cons, List.length_nil]; omega, hq _ _ ⟨by dsimp only; omega, by dsimp only; omega, by simp only [List.length_append, List.length_cons, List.length_nil]; omega, fun x hx => ?_⟩ (fun x hx => ?_) iz (by omega) (by omega)⟩
  ·rcases List.mem_append.1 hx with hx | hx
   ·exact tw x hx
   ·rw [List.mem_singleton.1 hx]
    simp only [List.mem_cons, List.not_mem_nil, or_false] at hw
    rcases hw with rfl | rfl <;> decide
  ·rcases List.mem_append.1 hx with hx | hx
   ·exact tp x hx
   ·rw [List.mem_singleton.1 hx]; unfold plainK; dsimp only; decide
 exact hq _ _ ⟨by dsimp only; omega, by dsimp only; omega, by dsimp only; omega, tw⟩ tp iz (by omega) (by omega)
theorem F96.law (b : List UInt8) (p : Int) (Q : List Feat → Int → Prop) (hb : b.length ≤ 2000) (hp : 0 ≤ p) (hp1 : p ≤ 100000) (hq : ∀ s p', MD s → p ≤ p' → p' ≤ p + 500 → Q s p') : F96.E b p Q := by
 unfold F96.E
 refine F73.law _ _ _ hb hp (by omega) fun s p1 hs hl hz p2 p3 => F26.law _ _ _ _ hb (by omega) (by omega) fun v hv0 hv1 => ?_
 have mb := MB.of hs
 have hm : MD s := ⟨⟨by omega, mb.fb⟩, hz⟩
 split
 ·refine F87.law _ _ _ hb (by omega) (by omega) fun f p4 h1 _ h2 h3 h4 => ⟨by simp only [List.length_cons, List.length_nil]; omega, hq _ _ ⟨⟨by simp only [List.length_append, List.length_cons, List.length_nil]; omega, fun x hx => ?_⟩, fun x hx => ?_⟩ (by omega) (by omega)⟩
  ·rcases List.mem_append.1 hx with hx | hx
   ·exact mb.fb x hx
   ·rw [List.mem_singleton.1 hx]; exact h1
  ·rcases List.mem_append.1 hx with hx | hx
   ·exact hz x hx
   ·rw [List.mem_singleton.1 hx]; exact h2
 split
 ·refine ⟨by omega, hq _ _ ⟨⟨by simp only [List.length_append]; omega, fun x hx => ?_⟩, fun x hx => ?_⟩ (by omega) (by omega)⟩
  ·rcases List.mem_append.1 hx with hx | hx <;> exact mb.fb x hx
  ·rcases List.mem_append.1 hx with hx | hx <;> exact hz x hx
 split
 ·refine ⟨fun s i => 0 ≤ i ∧ i ≤ 9 ∧ SS (ids s) ∧ (s.length : Int) ≤ 4 + i ∧ (∀ f ∈ s, FB 4 f ∧ f.Id ≠ zzI), fun _ i => (9 - i).toNat, ⟨by omega, by omega, (sheet_ss hs).1, by omega, fun f hf => ⟨mb.fb f hf, hz f hf⟩⟩, ?_⟩
  rintro s i ⟨h0, h1, h2, h3, h4⟩
  by_cases hi : i ≤ 8
  case neg => rw [if_neg (by simpa using hi)]; exact hq _ _ ⟨⟨by omega, fun f hf => (h4 f hf).1⟩, fun f hf => (h4 f hf).2⟩ (by omega) (by omega)
  rw [if_pos (by simpa using hi)]
  have hl1 : ∀ l : Str, ((l.drop i.toNat).take ((i + 1).toNat - i.toNat)).length ≤ 1 := fun l => by rw [List.length_take]; omega
  refine ⟨by unfold I64; omega, by simp only [List.length_cons, List.length_nil]; omega, F119.law _ _ _ (by omega) h2 fun r r1 r2 r3 r4 => ⟨by unfold I64; omega, ⟨by omega, by omega, r1, by omega, fun f hf => ?_⟩, by dsimp only; omega⟩⟩
  rcases r4 f hf with g | rfl
  ·exact h4 f g
  ·refine ⟨⟨Nat.le_trans (hl1 _) (by decide), by dsimp only [List.length_cons, List.length_nil]; omega, by simp only [List.length_nil]; omega, by simp⟩, fun e => ?_⟩
   have := hl1 [113, 114, 115, 116, 117, 118, 119, 120, 121, 122]
   dsimp only at e
   rw [e] at this
   exact absurd this (by decide)
 exact hq _ _ hm (by omega) (by omega)
theorem F98.law (s : List Feat) (id : Str) (Q : Int → Prop) (hq : Q (findN s.length fun j => (nth s (j : Int)).Id == id)) : F98.E s id Q := by
 unfold F98.E
 refine loop_find s.length (fun j => (nth s (j : Int)).Id == id) hq (fun I mu k hk h1 h2 => ⟨by omega, ?_⟩)
 cases h : (nth s (k : Int)).Id == id with
 | true => rw [if_pos rfl]; exact h1 h
 | false => rw [if_neg (by decide)]; obtain ⟨i1, i2⟩ := h2 h; exact ⟨by omega, i1, i2⟩
theorem F124.law (s : List Feat) (id : Str) (Q : List Feat → Prop) (hl : s.length ≤ 1048576) (hq : Q (s.filter fun f => decide (f.Id ≠ id))) : F124.E s id Q := by
 unfold F124.E
 refine ⟨fun xs i => ∃ u : Nat, i = u ∧ u ≤ s.length ∧ xs = (s.take u).filter fun f => decide (f.Id ≠ id), fun _ i => (s.length - i).toNat, ⟨0, rfl, Nat.zero_le _, rfl⟩, ?_⟩
 rintro _ _ ⟨u, rfl, hu, rfl⟩
 have hfl := List.length_filter_le (fun f : Feat => decide (f.Id ≠ id)) (s.take u)
 rw [List.length_take] at hfl
 by_cases h : u < s.length
 ·rw [if_pos (by simpa using h)]
  refine ⟨by omega, ?_⟩
  by_cases e : (nth s (u : Int)).Id = id
  ·rw [if_neg (by rw [e]; simp)]
   refine ⟨by omega, ⟨u + 1, by omega, by omega, ?_⟩, by dsimp only; omega⟩
   rw [take_nth s h, List.filter_append, List.filter_cons_of_neg (by rw [decide_eq_true_eq]; exact fun g => g e), List.filter_nil, List.append_nil]
  ·rw [if_pos (by rw [bne_iff_ne]; exact e)]
   refine ⟨by omega, by simp only [List.length_cons, List.length_nil]; omega, by omega, ⟨u + 1, by omega, by omega, ?_⟩, by dsimp only; omega⟩
   rw [take_nth s h, List.filter_append, List.filter_cons_of_pos (by rw [decide_eq_true_eq]; exact e), List.filter_nil]
 ·rw [if_neg (by simpa using h)]
  have : u = s.length := by omega
  subst this
  rw [List.take_length]; exact hq
theorem F81.law (b : List UInt8) (p : Int) (s : Shape) (Q : Shape → Int → Prop) (hb : b.length ≤ 2000) (hp : 0 ≤ p) (hp1 : p ≤ 10000000) (hs : s.Pts.length ≤ 1000) (hq : ∀ r p', (r = s ∨ shapeOk r = true) → p ≤ p' → p' ≤ p + 4 → Q r p') : F81.E b p s Q := by
 unfold F81.E
 by_cases h0 : (s.Pts.length : Int) = 0
 ·rw [if_pos (by simpa using h0)]; exact hq _ _ (.inl rfl) (by omega) (by omega)
 rw [if_neg (by simpa using h0)]
 refine F26.law _ _ _ _ hb hp (by omega) fun k hk0 hk1 => ⟨by omega, by simp only [List.length_take, List.length_drop, List.length_nil]; omega, F26.law _ _ _ _ hb (by omega) (by omega) fun v hv0 hv1 => ?_⟩
 have fin : ∀ (r : Shape) (z : Int), p ≤ z → z ≤ p + 4 → F63.E r (fun r5 => (if !r5 then Q s z else Q r z)) := fun r z h1 h2 => by
  refine F63.law _ _ ?_
  cases h : shapeOk r with
  | true => rw [if_neg (by decide)]; exact hq _ _ (.inr h) h1 h2
  | false => rw [if_pos (by decide)]; exact hq _ _ (.inl rfl) h1 h2
 split
 ·exact ⟨by omega, F125.law _ _ _ hb (by omega) (by omega) fun x y _ _ _ _ => ⟨by simp only [List.length_append, List.length_take, List.length_drop, List.length_nil, List.length_cons]; omega, by simp only [List.length_append, List.length_take, List.length_drop, List.length_nil, List.length_cons]; omega, fin _ _ (by omega) (by omega)⟩⟩
 split
 ·exact ⟨fun _ => by unfold I64; omega, by omega, by simp only [List.length_append, List.length_take, List.length_drop, List.length_nil, List.length_cons]; omega, fin _ _ (by omega) (by omega)⟩
 exact ⟨fun _ => by unfold I64; omega, by omega, F125.law _ _ _ hb (by omega) (by omega) fun x y _ _ _ _ => ⟨by simp only [List.length_append, List.length_take, List.length_drop, List.length_nil, List.length_cons]; omega, by simp only [List.length_append, List.length_take, List.length_drop, List.length_nil, List.length_cons]; omega, fin _ _ (by omega) (by omega)⟩⟩
theorem F80.law (f : Feat) (Q : Feat → Prop) (hb : bulk f ≤ 1048576) (hq : Q f) : F80.E f Q := by
 unfold F80.E F79.E
 have h := bulk_feat f
 have h1 := bulk_len f.Tags
 have h2 := bulk_len f.Shape.Pts
 exact ⟨by simp only [List.length_nil]; omega, by simp only [List.length_nil]; omega, hq⟩
theorem F82.law (s : Str) (Q : Bool → Prop) (hq : Q (wordOk s)) : F82.E s Q := by
 unfold F82.E
 unfold wordOk at hq
 refine loop_all s.length (fun k => byteOk (nth s (k : Int))) (fun I mu k hk hp hn => ?_) (fun ha => ?_)
 ·refine ⟨by omega, ?_⟩
  cases h1 : decide (((nth s (k : Int)).toNat : Int) < 97) with
  | true => rw [if_pos rfl]; rw [allN_false hk (by simp only [byteOk, h1]; rfl), Bool.false_and] at hq; exact hq
  | false =>
   rw [if_neg (by decide)]
   refine ⟨by omega, ?_⟩
   cases h2 : decide (((nth s (k : Int)).toNat : Int) > 122) with
   | true => rw [if_pos rfl]; rw [allN_false hk (by simp only [byteOk, h1, h2]; rfl), Bool.false_and] at hq; exact hq
   | false =>
    rw [if_neg (by decide)]
    obtain ⟨i1, i2⟩ := hn (by simp only [byteOk, h1, h2]; rfl)
    exact ⟨by omega, i1, i2⟩
 ·rw [allN_true ha, Bool.true_and] at hq
  by_cases h : 1 ≤ s.length
  ·rw [decide_eq_true h, Bool.true_and] at hq
   rw [if_pos (by rw [decide_eq_true_eq]; omega)]
   have e2 : decide ((s.length : Int) ≤ 6) = decide (s.length ≤ 6) := decide_eq_decide.2 (by omega)
   rw [e2]; exact hq
  ·rw [decide_eq_false h, Bool.false_and] at hq
   rw [if_neg (by rw [decide_eq_true_eq]; omega)]; exact hq
theorem F83.law (t : List Tag) (Q : Bool → Prop) (hq : Q (tagsOk t && decide (t.length ≤ 4))) : F83.E t Q := by
 unfold F83.E
 unfold tagsOk at hq
 refine loop_all t.length (fun k => wordOk (nth t (k : Int)).Key && wordOk (nth t (k : Int)).Val && (decide (k = 0) || Op.bytesLess (nth t ((k : Int) - 1)).Key (nth t (k : Int)).Key)) (fun I mu k hk hp hn => ?_) (fun ha => ?_)
 ·have bad : (wordOk (nth t (k : Int)).Key && wordOk (nth t (k : Int)).Val && (decide (k = 0) || Op.bytesLess (nth t ((k : Int) - 1)).Key (nth t (k : Int)).Key)) = false → Q false := fun h => by
   rw [allN_false hk h, Bool.false_and] at hq; exact hq
  refine ⟨by omega, _, F82.law _ _ rfl, ?_⟩
  cases h1 : wordOk (nth t (k : Int)).Key with
  | false => rw [if_pos (by decide)]; exact bad (by rw [h1]; rfl)
  | true =>
   rw [if_neg (by decide)]
   refine ⟨by omega, _, F82.law _ _ rfl, ?_⟩
   cases h2 : wordOk (nth t (k : Int)).Val with
   | false => rw [if_pos (by decide)]; exact bad (by rw [h2, Bool.and_false]; rfl)
   | true =>
    rw [if_neg (by decide)]
    by_cases hk0 : k = 0
    ·rw [if_neg (by rw [decide_eq_true_eq]; omega)]
     obtain ⟨i1, i2⟩ := hn (by rw [h1, h2, decide_eq_true hk0]; rfl)
     exact ⟨by omega, i1, i2⟩
    ·rw [if_pos (by rw [decide_eq_true_eq]; omega)]
     refine ⟨by omega, fun _ => by unfold I64; omega, by omega, ?_⟩
     rw [← less_tri]
     cases h3 : Op.bytesLess (nth t ((k : Int) - 1)).Key (nth t (k : Int)).Key with
     | false => rw [if_pos (by decide)]; exact bad (by rw [h3, h1, h2, decide_eq_false hk0]; rfl)
     | true =>
      rw [if_neg (by decide)]
      obtain ⟨i1, i2⟩ := hn (by rw [h3, h1, h2, decide_eq_false hk0]; rfl)
      exact ⟨by omega, i1, i2⟩
 ·rw [allN_true ha, Bool.true_and] at hq
  have e2 : decide ((t.length : Int) ≤ 4) = decide (t.length ≤ 4) := decide_eq_decide.2 (by omega)
  rw [e2]; exact hq
theorem F84.law (f : Feat) (Q : Bool → Prop) (hq : Q (featOk f)) : F84.E f Q := by
 unfold F84.E
 unfold featOk at hq
 refine F82.law _ _ ?_
 cases h1 : wordOk f.Id with
 | false => rw [h1, Bool.and_false, Bool.false_and] at hq; rw [if_neg (by decide)]; exact hq
 | true =>
  rw [h1, Bool.and_true] at hq
  rw [if_pos rfl]
  refine F63.law _ _ ?_
  cases h2 : shapeOk f.Shape with
  | false => rw [h2, Bool.and_false] at hq; rw [if_neg (by decide)]; exact hq
  | true => rw [h2, Bool.and_true] at hq; rw [if_pos rfl]; exact F83.law _ _ hq
theorem F76.law (d : List Feat) (Q : Bool → Prop) (hq : Q (sheetOk d)) : F76.E d Q := by
 unfold F76.E
 unfold sheetOk at hq
 refine loop_all d.length (fun k => featOk (nth d (k : Int)) && (decide (k = 0) || Op.bytesLess (nth d ((k : Int) - 1)).Id (nth d (k : Int)).Id)) (fun I mu k hk hp hn => ?_) (fun ha => ?_)
 ·have bad : (featOk (nth d (k : Int)) && (decide (k = 0) || Op.bytesLess (nth d ((k : Int) - 1)).Id (nth d (k : Int)).Id)) = false → Q false := fun h => by
   rw [allN_false hk h, Bool.false_and] at hq; exact hq
  refine ⟨by omega, _, F84.law _ _ rfl, ?_⟩
  cases h1 : featOk (nth d (k : Int)) with
  | false => rw [if_pos (by decide)]; exact bad (by rw [h1]; rfl)
  | true =>
   rw [if_neg (by decide)]
   by_cases hk0 : k = 0
   ·rw [if_neg (by rw [decide_eq_true_eq]; omega)]
    obtain ⟨i1, i2⟩ := hn (by rw [h1, decide_eq_true hk0]; rfl)
    exact ⟨by omega, i1, i2⟩
   ·rw [if_pos (by rw [decide_eq_true_eq]; omega)]
    refine ⟨by omega, fun _ => by unfold I64; omega, by omega, ?_⟩
    rw [← less_tri]
    cases h3 : Op.bytesLess (nth d ((k : Int) - 1)).Id (nth d (k : Int)).Id with
    | false => rw [if_pos (by decide)]; exact bad (by rw [h3, h1, decide_eq_false hk0]; rfl)
    | true =>
     rw [if_neg (by decide)]
     obtain ⟨i1, i2⟩ := hn (by rw [h3, h1, decide_eq_false hk0]; rfl)
     exact ⟨by omega, i1, i2⟩
 ·rw [allN_true ha, Bool.true_and] at hq
  have e2 : decide ((d.length : Int) ≤ 8) = decide (d.length ≤ 8) := decide_eq_decide.2 (by omega)
  rw [e2]; exact hq
theorem FB.put {n : Nat} {f : Feat} (h : FB n f) {k v : Str} (hk : k ∈ keyL) (hv : v ∈ valL) {r : List Tag} (hl : r.length ≤ f.Tags.length + 1) (hr : ∀ z ∈ r, z ∈ f.Tags ∨ z = ⟨k, v⟩) : FB (n + 1) ⟨f.Id, f.Shape, r⟩ := ⟨h.id, h.pts, Nat.le_trans hl (Nat.succ_le_succ h.len), fun x hx => by
 rcases hr x hx with g | rfl
 ·exact h.wd x g
 ·exact DT.len ⟨hk, hv⟩⟩
theorem F103.law (b : List UInt8) (p : Int) (s : List Feat) (Q : List Feat → Int → Prop) (hb : b.length ≤ 2000) (hp : 0 ≤ p) (hp1 : p ≤ 1000000) (hs : sheetOk s = true) (hz : ∀ f ∈ s, f.Id ≠ zzI) (hq : ∀ r p', sheetOk r = true → (∀ f ∈ r, f.Id ≠ zzI) → p ≤ p' → p' ≤ p + 250 → Q r p') : F103.E b p s Q := by
 unfold F103.E
 have mb := MB.of hs
 refine F26.law _ _ _ _ hb hp (by omega) fun k hk0 hk1 => ⟨by unfold I64; omega, ?_⟩
 refine ⟨fun s i z => 0 ≤ i ∧ i ≤ 3 ∧ SS (ids s) ∧ (s.length : Int) + i ≤ 11 ∧ (∀ f ∈ s, SS (keysT f.Tags) ∧ FB (7 - i.toNat) f ∧ f.Id ≠ zzI) ∧ p ≤ z ∧ z ≤ p + 1 + 65 * (3 - i), fun _ i _ => i.toNat, ⟨by omega, by omega, (sheet_ss hs).1, by have := mb.len; omega, fun f hf => ⟨featOk_tags ((sheet_ss hs).2.2 f hf), (mb.fb f hf).mono (by omega), hz f hf⟩, by omega, by omega⟩, ?_⟩
 rintro s2 i z ⟨h0, h1, h2, h3, h4, h5, h6⟩
 by_cases hi : i > 0
 case neg =>
  rw [if_neg (by simpa using hi)]
  refine F76.law _ _ ?_
  cases h : sheetOk s2 with
  | true => rw [if_neg (by decide)]; exact hq _ _ h (fun f hf => (h4 f hf).2.2) h5 (by omega)
  | false => rw [if_pos (by decide)]; exact hq _ _ hs hz h5 (by omega)
 rw [if_pos (by simpa using hi)]
 have em : 7 - (i - 1).toNat = 7 - i.toNat + 1 := by omega
 have step : ∀ (f : Feat), SS (keysT f.Tags) → FB (7 - i.toNat + 1) f → f.Id ≠ zzI → ∀ r : List Feat, (∀ z ∈ r, z ∈ s2 ∨ z = f) → ∀ x ∈ r, SS (keysT x.Tags) ∧ FB (7 - (i - 1).toNat) x ∧ x.Id ≠ zzI := fun f a1 a2 a3 r hr x hx => by
  rw [em]
  rcases hr x hx with g | rfl
  ·have := h4 x g
   exact ⟨this.1, this.2.1.mono (by omega), this.2.2⟩
  ·exact ⟨a1, a2, a3⟩
 refine F126.law _ _ _ hb (by omega) (by omega) fun id hid => F98.law _ _ _ ?_
 have hle := findN_le s2.length fun j => (nth s2 (j : Int)).Id == id
 generalize findN s2.length (fun j => (nth s2 (j : Int)).Id == id) = at_ at *
 by_cases ha : at_ < 0
 ·rw [if_pos (by simpa using ha)]
  refine F78.law _ _ _ _ hb (by omega) (by omega) fun sh t p1 hsh ht tl td p2 p3 => F119.law _ _ _ (by omega) h2 fun r r1 r2 r3 r4 => ⟨by unfold I64; omega, ⟨by omega, by omega, r1, by omega, step _ ht ?_ (idL_nz _ hid) r r4, by omega, by omega⟩, by dsimp only; omega⟩
  exact ((FB.of (feat_drawn (idL_ok _ hid) hsh ht tl td)).mono (by omega))
 rw [if_neg (by simpa using ha)]
 have hm : nth s2 at_ ∈ s2 := nth_memi s2 (by omega) hle.2
 obtain ⟨f1, f2, f3⟩ := h4 _ hm
 have fb := f2.small
 refine F26.law _ _ _ _ hb (by omega) (by omega) fun v hv0 hv1 => ?_
 split
 ·refine F124.law _ _ _ (by omega) ⟨by unfold I64; omega, ⟨by omega, by omega, ?_, ?_, fun x hx => ?_, by omega, by omega⟩, by dsimp only; omega⟩
  ·unfold SS ids at h2 ⊢
   exact List.Pairwise.sublist (List.filter_sublist.map _) h2
  ·have := List.length_filter_le (fun f : Feat => decide (f.Id ≠ id)) s2; omega
  ·have := h4 x (List.mem_filter.1 hx).1
   exact ⟨this.1, this.2.1.mono (by omega), this.2.2⟩
 refine F26.law _ _ _ _ hb (by omega) (by omega) fun w hw0 hw1 => ?_
 split
 ·refine ⟨by omega, F80.law _ _ (by omega) (F112.law _ _ _ hb (by omega) (by omega) fun key hkey => F113.law _ _ _ hb (by omega) (by omega) fun val hval => F114.law _ _ _ _ (by have := f2.len; omega) f1 fun t t1 t2 t3 t4 => F119.law _ _ _ (by omega) h2 fun r r1 r2 r3 r4 => ⟨by unfold I64; omega, ⟨by omega, by omega, r1, by omega, step _ t1 (f2.put hkey hval t3 t4) f3 r r4, by omega, by omega⟩, by dsimp only; omega⟩)⟩
 ·refine ⟨by omega, F80.law _ _ (by omega) (F81.law _ _ _ _ hb (by omega) (by omega) (by have := f2.pts; omega) fun sh p' hsh p1 p2 => F119.law _ _ _ (by omega) h2 fun r r1 r2 r3 r4 => ⟨by unfold I64; omega, ⟨by omega, by omega, r1, by omega, step ⟨(nth s2 at_).Id, sh, (nth s2 at_).Tags⟩ f1 ⟨f2.id, ?_, Nat.le_trans f2.len (by omega), f2.wd⟩ f3 r r4, by omega, by omega⟩, by dsimp only; omega⟩)⟩
  rcases hsh with rfl | hsh
  ·exact f2.pts
  ·exact Nat.le_trans (shape_pts hsh) (by decide)
theorem F101.law (s : List Feat) (Q : List Feat → Prop) (hb : bulk s ≤ 1048576) (hq : Q s) : F101.E s Q := by
 unfold F101.E
 have hl := bulk_len s
 refine ⟨fun xs i => ∃ u : Nat, i = u ∧ u ≤ s.length ∧ xs = s.take u, fun _ i => (s.length - i).toNat, ⟨0, rfl, Nat.zero_le _, rfl⟩, ?_⟩
 rintro _ _ ⟨u, rfl, hu, rfl⟩
 by_cases h : u < s.length
 ·rw [if_pos (by simpa using h)]
  have hm := bulk_mem (nth_mem s h)
  refine ⟨by omega, F80.law _ _ (by omega) ⟨by simp only [List.length_take, List.length_cons, List.length_nil]; omega, by omega, ⟨u + 1, by omega, by omega, ?_⟩, by dsimp only; omega⟩⟩
  rw [take_nth s h]
 ·rw [if_neg (by simpa using h)]
  have : u = s.length := by omega
  subst this
  rw [List.take_length]; exact hq
theorem MD.of {s : List Feat} (h : sheetOk s = true) (hz : ∀ f ∈ s, f.Id ≠ zzI) : MD s := ⟨(MB.of h).mono (by omega) (by omega), hz⟩
theorem F11.law (code : List UInt8) (Q : List Feat → List Feat → List Feat → Prop) (hq : ∀ o a b, MD o → MD a → MD b → Q o a b) : F11.E code Q := by
 unfold F11.E
 refine F62.law _ _ fun b hb => F73.law _ _ _ hb (by omega) (by omega) fun s p hs _ hz p0 p1 => F26.law _ _ _ _ hb (by omega) (by omega) fun v hv0 hv1 => ?_
 have ms := MD.of hs hz
 split
 ·exact F96.law _ _ _ hb (by omega) (by omega) fun t p2 mt p3 p4 => F103.law _ _ _ _ hb (by omega) (by omega) hs hz fun r p5 hr rz _ _ => hq _ _ _ mt (.of hr rz) ms
 split
 ·exact F96.law _ _ _ hb (by omega) (by omega) fun t p2 mt p3 p4 => F103.law _ _ _ _ hb (by omega) (by omega) hs hz fun r p5 hr rz _ _ => hq _ _ _ ms mt (.of hr rz)
 split
 ·exact F103.law _ _ _ _ hb (by omega) (by omega) hs hz fun r p5 hr rz _ _ => F101.law _ _ (Nat.le_trans (MB.of hr).small (by decide)) (hq _ _ _ ms (.of hr rz) (.of hr rz))
 exact F103.law _ _ _ _ hb (by omega) (by omega) hs hz fun r p5 hr rz _ _ => F103.law _ _ _ _ hb (by omega) (by omega) hr rz fun r2 p6 hr2 rz2 _ _ => F103.law _ _ _ _ hb (by omega) (by omega) hs hz fun r3 p7 hr3 rz3 _ _ => F103.law _ _ _ _ hb (by omega) (by omega) hr3 rz3 fun r4 p8 hr4 rz4 _ _ => hq _ _ _ ms (.of hr2 rz2) (.of hr4 rz4)
theorem F88.law (n lo hi : Int) (Q : Bool → Prop) (hq : Q (decide (lo ≤ n) && decide (n ≤ hi))) : F88.E n lo hi Q := by
 unfold F88.E
 by_cases h : lo ≤ n
 ·rw [if_pos (by simpa using h)]; rw [decide_eq_true h, Bool.true_and] at hq; exact hq
 ·rw [if_neg (by simpa using h)]; rw [decide_eq_false h, Bool.false_and] at hq; exact hq
theorem F88.m_is (n lo hi : Int) : F88.m n lo hi = (decide (lo ≤ n) && decide (n ≤ hi)) := by
 unfold F88.m
 by_cases h : lo ≤ n
 ·rw [if_pos (by simpa using h), decide_eq_true h, Bool.true_and]
 ·rw [if_neg (by simpa using h), decide_eq_false h, Bool.false_and]
theorem F89.law (s : Str) (Q : Bool → Prop) (hl : s.length ≤ 1048576) (hq : Q (wordOk s)) : F89.E s Q := by
 unfold F89.E
 unfold wordOk at hq
 refine loop_all s.length (fun k => byteOk (nth s (k : Int))) (fun I mu k hk hp hn => ?_) (fun ha => ?_)
 ·refine ⟨by omega, ?_⟩
  cases h1 : decide (((nth s (k : Int)).toNat : Int) < 97) with
  | true => rw [if_pos rfl]; rw [allN_false hk (by simp only [byteOk, h1]; rfl), Bool.false_and] at hq; exact hq
  | false =>
   rw [if_neg (by decide)]
   refine ⟨by omega, ?_⟩
   cases h2 : decide (((nth s (k : Int)).toNat : Int) > 122) with
   | true => rw [if_pos rfl]; rw [allN_false hk (by simp only [byteOk, h1, h2]; rfl), Bool.false_and] at hq; exact hq
   | false =>
    rw [if_neg (by decide)]
    obtain ⟨i1, i2⟩ := hn (by simp only [byteOk, h1, h2]; rfl)
    exact ⟨by unfold I64; omega, i1, i2⟩
 ·rw [allN_true ha, Bool.true_and] at hq
  refine F88.law _ _ _ _ ?_
  have e1 : decide ((1 : Int) ≤ (s.length : Int)) = decide (1 ≤ s.length) := decide_eq_decide.2 (by omega)
  have e2 : decide ((s.length : Int) ≤ 6) = decide (s.length ≤ 6) := decide_eq_decide.2 (by omega)
  rw [e1, e2]; exact hq
theorem F127.law (p : Pt) (Q : Bool → Prop) (hq : Q (ptOk p)) : F127.E p Q := by
 unfold F127.E
 unfold ptOk at hq
 refine F88.law _ _ _ _ ?_
 change if inR p.X = true then _ else _
 cases h : inR p.X with
 | true => rw [if_pos rfl]; rw [h, Bool.true_and] at hq; exact F88.law _ _ _ _ hq
 | false => rw [if_neg (by decide)]; rw [h, Bool.false_and] at hq; exact hq
theorem F65.law (s : Shape) (Q : Bool → Prop) (hl : s.Pts.length ≤ 1048576) (hq : Q (shapeOk s)) : F65.E s Q := by
 unfold F65.E
 unfold shapeOk ptsOk at hq
 refine loop_all s.Pts.length (fun k => ptOk (nth s.Pts (k : Int)) && (decide (k = 0) || !(decide (nth s.Pts ((k : Int) - 1) = nth s.Pts (k : Int))))) (fun I mu k hk hp hn => ?_) (fun ha => ?_)
 ·refine ⟨by omega, _, F127.law _ _ rfl, ?_⟩
  have bad : (ptOk (nth s.Pts (k : Int)) && (decide (k = 0) || !(decide (nth s.Pts ((k : Int) - 1) = nth s.Pts (k : Int))))) = false → Q false := fun h => by
   rw [allN_false hk h, Bool.false_and] at hq; exact hq
  cases h1 : ptOk (nth s.Pts (k : Int)) with
  | false => rw [if_pos (by decide)]; exact bad (by rw [h1]; rfl)
  | true =>
   rw [if_neg (by decide)]
   by_cases hk0 : k = 0
   ·rw [if_neg (by rw [decide_eq_true_eq]; omega)]
    obtain ⟨i1, i2⟩ := hn (by rw [h1, decide_eq_true hk0]; rfl)
    exact ⟨by unfold I64; omega, i1, i2⟩
   ·rw [if_pos (by rw [decide_eq_true_eq]; omega)]
    refine ⟨by unfold I64; omega, by omega, ?_⟩
    rw [eqPt_is]
    by_cases he : nth s.Pts ((k : Int) - 1) = nth s.Pts (k : Int)
    ·rw [if_pos (by rw [decide_eq_true_eq]; exact he)]
     exact bad (by rw [h1, decide_eq_false hk0, decide_eq_true he]; rfl)
    ·rw [if_neg (by rw [decide_eq_true_eq]; exact he)]
     obtain ⟨i1, i2⟩ := hn (by simp only [h1, decide_eq_false hk0, decide_eq_false he]; rfl)
     exact ⟨by unfold I64; omega, i1, i2⟩
 ·rw [allN_true ha, Bool.true_and] at hq
  unfold kindOk at hq
  by_cases k1 : s.Kind = 1
  ·rw [if_pos k1] at hq
   rw [if_pos (by rw [beq_iff_eq]; exact k1)]
   have : ((s.Pts.length : Int) == 1) = decide (s.Pts.length = 1) := by rw [Bool.eq_iff_iff, beq_iff_eq, decide_eq_true_eq]; omega
   rw [this]; exact hq
  rw [if_neg k1] at hq
  rw [if_neg (by rw [beq_iff_eq]; exact k1)]
  have e2 : decide ((2 : Int) ≤ (s.Pts.length : Int)) = decide (2 ≤ s.Pts.length) := decide_eq_decide.2 (by omega)
  have e3 : decide ((3 : Int) ≤ (s.Pts.length : Int)) = decide (3 ≤ s.Pts.length) := decide_eq_decide.2 (by omega)
  have e6 : decide ((s.Pts.length : Int) ≤ 6) = decide (s.Pts.length ≤ 6) := decide_eq_decide.2 (by omega)
  by_cases k2 : s.Kind = 2
  ·rw [if_pos k2] at hq
   rw [if_pos (by rw [beq_iff_eq]; exact k2)]
   refine F88.law _ _ _ _ ?_
   rw [e2, e6]; exact hq
  rw [if_neg k2] at hq
  rw [if_neg (by rw [beq_iff_eq]; exact k2)]
  by_cases k3 : s.Kind = 3
  ·rw [if_pos k3] at hq
   rw [if_pos (by rw [beq_iff_eq]; exact k3), F88.m_is, e3, e6]
   cases hc : decide (3 ≤ s.Pts.length) && decide (s.Pts.length ≤ 6) with
   | true =>
    rw [hc, Bool.true_and] at hq
    rw [Bool.and_eq_true, decide_eq_true_eq, decide_eq_true_eq] at hc
    rw [if_pos rfl, eqPt_is]
    exact ⟨by omega, fun _ => by unfold I64; omega, by omega, hq⟩
   | false =>
    rw [hc, Bool.false_and] at hq
    rw [if_neg (by decide)]; exact hq
  ·rw [if_neg k3] at hq
   rw [if_neg (by rw [beq_iff_eq]; exact k3)]; exact hq
theorem F90.law (f : Feat) (Q : Bool → Prop) (hb : bulk f ≤ 1048576) (hq : Q (featOk f)) : F90.E f Q := by
 unfold F90.E
 unfold featOk at hq
 have b1 : bulk f = bulk f.Id + bulk f.Shape + bulk f.Tags := rfl
 have b2 : bulk f.Shape = bulk f.Shape.Kind + bulk f.Shape.Pts := rfl
 have l1 := bulk_len f.Tags; have l2 := bulk_len f.Shape.Pts; have l3 := bulk_len f.Id
 have core : (tagsOk f.Tags = true → F89.E f.Id (fun r3 => (if r3 then F65.E f.Shape (fun r4 => (if r4 then Q (decide ((f.Tags.length : Int) ≤ 4)) else Q false)) else Q false))) := fun ha => by
  rw [ha, Bool.true_and] at hq
  refine F89.law _ _ (by omega) ?_
  cases h1 : wordOk f.Id with
  | false => rw [h1, Bool.and_false, Bool.false_and] at hq; rw [if_neg (by decide)]; exact hq
  | true =>
   rw [h1, Bool.and_true] at hq
   rw [if_pos rfl]
   refine F65.law _ _ (by omega) ?_
   cases h2 : shapeOk f.Shape with
   | false => rw [h2, Bool.and_false] at hq; rw [if_neg (by decide)]; exact hq
   | true =>
    rw [h2, Bool.and_true] at hq; rw [if_pos rfl]
    have e2 : decide ((f.Tags.length : Int) ≤ 4) = decide (f.Tags.length ≤ 4) := decide_eq_decide.2 (by omega)
    rw [e2]; exact hq
 have bad : tagsOk f.Tags = false → Q false := fun h => by
  rw [h, Bool.false_and, Bool.false_and, Bool.false_and] at hq; exact hq
 unfold tagsOk at core bad
 refine loop_all f.Tags.length (fun k => wordOk (nth f.Tags (k : Int)).Key && wordOk (nth f.Tags (k : Int)).Val && (decide (k = 0) || Op.bytesLess (nth f.Tags ((k : Int) - 1)).Key (nth f.Tags (k : Int)).Key)) (fun I mu k hk hp hn => ?_) (fun ha => core (allN_true ha))
 have bad := fun h => bad (allN_false hk h)
 have m1 := bulk_mem (nth_mem f.Tags hk)
 have m2 : bulk (nth f.Tags (k : Int)) = bulk (nth f.Tags (k : Int)).Key + bulk (nth f.Tags (k : Int)).Val := rfl
 have m3 := bulk_len (nth f.Tags (k : Int)).Key; have m4 := bulk_len (nth f.Tags (k : Int)).Val
 refine ⟨by omega, _, F89.law _ _ (by omega) rfl, ?_⟩
 cases h1 : wordOk (nth f.Tags (k : Int)).Key with
 | false => rw [if_pos (by decide)]; exact bad (by rw [h1]; rfl)
 | true =>
  rw [if_neg (by decide)]
  refine ⟨_, F89.law _ _ (by omega) rfl, ?_⟩
  cases h2 : wordOk (nth f.Tags (k : Int)).Val with
  | false => rw [if_pos (by decide)]; exact bad (by rw [h2, Bool.and_false]; rfl)
  | true =>
   rw [if_neg (by decide)]
   by_cases hk0 : k = 0
   ·rw [if_neg (by rw [decide_eq_true_eq]; omega)]
    obtain ⟨i1, i2⟩ := hn (by rw [h1, h2, decide_eq_true hk0]; rfl)
    exact ⟨by unfold I64; omega, i1, i2⟩
   ·rw [if_pos (by rw [decide_eq_true_eq]; omega)]
    refine ⟨by unfold I64; omega, by omega, ?_⟩
    cases h3 : Op.bytesLess (nth f.Tags ((k : Int) - 1)).Key (nth f.Tags (k : Int)).Key with
    | false => rw [if_pos (by decide)]; exact bad (by rw [h3, h1, h2, decide_eq_false hk0]; rfl)
    | true =>
     rw [if_neg (by decide)]
     obtain ⟨i1, i2⟩ := hn (by rw [h3, h1, h2, decide_eq_false hk0]; rfl)
     exact ⟨by unfold I64; omega, i1, i2⟩
theorem F74.law (d : List Feat) (Q : Bool → Prop) (hb : bulk d ≤ 1048576) (hq : Q (sheetOk d)) : F74.E d Q := by
 unfold F74.E
 unfold sheetOk at hq
 have hl := bulk_len d
 refine loop_all d.length (fun k => featOk (nth d (k : Int)) && (decide (k = 0) || Op.bytesLess (nth d ((k : Int) - 1)).Id (nth d (k : Int)).Id)) (fun I mu k hk hp hn => ?_) (fun ha => ?_)
 ·have bad : (featOk (nth d (k : Int)) && (decide (k = 0) || Op.bytesLess (nth d ((k : Int) - 1)).Id (nth d (k : Int)).Id)) = false → Q false := fun h => by
   rw [allN_false hk h, Bool.false_and] at hq; exact hq
  have m1 := bulk_mem (nth_mem d hk)
  refine ⟨by omega, _, F90.law _ _ (by omega) rfl, ?_⟩
  cases h1 : featOk (nth d (k : Int)) with
  | false => rw [if_pos (by decide)]; exact bad (by rw [h1]; rfl)
  | true =>
   rw [if_neg (by decide)]
   by_cases hk0 : k = 0
   ·rw [if_neg (by rw [decide_eq_true_eq]; omega)]
    obtain ⟨i1, i2⟩ := hn (by rw [h1, decide_eq_true hk0]; rfl)
    exact ⟨by unfold I64; omega, i1, i2⟩
   ·rw [if_pos (by rw [decide_eq_true_eq]; omega)]
    refine ⟨by unfold I64; omega, by omega, ?_⟩
    cases h3 : Op.bytesLess (nth d ((k : Int) - 1)).Id (nth d (k : Int)).Id with
    | false => rw [if_pos (by decide)]; exact bad (by rw [h3, h1, decide_eq_false hk0]; rfl)
    | true =>
     rw [if_neg (by decide)]
     obtain ⟨i1, i2⟩ := hn (by rw [h3, h1, decide_eq_false hk0]; rfl)
     exact ⟨by unfold I64; omega, i1, i2⟩
 ·rw [allN_true ha, Bool.true_and] at hq
  have e2 : decide ((d.length : Int) ≤ 8) = decide (d.length ≤ 8) := decide_eq_decide.2 (by omega)
  rw [e2]; exact hq
def idsAll (maps : List (List Feat)) : List Str := (maps.map ids).flatten
theorem idsAll_snoc (m : List (List Feat)) (s : List Feat) : idsAll (m ++ [s]) = idsAll m ++ ids s := by unfold idsAll; simp
theorem idsAll_take (m : List (List Feat)) (k : Nat) : (idsAll (m.take k)).length ≤ (idsAll m).length := by
 have h : idsAll m = idsAll (m.take k) ++ idsAll (m.drop k) := by
  unfold idsAll; rw [← List.flatten_append, ← List.map_append, List.take_append_drop]
 rw [h, List.length_append]; omega
theorem F120.law (maps : List (List Feat)) (Q : List Str → Prop) (h1 : maps.length ≤ 1048576) (h2 : (idsAll maps).length ≤ 268435456) (h3 : ∀ s ∈ maps, s.length ≤ 1048576) (hq : Q (uniq (idsAll maps))) : F120.E maps Q := by
 unfold F120.E
 refine ⟨fun xs i => ∃ u : Nat, i = u ∧ u ≤ maps.length ∧ xs = idsAll (maps.take u), fun _ i => (maps.length - i).toNat, ⟨0, rfl, Nat.zero_le _, rfl⟩, ?_⟩
 rintro _ _ ⟨u, rfl, hu, rfl⟩
 by_cases h : u < maps.length
 ·rw [if_pos (by simpa using h)]
  have hs := h3 _ (nth_mem maps h)
  have ht := idsAll_take maps (u + 1)
  rw [take_nth maps h, idsAll_snoc, List.length_append] at ht
  have hil : (ids (nth maps (u : Int))).length = (nth maps (u : Int)).length := by unfold ids; simp
  refine ⟨by omega, fun xs j => ∃ v : Nat, j = v ∧ v ≤ (nth maps (u : Int)).length ∧ xs = idsAll (maps.take u) ++ ids ((nth maps (u : Int)).take v), fun _ j => ((nth maps (u : Int)).length - j).toNat, ⟨0, rfl, Nat.zero_le _, by simp [ids]⟩, ?_⟩
  rintro _ _ ⟨v, rfl, hv, rfl⟩
  by_cases g : v < (nth maps (u : Int)).length
  ·rw [if_pos (by simpa using g)]
   have hiv : (ids ((nth maps (u : Int)).take v)).length ≤ v := by unfold ids; simp; omega
   refine ⟨by omega, by simp only [List.length_append, List.length_cons, List.length_nil]; omega, by unfold I64; omega, ⟨v + 1, by omega, by omega, ?_⟩, by dsimp only; omega⟩
   rw [take_nth _ g, ids_app, List.append_assoc]; rfl
  ·rw [if_neg (by simpa using g)]
   have : v = (nth maps (u : Int)).length := by omega
   subst this
   refine ⟨by unfold I64; omega, ⟨u + 1, by omega, by omega, ?_⟩, by dsimp only; omega⟩
   rw [List.take_length, take_nth maps h, idsAll_snoc]
 ·rw [if_neg (by simpa using h)]
  have : u = maps.length := by omega
  subst this
  rw [List.take_length]
  unfold F7.E F0.E
  exact ⟨h2, by unfold sortS; rw [List.length_mergeSort]; exact h2, hq⟩
theorem F1.law (s : List Feat) (f : Feat → Bool) (ok : Feat → Prop) (Q : Int → Prop) (hl : s.length ≤ 1048576) (hok : ∀ x ∈ s, ok x) (hq : Q (findN s.length fun j => f (nth s (j : Int)))) : F1.E s f ok Q := by
 unfold F1.E
 refine loop_find s.length (fun j => f (nth s (j : Int))) hq (fun I mu k hk h1 h2 => ⟨by omega, hok _ (nth_mem s hk), ?_⟩)
 cases h : f (nth s (k : Int)) with
 | true => rw [if_pos rfl]; exact h1 h
 | false => rw [if_neg (by decide)]; obtain ⟨i1, i2⟩ := h2 h; exact ⟨by unfold I64; omega, i1, i2⟩
theorem F97.law (s : List Feat) (id : Str) (Q : Int → Prop) (hl : s.length ≤ 1048576) (hq : Q (findN s.length fun j => (nth s (j : Int)).Id == id)) : F97.E s id Q := by
 unfold F97.E
 refine ⟨fun x => x.Id == id, fun x => x ∈ s, fun x hx => ?_, F1.law _ _ _ _ hl (fun x hx => hx) hq⟩
 unfold F56.E
 rfl
theorem F36.law (f : Feat) (Q : Feat → Prop) (hb : bulk f ≤ 1048576) (hq : Q f) : F36.E f Q := by
 unfold F36.E F27.E
 have h := bulk_feat f
 have h1 := bulk_len f.Tags
 have h2 := bulk_len f.Shape.Pts
 exact ⟨by simp only [List.length_nil]; omega, by simp only [List.length_nil]; omega, hq⟩
theorem F129.law (s : List Feat) (id : Str) (Q : Feat → Bool → Prop) (hb : bulk s ≤ 1048576) (hq : Q (sideOf s id).1 (sideOf s id).2) : F129.E s id Q := by
 unfold F129.E
 have hl := bulk_len s
 refine F97.law _ _ _ (by omega) ?_
 have h1 := findN_le s.length fun j => (nth s (j : Int)).Id == id
 unfold sideOf at hq
 by_cases h : findN s.length (fun j => (nth s (j : Int)).Id == id) < 0
 ·rw [if_pos h] at hq; rw [if_pos (by simpa using h)]; exact hq
 ·rw [if_neg h] at hq; rw [if_neg (by simpa using h)]
  exact ⟨by omega, F36.law _ _ (by have := bulk_mem (nth_memi s (by omega) h1.2); omega) hq⟩
theorem F75.law (s : List Feat) (id : Str) (Q : thing → Prop) (hb : bulk s ≤ 1048576) (hq : Q (thOf s id)) : F75.E s id Q := by
 unfold F75.E
 exact F129.law s id _ hb hq
theorem F40.law (a b : thing) (Q : Bool → Prop) (hb : a.f.Shape.Pts.length ≤ 1048576 ∧ a.f.Tags.length ≤ 1048576) (hq : Q (decide (a = b))) : F40.E a b Q := by
 unfold F40.E
 by_cases h : a.has = b.has
 ·rw [if_pos (by simpa using h)]
  refine F55.law _ _ _ hb ?_
  have e : decide (a.f = b.f) = decide (a = b) := decide_eq_decide.2 (by rw [thing.ext_iff']; exact ⟨fun g => ⟨h, g⟩, fun g => g.2⟩)
  rw [e]; exact hq
 ·rw [if_neg (by simpa using h)]
  rw [decide_eq_false fun e => h (by rw [e])] at hq; exact hq
theorem F9.law (o a b : thing) (ok : thing → thing → Prop) (Q : thing → Bool → Prop) (h1 : ok a o) (h2 : ok b o) (h3 : ok a b) (hq : Q (three o a b).1 (three o a b).2) : F9.E o a b (fun x y => decide (x = y)) ok Q := by
 unfold F9.E
 unfold three at hq
 refine ⟨h1, ?_⟩
 by_cases e1 : a = o
 ·rw [if_pos e1] at hq; rw [if_pos (decide_eq_true e1)]; exact hq
 ·rw [if_neg e1] at hq; rw [if_neg (by simpa using e1)]
  refine ⟨h2, ?_⟩
  by_cases e2 : b = o
  ·rw [if_pos e2] at hq; rw [if_pos (decide_eq_true e2)]; exact hq
  ·rw [if_neg e2] at hq; rw [if_neg (by simpa using e2)]
   refine ⟨h3, ?_⟩
   by_cases e3 : a = b
   ·rw [if_pos e3] at hq; rw [if_pos (decide_eq_true e3)]; exact hq
   ·rw [if_neg e3] at hq; rw [if_neg (by simpa using e3)]; exact hq
theorem F67.law (a b : List Pt) (Q : List (List Int) → Prop) (ha : a.length ≤ 1048576) (hb : b.length ≤ 1048576) (hq : ∀ t, Tab a b (fun _ _ => True) t → Q t) : F67.E a b Q := by
 unfold F67.E
 have hn : ((b.length : Int) + 1).toNat = b.length + 1 := by omega
 have hm : ((a.length : Int) + 1).toNat = a.length + 1 := by omega
 rw [hn, hm]
 refine ⟨fun _ => by unfold I64; omega, by omega, fun xs v => ∃ k : Nat, v = k ∧ k ≤ a.length + 1 ∧ xs.length = a.length + 1 ∧ ∀ r : Nat, r < k → nth xs (r : Int) = List.replicate (b.length + 1) 0, fun _ v => (a.length + 1 - v).toNat,
  ⟨0, rfl, Nat.zero_le _, by simp, fun r hr => absurd hr (Nat.not_lt_zero _)⟩, ?_⟩
 rintro xs _ ⟨k, rfl, hk, hl, hx⟩
 rw [List.length_replicate]
 by_cases hk0 : (k : Int) < ((a.length + 1 : Nat) : Int)
 ·rw [if_pos (by simpa using hk0)]
  refine ⟨fun _ => by unfold I64; omega, by omega, by omega, fun _ => by unfold I64; omega, ⟨k + 1, by omega, by omega, by rw [List.length_set]; exact hl, fun r hr => ?_⟩, by dsimp only; omega⟩
  rw [Int.toNat_natCast, nth_set _ (by omega)]
  by_cases e : r = k
  ·rw [if_pos e]
  ·rw [if_neg e]; exact hx r (by omega)
 rw [if_neg (by simpa using hk0)]
 refine ⟨fun _ => by unfold I64; omega, fun xs i => ∃ k : Nat, i = (k : Int) - 1 ∧ k ≤ a.length ∧ Tab a b (fun r m => k ≤ r ∨ m = b.length) xs, fun _ i => (i + 1).toNat, ⟨a.length, rfl, Nat.le_refl _, hl, fun r hr => ?_⟩, ?_⟩
 ·rw [hx r (by omega)]
  refine ⟨by simp, fun m hm hd => ?_⟩
  rw [nth_rep _ _ _ (by omega)]
  rcases hd with hd | hd
  ·rw [List.drop_of_length_le (by omega : a.length ≤ r), lcs_nil]; rfl
  ·rw [hd, List.drop_length, lcs_nil2]; rfl
 clear hx hl hk0 hk xs k
 rintro xs _ ⟨k, rfl, hk, ht⟩
 by_cases hk0 : (k : Int) - 1 ≥ 0
 ·rw [if_pos (by simpa using hk0)]
  obtain ⟨i, rfl⟩ : ∃ i, k = i + 1 := ⟨k - 1, by omega⟩
  have ei : ((i + 1 : Nat) : Int) - 1 = (i : Int) := by omega
  have ei1 : (i : Int) + 1 = ((i + 1 : Nat) : Int) := by omega
  rw [ei]
  refine ⟨fun _ => by unfold I64; omega, fun ys j => ∃ m : Nat, j = (m : Int) - 1 ∧ m ≤ b.length ∧ Tab a b (fun r u => i < r ∨ (r = i ∧ m ≤ u) ∨ u = b.length) ys, fun _ j => (j + 1).toNat, ⟨b.length, rfl, Nat.le_refl _, ht.1, fun r hr => ⟨(ht.2 r hr).1, fun m hm hd => (ht.2 r hr).2 m hm ?_⟩⟩, ?_⟩
  ·omega
  rintro ys _ ⟨m, rfl, hm, hs⟩
  by_cases hm0 : (m : Int) - 1 ≥ 0
  ·rw [if_pos (by simpa using hm0)]
   obtain ⟨j, rfl⟩ : ∃ j, m = j + 1 := ⟨m - 1, by omega⟩
   have ej : ((j + 1 : Nat) : Int) - 1 = (j : Int) := by omega
   have ej1 : (j : Int) + 1 = ((j + 1 : Nat) : Int) := by omega
   rw [ej, ej1, ei1, eqPt_is]
   have hl := lcs_drop a b (i := i) (j := j) (by omega) (by omega)
   have s0 := hs.1
   have s1 := hs.2 i (by omega)
   have s2 := hs.2 (i + 1) (by omega)
   have n1 := s2.2 (j + 1) (by omega) (.inl (by omega))
   have n2 := s2.2 j (by omega) (.inl (by omega))
   have n3 := s1.2 (j + 1) (by omega) (.inr (.inl ⟨rfl, by omega⟩))
   have l1 := s1.1
   have l2 := s2.1
   have b1 := lcs_le2 (a.drop (i + 1)) (b.drop (j + 1))
   rw [List.length_drop] at b1
   have hset : ∀ v : Int, v = (lcs (a.drop i) (b.drop j) : Nat) → Tab a b (fun r u => i < r ∨ (r = i ∧ j ≤ u) ∨ u = b.length) (ys.set (i : Int).toNat ((nth ys (i : Int)).set (j : Int).toNat v)) := fun v hv => by
    rw [Int.toNat_natCast, Int.toNat_natCast]
    exact hs.set (by omega) (by omega) hv fun r u h => by omega
   refine ⟨by omega, by omega, ?_⟩
   by_cases he : nth a (i : Int) = nth b (j : Int)
   ·rw [if_pos (by simpa using he)]
    rw [if_pos he] at hl
    rw [n1]
    exact ⟨by omega, by unfold I64; omega, by omega, by unfold I64; omega, by omega, by unfold I64; omega, by omega, by unfold I64; omega, ⟨j, by omega, by omega, hset _ (by omega)⟩, by dsimp only; omega⟩
   ·rw [if_neg (by simpa using he)]
    rw [if_neg he] at hl
    rw [n2, n3]
    exact ⟨by omega, by unfold I64; omega, by omega, by omega, by omega, by unfold I64; omega, by omega, by omega, by unfold I64; omega, ⟨j, by omega, by omega, hset _ (by omega)⟩, by dsimp only; omega⟩
  ·rw [if_neg (by simpa using hm0)]
   have : m = 0 := by omega
   subst this
   refine ⟨by unfold I64; omega, ⟨i, by omega, by omega, hs.1, fun r hr => ⟨(hs.2 r hr).1, fun m hm hd => (hs.2 r hr).2 m hm ?_⟩⟩, by dsimp only; omega⟩
   omega
 ·rw [if_neg (by simpa using hk0)]
  have : k = 0 := by omega
  subst this
  exact hq _ ⟨ht.1, fun r hr => ⟨(ht.2 r hr).1, fun m hm _ => (ht.2 r hr).2 m hm (.inl (Nat.zero_le _))⟩⟩
theorem F50.law (a b : List Pt) (Q : List Pair → Prop) (hq : Q (spairs a b)) : F50.E a b Q := by
 unfold F50.E
 unfold spairs at hq
 by_cases h1 : (a.length : Int) > 12
 ·rw [if_pos (by simpa using h1)]
  rw [if_neg (by rw [few_iff]; omega)] at hq; exact hq
 rw [if_neg (by simpa using h1)]
 by_cases h2 : (b.length : Int) > 12
 ·rw [if_pos (by simpa using h2)]
  rw [if_neg (by rw [few_iff]; omega)] at hq; exact hq
 rw [if_neg (by simpa using h2)]
 rw [if_pos (by rw [few_iff]; omega)] at hq
 refine F67.law _ _ _ (by omega) (by omega) fun t ht => ?_
 refine ⟨fun xs i j => ∃ u v : Nat, i = u ∧ j = v ∧ u ≤ a.length ∧ v ≤ b.length ∧ xs ++ (pairs u v (a.drop u) (b.drop v)).map mkP = (pairs 0 0 a b).map mkP, fun _ i j => ((a.length - i) + (b.length - j)).toNat, ⟨0, 0, rfl, rfl, Nat.zero_le _, Nat.zero_le _, rfl⟩, ?_⟩
 rintro xs _ _ ⟨u, v, rfl, rfl, hu, hv, hx⟩
 by_cases hu0 : (u : Int) < (a.length : Int)
 ·rw [if_pos (by simpa using hu0)]
  by_cases hv0 : (v : Int) < (b.length : Int)
  ·rw [if_pos (by simpa using hv0)]
   have hu1 : u < a.length := by omega
   have hv1 : v < b.length := by omega
   rw [pairs_drop a b hu1 hv1] at hx
   have eu : (u : Int) + 1 = ((u + 1 : Nat) : Int) := by omega
   have ev : (v : Int) + 1 = ((v + 1 : Nat) : Int) := by omega
   rw [eqPt_is, eu, ev]
   refine ⟨by omega, by omega, ?_⟩
   by_cases he : nth a (u : Int) = nth b (v : Int)
   ·rw [if_pos (by simpa using he)]
    rw [if_pos he, List.map_cons] at hx
    have hl := congrArg List.length hx
    rw [List.length_map, pairs_len, List.length_append] at hl
    have := lcs_le1 a b
    exact ⟨by simp only [List.length_singleton]; omega, by omega, by omega, ⟨u + 1, v + 1, rfl, rfl, by omega, by omega, by rw [List.append_assoc]; exact hx⟩, by dsimp only; omega⟩
   ·rw [if_neg (by simpa using he)]
    rw [if_neg he] at hx
    have t0 := ht.1
    have t1 := ht.2 u (by omega)
    have t2 := ht.2 (u + 1) (by omega)
    have n1 := t2.2 v (by omega) trivial
    have n2 := t1.2 (v + 1) (by omega) trivial
    have l1 := t1.1
    have l2 := t2.1
    refine ⟨by omega, by omega, by omega, by omega, by omega, by omega, ?_⟩
    rw [n1, n2]
    by_cases hc : lcs (a.drop u) (b.drop (v + 1)) ≤ lcs (a.drop (u + 1)) (b.drop v)
    ·rw [if_pos (by simpa using hc)]
     rw [if_pos hc] at hx
     exact ⟨by omega, ⟨u + 1, v, rfl, rfl, by omega, by omega, hx⟩, by dsimp only; omega⟩
    ·rw [if_neg (by simpa using hc)]
     rw [if_neg hc] at hx
     exact ⟨by omega, ⟨u, v + 1, rfl, rfl, by omega, by omega, hx⟩, by dsimp only; omega⟩
  ·rw [if_neg (by simpa using hv0)]
   rw [List.drop_of_length_le (by omega : b.length ≤ v), pairs_nil2, List.map_nil, List.append_nil] at hx
   rw [hx]; exact hq
 ·rw [if_neg (by simpa using hu0)]
  rw [List.drop_of_length_le (by omega : a.length ≤ u), pairs_nil, List.map_nil, List.append_nil] at hx
  rw [hx]; exact hq
theorem F68.law (l : List Pair) (k : Int) (Q : Int → Prop) (hl : l.length ≤ 1048576) (hq : Q (mateI l k)) : F68.E l k Q := by
 unfold F68.E
 refine ⟨fun i => ∃ u : Nat, i = u ∧ u ≤ l.length ∧ mateI (l.drop u) k = mateI l k, fun i => (l.length - i).toNat, ⟨0, rfl, Nat.zero_le _, rfl⟩, ?_⟩
 rintro _ ⟨u, rfl, hu, he⟩
 by_cases h : (u : Int) < (l.length : Int)
 ·rw [if_pos (by simpa using h)]
  rw [drop_nth l (by omega), mateI_cons] at he
  refine ⟨by omega, ?_⟩
  by_cases hc : ((nth l (u : Int)).A == k) = true
  ·rw [if_pos hc] at he ⊢
   rw [he]; exact hq
  ·rw [if_neg hc] at he ⊢
   exact ⟨by unfold I64; omega, ⟨u + 1, by omega, by omega, he⟩, by dsimp only; omega⟩
 ·rw [if_neg (by simpa using h)]
  rw [List.drop_of_length_le (by omega : l.length ≤ u), mateI_nil] at he
  rw [he]; exact hq
theorem F51.law (o a b : List Pt) (Q : List Pt → Bool → Prop) (hs : ∀ r, smerge o a b = some r → Q r true) (hn : smerge o a b = none → Q [] false) : F51.E o a b Q := by
 unfold F51.E
 by_cases c1 : (o.length : Int) > 12
 ·rw [if_pos (by simpa using c1)]
  exact hn (smerge_not (.inl (few_not.2 (by omega))))
 rw [if_neg (by simpa using c1)]
 by_cases c2 : (a.length : Int) > 12
 ·rw [if_pos (by simpa using c2)]
  exact hn (smerge_not (.inl (few_not.2 (by omega))))
 rw [if_neg (by simpa using c2)]
 by_cases c3 : (b.length : Int) > 12
 ·rw [if_pos (by simpa using c3)]
  exact hn (smerge_not (.inr (few_not.2 (by omega))))
 rw [if_neg (by simpa using c3)]
 have h1 : few o a = true := few_iff.2 (by omega)
 have h2 : few o b = true := few_iff.2 (by omega)
 refine F50.law _ _ _ (F50.law _ _ _ ?_)
 have lo := spairs_len o a; have lo2 := spairs_len o b
 have so := slen_le o a; have so2 := slen_le o b
 refine ⟨fun xs i j k t => (∃ i' j' k' t' : Nat, i = i' ∧ j = j' ∧ k = k' ∧ t = t' ∧ MInv o a b xs i' j' k' t') ∨ (t = (o.length : Int) + 1 ∧ smerge o a b = some xs), fun _ _ _ _ t => (o.length + 1 - t).toNat, .inl ⟨0, 0, 0, 0, rfl, rfl, rfl, rfl, MInv.zero h1 h2⟩, ?_⟩
 rintro xs _ _ _ _ (⟨i, j, k, t, rfl, rfl, rfl, rfl, h⟩ | ⟨rfl, h⟩)
 ·have ht := h.ht; have hi := h.hi; have hj := h.hj; have hk := h.hk; have hl := h.len
  rw [if_pos (by simp; omega)]
  simp only [Int.toNat_natCast]
  by_cases ht0 : (t : Int) < (o.length : Int)
  ·rw [if_pos (by simpa using ht0)]
   refine F68.law _ _ _ (by omega) (F68.law _ _ _ (by omega) ?_)
   rw [mate_part h1, mate_part h2]
   cases hx : part o a t with
   | none =>
    rw [if_pos (by decide)]
    exact ⟨by omega, .inl ⟨i, j, k, t + 1, rfl, rfl, rfl, rfl, h.skip (by omega) (.inl hx)⟩, by omega⟩
   | some x =>
    rw [if_neg (by simp)]
    cases hy : part o b t with
    | none =>
     rw [if_pos (by decide)]
     exact ⟨by omega, .inl ⟨i, j, k, t + 1, rfl, rfl, rfl, rfl, h.skip (by omega) (.inr hy)⟩, by omega⟩
    | some y =>
     rw [if_neg (by simp)]
     dsimp only
     obtain ⟨g1, g2, g3, g4⟩ := h.from hx hy
     refine ⟨by omega, by omega, by omega, ?_⟩
     simp only [Int.toNat_natCast]
     have s1 := seg_len o i t (by omega); have s2 := seg_len a j x (by omega); have s3 := seg_len b k y (by omega)
     have hs1 : ∀ p, pickL (seg o i t) (seg a j x) (seg b k y) = some p → p.length ≤ (x - j) + (y - k) ∧ MInv o a b (xs ++ p ++ [nth o (t : Int)]) (t + 1) (x + 1) (y + 1) (t + 1) := fun p hp =>
      ⟨by have := (pickL_mem hp).2.2.2; omega, h.step (by omega) hx hy hp⟩
     have hn1 : pickL (seg o i t) (seg a j x) (seg b k y) = none → smerge o a b = none := h.stop (by omega) hx hy
     change F29.E (seg a j x) (seg o i t) _
     simp only [← seg.eq_1]
     generalize seg o i t = so at *
     generalize seg a j x = sa at *
     generalize seg b k y = sb at *
     refine F29.law _ _ _ (by omega) ?_
     by_cases q1 : sa = so
     ·rw [if_pos (by simpa using q1)]
      obtain ⟨hm, hi⟩ := hs1 sb (by unfold pickL; rw [if_pos q1])
      exact ⟨by omega, by omega, by simp only [List.length_append, List.length_singleton]; omega, by omega, fun _ _ _ => by unfold I64; omega, fun _ _ _ => by unfold I64; omega, by omega, .inl ⟨t + 1, x + 1, y + 1, t + 1, rfl, rfl, rfl, rfl, hi⟩, by omega⟩
     rw [if_neg (by simpa using q1)]
     refine F29.law _ _ _ (by omega) ?_
     by_cases q2 : sb = so
     ·rw [if_pos (by simpa using q2)]
      obtain ⟨hm, hi⟩ := hs1 sa (by unfold pickL; rw [if_neg q1, if_pos q2])
      exact ⟨by omega, by omega, by simp only [List.length_append, List.length_singleton]; omega, by omega, fun _ _ _ => by unfold I64; omega, fun _ _ _ => by unfold I64; omega, by omega, .inl ⟨t + 1, x + 1, y + 1, t + 1, rfl, rfl, rfl, rfl, hi⟩, by omega⟩
     rw [if_neg (by simpa using q2)]
     refine F29.law _ _ _ (by omega) ?_
     by_cases q3 : sa = sb
     ·rw [if_pos (by simpa using q3)]
      obtain ⟨hm, hi⟩ := hs1 sa (by unfold pickL; rw [if_neg q1, if_neg q2, if_pos q3])
      exact ⟨by omega, by omega, by simp only [List.length_append, List.length_singleton]; omega, by omega, fun _ _ _ => by unfold I64; omega, fun _ _ _ => by unfold I64; omega, by omega, .inl ⟨t + 1, x + 1, y + 1, t + 1, rfl, rfl, rfl, rfl, hi⟩, by omega⟩
     rw [if_neg (by simpa using q3)]
     exact hn (hn1 (by unfold pickL; rw [if_neg q1, if_neg q2, if_neg q3]))
  ·rw [if_neg (by simpa using ht0)]
   have : t = o.length := by omega
   subst this
   refine ⟨by omega, by omega, by omega, ?_⟩
   have hlast := h.last
   have e1 : (o.drop i).take (o.length - i) = o.drop i := seg_end o i
   have e2 : (a.drop j).take (a.length - j) = a.drop j := seg_end a j
   have e3 : (b.drop k).take (b.length - k) = b.drop k := seg_end b k
   rw [e1, e2, e3]
   have s2 : (a.drop j).length = a.length - j := List.length_drop; have s3 : (b.drop k).length = b.length - k := List.length_drop
   have hs1 : ∀ p, pickL (o.drop i) (a.drop j) (b.drop k) = some p → p.length ≤ (a.length - j) + (b.length - k) ∧ smerge o a b = some (xs ++ p) := fun p hp =>
    ⟨by have := (pickL_mem hp).2.2.2; omega, by rw [hp, Option.map_some] at hlast; exact hlast.symm⟩
   have hn1 : pickL (o.drop i) (a.drop j) (b.drop k) = none → smerge o a b = none := fun hp => by rw [hp] at hlast; exact hlast.symm
   generalize o.drop i = so at *
   generalize a.drop j = sa at *
   generalize b.drop k = sb at *
   refine F29.law _ _ _ (by omega) ?_
   by_cases q1 : sa = so
   ·rw [if_pos (by simpa using q1)]
    obtain ⟨hm, hi⟩ := hs1 sb (by unfold pickL; rw [if_pos q1])
    exact ⟨by omega, fun _ _ _ => by unfold I64; omega, fun _ _ _ => by unfold I64; omega, fun _ _ _ => by unfold I64; omega, fun _ _ _ => by unfold I64; omega, .inr ⟨rfl, hi⟩, by omega⟩
   rw [if_neg (by simpa using q1)]
   refine F29.law _ _ _ (by omega) ?_
   by_cases q2 : sb = so
   ·rw [if_pos (by simpa using q2)]
    obtain ⟨hm, hi⟩ := hs1 sa (by unfold pickL; rw [if_neg q1, if_pos q2])
    exact ⟨by omega, fun _ _ _ => by unfold I64; omega, fun _ _ _ => by unfold I64; omega, fun _ _ _ => by unfold I64; omega, fun _ _ _ => by unfold I64; omega, .inr ⟨rfl, hi⟩, by omega⟩
   rw [if_neg (by simpa using q2)]
   refine F29.law _ _ _ (by omega) ?_
   by_cases q3 : sa = sb
   ·rw [if_pos (by simpa using q3)]
    obtain ⟨hm, hi⟩ := hs1 sa (by unfold pickL; rw [if_neg q1, if_neg q2, if_pos q3])
    exact ⟨by omega, fun _ _ _ => by unfold I64; omega, fun _ _ _ => by unfold I64; omega, fun _ _ _ => by unfold I64; omega, fun _ _ _ => by unfold I64; omega, .inr ⟨rfl, hi⟩, by omega⟩
   rw [if_neg (by simpa using q3)]
   exact hn (hn1 (by unfold pickL; rw [if_neg q1, if_neg q2, if_neg q3]))
 ·rw [if_neg (by simp; omega)]
  exact hs _ h
theorem F6.law (o a b : Shape) (ok : Shape → Shape → Prop) (Q : Shape → Bool → Prop) (h1 : ok a o) (h2 : ok b o) (h3 : ok a b) (hq : Q (three o a b).1 (three o a b).2) : F6.E o a b (fun x y => decide (x = y)) ok Q := by
 unfold F6.E
 unfold three at hq
 refine ⟨h1, ?_⟩
 by_cases e1 : a = o
 ·rw [if_pos e1] at hq; rw [if_pos (decide_eq_true e1)]; exact hq
 ·rw [if_neg e1] at hq; rw [if_neg (by simpa using e1)]
  refine ⟨h2, ?_⟩
  by_cases e2 : b = o
  ·rw [if_pos e2] at hq; rw [if_pos (decide_eq_true e2)]; exact hq
  ·rw [if_neg e2] at hq; rw [if_neg (by simpa using e2)]
   refine ⟨h3, ?_⟩
   by_cases e3 : a = b
   ·rw [if_pos e3] at hq; rw [if_pos (decide_eq_true e3)]; exact hq
   ·rw [if_neg e3] at hq; rw [if_neg (by simpa using e3)]; exact hq
theorem F8.law (o a b : value) (ok : value → value → Prop) (Q : value → Bool → Prop) (h1 : ok a o) (h2 : ok b o) (h3 : ok a b) (hq : Q (three o a b).1 (three o a b).2) : F8.E o a b (fun x y => decide (x = y)) ok Q := by
 unfold F8.E
 unfold three at hq
 refine ⟨h1, ?_⟩
 by_cases e1 : a = o
 ·rw [if_pos e1] at hq; rw [if_pos (decide_eq_true e1)]; exact hq
 ·rw [if_neg e1] at hq; rw [if_neg (by simpa using e1)]
  refine ⟨h2, ?_⟩
  by_cases e2 : b = o
  ·rw [if_pos e2] at hq; rw [if_pos (decide_eq_true e2)]; exact hq
  ·rw [if_neg e2] at hq; rw [if_neg (by simpa using e2)]
   refine ⟨h3, ?_⟩
   by_cases e3 : a = b
   ·rw [if_pos e3] at hq; rw [if_pos (decide_eq_true e3)]; exact hq
   ·rw [if_neg e3] at hq; rw [if_neg (by simpa using e3)]; exact hq
theorem F3.law (s : List Tag) (f : Tag → Bool) (ok : Tag → Prop) (Q : Int → Prop) (hl : s.length ≤ 1048576) (hok : ∀ x ∈ s, ok x) (hq : Q (findN s.length fun j => f (nth s (j : Int)))) : F3.E s f ok Q := by
 unfold F3.E
 refine loop_find s.length (fun j => f (nth s (j : Int))) hq (fun I mu k hk h1 h2 => ⟨by omega, hok _ (nth_mem s hk), ?_⟩)
 cases h : f (nth s (k : Int)) with
 | true => rw [if_pos rfl]; exact h1 h
 | false => rw [if_neg (by decide)]; obtain ⟨i1, i2⟩ := h2 h; exact ⟨by unfold I64; omega, i1, i2⟩
theorem F69.law (f : Feat) (key : Str) (Q : value → Prop) (hl : f.Tags.length ≤ 1048576) (hq : Q (valT f.Tags key)) : F69.E f key Q := by
 unfold F69.E F49.E
 have h1 := findN_le f.Tags.length fun j => (nth f.Tags (j : Int)).Key == key
 refine ⟨fun x => x.Key == key, fun x => x ∈ f.Tags, fun x hx => ?_, F3.law _ _ _ _ hl (fun x hx => hx) ?_⟩
 ·unfold F28.E; rfl
 ·unfold valT at hq
  by_cases h : findN f.Tags.length (fun j => (nth f.Tags (j : Int)).Key == key) < 0
  ·rw [if_pos h] at hq; rw [if_pos (by simpa using h)]; exact hq
  ·rw [if_neg h] at hq; rw [if_neg (by simpa using h)]; exact ⟨by omega, hq⟩
theorem F16.law (l : List (List Tag)) (Q : List Tag → Prop) (h1 : l.length ≤ 1000) (h2 : l.flatten.length ≤ 1000000) (hq : Q l.flatten) : F16.E l Q := by
 have htk : ∀ u, (l.take u).flatten.length ≤ l.flatten.length := fun u => by
  have : l.flatten = (l.take u).flatten ++ (l.drop u).flatten := by rw [← List.flatten_append, List.take_append_drop]
  rw [this, List.length_append]; omega
 have hsn : ∀ u, u < l.length → (l.take (u + 1)).flatten = (l.take u).flatten ++ nth l (u : Int) := fun u hu => by rw [take_nth l hu, List.flatten_append]; simp
 unfold F16.E
 refine ⟨fun size i => ∃ u : Nat, i = u ∧ u ≤ l.length ∧ size = ((l.take u).flatten.length : Int), fun _ i => (l.length - i).toNat, ⟨0, rfl, Nat.zero_le _, by simp⟩, ?_⟩
 rintro _ _ ⟨u, rfl, hu, rfl⟩
 by_cases h : u < l.length
 ·rw [if_pos (by simpa using h)]
  have e := hsn u h
  have ht := htk (u + 1)
  rw [e, List.length_append] at ht
  refine ⟨by omega, fun _ => by unfold I64; omega, ?_⟩
  rw [if_neg (by rw [decide_eq_true_eq]; omega)]
  exact ⟨fun _ => by unfold I64; omega, ⟨u + 1, by omega, by omega, by rw [e, List.length_append]; omega⟩, by dsimp only; omega⟩
 ·rw [if_neg (by simpa using h)]
  have : u = l.length := by omega
  subst this
  rw [List.take_length]
  have rest : ∃ (I82 : (List Tag) → Int → Prop) (mu83 : (List Tag) → Int → Nat), I82 [] 0 ∧ ∀ (xs2 : List Tag) (v4 : Int), I82 xs2 v4 → (if decide (v4 < (l.length : Int)) then ((0 : Int) ≤ v4 ∧ v4 < (l.length : Int)) ∧ (xs2.length + (nth l v4).length ≤ 268435456) ∧ (I64 (v4 + 1)) ∧ I82 (xs2 ++ (nth l v4)) (v4 + 1) ∧ mu83 (xs2 ++ (nth l v4)) (v4 + 1) < mu83 xs2 v4 else Q xs2) := by
   refine ⟨fun xs i => ∃ u : Nat, i = u ∧ u ≤ l.length ∧ xs = (l.take u).flatten, fun _ i => (l.length - i).toNat, ⟨0, rfl, Nat.zero_le _, by simp⟩, ?_⟩
   rintro _ _ ⟨u, rfl, hu, rfl⟩
   by_cases g : u < l.length
   ·rw [if_pos (by simpa using g)]
    have e := hsn u g
    have ht := htk (u + 1)
    rw [e, List.length_append] at ht
    exact ⟨by omega, by omega, by unfold I64; omega, ⟨u + 1, by omega, by omega, by rw [e]⟩, by dsimp only; omega⟩
   ·rw [if_neg (by simpa using g)]
    have : u = l.length := by omega
    subst this
    rw [List.take_length]; exact hq
  unfold F30.E
  rw [if_neg (by rw [decide_eq_true_eq]; omega)]
  refine ⟨by unfold I64; omega, by unfold I64; omega, ?_⟩
  by_cases hz : (l.flatten.length : Int) - (0 - 0) > 0
  ·rw [if_pos (by rw [decide_eq_true_eq]; exact hz)]
   exact ⟨by omega, by omega, rest⟩
  ·rw [if_neg (by rw [decide_eq_true_eq]; exact hz)]
   exact rest
theorem F52.law (o a b : Feat) (Q : Feat → List Str → Prop) (h1 : bulk o ≤ 1048576) (h2 : bulk a ≤ 1048576) (h3 : bulk b ≤ 1048576) (hq : Q (featJoin o a b).1 (featJoin o a b).2) : F52.E o a b Q := by
 unfold F52.E
 unfold featJoin at hq
 have zq : (featOk o && featOk a && featOk b && decide (o.Id = a.Id) && decide (o.Id = b.Id)) = false → Q ⟨[], ⟨0, []⟩, []⟩ [] := fun h => by rw [h, if_neg (by decide)] at hq; exact hq
 refine F90.law _ _ h1 ?_
 cases ko : featOk o with
 | false => rw [if_pos (by decide)]; exact zq (by rw [ko]; rfl)
 | true =>
 rw [if_neg (by decide)]
 refine F90.law _ _ h2 ?_
 cases ka : featOk a with
 | false => rw [if_pos (by decide)]; exact zq (by rw [ko, ka]; rfl)
 | true =>
 rw [if_neg (by decide)]
 refine F90.law _ _ h3 ?_
 cases kb : featOk b with
 | false => rw [if_pos (by decide)]; exact zq (by rw [ko, ka, kb]; rfl)
 | true =>
 rw [if_neg (by decide)]
 by_cases e1 : o.Id = a.Id
 case neg => rw [if_pos (by rw [bne_iff_ne]; exact e1)]; exact zq (by rw [decide_eq_false e1]; simp)
 rw [if_neg (by rw [e1]; simp)]
 by_cases e2 : o.Id = b.Id
 case neg => rw [if_pos (by rw [bne_iff_ne]; exact e2)]; exact zq (by rw [decide_eq_false e2]; simp)
 rw [if_neg (by rw [e2]; simp)]
 rw [ko, ka, kb, decide_eq_true e1, decide_eq_true e2, if_pos (by decide)] at hq
 clear zq
 have fo := feat_facts ko; have fa := feat_facts ka; have fb := feat_facts kb
 have so := fo.2.2.1; have sa := fa.2.2.1; have sb := fb.2.2.1
 refine ⟨fun x y => decide (x = y), fun x _ => x.Pts.length ≤ 1048576, fun x y hx => F38.law _ _ _ hx rfl, F6.law _ _ _ _ _ (by (try dsimp only); omega) (by (try dsimp only); omega) (by (try dsimp only); omega) ?_⟩
 refine ⟨fun xs z z2 => xs = (if (shapeF o.Shape a.Shape b.Shape).2 then [] else [shapeS]) ∧ (⟨z, z2⟩ : Shape) = (shapeF o.Shape a.Shape b.Shape).1, ?_, ?_⟩
 ·have hs : ([([115, 104, 97, 112, 101] : Str)] : List Str) = [shapeS] := rfl
  cases c0 : (three o.Shape a.Shape b.Shape).2 with
  | true =>
   rw [if_neg (by decide)]
   have e : shapeF o.Shape a.Shape b.Shape = three o.Shape a.Shape b.Shape := by unfold shapeF; rw [if_pos c0]
   rw [e, c0]; exact ⟨rfl, rfl⟩
  | false =>
   rw [if_pos (by decide)]
   have et : (three o.Shape a.Shape b.Shape).1 = a.Shape := by
    unfold three at c0 ⊢
    split
    ·rename_i h; rw [if_pos h] at c0; cases c0
    ·rename_i h
     rw [if_neg h] at c0
     split
     ·rename_i g; rw [if_pos g] at c0; try cases c0
     ·rename_i g
      rw [if_neg g] at c0
      split <;> rfl
   have bad : (shapeF o.Shape a.Shape b.Shape) = (a.Shape, false) → (if (!false) = true then (([] : List Str).length + ([([115, 104, 97, 112, 101] : Str)] : List Str).length ≤ 268435456) ∧ (([] : List Str) ++ ([([115, 104, 97, 112, 101] : Str)] : List Str) = (if (shapeF o.Shape a.Shape b.Shape).2 then [] else [shapeS]) ∧ (⟨(three o.Shape a.Shape b.Shape).1.Kind, (three o.Shape a.Shape b.Shape).1.Pts⟩ : Shape) = (shapeF o.Shape a.Shape b.Shape).1) else ([] : List Str) = (if (shapeF o.Shape a.Shape b.Shape).2 then [] else [shapeS]) ∧ (⟨(three o.Shape a.Shape b.Shape).1.Kind, (three o.Shape a.Shape b.Shape).1.Pts⟩ : Shape) = (shapeF o.Shape a.Shape b.Shape).1) := fun e => by
    rw [if_pos (by decide), e, et]; exact ⟨by decide, rfl, rfl⟩
   by_cases k1 : o.Shape.Kind = a.Shape.Kind
   case neg => rw [if_neg (by simpa using k1)]; exact bad (by unfold shapeF; rw [if_neg (by rw [c0]; decide), if_neg fun h => k1 h.1.symm])
   rw [if_pos (by simpa using k1)]
   by_cases k2 : o.Shape.Kind = b.Shape.Kind
   case neg => rw [if_neg (by simpa using k2)]; exact bad (by unfold shapeF; rw [if_neg (by rw [c0]; decide), if_neg fun h => k2 h.2.symm])
   rw [if_pos (by simpa using k2)]
   have hsh : shapeF o.Shape a.Shape b.Shape = match smerge o.Shape.Pts a.Shape.Pts b.Shape.Pts with
    | some p => if shapeOk ⟨a.Shape.Kind, p⟩ then (⟨a.Shape.Kind, p⟩, true) else (a.Shape, false)
    | none => (a.Shape, false) := by unfold shapeF; rw [if_neg (by rw [c0]; decide), if_pos ⟨k1.symm, k2.symm⟩]; try (cases smerge o.Shape.Pts a.Shape.Pts b.Shape.Pts <;> rfl)
   refine F51.law _ _ _ _ (fun r hr => ?_) (fun hr => ?_)
   ·rw [if_pos rfl]
    have hrl := smerge_len hr
    rw [hr] at hsh
    refine F65.law _ _ (by dsimp only; omega) ?_
    cases k3 : shapeOk ⟨a.Shape.Kind, r⟩ with
    | true =>
     rw [if_pos rfl, if_neg (by decide)]
     dsimp only at hsh
     rw [if_pos k3] at hsh
     rw [hsh]; exact ⟨rfl, rfl⟩
    | false =>
     rw [if_neg (by decide)]
     dsimp only at hsh
     rw [if_neg (by rw [k3]; decide)] at hsh
     exact bad hsh
   ·rw [if_neg (by decide)]
    rw [hr] at hsh
    exact bad hsh
 rintro _ z z2 ⟨rfl, hz⟩
 rw [hz]
 unfold F27.E
 have hpts := shapeF_pts (o := o.Shape) sa sb
 refine ⟨by simp only [List.length_nil]; omega, ?_⟩
 rw [List.nil_append]
 have hfl : ([o.Tags, a.Tags, b.Tags] : List (List Tag)).flatten = o.Tags ++ a.Tags ++ b.Tags := by simp
 have hln : (o.Tags ++ a.Tags ++ b.Tags).length ≤ 12 := by simp only [List.length_append]; omega
 refine F16.law _ _ (by simp) (by rw [hfl]; omega) ?_
 rw [hfl]
 refine ⟨fun xs i => ∃ u : Nat, i = u ∧ u ≤ (o.Tags ++ a.Tags ++ b.Tags).length ∧ xs = keysT ((o.Tags ++ a.Tags ++ b.Tags).take u), fun _ i => ((o.Tags ++ a.Tags ++ b.Tags).length - i).toNat, ⟨0, rfl, Nat.zero_le _, rfl⟩, ?_⟩
 rintro _ _ ⟨u, rfl, hu, rfl⟩
 by_cases h : u < (o.Tags ++ a.Tags ++ b.Tags).length
 ·rw [if_pos (decide_eq_true (by omega))]
  have hil : (keysT ((o.Tags ++ a.Tags ++ b.Tags).take u)).length ≤ u := by unfold keysT; simp; omega
  refine ⟨by omega, by simp only [List.length_cons, List.length_nil]; omega, by unfold I64; omega, ⟨u + 1, by omega, by omega, ?_⟩, by dsimp only; omega⟩
  rw [take_nth _ h, keys_app]; rfl
 rw [if_neg (by rw [decide_eq_true_eq]; omega)]
 have : u = (o.Tags ++ a.Tags ++ b.Tags).length := by omega
 subst this
 clear h hu
 rw [List.take_length]
 unfold F7.E F0.E
 have hkl : (keysT (o.Tags ++ a.Tags ++ b.Tags)).length ≤ 12 := by unfold keysT; rw [List.length_map]; exact hln
 refine ⟨by omega, by unfold sortS; rw [List.length_mergeSort]; omega, ?_⟩
 obtain ⟨ks1, ks2⟩ := allKeys_small ko ka kb
 have ek : Lib.compact (sortS (keysT (o.Tags ++ a.Tags ++ b.Tags))) = allKeys o a b := rfl
 rw [ek]
 refine ⟨fun xs i ts => ∃ u : Nat, i = u ∧ u ≤ (allKeys o a b).length ∧ xs = (if (shapeF o.Shape a.Shape b.Shape).2 then [] else [shapeS]) ++ clashL o.Tags a.Tags b.Tags ((allKeys o a b).take u) ∧ ts = tagsL o.Tags a.Tags b.Tags ((allKeys o a b).take u), fun _ i _ => ((allKeys o a b).length - i).toNat, ⟨0, rfl, Nat.zero_le _, by simp [clashL], by simp [tagsL]⟩, ?_⟩
 rintro _ _ _ ⟨u, rfl, hu, rfl, rfl⟩
 have hpre : (if (shapeF o.Shape a.Shape b.Shape).2 then ([] : List Str) else [shapeS]).length ≤ 1 := by split <;> decide
 by_cases h : u < (allKeys o a b).length
 ·rw [if_pos (by simpa using h)]
  have hk6 := ks2 _ (nth_mem _ h)
  have hcl := clashL_len o.Tags a.Tags b.Tags ((allKeys o a b).take u)
  have htl := tagsL_len o.Tags a.Tags b.Tags ((allKeys o a b).take u)
  rw [List.length_take] at hcl htl
  refine ⟨by omega, F69.law _ _ _ (by omega) (F69.law _ _ _ (by omega) (F69.law _ _ _ (by omega) ?_))⟩
  refine ⟨fun x y => decide (x = y), fun _ _ => True, fun x y _ => by unfold F31.E; exact eqvalue_is x y, F8.law _ _ _ _ _ trivial trivial trivial ?_⟩
  have ec := clashL_snoc o.Tags a.Tags b.Tags ((allKeys o a b).take u) (nth (allKeys o a b) (u : Int))
  have et := tagsL_snoc o.Tags a.Tags b.Tags ((allKeys o a b).take u) (nth (allKeys o a b) (u : Int))
  rw [← take_nth _ h] at ec et
  refine ⟨fun xs z z2 => xs = (if (shapeF o.Shape a.Shape b.Shape).2 then [] else [shapeS]) ++ clashL o.Tags a.Tags b.Tags ((allKeys o a b).take (u + 1)) ∧ (⟨z, z2⟩ : value) = (tagK o.Tags a.Tags b.Tags (nth (allKeys o a b) (u : Int))).1, ?_, ?_⟩
  ·generalize nth (allKeys o a b) (u : Int) = k at *
   have ed : tagK o.Tags a.Tags b.Tags k = tagF (valT o.Tags k) (valT a.Tags k) (valT b.Tags k) := rfl
   rw [ec]
   cases c0 : (three (valT o.Tags k) (valT a.Tags k) (valT b.Tags k)).2 with
   | true =>
    have ek : tagK o.Tags a.Tags b.Tags k = three (valT o.Tags k) (valT a.Tags k) (valT b.Tags k) := by rw [ed]; unfold tagF; rw [if_pos c0]
    rw [if_neg (by decide), ek, c0, if_pos rfl, List.append_nil]
    exact ⟨rfl, rfl⟩
   | false =>
    have ek : tagK o.Tags a.Tags b.Tags k = (if (valT a.Tags k).has then valT a.Tags k else valT b.Tags k, false) := by rw [ed]; unfold tagF; rw [if_neg (by rw [c0]; decide)]
    rw [if_pos (by decide), ek]
    refine ⟨by simp only [List.length_cons, List.length_nil]; omega, by simp only [List.length_append, List.length_cons, List.length_nil]; omega, ?_⟩
    have e0 : (if ((if (valT a.Tags k).has then valT a.Tags k else valT b.Tags k, false) : value × Bool).2 then ([] : List Str) else [tagS ++ k]) = [tagS ++ k] := if_neg (by simp)
    rw [e0]
    cases c1 : (valT a.Tags k).has with
    | true => rw [if_neg (by simp)]; exact ⟨by rw [List.append_assoc]; rfl, by generalize valT a.Tags k = v at *; cases v; simp_all⟩
    | false => rw [if_pos (by simp)]; exact ⟨by rw [List.append_assoc]; rfl, by simp⟩
  ·rintro _ z3 z4 ⟨rfl, hz⟩
   have hz3 : z3 = (tagK o.Tags a.Tags b.Tags (nth (allKeys o a b) (u : Int))).1.has := by rw [← hz]
   have hz4 : z4 = (tagK o.Tags a.Tags b.Tags (nth (allKeys o a b) (u : Int))).1.val := by rw [← hz]
   refine ⟨fun ts => ts = tagsL o.Tags a.Tags b.Tags ((allKeys o a b).take (u + 1)), ?_, ?_⟩
   ·rw [et, hz3, hz4]
    split
    ·exact ⟨by simp only [List.length_cons, List.length_nil]; omega, rfl⟩
    ·rw [List.append_nil]
   ·rintro _ rfl
    exact ⟨by unfold I64; omega, ⟨u + 1, by omega, by omega, rfl, rfl⟩, by dsimp only; omega⟩
 rw [if_neg (by simpa using h)]
 have : u = (allKeys o a b).length := by omega
 subst this
 rw [List.take_length]
 have hjs := joinF_small ko ka kb
 unfold joinOf at hq
 show F90.E (joinF o a b) _
 refine F90.law _ _ (by omega) ?_
 cases kj : featOk (joinF o a b) with
 | true =>
  rw [if_neg (by decide)]
  rw [kj, if_pos rfl] at hq
  exact hq
 | false =>
  rw [if_pos (by decide)]
  rw [kj, if_neg (by decide)] at hq
  exact F36.law _ _ h2 hq
theorem F41.law (o a b : List Feat) (Q : List Feat → List Clash → Bool → Prop) (h1 : bulk o ≤ 1048576) (h2 : bulk a ≤ 1048576) (h3 : bulk b ≤ 1048576) (hq : Q (sheetJoin o a b).1 (sheetJoin o a b).2.1 (sheetJoin o a b).2.2) : F41.E o a b Q := by
 unfold F41.E
 unfold sheetJoin at hq
 have zq : (sheetOk o && sheetOk a && sheetOk b) = false → Q [] [] false := fun h => by rw [h, if_neg (by decide)] at hq; exact hq
 refine F74.law _ _ h1 ?_
 cases ko : sheetOk o with
 | false => rw [if_pos (by decide)]; exact zq (by rw [ko]; rfl)
 | true =>
 rw [if_neg (by decide)]
 refine F74.law _ _ h2 ?_
 cases ka : sheetOk a with
 | false => rw [if_pos (by decide)]; exact zq (by rw [ko, ka]; rfl)
 | true =>
 rw [if_neg (by decide)]
 refine F74.law _ _ h3 ?_
 cases kb : sheetOk b with
 | false => rw [if_pos (by decide)]; exact zq (by rw [ko, ka, kb]; rfl)
 | true =>
 rw [if_neg (by decide)]
 rw [ko, ka, kb, if_pos (by decide)] at hq
 clear zq
 have e : idsAll [o, a, b] = ids o ++ ids a ++ ids b := by unfold idsAll; simp
 have lo := (sheet_ss ko).2.1; have la := (sheet_ss ka).2.1; have lb := (sheet_ss kb).2.1
 have l3 : (ids o ++ ids a ++ ids b).length = o.length + a.length + b.length := by unfold ids; simp; omega
 refine F120.law _ _ (by simp) (by rw [e]; omega) (fun s hs => by
  simp only [List.mem_cons, List.not_mem_nil, or_false] at hs
  rcases hs with rfl | rfl | rfl <;> omega) ?_
 rw [e]
 have eids : uniq (ids o ++ ids a ++ ids b) = ids3 o a b := rfl
 rw [eids]
 have hlen := ids3_len ko ka kb
 refine ⟨fun cs fs l i => ∃ u : Nat, i = u ∧ u ≤ (ids3 o a b).length ∧ l = ids3 o a b ∧ cs = joinCs o a b ((ids3 o a b).take u) ∧ fs = joinFs o a b ((ids3 o a b).take u), fun _ _ _ i => ((ids3 o a b).length - i).toNat, ⟨0, rfl, Nat.zero_le _, rfl, rfl, rfl⟩, ?_⟩
 rintro _ _ _ _ ⟨u, rfl, hu, rfl, rfl, rfl⟩
 by_cases h : u < (ids3 o a b).length
 ·rw [if_pos (by simpa using h)]
  have ec := joinCs_snoc o a b ((ids3 o a b).take u) (nth (ids3 o a b) (u : Int))
  have ef := joinFs_snoc o a b ((ids3 o a b).take u) (nth (ids3 o a b) (u : Int))
  rw [← take_nth _ h] at ec ef
  have hcl := joinCs_len ko ka kb ((ids3 o a b).take u)
  have hfl := joinFs_len o a b ((ids3 o a b).take u)
  rw [List.length_take] at hcl hfl
  have hsm := (oneAt_small ko ka kb (nth (ids3 o a b) (u : Int))).2.2
  have to_ : ThOk _ _ := thOf_ok ko (nth (ids3 o a b) (u : Int))
  have ta_ : ThOk _ _ := thOf_ok ka (nth (ids3 o a b) (u : Int))
  have tb_ : ThOk _ _ := thOf_ok kb (nth (ids3 o a b) (u : Int))
  refine ⟨by omega, F75.law _ _ _ h1 (F75.law _ _ _ h2 (F75.law _ _ _ h3 ?_))⟩
  have eo : oneAt o a b (nth (ids3 o a b) (u : Int)) = oneOf (thOf o (nth (ids3 o a b) (u : Int))) (thOf a (nth (ids3 o a b) (u : Int))) (thOf b (nth (ids3 o a b) (u : Int))) := rfl
  rw [eo] at ec ef hsm
  clear eo
  generalize thOf o (nth (ids3 o a b) (u : Int)) = x at *
  generalize thOf a (nth (ids3 o a b) (u : Int)) = y at *
  generalize thOf b (nth (ids3 o a b) (u : Int)) = z at *
  generalize nth (ids3 o a b) (u : Int) = i at *
  have sx := to_.small; have sy := ta_.small; have sz := tb_.small
  refine ⟨fun x y => decide (x = y), fun x _ => x.f.Shape.Pts.length ≤ 1048576 ∧ x.f.Tags.length ≤ 1048576, fun x y hx => F40.law _ _ _ hx rfl, F9.law _ _ _ _ _ sy.2 sz.2 sy.2 ?_⟩
  refine ⟨fun cs fs l c1 c2 c3 c4 c5 => cs = joinCs o a b ((ids3 o a b).take (u + 1)) ∧ fs = joinFs o a b ((ids3 o a b).take u) ∧ l = ids3 o a b ∧ (⟨c1, (⟨c2, (⟨c3, c4⟩ : Shape), c5⟩ : Feat)⟩ : thing) = (oneOf x y z).1, ?_, ?_⟩
  ·rcases Bool.eq_false_or_eq_true (three x y z).2 with c0 | c0
   ·rw [if_pos c0]
    exact ⟨by rw [ec, one_same c0]; simp [clashAtL], rfl, rfl, by rw [one_same c0]⟩
   rw [if_neg (by rw [c0]; decide)]
   have e1 := one_else c0
   rcases Bool.eq_false_or_eq_true y.has with ca | ca
   case inr =>
    rw [if_pos (by rw [ca]; rfl)]
    rw [if_pos ca] at e1
    exact ⟨by simp only [List.length_cons, List.length_nil]; omega, by rw [ec, e1]; rfl, rfl, rfl, by rw [e1]⟩
   rw [if_neg (by rw [ca]; decide)]
   rw [if_neg (by rw [ca]; decide)] at e1
   rcases Bool.eq_false_or_eq_true z.has with cb | cb
   case inr =>
    rw [if_pos (by rw [cb]; rfl)]
    rw [if_pos cb] at e1
    exact ⟨by simp only [List.length_cons, List.length_nil]; omega, by rw [ec, e1]; rfl, rfl, rfl, by rw [e1]⟩
   rw [if_neg (by rw [cb]; decide)]
   rw [if_neg (by rw [cb]; decide)] at e1
   rcases Bool.eq_false_or_eq_true x.has with co | co
   case inr =>
    rw [if_pos (by rw [co]; rfl)]
    rw [if_pos co] at e1
    exact ⟨by simp only [List.length_cons, List.length_nil]; omega, by rw [ec, e1]; rfl, rfl, rfl, by rw [e1]⟩
   rw [if_neg (by rw [co]; decide)]
   rw [if_neg (by rw [co]; decide)] at e1
   obtain ⟨fx, ix⟩ := to_.has co; obtain ⟨fy, iy⟩ := ta_.has ca; obtain ⟨fz, iz⟩ := tb_.has cb
   refine F52.law _ _ _ _ (by omega) (by omega) (by omega) ?_
   have ej : featJoin x.f y.f z.f = joinOf x.f y.f z.f := by unfold featJoin; rw [if_pos (by rw [fx, fy, fz, ix, iy, iz]; simp)]
   rw [ej]
   obtain ⟨w1, w2, w3⟩ := joinW_len fx fy fz
   generalize (joinOf x.f y.f z.f).1 = rf at *
   generalize (joinOf x.f y.f z.f).2 = W at *
   refine ⟨fun xs k => ∃ v : Nat, k = v ∧ v ≤ W.length ∧ xs = joinCs o a b ((ids3 o a b).take u) ++ clashAtL i (W.take v), fun _ k => (W.length - k).toNat, ⟨0, rfl, Nat.zero_le _, by simp [clashAtL]⟩, ?_⟩
   rintro _ _ ⟨v, rfl, hv, rfl⟩
   have hwl : (clashAtL i (W.take v)).length ≤ v := by unfold clashAtL; simp; omega
   by_cases g : v < W.length
   ·rw [if_pos (by simpa using g)]
    refine ⟨by omega, by simp only [List.length_append, List.length_cons, List.length_nil]; omega, by unfold I64; omega, ⟨v + 1, by omega, by omega, ?_⟩, by dsimp only; omega⟩
    rw [take_nth _ g]; unfold clashAtL; rw [List.map_append, List.append_assoc]; rfl
   ·rw [if_neg (by simpa using g)]
    have : v = W.length := by omega
    subst this
    rw [List.take_length]
    exact ⟨by rw [ec, e1], rfl, rfl, by rw [e1]⟩
  ·rintro _ _ _ c1 c2 c3 c4 c5 ⟨rfl, rfl, rfl, hc⟩
   rw [← hc] at ef hsm
   refine ⟨fun fs => fs = joinFs o a b ((ids3 o a b).take (u + 1)), ?_, ?_⟩
   ·rw [ef]
    cases c1 with
    | true => rw [if_pos rfl]; exact F36.law _ _ (Nat.le_trans hsm (by decide)) ⟨by simp only [List.length_cons, List.length_nil]; omega, rfl⟩
    | false => rw [if_neg (by decide)]; simp
   ·rintro _ rfl
    exact ⟨by unfold I64; omega, ⟨u + 1, by omega, by omega, rfl, rfl, rfl⟩, by dsimp only; omega⟩
 rw [if_neg (by simpa using h)]
 have : u = (ids3 o a b).length := by omega
 subst this
 rw [List.take_length]
 have hs := joinFs_small ko ka kb (ids3 o a b)
 refine F74.law _ _ (by omega) ?_
 cases kj : sheetOk (joinFs o a b (ids3 o a b)) with
 | true => rw [if_neg (by decide)]; rw [kj, if_pos rfl] at hq; exact hq
 | false => rw [if_pos (by decide)]; rw [kj, if_neg (by decide)] at hq; exact hq
theorem F121.law (a b : List Feat) (Q : List Str → Prop) (ha : a.length ≤ 1000) (hb : b.length ≤ 1000) (hs : SS (ids a)) (hq : Q (uniq (ids a ++ ids b))) : F121.E a b Q := by
 unfold F121.E
 refine ⟨fun s i => ∃ u : Nat, i = u ∧ u ≤ b.length ∧ SS (ids s) ∧ (∀ x, x ∈ ids s ↔ x ∈ ids a ∨ x ∈ ids (b.take u)) ∧ s.length ≤ a.length + u, fun _ i => (b.length - i).toNat, ⟨0, rfl, Nat.zero_le _, hs, by simp [ids], by omega⟩, ?_⟩
 rintro s _ ⟨u, rfl, hu, h1, h2, h3⟩
 by_cases h : u < b.length
 ·rw [if_pos (by simpa using h)]
  refine ⟨by omega, F119.law _ _ _ (by omega) h1 fun r r1 r2 r3 _ => ⟨by omega, ⟨u + 1, by omega, by omega, r1, fun x => ?_, by omega⟩, by dsimp only; omega⟩⟩
  rw [r2, h2, ids_take h, List.mem_append, List.mem_singleton]
  constructor
  ·rintro ((hx | hx) | hx)
   ·exact .inl hx
   ·exact .inr (.inl hx)
   ·exact .inr (.inr hx)
  ·rintro (hx | hx | hx)
   ·exact .inl (.inl hx)
   ·exact .inl (.inr hx)
   ·exact .inr hx
 ·rw [if_neg (by simpa using h)]
  have : u = b.length := by omega
  subst this
  rw [List.take_length] at h2
  have e : ids s = uniq (ids a ++ ids b) := SS.ext h1 (uniq_ss _) fun x => by rw [h2, uniq_mem, List.mem_append]
  rw [← e] at hq
  refine ⟨fun xs i => ∃ v : Nat, i = v ∧ v ≤ s.length ∧ xs = ids (s.take v), fun _ i => (s.length - i).toNat, ⟨0, rfl, Nat.zero_le _, rfl⟩, ?_⟩
  rintro _ _ ⟨v, rfl, hv, rfl⟩
  have hil : (ids (s.take v)).length ≤ v := by unfold ids; simp; omega
  by_cases g : v < s.length
  ·rw [if_pos (by simpa using g)]
   refine ⟨by omega, by simp only [List.length_cons, List.length_nil]; omega, by omega, ⟨v + 1, by omega, by omega, ?_⟩, by dsimp only; omega⟩
   rw [ids_take g]
  ·rw [if_neg (by simpa using g)]
   have : v = s.length := by omega
   subst this
   rw [List.take_length]; exact hq
theorem F122.law (o a b : List Feat) (Q : List Str → Prop) (ho : o.length ≤ 100) (ha : a.length ≤ 100) (hb : b.length ≤ 100) (hs : SS (ids o)) (hq : Q (ids3 o a b)) : F122.E o a b Q := by
 unfold F122.E
 refine ⟨fun s i => ∃ u : Nat, i = u ∧ u ≤ a.length ∧ SS (ids s) ∧ (∀ x, x ∈ ids s ↔ x ∈ ids o ∨ x ∈ ids (a.take u)) ∧ s.length ≤ o.length + u, fun _ i => (a.length - i).toNat, ⟨0, rfl, Nat.zero_le _, hs, by simp [ids], by omega⟩, ?_⟩
 rintro s _ ⟨u, rfl, hu, h1, h2, h3⟩
 by_cases h : u < a.length
 ·rw [if_pos (by simpa using h)]
  refine ⟨by omega, F119.law _ _ _ (by omega) h1 fun r r1 r2 r3 _ => ⟨by omega, ⟨u + 1, by omega, by omega, r1, fun x => ?_, by omega⟩, by dsimp only; omega⟩⟩
  rw [r2, h2, ids_take h, List.mem_append, List.mem_singleton]
  constructor
  ·rintro ((hx | hx) | hx)
   ·exact .inl hx
   ·exact .inr (.inl hx)
   ·exact .inr (.inr hx)
  ·rintro (hx | hx | hx)
   ·exact .inl (.inl hx)
   ·exact .inl (.inr hx)
   ·exact .inr hx
 ·rw [if_neg (by simpa using h)]
  have : u = a.length := by omega
  subst this
  rw [List.take_length] at h2
  refine F121.law _ _ _ (by omega) (by omega) h1 ?_
  have e : uniq (ids s ++ ids b) = ids3 o a b := SS.ext (uniq_ss _) (uniq_ss _) fun x => by unfold ids3; rw [uniq_mem, uniq_mem, List.mem_append, h2, List.mem_append, List.mem_append]
  rw [e]; exact hq
theorem F99.law (s : List Feat) (id : Str) (Q : Feat → Bool → Prop) (hb : bulk s ≤ 1048576) (hq : Q (sideOf s id).1 (sideOf s id).2) : F99.E s id Q := by
 unfold F99.E
 have hl := bulk_len s
 refine F98.law _ _ _ ?_
 have h1 := findN_le s.length fun j => (nth s (j : Int)).Id == id
 unfold sideOf at hq
 by_cases h : findN s.length (fun j => (nth s (j : Int)).Id == id) < 0
 ·rw [if_pos h] at hq; rw [if_pos (by simpa using h)]; exact hq
 ·rw [if_neg h] at hq; rw [if_neg (by simpa using h)]
  exact ⟨by omega, F80.law _ _ (by have := bulk_mem (nth_memi s (by omega) h1.2); omega) hq⟩
theorem F100.law (a b : List Tag) (Q : Bool → Prop) (hq : Q (decide (a = b))) : F100.E a b Q := by
 unfold F100.E
 exact eqS_shape eqTag eqTag_is a b Q hq
theorem F91.law (a b : List Pt) (Q : Bool → Prop) (hq : Q (decide (a = b))) : F91.E a b Q := by
 unfold F91.E
 exact eqS_shape eqPt eqPt_is a b Q hq
theorem F39.law (a b : Shape) (Q : Bool → Prop) (hq : Q (decide (a = b))) : F39.E a b Q := by
 unfold F39.E
 by_cases h : a.Kind = b.Kind
 ·rw [if_pos (by rw [beq_iff_eq]; exact h)]
  refine F91.law _ _ _ ?_
  have : decide (a.Pts = b.Pts) = decide (a = b) := decide_eq_decide.2 (by rw [Shape.ext_iff']; exact ⟨fun e => ⟨h, e⟩, fun e => e.2⟩)
  rw [this]; exact hq
 ·rw [if_neg (by rw [beq_iff_eq]; exact h)]
  rw [decide_eq_false (by rw [Shape.ext_iff']; exact fun e => h e.1)] at hq; exact hq
theorem F57.law (a b : Feat) (Q : Bool → Prop) (hq : Q (decide (a = b))) : F57.E a b Q := by
 unfold F57.E
 by_cases h : a.Id = b.Id
 ·rw [if_pos (by rw [beq_iff_eq]; exact h)]
  refine F39.law _ _ _ ?_
  by_cases h2 : a.Shape = b.Shape
  ·rw [decide_eq_true h2, if_pos rfl]
   refine F100.law _ _ _ ?_
   have : decide (a.Tags = b.Tags) = decide (a = b) := decide_eq_decide.2 (by rw [Feat.ext_iff']; exact ⟨fun e => ⟨h, h2, e⟩, fun e => e.2.2⟩)
   rw [this]; exact hq
  ·rw [decide_eq_false h2, if_neg (by decide)]
   rw [decide_eq_false (by rw [Feat.ext_iff']; exact fun e => h2 e.2.1)] at hq; exact hq
 ·rw [if_neg (by rw [beq_iff_eq]; exact h)]
  rw [decide_eq_false (by rw [Feat.ext_iff']; exact fun e => h e.1)] at hq; exact hq
theorem F115.law (a b : List Pt) (Q : Bool → Prop) (hq : Q (few a b)) : F115.E a b Q := by
 unfold F115.E
 unfold few at hq
 by_cases h : a.length ≤ 12
 ·rw [if_pos (by simp; omega)]
  rw [decide_eq_true h, Bool.true_and] at hq
  have : decide ((b.length : Int) ≤ 12) = decide (b.length ≤ 12) := decide_eq_decide.2 (by omega)
  rw [this]; exact hq
 ·rw [if_neg (by simp; omega)]
  rw [decide_eq_false h, Bool.false_and] at hq; exact hq
theorem F116.m_is (a b : Int) : F116.m a b = max a b := by
 unfold F116.m
 by_cases h : a > b
 ·simp [h]; omega
 ·simp [h]; omega
theorem F92.law (a b : List Pt) (Q : Int → Prop) (ha : a.length ≤ 1048576) (hb : b.length ≤ 1048576) (hq : Q (lcs a b : Nat)) : F92.E a b Q := by
 unfold F92.E
 have hn : ((b.length : Int) + 1).toNat = b.length + 1 := by omega
 rw [hn]
 refine ⟨fun _ => by unfold I64; omega, by omega, fun _ _ => by unfold I64; omega,
  fun xs i => ∃ k : Nat, i = (k : Int) - 1 ∧ k ≤ a.length ∧ RowOk a b k 0 xs, fun _ i => (i + 1).toNat, ⟨a.length, rfl, Nat.le_refl _, by simp, fun m _ hm => ?_⟩, ?_⟩
 ·rw [nth_rep _ _ _ (by omega), List.drop_length, lcs_nil]; rfl
 rintro xs _ ⟨k, rfl, hk, hr⟩
 by_cases hk0 : (k : Int) - 1 ≥ 0
 ·rw [if_pos (by simpa using hk0)]
  obtain ⟨i, rfl⟩ : ∃ i, k = i + 1 := ⟨k - 1, by omega⟩
  have ei : ((i + 1 : Nat) : Int) - 1 = (i : Int) := by omega
  rw [ei]
  refine ⟨fun _ => by unfold I64; omega, by omega, fun _ => by unfold I64; omega,
   fun ys j => ∃ m : Nat, j = (m : Int) - 1 ∧ m ≤ b.length ∧ RowOk a b i m ys, fun _ j => (j + 1).toNat, ⟨b.length, rfl, Nat.le_refl _, by simp, fun m hm1 hm2 => ?_⟩, ?_⟩
  ·have : m = b.length := by omega
   subst this
   rw [nth_rep _ _ _ (by omega), List.drop_length, lcs_nil2]; rfl
  rintro ys _ ⟨m, rfl, hm, hs⟩
  by_cases hm0 : (m : Int) - 1 ≥ 0
  ·rw [if_pos (by simpa using hm0)]
   obtain ⟨j, rfl⟩ : ∃ j, m = j + 1 := ⟨m - 1, by omega⟩
   have ej : ((j + 1 : Nat) : Int) - 1 = (j : Int) := by omega
   have ej1 : (j : Int) + 1 = ((j + 1 : Nat) : Int) := by omega
   rw [ej, ej1, eqPt_is]
   have hl := lcs_drop a b (i := i) (j := j) (by omega) (by omega)
   have n1 := hr.2 (j + 1) (Nat.zero_le _) (by omega)
   have n2 := hr.2 j (Nat.zero_le _) (by omega)
   have n3 := hs.2 (j + 1) (Nat.le_refl _) (by omega)
   have b1 := lcs_le2 (a.drop (i + 1)) (b.drop (j + 1))
   rw [List.length_drop] at b1
   have hset : ∀ v : Int, v = (lcs (a.drop i) (b.drop j) : Nat) → RowOk a b i j (ys.set (j : Int).toNat v) := fun v hv => by
    refine ⟨by rw [List.length_set]; exact hs.1, fun u hu1 hu2 => ?_⟩
    rw [Int.toNat_natCast, nth_set _ (by have := hs.1; omega)]
    by_cases e : u = j
    ·subst e; rw [if_pos rfl, hv]
    ·rw [if_neg e]; exact hs.2 u (by omega) hu2
   have l1 := hr.1
   have l2 := hs.1
   refine ⟨by omega, by omega, ?_⟩
   by_cases he : nth a (i : Int) = nth b (j : Int)
   ·rw [if_pos (by simpa using he)]
    rw [if_pos he] at hl
    rw [n1]
    exact ⟨by unfold I64; omega, by omega, by unfold I64; omega, by omega, by unfold I64; omega, ⟨j, by omega, by omega, hset _ (by omega)⟩, by dsimp only; omega⟩
   ·rw [if_neg (by simpa using he)]
    rw [if_neg he] at hl
    rw [n2, n3, F116.m_is]
    exact ⟨by omega, by unfold I64; omega, by omega, by omega, by unfold I64; omega, ⟨j, by omega, by omega, hset _ (by omega)⟩, by dsimp only; omega⟩
  ·rw [if_neg (by simpa using hm0)]
   have : m = 0 := by omega
   subst this
   exact ⟨by unfold I64; omega, ⟨i, by omega, by omega, hs⟩, by dsimp only; omega⟩
 ·rw [if_neg (by simpa using hk0)]
  have : k = 0 := by omega
  subst this
  have h1 := hr.1
  have h2 := hr.2 0 (Nat.le_refl _) (Nat.zero_le _)
  refine ⟨by omega, ?_⟩
  rw [show nth xs 0 = nth xs ((0 : Nat) : Int) from rfl, h2]
  exact hq
theorem cut_end (a : List Pt) (k : Nat) : (a.drop k).take (a.length - k) = a.drop k := List.take_of_length_le (by rw [List.length_drop]; omega)
theorem F53.law (a b : List Pt) (Q : List Pair → Prop) (hq : Q (spairs a b)) : F53.E a b Q := by
 unfold F53.E
 unfold spairs at hq
 refine ⟨fun xs i j => ∃ u v : Nat, i = u ∧ j = v ∧ u ≤ a.length ∧ v ≤ b.length ∧ (few a b = true → xs ++ (pairs u v (a.drop u) (b.drop v)).map mkP = (pairs 0 0 a b).map mkP) ∧ (few a b = false → xs = []), fun _ i j => ((a.length - i) + (b.length - j)).toNat, ⟨0, 0, rfl, rfl, Nat.zero_le _, Nat.zero_le _, fun _ => rfl, fun _ => rfl⟩, ?_⟩
 rintro xs _ _ ⟨u, v, rfl, rfl, hu, hv, hx, hy⟩
 have hend : (a.length ≤ u ∨ b.length ≤ v) → Q xs := fun h => by
  by_cases hf : few a b = true
  ·rw [if_pos hf] at hq
   have hx := hx hf
   rcases h with h | h
   ·rw [List.drop_of_length_le h, pairs_nil, List.map_nil, List.append_nil] at hx
    rw [hx]; exact hq
   ·rw [List.drop_of_length_le h, pairs_nil2, List.map_nil, List.append_nil] at hx
    rw [hx]; exact hq
  ·rw [if_neg hf] at hq
   rw [hy (by simpa using hf)]; exact hq
 by_cases hu0 : (u : Int) < (a.length : Int)
 ·rw [if_pos (by simpa using hu0)]
  by_cases hv0 : (v : Int) < (b.length : Int)
  ·rw [if_pos (by simpa using hv0)]
   refine F115.law _ _ _ ?_
   by_cases hf : few a b = true
   ·rw [if_pos hf]
    have hx := hx hf
    have hff := few_iff.1 hf
    have hu1 : u < a.length := by omega
    have hv1 : v < b.length := by omega
    rw [pairs_drop a b hu1 hv1] at hx
    have eu : (u : Int) + 1 = ((u + 1 : Nat) : Int) := by omega
    have ev : (v : Int) + 1 = ((v + 1 : Nat) : Int) := by omega
    rw [eqPt_is, eu, ev]
    refine ⟨by omega, by omega, ?_⟩
    by_cases he : nth a (u : Int) = nth b (v : Int)
    ·rw [if_pos (by simpa using he)]
     rw [if_pos he, List.map_cons] at hx
     have hl := congrArg List.length hx
     rw [List.length_map, pairs_len, List.length_append] at hl
     have := lcs_le1 a b
     exact ⟨by simp only [List.length_singleton]; omega, by omega, by omega, ⟨u + 1, v + 1, rfl, rfl, by omega, by omega, fun _ => by rw [List.append_assoc]; exact hx, fun e => absurd hf (by rw [e]; exact Bool.false_ne_true)⟩, by dsimp only; omega⟩
    ·rw [if_neg (by simpa using he)]
     rw [if_neg he] at hx
     simp only [Int.toNat_natCast, cut_end]
     refine ⟨by omega, by omega, by omega, _, F92.law _ _ _ (by rw [List.length_drop]; omega) (by rw [List.length_drop]; omega) rfl, by omega, by omega, by omega, _, F92.law _ _ _ (by rw [List.length_drop]; omega) (by rw [List.length_drop]; omega) rfl, ?_⟩
     by_cases hc : lcs (a.drop u) (b.drop (v + 1)) ≤ lcs (a.drop (u + 1)) (b.drop v)
     ·rw [if_pos (by simpa using hc)]
      rw [if_pos hc] at hx
      exact ⟨by omega, ⟨u + 1, v, rfl, rfl, by omega, by omega, fun _ => hx, fun e => absurd hf (by rw [e]; exact Bool.false_ne_true)⟩, by omega⟩
     ·rw [if_neg (by simpa using hc)]
      rw [if_neg hc] at hx
      exact ⟨by omega, ⟨u, v + 1, rfl, rfl, by omega, by omega, fun _ => hx, fun e => absurd hf (by rw [e]; exact Bool.false_ne_true)⟩, by omega⟩
   ·rw [if_neg hf]
    rw [if_neg hf] at hq
    rw [hy (by simpa using hf)]; exact hq
  ·rw [if_neg (by simpa using hv0)]; exact hend (.inr (by omega))
 ·rw [if_neg (by simpa using hu0)]; exact hend (.inl (by omega))
theorem F128.law (l : List Pair) (k : Int) (Q : Int → Prop) (hq : Q (mateI l k)) : F128.E l k Q := by
 unfold F128.E
 refine ⟨fun i => ∃ u : Nat, i = u ∧ u ≤ l.length ∧ mateI (l.drop u) k = mateI l k, fun i => (l.length - i).toNat, ⟨0, rfl, Nat.zero_le _, rfl⟩, ?_⟩
 rintro _ ⟨u, rfl, hu, he⟩
 by_cases h : (u : Int) < (l.length : Int)
 ·rw [if_pos (by simpa using h)]
  rw [drop_nth l (by omega), mateI_cons] at he
  refine ⟨by omega, ?_⟩
  by_cases hc : ((nth l (u : Int)).A == k) = true
  ·rw [if_pos hc] at he ⊢
   refine ⟨by omega, ?_⟩
   rw [he]; exact hq
  ·rw [if_neg hc] at he ⊢
   exact ⟨by omega, ⟨u + 1, by omega, by omega, he⟩, by dsimp only; omega⟩
 ·rw [if_neg (by simpa using h)]
  rw [List.drop_of_length_le (by omega : l.length ≤ u), mateI_nil] at he
  rw [he]; exact hq
theorem F93.law (o a b : List Pt) (Q : List Pt → Bool → Prop) (hs : ∀ r, pickL o a b = some r → Q r true) (hn : pickL o a b = none → Q [] false) : F93.E o a b Q := by
 unfold F93.E
 unfold pickL at hs hn
 refine F91.law _ _ _ ?_
 by_cases h1 : a = o
 ·rw [if_pos (by simpa using h1)]
  rw [if_pos h1] at hs; exact hs _ rfl
 rw [if_neg (by simpa using h1)]
 rw [if_neg h1] at hs hn
 refine F91.law _ _ _ ?_
 by_cases h2 : b = o
 ·rw [if_pos (by simpa using h2)]
  rw [if_pos h2] at hs; exact hs _ rfl
 rw [if_neg (by simpa using h2)]
 rw [if_neg h2] at hs hn
 refine F91.law _ _ _ ?_
 by_cases h3 : a = b
 ·rw [if_pos (by simpa using h3)]
  rw [if_pos h3] at hs; exact hs _ rfl
 ·rw [if_neg (by simpa using h3)]
  rw [if_neg h3] at hn; exact hn rfl
theorem F70.law (o a b : List Pt) (Q : List Pt → Bool → Prop) (h1 : few o a = true) (h2 : few o b = true) (hs : ∀ r, smerge o a b = some r → Q r true) (hn : smerge o a b = none → Q [] false) : F70.E o a b Q := by
 unfold F70.E
 refine F53.law _ _ _ (F53.law _ _ _ ?_)
 have f1 := few_iff.1 h1; have f2 := few_iff.1 h2
 refine ⟨fun xs i j k t => (∃ i' j' k' t' : Nat, i = i' ∧ j = j' ∧ k = k' ∧ t = t' ∧ MInv o a b xs i' j' k' t') ∨ (t = (o.length : Int) + 1 ∧ smerge o a b = some xs), fun _ _ _ _ t => (o.length + 1 - t).toNat, .inl ⟨0, 0, 0, 0, rfl, rfl, rfl, rfl, MInv.zero h1 h2⟩, ?_⟩
 rintro xs _ _ _ _ (⟨i, j, k, t, rfl, rfl, rfl, rfl, h⟩ | ⟨rfl, h⟩)
 ·have ht := h.ht; have hi := h.hi; have hj := h.hj; have hk := h.hk; have hl := h.len
  rw [if_pos (by simp; omega)]
  simp only [Int.toNat_natCast]
  by_cases ht0 : (t : Int) < (o.length : Int)
  ·rw [if_pos (by simpa using ht0)]
   refine F128.law _ _ _ (F128.law _ _ _ ?_)
   rw [mate_part h1, mate_part h2]
   cases hx : part o a t with
   | none =>
    rw [if_pos (by decide)]
    exact ⟨by omega, .inl ⟨i, j, k, t + 1, rfl, rfl, rfl, rfl, h.skip (by omega) (.inl hx)⟩, by omega⟩
   | some x =>
    rw [if_neg (by simp)]
    cases hy : part o b t with
    | none =>
     rw [if_pos (by decide)]
     exact ⟨by omega, .inl ⟨i, j, k, t + 1, rfl, rfl, rfl, rfl, h.skip (by omega) (.inr hy)⟩, by omega⟩
    | some y =>
     rw [if_neg (by simp)]
     dsimp only
     obtain ⟨g1, g2, g3, g4⟩ := h.from hx hy
     refine ⟨by omega, by omega, by omega, F93.law _ _ _ _ (fun p hp => ?_) (fun hp => ?_)⟩
     ·rw [if_neg (by simp)]
      have hm := (pickL_mem (o := seg o i t) (a := seg a j x) (b := seg b k y) hp).2.2.2
      rw [seg_len a _ _ (by omega), seg_len b _ _ (by omega)] at hm
      exact ⟨by omega, by omega, by simp only [List.length_append, List.length_singleton]; omega, by omega, fun _ _ _ => by unfold I64; omega, fun _ _ _ => by unfold I64; omega, by omega, .inl ⟨t + 1, x + 1, y + 1, t + 1, rfl, rfl, rfl, rfl, h.step (by omega) hx hy hp⟩, by omega⟩
     ·rw [if_pos (by simp)]
      exact hn (h.stop (by omega) hx hy hp)
  ·rw [if_neg (by simpa using ht0)]
   have : t = o.length := by omega
   subst this
   refine ⟨by omega, by omega, by omega, ?_⟩
   have hlast := h.last
   have e1 : (o.drop i).take (o.length - i) = o.drop i := seg_end o i
   have e2 : (a.drop j).take (a.length - j) = a.drop j := seg_end a j
   have e3 : (b.drop k).take (b.length - k) = b.drop k := seg_end b k
   rw [e1, e2, e3]
   refine F93.law _ _ _ _ (fun p hp => ?_) (fun hp => ?_)
   ·rw [if_neg (by simp)]
    have hm := (pickL_mem hp).2.2.2
    rw [List.length_drop, List.length_drop] at hm
    rw [hp, Option.map_some] at hlast
    exact ⟨by omega, fun _ _ _ => by unfold I64; omega, fun _ _ _ => by unfold I64; omega, fun _ _ _ => by unfold I64; omega, fun _ _ _ => by unfold I64; omega, .inr ⟨rfl, hlast.symm⟩, by omega⟩
   ·rw [if_pos (by simp)]
    rw [hp] at hlast
    exact hn hlast.symm
 ·rw [if_neg (by simp; omega)]
  exact hs _ h
theorem F71.law (o a b : Shape) (Q : Shape → Bool → Prop) (h1 : o.Pts.length ≤ 6) (h2 : a.Pts.length ≤ 6) (h3 : b.Pts.length ≤ 6) (hq : Q (shapeF o a b).1 (shapeF o a b).2) : F71.E o a b Q := by
 unfold F71.E
 unfold shapeF three at hq
 refine F39.law _ _ _ ?_
 by_cases e1 : a = o
 ·rw [decide_eq_true e1, if_pos rfl]; rw [if_pos e1, if_pos rfl] at hq; exact hq
 rw [decide_eq_false e1, if_neg (by decide)]; rw [if_neg e1] at hq
 refine F39.law _ _ _ ?_
 by_cases e2 : b = o
 ·rw [decide_eq_true e2, if_pos rfl]; rw [if_pos e2, if_pos rfl] at hq; exact hq
 rw [decide_eq_false e2, if_neg (by decide)]; rw [if_neg e2] at hq
 refine F39.law _ _ _ ?_
 by_cases e3 : a = b
 ·rw [decide_eq_true e3, if_pos rfl]; rw [if_pos e3, if_pos rfl] at hq; exact hq
 rw [decide_eq_false e3, if_neg (by decide)]; rw [if_neg e3, if_neg (by simp)] at hq
 by_cases k1 : a.Kind = b.Kind
 case neg => rw [if_pos (by rw [bne_iff_ne]; exact k1)]; rw [if_neg fun h => k1 (h.1.trans h.2.symm)] at hq; exact hq
 rw [if_neg (by rw [k1]; simp)]
 by_cases k2 : a.Kind = o.Kind
 case neg => rw [if_pos (by rw [bne_iff_ne]; exact k2)]; rw [if_neg fun h => k2 h.1] at hq; exact hq
 rw [if_neg (by rw [k2]; simp)]
 rw [if_pos ⟨k2, k1.symm.trans k2⟩] at hq
 refine F70.law _ _ _ _ (few_iff.2 (by omega)) (few_iff.2 (by omega)) (fun r hr => ?_) (fun hr => ?_)
 ·rw [if_neg (by decide)]
  rw [hr] at hq
  dsimp only at hq
  refine F63.law _ _ ?_
  cases k3 : shapeOk ⟨a.Kind, r⟩ with
  | true => rw [if_neg (by decide)]; rw [if_pos k3] at hq; exact hq
  | false => rw [if_pos (by decide)]; rw [if_neg (by rw [k3]; decide)] at hq; exact hq
 ·rw [if_pos (by decide)]; rw [hr] at hq; exact hq
theorem F117.law (t : List Tag) (key : Str) (Q : Str → Bool → Prop) (hq : Q (valT t key).val (valT t key).has) : F117.E t key Q := by
 unfold F117.E
 unfold valT at hq
 obtain ⟨I, mu, h1, h2⟩ := loop_find t.length (fun j => (nth t (j : Int)).Key == key) (Q := fun r => if r < 0 then Q [] false else Q (nth t r).Val true)
  (B := fun I mu i => ((0 : Int) ≤ i ∧ i < (t.length : Int)) ∧ (if ((nth t i).Key) == key then ((0 : Int) ≤ i ∧ i < (t.length : Int)) ∧ Q ((nth t i).Val) true else (-9223372036854775808 ≤ i) ∧ I (i + 1) ∧ mu (i + 1) < mu i))
  (by
   try dsimp only
   split
   ·rename_i h; rw [if_pos h] at hq; exact hq
   ·rename_i h; rw [if_neg h] at hq; exact hq)
  (fun I mu k hk h1 h2 => ⟨by omega, by
   cases h : (nth t (k : Int)).Key == key with
   | true => rw [if_pos rfl]; have := h1 h; rw [if_neg (by omega)] at this; exact ⟨by omega, this⟩
   | false => rw [if_neg (by decide)]; obtain ⟨i1, i2⟩ := h2 h; exact ⟨by omega, i1, i2⟩⟩)
 refine ⟨I, mu, h1, fun i hi => ?_⟩
 have h3 := h2 i hi
 by_cases h : i < (t.length : Int)
 ·rw [if_pos (decide_eq_true h)] at h3 ⊢; exact h3
 ·rw [if_neg (by simpa using h)] at h3 ⊢
  rw [if_pos (by decide)] at h3; exact h3
theorem value.ext_iff' (a b : value) : a = b ↔ a.has = b.has ∧ a.val = b.val := by cases a; cases b; simp
def tagE (o a b : value) (Q : Str → Bool → Bool → Prop) : Prop :=
 if a = o then Q b.val b.has true else if b = o then Q a.val a.has true else if a = b then Q a.val a.has true else if a.has then Q a.val true false else Q b.val true false
theorem tagE_of {o a b : value} {Q : Str → Bool → Bool → Prop} (ha : a.has = false → a = ⟨false, []⟩) (hb : b.has = false → b = ⟨false, []⟩) (hq : Q (tagF o a b).1.val (tagF o a b).1.has (tagF o a b).2) : tagE o a b Q := by
 unfold tagE
 unfold tagF three at hq
 by_cases e1 : a = o
 ·rw [if_pos e1]; rw [if_pos e1, if_pos rfl] at hq; exact hq
 ·rw [if_neg e1] at hq ⊢
  by_cases e2 : b = o
  ·rw [if_pos e2]; rw [if_pos e2, if_pos rfl] at hq; exact hq
  ·rw [if_neg e2] at hq ⊢
   by_cases e3 : a = b
   ·rw [if_pos e3]; rw [if_pos e3, if_pos rfl] at hq; exact hq
   ·rw [if_neg e3] at hq ⊢
    rw [if_neg (by simp)] at hq
    cases h : a.has with
    | true => rw [if_pos rfl]; rw [h, if_pos rfl, h] at hq; exact hq
    | false =>
     rw [if_neg (by decide)]; rw [h, if_neg (by decide)] at hq
     cases g : b.has with
     | true => rw [g] at hq; exact hq
     | false => exact absurd ((ha h).trans (hb g).symm) e3
theorem beq_dec {α : Type} [DecidableEq α] [BEq α] [LawfulBEq α] {x y : α} : ((x == y) = true) = (x = y) := by simp
theorem F118.law (o a b : List Tag) (key : Str) (Q : Str → Bool → Bool → Prop) (hq : Q (tagK o a b key).1.val (tagK o a b key).1.has (tagK o a b key).2) : F118.E o a b key Q := by
 unfold F118.E
 refine F117.law _ _ _ (F117.law _ _ _ (F117.law _ _ _ ?_))
 have h := tagE_of (valT_no a key) (valT_no b key) hq
 generalize valT o key = vo at *
 generalize valT a key = va at *
 generalize valT b key = vb at *
 unfold tagE at h
 simp only [value.ext_iff'] at h
 by_cases e1 : va.val = vo.val <;> by_cases e2 : va.has = vo.has <;> by_cases e3 : vb.val = vo.val <;> by_cases e4 : vb.has = vo.has <;> by_cases e5 : va.val = vb.val <;> by_cases e6 : va.has = vb.has <;>
  simp only [beq_dec, e1, e2, e3, e4, e5, e6, if_true, if_false, and_self, and_true, and_false, false_and, true_and] at h ⊢ <;> first | exact h | simp_all
theorem F94.law (o a b : List Tag) (Q : List Str → Prop) (h1 : o.length ≤ 100) (h2 : a.length ≤ 100) (h3 : b.length ≤ 100) (hq : Q (uniq (keysT (o ++ a ++ b)))) : F94.E o a b Q := by
 unfold F94.E
 rw [List.nil_append]
 refine ⟨by simp only [List.length_nil]; omega, by omega, by simp only [List.length_append]; omega, ?_⟩
 have hl : (o ++ a ++ b).length ≤ 300 := by simp only [List.length_append]; omega
 generalize o ++ a ++ b = l at *
 refine ⟨fun s i => ∃ u : Nat, i = u ∧ u ≤ l.length ∧ SS (keysT s) ∧ (∀ x, x ∈ keysT s ↔ x ∈ keysT (l.take u)) ∧ s.length ≤ u, fun _ i => (l.length - i).toNat, ⟨0, rfl, Nat.zero_le _, by simp [keysT, SS], by simp [keysT], by simp⟩, ?_⟩
 rintro s _ ⟨u, rfl, hu, g1, g2, g3⟩
 by_cases h : u < l.length
 ·rw [if_pos (by simpa using h)]
  refine ⟨by omega, F114.law _ _ _ _ (by omega) g1 fun r r1 r2 r3 _ => ⟨by omega, ⟨u + 1, by omega, by omega, r1, fun x => ?_, by omega⟩, by dsimp only; omega⟩⟩
  rw [r2, g2, keys_take h, List.mem_append, List.mem_singleton]
 ·rw [if_neg (by simpa using h)]
  have : u = l.length := by omega
  subst this
  rw [List.take_length] at g2
  have e : keysT s = uniq (keysT l) := SS.ext g1 (uniq_ss _) fun x => by rw [g2, uniq_mem]
  rw [← e] at hq
  refine ⟨fun xs i => ∃ v : Nat, i = v ∧ v ≤ s.length ∧ xs = keysT (s.take v), fun _ i => (s.length - i).toNat, ⟨0, rfl, Nat.zero_le _, rfl⟩, ?_⟩
  rintro _ _ ⟨v, rfl, hv, rfl⟩
  have hil : (keysT (s.take v)).length ≤ v := by unfold keysT; simp; omega
  by_cases g : v < s.length
  ·rw [if_pos (by simpa using g)]
   refine ⟨by omega, by simp only [List.length_cons, List.length_nil]; omega, by omega, ⟨v + 1, by omega, by omega, ?_⟩, by dsimp only; omega⟩
   rw [keys_take g]
  ·rw [if_neg (by simpa using g)]
   have : v = s.length := by omega
   subst this
   rw [List.take_length]; exact hq
theorem F95.law (o a b : Feat) (Q : Feat → List Str → Prop) (ko : featOk o = true) (ka : featOk a = true) (kb : featOk b = true) (hq : Q (joinOf o a b).1 (joinOf o a b).2) : F95.E o a b Q := by
 unfold F95.E
 have fo := feat_facts ko; have fa := feat_facts ka; have fb := feat_facts kb
 have so := fo.2.2.1; have sa := fa.2.2.1; have sb := fb.2.2.1
 refine F71.law _ _ _ _ so sa sb ?_
 refine ⟨fun xs => xs = (if (shapeF o.Shape a.Shape b.Shape).2 then [] else [shapeS]), ?_, ?_⟩
 ·cases c : (shapeF o.Shape a.Shape b.Shape).2 with
  | true => rw [if_neg (by decide), if_pos rfl]
  | false => rw [if_pos (by decide), if_neg (by decide)]; exact ⟨by decide, rfl⟩
 rintro _ rfl
 have hpts := shapeF_pts (o := o.Shape) sa sb
 unfold F79.E
 refine ⟨by simp only [List.length_nil]; omega, ?_⟩
 rw [List.nil_append]
 refine F94.law _ _ _ _ (by omega) (by omega) (by omega) ?_
 obtain ⟨ks1, ks2⟩ := allKeys_small ko ka kb
 have ek : uniq (keysT (o.Tags ++ a.Tags ++ b.Tags)) = allKeys o a b := rfl
 rw [ek]
 refine ⟨fun xs i ts => ∃ u : Nat, i = u ∧ u ≤ (allKeys o a b).length ∧ xs = (if (shapeF o.Shape a.Shape b.Shape).2 then [] else [shapeS]) ++ clashL o.Tags a.Tags b.Tags ((allKeys o a b).take u) ∧ ts = tagsL o.Tags a.Tags b.Tags ((allKeys o a b).take u), fun _ i _ => ((allKeys o a b).length - i).toNat, ⟨0, rfl, Nat.zero_le _, by simp [clashL], by simp [tagsL]⟩, ?_⟩
 rintro _ _ _ ⟨u, rfl, hu, rfl, rfl⟩
 have hpre : (if (shapeF o.Shape a.Shape b.Shape).2 then ([] : List Str) else [shapeS]).length ≤ 1 := by split <;> decide
 by_cases h : u < (allKeys o a b).length
 ·rw [if_pos (by simpa using h)]
  have hk6 := ks2 _ (nth_mem _ h)
  have hcl := clashL_len o.Tags a.Tags b.Tags ((allKeys o a b).take u)
  have htl := tagsL_len o.Tags a.Tags b.Tags ((allKeys o a b).take u)
  rw [List.length_take] at hcl htl
  refine ⟨by omega, F118.law _ _ _ _ _ ?_⟩
  have ec := clashL_snoc o.Tags a.Tags b.Tags ((allKeys o a b).take u) (nth (allKeys o a b) (u : Int))
  have et := tagsL_snoc o.Tags a.Tags b.Tags ((allKeys o a b).take u) (nth (allKeys o a b) (u : Int))
  rw [← take_nth _ h] at ec et
  refine ⟨fun xs => xs = (if (shapeF o.Shape a.Shape b.Shape).2 then [] else [shapeS]) ++ clashL o.Tags a.Tags b.Tags ((allKeys o a b).take (u + 1)), ?_, ?_⟩
  ·rw [ec]
   cases c : (tagK o.Tags a.Tags b.Tags (nth (allKeys o a b) (u : Int))).2 with
   | true => rw [if_neg (by decide), if_pos rfl, List.append_nil]
   | false =>
    rw [if_pos (by decide)]
    simp only [Bool.false_eq_true, if_false]
    exact ⟨by omega, by simp only [List.length_cons, List.length_nil]; omega, by simp only [List.length_append, List.length_cons, List.length_nil]; omega, by rw [List.append_assoc]; rfl⟩
  ·rintro _ rfl
   refine ⟨fun ts => ts = tagsL o.Tags a.Tags b.Tags ((allKeys o a b).take (u + 1)), ?_, ?_⟩
   ·rw [et]
    split
    ·exact ⟨by omega, by simp only [List.length_cons, List.length_nil]; omega, rfl⟩
    ·rw [List.append_nil]
   ·rintro _ rfl
    exact ⟨by unfold I64; omega, ⟨u + 1, by omega, by omega, rfl, rfl⟩, by dsimp only; omega⟩
 rw [if_neg (by simpa using h)]
 have : u = (allKeys o a b).length := by omega
 subst this
 rw [List.take_length]
 unfold joinOf at hq
 show F84.E (joinF o a b) _
 refine F84.law _ _ ?_
 cases kj : featOk (joinF o a b) with
 | true =>
  rw [if_neg (by decide)]
  rw [kj, if_pos rfl] at hq
  exact hq
 | false =>
  rw [if_pos (by decide)]
  rw [kj, if_neg (by decide)] at hq
  exact F80.law _ _ (by have := (feat_small ka).1; omega) hq
theorem th_same {x y : thing} (h : x.has = y.has) : decide (x.f = y.f) = decide (x = y) := decide_eq_decide.2 (by rw [thing.ext_iff']; exact ⟨fun g => ⟨h, g⟩, fun g => g.2⟩)
theorem th_diff {x y : thing} (h : ¬ x.has = y.has) : decide (x = y) = false := decide_eq_false fun e => h (by rw [e])
theorem three_snd {α : Type} [DecidableEq α] (o a b : α) : (three o a b).2 = (decide (a = o) || (decide (b = o) || decide (a = b))) := by
 unfold three
 by_cases h1 : a = o
 ·rw [if_pos h1, decide_eq_true h1]; rfl
 ·rw [if_neg h1, decide_eq_false h1]
  by_cases h2 : b = o
  ·rw [if_pos h2, decide_eq_true h2]; rfl
  ·rw [if_neg h2, decide_eq_false h2]
   by_cases h3 : a = b
   ·rw [if_pos h3, decide_eq_true h3]; rfl
   ·rw [if_neg h3, decide_eq_false h3]; rfl
theorem F123.law (o a b : List Feat) (id : Str) (Q : Feat → Bool → List Str → Prop) (ho : sheetOk o = true) (ha : sheetOk a = true) (hb : sheetOk b = true) (h1 : bulk o ≤ 1048576) (h2 : bulk a ≤ 1048576) (h3 : bulk b ≤ 1048576)
  (hq : Q (oneAt o a b id).1.f (oneAt o a b id).1.has (oneAt o a b id).2) : F123.E o a b id Q := by
 unfold F123.E
 refine F99.law _ _ _ h1 (F99.law _ _ _ h2 (F99.law _ _ _ h3 ?_))
 have to_ : ThOk _ _ := thOf_ok ho id
 have ta_ : ThOk _ _ := thOf_ok ha id
 have tb_ : ThOk _ _ := thOf_ok hb id
 have eo : oneAt o a b id = oneOf (thOf o id) (thOf a id) (thOf b id) := rfl
 rw [eo] at hq
 clear eo
 have e1 : (sideOf o id).1 = (thOf o id).f := rfl
 have e2 : (sideOf o id).2 = (thOf o id).has := rfl
 have e3 : (sideOf a id).1 = (thOf a id).f := rfl
 have e4 : (sideOf a id).2 = (thOf a id).has := rfl
 have e5 : (sideOf b id).1 = (thOf b id).f := rfl
 have e6 : (sideOf b id).2 = (thOf b id).has := rfl
 rw [e1, e2, e3, e4, e5, e6]
 clear e1 e2 e3 e4 e5 e6
 generalize thOf o id = x at *
 generalize thOf a id = y at *
 generalize thOf b id = z at *
 refine ⟨fun v => v = decide (y = x), ?_, ?_⟩
 ·by_cases g : y.has = x.has
  ·rw [if_pos (by simpa using g)]; exact F57.law _ _ _ (th_same g)
  ·rw [if_neg (by simpa using g)]; exact (th_diff g).symm
 rintro _ rfl
 by_cases c1 : y = x
 ·rw [decide_eq_true c1, if_pos rfl]
  have et : three x y z = (z, true) := by unfold three; rw [if_pos c1]
  rw [one_same (by rw [et]), et] at hq; exact hq
 rw [decide_eq_false c1, if_neg (by decide)]
 refine ⟨fun v => v = (decide (z = x) || decide (y = z)), ?_, ?_⟩
 ·have k2 : (if (y.has == z.has) = true then F57.E y.f z.f (fun r9 => r9 = decide (y = z)) else false = decide (y = z)) := by
   by_cases g : y.has = z.has
   ·rw [if_pos (by simpa using g)]; exact F57.law _ _ _ (th_same g)
   ·rw [if_neg (by simpa using g)]; exact (th_diff g).symm
  by_cases g : z.has = x.has
  ·rw [if_pos (by simpa using g)]
   refine F57.law _ _ _ ?_
   rw [th_same g]
   by_cases c2 : z = x
   ·rw [decide_eq_true c2, if_pos rfl]; rfl
   ·rw [decide_eq_false c2, if_neg (by decide), Bool.false_or]; exact k2
  ·rw [if_neg (by simpa using g), th_diff g, Bool.false_or]; exact k2
 rintro _ rfl
 have e3 := three_snd x y z
 rw [decide_eq_false c1, Bool.false_or] at e3
 cases c2 : (decide (z = x) || decide (y = z)) with
 | true =>
  rw [if_pos rfl]
  have et : three x y z = (y, true) := by
   rcases three_case x y z with ⟨g, _⟩ | ⟨_, _, g⟩ | ⟨_, _, _, g⟩ | ⟨_, g1, g2, _⟩
   ·exact absurd g c1
   ·exact g
   ·exact g
   ·rw [decide_eq_false g1, decide_eq_false g2] at c2; cases c2
  rw [one_same (by rw [et]), et] at hq; exact hq
 | false =>
  rw [if_neg (by decide)]
  rw [c2] at e3
  rw [one_else e3] at hq
  rcases Bool.eq_false_or_eq_true y.has with ca | ca
  case inr =>
   rw [if_pos (by rw [ca]; rfl)]
   rw [if_pos ca] at hq
   have hz : z.has = true := by
    cases g : z.has with
    | true => rfl
    | false =>
     rw [ta_.no ca, tb_.no g] at c2
     simp at c2
   rw [hz] at hq; exact hq
  rw [if_neg (by rw [ca]; decide)]
  rw [if_neg (by rw [ca]; decide)] at hq
  rcases Bool.eq_false_or_eq_true z.has with cb | cb
  case inr =>
   rw [if_pos (by rw [cb]; rfl)]
   rw [if_pos cb] at hq
   rw [ca] at hq; exact hq
  rw [if_neg (by rw [cb]; decide)]
  rw [if_neg (by rw [cb]; decide)] at hq
  rcases Bool.eq_false_or_eq_true x.has with co | co
  case inr =>
   rw [if_pos (by rw [co]; rfl)]
   rw [if_pos co] at hq
   rw [ca] at hq; exact hq
  rw [if_neg (by rw [co]; decide)]
  rw [if_neg (by rw [co]; decide)] at hq
  obtain ⟨fx, ix⟩ := to_.has co; obtain ⟨fy, iy⟩ := ta_.has ca; obtain ⟨fz, iz⟩ := tb_.has cb
  exact F95.law _ _ _ _ fx fy fz hq
theorem F102.law (o a b : List Feat) (Q : List Feat → List Clash → Bool → Prop) (ho : sheetOk o = true) (ha : sheetOk a = true) (hb : sheetOk b = true) (h1 : bulk o ≤ 1048576) (h2 : bulk a ≤ 1048576) (h3 : bulk b ≤ 1048576)
  (hq : Q (joinFs o a b (ids3 o a b)) (joinCs o a b (ids3 o a b)) (sheetOk (joinFs o a b (ids3 o a b)))) : F102.E o a b Q := by
 unfold F102.E
 have so := sheet_ss ho; have sa := sheet_ss ha; have sb := sheet_ss hb
 refine F122.law _ _ _ _ (by omega) (by omega) (by omega) so.1 ?_
 have hlen := ids3_len ho ha hb
 refine ⟨fun fs cs l i => ∃ u : Nat, i = u ∧ u ≤ (ids3 o a b).length ∧ l = ids3 o a b ∧ cs = joinCs o a b ((ids3 o a b).take u) ∧ fs = joinFs o a b ((ids3 o a b).take u), fun _ _ _ i => ((ids3 o a b).length - i).toNat, ⟨0, rfl, Nat.zero_le _, rfl, rfl, rfl⟩, ?_⟩
 rintro _ _ _ _ ⟨u, rfl, hu, rfl, rfl, rfl⟩
 by_cases h : u < (ids3 o a b).length
 ·rw [if_pos (by simpa using h)]
  have ec := joinCs_snoc o a b ((ids3 o a b).take u) (nth (ids3 o a b) (u : Int))
  have ef := joinFs_snoc o a b ((ids3 o a b).take u) (nth (ids3 o a b) (u : Int))
  rw [← take_nth _ h] at ec ef
  have hcl := joinCs_len ho ha hb ((ids3 o a b).take u)
  have hfl := joinFs_len o a b ((ids3 o a b).take u)
  rw [List.length_take] at hcl hfl
  have hw := (oneAt_small ho ha hb (nth (ids3 o a b) (u : Int))).1
  refine ⟨by omega, F123.law _ _ _ _ _ ho ha hb h1 h2 h3 ?_⟩
  generalize nth (ids3 o a b) (u : Int) = i at *
  have inner : ∀ fs : List Feat, fs = joinFs o a b ((ids3 o a b).take (u + 1)) → ∃ (I : List Clash → Int → Prop) (mu : List Clash → Int → Nat), I (joinCs o a b ((ids3 o a b).take u)) 0 ∧ ∀ (xs : List Clash) (k : Int), I xs k →
    (if decide (k < ((oneAt o a b i).2.length : Int)) = true then ((0 : Int) ≤ (u : Int) ∧ (u : Int) < ((ids3 o a b).length : Int)) ∧ ((0 : Int) ≤ k ∧ k < ((oneAt o a b i).2.length : Int)) ∧ (xs.length + ([(⟨i, (nth (oneAt o a b i).2 k)⟩ : Clash)] : List Clash).length ≤ 268435456) ∧ (-9223372036854775808 ≤ k) ∧ I (xs ++ ([(⟨i, (nth (oneAt o a b i).2 k)⟩ : Clash)] : List Clash)) (k + 1) ∧ mu (xs ++ ([(⟨i, (nth (oneAt o a b i).2 k)⟩ : Clash)] : List Clash)) (k + 1) < mu xs k
    else (((oneAt o a b i).2.length : Int) ≤ 9223372036854775807 → I64 ((u : Int) + 1)) ∧ (∃ v : Nat, (u : Int) + 1 = v ∧ v ≤ (ids3 o a b).length ∧ ids3 o a b = ids3 o a b ∧ xs = joinCs o a b ((ids3 o a b).take v) ∧ fs = joinFs o a b ((ids3 o a b).take v)) ∧ ((ids3 o a b).length - ((u : Int) + 1)).toNat < ((ids3 o a b).length - (u : Int)).toNat) := fun fs hfs => by
   generalize (oneAt o a b i).2 = W at *
   refine ⟨fun xs k => ∃ v : Nat, k = v ∧ v ≤ W.length ∧ xs = joinCs o a b ((ids3 o a b).take u) ++ clashAtL i (W.take v), fun _ k => (W.length - k).toNat, ⟨0, rfl, Nat.zero_le _, by simp [clashAtL]⟩, ?_⟩
   rintro _ _ ⟨v, rfl, hv, rfl⟩
   have hwl : (clashAtL i (W.take v)).length ≤ v := by unfold clashAtL; simp; omega
   by_cases g : v < W.length
   ·rw [if_pos (by simpa using g)]
    refine ⟨by omega, by omega, by simp only [List.length_append, List.length_cons, List.length_nil]; omega, by omega, ⟨v + 1, by omega, by omega, ?_⟩, by dsimp only; omega⟩
    rw [take_nth _ g]; unfold clashAtL; rw [List.map_append, List.append_assoc]; rfl
   ·rw [if_neg (by simpa using g)]
    have : v = W.length := by omega
    subst this
    rw [List.take_length]
    exact ⟨fun _ => by unfold I64; omega, ⟨u + 1, by omega, by omega, rfl, ec.symm, hfs⟩, by omega⟩
  rcases Bool.eq_false_or_eq_true (oneAt o a b i).1.has with c | c
  ·rw [if_pos c]
   exact ⟨by simp only [List.length_cons, List.length_nil]; omega, inner _ (by rw [ef, if_pos c])⟩
  ·rw [if_neg (by rw [c]; decide)]
   exact inner _ (by rw [ef, if_neg (by rw [c]; decide), List.append_nil])
 rw [if_neg (by simpa using h)]
 have : u = (ids3 o a b).length := by omega
 subst this
 rw [List.take_length]
 have hs := joinFs_small ho ha hb (ids3 o a b)
 exact F101.law _ _ (by omega) (F76.law _ _ hq)
theorem F42.law (o a b : List Feat) (Q : List Feat → List Clash → Bool → Prop) (h1 : bulk o ≤ 1048576) (h2 : bulk a ≤ 1048576) (h3 : bulk b ≤ 1048576) (hq : Q (sheetJoin o a b).1 (sheetJoin o a b).2.1 (sheetJoin o a b).2.2) : F42.E o a b Q := by
 unfold F42.E
 unfold sheetJoin at hq
 have zq : (sheetOk o && sheetOk a && sheetOk b) = false → Q [] [] false := fun h => by rw [h, if_neg (by decide)] at hq; exact hq
 refine F76.law _ _ ?_
 cases ko : sheetOk o with
 | false => rw [if_pos (by decide)]; exact zq (by rw [ko]; rfl)
 | true =>
 rw [if_neg (by decide)]
 refine F76.law _ _ ?_
 cases ka : sheetOk a with
 | false => rw [if_pos (by decide)]; exact zq (by rw [ko, ka]; rfl)
 | true =>
 rw [if_neg (by decide)]
 refine F76.law _ _ ?_
 cases kb : sheetOk b with
 | false => rw [if_pos (by decide)]; exact zq (by rw [ko, ka, kb]; rfl)
 | true =>
 rw [if_neg (by decide)]
 rw [ko, ka, kb, if_pos (by decide)] at hq
 refine F102.law _ _ _ _ ko ka kb h1 h2 h3 ?_
 cases kj : sheetOk (joinFs o a b (ids3 o a b)) with
 | true => rw [if_neg (by decide)]; rw [kj, if_pos rfl] at hq; exact hq
 | false => rw [if_pos (by decide)]; rw [kj, if_neg (by decide)] at hq; exact hq
section
open Go.RowKit
def F47.E (a : List Clash) (b : List Clash) (Q : Bool → Prop) : Prop :=
 (if (a.length : Int) != (b.length : Int) then Q false else (∃ (I32 : Int → Prop) (mu33 : Int → Nat), I32 0 ∧ ∀ (i2 : Int), I32 i2 → (if decide (i2 < (a.length : Int)) then ((0 : Int) ≤ i2 ∧ i2 < (a.length : Int)) ∧ ((0 : Int) ≤ i2 ∧ i2 < (b.length : Int)) ∧ (if !(eqClash (nth a i2) (nth b i2)) then Q false else (-9223372036854775808 ≤ i2) ∧ I32 (i2 + 1) ∧ mu33 (i2 + 1) < mu33 i2) else Q true)))
end
theorem F47.law (a b : List Clash) (Q : Bool → Prop) (hq : Q (decide (a = b))) : F47.E a b Q := by
 unfold F47.E
 exact eqS_shape eqClash eqClash_is a b Q hq
theorem F10.law (a b : List Clash) (Q : Bool → Prop) (hb : a.length ≤ 1048576) (hq : Q (decide (a = b))) : F10.E a b Q := by
 unfold F10.E
 exact eqI_shape eqClash eqClash_is a b Q hb hq
theorem F43.law (a b : List Clash) (Q : Bool → Prop) (hb : a.length ≤ 1048576) (hq : Q (decide (a = b))) : F43.E a b Q := by
 unfold F43.E
 exact F10.law _ _ _ hb hq
theorem F58.law (s : List Feat) (id : Str) (Q : Feat → Bool → Prop) (hb : bulk s ≤ 1048576) (hq : Q (getOf s id).1 (getOf s id).2) : F58.E s id Q := by
 unfold F58.E
 have hl := bulk_len s
 refine F97.law _ _ _ (by omega) (F74.law _ _ hb ?_)
 unfold getOf at hq
 cases h : sheetOk s with
 | false => rw [if_pos (by decide)]; rw [h, if_neg (by decide)] at hq; exact hq
 | true =>
  rw [if_neg (by decide)]; rw [h, if_pos rfl] at hq
  unfold sideOf at hq
  have hle := findN_le s.length fun j => (nth s (j : Int)).Id == id
  split
  ·rename_i g; rw [if_pos (by simpa using g)] at hq; exact hq
  ·rename_i g
   have g : ¬ findN s.length (fun j => (nth s (j : Int)).Id == id) < 0 := by simpa using g
   rw [if_neg g] at hq
   have hm := nth_memi s (by omega : 0 ≤ findN s.length fun j => (nth s (j : Int)).Id == id) hle.2
   exact ⟨by omega, F36.law _ _ (Nat.le_trans (feat_small ((sheet_ss h).2.2 _ hm)).1 (by decide)) hq⟩
theorem laws_FnSheetWho.gen (code : List UInt8) (Q : Bool → Prop) (hq : Q true) : laws_FnSheetWho.E code Q := by
 unfold laws_FnSheetWho.E
 by_cases c1 : (code.length : Int) > 1048576
 ·rw [if_pos (by simpa using c1)]; exact hq
 rw [if_neg (by simpa using c1)]
 refine F11.law _ _ fun o a b mo ma mb => ?_
 have bo := mo.small; have ba := ma.small; have bb := mb.small
 obtain ⟨s1, s2⟩ := sheetJoin_small o a b
 have cl := bulk_len (sheetJoin o a b).2.1
 refine F41.law _ _ _ _ bo ba bb (F42.law _ _ _ _ bo ba bb ?_)
 refine ⟨fun v => v = !(sheetJoin o a b).2.2, ?_, ?_⟩
 ·rw [if_neg (by simp)]
  refine F43.law _ _ _ (by omega) ?_
  rw [decide_eq_true rfl, if_neg (by decide)]
 rintro _ rfl
 cases k1 : (sheetJoin o a b).2.2 with
 | false =>
  rw [if_pos (by decide), if_pos (by simp)]
  exact F43.law _ _ _ (by omega) (by rw [decide_eq_true rfl]; exact hq)
 | true =>
 rw [if_neg (by decide)]
 obtain ⟨ko, ka, kb, kx, ex⟩ := sheetJoin_of k1
 have bx : bulk (joinFs o a b (ids3 o a b)) ≤ 1048576 := by rw [ex] at s1; exact Nat.le_trans s1 (by decide)
 rw [ex]
 dsimp only
 refine ⟨fun i => 0 ≤ i, fun i => ((([([97] : Str), ([98] : Str), ([99] : Str), ([100] : Str), ([101] : Str), ([122] : Str)] : List Str).length : Int) - i).toNat, Int.le_refl _, fun i hi => ?_⟩
 have hl6 : ([([97] : Str), ([98] : Str), ([99] : Str), ([100] : Str), ([101] : Str), ([122] : Str)] : List Str).length ≤ 6 := by decide
 generalize ([([97] : Str), ([98] : Str), ([99] : Str), ([100] : Str), ([101] : Str), ([122] : Str)] : List Str) = l at *
 by_cases h : i < (l.length : Int)
 case neg => rw [if_neg (by simpa using h)]; exact hq
 rw [if_pos (by simpa using h)]
 refine ⟨by omega, ?_⟩
 have to_ : ThOk _ _ := thOf_ok ko (nth l i)
 have ta : ThOk _ _ := thOf_ok ka (nth l i)
 have tb : ThOk _ _ := thOf_ok kb (nth l i)
 have tx := oneOf_ok to_ ta tb
 refine F58.law _ _ _ bo (F58.law _ _ _ ba (F58.law _ _ _ bb (F58.law _ _ _ bx ?_)))
 rw [getOf_th ko, getOf_th ka, getOf_th kb, getOf_th kx, thOf_join ko ka kb]
 have eo : oneAt o a b (nth l i) = oneOf (thOf o (nth l i)) (thOf a (nth l i)) (thOf b (nth l i)) := rfl
 rw [eo]
 have h1 : thOf a (nth l i) = thOf o (nth l i) → (oneOf (thOf o (nth l i)) (thOf a (nth l i)) (thOf b (nth l i))).1 = thOf b (nth l i) := fun e => by rw [e, oneOf_l]
 have h2 : thOf b (nth l i) = thOf o (nth l i) → (oneOf (thOf o (nth l i)) (thOf a (nth l i)) (thOf b (nth l i))).1 = thOf a (nth l i) := fun e => by rw [e, oneOf_r]
 have h3 := @oneOf_has (thOf o (nth l i)) (thOf a (nth l i)) (thOf b (nth l i))
 have h4 := @oneOf_both (thOf o (nth l i)) (thOf a (nth l i)) (thOf b (nth l i))
 generalize (oneOf (thOf o (nth l i)) (thOf a (nth l i)) (thOf b (nth l i))).1 = X at *
 generalize thOf o (nth l i) = O at *
 generalize thOf a (nth l i) = A at *
 generalize thOf b (nth l i) = B at *
 refine ⟨fun v => v = decide (A = O), thc_same ta rfl, ?_⟩
 rintro _ rfl
 refine ⟨fun v => v = decide (B = O), thc_same tb rfl, ?_⟩
 rintro _ rfl
 refine ⟨fun v => v = false, ?_, ?_⟩
 ·have r2 : (if decide (B = O) = true then (if (X.has != A.has) = true then true = false else F55.E X.f A.f (fun r => (!r) = false)) else False = False) := by
   by_cases e : B = O
   ·rw [if_pos (decide_eq_true e), if_neg (by rw [h2 e]; simp)]
    exact F55.law _ _ _ tx.small.2 (by rw [decide_eq_true (by rw [h2 e])]; rfl)
   ·rw [if_neg (by simpa using e)]
  have r3 : (if decide (B = O) = true then (if (X.has != A.has) = true then true = false else F55.E X.f A.f (fun r => (!r) = false)) else false = false) := by
   by_cases e : B = O
   ·rw [if_pos (decide_eq_true e)] at r2 ⊢; exact r2
   ·rw [if_neg (by simpa using e)]
  by_cases e : A = O
  ·rw [if_pos (decide_eq_true e)]; exact thc_eq tx (h1 e) r3
  ·rw [if_neg (by simpa using e)]; exact r3
 rintro _ rfl
 rw [if_neg (by decide)]
 refine ⟨fun v => v = false, ?_, ?_⟩
 ·clear h1 h2 to_ ta tb tx
  generalize X.has = x at *
  generalize A.has = y at *
  generalize B.has = z at *
  cases x <;> cases y <;> cases z <;> simp at h3 h4 ⊢
 rintro _ rfl
 rw [if_neg (by decide)]
 exact ⟨by unfold I64; omega, by omega, by dsimp only; omega⟩
theorem laws_FnSheetWho.law (code : List UInt8) (_ : ∀ x ∈ code, True) : laws_FnSheetWho.E code (fun r => r = true) := laws_FnSheetWho.gen code _ rfl
end Go.Proofs.YtpdmnmpcjljeaaaGreat
namespace Go.Proofs.YtpdmnmpcjljeaaaGreat.rFnSheetWho
open Go.ChangeShapes Go.WideShapes Go.ChangeAt Go.RowKit
open Go.ChangeMaps (open_string shut_string)
set_option linter.unusedVariables false
theorem own : ownKnob Tryz.prog.godebug = none := by kernel_rfl
theorem laidOut : laidOutB Tryz.prog = true := by kernel_rfl
set_option maxHeartbeats 4000000 in
set_option maxRecDepth 100000 in
theorem lifted (os : Os) (started : os.Started) (H : Type) (enc : TypeId × Value → H) :
    ReturnsInHanded {} Tryz.checked os 5 .any (Rows.fnSheetWhoSpec.pre6 enc Tryz.prog Tryz.f5 Rows.fnSheetWhoRow.domain false) (Rows.fnSheetWhoSpec.post enc Tryz.prog Tryz.f5 false true false false) := by
  refine returnsInHanded_of_change_sized (C := Tryz.checked) own started (by kernel_rfl) Tryz.func5
    (ChangeSpec.witness6 (enc := enc) (C := Tryz.checked) false ⟨#[], #[.slice none 0 0], []⟩ 8 (by kernel_rfl) (by kernel_rfl) (by kernel_rfl) (by kernel_rfl)) ?_
  intro W base args ds gs before hval0 hW hcnd hsz0 _
  have hval : ∀ (j : Nat) t v, Tryz.f5.params[j]? = some t → args[j]? = some v → Value.okWide Tryz.prog W .any base t v := hval0
  have hW' := hW
  obtain ⟨p, q, hA0, hV, rfl, hfz, hnd⟩ := hW
  have hA : DataW.TrodAll enc Tryz.prog W 0 (fun _ => true) true Tryz.f5.params.toList args.toList ds p := hA0
  rw [Tryz.params5] at hA hval
  obtain ⟨v0, vs0, d0, ds0, p0, q0, hargs, rfl, rfl, h0, r0⟩ := trodAll_cons hA
  obtain ⟨rfl, rfl, rfl⟩ := trodAll_nil r0
  obtain rfl : args = #[v0] := by cases args; simp_all
  obtain ⟨rfl, rfl⟩ := trodVars_none hV
  have k0 := h0
  have lt0 : ∀ x ∈ p0, x.block < W.heap.size := by obtain ⟨m, hm⟩ := k0; exact DataW.trod_lt m _ _ _ hm
  obtain ⟨x0, hv0, hx0⟩ : ∃ a : List UInt8, (∀ y0 ∈ a, True) ∧ (Kd.sl Kd.byte).R W (Fr []) a v0.cells.toList := by obtain ⟨fuel, hf⟩ := h0; exact (Tr.sl Tryz.underlying22 (by kernel_rfl) (Tr.byte Tryz.underlying5)) H enc W fuel _ _ hf
  obtain ⟨a0, n0, c0, rfl⟩ := okWide_slice Tryz.underlying22 (hval 0 22 v0 rfl rfl)
  have s0 : Sl Kd.byte W (Fr []) (.slice a0 n0 c0) x0 := by obtain ⟨_, e, h⟩ := hx0; simp [Value.cells] at e; subst e; exact h
  clear hA0 hval0 hsz0
  refine Calls.mono (laws_FnSheetWho.calls W (Ok.nil W) x0 a0 n0 c0 s0 (fun r => r = true) (laws_FnSheetWho.law x0 hv0)) fun e W' ⟨v, he, r, hr, hq, hg⟩ => ?_
  subst he; subst hr; subst hq
  have bel := Gr.below hg
  exact ⟨_, rfl, _, _, _, [], _, [], hW', trodAll_mk1 (shut_bool Tryz.underlying4 _), (trodAll_cons_mk (Below.trod laidOut (by kernel_rfl) (of_decide_eq_true (by kernel_rfl)) k0 bel lt0) trodAll_mk0), rfl, bel.frame _, fun h => by cases h⟩
theorem over : Rows.fnSheetWhoRow.holds Tryz.pinned (OpenSpec.ofChange Rows.fnSheetWhoSpec) :=
  OpenClaim.holds_of_wide 5 Tryz.f5 rfl rfl rfl rfl rfl rfl rfl ⟨rfl, rfl, rfl, rfl, rfl⟩ rfl rfl rfl rfl rfl (by kernel_rfl) Tryz.func5 (by kernel_rfl)
    (of_decide_eq_true (by kernel_rfl)) (by unfold Func.isWrapper; first | (rw [if_pos (by decide +kernel)]; kernel_rfl) | (rw [if_neg (by decide +kernel)]; exact ⟨rfl, rfl⟩))
    (fun os started H enc _ => lifted os started H enc)
theorem proved : Rows.FnSheetWhoSaid := over
#print axioms proved
end Go.Proofs.YtpdmnmpcjljeaaaGreat.rFnSheetWho
namespace Go.Proofs.YtpdmnmpcjljeaaaGreat
theorem fnSheetWho_holds : Rows.FnSheetWhoSaid := rFnSheetWho.proved
end Go.Proofs.YtpdmnmpcjljeaaaGreat